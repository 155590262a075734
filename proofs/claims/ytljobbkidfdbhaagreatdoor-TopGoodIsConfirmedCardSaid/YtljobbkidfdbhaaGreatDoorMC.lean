/-
 What is proved here: owned objects of data,and what operations do to them,with what must hold so that they do it. No program in sight; no condition.
-/
import Derived.Test.YtljobbkidfdbhaaGreatDoorMB
import Derived.Eval
import Derived.KernelRfl
set_option linter.all false
open Bool renaming and_eq_true→ax,false_eq_true→k_,not_eq_true'→l_,or_eq_true→wK,eq_iff_iff→oN
open ByteArray renaming empty→wu
open Decidable renaming byContradiction→AR
open Function renaming comp→Ho
open Go.Op renaming operands→eU
open Go.Utf8 renaming decode→nf
open Go.Value.slice renaming injEq→jQ
open List renaming getElem?_append_left→cI,length_map→dJ,mem_map→dD,getElem?_map→bZ,mem_filterMap→GX,getElem_of_mem→oG,getElem?_eq_getElem→bI,mem_of_getElem?→eT,getElem?_append_right→iz,getElem?_set_ne→aQ,all_eq_true→cM,getD_eq_getElem?_getD→cf,getElem?_drop→qd,mem_cons→bW,map_cons→du,take_append_drop→s9,length_append→fb,mem_append→cS,replicate→bM,all_cons→l5,mem_cons_self→cW,mem_cons_of_mem→c9,take_of_length_le→QS,map_append→kA,findIdx?_cons→Ha,nodup_cons→l8,getElem?_inj→AO,map_set→te,headD_cons→wM,length_nil→ma,map_nil→tf,length→Hp
open Nat renaming le_refl→aB,lt_of_lt_of_le→dn,zero_le→er,lt_or_ge→jq,zero_add→cP,sub_zero→ga,beq→ad,eq_of_beq_eq_true→br,sub_self→ng,ble→c_,blt→fe,ble_eq→qn,blt_eq→kC,le_of_ble_eq_true→th,mul_one→aeU,lt_succ_of_lt→wN,lt_succ_self→aeV,lt_irrefl→qo
open Option renaming map_eq_some_iff→dQ,isSome_none→G6,map_some→eJ,map_none→wL,isSome_some→Hm,map_map→Hn
open Option.some renaming injEq→aV,inj→gg
open Prod.mk renaming injEq→ba
namespace Go.AL
open Go
variable [Dr]
def az:Int→Bool
 |.ofNat _=>true
 |.negSucc _=>false
def be:Int→Int→Bool
 |.ofNat x,.ofNat y=>c_ x y
 |.ofNat _,.negSucc _=>false
 |.negSucc _,.ofNat _=>true
 |.negSucc x,.negSucc y=>c_ y x
def aj:Int→Int→Bool
 |.ofNat x,.ofNat y=>fe x y
 |.ofNat _,.negSucc _=>false
 |.negSucc _,.ofNat _=>true
 |.negSucc x,.negSucc y=>fe y x
def ao(n:Int):Bool:=be (-9223372036854775808) n&&be n 9223372036854775807
theorem jz(n:Int):az n=decide (0≤n):=by
 cases n with
 |ofNat x=>simp[az]
 |negSucc x=>simp[az]
theorem eu(a b:Int):be a b=decide (a≤b):=by
 rw[oN];cases a<;>cases b<;>simp[be,qn]<;>(try omega)
theorem dm(a b:Int):aj a b=decide (a<b):=by
 rw[oN];cases a<;>cases b<;>simp[aj,kC]<;>(try omega)
theorem kP{n:Int}:ao n=true ↔ -9223372036854775808≤n∧n≤9223372036854775807:=by
 simp[ao,eu]
def g0(r:List G):G:=r.headD default
def gi:List G→Nat→G
 |r,0=>r.headD default
 |r,i+1=>gi r.tail i
def G.row(g:G):List G:=g.rows.headD []
def pg:Kd→G→G→Bool
 |.int _,a,b=>a.int==b.int
 |.str,a,b=>a.str.toList==b.str.toList
 |.bool,a,b=>a.bool==b.bool
 |.list _,_,_=>false
def aR:List Kd→List G→List G→Bool
 | [],_,_=>true
 |k::ks,r,s=>pg k (r.headD default) (s.headD default)&&aR ks r.tail s.tail
inductive Ct where
 |one (k:Kd)
 |agg (ks:List Kd)
 deriving Inhabited
def Ct.ks:Ct→List Kd
 |.one k=>[k]
 |.agg ks=>ks
def Ct.av:Ct→List G→AV
 |.one k,r=>iB k (r.headD default)
 |.agg ks,r=>.agg (aK ks r)
theorem Ct.tZ(k:Ct)(r:List G):(k.av r).closed=true:=by
 cases k with
 |one k=>cases k<;>rfl
 |agg ks=>simp only[Ct.av,AV.closed,fE]
inductive ah where
 |raw (o:ab)
 |vec (ks:List Kd) (ae:Nat) (rows:List (List G))
 |map (K V:Ct) (rows:List (List G)) (clock:Nat)
 |aG (l:Nat) (K:Ct) (ks:List Kd) (rows:List (List G)) (clock:Nat)
 |mm (l:Nat) (K KI VI:Ct) (rows mem:List (List G)) (clock:Nat)
def da(K V:Ct)(rows:List (List G)):List (AV × AV × Nat):=rows.map fun r=>(K.av (gi r 0).row,V.av (gi r 1).row,(gi r 2).int.toNat)
def j0(r:List G):List (List G):=((gi r 1).row.headD default).rows
def jA(K:Ct)(ks:List Kd)(r:List G):AV × Option (List (List AV)) × Nat:=(K.av (gi r 0).row,(bif (gi r 3).bool then some ((j0 r).map (aK ks)) else none),(gi r 2).int.toNat)
def fU(K:Ct)(ks:List Kd)(rows:List (List G)):List (AV × Option (List (List AV)) × Nat):=rows.map (jA K ks)
def ph(r:List G):Option Nat:=bif be 0 (gi r 1).int then some (gi r 1).int.toNat else none
def h_(K:Ct)(rows:List (List G)):List (AV × Option Nat × Nat):=rows.map fun r=>(K.av (gi r 0).row,ph r,(gi r 2).int.toNat)
def nE(KI VI:Ct)(mem:List (List G)):List (List (AV × AV × Nat) × Nat):=mem.map fun m=>(da KI VI (gi m 0).rows,(gi m 1).int.toNat)
def ah.den:ah→ab
 |.raw o=>o
 |.aG l K ks rows clock=>.aG l ks.length (fU K ks rows) clock
 |.map K V rows clock=>.map (da K V rows) clock
 |.mm l K KI VI rows mem clock=>.mm l (h_ K rows) (nE KI VI mem) clock
 |.vec ks ae rows=>.vec ks.length ae (rows.map (aK ks))
def ak(H:List ah):List ab:=H.map ah.den
structure al where
 fr:List AV
 H:List ah
def al.den(s:al):St:=⟨s.fr,ak s.H⟩
def al.eval(s:al)(o:Operand):AV:=St.eval ⟨s.fr,[]⟩ o
def al.put(s:al)(dst:Option Tmp)(v:AV)(H':List ah):al:=⟨iV s.fr dst v,H'⟩
theorem al.kQ(s:al):s.den.eval=s.eval:=by
 funext o
 cases o<;>rfl
theorem bh{H:List ah}{id:Nat}{o:ah}(h:H[id]? = some o):(ak H)[id]? = some o.den:=by simp[ak,h]
theorem c7(H:List ah)(id:Nat)(o:ah):ak (H.set id o)=(ak H).set id o.den:=by simp[ak,te]
theorem gM(H:List ah)(o:ah):ak (H++[o])=ak H++[o.den]:=by simp[ak]
theorem ev(H:List ah):(ak H).length=H.length:=by simp[ak]
mutual
def Kd.same:Kd→Kd→Bool
 |.int k,.int k'=>decide (k=k')
 |.str,.str=>true
 |.bool,.bool=>true
 |.list ks,.list d=>Kd.gl ks d
 |_,_=>false
def Kd.gl:List Kd→List Kd→Bool
 | [],[]=>true
 |k::ks,k'::d=>k.same k'&&Kd.gl ks d
 |_,_=>false
end
mutual
theorem Kd.jB:∀{k k':Kd},k.same k'=true→k=k'
 |.int k,.int k',h=>by simp[Kd.same]at h; rw[h]
 |.str,.str,_=>rfl
 |.bool,.bool,_=>rfl
 |.list ks,.list d,h=>by simp only[Kd.same]at h; rw[Kd.iH h]
 |.int _,.str,h | .int _,.bool,h | .int _,.list _,h | .str,.int _,h | .str,.bool,h | .str,.list _,h=>by simp[Kd.same]at h
 |.bool,.int _,h | .bool,.str,h | .bool,.list _,h | .list _,.int _,h | .list _,.str,h | .list _,.bool,h=>by simp[Kd.same]at h
theorem Kd.iH:∀{k k':List Kd},Kd.gl k k'=true→k=k'
 | [],[],_=>rfl
 |k::ks,k'::d,h=>by simp only[Kd.gl,ax]at h; rw[Kd.jB h.1,Kd.iH h.2]
 | [],_::_,h|_::_,[],h=>by simp[Kd.gl]at h
end
def Ct.same:Ct→Ct→Bool
 |.one k,.one k'=>k.same k'
 |.agg ks,.agg d=>Kd.gl ks d
 |_,_=>false
theorem Ct.jB{K d:Ct}(h:K.same d=true):K=d:=by
 cases K<;>cases d<;>simp only[Ct.same]at h
 ·rw[Kd.jB h]
 ·cases h
 ·cases h
 ·rw[Kd.iH h]
def t_:Kd→AV→Option G
 |.int k,.lit (.int k' n)=>if k=k' then some (.i n) else none
 |.str,.lit (.string s)=>some (.s s)
 |.bool,.lit (.bool b)=>some (.t b)
 |.list ks,.listF d rows=>if Kd.gl ks d then some (.l rows) else none
 |_,_=>none
def fK:List Kd→List AV→Option (List G)
 | [],[]=>some []
 | k::ks,a::as=>match t_ k a,fK ks as with
  |some g,some gs=>some (g::gs)
  |_,_=>none
 |_,_=>none
def bu(ks:List Kd):List (List AV)→Option (List (List G))
 | []=>some []
 | r::rs=>match fK ks r,bu ks rs with
  |some g,some gs=>some (g::gs)
  |_,_=>none
theorem B9{k:Kd}{a:AV}{g:G}(h:t_ k a=some g):iB k g=a:=by
 unfold t_ at h;split at h
 ·split at h
  ·rename_i e; cases h; subst e; rfl
  ·cases h
 ·cases h; rfl
 ·cases h; rfl
 ·split at h
  ·rename_i e; cases h; rw[Kd.iH e]; rfl
  ·cases h
 ·cases h
theorem j5:∀{ks:List Kd} {as:List AV} {gs:List G},fK ks as=some gs→aK ks gs=as
 | [],[],_,h=>by simp[fK]at h; subst h; rfl
 | k::ks,a::as,gs,h=>by
  simp only[fK]at h;split at h
  ·rename_i g q h1 d
   cases h;simp[aK,B9 h1,j5 d]
  ·cases h
 | [],_::_,_,h|_::_,[],_,h=>by simp[fK]at h
theorem I':∀{ks:List Kd} {as:List AV} {gs:List G},fK ks as=some gs→gs.length=ks.length∧as.length=ks.length
 | [],[],_,h=>by simp[fK]at h; subst h; exact⟨rfl,rfl⟩
 | k::ks,a::as,gs,h=>by
  simp only[fK]at h;split at h
  ·rename_i g q h1 d
   cases h;have:=I' d;simp[this.1,this.2]
  ·cases h
 | [],_::_,_,h|_::_,[],_,h=>by simp[fK]at h
theorem pj{ks:List Kd}:∀{rs:List (List AV)} {gs:List (List G)},bu ks rs=some gs→gs.map (aK ks)=rs
 | [],_,h=>by simp[bu]at h; subst h; rfl
 | r::rs,gs,h=>by
  simp only[bu]at h;split at h
  ·rename_i g k h1 d
   cases h;simp[j5 h1,pj d]
  ·cases h
def ua:AV→Option Kd
 |.lit (.int k _)=>some (.int k)
 |.lit (.string _)=>some .str
 |.lit (.bool _)=>some .bool
 |.listF ks _=>some (.list ks)
 |_=>none
def pk:List AV→Option (List Kd)
 | []=>some []
 | a::as=>match ua a,pk as with
  |some k,some ks=>some (k::ks)
  |_,_=>none
def nF:List Kd→List G→List G
 | [],_=>[]
 |_::ks,r=>r.headD default::nF ks r.tail
theorem B_:∀(ks:List Kd) (r:List G),(nF ks r).length=ks.length
 | [],_=>rfl
 |_::ks,r=>by simp[nF,B_ ks]
def bf(ks:List Kd)(r:List G)(col:Nat)(gs:List G):List G:=(nF ks r).take col++gs++(nF ks r).drop (col+gs.length)
theorem Ja:∀(ks:List Kd) (r:List G) (n:Nat),(aK ks r).take n=aK (ks.take n) r
 | [],_,n=>by simp[aK]
 |_::_,_,0=>by simp[aK]
 |k::ks,r,n+1=>by simp[aK,Ja ks]
theorem Jb:∀(ks:List Kd) (r:List G) (n:Nat),(aK ks r).drop n=aK (ks.drop n) (r.drop n)
 | [],_,n=>by simp[aK]
 |_::_,_,0=>by simp
 |k::ks,r,n+1=>by simp[aK,Jb ks]
theorem Ca:∀(ks d:List Kd) (r r':List G),r.length=ks.length→aK (ks++d) (r++r')=aK ks r++aK d r'
 | [],d,r,r',h=>by
  have:r=[]:=List.length_eq_zero_iff.1 h;subst this;simp[aK]
 | k::ks,d,r,r',h=>by
  cases r with
  |nil=>simp at h
  |cons x r=>simp[aK,Ca ks d r r' (by simpa using h)]
theorem Cb:∀(ks:List Kd) (r:List G),aK ks (nF ks r)=aK ks r
 | [],_=>rfl
 |k::ks,r=>by simp[aK,nF,Cb ks]
theorem Tj{ks:List Kd}{r gs:List G}{cs:List AV}{col:Nat} (h:fK ((ks.drop col).take cs.length) cs=some gs) (u:col+cs.length≤ks.length) :
  aK ks (bf ks r col gs)=putCells (aK ks r) cs col:=by
 obtain⟨h1,v⟩:=I' h;have hlen:((ks.drop col).take cs.length).length=cs.length:=by simp; omega
 have g:gs.length=cs.length:=by omega
 have hk:ks=(ks.take col++(ks.drop col).take cs.length)++ks.drop (col+cs.length):=by
  rw[List.append_assoc,←List.drop_drop,s9,s9]
 unfold bf putCells;have d:=B_ ks r
 conv=>lhs; arg 1; rw[hk]
 rw[Ca _ _ _ _ (by simp[d,g]; omega),Ca _ _ _ _ (by simp[d]),j5 h,g];congr 1
 ·congr 1
  rw[←Cb ks r,Ja];have:∀(ks:List Kd) (r:List G) (n:Nat),ks.length≤n→aK ks (r.take n)=aK ks r:=by
   intro ks
   induction ks with
   |nil=>intros; rfl
   | cons k ks q =>
    intro r n d;cases n with
    |zero=>simp at d
    | succ n =>
     cases r with
     |nil=>rfl
     |cons x r=>simp[aK,q r n (by simpa using d)]
  exact this _ _ _ (by simp; omega)
 ·conv => rhs; rw [← Cb ks r]
  rw[Jb]
end Go.AL

namespace Go.AL
open Go
variable [Dr]
theorem Cc{ks:List Kd}{rows:List (List G)}{row:Nat}(h:row<rows.length):(rows.map (aK ks))[row]? = some (aK ks (rows.getD row [])):=by
 rw[bZ,cf,bI h];rfl
def Cd(P:Program)(t:TypeId)(x:AV)(H:List ah):Option (Bool × AV) :=
 match x with
 | .ptr id ae w row col=>match H[id]? with
  | some (.vec ks v rows)=>match eL P t with
   | some (n,agg)=>if ae=v∧ks.length=w then (match gI agg n ((aK ks (rows.getD row [])).drop col) with
     |some u=>some (decide (row<rows.length),u)
     |none=>none) else none
   |none=>none
  | some (.raw (.box cells))=>match eL P t with
   | some (n,agg)=>if ae=0∧row=0 then (match gI agg n (cells.drop col) with
     |some u=>some (true,u)
     |none=>none) else none
   |none=>none
  |_=>none
 | .cptr cells=>match eL P t with
  | some (n,agg)=>match gI agg n cells with
   |some u=>some (true,u)
   |none=>none
  |none=>none
 |_=>none
theorem Tk{P:Program}{t:TypeId}{x:AV}{H:List ah}{b:Bool}{u:AV}(h:Cd P t x H=some (b,u))(hb:b=true):gU P t x (ak H)=some u:=by
 unfold Cd at h;unfold gU;split at h
 ·rename_i id ae w row col
  split at h
  ·rename_i ks v rows hid
   split at h
   case h_2=>cases h
   rename_i n agg d;split at h
   case isFalse=>cases h
   rename_i k;split at h
   case h_2=>cases h
   rename_i q g;simp only[aV,ba]at h;obtain⟨h1,rfl⟩:=h;subst hb;simp only[decide_eq_true_eq]at h1;rw[d];simp only[bh hid,ah.den];rw[if_pos ⟨k.1,k.2⟩,Cc h1];exact g
  ·rename_i cells hid
   split at h
   case h_2=>cases h
   rename_i n agg d;split at h
   case isFalse=>cases h
   rename_i k;split at h
   case h_2=>cases h
   rename_i q g;cases h;rw[d];simp only[bh hid,ah.den];rw[if_pos k];exact g
  ·cases h
 ·rename_i cells
  split at h
  case h_2=>cases h
  rename_i n agg d;split at h
  case h_2=>cases h
  rename_i q g;cases h;rw[d];exact g
 ·cases h
def qY(P:Program)(t:TypeId)(x v:AV)(H:List ah):Option (Bool × List ah) :=
 match eL P t,oT v,x with
 | some (n,_),some cs,.ptr id ae w row col =>
  if cs.length=n then
   match H[id]? with
   |some (.raw (.box cells))=>if ae=0∧row=0∧col+n≤cells.length then some (true,H.set id (.raw (.box (putCells cells cs col)))) else none
   | some (.vec ks u rows) =>
    if ae=u∧ks.length=w∧col+cs.length≤ks.length then
     match fK ((ks.drop col).take cs.length) cs with
     |some gs=>some (decide (row<rows.length),H.set id (.vec ks u (rows.set row (bf ks (rows.getD row []) col gs))))
     |none=>none
    else none
   |_=>none
  else none
 |_,_,_=>none
theorem Jc{P:Program}{t:TypeId}{x v:AV}{H H':List ah}{b:Bool}(h:qY P t x v H=some (b,H'))(hb:b=true):qI P t x v (ak H)=some (ak H'):=by
 unfold qY at h;unfold qI;split at h
 case h_2=>cases h
 rename_i n J cs id ae w row col y k;rw[y,k];simp only[];split at h
 case isFalse=>cases h
 rename_i B;rw[if_pos B];split at h
 ·rename_i cells hid
  split at h
  case isFalse=>cases h
  rename_i d;cases h;simp only[bh hid,ah.den];rw[if_pos d,c7];rfl
 ·rename_i ks u rows hid
  split at h
  case isFalse=>cases h
  rename_i d;obtain⟨c1,c2,I⟩:=d;split at h
  case h_2=>cases h
  rename_i gs g;simp only[aV,ba]at h;obtain⟨h1,rfl⟩:=h;subst hb;simp only[decide_eq_true_eq]at h1;simp only[bh hid,ah.den];have q:AV.bp cs=true:=by rw[←j5 g]; exact fE _ _
  rw[if_pos ⟨c1,c2,q⟩,Cc h1];simp only[qp];rw[if_pos (by omega),c7];simp only[ah.den,te];rw[Tj g I]
 ·cases h
def ub(sz:Nat)(x:AV)(H:List ah)(want:Option (List Kd)):Option (Bool × List Kd × List (List G)) :=
 match x with
 | .nils | .lit (.slice none 0 0)=>match want with
  |some ks=>some (true,ks,[])
  |none=>none
 | .emptyS _=>match want with
  |some ks=>some (true,ks,[])
  |none=>none
 |.listF ks rows=>if ks.length=sz then some (true,ks,rows) else none
 | .list w rows=>match (match want with | some ks=>some ks | none=>pk (rows.headD [])) with
  | some ks=>match bu ks rows with
   |some gs=>if w=sz then some (true,ks,gs) else none
   |none=>none
  |none=>none
 | .vec w id ae off n=>match H[id]? with
  |some (.vec ks v rows)=>if w=sz∧ks.length=w∧v=ae∧off=0 then some (ad n rows.length,ks,rows) else none
  |_=>none
 |.lit (.string s)=>if sz=1 then some (true,[.int .u8],s.data.toList.map fun b=>[.i b.toNat]) else none
 |_=>none
theorem Jd{sz:Nat}{x:AV}{H:List ah}{want:Option (List Kd)}{b:Bool}{ks:List Kd}{rows:List (List G)}(h:ub sz x H want=some (b,ks,rows))(hb:b=true) :
  kL sz x (ak H)=some (rows.map (aK ks)):=by
 unfold ub at h;split at h
 ·split at h
  ·cases h; rfl
  ·cases h
 ·split at h
  ·cases h; rfl
  ·cases h
 ·split at h
  ·cases h; rfl
  ·cases h
 ·split at h
  ·rename_i hw; cases h; simp only[kL]; rw[if_pos hw]
  ·cases h
 ·split at h
  ·split at h
   ·rename_i gs d
    split at h
    ·rename_i hw; cases h; simp only[kL]; rw[if_pos hw,pj d]
    ·cases h
   ·cases h
  ·cases h
 ·rename_i w id ae off n
  split at h
  ·rename_i u v rows' hid
   split at h
   ·rename_i g
    obtain⟨c1,c2,k,rfl⟩:=g;simp only[aV,ba]at h;obtain⟨h1,rfl,rfl⟩:=h;subst hb;have h1:=br h1;simp only[kL,bh hid,ah.den];rw[if_pos ⟨c1,c2,k,by simp; omega⟩];simp only[List.drop_zero];rw[QS (by simp; omega)]
   ·cases h
  ·cases h
 ·rename_i s
  split at h
  ·rename_i q
   cases h;simp only[kL];rw[if_pos q];simp[aK,iB,G.int]
  ·cases h
 ·cases h
def Ce:SK→Bool
 |.slice _ _ _ | .str=>true
 |_=>false
theorem Cf{P:Program}{t xt:TypeId}{s x:AV}{H:List ab}{e sz d:Nat}{z:List Value}{new:List (List AV)}(hk:b9 P t=.slice e sz d)(h:dV P e=some z)
  (g : Ce (b9 P xt) = true) (q : kL sz x H = some new) (u : z.length = sz ∧ new.length ≤ 1048576 ∧ d ≤ 1048576) : qG P t xt s x H =
   match s with
    |.nils | .lit (.slice none 0 0)=>some (.vec sz H.length 0 0 new.length,H++[.vec sz 0 new])
    | .vec w id ae off n=>match H[id]? with
     | some (.vec k v rows) =>
      if k=w∧w=sz∧v=ae∧off=0∧n=rows.length∧rows.length+new.length≤1048576 then
       some (.vec w id (ae+1) 0 (n+new.length),H.set id (.vec k (ae+1) (rows++new)))
      else none
     |_=>none
    |_=>none:=by
 unfold qG;simp only[hk,h,q];cases y:b9 P xt<;>simp only[y,Ce]at g⊢<;>first
  |(cases g; done)
  |(rw[if_pos u]; rfl)
def xM(sz:Nat)(x:AV)(H:List ah)(z:List Value):Option (Bool × List Kd × List (List G)) :=
 match x with
 |.emptyS _=>ub sz x H (pk (z.map .lit))
 |_=>ub sz x H none
theorem Tl{sz:Nat}{x:AV}{H:List ah}{z:List Value}{b:Bool}{ks:List Kd}{rows:List (List G)}(h:xM sz x H z=some (b,ks,rows))(hb:b=true) :
  kL sz x (ak H)=some (rows.map (aK ks)):=by
 unfold xM at h;split at h<;>exact Jd h hb
def uc(P:Program)(t xt:TypeId)(s x:AV)(H:List ah):Option (Bool × AV × List ah) :=
 match b9 P t with
 | .slice e sz d =>
  match dV P e,Ce (b9 P xt)with
  | some z,true =>
   if z.length=sz∧d≤1048576 then
    match s with
    | .nils | .lit (.slice none 0 0)=>match xM sz x H z with
     |some (b,ks,new)=>if ks.length=sz then some (b&&decide (new.length≤1048576),.vec sz H.length 0 0 new.length,H++[.vec ks 0 new]) else none
     |none=>none
    | .vec w id ae off n=>match H[id]? with
     | some (.vec ks v rows)=>match ub sz x H (some ks) with
      | some (b,g,new) =>
       if ks.length=w∧w=sz∧v=ae∧off=0∧Kd.gl ks g=true then
        some (b&&(ad n rows.length&&decide (rows.length+new.length≤1048576)),.vec w id (ae+1) 0 (rows++new).length,H.set id (.vec ks (ae+1) (rows++new)))
       else none
      |none=>none
     |_=>none
    |_=>none
   else none
  |_,_=>none
 |_=>none
theorem Tm{P:Program}{t xt:TypeId}{s x v:AV}{H H':List ah}{b:Bool}(h:uc P t xt s x H=some (b,v,H'))(hb:b=true) :
  qG P t xt s x (ak H)=some (v,ak H'):=by
 unfold uc at h;split at h
 case h_2=>cases h
 rename_i e sz V hk;split at h
 case h_2=>cases h
 rename_i z q k;split at h
 case isFalse=>cases h
 rename_i I;obtain⟨c1,c2⟩:=I;have fresh:∀{b1:Bool} {ks:List Kd} {new:List (List G)},xM sz x H z=some (b1,ks,new) →
   (if ks.length=sz then some (b1&&decide (new.length≤1048576),AV.vec sz H.length 0 0 new.length,H++[ah.vec ks 0 new]) else none)=some (b,v,H') →
   ∃ rows,kL sz x (ak H)=some rows∧rows.length≤1048576∧v=.vec sz (ak H).length 0 0 rows.length∧ak H'=ak H++[.vec sz 0 rows]:=by
  intro b1 ks new d h;split at h
  case isFalse=>cases h
  rename_i B;simp only[aV,ba]at h;obtain⟨h1,rfl,rfl⟩:=h;subst hb;simp only[ax,decide_eq_true_eq]at h1;refine⟨_,Tl d h1.1,by simpa using h1.2,by simp[ev],?_⟩;rw[gM,ah.den,B]
 split at h
 ·split at h
  case h_2=>cases h
  rename_i b1 ks new d;obtain⟨rows,g1,g2,g3,g4⟩:=fresh d h;rw[Cf hk q k g1 ⟨c1,g2,c2⟩,g3,g4]
 ·split at h
  case h_2=>cases h
  rename_i b1 ks new d;obtain⟨rows,g1,g2,g3,g4⟩:=fresh d h;rw[Cf hk q k g1 ⟨c1,g2,c2⟩,g3,g4];rfl
 ·rename_i w id ae off n
  split at h
  case h_2=>cases h
  rename_i ks vv rows hid;split at h
  case h_2=>cases h
  rename_i b1 W new d;split at h
  case isFalse=>cases h
  rename_i J;obtain⟨y,M,N,O,u⟩:=J;have u:=Kd.iH u;subst u;simp only[aV,ba]at h;obtain⟨h1,rfl,rfl⟩:=h;subst hb;simp only[ax,decide_eq_true_eq]at h1;obtain⟨h1,g,U⟩:=h1;have g:=br g;rw[Cf hk q k (Jd d h1) ⟨c1,by simp; omega,c2⟩];simp only[dJ,bh hid,ah.den];rw[if_pos ⟨y,M,N,O,g,U⟩,c7];simp only[ah.den,kA,fb,g,y]
 ·cases h
def nG(len:Nat)(lo hi:Option AV):Option (Bool × Nat × Nat) :=
 match lo,hi with
 |none,none=>some (true,0,len)
 |some (.lit (.int _ l)),none=>some (az l&&be l (len:Int),l.toNat,len)
 |none,some (.lit (.int _ h))=>some (az h&&be h (len:Int),0,h.toNat)
 |some (.lit (.int _ l)),some (.lit (.int _ h))=>some (az l&&(be l h&&be h (len:Int)),l.toNat,h.toNat)
 |_,_=>none
theorem xN{len:Nat}{lo hi:Option AV}{b:Bool}{l h:Nat}(d:nG len lo hi=some (b,l,h))(hb:b=true):fR len lo hi=some (l,h):=by
 unfold nG at d;split at d
 ·cases d; simp[fR]
 ·rename_i l'
  simp only[aV,ba]at d;obtain⟨h1,rfl,rfl⟩:=d;subst hb;simp only[jz,eu,ax,decide_eq_true_eq]at h1;simp[fR,jU,h1.1,h1.2]
 ·rename_i h'
  simp only[aV,ba]at d;obtain⟨h1,rfl,rfl⟩:=d;subst hb;simp only[jz,eu,ax,decide_eq_true_eq]at h1;simp[fR,jU,h1.1,h1.2]
 ·rename_i l' _ h'
  simp only[aV,ba]at d;obtain⟨h1,rfl,rfl⟩:=d;subst hb;simp only[jz,eu,ax,decide_eq_true_eq]at h1;simp[fR,jU,h1.1,h1.2.1,h1.2.2]
 ·cases d
def qZ(rows:List (List G))(lo hi:Option AV)(l h:Nat):List (List G) :=
 match lo,hi with
 |none,none=>rows
 |some _,none=>rows.drop l
 |none,some _=>rows.take h
 |some _,some _=>(rows.drop l).take (h-l)
theorem Je{rows:List (List G)}{lo hi:Option AV}{b:Bool}{l h:Nat}(d:nG rows.length lo hi=some (b,l,h)):qZ rows lo hi l h=(rows.drop l).take (h-l):=by
 unfold nG at d;split at d
 ·cases d; simp[qZ]
 ·simp only [aV, ba] at d
  obtain⟨h1,rfl,rfl⟩:=d;simp only[qZ];rw[QS (by simp)]
 ·simp only [aV, ba] at d
  obtain⟨h1,rfl,rfl⟩:=d;simp[qZ]
 ·rfl
 ·cases d
def Cg(P:Program)(t:TypeId)(x:AV)(lo hi mx:Option AV):Option (Bool × AV) :=
 match mx with
 | some _=>match kJ P t x lo hi mx with
  |some v=>some (true,v)
  |none=>none
 | none=>match b9 P t,x with
  | .str,.lit (.string s)=>match nG s.size lo hi with
   |some (b,l,h)=>some (b,.lit (.string (s.extract l h)))
   |none=>none
  | .slice _ sz _,.listF ks rows=>match nG rows.length lo hi with
   |some (b,l,h)=>if ks.length=sz then some (b,.listF ks (qZ rows lo hi l h)) else none
   |none=>none
  | .slice _ sz _,.vec w id ae off n=>match nG n lo hi with
   |some (b,l,h)=>if w=sz then some (b,.vec w id ae (off+l) (h-l)) else none
   |none=>none
  | .slice _ sz _,.list w rows=>match w,qA rows with
   | 1,some gs=>match nG gs.length lo hi with
    |some (b,l,h)=>if 1=sz then some (b,.listF [.str] (qZ gs lo hi l h)) else none
    |none=>none
   | _,_=>match kJ P t x lo hi none with
    |some v=>some (true,v)
    |none=>none
  | _,_=>match kJ P t x lo hi none with
   |some v=>some (true,v)
   |none=>none
theorem Tn{P:Program}{t:TypeId}{x v:AV}{lo hi mx:Option AV}{b:Bool}(h:Cg P t x lo hi mx=some (b,v))(hb:b=true):kJ P t x lo hi mx=some v:=by
 unfold Cg at h;split at h
 ·split at h
  ·rename_i u hu; cases h; exact hu
  ·cases h
 ·split at h
  ·rename_i s hk
   split at h
   case h_2=>cases h
   rename_i k l q d;simp only[aV,ba]at h;obtain⟨h1,rfl⟩:=h;subst h1;simp[kJ,hk,xN d hb]
  ·rename_i e sz y ks rows hk
   split at h
   case h_2=>cases h
   rename_i k l q d;split at h
   case isFalse=>cases h
   rename_i g;simp only[aV,ba]at h;obtain⟨h1,rfl⟩:=h;subst h1;simp[kJ,hk,xN d hb,g,Je d]
  ·rename_i e sz y w id ae off n hk
   split at h
   case h_2=>cases h
   rename_i k l q d;split at h
   case isFalse=>cases h
   rename_i g;simp only[aV,ba]at h;obtain⟨h1,rfl⟩:=h;subst h1;simp[kJ,hk,xN d hb,g]
  ·rename_i e sz y w rows hk
   split at h
   ·rename_i gs B
    split at h
    case h_2=>cases h
    rename_i k l q d;split at h
    case isFalse=>cases h
    rename_i g;simp only[aV,ba]at h;obtain⟨h1,rfl⟩:=h;subst h1;subst g;have I:rows.length=gs.length:=by rw[←Bd B,dJ]
    simp[kJ,hk,I,xN d hb,Je d,xa,B]
   ·split at h
    ·rename_i u hu; cases h; exact hu
    ·cases h
  ·split at h
   ·rename_i u hu; cases h; exact hu
   ·cases h
def ud(P:Program)(t:TypeId)(l c:AV)(H:List ah):Option (Bool × AV × List ah) :=
 match b9 P t,l,c with
 | .slice e sz d,.lit (.int _ l),.lit (.int _ c) =>
  match dV P e with
  | some z=>match pk (xn P e z) with
   | some ks=>match fK ks (xn P e z) with
    | some gs=>if z.length=sz∧0<sz∧d≤1048576∧ks.length=sz then
      some (az l&&(be l c&&be c 1048576),.vec sz H.length 0 0 l.toNat,H++[.vec ks 0 (bM l.toNat gs)]) else none
    |none=>none
   |none=>none
  |none=>none
 |_,_,_=>none
theorem To{P:Program}{t:TypeId}{l c v:AV}{H H':List ah}{b:Bool}(h:ud P t l c H=some (b,v,H'))(hb:b=true) :
  tJ P t l c (ak H)=some (v,ak H'):=by
 unfold ud at h;unfold tJ;split at h
 case h_2=>cases h
 rename_i e sz y _ l _ c hk;rw[hk];simp only[];split at h
 case h_2=>cases h
 rename_i z g;split at h
 case h_2=>cases h
 rename_i ks B;split at h
 case h_2=>cases h
 rename_i gs d;split at h
 case isFalse=>cases h
 rename_i k;obtain⟨c1,c2,q,u⟩:=k;simp only[aV,ba]at h;obtain⟨h1,rfl,rfl⟩:=h;subst hb;simp only[jz,eu,ax,decide_eq_true_eq]at h1;rw[g];simp only[];rw[if_pos ⟨c1,c2,h1.1,h1.2.1,h1.2.2,q⟩,gM,ev,ah.den,u,List.map_replicate,j5 d]
def ue(P:Program)(t:TypeId)(n:Nat)(parts:List (Nat × AV))(H:List ah):Option (Bool × AV × List ah) :=
 match b9 P t with
 | .slice e _ _=>match dV P e with
  | some z=>match pk (z.map .lit) with
   | some ks=>match qJ P t n parts with
    | some (.list sz rows)=>match bu ks rows with
     |some gs=>if ks.length=sz then some (true,.vec sz H.length 0 0 gs.length,H++[.vec ks 0 gs]) else none
     |none=>none
    |_=>none
   |none=>none
  |none=>none
 |_=>none
theorem Tp{P:Program}{t:TypeId}{n:Nat}{parts:List (Nat × AV)}{v:AV}{H H':List ah}{b:Bool}(h:ue P t n parts H=some (b,v,H')) :
  tP P t n parts (ak H)=some (v,ak H'):=by
 unfold ue at h;split at h
 case h_2=>cases h
 split at h
 case h_2=>cases h
 split at h
 case h_2=>cases h
 rename_i ks k;split at h
 case h_2=>cases h
 rename_i sz rows hb;split at h
 case h_2=>cases h
 rename_i gs d;split at h
 case isFalse=>cases h
 rename_i g;cases h;unfold tP;rw[hb];have e:=pj d;simp only[];rw[gM,ev,ah.den,g,e,←e,dJ]
/-! ### Maps -/
def Ct.read:Ct→AV→Option (List G)
 | .one k,a=>match t_ k a with
  |some g=>some [g]
  |none=>none
 |.agg ks,.agg cells=>fK ks cells
 |_,_=>none
theorem Ct.j6{K:Ct}{a:AV}{r:List G}(h:K.read a=some r):K.av r=a:=by
 unfold Ct.read at h;split at h
 ·split at h
  ·rename_i g d
   cases h;exact B9 d
  ·cases h
 ·simp only[Ct.av,j5 h]
 ·cases h
def nH(P:Program)(t:TypeId):Option (Ct × List G) :=
 match P.info? t with
 | some i=>match i.zero with
  | some (.agg cs)=>match cs.toList.all di,pk (cs.toList.map .lit) with
   | true,some ks=>match fK ks (cs.toList.map .lit) with
    |some gs=>some (.agg ks,gs)
    |none=>none
   |_,_=>none
  | some v=>match ua (.lit v) with
   | some k=>match t_ k (.lit v) with
    |some g=>some (.one k,[g])
    |none=>none
   | none=>match gK P t,Bz P t with
    |some (.lit (.slice none 0 0)),some ks=>some (.one (.list ks),[.l []])
    |_,_=>none
  |none=>none
 |none=>none
theorem Tq{P:Program}{t:TypeId}{v:AV}(h:gK P t=some v)(d:v=.lit (.slice none 0 0)→False):mv P t=some v:=by
 unfold mv;rw[h];split
 ·rename_i e _
  cases e;exact(d rfl).elim
 ·rename_i e _
  cases e;rfl
 ·rename_i e
  cases e
theorem Jf{P:Program}{t:TypeId}{V:Ct}{z:List G}(h:nH P t=some (V,z)):mv P t=some (V.av z):=by
 unfold nH at h;have q:∀ v,gK P t=some v→(v=.lit (.slice none 0 0)→False)→mv P t=some v:=fun v h B=>Tq h B;split at h
 case h_2=>cases h
 rename_i i hi;split at h
 ·rename_i cs d
  split at h
  ·rename_i ks h1 u
   split at h
   ·rename_i gs I
    cases h;refine q _ ?_ fun e=>by cases e
    unfold gK;rw[hi];simp only[];rw[d];simp only[AV.qx,h1,if_true,Ct.av,j5 I]
   ·cases h
  ·cases h
 ·rename_i v y d
  split at h
  ·rename_i k hk
   split at h
   ·rename_i g J
    cases h;have e:=B9 J;simp only[Ct.av,wM,e];refine q _ ?_ fun e=>by
     simp only[AV.lit.injEq]at e;subst e;simp[ua]at hk
    unfold gK;rw[hi];simp only[];rw[d];simp only[];unfold AV.qx;split
    ·rename_i cs; exact(y cs rfl).elim
    ·simp[ua]at hk
    ·rfl
   ·cases h
  ·split at h
   ·rename_i ks h1 u
    cases h;unfold mv;rw[h1,u];rfl
   ·cases h
 ·cases h
def xO:SK→Kd→Bool
 |.int k,.int k'=>decide (k=k')
 |.str,.str=>true
 |.bool,.bool=>true
 |_,_=>false
def jC:List SK→List Kd→Bool
 | [],[]=>true
 |a::as,b::d=>xO a b&&jC as d
 |_,_=>false
def gp(P:Program)(d:TypeId)(K:Ct):Bool :=
 match flatK P ml d with
 | some g=>jC g K.ks&&(match K with
  |.one _ => !mh (P.underlying d)
  |.agg _=>mh (P.underlying d))
 |none=>false
def nI:Kd→G→Value
 |.int k,g=>.int k g.int
 |.str,g=>.string g.str
 |.bool,g=>.bool g.bool
 |.list _,_=>.bool false
def db:List Kd→List G→List Value
 | [],_=>[]
 |k::ks,r=>nI k (r.headD default)::db ks r.tail
theorem Jg:∀{d:List SK} {ks:List Kd} (r:List G),jC d ks=true→mg (aK ks r)=some (db ks r)∧cz d (db ks r)=true
  | [],[],_,_=>⟨rfl,rfl⟩
  | a::as,k::ks,r,h=>by
    simp only[jC,ax]at h;obtain⟨h1,g⟩:=Jg r.tail h.2;have hk:=h.1;cases k<;>cases a<;>simp only[xO]at hk<;>first
      |(cases hk; done)
      | (simp only [aK, iB, mg, h1, db, nI, cz, g, Bool.and_true]
         simp_all[kindOk])
  | [],_::_,_,h|_::_,[],_,h=>by simp[jC]at h
theorem xP:∀{d:List SK} {ks:List Kd} (r s:List G),jC d ks=true→dp (db ks r) (db ks s)=aR ks r s
 | [],[],_,_,_=>rfl
 | a::as,k::ks,r,s,h=>by
  simp only[jC,ax]at h;have g:=xP r.tail s.tail h.2;have hk:=h.1;simp only[db,dp,aR,g];cases k<;>cases a<;>simp only[xO]at hk<;>first
   |(cases hk; done)
   |rfl
 | [],_::_,_,_,h|_::_,[],_,_,h=>by simp[jC]at h
theorem jD{P:Program}{g:TypeId}{K:Ct}(h:gp P g K=true)(r:List G):gV P g (K.av r)=some (db K.ks r):=by
 unfold gp at h;split at h
 case h_2=>cases h
 rename_i q u;simp only[ax]at h;obtain⟨h1,d⟩:=h;obtain⟨g1,g2⟩:=Jg r h1;unfold gV;rw[u];simp only[];cases K with
 | one k =>
  simp only[l_]at d;simp only[Ct.ks,db]at g2⊢;have e:iB k (r.headD default)=.lit (nI k (r.headD default)):=by
   simp only[Ct.ks]at h1;cases q with
   |nil=>simp[jC]at h1
   | cons a as =>
    simp only[jC,ax]at h1;have hk:=h1.1;cases k<;>cases a<;>simp only[xO]at hk<;>first
     |(cases hk; done)
     |rfl
  simp only[Ct.av,e,g2,d,and_self,if_true]
 | agg ks =>
  simp only[Ct.av,Ct.ks]at g1 g2⊢;simp only[g1,g2,d,and_self,if_true]
def bS(ks:List Kd)(key:List G):List (List G)→Nat→Option (Nat × List G)
 | [],_=>none
 |r::rs,i=>bif aR ks key (gi r 0).row then some (i,r) else bS ks key rs (i+1)
def dN(ks:List Kd)(rows:List (List G))(key:List G):Bool:=(bS ks key rows 0).isSome
def aw(ks:List Kd)(rows:List (List G))(key z:List G):List G:=match bS ks key rows 0 with
 |some (_,r)=>(gi r 1).row
 |none=>z
def aI(ks:List Kd)(rows:List (List G))(key val:List G)(clock:Nat):List (List G):=match bS ks key rows 0 with
 |some (i,r)=>rows.set i [.l [key],.l [val],.i (gi r 2).int]
 |none=>rows++[[.l [key],.l [val],.i clock]]
def bl(ks:List Kd)(rows:List (List G))(key:List G)(clock:Nat):Nat:=bif dN ks rows key then clock else clock+1
def Jh(ks:List Kd)(rows:List (List G))(key:List G):List (List G):=match bS ks key rows 0 with
 |some (i,_)=>rows.eraseIdx i
 |none=>rows
theorem q_{P:Program}{g:TypeId}{K V:Ct}(h:gp P g K=true)(key:List G):∀(rows:List (List G)) (i:Nat),ed P g (db K.ks key) (da K V rows) i =
  some ((bS K.ks key rows i).map fun p=>(p.1,V.av (gi p.2 1).row))
 | [],i=>rfl
 | r::rs,i=>by
  have q:=q_ (V:=V) h key rs (i+1);have k:∃ d,jC d K.ks=true:=by
   unfold gp at h;split at h
   ·simp only[ax]at h; exact⟨_,h.1⟩
   ·cases h
  obtain⟨d,u⟩:=k;simp only[da,du,ed,jD h,xP _ _ u,bS];cases aR K.ks key (gi r 0).row with
  |true=>rfl
  |false=>exact q
theorem pn{ks:List Kd}{key:List G}:∀{rows:List (List G)} {i j:Nat} {r:List G},bS ks key rows i=some (j,r)→i≤j∧rows[j-i]? = some r
 | [],_,_,_,h=>by simp[bS]at h
 | x::rs,i,j,r,h=>by
  simp only[bS]at h;cases d:aR ks key (gi x 0).row with
  | true =>
   rw[d]at h;cases h;exact⟨aB _,by simp⟩
  | false =>
   rw[d]at h;obtain⟨h1,g⟩:=pn h;refine⟨by omega,?_⟩;rw[show j-i=(j-(i+1))+1 from by omega];simpa using g
def Ch(P:Program)(t:TypeId)(m k:AV)(ok:Bool)(H:List ah):Option (Bool × AV) :=
 match cX P t,m with
 | some (d,g),.map id=>match H[id]? with
  | some (.map K V rows _)=>match K.read k,nH P g with
   | some key,some (h,z)=>match gp P d K&&V.same h with
    | true=>some (true,match ok with
      |true=>.tuple [V.av (aw K.ks rows key z),.lit (.bool (dN K.ks rows key))]
      |false=>V.av (aw K.ks rows key z))
    |false=>none
   |_,_=>none
  |_=>none
 |_,_=>none
theorem Ji{P:Program}{t:TypeId}{m k v:AV}{ok b:Bool}{H:List ah}(h:Ch P t m k ok H=some (b,v)):fG P t m k ok (ak H)=some v:=by
 unfold Ch at h;unfold fG;split at h
 case h_2=>cases h
 rename_i u y id g;rw[g];simp only[];split at h
 case h_2=>cases h
 rename_i K V rows cl hid;rw[bh hid];simp only[ah.den];split at h
 case h_2=>cases h
 rename_i key B z hk q;split at h
 case h_2=>cases h
 rename_i d;simp only[ax]at d;have e:=Ct.jB d.2;subst e;rw[←Ct.j6 hk,jD d.1,Jf q];simp only[q_ d.1];cases h;unfold aw dN;cases bS K.ks key rows 0 with
 |none=>cases ok<;>rfl
 |some p=>cases ok<;>rfl
def ra(P:Program)(t:TypeId)(m k v:AV)(H:List ah):Option (Bool × List ah) :=
 match cX P t,m with
 | some (d,_),.map id=>match H[id]? with
  | some (.map K V rows cl)=>match K.read k,V.read v with
   | some key,some val=>match gp P d K with
    |true=>some (true,H.set id (.map K V (aI K.ks rows key val cl) (bl K.ks rows key cl)))
    |false=>none
   |_,_=>none
  |_=>none
 |_,_=>none
def cn(ks:List Kd)(rows:List (List G))(key:List G):List (List G):=match bS ks key rows 0 with
 |some (_,r)=>j0 r
 |none=>[]
def eh(ks:List Kd)(rows:List (List G))(key:List G):Bool:=match bS ks key rows 0 with
 |some (_,r)=>(gi r 3).bool
 |none=>true
def gq(ks:List Kd)(rows:List (List G))(key:List G):List (List G):=match bS ks key rows 0 with
 |some (i,r)=>rows.set i [gi r 0,gi r 1,gi r 2,.t false]
 |none=>rows
def kR(ks:List Kd)(rows:List (List G))(key:List G)(val:List (List G))(clock:Nat):List (List G):=match bS ks key rows 0 with
 |some (i,r)=>rows.set i [.l [key],.l [[.l val]],.i (gi r 2).int,.t true]
 |none=>rows++[[.l [key],.l [[.l val]],.i clock,.t true]]
def uf(P:Program)(t:TypeId)(m k:AV)(H:List ah):Option (Bool × AV × List ah) :=
 match cX P t,m with
 | some (g,d),.map id=>match H[id]? with
  | some (.aG l K ks rows cl)=>match K.read k,xw P d,gK P d with
   | some key,some w',some (.lit (.slice none 0 0))=>match ad w' ks.length&&gp P g K with
    |true=>some (eh K.ks rows key,.vec ks.length H.length 0 0 (cn K.ks rows key).length,H.set id (.aG l K ks (gq K.ks rows key) cl)++[.vec ks 0 (cn K.ks rows key)])
    |false=>none
   |_,_,_=>none
  |_=>none
 |_,_=>none
def ug(P:Program)(t:TypeId)(m k v:AV)(H:List ah):Option (Bool × List ah) :=
 match cX P t,m,v with
 | some (h,_),.map id,.vec w j ae off n=>match H[id]?,H[j]? with
  | some (.aG l K ks rows cl),some (.vec g d rws)=>match K.read k with
   | some key=>match gp P h K&&(Kd.gl ks g&&(ad w ks.length&&(ad ae d&&ad off 0))) with
    |true=>some (ad n rws.length,(H.set id (.aG l K ks (kR K.ks rows key rws cl) (bl K.ks rows key cl))).set j (.raw .dead))
    |false=>none
   |none=>none
  |_,_=>none
 |_,_,_=>none
def ls(ks:List Kd)(rows:List (List G))(key:List G)(clock:Nat):Nat:=match bS ks key rows 0 with
 |some (_,r)=>(gi r 2).int.toNat
 |none=>clock
def lu(ks:List Kd)(rows:List (List G))(key:List G)(clock:Nat):List (List G):=match bS ks key rows 0 with
 |some (i,r)=>rows.set i [.l [key],gi r 1,gi r 2,.t false]
 |none=>rows++[[.l [key],.l [[.l []]],.i clock,.t false]]
def uh(P:Program)(t:TypeId)(m k:AV)(H:List ah):Option (Bool × AV × List ah) :=
 match cX P t,m with
 | some (g,d),.map id=>match H[id]? with
  | some (.aG l K ks rows cl)=>match K.read k,xw P d,gK P d with
   | some key,some w',some (.lit (.slice none 0 0))=>match ad w' ks.length&&gp P g K with
    | true=>some (eh K.ks rows key,.tuple [.vec ks.length H.length 0 0 (cn K.ks rows key).length,.lit (.int .i64 (ls K.ks rows key cl:Nat))],
      H.set id (.aG l K ks (lu K.ks rows key cl) (bl K.ks rows key cl))++[.vec ks 0 (cn K.ks rows key)])
    |false=>none
   |_,_,_=>none
  |_=>none
 |_,_=>none
def eY(st:Int):List (List G)→Nat→Option (Nat × List G)
 | [],_=>none
 |r::rs,i=>bif ((gi r 2).int.toNat:Int)==st then some (i,r) else eY st rs (i+1)
def rb(rows:List (List G))(st:Int)(val:List (List G)):List (List G):=match eY st rows 0 with
 |some (i,r)=>rows.set i [gi r 0,.l [[.l val]],gi r 2,.t true]
 |none=>rows
def rf(rows:List (List G))(st:Int):Bool:=(eY st rows 0).isSome
def ui(m s v:AV)(H:List ah):Option (Bool × List ah) :=
 match m,s,v with
 | .map id,.lit (.int .i64 st),.vec w j ae off n=>match H[id]?,H[j]? with
  | some (.aG l K ks rows cl),some (.vec g d rws)=>match Kd.gl ks g&&(ad w ks.length&&(ad ae d&&ad off 0)) with
   |true=>some (rf rows st&&ad n rws.length,(H.set id (.aG l K ks (rb rows st rws) cl)).set j (.raw .dead))
   |false=>none
  |_,_=>none
 |_,_,_=>none
theorem xQ{P:Program}{g:TypeId}{K:Ct}{ks:List Kd}(h:gp P g K=true)(key:List G):∀(rows:List (List G)) (i:Nat),ed P g (db K.ks key) (cB (fU K ks rows)) i =
  some ((bS K.ks key rows i).map fun p=>(p.1,AV.undef))
 | [],i=>rfl
 | r::rs,i=>by
  have q:=xQ (ks:=ks) h key rs (i+1);have k:∃ d,jC d K.ks=true:=by
   unfold gp at h;split at h
   ·simp only[ax]at h; exact⟨_,h.1⟩
   ·cases h
  obtain⟨d,u⟩:=k;simp only[fU,cB,jA,du,ed,jD h,xP _ _ u,bS];cases aR K.ks key (gi r 0).row with
  |true=>rfl
  |false=>exact q
theorem uj{K:Ct}{ks:List Kd}{rows:List (List G)}{i:Nat}{r:List G}(h:rows[i]? = some r):(fU K ks rows)[i]? = some (jA K ks r):=by
 unfold fU;rw[bZ,h];rfl
theorem xR(K:Ct)(ks:List Kd)(rows:List (List G))(i:Nat)(r:List G):fU K ks (rows.set i r)=(fU K ks rows).set i (jA K ks r):=by
 simp[fU,te]
theorem Tr{P:Program}{t:TypeId}{m k v:AV}{b:Bool}{H H':List ah}(h:uf P t m k H=some (b,v,H'))(hb:b=true):tQ P t m k (ak H)=some (v,ak H')∧fG P t m k false (ak H)=none:=by
 unfold uf at h;unfold tQ fG;split at h
 case h_2=>cases h
 rename_i N O id J;rw[J];simp only[];split at h
 case h_2=>cases h
 rename_i l K ks rows cl hid;rw[bh hid];simp only[ah.den];split at h
 case h_2=>cases h
 rename_i key w' hk hw M;split at h
 case h_2=>cases h
 rename_i u;simp only[ax]at u;obtain⟨g,q⟩:=u;have e:=br g;simp only[aV,ba]at h;obtain⟨d,rfl,rfl⟩:=h;rw[hb]at d;rw[←Ct.j6 hk,jD q,hw,M];simp only[g,xQ q,and_true];unfold eh at d;unfold cn gq;cases y:bS K.ks key rows 0 with
 | none =>
  simp only[wL,gM,c7,ah.den,ev,ma,tf]
 | some p =>
  obtain⟨i,r⟩:=p;rw[y]at d;simp only[]at d;obtain⟨_,B⟩:=pn y;rw[ga]at B;have I:nB (fU K ks rows) i=some (K.av (gi r 0).row,(j0 r).map (aK ks),(gi r 2).int.toNat):=by
   unfold nB;rw[uj B];simp only[jA,d,cond_true]
  simp only[eJ,I,gM,c7,ah.den,ev,dJ,xR];rfl
theorem Ts{P:Program}{t:TypeId}{m k v:AV}{b:Bool}{H H':List ah}(h:ug P t m k v H=some (b,H'))(hb:b=true):oZ P t m k v (ak H)=some (ak H')∧lp P t m k v (ak H)=none:=by
 unfold ug at h;unfold oZ lp;split at h
 case h_2=>cases h
 rename_i kt et id w j ae off n M;rw[M];simp only[];split at h
 case h_2=>cases h
 rename_i l K ks rows cl ks2 ver' rws hid N;rw[bh hid,bh N];simp only[ah.den];split at h
 case h_2=>cases h
 rename_i key hk;split at h
 case h_2=>cases h
 rename_i q;simp only[ax]at q;obtain⟨g,y,B,I,J⟩:=q;have O:=Kd.iH y;subst O;have U:=br B;have V:=br I;have W:=br J;subst U V W;simp only[aV,ba]at h;obtain⟨d,rfl⟩:=h;rw[hb]at d;have d:=br d;subst d;rw[←Ct.j6 hk,jD g];simp only[Ct.tZ,dJ,and_self,if_true,xQ g,and_true];unfold kR bl dN;cases hf:bS K.ks key rows 0 with
 | none =>
  simp only[wL,c7,ah.den,G6,cond_false];simp[fU,jA,j0,gi,G.row,G.rows,G.int,G.bool]
 | some p =>
  obtain⟨i,r⟩:=p;obtain⟨_,u⟩:=pn hf;rw[ga]at u;simp only[eJ,BG (uj u),c7,ah.den,xR,Hm,cond_true];simp[jA,j0,gi,G.row,G.rows,G.int,G.bool]
theorem Tt{P:Program}{t:TypeId}{m k v:AV}{b:Bool}{H H':List ah}(h:uh P t m k H=some (b,v,H'))(hb:b=true):gY P t m k (ak H)=some (v,ak H'):=by
 unfold uh at h;unfold gY;split at h
 case h_2=>cases h
 rename_i N O id J;rw[J];simp only[];split at h
 case h_2=>cases h
 rename_i l K ks rows cl hid;rw[bh hid];simp only[ah.den];split at h
 case h_2=>cases h
 rename_i key w' hk hw M;split at h
 case h_2=>cases h
 rename_i q;simp only[ax]at q;obtain⟨B,g⟩:=q;simp only[aV,ba]at h;obtain⟨d,rfl,rfl⟩:=h;rw[hb]at d;rw[←Ct.j6 hk,jD g,hw,M];simp only[B,Ct.tZ,Bool.and_self,xQ g];unfold eh at d;unfold cn lu ls bl dN;cases u:bS K.ks key rows 0 with
 | none =>
  simp only[wL,gM,c7,ah.den,ev,ma,tf,G6,cond_false,goInt];simp[fU,jA,j0,gi,G.row,G.rows,G.int,G.bool]
 | some p =>
  obtain⟨i,r⟩:=p;rw[u]at d;simp only[]at d;obtain⟨_,y⟩:=pn u;rw[ga]at y;have I:nB (fU K ks rows) i=some (K.av (gi r 0).row,(j0 r).map (aK ks),(gi r 2).int.toNat):=by
   unfold nB;rw[uj y];simp only[jA,d,cond_true]
  simp only[eJ,I,gM,c7,ah.den,ev,dJ,xR,Hm,cond_true,goInt];rfl
theorem Ci{st:Int}:∀{rows:List (List G)} {i j:Nat} {r:List G},eY st rows i=some (j,r)→i≤j∧rows[j-i]? = some r
 | [],_,_,_,h=>by simp[eY]at h
 | x::rs,i,j,r,h=>by
  simp only[eY]at h;cases d:((gi x 2).int.toNat:Int)==st with
  | true =>
   rw[d]at h;cases h;simp
  | false =>
   rw[d]at h;obtain⟨h1,g⟩:=Ci h;refine⟨by omega,?_⟩;rw[show j-i=(j-(i+1))+1 from by omega];simpa using g
theorem Jj{K:Ct}{ks:List Kd}{st:Int}:∀{rows:List (List G)} {i:Nat},(eY st rows i).map (·.1)=(o9 (fU K ks rows) st).map (·+i)
 | [],_=>rfl
 | x::rs,i=>by
  have d:=Jj (K:=K) (ks:=ks) (st:=st) (rows:=rs) (i:=i+1);unfold o9 at d⊢;simp only[eY,fU,du,Ha,jA]at d⊢;cases g:((gi x 2).int.toNat:Int)==st with
  |true=>simp
  | false =>
   simp only[cond_false,d,k_,if_false,Hn];congr 1
   funext n
   simp only[Ho];omega
theorem Tu{m s v:AV}{b:Bool}{H H':List ah}(h:ui m s v H=some (b,H'))(hb:b=true):jW m s v (ak H)=some (ak H'):=by
 unfold ui at h;unfold jW;split at h
 case h_2=>cases h
 rename_i id st w j ae off n;split at h
 case h_2=>cases h
 rename_i l K ks rows cl ks2 ver' rws hid U;simp only[];rw[bh hid,bh U];simp only[ah.den];split at h
 case h_2=>cases h
 rename_i u;simp only[ax]at u;obtain⟨J,M,N,O⟩:=u;have V:=Kd.iH J;subst V;have W:=br M;have e4:=br N;have e5:=br O;subst W e4 e5;simp only[aV,ba]at h;obtain⟨k,rfl⟩:=h;rw[hb]at k;simp only[ax]at k;obtain⟨d,g⟩:=k;have g:=br g;subst g;simp only[dJ,and_self,if_true];unfold rf at d;unfold rb;cases q:eY st rows 0 with
 |none=>rw[q]at d; cases d
 | some p =>
  obtain⟨i,r⟩:=p;obtain⟨_,B⟩:=Ci q;rw[ga]at B;have hi:o9 (fU K ks rows) st=some i:=by
   have:=Jj (K:=K) (ks:=ks) (st:=st) (rows:=rows) (i:=0);rw[q]at this;cases I:o9 (fU K ks rows) st with
   |none=>rw[I]at this; cases this
   |some y=>rw[I]at this; simp at this; rw[this]
  rw[hi];simp only[uj B,jA,c7,ah.den,xR];simp[j0,gi,G.row,G.rows,G.bool]
theorem Jk(K V:Ct)(rows:List (List G))(i:Nat)(r:List G):da K V (rows.set i r)=(da K V rows).set i (K.av (gi r 0).row,V.av (gi r 1).row,(gi r 2).int.toNat):=by
 simp[da,te]
theorem Jl{α:Type}{l:List α}{i:Nat}{x:α}(f:α→α)(h:l[i]? = some x):l.modify i f=l.set i (f x):=by
 apply List.ext_getElem?;intro j;rw[List.getElem?_modify,List.getElem?_set];by_cases e:i=j
 ·subst e
  rw[if_pos rfl,if_pos (aL h),h];simp
 ·rw [if_neg e]
  simp[e]
theorem Jm{P:Program}{t:TypeId}{m k v:AV}{b:Bool}{H H':List ah}(h:ra P t m k v H=some (b,H')):lp P t m k v (ak H)=some (ak H'):=by
 unfold ra at h;unfold lp;split at h
 case h_2=>cases h
 rename_i I J id u;rw[u];simp only[];split at h
 case h_2=>cases h
 rename_i K V rows cl hid;rw[bh hid];simp only[ah.den];split at h
 case h_2=>cases h
 rename_i key val hk y;split at h
 case h_2=>cases h
 rename_i d;cases h;rw[←Ct.j6 hk,←Ct.j6 y,jD d];simp only[Ct.tZ,and_self,if_true,q_ d,c7,ah.den];unfold aI bl dN;cases B:bS K.ks key rows 0 with
 |none=>simp[da,gi,G.row,G.rows,G.int]
 | some p =>
  obtain⟨_,g⟩:=pn (r:=p.2) (j:=p.1) B;rw[ga]at g;have q:(da K V rows)[p.1]? = some (K.av (gi p.2 0).row,V.av (gi p.2 1).row,(gi p.2 2).int.toNat):=by simp[da,g]
  simp only[eJ,Jl _ q,Jk,Hm,cond_true];simp[gi,G.row,G.rows,G.int]
def uk(P:Program)(t:TypeId)(m k:AV)(H:List ah):Option (Bool × List ah) :=
 match cX P t,m with
 | some (d,_),.map id=>match H[id]? with
  | some (.map K V rows cl)=>match K.read k,gp P d K with
   |some key,true=>some (true,H.set id (.map K V (Jh K.ks rows key) cl))
   |_,_=>none
  |_=>none
 |_,_=>none
theorem Jn{α β:Type}(f:α→β):∀(l:List α) (i:Nat),(l.map f).eraseIdx i=(l.eraseIdx i).map f
 | [],_=>by simp
 |_::_,0=>by simp
 |_::l,i+1=>by simp[Jn f l i]
theorem Tv{P:Program}{t:TypeId}{m k:AV}{b:Bool}{H H':List ah}(h:uk P t m k H=some (b,H')):tN P t m k (ak H)=some (ak H'):=by
 unfold uk at h;unfold tN;split at h
 case h_2=>cases h
 rename_i q u id g;rw[g];simp only[];split at h
 case h_2=>cases h
 rename_i K V rows cl hid;rw[bh hid];simp only[ah.den];split at h
 case h_2=>cases h
 rename_i key hk d;cases h;rw[←Ct.j6 hk,jD d];simp only[q_ d,c7,ah.den];unfold Jh;cases v:bS K.ks key rows 0 with
 |none=>rfl
 |some p=>simp only[eJ,da,Jn]
def um(P:Program)(t:TypeId)(x:AV)(H:List ah):Option (Bool × List ah) :=
 match b9 P t,x with
 | .slice e sz _,.vec w id ae off n=>match dV P e,H[id]? with
  | some z,some (.vec ks v rows)=>match fK ks (z.map .lit) with
   | some d=>if ks.length=w∧w=sz∧v=ae∧z.length=sz∧0<sz then
     some (c_ (off+n) rows.length,H.set id (.vec ks v (rows.take off++bM n d++rows.drop (off+n)))) else none
   |none=>none
  |_,_=>none
 |_,_=>none
theorem Tw{P:Program}{t:TypeId}{x:AV}{b:Bool}{H H':List ah}(h:um P t x H=some (b,H'))(hb:b=true):tO P t x (ak H)=some (ak H'):=by
 unfold um at h;unfold tO;split at h
 case h_2=>cases h
 rename_i e sz y w id ae off n hk;rw[hk];simp only[];split at h
 case h_2=>cases h
 rename_i z ks v rows k hid;rw[k,bh hid];simp only[ah.den];split at h
 case h_2=>cases h
 rename_i B g;split at h
 case isFalse=>cases h
 rename_i q;obtain⟨rfl,rfl,rfl,h1,u⟩:=q;simp only[aV,ba]at h;obtain⟨d,rfl⟩:=h;subst hb;have d:=th d;simp only[h1,u,dJ,d,and_self,if_true,c7,ah.den,aV];rw[←j5 g];simp[List.map_take,List.map_drop]
def uo(P:Program)(t xt:TypeId)(s x:AV)(H:List ah):Option (Bool × AV × List ah) :=
 match b9 P t,b9 P xt,s,x with
 | .slice e sz d,.int _,.lit (.slice none 0 0),.lit (.int _ n)=>match dV P e with
  | some z=>match pk (z.map .lit) with
   | some ks=>match fK ks (z.map .lit) with
    | some g=>if z.length=sz∧0<sz∧d≤1048576∧ks.length=sz then
      some (aj 0 n&&be n 1048576,.vec sz H.length 0 0 n.toNat,H++[.vec ks 0 (bM n.toNat g)]) else none
    |none=>none
   |none=>none
  |none=>none
 |_,_,_,_=>none
theorem Tx{P:Program}{t xt:TypeId}{s x v:AV}{b:Bool}{H H':List ah}(h:uo P t xt s x H=some (b,v,H'))(hb:b=true):oY P t xt s x (ak H)=some (v,ak H'):=by
 unfold uo at h;unfold oY;split at h
 case h_2=>cases h
 rename_i e sz M k k' n hk g;rw[hk,g];simp only[];split at h
 case h_2=>cases h
 rename_i z u;rw[u];simp only[];split at h
 case h_2=>cases h
 rename_i ks N;split at h
 case h_2=>cases h
 rename_i O q;split at h
 case isFalse=>cases h
 rename_i y;obtain⟨h1,B,I,J⟩:=y;simp only[aV,ba]at h;obtain⟨d,rfl,rfl⟩:=h;subst hb;simp only[dm,eu,ax,decide_eq_true_eq]at d;simp only[h1,B,I,d.1,d.2,and_self,if_true,gM,ah.den,ev,J,aV,ba,true_and];rw[←j5 q];simp
def fp(ks:List Kd)(rows:List (List G))(key:List G):Option Nat:=match bS ks key rows 0 with
 |some (_,r)=>ph r
 |none=>none
def kS(mem:List (List G)):Option Nat→Bool
 |some i=>fe i mem.length
 |none=>false
def gr(mem:List (List G)):Option Nat→List G
 |some i=>mem.getD i []
 |none=>[]
def rh(mem:List (List G))(j:Option Nat)(ks:List Kd)(key val:List G):List (List G):=match j with
 |some i=>mem.set i [.l (aI ks (gi (gr mem j) 0).rows key val (gi (gr mem j) 1).int.toNat),.i (bl ks (gi (gr mem j) 0).rows key (gi (gr mem j) 1).int.toNat:Nat)]
 |none=>mem
def rj(rows:List (List G))(st:Int):Bool:=match eY st rows 0 with
 |some (_,r) => !be 0 (gi r 1).int
 |none=>false
def rk(rows:List (List G))(st:Int)(n:Nat):List (List G):=match eY st rows 0 with
 |some (i,r)=>rows.set i [gi r 0,.i n,gi r 2]
 |none=>rows
theorem Cj{P:Program}{g:TypeId}{K:Ct}(h:gp P g K=true)(key:List G):∀(rows:List (List G)) (i:Nat),ed P g (db K.ks key) (ff (h_ K rows)) i =
  some ((bS K.ks key rows i).map fun p=>(p.1,AV.undef))
 | [],i=>rfl
 | r::rs,i=>by
  have q:=Cj h key rs (i+1);have k:∃ d,jC d K.ks=true:=by
   unfold gp at h;split at h
   ·simp only[ax]at h; exact⟨_,h.1⟩
   ·cases h
  obtain⟨d,u⟩:=k;simp only[h_,ff,du,ed,jD h,xP _ _ u,bS];cases aR K.ks key (gi r 0).row with
  |true=>rfl
  |false=>exact q
theorem Jo{K:Ct}{rows:List (List G)}{i:Nat}{r:List G}(h:rows[i]? = some r):(h_ K rows)[i]? = some (K.av (gi r 0).row,ph r,(gi r 2).int.toNat):=by
 unfold h_;rw[bZ,h];rfl
theorem Jp{KI VI:Ct}{mem:List (List G)}{i:Nat}(h:i<mem.length):(nE KI VI mem)[i]? = some (da KI VI (gi (mem.getD i []) 0).rows,(gi (mem.getD i []) 1).int.toNat):=by
 unfold nE;rw[bZ,cf,bI h];rfl
def Ck(P:Program)(t:TypeId)(m k:AV)(ok:Bool)(H:List ah):Option (Bool × AV) :=
 match cX P t,m with
 | some (d,g),.sub id l j=>match H[id]? with
  | some (.mm l' _ KI VI _ mem _)=>match KI.read k,nH P g with
   | some key,some (h,z)=>match ad l l'&&(gp P d KI&&VI.same h) with
    | true=>some (kS mem j,match ok with
      |true=>.tuple [VI.av (aw KI.ks (gi (gr mem j) 0).rows key z),.lit (.bool (dN KI.ks (gi (gr mem j) 0).rows key))]
      |false=>VI.av (aw KI.ks (gi (gr mem j) 0).rows key z))
    |false=>none
   |_,_=>none
  |_=>none
 | some (d,g),.map id=>match H[id]?,ok with
  | some (.mm l K _ _ rows _ _),false=>match K.read k,gK P g with
   | some key,some (.lit (.map none))=>match gp P d K with
    |true=>some (true,.sub id l (fp K.ks rows key))
    |false=>none
   |_,_=>none
  |_,_=>none
 |_,_=>none
theorem Ty{P:Program}{t:TypeId}{m k v:AV}{ok b:Bool}{H:List ah}(h:Ck P t m k ok H=some (b,v))(hb:b=true):fG P t m k ok (ak H)=none∧jy P t m k ok (ak H)=some v:=by
 unfold Ck at h;unfold jy fG;split at h
 ·rename_i B I id l j g
  rw[g];refine⟨rfl,?_⟩;split at h
  case h_2=>cases h
  rename_i l' K KI VI rows mem cl hid;split at h
  case h_2=>cases h
  rename_i key O z hk q;split at h
  case h_2=>cases h
  rename_i d;simp only[ax]at d;obtain⟨J,d,M⟩:=d;have e:=Ct.jB M;subst e;simp only[aV,ba]at h;obtain⟨hi,rfl⟩:=h;rw[hb]at hi;cases j with
  |none=>cases hi
  | some i =>
   have y:i<mem.length:=by simpa[kS]using hi
   simp only[qL,g];rw[bh hid];simp only[ah.den,J,Jp y,gr];rw[←Ct.j6 hk,jD d,Jf q];simp only[q_ d];unfold aw dN;cases bS KI.ks key (gi (mem.getD i []) 0).rows 0 with
   |none=>cases ok<;>rfl
   |some p=>cases ok<;>rfl
 ·rename_i B I id g
  rw[g];split at h
  case h_2=>cases h
  rename_i l K KI VI rows mem cl hid;split at h
  case h_2=>cases h
  rename_i key hk q;split at h
  case h_2=>cases h
  rename_i d;simp only[o_,g];rw[bh hid];simp only[ah.den];refine⟨trivial,?_⟩;rw[←Ct.j6 hk,jD d,q];simp only[Cj d];cases h;unfold fp;cases N:bS K.ks key rows 0 with
  |none=>rfl
  | some p =>
   obtain⟨i,r⟩:=p;obtain⟨_,u⟩:=pn N;rw[ga]at u;simp only[eJ,Jo u]
 ·cases h
def uq(P:Program)(t:TypeId)(m k v:AV)(H:List ah):Option (Bool × List ah) :=
 match cX P t,m with
 | some (d,_),.sub id l j=>match H[id]? with
  | some (.mm l' K KI VI rows mem cl)=>match KI.read k,VI.read v with
   | some key,some val=>match ad l l'&&gp P d KI with
    |true=>some (kS mem j,H.set id (.mm l' K KI VI rows (rh mem j KI.ks key val) cl))
    |false=>none
   |_,_=>none
  |_=>none
 |_,_=>none
theorem Tz(KI VI:Ct)(mem:List (List G))(i:Nat)(r:List G):nE KI VI (mem.set i r)=(nE KI VI mem).set i (da KI VI (gi r 0).rows,(gi r 1).int.toNat):=by
 simp[nE,te]
theorem TA(K:Ct)(rows:List (List G))(i:Nat)(r:List G):h_ K (rows.set i r)=(h_ K rows).set i (K.av (gi r 0).row,ph r,(gi r 2).int.toNat):=by
 simp[h_,te]
theorem TB{P:Program}{t:TypeId}{m k v:AV}{b:Bool}{H H':List ah}(h:uq P t m k v H=some (b,H'))(hb:b=true) :
  tS P t m k v (ak H)=some (ak H')∧lp P t m k v (ak H)=none∧oZ P t m k v (ak H)=none:=by
 unfold uq at h;unfold tS lp oZ;split at h
 case h_2=>cases h
 rename_i O U id l j J;rw[J];refine⟨?_,rfl,rfl⟩;split at h
 case h_2=>cases h
 rename_i l' K KI VI rows mem cl hid;split at h
 case h_2=>cases h
 rename_i key val hk M;split at h
 case h_2=>cases h
 rename_i d;simp only[ax]at d;obtain⟨g,d⟩:=d;have e:=br g;subst e;simp only[aV,ba]at h;obtain⟨hi,rfl⟩:=h;rw[hb]at hi;cases j with
 |none=>cases hi
 | some i =>
  have B:i<mem.length:=by simpa[kS]using hi
  simp only[];rw[bh hid];simp only[ah.den,Jp B,g];rw[←Ct.j6 hk,←Ct.j6 M,jD d];simp only[Ct.tZ,and_self,if_true,q_ d,c7,ah.den,rh,gr,Tz];generalize mem.getD i []=m0;have q:∀(X:List (List G)) (n:Nat),(gi [G.l X,G.i n] 0).rows=X:=fun _ _=>rfl;have u:∀(X:List (List G)) (n:Nat),(gi [G.l X,G.i n] 1).int.toNat=n:=fun _ _=>rfl;unfold aI bl dN;cases N:bS KI.ks key (gi m0 0).rows 0 with
  | none =>
   simp only[wL,G6,cond_false,q,u];rw[show da KI VI ((gi m0 0).rows++[[.l [key],.l [val],.i (gi m0 1).int.toNat]])=da KI VI (gi m0 0).rows++[(KI.av key,VI.av val,(gi m0 1).int.toNat)] from by
    simp only[da,kA,du,tf];rfl]
  | some p =>
   obtain⟨_,y⟩:=pn (r:=p.2) (j:=p.1) N;rw[ga]at y;have I:(da KI VI (gi m0 0).rows)[p.1]? = some (KI.av (gi p.2 0).row,VI.av (gi p.2 1).row,(gi p.2 2).int.toNat):=by simp[da,y]
   simp only[eJ,Jl _ I,Hm,cond_true,q,u,Jk];rfl
def ur(P:Program)(t:TypeId)(m k:AV)(H:List ah):Option (Bool × AV × List ah) :=
 match cX P t,m with
 | some (d,g),.map id=>match H[id]? with
  | some (.mm l K KI VI rows mem cl)=>match K.read k,gK P g with
   | some key,some (.lit (.map none))=>match gp P d K with
    |true=>some (!dN K.ks rows key,.tuple [.sub id l none,.lit (.int .i64 (cl:Nat))],H.set id (.mm l K KI VI (rows++[[.l [key],.i (-1),.i cl]]) mem (cl+1)))
    |false=>none
   |_,_=>none
  |_=>none
 |_,_=>none
theorem TC{P:Program}{t:TypeId}{m k v:AV}{b:Bool}{H H':List ah}(h:ur P t m k H=some (b,v,H'))(hb:b=true) :
  iU P t m k (ak H)=some (v,ak H')∧gY P t m k (ak H)=none:=by
 unfold ur at h;unfold iU gY;split at h
 case h_2=>cases h
 rename_i B I id q;rw[q];split at h
 case h_2=>cases h
 rename_i l K KI VI rows mem cl hid;simp only[];rw[bh hid];simp only[ah.den];split at h
 case h_2=>cases h
 rename_i key hk u;split at h
 case h_2=>cases h
 rename_i g;simp only[aV,ba]at h;obtain⟨d,rfl,rfl⟩:=h;rw[hb]at d;rw[←Ct.j6 hk,jD g,u];simp only[Ct.tZ,Cj g,and_true];unfold dN at d;cases y:bS K.ks key rows 0 with
 |some p=>rw[y]at d; cases d
 | none =>
  simp only[wL,c7,ah.den];rw[show h_ K (rows++[[.l [key],.i (-1),.i cl]])=h_ K rows++[(K.av key,none,cl)] from by
   simp only[h_,kA,du,tf];rfl]
  rfl
theorem Jq{K:Ct}{st:Int}:∀{rows:List (List G)} {i:Nat},(eY st rows i).map (·.1)=(pb (h_ K rows) st).map (·+i)
 | [],_=>rfl
 | x::rs,i=>by
  have d:=Jq (K:=K) (st:=st) (rows:=rs) (i:=i+1);unfold pb at d⊢;simp only[eY,h_,du,Ha]at d⊢;cases g:((gi x 2).int.toNat:Int)==st with
  |true=>simp
  | false =>
   simp only[cond_false,d,k_,if_false,Hn];congr 1
   funext n
   simp only[Ho];omega
def uu(m s v:AV)(H:List ah):Option (Bool × List ah) :=
 match m,s,v with
 | .map id,.lit (.int .i64 st),.map j=>match H[id]?,H[j]? with
  | some (.mm l K KI VI rows mem cl),some (.map h k d g)=>match KI.same h&&VI.same k with
   |true=>some (rj rows st,(H.set id (.mm l K KI VI (rk rows st mem.length) (mem++[[.l d,.i g]]) cl)).set j (.raw .dead))
   |false=>none
  |_,_=>none
 |_,_,_=>none
theorem TD{m s v:AV}{b:Bool}{H H':List ah}(h:uu m s v H=some (b,H'))(hb:b=true) :
  kM m s v (ak H)=some (ak H')∧jW m s v (ak H)=none:=by
 unfold uu at h;unfold kM jW;split at h
 case h_2=>cases h
 rename_i id st j;split at h
 case h_2=>cases h
 rename_i l K KI VI rows mem cl U V N O hid B;refine⟨?_,rfl⟩;simp only[];rw[bh hid,bh B];simp only[ah.den];split at h
 case h_2=>cases h
 rename_i k;simp only[ax]at k;have I:=Ct.jB k.1;have J:=Ct.jB k.2;subst I J;simp only[aV,ba]at h;obtain⟨d,rfl⟩:=h;rw[hb]at d;unfold rj at d;unfold rk;cases g:eY st rows 0 with
 |none=>rw[g]at d; cases d
 | some p =>
  obtain⟨i,r⟩:=p;rw[g]at d;obtain⟨_,q⟩:=Ci g;rw[ga]at q;have hi:pb (h_ K rows) st=some i:=by
   have:=Jq (K:=K) (st:=st) (rows:=rows) (i:=0);rw[g]at this;cases u:pb (h_ K rows) st with
   |none=>rw[u]at this; cases this
   |some y=>rw[u]at this; simp at this; rw[this]
  have hm:ph r=none:=by
   unfold ph;cases M:be 0 (gi r 1).int with
   |true=>simp[M]at d
   |false=>rfl
  rw[hi];simp only[Jo q,hm,c7,ah.den,TA];simp[ph,nE,gi,G.row,G.rows,G.int,be,show ∀ n,c_ 0 n=true from fun n=>Nat.ble_eq_true_of_le (er n)]
def rm(P:Program)(r:Operand→AV)(H:List ah):Op→Option (Bool × AV × List ah)
 | .alloc t=>match xk P t with
  |some e=>if mq (ak H) 0=true then some (true,.ptr H.length 0 0 0 0,H++[.raw (.eD 0 t e wu)]) else none
  | none=>match dV P t with
   |some z=>some (true,.ptr H.length 0 0 0 0,H++[.raw (.box (z.map .lit))])
   |none=>none
 | .box _ x=>match oT (r x) with
  |some cs=>some (true,.ptr H.length 0 0 0 0,H++[.raw (.box cs)])
  |none=>none
 | .store t a x=>match qY P t (r a) (r x) H with
  |some (b,H')=>some (b,.undef,H')
  |none=>none
 |.makeSlice t l c=>ud P t (r l) (r c) H
 |.buildSlice t n parts=>ue P t n (parts.toList.map fun p=>(p.1,r p.2)) H
 | .range t x=>match b9 P t,r x with
  |.str,.lit (.string s)=>some (true,.ptr H.length 0 0 0 0,H++[.raw (.iter s 0)])
  |_,_=>none
 | .next it true=>match r it with
  | .ptr id 0 _ 0 0=>match H[id]? with
   | some (.raw (.iter s pos))=>if pos<s.size then some (true,.tuple [.lit (.bool true),.lit (goInt pos),.lit (.int .i32 (nf s pos).1)],H.set id (.raw (.iter s (pos+(nf s pos).2))))
     else some (true,.tuple [.lit (.bool false)],H)
   |_=>none
  |_=>none
 | .makeMap t none=>match cX P t with
  | some (g,d)=>match nH P g,nH P d with
   |some (K,_),some (V,_)=>some (true,.map H.length,H++[.map K V [] 0])
   | some (K,_),none=>match cX P d with
    |some _=>some (true,.map H.length,H++[.map K K [] 0])
    |none=>none
   |_,_=>none
  |none=>none
 | .mapUpdate t m k v=>match ra P t (r m) (r k) (r v) H with
  |some (b,H')=>some (b,.undef,H')
  | none=>match ug P t (r m) (r k) (r v) H with
   |some (b,H')=>some (b,.undef,H')
   | none=>match uq P t (r m) (r k) (r v) H with
    |some (b,H')=>some (b,.undef,H')
    |none=>none
 |.lookup t m k false=>uf P t (r m) (r k) H
 | .mapEntry t m k=>match uh P t (r m) (r k) H with
  |some y=>some y
  |none=>ur P t (r m) (r k) H
 | .entryStore _ m s x=>match ui (r m) (r s) (r x) H with
  |some (b,H')=>some (b,.undef,H')
  | none=>match uu (r m) (r s) (r x) H with
   |some (b,H')=>some (b,.undef,H')
   |none=>none
 | .insert t m k v=>match ra P t (r m) (r k) (r v) H with
  |some (b,H')=>some (b,.undef,H')
  |none=>none
 | .call c=>match c.callee with
  | .builtin .append=>match c.args.toList,c.argTypes.toList with
   | [s,x],[t,xt]=>match b9 P xt with
    |.int _=>uo P t xt (r s) (r x) H
    |_=>uc P t xt (r s) (r x) H
   |_,_=>none
  | .builtin .clear=>match c.args.toList,c.argTypes.toList with
   | [x],[t]=>match um P t (r x) H with
    |some (b,H')=>some (b,.tuple [],H')
    |none=>none
   |_,_=>none
  | .builtin .delete=>match c.args.toList,c.argTypes.toList with
   | [x,k],t::_=>match uk P t (r x) (r k) H with
    |some (b,H')=>some (b,.tuple [],H')
    |none=>none
   |_,_=>none
  |_=>none
 |_=>none
theorem TE{P:Program}{t xt:TypeId}{s x:AV}{H:List ab}(h:∀ k,b9 P xt≠.int k):oY P t xt s x H=none:=by
 unfold oY;split
 ·rename_i hk
  exact(h _ hk).elim
 ·rfl
theorem Jr{P:Program}{r:Operand→AV}{H H':List ah}{o:Op}{v:AV}{b:Bool}(h:rm P r H o=some (b,v,H'))(hb:b=true):cT P r (ak H) o=some (v,ak H'):=by
 cases o<;>simp only[rm]at h<;>try cases h
 case alloc t =>
  split at h
  ·rename_i e he
   split at h
   ·rename_i N
    cases h;simp only[cT,oV,he,N,if_true,ev,gM,ah.den]
   ·cases h
  ·rename_i he
   split at h
   ·rename_i z I; cases h; simp only[cT,oV,he,I,ev,gM,ah.den]
   ·cases h
 case box t x =>
  split at h
  ·rename_i z I; cases h; simp only[cT,xm,I,ev,gM,ah.den]
  ·cases h
 case store t a x =>
  split at h
  ·rename_i g H1 d; cases h; simp only[cT,Jc d hb]
  ·cases h
 case makeSlice t l c=>simp only[cT]; exact To h hb
 case buildSlice t n ps=>simp only[cT]; exact Tp h
 case range t x =>
  split at h
  ·rename_i s hk J
   cases h;simp only[cT,xo,hk,J,ev,gM,ah.den]
  ·cases h
 case next it isString =>
  cases isString with
  |false=>cases h
  | true =>
   simp only[]at h;split at h
   ·rename_i id k J
    split at h
    ·rename_i s pos hid
     simp only[cT,xp,J,bh hid,ah.den];split at h
     ·rename_i B
      cases h;rw[if_pos B,c7];rfl
     ·rename_i B
      cases h;rw[if_neg B]
    ·cases h
   ·cases h
 case makeMap t res =>
  cases res with
  |some _=>cases h
  | none =>
   simp only[]at h;split at h
   ·split at h
    ·cases h
     simp only[cT,ev,gM,ah.den];rfl
    ·split at h
     ·cases h
      simp only[cT,ev,gM,ah.den];rfl
     ·cases h
    ·cases h
   ·cases h
 case mapUpdate t m k x =>
  split at h
  ·rename_i g H1 d
   cases h;simp only[cT,Jm d]
  ·split at h
   ·rename_i g H1 d
    cases h;obtain⟨g1,g2⟩:=Ts d hb;simp only[cT,g1,g2]
   ·split at h
    ·rename_i g H1 d
     cases h;obtain⟨g1,g2,g3⟩:=TB d hb;simp only[cT,g1,g2,g3]
    ·cases h
 case lookup t m k ok =>
  cases ok with
  |true=>cases h
  | false =>
   obtain⟨g1,g2⟩:=Tr h hb;simp only[cT,g1,g2]
 case mapEntry t m k =>
  split at h
  ·rename_i y O
   cases h;simp only[cT,Tt O hb]
  ·obtain ⟨g1, g2⟩ := TC h hb
   simp only[cT,g1,g2]
 case entryStore t m s x =>
  split at h
  ·rename_i g H1 d
   cases h;simp only[cT,Tu d hb]
  ·split at h
   ·rename_i g H1 d
    cases h;obtain⟨g1,g2⟩:=TD d hb;simp only[cT,g1,g2]
   ·cases h
 case insert t m k x =>
  split at h
  ·rename_i g H1 d
   cases h;simp only[cT,Jm d]
  ·cases h
 case call c =>
  simp only[cT,xz];split at h
  ·rename_i q
   rw[q];split at h
   ·rename_i h1 u
    simp only[h1,u];split at h
    ·rw[Tx h hb]
    ·rename_i M
     rw[TE M];exact Tm h hb
   ·cases h
  ·rename_i q
   rw[q];split at h
   ·rename_i h1 u
    simp only[h1,u];split at h
    ·rename_i d
     cases h;rw[Tw d hb]
    ·cases h
   ·cases h
  ·rename_i q
   rw[q];split at h
   ·rename_i h1 u
    simp only[h1,u];split at h
    ·rename_i d
     cases h;rw[Tv d]
    ·cases h
   ·cases h
  ·cases h
end Go.AL

namespace Go.AL
open Go
variable [Dr]
def rq(n:Int):Option (Bool × AV):=some (ao n,.lit (.int .i64 n))
def Cl(P:Program)(op:BinOp)(t:TypeId)(d:Bool)(x y:AV):Option (Bool × AV) :=
 match op,x,y with
 |.add,.lit (.int .i64 a),.lit (.int .i64 b)=>rq (a+b)
 |.sub,.lit (.int .i64 a),.lit (.int .i64 b)=>rq (a-b)
 |.mul,.lit (.int .i64 a),.lit (.int .i64 b)=>rq (a*b)
 |.quo,.lit (.int .i64 a),.lit (.int .i64 b)=>some (!(b==0)&&ao (a.tdiv b),.lit (.int .i64 (a.tdiv b)))
 |.rem,.lit (.int .i64 a),.lit (.int .i64 b)=>some (!(b==0),.lit (.int .i64 (a.tmod b)))
 |.add,.lit (.string a),.lit (.string b)=>some (c_ (a.size+b.size) 9223372036854775807,.lit (.string (a++b)))
 |.lss,.lit (.int k a),.lit (.int k' b)=>if k=k' then some (true,.lit (.bool (aj a b))) else none
 |.leq,.lit (.int k a),.lit (.int k' b)=>if k=k' then some (true,.lit (.bool (be a b))) else none
 |.gtr,.lit (.int k a),.lit (.int k' b)=>if k=k' then some (true,.lit (.bool (aj b a))) else none
 |.geq,.lit (.int k a),.lit (.int k' b)=>if k=k' then some (true,.lit (.bool (be b a))) else none
 |.and,.lit (.int k a),.lit (.int k' b)=>if k=k' then some (true,.lit (.int k (HC k a b))) else none
 |.or,.lit (.int k a),.lit (.int k' b)=>if k=k' then some (true,.lit (.int k (HD k a b))) else none
 |.xor,.lit (.int k a),.lit (.int k' b)=>if k=k' then some (true,.lit (.int k (HF k a b))) else none
 |.shl,.lit (.int k a),.lit (.int _ b)=>some (az b,.lit (.int k (Ba k a b)))
 |.shr,.lit (.int k a),.lit (.int _ b)=>some (az b,.lit (.int k (dT k a b)))
 | op,.listF ks rows,.lit (.slice none 0 0)=>match P.underlying t,jx op false with
  |some (.slice _),some v=>some (fe 0 rows.length,v)
  |_,_=>none
 | op,.vec w id ae off m,.lit (.slice none 0 0)=>match P.underlying t,jx op false with
  |some (.slice _),some v=>some (fe 0 m,v)
  |_,_=>none
 | _,_,_=>match gj P op t d x y with
  |some v=>some (true,v)
  |none=>none
def Cm(m sz:Nat)(cells:List AV):Option (Kd × List (List G)) :=
 match ua (cells.headD .undef)with
 | some k=>match bu [k] (cells.map fun c=>[c]) with
  |some rows=>if sz=1∧m=cells.length then some (k,rows) else none
  |none=>none
 |none=>none
theorem TF{m sz:Nat}{cells:List AV}{k:Kd}{rows:List (List G)}(h:Cm m sz cells=some (k,rows)){j:Nat}(g:j<m) :
  aK [k] (rows.getD j [])=(cells.drop (j*sz)).take sz:=by
 unfold Cm at h;split at h
 ·split at h
  ·rename_i rows' q
   split at h
   ·rename_i u
    obtain⟨rfl,rfl⟩:=u;cases h;have e:=pj q;have v:rows.length=cells.length:=by have:=congrArg Hp e; simpa using this
    have d:(rows.map (aK [k]))[j]? = (cells.map fun c=>[c])[j]? := by rw[e]
    rw[Cc (by omega),bZ,bI g]at d;simp only[eJ,aV]at d;rw[d,aeU,List.drop_eq_getElem_cons g,List.take_succ_cons,List.take_zero]
   ·cases h
  ·cases h
 ·cases h
def Cn(k:SK)(x i:AV):Option (Bool × AV) :=
 match k,x,i with
 |.slice _ sz _,.listF ks rows,.lit (.int _ j)=>if ks.length=sz then some (az j&&aj j (rows.length:Int),.cptr (aK ks (rows.getD j.toNat []))) else none
 |.slice _ sz _,.vec w id ae off m,.lit (.int _ j)=>if w=sz then some (az j&&aj j (m:Int),.ptr id ae w (off+j.toNat) 0) else none
 | .array m _ sz _,.cptr cells,.lit (.int d j)=>match Cm m sz cells with
  |some (g,rows)=>some (az j&&aj j (m:Int),.cptr (aK [g] (rows.getD j.toNat [])))
  | none=>match kI k (.cptr cells) (.lit (.int d j)) with
   |some v=>some (true,v)
   |none=>none
 | _,_,_=>match kI k x i with
  |some v=>some (true,v)
  |none=>none
def uv:List AV→Option (List Int)
 | []=>some []
 | .lit (.int .i64 n)::l=>match uv l with
  |some q=>some (n::q)
  |none=>none
 |_=>none
theorem Js:∀{cells:List AV} {l:List Int},uv cells=some l→∀ i,i<l.length→cells[i]? = some (.lit (.int .i64 (l.getD i 0)))
 | [],l,h,i,hi=>by
  simp only[uv,aV]at h;subst h;simp at hi
 | c::cells,l,h,i,hi=>by
  unfold uv at h;split at h
  ·rename_i he
   cases he
  ·rename_i n l' he
   cases he;split at h
   ·rename_i q d
    cases h;cases i with
    |zero=>rfl
    | succ i =>
     simp only[List.length_cons]at hi;have:=Js d i (by omega);simpa using this
   ·cases h
  ·cases h
def Co(k:SK)(x i:AV):Option (Bool × AV) :=
 match k,x,i with
 |.str,.lit (.string s),.lit (.int _ j)=>some (az j&&aj j (s.size:Int),.lit (.int .u8 ((s.data.toList.getD j.toNat 0).toNat)))
 | .array m _ 1 false,.agg cells,.lit (.int _ j)=>match uv cells with
  |some l=>bif c_ m l.length then some (az j&&aj j (m:Int),.lit (.int .i64 (l.getD j.toNat 0))) else none
  | none=>match nz k x i with
   |some v=>some (true,v)
   |none=>none
 | _,_,_=>match nz k x i with
  |some v=>some (true,v)
  |none=>none
def Cp(op:UnOp)(x:AV):Option (Bool × AV) :=
 match op,x with
 |.neg,.lit (.int .i64 n)=>some (ao (0-n),.lit (.int .i64 (0-n)))
 | _,_=>match qE op x with
  |some v=>some (true,v)
  |none=>none
def Cq(P:Program)(s d:TypeId)(x:AV):Option (Bool × AV) :=
 match P.underlying s,b9 P d,x with
 |some _,.int .i64,.lit (.int _ n)=>some (ao n,.lit (.int .i64 n))
 | _,_,_=>match qF P s d x with
  |some v=>some (true,v)
  |none=>none
def Cr(P:Program)(r:Operand→AV)(o:Op):Option (Bool × AV) :=
 match o with
 |.indexAddr t x i=>Cn (b9 P t) (r x) (r i)
 |.index t x i=>Co (b9 P t) (r x) (r i)
 |.binOp op t x y _=>Cl P op t (lq x||lq y) (r x) (r y)
 |.slice t x lo hi mx=>Cg P t (r x) (lo.map r) (hi.map r) (mx.map r)
 |.unOp op _ x=>Cp op (r x)
 |.convert s d x=>Cq P s d (r x)
 | o=>match gL P r o with
  |some v=>some (true,v)
  |none=>none
theorem nJ{x:Option AV}{b:Bool}{v:AV} (h:(match x with|some v=>some (true,v)|none=>none)=some (b,v)):x=some v:=by
 split at h
 ·cases h; rfl
 ·cases h
theorem po{n:Int}(h:ao n=true):IntKind.i64.wrap n=n:=by
 rw[kP]at h;simp[IntKind.wrap,IntKind.bits,IntKind.signed];omega
theorem TG{P:Program}{op:BinOp}{t:TypeId}{q:Bool}{x y v:AV}{b:Bool}(h:Cl P op t q x y=some (b,v))(hb:b=true):gj P op t q x y=some v:=by
  unfold Cl at h;split at h
  · simp only [rq, aV, ba] at h
    obtain⟨h1,rfl⟩:=h;subst hb;simp[gj,gT,lg,po h1]
  · simp only [rq, aV, ba] at h
    obtain⟨h1,rfl⟩:=h;subst hb;simp[gj,gT,lg,po h1]
  · simp only [rq, aV, ba] at h
    obtain⟨h1,rfl⟩:=h;subst hb;simp[gj,gT,lg,po h1]
  · simp only [aV, ba] at h
    obtain⟨h1,rfl⟩:=h;subst hb;simp only[ax,l_,beq_eq_false_iff_ne]at h1;simp[gj,gT,lg,h1.1,po h1.2]
  · simp only [aV, ba] at h
    obtain⟨h1,rfl⟩:=h;subst hb;simp only[l_,beq_eq_false_iff_ne]at h1;simp[gj,gT,lg,h1]
  · simp only [aV, ba] at h
    obtain⟨h1,rfl⟩:=h;subst hb;have g:=th h1;have d:∀ k:Nat,k≤9223372036854775807→¬ ((k:Int)>IntKind.i64.max):=fun k hk=>by
      show ¬ ((k:Int)>(9223372036854775807:Int))
      omega
    simp only[gj,gT,Bb,if_neg (d _ g)]
  all_goals first
    |exact nJ h
    | (split at h
       case isFalse=>cases h
       rename_i hk;subst hk;cases h;simp[gj,gT,lg,dm,eu])
    | (simp only [aV, ba] at h
       obtain⟨h1,rfl⟩:=h;subst hb;simp only[jz,decide_eq_true_eq]at h1;simp only[gj,gT,if_neg (Int.not_lt.2 h1)])
    | (split at h
       · rename_i h1 g
         simp only[aV,ba]at h;obtain⟨d,rfl⟩:=h;subst hb;simp only[kC]at d;simp only[gj,h1,if_pos d,g]
       · cases h)
theorem TH{k:SK}{x i v:AV}{b:Bool}(h:Cn k x i=some (b,v))(hb:b=true):kI k x i=some v:=by
 unfold Cn at h;split at h
 ·split at h
  ·rename_i hw
   simp only[aV,ba]at h;obtain⟨h1,rfl⟩:=h;subst hb;simp only[jz,dm,ax,decide_eq_true_eq]at h1;simp[kI,hw,h1.1,h1.2]
  ·cases h
 ·split at h
  ·rename_i hw
   simp only[aV,ba]at h;obtain⟨h1,rfl⟩:=h;subst hb;simp only[jz,dm,ax,decide_eq_true_eq]at h1;simp[kI,hw,h1.1,h1.2]
  ·cases h
 ·split at h
  ·rename_i g rows d
   simp only[aV,ba]at h;obtain⟨h1,rfl⟩:=h;subst hb;simp only[jz,dm,ax,decide_eq_true_eq]at h1;rw[TF d (by omega)];simp[kI,h1.1,h1.2]
  ·exact nJ h
 ·exact nJ h
theorem TI{k:SK}{x i v:AV}{b:Bool}(h:Co k x i=some (b,v))(hb:b=true):nz k x i=some v:=by
 unfold Co at h;split at h
 ·rename_i s g j
  simp only[aV,ba]at h;obtain⟨h1,rfl⟩:=h;subst hb;simp only[jz,dm,ax,decide_eq_true_eq]at h1;have d:j.toNat<s.size:=by omega
  have e:s[j.toNat]? = some (s.data.toList.getD j.toNat 0):=by
   have q:j.toNat<s.data.toList.length:=by simpa using d
   rw[cf,bI q];simp only[getElem?,decidableGetElem?,d,dite_true,Option.getD_some];rfl
  simp only[nz,h1.1,h1.2,and_self,if_true,e]
 ·rename_i m e cells g j
  split at h
  ·rename_i l u
   cases hm:c_ m l.length with
   |false=>rw[hm]at h; cases h
   | true =>
    rw[hm]at h;simp only[cond_true,aV,ba]at h;obtain⟨h1,rfl⟩:=h;subst hb;rw[qn]at hm;simp only[jz,dm,ax,decide_eq_true_eq]at h1;have y:=Js u j.toNat (by omega);simp only[nz,h1.1,h1.2,and_self,if_true,gI,k_,if_false,aeU,qd,Nat.add_zero,y]
  ·exact nJ h
 ·exact nJ h
theorem TJ{op:UnOp}{x v:AV}{b:Bool}(h:Cp op x=some (b,v))(hb:b=true):qE op x=some v:=by
 unfold Cp at h;split at h
 ·simp only [aV, ba] at h
  obtain⟨h1,rfl⟩:=h;subst hb;simp only[qE,po h1]
 ·exact nJ h
theorem TK{P:Program}{s d:TypeId}{x v:AV}{b:Bool}(h:Cq P s d x=some (b,v))(hb:b=true):qF P s d x=some v:=by
 unfold Cq at h;split at h
 ·rename_i g k
  simp only[aV,ba]at h;obtain⟨h1,rfl⟩:=h;subst hb;simp only[qF,g,k,po h1]
 ·exact nJ h
theorem TL{P:Program}{r:Operand→AV}{o:Op}{b:Bool}{v:AV}(h:Cr P r o=some (b,v))(hb:b=true):gL P r o=some v:=by
 cases o<;>simp only[Cr]at h<;>try exact nJ h
 case binOp=>simp only[gL]; exact TG h hb
 case indexAddr=>simp only[gL]; exact TH h hb
 case index=>simp only[gL]; exact TI h hb
 case slice=>simp only[gL]; exact Tn h hb
 case unOp=>simp only[gL]; exact TJ h hb
 case convert=>simp only[gL]; exact TK h hb
inductive Tree where
 |fail
 |done (x:bR) (s:al)
 |ask (b:Bool) (t e:Tree)
 |side (b:Bool) (t:Tree)
def Tree.holds(Q:bR→al→Prop):Tree→Prop
 |.fail=>False
 |.done x s=>Q x s
 |.ask b t e=>(b=true→t.holds Q)∧(b=false→e.holds Q)
 |.side b t=>b=true∧t.holds Q
structure ar where
 pf:FuncId→Bool
 T:FuncId→List AV→Option (Bool × AV)
 W:FuncId→List AV→List ah→Option (Bool × AV × List ah)
 C:FuncId→List AV→List ah→List Nat
 I:FuncId→List AV→List ah→Option Tree:=fun _ _ _=>none
 N:FuncId→Bool:=fun _=>false
 U:FuncId→Bool:=fun _=>true
structure au (P:Program) (τ:ar):Prop where
 T:∀ f args b v,τ.T f args=some (b,v)→b=true→eX P f=true∧eg P f args v
 W:∀ f args H b v H',τ.W f args H=some (b,v,H')→b=true→eX P f=true∧dG P f args (ak H) v (ak H')
 C:∀ f args H b v H',τ.W f args H=some (b,v,H')→∀ A,A∉τ.C f args H→A<H.length→H'[A]? = H[A]?
 I:∀ f args H t,τ.I f args H=some t→∀ Q:bR→al→Prop,t.holds Q→eX P f=true∧∃ v H',dG P f args (ak H) v (ak H')∧(∀ A,A∉τ.C f args H→A<H.length→H'[A]? = H[A]?)∧Q .normal ⟨[v],H'⟩
 F:(∀ f,τ.U f=false→∀ args H,τ.W f args H=none∧τ.C f args H=[])∧∀ f,τ.N f=true→∀ args H b v H',τ.W f args H=some (b,v,H')→∀ id o,id<H.length→id∉τ.C f args H →
  τ.W f args (H.set id o)=some (b,v,H'.set id o)∧τ.C f args (H.set id o)=τ.C f args H
def Tree.uw(k:AV→List ah→Tree):Tree→Tree
 |.fail=>.fail
 |.done _ s=>k (s.fr.headD .undef) s.H
 |.ask b t e=>.ask b (t.uw k) (e.uw k)
 |.side b t=>.side b (t.uw k)
theorem Tree.xS{k:AV→List ah→Tree}{Q:bR→al→Prop}:∀{t:Tree},(t.uw k).holds Q→t.holds fun _ s=>(k (s.fr.headD .undef) s.H).holds Q
 |.fail,h=>h
 |.done _ _,h=>h
 |.ask _ t e,h=>⟨fun hb=>xS (t:=t) (h.1 hb),fun hb=>xS (t:=e) (h.2 hb)⟩
 |.side _ t,h=>⟨h.1,xS (t:=t) h.2⟩
inductive Want where
 |bad|yes|no
 |test (t:Tmp) (b:Bool) (want:Bool)
def nK(ops:Array Oper)(fr:List AV)(o:Oper):Want :=
 match o.guard with
 |none=>.yes
 | some (j,want)=>match (ops[j]?).bind (·.dst) with
  | some t=>match fr[t]? with
   |some (.lit (.bool b))=>.test t b want
   |some (.tuple [])=>.no
   |_=>.bad
  |none=>.bad
def xT:AV→Option Bool
 |.lit (.bool b)=>some b
 |_=>none
def ux(H:List ah):AV→Bool × AV
 | .vec w id ae off n=>match H[id]? with
  |some (.vec ks v rows)=>if ae=v∧ks.length=w∧off=0 then (ad n rows.length,.listF ks rows) else (true,.vec w id ae off n)
  |_=>(true,.vec w id ae off n)
 | .ptr id ae k row col=>match H[id]? with
  |some (.raw (.box cells))=>if ae=0∧row=0∧col=0∧AV.bp cells=true then (true,.cptr cells) else (true,.ptr id ae k row col)
  |_=>(true,.ptr id ae k row col)
 |a=>(true,a)
def pq(H:List ah):List AV→Bool × List AV
 | []=>(true,[])
 | a::as=>match ux H a,pq H as with
  |(b,g),(h,d)=>(b&&h,g::d)
def xU(H:List ah):AV→Bool × AV
 | .clo f caps=>match pq H caps with
  |(b,d)=>(b,.clo f d)
 |a=>ux H a
def nL(H:List ah):List AV→Bool × List AV
 | []=>(true,[])
 | a::as=>match xU H a,nL H as with
  |(b,g),(h,d)=>(b&&h,g::d)
def xV:List AV→Bool
 | []=>true
 |.lit _::as=>xV as
 |_::_=>false
def xW:AV→Bool
 |.lit _=>true
 |.tuple vs=>xV vs
 |_=>false
def Cs(P:Program)(r:Operand→AV)(H:List ah)(o:Op):Option AV :=
 match o with
 | .call c=>match c.callee,c.args.toList,c.argTypes.toList with
  | .builtin .len,[a],[t]=>match cX P t,r a with
   | some _,.map id=>match H[id]? with
    |some (.map _ _ rows _)=>some (.lit (.int .i64 rows.length))
    |_=>none
   |_,_=>none
  |_,_,_=>none
 |_=>none
theorem TM{P:Program}{r:Operand→AV}{H:List ah}{o:Op}{v:AV}(h:Cs P r H o=some v):eF P r (ak H) o=some v:=by
 unfold Cs at h;split at h
 ·rename_i c
  simp only[eF];split at h
  ·rename_i a t d ha g
   unfold nC;rw[d,ha,g];simp only[];split at h
   ·rename_i p id k hm
    rw[k,hm];simp only[];split at h
    ·rename_i K V rows cl hid
     cases h;rw[bh hid];simp[ah.den,da]
    ·cases h
   ·cases h
  ·cases h
 ·cases h
def Cu(v:AV)(H:List ah):Option (Bool × AV × List ah) :=
 match v with
 | .vec w id ae off n=>match H[id]? with
  |some (.vec ks u rows)=>if ae=u∧off=0∧w=ks.length then some (ad n rows.length,.listF ks rows,H.set id (.raw .dead)) else none
  |_=>none
 |_=>none
def uy(P:Program)(r:Operand→AV)(H:List ah):Op→Option (Bool × List ah)
 | .store t a x=>match Cu (r x) H with
  | some (b0,v1,H1)=>match qY P t (r a) v1 H1 with
   |some (b1,H')=>some (b0&&b1,H')
   |none=>none
  |none=>none
 |_=>none
theorem TN{P:Program}{r:Operand→AV}{H H':List ah}{o:Op}{b:Bool}(h:uy P r H o=some (b,H'))(hb:b=true):qN P r (ak H) .undef (ak H') o:=by
 unfold uy at h;split at h
 case h_2=>cases h
 rename_i t a x;split at h
 case h_2=>cases h
 rename_i b0 v1 H1 d;split at h
 case h_2=>cases h
 rename_i b1 H2 k;simp only[aV,ba]at h;obtain⟨h1,rfl⟩:=h;subst hb;simp only[ax]at h1;unfold Cu at d;split at d
 case h_2=>cases d
 rename_i w id ae off n q;split at d
 case h_2=>cases d
 rename_i ks u rows hid;split at d
 case isFalse=>cases d
 rename_i v;obtain⟨rfl,rfl,rfl⟩:=v;simp only[aV,ba]at d;obtain⟨g,rfl,rfl⟩:=d;rw[h1.1]at g;have g:=br g;subst g;refine⟨.listF ks rows,(ak H).set id .dead,⟨id,ae,ks,rows,q,?_,rfl,rfl⟩,?_,rfl⟩
 ·rw [bh hid]
  rfl
 ·have := Jc k h1.2
  rw[c7]at this;exact this
def nM(P:Program)(τ:ar)(o:Oper)(s:al)(k:AV→List ah→Tree):Tree :=
 match o.op with
 | .pick c a b=>match xT (s.eval c) with
  |some t=>.ask t (k (s.eval a) s.H) (k (s.eval b) s.H)
  |none=>.fail
 | .load t a=>match Cd P t (s.eval a) s.H with
  |some (b,v)=>.side b (k v s.H)
  |none=>.fail
 | .lookup t m x ok=>match Ch P t (s.eval m) (s.eval x) ok s.H with
  | some (b,v)=>match cG τ.pf o.op,ok with
   |.read,_=>.side b (k v s.H)
   |.write,false=>.side b (k v s.H)
   |_,_=>.fail
  | none=>match cG τ.pf o.op with
   | .write=>match rm P s.eval s.H o.op with
    |some (b,v,H')=>.side b (k v H')
    |none=>.fail
   | .read=>match Ck P t (s.eval m) (s.eval x) ok s.H with
    |some (b,v)=>.side b (k v s.H)
    |none=>.fail
   |.pure=>.fail
 | _=>match cG τ.pf o.op with
  | .read=>match Cs P s.eval s.H o.op with
   |some v=>k v s.H
   |none=>.fail
  | .pure=>match g_ s.eval o.op with
   | some (f,args)=>match τ.T f args with
    |some (b,v)=>.side b (k v s.H)
    |none=>.fail
   | none=>match Cr P s.eval o.op with
    |some (b,v)=>.side b (k v s.H)
    |none=>.fail
  | .write=>match g_ s.eval o.op with
   | some (f,args)=>match τ.W f args s.H with
    |some (b,v,H')=>.side b (k v H')
    | none=>match τ.I f args s.H with
     |some t=>t.uw k
     | none=>match τ.T f args with
      |some (b,v)=>.side b (k v s.H)
      | none=>match nL s.H args with
       | (g,d)=>match τ.T f d with
        | some (b,v)=>match xW v&&AV.bp d with
         |true=>.side (g&&b) (k v s.H)
         |false=>.fail
        |none=>.fail
   | none=>match rm P s.eval s.H o.op with
    |some (b,v,H')=>.side b (k v H')
    | none=>match uy P s.eval s.H o.op with
     |some (b,H')=>.side b (k .undef H')
     |none=>.fail
def al.slot(s:al)(t:Tmp)(b:Bool):al:=⟨s.fr.set t (.lit (.bool b)),s.H⟩
def Cv(P:Program)(τ:ar)(ops:Array Oper)(o:Oper)(s:al)(k:al→Tree):Tree :=
 match nK ops s.fr o with
 |.bad=>.fail
 |.no=>k (s.put o.dst (.tuple []) s.H)
 |.yes=>nM P τ o s fun v H'=>k (s.put o.dst v H')
 | .test t b want=>.ask b
   (match want with
    |true=>nM P τ o (s.slot t true) fun v H'=>k ((s.slot t true).put o.dst v H')
    |false=>k ((s.slot t true).put o.dst (.tuple []) s.H))
   (match want with
    |true=>k ((s.slot t false).put o.dst (.tuple []) s.H)
    |false=>nM P τ o (s.slot t false) fun v H'=>k ((s.slot t false).put o.dst v H'))
def lv(P:Program)(τ:ar)(ops:Array Oper):List Oper→al→(al→Tree)→Tree
 | [],s,k=>k s
 |o::rest,s,k=>Cv P τ ops o s fun s1=>lv P τ ops rest s1 k
def fi:AV→Option Nat
 |.ptr id _ _ _ _=>some id
 |.vec _ id _ _ _=>some id
 |.map id=>some id
 |.sub id _ _=>some id
 |_=>none
def jE(τ:ar)(r:Operand→AV)(H:List ah)(op:Op):List Nat :=
 match g_ r op with
 |some (f,args)=>τ.C f args H
 |none=>op.operands.toList.filterMap fun x=>fi (r x)
structure Acc where
 R:iX
 W:hZ
def uz(ids:List Nat)(i:Nat):Bool := !ids.any (ad i)
def Cw(ops:Array Oper)(j id:Nat)(acc:Acc):Option Acc :=
 match acc.W.all fun e=>waits ops ops.size j e.1||(uz e.2.1 id&&fe id e.2.2)with
 |true=>some ⟨(j,id)::acc.R,acc.W⟩
 |false=>none
def xX(ops:Array Oper)(j:Nat)(T:List Nat)(n:Nat)(acc:Acc):Option Acc :=
 match acc.R.all fun e=>waits ops ops.size j e.1||(uz T e.2&&fe e.2 n)with
 | true=>match acc.W.all fun e=>waits ops ops.size j e.1||((T.all fun id=>uz e.2.1 id&&fe id e.2.2)&&e.2.1.all fun id=>fe id n) with
  |true=>some ⟨acc.R,(j,T,n)::acc.W⟩
  |false=>none
 |false=>none
def Cx(τ:ar)(ops:Array Oper)(j:Nat)(o:Oper)(s:al)(acc:Acc):Option Acc :=
 match cG τ.pf o.op with
 |.pure=>some acc
 | .read=>match kN s.eval o.op with
  |some id=>Cw ops j id acc
  |none=>some acc
 |.write=>xX ops j (jE τ s.eval s.H o.op) s.H.length acc
def gZ:Kd→Value→Option G
 |.int k,.int k' n=>if k=k' then some (.i n) else none
 |.str,.string s=>some (.s s)
 |.bool,.bool b=>some (.t b)
 |.list _,.slice none 0 0=>some (.l [])
 |_,_=>none
def rr:List Kd→List Value→Option (List G)
 | [],[]=>some []
 | k::ks,v::z=>match gZ k v,rr ks z with
  |some g,some gs=>some (g::gs)
  |_,_=>none
 |_,_=>none
def mK:Kd→Option (List Kd)
 |.list ks=>some ks
 |_=>none
def mZ:List Kd→List (Option (List Kd)):=List.map mK
theorem TO{k:Kd}{v:Value}{g:G}(h:gZ k v=some g):iB k g=zc (mK k) v:=by
 cases k with
 | int k =>
  cases v with
  | int k' n =>
   simp only[gZ]at h;by_cases e:k=k'
   ·rw [if_pos e] at h
    cases h;subst e;rfl
   ·rw [if_neg e] at h
    cases h
  |_=>cases h
 |str=>cases v<;>first|(cases h; rfl)|cases h
 |bool=>cases v<;>first|(cases h; rfl)|cases h
 | list ks =>
  cases v with
  |slice b n c=>cases b<;>cases n<;>cases c<;>first|(cases h; rfl)|cases h
  |_=>cases h
theorem Jt:∀{ks:List Kd} {z:List Value} {g:List G},rr ks z=some g→aK ks g=dM (mZ ks) z
 | [],[],g,h=>by cases h; rfl
 | [],_::_,g,h=>by cases h
 |_::_,[],g,h=>by cases h
 | k::ks,v::z,g,h=>by
  simp only[rr]at h;split at h
  ·rename_i g0 gs h1 d
   cases h;have q:=Jt d;simp only[aK,wM,List.tail_cons,q,TO h1];rfl
  ·cases h
def pr(z:List Value):List ah→Nat→Option (Nat × List Kd × List G)
 | [],_=>none
 | .vec ks 0 rows::H,i=>match rr ks z with
  | some g=>match rows with
   | []=>some (i,ks,g)
   |_::_=>pr z H (i+1)
  |none=>pr z H (i+1)
 |_::H,i=>pr z H (i+1)
def uA:List ah→Nat→Option Nat
 | [],_=>none
 |.raw .dK::_,i=>some i
 |_::H,i=>uA H (i+1)
def TP(P:Program)(t:TypeId):Option (Ct × Ct) :=
 match cX P t with
 | some (g,d)=>match nH P g,nH P d with
  |some (K,_),some (V,_)=>some (K,V)
  | some (K,_),none=>match cX P d with
   |some _=>some (K,K)
   |none=>none
  |_,_=>none
 |none=>none
def Cy(P:Program)(op:Op)(H:List ah):Option (Nat × AV × List ah) :=
 match op with
 | .alloc t=>match dV P t with
  | some z=>match pr z H 0 with
   |some (id,ks,g)=>some (id,.ptr id 1 ks.length 0 0,H.set id (.vec ks 1 [g]))
   |none=>none
  |none=>none
 | .makeMap t none=>match TP P t with
  | some (K,V)=>match uA H 0 with
   |some id=>some (id,.map id,H.set id (.map K V [] 0))
   |none=>none
  |none=>none
 |_=>none
def Cz(τ:ar)(o:Oper)(s:al):Bool:=match cG τ.pf o.op with
 | .write=>match g_ s.eval o.op with
  | some (f,args)=>match τ.N f with
   |true=>(τ.W f args s.H).isSome
   |false=>false
  |none=>false
 |_=>true
def uB(P:Program)(τ:ar)(ops:Array Oper)(j:Nat)(o:Oper)(s:al)(acc:Acc)(k:al→Acc→Tree):Tree :=
 match mz ops&&dX o.op with
 | true=>match Cy P o.op s.H with
  | some (id,v,H')=>match xX ops j [id] s.H.length acc with
   |some d=>k (s.put o.dst v H') d
   |none=>.fail
  |none=>.fail
 | false=>match nD ops&&jZ o.op && !Cz τ o s with
  |true=>.fail
  | false=>match Cx τ ops j o s acc with
   |some d=>nM P τ o s fun v H'=>k (s.put o.dst v H') d
   |none=>.fail
def CA(P:Program)(τ:ar)(ops:Array Oper)(j:Nat)(o:Oper)(s:al)(acc:Acc)(k:al→Acc→Tree):Tree :=
 match nK ops s.fr o with
 |.bad=>.fail
 |.no=>k (s.put o.dst (.tuple []) s.H) acc
 |.yes=>uB P τ ops j o s acc k
 | .test t b want=>.ask b
   (match want with
    |true=>uB P τ ops j o (s.slot t true) acc k
    |false=>k ((s.slot t true).put o.dst (.tuple []) s.H) acc)
   (match want with
    |true=>k ((s.slot t false).put o.dst (.tuple []) s.H) acc
    |false=>uB P τ ops j o (s.slot t false) acc k)
def CB(P:Program)(τ:ar)(ops:Array Oper):List Oper→Nat→al→Acc→(al→Tree)→Tree
 | [],_,s,_,k=>k s
 |o::rest,j,s,acc,k=>CA P τ ops j o s acc fun s1 d=>CB P τ ops rest (j+1) s1 d k
def Ju(k:al→Tree)(K:bR→al→Tree):bR→al→Tree
 |.normal,s=>k s
 |x,s=>K x s
def Jv(id:Nat)(K:bR→al→Tree):bR→al→Tree
 |.exit i,s=>if i=id then K .normal s else K (.exit i) s
 |x,s=>K x s
def Tree.bind(K:bR→al→Tree):Tree→Tree
 |.fail=>.fail
 |.done x s=>K x s
 |.ask b t e=>.ask b (t.bind K) (e.bind K)
 |.side b t=>.side b (t.bind K)
def kT:Code→Option Nat
 |.region id _ _=>some id
 | .seq a b=>match kT a with
  |some i=>some i
  |none=>kT b
 |.block _ c=>kT c
 | .cond _ a b=>match kT a with
  |some i=>some i
  |none=>kT b
 |.loop c=>kT c
 |_=>none
def pt:Code→Nat
 | .seq a b=>match kT a with
  |some _=>pt a
  |none=>pt b
 |.block _ c=>pt c
 | .cond _ a b=>match kT a with
  |some _=>pt a
  |none=>pt b
 |.loop c=>pt c+1
 |_=>0
def Jw(c:Code):Option Nat:=match kT c with
 |some i=>some (i+1000*pt c)
 |none=>none
def bK:Code→List (Nat × Code)
 |.seq a b=>bK a++bK b
 |.cond _ a b=>bK a++bK b
 |.block _ c=>bK c
 | .loop c=>match Jw c with
  |some k=>(k,c)::bK c
  |none=>bK c
 |_=>[]
def TQ(k:al→Tree)(K:bR→al→Tree):bR→al→Tree
 |.normal,s=>k s
 |.exit i,s=>K (.exit i) s
 |.ret,s=>K .ret s
def xY(body:al→(bR→al→Tree)→Tree):Nat→al→(bR→al→Tree)→Tree
 |0,_,_=>.fail
 |n+1,s,K=>body s (TQ (fun s'=>xY body n s' K) K)
def bG:Code→List (Nat × Code)
 | .seq a b=>bG a++((match kT b with
  |some k=>[(k,b)]
  |none=>[])++bG b)
 |.cond _ a b=>bG a++bG b
 |.block _ c=>bG c
 |.loop c=>bG c
 |_=>[]
structure LT where
 loops:Nat→al→Option Tree
 pre:Nat→al→Bool × al
 uC:Nat→al→Option Tree
def Jx(L:LT)(k:Option Nat)(s:al):Option Tree :=
 match k with
 |some i=>L.uC i s
 |none=>none
def dY(P:Program)(τ:ar)(L:LT):Code→al→(bR→al→Tree)→Tree
 |.skip,s,K=>K .normal s
 | .region id ops draw,s,K=>match draw && !qO τ.pf ops with
  | true=>match qW τ.pf ops with
   |true=>.side (L.pre id s).1 (CB P τ ops ops.toList 0 (L.pre id s).2 ⟨[],[]⟩ (K .normal))
   |false=>.fail
  |false=>.side (L.pre id s).1 (lv P τ ops ops.toList (L.pre id s).2 (K .normal))
 | .seq a b,s,K=>dY P τ L a s (Ju (fun s1=>match Jx L (kT b) s1 with
  |some t=>t.bind K
  |none=>dY P τ L b s1 K) K)
 | .cond c a b,s,K=>match xT (s.eval c) with
  |some t=>.ask t (dY P τ L a s K) (dY P τ L b s K)
  |none=>.fail
 |.block id c,s,K=>dY P τ L c s (Jv id K)
 | .loop c,s,K=>match Jw c with
  | some i=>match L.loops i s with
   |some t=>t.bind K
   |none=>xY (fun s1 d=>dY P τ L c s1 d) 400 s K
  |none=>.fail
 |.exit id,s,K=>K (.exit id) s
 |.ret,s,K=>K .ret s
 |_,_,_=>.fail
def Jy(P:Program)(m:Nat)(c:Code)(s:al)(t:Tree):Prop:=∀ Q:bR→al→Prop,t.holds Q→∃ x s',jY P m c s.den x s'.den∧Q x s'
def xZ(P:Program)(m:Nat)(c:Code)(s:al)(t:Tree):Prop:=∀ Q:bR→al→Prop,t.holds Q→∃ x s',cU P m c s.den x s'.den∧Q x s'
def ay(P:Program)(m:Nat)(L:LT)(c:Code):Prop:=(∀ k d,(k,d)∈bK c→∀ s t,L.loops k s=some t→Jy P m d s t)∧(∀ id s,(L.pre id s).1=true→bt m s.den (L.pre id s).2.den) ∧
 ∀ k d,(k,d)∈bG c→∀ s t,L.uC k s=some t→xZ P m d s t
theorem ay.sub{P:Program}{m:Nat}{L:LT}{c g:Code}(h:ay P m L c)(h1:∀ p,p∈bK g→p∈bK c)(q:∀ p,p∈bG g→p∈bG c):ay P m L g :=
 ⟨fun k d hk=>h.1 k d (h1 _ hk),h.2.1,fun k d hk=>h.2.2 k d (q _ hk)⟩
theorem Jz{a:AV}{b:Bool}(h:xT a=some b):a=.lit (.bool b):=by
 unfold xT at h;split at h
 ·cases h; rfl
 ·cases h
theorem JA{E E':Env}:∀{vs:List AV} {us:List Value},xV vs=true→af E vs us→af E' vs us
 | [],[],_,_=>by simp[af]
 | [],_::_,_,h=>by simp[af]at h
 | a::vs,us,d,h=>by
  unfold xV at d;split at d
  ·rename_i heq; cases heq
  ·rename_i heq
   cases heq;cases us with
   |nil=>simp[af]at h
   | cons u us =>
    simp only[af,rel]at h⊢;exact⟨h.1,JA d h.2⟩
  ·cases d
theorem TR{E E':Env}{v:AV}{u:Value}(d:xW v=true)(h:rel E v u):rel E' v u:=by
 unfold xW at d;split at d
 ·simpa only[rel]using h
 ·simp only [rel] at h ⊢
  obtain⟨cs,e,g⟩:=h;exact⟨cs,e,JA d g⟩
 ·cases d
def Env.bare(E:Env)(w:World):Env:={ w:=w,H:=[],loc:=[],X:=E.X.re dE }
theorem x8{E:Env}{w:World}(b:Nat):¬ (E.bare w).own b:=by rintro(⟨id,c,h⟩|⟨l,k,c,h⟩); simp[Env.bare]at h; simp[Env.bare,dE]at h
theorem nN(E:Env):E.bF (E.bare E.w):=⟨fun b hb=>⟨⟨hb.1,x8 b,hb.2.2⟩,rfl⟩⟩
theorem TS{E:Env}(HE:aq E):aq (E.bare E.w):=by
 refine⟨rfl,?_,?_,HE.X,?_,HE.eW.bF (nN E),fun l k l' k' b m n hk=>by simp[Env.bare,dE]at hk,fun i b m l k n hi=>by simp[Env.bare]at hi,fun l k b m hk=>by simp[Env.bare,dE]at hk,fun i j o o' l hi=>by simp[Env.bare]at hi,fun l _ k q hk=>by simp[Env.bare,dE]at hk⟩
 ·intro i j b m n hi; simp[Env.bare]at hi
 ·intro i b m hi; simp[Env.bare]at hi
 ·intro i o hi; simp[Env.bare]at hi
theorem JB{E:Env}(HE:aq E){H:List ah}(hH:E.H=ak H){id ae n w:Nat}{ks:List Kd}{rows:List (List G)}{c:Value}
  (hid:H[id]? = some (.vec ks ae rows)) (hw:ks.length=w) (v:n=rows.length) (d:rel E (.vec w id ae 0 n) c):rel (E.bare E.w) (.listF ks rows) c:=by
 subst hw v;have h:E.H[id]? = some (.vec ks.length ae (rows.map (aK ks))):=by rw[hH]; exact bh hid
 have ho:=HE.obj id _ h;rw[iR];simp only[rel]at d⊢;obtain⟨⟨base,cap,rfl,u,_⟩,_,y⟩:=d;obtain⟨M,B⟩:=y ⟨_,h,rfl⟩;have k:eV (rows.map (aK ks)):=by
  intro r d;obtain⟨g,_,rfl⟩:=dD.1 d;exact fE ks g
 refine⟨k,base,cap,by simp,by simpa using u,?_⟩;simp only[aM]at ho;rcases ho with⟨h1,q⟩|⟨b,m,h1,q,I,_,J⟩
 ·exact .inl q
 ·obtain ⟨g1, o, g2, g3⟩ := B b m h1
  by_cases hm:rows=[]
  ·subst hm; exact .inl rfl
  ·right
   have:0<rows.length:=by cases rows with|nil=>exact(hm rfl).elim|cons _ _=>simp
   simp at I;have ho:=g2 (by omega);simp at ho;subst ho;simp only[jQ]at g3;refine⟨b,0,g3.1,⟨(HE.lt id b m h1).1,x8 b,(HE.lt id b m h1).2⟩,?_⟩;exact kF (nN E) _ k rfl J
theorem TT{E:Env}(HE:aq E){H:List ah}(hH:E.H=ak H){id k:Nat}{cells:List AV}{c:Value} (hid:H[id]? = some (.raw (.box cells))) (g:AV.bp cells=true)
  (h:rel E (.ptr id 0 k 0 0) c):rel (E.bare E.w) (.cptr cells) c:=by
 have d:E.H[id]? = some (.box cells):=by rw[hH]; exact bh hid
 have ho:=HE.obj id _ d;simp only[aM]at ho;obtain⟨b,n,h1,v,q⟩:=ho;simp only[rel]at h⊢;obtain⟨_,_,u⟩:=h;obtain⟨y,B,g1,g2⟩:=u ⟨_,d,rfl⟩;rw[h1]at g1;simp only[aV,ba]at g1;obtain⟨rfl,rfl⟩:=g1;refine⟨g,b,0,by rw[g2]; simp,⟨(HE.lt id b n h1).1,x8 b,(HE.lt id b n h1).2⟩,?_⟩;exact qt (nN E) cells g rfl q
theorem JD{E:Env}(HE:aq E){H:List ah}(hH:E.H=ak H){a g:AV}{b:Bool}{c:Value}(h:ux H a=(b,g))(hb:b=true)(d:g.closed=true)(q:rel E a c):rel (E.bare E.w) g c:=by
 unfold ux at h;split at h
 ·split at h
  ·rename_i w id ae off n ks v rows hid
   split at h
   ·rename_i u
    obtain⟨rfl,y,rfl⟩:=u;simp only[ba]at h;obtain⟨h1,rfl⟩:=h;subst hb;exact JB HE hH hid y (br h1) q
   ·cases h; simp[AV.closed]at d
  ·cases h; simp[AV.closed]at d
 ·split at h
  ·rename_i id ae k row col _ cells hid
   split at h
   ·rename_i u
    obtain⟨rfl,rfl,rfl,B⟩:=u;cases h;exact TT HE hH hid B q
   ·cases h; simp[AV.closed]at d
  ·cases h; simp[AV.closed]at d
 ·cases h
  exact dF (nN E) _ d q
theorem JE{E:Env}(HE:aq E){H:List ah}(hH:E.H=ak H):∀{as g:List AV} {b:Bool} {cs:List Value},pq H as=(b,g)→b=true→AV.bp g=true→af E as cs →
  af (E.bare E.w) g cs
 | [],g,b,cs,h,_,_,d=>by
  simp only[pq]at h;cases h;cases cs with
  |nil=>simp[af]
  |cons _ _=>simp[af]at d
 | a::as,g,b,cs,h,hb,k,d=>by
  cases cs with
  |nil=>simp[af]at d
  | cons c cs =>
   simp only[af]at d;cases q:ux H a with
   |mk b1 y =>
   cases u:pq H as with
   |mk B v =>
   simp only[pq,q,u,ba]at h;obtain⟨h1,rfl⟩:=h;subst h1;simp only[ax]at hb;simp only[AV.bp,ax]at k;simp only[af];exact⟨JD HE hH q hb.1 k.1 d.1,JE HE hH u hb.2 k.2 d.2⟩
theorem TU{E:Env}(HE:aq E){H:List ah}(hH:E.H=ak H){a d:AV}{b:Bool}{c:Value}(h:xU H a=(b,d))(hb:b=true)(k:d.closed=true)(g:rel E a c):rel (E.bare E.w) d c:=by
 unfold xU at h;split at h
 ·rename_i f caps
  cases q:pq H caps with
  |mk b1 v =>
  rw[q]at h;cases h;simp only[rel]at g⊢;obtain⟨cs,e,u⟩:=g;exact⟨cs,e,JE HE hH q hb (by simpa only[AV.closed]using k) u⟩
 ·exact JD HE hH h hb k g
theorem JF{E:Env}(HE:aq E){H:List ah}(hH:E.H=ak H):∀{as g:List AV} {b:Bool} {cs:List Value},nL H as=(b,g)→b=true→AV.bp g=true→af E as cs →
  af (E.bare E.w) g cs
 | [],g,b,cs,h,_,_,d=>by
  simp only[nL]at h;cases h;cases cs with
  |nil=>simp[af]
  |cons _ _=>simp[af]at d
 | a::as,g,b,cs,h,hb,k,d=>by
  cases cs with
  |nil=>simp[af]at d
  | cons c cs =>
   simp only[af]at d;cases q:xU H a with
   |mk b1 y =>
   cases u:nL H as with
   |mk B v =>
   simp only[nL,q,u,ba]at h;obtain⟨h1,rfl⟩:=h;subst h1;simp only[ax]at hb;simp only[AV.bp,ax]at k;simp only[af];exact⟨TU HE hH q hb.1 k.1 d.1,JF HE hH u hb.2 k.2 d.2⟩
theorem TV{P:Program}{f:FuncId}{args d:List AV}{H:List ah}{b:Bool}{v:AV}(q:eg P f d v)(u:nL H args=(b,d))(hb:b=true)(k:AV.bp d=true)
  (y:xW v=true):dG P f args (ak H) v (ak H):=by
 intro E cargs hH HE h;refine(q [] (E.bare E.w) cargs rfl (TS HE) (JF HE hH u hb k h)).mono ?_;rintro _ w' ⟨c,B,H',rfl,⟨rfl,rfl⟩,J,r',g1,g2,g3⟩;have g:Ext E.w w':=⟨g3.size,fun x I=>g3.same x I (x8 x),g3.env⟩
 refine⟨c,B,ak H,rfl,⟨rfl,rfl⟩,E.loc,E.X.r,TR y g1,?_,?_⟩
 ·rw[←hH]; exact HE.ext g
 ·rw[←hH]; exact Env.iS g
section sound
variable {P:Program} {τ:ar}
theorem CC{ops:Array Oper}{o:Oper}{s:al}{v:AV}(hw:bO ops s.fr o=some true)(d:cG τ.pf o.op=.pure)
  (h:gL P s.eval o.op=some v∨∃ f args,g_ s.eval o.op=some (f,args)∧eX P f=true∧eg P f args v):Yields P τ.pf ops o s.den v (ak s.H):=by
 unfold Yields;rw[show s.den.fr=s.fr from rfl,hw];simp only[d,al.kQ];exact⟨rfl,h⟩
theorem pv{ops:Array Oper}{o:Oper}{s:al}{v:AV}{H':List ab}(hw:bO ops s.fr o=some true)(d:cG τ.pf o.op=.write)
  (h:cT P s.eval (ak s.H) o.op=some (v,H')∨∃ f args,g_ s.eval o.op=some (f,args)∧eX P f=true∧dG P f args (ak s.H) v H'):Yields P τ.pf ops o s.den v H':=by
 unfold Yields;rw[show s.den.fr=s.fr from rfl,hw];simp only[d,al.kQ];exact .inl h
/-! ### d g operation leaves alone -/
theorem gu{H:List ah}{id A:Nat}{o:ah}(h:A≠id):(H.set id o)[A]? = H[A]? := aQ (Ne.symm h)
theorem jF{H:List ah}{A:Nat}{o:ah}(h:A<H.length):(H++[o])[A]? = H[A]? := cI h
theorem JG{P:Program}{t:TypeId}{x v:AV}{H H':List ah}{b:Bool}{A:Nat}(h:qY P t x v H=some (b,H'))(g:fi x≠some A):H'[A]? = H[A]? := by
 unfold qY at h;split at h
 case h_2=>cases h
 rename_i n q cs id ae w row col u k;have d:A≠id:=fun e=>g (by rw[e]; rfl);split at h
 case isFalse=>cases h
 split at h
 ·split at h
  ·cases h; exact gu d
  ·cases h
 ·split at h
  ·split at h
   ·cases h; exact gu d
   ·cases h
  ·cases h
 ·cases h
theorem TW{P:Program}{t xt:TypeId}{s x v:AV}{H H':List ah}{b:Bool}{A:Nat}(h:uc P t xt s x H=some (b,v,H'))(d:A<H.length)(g:fi s≠some A):H'[A]? = H[A]? := by
 unfold uc at h;split at h
 case h_2=>cases h
 split at h
 case h_2=>cases h
 split at h
 case isFalse=>cases h
 split at h
 ·split at h
  ·split at h
   ·cases h; exact jF d
   ·cases h
  ·cases h
 ·split at h
  ·split at h
   ·cases h; exact jF d
   ·cases h
  ·cases h
 ·split at h
  ·split at h
   ·split at h
    ·cases h; exact gu fun e=>g (by rw[e]; rfl)
    ·cases h
   ·cases h
  ·cases h
 ·cases h
theorem TX{P:Program}{t xt:TypeId}{s x v:AV}{H H':List ah}{b:Bool}{A:Nat}(h:uo P t xt s x H=some (b,v,H'))(d:A<H.length):H'[A]? = H[A]? := by
 unfold uo at h;split at h
 case h_2=>cases h
 split at h
 case h_2=>cases h
 split at h
 case h_2=>cases h
 split at h
 case h_2=>cases h
 split at h
 ·cases h; exact jF d
 ·cases h
theorem TY{P:Program}{t:TypeId}{x:AV}{H H':List ah}{b:Bool}{A:Nat}(h:um P t x H=some (b,H'))(d:fi x≠some A):H'[A]? = H[A]? := by
 unfold um at h;split at h
 case h_2=>cases h
 split at h
 case h_2=>cases h
 split at h
 case h_2=>cases h
 split at h
 ·cases h; exact gu fun e=>d (by rw[e]; rfl)
 ·cases h
theorem JH{P:Program}{t:TypeId}{m k v:AV}{H H':List ah}{b:Bool}{A:Nat}(h:ra P t m k v H=some (b,H'))(d:fi m≠some A):H'[A]? = H[A]? := by
 unfold ra at h;split at h
 case h_2=>cases h
 split at h
 case h_2=>cases h
 split at h
 case h_2=>cases h
 split at h
 ·cases h; exact gu fun e=>d (by rw[e]; rfl)
 ·cases h
theorem TZ{P:Program}{t:TypeId}{m k v:AV}{H H':List ah}{b:Bool}{A:Nat}(h:ug P t m k v H=some (b,H'))(d:fi m≠some A)(g:fi v≠some A):H'[A]? = H[A]? := by
 unfold ug at h;split at h
 case h_2=>cases h
 split at h
 case h_2=>cases h
 split at h
 case h_2=>cases h
 split at h
 ·cases h
  rw[gu fun e=>g (by rw[e]; rfl)];exact gu fun e=>d (by rw[e]; rfl)
 ·cases h
theorem T0{P:Program}{t:TypeId}{m k v:AV}{H H':List ah}{b:Bool}{A:Nat}(h:uq P t m k v H=some (b,H'))(d:fi m≠some A):H'[A]? = H[A]? := by
 unfold uq at h;split at h
 case h_2=>cases h
 split at h
 case h_2=>cases h
 split at h
 case h_2=>cases h
 split at h
 ·cases h
  exact gu fun e=>d (by rw[e]; rfl)
 ·cases h
theorem T3{P:Program}{t:TypeId}{m k v:AV}{H H':List ah}{b:Bool}{A:Nat}(h:ur P t m k H=some (b,v,H'))(d:fi m≠some A):H'[A]? = H[A]? := by
 unfold ur at h;split at h
 case h_2=>cases h
 split at h
 case h_2=>cases h
 split at h
 case h_2=>cases h
 split at h
 ·cases h
  exact gu fun e=>d (by rw[e]; rfl)
 ·cases h
theorem T4{m s v:AV}{H H':List ah}{b:Bool}{A:Nat}(h:uu m s v H=some (b,H'))(d:fi m≠some A)(g:fi v≠some A):H'[A]? = H[A]? := by
 unfold uu at h;split at h
 case h_2=>cases h
 split at h
 case h_2=>cases h
 split at h
 ·cases h
  rw[gu fun e=>g (by rw[e]; rfl)];exact gu fun e=>d (by rw[e]; rfl)
 ·cases h
theorem T5{P:Program}{t:TypeId}{m k v:AV}{H H':List ah}{b:Bool}{A:Nat}(h:uf P t m k H=some (b,v,H'))(d:A<H.length)(g:fi m≠some A):H'[A]? = H[A]? := by
 unfold uf at h;split at h
 case h_2=>cases h
 split at h
 case h_2=>cases h
 split at h
 case h_2=>cases h
 split at h
 ·cases h
  rw[jF (by simpa using d)];exact gu fun e=>g (by rw[e]; rfl)
 ·cases h
theorem T6{m s v:AV}{H H':List ah}{b:Bool}{A:Nat}(h:ui m s v H=some (b,H'))(d:fi m≠some A)(g:fi v≠some A):H'[A]? = H[A]? := by
 unfold ui at h;split at h
 case h_2=>cases h
 split at h
 case h_2=>cases h
 split at h
 ·cases h
  rw[gu fun e=>g (by rw[e]; rfl)];exact gu fun e=>d (by rw[e]; rfl)
 ·cases h
theorem T7{P:Program}{t:TypeId}{m k v:AV}{H H':List ah}{b:Bool}{A:Nat}(h:uh P t m k H=some (b,v,H'))(d:A<H.length)(g:fi m≠some A):H'[A]? = H[A]? := by
 unfold uh at h;split at h
 case h_2=>cases h
 split at h
 case h_2=>cases h
 split at h
 case h_2=>cases h
 split at h
 ·cases h
  rw[jF (by simpa using d)];exact gu fun e=>g (by rw[e]; rfl)
 ·cases h
theorem T8{P:Program}{t:TypeId}{m k:AV}{H H':List ah}{b:Bool}{A:Nat}(h:uk P t m k H=some (b,H'))(d:fi m≠some A):H'[A]? = H[A]? := by
 unfold uk at h;split at h
 case h_2=>cases h
 split at h
 case h_2=>cases h
 split at h
 ·cases h; exact gu fun e=>d (by rw[e]; rfl)
 ·cases h
theorem T9{P:Program}{t:TypeId}{l c v:AV}{H H':List ah}{b:Bool}{A:Nat}(h:ud P t l c H=some (b,v,H'))(d:A<H.length):H'[A]? = H[A]? := by
 unfold ud at h;split at h
 case h_2=>cases h
 split at h
 case h_2=>cases h
 split at h
 case h_2=>cases h
 split at h
 case h_2=>cases h
 split at h
 ·cases h; exact jF d
 ·cases h
theorem T_{P:Program}{t:TypeId}{n:Nat}{parts:List (Nat × AV)}{v:AV}{H H':List ah}{b:Bool}{A:Nat}(h:ue P t n parts H=some (b,v,H'))(d:A<H.length):H'[A]? = H[A]? := by
 unfold ue at h;split at h
 case h_2=>cases h
 split at h
 case h_2=>cases h
 split at h
 case h_2=>cases h
 split at h
 case h_2=>cases h
 split at h
 case h_2=>cases h
 split at h
 ·cases h; exact jF d
 ·cases h
theorem JI{P:Program}{r:Operand→AV}{H H':List ah}{o:Op}{v:AV}{b:Bool}{A:Nat}(h:rm P r H o=some (b,v,H'))(g:A<H.length)(M:A∉o.operands.toList.filterMap fun x=>fi (r x)):H'[A]? = H[A]? := by
 have no:∀ x∈o.operands.toList,fi (r x)≠some A:=fun x q e=>M (GX.2 ⟨x,q,e⟩);cases o<;>simp only[rm]at h<;>try cases h
 case alloc t =>
  split at h
  ·split at h
   ·cases h; exact jF g
   ·cases h
  ·split at h
   ·cases h; exact jF g
   ·cases h
 case box t x =>
  split at h
  ·cases h; exact jF g
  ·cases h
 case store t a x =>
  split at h
  ·rename_i u H1 d
   cases h;exact JG d (no a (by simp[eU]))
  ·cases h
 case makeSlice t l c=>exact T9 h g
 case buildSlice t n ps=>exact T_ h g
 case range t x =>
  split at h
  ·cases h; exact jF g
  ·cases h
 case next it isString =>
  cases isString with
  |false=>cases h
  | true =>
   simp only[]at h;split at h
   ·rename_i id k q
    split at h
    ·split at h
     ·cases h; exact gu fun e=>no it (by simp[eU]) (by rw[q,e]; rfl)
     ·cases h; rfl
    ·cases h
   ·cases h
 case makeMap t res =>
  cases res with
  |some _=>cases h
  | none =>
   simp only[]at h;split at h
   ·split at h
    ·cases h; exact jF g
    ·split at h
     ·cases h; exact jF g
     ·cases h
    ·cases h
   ·cases h
 case mapUpdate t m k x =>
  split at h
  ·rename_i u H1 d
   cases h;exact JH d (no m (by simp[eU]))
  ·split at h
   ·rename_i u H1 d
    cases h;exact TZ d (no m (by simp[eU])) (no x (by simp[eU]))
   ·split at h
    ·rename_i u H1 d
     cases h;exact T0 d (no m (by simp[eU]))
    ·cases h
 case lookup t m k ok =>
  cases ok with
  |true=>cases h
  |false=>exact T5 h g (no m (by simp[eU]))
 case mapEntry t m k =>
  split at h
  ·rename_i y N
   cases h;exact T7 N g (no m (by simp[eU]))
  ·exact T3 h (no m (by simp[eU]))
 case entryStore t m s x =>
  split at h
  ·rename_i u H1 d
   cases h;exact T6 d (no m (by simp[eU])) (no x (by simp[eU]))
  ·split at h
   ·rename_i u H1 d
    cases h;exact T4 d (no m (by simp[eU])) (no x (by simp[eU]))
   ·cases h
 case insert t m k x =>
  split at h
  ·rename_i u H1 d
   cases h;exact JH d (no m (by simp[eU]))
  ·cases h
 case call c =>
  have na:∀ x∈c.args.toList,fi (r x)≠some A:=fun x q=>no x (by
   simp only[eU,Call.operands];simp at q⊢;exact .inr q)
  split at h
  ·split at h
   ·rename_i s x t xt B J
    have O:=na s (by rw[B]; simp);split at h
    ·exact TX h g
    ·exact TW h g O
   ·cases h
  ·split at h
   ·rename_i x t B J
    have I:=na x (by rw[B]; simp);split at h
    ·rename_i d; cases h; exact TY d I
    ·cases h
   ·cases h
  ·split at h
   ·rename_i x k t _ B J
    have I:=na x (by rw[B]; simp);split at h
    ·rename_i d; cases h; exact T8 d I
    ·cases h
   ·cases h
  ·cases h
theorem Ua{P:Program}{r:Operand→AV}{H H':List ah}{o:Op}{b:Bool}{A:Nat}(h:uy P r H o=some (b,H'))(g:A∉o.operands.toList.filterMap fun x=>fi (r x)):H'[A]? = H[A]? := by
 have no:∀ x∈o.operands.toList,fi (r x)≠some A:=fun x k e=>g (GX.2 ⟨x,k,e⟩);unfold uy at h;split at h
 case h_2=>cases h
 rename_i t a x;split at h
 case h_2=>cases h
 rename_i b0 v1 H1 d;split at h
 case h_2=>cases h
 rename_i b1 H2 q;simp only[aV,ba]at h;obtain⟨_,rfl⟩:=h;rw[JG q (no a (by simp[eU]))];unfold Cu at d;split at d
 case h_2=>cases d
 rename_i w id ae off n u;split at d
 case h_2=>cases d
 split at d
 case isFalse=>cases d
 simp only[aV,ba]at d;obtain⟨_,_,rfl⟩:=d;refine gu fun e=>no x (by simp[eU]) ?_;rw[u,e];rfl
theorem x9(B:au P τ){ops:Array Oper}{o:Oper}{s:al}{k:AV→List ah→Tree}{Q:bR→al→Prop}(hw:bO ops s.fr o=some true)
  (h:(nM P τ o s k).holds Q):∃ v H',Yields P τ.pf ops o s.den v (ak H')∧(cG τ.pf o.op=.write→∀ A,A∉jE τ s.eval s.H o.op→A<s.H.length→H'[A]? = s.H[A]?)∧(k v H').holds Q:=by
 unfold nM at h;split at h
 ·rename_i c a b ho
  split at h
  ·rename_i t hb
   have hb:=Jz hb;refine⟨bif t then s.eval a else s.eval b,s.H,CC hw (by rw[ho]; rfl) (.inl (by rw[ho]; simp only[gL,hb])),fun _ _ _ _=>rfl,?_⟩;simp only[Tree.holds]at h;cases t with
   |true=>exact h.1 rfl
   |false=>exact h.2 rfl
  ·exact h.elim
 ·rename_i t a ho
  split at h
  ·rename_i b v J
   simp only[Tree.holds]at h;refine⟨v,s.H,?_,fun _ _ _ _=>rfl,h.2⟩;unfold Yields;rw[show s.den.fr=s.fr from rfl,hw];simp only[ho,cG,al.kQ];exact⟨rfl,by simp only[eF]; exact Tk J h.1⟩
  ·exact h.elim
 ·rename_i t m x ok ho
  have U:jE τ s.eval s.H o.op=o.op.operands.toList.filterMap fun x=>fi (s.eval x):=by
   have M:g_ s.eval o.op=none:=by rw[ho]; rfl
   simp only[jE,M]
  split at h
  ·rename_i b v J
   split at h
   ·rename_i g
    simp only[Tree.holds]at h;refine⟨v,s.H,?_,fun _ _ _ _=>rfl,h.2⟩;unfold Yields;rw[show s.den.fr=s.fr from rfl,hw];simp only[g,al.kQ];rw[ho];exact⟨rfl,by
     have e:=Ji J;rw[show ak s.H=s.den.H from rfl]at e;simp only[eF,e]⟩
   ·rename_i g
    simp only[Tree.holds]at h;refine⟨v,s.H,pv hw g (.inl ?_),fun _ _ _ _=>rfl,h.2⟩;rw[ho];simp only[cT,Ji J]
   ·exact h.elim
  ·split at h
   ·rename_i g
    split at h
    ·rename_i b v H' d
     simp only[Tree.holds]at h;exact⟨v,H',pv hw g (.inl (Jr d h.1)),fun _ A q u=>JI d u (by rw[U]at q; exact q),h.2⟩
    ·exact h.elim
   ·rename_i g
    split at h
    ·rename_i b v J
     simp only[Tree.holds]at h;obtain⟨q1,q2⟩:=Ty J h.1;refine⟨v,s.H,?_,fun _ _ _ _=>rfl,h.2⟩;unfold Yields;rw[show s.den.fr=s.fr from rfl,hw];simp only[g,al.kQ];rw[ho];exact⟨rfl,by simp only[eF]; rw[show fG P t (s.eval m) (s.eval x) ok s.den.H=none from q1]; exact q2⟩
    ·exact h.elim
   ·exact h.elim
 ·split at h
  ·rename_i g
   split at h
   ·rename_i v d
    refine⟨v,s.H,?_,fun _ _ _ _=>rfl,h⟩;unfold Yields;rw[show s.den.fr=s.fr from rfl,hw];simp only[g,al.kQ];exact⟨rfl,TM d⟩
   ·exact h.elim
  ·rename_i g
   split at h
   ·rename_i f args y
    split at h
    ·rename_i b v d
     simp only[Tree.holds]at h;obtain⟨g1,g2⟩:=B.T f args b v d h.1;exact⟨v,s.H,CC hw g (.inr ⟨f,args,y,g1,g2⟩),fun _ _ _ _=>rfl,h.2⟩
    ·exact h.elim
   ·split at h
    ·rename_i b v d
     simp only[Tree.holds]at h;exact⟨v,s.H,CC hw g (.inl (TL d h.1)),fun _ _ _ _=>rfl,h.2⟩
    ·exact h.elim
  ·rename_i g
   split at h
   ·rename_i f args y
    split at h
    ·rename_i b v H' d
     simp only[Tree.holds]at h;obtain⟨g1,g2⟩:=B.W f args s.H b v H' d h.1;exact⟨v,H',pv hw g (.inr ⟨f,args,y,g1,g2⟩),fun _ A q u=>B.C f args s.H b v H' d A (by simpa only[jE,y]using q) u,h.2⟩
    ·split at h
     ·rename_i t hi
      obtain⟨g1,v,H',g2,g3,g4⟩:=B.I f args s.H t hi _ (Tree.xS h);exact⟨v,H',pv hw g (.inr ⟨f,args,y,g1,g2⟩),fun _ A q u=>g3 A (by simpa only[jE,y]using q) u,g4⟩
     ·split at h
      ·rename_i b v d
       simp only[Tree.holds]at h;obtain⟨g1,g2⟩:=B.T f args b v d h.1;exact⟨v,s.H,pv hw g (.inr ⟨f,args,y,g1,g2 _⟩),fun _ _ _ _=>rfl,h.2⟩
      ·cases O : nL s.H args with
       |mk vb V =>
       rw[O]at h;simp only[]at h;split at h
       ·rename_i b v d
        split at h
        ·rename_i N
         simp only[ax]at N;simp only[Tree.holds,ax]at h;obtain⟨g1,g2⟩:=B.T f V b v d h.1.2;exact⟨v,s.H,pv hw g (.inr ⟨f,args,y,g1,TV g2 O h.1.1 N.2 N.1⟩),fun _ _ _ _=>rfl,h.2⟩
        ·exact h.elim
       ·exact h.elim
   ·rename_i M
    split at h
    ·rename_i b v H' d
     simp only[Tree.holds]at h;exact⟨v,H',pv hw g (.inl (Jr d h.1)),fun _ A q u=>JI d u (by simpa only[jE,M]using q),h.2⟩
    ·split at h
     ·rename_i b H' d
      simp only[Tree.holds]at h;refine⟨.undef,H',?_,fun _ A q u=>Ua d (by simpa only[jE,M]using q),h.2⟩;unfold Yields;rw[show s.den.fr=s.fr from rfl,hw];simp only[g,al.kQ];exact .inr (.inr (TN d h.1))
     ·exact h.elim
theorem JJ{ops:Array Oper}{s:al}{o:Oper}{t:Tmp}{b want:Bool}(h:nK ops s.fr o=.test t b want) :
  s.fr[t]? = some (.lit (.bool b))∧bO ops s.fr o=some (b==want):=by
 unfold nK at h;unfold bO;cases d:o.guard with
 |none=>rw[d]at h; cases h
 | some g =>
  obtain⟨j,w⟩:=g;rw[d]at h;simp only[]at h⊢;split at h
  ·rename_i t' k
   split at h
   ·rename_i q hb
    cases h;exact⟨hb,by rw[k]; simp only[hb]⟩
   ·cases h
   ·cases h
  ·cases h
theorem CD{ops:Array Oper}{s:al}{o:Oper}(h:nK ops s.fr o=.no):bO ops s.fr o=some false:=by
 unfold nK at h;unfold bO;cases d:o.guard with
 |none=>rw[d]at h; cases h
 | some g =>
  obtain⟨j,w⟩:=g;rw[d]at h;simp only[]at h⊢;split at h
  ·rename_i t' k
   split at h
   ·cases h
   ·rename_i hb
    rw[k];simp only[hb]
   ·cases h
  ·cases h
theorem JK{ops:Array Oper}{s:al}{o:Oper}(h:nK ops s.fr o=.yes):bO ops s.fr o=some true:=by
 unfold nK at h;unfold bO;cases d:o.guard with
 |none=>rfl
 | some g =>
  obtain⟨j,w⟩:=g;rw[d]at h;simp only[]at h;split at h
  ·split at h<;>cases h
  ·cases h
theorem x_{s:al}{t:Tmp}{b:Bool} (h:s.fr[t]? = some (.lit (.bool b))):s.slot t b=s:=by
 unfold al.slot;rw[ln h]
theorem Ub(q:au P τ){ops:Array Oper}{o:Oper}{s:al}{k:al→Tree}{Q:bR→al→Prop}(h:(Cv P τ ops o s k).holds Q) :
  ∃ v H',Yields P τ.pf ops o s.den v (ak H')∧(k (s.put o.dst v H')).holds Q:=by
 have skip:bO ops s.fr o=some false→Yields P τ.pf ops o s.den (.tuple []) (ak s.H):=by
  intro hw;unfold Yields;rw[show s.den.fr=s.fr from rfl,hw];exact⟨rfl,rfl⟩
 unfold Cv at h;split at h
 ·exact h.elim
 ·rename_i hw
  exact⟨_,_,skip (CD hw),h⟩
 ·rename_i hw
  obtain⟨v,H',g1,_,g2⟩:=x9 q (JK hw) h;exact⟨v,H',g1,g2⟩
 ·rename_i t b want hw
  obtain⟨h1,g⟩:=JJ hw;simp only[Tree.holds]at h;cases b with
  | true =>
   have d:=h.1 rfl;rw[x_ h1]at d;cases want with
   | true =>
    obtain⟨v,H',g1,_,g2⟩:=x9 q g d;exact⟨v,H',g1,g2⟩
   |false=>exact⟨_,_,skip g,d⟩
  | false =>
   have d:=h.2 rfl;rw[x_ h1]at d;cases want with
   |true=>exact⟨_,_,skip g,d⟩
   | false =>
    obtain⟨v,H',g1,_,g2⟩:=x9 q g d;exact⟨v,H',g1,g2⟩
theorem ya(d:au P τ){ops:Array Oper}{Q:bR→al→Prop}:∀{l:List Oper} {s:al} {k:al→Tree},(lv P τ ops l s k).holds Q→∃ s',fI P τ.pf ops l s.den s'.den∧(k s').holds Q
 | [],s,k,h=>⟨s,rfl,h⟩
 | o::l,s,k,h=>by
  obtain⟨v,H',h1,g⟩:=Ub d h;obtain⟨s',q,u⟩:=ya d g;exact⟨s',⟨v,ak H',h1,q⟩,u⟩
def Acc.le(a b:Acc):Prop:=(∀ x∈a.R,x∈b.R)∧∀ x∈a.W,x∈b.W
def Acc.ok(ops:Array Oper)(j:Nat)(a:Acc):Prop:=(∀ x∈a.R,x.1<j)∧(∀ x∈a.W,x.1<j)∧qX ops a.R a.W
theorem CE{ids:List Nat}{i:Nat}(h:uz ids i=true):i∉ids:=by
 intro hm;have:ids.any (ad i)=true:=List.any_eq_true.2 ⟨i,hm,by simp⟩;simp[uz,this]at h
theorem Uc{ops:Array Oper}{j id:Nat}{a b:Acc}(ha:a.ok ops j)(h:Cw ops j id a=some b):b.ok ops (j+1)∧a.le b∧(j,id)∈b.R:=by
 unfold Cw at h;split at h
 ·rename_i g
  cases h;simp only[cM,wK,ax,kC]at g;obtain⟨h1,k,q⟩:=ha;refine⟨⟨fun x d=>?_,fun x d=>wN (k x d),fun i u hi e he=>?_,q.2⟩,⟨fun x d=>c9 _ d,fun x d=>d⟩,cW⟩
  ·rcases bW.1 d with rfl | d
   ·exact aeV _
   ·exact wN (h1 x d)
  ·rcases bW.1 hi with y | hi
   ·cases y
    have B:=k e he;refine⟨fun v=>absurd v (by omega),fun _ hw=>?_⟩;rcases g e he with h|h
    ·rw[hw]at h; cases h
    ·exact⟨CE h.1,h.2⟩
   ·exact q.1 i u hi e he
 ·cases h
theorem JL{ops:Array Oper}{j n:Nat}{T:List Nat}{a b:Acc}(ha:a.ok ops j)(h:xX ops j T n a=some b):b.ok ops (j+1)∧a.le b∧(j,T,n)∈b.W:=by
 unfold xX at h;split at h
 ·rename_i M
  split at h
  case h_2=>cases h
  rename_i y;cases h;simp only[cM,wK,ax,kC]at M y;obtain⟨h1,I,J⟩:=ha;refine⟨⟨fun x k=>wN (h1 x k),fun x k=>?_,fun i B hi e he=>?_,fun e he e' d g q id hid=>?_,fun e he e' d g q id hid=>?_⟩,⟨fun x k=>k,fun x k=>c9 _ k⟩,cW⟩
  ·rcases bW.1 k with rfl | k
   ·exact aeV _
   ·exact wN (I x k)
  ·rcases bW.1 he with v | he
   ·subst v
    have g:=h1 (i,B) hi;refine⟨fun _ hw=>?_,fun N=>absurd N (by simp only at N g; omega)⟩;rcases M (i,B) hi with h|h
    ·simp only at hw h; rw[hw]at h; cases h
    ·exact⟨CE h.1,h.2⟩
   ·exact J.1 i B hi e he
  ·rcases bW.1 d with v | d
   ·subst v
    rcases bW.1 he with u|he
    ·subst u
     exact absurd g (qo _)
    ·rcases y e he with h | h
     ·simp only at q h
      rw[q]at h;cases h
     ·have O := h.1 id hid
      exact⟨CE O.1,O.2⟩
   ·rcases bW.1 he with u | he
    ·subst u
     have U:=I e' d;exact absurd g (by simp only; omega)
    ·exact J.2.1 e he e' d g q id hid
  ·rcases bW.1 d with v | d
   ·subst v
    rcases bW.1 he with u|he
    ·subst u
     exact absurd g (qo _)
    ·rcases y e he with h | h
     ·simp only at q h
      rw[q]at h;cases h
     ·exact h.2 id hid
   ·rcases bW.1 he with u | he
    ·subst u
     have U:=I e' d;exact absurd g (by simp only; omega)
    ·exact J.2.2 e he e' d g q id hid
 ·cases h
theorem Acc.uD{ops:Array Oper}{j:Nat}{a:Acc}(h:a.ok ops j):a.ok ops (j+1):=⟨fun x d=>wN (h.1 x d),fun x d=>wN (h.2.1 x d),h.2.2⟩
theorem Acc.le_refl(a:Acc):a.le a:=⟨fun _ h=>h,fun _ h=>h⟩
theorem Acc.le_trans{a b c:Acc}(h:a.le b)(h':b.le c):a.le c:=⟨fun x d=>h'.1 x (h.1 x d),fun x d=>h'.2 x (h.2 x d)⟩
def Acc.only(j:Nat)(a b:Acc):Prop:=∀ x∈b.W,x.1<j→x∈a.W
theorem Ud{ops:Array Oper}{j:Nat}{o:Oper}{s:al}{a b:Acc}(ha:a.ok ops j)(h:Cx τ ops j o s a=some b) :
  b.ok ops (j+1)∧a.le b∧(cG τ.pf o.op=.read→∀ id,kN s.eval o.op=some id→(j,id)∈b.R)∧(cG τ.pf o.op=.write→(j,jE τ s.eval s.H o.op,s.H.length)∈b.W):=by
 unfold Cx at h;split at h
 ·rename_i d
  cases h;exact⟨Acc.uD ha,a.le_refl,(fun h=>by rw[d]at h; cases h),(fun h=>by rw[d]at h; cases h)⟩
 ·rename_i d
  split at h
  ·rename_i id hid
   obtain⟨g1,g2,g3⟩:=Uc ha h;refine⟨g1,g2,fun _ k g=>?_,(fun h=>by rw[d]at h; cases h)⟩;rw[hid]at g;cases g;exact g3
  ·rename_i hid
   cases h;refine⟨Acc.uD ha,a.le_refl,fun _ k g=>?_,(fun h=>by rw[d]at h; cases h)⟩;rw[hid]at g;cases g
 ·rename_i d
  obtain⟨g1,g2,g3⟩:=JL ha h;exact⟨g1,g2,(fun h=>by rw[d]at h; cases h),fun _=>g3⟩
theorem JM{ops:Array Oper}{j:Nat}{o:Oper}{s:al}{v:AV}{H':List ah}{b c:Acc}(k:b.le c)(u:cG τ.pf o.op=.read→∀ id,kN s.eval o.op=some id→(j,id)∈b.R)
  (hw:cG τ.pf o.op=.write→(j,jE τ s.eval s.H o.op,s.H.length)∈b.W) (hk:cG τ.pf o.op=.write→∀ A,A∉jE τ s.eval s.H o.op→A<s.H.length→H'[A]? = s.H[A]?)
  (q:jZ o.op=true→nD ops=true→cG τ.pf o.op=.write→bO ops s.den.fr o=some true→∀ σ,xL c.W j s.den.H σ→Yields P τ.pf ops o ⟨s.den.fr,mB σ s.den.H⟩ v (mB σ (ak H'))) :
  (g:(mz ops&&dX o.op)=false)→Step P τ.pf ops c.R c.W j o s.den v (ak H'):=by
 intro g;refine⟨fun d A y=>?_,fun d _ id hid=>k.1 _ (u d id (by rw[←al.kQ]; exact hid)),fun h1 h _=>(by rw[h1,h]at g; cases g),q⟩;have:=y _ (k.2 _ (hw d)) rfl;have h:=hk d A this.1 this.2;show (ak H')[A]? = (ak s.H)[A]?
 simp only[ak,bZ,h]
theorem step_skip{ops:Array Oper}{j:Nat}{o:Oper}{s:al}{c:Acc}(hw:bO ops s.fr o=some false):Step P τ.pf ops c.R c.W j o s.den (.tuple []) (ak s.H) :=
 ⟨fun _ _ _=>rfl,fun _ h=>(by rw[show s.den.fr=s.fr from rfl,hw]at h; cases h),fun _ _ _=>⟨rfl,fun _ h=>(h rfl).elim⟩,fun _ _ _ h=>(by rw[show s.den.fr=s.fr from rfl,hw]at h; cases h)⟩
theorem JN(g:au P τ){f:FuncId}{args:List AV}{v:AV}(k:τ.N f=true):∀(σ:List (Nat × ab)) (H H':List ah),τ.W f args H=some (true,v,H')→(∀ p∈σ,p.1<H.length∧p.1∉τ.C f args H) →
  ∃ H2 d,ak H2=mB σ (ak H)∧ak d=mB σ (ak H')∧τ.W f args H2=some (true,v,d)
 | [],H,H',h,_=>⟨H,H',rfl,rfl,h⟩
 | p::σ,H,H',h,u=>by
  obtain⟨y,a2⟩:=u p cW;obtain⟨h1,B⟩:=g.F.2 f k args H true v H' h p.1 (.raw p.2) y a2;obtain⟨H2,d,I,J,M⟩:=JN g k σ _ _ h1 fun q O=>by
   obtain⟨b1,U⟩:=u q (c9 _ O);rw[B];exact⟨by simpa using b1,U⟩
  refine⟨H2,d,?_,?_,M⟩
  ·rw [I, c7]
   rfl
  ·rw [J, c7]
   rfl
theorem Ue{o:Oper}{s:al}{k:AV→List ah→Tree}{f:FuncId}{args:List AV}{b:Bool}{v:AV}{H':List ah}(d:jZ o.op=true)(h:cG τ.pf o.op=.write)(g:g_ s.eval o.op=some (f,args))(u:τ.W f args s.H=some (b,v,H')) :
  nM P τ o s k=.side b (k v H'):=by
 unfold jZ at d;split at d
 ·rename_i c q
  unfold nM;rw[q]at h g⊢;simp only[h,g,u]
 ·cases d
theorem JO{z:List Value}:∀{H:List ah} {i j:Nat} {ks:List Kd} {g:List G},pr z H i=some (j,ks,g)→i≤j∧H[j-i]? = some (.vec ks 0 [])∧rr ks z=some g
 | [],_,_,_,_,h=>by cases h
 | o::H,i,j,ks,g,h=>by
  have next:pr z H (i+1)=some (j,ks,g)→i≤j∧(o::H)[j-i]? = some (.vec ks 0 [])∧rr ks z=some g:=by
   intro h;obtain⟨h1,d,k⟩:=JO h;refine⟨by omega,?_,k⟩;rw[show j-i=(j-(i+1))+1 from by omega];simpa using d
  unfold pr at h;split at h
  ·cases ‹_=_›
  ·rename_i u rows' H' v e
   cases e;split at h
   ·rename_i y q
    split at h
    ·cases h
     exact⟨aB _,by simp,q⟩
    ·exact next h
   ·exact next h
  ·rename_i e
   cases e;exact next h
theorem JP:∀{H:List ah} {i j:Nat},uA H i=some j→i≤j∧H[j-i]? = some (.raw .dK)
 | [],_,_,h=>by cases h
 | o::H,i,j,h=>by
  have next:uA H (i+1)=some j→i≤j∧(o::H)[j-i]? = some (.raw .dK):=by
   intro h;obtain⟨h1,d⟩:=JP h;refine⟨by omega,?_⟩;rw[show j-i=(j-(i+1))+1 from by omega];simpa using d
  unfold uA at h;split at h
  ·cases ‹_=_›
  ·rename_i e
   cases e;cases h;exact⟨aB _,by simp⟩
  ·rename_i e
   cases e;exact next h
theorem Uf{op:Op}{H H':List ah}{id:Nat}{v:AV}(h:Cy P op H=some (id,v,H')) :
  ((∃ t m,op=.alloc t∧nA P t id m (ak H)=some (v,ak H'))∨∃ t,op=.makeMap t none∧oX id (ak H)=some (v,ak H'))∧H'.length=H.length∧∀ A,A≠id→H'[A]? = H[A]? := by
 unfold Cy at h;split at h
 ·rename_i t
  split at h
  ·rename_i z y
   split at h
   ·rename_i i ks g q
    cases h;obtain⟨_,d,B⟩:=JO q;rw[ga]at d;have e:=Jt B;refine⟨.inl ⟨t,mZ ks,rfl,?_⟩,by simp,fun A u=>aQ (Ne.symm u)⟩;have hk:ks.length=z.length:=by
     have:=congrArg Hp e;simpa[qp,xl]using this
    rw[IT (mZ ks) y (k:=ks.length) (by rw[bh d]; rfl) hk,c7,←e];rfl
   ·cases h
  ·cases h
 ·rename_i t
  split at h
  ·rename_i K V _
   split at h
   ·rename_i i q
    cases h;obtain⟨_,d⟩:=JP q;rw[ga]at d;refine⟨.inr ⟨t,rfl,?_⟩,by simp,fun A u=>aQ (Ne.symm u)⟩;rw[Im (by rw[bh d]; rfl),c7];rfl
   ·cases h
  ·cases h
 ·cases h
theorem CF(y:au P τ){ops:Array Oper}{j:Nat}{o:Oper}{s:al}{a:Acc}{k:al→Acc→Tree}{Q:bR→al→Prop}(hw:bO ops s.fr o=some true)(ha:a.ok ops j)(h:(uB P τ ops j o s a k).holds Q) :
  ∃ v H' b,Yields P τ.pf ops o s.den v (ak H')∧b.ok ops (j+1)∧a.le b∧(∀ c,b.le c→Step P τ.pf ops c.R c.W j o s.den v (ak H'))∧(k (s.put o.dst v H') b).holds Q:=by
 unfold uB at h;split at h
 ·rename_i g
  simp only[ax]at g;split at h
  ·rename_i id v H' hal
   split at h
   ·rename_i b hb
    obtain⟨hnew,hlen,hkeep⟩:=Uf hal;obtain⟨g1,g2,g3⟩:=JL ha hb;refine⟨v,H',b,?_,g1,g2,fun c q=>⟨fun _ A O=>?_,fun hr=>(by rw[mA g.2]at hr; cases hr),fun _ _ _=>⟨?_,fun B hne=>?_⟩,fun hcv=>(by rw[lr g.2]at hcv; cases hcv)⟩,h⟩
    ·unfold Yields
     rw[show s.den.fr=s.fr from rfl,hw];simp only[mA g.2];rcases hnew with⟨t,m,N,U⟩|⟨t,N,U⟩
     ·exact .inr (.inl (.inl ⟨t,id,m,N,U⟩))
     ·exact .inr (.inl (.inr ⟨t,id,N,U⟩))
    ·have := (O _ (q.2 _ g3) rfl).1
     show (ak H')[A]? = (ak s.H)[A]?
     simp only[ak,bZ,hkeep A (by simpa using this)]
    ·show (ak H').length = (ak s.H).length
     simp only[ev,hlen]
    ·refine ⟨_, q.2 _ g3, rfl, ?_⟩
     have e:B=id:=AR fun e=>hne (by
      show (ak H')[B]? = (ak s.H)[B]?
      simp only[ak,bZ,hkeep B e])
     rw[e];exact List.mem_singleton.2 rfl
   ·exact h.elim
  ·exact h.elim
 ·rename_i g
  split at h
  ·exact h.elim
  rename_i hfc;split at h
  ·rename_i b hb
   obtain⟨g1,g2,g3,g4⟩:=Ud ha hb;by_cases u:(nD ops&&jZ o.op)=true∧cG τ.pf o.op=.write
   ·obtain ⟨u, I⟩ := u
    have hca2:=u;simp only[ax]at hca2;have d:Cz τ o s=true:=by
     rw[u]at hfc;simpa using hfc
    unfold Cz at d;rw[I]at d;simp only[]at d;split at d
    case h_2=>cases d
    rename_i f args M;split at d
    case h_2=>cases d
    rename_i hN;obtain⟨⟨b0,v,H'⟩,J⟩:=Option.isSome_iff_exists.1 d;rw[Ue hca2.2 I M J]at h;simp only[Tree.holds]at h;obtain⟨rfl,h⟩:=h;obtain⟨hbody,hcall⟩:=y.W f args s.H true v H' J rfl;have htch:jE τ s.eval s.H o.op=τ.C f args s.H:=by
     unfold jE;rw[M]
    have hcal':∀ H2,g_ (St.eval ⟨s.den.fr,H2⟩) o.op=some (f,args):=fun H2=>by
     have e:St.eval ⟨s.den.fr,H2⟩=s.eval:=by funext x; cases x<;>rfl
     rw[e];exact M
    have yl:∀ H2 V:List ab,dG P f args H2 v V→Yields P τ.pf ops o ⟨s.den.fr,H2⟩ v V:=fun H2 V hx=>by
     unfold Yields;rw[show (St.mk s.den.fr H2).fr=s.fr from rfl,hw];simp only[I];exact .inl (.inr ⟨f,args,hcal' H2,hbody,hx⟩)
    refine⟨v,H',b,yl _ _ hcall,g1,g2,fun c q=>JM q g3 g4 (fun _ A O hlt=>?_) (fun _ _ _ _ σ hσ=>?_) (by simpa using g),h⟩
    ·exact y.C f args s.H true v H' J A (by rw[←htch]; exact O) hlt
    ·obtain ⟨H2,H2',q1,q2,q3⟩:=JN y hN σ s.H H' J (fun p hp=>by
      obtain⟨hk,_⟩:=hσ p hp;obtain⟨k1,k2⟩:=hk _ (q.2 _ (g4 I)) rfl;rw[htch]at k1;exact⟨k2,k1⟩)
     rw[←q2,show mB σ s.den.H=ak H2 from q1.symm];exact yl _ _ (y.W f args H2 true v H2' q3 rfl).2
   ·obtain ⟨v, H', q1, q2, q3⟩ := x9 y hw h
    exact⟨v,H',b,q1,g1,g2,fun c q=>JM q g3 g4 q2 (fun h1 h2 h3=>absurd ⟨by rw[h1,h2]; rfl,h3⟩ u) (by simpa using g),q3⟩
  ·exact h.elim
theorem Ug(q:au P τ){ops:Array Oper}{j:Nat}{o:Oper}{s:al}{a:Acc}{k:al→Acc→Tree}{Q:bR→al→Prop}(ha:a.ok ops j)(h:(CA P τ ops j o s a k).holds Q) :
  ∃ v H' b,Yields P τ.pf ops o s.den v (ak H')∧b.ok ops (j+1)∧a.le b∧(∀ c,b.le c→Step P τ.pf ops c.R c.W j o s.den v (ak H'))∧(k (s.put o.dst v H') b).holds Q:=by
 have skip:bO ops s.fr o=some false→Yields P τ.pf ops o s.den (.tuple []) (ak s.H):=by
  intro hw;unfold Yields;rw[show s.den.fr=s.fr from rfl,hw];exact⟨rfl,rfl⟩
 unfold CA at h;split at h
 ·exact h.elim
 ·rename_i hw
  exact⟨_,_,a,skip (CD hw),Acc.uD ha,a.le_refl,fun _ _=>step_skip (CD hw),h⟩
 ·rename_i hw
  exact CF q (JK hw) ha h
 ·rename_i t b want hw
  obtain⟨h1,g⟩:=JJ hw;simp only[Tree.holds]at h;cases b with
  | true =>
   have d:=h.1 rfl;rw[x_ h1]at d;cases want with
   |true=>exact CF q g ha d
   |false=>exact⟨_,_,a,skip g,Acc.uD ha,a.le_refl,fun _ _=>step_skip g,d⟩
  | false =>
   have d:=h.2 rfl;rw[x_ h1]at d;cases want with
   |true=>exact⟨_,_,a,skip g,Acc.uD ha,a.le_refl,fun _ _=>step_skip g,d⟩
   |false=>exact CF q g ha d
theorem JQ(d:au P τ){ops:Array Oper}{Q:bR→al→Prop}:∀{l:List Oper} {j:Nat} {s:al} {a:Acc} {k:al→Tree},a.ok ops j→(CB P τ ops l j s a k).holds Q →
  ∃ s' b,qX ops b.R b.W∧a.le b∧qV P τ.pf ops b.R b.W l j s.den s'.den∧(k s').holds Q
 | [],j,s,a,k,ha,h=>⟨s,a,ha.2.2,a.le_refl,rfl,h⟩
 | o::l,j,s,a,k,ha,h=>by
  obtain⟨v,H',b,g1,g2,g3,g4,g5⟩:=Ug d ha h;obtain⟨s',c,q,g,u,y⟩:=JQ d g2 g5;exact⟨s',c,q,Acc.le_trans g3 g,⟨v,ak H',g1,g4 c g,u⟩,y⟩
theorem Uh{m id:Nat}{ops:Array Oper}{s s':al}{b:Acc}(hm:P.follows .mixedOrders=true)(d:qW τ.pf ops=true)(g:qX ops b.R b.W)(h:qV P τ.pf ops b.R b.W ops.toList 0 s.den s'.den) :
  cU P m (.region id ops true) s.den .normal s'.den:=fun ro _ _ _ k=>Ti hm d g k h (fun _ _ q=>⟨rfl,q.toM⟩) ro
theorem uE{K:bR→al→Tree}{Q:bR→al→Prop}:∀{t:Tree},(t.bind K).holds Q→t.holds fun x s=>(K x s).holds Q
 |.fail,h=>h
 |.done _ _,h=>h
 |.ask _ _ _,h=>⟨fun hb=>uE (h.1 hb),fun hb=>uE (h.2 hb)⟩
 |.side _ _,h=>⟨h.1,uE h.2⟩
theorem JR{m:Nat}{c:Code}{Q:bR→al→Prop}{body:al→(bR→al→Tree)→Tree}
  (hb:∀ s K,(body s K).holds Q→∃ x s',cU P m c s.den x s'.den∧(K x s').holds Q):∀(n:Nat) (s:al) (K:bR→al→Tree),(xY body n s K).holds Q →
  ∃ x s',jY P m c s.den x s'.den∧(K x s').holds Q
 |0,_,_,h=>h.elim
 | n+1,s,K,h=>by
  simp only[xY]at h;obtain⟨x,s1,h1,d⟩:=hb _ _ h;cases x with
  | normal =>
   obtain⟨y,s2,g,k⟩:=JR hb n s1 K d;exact⟨y,s2,.next h1 g,k⟩
  |exit i=>exact⟨_,s1,.stop h1 (by simp),d⟩
  |ret=>exact⟨_,s1,.stop h1 (by simp),d⟩
theorem gN(hm:P.follows .mixedOrders=true)(q:au P τ){m:Nat}{L:LT}{Q:bR→al→Prop}:∀(c:Code) (s:al) (K:bR→al→Tree),
  ay P m L c→(dY P τ L c s K).holds Q→∃ x s',cU P m c s.den x s'.den∧(K x s').holds Q
 |.skip,s,K,_,h=>⟨_,_,SS,h⟩
 | .region id ops draw,s,K,k,h=>by
  simp only[dY]at h;split at h
  ·rename_i B
   split at h
   ·rename_i V
    simp only[Tree.holds]at h;have U:draw=true:=by
     cases draw with
     |true=>rfl
     |false=>simp at B
    subst U;obtain⟨s',b,h1,_,d,u⟩:=JQ q (a:=⟨[],[]⟩) ⟨by simp,by simp,⟨fun i id hi=>(nomatch hi),fun e he=>(nomatch he),fun e he=>(nomatch he)⟩⟩ h.2;exact⟨_,_,qR (k.2.1 id s h.1) (Uh hm V h1 d),u⟩
   ·exact h.elim
  ·rename_i O
   simp only[Tree.holds]at h;obtain⟨s',h1,d⟩:=ya q h.2;refine⟨_,_,qR (k.2.1 id s h.1) (SX hm (fun B=>?_) h1),d⟩;rw[B]at O;simpa using O
 | .seq a b,s,K,k,h=>by
  simp only[dY]at h;have I:ay P m L a:=k.sub (fun p g=>by simp only[bK]; exact cS.2 (.inl g)) (fun p g=>by simp only[bG]; exact cS.2 (.inl g));have J:ay P m L b:=k.sub (fun p g=>by simp only[bK]; exact cS.2 (.inr g)) (fun p g=>by simp only[bG]; exact cS.2 (.inr (cS.2 (.inr g))));obtain⟨x,s1,h1,d⟩:=gN hm q a s _ I h;cases x with
  | normal =>
   simp only[Ju]at d;split at d
   ·rename_i t v
    unfold Jx at v;split at v
    ·rename_i i hi
     obtain⟨y,s2,u,N⟩:=k.2.2 i b (by simp only[bG,hi]; exact cS.2 (.inr (cS.2 (.inl (cW))))) s1 t v _ (uE d);exact⟨y,s2,xG h1 u,N⟩
    ·cases v
   ·obtain ⟨y, s2, u, N⟩ := gN hm q b s1 K J d
    exact⟨y,s2,xG h1 u,N⟩
  |exit id=>exact⟨_,_,IZ h1 (by simp),d⟩
  |ret=>exact⟨_,_,IZ h1 (by simp),d⟩
 | .cond c a b,s,K,k,h=>by
  simp only[dY]at h;have I:ay P m L a:=k.sub (fun p g=>by simp only[bK]; exact cS.2 (.inl g)) (fun p g=>by simp only[bG]; exact cS.2 (.inl g));have J:ay P m L b:=k.sub (fun p g=>by simp only[bK]; exact cS.2 (.inr g)) (fun p g=>by simp only[bG]; exact cS.2 (.inr g));split at h
  ·rename_i t hb
   have M:=Jz hb;rw[←al.kQ]at M;simp only[Tree.holds]at h;cases t with
   | true =>
    obtain⟨x,s1,h1,d⟩:=gN hm q a s K I (h.1 rfl);exact⟨x,s1,I0 M (by simpa using h1),d⟩
   | false =>
    obtain⟨x,s1,h1,d⟩:=gN hm q b s K J (h.2 rfl);exact⟨x,s1,I0 M (by simpa using h1),d⟩
  ·exact h.elim
 | .block id c,s,K,k,h=>by
  simp only[dY]at h;obtain⟨x,s1,h1,d⟩:=gN hm q c s _ (k.sub (fun p g=>by simpa only[bK]using g) (fun p g=>by simpa only[bG]using g)) h;refine⟨_,s1,I1 h1,?_⟩;cases x with
  |normal=>exact d
  | exit i =>
   simp only[Jv]at d;simp only[bR.inBlock];split
   ·rename_i e; rw[if_pos e]at d; exact d
   ·rename_i e; rw[if_neg e]at d; exact d
  |ret=>exact d
 | .loop c,s,K,k,h=>by
  simp only[dY]at h;split at h
  ·rename_i i hi
   split at h
   ·rename_i t W
    obtain⟨x,s',h1,d⟩:=k.1 i c (by simp only[bK,hi]; exact cW) s t W _ (uE h);exact⟨x,s',I2 h1,d⟩
   ·obtain ⟨x, s', h1, d⟩ := JR (fun s1 K1 hh => gN hm q c s1 K1 (k.sub (fun p g => by simp only [bK, hi]; exact c9 _ g) (fun p g => by simpa only [bG] using g)) hh) 400 s K h
    exact⟨x,s',I2 h1,d⟩
  ·exact h.elim
 |.exit id,s,K,_,h=>⟨_,_,SV,h⟩
 |.ret,s,K,_,h=>⟨_,_,SU,h⟩
 |.rangeFunc ..,_,_,_,h=>by simp[dY,Tree.holds]at h
 |.scope _,_,_,_,h=>by simp[dY,Tree.holds]at h
 |.label _,_,_,_,h=>by simp[dY,Tree.holds]at h
 |.goto _,_,_,_,h=>by simp[dY,Tree.holds]at h
 |.refuse _,_,_,_,h=>by simp[dY,Tree.holds]at h
end sound
end Go.AL

namespace Go.AL
open Go
variable [Dr]
inductive iZ where
 |fail
 |ret (v:AV) (H:List ah)
 |ask (b:Bool) (t e:iZ)
 |side (b:Bool) (t:iZ)
def iZ.holds(Q:AV→List ah→Prop):iZ→Prop
 |.fail=>False
 |.ret v H=>Q v H
 |.ask b t e=>(b=true→t.holds Q)∧(b=false→e.holds Q)
 |.side b t=>b=true∧t.holds Q
def iZ.two:iZ→Option (AV × List ah)
 |.fail=>none
 |.ret v H=>some (v,H)
 |.ask b t e=>bif b then t.two else e.two
 |.side b t=>bif b then t.two else none
def iZ.val:iZ→Option AV
 |.fail=>none
 |.ret v _=>some v
 |.ask b t e=>bif b then t.val else e.val
 |.side b t=>bif b then t.val else none
theorem yb:∀{t:iZ} {v:AV},t.val=some v→t.holds fun u _=>u=v
 |.fail,_,h=>by cases h
 |.ret u H,_,h=>by simp only[iZ.val,aV]at h; exact h
 | .ask b t e,v,h=>by
  cases b with
  |true=>exact⟨fun _=>yb (t:=t) (v:=v) h,fun h=>by cases h⟩
  |false=>exact⟨fun h=>(nomatch h),fun _=>yb (t:=e) (v:=v) h⟩
 | .side b t,v,h=>by
  cases b with
  |true=>exact And.intro rfl (yb (t:=t) (v:=v) h)
  |false=>cases h
def CG(H:List ah):Option (List Kd)→AV→Option (Bool × AV)
 |none,a=>some (true,a)
 | some ks,a=>match a with
  |.nils | .lit (.slice none 0 0)=>some (true,.listF ks [])
  |.listF d rows=>if Kd.gl ks d then some (true,.listF ks rows) else none
  | .list w rows=>match bu ks rows with
   |some gs=>if w=ks.length then some (true,.listF ks gs) else none
   |none=>none
  | .vec w id ae off n=>match H[id]? with
   |some (.vec d v rows)=>if ae=v∧d.length=w∧off=0∧Kd.gl ks d=true then some (ad n rows.length,.listF ks rows) else none
   |_=>none
  |_=>none
def kU(H:List ah):List (Option (List Kd))→List AV→Option (Bool × List AV)
 |_,[]=>some (true,[])
 | [],a::as=>match kU H [] as with
  |some (b,d)=>some (b,a::d)
  |none=>none
 | c::cs,a::as=>match CG H c a,kU H cs as with
  |some (b,g),some (h,d)=>some (b&&h,g::d)
  |_,_=>none
theorem Ui{E:Env}(HE:aq E){H:List ah}(hH:E.H=ak H){k:Option (List Kd)}{a g:AV}{b:Bool}{c:Value}(h:CG H k a=some (b,g))(hb:b=true)(u:g.closed=true)(d:rel E a c) :
  rel (E.bare E.w) g c:=by
 unfold CG at h;split at h
 ·cases h; exact dF (nN E) _ u d
 ·rename_i ks
  split at h
  ·cases h
   simp only[rel,dS,G.rows]at d⊢;obtain⟨base,rfl⟩:=d;exact⟨base,0,rfl,aB _,.inl trivial⟩
  ·cases h
   simp only[rel,dS,G.rows]at d⊢;subst d;exact⟨none,0,rfl,aB _,.inl trivial⟩
  ·split at h
   ·rename_i v
    cases h;rw[Kd.iH v];exact dF (nN E) _ rfl d
   ·cases h
  ·split at h
   ·rename_i gs y
    split at h
    ·rename_i hw
     cases h;rw[iR,pj y];subst hw;exact dF (nN E) _ rfl d
    ·cases h
   ·cases h
  ·split at h
   ·rename_i hid
    split at h
    ·rename_i B
     obtain⟨rfl,I,rfl,q⟩:=B;simp only[aV,ba]at h;obtain⟨h1,rfl⟩:=h;subst hb;have q:=Kd.iH q;subst q;exact JB HE hH hid I (br h1) d
    ·cases h
   ·cases h
  ·cases h
theorem CH{E:Env}(HE:aq E){H:List ah}(hH:E.H=ak H):∀{ks:List (Option (List Kd))} {as q:List AV} {b:Bool} {cs:List Value},kU H ks as=some (b,q)→b=true →
  AV.bp q=true→af E as cs→af (E.bare E.w) q cs
 | ks,[],q,b,cs,h,_,_,d=>by
  cases ks<;>simp only[kU]at h<;>cases h<;>(cases cs with
   |nil=>simp[af]
   |cons _ _=>simp[af]at d)
 | [],a::as,q,b,cs,h,hb,g,d=>by
  cases cs with
  |nil=>simp[af]at d
  | cons c cs =>
   simp only[kU]at h;simp only[af]at d;split at h
   ·rename_i b1 u h1
    cases h;simp only[AV.bp,ax]at g;simp only[af];exact⟨dF (nN E) _ g.1 d.1,CH HE hH h1 hb g.2 d.2⟩
   ·cases h
 | k::ks,a::as,q,b,cs,h,hb,g,d=>by
  cases cs with
  |nil=>simp[af]at d
  | cons c cs =>
   simp only[kU]at h;simp only[af]at d;split at h
   ·rename_i b0 a0 b1 u h0 h1
    simp only[aV,ba]at h;obtain⟨v,rfl⟩:=h;subst v;simp only[ax]at hb;simp only[AV.bp,ax]at g;simp only[af];exact⟨Ui HE hH h0 hb.1 g.1 d.1,CH HE hH h1 hb.2 g.2 d.2⟩
   ·cases h
def Tree.toR(P:Program)(rs:List ResultVar) (ks:List (Option (List Kd))):Tree→iZ
 |.fail=>.fail
 | .done x s=>match x with
  |.exit _=>.fail
  | _=>match hG P s.den rs with
   | some vs=>match kU s.H ks vs with
    |some (b,d)=>.side b (.ret (c6 d) s.H)
    |none=>.fail
   |none=>.fail
 |.ask b t e=>.ask b (t.toR P rs ks) (e.toR P rs ks)
 |.side b t=>.side b (t.toR P rs ks)
theorem toR_holds{P:Program}{rs:List ResultVar}{ks:List (Option (List Kd))}{Q:AV→List ah→Prop}:∀{t:Tree},(t.toR P rs ks).holds Q →
  t.holds fun x s=>(x=.normal∨x=.ret)∧∃ vs d,hG P s.den rs=some vs∧kU s.H ks vs=some (true,d)∧Q (c6 d) s.H
 |.fail,h=>h
 | .done x s,h=>by
  have key:∀ y,(y=bR.normal∨y=bR.ret)→(match hG P s.den rs with
   | some vs=>match kU s.H ks vs with
    |some (b,d)=>iZ.side b (.ret (c6 d) s.H)
    |none=>.fail
   |none=>.fail).holds Q→(y=.normal∨y=.ret)∧∃ vs d,hG P s.den rs=some vs∧kU s.H ks vs=some (true,d)∧Q (c6 d) s.H:=by
   intro y g h;split at h
   ·rename_i vs k
    split at h
    ·rename_i b d q
     simp only[iZ.holds]at h;obtain⟨rfl,h⟩:=h;exact⟨g,vs,d,k,q,h⟩
    ·exact h.elim
   ·exact h.elim
  simp only[Tree.toR]at h;simp only[Tree.holds];cases x with
  |exit i=>exact h.elim
  |normal=>exact key _ (.inl rfl) h
  |ret=>exact key _ (.inr rfl) h
 |.ask _ _ _,h=>⟨fun hb=>toR_holds (h.1 hb),fun hb=>toR_holds (h.2 hb)⟩
 |.side _ _,h=>⟨h.1,toR_holds h.2⟩
def yc(P:Program)(τ:ar)(L:LT)(fn:Func) (ks:List (Option (List Kd))) (args:List AV) (H:List ah):iZ :=
 match fn.body with
 |some c=>(dY P τ L c ⟨iW args fn.ntmps,H⟩ .done).toR P fn.results.toList ks
 |none=>.fail
theorem JS{E:Env}{vs:List AV}{us:List Value}(h:af E vs us):rel E (c6 vs) (if h:us.toArray.size=1 then us.toArray[0] else .tuple us.toArray):=by
 cases us with
 | nil =>
  cases vs with
  |nil=>simp[c6,rel,af]
  |cons _ _=>simp[af]at h
 | cons u us =>
  cases us with
  | nil =>
   cases vs with
   |nil=>simp[af]at h
   | cons v vs =>
    cases vs with
    |nil=>simp only[af]at h; simpa[c6]using h.1
    |cons _ _=>simp[af]at h
  | cons d us =>
   cases vs with
   |nil=>simp[af]at h
   | cons v vs =>
    cases vs with
    |nil=>simp[af]at h
    | cons v2 vs =>
     simp only[c6,rel];exact⟨(u::d::us).toArray,by simp,h⟩
theorem Uj{P:Program}{f:FuncId}{fn:Func}{c:Code}{args:List AV}{x:bR}{s':al}{ks:List (Option (List Kd))}{vs d:List AV}
  (hf:P.funcs[f]? = some fn) (hb:fn.body=some c) (hs:cU P 0 c ⟨iW args fn.ntmps,[]⟩ x s'.den) (g:x=.normal∨x=.ret) (hr:hG P s'.den fn.results.toList=some vs)
  (hc:kU s'.H ks vs=some (true,d)) (ha:AV.bp args=true) (J:AV.bp d=true):eg P f args (c6 d):=by
 intro H E cargs hH HE M
 let E0:Env:={ w:=E.w,H:=[],loc:=[],X:=(E.X.or E.own).re dE }
 have N:∀ b,¬ E0.own b:=by rintro b (⟨id,c,hid⟩|⟨l,k,c,hk⟩); simp[E0]at hid; simp[E0,dE]at hk
 have hC:E.bF E0:=⟨fun b hb=>⟨⟨hb.1,N b,fun g=>g.elim hb.2.2 hb.2.1⟩,rfl⟩⟩
 have I:aq E0:=by
  refine⟨rfl,?_,?_,?_,?_,HE.eW.bF hC,fun l k l' k' b m n hk=>by simp[E0,dE]at hk,fun i b m l k n hi=>by simp[E0]at hi,fun l k b m hk=>by simp[E0,dE]at hk,fun i j o o' l hi=>by simp[E0]at hi,fun l _ k q hk=>by simp[E0,dE]at hk⟩
  ·intro i j b m n hi; simp[E0]at hi
  ·intro i b m hi; simp[E0]at hi
  ·rintro b (g | ho)
   ·exact HE.X b g
   ·exact(HE.wZ ho).1
  ·intro i o hi; simp[E0]at hi
 refine B0 hf hb ?_;have U:=qT I;have V:=my U _ (nr hC args ha M);have W:bN ⟨iW args fn.ntmps,[]⟩ { E0 with X:=⟨E0.X.x,fun _=>False,E0.X.r⟩ } { tmps:=cargs++Array.replicate (fn.ntmps-cargs.size) undef,defers:=[] }:=by
  refine⟨rfl,?_,oR _ _,I.cC U⟩;simp only[iW,Array.toList_append,Array.toList_replicate];refine jV V ?_;have:=fP M;have e:args.length=cargs.size:=by simpa using this
  rw[e];have:=tV (E:={ E0 with X:=⟨E0.X.x,fun _=>False,E0.X.r⟩ }) (bM (fn.ntmps-cargs.size) undef);simpa using this
 refine wpIn_mono (hs none (BX _) { E0 with X:=⟨E0.X.x,fun _=>False,E0.X.r⟩ } _ W) fun e a1 w0 ⟨h3,loc',X',y,B⟩=>?_;refine⟨by subst h3; rcases g with rfl|rfl; exact .inl rfl; exact .inr rfl,X',y.defers,fun u k1 k2 k3=>?_⟩;obtain⟨y,B⟩:=B1 I y B k1 k2 k3;obtain⟨us,g1,g2⟩:=xI y fn.results.toList vs hr;have hres:(results fn a1.tmps).run P u=.ok (if h:us.toArray.size=1 then us.toArray[0] else .tuple us.toArray) u:=by
  rw[xJ];simp only[Sem.run_bind];rw[Array.mapM_eq_mapM_toList,Sem.run_map,g1];rfl
 have g3:=CH y.heap rfl hc rfl J g2;have g4:=JS g3;have O:Ext E.w u:=⟨B.size,fun b hb=>B.same b hb (N b),B.env⟩
 have hcl:(c6 d).closed=true:=by
  cases d with
  |nil=>rfl
  | cons v vs =>
   cases vs with
   |nil=>simpa[c6,AV.bp]using J
   |cons v2 vs=>simpa only[c6,AV.closed]using J
 have g5:rel { E with w:=u } (c6 d) (if h:us.toArray.size=1 then us.toArray[0] else .tuple us.toArray) :=
  dF (E:=({ w:=u,H:=ak s'.H,loc:=loc',X:=E0.X.re X'.r }:Env).bare u) (E':={ E with w:=u }) ⟨fun b hb=>⟨⟨hb.1,fun ho=>hb.2.2 (Or.inr ho),fun g=>hb.2.2 (Or.inl g)⟩,rfl⟩⟩ _ hcl g4
 refine⟨_,hres,_,c6 d,H,rfl,⟨rfl,rfl⟩,E.loc,E.X.r,?_,?_,?_⟩
 ·rw[←hH]; exact g5
 ·rw[←hH]; exact HE.ext O
 ·rw[←hH]; exact Env.iS O
theorem Uk{vs:List AV}{v:AV}(h:c6 vs=v)(d:v.closed=true):AV.bp vs=true:=by
 subst h;cases vs with
 |nil=>rfl
 | cons v vs =>
  cases vs with
  |nil=>simpa[c6,AV.bp]using d
  |cons v2 vs=>simpa only[c6,AV.closed]using d
theorem gv{P:Program}{τ:ar}{L:LT}(hm:P.follows .mixedOrders=true)(g:au P τ){f:FuncId}{fn:Func} (ks:List (Option (List Kd))) {args:List AV} {v:AV}
  (k:∀ c,fn.body=some c→ay P 0 L c)
  (q:P.funcs[f]? = some fn) (ha:AV.bp args=true) (u:v.closed=true) (h:(yc P τ L fn ks args []).val=some v):eg P f args v:=by
 have h:=yb h;unfold yc at h;split at h
 ·rename_i c hb
  obtain⟨x,s',h1,y,vs,J,B,I,d⟩:=gN hm g c _ _ (k c hb) (toR_holds h);rw[←d];exact Uj q hb h1 y B I ha (Uk d u)
 ·exact h.elim
end Go.AL

namespace Go.AL
open Go
variable [Dr]
def JT(ms:List Nat):ar:={ pf:=fun g=>ms.any fun t=>ad g (t+1000000),T:=fun _ _=>none,W:=fun _ _ _=>none,C:=fun _ _ _=>[],U:=fun _=>false }
theorem Ul(P:Program)(ms:List Nat):au P (JT ms):=⟨fun _ _ _ _ h=>(nomatch h),fun _ _ _ _ _ _ h=>(nomatch h),fun _ _ _ _ _ _ h=>(nomatch h),fun _ _ _ _ h=>(nomatch h),fun _ _ _ _=>⟨rfl,rfl⟩,fun _ h=>(nomatch h)⟩
def ar.add(τ:ar)(f:FuncId)(c:List AV→Option (Bool × AV)):ar where
 pf g:=match ad g f with
  |true=>true
  |false=>τ.pf g
 T g args:=match ad g f with
  |true=>c args
  |false=>τ.T g args
 W:=τ.W
 C:=τ.C
 I:=τ.I
 N:=τ.N
 U:=τ.U
theorem au.add{P:Program}{τ:ar}(h:au P τ){f:FuncId}{c:List AV→Option (Bool × AV)}(hb:eX P f=true)(q:∀ args b v,c args=some (b,v)→b=true→eg P f args v) :
  au P (τ.add f c):=by
 refine⟨fun g args b v d k=>?_,h.W,h.C,h.I,h.F⟩;simp only[ar.add]at d;split at d
 ·rename_i e
  have e:=br e;subst e;exact⟨hb,q args b v d k⟩
 ·exact h.T g args b v d k
def aF:LT:=⟨fun _ _=>none,fun _ s=>(true,s),fun _ _=>none⟩
theorem aT(P:Program)(m:Nat)(c:Code):ay P m aF c:=⟨fun _ _ _ _ _ h=>(nomatch h),fun _ _ _=>bt.refl _,fun _ _ _ _ _ h=>(nomatch h)⟩
def ar.inline(P:Program)(τ:ar)(f:FuncId)(fn:Func) (ks:List (Option (List Kd))):ar:=τ.add f fun args =>
 match (yc P τ aF fn ks args []).val with
 | some v=>match AV.bp args&&v.closed with
  |true=>some (true,v)
  |false=>none
 |none=>none
theorem au.inline{P:Program}{τ:ar}(h:au P τ)(hm:P.follows .mixedOrders=true){f:FuncId}{fn:Func}(k:P.funcs[f]? = some fn)(hb:eX P f=true) (ks:List (Option (List Kd))) :
  au P (τ.inline P f fn ks):=h.add hb fun args b v d _=>by
 split at d
 ·rename_i u hu
  split at d
  ·rename_i g
   simp only[ax]at g;cases d;exact gv hm h ks (fun _ _=>aT _ _ _) k g.1 g.2 hu
  ·cases d
 ·cases d
abbrev aS(s:ByteArray):AV:=.lit (.string s)
end Go.AL

namespace Go.AL
open Go
variable [Dr]
def uF(slot:Nat)(ks:List Kd)(s:al):al:=⟨s.fr.set slot (.vec ks.length s.H.length 0 0 0),s.H++[.vec ks 0 []]⟩
def isNil:AV→Bool
 |.nils | .lit (.slice none 0 0)=>true
 |_=>false
theorem JU{E:Env}{a:AV}{c:Value}(h:isNil a=true)(d:rel E a c):∃ base,c=.slice base 0 0:=by
 unfold isNil at h;split at h
 ·simpa only[rel]using d
 ·simp only[rel]at d; exact⟨none,d⟩
 ·cases h
theorem JV{m:Nat}{slot:Nat}{ks:List Kd}{s:al}(h:isNil (s.fr.getD slot .undef)=true):bt m s.den (uF slot ks s).den:=fun E a d=>by
 have hH:E.H=ak s.H:=d.H;have hlen:E.H.length=s.H.length:=by rw[hH,ev]
 have hle:E.le (E.push E.w (.vec ks.length 0 []) none):=Env.ju d.heap.len (Ext.refl _) (fun b n h=>by cases h);have q:aM (E.push E.w (.vec ks.length 0 []) none) E.H.length (.vec ks.length 0 []):=by
  simp only[aM,Env.push];refine .inl ⟨?_,trivial⟩;rw[iz (by rw[d.heap.len]; exact aB _),d.heap.len,ng];rfl
 have u:aq (E.push E.w (.vec ks.length 0 []) none):=aq.push d.heap (Ext.refl _) (fun b n h=>by cases h) q;have k:(uF slot ks s).den.H=E.H++[.vec ks.length 0 []]:=by
  rw[hH];simp[uF,al.den,ak,ah.den]
 refine⟨E.loc++[none],E.X,?_,?_⟩
 ·rw [k]
  refine⟨k.symm,?_,d.defers,u⟩;have h':=dw hle _ d.fr;have B:∀(fr:List AV) (cs:List Value) (i:Nat),af E fr cs→isNil (fr.getD i .undef)=true→af (E.push E.w (.vec ks.length 0 []) none) fr cs →
    af (E.push E.w (.vec ks.length 0 []) none) (fr.set i (.vec ks.length s.H.length 0 0 0)) cs:=by
   intro fr
   induction fr with
   |nil=>intro cs i h0 h1 g; exact g
   | cons b fr I =>
    intro cs i h0 h1 g;cases cs with
    |nil=>simp[af]at h0
    | cons c cs =>
     simp only[af]at h0 g;cases i with
     | zero =>
      simp only[List.set_cons_zero,af];refine⟨?_,g.2⟩;obtain⟨base,rfl⟩:=JU (by simpa using h1) h0.1;have J:(E.push E.w (.vec ks.length 0 []) none).H[s.H.length]? = some (.vec ks.length 0 []):=by
       simp only[Env.push];rw[iz (by omega),hlen,ng];rfl
      have y:(E.push E.w (.vec ks.length 0 []) none).loc[s.H.length]? = some none:=by
       simp only[Env.push];rw[iz (by rw[d.heap.len]; omega),d.heap.len,hlen,ng];rfl
      simp only[rel];refine⟨⟨base,0,rfl,aB _,fun h=>absurd h (qo _)⟩,⟨_,J,rfl,fun v h=>er _⟩,fun _=>⟨fun _=>⟨trivial,trivial,base,rfl⟩,fun b m hb=>?_⟩⟩;rw[y]at hb;cases hb
     | succ i =>
      simp only[List.set_cons_succ,af];exact⟨g.1,I cs i h0.2 (by simpa using h1) g.2⟩
  exact B s.fr _ slot d.fr h h'
 ·rw [k]
  exact hle.toM
def cA(fn:Func)(k:Nat):Code:=match fn.body with
 | some c=>match (bK c).find? fun p=>ad p.1 k with
  |some p=>p.2
  |none=>.skip
 |none=>.skip
theorem uG{P:Program}{f:FuncId}{vs:List Value}{u:Value}(h:∀ w,Calls P f vs.toArray w fun e w'=>e=.returned u∧Ext w w'):eg P f (vs.map .lit) (.lit u):=by
 intro H E cargs hH HE g;have e:cargs=vs.toArray:=by
  have:∀(vs us:List Value),af E (vs.map AV.lit) us→us=vs:=by
   intro vs
   induction vs with
   | nil=>intro us h; cases us with
    |nil=>rfl
    |cons _ _=>simp[af]at h
   | cons v vs k =>
    intro us h;cases us with
    |nil=>simp[af]at h
    | cons u us =>
     simp only[du,af,rel]at h;rw[h.1,k us h.2]
  have:=this vs cargs.toList g;rw[←this]
 rw[e];refine(h E.w).mono ?_;rintro _ w' ⟨rfl,d⟩;refine⟨u,.lit u,H,rfl,⟨rfl,rfl⟩,E.loc,E.X.r,by simp[rel],?_,?_⟩
 ·rw[←hH]; exact HE.ext d
 ·rw[←hH]; exact Env.iS d
end Go.AL

namespace Go.AL
open Go
variable [Dr]
def mC(ks:List Kd):AV→Option (List (List G))
 |.nils | .lit (.slice none 0 0)=>some []
 |.emptyS _=>some []
 |.listF d rows=>if Kd.gl ks d then some rows else none
 | .list w rows=>match bu ks rows with
  |some gs=>if w=ks.length then some gs else none
  |none=>none
 |_=>none
def CI(ks:List Kd):AV→Option (List G)
 |.agg cells=>fK ks cells
 |_=>none
theorem JW{E:Env}{ks:List Kd}{a:AV}{rows:List (List G)}{c:Value}(h:mC ks a=some rows)(d:rel E a c):rel E (.listF ks rows) c:=by
 unfold mC at h;split at h
 ·cases h
  simp only[rel,dS,G.rows]at d⊢;obtain⟨base,rfl⟩:=d;exact⟨base,0,rfl,aB _,.inl trivial⟩
 ·cases h
  simp only[rel,dS,G.rows]at d⊢;subst d;exact⟨none,0,rfl,aB _,.inl trivial⟩
 ·cases h
  simp only[rel,dS,G.rows]at d⊢;obtain⟨base,cap,rfl,_⟩:=d;exact⟨base,cap,rfl,er _,.inl trivial⟩
 ·split at h
  ·rename_i g
   cases h;rw[Kd.iH g];exact d
  ·cases h
 ·split at h
  ·rename_i gs k
   split at h
   ·rename_i hw
    cases h;rw[iR,pj k];subst hw;exact d
   ·cases h
  ·cases h
 ·cases h
theorem JX{ks:List Kd}{a:AV}{r:List G}(h:CI ks a=some r):a=.agg (aK ks r):=by
 unfold CI at h;split at h
 ·rw[j5 h]
 ·cases h
end Go.AL

namespace Go.AL
open Go
variable [Dr]
structure bL where
 ids:List Nat
 sh:List Nat
 base:Nat
def bL.at(e:bL)(j:Nat):Nat:=match e.ids[j]? with
 |some i=>i
 |none=>e.base+(j-e.ids.length)
def bL.up(e:bL)(j:Nat):Nat:=e.sh.getD j 0
mutual
def AV.b_(e:bL):AV→AV
 |.agg cs=>.agg (AV.jG e cs)
 |.tuple cs=>.tuple (AV.jG e cs)
 |.clo f cs=>.clo f (AV.jG e cs)
 |.ptr id ae k row col=>.ptr (e.at id) (ae+e.up id) k row col
 |.vec k id ae off n=>.vec k (e.at id) (ae+e.up id) off n
 |.map id=>.map (e.at id)
 |.sub ..=>.undef
 |a=>a
def AV.jG(e:bL):List AV→List AV
 | []=>[]
 |a::as=>a.b_ e::AV.jG e as
end
def ab.b_(e:bL)(j:Nat):ab→ab
 |.box cells=>.box (AV.jG e cells)
 |.vec k v rows=>.vec k (v+e.up j) rows
 |o=>o
theorem JY(e:bL):∀(as:List AV),(AV.jG e as).length=as.length
 | []=>rfl
 |_::as=>by simp[AV.jG,JY e as]
mutual
def AV.bH:AV→Bool
 |.agg cs | .tuple cs | .clo _ cs=>AV.ct cs
 |.list .. | .listF .. | .cptr _=>false
 |_=>true
def AV.ct:List AV→Bool
 | []=>true
 |a::as=>a.bH&&AV.ct as
end
structure pz (S:Bool) (e:bL) (E E':Env):Prop where
 ok:S=false→∀ b,E.iC b→E'.iC b∧E'.w.heap[b]? = E.w.heap[b]?
 past:∀ j ae,E.past j ae→E'.past (e.at j) (ae+e.up j)
 live:∀ j ae,E.past j ae→E'.live (e.at j) (ae+e.up j)→E.live j ae∧E'.loc[e.at j]? = E.loc[j]?
theorem pz.bF{e:bL}{E E':Env}(h:pz false e E E'):E.bF E':=⟨h.ok rfl⟩
mutual
theorem CJ{S:Bool}{e:bL}{E E':Env}(h:pz S e E E'):∀(a:AV) {c:Value},(S=true→a.bH=true)→rel E a c→rel E' (a.b_ e) c
 |.undef,_,_,_=>by simp[AV.b_,rel]
 |.lit v,c,_,d=>by simpa only[AV.b_,rel]using d
 |.nils,c,_,d=>by simpa only[AV.b_,rel]using d
 | .list k rows,c,q,d=>by
  cases S with
  |true=>exact absurd (q rfl) (by simp[AV.bH])
  |false=>exact dF h.bF (.list k rows) rfl d
 | .listF ks rows,c,q,d=>by
  cases S with
  |true=>exact absurd (q rfl) (by simp[AV.bH])
  |false=>exact dF h.bF (.listF ks rows) rfl d
 | .cptr cells,c,q,d=>by
  cases S with
  |true=>exact absurd (q rfl) (by simp[AV.bH])
  |false=>exact dF h.bF (.cptr cells) rfl d
 |.ifc,c,_,d=>by simpa only[AV.b_,rel]using d
 |.emptyS n,c,_,d=>by simpa only[AV.b_,rel]using d
 |.sub ..,c,_,_=>by simp only[AV.b_,rel]
 | .agg cells,c,q,d=>by
  simp only[rel]at d;simp only[AV.b_,rel];obtain⟨cs,y,h1,g⟩:=d;exact⟨cs,y,h1,yd h cells (fun e=>by simpa only[AV.bH]using q e) g⟩
 | .tuple cells,c,q,d=>by
  simp only[rel]at d;simp only[AV.b_,rel];obtain⟨cs,y,g⟩:=d;exact⟨cs,y,yd h cells (fun e=>by simpa only[AV.bH]using q e) g⟩
 | .clo f cells,c,q,d=>by
  simp only[rel]at d;simp only[AV.b_,rel];obtain⟨cs,y,g⟩:=d;exact⟨cs,y,yd h cells (fun e=>by simpa only[AV.bH]using q e) g⟩
 | .ptr id ae k row col,c,_,d=>by
  simp only[rel]at d;simp only[AV.b_,rel];obtain⟨h1,g,B⟩:=d;refine⟨h1,h.past _ _ g,fun u=>?_⟩;obtain⟨g1,g2⟩:=h.live _ _ g u;rw[g2];exact B g1
 | .vec k id ae off n,c,_,d=>by
  simp only[rel]at d;simp only[AV.b_,rel];obtain⟨h1,g,B⟩:=d;refine⟨h1,h.past _ _ g,fun u=>?_⟩;obtain⟨g1,g2⟩:=h.live _ _ g u;rw[g2];exact B g1
 | .map id,c,_,d=>by
  simp only[rel]at d;simp only[AV.b_,rel];obtain⟨h1,g,B⟩:=d;have M:=h.past _ _ g;refine⟨h1,?_,fun u=>?_⟩
  ·obtain ⟨o, I, J⟩ := M
   exact⟨o,I,J.1,fun v U=>er _⟩
  ·have hu:e.up id=0:=by
    obtain⟨o,I,J⟩:=M;obtain⟨o2,N,O⟩:=u;rw[I]at N;cases N;have:=J.2 0 O;omega
   obtain⟨g1,g2⟩:=h.live _ _ g (by rw[hu]; exact u);rw[g2];exact B g1
theorem yd{S:Bool}{e:bL}{E E':Env}(h:pz S e E E'):∀(as:List AV) {vs:List Value},(S=true→AV.ct as=true)→af E as vs→af E' (AV.jG e as) vs
 | [],[],_,_=>by simp[AV.jG,af]
 | [],_::_,_,d=>by simp[af]at d
 |_::_,[],_,d=>by simp[af]at d
 | a::as,v::vs,g,d=>by
  simp only[AV.ct,ax]at g;simp only[af]at d;simp only[AV.jG,af];exact⟨CJ h a (fun e=>(g e).1) d.1,yd h as (fun e=>(g e).2) d.2⟩
end
structure KeepIn (e:bL) (E E':Env):Prop where
 ok:∀ b,E.iC b→E'.iC b∧E'.w.heap[b]? = E.w.heap[b]?
 w:E'.w=E.w
 loc:∀ j,j<e.ids.length→E'.loc[j]? = E.loc[e.at j]?
 i_:∀(j:Nat) o l,E'.H[j]? = some o→o.label=some l→E'.X.r l=E.X.r l
theorem KeepIn.bF{e:bL}{E E':Env}(h:KeepIn e E E'):E.bF E':=⟨h.ok⟩
structure ye (e:bL) (nO:List Nat) (E E':Env):Prop extends KeepIn e E E' where
 Um:∀ i,i∈nO→∀ b n,E.loc[i]? = some (some (b,n))→E'.iC b
def dZ{α:Type}:List α→List Nat→List α→List α
 |l,i::is,x::xs=>dZ (l.set i x) is xs
 |l,_,_=>l
theorem nP{α:Type}:∀(is:List Nat) (l xs:List α),(dZ l is xs).length=l.length
 | [],_,_=>by simp[dZ]
 |_::_,_,[]=>by simp[dZ]
 |i::is,l,x::xs=>by simp[dZ,nP is]
theorem yf{α:Type}:∀(is:List Nat) (l xs:List α) (n:Nat),n∉is→(dZ l is xs)[n]? = l[n]?
 | [],_,_,_,_=>by simp[dZ]
 |_::_,_,[],_,_=>by simp[dZ]
 | i::is,l,x::xs,n,h=>by
  simp only[bW,not_or]at h;simp only[dZ];rw[yf is _ xs n h.2,aQ (Ne.symm h.1)]
theorem JZ{α:Type}:∀(is:List Nat) (l xs:List α) (j i:Nat) (x:α),is.Nodup→is[j]? = some i→xs[j]? = some x→i<l.length→(dZ l is xs)[i]? = some x
 | [],_,_,_,_,_,_,h,_,_=>by simp at h
 |_::_,_,[],_,_,_,_,_,h,_=>by simp at h
 | k::is,l,y::xs,0,i,x,g,h1,d,q=>by
  simp at h1 d;subst h1; subst d;simp only[dZ];have:k∉is:=(l8.1 g).1;rw[yf is _ xs k this,List.getElem?_set_self q]
 | k::is,l,y::xs,j+1,i,x,g,h1,d,q=>by
  simp only[dZ];exact JZ is _ xs j i x (l8.1 g).2 (by simpa using h1) (by simpa using d) (by simpa using q)
def ab.yg(e:bL)(j:Nat):ab→Bool
 |.dead=>true
 |.vec _ _ _=>true
 |_=>ad (e.up j) 0
def j7(e:bL):Nat→List ab→List ab
 |_,[]=>[]
 |j,o::os=>o.b_ e j::j7 e (j+1) os
def j8(e:bL):Nat→List ab→Bool
 |_,[]=>true
 |j,o::os=>o.yg e j&&j8 e (j+1) os
theorem CK(e:bL):∀(j:Nat) (os:List ab),(j7 e j os).length=os.length
 |_,[]=>rfl
 |j,_::os=>by simp[j7,CK e (j+1) os]
theorem J0(e:bL):∀(j:Nat) (os:List ab) (i:Nat),(j7 e j os)[i]? = (os[i]?).map (ab.b_ e (j+i))
 |_,[],i=>by simp[j7]
 |j,o::os,0=>by simp[j7]
 | j,o::os,i+1=>by
  simp only[j7,List.getElem?_cons_succ,J0 e (j+1) os i];rw[show j+1+i=j+(i+1) from by omega]
theorem J1{e:bL}:∀{j:Nat} {os:List ab} {i:Nat} {o:ab},j8 e j os=true→os[i]? = some o→o.yg e (j+i)=true
 |_,[],i,_,_,h=>by simp at h
 | j,_::os,0,o,h,hi=>by
  simp only[j8,ax]at h;simp at hi;subst hi;exact h.1
 | j,_::os,i+1,o,h,hi=>by
  simp only[j8,ax]at h;have:=J1 h.2 (by simpa using hi)
  rwa [show j+1+i=j+(i+1) from by omega]at this
theorem uH{e:bL}{j:Nat}{o:ab}(h:o.yg e j=true)(v:Nat):(o.b_ e j).aD = some v↔∃ u,o.aD = some u∧v=u+e.up j:=by
 cases o with
 |dead=>simp[ab.b_,ab.aD]
 |dK=>simp[ab.b_,ab.aD]
 |vec k u rows=>simp[ab.b_,ab.aD,eq_comm]
 | box cells =>
  have:=br h;simp[ab.b_,ab.aD,this,eq_comm]
 | map es cl =>
  have:=br h;simp[ab.b_,ab.aD,this,eq_comm]
 | iter s p =>
  have:=br h;simp[ab.b_,ab.aD,this,eq_comm]
 | eD l T B s =>
  have:=br h;simp[ab.b_,ab.aD,this,eq_comm]
 | aG l k es cl =>
  have:=br h;simp[ab.b_,ab.aD,this,eq_comm]
 | mm l es ms cl =>
  have:=br h;simp[ab.b_,ab.aD,this,eq_comm]
theorem J2(e:bL)(j:Nat)(o:ab):(o.b_ e j).born=o.born:=by cases o<;>rfl
theorem J3(e:bL)(j:Nat)(o:ab):(o.b_ e j).label=o.label:=by cases o<;>rfl
theorem Un(e:bL)(j:Nat)(o:ab):(o.b_ e j).cZ=o.cZ:=by cases o<;>rfl
def ab.bH:ab→Bool
 |.box cells=>AV.ct cells
 |.vec _ _ rows=>rows.all fun r=>AV.ct r
 |.map es _=>es.all fun x=>x.1.bH&&x.2.1.bH
 | .aG _ _ es _=>es.all fun x=>x.1.bH&&(match x.2.1 with
  |some rows=>rows.all fun r=>AV.ct r
  |none=>true)
 |.mm _ es ms _=>(es.all fun x=>x.1.bH)&&ms.all fun m=>m.1.all fun x=>x.1.bH&&x.2.1.bH
 |_=>true
theorem J4{S:Bool}{e:bL}{E E':Env}(h:pz S e E E'){b:Nat}(hb:E'.w.heap[b]? = E.w.heap[b]?):∀(as:List AV) {o:Nat},(S=true→AV.ct as=true)→ch E as b o→ch E' (AV.jG e as) b o
 | [],_,_,_=>by simp[AV.jG,ch]
 | a::as,o,d,g=>by
  simp only[AV.ct,ax]at d;simp only[ch]at g;simp only[AV.jG,ch];obtain⟨⟨v,h1,k,q⟩,u⟩:=g;exact⟨⟨v,by rw[World.qs hb]; exact h1,k,CJ h a (fun e=>(d e).1) q⟩,J4 h hb as (fun e=>(d e).2) u⟩
mutual
theorem yh{E E':Env}:∀(a:AV) {c:Value},a.closed=true→a.bH=true→rel E a c→rel E' a c
 |.undef,_,_,_,_=>by simp[rel]
 |.lit v,c,_,_,d=>by simpa only[rel]using d
 |.nils,c,_,_,d=>by simpa only[rel]using d
 |.ifc,c,_,_,d=>by simpa only[rel]using d
 |.emptyS n,c,_,_,d=>by simpa only[rel]using d
 |.list ..,_,_,h,_ | .listF ..,_,_,h,_ | .cptr _,_,_,h,_=>by simp[AV.bH]at h
 |.ptr ..,_,h,_,_ | .vec ..,_,h,_,_ | .map _,_,h,_,_=>by simp[AV.closed]at h
 | .agg cells,c,g,k,d=>by
  simp only[rel]at d⊢;obtain⟨cs,e,h1,q⟩:=d;exact⟨cs,e,h1,yk cells (by simpa only[AV.closed]using g) (by simpa only[AV.bH]using k) q⟩
 | .tuple cells,c,g,k,d=>by
  simp only[rel]at d⊢;obtain⟨cs,e,q⟩:=d;exact⟨cs,e,yk cells (by simpa only[AV.closed]using g) (by simpa only[AV.bH]using k) q⟩
 | .clo f cells,c,g,k,d=>by
  simp only[rel]at d⊢;obtain⟨cs,e,q⟩:=d;exact⟨cs,e,yk cells (by simpa only[AV.closed]using g) (by simpa only[AV.bH]using k) q⟩
theorem yk{E E':Env}:∀(as:List AV) {vs:List Value},AV.bp as=true→AV.ct as=true→af E as vs→af E' as vs
 | [],[],_,_,_=>by simp[af]
 | [],_::_,_,_,d=>by simp[af]at d
 |_::_,[],_,_,d=>by simp[af]at d
 | a::as,v::vs,g,h,d=>by
  simp only[AV.bp,AV.ct,ax]at g h;simp only[af]at d⊢;exact⟨yh a g.1 h.1 d.1,yk as g.2 h.2 d.2⟩
end
theorem J5{E E':Env}{b:Nat}(hb:E'.w.heap[b]? = E.w.heap[b]?):∀(as:List AV) {o:Nat},AV.bp as=true→AV.ct as=true→ch E as b o→ch E' as b o
 | [],_,_,_,_=>by simp[ch]
 | a::as,o,d,g,h=>by
  simp only[AV.bp,AV.ct,ax]at d g;simp only[ch]at h⊢;obtain⟨⟨v,h1,k,q⟩,u⟩:=h;exact⟨⟨v,by rw[World.qs hb]; exact h1,k,yh a d.1 g.1 q⟩,J5 hb as d.2 g.2 u⟩
theorem CL{E E':Env}{b k:Nat}(hb:E'.w.heap[b]? = E.w.heap[b]?):∀(rs:List (List AV)) {o:Nat},eV rs→(rs.all fun r=>AV.ct r)=true→cy E k rs b o→cy E' k rs b o
 | [],_,_,_,_=>by simp[cy]
 | r::rs,o,h,g,d=>by
  simp only[l5,ax]at g;simp only[cy]at d⊢;exact⟨d.1,J5 hb r (h r cW) g.1 d.2.1,CL hb rs (fun x q=>h x (c9 _ q)) g.2 d.2.2⟩
theorem uI{E E':Env}:∀{es:List (AV × AV × Nat)} {ms:List MapEntry},(es.all fun x=>x.1.bH&&x.2.1.bH)=true→bC E es ms→bC E' es ms
 | [],[],_,_=>by simp[bC]
 | (k,v,n)::es,e::ms,g,d=>by
  simp only[l5,ax]at g;simp only[bC]at d⊢;obtain⟨h1,u,y,h,q,B⟩:=d;exact⟨yh k h g.1.1 h1,yh v q g.1.2 u,y,h,q,uI g.2 B⟩
 | [],_::_,_,d=>by simp[bC]at d
 |_::_,[],_,d=>by simp[bC]at d
theorem iI{E E':Env}(h:E.bF E'):∀{es:List (AV × AV × Nat)} {ms:List MapEntry},bC E es ms→bC E' es ms
 | [],[],_=>by simp[bC]
 | (k,v,n)::es,e::ms,d=>by
  simp only[bC]at d⊢;obtain⟨h1,u,y,g,q,B⟩:=d;exact⟨dF h k g h1,dF h v q u,y,g,q,iI h B⟩
 | [],_::_,d=>by simp[bC]at d
 |_::_,[],d=>by simp[bC]at d
theorem Uo{S:Bool}{e:bL}{E E':Env}(h:pz S e E E'){j:Nat}{o:ab}(U:S=true→o.bH=true)(J:E'.loc[e.at j]? = E.loc[j]?) (hb:∀ b n,E.loc[j]? = some (some (b,n))→E'.w.heap[b]? = E.w.heap[b]?)
  (W:∀ l,o.label=some l→E'.X.r l=E.X.r l∧∀(h g m:Nat),(E.X.r l)[h]? = some (some (some (g,m)))→E'.w.heap[g]? = E.w.heap[g]?)
  (ho:aM E j o):aM E' (e.at j) (o.b_ e j):=by
 cases o with
 |dead=>simp only[ab.b_,aM]at *; rw[J]; exact ho
 |dK=>simp only[ab.b_,aM]at *; rw[J]; exact ho
 | box cells =>
  simp only[ab.b_,aM]at *;obtain⟨b,n,h1,d,u⟩:=ho;exact⟨b,n,by rw[J,h1],by rw[JY]; exact qu (hb b n h1) d,J4 h (hb b n h1) cells (fun e=>by simpa only[ab.bH]using U e) u⟩
 | vec k ae rows =>
  simp only[ab.b_,aM]at *;rcases ho with⟨h1,d⟩|⟨b,m,h1,d,u,M,I⟩
  ·exact .inl ⟨by rw[J,h1],d⟩
  ·refine .inr ⟨b, m, by rw [J, h1], qu (hb b m h1) d, u, M, ?_⟩
   cases S with
   |true=>exact CL (hb b m h1) rows M (by simpa only[ab.bH]using U rfl) I
   |false=>exact kF h.bF rows M (hb b m h1) I
 | map es clock =>
  simp only[ab.b_,aM]at *;obtain⟨b,n,ms,h1,d,u⟩:=ho;refine⟨b,n,ms,by rw[J,h1],by rw[hb b n h1,d],?_⟩;cases S with
  |true=>exact uI (by simpa only[ab.bH]using U rfl) u
  |false=>exact iI h.bF u
 | iter s pos =>
  simp only[ab.b_,aM]at *;obtain⟨b,n,h1,d⟩:=ho;exact⟨b,n,by rw[J,h1],by rw[hb b n h1,d]⟩
 | eD l T B s =>
  simp only[ab.b_,aM]at *;obtain⟨b,n,p,v,k,q,h1,d,u,M,I,h6⟩:=ho;obtain⟨g1,g2⟩:=W l rfl;exact⟨b,n,p,v,k,q,by rw[J,h1],by rw[hb b n h1,d],u,by rw[g1,M],by rw[g1]; exact I,A5 (fun g m e=>g2 k g m (by rw[M,e])) h6⟩
 | aG l k es clock =>
  simp only[ab.b_,aM]at *;obtain⟨b,n,ms,h1,d,u,M⟩:=ho;obtain⟨g1,g2⟩:=W l rfl;have O:S=true→∀ x∈es,x.1.bH=true∧∀ rows,x.2.1=some rows→(rows.all fun r=>AV.ct r)=true:=fun e x N=>by
   have I:=cM.1 (by simpa only[ab.bH]using U e) x N;simp only[ax]at I;exact⟨I.1,fun rows V=>by rw[V]at I; exact I.2⟩
  refine⟨b,n,ms,by rw[J,h1],by rw[hb b n h1,d],?_,tx (fun h g m hk=>⟨by rw[g1]; exact hk,g2 h g m hk⟩) (fun i x rows hi N b hb2 hc V=>?_) M⟩
  ·cases S with
   | true =>
    refine uI (cM.2 fun x N=>?_) u;obtain⟨y,hy,rfl⟩:=dD.1 N;simp[(O rfl y hy).1,AV.bH]
   |false=>exact iI h.bF u
  ·cases S with
   |true=>exact CL hb2 rows hc ((O rfl x (eT hi)).2 rows N) V
   |false=>exact kF h.bF rows hc hb2 V
 | mm l es ms clock =>
  simp only[ab.b_,aM]at *;obtain⟨b,n,mes,h1,d,u,M⟩:=ho;obtain⟨g1,g2⟩:=W l rfl;have O:S=true→(es.all fun x=>x.1.bH)=true∧∀ m∈ms,(m.1.all fun x=>x.1.bH&&x.2.1.bH)=true:=fun e=>by
   have I:=U e;simp only[ab.bH,ax]at I;exact⟨I.1,cM.1 I.2⟩
  refine⟨b,n,mes,by rw[J,h1],by rw[hb b n h1,d],?_,A8 g1 g2 (fun m hm q hq=>?_) M⟩
  ·cases S with
   | true =>
    refine uI (cM.2 fun x N=>?_) u;obtain⟨y,hy,rfl⟩:=dD.1 N;simp[cM.1 (O rfl).1 y hy,AV.bH]
   |false=>exact iI h.bF u
  ·cases S with
   |true=>exact uI ((O rfl).2 m hm) hq
   |false=>exact iI h.bF hq
def nQ(e:bL)(H H1:List ab):List ab:=dZ H e.ids (j7 e 0 H1)++(j7 e 0 H1).drop e.ids.length
theorem gx{e:bL}{j:Nat}(h:j<e.ids.length):e.ids[j]? = some (e.at j):=by
 simp[bL.at,h]
theorem ru{e:bL}{j:Nat}(h:e.ids.length≤j):e.at j=e.base+(j-e.ids.length):=by
 simp[bL.at,List.getElem?_eq_none h]
theorem J6{α:Type}{e:bL}{H xs:List α}(k:e.ids.Nodup)(d:∀ j,j<e.ids.length→e.at j<H.length)(hb:e.base=H.length)(q:e.ids.length≤xs.length)(j:Nat) :
  (dZ H e.ids xs++xs.drop e.ids.length)[e.at j]? = xs[j]? := by
 rcases jq j e.ids.length with h|h
 ·rw [cI (by rw [nP]; exact d j h)]
  have g:j<xs.length:=dn h q;rw[JZ e.ids H xs j (e.at j) xs[j] k (gx h) (bI g) (d j h),bI g]
 ·rw [ru h, hb, iz (by rw [nP]; omega), nP, qd]
  congr 1;omega
theorem CM{α:Type}{e:bL}{H xs:List α}{i:Nat}(hi:i∉e.ids)(d:i<H.length):(dZ H e.ids xs++xs.drop e.ids.length)[i]? = H[i]? := by
 rw[cI (by rw[nP]; exact d),yf e.ids H xs i hi]
theorem nR{α:Type}{e:bL}{H xs:List α}{i:Nat}{x:α}(hb:e.base=H.length)(h:(dZ H e.ids xs++xs.drop e.ids.length)[i]? = some x) :
  (i∉e.ids∧i<H.length∧H[i]? = some x)∨∃ j,i=e.at j:=by
 by_cases hm:i∈e.ids
 ·right
  obtain⟨j,g,rfl⟩:=oG hm;refine⟨j,?_⟩;have:=gx g;rw[bI g]at this;exact(gg this)
 ·rcases jq i H.length with d | k
  ·left
   exact⟨hm,d,by rw[CM hm d]at h; exact h⟩
  ·right
   refine⟨e.ids.length+(i-H.length),?_⟩;rw[ru (by omega)];omega
theorem frame(S:Bool)(nO:List Nat){P:Program}{f:FuncId}{args:List AV}{H0 H1 H:List ab}{v:AV}{e:bL}(hc:dG P f args H0 v H1)(hk:e.ids.length=H0.length)(hb:e.base=H.length)(hn:e.ids.Nodup)
  (hver:∀ j o,H0[j]? = some o→∃ o',H[e.at j]? = some o'∧o.born=true∧∀ v,o'.aD = some v↔∃ u,o.aD = some u∧v=u+e.up j)
  (hobj:∀ E E0,E.H=H→aq E→ye e nO E E0→E0.H=H0→∀ j o,H0[j]? = some o→aM E0 j o) (hu1:j8 e 0 H1=true) (hl1:H0.length≤H1.length) (hlent:S=false→nO=[])
  (hSv:S=true→v.bH=true) (hSo:S=true→(H1.all ab.bH)=true) (hdis:∀ i,i∈nO→i∉e.ids)
  (hlab:∀(j:Nat) o o',H0[j]? = some o→H[e.at j]? = some o'→o'.label=o.label) (hlab1:∀(j:Nat) o l,H1[j]? = some o→o.label=some l→∃ o0,H0[j]? = some o0∧o0.label=some l)
  (hlabm:∀(j:Nat) o o',H0[j]? = some o→H[e.at j]? = some o'→o'.cZ=o.cZ) {args0:List AV}
  (hargs0:∀ E E0 cs,E.H=H→aq E→ye e nO E E0→E0.H=H0→af E args0 cs→af E0 args cs) :
  dG P f args0 H (v.b_ e) (nQ e H H1):=by
 intro E cargs M HE hargs;have hElen:E.loc.length=H.length:=by rw[HE.len,M]
 have hat:∀ j,j<e.ids.length→e.at j<H.length:=fun j B=>by
  have hj':j<H0.length:=by omega
  obtain⟨o',h1,_⟩:=hver j H0[j] (bI hj');exact aL h1
 have hmem:∀ j,j<e.ids.length→e.at j∈e.ids:=fun j B=>eT (gx B)
 let pl:Nat→Prop:=fun l=>∃(j:Nat) (o:ab),H0[j]? = some o∧o.label=some l
 have:DecidablePred pl:=fun l=>Classical.propDecidable (pl l)
 let r0:Nat→List (Option (Option (Nat × Nat))):=fun l=>if pl l then E.X.r l else []
 have r0p:∀ l,pl l→r0 l=E.X.r l:=fun l h=>if_pos h;have r0n:∀ l (h:Nat) q,(r0 l)[h]? = some q→pl l∧(E.X.r l)[h]? = some q:=fun l h q W=>by
  by_cases y:pl l
  ·rw[r0p l y]at W; exact⟨y,W⟩
  ·rw[show r0 l=[] from if_neg y]at W; simp at W
 let X0:XS:=⟨fun b=>E.X b∨(∃ i c,i∉e.ids∧i∉nO∧E.loc[i]? = some (some (b,c)))∨∃(l h m:Nat),¬ pl l∧(E.X.r l)[h]? = some (some (some (b,m))),E.X.z,r0⟩
 let loc0:List (Option (Nat × Nat)):=e.ids.map fun i=>E.loc.getD i none
 let E0:Env:={ w:=E.w,H:=H0,loc:=loc0,X:=X0 }
 have hloc0:∀ j,j<e.ids.length→loc0[j]? = E.loc[e.at j]? := fun j B=>by
  simp only[loc0,bZ,gx B,eJ];have:e.at j<E.loc.length:=by rw[hElen]; exact hat j B
  rw[cf,bI this];rfl
 have hlen0:loc0.length=e.ids.length:=by simp[loc0]
 have hpast:∀ j ae,E.past (e.at j) ae→j<e.ids.length:=by
  rintro j ae ⟨o,ho,_⟩;rcases jq j e.ids.length with h|h
  ·exact h
  ·have := aL ho
   rw[M,ru h,hb]at this;omega
 have hobj0:∀ j,j<e.ids.length→∃ o o',H0[j]? = some o∧E.H[e.at j]? = some o'∧o.born=true∧∀ v,o'.aD = some v↔∃ u,o.aD = some u∧v=u+e.up j:=fun j B=>by
  have hj':j<H0.length:=by omega
  obtain⟨o',h1,d⟩:=hver j H0[j] (bI hj');exact⟨H0[j],o',bI hj',by rw[M]; exact h1,d⟩
 have hown0:∀ b,E0.own b→E.own b:=by
  rintro b (⟨id,c,hid⟩|⟨l,k,c,J⟩)
  case inr=>exact .inr ⟨l,k,c,(r0n l k _ J).2⟩
  have I:=aL hid;rw[show E0.loc=loc0 from rfl]at hid I;rw[hlen0]at I;rw[hloc0 id I]at hid;exact .inl ⟨_,c,hid⟩
 have hin:KeepIn e E E0:=by
  refine⟨fun b hbk=>⟨⟨hbk.1,fun ho=>hbk.2.1 (hown0 b ho),?_⟩,rfl⟩,rfl,hloc0,fun j o l h1 d=>r0p l ⟨j,o,h1,d⟩⟩;rintro(N|⟨i,c,_,_,hi⟩|⟨l,k,c,_,J⟩)
  ·exact hbk.2.2 N
  ·exact hbk.2.1 (.inl ⟨i,c,hi⟩)
  ·exact hbk.2.1 (.inr ⟨l,k,c,J⟩)
 have hpin:∀ j ae,E.past (e.at j) (ae+e.up j)→E0.past j ae:=fun j ae y=>by
  obtain⟨o,oo,h1,d,O,h3⟩:=hobj0 j (hpast j _ y);obtain⟨o',h4,h5⟩:=y;rw[d]at h4;cases h4;refine⟨o,h1,O,fun v hv=>?_⟩;have:=h5.2 (v+e.up j) ((h3 _).2 ⟨v,hv,rfl⟩);omega
 have hout0:∀ i b n,i∉e.ids→E.loc[i]? = some (some (b,n))→¬ E0.own b:=by
  rintro i b n hi O (⟨id,c',hid⟩|⟨l,k,c,J⟩)
  case inr=>exact HE.cN _ _ _ _ _ _ O (r0n l k _ J).2
  have I:=aL hid;rw[show E0.loc=loc0 from rfl]at hid I;rw[hlen0]at I;rw[hloc0 id I]at hid;have:=HE.inj _ _ _ _ _ O hid;exact hi (this▸hmem id I)
 have hlin:ye e nO E E0:=by
  refine⟨hin,fun i hi b n O=>⟨(HE.lt _ _ _ O).1,hout0 i b n (hdis i hi) O,?_⟩⟩;rintro(N|⟨U,c,_,d,hi'⟩|⟨l,k,c,_,J⟩)
  ·exact(HE.lt _ _ _ O).2 N
  ·have := HE.inj _ _ _ _ _ hi' O
   exact d (this▸hi)
  ·exact HE.cN _ _ _ _ _ _ O J
 have HE0:aq E0:=by
  have conv:∀{j:Nat} {x:Option (Nat × Nat)},loc0[j]? = some x→j<e.ids.length∧E.loc[e.at j]? = some x:=by
   intro j x N;have I:=aL N;rw[hlen0]at I;exact⟨I,by rw[←hloc0 j I]; exact N⟩
  refine⟨by rw[show E0.loc=loc0 from rfl,hlen0,hk],?_,?_,?_,?_,HE.eW.bF hin.bF,fun l k l' k' b m n h1 d=>HE.eE l k l' k' b m n (r0n l k _ h1).2 (r0n l' k' _ d).2,fun i b m l k n hi d=>HE.cN _ b m l k n (conv hi).2 (r0n l k _ d).2,?_,?_,?_⟩
  ·intro i j b m n hi B
   obtain⟨i1,i2⟩:=conv hi
   obtain⟨j1,j2⟩:=conv B
   have:=HE.inj _ _ _ _ _ i2 j2;exact(AO i1 hn).1 (by rw[gx i1,gx j1,this])
  ·intro i b m hi
   obtain⟨i1,i2⟩:=conv hi
   refine⟨(HE.lt _ _ _ i2).1,?_⟩;rintro(N|⟨U,c,hni,_,hi'⟩|⟨l,k,c,_,J⟩)
   ·exact(HE.lt _ _ _ i2).2 N
   ·have := HE.inj _ _ _ _ _ hi' i2
    exact hni (this▸hmem i i1)
   ·exact HE.cN _ _ _ _ _ _ i2 J
  ·rintro b (N | ⟨U, c, _, _, hi'⟩ | ⟨l, k, c, _, J⟩)
   ·exact HE.X b N
   ·exact(HE.lt _ _ _ hi').1
   ·exact(HE.cr _ _ _ _ J).1
  ·intro j o ho
   have B:j<e.ids.length:=by rw[hk]; exact aL ho
   exact hobj E E0 M HE hlin rfl j o ho
  ·intro l k b m h1
   obtain⟨y,d⟩:=r0n l k _ h1;refine⟨(HE.cr _ _ _ _ d).1,?_⟩;rintro(N|⟨U,c,_,_,hi'⟩|⟨l',k',c,hnp,J⟩)
   ·exact(HE.cr _ _ _ _ d).2 N
   ·exact HE.cN _ _ _ _ _ _ hi' d
   ·exact hnp ((HE.eE _ _ _ _ _ _ _ d J).1▸y)
  ·intro i j o o' l hi B h1 d
   have i1:i<e.ids.length:=by rw[hk]; exact aL hi
   have j1:j<e.ids.length:=by rw[hk]; exact aL B
   obtain⟨_,oi,V,a2,_⟩:=hobj0 i i1;obtain⟨_,oj,b1,b2,_⟩:=hobj0 j j1;have ei:=hlab i o oi hi (by rw[←M]; exact a2);have ej:=hlab j o' oj B (by rw[←M]; exact b2);have:=HE.uniq _ _ _ _ l a2 b2 (by rw[ei,h1]) (by rw[ej,d]);exact(AO i1 hn).1 (by rw[gx i1,gx j1,this])
  ·intro l hnl k q W
   obtain⟨⟨j,o,h1,d⟩,_⟩:=r0n l k _ W;exact hnl j o h1 d
 refine(hc E0 cargs rfl HE0 (hargs0 E E0 _ M HE hlin rfl hargs)).mono ?_;rintro _ w' ⟨c,v',H',rfl,⟨rfl,rfl⟩,loc1,r1,g1,g2,g3⟩
 let r':Nat→List (Option (Option (Nat × Nat))):=fun l=>if pl l then r1 l else E.X.r l
 have rp:∀ l,pl l→r' l=r1 l:=fun l h=>if_pos h;have rn:∀ l,¬ pl l→r' l=E.X.r l:=fun l h=>if_neg h;have hl1':e.ids.length≤H'.length:=by omega
 have hlen1:loc1.length=H'.length:=g2.len;have hbL:e.base=E.loc.length:=by rw[hElen]; exact hb
 have hbE:e.base=E.H.length:=by rw[M]; exact hb
 let loc':List (Option (Nat × Nat)):=dZ E.loc e.ids loc1++loc1.drop e.ids.length
 let E1:Env:={ w:=w',H:=H',loc:=loc1,X:=X0.re r1 }
 let E':Env:={ w:=w',H:=nQ e H H',loc:=loc',X:=E.X.re r' }
 have Hin:∀ j,E'.H[e.at j]? = (H'[j]?).map (ab.b_ e j):=fun j=>by
  have:=J6 (e:=e) (H:=H) (xs:=j7 e 0 H') hn hat hb (by rw[CK]; exact hl1') j;rw[J0,cP]at this;exact this
 have eZ:∀ j,E'.loc[e.at j]? = loc1[j]? := fun j =>
  J6 (e:=e) (H:=E.loc) (xs:=loc1) hn (fun j B=>by rw[hElen]; exact hat j B) hbL (by rw[hlen1]; exact hl1') j
 have Hout:∀ i,i∉e.ids→i<H.length→E'.H[i]? = E.H[i]? := fun i hi I=>by
  rw[M];exact CM (e:=e) hi I
 have Lout:∀ i,i∉e.ids→i<H.length→E'.loc[i]? = E.loc[i]? := fun i hi I=>CM (e:=e) hi (by rw[hElen]; exact I);have hu1':∀(j:Nat) (o:ab),H'[j]? = some o→o.yg e j=true:=fun j o ho=>by
  have:=J1 hu1 ho
  rwa [cP]at this
 have own':∀ b,E'.own b→E1.own b∨(∃ i c,i∉e.ids∧E.loc[i]? = some (some (b,c)))∨∃(l h m:Nat),¬ pl l∧(E.X.r l)[h]? = some (some (some (b,m))):=by
  rintro b (⟨i,c,hi⟩|⟨l,k,c,J⟩)
  ·rcases nR (e := e) hbL hi with ⟨h1, _, h3⟩ | ⟨j, rfl⟩
   ·exact .inr (.inl ⟨i,c,h1,h3⟩)
   ·rw [eZ j] at hi
    exact .inl (.inl ⟨j,c,hi⟩)
  ·have J : (r' l)[k]? = some (some (some (b, c))) := J
   by_cases y:pl l
   ·rw [rp l y] at J
    exact .inl (.inr ⟨l,k,c,J⟩)
   ·rw [rn l y] at J
    exact .inr (.inr ⟨l,k,c,y,J⟩)
 have hout:pz S e E1 E':=by
  refine⟨fun hS b hbk=>⟨⟨hbk.1,fun ho=>?_,fun N=>hbk.2.2 (Or.inl N)⟩,rfl⟩,fun j ae y=>?_,fun j ae y hl=>?_⟩
  ·rcases own' b ho with h | ⟨i, c, h1, d⟩ | h
   ·exact hbk.2.1 h
   ·exact hbk.2.2 (Or.inr (.inl ⟨i,c,h1,by rw[hlent hS]; exact List.not_mem_nil,d⟩))
   ·exact hbk.2.2 (Or.inr (.inr h))
  ·obtain ⟨o, h1, d⟩ := y
   refine⟨o.b_ e j,by rw[Hin j,show H'[j]? = some o from h1]; rfl,by rw[J2]; exact d.1,fun v hv=>?_⟩;obtain⟨u,q1,rfl⟩:=(uH (hu1' j o h1) v).1 hv;have:=d.2 u q1;omega
  ·obtain ⟨o', h1, d⟩ := hl
   rw[Hin j]at h1;obtain⟨o,h3,rfl⟩:=dQ.1 h1;obtain⟨u,q1,q2⟩:=(uH (hu1' j o h3) _).1 d;have:u=ae:=by omega
   subst this;exact⟨⟨o,h3,q1⟩,eZ j⟩
 have hle:E.le E':=by
  refine⟨fun i ae y=>?_,g3.size,fun b I ho=>g3.same b I (fun h=>ho (hown0 b h)),fun b I ho h'=>?_,fun i ae y hl=>?_,⟨rfl,rfl⟩,fun l k J=>?_,g3.env,fun i l o h1 d hv=>?_⟩
  rotate_right
  ·by_cases hi : i ∈ e.ids
   ·obtain ⟨j, B, rfl⟩ := oG hi
    have hat':e.ids[j]=e.at j:=by
     have:=gx B;rw[bI B]at this;exact gg this
    rw[hat']at h1 hv⊢;obtain⟨o0,oo,k1,k2,O,k3⟩:=hobj0 j B;have em:o.cZ=o0.cZ:=hlabm j o0 o k1 (by rw[←M]; exact h1);have hl0:o0.label=some l:=ab.kD (by rw[←em]; exact d);have y:pl l:=⟨j,o0,k1,hl0⟩
    obtain⟨o',w1,w2⟩:=hv;rw[Hin j]at w1;obtain⟨o1,r3,rfl⟩:=dQ.1 w1;obtain⟨u,q1,q2⟩:=(uH (hu1' j o1 r3) _).1 w2;have hu:u=0:=by omega
    subst hu;obtain⟨⟨t,ht⟩,o2,s1,s2⟩:=g3.grow j l o0 k1 (by rw[←em]; exact d) ⟨o1,r3,q1⟩;have ht':r1 l=E.X.r l++t:=by
     rw[←r0p l y];exact ht
    refine⟨⟨t,by rw[show E'.X.r l=r' l from rfl,rp l y]; exact ht'⟩,o2.b_ e j,?_,by rw[Un]; exact s2⟩;rw[Hin j,show H'[j]? = some o2 from s1];rfl
   ·have I := aL h1
    rw[M]at I;have hnp:¬ pl l:=by
     rintro⟨j,o0,V,a2⟩;have j1:j<e.ids.length:=by rw[hk]; exact aL V
     obtain⟨_,oj,b1,b2,_⟩:=hobj0 j j1;have h3:=HE.uniq _ _ _ _ l h1 b2 (ab.kD d) (by rw[hlab j o0 oj V (by rw[←M]; exact b2),a2]);exact hi (h3▸hmem j j1)
    exact⟨⟨[],by rw[List.append_nil,show E'.X.r l=r' l from rfl,rn l hnp]⟩,o,by rw[Hout i hi I]; exact h1,d⟩
  ·by_cases hi : i ∈ e.ids
   ·obtain ⟨j, B, rfl⟩ := oG hi
    have hat':e.ids[j]=e.at j:=by
     have:=gx B;rw[bI B]at this;exact gg this
    rw[hat']at y⊢;obtain⟨o0,oo,h1,d,O,h3⟩:=hobj0 j B;obtain⟨o,h4,h5⟩:=y;rw[d]at h4;cases h4;have hj1:j<H'.length:=by omega
    have hbn':H'[j].born=true:=by
     have p0:E0.past j 0:=⟨o0,h1,O,fun v _=>er v⟩
     obtain⟨o2,r1,r2⟩:=g3.past j _ p0;rw[show E1.H=H' from rfl,bI hj1]at r1;cases r1;exact r2.1
    refine⟨H'[j].b_ e j,by rw[Hin j,bI hj1]; rfl,by rw[J2]; exact hbn',fun v hv=>?_⟩;obtain⟨u,q1,rfl⟩:=(uH (hu1' j _ (bI hj1)) v).1 hv;cases hz:o0.aD with
    | none =>
     have p0:E0.past j (u+1):=⟨o0,h1,O,fun v hv=>by rw[hz]at hv; cases hv⟩
     obtain⟨o2,r1,r2⟩:=g3.past j _ p0;rw[show E1.H=H' from rfl,bI hj1]at r1;cases r1;have:=r2.2 u q1;omega
    | some u0 =>
     have p0:E0.past j u0:=⟨o0,h1,O,fun v hv=>by rw[hz]at hv; cases hv; exact aB _⟩
     obtain⟨o2,r1,r2⟩:=g3.past j _ p0;rw[show E1.H=H' from rfl,bI hj1]at r1;cases r1;have:=r2.2 u q1;have:=h5.2 (u0+e.up j) ((h3 _).2 ⟨u0,hz,rfl⟩);omega
   ·obtain ⟨o, h1, d⟩ := y
    have I:=aL h1;rw[M]at I;exact⟨o,by rw[Hout i hi I]; exact h1,d⟩
  ·rcases own' b h' with h | ⟨i, c, _, d⟩ | ⟨l, k, c, _, d⟩
   ·exact g3.own b I (fun h=>ho (hown0 b h)) h
   ·exact ho (.inl ⟨i,c,d⟩)
   ·exact ho (.inr ⟨l,k,c,d⟩)
  ·have I:i<H.length:=by
    obtain⟨o,h1,_⟩:=y;have:=aL h1
    rwa [M]at this
   by_cases hi:i∈e.ids
   ·obtain ⟨j, B, rfl⟩ := oG hi
    have hat':e.ids[j]=e.at j:=by
     have:=gx B;rw[bI B]at this;exact gg this
    rw[hat']at y hl⊢;obtain⟨o',r1,r2⟩:=hl;rw[Hin j]at r1;obtain⟨o1,r3,rfl⟩:=dQ.1 r1;obtain⟨u,q1,rfl⟩:=(uH (hu1' j o1 r3) _).1 r2;have p0:=hpin j u y;obtain⟨⟨o0,s1,s2⟩,s3⟩:=g3.live j u p0 ⟨o1,r3,q1⟩;obtain⟨o0',oo,h1,d,O,h3⟩:=hobj0 j B;rw[show E0.H=H0 from rfl,h1]at s1;cases s1;refine⟨⟨_,d,(h3 _).2 ⟨u,s2,rfl⟩⟩,?_⟩;rw[eZ j,←hloc0 j B];exact s3
   ·obtain ⟨o', r1, r2⟩ := hl
    rw[Hout i hi I]at r1;exact⟨⟨o',r1,r2⟩,Lout i hi I⟩
  ·by_cases y : pl l
   ·have := g3.rl l k (by show k < (r0 l).length; rw [r0p l y]; exact J)
    rw[show E0.X.r l=r0 l from rfl,r0p l y]at this;rw[show E'.X.r l=r' l from rfl,rp l y];exact this
   ·rw [show E'.X.r l = r' l from rfl, rn l y]
    exact⟨J,fun _ W=>W⟩
 have lab':∀(j:Nat) o l,H'[j]? = some o→o.label=some l→pl l:=fun j o l h1 d=>by
  obtain⟨o0,V,a2⟩:=hlab1 j o l h1 d;exact⟨j,o0,V,a2⟩
 have labIn:∀(j:Nat) o l,H0[j]? = some o→o.label=some l→∃ o',E.H[e.at j]? = some o'∧o'.label=some l∧e.at j∈e.ids:=fun j o l h1 d=>by
  have j1:j<e.ids.length:=by rw[hk]; exact aL h1
  obtain⟨_,oj,b1,b2,_⟩:=hobj0 j j1;exact⟨oj,b2,by rw[hlab j o oj h1 (by rw[←M]; exact b2),d],hmem j j1⟩
 have labOut:∀(i:Nat) o l,i∉e.ids→E.H[i]? = some o→o.label=some l→¬ pl l:=fun i o l hi h1 d ⟨j,o0,V,a2⟩=>by
  obtain⟨o',b1,b2,b3⟩:=labIn j o0 l V a2;have:=HE.uniq _ _ _ _ l h1 b1 d b2;exact hi (this▸b3)
 have satOut:∀(l k b m:Nat),¬ pl l→(E.X.r l)[k]? = some (some (some (b,m)))→¬ E0.own b:=by
  rintro l k b m y h1 (⟨id,c',hid⟩|⟨l',k',c,J⟩)
  ·have I := aL hid
   rw[show E0.loc=loc0 from rfl]at hid I;rw[hlen0]at I;rw[hloc0 id I]at hid;exact HE.cN _ _ _ _ _ _ hid h1
  ·obtain ⟨q1, q2⟩ := r0n l' k' _ J
   exact y ((HE.eE _ _ _ _ _ _ _ h1 q2).1▸q1)
 refine⟨c,_,_,rfl,⟨rfl,rfl⟩,loc',r',CJ hout v' hSv g1,?_,hle⟩;refine⟨?_,?_,?_,fun b N=>dn (HE.X b N) g3.size,?_,HE.eW.bF hle.toC,?_,?_,?_,?_,?_⟩
 ·simp only[loc',nQ,fb,nP,List.length_drop,CK,hElen,hlen1]
 ·intro i j b m n hi B
  rcases nR (e:=e) hbL hi with⟨i1,_,i3⟩|⟨U,rfl⟩<;>rcases nR (e:=e) hbL B with⟨j1,_,j3⟩|⟨j',rfl⟩
  ·exact HE.inj _ _ _ _ _ i3 j3
  ·rw [eZ j'] at B
   exact(g3.own b (HE.lt _ _ _ i3).1 (hout0 i b m i1 i3) (.inl ⟨j',n,B⟩)).elim
  ·rw [eZ U] at hi
   exact(g3.own b (HE.lt _ _ _ j3).1 (hout0 j b n j1 j3) (.inl ⟨U,m,hi⟩)).elim
  ·rw [eZ U] at hi
   rw[eZ j']at B;rw[g2.inj _ _ _ _ _ hi B]
 ·intro i b m hi
  rcases nR (e:=e) hbL hi with⟨i1,_,i3⟩|⟨U,rfl⟩
  ·exact⟨dn (HE.lt _ _ _ i3).1 g3.size,(HE.lt _ _ _ i3).2⟩
  ·rw [eZ U] at hi
   exact⟨(g2.lt _ _ _ hi).1,fun N=>(g2.lt _ _ _ hi).2 (Or.inl N)⟩
 ·intro i o hi
  have hi':=hi;unfold nQ at hi';rcases nR (e:=e) hb hi' with⟨i1,i2,i3⟩|⟨j,rfl⟩
  ·refine jS (E := E) (fun a _ hr => bP hle a hr) (Lout i i1 i2) (fun b n O => ?_) (fun l hl => ?_) (HE.obj i o (by rw [M]; exact i3))
   ·exact g3.same b (HE.lt _ _ _ O).1 (hout0 i b n i1 O)
   ·have y := labOut i o l i1 (by rw [M]; exact i3) hl
    exact⟨rn l y,fun k g m h1=>g3.same g (HE.cr _ _ _ _ h1).1 (satOut l k g m y h1)⟩
  ·have h1 := Hin j
   rw[show E'.H=nQ e H H' from rfl,hi]at h1;obtain⟨o1,d,rfl⟩:=dQ.1 h1.symm;exact Uo hout (fun e=>cM.1 (hSo e) o1 (eT d)) (eZ j) (fun _ _ _=>rfl) (fun l hl=>⟨rp l (lab' j o1 l d hl),fun _ _ _ _=>rfl⟩) (g2.obj j o1 d)
 ·intro l k l' k' b m n h1 d
  have h1:(r' l)[k]? = some (some (some (b,m))):=h1;have d:(r' l')[k']? = some (some (some (b,n))):=d;by_cases y:pl l<;>by_cases hp':pl l'
  ·rw [rp l y] at h1
   rw[rp l' hp']at d;exact g2.eE l k l' k' b m n h1 d
  ·rw [rp l y] at h1
   rw[rn l' hp']at d;exact((g2.cr l k b m h1).2 (.inr (.inr ⟨l',k',n,hp',d⟩))).elim
  ·rw [rn l y] at h1
   rw[rp l' hp']at d;exact((g2.cr l' k' b n d).2 (.inr (.inr ⟨l,k,m,y,h1⟩))).elim
  ·rw [rn l y] at h1
   rw[rn l' hp']at d;exact HE.eE l k l' k' b m n h1 d
 ·intro i b m l k n hi h1
  have h1:(r' l)[k]? = some (some (some (b,n))):=h1;rcases nR (e:=e) hbL hi with⟨i1,_,i3⟩|⟨U,rfl⟩
  ·by_cases y : pl l
   ·rw [rp l y] at h1
    exact g3.own b (HE.lt _ _ _ i3).1 (hout0 i b m i1 i3) (.inr ⟨l,k,n,h1⟩)
   ·rw [rn l y] at h1
    exact HE.cN _ _ _ _ _ _ i3 h1
  ·rw [eZ U] at hi
   by_cases y:pl l
   ·rw [rp l y] at h1
    exact g2.cN _ _ _ _ _ _ hi h1
   ·rw [rn l y] at h1
    exact(g2.lt _ _ _ hi).2 (.inr (.inr ⟨l,k,n,y,h1⟩))
 ·intro l k b m h1
  have h1:(r' l)[k]? = some (some (some (b,m))):=h1;by_cases y:pl l
  ·rw [rp l y] at h1
   exact⟨(g2.cr _ _ _ _ h1).1,fun N=>(g2.cr _ _ _ _ h1).2 (.inl N)⟩
  ·rw [rn l y] at h1
   exact⟨dn (HE.cr _ _ _ _ h1).1 g3.size,(HE.cr _ _ _ _ h1).2⟩
 ·have inn:∀ (j:Nat) o,E'.H[e.at j]? = some o→∃ o1,H'[j]? = some o1∧o.label=o1.label:=fun j o h=>by
   rw[Hin j]at h;obtain⟨o1,d,rfl⟩:=dQ.1 h;exact⟨o1,d,J3 e j o1⟩
  intro i j o o' l hi B h1 d;have hi':=hi;have hj':=B;unfold nQ at hi' hj';rcases nR (e:=e) hb hi' with⟨i1,i2,i3⟩|⟨U,rfl⟩<;>rcases nR (e:=e) hb hj' with⟨j1,j2,j3⟩|⟨j',rfl⟩
  ·exact HE.uniq i j o o' l (by rw[M]; exact i3) (by rw[M]; exact j3) h1 d
  ·obtain ⟨o1, V, a2⟩ := inn j' o' B
   exact(labOut i o l i1 (by rw[M]; exact i3) h1 (lab' j' o1 l V (by rw[←a2,d]))).elim
  ·obtain ⟨o1, V, a2⟩ := inn U o hi
   exact(labOut j o' l j1 (by rw[M]; exact j3) d (lab' U o1 l V (by rw[←a2,h1]))).elim
  ·obtain ⟨o1, V, a2⟩ := inn U o hi
   obtain⟨o2,b1,b2⟩:=inn j' o' B;rw[g2.uniq U j' o1 o2 l V b1 (by rw[←a2,h1]) (by rw[←b2,d])]
 ·intro l hnl k q W
  have W:(r' l)[k]? = some (some q):=W;by_cases y:pl l
  ·rw [rp l y] at W
   refine g2.fQ l (fun j o h1 d=>?_) k q W;refine hnl (e.at j) (o.b_ e j) ?_ (by rw[J3,d]);rw[Hin j,show H'[j]? = some o from h1];rfl
  ·rw [rn l y] at W
   refine HE.fQ l (fun i o h1 d=>?_) k q W;have I:=aL h1;rw[M]at I;by_cases hi:i∈e.ids
   ·obtain ⟨j, B, rfl⟩ := oG hi
    have hat':e.ids[j]=e.at j:=by
     have:=gx B;rw[bI B]at this;exact gg this
    rw[hat']at h1;obtain⟨o0,oo,V,a2,_⟩:=hobj0 j B;rw[h1]at a2;cases a2;exact y ⟨j,o0,V,by rw[←hlab j o0 o V (by rw[←M]; exact h1),d]⟩
   ·exact hnl i o (by rw[Hout i hi I]; exact h1) d
end Go.AL
