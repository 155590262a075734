/-
 What is proved here: owned objects of data,and what operations do to them,with what must hold so that they do it. No program in sight; no condition.
-/
import Derived.Test.YtjmnkdlhpemooaaGreatDoorMB
import Derived.Eval
import Derived.KernelRfl
set_option linter.all false
open Bool renaming and_true→fD,and_eq_true→ax,false_eq_true→kF,not_eq_true'→oW,or_eq_true→tu,not_true→wQ,eq_iff_iff→lx,and_false→Sd
open ByteArray renaming empty→wz
open Decidable renaming byContradiction→AU
open Function renaming comp→AX
open Go.Op renaming operands→fa
open Go.Utf8 renaming decode→nm
open Go.Value.slice renaming injEq→jT
open List renaming length_cons→cr,getElem?_append_left→cK,length_map→cN,mem_map→cV,getElem?_map→bT,mem_filterMap→Ha,getElem_of_mem→ma,getElem?_eq_getElem→bt,mem_of_getElem?→eB,getElem?_append_right→hZ,getElem?_set_ne→aR,all_eq_true→dq,getD_eq_getElem?_getD→bG,getElem?_drop→oR,mem_cons→bR,map_cons→dg,take_append_drop→tf,length_append→dY,mem_append→cZ,replicate→bO,all_cons→kI,mem_cons_self→cO,mem_cons_of_mem→c9,take_of_length_le→R7,map_append→jX,findIdx?_cons→Hs,nodup_cons→kK,getElem?_inj→AR,map_set→tw,headD_cons→wS,length_nil→mr,map_nil→qx,length→AY
open Nat renaming le_refl→aD,lt_of_lt_of_le→dz,zero_le→eI,lt_or_ge→jy,zero_add→cW,sub_zero→gq,add_zero→lv,beq→ae,eq_of_beq_eq_true→bk,sub_self→mn,ble→ep,blt→er,ble_eq→AW,blt_eq→jb,lt_succ_self→Sc,le_of_ble_eq_true→qy,mul_one→agZ,lt_succ_of_lt→wT,lt_irrefl→qz
open Option renaming map_eq_some_iff→dN,isSome_none→Hl,map_some→dO,map_none→wR,isSome_some→Hz,map_map→HA
open Option.some renaming injEq→aQ,inj→gx
open Prod.mk renaming injEq→a7
namespace Go.AL
open Go
variable [Dr]
def aB:Int→Bool
 |.ofNat _=>true
 |.negSucc _=>false
def ba:Int→Int→Bool
 |.ofNat x,.ofNat y=>ep x y
 |.ofNat _,.negSucc _=>false
 |.negSucc _,.ofNat _=>true
 |.negSucc x,.negSucc y=>ep y x
def ao:Int→Int→Bool
 |.ofNat x,.ofNat y=>er x y
 |.ofNat _,.negSucc _=>false
 |.negSucc _,.ofNat _=>true
 |.negSucc x,.negSucc y=>er y x
def au(n:Int):Bool:=ba (-9223372036854775808) n&&ba n 9223372036854775807
theorem ke(n:Int):aB n=decide (0≤n):=by
 cases n with
 |ofNat x=>simp[aB]
 |negSucc x=>simp[aB]
theorem fv(a b:Int):ba a b=decide (a≤b):=by
 rw[lx];cases a<;>cases b<;>simp[ba,AW]<;>(try omega)
theorem eW(a b:Int):ao a b=decide (a<b):=by
 rw[lx];cases a<;>cases b<;>simp[ao,jb]<;>(try omega)
theorem kX{n:Int}:au n=true ↔ -9223372036854775808≤n∧n≤9223372036854775807:=by
 simp[au,fv]
def g0(r:List G):G:=r.headD default
def gi:List G→Nat→G
 |r,0=>r.headD default
 |r,i+1=>gi r.tail i
def G.row(g:G):List G:=g.rows.headD []
def pC:Kd→G→G→Bool
 |.int _,a,b=>a.int==b.int
 |.str,a,b=>a.str.toList==b.str.toList
 |.bool,a,b=>a.bool==b.bool
 |.list _,_,_=>false
def aK:List Kd→List G→List G→Bool
 | [],_,_=>true
 |k::ks,r,s=>pC k (r.headD default) (s.headD default)&&aK ks r.tail s.tail
inductive Ct where
 |one (k:Kd)
 |agg (ks:List Kd)
 deriving Inhabited
def Ct.ks:Ct→List Kd
 |.one k=>[k]
 |.agg ks=>ks
def Ct.av:Ct→List G→AV
 |.one k,r=>iK k (r.headD default)
 |.agg ks,r=>.agg (aH ks r)
theorem Ct.ue(k:Ct)(r:List G):(k.av r).closed=true:=by
 cases k with
 |one k=>cases k<;>rfl
 |agg ks=>simp only[Ct.av,AV.closed,fG]
inductive ah where
 |raw (o:ab)
 |vec (ks:List Kd) (ad:Nat) (rows:List (List G))
 |map (K V:Ct) (rows:List (List G)) (clock:Nat)
 |aO (l:Nat) (K:Ct) (ks:List Kd) (rows:List (List G)) (clock:Nat)
 |mm (l:Nat) (K KI VI:Ct) (rows mem:List (List G)) (clock:Nat)
def cS(K V:Ct)(rows:List (List G)):List (AV × AV × Nat):=rows.map fun r=>(K.av (gi r 0).row,V.av (gi r 1).row,(gi r 2).int.toNat)
def gT(r:List G):List (List G):=((gi r 1).row.headD default).rows
def gD(K:Ct)(ks:List Kd)(r:List G):AV × Option (List (List AV)) × Nat:=((bif (gi r 4).bool && !(gi r 3).bool then .tuple [K.av (gi r 0).row,.listF ks (gT r)] else K.av (gi r 0).row),(bif (gi r 3).bool then some ((gT r).map (aH ks)) else none),(gi r 2).int.toNat)
def eX(K:Ct)(ks:List Kd)(rows:List (List G)):List (AV × Option (List (List AV)) × Nat):=rows.map (gD K ks)
def pD(r:List G):Option Nat:=bif ba 0 (gi r 1).int then some (gi r 1).int.toNat else none
def iw(K:Ct)(rows:List (List G)):List (AV × Option Nat × Nat):=rows.map fun r=>(K.av (gi r 0).row,pD r,(gi r 2).int.toNat)
def nJ(KI VI:Ct)(mem:List (List G)):List (List (AV × AV × Nat) × Nat):=mem.map fun m=>(cS KI VI (gi m 0).rows,(gi m 1).int.toNat)
def ah.den:ah→ab
 |.raw o=>o
 |.aO l K ks rows clock=>.aO l ks.length (eX K ks rows) clock
 |.map K V rows clock=>.map (cS K V rows) clock
 |.mm l K KI VI rows mem clock=>.mm l (iw K rows) (nJ KI VI mem) clock
 |.vec ks ad rows=>.vec ks.length ad (rows.map (aH ks))
def aj(H:List ah):List ab:=H.map ah.den
structure al where
 fr:List AV
 H:List ah
def al.den(s:al):St:=⟨s.fr,aj s.H⟩
def al.eval(s:al)(o:Operand):AV:=St.eval ⟨s.fr,[]⟩ o
def al.put(s:al)(dst:Option Tmp)(v:AV)(H':List ah):al:=⟨jg s.fr dst v,H'⟩
theorem al.kY(s:al):s.den.eval=s.eval:=by
 funext o
 cases o<;>rfl
theorem a_{H:List ah}{id:Nat}{o:ah}(h:H[id]? = some o):(aj H)[id]? = some o.den:=by simp[aj,h]
theorem c5(H:List ah)(id:Nat)(o:ah):aj (H.set id o)=(aj H).set id o.den:=by simp[aj,tw]
theorem gU(H:List ah)(o:ah):aj (H++[o])=aj H++[o.den]:=by simp[aj]
theorem eD(H:List ah):(aj H).length=H.length:=by simp[aj]
mutual
def Kd.same:Kd→Kd→Bool
 |.int k,.int k'=>decide (k=k')
 |.str,.str=>true
 |.bool,.bool=>true
 |.list ks,.list d=>Kd.gE ks d
 |_,_=>false
def Kd.gE:List Kd→List Kd→Bool
 | [],[]=>true
 |k::ks,k'::d=>k.same k'&&Kd.gE ks d
 |_,_=>false
end
mutual
theorem Kd.jG:∀{k k':Kd},k.same k'=true→k=k'
 |.int k,.int k',h=>by simp[Kd.same]at h; rw[h]
 |.str,.str,_=>rfl
 |.bool,.bool,_=>rfl
 |.list ks,.list d,h=>by simp only[Kd.same]at h; rw[Kd.iQ h]
 |.int _,.str,h | .int _,.bool,h | .int _,.list _,h | .str,.int _,h | .str,.bool,h | .str,.list _,h=>by simp[Kd.same]at h
 |.bool,.int _,h | .bool,.str,h | .bool,.list _,h | .list _,.int _,h | .list _,.str,h | .list _,.bool,h=>by simp[Kd.same]at h
theorem Kd.iQ:∀{k k':List Kd},Kd.gE k k'=true→k=k'
 | [],[],_=>rfl
 |k::ks,k'::d,h=>by simp only[Kd.gE,ax]at h; rw[Kd.jG h.1,Kd.iQ h.2]
 | [],_::_,h|_::_,[],h=>by simp[Kd.gE]at h
end
def Ct.same:Ct→Ct→Bool
 |.one k,.one k'=>k.same k'
 |.agg ks,.agg d=>Kd.gE ks d
 |_,_=>false
theorem Ct.jG{K d:Ct}(h:K.same d=true):K=d:=by
 cases K<;>cases d<;>simp only[Ct.same]at h
 ·rw[Kd.jG h]
 ·cases h
 ·cases h
 ·rw[Kd.iQ h]
def uf:Kd→AV→Option G
 |.int k,.lit (.int k' n)=>if k=k' then some (.i n) else none
 |.str,.lit (.string s)=>some (.s s)
 |.bool,.lit (.bool b)=>some (.t b)
 |.list ks,.listF d rows=>if Kd.gE ks d then some (.l rows) else none
 |_,_=>none
def fW:List Kd→List AV→Option (List G)
 | [],[]=>some []
 | k::ks,a::as=>match uf k a,fW ks as with
  |some g,some gs=>some (g::gs)
  |_,_=>none
 |_,_=>none
def bu(ks:List Kd):List (List AV)→Option (List (List G))
 | []=>some []
 | r::rs=>match fW ks r,bu ks rs with
  |some g,some gs=>some (g::gs)
  |_,_=>none
theorem Cg{k:Kd}{a:AV}{g:G}(h:uf k a=some g):iK k g=a:=by
 unfold uf at h;split at h
 ·split at h
  ·rename_i e; cases h; subst e; rfl
  ·cases h
 ·cases h; rfl
 ·cases h; rfl
 ·split at h
  ·rename_i e; cases h; rw[Kd.iQ e]; rfl
  ·cases h
 ·cases h
theorem kf:∀{ks:List Kd} {as:List AV} {gs:List G},fW ks as=some gs→aH ks gs=as
 | [],[],_,h=>by simp[fW]at h; subst h; rfl
 | k::ks,a::as,gs,h=>by
  simp only[fW]at h;split at h
  ·rename_i g q h1 d
   cases h;simp[aH,Cg h1,kf d]
  ·cases h
 | [],_::_,_,h|_::_,[],_,h=>by simp[fW]at h
theorem Jl:∀{ks:List Kd} {as:List AV} {gs:List G},fW ks as=some gs→gs.length=ks.length∧as.length=ks.length
 | [],[],_,h=>by simp[fW]at h; subst h; exact⟨rfl,rfl⟩
 | k::ks,a::as,gs,h=>by
  simp only[fW]at h;split at h
  ·rename_i g q h1 d
   cases h;have:=Jl d;simp[this.1,this.2]
  ·cases h
 | [],_::_,_,h|_::_,[],_,h=>by simp[fW]at h
theorem pE{ks:List Kd}:∀{rs:List (List AV)} {gs:List (List G)},bu ks rs=some gs→gs.map (aH ks)=rs
 | [],_,h=>by simp[bu]at h; subst h; rfl
 | r::rs,gs,h=>by
  simp only[bu]at h;split at h
  ·rename_i g k h1 d
   cases h;simp[kf h1,pE d]
  ·cases h
def ug:AV→Option Kd
 |.lit (.int k _)=>some (.int k)
 |.lit (.string _)=>some .str
 |.lit (.bool _)=>some .bool
 |.listF ks _=>some (.list ks)
 |_=>none
def pF:List AV→Option (List Kd)
 | []=>some []
 | a::as=>match ug a,pF as with
  |some k,some ks=>some (k::ks)
  |_,_=>none
def nK:List Kd→List G→List G
 | [],_=>[]
 |_::ks,r=>r.headD default::nK ks r.tail
theorem Ch:∀(ks:List Kd) (r:List G),(nK ks r).length=ks.length
 | [],_=>rfl
 |_::ks,r=>by simp[nK,Ch ks]
def bf(ks:List Kd)(r:List G)(col:Nat)(gs:List G):List G:=(nK ks r).take col++gs++(nK ks r).drop (col+gs.length)
theorem Jm:∀(ks:List Kd) (r:List G) (n:Nat),(aH ks r).take n=aH (ks.take n) r
 | [],_,n=>by simp[aH]
 |_::_,_,0=>by simp[aH]
 |k::ks,r,n+1=>by simp[aH,Jm ks]
theorem Jn:∀(ks:List Kd) (r:List G) (n:Nat),(aH ks r).drop n=aH (ks.drop n) (r.drop n)
 | [],_,n=>by simp[aH]
 |_::_,_,0=>by simp
 |k::ks,r,n+1=>by simp[aH,Jn ks]
theorem Ci:∀(ks d:List Kd) (r r':List G),r.length=ks.length→aH (ks++d) (r++r')=aH ks r++aH d r'
 | [],d,r,r',h=>by
  have:r=[]:=List.length_eq_zero_iff.1 h;subst this;simp[aH]
 | k::ks,d,r,r',h=>by
  cases r with
  |nil=>simp at h
  |cons x r=>simp[aH,Ci ks d r r' (by simpa using h)]
theorem Cj:∀(ks:List Kd) (r:List G),aH ks (nK ks r)=aH ks r
 | [],_=>rfl
 |k::ks,r=>by simp[aH,nK,Cj ks]
theorem Uz{ks:List Kd}{r gs:List G}{cs:List AV}{col:Nat} (h:fW ((ks.drop col).take cs.length) cs=some gs) (v:col+cs.length≤ks.length) :
  aH ks (bf ks r col gs)=putCells (aH ks r) cs col:=by
 obtain⟨h1,y⟩:=Jl h;have hlen:((ks.drop col).take cs.length).length=cs.length:=by simp; omega
 have q:gs.length=cs.length:=by omega
 have hk:ks=(ks.take col++(ks.drop col).take cs.length)++ks.drop (col+cs.length):=by
  rw[List.append_assoc,←List.drop_drop,tf,tf]
 unfold bf putCells;have d:=Ch ks r
 conv=>lhs; arg 1; rw[hk]
 rw[Ci _ _ _ _ (by simp[d,q]; omega),Ci _ _ _ _ (by simp[d]),kf h,q];congr 1
 ·congr 1
  rw[←Cj ks r,Jm];have:∀(ks:List Kd) (r:List G) (n:Nat),ks.length≤n→aH ks (r.take n)=aH ks r:=by
   intro ks
   induction ks with
   |nil=>intros; rfl
   | cons k ks u =>
    intro r n d;cases n with
    |zero=>simp at d
    | succ n =>
     cases r with
     |nil=>rfl
     |cons x r=>simp[aH,u r n (by simpa using d)]
  exact this _ _ _ (by simp; omega)
 ·conv => rhs; rw [← Cj ks r]
  rw[Jn]
end Go.AL

namespace Go.AL
open Go
variable [Dr]
theorem Ck{ks:List Kd}{rows:List (List G)}{row:Nat}(h:row<rows.length):(rows.map (aH ks))[row]? = some (aH ks (rows.getD row [])):=by
 rw[bT,bG,bt h];rfl
def ix:List AV→Option (List Int)
 | []=>some []
 | .lit (.int .i64 n)::l=>match ix l with
  |some q=>some (n::q)
  |none=>none
 |_=>none
theorem Cl:∀{cells:List AV} {l:List Int},ix cells=some l→∀ i,i<l.length→cells[i]? = some (.lit (.int .i64 (l.getD i 0)))
 | [],l,h,i,hi=>by
  simp only[ix,aQ]at h;subst h;simp at hi
 | c::cells,l,h,i,hi=>by
  unfold ix at h;split at h
  ·rename_i he
   cases he
  ·rename_i n l' he
   cases he;split at h
   ·rename_i q d
    cases h;cases i with
    |zero=>rfl
    | succ i =>
     simp only[cr]at hi;have:=Cl d i (by omega);simpa using this
   ·cases h
  ·cases h
theorem Jo:∀{cells:List AV} {l:List Int},ix cells=some l→cells.length=l.length
 | [],l,h=>by
  simp only[ix,aQ]at h;subst h;rfl
 | c::cells,l,h=>by
  unfold ix at h;split at h
  ·rename_i he
   cases he
  ·rename_i n l' he
   cases he;split at h
   ·rename_i q d
    cases h;simp[Jo d]
   ·cases h
  ·cases h
def pG(v:Int)(col:Nat):Nat→List Int→List AV
 |_,[]=>[]
 |k,n::l=>.lit (.int .i64 (bif ae col k then v else n))::pG v col (k+1) l
theorem Jp{v:Int}{col:Nat}:∀{cells:List AV} {l:List Int} {k:Nat},ix cells=some l→col<k→pG v col k l=cells
 | [],l,k,h,_=>by
  simp only[ix,aQ]at h;subst h;rfl
 | c::cells,l,k,h,hk=>by
  unfold ix at h;split at h
  ·rename_i he
   cases he
  ·rename_i n l' he
   cases he;split at h
   ·rename_i q d
    cases h;have hb:ae col k=false:=by
     cases hb:ae col k with
     |false=>rfl
     |true=>have:=bk hb; omega
    simp only[pG,hb,cond_false,Jp d (show col<k+1 by omega)]
   ·cases h
  ·cases h
theorem Jq{v:Int}:∀{cells:List AV} {l:List Int} {k col:Nat},ix cells=some l→col<l.length→pG v (k+col) k l=putCells cells [.lit (.int .i64 v)] col
 | [],l,k,col,h,d=>by
  simp only[ix,aQ]at h;subst h;simp at d
 | c::cells,l,k,col,h,d=>by
  unfold ix at h;split at h
  ·rename_i he
   cases he
  ·rename_i n l' he
   cases he;split at h
   ·rename_i q u
    cases h;cases col with
    | zero =>
     simp only[pG,lv,Nat.beq_refl,cond_true,Jp u (Sc k)];rfl
    | succ col =>
     have hb:ae (k+(col+1)) k=false:=by
      cases hb:ae (k+(col+1)) k with
      |false=>rfl
      |true=>have:=bk hb; omega
     have y:=Jq (v:=v) (k:=k+1) u (show col<q.length by simp only[cr]at d; omega);rw[show k+1+col=k+(col+1) by omega]at y;simp only[pG,hb,cond_false,y];rfl
   ·cases h
  ·cases h
def Cm(P:Program)(t:TypeId)(x:AV)(H:List ah):Option (Bool × AV) :=
 match x with
 | .ptr id ad w row col=>match H[id]? with
  | some (.vec ks v rows)=>match eT P t with
   | some (n,agg)=>if ad=v∧ks.length=w then (match gy agg n ((aH ks (rows.getD row [])).drop col) with
     |some u=>some (decide (row<rows.length),u)
     |none=>none) else none
   |none=>none
  | some (.raw (.box cells))=>match eT P t with
   | some (n,agg)=>if ad=0∧row=0 then (match agg,ix cells with
     |false,some l=>some (er col l.length,.lit (.int .i64 (l.getD col 0)))
     |_,_=>match gy agg n (cells.drop col)with
     |some u=>some (true,u)
     |none=>none) else none
   |none=>none
  |_=>none
 | .cptr cells=>match eT P t with
  | some (n,agg)=>match gy agg n cells with
   |some u=>some (true,u)
   |none=>none
  |none=>none
 |_=>none
theorem UA{P:Program}{t:TypeId}{x:AV}{H:List ah}{b:Bool}{u:AV}(h:Cm P t x H=some (b,u))(hb:b=true):ig P t x (aj H)=some u:=by
 unfold Cm at h;unfold ig;split at h
 ·rename_i id ad w row col
  split at h
  ·rename_i ks v rows hid
   split at h
   case h_2=>cases h
   rename_i n agg d;split at h
   case isFalse=>cases h
   rename_i q;split at h
   case h_2=>cases h
   rename_i y k;simp only[aQ,a7]at h;obtain⟨h1,rfl⟩:=h;subst hb;simp only[decide_eq_true_eq]at h1;rw[d];simp only[a_ hid,ah.den];rw[if_pos ⟨q.1,q.2⟩,Ck h1];exact k
  ·rename_i cells hid
   split at h
   case h_2=>cases h
   rename_i n agg d;split at h
   case isFalse=>cases h
   rename_i q;rw[d];simp only[a_ hid,ah.den];rw[if_pos q];split at h
   ·rename_i l B
    simp only[aQ,a7]at h;obtain⟨h1,rfl⟩:=h;subst hb;rw[jb]at h1;simp only[gy,kF,if_false,oR,lv];exact Cl B col h1
   ·split at h
    case h_2=>cases h
    rename_i y k;cases h;exact k
  ·cases h
 ·rename_i cells
  split at h
  case h_2=>cases h
  rename_i n agg d;split at h
  case h_2=>cases h
  rename_i y k;cases h;rw[d];exact k
 ·cases h
def rA(P:Program)(t:TypeId)(x v:AV)(H:List ah):Option (Bool × List ah) :=
 match eT P t,pg v,x with
 | some (n,_),some cs,.ptr id ad w row col =>
  if cs.length=n then
   match H[id]? with
   | some (.raw (.box cells))=>match cs,ix cells with
    | [.lit (.int .i64 z)],some l=>if ad=0∧row=0∧n=1 then some (er col l.length,H.set id (.raw (.box (pG z col 0 l)))) else none
    |_,_=>if ad=0∧row=0∧col+n≤cells.length then some (true,H.set id (.raw (.box (putCells cells cs col)))) else none
   | some (.vec ks u rows) =>
    if ad=u∧ks.length=w∧col+cs.length≤ks.length then
     match fW ((ks.drop col).take cs.length) cs with
     |some gs=>some (decide (row<rows.length),H.set id (.vec ks u (rows.set row (bf ks (rows.getD row []) col gs))))
     |none=>none
    else none
   |_=>none
  else none
 |_,_,_=>none
theorem Jr{P:Program}{t:TypeId}{x v:AV}{H H':List ah}{b:Bool}(h:rA P t x v H=some (b,H'))(hb:b=true):qV P t x v (aj H)=some (aj H'):=by
 unfold rA at h;unfold qV;split at h
 case h_2=>cases h
 rename_i n O cs id ad w row col J B;rw[J,B];simp only[];split at h
 case isFalse=>cases h
 rename_i M;rw[if_pos M];split at h
 ·rename_i cells hid
  split at h
  ·rename_i z l y
   split at h
   case isFalse=>cases h
   rename_i d;simp only[aQ,a7]at h;obtain⟨h1,rfl⟩:=h;subst hb;rw[jb]at h1;have hlen:=Jo y;simp only[a_ hid,ah.den];rw[if_pos ⟨d.1,d.2.1,by omega⟩,c5];have:=Jq (v:=z) (k:=0) y h1;rw[cW]at this;rw[this];rfl
  ·split at h
   case isFalse=>cases h
   rename_i d;cases h;simp only[a_ hid,ah.den];rw[if_pos d,c5];rfl
 ·rename_i ks u rows hid
  split at h
  case isFalse=>cases h
  rename_i d;obtain⟨c1,c2,N⟩:=d;split at h
  case h_2=>cases h
  rename_i gs q;simp only[aQ,a7]at h;obtain⟨h1,rfl⟩:=h;subst hb;simp only[decide_eq_true_eq]at h1;simp only[a_ hid,ah.den];have I:AV.bl cs=true:=by rw[←kf q]; exact fG _ _
  rw[if_pos ⟨c1,c2,I⟩,Ck h1];simp only[qE];rw[if_pos (by omega),c5];simp only[ah.den,tw];rw[Uz q N]
 ·cases h
def uh(sz:Nat)(x:AV)(H:List ah)(want:Option (List Kd)):Option (Bool × List Kd × List (List G)) :=
 match x with
 | .nils | .lit (.slice none 0 0)=>match want with
  |some ks=>some (true,ks,[])
  |none=>none
 | .emptyS _=>match want with
  |some ks=>some (true,ks,[])
  |none=>none
 |.listF ks rows=>if ks.length=sz then some (true,ks,rows) else none
 | .list w rows=>match (match want with | some ks=>some ks | none=>pF (rows.headD [])) with
  | some ks=>match bu ks rows with
   |some gs=>if w=sz then some (true,ks,gs) else none
   |none=>none
  |none=>none
 | .vec w id ad off n=>match H[id]? with
  |some (.vec ks v rows)=>if w=sz∧ks.length=w∧v=ad∧off=0 then some (ae n rows.length,ks,rows) else none
  |_=>none
 |.lit (.string s)=>if sz=1 then some (true,[.int .u8],s.data.toList.map fun b=>[.i b.toNat]) else none
 |_=>none
theorem Js{sz:Nat}{x:AV}{H:List ah}{want:Option (List Kd)}{b:Bool}{ks:List Kd}{rows:List (List G)}(h:uh sz x H want=some (b,ks,rows))(hb:b=true) :
  kS sz x (aj H)=some (rows.map (aH ks)):=by
 unfold uh at h;split at h
 ·split at h
  ·cases h; rfl
  ·cases h
 ·split at h
  ·cases h; rfl
  ·cases h
 ·split at h
  ·cases h; rfl
  ·cases h
 ·split at h
  ·rename_i hw; cases h; simp only[kS]; rw[if_pos hw]
  ·cases h
 ·split at h
  ·split at h
   ·rename_i gs hg
    split at h
    ·rename_i hw; cases h; simp only[kS]; rw[if_pos hw,pE hg]
    ·cases h
   ·cases h
  ·cases h
 ·rename_i w id ad off n
  split at h
  ·rename_i u v rows' hid
   split at h
   ·rename_i d
    obtain⟨c1,c2,k,rfl⟩:=d;simp only[aQ,a7]at h;obtain⟨h1,rfl,rfl⟩:=h;subst hb;have h1:=bk h1;simp only[kS,a_ hid,ah.den];rw[if_pos ⟨c1,c2,k,by simp; omega⟩];simp only[List.drop_zero];rw[R7 (by simp; omega)]
   ·cases h
  ·cases h
 ·rename_i s
  split at h
  ·rename_i q
   cases h;simp only[kS];rw[if_pos q];simp[aH,iK,G.int]
  ·cases h
 ·cases h
def Cn:SK→Bool
 |.slice _ _ _ | .str=>true
 |_=>false
theorem Co{P:Program}{t xt:TypeId}{s x:AV}{H:List ab}{e sz d:Nat}{z:List Value}{new:List (List AV)}(hk:b_ P t=.slice e sz d)(q:d_ P e=some z)
  (h : Cn (b_ P xt) = true) (hr : kS sz x H = some new) (u : z.length = sz ∧ new.length ≤ 1048576 ∧ d ≤ 1048576) : qT P t xt s x H =
   match s with
    |.nils | .lit (.slice none 0 0)=>some (.vec sz H.length 0 0 new.length,H++[.vec sz 0 new])
    | .vec w id ad off n=>match H[id]? with
     | some (.vec k v rows) =>
      if k=w∧w=sz∧v=ad∧off=0∧n=rows.length∧rows.length+new.length≤1048576 then
       some (.vec w id (ad+1) 0 (n+new.length),H.set id (.vec k (ad+1) (rows++new)))
      else none
     |_=>none
    |_=>none:=by
 unfold qT;simp only[hk,q,hr];cases y:b_ P xt<;>simp only[y,Cn]at h⊢<;>first
  |(cases h; done)
  |(rw[if_pos u]; rfl)
def xN(sz:Nat)(x:AV)(H:List ah)(z:List Value):Option (Bool × List Kd × List (List G)) :=
 match x with
 |.emptyS _=>uh sz x H (pF (z.map .lit))
 |_=>uh sz x H none
theorem UB{sz:Nat}{x:AV}{H:List ah}{z:List Value}{b:Bool}{ks:List Kd}{rows:List (List G)}(h:xN sz x H z=some (b,ks,rows))(hb:b=true) :
  kS sz x (aj H)=some (rows.map (aH ks)):=by
 unfold xN at h;split at h<;>exact Js h hb
def ui(P:Program)(t xt:TypeId)(s x:AV)(H:List ah):Option (Bool × AV × List ah) :=
 match b_ P t with
 | .slice e sz d =>
  match d_ P e,Cn (b_ P xt)with
  | some z,true =>
   if z.length=sz∧d≤1048576 then
    match s with
    | .nils | .lit (.slice none 0 0)=>match xN sz x H z with
     |some (b,ks,new)=>if ks.length=sz then some (b&&decide (new.length≤1048576),.vec sz H.length 0 0 new.length,H++[.vec ks 0 new]) else none
     |none=>none
    | .vec w id ad off n=>match H[id]? with
     | some (.vec ks v rows)=>match uh sz x H (some ks) with
      | some (b,h,new) =>
       if ks.length=w∧w=sz∧v=ad∧off=0∧Kd.gE ks h=true then
        some (b&&(ae n rows.length&&decide (rows.length+new.length≤1048576)),.vec w id (ad+1) 0 (rows++new).length,H.set id (.vec ks (ad+1) (rows++new)))
       else none
      |none=>none
     |_=>none
    |_=>none
   else none
  |_,_=>none
 |_=>none
theorem UC{P:Program}{t xt:TypeId}{s x v:AV}{H H':List ah}{b:Bool}(h:ui P t xt s x H=some (b,v,H'))(hb:b=true) :
  qT P t xt s x (aj H)=some (v,aj H'):=by
 unfold ui at h;split at h
 case h_2=>cases h
 rename_i e sz W hk;split at h
 case h_2=>cases h
 rename_i z u q;split at h
 case isFalse=>cases h
 rename_i J;obtain⟨c1,c2⟩:=J;have fresh:∀{b1:Bool} {ks:List Kd} {new:List (List G)},xN sz x H z=some (b1,ks,new) →
   (if ks.length=sz then some (b1&&decide (new.length≤1048576),AV.vec sz H.length 0 0 new.length,H++[ah.vec ks 0 new]) else none)=some (b,v,H') →
   ∃ rows,kS sz x (aj H)=some rows∧rows.length≤1048576∧v=.vec sz (aj H).length 0 0 rows.length∧aj H'=aj H++[.vec sz 0 rows]:=by
  intro b1 ks new d h;split at h
  case isFalse=>cases h
  rename_i I;simp only[aQ,a7]at h;obtain⟨h1,rfl,rfl⟩:=h;subst hb;simp only[ax,decide_eq_true_eq]at h1;refine⟨_,UB d h1.1,by simpa using h1.2,by simp[eD],?_⟩;rw[gU,ah.den,I]
 split at h
 ·split at h
  case h_2=>cases h
  rename_i b1 ks new d;obtain⟨rows,g1,g2,g3,g4⟩:=fresh d h;rw[Co hk u q g1 ⟨c1,g2,c2⟩,g3,g4]
 ·split at h
  case h_2=>cases h
  rename_i b1 ks new d;obtain⟨rows,g1,g2,g3,g4⟩:=fresh d h;rw[Co hk u q g1 ⟨c1,g2,c2⟩,g3,g4];rfl
 ·rename_i w id ad off n
  split at h
  case h_2=>cases h
  rename_i ks vv rows hid;split at h
  case h_2=>cases h
  rename_i b1 ks' new d;split at h
  case isFalse=>cases h
  rename_i M;obtain⟨B,N,O,U,y⟩:=M;have y:=Kd.iQ y;subst y;simp only[aQ,a7]at h;obtain⟨h1,rfl,rfl⟩:=h;subst hb;simp only[ax,decide_eq_true_eq]at h1;obtain⟨h1,k,V⟩:=h1;have k:=bk k;rw[Co hk u q (Js d h1) ⟨c1,by simp; omega,c2⟩];simp only[cN,a_ hid,ah.den];rw[if_pos ⟨B,N,O,U,k,V⟩,c5];simp only[ah.den,jX,dY,k,B]
 ·cases h
def nL(len:Nat)(lo hi:Option AV):Option (Bool × Nat × Nat) :=
 match lo,hi with
 |none,none=>some (true,0,len)
 |some (.lit (.int _ l)),none=>some (aB l&&ba l (len:Int),l.toNat,len)
 |none,some (.lit (.int _ h))=>some (aB h&&ba h (len:Int),0,h.toNat)
 |some (.lit (.int _ l)),some (.lit (.int _ h))=>some (aB l&&(ba l h&&ba h (len:Int)),l.toNat,h.toNat)
 |_,_=>none
theorem xO{len:Nat}{lo hi:Option AV}{b:Bool}{l h:Nat}(d:nL len lo hi=some (b,l,h))(hb:b=true):gf len lo hi=some (l,h):=by
 unfold nL at d;split at d
 ·cases d; simp[gf]
 ·rename_i l'
  simp only[aQ,a7]at d;obtain⟨h1,rfl,rfl⟩:=d;subst hb;simp only[ke,fv,ax,decide_eq_true_eq]at h1;simp[gf,j6,h1.1,h1.2]
 ·rename_i h'
  simp only[aQ,a7]at d;obtain⟨h1,rfl,rfl⟩:=d;subst hb;simp only[ke,fv,ax,decide_eq_true_eq]at h1;simp[gf,j6,h1.1,h1.2]
 ·rename_i l' _ h'
  simp only[aQ,a7]at d;obtain⟨h1,rfl,rfl⟩:=d;subst hb;simp only[ke,fv,ax,decide_eq_true_eq]at h1;simp[gf,j6,h1.1,h1.2.1,h1.2.2]
 ·cases d
def rB(rows:List (List G))(lo hi:Option AV)(l h:Nat):List (List G) :=
 match lo,hi with
 |none,none=>rows
 |some _,none=>rows.drop l
 |none,some _=>rows.take h
 |some _,some _=>(rows.drop l).take (h-l)
theorem Jt{rows:List (List G)}{lo hi:Option AV}{b:Bool}{l h:Nat}(d:nL rows.length lo hi=some (b,l,h)):rB rows lo hi l h=(rows.drop l).take (h-l):=by
 unfold nL at d;split at d
 ·cases d; simp[rB]
 ·simp only [aQ, a7] at d
  obtain⟨h1,rfl,rfl⟩:=d;simp only[rB];rw[R7 (by simp)]
 ·simp only [aQ, a7] at d
  obtain⟨h1,rfl,rfl⟩:=d;simp[rB]
 ·rfl
 ·cases d
def Cp(P:Program)(t:TypeId)(x:AV)(lo hi mx:Option AV):Option (Bool × AV) :=
 match mx with
 | some _=>match kQ P t x lo hi mx with
  |some v=>some (true,v)
  |none=>none
 | none=>match b_ P t,x with
  | .str,.lit (.string s)=>match nL s.size lo hi with
   |some (b,l,h)=>some (b,.lit (.string (s.extract l h)))
   |none=>none
  | .slice _ sz _,.listF ks rows=>match nL rows.length lo hi with
   |some (b,l,h)=>if ks.length=sz then some (b,.listF ks (rB rows lo hi l h)) else none
   |none=>none
  | .slice _ sz _,.vec w id ad off n=>match nL n lo hi with
   |some (b,l,h)=>if w=sz then some (b,.vec w id ad (off+l) (h-l)) else none
   |none=>none
  | .slice _ sz _,.list w rows=>match w,qN rows with
   | 1,some gs=>match nL gs.length lo hi with
    |some (b,l,h)=>if 1=sz then some (b,.listF [.str] (rB gs lo hi l h)) else none
    |none=>none
   | _,_=>match kQ P t x lo hi none with
    |some v=>some (true,v)
    |none=>none
  | _,_=>match kQ P t x lo hi none with
   |some v=>some (true,v)
   |none=>none
theorem UD{P:Program}{t:TypeId}{x v:AV}{lo hi mx:Option AV}{b:Bool}(h:Cp P t x lo hi mx=some (b,v))(hb:b=true):kQ P t x lo hi mx=some v:=by
 unfold Cp at h;split at h
 ·split at h
  ·rename_i u hu; cases h; exact hu
  ·cases h
 ·split at h
  ·rename_i s hk
   split at h
   case h_2=>cases h
   rename_i q l y d;simp only[aQ,a7]at h;obtain⟨h1,rfl⟩:=h;subst h1;simp[kQ,hk,xO d hb]
  ·rename_i e sz B ks rows hk
   split at h
   case h_2=>cases h
   rename_i q l y d;split at h
   case isFalse=>cases h
   rename_i k;simp only[aQ,a7]at h;obtain⟨h1,rfl⟩:=h;subst h1;simp[kQ,hk,xO d hb,k,Jt d]
  ·rename_i e sz B w id ad off n hk
   split at h
   case h_2=>cases h
   rename_i q l y d;split at h
   case isFalse=>cases h
   rename_i k;simp only[aQ,a7]at h;obtain⟨h1,rfl⟩:=h;subst h1;simp[kQ,hk,xO d hb,k]
  ·rename_i e sz B w rows hk
   split at h
   ·rename_i gs hg
    split at h
    case h_2=>cases h
    rename_i q l y d;split at h
    case isFalse=>cases h
    rename_i k;simp only[aQ,a7]at h;obtain⟨h1,rfl⟩:=h;subst h1;subst k;have I:rows.length=gs.length:=by rw[←Bk hg,cN]
    simp[kQ,hk,I,xO d hb,Jt d,xb,hg]
   ·split at h
    ·rename_i u hu; cases h; exact hu
    ·cases h
  ·split at h
   ·rename_i u hu; cases h; exact hu
   ·cases h
def uj(P:Program)(t:TypeId)(l c:AV)(H:List ah):Option (Bool × AV × List ah) :=
 match b_ P t,l,c with
 | .slice e sz d,.lit (.int _ l),.lit (.int _ c) =>
  match d_ P e with
  | some z=>match pF (xp P e z) with
   | some ks=>match fW ks (xp P e z) with
    | some gs=>if z.length=sz∧0<sz∧d≤1048576∧ks.length=sz then
      some (aB l&&(ba l c&&ba c 1048576),.vec sz H.length 0 0 l.toNat,H++[.vec ks 0 (bO l.toNat gs)]) else none
    |none=>none
   |none=>none
  |none=>none
 |_,_,_=>none
theorem UE{P:Program}{t:TypeId}{l c v:AV}{H H':List ah}{b:Bool}(h:uj P t l c H=some (b,v,H'))(hb:b=true) :
  tO P t l c (aj H)=some (v,aj H'):=by
 unfold uj at h;unfold tO;split at h
 case h_2=>cases h
 rename_i e sz B _ l _ c hk;rw[hk];simp only[];split at h
 case h_2=>cases h
 rename_i z k;split at h
 case h_2=>cases h
 rename_i ks I;split at h
 case h_2=>cases h
 rename_i gs d;split at h
 case isFalse=>cases h
 rename_i q;obtain⟨c1,c2,u,y⟩:=q;simp only[aQ,a7]at h;obtain⟨h1,rfl,rfl⟩:=h;subst hb;simp only[ke,fv,ax,decide_eq_true_eq]at h1;rw[k];simp only[];rw[if_pos ⟨c1,c2,h1.1,h1.2.1,h1.2.2,u⟩,gU,eD,ah.den,y,List.map_replicate,kf d]
def uk(P:Program)(t:TypeId)(n:Nat)(parts:List (Nat × AV))(H:List ah):Option (Bool × AV × List ah) :=
 match b_ P t with
 | .slice e _ _=>match d_ P e with
  | some z=>match pF (z.map .lit) with
   | some ks=>match qX P t n parts with
    | some (.list sz rows)=>match bu ks rows with
     |some gs=>if ks.length=sz then some (true,.vec sz H.length 0 0 gs.length,H++[.vec ks 0 gs]) else none
     |none=>none
    |_=>none
   |none=>none
  |none=>none
 |_=>none
theorem UF{P:Program}{t:TypeId}{n:Nat}{parts:List (Nat × AV)}{v:AV}{H H':List ah}{b:Bool}(h:uk P t n parts H=some (b,v,H')) :
  tU P t n parts (aj H)=some (v,aj H'):=by
 unfold uk at h;split at h
 case h_2=>cases h
 split at h
 case h_2=>cases h
 split at h
 case h_2=>cases h
 rename_i ks q;split at h
 case h_2=>cases h
 rename_i sz rows hb;split at h
 case h_2=>cases h
 rename_i gs d;split at h
 case isFalse=>cases h
 rename_i k;cases h;unfold tU;rw[hb];have e:=pE d;simp only[];rw[gU,eD,ah.den,k,e,←e,cN]
/-! ### Maps -/
def Ct.read:Ct→AV→Option (List G)
 | .one k,a=>match uf k a with
  |some g=>some [g]
  |none=>none
 |.agg ks,.agg cells=>fW ks cells
 |_,_=>none
theorem Ct.kg{K:Ct}{a:AV}{r:List G}(h:K.read a=some r):K.av r=a:=by
 unfold Ct.read at h;split at h
 ·split at h
  ·rename_i g hg
   cases h;exact Cg hg
  ·cases h
 ·simp only[Ct.av,kf h]
 ·cases h
def nM(P:Program)(t:TypeId):Option (Ct × List G) :=
 match P.info? t with
 | some i=>match i.zero with
  | some (.agg cs)=>match cs.toList.all dv,pF (cs.toList.map .lit) with
   | true,some ks=>match fW ks (cs.toList.map .lit) with
    |some gs=>some (.agg ks,gs)
    |none=>none
   |_,_=>none
  | some v=>match ug (.lit v) with
   | some k=>match uf k (.lit v) with
    |some g=>some (.one k,[g])
    |none=>none
   | none=>match gQ P t,BG P t with
    |some (.lit (.slice none 0 0)),some ks=>some (.one (.list ks),[.l []])
    |_,_=>none
  |none=>none
 |none=>none
theorem UG{P:Program}{t:TypeId}{v:AV}(h:gQ P t=some v)(d:v=.lit (.slice none 0 0)→False):mE P t=some v:=by
 unfold mE;rw[h];split
 ·rename_i e _
  cases e;exact(d rfl).elim
 ·rename_i e _
  cases e;rfl
 ·rename_i e
  cases e
theorem Ju{P:Program}{t:TypeId}{V:Ct}{z:List G}(h:nM P t=some (V,z)):mE P t=some (V.av z):=by
 unfold nM at h;have q:∀ v,gQ P t=some v→(v=.lit (.slice none 0 0)→False)→mE P t=some v:=fun v h B=>UG h B;split at h
 case h_2=>cases h
 rename_i i hi;split at h
 ·rename_i cs d
  split at h
  ·rename_i ks h1 u
   split at h
   ·rename_i gs I
    cases h;refine q _ ?_ fun e=>by cases e
    unfold gQ;rw[hi];simp only[];rw[d];simp only[AV.qK,h1,if_true,Ct.av,kf I]
   ·cases h
  ·cases h
 ·rename_i v y d
  split at h
  ·rename_i k hk
   split at h
   ·rename_i g hg
    cases h;have e:=Cg hg;simp only[Ct.av,wS,e];refine q _ ?_ fun e=>by
     simp only[AV.lit.injEq]at e;subst e;simp[ug]at hk
    unfold gQ;rw[hi];simp only[];rw[d];simp only[];unfold AV.qK;split
    ·rename_i cs; exact(y cs rfl).elim
    ·simp[ug]at hk
    ·rfl
   ·cases h
  ·split at h
   ·rename_i ks h1 u
    cases h;unfold mE;rw[h1,u];rfl
   ·cases h
 ·cases h
def xP:SK→Kd→Bool
 |.int k,.int k'=>decide (k=k')
 |.str,.str=>true
 |.bool,.bool=>true
 |_,_=>false
def jH:List SK→List Kd→Bool
 | [],[]=>true
 |a::as,b::d=>xP a b&&jH as d
 |_,_=>false
def gF(P:Program)(d:TypeId)(K:Ct):Bool :=
 match flatK P mz d with
 | some h=>jH h K.ks&&(match K with
  |.one _ => !my (P.underlying d)
  |.agg _=>my (P.underlying d))
 |none=>false
def nN:Kd→G→Value
 |.int k,g=>.int k g.int
 |.str,g=>.string g.str
 |.bool,g=>.bool g.bool
 |.list _,_=>.bool false
def dj:List Kd→List G→List Value
 | [],_=>[]
 |k::ks,r=>nN k (r.headD default)::dj ks r.tail
theorem Jv:∀{d:List SK} {ks:List Kd} (r:List G),jH d ks=true→mw (aH ks r)=some (dj ks r)∧cB d (dj ks r)=true
  | [],[],_,_=>⟨rfl,rfl⟩
  | a::as,k::ks,r,h=>by
    simp only[jH,ax]at h;obtain⟨h1,q⟩:=Jv r.tail h.2;have hk:=h.1;cases k<;>cases a<;>simp only[xP]at hk<;>first
      |(cases hk; done)
      | (simp only [aH, iK, mw, h1, dj, nN, cB, q, fD]
         simp_all[kindOk])
  | [],_::_,_,h|_::_,[],_,h=>by simp[jH]at h
theorem xQ:∀{d:List SK} {ks:List Kd} (r s:List G),jH d ks=true→dA (dj ks r) (dj ks s)=aK ks r s
 | [],[],_,_,_=>rfl
 | a::as,k::ks,r,s,h=>by
  simp only[jH,ax]at h;have q:=xQ r.tail s.tail h.2;have hk:=h.1;simp only[dj,dA,aK,q];cases k<;>cases a<;>simp only[xP]at hk<;>first
   |(cases hk; done)
   |rfl
 | [],_::_,_,_,h|_::_,[],_,_,h=>by simp[jH]at h
theorem jI{P:Program}{q:TypeId}{K:Ct}(h:gF P q K=true)(r:List G):gB P q (K.av r)=some (dj K.ks r):=by
 unfold gF at h;split at h
 case h_2=>cases h
 rename_i u v;simp only[ax]at h;obtain⟨h1,d⟩:=h;obtain⟨g1,g2⟩:=Jv r h1;unfold gB;rw[v];simp only[];cases K with
 | one k =>
  simp only[oW]at d;simp only[Ct.ks,dj]at g2⊢;have e:iK k (r.headD default)=.lit (nN k (r.headD default)):=by
   simp only[Ct.ks]at h1;cases u with
   |nil=>simp[jH]at h1
   | cons a as =>
    simp only[jH,ax]at h1;have hk:=h1.1;cases k<;>cases a<;>simp only[xP]at hk<;>first
     |(cases hk; done)
     |rfl
  simp only[Ct.av,e,g2,d,and_self,if_true]
 | agg ks =>
  simp only[Ct.av,Ct.ks]at g1 g2⊢;simp only[g1,g2,d,and_self,if_true]
def bU(ks:List Kd)(key:List G):List (List G)→Nat→Option (Nat × List G)
 | [],_=>none
 |r::rs,i=>bif aK ks key (gi r 0).row then some (i,r) else bU ks key rs (i+1)
def dC(ks:List Kd)(rows:List (List G))(key:List G):Bool:=(bU ks key rows 0).isSome
def cC(ks:List Kd)(rows:List (List G))(key z:List G):List G:=match bU ks key rows 0 with
 |some (_,r)=>(gi r 1).row
 |none=>z
def eO(ks:List Kd)(rows:List (List G))(key val:List G)(clock:Nat):List (List G):=match bU ks key rows 0 with
 |some (i,r)=>rows.set i [.l [key],.l [val],.i (gi r 2).int]
 |none=>rows++[[.l [key],.l [val],.i clock]]
def eE(ks:List Kd)(rows:List (List G))(key:List G)(clock:Nat):Nat:=bif dC ks rows key then clock else clock+1
def Jw(ks:List Kd)(rows:List (List G))(key:List G):List (List G):=match bU ks key rows 0 with
 |some (i,_)=>rows.eraseIdx i
 |none=>rows
theorem rC{P:Program}{k:TypeId}{K V:Ct}(h:gF P k K=true)(key:List G):∀(rows:List (List G)) (i:Nat),ew P k (dj K.ks key) (cS K V rows) i =
  some ((bU K.ks key rows i).map fun p=>(p.1,V.av (gi p.2 1).row))
 | [],i=>rfl
 | r::rs,i=>by
  have u:=rC (V:=V) h key rs (i+1);have q:∃ d,jH d K.ks=true:=by
   unfold gF at h;split at h
   ·simp only[ax]at h; exact⟨_,h.1⟩
   ·cases h
  obtain⟨d,v⟩:=q;simp only[cS,dg,ew,jI h,xQ _ _ v,bU];cases aK K.ks key (gi r 0).row with
  |true=>rfl
  |false=>exact u
theorem pH{ks:List Kd}{key:List G}:∀{rows:List (List G)} {i j:Nat} {r:List G},bU ks key rows i=some (j,r)→i≤j∧rows[j-i]? = some r
 | [],_,_,_,h=>by simp[bU]at h
 | x::rs,i,j,r,h=>by
  simp only[bU]at h;cases d:aK ks key (gi x 0).row with
  | true =>
   rw[d]at h;cases h;exact⟨aD _,by simp⟩
  | false =>
   rw[d]at h;obtain⟨h1,k⟩:=pH h;refine⟨by omega,?_⟩;rw[show j-i=(j-(i+1))+1 from by omega];simpa using k
def Cq(P:Program)(t:TypeId)(m k:AV)(ok:Bool)(H:List ah):Option (Bool × AV) :=
 match dc P t,m with
 | some (d,h),.map id=>match H[id]? with
  | some (.map K V rows _)=>match K.read k,nM P h with
   | some key,some (q,z)=>match gF P d K&&V.same q with
    | true=>some (true,match ok with
      |true=>.tuple [V.av (cC K.ks rows key z),.lit (.bool (dC K.ks rows key))]
      |false=>V.av (cC K.ks rows key z))
    |false=>none
   |_,_=>none
  |_=>none
 |_,_=>none
theorem Jx{P:Program}{t:TypeId}{m k v:AV}{ok b:Bool}{H:List ah}(h:Cq P t m k ok H=some (b,v)):fT P t m k ok (aj H)=some v:=by
 unfold Cq at h;unfold fT;split at h
 case h_2=>cases h
 rename_i y B id q;rw[q];simp only[];split at h
 case h_2=>cases h
 rename_i K V rows cl hid;rw[a_ hid];simp only[ah.den];split at h
 case h_2=>cases h
 rename_i key I z hk u;split at h
 case h_2=>cases h
 rename_i d;simp only[ax]at d;have e:=Ct.jG d.2;subst e;rw[←Ct.kg hk,jI d.1,Ju u];simp only[rC d.1];cases h;unfold cC dC;cases bU K.ks key rows 0 with
 |none=>cases ok<;>rfl
 |some p=>cases ok<;>rfl
def rD(P:Program)(t:TypeId)(m k v:AV)(H:List ah):Option (Bool × List ah) :=
 match dc P t,m with
 | some (d,_),.map id=>match H[id]? with
  | some (.map K V rows cl)=>match K.read k,V.read v with
   | some key,some val=>match gF P d K with
    |true=>some (true,H.set id (.map K V (eO K.ks rows key val cl) (eE K.ks rows key cl)))
    |false=>none
   |_,_=>none
  |_=>none
 |_,_=>none
def dm(ks:List Kd)(rows:List (List G))(key:List G):List (List G):=match bU ks key rows 0 with
 |some (_,r)=>gT r
 |none=>[]
def fe(ks:List Kd)(rows:List (List G))(key:List G):Bool:=match bU ks key rows 0 with
 |some (_,r)=>(gi r 3).bool
 |none=>true
def iy(ks:List Kd)(rows:List (List G))(key:List G):List (List G):=match bU ks key rows 0 with
 |some (i,r)=>rows.set i [gi r 0,gi r 1,gi r 2,.t false]
 |none=>rows
def kh(ks:List Kd)(rows:List (List G))(key:List G)(val:List (List G))(clock:Nat):List (List G):=match bU ks key rows 0 with
 |some (i,r)=>rows.set i [.l [key],.l [[.l val]],.i (gi r 2).int,.t true]
 |none=>rows++[[.l [key],.l [[.l val]],.i clock,.t true]]
def um(P:Program)(t:TypeId)(m k:AV)(H:List ah):Option (Bool × AV × List ah) :=
 match dc P t,m with
 | some (h,d),.map id=>match H[id]? with
  | some (.aO l K ks rows cl)=>match K.read k,xy P d,gQ P d with
   | some key,some w',some (.lit (.slice none 0 0))=>match ae w' ks.length&&gF P h K with
    |true=>some (fe K.ks rows key,.vec ks.length H.length 0 0 (dm K.ks rows key).length,H.set id (.aO l K ks (iy K.ks rows key) cl)++[.vec ks 0 (dm K.ks rows key)])
    |false=>none
   |_,_,_=>none
  |_=>none
 |_,_=>none
def uo(P:Program)(t:TypeId)(m k v:AV)(H:List ah):Option (Bool × List ah) :=
 match dc P t,m,v with
 | some (q,_),.map id,.vec w j ad off n=>match H[id]?,H[j]? with
  | some (.aO l K ks rows cl),some (.vec h d rws)=>match K.read k with
   | some key=>match gF P q K&&(Kd.gE ks h&&(ae w ks.length&&(ae ad d&&ae off 0))) with
    |true=>some (ae n rws.length,(H.set id (.aO l K ks (kh K.ks rows key rws cl) (eE K.ks rows key cl))).set j (.raw .dead))
    |false=>none
   |none=>none
  |_,_=>none
 |_,_,_=>none
def lK(ks:List Kd)(rows:List (List G))(key:List G)(clock:Nat):Nat:=match bU ks key rows 0 with
 |some (_,r)=>(gi r 2).int.toNat
 |none=>clock
def lL(ks:List Kd)(rows:List (List G))(key:List G)(clock:Nat):List (List G):=match bU ks key rows 0 with
 |some (i,r)=>rows.set i [.l [key],gi r 1,gi r 2,.t false]
 |none=>rows++[[.l [key],.l [[.l []]],.i clock,.t false]]
def uq(P:Program)(t:TypeId)(m k:AV)(H:List ah):Option (Bool × AV × List ah) :=
 match dc P t,m with
 | some (h,d),.map id=>match H[id]? with
  | some (.aO l K ks rows cl)=>match K.read k,xy P d,gQ P d with
   | some key,some w',some (.lit (.slice none 0 0))=>match ae w' ks.length&&gF P h K with
    | true=>some (fe K.ks rows key,.tuple [.vec ks.length H.length 0 0 (dm K.ks rows key).length,.lit (.int .i64 (lK K.ks rows key cl:Nat))],
      H.set id (.aO l K ks (lL K.ks rows key cl) (eE K.ks rows key cl))++[.vec ks 0 (dm K.ks rows key)])
    |false=>none
   |_,_,_=>none
  |_=>none
 |_,_=>none
def ff(st:Int):List (List G)→Nat→Option (Nat × List G)
 | [],_=>none
 |r::rs,i=>bif ((gi r 2).int.toNat:Int)==st then some (i,r) else ff st rs (i+1)
def rE(rows:List (List G))(st:Int)(val:List (List G)):List (List G):=match ff st rows 0 with
 |some (i,r)=>rows.set i [gi r 0,.l [[.l val]],gi r 2,.t true]
 |none=>rows
def rF(rows:List (List G))(st:Int):Bool:=(ff st rows 0).isSome
def ur(m s v:AV)(H:List ah):Option (Bool × List ah) :=
 match m,s,v with
 | .map id,.lit (.int .i64 st),.vec w j ad off n=>match H[id]?,H[j]? with
  | some (.aO l K ks rows cl),some (.vec h d rws)=>match Kd.gE ks h&&(ae w ks.length&&(ae ad d&&ae off 0)) with
   |true=>some (rF rows st&&ae n rws.length,(H.set id (.aO l K ks (rE rows st rws) cl)).set j (.raw .dead))
   |false=>none
  |_,_=>none
 |_,_,_=>none
theorem xR(K:Ct)(ks:List Kd)(r:List G):(fp (gD K ks r).1).1=K.av (gi r 0).row:=by
 unfold gD;cases (gi r 4).bool && !(gi r 3).bool with
 |true=>rfl
 | false =>
  cases K with
  |one k=>cases k<;>rfl
  |agg ks=>rfl
theorem UH(K:Ct)(g:List G):plainKey (K.av g)=true:=by
 cases K with
 |one k=>cases k<;>rfl
 |agg ks=>rfl
theorem xS{P:Program}{k:TypeId}{K:Ct}{ks:List Kd}(h:gF P k K=true)(key:List G):∀(rows:List (List G)) (i:Nat),ew P k (dj K.ks key) (cu (eX K ks rows)) i =
  some ((bU K.ks key rows i).map fun p=>(p.1,(fp (gD K ks p.2).1).2))
 | [],i=>rfl
 | r::rs,i=>by
  have u:=xS (ks:=ks) h key rs (i+1);have q:∃ d,jH d K.ks=true:=by
   unfold gF at h;split at h
   ·simp only[ax]at h; exact⟨_,h.1⟩
   ·cases h
  obtain⟨d,v⟩:=q;simp only[eX,cu,dg,ew,xR,jI h,xQ _ _ v,bU];cases aK K.ks key (gi r 0).row with
  |true=>rfl
  |false=>exact u
theorem rG{K:Ct}{ks:List Kd}{rows:List (List G)}{i:Nat}{r:List G}(h:rows[i]? = some r):(eX K ks rows)[i]? = some (gD K ks r):=by
 unfold eX;rw[bT,h];rfl
theorem xT(K:Ct)(ks:List Kd)(rows:List (List G))(i:Nat)(r:List G):eX K ks (rows.set i r)=(eX K ks rows).set i (gD K ks r):=by
 simp[eX,tw]
theorem UI{P:Program}{t:TypeId}{m k v:AV}{b:Bool}{H H':List ah}(h:um P t m k H=some (b,v,H'))(hb:b=true):tW P t m k (aj H)=some (v,aj H')∧fT P t m k false (aj H)=none:=by
 unfold um at h;unfold tW fT;split at h
 case h_2=>cases h
 rename_i N O id J;rw[J];simp only[];split at h
 case h_2=>cases h
 rename_i l K ks rows cl hid;rw[a_ hid];simp only[ah.den];split at h
 case h_2=>cases h
 rename_i key w' hk hw M;split at h
 case h_2=>cases h
 rename_i y;simp only[ax]at y;obtain⟨q,u⟩:=y;have e:=bk q;simp only[aQ,a7]at h;obtain⟨d,rfl,rfl⟩:=h;rw[hb]at d;rw[←Ct.kg hk,jI u,hw,M];simp only[q,xS u,and_true];unfold fe at d;unfold dm iy;cases B:bU K.ks key rows 0 with
 | none =>
  simp only[wR,gU,c5,ah.den,eD,mr,qx]
 | some p =>
  obtain⟨i,r⟩:=p;rw[B]at d;simp only[]at d;obtain⟨_,hg⟩:=pH B;rw[gq]at hg;have I:nG (eX K ks rows) i=some (K.av (gi r 0).row,(gT r).map (aH ks),(gi r 2).int.toNat):=by
   unfold nG;rw[rG hg];simp only[gD,d,cond_true,wQ,Sd,cond_false]
  simp only[dO,I,gU,c5,ah.den,eD,cN,xT];rfl
theorem UJ{P:Program}{t:TypeId}{m k v:AV}{b:Bool}{H H':List ah}(h:uo P t m k v H=some (b,H'))(hb:b=true):pq P t m k v (aj H)=some (aj H')∧lH P t m k v (aj H)=none:=by
 unfold uo at h;unfold pq lH;split at h
 case h_2=>cases h
 rename_i kt et id w j ad off n M;rw[M];simp only[];split at h
 case h_2=>cases h
 rename_i l K ks rows cl ks2 ver' rws hid N;rw[a_ hid,a_ N];simp only[ah.den];split at h
 case h_2=>cases h
 rename_i key hk;split at h
 case h_2=>cases h
 rename_i u;simp only[ax]at u;obtain⟨q,y,B,I,J⟩:=u;have O:=Kd.iQ y;subst O;have U:=bk B;have V:=bk I;have W:=bk J;subst U V W;simp only[aQ,a7]at h;obtain⟨d,rfl⟩:=h;rw[hb]at d;have d:=bk d;subst d;rw[←Ct.kg hk,jI q];simp only[Ct.ue,cN,and_self,if_true,xS q,and_true];unfold kh eE dC;cases hf:bU K.ks key rows 0 with
 | none =>
  simp only[wR,c5,ah.den,Hl,cond_false];simp[eX,gD,gT,gi,G.row,G.rows,G.int,G.bool]
 | some p =>
  obtain⟨i,r⟩:=p;obtain⟨_,hg⟩:=pH hf;rw[gq]at hg;simp only[dO,BO (rG hg),c5,ah.den,xT,Hz,cond_true];simp[gD,gT,gi,G.row,G.rows,G.int,G.bool]
theorem UK{P:Program}{t:TypeId}{m k v:AV}{b:Bool}{H H':List ah}(h:uq P t m k H=some (b,v,H'))(hb:b=true):im P t m k (aj H)=some (v,aj H'):=by
 unfold uq at h;unfold im;split at h
 case h_2=>cases h
 rename_i N O id J;rw[J];simp only[];split at h
 case h_2=>cases h
 rename_i l K ks rows cl hid;rw[a_ hid];simp only[ah.den];split at h
 case h_2=>cases h
 rename_i key w' hk hw M;split at h
 case h_2=>cases h
 rename_i u;simp only[ax]at u;obtain⟨B,q⟩:=u;simp only[aQ,a7]at h;obtain⟨d,rfl,rfl⟩:=h;rw[hb]at d;rw[←Ct.kg hk,jI q,hw,M];simp only[B,Ct.ue,Bool.and_self,xS q];unfold fe at d;unfold dm lL lK eE dC;cases y:bU K.ks key rows 0 with
 | none =>
  simp only[wR,gU,c5,ah.den,eD,mr,qx,Hl,cond_false,goInt];simp[eX,gD,gT,gi,G.row,G.rows,G.int,G.bool]
 | some p =>
  obtain⟨i,r⟩:=p;rw[y]at d;simp only[]at d;obtain⟨_,hg⟩:=pH y;rw[gq]at hg;have I:nG (eX K ks rows) i=some (K.av (gi r 0).row,(gT r).map (aH ks),(gi r 2).int.toNat):=by
   unfold nG;rw[rG hg];simp only[gD,d,cond_true,wQ,Sd,cond_false]
  simp only[dO,I,gU,c5,ah.den,eD,cN,xT,Hz,cond_true,goInt];rfl
theorem Cr{st:Int}:∀{rows:List (List G)} {i j:Nat} {r:List G},ff st rows i=some (j,r)→i≤j∧rows[j-i]? = some r
 | [],_,_,_,h=>by simp[ff]at h
 | x::rs,i,j,r,h=>by
  simp only[ff]at h;cases d:((gi x 2).int.toNat:Int)==st with
  | true =>
   rw[d]at h;cases h;simp
  | false =>
   rw[d]at h;obtain⟨h1,k⟩:=Cr h;refine⟨by omega,?_⟩;rw[show j-i=(j-(i+1))+1 from by omega];simpa using k
theorem Jy{K:Ct}{ks:List Kd}{st:Int}:∀{rows:List (List G)} {i:Nat},(ff st rows i).map (·.1)=(pr (eX K ks rows) st).map (·+i)
 | [],_=>rfl
 | x::rs,i=>by
  have d:=Jy (K:=K) (ks:=ks) (st:=st) (rows:=rs) (i:=i+1);unfold pr at d⊢;simp only[ff,eX,dg,Hs,gD]at d⊢;cases h:((gi x 2).int.toNat:Int)==st with
  |true=>simp
  | false =>
   simp only[cond_false,d,kF,if_false,HA];congr 1
   funext n
   simp only[AX];omega
theorem UL{m s v:AV}{b:Bool}{H H':List ah}(h:ur m s v H=some (b,H'))(hb:b=true):j8 m s v (aj H)=some (aj H'):=by
 unfold ur at h;unfold j8;split at h
 case h_2=>cases h
 rename_i id st w j ad off n;split at h
 case h_2=>cases h
 rename_i l K ks rows cl ks2 ver' rws hid W;simp only[];rw[a_ hid,a_ W];simp only[ah.den];split at h
 case h_2=>cases h
 rename_i I;simp only[ax]at I;obtain⟨M,N,O,U⟩:=I;have e2:=Kd.iQ M;subst e2;have e3:=bk N;have e4:=bk O;have e5:=bk U;subst e3 e4 e5;simp only[aQ,a7]at h;obtain⟨u,rfl⟩:=h;rw[hb]at u;simp only[ax]at u;obtain⟨d,q⟩:=u;have q:=bk q;subst q;simp only[cN,and_self,if_true];unfold rF at d;unfold rE;cases B:ff st rows 0 with
 |none=>rw[B]at d; cases d
 | some p =>
  obtain⟨i,r⟩:=p;obtain⟨_,hg⟩:=Cr B;rw[gq]at hg;have hi:pr (eX K ks rows) st=some i:=by
   have:=Jy (K:=K) (ks:=ks) (st:=st) (rows:=rows) (i:=0);rw[B]at this;cases J:pr (eX K ks rows) st with
   |none=>rw[J]at this; cases this
   |some y=>rw[J]at this; simp at this; rw[this]
  rw[hi];obtain⟨k0,o0,ek,V⟩:∃ k o,gD K ks r=(k,o,(gi r 2).int.toNat)∧(fp k).1=K.av (gi r 0).row:=⟨_,_,rfl,xR K ks r⟩
  simp only[rG hg,ek,V,UH,c5,ah.den,xT];simp[gD,gT,gi,G.row,G.rows,G.bool]
theorem Jz(K V:Ct)(rows:List (List G))(i:Nat)(r:List G):cS K V (rows.set i r)=(cS K V rows).set i (K.av (gi r 0).row,V.av (gi r 1).row,(gi r 2).int.toNat):=by
 simp[cS,tw]
theorem JA{α:Type}{l:List α}{i:Nat}{x:α}(f:α→α)(h:l[i]? = some x):l.modify i f=l.set i (f x):=by
 apply List.ext_getElem?;intro j;rw[List.getElem?_modify,List.getElem?_set];by_cases e:i=j
 ·subst e
  rw[if_pos rfl,if_pos (aI h),h];simp
 ·rw [if_neg e]
  simp[e]
theorem JB{P:Program}{t:TypeId}{m k v:AV}{b:Bool}{H H':List ah}(h:rD P t m k v H=some (b,H')):lH P t m k v (aj H)=some (aj H'):=by
 unfold rD at h;unfold lH;split at h
 case h_2=>cases h
 rename_i I J id u;rw[u];simp only[];split at h
 case h_2=>cases h
 rename_i K V rows cl hid;rw[a_ hid];simp only[ah.den];split at h
 case h_2=>cases h
 rename_i key val hk y;split at h
 case h_2=>cases h
 rename_i d;cases h;rw[←Ct.kg hk,←Ct.kg y,jI d];simp only[Ct.ue,and_self,if_true,rC d,c5,ah.den];unfold eO eE dC;cases B:bU K.ks key rows 0 with
 |none=>simp[cS,gi,G.row,G.rows,G.int]
 | some p =>
  obtain⟨_,hg⟩:=pH (r:=p.2) (j:=p.1) B;rw[gq]at hg;have q:(cS K V rows)[p.1]? = some (K.av (gi p.2 0).row,V.av (gi p.2 1).row,(gi p.2 2).int.toNat):=by simp[cS,hg]
  simp only[dO,JA _ q,Jz,Hz,cond_true];simp[gi,G.row,G.rows,G.int]
def uu(P:Program)(t:TypeId)(m k:AV)(H:List ah):Option (Bool × List ah) :=
 match dc P t,m with
 | some (d,_),.map id=>match H[id]? with
  | some (.map K V rows cl)=>match K.read k,gF P d K with
   |some key,true=>some (true,H.set id (.map K V (Jw K.ks rows key) cl))
   |_,_=>none
  |_=>none
 |_,_=>none
theorem JD{α β:Type}(f:α→β):∀(l:List α) (i:Nat),(l.map f).eraseIdx i=(l.eraseIdx i).map f
 | [],_=>by simp
 |_::_,0=>by simp
 |_::l,i+1=>by simp[JD f l i]
theorem UM{P:Program}{t:TypeId}{m k:AV}{b:Bool}{H H':List ah}(h:uu P t m k H=some (b,H')):tS P t m k (aj H)=some (aj H'):=by
 unfold uu at h;unfold tS;split at h
 case h_2=>cases h
 rename_i u v id q;rw[q];simp only[];split at h
 case h_2=>cases h
 rename_i K V rows cl hid;rw[a_ hid];simp only[ah.den];split at h
 case h_2=>cases h
 rename_i key hk d;cases h;rw[←Ct.kg hk,jI d];simp only[rC d,c5,ah.den];unfold Jw;cases y:bU K.ks key rows 0 with
 |none=>rfl
 |some p=>simp only[dO,cS,JD]
def uv(P:Program)(t:TypeId)(x:AV)(H:List ah):Option (Bool × List ah) :=
 match b_ P t,x with
 | .slice e sz _,.vec w id ad off n=>match d_ P e,H[id]? with
  | some z,some (.vec ks v rows)=>match fW ks (z.map .lit) with
   | some d=>if ks.length=w∧w=sz∧v=ad∧z.length=sz∧0<sz then
     some (ep (off+n) rows.length,H.set id (.vec ks v (rows.take off++bO n d++rows.drop (off+n)))) else none
   |none=>none
  |_,_=>none
 |_,_=>none
theorem UN{P:Program}{t:TypeId}{x:AV}{b:Bool}{H H':List ah}(h:uv P t x H=some (b,H'))(hb:b=true):tT P t x (aj H)=some (aj H'):=by
 unfold uv at h;unfold tT;split at h
 case h_2=>cases h
 rename_i e sz B w id ad off n hk;rw[hk];simp only[];split at h
 case h_2=>cases h
 rename_i z ks v rows q hid;rw[q,a_ hid];simp only[ah.den];split at h
 case h_2=>cases h
 rename_i I k;split at h
 case isFalse=>cases h
 rename_i u;obtain⟨rfl,rfl,rfl,h1,y⟩:=u;simp only[aQ,a7]at h;obtain⟨d,rfl⟩:=h;subst hb;have d:=qy d;simp only[h1,y,cN,d,and_self,if_true,c5,ah.den,aQ];rw[←kf k];simp[List.map_take,List.map_drop]
def uw(P:Program)(t xt:TypeId)(s x:AV)(H:List ah):Option (Bool × AV × List ah) :=
 match b_ P t,b_ P xt,s,x with
 | .slice e sz d,.int _,.lit (.slice none 0 0),.lit (.int _ n)=>match d_ P e with
  | some z=>match pF (z.map .lit) with
   | some ks=>match fW ks (z.map .lit) with
    | some h=>if z.length=sz∧0<sz∧d≤1048576∧ks.length=sz then
      some (ao 0 n&&ba n 1048576,.vec sz H.length 0 0 n.toNat,H++[.vec ks 0 (bO n.toNat h)]) else none
    |none=>none
   |none=>none
  |none=>none
 |_,_,_,_=>none
theorem UO{P:Program}{t xt:TypeId}{s x v:AV}{b:Bool}{H H':List ah}(h:uw P t xt s x H=some (b,v,H'))(hb:b=true):po P t xt s x (aj H)=some (v,aj H'):=by
 unfold uw at h;unfold po;split at h
 case h_2=>cases h
 rename_i e sz N k k' n hk q;rw[hk,q];simp only[];split at h
 case h_2=>cases h
 rename_i z y;rw[y];simp only[];split at h
 case h_2=>cases h
 rename_i ks O;split at h
 case h_2=>cases h
 rename_i U u;split at h
 case isFalse=>cases h
 rename_i B;obtain⟨h1,I,J,M⟩:=B;simp only[aQ,a7]at h;obtain⟨d,rfl,rfl⟩:=h;subst hb;simp only[eW,fv,ax,decide_eq_true_eq]at d;simp only[h1,I,J,d.1,d.2,and_self,if_true,gU,ah.den,eD,M,aQ,a7,true_and];rw[←kf u];simp
def fJ(ks:List Kd)(rows:List (List G))(key:List G):Option Nat:=match bU ks key rows 0 with
 |some (_,r)=>pD r
 |none=>none
def kZ(mem:List (List G)):Option Nat→Bool
 |some i=>er i mem.length
 |none=>false
def gG(mem:List (List G)):Option Nat→List G
 |some i=>mem.getD i []
 |none=>[]
def rH(mem:List (List G))(j:Option Nat)(ks:List Kd)(key val:List G):List (List G):=match j with
 |some i=>mem.set i [.l (eO ks (gi (gG mem j) 0).rows key val (gi (gG mem j) 1).int.toNat),.i (eE ks (gi (gG mem j) 0).rows key (gi (gG mem j) 1).int.toNat:Nat)]
 |none=>mem
def rI(rows:List (List G))(st:Int):Bool:=match ff st rows 0 with
 |some (_,r) => !ba 0 (gi r 1).int
 |none=>false
def rJ(rows:List (List G))(st:Int)(n:Nat):List (List G):=match ff st rows 0 with
 |some (i,r)=>rows.set i [gi r 0,.i n,gi r 2]
 |none=>rows
theorem Cs{P:Program}{k:TypeId}{K:Ct}(h:gF P k K=true)(key:List G):∀(rows:List (List G)) (i:Nat),ew P k (dj K.ks key) (fq (iw K rows)) i =
  some ((bU K.ks key rows i).map fun p=>(p.1,AV.undef))
 | [],i=>rfl
 | r::rs,i=>by
  have u:=Cs h key rs (i+1);have q:∃ d,jH d K.ks=true:=by
   unfold gF at h;split at h
   ·simp only[ax]at h; exact⟨_,h.1⟩
   ·cases h
  obtain⟨d,v⟩:=q;simp only[iw,fq,dg,ew,jI h,xQ _ _ v,bU];cases aK K.ks key (gi r 0).row with
  |true=>rfl
  |false=>exact u
theorem JE{K:Ct}{rows:List (List G)}{i:Nat}{r:List G}(h:rows[i]? = some r):(iw K rows)[i]? = some (K.av (gi r 0).row,pD r,(gi r 2).int.toNat):=by
 unfold iw;rw[bT,h];rfl
theorem JF{KI VI:Ct}{mem:List (List G)}{i:Nat}(h:i<mem.length):(nJ KI VI mem)[i]? = some (cS KI VI (gi (mem.getD i []) 0).rows,(gi (mem.getD i []) 1).int.toNat):=by
 unfold nJ;rw[bT,bG,bt h];rfl
def Cu(P:Program)(t:TypeId)(m k:AV)(ok:Bool)(H:List ah):Option (Bool × AV) :=
 match dc P t,m with
 | some (d,h),.sub id l j=>match H[id]? with
  | some (.mm l' _ KI VI _ mem _)=>match KI.read k,nM P h with
   | some key,some (q,z)=>match ae l l'&&(gF P d KI&&VI.same q) with
    | true=>some (kZ mem j,match ok with
      |true=>.tuple [VI.av (cC KI.ks (gi (gG mem j) 0).rows key z),.lit (.bool (dC KI.ks (gi (gG mem j) 0).rows key))]
      |false=>VI.av (cC KI.ks (gi (gG mem j) 0).rows key z))
    |false=>none
   |_,_=>none
  |_=>none
 | some (d,h),.map id=>match H[id]?,ok with
  | some (.mm l K _ _ rows _ _),false=>match K.read k,gQ P h with
   | some key,some (.lit (.map none))=>match gF P d K with
    |true=>some (true,.sub id l (fJ K.ks rows key))
    |false=>none
   |_,_=>none
  |_,_=>none
 |_,_=>none
theorem UP{P:Program}{t:TypeId}{m k v:AV}{ok b:Bool}{H:List ah}(h:Cu P t m k ok H=some (b,v))(hb:b=true):fT P t m k ok (aj H)=none∧jF P t m k ok (aj H)=some v:=by
 unfold Cu at h;unfold jF fT;split at h
 ·rename_i B I id l j q
  rw[q];refine⟨rfl,?_⟩;split at h
  case h_2=>cases h
  rename_i l' K KI VI rows mem cl hid;split at h
  case h_2=>cases h
  rename_i key O z hk u;split at h
  case h_2=>cases h
  rename_i d;simp only[ax]at d;obtain⟨J,d,M⟩:=d;have e:=Ct.jG M;subst e;simp only[aQ,a7]at h;obtain⟨hi,rfl⟩:=h;rw[hb]at hi;cases j with
  |none=>cases hi
  | some i =>
   have y:i<mem.length:=by simpa[kZ]using hi
   simp only[qZ,q];rw[a_ hid];simp only[ah.den,J,JF y,gG];rw[←Ct.kg hk,jI d,Ju u];simp only[rC d];unfold cC dC;cases bU KI.ks key (gi (mem.getD i []) 0).rows 0 with
   |none=>cases ok<;>rfl
   |some p=>cases ok<;>rfl
 ·rename_i B I id q
  rw[q];split at h
  case h_2=>cases h
  rename_i l K KI VI rows mem cl hid;split at h
  case h_2=>cases h
  rename_i key hk u;split at h
  case h_2=>cases h
  rename_i d;simp only[pt,q];rw[a_ hid];simp only[ah.den];refine⟨trivial,?_⟩;rw[←Ct.kg hk,jI d,u];simp only[Cs d];cases h;unfold fJ;cases N:bU K.ks key rows 0 with
  |none=>rfl
  | some p =>
   obtain⟨i,r⟩:=p;obtain⟨_,hg⟩:=pH N;rw[gq]at hg;simp only[dO,JE hg]
 ·cases h
def ux(P:Program)(t:TypeId)(m k v:AV)(H:List ah):Option (Bool × List ah) :=
 match dc P t,m with
 | some (d,_),.sub id l j=>match H[id]? with
  | some (.mm l' K KI VI rows mem cl)=>match KI.read k,VI.read v with
   | some key,some val=>match ae l l'&&gF P d KI with
    |true=>some (kZ mem j,H.set id (.mm l' K KI VI rows (rH mem j KI.ks key val) cl))
    |false=>none
   |_,_=>none
  |_=>none
 |_,_=>none
theorem UQ(KI VI:Ct)(mem:List (List G))(i:Nat)(r:List G):nJ KI VI (mem.set i r)=(nJ KI VI mem).set i (cS KI VI (gi r 0).rows,(gi r 1).int.toNat):=by
 simp[nJ,tw]
theorem UR(K:Ct)(rows:List (List G))(i:Nat)(r:List G):iw K (rows.set i r)=(iw K rows).set i (K.av (gi r 0).row,pD r,(gi r 2).int.toNat):=by
 simp[iw,tw]
theorem US{P:Program}{t:TypeId}{m k v:AV}{b:Bool}{H H':List ah}(h:ux P t m k v H=some (b,H'))(hb:b=true) :
  tY P t m k v (aj H)=some (aj H')∧lH P t m k v (aj H)=none∧pq P t m k v (aj H)=none:=by
 unfold ux at h;unfold tY lH pq;split at h
 case h_2=>cases h
 rename_i O U id l j J;rw[J];refine⟨?_,rfl,rfl⟩;split at h
 case h_2=>cases h
 rename_i l' K KI VI rows mem cl hid;split at h
 case h_2=>cases h
 rename_i key val hk M;split at h
 case h_2=>cases h
 rename_i d;simp only[ax]at d;obtain⟨q,d⟩:=d;have e:=bk q;subst e;simp only[aQ,a7]at h;obtain⟨hi,rfl⟩:=h;rw[hb]at hi;cases j with
 |none=>cases hi
 | some i =>
  have B:i<mem.length:=by simpa[kZ]using hi
  simp only[];rw[a_ hid];simp only[ah.den,JF B,q];rw[←Ct.kg hk,←Ct.kg M,jI d];simp only[Ct.ue,and_self,if_true,rC d,c5,ah.den,rH,gG,UQ];generalize mem.getD i []=m0;have u:∀(X:List (List G)) (n:Nat),(gi [G.l X,G.i n] 0).rows=X:=fun _ _=>rfl;have y:∀(X:List (List G)) (n:Nat),(gi [G.l X,G.i n] 1).int.toNat=n:=fun _ _=>rfl;unfold eO eE dC;cases N:bU KI.ks key (gi m0 0).rows 0 with
  | none =>
   simp only[wR,Hl,cond_false,u,y];rw[show cS KI VI ((gi m0 0).rows++[[.l [key],.l [val],.i (gi m0 1).int.toNat]])=cS KI VI (gi m0 0).rows++[(KI.av key,VI.av val,(gi m0 1).int.toNat)] from by
    simp only[cS,jX,dg,qx];rfl]
  | some p =>
   obtain⟨_,hg⟩:=pH (r:=p.2) (j:=p.1) N;rw[gq]at hg;have I:(cS KI VI (gi m0 0).rows)[p.1]? = some (KI.av (gi p.2 0).row,VI.av (gi p.2 1).row,(gi p.2 2).int.toNat):=by simp[cS,hg]
   simp only[dO,JA _ I,Hz,cond_true,u,y,Jz];rfl
def uy(P:Program)(t:TypeId)(m k:AV)(H:List ah):Option (Bool × AV × List ah) :=
 match dc P t,m with
 | some (d,h),.map id=>match H[id]? with
  | some (.mm l K KI VI rows mem cl)=>match K.read k,gQ P h with
   | some key,some (.lit (.map none))=>match gF P d K with
    |true=>some (!dC K.ks rows key,.tuple [.sub id l none,.lit (.int .i64 (cl:Nat))],H.set id (.mm l K KI VI (rows++[[.l [key],.i (-1),.i cl]]) mem (cl+1)))
    |false=>none
   |_,_=>none
  |_=>none
 |_,_=>none
theorem UT{P:Program}{t:TypeId}{m k v:AV}{b:Bool}{H H':List ah}(h:uy P t m k H=some (b,v,H'))(hb:b=true) :
  jf P t m k (aj H)=some (v,aj H')∧im P t m k (aj H)=none:=by
 unfold uy at h;unfold jf im;split at h
 case h_2=>cases h
 rename_i I J id u;rw[u];split at h
 case h_2=>cases h
 rename_i l K KI VI rows mem cl hid;simp only[];rw[a_ hid];simp only[ah.den];split at h
 case h_2=>cases h
 rename_i key hk y;split at h
 case h_2=>cases h
 rename_i q;simp only[aQ,a7]at h;obtain⟨d,rfl,rfl⟩:=h;rw[hb]at d;rw[←Ct.kg hk,jI q,y];simp only[Ct.ue,Cs q,and_true];unfold dC at d;cases B:bU K.ks key rows 0 with
 |some p=>rw[B]at d; cases d
 | none =>
  simp only[wR,c5,ah.den];rw[show iw K (rows++[[.l [key],.i (-1),.i cl]])=iw K rows++[(K.av key,none,cl)] from by
   simp only[iw,jX,dg,qx];rfl]
  rfl
theorem JG{K:Ct}{st:Int}:∀{rows:List (List G)} {i:Nat},(ff st rows i).map (·.1)=(pv (iw K rows) st).map (·+i)
 | [],_=>rfl
 | x::rs,i=>by
  have d:=JG (K:=K) (st:=st) (rows:=rs) (i:=i+1);unfold pv at d⊢;simp only[ff,iw,dg,Hs]at d⊢;cases h:((gi x 2).int.toNat:Int)==st with
  |true=>simp
  | false =>
   simp only[cond_false,d,kF,if_false,HA];congr 1
   funext n
   simp only[AX];omega
def uz(m s v:AV)(H:List ah):Option (Bool × List ah) :=
 match m,s,v with
 | .map id,.lit (.int .i64 st),.map j=>match H[id]?,H[j]? with
  | some (.mm l K KI VI rows mem cl),some (.map k q d h)=>match KI.same k&&VI.same q with
   |true=>some (rI rows st,(H.set id (.mm l K KI VI (rJ rows st mem.length) (mem++[[.l d,.i h]]) cl)).set j (.raw .dead))
   |false=>none
  |_,_=>none
 |_,_,_=>none
theorem UU{m s v:AV}{b:Bool}{H H':List ah}(h:uz m s v H=some (b,H'))(hb:b=true) :
  kU m s v (aj H)=some (aj H')∧j8 m s v (aj H)=none:=by
 unfold uz at h;unfold kU j8;split at h
 case h_2=>cases h
 rename_i id st j;split at h
 case h_2=>cases h
 rename_i l K KI VI rows mem cl U V N O hid B;refine⟨?_,rfl⟩;simp only[];rw[a_ hid,a_ B];simp only[ah.den];split at h
 case h_2=>cases h
 rename_i q;simp only[ax]at q;have I:=Ct.jG q.1;have J:=Ct.jG q.2;subst I J;simp only[aQ,a7]at h;obtain⟨d,rfl⟩:=h;rw[hb]at d;unfold rI at d;unfold rJ;cases k:ff st rows 0 with
 |none=>rw[k]at d; cases d
 | some p =>
  obtain⟨i,r⟩:=p;rw[k]at d;obtain⟨_,hg⟩:=Cr k;rw[gq]at hg;have hi:pv (iw K rows) st=some i:=by
   have:=JG (K:=K) (st:=st) (rows:=rows) (i:=0);rw[k]at this;cases u:pv (iw K rows) st with
   |none=>rw[u]at this; cases this
   |some y=>rw[u]at this; simp at this; rw[this]
  have hm:pD r=none:=by
   unfold pD;cases M:ba 0 (gi r 1).int with
   |true=>simp[M]at d
   |false=>rfl
  rw[hi];simp only[JE hg,hm,c5,ah.den,UR];simp[pD,nJ,gi,G.row,G.rows,G.int,ba,show ∀ n,ep 0 n=true from fun n=>Nat.ble_eq_true_of_le (eI n)]
def rK(P:Program)(r:Operand→AV)(H:List ah):Op→Option (Bool × AV × List ah)
 | .alloc t=>match xm P t with
  |some e=>if kT (aj H) 0=true then some (true,.ptr H.length 0 0 0 0,H++[.raw (.eJ 0 t e wz)]) else none
  | none=>match d_ P t with
   |some z=>some (true,.ptr H.length 0 0 0 0,H++[.raw (.box (z.map .lit))])
   |none=>none
 | .box _ x=>match pg (r x) with
  |some cs=>some (true,.ptr H.length 0 0 0 0,H++[.raw (.box cs)])
  |none=>none
 | .store t a x=>match rA P t (r a) (r x) H with
  |some (b,H')=>some (b,.undef,H')
  |none=>none
 |.makeSlice t l c=>uj P t (r l) (r c) H
 |.buildSlice t n parts=>uk P t n (parts.toList.map fun p=>(p.1,r p.2)) H
 | .range t x=>match b_ P t,r x with
  |.str,.lit (.string s)=>some (true,.ptr H.length 0 0 0 0,H++[.raw (.iter s 0)])
  |_,_=>none
 | .next it true=>match r it with
  | .ptr id 0 _ 0 0=>match H[id]? with
   | some (.raw (.iter s pos))=>if pos<s.size then some (true,.tuple [.lit (.bool true),.lit (goInt pos),.lit (.int .i32 (nm s pos).1)],H.set id (.raw (.iter s (pos+(nm s pos).2))))
     else some (true,.tuple [.lit (.bool false)],H)
   |_=>none
  |_=>none
 | .makeMap t none=>match dc P t with
  | some (h,d)=>match nM P h,nM P d with
   |some (K,_),some (V,_)=>some (true,.map H.length,H++[.map K V [] 0])
   | some (K,_),none=>match dc P d with
    |some _=>some (true,.map H.length,H++[.map K K [] 0])
    |none=>none
   |_,_=>none
  |none=>none
 | .mapUpdate t m k v=>match rD P t (r m) (r k) (r v) H with
  |some (b,H')=>some (b,.undef,H')
  | none=>match uo P t (r m) (r k) (r v) H with
   |some (b,H')=>some (b,.undef,H')
   | none=>match ux P t (r m) (r k) (r v) H with
    |some (b,H')=>some (b,.undef,H')
    |none=>none
 |.lookup t m k false=>um P t (r m) (r k) H
 | .mapEntry t m k=>match uq P t (r m) (r k) H with
  |some y=>some y
  |none=>uy P t (r m) (r k) H
 | .entryStore _ m s x=>match ur (r m) (r s) (r x) H with
  |some (b,H')=>some (b,.undef,H')
  | none=>match uz (r m) (r s) (r x) H with
   |some (b,H')=>some (b,.undef,H')
   |none=>none
 | .insert t m k v=>match rD P t (r m) (r k) (r v) H with
  |some (b,H')=>some (b,.undef,H')
  |none=>none
 | .call c=>match c.callee with
  | .builtin .append=>match c.args.toList,c.argTypes.toList with
   | [s,x],[t,xt]=>match b_ P xt with
    |.int _=>uw P t xt (r s) (r x) H
    |_=>ui P t xt (r s) (r x) H
   |_,_=>none
  | .builtin .clear=>match c.args.toList,c.argTypes.toList with
   | [x],[t]=>match uv P t (r x) H with
    |some (b,H')=>some (b,.tuple [],H')
    |none=>none
   |_,_=>none
  | .builtin .delete=>match c.args.toList,c.argTypes.toList with
   | [x,k],t::_=>match uu P t (r x) (r k) H with
    |some (b,H')=>some (b,.tuple [],H')
    |none=>none
   |_,_=>none
  |_=>none
 |_=>none
theorem UW{P:Program}{t xt:TypeId}{s x:AV}{H:List ab}(h:∀ k,b_ P xt≠.int k):po P t xt s x H=none:=by
 unfold po;split
 ·rename_i hk
  exact(h _ hk).elim
 ·rfl
theorem JH{P:Program}{r:Operand→AV}{H H':List ah}{o:Op}{v:AV}{b:Bool}(h:rK P r H o=some (b,v,H'))(hb:b=true):c_ P r (aj H) o=some (v,aj H'):=by
 cases o<;>simp only[rK]at h<;>try cases h
 case alloc t =>
  split at h
  ·rename_i e he
   split at h
   ·rename_i O
    cases h;simp only[c_,pj,he,O,if_true,eD,gU,ah.den]
   ·cases h
  ·rename_i he
   split at h
   ·rename_i z J; cases h; simp only[c_,pj,he,J,eD,gU,ah.den]
   ·cases h
 case box t x =>
  split at h
  ·rename_i z J; cases h; simp only[c_,xo,J,eD,gU,ah.den]
  ·cases h
 case store t a x =>
  split at h
  ·rename_i q H1 d; cases h; simp only[c_,Jr d hb]
  ·cases h
 case makeSlice t l c=>simp only[c_]; exact UE h hb
 case buildSlice t n ps=>simp only[c_]; exact UF h
 case range t x =>
  split at h
  ·rename_i s hk M
   cases h;simp only[c_,xq,hk,M,eD,gU,ah.den]
  ·cases h
 case next it isString =>
  cases isString with
  |false=>cases h
  | true =>
   simp only[]at h;split at h
   ·rename_i id k M
    split at h
    ·rename_i s pos hid
     simp only[c_,xr,M,a_ hid,ah.den];split at h
     ·rename_i I
      cases h;rw[if_pos I,c5];rfl
     ·rename_i I
      cases h;rw[if_neg I]
    ·cases h
   ·cases h
 case makeMap t res =>
  cases res with
  |some _=>cases h
  | none =>
   simp only[]at h;split at h
   ·split at h
    ·cases h
     simp only[c_,eD,gU,ah.den];rfl
    ·split at h
     ·cases h
      simp only[c_,eD,gU,ah.den];rfl
     ·cases h
    ·cases h
   ·cases h
 case mapUpdate t m k x =>
  split at h
  ·rename_i q H1 d
   cases h;simp only[c_,JB d]
  ·split at h
   ·rename_i q H1 d
    cases h;obtain⟨g1,g2⟩:=UJ d hb;simp only[c_,g1,g2]
   ·split at h
    ·rename_i q H1 d
     cases h;obtain⟨g1,g2,g3⟩:=US d hb;simp only[c_,g1,g2,g3]
    ·cases h
 case lookup t m k ok =>
  cases ok with
  |true=>cases h
  | false =>
   obtain⟨g1,g2⟩:=UI h hb;simp only[c_,g1,g2]
 case mapEntry t m k =>
  split at h
  ·rename_i y U
   cases h;simp only[c_,UK U hb]
  ·obtain ⟨g1, g2⟩ := UT h hb
   simp only[c_,g1,g2]
 case entryStore t m s x =>
  split at h
  ·rename_i q H1 d
   cases h;simp only[c_,UL d hb]
  ·split at h
   ·rename_i q H1 d
    cases h;obtain⟨g1,g2⟩:=UU d hb;simp only[c_,g1,g2]
   ·cases h
 case insert t m k x =>
  split at h
  ·rename_i q H1 d
   cases h;simp only[c_,JB d]
  ·cases h
 case call c =>
  simp only[c_,xA];split at h
  ·rename_i u
   rw[u];split at h
   ·rename_i h1 B
    simp only[h1,B];split at h
    ·rw[UO h hb]
    ·rename_i N
     rw[UW N];exact UC h hb
   ·cases h
  ·rename_i u
   rw[u];split at h
   ·rename_i h1 B
    simp only[h1,B];split at h
    ·rename_i d
     cases h;rw[UN d hb]
    ·cases h
   ·cases h
  ·rename_i u
   rw[u];split at h
   ·rename_i h1 B
    simp only[h1,B];split at h
    ·rename_i d
     cases h;rw[UM d]
    ·cases h
   ·cases h
  ·cases h
end Go.AL

namespace Go.AL
open Go
variable [Dr]
def rL(n:Int):Option (Bool × AV):=some (au n,.lit (.int .i64 n))
def Cv(P:Program)(op:BinOp)(t:TypeId)(d:Bool)(x y:AV):Option (Bool × AV) :=
 match op,x,y with
 |.add,.lit (.int .i64 a),.lit (.int .i64 b)=>rL (a+b)
 |.sub,.lit (.int .i64 a),.lit (.int .i64 b)=>rL (a-b)
 |.mul,.lit (.int .i64 a),.lit (.int .i64 b)=>rL (a*b)
 |.quo,.lit (.int .i64 a),.lit (.int .i64 b)=>some (!(b==0)&&au (a.tdiv b),.lit (.int .i64 (a.tdiv b)))
 |.rem,.lit (.int .i64 a),.lit (.int .i64 b)=>some (!(b==0),.lit (.int .i64 (a.tmod b)))
 |.add,.lit (.string a),.lit (.string b)=>some (ep (a.size+b.size) 9223372036854775807,.lit (.string (a++b)))
 |.lss,.lit (.int k a),.lit (.int k' b)=>if k=k' then some (true,.lit (.bool (ao a b))) else none
 |.leq,.lit (.int k a),.lit (.int k' b)=>if k=k' then some (true,.lit (.bool (ba a b))) else none
 |.gtr,.lit (.int k a),.lit (.int k' b)=>if k=k' then some (true,.lit (.bool (ao b a))) else none
 |.geq,.lit (.int k a),.lit (.int k' b)=>if k=k' then some (true,.lit (.bool (ba b a))) else none
 |.and,.lit (.int k a),.lit (.int k' b)=>if k=k' then some (true,.lit (.int k (HO k a b))) else none
 |.or,.lit (.int k a),.lit (.int k' b)=>if k=k' then some (true,.lit (.int k (HP k a b))) else none
 |.xor,.lit (.int k a),.lit (.int k' b)=>if k=k' then some (true,.lit (.int k (HQ k a b))) else none
 |.shl,.lit (.int k a),.lit (.int _ b)=>some (aB b,.lit (.int k (Bh k a b)))
 |.shr,.lit (.int k a),.lit (.int _ b)=>some (aB b,.lit (.int k (dW k a b)))
 | op,.listF ks rows,.lit (.slice none 0 0)=>match P.underlying t,jE op false with
  |some (.slice _),some v=>some (er 0 rows.length,v)
  |_,_=>none
 | op,.vec w id ad off m,.lit (.slice none 0 0)=>match P.underlying t,jE op false with
  |some (.slice _),some v=>some (er 0 m,v)
  |_,_=>none
 | _,_,_=>match gA P op t d x y with
  |some v=>some (true,v)
  |none=>none
def Cw(m sz:Nat)(cells:List AV):Option (Kd × List (List G)) :=
 match ug (cells.headD .undef)with
 | some k=>match bu [k] (cells.map fun c=>[c]) with
  |some rows=>if sz=1∧m=cells.length then some (k,rows) else none
  |none=>none
 |none=>none
theorem UX{m sz:Nat}{cells:List AV}{k:Kd}{rows:List (List G)}(h:Cw m sz cells=some (k,rows)){j:Nat}(q:j<m) :
  aH [k] (rows.getD j [])=(cells.drop (j*sz)).take sz:=by
 unfold Cw at h;split at h
 ·split at h
  ·rename_i rows' hg
   split at h
   ·rename_i u
    obtain⟨rfl,rfl⟩:=u;cases h;have e:=pE hg;have v:rows.length=cells.length:=by have:=congrArg AY e; simpa using this
    have d:(rows.map (aH [k]))[j]? = (cells.map fun c=>[c])[j]? := by rw[e]
    rw[Ck (by omega),bT,bt q]at d;simp only[dO,aQ]at d;rw[d,agZ,List.drop_eq_getElem_cons q,List.take_succ_cons,List.take_zero]
   ·cases h
  ·cases h
 ·cases h
def Cx(k:SK)(x i:AV):Option (Bool × AV) :=
 match k,x,i with
 |.slice _ sz _,.listF ks rows,.lit (.int _ j)=>if ks.length=sz then some (aB j&&ao j (rows.length:Int),.cptr (aH ks (rows.getD j.toNat []))) else none
 |.slice _ sz _,.vec w id ad off m,.lit (.int _ j)=>if w=sz then some (aB j&&ao j (m:Int),.ptr id ad w (off+j.toNat) 0) else none
 | .array m _ sz _,.cptr cells,.lit (.int d j)=>match Cw m sz cells with
  |some (h,rows)=>some (aB j&&ao j (m:Int),.cptr (aH [h] (rows.getD j.toNat [])))
  | none=>match j0 k (.cptr cells) (.lit (.int d j)) with
   |some v=>some (true,v)
   |none=>none
 |.array m _ sz _,.ptr id ad w row col,.lit (.int _ j)=>some (aB j&&ao j (m:Int),.ptr id ad w row (col+j.toNat*sz))
 | _,_,_=>match j0 k x i with
  |some v=>some (true,v)
  |none=>none
def Cy(k:SK)(x i:AV):Option (Bool × AV) :=
 match k,x,i with
 |.str,.lit (.string s),.lit (.int _ j)=>some (aB j&&ao j (s.size:Int),.lit (.int .u8 ((s.data.toList.getD j.toNat 0).toNat)))
 | .array m _ 1 false,.agg cells,.lit (.int _ j)=>match ix cells with
  |some l=>bif ep m l.length then some (aB j&&ao j (m:Int),.lit (.int .i64 (l.getD j.toNat 0))) else none
  | none=>match nE k x i with
   |some v=>some (true,v)
   |none=>none
 | _,_,_=>match nE k x i with
  |some v=>some (true,v)
  |none=>none
def Cz(op:UnOp)(x:AV):Option (Bool × AV) :=
 match op,x with
 |.neg,.lit (.int .i64 n)=>some (au (0-n),.lit (.int .i64 (0-n)))
 | _,_=>match qR op x with
  |some v=>some (true,v)
  |none=>none
def CA(P:Program)(s d:TypeId)(x:AV):Option (Bool × AV) :=
 match P.underlying s,b_ P d,x with
 |some _,.int .i64,.lit (.int _ n)=>some (au n,.lit (.int .i64 n))
 | _,_,_=>match qS P s d x with
  |some v=>some (true,v)
  |none=>none
def CB(P:Program)(r:Operand→AV)(o:Op):Option (Bool × AV) :=
 match o with
 |.indexAddr t x i=>Cx (b_ P t) (r x) (r i)
 |.index t x i=>Cy (b_ P t) (r x) (r i)
 |.binOp op t x y _=>Cv P op t (lI x||lI y) (r x) (r y)
 |.slice t x lo hi mx=>Cp P t (r x) (lo.map r) (hi.map r) (mx.map r)
 |.unOp op _ x=>Cz op (r x)
 |.convert s d x=>CA P s d (r x)
 | o=>match gS P r o with
  |some v=>some (true,v)
  |none=>none
theorem nO{x:Option AV}{b:Bool}{v:AV} (h:(match x with|some v=>some (true,v)|none=>none)=some (b,v)):x=some v:=by
 split at h
 ·cases h; rfl
 ·cases h
theorem pI{n:Int}(h:au n=true):IntKind.i64.wrap n=n:=by
 rw[kX]at h;simp[IntKind.wrap,IntKind.bits,IntKind.signed];omega
theorem UY{P:Program}{op:BinOp}{t:TypeId}{u:Bool}{x y v:AV}{b:Bool}(h:Cv P op t u x y=some (b,v))(hb:b=true):gA P op t u x y=some v:=by
  unfold Cv at h;split at h
  · simp only [rL, aQ, a7] at h
    obtain⟨h1,rfl⟩:=h;subst hb;simp[gA,ic,lA,pI h1]
  · simp only [rL, aQ, a7] at h
    obtain⟨h1,rfl⟩:=h;subst hb;simp[gA,ic,lA,pI h1]
  · simp only [rL, aQ, a7] at h
    obtain⟨h1,rfl⟩:=h;subst hb;simp[gA,ic,lA,pI h1]
  · simp only [aQ, a7] at h
    obtain⟨h1,rfl⟩:=h;subst hb;simp only[ax,oW,beq_eq_false_iff_ne]at h1;simp[gA,ic,lA,h1.1,pI h1.2]
  · simp only [aQ, a7] at h
    obtain⟨h1,rfl⟩:=h;subst hb;simp only[oW,beq_eq_false_iff_ne]at h1;simp[gA,ic,lA,h1]
  · simp only [aQ, a7] at h
    obtain⟨h1,rfl⟩:=h;subst hb;have q:=qy h1;have d:∀ k:Nat,k≤9223372036854775807→¬ ((k:Int)>IntKind.i64.max):=fun k hk=>by
      show ¬ ((k:Int)>(9223372036854775807:Int))
      omega
    simp only[gA,ic,Bi,if_neg (d _ q)]
  all_goals first
    |exact nO h
    | (split at h
       case isFalse=>cases h
       rename_i hk;subst hk;cases h;simp[gA,ic,lA,eW,fv])
    | (simp only [aQ, a7] at h
       obtain⟨h1,rfl⟩:=h;subst hb;simp only[ke,decide_eq_true_eq]at h1;simp only[gA,ic,if_neg (Int.not_lt.2 h1)])
    | (split at h
       · rename_i h1 q
         simp only[aQ,a7]at h;obtain⟨d,rfl⟩:=h;subst hb;simp only[jb]at d;simp only[gA,h1,if_pos d,q]
       · cases h)
theorem UZ{k:SK}{x i v:AV}{b:Bool}(h:Cx k x i=some (b,v))(hb:b=true):j0 k x i=some v:=by
 unfold Cx at h;split at h
 ·split at h
  ·rename_i hw
   simp only[aQ,a7]at h;obtain⟨h1,rfl⟩:=h;subst hb;simp only[ke,eW,ax,decide_eq_true_eq]at h1;simp[j0,hw,h1.1,h1.2]
  ·cases h
 ·split at h
  ·rename_i hw
   simp only[aQ,a7]at h;obtain⟨h1,rfl⟩:=h;subst hb;simp only[ke,eW,ax,decide_eq_true_eq]at h1;simp[j0,hw,h1.1,h1.2]
  ·cases h
 ·split at h
  ·rename_i q rows d
   simp only[aQ,a7]at h;obtain⟨h1,rfl⟩:=h;subst hb;simp only[ke,eW,ax,decide_eq_true_eq]at h1;rw[UX d (by omega)];simp[j0,h1.1,h1.2]
  ·exact nO h
 ·simp only [aQ, a7] at h
  obtain⟨h1,rfl⟩:=h;subst hb;simp only[ke,eW,ax,decide_eq_true_eq]at h1;simp[j0,h1.1,h1.2]
 ·exact nO h
theorem U0{k:SK}{x i v:AV}{b:Bool}(h:Cy k x i=some (b,v))(hb:b=true):nE k x i=some v:=by
 unfold Cy at h;split at h
 ·rename_i s q j
  simp only[aQ,a7]at h;obtain⟨h1,rfl⟩:=h;subst hb;simp only[ke,eW,ax,decide_eq_true_eq]at h1;have d:j.toNat<s.size:=by omega
  have e:s[j.toNat]? = some (s.data.toList.getD j.toNat 0):=by
   have u:j.toNat<s.data.toList.length:=by simpa using d
   rw[bG,bt u];simp only[getElem?,decidableGetElem?,d,dite_true,Option.getD_some];rfl
  simp only[nE,h1.1,h1.2,and_self,if_true,e]
 ·rename_i m e cells q j
  split at h
  ·rename_i l y
   cases hm:ep m l.length with
   |false=>rw[hm]at h; cases h
   | true =>
    rw[hm]at h;simp only[cond_true,aQ,a7]at h;obtain⟨h1,rfl⟩:=h;subst hb;rw[AW]at hm;simp only[ke,eW,ax,decide_eq_true_eq]at h1;have hg:=Cl y j.toNat (by omega);simp only[nE,h1.1,h1.2,and_self,if_true,gy,kF,if_false,agZ,oR,lv,hg]
  ·exact nO h
 ·exact nO h
theorem U1{op:UnOp}{x v:AV}{b:Bool}(h:Cz op x=some (b,v))(hb:b=true):qR op x=some v:=by
 unfold Cz at h;split at h
 ·simp only [aQ, a7] at h
  obtain⟨h1,rfl⟩:=h;subst hb;simp only[qR,pI h1]
 ·exact nO h
theorem U2{P:Program}{s d:TypeId}{x v:AV}{b:Bool}(h:CA P s d x=some (b,v))(hb:b=true):qS P s d x=some v:=by
 unfold CA at h;split at h
 ·rename_i k q
  simp only[aQ,a7]at h;obtain⟨h1,rfl⟩:=h;subst hb;simp only[qS,k,q,pI h1]
 ·exact nO h
theorem U3{P:Program}{r:Operand→AV}{o:Op}{b:Bool}{v:AV}(h:CB P r o=some (b,v))(hb:b=true):gS P r o=some v:=by
 cases o<;>simp only[CB]at h<;>try exact nO h
 case binOp=>simp only[gS]; exact UY h hb
 case indexAddr=>simp only[gS]; exact UZ h hb
 case index=>simp only[gS]; exact U0 h hb
 case slice=>simp only[gS]; exact UD h hb
 case unOp=>simp only[gS]; exact U1 h hb
 case convert=>simp only[gS]; exact U2 h hb
inductive Tree where
 |fail
 |done (x:bL) (s:al)
 |ask (b:Bool) (t e:Tree)
 |side (b:Bool) (t:Tree)
def Tree.holds(Q:bL→al→Prop):Tree→Prop
 |.fail=>False
 |.done x s=>Q x s
 |.ask b t e=>(b=true→t.holds Q)∧(b=false→e.holds Q)
 |.side b t=>b=true∧t.holds Q
structure ak where
 pf:FuncId→Bool
 T:FuncId→List AV→Option (Bool × AV)
 W:FuncId→List AV→List ah→Option (Bool × AV × List ah)
 C:FuncId→List AV→List ah→List Nat
 I:FuncId→List AV→List ah→Option Tree:=fun _ _ _=>none
 N:FuncId→Bool:=fun _=>false
 U:FuncId→Bool:=fun _=>true
structure aq (P:Program) (τ:ak):Prop where
 T:∀ f args b v,τ.T f args=some (b,v)→b=true→fc P f=true∧cR P f args v
 W:∀ f args H b v H',τ.W f args H=some (b,v,H')→b=true→fc P f=true∧dB P f args (aj H) v (aj H')
 C:∀ f args H b v H',τ.W f args H=some (b,v,H')→∀ A,A∉τ.C f args H→A<H.length→H'[A]? = H[A]?
 I:∀ f args H t,τ.I f args H=some t→∀ Q:bL→al→Prop,t.holds Q→fc P f=true∧∃ v H',dB P f args (aj H) v (aj H')∧(∀ A,A∉τ.C f args H→A<H.length→H'[A]? = H[A]?)∧Q .normal ⟨[v],H'⟩
 F:(∀ f,τ.U f=false→∀ args H,τ.W f args H=none∧τ.C f args H=[])∧∀ f,τ.N f=true→∀ args H b v H',τ.W f args H=some (b,v,H')→∀ id o,id<H.length→id∉τ.C f args H →
  τ.W f args (H.set id o)=some (b,v,H'.set id o)∧τ.C f args (H.set id o)=τ.C f args H
def Tree.uA(k:AV→List ah→Tree):Tree→Tree
 |.fail=>.fail
 |.done _ s=>k (s.fr.headD .undef) s.H
 |.ask b t e=>.ask b (t.uA k) (e.uA k)
 |.side b t=>.side b (t.uA k)
theorem Tree.xU{k:AV→List ah→Tree}{Q:bL→al→Prop}:∀{t:Tree},(t.uA k).holds Q→t.holds fun _ s=>(k (s.fr.headD .undef) s.H).holds Q
 |.fail,h=>h
 |.done _ _,h=>h
 |.ask _ t e,h=>⟨fun hb=>xU (t:=t) (h.1 hb),fun hb=>xU (t:=e) (h.2 hb)⟩
 |.side _ t,h=>⟨h.1,xU (t:=t) h.2⟩
inductive Want where
 |bad|yes|no
 |test (t:Tmp) (b:Bool) (want:Bool)
def nP(ops:Array Oper)(fr:List AV)(o:Oper):Want :=
 match o.guard with
 |none=>.yes
 | some (j,want)=>match (ops[j]?).bind (·.dst) with
  | some t=>match fr[t]? with
   |some (.lit (.bool b))=>.test t b want
   |some (.tuple [])=>.no
   |_=>.bad
  |none=>.bad
def xV:AV→Option Bool
 |.lit (.bool b)=>some b
 |_=>none
def uB(H:List ah):AV→Bool × AV
 | .vec w id ad off n=>match H[id]? with
  |some (.vec ks v rows)=>if ad=v∧ks.length=w∧off=0 then (ae n rows.length,.listF ks rows) else (true,.vec w id ad off n)
  |_=>(true,.vec w id ad off n)
 | .ptr id ad k row col=>match H[id]? with
  |some (.raw (.box cells))=>if ad=0∧row=0∧col=0∧AV.bl cells=true then (true,.cptr cells) else (true,.ptr id ad k row col)
  |_=>(true,.ptr id ad k row col)
 |a=>(true,a)
def pJ(H:List ah):List AV→Bool × List AV
 | []=>(true,[])
 | a::as=>match uB H a,pJ H as with
  |(b,h),(k,d)=>(b&&k,h::d)
def xW(H:List ah):AV→Bool × AV
 | .clo f caps=>match pJ H caps with
  |(b,d)=>(b,.clo f d)
 |a=>uB H a
def nQ(H:List ah):List AV→Bool × List AV
 | []=>(true,[])
 | a::as=>match xW H a,nQ H as with
  |(b,h),(k,d)=>(b&&k,h::d)
def xX:List AV→Bool
 | []=>true
 |.lit _::as=>xX as
 |_::_=>false
def xY:AV→Bool
 |.lit _=>true
 |.tuple vs=>xX vs
 |_=>false
def CC(P:Program)(r:Operand→AV)(H:List ah)(o:Op):Option AV :=
 match o with
 | .call c=>match c.callee,c.args.toList,c.argTypes.toList with
  | .builtin .len,[a],[t]=>match dc P t,r a with
   | some _,.map id=>match H[id]? with
    |some (.map _ _ rows _)=>some (.lit (.int .i64 rows.length))
    |_=>none
   |_,_=>none
  |_,_,_=>none
 |_=>none
theorem U4{P:Program}{r:Operand→AV}{H:List ah}{o:Op}{v:AV}(h:CC P r H o=some v):eL P r (aj H) o=some v:=by
 unfold CC at h;split at h
 ·rename_i c
  simp only[eL];split at h
  ·rename_i a t d ha k
   unfold nH;rw[d,ha,k];simp only[];split at h
   ·rename_i p id q hm
    rw[q,hm];simp only[];split at h
    ·rename_i K V rows cl hid
     cases h;rw[a_ hid];simp[ah.den,cS]
    ·cases h
   ·cases h
  ·cases h
 ·cases h
def CD(v:AV)(H:List ah):Option (Bool × AV × List ah) :=
 match v with
 | .vec w id ad off n=>match H[id]? with
  |some (.vec ks u rows)=>if ad=u∧off=0∧w=ks.length then some (ae n rows.length,.listF ks rows,H.set id (.raw .dead)) else none
  |_=>none
 |_=>none
def uC(P:Program)(r:Operand→AV)(H:List ah):Op→Option (Bool × List ah)
 | .store t a x=>match CD (r x) H with
  | some (b0,v1,H1)=>match rA P t (r a) v1 H1 with
   |some (b1,H')=>some (b0&&b1,H')
   |none=>none
  |none=>none
 |_=>none
theorem U5{P:Program}{r:Operand→AV}{H H':List ah}{o:Op}{b:Bool}(h:uC P r H o=some (b,H'))(hb:b=true):ra P r (aj H) .undef (aj H') o:=by
 unfold uC at h;split at h
 case h_2=>cases h
 rename_i t a x;split at h
 case h_2=>cases h
 rename_i b0 v1 H1 d;split at h
 case h_2=>cases h
 rename_i b1 H2 q;simp only[aQ,a7]at h;obtain⟨h1,rfl⟩:=h;subst hb;simp only[ax]at h1;unfold CD at d;split at d
 case h_2=>cases d
 rename_i w id ad off n v;split at d
 case h_2=>cases d
 rename_i ks u rows hid;split at d
 case isFalse=>cases d
 rename_i y;obtain⟨rfl,rfl,rfl⟩:=y;simp only[aQ,a7]at d;obtain⟨k,rfl,rfl⟩:=d;rw[h1.1]at k;have k:=bk k;subst k;refine⟨.listF ks rows,(aj H).set id .dead,⟨id,ad,ks,rows,v,?_,rfl,rfl⟩,?_,rfl⟩
 ·rw [a_ hid]
  rfl
 ·have := Jr q h1.2
  rw[c5]at this;exact this
def nR(P:Program)(τ:ak)(o:Oper)(s:al)(k:AV→List ah→Tree):Tree :=
 match o.op with
 | .pick c a b=>match xV (s.eval c) with
  |some t=>.ask t (k (s.eval a) s.H) (k (s.eval b) s.H)
  |none=>.fail
 | .load t a=>match Cm P t (s.eval a) s.H with
  |some (b,v)=>.side b (k v s.H)
  |none=>.fail
 | .lookup t m x ok=>match Cq P t (s.eval m) (s.eval x) ok s.H with
  | some (b,v)=>match cL τ.pf o.op,ok with
   |.read,_=>.side b (k v s.H)
   |.write,false=>.side b (k v s.H)
   |_,_=>.fail
  | none=>match cL τ.pf o.op with
   | .write=>match rK P s.eval s.H o.op with
    |some (b,v,H')=>.side b (k v H')
    |none=>.fail
   | .read=>match Cu P t (s.eval m) (s.eval x) ok s.H with
    |some (b,v)=>.side b (k v s.H)
    |none=>.fail
   |.pure=>.fail
 | _=>match cL τ.pf o.op with
  | .read=>match CC P s.eval s.H o.op with
   |some v=>k v s.H
   |none=>.fail
  | .pure=>match iq s.eval o.op with
   | some (f,args)=>match τ.T f args with
    |some (b,v)=>.side b (k v s.H)
    |none=>.fail
   | none=>match CB P s.eval o.op with
    |some (b,v)=>.side b (k v s.H)
    |none=>.fail
  | .write=>match iq s.eval o.op with
   | some (f,args)=>match τ.W f args s.H with
    |some (b,v,H')=>.side b (k v H')
    | none=>match τ.I f args s.H with
     |some t=>t.uA k
     | none=>match τ.T f args with
      |some (b,v)=>.side b (k v s.H)
      | none=>match nQ s.H args with
       | (h,d)=>match τ.T f d with
        | some (b,v)=>match xY v&&AV.bl d with
         |true=>.side (h&&b) (k v s.H)
         |false=>.fail
        |none=>.fail
   | none=>match rK P s.eval s.H o.op with
    |some (b,v,H')=>.side b (k v H')
    | none=>match uC P s.eval s.H o.op with
     |some (b,H')=>.side b (k .undef H')
     |none=>.fail
def al.slot(s:al)(t:Tmp)(b:Bool):al:=⟨s.fr.set t (.lit (.bool b)),s.H⟩
def CE(P:Program)(τ:ak)(ops:Array Oper)(o:Oper)(s:al)(k:al→Tree):Tree :=
 match nP ops s.fr o with
 |.bad=>.fail
 |.no=>k (s.put o.dst (.tuple []) s.H)
 |.yes=>nR P τ o s fun v H'=>k (s.put o.dst v H')
 | .test t b want=>.ask b
   (match want with
    |true=>nR P τ o (s.slot t true) fun v H'=>k ((s.slot t true).put o.dst v H')
    |false=>k ((s.slot t true).put o.dst (.tuple []) s.H))
   (match want with
    |true=>k ((s.slot t false).put o.dst (.tuple []) s.H)
    |false=>nR P τ o (s.slot t false) fun v H'=>k ((s.slot t false).put o.dst v H'))
def lM(P:Program)(τ:ak)(ops:Array Oper):List Oper→al→(al→Tree)→Tree
 | [],s,k=>k s
 |o::rest,s,k=>CE P τ ops o s fun s1=>lM P τ ops rest s1 k
def fw:AV→Option Nat
 |.ptr id _ _ _ _=>some id
 |.vec _ id _ _ _=>some id
 |.map id=>some id
 |.sub id _ _=>some id
 |_=>none
def jJ(τ:ak)(r:Operand→AV)(H:List ah)(op:Op):List Nat :=
 match iq r op with
 |some (f,args)=>τ.C f args H
 |none=>op.operands.toList.filterMap fun x=>fw (r x)
structure Acc where
 R:ji
 W:iu
def uD(ids:List Nat)(i:Nat):Bool := !ids.any (ae i)
def CF(ops:Array Oper)(j id:Nat)(acc:Acc):Option Acc :=
 match acc.W.all fun e=>waits ops ops.size j e.1||(uD e.2.1 id&&er id e.2.2)with
 |true=>some ⟨(j,id)::acc.R,acc.W⟩
 |false=>none
def xZ(ops:Array Oper)(j:Nat)(T:List Nat)(n:Nat)(acc:Acc):Option Acc :=
 match acc.R.all fun e=>waits ops ops.size j e.1||(uD T e.2&&er e.2 n)with
 | true=>match acc.W.all fun e=>waits ops ops.size j e.1||((T.all fun id=>uD e.2.1 id&&er id e.2.2)&&e.2.1.all fun id=>er id n) with
  |true=>some ⟨acc.R,(j,T,n)::acc.W⟩
  |false=>none
 |false=>none
def CG(τ:ak)(ops:Array Oper)(j:Nat)(o:Oper)(s:al)(acc:Acc):Option Acc :=
 match cL τ.pf o.op with
 |.pure=>some acc
 | .read=>match kV s.eval o.op with
  |some id=>CF ops j id acc
  |none=>some acc
 |.write=>xZ ops j (jJ τ s.eval s.H o.op) s.H.length acc
def gZ:Kd→Value→Option G
 |.int k,.int k' n=>if k=k' then some (.i n) else none
 |.str,.string s=>some (.s s)
 |.bool,.bool b=>some (.t b)
 |.list _,.slice none 0 0=>some (.l [])
 |_,_=>none
def rM:List Kd→List Value→Option (List G)
 | [],[]=>some []
 | k::ks,v::z=>match gZ k v,rM ks z with
  |some g,some gs=>some (g::gs)
  |_,_=>none
 |_,_=>none
def mK:Kd→Option (List Kd)
 |.list ks=>some ks
 |_=>none
def mZ:List Kd→List (Option (List Kd)):=List.map mK
theorem U6{k:Kd}{v:Value}{g:G}(h:gZ k v=some g):iK k g=zc (mK k) v:=by
 cases k with
 | int k =>
  cases v with
  | int k' n =>
   simp only[gZ]at h;by_cases e:k=k'
   ·rw [if_pos e] at h
    cases h;subst e;rfl
   ·rw [if_neg e] at h
    cases h
  |_=>cases h
 |str=>cases v<;>first|(cases h; rfl)|cases h
 |bool=>cases v<;>first|(cases h; rfl)|cases h
 | list ks =>
  cases v with
  |slice b n c=>cases b<;>cases n<;>cases c<;>first|(cases h; rfl)|cases h
  |_=>cases h
theorem JI:∀{ks:List Kd} {z:List Value} {g:List G},rM ks z=some g→aH ks g=dS (mZ ks) z
 | [],[],g,h=>by cases h; rfl
 | [],_::_,g,h=>by cases h
 |_::_,[],g,h=>by cases h
 | k::ks,v::z,g,h=>by
  simp only[rM]at h;split at h
  ·rename_i g0 gs h1 d
   cases h;have q:=JI d;simp only[aH,wS,List.tail_cons,q,U6 h1];rfl
  ·cases h
def pK(z:List Value):List ah→Nat→Option (Nat × List Kd × List G)
 | [],_=>none
 | .vec ks 0 rows::H,i=>match rM ks z with
  | some g=>match rows with
   | []=>some (i,ks,g)
   |_::_=>pK z H (i+1)
  |none=>pK z H (i+1)
 |_::H,i=>pK z H (i+1)
def uE:List ah→Nat→Option Nat
 | [],_=>none
 |.raw .dQ::_,i=>some i
 |_::H,i=>uE H (i+1)
def U7(P:Program)(t:TypeId):Option (Ct × Ct) :=
 match dc P t with
 | some (h,d)=>match nM P h,nM P d with
  |some (K,_),some (V,_)=>some (K,V)
  | some (K,_),none=>match dc P d with
   |some _=>some (K,K)
   |none=>none
  |_,_=>none
 |none=>none
def CH(P:Program)(op:Op)(H:List ah):Option (Nat × AV × List ah) :=
 match op with
 | .alloc t=>match d_ P t with
  | some z=>match pK z H 0 with
   |some (id,ks,g)=>some (id,.ptr id 1 ks.length 0 0,H.set id (.vec ks 1 [g]))
   |none=>none
  |none=>none
 | .makeMap t none=>match U7 P t with
  | some (K,V)=>match uE H 0 with
   |some id=>some (id,.map id,H.set id (.map K V [] 0))
   |none=>none
  |none=>none
 |_=>none
def CI(τ:ak)(o:Oper)(s:al):Bool:=match cL τ.pf o.op with
 | .write=>match iq s.eval o.op with
  | some (f,args)=>match τ.N f with
   |true=>(τ.W f args s.H).isSome
   |false=>false
  |none=>false
 |_=>true
def uF(P:Program)(τ:ak)(ops:Array Oper)(j:Nat)(o:Oper)(s:al)(acc:Acc)(k:al→Acc→Tree):Tree :=
 match mH ops&&eb o.op with
 | true=>match CH P o.op s.H with
  | some (id,v,H')=>match xZ ops j [id] s.H.length acc with
   |some d=>k (s.put o.dst v H') d
   |none=>.fail
  |none=>.fail
 | false=>match nI ops&&ka o.op && !CI τ o s with
  |true=>.fail
  | false=>match CG τ ops j o s acc with
   |some d=>nR P τ o s fun v H'=>k (s.put o.dst v H') d
   |none=>.fail
def CJ(P:Program)(τ:ak)(ops:Array Oper)(j:Nat)(o:Oper)(s:al)(acc:Acc)(k:al→Acc→Tree):Tree :=
 match nP ops s.fr o with
 |.bad=>.fail
 |.no=>k (s.put o.dst (.tuple []) s.H) acc
 |.yes=>uF P τ ops j o s acc k
 | .test t b want=>.ask b
   (match want with
    |true=>uF P τ ops j o (s.slot t true) acc k
    |false=>k ((s.slot t true).put o.dst (.tuple []) s.H) acc)
   (match want with
    |true=>k ((s.slot t false).put o.dst (.tuple []) s.H) acc
    |false=>uF P τ ops j o (s.slot t false) acc k)
def CK(P:Program)(τ:ak)(ops:Array Oper):List Oper→Nat→al→Acc→(al→Tree)→Tree
 | [],_,s,_,k=>k s
 |o::rest,j,s,acc,k=>CJ P τ ops j o s acc fun s1 d=>CK P τ ops rest (j+1) s1 d k
def JJ(k:al→Tree)(K:bL→al→Tree):bL→al→Tree
 |.normal,s=>k s
 |x,s=>K x s
def JK(id:Nat)(K:bL→al→Tree):bL→al→Tree
 |.exit i,s=>if i=id then K .normal s else K (.exit i) s
 |x,s=>K x s
def Tree.bind(K:bL→al→Tree):Tree→Tree
 |.fail=>.fail
 |.done x s=>K x s
 |.ask b t e=>.ask b (t.bind K) (e.bind K)
 |.side b t=>.side b (t.bind K)
def k8:Code→Option Nat
 |.region id _ _=>some id
 | .seq a b=>match k8 a with
  |some i=>some i
  |none=>k8 b
 |.block _ c=>k8 c
 | .cond _ a b=>match k8 a with
  |some i=>some i
  |none=>k8 b
 |.loop c=>k8 c
 |_=>none
def pL:Code→Nat
 | .seq a b=>match k8 a with
  |some _=>pL a
  |none=>pL b
 |.block _ c=>pL c
 | .cond _ a b=>match k8 a with
  |some _=>pL a
  |none=>pL b
 |.loop c=>pL c+1
 |_=>0
def JL(c:Code):Option Nat:=match k8 c with
 |some i=>some (i+1000*pL c)
 |none=>none
def bM:Code→List (Nat × Code)
 |.seq a b=>bM a++bM b
 |.cond _ a b=>bM a++bM b
 |.block _ c=>bM c
 | .loop c=>match JL c with
  |some k=>(k,c)::bM c
  |none=>bM c
 |_=>[]
def U8(k:al→Tree)(K:bL→al→Tree):bL→al→Tree
 |.normal,s=>k s
 |.exit i,s=>K (.exit i) s
 |.ret,s=>K .ret s
def x2(body:al→(bL→al→Tree)→Tree):Nat→al→(bL→al→Tree)→Tree
 |0,_,_=>.fail
 |n+1,s,K=>body s (U8 (fun s'=>x2 body n s' K) K)
def bI:Code→List (Nat × Code)
 | .seq a b=>bI a++((match k8 b with
  |some k=>[(k,b)]
  |none=>[])++bI b)
 |.cond _ a b=>bI a++bI b
 |.block _ c=>bI c
 |.loop c=>bI c
 |_=>[]
structure LT where
 loops:Nat→al→Option Tree
 pre:Nat→al→Bool × al
 uG:Nat→al→Option Tree
def JM(L:LT)(k:Option Nat)(s:al):Option Tree :=
 match k with
 |some i=>L.uG i s
 |none=>none
def ed(P:Program)(τ:ak)(L:LT):Code→al→(bL→al→Tree)→Tree
 |.skip,s,K=>K .normal s
 | .region id ops draw,s,K=>match draw && !rb τ.pf ops with
  | true=>match ry τ.pf ops with
   |true=>.side (L.pre id s).1 (CK P τ ops ops.toList 0 (L.pre id s).2 ⟨[],[]⟩ (K .normal))
   |false=>.fail
  |false=>.side (L.pre id s).1 (lM P τ ops ops.toList (L.pre id s).2 (K .normal))
 | .seq a b,s,K=>ed P τ L a s (JJ (fun s1=>match JM L (k8 b) s1 with
  |some t=>t.bind K
  |none=>ed P τ L b s1 K) K)
 | .cond c a b,s,K=>match xV (s.eval c) with
  |some t=>.ask t (ed P τ L a s K) (ed P τ L b s K)
  |none=>.fail
 |.block id c,s,K=>ed P τ L c s (JK id K)
 | .loop c,s,K=>match JL c with
  | some i=>match L.loops i s with
   |some t=>t.bind K
   |none=>x2 (fun s1 d=>ed P τ L c s1 d) 400 s K
  |none=>.fail
 |.exit id,s,K=>K (.exit id) s
 |.ret,s,K=>K .ret s
 |_,_,_=>.fail
def JN(P:Program)(m:Nat)(c:Code)(s:al)(t:Tree):Prop:=∀ Q:bL→al→Prop,t.holds Q→∃ x s',j_ P m c s.den x s'.den∧Q x s'
def x3(P:Program)(m:Nat)(c:Code)(s:al)(t:Tree):Prop:=∀ Q:bL→al→Prop,t.holds Q→∃ x s',cM P m c s.den x s'.den∧Q x s'
def aA(P:Program)(m:Nat)(L:LT)(c:Code):Prop:=(∀ k d,(k,d)∈bM c→∀ s t,L.loops k s=some t→JN P m d s t)∧(∀ id s,(L.pre id s).1=true→be m s.den (L.pre id s).2.den) ∧
 ∀ k d,(k,d)∈bI c→∀ s t,L.uG k s=some t→x3 P m d s t
theorem aA.sub{P:Program}{m:Nat}{L:LT}{c q:Code}(h:aA P m L c)(h1:∀ p,p∈bM q→p∈bM c)(u:∀ p,p∈bI q→p∈bI c):aA P m L q :=
 ⟨fun k d hk=>h.1 k d (h1 _ hk),h.2.1,fun k d hk=>h.2.2 k d (u _ hk)⟩
theorem JO{a:AV}{b:Bool}(h:xV a=some b):a=.lit (.bool b):=by
 unfold xV at h;split at h
 ·cases h; rfl
 ·cases h
theorem JP{E E':Env}:∀{vs:List AV} {us:List Value},xX vs=true→af E vs us→af E' vs us
 | [],[],_,_=>by simp[af]
 | [],_::_,_,h=>by simp[af]at h
 | a::vs,us,d,h=>by
  unfold xX at d;split at d
  ·rename_i heq; cases heq
  ·rename_i heq
   cases heq;cases us with
   |nil=>simp[af]at h
   | cons u us =>
    simp only[af,rel]at h⊢;exact⟨h.1,JP d h.2⟩
  ·cases d
theorem U9{E E':Env}{v:AV}{u:Value}(d:xY v=true)(h:rel E v u):rel E' v u:=by
 unfold xY at d;split at d
 ·simpa only[rel]using h
 ·simp only [rel] at h ⊢
  obtain⟨cs,e,k⟩:=h;exact⟨cs,e,JP d k⟩
 ·cases d
def Env.bare(E:Env)(w:World):Env:={ w:=w,H:=[],loc:=[],X:=E.X.re dK }
theorem x4{E:Env}{w:World}(b:Nat):¬ (E.bare w).own b:=by rintro(⟨id,c,h⟩|⟨l,k,c,h⟩); simp[Env.bare]at h; simp[Env.bare,dK]at h
theorem nS(E:Env):E.bF (E.bare E.w):=⟨fun b hb=>⟨⟨hb.1,x4 b,hb.2.2⟩,rfl⟩⟩
theorem U_{E:Env}(HE:ar E):ar (E.bare E.w):=by
 refine⟨rfl,?_,?_,HE.X,?_,HE.fb.bF (nS E),fun l k l' k' b m n hk=>by simp[Env.bare,dK]at hk,fun i b m l k n hi=>by simp[Env.bare]at hi,fun l k b m hk=>by simp[Env.bare,dK]at hk,fun i j o o' l hi=>by simp[Env.bare]at hi,fun l _ k q hk=>by simp[Env.bare,dK]at hk⟩
 ·intro i j b m n hi; simp[Env.bare]at hi
 ·intro i b m hi; simp[Env.bare]at hi
 ·intro i o hi; simp[Env.bare]at hi
theorem JQ{E:Env}(HE:ar E){H:List ah}(hH:E.H=aj H){id ad n w:Nat}{ks:List Kd}{rows:List (List G)}{c:Value}
  (hid:H[id]? = some (.vec ks ad rows)) (hw:ks.length=w) (u:n=rows.length) (hr:rel E (.vec w id ad 0 n) c):rel (E.bare E.w) (.listF ks rows) c:=by
 subst hw u;have d:E.H[id]? = some (.vec ks.length ad (rows.map (aH ks))):=by rw[hH]; exact a_ hid
 have ho:=HE.obj id _ d;rw[iN];simp only[rel]at hr⊢;obtain⟨⟨base,cap,rfl,q,_⟩,_,v⟩:=hr;obtain⟨J,y⟩:=v ⟨_,d,rfl⟩;have h:eS (rows.map (aH ks)):=by
  intro r hr;obtain⟨g,_,rfl⟩:=cV.1 hr;exact fG ks g
 refine⟨h,base,cap,by simp,by simpa using q,?_⟩;simp only[aJ]at ho;rcases ho with⟨h1,k⟩|⟨b,m,h1,k,B,_,I⟩
 ·exact .inl k
 ·obtain ⟨g1, o, g2, g3⟩ := y b m h1
  by_cases hm:rows=[]
  ·subst hm; exact .inl rfl
  ·right
   have:0<rows.length:=by cases rows with|nil=>exact(hm rfl).elim|cons _ _=>simp
   simp at B;have ho:=g2 (by omega);simp at ho;subst ho;simp only[jT]at g3;refine⟨b,0,g3.1,⟨(HE.lt id b m h1).1,x4 b,(HE.lt id b m h1).2⟩,?_⟩;exact kO (nS E) _ h rfl I
theorem U'{E:Env}(HE:ar E){H:List ah}(hH:E.H=aj H){id k:Nat}{cells:List AV}{c:Value} (hid:H[id]? = some (.raw (.box cells))) (h:AV.bl cells=true)
  (hr:rel E (.ptr id 0 k 0 0) c):rel (E.bare E.w) (.cptr cells) c:=by
 have d:E.H[id]? = some (.box cells):=by rw[hH]; exact a_ hid
 have ho:=HE.obj id _ d;simp only[aJ]at ho;obtain⟨b,n,h1,v,q⟩:=ho;simp only[rel]at hr⊢;obtain⟨_,_,u⟩:=hr;obtain⟨y,B,g1,g2⟩:=u ⟨_,d,rfl⟩;rw[h1]at g1;simp only[aQ,a7]at g1;obtain⟨rfl,rfl⟩:=g1;refine⟨h,b,0,by rw[g2]; simp,⟨(HE.lt id b n h1).1,x4 b,(HE.lt id b n h1).2⟩,?_⟩;exact qG (nS E) cells h rfl q
theorem JR{E:Env}(HE:ar E){H:List ah}(hH:E.H=aj H){a q:AV}{b:Bool}{c:Value}(h:uB H a=(b,q))(hb:b=true)(d:q.closed=true)(hr:rel E a c):rel (E.bare E.w) q c:=by
 unfold uB at h;split at h
 ·split at h
  ·rename_i w id ad off n ks v rows hid
   split at h
   ·rename_i u
    obtain⟨rfl,y,rfl⟩:=u;simp only[a7]at h;obtain⟨h1,rfl⟩:=h;subst hb;exact JQ HE hH hid y (bk h1) hr
   ·cases h; simp[AV.closed]at d
  ·cases h; simp[AV.closed]at d
 ·split at h
  ·rename_i id ad k row col _ cells hid
   split at h
   ·rename_i u
    obtain⟨rfl,rfl,rfl,B⟩:=u;cases h;exact U' HE hH hid B hr
   ·cases h; simp[AV.closed]at d
  ·cases h; simp[AV.closed]at d
 ·cases h
  exact dL (nS E) _ d hr
theorem JS{E:Env}(HE:ar E){H:List ah}(hH:E.H=aj H):∀{as d:List AV} {b:Bool} {cs:List Value},pJ H as=(b,d)→b=true→AV.bl d=true→af E as cs →
  af (E.bare E.w) d cs
 | [],d,b,cs,h,_,_,hr=>by
  simp only[pJ]at h;cases h;cases cs with
  |nil=>simp[af]
  |cons _ _=>simp[af]at hr
 | a::as,d,b,cs,h,hb,k,hr=>by
  cases cs with
  |nil=>simp[af]at hr
  | cons c cs =>
   simp only[af]at hr;cases q:uB H a with
   |mk b1 y =>
   cases u:pJ H as with
   |mk B v =>
   simp only[pJ,q,u,a7]at h;obtain⟨h1,rfl⟩:=h;subst h1;simp only[ax]at hb;simp only[AV.bl,ax]at k;simp only[af];exact⟨JR HE hH q hb.1 k.1 hr.1,JS HE hH u hb.2 k.2 hr.2⟩
theorem Va{E:Env}(HE:ar E){H:List ah}(hH:E.H=aj H){a d:AV}{b:Bool}{c:Value}(h:xW H a=(b,d))(hb:b=true)(k:d.closed=true)(hr:rel E a c):rel (E.bare E.w) d c:=by
 unfold xW at h;split at h
 ·rename_i f caps
  cases q:pJ H caps with
  |mk b1 v =>
  rw[q]at h;cases h;simp only[rel]at hr⊢;obtain⟨cs,e,u⟩:=hr;exact⟨cs,e,JS HE hH q hb (by simpa only[AV.closed]using k) u⟩
 ·exact JR HE hH h hb k hr
theorem JT{E:Env}(HE:ar E){H:List ah}(hH:E.H=aj H):∀{as d:List AV} {b:Bool} {cs:List Value},nQ H as=(b,d)→b=true→AV.bl d=true→af E as cs →
  af (E.bare E.w) d cs
 | [],d,b,cs,h,_,_,hr=>by
  simp only[nQ]at h;cases h;cases cs with
  |nil=>simp[af]
  |cons _ _=>simp[af]at hr
 | a::as,d,b,cs,h,hb,k,hr=>by
  cases cs with
  |nil=>simp[af]at hr
  | cons c cs =>
   simp only[af]at hr;cases q:xW H a with
   |mk b1 y =>
   cases u:nQ H as with
   |mk B v =>
   simp only[nQ,q,u,a7]at h;obtain⟨h1,rfl⟩:=h;subst h1;simp only[ax]at hb;simp only[AV.bl,ax]at k;simp only[af];exact⟨Va HE hH q hb.1 k.1 hr.1,JT HE hH u hb.2 k.2 hr.2⟩
theorem Vb{P:Program}{f:FuncId}{args d:List AV}{H:List ah}{b:Bool}{v:AV}(u:cR P f d v)(y:nQ H args=(b,d))(hb:b=true)(q:AV.bl d=true)
  (B:xY v=true):dB P f args (aj H) v (aj H):=by
 intro E cargs hH HE k;refine(u [] (E.bare E.w) cargs rfl (U_ HE) (JT HE hH y hb q k)).mono ?_;rintro _ w' ⟨c,I,H',rfl,⟨rfl,rfl⟩,M,r',g1,g2,g3⟩;have h:Ext E.w w':=⟨g3.size,fun x J=>g3.same x J (x4 x),g3.env⟩
 refine⟨c,I,aj H,rfl,⟨rfl,rfl⟩,E.loc,E.X.r,U9 B g1,?_,?_⟩
 ·rw[←hH]; exact HE.ext h
 ·rw[←hH]; exact Env.jd h
section sound
variable {P:Program} {τ:ak}
theorem CL{ops:Array Oper}{o:Oper}{s:al}{v:AV}(hw:bQ ops s.fr o=some true)(d:cL τ.pf o.op=.pure)
  (h:gS P s.eval o.op=some v∨∃ f args,iq s.eval o.op=some (f,args)∧fc P f=true∧cR P f args v):Yields P τ.pf ops o s.den v (aj s.H):=by
 unfold Yields;rw[show s.den.fr=s.fr from rfl,hw];simp only[d,al.kY];exact⟨rfl,h⟩
theorem pM{ops:Array Oper}{o:Oper}{s:al}{v:AV}{H':List ab}(hw:bQ ops s.fr o=some true)(d:cL τ.pf o.op=.write)
  (h:c_ P s.eval (aj s.H) o.op=some (v,H')∨∃ f args,iq s.eval o.op=some (f,args)∧fc P f=true∧dB P f args (aj s.H) v H'):Yields P τ.pf ops o s.den v H':=by
 unfold Yields;rw[show s.den.fr=s.fr from rfl,hw];simp only[d,al.kY];exact .inl h
/-! ### d h operation leaves alone -/
theorem gj{H:List ah}{id A:Nat}{o:ah}(h:A≠id):(H.set id o)[A]? = H[A]? := aR (Ne.symm h)
theorem jK{H:List ah}{A:Nat}{o:ah}(h:A<H.length):(H++[o])[A]? = H[A]? := cK h
theorem JU{P:Program}{t:TypeId}{x v:AV}{H H':List ah}{b:Bool}{A:Nat}(h:rA P t x v H=some (b,H'))(d:fw x≠some A):H'[A]? = H[A]? := by
 unfold rA at h;split at h
 case h_2=>cases h
 rename_i n q cs id ad w row col u k;have aw:A≠id:=fun e=>d (by rw[e]; rfl);split at h
 case isFalse=>cases h
 split at h
 ·split at h
  ·split at h
   ·cases h; exact gj aw
   ·cases h
  ·split at h
   ·cases h; exact gj aw
   ·cases h
 ·split at h
  ·split at h
   ·cases h; exact gj aw
   ·cases h
  ·cases h
 ·cases h
theorem Vc{P:Program}{t xt:TypeId}{s x v:AV}{H H':List ah}{b:Bool}{A:Nat}(h:ui P t xt s x H=some (b,v,H'))(d:A<H.length)(k:fw s≠some A):H'[A]? = H[A]? := by
 unfold ui at h;split at h
 case h_2=>cases h
 split at h
 case h_2=>cases h
 split at h
 case isFalse=>cases h
 split at h
 ·split at h
  ·split at h
   ·cases h; exact jK d
   ·cases h
  ·cases h
 ·split at h
  ·split at h
   ·cases h; exact jK d
   ·cases h
  ·cases h
 ·split at h
  ·split at h
   ·split at h
    ·cases h; exact gj fun e=>k (by rw[e]; rfl)
    ·cases h
   ·cases h
  ·cases h
 ·cases h
theorem Vd{P:Program}{t xt:TypeId}{s x v:AV}{H H':List ah}{b:Bool}{A:Nat}(h:uw P t xt s x H=some (b,v,H'))(d:A<H.length):H'[A]? = H[A]? := by
 unfold uw at h;split at h
 case h_2=>cases h
 split at h
 case h_2=>cases h
 split at h
 case h_2=>cases h
 split at h
 case h_2=>cases h
 split at h
 ·cases h; exact jK d
 ·cases h
theorem Ve{P:Program}{t:TypeId}{x:AV}{H H':List ah}{b:Bool}{A:Nat}(h:uv P t x H=some (b,H'))(d:fw x≠some A):H'[A]? = H[A]? := by
 unfold uv at h;split at h
 case h_2=>cases h
 split at h
 case h_2=>cases h
 split at h
 case h_2=>cases h
 split at h
 ·cases h; exact gj fun e=>d (by rw[e]; rfl)
 ·cases h
theorem JV{P:Program}{t:TypeId}{m k v:AV}{H H':List ah}{b:Bool}{A:Nat}(h:rD P t m k v H=some (b,H'))(d:fw m≠some A):H'[A]? = H[A]? := by
 unfold rD at h;split at h
 case h_2=>cases h
 split at h
 case h_2=>cases h
 split at h
 case h_2=>cases h
 split at h
 ·cases h; exact gj fun e=>d (by rw[e]; rfl)
 ·cases h
theorem Vf{P:Program}{t:TypeId}{m k v:AV}{H H':List ah}{b:Bool}{A:Nat}(h:uo P t m k v H=some (b,H'))(d:fw m≠some A)(q:fw v≠some A):H'[A]? = H[A]? := by
 unfold uo at h;split at h
 case h_2=>cases h
 split at h
 case h_2=>cases h
 split at h
 case h_2=>cases h
 split at h
 ·cases h
  rw[gj fun e=>q (by rw[e]; rfl)];exact gj fun e=>d (by rw[e]; rfl)
 ·cases h
theorem Vg{P:Program}{t:TypeId}{m k v:AV}{H H':List ah}{b:Bool}{A:Nat}(h:ux P t m k v H=some (b,H'))(d:fw m≠some A):H'[A]? = H[A]? := by
 unfold ux at h;split at h
 case h_2=>cases h
 split at h
 case h_2=>cases h
 split at h
 case h_2=>cases h
 split at h
 ·cases h
  exact gj fun e=>d (by rw[e]; rfl)
 ·cases h
theorem Vh{P:Program}{t:TypeId}{m k v:AV}{H H':List ah}{b:Bool}{A:Nat}(h:uy P t m k H=some (b,v,H'))(d:fw m≠some A):H'[A]? = H[A]? := by
 unfold uy at h;split at h
 case h_2=>cases h
 split at h
 case h_2=>cases h
 split at h
 case h_2=>cases h
 split at h
 ·cases h
  exact gj fun e=>d (by rw[e]; rfl)
 ·cases h
theorem Vi{m s v:AV}{H H':List ah}{b:Bool}{A:Nat}(h:uz m s v H=some (b,H'))(d:fw m≠some A)(k:fw v≠some A):H'[A]? = H[A]? := by
 unfold uz at h;split at h
 case h_2=>cases h
 split at h
 case h_2=>cases h
 split at h
 ·cases h
  rw[gj fun e=>k (by rw[e]; rfl)];exact gj fun e=>d (by rw[e]; rfl)
 ·cases h
theorem Vj{P:Program}{t:TypeId}{m k v:AV}{H H':List ah}{b:Bool}{A:Nat}(h:um P t m k H=some (b,v,H'))(d:A<H.length)(q:fw m≠some A):H'[A]? = H[A]? := by
 unfold um at h;split at h
 case h_2=>cases h
 split at h
 case h_2=>cases h
 split at h
 case h_2=>cases h
 split at h
 ·cases h
  rw[jK (by simpa using d)];exact gj fun e=>q (by rw[e]; rfl)
 ·cases h
theorem Vk{m s v:AV}{H H':List ah}{b:Bool}{A:Nat}(h:ur m s v H=some (b,H'))(d:fw m≠some A)(k:fw v≠some A):H'[A]? = H[A]? := by
 unfold ur at h;split at h
 case h_2=>cases h
 split at h
 case h_2=>cases h
 split at h
 ·cases h
  rw[gj fun e=>k (by rw[e]; rfl)];exact gj fun e=>d (by rw[e]; rfl)
 ·cases h
theorem Vl{P:Program}{t:TypeId}{m k v:AV}{H H':List ah}{b:Bool}{A:Nat}(h:uq P t m k H=some (b,v,H'))(d:A<H.length)(q:fw m≠some A):H'[A]? = H[A]? := by
 unfold uq at h;split at h
 case h_2=>cases h
 split at h
 case h_2=>cases h
 split at h
 case h_2=>cases h
 split at h
 ·cases h
  rw[jK (by simpa using d)];exact gj fun e=>q (by rw[e]; rfl)
 ·cases h
theorem Vm{P:Program}{t:TypeId}{m k:AV}{H H':List ah}{b:Bool}{A:Nat}(h:uu P t m k H=some (b,H'))(d:fw m≠some A):H'[A]? = H[A]? := by
 unfold uu at h;split at h
 case h_2=>cases h
 split at h
 case h_2=>cases h
 split at h
 ·cases h; exact gj fun e=>d (by rw[e]; rfl)
 ·cases h
theorem Vn{P:Program}{t:TypeId}{l c v:AV}{H H':List ah}{b:Bool}{A:Nat}(h:uj P t l c H=some (b,v,H'))(d:A<H.length):H'[A]? = H[A]? := by
 unfold uj at h;split at h
 case h_2=>cases h
 split at h
 case h_2=>cases h
 split at h
 case h_2=>cases h
 split at h
 case h_2=>cases h
 split at h
 ·cases h; exact jK d
 ·cases h
theorem Vo{P:Program}{t:TypeId}{n:Nat}{parts:List (Nat × AV)}{v:AV}{H H':List ah}{b:Bool}{A:Nat}(h:uk P t n parts H=some (b,v,H'))(d:A<H.length):H'[A]? = H[A]? := by
 unfold uk at h;split at h
 case h_2=>cases h
 split at h
 case h_2=>cases h
 split at h
 case h_2=>cases h
 split at h
 case h_2=>cases h
 split at h
 case h_2=>cases h
 split at h
 ·cases h; exact jK d
 ·cases h
theorem JW{P:Program}{r:Operand→AV}{H H':List ah}{o:Op}{v:AV}{b:Bool}{A:Nat}(h:rK P r H o=some (b,v,H'))(q:A<H.length)(N:A∉o.operands.toList.filterMap fun x=>fw (r x)):H'[A]? = H[A]? := by
 have no:∀ x∈o.operands.toList,fw (r x)≠some A:=fun x u e=>N (Ha.2 ⟨x,u,e⟩);cases o<;>simp only[rK]at h<;>try cases h
 case alloc t =>
  split at h
  ·split at h
   ·cases h; exact jK q
   ·cases h
  ·split at h
   ·cases h; exact jK q
   ·cases h
 case box t x =>
  split at h
  ·cases h; exact jK q
  ·cases h
 case store t a x =>
  split at h
  ·rename_i B H1 d
   cases h;exact JU d (no a (by simp[fa]))
  ·cases h
 case makeSlice t l c=>exact Vn h q
 case buildSlice t n ps=>exact Vo h q
 case range t x =>
  split at h
  ·cases h; exact jK q
  ·cases h
 case next it isString =>
  cases isString with
  |false=>cases h
  | true =>
   simp only[]at h;split at h
   ·rename_i id k u
    split at h
    ·split at h
     ·cases h; exact gj fun e=>no it (by simp[fa]) (by rw[u,e]; rfl)
     ·cases h; rfl
    ·cases h
   ·cases h
 case makeMap t res =>
  cases res with
  |some _=>cases h
  | none =>
   simp only[]at h;split at h
   ·split at h
    ·cases h; exact jK q
    ·split at h
     ·cases h; exact jK q
     ·cases h
    ·cases h
   ·cases h
 case mapUpdate t m k x =>
  split at h
  ·rename_i B H1 d
   cases h;exact JV d (no m (by simp[fa]))
  ·split at h
   ·rename_i B H1 d
    cases h;exact Vf d (no m (by simp[fa])) (no x (by simp[fa]))
   ·split at h
    ·rename_i B H1 d
     cases h;exact Vg d (no m (by simp[fa]))
    ·cases h
 case lookup t m k ok =>
  cases ok with
  |true=>cases h
  |false=>exact Vj h q (no m (by simp[fa]))
 case mapEntry t m k =>
  split at h
  ·rename_i y O
   cases h;exact Vl O q (no m (by simp[fa]))
  ·exact Vh h (no m (by simp[fa]))
 case entryStore t m s x =>
  split at h
  ·rename_i B H1 d
   cases h;exact Vk d (no m (by simp[fa])) (no x (by simp[fa]))
  ·split at h
   ·rename_i B H1 d
    cases h;exact Vi d (no m (by simp[fa])) (no x (by simp[fa]))
   ·cases h
 case insert t m k x =>
  split at h
  ·rename_i B H1 d
   cases h;exact JV d (no m (by simp[fa]))
  ·cases h
 case call c =>
  have na:∀ x∈c.args.toList,fw (r x)≠some A:=fun x u=>no x (by
   simp only[fa,Call.operands];simp at u⊢;exact .inr u)
  split at h
  ·split at h
   ·rename_i s x t xt I M
    have U:=na s (by rw[I]; simp);split at h
    ·exact Vd h q
    ·exact Vc h q U
   ·cases h
  ·split at h
   ·rename_i x t I M
    have J:=na x (by rw[I]; simp);split at h
    ·rename_i d; cases h; exact Ve d J
    ·cases h
   ·cases h
  ·split at h
   ·rename_i x k t _ I M
    have J:=na x (by rw[I]; simp);split at h
    ·rename_i d; cases h; exact Vm d J
    ·cases h
   ·cases h
  ·cases h
theorem Vp{P:Program}{r:Operand→AV}{H H':List ah}{o:Op}{b:Bool}{A:Nat}(h:uC P r H o=some (b,H'))(k:A∉o.operands.toList.filterMap fun x=>fw (r x)):H'[A]? = H[A]? := by
 have no:∀ x∈o.operands.toList,fw (r x)≠some A:=fun x q e=>k (Ha.2 ⟨x,q,e⟩);unfold uC at h;split at h
 case h_2=>cases h
 rename_i t a x;split at h
 case h_2=>cases h
 rename_i b0 v1 H1 d;split at h
 case h_2=>cases h
 rename_i b1 H2 u;simp only[aQ,a7]at h;obtain⟨_,rfl⟩:=h;rw[JU u (no a (by simp[fa]))];unfold CD at d;split at d
 case h_2=>cases d
 rename_i w id ad off n v;split at d
 case h_2=>cases d
 split at d
 case isFalse=>cases d
 simp only[aQ,a7]at d;obtain⟨_,_,rfl⟩:=d;refine gj fun e=>no x (by simp[fa]) ?_;rw[v,e];rfl
theorem x5(J:aq P τ){ops:Array Oper}{o:Oper}{s:al}{k:AV→List ah→Tree}{Q:bL→al→Prop}(hw:bQ ops s.fr o=some true)
  (h:(nR P τ o s k).holds Q):∃ v H',Yields P τ.pf ops o s.den v (aj H')∧(cL τ.pf o.op=.write→∀ A,A∉jJ τ s.eval s.H o.op→A<s.H.length→H'[A]? = s.H[A]?)∧(k v H').holds Q:=by
 unfold nR at h;split at h
 ·rename_i c a b ho
  split at h
  ·rename_i t hb
   have hb:=JO hb;refine⟨bif t then s.eval a else s.eval b,s.H,CL hw (by rw[ho]; rfl) (.inl (by rw[ho]; simp only[gS,hb])),fun _ _ _ _=>rfl,?_⟩;simp only[Tree.holds]at h;cases t with
   |true=>exact h.1 rfl
   |false=>exact h.2 rfl
  ·exact h.elim
 ·rename_i t a ho
  split at h
  ·rename_i b v M
   simp only[Tree.holds]at h;refine⟨v,s.H,?_,fun _ _ _ _=>rfl,h.2⟩;unfold Yields;rw[show s.den.fr=s.fr from rfl,hw];simp only[ho,cL,al.kY];exact⟨rfl,by simp only[eL]; exact UA M h.1⟩
  ·exact h.elim
 ·rename_i t m x ok ho
  have V:jJ τ s.eval s.H o.op=o.op.operands.toList.filterMap fun x=>fw (s.eval x):=by
   have N:iq s.eval o.op=none:=by rw[ho]; rfl
   simp only[jJ,N]
  split at h
  ·rename_i b v M
   split at h
   ·rename_i q
    simp only[Tree.holds]at h;refine⟨v,s.H,?_,fun _ _ _ _=>rfl,h.2⟩;unfold Yields;rw[show s.den.fr=s.fr from rfl,hw];simp only[q,al.kY];rw[ho];exact⟨rfl,by
     have e:=Jx M;rw[show aj s.H=s.den.H from rfl]at e;simp only[eL,e]⟩
   ·rename_i q
    simp only[Tree.holds]at h;refine⟨v,s.H,pM hw q (.inl ?_),fun _ _ _ _=>rfl,h.2⟩;rw[ho];simp only[c_,Jx M]
   ·exact h.elim
  ·split at h
   ·rename_i q
    split at h
    ·rename_i b v H' d
     simp only[Tree.holds]at h;exact⟨v,H',pM hw q (.inl (JH d h.1)),fun _ A u y=>JW d y (by rw[V]at u; exact u),h.2⟩
    ·exact h.elim
   ·rename_i q
    split at h
    ·rename_i b v M
     simp only[Tree.holds]at h;obtain⟨q1,q2⟩:=UP M h.1;refine⟨v,s.H,?_,fun _ _ _ _=>rfl,h.2⟩;unfold Yields;rw[show s.den.fr=s.fr from rfl,hw];simp only[q,al.kY];rw[ho];exact⟨rfl,by simp only[eL]; rw[show fT P t (s.eval m) (s.eval x) ok s.den.H=none from q1]; exact q2⟩
    ·exact h.elim
   ·exact h.elim
 ·split at h
  ·rename_i q
   split at h
   ·rename_i v d
    refine⟨v,s.H,?_,fun _ _ _ _=>rfl,h⟩;unfold Yields;rw[show s.den.fr=s.fr from rfl,hw];simp only[q,al.kY];exact⟨rfl,U4 d⟩
   ·exact h.elim
  ·rename_i q
   split at h
   ·rename_i f args B
    split at h
    ·rename_i b v d
     simp only[Tree.holds]at h;obtain⟨g1,g2⟩:=J.T f args b v d h.1;exact⟨v,s.H,CL hw q (.inr ⟨f,args,B,g1,g2⟩),fun _ _ _ _=>rfl,h.2⟩
    ·exact h.elim
   ·split at h
    ·rename_i b v d
     simp only[Tree.holds]at h;exact⟨v,s.H,CL hw q (.inl (U3 d h.1)),fun _ _ _ _=>rfl,h.2⟩
    ·exact h.elim
  ·rename_i q
   split at h
   ·rename_i f args B
    split at h
    ·rename_i b v H' d
     simp only[Tree.holds]at h;obtain⟨g1,g2⟩:=J.W f args s.H b v H' d h.1;exact⟨v,H',pM hw q (.inr ⟨f,args,B,g1,g2⟩),fun _ A u y=>J.C f args s.H b v H' d A (by simpa only[jJ,B]using u) y,h.2⟩
    ·split at h
     ·rename_i t hi
      obtain⟨g1,v,H',g2,g3,g4⟩:=J.I f args s.H t hi _ (Tree.xU h);exact⟨v,H',pM hw q (.inr ⟨f,args,B,g1,g2⟩),fun _ A u y=>g3 A (by simpa only[jJ,B]using u) y,g4⟩
     ·split at h
      ·rename_i b v d
       simp only[Tree.holds]at h;obtain⟨g1,g2⟩:=J.T f args b v d h.1;exact⟨v,s.H,pM hw q (.inr ⟨f,args,B,g1,g2 _⟩),fun _ _ _ _=>rfl,h.2⟩
      ·cases U : nQ s.H args with
       |mk vb args' =>
       rw[U]at h;simp only[]at h;split at h
       ·rename_i b v d
        split at h
        ·rename_i O
         simp only[ax]at O;simp only[Tree.holds,ax]at h;obtain⟨g1,g2⟩:=J.T f args' b v d h.1.2;exact⟨v,s.H,pM hw q (.inr ⟨f,args,B,g1,Vb g2 U h.1.1 O.2 O.1⟩),fun _ _ _ _=>rfl,h.2⟩
        ·exact h.elim
       ·exact h.elim
   ·rename_i N
    split at h
    ·rename_i b v H' d
     simp only[Tree.holds]at h;exact⟨v,H',pM hw q (.inl (JH d h.1)),fun _ A u y=>JW d y (by simpa only[jJ,N]using u),h.2⟩
    ·split at h
     ·rename_i b H' d
      simp only[Tree.holds]at h;refine⟨.undef,H',?_,fun _ A u y=>Vp d (by simpa only[jJ,N]using u),h.2⟩;unfold Yields;rw[show s.den.fr=s.fr from rfl,hw];simp only[q,al.kY];exact .inr (.inr (U5 d h.1))
     ·exact h.elim
theorem JX{ops:Array Oper}{s:al}{o:Oper}{t:Tmp}{b want:Bool}(h:nP ops s.fr o=.test t b want) :
  s.fr[t]? = some (.lit (.bool b))∧bQ ops s.fr o=some (b==want):=by
 unfold nP at h;unfold bQ;cases hg:o.guard with
 |none=>rw[hg]at h; cases h
 | some d =>
  obtain⟨j,w⟩:=d;rw[hg]at h;simp only[]at h⊢;split at h
  ·rename_i t' k
   split at h
   ·rename_i q hb
    cases h;exact⟨hb,by rw[k]; simp only[hb]⟩
   ·cases h
   ·cases h
  ·cases h
theorem CM{ops:Array Oper}{s:al}{o:Oper}(h:nP ops s.fr o=.no):bQ ops s.fr o=some false:=by
 unfold nP at h;unfold bQ;cases hg:o.guard with
 |none=>rw[hg]at h; cases h
 | some d =>
  obtain⟨j,w⟩:=d;rw[hg]at h;simp only[]at h⊢;split at h
  ·rename_i t' k
   split at h
   ·cases h
   ·rename_i hb
    rw[k];simp only[hb]
   ·cases h
  ·cases h
theorem JY{ops:Array Oper}{s:al}{o:Oper}(h:nP ops s.fr o=.yes):bQ ops s.fr o=some true:=by
 unfold nP at h;unfold bQ;cases hg:o.guard with
 |none=>rfl
 | some d =>
  obtain⟨j,w⟩:=d;rw[hg]at h;simp only[]at h;split at h
  ·split at h<;>cases h
  ·cases h
theorem x6{s:al}{t:Tmp}{b:Bool} (h:s.fr[t]? = some (.lit (.bool b))):s.slot t b=s:=by
 unfold al.slot;rw[lG h]
theorem Vq(u:aq P τ){ops:Array Oper}{o:Oper}{s:al}{k:al→Tree}{Q:bL→al→Prop}(h:(CE P τ ops o s k).holds Q) :
  ∃ v H',Yields P τ.pf ops o s.den v (aj H')∧(k (s.put o.dst v H')).holds Q:=by
 have skip:bQ ops s.fr o=some false→Yields P τ.pf ops o s.den (.tuple []) (aj s.H):=by
  intro hw;unfold Yields;rw[show s.den.fr=s.fr from rfl,hw];exact⟨rfl,rfl⟩
 unfold CE at h;split at h
 ·exact h.elim
 ·rename_i hw
  exact⟨_,_,skip (CM hw),h⟩
 ·rename_i hw
  obtain⟨v,H',g1,_,g2⟩:=x5 u (JY hw) h;exact⟨v,H',g1,g2⟩
 ·rename_i t b want hw
  obtain⟨h1,q⟩:=JX hw;simp only[Tree.holds]at h;cases b with
  | true =>
   have d:=h.1 rfl;rw[x6 h1]at d;cases want with
   | true =>
    obtain⟨v,H',g1,_,g2⟩:=x5 u q d;exact⟨v,H',g1,g2⟩
   |false=>exact⟨_,_,skip q,d⟩
  | false =>
   have d:=h.2 rfl;rw[x6 h1]at d;cases want with
   |true=>exact⟨_,_,skip q,d⟩
   | false =>
    obtain⟨v,H',g1,_,g2⟩:=x5 u q d;exact⟨v,H',g1,g2⟩
theorem x7(d:aq P τ){ops:Array Oper}{Q:bL→al→Prop}:∀{l:List Oper} {s:al} {k:al→Tree},(lM P τ ops l s k).holds Q→∃ s',fI P τ.pf ops l s.den s'.den∧(k s').holds Q
 | [],s,k,h=>⟨s,rfl,h⟩
 | o::l,s,k,h=>by
  obtain⟨v,H',h1,q⟩:=Vq d h;obtain⟨s',u,y⟩:=x7 d q;exact⟨s',⟨v,aj H',h1,u⟩,y⟩
def Acc.le(a b:Acc):Prop:=(∀ x∈a.R,x∈b.R)∧∀ x∈a.W,x∈b.W
def Acc.ok(ops:Array Oper)(j:Nat)(a:Acc):Prop:=(∀ x∈a.R,x.1<j)∧(∀ x∈a.W,x.1<j)∧rz ops a.R a.W
theorem CN{ids:List Nat}{i:Nat}(h:uD ids i=true):i∉ids:=by
 intro hm;have:ids.any (ae i)=true:=List.any_eq_true.2 ⟨i,hm,by simp⟩;simp[uD,this]at h
theorem Vr{ops:Array Oper}{j id:Nat}{a b:Acc}(ha:a.ok ops j)(h:CF ops j id a=some b):b.ok ops (j+1)∧a.le b∧(j,id)∈b.R:=by
 unfold CF at h;split at h
 ·rename_i k
  cases h;simp only[dq,tu,ax,jb]at k;obtain⟨h1,q,u⟩:=ha;refine⟨⟨fun x d=>?_,fun x d=>wT (q x d),fun i v hi e he=>?_,u.2⟩,⟨fun x d=>c9 _ d,fun x d=>d⟩,cO⟩
  ·rcases bR.1 d with rfl | d
   ·exact Sc _
   ·exact wT (h1 x d)
  ·rcases bR.1 hi with B | hi
   ·cases B
    have I:=q e he;refine⟨fun y=>absurd y (by omega),fun _ hw=>?_⟩;rcases k e he with h|h
    ·rw[hw]at h; cases h
    ·exact⟨CN h.1,h.2⟩
   ·exact u.1 i v hi e he
 ·cases h
theorem JZ{ops:Array Oper}{j n:Nat}{T:List Nat}{a b:Acc}(ha:a.ok ops j)(h:xZ ops j T n a=some b):b.ok ops (j+1)∧a.le b∧(j,T,n)∈b.W:=by
 unfold xZ at h;split at h
 ·rename_i N
  split at h
  case h_2=>cases h
  rename_i B;cases h;simp only[dq,tu,ax,jb]at N B;obtain⟨h1,J,M⟩:=ha;refine⟨⟨fun x q=>wT (h1 x q),fun x q=>?_,fun i I hi e he=>?_,fun e he e' d k u id hid=>?_,fun e he e' d k u id hid=>?_⟩,⟨fun x q=>q,fun x q=>c9 _ q⟩,cO⟩
  ·rcases bR.1 q with rfl | q
   ·exact Sc _
   ·exact wT (J x q)
  ·rcases bR.1 he with y | he
   ·subst y
    have k:=h1 (i,I) hi;refine⟨fun _ hw=>?_,fun O=>absurd O (by simp only at O k; omega)⟩;rcases N (i,I) hi with h|h
    ·simp only at hw h; rw[hw]at h; cases h
    ·exact⟨CN h.1,h.2⟩
   ·exact M.1 i I hi e he
  ·rcases bR.1 d with y | d
   ·subst y
    rcases bR.1 he with v|he
    ·subst v
     exact absurd k (qz _)
    ·rcases B e he with h | h
     ·simp only at u h
      rw[u]at h;cases h
     ·have U := h.1 id hid
      exact⟨CN U.1,U.2⟩
   ·rcases bR.1 he with v | he
    ·subst v
     have V:=J e' d;exact absurd k (by simp only; omega)
    ·exact M.2.1 e he e' d k u id hid
  ·rcases bR.1 d with y | d
   ·subst y
    rcases bR.1 he with v|he
    ·subst v
     exact absurd k (qz _)
    ·rcases B e he with h | h
     ·simp only at u h
      rw[u]at h;cases h
     ·exact h.2 id hid
   ·rcases bR.1 he with v | he
    ·subst v
     have V:=J e' d;exact absurd k (by simp only; omega)
    ·exact M.2.2 e he e' d k u id hid
 ·cases h
theorem Acc.uH{ops:Array Oper}{j:Nat}{a:Acc}(h:a.ok ops j):a.ok ops (j+1):=⟨fun x d=>wT (h.1 x d),fun x d=>wT (h.2.1 x d),h.2.2⟩
theorem Acc.le_refl(a:Acc):a.le a:=⟨fun _ h=>h,fun _ h=>h⟩
theorem Acc.le_trans{a b c:Acc}(h:a.le b)(h':b.le c):a.le c:=⟨fun x d=>h'.1 x (h.1 x d),fun x d=>h'.2 x (h.2 x d)⟩
def Acc.only(j:Nat)(a b:Acc):Prop:=∀ x∈b.W,x.1<j→x∈a.W
theorem Vs{ops:Array Oper}{j:Nat}{o:Oper}{s:al}{a b:Acc}(ha:a.ok ops j)(h:CG τ ops j o s a=some b) :
  b.ok ops (j+1)∧a.le b∧(cL τ.pf o.op=.read→∀ id,kV s.eval o.op=some id→(j,id)∈b.R)∧(cL τ.pf o.op=.write→(j,jJ τ s.eval s.H o.op,s.H.length)∈b.W):=by
 unfold CG at h;split at h
 ·rename_i d
  cases h;exact⟨Acc.uH ha,a.le_refl,(fun h=>by rw[d]at h; cases h),(fun h=>by rw[d]at h; cases h)⟩
 ·rename_i d
  split at h
  ·rename_i id hid
   obtain⟨g1,g2,g3⟩:=Vr ha h;refine⟨g1,g2,fun _ q k=>?_,(fun h=>by rw[d]at h; cases h)⟩;rw[hid]at k;cases k;exact g3
  ·rename_i hid
   cases h;refine⟨Acc.uH ha,a.le_refl,fun _ q k=>?_,(fun h=>by rw[d]at h; cases h)⟩;rw[hid]at k;cases k
 ·rename_i d
  obtain⟨g1,g2,g3⟩:=JZ ha h;exact⟨g1,g2,(fun h=>by rw[d]at h; cases h),fun _=>g3⟩
theorem J0{ops:Array Oper}{j:Nat}{o:Oper}{s:al}{v:AV}{H':List ah}{b c:Acc}(q:b.le c)(hr:cL τ.pf o.op=.read→∀ id,kV s.eval o.op=some id→(j,id)∈b.R)
  (hw:cL τ.pf o.op=.write→(j,jJ τ s.eval s.H o.op,s.H.length)∈b.W) (hk:cL τ.pf o.op=.write→∀ A,A∉jJ τ s.eval s.H o.op→A<s.H.length→H'[A]? = s.H[A]?)
  (u:ka o.op=true→nI ops=true→cL τ.pf o.op=.write→bQ ops s.den.fr o=some true→∀ σ,xM c.W j s.den.H σ→Yields P τ.pf ops o ⟨s.den.fr,mJ σ s.den.H⟩ v (mJ σ (aj H'))) :
  (h:(mH ops&&eb o.op)=false)→Step P τ.pf ops c.R c.W j o s.den v (aj H'):=by
 intro h;refine⟨fun d A y=>?_,fun d _ id hid=>q.1 _ (hr d id (by rw[←al.kY]; exact hid)),fun h1 k _=>(by rw[h1,k]at h; cases h),u⟩;have:=y _ (q.2 _ (hw d)) rfl;have k:=hk d A this.1 this.2;show (aj H')[A]? = (aj s.H)[A]?
 simp only[aj,bT,k]
theorem step_skip{ops:Array Oper}{j:Nat}{o:Oper}{s:al}{c:Acc}(hw:bQ ops s.fr o=some false):Step P τ.pf ops c.R c.W j o s.den (.tuple []) (aj s.H) :=
 ⟨fun _ _ _=>rfl,fun _ h=>(by rw[show s.den.fr=s.fr from rfl,hw]at h; cases h),fun _ _ _=>⟨rfl,fun _ h=>(h rfl).elim⟩,fun _ _ _ h=>(by rw[show s.den.fr=s.fr from rfl,hw]at h; cases h)⟩
theorem J1(k:aq P τ){f:FuncId}{args:List AV}{v:AV}(u:τ.N f=true):∀(σ:List (Nat × ab)) (H H':List ah),τ.W f args H=some (true,v,H')→(∀ p∈σ,p.1<H.length∧p.1∉τ.C f args H) →
  ∃ H2 d,aj H2=mJ σ (aj H)∧aj d=mJ σ (aj H')∧τ.W f args H2=some (true,v,d)
 | [],H,H',h,_=>⟨H,H',rfl,rfl,h⟩
 | p::σ,H,H',h,y=>by
  obtain⟨B,a2⟩:=y p cO;obtain⟨h1,I⟩:=k.F.2 f u args H true v H' h p.1 (.raw p.2) B a2;obtain⟨H2,d,J,M,O⟩:=J1 k u σ _ _ h1 fun q U=>by
   obtain⟨b1,V⟩:=y q (c9 _ U);rw[I];exact⟨by simpa using b1,V⟩
  refine⟨H2,d,?_,?_,O⟩
  ·rw [J, c5]
   rfl
  ·rw [M, c5]
   rfl
theorem Vt{o:Oper}{s:al}{k:AV→List ah→Tree}{f:FuncId}{args:List AV}{b:Bool}{v:AV}{H':List ah}(d:ka o.op=true)(q:cL τ.pf o.op=.write)(h:iq s.eval o.op=some (f,args))(y:τ.W f args s.H=some (b,v,H')) :
  nR P τ o s k=.side b (k v H'):=by
 unfold ka at d;split at d
 ·rename_i c u
  unfold nR;rw[u]at q h⊢;simp only[q,h,y]
 ·cases d
theorem J2{z:List Value}:∀{H:List ah} {i j:Nat} {ks:List Kd} {g:List G},pK z H i=some (j,ks,g)→i≤j∧H[j-i]? = some (.vec ks 0 [])∧rM ks z=some g
 | [],_,_,_,_,h=>by cases h
 | o::H,i,j,ks,g,h=>by
  have next:pK z H (i+1)=some (j,ks,g)→i≤j∧(o::H)[j-i]? = some (.vec ks 0 [])∧rM ks z=some g:=by
   intro h;obtain⟨h1,d,k⟩:=J2 h;refine⟨by omega,?_,k⟩;rw[show j-i=(j-(i+1))+1 from by omega];simpa using d
  unfold pK at h;split at h
  ·cases ‹_=_›
  ·rename_i q rows' H' u e
   cases e;split at h
   ·rename_i v hg
    split at h
    ·cases h
     exact⟨aD _,by simp,hg⟩
    ·exact next h
   ·exact next h
  ·rename_i e
   cases e;exact next h
theorem J3:∀{H:List ah} {i j:Nat},uE H i=some j→i≤j∧H[j-i]? = some (.raw .dQ)
 | [],_,_,h=>by cases h
 | o::H,i,j,h=>by
  have next:uE H (i+1)=some j→i≤j∧(o::H)[j-i]? = some (.raw .dQ):=by
   intro h;obtain⟨h1,d⟩:=J3 h;refine⟨by omega,?_⟩;rw[show j-i=(j-(i+1))+1 from by omega];simpa using d
  unfold uE at h;split at h
  ·cases ‹_=_›
  ·rename_i e
   cases e;cases h;exact⟨aD _,by simp⟩
  ·rename_i e
   cases e;exact next h
theorem Vu{op:Op}{H H':List ah}{id:Nat}{v:AV}(h:CH P op H=some (id,v,H')) :
  ((∃ t m,op=.alloc t∧nF P t id m (aj H)=some (v,aj H'))∨∃ t,op=.makeMap t none∧pn id (aj H)=some (v,aj H'))∧H'.length=H.length∧∀ A,A≠id→H'[A]? = H[A]? := by
 unfold CH at h;split at h
 ·rename_i t
  split at h
  ·rename_i z y
   split at h
   ·rename_i i ks g q
    cases h;obtain⟨_,d,B⟩:=J2 q;rw[gq]at d;have e:=JI B;refine⟨.inl ⟨t,mZ ks,rfl,?_⟩,by simp,fun A u=>aR (Ne.symm u)⟩;have hk:ks.length=z.length:=by
     have:=congrArg AY e;simpa[qE,xn]using this
    rw[I5 (mZ ks) y (k:=ks.length) (by rw[a_ d]; rfl) hk,c5,←e];rfl
   ·cases h
  ·cases h
 ·rename_i t
  split at h
  ·rename_i K V _
   split at h
   ·rename_i i q
    cases h;obtain⟨_,d⟩:=J3 q;rw[gq]at d;refine⟨.inr ⟨t,rfl,?_⟩,by simp,fun A u=>aR (Ne.symm u)⟩;rw[Iz (by rw[a_ d]; rfl),c5];rfl
   ·cases h
  ·cases h
 ·cases h
theorem CO(B:aq P τ){ops:Array Oper}{j:Nat}{o:Oper}{s:al}{a:Acc}{k:al→Acc→Tree}{Q:bL→al→Prop}(hw:bQ ops s.fr o=some true)(ha:a.ok ops j)(h:(uF P τ ops j o s a k).holds Q) :
  ∃ v H' b,Yields P τ.pf ops o s.den v (aj H')∧b.ok ops (j+1)∧a.le b∧(∀ c,b.le c→Step P τ.pf ops c.R c.W j o s.den v (aj H'))∧(k (s.put o.dst v H') b).holds Q:=by
 unfold uF at h;split at h
 ·rename_i q
  simp only[ax]at q;split at h
  ·rename_i id v H' hal
   split at h
   ·rename_i b hb
    obtain⟨hnew,hlen,hkeep⟩:=Vu hal;obtain⟨g1,g2,g3⟩:=JZ ha hb;refine⟨v,H',b,?_,g1,g2,fun c u=>⟨fun _ A U=>?_,fun hr=>(by rw[mI q.2]at hr; cases hr),fun _ _ _=>⟨?_,fun I aw=>?_⟩,fun hcv=>(by rw[lJ q.2]at hcv; cases hcv)⟩,h⟩
    ·unfold Yields
     rw[show s.den.fr=s.fr from rfl,hw];simp only[mI q.2];rcases hnew with⟨t,m,O,V⟩|⟨t,O,V⟩
     ·exact .inr (.inl (.inl ⟨t,id,m,O,V⟩))
     ·exact .inr (.inl (.inr ⟨t,id,O,V⟩))
    ·have := (U _ (u.2 _ g3) rfl).1
     show (aj H')[A]? = (aj s.H)[A]?
     simp only[aj,bT,hkeep A (by simpa using this)]
    ·show (aj H').length = (aj s.H).length
     simp only[eD,hlen]
    ·refine ⟨_, u.2 _ g3, rfl, ?_⟩
     have e:I=id:=AU fun e=>aw (by
      show (aj H')[I]? = (aj s.H)[I]?
      simp only[aj,bT,hkeep I e])
     rw[e];exact List.mem_singleton.2 rfl
   ·exact h.elim
  ·exact h.elim
 ·rename_i q
  split at h
  ·exact h.elim
  rename_i hfc;split at h
  ·rename_i b hb
   obtain⟨g1,g2,g3,g4⟩:=Vs ha hb;by_cases y:(nI ops&&ka o.op)=true∧cL τ.pf o.op=.write
   ·obtain ⟨y, J⟩ := y
    have hca2:=y;simp only[ax]at hca2;have d:CI τ o s=true:=by
     rw[y]at hfc;simpa using hfc
    unfold CI at d;rw[J]at d;simp only[]at d;split at d
    case h_2=>cases d
    rename_i f args N;split at d
    case h_2=>cases d
    rename_i hN;obtain⟨⟨b0,v,H'⟩,M⟩:=Option.isSome_iff_exists.1 d;rw[Vt hca2.2 J N M]at h;simp only[Tree.holds]at h;obtain⟨rfl,h⟩:=h;obtain⟨hbody,hcall⟩:=B.W f args s.H true v H' M rfl;have htch:jJ τ s.eval s.H o.op=τ.C f args s.H:=by
     unfold jJ;rw[N]
    have hcal':∀ H2,iq (St.eval ⟨s.den.fr,H2⟩) o.op=some (f,args):=fun H2=>by
     have e:St.eval ⟨s.den.fr,H2⟩=s.eval:=by funext x; cases x<;>rfl
     rw[e];exact N
    have yl:∀ H2 H3:List ab,dB P f args H2 v H3→Yields P τ.pf ops o ⟨s.den.fr,H2⟩ v H3:=fun H2 H3 hx=>by
     unfold Yields;rw[show (St.mk s.den.fr H2).fr=s.fr from rfl,hw];simp only[J];exact .inl (.inr ⟨f,args,hcal' H2,hbody,hx⟩)
    refine⟨v,H',b,yl _ _ hcall,g1,g2,fun c u=>J0 u g3 g4 (fun _ A U hlt=>?_) (fun _ _ _ _ σ hσ=>?_) (by simpa using q),h⟩
    ·exact B.C f args s.H true v H' M A (by rw[←htch]; exact U) hlt
    ·obtain ⟨H2,H2',q1,q2,q3⟩:=J1 B hN σ s.H H' M (fun p hp=>by
      obtain⟨hk,_⟩:=hσ p hp;obtain⟨k1,k2⟩:=hk _ (u.2 _ (g4 J)) rfl;rw[htch]at k1;exact⟨k2,k1⟩)
     rw[←q2,show mJ σ s.den.H=aj H2 from q1.symm];exact yl _ _ (B.W f args H2 true v H2' q3 rfl).2
   ·obtain ⟨v, H', q1, q2, q3⟩ := x5 B hw h
    exact⟨v,H',b,q1,g1,g2,fun c u=>J0 u g3 g4 q2 (fun h1 h2 h3=>absurd ⟨by rw[h1,h2]; rfl,h3⟩ y) (by simpa using q),q3⟩
  ·exact h.elim
theorem Vv(u:aq P τ){ops:Array Oper}{j:Nat}{o:Oper}{s:al}{a:Acc}{k:al→Acc→Tree}{Q:bL→al→Prop}(ha:a.ok ops j)(h:(CJ P τ ops j o s a k).holds Q) :
  ∃ v H' b,Yields P τ.pf ops o s.den v (aj H')∧b.ok ops (j+1)∧a.le b∧(∀ c,b.le c→Step P τ.pf ops c.R c.W j o s.den v (aj H'))∧(k (s.put o.dst v H') b).holds Q:=by
 have skip:bQ ops s.fr o=some false→Yields P τ.pf ops o s.den (.tuple []) (aj s.H):=by
  intro hw;unfold Yields;rw[show s.den.fr=s.fr from rfl,hw];exact⟨rfl,rfl⟩
 unfold CJ at h;split at h
 ·exact h.elim
 ·rename_i hw
  exact⟨_,_,a,skip (CM hw),Acc.uH ha,a.le_refl,fun _ _=>step_skip (CM hw),h⟩
 ·rename_i hw
  exact CO u (JY hw) ha h
 ·rename_i t b want hw
  obtain⟨h1,q⟩:=JX hw;simp only[Tree.holds]at h;cases b with
  | true =>
   have d:=h.1 rfl;rw[x6 h1]at d;cases want with
   |true=>exact CO u q ha d
   |false=>exact⟨_,_,a,skip q,Acc.uH ha,a.le_refl,fun _ _=>step_skip q,d⟩
  | false =>
   have d:=h.2 rfl;rw[x6 h1]at d;cases want with
   |true=>exact⟨_,_,a,skip q,Acc.uH ha,a.le_refl,fun _ _=>step_skip q,d⟩
   |false=>exact CO u q ha d
theorem J4(d:aq P τ){ops:Array Oper}{Q:bL→al→Prop}:∀{l:List Oper} {j:Nat} {s:al} {a:Acc} {k:al→Tree},a.ok ops j→(CK P τ ops l j s a k).holds Q →
  ∃ s' b,rz ops b.R b.W∧a.le b∧ru P τ.pf ops b.R b.W l j s.den s'.den∧(k s').holds Q
 | [],j,s,a,k,ha,h=>⟨s,a,ha.2.2,a.le_refl,rfl,h⟩
 | o::l,j,s,a,k,ha,h=>by
  obtain⟨v,H',b,g1,g2,g3,g4,g5⟩:=Vv d ha h;obtain⟨s',c,u,q,y,B⟩:=J4 d g2 g5;exact⟨s',c,u,Acc.le_trans g3 q,⟨v,aj H',g1,g4 c q,y⟩,B⟩
theorem Vw{m id:Nat}{ops:Array Oper}{s s':al}{b:Acc}(hm:P.follows .mixedOrders=true)(d:ry τ.pf ops=true)(hF:rz ops b.R b.W)(h:ru P τ.pf ops b.R b.W ops.toList 0 s.den s'.den) :
  cM P m (.region id ops true) s.den .normal s'.den:=fun ro _ _ _ k=>Uy hm d hF k h (fun _ _ q=>⟨rfl,q.toM⟩) ro
theorem uI{K:bL→al→Tree}{Q:bL→al→Prop}:∀{t:Tree},(t.bind K).holds Q→t.holds fun x s=>(K x s).holds Q
 |.fail,h=>h
 |.done _ _,h=>h
 |.ask _ _ _,h=>⟨fun hb=>uI (h.1 hb),fun hb=>uI (h.2 hb)⟩
 |.side _ _,h=>⟨h.1,uI h.2⟩
theorem J5{m:Nat}{c:Code}{Q:bL→al→Prop}{body:al→(bL→al→Tree)→Tree}
  (hb:∀ s K,(body s K).holds Q→∃ x s',cM P m c s.den x s'.den∧(K x s').holds Q):∀(n:Nat) (s:al) (K:bL→al→Tree),(x2 body n s K).holds Q →
  ∃ x s',j_ P m c s.den x s'.den∧(K x s').holds Q
 |0,_,_,h=>h.elim
 | n+1,s,K,h=>by
  simp only[x2]at h;obtain⟨x,s1,h1,d⟩:=hb _ _ h;cases x with
  | normal =>
   obtain⟨y,s2,k,q⟩:=J5 hb n s1 K d;exact⟨y,s2,.next h1 k,q⟩
  |exit i=>exact⟨_,s1,.stop h1 (by simp),d⟩
  |ret=>exact⟨_,s1,.stop h1 (by simp),d⟩
theorem gV(hm:P.follows .mixedOrders=true)(u:aq P τ){m:Nat}{L:LT}{Q:bL→al→Prop}:∀(c:Code) (s:al) (K:bL→al→Tree),
  aA P m L c→(ed P τ L c s K).holds Q→∃ x s',cM P m c s.den x s'.den∧(K x s').holds Q
 |.skip,s,K,_,h=>⟨_,_,T9,h⟩
 | .region id ops draw,s,K,q,h=>by
  simp only[ed]at h;split at h
  ·rename_i I
   split at h
   ·rename_i W
    simp only[Tree.holds]at h;have V:draw=true:=by
     cases draw with
     |true=>rfl
     |false=>simp at I
    subst V;obtain⟨s',b,h1,_,d,v⟩:=J4 u (a:=⟨[],[]⟩) ⟨by simp,by simp,⟨fun i id hi=>(nomatch hi),fun e he=>(nomatch he),fun e he=>(nomatch he)⟩⟩ h.2;exact⟨_,_,rj (q.2.1 id s h.1) (Vw hm W h1 d),v⟩
   ·exact h.elim
  ·rename_i U
   simp only[Tree.holds]at h;obtain⟨s',h1,d⟩:=x7 u h.2;refine⟨_,_,rj (q.2.1 id s h.1) (Ub hm (fun I=>?_) h1),d⟩;rw[I]at U;simpa using U
 | .seq a b,s,K,q,h=>by
  simp only[ed]at h;have J:aA P m L a:=q.sub (fun p k=>by simp only[bM]; exact cZ.2 (.inl k)) (fun p k=>by simp only[bI]; exact cZ.2 (.inl k));have M:aA P m L b:=q.sub (fun p k=>by simp only[bM]; exact cZ.2 (.inr k)) (fun p k=>by simp only[bI]; exact cZ.2 (.inr (cZ.2 (.inr k))));obtain⟨x,s1,h1,d⟩:=gV hm u a s _ J h;cases x with
  | normal =>
   simp only[JJ]at d;split at d
   ·rename_i t B
    unfold JM at B;split at B
    ·rename_i i hi
     obtain⟨y,s2,v,O⟩:=q.2.2 i b (by simp only[bI,hi]; exact cZ.2 (.inr (cZ.2 (.inl (cO))))) s1 t B _ (uI d);exact⟨y,s2,xH h1 v,O⟩
    ·cases B
   ·obtain ⟨y, s2, v, O⟩ := gV hm u b s1 K M d
    exact⟨y,s2,xH h1 v,O⟩
  |exit id=>exact⟨_,_,I' h1 (by simp),d⟩
  |ret=>exact⟨_,_,I' h1 (by simp),d⟩
 | .cond c a b,s,K,q,h=>by
  simp only[ed]at h;have J:aA P m L a:=q.sub (fun p k=>by simp only[bM]; exact cZ.2 (.inl k)) (fun p k=>by simp only[bI]; exact cZ.2 (.inl k));have M:aA P m L b:=q.sub (fun p k=>by simp only[bM]; exact cZ.2 (.inr k)) (fun p k=>by simp only[bI]; exact cZ.2 (.inr k));split at h
  ·rename_i t hb
   have N:=JO hb;rw[←al.kY]at N;simp only[Tree.holds]at h;cases t with
   | true =>
    obtain⟨x,s1,h1,d⟩:=gV hm u a s K J (h.1 rfl);exact⟨x,s1,Ja N (by simpa using h1),d⟩
   | false =>
    obtain⟨x,s1,h1,d⟩:=gV hm u b s K M (h.2 rfl);exact⟨x,s1,Ja N (by simpa using h1),d⟩
  ·exact h.elim
 | .block id c,s,K,q,h=>by
  simp only[ed]at h;obtain⟨x,s1,h1,d⟩:=gV hm u c s _ (q.sub (fun p k=>by simpa only[bM]using k) (fun p k=>by simpa only[bI]using k)) h;refine⟨_,s1,Jb h1,?_⟩;cases x with
  |normal=>exact d
  | exit i =>
   simp only[JK]at d;simp only[bL.inBlock];split
   ·rename_i e; rw[if_pos e]at d; exact d
   ·rename_i e; rw[if_neg e]at d; exact d
  |ret=>exact d
 | .loop c,s,K,q,h=>by
  simp only[ed]at h;split at h
  ·rename_i i hi
   split at h
   ·rename_i t hl
    obtain⟨x,s',h1,d⟩:=q.1 i c (by simp only[bM,hi]; exact cO) s t hl _ (uI h);exact⟨x,s',Jc h1,d⟩
   ·obtain ⟨x, s', h1, d⟩ := J5 (fun s1 K1 hh => gV hm u c s1 K1 (q.sub (fun p k => by simp only [bM, hi]; exact c9 _ k) (fun p k => by simpa only [bI] using k)) hh) 400 s K h
    exact⟨x,s',Jc h1,d⟩
  ·exact h.elim
 |.exit id,s,K,_,h=>⟨_,_,Ua,h⟩
 |.ret,s,K,_,h=>⟨_,_,T_,h⟩
 |.rangeFunc ..,_,_,_,h=>by simp[ed,Tree.holds]at h
 |.scope _,_,_,_,h=>by simp[ed,Tree.holds]at h
 |.label _,_,_,_,h=>by simp[ed,Tree.holds]at h
 |.goto _,_,_,_,h=>by simp[ed,Tree.holds]at h
 |.refuse _,_,_,_,h=>by simp[ed,Tree.holds]at h
end sound
end Go.AL

namespace Go.AL
open Go
variable [Dr]
inductive jl where
 |fail
 |ret (v:AV) (H:List ah)
 |ask (b:Bool) (t e:jl)
 |side (b:Bool) (t:jl)
def jl.holds(Q:AV→List ah→Prop):jl→Prop
 |.fail=>False
 |.ret v H=>Q v H
 |.ask b t e=>(b=true→t.holds Q)∧(b=false→e.holds Q)
 |.side b t=>b=true∧t.holds Q
def jl.two:jl→Option (AV × List ah)
 |.fail=>none
 |.ret v H=>some (v,H)
 |.ask b t e=>bif b then t.two else e.two
 |.side b t=>bif b then t.two else none
def jl.val:jl→Option AV
 |.fail=>none
 |.ret v _=>some v
 |.ask b t e=>bif b then t.val else e.val
 |.side b t=>bif b then t.val else none
theorem x8:∀{t:jl} {v:AV},t.val=some v→t.holds fun u _=>u=v
 |.fail,_,h=>by cases h
 |.ret u H,_,h=>by simp only[jl.val,aQ]at h; exact h
 | .ask b t e,v,h=>by
  cases b with
  |true=>exact⟨fun _=>x8 (t:=t) (v:=v) h,fun h=>by cases h⟩
  |false=>exact⟨fun h=>(nomatch h),fun _=>x8 (t:=e) (v:=v) h⟩
 | .side b t,v,h=>by
  cases b with
  |true=>exact And.intro rfl (x8 (t:=t) (v:=v) h)
  |false=>cases h
def CP(H:List ah):Option (List Kd)→AV→Option (Bool × AV)
 |none,a=>some (true,a)
 | some ks,a=>match a with
  |.nils | .lit (.slice none 0 0)=>some (true,.listF ks [])
  |.listF d rows=>if Kd.gE ks d then some (true,.listF ks rows) else none
  | .list w rows=>match bu ks rows with
   |some gs=>if w=ks.length then some (true,.listF ks gs) else none
   |none=>none
  | .vec w id ad off n=>match H[id]? with
   |some (.vec d v rows)=>if ad=v∧d.length=w∧off=0∧Kd.gE ks d=true then some (ae n rows.length,.listF ks rows) else none
   |_=>none
  |_=>none
def k9(H:List ah):List (Option (List Kd))→List AV→Option (Bool × List AV)
 |_,[]=>some (true,[])
 | [],a::as=>match k9 H [] as with
  |some (b,d)=>some (b,a::d)
  |none=>none
 | c::cs,a::as=>match CP H c a,k9 H cs as with
  |some (b,h),some (k,d)=>some (b&&k,h::d)
  |_,_=>none
theorem Vx{E:Env}(HE:ar E){H:List ah}(hH:E.H=aj H){k:Option (List Kd)}{a d:AV}{b:Bool}{c:Value}(h:CP H k a=some (b,d))(hb:b=true)(u:d.closed=true)(hr:rel E a c) :
  rel (E.bare E.w) d c:=by
 unfold CP at h;split at h
 ·cases h; exact dL (nS E) _ u hr
 ·rename_i ks
  split at h
  ·cases h
   simp only[rel,dV,G.rows]at hr⊢;obtain⟨base,rfl⟩:=hr;exact⟨base,0,rfl,aD _,.inl trivial⟩
  ·cases h
   simp only[rel,dV,G.rows]at hr⊢;subst hr;exact⟨none,0,rfl,aD _,.inl trivial⟩
  ·split at h
   ·rename_i v
    cases h;rw[Kd.iQ v];exact dL (nS E) _ rfl hr
   ·cases h
  ·split at h
   ·rename_i gs hg
    split at h
    ·rename_i hw
     cases h;rw[iN,pE hg];subst hw;exact dL (nS E) _ rfl hr
    ·cases h
   ·cases h
  ·split at h
   ·rename_i hid
    split at h
    ·rename_i y
     obtain⟨rfl,B,rfl,q⟩:=y;simp only[aQ,a7]at h;obtain⟨h1,rfl⟩:=h;subst hb;have q:=Kd.iQ q;subst q;exact JQ HE hH hid B (bk h1) hr
    ·cases h
   ·cases h
  ·cases h
theorem CQ{E:Env}(HE:ar E){H:List ah}(hH:E.H=aj H):∀{ks:List (Option (List Kd))} {as q:List AV} {b:Bool} {cs:List Value},k9 H ks as=some (b,q)→b=true →
  AV.bl q=true→af E as cs→af (E.bare E.w) q cs
 | ks,[],q,b,cs,h,_,_,hr=>by
  cases ks<;>simp only[k9]at h<;>cases h<;>(cases cs with
   |nil=>simp[af]
   |cons _ _=>simp[af]at hr)
 | [],a::as,q,b,cs,h,hb,d,hr=>by
  cases cs with
  |nil=>simp[af]at hr
  | cons c cs =>
   simp only[k9]at h;simp only[af]at hr;split at h
   ·rename_i b1 u h1
    cases h;simp only[AV.bl,ax]at d;simp only[af];exact⟨dL (nS E) _ d.1 hr.1,CQ HE hH h1 hb d.2 hr.2⟩
   ·cases h
 | k::ks,a::as,q,b,cs,h,hb,d,hr=>by
  cases cs with
  |nil=>simp[af]at hr
  | cons c cs =>
   simp only[k9]at h;simp only[af]at hr;split at h
   ·rename_i b0 a0 b1 u h0 h1
    simp only[aQ,a7]at h;obtain⟨v,rfl⟩:=h;subst v;simp only[ax]at hb;simp only[AV.bl,ax]at d;simp only[af];exact⟨Vx HE hH h0 hb.1 d.1 hr.1,CQ HE hH h1 hb.2 d.2 hr.2⟩
   ·cases h
def Tree.toR(P:Program)(rs:List ResultVar) (ks:List (Option (List Kd))):Tree→jl
 |.fail=>.fail
 | .done x s=>match x with
  |.exit _=>.fail
  | _=>match ir P s.den rs with
   | some vs=>match k9 s.H ks vs with
    |some (b,d)=>.side b (.ret (df d) s.H)
    |none=>.fail
   |none=>.fail
 |.ask b t e=>.ask b (t.toR P rs ks) (e.toR P rs ks)
 |.side b t=>.side b (t.toR P rs ks)
theorem toR_holds{P:Program}{rs:List ResultVar}{ks:List (Option (List Kd))}{Q:AV→List ah→Prop}:∀{t:Tree},(t.toR P rs ks).holds Q →
  t.holds fun x s=>(x=.normal∨x=.ret)∧∃ vs d,ir P s.den rs=some vs∧k9 s.H ks vs=some (true,d)∧Q (df d) s.H
 |.fail,h=>h
 | .done x s,h=>by
  have key:∀ y,(y=bL.normal∨y=bL.ret)→(match ir P s.den rs with
   | some vs=>match k9 s.H ks vs with
    |some (b,d)=>jl.side b (.ret (df d) s.H)
    |none=>.fail
   |none=>.fail).holds Q→(y=.normal∨y=.ret)∧∃ vs d,ir P s.den rs=some vs∧k9 s.H ks vs=some (true,d)∧Q (df d) s.H:=by
   intro y k h;split at h
   ·rename_i vs q
    split at h
    ·rename_i b d u
     simp only[jl.holds]at h;obtain⟨rfl,h⟩:=h;exact⟨k,vs,d,q,u,h⟩
    ·exact h.elim
   ·exact h.elim
  simp only[Tree.toR]at h;simp only[Tree.holds];cases x with
  |exit i=>exact h.elim
  |normal=>exact key _ (.inl rfl) h
  |ret=>exact key _ (.inr rfl) h
 |.ask _ _ _,h=>⟨fun hb=>toR_holds (h.1 hb),fun hb=>toR_holds (h.2 hb)⟩
 |.side _ _,h=>⟨h.1,toR_holds h.2⟩
def x9(P:Program)(τ:ak)(L:LT)(fn:Func) (ks:List (Option (List Kd))) (args:List AV) (H:List ah):jl :=
 match fn.body with
 |some c=>(ed P τ L c ⟨jh args fn.ntmps,H⟩ .done).toR P fn.results.toList ks
 |none=>.fail
theorem J6{E:Env}{vs:List AV}{us:List Value}(h:af E vs us):rel E (df vs) (if h:us.toArray.size=1 then us.toArray[0] else .tuple us.toArray):=by
 cases us with
 | nil =>
  cases vs with
  |nil=>simp[df,rel,af]
  |cons _ _=>simp[af]at h
 | cons u us =>
  cases us with
  | nil =>
   cases vs with
   |nil=>simp[af]at h
   | cons v vs =>
    cases vs with
    |nil=>simp only[af]at h; simpa[df]using h.1
    |cons _ _=>simp[af]at h
  | cons d us =>
   cases vs with
   |nil=>simp[af]at h
   | cons v vs =>
    cases vs with
    |nil=>simp[af]at h
    | cons v2 vs =>
     simp only[df,rel];exact⟨(u::d::us).toArray,by simp,h⟩
theorem Vy{P:Program}{f:FuncId}{fn:Func}{c:Code}{args:List AV}{x:bL}{s':al}{ks:List (Option (List Kd))}{vs d:List AV}
  (hf:P.funcs[f]? = some fn) (hb:fn.body=some c) (hs:cM P 0 c ⟨jh args fn.ntmps,[]⟩ x s'.den) (u:x=.normal∨x=.ret) (hr:ir P s'.den fn.results.toList=some vs)
  (hc:k9 s'.H ks vs=some (true,d)) (ha:AV.bl args=true) (M:AV.bl d=true):cR P f args (df d):=by
 intro H E cargs hH HE N
 let E0:Env:={ w:=E.w,H:=[],loc:=[],X:=(E.X.or E.own).re dK }
 have O:∀ b,¬ E0.own b:=by rintro b (⟨id,c,hid⟩|⟨l,k,c,hk⟩); simp[E0]at hid; simp[E0,dK]at hk
 have hC:E.bF E0:=⟨fun b hb=>⟨⟨hb.1,O b,fun u=>u.elim hb.2.2 hb.2.1⟩,rfl⟩⟩
 have J:ar E0:=by
  refine⟨rfl,?_,?_,?_,?_,HE.fb.bF hC,fun l k l' k' b m n hk=>by simp[E0,dK]at hk,fun i b m l k n hi=>by simp[E0]at hi,fun l k b m hk=>by simp[E0,dK]at hk,fun i j o o' l hi=>by simp[E0]at hi,fun l _ k q hk=>by simp[E0,dK]at hk⟩
  ·intro i j b m n hi; simp[E0]at hi
  ·intro i b m hi; simp[E0]at hi
  ·rintro b (u | ho)
   ·exact HE.X b u
   ·exact(HE.w5 ho).1
  ·intro i o hi; simp[E0]at hi
 refine B8 hf hb ?_;have V:=rq J;have W:=mG V _ (ny hC args ha N);have hrel:bP ⟨jh args fn.ntmps,[]⟩ { E0 with X:=⟨E0.X.x,fun _=>False,E0.X.r⟩ } { tmps:=cargs++Array.replicate (fn.ntmps-cargs.size) undef,defers:=[] }:=by
  refine⟨rfl,?_,pd _ _,J.cH V⟩;simp only[jh,Array.toList_append,Array.toList_replicate];refine j7 W ?_;have:=gb N;have e:args.length=cargs.size:=by simpa using this
  rw[e];have:=ua (E:={ E0 with X:=⟨E0.X.x,fun _=>False,E0.X.r⟩ }) (bO (fn.ntmps-cargs.size) undef);simpa using this
 refine wpIn_mono (hs none (B6 _) { E0 with X:=⟨E0.X.x,fun _=>False,E0.X.r⟩ } _ hrel) fun e a1 w0 ⟨h3,loc',X',B,I⟩=>?_;refine⟨by subst h3; rcases u with rfl|rfl; exact .inl rfl; exact .inr rfl,X',B.defers,fun y k1 k2 k3=>?_⟩;obtain⟨B,I⟩:=B9 J B I k1 k2 k3;obtain⟨us,g1,g2⟩:=xJ B fn.results.toList vs hr;have hres:(results fn a1.tmps).run P y=.ok (if h:us.toArray.size=1 then us.toArray[0] else .tuple us.toArray) y:=by
  rw[xK];simp only[Sem.run_bind];rw[Array.mapM_eq_mapM_toList,Sem.run_map,g1];rfl
 have g3:=CQ B.heap rfl hc rfl M g2;have g4:=J6 g3;have U:Ext E.w y:=⟨I.size,fun b hb=>I.same b hb (O b),I.env⟩
 have hcl:(df d).closed=true:=by
  cases d with
  |nil=>rfl
  | cons v vs =>
   cases vs with
   |nil=>simpa[df,AV.bl]using M
   |cons v2 vs=>simpa only[df,AV.closed]using M
 have g5:rel { E with w:=y } (df d) (if h:us.toArray.size=1 then us.toArray[0] else .tuple us.toArray) :=
  dL (E:=({ w:=y,H:=aj s'.H,loc:=loc',X:=E0.X.re X'.r }:Env).bare y) (E':={ E with w:=y }) ⟨fun b hb=>⟨⟨hb.1,fun ho=>hb.2.2 (Or.inr ho),fun u=>hb.2.2 (Or.inl u)⟩,rfl⟩⟩ _ hcl g4
 refine⟨_,hres,_,df d,H,rfl,⟨rfl,rfl⟩,E.loc,E.X.r,?_,?_,?_⟩
 ·rw[←hH]; exact g5
 ·rw[←hH]; exact HE.ext U
 ·rw[←hH]; exact Env.jd U
theorem Vz{vs:List AV}{v:AV}(h:df vs=v)(d:v.closed=true):AV.bl vs=true:=by
 subst h;cases vs with
 |nil=>rfl
 | cons v vs =>
  cases vs with
  |nil=>simpa[df,AV.bl]using d
  |cons v2 vs=>simpa only[df,AV.closed]using d
theorem dD{P:Program}{τ:ak}{L:LT}(hm:P.follows .mixedOrders=true)(k:aq P τ){f:FuncId}{fn:Func} (ks:List (Option (List Kd))) {args:List AV} {v:AV}
  (q:∀ c,fn.body=some c→aA P 0 L c)
  (u:P.funcs[f]? = some fn) (ha:AV.bl args=true) (y:v.closed=true) (h:(x9 P τ L fn ks args []).val=some v):cR P f args v:=by
 have h:=x8 h;unfold x9 at h;split at h
 ·rename_i c hb
  obtain⟨x,s',h1,B,vs,M,I,J,d⟩:=gV hm k c _ _ (q c hb) (toR_holds h);rw[←d];exact Vy u hb h1 B I J ha (Vz d y)
 ·exact h.elim
end Go.AL

namespace Go.AL
open Go
variable [Dr]
def J7(ms:List Nat):ak:={ pf:=fun g=>ms.any fun t=>ae g (t+1000000),T:=fun _ _=>none,W:=fun _ _ _=>none,C:=fun _ _ _=>[],U:=fun _=>false }
theorem VA(P:Program)(ms:List Nat):aq P (J7 ms):=⟨fun _ _ _ _ h=>(nomatch h),fun _ _ _ _ _ _ h=>(nomatch h),fun _ _ _ _ _ _ h=>(nomatch h),fun _ _ _ _ h=>(nomatch h),fun _ _ _ _=>⟨rfl,rfl⟩,fun _ h=>(nomatch h)⟩
def ak.add(τ:ak)(f:FuncId)(c:List AV→Option (Bool × AV)):ak where
 pf g:=match ae g f with
  |true=>true
  |false=>τ.pf g
 T g args:=match ae g f with
  |true=>c args
  |false=>τ.T g args
 W:=τ.W
 C:=τ.C
 I:=τ.I
 N:=τ.N
 U:=τ.U
theorem aq.add{P:Program}{τ:ak}(h:aq P τ){f:FuncId}{c:List AV→Option (Bool × AV)}(hb:fc P f=true)(k:∀ args b v,c args=some (b,v)→b=true→cR P f args v) :
  aq P (τ.add f c):=by
 refine⟨fun g args b v hg d=>?_,h.W,h.C,h.I,h.F⟩;simp only[ak.add]at hg;split at hg
 ·rename_i e
  have e:=bk e;subst e;exact⟨hb,k args b v hg d⟩
 ·exact h.T g args b v hg d
def az:LT:=⟨fun _ _=>none,fun _ s=>(true,s),fun _ _=>none⟩
theorem aL(P:Program)(m:Nat)(c:Code):aA P m az c:=⟨fun _ _ _ _ _ h=>(nomatch h),fun _ _ _=>be.refl _,fun _ _ _ _ _ h=>(nomatch h)⟩
def ak.inline(P:Program)(τ:ak)(f:FuncId)(fn:Func) (ks:List (Option (List Kd))):ak:=τ.add f fun args =>
 match (x9 P τ az fn ks args []).val with
 | some v=>match AV.bl args&&v.closed with
  |true=>some (true,v)
  |false=>none
 |none=>none
theorem aq.inline{P:Program}{τ:ak}(h:aq P τ)(hm:P.follows .mixedOrders=true){f:FuncId}{fn:Func}(q:P.funcs[f]? = some fn)(hb:fc P f=true) (ks:List (Option (List Kd))) :
  aq P (τ.inline P f fn ks):=h.add hb fun args b v d _=>by
 split at d
 ·rename_i u hu
  split at d
  ·rename_i k
   simp only[ax]at k;cases d;exact dD hm h ks (fun _ _=>aL _ _ _) q k.1 k.2 hu
  ·cases d
 ·cases d
abbrev aS(s:ByteArray):AV:=.lit (.string s)
end Go.AL

namespace Go.AL
open Go
variable [Dr]
def uJ(slot:Nat)(ks:List Kd)(s:al):al:=⟨s.fr.set slot (.vec ks.length s.H.length 0 0 0),s.H++[.vec ks 0 []]⟩
def isNil:AV→Bool
 |.nils | .lit (.slice none 0 0)=>true
 |_=>false
theorem J8{E:Env}{a:AV}{c:Value}(h:isNil a=true)(hr:rel E a c):∃ base,c=.slice base 0 0:=by
 unfold isNil at h;split at h
 ·simpa only[rel]using hr
 ·simp only[rel]at hr; exact⟨none,hr⟩
 ·cases h
theorem J9{m:Nat}{slot:Nat}{ks:List Kd}{s:al}(h:isNil (s.fr.getD slot .undef)=true):be m s.den (uJ slot ks s).den:=fun E a d=>by
 have hH:E.H=aj s.H:=d.H;have hlen:E.H.length=s.H.length:=by rw[hH,eD]
 have hle:E.le (E.push E.w (.vec ks.length 0 []) none):=Env.jC d.heap.len (Ext.refl _) (fun b n h=>by cases h);have u:aJ (E.push E.w (.vec ks.length 0 []) none) E.H.length (.vec ks.length 0 []):=by
  simp only[aJ,Env.push];refine .inl ⟨?_,trivial⟩;rw[hZ (by rw[d.heap.len]; exact aD _),d.heap.len,mn];rfl
 have y:ar (E.push E.w (.vec ks.length 0 []) none):=ar.push d.heap (Ext.refl _) (fun b n h=>by cases h) u;have q:(uJ slot ks s).den.H=E.H++[.vec ks.length 0 []]:=by
  rw[hH];simp[uJ,al.den,aj,ah.den]
 refine⟨E.loc++[none],E.X,?_,?_⟩
 ·rw [q]
  refine⟨q.symm,?_,d.defers,y⟩;have h':=dw hle _ d.fr;have I:∀(fr:List AV) (cs:List Value) (i:Nat),af E fr cs→isNil (fr.getD i .undef)=true→af (E.push E.w (.vec ks.length 0 []) none) fr cs →
    af (E.push E.w (.vec ks.length 0 []) none) (fr.set i (.vec ks.length s.H.length 0 0 0)) cs:=by
   intro fr
   induction fr with
   |nil=>intro cs i h0 h1 k; exact k
   | cons b fr J =>
    intro cs i h0 h1 k;cases cs with
    |nil=>simp[af]at h0
    | cons c cs =>
     simp only[af]at h0 k;cases i with
     | zero =>
      simp only[List.set_cons_zero,af];refine⟨?_,k.2⟩;obtain⟨base,rfl⟩:=J8 (by simpa using h1) h0.1;have hg:(E.push E.w (.vec ks.length 0 []) none).H[s.H.length]? = some (.vec ks.length 0 []):=by
       simp only[Env.push];rw[hZ (by omega),hlen,mn];rfl
      have B:(E.push E.w (.vec ks.length 0 []) none).loc[s.H.length]? = some none:=by
       simp only[Env.push];rw[hZ (by rw[d.heap.len]; omega),d.heap.len,hlen,mn];rfl
      simp only[rel];refine⟨⟨base,0,rfl,aD _,fun h=>absurd h (qz _)⟩,⟨_,hg,rfl,fun v h=>eI _⟩,fun _=>⟨fun _=>⟨trivial,trivial,base,rfl⟩,fun b m hb=>?_⟩⟩;rw[B]at hb;cases hb
     | succ i =>
      simp only[List.set_cons_succ,af];exact⟨k.1,J cs i h0.2 (by simpa using h1) k.2⟩
  exact I s.fr _ slot d.fr h h'
 ·rw [q]
  exact hle.toM
def cD(fn:Func)(k:Nat):Code:=match fn.body with
 | some c=>match (bM c).find? fun p=>ae p.1 k with
  |some p=>p.2
  |none=>.skip
 |none=>.skip
theorem x_{P:Program}{f:FuncId}{vs:List Value}{u:Value}(h:∀ w,Calls P f vs.toArray w fun e w'=>e=.returned u∧Ext w w'):cR P f (vs.map .lit) (.lit u):=by
 intro H E cargs hH HE k;have e:cargs=vs.toArray:=by
  have:∀(vs us:List Value),af E (vs.map AV.lit) us→us=vs:=by
   intro vs
   induction vs with
   | nil=>intro us h; cases us with
    |nil=>rfl
    |cons _ _=>simp[af]at h
   | cons v vs q =>
    intro us h;cases us with
    |nil=>simp[af]at h
    | cons u us =>
     simp only[dg,af,rel]at h;rw[h.1,q us h.2]
  have:=this vs cargs.toList k;rw[←this]
 rw[e];refine(h E.w).mono ?_;rintro _ w' ⟨rfl,d⟩;refine⟨u,.lit u,H,rfl,⟨rfl,rfl⟩,E.loc,E.X.r,by simp[rel],?_,?_⟩
 ·rw[←hH]; exact HE.ext d
 ·rw[←hH]; exact Env.jd d
end Go.AL

namespace Go.AL
open Go
variable [Dr]
def mL(ks:List Kd):AV→Option (List (List G))
 |.nils | .lit (.slice none 0 0)=>some []
 |.emptyS _=>some []
 |.listF d rows=>if Kd.gE ks d then some rows else none
 | .list w rows=>match bu ks rows with
  |some gs=>if w=ks.length then some gs else none
  |none=>none
 |_=>none
def CR(ks:List Kd):AV→Option (List G)
 |.agg cells=>fW ks cells
 |_=>none
theorem J_{E:Env}{ks:List Kd}{a:AV}{rows:List (List G)}{c:Value}(h:mL ks a=some rows)(hr:rel E a c):rel E (.listF ks rows) c:=by
 unfold mL at h;split at h
 ·cases h
  simp only[rel,dV,G.rows]at hr⊢;obtain⟨base,rfl⟩:=hr;exact⟨base,0,rfl,aD _,.inl trivial⟩
 ·cases h
  simp only[rel,dV,G.rows]at hr⊢;subst hr;exact⟨none,0,rfl,aD _,.inl trivial⟩
 ·cases h
  simp only[rel,dV,G.rows]at hr⊢;obtain⟨base,cap,rfl,_⟩:=hr;exact⟨base,cap,rfl,eI _,.inl trivial⟩
 ·split at h
  ·rename_i d
   cases h;rw[Kd.iQ d];exact hr
  ·cases h
 ·split at h
  ·rename_i gs hg
   split at h
   ·rename_i hw
    cases h;rw[iN,pE hg];subst hw;exact hr
   ·cases h
  ·cases h
 ·cases h
theorem J'{ks:List Kd}{a:AV}{r:List G}(h:CR ks a=some r):a=.agg (aH ks r):=by
 unfold CR at h;split at h
 ·rw[kf h]
 ·cases h
end Go.AL

namespace Go.AL
open Go
variable [Dr]
structure bN where
 ids:List Nat
 sh:List Nat
 base:Nat
def bN.at(e:bN)(j:Nat):Nat:=match e.ids[j]? with
 |some i=>i
 |none=>e.base+(j-e.ids.length)
def bN.up(e:bN)(j:Nat):Nat:=e.sh.getD j 0
mutual
def AV.cd(e:bN):AV→AV
 |.agg cs=>.agg (AV.jL e cs)
 |.tuple cs=>.tuple (AV.jL e cs)
 |.clo f cs=>.clo f (AV.jL e cs)
 |.ptr id ad k row col=>.ptr (e.at id) (ad+e.up id) k row col
 |.vec k id ad off n=>.vec k (e.at id) (ad+e.up id) off n
 |.map id=>.map (e.at id)
 |.sub ..=>.undef
 |a=>a
def AV.jL(e:bN):List AV→List AV
 | []=>[]
 |a::as=>a.cd e::AV.jL e as
end
def ab.cd(e:bN)(j:Nat):ab→ab
 |.box cells=>.box (AV.jL e cells)
 |.vec k v rows=>.vec k (v+e.up j) rows
 |o=>o
theorem Ka(e:bN):∀(as:List AV),(AV.jL e as).length=as.length
 | []=>rfl
 |_::as=>by simp[AV.jL,Ka e as]
mutual
def AV.bJ:AV→Bool
 |.agg cs | .tuple cs | .clo _ cs=>AV.cw cs
 |.list .. | .listF .. | .cptr _=>false
 |_=>true
def AV.cw:List AV→Bool
 | []=>true
 |a::as=>a.bJ&&AV.cw as
end
structure pN (S:Bool) (e:bN) (E E':Env):Prop where
 ok:S=false→∀ b,E.iL b→E'.iL b∧E'.w.heap[b]? = E.w.heap[b]?
 past:∀ j ad,E.past j ad→E'.past (e.at j) (ad+e.up j)
 live:∀ j ad,E.past j ad→E'.live (e.at j) (ad+e.up j)→E.live j ad∧E'.loc[e.at j]? = E.loc[j]?
theorem pN.bF{e:bN}{E E':Env}(h:pN false e E E'):E.bF E':=⟨h.ok rfl⟩
mutual
theorem CS{S:Bool}{e:bN}{E E':Env}(h:pN S e E E'):∀(a:AV) {c:Value},(S=true→a.bJ=true)→rel E a c→rel E' (a.cd e) c
 |.undef,_,_,_=>by simp[AV.cd,rel]
 |.lit v,c,_,hr=>by simpa only[AV.cd,rel]using hr
 |.nils,c,_,hr=>by simpa only[AV.cd,rel]using hr
 | .list k rows,c,q,hr=>by
  cases S with
  |true=>exact absurd (q rfl) (by simp[AV.bJ])
  |false=>exact dL h.bF (.list k rows) rfl hr
 | .listF ks rows,c,q,hr=>by
  cases S with
  |true=>exact absurd (q rfl) (by simp[AV.bJ])
  |false=>exact dL h.bF (.listF ks rows) rfl hr
 | .cptr cells,c,q,hr=>by
  cases S with
  |true=>exact absurd (q rfl) (by simp[AV.bJ])
  |false=>exact dL h.bF (.cptr cells) rfl hr
 |.ifc,c,_,hr=>by simpa only[AV.cd,rel]using hr
 |.emptyS n,c,_,hr=>by simpa only[AV.cd,rel]using hr
 |.sub ..,c,_,_=>by simp only[AV.cd,rel]
 | .agg cells,c,q,hr=>by
  simp only[rel]at hr;simp only[AV.cd,rel];obtain⟨cs,y,h1,d⟩:=hr;exact⟨cs,y,h1,ya h cells (fun e=>by simpa only[AV.bJ]using q e) d⟩
 | .tuple cells,c,q,hr=>by
  simp only[rel]at hr;simp only[AV.cd,rel];obtain⟨cs,y,d⟩:=hr;exact⟨cs,y,ya h cells (fun e=>by simpa only[AV.bJ]using q e) d⟩
 | .clo f cells,c,q,hr=>by
  simp only[rel]at hr;simp only[AV.cd,rel];obtain⟨cs,y,d⟩:=hr;exact⟨cs,y,ya h cells (fun e=>by simpa only[AV.bJ]using q e) d⟩
 | .ptr id ad k row col,c,_,hr=>by
  simp only[rel]at hr;simp only[AV.cd,rel];obtain⟨h1,d,B⟩:=hr;refine⟨h1,h.past _ _ d,fun u=>?_⟩;obtain⟨g1,g2⟩:=h.live _ _ d u;rw[g2];exact B g1
 | .vec k id ad off n,c,_,hr=>by
  simp only[rel]at hr;simp only[AV.cd,rel];obtain⟨h1,d,B⟩:=hr;refine⟨h1,h.past _ _ d,fun u=>?_⟩;obtain⟨g1,g2⟩:=h.live _ _ d u;rw[g2];exact B g1
 | .map id,c,_,hr=>by
  simp only[rel]at hr;simp only[AV.cd,rel];obtain⟨h1,d,B⟩:=hr;have M:=h.past _ _ d;refine⟨h1,?_,fun u=>?_⟩
  ·obtain ⟨o, I, J⟩ := M
   exact⟨o,I,J.1,fun v U=>eI _⟩
  ·have hu:e.up id=0:=by
    obtain⟨o,I,J⟩:=M;obtain⟨o2,N,O⟩:=u;rw[I]at N;cases N;have:=J.2 0 O;omega
   obtain⟨g1,g2⟩:=h.live _ _ d (by rw[hu]; exact u);rw[g2];exact B g1
theorem ya{S:Bool}{e:bN}{E E':Env}(h:pN S e E E'):∀(as:List AV) {vs:List Value},(S=true→AV.cw as=true)→af E as vs→af E' (AV.jL e as) vs
 | [],[],_,_=>by simp[AV.jL,af]
 | [],_::_,_,hr=>by simp[af]at hr
 |_::_,[],_,hr=>by simp[af]at hr
 | a::as,v::vs,d,hr=>by
  simp only[AV.cw,ax]at d;simp only[af]at hr;simp only[AV.jL,af];exact⟨CS h a (fun e=>(d e).1) hr.1,ya h as (fun e=>(d e).2) hr.2⟩
end
structure KeepIn (e:bN) (E E':Env):Prop where
 ok:∀ b,E.iL b→E'.iL b∧E'.w.heap[b]? = E.w.heap[b]?
 w:E'.w=E.w
 loc:∀ j,j<e.ids.length→E'.loc[j]? = E.loc[e.at j]?
 jm:∀(j:Nat) o l,E'.H[j]? = some o→o.label=some l→E'.X.r l=E.X.r l
theorem KeepIn.bF{e:bN}{E E':Env}(h:KeepIn e E E'):E.bF E':=⟨h.ok⟩
structure yb (e:bN) (nT:List Nat) (E E':Env):Prop extends KeepIn e E E' where
 VB:∀ i,i∈nT→∀ b n,E.loc[i]? = some (some (b,n))→E'.iL b
def ef{α:Type}:List α→List Nat→List α→List α
 |l,i::is,x::xs=>ef (l.set i x) is xs
 |l,_,_=>l
theorem nU{α:Type}:∀(is:List Nat) (l xs:List α),(ef l is xs).length=l.length
 | [],_,_=>by simp[ef]
 |_::_,_,[]=>by simp[ef]
 |i::is,l,x::xs=>by simp[ef,nU is]
theorem yc{α:Type}:∀(is:List Nat) (l xs:List α) (n:Nat),n∉is→(ef l is xs)[n]? = l[n]?
 | [],_,_,_,_=>by simp[ef]
 |_::_,_,[],_,_=>by simp[ef]
 | i::is,l,x::xs,n,h=>by
  simp only[bR,not_or]at h;simp only[ef];rw[yc is _ xs n h.2,aR (Ne.symm h.1)]
theorem Kb{α:Type}:∀(is:List Nat) (l xs:List α) (j i:Nat) (x:α),is.Nodup→is[j]? = some i→xs[j]? = some x→i<l.length→(ef l is xs)[i]? = some x
 | [],_,_,_,_,_,_,h,_,_=>by simp at h
 |_::_,_,[],_,_,_,_,_,h,_=>by simp at h
 | k::is,l,y::xs,0,i,x,q,h1,d,u=>by
  simp at h1 d;subst h1; subst d;simp only[ef];have:k∉is:=(kK.1 q).1;rw[yc is _ xs k this,List.getElem?_set_self u]
 | k::is,l,y::xs,j+1,i,x,q,h1,d,u=>by
  simp only[ef];exact Kb is _ xs j i x (kK.1 q).2 (by simpa using h1) (by simpa using d) (by simpa using u)
def ab.yd(e:bN)(j:Nat):ab→Bool
 |.dead=>true
 |.vec _ _ _=>true
 |_=>ae (e.up j) 0
def ki(e:bN):Nat→List ab→List ab
 |_,[]=>[]
 |j,o::os=>o.cd e j::ki e (j+1) os
def kl(e:bN):Nat→List ab→Bool
 |_,[]=>true
 |j,o::os=>o.yd e j&&kl e (j+1) os
theorem CT(e:bN):∀(j:Nat) (os:List ab),(ki e j os).length=os.length
 |_,[]=>rfl
 |j,_::os=>by simp[ki,CT e (j+1) os]
theorem Kc(e:bN):∀(j:Nat) (os:List ab) (i:Nat),(ki e j os)[i]? = (os[i]?).map (ab.cd e (j+i))
 |_,[],i=>by simp[ki]
 |j,o::os,0=>by simp[ki]
 | j,o::os,i+1=>by
  simp only[ki,List.getElem?_cons_succ,Kc e (j+1) os i];rw[show j+1+i=j+(i+1) from by omega]
theorem Ke{e:bN}:∀{j:Nat} {os:List ab} {i:Nat} {o:ab},kl e j os=true→os[i]? = some o→o.yd e (j+i)=true
 |_,[],i,_,_,h=>by simp at h
 | j,_::os,0,o,h,hi=>by
  simp only[kl,ax]at h;simp at hi;subst hi;exact h.1
 | j,_::os,i+1,o,h,hi=>by
  simp only[kl,ax]at h;have:=Ke h.2 (by simpa using hi)
  rwa [show j+1+i=j+(i+1) from by omega]at this
theorem uK{e:bN}{j:Nat}{o:ab}(h:o.yd e j=true)(v:Nat):(o.cd e j).aF = some v↔∃ u,o.aF = some u∧v=u+e.up j:=by
 cases o with
 |dead=>simp[ab.cd,ab.aF]
 |dQ=>simp[ab.cd,ab.aF]
 |vec k u rows=>simp[ab.cd,ab.aF,eq_comm]
 | box cells =>
  have:=bk h;simp[ab.cd,ab.aF,this,eq_comm]
 | map es cl =>
  have:=bk h;simp[ab.cd,ab.aF,this,eq_comm]
 | iter s p =>
  have:=bk h;simp[ab.cd,ab.aF,this,eq_comm]
 | eJ l T B s =>
  have:=bk h;simp[ab.cd,ab.aF,this,eq_comm]
 | aO l k es cl =>
  have:=bk h;simp[ab.cd,ab.aF,this,eq_comm]
 | mm l es ms cl =>
  have:=bk h;simp[ab.cd,ab.aF,this,eq_comm]
theorem Kf(e:bN)(j:Nat)(o:ab):(o.cd e j).born=o.born:=by cases o<;>rfl
theorem Kg(e:bN)(j:Nat)(o:ab):(o.cd e j).label=o.label:=by cases o<;>rfl
theorem VC(e:bN)(j:Nat)(o:ab):(o.cd e j).dh=o.dh:=by cases o<;>rfl
theorem Kh{k:AV}(h:k.bJ=true):(fp k).1.bJ=true∧(fp k).2.bJ=true:=by
 unfold fp;split
 ·simpa only[AV.bJ,AV.cw,fD,ax]using h
 ·exact⟨h,rfl⟩
def ab.bJ:ab→Bool
 |.box cells=>AV.cw cells
 |.vec _ _ rows=>rows.all fun r=>AV.cw r
 |.map es _=>es.all fun x=>x.1.bJ&&x.2.1.bJ
 | .aO _ _ es _=>es.all fun x=>x.1.bJ&&(match x.2.1 with
  |some rows=>rows.all fun r=>AV.cw r
  |none=>true)
 |.mm _ es ms _=>(es.all fun x=>x.1.bJ)&&ms.all fun m=>m.1.all fun x=>x.1.bJ&&x.2.1.bJ
 |_=>true
theorem Ki{S:Bool}{e:bN}{E E':Env}(h:pN S e E E'){b:Nat}(hb:E'.w.heap[b]? = E.w.heap[b]?):∀(as:List AV) {o:Nat},(S=true→AV.cw as=true)→cn E as b o→cn E' (AV.jL e as) b o
 | [],_,_,_=>by simp[AV.jL,cn]
 | a::as,o,d,hr=>by
  simp only[AV.cw,ax]at d;simp only[cn]at hr;simp only[AV.jL,cn];obtain⟨⟨v,h1,k,q⟩,u⟩:=hr;exact⟨⟨v,by rw[World.qF hb]; exact h1,k,CS h a (fun e=>(d e).1) q⟩,Ki h hb as (fun e=>(d e).2) u⟩
mutual
theorem ye{E E':Env}:∀(a:AV) {c:Value},a.closed=true→a.bJ=true→rel E a c→rel E' a c
 |.undef,_,_,_,_=>by simp[rel]
 |.lit v,c,_,_,hr=>by simpa only[rel]using hr
 |.nils,c,_,_,hr=>by simpa only[rel]using hr
 |.ifc,c,_,_,hr=>by simpa only[rel]using hr
 |.emptyS n,c,_,_,hr=>by simpa only[rel]using hr
 |.list ..,_,_,h,_ | .listF ..,_,_,h,_ | .cptr _,_,_,h,_=>by simp[AV.bJ]at h
 |.ptr ..,_,h,_,_ | .vec ..,_,h,_,_ | .map _,_,h,_,_=>by simp[AV.closed]at h
 | .agg cells,c,d,k,hr=>by
  simp only[rel]at hr⊢;obtain⟨cs,e,h1,q⟩:=hr;exact⟨cs,e,h1,yf cells (by simpa only[AV.closed]using d) (by simpa only[AV.bJ]using k) q⟩
 | .tuple cells,c,d,k,hr=>by
  simp only[rel]at hr⊢;obtain⟨cs,e,q⟩:=hr;exact⟨cs,e,yf cells (by simpa only[AV.closed]using d) (by simpa only[AV.bJ]using k) q⟩
 | .clo f cells,c,d,k,hr=>by
  simp only[rel]at hr⊢;obtain⟨cs,e,q⟩:=hr;exact⟨cs,e,yf cells (by simpa only[AV.closed]using d) (by simpa only[AV.bJ]using k) q⟩
theorem yf{E E':Env}:∀(as:List AV) {vs:List Value},AV.bl as=true→AV.cw as=true→af E as vs→af E' as vs
 | [],[],_,_,_=>by simp[af]
 | [],_::_,_,_,hr=>by simp[af]at hr
 |_::_,[],_,_,hr=>by simp[af]at hr
 | a::as,v::vs,d,h,hr=>by
  simp only[AV.bl,AV.cw,ax]at d h;simp only[af]at hr⊢;exact⟨ye a d.1 h.1 hr.1,yf as d.2 h.2 hr.2⟩
end
theorem Kj{E E':Env}{b:Nat}(hb:E'.w.heap[b]? = E.w.heap[b]?):∀(as:List AV) {o:Nat},AV.bl as=true→AV.cw as=true→cn E as b o→cn E' as b o
 | [],_,_,_,_=>by simp[cn]
 | a::as,o,d,h,hr=>by
  simp only[AV.bl,AV.cw,ax]at d h;simp only[cn]at hr⊢;obtain⟨⟨v,h1,k,q⟩,u⟩:=hr;exact⟨⟨v,by rw[World.qF hb]; exact h1,k,ye a d.1 h.1 q⟩,Kj hb as d.2 h.2 u⟩
theorem CU{E E':Env}{b k:Nat}(hb:E'.w.heap[b]? = E.w.heap[b]?):∀(rs:List (List AV)) {o:Nat},eS rs→(rs.all fun r=>AV.cw r)=true→cA E k rs b o→cA E' k rs b o
 | [],_,_,_,_=>by simp[cA]
 | r::rs,o,h,d,hr=>by
  simp only[kI,ax]at d;simp only[cA]at hr⊢;exact⟨hr.1,Kj hb r (h r cO) d.1 hr.2.1,CU hb rs (fun x q=>h x (c9 _ q)) d.2 hr.2.2⟩
theorem uL{E E':Env}:∀{es:List (AV × AV × Nat)} {ms:List MapEntry},(es.all fun x=>x.1.bJ&&x.2.1.bJ)=true→bB E es ms→bB E' es ms
 | [],[],_,_=>by simp[bB]
 | (k,v,n)::es,e::ms,d,hr=>by
  simp only[kI,ax]at d;simp only[bB]at hr⊢;obtain⟨h1,u,y,h,q,B⟩:=hr;exact⟨ye k h d.1.1 h1,ye v q d.1.2 u,y,h,q,uL d.2 B⟩
 | [],_::_,_,hr=>by simp[bB]at hr
 |_::_,[],_,hr=>by simp[bB]at hr
theorem iR{E E':Env}(h:E.bF E'):∀{es:List (AV × AV × Nat)} {ms:List MapEntry},bB E es ms→bB E' es ms
 | [],[],_=>by simp[bB]
 | (k,v,n)::es,e::ms,hr=>by
  simp only[bB]at hr⊢;obtain⟨h1,u,y,d,q,B⟩:=hr;exact⟨dL h k d h1,dL h v q u,y,d,q,iR h B⟩
 | [],_::_,hr=>by simp[bB]at hr
 |_::_,[],hr=>by simp[bB]at hr
theorem VD{S:Bool}{e:bN}{E E':Env}(h:pN S e E E'){j:Nat}{o:ab}(U:S=true→o.bJ=true)(J:E'.loc[e.at j]? = E.loc[j]?) (hb:∀ b n,E.loc[j]? = some (some (b,n))→E'.w.heap[b]? = E.w.heap[b]?)
  (hg:∀ l,o.label=some l→E'.X.r l=E.X.r l∧∀(h g m:Nat),(E.X.r l)[h]? = some (some (some (g,m)))→E'.w.heap[g]? = E.w.heap[g]?)
  (ho:aJ E j o):aJ E' (e.at j) (o.cd e j):=by
 cases o with
 |dead=>simp only[ab.cd,aJ]at *; rw[J]; exact ho
 |dQ=>simp only[ab.cd,aJ]at *; rw[J]; exact ho
 | box cells =>
  simp only[ab.cd,aJ]at *;obtain⟨b,n,h1,d,u⟩:=ho;exact⟨b,n,by rw[J,h1],by rw[Ka]; exact qH (hb b n h1) d,Ki h (hb b n h1) cells (fun e=>by simpa only[ab.bJ]using U e) u⟩
 | vec k ad rows =>
  simp only[ab.cd,aJ]at *;rcases ho with⟨h1,d⟩|⟨b,m,h1,d,u,M,I⟩
  ·exact .inl ⟨by rw[J,h1],d⟩
  ·refine .inr ⟨b, m, by rw [J, h1], qH (hb b m h1) d, u, M, ?_⟩
   cases S with
   |true=>exact CU (hb b m h1) rows M (by simpa only[ab.bJ]using U rfl) I
   |false=>exact kO h.bF rows M (hb b m h1) I
 | map es clock =>
  simp only[ab.cd,aJ]at *;obtain⟨b,n,ms,h1,d,u⟩:=ho;refine⟨b,n,ms,by rw[J,h1],by rw[hb b n h1,d],?_⟩;cases S with
  |true=>exact uL (by simpa only[ab.bJ]using U rfl) u
  |false=>exact iR h.bF u
 | iter s pos =>
  simp only[ab.cd,aJ]at *;obtain⟨b,n,h1,d⟩:=ho;exact⟨b,n,by rw[J,h1],by rw[hb b n h1,d]⟩
 | eJ l T B s =>
  simp only[ab.cd,aJ]at *;obtain⟨b,n,p,v,k,q,h1,d,u,M,I,h6⟩:=ho;obtain⟨g1,g2⟩:=hg l rfl;exact⟨b,n,p,v,k,q,by rw[J,h1],by rw[hb b n h1,d],u,by rw[g1,M],by rw[g1]; exact I,Ba (fun g m e=>g2 k g m (by rw[M,e])) h6⟩
 | aO l k es clock =>
  simp only[ab.cd,aJ]at *;obtain⟨b,n,ms,h1,d,u,M⟩:=ho;obtain⟨g1,g2⟩:=hg l rfl;have O:S=true→∀ x∈es,x.1.bJ=true∧∀ rows,x.2.1=some rows→(rows.all fun r=>AV.cw r)=true:=fun e x N=>by
   have I:=dq.1 (by simpa only[ab.bJ]using U e) x N;simp only[ax]at I;exact⟨I.1,fun rows hr=>by rw[hr]at I; exact I.2⟩
  refine⟨b,n,ms,by rw[J,h1],by rw[hb b n h1,d],?_,tG (fun h g m hk=>⟨by rw[g1]; exact hk,g2 h g m hk⟩) (fun i x rows hi N b W hc hr=>?_) M⟩
  ·cases S with
   | true =>
    refine uL (dq.2 fun x N=>?_) u;obtain⟨y,V,rfl⟩:=cV.1 N;simp[(Kh (O rfl y V).1).1,(Kh (O rfl y V).1).2]
   |false=>exact iR h.bF u
  ·cases S with
   |true=>exact CU W rows hc ((O rfl x (eB hi)).2 rows N) hr
   |false=>exact kO h.bF rows hc W hr
 | mm l es ms clock =>
  simp only[ab.cd,aJ]at *;obtain⟨b,n,mes,h1,d,u,M⟩:=ho;obtain⟨g1,g2⟩:=hg l rfl;have O:S=true→(es.all fun x=>x.1.bJ)=true∧∀ m∈ms,(m.1.all fun x=>x.1.bJ&&x.2.1.bJ)=true:=fun e=>by
   have I:=U e;simp only[ab.bJ,ax]at I;exact⟨I.1,dq.1 I.2⟩
  refine⟨b,n,mes,by rw[J,h1],by rw[hb b n h1,d],?_,Bd g1 g2 (fun m hm q hq=>?_) M⟩
  ·cases S with
   | true =>
    refine uL (dq.2 fun x N=>?_) u;obtain⟨y,V,rfl⟩:=cV.1 N;simp[dq.1 (O rfl).1 y V,AV.bJ]
   |false=>exact iR h.bF u
  ·cases S with
   |true=>exact uL ((O rfl).2 m hm) hq
   |false=>exact iR h.bF hq
def nV(e:bN)(H H1:List ab):List ab:=ef H e.ids (ki e 0 H1)++(ki e 0 H1).drop e.ids.length
theorem gH{e:bN}{j:Nat}(h:j<e.ids.length):e.ids[j]? = some (e.at j):=by
 simp[bN.at,h]
theorem rN{e:bN}{j:Nat}(h:e.ids.length≤j):e.at j=e.base+(j-e.ids.length):=by
 simp[bN.at,List.getElem?_eq_none h]
theorem Kk{α:Type}{e:bN}{H xs:List α}(q:e.ids.Nodup)(d:∀ j,j<e.ids.length→e.at j<H.length)(hb:e.base=H.length)(u:e.ids.length≤xs.length)(j:Nat) :
  (ef H e.ids xs++xs.drop e.ids.length)[e.at j]? = xs[j]? := by
 rcases jy j e.ids.length with h|h
 ·rw [cK (by rw [nU]; exact d j h)]
  have k:j<xs.length:=dz h u;rw[Kb e.ids H xs j (e.at j) xs[j] q (gH h) (bt k) (d j h),bt k]
 ·rw [rN h, hb, hZ (by rw [nU]; omega), nU, oR]
  congr 1;omega
theorem CV{α:Type}{e:bN}{H xs:List α}{i:Nat}(hi:i∉e.ids)(d:i<H.length):(ef H e.ids xs++xs.drop e.ids.length)[i]? = H[i]? := by
 rw[cK (by rw[nU]; exact d),yc e.ids H xs i hi]
theorem nW{α:Type}{e:bN}{H xs:List α}{i:Nat}{x:α}(hb:e.base=H.length)(h:(ef H e.ids xs++xs.drop e.ids.length)[i]? = some x) :
  (i∉e.ids∧i<H.length∧H[i]? = some x)∨∃ j,i=e.at j:=by
 by_cases hm:i∈e.ids
 ·right
  obtain⟨j,k,rfl⟩:=ma hm;refine⟨j,?_⟩;have:=gH k;rw[bt k]at this;exact(gx this)
 ·rcases jy i H.length with d | q
  ·left
   exact⟨hm,d,by rw[CV hm d]at h; exact h⟩
  ·right
   refine⟨e.ids.length+(i-H.length),?_⟩;rw[rN (by omega)];omega
theorem frame(S:Bool)(nT:List Nat){P:Program}{f:FuncId}{args:List AV}{H0 H1 H:List ab}{v:AV}{e:bN}(hc:dB P f args H0 v H1)(hk:e.ids.length=H0.length)(hb:e.base=H.length)(hn:e.ids.Nodup)
  (hver:∀ j o,H0[j]? = some o→∃ o',H[e.at j]? = some o'∧o.born=true∧∀ v,o'.aF = some v↔∃ u,o.aF = some u∧v=u+e.up j)
  (hobj:∀ E E0,E.H=H→ar E→yb e nT E E0→E0.H=H0→∀ j o,H0[j]? = some o→aJ E0 j o) (hu1:kl e 0 H1=true) (hl1:H0.length≤H1.length) (hlent:S=false→nT=[])
  (hSv:S=true→v.bJ=true) (hSo:S=true→(H1.all ab.bJ)=true) (hdis:∀ i,i∈nT→i∉e.ids)
  (hlab:∀(j:Nat) o o',H0[j]? = some o→H[e.at j]? = some o'→o'.label=o.label) (hlab1:∀(j:Nat) o l,H1[j]? = some o→o.label=some l→∃ o0,H0[j]? = some o0∧o0.label=some l)
  (hlabm:∀(j:Nat) o o',H0[j]? = some o→H[e.at j]? = some o'→o'.dh=o.dh) {args0:List AV}
  (hargs0:∀ E E0 cs,E.H=H→ar E→yb e nT E E0→E0.H=H0→af E args0 cs→af E0 args cs) :
  dB P f args0 H (v.cd e) (nV e H H1):=by
 intro E cargs M HE hargs;have hElen:E.loc.length=H.length:=by rw[HE.len,M]
 have hat:∀ j,j<e.ids.length→e.at j<H.length:=fun j B=>by
  have hj':j<H0.length:=by omega
  obtain⟨o',h1,_⟩:=hver j H0[j] (bt hj');exact aI h1
 have hmem:∀ j,j<e.ids.length→e.at j∈e.ids:=fun j B=>eB (gH B)
 let pl:Nat→Prop:=fun l=>∃(j:Nat) (o:ab),H0[j]? = some o∧o.label=some l
 have:DecidablePred pl:=fun l=>Classical.propDecidable (pl l)
 let r0:Nat→List (Option (Option (Nat × Nat))):=fun l=>if pl l then E.X.r l else []
 have r0p:∀ l,pl l→r0 l=E.X.r l:=fun l h=>if_pos h;have r0n:∀ l (h:Nat) q,(r0 l)[h]? = some q→pl l∧(E.X.r l)[h]? = some q:=fun l h q W=>by
  by_cases y:pl l
  ·rw[r0p l y]at W; exact⟨y,W⟩
  ·rw[show r0 l=[] from if_neg y]at W; simp at W
 let X0:XS:=⟨fun b=>E.X b∨(∃ i c,i∉e.ids∧i∉nT∧E.loc[i]? = some (some (b,c)))∨∃(l h m:Nat),¬ pl l∧(E.X.r l)[h]? = some (some (some (b,m))),E.X.z,r0⟩
 let loc0:List (Option (Nat × Nat)):=e.ids.map fun i=>E.loc.getD i none
 let E0:Env:={ w:=E.w,H:=H0,loc:=loc0,X:=X0 }
 have hloc0:∀ j,j<e.ids.length→loc0[j]? = E.loc[e.at j]? := fun j B=>by
  simp only[loc0,bT,gH B,dO];have:e.at j<E.loc.length:=by rw[hElen]; exact hat j B
  rw[bG,bt this];rfl
 have hlen0:loc0.length=e.ids.length:=by simp[loc0]
 have hpast:∀ j ad,E.past (e.at j) ad→j<e.ids.length:=by
  rintro j ad ⟨o,ho,_⟩;rcases jy j e.ids.length with h|h
  ·exact h
  ·have := aI ho
   rw[M,rN h,hb]at this;omega
 have hobj0:∀ j,j<e.ids.length→∃ o o',H0[j]? = some o∧E.H[e.at j]? = some o'∧o.born=true∧∀ v,o'.aF = some v↔∃ u,o.aF = some u∧v=u+e.up j:=fun j B=>by
  have hj':j<H0.length:=by omega
  obtain⟨o',h1,d⟩:=hver j H0[j] (bt hj');exact⟨H0[j],o',bt hj',by rw[M]; exact h1,d⟩
 have hown0:∀ b,E0.own b→E.own b:=by
  rintro b (⟨id,c,hid⟩|⟨l,k,c,J⟩)
  case inr=>exact .inr ⟨l,k,c,(r0n l k _ J).2⟩
  have I:=aI hid;rw[show E0.loc=loc0 from rfl]at hid I;rw[hlen0]at I;rw[hloc0 id I]at hid;exact .inl ⟨_,c,hid⟩
 have hin:KeepIn e E E0:=by
  refine⟨fun b hbk=>⟨⟨hbk.1,fun ho=>hbk.2.1 (hown0 b ho),?_⟩,rfl⟩,rfl,hloc0,fun j o l h1 d=>r0p l ⟨j,o,h1,d⟩⟩;rintro(N|⟨i,c,_,_,hi⟩|⟨l,k,c,_,J⟩)
  ·exact hbk.2.2 N
  ·exact hbk.2.1 (.inl ⟨i,c,hi⟩)
  ·exact hbk.2.1 (.inr ⟨l,k,c,J⟩)
 have hpin:∀ j ad,E.past (e.at j) (ad+e.up j)→E0.past j ad:=fun j ad y=>by
  obtain⟨o,oo,h1,d,O,h3⟩:=hobj0 j (hpast j _ y);obtain⟨o',h4,h5⟩:=y;rw[d]at h4;cases h4;refine⟨o,h1,O,fun v hv=>?_⟩;have:=h5.2 (v+e.up j) ((h3 _).2 ⟨v,hv,rfl⟩);omega
 have hout0:∀ i b n,i∉e.ids→E.loc[i]? = some (some (b,n))→¬ E0.own b:=by
  rintro i b n hi O (⟨id,c',hid⟩|⟨l,k,c,J⟩)
  case inr=>exact HE.cP _ _ _ _ _ _ O (r0n l k _ J).2
  have I:=aI hid;rw[show E0.loc=loc0 from rfl]at hid I;rw[hlen0]at I;rw[hloc0 id I]at hid;have:=HE.inj _ _ _ _ _ O hid;exact hi (this▸hmem id I)
 have hlin:yb e nT E E0:=by
  refine⟨hin,fun i hi b n O=>⟨(HE.lt _ _ _ O).1,hout0 i b n (hdis i hi) O,?_⟩⟩;rintro(N|⟨U,c,_,d,hi'⟩|⟨l,k,c,_,J⟩)
  ·exact(HE.lt _ _ _ O).2 N
  ·have := HE.inj _ _ _ _ _ hi' O
   exact d (this▸hi)
  ·exact HE.cP _ _ _ _ _ _ O J
 have HE0:ar E0:=by
  have conv:∀{j:Nat} {x:Option (Nat × Nat)},loc0[j]? = some x→j<e.ids.length∧E.loc[e.at j]? = some x:=by
   intro j x N;have I:=aI N;rw[hlen0]at I;exact⟨I,by rw[←hloc0 j I]; exact N⟩
  refine⟨by rw[show E0.loc=loc0 from rfl,hlen0,hk],?_,?_,?_,?_,HE.fb.bF hin.bF,fun l k l' k' b m n h1 d=>HE.eC l k l' k' b m n (r0n l k _ h1).2 (r0n l' k' _ d).2,fun i b m l k n hi d=>HE.cP _ b m l k n (conv hi).2 (r0n l k _ d).2,?_,?_,?_⟩
  ·intro i j b m n hi B
   obtain⟨i1,i2⟩:=conv hi
   obtain⟨j1,j2⟩:=conv B
   have:=HE.inj _ _ _ _ _ i2 j2;exact(AR i1 hn).1 (by rw[gH i1,gH j1,this])
  ·intro i b m hi
   obtain⟨i1,i2⟩:=conv hi
   refine⟨(HE.lt _ _ _ i2).1,?_⟩;rintro(N|⟨U,c,hni,_,hi'⟩|⟨l,k,c,_,J⟩)
   ·exact(HE.lt _ _ _ i2).2 N
   ·have := HE.inj _ _ _ _ _ hi' i2
    exact hni (this▸hmem i i1)
   ·exact HE.cP _ _ _ _ _ _ i2 J
  ·rintro b (N | ⟨U, c, _, _, hi'⟩ | ⟨l, k, c, _, J⟩)
   ·exact HE.X b N
   ·exact(HE.lt _ _ _ hi').1
   ·exact(HE.ch _ _ _ _ J).1
  ·intro j o ho
   have B:j<e.ids.length:=by rw[hk]; exact aI ho
   exact hobj E E0 M HE hlin rfl j o ho
  ·intro l k b m h1
   obtain⟨y,d⟩:=r0n l k _ h1;refine⟨(HE.ch _ _ _ _ d).1,?_⟩;rintro(N|⟨U,c,_,_,hi'⟩|⟨l',k',c,hnp,J⟩)
   ·exact(HE.ch _ _ _ _ d).2 N
   ·exact HE.cP _ _ _ _ _ _ hi' d
   ·exact hnp ((HE.eC _ _ _ _ _ _ _ d J).1▸y)
  ·intro i j o o' l hi B h1 d
   have i1:i<e.ids.length:=by rw[hk]; exact aI hi
   have j1:j<e.ids.length:=by rw[hk]; exact aI B
   obtain⟨_,oi,V,a2,_⟩:=hobj0 i i1;obtain⟨_,oj,b1,b2,_⟩:=hobj0 j j1;have ei:=hlab i o oi hi (by rw[←M]; exact a2);have ej:=hlab j o' oj B (by rw[←M]; exact b2);have:=HE.uniq _ _ _ _ l a2 b2 (by rw[ei,h1]) (by rw[ej,d]);exact(AR i1 hn).1 (by rw[gH i1,gH j1,this])
  ·intro l hnl k q W
   obtain⟨⟨j,o,h1,d⟩,_⟩:=r0n l k _ W;exact hnl j o h1 d
 refine(hc E0 cargs rfl HE0 (hargs0 E E0 _ M HE hlin rfl hargs)).mono ?_;rintro _ w' ⟨c,v',H',rfl,⟨rfl,rfl⟩,loc1,r1,g1,g2,g3⟩
 let r':Nat→List (Option (Option (Nat × Nat))):=fun l=>if pl l then r1 l else E.X.r l
 have rp:∀ l,pl l→r' l=r1 l:=fun l h=>if_pos h;have rn:∀ l,¬ pl l→r' l=E.X.r l:=fun l h=>if_neg h;have hl1':e.ids.length≤H'.length:=by omega
 have hlen1:loc1.length=H'.length:=g2.len;have hbL:e.base=E.loc.length:=by rw[hElen]; exact hb
 have hbE:e.base=E.H.length:=by rw[M]; exact hb
 let loc':List (Option (Nat × Nat)):=ef E.loc e.ids loc1++loc1.drop e.ids.length
 let E1:Env:={ w:=w',H:=H',loc:=loc1,X:=X0.re r1 }
 let E':Env:={ w:=w',H:=nV e H H',loc:=loc',X:=E.X.re r' }
 have Hin:∀ j,E'.H[e.at j]? = (H'[j]?).map (ab.cd e j):=fun j=>by
  have:=Kk (e:=e) (H:=H) (xs:=ki e 0 H') hn hat hb (by rw[CT]; exact hl1') j;rw[Kc,cW]at this;exact this
 have fg:∀ j,E'.loc[e.at j]? = loc1[j]? := fun j =>
  Kk (e:=e) (H:=E.loc) (xs:=loc1) hn (fun j B=>by rw[hElen]; exact hat j B) hbL (by rw[hlen1]; exact hl1') j
 have Hout:∀ i,i∉e.ids→i<H.length→E'.H[i]? = E.H[i]? := fun i hi I=>by
  rw[M];exact CV (e:=e) hi I
 have Lout:∀ i,i∉e.ids→i<H.length→E'.loc[i]? = E.loc[i]? := fun i hi I=>CV (e:=e) hi (by rw[hElen]; exact I);have hu1':∀(j:Nat) (o:ab),H'[j]? = some o→o.yd e j=true:=fun j o ho=>by
  have:=Ke hu1 ho
  rwa [cW]at this
 have own':∀ b,E'.own b→E1.own b∨(∃ i c,i∉e.ids∧E.loc[i]? = some (some (b,c)))∨∃(l h m:Nat),¬ pl l∧(E.X.r l)[h]? = some (some (some (b,m))):=by
  rintro b (⟨i,c,hi⟩|⟨l,k,c,J⟩)
  ·rcases nW (e := e) hbL hi with ⟨h1, _, h3⟩ | ⟨j, rfl⟩
   ·exact .inr (.inl ⟨i,c,h1,h3⟩)
   ·rw [fg j] at hi
    exact .inl (.inl ⟨j,c,hi⟩)
  ·have J : (r' l)[k]? = some (some (some (b, c))) := J
   by_cases y:pl l
   ·rw [rp l y] at J
    exact .inl (.inr ⟨l,k,c,J⟩)
   ·rw [rn l y] at J
    exact .inr (.inr ⟨l,k,c,y,J⟩)
 have hout:pN S e E1 E':=by
  refine⟨fun hS b hbk=>⟨⟨hbk.1,fun ho=>?_,fun N=>hbk.2.2 (Or.inl N)⟩,rfl⟩,fun j ad y=>?_,fun j ad y hl=>?_⟩
  ·rcases own' b ho with h | ⟨i, c, h1, d⟩ | h
   ·exact hbk.2.1 h
   ·exact hbk.2.2 (Or.inr (.inl ⟨i,c,h1,by rw[hlent hS]; exact List.not_mem_nil,d⟩))
   ·exact hbk.2.2 (Or.inr (.inr h))
  ·obtain ⟨o, h1, d⟩ := y
   refine⟨o.cd e j,by rw[Hin j,show H'[j]? = some o from h1]; rfl,by rw[Kf]; exact d.1,fun v hv=>?_⟩;obtain⟨u,q1,rfl⟩:=(uK (hu1' j o h1) v).1 hv;have:=d.2 u q1;omega
  ·obtain ⟨o', h1, d⟩ := hl
   rw[Hin j]at h1;obtain⟨o,h3,rfl⟩:=dN.1 h1;obtain⟨u,q1,q2⟩:=(uK (hu1' j o h3) _).1 d;have:u=ad:=by omega
   subst this;exact⟨⟨o,h3,q1⟩,fg j⟩
 have hle:E.le E':=by
  refine⟨fun i ad y=>?_,g3.size,fun b I ho=>g3.same b I (fun h=>ho (hown0 b h)),fun b I ho h'=>?_,fun i ad y hl=>?_,⟨rfl,rfl⟩,fun l k J=>?_,g3.env,fun i l o h1 d hv=>?_⟩
  rotate_right
  ·by_cases hi : i ∈ e.ids
   ·obtain ⟨j, B, rfl⟩ := ma hi
    have hat':e.ids[j]=e.at j:=by
     have:=gH B;rw[bt B]at this;exact gx this
    rw[hat']at h1 hv⊢;obtain⟨o0,oo,k1,k2,O,k3⟩:=hobj0 j B;have em:o.dh=o0.dh:=hlabm j o0 o k1 (by rw[←M]; exact h1);have hl0:o0.label=some l:=ab.kM (by rw[←em]; exact d);have y:pl l:=⟨j,o0,k1,hl0⟩
    obtain⟨o',w1,w2⟩:=hv;rw[Hin j]at w1;obtain⟨o1,r3,rfl⟩:=dN.1 w1;obtain⟨u,q1,q2⟩:=(uK (hu1' j o1 r3) _).1 w2;have hu:u=0:=by omega
    subst hu;obtain⟨⟨t,ht⟩,o2,s1,s2⟩:=g3.grow j l o0 k1 (by rw[←em]; exact d) ⟨o1,r3,q1⟩;have ht':r1 l=E.X.r l++t:=by
     rw[←r0p l y];exact ht
    refine⟨⟨t,by rw[show E'.X.r l=r' l from rfl,rp l y]; exact ht'⟩,o2.cd e j,?_,by rw[VC]; exact s2⟩;rw[Hin j,show H'[j]? = some o2 from s1];rfl
   ·have I := aI h1
    rw[M]at I;have hnp:¬ pl l:=by
     rintro⟨j,o0,V,a2⟩;have j1:j<e.ids.length:=by rw[hk]; exact aI V
     obtain⟨_,oj,b1,b2,_⟩:=hobj0 j j1;have h3:=HE.uniq _ _ _ _ l h1 b2 (ab.kM d) (by rw[hlab j o0 oj V (by rw[←M]; exact b2),a2]);exact hi (h3▸hmem j j1)
    exact⟨⟨[],by rw[List.append_nil,show E'.X.r l=r' l from rfl,rn l hnp]⟩,o,by rw[Hout i hi I]; exact h1,d⟩
  ·by_cases hi : i ∈ e.ids
   ·obtain ⟨j, B, rfl⟩ := ma hi
    have hat':e.ids[j]=e.at j:=by
     have:=gH B;rw[bt B]at this;exact gx this
    rw[hat']at y⊢;obtain⟨o0,oo,h1,d,O,h3⟩:=hobj0 j B;obtain⟨o,h4,h5⟩:=y;rw[d]at h4;cases h4;have hj1:j<H'.length:=by omega
    have hbn':H'[j].born=true:=by
     have p0:E0.past j 0:=⟨o0,h1,O,fun v _=>eI v⟩
     obtain⟨o2,r1,r2⟩:=g3.past j _ p0;rw[show E1.H=H' from rfl,bt hj1]at r1;cases r1;exact r2.1
    refine⟨H'[j].cd e j,by rw[Hin j,bt hj1]; rfl,by rw[Kf]; exact hbn',fun v hv=>?_⟩;obtain⟨u,q1,rfl⟩:=(uK (hu1' j _ (bt hj1)) v).1 hv;cases hz:o0.aF with
    | none =>
     have p0:E0.past j (u+1):=⟨o0,h1,O,fun v hv=>by rw[hz]at hv; cases hv⟩
     obtain⟨o2,r1,r2⟩:=g3.past j _ p0;rw[show E1.H=H' from rfl,bt hj1]at r1;cases r1;have:=r2.2 u q1;omega
    | some u0 =>
     have p0:E0.past j u0:=⟨o0,h1,O,fun v hv=>by rw[hz]at hv; cases hv; exact aD _⟩
     obtain⟨o2,r1,r2⟩:=g3.past j _ p0;rw[show E1.H=H' from rfl,bt hj1]at r1;cases r1;have:=r2.2 u q1;have:=h5.2 (u0+e.up j) ((h3 _).2 ⟨u0,hz,rfl⟩);omega
   ·obtain ⟨o, h1, d⟩ := y
    have I:=aI h1;rw[M]at I;exact⟨o,by rw[Hout i hi I]; exact h1,d⟩
  ·rcases own' b h' with h | ⟨i, c, _, d⟩ | ⟨l, k, c, _, d⟩
   ·exact g3.own b I (fun h=>ho (hown0 b h)) h
   ·exact ho (.inl ⟨i,c,d⟩)
   ·exact ho (.inr ⟨l,k,c,d⟩)
  ·have I:i<H.length:=by
    obtain⟨o,h1,_⟩:=y;have:=aI h1
    rwa [M]at this
   by_cases hi:i∈e.ids
   ·obtain ⟨j, B, rfl⟩ := ma hi
    have hat':e.ids[j]=e.at j:=by
     have:=gH B;rw[bt B]at this;exact gx this
    rw[hat']at y hl⊢;obtain⟨o',r1,r2⟩:=hl;rw[Hin j]at r1;obtain⟨o1,r3,rfl⟩:=dN.1 r1;obtain⟨u,q1,rfl⟩:=(uK (hu1' j o1 r3) _).1 r2;have p0:=hpin j u y;obtain⟨⟨o0,s1,s2⟩,s3⟩:=g3.live j u p0 ⟨o1,r3,q1⟩;obtain⟨o0',oo,h1,d,O,h3⟩:=hobj0 j B;rw[show E0.H=H0 from rfl,h1]at s1;cases s1;refine⟨⟨_,d,(h3 _).2 ⟨u,s2,rfl⟩⟩,?_⟩;rw[fg j,←hloc0 j B];exact s3
   ·obtain ⟨o', r1, r2⟩ := hl
    rw[Hout i hi I]at r1;exact⟨⟨o',r1,r2⟩,Lout i hi I⟩
  ·by_cases y : pl l
   ·have := g3.rl l k (by show k < (r0 l).length; rw [r0p l y]; exact J)
    rw[show E0.X.r l=r0 l from rfl,r0p l y]at this;rw[show E'.X.r l=r' l from rfl,rp l y];exact this
   ·rw [show E'.X.r l = r' l from rfl, rn l y]
    exact⟨J,fun _ W=>W⟩
 have lab':∀(j:Nat) o l,H'[j]? = some o→o.label=some l→pl l:=fun j o l h1 d=>by
  obtain⟨o0,V,a2⟩:=hlab1 j o l h1 d;exact⟨j,o0,V,a2⟩
 have labIn:∀(j:Nat) o l,H0[j]? = some o→o.label=some l→∃ o',E.H[e.at j]? = some o'∧o'.label=some l∧e.at j∈e.ids:=fun j o l h1 d=>by
  have j1:j<e.ids.length:=by rw[hk]; exact aI h1
  obtain⟨_,oj,b1,b2,_⟩:=hobj0 j j1;exact⟨oj,b2,by rw[hlab j o oj h1 (by rw[←M]; exact b2),d],hmem j j1⟩
 have labOut:∀(i:Nat) o l,i∉e.ids→E.H[i]? = some o→o.label=some l→¬ pl l:=fun i o l hi h1 d ⟨j,o0,V,a2⟩=>by
  obtain⟨o',b1,b2,b3⟩:=labIn j o0 l V a2;have:=HE.uniq _ _ _ _ l h1 b1 d b2;exact hi (this▸b3)
 have satOut:∀(l k b m:Nat),¬ pl l→(E.X.r l)[k]? = some (some (some (b,m)))→¬ E0.own b:=by
  rintro l k b m y h1 (⟨id,c',hid⟩|⟨l',k',c,J⟩)
  ·have I := aI hid
   rw[show E0.loc=loc0 from rfl]at hid I;rw[hlen0]at I;rw[hloc0 id I]at hid;exact HE.cP _ _ _ _ _ _ hid h1
  ·obtain ⟨q1, q2⟩ := r0n l' k' _ J
   exact y ((HE.eC _ _ _ _ _ _ _ h1 q2).1▸q1)
 refine⟨c,_,_,rfl,⟨rfl,rfl⟩,loc',r',CS hout v' hSv g1,?_,hle⟩;refine⟨?_,?_,?_,fun b N=>dz (HE.X b N) g3.size,?_,HE.fb.bF hle.toC,?_,?_,?_,?_,?_⟩
 ·simp only[loc',nV,dY,nU,List.length_drop,CT,hElen,hlen1]
 ·intro i j b m n hi B
  rcases nW (e:=e) hbL hi with⟨i1,_,i3⟩|⟨U,rfl⟩<;>rcases nW (e:=e) hbL B with⟨j1,_,j3⟩|⟨j',rfl⟩
  ·exact HE.inj _ _ _ _ _ i3 j3
  ·rw [fg j'] at B
   exact(g3.own b (HE.lt _ _ _ i3).1 (hout0 i b m i1 i3) (.inl ⟨j',n,B⟩)).elim
  ·rw [fg U] at hi
   exact(g3.own b (HE.lt _ _ _ j3).1 (hout0 j b n j1 j3) (.inl ⟨U,m,hi⟩)).elim
  ·rw [fg U] at hi
   rw[fg j']at B;rw[g2.inj _ _ _ _ _ hi B]
 ·intro i b m hi
  rcases nW (e:=e) hbL hi with⟨i1,_,i3⟩|⟨U,rfl⟩
  ·exact⟨dz (HE.lt _ _ _ i3).1 g3.size,(HE.lt _ _ _ i3).2⟩
  ·rw [fg U] at hi
   exact⟨(g2.lt _ _ _ hi).1,fun N=>(g2.lt _ _ _ hi).2 (Or.inl N)⟩
 ·intro i o hi
  have hi':=hi;unfold nV at hi';rcases nW (e:=e) hb hi' with⟨i1,i2,i3⟩|⟨j,rfl⟩
  ·refine jZ (E := E) (fun a _ hr => bH hle a hr) (Lout i i1 i2) (fun b n O => ?_) (fun l hl => ?_) (HE.obj i o (by rw [M]; exact i3))
   ·exact g3.same b (HE.lt _ _ _ O).1 (hout0 i b n i1 O)
   ·have y := labOut i o l i1 (by rw [M]; exact i3) hl
    exact⟨rn l y,fun k g m h1=>g3.same g (HE.ch _ _ _ _ h1).1 (satOut l k g m y h1)⟩
  ·have h1 := Hin j
   rw[show E'.H=nV e H H' from rfl,hi]at h1;obtain⟨o1,d,rfl⟩:=dN.1 h1.symm;exact VD hout (fun e=>dq.1 (hSo e) o1 (eB d)) (fg j) (fun _ _ _=>rfl) (fun l hl=>⟨rp l (lab' j o1 l d hl),fun _ _ _ _=>rfl⟩) (g2.obj j o1 d)
 ·intro l k l' k' b m n h1 d
  have h1:(r' l)[k]? = some (some (some (b,m))):=h1;have d:(r' l')[k']? = some (some (some (b,n))):=d;by_cases y:pl l<;>by_cases hp':pl l'
  ·rw [rp l y] at h1
   rw[rp l' hp']at d;exact g2.eC l k l' k' b m n h1 d
  ·rw [rp l y] at h1
   rw[rn l' hp']at d;exact((g2.ch l k b m h1).2 (.inr (.inr ⟨l',k',n,hp',d⟩))).elim
  ·rw [rn l y] at h1
   rw[rp l' hp']at d;exact((g2.ch l' k' b n d).2 (.inr (.inr ⟨l,k,m,y,h1⟩))).elim
  ·rw [rn l y] at h1
   rw[rn l' hp']at d;exact HE.eC l k l' k' b m n h1 d
 ·intro i b m l k n hi h1
  have h1:(r' l)[k]? = some (some (some (b,n))):=h1;rcases nW (e:=e) hbL hi with⟨i1,_,i3⟩|⟨U,rfl⟩
  ·by_cases y : pl l
   ·rw [rp l y] at h1
    exact g3.own b (HE.lt _ _ _ i3).1 (hout0 i b m i1 i3) (.inr ⟨l,k,n,h1⟩)
   ·rw [rn l y] at h1
    exact HE.cP _ _ _ _ _ _ i3 h1
  ·rw [fg U] at hi
   by_cases y:pl l
   ·rw [rp l y] at h1
    exact g2.cP _ _ _ _ _ _ hi h1
   ·rw [rn l y] at h1
    exact(g2.lt _ _ _ hi).2 (.inr (.inr ⟨l,k,n,y,h1⟩))
 ·intro l k b m h1
  have h1:(r' l)[k]? = some (some (some (b,m))):=h1;by_cases y:pl l
  ·rw [rp l y] at h1
   exact⟨(g2.ch _ _ _ _ h1).1,fun N=>(g2.ch _ _ _ _ h1).2 (.inl N)⟩
  ·rw [rn l y] at h1
   exact⟨dz (HE.ch _ _ _ _ h1).1 g3.size,(HE.ch _ _ _ _ h1).2⟩
 ·have inn:∀ (j:Nat) o,E'.H[e.at j]? = some o→∃ o1,H'[j]? = some o1∧o.label=o1.label:=fun j o h=>by
   rw[Hin j]at h;obtain⟨o1,d,rfl⟩:=dN.1 h;exact⟨o1,d,Kg e j o1⟩
  intro i j o o' l hi B h1 d;have hi':=hi;have hj':=B;unfold nV at hi' hj';rcases nW (e:=e) hb hi' with⟨i1,i2,i3⟩|⟨U,rfl⟩<;>rcases nW (e:=e) hb hj' with⟨j1,j2,j3⟩|⟨j',rfl⟩
  ·exact HE.uniq i j o o' l (by rw[M]; exact i3) (by rw[M]; exact j3) h1 d
  ·obtain ⟨o1, V, a2⟩ := inn j' o' B
   exact(labOut i o l i1 (by rw[M]; exact i3) h1 (lab' j' o1 l V (by rw[←a2,d]))).elim
  ·obtain ⟨o1, V, a2⟩ := inn U o hi
   exact(labOut j o' l j1 (by rw[M]; exact j3) d (lab' U o1 l V (by rw[←a2,h1]))).elim
  ·obtain ⟨o1, V, a2⟩ := inn U o hi
   obtain⟨o2,b1,b2⟩:=inn j' o' B;rw[g2.uniq U j' o1 o2 l V b1 (by rw[←a2,h1]) (by rw[←b2,d])]
 ·intro l hnl k q W
  have W:(r' l)[k]? = some (some q):=W;by_cases y:pl l
  ·rw [rp l y] at W
   refine g2.gd l (fun j o h1 d=>?_) k q W;refine hnl (e.at j) (o.cd e j) ?_ (by rw[Kg,d]);rw[Hin j,show H'[j]? = some o from h1];rfl
  ·rw [rn l y] at W
   refine HE.gd l (fun i o h1 d=>?_) k q W;have I:=aI h1;rw[M]at I;by_cases hi:i∈e.ids
   ·obtain ⟨j, B, rfl⟩ := ma hi
    have hat':e.ids[j]=e.at j:=by
     have:=gH B;rw[bt B]at this;exact gx this
    rw[hat']at h1;obtain⟨o0,oo,V,a2,_⟩:=hobj0 j B;rw[h1]at a2;cases a2;exact y ⟨j,o0,V,by rw[←hlab j o0 o V (by rw[←M]; exact h1),d]⟩
   ·exact hnl i o (by rw[Hout i hi I]; exact h1) d
end Go.AL
