/-
 What is proved here: owned objects of data,and what operations do to them,with what must hold so that they do it. No program in sight; no condition.
-/
import Derived.Test.YtiljbnkkhbennaaGreatDoorMB
import Derived.Eval
import Derived.KernelRfl
set_option linter.all false
open Bool renaming and_true→eS,and_eq_true→az,false_eq_true→lG,not_eq_true'→qL,or_eq_true→vp,not_true→yY,eq_iff_iff→mI,and_false→Kt
open ByteArray renaming empty→yJ
open Decidable renaming byContradiction→De
open Function renaming comp→Dg
open Go.Op renaming operands→fF
open Go.Utf8 renaming decode→ph
open Go.Value.slice renaming injEq→kQ
open List renaming length_cons→cn,getElem?_append_left→cT,length_map→cD,mem_map→cF,getElem?_map→bU,mem_filterMap→J7,getElem_of_mem→mC,getElem?_eq_getElem→bf,mem_of_getElem?→eZ,getElem?_append_right→iM,getElem?_set_ne→aZ,all_eq_true→dB,getD_eq_getElem?_getD→bz,getElem?_drop→qG,mem_cons→bN,map_cons→dj,take_append_drop→vk,length_append→eD,mem_append→cQ,replicate→cd,all_cons→lJ,mem_cons_self→cU,mem_cons_of_mem→dw,take_of_length_le→VM,map_append→iP,findIdx?_cons→Km,nodup_cons→lL,getElem?_inj→Db,map_set→vq,headD_cons→y4,length_nil→lN,map_nil→qO,length→y5
open Nat renaming le_refl→aD,lt_of_lt_of_le→dP,zero_le→fg,lt_or_ge→kg,zero_add→di,sub_zero→gU,add_zero→mG,beq→ab,eq_of_beq_eq_true→bk,sub_self→nU,ble→eE,blt→eh,ble_eq→Df,blt_eq→iR,lt_succ_self→VS,le_of_ble_eq_true→nW,mul_one→al1,lt_succ_of_lt→y6,lt_irrefl→sD
open Option renaming map_eq_some_iff→ef,isSome_none→Kf,map_some→eg,map_none→yZ,isSome_some→Ku,map_map→Kv
open Option.some renaming injEq→aY,inj→gY
open Prod.mk renaming injEq→a8
namespace Go.AL
open Go
variable [Dr]
def aJ:Int→Bool
 |.ofNat _=>true
 |.negSucc _=>false
def bx:Int→Int→Bool
 |.ofNat x,.ofNat y=>eE x y
 |.ofNat _,.negSucc _=>false
 |.negSucc _,.ofNat _=>true
 |.negSucc x,.negSucc y=>eE y x
def ao:Int→Int→Bool
 |.ofNat x,.ofNat y=>eh x y
 |.ofNat _,.negSucc _=>false
 |.negSucc _,.ofNat _=>true
 |.negSucc x,.negSucc y=>eh y x
def aw(n:Int):Bool:=bx (-9223372036854775808) n&&bx n 9223372036854775807
theorem jW(n:Int):aJ n=decide (0≤n):=by
 cases n with
 |ofNat x=>simp[aJ]
 |negSucc x=>simp[aJ]
theorem eV(a b:Int):bx a b=decide (a≤b):=by
 rw[mI];cases a<;>cases b<;>simp[bx,Df]<;>(try omega)
theorem dD(a b:Int):ao a b=decide (a<b):=by
 rw[mI];cases a<;>cases b<;>simp[ao,iR]<;>(try omega)
theorem ib{n:Int}:aw n=true ↔ -9223372036854775808≤n∧n≤9223372036854775807:=by
 simp[aw,eV]
def g0(r:List G):G:=r.headD default
def gi:List G→Nat→G
 |r,0=>r.headD default
 |r,i+1=>gi r.tail i
def G.row(g:G):List G:=g.rows.headD []
def oB:Kd→G→G→Bool
 |.int _,a,b=>a.int==b.int
 |.str,a,b=>a.str.toList==b.str.toList
 |.bool,a,b=>a.bool==b.bool
 |.list _,_,_=>false
def aI:List Kd→List G→List G→Bool
 | [],_,_=>true
 |k::ks,r,s=>oB k (r.headD default) (s.headD default)&&aI ks r.tail s.tail
inductive Ct where
 |one (k:Kd)
 |agg (ks:List Kd)
 deriving Inhabited
def Ct.ks:Ct→List Kd
 |.one k=>[k]
 |.agg ks=>ks
def Ct.av:Ct→List G→AV
 |.one k,r=>jt k (r.headD default)
 |.agg ks,r=>.agg (aH ks r)
theorem Ct.vY(k:Ct)(r:List G):(k.av r).closed=true:=by
 cases k with
 |one k=>cases k<;>rfl
 |agg ks=>simp only[Ct.av,AV.closed,gb]
inductive ah where
 |raw (o:ad)
 |vec (ks:List Kd) (ae:Nat) (rows:List (List G))
 |map (K V:Ct) (rows:List (List G)) (clock:Nat)
 |aX (l:Nat) (K:Ct) (ks:List Kd) (rows:List (List G)) (clock:Nat)
 |mm (l:Nat) (K KI VI:Ct) (rows mem:List (List G)) (clock:Nat)
def c_(K V:Ct)(rows:List (List G)):List (AV × AV × Nat):=rows.map fun r=>(K.av (gi r 0).row,V.av (gi r 1).row,(gi r 2).int.toNat)
def iD(r:List G):List (List G):=((gi r 1).row.headD default).rows
def ic(K:Ct)(ks:List Kd)(r:List G):AV × Option (List (List AV)) × Nat:=((bif (gi r 4).bool && !(gi r 3).bool then .tuple [K.av (gi r 0).row,.listF ks (iD r)] else K.av (gi r 0).row),(bif (gi r 3).bool then some ((iD r).map (aH ks)) else none),(gi r 2).int.toNat)
def fA(K:Ct)(ks:List Kd)(rows:List (List G)):List (AV × Option (List (List AV)) × Nat):=rows.map (ic K ks)
def rr(r:List G):Option Nat:=bif bx 0 (gi r 1).int then some (gi r 1).int.toNat else none
def i_(K:Ct)(rows:List (List G)):List (AV × Option Nat × Nat):=rows.map fun r=>(K.av (gi r 0).row,rr r,(gi r 2).int.toNat)
def pK(KI VI:Ct)(mem:List (List G)):List (List (AV × AV × Nat) × Nat):=mem.map fun m=>(c_ KI VI (gi m 0).rows,(gi m 1).int.toNat)
def ah.den:ah→ad
 |.raw o=>o
 |.aX l K ks rows clock=>.aX l ks.length (fA K ks rows) clock
 |.map K V rows clock=>.map (c_ K V rows) clock
 |.mm l K KI VI rows mem clock=>.mm l (i_ K rows) (pK KI VI mem) clock
 |.vec ks ae rows=>.vec ks.length ae (rows.map (aH ks))
def aj(H:List ah):List ad:=H.map ah.den
structure al where
 fr:List AV
 H:List ah
def al.den(s:al):St:=⟨s.fr,aj s.H⟩
def al.eval(s:al)(o:Operand):AV:=St.eval ⟨s.fr,[]⟩ o
def al.put(s:al)(dst:Option Tmp)(v:AV)(H':List ah):al:=⟨jT s.fr dst v,H'⟩
theorem al.lZ(s:al):s.den.eval=s.eval:=by
 funext o
 cases o<;>rfl
theorem bg{H:List ah}{id:Nat}{o:ah}(h:H[id]? = some o):(aj H)[id]? = some o.den:=by simp[aj,h]
theorem db(H:List ah)(id:Nat)(o:ah):aj (H.set id o)=(aj H).set id o.den:=by simp[aj,vq]
theorem iE(H:List ah)(o:ah):aj (H++[o])=aj H++[o.den]:=by simp[aj]
theorem fa(H:List ah):(aj H).length=H.length:=by simp[aj]
mutual
def Kd.same:Kd→Kd→Bool
 |.int k,.int k'=>decide (k=k')
 |.str,.str=>true
 |.bool,.bool=>true
 |.list ks,.list d=>Kd.ig ks d
 |_,_=>false
def Kd.ig:List Kd→List Kd→Bool
 | [],[]=>true
 |k::ks,k'::d=>k.same k'&&Kd.ig ks d
 |_,_=>false
end
mutual
theorem Kd.ku:∀{k k':Kd},k.same k'=true→k=k'
 |.int k,.int k',h=>by simp[Kd.same]at h; rw[h]
 |.str,.str,_=>rfl
 |.bool,.bool,_=>rfl
 |.list ks,.list d,h=>by simp only[Kd.same]at h; rw[Kd.jA h]
 |.int _,.str,h | .int _,.bool,h | .int _,.list _,h | .str,.int _,h | .str,.bool,h | .str,.list _,h=>by simp[Kd.same]at h
 |.bool,.int _,h | .bool,.str,h | .bool,.list _,h | .list _,.int _,h | .list _,.str,h | .list _,.bool,h=>by simp[Kd.same]at h
theorem Kd.jA:∀{k k':List Kd},Kd.ig k k'=true→k=k'
 | [],[],_=>rfl
 |k::ks,k'::d,h=>by simp only[Kd.ig,az]at h; rw[Kd.ku h.1,Kd.jA h.2]
 | [],_::_,h|_::_,[],h=>by simp[Kd.ig]at h
end
def Ct.same:Ct→Ct→Bool
 |.one k,.one k'=>k.same k'
 |.agg ks,.agg d=>Kd.ig ks d
 |_,_=>false
theorem Ct.ku{K d:Ct}(h:K.same d=true):K=d:=by
 cases K<;>cases d<;>simp only[Ct.same]at h
 ·rw[Kd.ku h]
 ·cases h
 ·cases h
 ·rw[Kd.jA h]
def vZ:Kd→AV→Option G
 |.int k,.lit (.int k' n)=>if k=k' then some (.i n) else none
 |.str,.lit (.string s)=>some (.s s)
 |.bool,.lit (.bool b)=>some (.t b)
 |.list ks,.listF d rows=>if Kd.ig ks d then some (.l rows) else none
 |_,_=>none
def gx:List Kd→List AV→Option (List G)
 | [],[]=>some []
 | k::ks,a::as=>match vZ k a,gx ks as with
  |some g,some gs=>some (g::gs)
  |_,_=>none
 |_,_=>none
def bA(ks:List Kd):List (List AV)→Option (List (List G))
 | []=>some []
 | r::rs=>match gx ks r,bA ks rs with
  |some g,some gs=>some (g::gs)
  |_,_=>none
theorem EC{k:Kd}{a:AV}{g:G}(h:vZ k a=some g):jt k g=a:=by
 unfold vZ at h;split at h
 ·split at h
  ·rename_i e; cases h; subst e; rfl
  ·cases h
 ·cases h; rfl
 ·cases h; rfl
 ·split at h
  ·rename_i e; cases h; rw[Kd.jA e]; rfl
  ·cases h
 ·cases h
theorem k9:∀{ks:List Kd} {as:List AV} {gs:List G},gx ks as=some gs→aH ks gs=as
 | [],[],_,h=>by simp[gx]at h; subst h; rfl
 | k::ks,a::as,gs,h=>by
  simp only[gx]at h;split at h
  ·rename_i g q h1 d
   cases h;simp[aH,EC h1,k9 d]
  ·cases h
 | [],_::_,_,h|_::_,[],_,h=>by simp[gx]at h
theorem Md:∀{ks:List Kd} {as:List AV} {gs:List G},gx ks as=some gs→gs.length=ks.length∧as.length=ks.length
 | [],[],_,h=>by simp[gx]at h; subst h; exact⟨rfl,rfl⟩
 | k::ks,a::as,gs,h=>by
  simp only[gx]at h;split at h
  ·rename_i g q h1 d
   cases h;have:=Md d;simp[this.1,this.2]
  ·cases h
 | [],_::_,_,h|_::_,[],_,h=>by simp[gx]at h
theorem ru{ks:List Kd}:∀{rs:List (List AV)} {gs:List (List G)},bA ks rs=some gs→gs.map (aH ks)=rs
 | [],_,h=>by simp[bA]at h; subst h; rfl
 | r::rs,gs,h=>by
  simp only[bA]at h;split at h
  ·rename_i g k h1 d
   cases h;simp[k9 h1,ru d]
  ·cases h
def v7:AV→Option Kd
 |.lit (.int k _)=>some (.int k)
 |.lit (.string _)=>some .str
 |.lit (.bool _)=>some .bool
 |.listF ks _=>some (.list ks)
 |_=>none
def ry:List AV→Option (List Kd)
 | []=>some []
 | a::as=>match v7 a,ry as with
  |some k,some ks=>some (k::ks)
  |_,_=>none
def pL:List Kd→List G→List G
 | [],_=>[]
 |_::ks,r=>r.headD default::pL ks r.tail
theorem ED:∀(ks:List Kd) (r:List G),(pL ks r).length=ks.length
 | [],_=>rfl
 |_::ks,r=>by simp[pL,ED ks]
def dR(ks:List Kd)(r:List G)(col:Nat)(gs:List G):List G:=(pL ks r).take col++gs++(pL ks r).drop (col+gs.length)
theorem Me:∀(ks:List Kd) (r:List G) (n:Nat),(aH ks r).take n=aH (ks.take n) r
 | [],_,n=>by simp[aH]
 |_::_,_,0=>by simp[aH]
 |k::ks,r,n+1=>by simp[aH,Me ks]
theorem Mf:∀(ks:List Kd) (r:List G) (n:Nat),(aH ks r).drop n=aH (ks.drop n) (r.drop n)
 | [],_,n=>by simp[aH]
 |_::_,_,0=>by simp
 |k::ks,r,n+1=>by simp[aH,Mf ks]
theorem EE:∀(ks d:List Kd) (r r':List G),r.length=ks.length→aH (ks++d) (r++r')=aH ks r++aH d r'
 | [],d,r,r',h=>by
  have:r=[]:=List.length_eq_zero_iff.1 h;subst this;simp[aH]
 | k::ks,d,r,r',h=>by
  cases r with
  |nil=>simp at h
  |cons x r=>simp[aH,EE ks d r r' (by simpa using h)]
theorem EF:∀(ks:List Kd) (r:List G),aH ks (pL ks r)=aH ks r
 | [],_=>rfl
 |k::ks,r=>by simp[aH,pL,EF ks]
theorem Yg{ks:List Kd}{r gs:List G}{cs:List AV}{col:Nat} (h:gx ((ks.drop col).take cs.length) cs=some gs) (B:col+cs.length≤ks.length) :
  aH ks (dR ks r col gs)=putCells (aH ks r) cs col:=by
 obtain⟨h1,I⟩:=Md h;have hlen:((ks.drop col).take cs.length).length=cs.length:=by simp; omega
 have d:gs.length=cs.length:=by omega
 have hk:ks=(ks.take col++(ks.drop col).take cs.length)++ks.drop (col+cs.length):=by
  rw[List.append_assoc,←List.drop_drop,vk,vk]
 unfold dR putCells;have hn:=ED ks r
 conv=>lhs; arg 1; rw[hk]
 rw[EE _ _ _ _ (by simp[hn,d]; omega),EE _ _ _ _ (by simp[hn]),k9 h,d];congr 1
 ·congr 1
  rw[←EF ks r,Me];have:∀(ks:List Kd) (r:List G) (n:Nat),ks.length≤n→aH ks (r.take n)=aH ks r:=by
   intro ks
   induction ks with
   |nil=>intros; rfl
   | cons k ks q =>
    intro r n hn;cases n with
    |zero=>simp at hn
    | succ n =>
     cases r with
     |nil=>rfl
     |cons x r=>simp[aH,q r n (by simpa using hn)]
  exact this _ _ _ (by simp; omega)
 ·conv => rhs; rw [← EF ks r]
  rw[Mf]
end Go.AL

namespace Go.AL
open Go
variable [Dr]
theorem EG{ks:List Kd}{rows:List (List G)}{row:Nat}(h:row<rows.length):(rows.map (aH ks))[row]? = some (aH ks (rows.getD row [])):=by
 rw[bU,bz,bf h];rfl
def ja:List AV→Option (List Int)
 | []=>some []
 | .lit (.int .i64 n)::l=>match ja l with
  |some q=>some (n::q)
  |none=>none
 |_=>none
theorem EH:∀{cells:List AV} {l:List Int},ja cells=some l→∀ i,i<l.length→cells[i]? = some (.lit (.int .i64 (l.getD i 0)))
 | [],l,h,i,hi=>by
  simp only[ja,aY]at h;subst h;simp at hi
 | c::cells,l,h,i,hi=>by
  unfold ja at h;split at h
  ·rename_i he
   cases he
  ·rename_i n l' he
   cases he;split at h
   ·rename_i q d
    cases h;cases i with
    |zero=>rfl
    | succ i =>
     simp only[cn]at hi;have:=EH d i (by omega);simpa using this
   ·cases h
  ·cases h
theorem Mg:∀{cells:List AV} {l:List Int},ja cells=some l→cells.length=l.length
 | [],l,h=>by
  simp only[ja,aY]at h;subst h;rfl
 | c::cells,l,h=>by
  unfold ja at h;split at h
  ·rename_i he
   cases he
  ·rename_i n l' he
   cases he;split at h
   ·rename_i q d
    cases h;simp[Mg d]
   ·cases h
  ·cases h
def rz(v:Int)(col:Nat):Nat→List Int→List AV
 |_,[]=>[]
 |k,n::l=>.lit (.int .i64 (bif ab col k then v else n))::rz v col (k+1) l
theorem Mh{v:Int}{col:Nat}:∀{cells:List AV} {l:List Int} {k:Nat},ja cells=some l→col<k→rz v col k l=cells
 | [],l,k,h,_=>by
  simp only[ja,aY]at h;subst h;rfl
 | c::cells,l,k,h,hk=>by
  unfold ja at h;split at h
  ·rename_i he
   cases he
  ·rename_i n l' he
   cases he;split at h
   ·rename_i q d
    cases h;have hb:ab col k=false:=by
     cases hb:ab col k with
     |false=>rfl
     |true=>have:=bk hb; omega
    simp only[rz,hb,cond_false,Mh d (show col<k+1 by omega)]
   ·cases h
  ·cases h
theorem Mi{v:Int}:∀{cells:List AV} {l:List Int} {k col:Nat},ja cells=some l→col<l.length→rz v (k+col) k l=putCells cells [.lit (.int .i64 v)] col
 | [],l,k,col,h,d=>by
  simp only[ja,aY]at h;subst h;simp at d
 | c::cells,l,k,col,h,d=>by
  unfold ja at h;split at h
  ·rename_i he
   cases he
  ·rename_i n l' he
   cases he;split at h
   ·rename_i q B
    cases h;cases col with
    | zero =>
     simp only[rz,mG,Nat.beq_refl,cond_true,Mh B (VS k)];rfl
    | succ col =>
     have hb:ab (k+(col+1)) k=false:=by
      cases hb:ab (k+(col+1)) k with
      |false=>rfl
      |true=>have:=bk hb; omega
     have I:=Mi (v:=v) (k:=k+1) B (show col<q.length by simp only[cn]at d; omega);rw[show k+1+col=k+(col+1) by omega]at I;simp only[rz,hb,cond_false,I];rfl
   ·cases h
  ·cases h
def EI(P:Program)(t:TypeId)(x:AV)(H:List ah):Option (Bool × AV) :=
 match x with
 | .ptr id ae w row col=>match H[id]? with
  | some (.vec ks v rows)=>match e_ P t with
   | some (n,agg)=>if ae=v∧ks.length=w then (match gf agg n ((aH ks (rows.getD row [])).drop col) with
     |some u=>some (decide (row<rows.length),u)
     |none=>none) else none
   |none=>none
  | some (.raw (.box cells))=>match e_ P t with
   | some (n,agg)=>if ae=0∧row=0 then (match agg,ja cells with
     |false,some l=>some (eh col l.length,.lit (.int .i64 (l.getD col 0)))
     |_,_=>match gf agg n (cells.drop col)with
     |some u=>some (true,u)
     |none=>none) else none
   |none=>none
  |_=>none
 | .cptr cells=>match e_ P t with
  | some (n,agg)=>match gf agg n cells with
   |some u=>some (true,u)
   |none=>none
  |none=>none
 |_=>none
theorem Yh{P:Program}{t:TypeId}{x:AV}{H:List ah}{b:Bool}{u:AV}(h:EI P t x H=some (b,u))(hb:b=true):g_ P t x (aj H)=some u:=by
 unfold EI at h;unfold g_;split at h
 ·rename_i id ae w row col
  split at h
  ·rename_i ks v rows hid
   split at h
   case h_2=>cases h
   rename_i n agg d;split at h
   case isFalse=>cases h
   rename_i q;split at h
   case h_2=>cases h
   rename_i B k;simp only[aY,a8]at h;obtain⟨h1,rfl⟩:=h;subst hb;simp only[decide_eq_true_eq]at h1;rw[d];simp only[bg hid,ah.den];rw[if_pos ⟨q.1,q.2⟩,EG h1];exact k
  ·rename_i cells hid
   split at h
   case h_2=>cases h
   rename_i n agg d;split at h
   case isFalse=>cases h
   rename_i q;rw[d];simp only[bg hid,ah.den];rw[if_pos q];split at h
   ·rename_i l I
    simp only[aY,a8]at h;obtain⟨h1,rfl⟩:=h;subst hb;rw[iR]at h1;simp only[gf,lG,if_false,qG,mG];exact EH I col h1
   ·split at h
    case h_2=>cases h
    rename_i B k;cases h;exact k
  ·cases h
 ·rename_i cells
  split at h
  case h_2=>cases h
  rename_i n agg d;split at h
  case h_2=>cases h
  rename_i B k;cases h;rw[d];exact k
 ·cases h
def tw(P:Program)(t:TypeId)(x v:AV)(H:List ah):Option (Bool × List ah) :=
 match e_ P t,qW v,x with
 | some (n,_),some cs,.ptr id ae w row col =>
  if cs.length=n then
   match H[id]? with
   | some (.raw (.box cells))=>match cs,ja cells with
    | [.lit (.int .i64 z)],some l=>if ae=0∧row=0∧n=1 then some (eh col l.length,H.set id (.raw (.box (rz z col 0 l)))) else none
    |_,_=>if ae=0∧row=0∧col+n≤cells.length then some (true,H.set id (.raw (.box (putCells cells cs col)))) else none
   | some (.vec ks u rows) =>
    if ae=u∧ks.length=w∧col+cs.length≤ks.length then
     match gx ((ks.drop col).take cs.length) cs with
     |some gs=>some (decide (row<rows.length),H.set id (.vec ks u (rows.set row (dR ks (rows.getD row []) col gs))))
     |none=>none
    else none
   |_=>none
  else none
 |_,_,_=>none
theorem Mj{P:Program}{t:TypeId}{x v:AV}{H H':List ah}{b:Bool}(h:tw P t x v H=some (b,H'))(hb:b=true):sX P t x v (aj H)=some (aj H'):=by
 unfold tw at h;unfold sX;split at h
 case h_2=>cases h
 rename_i n O cs id ae w row col M I;rw[M,I];simp only[];split at h
 case isFalse=>cases h
 rename_i hn;rw[if_pos hn];split at h
 ·rename_i cells hid
  split at h
  ·rename_i z l B
   split at h
   case isFalse=>cases h
   rename_i d;simp only[aY,a8]at h;obtain⟨h1,rfl⟩:=h;subst hb;rw[iR]at h1;have hlen:=Mg B;simp only[bg hid,ah.den];rw[if_pos ⟨d.1,d.2.1,by omega⟩,db];have:=Mi (v:=z) (k:=0) B h1;rw[di]at this;rw[this];rfl
  ·split at h
   case isFalse=>cases h
   rename_i d;cases h;simp only[bg hid,ah.den];rw[if_pos d,db];rfl
 ·rename_i ks u rows hid
  split at h
  case isFalse=>cases h
  rename_i d;obtain⟨c1,c2,N⟩:=d;split at h
  case h_2=>cases h
  rename_i gs q;simp only[aY,a8]at h;obtain⟨h1,rfl⟩:=h;subst hb;simp only[decide_eq_true_eq]at h1;simp only[bg hid,ah.den];have J:AV.br cs=true:=by rw[←k9 q]; exact gb _ _
  rw[if_pos ⟨c1,c2,J⟩,EG h1];simp only[qR];rw[if_pos (by omega),db];simp only[ah.den,vq];rw[Yg q N]
 ·cases h
def v8(sz:Nat)(x:AV)(H:List ah)(want:Option (List Kd)):Option (Bool × List Kd × List (List G)) :=
 match x with
 | .nils | .lit (.slice none 0 0)=>match want with
  |some ks=>some (true,ks,[])
  |none=>none
 | .emptyS _=>match want with
  |some ks=>some (true,ks,[])
  |none=>none
 |.listF ks rows=>if ks.length=sz then some (true,ks,rows) else none
 | .list w rows=>match (match want with | some ks=>some ks | none=>ry (rows.headD [])) with
  | some ks=>match bA ks rows with
   |some gs=>if w=sz then some (true,ks,gs) else none
   |none=>none
  |none=>none
 | .vec w id ae off n=>match H[id]? with
  |some (.vec ks v rows)=>if w=sz∧ks.length=w∧v=ae∧off=0 then some (ab n rows.length,ks,rows) else none
  |_=>none
 |.lit (.string s)=>if sz=1 then some (true,[.int .u8],s.data.toList.map fun b=>[.i b.toNat]) else none
 |_=>none
theorem Mk{sz:Nat}{x:AV}{H:List ah}{want:Option (List Kd)}{b:Bool}{ks:List Kd}{rows:List (List G)}(h:v8 sz x H want=some (b,ks,rows))(hb:b=true) :
  lU sz x (aj H)=some (rows.map (aH ks)):=by
 unfold v8 at h;split at h
 ·split at h
  ·cases h; rfl
  ·cases h
 ·split at h
  ·cases h; rfl
  ·cases h
 ·split at h
  ·cases h; rfl
  ·cases h
 ·split at h
  ·rename_i hw; cases h; simp only[lU]; rw[if_pos hw]
  ·cases h
 ·split at h
  ·split at h
   ·rename_i gs hg
    split at h
    ·rename_i hw; cases h; simp only[lU]; rw[if_pos hw,ru hg]
    ·cases h
   ·cases h
  ·cases h
 ·rename_i w id ae off n
  split at h
  ·rename_i B v rows' hid
   split at h
   ·rename_i d
    obtain⟨c1,c2,k,rfl⟩:=d;simp only[aY,a8]at h;obtain⟨h1,rfl,rfl⟩:=h;subst hb;have h1:=bk h1;simp only[lU,bg hid,ah.den];rw[if_pos ⟨c1,c2,k,by simp; omega⟩];simp only[List.drop_zero];rw[VM (by simp; omega)]
   ·cases h
  ·cases h
 ·rename_i s
  split at h
  ·rename_i q
   cases h;simp only[lU];rw[if_pos q];simp[aH,jt,G.int]
  ·cases h
 ·cases h
def EJ:SK→Bool
 |.slice _ _ _ | .str=>true
 |_=>false
theorem EK{P:Program}{t xt:TypeId}{s x:AV}{H:List ad}{e sz bT:Nat}{z:List Value}{new:List (List AV)}(hk:cg P t=.slice e sz bT)(q:eJ P e=some z)
  (d : EJ (cg P xt) = true) (hr : lU sz x H = some new) (B : z.length = sz ∧ new.length ≤ 1048576 ∧ bT ≤ 1048576) : sV P t xt s x H =
   match s with
    |.nils | .lit (.slice none 0 0)=>some (.vec sz H.length 0 0 new.length,H++[.vec sz 0 new])
    | .vec w id ae off n=>match H[id]? with
     | some (.vec k v rows) =>
      if k=w∧w=sz∧v=ae∧off=0∧n=rows.length∧rows.length+new.length≤1048576 then
       some (.vec w id (ae+1) 0 (n+new.length),H.set id (.vec k (ae+1) (rows++new)))
      else none
     |_=>none
    |_=>none:=by
 unfold sV;simp only[hk,q,hr];cases I:cg P xt<;>simp only[I,EJ]at d⊢<;>first
  |(cases d; done)
  |(rw[if_pos B]; rfl)
def Ah(sz:Nat)(x:AV)(H:List ah)(z:List Value):Option (Bool × List Kd × List (List G)) :=
 match x with
 |.emptyS _=>v8 sz x H (ry (z.map .lit))
 |_=>v8 sz x H none
theorem Yi{sz:Nat}{x:AV}{H:List ah}{z:List Value}{b:Bool}{ks:List Kd}{rows:List (List G)}(h:Ah sz x H z=some (b,ks,rows))(hb:b=true) :
  lU sz x (aj H)=some (rows.map (aH ks)):=by
 unfold Ah at h;split at h<;>exact Mk h hb
def v_(P:Program)(t xt:TypeId)(s x:AV)(H:List ah):Option (Bool × AV × List ah) :=
 match cg P t with
 | .slice e sz bT =>
  match eJ P e,EJ (cg P xt)with
  | some z,true =>
   if z.length=sz∧bT≤1048576 then
    match s with
    | .nils | .lit (.slice none 0 0)=>match Ah sz x H z with
     |some (b,ks,new)=>if ks.length=sz then some (b&&decide (new.length≤1048576),.vec sz H.length 0 0 new.length,H++[.vec ks 0 new]) else none
     |none=>none
    | .vec w id ae off n=>match H[id]? with
     | some (.vec ks v rows)=>match v8 sz x H (some ks) with
      | some (b,d,new) =>
       if ks.length=w∧w=sz∧v=ae∧off=0∧Kd.ig ks d=true then
        some (b&&(ab n rows.length&&decide (rows.length+new.length≤1048576)),.vec w id (ae+1) 0 (rows++new).length,H.set id (.vec ks (ae+1) (rows++new)))
       else none
      |none=>none
     |_=>none
    |_=>none
   else none
  |_,_=>none
 |_=>none
theorem Yj{P:Program}{t xt:TypeId}{s x v:AV}{H H':List ah}{b:Bool}(h:v_ P t xt s x H=some (b,v,H'))(hb:b=true) :
  sV P t xt s x (aj H)=some (v,aj H'):=by
 unfold v_ at h;split at h
 case h_2=>cases h
 rename_i e sz bT hk;split at h
 case h_2=>cases h
 rename_i z B q;split at h
 case isFalse=>cases h
 rename_i N;obtain⟨c1,c2⟩:=N;have fresh:∀{b1:Bool} {ks:List Kd} {new:List (List G)},Ah sz x H z=some (b1,ks,new) →
   (if ks.length=sz then some (b1&&decide (new.length≤1048576),AV.vec sz H.length 0 0 new.length,H++[ah.vec ks 0 new]) else none)=some (b,v,H') →
   ∃ rows,lU sz x (aj H)=some rows∧rows.length≤1048576∧v=.vec sz (aj H).length 0 0 rows.length∧aj H'=aj H++[.vec sz 0 rows]:=by
  intro b1 ks new d h;split at h
  case isFalse=>cases h
  rename_i M;simp only[aY,a8]at h;obtain⟨h1,rfl,rfl⟩:=h;subst hb;simp only[az,decide_eq_true_eq]at h1;refine⟨_,Yi d h1.1,by simpa using h1.2,by simp[fa],?_⟩;rw[iE,ah.den,M]
 split at h
 ·split at h
  case h_2=>cases h
  rename_i b1 ks new d;obtain⟨rows,g1,g2,g3,g4⟩:=fresh d h;rw[EK hk B q g1 ⟨c1,g2,c2⟩,g3,g4]
 ·split at h
  case h_2=>cases h
  rename_i b1 ks new d;obtain⟨rows,g1,g2,g3,g4⟩:=fresh d h;rw[EK hk B q g1 ⟨c1,g2,c2⟩,g3,g4];rfl
 ·rename_i w id ae off n
  split at h
  case h_2=>cases h
  rename_i ks vv rows hid;split at h
  case h_2=>cases h
  rename_i b1 ks' new d;split at h
  case isFalse=>cases h
  rename_i O;obtain⟨J,U,V,W,I⟩:=O;have I:=Kd.jA I;subst I;simp only[aY,a8]at h;obtain⟨h1,rfl,rfl⟩:=h;subst hb;simp only[az,decide_eq_true_eq]at h1;obtain⟨h1,k,h3⟩:=h1;have k:=bk k;rw[EK hk B q (Mk d h1) ⟨c1,by simp; omega,c2⟩];simp only[cD,bg hid,ah.den];rw[if_pos ⟨J,U,V,W,k,h3⟩,db];simp only[ah.den,iP,eD,k,J]
 ·cases h
def pM(len:Nat)(lo hi:Option AV):Option (Bool × Nat × Nat) :=
 match lo,hi with
 |none,none=>some (true,0,len)
 |some (.lit (.int _ l)),none=>some (aJ l&&bx l (len:Int),l.toNat,len)
 |none,some (.lit (.int _ h))=>some (aJ h&&bx h (len:Int),0,h.toNat)
 |some (.lit (.int _ l)),some (.lit (.int _ h))=>some (aJ l&&(bx l h&&bx h (len:Int)),l.toNat,h.toNat)
 |_,_=>none
theorem Ai{len:Nat}{lo hi:Option AV}{b:Bool}{l h:Nat}(d:pM len lo hi=some (b,l,h))(hb:b=true):gI len lo hi=some (l,h):=by
 unfold pM at d;split at d
 ·cases d; simp[gI]
 ·rename_i l'
  simp only[aY,a8]at d;obtain⟨h1,rfl,rfl⟩:=d;subst hb;simp only[jW,eV,az,decide_eq_true_eq]at h1;simp[gI,kV,h1.1,h1.2]
 ·rename_i h'
  simp only[aY,a8]at d;obtain⟨h1,rfl,rfl⟩:=d;subst hb;simp only[jW,eV,az,decide_eq_true_eq]at h1;simp[gI,kV,h1.1,h1.2]
 ·rename_i l' _ h'
  simp only[aY,a8]at d;obtain⟨h1,rfl,rfl⟩:=d;subst hb;simp only[jW,eV,az,decide_eq_true_eq]at h1;simp[gI,kV,h1.1,h1.2.1,h1.2.2]
 ·cases d
def tx(rows:List (List G))(lo hi:Option AV)(l h:Nat):List (List G) :=
 match lo,hi with
 |none,none=>rows
 |some _,none=>rows.drop l
 |none,some _=>rows.take h
 |some _,some _=>(rows.drop l).take (h-l)
theorem Ml{rows:List (List G)}{lo hi:Option AV}{b:Bool}{l h:Nat}(d:pM rows.length lo hi=some (b,l,h)):tx rows lo hi l h=(rows.drop l).take (h-l):=by
 unfold pM at d;split at d
 ·cases d; simp[tx]
 ·simp only [aY, a8] at d
  obtain⟨h1,rfl,rfl⟩:=d;simp only[tx];rw[VM (by simp)]
 ·simp only [aY, a8] at d
  obtain⟨h1,rfl,rfl⟩:=d;simp[tx]
 ·rfl
 ·cases d
def EL(P:Program)(t:TypeId)(x:AV)(lo hi mx:Option AV):Option (Bool × AV) :=
 match mx with
 | some _=>match lS P t x lo hi mx with
  |some v=>some (true,v)
  |none=>none
 | none=>match cg P t,x with
  | .str,.lit (.string s)=>match pM s.size lo hi with
   |some (b,l,h)=>some (b,.lit (.string (s.extract l h)))
   |none=>none
  | .slice _ sz _,.listF ks rows=>match pM rows.length lo hi with
   |some (b,l,h)=>if ks.length=sz then some (b,.listF ks (tx rows lo hi l h)) else none
   |none=>none
  | .slice _ sz _,.vec w id ae off n=>match pM n lo hi with
   |some (b,l,h)=>if w=sz then some (b,.vec w id ae (off+l) (h-l)) else none
   |none=>none
  | .slice _ sz _,.list w rows=>match w,sP rows with
   | 1,some gs=>match pM gs.length lo hi with
    |some (b,l,h)=>if 1=sz then some (b,.listF [.str] (tx gs lo hi l h)) else none
    |none=>none
   | _,_=>match lS P t x lo hi none with
    |some v=>some (true,v)
    |none=>none
  | _,_=>match lS P t x lo hi none with
   |some v=>some (true,v)
   |none=>none
theorem Yk{P:Program}{t:TypeId}{x v:AV}{lo hi mx:Option AV}{b:Bool}(h:EL P t x lo hi mx=some (b,v))(hb:b=true):lS P t x lo hi mx=some v:=by
 unfold EL at h;split at h
 ·split at h
  ·rename_i u hu; cases h; exact hu
  ·cases h
 ·split at h
  ·rename_i s hk
   split at h
   case h_2=>cases h
   rename_i q l B d;simp only[aY,a8]at h;obtain⟨h1,rfl⟩:=h;subst h1;simp[lS,hk,Ai d hb]
  ·rename_i e sz bT ks rows hk
   split at h
   case h_2=>cases h
   rename_i q l B d;split at h
   case isFalse=>cases h
   rename_i k;simp only[aY,a8]at h;obtain⟨h1,rfl⟩:=h;subst h1;simp[lS,hk,Ai d hb,k,Ml d]
  ·rename_i e sz bT w id ae off n hk
   split at h
   case h_2=>cases h
   rename_i q l B d;split at h
   case isFalse=>cases h
   rename_i k;simp only[aY,a8]at h;obtain⟨h1,rfl⟩:=h;subst h1;simp[lS,hk,Ai d hb,k]
  ·rename_i e sz bT w rows hk
   split at h
   ·rename_i gs hg
    split at h
    case h_2=>cases h
    rename_i q l B d;split at h
    case isFalse=>cases h
    rename_i k;simp only[aY,a8]at h;obtain⟨h1,rfl⟩:=h;subst h1;subst k;have I:rows.length=gs.length:=by rw[←DE hg,cD]
    simp[lS,hk,I,Ai d hb,Ml d,zt,hg]
   ·split at h
    ·rename_i u hu; cases h; exact hu
    ·cases h
  ·split at h
   ·rename_i u hu; cases h; exact hu
   ·cases h
def wa(P:Program)(t:TypeId)(l c:AV)(H:List ah):Option (Bool × AV × List ah) :=
 match cg P t,l,c with
 | .slice e sz bT,.lit (.int _ l),.lit (.int _ c) =>
  match eJ P e with
  | some z=>match ry (zH P e z) with
   | some ks=>match gx ks (zH P e z) with
    | some gs=>if z.length=sz∧0<sz∧bT≤1048576∧ks.length=sz then
      some (aJ l&&(bx l c&&bx c 1048576),.vec sz H.length 0 0 l.toNat,H++[.vec ks 0 (cd l.toNat gs)]) else none
    |none=>none
   |none=>none
  |none=>none
 |_,_,_=>none
theorem Yl{P:Program}{t:TypeId}{l c v:AV}{H H':List ah}{b:Bool}(h:wa P t l c H=some (b,v,H'))(hb:b=true) :
  vH P t l c (aj H)=some (v,aj H'):=by
 unfold wa at h;unfold vH;split at h
 case h_2=>cases h
 rename_i e sz bT _ l _ c hk;rw[hk];simp only[];split at h
 case h_2=>cases h
 rename_i z k;split at h
 case h_2=>cases h
 rename_i ks J;split at h
 case h_2=>cases h
 rename_i gs d;split at h
 case isFalse=>cases h
 rename_i q;obtain⟨c1,c2,B,I⟩:=q;simp only[aY,a8]at h;obtain⟨h1,rfl,rfl⟩:=h;subst hb;simp only[jW,eV,az,decide_eq_true_eq]at h1;rw[k];simp only[];rw[if_pos ⟨c1,c2,h1.1,h1.2.1,h1.2.2,B⟩,iE,fa,ah.den,I,List.map_replicate,k9 d]
def wb(P:Program)(t:TypeId)(n:Nat)(parts:List (Nat × AV))(H:List ah):Option (Bool × AV × List ah) :=
 match cg P t with
 | .slice e _ _=>match eJ P e with
  | some z=>match ry (z.map .lit) with
   | some ks=>match sZ P t n parts with
    | some (.list sz rows)=>match bA ks rows with
     |some gs=>if ks.length=sz then some (true,.vec sz H.length 0 0 gs.length,H++[.vec ks 0 gs]) else none
     |none=>none
    |_=>none
   |none=>none
  |none=>none
 |_=>none
theorem Ym{P:Program}{t:TypeId}{n:Nat}{parts:List (Nat × AV)}{v:AV}{H H':List ah}{b:Bool}(h:wb P t n parts H=some (b,v,H')) :
  vN P t n parts (aj H)=some (v,aj H'):=by
 unfold wb at h;split at h
 case h_2=>cases h
 split at h
 case h_2=>cases h
 split at h
 case h_2=>cases h
 rename_i ks q;split at h
 case h_2=>cases h
 rename_i sz rows hb;split at h
 case h_2=>cases h
 rename_i gs d;split at h
 case isFalse=>cases h
 rename_i k;cases h;unfold vN;rw[hb];have e:=ru d;simp only[];rw[iE,fa,ah.den,k,e,←e,cD]
def Ct.read:Ct→AV→Option (List G)
 | .one k,a=>match vZ k a with
  |some g=>some [g]
  |none=>none
 |.agg ks,.agg cells=>gx ks cells
 |_,_=>none
theorem Ct.k_{K:Ct}{a:AV}{r:List G}(h:K.read a=some r):K.av r=a:=by
 unfold Ct.read at h;split at h
 ·split at h
  ·rename_i g hg
   cases h;exact EC hg
  ·cases h
 ·simp only[Ct.av,k9 h]
 ·cases h
def pN(P:Program)(t:TypeId):Option (Ct × List G) :=
 match P.info? t with
 | some i=>match i.zero with
  | some (.agg cs)=>match cs.toList.all dJ,ry (cs.toList.map .lit) with
   | true,some ks=>match gx ks (cs.toList.map .lit) with
    |some gs=>some (.agg ks,gs)
    |none=>none
   |_,_=>none
  | some v=>match v7 (.lit v) with
   | some k=>match vZ k (.lit v) with
    |some g=>some (.one k,[g])
    |none=>none
   | none=>match iA P t,D0 P t with
    |some (.lit (.slice none 0 0)),some ks=>some (.one (.list ks),[.l []])
    |_,_=>none
  |none=>none
 |none=>none
theorem Yn{P:Program}{t:TypeId}{v:AV}(h:iA P t=some v)(hn:v=.lit (.slice none 0 0)→False):oq P t=some v:=by
 unfold oq;rw[h];split
 ·rename_i e _
  cases e;exact(hn rfl).elim
 ·rename_i e _
  cases e;rfl
 ·rename_i e
  cases e
theorem Mm{P:Program}{t:TypeId}{V:Ct}{z:List G}(h:pN P t=some (V,z)):oq P t=some (V.av z):=by
 unfold pN at h;have q:∀ v,iA P t=some v→(v=.lit (.slice none 0 0)→False)→oq P t=some v:=fun v h hn=>Yn h hn;split at h
 case h_2=>cases h
 rename_i i hi;split at h
 ·rename_i cs d
  split at h
  ·rename_i ks h1 B
   split at h
   ·rename_i gs J
    cases h;refine q _ ?_ fun e=>by cases e
    unfold iA;rw[hi];simp only[];rw[d];simp only[AV.sM,h1,if_true,Ct.av,k9 J]
   ·cases h
  ·cases h
 ·rename_i v I d
  split at h
  ·rename_i k hk
   split at h
   ·rename_i g hg
    cases h;have e:=EC hg;simp only[Ct.av,y4,e];refine q _ ?_ fun e=>by
     simp only[AV.lit.injEq]at e;subst e;simp[v7]at hk
    unfold iA;rw[hi];simp only[];rw[d];simp only[];unfold AV.sM;split
    ·rename_i cs; exact(I cs rfl).elim
    ·simp[v7]at hk
    ·rfl
   ·cases h
  ·split at h
   ·rename_i ks h1 B
    cases h;unfold oq;rw[h1,B];rfl
   ·cases h
 ·cases h
def Aj:SK→Kd→Bool
 |.int k,.int k'=>decide (k=k')
 |.str,.str=>true
 |.bool,.bool=>true
 |_,_=>false
def kz:List SK→List Kd→Bool
 | [],[]=>true
 |a::as,b::d=>Aj a b&&kz as d
 |_,_=>false
def ij(P:Program)(d:TypeId)(K:Ct):Bool :=
 match flatK P od d with
 | some k=>kz k K.ks&&(match K with
  |.one _ => !ob (P.underlying d)
  |.agg _=>ob (P.underlying d))
 |none=>false
def pO:Kd→G→Value
 |.int k,g=>.int k g.int
 |.str,g=>.string g.str
 |.bool,g=>.bool g.bool
 |.list _,_=>.bool false
def dA:List Kd→List G→List Value
 | [],_=>[]
 |k::ks,r=>pO k (r.headD default)::dA ks r.tail
theorem Mn:∀{d:List SK} {ks:List Kd} (r:List G),kz d ks=true→oa (aH ks r)=some (dA ks r)∧cM d (dA ks r)=true
  | [],[],_,_=>⟨rfl,rfl⟩
  | a::as,k::ks,r,h=>by
    simp only[kz,az]at h;obtain⟨h1,q⟩:=Mn r.tail h.2;have hk:=h.1;cases k<;>cases a<;>simp only[Aj]at hk<;>first
      |(cases hk; done)
      | (simp only [aH, jt, oa, h1, dA, pO, cM, q, eS]
         simp_all[kindOk])
  | [],_::_,_,h|_::_,[],_,h=>by simp[kz]at h
theorem Ak:∀{d:List SK} {ks:List Kd} (r s:List G),kz d ks=true→dQ (dA ks r) (dA ks s)=aI ks r s
 | [],[],_,_,_=>rfl
 | a::as,k::ks,r,s,h=>by
  simp only[kz,az]at h;have q:=Ak r.tail s.tail h.2;have hk:=h.1;simp only[dA,dQ,aI,q];cases k<;>cases a<;>simp only[Aj]at hk<;>first
   |(cases hk; done)
   |rfl
 | [],_::_,_,_,h|_::_,[],_,_,h=>by simp[kz]at h
theorem kA{P:Program}{q:TypeId}{K:Ct}(h:ij P q K=true)(r:List G):h_ P q (K.av r)=some (dA K.ks r):=by
 unfold ij at h;split at h
 case h_2=>cases h
 rename_i B I;simp only[az]at h;obtain⟨h1,d⟩:=h;obtain⟨g1,g2⟩:=Mn r h1;unfold h_;rw[I];simp only[];cases K with
 | one k =>
  simp only[qL]at d;simp only[Ct.ks,dA]at g2⊢;have e:jt k (r.headD default)=.lit (pO k (r.headD default)):=by
   simp only[Ct.ks]at h1;cases B with
   |nil=>simp[kz]at h1
   | cons a as =>
    simp only[kz,az]at h1;have hk:=h1.1;cases k<;>cases a<;>simp only[Aj]at hk<;>first
     |(cases hk; done)
     |rfl
  simp only[Ct.av,e,g2,d,and_self,if_true]
 | agg ks =>
  simp only[Ct.av,Ct.ks]at g1 g2⊢;simp only[g1,g2,d,and_self,if_true]
def bW(ks:List Kd)(key:List G):List (List G)→Nat→Option (Nat × List G)
 | [],_=>none
 |r::rs,i=>bif aI ks key (gi r 0).row then some (i,r) else bW ks key rs (i+1)
def du(ks:List Kd)(rows:List (List G))(key:List G):Bool:=(bW ks key rows 0).isSome
def bZ(ks:List Kd)(rows:List (List G))(key z:List G):List G:=match bW ks key rows 0 with
 |some (_,r)=>(gi r 1).row
 |none=>z
def dv(ks:List Kd)(rows:List (List G))(key val:List G)(clock:Nat):List (List G):=match bW ks key rows 0 with
 |some (i,r)=>rows.set i [.l [key],.l [val],.i (gi r 2).int]
 |none=>rows++[[.l [key],.l [val],.i clock]]
def dM(ks:List Kd)(rows:List (List G))(key:List G)(clock:Nat):Nat:=bif du ks rows key then clock else clock+1
def rA(ks:List Kd)(rows:List (List G))(key:List G):List (List G):=match bW ks key rows 0 with
 |some (i,_)=>rows.eraseIdx i
 |none=>rows
theorem tz{P:Program}{k:TypeId}{K V:Ct}(h:ij P k K=true)(key:List G):∀(rows:List (List G)) (i:Nat),eU P k (dA K.ks key) (c_ K V rows) i =
  some ((bW K.ks key rows i).map fun p=>(p.1,V.av (gi p.2 1).row))
 | [],i=>rfl
 | r::rs,i=>by
  have B:=tz (V:=V) h key rs (i+1);have q:∃ d,kz d K.ks=true:=by
   unfold ij at h;split at h
   ·simp only[az]at h; exact⟨_,h.1⟩
   ·cases h
  obtain⟨d,I⟩:=q;simp only[c_,dj,eU,kA h,Ak _ _ I,bW];cases aI K.ks key (gi r 0).row with
  |true=>rfl
  |false=>exact B
theorem rB{ks:List Kd}{key:List G}:∀{rows:List (List G)} {i j:Nat} {r:List G},bW ks key rows i=some (j,r)→i≤j∧rows[j-i]? = some r
 | [],_,_,_,h=>by simp[bW]at h
 | x::rs,i,j,r,h=>by
  simp only[bW]at h;cases d:aI ks key (gi x 0).row with
  | true =>
   rw[d]at h;cases h;exact⟨aD _,by simp⟩
  | false =>
   rw[d]at h;obtain⟨h1,k⟩:=rB h;refine⟨by omega,?_⟩;rw[show j-i=(j-(i+1))+1 from by omega];simpa using k
def EM(P:Program)(t:TypeId)(m k:AV)(ok:Bool)(H:List ah):Option (Bool × AV) :=
 match dx P t,m with
 | some (d,q),.map id=>match H[id]? with
  | some (.map K V rows _)=>match K.read k,pN P q with
   | some key,some (B,z)=>match ij P d K&&V.same B with
    | true=>some (true,match ok with
      |true=>.tuple [V.av (bZ K.ks rows key z),.lit (.bool (du K.ks rows key))]
      |false=>V.av (bZ K.ks rows key z))
    |false=>none
   |_,_=>none
  |_=>none
 |_,_=>none
theorem Mo{P:Program}{t:TypeId}{m k v:AV}{ok b:Bool}{H:List ah}(h:EM P t m k ok H=some (b,v)):gu P t m k ok (aj H)=some v:=by
 unfold EM at h;unfold gu;split at h
 case h_2=>cases h
 rename_i I J id q;rw[q];simp only[];split at h
 case h_2=>cases h
 rename_i K V rows cl hid;rw[bg hid];simp only[ah.den];split at h
 case h_2=>cases h
 rename_i key M z hk B;split at h
 case h_2=>cases h
 rename_i d;simp only[az]at d;have e:=Ct.ku d.2;subst e;rw[←Ct.k_ hk,kA d.1,Mm B];simp only[tz d.1];cases h;unfold bZ du;cases bW K.ks key rows 0 with
 |none=>cases ok<;>rfl
 |some p=>cases ok<;>rfl
def tA(P:Program)(t:TypeId)(m k v:AV)(H:List ah):Option (Bool × List ah) :=
 match dx P t,m with
 | some (d,_),.map id=>match H[id]? with
  | some (.map K V rows cl)=>match K.read k,V.read v with
   | some key,some val=>match ij P d K with
    |true=>some (true,H.set id (.map K V (dv K.ks rows key val cl) (dM K.ks rows key cl)))
    |false=>none
   |_,_=>none
  |_=>none
 |_,_=>none
def eW(ks:List Kd)(rows:List (List G))(key:List G):List (List G):=match bW ks key rows 0 with
 |some (_,r)=>iD r
 |none=>[]
def fI(ks:List Kd)(rows:List (List G))(key:List G):Bool:=match bW ks key rows 0 with
 |some (_,r)=>(gi r 3).bool
 |none=>true
def jB(ks:List Kd)(rows:List (List G))(key:List G):List (List G):=match bW ks key rows 0 with
 |some (i,r)=>rows.set i [gi r 0,gi r 1,gi r 2,.t false]
 |none=>rows
def la(ks:List Kd)(rows:List (List G))(key:List G)(val:List (List G))(clock:Nat):List (List G):=match bW ks key rows 0 with
 |some (i,r)=>rows.set i [.l [key],.l [[.l val]],.i (gi r 2).int,.t true]
 |none=>rows++[[.l [key],.l [[.l val]],.i clock,.t true]]
def we(P:Program)(t:TypeId)(m k:AV)(H:List ah):Option (Bool × AV × List ah) :=
 match dx P t,m with
 | some (q,d),.map id=>match H[id]? with
  | some (.aX l K ks rows cl)=>match K.read k,zN P d,iA P d with
   | some key,some w',some (.lit (.slice none 0 0))=>match ab w' ks.length&&ij P q K with
    |true=>some (fI K.ks rows key,.vec ks.length H.length 0 0 (eW K.ks rows key).length,H.set id (.aX l K ks (jB K.ks rows key) cl)++[.vec ks 0 (eW K.ks rows key)])
    |false=>none
   |_,_,_=>none
  |_=>none
 |_,_=>none
def wg(P:Program)(t:TypeId)(m k v:AV)(H:List ah):Option (Bool × List ah) :=
 match dx P t,m,v with
 | some (B,_),.map id,.vec w j ae off n=>match H[id]?,H[j]? with
  | some (.aX l K ks rows cl),some (.vec q d rws)=>match K.read k with
   | some key=>match ij P B K&&(Kd.ig ks q&&(ab w ks.length&&(ab ae d&&ab off 0))) with
    |true=>some (ab n rws.length,(H.set id (.aX l K ks (la K.ks rows key rws cl) (dM K.ks rows key cl))).set j (.raw .dead))
    |false=>none
   |none=>none
  |_,_=>none
 |_,_,_=>none
def oC(ks:List Kd)(rows:List (List G))(key:List G)(clock:Nat):Nat:=match bW ks key rows 0 with
 |some (_,r)=>(gi r 2).int.toNat
 |none=>clock
def oD(ks:List Kd)(rows:List (List G))(key:List G)(clock:Nat):List (List G):=match bW ks key rows 0 with
 |some (i,r)=>rows.set i [.l [key],gi r 1,gi r 2,.t false]
 |none=>rows++[[.l [key],.l [[.l []]],.i clock,.t false]]
def wh(P:Program)(t:TypeId)(m k:AV)(H:List ah):Option (Bool × AV × List ah) :=
 match dx P t,m with
 | some (q,d),.map id=>match H[id]? with
  | some (.aX l K ks rows cl)=>match K.read k,zN P d,iA P d with
   | some key,some w',some (.lit (.slice none 0 0))=>match ab w' ks.length&&ij P q K with
    | true=>some (fI K.ks rows key,.tuple [.vec ks.length H.length 0 0 (eW K.ks rows key).length,.lit (.int .i64 (oC K.ks rows key cl:Nat))],
      H.set id (.aX l K ks (oD K.ks rows key cl) (dM K.ks rows key cl))++[.vec ks 0 (eW K.ks rows key)])
    |false=>none
   |_,_,_=>none
  |_=>none
 |_,_=>none
def fJ(st:Int):List (List G)→Nat→Option (Nat × List G)
 | [],_=>none
 |r::rs,i=>bif ((gi r 2).int.toNat:Int)==st then some (i,r) else fJ st rs (i+1)
def tC(rows:List (List G))(st:Int)(val:List (List G)):List (List G):=match fJ st rows 0 with
 |some (i,r)=>rows.set i [gi r 0,.l [[.l val]],gi r 2,.t true]
 |none=>rows
def tD(rows:List (List G))(st:Int):Bool:=(fJ st rows 0).isSome
def wk(m s v:AV)(H:List ah):Option (Bool × List ah) :=
 match m,s,v with
 | .map id,.lit (.int .i64 st),.vec w j ae off n=>match H[id]?,H[j]? with
  | some (.aX l K ks rows cl),some (.vec k d rws)=>match Kd.ig ks k&&(ab w ks.length&&(ab ae d&&ab off 0)) with
   |true=>some (tD rows st&&ab n rws.length,(H.set id (.aX l K ks (tC rows st rws) cl)).set j (.raw .dead))
   |false=>none
  |_,_=>none
 |_,_,_=>none
theorem Al(K:Ct)(ks:List Kd)(r:List G):(fP (ic K ks r).1).1=K.av (gi r 0).row:=by
 unfold ic;cases (gi r 4).bool && !(gi r 3).bool with
 |true=>rfl
 | false =>
  cases K with
  |one k=>cases k<;>rfl
  |agg ks=>rfl
theorem Yo(K:Ct)(g:List G):plainKey (K.av g)=true:=by
 cases K with
 |one k=>cases k<;>rfl
 |agg ks=>rfl
theorem Am{P:Program}{k:TypeId}{K:Ct}{ks:List Kd}(h:ij P k K=true)(key:List G):∀(rows:List (List G)) (i:Nat),eU P k (dA K.ks key) (cG (fA K ks rows)) i =
  some ((bW K.ks key rows i).map fun p=>(p.1,(fP (ic K ks p.2).1).2))
 | [],i=>rfl
 | r::rs,i=>by
  have B:=Am (ks:=ks) h key rs (i+1);have q:∃ d,kz d K.ks=true:=by
   unfold ij at h;split at h
   ·simp only[az]at h; exact⟨_,h.1⟩
   ·cases h
  obtain⟨d,I⟩:=q;simp only[fA,cG,dj,eU,Al,kA h,Ak _ _ I,bW];cases aI K.ks key (gi r 0).row with
  |true=>rfl
  |false=>exact B
theorem tF{K:Ct}{ks:List Kd}{rows:List (List G)}{i:Nat}{r:List G}(h:rows[i]? = some r):(fA K ks rows)[i]? = some (ic K ks r):=by
 unfold fA;rw[bU,h];rfl
theorem An(K:Ct)(ks:List Kd)(rows:List (List G))(i:Nat)(r:List G):fA K ks (rows.set i r)=(fA K ks rows).set i (ic K ks r):=by
 simp[fA,vq]
theorem Yp{P:Program}{t:TypeId}{m k v:AV}{b:Bool}{H H':List ah}(h:we P t m k H=some (b,v,H'))(hb:b=true):vP P t m k (aj H)=some (v,aj H')∧gu P t m k false (aj H)=none:=by
 unfold we at h;unfold vP gu;split at h
 case h_2=>cases h
 rename_i U V id N;rw[N];simp only[];split at h
 case h_2=>cases h
 rename_i l K ks rows cl hid;rw[bg hid];simp only[ah.den];split at h
 case h_2=>cases h
 rename_i key w' hk hw O;split at h
 case h_2=>cases h
 rename_i I;simp only[az]at I;obtain⟨q,B⟩:=I;have e:=bk q;simp only[aY,a8]at h;obtain⟨d,rfl,rfl⟩:=h;rw[hb]at d;rw[←Ct.k_ hk,kA B,hw,O];simp only[q,Am B,and_true];unfold fI at d;unfold eW jB;cases J:bW K.ks key rows 0 with
 | none =>
  simp only[yZ,iE,db,ah.den,fa,lN,qO]
 | some p =>
  obtain⟨i,r⟩:=p;rw[J]at d;simp only[]at d;obtain⟨_,hg⟩:=rB J;rw[gU]at hg;have M:pH (fA K ks rows) i=some (K.av (gi r 0).row,(iD r).map (aH ks),(gi r 2).int.toNat):=by
   unfold pH;rw[tF hg];simp only[ic,d,cond_true,yY,Kt,cond_false]
  simp only[eg,M,iE,db,ah.den,fa,cD,An];rfl
theorem Yq{P:Program}{t:TypeId}{m k v:AV}{b:Bool}{H H':List ah}(h:wg P t m k v H=some (b,H'))(hb:b=true):rb P t m k v (aj H)=some (aj H')∧mW P t m k v (aj H)=none:=by
 unfold wg at h;unfold rb mW;split at h
 case h_2=>cases h
 rename_i kt et id w j ae off n O;rw[O];simp only[];split at h
 case h_2=>cases h
 rename_i l K ks rows cl ks2 ver' rws hid U;rw[bg hid,bg U];simp only[ah.den];split at h
 case h_2=>cases h
 rename_i key hk;split at h
 case h_2=>cases h
 rename_i B;simp only[az]at B;obtain⟨q,I,J,M,N⟩:=B;have V:=Kd.jA I;subst V;have W:=bk J;have e4:=bk M;have e5:=bk N;subst W e4 e5;simp only[aY,a8]at h;obtain⟨d,rfl⟩:=h;rw[hb]at d;have d:=bk d;subst d;rw[←Ct.k_ hk,kA q];simp only[Ct.vY,cD,and_self,if_true,Am q,and_true];unfold la dM du;cases hf:bW K.ks key rows 0 with
 | none =>
  simp only[yZ,db,ah.den,Kf,cond_false];simp[fA,ic,iD,gi,G.row,G.rows,G.int,G.bool]
 | some p =>
  obtain⟨i,r⟩:=p;obtain⟨_,hg⟩:=rB hf;rw[gU]at hg;simp only[eg,D8 (tF hg),db,ah.den,An,Ku,cond_true];simp[ic,iD,gi,G.row,G.rows,G.int,G.bool]
theorem Yr{P:Program}{t:TypeId}{m k v:AV}{b:Bool}{H H':List ah}(h:wh P t m k H=some (b,v,H'))(hb:b=true):iW P t m k (aj H)=some (v,aj H'):=by
 unfold wh at h;unfold iW;split at h
 case h_2=>cases h
 rename_i U V id N;rw[N];simp only[];split at h
 case h_2=>cases h
 rename_i l K ks rows cl hid;rw[bg hid];simp only[ah.den];split at h
 case h_2=>cases h
 rename_i key w' hk hw O;split at h
 case h_2=>cases h
 rename_i B;simp only[az]at B;obtain⟨J,q⟩:=B;simp only[aY,a8]at h;obtain⟨d,rfl,rfl⟩:=h;rw[hb]at d;rw[←Ct.k_ hk,kA q,hw,O];simp only[J,Ct.vY,Bool.and_self,Am q];unfold fI at d;unfold eW oD oC dM du;cases I:bW K.ks key rows 0 with
 | none =>
  simp only[yZ,iE,db,ah.den,fa,lN,qO,Kf,cond_false,goInt];simp[fA,ic,iD,gi,G.row,G.rows,G.int,G.bool]
 | some p =>
  obtain⟨i,r⟩:=p;rw[I]at d;simp only[]at d;obtain⟨_,hg⟩:=rB I;rw[gU]at hg;have M:pH (fA K ks rows) i=some (K.av (gi r 0).row,(iD r).map (aH ks),(gi r 2).int.toNat):=by
   unfold pH;rw[tF hg];simp only[ic,d,cond_true,yY,Kt,cond_false]
  simp only[eg,M,iE,db,ah.den,fa,cD,An,Ku,cond_true,goInt];rfl
theorem EN{st:Int}:∀{rows:List (List G)} {i j:Nat} {r:List G},fJ st rows i=some (j,r)→i≤j∧rows[j-i]? = some r
 | [],_,_,_,h=>by simp[fJ]at h
 | x::rs,i,j,r,h=>by
  simp only[fJ]at h;cases d:((gi x 2).int.toNat:Int)==st with
  | true =>
   rw[d]at h;cases h;simp
  | false =>
   rw[d]at h;obtain⟨h1,k⟩:=EN h;refine⟨by omega,?_⟩;rw[show j-i=(j-(i+1))+1 from by omega];simpa using k
theorem Mp{K:Ct}{ks:List Kd}{st:Int}:∀{rows:List (List G)} {i:Nat},(fJ st rows i).map (·.1)=(rf (fA K ks rows) st).map (·+i)
 | [],_=>rfl
 | x::rs,i=>by
  have d:=Mp (K:=K) (ks:=ks) (st:=st) (rows:=rs) (i:=i+1);unfold rf at d⊢;simp only[fJ,fA,dj,Km,ic]at d⊢;cases k:((gi x 2).int.toNat:Int)==st with
  |true=>simp
  | false =>
   simp only[cond_false,d,lG,if_false,Kv];congr 1
   funext n
   simp only[Dg];omega
theorem Ys{m s v:AV}{b:Bool}{H H':List ah}(h:wk m s v H=some (b,H'))(hb:b=true):kX m s v (aj H)=some (aj H'):=by
 unfold wk at h;unfold kX;split at h
 case h_2=>cases h
 rename_i id st w j ae off n;split at h
 case h_2=>cases h
 rename_i l K ks rows cl ks2 ver' rws hid hj;simp only[];rw[bg hid,bg hj];simp only[ah.den];split at h
 case h_2=>cases h
 rename_i J;simp only[az]at J;obtain⟨N,O,U,V⟩:=J;have e2:=Kd.jA N;subst e2;have e3:=bk O;have e4:=bk U;have e5:=bk V;subst e3 e4 e5;simp only[aY,a8]at h;obtain⟨B,rfl⟩:=h;rw[hb]at B;simp only[az]at B;obtain⟨d,q⟩:=B;have q:=bk q;subst q;simp only[cD,and_self,if_true];unfold tD at d;unfold tC;cases I:fJ st rows 0 with
 |none=>rw[I]at d; cases d
 | some p =>
  obtain⟨i,r⟩:=p;obtain⟨_,hg⟩:=EN I;rw[gU]at hg;have hi:rf (fA K ks rows) st=some i:=by
   have:=Mp (K:=K) (ks:=ks) (st:=st) (rows:=rows) (i:=0);rw[I]at this;cases M:rf (fA K ks rows) st with
   |none=>rw[M]at this; cases this
   |some y=>rw[M]at this; simp at this; rw[this]
  rw[hi];obtain⟨k0,o0,ek,W⟩:∃ k o,ic K ks r=(k,o,(gi r 2).int.toNat)∧(fP k).1=K.av (gi r 0).row:=⟨_,_,rfl,Al K ks r⟩
  simp only[tF hg,ek,W,Yo,db,ah.den,An];simp[ic,iD,gi,G.row,G.rows,G.bool]
theorem Mq(K V:Ct)(rows:List (List G))(i:Nat)(r:List G):c_ K V (rows.set i r)=(c_ K V rows).set i (K.av (gi r 0).row,V.av (gi r 1).row,(gi r 2).int.toNat):=by
 simp[c_,vq]
theorem Mr{α:Type}{l:List α}{i:Nat}{x:α}(f:α→α)(h:l[i]? = some x):l.modify i f=l.set i (f x):=by
 apply List.ext_getElem?;intro j;rw[List.getElem?_modify,List.getElem?_set];by_cases e:i=j
 ·subst e
  rw[if_pos rfl,if_pos (aK h),h];simp
 ·rw [if_neg e]
  simp[e]
theorem Ms{P:Program}{t:TypeId}{m k v:AV}{b:Bool}{H H':List ah}(h:tA P t m k v H=some (b,H')):mW P t m k v (aj H)=some (aj H'):=by
 unfold tA at h;unfold mW;split at h
 case h_2=>cases h
 rename_i M N id B;rw[B];simp only[];split at h
 case h_2=>cases h
 rename_i K V rows cl hid;rw[bg hid];simp only[ah.den];split at h
 case h_2=>cases h
 rename_i key val hk I;split at h
 case h_2=>cases h
 rename_i d;cases h;rw[←Ct.k_ hk,←Ct.k_ I,kA d];simp only[Ct.vY,and_self,if_true,tz d,db,ah.den];unfold dv dM du;cases J:bW K.ks key rows 0 with
 |none=>simp[c_,gi,G.row,G.rows,G.int]
 | some p =>
  obtain⟨_,hg⟩:=rB (r:=p.2) (j:=p.1) J;rw[gU]at hg;have q:(c_ K V rows)[p.1]? = some (K.av (gi p.2 0).row,V.av (gi p.2 1).row,(gi p.2 2).int.toNat):=by simp[c_,hg]
  simp only[eg,Mr _ q,Mq,Ku,cond_true];simp[gi,G.row,G.rows,G.int]
def wm(P:Program)(t:TypeId)(m k:AV)(H:List ah):Option (Bool × List ah) :=
 match dx P t,m with
 | some (d,_),.map id=>match H[id]? with
  | some (.map K V rows cl)=>match K.read k,ij P d K with
   |some key,true=>some (true,H.set id (.map K V (rA K.ks rows key) cl))
   |_,_=>none
  |_=>none
 |_,_=>none
theorem Mt{α β:Type}(f:α→β):∀(l:List α) (i:Nat),(l.map f).eraseIdx i=(l.eraseIdx i).map f
 | [],_=>by simp
 |_::_,0=>by simp
 |_::l,i+1=>by simp[Mt f l i]
theorem Yt{P:Program}{t:TypeId}{m k:AV}{b:Bool}{H H':List ah}(h:wm P t m k H=some (b,H')):vL P t m k (aj H)=some (aj H'):=by
 unfold wm at h;unfold vL;split at h
 case h_2=>cases h
 rename_i B I id q;rw[q];simp only[];split at h
 case h_2=>cases h
 rename_i K V rows cl hid;rw[bg hid];simp only[ah.den];split at h
 case h_2=>cases h
 rename_i key hk d;cases h;rw[←Ct.k_ hk,kA d];simp only[tz d,db,ah.den];unfold rA;cases J:bW K.ks key rows 0 with
 |none=>rfl
 |some p=>simp only[eg,c_,Mt]
def wo(P:Program)(t:TypeId)(x:AV)(H:List ah):Option (Bool × List ah) :=
 match cg P t,x with
 | .slice e sz _,.vec w id ae off n=>match eJ P e,H[id]? with
  | some z,some (.vec ks v rows)=>match gx ks (z.map .lit) with
   | some d=>if ks.length=w∧w=sz∧v=ae∧z.length=sz∧0<sz then
     some (eE (off+n) rows.length,H.set id (.vec ks v (rows.take off++cd n d++rows.drop (off+n)))) else none
   |none=>none
  |_,_=>none
 |_,_=>none
theorem Yu{P:Program}{t:TypeId}{x:AV}{b:Bool}{H H':List ah}(h:wo P t x H=some (b,H'))(hb:b=true):vM P t x (aj H)=some (aj H'):=by
 unfold wo at h;unfold vM;split at h
 case h_2=>cases h
 rename_i e sz bT w id ae off n hk;rw[hk];simp only[];split at h
 case h_2=>cases h
 rename_i z ks v rows q hid;rw[q,bg hid];simp only[ah.den];split at h
 case h_2=>cases h
 rename_i J k;split at h
 case isFalse=>cases h
 rename_i B;obtain⟨rfl,rfl,rfl,h1,I⟩:=B;simp only[aY,a8]at h;obtain⟨d,rfl⟩:=h;subst hb;have d:=nW d;simp only[h1,I,cD,d,and_self,if_true,db,ah.den,aY];rw[←k9 k];simp[List.map_take,List.map_drop]
def wq(P:Program)(t xt:TypeId)(s x:AV)(H:List ah):Option (Bool × AV × List ah) :=
 match cg P t,cg P xt,s,x with
 | .slice e sz bT,.int _,.lit (.slice none 0 0),.lit (.int _ n)=>match eJ P e with
  | some z=>match ry (z.map .lit) with
   | some ks=>match gx ks (z.map .lit) with
    | some d=>if z.length=sz∧0<sz∧bT≤1048576∧ks.length=sz then
      some (ao 0 n&&bx n 1048576,.vec sz H.length 0 0 n.toNat,H++[.vec ks 0 (cd n.toNat d)]) else none
    |none=>none
   |none=>none
  |none=>none
 |_,_,_,_=>none
theorem Yv{P:Program}{t xt:TypeId}{s x v:AV}{b:Bool}{H H':List ah}(h:wq P t xt s x H=some (b,v,H'))(hb:b=true):ra P t xt s x (aj H)=some (v,aj H'):=by
 unfold wq at h;unfold ra;split at h
 case h_2=>cases h
 rename_i e sz bT k k' n hk q;rw[hk,q];simp only[];split at h
 case h_2=>cases h
 rename_i z I;rw[I];simp only[];split at h
 case h_2=>cases h
 rename_i ks U;split at h
 case h_2=>cases h
 rename_i V B;split at h
 case isFalse=>cases h
 rename_i J;obtain⟨h1,M,N,O⟩:=J;simp only[aY,a8]at h;obtain⟨d,rfl,rfl⟩:=h;subst hb;simp only[dD,eV,az,decide_eq_true_eq]at d;simp only[h1,M,N,d.1,d.2,and_self,if_true,iE,ah.den,fa,O,aY,a8,true_and];rw[←k9 B];simp
def lb(ks:List Kd)(rows:List (List G))(key:List G):Option Nat:=match bW ks key rows 0 with
 |some (_,r)=>rr r
 |none=>none
def m_(mem:List (List G)):Option Nat→Bool
 |some i=>eh i mem.length
 |none=>false
def jX(mem:List (List G)):Option Nat→List G
 |some i=>mem.getD i []
 |none=>[]
def tG(mem:List (List G))(j:Option Nat)(ks:List Kd)(key val:List G):List (List G):=match j with
 |some i=>mem.set i [.l (dv ks (gi (jX mem j) 0).rows key val (gi (jX mem j) 1).int.toNat),.i (dM ks (gi (jX mem j) 0).rows key (gi (jX mem j) 1).int.toNat:Nat)]
 |none=>mem
def tH(rows:List (List G))(st:Int):Bool:=match fJ st rows 0 with
 |some (_,r) => !bx 0 (gi r 1).int
 |none=>false
def tJ(rows:List (List G))(st:Int)(n:Nat):List (List G):=match fJ st rows 0 with
 |some (i,r)=>rows.set i [gi r 0,.i n,gi r 2]
 |none=>rows
theorem EO{P:Program}{k:TypeId}{K:Ct}(h:ij P k K=true)(key:List G):∀(rows:List (List G)) (i:Nat),eU P k (dA K.ks key) (fQ (i_ K rows)) i =
  some ((bW K.ks key rows i).map fun p=>(p.1,AV.undef))
 | [],i=>rfl
 | r::rs,i=>by
  have B:=EO h key rs (i+1);have q:∃ d,kz d K.ks=true:=by
   unfold ij at h;split at h
   ·simp only[az]at h; exact⟨_,h.1⟩
   ·cases h
  obtain⟨d,I⟩:=q;simp only[i_,fQ,dj,eU,kA h,Ak _ _ I,bW];cases aI K.ks key (gi r 0).row with
  |true=>rfl
  |false=>exact B
theorem Mu{K:Ct}{rows:List (List G)}{i:Nat}{r:List G}(h:rows[i]? = some r):(i_ K rows)[i]? = some (K.av (gi r 0).row,rr r,(gi r 2).int.toNat):=by
 unfold i_;rw[bU,h];rfl
theorem Mv{KI VI:Ct}{mem:List (List G)}{i:Nat}(h:i<mem.length):(pK KI VI mem)[i]? = some (c_ KI VI (gi (mem.getD i []) 0).rows,(gi (mem.getD i []) 1).int.toNat):=by
 unfold pK;rw[bU,bz,bf h];rfl
def EP(P:Program)(t:TypeId)(m k:AV)(ok:Bool)(H:List ah):Option (Bool × AV) :=
 match dx P t,m with
 | some (d,q),.sub id l j=>match H[id]? with
  | some (.mm l' _ KI VI _ mem _)=>match KI.read k,pN P q with
   | some key,some (B,z)=>match ab l l'&&(ij P d KI&&VI.same B) with
    | true=>some (m_ mem j,match ok with
      |true=>.tuple [VI.av (bZ KI.ks (gi (jX mem j) 0).rows key z),.lit (.bool (du KI.ks (gi (jX mem j) 0).rows key))]
      |false=>VI.av (bZ KI.ks (gi (jX mem j) 0).rows key z))
    |false=>none
   |_,_=>none
  |_=>none
 | some (d,q),.map id=>match H[id]?,ok with
  | some (.mm l K _ _ rows _ _),false=>match K.read k,iA P q with
   | some key,some (.lit (.map none))=>match ij P d K with
    |true=>some (true,.sub id l (lb K.ks rows key))
    |false=>none
   |_,_=>none
  |_,_=>none
 |_,_=>none
theorem Yw{P:Program}{t:TypeId}{m k v:AV}{ok b:Bool}{H:List ah}(h:EP P t m k ok H=some (b,v))(hb:b=true):gu P t m k ok (aj H)=none∧kr P t m k ok (aj H)=some v:=by
 unfold EP at h;unfold kr gu;split at h
 ·rename_i J M id l j q
  rw[q];refine⟨rfl,?_⟩;split at h
  case h_2=>cases h
  rename_i l' K KI VI rows mem cl hid;split at h
  case h_2=>cases h
  rename_i key V z hk B;split at h
  case h_2=>cases h
  rename_i d;simp only[az]at d;obtain⟨N,d,O⟩:=d;have e:=Ct.ku O;subst e;simp only[aY,a8]at h;obtain⟨hi,rfl⟩:=h;rw[hb]at hi;cases j with
  |none=>cases hi
  | some i =>
   have I:i<mem.length:=by simpa[m_]using hi
   simp only[s8,q];rw[bg hid];simp only[ah.den,N,Mv I,jX];rw[←Ct.k_ hk,kA d,Mm B];simp only[tz d];unfold bZ du;cases bW KI.ks key (gi (mem.getD i []) 0).rows 0 with
   |none=>cases ok<;>rfl
   |some p=>cases ok<;>rfl
 ·rename_i J M id q
  rw[q];split at h
  case h_2=>cases h
  rename_i l K KI VI rows mem cl hid;split at h
  case h_2=>cases h
  rename_i key hk B;split at h
  case h_2=>cases h
  rename_i d;simp only[rh,q];rw[bg hid];simp only[ah.den];refine⟨trivial,?_⟩;rw[←Ct.k_ hk,kA d,B];simp only[EO d];cases h;unfold lb;cases U:bW K.ks key rows 0 with
  |none=>rfl
  | some p =>
   obtain⟨i,r⟩:=p;obtain⟨_,hg⟩:=rB U;rw[gU]at hg;simp only[eg,Mu hg]
 ·cases h
def wu(P:Program)(t:TypeId)(m k v:AV)(H:List ah):Option (Bool × List ah) :=
 match dx P t,m with
 | some (d,_),.sub id l j=>match H[id]? with
  | some (.mm l' K KI VI rows mem cl)=>match KI.read k,VI.read v with
   | some key,some val=>match ab l l'&&ij P d KI with
    |true=>some (m_ mem j,H.set id (.mm l' K KI VI rows (tG mem j KI.ks key val) cl))
    |false=>none
   |_,_=>none
  |_=>none
 |_,_=>none
theorem Yx(KI VI:Ct)(mem:List (List G))(i:Nat)(r:List G):pK KI VI (mem.set i r)=(pK KI VI mem).set i (c_ KI VI (gi r 0).rows,(gi r 1).int.toNat):=by
 simp[pK,vq]
theorem Yy(K:Ct)(rows:List (List G))(i:Nat)(r:List G):i_ K (rows.set i r)=(i_ K rows).set i (K.av (gi r 0).row,rr r,(gi r 2).int.toNat):=by
 simp[i_,vq]
theorem Yz{P:Program}{t:TypeId}{m k v:AV}{b:Bool}{H H':List ah}(h:wu P t m k v H=some (b,H'))(hb:b=true) :
  vR P t m k v (aj H)=some (aj H')∧mW P t m k v (aj H)=none∧rb P t m k v (aj H)=none:=by
 unfold wu at h;unfold vR mW rb;split at h
 case h_2=>cases h
 rename_i V W id l j N;rw[N];refine⟨?_,rfl,rfl⟩;split at h
 case h_2=>cases h
 rename_i l' K KI VI rows mem cl hid;split at h
 case h_2=>cases h
 rename_i key val hk O;split at h
 case h_2=>cases h
 rename_i d;simp only[az]at d;obtain⟨q,d⟩:=d;have e:=bk q;subst e;simp only[aY,a8]at h;obtain⟨hi,rfl⟩:=h;rw[hb]at hi;cases j with
 |none=>cases hi
 | some i =>
  have J:i<mem.length:=by simpa[m_]using hi
  simp only[];rw[bg hid];simp only[ah.den,Mv J,q];rw[←Ct.k_ hk,←Ct.k_ O,kA d];simp only[Ct.vY,and_self,if_true,tz d,db,ah.den,tG,jX,Yx];generalize mem.getD i []=m0;have B:∀(X:List (List G)) (n:Nat),(gi [G.l X,G.i n] 0).rows=X:=fun _ _=>rfl;have I:∀(X:List (List G)) (n:Nat),(gi [G.l X,G.i n] 1).int.toNat=n:=fun _ _=>rfl;unfold dv dM du;cases U:bW KI.ks key (gi m0 0).rows 0 with
  | none =>
   simp only[yZ,Kf,cond_false,B,I];rw[show c_ KI VI ((gi m0 0).rows++[[.l [key],.l [val],.i (gi m0 1).int.toNat]])=c_ KI VI (gi m0 0).rows++[(KI.av key,VI.av val,(gi m0 1).int.toNat)] from by
    simp only[c_,iP,dj,qO];rfl]
  | some p =>
   obtain⟨_,hg⟩:=rB (r:=p.2) (j:=p.1) U;rw[gU]at hg;have M:(c_ KI VI (gi m0 0).rows)[p.1]? = some (KI.av (gi p.2 0).row,VI.av (gi p.2 1).row,(gi p.2 2).int.toNat):=by simp[c_,hg]
   simp only[eg,Mr _ M,Ku,cond_true,B,I,Mq];rfl
def wv(P:Program)(t:TypeId)(m k:AV)(H:List ah):Option (Bool × AV × List ah) :=
 match dx P t,m with
 | some (d,q),.map id=>match H[id]? with
  | some (.mm l K KI VI rows mem cl)=>match K.read k,iA P q with
   | some key,some (.lit (.map none))=>match ij P d K with
    |true=>some (!du K.ks rows key,.tuple [.sub id l none,.lit (.int .i64 (cl:Nat))],H.set id (.mm l K KI VI (rows++[[.l [key],.i (-1),.i cl]]) mem (cl+1)))
    |false=>none
   |_,_=>none
  |_=>none
 |_,_=>none
theorem YA{P:Program}{t:TypeId}{m k v:AV}{b:Bool}{H H':List ah}(h:wv P t m k H=some (b,v,H'))(hb:b=true) :
  jS P t m k (aj H)=some (v,aj H')∧iW P t m k (aj H)=none:=by
 unfold wv at h;unfold jS iW;split at h
 case h_2=>cases h
 rename_i M N id B;rw[B];split at h
 case h_2=>cases h
 rename_i l K KI VI rows mem cl hid;simp only[];rw[bg hid];simp only[ah.den];split at h
 case h_2=>cases h
 rename_i key hk I;split at h
 case h_2=>cases h
 rename_i q;simp only[aY,a8]at h;obtain⟨d,rfl,rfl⟩:=h;rw[hb]at d;rw[←Ct.k_ hk,kA q,I];simp only[Ct.vY,EO q,and_true];unfold du at d;cases J:bW K.ks key rows 0 with
 |some p=>rw[J]at d; cases d
 | none =>
  simp only[yZ,db,ah.den];rw[show i_ K (rows++[[.l [key],.i (-1),.i cl]])=i_ K rows++[(K.av key,none,cl)] from by
   simp only[i_,iP,dj,qO];rfl]
  rfl
theorem Mw{K:Ct}{st:Int}:∀{rows:List (List G)} {i:Nat},(fJ st rows i).map (·.1)=(rj (i_ K rows) st).map (·+i)
 | [],_=>rfl
 | x::rs,i=>by
  have d:=Mw (K:=K) (st:=st) (rows:=rs) (i:=i+1);unfold rj at d⊢;simp only[fJ,i_,dj,Km]at d⊢;cases k:((gi x 2).int.toNat:Int)==st with
  |true=>simp
  | false =>
   simp only[cond_false,d,lG,if_false,Kv];congr 1
   funext n
   simp only[Dg];omega
def wx(m s v:AV)(H:List ah):Option (Bool × List ah) :=
 match m,s,v with
 | .map id,.lit (.int .i64 st),.map j=>match H[id]?,H[j]? with
  | some (.mm l K KI VI rows mem cl),some (.map q B d k)=>match KI.same q&&VI.same B with
   |true=>some (tH rows st,(H.set id (.mm l K KI VI (tJ rows st mem.length) (mem++[[.l d,.i k]]) cl)).set j (.raw .dead))
   |false=>none
  |_,_=>none
 |_,_,_=>none
theorem YB{m s v:AV}{b:Bool}{H H':List ah}(h:wx m s v H=some (b,H'))(hb:b=true) :
  lW m s v (aj H)=some (aj H')∧kX m s v (aj H)=none:=by
 unfold wx at h;unfold lW kX;split at h
 case h_2=>cases h
 rename_i id st j;split at h
 case h_2=>cases h
 rename_i l K KI VI rows mem cl V W O U hid I;refine⟨?_,rfl⟩;simp only[];rw[bg hid,bg I];simp only[ah.den];split at h
 case h_2=>cases h
 rename_i q;simp only[az]at q;have J:=Ct.ku q.1;have M:=Ct.ku q.2;subst J M;simp only[aY,a8]at h;obtain⟨d,rfl⟩:=h;rw[hb]at d;unfold tH at d;unfold tJ;cases k:fJ st rows 0 with
 |none=>rw[k]at d; cases d
 | some p =>
  obtain⟨i,r⟩:=p;rw[k]at d;obtain⟨_,hg⟩:=EN k;rw[gU]at hg;have hi:rj (i_ K rows) st=some i:=by
   have:=Mw (K:=K) (st:=st) (rows:=rows) (i:=0);rw[k]at this;cases B:rj (i_ K rows) st with
   |none=>rw[B]at this; cases this
   |some y=>rw[B]at this; simp at this; rw[this]
  have hm:rr r=none:=by
   unfold rr;cases N:bx 0 (gi r 1).int with
   |true=>simp[N]at d
   |false=>rfl
  rw[hi];simp only[Mu hg,hm,db,ah.den,Yy];simp[rr,pK,gi,G.row,G.rows,G.int,bx,show ∀ n,eE 0 n=true from fun n=>Nat.ble_eq_true_of_le (fg n)]
def tK(P:Program)(r:Operand→AV)(H:List ah):Op→Option (Bool × AV × List ah)
 | .alloc t=>match zC P t with
  |some e=>if lV (aj H) 0=true then some (true,.ptr H.length 0 0 0 0,H++[.raw (.fh 0 t e yJ)]) else none
  | none=>match eJ P t with
   |some z=>some (true,.ptr H.length 0 0 0 0,H++[.raw (.box (z.map .lit))])
   |none=>none
 | .box _ x=>match qW (r x) with
  |some cs=>some (true,.ptr H.length 0 0 0 0,H++[.raw (.box cs)])
  |none=>none
 | .store t a x=>match tw P t (r a) (r x) H with
  |some (b,H')=>some (b,.undef,H')
  |none=>none
 |.makeSlice t l c=>wa P t (r l) (r c) H
 |.buildSlice t n parts=>wb P t n (parts.toList.map fun p=>(p.1,r p.2)) H
 | .range t x=>match cg P t,r x with
  |.str,.lit (.string s)=>some (true,.ptr H.length 0 0 0 0,H++[.raw (.iter s 0)])
  |_,_=>none
 | .next it true=>match r it with
  | .ptr id 0 _ 0 0=>match H[id]? with
   | some (.raw (.iter s pos))=>if pos<s.size then some (true,.tuple [.lit (.bool true),.lit (goInt pos),.lit (.int .i32 (ph s pos).1)],H.set id (.raw (.iter s (pos+(ph s pos).2))))
     else some (true,.tuple [.lit (.bool false)],H)
   |_=>none
  |_=>none
 | .makeMap t none=>match dx P t with
  | some (q,d)=>match pN P q,pN P d with
   |some (K,_),some (V,_)=>some (true,.map H.length,H++[.map K V [] 0])
   | some (K,_),none=>match dx P d with
    |some _=>some (true,.map H.length,H++[.map K K [] 0])
    |none=>none
   |_,_=>none
  |none=>none
 | .mapUpdate t m k v=>match tA P t (r m) (r k) (r v) H with
  |some (b,H')=>some (b,.undef,H')
  | none=>match wg P t (r m) (r k) (r v) H with
   |some (b,H')=>some (b,.undef,H')
   | none=>match wu P t (r m) (r k) (r v) H with
    |some (b,H')=>some (b,.undef,H')
    |none=>none
 |.lookup t m k false=>we P t (r m) (r k) H
 | .mapEntry t m k=>match wh P t (r m) (r k) H with
  |some y=>some y
  |none=>wv P t (r m) (r k) H
 | .entryStore _ m s x=>match wk (r m) (r s) (r x) H with
  |some (b,H')=>some (b,.undef,H')
  | none=>match wx (r m) (r s) (r x) H with
   |some (b,H')=>some (b,.undef,H')
   |none=>none
 | .insert t m k v=>match tA P t (r m) (r k) (r v) H with
  |some (b,H')=>some (b,.undef,H')
  |none=>none
 | .call c=>match c.callee with
  | .builtin .append=>match c.args.toList,c.argTypes.toList with
   | [s,x],[t,xt]=>match cg P xt with
    |.int _=>wq P t xt (r s) (r x) H
    |_=>v_ P t xt (r s) (r x) H
   |_,_=>none
  | .builtin .clear=>match c.args.toList,c.argTypes.toList with
   | [x],[t]=>match wo P t (r x) H with
    |some (b,H')=>some (b,.tuple [],H')
    |none=>none
   |_,_=>none
  | .builtin .delete=>match c.args.toList,c.argTypes.toList with
   | [x,k],t::_=>match wm P t (r x) (r k) H with
    |some (b,H')=>some (b,.tuple [],H')
    |none=>none
   |_,_=>none
  |_=>none
 |_=>none
theorem YC{P:Program}{t xt:TypeId}{s x:AV}{H:List ad}(h:∀ k,cg P xt≠.int k):ra P t xt s x H=none:=by
 unfold ra;split
 ·rename_i hk
  exact(h _ hk).elim
 ·rfl
theorem Mx{P:Program}{r:Operand→AV}{H H':List ah}{o:Op}{v:AV}{b:Bool}(h:tK P r H o=some (b,v,H'))(hb:b=true):dt P r (aj H) o=some (v,aj H'):=by
 cases o<;>simp only[tK]at h<;>try cases h
 case alloc t =>
  split at h
  ·rename_i e he
   split at h
   ·rename_i hn
    cases h;simp only[dt,qY,he,hn,if_true,fa,iE,ah.den]
   ·cases h
  ·rename_i he
   split at h
   ·rename_i z M; cases h; simp only[dt,qY,he,M,fa,iE,ah.den]
   ·cases h
 case box t x =>
  split at h
  ·rename_i z M; cases h; simp only[dt,zG,M,fa,iE,ah.den]
  ·cases h
 case store t a x =>
  split at h
  ·rename_i q H1 d; cases h; simp only[dt,Mj d hb]
  ·cases h
 case makeSlice t l c=>simp only[dt]; exact Yl h hb
 case buildSlice t n ps=>simp only[dt]; exact Ym h
 case range t x =>
  split at h
  ·rename_i s hk N
   cases h;simp only[dt,zI,hk,N,fa,iE,ah.den]
  ·cases h
 case next it isString =>
  cases isString with
  |false=>cases h
  | true =>
   simp only[]at h;split at h
   ·rename_i id k N
    split at h
    ·rename_i s pos hid
     simp only[dt,zJ,N,bg hid,ah.den];split at h
     ·rename_i J
      cases h;rw[if_pos J,db];rfl
     ·rename_i J
      cases h;rw[if_neg J]
    ·cases h
   ·cases h
 case makeMap t res =>
  cases res with
  |some _=>cases h
  | none =>
   simp only[]at h;split at h
   ·split at h
    ·cases h
     simp only[dt,fa,iE,ah.den];rfl
    ·split at h
     ·cases h
      simp only[dt,fa,iE,ah.den];rfl
     ·cases h
    ·cases h
   ·cases h
 case mapUpdate t m k x =>
  split at h
  ·rename_i q H1 d
   cases h;simp only[dt,Ms d]
  ·split at h
   ·rename_i q H1 d
    cases h;obtain⟨g1,g2⟩:=Yq d hb;simp only[dt,g1,g2]
   ·split at h
    ·rename_i q H1 d
     cases h;obtain⟨g1,g2,g3⟩:=Yz d hb;simp only[dt,g1,g2,g3]
    ·cases h
 case lookup t m k ok =>
  cases ok with
  |true=>cases h
  | false =>
   obtain⟨g1,g2⟩:=Yp h hb;simp only[dt,g1,g2]
 case mapEntry t m k =>
  split at h
  ·rename_i y U
   cases h;simp only[dt,Yr U hb]
  ·obtain ⟨g1, g2⟩ := YA h hb
   simp only[dt,g1,g2]
 case entryStore t m s x =>
  split at h
  ·rename_i q H1 d
   cases h;simp only[dt,Ys d hb]
  ·split at h
   ·rename_i q H1 d
    cases h;obtain⟨g1,g2⟩:=YB d hb;simp only[dt,g1,g2]
   ·cases h
 case insert t m k x =>
  split at h
  ·rename_i q H1 d
   cases h;simp only[dt,Ms d]
  ·cases h
 case call c =>
  simp only[dt,zP];split at h
  ·rename_i B
   rw[B];split at h
   ·rename_i h1 I
    simp only[h1,I];split at h
    ·rw[Yv h hb]
    ·rename_i O
     rw[YC O];exact Yj h hb
   ·cases h
  ·rename_i B
   rw[B];split at h
   ·rename_i h1 I
    simp only[h1,I];split at h
    ·rename_i d
     cases h;rw[Yu d hb]
    ·cases h
   ·cases h
  ·rename_i B
   rw[B];split at h
   ·rename_i h1 I
    simp only[h1,I];split at h
    ·rename_i d
     cases h;rw[Yt d]
    ·cases h
   ·cases h
  ·cases h
end Go.AL

namespace Go.AL
open Go
variable [Dr]
def tL(n:Int):Option (Bool × AV):=some (aw n,.lit (.int .i64 n))
def ER(P:Program)(op:BinOp)(t:TypeId)(d:Bool)(x y:AV):Option (Bool × AV) :=
 match op,x,y with
 |.add,.lit (.int .i64 a),.lit (.int .i64 b)=>tL (a+b)
 |.sub,.lit (.int .i64 a),.lit (.int .i64 b)=>tL (a-b)
 |.mul,.lit (.int .i64 a),.lit (.int .i64 b)=>tL (a*b)
 |.quo,.lit (.int .i64 a),.lit (.int .i64 b)=>some (!(b==0)&&aw (a.tdiv b),.lit (.int .i64 (a.tdiv b)))
 |.rem,.lit (.int .i64 a),.lit (.int .i64 b)=>some (!(b==0),.lit (.int .i64 (a.tmod b)))
 |.add,.lit (.string a),.lit (.string b)=>some (eE (a.size+b.size) 9223372036854775807,.lit (.string (a++b)))
 |.lss,.lit (.int k a),.lit (.int k' b)=>if k=k' then some (true,.lit (.bool (ao a b))) else none
 |.leq,.lit (.int k a),.lit (.int k' b)=>if k=k' then some (true,.lit (.bool (bx a b))) else none
 |.gtr,.lit (.int k a),.lit (.int k' b)=>if k=k' then some (true,.lit (.bool (ao b a))) else none
 |.geq,.lit (.int k a),.lit (.int k' b)=>if k=k' then some (true,.lit (.bool (bx b a))) else none
 |.and,.lit (.int k a),.lit (.int k' b)=>if k=k' then some (true,.lit (.int k (KK k a b))) else none
 |.or,.lit (.int k a),.lit (.int k' b)=>if k=k' then some (true,.lit (.int k (KL k a b))) else none
 |.xor,.lit (.int k a),.lit (.int k' b)=>if k=k' then some (true,.lit (.int k (KM k a b))) else none
 |.shl,.lit (.int k a),.lit (.int _ b)=>some (aJ b,.lit (.int k (DB k a b)))
 |.shr,.lit (.int k a),.lit (.int _ b)=>some (aJ b,.lit (.int k (kp k a b)))
 | op,.listF ks rows,.lit (.slice none 0 0)=>match P.underlying t,kq op false with
  |some (.slice _),some v=>some (eh 0 rows.length,v)
  |_,_=>none
 | op,.vec w id ae off m,.lit (.slice none 0 0)=>match P.underlying t,kq op false with
  |some (.slice _),some v=>some (eh 0 m,v)
  |_,_=>none
 | _,_,_=>match hZ P op t d x y with
  |some v=>some (true,v)
  |none=>none
def ES(m sz:Nat)(cells:List AV):Option (Kd × List (List G)) :=
 match v7 (cells.headD .undef)with
 | some k=>match bA [k] (cells.map fun c=>[c]) with
  |some rows=>if sz=1∧m=cells.length then some (k,rows) else none
  |none=>none
 |none=>none
theorem YD{m sz:Nat}{cells:List AV}{k:Kd}{rows:List (List G)}(h:ES m sz cells=some (k,rows)){j:Nat}(q:j<m) :
  aH [k] (rows.getD j [])=(cells.drop (j*sz)).take sz:=by
 unfold ES at h;split at h
 ·split at h
  ·rename_i rows' hg
   split at h
   ·rename_i B
    obtain⟨rfl,rfl⟩:=B;cases h;have e:=ru hg;have I:rows.length=cells.length:=by have:=congrArg y5 e; simpa using this
    have d:(rows.map (aH [k]))[j]? = (cells.map fun c=>[c])[j]? := by rw[e]
    rw[EG (by omega),bU,bf q]at d;simp only[eg,aY]at d;rw[d,al1,List.drop_eq_getElem_cons q,List.take_succ_cons,List.take_zero]
   ·cases h
  ·cases h
 ·cases h
def ET(k:SK)(x i:AV):Option (Bool × AV) :=
 match k,x,i with
 |.slice _ sz _,.listF ks rows,.lit (.int _ j)=>if ks.length=sz then some (aJ j&&ao j (rows.length:Int),.cptr (aH ks (rows.getD j.toNat []))) else none
 |.slice _ sz _,.vec w id ae off m,.lit (.int _ j)=>if w=sz then some (aJ j&&ao j (m:Int),.ptr id ae w (off+j.toNat) 0) else none
 | .array m _ sz _,.cptr cells,.lit (.int d j)=>match ES m sz cells with
  |some (kd,rows)=>some (aJ j&&ao j (m:Int),.cptr (aH [kd] (rows.getD j.toNat [])))
  | none=>match kn k (.cptr cells) (.lit (.int d j)) with
   |some v=>some (true,v)
   |none=>none
 |.array m _ sz _,.ptr id ae w row col,.lit (.int _ j)=>some (aJ j&&ao j (m:Int),.ptr id ae w row (col+j.toNat*sz))
 | _,_,_=>match kn k x i with
  |some v=>some (true,v)
  |none=>none
def EU(k:SK)(x i:AV):Option (Bool × AV) :=
 match k,x,i with
 |.str,.lit (.string s),.lit (.int _ j)=>some (aJ j&&ao j (s.size:Int),.lit (.int .u8 ((s.data.toList.getD j.toNat 0).toNat)))
 | .array m _ 1 false,.agg cells,.lit (.int _ j)=>match ja cells with
  |some l=>bif eE m l.length then some (aJ j&&ao j (m:Int),.lit (.int .i64 (l.getD j.toNat 0))) else none
  | none=>match pF k x i with
   |some v=>some (true,v)
   |none=>none
 | _,_,_=>match pF k x i with
  |some v=>some (true,v)
  |none=>none
def EV(op:UnOp)(x:AV):Option (Bool × AV) :=
 match op,x with
 |.neg,.lit (.int .i64 n)=>some (aw (0-n),.lit (.int .i64 (0-n)))
 | _,_=>match sT op x with
  |some v=>some (true,v)
  |none=>none
def EW(P:Program)(s d:TypeId)(x:AV):Option (Bool × AV) :=
 match P.underlying s,cg P d,x with
 |some _,.int .i64,.lit (.int _ n)=>some (aw n,.lit (.int .i64 n))
 | _,_,_=>match sU P s d x with
  |some v=>some (true,v)
  |none=>none
def EX(P:Program)(r:Operand→AV)(o:Op):Option (Bool × AV) :=
 match o with
 |.indexAddr t x i=>ET (cg P t) (r x) (r i)
 |.index t x i=>EU (cg P t) (r x) (r i)
 |.binOp op t x y _=>ER P op t (mX x||mX y) (r x) (r y)
 |.slice t x lo hi mx=>EL P t (r x) (lo.map r) (hi.map r) (mx.map r)
 |.unOp op _ x=>EV op (r x)
 |.convert s d x=>EW P s d (r x)
 | o=>match iC P r o with
  |some v=>some (true,v)
  |none=>none
theorem pP{x:Option AV}{b:Bool}{v:AV} (h:(match x with|some v=>some (true,v)|none=>none)=some (b,v)):x=some v:=by
 split at h
 ·cases h; rfl
 ·cases h
theorem rC{n:Int}(h:aw n=true):IntKind.i64.wrap n=n:=by
 rw[ib]at h;simp[IntKind.wrap,IntKind.bits,IntKind.signed];omega
theorem YE{P:Program}{op:BinOp}{t:TypeId}{B:Bool}{x y v:AV}{b:Bool}(h:ER P op t B x y=some (b,v))(hb:b=true):hZ P op t B x y=some v:=by
  unfold ER at h;split at h
  · simp only [tL, aY, a8] at h
    obtain⟨h1,rfl⟩:=h;subst hb;simp[hZ,iT,mP,rC h1]
  · simp only [tL, aY, a8] at h
    obtain⟨h1,rfl⟩:=h;subst hb;simp[hZ,iT,mP,rC h1]
  · simp only [tL, aY, a8] at h
    obtain⟨h1,rfl⟩:=h;subst hb;simp[hZ,iT,mP,rC h1]
  · simp only [aY, a8] at h
    obtain⟨h1,rfl⟩:=h;subst hb;simp only[az,qL,beq_eq_false_iff_ne]at h1;simp[hZ,iT,mP,h1.1,rC h1.2]
  · simp only [aY, a8] at h
    obtain⟨h1,rfl⟩:=h;subst hb;simp only[qL,beq_eq_false_iff_ne]at h1;simp[hZ,iT,mP,h1]
  · simp only [aY, a8] at h
    obtain⟨h1,rfl⟩:=h;subst hb;have q:=nW h1;have d:∀ k:Nat,k≤9223372036854775807→¬ ((k:Int)>IntKind.i64.max):=fun k hk=>by
      show ¬ ((k:Int)>(9223372036854775807:Int))
      omega
    simp only[hZ,iT,DC,if_neg (d _ q)]
  all_goals first
    |exact pP h
    | (split at h
       case isFalse=>cases h
       rename_i hk;subst hk;cases h;simp[hZ,iT,mP,dD,eV])
    | (simp only [aY, a8] at h
       obtain⟨h1,rfl⟩:=h;subst hb;simp only[jW,decide_eq_true_eq]at h1;simp only[hZ,iT,if_neg (Int.not_lt.2 h1)])
    | (split at h
       · rename_i h1 q
         simp only[aY,a8]at h;obtain⟨d,rfl⟩:=h;subst hb;simp only[iR]at d;simp only[hZ,h1,if_pos d,q]
       · cases h)
theorem YF{k:SK}{x i v:AV}{b:Bool}(h:ET k x i=some (b,v))(hb:b=true):kn k x i=some v:=by
 unfold ET at h;split at h
 ·split at h
  ·rename_i hw
   simp only[aY,a8]at h;obtain⟨h1,rfl⟩:=h;subst hb;simp only[jW,dD,az,decide_eq_true_eq]at h1;simp[kn,hw,h1.1,h1.2]
  ·cases h
 ·split at h
  ·rename_i hw
   simp only[aY,a8]at h;obtain⟨h1,rfl⟩:=h;subst hb;simp only[jW,dD,az,decide_eq_true_eq]at h1;simp[kn,hw,h1.1,h1.2]
  ·cases h
 ·split at h
  ·rename_i kd rows d
   simp only[aY,a8]at h;obtain⟨h1,rfl⟩:=h;subst hb;simp only[jW,dD,az,decide_eq_true_eq]at h1;rw[YD d (by omega)];simp[kn,h1.1,h1.2]
  ·exact pP h
 ·simp only [aY, a8] at h
  obtain⟨h1,rfl⟩:=h;subst hb;simp only[jW,dD,az,decide_eq_true_eq]at h1;simp[kn,h1.1,h1.2]
 ·exact pP h
theorem YG{k:SK}{x i v:AV}{b:Bool}(h:EU k x i=some (b,v))(hb:b=true):pF k x i=some v:=by
 unfold EU at h;split at h
 ·rename_i s q j
  simp only[aY,a8]at h;obtain⟨h1,rfl⟩:=h;subst hb;simp only[jW,dD,az,decide_eq_true_eq]at h1;have d:j.toNat<s.size:=by omega
  have e:s[j.toNat]? = some (s.data.toList.getD j.toNat 0):=by
   have B:j.toNat<s.data.toList.length:=by simpa using d
   rw[bz,bf B];simp only[getElem?,decidableGetElem?,d,dite_true,Option.getD_some];rfl
  simp only[pF,h1.1,h1.2,and_self,if_true,e]
 ·rename_i m e cells q j
  split at h
  ·rename_i l I
   cases hm:eE m l.length with
   |false=>rw[hm]at h; cases h
   | true =>
    rw[hm]at h;simp only[cond_true,aY,a8]at h;obtain⟨h1,rfl⟩:=h;subst hb;rw[Df]at hm;simp only[jW,dD,az,decide_eq_true_eq]at h1;have hg:=EH I j.toNat (by omega);simp only[pF,h1.1,h1.2,and_self,if_true,gf,lG,if_false,al1,qG,mG,hg]
  ·exact pP h
 ·exact pP h
theorem YH{op:UnOp}{x v:AV}{b:Bool}(h:EV op x=some (b,v))(hb:b=true):sT op x=some v:=by
 unfold EV at h;split at h
 ·simp only [aY, a8] at h
  obtain⟨h1,rfl⟩:=h;subst hb;simp only[sT,rC h1]
 ·exact pP h
theorem YI{P:Program}{s d:TypeId}{x v:AV}{b:Bool}(h:EW P s d x=some (b,v))(hb:b=true):sU P s d x=some v:=by
 unfold EW at h;split at h
 ·rename_i k q
  simp only[aY,a8]at h;obtain⟨h1,rfl⟩:=h;subst hb;simp only[sU,k,q,rC h1]
 ·exact pP h
theorem YJ{P:Program}{r:Operand→AV}{o:Op}{b:Bool}{v:AV}(h:EX P r o=some (b,v))(hb:b=true):iC P r o=some v:=by
 cases o<;>simp only[EX]at h<;>try exact pP h
 case binOp=>simp only[iC]; exact YE h hb
 case indexAddr=>simp only[iC]; exact YF h hb
 case index=>simp only[iC]; exact YG h hb
 case slice=>simp only[iC]; exact Yk h hb
 case unOp=>simp only[iC]; exact YH h hb
 case convert=>simp only[iC]; exact YI h hb
inductive Tree where
 |fail
 |done (x:bO) (s:al)
 |ask (b:Bool) (t e:Tree)
 |side (b:Bool) (t:Tree)
def Tree.holds(Q:bO→al→Prop):Tree→Prop
 |.fail=>False
 |.done x s=>Q x s
 |.ask b t e=>(b=true→t.holds Q)∧(b=false→e.holds Q)
 |.side b t=>b=true∧t.holds Q
structure ai where
 pf:FuncId→Bool
 T:FuncId→List AV→Option (Bool × AV)
 W:FuncId→List AV→List ah→Option (Bool × AV × List ah)
 C:FuncId→List AV→List ah→List Nat
 I:FuncId→List AV→List ah→Option Tree:=fun _ _ _=>none
 N:FuncId→Bool:=fun _=>false
 U:FuncId→Bool:=fun _=>true
structure ak (P:Program) (τ:ai):Prop where
 T:∀ f args b v,τ.T f args=some (b,v)→b=true→fw P f=true∧cV P f args v
 W:∀ f args H b v H',τ.W f args H=some (b,v,H')→b=true→fw P f=true∧dC P f args (aj H) v (aj H')
 C:∀ f args H b v H',τ.W f args H=some (b,v,H')→∀ A,A∉τ.C f args H→A<H.length→H'[A]? = H[A]?
 I:∀ f args H t,τ.I f args H=some t→∀ Q:bO→al→Prop,t.holds Q→fw P f=true∧∃ v H',dC P f args (aj H) v (aj H')∧(∀ A,A∉τ.C f args H→A<H.length→H'[A]? = H[A]?)∧Q .normal ⟨[v],H'⟩
 F:(∀ f,τ.U f=false→∀ args H,τ.W f args H=none∧τ.C f args H=[])∧∀ f,τ.N f=true→∀ args H b v H',τ.W f args H=some (b,v,H')→∀ id o,id<H.length→id∉τ.C f args H →
  τ.W f args (H.set id o)=some (b,v,H'.set id o)∧τ.C f args (H.set id o)=τ.C f args H
def Tree.wy(k:AV→List ah→Tree):Tree→Tree
 |.fail=>.fail
 |.done _ s=>k (s.fr.headD .undef) s.H
 |.ask b t e=>.ask b (t.wy k) (e.wy k)
 |.side b t=>.side b (t.wy k)
theorem Tree.Ao{k:AV→List ah→Tree}{Q:bO→al→Prop}:∀{t:Tree},(t.wy k).holds Q→t.holds fun _ s=>(k (s.fr.headD .undef) s.H).holds Q
 |.fail,h=>h
 |.done _ _,h=>h
 |.ask _ t e,h=>⟨fun hb=>Ao (t:=t) (h.1 hb),fun hb=>Ao (t:=e) (h.2 hb)⟩
 |.side _ t,h=>⟨h.1,Ao (t:=t) h.2⟩
inductive Want where
 |bad|yes|no
 |test (t:Tmp) (b:Bool) (want:Bool)
def pQ(ops:Array Oper)(fr:List AV)(o:Oper):Want :=
 match o.guard with
 |none=>.yes
 | some (j,want)=>match (ops[j]?).bind (·.dst) with
  | some t=>match fr[t]? with
   |some (.lit (.bool b))=>.test t b want
   |some (.tuple [])=>.no
   |_=>.bad
  |none=>.bad
def Ap:AV→Option Bool
 |.lit (.bool b)=>some b
 |_=>none
def wz(H:List ah):AV→Bool × AV
 | .vec w id ae off n=>match H[id]? with
  |some (.vec ks v rows)=>if ae=v∧ks.length=w∧off=0 then (ab n rows.length,.listF ks rows) else (true,.vec w id ae off n)
  |_=>(true,.vec w id ae off n)
 | .ptr id ae k row col=>match H[id]? with
  |some (.raw (.box cells))=>if ae=0∧row=0∧col=0∧AV.br cells=true then (true,.cptr cells) else (true,.ptr id ae k row col)
  |_=>(true,.ptr id ae k row col)
 |a=>(true,a)
def rD(H:List ah):List AV→Bool × List AV
 | []=>(true,[])
 | a::as=>match wz H a,rD H as with
  |(b,k),(q,d)=>(b&&q,k::d)
def Aq(H:List ah):AV→Bool × AV
 | .clo f caps=>match rD H caps with
  |(b,d)=>(b,.clo f d)
 |a=>wz H a
def pR(H:List ah):List AV→Bool × List AV
 | []=>(true,[])
 | a::as=>match Aq H a,pR H as with
  |(b,k),(q,d)=>(b&&q,k::d)
def Ar:List AV→Bool
 | []=>true
 |.lit _::as=>Ar as
 |_::_=>false
def As:AV→Bool
 |.lit _=>true
 |.tuple vs=>Ar vs
 |_=>false
def EY(P:Program)(r:Operand→AV)(H:List ah)(o:Op):Option AV :=
 match o with
 | .call c=>match c.callee,c.args.toList,c.argTypes.toList with
  | .builtin .len,[a],[t]=>match dx P t,r a with
   | some _,.map id=>match H[id]? with
    |some (.map _ _ rows _)=>some (.lit (.int .i64 rows.length))
    |_=>none
   |_,_=>none
  |_,_,_=>none
 |_=>none
theorem YK{P:Program}{r:Operand→AV}{H:List ah}{o:Op}{v:AV}(h:EY P r H o=some v):fi P r (aj H) o=some v:=by
 unfold EY at h;split at h
 ·rename_i c
  simp only[fi];split at h
  ·rename_i a t d ha k
   unfold pI;rw[d,ha,k];simp only[];split at h
   ·rename_i p id q hm
    rw[q,hm];simp only[];split at h
    ·rename_i K V rows cl hid
     cases h;rw[bg hid];simp[ah.den,c_]
    ·cases h
   ·cases h
  ·cases h
 ·cases h
def EZ(v:AV)(H:List ah):Option (Bool × AV × List ah) :=
 match v with
 | .vec w id ae off n=>match H[id]? with
  |some (.vec ks u rows)=>if ae=u∧off=0∧w=ks.length then some (ab n rows.length,.listF ks rows,H.set id (.raw .dead)) else none
  |_=>none
 |_=>none
def wA(P:Program)(r:Operand→AV)(H:List ah):Op→Option (Bool × List ah)
 | .store t a x=>match EZ (r x) H with
  | some (b0,v1,H1)=>match tw P t (r a) v1 H1 with
   |some (b1,H')=>some (b0&&b1,H')
   |none=>none
  |none=>none
 |_=>none
theorem YL{P:Program}{r:Operand→AV}{H H':List ah}{o:Op}{b:Bool}(h:wA P r H o=some (b,H'))(hb:b=true):s_ P r (aj H) .undef (aj H') o:=by
 unfold wA at h;split at h
 case h_2=>cases h
 rename_i t a x;split at h
 case h_2=>cases h
 rename_i b0 v1 H1 d;split at h
 case h_2=>cases h
 rename_i b1 H2 k;simp only[aY,a8]at h;obtain⟨h1,rfl⟩:=h;subst hb;simp only[az]at h1;unfold EZ at d;split at d
 case h_2=>cases d
 rename_i w id ae off n q;split at d
 case h_2=>cases d
 rename_i ks u rows hid;split at d
 case isFalse=>cases d
 rename_i B;obtain⟨rfl,rfl,rfl⟩:=B;simp only[aY,a8]at d;obtain⟨hn,rfl,rfl⟩:=d;rw[h1.1]at hn;have hn:=bk hn;subst hn;refine⟨.listF ks rows,(aj H).set id .dead,⟨id,ae,ks,rows,q,?_,rfl,rfl⟩,?_,rfl⟩
 ·rw [bg hid]
  rfl
 ·have := Mj k h1.2
  rw[db]at this;exact this
def pS(P:Program)(τ:ai)(o:Oper)(s:al)(k:AV→List ah→Tree):Tree :=
 match o.op with
 | .pick c a b=>match Ap (s.eval c) with
  |some t=>.ask t (k (s.eval a) s.H) (k (s.eval b) s.H)
  |none=>.fail
 | .load t a=>match EI P t (s.eval a) s.H with
  |some (b,v)=>.side b (k v s.H)
  |none=>.fail
 | .lookup t m x ok=>match EM P t (s.eval m) (s.eval x) ok s.H with
  | some (b,v)=>match cW τ.pf o.op,ok with
   |.read,_=>.side b (k v s.H)
   |.write,false=>.side b (k v s.H)
   |_,_=>.fail
  | none=>match cW τ.pf o.op with
   | .write=>match tK P s.eval s.H o.op with
    |some (b,v,H')=>.side b (k v H')
    |none=>.fail
   | .read=>match EP P t (s.eval m) (s.eval x) ok s.H with
    |some (b,v)=>.side b (k v s.H)
    |none=>.fail
   |.pure=>.fail
 | _=>match cW τ.pf o.op with
  | .read=>match EY P s.eval s.H o.op with
   |some v=>k v s.H
   |none=>.fail
  | .pure=>match iX s.eval o.op with
   | some (f,args)=>match τ.T f args with
    |some (b,v)=>.side b (k v s.H)
    |none=>.fail
   | none=>match EX P s.eval o.op with
    |some (b,v)=>.side b (k v s.H)
    |none=>.fail
  | .write=>match iX s.eval o.op with
   | some (f,args)=>match τ.W f args s.H with
    |some (b,v,H')=>.side b (k v H')
    | none=>match τ.I f args s.H with
     |some t=>t.wy k
     | none=>match τ.T f args with
      |some (b,v)=>.side b (k v s.H)
      | none=>match pR s.H args with
       | (q,d)=>match τ.T f d with
        | some (b,v)=>match As v&&AV.br d with
         |true=>.side (q&&b) (k v s.H)
         |false=>.fail
        |none=>.fail
   | none=>match tK P s.eval s.H o.op with
    |some (b,v,H')=>.side b (k v H')
    | none=>match wA P s.eval s.H o.op with
     |some (b,H')=>.side b (k .undef H')
     |none=>.fail
def al.slot(s:al)(t:Tmp)(b:Bool):al:=⟨s.fr.set t (.lit (.bool b)),s.H⟩
def E7(P:Program)(τ:ai)(ops:Array Oper)(o:Oper)(s:al)(k:al→Tree):Tree :=
 match pQ ops s.fr o with
 |.bad=>.fail
 |.no=>k (s.put o.dst (.tuple []) s.H)
 |.yes=>pS P τ o s fun v H'=>k (s.put o.dst v H')
 | .test t b want=>.ask b
   (match want with
    |true=>pS P τ o (s.slot t true) fun v H'=>k ((s.slot t true).put o.dst v H')
    |false=>k ((s.slot t true).put o.dst (.tuple []) s.H))
   (match want with
    |true=>k ((s.slot t false).put o.dst (.tuple []) s.H)
    |false=>pS P τ o (s.slot t false) fun v H'=>k ((s.slot t false).put o.dst v H'))
def nc(P:Program)(τ:ai)(ops:Array Oper):List Oper→al→(al→Tree)→Tree
 | [],s,k=>k s
 |o::rest,s,k=>E7 P τ ops o s fun s1=>nc P τ ops rest s1 k
def fT:AV→Option Nat
 |.ptr id _ _ _ _=>some id
 |.vec _ id _ _ _=>some id
 |.map id=>some id
 |.sub id _ _=>some id
 |_=>none
def kB(τ:ai)(r:Operand→AV)(H:List ah)(op:Op):List Nat :=
 match iX r op with
 |some (f,args)=>τ.C f args H
 |none=>op.operands.toList.filterMap fun x=>fT (r x)
structure Acc where
 R:jU
 W:iZ
def wB(ids:List Nat)(i:Nat):Bool := !ids.any (ab i)
def E8(ops:Array Oper)(j id:Nat)(acc:Acc):Option Acc :=
 match acc.W.all fun e=>waits ops ops.size j e.1||(wB e.2.1 id&&eh id e.2.2)with
 |true=>some ⟨(j,id)::acc.R,acc.W⟩
 |false=>none
def Au(ops:Array Oper)(j:Nat)(T:List Nat)(n:Nat)(acc:Acc):Option Acc :=
 match acc.R.all fun e=>waits ops ops.size j e.1||(wB T e.2&&eh e.2 n)with
 | true=>match acc.W.all fun e=>waits ops ops.size j e.1||((T.all fun id=>wB e.2.1 id&&eh id e.2.2)&&e.2.1.all fun id=>eh id n) with
  |true=>some ⟨acc.R,(j,T,n)::acc.W⟩
  |false=>none
 |false=>none
def E9(τ:ai)(ops:Array Oper)(j:Nat)(o:Oper)(s:al)(acc:Acc):Option Acc :=
 match cW τ.pf o.op with
 |.pure=>some acc
 | .read=>match lX s.eval o.op with
  |some id=>E8 ops j id acc
  |none=>some acc
 |.write=>Au ops j (kB τ s.eval s.H o.op) s.H.length acc
def gZ:Kd→Value→Option G
 |.int k,.int k' n=>if k=k' then some (.i n) else none
 |.str,.string s=>some (.s s)
 |.bool,.bool b=>some (.t b)
 |.list _,.slice none 0 0=>some (.l [])
 |_,_=>none
def tM:List Kd→List Value→Option (List G)
 | [],[]=>some []
 | k::ks,v::z=>match gZ k v,tM ks z with
  |some g,some gs=>some (g::gs)
  |_,_=>none
 |_,_=>none
def mK:Kd→Option (List Kd)
 |.list ks=>some ks
 |_=>none
def mZ:List Kd→List (Option (List Kd)):=List.map mK
theorem YM{k:Kd}{v:Value}{g:G}(h:gZ k v=some g):jt k g=zc (mK k) v:=by
 cases k with
 | int k =>
  cases v with
  | int k' n =>
   simp only[gZ]at h;by_cases e:k=k'
   ·rw [if_pos e] at h
    cases h;subst e;rfl
   ·rw [if_neg e] at h
    cases h
  |_=>cases h
 |str=>cases v<;>first|(cases h; rfl)|cases h
 |bool=>cases v<;>first|(cases h; rfl)|cases h
 | list ks =>
  cases v with
  |slice b n c=>cases b<;>cases n<;>cases c<;>first|(cases h; rfl)|cases h
  |_=>cases h
theorem My:∀{ks:List Kd} {z:List Value} {g:List G},tM ks z=some g→aH ks g=er (mZ ks) z
 | [],[],g,h=>by cases h; rfl
 | [],_::_,g,h=>by cases h
 |_::_,[],g,h=>by cases h
 | k::ks,v::z,g,h=>by
  simp only[tM]at h;split at h
  ·rename_i g0 gs h1 d
   cases h;have q:=My d;simp only[aH,y4,List.tail_cons,q,YM h1];rfl
  ·cases h
def rE(z:List Value):List ah→Nat→Option (Nat × List Kd × List G)
 | [],_=>none
 | .vec ks 0 rows::H,i=>match tM ks z with
  | some g=>match rows with
   | []=>some (i,ks,g)
   |_::_=>rE z H (i+1)
  |none=>rE z H (i+1)
 |_::H,i=>rE z H (i+1)
def wC:List ah→Nat→Option Nat
 | [],_=>none
 |.raw .eo::_,i=>some i
 |_::H,i=>wC H (i+1)
def YN(P:Program)(t:TypeId):Option (Ct × Ct) :=
 match dx P t with
 | some (k,d)=>match pN P k,pN P d with
  |some (K,_),some (V,_)=>some (K,V)
  | some (K,_),none=>match dx P d with
   |some _=>some (K,K)
   |none=>none
  |_,_=>none
 |none=>none
def E_(P:Program)(op:Op)(H:List ah):Option (Nat × AV × List ah) :=
 match op with
 | .alloc t=>match eJ P t with
  | some z=>match rE z H 0 with
   |some (id,ks,g)=>some (id,.ptr id 1 ks.length 0 0,H.set id (.vec ks 1 [g]))
   |none=>none
  |none=>none
 | .makeMap t none=>match YN P t with
  | some (K,V)=>match wC H 0 with
   |some id=>some (id,.map id,H.set id (.map K V [] 0))
   |none=>none
  |none=>none
 |_=>none
def Fa(τ:ai)(o:Oper)(s:al):Bool:=match cW τ.pf o.op with
 | .write=>match iX s.eval o.op with
  | some (f,args)=>match τ.N f with
   |true=>(τ.W f args s.H).isSome
   |false=>false
  |none=>false
 |_=>true
def wD(P:Program)(τ:ai)(ops:Array Oper)(j:Nat)(o:Oper)(s:al)(acc:Acc)(k:al→Acc→Tree):Tree :=
 match oy ops&&eL o.op with
 | true=>match E_ P o.op s.H with
  | some (id,v,H')=>match Au ops j [id] s.H.length acc with
   |some d=>k (s.put o.dst v H') d
   |none=>.fail
  |none=>.fail
 | false=>match pJ ops&&k8 o.op && !Fa τ o s with
  |true=>.fail
  | false=>match E9 τ ops j o s acc with
   |some d=>pS P τ o s fun v H'=>k (s.put o.dst v H') d
   |none=>.fail
def Fb(P:Program)(τ:ai)(ops:Array Oper)(j:Nat)(o:Oper)(s:al)(acc:Acc)(k:al→Acc→Tree):Tree :=
 match pQ ops s.fr o with
 |.bad=>.fail
 |.no=>k (s.put o.dst (.tuple []) s.H) acc
 |.yes=>wD P τ ops j o s acc k
 | .test t b want=>.ask b
   (match want with
    |true=>wD P τ ops j o (s.slot t true) acc k
    |false=>k ((s.slot t true).put o.dst (.tuple []) s.H) acc)
   (match want with
    |true=>k ((s.slot t false).put o.dst (.tuple []) s.H) acc
    |false=>wD P τ ops j o (s.slot t false) acc k)
def Fc(P:Program)(τ:ai)(ops:Array Oper):List Oper→Nat→al→Acc→(al→Tree)→Tree
 | [],_,s,_,k=>k s
 |o::rest,j,s,acc,k=>Fb P τ ops j o s acc fun s1 d=>Fc P τ ops rest (j+1) s1 d k
def Mz(k:al→Tree)(K:bO→al→Tree):bO→al→Tree
 |.normal,s=>k s
 |x,s=>K x s
def MA(id:Nat)(K:bO→al→Tree):bO→al→Tree
 |.exit i,s=>if i=id then K .normal s else K (.exit i) s
 |x,s=>K x s
def Tree.bind(K:bO→al→Tree):Tree→Tree
 |.fail=>.fail
 |.done x s=>K x s
 |.ask b t e=>.ask b (t.bind K) (e.bind K)
 |.side b t=>.side b (t.bind K)
def l4:Code→Option Nat
 |.region id _ _=>some id
 | .seq a b=>match l4 a with
  |some i=>some i
  |none=>l4 b
 |.block _ c=>l4 c
 | .cond _ a b=>match l4 a with
  |some i=>some i
  |none=>l4 b
 |.loop c=>l4 c
 |_=>none
def rF:Code→Nat
 | .seq a b=>match l4 a with
  |some _=>rF a
  |none=>rF b
 |.block _ c=>rF c
 | .cond _ a b=>match l4 a with
  |some _=>rF a
  |none=>rF b
 |.loop c=>rF c+1
 |_=>0
def MB(c:Code):Option Nat:=match l4 c with
 |some i=>some (i+1000*rF c)
 |none=>none
def bJ:Code→List (Nat × Code)
 |.seq a b=>bJ a++bJ b
 |.cond _ a b=>bJ a++bJ b
 |.block _ c=>bJ c
 | .loop c=>match MB c with
  |some k=>(k,c)::bJ c
  |none=>bJ c
 |_=>[]
def YO(k:al→Tree)(K:bO→al→Tree):bO→al→Tree
 |.normal,s=>k s
 |.exit i,s=>K (.exit i) s
 |.ret,s=>K .ret s
def Av(body:al→(bO→al→Tree)→Tree):Nat→al→(bO→al→Tree)→Tree
 |0,_,_=>.fail
 |n+1,s,K=>body s (YO (fun s'=>Av body n s' K) K)
def bE:Code→List (Nat × Code)
 | .seq a b=>bE a++((match l4 b with
  |some k=>[(k,b)]
  |none=>[])++bE b)
 |.cond _ a b=>bE a++bE b
 |.block _ c=>bE c
 |.loop c=>bE c
 |_=>[]
structure LT where
 loops:Nat→al→Option Tree
 pre:Nat→al→Bool × al
 wE:Nat→al→Option Tree
def MC(L:LT)(k:Option Nat)(s:al):Option Tree :=
 match k with
 |some i=>L.wE i s
 |none=>none
def dN(P:Program)(τ:ai)(L:LT):Code→al→(bO→al→Tree)→Tree
 |.skip,s,K=>K .normal s
 | .region id ops draw,s,K=>match draw && !ta τ.pf ops with
  | true=>match tu τ.pf ops with
   |true=>.side (L.pre id s).1 (Fc P τ ops ops.toList 0 (L.pre id s).2 ⟨[],[]⟩ (K .normal))
   |false=>.fail
  |false=>.side (L.pre id s).1 (nc P τ ops ops.toList (L.pre id s).2 (K .normal))
 | .seq a b,s,K=>dN P τ L a s (Mz (fun s1=>match MC L (l4 b) s1 with
  |some t=>t.bind K
  |none=>dN P τ L b s1 K) K)
 | .cond c a b,s,K=>match Ap (s.eval c) with
  |some t=>.ask t (dN P τ L a s K) (dN P τ L b s K)
  |none=>.fail
 |.block id c,s,K=>dN P τ L c s (MA id K)
 | .loop c,s,K=>match MB c with
  | some i=>match L.loops i s with
   |some t=>t.bind K
   |none=>Av (fun s1 d=>dN P τ L c s1 d) 400 s K
  |none=>.fail
 |.exit id,s,K=>K (.exit id) s
 |.ret,s,K=>K .ret s
 |_,_,_=>.fail
def MD(P:Program)(m:Nat)(c:Code)(s:al)(t:Tree):Prop:=∀ Q:bO→al→Prop,t.holds Q→∃ x s',kZ P m c s.den x s'.den∧Q x s'
def Aw(P:Program)(m:Nat)(c:Code)(s:al)(t:Tree):Prop:=∀ Q:bO→al→Prop,t.holds Q→∃ x s',cI P m c s.den x s'.den∧Q x s'
def ax(P:Program)(m:Nat)(L:LT)(c:Code):Prop:=(∀ k d,(k,d)∈bJ c→∀ s t,L.loops k s=some t→MD P m d s t)∧(∀ id s,(L.pre id s).1=true→bl m s.den (L.pre id s).2.den) ∧
 ∀ k d,(k,d)∈bE c→∀ s t,L.wE k s=some t→Aw P m d s t
theorem ax.sub{P:Program}{m:Nat}{L:LT}{c q:Code}(h:ax P m L c)(h1:∀ p,p∈bJ q→p∈bJ c)(B:∀ p,p∈bE q→p∈bE c):ax P m L q :=
 ⟨fun k d hk=>h.1 k d (h1 _ hk),h.2.1,fun k d hk=>h.2.2 k d (B _ hk)⟩
theorem ME{a:AV}{b:Bool}(h:Ap a=some b):a=.lit (.bool b):=by
 unfold Ap at h;split at h
 ·cases h; rfl
 ·cases h
theorem MF{E E':Env}:∀{vs:List AV} {us:List Value},Ar vs=true→af E vs us→af E' vs us
 | [],[],_,_=>by simp[af]
 | [],_::_,_,h=>by simp[af]at h
 | a::vs,us,d,h=>by
  unfold Ar at d;split at d
  ·rename_i heq; cases heq
  ·rename_i heq
   cases heq;cases us with
   |nil=>simp[af]at h
   | cons u us =>
    simp only[af,rel]at h⊢;exact⟨h.1,MF d h.2⟩
  ·cases d
theorem YP{E E':Env}{v:AV}{u:Value}(d:As v=true)(h:rel E v u):rel E' v u:=by
 unfold As at d;split at d
 ·simpa only[rel]using h
 ·simp only [rel] at h ⊢
  obtain⟨cs,e,k⟩:=h;exact⟨cs,e,MF d k⟩
 ·cases d
def Env.bare(E:Env)(w:World):Env:={ w:=w,H:=[],loc:=[],X:=E.X.re dY }
theorem Ax{E:Env}{w:World}(b:Nat):¬ (E.bare w).own b:=by rintro(⟨id,c,h⟩|⟨l,k,c,h⟩); simp[Env.bare]at h; simp[Env.bare,dY]at h
theorem pT(E:Env):E.bH (E.bare E.w):=⟨fun b hb=>⟨⟨hb.1,Ax b,hb.2.2⟩,rfl⟩⟩
theorem YQ{E:Env}(HE:aq E):aq (E.bare E.w):=by
 refine⟨rfl,?_,?_,HE.X,?_,HE.fH.bH (pT E),fun l k l' k' b m n hk=>by simp[Env.bare,dY]at hk,fun i b m l k n hi=>by simp[Env.bare]at hi,fun l k b m hk=>by simp[Env.bare,dY]at hk,fun i j o o' l hi=>by simp[Env.bare]at hi,fun l _ k q hk=>by simp[Env.bare,dY]at hk⟩
 ·intro i j b m n hi; simp[Env.bare]at hi
 ·intro i b m hi; simp[Env.bare]at hi
 ·intro i o hi; simp[Env.bare]at hi
theorem MG{E:Env}(HE:aq E){H:List ah}(hH:E.H=aj H){id ae n w:Nat}{ks:List Kd}{rows:List (List G)}{c:Value}
  (hid:H[id]? = some (.vec ks ae rows)) (hw:ks.length=w) (hn:n=rows.length) (hr:rel E (.vec w id ae 0 n) c):rel (E.bare E.w) (.listF ks rows) c:=by
 subst hw hn;have d:E.H[id]? = some (.vec ks.length ae (rows.map (aH ks))):=by rw[hH]; exact bg hid
 have ho:=HE.obj id _ d;rw[jx];simp only[rel]at hr⊢;obtain⟨⟨base,cap,rfl,B,_⟩,_,I⟩:=hr;obtain⟨O,J⟩:=I ⟨_,d,rfl⟩;have k:ft (rows.map (aH ks)):=by
  intro r hr;obtain⟨g,_,rfl⟩:=cF.1 hr;exact gb ks g
 refine⟨k,base,cap,by simp,by simpa using B,?_⟩;simp only[aN]at ho;rcases ho with⟨h1,q⟩|⟨b,m,h1,q,M,_,N⟩
 ·exact .inl q
 ·obtain ⟨g1, o, g2, g3⟩ := J b m h1
  by_cases hm:rows=[]
  ·subst hm; exact .inl rfl
  ·right
   have:0<rows.length:=by cases rows with|nil=>exact(hm rfl).elim|cons _ _=>simp
   simp at M;have ho:=g2 (by omega);simp at ho;subst ho;simp only[kQ]at g3;refine⟨b,0,g3.1,⟨(HE.lt id b m h1).1,Ax b,(HE.lt id b m h1).2⟩,?_⟩;exact lQ (pT E) _ k rfl N
theorem YR{E:Env}(HE:aq E){H:List ah}(hH:E.H=aj H){id k:Nat}{cells:List AV}{c:Value} (hid:H[id]? = some (.raw (.box cells))) (q:AV.br cells=true)
  (hr:rel E (.ptr id 0 k 0 0) c):rel (E.bare E.w) (.cptr cells) c:=by
 have d:E.H[id]? = some (.box cells):=by rw[hH]; exact bg hid
 have ho:=HE.obj id _ d;simp only[aN]at ho;obtain⟨b,n,h1,J,B⟩:=ho;simp only[rel]at hr⊢;obtain⟨_,_,I⟩:=hr;obtain⟨M,N,g1,g2⟩:=I ⟨_,d,rfl⟩;rw[h1]at g1;simp only[aY,a8]at g1;obtain⟨rfl,rfl⟩:=g1;refine⟨q,b,0,by rw[g2]; simp,⟨(HE.lt id b n h1).1,Ax b,(HE.lt id b n h1).2⟩,?_⟩;exact sI (pT E) cells q rfl B
theorem MH{E:Env}(HE:aq E){H:List ah}(hH:E.H=aj H){a q:AV}{b:Bool}{c:Value}(h:wz H a=(b,q))(hb:b=true)(d:q.closed=true)(hr:rel E a c):rel (E.bare E.w) q c:=by
 unfold wz at h;split at h
 ·split at h
  ·rename_i w id ae off n ks v rows hid
   split at h
   ·rename_i B
    obtain⟨rfl,I,rfl⟩:=B;simp only[a8]at h;obtain⟨h1,rfl⟩:=h;subst hb;exact MG HE hH hid I (bk h1) hr
   ·cases h; simp[AV.closed]at d
  ·cases h; simp[AV.closed]at d
 ·split at h
  ·rename_i id ae k row col _ cells hid
   split at h
   ·rename_i B
    obtain⟨rfl,rfl,rfl,J⟩:=B;cases h;exact YR HE hH hid J hr
   ·cases h; simp[AV.closed]at d
  ·cases h; simp[AV.closed]at d
 ·cases h
  exact dZ (pT E) _ d hr
theorem MI{E:Env}(HE:aq E){H:List ah}(hH:E.H=aj H):∀{as d:List AV} {b:Bool} {cs:List Value},rD H as=(b,d)→b=true→AV.br d=true→af E as cs →
  af (E.bare E.w) d cs
 | [],d,b,cs,h,_,_,hr=>by
  simp only[rD]at h;cases h;cases cs with
  |nil=>simp[af]
  |cons _ _=>simp[af]at hr
 | a::as,d,b,cs,h,hb,k,hr=>by
  cases cs with
  |nil=>simp[af]at hr
  | cons c cs =>
   simp only[af]at hr;cases q:wz H a with
   |mk b1 J =>
   cases B:rD H as with
   |mk M I =>
   simp only[rD,q,B,a8]at h;obtain⟨h1,rfl⟩:=h;subst h1;simp only[az]at hb;simp only[AV.br,az]at k;simp only[af];exact⟨MH HE hH q hb.1 k.1 hr.1,MI HE hH B hb.2 k.2 hr.2⟩
theorem YS{E:Env}(HE:aq E){H:List ah}(hH:E.H=aj H){a d:AV}{b:Bool}{c:Value}(h:Aq H a=(b,d))(hb:b=true)(k:d.closed=true)(hr:rel E a c):rel (E.bare E.w) d c:=by
 unfold Aq at h;split at h
 ·rename_i f caps
  cases q:rD H caps with
  |mk b1 I =>
  rw[q]at h;cases h;simp only[rel]at hr⊢;obtain⟨cs,e,B⟩:=hr;exact⟨cs,e,MI HE hH q hb (by simpa only[AV.closed]using k) B⟩
 ·exact MH HE hH h hb k hr
theorem MJ{E:Env}(HE:aq E){H:List ah}(hH:E.H=aj H):∀{as d:List AV} {b:Bool} {cs:List Value},pR H as=(b,d)→b=true→AV.br d=true→af E as cs →
  af (E.bare E.w) d cs
 | [],d,b,cs,h,_,_,hr=>by
  simp only[pR]at h;cases h;cases cs with
  |nil=>simp[af]
  |cons _ _=>simp[af]at hr
 | a::as,d,b,cs,h,hb,k,hr=>by
  cases cs with
  |nil=>simp[af]at hr
  | cons c cs =>
   simp only[af]at hr;cases q:Aq H a with
   |mk b1 J =>
   cases B:pR H as with
   |mk M I =>
   simp only[pR,q,B,a8]at h;obtain⟨h1,rfl⟩:=h;subst h1;simp only[az]at hb;simp only[AV.br,az]at k;simp only[af];exact⟨YS HE hH q hb.1 k.1 hr.1,MJ HE hH B hb.2 k.2 hr.2⟩
theorem YT{P:Program}{f:FuncId}{args d:List AV}{H:List ah}{b:Bool}{v:AV}(I:cV P f d v)(J:pR H args=(b,d))(hb:b=true)(B:AV.br d=true)
  (M:As v=true):dC P f args (aj H) v (aj H):=by
 intro E cargs hH HE q;refine(I [] (E.bare E.w) cargs rfl (YQ HE) (MJ HE hH J hb B q)).mono ?_;rintro _ w' ⟨c,N,H',rfl,⟨rfl,rfl⟩,U,r',g1,g2,g3⟩;have k:Ext E.w w':=⟨g3.size,fun x O=>g3.same x O (Ax x),g3.env⟩
 refine⟨c,N,aj H,rfl,⟨rfl,rfl⟩,E.loc,E.X.r,YP M g1,?_,?_⟩
 ·rw[←hH]; exact HE.ext k
 ·rw[←hH]; exact Env.jQ k
section sound
variable {P:Program} {τ:ai}
theorem Fe{ops:Array Oper}{o:Oper}{s:al}{v:AV}(hw:bR ops s.fr o=some true)(d:cW τ.pf o.op=.pure)
  (h:iC P s.eval o.op=some v∨∃ f args,iX s.eval o.op=some (f,args)∧fw P f=true∧cV P f args v):Yields P τ.pf ops o s.den v (aj s.H):=by
 unfold Yields;rw[show s.den.fr=s.fr from rfl,hw];simp only[d,al.lZ];exact⟨rfl,h⟩
theorem rG{ops:Array Oper}{o:Oper}{s:al}{v:AV}{H':List ad}(hw:bR ops s.fr o=some true)(d:cW τ.pf o.op=.write)
  (h:dt P s.eval (aj s.H) o.op=some (v,H')∨∃ f args,iX s.eval o.op=some (f,args)∧fw P f=true∧dC P f args (aj s.H) v H'):Yields P τ.pf ops o s.den v H':=by
 unfold Yields;rw[show s.den.fr=s.fr from rfl,hw];simp only[d,al.lZ];exact .inl h
theorem gM{H:List ah}{id A:Nat}{o:ah}(h:A≠id):(H.set id o)[A]? = H[A]? := aZ (Ne.symm h)
theorem kC{H:List ah}{A:Nat}{o:ah}(h:A<H.length):(H++[o])[A]? = H[A]? := cT h
theorem MK{P:Program}{t:TypeId}{x v:AV}{H H':List ah}{b:Bool}{A:Nat}(h:tw P t x v H=some (b,H'))(d:fT x≠some A):H'[A]? = H[A]? := by
 unfold tw at h;split at h
 case h_2=>cases h
 rename_i n q cs id ae w row col B k;have aA:A≠id:=fun e=>d (by rw[e]; rfl);split at h
 case isFalse=>cases h
 split at h
 ·split at h
  ·split at h
   ·cases h; exact gM aA
   ·cases h
  ·split at h
   ·cases h; exact gM aA
   ·cases h
 ·split at h
  ·split at h
   ·cases h; exact gM aA
   ·cases h
  ·cases h
 ·cases h
theorem YU{P:Program}{t xt:TypeId}{s x v:AV}{H H':List ah}{b:Bool}{A:Nat}(h:v_ P t xt s x H=some (b,v,H'))(d:A<H.length)(k:fT s≠some A):H'[A]? = H[A]? := by
 unfold v_ at h;split at h
 case h_2=>cases h
 split at h
 case h_2=>cases h
 split at h
 case isFalse=>cases h
 split at h
 ·split at h
  ·split at h
   ·cases h; exact kC d
   ·cases h
  ·cases h
 ·split at h
  ·split at h
   ·cases h; exact kC d
   ·cases h
  ·cases h
 ·split at h
  ·split at h
   ·split at h
    ·cases h; exact gM fun e=>k (by rw[e]; rfl)
    ·cases h
   ·cases h
  ·cases h
 ·cases h
theorem YV{P:Program}{t xt:TypeId}{s x v:AV}{H H':List ah}{b:Bool}{A:Nat}(h:wq P t xt s x H=some (b,v,H'))(d:A<H.length):H'[A]? = H[A]? := by
 unfold wq at h;split at h
 case h_2=>cases h
 split at h
 case h_2=>cases h
 split at h
 case h_2=>cases h
 split at h
 case h_2=>cases h
 split at h
 ·cases h; exact kC d
 ·cases h
theorem YW{P:Program}{t:TypeId}{x:AV}{H H':List ah}{b:Bool}{A:Nat}(h:wo P t x H=some (b,H'))(d:fT x≠some A):H'[A]? = H[A]? := by
 unfold wo at h;split at h
 case h_2=>cases h
 split at h
 case h_2=>cases h
 split at h
 case h_2=>cases h
 split at h
 ·cases h; exact gM fun e=>d (by rw[e]; rfl)
 ·cases h
theorem ML{P:Program}{t:TypeId}{m k v:AV}{H H':List ah}{b:Bool}{A:Nat}(h:tA P t m k v H=some (b,H'))(d:fT m≠some A):H'[A]? = H[A]? := by
 unfold tA at h;split at h
 case h_2=>cases h
 split at h
 case h_2=>cases h
 split at h
 case h_2=>cases h
 split at h
 ·cases h; exact gM fun e=>d (by rw[e]; rfl)
 ·cases h
theorem YX{P:Program}{t:TypeId}{m k v:AV}{H H':List ah}{b:Bool}{A:Nat}(h:wg P t m k v H=some (b,H'))(d:fT m≠some A)(q:fT v≠some A):H'[A]? = H[A]? := by
 unfold wg at h;split at h
 case h_2=>cases h
 split at h
 case h_2=>cases h
 split at h
 case h_2=>cases h
 split at h
 ·cases h
  rw[gM fun e=>q (by rw[e]; rfl)];exact gM fun e=>d (by rw[e]; rfl)
 ·cases h
theorem YY{P:Program}{t:TypeId}{m k v:AV}{H H':List ah}{b:Bool}{A:Nat}(h:wu P t m k v H=some (b,H'))(d:fT m≠some A):H'[A]? = H[A]? := by
 unfold wu at h;split at h
 case h_2=>cases h
 split at h
 case h_2=>cases h
 split at h
 case h_2=>cases h
 split at h
 ·cases h
  exact gM fun e=>d (by rw[e]; rfl)
 ·cases h
theorem YZ{P:Program}{t:TypeId}{m k v:AV}{H H':List ah}{b:Bool}{A:Nat}(h:wv P t m k H=some (b,v,H'))(d:fT m≠some A):H'[A]? = H[A]? := by
 unfold wv at h;split at h
 case h_2=>cases h
 split at h
 case h_2=>cases h
 split at h
 case h_2=>cases h
 split at h
 ·cases h
  exact gM fun e=>d (by rw[e]; rfl)
 ·cases h
theorem Y0{m s v:AV}{H H':List ah}{b:Bool}{A:Nat}(h:wx m s v H=some (b,H'))(d:fT m≠some A)(k:fT v≠some A):H'[A]? = H[A]? := by
 unfold wx at h;split at h
 case h_2=>cases h
 split at h
 case h_2=>cases h
 split at h
 ·cases h
  rw[gM fun e=>k (by rw[e]; rfl)];exact gM fun e=>d (by rw[e]; rfl)
 ·cases h
theorem Y1{P:Program}{t:TypeId}{m k v:AV}{H H':List ah}{b:Bool}{A:Nat}(h:we P t m k H=some (b,v,H'))(d:A<H.length)(q:fT m≠some A):H'[A]? = H[A]? := by
 unfold we at h;split at h
 case h_2=>cases h
 split at h
 case h_2=>cases h
 split at h
 case h_2=>cases h
 split at h
 ·cases h
  rw[kC (by simpa using d)];exact gM fun e=>q (by rw[e]; rfl)
 ·cases h
theorem Y2{m s v:AV}{H H':List ah}{b:Bool}{A:Nat}(h:wk m s v H=some (b,H'))(d:fT m≠some A)(k:fT v≠some A):H'[A]? = H[A]? := by
 unfold wk at h;split at h
 case h_2=>cases h
 split at h
 case h_2=>cases h
 split at h
 ·cases h
  rw[gM fun e=>k (by rw[e]; rfl)];exact gM fun e=>d (by rw[e]; rfl)
 ·cases h
theorem Y3{P:Program}{t:TypeId}{m k v:AV}{H H':List ah}{b:Bool}{A:Nat}(h:wh P t m k H=some (b,v,H'))(d:A<H.length)(q:fT m≠some A):H'[A]? = H[A]? := by
 unfold wh at h;split at h
 case h_2=>cases h
 split at h
 case h_2=>cases h
 split at h
 case h_2=>cases h
 split at h
 ·cases h
  rw[kC (by simpa using d)];exact gM fun e=>q (by rw[e]; rfl)
 ·cases h
theorem Y4{P:Program}{t:TypeId}{m k:AV}{H H':List ah}{b:Bool}{A:Nat}(h:wm P t m k H=some (b,H'))(d:fT m≠some A):H'[A]? = H[A]? := by
 unfold wm at h;split at h
 case h_2=>cases h
 split at h
 case h_2=>cases h
 split at h
 ·cases h; exact gM fun e=>d (by rw[e]; rfl)
 ·cases h
theorem Y5{P:Program}{t:TypeId}{l c v:AV}{H H':List ah}{b:Bool}{A:Nat}(h:wa P t l c H=some (b,v,H'))(d:A<H.length):H'[A]? = H[A]? := by
 unfold wa at h;split at h
 case h_2=>cases h
 split at h
 case h_2=>cases h
 split at h
 case h_2=>cases h
 split at h
 case h_2=>cases h
 split at h
 ·cases h; exact kC d
 ·cases h
theorem Y6{P:Program}{t:TypeId}{n:Nat}{parts:List (Nat × AV)}{v:AV}{H H':List ah}{b:Bool}{A:Nat}(h:wb P t n parts H=some (b,v,H'))(d:A<H.length):H'[A]? = H[A]? := by
 unfold wb at h;split at h
 case h_2=>cases h
 split at h
 case h_2=>cases h
 split at h
 case h_2=>cases h
 split at h
 case h_2=>cases h
 split at h
 case h_2=>cases h
 split at h
 ·cases h; exact kC d
 ·cases h
theorem MM{P:Program}{r:Operand→AV}{H H':List ah}{o:Op}{v:AV}{b:Bool}{A:Nat}(h:tK P r H o=some (b,v,H'))(q:A<H.length)(O:A∉o.operands.toList.filterMap fun x=>fT (r x)):H'[A]? = H[A]? := by
 have no:∀ x∈o.operands.toList,fT (r x)≠some A:=fun x B e=>O (J7.2 ⟨x,B,e⟩);cases o<;>simp only[tK]at h<;>try cases h
 case alloc t =>
  split at h
  ·split at h
   ·cases h; exact kC q
   ·cases h
  ·split at h
   ·cases h; exact kC q
   ·cases h
 case box t x =>
  split at h
  ·cases h; exact kC q
  ·cases h
 case store t a x =>
  split at h
  ·rename_i I H1 d
   cases h;exact MK d (no a (by simp[fF]))
  ·cases h
 case makeSlice t l c=>exact Y5 h q
 case buildSlice t n ps=>exact Y6 h q
 case range t x =>
  split at h
  ·cases h; exact kC q
  ·cases h
 case next it isString =>
  cases isString with
  |false=>cases h
  | true =>
   simp only[]at h;split at h
   ·rename_i id k B
    split at h
    ·split at h
     ·cases h; exact gM fun e=>no it (by simp[fF]) (by rw[B,e]; rfl)
     ·cases h; rfl
    ·cases h
   ·cases h
 case makeMap t res =>
  cases res with
  |some _=>cases h
  | none =>
   simp only[]at h;split at h
   ·split at h
    ·cases h; exact kC q
    ·split at h
     ·cases h; exact kC q
     ·cases h
    ·cases h
   ·cases h
 case mapUpdate t m k x =>
  split at h
  ·rename_i I H1 d
   cases h;exact ML d (no m (by simp[fF]))
  ·split at h
   ·rename_i I H1 d
    cases h;exact YX d (no m (by simp[fF])) (no x (by simp[fF]))
   ·split at h
    ·rename_i I H1 d
     cases h;exact YY d (no m (by simp[fF]))
    ·cases h
 case lookup t m k ok =>
  cases ok with
  |true=>cases h
  |false=>exact Y1 h q (no m (by simp[fF]))
 case mapEntry t m k =>
  split at h
  ·rename_i y U
   cases h;exact Y3 U q (no m (by simp[fF]))
  ·exact YZ h (no m (by simp[fF]))
 case entryStore t m s x =>
  split at h
  ·rename_i I H1 d
   cases h;exact Y2 d (no m (by simp[fF])) (no x (by simp[fF]))
  ·split at h
   ·rename_i I H1 d
    cases h;exact Y0 d (no m (by simp[fF])) (no x (by simp[fF]))
   ·cases h
 case insert t m k x =>
  split at h
  ·rename_i I H1 d
   cases h;exact ML d (no m (by simp[fF]))
  ·cases h
 case call c =>
  have na:∀ x∈c.args.toList,fT (r x)≠some A:=fun x B=>no x (by
   simp only[fF,Call.operands];simp at B⊢;exact .inr B)
  split at h
  ·split at h
   ·rename_i s x t xt J N
    have V:=na s (by rw[J]; simp);split at h
    ·exact YV h q
    ·exact YU h q V
   ·cases h
  ·split at h
   ·rename_i x t J N
    have M:=na x (by rw[J]; simp);split at h
    ·rename_i d; cases h; exact YW d M
    ·cases h
   ·cases h
  ·split at h
   ·rename_i x k t _ J N
    have M:=na x (by rw[J]; simp);split at h
    ·rename_i d; cases h; exact Y4 d M
    ·cases h
   ·cases h
  ·cases h
theorem Y7{P:Program}{r:Operand→AV}{H H':List ah}{o:Op}{b:Bool}{A:Nat}(h:wA P r H o=some (b,H'))(k:A∉o.operands.toList.filterMap fun x=>fT (r x)):H'[A]? = H[A]? := by
 have no:∀ x∈o.operands.toList,fT (r x)≠some A:=fun x q e=>k (J7.2 ⟨x,q,e⟩);unfold wA at h;split at h
 case h_2=>cases h
 rename_i t a x;split at h
 case h_2=>cases h
 rename_i b0 v1 H1 d;split at h
 case h_2=>cases h
 rename_i b1 H2 B;simp only[aY,a8]at h;obtain⟨_,rfl⟩:=h;rw[MK B (no a (by simp[fF]))];unfold EZ at d;split at d
 case h_2=>cases d
 rename_i w id ae off n I;split at d
 case h_2=>cases d
 split at d
 case isFalse=>cases d
 simp only[aY,a8]at d;obtain⟨_,_,rfl⟩:=d;refine gM fun e=>no x (by simp[fF]) ?_;rw[I,e];rfl
theorem Ay(N:ak P τ){ops:Array Oper}{o:Oper}{s:al}{k:AV→List ah→Tree}{Q:bO→al→Prop}(hw:bR ops s.fr o=some true)
  (h:(pS P τ o s k).holds Q):∃ v H',Yields P τ.pf ops o s.den v (aj H')∧(cW τ.pf o.op=.write→∀ A,A∉kB τ s.eval s.H o.op→A<s.H.length→H'[A]? = s.H[A]?)∧(k v H').holds Q:=by
 unfold pS at h;split at h
 ·rename_i c a b ho
  split at h
  ·rename_i t hb
   have hb:=ME hb;refine⟨bif t then s.eval a else s.eval b,s.H,Fe hw (by rw[ho]; rfl) (.inl (by rw[ho]; simp only[iC,hb])),fun _ _ _ _=>rfl,?_⟩;simp only[Tree.holds]at h;cases t with
   |true=>exact h.1 rfl
   |false=>exact h.2 rfl
  ·exact h.elim
 ·rename_i t a ho
  split at h
  ·rename_i b v O
   simp only[Tree.holds]at h;refine⟨v,s.H,?_,fun _ _ _ _=>rfl,h.2⟩;unfold Yields;rw[show s.den.fr=s.fr from rfl,hw];simp only[ho,cW,al.lZ];exact⟨rfl,by simp only[fi]; exact Yh O h.1⟩
  ·exact h.elim
 ·rename_i t m x ok ho
  have htouch:kB τ s.eval s.H o.op=o.op.operands.toList.filterMap fun x=>fT (s.eval x):=by
   have U:iX s.eval o.op=none:=by rw[ho]; rfl
   simp only[kB,U]
  split at h
  ·rename_i b v O
   split at h
   ·rename_i q
    simp only[Tree.holds]at h;refine⟨v,s.H,?_,fun _ _ _ _=>rfl,h.2⟩;unfold Yields;rw[show s.den.fr=s.fr from rfl,hw];simp only[q,al.lZ];rw[ho];exact⟨rfl,by
     have e:=Mo O;rw[show aj s.H=s.den.H from rfl]at e;simp only[fi,e]⟩
   ·rename_i q
    simp only[Tree.holds]at h;refine⟨v,s.H,rG hw q (.inl ?_),fun _ _ _ _=>rfl,h.2⟩;rw[ho];simp only[dt,Mo O]
   ·exact h.elim
  ·split at h
   ·rename_i q
    split at h
    ·rename_i b v H' d
     simp only[Tree.holds]at h;exact⟨v,H',rG hw q (.inl (Mx d h.1)),fun _ A B J=>MM d J (by rw[htouch]at B; exact B),h.2⟩
    ·exact h.elim
   ·rename_i q
    split at h
    ·rename_i b v O
     simp only[Tree.holds]at h;obtain⟨q1,q2⟩:=Yw O h.1;refine⟨v,s.H,?_,fun _ _ _ _=>rfl,h.2⟩;unfold Yields;rw[show s.den.fr=s.fr from rfl,hw];simp only[q,al.lZ];rw[ho];exact⟨rfl,by simp only[fi]; rw[show gu P t (s.eval m) (s.eval x) ok s.den.H=none from q1]; exact q2⟩
    ·exact h.elim
   ·exact h.elim
 ·split at h
  ·rename_i q
   split at h
   ·rename_i v d
    refine⟨v,s.H,?_,fun _ _ _ _=>rfl,h⟩;unfold Yields;rw[show s.den.fr=s.fr from rfl,hw];simp only[q,al.lZ];exact⟨rfl,YK d⟩
   ·exact h.elim
  ·rename_i q
   split at h
   ·rename_i f args M
    split at h
    ·rename_i b v d
     simp only[Tree.holds]at h;obtain⟨g1,g2⟩:=N.T f args b v d h.1;exact⟨v,s.H,Fe hw q (.inr ⟨f,args,M,g1,g2⟩),fun _ _ _ _=>rfl,h.2⟩
    ·exact h.elim
   ·split at h
    ·rename_i b v d
     simp only[Tree.holds]at h;exact⟨v,s.H,Fe hw q (.inl (YJ d h.1)),fun _ _ _ _=>rfl,h.2⟩
    ·exact h.elim
  ·rename_i q
   split at h
   ·rename_i f args M
    split at h
    ·rename_i b v H' d
     simp only[Tree.holds]at h;obtain⟨g1,g2⟩:=N.W f args s.H b v H' d h.1;exact⟨v,H',rG hw q (.inr ⟨f,args,M,g1,g2⟩),fun _ A B J=>N.C f args s.H b v H' d A (by simpa only[kB,M]using B) J,h.2⟩
    ·split at h
     ·rename_i t hi
      obtain⟨g1,v,H',g2,g3,g4⟩:=N.I f args s.H t hi _ (Tree.Ao h);exact⟨v,H',rG hw q (.inr ⟨f,args,M,g1,g2⟩),fun _ A B J=>g3 A (by simpa only[kB,M]using B) J,g4⟩
     ·split at h
      ·rename_i b v d
       simp only[Tree.holds]at h;obtain⟨g1,g2⟩:=N.T f args b v d h.1;exact⟨v,s.H,rG hw q (.inr ⟨f,args,M,g1,g2 _⟩),fun _ _ _ _=>rfl,h.2⟩
      ·cases hx : pR s.H args with
       |mk vb args' =>
       rw[hx]at h;simp only[]at h;split at h
       ·rename_i b v d
        split at h
        ·rename_i V
         simp only[az]at V;simp only[Tree.holds,az]at h;obtain⟨g1,g2⟩:=N.T f args' b v d h.1.2;exact⟨v,s.H,rG hw q (.inr ⟨f,args,M,g1,YT g2 hx h.1.1 V.2 V.1⟩),fun _ _ _ _=>rfl,h.2⟩
        ·exact h.elim
       ·exact h.elim
   ·rename_i U
    split at h
    ·rename_i b v H' d
     simp only[Tree.holds]at h;exact⟨v,H',rG hw q (.inl (Mx d h.1)),fun _ A B J=>MM d J (by simpa only[kB,U]using B),h.2⟩
    ·split at h
     ·rename_i b H' d
      simp only[Tree.holds]at h;refine⟨.undef,H',?_,fun _ A B J=>Y7 d (by simpa only[kB,U]using B),h.2⟩;unfold Yields;rw[show s.den.fr=s.fr from rfl,hw];simp only[q,al.lZ];exact .inr (.inr (YL d h.1))
     ·exact h.elim
theorem MN{ops:Array Oper}{s:al}{o:Oper}{t:Tmp}{b want:Bool}(h:pQ ops s.fr o=.test t b want) :
  s.fr[t]? = some (.lit (.bool b))∧bR ops s.fr o=some (b==want):=by
 unfold pQ at h;unfold bR;cases hg:o.guard with
 |none=>rw[hg]at h; cases h
 | some d =>
  obtain⟨j,w⟩:=d;rw[hg]at h;simp only[]at h⊢;split at h
  ·rename_i t' k
   split at h
   ·rename_i q hb
    cases h;exact⟨hb,by rw[k]; simp only[hb]⟩
   ·cases h
   ·cases h
  ·cases h
theorem Ff{ops:Array Oper}{s:al}{o:Oper}(h:pQ ops s.fr o=.no):bR ops s.fr o=some false:=by
 unfold pQ at h;unfold bR;cases hg:o.guard with
 |none=>rw[hg]at h; cases h
 | some d =>
  obtain⟨j,w⟩:=d;rw[hg]at h;simp only[]at h⊢;split at h
  ·rename_i t' k
   split at h
   ·cases h
   ·rename_i hb
    rw[k];simp only[hb]
   ·cases h
  ·cases h
theorem MO{ops:Array Oper}{s:al}{o:Oper}(h:pQ ops s.fr o=.yes):bR ops s.fr o=some true:=by
 unfold pQ at h;unfold bR;cases hg:o.guard with
 |none=>rfl
 | some d =>
  obtain⟨j,w⟩:=d;rw[hg]at h;simp only[]at h;split at h
  ·split at h<;>cases h
  ·cases h
theorem Az{s:al}{t:Tmp}{b:Bool} (h:s.fr[t]? = some (.lit (.bool b))):s.slot t b=s:=by
 unfold al.slot;rw[mV h]
theorem Y8(B:ak P τ){ops:Array Oper}{o:Oper}{s:al}{k:al→Tree}{Q:bO→al→Prop}(h:(E7 P τ ops o s k).holds Q) :
  ∃ v H',Yields P τ.pf ops o s.den v (aj H')∧(k (s.put o.dst v H')).holds Q:=by
 have skip:bR ops s.fr o=some false→Yields P τ.pf ops o s.den (.tuple []) (aj s.H):=by
  intro hw;unfold Yields;rw[show s.den.fr=s.fr from rfl,hw];exact⟨rfl,rfl⟩
 unfold E7 at h;split at h
 ·exact h.elim
 ·rename_i hw
  exact⟨_,_,skip (Ff hw),h⟩
 ·rename_i hw
  obtain⟨v,H',g1,_,g2⟩:=Ay B (MO hw) h;exact⟨v,H',g1,g2⟩
 ·rename_i t b want hw
  obtain⟨h1,q⟩:=MN hw;simp only[Tree.holds]at h;cases b with
  | true =>
   have d:=h.1 rfl;rw[Az h1]at d;cases want with
   | true =>
    obtain⟨v,H',g1,_,g2⟩:=Ay B q d;exact⟨v,H',g1,g2⟩
   |false=>exact⟨_,_,skip q,d⟩
  | false =>
   have d:=h.2 rfl;rw[Az h1]at d;cases want with
   |true=>exact⟨_,_,skip q,d⟩
   | false =>
    obtain⟨v,H',g1,_,g2⟩:=Ay B q d;exact⟨v,H',g1,g2⟩
theorem AA(d:ak P τ){ops:Array Oper}{Q:bO→al→Prop}:∀{l:List Oper} {s:al} {k:al→Tree},(nc P τ ops l s k).holds Q→∃ s',gg P τ.pf ops l s.den s'.den∧(k s').holds Q
 | [],s,k,h=>⟨s,rfl,h⟩
 | o::l,s,k,h=>by
  obtain⟨v,H',h1,q⟩:=Y8 d h;obtain⟨s',B,I⟩:=AA d q;exact⟨s',⟨v,aj H',h1,B⟩,I⟩
def Acc.le(a b:Acc):Prop:=(∀ x∈a.R,x∈b.R)∧∀ x∈a.W,x∈b.W
def Acc.ok(ops:Array Oper)(j:Nat)(a:Acc):Prop:=(∀ x∈a.R,x.1<j)∧(∀ x∈a.W,x.1<j)∧tv ops a.R a.W
theorem Fg{ids:List Nat}{i:Nat}(h:wB ids i=true):i∉ids:=by
 intro hm;have:ids.any (ab i)=true:=List.any_eq_true.2 ⟨i,hm,by simp⟩;simp[wB,this]at h
theorem Y9{ops:Array Oper}{j id:Nat}{a b:Acc}(ha:a.ok ops j)(h:E8 ops j id a=some b):b.ok ops (j+1)∧a.le b∧(j,id)∈b.R:=by
 unfold E8 at h;split at h
 ·rename_i k
  cases h;simp only[dB,vp,az,iR]at k;obtain⟨h1,q,B⟩:=ha;refine⟨⟨fun x d=>?_,fun x d=>y6 (q x d),fun i I hi e he=>?_,B.2⟩,⟨fun x d=>dw _ d,fun x d=>d⟩,cU⟩
  ·rcases bN.1 d with rfl | d
   ·exact VS _
   ·exact y6 (h1 x d)
  ·rcases bN.1 hi with M | hi
   ·cases M
    have N:=q e he;refine⟨fun J=>absurd J (by omega),fun _ hw=>?_⟩;rcases k e he with h|h
    ·rw[hw]at h; cases h
    ·exact⟨Fg h.1,h.2⟩
   ·exact B.1 i I hi e he
 ·cases h
theorem MP{ops:Array Oper}{j n:Nat}{T:List Nat}{a b:Acc}(ha:a.ok ops j)(h:Au ops j T n a=some b):b.ok ops (j+1)∧a.le b∧(j,T,n)∈b.W:=by
 unfold Au at h;split at h
 ·rename_i V
  split at h
  case h_2=>cases h
  rename_i M;cases h;simp only[dB,vp,az,iR]at V M;obtain⟨h1,O,U⟩:=ha;refine⟨⟨fun x q=>y6 (h1 x q),fun x q=>?_,fun i N hi e he=>?_,fun e he e' d k B id hid=>?_,fun e he e' d k B id hid=>?_⟩,⟨fun x q=>q,fun x q=>dw _ q⟩,cU⟩
  ·rcases bN.1 q with rfl | q
   ·exact VS _
   ·exact y6 (O x q)
  ·rcases bN.1 he with J | he
   ·subst J
    have k:=h1 (i,N) hi;refine⟨fun _ hw=>?_,fun hji=>absurd hji (by simp only at hji k; omega)⟩;rcases V (i,N) hi with h|h
    ·simp only at hw h; rw[hw]at h; cases h
    ·exact⟨Fg h.1,h.2⟩
   ·exact U.1 i N hi e he
  ·rcases bN.1 d with J | d
   ·subst J
    rcases bN.1 he with I|he
    ·subst I
     exact absurd k (sD _)
    ·rcases M e he with h | h
     ·simp only at B h
      rw[B]at h;cases h
     ·have h4 := h.1 id hid
      exact⟨Fg h4.1,h4.2⟩
   ·rcases bN.1 he with I | he
    ·subst I
     have h5:=O e' d;exact absurd k (by simp only; omega)
    ·exact U.2.1 e he e' d k B id hid
  ·rcases bN.1 d with J | d
   ·subst J
    rcases bN.1 he with I|he
    ·subst I
     exact absurd k (sD _)
    ·rcases M e he with h | h
     ·simp only at B h
      rw[B]at h;cases h
     ·exact h.2 id hid
   ·rcases bN.1 he with I | he
    ·subst I
     have h5:=O e' d;exact absurd k (by simp only; omega)
    ·exact U.2.2 e he e' d k B id hid
 ·cases h
theorem Acc.wF{ops:Array Oper}{j:Nat}{a:Acc}(h:a.ok ops j):a.ok ops (j+1):=⟨fun x d=>y6 (h.1 x d),fun x d=>y6 (h.2.1 x d),h.2.2⟩
theorem Acc.le_refl(a:Acc):a.le a:=⟨fun _ h=>h,fun _ h=>h⟩
theorem Acc.le_trans{a b c:Acc}(h:a.le b)(h':b.le c):a.le c:=⟨fun x d=>h'.1 x (h.1 x d),fun x d=>h'.2 x (h.2 x d)⟩
def Acc.only(j:Nat)(a b:Acc):Prop:=∀ x∈b.W,x.1<j→x∈a.W
theorem Y_{ops:Array Oper}{j:Nat}{o:Oper}{s:al}{a b:Acc}(ha:a.ok ops j)(h:E9 τ ops j o s a=some b) :
  b.ok ops (j+1)∧a.le b∧(cW τ.pf o.op=.read→∀ id,lX s.eval o.op=some id→(j,id)∈b.R)∧(cW τ.pf o.op=.write→(j,kB τ s.eval s.H o.op,s.H.length)∈b.W):=by
 unfold E9 at h;split at h
 ·rename_i d
  cases h;exact⟨Acc.wF ha,a.le_refl,(fun h=>by rw[d]at h; cases h),(fun h=>by rw[d]at h; cases h)⟩
 ·rename_i d
  split at h
  ·rename_i id hid
   obtain⟨g1,g2,g3⟩:=Y9 ha h;refine⟨g1,g2,fun _ q k=>?_,(fun h=>by rw[d]at h; cases h)⟩;rw[hid]at k;cases k;exact g3
  ·rename_i hid
   cases h;refine⟨Acc.wF ha,a.le_refl,fun _ q k=>?_,(fun h=>by rw[d]at h; cases h)⟩;rw[hid]at k;cases k
 ·rename_i d
  obtain⟨g1,g2,g3⟩:=MP ha h;exact⟨g1,g2,(fun h=>by rw[d]at h; cases h),fun _=>g3⟩
theorem MQ{ops:Array Oper}{j:Nat}{o:Oper}{s:al}{v:AV}{H':List ah}{b c:Acc}(B:b.le c)(hr:cW τ.pf o.op=.read→∀ id,lX s.eval o.op=some id→(j,id)∈b.R)
  (hw:cW τ.pf o.op=.write→(j,kB τ s.eval s.H o.op,s.H.length)∈b.W) (hk:cW τ.pf o.op=.write→∀ A,A∉kB τ s.eval s.H o.op→A<s.H.length→H'[A]? = s.H[A]?)
  (I:k8 o.op=true→pJ ops=true→cW τ.pf o.op=.write→bR ops s.den.fr o=some true→∀ σ,z_ c.W j s.den.H σ→Yields P τ.pf ops o ⟨s.den.fr,oA σ s.den.H⟩ v (oA σ (aj H'))) :
  (k:(oy ops&&eL o.op)=false)→Step P τ.pf ops c.R c.W j o s.den v (aj H'):=by
 intro k;refine⟨fun d A J=>?_,fun d _ id hid=>B.1 _ (hr d id (by rw[←al.lZ]; exact hid)),fun h1 q _=>(by rw[h1,q]at k; cases k),I⟩;have:=J _ (B.2 _ (hw d)) rfl;have q:=hk d A this.1 this.2;show (aj H')[A]? = (aj s.H)[A]?
 simp only[aj,bU,q]
theorem step_skip{ops:Array Oper}{j:Nat}{o:Oper}{s:al}{c:Acc}(hw:bR ops s.fr o=some false):Step P τ.pf ops c.R c.W j o s.den (.tuple []) (aj s.H) :=
 ⟨fun _ _ _=>rfl,fun _ h=>(by rw[show s.den.fr=s.fr from rfl,hw]at h; cases h),fun _ _ _=>⟨rfl,fun _ h=>(h rfl).elim⟩,fun _ _ _ h=>(by rw[show s.den.fr=s.fr from rfl,hw]at h; cases h)⟩
theorem MR(k:ak P τ){f:FuncId}{args:List AV}{v:AV}(B:τ.N f=true):∀(σ:List (Nat × ad)) (H H':List ah),τ.W f args H=some (true,v,H')→(∀ p∈σ,p.1<H.length∧p.1∉τ.C f args H) →
  ∃ H2 d,aj H2=oA σ (aj H)∧aj d=oA σ (aj H')∧τ.W f args H2=some (true,v,d)
 | [],H,H',h,_=>⟨H,H',rfl,rfl,h⟩
 | p::σ,H,H',h,I=>by
  obtain⟨J,a2⟩:=I p cU;obtain⟨h1,M⟩:=k.F.2 f B args H true v H' h p.1 (.raw p.2) J a2;obtain⟨H2,d,O,U,V⟩:=MR k B σ _ _ h1 fun q hq=>by
   obtain⟨b1,b2⟩:=I q (dw _ hq);rw[M];exact⟨by simpa using b1,b2⟩
  refine⟨H2,d,?_,?_,V⟩
  ·rw [O, db]
   rfl
  ·rw [U, db]
   rfl
theorem Y'{o:Oper}{s:al}{k:AV→List ah→Tree}{f:FuncId}{args:List AV}{b:Bool}{v:AV}{H':List ah}(d:k8 o.op=true)(B:cW τ.pf o.op=.write)(q:iX s.eval o.op=some (f,args))(J:τ.W f args s.H=some (b,v,H')) :
  pS P τ o s k=.side b (k v H'):=by
 unfold k8 at d;split at d
 ·rename_i c I
  unfold pS;rw[I]at B q⊢;simp only[B,q,J]
 ·cases d
theorem MS{z:List Value}:∀{H:List ah} {i j:Nat} {ks:List Kd} {g:List G},rE z H i=some (j,ks,g)→i≤j∧H[j-i]? = some (.vec ks 0 [])∧tM ks z=some g
 | [],_,_,_,_,h=>by cases h
 | o::H,i,j,ks,g,h=>by
  have next:rE z H (i+1)=some (j,ks,g)→i≤j∧(o::H)[j-i]? = some (.vec ks 0 [])∧tM ks z=some g:=by
   intro h;obtain⟨h1,d,k⟩:=MS h;refine⟨by omega,?_,k⟩;rw[show j-i=(j-(i+1))+1 from by omega];simpa using d
  unfold rE at h;split at h
  ·cases ‹_=_›
  ·rename_i q rows' H' B e
   cases e;split at h
   ·rename_i I hg
    split at h
    ·cases h
     exact⟨aD _,by simp,hg⟩
    ·exact next h
   ·exact next h
  ·rename_i e
   cases e;exact next h
theorem MT:∀{H:List ah} {i j:Nat},wC H i=some j→i≤j∧H[j-i]? = some (.raw .eo)
 | [],_,_,h=>by cases h
 | o::H,i,j,h=>by
  have next:wC H (i+1)=some j→i≤j∧(o::H)[j-i]? = some (.raw .eo):=by
   intro h;obtain⟨h1,d⟩:=MT h;refine⟨by omega,?_⟩;rw[show j-i=(j-(i+1))+1 from by omega];simpa using d
  unfold wC at h;split at h
  ·cases ‹_=_›
  ·rename_i e
   cases e;cases h;exact⟨aD _,by simp⟩
  ·rename_i e
   cases e;exact next h
theorem Za{op:Op}{H H':List ah}{id:Nat}{v:AV}(h:E_ P op H=some (id,v,H')) :
  ((∃ t m,op=.alloc t∧pG P t id m (aj H)=some (v,aj H'))∨∃ t,op=.makeMap t none∧q_ id (aj H)=some (v,aj H'))∧H'.length=H.length∧∀ A,A≠id→H'[A]? = H[A]? := by
 unfold E_ at h;split at h
 ·rename_i t
  split at h
  ·rename_i z I
   split at h
   ·rename_i i ks g q
    cases h;obtain⟨_,d,J⟩:=MS q;rw[gU]at d;have e:=My J;refine⟨.inl ⟨t,mZ ks,rfl,?_⟩,by simp,fun A B=>aZ (Ne.symm B)⟩;have hk:ks.length=z.length:=by
     have:=congrArg y5 e;simpa[qR,zF]using this
    rw[LW (mZ ks) I (k:=ks.length) (by rw[bg d]; rfl) hk,db,←e];rfl
   ·cases h
  ·cases h
 ·rename_i t
  split at h
  ·rename_i K V _
   split at h
   ·rename_i i q
    cases h;obtain⟨_,d⟩:=MT q;rw[gU]at d;refine⟨.inr ⟨t,rfl,?_⟩,by simp,fun A B=>aZ (Ne.symm B)⟩;rw[Lq (by rw[bg d]; rfl),db];rfl
   ·cases h
  ·cases h
 ·cases h
theorem Fh(J:ak P τ){ops:Array Oper}{j:Nat}{o:Oper}{s:al}{a:Acc}{k:al→Acc→Tree}{Q:bO→al→Prop}(hw:bR ops s.fr o=some true)(ha:a.ok ops j)(h:(wD P τ ops j o s a k).holds Q) :
  ∃ v H' b,Yields P τ.pf ops o s.den v (aj H')∧b.ok ops (j+1)∧a.le b∧(∀ c,b.le c→Step P τ.pf ops c.R c.W j o s.den v (aj H'))∧(k (s.put o.dst v H') b).holds Q:=by
 unfold wD at h;split at h
 ·rename_i q
  simp only[az]at q;split at h
  ·rename_i id v H' hal
   split at h
   ·rename_i b hb
    obtain⟨hnew,hlen,hkeep⟩:=Za hal;obtain⟨g1,g2,g3⟩:=MP ha hb;refine⟨v,H',b,?_,g1,g2,fun c B=>⟨fun _ A hA=>?_,fun hr=>(by rw[oz q.2]at hr; cases hr),fun _ _ _=>⟨?_,fun M aA=>?_⟩,fun hcv=>(by rw[mY q.2]at hcv; cases hcv)⟩,h⟩
    ·unfold Yields
     rw[show s.den.fr=s.fr from rfl,hw];simp only[oz q.2];rcases hnew with⟨t,m,V,hv⟩|⟨t,V,hv⟩
     ·exact .inr (.inl (.inl ⟨t,id,m,V,hv⟩))
     ·exact .inr (.inl (.inr ⟨t,id,V,hv⟩))
    ·have := (hA _ (B.2 _ g3) rfl).1
     show (aj H')[A]? = (aj s.H)[A]?
     simp only[aj,bU,hkeep A (by simpa using this)]
    ·show (aj H').length = (aj s.H).length
     simp only[fa,hlen]
    ·refine ⟨_, B.2 _ g3, rfl, ?_⟩
     have e:M=id:=De fun e=>aA (by
      show (aj H')[M]? = (aj s.H)[M]?
      simp only[aj,bU,hkeep M e])
     rw[e];exact List.mem_singleton.2 rfl
   ·exact h.elim
  ·exact h.elim
 ·rename_i q
  split at h
  ·exact h.elim
  rename_i hfc;split at h
  ·rename_i b hb
   obtain⟨g1,g2,g3,g4⟩:=Y_ ha hb;by_cases I:(pJ ops&&k8 o.op)=true∧cW τ.pf o.op=.write
   ·obtain ⟨I, N⟩ := I
    have hca2:=I;simp only[az]at hca2;have d:Fa τ o s=true:=by
     rw[I]at hfc;simpa using hfc
    unfold Fa at d;rw[N]at d;simp only[]at d;split at d
    case h_2=>cases d
    rename_i f args U;split at d
    case h_2=>cases d
    rename_i hN;obtain⟨⟨b0,v,H'⟩,O⟩:=Option.isSome_iff_exists.1 d;rw[Y' hca2.2 N U O]at h;simp only[Tree.holds]at h;obtain⟨rfl,h⟩:=h;obtain⟨hbody,hcall⟩:=J.W f args s.H true v H' O rfl;have htch:kB τ s.eval s.H o.op=τ.C f args s.H:=by
     unfold kB;rw[U]
    have hcal':∀ H2,iX (St.eval ⟨s.den.fr,H2⟩) o.op=some (f,args):=fun H2=>by
     have e:St.eval ⟨s.den.fr,H2⟩=s.eval:=by funext x; cases x<;>rfl
     rw[e];exact U
    have yl:∀ H2 H3:List ad,dC P f args H2 v H3→Yields P τ.pf ops o ⟨s.den.fr,H2⟩ v H3:=fun H2 H3 hx=>by
     unfold Yields;rw[show (St.mk s.den.fr H2).fr=s.fr from rfl,hw];simp only[N];exact .inl (.inr ⟨f,args,hcal' H2,hbody,hx⟩)
    refine⟨v,H',b,yl _ _ hcall,g1,g2,fun c B=>MQ B g3 g4 (fun _ A hA hlt=>?_) (fun _ _ _ _ σ hσ=>?_) (by simpa using q),h⟩
    ·exact J.C f args s.H true v H' O A (by rw[←htch]; exact hA) hlt
    ·obtain ⟨H2,H2',q1,q2,q3⟩:=MR J hN σ s.H H' O (fun p hp=>by
      obtain⟨hk,_⟩:=hσ p hp;obtain⟨k1,k2⟩:=hk _ (B.2 _ (g4 N)) rfl;rw[htch]at k1;exact⟨k2,k1⟩)
     rw[←q2,show oA σ s.den.H=aj H2 from q1.symm];exact yl _ _ (J.W f args H2 true v H2' q3 rfl).2
   ·obtain ⟨v, H', q1, q2, q3⟩ := Ay J hw h
    exact⟨v,H',b,q1,g1,g2,fun c B=>MQ B g3 g4 q2 (fun h1 h2 h3=>absurd ⟨by rw[h1,h2]; rfl,h3⟩ I) (by simpa using q),q3⟩
  ·exact h.elim
theorem Zb(B:ak P τ){ops:Array Oper}{j:Nat}{o:Oper}{s:al}{a:Acc}{k:al→Acc→Tree}{Q:bO→al→Prop}(ha:a.ok ops j)(h:(Fb P τ ops j o s a k).holds Q) :
  ∃ v H' b,Yields P τ.pf ops o s.den v (aj H')∧b.ok ops (j+1)∧a.le b∧(∀ c,b.le c→Step P τ.pf ops c.R c.W j o s.den v (aj H'))∧(k (s.put o.dst v H') b).holds Q:=by
 have skip:bR ops s.fr o=some false→Yields P τ.pf ops o s.den (.tuple []) (aj s.H):=by
  intro hw;unfold Yields;rw[show s.den.fr=s.fr from rfl,hw];exact⟨rfl,rfl⟩
 unfold Fb at h;split at h
 ·exact h.elim
 ·rename_i hw
  exact⟨_,_,a,skip (Ff hw),Acc.wF ha,a.le_refl,fun _ _=>step_skip (Ff hw),h⟩
 ·rename_i hw
  exact Fh B (MO hw) ha h
 ·rename_i t b want hw
  obtain⟨h1,q⟩:=MN hw;simp only[Tree.holds]at h;cases b with
  | true =>
   have d:=h.1 rfl;rw[Az h1]at d;cases want with
   |true=>exact Fh B q ha d
   |false=>exact⟨_,_,a,skip q,Acc.wF ha,a.le_refl,fun _ _=>step_skip q,d⟩
  | false =>
   have d:=h.2 rfl;rw[Az h1]at d;cases want with
   |true=>exact⟨_,_,a,skip q,Acc.wF ha,a.le_refl,fun _ _=>step_skip q,d⟩
   |false=>exact Fh B q ha d
theorem MU(d:ak P τ){ops:Array Oper}{Q:bO→al→Prop}:∀{l:List Oper} {j:Nat} {s:al} {a:Acc} {k:al→Tree},a.ok ops j→(Fc P τ ops l j s a k).holds Q →
  ∃ s' b,tv ops b.R b.W∧a.le b∧tq P τ.pf ops b.R b.W l j s.den s'.den∧(k s').holds Q
 | [],j,s,a,k,ha,h=>⟨s,a,ha.2.2,a.le_refl,rfl,h⟩
 | o::l,j,s,a,k,ha,h=>by
  obtain⟨v,H',b,g1,g2,g3,g4,g5⟩:=Zb d ha h;obtain⟨s',c,B,q,I,J⟩:=MU d g2 g5;exact⟨s',c,B,Acc.le_trans g3 q,⟨v,aj H',g1,g4 c q,I⟩,J⟩
theorem Zc{m id:Nat}{ops:Array Oper}{s s':al}{b:Acc}(hm:P.follows .mixedOrders=true)(d:tu τ.pf ops=true)(hF:tv ops b.R b.W)(h:tq P τ.pf ops b.R b.W ops.toList 0 s.den s'.den) :
  cI P m (.region id ops true) s.den .normal s'.den:=fun ro _ _ _ k=>Yf hm d hF k h (fun _ _ q=>⟨rfl,q.toM⟩) ro
theorem wG{K:bO→al→Tree}{Q:bO→al→Prop}:∀{t:Tree},(t.bind K).holds Q→t.holds fun x s=>(K x s).holds Q
 |.fail,h=>h
 |.done _ _,h=>h
 |.ask _ _ _,h=>⟨fun hb=>wG (h.1 hb),fun hb=>wG (h.2 hb)⟩
 |.side _ _,h=>⟨h.1,wG h.2⟩
theorem MV{m:Nat}{c:Code}{Q:bO→al→Prop}{body:al→(bO→al→Tree)→Tree}
  (hb:∀ s K,(body s K).holds Q→∃ x s',cI P m c s.den x s'.den∧(K x s').holds Q):∀(n:Nat) (s:al) (K:bO→al→Tree),(Av body n s K).holds Q →
  ∃ x s',kZ P m c s.den x s'.den∧(K x s').holds Q
 |0,_,_,h=>h.elim
 | n+1,s,K,h=>by
  simp only[Av]at h;obtain⟨x,s1,h1,d⟩:=hb _ _ h;cases x with
  | normal =>
   obtain⟨y,s2,k,q⟩:=MV hb n s1 K d;exact⟨y,s2,.next h1 k,q⟩
  |exit i=>exact⟨_,s1,.stop h1 (by simp),d⟩
  |ret=>exact⟨_,s1,.stop h1 (by simp),d⟩
theorem gh(hm:P.follows .mixedOrders=true)(B:ak P τ){m:Nat}{L:LT}{Q:bO→al→Prop}:∀(c:Code) (s:al) (K:bO→al→Tree),
  ax P m L c→(dN P τ L c s K).holds Q→∃ x s',cI P m c s.den x s'.den∧(K x s').holds Q
 |.skip,s,K,_,h=>⟨_,_,XK,h⟩
 | .region id ops draw,s,K,q,h=>by
  simp only[dN]at h;split at h
  ·rename_i M
   split at h
   ·rename_i hB
    simp only[Tree.holds]at h;have hdt:draw=true:=by
     cases draw with
     |true=>rfl
     |false=>simp at M
    subst hdt;obtain⟨s',b,h1,_,d,I⟩:=MU B (a:=⟨[],[]⟩) ⟨by simp,by simp,⟨fun i id hi=>(nomatch hi),fun e he=>(nomatch he),fun e he=>(nomatch he)⟩⟩ h.2;exact⟨_,_,td (q.2.1 id s h.1) (Zc hm hB h1 d),I⟩
   ·exact h.elim
  ·rename_i W
   simp only[Tree.holds]at h;obtain⟨s',h1,d⟩:=AA B h.2;refine⟨_,_,td (q.2.1 id s h.1) (XN hm (fun M=>?_) h1),d⟩;rw[M]at W;simpa using W
 | .seq a b,s,K,q,h=>by
  simp only[dN]at h;have N:ax P m L a:=q.sub (fun p k=>by simp only[bJ]; exact cQ.2 (.inl k)) (fun p k=>by simp only[bE]; exact cQ.2 (.inl k));have O:ax P m L b:=q.sub (fun p k=>by simp only[bJ]; exact cQ.2 (.inr k)) (fun p k=>by simp only[bE]; exact cQ.2 (.inr (cQ.2 (.inr k))));obtain⟨x,s1,h1,d⟩:=gh hm B a s _ N h;cases x with
  | normal =>
   simp only[Mz]at d;split at d
   ·rename_i t J
    unfold MC at J;split at J
    ·rename_i i hi
     obtain⟨y,s2,I,V⟩:=q.2.2 i b (by simp only[bE,hi]; exact cQ.2 (.inr (cQ.2 (.inl (cU))))) s1 t J _ (wG d);exact⟨y,s2,tf h1 I,V⟩
    ·cases J
   ·obtain ⟨y, s2, I, V⟩ := gh hm B b s1 K O d
    exact⟨y,s2,tf h1 I,V⟩
  |exit id=>exact⟨_,_,L3 h1 (by simp),d⟩
  |ret=>exact⟨_,_,L3 h1 (by simp),d⟩
 | .cond c a b,s,K,q,h=>by
  simp only[dN]at h;have N:ax P m L a:=q.sub (fun p k=>by simp only[bJ]; exact cQ.2 (.inl k)) (fun p k=>by simp only[bE]; exact cQ.2 (.inl k));have O:ax P m L b:=q.sub (fun p k=>by simp only[bJ]; exact cQ.2 (.inr k)) (fun p k=>by simp only[bE]; exact cQ.2 (.inr k));split at h
  ·rename_i t hb
   have U:=ME hb;rw[←al.lZ]at U;simp only[Tree.holds]at h;cases t with
   | true =>
    obtain⟨x,s1,h1,d⟩:=gh hm B a s K N (h.1 rfl);exact⟨x,s1,L4 U (by simpa using h1),d⟩
   | false =>
    obtain⟨x,s1,h1,d⟩:=gh hm B b s K O (h.2 rfl);exact⟨x,s1,L4 U (by simpa using h1),d⟩
  ·exact h.elim
 | .block id c,s,K,q,h=>by
  simp only[dN]at h;obtain⟨x,s1,h1,d⟩:=gh hm B c s _ (q.sub (fun p k=>by simpa only[bJ]using k) (fun p k=>by simpa only[bE]using k)) h;refine⟨_,s1,Er h1,?_⟩;cases x with
  |normal=>exact d
  | exit i =>
   simp only[MA]at d;simp only[bO.inBlock];split
   ·rename_i e; rw[if_pos e]at d; exact d
   ·rename_i e; rw[if_neg e]at d; exact d
  |ret=>exact d
 | .loop c,s,K,q,h=>by
  simp only[dN]at h;split at h
  ·rename_i i hi
   split at h
   ·rename_i t hl
    obtain⟨x,s',h1,d⟩:=q.1 i c (by simp only[bJ,hi]; exact cU) s t hl _ (wG h);exact⟨x,s',L5 h1,d⟩
   ·obtain ⟨x, s', h1, d⟩ := MV (fun s1 K1 hh => gh hm B c s1 K1 (q.sub (fun p k => by simp only [bJ, hi]; exact dw _ k) (fun p k => by simpa only [bE] using k)) hh) 400 s K h
    exact⟨x,s',L5 h1,d⟩
  ·exact h.elim
 |.exit id,s,K,_,h=>⟨_,_,XM,h⟩
 |.ret,s,K,_,h=>⟨_,_,XL,h⟩
 |.rangeFunc ..,_,_,_,h=>by simp[dN,Tree.holds]at h
 |.scope _,_,_,_,h=>by simp[dN,Tree.holds]at h
 |.label _,_,_,_,h=>by simp[dN,Tree.holds]at h
 |.goto _,_,_,_,h=>by simp[dN,Tree.holds]at h
 |.refuse _,_,_,_,h=>by simp[dN,Tree.holds]at h
end sound
end Go.AL

namespace Go.AL
open Go
variable [Dr]
inductive jY where
 |fail
 |ret (v:AV) (H:List ah)
 |ask (b:Bool) (t e:jY)
 |side (b:Bool) (t:jY)
def jY.holds(Q:AV→List ah→Prop):jY→Prop
 |.fail=>False
 |.ret v H=>Q v H
 |.ask b t e=>(b=true→t.holds Q)∧(b=false→e.holds Q)
 |.side b t=>b=true∧t.holds Q
def jY.two:jY→Option (AV × List ah)
 |.fail=>none
 |.ret v H=>some (v,H)
 |.ask b t e=>bif b then t.two else e.two
 |.side b t=>bif b then t.two else none
def jY.val:jY→Option AV
 |.fail=>none
 |.ret v _=>some v
 |.ask b t e=>bif b then t.val else e.val
 |.side b t=>bif b then t.val else none
theorem AB:∀{t:jY} {v:AV},t.val=some v→t.holds fun u _=>u=v
 |.fail,_,h=>by cases h
 |.ret u H,_,h=>by simp only[jY.val,aY]at h; exact h
 | .ask b t e,v,h=>by
  cases b with
  |true=>exact⟨fun _=>AB (t:=t) (v:=v) h,fun h=>by cases h⟩
  |false=>exact⟨fun h=>(nomatch h),fun _=>AB (t:=e) (v:=v) h⟩
 | .side b t,v,h=>by
  cases b with
  |true=>exact And.intro rfl (AB (t:=t) (v:=v) h)
  |false=>cases h
def Fi(H:List ah):Option (List Kd)→AV→Option (Bool × AV)
 |none,a=>some (true,a)
 | some ks,a=>match a with
  |.nils | .lit (.slice none 0 0)=>some (true,.listF ks [])
  |.listF d rows=>if Kd.ig ks d then some (true,.listF ks rows) else none
  | .list w rows=>match bA ks rows with
   |some gs=>if w=ks.length then some (true,.listF ks gs) else none
   |none=>none
  | .vec w id ae off n=>match H[id]? with
   |some (.vec d v rows)=>if ae=v∧d.length=w∧off=0∧Kd.ig ks d=true then some (ab n rows.length,.listF ks rows) else none
   |_=>none
  |_=>none
def l5(H:List ah):List (Option (List Kd))→List AV→Option (Bool × List AV)
 |_,[]=>some (true,[])
 | [],a::as=>match l5 H [] as with
  |some (b,d)=>some (b,a::d)
  |none=>none
 | c::cs,a::as=>match Fi H c a,l5 H cs as with
  |some (b,k),some (q,d)=>some (b&&q,k::d)
  |_,_=>none
theorem Zd{E:Env}(HE:aq E){H:List ah}(hH:E.H=aj H){k:Option (List Kd)}{a d:AV}{b:Bool}{c:Value}(h:Fi H k a=some (b,d))(hb:b=true)(B:d.closed=true)(hr:rel E a c) :
  rel (E.bare E.w) d c:=by
 unfold Fi at h;split at h
 ·cases h; exact dZ (pT E) _ B hr
 ·rename_i ks
  split at h
  ·cases h
   simp only[rel,eF,G.rows]at hr⊢;obtain⟨base,rfl⟩:=hr;exact⟨base,0,rfl,aD _,.inl trivial⟩
  ·cases h
   simp only[rel,eF,G.rows]at hr⊢;subst hr;exact⟨none,0,rfl,aD _,.inl trivial⟩
  ·split at h
   ·rename_i I
    cases h;rw[Kd.jA I];exact dZ (pT E) _ rfl hr
   ·cases h
  ·split at h
   ·rename_i gs hg
    split at h
    ·rename_i hw
     cases h;rw[jx,ru hg];subst hw;exact dZ (pT E) _ rfl hr
    ·cases h
   ·cases h
  ·split at h
   ·rename_i hid
    split at h
    ·rename_i J
     obtain⟨rfl,M,rfl,q⟩:=J;simp only[aY,a8]at h;obtain⟨h1,rfl⟩:=h;subst hb;have q:=Kd.jA q;subst q;exact MG HE hH hid M (bk h1) hr
    ·cases h
   ·cases h
  ·cases h
theorem Fj{E:Env}(HE:aq E){H:List ah}(hH:E.H=aj H):∀{ks:List (Option (List Kd))} {as q:List AV} {b:Bool} {cs:List Value},l5 H ks as=some (b,q)→b=true →
  AV.br q=true→af E as cs→af (E.bare E.w) q cs
 | ks,[],q,b,cs,h,_,_,hr=>by
  cases ks<;>simp only[l5]at h<;>cases h<;>(cases cs with
   |nil=>simp[af]
   |cons _ _=>simp[af]at hr)
 | [],a::as,q,b,cs,h,hb,d,hr=>by
  cases cs with
  |nil=>simp[af]at hr
  | cons c cs =>
   simp only[l5]at h;simp only[af]at hr;split at h
   ·rename_i b1 B h1
    cases h;simp only[AV.br,az]at d;simp only[af];exact⟨dZ (pT E) _ d.1 hr.1,Fj HE hH h1 hb d.2 hr.2⟩
   ·cases h
 | k::ks,a::as,q,b,cs,h,hb,d,hr=>by
  cases cs with
  |nil=>simp[af]at hr
  | cons c cs =>
   simp only[l5]at h;simp only[af]at hr;split at h
   ·rename_i b0 a0 b1 B h0 h1
    simp only[aY,a8]at h;obtain⟨I,rfl⟩:=h;subst I;simp only[az]at hb;simp only[AV.br,az]at d;simp only[af];exact⟨Zd HE hH h0 hb.1 d.1 hr.1,Fj HE hH h1 hb.2 d.2 hr.2⟩
   ·cases h
def Tree.toR(P:Program)(rs:List ResultVar) (ks:List (Option (List Kd))):Tree→jY
 |.fail=>.fail
 | .done x s=>match x with
  |.exit _=>.fail
  | _=>match gL P s.den rs with
   | some vs=>match l5 s.H ks vs with
    |some (b,d)=>.side b (.ret (c9 d) s.H)
    |none=>.fail
   |none=>.fail
 |.ask b t e=>.ask b (t.toR P rs ks) (e.toR P rs ks)
 |.side b t=>.side b (t.toR P rs ks)
theorem toR_holds{P:Program}{rs:List ResultVar}{ks:List (Option (List Kd))}{Q:AV→List ah→Prop}:∀{t:Tree},(t.toR P rs ks).holds Q →
  t.holds fun x s=>(x=.normal∨x=.ret)∧∃ vs d,gL P s.den rs=some vs∧l5 s.H ks vs=some (true,d)∧Q (c9 d) s.H
 |.fail,h=>h
 | .done x s,h=>by
  have key:∀ y,(y=bO.normal∨y=bO.ret)→(match gL P s.den rs with
   | some vs=>match l5 s.H ks vs with
    |some (b,d)=>jY.side b (.ret (c9 d) s.H)
    |none=>.fail
   |none=>.fail).holds Q→(y=.normal∨y=.ret)∧∃ vs d,gL P s.den rs=some vs∧l5 s.H ks vs=some (true,d)∧Q (c9 d) s.H:=by
   intro y k h;split at h
   ·rename_i vs q
    split at h
    ·rename_i b d B
     simp only[jY.holds]at h;obtain⟨rfl,h⟩:=h;exact⟨k,vs,d,q,B,h⟩
    ·exact h.elim
   ·exact h.elim
  simp only[Tree.toR]at h;simp only[Tree.holds];cases x with
  |exit i=>exact h.elim
  |normal=>exact key _ (.inl rfl) h
  |ret=>exact key _ (.inr rfl) h
 |.ask _ _ _,h=>⟨fun hb=>toR_holds (h.1 hb),fun hb=>toR_holds (h.2 hb)⟩
 |.side _ _,h=>⟨h.1,toR_holds h.2⟩
def AD(P:Program)(τ:ai)(L:LT)(fn:Func) (ks:List (Option (List Kd))) (args:List AV) (H:List ah):jY :=
 match fn.body with
 |some c=>(dN P τ L c ⟨iY args fn.ntmps,H⟩ .done).toR P fn.results.toList ks
 |none=>.fail
theorem MW{E:Env}{vs:List AV}{us:List Value}(h:af E vs us):rel E (c9 vs) (if h:us.toArray.size=1 then us.toArray[0] else .tuple us.toArray):=by
 cases us with
 | nil =>
  cases vs with
  |nil=>simp[c9,rel,af]
  |cons _ _=>simp[af]at h
 | cons u us =>
  cases us with
  | nil =>
   cases vs with
   |nil=>simp[af]at h
   | cons v vs =>
    cases vs with
    |nil=>simp only[af]at h; simpa[c9]using h.1
    |cons _ _=>simp[af]at h
  | cons d us =>
   cases vs with
   |nil=>simp[af]at h
   | cons v vs =>
    cases vs with
    |nil=>simp[af]at h
    | cons v2 vs =>
     simp only[c9,rel];exact⟨(u::d::us).toArray,by simp,h⟩
theorem Ze{P:Program}{f:FuncId}{fn:Func}{c:Code}{args:List AV}{x:bO}{s':al}{ks:List (Option (List Kd))}{vs d:List AV}
  (hf:P.funcs[f]? = some fn) (hb:fn.body=some c) (hs:cI P 0 c ⟨iY args fn.ntmps,[]⟩ x s'.den) (B:x=.normal∨x=.ret) (hr:gL P s'.den fn.results.toList=some vs)
  (hc:l5 s'.H ks vs=some (true,d)) (ha:AV.br args=true) (O:AV.br d=true):cV P f args (c9 d):=by
 intro H E cargs hH HE U
 let E0:Env:={ w:=E.w,H:=[],loc:=[],X:=(E.X.or E.own).re dY }
 have V:∀ b,¬ E0.own b:=by rintro b (⟨id,c,hid⟩|⟨l,k,c,hk⟩); simp[E0]at hid; simp[E0,dY]at hk
 have hC:E.bH E0:=⟨fun b hb=>⟨⟨hb.1,V b,fun B=>B.elim hb.2.2 hb.2.1⟩,rfl⟩⟩
 have N:aq E0:=by
  refine⟨rfl,?_,?_,?_,?_,HE.fH.bH hC,fun l k l' k' b m n hk=>by simp[E0,dY]at hk,fun i b m l k n hi=>by simp[E0]at hi,fun l k b m hk=>by simp[E0,dY]at hk,fun i j o o' l hi=>by simp[E0]at hi,fun l _ k q hk=>by simp[E0,dY]at hk⟩
  ·intro i j b m n hi; simp[E0]at hi
  ·intro i b m hi; simp[E0]at hi
  ·rintro b (B | ho)
   ·exact HE.X b B
   ·exact(HE.zk ho).1
  ·intro i o hi; simp[E0]at hi
 refine Et hf hb ?_;have hfe:=th N;have hargs0:=ox hfe _ (pz hC args ha U);have hrel:bQ ⟨iY args fn.ntmps,[]⟩ { E0 with X:=⟨E0.X.x,fun _=>False,E0.X.r⟩ } { tmps:=cargs++Array.replicate (fn.ntmps-cargs.size) undef,defers:=[] }:=by
  refine⟨rfl,?_,qU _ _,N.cR hfe⟩;simp only[iY,Array.toList_append,Array.toList_replicate];refine kW hargs0 ?_;have:=gG U;have e:args.length=cargs.size:=by simpa using this
  rw[e];have:=vU (E:={ E0 with X:=⟨E0.X.x,fun _=>False,E0.X.r⟩ }) (cd (fn.ntmps-cargs.size) undef);simpa using this
 refine wpIn_mono (hs none (Ep _) { E0 with X:=⟨E0.X.x,fun _=>False,E0.X.r⟩ } _ hrel) fun e a1 w0 ⟨h3,loc',X',J,M⟩=>?_;refine⟨by subst h3; rcases B with rfl|rfl; exact .inl rfl; exact .inr rfl,X',J.defers,fun I k1 k2 k3=>?_⟩;obtain⟨J,M⟩:=Eu N J M k1 k2 k3;obtain⟨us,g1,g2⟩:=zX J fn.results.toList vs hr;have hres:(results fn a1.tmps).run P I=.ok (if h:us.toArray.size=1 then us.toArray[0] else .tuple us.toArray) I:=by
  rw[zY];simp only[Sem.run_bind];rw[Array.mapM_eq_mapM_toList,Sem.run_map,g1];rfl
 have g3:=Fj J.heap rfl hc rfl O g2;have g4:=MW g3;have W:Ext E.w I:=⟨M.size,fun b hb=>M.same b hb (V b),M.env⟩
 have hcl:(c9 d).closed=true:=by
  cases d with
  |nil=>rfl
  | cons v vs =>
   cases vs with
   |nil=>simpa[c9,AV.br]using O
   |cons v2 vs=>simpa only[c9,AV.closed]using O
 have g5:rel { E with w:=I } (c9 d) (if h:us.toArray.size=1 then us.toArray[0] else .tuple us.toArray) :=
  dZ (E:=({ w:=I,H:=aj s'.H,loc:=loc',X:=E0.X.re X'.r }:Env).bare I) (E':={ E with w:=I }) ⟨fun b hb=>⟨⟨hb.1,fun ho=>hb.2.2 (Or.inr ho),fun B=>hb.2.2 (Or.inl B)⟩,rfl⟩⟩ _ hcl g4
 refine⟨_,hres,_,c9 d,H,rfl,⟨rfl,rfl⟩,E.loc,E.X.r,?_,?_,?_⟩
 ·rw[←hH]; exact g5
 ·rw[←hH]; exact HE.ext W
 ·rw[←hH]; exact Env.jQ W
theorem Zf{vs:List AV}{v:AV}(h:c9 vs=v)(d:v.closed=true):AV.br vs=true:=by
 subst h;cases vs with
 |nil=>rfl
 | cons v vs =>
  cases vs with
  |nil=>simpa[c9,AV.br]using d
  |cons v2 vs=>simpa only[c9,AV.closed]using d
theorem dS{P:Program}{τ:ai}{L:LT}(hm:P.follows .mixedOrders=true)(k:ak P τ){f:FuncId}{fn:Func} (ks:List (Option (List Kd))) {args:List AV} {v:AV}
  (q:∀ c,fn.body=some c→ax P 0 L c)
  (B:P.funcs[f]? = some fn) (ha:AV.br args=true) (I:v.closed=true) (h:(AD P τ L fn ks args []).val=some v):cV P f args v:=by
 have h:=AB h;unfold AD at h;split at h
 ·rename_i c hb
  obtain⟨x,s',h1,J,vs,O,M,N,d⟩:=gh hm k c _ _ (q c hb) (toR_holds h);rw[←d];exact Ze B hb h1 J M N ha (Zf d I)
 ·exact h.elim
end Go.AL

namespace Go.AL
open Go
variable [Dr]
def MX(ms:List Nat):ai:={ pf:=fun g=>ms.any fun t=>ab g (t+1000000),T:=fun _ _=>none,W:=fun _ _ _=>none,C:=fun _ _ _=>[],U:=fun _=>false }
theorem Zg(P:Program)(ms:List Nat):ak P (MX ms):=⟨fun _ _ _ _ h=>(nomatch h),fun _ _ _ _ _ _ h=>(nomatch h),fun _ _ _ _ _ _ h=>(nomatch h),fun _ _ _ _ h=>(nomatch h),fun _ _ _ _=>⟨rfl,rfl⟩,fun _ h=>(nomatch h)⟩
def ai.add(τ:ai)(f:FuncId)(c:List AV→Option (Bool × AV)):ai where
 pf g:=match ab g f with
  |true=>true
  |false=>τ.pf g
 T g args:=match ab g f with
  |true=>c args
  |false=>τ.T g args
 W:=τ.W
 C:=τ.C
 I:=τ.I
 N:=τ.N
 U:=τ.U
theorem ak.add{P:Program}{τ:ai}(h:ak P τ){f:FuncId}{c:List AV→Option (Bool × AV)}(hb:fw P f=true)(k:∀ args b v,c args=some (b,v)→b=true→cV P f args v) :
  ak P (τ.add f c):=by
 refine⟨fun g args b v hg d=>?_,h.W,h.C,h.I,h.F⟩;simp only[ai.add]at hg;split at hg
 ·rename_i e
  have e:=bk e;subst e;exact⟨hb,k args b v hg d⟩
 ·exact h.T g args b v hg d
def ay:LT:=⟨fun _ _=>none,fun _ s=>(true,s),fun _ _=>none⟩
theorem aL(P:Program)(m:Nat)(c:Code):ax P m ay c:=⟨fun _ _ _ _ _ h=>(nomatch h),fun _ _ _=>bl.refl _,fun _ _ _ _ _ h=>(nomatch h)⟩
def ai.inline(P:Program)(τ:ai)(f:FuncId)(fn:Func) (ks:List (Option (List Kd))):ai:=τ.add f fun args =>
 match (AD P τ ay fn ks args []).val with
 | some v=>match AV.br args&&v.closed with
  |true=>some (true,v)
  |false=>none
 |none=>none
theorem ak.inline{P:Program}{τ:ai}(h:ak P τ)(hm:P.follows .mixedOrders=true){f:FuncId}{fn:Func}(q:P.funcs[f]? = some fn)(hb:fw P f=true) (ks:List (Option (List Kd))) :
  ak P (τ.inline P f fn ks):=h.add hb fun args b v d _=>by
 split at d
 ·rename_i u hu
  split at d
  ·rename_i k
   simp only[az]at k;cases d;exact dS hm h ks (fun _ _=>aL _ _ _) q k.1 k.2 hu
  ·cases d
 ·cases d
abbrev aS(s:ByteArray):AV:=.lit (.string s)
end Go.AL

namespace Go.AL
open Go
variable [Dr]
def wH(slot:Nat)(ks:List Kd)(s:al):al:=⟨s.fr.set slot (.vec ks.length s.H.length 0 0 0),s.H++[.vec ks 0 []]⟩
def isNil:AV→Bool
 |.nils | .lit (.slice none 0 0)=>true
 |_=>false
theorem MY{E:Env}{a:AV}{c:Value}(h:isNil a=true)(hr:rel E a c):∃ base,c=.slice base 0 0:=by
 unfold isNil at h;split at h
 ·simpa only[rel]using hr
 ·simp only[rel]at hr; exact⟨none,hr⟩
 ·cases h
theorem MZ{m:Nat}{slot:Nat}{ks:List Kd}{s:al}(h:isNil (s.fr.getD slot .undef)=true):bl m s.den (wH slot ks s).den:=fun E a d=>by
 have hH:E.H=aj s.H:=d.H;have hlen:E.H.length=s.H.length:=by rw[hH,fa]
 have hle:E.le (E.push E.w (.vec ks.length 0 []) none):=Env.kl d.heap.len (Ext.refl _) (fun b n h=>by cases h);have B:aN (E.push E.w (.vec ks.length 0 []) none) E.H.length (.vec ks.length 0 []):=by
  simp only[aN,Env.push];refine .inl ⟨?_,trivial⟩;rw[iM (by rw[d.heap.len]; exact aD _),d.heap.len,nU];rfl
 have I:aq (E.push E.w (.vec ks.length 0 []) none):=aq.push d.heap (Ext.refl _) (fun b n h=>by cases h) B;have q:(wH slot ks s).den.H=E.H++[.vec ks.length 0 []]:=by
  rw[hH];simp[wH,al.den,aj,ah.den]
 refine⟨E.loc++[none],E.X,?_,?_⟩
 ·rw [q]
  refine⟨q.symm,?_,d.defers,I⟩;have h':=dK hle _ d.fr;have M:∀(fr:List AV) (cs:List Value) (i:Nat),af E fr cs→isNil (fr.getD i .undef)=true→af (E.push E.w (.vec ks.length 0 []) none) fr cs →
    af (E.push E.w (.vec ks.length 0 []) none) (fr.set i (.vec ks.length s.H.length 0 0 0)) cs:=by
   intro fr
   induction fr with
   |nil=>intro cs i h0 h1 k; exact k
   | cons b fr N =>
    intro cs i h0 h1 k;cases cs with
    |nil=>simp[af]at h0
    | cons c cs =>
     simp only[af]at h0 k;cases i with
     | zero =>
      simp only[List.set_cons_zero,af];refine⟨?_,k.2⟩;obtain⟨base,rfl⟩:=MY (by simpa using h1) h0.1;have hg:(E.push E.w (.vec ks.length 0 []) none).H[s.H.length]? = some (.vec ks.length 0 []):=by
       simp only[Env.push];rw[iM (by omega),hlen,nU];rfl
      have J:(E.push E.w (.vec ks.length 0 []) none).loc[s.H.length]? = some none:=by
       simp only[Env.push];rw[iM (by rw[d.heap.len]; omega),d.heap.len,hlen,nU];rfl
      simp only[rel];refine⟨⟨base,0,rfl,aD _,fun h=>absurd h (sD _)⟩,⟨_,hg,rfl,fun v h=>fg _⟩,fun _=>⟨fun _=>⟨trivial,trivial,base,rfl⟩,fun b m hb=>?_⟩⟩;rw[J]at hb;cases hb
     | succ i =>
      simp only[List.set_cons_succ,af];exact⟨k.1,N cs i h0.2 (by simpa using h1) k.2⟩
  exact M s.fr _ slot d.fr h h'
 ·rw [q]
  exact hle.toM
def cB(fn:Func)(k:Nat):Code:=match fn.body with
 | some c=>match (bJ c).find? fun p=>ab p.1 k with
  |some p=>p.2
  |none=>.skip
 |none=>.skip
theorem wI{P:Program}{f:FuncId}{vs:List Value}{u:Value}(h:∀ w,Calls P f vs.toArray w fun e w'=>e=.returned u∧Ext w w'):cV P f (vs.map .lit) (.lit u):=by
 intro H E cargs hH HE k;have e:cargs=vs.toArray:=by
  have:∀(vs us:List Value),af E (vs.map AV.lit) us→us=vs:=by
   intro vs
   induction vs with
   | nil=>intro us h; cases us with
    |nil=>rfl
    |cons _ _=>simp[af]at h
   | cons v vs q =>
    intro us h;cases us with
    |nil=>simp[af]at h
    | cons u us =>
     simp only[dj,af,rel]at h;rw[h.1,q us h.2]
  have:=this vs cargs.toList k;rw[←this]
 rw[e];refine(h E.w).mono ?_;rintro _ w' ⟨rfl,d⟩;refine⟨u,.lit u,H,rfl,⟨rfl,rfl⟩,E.loc,E.X.r,by simp[rel],?_,?_⟩
 ·rw[←hH]; exact HE.ext d
 ·rw[←hH]; exact Env.jQ d
end Go.AL

namespace Go.AL
open Go
variable [Dr]
def oE(ks:List Kd):AV→Option (List (List G))
 |.nils | .lit (.slice none 0 0)=>some []
 |.emptyS _=>some []
 |.listF d rows=>if Kd.ig ks d then some rows else none
 | .list w rows=>match bA ks rows with
  |some gs=>if w=ks.length then some gs else none
  |none=>none
 |_=>none
def Fk(ks:List Kd):AV→Option (List G)
 |.agg cells=>gx ks cells
 |_=>none
theorem M0{E:Env}{ks:List Kd}{a:AV}{rows:List (List G)}{c:Value}(h:oE ks a=some rows)(hr:rel E a c):rel E (.listF ks rows) c:=by
 unfold oE at h;split at h
 ·cases h
  simp only[rel,eF,G.rows]at hr⊢;obtain⟨base,rfl⟩:=hr;exact⟨base,0,rfl,aD _,.inl trivial⟩
 ·cases h
  simp only[rel,eF,G.rows]at hr⊢;subst hr;exact⟨none,0,rfl,aD _,.inl trivial⟩
 ·cases h
  simp only[rel,eF,G.rows]at hr⊢;obtain⟨base,cap,rfl,_⟩:=hr;exact⟨base,cap,rfl,fg _,.inl trivial⟩
 ·split at h
  ·rename_i d
   cases h;rw[Kd.jA d];exact hr
  ·cases h
 ·split at h
  ·rename_i gs hg
   split at h
   ·rename_i hw
    cases h;rw[jx,ru hg];subst hw;exact hr
   ·cases h
  ·cases h
 ·cases h
theorem M1{ks:List Kd}{a:AV}{r:List G}(h:Fk ks a=some r):a=.agg (aH ks r):=by
 unfold Fk at h;split at h
 ·rw[k9 h]
 ·cases h
end Go.AL

namespace Go.AL
open Go
variable [Dr]
structure bP where
 ids:List Nat
 sh:List Nat
 base:Nat
def bP.at(e:bP)(j:Nat):Nat:=match e.ids[j]? with
 |some i=>i
 |none=>e.base+(j-e.ids.length)
def bP.up(e:bP)(j:Nat):Nat:=e.sh.getD j 0
mutual
def AV.cq(e:bP):AV→AV
 |.agg cs=>.agg (AV.kD e cs)
 |.tuple cs=>.tuple (AV.kD e cs)
 |.clo f cs=>.clo f (AV.kD e cs)
 |.ptr id ae k row col=>.ptr (e.at id) (ae+e.up id) k row col
 |.vec k id ae off n=>.vec k (e.at id) (ae+e.up id) off n
 |.map id=>.map (e.at id)
 |.sub ..=>.undef
 |a=>a
def AV.kD(e:bP):List AV→List AV
 | []=>[]
 |a::as=>a.cq e::AV.kD e as
end
def ad.cq(e:bP)(j:Nat):ad→ad
 |.box cells=>.box (AV.kD e cells)
 |.vec k v rows=>.vec k (v+e.up j) rows
 |o=>o
theorem M2(e:bP):∀(as:List AV),(AV.kD e as).length=as.length
 | []=>rfl
 |_::as=>by simp[AV.kD,M2 e as]
mutual
def AV.bK:AV→Bool
 |.agg cs | .tuple cs | .clo _ cs=>AV.cH cs
 |.list .. | .listF .. | .cptr _=>false
 |_=>true
def AV.cH:List AV→Bool
 | []=>true
 |a::as=>a.bK&&AV.cH as
end
structure rH (S:Bool) (e:bP) (E E':Env):Prop where
 ok:S=false→∀ b,E.ju b→E'.ju b∧E'.w.heap[b]? = E.w.heap[b]?
 past:∀ j ae,E.past j ae→E'.past (e.at j) (ae+e.up j)
 live:∀ j ae,E.past j ae→E'.live (e.at j) (ae+e.up j)→E.live j ae∧E'.loc[e.at j]? = E.loc[j]?
theorem rH.bH{e:bP}{E E':Env}(h:rH false e E E'):E.bH E':=⟨h.ok rfl⟩
mutual
theorem Fl{S:Bool}{e:bP}{E E':Env}(h:rH S e E E'):∀(a:AV) {c:Value},(S=true→a.bK=true)→rel E a c→rel E' (a.cq e) c
 |.undef,_,_,_=>by simp[AV.cq,rel]
 |.lit v,c,_,hr=>by simpa only[AV.cq,rel]using hr
 |.nils,c,_,hr=>by simpa only[AV.cq,rel]using hr
 | .list k rows,c,q,hr=>by
  cases S with
  |true=>exact absurd (q rfl) (by simp[AV.bK])
  |false=>exact dZ h.bH (.list k rows) rfl hr
 | .listF ks rows,c,q,hr=>by
  cases S with
  |true=>exact absurd (q rfl) (by simp[AV.bK])
  |false=>exact dZ h.bH (.listF ks rows) rfl hr
 | .cptr cells,c,q,hr=>by
  cases S with
  |true=>exact absurd (q rfl) (by simp[AV.bK])
  |false=>exact dZ h.bH (.cptr cells) rfl hr
 |.ifc,c,_,hr=>by simpa only[AV.cq,rel]using hr
 |.emptyS n,c,_,hr=>by simpa only[AV.cq,rel]using hr
 |.sub ..,c,_,_=>by simp only[AV.cq,rel]
 | .agg cells,c,q,hr=>by
  simp only[rel]at hr;simp only[AV.cq,rel];obtain⟨cs,I,h1,d⟩:=hr;exact⟨cs,I,h1,AE h cells (fun e=>by simpa only[AV.bK]using q e) d⟩
 | .tuple cells,c,q,hr=>by
  simp only[rel]at hr;simp only[AV.cq,rel];obtain⟨cs,I,d⟩:=hr;exact⟨cs,I,AE h cells (fun e=>by simpa only[AV.bK]using q e) d⟩
 | .clo f cells,c,q,hr=>by
  simp only[rel]at hr;simp only[AV.cq,rel];obtain⟨cs,I,d⟩:=hr;exact⟨cs,I,AE h cells (fun e=>by simpa only[AV.bK]using q e) d⟩
 | .ptr id ae k row col,c,_,hr=>by
  simp only[rel]at hr;simp only[AV.cq,rel];obtain⟨h1,d,J⟩:=hr;refine⟨h1,h.past _ _ d,fun B=>?_⟩;obtain⟨g1,g2⟩:=h.live _ _ d B;rw[g2];exact J g1
 | .vec k id ae off n,c,_,hr=>by
  simp only[rel]at hr;simp only[AV.cq,rel];obtain⟨h1,d,J⟩:=hr;refine⟨h1,h.past _ _ d,fun B=>?_⟩;obtain⟨g1,g2⟩:=h.live _ _ d B;rw[g2];exact J g1
 | .map id,c,_,hr=>by
  simp only[rel]at hr;simp only[AV.cq,rel];obtain⟨h1,d,J⟩:=hr;have O:=h.past _ _ d;refine⟨h1,?_,fun B=>?_⟩
  ·obtain ⟨o, M, N⟩ := O
   exact⟨o,M,N.1,fun v W=>fg _⟩
  ·have hu:e.up id=0:=by
    obtain⟨o,M,N⟩:=O;obtain⟨o2,U,V⟩:=B;rw[M]at U;cases U;have:=N.2 0 V;omega
   obtain⟨g1,g2⟩:=h.live _ _ d (by rw[hu]; exact B);rw[g2];exact J g1
theorem AE{S:Bool}{e:bP}{E E':Env}(h:rH S e E E'):∀(as:List AV) {vs:List Value},(S=true→AV.cH as=true)→af E as vs→af E' (AV.kD e as) vs
 | [],[],_,_=>by simp[AV.kD,af]
 | [],_::_,_,hr=>by simp[af]at hr
 |_::_,[],_,hr=>by simp[af]at hr
 | a::as,v::vs,d,hr=>by
  simp only[AV.cH,az]at d;simp only[af]at hr;simp only[AV.kD,af];exact⟨Fl h a (fun e=>(d e).1) hr.1,AE h as (fun e=>(d e).2) hr.2⟩
end
structure KeepIn (e:bP) (E E':Env):Prop where
 ok:∀ b,E.ju b→E'.ju b∧E'.w.heap[b]? = E.w.heap[b]?
 w:E'.w=E.w
 loc:∀ j,j<e.ids.length→E'.loc[j]? = E.loc[e.at j]?
 jZ:∀(j:Nat) o l,E'.H[j]? = some o→o.label=some l→E'.X.r l=E.X.r l
theorem KeepIn.bH{e:bP}{E E':Env}(h:KeepIn e E E'):E.bH E':=⟨h.ok⟩
structure AF (e:bP) (pU:List Nat) (E E':Env):Prop extends KeepIn e E E' where
 Zh:∀ i,i∈pU→∀ b n,E.loc[i]? = some (some (b,n))→E'.ju b
def eM{α:Type}:List α→List Nat→List α→List α
 |l,i::is,x::xs=>eM (l.set i x) is xs
 |l,_,_=>l
theorem pV{α:Type}:∀(is:List Nat) (l xs:List α),(eM l is xs).length=l.length
 | [],_,_=>by simp[eM]
 |_::_,_,[]=>by simp[eM]
 |i::is,l,x::xs=>by simp[eM,pV is]
theorem AG{α:Type}:∀(is:List Nat) (l xs:List α) (n:Nat),n∉is→(eM l is xs)[n]? = l[n]?
 | [],_,_,_,_=>by simp[eM]
 |_::_,_,[],_,_=>by simp[eM]
 | i::is,l,x::xs,n,h=>by
  simp only[bN,not_or]at h;simp only[eM];rw[AG is _ xs n h.2,aZ (Ne.symm h.1)]
theorem M3{α:Type}:∀(is:List Nat) (l xs:List α) (j i:Nat) (x:α),is.Nodup→is[j]? = some i→xs[j]? = some x→i<l.length→(eM l is xs)[i]? = some x
 | [],_,_,_,_,_,_,h,_,_=>by simp at h
 |_::_,_,[],_,_,_,_,_,h,_=>by simp at h
 | k::is,l,y::xs,0,i,x,hn,h1,d,q=>by
  simp at h1 d;subst h1; subst d;simp only[eM];have:k∉is:=(lL.1 hn).1;rw[AG is _ xs k this,List.getElem?_set_self q]
 | k::is,l,y::xs,j+1,i,x,hn,h1,d,q=>by
  simp only[eM];exact M3 is _ xs j i x (lL.1 hn).2 (by simpa using h1) (by simpa using d) (by simpa using q)
def ad.AH(e:bP)(j:Nat):ad→Bool
 |.dead=>true
 |.vec _ _ _=>true
 |_=>ab (e.up j) 0
def lf(e:bP):Nat→List ad→List ad
 |_,[]=>[]
 |j,o::os=>o.cq e j::lf e (j+1) os
def lh(e:bP):Nat→List ad→Bool
 |_,[]=>true
 |j,o::os=>o.AH e j&&lh e (j+1) os
theorem Fm(e:bP):∀(j:Nat) (os:List ad),(lf e j os).length=os.length
 |_,[]=>rfl
 |j,_::os=>by simp[lf,Fm e (j+1) os]
theorem M4(e:bP):∀(j:Nat) (os:List ad) (i:Nat),(lf e j os)[i]? = (os[i]?).map (ad.cq e (j+i))
 |_,[],i=>by simp[lf]
 |j,o::os,0=>by simp[lf]
 | j,o::os,i+1=>by
  simp only[lf,List.getElem?_cons_succ,M4 e (j+1) os i];rw[show j+1+i=j+(i+1) from by omega]
theorem M5{e:bP}:∀{j:Nat} {os:List ad} {i:Nat} {o:ad},lh e j os=true→os[i]? = some o→o.AH e (j+i)=true
 |_,[],i,_,_,h=>by simp at h
 | j,_::os,0,o,h,hi=>by
  simp only[lh,az]at h;simp at hi;subst hi;exact h.1
 | j,_::os,i+1,o,h,hi=>by
  simp only[lh,az]at h;have:=M5 h.2 (by simpa using hi)
  rwa [show j+1+i=j+(i+1) from by omega]at this
theorem wK{e:bP}{j:Nat}{o:ad}(h:o.AH e j=true)(v:Nat):(o.cq e j).aG = some v↔∃ u,o.aG = some u∧v=u+e.up j:=by
 cases o with
 |dead=>simp[ad.cq,ad.aG]
 |eo=>simp[ad.cq,ad.aG]
 |vec k u rows=>simp[ad.cq,ad.aG,eq_comm]
 | box cells =>
  have:=bk h;simp[ad.cq,ad.aG,this,eq_comm]
 | map es cl =>
  have:=bk h;simp[ad.cq,ad.aG,this,eq_comm]
 | iter s p =>
  have:=bk h;simp[ad.cq,ad.aG,this,eq_comm]
 | fh l T B s =>
  have:=bk h;simp[ad.cq,ad.aG,this,eq_comm]
 | aX l k es cl =>
  have:=bk h;simp[ad.cq,ad.aG,this,eq_comm]
 | mm l es ms cl =>
  have:=bk h;simp[ad.cq,ad.aG,this,eq_comm]
theorem M6(e:bP)(j:Nat)(o:ad):(o.cq e j).born=o.born:=by cases o<;>rfl
theorem M7(e:bP)(j:Nat)(o:ad):(o.cq e j).label=o.label:=by cases o<;>rfl
theorem Zi(e:bP)(j:Nat)(o:ad):(o.cq e j).dy=o.dy:=by cases o<;>rfl
theorem M8{k:AV}(h:k.bK=true):(fP k).1.bK=true∧(fP k).2.bK=true:=by
 unfold fP;split
 ·simpa only[AV.bK,AV.cH,eS,az]using h
 ·exact⟨h,rfl⟩
def ad.bK:ad→Bool
 |.box cells=>AV.cH cells
 |.vec _ _ rows=>rows.all fun r=>AV.cH r
 |.map es _=>es.all fun x=>x.1.bK&&x.2.1.bK
 | .aX _ _ es _=>es.all fun x=>x.1.bK&&(match x.2.1 with
  |some rows=>rows.all fun r=>AV.cH r
  |none=>true)
 |.mm _ es ms _=>(es.all fun x=>x.1.bK)&&ms.all fun m=>m.1.all fun x=>x.1.bK&&x.2.1.bK
 |_=>true
theorem M9{S:Bool}{e:bP}{E E':Env}(h:rH S e E E'){b:Nat}(hb:E'.w.heap[b]? = E.w.heap[b]?):∀(as:List AV) {o:Nat},(S=true→AV.cH as=true)→cw E as b o→cw E' (AV.kD e as) b o
 | [],_,_,_=>by simp[AV.kD,cw]
 | a::as,o,d,hr=>by
  simp only[AV.cH,az]at d;simp only[cw]at hr;simp only[AV.kD,cw];obtain⟨⟨v,h1,k,q⟩,B⟩:=hr;exact⟨⟨v,by rw[World.sH hb]; exact h1,k,Fl h a (fun e=>(d e).1) q⟩,M9 h hb as (fun e=>(d e).2) B⟩
mutual
theorem AI{E E':Env}:∀(a:AV) {c:Value},a.closed=true→a.bK=true→rel E a c→rel E' a c
 |.undef,_,_,_,_=>by simp[rel]
 |.lit v,c,_,_,hr=>by simpa only[rel]using hr
 |.nils,c,_,_,hr=>by simpa only[rel]using hr
 |.ifc,c,_,_,hr=>by simpa only[rel]using hr
 |.emptyS n,c,_,_,hr=>by simpa only[rel]using hr
 |.list ..,_,_,h,_ | .listF ..,_,_,h,_ | .cptr _,_,_,h,_=>by simp[AV.bK]at h
 |.ptr ..,_,h,_,_ | .vec ..,_,h,_,_ | .map _,_,h,_,_=>by simp[AV.closed]at h
 | .agg cells,c,d,k,hr=>by
  simp only[rel]at hr⊢;obtain⟨cs,e,h1,q⟩:=hr;exact⟨cs,e,h1,AJ cells (by simpa only[AV.closed]using d) (by simpa only[AV.bK]using k) q⟩
 | .tuple cells,c,d,k,hr=>by
  simp only[rel]at hr⊢;obtain⟨cs,e,q⟩:=hr;exact⟨cs,e,AJ cells (by simpa only[AV.closed]using d) (by simpa only[AV.bK]using k) q⟩
 | .clo f cells,c,d,k,hr=>by
  simp only[rel]at hr⊢;obtain⟨cs,e,q⟩:=hr;exact⟨cs,e,AJ cells (by simpa only[AV.closed]using d) (by simpa only[AV.bK]using k) q⟩
theorem AJ{E E':Env}:∀(as:List AV) {vs:List Value},AV.br as=true→AV.cH as=true→af E as vs→af E' as vs
 | [],[],_,_,_=>by simp[af]
 | [],_::_,_,_,hr=>by simp[af]at hr
 |_::_,[],_,_,hr=>by simp[af]at hr
 | a::as,v::vs,d,k,hr=>by
  simp only[AV.br,AV.cH,az]at d k;simp only[af]at hr⊢;exact⟨AI a d.1 k.1 hr.1,AJ as d.2 k.2 hr.2⟩
end
theorem M_{E E':Env}{b:Nat}(hb:E'.w.heap[b]? = E.w.heap[b]?):∀(as:List AV) {o:Nat},AV.br as=true→AV.cH as=true→cw E as b o→cw E' as b o
 | [],_,_,_,_=>by simp[cw]
 | a::as,o,d,k,hr=>by
  simp only[AV.br,AV.cH,az]at d k;simp only[cw]at hr⊢;obtain⟨⟨v,h1,q,B⟩,I⟩:=hr;exact⟨⟨v,by rw[World.sH hb]; exact h1,q,AI a d.1 k.1 B⟩,M_ hb as d.2 k.2 I⟩
theorem Fo{E E':Env}{b k:Nat}(hb:E'.w.heap[b]? = E.w.heap[b]?):∀(rs:List (List AV)) {o:Nat},ft rs→(rs.all fun r=>AV.cH r)=true→cL E k rs b o→cL E' k rs b o
 | [],_,_,_,_=>by simp[cL]
 | r::rs,o,q,d,hr=>by
  simp only[lJ,az]at d;simp only[cL]at hr⊢;exact⟨hr.1,M_ hb r (q r cU) d.1 hr.2.1,Fo hb rs (fun x B=>q x (dw _ B)) d.2 hr.2.2⟩
theorem wL{E E':Env}:∀{es:List (AV × AV × Nat)} {ms:List MapEntry},(es.all fun x=>x.1.bK&&x.2.1.bK)=true→bD E es ms→bD E' es ms
 | [],[],_,_=>by simp[bD]
 | (k,v,n)::es,e::ms,d,hr=>by
  simp only[lJ,az]at d;simp only[bD]at hr⊢;obtain⟨h1,I,J,q,B,M⟩:=hr;exact⟨AI k q d.1.1 h1,AI v B d.1.2 I,J,q,B,wL d.2 M⟩
 | [],_::_,_,hr=>by simp[bD]at hr
 |_::_,[],_,hr=>by simp[bD]at hr
theorem jC{E E':Env}(h:E.bH E'):∀{es:List (AV × AV × Nat)} {ms:List MapEntry},bD E es ms→bD E' es ms
 | [],[],_=>by simp[bD]
 | (k,v,n)::es,e::ms,hr=>by
  simp only[bD]at hr⊢;obtain⟨h1,B,I,d,q,J⟩:=hr;exact⟨dZ h k d h1,dZ h v q B,I,d,q,jC h J⟩
 | [],_::_,hr=>by simp[bD]at hr
 |_::_,[],hr=>by simp[bD]at hr
theorem Zj{S:Bool}{e:bP}{E E':Env}(h:rH S e E E'){j:Nat}{o:ad}(V:S=true→o.bK=true)(M:E'.loc[e.at j]? = E.loc[j]?) (hb:∀ b n,E.loc[j]? = some (some (b,n))→E'.w.heap[b]? = E.w.heap[b]?)
  (hg:∀ l,o.label=some l→E'.X.r l=E.X.r l∧∀(h g m:Nat),(E.X.r l)[h]? = some (some (some (g,m)))→E'.w.heap[g]? = E.w.heap[g]?)
  (ho:aN E j o):aN E' (e.at j) (o.cq e j):=by
 cases o with
 |dead=>simp only[ad.cq,aN]at *; rw[M]; exact ho
 |eo=>simp only[ad.cq,aN]at *; rw[M]; exact ho
 | box cells =>
  simp only[ad.cq,aN]at *;obtain⟨b,n,h1,d,I⟩:=ho;exact⟨b,n,by rw[M,h1],by rw[M2]; exact sJ (hb b n h1) d,M9 h (hb b n h1) cells (fun e=>by simpa only[ad.bK]using V e) I⟩
 | vec k ae rows =>
  simp only[ad.cq,aN]at *;rcases ho with⟨h1,d⟩|⟨b,m,h1,d,I,N,J⟩
  ·exact .inl ⟨by rw[M,h1],d⟩
  ·refine .inr ⟨b, m, by rw [M, h1], sJ (hb b m h1) d, I, N, ?_⟩
   cases S with
   |true=>exact Fo (hb b m h1) rows N (by simpa only[ad.bK]using V rfl) J
   |false=>exact lQ h.bH rows N (hb b m h1) J
 | map es clock =>
  simp only[ad.cq,aN]at *;obtain⟨b,n,ms,h1,d,I⟩:=ho;refine⟨b,n,ms,by rw[M,h1],by rw[hb b n h1,d],?_⟩;cases S with
  |true=>exact wL (by simpa only[ad.bK]using V rfl) I
  |false=>exact jC h.bH I
 | iter s pos =>
  simp only[ad.cq,aN]at *;obtain⟨b,n,h1,d⟩:=ho;exact⟨b,n,by rw[M,h1],by rw[hb b n h1,d]⟩
 | fh l T B s =>
  simp only[ad.cq,aN]at *;obtain⟨b,n,p,v,k,q,h1,d,I,N,J,h6⟩:=ho;obtain⟨g1,g2⟩:=hg l rfl;exact⟨b,n,p,v,k,q,by rw[M,h1],by rw[hb b n h1,d],I,by rw[g1,N],by rw[g1]; exact J,Du (fun g m e=>g2 k g m (by rw[N,e])) h6⟩
 | aX l k es clock =>
  simp only[ad.cq,aN]at *;obtain⟨b,n,ms,h1,d,I,N⟩:=ho;obtain⟨g1,g2⟩:=hg l rfl;have U:S=true→∀ x∈es,x.1.bK=true∧∀ rows,x.2.1=some rows→(rows.all fun r=>AV.cH r)=true:=fun e x O=>by
   have J:=dB.1 (by simpa only[ad.bK]using V e) x O;simp only[az]at J;exact⟨J.1,fun rows hr=>by rw[hr]at J; exact J.2⟩
  refine⟨b,n,ms,by rw[M,h1],by rw[hb b n h1,d],?_,vA (fun h g m hk=>⟨by rw[g1]; exact hk,g2 h g m hk⟩) (fun i x rows hi O b hb2 hc hr=>?_) N⟩
  ·cases S with
   | true =>
    refine wL (dB.2 fun x O=>?_) I;obtain⟨y,W,rfl⟩:=cF.1 O;simp[(M8 (U rfl y W).1).1,(M8 (U rfl y W).1).2]
   |false=>exact jC h.bH I
  ·cases S with
   |true=>exact Fo hb2 rows hc ((U rfl x (eZ hi)).2 rows O) hr
   |false=>exact lQ h.bH rows hc hb2 hr
 | mm l es ms clock =>
  simp only[ad.cq,aN]at *;obtain⟨b,n,mes,h1,d,I,N⟩:=ho;obtain⟨g1,g2⟩:=hg l rfl;have U:S=true→(es.all fun x=>x.1.bK)=true∧∀ m∈ms,(m.1.all fun x=>x.1.bK&&x.2.1.bK)=true:=fun e=>by
   have J:=V e;simp only[ad.bK,az]at J;exact⟨J.1,dB.1 J.2⟩
  refine⟨b,n,mes,by rw[M,h1],by rw[hb b n h1,d],?_,Dx g1 g2 (fun m hm q hq=>?_) N⟩
  ·cases S with
   | true =>
    refine wL (dB.2 fun x O=>?_) I;obtain⟨y,W,rfl⟩:=cF.1 O;simp[dB.1 (U rfl).1 y W,AV.bK]
   |false=>exact jC h.bH I
  ·cases S with
   |true=>exact wL ((U rfl).2 m hm) hq
   |false=>exact jC h.bH hq
def pW(e:bP)(H H1:List ad):List ad:=eM H e.ids (lf e 0 H1)++(lf e 0 H1).drop e.ids.length
theorem il{e:bP}{j:Nat}(h:j<e.ids.length):e.ids[j]? = some (e.at j):=by
 simp[bP.at,h]
theorem tN{e:bP}{j:Nat}(h:e.ids.length≤j):e.at j=e.base+(j-e.ids.length):=by
 simp[bP.at,List.getElem?_eq_none h]
theorem M'{α:Type}{e:bP}{H xs:List α}(hn:e.ids.Nodup)(d:∀ j,j<e.ids.length→e.at j<H.length)(hb:e.base=H.length)(q:e.ids.length≤xs.length)(j:Nat) :
  (eM H e.ids xs++xs.drop e.ids.length)[e.at j]? = xs[j]? := by
 rcases kg j e.ids.length with h|h
 ·rw [cT (by rw [pV]; exact d j h)]
  have k:j<xs.length:=dP h q;rw[M3 e.ids H xs j (e.at j) xs[j] hn (il h) (bf k) (d j h),bf k]
 ·rw [tN h, hb, iM (by rw [pV]; omega), pV, qG]
  congr 1;omega
theorem Fp{α:Type}{e:bP}{H xs:List α}{i:Nat}(hi:i∉e.ids)(d:i<H.length):(eM H e.ids xs++xs.drop e.ids.length)[i]? = H[i]? := by
 rw[cT (by rw[pV]; exact d),AG e.ids H xs i hi]
theorem pX{α:Type}{e:bP}{H xs:List α}{i:Nat}{x:α}(hb:e.base=H.length)(h:(eM H e.ids xs++xs.drop e.ids.length)[i]? = some x) :
  (i∉e.ids∧i<H.length∧H[i]? = some x)∨∃ j,i=e.at j:=by
 by_cases hm:i∈e.ids
 ·right
  obtain⟨j,k,rfl⟩:=mC hm;refine⟨j,?_⟩;have:=il k;rw[bf k]at this;exact(gY this)
 ·rcases kg i H.length with d | q
  ·left
   exact⟨hm,d,by rw[Fp hm d]at h; exact h⟩
  ·right
   refine⟨e.ids.length+(i-H.length),?_⟩;rw[tN (by omega)];omega
theorem frame(S:Bool)(pU:List Nat){P:Program}{f:FuncId}{args:List AV}{H0 H1 H:List ad}{v:AV}{e:bP}(hc:dC P f args H0 v H1)(hk:e.ids.length=H0.length)(hb:e.base=H.length)(hn:e.ids.Nodup)
  (hver:∀ j o,H0[j]? = some o→∃ o',H[e.at j]? = some o'∧o.born=true∧∀ v,o'.aG = some v↔∃ u,o.aG = some u∧v=u+e.up j)
  (hobj:∀ E E0,E.H=H→aq E→AF e pU E E0→E0.H=H0→∀ j o,H0[j]? = some o→aN E0 j o) (hu1:lh e 0 H1=true) (hl1:H0.length≤H1.length) (hlent:S=false→pU=[])
  (hSv:S=true→v.bK=true) (hSo:S=true→(H1.all ad.bK)=true) (hdis:∀ i,i∈pU→i∉e.ids)
  (hlab:∀(j:Nat) o o',H0[j]? = some o→H[e.at j]? = some o'→o'.label=o.label) (hlab1:∀(j:Nat) o l,H1[j]? = some o→o.label=some l→∃ o0,H0[j]? = some o0∧o0.label=some l)
  (hlabm:∀(j:Nat) o o',H0[j]? = some o→H[e.at j]? = some o'→o'.dy=o.dy) {args0:List AV}
  (hargs0:∀ E E0 cs,E.H=H→aq E→AF e pU E E0→E0.H=H0→af E args0 cs→af E0 args cs) :
  dC P f args0 H (v.cq e) (pW e H H1):=by
 intro E cargs N HE hargs;have hElen:E.loc.length=H.length:=by rw[HE.len,N]
 have hat:∀ j,j<e.ids.length→e.at j<H.length:=fun j I=>by
  have hj':j<H0.length:=by omega
  obtain⟨o',h1,_⟩:=hver j H0[j] (bf hj');exact aK h1
 have hmem:∀ j,j<e.ids.length→e.at j∈e.ids:=fun j I=>eZ (il I)
 let pl:Nat→Prop:=fun l=>∃(j:Nat) (o:ad),H0[j]? = some o∧o.label=some l
 have:DecidablePred pl:=fun l=>Classical.propDecidable (pl l)
 let r0:Nat→List (Option (Option (Nat × Nat))):=fun l=>if pl l then E.X.r l else []
 have r0p:∀ l,pl l→r0 l=E.X.r l:=fun l h=>if_pos h;have r0n:∀ l (h:Nat) q,(r0 l)[h]? = some q→pl l∧(E.X.r l)[h]? = some q:=fun l h q hq=>by
  by_cases B:pl l
  ·rw[r0p l B]at hq; exact⟨B,hq⟩
  ·rw[show r0 l=[] from if_neg B]at hq; simp at hq
 let X0:XS:=⟨fun b=>E.X b∨(∃ i c,i∉e.ids∧i∉pU∧E.loc[i]? = some (some (b,c)))∨∃(l h m:Nat),¬ pl l∧(E.X.r l)[h]? = some (some (some (b,m))),E.X.z,r0⟩
 let loc0:List (Option (Nat × Nat)):=e.ids.map fun i=>E.loc.getD i none
 let E0:Env:={ w:=E.w,H:=H0,loc:=loc0,X:=X0 }
 have hloc0:∀ j,j<e.ids.length→loc0[j]? = E.loc[e.at j]? := fun j I=>by
  simp only[loc0,bU,il I,eg];have:e.at j<E.loc.length:=by rw[hElen]; exact hat j I
  rw[bz,bf this];rfl
 have hlen0:loc0.length=e.ids.length:=by simp[loc0]
 have hpast:∀ j ae,E.past (e.at j) ae→j<e.ids.length:=by
  rintro j ae ⟨o,ho,_⟩;rcases kg j e.ids.length with h|h
  ·exact h
  ·have := aK ho
   rw[N,tN h,hb]at this;omega
 have hobj0:∀ j,j<e.ids.length→∃ o o',H0[j]? = some o∧E.H[e.at j]? = some o'∧o.born=true∧∀ v,o'.aG = some v↔∃ u,o.aG = some u∧v=u+e.up j:=fun j I=>by
  have hj':j<H0.length:=by omega
  obtain⟨o',h1,d⟩:=hver j H0[j] (bf hj');exact⟨H0[j],o',bf hj',by rw[N]; exact h1,d⟩
 have hown0:∀ b,E0.own b→E.own b:=by
  rintro b (⟨id,c,hid⟩|⟨l,k,c,M⟩)
  case inr=>exact .inr ⟨l,k,c,(r0n l k _ M).2⟩
  have J:=aK hid;rw[show E0.loc=loc0 from rfl]at hid J;rw[hlen0]at J;rw[hloc0 id J]at hid;exact .inl ⟨_,c,hid⟩
 have hin:KeepIn e E E0:=by
  refine⟨fun b hbk=>⟨⟨hbk.1,fun ho=>hbk.2.1 (hown0 b ho),?_⟩,rfl⟩,rfl,hloc0,fun j o l h1 d=>r0p l ⟨j,o,h1,d⟩⟩;rintro(O|⟨i,c,_,_,hi⟩|⟨l,k,c,_,M⟩)
  ·exact hbk.2.2 O
  ·exact hbk.2.1 (.inl ⟨i,c,hi⟩)
  ·exact hbk.2.1 (.inr ⟨l,k,c,M⟩)
 have hpin:∀ j ae,E.past (e.at j) (ae+e.up j)→E0.past j ae:=fun j ae B=>by
  obtain⟨o,oo,h1,d,U,h3⟩:=hobj0 j (hpast j _ B);obtain⟨o',h4,h5⟩:=B;rw[d]at h4;cases h4;refine⟨o,h1,U,fun v hv=>?_⟩;have:=h5.2 (v+e.up j) ((h3 _).2 ⟨v,hv,rfl⟩);omega
 have hout0:∀ i b n,i∉e.ids→E.loc[i]? = some (some (b,n))→¬ E0.own b:=by
  rintro i b n hi U (⟨id,c',hid⟩|⟨l,k,c,M⟩)
  case inr=>exact HE.cY _ _ _ _ _ _ U (r0n l k _ M).2
  have J:=aK hid;rw[show E0.loc=loc0 from rfl]at hid J;rw[hlen0]at J;rw[hloc0 id J]at hid;have:=HE.inj _ _ _ _ _ U hid;exact hi (this▸hmem id J)
 have hlin:AF e pU E E0:=by
  refine⟨hin,fun i hi b n U=>⟨(HE.lt _ _ _ U).1,hout0 i b n (hdis i hi) U,?_⟩⟩;rintro(O|⟨V,c,_,d,hi'⟩|⟨l,k,c,_,M⟩)
  ·exact(HE.lt _ _ _ U).2 O
  ·have := HE.inj _ _ _ _ _ hi' U
   exact d (this▸hi)
  ·exact HE.cY _ _ _ _ _ _ U M
 have HE0:aq E0:=by
  have conv:∀{j:Nat} {x:Option (Nat × Nat)},loc0[j]? = some x→j<e.ids.length∧E.loc[e.at j]? = some x:=by
   intro j x O;have J:=aK O;rw[hlen0]at J;exact⟨J,by rw[←hloc0 j J]; exact O⟩
  refine⟨by rw[show E0.loc=loc0 from rfl,hlen0,hk],?_,?_,?_,?_,HE.fH.bH hin.bH,fun l k l' k' b m n h1 d=>HE.e9 l k l' k' b m n (r0n l k _ h1).2 (r0n l' k' _ d).2,fun i b m l k n hi d=>HE.cY _ b m l k n (conv hi).2 (r0n l k _ d).2,?_,?_,?_⟩
  ·intro i j b m n hi I
   obtain⟨i1,i2⟩:=conv hi
   obtain⟨j1,j2⟩:=conv I
   have:=HE.inj _ _ _ _ _ i2 j2;exact(Db i1 hn).1 (by rw[il i1,il j1,this])
  ·intro i b m hi
   obtain⟨i1,i2⟩:=conv hi
   refine⟨(HE.lt _ _ _ i2).1,?_⟩;rintro(O|⟨V,c,hni,_,hi'⟩|⟨l,k,c,_,M⟩)
   ·exact(HE.lt _ _ _ i2).2 O
   ·have := HE.inj _ _ _ _ _ hi' i2
    exact hni (this▸hmem i i1)
   ·exact HE.cY _ _ _ _ _ _ i2 M
  ·rintro b (O | ⟨V, c, _, _, hi'⟩ | ⟨l, k, c, _, M⟩)
   ·exact HE.X b O
   ·exact(HE.lt _ _ _ hi').1
   ·exact(HE.ct _ _ _ _ M).1
  ·intro j o ho
   have I:j<e.ids.length:=by rw[hk]; exact aK ho
   exact hobj E E0 N HE hlin rfl j o ho
  ·intro l k b m h1
   obtain⟨B,d⟩:=r0n l k _ h1;refine⟨(HE.ct _ _ _ _ d).1,?_⟩;rintro(O|⟨V,c,_,_,hi'⟩|⟨l',k',c,hnp,M⟩)
   ·exact(HE.ct _ _ _ _ d).2 O
   ·exact HE.cY _ _ _ _ _ _ hi' d
   ·exact hnp ((HE.e9 _ _ _ _ _ _ _ d M).1▸B)
  ·intro i j o o' l hi I h1 d
   have i1:i<e.ids.length:=by rw[hk]; exact aK hi
   have j1:j<e.ids.length:=by rw[hk]; exact aK I
   obtain⟨_,oi,W,a2,_⟩:=hobj0 i i1;obtain⟨_,oj,b1,b2,_⟩:=hobj0 j j1;have ei:=hlab i o oi hi (by rw[←N]; exact a2);have ej:=hlab j o' oj I (by rw[←N]; exact b2);have:=HE.uniq _ _ _ _ l a2 b2 (by rw[ei,h1]) (by rw[ej,d]);exact(Db i1 hn).1 (by rw[il i1,il j1,this])
  ·intro l hnl k q hq
   obtain⟨⟨j,o,h1,d⟩,_⟩:=r0n l k _ hq;exact hnl j o h1 d
 refine(hc E0 cargs rfl HE0 (hargs0 E E0 _ N HE hlin rfl hargs)).mono ?_;rintro _ w' ⟨c,v',H',rfl,⟨rfl,rfl⟩,loc1,r1,g1,g2,g3⟩
 let r':Nat→List (Option (Option (Nat × Nat))):=fun l=>if pl l then r1 l else E.X.r l
 have rp:∀ l,pl l→r' l=r1 l:=fun l h=>if_pos h;have rn:∀ l,¬ pl l→r' l=E.X.r l:=fun l h=>if_neg h;have hl1':e.ids.length≤H'.length:=by omega
 have hlen1:loc1.length=H'.length:=g2.len;have hbL:e.base=E.loc.length:=by rw[hElen]; exact hb
 have hbE:e.base=E.H.length:=by rw[N]; exact hb
 let loc':List (Option (Nat × Nat)):=eM E.loc e.ids loc1++loc1.drop e.ids.length
 let E1:Env:={ w:=w',H:=H',loc:=loc1,X:=X0.re r1 }
 let E':Env:={ w:=w',H:=pW e H H',loc:=loc',X:=E.X.re r' }
 have Hin:∀ j,E'.H[e.at j]? = (H'[j]?).map (ad.cq e j):=fun j=>by
  have:=M' (e:=e) (H:=H) (xs:=lf e 0 H') hn hat hb (by rw[Fm]; exact hl1') j;rw[M4,di]at this;exact this
 have fk:∀ j,E'.loc[e.at j]? = loc1[j]? := fun j =>
  M' (e:=e) (H:=E.loc) (xs:=loc1) hn (fun j I=>by rw[hElen]; exact hat j I) hbL (by rw[hlen1]; exact hl1') j
 have Hout:∀ i,i∉e.ids→i<H.length→E'.H[i]? = E.H[i]? := fun i hi J=>by
  rw[N];exact Fp (e:=e) hi J
 have Lout:∀ i,i∉e.ids→i<H.length→E'.loc[i]? = E.loc[i]? := fun i hi J=>Fp (e:=e) hi (by rw[hElen]; exact J);have hu1':∀(j:Nat) (o:ad),H'[j]? = some o→o.AH e j=true:=fun j o ho=>by
  have:=M5 hu1 ho
  rwa [di]at this
 have own':∀ b,E'.own b→E1.own b∨(∃ i c,i∉e.ids∧E.loc[i]? = some (some (b,c)))∨∃(l h m:Nat),¬ pl l∧(E.X.r l)[h]? = some (some (some (b,m))):=by
  rintro b (⟨i,c,hi⟩|⟨l,k,c,M⟩)
  ·rcases pX (e := e) hbL hi with ⟨h1, _, h3⟩ | ⟨j, rfl⟩
   ·exact .inr (.inl ⟨i,c,h1,h3⟩)
   ·rw [fk j] at hi
    exact .inl (.inl ⟨j,c,hi⟩)
  ·have M : (r' l)[k]? = some (some (some (b, c))) := M
   by_cases B:pl l
   ·rw [rp l B] at M
    exact .inl (.inr ⟨l,k,c,M⟩)
   ·rw [rn l B] at M
    exact .inr (.inr ⟨l,k,c,B,M⟩)
 have hout:rH S e E1 E':=by
  refine⟨fun hS b hbk=>⟨⟨hbk.1,fun ho=>?_,fun O=>hbk.2.2 (Or.inl O)⟩,rfl⟩,fun j ae B=>?_,fun j ae B hl=>?_⟩
  ·rcases own' b ho with h | ⟨i, c, h1, d⟩ | h
   ·exact hbk.2.1 h
   ·exact hbk.2.2 (Or.inr (.inl ⟨i,c,h1,by rw[hlent hS]; exact List.not_mem_nil,d⟩))
   ·exact hbk.2.2 (Or.inr (.inr h))
  ·obtain ⟨o, h1, d⟩ := B
   refine⟨o.cq e j,by rw[Hin j,show H'[j]? = some o from h1]; rfl,by rw[M6]; exact d.1,fun v hv=>?_⟩;obtain⟨u,q1,rfl⟩:=(wK (hu1' j o h1) v).1 hv;have:=d.2 u q1;omega
  ·obtain ⟨o', h1, d⟩ := hl
   rw[Hin j]at h1;obtain⟨o,h3,rfl⟩:=ef.1 h1;obtain⟨u,q1,q2⟩:=(wK (hu1' j o h3) _).1 d;have:u=ae:=by omega
   subst this;exact⟨⟨o,h3,q1⟩,fk j⟩
 have hle:E.le E':=by
  refine⟨fun i ae B=>?_,g3.size,fun b J ho=>g3.same b J (fun h=>ho (hown0 b h)),fun b J ho h'=>?_,fun i ae B hl=>?_,⟨rfl,rfl⟩,fun l k M=>?_,g3.env,fun i l o h1 d hv=>?_⟩
  rotate_right
  ·by_cases hi : i ∈ e.ids
   ·obtain ⟨j, I, rfl⟩ := mC hi
    have hat':e.ids[j]=e.at j:=by
     have:=il I;rw[bf I]at this;exact gY this
    rw[hat']at h1 hv⊢;obtain⟨o0,oo,k1,k2,U,k3⟩:=hobj0 j I;have em:o.dy=o0.dy:=hlabm j o0 o k1 (by rw[←N]; exact h1);have hl0:o0.label=some l:=ad.lO (by rw[←em]; exact d);have B:pl l:=⟨j,o0,k1,hl0⟩
    obtain⟨o',w1,w2⟩:=hv;rw[Hin j]at w1;obtain⟨o1,r3,rfl⟩:=ef.1 w1;obtain⟨u,q1,q2⟩:=(wK (hu1' j o1 r3) _).1 w2;have hu:u=0:=by omega
    subst hu;obtain⟨⟨t,ht⟩,o2,s1,s2⟩:=g3.grow j l o0 k1 (by rw[←em]; exact d) ⟨o1,r3,q1⟩;have ht':r1 l=E.X.r l++t:=by
     rw[←r0p l B];exact ht
    refine⟨⟨t,by rw[show E'.X.r l=r' l from rfl,rp l B]; exact ht'⟩,o2.cq e j,?_,by rw[Zi]; exact s2⟩;rw[Hin j,show H'[j]? = some o2 from s1];rfl
   ·have J := aK h1
    rw[N]at J;have hnp:¬ pl l:=by
     rintro⟨j,o0,W,a2⟩;have j1:j<e.ids.length:=by rw[hk]; exact aK W
     obtain⟨_,oj,b1,b2,_⟩:=hobj0 j j1;have h3:=HE.uniq _ _ _ _ l h1 b2 (ad.lO d) (by rw[hlab j o0 oj W (by rw[←N]; exact b2),a2]);exact hi (h3▸hmem j j1)
    exact⟨⟨[],by rw[List.append_nil,show E'.X.r l=r' l from rfl,rn l hnp]⟩,o,by rw[Hout i hi J]; exact h1,d⟩
  ·by_cases hi : i ∈ e.ids
   ·obtain ⟨j, I, rfl⟩ := mC hi
    have hat':e.ids[j]=e.at j:=by
     have:=il I;rw[bf I]at this;exact gY this
    rw[hat']at B⊢;obtain⟨o0,oo,h1,d,U,h3⟩:=hobj0 j I;obtain⟨o,h4,h5⟩:=B;rw[d]at h4;cases h4;have hj1:j<H'.length:=by omega
    have hbn':H'[j].born=true:=by
     have p0:E0.past j 0:=⟨o0,h1,U,fun v _=>fg v⟩
     obtain⟨o2,r1,r2⟩:=g3.past j _ p0;rw[show E1.H=H' from rfl,bf hj1]at r1;cases r1;exact r2.1
    refine⟨H'[j].cq e j,by rw[Hin j,bf hj1]; rfl,by rw[M6]; exact hbn',fun v hv=>?_⟩;obtain⟨u,q1,rfl⟩:=(wK (hu1' j _ (bf hj1)) v).1 hv;cases hz:o0.aG with
    | none =>
     have p0:E0.past j (u+1):=⟨o0,h1,U,fun v hv=>by rw[hz]at hv; cases hv⟩
     obtain⟨o2,r1,r2⟩:=g3.past j _ p0;rw[show E1.H=H' from rfl,bf hj1]at r1;cases r1;have:=r2.2 u q1;omega
    | some u0 =>
     have p0:E0.past j u0:=⟨o0,h1,U,fun v hv=>by rw[hz]at hv; cases hv; exact aD _⟩
     obtain⟨o2,r1,r2⟩:=g3.past j _ p0;rw[show E1.H=H' from rfl,bf hj1]at r1;cases r1;have:=r2.2 u q1;have:=h5.2 (u0+e.up j) ((h3 _).2 ⟨u0,hz,rfl⟩);omega
   ·obtain ⟨o, h1, d⟩ := B
    have J:=aK h1;rw[N]at J;exact⟨o,by rw[Hout i hi J]; exact h1,d⟩
  ·rcases own' b h' with h | ⟨i, c, _, d⟩ | ⟨l, k, c, _, d⟩
   ·exact g3.own b J (fun h=>ho (hown0 b h)) h
   ·exact ho (.inl ⟨i,c,d⟩)
   ·exact ho (.inr ⟨l,k,c,d⟩)
  ·have J:i<H.length:=by
    obtain⟨o,h1,_⟩:=B;have:=aK h1
    rwa [N]at this
   by_cases hi:i∈e.ids
   ·obtain ⟨j, I, rfl⟩ := mC hi
    have hat':e.ids[j]=e.at j:=by
     have:=il I;rw[bf I]at this;exact gY this
    rw[hat']at B hl⊢;obtain⟨o',r1,r2⟩:=hl;rw[Hin j]at r1;obtain⟨o1,r3,rfl⟩:=ef.1 r1;obtain⟨u,q1,rfl⟩:=(wK (hu1' j o1 r3) _).1 r2;have p0:=hpin j u B;obtain⟨⟨o0,s1,s2⟩,s3⟩:=g3.live j u p0 ⟨o1,r3,q1⟩;obtain⟨o0',oo,h1,d,U,h3⟩:=hobj0 j I;rw[show E0.H=H0 from rfl,h1]at s1;cases s1;refine⟨⟨_,d,(h3 _).2 ⟨u,s2,rfl⟩⟩,?_⟩;rw[fk j,←hloc0 j I];exact s3
   ·obtain ⟨o', r1, r2⟩ := hl
    rw[Hout i hi J]at r1;exact⟨⟨o',r1,r2⟩,Lout i hi J⟩
  ·by_cases B : pl l
   ·have := g3.rl l k (by show k < (r0 l).length; rw [r0p l B]; exact M)
    rw[show E0.X.r l=r0 l from rfl,r0p l B]at this;rw[show E'.X.r l=r' l from rfl,rp l B];exact this
   ·rw [show E'.X.r l = r' l from rfl, rn l B]
    exact⟨M,fun _ hq=>hq⟩
 have lab':∀(j:Nat) o l,H'[j]? = some o→o.label=some l→pl l:=fun j o l h1 d=>by
  obtain⟨o0,W,a2⟩:=hlab1 j o l h1 d;exact⟨j,o0,W,a2⟩
 have labIn:∀(j:Nat) o l,H0[j]? = some o→o.label=some l→∃ o',E.H[e.at j]? = some o'∧o'.label=some l∧e.at j∈e.ids:=fun j o l h1 d=>by
  have j1:j<e.ids.length:=by rw[hk]; exact aK h1
  obtain⟨_,oj,b1,b2,_⟩:=hobj0 j j1;exact⟨oj,b2,by rw[hlab j o oj h1 (by rw[←N]; exact b2),d],hmem j j1⟩
 have labOut:∀(i:Nat) o l,i∉e.ids→E.H[i]? = some o→o.label=some l→¬ pl l:=fun i o l hi h1 d ⟨j,o0,W,a2⟩=>by
  obtain⟨o',b1,b2,b3⟩:=labIn j o0 l W a2;have:=HE.uniq _ _ _ _ l h1 b1 d b2;exact hi (this▸b3)
 have satOut:∀(l k b m:Nat),¬ pl l→(E.X.r l)[k]? = some (some (some (b,m)))→¬ E0.own b:=by
  rintro l k b m B h1 (⟨id,c',hid⟩|⟨l',k',c,M⟩)
  ·have J := aK hid
   rw[show E0.loc=loc0 from rfl]at hid J;rw[hlen0]at J;rw[hloc0 id J]at hid;exact HE.cY _ _ _ _ _ _ hid h1
  ·obtain ⟨q1, q2⟩ := r0n l' k' _ M
   exact B ((HE.e9 _ _ _ _ _ _ _ h1 q2).1▸q1)
 refine⟨c,_,_,rfl,⟨rfl,rfl⟩,loc',r',Fl hout v' hSv g1,?_,hle⟩;refine⟨?_,?_,?_,fun b O=>dP (HE.X b O) g3.size,?_,HE.fH.bH hle.toC,?_,?_,?_,?_,?_⟩
 ·simp only[loc',pW,eD,pV,List.length_drop,Fm,hElen,hlen1]
 ·intro i j b m n hi I
  rcases pX (e:=e) hbL hi with⟨i1,_,i3⟩|⟨V,rfl⟩<;>rcases pX (e:=e) hbL I with⟨j1,_,j3⟩|⟨j',rfl⟩
  ·exact HE.inj _ _ _ _ _ i3 j3
  ·rw [fk j'] at I
   exact(g3.own b (HE.lt _ _ _ i3).1 (hout0 i b m i1 i3) (.inl ⟨j',n,I⟩)).elim
  ·rw [fk V] at hi
   exact(g3.own b (HE.lt _ _ _ j3).1 (hout0 j b n j1 j3) (.inl ⟨V,m,hi⟩)).elim
  ·rw [fk V] at hi
   rw[fk j']at I;rw[g2.inj _ _ _ _ _ hi I]
 ·intro i b m hi
  rcases pX (e:=e) hbL hi with⟨i1,_,i3⟩|⟨V,rfl⟩
  ·exact⟨dP (HE.lt _ _ _ i3).1 g3.size,(HE.lt _ _ _ i3).2⟩
  ·rw [fk V] at hi
   exact⟨(g2.lt _ _ _ hi).1,fun O=>(g2.lt _ _ _ hi).2 (Or.inl O)⟩
 ·intro i o hi
  have hi':=hi;unfold pW at hi';rcases pX (e:=e) hb hi' with⟨i1,i2,i3⟩|⟨j,rfl⟩
  ·refine kT (E := E) (fun a _ hr => bI hle a hr) (Lout i i1 i2) (fun b n U => ?_) (fun l hl => ?_) (HE.obj i o (by rw [N]; exact i3))
   ·exact g3.same b (HE.lt _ _ _ U).1 (hout0 i b n i1 U)
   ·have B := labOut i o l i1 (by rw [N]; exact i3) hl
    exact⟨rn l B,fun k g m h1=>g3.same g (HE.ct _ _ _ _ h1).1 (satOut l k g m B h1)⟩
  ·have h1 := Hin j
   rw[show E'.H=pW e H H' from rfl,hi]at h1;obtain⟨o1,d,rfl⟩:=ef.1 h1.symm;exact Zj hout (fun e=>dB.1 (hSo e) o1 (eZ d)) (fk j) (fun _ _ _=>rfl) (fun l hl=>⟨rp l (lab' j o1 l d hl),fun _ _ _ _=>rfl⟩) (g2.obj j o1 d)
 ·intro l k l' k' b m n h1 d
  have h1:(r' l)[k]? = some (some (some (b,m))):=h1;have d:(r' l')[k']? = some (some (some (b,n))):=d;by_cases B:pl l<;>by_cases hp':pl l'
  ·rw [rp l B] at h1
   rw[rp l' hp']at d;exact g2.e9 l k l' k' b m n h1 d
  ·rw [rp l B] at h1
   rw[rn l' hp']at d;exact((g2.ct l k b m h1).2 (.inr (.inr ⟨l',k',n,hp',d⟩))).elim
  ·rw [rn l B] at h1
   rw[rp l' hp']at d;exact((g2.ct l' k' b n d).2 (.inr (.inr ⟨l,k,m,B,h1⟩))).elim
  ·rw [rn l B] at h1
   rw[rn l' hp']at d;exact HE.e9 l k l' k' b m n h1 d
 ·intro i b m l k n hi h1
  have h1:(r' l)[k]? = some (some (some (b,n))):=h1;rcases pX (e:=e) hbL hi with⟨i1,_,i3⟩|⟨V,rfl⟩
  ·by_cases B : pl l
   ·rw [rp l B] at h1
    exact g3.own b (HE.lt _ _ _ i3).1 (hout0 i b m i1 i3) (.inr ⟨l,k,n,h1⟩)
   ·rw [rn l B] at h1
    exact HE.cY _ _ _ _ _ _ i3 h1
  ·rw [fk V] at hi
   by_cases B:pl l
   ·rw [rp l B] at h1
    exact g2.cY _ _ _ _ _ _ hi h1
   ·rw [rn l B] at h1
    exact(g2.lt _ _ _ hi).2 (.inr (.inr ⟨l,k,n,B,h1⟩))
 ·intro l k b m h1
  have h1:(r' l)[k]? = some (some (some (b,m))):=h1;by_cases B:pl l
  ·rw [rp l B] at h1
   exact⟨(g2.ct _ _ _ _ h1).1,fun O=>(g2.ct _ _ _ _ h1).2 (.inl O)⟩
  ·rw [rn l B] at h1
   exact⟨dP (HE.ct _ _ _ _ h1).1 g3.size,(HE.ct _ _ _ _ h1).2⟩
 ·have inn:∀ (j:Nat) o,E'.H[e.at j]? = some o→∃ o1,H'[j]? = some o1∧o.label=o1.label:=fun j o h=>by
   rw[Hin j]at h;obtain⟨o1,d,rfl⟩:=ef.1 h;exact⟨o1,d,M7 e j o1⟩
  intro i j o o' l hi I h1 d;have hi':=hi;have hj':=I;unfold pW at hi' hj';rcases pX (e:=e) hb hi' with⟨i1,i2,i3⟩|⟨V,rfl⟩<;>rcases pX (e:=e) hb hj' with⟨j1,j2,j3⟩|⟨j',rfl⟩
  ·exact HE.uniq i j o o' l (by rw[N]; exact i3) (by rw[N]; exact j3) h1 d
  ·obtain ⟨o1, W, a2⟩ := inn j' o' I
   exact(labOut i o l i1 (by rw[N]; exact i3) h1 (lab' j' o1 l W (by rw[←a2,d]))).elim
  ·obtain ⟨o1, W, a2⟩ := inn V o hi
   exact(labOut j o' l j1 (by rw[N]; exact j3) d (lab' V o1 l W (by rw[←a2,h1]))).elim
  ·obtain ⟨o1, W, a2⟩ := inn V o hi
   obtain⟨o2,b1,b2⟩:=inn j' o' I;rw[g2.uniq V j' o1 o2 l W b1 (by rw[←a2,h1]) (by rw[←b2,d])]
 ·intro l hnl k q hq
  have hq:(r' l)[k]? = some (some q):=hq;by_cases B:pl l
  ·rw [rp l B] at hq
   refine g2.gH l (fun j o h1 d=>?_) k q hq;refine hnl (e.at j) (o.cq e j) ?_ (by rw[M7,d]);rw[Hin j,show H'[j]? = some o from h1];rfl
  ·rw [rn l B] at hq
   refine HE.gH l (fun i o h1 d=>?_) k q hq;have J:=aK h1;rw[N]at J;by_cases hi:i∈e.ids
   ·obtain ⟨j, I, rfl⟩ := mC hi
    have hat':e.ids[j]=e.at j:=by
     have:=il I;rw[bf I]at this;exact gY this
    rw[hat']at h1;obtain⟨o0,oo,W,a2,_⟩:=hobj0 j I;rw[h1]at a2;cases a2;exact B ⟨j,o0,W,by rw[←hlab j o0 o W (by rw[←N]; exact h1),d]⟩
   ·exact hnl i o (by rw[Hout i hi J]; exact h1) d
end Go.AL
