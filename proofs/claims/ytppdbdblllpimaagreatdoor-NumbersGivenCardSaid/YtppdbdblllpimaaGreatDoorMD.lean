/-
 What is proved here: shapes: states and arguments as data alone (integers,strings,rows),read off abstract states and built from data; what is built says no more than what was read. No program in sight; no condition.
-/
import Derived.Test.YtppdbdblllpimaaGreatDoorMC
import Derived.Maps.RangeRun
set_option linter.all false
open Bool renaming and_true→dU,and_eq_true→ay,false_eq_true→nL,not_eq_true'→ka,and_self→mM,eq_false_iff→UM,or_false→KA
open Go.Act renaming put→s7
open Go.MapKept renaming heap_set→zC
open Go.Value.slice renaming injEq→kJ
open Int renaming toNat_natCast→aH
open List renaming range→fK,length_cons→cF,length_map→bu,mem_map→bR,getElem?_map→cy,getElem?_append_left→dI,getElem?_append_right→ix,getElem?_set_self→cO,getElem?_set_ne→bL,getElem?_set→fk,all_eq_true→ep,getElem?_eq_getElem→bA,getD_eq_getElem?_getD→cG,getElem?_take→nK,mem_cons→bC,mem_of_getElem?→fy,map_cons→dK,cons_append→nO,length_append→eY,mem_append→bV,getElem?_of_mem→lN,append_nil→gH,all_cons→nR,mem_cons_self→cJ,mem_cons_of_mem→bS,range'→jk,range'_succ→zw,mem_append_left→zx,any_eq_true→mJ,range_eq_range'→vQ,nodup_cons→kg,append_assoc→kh,headD_cons→ph,getElem?_cons_succ→UK,getElem?_inj→Ky,getD_cons_succ→UL,find?_cons_of_neg→aj7,getElem_mem→qO,set_append_left→aj8,mem_filter→gk,mem_append_right→aj9
open List.Perm renaming append_left→UN,refl→pn
open Nat renaming le_refl→aI,le_add_right→eB,lt_or_ge→kI,zero_add→dJ,beq→ab,zero_le→kL,eq_of_beq_eq_true→bD,sub_self→sY,ble→db,blt→eZ,blt_eq→iA,le_of_ble_eq_true→kM,lt_irrefl→vR
open Option renaming map_eq_some_iff→fM,map_some→iO,getD_some→j_,bind_some→s9
open Option.some renaming injEq→aX,inj→nT
open Prod.mk renaming injEq→be
namespace Go.AL
open Go
variable [Dr]
inductive eM where
 |int (k:IntKind)|str|bool
 |list (ks:List Kd)|row (ks:List Kd)|cptr (ks:List Kd)
 |nil|any
 |M0 (isNil:Bool)
 |fn (f:FuncId)
 |ptr (j col:Nat)
 |vec (j w:Nat)
 |sub (j w:Nat)
 |pre (j w:Nat)
 |ue (ks:List Kd)
 |map (j:Nat)
 |addr
 |pY (f:FuncId) (js:List Nat)
 |FO
 deriving Inhabited
inductive Sh where
 |s (a:eM)
 |clo (f:FuncId) (caps:List eM)
 deriving Inhabited
inductive cM where
 |vec (ks:List Kd) (u:Nat)
 |box (cells:List eM)
 |map (K V:Ct)
 |fc (l T B:Nat)
 |aQ (l:Nat) (K:Ct) (ks:List Kd)
 deriving Inhabited
def cM.jN:cM→Option Nat
 |.fc l _ _=>some l
 |.aQ l _ _=>some l
 |_=>none
def eM.sz:eM→Nat
 |.int _ | .str | .bool | .list _ | .row _ | .cptr _ | .ue _ | .pre _ _ | .addr=>1
 |.sub _ _=>2
 |_=>0
def ni:List eM→Nat
 | []=>0
 |a::as=>a.sz+ni as
def Sh.sz:Sh→Nat
 |.s a=>a.sz
 |.clo _ caps=>ni caps
def FP:List Sh→Nat
 | []=>0
 |a::as=>a.sz+FP as
def cM.sz:cM→Nat
 |.vec _ _=>1
 |.box cells=>ni cells
 |.map _ _=>2
 |.fc _ _ _=>1
 |.aQ _ _ _=>2
def dB:Nat→List G→List G
 |0,d=>d
 |n+1,d=>dB n d.tail
abbrev dm:=List (Nat × Nat)
def dm.len(os:dm)(j:Nat):Nat:=(os.getD j (0,0)).1
def dm.ae(os:dm)(j:Nat):Nat:=(os.getD j (0,0)).2
def rK:List Nat→List AV
 | []=>[]
 |j::js=>.ptr j 0 0 0 0::rK js
def eF(lens:dm):eM→List G→AV
 |.int k,d=>.lit (.int k (d.headD default).int)
 |.str,d=>.lit (.string (d.headD default).str)
 |.bool,d=>.lit (.bool (d.headD default).bool)
 |.list ks,d=>.listF ks (d.headD default).rows
 |.ue ks,d=>.listF ks (d.headD default).rows
 |.row ks,d=>.agg (aG ks (d.headD default).row)
 |.cptr ks,d=>.cptr (aG ks (d.headD default).row)
 |.nil,_=>.lit (.slice none 0 0)
 |.any,_=>.undef
 |.M0 b,_=>.emptyS b
 |.fn f,_=>.clo f []
 |.ptr j col,_=>.ptr j 0 0 0 col
 |.vec j w,_=>.vec w j (lens.ae j) 0 (lens.len j)
 |.sub j w,d=>.vec w j (lens.ae j) (d.headD default).int.toNat (d.tail.headD default).int.toNat
 |.pre j w,d=>.vec w j (lens.ae j) 0 (d.headD default).int.toNat
 |.map j,_=>.map j
 |.addr,d=>.lit (.pointer (some ⟨(d.headD default).int.toNat,0,none⟩))
 |.pY f js,_=>.clo f (rK js)
 |.FO,_=>.lit .nilIface
def iW(lens:dm):List eM→List G→List AV
 | [],_=>[]
 |a::as,d=>eF lens a d::iW lens as (dB a.sz d)
def la(lens:dm):Sh→List G→AV
 |.s a,d=>eF lens a d
 |.clo f caps,d=>.clo f (iW lens caps d)
def dH(lens:dm):List Sh→List G→List AV
 | [],_=>[]
 |a::as,d=>la lens a d::dH lens as (dB a.sz d)
def fe(lens:dm):cM→List G→al
 |.vec ks u,d=>.vec ks u (d.headD default).rows
 |.box g,d=>.raw (.box (iW lens g d))
 |.map K V,d=>.map K V (d.headD default).rows (d.tail.headD default).int.toNat
 |.fc l T B,d=>.raw (.fc l T B (d.headD default).str)
 |.aQ l K ks,d=>.aQ l K ks (d.headD default).rows (d.tail.headD default).int.toNat
theorem pZ(lens:dm)(sh:cM)(d:List G):(fe lens sh d).den.label=sh.jN:=by cases sh<;>rfl
def ca(lens:dm):List cM→List G→List al
 | [],_=>[]
 |o::os,d=>fe lens o d::ca lens os (dB o.sz d)
def lb:List cM→Nat
 | []=>0
 |o::os=>o.sz+lb os
def bE:List cM→List G→dm
 | [],_=>[]
 | o::os,d=>(match o with
  |.vec _ u=>((d.headD default).rows.length,u)
  |_=>(0,0))::bE os (dB o.sz d)
def lf(H:List al)(e:bN):List Nat→List AV→Bool
 | [],[]=>true
 | j::js,.ptr id ae k row c::vs=>(match H[id]? with
  |some (.raw _)=>ab id (e.at j)&&ab ae 0&&ab k 0&&ab row 0&&ab c 0
  |_=>false)&&lf H e js vs
 |_,_=>false
def gf(H:List al)(e:bN)(fz:Nat→Bool):eM→AV→Option (Bool × List G)
 |.int k,.lit (.int k' n)=>if k=k' then some (true,[.i n]) else none
 |.str,.lit (.string s)=>some (true,[.s s])
 |.bool,.lit (.bool b)=>some (true,[.t b])
 | .list ks,a=>match ow ks a with
  |some rows=>some (true,[.l rows])
  | none=>match a with
   | .vec w id ae off n=>match H[id]? with
    |some (.vec d v rows)=>if ae=v∧off=0∧w=ks.length∧Kd.ia ks d=true∧fz id=true then some (ab n rows.length,[.l rows]) else none
    |_=>none
   |_=>none
 | .row ks,a=>match FH ks a with
  |some r=>some (true,[.l [r]])
  |none=>none
 | .cptr ks,.cptr cells=>match gu ks cells with
  |some r=>some (true,[.l [r]])
  |none=>none
 | .cptr ks,.ptr id ae _ row col=>match H[id]? with
  | some (.raw (.box cells))=>match gu ks cells with
   |some r=>if ae=0∧row=0∧col=0∧fz id=true then some (true,[.l [r]]) else none
   |none=>none
  |some (.vec d v [r])=>if ae=v∧row=0∧col=0∧Kd.ia ks d=true∧fz id=true then some (true,[.l [r]]) else none
  |_=>none
 |.nil,.lit (.slice none 0 0)=>some (true,[])
 |.any,_=>some (true,[])
 |.fn f,.clo g []=>if f=g then some (true,[]) else none
 | .ptr j col,.ptr id ae k row c=>match H[id]? with
  |some (.raw _)=>if id=e.at j∧ae=0∧k=0∧row=0∧c=col then some (true,[]) else none
  |_=>none
 | .vec j w,.vec w' id ae off n=>match H[id]? with
  |some (.vec _ v rows)=>if w'=w∧id=e.at j∧ae=v∧off=0 then some (ab n rows.length,[]) else none
  |_=>none
 | .sub j w,.vec w' id ae off n=>match H[id]? with
  |some (.vec _ v _)=>if w'=w∧id=e.at j∧ae=v then some (true,[.i off,.i n]) else none
  |_=>none
 | .pre j w,.vec w' id ae off n=>match H[id]? with
  |some (.vec _ v _)=>if w'=w∧id=e.at j∧ae=v∧off=0 then some (true,[.i n]) else none
  |_=>none
 | .ue ks,a=>match ow ks a with
  |some rows=>some (true,[.l rows])
  | none=>match a with
   | .vec w id ae off n=>match H[id]? with
    |some (.vec d v rows)=>if ae=v∧off=0∧w=ks.length∧Kd.ia ks d=true∧fz id=true then some (db n rows.length,[.l (rows.take n)]) else none
    |_=>none
   |_=>none
 | .map j,.map id=>match H[id]? with
  |some (.map _ _ _ _)=>if id=e.at j then some (true,[]) else none
  |some (.aQ _ _ _ _ _)=>if id=e.at j then some (true,[]) else none
  |_=>none
 |.addr,.lit (.pointer (some ⟨b,0,none⟩))=>some (true,[.i (b:Nat)])
 |.pY f js,.clo g vs=>if f=g∧lf H e js vs=true then some (true,[]) else none
 |.FO,.lit .nilIface=>some (true,[])
 |_,_=>none
def fQ(H:List al)(e:bN)(fz:Nat→Bool):List eM→List AV→Option (Bool × List G)
 | [],[]=>some (true,[])
 | sh::d,a::as=>match gf H e fz sh a,fQ H e fz d as with
  |some (b,g),some (k,q)=>some (b&&k,g++q)
  |_,_=>none
 |_,_=>none
def lh(H:List al)(e:bN)(fz:Nat→Bool):Sh→AV→Option (Bool × List G)
 |.s a,v=>gf H e fz a v
 |.clo f caps,.clo g vs=>if f=g then fQ H e fz caps vs else none
 |_,_=>none
def eG(H:List al)(e:bN)(fz:Nat→Bool):List Sh→List AV→Option (Bool × List G)
 | [],[]=>some (true,[])
 | sh::d,a::as=>match lh H e fz sh a,eG H e fz d as with
  |some (b,g),some (k,q)=>some (b&&k,g++q)
  |_,_=>none
 |_,_=>none
def iD(H:List al)(e:bN)(fz:Nat→Bool):cM→al→Option (Bool × List G)
 |.vec ks _,.vec d _ rows=>if Kd.ia ks d then some (true,[.l rows]) else none
 |.box k,.raw (.box cells)=>fQ H e fz k cells
 |.map K V,.map g q rows clock=>if K.same g&&V.same q then some (true,[.l rows,.i clock]) else none
 |.fc l T B,.raw (.fc l' A F s)=>if (ab l l'&&(ab T A&&ab B F))=true then some (true,[.s s]) else none
 |.aQ l K ks,.aQ l' g d rows clock=>if (ab l l'&&(K.same g&&Kd.ia ks d))=true then some (true,[.l rows,.i clock]) else none
 |_,_=>none
theorem FQ{H:List al}{e:bN}{fz:Nat→Bool}{sh:cM}{o:al}{b:Bool}{g:List G}(h:iD H e fz sh o=some (b,g)):o.den.label=sh.jN:=by
 unfold iD at h;split at h
 ·rfl
 ·rfl
 ·rfl
 ·split at h
  ·rename_i hs
   simp only[ay]at hs;have:=bD hs.1;subst this;rfl
  ·cases h
 ·split at h
  ·rename_i hs
   simp only[ay]at hs;have:=bD hs.1;subst this;rfl
  ·cases h
 ·cases h
def iX(H:List al)(e:bN)(fz:Nat→Bool):List cM→List Nat→Option (Bool × List G)
 | [],[]=>some (true,[])
 | o::os,i::is=>match H[i]? with
  | some t=>match iD H e fz o t,iX H e fz os is with
   |some (b,g),some (d,k)=>some (b&&d,g++k)
   |_,_=>none
  |none=>none
 |_,_=>none
theorem nj:∀(g rest:List G),dB g.length (g++rest)=rest
 | [],_=>rfl
 |_::g,rest=>nj g rest
def rL:al→Nat
 |.vec _ v _=>v
 |_=>0
def rM(H:List al)(id:Nat):Nat:=match H[id]? with
 |some o=>rL o
 |none=>0
def bh(H:List al)(ids:List Nat):bN:=⟨ids,ids.map (rM H),H.length⟩
structure A7 (E0:Env) (lens:dm) (j:Nat) (o:al):Prop where
 ae:o.den.aJ = some (rL o)
 obj:∃ o0,E0.H[j]? = some o0∧o0.aJ = some (lens.ae j)
 len:∀ ks v rows,o=.vec ks v rows→lens.len j=rows.length
 flat:(∀ ks v rows,o≠.vec ks v rows)→lens.ae j=0
structure iE (H:List al) (e:bN) (fz:Nat→Bool) (lens:dm) (E E0:Env):Prop where
 hH:E.H=ai H
 HE:au E
 free:∀ i,fz i=true→∀ b n,E.loc[i]? = some (some (b,n))→E0.iQ b
 dC:KeepIn e E E0
 obj:∀ j o,H[e.at j]? = some o→j<e.ids.length∧A7 E0 lens j o
section dC
variable {H:List al} {e:bN} {fz:Nat→Bool} {lens:dm} {E E0:Env}
theorem A7.past{j:Nat}{o:al}(h:A7 E0 lens j o):E0.past j (lens.ae j):=by
 obtain⟨o0,h1,g⟩:=h.obj;exact⟨o0,h1,fun v d=>by rw[g]at d; cases d; exact aI _⟩
theorem XB(K:iE H e fz lens E E0){id v n:Nat}{ks:List Kd}{rows:List (List G)}{c:Value}(hid:H[id]? = some (.vec ks v rows))(I:fz id=true)(hn:n=rows.length)
  (hr:rel E (.vec ks.length id v 0 n) c):rel E0 (.listF ks rows) c:=by
 subst hn;have q:E.H[id]? = some (.vec ks.length v (rows.map (aG ks))):=by rw[K.hH]; exact bx hid
 have d:=K.HE.obj id _ q;rw[km];simp only[rel]at hr⊢;obtain⟨⟨base,cap,rfl,F,_⟩,_,k⟩:=hr;obtain⟨N,J⟩:=k ⟨_,q,rfl⟩;have A:fA (rows.map (aG ks)):=by
  intro r hr;obtain⟨g,_,rfl⟩:=bR.1 hr;exact gl ks g
 refine⟨A,base,cap,by simp,by simpa using F,?_⟩;simp only[aU]at d;rcases d with⟨h1,B⟩|⟨b,m,h1,B,k,_,M⟩
 ·exact .inl B
 ·obtain ⟨g1, o, g2, g3⟩ := J b m h1
  by_cases hm:rows=[]
  ·subst hm; exact .inl rfl
  ·right
   have:0<rows.length:=by cases rows with|nil=>exact(hm rfl).elim|cons _ _=>simp
   simp at k;have d:=g2 (by omega);simp at d;subst d;simp only[kJ]at g3;exact⟨b,0,g3.1,K.free id I b m h1,lR K.dC.bJ _ A (by rw[K.dC.w]) M⟩
theorem XC(K:iE H e fz lens E E0){id v n:Nat}{ks:List Kd}{rows:List (List G)}{c:Value}(hid:H[id]? = some (.vec ks v rows))(M:fz id=true)(hn:n≤rows.length)
  (hr:rel E (.vec ks.length id v 0 n) c):rel E0 (.listF ks (rows.take n)) c:=by
 have q:E.H[id]? = some (.vec ks.length v (rows.map (aG ks))):=by rw[K.hH]; exact bx hid
 have d:=K.HE.obj id _ q;rw[km];simp only[rel]at hr⊢;obtain⟨⟨base,cap,rfl,J,_⟩,_,k⟩:=hr;obtain⟨O,N⟩:=k ⟨_,q,rfl⟩;have B:fA ((rows.take n).map (aG ks)):=by
  intro r hr;obtain⟨g,_,rfl⟩:=bR.1 hr;exact gl ks g
 have A:min n rows.length=n:=Nat.min_eq_left hn;refine⟨B,base,cap,by simp[A],by simpa[A]using J,?_⟩;simp only[aU]at d;rcases d with⟨h1,F⟩|⟨b,m,h1,F,k,_,I⟩
 ·left
  have:rows=[]:=by simpa using F
  rw[this];simp
 ·obtain ⟨g1, o, g2, g3⟩ := N b m h1
  by_cases hm:n=0
  ·left; rw[hm]; simp
  ·right
   simp at k;have d:=g2 (by omega);simp at d;subst d;simp only[kJ]at g3;refine⟨b,0,g3.1,K.free id M b m h1,lR K.dC.bJ _ B (by rw[K.dC.w]) ?_⟩;rw[mR]at I⊢;intro i r hi;simp only[cy,nK]at hi;split at hi
   ·exact I i r (by simpa using hi)
   ·simp at hi
theorem XD(K:iE H e fz lens E E0){id k:Nat}{cells:List AV}{c:Value} (hid:H[id]? = some (.raw (.box cells))) (g:AV.br cells=true) (A:fz id=true)
  (hr:rel E (.ptr id 0 k 0 0) c):rel E0 (.cptr cells) c:=by
 have d:E.H[id]? = some (.box cells):=by rw[K.hH]; exact bx hid
 have q:=K.HE.obj id _ d;simp only[aU]at q;obtain⟨b,n,h1,I,B⟩:=q;simp only[rel]at hr⊢;obtain⟨_,_,F⟩:=hr;obtain⟨J,M,g1,g2⟩:=F ⟨_,d,rfl⟩;rw[h1]at g1;simp only[aX,be]at g1;obtain⟨rfl,rfl⟩:=g1;exact⟨g,b,0,by rw[g2]; simp,K.free id A b n h1,te K.dC.bJ cells g (by rw[K.dC.w]) B⟩
theorem XE(K:iE H e fz lens E E0){id k v:Nat}{ks:List Kd}{r:List G}{c:Value}(hid:H[id]? = some (.vec ks v [r]))(B:fz id=true)
  (hr:rel E (.ptr id v k 0 0) c):rel E0 (.cptr (aG ks r)) c:=by
 have d:E.H[id]? = some (.vec ks.length v [aG ks r]):=by rw[K.hH]; exact bx hid
 have g:=K.HE.obj id _ d;simp only[aU]at g;simp only[rel]at hr⊢;obtain⟨_,_,F⟩:=hr;obtain⟨I,J,g1,g2⟩:=F ⟨_,d,rfl⟩;rcases g with⟨_,q⟩|⟨b,m,h1,q,M,N,A⟩
 ·cases q
 ·rw [h1] at g1
  simp only[aX,be]at g1;obtain⟨rfl,rfl⟩:=g1;simp only[cY]at A;exact⟨gl ks r,b,0,by rw[g2]; simp,K.free id B b m h1,te K.dC.bJ _ (gl ks r) (by rw[K.dC.w]) A.2.1⟩
theorem M1(K:iE H e fz lens E E0):∀{js:List Nat} {vs:List AV},lf H e js vs=true→∀ cs,ad E vs cs→ad E0 (rK js) cs
 | [],[],_,cs,hr=>by
  cases cs with
  |nil=>simp[rK,ad]
  |cons _ _=>simp[ad]at hr
 | j::js,v::vs,h,cs,hr=>by
  cases v<;>simp only[lf,nL]at h<;>try cases h
  rename_i id ae k row c;simp only[ay]at h;obtain⟨h1,A⟩:=h;split at h1
  ·rename_i r hid
   simp only[ay]at h1;obtain⟨⟨⟨⟨d,a2⟩,a3⟩,a4⟩,a5⟩:=h1;have d:=bD d;have a2:=bD a2;have a3:=bD a3;have a4:=bD a4;have a5:=bD a5;subst d a2 a3 a4 a5;cases cs with
   |nil=>simp[ad]at hr
   | cons c cs =>
    simp only[ad]at hr;simp only[rK,ad];refine⟨?_,M1 K A cs hr.2⟩;obtain⟨B,g⟩:=K.obj _ _ hid;have F:=g.flat (fun _ _ _ h=>by cases h);have q:=hr.1;simp only[rel]at q⊢;obtain⟨h1,A,I⟩:=q;refine⟨h1,by have:=g.past; rwa [F]at this,fun _=>?_⟩;rw[K.dC.loc _ B];exact I ⟨_,by rw[K.hH]; exact bx hid,g.ae⟩
  ·cases h1
 | [],_::_,h,_,_=>by simp[lf]at h
 |_::_,[],h,_,_=>by simp[lf]at h
theorem M2(K:iE H e fz lens E E0){sh:eM}{a:AV}{g:List G}(h:gf H e fz sh a=some (true,g))(rest:List G) :
  g.length=sh.sz∧∀ c,rel E a c→rel E0 (eF lens sh (g++rest)) c:=by
 unfold gf at h;split at h
 ·split at h
  ·rename_i hk
   subst hk;cases h;exact⟨rfl,fun c hr=>by simp only[rel]at hr; subst hr; simp[eF,rel,G.int]⟩
  ·cases h
 ·cases h; exact⟨rfl,fun c hr=>by simp only[rel]at hr; subst hr; simp[eF,rel,G.str]⟩
 ·cases h; exact⟨rfl,fun c hr=>by simp only[rel]at hr; subst hr; simp[eF,rel,G.bool]⟩
 ·split at h
  ·rename_i rows hr
   cases h;exact⟨rfl,fun c hc=>dQ K.dC.bJ (.listF _ rows) rfl (MO hr hc)⟩
  ·split at h
   ·split at h
    ·rename_i hid
     split at h
     ·rename_i hc
      obtain⟨rfl,rfl,rfl,hs,A⟩:=hc;simp only[aX,be]at h;obtain⟨h1,rfl⟩:=h;have hs:=Kd.jq hs;subst hs;exact⟨rfl,fun c hr=>XB K hid A (bD h1) hr⟩
     ·cases h
    ·cases h
   ·cases h
 ·split at h
  ·rename_i ks a r hr
   cases h;have B:=MP hr;subst B;exact⟨rfl,fun c hc=>dQ K.dC.bJ (.agg (aG ks r)) (by simp only[AV.closed,gl]) hc⟩
  ·cases h
 ·split at h
  ·rename_i r hr
   cases h;have B:=kY hr;subst B;exact⟨rfl,fun c hc=>dQ K.dC.bJ (.cptr _) rfl hc⟩
  ·cases h
 ·split at h
  ·rename_i hid
   split at h
   ·rename_i r hr
    split at h
    ·rename_i hc
     obtain⟨rfl,rfl,rfl,A⟩:=hc;cases h;have B:=kY hr;subst B;exact⟨rfl,fun c hr=>XD K hid (gl _ _) A hr⟩
    ·cases h
   ·cases h
  ·rename_i M v r hid
   split at h
   ·rename_i hc
    obtain⟨rfl,rfl,rfl,hs,A⟩:=hc;cases h;have hs:=Kd.jq hs;subst hs;exact⟨rfl,fun c hr=>XE K hid A hr⟩
   ·cases h
  ·cases h
 ·cases h; exact⟨rfl,fun c hr=>by simpa only[eF,rel]using hr⟩
 ·cases h; exact⟨rfl,fun c hr=>by simp[eF,rel]⟩
 ·split at h
  ·rename_i hk
   subst hk;cases h;exact⟨rfl,fun c hr=>dQ K.dC.bJ (.clo _ []) rfl hr⟩
  ·cases h
 ·split at h
  ·rename_i r hid
   split at h
   ·rename_i hc
    obtain⟨rfl,rfl,rfl,rfl,rfl⟩:=hc;cases h;obtain⟨k,d⟩:=K.obj _ _ hid;have F:=d.flat (fun _ _ _ h=>by cases h);refine⟨rfl,fun c hr=>?_⟩;simp only[rel]at hr;simp only[eF,rel];obtain⟨h1,I,q⟩:=hr;refine⟨h1,by have:=d.past; rwa [F]at this,fun _=>?_⟩;rw[K.dC.loc _ k];exact q ⟨_,by rw[K.hH]; exact bx hid,d.ae⟩
   ·cases h
  ·cases h
 ·split at h
  ·rename_i ks v rows hid
   split at h
   ·rename_i hc
    obtain⟨rfl,rfl,rfl,rfl⟩:=hc;simp only[aX,be]at h;obtain⟨h1,rfl⟩:=h;have h1:=bD h1;subst h1;obtain⟨k,d⟩:=K.obj _ _ hid;refine⟨rfl,fun c hr=>?_⟩;simp only[rel]at hr;simp only[eF,rel];rw[d.len _ _ _ rfl];obtain⟨h1,I,q⟩:=hr;refine⟨h1,d.past,fun _=>?_⟩;rw[K.dC.loc _ k];exact q ⟨_,by rw[K.hH]; exact bx hid,d.ae⟩
   ·cases h
  ·cases h
 ·split at h
  ·rename_i ks v rows hid
   split at h
   ·rename_i hc
    obtain⟨rfl,rfl,rfl⟩:=hc;cases h;obtain⟨k,d⟩:=K.obj _ _ hid;refine⟨rfl,fun c hr=>?_⟩;simp only[rel]at hr;simp only[eF,rel,nO,ph,List.tail_cons,G.int,aH];obtain⟨h1,I,q⟩:=hr;refine⟨h1,d.past,fun _=>?_⟩;rw[K.dC.loc _ k];exact q ⟨_,by rw[K.hH]; exact bx hid,d.ae⟩
   ·cases h
  ·cases h
 ·split at h
  ·rename_i ks v rows hid
   split at h
   ·rename_i hc
    obtain⟨rfl,rfl,rfl,rfl⟩:=hc;cases h;obtain⟨k,d⟩:=K.obj _ _ hid;refine⟨rfl,fun c hr=>?_⟩;simp only[rel]at hr;simp only[eF,rel,nO,ph,G.int,aH];obtain⟨h1,I,q⟩:=hr;refine⟨h1,d.past,fun _=>?_⟩;rw[K.dC.loc _ k];exact q ⟨_,by rw[K.hH]; exact bx hid,d.ae⟩
   ·cases h
  ·cases h
 ·split at h
  ·rename_i rows hr
   cases h;exact⟨rfl,fun c hc=>dQ K.dC.bJ (.listF _ rows) rfl (MO hr hc)⟩
  ·split at h
   ·split at h
    ·rename_i hid
     split at h
     ·rename_i hc
      obtain⟨rfl,rfl,rfl,hs,A⟩:=hc;simp only[aX,be]at h;obtain⟨h1,rfl⟩:=h;have hs:=Kd.jq hs;subst hs;exact⟨rfl,fun c hr=>XC K hid A (kM h1) hr⟩
     ·cases h
    ·cases h
   ·cases h
 ·split at h
  ·rename_i J O rows cl hid
   split at h
   ·rename_i hc
    subst hc;cases h;obtain⟨k,d⟩:=K.obj _ _ hid;have F:=d.flat (fun _ _ _ h=>by cases h);refine⟨rfl,fun c hr=>?_⟩;simp only[rel]at hr;simp only[eF,rel];obtain⟨h1,I,q⟩:=hr;refine⟨h1,by have:=d.past; rwa [F]at this,fun _=>?_⟩;rw[K.dC.loc _ k];exact q ⟨_,by rw[K.hH]; exact bx hid,d.ae⟩
   ·cases h
  ·rename_i l1 J N rows cl hid
   split at h
   ·rename_i hc
    subst hc;cases h;obtain⟨k,d⟩:=K.obj _ _ hid;have F:=d.flat (fun _ _ _ h=>by cases h);refine⟨rfl,fun c hr=>?_⟩;simp only[rel]at hr;simp only[eF,rel];obtain⟨h1,I,q⟩:=hr;refine⟨h1,by have:=d.past; rwa [F]at this,fun _=>?_⟩;rw[K.dC.loc _ k];exact q ⟨_,by rw[K.hH]; exact bx hid,d.ae⟩
   ·cases h
  ·cases h
 ·cases h; exact⟨rfl,fun c hr=>by simp only[rel]at hr; subst hr; simp[eF,rel,G.int]⟩
 ·split at h
  ·rename_i hc
   obtain⟨rfl,hc⟩:=hc;cases h;refine⟨rfl,fun c hr=>?_⟩;simp only[rel]at hr;simp only[eF,rel];obtain⟨cs,r1,r2⟩:=hr;exact⟨cs,r1,M1 K hc _ r2⟩
  ·cases h
 ·cases h; exact⟨rfl,fun c hr=>by simpa only[eF,rel]using hr⟩
 ·cases h
theorem FT(K:iE H e fz lens E E0):∀{d:List eM} {as:List AV} {g:List G},fQ H e fz d as=some (true,g)→∀(rest:List G),
  g.length=ni d∧as.length=d.length∧(iW lens d (g++rest)).length=d.length ∧
   (∀ cs,ad E as cs→ad E0 (iW lens d (g++rest)) cs)∧∀ b o,E0.w.heap[b]? = E.w.heap[b]? → cB E as b o→cB E0 (iW lens d (g++rest)) b o
 | [],[],g,h,rest=>by
  simp only[fQ,aX,be]at h;obtain⟨_,rfl⟩:=h;refine⟨rfl,rfl,rfl,fun cs hr=>?_,fun b o _ hr=>by simp[iW,cB]⟩;cases cs with
  |nil=>simp[iW,ad]
  |cons _ _=>simp[ad]at hr
 | sh::d,a::as,g,h,rest=>by
  simp only[fQ]at h;split at h
  ·rename_i b g1 R g2 h1 B
   simp only[aX,be,ay]at h;obtain⟨⟨rfl,rfl⟩,rfl⟩:=h;obtain⟨p1,q⟩:=M2 K h1 (g2++rest);obtain⟨F,I,J,M,N⟩:=FT K B rest;have k:dB sh.sz (g1++(g2++rest))=g2++rest:=by rw[←p1]; exact nj g1 _
   refine⟨by simp only[ni,eY,p1,F],by simp only[cF,I],?_,?_,?_⟩
   ·simp only[iW,kh,k,cF,J]
   ·intro cs hr
    cases cs with
    |nil=>simp[ad]at hr
    | cons c cs =>
     simp only[ad]at hr;simp only[iW,kh,k,ad];exact⟨q c hr.1,M cs hr.2⟩
   ·intro b o A hr
    simp only[cB]at hr;simp only[iW,kh,k,cB];obtain⟨⟨v,r1,r2,r3⟩,O⟩:=hr;exact⟨⟨v,by rw[World.td A]; exact r1,r2,q v r3⟩,N b (o+1) A O⟩
  ·cases h
 | [],_::_,_,h,_=>by simp[fQ]at h
 |_::_,[],_,h,_=>by simp[fQ]at h
theorem M3(K:iE H e fz lens E E0){sh:Sh}{a:AV}{g:List G}(h:lh H e fz sh a=some (true,g))(rest:List G) :
  g.length=sh.sz∧∀ c,rel E a c→rel E0 (la lens sh (g++rest)) c:=by
 cases sh with
 |s a0=>exact M2 K h rest
 | clo f caps =>
  cases a<;>simp only[lh]at h<;>try cases h
  rename_i g1 vs;split at h
  ·rename_i d
   subst d;obtain⟨k,A,B,q,F⟩:=FT K h rest;refine⟨k,fun c hr=>?_⟩;simp only[rel]at hr;simp only[la,rel];obtain⟨cs,r1,r2⟩:=hr;exact⟨cs,r1,q _ r2⟩
  ·cases h
theorem rN(K:iE H e fz lens E E0):∀{d:List Sh} {as:List AV} {g:List G},eG H e fz d as=some (true,g)→∀(rest:List G),
  g.length=FP d∧as.length=d.length∧(dH lens d (g++rest)).length=d.length∧(∀ cs,ad E as cs→ad E0 (dH lens d (g++rest)) cs)
 | [],[],g,h,rest=>by
  simp only[eG,aX,be]at h;obtain⟨_,rfl⟩:=h;refine⟨rfl,rfl,rfl,fun cs hr=>?_⟩;cases cs with
  |nil=>simp[dH,ad]
  |cons _ _=>simp[ad]at hr
 | sh::d,a::as,g,h,rest=>by
  simp only[eG]at h;split at h
  ·rename_i b g1 M g2 h1 q
   simp only[aX,be,ay]at h;obtain⟨⟨rfl,rfl⟩,rfl⟩:=h;obtain⟨p1,A⟩:=M3 K h1 (g2++rest);obtain⟨B,F,I,J⟩:=rN K q rest;have k:dB sh.sz (g1++(g2++rest))=g2++rest:=by rw[←p1]; exact nj g1 _
   refine⟨by simp only[FP,eY,p1,B],by simp only[cF,F],by simp only[dH,kh,k,cF,I],?_⟩;intro cs hr;cases cs with
   |nil=>simp[ad]at hr
   | cons c cs =>
    simp only[ad]at hr;simp only[dH,kh,k,ad];exact⟨A c hr.1,J cs hr.2⟩
  ·cases h
 | [],_::_,_,h,_=>by simp[eG]at h
 |_::_,[],_,h,_=>by simp[eG]at h
theorem M4(K:iE H e fz lens E E0):∀{A:List Sh} {as:List AV} {g:List G},eG H e fz A as=some (true,g)→∀{rest:List G} {k:Nat} {x v:AV} {c:Value},
  as[k]? = some x→(dH lens A (g++rest))[k]? = some v→rel E x c→rel E0 v c
 | [],[],_,_,_,_,_,_,_,d,_,_=>by simp at d
 | sh::A,a::as,g,h,rest,k,x,v,c,d,q,hr=>by
  simp only[eG]at h;split at h
  ·rename_i b g1 J g2 h1 B
   simp only[aX,be,ay]at h;obtain⟨⟨rfl,rfl⟩,rfl⟩:=h;obtain⟨p1,F⟩:=M3 K h1 (g2++rest);have I:dB sh.sz (g1++(g2++rest))=g2++rest:=by rw[←p1]; exact nj g1 _
   simp only[dH,kh,I]at q;cases k with
   | zero =>
    simp at d q;subst d;subst q;exact F c hr
   |succ k=>exact M4 K B (by simpa using d) (by simpa using q) hr
  ·cases h
 | [],_::_,_,h,_,_,_,_,_,_,_,_=>by simp[eG]at h
 |_::_,[],_,h,_,_,_,_,_,_,_,_=>by simp[eG]at h
theorem FU(K:iE H e fz lens E E0){sh:cM}{o:al}{g:List G}(h:iD H e fz sh o=some (true,g))(rest:List G)
  {j:Nat} (R:j<e.ids.length) (hlab:∀ l,sh.jN=some l→E0.X.r l=E.X.r l) (F:aU E (e.at j) o.den):aU E0 j (fe lens sh (g++rest)).den:=by
 have I:∀ b:Nat,E0.w.heap[b]? = E.w.heap[b]? := fun b=>by rw[K.dC.w]
 have J:=K.dC.loc j R;unfold iD at h;split at h
 ·split at h
  ·rename_i hs
   cases h;have hs:=Kd.jq hs;subst hs;simp only[fe,al.den,aU]at F⊢;rcases F with⟨h1,d⟩|⟨b,m,h1,d,A,M,U⟩
   ·exact .inl ⟨by rw[J,h1],d⟩
   ·exact .inr ⟨b,m,by rw[J,h1],tf (I b) d,A,M,lR K.dC.bJ _ M (I b) U⟩
  ·cases h
 ·rename_i shs cells
  obtain⟨q1,W,Y,q5,q6⟩:=FT K h rest;simp only[fe,al.den,aU]at F⊢;obtain⟨b,n,h1,d,A⟩:=F;exact⟨b,n,by rw[J,h1],by rw[Y,←W]; exact tf (I b) d,q6 b 0 (I b) A⟩
 ·split at h
  ·rename_i hs
   cases h;simp only[ay]at hs;have h1:=Ct.ry hs.1;have d:=Ct.ry hs.2;subst h1;subst d;simp only[fe,al.den,aU]at F⊢;obtain⟨b,n,ms,h1,d,A⟩:=F;refine⟨b,n,ms,by rw[J,h1],?_,mc K.dC.bJ A⟩;rw[I b];simpa[G.int]using d
  ·cases h
 ·rename_i l T B l' T' B' s
  split at h
  ·rename_i hs
   cases h;simp only[ay]at hs;obtain⟨h1,d,A⟩:=hs;have h1:=bD h1;have d:=bD d;have A:=bD A;subst h1 d A;simp only[fe,al.den,aU]at F⊢;obtain⟨b,n,p,v,k,q,g1,g2,g3,g4,g5,g6⟩:=F;have hr:=hlab l rfl;exact⟨b,n,p,v,k,q,by rw[J,g1],by rw[I b,g2],g3,by rw[hr,g4],by rw[hr]; exact g5,DX (fun g m _=>I g) (by simpa[G.str]using g6)⟩
  ·cases h
 ·rename_i l K0 ks l' K' ks' rows clock
  split at h
  ·rename_i hs
   cases h;simp only[ay]at hs;obtain⟨h1,d,A⟩:=hs;have h1:=bD h1;have d:=Ct.ry d;have A:=Kd.jq A;subst h1 d A;simp only[fe,al.den,aU]at F⊢;obtain⟨b,n,ms,g1,g2,g3,g4⟩:=F;have hr:=hlab l rfl;refine⟨b,n,ms,by rw[J,g1],?_,mc K.dC.bJ g3,vT (E:=E) (fun h g m hk=>⟨by rw[hr]; exact hk,I g⟩) (fun _ _ _ _ _ b' N hc O=>lR K.dC.bJ _ hc N O) g4⟩;rw[I b];simpa[G.int]using g2
  ·cases h
 ·cases h
end dC
def cM.up:cM→Nat
 |.vec _ u=>u
 |_=>0
theorem w_{H:List al}{e:bN}{fz:Nat→Bool}{lens:dm}{sh:cM}{o:al}{b:Bool}{g d:List G}(h:iD H e fz sh o=some (b,g)) :
  o.den.aJ = some (rL o)∧(fe lens sh d).den.aJ = some sh.up∧((∀ ks v rows,o≠.vec ks v rows)→sh.up=0):=by
 unfold iD at h;split at h
 ·exact⟨rfl,rfl,fun hn=>(hn _ _ _ rfl).elim⟩
 ·exact⟨rfl,rfl,fun _=>rfl⟩
 ·exact⟨rfl,rfl,fun _=>rfl⟩
 ·exact⟨rfl,rfl,fun _=>rfl⟩
 ·exact⟨rfl,rfl,fun _=>rfl⟩
 ·cases h
theorem XF{H:List al}{e:bN}{fz:Nat→Bool}{sh:eM}{a:AV}{b:Bool}{g:List G}(h:gf H e fz sh a=some (b,g)):g.length=sh.sz:=by
 unfold gf at h;split at h<;>(try split at h)<;>(try split at h)<;>(try split at h)<;>(try split at h)<;>first
  |(cases h; rfl)
  |cases h
theorem M5{H:List al}{e:bN}{fz:Nat→Bool}:∀{d:List eM} {as:List AV} {b:Bool} {g:List G},fQ H e fz d as=some (b,g)→g.length=ni d
 | [],[],_,g,h=>by simp[fQ]at h; simp[←h.2,ni]
 | sh::d,a::as,b,g,h=>by
  simp only[fQ]at h;split at h
  ·rename_i b g1 q g2 h1 k
   simp only[aX,be]at h;obtain⟨_,rfl⟩:=h;simp only[ni,eY,XF h1,M5 k]
  ·cases h
 | [],_::_,_,_,h|_::_,[],_,_,h=>by simp[fQ]at h
theorem XG{H:List al}{e:bN}{fz:Nat→Bool}{sh:cM}{o:al}{b:Bool}{g:List G}(h:iD H e fz sh o=some (b,g)):g.length=sh.sz:=by
 unfold iD at h;split at h
 ·split at h
  ·cases h; rfl
  ·cases h
 ·exact M5 h
 ·split at h
  ·cases h; rfl
  ·cases h
 ·split at h
  ·cases h; rfl
  ·cases h
 ·split at h
  ·cases h; rfl
  ·cases h
 ·cases h
theorem rO{H:List al}{e:bN}{fz:Nat→Bool}:∀{os:List cM} {ids:List Nat} {g:List G},iX H e fz os ids=some (true,g)→∀(rest:List G) (lens:dm),
  g.length=lb os∧ids.length=os.length∧(ca lens os (g++rest)).length=os.length ∧
  (∀ (j : Nat) (sh : cM), os[j]? = some sh → ∃ i o g1 q, ids[j]? = some i ∧ H[i]? = some o ∧ iD H e fz sh o = some (true, g1) ∧ (ca lens os (g ++ rest))[j]? = some (fe lens sh (g1 ++ q)) ∧
   (bE os (g++rest)).ae j=sh.up∧∀ ks v rows,o=.vec ks v rows→(bE os (g++rest)).len j=rows.length)
 | [],[],g,h,rest,lens=>by
  simp only[iX,aX,be]at h;obtain⟨_,rfl⟩:=h;exact⟨rfl,rfl,rfl,fun j sh d=>by simp at d⟩
 | sh::os,i::ids,g,h,rest,lens=>by
  simp only[iX]at h;split at h
  case h_2=>cases h
  rename_i o I;split at h
  ·rename_i b g1 b' g2 h1 J
   simp only[aX,be,ay]at h;obtain⟨⟨rfl,rfl⟩,rfl⟩:=h;obtain⟨M,N,O,R⟩:=rO J rest lens;have A:=XG h1;have k:dB sh.sz (g1++(g2++rest))=g2++rest:=by rw[←A]; exact nj g1 _
   refine⟨by simp only[lb,eY,A,M],by simp only[cF,N],by simp only[ca,kh,k,cF,O],fun j B d=>?_⟩;cases j with
   | zero =>
    simp at d;subst d;refine⟨i,o,g1,g2++rest,rfl,I,h1,by simp only[ca,kh,List.getElem?_cons_zero],?_,?_⟩
    ·unfold bE dm.ae
     cases sh<;>rfl
    ·rintro ks v rows rfl
     unfold iD at h1;split at h1
     ·rename_i heq
      cases heq;split at h1
      ·cases h1
       simp[bE,dm.len,G.rows]
      ·cases h1
     ·rename_i heq; cases heq
     ·rename_i heq; cases heq
     ·rename_i heq; cases heq
     ·rename_i heq; cases heq
     ·cases h1
   | succ j =>
    obtain⟨U,o',F,q,r1,r2,r3,W,Y,r6⟩:=R j B (by simpa using d);refine⟨U,o',F,q,by simpa using r1,r2,r3,by simpa only[ca,kh,k,UK]using W,?_,?_⟩
    ·simpa only[bE,dm.ae,kh,k,UL]using Y
    ·simpa only[bE,dm.len,kh,k,UL]using r6
  ·cases h
 | [],_::_,_,h,_,_=>by simp[iX]at h
 |_::_,[],_,h,_,_=>by simp[iX]at h
end Go.AL

namespace Go.AL
open Go
variable [Dr]
abbrev xa(a b:Bool):Bool:=Bool.casesOn a false b
theorem xb{a b:Bool}:xa a b=true↔a=true∧b=true:=by cases a<;>simp
open Classical in
noncomputable def nk(E:Env)(H0:List af)(l:Nat):List (Option (Option (Nat × Nat))):=if ∃(j:Nat) (o:af),H0[j]? = some o∧o.label=some l then E.X.r l else (E.X.r l).map fun _=>none
theorem XH{E:Env}{H0:List af}{l j:Nat}{o:af}(h:H0[j]? = some o)(d:o.label=some l):nk E H0 l=E.X.r l:=if_pos ⟨j,o,h,d⟩
theorem A8{E:Env}{H0:List af}{l h:Nat}{q:Option (Nat × Nat)}(d:(nk E H0 l)[h]? = some (some q)):(E.X.r l)[h]? = some (some q)∧∃(j:Nat) (o:af),H0[j]? = some o∧o.label=some l:=by
 unfold nk at d;split at d
 ·rename_i k
  exact⟨d,k⟩
 ·rw [cy] at d
  cases g:(E.X.r l)[h]? with
  |none=>rw[g]at d; cases d
  |some y=>rw[g]at d; cases d
theorem XI(E:Env)(H0:List af)(l:Nat):(nk E H0 l).length=(E.X.r l).length:=by
 unfold nk;split
 ·rfl
 ·simp
noncomputable def gx(E:Env)(H0:List af)(ids:List Nat):Env:=⟨E.w,H0,ids.map fun i=>E.loc.getD i none,E.X.re (nk E H0)⟩
theorem FV(E:Env)(H0:List af)(ids:List Nat):∀ l h,h<(E.X.r l).length→h<((gx E H0 ids).X.r l).length∧∀ q,((gx E H0 ids).X.r l)[h]? = some (some q)→(E.X.r l)[h]? = some (some q) :=
 fun l h d=>⟨by show h<(nk E H0 l).length; rw[XI]; exact d,fun q g=>(A8 (E:=E) (H0:=H0) g).1⟩
theorem FW{E:Env}{H0:List af}{ids:List Nat}{b:Nat}(h:(gx E H0 ids).own b):E.own b:=by
 rcases h with⟨j,c,g⟩|⟨l,k,c,g⟩
 ·simp only [gx, cy] at g
  obtain⟨i,_,d⟩:=fM.1 g;rw[cG]at d;cases he:E.loc[i]? with
  |none=>rw[he]at d; cases d
  |some y=>rw[he]at d; simp at d; exact .inl ⟨i,c,by rw[he,d]⟩
 ·exact .inr ⟨l,k,c,(A8 g).1⟩
def gy(ids:List Nat)(i:Nat):Bool := !ids.any (ab i)
theorem FX{ids:List Nat}{i:Nat}(h:gy ids i=true):i∉ids:=by
 intro hm;have:ids.any (ab i)=true:=mJ.2 ⟨i,hm,by simp⟩;simp[gy,this]at h
theorem FY{E:Env}{H:List al}(hH:E.H=ai H)(HE:au E){ids:List Nat}(hn:ids.Nodup){os:List cM}{g:List G}(h:iX H (bh H ids) (gy ids) os ids=some (true,g))(rest:List G) :
  iE H (bh H ids) (gy ids) (bE os (g++rest)) E (gx E (ai (ca (bE os (g++rest)) os (g++rest))) ids) ∧
   au (gx E (ai (ca (bE os (g++rest)) os (g++rest))) ids):=by
 obtain⟨p0,p1,p2,p3⟩:=rO h rest (bE os (g++rest));generalize I:gx E (ai (ca (bE os (g++rest)) os (g++rest))) ids=E0;have hElen:E.loc.length=H.length:=by rw[HE.len,hH,ef]
 have eids:(bh H ids).ids=ids:=rfl;have Y:∀ j x,E0.loc[j]? = some x→j<ids.length∧∃ i,ids[j]? = some i∧E.loc.getD i none=x:=by
  intro j x F;rw[←I]at F;simp only[gx,cy]at F;obtain⟨i,h1,B⟩:=fM.1 F;exact⟨aM h1,i,h1,B⟩
 have getD_some:∀{i:Nat} {x:Nat × Nat},E.loc.getD i none=some x→E.loc[i]? = some (some x):=by
  intro i x F;rw[cG]at F;cases he:E.loc[i]? with
  |none=>rw[he]at F; cases F
  |some y=>rw[he]at F; simp at F; rw[F]
 have hown:∀ b,E0.own b→E.own b:=by
  rintro b (⟨j,c,A⟩|⟨l,k,c,A⟩)
  ·obtain ⟨_, i, _, B⟩ := Y j _ A
   exact .inl ⟨i,c,getD_some B⟩
  ·rw [← I] at A
   exact .inr ⟨l,k,c,(A8 A).1⟩
 have hw:E0.w=E.w:=by rw[←I]; rfl
 have hX:E0.X.x=E.X.x:=by rw[←I]; rfl
 have W:∀(l k:Nat) q,(E0.X.r l)[k]? = some (some q)→(E.X.r l)[k]? = some (some q)∧∃(j:Nat) (o:af),E0.H[j]? = some o∧o.label=some l:=fun l k q hq=>by
  rw[←I]at hq⊢;exact A8 hq
 have hatl:∀ j,j<ids.length→ids[j]? = some ((bh H ids).at j):=fun j A=>gP (e:=bh H ids) A;have hobjs:∀ j,j<ids.length→∃ sh o g1 M,os[j]? = some sh∧H[(bh H ids).at j]? = some o∧iD H (bh H ids) (gy ids) sh o=some (true,g1) ∧
   (ca (bE os (g++rest)) os (g++rest))[j]? = some (fe (bE os (g++rest)) sh (g1++M)) ∧
   (bE os (g++rest)).ae j=sh.up∧∀ ks v rows,o=.vec ks v rows→(bE os (g++rest)).len j=rows.length:=by
  intro j A;have hj':j<os.length:=by omega
  obtain⟨i,o,g1,M,q1,N,U,O,q5,q6⟩:=p3 j os[j] (bA hj');rw[hatl j A]at q1;cases q1;exact⟨os[j],o,g1,M,bA hj',N,U,O,q5,q6⟩
 have hK:iE H (bh H ids) (gy ids) (bE os (g++rest)) E E0:=by
  refine⟨hH,HE,fun i hi b n R=>?_,⟨fun b R=>⟨⟨by rw[hw]; exact R.1,fun J=>R.2.1 (hown b J),by rw[hX]; exact R.2.2⟩,by rw[hw]⟩,hw,fun j A=>?_,fun j o l h1 B=>by rw[←I]at h1⊢; exact XH h1 B⟩,fun j o J=>?_⟩
  ·refine ⟨by rw [hw]; exact (HE.lt _ _ _ R).1, ?_, by rw [hX]; exact (HE.lt _ _ _ R).2⟩
   rintro(⟨j,c,A⟩|⟨l,k,c,A⟩)
   case inr=>exact HE.dy _ _ _ _ _ _ R (W l k _ A).1
   obtain⟨_,i',h1,B⟩:=Y j _ A;have:=HE.inj _ _ _ _ _ R (getD_some B);subst this;exact FX hi (fy h1)
  ·rw [← I]
   simp only[gx,cy,hatl j A,iO];have hlt:(bh H ids).at j<E.loc.length:=by
    obtain⟨sh,o,g1,M,_,N,_⟩:=hobjs j A;rw[hElen];exact aM N
   rw[cG,bA hlt];rfl
  ·have A:j<ids.length:=by
    rcases kI j ids.length with hlt|hge
    ·exact hlt
    ·have h1 := aM J
     have B:=rJ (e:=bh H ids) hge;have h3:(bh H ids).base=H.length:=rfl;omega
   refine⟨A,?_⟩;obtain⟨sh,o',g1,M,q1,N,U,O,q5,q6⟩:=hobjs j A;rw[J]at N;cases N;obtain⟨r1,r2,r3⟩:=w_ (lens:=bE os (g++rest)) (d:=g1++M) U;refine⟨r1,⟨_,?_,by rw[q5]; exact r2⟩,q6,fun hv=>by rw[q5]; exact r3 hv⟩;rw[←I];exact bx O
 have hlabs:∀(j:Nat) o,E0.H[j]? = some o→j<ids.length∧∃ o',E.H[(bh H ids).at j]? = some o'∧o'.label=o.label:=fun j o J=>by
  rw[←I]at J;simp only[gx,ai,cy]at J;obtain⟨o',h1,rfl⟩:=fM.1 J;have A:j<ids.length:=by
   have:=aM h1;omega
  obtain⟨sh,oo,g1,M,q1,N,U,O,_⟩:=hobjs j A;rw[h1]at O;cases O;exact⟨A,oo.den,by rw[hH]; exact bx N,by rw[FQ U,pZ]⟩
 refine⟨hK,?_,?_,?_,fun b F=>?_,fun j o J=>?_,HE.fB.bJ hK.dC.bJ,fun l k l' k' b m n h1 B=>HE.fC l k l' k' b m n (W _ _ _ h1).1 (W _ _ _ B).1,fun i b m l k n hi B=>?_,fun l k b m h1=>by rw[hw,hX]; exact HE.cT l k b m (W _ _ _ h1).1,fun i j o o' l hi A h1 B=>?_,fun l hn k q hq=>?_⟩
 ·rw [← I]
  simp only[gx,bu,ef,p2,p1]
 ·intro i j b m n hi A
  obtain⟨i1,i2,i3,i4⟩:=Y i _ hi;obtain⟨j1,j2,j3,j4⟩:=Y j _ A;have:=HE.inj _ _ _ _ _ (getD_some i4) (getD_some j4);subst this;exact(Ky i1 hn).1 (by rw[i3,j3])
 ·intro i b m hi
  obtain⟨_,i2,_,i4⟩:=Y i _ hi;rw[hw,hX];exact HE.lt _ _ _ (getD_some i4)
 ·rw [hw]
  rw[hX]at F;exact HE.X b F
 ·rw [← I] at J
  simp only[gx,ai,cy]at J;obtain⟨o',h1,rfl⟩:=fM.1 J;have A:j<ids.length:=by
   have:=aM h1;omega
  obtain⟨sh,oo,g1,M,q1,N,U,O,q5,q6⟩:=hobjs j A;rw[h1]at O;cases O;refine FU hK U M (by exact A) (fun l hl=>?_) (HE.obj _ _ (by rw[hH]; exact bx N));refine hK.dC.jN j (fe (bE os (g++rest)) sh (g1++M)).den l ?_ (by rw[pZ,hl]);rw[←I];exact bx h1
 ·obtain ⟨_, i', _, h3⟩ := Y i _ hi
  exact HE.dy _ _ _ _ _ _ (getD_some h3) (W _ _ _ B).1
 ·obtain ⟨i1, oi, a1, a2⟩ := hlabs i o hi
  obtain⟨j1,oj,b1,b2⟩:=hlabs j o' A;have:=HE.uniq _ _ _ _ l a1 b1 (by rw[a2,h1]) (by rw[b2,B]);exact(Ky i1 hn).1 (by rw[hatl i i1,hatl j j1,this])
 ·obtain ⟨_, j, o, h1, B⟩ := W l k q hq
  exact hn j o h1 B
def nodupB:List Nat→Bool
 | []=>true
 |i::is => !is.any (ab i)&&nodupB is
theorem p9:∀{l:List Nat},nodupB l=true→l.Nodup
 | [],_=>List.nodup_nil
 | i::is,h=>by
  simp only[nodupB,ay,ka]at h;refine kg.2 ⟨fun hm=>?_,p9 h.2⟩;have:is.any (ab i)=true:=mJ.2 ⟨i,hm,by simp⟩;rw[h.1]at this;cases this
def nl(H:List al):Nat→Nat→List Nat→List cM→Bool
 |_,0,_,_=>true
 |i,m+1,id::ids,o::os=>ab id i&&((ab (rM H i) 0 || !ab o.up 0)&&nl H (i+1) m ids os)
 |_,_,_,_=>false
theorem xc{H:List al}:∀{i m:Nat} {ids:List Nat} {os:List cM},nl H i m ids os=true→∀ j,j<m→ids[j]? = some (i+j)∧∃ o,os[j]? = some o∧(rM H (i+j)=0∨o.up≠0)
 |_,0,_,_,_,j,g=>by omega
 | i,m+1,id::ids,o::os,h,j,g=>by
  simp only[nl,ay,Bool.or_eq_true,ka]at h;obtain⟨h1,d,k⟩:=h;have h1:=bD h1;subst h1;cases j with
  | zero =>
   refine⟨rfl,o,rfl,?_⟩;rcases d with d|d
   ·exact .inl (bD d)
   ·right
    intro e;rw[e]at d;cases d
  | succ j =>
   have:=xc k j (by omega);rw[show id+1+j=id+(j+1) from by omega]at this;simpa using this
 |_,_+1,[],_,h,_,_=>by simp[nl]at h
 |_,_+1,_::_,[],h,_,_=>by simp[nl]at h
theorem FZ{E:Env}{H:List al}(hH:E.H=ai H){ids:List Nat}{os:List cM}{m:Nat}{lens:dm}{E0:Env}(B:iE H (bh H ids) (gy ids) lens E E0)(M:E0.X.x=E.X.x∧E0.X.z=E.X.z)
  (hrl:∀ l h,h<(E.X.r l).length→h<(E0.X.r l).length∧∀ q,(E0.X.r l)[h]? = some (some q)→(E.X.r l)[h]? = some (some q))
  (aL:nl H 0 m ids os=true) (W:∀ j,j<m→∃ o sh,H[(bh H ids).at j]? = some o∧os[j]? = some sh∧lens.ae j=sh.up) (Y:∀ b,E0.own b→E.own b):E.dv m E0:=by
 have key:∀ id,id<m→(bh H ids).at id=id∧∃ o sh,H[id]? = some o∧os[id]? = some sh∧lens.ae id=sh.up∧(rL o=0∨sh.up≠0)∧A7 E0 lens id o∧id<ids.length:=by
  intro id hid;obtain⟨h1,o',N,k⟩:=xc aL id hid;rw[dJ]at h1 k;have I:=aM h1;have d:=gP (e:=bh H ids) (j:=id) I;rw[show (bh H ids).ids=ids from rfl,h1]at d;have d:=(nT d).symm;obtain⟨o,sh,g,A,F⟩:=W id hid;obtain⟨r1,r2⟩:=B.obj id o g;rw[d]at g;rw[N]at A;have A:=nT A;rw[←A]at F;refine⟨d,o,o',g,N,F,?_,r2,I⟩;rcases k with k|k
  ·left
   simpa[rM,g]using k
  ·exact .inr k
 refine⟨fun id hid hp=>?_,by rw[B.dC.w]; exact aI _,fun b _ _=>by rw[B.dC.w],fun b _ hb ho=>hb (Y b ho),fun id hid hp hl=>?_,fun b _=>by rw[M.1,M.2]; exact⟨Iff.rfl,Iff.rfl⟩,hrl,by rw[B.dC.w]; exact⟨rfl,rfl,rfl,by first|exact fun _=>aI _|exact fun _=>eB _ _⟩⟩
 ·obtain ⟨_, o, sh, g, A, F, O, J, _⟩ := key id hid
  obtain⟨o0,r1,r2⟩:=J.obj;exact⟨o0,r1,fun v _=>kL v⟩
 ·obtain ⟨d, o, sh, g, A, F, O, J, I⟩ := key id hid
  obtain⟨o0,r1,r2⟩:=J.obj;obtain⟨o1,r3,R⟩:=hl;rw[r1]at r3;cases r3;rw[r2]at R;have U:lens.ae id=0:=nT R;rw[F]at U;have hv:rL o=0:=O.resolve_right (fun h=>h U);refine⟨⟨o.den,by rw[hH]; exact bx g,by rw[J.ae,hv]⟩,?_⟩;have:=B.dC.loc id I;rw[d]at this;exact this
structure lj where
 n:Nat
 xd:List (Nat × Sh)
 aO:List cM
def uf:Nat→List (Nat × Sh)→List AV→AV
 | i,(j,_)::ss,v::vs=>match ab i j with
  |true=>v
  |false=>uf i ss vs
 |_,_,_=>.undef
def aF(S:lj)(d:List G):ao :=
 ⟨(fK S.n).map fun i=>uf i S.xd (dH (bE S.aO d) (S.xd.map (·.2)) (dB (lb S.aO) d)),ca (bE S.aO d) S.aO d⟩
def F0(m:Nat)(S:lj)(ids:List Nat)(s:ao):Option (Bool × List G) :=
 match ab s.fr.length S.n&&(nodupB ids&&nl s.H 0 m ids S.aO)with
 |false=>none
 | true=>match iX s.H (bh s.H ids) (gy ids) S.aO ids,eG s.H (bh s.H ids) (gy ids) (S.xd.map (·.2)) (S.xd.map fun p=>s.fr.getD p.1 .undef) with
  |some (b,g),some (d,k)=>some (b&&d,g++k)
  |_,_=>none
theorem M6{E:Env}:∀{ss:List (Nat × Sh)} {vs:List AV} {cs:List Value} {i:Nat} {c:Value},(∀(k:Nat) (p:Nat × Sh) (v:AV),ss[k]? = some p→vs[k]? = some v→∀ c,cs[p.1]? = some c→rel E v c)→cs[i]? = some c →
  rel E (uf i ss vs) c
 | [],_,_,_,_,_,_=>by simp[uf,rel]
 |_::_,[],_,_,_,_,_=>by simp[uf,rel]
 | (j,sh)::ss,v::vs,cs,i,c,h,hc=>by
  simp only[uf];split
  ·rename_i e
   have e:=bD e;subst e;exact h 0 (i,sh) v rfl rfl c hc
  ·exact M6 (fun k p v hk d=>h (k+1) p v (by simpa using hk) (by simpa using d)) hc
theorem XJ{m:Nat}{S:lj}{ids:List Nat}{s:ao}{d:List G}(h:F0 m S ids s=some (true,d)):bQ m s.den (aF S d).den:=fun E a hs=>by
 unfold F0 at h;split at h
 ·cases h
 rename_i hc;simp only[ay]at hc;obtain⟨hlen,A,aL⟩:=hc;have hlen:=bD hlen;have A:=p9 A;split at h
 case h_2=>cases h
 rename_i b g b' q h1 M;simp only[aX,be,ay]at h;obtain⟨⟨rfl,rfl⟩,rfl⟩:=h;have hH:E.H=ai s.H:=hs.H;obtain⟨F,O⟩:=FY hH hs.heap A h1 q;obtain⟨p0,p1,p2,Y⟩:=rO h1 q (bE S.aO (g++q));have hd:dB (lb S.aO) (g++q)=q:=by rw[←p0]; exact nj g q
 have N:=rN F M [];rw[gH]at N;obtain⟨q1,q2,q3,q4⟩:=N;refine⟨ids.map fun i=>E.loc.getD i none,E.X.re (nk E (aF S (g++q)).den.H),⟨rfl,?_,hs.defers,O⟩,?_⟩
 ·have R : ad E s.fr a.tmps.toList := hs.fr
  obtain⟨f1,f2⟩:=nV.1 R;refine nV.2 ⟨?_,fun i x c hi hc=>?_⟩
  ·simp only [ao.den, aF, bu, List.length_range]
   omega
  ·simp only [ao.den, aF, hd, cy] at hi
   obtain⟨i',B,rfl⟩:=fM.1 hi;have U:i<S.n:=by
    have:=aM B;simpa using this
   rw[List.getElem?_range U]at B;cases B;refine M6 (cs:=a.tmps.toList) (fun k p v hk hv c hc=>?_) hc;have W:(S.xd.map fun p=>s.fr.getD p.1 .undef)[k]? = some (s.fr.getD p.1 .undef):=by simp[hk]
   have hx:rel E (s.fr.getD p.1 .undef) c:=by
    have I:=aM hc;rw[←f1]at I;have e1:s.fr[p.1]? = some (s.fr.getD p.1 .undef):=by
     rw[cG,bA I];rfl
    exact f2 p.1 _ c e1 hc
   exact M4 F M W (by rw[gH]; exact hv) hx
 ·exact FZ hH F ⟨rfl,rfl⟩ (FV E _ ids) aL (fun j hj=>by
   obtain⟨r1,o',r2,_⟩:=xc aL j hj;obtain⟨i,o,g1,rest1,t1,t2,t3,t4,t5,t6⟩:=Y j o' r2;have J:=gP (e:=bh s.H ids) (j:=j) (aM t1);rw[show (bh s.H ids).ids=ids from rfl,t1]at J;cases J;exact⟨o,o',t2,r2,t5⟩) (fun b=>FW)
def F1(slot:Nat)(s:ao):ao :=
 match s.fr.getD slot .undef with
 | .vec w id ae off n=>match s.H[id]? with
  |some (.vec ks v rows)=>if ae=v∧off=0∧w=ks.length then ⟨s.fr.set slot (.vec w id (v+1) 0 n),s.H.set id (.vec ks (v+1) (rows.take n))⟩ else s
  |_=>s
 |_=>s
theorem A9{E:Env}{a:AV}:∀{fr:List AV} {cs:List Value} {i:Nat},ad E fr cs→(∀ c,cs[i]? = some c→rel E a c)→ad E (fr.set i a) cs
 | [],cs,i,h,_=>by simpa using h
 |x::fr,[],i,h,_=>by simp[ad]at h
 | x::fr,c::cs,0,h,d=>by
  simp only[ad]at h;simp only[List.set_cons_zero,ad];exact⟨d c rfl,h.2⟩
 | x::fr,c::cs,i+1,h,d=>by
  simp only[ad]at h;simp only[List.set_cons_succ,ad];exact⟨h.1,A9 h.2 fun y g=>d y (by simpa using g)⟩
theorem F2{E:Env}{fr:List AV}{cs:List Value}{i:Nat}{c:Value}(h:ad E fr cs)(hc:cs[i]? = some c):rel E (fr.getD i .undef) c:=by
 obtain⟨h1,g⟩:=nV.1 h;have d:=aM hc;rw[←h1]at d;have k:fr[i]? = some (fr.getD i .undef):=by
  rw[cG,bA d];rfl
 exact g i _ c k hc
theorem XK{m:Nat}{slot:Nat}{s:ao}:bQ m s.den (F1 slot s).den:=by
 unfold F1;split
 case h_2=>exact bQ.refl _
 rename_i w id ae off n U;split
 case h_2=>exact bQ.refl _
 rename_i ks v rows hid;split
 case isFalse=>exact bQ.refl _
 rename_i hc;obtain⟨rfl,rfl,rfl⟩:=hc;intro E a hs;have hH:E.H=ai s.H:=hs.H;have k:E.H[id]? = some (.vec ks.length ae (rows.map (aG ks))):=by rw[hH]; exact bx hid
 have O:=hs.heap.obj id _ k;obtain⟨l,q⟩:∃ l,E.loc[id]? = some l:=by
  have:id<E.loc.length:=by rw[hs.heap.len]; exact aM k
  exact⟨_,bA this⟩
 have I:E.loc.set id l=E.loc:=mX q;have F:ai (s.H.set id (.vec ks (ae+1) (rows.take n)))=E.H.set id (.vec ks.length (ae+1) ((rows.take n).map (aG ks))):=by rw[eE,hH]; rfl
 have W:∀ b n,l=some (b,n)→E.w.heap.size≤b∨∃ m,E.loc[id]? = some (some (b,m)):=fun b n A=>.inr ⟨n,by rw[q,A]⟩;have J:∀ v u,(af.vec ks.length (ae+1) ((rows.take n).map (aG ks))).aJ = some v→(af.vec ks.length ae (rows.map (aG ks))).aJ = some u→u≤v:=by
  intro v u h1 d;simp[af.aJ]at h1 d;omega
 have M:∀ v,(af.vec ks.length (ae+1) ((rows.take n).map (aG ks))).aJ = some v→∀ u,(af.vec ks.length ae (rows.map (aG ks))).aJ = some u→u<v:=by
  intro v h1 u d;simp[af.aJ]at h1 d;omega
 have hle:=Env.lU (o':=.vec ks.length (ae+1) ((rows.take n).map (aG ks))) (l:=l) (w':=E.w) k hs.heap.len (aI _) (fun _ _ _=>rfl) W (.inr M) J (fun h=>by simp[af.aJ]at h);have N:=au.nX (o':=.vec ks.length (ae+1) ((rows.take n).map (aG ks))) (l:=l) (w':=E.w) hs.heap k (aI _) (fun _ _ _=>rfl) (fun b n A=>.inr ⟨n,by rw[q,A]⟩) (.inr M) J (fun h=>by simp[af.aJ]at h) (by
  rw[I]at hle⊢;simp only[aU]at O⊢;rcases O with⟨h1,d⟩|⟨b,mm,h1,d,B,h4,R⟩
  ·left
   refine⟨h1,?_⟩;have:rows=[]:=by simpa using d
   rw[this];simp
  ·right
   refine⟨b,mm,h1,d,by simp at B⊢; omega,?_,?_⟩
   ·intro r hr
    obtain⟨g,_,rfl⟩:=bR.1 hr;exact gl ks g
   ·rw [mR] at R ⊢
    intro i r hi;simp only[cy,nK]at hi;split at hi
    ·obtain ⟨g1, g2⟩ := R i r (by simpa using hi)
     exact⟨g1,vV (fun a c hr=>cR hle a hr) rfl g2⟩
    ·simp at hi)
 rw[I]at hle N;refine⟨E.loc,E.X,?_,?_⟩
 ·simp only [ao.den]
  rw[F];refine⟨rfl,?_,hs.defers,N⟩;refine A9 (eP hle _ hs.fr) fun c hc=>?_;have hr:=F2 hs.fr hc;rw[show s.den.fr=s.fr from rfl,U]at hr;simp only[rel]at hr⊢;obtain⟨h1,d,B⟩:=hr;exact⟨h1,⟨.vec ks.length (ae+1) ((rows.take n).map (aG ks)),cO (aM k),fun v Y=>by simp[af.aJ]at Y; omega⟩,fun _=>B ⟨_,k,rfl⟩⟩
 ·simp only [ao.den]
  rw[F];exact hle.toM
end Go.AL

namespace Go.AL
open Go
variable [Dr]
def Tree.leaf{β:Type}(f:bB→ao→Option (Bool × β)):Tree→Option β
 |.fail=>none
 | .done x s=>match f x s with
  |some (b,r)=>bif b then some r else none
  |none=>none
 |.ask b t e=>bif b then t.leaf f else e.leaf f
 |.side b t=>bif b then t.leaf f else none
theorem iY{β:Type}{f:bB→ao→Option (Bool × β)}:∀{t:Tree} {r:β},t.leaf f=some r→t.holds fun x s=>f x s=some (true,r)
 |.fail,_,h=>by cases h
 | .done x s,r,h=>by
  simp only[Tree.leaf]at h;split at h
  ·rename_i b r' d
   cases b with
   |true=>cases h; exact d
   |false=>cases h
  ·cases h
 | .ask b t e,r,h=>by
  cases b with
  |true=>exact⟨fun _=>iY (t:=t) h,fun h=>by cases h⟩
  |false=>exact⟨fun h=>(nomatch h),fun _=>iY (t:=e) h⟩
 | .side b t,r,h=>by
  cases b with
  |true=>exact And.intro rfl (iY (t:=t) h)
  |false=>cases h
inductive iF where
 |fix (i:Nat)
 |slot (i:Nat)
 |cap (i c:Nat)
 |cell (j c:Nat)
 |A_ (j c k:Nat)
def A':AV→Option Nat
 |.ptr id _ _ _ _=>some id
 |.vec _ id _ _ _=>some id
 |.map id=>some id
 |_=>none
def Ba(H:List al)(vals:Nat→AV)(acc:List Nat):iF→Option Nat
 |.fix i=>some i
 |.slot i=>A' (vals i)
 | .cap i c=>match vals i with
  |.clo _ cs=>A' (cs.getD c .undef)
  |_=>none
 | .cell j c=>match H[acc.getD j 0]? with
  |some (.raw (.box cells))=>A' (cells.getD c .undef)
  |_=>none
 | .A_ j c k=>match H[acc.getD j 0]? with
  | some (.raw (.box cells))=>match cells.getD c .undef with
   |.clo _ cs=>A' (cs.getD k .undef)
   |_=>none
  |_=>none
def iZ(H:List al)(vals:Nat→AV):List iF→List Nat→Option (List Nat)
 | [],acc=>some acc
 | p::ps,acc=>match Ba H vals acc p with
  |some i=>iZ H vals ps (acc++[i])
  |none=>none
structure ug where
 x:bB
 S:lj
 ps:List iF
structure bq where
 key:Nat
 opens:List (Nat × List Kd)
 inv:lj
 ps:List iF
 outs:List ug
 st:List G→Option (Option Nat × List G)
def rP(st:List G→Option (Option Nat × List G)):Nat→List G→Option (Nat × List G)
 |0,_=>none
 | n+1,d=>match st d with
  |some (none,d')=>rP st n d'
  |some (some x,d')=>some (x,d')
  |none=>none
def cd(st:List G→Option (Option Nat × List G))(d:List G):Option (Nat × List G):=rP st 1000000 d
def F3(r:Option (Nat × List G)):Nat:=match r with
 |some (x,_)=>x
 |none=>0
def F4(r:Option (Nat × List G)):List G:=match r with
 |some (_,d)=>d
 |none=>[]
def gg(m:Nat)(S:lj)(ps:List iF)(s:ao):Option (Bool × List G) :=
 match iZ s.H (fun i=>s.fr.getD i .undef) ps []with
 |some ids=>F0 m S ids s
 |none=>none
theorem jr{m:Nat}{S:lj}{ps:List iF}{s:ao}{d:List G}(h:gg m S ps s=some (true,d)):bQ m s.den (aF S d).den:=by
 unfold gg at h;split at h
 ·exact XJ h
 ·cases h
def fR:List (Nat × List Kd)→ao→ao
 | [],s=>s
 | (i,ks)::r,s=>match db 1000000 i with
  |true=>fR r (F1 (i-1000000) s)
  | false=>match isNil (s.fr.getD i .undef) with
   |true=>fR r (w9 i ks s)
   |false=>fR r s
theorem lk{m:Nat}:∀(l:List (Nat × List Kd)) (s:ao),bQ m s.den (fR l s).den
 | [],s=>bQ.refl _
 | (i,ks)::r,s=>by
  simp only[fR];split
  ·exact XK.trans (lk r _)
  ·split
   ·rename_i h
    exact(MN h).trans (lk r _)
   ·exact lk r s
def rQ(m:Nat):List ug→Nat→bB→ao→Option (Bool × (Option Nat × List G))
 | [],_,_,_=>none
 | o::os,i,x,s=>match decide (x=o.x) with
  | true=>match gg m o.S o.ps s with
   |some (b,d)=>some (b,(some i,d))
   |none=>none
  |false=>rQ m os (i+1) x s
def Bb(m:Nat)(sp:bq)(x:bB)(s:ao):Option (Bool × (Option Nat × List G)) :=
 match x with
 | .normal=>match gg m sp.inv sp.ps s with
  |some (b,d)=>some (b,(none,d))
  |none=>none
 |x=>rQ m sp.outs 0 x (fR sp.opens s)
theorem Bc{m:Nat}:∀{os:List ug} {i:Nat} {x:bB} {s:ao} {b:Bool} {k:Option Nat} {d:List G},rQ m os i x s=some (b,(k,d)) →
  ∃ j o,os[j]? = some o∧k=some (i+j)∧x=o.x∧gg m o.S o.ps s=some (b,d)
 | [],_,_,_,_,_,_,h=>by cases h
 | o::os,i,x,s,b,k,d,h=>by
  simp only[rQ]at h;split at h
  ·rename_i g
   split at h
   ·rename_i F d' hr
    cases h;exact⟨0,o,rfl,rfl,of_decide_eq_true g,hr⟩
   ·cases h
  ·obtain ⟨j, o', h1, q, A, B⟩ := Bc h
   exact⟨j+1,o',by simpa using h1,by rw[q]; congr 1; omega,A,B⟩
section loops
variable {P:Program} {τ:ah} {L:LT} {m:Nat} {c:Code} {sp:bq}
def cW(P:Program)(τ:ah)(L:LT)(m:Nat)(c:Code)(sp:bq):Prop:=∀ d,(bW P τ L c (aF sp.inv d) .done).leaf (Bb m sp)=sp.st d
theorem M7(hm:P.follows .mixedOrders=true)(q:aj P τ)(A:ax P m L c)(hr:cW P τ L m c sp){d d':List G}{k:Option Nat}(h:sp.st d=some (k,d')) :
  (k = none ∧ cn P m c (aF sp.inv d).den .normal (aF sp.inv d').den) ∨
   ∃ j o,k=some j∧sp.outs[j]? = some o∧o.x≠.normal∧cn P m c (aF sp.inv d).den o.x (aF o.S d').den:=by
 rw[←hr d]at h;obtain⟨x,s1,h1,g⟩:=dS hm q c (aF sp.inv d) .done A (Q:=fun x s=>Bb m sp x s=some (true,(k,d'))) (iY h);have g:Bb m sp x s1=some (true,(k,d')):=g;unfold Bb at g;split at g
 ·split at g
  ·rename_i b d2 B
   cases g;exact .inl ⟨rfl,rm h1 (jr B)⟩
  ·cases g
 ·rename_i F
  obtain⟨j,o,g1,g2,rfl,g4⟩:=Bc g;exact .inr ⟨j,o,by simpa using g2,g1,fun e=>F e,rm h1 ((lk sp.opens s1).trans (jr g4))⟩
theorem M8(hm:P.follows .mixedOrders=true)(g:aj P τ)(k:ax P m L c)(hr:cW P τ L m c sp):∀(n:Nat) {d d':List G} {x:Nat},rP sp.st n d=some (x,d') →
  ∃ o,sp.outs[x]? = some o∧kV P m c (aF sp.inv d).den o.x (aF o.S d').den
 |0,_,_,_,h=>by cases h
 | n+1,d,d',x,h=>by
  simp only[rP]at h;split at h
  ·rename_i d1 h1
   rcases M7 hm g k hr h1 with⟨_,q⟩|⟨_,_,hk,_⟩
   ·obtain ⟨o, g1, g2⟩ := M8 hm g k hr n h
    exact⟨o,g1,.next q g2⟩
   ·cases hk
  ·rename_i A d1 h1
   cases h;rcases M7 hm g k hr h1 with⟨hk,_⟩|⟨j,o,hk,g1,g2,g3⟩
   ·cases hk
   ·cases hk
    exact⟨o,g1,.stop g3 g2⟩
  ·cases h
def xe(r:Option (Nat × List G)):List ug→Nat→Tree
 | [],_=>.fail
 | [o],_=>.done o.x (aF o.S (F4 r))
 |o::os,i=>.ask (ab (F3 r) i) (.done o.x (aF o.S (F4 r))) (xe r os (i+1))
theorem Bd{x:Nat}{d:List G}{Q:bB→ao→Prop}:∀{os:List ug} {i j:Nat} {o:ug},os[j]? = some o→x=i+j→(xe (some (x,d)) os i).holds Q→Q o.x (aF o.S d)
 | [],_,_,_,h,_,_=>by simp at h
 | [o],i,j,o',h,k,g=>by
  cases j with
  | zero =>
   simp at h;subst h;exact g
  |succ j=>simp at h
 | o::o2::os,i,j,o',h,k,g=>by
  simp only[xe,Tree.holds]at g;cases j with
  | zero =>
   simp at h;subst h;exact g.1 (by simp only[F3]; rw[k]; simp)
  | succ j =>
   refine Bd (os:=o2::os) (i:=i+1) (j:=j) (by simpa using h) (by omega) (g.2 ?_);have:x≠i:=by omega
   exact UM.2 fun e=>this (bD e)
def F5(m:Nat)(sp:bq)(s:ao):Option Tree :=
 match gg m sp.inv sp.ps (fR sp.opens s)with
 |some (b,d)=>some (.side (xa b (cd sp.st d).isSome) (xe (cd sp.st d) sp.outs 0))
 |none=>none
theorem XL(hm:P.follows .mixedOrders=true)(A:aj P τ)(B:ax P m L c)(hr:cW P τ L m c sp){s:ao}{t:Tree}(h:F5 m sp s=some t):Mt P m c s t:=by
 unfold F5 at h;split at h
 case h_2=>cases h
 rename_i b d F;cases h;intro Q k;simp only[Tree.holds,xb,ay]at k;obtain⟨⟨rfl,h1⟩,q⟩:=k;cases g:cd sp.st d with
 |none=>rw[g]at h1; cases h1
 | some r =>
  obtain⟨x,d'⟩:=r;obtain⟨o,g1,g2⟩:=M8 hm A B hr 1000000 g;exact⟨o.x,_,g2.pre ((lk sp.opens s).trans (jr F)),Bd g1 (dJ x).symm (by rw[g]at q; exact q)⟩
def LT.add(L:LT)(m:Nat)(sp:bq):LT:=⟨fun k s=>match ab k sp.key with
 |true=>F5 m sp s
 |false=>L.loops k s,L.pre,L.wZ⟩
theorem p_:∀{c:Code} {k:Nat} {g:Code},(k,g)∈bH c→∀ p,p∈bH g→p∈bH c
 | .seq a b,k,g,h,p,d=>by
  simp only[bH,bV]at h⊢;rcases h with h|h
  ·exact .inl (p_ h p d)
  ·exact .inr (p_ h p d)
 | .cond _ a b,k,g,h,p,d=>by
  simp only[bH,bV]at h⊢;rcases h with h|h
  ·exact .inl (p_ h p d)
  ·exact .inr (p_ h p d)
 | .block _ c,k,g,h,p,d=>by
  simp only[bH]at h⊢;exact p_ h p d
 | .loop c,k,g,h,p,d=>by
  simp only[bH]at h⊢;split at h
  ·rename_i i hi
   rcases bC.1 h with e|h
   ·cases e
    exact bS _ d
   ·exact bS _ (p_ h p d)
  ·exact p_ h p d
 |.skip,_,_,h,_,_=>by simp[bH]at h
 |.region ..,_,_,h,_,_=>by simp[bH]at h
 |.exit _,_,_,h,_,_=>by simp[bH]at h
 |.ret,_,_,h,_,_=>by simp[bH]at h
 |.rangeFunc ..,_,_,h,_,_=>by simp[bH]at h
 |.scope _,_,_,h,_,_=>by simp[bH]at h
 |.label _,_,_,h,_,_=>by simp[bH]at h
 |.goto _,_,_,h,_,_=>by simp[bH]at h
 |.refuse _,_,_,h,_,_=>by simp[bH]at h
theorem qa:∀{c:Code} {k:Nat} {g:Code},(k,g)∈bH c→∀ p,p∈bG g→p∈bG c
 | .seq a b,k,g,h,p,d=>by
  simp only[bH,bG,bV]at h⊢;rcases h with h|h
  ·exact .inl (qa h p d)
  ·exact .inr (.inr (qa h p d))
 | .cond _ a b,k,g,h,p,d=>by
  simp only[bH,bG,bV]at h⊢;rcases h with h|h
  ·exact .inl (qa h p d)
  ·exact .inr (qa h p d)
 | .block _ c,k,g,h,p,d=>by
  simp only[bH,bG]at h⊢;exact qa h p d
 | .loop c,k,g,h,p,d=>by
  simp only[bH,bG]at h⊢;split at h
  ·rename_i i hi
   rcases bC.1 h with e|h
   ·cases e
    exact d
   ·exact qa h p d
  ·exact qa h p d
 |.skip,_,_,h,_,_=>by simp[bH]at h
 |.region ..,_,_,h,_,_=>by simp[bH]at h
 |.exit _,_,_,h,_,_=>by simp[bH]at h
 |.ret,_,_,h,_,_=>by simp[bH]at h
 |.rangeFunc ..,_,_,h,_,_=>by simp[bH]at h
 |.scope _,_,_,h,_,_=>by simp[bH]at h
 |.label _,_,_,h,_,_=>by simp[bH]at h
 |.goto _,_,_,h,_,_=>by simp[bH]at h
 |.refuse _,_,_,h,_,_=>by simp[bH]at h
theorem qc:∀{c:Code} {k:Nat} {g:Code},(k,g)∈bG c→∀ p,p∈bH g→p∈bH c
 | .seq a b,k,g,h,p,d=>by
  simp only[bH,bG,bV]at h⊢;rcases h with h|h|h
  ·exact .inl (qc h p d)
  ·right
   split at h
   ·rcases bC.1 h with e | h
    ·cases e
     exact d
    ·cases h
   ·cases h
  ·exact .inr (qc h p d)
 | .cond _ a b,k,g,h,p,d=>by
  simp only[bH,bG,bV]at h⊢;rcases h with h|h
  ·exact .inl (qc h p d)
  ·exact .inr (qc h p d)
 | .block _ c,k,g,h,p,d=>by
  simp only[bH,bG]at h⊢;exact qc h p d
 | .loop c,k,g,h,p,d=>by
  simp only[bG]at h;have:=qc h p d;simp only[bH];split
  ·exact bS _ this
  ·exact this
 |.skip,_,_,h,_,_=>by simp[bG]at h
 |.region ..,_,_,h,_,_=>by simp[bG]at h
 |.exit _,_,_,h,_,_=>by simp[bG]at h
 |.ret,_,_,h,_,_=>by simp[bG]at h
 |.rangeFunc ..,_,_,h,_,_=>by simp[bG]at h
 |.scope _,_,_,h,_,_=>by simp[bG]at h
 |.label _,_,_,h,_,_=>by simp[bG]at h
 |.goto _,_,_,h,_,_=>by simp[bG]at h
 |.refuse _,_,_,h,_,_=>by simp[bG]at h
theorem qd:∀{c:Code} {k:Nat} {g:Code},(k,g)∈bG c→∀ p,p∈bG g→p∈bG c
 | .seq a b,k,g,h,p,d=>by
  simp only[bG,bV]at h⊢;rcases h with h|h|h
  ·exact .inl (qd h p d)
  ·right
   right;split at h
   ·rcases bC.1 h with e | h
    ·cases e
     exact d
    ·cases h
   ·cases h
  ·exact .inr (.inr (qd h p d))
 | .cond _ a b,k,g,h,p,d=>by
  simp only[bG,bV]at h⊢;rcases h with h|h
  ·exact .inl (qd h p d)
  ·exact .inr (qd h p d)
 | .block _ c,k,g,h,p,d=>by
  simp only[bG]at h⊢;exact qd h p d
 | .loop c,k,g,h,p,d=>by
  simp only[bG]at h⊢;exact qd h p d
 |.skip,_,_,h,_,_=>by simp[bG]at h
 |.region ..,_,_,h,_,_=>by simp[bG]at h
 |.exit _,_,_,h,_,_=>by simp[bG]at h
 |.ret,_,_,h,_,_=>by simp[bG]at h
 |.rangeFunc ..,_,_,h,_,_=>by simp[bG]at h
 |.scope _,_,_,h,_,_=>by simp[bG]at h
 |.label _,_,_,h,_,_=>by simp[bG]at h
 |.goto _,_,_,h,_,_=>by simp[bG]at h
 |.refuse _,_,_,h,_,_=>by simp[bG]at h
def aN(fn:Func):Code:=match fn.body with
 |some c=>c
 |none=>.skip
theorem XM{fn:Func} (hn:nodupB ((bH (aN fn)).map (·.1))=true) {k:Nat} {d:Code} (h:(k,d)∈bH (aN fn)):d=cX fn k:=by
 have key:∀(l:List (Nat × Code)),(l.map (·.1)).Nodup→(k,d)∈l→l.find? (fun p=>ab p.1 k)=some (k,d):=by
  intro l
  induction l with
  |nil=>intro _ h; cases h
  | cons p l B =>
   intro g hm;simp only[dK,kg]at g;rcases bC.1 hm with rfl|hm
   ·simp
   ·have A:p.1≠k:=by
     intro e;exact g.1 (bR.2 ⟨(k,d),hm,e.symm⟩)
    have:ab p.1 k=false:=UM.2 fun e=>A (bD e);rw[aj7 (by simp[this])];exact B g.2 hm
 unfold cX;unfold aN at hn h;split
 ·rename_i c q
  rw[q]at hn h;simp only[]at hn h;rw[key _ (p9 hn) h]
 ·rename_i q
  rw[q]at h;simp[bH]at h
theorem ax.add(hm:P.follows .mixedOrders=true)(q:aj P τ){fn:Func} (hn:nodupB ((bH (aN fn)).map (·.1))=true) (g:ax P m L (aN fn)) (hr:cW P τ L m (cX fn sp.key) sp) :
  ax P m (L.add m sp) (aN fn):=by
 refine⟨fun k A hk s t d=>?_,g.2⟩;simp only[LT.add]at d;split at d
 ·rename_i e
  have e:=bD e;subst e;have B:=XM hn hk;rw[←B]at hr;exact XL hm q (g.sub (p_ hk) (qa hk)) hr d
 ·exact g.1 k A hk s t d
def cutAt(fn:Func)(k:Nat):Code:=match fn.body with
 | some c=>match (bG c).find? fun p=>ab p.1 k with
  |some (_,b)=>b
  |none=>.skip
 |none=>.skip
def ln(k:Nat):List (Nat × Code)→Bool
 | []=>true
 | p::l=>match ab p.1 k with
  |true => !l.any (fun q=>ab q.1 k)
  |false=>ln k l
theorem M9{k:Nat}{A:Code}:∀{l:List (Nat × Code)},ln k l=true→(k,A)∈l→l.find? (fun p=>ab p.1 k)=some (k,A)
 | [],_,h=>by cases h
 | p::l,d,hm=>by
  simp only[ln]at d;cases g:ab p.1 k with
  | true =>
   rw[g]at d;simp only[ka]at d;rcases bC.1 hm with rfl|hm
   ·rw[List.find?_cons_of_pos (by simp)]
   ·have : l.any (fun q => ab q.1 k) = true := mJ.2 ⟨(k, A), hm, by simp⟩
    rw[this]at d;cases d
  | false =>
   rw[g]at d;rcases bC.1 hm with rfl|hm
   ·simp at g
   ·rw [aj7 (by simp [g])]
    exact M9 d hm
theorem F6{fn:Func}{k:Nat}{g:Code} (hn:ln k (bG (aN fn))=true) (h:(k,g)∈bG (aN fn)):g=cutAt fn k:=by
 unfold cutAt;unfold aN at hn h;split
 ·rename_i c d
  rw[d]at hn h;simp only[]at hn h;rw[M9 hn h]
 ·rename_i d
  rw[d]at h;simp[bG]at h
def dD(r:Option (Option Nat × List G)):Option (Nat × List G):=match r with
 |some (some x,d)=>some (x,d)
 |_=>none
def xf(m:Nat)(sp:bq)(s:ao):Option Tree :=
 match gg m sp.inv sp.ps (fR sp.opens s)with
 |some (b,d)=>some (.side (xa b (dD (sp.st d)).isSome) (xe (dD (sp.st d)) sp.outs 0))
 |none=>none
def gh(P:Program)(τ:ah)(L:LT)(m:Nat)(c:Code)(sp:bq):Prop:=∀ d,(bW P τ L c (aF sp.inv d) .done).leaf (rQ m sp.outs 0)=sp.st d
theorem XN(hm:P.follows .mixedOrders=true)(F:aj P τ)(I:ax P m L c)(hr:gh P τ L m c sp){s:ao}{t:Tree}(h:xf m sp s=some t):AT P m c s t:=by
 unfold xf at h;split at h
 case h_2=>cases h
 rename_i b d J;cases h;intro Q q;simp only[Tree.holds,xb,ay]at q;obtain⟨⟨rfl,h1⟩,A⟩:=q;cases g:sp.st d with
 |none=>rw[g]at h1; cases h1
 | some r =>
  obtain⟨k,d'⟩:=r;cases k with
  |none=>rw[g]at h1; cases h1
  | some i =>
   rw[←hr d]at g;obtain⟨x,s1,g1,g2⟩:=dS hm F c (aF sp.inv d) .done I (Q:=fun x s=>rQ m sp.outs 0 x s=some (true,(some i,d'))) (iY g);obtain⟨j,o,M,B,N,O⟩:=Bc g2;simp only[aX,dJ]at B;subst B;rw[hr d]at g;rw[g]at A;refine⟨o.x,(aF o.S d'),?_,Bd M (dJ i).symm A⟩;rw[←N];exact tQ ((lk sp.opens s).trans (jr J)) (rm g1 (jr O))
def LT.ff(L:LT)(m:Nat)(sp:bq):LT:=⟨L.loops,L.pre,fun k s=>match ab k sp.key with
 |true=>xf m sp s
 |false=>L.wZ k s⟩
theorem ax.ff(hm:P.follows .mixedOrders=true)(q:aj P τ){fn:Func} (hn:ln sp.key (bG (aN fn))=true) (g:ax P m L (aN fn)) (hr:gh P τ L m (cutAt fn sp.key) sp) :
  ax P m (L.ff m sp) (aN fn):=by
 refine⟨g.1,g.2.1,fun k A hk s t d=>?_⟩;simp only[LT.ff]at d;split at d
 ·rename_i e
  have e:=bD e;subst e;have B:=F6 hn hk;rw[←B]at hr;exact XN hm q (g.sub (qc hk) (qd hk)) hr d
 ·exact g.2.2 k A hk s t d
end loops
structure aA where
 f:FuncId
 args:List Sh
 aO:List cM
 ps:List iF
 res:List Sh
 dY:List cM
 XO:List iF
 opens:List (Nat × List Kd)
 F:List G→Option (List G)
def aA.args0(sp:aA)(d:List G):List AV:=dH (bE sp.aO d) sp.args (dB (lb sp.aO) d)
def aA.H0(sp:aA)(d:List G):List al:=ca (bE sp.aO d) sp.aO d
def aA.out(sp:aA)(r:List G):AV:=cK (dH (bE sp.dY r) sp.res (dB (lb sp.dY) r))
def aA.H1(sp:aA)(r:List G):List al:=ca (bE sp.dY r) sp.dY r
def fv(P:Program)(rs:List ResultVar)(sp:aA)(x:bB)(s:ao):Option (Bool × List G) :=
 match x with
 |.exit _=>none
 | _=>(fun s=>match gr P s.den rs with
  |none=>none
  | some vs=>match iZ s.H (fun i=>vs.getD i .undef) sp.XO [] with
   |none=>none
   | some ids=>match nodupB ids&&nl s.H 0 sp.aO.length ids sp.dY with
    |false=>none
    | true=>match iX s.H (bh s.H ids) (gy ids) sp.dY ids,eG s.H (bh s.H ids) (gy ids) sp.res vs with
     |some (b,g),some (d,k)=>some (b&&d,g++k)
     |_,_=>none) (fR sp.opens s)
def bf(P:Program)(τ:ah)(L:LT)(fn:Func)(sp:aA):Prop :=
 ∀ d,(bW P τ L (aN fn) ⟨er (sp.args0 d) fn.ntmps,sp.H0 d⟩ .done).leaf (fv P fn.results.toList sp)=sp.F d
def jt(os:List cM):Bool:=os.all fun o=>ab o.up 0
theorem F7:∀{os:List cM} (lens:dm) (d:List G),jt os=true→Aw (ai (ca lens os d))
 | [],_,_,_=>by intro o k; simp[ca,ai]at k
 | o::os,lens,d,h=>by
  simp only[jt,nR,ay]at h;intro x g;simp only[ca,ai,dK,bC]at g;rcases g with rfl|g
  ·cases o with
   | vec ks u =>
    have:u=0:=bD h.1;subst this;rfl
   |box _=>rfl
   |map _ _=>rfl
   |fc _ _ _=>rfl
   |aQ _ _ _=>rfl
  ·exact F7 lens _ h.2 x g
theorem xg(lens:dm):∀(os:List cM) (d:List G),(ca lens os d).length=os.length
 | [],_=>rfl
 |_::os,d=>by simp[ca,xg lens os]
theorem XP{P:Program}{sp:aA}{fn:Func}(hf:P.funcs[sp.f]? = some fn)(hb:fn.body.isSome=true)
  (hfr:jt sp.aO=true) {d r:List G} {x:bB} {s0:ao} (h1:cn P sp.aO.length (aN fn) (ao.den ⟨er (sp.args0 d) fn.ntmps,sp.H0 d⟩) x s0.den) (k:fv P fn.results.toList sp x s0=some (true,r)) :
  cz P sp.f (sp.args0 d) (ai (sp.H0 d)) (sp.out r) (ai (sp.H1 r)):=by
 have hbody:fn.body=some (aN fn):=by
  unfold aN;cases I:fn.body with
  |none=>rw[I]at hb; cases hb
  |some c=>rfl
 have h1:=rm h1 (lk sp.opens s0);generalize hs':fR sp.opens s0=s' at h1;have hxx:(x=.normal∨x=.ret)∧∃ vs ids g q,gr P s'.den fn.results.toList=some vs∧(nodupB ids&&nl s'.H 0 sp.aO.length ids sp.dY)=true ∧
   iX s'.H (bh s'.H ids) (gy ids) sp.dY ids=some (true,g)∧eG s'.H (bh s'.H ids) (gy ids) sp.res vs=some (true,q)∧g++q=r:=by
  have k:fv P fn.results.toList sp x s0=some (true,r):=k;unfold fv at k;split at k
  ·cases k
  ·rename_i I
   simp only[hs']at k;refine⟨by cases x with|normal=>exact .inl rfl|ret=>exact .inr rfl|exit i=>exact(I i rfl).elim,?_⟩;split at k
   ·cases k
   ·rename_i vs R
    split at k
    ·cases k
    ·rename_i ids hids
     split at k
     ·cases k
     ·rename_i B
      split at k
      ·rename_i b g b' q M Y
       simp only[aX,be,ay]at k;obtain⟨⟨rfl,rfl⟩,rfl⟩:=k;exact⟨vs,ids,g,q,R,B,M,Y,rfl⟩
      ·cases k
 obtain⟨I,vs,ids,g,q,R,B,M,Y,rfl⟩:=hxx;simp only[ay]at B;intro E cargs hH HE hargs;refine Az hf hbody ?_;have hfe:=nf HE;have hargs0:=nc hfe _ hargs;have hrel:bl ⟨er (sp.args0 d) fn.ntmps,ai (sp.H0 d)⟩ { E with X:=⟨E.X.x,fun _=>False,E.X.r⟩ } { tmps:=cargs++Array.replicate (fn.ntmps-cargs.size) undef,defers:=[] }:=by
  refine⟨hH,?_,lV _ _,HE.b_ hfe⟩;simp only[er,Array.toList_append,Array.toList_replicate];refine jG hargs0 ?_;have:=fO hargs;have e:(sp.args0 d).length=cargs.size:=by simpa using this
  rw[e];have:=rq (E:={ E with X:=⟨E.X.x,fun _=>False,E.X.r⟩ }) (List.replicate (fn.ntmps-cargs.size) undef);simpa using this
 refine wpIn_mono (h1 none (Ax _) { E with X:=⟨E.X.x,fun _=>False,E.X.r⟩ } _ hrel) fun e a1 w0 ⟨h3,loc',X',F,N⟩=>?_;refine⟨by subst h3; rcases I with rfl|rfl; exact .inl rfl; exact .inr rfl,X',F.defers,fun O k1 k2 k3=>?_⟩;obtain⟨F,N⟩:=AA HE F N k1 k2 k3;obtain⟨us,g1,g2⟩:=wy F fn.results.toList vs R;have hres:(results fn a1.tmps).run P O=.ok (if h:us.toArray.size=1 then us.toArray[0] else .tuple us.toArray) O:=by
  rw[tT];simp only[Sem.run_bind];rw[Array.mapM_eq_mapM_toList,Sem.run_map,g1];rfl
 generalize J:({ w:=O,H:=s'.den.H,loc:=loc',X:=E.X.re X'.r }:Env)=A at F N g1 g2;have hH1:A.H=ai s'.H:=by rw[←J]; rfl
 obtain⟨hK,hHR⟩:=FY hH1 F.heap (p9 B.1) M q;obtain⟨p0,p1,p2,p3⟩:=rO M q (bE sp.dY (g++q));have hd:dB (lb sp.dY) (g++q)=q:=by rw[←p0]; exact nj g q
 have hS:=rN hK Y [];rw[gH]at hS;have hrl:=hS.2.2.2 us g2;have hleM:=FZ (m:=sp.aO.length) hH1 hK ⟨rfl,rfl⟩ (FV A _ ids) B.2 (fun j hj=>by
  obtain⟨r1,o',r2,_⟩:=xc B.2 j hj;obtain⟨i,o,g1,rest1,t1,t2,t3,t4,t5,t6⟩:=p3 j o' r2;have hat:=gP (e:=bh s'.H ids) (j:=j) (aM t1);rw[show (bh s'.H ids).ids=ids from rfl,t1]at hat;cases hat;exact⟨o,o',t2,r2,t5⟩) (fun b=>FW)
 have hle:E.le (gx A (ai (ca (bE sp.dY (g++q)) sp.dY (g++q))) ids) :=
  (N.trans hleM).full (by rw[←J]; exact⟨rfl,rfl⟩) (by rw[hH,ef]; simp only[aA.H0,xg]; exact aI _) (by rw[hH]; exact F7 _ _ hfr)
 have U:A.w=O:=by rw[←J]
 have W:∀ r,A.X.re r=E.X.re r:=fun r=>by rw[←J]; rfl
 refine⟨_,hres,_,_,_,rfl,⟨rfl,rfl⟩,ids.map (fun i=>A.loc.getD i none),nk A (ai (ca (bE sp.dY (g++q)) sp.dY (g++q))),?_,?_,?_⟩
 ·have := FG hrl
  simp only[aA.out,aA.H1,hd];simpa only[gx,U,W]using this
 ·simpa only[gx,U,W,aA.H1]using hHR
 ·simpa only[gx,U,W,aA.H1]using hle
theorem M_{P:Program}{τ:ah}{L:LT}(hm:P.follows .mixedOrders=true)(k:aj P τ){sp:aA}{fn:Func}(q:P.funcs[sp.f]? = some fn)(A:fn.body.isSome=true)
  (B:ax P sp.aO.length L (aN fn)) (I:bf P τ L fn sp) (g:jt sp.aO=true) {d r:List G} (h:sp.F d=some r) :
  cz P sp.f (sp.args0 d) (ai (sp.H0 d)) (sp.out r) (ai (sp.H1 r)):=by
 rw[←I d]at h;obtain⟨x,s0,h1,J⟩:=dS hm k (aN fn) _ .done B (Q:=fun x s=>fv P fn.results.toList sp x s=some (true,r)) (iY h);exact XP q A g h1 J
abbrev aZ(P:Program)(sp:aA):Prop:=∀ d r,sp.F d=some r→cz P sp.f (sp.args0 d) (ai (sp.H0 d)) (sp.out r) (ai (sp.H1 r))
theorem xh{P:Program}{τ:ah}{L:LT}(hm:P.follows .mixedOrders=true)(g:aj P τ){sp:aA}{fn:Func}(k:P.funcs[sp.f]? = some fn)(q:fn.body.isSome=true)
  (A:ax P sp.aO.length L (aN fn)) (B:bf P τ L fn sp) (d:jt sp.aO=true):aZ P sp:=fun _ _ h=>M_ hm g k q A B d h
def xi:eM→Bool
 |.int _ | .str | .bool | .list _ | .ue _ | .row _ | .cptr _ | .nil | .any | .M0 _ | .fn _ | .addr | .FO=>true
 |_=>false
def Be:Sh→Bool
 |.s a=>xi a
 |.clo _ caps=>caps.all xi
theorem Na{lens:dm}{a:eM}{d:List G}(h:xi a=true):(eF lens a d).closed=true:=by
 cases a<;>simp only[xi]at h<;>first
  |(cases h; done)
  |rfl
  |(simp only[eF,AV.closed,gl]; done)
theorem Nb{lens:dm}:∀{as:List eM} {d:List G},(as.all xi)=true→AV.br (iW lens as d)=true
 | [],_,_=>rfl
 | a::as,d,h=>by
  simp only[nR,ay]at h;simp only[iW,AV.br,Na h.1,Nb h.2,mM]
theorem Bf{lens:dm}:∀{as:List Sh} {d:List G},(as.all Be)=true→AV.br (dH lens as d)=true
 | [],_,_=>rfl
 | a::as,d,h=>by
  simp only[nR,ay]at h;simp only[dH,AV.br,Bf h.2,dU];cases a with
  |s a=>exact Na h.1
  |clo f caps=>simp only[la,AV.closed]; exact Nb h.1
theorem XQ{vs:List AV}(h:AV.br vs=true):(cK vs).closed=true:=by
 cases vs with
 |nil=>rfl
 | cons v vs =>
  cases vs with
  |nil=>simpa[cK,AV.br]using h
  |cons v2 vs=>simpa only[cK,AV.closed]using h
def gQ(E:Env):Env:={ w:=E.w,H:=[],loc:=[],X:=(E.X.or E.own).re dW }
theorem XR{E:Env}(x:Nat):¬ (gQ E).own x:=by rintro(⟨id,c,hid⟩|⟨l,k,c,hk⟩); simp[gQ]at hid; simp[gQ,dW]at hk
theorem Nc{E:Env}:E.bJ (gQ E):=⟨fun b d=>⟨⟨d.1,XR b,fun g=>g.elim d.2.2 d.2.1⟩,rfl⟩⟩
theorem XT{E:Env}:(gQ E).bJ E:=⟨fun b d=>⟨⟨d.1,fun g=>d.2.2 (Or.inr g),fun k=>d.2.2 (Or.inl k)⟩,rfl⟩⟩
theorem F8{E:Env}(HE:au E):au (gQ E):=by
 refine⟨rfl,?_,?_,?_,?_,HE.fB.bJ Nc,fun l k l' k' b m n hk=>by simp[gQ,dW]at hk,fun i b m l k n hi=>by simp[gQ]at hi,fun l k b m hk=>by simp[gQ,dW]at hk,fun i j o o' l hi=>by simp[gQ]at hi,fun l _ k q hk=>by simp[gQ,dW]at hk⟩
 ·intro i j b m n hi; simp[gQ]at hi
 ·intro i b m hi; simp[gQ]at hi
 ·rintro b (d | g)
  ·exact HE.X b d
  ·exact(HE.vU g).1
 ·intro i o hi; simp[gQ]at hi
theorem XU{E:Env}(HE:au E):iE [] (bh [] []) (fun _=>false) [] (gQ E) (gQ E):=by
 exact { hH:=rfl,HE:=F8 HE,free:=fun _ h=>(nomatch h),dC:=⟨fun b d=>⟨d,rfl⟩,rfl,fun j g=>absurd g (Nat.not_lt_zero _),fun _ _ _ _ _=>rfl⟩,obj:=fun j o k=>by simp at k }
theorem XV{E:Env}(HE:au E):∀{d:List Sh} {as:List AV} {g:List G},(d.all Be)=true→eG [] (bh [] []) (fun _=>false) d as=some (true,g)→∀(rest:List G) (cs:List Value),ad E as cs →
  ad E (dH [] d (g++rest)) cs:=by
 have M:∀{sh:eM} {a:AV} {b:Bool} {g:List G},gf [] (bh [] []) (fun _=>false) sh a=some (b,g)→a.closed=true∨sh=.any:=by
  intro sh a b g h;unfold gf at h;split at h
  ·exact .inl rfl
  ·exact .inl rfl
  ·exact .inl rfl
  ·split at h
   ·rename_i q
    left;unfold ow at q;split at q<;>first|rfl|cases q
   ·split at h
    ·simp at h
    ·cases h
  ·split at h
   ·rename_i q
    left;rw[MP q];simp only[AV.closed,gl]
   ·cases h
  ·exact .inl rfl
  ·simp at h
  ·exact .inl rfl
  ·exact .inr rfl
  ·exact .inl rfl
  ·simp at h
  ·simp at h
  ·simp at h
  ·simp at h
  ·split at h
   ·rename_i q
    left;unfold ow at q;split at q<;>first|rfl|cases q
   ·split at h
    ·simp at h
    ·cases h
  ·simp at h
  ·exact .inl rfl
  ·rename_i f js Y vs
   split at h
   ·rename_i hc
    left;cases js with
    | nil=>cases vs with
     |nil=>rfl
     |cons _ _=>simp[lf]at hc
    | cons j js=>cases vs with
     |nil=>simp[lf]at hc
     |cons v vs=>cases v<;>simp[lf]at hc
   ·cases h
  ·exact .inl rfl
  ·cases h
 have O:∀{d:List eM} {as:List AV} {b:Bool} {g:List G},fQ [] (bh [] []) (fun _=>false) d as=some (b,g)→∀(cs:List Value),ad E as cs →
   ∃ k,fQ [] (bh [] []) (fun _=>false) d k=some (b,g)∧AV.br k=true∧ad E k cs:=by
  intro d
  induction d with
  | nil =>
   intro as b g h cs hr;cases as with
   |nil=>exact⟨[],h,rfl,hr⟩
   |cons _ _=>simp[fQ]at h
  | cons sh d J =>
   intro as b g h cs hr;cases as with
   |nil=>simp[fQ]at h
   | cons a as =>
    cases cs with
    |nil=>simp[ad]at hr
    | cons c cs =>
     simp only[ad]at hr;simp only[fQ]at h;split at h
     ·rename_i b1 g1 b2 g2 h1 I
      cases h;obtain⟨k,A,B,F⟩:=J I cs hr.2;rcases M h1 with hc|rfl
      ·exact⟨a::k,by simp only[fQ,h1,A],by simp only[AV.br,hc,B,mM],by simp only[ad]; exact⟨hr.1,F⟩⟩
      ·have e:gf [] (bh [] []) (fun _=>false) .any .undef=some (b1,g1):=by
        have:gf [] (bh [] []) (fun _=>false) .any a=some (true,[]):=by cases a<;>rfl
        rw[this]at h1;exact h1
       exact⟨.undef::k,by simp only[fQ,e,A],by simp only[AV.br,B]; rfl,by simp only[ad,rel]; exact⟨trivial,F⟩⟩
     ·cases h
 have R:∀{d:List Sh} {as:List AV} {b:Bool} {g:List G},eG [] (bh [] []) (fun _=>false) d as=some (b,g)→∀(cs:List Value),ad E as cs →
   ∃ k,eG [] (bh [] []) (fun _=>false) d k=some (b,g)∧AV.br k=true∧ad E k cs:=by
  intro d
  induction d with
  | nil =>
   intro as b g h cs hr;cases as with
   |nil=>exact⟨[],h,rfl,hr⟩
   |cons _ _=>simp[eG]at h
  | cons sh d J =>
   intro as b g h cs hr;cases as with
   |nil=>simp[eG]at h
   | cons a as =>
    cases cs with
    |nil=>simp[ad]at hr
    | cons c cs =>
     simp only[ad]at hr;simp only[eG]at h;split at h
     ·rename_i b1 g1 b2 g2 h1 I
      cases h;obtain⟨k,A,B,F⟩:=J I cs hr.2;cases sh with
      | s sh0 =>
       simp only[lh]at h1;rcases M h1 with hc|rfl
       ·exact⟨a::k,by simp only[eG,lh,h1,A],by simp only[AV.br,hc,B,mM],by simp only[ad]; exact⟨hr.1,F⟩⟩
       ·have e:gf [] (bh [] []) (fun _=>false) .any .undef=some (b1,g1):=by
         have:gf [] (bh [] []) (fun _=>false) .any a=some (true,[]):=by cases a<;>rfl
         rw[this]at h1;exact h1
        exact⟨.undef::k,by simp only[eG,lh,e,A],by simp only[AV.br,B]; rfl,by simp only[ad,rel]; exact⟨trivial,F⟩⟩
      | clo f caps =>
       cases a<;>simp only[lh]at h1<;>try cases h1
       rename_i Y vs;split at h1
       ·rename_i hf
        subst hf;have N:=hr.1;simp only[rel]at N;obtain⟨us,e1,e2⟩:=N;obtain⟨U,l1,l2,l3⟩:=O h1 _ e2;exact⟨.clo f U::k,by simp only[eG,lh,if_true,l1,A],by simp only[AV.br,AV.closed,l2,B,mM],
         by simp only[ad,rel]; exact⟨⟨us,e1,l3⟩,F⟩⟩
       ·cases h1
     ·cases h
 intro d as g W h rest cs hr;obtain⟨k,h1,I,h3⟩:=R h cs hr;have h4:=pt Nc k I h3;have h5:=(rN (XU HE) h1 rest).2.2.2 cs h4;exact pt XT _ (Bf W) h5
def ah.bz(τ:ah)(sp:aA):ah where
 pf g:=match ab g sp.f with
  |true=>true
  |false=>τ.pf g
 T g as:=match ab g sp.f with
  | true=>match eG [] (bh [] []) (fun _=>false) sp.args as with
   |some (b,d)=>some (xa b (sp.F d).isSome,cK (dH [] sp.res ((sp.F d).getD [])))
   |none=>τ.T g as
  |false=>τ.T g as
 W:=τ.W
 C:=τ.C
 I:=τ.I
 N:=τ.N
 U:=τ.U
def F9(sp:aA):Bool:=(sp.args.all Be)&&((sp.res.all Be)&&(sp.aO.isEmpty&&sp.dY.isEmpty))
theorem aj.bz{P:Program}{τ:ah}(h:aj P τ){sp:aA}(hb:dN P sp.f=true)(B:F9 sp=true)
  (hc:∀ d r,sp.F d=some r→cz P sp.f (sp.args0 d) (ai (sp.H0 d)) (sp.out r) (ai (sp.H1 r))):aj P (τ.bz sp):=by
 simp only[F9,ay,List.isEmpty_iff]at B;obtain⟨A,R,U,Y⟩:=B;refine⟨fun g as b v k q=>?_,h.W,h.C,h.I,h.F⟩;simp only[ah.bz]at k;split at k
 ·rename_i e
  have e:=bD e;subst e;split at k
  ·rename_i b' d hr
   simp only[aX,be]at k;obtain⟨h1,rfl⟩:=k;subst h1;simp only[xb]at q;obtain⟨rfl,J⟩:=q;refine⟨hb,?_⟩;cases M:sp.F d with
   |none=>rw[M]at J; cases J
   | some r =>
    have N:=hc d r M;simp only[aA.args0,aA.H0,aA.out,aA.H1,U,Y,ca,bE,lb,dB]at N;have:=Wx N (Bf A) (XQ (Bf R));intro H E cargs hH HE O;exact this H E cargs hH HE (by
     have:=XV HE A hr [] _ O
     rwa [gH]at this)
  ·exact h.T _ as b v k q
 ·exact h.T g as b v k q
end Go.AL

namespace Go.AL
open Go
variable [Dr]
def Kd.cL:List Kd→Bool
 | []=>true
 |.list _::_=>false
 |_::ks=>Kd.cL ks
def Ct.cr:Ct→Bool
 |.one k=>Kd.cL [k]
 |.agg ks=>Kd.cL ks
def uh:eM→Bool
 |.row ks=>Kd.cL ks
 |.list _ | .ue _ | .cptr _=>false
 |_=>true
def Nd:Sh→Bool
 |.s a=>uh a
 |.clo _ caps=>caps.all uh
def Nf:cM→Bool
 |.vec ks _=>Kd.cL ks
 |.box cells=>cells.all uh
 |.map K V=>K.cr&&V.cr
 |.fc _ _ _=>true
 |.aQ _ K ks=>K.cr&&Kd.cL ks
def fG(sp:aA):Bool:=(sp.res.all Nd)&&(sp.dY.all Nf)
theorem xj:∀{ks:List Kd} (r:List G),Kd.cL ks=true→AV.cL (aG ks r)=true
 | [],_,_=>rfl
 |.list _::_,_,h=>by simp[Kd.cL]at h
 | .int _::ks,r,h | .str::ks,r,h | .bool::ks,r,h=>by
  simp only[Kd.cL]at h;simp only[aG,AV.cL,xj r.tail h,dU];rfl
theorem Ct.F_{K:Ct}(r:List G)(h:K.cr=true):(K.av r).cr=true:=by
 cases K with
 | one k =>
  simp only[Ct.cr]at h;cases k<;>first
   |rfl
   |(simp[Kd.cL]at h; done)
 |agg ks=>simp only[Ct.av,AV.cr]; exact xj r h
theorem Ng:∀ js:List Nat,AV.cL (rK js)=true
 | []=>rfl
 |j::js=>by simp only[rK,AV.cL,Ng js,dU]; rfl
theorem Nh{lens:dm}{a:eM}{d:List G}(h:uh a=true):(eF lens a d).cr=true:=by
 cases a<;>simp only[uh]at h<;>first
  |(cases h; done)
  |(simp only[eF,AV.cr]; exact xj _ h)
  |rfl
  |(simp only[eF,AV.cr]; exact Ng _)
theorem F'{lens:dm}:∀{as:List eM} {d:List G},(as.all uh)=true→AV.cL (iW lens as d)=true
 | [],_,_=>rfl
 | a::as,d,h=>by
  simp only[nR,ay]at h;simp only[iW,AV.cL,Nh h.1,F' h.2,mM]
theorem Ga{lens:dm}:∀{as:List Sh} {d:List G},(as.all Nd)=true→AV.cL (dH lens as d)=true
 | [],_,_=>rfl
 | a::as,d,h=>by
  simp only[nR,ay]at h;simp only[dH,AV.cL,Ga h.2,dU];cases a with
  |s a=>exact Nh h.1
  |clo f caps=>simp only[la,AV.cr]; exact F' h.1
theorem Ni{vs:List AV}(h:AV.cL vs=true):(cK vs).cr=true:=by
 cases vs with
 |nil=>rfl
 | cons v vs =>
  cases vs with
  |nil=>simpa[cK,AV.cL]using h
  |cons v2 vs=>simpa only[cK,AV.cr]using h
theorem Gb{lens:dm}:∀{os:List cM} {d:List G},(os.all Nf)=true→((ai (ca lens os d)).all af.cr)=true
 | [],_,_=>rfl
 | o::os,d,h=>by
  simp only[nR,ay]at h;have k:=Gb (lens:=lens) (d:=dB o.sz d) h.2;simp only[ca,ai,dK,nR,ay];refine⟨?_,by simpa only[ai]using k⟩;cases o with
  | vec ks u =>
   simp only[fe,al.den,af.cr,ep,bR];rintro r ⟨g,_,rfl⟩;exact xj g h.1
  |box cells=>simp only[fe,al.den,af.cr]; exact F' h.1
  | map K V =>
   have h1:(K.cr&&V.cr)=true:=h.1;simp only[ay]at h1;simp only[fe,al.den,af.cr,cC,ep,bR];rintro x ⟨g,_,rfl⟩;simp only[Ct.F_ _ h1.1,Ct.F_ _ h1.2,mM]
  |fc l T B=>rfl
  | aQ l K ks =>
   have h1:(K.cr&&Kd.cL ks)=true:=h.1;simp only[ay]at h1;simp only[fe,al.den,af.cr,gO,ep,bR];rintro x ⟨g,_,rfl⟩;simp only[kq,Ct.F_ _ h1.1,Bool.true_and];cases (gi g 3).bool with
   |false=>rfl
   | true =>
    simp only[cond_true,ep,bR];rintro r ⟨g2,_,rfl⟩;exact xj g2 h1.2
def al.cV(e:bN)(j:Nat):al→al
 |.vec ks v rows=>.vec ks (v+e.up j) rows
 |.raw o=>.raw (o.cV e j)
 |.map K V rows c=>.map K V rows c
 |.aQ l K ks rows c=>.aQ l K ks rows c
def xk(e:bN):Nat→List al→List al
 |_,[]=>[]
 |j,o::os=>o.cV e j::xk e (j+1) os
def ic(e:bN)(H H1:List al):List al:=eL H e.ids (xk e 0 H1)++(xk e 0 H1).drop e.ids.length
theorem XW(e:bN)(j:Nat)(o:al):(o.cV e j).den=o.den.cV e j:=by
 cases o<;>rfl
theorem Nj(e:bN):∀(j:Nat) (os:List al),ai (xk e j os)=k_ e j (ai os)
 |_,[]=>rfl
 | j,o::os=>by
  simp only[xk,ai,dK,k_,XW];have:=Nj e (j+1) os;simp only[ai]at this;rw[this]
theorem Nk{α β:Type}(f:α→β):∀(is:List Nat) (l xs:List α),(eL l is xs).map f=eL (l.map f) is (xs.map f)
 | [],_,_=>by simp[eL]
 |_::_,_,[]=>by simp[eL]
 |i::is,l,x::xs=>by simp[eL,Nk f is,List.map_set]
theorem Nl(e:bN)(H H1:List al):ai (ic e H H1)=nh e (ai H) (ai H1):=by
 unfold ic nh;rw[←Nj];simp only[ai,List.map_append,Nk,List.map_drop]
def nm(e:bN):Nat→List cM→Bool
 |_,[]=>true
 |j,.vec _ _::os=>nm e (j+1) os
 |j,_::os=>ab (e.up j) 0&&nm e (j+1) os
theorem rR{e:bN}{lens:dm}:∀{j:Nat} {os:List cM} {d:List G},nm e j os=true→kz e j (ai (ca lens os d))=true
 |_,[],_,_=>rfl
 | j,.vec ks u::os,d,h=>by
  simp only[nm]at h;have:=rR (lens:=lens) (d:=dB (cM.vec ks u).sz d) h;simp only[ca,ai,dK,kz,ay];exact⟨rfl,by simpa only[ai]using this⟩
 | j,.box cells::os,d,h=>by
  simp only[nm,ay]at h;have:=rR (lens:=lens) (d:=dB (cM.box cells).sz d) h.2;simp only[ca,ai,dK,kz,ay];exact⟨h.1,by simpa only[ai]using this⟩
 | j,.map K V::os,d,h=>by
  simp only[nm,ay]at h;have:=rR (lens:=lens) (d:=dB (cM.map K V).sz d) h.2;simp only[ca,ai,dK,kz,ay];exact⟨h.1,by simpa only[ai]using this⟩
 | j,.fc l T B::os,d,h=>by
  simp only[nm,ay]at h;have:=rR (lens:=lens) (d:=dB (cM.fc l T B).sz d) h.2;simp only[ca,ai,dK,kz,ay];exact⟨h.1,by simpa only[ai]using this⟩
 | j,.aQ l K ks::os,d,h=>by
  simp only[nm,ay]at h;have:=rR (lens:=lens) (d:=dB (cM.aQ l K ks).sz d) h.2;simp only[ca,ai,dK,kz,ay];exact⟨h.1,by simpa only[ai]using this⟩
def me(S:Bool)(ids:List Nat)(i:Nat):Bool:=match S with
 |true=>gy ids i
 |false=>false
def qe(sp:aA)(as:List AV)(H:List al):Option (Bool × AV × List al) :=
 match iZ H (fun i=>as.getD i .undef) sp.ps []with
 |none=>none
 | some ids=>match nodupB ids&&nm (bh H ids) 0 sp.dY with
  |false=>none
  | true=>match iX H (bh H ids) (me (fG sp) ids) sp.aO ids,eG H (bh H ids) (me (fG sp) ids) sp.args as with
   |some (b,g),some (k,d)=>some (xa (b&&k) (sp.F (g++d)).isSome,(sp.out ((sp.F (g++d)).getD [])).cV (bh H ids),ic (bh H ids) H (sp.H1 ((sp.F (g++d)).getD [])))
   |_,_=>none
def ox:List iF→Nat→Bool
 | [],_=>true
 |.cell j _::ps,n=>eZ j n&&ox ps (n+1)
 |.A_ j _ _::ps,n=>eZ j n&&ox ps (n+1)
 |_::ps,n=>ox ps (n+1)
theorem Nn{H:List al}{vals:Nat→AV}:∀{ps:List iF} {acc ids:List Nat},iZ H vals ps acc=some ids→∀ x∈acc,x∈ids
 | [],acc,ids,h,x,d=>by cases h; exact d
 | p::ps,acc,ids,h,x,d=>by
  unfold iZ at h;split at h
  ·exact Nn h x (zx _ d)
  ·cases h
theorem No{H:List al}{vals:Nat→AV}{id:Nat}{o:al}:∀{ps:List iF} {acc ids:List Nat},ox ps acc.length=true→iZ H vals ps acc=some ids→id∉ids→iZ (H.set id o) vals ps acc=some ids
 | [],acc,ids,_,h,_=>h
 | p::ps,acc,ids,hw,h,hid=>by
  unfold iZ at h⊢;split at h
  ·rename_i i hi
   have g:=Nn h;have get:∀ j,j<acc.length→(H.set id o)[acc.getD j 0]? = H[acc.getD j 0]? := fun j d=>by
    refine bL fun e=>hid ?_;rw[e,cG,bA d];exact g _ (zx _ (qO d))
   have e:Ba (H.set id o) vals acc p=some i∧ox ps (acc++[i]).length=true:=by
    rw[eY];cases p with
    |fix _=>exact⟨hi,hw⟩
    |slot _=>exact⟨hi,hw⟩
    |cap _ _=>exact⟨hi,hw⟩
    | cell j c =>
     simp only[ox,ay,iA]at hw;refine⟨?_,hw.2⟩;simp only[Ba]at hi⊢;rw[get j hw.1];exact hi
    | A_ j c k =>
     simp only[ox,ay,iA]at hw;refine⟨?_,hw.2⟩;simp only[Ba]at hi⊢;rw[get j hw.1];exact hi
   rw[e.1];exact No e.2 h hid
  ·cases h
section XX
variable {H:List al} {e:bN} {id:Nat} {o:al} (he:∀ j,e.at j≠id)
include he
theorem Np:∀(js:List Nat) (vs:List AV),lf (H.set id o) e js vs=lf H e js vs
 | [],[]=>rfl
 | [],_::_=>rfl
 |_::_,[]=>rfl
 | j::js,v::vs=>by
  have g:=Np js vs;cases v<;>try rfl
  rename_i i ae k row c;simp only[lf,g];by_cases hi:i=id
  ·subst hi
   have d:ab i (e.at j)=false:=by
    cases q:ab i (e.at j)with
    |false=>rfl
    |true=>exact absurd (bD q).symm (he j)
   simp only[d,Bool.false_and];cases (H.set i o)[i]? <;> cases H[i]? <;> (repeat' split)<;>rfl
  ·rw[bL (Ne.symm hi)]
theorem Nq:∀(sh:eM) (a:AV),gf (H.set id o) e (fun _=>false) sh a=gf H e (fun _=>false) sh a:=by
 have d:∀{i:Nat},i≠id→(H.set id o)[i]? = H[i]? := fun h=>bL (Ne.symm h);have g:∀ j,¬ (id=e.at j):=fun j h=>he j h.symm;intro sh a;cases a with
 | vec w i ae off n =>
  by_cases hi:i=id
  ·subst hi
   cases sh<;>(try rfl)<;>simp only[gf,ow,nL,and_false,if_false,g,false_and]<;>(repeat' split)<;>(first|rfl|simp_all)
  ·cases sh<;>(try rfl)<;>simp only[gf,d hi]
 | ptr i ae k row col =>
  by_cases hi:i=id
  ·subst hi
   cases sh<;>(try rfl)<;>simp only[gf,ow,nL,and_false,if_false,g,false_and]<;>(repeat' split)<;>(first|rfl|simp_all)
  ·cases sh<;>(try rfl)<;>simp only[gf,d hi]
 | map i =>
  by_cases hi:i=id
  ·subst hi
   cases sh<;>(try rfl)<;>simp only[gf,ow,nL,and_false,if_false,g,false_and]<;>(repeat' split)<;>(first|rfl|simp_all)
  ·cases sh<;>(try rfl)<;>simp only[gf,d hi]
 | clo f vs =>
  cases sh<;>(try rfl)
  ·cases vs<;>rfl
  ·simp only[gf,Np he]
 | lit v =>
  cases sh<;>(try rfl)<;>cases v<;>(try rfl)
  ·rename_i b n c
   cases b<;>cases n<;>cases c<;>rfl
  ·rename_i q
   cases q with
   |none=>rfl
   | some q =>
    obtain⟨b,o',w⟩:=q;cases o'<;>cases w<;>rfl
 |_=>cases sh<;>rfl
theorem Gc:∀(d:List eM) (as:List AV),fQ (H.set id o) e (fun _=>false) d as=fQ H e (fun _=>false) d as
 | [],[]=>rfl
 | [],_::_=>rfl
 |_::_,[]=>rfl
 |sh::d,a::as=>by simp only[fQ,Nq he sh a,Gc d as]
theorem XY(sh:Sh)(a:AV):lh (H.set id o) e (fun _=>false) sh a=lh H e (fun _=>false) sh a:=by
 cases sh with
 |s x=>simp only[lh,Nq he]
 | clo f caps =>
  cases a with
  |clo g vs=>simp only[lh,Gc he]
  |_=>rfl
theorem Nr:∀(d:List Sh) (as:List AV),eG (H.set id o) e (fun _=>false) d as=eG H e (fun _=>false) d as
 | [],[]=>rfl
 | [],_::_=>rfl
 |_::_,[]=>rfl
 |sh::d,a::as=>by simp only[eG,XY he sh a,Nr d as]
theorem XZ(sh:cM)(t:al):iD (H.set id o) e (fun _=>false) sh t=iD H e (fun _=>false) sh t:=by
 cases sh with
 | box d =>
  cases t with
  |raw x=>cases x<;>simp only[iD,Gc he]
  |_=>rfl
 | fc l T B =>
  cases t with
  |raw x=>cases x<;>rfl
  |_=>rfl
 |_=>cases t<;>rfl
theorem Ns:∀(os:List cM) (is:List Nat),id∉is→iX (H.set id o) e (fun _=>false) os is=iX H e (fun _=>false) os is
 | [],[],_=>rfl
 | [],_::_,_=>rfl
 |_::_,[],_=>rfl
 | sh::os,i::is,h=>by
  have h1:id≠i:=fun e=>h (by rw[e]; exact cJ);simp only[iX,bL h1,XZ he,Ns os is fun hm=>h (bS _ hm)]
end XX
theorem Nt{α:Type}{i:Nat}{x:α}:∀(is:List Nat) (l xs:List α),i∉is→eL (l.set i x) is xs=(eL l is xs).set i x
 | [],_,_,_=>by simp[eL]
 |_::_,_,[],_=>by simp[eL]
 | j::is,l,y::xs,h=>by
  have h1:i≠j:=fun e=>h (by rw[e]; exact cJ);simp only[eL];rw[List.set_comm _ _ h1];exact Nt is _ _ fun hm=>h (bS _ hm)
theorem X5{H:List al}{ids:List Nat}{id:Nat}{o:al}(h:id∉ids):bh (H.set id o) ids=bh H ids:=by
 unfold bh;rw[List.length_set];congr 1;refine List.map_congr_left fun i hi=>?_;unfold rM;rw[bL fun e=>h (by rw[e]; exact hi)]
theorem X6{sp:aA}(hs:fG sp=false)(hw:ox sp.ps 0=true){as:List AV}{H H':List al}{b:Bool}{v:AV}(h:qe sp as H=some (b,v,H')){id:Nat}{o:al}(q:id<H.length)
  (hid:∀ ids,iZ H (fun i=>as.getD i .undef) sp.ps []=some ids→id∉ids) :
  qe sp as (H.set id o)=some (b,v,H'.set id o)∧∃ ids,iZ H (fun i=>as.getD i .undef) sp.ps []=some ids∧iZ (H.set id o) (fun i=>as.getD i .undef) sp.ps []=some ids:=by
 unfold qe at h⊢;split at h
 ·cases h
 rename_i ids d;have hn:=hid ids d;have k:=No (o:=o) (acc:=[]) hw d hn;refine⟨?_,ids,d,k⟩;rw[k];simp only[X5 hn];split at h
 ·cases h
 rename_i F;have A:me (fG sp) ids=fun _=>false:=by
  rw[hs];rfl
 rw[A]at h⊢;have he:∀ j,(bh H ids).at j≠id:=by
  intro j e;rcases kI j (bh H ids).ids.length with g|g
  ·have := gP g
   rw[e]at this;exact hn (fy this)
  ·rw [rJ g] at e
   have:(bh H ids).base=H.length:=rfl;omega
 rw[Ns he _ _ hn,Nr he];split at h
 case h_2=>cases h
 rename_i h1 I;cases h;have B:∀ X,ic (bh H ids) (H.set id o) X=(ic (bh H ids) H X).set id o:=fun X=>by
  unfold ic;rw[show (bh H ids).ids=ids from rfl,Nt ids _ _ hn,aj8 _ _ (by rw[pW]; exact q)]
 rw[B]
def ah.cP(τ:ah)(sp:aA):ah where
 pf g:=match ab g sp.f with
  |true=>false
  |false=>τ.pf g
 T:=τ.T
 W g as H:=match ab g sp.f with
  | true=>match qe sp as H with
   |some r=>some r
   |none=>τ.W g as H
  |false=>τ.W g as H
 C g as H:=match ab g sp.f with
  | true=>(match iZ H (fun i=>as.getD i .undef) sp.ps [] with
   |some ids=>ids
   |none=>[])++τ.C g as H
  |false=>τ.C g as H
 I:=τ.I
 N g:=match ab g sp.f with
  | true=>match τ.U g,fG sp with
   |false,false=>ox sp.ps 0
   |_,_=>false
  |false=>τ.N g
 U g:=match ab g sp.f with
  |true=>true
  |false=>τ.U g
def qf:List cM→List cM→Bool
 |_,[]=>true
 | [],o'::d=>o'.jN.isNone&&qf [] d
 | o::os,o'::d=>(match o'.jN with
  |none=>true
  | some l=>match o.jN with
   |some l'=>ab l l'
   |none=>false)&&qf os d
theorem Bg:∀{os k:List cM},qf os k=true→∀(j:Nat) o' l,k[j]? = some o'→o'.jN=some l→∃ o,os[j]? = some o∧o.jN=some l
 |_,[],_,j,_,_,d,_=>by simp at d
 | [],x::k,h,0,o',l,d,g=>by
  simp only[qf,ay]at h;simp at d;subst d;rw[g]at h;cases h.1
 | [],x::k,h,j+1,o',l,d,g=>by
  simp only[qf,ay]at h;obtain⟨o,h1,_⟩:=Bg h.2 j o' l (by simpa using d) g;simp at h1
 | o::os,x::k,h,0,o',l,d,g=>by
  simp only[qf,ay]at h;simp at d;subst d;have h1:=h.1;rw[g]at h1;simp only[]at h1;split at h1
  ·rename_i l' q
   have:=bD h1;subst this;exact⟨o,rfl,q⟩
  ·cases h1
 | o::os,x::k,h,j+1,o',l,d,g=>by
  simp only[qf,ay]at h;exact Bg h.2 j o' l (by simpa using d) g
theorem Nu(lens:dm):∀(os:List cM) (d:List G) (j:Nat) (o:al),(ca lens os d)[j]? = some o→∃ sh d',os[j]? = some sh∧o=fe lens sh d'
 | [],d,j,o,h=>by simp[ca]at h
 | s::os,d,0,o,h=>by
  simp[ca]at h;exact⟨s,d,rfl,h.symm⟩
 | s::os,d,j+1,o,h=>by
  simp only[ca,UK]at h;obtain⟨sh,d',h1,g⟩:=Nu lens os _ j o h;exact⟨sh,d',by simpa using h1,g⟩
theorem Nv{lens:dm}{os:List cM}{d:List G}{j:Nat}{o:af} (h:(ai (ca lens os d))[j]? = some o):∃ sh,os[j]? = some sh∧o.label=sh.jN:=by
 simp only[ai,cy]at h;obtain⟨o',h1,rfl⟩:=fM.1 h;obtain⟨sh,d',g,rfl⟩:=Nu lens os d j o' h1;exact⟨sh,g,pZ _ _ _⟩
theorem Gd(lens:dm):∀(os:List cM) (d:List G) (j:Nat) (sh:cM),os[j]? = some sh→∃ o,(ai (ca lens os d))[j]? = some o∧o.label=sh.jN
 | [],d,j,o,h=>by simp at h
 | s::os,d,0,sh,h=>by
  simp at h;subst h;exact⟨(fe lens s d).den,by simp[ca,ai],pZ _ _ _⟩
 | s::os,d,j+1,sh,h=>by
  obtain⟨o,h1,g⟩:=Gd lens os (dB s.sz d) j sh (by simpa using h);exact⟨o,by simpa[ca,ai]using h1,g⟩
def rS(sp:aA):Bool:=jt sp.aO&&(db sp.aO.length sp.dY.length&&qf sp.aO sp.dY)
theorem X8{P:Program}{sp:aA}(hp:rS sp=true) (hc:∀ d r,sp.F d=some r→cz P sp.f (sp.args0 d) (ai (sp.H0 d)) (sp.out r) (ai (sp.H1 r)))
  {as:List AV} {H H':List al} {v:AV} (h:qe sp as H=some (true,v,H')):cz P sp.f as (ai H) v (ai H'):=by
 simp only[rS,ay]at hp;obtain⟨hfr,hle,hlab⟩:=hp;have hle:=kM hle;unfold qe at h;split at h
 ·cases h
 rename_i ids hids;split at h
 ·cases h
 rename_i hck;simp only[ay]at hck;obtain⟨hnd,hup⟩:=hck;have hnd:=p9 hnd;split at h
 case h_2=>cases h
 rename_i b g b' k h1 h2;simp only[aX,be,xb,ay]at h;obtain⟨⟨⟨rfl,rfl⟩,h3⟩,rfl,rfl⟩:=h;cases hF:sp.F (g++k)with
 |none=>rw[hF]at h3; cases h3
 |some r =>
 simp only[j_];obtain⟨p0,p1,p2,p3⟩:=rO h1 k (bE sp.aO (g++k));have hd:dB (lb sp.aO) (g++k)=k:=by rw[←p0]; exact nj g k
 have hlen:ids.length=(ai (sp.H0 (g++k))).length:=by rw[ef]; simp only[aA.H0,p1,p2]
 have hat:∀ j,j<ids.length→ids[j]? = some ((bh H ids).at j):=fun j A=>gP (e:=bh H ids) A;have hobjs:∀ j,j<ids.length→∃ sh o g1 I,sp.aO[j]? = some sh∧H[(bh H ids).at j]? = some o∧iD H (bh H ids) (me (fG sp) ids) sh o=some (true,g1) ∧
   (sp.H0 (g++k))[j]? = some (fe (bE sp.aO (g++k)) sh (g1++I)) ∧
   (bE sp.aO (g++k)).ae j=sh.up∧(∀ ks v rows,o=.vec ks v rows→(bE sp.aO (g++k)).len j=rows.length)∧sh.up=0∧(bh H ids).up j=rL o:=by
  intro j A;have hj':j<sp.aO.length:=by omega
  obtain⟨i,o,g1,I,R,B,M,J,W,Y⟩:=p3 j sp.aO[j] (bA hj');have q1':=R;rw[hat j A]at R;cases R;refine⟨sp.aO[j],o,g1,I,bA hj',B,M,J,W,Y,?_,?_⟩
  ·have := ep.1 hfr sp.aO[j] (qO hj')
   exact bD this
  ·simp only [bN.up, bh, cG, cy]
   rw[q1'];simp only[iO,j_,rM];rw[B]
 have hK:∀ E E0,E.H=ai H→au E→rI (bh H ids) (bif fG sp then (fK H.length).filter (gy ids) else []) E E0→E0.H=ai (sp.H0 (g++k)) →
   iE H (bh H ids) (me (fG sp) ids) (bE sp.aO (g++k)) E E0:=by
  intro E E0 O HE N U;refine { hH:=O,HE:=HE,free:=fun i hi b n hb=>?_,dC:=N.toKeepIn,obj:=fun j o q=>?_ }
  ·refine N.MR i ?_ b n hb
   have hlt:=aM hb;rw[HE.len,O,ef]at hlt;unfold me at hi;split at hi
   ·rename_i hs
    rw[hs];simp only[cond_true,gk,List.mem_range];exact⟨hlt,hi⟩
   ·cases hi
  ·have A:j<ids.length:=by
    rcases kI j ids.length with hlt|hge
    ·exact hlt
    ·have h1 := aM q
     have h2:=rJ (e:=bh H ids) hge;have h3:(bh H ids).base=H.length:=rfl;omega
   refine⟨A,?_⟩;obtain⟨sh,o',g1,I,R,B,M,J,W,Y,q7,q8⟩:=hobjs j A;rw[q]at B;cases B;obtain⟨r1,r2,r3⟩:=w_ (lens:=bE sp.aO (g++k)) (d:=g1++I) M;exact⟨r1,⟨_,by rw[U]; exact bx J,by rw[W]; exact r2⟩,Y,fun _=>by rw[W]; exact q7⟩
 have:=frame (P:=P) (f:=sp.f) (fG sp) (bif fG sp then (fK H.length).filter (gy ids) else []) (e:=bh H ids) (H:=ai H) (args:=sp.args0 (g++k)) (H0:=ai (sp.H0 (g++k)))
  (H1:=ai (sp.H1 r)) (v:=sp.out r) (args0:=as) (hc _ _ hF) hlen (by rw[ef]; rfl) hnd ?_ ?_ (rR hup) ?_ (fun hs=>by rw[hs]; rfl) ?_ ?_ ?_ ?_ ?_ ?_
 ·rw [Nl]
  exact this
 ·intro j o q
  have A:j<ids.length:=by rw[hlen]; exact aM q
  obtain⟨sh,o',g1,I,R,B,M,J,W,Y,q7,q8⟩:=hobjs j A;obtain⟨r1,r2,r3⟩:=w_ (lens:=bE sp.aO (g++k)) (d:=g1++I) M;rw[bx J]at q;cases q;refine⟨o'.den,bx B,fun v=>?_⟩;rw[r1,r2,q7,q8];simp only[aX];constructor
  ·rintro rfl
   exact⟨0,rfl,by omega⟩
  ·rintro ⟨u, rfl, rfl⟩
   omega
 ·intro E E0 O HE N U j o q
  have A:j<ids.length:=by rw[hlen]; exact aM q
  obtain⟨sh,o',g1,I,R,B,M,J,W,Y,q7,q8⟩:=hobjs j A;rw[bx J]at q;cases q;exact FU (hK E E0 O HE N U) M I A (fun l hl=>N.jN j _ l (by rw[U]; exact bx J) (by rw[pZ,hl])) (HE.obj _ _ (by rw[O]; exact bx B))
 ·rw [ef, ef]
  simp only[aA.H0,aA.H1,xg];exact hle
 ·intro hs
  simp only[fG,ay]at hs;exact Ni (Ga hs.1)
 ·intro hs
  simp only[fG,ay]at hs;exact Gb hs.2
 ·intro i hi
  cases hs:fG sp with
  | true =>
   rw[hs]at hi;simp only[cond_true,gk]at hi;exact FX hi.2
  | false =>
   rw[hs]at hi;simp at hi
 ·intro j o o' q ho'
  have A:j<ids.length:=by rw[hlen]; exact aM q
  obtain⟨sh,o2,g1,I,R,B,M,J,_⟩:=hobjs j A;rw[bx J]at q;rw[bx B]at ho';cases q;cases ho';rw[FQ M,pZ]
 ·intro j o l q hl
  obtain⟨sh,h5,h6⟩:=Nv (show (ai (ca (bE sp.dY r) sp.dY r))[j]? = some o from q);obtain⟨sh0,h7,h8⟩:=Bg hlab j sh l h5 (by rw[←h6,hl]);obtain⟨o0,h9,h10⟩:=Gd (bE sp.aO (g++k)) sp.aO (g++k) j sh0 h7;exact⟨o0,h9,by rw[h10,h8]⟩
 ·intro E E0 cs O HE N U hr
  have hS:=(rN (hK E E0 O HE N U) h2 []).2.2.2 cs hr;rw[gH]at hS;simp only[aA.args0,hd];exact hS
theorem X9{sp:aA}{as:List AV}{H H':List al}{v:AV}{b:Bool}{A:Nat}(h:qe sp as H=some (b,v,H'))(g:A<H.length)(k:∀ ids,iZ H (fun i=>as.getD i .undef) sp.ps []=some ids→A∉ids):H'[A]? = H[A]? := by
 unfold qe at h;split at h
 ·cases h
 rename_i ids d;split at h
 ·cases h
 split at h
 case h_2=>cases h
 cases h;unfold ic;rw[dI (by rw[pW]; exact g)];exact A2 _ _ _ _ (k ids d)
theorem aj.cP{P:Program}{τ:ah}(h:aj P τ){sp:aA}(Y:dN P sp.f=true)(hp:rS sp=true)
  (hc:∀ d r,sp.F d=some r→cz P sp.f (sp.args0 d) (ai (sp.H0 d)) (sp.out r) (ai (sp.H1 r))):aj P (τ.cP sp):=by
 refine⟨h.T,fun g as H b v H' k O=>?_,fun g as H b v H' k A q B=>?_,fun g as H t k Q hQ=>?_,fun g J as H=>?_,fun g M as H b v H' k id o B hid=>?_⟩
 rotate_left 2
 ·obtain ⟨g1, v, H', g2, g3, g4⟩ := h.I g as H t k Q hQ
  refine⟨g1,v,H',g2,fun A q B=>g3 A (fun hm=>q ?_) B,g4⟩;simp only[ah.cP];split
  ·exact aj9 _ hm
  ·exact hm
 ·simp only [ah.cP] at J ⊢
  cases e:ab g sp.f with
  |true=>rw[e]at J; cases J
  | false =>
   rw[e]at J;exact h.F.1 g J as H
 ·simp only [ah.cP] at M k hid ⊢
  cases e:ab g sp.f with
  | false =>
   rw[e]at M k hid;exact h.F.2 g M as H b v H' k id o B hid
  | true =>
   rw[e]at M k hid;simp only[]at M k hid⊢;split at M
   case h_2=>cases M
   rename_i J hs;have U:∀ H,τ.W g as H=none:=fun H=>(h.F.1 g J as H).1;have R:∀ H,τ.C g as H=[]:=fun H=>(h.F.1 g J as H).2;rw[U]at k;split at k
   case h_2=>cases k
   rename_i r hr;cases k;obtain⟨q1,ids,q2,q3⟩:=X6 hs M hr (o:=o) B fun ids N hm=>hid (zx _ (by rw[N]; exact hm));rw[q1];refine⟨rfl,?_⟩;rw[q2,q3,R,R]
 simp only[ah.cP]at k;split at k
 ·rename_i e
  have e:=bD e;subst e;split at k
  ·rename_i r hr
   cases k;subst O;exact⟨Y,X8 hp hc hr⟩
  ·exact h.W _ as H b v H' k O
 ·exact h.W g as H b v H' k O
 simp only[ah.cP]at k q;split at k
 ·rename_i e
  rw[e]at q;simp only[]at q;split at k
  ·rename_i r hr
   cases k;exact X9 hr B fun ids N hm=>q (zx _ (by rw[N]; exact hm))
  ·exact h.C g as H b v H' k A (fun hm=>q (aj9 _ hm)) B
 ·rename_i e
  rw[e]at q;exact h.C g as H b v H' k A q B
end Go.AL

namespace Go.AL
open Go
variable [Dr]
def ar{β:Type}(t:Option (List G))(k:List G→Option β):Option β:=bif t.isSome then k (t.getD []) else none
def fS{β:Type}(b:Bool)(t:Option (List G))(k:List G→Option β):Option β:=bif b then k (t.getD []) else none
def a7{β:Type}(b:Bool)(r:Option (Nat × List G))(k:Nat→List G→Option β):Option β:=bif (b&&r.isSome) then k (F3 r) (F4 r) else none
def Ge:Kd→G→G
 |.int _,g=>.i g.int
 |.str,g=>.s g.str
 |.bool,g=>.t g.bool
 |.list _,g=>.l g.rows
def aR:List Kd→List G→List G
 | [],_=>[]
 |k::ks,r=>Ge k (r.headD default)::aR ks r.tail
def ah.i_(τ:ah)(d:List FuncId):ah:={ τ with pf:=fun g=>match d.any (fun x=>ab x g)with
 |true=>false
 |false=>τ.pf g }
def ah.ig(τ:ah)(d:List FuncId):ah:={ τ with pf:=fun g=>match d.any (fun x=>ab x g)with
 |true=>true
 |false=>τ.pf g }
theorem aj.ig{P:Program}{τ:ah}(h:aj P τ)(d:List FuncId):aj P (τ.ig d):=⟨h.T,h.W,h.C,h.I,h.F⟩
theorem aj.i_{P:Program}{τ:ah}(h:aj P τ)(d:List FuncId):aj P (τ.i_ d):=⟨h.T,h.W,h.C,h.I,h.F⟩
theorem xl{β:Type}{t:Option (List G)}{k:List G→Option β}{g:List G}(h:t=some g):ar t k=k g:=by subst h; rfl
inductive ju (st:List G→Option (Option Nat × List G)):Nat→List G→Nat→List G→Prop
 |stop {d d':List G} {x:Nat} (h:st d=some (some x,d')):ju st 1 d x d'
 |next {d d1 d':List G} {x n:Nat} (h:st d=some (none,d1)) (h':ju st n d1 x d'):ju st (n+1) d x d'
theorem ju.iter{st:List G→Option (Option Nat × List G)}{n:Nat}{d d':List G}{x:Nat}(h:ju st n d x d'):∀ m,n≤m→rP st m d=some (x,d'):=by
 induction h with
 | stop h =>
  intro m hm;cases m with
  |zero=>omega
  |succ m=>simp only[rP,h]
 | next h _ g =>
  intro m hm;cases m with
  |zero=>omega
  |succ m=>simp only[rP,h]; exact g m (by omega)
theorem ju.X_{st:List G→Option (Option Nat × List G)}{n:Nat}{d d':List G}{x:Nat}(h:ju st n d x d')(hn:n≤1000000):cd st d=some (x,d'):=h.iter _ hn
end Go.AL

namespace Go.AL
open Go
variable [Dr]
inductive Hint where
 |freeze (slot:Nat)
 |Nw (slot:Nat) (ks:List Kd)
 |e_ (slot c:Nat) (ks:List Kd)
 |Nx (slot:Nat)
 |Ny (slot c:Nat)
 |hole (ks:List Kd)
 |aQ (slot l:Nat)
 |Nz (slot:Nat)
def Bh(slot:Nat)(s:ao):Bool × ao :=
 match s.fr.getD slot .undef with
 | .vec w id ae off n=>match s.H[id]? with
  |some (.vec ks v rows)=>if ae=v∧off=0∧w=ks.length then (ab n rows.length,⟨s.fr.set slot (.listF ks rows),s.H.set id (.raw .dead)⟩) else (true,s)
  |_=>(true,s)
 |_=>(true,s)
def Gf(slot c:Nat)(ks:List Kd)(s:ao):Bool × ao :=
 match s.fr.getD slot .undef with
 | .ptr id _ _ _ _=>match s.H[id]? with
  | some (.raw (.box cells))=>match cells[c]? with
   | some a=>match isNil a with
    |true=>(true,⟨s.fr,s.H.set id (.raw (.box (cells.set c (.vec ks.length s.H.length 0 0 0))))++[.vec ks 0 []]⟩)
    |false=>(true,s)
   |none=>(true,s)
  |_=>(true,s)
 |_=>(true,s)
def Bi(slot c:Nat)(s:ao):Bool × ao :=
 match s.fr.getD slot .undef with
 | .ptr id _ _ _ _=>match s.H[id]? with
  | some (.raw (.box cells))=>match cells[c]? with
   | some (.vec w d ae off n)=>match s.H[d]? with
    |some (.vec ks v rows)=>if ae=v∧off=0∧w=ks.length then (ab n rows.length,⟨s.fr,(s.H.set d (.raw .dead)).set id (.raw (.box (cells.set c (.listF ks rows))))⟩) else (true,s)
    |_=>(true,s)
   |_=>(true,s)
  |_=>(true,s)
 |_=>(true,s)
def Bj(slot:Nat)(s:ao):Bool × ao :=
 match s.fr.getD slot .undef with
 | .vec w id ae off n=>match s.H[id]? with
  |some (.vec ks v rows)=>if ae=v∧off=0∧w=ks.length then (db n rows.length,⟨s.fr.set slot (.vec w id (v+1) 0 n),s.H.set id (.vec ks (v+1) (rows.take n))⟩) else (true,s)
  |_=>(true,s)
 |_=>(true,s)
def Bk(slot l:Nat)(s:ao):Bool × ao :=
 match s.fr.getD slot .undef with
 | .map id=>match s.H[id]? with
  |some (.map K (.one (.list ks)) [] cl)=>(tH (ai s.H) l,⟨s.fr,s.H.set id (.aQ l K ks [] cl)⟩)
  |_=>(true,s)
 |_=>(true,s)
def Ya(rows:List (List G)):Bool:=rows.all fun r=>(gi r 3).bool
def Bl(slot:Nat)(s:ao):Bool × ao :=
 match s.fr.getD slot .undef with
 | .map id=>match s.H[id]? with
  |some (.aQ _ K ks rows cl)=>(Ya rows,⟨s.fr,s.H.set id (.map K (.one (.list ks)) rows cl)⟩)
  |_=>(true,s)
 |_=>(true,s)
def Bm:Hint→ao→Bool × ao
 |.freeze i,s=>Bh i s
 | .Nw i ks,s=>match isNil (s.fr.getD i .undef) with
  |true=>(true,w9 i ks s)
  |false=>(true,s)
 |.e_ i c ks,s=>Gf i c ks s
 |.Nx i,s=>Bj i s
 |.Ny i c,s=>Bi i c s
 |.hole ks,s=>(true,⟨s.fr,s.H++[.vec ks 0 []]⟩)
 |.aQ i l,s=>Bk i l s
 |.Nz i,s=>Bl i s
def xm:List Hint→ao→Bool × ao
 | [],s=>(true,s)
 | h::hs,s=>match Bm h s with
  | (b,s1)=>match xm hs s1 with
   |(d,s2)=>(b&&d,s2)
theorem Yb{m:Nat}{slot:Nat}{s:ao}(h:(Bh slot s).1=true):bQ m s.den (Bh slot s).2.den:=by
 unfold Bh at h⊢;split
 case h_2=>exact bQ.refl _
 rename_i w id ae off n I;split
 case h_2=>exact bQ.refl _
 rename_i ks v rows hid;split
 case isFalse=>exact bQ.refl _
 rename_i hc;obtain⟨rfl,rfl,rfl⟩:=hc;simp only[I,hid,and_self,if_true]at h;have hn:=bD h;subst hn;intro E a hs;have hH:E.H=ai s.H:=hs.H;have hle:=Env.tg hs.heap id;have O:=au.drop hs.heap id fun o d=>by
  rw[show E.H[id]? = some (.vec ks.length ae (rows.map (aG ks))) by rw[hH]; exact bx hid]at d;cases d;rfl
 have B:ai (s.H.set id (.raw .dead))=E.H.set id .dead:=by rw[eE,hH]; rfl
 refine⟨E.loc.set id none,E.X,?_,?_⟩
 ·simp only [ao.den]
  rw[B];refine⟨rfl,?_,hs.defers,O⟩;refine A9 (eP hle _ hs.fr) fun c hc=>?_;have hr:=F2 hs.fr hc;rw[show s.den.fr=s.fr from rfl,I]at hr;have F:E.H[id]? = some (.vec ks.length ae (rows.map (aG ks))):=by rw[hH]; exact bx hid
  have d:=hs.heap.obj id _ F;rw[km];simp only[rel]at hr⊢;obtain⟨⟨base,cap,rfl,N,_⟩,_,A⟩:=hr;obtain⟨q1,U⟩:=A ⟨_,F,rfl⟩;have J:fA (rows.map (aG ks)):=by
   intro r hr;obtain⟨g,_,rfl⟩:=bR.1 hr;exact gl ks g
  refine⟨J,base,cap,by simp,by simpa using N,?_⟩;simp only[aU]at d;rcases d with⟨h1,M⟩|⟨b,mm,h1,M,A,_,W⟩
  ·exact .inl M
  ·obtain ⟨g1, o, g2, g3⟩ := U b mm h1
   by_cases hm:rows=[]
   ·subst hm; exact .inl rfl
   ·right
    have:0<rows.length:=by cases rows with|nil=>exact(hm rfl).elim|cons _ _=>simp
    simp at A;have d:=g2 (by omega);simp at d;subst d;simp only[kJ]at g3;refine⟨b,0,g3.1,⟨(hs.heap.lt id b mm h1).1,?_,(hs.heap.lt id b mm h1).2⟩,lR hle.toC _ J rfl W⟩;rintro(⟨j,Y,q⟩|⟨l,k,Y,q⟩)
    case inr=>exact hs.heap.dy _ _ _ _ _ _ h1 q
    simp only[fk]at q;split at q
    ·split at q<;>cases q
    ·rename_i R
     exact R (hs.heap.inj _ _ _ _ _ h1 q)
 ·simp only [ao.den]
  rw[B];exact hle.toM
theorem Yc{m:Nat}{slot c:Nat}{ks:List Kd}{s:ao}:bQ m s.den (Gf slot c ks s).2.den:=by
 unfold Gf;split
 case h_2=>exact bQ.refl _
 rename_i id ae k row col hsl;split
 case h_2=>exact bQ.refl _
 rename_i cells hid;split
 case h_2=>exact bQ.refl _
 rename_i a0 ha0;split
 case h_2=>exact bQ.refl _
 rename_i hnil;intro E a hs;have hH:E.H=ai s.H:=hs.H;have hlen:E.H.length=s.H.length:=by rw[hH,ef]
 have hle:E.le (E.push E.w (.vec ks.length 0 []) none):=Env.kn hs.heap.len (Ext.refl _) (fun b n h=>by cases h);have hobj:aU (E.push E.w (.vec ks.length 0 []) none) E.H.length (.vec ks.length 0 []):=by
  simp only[aU,Env.push];refine .inl ⟨?_,trivial⟩;rw[ix (by rw[hs.heap.len]; exact aI _),hs.heap.len,sY];rfl
 have q:au (E.push E.w (.vec ks.length 0 []) none):=au.push hs.heap (Ext.refl _) (fun b n h=>by cases h) hobj;generalize A:E.push E.w (.vec ks.length 0 []) none=d at hle q;have I:d.w=E.w:=by rw[←A]; rfl
 have J:d.X=E.X:=by rw[←A]; rfl
 have M:d.H=ai (s.H++[.vec ks 0 []]):=by rw[←A,iV,←hH]; rfl
 have R:id<s.H.length:=aM hid;have B:d.H[id]? = some (.box cells):=by
  rw[M];exact bx (H:=s.H++[.vec ks 0 []]) (o:=.raw (.box cells)) (by rw[dI R]; exact hid)
 have ho:=q.obj id _ B;simp only[aU]at ho;obtain⟨b,n,h1,h2,N⟩:=ho;have U:∀ v,(af.box (cells.set c (.vec ks.length s.H.length 0 0 0))).aJ = some v→(af.box cells).aJ = some v:=fun v O=>by simpa[af.aJ]using O
 have F:=Env.pE (o':=.box (cells.set c (.vec ks.length s.H.length 0 0 0))) (w':=d.w) q B h1 U rfl (fun _ _=>rfl);have hnew:d.H[s.H.length]? = some (.vec ks.length 0 []):=by
  rw[M];have e:(s.H++[al.vec ks 0 []])[s.H.length]? = some (al.vec ks 0 []):=by rw[ix (aI _),sY]; rfl
  exact bx e
 have hloc:d.loc[s.H.length]? = some none:=by
  rw[←A];simp only[Env.push];rw[ix (by rw[hs.heap.len]; omega),hs.heap.len,hlen,sY];rfl
 have hrel:∀ v,rel d a0 v→rel { w:=d.w,H:=d.H.set id (.box (cells.set c (.vec ks.length s.H.length 0 0 0))),loc:=d.loc,X:=d.X } (.vec ks.length s.H.length 0 0 0) v:=by
  intro v O;obtain⟨base,rfl⟩:=MM hnil O;simp only[rel];have hne:id≠s.H.length:=by omega
  refine⟨⟨base,0,rfl,aI _,fun h=>absurd h (vR _)⟩,⟨.vec ks.length 0 [],by rw[bL hne]; exact hnew,fun v h=>kL _⟩,fun _=>⟨fun _=>⟨trivial,trivial,base,rfl⟩,fun b m hb=>?_⟩⟩;rw[hloc]at hb;cases hb
 have W:=au.set (w':=d.w) q B h1 U rfl (fun _ _=>rfl) (by
  simp only[aU];refine⟨b,n,h1,by simpa using h2,?_⟩;rw[jE]at N⊢;intro i x g;rw[fk]at g;split at g
  ·rename_i e
   subst e;split at g
   ·cases g
    obtain⟨v,g1,g2,g3⟩:=N c a0 ha0;exact⟨v,g1,g2,hrel v g3⟩
   ·cases g
  ·obtain ⟨v, g1, g2, g3⟩ := N i x g
   exact⟨v,g1,g2,cR F x g3⟩)
 have Y:ai (s.H.set id (.raw (.box (cells.set c (.vec ks.length s.H.length 0 0 0))))++[.vec ks 0 []])=d.H.set id (.box (cells.set c (.vec ks.length s.H.length 0 0 0))):=by
  rw[M,iV,iV,eE,aj8 _ _ (by rw[ef]; exact R)];rfl
 refine⟨d.loc,E.X,?_,?_⟩
 ·simp only [ao.den]
  rw[Y];rw[I,J]at W;refine⟨rfl,?_,hs.defers,W⟩;have:=eP F _ (eP hle _ hs.fr);rw[I,J]at this;exact this
 ·simp only [ao.den]
  rw[Y];have:=(hle.trans F).toM (m:=m);rw[I,J]at this;exact this
theorem Yd{m:Nat}{slot c:Nat}{s:ao}(h:(Bi slot c s).1=true):bQ m s.den (Bi slot c s).2.den:=by
 unfold Bi at h⊢;split
 case h_2=>exact bQ.refl _
 rename_i id ver0 k row col hsl;split
 case h_2=>exact bQ.refl _
 rename_i cells hid;split
 case h_2=>exact bQ.refl _
 rename_i w g ae off n O;split
 case h_2=>exact bQ.refl _
 rename_i ks v rows J;split
 case isFalse=>exact bQ.refl _
 rename_i hc;obtain⟨rfl,rfl,rfl⟩:=hc;simp only[hsl,hid,O,J,and_self,if_true]at h;have hn:=bD h;subst hn;intro E a hs;have hH:E.H=ai s.H:=hs.H;have hne:id≠g:=fun e=>by
  rw[e,J]at hid;cases hid
 have U:E.H[id]? = some (.box cells):=by rw[hH]; exact bx hid
 have R:E.H[g]? = some (.vec ks.length ae (rows.map (aG ks))):=by rw[hH]; exact bx J
 obtain⟨b0,n0,k1,k2,k3⟩:=hs.heap.obj id _ U;rw[jE]at k3;obtain⟨cv,c1,c2,c3⟩:=k3 c _ O;have hfr:=LI hs.heap R c3;have hle:=Env.tg hs.heap g;have F:=au.drop hs.heap g fun o ho=>by
  rw[R]at ho;cases ho;rfl
 generalize A:({ w:=E.w,H:=E.H.set g .dead,loc:=E.loc.set g none,X:=E.X }:Env)=d at hle F hfr;have I:d.w=E.w:=by rw[←A]
 have N:d.X=E.X:=by rw[←A]
 have M:d.H[id]? = some (.box cells):=by
  rw[←A];show (E.H.set g .dead)[id]? = _
  rw[bL (Ne.symm hne)];exact U
 have hl1:d.loc[id]? = some (some (b0,n0)):=by
  rw[←A];show (E.loc.set g none)[id]? = _
  rw[bL (Ne.symm hne)];exact k1
 obtain⟨b,n,h1,h2,h3⟩:=F.obj id _ M;have hbb:b=b0:=by
  rw[hl1]at h1;cases h1;rfl
 subst hbb;have W:∀ v,(af.box (cells.set c (.listF ks rows))).aJ = some v→(af.box cells).aJ = some v:=fun v hv=>by simpa[af.aJ]using hv
 have B:=Env.pE (o':=.box (cells.set c (.listF ks rows))) (w':=d.w) F M h1 W rfl (fun _ _=>rfl);have Y:=au.set (w':=d.w) F M h1 W rfl (fun _ _=>rfl) (by
  simp only[aU];refine⟨b,n,h1,by simpa using h2,?_⟩;rw[jE]at h3⊢;intro i x q;rw[fk]at q;split at q
  ·rename_i e
   subst e;split at q
   ·cases q
    refine⟨cv,by rw[show ({ w:=d.w,H:=_,loc:=d.loc,X:=d.X }:Env).w=E.w from I]; exact c1,c2,cR B _ hfr⟩
   ·cases q
  ·obtain ⟨v, g1, g2, g3⟩ := h3 i x q
   exact⟨v,g1,g2,cR B x g3⟩)
 have hden:ai ((s.H.set g (.raw .dead)).set id (.raw (.box (cells.set c (.listF ks rows)))))=d.H.set id (.box (cells.set c (.listF ks rows))):=by
  rw[eE,eE,←hH,←A];rfl
 refine⟨d.loc,E.X,?_,?_⟩
 ·simp only [ao.den]
  rw[hden];rw[I,N]at Y;refine⟨rfl,?_,hs.defers,Y⟩;have:=eP B _ (eP hle _ hs.fr);rw[I,N]at this;exact this
 ·simp only [ao.den]
  rw[hden];have:=(hle.trans B).toM (m:=m);rw[I,N]at this;exact this
theorem Ye{m:Nat}{slot:Nat}{s:ao}(h:(Bj slot s).1=true):bQ m s.den (Bj slot s).2.den:=by
 unfold Bj at h⊢;split
 case h_2=>exact bQ.refl _
 rename_i w id ae off n I;split
 case h_2=>exact bQ.refl _
 rename_i ks v rows hid;split
 case isFalse=>exact bQ.refl _
 rename_i hc;obtain⟨rfl,rfl,rfl⟩:=hc;simp only[I,hid,and_self,if_true]at h;have hn:=kM h;intro E a hs;have hH:E.H=ai s.H:=hs.H;have k:E.H[id]? = some (.vec ks.length ae (rows.map (aG ks))):=by rw[hH]; exact bx hid
 have R:=hs.heap.obj id _ k;obtain⟨l,q⟩:∃ l,E.loc[id]? = some l:=by
  have:id<E.loc.length:=by rw[hs.heap.len]; exact aM k
  exact⟨_,bA this⟩
 have J:E.loc.set id l=E.loc:=mX q;have F:ai (s.H.set id (.vec ks (ae+1) (rows.take n)))=E.H.set id (.vec ks.length (ae+1) ((rows.take n).map (aG ks))):=by rw[eE,hH]; rfl
 have W:∀ b n,l=some (b,n)→E.w.heap.size≤b∨∃ m,E.loc[id]? = some (some (b,m)):=fun b n A=>.inr ⟨n,by rw[q,A]⟩;have M:∀ v u,(af.vec ks.length (ae+1) ((rows.take n).map (aG ks))).aJ = some v→(af.vec ks.length ae (rows.map (aG ks))).aJ = some u→u≤v:=by
  intro v u h1 d;simp[af.aJ]at h1 d;omega
 have N:∀ v,(af.vec ks.length (ae+1) ((rows.take n).map (aG ks))).aJ = some v→∀ u,(af.vec ks.length ae (rows.map (aG ks))).aJ = some u→u<v:=by
  intro v h1 u d;simp[af.aJ]at h1 d;omega
 have hle:=Env.lU (o':=.vec ks.length (ae+1) ((rows.take n).map (aG ks))) (l:=l) (w':=E.w) k hs.heap.len (aI _) (fun _ _ _=>rfl) W (.inr N) M (fun h=>by simp[af.aJ]at h);have O:=au.nX (o':=.vec ks.length (ae+1) ((rows.take n).map (aG ks))) (l:=l) (w':=E.w) hs.heap k (aI _) (fun _ _ _=>rfl) (fun b n A=>.inr ⟨n,by rw[q,A]⟩) (.inr N) M (fun h=>by simp[af.aJ]at h) (by
  rw[J]at hle⊢;simp only[aU]at R⊢;rcases R with⟨h1,d⟩|⟨b,mm,h1,d,B,h4,U⟩
  ·left
   refine⟨h1,?_⟩;have:rows=[]:=by simpa using d
   rw[this];simp
  ·right
   refine⟨b,mm,h1,d,by simp at B⊢; omega,?_,?_⟩
   ·intro r hr
    obtain⟨g,_,rfl⟩:=bR.1 hr;exact gl ks g
   ·rw [mR] at U ⊢
    intro i r hi;simp only[cy,nK]at hi;split at hi
    ·obtain ⟨g1, g2⟩ := U i r (by simpa using hi)
     exact⟨g1,vV (fun a c hr=>cR hle a hr) rfl g2⟩
    ·simp at hi)
 rw[J]at hle O;refine⟨E.loc,E.X,?_,?_⟩
 ·simp only [ao.den]
  rw[F];refine⟨rfl,?_,hs.defers,O⟩;refine A9 (eP hle _ hs.fr) fun c hc=>?_;have hr:=F2 hs.fr hc;rw[show s.den.fr=s.fr from rfl,I]at hr;simp only[rel]at hr⊢;obtain⟨h1,d,B⟩:=hr;exact⟨h1,⟨.vec ks.length (ae+1) ((rows.take n).map (aG ks)),cO (aM k),fun v Y=>by simp[af.aJ]at Y; omega⟩,fun _=>B ⟨_,k,rfl⟩⟩
 ·simp only [ao.den]
  rw[F];exact hle.toM
theorem Yf{m:Nat}{ks:List Kd}{s:ao}:bQ m s.den (ao.den ⟨s.fr,s.H++[.vec ks 0 []]⟩):=fun E a hs=>by
 have hH:E.H=ai s.H:=hs.H;have hle:E.le (E.push E.w (.vec ks.length 0 []) none):=Env.kn hs.heap.len (Ext.refl _) (fun b n h=>by cases h);have g:aU (E.push E.w (.vec ks.length 0 []) none) E.H.length (.vec ks.length 0 []):=by
  simp only[aU,Env.push];refine .inl ⟨?_,trivial⟩;rw[ix (by rw[hs.heap.len]; exact aI _),hs.heap.len,sY];rfl
 have k:au (E.push E.w (.vec ks.length 0 []) none):=au.push hs.heap (Ext.refl _) (fun b n h=>by cases h) g;have d:(ao.den ⟨s.fr,s.H++[.vec ks 0 []]⟩).H=E.H++[.vec ks.length 0 []]:=by
  rw[hH];simp[ao.den,ai,al.den]
 refine⟨E.loc++[none],E.X,?_,?_⟩
 ·rw [d]
  exact⟨d.symm,eP hle _ hs.fr,hs.defers,k⟩
 ·rw [d]
  exact hle.toM
theorem Yg{m:Nat}{slot l:Nat}{s:ao}(h:(Bk slot l s).1=true):bQ m s.den (Bk slot l s).2.den:=by
 unfold Bk at h⊢;split
 case h_2=>exact bQ.refl _
 rename_i id q;split
 case h_2=>exact bQ.refl _
 rename_i K ks cl hid;simp only[q,hid]at h;intro E a hs;have hH:E.H=ai s.H:=hs.H;have k:E.H[id]? = some (.map [] cl):=by rw[hH]; exact bx hid
 obtain⟨h1,g⟩:=V0 (w:=ks.length) hs.heap k (by rw[hH]; exact h);have d:ai (s.H.set id (.aQ l K ks [] cl))=E.H.set id (.aQ l ks.length [] cl):=by rw[eE,hH]; rfl
 refine⟨E.loc,E.X,?_,?_⟩
 ·simp only [ao.den]
  rw[d];exact⟨rfl,eP g _ hs.fr,hs.defers,h1⟩
 ·simp only [ao.den]
  rw[d];exact g.toM
theorem Yh{m:Nat}{slot:Nat}{s:ao}(h:(Bl slot s).1=true):bQ m s.den (Bl slot s).2.den:=by
 unfold Bl at h⊢;split
 case h_2=>exact bQ.refl _
 rename_i id J;split
 case h_2=>exact bQ.refl _
 rename_i l K ks rows cl hid;simp only[J,hid]at h;intro E a hs;have hH:E.H=ai s.H:=hs.H;have q:E.H[id]? = some (.aQ l ks.length (gO K ks rows) cl):=by rw[hH]; exact bx hid
 have B:=hs.heap.obj id _ q;simp only[aU]at B;obtain⟨b,n,ms,g1,g2,g3,hh,k1,R⟩:=B;obtain⟨h1,F⟩:=au.VV (o':=.map (cC K (.one (.list ks)) rows) cl) hs.heap q rfl rfl rfl fun hle=>by
  simp only[aU];refine⟨b,n,ms,g1,g2,?_⟩;rw[fE]at g3⊢;obtain⟨U,W⟩:=g3;refine⟨by simpa[cC,c9,gO]using U,fun i x e d he=>?_⟩;unfold cC at d;rw[cy]at d;obtain⟨r,hr,rfl⟩:=fM.1 d;have I:=wP (K:=K) (ks:=ks) hr;have M:(gi r 3).bool=true:=ep.1 h r (fy hr);obtain⟨Y,a2,a3,a4,a5⟩:=W i _ e (An I) he;refine⟨cR hle _ Y,?_,a3,a4,rfl⟩;have N:=R i _ ((kX r).map (aG ks)) e I (by simp only[kq,M,cond_true]) he;show rel _ (.listF ks (kX r)) e.val
  rw[km];simp only[rel];have O:fA ((kX r).map (aG ks)):=by
   intro r hr;obtain⟨g,_,rfl⟩:=bR.1 hr;exact gl ks g
  refine⟨O,?_⟩;rcases N with⟨s1,base,s2⟩|⟨bb,mm,s1,s2,s3,s4,s5,s6⟩
  ·rw [s1]
   exact⟨base,0,s2,aI _,.inl rfl⟩
  ·refine ⟨_, mm, s2, s4, .inr ⟨bb, 0, rfl, ⟨(hs.heap.cT _ _ _ _ s1).1, ?_, (hs.heap.cT _ _ _ _ s1).2⟩, lS (fun a _ hr => cR hle a hr) rfl s6⟩⟩
   rintro(⟨j,c',k⟩|⟨l',k',c',k⟩)
   ·exact hs.heap.dy _ _ _ _ _ _ k s1
   ·obtain ⟨j1, j2⟩ := pI k
    exact j2 (hs.heap.fC _ _ _ _ _ _ _ j1 s1).1
 have A:ai (s.H.set id (.map K (.one (.list ks)) rows cl))=E.H.set id (.map (cC K (.one (.list ks)) rows) cl):=by rw[eE,hH]; rfl
 refine⟨E.loc,E.X.re (l6 E.X.r l),?_,?_⟩
 ·simp only [ao.den]
  rw[A];exact⟨rfl,eP F _ hs.fr,hs.defers,h1⟩
 ·simp only [ao.den]
  rw[A];exact F.toM
theorem Yi{m:Nat}(h:Hint)(s:ao)(d:(Bm h s).1=true):bQ m s.den (Bm h s).2.den:=by
 cases h with
 |freeze i=>exact Yb d
 | Nw i ks =>
  simp only[Bm];split
  ·rename_i h; exact MN h
  ·exact bQ.refl _
 |e_ i c ks=>exact Yc
 |Nx i=>exact Ye d
 |Ny i c=>exact Yd d
 |hole ks=>exact Yf
 |aQ i l=>exact Yg d
 |Nz i=>exact Yh d
theorem NA{m:Nat}:∀(hs:List Hint) (s:ao),(xm hs s).1=true→bQ m s.den (xm hs s).2.den
 | [],s,_=>bQ.refl _
 | h::hs,s,d=>by
  simp only[xm]at d⊢;simp only[ay]at d;exact(Yi h s d.1).trans (NA hs _ d.2)
def NB:List (Nat × List Hint)→Nat→List Hint
 | [],_=>[]
 | (i,hs)::l,id=>match ab id i with
  |true=>hs
  |false=>NB l id
def LT.ja(L:LT)(hs:List (Nat × List Hint)):LT:=⟨L.loops,fun id s=>xm (NB hs id) s,L.wZ⟩
theorem rT{P:Program}{m:Nat}{c:Code}(hs:List (Nat × List Hint)):ax P m (az.ja hs) c:=⟨fun _ _ _ _ _ h=>(nomatch h),fun id s d=>NA _ s d,fun _ _ _ _ _ h=>(nomatch h)⟩
end Go.AL

namespace Go.AL
open Go
variable [Dr]
end Go.AL

namespace Go.AL
open Go Go.ChangeMaps
variable [Dr]
theorem bl.ic{s:St}{E:Env}{a:Act}(hs:bl s E a)(t:Tmp){v:AV}{u:Value}(d:rel E v u):bl (s.put (some t) v s.H) E (a.put (some t) u) :=
 ⟨hs.H,EL hs.fr (Env.le.refl E) (some t) d,by rw[put_defers]; exact hs.defers,hs.heap⟩
theorem rU{m:Nat}{E E':Env}(h:E.dv m E'):E.bJ E' :=
 ⟨fun b d=>⟨⟨Nat.lt_of_lt_of_le d.1 h.size,h.own b d.1 d.2.1,fun g=>d.2.2 ((h.X b d.1).1.1 g)⟩,h.same b d.1 d.2.1⟩⟩
theorem ij{P:Program}{ops:Array Oper}{Q:Exit→Act→World→Prop}{i:Nat}{o:Oper}{K:Act→World→Prop}{a:Act}{w w':World}{u:Value}
  (hi:ops[i]? = some o) (g:o.guard=none) (hr:(execOp a.eval o).run P w=.ok (.value u) w') (d:∀ c,o.op≠.defer c) (ro:Option Nat) (k:K (a.put o.dst u) w'):wpOpIn (fz ro) 0 P ops Q i K a w:=by
 unfold wpOpIn;simp only[hi];rw[if_pos (by simp[Region.wanted,g])];unfold Oper.wpIn;rw[Oper.semAt_eq _ _ _ d,hr];exact⟨fun _ _=>trivial,k⟩
theorem oy{P:Program}{pf:FuncId→Bool}{ops:Array Oper}{Q:Exit→Act→World→Prop}(ro:Option Nat):∀(l:List Oper) (k:Nat) (s s':St) (E:Env) (a:Act) (rest:List Nat),
  (∀(j:Nat) (o:Oper),l[j]? = some o→ops[k+j]? = some o)→eT P pf ops l s s'→bl s E a→(∀ d w',fq E s' d w'→wpOpsIn (fz ro) 0 P ops Q rest d w')→wpOpsIn (fz ro) 0 P ops Q (jk k l.length++rest) a E.w
 | [],k,s,s',E,a,rest,_,h,hs,g=>by
  simp only[eT]at h;subst h;exact g _ _ (fq.refl hs)
 | o::l,k,s,s',E,a,rest,q,h,hs,g=>by
  obtain⟨v,H',I,A⟩:=h;simp only[cF,zw,nO];rw[wpOpsIn_cons];refine EN hs (by simpa using q 0 o rfl) I (fun d w' hc=>?_) ro;obtain⟨B,r',h1,J⟩:=hc;refine oy ro l (k+1) _ s' { w:=w',H:=H',loc:=B,X:=E.X.re r' } d rest (fun j x M=>?_) A h1 (fun a2 N F=>g a2 N (fq.after J F));have:=q (j+1) x (by simpa using M)
  rwa [show k+1+j=k+(j+1) from by omega]
theorem lp{a:Act}{t:Tmp}{u:Value}(h:t<a.tmps.size):(a.put (some t) u).eval (.tmp t)=u:=by
 simp[Act.eval,s7,h]
def Tree.fg:Tree→Option (bB × ao)
 |.fail=>none
 |.done x s=>some (x,s)
 | .ask b t e=>match b with
  |true=>t.fg
  |false=>e.fg
 | .side b t=>match b with
  |true=>t.fg
  |false=>none
theorem qg:∀{t:Tree} {x:bB} {s:ao},t.fg=some (x,s)→t.holds fun d s'=>d=x∧s'=s
 |.fail,_,_,h=>by cases h
 | .done _ _,_,_,h=>by
  cases h;exact⟨rfl,rfl⟩
 | .ask b t e,_,_,h=>by
  cases b with
  |true=>exact⟨fun _=>qg (t:=t) h,fun h=>(nomatch h)⟩
  |false=>exact⟨fun h=>(nomatch h),fun _=>qg (t:=e) h⟩
 | .side b t,_,_,h=>by
  cases b with
  |true=>exact⟨rfl,qg (t:=t) h⟩
  |false=>cases h
def bP(st:List G→List G→Option (List G))(aT:List G→Nat):List (List G)→List G→Option (List G)
 | [],d=>some d
 | r::rs,d=>match st r d with
  |some d'=>bif ab (aT d') (aT d) then bP st aT rs d' else none
  |none=>none
theorem xn{st:List G→List G→Option (List G)}{aT:List G→Nat}:∀(p q:List (List G)) (d:List G),bP st aT (p++q) d=(bP st aT p d).bind (bP st aT q)
 | [],_,_=>rfl
 | r::p,q,d=>by
  simp only[nO,bP];cases st r d with
  |none=>rfl
  | some d' =>
   simp only[];cases ab (aT d') (aT d)with
   |false=>rfl
   |true=>exact xn p q d'
def bI(r:List G):Nat:=(gi r 2).int.toNat
theorem ui{f:List G→Nat}{r:List G}:∀{l:List (List G)} {seen:Array Nat},(l.map f).Nodup→r∈l→seen.contains (f r)=false →
  (l.filter fun x => !seen.contains (f x)).Perm (r::l.filter fun x => !(seen.push (f r)).contains (f x))
 | [],_,_,h,_=>by cases h
 | x::l,seen,hn,hm,hs=>by
  obtain⟨d,hn⟩:=kg.1 hn;rcases bC.1 hm with rfl|hm
  ·have e:(l.filter fun x => !(seen.push (f r)).contains (f x))=l.filter fun x => !seen.contains (f x):=by
    apply List.filter_congr;intro y q;have:(f y==f r)=false:=by
     rw[beq_eq_false_iff_ne];intro e;exact d (e▸bR.2 ⟨y,q,rfl⟩)
    rw[contains_push,this,KA]
   rw[List.filter_cons_of_pos (by rw[hs]; rfl),List.filter_cons_of_neg (by rw[contains_push]; simp),e]
  ·have k:(f x==f r)=false:=by
    rw[beq_eq_false_iff_ne];intro e;exact d (e▸bR.2 ⟨r,hm,rfl⟩)
   have g:=ui hn hm hs;simp only[List.filter_cons,contains_push seen (f r) (f x),k,KA];cases seen.contains (f x)with
   |true=>simpa using g
   | false =>
    simp only[Bool.not_false,if_true];exact(List.Perm.cons x g).trans (List.Perm.swap r x _)
structure eu where
 inv:lj
 ps:List iF
 opens:List (Nat × List Kd)
 K:Ct
 V:Ct
 id:Nat
 x:Tmp
 y:Tmp
 it:Tmp
 t1:Tmp
 t2:Tmp
 t3:Tmp
 aT:List G→Nat
 init:List G→Nat→List G
 side:List G→Nat→Bool
 st:List G→List G→Option (List G)
def eu.rs(sp:eu)(r d:List G):ao:=⟨(aF sp.inv d).fr.set sp.t3 (.tuple [sp.K.av (gi r 0).row,sp.V.av (gi r 1).row]),(aF sp.inv d).H⟩
def eu.s2(sp:eu)(s:ao)(b:Nat):ao:=⟨s.fr.set sp.it (.lit (.pointer (some ⟨b,0,none⟩))),s.H.set sp.id (.raw .dead)⟩
def oz(m:Nat)(inv:lj)(ps:List iF)(x:bB)(s:ao):Option (Bool × List G) :=
 match x with
 |.normal=>gg m inv ps s
 |_=>none
structure oA (P:Program) (sp:eu) (ops0 ops1 ops2:Array Oper):Prop where
 r0:∃ o2 ty,ops0.toList=ops0.toList.dropLast++[o2]∧o2.guard=none∧o2.op=.range ty (.tmp sp.y)∧o2.dst=some sp.it∧(fD P ty).isSome=true
 r1:∃ o1 o2,ops1.toList=[o1,o2]∧o1.guard=none∧o1.op=.next (.tmp sp.it) false∧o1.dst=some sp.t1∧o2.guard=none∧o2.op=.extract (.tmp sp.t1) 0∧o2.dst=some sp.t2
 r2:∃ o1 l,ops2.toList=o1::l∧o1.guard=none∧o1.op=.entry (.tmp sp.it)∧o1.dst=some sp.t3
def iG(r0 b0 r1 b1 r2:Nat)(ops0 ops1 ops2:Array Oper)(t2:Tmp)(body:Code):Code :=
 .seq (.region r0 ops0 false) (.block b0 (.loop (.seq (.region r1 ops1 false) (.seq (.cond (.tmp t2) .skip (.exit b0)) (.block b1 (.seq (.region r2 ops2 false) body))))))
theorem Gg{ro:Option Nat}{r0 b0 r1 b1 r2:Nat}{ops0 ops1 ops2:Array Oper}{t2:Tmp}{body:Code}(h:e9 ro (iG r0 b0 r1 b1 r2 ops0 ops1 ops2 t2 body)):e9 ro body:=h.imp id fun h=>by
 simpa[iG,eC]using h
section range
variable {P:Program} {τ:ah} {L:LT} {m:Nat} {sp:eu} {ops0 ops1 ops2:Array Oper} {body:Code}
def iH(P:Program)(τ:ah)(L:LT)(m:Nat)(sp:eu)(ops2:Array Oper)(body:Code):Prop :=
 ∀ r d,(eg P τ ops2 (ops2.toList.drop 1) (sp.rs r d) (fun s=>bW P τ L body s .done)).leaf (oz m sp.inv sp.ps)=sp.st r d
theorem NC(hm:P.follows .mixedOrders=true)(q:aj P τ)(A:ax P m L body)(hr:iH P τ L m sp ops2 body){r d d':List G}(h:sp.st r d=some d') :
  ∃ k:ao,eT P τ.pf ops2 (ops2.toList.drop 1) (sp.rs r d).den k.den∧cn P m body k.den .normal (aF sp.inv d').den:=by
 rw[←hr r d]at h;obtain⟨k,h1,B⟩:=pV q (Q:=fun x s=>oz m sp.inv sp.ps x s=some (true,d')) (iY h);obtain⟨x,F,I,g⟩:=dS hm q body k .done A B;have g:oz m sp.inv sp.ps x F=some (true,d'):=g;unfold oz at g;split at g
 ·exact⟨k,h1,rm I (jr g)⟩
 ·cases g
def ND(m:Nat)(sp:eu)(E:Env)(rows:List (List G))(d0:List G)(itb mb clock:Nat)(ms:Array MapEntry)(a:Act)(w:World):Prop :=
 ∃(d:List G) (loc:List (Option (Nat × Nat))) (X:XS) (seen:Array Nat) (last:Nat) (p:List (List G)),
  bP sp.st sp.aT p d0=some d∧sp.aT d=itb∧(p++rows.filter fun x => !seen.contains (bI x)).Perm rows ∧
  bl (aF sp.inv d).den { w:=w,H:=(aF sp.inv d).den.H,loc:=loc,X:=X } a∧E.dv m { w:=w,H:=(aF sp.inv d).den.H,loc:=loc,X:=X }∧X itb ∧
  w.heap[itb]? = some (.mapIter (some mb) clock seen last)∧clock≤last∧w.heap[mb]? = some (.map ms clock) ∧
  ¬ Env.own { w:=w,H:=(aF sp.inv d).den.H,loc:=loc,X:=X } mb∧bT { w:=w,H:=(aF sp.inv d).den.H,loc:=loc,X:=X } (cC sp.K sp.V rows) ms.toList
theorem bl.lq{s:St}{E:Env}{a:Act}(hs:bl s E a){t:Tmp}(hu:s.fr[t]? = some .undef)(u:Value):bl s E (a.put (some t) u):=by
 have h:=hs.ic t (v:=.undef) (u:=u) (by simp[rel]);have e:s.put (some t) .undef s.H=s:=by
  simp only[St.put,jH,mX hu]
 rwa [e]at h
theorem uj{s:St}{E:Env}{a:Act}(hs:bl s E a){t:Tmp}{v:AV}(hu:s.fr[t]? = some v):t<a.tmps.size:=by
 have h1:s.fr.length=a.tmps.size:=by simpa using(nV.1 hs.fr).1
 have d:t<s.fr.length:=aM hu;rw[h1]at d;exact d
theorem uk{o:Oper}{t:Tmp}{a:Act}{w:World}{cs:Array Value}{u:Value}(d:o.op=.extract (.tmp t) 0)(g:a.eval (.tmp t)=.tuple cs)(hc:cs[0]? = some u) :
  (execOp a.eval o).run P w=.ok (.value u) w:=by
 obtain⟨dst,op,type,pos,after,guard⟩:=o;subst d;exact m_ (by simp[Instr.extract,g,hc])
theorem um{o:Oper}{t:Tmp}{a:Act}{w w':World}{x u:Value}(d:o.op=.next (.tmp t) false)(g:a.eval (.tmp t)=x)(h:(Instr.next x false o.type).run P w=.ok u w') :
  (execOp a.eval o).run P w=.ok (.value u) w':=by
 obtain⟨dst,op,type,pos,after,guard⟩:=o;subst d;subst g;exact m_ h
theorem Gh{o:Oper}{t:Tmp}{a:Act}{w w':World}{x u:Value}(d:o.op=.entry (.tmp t))(g:a.eval (.tmp t)=x)(h:(Instr.entry x).run P w=.ok u w') :
  (execOp a.eval o).run P w=.ok (.value u) w':=by
 obtain⟨dst,op,type,pos,after,guard⟩:=o;subst d;subst g;exact m_ h
theorem Gi{o:Oper}{t:Tmp}{ty:TypeId}{a:Act}{w w':World}{x u:Value}(d:o.op=.range ty (.tmp t))(g:a.eval (.tmp t)=x)(h:(Instr.range ty x).run P w=.ok u w') :
  (execOp a.eval o).run P w=.ok (.value u) w':=by
 obtain⟨dst,op,type,pos,after,guard⟩:=o;subst d;subst g;exact m_ h
theorem oB{w:World}{b:Nat}{o:Obj}(h:w.heap[b]? = some o):b<w.heap.size:=(Array.getElem?_eq_some_iff.1 h).1
theorem uo{w:World}{r:Nat}{a:Option Nat}{b c:Nat}{s:Array Nat}(h:w.heap[r]? = some (.mapIter a b s c)):w.iterSeen r=s:=by
 unfold World.iterSeen;rw[h]
theorem Yj(hm:P.follows .mixedOrders=true)(ht:aj P τ)(hL:ax P m L body)(hr:iH P τ L m sp ops2 body)(ho:oA P sp ops0 ops1 ops2)
  (hu1:∀ d,(aF sp.inv d).fr[sp.t1]? = some .undef) (hu2:∀ d,(aF sp.inv d).fr[sp.t2]? = some .undef) (hut:∀ d,(aF sp.inv d).fr[sp.it]? = some (.lit (.pointer (some ⟨sp.aT d,0,none⟩))))
  {E:Env} {rows:List (List G)} {d0:List G} {itb mb clock:Nat} {ms:Array MapEntry} {r1 b0 b1 r2:Nat}
  (hsz:E.w.heap.size≤itb) (hn:(rows.map bI).Nodup) (hlt:∀ r∈rows,bI r<clock) (hne:mb≠itb)
  (hfold:∀ p,p.Perm rows→(bP sp.st sp.aT p d0).isSome=true) {a:Act} {w:World} (hI:ND m sp E rows d0 itb mb clock ms a w) (ro:Option Nat) (hro:e9 ro body) :
  (Code.loop (.seq (.region r1 ops1 false) (.seq (.cond (.tmp sp.t2) .skip (.exit b0)) (.block b1 (.seq (.region r2 ops2 false) body))))).wpIn (fz ro) 0 P
   (fun e a1 I=>e=.exit b0∧∃ p d,p.Perm rows∧bP sp.st sp.aT p d0=some d∧dj m E (aF sp.inv d).den a1 I) a w:=by
 obtain⟨o1,o2,e1,g1,p1,q1,g2,R,q2⟩:=ho.r1;obtain⟨o3,l,e3,g3,p3,q3⟩:=ho.r2;refine wpIn_loop (ND m sp E rows d0 itb mb clock ms) (fun _ w=>(leftOf ms (w.iterSeen itb)).size) hI fun a w hI=>?_;obtain⟨d,loc,X,seen,last,p,hf,had,hp,hs,hle,hXi,hit,hcl,hmb,hown,hre⟩:=hI;have h10:ops1[0]? = some o1:=by
  have:ops1.toList[0]? = some o1:=by rw[e1]; rfl
  simpa using this
 have h11:ops1[1]? = some o2:=by
  have:ops1.toList[1]? = some o2:=by rw[e1]; rfl
  simpa using this
 have hsz1:ops1.size=2:=by
  have:ops1.toList.length=2:=by rw[e1]; rfl
  simpa using this
 have hiv:a.eval (.tmp sp.it)=.pointer (some ⟨itb,0,none⟩):=by
  have h:=hs.eval (.tmp sp.it);have e:(aF sp.inv d).den.eval (.tmp sp.it)=.lit (.pointer (some ⟨sp.aT d,0,none⟩)):=by
   show (aF sp.inv d).fr.getD sp.it .undef=_
   rw[cG,hut d];rfl
  rw[e]at h;simp only[rel]at h;rw[h,had]
 obtain⟨hlen,hen⟩:=fE.1 hre;have hl1:(cC sp.K sp.V rows).length=rows.length:=by simp[cC]
 have J:∀(i:Nat) (e:MapEntry),ms.toList[i]? = some e→∃ r,rows[i]? = some r∧e.born=bI r:=by
  intro i e hi;have h1:=aM hi;have k:i<rows.length:=by omega
  refine⟨rows[i],bA k,?_⟩;exact(hen i (sp.K.av (gi rows[i] 0).row,sp.V.av (gi rows[i] 1).row,(gi rows[i] 2).int.toNat) e (by simp[cC,k]) hi).2.2.1
 have hold:∀ x∈ms.toList,x.born<clock:=by
  intro x A;obtain⟨i,hi⟩:=lN A;obtain⟨r,h1,k⟩:=J i x hi;rw[k];exact hlt r (fy h1)
 have hbn:(ms.toList.map (·.born)).Nodup:=by
  have:ms.toList.map (·.born)=rows.map bI:=by
   apply List.ext_getElem?;intro i;simp only[cy];cases hi:ms.toList[i]? with
   | none =>
    have h1:=List.getElem?_eq_none_iff.1 hi;rw[List.getElem?_eq_none (by omega)];rfl
   | some e =>
    obtain⟨r,h1,k⟩:=J i e hi;rw[h1];simp[k]
  rw[this];exact hn
 refine wpIn_seq (wpIn_region ?_);rw[hsz1];show wpOpsIn (fz ro) 0 P ops1 _ [0,1] a w
 rw[wpOpsIn_cons];have hlt1:=uj hs (hu1 d);have hlt2:=uj hs (hu2 d);rcases run_next_at (P:=P) w o1.type itb mb clock last seen ms clock hit hmb hold hcl with⟨h0,Y⟩|⟨e,he,I,hw1,Y⟩
 ·refine ij h10 g1 (um p1 hiv Y) (fun c e => by rw [p1] at e; cases e) ro ?_
  rw[q1,wpOpsIn_cons];refine ij h11 g2 (uk R (lp hlt1) rfl) (fun c e=>by rw[R]at e; cases e) ro ?_;rw[q2];show (Code.seq _ _).wpIn (fz ro) 0 P _ _ w
  refine wpIn_seq (wpIn_cond_false (lp (by simpa[s7]using hlt2)) (wpIn_exit ?_));refine⟨rfl,p,d,?_,hf,loc,X,?_,hle⟩
  ·have:(rows.filter fun x => !seen.contains (bI x))=[]:=by
    rw[List.filter_eq_nil_iff];intro x A hc;obtain⟨i,hi⟩:=lN A;have h1:=aM hi;have k:i<ms.toList.length:=by omega
    obtain⟨r,U,h4⟩:=J i _ (bA k);rw[hi]at U;cases U;have:ms.toList[i]∈(leftOf ms seen).toList:=by
     unfold leftOf;rw[Array.toList_filter];refine gk.2 ⟨qO k,?_⟩;rw[h4];exact hc
    have h5:(leftOf ms seen).toList.length=0:=by simpa using h0
    rw[List.length_eq_zero_iff.1 h5]at this;cases this
   rwa [this,gH]at hp
  ·exact(hs.lq (hu1 d) (.tuple #[.bool false])).lq (hu2 d) (.bool false)
 ·refine ij h10 g1 (um p1 hiv Y) (fun c e => by rw [p1] at e; cases e) ro ?_
  rw[q1,wpOpsIn_cons];refine ij h11 g2 (uk R (lp hlt1) rfl) (fun c e=>by rw[R]at e; cases e) ro ?_;rw[q2];show (Code.seq _ _).wpIn (fz ro) 0 P _ _ _
  refine wpIn_seq (wpIn_cond_true (lp (by simpa[s7]using hlt2)) (wpIn_skip ?_));show (Code.block _ _).wpIn (fz ro) 0 P _ _ _
  refine wpIn_block (wpIn_seq (wpIn_region ?_));generalize O:setBlock I itb (.mapIter (some mb) clock (seen.push e.born) clock)=g;have N:I.heap=w.heap:=by rcases hw1 with rfl|rfl<;>rfl
  have hos:dx w g:=by rw[←O]; rcases hw1 with rfl|rfl<;>exact⟨rfl,rfl,rfl,by first|exact fun _=>aI _|exact fun _=>eB _ _⟩
  have W:g.heap[itb]? = some (.mapIter (some mb) clock (seen.push e.born) clock):=by
   rw[←O];exact(zC (by rw[N]; exact hit)).1
  have M:∀ b,b≠itb→g.heap[b]? = w.heap[b]? := by
   intro b q;rw[←O];show (I.heap.setIfInBounds itb _)[b]? = _
   rw[(zC (by rw[N]; exact hit)).2 b q,N]
  have hsize:g.heap.size=w.heap.size:=by
   rw[←O];show (I.heap.setIfInBounds itb _).size=_
   simp[N]
  have hmb2:g.heap[mb]? = some (.map ms clock):=by rw[M mb hne]; exact hmb
  have b_:gd { w:=w,H:=(aF sp.inv d).den.H,loc:=loc,X:=X } { w:=g,H:=(aF sp.inv d).den.H,loc:=loc,X:=X } :=
   ⟨rfl,rfl,by show w.heap.size≤g.heap.size; omega,fun b q A=>⟨A,M b (fun e=>A (by rw[e]; exact hXi))⟩,fun b q=>by show b<g.heap.size; rw[hsize]; exact hs.heap.X b q,rfl⟩
  have hmk:jo g X a.defers:=⟨hs.defers.1,fun dd hdd=>by
   obtain⟨D,e,h1,k,U⟩:=hs.defers.2 dd hdd;exact⟨D,e,by rw[M D (fun e=>by rw[e]at h1; rw[hit]at h1; cases h1)]; exact h1,k,U⟩⟩
  have hs1:=((hs.b_ b_ hmk).lq (hu1 d) (.tuple #[.bool true,e.key,e.val])).lq (hu2 d) (.bool true);obtain⟨hem,hes⟩:=mem_left he;obtain⟨i,hi⟩:=lN hem;obtain⟨r,hri,hrb⟩:=J i e hi;have hrm:=fy hri;have hre2:=mc b_.toC hre;obtain⟨k1,k2,_⟩:=(fE.1 hre2).2 i (sp.K.av (gi r 0).row,sp.V.av (gi r 1).row,(gi r 2).int.toNat) e (by simp[cC,hri]) hi;have hiv1:((a.put (some sp.t1) (.tuple #[.bool true,e.key,e.val])).put (some sp.t2) (.bool true)).eval (.tmp sp.it)=.pointer (some ⟨itb,0,none⟩):=by
   have h:=hs1.eval (.tmp sp.it);have e:(aF sp.inv d).den.eval (.tmp sp.it)=.lit (.pointer (some ⟨sp.aT d,0,none⟩)):=by
    show (aF sp.inv d).fr.getD sp.it .undef=_
    rw[cG,hut d];rfl
   rw[e]at h;simp only[rel]at h;rw[h,had]
  have h20:ops2[0]? = some o3:=by
   have:ops2.toList[0]? = some o3:=by rw[e3]; rfl
   simpa using this
  have hl2:ops2.toList.drop 1=l:=by rw[e3]; rfl
  have hsz2:ops2.size=l.length+1:=by
   have:ops2.toList.length=l.length+1:=by rw[e3]; rfl
   simpa using this
  have hlp:(p++(r::rows.filter fun x => !(seen.push (bI r)).contains (bI x))).Perm rows :=
   (UN p (ui hn hrm (by rw[←hrb]; exact hes)).symm).trans hp
  have B:∃ d',sp.st r d=some d'∧sp.aT d'=sp.aT d:=by
   have h:=hfold _ hlp;rw[xn,hf]at h;simp only[s9,bP]at h;cases B:sp.st r d with
   |none=>rw[B]at h; cases h
   | some d' =>
    rw[B]at h;simp only[]at h;cases q:ab (sp.aT d') (sp.aT d)with
    |true=>exact⟨d',rfl,bD q⟩
    |false=>rw[q]at h; cases h
  obtain⟨d',B,had'⟩:=B;have hf':bP sp.st sp.aT (p++[r]) d0=some d':=by
   rw[xn,hf];simp only[s9,bP,B,had'];simp
  obtain⟨s4,ha4,hsat⟩:=NC hm ht hL hr B;rw[hsz2,vQ,zw,wpOpsIn_cons];refine ij h20 g3 (Gh p3 hiv1 (run_entry_at (P:=P) g itb mb clock seen ms clock e W hmb2 hem hbn)) (fun c e=>by rw[p3]at e; cases e) ro ?_;rw[q3];have hs3:=hs1.ic sp.t3 (v:=.tuple [sp.K.av (gi r 0).row,sp.V.av (gi r 1).row]) (u:=.tuple #[e.key,e.val]) (by simp only[rel]; exact⟨_,rfl,by simp only[ad]; exact⟨k1,k2,trivial⟩⟩);refine Ar (pf:=τ.pf) (ops:=ops2) l (0+1) (sp.rs r d).den s4.den { w:=g,H:=(aF sp.inv d).den.H,loc:=loc,X:=X } _ (by rw[←hl2]) (by rw[hl2]at ha4; exact ha4) hs3 (fun a3 w3 hc3=>?_) ro;obtain⟨lr,r3,hs4,hle3⟩:=hc3;show body.wpIn (fz ro) 0 P _ a3 w3
  refine wpIn_mono (hsat ro hro { w:=w3,H:=s4.den.H,loc:=lr,X:=X.re r3 } a3 hs4) fun x a4 w4 A=>?_;obtain⟨rfl,loc4,X4,hs5,hle4⟩:=A;have F:({ w:=g,H:=(aF sp.inv d).den.H,loc:=loc,X:=X }:Env).dv m { w:=w4,H:=(aF sp.inv d').den.H,loc:=loc4,X:=X4 }:=hle3.toM.trans hle4;have hXsz:itb<g.heap.size:=oB W;have hnown:¬ Env.own { w:=g,H:=(aF sp.inv d).den.H,loc:=loc,X:=X } itb:=by
   exact(hs.heap.b_ b_).jF hXi
  have hmbsz:mb<g.heap.size:=oB hmb2;have hit4:w4.heap[itb]? = some (.mapIter (some mb) clock (seen.push e.born) clock):=by rw[F.same itb hXsz hnown]; exact W
  refine⟨⟨d',loc4,X4,seen.push e.born,clock,p++[r],hf',by rw[had',had],?_,hs5,?_,(F.X itb hXsz).1.2 hXi,hit4,aI _,?_,?_,?_⟩,?_⟩
  ·rw [hrb, kh]
   exact hlp
  ·refine Env.dv.trans (E' := { w := g, H := (aF sp.inv d).den.H, loc := loc, X := X }) ⟨hle.past, ?_, ?_, hle.own, hle.live, hle.X, hle.rl, hle.env.trans hos⟩ F
   ·have := hle.size
    show E.w.heap.size≤g.heap.size
    rw[hsize];exact this
   ·intro b q hbo
    show g.heap[b]? = _
    rw[M b (by omega)];exact hle.same b q hbo
  ·rw [F.same mb hmbsz hown]
   exact hmb2
  ·exact F.own mb hmbsz hown
  ·exact mc (rU F) hre2
  ·show (leftOf ms (w4.iterSeen itb)).size < (leftOf ms (w.iterSeen itb)).size
   rw[uo hit4,uo hit];exact left_shrinks ms seen e he
theorem Yk(hm:P.follows .mixedOrders=true)(ht:aj P τ)(hL:ax P m L body)(hr:iH P τ L m sp ops2 body)(F:oA P sp ops0 ops1 ops2)
  (hu1:∀ d,(aF sp.inv d).fr[sp.t1]? = some .undef) (hu2:∀ d,(aF sp.inv d).fr[sp.t2]? = some .undef) (hut:∀ d,(aF sp.inv d).fr[sp.it]? = some (.lit (.pointer (some ⟨sp.aT d,0,none⟩))))
  {r1 b0 b1 r2:Nat}
  {s:ao} {d:List G} {rows:List (List G)} {clock:Nat} (O:s.eval (.tmp sp.y)=.map sp.id) (hid:s.H[sp.id]? = some (.map sp.K sp.V rows clock)) (hn:(rows.map bI).Nodup)
  (hlt:∀ r∈rows,bI r<clock) (hin:∀ b,gg m sp.inv sp.ps (fR sp.opens (sp.s2 s b))=some (true,sp.init d b)) (hadr:∀ b,sp.aT (sp.init d b)=b)
  (hfold:∀ b p,p.Perm rows→(bP sp.st sp.aT p (sp.init d b)).isSome=true) (E:Env) (a:Act) (hs:bl s.den E a) (ro:Option Nat) (hro:e9 ro body) {Q:Exit→Act→World→Prop}
  (hQ:∀ R U,(∃ b p d',p.Perm rows∧bP sp.st sp.aT p (sp.init d b)=some d'∧dj m E (aF sp.inv d').den R U)→Q .normal R U) :
  wpOpsIn (fz ro) 0 P ops0 (Exit.then ((Code.block b0 (.loop (.seq (.region r1 ops1 false) (.seq (.cond (.tmp sp.t2) .skip (.exit b0)) (.block b1 (.seq (.region r2 ops2 false) body)))))).wpIn (fz ro) 0 P Q) Q) [ops0.toList.dropLast.length] a E.w:=by
 obtain⟨o2,ty,e1,g2,p2,q2,J⟩:=F.r0;have h11:ops0[ops0.toList.dropLast.length]? = some o2:=by
  have:ops0.toList[ops0.toList.dropLast.length]? = some o2:=by
   rw[e1];simp
  simpa using this
 have hid':E.H[sp.id]? = some (.map (cC sp.K sp.V rows) clock):=by
  rw[hs.H];exact bx hid
 have hrx:rel E (.map sp.id) (a.eval (.tmp sp.y)):=by
  have:=hs.eval (.tmp sp.y)
  rwa [ao.ng,O]at this
 obtain⟨mb,n,ms,hc,hloc,M,hre⟩:=qZ hs.heap hid' hrx;obtain⟨⟨kt,et⟩,J⟩:=Option.isSome_iff_exists.1 J;have hmbs:mb<E.w.heap.size:=oB M;rw[wpOpsIn_cons];refine ij h11 g2 (Gi p2 hc (run_range_map E.w ty kt et mb ms clock (iT J) M)) (fun c e=>by rw[p2]at e; cases e) ro ?_;rw[q2];show (Code.block _ _).wpIn (fz ro) 0 P _ _ _
 generalize I:E.w.alloc (.mapIter (some mb) clock #[] clock)=g;have hsize:g.heap.size=E.w.heap.size+1:=by rw[←I]; show (E.w.heap.push _).size=_; simp
 have hold:∀ b,b<E.w.heap.size→g.heap[b]? = E.w.heap[b]? := fun b q=>by rw[←I]; exact(show (E.w.heap.push _)[b]? = _ by rw[Array.getElem?_push,if_neg (by omega)])
 have hitn:g.heap[E.w.heap.size]? = some (.mapIter (some mb) clock #[] clock):=by rw[←I]; exact(show (E.w.heap.push _)[E.w.heap.size]? = _ by simp)
 have hos:dx E.w g:=by rw[←I]; exact⟨rfl,rfl,rfl,by first|exact fun _=>aI _|exact fun _=>eB _ _⟩
 have W:=Env.tg hs.heap sp.id;have N:bl ⟨s.fr,ai (s.H.set sp.id (.raw .dead))⟩ { w:=E.w,H:=E.H.set sp.id .dead,loc:=E.loc.set sp.id none,X:=E.X } a:=by
  refine⟨?_,eP W _ hs.fr,hs.defers,au.drop hs.heap sp.id fun o F=>by rw[hid']at F; cases F; rfl⟩;rw[eE,show E.H=ai s.H from hs.H];rfl
 have b_:gd { w:=E.w,H:=E.H.set sp.id .dead,loc:=E.loc.set sp.id none,X:=E.X } { w:=g,H:=E.H.set sp.id .dead,loc:=E.loc.set sp.id none,X:=E.X.or fun b=>b=E.w.heap.size } :=
  ⟨rfl, rfl, by show E.w.heap.size ≤ g.heap.size; omega, fun b q O => ⟨fun h => h.elim O (fun e => absurd q (by rw [e]; exact vR _)), hold b q⟩, fun b q => by
   show b<g.heap.size
   rcases q with q|q
   ·have := hs.heap.X b q
    omega
   ·omega,rfl⟩
 have hs3:=(N.b_ b_ (tn (X':=E.X.or fun b=>b=E.w.heap.size) (w':=g) N.defers (fun _ h1 Y=>⟨.inl h1,Y⟩) fun b h1 _=>hold b (hs.heap.X b h1))).ic sp.it (v:=.lit (.pointer (some ⟨E.w.heap.size,0,none⟩))) (u:=.pointer (some ⟨E.w.heap.size,0,none⟩)) (by simp only[rel]);have hs3':bl (sp.s2 s E.w.heap.size).den { w:=g,H:=E.H.set sp.id .dead,loc:=E.loc.set sp.id none,X:=E.X.or fun b=>b=E.w.heap.size } _:=hs3;obtain⟨loc,X4,hs4,B⟩:=((lk sp.opens _).trans (jr (hin E.w.heap.size))) _ _ hs3';have hmbn:¬ Env.own { w:=g,H:=E.H.set sp.id .dead,loc:=E.loc.set sp.id none,X:=E.X.or fun b=>b=E.w.heap.size } mb:=by
  rintro(⟨j,c,A⟩|⟨l,k,c,A⟩)
  case inr=>exact hs.heap.dy _ _ _ _ _ _ hloc A
  simp only[fk]at A;split at A
  ·split at A
   ·cases A
   ·cases A
  ·rename_i hne
   exact hne (hs.heap.inj _ _ _ _ _ hloc A)
 have hmb2:g.heap[mb]? = some (.map ms clock):=by rw[hold mb hmbs]; exact M
 refine wpIn_block (wpIn_mono (Yj hm ht hL hr F hu1 hu2 hut (E:=E) (rows:=rows) (d0:=sp.init d E.w.heap.size) (itb:=E.w.heap.size) (mb:=mb) (clock:=clock) (ms:=ms)
  (aI _) hn hlt (by omega) (hfold _) ?_ ro hro) fun e R U hq=>?_)
 ·refine ⟨sp.init d E.w.heap.size, loc, X4, #[], clock, [], rfl, hadr _, ?_, hs4, ?_, (B.X E.w.heap.size (by show _ < g.heap.size; omega)).1.2 (.inr rfl), ?_, aI _, ?_, ?_, ?_⟩
  ·have : (rows.filter fun x => !(#[] : Array Nat).contains (bI x)) = rows := List.filter_eq_self.2 (fun x _ => by simp)
   rw[List.nil_append,this]
  ·refine W.toM.trans (Env.dv.trans (E' := { w := g, H := E.H.set sp.id .dead, loc := E.loc.set sp.id none, X := E.X.or fun b => b = E.w.heap.size }) ⟨fun _ _ h => h, ?_, ?_, fun b _ h => h, fun _ _ _ h => ⟨h, rfl⟩, fun b q => ⟨⟨fun h => h.elim id fun e => absurd q (by rw [e]; exact vR _), .inl⟩, Iff.rfl⟩, fun _ _ h => ⟨h, fun _ hq => hq⟩, hos⟩ B)
   ·show E.w.heap.size ≤ g.heap.size
    omega
   ·exact fun b q _=>hold b q
  ·rw [B.same E.w.heap.size (by show _ < g.heap.size; omega) ?_]
   ·exact hitn
   ·exact(N.heap.b_ b_).jF (.inr rfl)
  ·rw [B.same mb (by show _ < g.heap.size; omega) hmbn]
   exact hmb2
  ·exact B.own mb (by show _<g.heap.size; omega) hmbn
  ·exact mc (rU B) (mc b_.toC (mc W.toC hre))
 ·obtain ⟨rfl, p, d', h1, Y, h3⟩ := hq
  simp only[Exit.inBlock,if_true];exact hQ _ _ ⟨_,p,d',h1,Y,h3⟩
theorem Yl(hm:P.follows .mixedOrders=true)(ht:aj P τ)(hL:ax P m L body)(hr:iH P τ L m sp ops2 body)(A:oA P sp ops0 ops1 ops2)
  (N:∀ d,(aF sp.inv d).fr[sp.t1]? = some .undef) (O:∀ d,(aF sp.inv d).fr[sp.t2]? = some .undef) (R:∀ d,(aF sp.inv d).fr[sp.it]? = some (.lit (.pointer (some ⟨sp.aT d,0,none⟩))))
  {r0 r1 b0 b1 r2:Nat}
  {s s1:ao} {d:List G} {rows:List (List G)} {clock:Nat} (hp:eT P τ.pf ops0 ops0.toList.dropLast s.den s1.den) (hx:s1.eval (.tmp sp.y)=.map sp.id) (hid:s1.H[sp.id]? = some (.map sp.K sp.V rows clock)) (hn:(rows.map bI).Nodup)
  (g:∀ r∈rows,bI r<clock) (U:∀ b,gg m sp.inv sp.ps (fR sp.opens (sp.s2 s1 b))=some (true,sp.init d b)) (J:∀ b,sp.aT (sp.init d b)=b)
  (I:∀ b p,p.Perm rows→(bP sp.st sp.aT p (sp.init d b)).isSome=true) (E:Env) (a:Act) (hs:bl s.den E a) (ro:Option Nat) (W:e9 ro body) :
  (iG r0 b0 r1 b1 r2 ops0 ops1 ops2 sp.t2 body).wpIn (fz ro) 0 P (fun e k q=>e=.normal∧∃ b p d',p.Perm rows∧bP sp.st sp.aT p (sp.init d b)=some d'∧dj m E (aF sp.inv d').den k q) a E.w:=by
 refine wpIn_seq (wpIn_region ?_);obtain⟨o2,ty,B,_⟩:=A.r0;have Y:ops0.size=ops0.toList.dropLast.length+1:=by
  have h:=congrArg List.length B;simpa using h
 have hl:fK ops0.size=jk 0 ops0.toList.dropLast.length++[ops0.toList.dropLast.length]:=by
  rw[Y,List.range_succ,vQ]
 rw[hl];refine oy (pf:=τ.pf) ro ops0.toList.dropLast 0 s.den s1.den E a _ (fun j o F=>?_) hp hs fun k q hc=>?_
 ·have g := aM F
  have:ops0.toList[j]? = some o:=by
   rw[B,dI g];exact F
  simpa using this
 ·obtain ⟨M, r1, h1, h2⟩ := hc
  refine Yk hm ht hL hr A N O R hx hid hn g U J I { w:=q,H:=s1.den.H,loc:=M,X:=E.X.re r1 } k h1 ro W fun a2 w2 ⟨b,p,d',g1,g2,g3⟩=>?_;exact⟨rfl,b,p,d',g1,g2,dj.after h2.toM g3⟩
noncomputable def qh{β:Type}(rows:List (List G))(k:Nat→List (List G)→Option β):Option β :=
 open Classical in if h:∃ r,∀ b p,p.Perm rows→k b p=some r then some h.choose else none
theorem xo{β:Type}{rows:List (List G)}{k:Nat→List (List G)→Option β}{r:β}(h:qh rows k=some r):∀ b p,p.Perm rows→k b p=some r:=by
 unfold qh at h;split at h
 ·rename_i d
  cases h;exact d.choose_spec
 ·cases h
theorem xp{β:Type}{rows:List (List G)}{k:Nat→List (List G)→Option β}{r:β}(h:∀ b p,p.Perm rows→k b p=some r):qh rows k=some r:=by
 cases d:qh rows k with
 | some r' =>
  have h1:=xo d 0 rows (pn _);rw[h 0 rows (pn _)]at h1;exact h1.symm
 | none =>
  unfold qh at d;rw[dif_pos ⟨r,h⟩]at d;cases d
def eA(rows:List (List G))(clock:Nat):Bool:=nodupB (rows.map bI)&&rows.all fun r=>eZ (bI r) clock
theorem xq{rows:List (List G)}{clock:Nat}(h:eA rows clock=true):(rows.map bI).Nodup∧∀ r∈rows,bI r<clock:=by
 simp only[eA,ay,ep,iA]at h;exact⟨p9 h.1,h.2⟩
noncomputable def iI(sp:eu)(tl:List G→Option (Option Nat × List G))(rows:List (List G))(clock:Nat)(d:List G):Option (Option Nat × List G) :=
 bif eA rows clock then qh rows (fun b p=>bif sp.side d b then (bP sp.st sp.aT p (sp.init d b)).bind tl else none) else none
def oC(P:Program)(m:Nat)(c:Code)(sp:bq):Prop:=∀ d i d',sp.st d=some (some i,d')→∃ o,sp.outs[i]? = some o∧cn P m c (aF sp.inv d).den o.x (aF o.S d').den
theorem gh.sat{c:Code}{q:bq}(hm:P.follows .mixedOrders=true)(A:aj P τ)(B:ax P m L c)(hr:gh P τ L m c q):oC P m c q:=by
 intro d i d' g;rw[←hr d]at g;obtain⟨x,s1,g1,g2⟩:=dS hm A c (aF q.inv d) .done B (Q:=fun x s=>rQ m q.outs 0 x s=some (true,(some i,d'))) (iY g);obtain⟨j,o,F,k,I,J⟩:=Bc g2;simp only[aX,dJ]at k;subst k;refine⟨o,F,?_⟩;rw[←I];exact rm g1 (jr J)
theorem Ym{c:Code}{q:bq}(hr:oC P m c q){s:ao}{t:Tree}(h:xf m q s=some t):AT P m c s t:=by
 unfold xf at h;split at h
 case h_2=>cases h
 rename_i b d F;cases h;intro Q A;simp only[Tree.holds,xb,ay]at A;obtain⟨⟨rfl,h1⟩,B⟩:=A;cases g:q.st d with
 |none=>rw[g]at h1; cases h1
 | some r =>
  obtain⟨k,d'⟩:=r;cases k with
  |none=>rw[g]at h1; cases h1
  | some i =>
   obtain⟨o,g1,g2⟩:=hr d i d' g;rw[g]at B;exact⟨o.x,(aF o.S d'),tQ ((lk q.opens s).trans (jr F)) g2,Bd g1 (dJ i).symm B⟩
theorem ax.Gj{fn:Func}{q:bq} (hn:ln q.key (bG (aN fn))=true) (g:ax P m L (aN fn)) (hr:ax P m L (cutAt fn q.key)→oC P m (cutAt fn q.key) q) :
  ax P m (L.ff m q) (aN fn):=by
 refine⟨g.1,g.2.1,fun k A hk s t d=>?_⟩;simp only[LT.ff]at d;split at d
 ·rename_i e
  have e:=bD e;subst e;have B:=F6 hn hk;rw[←B]at hr;exact Ym (hr (g.sub (qc hk) (qd hk))) d
 ·exact g.2.2 k A hk s t d
def xr(o:Option Tmp)(t:Tmp):Bool :=
 match o with
 |some x=>ab x t
 |none=>false
theorem Bn{o:Option Tmp}{t:Tmp}(h:xr o t=true):o=some t:=by
 cases o with
 |none=>cases h
 |some x=>exact congrArg some (bD h)
def xu(P:Program)(sp:eu)(ops:Array Oper):Bool :=
 match ops.toList.getLast? with
 |some ⟨d2,.range ty (.tmp b),_,_,_,none⟩=>ab b sp.y&&xr d2 sp.it&&(fD P ty).isSome
 |_=>false
def xv(sp:eu)(ops:Array Oper):Bool :=
 match ops.toList with
 | [⟨d1,.next (.tmp a) false,_,_,_,none⟩,⟨d2,.extract (.tmp b) 0,_,_,_,none⟩]=>ab a sp.it&&xr d1 sp.t1&&ab b sp.t1&&xr d2 sp.t2
 |_=>false
def xw(sp:eu)(ops:Array Oper):Bool :=
 match ops.toList with
 |⟨d1,.entry (.tmp a),_,_,_,none⟩::_=>ab a sp.it&&xr d1 sp.t3
 |_=>false
theorem Gk(h0:xu P sp ops0=true)(h1:xv sp ops1=true)(d:xw sp ops2=true):oA P sp ops0 ops1 ops2:=by
 refine⟨?_,?_,?_⟩
 ·unfold xu at h0
  split at h0
  ·rename_i d2 ty b t' k q e
   simp only[ay]at h0;obtain⟨⟨g3,g4⟩,g5⟩:=h0;have g3:=bD g3;subst g3;refine⟨⟨d2,.range ty (.tmp sp.y),t',k,q,none⟩,ty,?_,rfl,rfl,Bn g4,g5⟩;have g:ops0.toList≠[]:=by
    intro h;rw[h]at e;cases e
   have d:=List.dropLast_concat_getLast g;have A:ops0.toList.getLast? = some (ops0.toList.getLast g):=by
    rw[List.getLast?_eq_some_iff];exact⟨_,d.symm⟩
   rw[A]at e;rw[nT e]at d;exact d.symm
  ·cases h0
 ·unfold xv at h1
  split at h1
  ·rename_i d1 a _ _ _ d2 b _ _ _ e
   simp only[ay]at h1;obtain⟨⟨⟨g1,g2⟩,g3⟩,g4⟩:=h1;have g1:=bD g1;have g3:=bD g3;subst g1;subst g3;exact⟨_,_,e,rfl,rfl,Bn g2,rfl,rfl,Bn g4⟩
  ·cases h1
 ·unfold xw at d
  split at d
  ·rename_i d1 a _ _ _ l e
   simp only[ay]at d;have g1:=bD d.1;subst g1;exact⟨_,l,e,rfl,rfl,Bn d.2⟩
  ·cases d
def ls:Code→Code
 |.seq _ b=>b
 |_=>.skip
def Gl:Code→Code
 |.seq (.seq _ (.block _ (.loop c))) _=>c
 |_=>.skip
def np(c:Code):Code:=match Gl c with
 |.seq _ (.seq _ (.block _ (.seq _ b)))=>b
 |_=>.skip
def Gm:Code→Array Oper
 |.region _ ops _=>ops
 |_=>#[]
def jP:Code→Array Oper
 |.seq (.seq r _) _=>Gm r
 |_=>#[]
def xy(c:Code):Array Oper:=match Gl c with
 |.seq r _=>Gm r
 |_=>#[]
def lu(c:Code):Array Oper:=match Gl c with
 |.seq _ (.seq _ (.block _ (.seq r _)))=>Gm r
 |_=>#[]
theorem NF{r0 r1 b0 b1 r2 t2:Nat}{rest:Code} (h:ax P m L (.seq (iG r0 b0 r1 b1 r2 ops0 ops1 ops2 t2 body) rest)):ax P m L body∧ax P m L rest:=by
 refine⟨h.sub (fun p d=>?_) (fun p d=>?_),h.sub (fun p d=>?_) (fun p d=>?_)⟩
 ·simp only [bH, iG, bV]
  left;right;split
  ·simp only [bC, bH, bV]
   exact .inr (.inr (.inr (.inr d)))
  ·simp only [bH, bV]
   exact .inr (.inr (.inr d))
 ·simp only [bG, iG, bV]
  exact .inl (.inr (.inr (.inr (.inr (.inr (.inr (.inr (.inr d))))))))
 ·simp only [bH, bV]
  exact .inr d
 ·simp only [bG, bV]
  exact .inr (.inr d)
def xz(P:Program)(τ:ah)(ops:Array Oper)(s:ao):ao:=match (eg P τ ops ops.toList.dropLast s fun s=>.done .normal s).fg with
 |some (_,s1)=>s1
 |none=>s
theorem xA(d:aj P τ){ops:Array Oper}{l:List Oper}{s s1:ao}(h:(eg P τ ops l s fun s=>.done .normal s).fg=some (.normal,s1)):eT P τ.pf ops l s.den s1.den:=by
 obtain⟨s',h1,g⟩:=pV d (qg h);obtain⟨_,rfl⟩:=g;exact h1
theorem Yn(hm:P.follows .mixedOrders=true)(R:aj P τ){rest:Code}{q qr:bq}(hL:ax P m L body)(hr:iH P τ L m sp ops2 body)(ho:oA P sp ops0 ops1 ops2)
  (hu1:∀ d,(aF sp.inv d).fr[sp.t1]? = some .undef) (hu2:∀ d,(aF sp.inv d).fr[sp.t2]? = some .undef) (hut:∀ d,(aF sp.inv d).fr[sp.it]? = some (.lit (.pointer (some ⟨sp.aT d,0,none⟩))))
  {r0 r1 b0 b1 r2:Nat}
  {rows:List G→List (List G)} {clock:List G→Nat} {pre:List G→ao} (hy:∀ d,(eg P τ ops0 ops0.toList.dropLast (aF q.inv d) fun s=>.done .normal s).fg=some (.normal,pre d)) (A:∀ d,(pre d).eval (.tmp sp.y)=.map sp.id) (hid:∀ d,(pre d).H[sp.id]? = some (.map sp.K sp.V (rows d) (clock d)))
  (hin:∀ d b,gg m sp.inv sp.ps (fR sp.opens (sp.s2 (pre d) b))=some (sp.side d b,sp.init d b)) (Y:∀ d b,sp.aT (sp.init d b)=b)
  (hinv:qr.inv=sp.inv) (W:qr.outs=q.outs) (F:oC P m rest qr) (hst:∀ d,q.st d=iI sp qr.st (rows d) (clock d) d) :
  oC P m (.seq (iG r0 b0 r1 b1 r2 ops0 ops1 ops2 sp.t2 body) rest) q:=by
 intro d i d' h;rw[hst]at h;unfold iI at h;cases aL:eA (rows d) (clock d)with
 |false=>rw[aL]at h; cases h
 | true =>
  rw[aL]at h;simp only[cond_true]at h;have hall:=xo h;obtain⟨hn,hlt⟩:=xq aL;have k:∀ b p,p.Perm (rows d)→sp.side d b=true∧∃ d1,bP sp.st sp.aT p (sp.init d b)=some d1∧qr.st d1=some (some i,d'):=by
   intro b p g;have:=hall b p g;cases J:sp.side d b with
   |false=>rw[J]at this; cases this
   | true =>
    rw[J]at this;simp only[cond_true]at this;cases B:bP sp.st sp.aT p (sp.init d b)with
    |none=>rw[B]at this; cases this
    | some d1 =>
     rw[B]at this;exact⟨rfl,d1,rfl,this⟩
  obtain⟨_,d1,_,g1⟩:=k 0 (rows d) (pn _);obtain⟨o,M,_⟩:=F d1 i d' g1;refine⟨o,by rw[←W]; exact M,fun ro N E a hs=>wpIn_seq (wpIn_mono (Yl hm R hL hr ho hu1 hu2 hut (xA R (hy d)) (A d) (hid d) hn hlt (fun b=>by rw[hin d b,(k b (rows d) (pn _)).1]) (Y d) (fun b p g=>?_) E a hs ro (Gg N.seq1)) fun e a1 w1 hq=>?_)⟩
  ·obtain ⟨_, d2, h2, _⟩ := k b p g
   rw[h2];rfl
  ·obtain ⟨rfl, b, p, d2, g, B, loc, X, hs2, hle⟩ := hq
   obtain⟨_,d3,U,h4⟩:=k b p g;rw[B]at U;cases U;obtain⟨o',O,I⟩:=F d2 i d' h4;rw[M]at O;cases O;rw[hinv]at I;exact wpIn_mono (I ro N.wx { w:=w1,H:=(aF sp.inv d2).den.H,loc:=loc,X:=X } a1 hs2) fun x a2 w2 A=>⟨A.1,dj.after hle A.2⟩
theorem ax.Yo(hm:P.follows .mixedOrders=true)(A:aj P τ){fn:Func}{q qr:bq}{r0 b0 r1 b1 r2:Nat}{rows:List G→List (List G)}{clock:List G→Nat}
  (hn:ln q.key (bG (aN fn))=true) (Y:ax P m L (aN fn))
  (hc:cutAt fn q.key=.seq (iG r0 b0 r1 b1 r2 (jP (cutAt fn q.key)) (xy (cutAt fn q.key)) (lu (cutAt fn q.key)) sp.t2 (np (cutAt fn q.key))) (ls (cutAt fn q.key)))
  (g:(xu P sp (jP (cutAt fn q.key))&&xv sp (xy (cutAt fn q.key))&&xw sp (lu (cutAt fn q.key)))=true)
  (hr:iH P τ L m sp (lu (cutAt fn q.key)) (np (cutAt fn q.key)))
  (J:∀ d,(aF sp.inv d).fr[sp.t1]? = some .undef) (M:∀ d,(aF sp.inv d).fr[sp.t2]? = some .undef) (N:∀ d,(aF sp.inv d).fr[sp.it]? = some (.lit (.pointer (some ⟨sp.aT d,0,none⟩))))
  {pre:List G→ao} (hy:∀ d,(eg P τ (jP (cutAt fn q.key)) (jP (cutAt fn q.key)).toList.dropLast (aF q.inv d) fun s=>.done .normal s).fg=some (.normal,pre d)) (hx:∀ d,(pre d).eval (.tmp sp.y)=.map sp.id) (hid:∀ d,(pre d).H[sp.id]? = some (.map sp.K sp.V (rows d) (clock d)))
  (O:∀ d b,gg m sp.inv sp.ps (fR sp.opens (sp.s2 (pre d) b))=some (sp.side d b,sp.init d b)) (I:∀ d b,sp.aT (sp.init d b)=b)
  (hinv:qr.inv=sp.inv) (B:qr.outs=q.outs) (F:gh P τ L m (ls (cutAt fn q.key)) qr) (R:∀ d,q.st d=iI sp qr.st (rows d) (clock d) d) :
  ax P m (L.ff m q) (aN fn):=by
 refine ax.Gj hn Y fun k=>?_;rw[hc]at k;obtain⟨U,W⟩:=NF k;simp only[ay]at g;rw[hc];exact Yn hm A U hr (Gk g.1.1 g.1.2 g.2) J M N hy hx hid O I hinv B (F.sat hm A W) R
end range
end Go.AL
