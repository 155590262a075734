/-
 What is proved here: shapes: states and arguments as data alone (integers,strings,rows),read off abstract states and built from data; what is built says no more than what was read. No program in sight; no condition.
-/
import Derived.Test.YtiljbnkkhbennaaGreatDoorMC
import Derived.Maps.RangeRun
set_option linter.all false
open Bool renaming and_true→eS,and_eq_true→az,false_eq_true→lG,not_eq_true'→qL,and_self→mL,eq_false_iff→VU,or_false→vu
open Go.Act renaming put→yW
open Go.Exit renaming inBlock→Dd
open Go.MapKept renaming heap_set→Kx
open Go.Value.slice renaming injEq→kQ
open Int renaming toNat_natCast→ba
open List renaming length_cons→cn,append_nil→dh,append_assoc→gT,getElem?_append_left→cT,length_map→cD,mem_map→cF,getElem?_map→bU,getElem?_eq_getElem→bf,mem_of_getElem?→eZ,getElem?_append_right→iM,getElem?_set_self→bC,getElem?_set_ne→aZ,getElem?_set→eC,all_eq_true→dB,getD_eq_getElem?_getD→bz,getElem?_take→o_,mem_cons→bN,map_cons→dj,cons_append→lH,length_append→eD,mem_append→cQ,getElem?_of_mem→pe,all_cons→lJ,mem_cons_self→cU,mem_cons_of_mem→dw,nodup_cons→lL,getElem?_inj→Db,range'→pk,range'_succ→yX,range→dI,mem_append_left→qN,any_eq_true→iQ,range_eq_range'→Dc,set_append_left→Ks,headD_cons→y4,getElem?_cons_succ→VT,getD_cons_succ→al2,find?_cons_of_neg→al3,getElem_mem→mN,mem_filter→nZ,mem_append_right→vt
open List.Perm renaming refl→pq
open Nat renaming le_refl→aD,le_add_right→fq,zero_le→fg,lt_or_ge→kg,zero_add→di,beq→ab,eq_of_beq_eq_true→bk,sub_self→nU,ble→eE,blt→eh,blt_eq→iR,le_of_ble_eq_true→nW,lt_irrefl→sD
open Option renaming map_eq_some_iff→ef,map_some→eg,getD_some→ga,bind_some→y7
open Option.some renaming injEq→aY,inj→gY
open Prod.mk renaming injEq→a8
namespace Go.AL
open Go
variable [Dr]
inductive fl where
 |int (k:IntKind)|str|bool
 |list (ks:List Kd)|row (ks:List Kd)|cptr (ks:List Kd)
 |nil|any
 |Na (isNil:Bool)
 |fn (f:FuncId)
 |ptr (j col:Nat)
 |vec (j w:Nat)
 |sub (j w:Nat)
 |pre (j w:Nat)
 |wM (ks:List Kd)
 |map (j:Nat)
 |addr
 |Nb (f:FuncId) (js:List Nat)
 |Fq
 deriving Inhabited
inductive Sh where
 |s (a:fl)
 |clo (f:FuncId) (caps:List fl)
 deriving Inhabited
inductive cr where
 |vec (ks:List Kd) (u:Nat)
 |box (cells:List fl)
 |map (K V:Ct)
 |fh (l T B:Nat)
 |aX (l:Nat) (K:Ct) (ks:List Kd)
 |mm (l:Nat) (K KI VI:Ct)
 deriving Inhabited
def cr.jZ:cr→Option Nat
 |.fh l _ _=>some l
 |.aX l _ _=>some l
 |.mm l _ _ _=>some l
 |_=>none
def cr.dy:cr→Option Nat
 |.mm l _ _ _=>some l
 |_=>none
def fl.sz:fl→Nat
 |.int _ | .str | .bool | .list _ | .row _ | .cptr _ | .wM _ | .pre _ _ | .addr=>1
 |.sub _ _=>2
 |_=>0
def pY:List fl→Nat
 | []=>0
 |a::as=>a.sz+pY as
def Sh.sz:Sh→Nat
 |.s a=>a.sz
 |.clo _ caps=>pY caps
def Fs:List Sh→Nat
 | []=>0
 |a::as=>a.sz+Fs as
def cr.sz:cr→Nat
 |.vec _ _=>1
 |.box cells=>pY cells
 |.map _ _=>2
 |.fh _ _ _=>1
 |.aX _ _ _=>2
 |.mm _ _ _ _=>3
def eO:Nat→List G→List G
 |0,d=>d
 |n+1,d=>eO n d.tail
abbrev dm:=List (Nat × Nat)
def dm.len(os:dm)(j:Nat):Nat:=(os.getD j (0,0)).1
def dm.ae(os:dm)(j:Nat):Nat:=(os.getD j (0,0)).2
def rI:List Nat→List AV
 | []=>[]
 |j::js=>.ptr j 0 0 0 0::rI js
def fb(lens:dm):fl→List G→AV
 |.int k,d=>.lit (.int k (d.headD default).int)
 |.str,d=>.lit (.string (d.headD default).str)
 |.bool,d=>.lit (.bool (d.headD default).bool)
 |.list ks,d=>.listF ks (d.headD default).rows
 |.wM ks,d=>.listF ks (d.headD default).rows
 |.row ks,d=>.agg (aH ks (d.headD default).row)
 |.cptr ks,d=>.cptr (aH ks (d.headD default).row)
 |.nil,_=>.lit (.slice none 0 0)
 |.any,_=>.undef
 |.Na b,_=>.emptyS b
 |.fn f,_=>.clo f []
 |.ptr j col,_=>.ptr j 0 0 0 col
 |.vec j w,_=>.vec w j (lens.ae j) 0 (lens.len j)
 |.sub j w,d=>.vec w j (lens.ae j) (d.headD default).int.toNat (d.tail.headD default).int.toNat
 |.pre j w,d=>.vec w j (lens.ae j) 0 (d.headD default).int.toNat
 |.map j,_=>.map j
 |.addr,d=>.lit (.pointer (some ⟨(d.headD default).int.toNat,0,none⟩))
 |.Nb f js,_=>.clo f (rI js)
 |.Fq,_=>.lit .nilIface
def jD(lens:dm):List fl→List G→List AV
 | [],_=>[]
 |a::as,d=>fb lens a d::jD lens as (eO a.sz d)
def pZ(lens:dm):Sh→List G→AV
 |.s a,d=>fb lens a d
 |.clo f caps,d=>.clo f (jD lens caps d)
def fB(lens:dm):List Sh→List G→List AV
 | [],_=>[]
 |a::as,d=>pZ lens a d::fB lens as (eO a.sz d)
def fC(lens:dm):cr→List G→ah
 |.vec ks u,d=>.vec ks u (d.headD default).rows
 |.box k,d=>.raw (.box (jD lens k d))
 |.map K V,d=>.map K V (d.headD default).rows (d.tail.headD default).int.toNat
 |.fh l T B,d=>.raw (.fh l T B (d.headD default).str)
 |.aX l K ks,d=>.aX l K ks (d.headD default).rows (d.tail.headD default).int.toNat
 |.mm l K KI VI,d=>.mm l K KI VI (d.headD default).rows (d.tail.headD default).rows (d.tail.tail.headD default).int.toNat
theorem tO(lens:dm)(sh:cr)(d:List G):(fC lens sh d).den.label=sh.jZ:=by cases sh<;>rfl
theorem Ft(lens:dm)(sh:cr)(d:List G):(fC lens sh d).den.dy=sh.dy:=by cases sh<;>rfl
def cN(lens:dm):List cr→List G→List ah
 | [],_=>[]
 |o::os,d=>fC lens o d::cN lens os (eO o.sz d)
def nf:List cr→Nat
 | []=>0
 |o::os=>o.sz+nf os
def cC:List cr→List G→dm
 | [],_=>[]
 | o::os,d=>(match o with
  |.vec _ u=>((d.headD default).rows.length,u)
  |_=>(0,0))::cC os (eO o.sz d)
def lj(H:List ah)(e:bP):List Nat→List AV→Bool
 | [],[]=>true
 | j::js,.ptr id ae k row c::vs=>(match H[id]? with
  |some (.raw _)=>ab id (e.at j)&&ab ae 0&&ab k 0&&ab row 0&&ab c 0
  |_=>false)&&lj H e js vs
 |_,_=>false
def gj(H:List ah)(e:bP)(fz:Nat→Bool):fl→AV→Option (Bool × List G)
 |.int k,.lit (.int k' n)=>if k=k' then some (true,[.i n]) else none
 |.str,.lit (.string s)=>some (true,[.s s])
 |.bool,.lit (.bool b)=>some (true,[.t b])
 | .list ks,a=>match oE ks a with
  |some rows=>some (true,[.l rows])
  | none=>match a with
   | .vec w id ae off n=>match H[id]? with
    |some (.vec d v rows)=>if ae=v∧off=0∧w=ks.length∧Kd.ig ks d=true∧fz id=true then some (ab n rows.length,[.l rows]) else none
    |_=>none
   |_=>none
 | .row ks,a=>match Fk ks a with
  |some r=>some (true,[.l [r]])
  |none=>none
 | .cptr ks,.cptr cells=>match gx ks cells with
  |some r=>some (true,[.l [r]])
  |none=>none
 | .cptr ks,.ptr id ae _ row col=>match H[id]? with
  | some (.raw (.box cells))=>match gx ks cells with
   |some r=>if ae=0∧row=0∧col=0∧fz id=true then some (true,[.l [r]]) else none
   |none=>none
  |some (.vec d v [r])=>if ae=v∧row=0∧col=0∧Kd.ig ks d=true∧fz id=true then some (true,[.l [r]]) else none
  |_=>none
 |.nil,.lit (.slice none 0 0)=>some (true,[])
 |.any,_=>some (true,[])
 |.fn f,.clo g []=>if f=g then some (true,[]) else none
 | .ptr j col,.ptr id ae k row c=>match H[id]? with
  |some (.raw _)=>if id=e.at j∧ae=0∧k=0∧row=0∧c=col then some (true,[]) else none
  |_=>none
 | .vec j w,.vec w' id ae off n=>match H[id]? with
  |some (.vec _ v rows)=>if w'=w∧id=e.at j∧ae=v∧off=0 then some (ab n rows.length,[]) else none
  |_=>none
 | .sub j w,.vec w' id ae off n=>match H[id]? with
  |some (.vec _ v _)=>if w'=w∧id=e.at j∧ae=v then some (true,[.i off,.i n]) else none
  |_=>none
 | .pre j w,.vec w' id ae off n=>match H[id]? with
  |some (.vec _ v _)=>if w'=w∧id=e.at j∧ae=v∧off=0 then some (true,[.i n]) else none
  |_=>none
 | .wM ks,a=>match oE ks a with
  |some rows=>some (true,[.l rows])
  | none=>match a with
   | .vec w id ae off n=>match H[id]? with
    |some (.vec d v rows)=>if ae=v∧off=0∧w=ks.length∧Kd.ig ks d=true∧fz id=true then some (eE n rows.length,[.l (rows.take n)]) else none
    |_=>none
   |_=>none
 | .map j,.map id=>match H[id]? with
  |some (.map _ _ _ _)=>if id=e.at j then some (true,[]) else none
  |some (.aX _ _ _ _ _)=>if id=e.at j then some (true,[]) else none
  |some (.mm _ _ _ _ _ _ _)=>if id=e.at j then some (true,[]) else none
  |_=>none
 |.addr,.lit (.pointer (some ⟨b,0,none⟩))=>some (true,[.i (b:Nat)])
 |.Nb f js,.clo g vs=>if f=g∧lj H e js vs=true then some (true,[]) else none
 |.Fq,.lit .nilIface=>some (true,[])
 |_,_=>none
def fU(H:List ah)(e:bP)(fz:Nat→Bool):List fl→List AV→Option (Bool × List G)
 | [],[]=>some (true,[])
 | sh::d,a::as=>match gj H e fz sh a,fU H e fz d as with
  |some (b,g),some (k,q)=>some (b&&k,g++q)
  |_,_=>none
 |_,_=>none
def lk(H:List ah)(e:bP)(fz:Nat→Bool):Sh→AV→Option (Bool × List G)
 |.s a,v=>gj H e fz a v
 |.clo f caps,.clo g vs=>if f=g then fU H e fz caps vs else none
 |_,_=>none
def eX(H:List ah)(e:bP)(fz:Nat→Bool):List Sh→List AV→Option (Bool × List G)
 | [],[]=>some (true,[])
 | sh::d,a::as=>match lk H e fz sh a,eX H e fz d as with
  |some (b,g),some (k,q)=>some (b&&k,g++q)
  |_,_=>none
 |_,_=>none
def im(H:List ah)(e:bP)(fz:Nat→Bool):cr→ah→Option (Bool × List G)
 |.vec ks _,.vec k _ rows=>if Kd.ig ks k then some (true,[.l rows]) else none
 |.box q,.raw (.box cells)=>fU H e fz q cells
 |.map K V,.map d M rows clock=>if K.same d&&V.same M then some (true,[.l rows,.i clock]) else none
 |.fh l T B,.raw (.fh l' N O s)=>if (ab l l'&&(ab T N&&ab B O))=true then some (true,[.s s]) else none
 |.aX l K ks,.aX l' d k rows clock=>if (ab l l'&&(K.same d&&Kd.ig ks k))=true then some (true,[.l rows,.i clock]) else none
 |.mm l K KI VI,.mm l' d I J rows mem clock=>if (ab l l'&&(K.same d&&(KI.same I&&VI.same J)))=true then some (true,[.l rows,.l mem,.i clock]) else none
 |_,_=>none
theorem Nc{H:List ah}{e:bP}{fz:Nat→Bool}{sh:cr}{o:ah}{b:Bool}{g:List G}(h:im H e fz sh o=some (b,g)):o.den.label=sh.jZ:=by
 unfold im at h;split at h
 ·rfl
 ·rfl
 ·rfl
 ·split at h
  ·rename_i d
   simp only[az]at d;have:=bk d.1;subst this;rfl
  ·cases h
 ·split at h
  ·rename_i d
   simp only[az]at d;have:=bk d.1;subst this;rfl
  ·cases h
 ·split at h
  ·rename_i d
   simp only[az]at d;have:=bk d.1;subst this;rfl
  ·cases h
 ·cases h
theorem Fu{H:List ah}{e:bP}{fz:Nat→Bool}{sh:cr}{o:ah}{b:Bool}{g:List G}(h:im H e fz sh o=some (b,g)):o.den.dy=sh.dy:=by
 unfold im at h;split at h
 ·rfl
 ·rfl
 ·rfl
 ·rfl
 ·rfl
 ·split at h
  ·rename_i d
   simp only[az]at d;have:=bk d.1;subst this;rfl
  ·cases h
 ·cases h
def j0(H:List ah)(e:bP)(fz:Nat→Bool):List cr→List Nat→Option (Bool × List G)
 | [],[]=>some (true,[])
 | o::os,i::is=>match H[i]? with
  | some t=>match im H e fz o t,j0 H e fz os is with
   |some (b,g),some (d,k)=>some (b&&d,g++k)
   |_,_=>none
  |none=>none
 |_,_=>none
theorem p9:∀(g rest:List G),eO g.length (g++rest)=rest
 | [],_=>rfl
 |_::g,rest=>p9 g rest
def tP:ah→Nat
 |.vec _ v _=>v
 |_=>0
def tQ(H:List ah)(id:Nat):Nat:=match H[id]? with
 |some o=>tP o
 |none=>0
def bL(H:List ah)(ids:List Nat):bP:=⟨ids,ids.map (tQ H),H.length⟩
structure AK (E0:Env) (lens:dm) (j:Nat) (o:ah):Prop where
 ae:o.den.aG = some (tP o)
 obj:∃ o0,E0.H[j]? = some o0∧o0.aG = some (lens.ae j)
 mm:∀ o0,E0.H[j]? = some o0→o0.dy=o.den.dy
 len:∀ ks v rows,o=.vec ks v rows→lens.len j=rows.length
 flat:(∀ ks v rows,o≠.vec ks v rows)→lens.ae j=0
structure jb (H:List ah) (e:bP) (fz:Nat→Bool) (lens:dm) (E E0:Env):Prop where
 hH:E.H=aj H
 HE:aq E
 free:∀ i,fz i=true→∀ b n,E.loc[i]? = some (some (b,n))→E0.ju b
 dp:KeepIn e E E0
 obj:∀ j o,H[e.at j]? = some o→j<e.ids.length∧AK E0 lens j o
section dp
variable {H:List ah} {e:bP} {fz:Nat→Bool} {lens:dm} {E E0:Env}
theorem AK.past{j:Nat}{o:ah}(h:AK E0 lens j o):E0.past j (lens.ae j):=by
 obtain⟨o0,h1,d⟩:=h.obj;exact⟨o0,h1,ad.Dp d,fun v k=>by rw[d]at k; cases k; exact aD _⟩
theorem Zk(K:jb H e fz lens E E0){id v n:Nat}{ks:List Kd}{rows:List (List G)}{c:Value}(hid:H[id]? = some (.vec ks v rows))(J:fz id=true)(hn:n=rows.length)
  (hr:rel E (.vec ks.length id v 0 n) c):rel E0 (.listF ks rows) c:=by
 subst hn;have k:E.H[id]? = some (.vec ks.length v (rows.map (aH ks))):=by rw[K.hH]; exact bg hid
 have ho:=K.HE.obj id _ k;rw[jx];simp only[rel]at hr⊢;obtain⟨⟨base,cap,rfl,I,_⟩,_,d⟩:=hr;obtain⟨O,M⟩:=d ⟨_,k,rfl⟩;have q:ft (rows.map (aH ks)):=by
  intro r hr;obtain⟨g,_,rfl⟩:=cF.1 hr;exact gb ks g
 refine⟨q,base,cap,by simp,by simpa using I,?_⟩;simp only[aN]at ho;rcases ho with⟨h1,B⟩|⟨b,m,h1,B,d,_,N⟩
 ·exact .inl B
 ·obtain ⟨g1, o, g2, g3⟩ := M b m h1
  by_cases hm:rows=[]
  ·subst hm; exact .inl rfl
  ·right
   have:0<rows.length:=by cases rows with|nil=>exact(hm rfl).elim|cons _ _=>simp
   simp at d;have ho:=g2 (by omega);simp at ho;subst ho;simp only[kQ]at g3;exact⟨b,0,g3.1,K.free id J b m h1,lQ K.dp.bH _ q (by rw[K.dp.w]) N⟩
theorem Zl(K:jb H e fz lens E E0){id v n:Nat}{ks:List Kd}{rows:List (List G)}{c:Value}(hid:H[id]? = some (.vec ks v rows))(N:fz id=true)(hn:n≤rows.length)
  (hr:rel E (.vec ks.length id v 0 n) c):rel E0 (.listF ks (rows.take n)) c:=by
 have k:E.H[id]? = some (.vec ks.length v (rows.map (aH ks))):=by rw[K.hH]; exact bg hid
 have ho:=K.HE.obj id _ k;rw[jx];simp only[rel]at hr⊢;obtain⟨⟨base,cap,rfl,M,_⟩,_,d⟩:=hr;obtain⟨U,O⟩:=d ⟨_,k,rfl⟩;have B:ft ((rows.take n).map (aH ks)):=by
  intro r hr;obtain⟨g,_,rfl⟩:=cF.1 hr;exact gb ks g
 have q:min n rows.length=n:=Nat.min_eq_left hn;refine⟨B,base,cap,by simp[q],by simpa[q]using M,?_⟩;simp only[aN]at ho;rcases ho with⟨h1,I⟩|⟨b,m,h1,I,d,_,J⟩
 ·left
  have:rows=[]:=by simpa using I
  rw[this];simp
 ·obtain ⟨g1, o, g2, g3⟩ := O b m h1
  by_cases hm:n=0
  ·left; rw[hm]; simp
  ·right
   simp at d;have ho:=g2 (by omega);simp at ho;subst ho;simp only[kQ]at g3;refine⟨b,0,g3.1,K.free id N b m h1,lQ K.dp.bH _ B (by rw[K.dp.w]) ?_⟩;rw[mO]at J⊢;intro i r hi;simp only[bU,o_]at hi;split at hi
   ·exact J i r (by simpa using hi)
   ·simp at hi
theorem Zm(K:jb H e fz lens E E0){id k:Nat}{cells:List AV}{c:Value} (hid:H[id]? = some (.raw (.box cells))) (q:AV.br cells=true) (B:fz id=true)
  (hr:rel E (.ptr id 0 k 0 0) c):rel E0 (.cptr cells) c:=by
 have d:E.H[id]? = some (.box cells):=by rw[K.hH]; exact bg hid
 have ho:=K.HE.obj id _ d;simp only[aN]at ho;obtain⟨b,n,h1,M,I⟩:=ho;simp only[rel]at hr⊢;obtain⟨_,_,J⟩:=hr;obtain⟨N,O,g1,g2⟩:=J ⟨_,d,rfl⟩;rw[h1]at g1;simp only[aY,a8]at g1;obtain⟨rfl,rfl⟩:=g1;exact⟨q,b,0,by rw[g2]; simp,K.free id B b n h1,sI K.dp.bH cells q (by rw[K.dp.w]) I⟩
theorem Zn(K:jb H e fz lens E E0){id k v:Nat}{ks:List Kd}{r:List G}{c:Value}(hid:H[id]? = some (.vec ks v [r]))(I:fz id=true)
  (hr:rel E (.ptr id v k 0 0) c):rel E0 (.cptr (aH ks r)) c:=by
 have d:E.H[id]? = some (.vec ks.length v [aH ks r]):=by rw[K.hH]; exact bg hid
 have ho:=K.HE.obj id _ d;simp only[aN]at ho;simp only[rel]at hr⊢;obtain⟨_,_,J⟩:=hr;obtain⟨M,N,g1,g2⟩:=J ⟨_,d,rfl⟩;rcases ho with⟨_,q⟩|⟨b,m,h1,q,O,U,B⟩
 ·cases q
 ·rw [h1] at g1
  simp only[aY,a8]at g1;obtain⟨rfl,rfl⟩:=g1;simp only[cL]at B;exact⟨gb ks r,b,0,by rw[g2]; simp,K.free id I b m h1,sI K.dp.bH _ (gb ks r) (by rw[K.dp.w]) B.2.1⟩
theorem Nd(K:jb H e fz lens E E0):∀{js:List Nat} {vs:List AV},lj H e js vs=true→∀ cs,af E vs cs→af E0 (rI js) cs
 | [],[],_,cs,hr=>by
  cases cs with
  |nil=>simp[rI,af]
  |cons _ _=>simp[af]at hr
 | j::js,v::vs,h,cs,hr=>by
  cases v<;>simp only[lj,lG]at h<;>try cases h
  rename_i id ae k row c;simp only[az]at h;obtain⟨h1,I⟩:=h;split at h1
  ·rename_i r hid
   simp only[az]at h1;obtain⟨⟨⟨⟨d,a2⟩,a3⟩,a4⟩,a5⟩:=h1;have d:=bk d;have a2:=bk a2;have a3:=bk a3;have a4:=bk a4;have a5:=bk a5;subst d a2 a3 a4 a5;cases cs with
   |nil=>simp[af]at hr
   | cons c cs =>
    simp only[af]at hr;simp only[rI,af];refine⟨?_,Nd K I cs hr.2⟩;obtain⟨J,q⟩:=K.obj _ _ hid;have M:=q.flat (fun _ _ _ h=>by cases h);have B:=hr.1;simp only[rel]at B⊢;obtain⟨h1,I,N⟩:=B;refine⟨h1,by have:=q.past; rwa [M]at this,fun _=>?_⟩;rw[K.dp.loc _ J];exact N ⟨_,by rw[K.hH]; exact bg hid,q.ae⟩
  ·cases h1
 | [],_::_,h,_,_=>by simp[lj]at h
 |_::_,[],h,_,_=>by simp[lj]at h
theorem Nf(K:jb H e fz lens E E0){sh:fl}{a:AV}{g:List G}(h:gj H e fz sh a=some (true,g))(rest:List G) :
  g.length=sh.sz∧∀ c,rel E a c→rel E0 (fb lens sh (g++rest)) c:=by
 unfold gj at h;split at h
 ·split at h
  ·rename_i hk
   subst hk;cases h;exact⟨rfl,fun c hr=>by simp only[rel]at hr; subst hr; simp[fb,rel,G.int]⟩
  ·cases h
 ·cases h; exact⟨rfl,fun c hr=>by simp only[rel]at hr; subst hr; simp[fb,rel,G.str]⟩
 ·cases h; exact⟨rfl,fun c hr=>by simp only[rel]at hr; subst hr; simp[fb,rel,G.bool]⟩
 ·split at h
  ·rename_i rows hr
   cases h;exact⟨rfl,fun c d=>dZ K.dp.bH (.listF _ rows) rfl (M0 hr d)⟩
  ·split at h
   ·split at h
    ·rename_i hid
     split at h
     ·rename_i d
      obtain⟨rfl,rfl,rfl,I,J⟩:=d;simp only[aY,a8]at h;obtain⟨h1,rfl⟩:=h;have I:=Kd.jA I;subst I;exact⟨rfl,fun c hr=>Zk K hid J (bk h1) hr⟩
     ·cases h
    ·cases h
   ·cases h
 ·split at h
  ·rename_i ks a r hr
   cases h;have O:=M1 hr;subst O;exact⟨rfl,fun c d=>dZ K.dp.bH (.agg (aH ks r)) (by simp only[AV.closed,gb]) d⟩
  ·cases h
 ·split at h
  ·rename_i r hr
   cases h;have O:=k9 hr;subst O;exact⟨rfl,fun c d=>dZ K.dp.bH (.cptr _) rfl d⟩
  ·cases h
 ·split at h
  ·rename_i hid
   split at h
   ·rename_i r hr
    split at h
    ·rename_i d
     obtain⟨rfl,rfl,rfl,J⟩:=d;cases h;have O:=k9 hr;subst O;exact⟨rfl,fun c hr=>Zm K hid (gb _ _) J hr⟩
    ·cases h
   ·cases h
  ·rename_i V v r hid
   split at h
   ·rename_i d
    obtain⟨rfl,rfl,rfl,I,J⟩:=d;cases h;have I:=Kd.jA I;subst I;exact⟨rfl,fun c hr=>Zn K hid J hr⟩
   ·cases h
  ·cases h
 ·cases h; exact⟨rfl,fun c hr=>by simpa only[fb,rel]using hr⟩
 ·cases h; exact⟨rfl,fun c hr=>by simp[fb,rel]⟩
 ·split at h
  ·rename_i hk
   subst hk;cases h;exact⟨rfl,fun c hr=>dZ K.dp.bH (.clo _ []) rfl hr⟩
  ·cases h
 ·split at h
  ·rename_i r hid
   split at h
   ·rename_i d
    obtain⟨rfl,rfl,rfl,rfl,rfl⟩:=d;cases h;obtain⟨q,k⟩:=K.obj _ _ hid;have M:=k.flat (fun _ _ _ h=>by cases h);refine⟨rfl,fun c hr=>?_⟩;simp only[rel]at hr;simp only[fb,rel];obtain⟨h1,N,B⟩:=hr;refine⟨h1,by have:=k.past; rwa [M]at this,fun _=>?_⟩;rw[K.dp.loc _ q];exact B ⟨_,by rw[K.hH]; exact bg hid,k.ae⟩
   ·cases h
  ·cases h
 ·split at h
  ·rename_i ks v rows hid
   split at h
   ·rename_i d
    obtain⟨rfl,rfl,rfl,rfl⟩:=d;simp only[aY,a8]at h;obtain⟨h1,rfl⟩:=h;have h1:=bk h1;subst h1;obtain⟨q,k⟩:=K.obj _ _ hid;refine⟨rfl,fun c hr=>?_⟩;simp only[rel]at hr;simp only[fb,rel];rw[k.len _ _ _ rfl];obtain⟨h1,N,B⟩:=hr;refine⟨h1,k.past,fun _=>?_⟩;rw[K.dp.loc _ q];exact B ⟨_,by rw[K.hH]; exact bg hid,k.ae⟩
   ·cases h
  ·cases h
 ·split at h
  ·rename_i ks v rows hid
   split at h
   ·rename_i d
    obtain⟨rfl,rfl,rfl⟩:=d;cases h;obtain⟨q,k⟩:=K.obj _ _ hid;refine⟨rfl,fun c hr=>?_⟩;simp only[rel]at hr;simp only[fb,rel,lH,y4,List.tail_cons,G.int,ba];obtain⟨h1,N,B⟩:=hr;refine⟨h1,k.past,fun _=>?_⟩;rw[K.dp.loc _ q];exact B ⟨_,by rw[K.hH]; exact bg hid,k.ae⟩
   ·cases h
  ·cases h
 ·split at h
  ·rename_i ks v rows hid
   split at h
   ·rename_i d
    obtain⟨rfl,rfl,rfl,rfl⟩:=d;cases h;obtain⟨q,k⟩:=K.obj _ _ hid;refine⟨rfl,fun c hr=>?_⟩;simp only[rel]at hr;simp only[fb,rel,lH,y4,G.int,ba];obtain⟨h1,N,B⟩:=hr;refine⟨h1,k.past,fun _=>?_⟩;rw[K.dp.loc _ q];exact B ⟨_,by rw[K.hH]; exact bg hid,k.ae⟩
   ·cases h
  ·cases h
 ·split at h
  ·rename_i rows hr
   cases h;exact⟨rfl,fun c d=>dZ K.dp.bH (.listF _ rows) rfl (M0 hr d)⟩
  ·split at h
   ·split at h
    ·rename_i hid
     split at h
     ·rename_i d
      obtain⟨rfl,rfl,rfl,I,J⟩:=d;simp only[aY,a8]at h;obtain⟨h1,rfl⟩:=h;have I:=Kd.jA I;subst I;exact⟨rfl,fun c hr=>Zl K hid J (nW h1) hr⟩
     ·cases h
    ·cases h
   ·cases h
 ·split at h
  ·rename_i U V1 rows cl hid
   split at h
   ·rename_i d
    subst d;cases h;obtain⟨q,k⟩:=K.obj _ _ hid;have M:=k.flat (fun _ _ _ h=>by cases h);refine⟨rfl,fun c hr=>?_⟩;simp only[rel]at hr;simp only[fb,rel];obtain⟨h1,N,B⟩:=hr;refine⟨h1,by have:=k.past; rwa [M]at this,fun _=>?_⟩;rw[K.dp.loc _ q];exact B ⟨_,by rw[K.hH]; exact bg hid,k.ae⟩
   ·cases h
  ·rename_i l1 U W rows cl hid
   split at h
   ·rename_i d
    subst d;cases h;obtain⟨q,k⟩:=K.obj _ _ hid;have M:=k.flat (fun _ _ _ h=>by cases h);refine⟨rfl,fun c hr=>?_⟩;simp only[rel]at hr;simp only[fb,rel];obtain⟨h1,N,B⟩:=hr;refine⟨h1,by have:=k.past; rwa [M]at this,fun _=>?_⟩;rw[K.dp.loc _ q];exact B ⟨_,by rw[K.hH]; exact bg hid,k.ae⟩
   ·cases h
  ·rename_i l1 U KI1 VI1 rows mem cl hid
   split at h
   ·rename_i d
    subst d;cases h;obtain⟨q,k⟩:=K.obj _ _ hid;have M:=k.flat (fun _ _ _ h=>by cases h);refine⟨rfl,fun c hr=>?_⟩;simp only[rel]at hr;simp only[fb,rel];obtain⟨h1,N,B⟩:=hr;refine⟨h1,by have:=k.past; rwa [M]at this,fun _=>?_⟩;rw[K.dp.loc _ q];exact B ⟨_,by rw[K.hH]; exact bg hid,k.ae⟩
   ·cases h
  ·cases h
 ·cases h; exact⟨rfl,fun c hr=>by simp only[rel]at hr; subst hr; simp[fb,rel,G.int]⟩
 ·split at h
  ·rename_i d
   obtain⟨rfl,d⟩:=d;cases h;refine⟨rfl,fun c hr=>?_⟩;simp only[rel]at hr;simp only[fb,rel];obtain⟨cs,r1,r2⟩:=hr;exact⟨cs,r1,Nd K d _ r2⟩
  ·cases h
 ·cases h; exact⟨rfl,fun c hr=>by simpa only[fb,rel]using hr⟩
 ·cases h
theorem Fv(K:jb H e fz lens E E0):∀{d:List fl} {as:List AV} {g:List G},fU H e fz d as=some (true,g)→∀(rest:List G),
  g.length=pY d∧as.length=d.length∧(jD lens d (g++rest)).length=d.length ∧
   (∀ cs,af E as cs→af E0 (jD lens d (g++rest)) cs)∧∀ b o,E0.w.heap[b]? = E.w.heap[b]? → cw E as b o→cw E0 (jD lens d (g++rest)) b o
 | [],[],g,h,rest=>by
  simp only[fU,aY,a8]at h;obtain⟨_,rfl⟩:=h;refine⟨rfl,rfl,rfl,fun cs hr=>?_,fun b o _ hr=>by simp[jD,cw]⟩;cases cs with
  |nil=>simp[jD,af]
  |cons _ _=>simp[af]at hr
 | sh::d,a::as,g,h,rest=>by
  simp only[fU]at h;split at h
  ·rename_i b g1 V g2 h1 B
   simp only[aY,a8,az]at h;obtain⟨⟨rfl,rfl⟩,rfl⟩:=h;obtain⟨p1,q⟩:=Nf K h1 (g2++rest);obtain⟨I,J,M,N,O⟩:=Fv K B rest;have k:eO sh.sz (g1++(g2++rest))=g2++rest:=by rw[←p1]; exact p9 g1 _
   refine⟨by simp only[pY,eD,p1,I],by simp only[cn,J],?_,?_,?_⟩
   ·simp only[jD,gT,k,cn,M]
   ·intro cs hr
    cases cs with
    |nil=>simp[af]at hr
    | cons c cs =>
     simp only[af]at hr;simp only[jD,gT,k,af];exact⟨q c hr.1,N cs hr.2⟩
   ·intro b o hb hr
    simp only[cw]at hr;simp only[jD,gT,k,cw];obtain⟨⟨v,r1,r2,r3⟩,U⟩:=hr;exact⟨⟨v,by rw[World.sH hb]; exact r1,r2,q v r3⟩,O b (o+1) hb U⟩
  ·cases h
 | [],_::_,_,h,_=>by simp[fU]at h
 |_::_,[],_,h,_=>by simp[fU]at h
theorem Ng(K:jb H e fz lens E E0){sh:Sh}{a:AV}{g:List G}(h:lk H e fz sh a=some (true,g))(rest:List G) :
  g.length=sh.sz∧∀ c,rel E a c→rel E0 (pZ lens sh (g++rest)) c:=by
 cases sh with
 |s a0=>exact Nf K h rest
 | clo f caps =>
  cases a<;>simp only[lk]at h<;>try cases h
  rename_i g1 vs;split at h
  ·rename_i d
   subst d;obtain⟨k,B,I,q,J⟩:=Fv K h rest;refine⟨k,fun c hr=>?_⟩;simp only[rel]at hr;simp only[pZ,rel];obtain⟨cs,r1,r2⟩:=hr;exact⟨cs,r1,q _ r2⟩
  ·cases h
theorem wN(K:jb H e fz lens E E0):∀{d:List Sh} {as:List AV} {g:List G},eX H e fz d as=some (true,g)→∀(rest:List G),
  g.length=Fs d∧as.length=d.length∧(fB lens d (g++rest)).length=d.length∧(∀ cs,af E as cs→af E0 (fB lens d (g++rest)) cs)
 | [],[],g,h,rest=>by
  simp only[eX,aY,a8]at h;obtain⟨_,rfl⟩:=h;refine⟨rfl,rfl,rfl,fun cs hr=>?_⟩;cases cs with
  |nil=>simp[fB,af]
  |cons _ _=>simp[af]at hr
 | sh::d,a::as,g,h,rest=>by
  simp only[eX]at h;split at h
  ·rename_i b g1 O g2 h1 q
   simp only[aY,a8,az]at h;obtain⟨⟨rfl,rfl⟩,rfl⟩:=h;obtain⟨p1,B⟩:=Ng K h1 (g2++rest);obtain⟨I,J,M,N⟩:=wN K q rest;have k:eO sh.sz (g1++(g2++rest))=g2++rest:=by rw[←p1]; exact p9 g1 _
   refine⟨by simp only[Fs,eD,p1,I],by simp only[cn,J],by simp only[fB,gT,k,cn,M],?_⟩;intro cs hr;cases cs with
   |nil=>simp[af]at hr
   | cons c cs =>
    simp only[af]at hr;simp only[fB,gT,k,af];exact⟨B c hr.1,N cs hr.2⟩
  ·cases h
 | [],_::_,_,h,_=>by simp[eX]at h
 |_::_,[],_,h,_=>by simp[eX]at h
theorem Nh(K:jb H e fz lens E E0):∀{B:List Sh} {as:List AV} {g:List G},eX H e fz B as=some (true,g)→∀{rest:List G} {k:Nat} {x v:AV} {c:Value},
  as[k]? = some x→(fB lens B (g++rest))[k]? = some v→rel E x c→rel E0 v c
 | [],[],_,_,_,_,_,_,_,d,_,_=>by simp at d
 | sh::B,a::as,g,h,rest,k,x,v,c,d,q,hr=>by
  simp only[eX]at h;split at h
  ·rename_i b g1 N g2 h1 I
   simp only[aY,a8,az]at h;obtain⟨⟨rfl,rfl⟩,rfl⟩:=h;obtain⟨p1,J⟩:=Ng K h1 (g2++rest);have M:eO sh.sz (g1++(g2++rest))=g2++rest:=by rw[←p1]; exact p9 g1 _
   simp only[fB,gT,M]at q;cases k with
   | zero =>
    simp at d q;subst d;subst q;exact J c hr
   |succ k=>exact Nh K I (by simpa using d) (by simpa using q) hr
  ·cases h
 | [],_::_,_,h,_,_,_,_,_,_,_,_=>by simp[eX]at h
 |_::_,[],_,h,_,_,_,_,_,_,_,_=>by simp[eX]at h
theorem Ni(K:jb H e fz lens E E0){sh:cr}{o:ah}{g:List G}(h:im H e fz sh o=some (true,g))(rest:List G)
  {j:Nat} (hj:j<e.ids.length) (hlab:∀ l,sh.jZ=some l→E0.X.r l=E.X.r l) (ho:aN E (e.at j) o.den):aN E0 j (fC lens sh (g++rest)).den:=by
 have M:∀ b:Nat,E0.w.heap[b]? = E.w.heap[b]? := fun b=>by rw[K.dp.w]
 have N:=K.dp.loc j hj;unfold im at h;split at h
 ·split at h
  ·rename_i J
   cases h;have J:=Kd.jA J;subst J;simp only[fC,ah.den,aN]at ho⊢;rcases ho with⟨h1,d⟩|⟨b,m,h1,d,I,O,h5⟩
   ·exact .inl ⟨by rw[N,h1],d⟩
   ·exact .inr ⟨b,m,by rw[N,h1],sJ (M b) d,I,O,lQ K.dp.bH _ O (M b) h5⟩
  ·cases h
 ·rename_i shs cells
  obtain⟨q1,q2,q3,q5,q6⟩:=Fv K h rest;simp only[fC,ah.den,aN]at ho⊢;obtain⟨b,n,h1,d,I⟩:=ho;exact⟨b,n,by rw[N,h1],by rw[q3,←q2]; exact sJ (M b) d,q6 b 0 (M b) I⟩
 ·split at h
  ·rename_i J
   cases h;simp only[az]at J;have h1:=Ct.ku J.1;have d:=Ct.ku J.2;subst h1;subst d;simp only[fC,ah.den,aN]at ho⊢;obtain⟨b,n,ms,h1,d,I⟩:=ho;refine⟨b,n,ms,by rw[N,h1],?_,jC K.dp.bH I⟩;rw[M b];simpa[G.int]using d
  ·cases h
 ·rename_i l T B l' T' B' s
  split at h
  ·rename_i J
   cases h;simp only[az]at J;obtain⟨h1,d,I⟩:=J;have h1:=bk h1;have d:=bk d;have I:=bk I;subst h1 d I;simp only[fC,ah.den,aN]at ho⊢;obtain⟨b,n,p,v,k,q,g1,g2,g3,g4,g5,g6⟩:=ho;have hr:=hlab l rfl;exact⟨b,n,p,v,k,q,by rw[N,g1],by rw[M b,g2],g3,by rw[hr,g4],by rw[hr]; exact g5,Du (fun g m _=>M g) (by simpa[G.str]using g6)⟩
  ·cases h
 ·rename_i l K0 ks l' K' ks' rows clock
  split at h
  ·rename_i J
   cases h;simp only[az]at J;obtain⟨h1,d,I⟩:=J;have h1:=bk h1;have d:=Ct.ku d;have I:=Kd.jA I;subst h1 d I;simp only[fC,ah.den,aN]at ho⊢;obtain⟨b,n,ms,g1,g2,g3,g4⟩:=ho;have hr:=hlab l rfl;refine⟨b,n,ms,by rw[N,g1],?_,jC K.dp.bH g3,vA (E:=E) (fun h g m hk=>⟨by rw[hr]; exact hk,M g⟩) (fun _ _ _ _ _ U V hc W=>lQ K.dp.bH _ hc V W) g4⟩;rw[M b];simpa[G.int]using g2
  ·cases h
 ·rename_i l K0 KI VI l' K' KI' VI' rows mem clock
  split at h
  ·rename_i J
   cases h;simp only[az]at J;obtain⟨h1,d,I,O⟩:=J;have h1:=bk h1;have d:=Ct.ku d;have I:=Ct.ku I;have O:=Ct.ku O;subst h1 d I O;simp only[fC,ah.den,aN]at ho⊢;obtain⟨b,n,ms,g1,g2,g3,g4⟩:=ho;have hr:=hlab l rfl;refine⟨b,n,ms,by rw[N,g1],?_,jC K.dp.bH g3,Dx hr (fun _ U _ _=>M U) (fun _ _ _=>jC K.dp.bH) g4⟩;rw[M b];simpa[G.int]using g2
  ·cases h
 ·cases h
end dp
def cr.up:cr→Nat
 |.vec _ u=>u
 |_=>0
theorem Fw{H:List ah}{e:bP}{fz:Nat→Bool}{lens:dm}{sh:cr}{o:ah}{b:Bool}{g d:List G}(h:im H e fz sh o=some (b,g)) :
  o.den.aG = some (tP o)∧(fC lens sh d).den.aG = some sh.up∧((∀ ks v rows,o≠.vec ks v rows)→sh.up=0):=by
 unfold im at h;split at h
 ·exact⟨rfl,rfl,fun hn=>(hn _ _ _ rfl).elim⟩
 ·exact⟨rfl,rfl,fun _=>rfl⟩
 ·exact⟨rfl,rfl,fun _=>rfl⟩
 ·exact⟨rfl,rfl,fun _=>rfl⟩
 ·exact⟨rfl,rfl,fun _=>rfl⟩
 ·exact⟨rfl,rfl,fun _=>rfl⟩
 ·cases h
theorem Zo{H:List ah}{e:bP}{fz:Nat→Bool}{sh:fl}{a:AV}{b:Bool}{g:List G}(h:gj H e fz sh a=some (b,g)):g.length=sh.sz:=by
 unfold gj at h;split at h<;>(try split at h)<;>(try split at h)<;>(try split at h)<;>(try split at h)<;>first
  |(cases h; rfl)
  |cases h
theorem Nj{H:List ah}{e:bP}{fz:Nat→Bool}:∀{d:List fl} {as:List AV} {b:Bool} {g:List G},fU H e fz d as=some (b,g)→g.length=pY d
 | [],[],_,g,h=>by simp[fU]at h; simp[←h.2,pY]
 | sh::d,a::as,b,g,h=>by
  simp only[fU]at h;split at h
  ·rename_i b g1 q g2 h1 k
   simp only[aY,a8]at h;obtain⟨_,rfl⟩:=h;simp only[pY,eD,Zo h1,Nj k]
  ·cases h
 | [],_::_,_,_,h|_::_,[],_,_,h=>by simp[fU]at h
theorem Zp{H:List ah}{e:bP}{fz:Nat→Bool}{sh:cr}{o:ah}{b:Bool}{g:List G}(h:im H e fz sh o=some (b,g)):g.length=sh.sz:=by
 unfold im at h;split at h
 ·split at h
  ·cases h; rfl
  ·cases h
 ·exact Nj h
 ·split at h
  ·cases h; rfl
  ·cases h
 ·split at h
  ·cases h; rfl
  ·cases h
 ·split at h
  ·cases h; rfl
  ·cases h
 ·split at h
  ·cases h; rfl
  ·cases h
 ·cases h
theorem wO{H:List ah}{e:bP}{fz:Nat→Bool}:∀{os:List cr} {ids:List Nat} {g:List G},j0 H e fz os ids=some (true,g)→∀(rest:List G) (lens:dm),
  g.length=nf os∧ids.length=os.length∧(cN lens os (g++rest)).length=os.length ∧
  (∀ (j : Nat) (sh : cr), os[j]? = some sh → ∃ i o g1 q, ids[j]? = some i ∧ H[i]? = some o ∧ im H e fz sh o = some (true, g1) ∧ (cN lens os (g ++ rest))[j]? = some (fC lens sh (g1 ++ q)) ∧
   (cC os (g++rest)).ae j=sh.up∧∀ ks v rows,o=.vec ks v rows→(cC os (g++rest)).len j=rows.length)
 | [],[],g,h,rest,lens=>by
  simp only[j0,aY,a8]at h;obtain⟨_,rfl⟩:=h;exact⟨rfl,rfl,rfl,fun j sh d=>by simp at d⟩
 | sh::os,i::ids,g,h,rest,lens=>by
  simp only[j0]at h;split at h
  case h_2=>cases h
  rename_i o ho;split at h
  ·rename_i b g1 b' g2 h1 M
   simp only[aY,a8,az]at h;obtain⟨⟨rfl,rfl⟩,rfl⟩:=h;obtain⟨N,O,U,V⟩:=wO M rest lens;have B:=Zp h1;have k:eO sh.sz (g1++(g2++rest))=g2++rest:=by rw[←B]; exact p9 g1 _
   refine⟨by simp only[nf,eD,B,N],by simp only[cn,O],by simp only[cN,gT,k,cn,U],fun j I d=>?_⟩;cases j with
   | zero =>
    simp at d;subst d;refine⟨i,o,g1,g2++rest,rfl,ho,h1,by simp only[cN,gT,List.getElem?_cons_zero],?_,?_⟩
    ·unfold cC dm.ae
     cases sh<;>rfl
    ·rintro ks v rows rfl
     unfold im at h1;split at h1
     ·rename_i heq
      cases heq;split at h1
      ·cases h1
       simp[cC,dm.len,G.rows]
      ·cases h1
     ·rename_i heq; cases heq
     ·rename_i heq; cases heq
     ·rename_i heq; cases heq
     ·rename_i heq; cases heq
     ·rename_i heq; cases heq
     ·cases h1
   | succ j =>
    obtain⟨W,o',J,q,r1,r2,r3,r4,r5,r6⟩:=V j I (by simpa using d);refine⟨W,o',J,q,by simpa using r1,r2,r3,by simpa only[cN,gT,k,VT]using r4,?_,?_⟩
    ·simpa only[cC,dm.ae,gT,k,al2]using r5
    ·simpa only[cC,dm.len,gT,k,al2]using r6
  ·cases h
 | [],_::_,_,h,_,_=>by simp[j0]at h
 |_::_,[],_,h,_,_=>by simp[j0]at h
end Go.AL

namespace Go.AL
open Go
variable [Dr]
abbrev tR(a b:Bool):Bool:=Bool.casesOn a false b
theorem tS{a b:Bool}:tR a b=true↔a=true∧b=true:=by cases a<;>simp
open Classical in
noncomputable def oF(E:Env)(H0:List ad)(l:Nat):List (Option (Option (Nat × Nat))):=if ∃(j:Nat) (o:ad),H0[j]? = some o∧o.label=some l then E.X.r l else (E.X.r l).map fun _=>none
theorem Zq{E:Env}{H0:List ad}{l j:Nat}{o:ad}(h:H0[j]? = some o)(d:o.label=some l):oF E H0 l=E.X.r l:=if_pos ⟨j,o,h,d⟩
theorem AM{E:Env}{H0:List ad}{l h:Nat}{q:Option (Nat × Nat)}(d:(oF E H0 l)[h]? = some (some q)):(E.X.r l)[h]? = some (some q)∧∃(j:Nat) (o:ad),H0[j]? = some o∧o.label=some l:=by
 unfold oF at d;split at d
 ·rename_i B
  exact⟨d,B⟩
 ·rw [bU] at d
  cases k:(E.X.r l)[h]? with
  |none=>rw[k]at d; cases d
  |some y=>rw[k]at d; cases d
theorem Zr(E:Env)(H0:List ad)(l:Nat):(oF E H0 l).length=(E.X.r l).length:=by
 unfold oF;split
 ·rfl
 ·simp
noncomputable def jd(E:Env)(H0:List ad)(ids:List Nat):Env:=⟨E.w,H0,ids.map fun i=>E.loc.getD i none,E.X.re (oF E H0)⟩
theorem Nk(E:Env)(H0:List ad)(ids:List Nat):∀ l h,h<(E.X.r l).length→h<((jd E H0 ids).X.r l).length∧∀ q,((jd E H0 ids).X.r l)[h]? = some (some q)→(E.X.r l)[h]? = some (some q) :=
 fun l h d=>⟨by show h<(oF E H0 l).length; rw[Zr]; exact d,fun q k=>(AM (E:=E) (H0:=H0) k).1⟩
theorem Nl{E:Env}{H0:List ad}{ids:List Nat}{b:Nat}(h:(jd E H0 ids).own b):E.own b:=by
 rcases h with⟨j,c,q⟩|⟨l,k,c,q⟩
 ·simp only [jd, bU] at q
  obtain⟨i,_,d⟩:=ef.1 q;rw[bz]at d;cases he:E.loc[i]? with
  |none=>rw[he]at d; cases d
  |some y=>rw[he]at d; simp at d; exact .inl ⟨i,c,by rw[he,d]⟩
 ·exact .inr ⟨l,k,c,(AM q).1⟩
def je(ids:List Nat)(i:Nat):Bool := !ids.any (ab i)
theorem Nn{ids:List Nat}{i:Nat}(h:je ids i=true):i∉ids:=by
 intro hm;have:ids.any (ab i)=true:=iQ.2 ⟨i,hm,by simp⟩;simp[je,this]at h
theorem No{E:Env}{H:List ah}(hH:E.H=aj H)(HE:aq E){ids:List Nat}(hn:ids.Nodup){os:List cr}{g:List G}(h:j0 H (bL H ids) (je ids) os ids=some (true,g))(rest:List G) :
  jb H (bL H ids) (je ids) (cC os (g++rest)) E (jd E (aj (cN (cC os (g++rest)) os (g++rest))) ids) ∧
   aq (jd E (aj (cN (cC os (g++rest)) os (g++rest))) ids):=by
 obtain⟨p0,p1,p2,p3⟩:=wO h rest (cC os (g++rest));generalize M:jd E (aj (cN (cC os (g++rest)) os (g++rest))) ids=E0;have hElen:E.loc.length=H.length:=by rw[HE.len,hH,fa]
 have eids:(bL H ids).ids=ids:=rfl;have hloc:∀ j x,E0.loc[j]? = some x→j<ids.length∧∃ i,ids[j]? = some i∧E.loc.getD i none=x:=by
  intro j x J;rw[←M]at J;simp only[jd,bU]at J;obtain⟨i,h1,I⟩:=ef.1 J;exact⟨aK h1,i,h1,I⟩
 have getD_some:∀{i:Nat} {x:Nat × Nat},E.loc.getD i none=some x→E.loc[i]? = some (some x):=by
  intro i x J;rw[bz]at J;cases he:E.loc[i]? with
  |none=>rw[he]at J; cases J
  |some y=>rw[he]at J; simp at J; rw[J]
 have hown:∀ b,E0.own b→E.own b:=by
  rintro b (⟨j,c,B⟩|⟨l,k,c,B⟩)
  ·obtain ⟨_, i, _, I⟩ := hloc j _ B
   exact .inl ⟨i,c,getD_some I⟩
  ·rw [← M] at B
   exact .inr ⟨l,k,c,(AM B).1⟩
 have hw:E0.w=E.w:=by rw[←M]; rfl
 have hX:E0.X.x=E.X.x:=by rw[←M]; rfl
 have W:∀(l k:Nat) q,(E0.X.r l)[k]? = some (some q)→(E.X.r l)[k]? = some (some q)∧∃(j:Nat) (o:ad),E0.H[j]? = some o∧o.label=some l:=fun l k q hq=>by
  rw[←M]at hq⊢;exact AM hq
 have hatl:∀ j,j<ids.length→ids[j]? = some ((bL H ids).at j):=fun j B=>il (e:=bL H ids) B;have hobjs:∀ j,j<ids.length→∃ sh o g1 N,os[j]? = some sh∧H[(bL H ids).at j]? = some o∧im H (bL H ids) (je ids) sh o=some (true,g1) ∧
   (cN (cC os (g++rest)) os (g++rest))[j]? = some (fC (cC os (g++rest)) sh (g1++N)) ∧
   (cC os (g++rest)).ae j=sh.up∧∀ ks v rows,o=.vec ks v rows→(cC os (g++rest)).len j=rows.length:=by
  intro j B;have hj':j<os.length:=by omega
  obtain⟨i,o,g1,N,q1,O,V,U,q5,q6⟩:=p3 j os[j] (bf hj');rw[hatl j B]at q1;cases q1;exact⟨os[j],o,g1,N,bf hj',O,V,U,q5,q6⟩
 have hK:jb H (bL H ids) (je ids) (cC os (g++rest)) E E0:=by
  refine⟨hH,HE,fun i hi b n hb=>?_,⟨fun b hb=>⟨⟨by rw[hw]; exact hb.1,fun ho=>hb.2.1 (hown b ho),by rw[hX]; exact hb.2.2⟩,by rw[hw]⟩,hw,fun j B=>?_,fun j o l h1 I=>by rw[←M]at h1⊢; exact Zq h1 I⟩,fun j o ho=>?_⟩
  ·refine ⟨by rw [hw]; exact (HE.lt _ _ _ hb).1, ?_, by rw [hX]; exact (HE.lt _ _ _ hb).2⟩
   rintro(⟨j,c,B⟩|⟨l,k,c,B⟩)
   case inr=>exact HE.cY _ _ _ _ _ _ hb (W l k _ B).1
   obtain⟨_,i',h1,I⟩:=hloc j _ B;have:=HE.inj _ _ _ _ _ hb (getD_some I);subst this;exact Nn hi (eZ h1)
  ·rw [← M]
   simp only[jd,bU,hatl j B,eg];have hlt:(bL H ids).at j<E.loc.length:=by
    obtain⟨sh,o,g1,N,_,O,_⟩:=hobjs j B;rw[hElen];exact aK O
   rw[bz,bf hlt];rfl
  ·have B:j<ids.length:=by
    rcases kg j ids.length with hlt|hge
    ·exact hlt
    ·have h1 := aK ho
     have I:=tN (e:=bL H ids) hge;have h3:(bL H ids).base=H.length:=rfl;omega
   refine⟨B,?_⟩;obtain⟨sh,o',g1,N,q1,O,V,U,q5,q6⟩:=hobjs j B;rw[ho]at O;cases O;obtain⟨r1,r2,r3⟩:=Fw (lens:=cC os (g++rest)) (d:=g1++N) V;have hq4:E0.H[j]? = some (fC (cC os (g++rest)) sh (g1++N)).den:=by
    rw[←M];exact bg U
   exact⟨r1,⟨_,hq4,by rw[q5]; exact r2⟩,fun o0 h0=>by rw[hq4]at h0; cases h0; rw[Ft,Fu V],q6,fun hv=>by rw[q5]; exact r3 hv⟩
 have hlabs:∀(j:Nat) o,E0.H[j]? = some o→j<ids.length∧∃ o',E.H[(bL H ids).at j]? = some o'∧o'.label=o.label:=fun j o ho=>by
  rw[←M]at ho;simp only[jd,aj,bU]at ho;obtain⟨o',h1,rfl⟩:=ef.1 ho;have B:j<ids.length:=by
   have:=aK h1;omega
  obtain⟨sh,oo,g1,N,q1,O,V,U,_⟩:=hobjs j B;rw[h1]at U;cases U;exact⟨B,oo.den,by rw[hH]; exact bg O,by rw[Nc V,tO]⟩
 refine⟨hK,?_,?_,?_,fun b J=>?_,fun j o ho=>?_,HE.fH.bH hK.dp.bH,fun l k l' k' b m n h1 I=>HE.e9 l k l' k' b m n (W _ _ _ h1).1 (W _ _ _ I).1,fun i b m l k n hi I=>?_,fun l k b m h1=>by rw[hw,hX]; exact HE.ct l k b m (W _ _ _ h1).1,fun i j o o' l hi B h1 I=>?_,fun l hn k q hq=>?_⟩
 ·rw [← M]
  simp only[jd,cD,fa,p2,p1]
 ·intro i j b m n hi B
  obtain⟨i1,i2,i3,i4⟩:=hloc i _ hi;obtain⟨j1,j2,j3,j4⟩:=hloc j _ B;have:=HE.inj _ _ _ _ _ (getD_some i4) (getD_some j4);subst this;exact(Db i1 hn).1 (by rw[i3,j3])
 ·intro i b m hi
  obtain⟨_,i2,_,i4⟩:=hloc i _ hi;rw[hw,hX];exact HE.lt _ _ _ (getD_some i4)
 ·rw [hw]
  rw[hX]at J;exact HE.X b J
 ·rw [← M] at ho
  simp only[jd,aj,bU]at ho;obtain⟨o',h1,rfl⟩:=ef.1 ho;have B:j<ids.length:=by
   have:=aK h1;omega
  obtain⟨sh,oo,g1,N,q1,O,V,U,q5,q6⟩:=hobjs j B;rw[h1]at U;cases U;refine Ni hK V N (by exact B) (fun l hl=>?_) (HE.obj _ _ (by rw[hH]; exact bg O));refine hK.dp.jZ j (fC (cC os (g++rest)) sh (g1++N)).den l ?_ (by rw[tO,hl]);rw[←M];exact bg h1
 ·obtain ⟨_, i', _, h3⟩ := hloc i _ hi
  exact HE.cY _ _ _ _ _ _ (getD_some h3) (W _ _ _ I).1
 ·obtain ⟨i1, oi, a1, a2⟩ := hlabs i o hi
  obtain⟨j1,oj,b1,b2⟩:=hlabs j o' B;have:=HE.uniq _ _ _ _ l a1 b1 (by rw[a2,h1]) (by rw[b2,I]);exact(Db i1 hn).1 (by rw[hatl i i1,hatl j j1,this])
 ·obtain ⟨_, j, o, h1, I⟩ := W l k q hq
  exact hn j o h1 I
def nodupB:List Nat→Bool
 | []=>true
 |i::is => !is.any (ab i)&&nodupB is
theorem tT:∀{l:List Nat},nodupB l=true→l.Nodup
 | [],_=>List.nodup_nil
 | i::is,h=>by
  simp only[nodupB,az,qL]at h;refine lL.2 ⟨fun hm=>?_,tT h.2⟩;have:is.any (ab i)=true:=iQ.2 ⟨i,hm,by simp⟩;rw[h.1]at this;cases this
def oG(H:List ah):Nat→Nat→List Nat→List cr→Bool
 |_,0,_,_=>true
 |i,m+1,id::ids,o::os=>ab id i&&((ab (tQ H i) 0 || !ab o.up 0)&&oG H (i+1) m ids os)
 |_,_,_,_=>false
theorem AN{H:List ah}:∀{i m:Nat} {ids:List Nat} {os:List cr},oG H i m ids os=true→∀ j,j<m→ids[j]? = some (i+j)∧∃ o,os[j]? = some o∧(tQ H (i+j)=0∨o.up≠0)
 |_,0,_,_,_,j,k=>by omega
 | i,m+1,id::ids,o::os,h,j,k=>by
  simp only[oG,az,Bool.or_eq_true,qL]at h;obtain⟨h1,d,q⟩:=h;have h1:=bk h1;subst h1;cases j with
  | zero =>
   refine⟨rfl,o,rfl,?_⟩;rcases d with d|d
   ·exact .inl (bk d)
   ·right
    intro e;rw[e]at d;cases d
  | succ j =>
   have:=AN q j (by omega);rw[show id+1+j=id+(j+1) from by omega]at this;simpa using this
 |_,_+1,[],_,h,_,_=>by simp[oG]at h
 |_,_+1,_::_,[],h,_,_=>by simp[oG]at h
theorem Np{E:Env}{H:List ah}(hH:E.H=aj H){ids:List Nat}{os:List cr}{m:Nat}{lens:dm}{E0:Env}(J:jb H (bL H ids) (je ids) lens E E0)(hX:E0.X.x=E.X.x∧E0.X.z=E.X.z)
  (hrl:∀ l h,h<(E.X.r l).length→h<(E0.X.r l).length∧∀ q,(E0.X.r l)[h]? = some (some q)→(E.X.r l)[h]? = some (some q))
  (bF:oG H 0 m ids os=true) (hobj:∀ j,j<m→∃ o sh,H[(bL H ids).at j]? = some o∧os[j]? = some sh∧lens.ae j=sh.up) (hown:∀ b,E0.own b→E.own b):E.dL m E0:=by
 have key:∀ id,id<m→(bL H ids).at id=id∧∃ o sh,H[id]? = some o∧os[id]? = some sh∧lens.ae id=sh.up∧(tP o=0∨sh.up≠0)∧AK E0 lens id o∧id<ids.length:=by
  intro id hid;obtain⟨h1,o',U,M⟩:=AN bF id hid;rw[di]at h1 M;have O:=aK h1;have k:=il (e:=bL H ids) (j:=id) O;rw[show (bL H ids).ids=ids from rfl,h1]at k;have k:=(gY k).symm;obtain⟨o,sh,d,B,N⟩:=hobj id hid;obtain⟨r1,r2⟩:=J.obj id o d;rw[k]at d;rw[U]at B;have B:=gY B;rw[←B]at N;refine⟨k,o,o',d,U,N,?_,r2,O⟩;rcases M with M|M
  ·left
   simpa[tQ,d]using M
  ·exact .inr M
 refine⟨fun id hid hp=>?_,by rw[J.dp.w]; exact aD _,fun b _ _=>by rw[J.dp.w],fun b _ hb ho=>hb (hown b ho),fun id hid hp hl=>?_,fun b _=>by rw[hX.1,hX.2]; exact⟨Iff.rfl,Iff.rfl⟩,hrl,by rw[J.dp.w]; exact⟨rfl,rfl,rfl,by first|exact fun _=>aD _|exact fun _=>fq _ _⟩,fun id hid l o h1 U _=>?_⟩
 rotate_right
 ·obtain ⟨k, o1, sh, d, B, N, V, I, O⟩ := key id hid
  obtain⟨o0,r1,r2⟩:=I.obj;rw[hH,bg d]at h1;cases h1;have hm:=I.mm o0 r1;rw[U]at hm;exact⟨⟨[],by rw[dh]; exact J.dp.jZ id o0 l r1 (ad.lO hm)⟩,o0,r1,hm⟩
 ·obtain ⟨_, o, sh, d, B, N, V, I, _⟩ := key id hid
  obtain⟨o0,r1,r2⟩:=I.obj;exact⟨o0,r1,ad.Dp r2,fun v _=>fg v⟩
 ·obtain ⟨k, o, sh, d, B, N, V, I, O⟩ := key id hid
  obtain⟨o0,r1,r2⟩:=I.obj;obtain⟨o1,r3,W⟩:=hl;rw[r1]at r3;cases r3;rw[r2]at W;have hz:lens.ae id=0:=gY W;rw[N]at hz;have hv:tP o=0:=V.resolve_right (fun h=>h hz);refine⟨⟨o.den,by rw[hH]; exact bg d,by rw[I.ae,hv]⟩,?_⟩;have:=J.dp.loc id O;rw[k]at this;exact this
structure ng where
 n:Nat
 wP:List (Nat × Sh)
 bV:List cr
def tU:Nat→List (Nat × Sh)→List AV→AV
 | i,(j,_)::ss,v::vs=>match ab i j with
  |true=>v
  |false=>tU i ss vs
 |_,_,_=>.undef
def aM(S:ng)(d:List G):al :=
 ⟨(dI S.n).map fun i=>tU i S.wP (fB (cC S.bV d) (S.wP.map (·.2)) (eO (nf S.bV) d)),cN (cC S.bV d) S.bV d⟩
def Fx(m:Nat)(S:ng)(ids:List Nat)(s:al):Option (Bool × List G) :=
 match ab s.fr.length S.n&&(nodupB ids&&oG s.H 0 m ids S.bV)with
 |false=>none
 | true=>match j0 s.H (bL s.H ids) (je ids) S.bV ids,eX s.H (bL s.H ids) (je ids) (S.wP.map (·.2)) (S.wP.map fun p=>s.fr.getD p.1 .undef) with
  |some (b,g),some (d,k)=>some (b&&d,g++k)
  |_,_=>none
theorem Nq{E:Env}:∀{ss:List (Nat × Sh)} {vs:List AV} {cs:List Value} {i:Nat} {c:Value},(∀(k:Nat) (p:Nat × Sh) (v:AV),ss[k]? = some p→vs[k]? = some v→∀ c,cs[p.1]? = some c→rel E v c)→cs[i]? = some c →
  rel E (tU i ss vs) c
 | [],_,_,_,_,_,_=>by simp[tU,rel]
 |_::_,[],_,_,_,_,_=>by simp[tU,rel]
 | (j,sh)::ss,v::vs,cs,i,c,h,d=>by
  simp only[tU];split
  ·rename_i e
   have e:=bk e;subst e;exact h 0 (i,sh) v rfl rfl c d
  ·exact Nq (fun k p v hk q=>h (k+1) p v (by simpa using hk) (by simpa using q)) d
theorem Zs{m:Nat}{S:ng}{ids:List Nat}{s:al}{d:List G}(h:Fx m S ids s=some (true,d)):bl m s.den (aM S d).den:=fun E a I=>by
 unfold Fx at h;split at h
 ·cases h
 rename_i q;simp only[az]at q;obtain⟨hlen,J,bF⟩:=q;have hlen:=bk hlen;have J:=tT J;split at h
 case h_2=>cases h
 rename_i b g b' B h1 V;simp only[aY,a8,az]at h;obtain⟨⟨rfl,rfl⟩,rfl⟩:=h;have hH:E.H=aj s.H:=I.H;obtain⟨N,hHR⟩:=No hH I.heap J h1 B;obtain⟨p0,p1,p2,p3⟩:=wO h1 B (cC S.bV (g++B));have hd:eO (nf S.bV) (g++B)=B:=by rw[←p0]; exact p9 g B
 have W:=wN N V [];rw[dh]at W;obtain⟨q1,q2,q3,q4⟩:=W;refine⟨ids.map fun i=>E.loc.getD i none,E.X.re (oF E (aM S (g++B)).den.H),⟨rfl,?_,I.defers,hHR⟩,?_⟩
 ·have hfr : af E s.fr a.tmps.toList := I.fr
  obtain⟨f1,f2⟩:=n_.1 hfr;refine n_.2 ⟨?_,fun i x c hi q=>?_⟩
  ·simp only [al.den, aM, cD, List.length_range]
   omega
  ·simp only [al.den, aM, hd, bU] at hi
   obtain⟨i',M,rfl⟩:=ef.1 hi;have hin:i<S.n:=by
    have:=aK M;simpa using this
   rw[List.getElem?_range hin]at M;cases M;refine Nq (cs:=a.tmps.toList) (fun k p v hk hv c q=>?_) q;have hk2:(S.wP.map fun p=>s.fr.getD p.1 .undef)[k]? = some (s.fr.getD p.1 .undef):=by simp[hk]
   have hx:rel E (s.fr.getD p.1 .undef) c:=by
    have O:=aK q;rw[←f1]at O;have e1:s.fr[p.1]? = some (s.fr.getD p.1 .undef):=by
     rw[bz,bf O];rfl
    exact f2 p.1 _ c e1 q
   exact Nh N V hk2 (by rw[dh]; exact hv) hx
 ·exact Np hH N ⟨rfl,rfl⟩ (Nk E _ ids) bF (fun j hj=>by
   obtain⟨r1,o',r2,_⟩:=AN bF j hj;obtain⟨i,o,g1,rest1,t1,t2,t3,t4,t5,t6⟩:=p3 j o' r2;have U:=il (e:=bL s.H ids) (j:=j) (aK t1);rw[show (bL s.H ids).ids=ids from rfl,t1]at U;cases U;exact⟨o,o',t2,r2,t5⟩) (fun b=>Nl)
def Fy(slot:Nat)(s:al):al :=
 match s.fr.getD slot .undef with
 | .vec w id ae off n=>match s.H[id]? with
  |some (.vec ks v rows)=>if ae=v∧off=0∧w=ks.length then ⟨s.fr.set slot (.vec w id (v+1) 0 n),s.H.set id (.vec ks (v+1) (rows.take n))⟩ else s
  |_=>s
 |_=>s
theorem AO{E:Env}{a:AV}:∀{fr:List AV} {cs:List Value} {i:Nat},af E fr cs→(∀ c,cs[i]? = some c→rel E a c)→af E (fr.set i a) cs
 | [],cs,i,h,_=>by simpa using h
 |x::fr,[],i,h,_=>by simp[af]at h
 | x::fr,c::cs,0,h,ha=>by
  simp only[af]at h;simp only[List.set_cons_zero,af];exact⟨ha c rfl,h.2⟩
 | x::fr,c::cs,i+1,h,ha=>by
  simp only[af]at h;simp only[List.set_cons_succ,af];exact⟨h.1,AO h.2 fun y d=>ha y (by simpa using d)⟩
theorem Fz{E:Env}{fr:List AV}{cs:List Value}{i:Nat}{c:Value}(h:af E fr cs)(k:cs[i]? = some c):rel E (fr.getD i .undef) c:=by
 obtain⟨h1,q⟩:=n_.1 h;have d:=aK k;rw[←h1]at d;have B:fr[i]? = some (fr.getD i .undef):=by
  rw[bz,bf d];rfl
 exact q i _ c B k
theorem Zt{m:Nat}{slot:Nat}{s:al}:bl m s.den (Fy slot s).den:=by
 unfold Fy;split
 case h_2=>exact bl.refl _
 rename_i w id ae off n hsl;split
 case h_2=>exact bl.refl _
 rename_i ks v rows hid;split
 case isFalse=>exact bl.refl _
 rename_i B;obtain⟨rfl,rfl,rfl⟩:=B;intro E a d;have hH:E.H=aj s.H:=d.H;have q:E.H[id]? = some (.vec ks.length ae (rows.map (aH ks))):=by rw[hH]; exact bg hid
 have ho:=d.heap.obj id _ q;obtain⟨l,I⟩:∃ l,E.loc[id]? = some l:=by
  have:id<E.loc.length:=by rw[d.heap.len]; exact aK q
  exact⟨_,bf this⟩
 have N:E.loc.set id l=E.loc:=mV I;have M:aj (s.H.set id (.vec ks (ae+1) (rows.take n)))=E.H.set id (.vec ks.length (ae+1) ((rows.take n).map (aH ks))):=by rw[db,hH]; rfl
 have hlc:∀ b n,l=some (b,n)→E.w.heap.size≤b∨∃ m,E.loc[id]? = some (some (b,m)):=fun b n hb=>.inr ⟨n,by rw[I,hb]⟩;have O:∀ v u,(ad.vec ks.length (ae+1) ((rows.take n).map (aH ks))).aG = some v→(ad.vec ks.length ae (rows.map (aH ks))).aG = some u→u≤v:=by
  intro v u h1 k;simp[ad.aG]at h1 k;omega
 have U:∀ v,(ad.vec ks.length (ae+1) ((rows.take n).map (aH ks))).aG = some v→∀ u,(ad.vec ks.length ae (rows.map (aH ks))).aG = some u→u<v:=by
  intro v h1 u k;simp[ad.aG]at h1 k;omega
 have hle:=Env.km (o':=.vec ks.length (ae+1) ((rows.take n).map (aH ks))) (l:=l) (w':=E.w) q d.heap.len (aD _) (fun _ _ _=>rfl) hlc (.inr U) O (fun _ h=>by simp[ad.aG]at h);have V:=aq.lR (o':=.vec ks.length (ae+1) ((rows.take n).map (aH ks))) (l:=l) (w':=E.w) d.heap q (aD _) (fun _ _ _=>rfl) (fun b n hb=>.inr ⟨n,by rw[I,hb]⟩) (.inr U) O (fun _ h=>by simp[ad.aG]at h) (by
  rw[N]at hle⊢;simp only[aN]at ho⊢;rcases ho with⟨h1,k⟩|⟨b,mm,h1,k,J,h4,W⟩
  ·left
   refine⟨h1,?_⟩;have:rows=[]:=by simpa using k
   rw[this];simp
  ·right
   refine⟨b,mm,h1,k,by simp at J⊢; omega,?_,?_⟩
   ·intro r hr
    obtain⟨g,_,rfl⟩:=cF.1 hr;exact gb ks g
   ·rw [mO] at W ⊢
    intro i r hi;simp only[bU,o_]at hi;split at hi
    ·obtain ⟨g1, g2⟩ := W i r (by simpa using hi)
     exact⟨g1,vB (fun a c hr=>bI hle a hr) rfl g2⟩
    ·simp at hi)
 rw[N]at hle V;refine⟨E.loc,E.X,?_,?_⟩
 ·simp only [al.den]
  rw[M];refine⟨rfl,?_,d.defers,V⟩;refine AO (dK hle _ d.fr) fun c B=>?_;have hr:=Fz d.fr B;rw[show s.den.fr=s.fr from rfl,hsl]at hr;simp only[rel]at hr⊢;obtain⟨h1,k,J⟩:=hr;exact⟨h1,⟨.vec ks.length (ae+1) ((rows.take n).map (aH ks)),bC (aK q),rfl,fun v hv=>by simp[ad.aG]at hv; omega⟩,fun _=>J ⟨_,q,rfl⟩⟩
 ·simp only [al.den]
  rw[M];exact hle.toM
end Go.AL

namespace Go.AL
open Go
variable [Dr]
def Tree.leaf{β:Type}(f:bO→al→Option (Bool × β)):Tree→Option β
 |.fail=>none
 | .done x s=>match f x s with
  |some (b,r)=>bif b then some r else none
  |none=>none
 |.ask b t e=>bif b then t.leaf f else e.leaf f
 |.side b t=>bif b then t.leaf f else none
theorem oH{β:Type}{f:bO→al→Option (Bool × β)}:∀{t:Tree} {r:β},t.leaf f=some r→t.holds fun x s=>f x s=some (true,r)
 |.fail,_,h=>by cases h
 | .done x s,r,h=>by
  simp only[Tree.leaf]at h;split at h
  ·rename_i b r' d
   cases b with
   |true=>cases h; exact d
   |false=>cases h
  ·cases h
 | .ask b t e,r,h=>by
  cases b with
  |true=>exact⟨fun _=>oH (t:=t) h,fun h=>by cases h⟩
  |false=>exact⟨fun h=>(nomatch h),fun _=>oH (t:=e) h⟩
 | .side b t,r,h=>by
  cases b with
  |true=>exact And.intro rfl (oH (t:=t) h)
  |false=>cases h
inductive jE where
 |fix (i:Nat)
 |slot (i:Nat)
 |cap (i c:Nat)
 |cell (j c:Nat)
 |FA (j c k:Nat)
def AP:AV→Option Nat
 |.ptr id _ _ _ _=>some id
 |.vec _ id _ _ _=>some id
 |.map id=>some id
 |_=>none
def AQ(H:List ah)(vals:Nat→AV)(acc:List Nat):jE→Option Nat
 |.fix i=>some i
 |.slot i=>AP (vals i)
 | .cap i c=>match vals i with
  |.clo _ cs=>AP (cs.getD c .undef)
  |_=>none
 | .cell j c=>match H[acc.getD j 0]? with
  |some (.raw (.box cells))=>AP (cells.getD c .undef)
  |_=>none
 | .FA j c k=>match H[acc.getD j 0]? with
  | some (.raw (.box cells))=>match cells.getD c .undef with
   |.clo _ cs=>AP (cs.getD k .undef)
   |_=>none
  |_=>none
def j5(H:List ah)(vals:Nat→AV):List jE→List Nat→Option (List Nat)
 | [],acc=>some acc
 | p::ps,acc=>match AQ H vals acc p with
  |some i=>j5 H vals ps (acc++[i])
  |none=>none
structure tV where
 x:bO
 S:ng
 ps:List jE
structure be where
 key:Nat
 opens:List (Nat × List Kd)
 inv:ng
 ps:List jE
 outs:List tV
 st:List G→Option (Option Nat × List G)
def rJ(st:List G→Option (Option Nat × List G)):Nat→List G→Option (Nat × List G)
 |0,_=>none
 | n+1,d=>match st d with
  |some (none,d')=>rJ st n d'
  |some (some x,d')=>some (x,d')
  |none=>none
def bX(st:List G→Option (Option Nat × List G))(d:List G):Option (Nat × List G):=rJ st 1000000 d
def FB(r:Option (Nat × List G)):Nat:=match r with
 |some (x,_)=>x
 |none=>0
def FC(r:Option (Nat × List G)):List G:=match r with
 |some (_,d)=>d
 |none=>[]
def iq(m:Nat)(S:ng)(ps:List jE)(s:al):Option (Bool × List G) :=
 match j5 s.H (fun i=>s.fr.getD i .undef) ps []with
 |some ids=>Fx m S ids s
 |none=>none
theorem ln{m:Nat}{S:ng}{ps:List jE}{s:al}{d:List G}(h:iq m S ps s=some (true,d)):bl m s.den (aM S d).den:=by
 unfold iq at h;split at h
 ·exact Zs h
 ·cases h
def gy:List (Nat × List Kd)→al→al
 | [],s=>s
 | (i,ks)::r,s=>match eE 1000000 i with
  |true=>gy r (Fy (i-1000000) s)
  | false=>match isNil (s.fr.getD i .undef) with
   |true=>gy r (wH i ks s)
   |false=>gy r s
theorem l6{m:Nat}:∀(l:List (Nat × List Kd)) (s:al),bl m s.den (gy l s).den
 | [],s=>bl.refl _
 | (i,ks)::r,s=>by
  simp only[gy];split
  ·exact Zt.trans (l6 r _)
  ·split
   ·rename_i h
    exact(MZ h).trans (l6 r _)
   ·exact l6 r s
def rK(m:Nat):List tV→Nat→bO→al→Option (Bool × (Option Nat × List G))
 | [],_,_,_=>none
 | o::os,i,x,s=>match decide (x=o.x) with
  | true=>match iq m o.S o.ps s with
   |some (b,d)=>some (b,(some i,d))
   |none=>none
  |false=>rK m os (i+1) x s
def AR(m:Nat)(sp:be)(x:bO)(s:al):Option (Bool × (Option Nat × List G)) :=
 match x with
 | .normal=>match iq m sp.inv sp.ps s with
  |some (b,d)=>some (b,(none,d))
  |none=>none
 |x=>rK m sp.outs 0 x (gy sp.opens s)
theorem AS{m:Nat}:∀{os:List tV} {i:Nat} {x:bO} {s:al} {b:Bool} {k:Option Nat} {d:List G},rK m os i x s=some (b,(k,d)) →
  ∃ j o,os[j]? = some o∧k=some (i+j)∧x=o.x∧iq m o.S o.ps s=some (b,d)
 | [],_,_,_,_,_,_,h=>by cases h
 | o::os,i,x,s,b,k,d,h=>by
  simp only[rK]at h;split at h
  ·rename_i q
   split at h
   ·rename_i M d' hr
    cases h;exact⟨0,o,rfl,rfl,of_decide_eq_true q,hr⟩
   ·cases h
  ·obtain ⟨j, o', h1, B, I, J⟩ := AS h
   exact⟨j+1,o',by simpa using h1,by rw[B]; congr 1; omega,I,J⟩
section loops
variable {P:Program} {τ:ai} {L:LT} {m:Nat} {c:Code} {sp:be}
def cy(P:Program)(τ:ai)(L:LT)(m:Nat)(c:Code)(sp:be):Prop:=∀ d,(dN P τ L c (aM sp.inv d) .done).leaf (AR m sp)=sp.st d
theorem Nr(hm:P.follows .mixedOrders=true)(B:ak P τ)(I:ax P m L c)(hr:cy P τ L m c sp){d d':List G}{k:Option Nat}(h:sp.st d=some (k,d')) :
  (k = none ∧ cI P m c (aM sp.inv d).den .normal (aM sp.inv d').den) ∨
   ∃ j o,k=some j∧sp.outs[j]? = some o∧o.x≠.normal∧cI P m c (aM sp.inv d).den o.x (aM o.S d').den:=by
 rw[←hr d]at h;obtain⟨x,s1,h1,q⟩:=gh hm B c (aM sp.inv d) .done I (Q:=fun x s=>AR m sp x s=some (true,(k,d'))) (oH h);have q:AR m sp x s1=some (true,(k,d')):=q;unfold AR at q;split at q
 ·split at q
  ·rename_i b d2 J
   cases q;exact .inl ⟨rfl,te h1 (ln J)⟩
  ·cases q
 ·rename_i M
  obtain⟨j,o,g1,g2,rfl,g4⟩:=AS q;exact .inr ⟨j,o,by simpa using g2,g1,fun e=>M e,te h1 ((l6 sp.opens s1).trans (ln g4))⟩
theorem Ns(hm:P.follows .mixedOrders=true)(k:ak P τ)(q:ax P m L c)(hr:cy P τ L m c sp):∀(n:Nat) {d d':List G} {x:Nat},rJ sp.st n d=some (x,d') →
  ∃ o,sp.outs[x]? = some o∧kZ P m c (aM sp.inv d).den o.x (aM o.S d').den
 |0,_,_,_,h=>by cases h
 | n+1,d,d',x,h=>by
  simp only[rJ]at h;split at h
  ·rename_i d1 h1
   rcases Nr hm k q hr h1 with⟨_,B⟩|⟨_,_,hk,_⟩
   ·obtain ⟨o, g1, g2⟩ := Ns hm k q hr n h
    exact⟨o,g1,.next B g2⟩
   ·cases hk
  ·rename_i I d1 h1
   cases h;rcases Nr hm k q hr h1 with⟨hk,_⟩|⟨j,o,hk,g1,g2,g3⟩
   ·cases hk
   ·cases hk
    exact⟨o,g1,.stop g3 g2⟩
  ·cases h
def wQ(r:Option (Nat × List G)):List tV→Nat→Tree
 | [],_=>.fail
 | [o],_=>.done o.x (aM o.S (FC r))
 |o::os,i=>.ask (ab (FB r) i) (.done o.x (aM o.S (FC r))) (wQ r os (i+1))
theorem AT{x:Nat}{d:List G}{Q:bO→al→Prop}:∀{os:List tV} {i j:Nat} {o:tV},os[j]? = some o→x=i+j→(wQ (some (x,d)) os i).holds Q→Q o.x (aM o.S d)
 | [],_,_,_,h,_,_=>by simp at h
 | [o],i,j,o',h,q,k=>by
  cases j with
  | zero =>
   simp at h;subst h;exact k
  |succ j=>simp at h
 | o::o2::os,i,j,o',h,q,k=>by
  simp only[wQ,Tree.holds]at k;cases j with
  | zero =>
   simp at h;subst h;exact k.1 (by simp only[FB]; rw[q]; simp)
  | succ j =>
   refine AT (os:=o2::os) (i:=i+1) (j:=j) (by simpa using h) (by omega) (k.2 ?_);have:x≠i:=by omega
   exact VU.2 fun e=>this (bk e)
def FD(m:Nat)(sp:be)(s:al):Option Tree :=
 match iq m sp.inv sp.ps (gy sp.opens s)with
 |some (b,d)=>some (.side (tR b (bX sp.st d).isSome) (wQ (bX sp.st d) sp.outs 0))
 |none=>none
theorem Zu(hm:P.follows .mixedOrders=true)(I:ak P τ)(J:ax P m L c)(hr:cy P τ L m c sp){s:al}{t:Tree}(h:FD m sp s=some t):MD P m c s t:=by
 unfold FD at h;split at h
 case h_2=>cases h
 rename_i b d M;cases h;intro Q q;simp only[Tree.holds,tS,az]at q;obtain⟨⟨rfl,h1⟩,B⟩:=q;cases k:bX sp.st d with
 |none=>rw[k]at h1; cases h1
 | some r =>
  obtain⟨x,d'⟩:=r;obtain⟨o,g1,g2⟩:=Ns hm I J hr 1000000 k;exact⟨o.x,_,g2.pre ((l6 sp.opens s).trans (ln M)),AT g1 (di x).symm (by rw[k]at B; exact B)⟩
def LT.add(L:LT)(m:Nat)(sp:be):LT:=⟨fun k s=>match ab k sp.key with
 |true=>FD m sp s
 |false=>L.loops k s,L.pre,L.wE⟩
theorem p_:∀{c:Code} {k:Nat} {q:Code},(k,q)∈bJ c→∀ p,p∈bJ q→p∈bJ c
 | .seq a b,k,q,h,p,d=>by
  simp only[bJ,cQ]at h⊢;rcases h with h|h
  ·exact .inl (p_ h p d)
  ·exact .inr (p_ h p d)
 | .cond _ a b,k,q,h,p,d=>by
  simp only[bJ,cQ]at h⊢;rcases h with h|h
  ·exact .inl (p_ h p d)
  ·exact .inr (p_ h p d)
 | .block _ c,k,q,h,p,d=>by
  simp only[bJ]at h⊢;exact p_ h p d
 | .loop c,k,q,h,p,d=>by
  simp only[bJ]at h⊢;split at h
  ·rename_i i hi
   rcases bN.1 h with e|h
   ·cases e
    exact dw _ d
   ·exact dw _ (p_ h p d)
  ·exact p_ h p d
 |.skip,_,_,h,_,_=>by simp[bJ]at h
 |.region ..,_,_,h,_,_=>by simp[bJ]at h
 |.exit _,_,_,h,_,_=>by simp[bJ]at h
 |.ret,_,_,h,_,_=>by simp[bJ]at h
 |.rangeFunc ..,_,_,h,_,_=>by simp[bJ]at h
 |.scope _,_,_,h,_,_=>by simp[bJ]at h
 |.label _,_,_,h,_,_=>by simp[bJ]at h
 |.goto _,_,_,h,_,_=>by simp[bJ]at h
 |.refuse _,_,_,h,_,_=>by simp[bJ]at h
theorem qa:∀{c:Code} {k:Nat} {q:Code},(k,q)∈bJ c→∀ p,p∈bE q→p∈bE c
 | .seq a b,k,q,h,p,d=>by
  simp only[bJ,bE,cQ]at h⊢;rcases h with h|h
  ·exact .inl (qa h p d)
  ·exact .inr (.inr (qa h p d))
 | .cond _ a b,k,q,h,p,d=>by
  simp only[bJ,bE,cQ]at h⊢;rcases h with h|h
  ·exact .inl (qa h p d)
  ·exact .inr (qa h p d)
 | .block _ c,k,q,h,p,d=>by
  simp only[bJ,bE]at h⊢;exact qa h p d
 | .loop c,k,q,h,p,d=>by
  simp only[bJ,bE]at h⊢;split at h
  ·rename_i i hi
   rcases bN.1 h with e|h
   ·cases e
    exact d
   ·exact qa h p d
  ·exact qa h p d
 |.skip,_,_,h,_,_=>by simp[bJ]at h
 |.region ..,_,_,h,_,_=>by simp[bJ]at h
 |.exit _,_,_,h,_,_=>by simp[bJ]at h
 |.ret,_,_,h,_,_=>by simp[bJ]at h
 |.rangeFunc ..,_,_,h,_,_=>by simp[bJ]at h
 |.scope _,_,_,h,_,_=>by simp[bJ]at h
 |.label _,_,_,h,_,_=>by simp[bJ]at h
 |.goto _,_,_,h,_,_=>by simp[bJ]at h
 |.refuse _,_,_,h,_,_=>by simp[bJ]at h
theorem qb:∀{c:Code} {k:Nat} {q:Code},(k,q)∈bE c→∀ p,p∈bJ q→p∈bJ c
 | .seq a b,k,q,h,p,d=>by
  simp only[bJ,bE,cQ]at h⊢;rcases h with h|h|h
  ·exact .inl (qb h p d)
  ·right
   split at h
   ·rcases bN.1 h with e | h
    ·cases e
     exact d
    ·cases h
   ·cases h
  ·exact .inr (qb h p d)
 | .cond _ a b,k,q,h,p,d=>by
  simp only[bJ,bE,cQ]at h⊢;rcases h with h|h
  ·exact .inl (qb h p d)
  ·exact .inr (qb h p d)
 | .block _ c,k,q,h,p,d=>by
  simp only[bJ,bE]at h⊢;exact qb h p d
 | .loop c,k,q,h,p,d=>by
  simp only[bE]at h;have:=qb h p d;simp only[bJ];split
  ·exact dw _ this
  ·exact this
 |.skip,_,_,h,_,_=>by simp[bE]at h
 |.region ..,_,_,h,_,_=>by simp[bE]at h
 |.exit _,_,_,h,_,_=>by simp[bE]at h
 |.ret,_,_,h,_,_=>by simp[bE]at h
 |.rangeFunc ..,_,_,h,_,_=>by simp[bE]at h
 |.scope _,_,_,h,_,_=>by simp[bE]at h
 |.label _,_,_,h,_,_=>by simp[bE]at h
 |.goto _,_,_,h,_,_=>by simp[bE]at h
 |.refuse _,_,_,h,_,_=>by simp[bE]at h
theorem qc:∀{c:Code} {k:Nat} {q:Code},(k,q)∈bE c→∀ p,p∈bE q→p∈bE c
 | .seq a b,k,q,h,p,d=>by
  simp only[bE,cQ]at h⊢;rcases h with h|h|h
  ·exact .inl (qc h p d)
  ·right
   right;split at h
   ·rcases bN.1 h with e | h
    ·cases e
     exact d
    ·cases h
   ·cases h
  ·exact .inr (.inr (qc h p d))
 | .cond _ a b,k,q,h,p,d=>by
  simp only[bE,cQ]at h⊢;rcases h with h|h
  ·exact .inl (qc h p d)
  ·exact .inr (qc h p d)
 | .block _ c,k,q,h,p,d=>by
  simp only[bE]at h⊢;exact qc h p d
 | .loop c,k,q,h,p,d=>by
  simp only[bE]at h⊢;exact qc h p d
 |.skip,_,_,h,_,_=>by simp[bE]at h
 |.region ..,_,_,h,_,_=>by simp[bE]at h
 |.exit _,_,_,h,_,_=>by simp[bE]at h
 |.ret,_,_,h,_,_=>by simp[bE]at h
 |.rangeFunc ..,_,_,h,_,_=>by simp[bE]at h
 |.scope _,_,_,h,_,_=>by simp[bE]at h
 |.label _,_,_,h,_,_=>by simp[bE]at h
 |.goto _,_,_,h,_,_=>by simp[bE]at h
 |.refuse _,_,_,h,_,_=>by simp[bE]at h
def aQ(fn:Func):Code:=match fn.body with
 |some c=>c
 |none=>.skip
theorem Zv{fn:Func} (hn:nodupB ((bJ (aQ fn)).map (·.1))=true) {k:Nat} {d:Code} (h:(k,d)∈bJ (aQ fn)):d=cB fn k:=by
 have key:∀(l:List (Nat × Code)),(l.map (·.1)).Nodup→(k,d)∈l→l.find? (fun p=>ab p.1 k)=some (k,d):=by
  intro l
  induction l with
  |nil=>intro _ h; cases h
  | cons p l B =>
   intro q hm;simp only[dj,lL]at q;rcases bN.1 hm with rfl|hm
   ·simp
   ·have aA:p.1≠k:=by
     intro e;exact q.1 (cF.2 ⟨(k,d),hm,e.symm⟩)
    have:ab p.1 k=false:=VU.2 fun e=>aA (bk e);rw[al3 (by simp[this])];exact B q.2 hm
 unfold cB;unfold aQ at hn h;split
 ·rename_i c hb
  rw[hb]at hn h;simp only[]at hn h;rw[key _ (tT hn) h]
 ·rename_i hb
  rw[hb]at h;simp[bJ]at h
theorem ax.add(hm:P.follows .mixedOrders=true)(B:ak P τ){fn:Func} (hn:nodupB ((bJ (aQ fn)).map (·.1))=true) (q:ax P m L (aQ fn)) (hr:cy P τ L m (cB fn sp.key) sp) :
  ax P m (L.add m sp) (aQ fn):=by
 refine⟨fun k I hk s t d=>?_,q.2⟩;simp only[LT.add]at d;split at d
 ·rename_i e
  have e:=bk e;subst e;have J:=Zv hn hk;rw[←J]at hr;exact Zu hm B (q.sub (p_ hk) (qa hk)) hr d
 ·exact q.1 k I hk s t d
def cutAt(fn:Func)(k:Nat):Code:=match fn.body with
 | some c=>match (bE c).find? fun p=>ab p.1 k with
  |some (_,b)=>b
  |none=>.skip
 |none=>.skip
def lp(k:Nat):List (Nat × Code)→Bool
 | []=>true
 | p::l=>match ab p.1 k with
  |true => !l.any (fun q=>ab q.1 k)
  |false=>lp k l
theorem Nt{k:Nat}{B:Code}:∀{l:List (Nat × Code)},lp k l=true→(k,B)∈l→l.find? (fun p=>ab p.1 k)=some (k,B)
 | [],_,h=>by cases h
 | p::l,ho,hm=>by
  simp only[lp]at ho;cases d:ab p.1 k with
  | true =>
   rw[d]at ho;simp only[qL]at ho;rcases bN.1 hm with rfl|hm
   ·rw[List.find?_cons_of_pos (by simp)]
   ·have : l.any (fun q => ab q.1 k) = true := iQ.2 ⟨(k, B), hm, by simp⟩
    rw[this]at ho;cases ho
  | false =>
   rw[d]at ho;rcases bN.1 hm with rfl|hm
   ·simp at d
   ·rw [al3 (by simp [d])]
    exact Nt ho hm
theorem FE{fn:Func}{k:Nat}{d:Code} (hn:lp k (bE (aQ fn))=true) (h:(k,d)∈bE (aQ fn)):d=cutAt fn k:=by
 unfold cutAt;unfold aQ at hn h;split
 ·rename_i c hb
  rw[hb]at hn h;simp only[]at hn h;rw[Nt hn h]
 ·rename_i hb
  rw[hb]at h;simp[bE]at h
def cf(r:Option (Option Nat × List G)):Option (Nat × List G):=match r with
 |some (some x,d)=>some (x,d)
 |_=>none
def wR(m:Nat)(sp:be)(s:al):Option Tree :=
 match iq m sp.inv sp.ps (gy sp.opens s)with
 |some (b,d)=>some (.side (tR b (cf (sp.st d)).isSome) (wQ (cf (sp.st d)) sp.outs 0))
 |none=>none
def fm(P:Program)(τ:ai)(L:LT)(m:Nat)(c:Code)(sp:be):Prop:=∀ d,(dN P τ L c (aM sp.inv d) .done).leaf (rK m sp.outs 0)=sp.st d
theorem Zw(hm:P.follows .mixedOrders=true)(M:ak P τ)(N:ax P m L c)(hr:fm P τ L m c sp){s:al}{t:Tree}(h:wR m sp s=some t):Aw P m c s t:=by
 unfold wR at h;split at h
 case h_2=>cases h
 rename_i b d O;cases h;intro Q B;simp only[Tree.holds,tS,az]at B;obtain⟨⟨rfl,h1⟩,I⟩:=B;cases q:sp.st d with
 |none=>rw[q]at h1; cases h1
 | some r =>
  obtain⟨k,d'⟩:=r;cases k with
  |none=>rw[q]at h1; cases h1
  | some i =>
   rw[←hr d]at q;obtain⟨x,s1,g1,g2⟩:=gh hm M c (aM sp.inv d) .done N (Q:=fun x s=>rK m sp.outs 0 x s=some (true,(some i,d'))) (oH q);obtain⟨j,o,U,J,V,W⟩:=AS g2;simp only[aY,di]at J;subst J;rw[hr d]at q;rw[q]at I;refine⟨o.x,(aM o.S d'),?_,AT U (di i).symm I⟩;rw[←V];exact td ((l6 sp.opens s).trans (ln O)) (te g1 (ln W))
def LT.eP(L:LT)(m:Nat)(sp:be):LT:=⟨L.loops,L.pre,fun k s=>match ab k sp.key with
 |true=>wR m sp s
 |false=>L.wE k s⟩
theorem ax.eP(hm:P.follows .mixedOrders=true)(B:ak P τ){fn:Func} (hn:lp sp.key (bE (aQ fn))=true) (q:ax P m L (aQ fn)) (hr:fm P τ L m (cutAt fn sp.key) sp) :
  ax P m (L.eP m sp) (aQ fn):=by
 refine⟨q.1,q.2.1,fun k I hk s t d=>?_⟩;simp only[LT.eP]at d;split at d
 ·rename_i e
  have e:=bk e;subst e;have J:=FE hn hk;rw[←J]at hr;exact Zw hm B (q.sub (qb hk) (qc hk)) hr d
 ·exact q.2.2 k I hk s t d
end loops
structure aB where
 f:FuncId
 args:List Sh
 bV:List cr
 ps:List jE
 res:List Sh
 gk:List cr
 Zx:List jE
 opens:List (Nat × List Kd)
 F:List G→Option (List G)
def aB.args0(sp:aB)(d:List G):List AV:=fB (cC sp.bV d) sp.args (eO (nf sp.bV) d)
def aB.H0(sp:aB)(d:List G):List ah:=cN (cC sp.bV d) sp.bV d
def aB.out(sp:aB)(r:List G):AV:=c9 (fB (cC sp.gk r) sp.res (eO (nf sp.gk) r))
def aB.H1(sp:aB)(r:List G):List ah:=cN (cC sp.gk r) sp.gk r
def wS(P:Program)(rs:List ResultVar)(sp:aB)(x:bO)(s:al):Option (Bool × List G) :=
 match x with
 |.exit _=>none
 | _=>(fun s=>match gL P s.den rs with
  |none=>none
  | some vs=>match j5 s.H (fun i=>vs.getD i .undef) sp.Zx [] with
   |none=>none
   | some ids=>match nodupB ids&&oG s.H 0 sp.bV.length ids sp.gk with
    |false=>none
    | true=>match j0 s.H (bL s.H ids) (je ids) sp.gk ids,eX s.H (bL s.H ids) (je ids) sp.res vs with
     |some (b,g),some (d,k)=>some (b&&d,g++k)
     |_,_=>none) (gy sp.opens s)
def aV(P:Program)(τ:ai)(L:LT)(fn:Func)(sp:aB):Prop :=
 ∀ d,(dN P τ L (aQ fn) ⟨iY (sp.args0 d) fn.ntmps,sp.H0 d⟩ .done).leaf (wS P fn.results.toList sp)=sp.F d
def rL(os:List cr):Bool:=os.all fun o=>ab o.up 0
theorem Nu:∀{os:List cr} (lens:dm) (d:List G),rL os=true→zV (aj (cN lens os d))
 | [],_,_,_=>by intro o ho; simp[cN,aj]at ho
 | o::os,lens,d,h=>by
  simp only[rL,lJ,az]at h;intro x k;simp only[cN,aj,dj,bN]at k;rcases k with rfl|k
  ·cases o with
   | vec ks u =>
    have:u=0:=bk h.1;subst this;rfl
   |box _=>rfl
   |map _ _=>rfl
   |fh _ _ _=>rfl
   |aX _ _ _=>rfl
   |mm _ _ _ _=>rfl
  ·exact Nu lens _ h.2 x k
theorem FF(lens:dm):∀(os:List cr) (d:List G),(cN lens os d).length=os.length
 | [],_=>rfl
 |_::os,d=>by simp[cN,FF lens os]
theorem Zy{P:Program}{sp:aB}{fn:Func}(hf:P.funcs[sp.f]? = some fn)(hb:fn.body.isSome=true)
  (hfr:rL sp.bV=true) {d r:List G} {x:bO} {M:al} (h1:cI P sp.bV.length (aQ fn) (al.den ⟨iY (sp.args0 d) fn.ntmps,sp.H0 d⟩) x M.den) (k:wS P fn.results.toList sp x M=some (true,r)) :
  dC P sp.f (sp.args0 d) (aj (sp.H0 d)) (sp.out r) (aj (sp.H1 r)):=by
 have hbody:fn.body=some (aQ fn):=by
  unfold aQ;cases N:fn.body with
  |none=>rw[N]at hb; cases hb
  |some c=>rfl
 have h1:=te h1 (l6 sp.opens M);generalize hs':gy sp.opens M=s' at h1;have hxx:(x=.normal∨x=.ret)∧∃ vs ids g q,gL P s'.den fn.results.toList=some vs∧(nodupB ids&&oG s'.H 0 sp.bV.length ids sp.gk)=true ∧
   j0 s'.H (bL s'.H ids) (je ids) sp.gk ids=some (true,g)∧eX s'.H (bL s'.H ids) (je ids) sp.res vs=some (true,q)∧g++q=r:=by
  have k:wS P fn.results.toList sp x M=some (true,r):=k;unfold wS at k;split at k
  ·cases k
  ·rename_i N
   simp only[hs']at k;refine⟨by cases x with|normal=>exact .inl rfl|ret=>exact .inr rfl|exit i=>exact(N i rfl).elim,?_⟩;split at k
   ·cases k
   ·rename_i vs hvs
    split at k
    ·cases k
    ·rename_i ids hids
     split at k
     ·cases k
     ·rename_i I
      split at k
      ·rename_i b g b' q U q2
       simp only[aY,a8,az]at k;obtain⟨⟨rfl,rfl⟩,rfl⟩:=k;exact⟨vs,ids,g,q,hvs,I,U,q2,rfl⟩
      ·cases k
 obtain⟨N,vs,ids,g,q,hvs,I,U,q2,rfl⟩:=hxx;simp only[az]at I;intro E cargs hH HE hargs;refine Et hf hbody ?_;have hfe:=th HE;have hargs0:=ox hfe _ hargs;have hrel:bQ ⟨iY (sp.args0 d) fn.ntmps,aj (sp.H0 d)⟩ { E with X:=⟨E.X.x,fun _=>False,E.X.r⟩ } { tmps:=cargs++Array.replicate (fn.ntmps-cargs.size) undef,defers:=[] }:=by
  refine⟨hH,?_,qU _ _,HE.cR hfe⟩;simp only[iY,Array.toList_append,Array.toList_replicate];refine kW hargs0 ?_;have:=gG hargs;have e:(sp.args0 d).length=cargs.size:=by simpa using this
  rw[e];have:=vU (E:={ E with X:=⟨E.X.x,fun _=>False,E.X.r⟩ }) (List.replicate (fn.ntmps-cargs.size) undef);simpa using this
 refine wpIn_mono (h1 none (Ep _) { E with X:=⟨E.X.x,fun _=>False,E.X.r⟩ } _ hrel) fun e a1 w0 ⟨h3,loc',X',J,V⟩=>?_;refine⟨by subst h3; rcases N with rfl|rfl; exact .inl rfl; exact .inr rfl,X',J.defers,fun W k1 k2 k3=>?_⟩;obtain⟨J,V⟩:=Eu HE J V k1 k2 k3;obtain⟨us,g1,g2⟩:=zX J fn.results.toList vs hvs;have hres:(results fn a1.tmps).run P W=.ok (if h:us.toArray.size=1 then us.toArray[0] else .tuple us.toArray) W:=by
  rw[zY];simp only[Sem.run_bind];rw[Array.mapM_eq_mapM_toList,Sem.run_map,g1];rfl
 generalize O:({ w:=W,H:=s'.den.H,loc:=loc',X:=E.X.re X'.r }:Env)=B at J V g1 g2;have hH1:B.H=aj s'.H:=by rw[←O]; rfl
 obtain⟨hK,hHR⟩:=No hH1 J.heap (tT I.1) U q;obtain⟨p0,p1,p2,p3⟩:=wO U q (cC sp.gk (g++q));have hd:eO (nf sp.gk) (g++q)=q:=by rw[←p0]; exact p9 g q
 have hS:=wN hK q2 [];rw[dh]at hS;have hrl:=hS.2.2.2 us g2;have hleM:=Np (m:=sp.bV.length) hH1 hK ⟨rfl,rfl⟩ (Nk B _ ids) I.2 (fun j hj=>by
  obtain⟨r1,o',r2,_⟩:=AN I.2 j hj;obtain⟨i,o,g1,rest1,t1,t2,t3,t4,t5,t6⟩:=p3 j o' r2;have hat:=il (e:=bL s'.H ids) (j:=j) (aK t1);rw[show (bL s'.H ids).ids=ids from rfl,t1]at hat;cases hat;exact⟨o,o',t2,r2,t5⟩) (fun b=>Nl)
 have hle:E.le (jd B (aj (cN (cC sp.gk (g++q)) sp.gk (g++q))) ids) :=
  (V.trans hleM).full (by rw[←O]; exact⟨rfl,rfl⟩) (by rw[hH,fa]; simp only[aB.H0,FF]; exact aD _) (by rw[hH]; exact Nu _ _ hfr)
 have hw1:B.w=W:=by rw[←O]
 have hX1:∀ r,B.X.re r=E.X.re r:=fun r=>by rw[←O]; rfl
 refine⟨_,hres,_,_,_,rfl,⟨rfl,rfl⟩,ids.map (fun i=>B.loc.getD i none),oF B (aj (cN (cC sp.gk (g++q)) sp.gk (g++q))),?_,?_,?_⟩
 ·have := MW hrl
  simp only[aB.out,aB.H1,hd];simpa only[jd,hw1,hX1]using this
 ·simpa only[jd,hw1,hX1,aB.H1]using hHR
 ·simpa only[jd,hw1,hX1,aB.H1]using hle
theorem Zz{P:Program}{τ:ai}{L:LT}(hm:P.follows .mixedOrders=true)(q:ak P τ){sp:aB}{fn:Func}(B:P.funcs[sp.f]? = some fn)(hb:fn.body.isSome=true)
  (I:ax P sp.bV.length L (aQ fn)) (J:aV P τ L fn sp) (k:rL sp.bV=true) {d r:List G} (h:sp.F d=some r) :
  dC P sp.f (sp.args0 d) (aj (sp.H0 d)) (sp.out r) (aj (sp.H1 r)):=by
 rw[←J d]at h;obtain⟨x,N,h1,M⟩:=gh hm q (aQ fn) _ .done I (Q:=fun x s=>wS P fn.results.toList sp x s=some (true,r)) (oH h);exact Zy B hb k h1 M
abbrev aT(P:Program)(sp:aB):Prop:=∀ d r,sp.F d=some r→dC P sp.f (sp.args0 d) (aj (sp.H0 d)) (sp.out r) (aj (sp.H1 r))
theorem tW{P:Program}{τ:ai}{L:LT}(hm:P.follows .mixedOrders=true)(k:ak P τ){sp:aB}{fn:Func}(q:P.funcs[sp.f]? = some fn)(hb:fn.body.isSome=true)
  (B:ax P sp.bV.length L (aQ fn)) (I:aV P τ L fn sp) (d:rL sp.bV=true):aT P sp:=fun _ _ h=>Zz hm k q hb B I d h
def wT:fl→Bool
 |.int _ | .str | .bool | .list _ | .wM _ | .row _ | .cptr _ | .nil | .any | .Na _ | .fn _ | .addr | .Fq=>true
 |_=>false
def AU:Sh→Bool
 |.s a=>wT a
 |.clo _ caps=>caps.all wT
theorem Nv{lens:dm}{a:fl}{d:List G}(h:wT a=true):(fb lens a d).closed=true:=by
 cases a<;>simp only[wT]at h<;>first
  |(cases h; done)
  |rfl
  |(simp only[fb,AV.closed,gb]; done)
theorem Nw{lens:dm}:∀{as:List fl} {d:List G},(as.all wT)=true→AV.br (jD lens as d)=true
 | [],_,_=>rfl
 | a::as,d,h=>by
  simp only[lJ,az]at h;simp only[jD,AV.br,Nv h.1,Nw h.2,mL]
theorem AW{lens:dm}:∀{as:List Sh} {d:List G},(as.all AU)=true→AV.br (fB lens as d)=true
 | [],_,_=>rfl
 | a::as,d,h=>by
  simp only[lJ,az]at h;simp only[fB,AV.br,AW h.2,eS];cases a with
  |s a=>exact Nv h.1
  |clo f caps=>simp only[pZ,AV.closed]; exact Nw h.1
theorem ZA{vs:List AV}(h:AV.br vs=true):(c9 vs).closed=true:=by
 cases vs with
 |nil=>rfl
 | cons v vs =>
  cases vs with
  |nil=>simpa[c9,AV.br]using h
  |cons v2 vs=>simpa only[c9,AV.closed]using h
def jf(E:Env):Env:={ w:=E.w,H:=[],loc:=[],X:=(E.X.or E.own).re dY }
theorem ZB{E:Env}(x:Nat):¬ (jf E).own x:=by rintro(⟨id,c,hid⟩|⟨l,k,c,hk⟩); simp[jf]at hid; simp[jf,dY]at hk
theorem Nx{E:Env}:E.bH (jf E):=⟨fun b hb=>⟨⟨hb.1,ZB b,fun d=>d.elim hb.2.2 hb.2.1⟩,rfl⟩⟩
theorem ZC{E:Env}:(jf E).bH E:=⟨fun b hb=>⟨⟨hb.1,fun ho=>hb.2.2 (Or.inr ho),fun d=>hb.2.2 (Or.inl d)⟩,rfl⟩⟩
theorem ZD{E:Env}(HE:aq E):aq (jf E):=by
 refine⟨rfl,?_,?_,?_,?_,HE.fH.bH Nx,fun l k l' k' b m n hk=>by simp[jf,dY]at hk,fun i b m l k n hi=>by simp[jf]at hi,fun l k b m hk=>by simp[jf,dY]at hk,fun i j o o' l hi=>by simp[jf]at hi,fun l _ k q hk=>by simp[jf,dY]at hk⟩
 ·intro i j b m n hi; simp[jf]at hi
 ·intro i b m hi; simp[jf]at hi
 ·rintro b (d | ho)
  ·exact HE.X b d
  ·exact(HE.zk ho).1
 ·intro i o hi; simp[jf]at hi
theorem ZE{E:Env}(HE:aq E):jb [] (bL [] []) (fun _=>false) [] (jf E) (jf E):=by
 exact { hH:=rfl,HE:=ZD HE,free:=fun _ h=>(nomatch h),dp:=⟨fun b hb=>⟨hb,rfl⟩,rfl,fun j d=>absurd d (Nat.not_lt_zero _),fun _ _ _ _ _=>rfl⟩,obj:=fun j o ho=>by simp at ho }
theorem ZF{E:Env}(HE:aq E):∀{d:List Sh} {as:List AV} {g:List G},(d.all AU)=true→eX [] (bL [] []) (fun _=>false) d as=some (true,g)→∀(rest:List G) (cs:List Value),af E as cs →
  af E (fB [] d (g++rest)) cs:=by
 have O:∀{sh:fl} {a:AV} {b:Bool} {g:List G},gj [] (bL [] []) (fun _=>false) sh a=some (b,g)→a.closed=true∨sh=.any:=by
  intro sh a b g h;unfold gj at h;split at h
  ·exact .inl rfl
  ·exact .inl rfl
  ·exact .inl rfl
  ·split at h
   ·rename_i ha
    left;unfold oE at ha;split at ha<;>first|rfl|cases ha
   ·split at h
    ·simp at h
    ·cases h
  ·split at h
   ·rename_i ha
    left;rw[M1 ha];simp only[AV.closed,gb]
   ·cases h
  ·exact .inl rfl
  ·simp at h
  ·exact .inl rfl
  ·exact .inr rfl
  ·exact .inl rfl
  ·simp at h
  ·simp at h
  ·simp at h
  ·simp at h
  ·split at h
   ·rename_i ha
    left;unfold oE at ha;split at ha<;>first|rfl|cases ha
   ·split at h
    ·simp at h
    ·cases h
  ·simp at h
  ·exact .inl rfl
  ·rename_i f js f' vs
   split at h
   ·rename_i q
    left;cases js with
    | nil=>cases vs with
     |nil=>rfl
     |cons _ _=>simp[lj]at q
    | cons j js=>cases vs with
     |nil=>simp[lj]at q
     |cons v vs=>cases v<;>simp[lj]at q
   ·cases h
  ·exact .inl rfl
  ·cases h
 have V:∀{d:List fl} {as:List AV} {b:Bool} {g:List G},fU [] (bL [] []) (fun _=>false) d as=some (b,g)→∀(cs:List Value),af E as cs →
   ∃ k,fU [] (bL [] []) (fun _=>false) d k=some (b,g)∧AV.br k=true∧af E k cs:=by
  intro d
  induction d with
  | nil =>
   intro as b g h cs hr;cases as with
   |nil=>exact⟨[],h,rfl,hr⟩
   |cons _ _=>simp[fU]at h
  | cons sh d N =>
   intro as b g h cs hr;cases as with
   |nil=>simp[fU]at h
   | cons a as =>
    cases cs with
    |nil=>simp[af]at hr
    | cons c cs =>
     simp only[af]at hr;simp only[fU]at h;split at h
     ·rename_i b1 g1 b2 g2 h1 M
      cases h;obtain⟨k,B,I,J⟩:=N M cs hr.2;rcases O h1 with q|rfl
      ·exact⟨a::k,by simp only[fU,h1,B],by simp only[AV.br,q,I,mL],by simp only[af]; exact⟨hr.1,J⟩⟩
      ·have e:gj [] (bL [] []) (fun _=>false) .any .undef=some (b1,g1):=by
        have:gj [] (bL [] []) (fun _=>false) .any a=some (true,[]):=by cases a<;>rfl
        rw[this]at h1;exact h1
       exact⟨.undef::k,by simp only[fU,e,B],by simp only[AV.br,I]; rfl,by simp only[af,rel]; exact⟨trivial,J⟩⟩
     ·cases h
 have W:∀{d:List Sh} {as:List AV} {b:Bool} {g:List G},eX [] (bL [] []) (fun _=>false) d as=some (b,g)→∀(cs:List Value),af E as cs →
   ∃ k,eX [] (bL [] []) (fun _=>false) d k=some (b,g)∧AV.br k=true∧af E k cs:=by
  intro d
  induction d with
  | nil =>
   intro as b g h cs hr;cases as with
   |nil=>exact⟨[],h,rfl,hr⟩
   |cons _ _=>simp[eX]at h
  | cons sh d N =>
   intro as b g h cs hr;cases as with
   |nil=>simp[eX]at h
   | cons a as =>
    cases cs with
    |nil=>simp[af]at hr
    | cons c cs =>
     simp only[af]at hr;simp only[eX]at h;split at h
     ·rename_i b1 g1 b2 g2 h1 M
      cases h;obtain⟨k,B,I,J⟩:=N M cs hr.2;cases sh with
      | s sh0 =>
       simp only[lk]at h1;rcases O h1 with q|rfl
       ·exact⟨a::k,by simp only[eX,lk,h1,B],by simp only[AV.br,q,I,mL],by simp only[af]; exact⟨hr.1,J⟩⟩
       ·have e:gj [] (bL [] []) (fun _=>false) .any .undef=some (b1,g1):=by
         have:gj [] (bL [] []) (fun _=>false) .any a=some (true,[]):=by cases a<;>rfl
         rw[this]at h1;exact h1
        exact⟨.undef::k,by simp only[eX,lk,e,B],by simp only[AV.br,I]; rfl,by simp only[af,rel]; exact⟨trivial,J⟩⟩
      | clo f caps =>
       cases a<;>simp only[lk]at h1<;>try cases h1
       rename_i f' vs;split at h1
       ·rename_i hf
        subst hf;have U:=hr.1;simp only[rel]at U;obtain⟨us,e1,e2⟩:=U;obtain⟨vs',l1,l2,l3⟩:=V h1 _ e2;exact⟨.clo f vs'::k,by simp only[eX,lk,if_true,l1,B],by simp only[AV.br,AV.closed,l2,I,mL],
         by simp only[af,rel]; exact⟨⟨us,e1,l3⟩,J⟩⟩
       ·cases h1
     ·cases h
 intro d as g hcl h rest cs hr;obtain⟨k,h1,M,h3⟩:=W h cs hr;have h4:=pz Nx k M h3;have h5:=(wN (ZE HE) h1 rest).2.2.2 cs h4;exact pz ZC _ (AW hcl) h5
def ai.bh(τ:ai)(sp:aB):ai where
 pf g:=match ab g sp.f with
  |true=>true
  |false=>τ.pf g
 T g as:=match ab g sp.f with
  | true=>match eX [] (bL [] []) (fun _=>false) sp.args as with
   |some (b,d)=>some (tR b (sp.F d).isSome,c9 (fB [] sp.res ((sp.F d).getD [])))
   |none=>τ.T g as
  |false=>τ.T g as
 W:=τ.W
 C:=τ.C
 I:=τ.I
 N:=τ.N
 U:=τ.U
def FG(sp:aB):Bool:=(sp.args.all AU)&&((sp.res.all AU)&&(sp.bV.isEmpty&&sp.gk.isEmpty))
theorem ak.bh{P:Program}{τ:ai}(h:ak P τ){sp:aB}(hb:fw P sp.f=true)(B:FG sp=true)
  (hc:∀ d r,sp.F d=some r→dC P sp.f (sp.args0 d) (aj (sp.H0 d)) (sp.out r) (aj (sp.H1 r))):ak P (τ.bh sp):=by
 simp only[FG,az,List.isEmpty_iff]at B;obtain⟨q,O,U,V⟩:=B;refine⟨fun g as b v hg k=>?_,h.W,h.C,h.I,h.F⟩;simp only[ai.bh]at hg;split at hg
 ·rename_i e
  have e:=bk e;subst e;split at hg
  ·rename_i b' d hr
   simp only[aY,a8]at hg;obtain⟨h1,rfl⟩:=hg;subst h1;simp only[tS]at k;obtain⟨rfl,J⟩:=k;refine⟨hb,?_⟩;cases hF:sp.F d with
   |none=>rw[hF]at J; cases J
   | some r =>
    have M:=hc d r hF;simp only[aB.args0,aB.H0,aB.out,aB.H1,U,V,cN,cC,nf,eO]at M;have:=XQ M (AW q) (ZA (AW O));intro H E cargs hH HE N;exact this H E cargs hH HE (by
     have:=ZF HE q hr [] _ N
     rwa [dh]at this)
  ·exact h.T _ as b v hg k
 ·exact h.T g as b v hg k
end Go.AL

namespace Go.AL
open Go
variable [Dr]
def Kd.cH:List Kd→Bool
 | []=>true
 |.list _::_=>false
 |_::ks=>Kd.cH ks
def Ct.bK:Ct→Bool
 |.one k=>Kd.cH [k]
 |.agg ks=>Kd.cH ks
def tX:fl→Bool
 |.row ks=>Kd.cH ks
 |.list _ | .wM _ | .cptr _=>false
 |_=>true
def Ny:Sh→Bool
 |.s a=>tX a
 |.clo _ caps=>caps.all tX
def Nz:cr→Bool
 |.vec ks _=>Kd.cH ks
 |.box cells=>cells.all tX
 |.map K V=>K.bK&&V.bK
 |.fh _ _ _=>true
 |.aX _ _ _=>false
 |.mm _ K KI VI=>K.bK&&(KI.bK&&VI.bK)
def kE(sp:aB):Bool:=(sp.res.all Ny)&&(sp.gk.all Nz)
theorem AX:∀{ks:List Kd} (r:List G),Kd.cH ks=true→AV.cH (aH ks r)=true
 | [],_,_=>rfl
 |.list _::_,_,h=>by simp[Kd.cH]at h
 | .int _::ks,r,h | .str::ks,r,h | .bool::ks,r,h=>by
  simp only[Kd.cH]at h;simp only[aH,AV.cH,AX r.tail h,eS];rfl
theorem Ct.wU{K:Ct}(r:List G)(h:K.bK=true):(K.av r).bK=true:=by
 cases K with
 | one k =>
  simp only[Ct.bK]at h;cases k<;>first
   |rfl
   |(simp[Kd.cH]at h; done)
 |agg ks=>simp only[Ct.av,AV.bK]; exact AX r h
theorem NA:∀ js:List Nat,AV.cH (rI js)=true
 | []=>rfl
 |j::js=>by simp only[rI,AV.cH,NA js,eS]; rfl
theorem NB{lens:dm}{a:fl}{d:List G}(h:tX a=true):(fb lens a d).bK=true:=by
 cases a<;>simp only[tX]at h<;>first
  |(cases h; done)
  |(simp only[fb,AV.bK]; exact AX _ h)
  |rfl
  |(simp only[fb,AV.bK]; exact NA _)
theorem FH{lens:dm}:∀{as:List fl} {d:List G},(as.all tX)=true→AV.cH (jD lens as d)=true
 | [],_,_=>rfl
 | a::as,d,h=>by
  simp only[lJ,az]at h;simp only[jD,AV.cH,NB h.1,FH h.2,mL]
theorem NC{lens:dm}:∀{as:List Sh} {d:List G},(as.all Ny)=true→AV.cH (fB lens as d)=true
 | [],_,_=>rfl
 | a::as,d,h=>by
  simp only[lJ,az]at h;simp only[fB,AV.cH,NC h.2,eS];cases a with
  |s a=>exact NB h.1
  |clo f caps=>simp only[pZ,AV.bK]; exact FH h.1
theorem ZG{vs:List AV}(h:AV.cH vs=true):(c9 vs).bK=true:=by
 cases vs with
 |nil=>rfl
 | cons v vs =>
  cases vs with
  |nil=>simpa[c9,AV.cH]using h
  |cons v2 vs=>simpa only[c9,AV.bK]using h
theorem ND{lens:dm}:∀{os:List cr} {d:List G},(os.all Nz)=true→((aj (cN lens os d)).all ad.bK)=true
 | [],_,_=>rfl
 | o::os,d,h=>by
  simp only[lJ,az]at h;have k:=ND (lens:=lens) (d:=eO o.sz d) h.2;simp only[cN,aj,dj,lJ,az];refine⟨?_,by simpa only[aj]using k⟩;cases o with
  | vec ks u =>
   simp only[fC,ah.den,ad.bK,dB,cF];rintro r ⟨g,_,rfl⟩;exact AX g h.1
  |box cells=>simp only[fC,ah.den,ad.bK]; exact FH h.1
  | map K V =>
   have h1:(K.bK&&V.bK)=true:=h.1;simp only[az]at h1;simp only[fC,ah.den,ad.bK,c_,dB,cF];rintro x ⟨g,_,rfl⟩;simp only[Ct.wU _ h1.1,Ct.wU _ h1.2,mL]
  |fh l T B=>rfl
  |aX l K ks=>cases h.1
  | mm l K KI VI =>
   have h1:(K.bK&&(KI.bK&&VI.bK))=true:=h.1;simp only[az]at h1;simp only[fC,ah.den,ad.bK,i_,pK,c_,az,dB,cF];refine⟨?_,?_⟩
   ·rintro x ⟨g, _, rfl⟩
    exact Ct.wU _ h1.1
   ·rintro x ⟨g, _, rfl⟩ y I
    obtain⟨q,_,rfl⟩:=cF.1 I;simp only[Ct.wU _ h1.2.1,Ct.wU _ h1.2.2,and_self]
def ah.cq(e:bP)(j:Nat):ah→ah
 |.vec ks v rows=>.vec ks (v+e.up j) rows
 |.raw o=>.raw (o.cq e j)
 |.map K V rows c=>.map K V rows c
 |.aX l K ks rows c=>.aX l K ks rows c
 |.mm l K KI VI rows mem c=>.mm l K KI VI rows mem c
def wV(e:bP):Nat→List ah→List ah
 |_,[]=>[]
 |j,o::os=>o.cq e j::wV e (j+1) os
def j6(e:bP)(H H1:List ah):List ah:=eM H e.ids (wV e 0 H1)++(wV e 0 H1).drop e.ids.length
theorem ZH(e:bP)(j:Nat)(o:ah):(o.cq e j).den=o.den.cq e j:=by
 cases o<;>rfl
theorem NF(e:bP):∀(j:Nat) (os:List ah),aj (wV e j os)=lf e j (aj os)
 |_,[]=>rfl
 | j,o::os=>by
  simp only[wV,aj,dj,lf,ZH];have:=NF e (j+1) os;simp only[aj]at this;rw[this]
theorem NG{α β:Type}(f:α→β):∀(is:List Nat) (l xs:List α),(eM l is xs).map f=eM (l.map f) is (xs.map f)
 | [],_,_=>by simp[eM]
 |_::_,_,[]=>by simp[eM]
 |i::is,l,x::xs=>by simp[eM,NG f is,List.map_set]
theorem ZI(e:bP)(H H1:List ah):aj (j6 e H H1)=pW e (aj H) (aj H1):=by
 unfold j6 pW;rw[←NF];simp only[aj,List.map_append,NG,List.map_drop]
def nh(e:bP):Nat→List cr→Bool
 |_,[]=>true
 |j,.vec _ _::os=>nh e (j+1) os
 |j,_::os=>ab (e.up j) 0&&nh e (j+1) os
theorem rM{e:bP}{lens:dm}:∀{j:Nat} {os:List cr} {d:List G},nh e j os=true→lh e j (aj (cN lens os d))=true
 |_,[],_,_=>rfl
 | j,.vec ks u::os,d,h=>by
  simp only[nh]at h;have:=rM (lens:=lens) (d:=eO (cr.vec ks u).sz d) h;simp only[cN,aj,dj,lh,az];exact⟨rfl,by simpa only[aj]using this⟩
 | j,.box cells::os,d,h=>by
  simp only[nh,az]at h;have:=rM (lens:=lens) (d:=eO (cr.box cells).sz d) h.2;simp only[cN,aj,dj,lh,az];exact⟨h.1,by simpa only[aj]using this⟩
 | j,.map K V::os,d,h=>by
  simp only[nh,az]at h;have:=rM (lens:=lens) (d:=eO (cr.map K V).sz d) h.2;simp only[cN,aj,dj,lh,az];exact⟨h.1,by simpa only[aj]using this⟩
 | j,.fh l T B::os,d,h=>by
  simp only[nh,az]at h;have:=rM (lens:=lens) (d:=eO (cr.fh l T B).sz d) h.2;simp only[cN,aj,dj,lh,az];exact⟨h.1,by simpa only[aj]using this⟩
 | j,.aX l K ks::os,d,h=>by
  simp only[nh,az]at h;have:=rM (lens:=lens) (d:=eO (cr.aX l K ks).sz d) h.2;simp only[cN,aj,dj,lh,az];exact⟨h.1,by simpa only[aj]using this⟩
 | j,.mm l K KI VI::os,d,h=>by
  simp only[nh,az]at h;have:=rM (lens:=lens) (d:=eO (cr.mm l K KI VI).sz d) h.2;simp only[cN,aj,dj,lh,az];exact⟨h.1,by simpa only[aj]using this⟩
def tY(S:Bool)(ids:List Nat)(i:Nat):Bool:=match S with
 |true=>je ids i
 |false=>false
def qd(sp:aB)(as:List AV)(H:List ah):Option (Bool × AV × List ah) :=
 match j5 H (fun i=>as.getD i .undef) sp.ps []with
 |none=>none
 | some ids=>match nodupB ids&&nh (bL H ids) 0 sp.gk with
  |false=>none
  | true=>match j0 H (bL H ids) (tY (kE sp) ids) sp.bV ids,eX H (bL H ids) (tY (kE sp) ids) sp.args as with
   |some (b,g),some (k,d)=>some (tR (b&&k) (sp.F (g++d)).isSome,(sp.out ((sp.F (g++d)).getD [])).cq (bL H ids),j6 (bL H ids) H (sp.H1 ((sp.F (g++d)).getD [])))
   |_,_=>none
def oI:List jE→Nat→Bool
 | [],_=>true
 |.cell j _::ps,n=>eh j n&&oI ps (n+1)
 |.FA j _ _::ps,n=>eh j n&&oI ps (n+1)
 |_::ps,n=>oI ps (n+1)
theorem NH{H:List ah}{vals:Nat→AV}:∀{ps:List jE} {acc ids:List Nat},j5 H vals ps acc=some ids→∀ x∈acc,x∈ids
 | [],acc,ids,h,x,d=>by cases h; exact d
 | p::ps,acc,ids,h,x,d=>by
  unfold j5 at h;split at h
  ·exact NH h x (qN _ d)
  ·cases h
theorem NI{H:List ah}{vals:Nat→AV}{id:Nat}{o:ah}:∀{ps:List jE} {acc ids:List Nat},oI ps acc.length=true→j5 H vals ps acc=some ids→id∉ids→j5 (H.set id o) vals ps acc=some ids
 | [],acc,ids,_,h,_=>h
 | p::ps,acc,ids,hw,h,hid=>by
  unfold j5 at h⊢;split at h
  ·rename_i i hi
   have q:=NH h;have get:∀ j,j<acc.length→(H.set id o)[acc.getD j 0]? = H[acc.getD j 0]? := fun j d=>by
    refine aZ fun e=>hid ?_;rw[e,bz,bf d];exact q _ (qN _ (mN d))
   have e:AQ (H.set id o) vals acc p=some i∧oI ps (acc++[i]).length=true:=by
    rw[eD];cases p with
    |fix _=>exact⟨hi,hw⟩
    |slot _=>exact⟨hi,hw⟩
    |cap _ _=>exact⟨hi,hw⟩
    | cell j c =>
     simp only[oI,az,iR]at hw;refine⟨?_,hw.2⟩;simp only[AQ]at hi⊢;rw[get j hw.1];exact hi
    | FA j c k =>
     simp only[oI,az,iR]at hw;refine⟨?_,hw.2⟩;simp only[AQ]at hi⊢;rw[get j hw.1];exact hi
   rw[e.1];exact NI e.2 h hid
  ·cases h
section ZJ
variable {H:List ah} {e:bP} {id:Nat} {o:ah} (he:∀ j,e.at j≠id)
include he
theorem NJ:∀(js:List Nat) (vs:List AV),lj (H.set id o) e js vs=lj H e js vs
 | [],[]=>rfl
 | [],_::_=>rfl
 |_::_,[]=>rfl
 | j::js,v::vs=>by
  have d:=NJ js vs;cases v<;>try rfl
  rename_i i ae k row c;simp only[lj,d];by_cases hi:i=id
  ·subst hi
   have aA:ab i (e.at j)=false:=by
    cases hb:ab i (e.at j)with
    |false=>rfl
    |true=>exact absurd (bk hb).symm (he j)
   simp only[aA,Bool.false_and];cases (H.set i o)[i]? <;> cases H[i]? <;> (repeat' split)<;>rfl
  ·rw[aZ (Ne.symm hi)]
theorem NK:∀(sh:fl) (a:AV),gj (H.set id o) e (fun _=>false) sh a=gj H e (fun _=>false) sh a:=by
 have aA:∀{i:Nat},i≠id→(H.set id o)[i]? = H[i]? := fun h=>aZ (Ne.symm h);have d:∀ j,¬ (id=e.at j):=fun j h=>he j h.symm;intro sh a;cases a with
 | vec w i ae off n =>
  by_cases hi:i=id
  ·subst hi
   cases sh<;>(try rfl)<;>simp only[gj,oE,lG,and_false,if_false,d,false_and]<;>(repeat' split)<;>(first|rfl|simp_all)
  ·cases sh<;>(try rfl)<;>simp only[gj,aA hi]
 | ptr i ae k row col =>
  by_cases hi:i=id
  ·subst hi
   cases sh<;>(try rfl)<;>simp only[gj,oE,lG,and_false,if_false,d,false_and]<;>(repeat' split)<;>(first|rfl|simp_all)
  ·cases sh<;>(try rfl)<;>simp only[gj,aA hi]
 | map i =>
  by_cases hi:i=id
  ·subst hi
   cases sh<;>(try rfl)<;>simp only[gj,oE,lG,and_false,if_false,d,false_and]<;>(repeat' split)<;>(first|rfl|simp_all)
  ·cases sh<;>(try rfl)<;>simp only[gj,aA hi]
 | clo f vs =>
  cases sh<;>(try rfl)
  ·cases vs<;>rfl
  ·simp only[gj,NJ he]
 | lit v =>
  cases sh<;>(try rfl)<;>cases v<;>(try rfl)
  ·rename_i b n c
   cases b<;>cases n<;>cases c<;>rfl
  ·rename_i q
   cases q with
   |none=>rfl
   | some q =>
    obtain⟨b,o',w⟩:=q;cases o'<;>cases w<;>rfl
 |_=>cases sh<;>rfl
theorem FI:∀(d:List fl) (as:List AV),fU (H.set id o) e (fun _=>false) d as=fU H e (fun _=>false) d as
 | [],[]=>rfl
 | [],_::_=>rfl
 |_::_,[]=>rfl
 |sh::d,a::as=>by simp only[fU,NK he sh a,FI d as]
theorem ZK(sh:Sh)(a:AV):lk (H.set id o) e (fun _=>false) sh a=lk H e (fun _=>false) sh a:=by
 cases sh with
 |s x=>simp only[lk,NK he]
 | clo f caps =>
  cases a with
  |clo g vs=>simp only[lk,FI he]
  |_=>rfl
theorem NL:∀(d:List Sh) (as:List AV),eX (H.set id o) e (fun _=>false) d as=eX H e (fun _=>false) d as
 | [],[]=>rfl
 | [],_::_=>rfl
 |_::_,[]=>rfl
 |sh::d,a::as=>by simp only[eX,ZK he sh a,NL d as]
theorem ZL(sh:cr)(t:ah):im (H.set id o) e (fun _=>false) sh t=im H e (fun _=>false) sh t:=by
 cases sh with
 | box d =>
  cases t with
  |raw x=>cases x<;>simp only[im,FI he]
  |_=>rfl
 | fh l T B =>
  cases t with
  |raw x=>cases x<;>rfl
  |_=>rfl
 |_=>cases t<;>rfl
theorem NM:∀(os:List cr) (is:List Nat),id∉is→j0 (H.set id o) e (fun _=>false) os is=j0 H e (fun _=>false) os is
 | [],[],_=>rfl
 | [],_::_,_=>rfl
 |_::_,[],_=>rfl
 | sh::os,i::is,h=>by
  have h1:id≠i:=fun e=>h (by rw[e]; exact cU);simp only[j0,aZ h1,ZL he,NM os is fun hm=>h (dw _ hm)]
end ZJ
theorem NN{α:Type}{i:Nat}{x:α}:∀(is:List Nat) (l xs:List α),i∉is→eM (l.set i x) is xs=(eM l is xs).set i x
 | [],_,_,_=>by simp[eM]
 |_::_,_,[],_=>by simp[eM]
 | j::is,l,y::xs,h=>by
  have h1:i≠j:=fun e=>h (by rw[e]; exact cU);simp only[eM];rw[List.set_comm _ _ h1];exact NN is _ _ fun hm=>h (dw _ hm)
theorem ZM{H:List ah}{ids:List Nat}{id:Nat}{o:ah}(h:id∉ids):bL (H.set id o) ids=bL H ids:=by
 unfold bL;rw[List.length_set];congr 1;refine List.map_congr_left fun i hi=>?_;unfold tQ;rw[aZ fun e=>h (by rw[e]; exact hi)]
theorem ZN{sp:aB}(J:kE sp=false)(hw:oI sp.ps 0=true){as:List AV}{H H':List ah}{b:Bool}{v:AV}(h:qd sp as H=some (b,v,H')){id:Nat}{o:ah}(B:id<H.length)
  (hid:∀ ids,j5 H (fun i=>as.getD i .undef) sp.ps []=some ids→id∉ids) :
  qd sp as (H.set id o)=some (b,v,H'.set id o)∧∃ ids,j5 H (fun i=>as.getD i .undef) sp.ps []=some ids∧j5 (H.set id o) (fun i=>as.getD i .undef) sp.ps []=some ids:=by
 unfold qd at h⊢;split at h
 ·cases h
 rename_i ids d;have hn:=hid ids d;have q:=NI (o:=o) (acc:=[]) hw d hn;refine⟨?_,ids,d,q⟩;rw[q];simp only[ZM hn];split at h
 ·cases h
 rename_i N;have I:tY (kE sp) ids=fun _=>false:=by
  rw[J];rfl
 rw[I]at h⊢;have he:∀ j,(bL H ids).at j≠id:=by
  intro j e;rcases kg j (bL H ids).ids.length with k|k
  ·have := il k
   rw[e]at this;exact hn (eZ this)
  ·rw [tN k] at e
   have:(bL H ids).base=H.length:=rfl;omega
 rw[NM he _ _ hn,NL he];split at h
 case h_2=>cases h
 rename_i h1 O;cases h;have M:∀ X,j6 (bL H ids) (H.set id o) X=(j6 (bL H ids) H X).set id o:=fun X=>by
  unfold j6;rw[show (bL H ids).ids=ids from rfl,NN ids _ _ hn,Ks _ _ (by rw[pV]; exact B)]
 rw[M]
def ai.cX(τ:ai)(sp:aB):ai where
 pf g:=match ab g sp.f with
  |true=>false
  |false=>τ.pf g
 T:=τ.T
 W g as H:=match ab g sp.f with
  | true=>match qd sp as H with
   |some r=>some r
   |none=>τ.W g as H
  |false=>τ.W g as H
 C g as H:=match ab g sp.f with
  | true=>(match j5 H (fun i=>as.getD i .undef) sp.ps [] with
   |some ids=>ids
   |none=>[])++τ.C g as H
  |false=>τ.C g as H
 I:=τ.I
 N g:=match ab g sp.f with
  | true=>match τ.U g,kE sp with
   |false,false=>oI sp.ps 0
   |_,_=>false
  |false=>τ.N g
 U g:=match ab g sp.f with
  |true=>true
  |false=>τ.U g
def qe:List cr→List cr→Bool
 |_,[]=>true
 | [],o'::d=>o'.jZ.isNone&&qe [] d
 | o::os,o'::d=>(match o'.jZ with
  |none=>true
  | some l=>match o.jZ with
   |some l'=>ab l l'
   |none=>false)&&qe os d
theorem FJ:∀{os q:List cr},qe os q=true→∀(j:Nat) o' l,q[j]? = some o'→o'.jZ=some l→∃ o,os[j]? = some o∧o.jZ=some l
 |_,[],_,j,_,_,d,_=>by simp at d
 | [],x::q,h,0,o',l,d,k=>by
  simp only[qe,az]at h;simp at d;subst d;rw[k]at h;cases h.1
 | [],x::q,h,j+1,o',l,d,k=>by
  simp only[qe,az]at h;obtain⟨o,h1,_⟩:=FJ h.2 j o' l (by simpa using d) k;simp at h1
 | o::os,x::q,h,0,o',l,d,k=>by
  simp only[qe,az]at h;simp at d;subst d;have h1:=h.1;rw[k]at h1;simp only[]at h1;split at h1
  ·rename_i l' B
   have:=bk h1;subst this;exact⟨o,rfl,B⟩
  ·cases h1
 | o::os,x::q,h,j+1,o',l,d,k=>by
  simp only[qe,az]at h;exact FJ h.2 j o' l (by simpa using d) k
theorem NO(lens:dm):∀(os:List cr) (d:List G) (j:Nat) (o:ah),(cN lens os d)[j]? = some o→∃ sh d',os[j]? = some sh∧o=fC lens sh d'
 | [],d,j,o,h=>by simp[cN]at h
 | s::os,d,0,o,h=>by
  simp[cN]at h;exact⟨s,d,rfl,h.symm⟩
 | s::os,d,j+1,o,h=>by
  simp only[cN,VT]at h;obtain⟨sh,d',h1,k⟩:=NO lens os _ j o h;exact⟨sh,d',by simpa using h1,k⟩
theorem ZO{lens:dm}{os:List cr}{d:List G}{j:Nat}{o:ad} (h:(aj (cN lens os d))[j]? = some o):∃ sh,os[j]? = some sh∧o.label=sh.jZ:=by
 simp only[aj,bU]at h;obtain⟨o',h1,rfl⟩:=ef.1 h;obtain⟨sh,d',k,rfl⟩:=NO lens os d j o' h1;exact⟨sh,k,tO _ _ _⟩
theorem NP(lens:dm):∀(os:List cr) (d:List G) (j:Nat) (sh:cr),os[j]? = some sh→∃ o,(aj (cN lens os d))[j]? = some o∧o.label=sh.jZ
 | [],d,j,o,h=>by simp at h
 | s::os,d,0,sh,h=>by
  simp at h;subst h;exact⟨(fC lens s d).den,by simp[cN,aj],tO _ _ _⟩
 | s::os,d,j+1,sh,h=>by
  obtain⟨o,h1,k⟩:=NP lens os (eO s.sz d) j sh (by simpa using h);exact⟨o,by simpa[cN,aj]using h1,k⟩
def AY(sp:aB):Bool:=rL sp.bV&&(eE sp.bV.length sp.gk.length&&qe sp.bV sp.gk)
theorem ZP{P:Program}{sp:aB}(hp:AY sp=true) (hc:∀ d r,sp.F d=some r→dC P sp.f (sp.args0 d) (aj (sp.H0 d)) (sp.out r) (aj (sp.H1 r)))
  {as:List AV} {H H':List ah} {v:AV} (h:qd sp as H=some (true,v,H')):dC P sp.f as (aj H) v (aj H'):=by
 simp only[AY,az]at hp;obtain⟨hfr,hle,hlab⟩:=hp;have hle:=nW hle;unfold qd at h;split at h
 ·cases h
 rename_i ids hids;split at h
 ·cases h
 rename_i hck;simp only[az]at hck;obtain⟨hnd,hup⟩:=hck;have hnd:=tT hnd;split at h
 case h_2=>cases h
 rename_i b g b' k h1 h2;simp only[aY,a8,tS,az]at h;obtain⟨⟨⟨rfl,rfl⟩,h3⟩,rfl,rfl⟩:=h;cases hF:sp.F (g++k)with
 |none=>rw[hF]at h3; cases h3
 |some r =>
 simp only[ga];obtain⟨p0,p1,p2,p3⟩:=wO h1 k (cC sp.bV (g++k));have hd:eO (nf sp.bV) (g++k)=k:=by rw[←p0]; exact p9 g k
 have hlen:ids.length=(aj (sp.H0 (g++k))).length:=by rw[fa]; simp only[aB.H0,p1,p2]
 have hat:∀ j,j<ids.length→ids[j]? = some ((bL H ids).at j):=fun j q=>il (e:=bL H ids) q;have hobjs:∀ j,j<ids.length→∃ sh o g1 N,sp.bV[j]? = some sh∧H[(bL H ids).at j]? = some o∧im H (bL H ids) (tY (kE sp) ids) sh o=some (true,g1) ∧
   (sp.H0 (g++k))[j]? = some (fC (cC sp.bV (g++k)) sh (g1++N)) ∧
   (cC sp.bV (g++k)).ae j=sh.up∧(∀ ks v rows,o=.vec ks v rows→(cC sp.bV (g++k)).len j=rows.length)∧sh.up=0∧(bL H ids).up j=tP o:=by
  intro j q;have hj':j<sp.bV.length:=by omega
  obtain⟨i,o,g1,N,O,B,J,I,q5,q6⟩:=p3 j sp.bV[j] (bf hj');have q1':=O;rw[hat j q]at O;cases O;refine⟨sp.bV[j],o,g1,N,bf hj',B,J,I,q5,q6,?_,?_⟩
  ·have := dB.1 hfr sp.bV[j] (mN hj')
   exact bk this
  ·simp only [bP.up, bL, bz, bU]
   rw[q1'];simp only[eg,ga,tQ];rw[B]
 have hK:∀ E E0,E.H=aj H→aq E→AF (bL H ids) (bif kE sp then (dI H.length).filter (je ids) else []) E E0→E0.H=aj (sp.H0 (g++k)) →
   jb H (bL H ids) (tY (kE sp) ids) (cC sp.bV (g++k)) E E0:=by
  intro E E0 W HE U V;refine { hH:=W,HE:=HE,free:=fun i hi b n hb=>?_,dp:=U.toKeepIn,obj:=fun j o ho=>?_ }
  ·refine U.Zh i ?_ b n hb
   have hlt:=aK hb;rw[HE.len,W,fa]at hlt;unfold tY at hi;split at hi
   ·rename_i M
    rw[M];simp only[cond_true,nZ,List.mem_range];exact⟨hlt,hi⟩
   ·cases hi
  ·have q:j<ids.length:=by
    rcases kg j ids.length with hlt|hge
    ·exact hlt
    ·have h1 := aK ho
     have h2:=tN (e:=bL H ids) hge;have h3:(bL H ids).base=H.length:=rfl;omega
   refine⟨q,?_⟩;obtain⟨sh,o',g1,N,O,B,J,I,q5,q6,q7,q8⟩:=hobjs j q;rw[ho]at B;cases B;obtain⟨r1,r2,r3⟩:=Fw (lens:=cC sp.bV (g++k)) (d:=g1++N) J;exact⟨r1,⟨_,by rw[V]; exact bg I,by rw[q5]; exact r2⟩,fun o0 h0=>by rw[V,bg I]at h0; cases h0; rw[Ft,Fu J],q6,fun _=>by rw[q5]; exact q7⟩
 have:=frame (P:=P) (f:=sp.f) (kE sp) (bif kE sp then (dI H.length).filter (je ids) else []) (e:=bL H ids) (H:=aj H) (args:=sp.args0 (g++k)) (H0:=aj (sp.H0 (g++k)))
  (H1:=aj (sp.H1 r)) (v:=sp.out r) (args0:=as) (hc _ _ hF) hlen (by rw[fa]; rfl) hnd ?_ ?_ (rM hup) ?_ (fun M=>by rw[M]; rfl) ?_ ?_ ?_ ?_ ?_ ?_ ?_
 ·rw [ZI]
  exact this
 ·intro j o ho
  have q:j<ids.length:=by rw[hlen]; exact aK ho
  obtain⟨sh,o',g1,N,O,B,J,I,q5,q6,q7,q8⟩:=hobjs j q;obtain⟨r1,r2,r3⟩:=Fw (lens:=cC sp.bV (g++k)) (d:=g1++N) J;rw[bg I]at ho;cases ho;refine⟨o'.den,bg B,ad.Dp r2,fun v=>?_⟩;rw[r1,r2,q7,q8];simp only[aY];constructor
  ·rintro rfl
   exact⟨0,rfl,by omega⟩
  ·rintro ⟨u, rfl, rfl⟩
   omega
 ·intro E E0 W HE U V j o ho
  have q:j<ids.length:=by rw[hlen]; exact aK ho
  obtain⟨sh,o',g1,N,O,B,J,I,q5,q6,q7,q8⟩:=hobjs j q;rw[bg I]at ho;cases ho;exact Ni (hK E E0 W HE U V) J N q (fun l hl=>U.jZ j _ l (by rw[V]; exact bg I) (by rw[tO,hl])) (HE.obj _ _ (by rw[W]; exact bg B))
 ·rw [fa, fa]
  simp only[aB.H0,aB.H1,FF];exact hle
 ·intro M
  simp only[kE,az]at M;exact ZG (NC M.1)
 ·intro M
  simp only[kE,az]at M;exact ND M.2
 ·intro i hi
  cases M:kE sp with
  | true =>
   rw[M]at hi;simp only[cond_true,nZ]at hi;exact Nn hi.2
  | false =>
   rw[M]at hi;simp at hi
 ·intro j o o' ho ho'
  have q:j<ids.length:=by rw[hlen]; exact aK ho
  obtain⟨sh,o2,g1,N,O,B,J,I,_⟩:=hobjs j q;rw[bg I]at ho;rw[bg B]at ho';cases ho;cases ho';rw[Nc J,tO]
 ·intro j o l ho hl
  obtain⟨sh,h5,h6⟩:=ZO (show (aj (cN (cC sp.gk r) sp.gk r))[j]? = some o from ho);obtain⟨sh0,h7,h8⟩:=FJ hlab j sh l h5 (by rw[←h6,hl]);obtain⟨o0,h9,h10⟩:=NP (cC sp.bV (g++k)) sp.bV (g++k) j sh0 h7;exact⟨o0,h9,by rw[h10,h8]⟩
 ·intro j o o' ho ho'
  have q:j<ids.length:=by rw[hlen]; exact aK ho
  obtain⟨sh,o2,g1,N,O,B,J,I,_⟩:=hobjs j q;rw[bg I]at ho;rw[bg B]at ho';cases ho;cases ho';rw[Fu J,Ft]
 ·intro E E0 cs W HE U V hr
  have hS:=(wN (hK E E0 W HE U V) h2 []).2.2.2 cs hr;rw[dh]at hS;simp only[aB.args0,hd];exact hS
theorem ZQ{sp:aB}{as:List AV}{H H':List ah}{v:AV}{b:Bool}{A:Nat}(h:qd sp as H=some (b,v,H'))(k:A<H.length)(q:∀ ids,j5 H (fun i=>as.getD i .undef) sp.ps []=some ids→A∉ids):H'[A]? = H[A]? := by
 unfold qd at h;split at h
 ·cases h
 rename_i ids d;split at h
 ·cases h
 split at h
 case h_2=>cases h
 cases h;unfold j6;rw[cT (by rw[pV]; exact k)];exact AG _ _ _ _ (q ids d)
theorem ak.cX{P:Program}{τ:ai}(h:ak P τ){sp:aB}(hb:fw P sp.f=true)(V:AY sp=true)
  (hc:∀ d r,sp.F d=some r→dC P sp.f (sp.args0 d) (aj (sp.H0 d)) (sp.out r) (aj (sp.H1 r))):ak P (τ.cX sp):=by
 refine⟨h.T,fun g as H b v H' hg N=>?_,fun g as H b v H' hg A k q=>?_,fun g as H t hg Q hQ=>?_,fun g B as H=>?_,fun g J as H b v H' hg id o q hid=>?_⟩
 rotate_left 2
 ·obtain ⟨g1, v, H', g2, g3, g4⟩ := h.I g as H t hg Q hQ
  refine⟨g1,v,H',g2,fun A k q=>g3 A (fun hm=>k ?_) q,g4⟩;simp only[ai.cX];split
  ·exact vt _ hm
  ·exact hm
 ·simp only [ai.cX] at B ⊢
  cases e:ab g sp.f with
  |true=>rw[e]at B; cases B
  | false =>
   rw[e]at B;exact h.F.1 g B as H
 ·simp only [ai.cX] at J hg hid ⊢
  cases e:ab g sp.f with
  | false =>
   rw[e]at J hg hid;exact h.F.2 g J as H b v H' hg id o q hid
  | true =>
   rw[e]at J hg hid;simp only[]at J hg hid⊢;split at J
   case h_2=>cases J
   rename_i B hs;have U:∀ H,τ.W g as H=none:=fun H=>(h.F.1 g B as H).1;have O:∀ H,τ.C g as H=[]:=fun H=>(h.F.1 g B as H).2;rw[U]at hg;split at hg
   case h_2=>cases hg
   rename_i r hr;cases hg;obtain⟨q1,ids,q2,q3⟩:=ZN hs J hr (o:=o) q fun ids M hm=>hid (qN _ (by rw[M]; exact hm));rw[q1];refine⟨rfl,?_⟩;rw[q2,q3,O,O]
 simp only[ai.cX]at hg;split at hg
 ·rename_i e
  have e:=bk e;subst e;split at hg
  ·rename_i r hr
   cases hg;subst N;exact⟨hb,ZP V hc hr⟩
  ·exact h.W _ as H b v H' hg N
 ·exact h.W g as H b v H' hg N
 simp only[ai.cX]at hg k;split at hg
 ·rename_i e
  rw[e]at k;simp only[]at k;split at hg
  ·rename_i r hr
   cases hg;exact ZQ hr q fun ids M hm=>k (qN _ (by rw[M]; exact hm))
  ·exact h.C g as H b v H' hg A (fun hm=>k (vt _ hm)) q
 ·rename_i e
  rw[e]at k;exact h.C g as H b v H' hg A k q
end Go.AL

namespace Go.AL
open Go
variable [Dr]
def ar{β:Type}(t:Option (List G))(k:List G→Option β):Option β:=bif t.isSome then k (t.getD []) else none
def iF{β:Type}(b:Bool)(t:Option (List G))(k:List G→Option β):Option β:=bif b then k (t.getD []) else none
def aO{β:Type}(b:Bool)(r:Option (Nat × List G))(k:Nat→List G→Option β):Option β:=bif (b&&r.isSome) then k (FB r) (FC r) else none
def NQ:Kd→G→G
 |.int _,g=>.i g.int
 |.str,g=>.s g.str
 |.bool,g=>.t g.bool
 |.list _,g=>.l g.rows
def aU:List Kd→List G→List G
 | [],_=>[]
 |k::ks,r=>NQ k (r.headD default)::aU ks r.tail
def ai.fV(τ:ai)(d:List FuncId):ai:={ τ with pf:=fun g=>match d.any (fun x=>ab x g)with
 |true=>false
 |false=>τ.pf g }
def ai.lq(τ:ai)(d:List FuncId):ai:={ τ with pf:=fun g=>match d.any (fun x=>ab x g)with
 |true=>true
 |false=>τ.pf g }
theorem ak.lq{P:Program}{τ:ai}(h:ak P τ)(d:List FuncId):ak P (τ.lq d):=⟨h.T,h.W,h.C,h.I,h.F⟩
theorem ak.fV{P:Program}{τ:ai}(h:ak P τ)(d:List FuncId):ak P (τ.fV d):=⟨h.T,h.W,h.C,h.I,h.F⟩
theorem NR{β:Type}{t:Option (List G)}{k:List G→Option β}{g:List G}(h:t=some g):ar t k=k g:=by subst h; rfl
inductive l7 (st:List G→Option (Option Nat × List G)):Nat→List G→Nat→List G→Prop
 |stop {d d':List G} {x:Nat} (h:st d=some (some x,d')):l7 st 1 d x d'
 |next {d d1 d':List G} {x n:Nat} (h:st d=some (none,d1)) (h':l7 st n d1 x d'):l7 st (n+1) d x d'
theorem l7.iter{st:List G→Option (Option Nat × List G)}{n:Nat}{d d':List G}{x:Nat}(h:l7 st n d x d'):∀ m,n≤m→rJ st m d=some (x,d'):=by
 induction h with
 | stop h =>
  intro m hm;cases m with
  |zero=>omega
  |succ m=>simp only[rJ,h]
 | next h _ k =>
  intro m hm;cases m with
  |zero=>omega
  |succ m=>simp only[rJ,h]; exact k m (by omega)
theorem l7.ZR{st:List G→Option (Option Nat × List G)}{n:Nat}{d d':List G}{x:Nat}(h:l7 st n d x d')(hn:n≤1000000):bX st d=some (x,d'):=h.iter _ hn
end Go.AL

namespace Go.AL
open Go
variable [Dr]
inductive Hint where
 |freeze (slot:Nat)
 |NS (slot:Nat) (ks:List Kd)
 |gz (slot c:Nat) (ks:List Kd)
 |NT (slot:Nat)
 |NU (slot c:Nat)
 |hole (ks:List Kd)
 |tZ
 |aX (slot l:Nat)
 |AZ (slot:Nat)
 |A0 (slot l:Nat)
 |A1 (slot:Nat)
 |mm (slot l:Nat) (KI VI:Ct)
 |t_ (slot c l:Nat) (KI VI:Ct)
 |forget (id:Nat)
 |NV (slot c:Nat) (ks:List Kd)
def A2(slot:Nat)(s:al):Bool × al :=
 match s.fr.getD slot .undef with
 | .vec w id ae off n=>match s.H[id]? with
  |some (.vec ks v rows)=>if ae=v∧off=0∧w=ks.length then (ab n rows.length,⟨s.fr.set slot (.listF ks rows),s.H.set id (.raw .dead)⟩) else (true,s)
  |_=>(true,s)
 |_=>(true,s)
def FL(slot c:Nat)(ks:List Kd)(s:al):Bool × al :=
 match s.fr.getD slot .undef with
 | .ptr id _ _ _ _=>match s.H[id]? with
  | some (.raw (.box cells))=>match cells[c]? with
   | some a=>match isNil a with
    |true=>(true,⟨s.fr,s.H.set id (.raw (.box (cells.set c (.vec ks.length s.H.length 0 0 0))))++[.vec ks 0 []]⟩)
    |false=>(true,s)
   |none=>(true,s)
  |_=>(true,s)
 |_=>(true,s)
def A3(slot c:Nat)(s:al):Bool × al :=
 match s.fr.getD slot .undef with
 | .ptr id _ _ _ _=>match s.H[id]? with
  | some (.raw (.box cells))=>match cells[c]? with
   | some (.vec w d ae off n)=>match s.H[d]? with
    |some (.vec ks v rows)=>if ae=v∧off=0∧w=ks.length then (ab n rows.length,⟨s.fr,(s.H.set d (.raw .dead)).set id (.raw (.box (cells.set c (.listF ks rows))))⟩) else (true,s)
    |_=>(true,s)
   |_=>(true,s)
  |_=>(true,s)
 |_=>(true,s)
def A4(slot:Nat)(s:al):Bool × al :=
 match s.fr.getD slot .undef with
 | .vec w id ae off n=>match s.H[id]? with
  |some (.vec ks v rows)=>if ae=v∧off=0∧w=ks.length then (eE n rows.length,⟨s.fr.set slot (.vec w id (v+1) 0 n),s.H.set id (.vec ks (v+1) (rows.take n))⟩) else (true,s)
  |_=>(true,s)
 |_=>(true,s)
def A5(slot l:Nat)(s:al):Bool × al :=
 match s.fr.getD slot .undef with
 | .map id=>match s.H[id]? with
  |some (.map K (.one (.list ks)) [] cl)=>(lV (aj s.H) l,⟨s.fr,s.H.set id (.aX l K ks [] cl)⟩)
  |_=>(true,s)
 |_=>(true,s)
def wW(r:List G):List G:=[gi r 0,gi r 1,gi r 2,.t false,.t true]
def A6(slot l:Nat)(s:al):Bool × al :=
 match s.fr.getD slot .undef with
 | .map id=>match s.H[id]? with
  |some (.map K (.one (.list ks)) rows cl)=>(lV (aj s.H) l,⟨s.fr,s.H.set id (.aX l K ks (rows.map wW) cl)⟩)
  |_=>(true,s)
 |_=>(true,s)
def ua(rows:List (List G)):Bool:=rows.all fun r=>(gi r 3).bool||(gi r 4).bool
def A7(slot:Nat)(s:al):Bool × al :=
 match s.fr.getD slot .undef with
 | .map id=>match s.H[id]? with
  |some (.aX _ K ks rows cl)=>(ua rows,⟨s.fr,s.H.set id (.map K (.one (.list ks)) rows cl)⟩)
  |_=>(true,s)
 |_=>(true,s)
def A8(rows:List (List G)):Bool:=rows.all fun r=>(gi r 3).bool
def A9(slot:Nat)(s:al):Bool × al :=
 match s.fr.getD slot .undef with
 | .map id=>match s.H[id]? with
  |some (.aX _ K ks rows cl)=>(A8 rows,⟨s.fr,s.H.set id (.map K (.one (.list ks)) rows cl)⟩)
  |_=>(true,s)
 |_=>(true,s)
def A_(slot l:Nat)(KI VI:Ct)(s:al):Bool × al :=
 match s.fr.getD slot .undef with
 | .map id=>match s.H[id]? with
  |some (.map K _ [] cl)=>(lV (aj s.H) l,⟨s.fr,s.H.set id (.mm l K KI VI [] [] cl)⟩)
  |_=>(true,s)
 |_=>(true,s)
def A'(slot c l:Nat)(KI VI:Ct)(s:al):Bool × al :=
 match s.fr.getD slot .undef with
 | .ptr a _ _ _ _=>match s.H[a]? with
  | some (.raw (.box cells))=>match cells[c]? with
   | some (.map id)=>match s.H[id]? with
    |some (.map K _ rows cl)=>(tR (lV (aj s.H) l) rows.isEmpty,⟨s.fr,s.H.set id (.mm l K KI VI [] [] cl)⟩)
    |_=>(true,s)
   |_=>(true,s)
  |_=>(true,s)
 |_=>(true,s)
def FM(id:Nat)(s:al):Bool × al :=
 match s.H[id]? with
 |some (.raw (.box _))=>(true,⟨s.fr,s.H.set id (.vec [] 1 [])⟩)
 |some (.map ..)=>(true,⟨s.fr,s.H.set id (.vec [] 1 [])⟩)
 |some (.mm ..)=>(true,⟨s.fr,s.H.set id (.vec [] 1 [])⟩)
 |_=>(true,s)
def FN(slot c:Nat)(ks:List Kd)(s:al):Bool × al :=
 match s.fr.getD slot .undef with
 | .ptr id _ _ _ _=>match s.H[id]? with
  | some (.raw (.box cells))=>match cells[c]? with
   | some (.list w rows)=>match bA ks rows with
    |some gs=>if w=ks.length then (true,⟨s.fr,s.H.set id (.raw (.box (cells.set c (.listF ks gs))))⟩) else (true,s)
    |none=>(true,s)
   |_=>(true,s)
  |_=>(true,s)
 |_=>(true,s)
def Ba:Hint→al→Bool × al
 |.freeze i,s=>A2 i s
 | .NS i ks,s=>match isNil (s.fr.getD i .undef) with
  |true=>(true,wH i ks s)
  |false=>(true,s)
 |.gz i c ks,s=>FL i c ks s
 |.NT i,s=>A4 i s
 |.NU i c,s=>A3 i c s
 |.hole ks,s=>(true,⟨s.fr,s.H++[.vec ks 0 []]⟩)
 |.tZ,s=>(true,⟨s.fr,s.H++[.raw .eo]⟩)
 |.aX i l,s=>A5 i l s
 |.AZ i,s=>A9 i s
 |.A0 i l,s=>A6 i l s
 |.A1 i,s=>A7 i s
 |.mm i l KI VI,s=>A_ i l KI VI s
 |.t_ i c l KI VI,s=>A' i c l KI VI s
 |.forget i,s=>FM i s
 |.NV i c ks,s=>FN i c ks s
def wX:List Hint→al→Bool × al
 | [],s=>(true,s)
 | h::d,s=>match Ba h s with
  | (b,s1)=>match wX d s1 with
   |(k,s2)=>(b&&k,s2)
theorem ZS{m:Nat}{slot:Nat}{s:al}(h:(A2 slot s).1=true):bl m s.den (A2 slot s).2.den:=by
 unfold A2 at h⊢;split
 case h_2=>exact bl.refl _
 rename_i w id ae off n N;split
 case h_2=>exact bl.refl _
 rename_i ks v rows hid;split
 case isFalse=>exact bl.refl _
 rename_i B;obtain⟨rfl,rfl,rfl⟩:=B;simp only[N,hid,and_self,if_true]at h;have hn:=bk h;subst hn;intro E a d;have hH:E.H=aj s.H:=d.H;have hle:=Env.sK d.heap id;have W:=aq.drop d.heap id fun o ho=>by
  rw[show E.H[id]? = some (.vec ks.length ae (rows.map (aH ks))) by rw[hH]; exact bg hid]at ho;cases ho;rfl
 have J:aj (s.H.set id (.raw .dead))=E.H.set id .dead:=by rw[db,hH]; rfl
 refine⟨E.loc.set id none,E.X,?_,?_⟩
 ·simp only [al.den]
  rw[J];refine⟨rfl,?_,d.defers,W⟩;refine AO (dK hle _ d.fr) fun c B=>?_;have hr:=Fz d.fr B;rw[show s.den.fr=s.fr from rfl,N]at hr;have M:E.H[id]? = some (.vec ks.length ae (rows.map (aH ks))):=by rw[hH]; exact bg hid
  have ho:=d.heap.obj id _ M;rw[jx];simp only[rel]at hr⊢;obtain⟨⟨base,cap,rfl,V,_⟩,_,I⟩:=hr;obtain⟨q1,q2⟩:=I ⟨_,M,rfl⟩;have O:ft (rows.map (aH ks)):=by
   intro r hr;obtain⟨g,_,rfl⟩:=cF.1 hr;exact gb ks g
  refine⟨O,base,cap,by simp,by simpa using V,?_⟩;simp only[aN]at ho;rcases ho with⟨h1,U⟩|⟨b,mm,h1,U,I,_,h4⟩
  ·exact .inl U
  ·obtain ⟨g1, o, g2, g3⟩ := q2 b mm h1
   by_cases hm:rows=[]
   ·subst hm; exact .inl rfl
   ·right
    have:0<rows.length:=by cases rows with|nil=>exact(hm rfl).elim|cons _ _=>simp
    simp at I;have ho:=g2 (by omega);simp at ho;subst ho;simp only[kQ]at g3;refine⟨b,0,g3.1,⟨(d.heap.lt id b mm h1).1,?_,(d.heap.lt id b mm h1).2⟩,lQ hle.toC _ O rfl h4⟩;rintro(⟨j,c',q⟩|⟨l,k,c',q⟩)
    case inr=>exact d.heap.cY _ _ _ _ _ _ h1 q
    simp only[eC]at q;split at q
    ·split at q<;>cases q
    ·rename_i aA
     exact aA (d.heap.inj _ _ _ _ _ h1 q)
 ·simp only [al.den]
  rw[J];exact hle.toM
theorem ZT{m:Nat}{slot c:Nat}{ks:List Kd}{s:al}:bl m s.den (FL slot c ks s).2.den:=by
 unfold FL;split
 case h_2=>exact bl.refl _
 rename_i id ae k row col hsl;split
 case h_2=>exact bl.refl _
 rename_i cells hid;split
 case h_2=>exact bl.refl _
 rename_i a0 ha0;split
 case h_2=>exact bl.refl _
 rename_i hnil;intro E a q;have hH:E.H=aj s.H:=q.H;have hlen:E.H.length=s.H.length:=by rw[hH,fa]
 have hle:E.le (E.push E.w (.vec ks.length 0 []) none):=Env.kl q.heap.len (Ext.refl _) (fun b n h=>by cases h);have hobj:aN (E.push E.w (.vec ks.length 0 []) none) E.H.length (.vec ks.length 0 []):=by
  simp only[aN,Env.push];refine .inl ⟨?_,trivial⟩;rw[iM (by rw[q.heap.len]; exact aD _),q.heap.len,nU];rfl
 have I:aq (E.push E.w (.vec ks.length 0 []) none):=aq.push q.heap (Ext.refl _) (fun b n h=>by cases h) hobj;generalize J:E.push E.w (.vec ks.length 0 []) none=d at hle I;have O:d.w=E.w:=by rw[←J]; rfl
 have U:d.X=E.X:=by rw[←J]; rfl
 have V:d.H=aj (s.H++[.vec ks 0 []]):=by rw[←J,iE,←hH]; rfl
 have hidlt:id<s.H.length:=aK hid;have M:d.H[id]? = some (.box cells):=by
  rw[V];exact bg (H:=s.H++[.vec ks 0 []]) (o:=.raw (.box cells)) (by rw[cT hidlt]; exact hid)
 have ho:=I.obj id _ M;simp only[aN]at ho;obtain⟨b,n,h1,h2,W⟩:=ho;have hver:∀ v,(ad.box (cells.set c (.vec ks.length s.H.length 0 0 0))).aG = some v→(ad.box cells).aG = some v:=fun v hv=>by simpa[ad.aG]using hv
 have N:=Env.og (o':=.box (cells.set c (.vec ks.length s.H.length 0 0 0))) (w':=d.w) I M h1 hver rfl (fun _ _=>rfl);have hnew:d.H[s.H.length]? = some (.vec ks.length 0 []):=by
  rw[V];have e:(s.H++[ah.vec ks 0 []])[s.H.length]? = some (ah.vec ks 0 []):=by rw[iM (aD _),nU]; rfl
  exact bg e
 have hloc:d.loc[s.H.length]? = some none:=by
  rw[←J];simp only[Env.push];rw[iM (by rw[q.heap.len]; omega),q.heap.len,hlen,nU];rfl
 have hrel:∀ v,rel d a0 v→rel { w:=d.w,H:=d.H.set id (.box (cells.set c (.vec ks.length s.H.length 0 0 0))),loc:=d.loc,X:=d.X } (.vec ks.length s.H.length 0 0 0) v:=by
  intro v hv;obtain⟨base,rfl⟩:=MY hnil hv;simp only[rel];have aA:id≠s.H.length:=by omega
  refine⟨⟨base,0,rfl,aD _,fun h=>absurd h (sD _)⟩,⟨.vec ks.length 0 [],by rw[aZ aA]; exact hnew,rfl,fun v h=>fg _⟩,fun _=>⟨fun _=>⟨trivial,trivial,base,rfl⟩,fun b m hb=>?_⟩⟩;rw[hloc]at hb;cases hb
 have hHR2:=aq.set (w':=d.w) I M h1 hver rfl (fun _ _=>rfl) (by
  simp only[aN];refine⟨b,n,h1,by simpa using h2,?_⟩;rw[jv]at W⊢;intro i x B;rw[eC]at B;split at B
  ·rename_i e
   subst e;split at B
   ·cases B
    obtain⟨v,g1,g2,g3⟩:=W c a0 ha0;exact⟨v,g1,g2,hrel v g3⟩
   ·cases B
  ·obtain ⟨v, g1, g2, g3⟩ := W i x B
   exact⟨v,g1,g2,bI N x g3⟩)
 have hden:aj (s.H.set id (.raw (.box (cells.set c (.vec ks.length s.H.length 0 0 0))))++[.vec ks 0 []])=d.H.set id (.box (cells.set c (.vec ks.length s.H.length 0 0 0))):=by
  rw[V,iE,iE,db,Ks _ _ (by rw[fa]; exact hidlt)];rfl
 refine⟨d.loc,E.X,?_,?_⟩
 ·simp only [al.den]
  rw[hden];rw[O,U]at hHR2;refine⟨rfl,?_,q.defers,hHR2⟩;have:=dK N _ (dK hle _ q.fr);rw[O,U]at this;exact this
 ·simp only [al.den]
  rw[hden];have:=(hle.trans N).toM (m:=m);rw[O,U]at this;exact this
theorem ZU{m:Nat}{slot c:Nat}{s:al}(h:(A3 slot c s).1=true):bl m s.den (A3 slot c s).2.den:=by
 unfold A3 at h⊢;split
 case h_2=>exact bl.refl _
 rename_i id ver0 k row col hsl;split
 case h_2=>exact bl.refl _
 rename_i cells hid;split
 case h_2=>exact bl.refl _
 rename_i w q ae off n hcell;split
 case h_2=>exact bl.refl _
 rename_i ks v rows U;split
 case isFalse=>exact bl.refl _
 rename_i hc;obtain⟨rfl,rfl,rfl⟩:=hc;simp only[hsl,hid,hcell,U,and_self,if_true]at h;have hn:=bk h;subst hn;intro E a B;have hH:E.H=aj s.H:=B.H;have aA:id≠q:=fun e=>by
  rw[e,U]at hid;cases hid
 have hide:E.H[id]? = some (.box cells):=by rw[hH]; exact bg hid
 have hid2e:E.H[q]? = some (.vec ks.length ae (rows.map (aH ks))):=by rw[hH]; exact bg U
 obtain⟨b0,n0,k1,k2,k3⟩:=B.heap.obj id _ hide;rw[jv]at k3;obtain⟨cv,c1,c2,c3⟩:=k3 c _ hcell;have hfr:=LM B.heap hid2e c3;have hle:=Env.sK B.heap q;have N:=aq.drop B.heap q fun o ho=>by
  rw[hid2e]at ho;cases ho;rfl
 generalize J:({ w:=E.w,H:=E.H.set q .dead,loc:=E.loc.set q none,X:=E.X }:Env)=d at hle N hfr;have O:d.w=E.w:=by rw[←J]
 have W:d.X=E.X:=by rw[←J]
 have V:d.H[id]? = some (.box cells):=by
  rw[←J];show (E.H.set q .dead)[id]? = _
  rw[aZ (Ne.symm aA)];exact hide
 have hl1:d.loc[id]? = some (some (b0,n0)):=by
  rw[←J];show (E.loc.set q none)[id]? = _
  rw[aZ (Ne.symm aA)];exact k1
 obtain⟨b,n,h1,h2,h3⟩:=N.obj id _ V;have hbb:b=b0:=by
  rw[hl1]at h1;cases h1;rfl
 subst hbb;have hver:∀ v,(ad.box (cells.set c (.listF ks rows))).aG = some v→(ad.box cells).aG = some v:=fun v hv=>by simpa[ad.aG]using hv
 have M:=Env.og (o':=.box (cells.set c (.listF ks rows))) (w':=d.w) N V h1 hver rfl (fun _ _=>rfl);have hHR2:=aq.set (w':=d.w) N V h1 hver rfl (fun _ _=>rfl) (by
  simp only[aN];refine⟨b,n,h1,by simpa using h2,?_⟩;rw[jv]at h3⊢;intro i x I;rw[eC]at I;split at I
  ·rename_i e
   subst e;split at I
   ·cases I
    refine⟨cv,by rw[show ({ w:=d.w,H:=_,loc:=d.loc,X:=d.X }:Env).w=E.w from O]; exact c1,c2,bI M _ hfr⟩
   ·cases I
  ·obtain ⟨v, g1, g2, g3⟩ := h3 i x I
   exact⟨v,g1,g2,bI M x g3⟩)
 have hden:aj ((s.H.set q (.raw .dead)).set id (.raw (.box (cells.set c (.listF ks rows)))))=d.H.set id (.box (cells.set c (.listF ks rows))):=by
  rw[db,db,←hH,←J];rfl
 refine⟨d.loc,E.X,?_,?_⟩
 ·simp only [al.den]
  rw[hden];rw[O,W]at hHR2;refine⟨rfl,?_,B.defers,hHR2⟩;have:=dK M _ (dK hle _ B.fr);rw[O,W]at this;exact this
 ·simp only [al.den]
  rw[hden];have:=(hle.trans M).toM (m:=m);rw[O,W]at this;exact this
theorem ZV{m:Nat}{slot c:Nat}{ks:List Kd}{s:al}:bl m s.den (FN slot c ks s).2.den:=by
 unfold FN;split
 case h_2=>exact bl.refl _
 rename_i id ver0 k row col hsl;split
 case h_2=>exact bl.refl _
 rename_i cells hid;split
 case h_2=>exact bl.refl _
 rename_i w rows O;split
 case h_2=>exact bl.refl _
 rename_i gs hg;split
 case isFalse=>exact bl.refl _
 rename_i hw;subst hw;intro E a d;have hH:E.H=aj s.H:=d.H;have I:E.H[id]? = some (.box cells):=by rw[hH]; exact bg hid
 obtain⟨b,n,h1,V,J⟩:=d.heap.obj id _ I;have M:∀ v,(ad.box (cells.set c (.listF ks gs))).aG = some v→(ad.box cells).aG = some v:=fun v W=>by simpa[ad.aG]using W
 have B:=Env.og (o':=.box (cells.set c (.listF ks gs))) (w':=E.w) d.heap I h1 M rfl (fun _ _=>rfl);have U:=aq.set (w':=E.w) d.heap I h1 M rfl (fun _ _=>rfl) (by
  simp only[aN];refine⟨b,n,h1,by simpa using V,?_⟩;rw[jv]at J⊢;intro i x q;rw[eC]at q;split at q
  ·rename_i e
   subst e;split at q
   ·cases q
    obtain⟨cv,c1,c2,c3⟩:=J c _ O;refine⟨cv,c1,c2,bI B _ ?_⟩;rw[jx,ru hg];exact c3
   ·cases q
  ·obtain ⟨v, g1, g2, g3⟩ := J i x q
   exact⟨v,g1,g2,bI B x g3⟩)
 have N:aj (s.H.set id (.raw (.box (cells.set c (.listF ks gs)))))=E.H.set id (.box (cells.set c (.listF ks gs))):=by rw[db,←hH]; rfl
 refine⟨E.loc,E.X,?_,?_⟩
 ·simp only [al.den]
  rw[N];exact⟨rfl,dK B _ d.fr,d.defers,U⟩
 ·simp only [al.den]
  rw[N];exact B.toM
theorem ZW{m:Nat}{slot:Nat}{s:al}(h:(A4 slot s).1=true):bl m s.den (A4 slot s).2.den:=by
 unfold A4 at h⊢;split
 case h_2=>exact bl.refl _
 rename_i w id ae off n N;split
 case h_2=>exact bl.refl _
 rename_i ks v rows hid;split
 case isFalse=>exact bl.refl _
 rename_i B;obtain⟨rfl,rfl,rfl⟩:=B;simp only[N,hid,and_self,if_true]at h;have hn:=nW h;intro E a d;have hH:E.H=aj s.H:=d.H;have q:E.H[id]? = some (.vec ks.length ae (rows.map (aH ks))):=by rw[hH]; exact bg hid
 have ho:=d.heap.obj id _ q;obtain⟨l,I⟩:∃ l,E.loc[id]? = some l:=by
  have:id<E.loc.length:=by rw[d.heap.len]; exact aK q
  exact⟨_,bf this⟩
 have O:E.loc.set id l=E.loc:=mV I;have M:aj (s.H.set id (.vec ks (ae+1) (rows.take n)))=E.H.set id (.vec ks.length (ae+1) ((rows.take n).map (aH ks))):=by rw[db,hH]; rfl
 have hlc:∀ b n,l=some (b,n)→E.w.heap.size≤b∨∃ m,E.loc[id]? = some (some (b,m)):=fun b n hb=>.inr ⟨n,by rw[I,hb]⟩;have U:∀ v u,(ad.vec ks.length (ae+1) ((rows.take n).map (aH ks))).aG = some v→(ad.vec ks.length ae (rows.map (aH ks))).aG = some u→u≤v:=by
  intro v u h1 k;simp[ad.aG]at h1 k;omega
 have V:∀ v,(ad.vec ks.length (ae+1) ((rows.take n).map (aH ks))).aG = some v→∀ u,(ad.vec ks.length ae (rows.map (aH ks))).aG = some u→u<v:=by
  intro v h1 u k;simp[ad.aG]at h1 k;omega
 have hle:=Env.km (o':=.vec ks.length (ae+1) ((rows.take n).map (aH ks))) (l:=l) (w':=E.w) q d.heap.len (aD _) (fun _ _ _=>rfl) hlc (.inr V) U (fun _ h=>by simp[ad.aG]at h);have W:=aq.lR (o':=.vec ks.length (ae+1) ((rows.take n).map (aH ks))) (l:=l) (w':=E.w) d.heap q (aD _) (fun _ _ _=>rfl) (fun b n hb=>.inr ⟨n,by rw[I,hb]⟩) (.inr V) U (fun _ h=>by simp[ad.aG]at h) (by
  rw[O]at hle⊢;simp only[aN]at ho⊢;rcases ho with⟨h1,k⟩|⟨b,mm,h1,k,J,h4,h5⟩
  ·left
   refine⟨h1,?_⟩;have:rows=[]:=by simpa using k
   rw[this];simp
  ·right
   refine⟨b,mm,h1,k,by simp at J⊢; omega,?_,?_⟩
   ·intro r hr
    obtain⟨g,_,rfl⟩:=cF.1 hr;exact gb ks g
   ·rw [mO] at h5 ⊢
    intro i r hi;simp only[bU,o_]at hi;split at hi
    ·obtain ⟨g1, g2⟩ := h5 i r (by simpa using hi)
     exact⟨g1,vB (fun a c hr=>bI hle a hr) rfl g2⟩
    ·simp at hi)
 rw[O]at hle W;refine⟨E.loc,E.X,?_,?_⟩
 ·simp only [al.den]
  rw[M];refine⟨rfl,?_,d.defers,W⟩;refine AO (dK hle _ d.fr) fun c B=>?_;have hr:=Fz d.fr B;rw[show s.den.fr=s.fr from rfl,N]at hr;simp only[rel]at hr⊢;obtain⟨h1,k,J⟩:=hr;exact⟨h1,⟨.vec ks.length (ae+1) ((rows.take n).map (aH ks)),bC (aK q),rfl,fun v hv=>by simp[ad.aG]at hv; omega⟩,fun _=>J ⟨_,q,rfl⟩⟩
 ·simp only [al.den]
  rw[M];exact hle.toM
theorem ZX{m:Nat}{ks:List Kd}{s:al}:bl m s.den (al.den ⟨s.fr,s.H++[.vec ks 0 []]⟩):=fun E a d=>by
 have hH:E.H=aj s.H:=d.H;have hle:E.le (E.push E.w (.vec ks.length 0 []) none):=Env.kl d.heap.len (Ext.refl _) (fun b n h=>by cases h);have q:aN (E.push E.w (.vec ks.length 0 []) none) E.H.length (.vec ks.length 0 []):=by
  simp only[aN,Env.push];refine .inl ⟨?_,trivial⟩;rw[iM (by rw[d.heap.len]; exact aD _),d.heap.len,nU];rfl
 have B:aq (E.push E.w (.vec ks.length 0 []) none):=aq.push d.heap (Ext.refl _) (fun b n h=>by cases h) q;have k:(al.den ⟨s.fr,s.H++[.vec ks 0 []]⟩).H=E.H++[.vec ks.length 0 []]:=by
  rw[hH];simp[al.den,aj,ah.den]
 refine⟨E.loc++[none],E.X,?_,?_⟩
 ·rw [k]
  exact⟨k.symm,dK hle _ d.fr,d.defers,B⟩
 ·rw [k]
  exact hle.toM
theorem ZY{m:Nat}{s:al}:bl m s.den (al.den ⟨s.fr,s.H++[.raw .eo]⟩):=fun E a d=>by
 have hH:E.H=aj s.H:=d.H;have hle:E.le (E.push E.w (.eo) none):=Env.kl d.heap.len (Ext.refl _) (fun b n h=>by cases h);have q:aN (E.push E.w (.eo) none) E.H.length (.eo):=by
  simp only[aN,Env.push];rw[iM (by rw[d.heap.len]; exact aD _),d.heap.len,nU];rfl
 have B:aq (E.push E.w (.eo) none):=aq.push d.heap (Ext.refl _) (fun b n h=>by cases h) q;have k:(al.den ⟨s.fr,s.H++[.raw .eo]⟩).H=E.H++[.eo]:=by
  rw[hH];simp[al.den,aj,ah.den]
 refine⟨E.loc++[none],E.X,?_,?_⟩
 ·rw [k]
  exact⟨k.symm,dK hle _ d.fr,d.defers,B⟩
 ·rw [k]
  exact hle.toM
theorem ZZ{m:Nat}{slot l:Nat}{s:al}(h:(A5 slot l s).1=true):bl m s.den (A5 slot l s).2.den:=by
 unfold A5 at h⊢;split
 case h_2=>exact bl.refl _
 rename_i id I;split
 case h_2=>exact bl.refl _
 rename_i K ks cl hid;simp only[I,hid]at h;intro E a d;have hH:E.H=aj s.H:=d.H;have B:E.H[id]? = some (.map [] cl):=by rw[hH]; exact bg hid
 obtain⟨h1,q⟩:=W9 (w:=ks.length) d.heap B (by rw[hH]; exact h);have k:aj (s.H.set id (.aX l K ks [] cl))=E.H.set id (.aX l ks.length [] cl):=by rw[db,hH]; rfl
 refine⟨E.loc,E.X,?_,?_⟩
 ·simp only [al.den]
  rw[k];exact⟨rfl,dK q _ d.fr,d.defers,h1⟩
 ·simp only [al.den]
  rw[k];exact q.toM
theorem Z0{m:Nat}{slot l:Nat}{KI VI:Ct}{s:al}(h:(A_ slot l KI VI s).1=true):bl m s.den (A_ slot l KI VI s).2.den:=by
 unfold A_ at h⊢;split
 case h_2=>exact bl.refl _
 rename_i id I;split
 case h_2=>exact bl.refl _
 rename_i K V cl hid;simp only[I,hid]at h;intro E a d;have hH:E.H=aj s.H:=d.H;have B:E.H[id]? = some (.map [] cl):=by rw[hH]; exact bg hid
 obtain⟨h1,q⟩:=LD d.heap B (by rw[hH]; exact h);have k:aj (s.H.set id (.mm l K KI VI [] [] cl))=E.H.set id (.mm l [] [] cl):=by rw[db,hH]; rfl
 refine⟨E.loc,E.X,?_,?_⟩
 ·simp only [al.den]
  rw[k];exact⟨rfl,dK q _ d.fr,d.defers,h1⟩
 ·simp only [al.den]
  rw[k];exact q.toM
theorem Z1{m:Nat}{slot c l:Nat}{KI VI:Ct}{s:al}(h:(A' slot c l KI VI s).1=true):bl m s.den (A' slot c l KI VI s).2.den:=by
 unfold A' at h⊢;split
 case h_2=>exact bl.refl _
 rename_i a _ _ _ _ I;split
 case h_2=>exact bl.refl _
 rename_i cells J;split
 case h_2=>exact bl.refl _
 rename_i id M;split
 case h_2=>exact bl.refl _
 rename_i K V rows cl hid;simp only[I,J,M,hid,tS]at h;obtain⟨h,he⟩:=h;have he:rows=[]:=by cases rows with|nil=>rfl|cons _ _=>cases he
 subst he;intro E act d;have hH:E.H=aj s.H:=d.H;have B:E.H[id]? = some (.map [] cl):=by rw[hH]; exact bg hid
 obtain⟨h1,q⟩:=LD d.heap B (by rw[hH]; exact h);have k:aj (s.H.set id (.mm l K KI VI [] [] cl))=E.H.set id (.mm l [] [] cl):=by rw[db,hH]; rfl
 refine⟨E.loc,E.X,?_,?_⟩
 ·simp only [al.den]
  rw[k];exact⟨rfl,dK q _ d.fr,d.defers,h1⟩
 ·simp only [al.den]
  rw[k];exact q.toM
theorem aq.forget{E:Env}(H:aq E){id l0:Nat}{o:ad}(hid:E.H[id]? = some o)(hlab:o.label=some l0)(hver:o.aG = some 0) :
  aq { w:=E.w,H:=E.H.set id (.vec 0 1 []),loc:=E.loc.set id none,X:=E.X.re (iB E.X.r l0) }∧E.le { w:=E.w,H:=E.H.set id (.vec 0 1 []),loc:=E.loc.set id none,X:=E.X.re (iB E.X.r l0) }:=by
 have M:=aK hid;have hltl:id<E.loc.length:=by rw[H.len]; exact M
 have N:∀(i:Nat) x,(E.H.set id (.vec 0 1 []))[i]? = some x→(i=id∧x=.vec 0 1 [])∨(i≠id∧E.H[i]? = some x):=fun i x hi=>by
  by_cases d:i=id
  ·subst d
   rw[bC M]at hi;cases hi;exact .inl ⟨rfl,rfl⟩
  ·rw [aZ (Ne.symm d)] at hi
   exact .inr ⟨d,hi⟩
 have J:∀(i b m:Nat),(E.loc.set id none)[i]? = some (some (b,m))→i≠id∧E.loc[i]? = some (some (b,m)):=fun i b m hi=>by
  by_cases d:i=id
  ·subst d
   rw[bC hltl]at hi;cases hi
  ·rw [aZ (Ne.symm d)] at hi
   exact⟨d,hi⟩
 have hle:E.le { w:=E.w,H:=E.H.set id (.vec 0 1 []),loc:=E.loc.set id none,X:=E.X.re (iB E.X.r l0) }:=by
  refine⟨fun i ae O=>?_,aD _,fun _ _ _=>rfl,fun b hb hno=>?_,fun i ae O I=>?_,⟨rfl,rfl⟩,fun l h hh=>?_,.refl _,fun i l x h1 q U=>?_⟩
  rotate_right
  ·by_cases d : i = id
   ·subst d
    obtain⟨y,B,V⟩:=U;rw[show (E.H.set i (.vec 0 1 []))[i]? = some (.vec 0 1 []) from bC M]at B;cases B;cases V
   ·have W : l ≠ l0 := fun W => d (H.uniq i id x o l h1 hid (ad.lO q) (by rw [W]; exact hlab))
    exact⟨⟨[],by rw[dh]; exact if_neg W⟩,x,by simp only[]; rw[aZ (Ne.symm d)]; exact h1,q⟩
  ·obtain ⟨x, h1, q⟩ := O
   by_cases d:i=id
   ·subst d
    rw[hid]at h1;cases h1;have:=q.2 0 hver;exact⟨.vec 0 1 [],by simp only[]; rw[bC M],rfl,fun v U=>by cases U; omega⟩
   ·exact⟨x,by simp only[]; rw[aZ (Ne.symm d)]; exact h1,q⟩
  ·rintro (⟨i, c, hi⟩ | ⟨l, h, m, hm⟩)
   ·exact hno (.inl ⟨i,c,(J i b c hi).2⟩)
   ·exact hno (.inr ⟨l,h,m,(iV hm).1⟩)
  ·obtain ⟨x, h1, q⟩ := I
   rcases N i x h1 with⟨rfl,rfl⟩|⟨d,B⟩
   ·cases q
    obtain⟨y,B,V⟩:=O;rw[hid]at B;cases B;have:=V.2 0 hver;omega
   ·exact⟨⟨x,B,q⟩,aZ (Ne.symm d)⟩
  ·refine ⟨?_, fun y hy => (iV hy).1⟩
   show h<(iB E.X.r l0 l).length
   rw[LA];exact hh
 refine⟨⟨by simp[H.len],fun i j b m n hi hj=>H.inj i j b m n (J _ _ _ hi).2 (J _ _ _ hj).2,fun i b m hi=>H.lt i b m (J _ _ _ hi).2,H.X,fun i x hi=>?_,H.fH.bH hle.toC,fun l h l' h' b m n h1 q=>H.e9 _ _ _ _ _ _ _ (iV h1).1 (iV q).1,fun i b m l h n hi hk=>H.cY _ _ _ _ _ _ (J _ _ _ hi).2 (iV hk).1,fun l h b m hk=>H.ct _ _ _ _ (iV hk).1,fun i k x y l hi hk h1 q=>?_,fun l hn h y hy=>?_⟩,hle⟩
 ·rcases N i x hi with ⟨rfl, rfl⟩ | ⟨d, B⟩
  ·simp only [aN]
   exact .inl ⟨bC hltl,trivial⟩
  ·refine kT (fun a _ hr => bI hle a hr) (aZ (Ne.symm d)) (fun _ _ _ => rfl) (fun l I => ?_) (H.obj i x B)
   have hne2:l≠l0:=fun e=>d (H.uniq i id x o l B hid I (by rw[hlab,e]));exact⟨if_neg hne2,fun _ _ _ _=>rfl⟩
 ·have key:∀ (i:Nat) x,(E.H.set id (.vec 0 1 []))[i]? = some x→x.label=some l→E.H[i]? = some x:=by
   intro i x hi I;rcases N i x hi with⟨rfl,rfl⟩|⟨d,B⟩
   ·cases I
   ·exact B
  exact H.uniq i k x y l (key i x hi h1) (key k y hk q) h1 q
 ·obtain ⟨g1, g2⟩ := iV hy
  refine H.gH l (fun i x hi I=>?_) h y g1;by_cases e:i=id
  ·subst e
   rw[hid]at hi;cases hi;exact g2 (by rw[hlab]at I; cases I; rfl)
  ·exact hn i x (by show (E.H.set id (.vec 0 1 []))[i]? = _; rw[aZ (Ne.symm e)]; exact hi) I
theorem aq.Z2{E:Env}(H:aq E){id:Nat}{o:ad}(hid:E.H[id]? = some o)(hlab:o.label=none)(q:o.aG = some 0) :
  aq { w:=E.w,H:=E.H.set id (.vec 0 1 []),loc:=E.loc.set id none,X:=E.X }∧E.le { w:=E.w,H:=E.H.set id (.vec 0 1 []),loc:=E.loc.set id none,X:=E.X }:=by
 have M:=aK hid;have J:id<E.loc.length:=by rw[H.len]; exact M
 have d:∀ v,(ad.vec 0 1 []).aG = some v→∀ u,o.aG = some u→u<v:=fun v k u hu=>by
  rw[q]at hu;cases hu;cases k;exact Nat.zero_lt_one
 have B:∀ v u,(ad.vec 0 1 []).aG = some v→o.aG = some u→u≤v:=fun v u k hu=>Nat.le_of_lt (d v k u hu);have I:o.born=true→o.aG = none→(ad.vec 0 1 []).aG = none:=fun _ h=>by rw[q]at h; cases h
 refine⟨aq.lR H hid (aD _) (fun _ _ _=>rfl) (fun _ _ h=>by cases h) (.inr d) B I ?_ (hlab:=hlab),Env.km hid H.len (aD _) (fun _ _ _=>rfl) (fun _ _ h=>by cases h) (.inr d) B I (hmm:=.inl (ad.zg hlab))⟩;simp only[aN];exact .inl ⟨bC J,trivial⟩
theorem Z3{m:Nat}{id:Nat}{s:al}:bl m s.den (FM id s).2.den:=by
 have q:∀ o:ah,s.H[id]? = some o→o.den.label=none→o.den.aG = some 0→bl m s.den (al.den ⟨s.fr,s.H.set id (.vec [] 1 [])⟩):=fun o hid h1 B=>by
  intro E a d;have hH:E.H=aj s.H:=d.H;obtain⟨g1,g2⟩:=aq.Z2 d.heap (by rw[hH]; exact bg hid) h1 B;have k:aj (s.H.set id (.vec [] 1 []))=E.H.set id (.vec 0 1 []):=by rw[db,hH]; rfl
  refine⟨E.loc.set id none,E.X,?_,?_⟩
  ·simp only [al.den]
   rw[k];exact⟨rfl,dK g2 _ d.fr,d.defers,g1⟩
  ·simp only [al.den]
   rw[k];exact g2.toM
 unfold FM;split
 ·rename_i hid
  exact q _ hid rfl rfl
 ·rename_i hid
  exact q _ hid rfl rfl
 ·rename_i l K KI VI rows mem cl hid
  intro E a d;have hH:E.H=aj s.H:=d.H;obtain⟨g1,g2⟩:=aq.forget (l0:=l) d.heap (by rw[hH]; exact bg hid) rfl rfl;have k:aj (s.H.set id (.vec [] 1 []))=E.H.set id (.vec 0 1 []):=by rw[db,hH]; rfl
  refine⟨E.loc.set id none,E.X.re (iB E.X.r l),?_,?_⟩
  ·simp only [al.den]
   rw[k];exact⟨rfl,dK g2 _ d.fr,d.defers,g1⟩
  ·simp only [al.den]
   rw[k];exact g2.toM
 ·exact bl.refl _
theorem Z4{m:Nat}{slot:Nat}{s:al}(h:(A9 slot s).1=true):bl m s.den (A9 slot s).2.den:=by
 unfold A9 at h⊢;split
 case h_2=>exact bl.refl _
 rename_i id O;split
 case h_2=>exact bl.refl _
 rename_i l K ks rows cl hid;simp only[O,hid]at h;intro E a d;have hH:E.H=aj s.H:=d.H;have B:E.H[id]? = some (.aX l ks.length (fA K ks rows) cl):=by rw[hH]; exact bg hid
 have ho:=d.heap.obj id _ B;simp only[aN]at ho;obtain⟨b,n,ms,g1,g2,g3,hh,k1,k2⟩:=ho;obtain⟨h1,J⟩:=aq.LB (o':=.map (c_ K (.one (.list ks)) rows) cl) d.heap B rfl rfl rfl fun hle=>by
  simp only[aN];refine⟨b,n,ms,g1,g2,?_⟩;rw[eG]at g3⊢;obtain⟨q1,q2⟩:=g3;refine⟨by simpa[c_,cG,fA]using q1,fun i x e k he=>?_⟩;unfold c_ at k;rw[bU]at k;obtain⟨r,hr,rfl⟩:=ef.1 k;have M:=tF (K:=K) (ks:=ks) hr;have U:(gi r 3).bool=true:=dB.1 h r (eZ hr);obtain⟨N,a2,a3,a4,a5⟩:=q2 i _ e (vO M) he;rw[Al]at N a4;refine⟨bI hle _ N,?_,a3,a4,rfl⟩;have V:=k2 i _ ((iD r).map (aH ks)) e M (by simp only[ic,U,cond_true]) he;show rel _ (.listF ks (iD r)) e.val
  rw[jx];simp only[rel];have W:ft ((iD r).map (aH ks)):=by
   intro r hr;obtain⟨g,_,rfl⟩:=cF.1 hr;exact gb ks g
  refine⟨W,?_⟩;rcases V with⟨s1,base,s2⟩|⟨bb,mm,s1,s2,s3,s4,s5,s6⟩
  ·rw [s1]
   exact⟨base,0,s2,aD _,.inl rfl⟩
  ·refine ⟨_, mm, s2, s4, .inr ⟨bb, 0, rfl, ⟨(d.heap.ct _ _ _ _ s1).1, ?_, (d.heap.ct _ _ _ _ s1).2⟩, kS (fun a _ hr => bI hle a hr) rfl s6⟩⟩
   rintro(⟨j,c',q⟩|⟨l',k',c',q⟩)
   ·exact d.heap.cY _ _ _ _ _ _ q s1
   ·obtain ⟨j1, j2⟩ := iV q
    exact j2 (d.heap.e9 _ _ _ _ _ _ _ j1 s1).1
 have I:aj (s.H.set id (.map K (.one (.list ks)) rows cl))=E.H.set id (.map (c_ K (.one (.list ks)) rows) cl):=by rw[db,hH]; rfl
 refine⟨E.loc,E.X.re (iB E.X.r l),?_,?_⟩
 ·simp only [al.den]
  rw[I];exact⟨rfl,dK J _ d.fr,d.defers,h1⟩
 ·simp only [al.den]
  rw[I];exact J.toM
theorem Z5{m:Nat}{slot:Nat}{s:al}(h:(A7 slot s).1=true):bl m s.den (A7 slot s).2.den:=by
 unfold A7 at h⊢;split
 case h_2=>exact bl.refl _
 rename_i id V;split
 case h_2=>exact bl.refl _
 rename_i l K ks rows cl hid;simp only[V,hid]at h;intro E a d;have hH:E.H=aj s.H:=d.H;have I:E.H[id]? = some (.aX l ks.length (fA K ks rows) cl):=by rw[hH]; exact bg hid
 have ho:=d.heap.obj id _ I;simp only[aN]at ho;obtain⟨b,n,ms,g1,g2,g3,hh,k1,k2⟩:=ho;obtain⟨h1,N⟩:=aq.LB (o':=.map (c_ K (.one (.list ks)) rows) cl) d.heap I rfl rfl rfl fun hle=>by
  simp only[aN];refine⟨b,n,ms,g1,g2,?_⟩;rw[eG]at g3⊢;obtain⟨q1,q2⟩:=g3;refine⟨by simpa[c_,cG,fA]using q1,fun i x e q he=>?_⟩;unfold c_ at q;rw[bU]at q;obtain⟨r,hr,rfl⟩:=ef.1 q;have O:=tF (K:=K) (ks:=ks) hr;have J:((gi r 3).bool||(gi r 4).bool)=true:=dB.1 h r (eZ hr);obtain⟨U,a2,a3,a4,a5⟩:=q2 i _ e (vO O) he;rw[Al]at U a4;refine⟨bI hle _ U,?_,a3,a4,rfl⟩;cases k:(gi r 3).bool with
  | false =>
   rw[k,Bool.false_or]at J;have ev:(fP (ic K ks r).1).2=.listF ks (iD r):=by simp only[ic,k,J]; rfl
   rw[ev]at a2;exact bI hle _ a2
  |true =>
  have W:=k2 i _ ((iD r).map (aH ks)) e O (by simp only[ic,k,cond_true]) he;show rel _ (.listF ks (iD r)) e.val
  rw[jx];simp only[rel];have hcl:ft ((iD r).map (aH ks)):=by
   intro r hr;obtain⟨g,_,rfl⟩:=cF.1 hr;exact gb ks g
  refine⟨hcl,?_⟩;rcases W with⟨s1,base,s2⟩|⟨bb,mm,s1,s2,s3,s4,s5,s6⟩
  ·rw [s1]
   exact⟨base,0,s2,aD _,.inl rfl⟩
  ·refine ⟨_, mm, s2, s4, .inr ⟨bb, 0, rfl, ⟨(d.heap.ct _ _ _ _ s1).1, ?_, (d.heap.ct _ _ _ _ s1).2⟩, kS (fun a _ hr => bI hle a hr) rfl s6⟩⟩
   rintro(⟨j,c',B⟩|⟨l',k',c',B⟩)
   ·exact d.heap.cY _ _ _ _ _ _ B s1
   ·obtain ⟨j1, j2⟩ := iV B
    exact j2 (d.heap.e9 _ _ _ _ _ _ _ j1 s1).1
 have M:aj (s.H.set id (.map K (.one (.list ks)) rows cl))=E.H.set id (.map (c_ K (.one (.list ks)) rows) cl):=by rw[db,hH]; rfl
 refine⟨E.loc,E.X.re (iB E.X.r l),?_,?_⟩
 ·simp only [al.den]
  rw[M];exact⟨rfl,dK N _ d.fr,d.defers,h1⟩
 ·simp only [al.den]
  rw[M];exact N.toM
theorem Z6{m:Nat}{slot l:Nat}{s:al}(h:(A6 slot l s).1=true):bl m s.den (A6 slot l s).2.den:=by
 unfold A6 at h⊢;split
 case h_2=>exact bl.refl _
 rename_i id J;split
 case h_2=>exact bl.refl _
 rename_i K ks rows cl hid;simp only[J,hid]at h;intro E a d;have hH:E.H=aj s.H:=d.H;have I:E.H[id]? = some (.map (c_ K (.one (.list ks)) rows) cl):=by rw[hH]; exact bg hid
 obtain⟨h1,q⟩:=W_ (w:=ks.length) (es:=fA K ks (rows.map wW)) d.heap I (by
  simp only[cG,fA,c_,List.map_map];rfl) (fun x B=>by
  unfold fA at B;obtain⟨r,hr,rfl⟩:=cF.1 B;obtain⟨r0,_,rfl⟩:=cF.1 hr;rfl) (by rw[hH]; exact h)
 have k:aj (s.H.set id (.aX l K ks (rows.map wW) cl))=E.H.set id (.aX l ks.length (fA K ks (rows.map wW)) cl):=by rw[db,hH]; rfl
 refine⟨E.loc,E.X,?_,?_⟩
 ·simp only [al.den]
  rw[k];exact⟨rfl,dK q _ d.fr,d.defers,h1⟩
 ·simp only [al.den]
  rw[k];exact q.toM
theorem Z7{m:Nat}(h:Hint)(s:al)(hb:(Ba h s).1=true):bl m s.den (Ba h s).2.den:=by
 cases h with
 |freeze i=>exact ZS hb
 | NS i ks =>
  simp only[Ba];split
  ·rename_i h; exact MZ h
  ·exact bl.refl _
 |gz i c ks=>exact ZT
 |NT i=>exact ZW hb
 |NU i c=>exact ZU hb
 |hole ks=>exact ZX
 |tZ=>exact ZY
 |aX i l=>exact ZZ hb
 |AZ i=>exact Z4 hb
 |A0 i l=>exact Z6 hb
 |A1 i=>exact Z5 hb
 |mm i l KI VI=>exact Z0 hb
 |t_ i c l KI VI=>exact Z1 hb
 |forget i=>exact Z3
 |NV i c ks=>exact ZV
theorem NW{m:Nat}:∀(d:List Hint) (s:al),(wX d s).1=true→bl m s.den (wX d s).2.den
 | [],s,_=>bl.refl _
 | h::d,s,hb=>by
  simp only[wX]at hb⊢;simp only[az]at hb;exact(Z7 h s hb.1).trans (NW d _ hb.2)
def NX:List (Nat × List Hint)→Nat→List Hint
 | [],_=>[]
 | (i,d)::l,id=>match ab id i with
  |true=>d
  |false=>NX l id
def LT.gA(L:LT)(d:List (Nat × List Hint)):LT:=⟨L.loops,fun id s=>wX (NX d id) s,L.wE⟩
theorem nk{P:Program}{m:Nat}{c:Code}(d:List (Nat × List Hint)):ax P m (ay.gA d) c:=⟨fun _ _ _ _ _ h=>(nomatch h),fun id s hb=>NW _ s hb,fun _ _ _ _ _ h=>(nomatch h)⟩
end Go.AL

namespace Go.AL
open Go
variable [Dr]
end Go.AL

namespace Go.AL
open Go Go.ChangeMaps
variable [Dr]
theorem bQ.j6{s:St}{E:Env}{a:Act}(d:bQ s E a)(t:Tmp){v:AV}{u:Value}(k:rel E v u):bQ (s.put (some t) v s.H) E (a.put (some t) u) :=
 ⟨d.H,LN d.fr (Env.le.refl E) (some t) k,by rw[put_defers]; exact d.defers,d.heap⟩
theorem rN{m:Nat}{E E':Env}(h:E.dL m E'):E.bH E' :=
 ⟨fun b hb=>⟨⟨Nat.lt_of_lt_of_le hb.1 h.size,h.own b hb.1 hb.2.1,fun d=>hb.2.2 ((h.X b hb.1).1.1 d)⟩,h.same b hb.1 hb.2.1⟩⟩
theorem lr{P:Program}{ops:Array Oper}{Q:Exit→Act→World→Prop}{i:Nat}{o:Oper}{K:Act→World→Prop}{a:Act}{w w':World}{u:Value}
  (hi:ops[i]? = some o) (hg:o.guard=none) (hr:(execOp a.eval o).run P w=.ok (.value u) w') (d:∀ c,o.op≠.defer c) (ro:Option Nat) (k:K (a.put o.dst u) w'):wpOpIn (fz ro) 0 P ops Q i K a w:=by
 unfold wpOpIn;simp only[hi];rw[if_pos (by simp[Region.wanted,hg])];unfold Oper.wpIn;rw[Oper.semAt_eq _ _ _ d,hr];exact⟨fun _ _=>trivial,k⟩
theorem Bb{P:Program}{pf:FuncId→Bool}{ops:Array Oper}{Q:Exit→Act→World→Prop}(ro:Option Nat):∀(l:List Oper) (k:Nat) (s s':St) (E:Env) (a:Act) (rest:List Nat),
  (∀(j:Nat) (o:Oper),l[j]? = some o→ops[k+j]? = some o)→gg P pf ops l s s'→bQ s E a→(∀ d w',fx E s' d w'→wpOpsIn (fz ro) 0 P ops Q rest d w')→wpOpsIn (fz ro) 0 P ops Q (pk k l.length++rest) a E.w
 | [],k,s,s',E,a,rest,_,h,q,B=>by
  simp only[gg]at h;subst h;exact B _ _ (fx.refl q)
 | o::l,k,s,s',E,a,rest,I,h,q,B=>by
  obtain⟨v,H',O,J⟩:=h;simp only[cn,yX,lH];rw[wpOpsIn_cons];refine Ek q (by simpa using I 0 o rfl) O (fun d w' U=>?_) ro;obtain⟨M,r',h1,V⟩:=U;refine Bb ro l (k+1) _ s' { w:=w',H:=H',loc:=M,X:=E.X.re r' } d rest (fun j x W=>?_) J h1 (fun a2 w2 N=>B a2 w2 (fx.after V N));have:=I (j+1) x (by simpa using W)
  rwa [show k+1+j=k+(j+1) from by omega]
theorem qf{a:Act}{t:Tmp}{u:Value}(h:t<a.tmps.size):(a.put (some t) u).eval (.tmp t)=u:=by
 simp[Act.eval,yW,h]
def Tree.jF:Tree→Option (bO × al)
 |.fail=>none
 |.done x s=>some (x,s)
 | .ask b t e=>match b with
  |true=>t.jF
  |false=>e.jF
 | .side b t=>match b with
  |true=>t.jF
  |false=>none
theorem ub:∀{t:Tree} {x:bO} {s:al},t.jF=some (x,s)→t.holds fun d s'=>d=x∧s'=s
 |.fail,_,_,h=>by cases h
 | .done _ _,_,_,h=>by
  cases h;exact⟨rfl,rfl⟩
 | .ask b t e,_,_,h=>by
  cases b with
  |true=>exact⟨fun _=>ub (t:=t) h,fun h=>(nomatch h)⟩
  |false=>exact⟨fun h=>(nomatch h),fun _=>ub (t:=e) h⟩
 | .side b t,_,_,h=>by
  cases b with
  |true=>exact⟨rfl,ub (t:=t) h⟩
  |false=>cases h
def cO(st:List G→List G→Option (List G))(a7:List G→Nat):List (List G)→List G→Option (List G)
 | [],d=>some d
 | r::rs,d=>match st r d with
  |some d'=>bif ab (a7 d') (a7 d) then cO st a7 rs d' else none
  |none=>none
theorem wY{st:List G→List G→Option (List G)}{a7:List G→Nat}:∀(p q:List (List G)) (d:List G),cO st a7 (p++q) d=(cO st a7 p d).bind (cO st a7 q)
 | [],_,_=>rfl
 | r::p,q,d=>by
  simp only[lH,cO];cases st r d with
  |none=>rfl
  | some d' =>
   simp only[];cases ab (a7 d') (a7 d)with
   |false=>rfl
   |true=>exact wY p q d'
def da(r:List G):Nat:=(gi r 2).int.toNat
theorem Bc{f:List G→Nat}{r:List G}:∀{l:List (List G)} {seen:Array Nat},(l.map f).Nodup→r∈l→seen.contains (f r)=false →
  (l.filter fun x => !seen.contains (f x)).Perm (r::l.filter fun x => !(seen.push (f r)).contains (f x))
 | [],_,_,h,_=>by cases h
 | x::l,seen,hn,hm,d=>by
  obtain⟨k,hn⟩:=lL.1 hn;rcases bN.1 hm with rfl|hm
  ·have e:(l.filter fun x => !(seen.push (f r)).contains (f x))=l.filter fun x => !seen.contains (f x):=by
    apply List.filter_congr;intro y B;have:(f y==f r)=false:=by
     rw[beq_eq_false_iff_ne];intro e;exact k (e▸cF.2 ⟨y,B,rfl⟩)
    rw[contains_push,this,vu]
   rw[List.filter_cons_of_pos (by rw[d]; rfl),List.filter_cons_of_neg (by rw[contains_push]; simp),e]
  ·have aA:(f x==f r)=false:=by
    rw[beq_eq_false_iff_ne];intro e;exact k (e▸cF.2 ⟨r,hm,rfl⟩)
   have q:=Bc hn hm d;simp only[List.filter_cons,contains_push seen (f r) (f x),aA,vu];cases seen.contains (f x)with
   |true=>simpa using q
   | false =>
    simp only[Bool.not_false,if_true];exact(List.Perm.cons x q).trans (List.Perm.swap r x _)
structure fK where
 inv:ng
 ps:List jE
 opens:List (Nat × List Kd)
 K:Ct
 V:Ct
 id:Nat
 x:Tmp
 y:Tmp
 it:Tmp
 t1:Tmp
 t2:Tmp
 t3:Tmp
 a7:List G→Nat
 init:List G→Nat→List G
 side:List G→Nat→Bool
 st:List G→List G→Option (List G)
def fK.rs(sp:fK)(r d:List G):al:=⟨(aM sp.inv d).fr.set sp.t3 (.tuple [sp.K.av (gi r 0).row,sp.V.av (gi r 1).row]),(aM sp.inv d).H⟩
def fK.s2(sp:fK)(s:al)(b:Nat):al:=⟨s.fr.set sp.it (.lit (.pointer (some ⟨b,0,none⟩))),s.H.set sp.id (.raw .dead)⟩
def uc(m:Nat)(inv:ng)(ps:List jE)(x:bO)(s:al):Option (Bool × List G) :=
 match x with
 |.normal=>iq m inv ps s
 |_=>none
structure oJ (P:Program) (sp:fK) (bp bS bt:Array Oper):Prop where
 r0:∃ o2 ty,bp.toList=bp.toList.dropLast++[o2]∧o2.guard=none∧o2.op=.range ty (.tmp sp.y)∧o2.dst=some sp.it∧(dx P ty).isSome=true
 r1:∃ o1 o2,bS.toList=[o1,o2]∧o1.guard=none∧o1.op=.next (.tmp sp.it) false∧o1.dst=some sp.t1∧o2.guard=none∧o2.op=.extract (.tmp sp.t1) 0∧o2.dst=some sp.t2
 r2:∃ o1 l,bt.toList=o1::l∧o1.guard=none∧o1.op=.entry (.tmp sp.it)∧o1.dst=some sp.t3
def l8(r0 b0 r1 b1 r2:Nat)(bp bS bt:Array Oper)(t2:Tmp)(body:Code):Code :=
 .seq (.region r0 bp false) (.block b0 (.loop (.seq (.region r1 bS false) (.seq (.cond (.tmp t2) .skip (.exit b0)) (.block b1 (.seq (.region r2 bt false) body))))))
theorem NY{ro:Option Nat}{r0 b0 r1 b1 r2:Nat}{bp bS bt:Array Oper}{t2:Tmp}{body:Code}(h:fj ro (l8 r0 b0 r1 b1 r2 bp bS bt t2 body)):fj ro body:=h.imp id fun h=>by
 simpa[l8,fy]using h
section range
variable {P:Program} {τ:ai} {L:LT} {m:Nat} {sp:fK} {bp bS bt:Array Oper} {body:Code}
def kF(P:Program)(τ:ai)(L:LT)(m:Nat)(sp:fK)(bt:Array Oper)(body:Code):Prop :=
 ∀ r d,(nc P τ bt (bt.toList.drop 1) (sp.rs r d) (fun s=>dN P τ L body s .done)).leaf (uc m sp.inv sp.ps)=sp.st r d
theorem NZ(hm:P.follows .mixedOrders=true)(B:ak P τ)(I:ax P m L body)(hr:kF P τ L m sp bt body){r d d':List G}(h:sp.st r d=some d') :
  ∃ q:al,gg P τ.pf bt (bt.toList.drop 1) (sp.rs r d).den q.den∧cI P m body q.den .normal (aM sp.inv d').den:=by
 rw[←hr r d]at h;obtain⟨q,h1,J⟩:=AA B (Q:=fun x s=>uc m sp.inv sp.ps x s=some (true,d')) (oH h);obtain⟨x,M,N,k⟩:=gh hm B body q .done I J;have k:uc m sp.inv sp.ps x M=some (true,d'):=k;unfold uc at k;split at k
 ·exact⟨q,h1,te N (ln k)⟩
 ·cases k
def FO(P:Program)(τ:ai)(m:Nat)(sp:fK)(bt:Array Oper)(body:Code)(b1:Nat):Prop:=∀ r d d',sp.st r d=some d' →
 ∃(k:al) (x:bO),(x=.normal∨x=.exit b1)∧gg P τ.pf bt (bt.toList.drop 1) (sp.rs r d).den k.den∧cI P m body k.den x (aM sp.inv d').den
theorem Z8(hm:P.follows .mixedOrders=true)(k:ak P τ)(q:ax P m L body)(hr:kF P τ L m sp bt body)(b1:Nat):FO P τ m sp bt body b1:=fun r d d' h=>by
 obtain⟨B,h1,I⟩:=NZ hm k q hr h;exact⟨B,.normal,.inl rfl,h1,I⟩
def N0(m:Nat)(sp:fK)(E:Env)(rows:List (List G))(d0:List G)(itb mb clock:Nat)(ms:Array MapEntry)(a:Act)(w:World):Prop :=
 ∃(d:List G) (loc:List (Option (Nat × Nat))) (X:XS) (seen:Array Nat) (last:Nat) (p:List (List G)),
  cO sp.st sp.a7 p d0=some d∧sp.a7 d=itb∧(p++rows.filter fun x => !seen.contains (da x)).Perm rows ∧
  bQ (aM sp.inv d).den { w:=w,H:=(aM sp.inv d).den.H,loc:=loc,X:=X } a∧E.dL m { w:=w,H:=(aM sp.inv d).den.H,loc:=loc,X:=X }∧X itb ∧
  w.heap[itb]? = some (.mapIter (some mb) clock seen last)∧clock≤last∧w.heap[mb]? = some (.map ms clock) ∧
  ¬ Env.own { w:=w,H:=(aM sp.inv d).den.H,loc:=loc,X:=X } mb∧bD { w:=w,H:=(aM sp.inv d).den.H,loc:=loc,X:=X } (c_ sp.K sp.V rows) ms.toList
theorem bQ.qg{s:St}{E:Env}{a:Act}(d:bQ s E a){t:Tmp}(hu:s.fr[t]? = some .undef)(u:Value):bQ s E (a.put (some t) u):=by
 have h:=d.j6 t (v:=.undef) (u:=u) (by simp[rel]);have e:s.put (some t) .undef s.H=s:=by
  simp only[St.put,jT,mV hu]
 rwa [e]at h
theorem Bd{s:St}{E:Env}{a:Act}(k:bQ s E a){t:Tmp}{v:AV}(hu:s.fr[t]? = some v):t<a.tmps.size:=by
 have h1:s.fr.length=a.tmps.size:=by simpa using(n_.1 k.fr).1
 have d:t<s.fr.length:=aK hu;rw[h1]at d;exact d
theorem Be{o:Oper}{t:Tmp}{a:Act}{w:World}{cs:Array Value}{u:Value}(d:o.op=.extract (.tmp t) 0)(k:a.eval (.tmp t)=.tuple cs)(q:cs[0]? = some u) :
  (execOp a.eval o).run P w=.ok (.value u) w:=by
 obtain⟨dst,op,type,pos,after,guard⟩:=o;subst d;exact kY (by simp[Instr.extract,k,q])
theorem Bf{o:Oper}{t:Tmp}{a:Act}{w w':World}{x u:Value}(d:o.op=.next (.tmp t) false)(k:a.eval (.tmp t)=x)(h:(Instr.next x false o.type).run P w=.ok u w') :
  (execOp a.eval o).run P w=.ok (.value u) w':=by
 obtain⟨dst,op,type,pos,after,guard⟩:=o;subst d;subst k;exact kY h
theorem N1{o:Oper}{t:Tmp}{a:Act}{w w':World}{x u:Value}(d:o.op=.entry (.tmp t))(k:a.eval (.tmp t)=x)(h:(Instr.entry x).run P w=.ok u w') :
  (execOp a.eval o).run P w=.ok (.value u) w':=by
 obtain⟨dst,op,type,pos,after,guard⟩:=o;subst d;subst k;exact kY h
theorem N2{o:Oper}{t:Tmp}{ty:TypeId}{a:Act}{w w':World}{x u:Value}(d:o.op=.range ty (.tmp t))(k:a.eval (.tmp t)=x)(h:(Instr.range ty x).run P w=.ok u w') :
  (execOp a.eval o).run P w=.ok (.value u) w':=by
 obtain⟨dst,op,type,pos,after,guard⟩:=o;subst d;subst k;exact kY h
theorem ud{w:World}{b:Nat}{o:Obj}(h:w.heap[b]? = some o):b<w.heap.size:=(Array.getElem?_eq_some_iff.1 h).1
theorem Bg{w:World}{r:Nat}{a:Option Nat}{b c:Nat}{s:Array Nat}(h:w.heap[r]? = some (.mapIter a b s c)):w.iterSeen r=s:=by
 unfold World.iterSeen;rw[h]
theorem Z9(hm:P.follows .mixedOrders=true)(ht:ak P τ)(hL:ax P m L body)(ho:oJ P sp bp bS bt)
  (hu1:∀ d,(aM sp.inv d).fr[sp.t1]? = some .undef) (hu2:∀ d,(aM sp.inv d).fr[sp.t2]? = some .undef) (hut:∀ d,(aM sp.inv d).fr[sp.it]? = some (.lit (.pointer (some ⟨sp.a7 d,0,none⟩))))
  {E:Env} {rows:List (List G)} {d0:List G} {itb mb clock:Nat} {ms:Array MapEntry} {r1 b0 b1 r2:Nat} (hr:FO P τ m sp bt body b1)
  (hsz:E.w.heap.size≤itb) (hn:(rows.map da).Nodup) (hlt:∀ r∈rows,da r<clock) (aA:mb≠itb)
  (hfold:∀ p,p.Perm rows→(cO sp.st sp.a7 p d0).isSome=true) {a:Act} {w:World} (hI:N0 m sp E rows d0 itb mb clock ms a w) (ro:Option Nat) (hro:fj ro body) :
  (Code.loop (.seq (.region r1 bS false) (.seq (.cond (.tmp sp.t2) .skip (.exit b0)) (.block b1 (.seq (.region r2 bt false) body))))).wpIn (fz ro) 0 P
   (fun e a1 N=>e=.exit b0∧∃ p d,p.Perm rows∧cO sp.st sp.a7 p d0=some d∧dE m E (aM sp.inv d).den a1 N) a w:=by
 obtain⟨o1,o2,e1,g1,p1,q1,g2,p2,q2⟩:=ho.r1;obtain⟨o3,l,e3,g3,p3,q3⟩:=ho.r2;refine wpIn_loop (N0 m sp E rows d0 itb mb clock ms) (fun _ w=>(leftOf ms (w.iterSeen itb)).size) hI fun a w hI=>?_;obtain⟨d,loc,X,seen,last,p,hf,had,hp,B,hle,hXi,hit,hcl,hmb,hown,hre⟩:=hI;have h10:bS[0]? = some o1:=by
  have:bS.toList[0]? = some o1:=by rw[e1]; rfl
  simpa using this
 have h11:bS[1]? = some o2:=by
  have:bS.toList[1]? = some o2:=by rw[e1]; rfl
  simpa using this
 have hsz1:bS.size=2:=by
  have:bS.toList.length=2:=by rw[e1]; rfl
  simpa using this
 have hiv:a.eval (.tmp sp.it)=.pointer (some ⟨itb,0,none⟩):=by
  have h:=B.eval (.tmp sp.it);have e:(aM sp.inv d).den.eval (.tmp sp.it)=.lit (.pointer (some ⟨sp.a7 d,0,none⟩)):=by
   show (aM sp.inv d).fr.getD sp.it .undef=_
   rw[bz,hut d];rfl
  rw[e]at h;simp only[rel]at h;rw[h,had]
 obtain⟨hlen,hen⟩:=eG.1 hre;have hl1:(c_ sp.K sp.V rows).length=rows.length:=by simp[c_]
 have U:∀(i:Nat) (e:MapEntry),ms.toList[i]? = some e→∃ r,rows[i]? = some r∧e.born=da r:=by
  intro i e hi;have h1:=aK hi;have q:i<rows.length:=by omega
  refine⟨rows[i],bf q,?_⟩;exact(hen i (sp.K.av (gi rows[i] 0).row,sp.V.av (gi rows[i] 1).row,(gi rows[i] 2).int.toNat) e (by simp[c_,q]) hi).2.2.1
 have hold:∀ x∈ms.toList,x.born<clock:=by
  intro x I;obtain⟨i,hi⟩:=pe I;obtain⟨r,h1,q⟩:=U i x hi;rw[q];exact hlt r (eZ h1)
 have hbn:(ms.toList.map (·.born)).Nodup:=by
  have:ms.toList.map (·.born)=rows.map da:=by
   apply List.ext_getElem?;intro i;simp only[bU];cases hi:ms.toList[i]? with
   | none =>
    have h1:=List.getElem?_eq_none_iff.1 hi;rw[List.getElem?_eq_none (by omega)];rfl
   | some e =>
    obtain⟨r,h1,q⟩:=U i e hi;rw[h1];simp[q]
  rw[this];exact hn
 refine wpIn_seq (wpIn_region ?_);rw[hsz1];show wpOpsIn (fz ro) 0 P bS _ [0,1] a w
 rw[wpOpsIn_cons];have hlt1:=Bd B (hu1 d);have hlt2:=Bd B (hu2 d);rcases run_next_at (P:=P) w o1.type itb mb clock last seen ms clock hit hmb hold hcl with⟨h0,hrun⟩|⟨e,he,N,hw1,hrun⟩
 ·refine lr h10 g1 (Bf p1 hiv hrun) (fun c e => by rw [p1] at e; cases e) ro ?_
  rw[q1,wpOpsIn_cons];refine lr h11 g2 (Be p2 (qf hlt1) rfl) (fun c e=>by rw[p2]at e; cases e) ro ?_;rw[q2];show (Code.seq _ _).wpIn (fz ro) 0 P _ _ w
  refine wpIn_seq (wpIn_cond_false (qf (by simpa[yW]using hlt2)) (wpIn_exit ?_));refine⟨rfl,p,d,?_,hf,loc,X,?_,hle⟩
  ·have:(rows.filter fun x => !seen.contains (da x))=[]:=by
    rw[List.filter_eq_nil_iff];intro x I hc;obtain⟨i,hi⟩:=pe I;have h1:=aK hi;have q:i<ms.toList.length:=by omega
    obtain⟨r,h3,h4⟩:=U i _ (bf q);rw[hi]at h3;cases h3;have:ms.toList[i]∈(leftOf ms seen).toList:=by
     unfold leftOf;rw[Array.toList_filter];refine nZ.2 ⟨mN q,?_⟩;rw[h4];exact hc
    have h5:(leftOf ms seen).toList.length=0:=by simpa using h0
    rw[List.length_eq_zero_iff.1 h5]at this;cases this
   rwa [this,dh]at hp
  ·exact(B.qg (hu1 d) (.tuple #[.bool false])).qg (hu2 d) (.bool false)
 ·refine lr h10 g1 (Bf p1 hiv hrun) (fun c e => by rw [p1] at e; cases e) ro ?_
  rw[q1,wpOpsIn_cons];refine lr h11 g2 (Be p2 (qf hlt1) rfl) (fun c e=>by rw[p2]at e; cases e) ro ?_;rw[q2];show (Code.seq _ _).wpIn (fz ro) 0 P _ _ _
  refine wpIn_seq (wpIn_cond_true (qf (by simpa[yW]using hlt2)) (wpIn_skip ?_));show (Code.block _ _).wpIn (fz ro) 0 P _ _ _
  refine wpIn_block (wpIn_seq (wpIn_region ?_));generalize hw2:setBlock N itb (.mapIter (some mb) clock (seen.push e.born) clock)=k;have hw1h:N.heap=w.heap:=by rcases hw1 with rfl|rfl<;>rfl
  have hos:ep w k:=by rw[←hw2]; rcases hw1 with rfl|rfl<;>exact⟨rfl,rfl,rfl,by first|exact fun _=>aD _|exact fun _=>fq _ _⟩
  have hit2':k.heap[itb]? = some (.mapIter (some mb) clock (seen.push e.born) clock):=by
   rw[←hw2];exact(Kx (by rw[hw1h]; exact hit)).1
  have W:∀ b,b≠itb→k.heap[b]? = w.heap[b]? := by
   intro b hb;rw[←hw2];show (N.heap.setIfInBounds itb _)[b]? = _
   rw[(Kx (by rw[hw1h]; exact hit)).2 b hb,hw1h]
  have hsize:k.heap.size=w.heap.size:=by
   rw[←hw2];show (N.heap.setIfInBounds itb _).size=_
   simp[hw1h]
  have hmb2:k.heap[mb]? = some (.map ms clock):=by rw[W mb aA]; exact hmb
  have cR:ia { w:=w,H:=(aM sp.inv d).den.H,loc:=loc,X:=X } { w:=k,H:=(aM sp.inv d).den.H,loc:=loc,X:=X } :=
   ⟨rfl,rfl,by show w.heap.size≤k.heap.size; omega,fun b hb I=>⟨I,W b (fun e=>I (by rw[e]; exact hXi))⟩,fun b hb=>by show b<k.heap.size; rw[hsize]; exact B.heap.X b hb,rfl⟩
  have hmk:jR k X a.defers:=⟨B.defers.1,fun dd hdd=>by
   obtain⟨D,e,h1,q,h3⟩:=B.defers.2 dd hdd;exact⟨D,e,by rw[W D (fun e=>by rw[e]at h1; rw[hit]at h1; cases h1)]; exact h1,q,h3⟩⟩
  have hs1:=((B.cR cR hmk).qg (hu1 d) (.tuple #[.bool true,e.key,e.val])).qg (hu2 d) (.bool true);obtain⟨hem,hes⟩:=mem_left he;obtain⟨i,hi⟩:=pe hem;obtain⟨r,hri,hrb⟩:=U i e hi;have hrm:=eZ hri;have hre2:=jC cR.toC hre;obtain⟨k1,k2,_⟩:=(eG.1 hre2).2 i (sp.K.av (gi r 0).row,sp.V.av (gi r 1).row,(gi r 2).int.toNat) e (by simp[c_,hri]) hi;have hiv1:((a.put (some sp.t1) (.tuple #[.bool true,e.key,e.val])).put (some sp.t2) (.bool true)).eval (.tmp sp.it)=.pointer (some ⟨itb,0,none⟩):=by
   have h:=hs1.eval (.tmp sp.it);have e:(aM sp.inv d).den.eval (.tmp sp.it)=.lit (.pointer (some ⟨sp.a7 d,0,none⟩)):=by
    show (aM sp.inv d).fr.getD sp.it .undef=_
    rw[bz,hut d];rfl
   rw[e]at h;simp only[rel]at h;rw[h,had]
  have h20:bt[0]? = some o3:=by
   have:bt.toList[0]? = some o3:=by rw[e3]; rfl
   simpa using this
  have hl2:bt.toList.drop 1=l:=by rw[e3]; rfl
  have hsz2:bt.size=l.length+1:=by
   have:bt.toList.length=l.length+1:=by rw[e3]; rfl
   simpa using this
  have hlp:(p++(r::rows.filter fun x => !(seen.push (da r)).contains (da x))).Perm rows :=
   (List.Perm.append_left p (Bc hn hrm (by rw[←hrb]; exact hes)).symm).trans hp
  have J:∃ d',sp.st r d=some d'∧sp.a7 d'=sp.a7 d:=by
   have h:=hfold _ hlp;rw[wY,hf]at h;simp only[y7,cO]at h;cases J:sp.st r d with
   |none=>rw[J]at h; cases h
   | some d' =>
    rw[J]at h;simp only[]at h;cases hb:ab (sp.a7 d') (sp.a7 d)with
    |true=>exact⟨d',rfl,bk hb⟩
    |false=>rw[hb]at h; cases h
  obtain⟨d',J,had'⟩:=J;have hf':cO sp.st sp.a7 (p++[r]) d0=some d':=by
   rw[wY,hf];simp only[y7,cO,J,had'];simp
  obtain⟨s4,xe,hxe,ha4,hsat⟩:=hr r d d' J;rw[hsz2,Dc,yX,wpOpsIn_cons];refine lr h20 g3 (N1 p3 hiv1 (run_entry_at (P:=P) k itb mb clock seen ms clock e hit2' hmb2 hem hbn)) (fun c e=>by rw[p3]at e; cases e) ro ?_;rw[q3];have hs3:=hs1.j6 sp.t3 (v:=.tuple [sp.K.av (gi r 0).row,sp.V.av (gi r 1).row]) (u:=.tuple #[e.key,e.val]) (by simp only[rel]; exact⟨_,rfl,by simp only[af]; exact⟨k1,k2,trivial⟩⟩);refine zR (pf:=τ.pf) (ops:=bt) l (0+1) (sp.rs r d).den s4.den { w:=k,H:=(aM sp.inv d).den.H,loc:=loc,X:=X } _ (by rw[←hl2]) (by rw[hl2]at ha4; exact ha4) hs3 (fun a3 w3 hc3=>?_) ro;obtain⟨loc3,r3,hs4,hle3⟩:=hc3;show body.wpIn (fz ro) 0 P _ a3 w3
  refine wpIn_mono (hsat ro hro { w:=w3,H:=s4.den.H,loc:=loc3,X:=X.re r3 } a3 hs4) fun x a4 O I=>?_;obtain⟨rfl,loc4,X4,hs5,hle4⟩:=I;have key:∀{R:Exit→Act→World→Prop},R .normal a4 O→Dd b1 R xe.toExit a4 O:=fun h=>by
   rcases hxe with rfl|rfl
   ·exact h
   ·show (if b1 = b1 then _ else _)
    rw[if_pos rfl];exact h
  refine key ?_;have M:({ w:=k,H:=(aM sp.inv d).den.H,loc:=loc,X:=X }:Env).dL m { w:=O,H:=(aM sp.inv d').den.H,loc:=loc4,X:=X4 }:=hle3.toM.trans hle4;have hXsz:itb<k.heap.size:=ud hit2';have hnown:¬ Env.own { w:=k,H:=(aM sp.inv d).den.H,loc:=loc,X:=X } itb:=by
   exact(B.heap.cR cR).pA hXi
  have hmbsz:mb<k.heap.size:=ud hmb2;have hit4:O.heap[itb]? = some (.mapIter (some mb) clock (seen.push e.born) clock):=by rw[M.same itb hXsz hnown]; exact hit2'
  refine⟨⟨d',loc4,X4,seen.push e.born,clock,p++[r],hf',by rw[had',had],?_,hs5,?_,(M.X itb hXsz).1.2 hXi,hit4,aD _,?_,?_,?_⟩,?_⟩
  ·rw [hrb, gT]
   exact hlp
  ·refine Env.dL.trans (E' := { w := k, H := (aM sp.inv d).den.H, loc := loc, X := X }) ⟨hle.past, ?_, ?_, hle.own, hle.live, hle.X, hle.rl, hle.env.trans hos, hle.grow⟩ M
   ·have := hle.size
    show E.w.heap.size≤k.heap.size
    rw[hsize];exact this
   ·intro b hb hbo
    show k.heap[b]? = _
    rw[W b (by omega)];exact hle.same b hb hbo
  ·rw [M.same mb hmbsz hown]
   exact hmb2
  ·exact M.own mb hmbsz hown
  ·exact jC (rN M) hre2
  ·show (leftOf ms (O.iterSeen itb)).size < (leftOf ms (w.iterSeen itb)).size
   rw[Bg hit4,Bg hit];exact left_shrinks ms seen e he
theorem Z_(hm:P.follows .mixedOrders=true)(ht:ak P τ)(hL:ax P m L body)(ho:oJ P sp bp bS bt)
  (hu1:∀ d,(aM sp.inv d).fr[sp.t1]? = some .undef) (hu2:∀ d,(aM sp.inv d).fr[sp.t2]? = some .undef) (hut:∀ d,(aM sp.inv d).fr[sp.it]? = some (.lit (.pointer (some ⟨sp.a7 d,0,none⟩))))
  {r1 b0 b1 r2:Nat} (hr:FO P τ m sp bt body b1)
  {s:al} {d:List G} {rows:List (List G)} {clock:Nat} (hx:s.eval (.tmp sp.y)=.map sp.id) (hid:s.H[sp.id]? = some (.map sp.K sp.V rows clock)) (hn:(rows.map da).Nodup)
  (hlt:∀ r∈rows,da r<clock) (hin:∀ b,iq m sp.inv sp.ps (gy sp.opens (sp.s2 s b))=some (true,sp.init d b)) (hadr:∀ b,sp.a7 (sp.init d b)=b)
  (hfold:∀ b p,p.Perm rows→(cO sp.st sp.a7 p (sp.init d b)).isSome=true) (E:Env) (a:Act) (B:bQ s.den E a) (ro:Option Nat) (hro:fj ro body) {Q:Exit→Act→World→Prop}
  (hQ:∀ a1 w1,(∃ b p d',p.Perm rows∧cO sp.st sp.a7 p (sp.init d b)=some d'∧dE m E (aM sp.inv d').den a1 w1)→Q .normal a1 w1) :
  wpOpsIn (fz ro) 0 P bp (Exit.then ((Code.block b0 (.loop (.seq (.region r1 bS false) (.seq (.cond (.tmp sp.t2) .skip (.exit b0)) (.block b1 (.seq (.region r2 bt false) body)))))).wpIn (fz ro) 0 P Q) Q) [bp.toList.dropLast.length] a E.w:=by
 obtain⟨o2,ty,e1,g2,p2,q2,O⟩:=ho.r0;have h11:bp[bp.toList.dropLast.length]? = some o2:=by
  have:bp.toList[bp.toList.dropLast.length]? = some o2:=by
   rw[e1];simp
  simpa using this
 have hid':E.H[sp.id]? = some (.map (c_ sp.K sp.V rows) clock):=by
  rw[B.H];exact bg hid
 have hrx:rel E (.map sp.id) (a.eval (.tmp sp.y)):=by
  have:=B.eval (.tmp sp.y)
  rwa [al.lZ,hx]at this
 obtain⟨mb,n,ms,hc,hloc,U,hre⟩:=qZ B.heap hid' hrx;obtain⟨⟨kt,et⟩,O⟩:=Option.isSome_iff_exists.1 O;have hmbs:mb<E.w.heap.size:=ud U;rw[wpOpsIn_cons];refine lr h11 g2 (N2 p2 hc (run_range_map E.w ty kt et mb ms clock (fR O) U)) (fun c e=>by rw[p2]at e; cases e) ro ?_;rw[q2];show (Code.block _ _).wpIn (fz ro) 0 P _ _ _
 generalize N:E.w.alloc (.mapIter (some mb) clock #[] clock)=q;have hsize:q.heap.size=E.w.heap.size+1:=by rw[←N]; show (E.w.heap.push _).size=_; simp
 have hold:∀ b,b<E.w.heap.size→q.heap[b]? = E.w.heap[b]? := fun b hb=>by rw[←N]; exact(show (E.w.heap.push _)[b]? = _ by rw[Array.getElem?_push,if_neg (by omega)])
 have hitn:q.heap[E.w.heap.size]? = some (.mapIter (some mb) clock #[] clock):=by rw[←N]; exact(show (E.w.heap.push _)[E.w.heap.size]? = _ by simp)
 have hos:ep E.w q:=by rw[←N]; exact⟨rfl,rfl,rfl,by first|exact fun _=>aD _|exact fun _=>fq _ _⟩
 have hd:=Env.sK B.heap sp.id;have W:bQ ⟨s.fr,aj (s.H.set sp.id (.raw .dead))⟩ { w:=E.w,H:=E.H.set sp.id .dead,loc:=E.loc.set sp.id none,X:=E.X } a:=by
  refine⟨?_,dK hd _ B.fr,B.defers,aq.drop B.heap sp.id fun o ho=>by rw[hid']at ho; cases ho; rfl⟩;rw[db,show E.H=aj s.H from B.H];rfl
 have cR:ia { w:=E.w,H:=E.H.set sp.id .dead,loc:=E.loc.set sp.id none,X:=E.X } { w:=q,H:=E.H.set sp.id .dead,loc:=E.loc.set sp.id none,X:=E.X.or fun b=>b=E.w.heap.size } :=
  ⟨rfl, rfl, by show E.w.heap.size ≤ q.heap.size; omega, fun b hb hx => ⟨fun h => h.elim hx (fun e => absurd hb (by rw [e]; exact sD _)), hold b hb⟩, fun b hb => by
   show b<q.heap.size
   rcases hb with hb|hb
   ·have := B.heap.X b hb
    omega
   ·omega,rfl⟩
 have hs3:=(W.cR cR (zl (X':=E.X.or fun b=>b=E.w.heap.size) (w':=q) W.defers (fun _ h1 M=>⟨.inl h1,M⟩) fun b h1 _=>hold b (B.heap.X b h1))).j6 sp.it (v:=.lit (.pointer (some ⟨E.w.heap.size,0,none⟩))) (u:=.pointer (some ⟨E.w.heap.size,0,none⟩)) (by simp only[rel]);have hs3':bQ (sp.s2 s E.w.heap.size).den { w:=q,H:=E.H.set sp.id .dead,loc:=E.loc.set sp.id none,X:=E.X.or fun b=>b=E.w.heap.size } _:=hs3;obtain⟨loc,X4,hs4,J⟩:=((l6 sp.opens _).trans (ln (hin E.w.heap.size))) _ _ hs3';have hmbn:¬ Env.own { w:=q,H:=E.H.set sp.id .dead,loc:=E.loc.set sp.id none,X:=E.X.or fun b=>b=E.w.heap.size } mb:=by
  rintro(⟨j,c,I⟩|⟨l,k,c,I⟩)
  case inr=>exact B.heap.cY _ _ _ _ _ _ hloc I
  simp only[eC]at I;split at I
  ·split at I
   ·cases I
   ·cases I
  ·rename_i aA
   exact aA (B.heap.inj _ _ _ _ _ hloc I)
 have hmb2:q.heap[mb]? = some (.map ms clock):=by rw[hold mb hmbs]; exact U
 refine wpIn_block (wpIn_mono (Z9 hm ht hL ho hu1 hu2 hut (hr:=hr) (E:=E) (rows:=rows) (d0:=sp.init d E.w.heap.size) (itb:=E.w.heap.size) (mb:=mb) (clock:=clock) (ms:=ms)
  (aD _) hn hlt (by omega) (hfold _) ?_ ro hro) fun e a1 w1 hq=>?_)
 ·refine ⟨sp.init d E.w.heap.size, loc, X4, #[], clock, [], rfl, hadr _, ?_, hs4, ?_, (J.X E.w.heap.size (by show _ < q.heap.size; omega)).1.2 (.inr rfl), ?_, aD _, ?_, ?_, ?_⟩
  ·have : (rows.filter fun x => !(#[] : Array Nat).contains (da x)) = rows := List.filter_eq_self.2 (fun x _ => by simp)
   rw[List.nil_append,this]
  ·refine hd.toM.trans (Env.dL.trans (E' := { w := q, H := E.H.set sp.id .dead, loc := E.loc.set sp.id none, X := E.X.or fun b => b = E.w.heap.size }) ⟨fun _ _ h => h, ?_, ?_, fun b _ h => h, fun _ _ _ h => ⟨h, rfl⟩, fun b hb => ⟨⟨fun h => h.elim id fun e => absurd hb (by rw [e]; exact sD _), .inl⟩, Iff.rfl⟩, fun _ _ h => ⟨h, fun _ hq => hq⟩, hos, fun _ _ _ o h1 M _ => ⟨⟨[], (dh _).symm⟩, o, h1, M⟩⟩ J)
   ·show E.w.heap.size ≤ q.heap.size
    omega
   ·exact fun b hb _=>hold b hb
  ·rw [J.same E.w.heap.size (by show _ < q.heap.size; omega) ?_]
   ·exact hitn
   ·exact(W.heap.cR cR).pA (.inr rfl)
  ·rw [J.same mb (by show _ < q.heap.size; omega) hmbn]
   exact hmb2
  ·exact J.own mb (by show _<q.heap.size; omega) hmbn
  ·exact jC (rN J) (jC cR.toC (jC hd.toC hre))
 ·obtain ⟨rfl, p, d', h1, M, h3⟩ := hq
  simp only[Dd,if_true];exact hQ _ _ ⟨_,p,d',h1,M,h3⟩
theorem Z'(hm:P.follows .mixedOrders=true)(I:ak P τ)(J:ax P m L body)(hr:kF P τ L m sp bt body)(ho:oJ P sp bp bS bt)
  (hu1:∀ d,(aM sp.inv d).fr[sp.t1]? = some .undef) (hu2:∀ d,(aM sp.inv d).fr[sp.t2]? = some .undef) (hut:∀ d,(aM sp.inv d).fr[sp.it]? = some (.lit (.pointer (some ⟨sp.a7 d,0,none⟩))))
  {r0 r1 b0 b1 r2:Nat}
  {s s1:al} {d:List G} {rows:List (List G)} {clock:Nat} (hp:gg P τ.pf bp bp.toList.dropLast s.den s1.den) (hx:s1.eval (.tmp sp.y)=.map sp.id) (hid:s1.H[sp.id]? = some (.map sp.K sp.V rows clock)) (hn:(rows.map da).Nodup)
  (k:∀ r∈rows,da r<clock) (hin:∀ b,iq m sp.inv sp.ps (gy sp.opens (sp.s2 s1 b))=some (true,sp.init d b)) (U:∀ b,sp.a7 (sp.init d b)=b)
  (O:∀ b p,p.Perm rows→(cO sp.st sp.a7 p (sp.init d b)).isSome=true) (E:Env) (a:Act) (hs:bQ s.den E a) (ro:Option Nat) (hro:fj ro body) :
  (l8 r0 b0 r1 b1 r2 bp bS bt sp.t2 body).wpIn (fz ro) 0 P (fun e q B=>e=.normal∧∃ b p d',p.Perm rows∧cO sp.st sp.a7 p (sp.init d b)=some d'∧dE m E (aM sp.inv d').den q B) a E.w:=by
 refine wpIn_seq (wpIn_region ?_);obtain⟨o2,ty,M,_⟩:=ho.r0;have hsz:bp.size=bp.toList.dropLast.length+1:=by
  have h:=congrArg List.length M;simpa using h
 have hl:dI bp.size=pk 0 bp.toList.dropLast.length++[bp.toList.dropLast.length]:=by
  rw[hsz,List.range_succ,Dc]
 rw[hl];refine Bb (pf:=τ.pf) ro bp.toList.dropLast 0 s.den s1.den E a _ (fun j o N=>?_) hp hs fun q B hc=>?_
 ·have k := aK N
  have:bp.toList[j]? = some o:=by
   rw[M,cT k];exact N
  simpa using this
 ·obtain ⟨W, r1, h1, h2⟩ := hc
  refine Z_ hm I J ho hu1 hu2 hut (Z8 hm I J hr b1) hx hid hn k hin U O { w:=B,H:=s1.den.H,loc:=W,X:=E.X.re r1 } q h1 ro hro fun a2 w2 ⟨b,p,d',g1,g2,g3⟩=>?_;exact⟨rfl,b,p,d',g1,g2,dE.after h2.toM g3⟩
noncomputable def ue{β:Type}(rows:List (List G))(k:Nat→List (List G)→Option β):Option β :=
 open Classical in if h:∃ r,∀ b p,p.Perm rows→k b p=some r then some h.choose else none
theorem FP{β:Type}{rows:List (List G)}{k:Nat→List (List G)→Option β}{r:β}(h:ue rows k=some r):∀ b p,p.Perm rows→k b p=some r:=by
 unfold ue at h;split at h
 ·rename_i d
  cases h;exact d.choose_spec
 ·cases h
theorem N3{β:Type}{rows:List (List G)}{k:Nat→List (List G)→Option β}{r:β}(h:∀ b p,p.Perm rows→k b p=some r):ue rows k=some r:=by
 cases hb:ue rows k with
 | some r' =>
  have h1:=FP hb 0 rows (pq _);rw[h 0 rows (pq _)]at h1;exact h1.symm
 | none =>
  unfold ue at hb;rw[dif_pos ⟨r,h⟩]at hb;cases hb
def ls(rows:List (List G))(clock:Nat):Bool:=nodupB (rows.map da)&&rows.all fun r=>eh (da r) clock
theorem N4{rows:List (List G)}{clock:Nat}(h:ls rows clock=true):(rows.map da).Nodup∧∀ r∈rows,da r<clock:=by
 simp only[ls,az,dB,iR]at h;exact⟨tT h.1,h.2⟩
noncomputable def jG(sp:fK)(tl:List G→Option (Option Nat × List G))(rows:List (List G))(clock:Nat)(d:List G):Option (Option Nat × List G) :=
 bif ls rows clock then ue rows (fun b p=>bif sp.side d b then (cO sp.st sp.a7 p (sp.init d b)).bind tl else none) else none
def oK(P:Program)(m:Nat)(c:Code)(sp:be):Prop:=∀ d i d',sp.st d=some (some i,d')→∃ o,sp.outs[i]? = some o∧cI P m c (aM sp.inv d).den o.x (aM o.S d').den
theorem fm.sat{c:Code}{q:be}(hm:P.follows .mixedOrders=true)(I:ak P τ)(J:ax P m L c)(hr:fm P τ L m c q):oK P m c q:=by
 intro d i d' k;rw[←hr d]at k;obtain⟨x,s1,g1,g2⟩:=gh hm I c (aM q.inv d) .done J (Q:=fun x s=>rK m q.outs 0 x s=some (true,(some i,d'))) (oH k);obtain⟨j,o,M,B,N,O⟩:=AS g2;simp only[aY,di]at B;subst B;refine⟨o,M,?_⟩;rw[←N];exact te g1 (ln O)
theorem aaa{c:Code}{q:be}(hr:oK P m c q){s:al}{t:Tree}(h:wR m q s=some t):Aw P m c s t:=by
 unfold wR at h;split at h
 case h_2=>cases h
 rename_i b d M;cases h;intro Q I;simp only[Tree.holds,tS,az]at I;obtain⟨⟨rfl,h1⟩,J⟩:=I;cases B:q.st d with
 |none=>rw[B]at h1; cases h1
 | some r =>
  obtain⟨k,d'⟩:=r;cases k with
  |none=>rw[B]at h1; cases h1
  | some i =>
   obtain⟨o,g1,g2⟩:=hr d i d' B;rw[B]at J;exact⟨o.x,(aM o.S d'),td ((l6 q.opens s).trans (ln M)) g2,AT g1 (di i).symm J⟩
theorem ax.FQ{fn:Func}{q:be} (hn:lp q.key (bE (aQ fn))=true) (B:ax P m L (aQ fn)) (hr:ax P m L (cutAt fn q.key)→oK P m (cutAt fn q.key) q) :
  ax P m (L.eP m q) (aQ fn):=by
 refine⟨B.1,B.2.1,fun k I hk s t d=>?_⟩;simp only[LT.eP]at d;split at d
 ·rename_i e
  have e:=bk e;subst e;have J:=FE hn hk;rw[←J]at hr;exact aaa (hr (B.sub (qb hk) (qc hk))) d
 ·exact B.2.2 k I hk s t d
def wZ(o:Option Tmp)(t:Tmp):Bool :=
 match o with
 |some x=>ab x t
 |none=>false
theorem Bh{o:Option Tmp}{t:Tmp}(h:wZ o t=true):o=some t:=by
 cases o with
 |none=>cases h
 |some x=>exact congrArg some (bk h)
def Bi(P:Program)(sp:fK)(ops:Array Oper):Bool :=
 match ops.toList.getLast? with
 |some ⟨d2,.range ty (.tmp b),_,_,_,none⟩=>ab b sp.y&&wZ d2 sp.it&&(dx P ty).isSome
 |_=>false
def Bj(sp:fK)(ops:Array Oper):Bool :=
 match ops.toList with
 | [⟨d1,.next (.tmp a) false,_,_,_,none⟩,⟨d2,.extract (.tmp b) 0,_,_,_,none⟩]=>ab a sp.it&&wZ d1 sp.t1&&ab b sp.t1&&wZ d2 sp.t2
 |_=>false
def Bk(sp:fK)(ops:Array Oper):Bool :=
 match ops.toList with
 |⟨d1,.entry (.tmp a),_,_,_,none⟩::_=>ab a sp.it&&wZ d1 sp.t3
 |_=>false
theorem N5(h0:Bi P sp bp=true)(h1:Bj sp bS=true)(d:Bk sp bt=true):oJ P sp bp bS bt:=by
 refine⟨?_,?_,?_⟩
 ·unfold Bi at h0
  split at h0
  ·rename_i d2 ty b t' k q e
   simp only[az]at h0;obtain⟨⟨g3,g4⟩,g5⟩:=h0;have g3:=bk g3;subst g3;refine⟨⟨d2,.range ty (.tmp sp.y),t',k,q,none⟩,ty,?_,rfl,rfl,Bh g4,g5⟩;have aA:bp.toList≠[]:=by
    intro h;rw[h]at e;cases e
   have d:=List.dropLast_concat_getLast aA;have B:bp.toList.getLast? = some (bp.toList.getLast aA):=by
    rw[List.getLast?_eq_some_iff];exact⟨_,d.symm⟩
   rw[B]at e;rw[gY e]at d;exact d.symm
  ·cases h0
 ·unfold Bj at h1
  split at h1
  ·rename_i d1 a _ _ _ d2 b _ _ _ e
   simp only[az]at h1;obtain⟨⟨⟨g1,g2⟩,g3⟩,g4⟩:=h1;have g1:=bk g1;have g3:=bk g3;subst g1;subst g3;exact⟨_,_,e,rfl,rfl,Bh g2,rfl,rfl,Bh g4⟩
  ·cases h1
 ·unfold Bk at d
  split at d
  ·rename_i d1 a _ _ _ l e
   simp only[az]at d;have g1:=bk d.1;subst g1;exact⟨_,l,e,rfl,rfl,Bh d.2⟩
  ·cases d
def nl:Code→Code
 |.seq _ b=>b
 |_=>.skip
def FR:Code→Code
 |.seq (.seq _ (.block _ (.loop c))) _=>c
 |_=>.skip
def rO(c:Code):Code:=match FR c with
 |.seq _ (.seq _ (.block _ (.seq _ b)))=>b
 |_=>.skip
def FT:Code→Array Oper
 |.region _ ops _=>ops
 |_=>#[]
def l9:Code→Array Oper
 |.seq (.seq r _) _=>FT r
 |_=>#[]
def Bl(c:Code):Array Oper:=match FR c with
 |.seq r _=>FT r
 |_=>#[]
def oL(c:Code):Array Oper:=match FR c with
 |.seq _ (.seq _ (.block _ (.seq r _)))=>FT r
 |_=>#[]
theorem N6{r0 r1 b0 b1 r2 t2:Nat}{rest:Code} (h:ax P m L (.seq (l8 r0 b0 r1 b1 r2 bp bS bt t2 body) rest)):ax P m L body∧ax P m L rest:=by
 refine⟨h.sub (fun p d=>?_) (fun p d=>?_),h.sub (fun p d=>?_) (fun p d=>?_)⟩
 ·simp only [bJ, l8, cQ]
  left;right;split
  ·simp only [bN, bJ, cQ]
   exact .inr (.inr (.inr (.inr d)))
  ·simp only [bJ, cQ]
   exact .inr (.inr (.inr d))
 ·simp only [bE, l8, cQ]
  exact .inl (.inr (.inr (.inr (.inr (.inr (.inr (.inr (.inr d))))))))
 ·simp only [bJ, cQ]
  exact .inr d
 ·simp only [bE, cQ]
  exact .inr (.inr d)
def FU(P:Program)(τ:ai)(ops:Array Oper)(s:al):al:=match (nc P τ ops ops.toList.dropLast s fun s=>.done .normal s).jF with
 |some (_,s1)=>s1
 |none=>s
theorem N7(d:ak P τ){ops:Array Oper}{l:List Oper}{s s1:al}(h:(nc P τ ops l s fun s=>.done .normal s).jF=some (.normal,s1)):gg P τ.pf ops l s.den s1.den:=by
 obtain⟨s',h1,k⟩:=AA d (ub h);obtain⟨_,rfl⟩:=k;exact h1
theorem aab(hm:P.follows .mixedOrders=true)(ht:ak P τ){rest:Code}{q qr:be}(hL:ax P m L body)(hr:kF P τ L m sp bt body)(ho:oJ P sp bp bS bt)
  (hu1:∀ d,(aM sp.inv d).fr[sp.t1]? = some .undef) (hu2:∀ d,(aM sp.inv d).fr[sp.t2]? = some .undef) (hut:∀ d,(aM sp.inv d).fr[sp.it]? = some (.lit (.pointer (some ⟨sp.a7 d,0,none⟩))))
  {r0 r1 b0 b1 r2:Nat}
  {rows:List G→List (List G)} {clock:List G→Nat} {pre:List G→al} (hy:∀ d,(nc P τ bp bp.toList.dropLast (aM q.inv d) fun s=>.done .normal s).jF=some (.normal,pre d)) (I:∀ d,(pre d).eval (.tmp sp.y)=.map sp.id) (hid:∀ d,(pre d).H[sp.id]? = some (.map sp.K sp.V (rows d) (clock d)))
  (hin:∀ d b,iq m sp.inv sp.ps (gy sp.opens (sp.s2 (pre d) b))=some (sp.side d b,sp.init d b)) (hadr:∀ d b,sp.a7 (sp.init d b)=b)
  (hinv:qr.inv=sp.inv) (houts:qr.outs=q.outs) (M:oK P m rest qr) (hst:∀ d,q.st d=jG sp qr.st (rows d) (clock d) d) :
  oK P m (.seq (l8 r0 b0 r1 b1 r2 bp bS bt sp.t2 body) rest) q:=by
 intro d i d' h;rw[hst]at h;unfold jG at h;cases bF:ls (rows d) (clock d)with
 |false=>rw[bF]at h; cases h
 | true =>
  rw[bF]at h;simp only[cond_true]at h;have hall:=FP h;obtain⟨hn,hlt⟩:=N4 bF;have B:∀ b p,p.Perm (rows d)→sp.side d b=true∧∃ d1,cO sp.st sp.a7 p (sp.init d b)=some d1∧qr.st d1=some (some i,d'):=by
   intro b p k;have:=hall b p k;cases O:sp.side d b with
   |false=>rw[O]at this; cases this
   | true =>
    rw[O]at this;simp only[cond_true]at this;cases J:cO sp.st sp.a7 p (sp.init d b)with
    |none=>rw[J]at this; cases this
    | some d1 =>
     rw[J]at this;exact⟨rfl,d1,rfl,this⟩
  obtain⟨_,d1,_,g1⟩:=B 0 (rows d) (pq _);obtain⟨o,U,_⟩:=M d1 i d' g1;refine⟨o,by rw[←houts]; exact U,fun ro W E a hs=>wpIn_seq (wpIn_mono (Z' hm ht hL hr ho hu1 hu2 hut (N7 ht (hy d)) (I d) (hid d) hn hlt (fun b=>by rw[hin d b,(B b (rows d) (pq _)).1]) (hadr d) (fun b p k=>?_) E a hs ro (NY W.seq1)) fun e a1 w1 hq=>?_)⟩
  ·obtain ⟨_, d2, h2, _⟩ := B b p k
   rw[h2];rfl
  ·obtain ⟨rfl, b, p, d2, k, J, loc, X, hs2, hle⟩ := hq
   obtain⟨_,d3,h3,h4⟩:=B b p k;rw[J]at h3;cases h3;obtain⟨o',ho2,N⟩:=M d2 i d' h4;rw[U]at ho2;cases ho2;rw[hinv]at N;exact wpIn_mono (N ro W.Eo { w:=w1,H:=(aM sp.inv d2).den.H,loc:=loc,X:=X } a1 hs2) fun x a2 w2 I=>⟨I.1,dE.after hle I.2⟩
theorem ax.aac(hm:P.follows .mixedOrders=true)(B:ak P τ){fn:Func}{q qr:be}{r0 b0 r1 b1 r2:Nat}{rows:List G→List (List G)}{clock:List G→Nat}
  (hn:lp q.key (bE (aQ fn))=true) (hL:ax P m L (aQ fn))
  (I:cutAt fn q.key=.seq (l8 r0 b0 r1 b1 r2 (l9 (cutAt fn q.key)) (Bl (cutAt fn q.key)) (oL (cutAt fn q.key)) sp.t2 (rO (cutAt fn q.key))) (nl (cutAt fn q.key)))
  (ho:(Bi P sp (l9 (cutAt fn q.key))&&Bj sp (Bl (cutAt fn q.key))&&Bk sp (oL (cutAt fn q.key)))=true)
  (hr:kF P τ L m sp (oL (cutAt fn q.key)) (rO (cutAt fn q.key)))
  (O:∀ d,(aM sp.inv d).fr[sp.t1]? = some .undef) (U:∀ d,(aM sp.inv d).fr[sp.t2]? = some .undef) (W:∀ d,(aM sp.inv d).fr[sp.it]? = some (.lit (.pointer (some ⟨sp.a7 d,0,none⟩))))
  {pre:List G→al} (hy:∀ d,(nc P τ (l9 (cutAt fn q.key)) (l9 (cutAt fn q.key)).toList.dropLast (aM q.inv d) fun s=>.done .normal s).jF=some (.normal,pre d)) (hx:∀ d,(pre d).eval (.tmp sp.y)=.map sp.id) (hid:∀ d,(pre d).H[sp.id]? = some (.map sp.K sp.V (rows d) (clock d)))
  (hin:∀ d b,iq m sp.inv sp.ps (gy sp.opens (sp.s2 (pre d) b))=some (sp.side d b,sp.init d b)) (N:∀ d b,sp.a7 (sp.init d b)=b)
  (hinv:qr.inv=sp.inv) (J:qr.outs=q.outs) (M:fm P τ L m (nl (cutAt fn q.key)) qr) (hst:∀ d,q.st d=jG sp qr.st (rows d) (clock d) d) :
  ax P m (L.eP m q) (aQ fn):=by
 refine ax.FQ hn hL fun k=>?_;rw[I]at k;obtain⟨hLb,hLr⟩:=N6 k;simp only[az]at ho;rw[I];exact aab hm B hLb hr (N5 ho.1.1 ho.1.2 ho.2) O U W hy hx hid hin N hinv J (M.sat hm B hLr) hst
end range
end Go.AL
