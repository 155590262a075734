/-
 What is proved here: shapes: states and arguments as data alone (integers,strings,rows),read off abstract states and built from data; what is built says no more than what was read. No program in sight; no condition.
-/
import Derived.Test.YtopnkdaoanlaiaaGreatDoorMC
import Derived.Maps.RangeRun
set_option linter.all false
open Bool renaming and_true→dZ,and_eq_true→aw,false_eq_true→mU,not_eq_true'→jD,and_self→lY,eq_false_iff→Tm,or_false→yk
open Go.Value.slice renaming injEq→j0
open Int renaming toNat_natCast→aR
open List renaming range→fp,length_cons→di,length_map→bF,mem_map→bR,getElem?_map→cq,getElem?_append_left→dz,getElem?_append_right→gx,getElem?_set_self→cr,getElem?_set_ne→bH,getElem?_set→e_,all_eq_true→dX,getElem?_eq_getElem→bE,getD_eq_getElem?_getD→cH,getElem?_take→mT,mem_cons→bI,mem_of_getElem?→fK,map_cons→dA,cons_append→ob,length_append→fD,mem_append→bV,append_nil→gS,all_cons→m_,mem_cons_self→cZ,mem_cons_of_mem→cU,mem_append_left→uP,any_eq_true→jE,nodup_cons→jG,append_assoc→j8,headD_cons→oq,getElem?_cons_succ→Tl,getElem?_inj→I0,getD_cons_succ→aiz,find?_cons_of_neg→aiA,getElem_mem→sb,set_append_left→aiB,mem_filter→ga,mem_append_right→Tn
open List.Perm renaming refl→sc
open Nat renaming le_refl→aI,lt_or_ge→jZ,zero_add→dO,beq→ab,zero_le→j5,eq_of_beq_eq_true→bt,sub_self→r9,ble→cR,blt→eE,blt_eq→gB,le_of_ble_eq_true→j9
open Option renaming map_eq_some_iff→ft,map_some→iZ,getD_some→kW
open Option.some renaming injEq→aT,inj→ow
open Prod.mk renaming injEq→aZ
namespace Go.AL
open Go
variable [Dr]
inductive ew where
 |int (k:IntKind)|str|bool
 |list (ks:List Kd)|row (ks:List Kd)|cptr (ks:List Kd)
 |nil|any
 |zM (isNil:Bool)
 |fn (f:FuncId)
 |ptr (j col:Nat)
 |vec (j w:Nat)
 |sub (j w:Nat)
 |pre (j w:Nat)
 |td (ks:List Kd)
 |map (j:Nat)
 |addr
 |Lm (f:FuncId) (js:List Nat)
 |El
 deriving Inhabited
inductive Sh where
 |s (a:ew)
 |clo (f:FuncId) (caps:List ew)
 deriving Inhabited
inductive cn where
 |vec (ks:List Kd) (u:Nat)
 |box (cells:List ew)
 |map (K V:Ct)
 |eQ (l T B:Nat)
 |a7 (l:Nat) (K:Ct) (ks:List Kd)
 deriving Inhabited
def cn.jk:cn→Option Nat
 |.eQ l _ _=>some l
 |.a7 l _ _=>some l
 |_=>none
def ew.sz:ew→Nat
 |.int _ | .str | .bool | .list _ | .row _ | .cptr _ | .td _ | .pre _ _ | .addr=>1
 |.sub _ _=>2
 |_=>0
def mq:List ew→Nat
 | []=>0
 |a::as=>a.sz+mq as
def Sh.sz:Sh→Nat
 |.s a=>a.sz
 |.clo _ caps=>mq caps
def Em:List Sh→Nat
 | []=>0
 |a::as=>a.sz+Em as
def cn.sz:cn→Nat
 |.vec _ _=>1
 |.box cells=>mq cells
 |.map _ _=>2
 |.eQ _ _ _=>1
 |.a7 _ _ _=>2
def dv:Nat→List G→List G
 |0,d=>d
 |n+1,d=>dv n d.tail
abbrev dc:=List (Nat × Nat)
def dc.len(os:dc)(j:Nat):Nat:=(os.getD j (0,0)).1
def dc.ae(os:dc)(j:Nat):Nat:=(os.getD j (0,0)).2
def qJ:List Nat→List AV
 | []=>[]
 |j::js=>.ptr j 0 0 0 0::qJ js
def eA(lens:dc):ew→List G→AV
 |.int k,d=>.lit (.int k (d.headD default).int)
 |.str,d=>.lit (.string (d.headD default).str)
 |.bool,d=>.lit (.bool (d.headD default).bool)
 |.list ks,d=>.listF ks (d.headD default).rows
 |.td ks,d=>.listF ks (d.headD default).rows
 |.row ks,d=>.agg (aD ks (d.headD default).row)
 |.cptr ks,d=>.cptr (aD ks (d.headD default).row)
 |.nil,_=>.lit (.slice none 0 0)
 |.any,_=>.undef
 |.zM b,_=>.emptyS b
 |.fn f,_=>.clo f []
 |.ptr j col,_=>.ptr j 0 0 0 col
 |.vec j w,_=>.vec w j (lens.ae j) 0 (lens.len j)
 |.sub j w,d=>.vec w j (lens.ae j) (d.headD default).int.toNat (d.tail.headD default).int.toNat
 |.pre j w,d=>.vec w j (lens.ae j) 0 (d.headD default).int.toNat
 |.map j,_=>.map j
 |.addr,d=>.lit (.pointer (some ⟨(d.headD default).int.toNat,0,none⟩))
 |.Lm f js,_=>.clo f (qJ js)
 |.El,_=>.lit .nilIface
def iq(lens:dc):List ew→List G→List AV
 | [],_=>[]
 |a::as,d=>eA lens a d::iq lens as (dv a.sz d)
def lz(lens:dc):Sh→List G→AV
 |.s a,d=>eA lens a d
 |.clo f caps,d=>.clo f (iq lens caps d)
def dL(lens:dc):List Sh→List G→List AV
 | [],_=>[]
 |a::as,d=>lz lens a d::dL lens as (dv a.sz d)
def eX(lens:dc):cn→List G→ak
 |.vec ks u,d=>.vec ks u (d.headD default).rows
 |.box g,d=>.raw (.box (iq lens g d))
 |.map K V,d=>.map K V (d.headD default).rows (d.tail.headD default).int.toNat
 |.eQ l T B,d=>.raw (.eQ l T B (d.headD default).str)
 |.a7 l K ks,d=>.a7 l K ks (d.headD default).rows (d.tail.headD default).int.toNat
theorem pd(lens:dc)(sh:cn)(d:List G):(eX lens sh d).den.label=sh.jk:=by cases sh<;>rfl
def bZ(lens:dc):List cn→List G→List ak
 | [],_=>[]
 |o::os,d=>eX lens o d::bZ lens os (dv o.sz d)
def kA:List cn→Nat
 | []=>0
 |o::os=>o.sz+kA os
def bB:List cn→List G→dc
 | [],_=>[]
 | o::os,d=>(match o with
  |.vec _ u=>((d.headD default).rows.length,u)
  |_=>(0,0))::bB os (dv o.sz d)
def kB(H:List ak)(e:bJ):List Nat→List AV→Bool
 | [],[]=>true
 | j::js,.ptr id ae k row c::vs=>(match H[id]? with
  |some (.raw _)=>ab id (e.at j)&&ab ae 0&&ab k 0&&ab row 0&&ab c 0
  |_=>false)&&kB H e js vs
 |_,_=>false
def fH(H:List ak)(e:bJ)(fz:Nat→Bool):ew→AV→Option (Bool × List G)
 |.int k,.lit (.int k' n)=>if k=k' then some (true,[.i n]) else none
 |.str,.lit (.string s)=>some (true,[.s s])
 |.bool,.lit (.bool b)=>some (true,[.t b])
 | .list ks,a=>match nz ks a with
  |some rows=>some (true,[.l rows])
  | none=>match a with
   | .vec w id ae off n=>match H[id]? with
    |some (.vec d v rows)=>if ae=v∧off=0∧w=ks.length∧Kd.gF ks d=true∧fz id=true then some (ab n rows.length,[.l rows]) else none
    |_=>none
   |_=>none
 | .row ks,a=>match Ef ks a with
  |some r=>some (true,[.l [r]])
  |none=>none
 | .cptr ks,.cptr cells=>match fQ ks cells with
  |some r=>some (true,[.l [r]])
  |none=>none
 | .cptr ks,.ptr id ae _ row col=>match H[id]? with
  | some (.raw (.box cells))=>match fQ ks cells with
   |some r=>if ae=0∧row=0∧col=0∧fz id=true then some (true,[.l [r]]) else none
   |none=>none
  |some (.vec d v [r])=>if ae=v∧row=0∧col=0∧Kd.gF ks d=true∧fz id=true then some (true,[.l [r]]) else none
  |_=>none
 |.nil,.lit (.slice none 0 0)=>some (true,[])
 |.any,_=>some (true,[])
 |.fn f,.clo g []=>if f=g then some (true,[]) else none
 | .ptr j col,.ptr id ae k row c=>match H[id]? with
  |some (.raw _)=>if id=e.at j∧ae=0∧k=0∧row=0∧c=col then some (true,[]) else none
  |_=>none
 | .vec j w,.vec w' id ae off n=>match H[id]? with
  |some (.vec _ v rows)=>if w'=w∧id=e.at j∧ae=v∧off=0 then some (ab n rows.length,[]) else none
  |_=>none
 | .sub j w,.vec w' id ae off n=>match H[id]? with
  |some (.vec _ v _)=>if w'=w∧id=e.at j∧ae=v then some (true,[.i off,.i n]) else none
  |_=>none
 | .pre j w,.vec w' id ae off n=>match H[id]? with
  |some (.vec _ v _)=>if w'=w∧id=e.at j∧ae=v∧off=0 then some (true,[.i n]) else none
  |_=>none
 | .td ks,a=>match nz ks a with
  |some rows=>some (true,[.l rows])
  | none=>match a with
   | .vec w id ae off n=>match H[id]? with
    |some (.vec d v rows)=>if ae=v∧off=0∧w=ks.length∧Kd.gF ks d=true∧fz id=true then some (cR n rows.length,[.l (rows.take n)]) else none
    |_=>none
   |_=>none
 | .map j,.map id=>match H[id]? with
  |some (.map _ _ _ _)=>if id=e.at j then some (true,[]) else none
  |some (.a7 _ _ _ _ _)=>if id=e.at j then some (true,[]) else none
  |_=>none
 |.addr,.lit (.pointer (some ⟨b,0,none⟩))=>some (true,[.i (b:Nat)])
 |.Lm f js,.clo g vs=>if f=g∧kB H e js vs=true then some (true,[]) else none
 |.El,.lit .nilIface=>some (true,[])
 |_,_=>none
def fw(H:List ak)(e:bJ)(fz:Nat→Bool):List ew→List AV→Option (Bool × List G)
 | [],[]=>some (true,[])
 | sh::d,a::as=>match fH H e fz sh a,fw H e fz d as with
  |some (b,g),some (k,q)=>some (b&&k,g++q)
  |_,_=>none
 |_,_=>none
def kC(H:List ak)(e:bJ)(fz:Nat→Bool):Sh→AV→Option (Bool × List G)
 |.s a,v=>fH H e fz a v
 |.clo f caps,.clo g vs=>if f=g then fw H e fz caps vs else none
 |_,_=>none
def eg(H:List ak)(e:bJ)(fz:Nat→Bool):List Sh→List AV→Option (Bool × List G)
 | [],[]=>some (true,[])
 | sh::d,a::as=>match kC H e fz sh a,eg H e fz d as with
  |some (b,g),some (k,q)=>some (b&&k,g++q)
  |_,_=>none
 |_,_=>none
def gV(H:List ak)(e:bJ)(fz:Nat→Bool):cn→ak→Option (Bool × List G)
 |.vec ks _,.vec d _ rows=>if Kd.gF ks d then some (true,[.l rows]) else none
 |.box k,.raw (.box cells)=>fw H e fz k cells
 |.map K V,.map g q rows clock=>if K.same g&&V.same q then some (true,[.l rows,.i clock]) else none
 |.eQ l T B,.raw (.eQ l' A F s)=>if (ab l l'&&(ab T A&&ab B F))=true then some (true,[.s s]) else none
 |.a7 l K ks,.a7 l' g d rows clock=>if (ab l l'&&(K.same g&&Kd.gF ks d))=true then some (true,[.l rows,.i clock]) else none
 |_,_=>none
theorem En{H:List ak}{e:bJ}{fz:Nat→Bool}{sh:cn}{o:ak}{b:Bool}{g:List G}(h:gV H e fz sh o=some (b,g)):o.den.label=sh.jk:=by
 unfold gV at h;split at h
 ·rfl
 ·rfl
 ·rfl
 ·split at h
  ·rename_i d
   simp only[aw]at d;have:=bt d.1;subst this;rfl
  ·cases h
 ·split at h
  ·rename_i d
   simp only[aw]at d;have:=bt d.1;subst this;rfl
  ·cases h
 ·cases h
def ir(H:List ak)(e:bJ)(fz:Nat→Bool):List cn→List Nat→Option (Bool × List G)
 | [],[]=>some (true,[])
 | o::os,i::is=>match H[i]? with
  | some t=>match gV H e fz o t,ir H e fz os is with
   |some (b,g),some (d,k)=>some (b&&d,g++k)
   |_,_=>none
  |none=>none
 |_,_=>none
theorem mr:∀(g rest:List G),dv g.length (g++rest)=rest
 | [],_=>rfl
 |_::g,rest=>mr g rest
def qK:ak→Nat
 |.vec _ v _=>v
 |_=>0
def qL(H:List ak)(id:Nat):Nat:=match H[id]? with
 |some o=>qK o
 |none=>0
def a_(H:List ak)(ids:List Nat):bJ:=⟨ids,ids.map (qL H),H.length⟩
structure zN (E0:Env) (lens:dc) (j:Nat) (o:ak):Prop where
 ae:o.den.aH = some (qK o)
 obj:∃ o0,E0.H[j]? = some o0∧o0.aH = some (lens.ae j)
 len:∀ ks v rows,o=.vec ks v rows→lens.len j=rows.length
 flat:(∀ ks v rows,o≠.vec ks v rows)→lens.ae j=0
structure gW (H:List ak) (e:bJ) (fz:Nat→Bool) (lens:dc) (E E0:Env):Prop where
 hH:E.H=aj H
 HE:ar E
 free:∀ i,fz i=true→∀ b n,E.loc[i]? = some (some (b,n))→E0.ic b
 dm:KeepIn e E E0
 obj:∀ j o,H[e.at j]? = some o→j<e.ids.length∧zN E0 lens j o
section dm
variable {H:List ak} {e:bJ} {fz:Nat→Bool} {lens:dc} {E E0:Env}
theorem zN.past{j:Nat}{o:ak}(h:zN E0 lens j o):E0.past j (lens.ae j):=by
 obtain⟨o0,h1,g⟩:=h.obj;exact⟨o0,h1,fun v d=>by rw[g]at d; cases d; exact aI _⟩
theorem We(K:gW H e fz lens E E0){id v n:Nat}{ks:List Kd}{rows:List (List G)}{c:Value}(hid:H[id]? = some (.vec ks v rows))(I:fz id=true)(hn:n=rows.length)
  (hr:rel E (.vec ks.length id v 0 n) c):rel E0 (.listF ks rows) c:=by
 subst hn;have q:E.H[id]? = some (.vec ks.length v (rows.map (aD ks))):=by rw[K.hH]; exact bl hid
 have d:=K.HE.obj id _ q;rw[jI];simp only[rel]at hr⊢;obtain⟨⟨base,cap,rfl,F,_⟩,_,k⟩:=hr;obtain⟨N,J⟩:=k ⟨_,q,rfl⟩;have A:fa (rows.map (aD ks)):=by
  intro r hr;obtain⟨g,_,rfl⟩:=bR.1 hr;exact fL ks g
 refine⟨A,base,cap,by simp,by simpa using F,?_⟩;simp only[aO]at d;rcases d with⟨h1,B⟩|⟨b,m,h1,B,k,_,M⟩
 ·exact .inl B
 ·obtain ⟨g1, o, g2, g3⟩ := J b m h1
  by_cases hm:rows=[]
  ·subst hm; exact .inl rfl
  ·right
   have:0<rows.length:=by cases rows with|nil=>exact(hm rfl).elim|cons _ _=>simp
   simp at k;have d:=g2 (by omega);simp at d;subst d;simp only[j0]at g3;exact⟨b,0,g3.1,K.free id I b m h1,k8 K.dm.bG _ A (by rw[K.dm.w]) M⟩
theorem Wf(K:gW H e fz lens E E0){id v n:Nat}{ks:List Kd}{rows:List (List G)}{c:Value}(hid:H[id]? = some (.vec ks v rows))(M:fz id=true)(hn:n≤rows.length)
  (hr:rel E (.vec ks.length id v 0 n) c):rel E0 (.listF ks (rows.take n)) c:=by
 have q:E.H[id]? = some (.vec ks.length v (rows.map (aD ks))):=by rw[K.hH]; exact bl hid
 have d:=K.HE.obj id _ q;rw[jI];simp only[rel]at hr⊢;obtain⟨⟨base,cap,rfl,J,_⟩,_,k⟩:=hr;obtain⟨O,N⟩:=k ⟨_,q,rfl⟩;have B:fa ((rows.take n).map (aD ks)):=by
  intro r hr;obtain⟨g,_,rfl⟩:=bR.1 hr;exact fL ks g
 have A:min n rows.length=n:=Nat.min_eq_left hn;refine⟨B,base,cap,by simp[A],by simpa[A]using J,?_⟩;simp only[aO]at d;rcases d with⟨h1,F⟩|⟨b,m,h1,F,k,_,I⟩
 ·left
  have:rows=[]:=by simpa using F
  rw[this];simp
 ·obtain ⟨g1, o, g2, g3⟩ := N b m h1
  by_cases hm:n=0
  ·left; rw[hm]; simp
  ·right
   simp at k;have d:=g2 (by omega);simp at d;subst d;simp only[j0]at g3;refine⟨b,0,g3.1,K.free id M b m h1,k8 K.dm.bG _ B (by rw[K.dm.w]) ?_⟩;rw[l6]at I⊢;intro i r hi;simp only[cq,mT]at hi;split at hi
   ·exact I i r (by simpa using hi)
   ·simp at hi
theorem Wg(K:gW H e fz lens E E0){id k:Nat}{cells:List AV}{c:Value} (hid:H[id]? = some (.raw (.box cells))) (g:AV.bf cells=true) (A:fz id=true)
  (hr:rel E (.ptr id 0 k 0 0) c):rel E0 (.cptr cells) c:=by
 have d:E.H[id]? = some (.box cells):=by rw[K.hH]; exact bl hid
 have q:=K.HE.obj id _ d;simp only[aO]at q;obtain⟨b,n,h1,I,B⟩:=q;simp only[rel]at hr⊢;obtain⟨_,_,F⟩:=hr;obtain⟨J,M,g1,g2⟩:=F ⟨_,d,rfl⟩;rw[h1]at g1;simp only[aT,aZ]at g1;obtain⟨rfl,rfl⟩:=g1;exact⟨g,b,0,by rw[g2]; simp,K.free id A b n h1,sg K.dm.bG cells g (by rw[K.dm.w]) B⟩
theorem Wh(K:gW H e fz lens E E0){id k v:Nat}{ks:List Kd}{r:List G}{c:Value}(hid:H[id]? = some (.vec ks v [r]))(B:fz id=true)
  (hr:rel E (.ptr id v k 0 0) c):rel E0 (.cptr (aD ks r)) c:=by
 have d:E.H[id]? = some (.vec ks.length v [aD ks r]):=by rw[K.hH]; exact bl hid
 have g:=K.HE.obj id _ d;simp only[aO]at g;simp only[rel]at hr⊢;obtain⟨_,_,F⟩:=hr;obtain⟨I,J,g1,g2⟩:=F ⟨_,d,rfl⟩;rcases g with⟨_,q⟩|⟨b,m,h1,q,M,N,A⟩
 ·cases q
 ·rw [h1] at g1
  simp only[aT,aZ]at g1;obtain⟨rfl,rfl⟩:=g1;simp only[cL]at A;exact⟨fL ks r,b,0,by rw[g2]; simp,K.free id B b m h1,sg K.dm.bG _ (fL ks r) (by rw[K.dm.w]) A.2.1⟩
theorem Ln(K:gW H e fz lens E E0):∀{js:List Nat} {vs:List AV},kB H e js vs=true→∀ cs,ad E vs cs→ad E0 (qJ js) cs
 | [],[],_,cs,hr=>by
  cases cs with
  |nil=>simp[qJ,ad]
  |cons _ _=>simp[ad]at hr
 | j::js,v::vs,h,cs,hr=>by
  cases v<;>simp only[kB,mU]at h<;>try cases h
  rename_i id ae k row c;simp only[aw]at h;obtain⟨h1,A⟩:=h;split at h1
  ·rename_i r hid
   simp only[aw]at h1;obtain⟨⟨⟨⟨d,a2⟩,a3⟩,a4⟩,a5⟩:=h1;have d:=bt d;have a2:=bt a2;have a3:=bt a3;have a4:=bt a4;have a5:=bt a5;subst d a2 a3 a4 a5;cases cs with
   |nil=>simp[ad]at hr
   | cons c cs =>
    simp only[ad]at hr;simp only[qJ,ad];refine⟨?_,Ln K A cs hr.2⟩;obtain⟨B,g⟩:=K.obj _ _ hid;have F:=g.flat (fun _ _ _ h=>by cases h);have q:=hr.1;simp only[rel]at q⊢;obtain⟨h1,A,I⟩:=q;refine⟨h1,by have:=g.past; rwa [F]at this,fun _=>?_⟩;rw[K.dm.loc _ B];exact I ⟨_,by rw[K.hH]; exact bl hid,g.ae⟩
  ·cases h1
 | [],_::_,h,_,_=>by simp[kB]at h
 |_::_,[],h,_,_=>by simp[kB]at h
theorem Lo(K:gW H e fz lens E E0){sh:ew}{a:AV}{g:List G}(h:fH H e fz sh a=some (true,g))(rest:List G) :
  g.length=sh.sz∧∀ c,rel E a c→rel E0 (eA lens sh (g++rest)) c:=by
 unfold fH at h;split at h
 ·split at h
  ·rename_i hk
   subst hk;cases h;exact⟨rfl,fun c hr=>by simp only[rel]at hr; subst hr; simp[eA,rel,G.int]⟩
  ·cases h
 ·cases h; exact⟨rfl,fun c hr=>by simp only[rel]at hr; subst hr; simp[eA,rel,G.str]⟩
 ·cases h; exact⟨rfl,fun c hr=>by simp only[rel]at hr; subst hr; simp[eA,rel,G.bool]⟩
 ·split at h
  ·rename_i rows hr
   cases h;exact⟨rfl,fun c hc=>dI K.dm.bG (.listF _ rows) rfl (K_ hr hc)⟩
  ·split at h
   ·split at h
    ·rename_i hid
     split at h
     ·rename_i hc
      obtain⟨rfl,rfl,rfl,k,B⟩:=hc;simp only[aT,aZ]at h;obtain⟨h1,rfl⟩:=h;have k:=Kd.iO k;subst k;exact⟨rfl,fun c hr=>We K hid B (bt h1) hr⟩
     ·cases h
    ·cases h
   ·cases h
 ·split at h
  ·rename_i ks a r hr
   cases h;have F:=La hr;subst F;exact⟨rfl,fun c hc=>dI K.dm.bG (.agg (aD ks r)) (by simp only[AV.closed,fL]) hc⟩
  ·cases h
 ·split at h
  ·rename_i r hr
   cases h;have F:=kp hr;subst F;exact⟨rfl,fun c hc=>dI K.dm.bG (.cptr _) rfl hc⟩
  ·cases h
 ·split at h
  ·rename_i hid
   split at h
   ·rename_i r hr
    split at h
    ·rename_i hc
     obtain⟨rfl,rfl,rfl,B⟩:=hc;cases h;have F:=kp hr;subst F;exact⟨rfl,fun c hr=>Wg K hid (fL _ _) B hr⟩
    ·cases h
   ·cases h
  ·rename_i N v r hid
   split at h
   ·rename_i hc
    obtain⟨rfl,rfl,rfl,k,B⟩:=hc;cases h;have k:=Kd.iO k;subst k;exact⟨rfl,fun c hr=>Wh K hid B hr⟩
   ·cases h
  ·cases h
 ·cases h; exact⟨rfl,fun c hr=>by simpa only[eA,rel]using hr⟩
 ·cases h; exact⟨rfl,fun c hr=>by simp[eA,rel]⟩
 ·split at h
  ·rename_i hk
   subst hk;cases h;exact⟨rfl,fun c hr=>dI K.dm.bG (.clo _ []) rfl hr⟩
  ·cases h
 ·split at h
  ·rename_i r hid
   split at h
   ·rename_i hc
    obtain⟨rfl,rfl,rfl,rfl,rfl⟩:=hc;cases h;obtain⟨q,d⟩:=K.obj _ _ hid;have I:=d.flat (fun _ _ _ h=>by cases h);refine⟨rfl,fun c hr=>?_⟩;simp only[rel]at hr;simp only[eA,rel];obtain⟨h1,J,A⟩:=hr;refine⟨h1,by have:=d.past; rwa [I]at this,fun _=>?_⟩;rw[K.dm.loc _ q];exact A ⟨_,by rw[K.hH]; exact bl hid,d.ae⟩
   ·cases h
  ·cases h
 ·split at h
  ·rename_i ks v rows hid
   split at h
   ·rename_i hc
    obtain⟨rfl,rfl,rfl,rfl⟩:=hc;simp only[aT,aZ]at h;obtain⟨h1,rfl⟩:=h;have h1:=bt h1;subst h1;obtain⟨q,d⟩:=K.obj _ _ hid;refine⟨rfl,fun c hr=>?_⟩;simp only[rel]at hr;simp only[eA,rel];rw[d.len _ _ _ rfl];obtain⟨h1,J,A⟩:=hr;refine⟨h1,d.past,fun _=>?_⟩;rw[K.dm.loc _ q];exact A ⟨_,by rw[K.hH]; exact bl hid,d.ae⟩
   ·cases h
  ·cases h
 ·split at h
  ·rename_i ks v rows hid
   split at h
   ·rename_i hc
    obtain⟨rfl,rfl,rfl⟩:=hc;cases h;obtain⟨q,d⟩:=K.obj _ _ hid;refine⟨rfl,fun c hr=>?_⟩;simp only[rel]at hr;simp only[eA,rel,ob,oq,List.tail_cons,G.int,aR];obtain⟨h1,J,A⟩:=hr;refine⟨h1,d.past,fun _=>?_⟩;rw[K.dm.loc _ q];exact A ⟨_,by rw[K.hH]; exact bl hid,d.ae⟩
   ·cases h
  ·cases h
 ·split at h
  ·rename_i ks v rows hid
   split at h
   ·rename_i hc
    obtain⟨rfl,rfl,rfl,rfl⟩:=hc;cases h;obtain⟨q,d⟩:=K.obj _ _ hid;refine⟨rfl,fun c hr=>?_⟩;simp only[rel]at hr;simp only[eA,rel,ob,oq,G.int,aR];obtain⟨h1,J,A⟩:=hr;refine⟨h1,d.past,fun _=>?_⟩;rw[K.dm.loc _ q];exact A ⟨_,by rw[K.hH]; exact bl hid,d.ae⟩
   ·cases h
  ·cases h
 ·split at h
  ·rename_i rows hr
   cases h;exact⟨rfl,fun c hc=>dI K.dm.bG (.listF _ rows) rfl (K_ hr hc)⟩
  ·split at h
   ·split at h
    ·rename_i hid
     split at h
     ·rename_i hc
      obtain⟨rfl,rfl,rfl,k,B⟩:=hc;simp only[aT,aZ]at h;obtain⟨h1,rfl⟩:=h;have k:=Kd.iO k;subst k;exact⟨rfl,fun c hr=>Wf K hid B (j9 h1) hr⟩
     ·cases h
    ·cases h
   ·cases h
 ·split at h
  ·rename_i M R rows cl hid
   split at h
   ·rename_i hc
    subst hc;cases h;obtain⟨q,d⟩:=K.obj _ _ hid;have I:=d.flat (fun _ _ _ h=>by cases h);refine⟨rfl,fun c hr=>?_⟩;simp only[rel]at hr;simp only[eA,rel];obtain⟨h1,J,A⟩:=hr;refine⟨h1,by have:=d.past; rwa [I]at this,fun _=>?_⟩;rw[K.dm.loc _ q];exact A ⟨_,by rw[K.hH]; exact bl hid,d.ae⟩
   ·cases h
  ·rename_i l1 M O rows cl hid
   split at h
   ·rename_i hc
    subst hc;cases h;obtain⟨q,d⟩:=K.obj _ _ hid;have I:=d.flat (fun _ _ _ h=>by cases h);refine⟨rfl,fun c hr=>?_⟩;simp only[rel]at hr;simp only[eA,rel];obtain⟨h1,J,A⟩:=hr;refine⟨h1,by have:=d.past; rwa [I]at this,fun _=>?_⟩;rw[K.dm.loc _ q];exact A ⟨_,by rw[K.hH]; exact bl hid,d.ae⟩
   ·cases h
  ·cases h
 ·cases h; exact⟨rfl,fun c hr=>by simp only[rel]at hr; subst hr; simp[eA,rel,G.int]⟩
 ·split at h
  ·rename_i hc
   obtain⟨rfl,hc⟩:=hc;cases h;refine⟨rfl,fun c hr=>?_⟩;simp only[rel]at hr;simp only[eA,rel];obtain⟨cs,r1,r2⟩:=hr;exact⟨cs,r1,Ln K hc _ r2⟩
  ·cases h
 ·cases h; exact⟨rfl,fun c hr=>by simpa only[eA,rel]using hr⟩
 ·cases h
theorem Eo(K:gW H e fz lens E E0):∀{d:List ew} {as:List AV} {g:List G},fw H e fz d as=some (true,g)→∀(rest:List G),
  g.length=mq d∧as.length=d.length∧(iq lens d (g++rest)).length=d.length ∧
   (∀ cs,ad E as cs→ad E0 (iq lens d (g++rest)) cs)∧∀ b o,E0.w.heap[b]? = E.w.heap[b]? → ca E as b o→ca E0 (iq lens d (g++rest)) b o
 | [],[],g,h,rest=>by
  simp only[fw,aT,aZ]at h;obtain⟨_,rfl⟩:=h;refine⟨rfl,rfl,rfl,fun cs hr=>?_,fun b o _ hr=>by simp[iq,ca]⟩;cases cs with
  |nil=>simp[iq,ad]
  |cons _ _=>simp[ad]at hr
 | sh::d,a::as,g,h,rest=>by
  simp only[fw]at h;split at h
  ·rename_i b g1 R g2 h1 B
   simp only[aT,aZ,aw]at h;obtain⟨⟨rfl,rfl⟩,rfl⟩:=h;obtain⟨p1,q⟩:=Lo K h1 (g2++rest);obtain⟨F,I,J,M,N⟩:=Eo K B rest;have k:dv sh.sz (g1++(g2++rest))=g2++rest:=by rw[←p1]; exact mr g1 _
   refine⟨by simp only[mq,fD,p1,F],by simp only[di,I],?_,?_,?_⟩
   ·simp only[iq,j8,k,di,J]
   ·intro cs hr
    cases cs with
    |nil=>simp[ad]at hr
    | cons c cs =>
     simp only[ad]at hr;simp only[iq,j8,k,ad];exact⟨q c hr.1,M cs hr.2⟩
   ·intro b o A hr
    simp only[ca]at hr;simp only[iq,j8,k,ca];obtain⟨⟨v,r1,r2,r3⟩,O⟩:=hr;exact⟨⟨v,by rw[World.sf A]; exact r1,r2,q v r3⟩,N b (o+1) A O⟩
  ·cases h
 | [],_::_,_,h,_=>by simp[fw]at h
 |_::_,[],_,h,_=>by simp[fw]at h
theorem Lp(K:gW H e fz lens E E0){sh:Sh}{a:AV}{g:List G}(h:kC H e fz sh a=some (true,g))(rest:List G) :
  g.length=sh.sz∧∀ c,rel E a c→rel E0 (lz lens sh (g++rest)) c:=by
 cases sh with
 |s a0=>exact Lo K h rest
 | clo f caps =>
  cases a<;>simp only[kC]at h<;>try cases h
  rename_i g1 vs;split at h
  ·rename_i d
   subst d;obtain⟨k,A,B,q,F⟩:=Eo K h rest;refine⟨k,fun c hr=>?_⟩;simp only[rel]at hr;simp only[lz,rel];obtain⟨cs,r1,r2⟩:=hr;exact⟨cs,r1,q _ r2⟩
  ·cases h
theorem qM(K:gW H e fz lens E E0):∀{d:List Sh} {as:List AV} {g:List G},eg H e fz d as=some (true,g)→∀(rest:List G),
  g.length=Em d∧as.length=d.length∧(dL lens d (g++rest)).length=d.length∧(∀ cs,ad E as cs→ad E0 (dL lens d (g++rest)) cs)
 | [],[],g,h,rest=>by
  simp only[eg,aT,aZ]at h;obtain⟨_,rfl⟩:=h;refine⟨rfl,rfl,rfl,fun cs hr=>?_⟩;cases cs with
  |nil=>simp[dL,ad]
  |cons _ _=>simp[ad]at hr
 | sh::d,a::as,g,h,rest=>by
  simp only[eg]at h;split at h
  ·rename_i b g1 M g2 h1 q
   simp only[aT,aZ,aw]at h;obtain⟨⟨rfl,rfl⟩,rfl⟩:=h;obtain⟨p1,A⟩:=Lp K h1 (g2++rest);obtain⟨B,F,I,J⟩:=qM K q rest;have k:dv sh.sz (g1++(g2++rest))=g2++rest:=by rw[←p1]; exact mr g1 _
   refine⟨by simp only[Em,fD,p1,B],by simp only[di,F],by simp only[dL,j8,k,di,I],?_⟩;intro cs hr;cases cs with
   |nil=>simp[ad]at hr
   | cons c cs =>
    simp only[ad]at hr;simp only[dL,j8,k,ad];exact⟨A c hr.1,J cs hr.2⟩
  ·cases h
 | [],_::_,_,h,_=>by simp[eg]at h
 |_::_,[],_,h,_=>by simp[eg]at h
theorem Lq(K:gW H e fz lens E E0):∀{A:List Sh} {as:List AV} {g:List G},eg H e fz A as=some (true,g)→∀{rest:List G} {k:Nat} {x v:AV} {c:Value},
  as[k]? = some x→(dL lens A (g++rest))[k]? = some v→rel E x c→rel E0 v c
 | [],[],_,_,_,_,_,_,_,d,_,_=>by simp at d
 | sh::A,a::as,g,h,rest,k,x,v,c,d,q,hr=>by
  simp only[eg]at h;split at h
  ·rename_i b g1 J g2 h1 B
   simp only[aT,aZ,aw]at h;obtain⟨⟨rfl,rfl⟩,rfl⟩:=h;obtain⟨p1,F⟩:=Lp K h1 (g2++rest);have I:dv sh.sz (g1++(g2++rest))=g2++rest:=by rw[←p1]; exact mr g1 _
   simp only[dL,j8,I]at q;cases k with
   | zero =>
    simp at d q;subst d;subst q;exact F c hr
   |succ k=>exact Lq K B (by simpa using d) (by simpa using q) hr
  ·cases h
 | [],_::_,_,h,_,_,_,_,_,_,_,_=>by simp[eg]at h
 |_::_,[],_,h,_,_,_,_,_,_,_,_=>by simp[eg]at h
theorem Ep(K:gW H e fz lens E E0){sh:cn}{o:ak}{g:List G}(h:gV H e fz sh o=some (true,g))(rest:List G)
  {j:Nat} (U:j<e.ids.length) (hlab:∀ l,sh.jk=some l→E0.X.r l=E.X.r l) (I:aO E (e.at j) o.den):aO E0 j (eX lens sh (g++rest)).den:=by
 have J:∀ b:Nat,E0.w.heap[b]? = E.w.heap[b]? := fun b=>by rw[K.dm.w]
 have M:=K.dm.loc j U;unfold gV at h;split at h
 ·split at h
  ·rename_i A
   cases h;have A:=Kd.iO A;subst A;simp only[eX,ak.den,aO]at I⊢;rcases I with⟨h1,d⟩|⟨b,m,h1,d,F,N,W⟩
   ·exact .inl ⟨by rw[M,h1],d⟩
   ·exact .inr ⟨b,m,by rw[M,h1],sk (J b) d,F,N,k8 K.dm.bG _ N (J b) W⟩
  ·cases h
 ·rename_i shs cells
  obtain⟨q1,Y,q3,q5,q6⟩:=Eo K h rest;simp only[eX,ak.den,aO]at I⊢;obtain⟨b,n,h1,d,F⟩:=I;exact⟨b,n,by rw[M,h1],by rw[q3,←Y]; exact sk (J b) d,q6 b 0 (J b) F⟩
 ·split at h
  ·rename_i A
   cases h;simp only[aw]at A;have h1:=Ct.qw A.1;have d:=Ct.qw A.2;subst h1;subst d;simp only[eX,ak.den,aO]at I⊢;obtain⟨b,n,ms,h1,d,F⟩:=I;refine⟨b,n,ms,by rw[M,h1],?_,tc K.dm.bG F⟩;rw[J b];simpa[G.int]using d
  ·cases h
 ·rename_i l T B l' T' B' s
  split at h
  ·rename_i A
   cases h;simp only[aw]at A;obtain⟨h1,d,F⟩:=A;have h1:=bt h1;have d:=bt d;have F:=bt F;subst h1 d F;simp only[eX,ak.den,aO]at I⊢;obtain⟨b,n,p,v,k,q,g1,g2,g3,g4,g5,g6⟩:=I;have hr:=hlab l rfl;exact⟨b,n,p,v,k,q,by rw[M,g1],by rw[J b,g2],g3,by rw[hr,g4],by rw[hr]; exact g5,CG (fun g m _=>J g) (by simpa[G.str]using g6)⟩
  ·cases h
 ·rename_i l K0 ks l' K' ks' rows clock
  split at h
  ·rename_i A
   cases h;simp only[aw]at A;obtain⟨h1,d,F⟩:=A;have h1:=bt h1;have d:=Ct.qw d;have F:=Kd.iO F;subst h1 d F;simp only[eX,ak.den,aO]at I⊢;obtain⟨b,n,ms,g1,g2,g3,g4⟩:=I;have hr:=hlab l rfl;refine⟨b,n,ms,by rw[M,g1],?_,tc K.dm.bG g3,uT (E:=E) (fun h g m hk=>⟨by rw[hr]; exact hk,J g⟩) (fun _ _ _ _ _ b' O hc R=>k8 K.dm.bG _ hc O R) g4⟩;rw[J b];simpa[G.int]using g2
  ·cases h
 ·cases h
end dm
def cn.up:cn→Nat
 |.vec _ u=>u
 |_=>0
theorem vX{H:List ak}{e:bJ}{fz:Nat→Bool}{lens:dc}{sh:cn}{o:ak}{b:Bool}{g d:List G}(h:gV H e fz sh o=some (b,g)) :
  o.den.aH = some (qK o)∧(eX lens sh d).den.aH = some sh.up∧((∀ ks v rows,o≠.vec ks v rows)→sh.up=0):=by
 unfold gV at h;split at h
 ·exact⟨rfl,rfl,fun hn=>(hn _ _ _ rfl).elim⟩
 ·exact⟨rfl,rfl,fun _=>rfl⟩
 ·exact⟨rfl,rfl,fun _=>rfl⟩
 ·exact⟨rfl,rfl,fun _=>rfl⟩
 ·exact⟨rfl,rfl,fun _=>rfl⟩
 ·cases h
theorem Wi{H:List ak}{e:bJ}{fz:Nat→Bool}{sh:ew}{a:AV}{b:Bool}{g:List G}(h:fH H e fz sh a=some (b,g)):g.length=sh.sz:=by
 unfold fH at h;split at h<;>(try split at h)<;>(try split at h)<;>(try split at h)<;>(try split at h)<;>first
  |(cases h; rfl)
  |cases h
theorem Lr{H:List ak}{e:bJ}{fz:Nat→Bool}:∀{d:List ew} {as:List AV} {b:Bool} {g:List G},fw H e fz d as=some (b,g)→g.length=mq d
 | [],[],_,g,h=>by simp[fw]at h; simp[←h.2,mq]
 | sh::d,a::as,b,g,h=>by
  simp only[fw]at h;split at h
  ·rename_i b g1 q g2 h1 k
   simp only[aT,aZ]at h;obtain⟨_,rfl⟩:=h;simp only[mq,fD,Wi h1,Lr k]
  ·cases h
 | [],_::_,_,_,h|_::_,[],_,_,h=>by simp[fw]at h
theorem Wj{H:List ak}{e:bJ}{fz:Nat→Bool}{sh:cn}{o:ak}{b:Bool}{g:List G}(h:gV H e fz sh o=some (b,g)):g.length=sh.sz:=by
 unfold gV at h;split at h
 ·split at h
  ·cases h; rfl
  ·cases h
 ·exact Lr h
 ·split at h
  ·cases h; rfl
  ·cases h
 ·split at h
  ·cases h; rfl
  ·cases h
 ·split at h
  ·cases h; rfl
  ·cases h
 ·cases h
theorem qN{H:List ak}{e:bJ}{fz:Nat→Bool}:∀{os:List cn} {ids:List Nat} {g:List G},ir H e fz os ids=some (true,g)→∀(rest:List G) (lens:dc),
  g.length=kA os∧ids.length=os.length∧(bZ lens os (g++rest)).length=os.length ∧
  (∀ (j : Nat) (sh : cn), os[j]? = some sh → ∃ i o g1 q, ids[j]? = some i ∧ H[i]? = some o ∧ gV H e fz sh o = some (true, g1) ∧ (bZ lens os (g ++ rest))[j]? = some (eX lens sh (g1 ++ q)) ∧
   (bB os (g++rest)).ae j=sh.up∧∀ ks v rows,o=.vec ks v rows→(bB os (g++rest)).len j=rows.length)
 | [],[],g,h,rest,lens=>by
  simp only[ir,aT,aZ]at h;obtain⟨_,rfl⟩:=h;exact⟨rfl,rfl,rfl,fun j sh d=>by simp at d⟩
 | sh::os,i::ids,g,h,rest,lens=>by
  simp only[ir]at h;split at h
  case h_2=>cases h
  rename_i o I;split at h
  ·rename_i b g1 b' g2 h1 J
   simp only[aT,aZ,aw]at h;obtain⟨⟨rfl,rfl⟩,rfl⟩:=h;obtain⟨M,N,O,R⟩:=qN J rest lens;have A:=Wj h1;have k:dv sh.sz (g1++(g2++rest))=g2++rest:=by rw[←A]; exact mr g1 _
   refine⟨by simp only[kA,fD,A,M],by simp only[di,N],by simp only[bZ,j8,k,di,O],fun j B d=>?_⟩;cases j with
   | zero =>
    simp at d;subst d;refine⟨i,o,g1,g2++rest,rfl,I,h1,by simp only[bZ,j8,List.getElem?_cons_zero],?_,?_⟩
    ·unfold bB dc.ae
     cases sh<;>rfl
    ·rintro ks v rows rfl
     unfold gV at h1;split at h1
     ·rename_i heq
      cases heq;split at h1
      ·cases h1
       simp[bB,dc.len,G.rows]
      ·cases h1
     ·rename_i heq; cases heq
     ·rename_i heq; cases heq
     ·rename_i heq; cases heq
     ·rename_i heq; cases heq
     ·cases h1
   | succ j =>
    obtain⟨U,o',F,q,r1,r2,r3,W,Y,r6⟩:=R j B (by simpa using d);refine⟨U,o',F,q,by simpa using r1,r2,r3,by simpa only[bZ,j8,k,Tl]using W,?_,?_⟩
    ·simpa only[bB,dc.ae,j8,k,aiz]using Y
    ·simpa only[bB,dc.len,j8,k,aiz]using r6
  ·cases h
 | [],_::_,_,h,_,_=>by simp[ir]at h
 |_::_,[],_,h,_,_=>by simp[ir]at h
end Go.AL

namespace Go.AL
open Go
variable [Dr]
abbrev vY(a b:Bool):Bool:=Bool.casesOn a false b
theorem vZ{a b:Bool}:vY a b=true↔a=true∧b=true:=by cases a<;>simp
open Classical in
noncomputable def mu(E:Env)(H0:List af)(l:Nat):List (Option (Option (Nat × Nat))):=if ∃(j:Nat) (o:af),H0[j]? = some o∧o.label=some l then E.X.r l else (E.X.r l).map fun _=>none
theorem Wk{E:Env}{H0:List af}{l j:Nat}{o:af}(h:H0[j]? = some o)(d:o.label=some l):mu E H0 l=E.X.r l:=if_pos ⟨j,o,h,d⟩
theorem zO{E:Env}{H0:List af}{l h:Nat}{q:Option (Nat × Nat)}(d:(mu E H0 l)[h]? = some (some q)):(E.X.r l)[h]? = some (some q)∧∃(j:Nat) (o:af),H0[j]? = some o∧o.label=some l:=by
 unfold mu at d;split at d
 ·rename_i k
  exact⟨d,k⟩
 ·rw [cq] at d
  cases g:(E.X.r l)[h]? with
  |none=>rw[g]at d; cases d
  |some y=>rw[g]at d; cases d
theorem Wl(E:Env)(H0:List af)(l:Nat):(mu E H0 l).length=(E.X.r l).length:=by
 unfold mu;split
 ·rfl
 ·simp
noncomputable def fR(E:Env)(H0:List af)(ids:List Nat):Env:=⟨E.w,H0,ids.map fun i=>E.loc.getD i none,E.X.re (mu E H0)⟩
theorem Er(E:Env)(H0:List af)(ids:List Nat):∀ l h,h<(E.X.r l).length→h<((fR E H0 ids).X.r l).length∧∀ q,((fR E H0 ids).X.r l)[h]? = some (some q)→(E.X.r l)[h]? = some (some q) :=
 fun l h d=>⟨by show h<(mu E H0 l).length; rw[Wl]; exact d,fun q g=>(zO (E:=E) (H0:=H0) g).1⟩
theorem Es{E:Env}{H0:List af}{ids:List Nat}{b:Nat}(h:(fR E H0 ids).own b):E.own b:=by
 rcases h with⟨j,c,g⟩|⟨l,k,c,g⟩
 ·simp only [fR, cq] at g
  obtain⟨i,_,d⟩:=ft.1 g;rw[cH]at d;cases he:E.loc[i]? with
  |none=>rw[he]at d; cases d
  |some y=>rw[he]at d; simp at d; exact .inl ⟨i,c,by rw[he,d]⟩
 ·exact .inr ⟨l,k,c,(zO g).1⟩
def fS(ids:List Nat)(i:Nat):Bool := !ids.any (ab i)
theorem Et{ids:List Nat}{i:Nat}(h:fS ids i=true):i∉ids:=by
 intro hm;have:ids.any (ab i)=true:=jE.2 ⟨i,hm,by simp⟩;simp[fS,this]at h
theorem Eu{E:Env}{H:List ak}(hH:E.H=aj H)(HE:ar E){ids:List Nat}(hn:ids.Nodup){os:List cn}{g:List G}(h:ir H (a_ H ids) (fS ids) os ids=some (true,g))(rest:List G) :
  gW H (a_ H ids) (fS ids) (bB os (g++rest)) E (fR E (aj (bZ (bB os (g++rest)) os (g++rest))) ids) ∧
   ar (fR E (aj (bZ (bB os (g++rest)) os (g++rest))) ids):=by
 obtain⟨p0,p1,p2,p3⟩:=qN h rest (bB os (g++rest));generalize I:fR E (aj (bZ (bB os (g++rest)) os (g++rest))) ids=E0;have hElen:E.loc.length=H.length:=by rw[HE.len,hH,dU]
 have eids:(a_ H ids).ids=ids:=rfl;have Y:∀ j x,E0.loc[j]? = some x→j<ids.length∧∃ i,ids[j]? = some i∧E.loc.getD i none=x:=by
  intro j x F;rw[←I]at F;simp only[fR,cq]at F;obtain⟨i,h1,B⟩:=ft.1 F;exact⟨aJ h1,i,h1,B⟩
 have getD_some:∀{i:Nat} {x:Nat × Nat},E.loc.getD i none=some x→E.loc[i]? = some (some x):=by
  intro i x F;rw[cH]at F;cases he:E.loc[i]? with
  |none=>rw[he]at F; cases F
  |some y=>rw[he]at F; simp at F; rw[F]
 have hown:∀ b,E0.own b→E.own b:=by
  rintro b (⟨j,c,A⟩|⟨l,k,c,A⟩)
  ·obtain ⟨_, i, _, B⟩ := Y j _ A
   exact .inl ⟨i,c,getD_some B⟩
  ·rw [← I] at A
   exact .inr ⟨l,k,c,(zO A).1⟩
 have hw:E0.w=E.w:=by rw[←I]; rfl
 have hX:E0.X.x=E.X.x:=by rw[←I]; rfl
 have W:∀(l k:Nat) q,(E0.X.r l)[k]? = some (some q)→(E.X.r l)[k]? = some (some q)∧∃(j:Nat) (o:af),E0.H[j]? = some o∧o.label=some l:=fun l k q hq=>by
  rw[←I]at hq⊢;exact zO hq
 have hatl:∀ j,j<ids.length→ids[j]? = some ((a_ H ids).at j):=fun j A=>gk (e:=a_ H ids) A;have hobjs:∀ j,j<ids.length→∃ sh o g1 M,os[j]? = some sh∧H[(a_ H ids).at j]? = some o∧gV H (a_ H ids) (fS ids) sh o=some (true,g1) ∧
   (bZ (bB os (g++rest)) os (g++rest))[j]? = some (eX (bB os (g++rest)) sh (g1++M)) ∧
   (bB os (g++rest)).ae j=sh.up∧∀ ks v rows,o=.vec ks v rows→(bB os (g++rest)).len j=rows.length:=by
  intro j A;have hj':j<os.length:=by omega
  obtain⟨i,o,g1,M,q1,N,U,O,q5,q6⟩:=p3 j os[j] (bE hj');rw[hatl j A]at q1;cases q1;exact⟨os[j],o,g1,M,bE hj',N,U,O,q5,q6⟩
 have hK:gW H (a_ H ids) (fS ids) (bB os (g++rest)) E E0:=by
  refine⟨hH,HE,fun i hi b n R=>?_,⟨fun b R=>⟨⟨by rw[hw]; exact R.1,fun J=>R.2.1 (hown b J),by rw[hX]; exact R.2.2⟩,by rw[hw]⟩,hw,fun j A=>?_,fun j o l h1 B=>by rw[←I]at h1⊢; exact Wk h1 B⟩,fun j o J=>?_⟩
  ·refine ⟨by rw [hw]; exact (HE.lt _ _ _ R).1, ?_, by rw [hX]; exact (HE.lt _ _ _ R).2⟩
   rintro(⟨j,c,A⟩|⟨l,k,c,A⟩)
   case inr=>exact HE.dj _ _ _ _ _ _ R (W l k _ A).1
   obtain⟨_,i',h1,B⟩:=Y j _ A;have:=HE.inj _ _ _ _ _ R (getD_some B);subst this;exact Et hi (fK h1)
  ·rw [← I]
   simp only[fR,cq,hatl j A,iZ];have hlt:(a_ H ids).at j<E.loc.length:=by
    obtain⟨sh,o,g1,M,_,N,_⟩:=hobjs j A;rw[hElen];exact aJ N
   rw[cH,bE hlt];rfl
  ·have A:j<ids.length:=by
    rcases jZ j ids.length with hlt|hge
    ·exact hlt
    ·have h1 := aJ J
     have B:=qI (e:=a_ H ids) hge;have h3:(a_ H ids).base=H.length:=rfl;omega
   refine⟨A,?_⟩;obtain⟨sh,o',g1,M,q1,N,U,O,q5,q6⟩:=hobjs j A;rw[J]at N;cases N;obtain⟨r1,r2,r3⟩:=vX (lens:=bB os (g++rest)) (d:=g1++M) U;refine⟨r1,⟨_,?_,by rw[q5]; exact r2⟩,q6,fun hv=>by rw[q5]; exact r3 hv⟩;rw[←I];exact bl O
 have hlabs:∀(j:Nat) o,E0.H[j]? = some o→j<ids.length∧∃ o',E.H[(a_ H ids).at j]? = some o'∧o'.label=o.label:=fun j o J=>by
  rw[←I]at J;simp only[fR,aj,cq]at J;obtain⟨o',h1,rfl⟩:=ft.1 J;have A:j<ids.length:=by
   have:=aJ h1;omega
  obtain⟨sh,oo,g1,M,q1,N,U,O,_⟩:=hobjs j A;rw[h1]at O;cases O;exact⟨A,oo.den,by rw[hH]; exact bl N,by rw[En U,pd]⟩
 refine⟨hK,?_,?_,?_,fun b F=>?_,fun j o J=>?_,HE.fb.bG hK.dm.bG,fun l k l' k' b m n h1 B=>HE.fc l k l' k' b m n (W _ _ _ h1).1 (W _ _ _ B).1,fun i b m l k n hi B=>?_,fun l k b m h1=>by rw[hw,hX]; exact HE.cD l k b m (W _ _ _ h1).1,fun i j o o' l hi A h1 B=>?_,fun l hn k q hq=>?_⟩
 ·rw [← I]
  simp only[fR,bF,dU,p2,p1]
 ·intro i j b m n hi A
  obtain⟨i1,i2,i3,i4⟩:=Y i _ hi;obtain⟨j1,j2,j3,j4⟩:=Y j _ A;have:=HE.inj _ _ _ _ _ (getD_some i4) (getD_some j4);subst this;exact(I0 i1 hn).1 (by rw[i3,j3])
 ·intro i b m hi
  obtain⟨_,i2,_,i4⟩:=Y i _ hi;rw[hw,hX];exact HE.lt _ _ _ (getD_some i4)
 ·rw [hw]
  rw[hX]at F;exact HE.X b F
 ·rw [← I] at J
  simp only[fR,aj,cq]at J;obtain⟨o',h1,rfl⟩:=ft.1 J;have A:j<ids.length:=by
   have:=aJ h1;omega
  obtain⟨sh,oo,g1,M,q1,N,U,O,q5,q6⟩:=hobjs j A;rw[h1]at O;cases O;refine Ep hK U M (by exact A) (fun l hl=>?_) (HE.obj _ _ (by rw[hH]; exact bl N));refine hK.dm.jk j (eX (bB os (g++rest)) sh (g1++M)).den l ?_ (by rw[pd,hl]);rw[←I];exact bl h1
 ·obtain ⟨_, i', _, h3⟩ := Y i _ hi
  exact HE.dj _ _ _ _ _ _ (getD_some h3) (W _ _ _ B).1
 ·obtain ⟨i1, oi, a1, a2⟩ := hlabs i o hi
  obtain⟨j1,oj,b1,b2⟩:=hlabs j o' A;have:=HE.uniq _ _ _ _ l a1 b1 (by rw[a2,h1]) (by rw[b2,B]);exact(I0 i1 hn).1 (by rw[hatl i i1,hatl j j1,this])
 ·obtain ⟨_, j, o, h1, B⟩ := W l k q hq
  exact hn j o h1 B
def nodupB:List Nat→Bool
 | []=>true
 |i::is => !is.any (ab i)&&nodupB is
theorem pe:∀{l:List Nat},nodupB l=true→l.Nodup
 | [],_=>List.nodup_nil
 | i::is,h=>by
  simp only[nodupB,aw,jD]at h;refine jG.2 ⟨fun hm=>?_,pe h.2⟩;have:is.any (ab i)=true:=jE.2 ⟨i,hm,by simp⟩;rw[h.1]at this;cases this
def mv(H:List ak):Nat→Nat→List Nat→List cn→Bool
 |_,0,_,_=>true
 |i,m+1,id::ids,o::os=>ab id i&&((ab (qL H i) 0 || !ab o.up 0)&&mv H (i+1) m ids os)
 |_,_,_,_=>false
theorem v7{H:List ak}:∀{i m:Nat} {ids:List Nat} {os:List cn},mv H i m ids os=true→∀ j,j<m→ids[j]? = some (i+j)∧∃ o,os[j]? = some o∧(qL H (i+j)=0∨o.up≠0)
 |_,0,_,_,_,j,g=>by omega
 | i,m+1,id::ids,o::os,h,j,g=>by
  simp only[mv,aw,Bool.or_eq_true,jD]at h;obtain⟨h1,d,k⟩:=h;have h1:=bt h1;subst h1;cases j with
  | zero =>
   refine⟨rfl,o,rfl,?_⟩;rcases d with d|d
   ·exact .inl (bt d)
   ·right
    intro e;rw[e]at d;cases d
  | succ j =>
   have:=v7 k j (by omega);rw[show id+1+j=id+(j+1) from by omega]at this;simpa using this
 |_,_+1,[],_,h,_,_=>by simp[mv]at h
 |_,_+1,_::_,[],h,_,_=>by simp[mv]at h
theorem Ev{E:Env}{H:List ak}(hH:E.H=aj H){ids:List Nat}{os:List cn}{m:Nat}{lens:dc}{E0:Env}(B:gW H (a_ H ids) (fS ids) lens E E0)(M:E0.X.x=E.X.x∧E0.X.z=E.X.z)
  (hrl:∀ l h,h<(E.X.r l).length→h<(E0.X.r l).length∧∀ q,(E0.X.r l)[h]? = some (some q)→(E.X.r l)[h]? = some (some q))
  (aL:mv H 0 m ids os=true) (W:∀ j,j<m→∃ o sh,H[(a_ H ids).at j]? = some o∧os[j]? = some sh∧lens.ae j=sh.up) (Y:∀ b,E0.own b→E.own b):E.dx m E0:=by
 have key:∀ id,id<m→(a_ H ids).at id=id∧∃ o sh,H[id]? = some o∧os[id]? = some sh∧lens.ae id=sh.up∧(qK o=0∨sh.up≠0)∧zN E0 lens id o∧id<ids.length:=by
  intro id hid;obtain⟨h1,o',N,k⟩:=v7 aL id hid;rw[dO]at h1 k;have I:=aJ h1;have d:=gk (e:=a_ H ids) (j:=id) I;rw[show (a_ H ids).ids=ids from rfl,h1]at d;have d:=(ow d).symm;obtain⟨o,sh,g,A,F⟩:=W id hid;obtain⟨r1,r2⟩:=B.obj id o g;rw[d]at g;rw[N]at A;have A:=ow A;rw[←A]at F;refine⟨d,o,o',g,N,F,?_,r2,I⟩;rcases k with k|k
  ·left
   simpa[qL,g]using k
  ·exact .inr k
 refine⟨fun id hid hp=>?_,by rw[B.dm.w]; exact aI _,fun b _ _=>by rw[B.dm.w],fun b _ hb ho=>hb (Y b ho),fun id hid hp hl=>?_,fun b _=>by rw[M.1,M.2]; exact⟨Iff.rfl,Iff.rfl⟩,hrl,by rw[B.dm.w]; exact⟨rfl,rfl,rfl,by first|exact fun _=>aI _|exact fun _=>Nat.le_add_right _ _⟩⟩
 ·obtain ⟨_, o, sh, g, A, F, O, J, _⟩ := key id hid
  obtain⟨o0,r1,r2⟩:=J.obj;exact⟨o0,r1,fun v _=>j5 v⟩
 ·obtain ⟨d, o, sh, g, A, F, O, J, I⟩ := key id hid
  obtain⟨o0,r1,r2⟩:=J.obj;obtain⟨o1,r3,R⟩:=hl;rw[r1]at r3;cases r3;rw[r2]at R;have U:lens.ae id=0:=ow R;rw[F]at U;have hv:qK o=0:=O.resolve_right (fun h=>h U);refine⟨⟨o.den,by rw[hH]; exact bl g,by rw[J.ae,hv]⟩,?_⟩;have:=B.dm.loc id I;rw[d]at this;exact this
structure kD where
 n:Nat
 v8:List (Nat × Sh)
 aK:List cn
def te:Nat→List (Nat × Sh)→List AV→AV
 | i,(j,_)::ss,v::vs=>match ab i j with
  |true=>v
  |false=>te i ss vs
 |_,_,_=>.undef
def aM(S:kD)(d:List G):al :=
 ⟨(fp S.n).map fun i=>te i S.v8 (dL (bB S.aK d) (S.v8.map (·.2)) (dv (kA S.aK) d)),bZ (bB S.aK d) S.aK d⟩
def Ew(m:Nat)(S:kD)(ids:List Nat)(s:al):Option (Bool × List G) :=
 match ab s.fr.length S.n&&(nodupB ids&&mv s.H 0 m ids S.aK)with
 |false=>none
 | true=>match ir s.H (a_ s.H ids) (fS ids) S.aK ids,eg s.H (a_ s.H ids) (fS ids) (S.v8.map (·.2)) (S.v8.map fun p=>s.fr.getD p.1 .undef) with
  |some (b,g),some (d,k)=>some (b&&d,g++k)
  |_,_=>none
theorem Ls{E:Env}:∀{ss:List (Nat × Sh)} {vs:List AV} {cs:List Value} {i:Nat} {c:Value},(∀(k:Nat) (p:Nat × Sh) (v:AV),ss[k]? = some p→vs[k]? = some v→∀ c,cs[p.1]? = some c→rel E v c)→cs[i]? = some c →
  rel E (te i ss vs) c
 | [],_,_,_,_,_,_=>by simp[te,rel]
 |_::_,[],_,_,_,_,_=>by simp[te,rel]
 | (j,sh)::ss,v::vs,cs,i,c,h,hc=>by
  simp only[te];split
  ·rename_i e
   have e:=bt e;subst e;exact h 0 (i,sh) v rfl rfl c hc
  ·exact Ls (fun k p v hk d=>h (k+1) p v (by simpa using hk) (by simpa using d)) hc
theorem Wm{m:Nat}{S:kD}{ids:List Nat}{s:al}{d:List G}(h:Ew m S ids s=some (true,d)):bL m s.den (aM S d).den:=fun E a A=>by
 unfold Ew at h;split at h
 ·cases h
 rename_i hc;simp only[aw]at hc;obtain⟨hlen,B,aL⟩:=hc;have hlen:=bt hlen;have B:=pe B;split at h
 case h_2=>cases h
 rename_i b g b' q h1 N;simp only[aT,aZ,aw]at h;obtain⟨⟨rfl,rfl⟩,rfl⟩:=h;have hH:E.H=aj s.H:=A.H;obtain⟨I,R⟩:=Eu hH A.heap B h1 q;obtain⟨p0,p1,p2,p3⟩:=qN h1 q (bB S.aK (g++q));have hd:dv (kA S.aK) (g++q)=q:=by rw[←p0]; exact mr g q
 have O:=qM I N [];rw[gS]at O;obtain⟨q1,q2,q3,q4⟩:=O;refine⟨ids.map fun i=>E.loc.getD i none,E.X.re (mu E (aM S (g++q)).den.H),⟨rfl,?_,A.defers,R⟩,?_⟩
 ·have U : ad E s.fr a.tmps.toList := A.fr
  obtain⟨f1,f2⟩:=ng.1 U;refine ng.2 ⟨?_,fun i x c hi hc=>?_⟩
  ·simp only [al.den, aM, bF, List.length_range]
   omega
  ·simp only [al.den, aM, hd, cq] at hi
   obtain⟨i',F,rfl⟩:=ft.1 hi;have W:i<S.n:=by
    have:=aJ F;simpa using this
   rw[List.getElem?_range W]at F;cases F;refine Ls (cs:=a.tmps.toList) (fun k p v hk hv c hc=>?_) hc;have Y:(S.v8.map fun p=>s.fr.getD p.1 .undef)[k]? = some (s.fr.getD p.1 .undef):=by simp[hk]
   have hx:rel E (s.fr.getD p.1 .undef) c:=by
    have J:=aJ hc;rw[←f1]at J;have e1:s.fr[p.1]? = some (s.fr.getD p.1 .undef):=by
     rw[cH,bE J];rfl
    exact f2 p.1 _ c e1 hc
   exact Lq I N Y (by rw[gS]; exact hv) hx
 ·exact Ev hH I ⟨rfl,rfl⟩ (Er E _ ids) aL (fun j hj=>by
   obtain⟨r1,o',r2,_⟩:=v7 aL j hj;obtain⟨i,o,g1,rest1,t1,t2,t3,t4,t5,t6⟩:=p3 j o' r2;have M:=gk (e:=a_ s.H ids) (j:=j) (aJ t1);rw[show (a_ s.H ids).ids=ids from rfl,t1]at M;cases M;exact⟨o,o',t2,r2,t5⟩) (fun b=>Es)
def Ex(slot:Nat)(s:al):al :=
 match s.fr.getD slot .undef with
 | .vec w id ae off n=>match s.H[id]? with
  |some (.vec ks v rows)=>if ae=v∧off=0∧w=ks.length then ⟨s.fr.set slot (.vec w id (v+1) 0 n),s.H.set id (.vec ks (v+1) (rows.take n))⟩ else s
  |_=>s
 |_=>s
theorem zP{E:Env}{a:AV}:∀{fr:List AV} {cs:List Value} {i:Nat},ad E fr cs→(∀ c,cs[i]? = some c→rel E a c)→ad E (fr.set i a) cs
 | [],cs,i,h,_=>by simpa using h
 |x::fr,[],i,h,_=>by simp[ad]at h
 | x::fr,c::cs,0,h,d=>by
  simp only[ad]at h;simp only[List.set_cons_zero,ad];exact⟨d c rfl,h.2⟩
 | x::fr,c::cs,i+1,h,d=>by
  simp only[ad]at h;simp only[List.set_cons_succ,ad];exact⟨h.1,zP h.2 fun y g=>d y (by simpa using g)⟩
theorem Ey{E:Env}{fr:List AV}{cs:List Value}{i:Nat}{c:Value}(h:ad E fr cs)(hc:cs[i]? = some c):rel E (fr.getD i .undef) c:=by
 obtain⟨h1,g⟩:=ng.1 h;have d:=aJ hc;rw[←h1]at d;have k:fr[i]? = some (fr.getD i .undef):=by
  rw[cH,bE d];rfl
 exact g i _ c k hc
theorem Wn{m:Nat}{slot:Nat}{s:al}:bL m s.den (Ex slot s).den:=by
 unfold Ex;split
 case h_2=>exact bL.refl _
 rename_i w id ae off n W;split
 case h_2=>exact bL.refl _
 rename_i ks v rows hid;split
 case isFalse=>exact bL.refl _
 rename_i hc;obtain⟨rfl,rfl,rfl⟩:=hc;intro E a d;have hH:E.H=aj s.H:=d.H;have q:E.H[id]? = some (.vec ks.length ae (rows.map (aD ks))):=by rw[hH]; exact bl hid
 have R:=d.heap.obj id _ q;obtain⟨l,A⟩:∃ l,E.loc[id]? = some l:=by
  have:id<E.loc.length:=by rw[d.heap.len]; exact aJ q
  exact⟨_,bE this⟩
 have J:E.loc.set id l=E.loc:=mf A;have I:aj (s.H.set id (.vec ks (ae+1) (rows.take n)))=E.H.set id (.vec ks.length (ae+1) ((rows.take n).map (aD ks))):=by rw[eu,hH]; rfl
 have Y:∀ b n,l=some (b,n)→E.w.heap.size≤b∨∃ m,E.loc[id]? = some (some (b,m)):=fun b n B=>.inr ⟨n,by rw[A,B]⟩;have M:∀ v u,(af.vec ks.length (ae+1) ((rows.take n).map (aD ks))).aH = some v→(af.vec ks.length ae (rows.map (aD ks))).aH = some u→u≤v:=by
  intro v u h1 k;simp[af.aH]at h1 k;omega
 have N:∀ v,(af.vec ks.length (ae+1) ((rows.take n).map (aD ks))).aH = some v→∀ u,(af.vec ks.length ae (rows.map (aD ks))).aH = some u→u<v:=by
  intro v h1 u k;simp[af.aH]at h1 k;omega
 have hle:=Env.la (o':=.vec ks.length (ae+1) ((rows.take n).map (aD ks))) (l:=l) (w':=E.w) q d.heap.len (aI _) (fun _ _ _=>rfl) Y (.inr N) M (fun h=>by simp[af.aH]at h);have O:=ar.ni (o':=.vec ks.length (ae+1) ((rows.take n).map (aD ks))) (l:=l) (w':=E.w) d.heap q (aI _) (fun _ _ _=>rfl) (fun b n B=>.inr ⟨n,by rw[A,B]⟩) (.inr N) M (fun h=>by simp[af.aH]at h) (by
  rw[J]at hle⊢;simp only[aO]at R⊢;rcases R with⟨h1,k⟩|⟨b,mm,h1,k,F,h4,U⟩
  ·left
   refine⟨h1,?_⟩;have:rows=[]:=by simpa using k
   rw[this];simp
  ·right
   refine⟨b,mm,h1,k,by simp at F⊢; omega,?_,?_⟩
   ·intro r hr
    obtain⟨g,_,rfl⟩:=bR.1 hr;exact fL ks g
   ·rw [l6] at U ⊢
    intro i r hi;simp only[cq,mT]at hi;split at hi
    ·obtain ⟨g1, g2⟩ := U i r (by simpa using hi)
     exact⟨g1,uV (fun a c hr=>cC hle a hr) rfl g2⟩
    ·simp at hi)
 rw[J]at hle O;refine⟨E.loc,E.X,?_,?_⟩
 ·simp only [al.den]
  rw[I];refine⟨rfl,?_,d.defers,O⟩;refine zP (eM hle _ d.fr) fun c hc=>?_;have hr:=Ey d.fr hc;rw[show s.den.fr=s.fr from rfl,W]at hr;simp only[rel]at hr⊢;obtain⟨h1,k,F⟩:=hr;exact⟨h1,⟨.vec ks.length (ae+1) ((rows.take n).map (aD ks)),cr (aJ q),fun v hv=>by simp[af.aH]at hv; omega⟩,fun _=>F ⟨_,q,rfl⟩⟩
 ·simp only [al.den]
  rw[I];exact hle.toM
end Go.AL

namespace Go.AL
open Go
variable [Dr]
def Tree.leaf{β:Type}(f:bk→al→Option (Bool × β)):Tree→Option β
 |.fail=>none
 | .done x s=>match f x s with
  |some (b,r)=>bif b then some r else none
  |none=>none
 |.ask b t e=>bif b then t.leaf f else e.leaf f
 |.side b t=>bif b then t.leaf f else none
theorem iu{β:Type}{f:bk→al→Option (Bool × β)}:∀{t:Tree} {r:β},t.leaf f=some r→t.holds fun x s=>f x s=some (true,r)
 |.fail,_,h=>by cases h
 | .done x s,r,h=>by
  simp only[Tree.leaf]at h;split at h
  ·rename_i b r' d
   cases b with
   |true=>cases h; exact d
   |false=>cases h
  ·cases h
 | .ask b t e,r,h=>by
  cases b with
  |true=>exact⟨fun _=>iu (t:=t) h,fun h=>by cases h⟩
  |false=>exact⟨fun h=>(nomatch h),fun _=>iu (t:=e) h⟩
 | .side b t,r,h=>by
  cases b with
  |true=>exact And.intro rfl (iu (t:=t) h)
  |false=>cases h
inductive gX where
 |fix (i:Nat)
 |slot (i:Nat)
 |cap (i c:Nat)
 |cell (j c:Nat)
 |Ez (j c k:Nat)
def zQ:AV→Option Nat
 |.ptr id _ _ _ _=>some id
 |.vec _ id _ _ _=>some id
 |.map id=>some id
 |_=>none
def zR(H:List ak)(vals:Nat→AV)(acc:List Nat):gX→Option Nat
 |.fix i=>some i
 |.slot i=>zQ (vals i)
 | .cap i c=>match vals i with
  |.clo _ cs=>zQ (cs.getD c .undef)
  |_=>none
 | .cell j c=>match H[acc.getD j 0]? with
  |some (.raw (.box cells))=>zQ (cells.getD c .undef)
  |_=>none
 | .Ez j c k=>match H[acc.getD j 0]? with
  | some (.raw (.box cells))=>match cells.getD c .undef with
   |.clo _ cs=>zQ (cs.getD k .undef)
   |_=>none
  |_=>none
def iw(H:List ak)(vals:Nat→AV):List gX→List Nat→Option (List Nat)
 | [],acc=>some acc
 | p::ps,acc=>match zR H vals acc p with
  |some i=>iw H vals ps (acc++[i])
  |none=>none
structure tf where
 x:bk
 S:kD
 ps:List gX
structure bx where
 key:Nat
 opens:List (Nat × List Kd)
 inv:kD
 ps:List gX
 outs:List tf
 st:List G→Option (Option Nat × List G)
def qO(st:List G→Option (Option Nat × List G)):Nat→List G→Option (Nat × List G)
 |0,_=>none
 | n+1,d=>match st d with
  |some (none,d')=>qO st n d'
  |some (some x,d')=>some (x,d')
  |none=>none
def cG(st:List G→Option (Option Nat × List G))(d:List G):Option (Nat × List G):=qO st 1000000 d
def EA(r:Option (Nat × List G)):Nat:=match r with
 |some (x,_)=>x
 |none=>0
def EB(r:Option (Nat × List G)):List G:=match r with
 |some (_,d)=>d
 |none=>[]
def gY(m:Nat)(S:kD)(ps:List gX)(s:al):Option (Bool × List G) :=
 match iw s.H (fun i=>s.fr.getD i .undef) ps []with
 |some ids=>Ew m S ids s
 |none=>none
theorem jm{m:Nat}{S:kD}{ps:List gX}{s:al}{d:List G}(h:gY m S ps s=some (true,d)):bL m s.den (aM S d).den:=by
 unfold gY at h;split at h
 ·exact Wm h
 ·cases h
def gH:List (Nat × List Kd)→al→al
 | [],s=>s
 | (i,ks)::r,s=>match cR 1000000 i with
  |true=>gH r (Ex (i-1000000) s)
  | false=>match isNil (s.fr.getD i .undef) with
   |true=>gH r (vW i ks s)
   |false=>gH r s
theorem lA{m:Nat}:∀(l:List (Nat × List Kd)) (s:al),bL m s.den (gH l s).den
 | [],s=>bL.refl _
 | (i,ks)::r,s=>by
  simp only[gH];split
  ·exact Wn.trans (lA r _)
  ·split
   ·rename_i h
    exact(K9 h).trans (lA r _)
   ·exact lA r s
def qP(m:Nat):List tf→Nat→bk→al→Option (Bool × (Option Nat × List G))
 | [],_,_,_=>none
 | o::os,i,x,s=>match decide (x=o.x) with
  | true=>match gY m o.S o.ps s with
   |some (b,d)=>some (b,(some i,d))
   |none=>none
  |false=>qP m os (i+1) x s
def zS(m:Nat)(sp:bx)(x:bk)(s:al):Option (Bool × (Option Nat × List G)) :=
 match x with
 | .normal=>match gY m sp.inv sp.ps s with
  |some (b,d)=>some (b,(none,d))
  |none=>none
 |x=>qP m sp.outs 0 x (gH sp.opens s)
theorem zT{m:Nat}:∀{os:List tf} {i:Nat} {x:bk} {s:al} {b:Bool} {k:Option Nat} {d:List G},qP m os i x s=some (b,(k,d)) →
  ∃ j o,os[j]? = some o∧k=some (i+j)∧x=o.x∧gY m o.S o.ps s=some (b,d)
 | [],_,_,_,_,_,_,h=>by cases h
 | o::os,i,x,s,b,k,d,h=>by
  simp only[qP]at h;split at h
  ·rename_i g
   split at h
   ·rename_i F d' hr
    cases h;exact⟨0,o,rfl,rfl,of_decide_eq_true g,hr⟩
   ·cases h
  ·obtain ⟨j, o', h1, q, A, B⟩ := zT h
   exact⟨j+1,o',by simpa using h1,by rw[q]; congr 1; omega,A,B⟩
section loops
variable {P:Program} {τ:ah} {L:LT} {m:Nat} {c:Code} {sp:bx}
def cX(P:Program)(τ:ah)(L:LT)(m:Nat)(c:Code)(sp:bx):Prop:=∀ d,(bQ P τ L c (aM sp.inv d) .done).leaf (zS m sp)=sp.st d
theorem Lt(hm:P.follows .mixedOrders=true)(q:ai P τ)(A:ay P m L c)(hr:cX P τ L m c sp){d d':List G}{k:Option Nat}(h:sp.st d=some (k,d')) :
  (k = none ∧ bU P m c (aM sp.inv d).den .normal (aM sp.inv d').den) ∨
   ∃ j o,k=some j∧sp.outs[j]? = some o∧o.x≠.normal∧bU P m c (aM sp.inv d).den o.x (aM o.S d').den:=by
 rw[←hr d]at h;obtain⟨x,s1,h1,g⟩:=dK hm q c (aM sp.inv d) .done A (Q:=fun x s=>zS m sp x s=some (true,(k,d'))) (iu h);have g:zS m sp x s1=some (true,(k,d')):=g;unfold zS at g;split at g
 ·split at g
  ·rename_i b d2 B
   cases g;exact .inl ⟨rfl,qs h1 (jm B)⟩
  ·cases g
 ·rename_i F
  obtain⟨j,o,g1,g2,rfl,g4⟩:=zT g;exact .inr ⟨j,o,by simpa using g2,g1,fun e=>F e,qs h1 ((lA sp.opens s1).trans (jm g4))⟩
theorem Lu(hm:P.follows .mixedOrders=true)(g:ai P τ)(k:ay P m L c)(hr:cX P τ L m c sp):∀(n:Nat) {d d':List G} {x:Nat},qO sp.st n d=some (x,d') →
  ∃ o,sp.outs[x]? = some o∧kn P m c (aM sp.inv d).den o.x (aM o.S d').den
 |0,_,_,_,h=>by cases h
 | n+1,d,d',x,h=>by
  simp only[qO]at h;split at h
  ·rename_i d1 h1
   rcases Lt hm g k hr h1 with⟨_,q⟩|⟨_,_,hk,_⟩
   ·obtain ⟨o, g1, g2⟩ := Lu hm g k hr n h
    exact⟨o,g1,.next q g2⟩
   ·cases hk
  ·rename_i A d1 h1
   cases h;rcases Lt hm g k hr h1 with⟨hk,_⟩|⟨j,o,hk,g1,g2,g3⟩
   ·cases hk
   ·cases hk
    exact⟨o,g1,.stop g3 g2⟩
  ·cases h
def v_(r:Option (Nat × List G)):List tf→Nat→Tree
 | [],_=>.fail
 | [o],_=>.done o.x (aM o.S (EB r))
 |o::os,i=>.ask (ab (EA r) i) (.done o.x (aM o.S (EB r))) (v_ r os (i+1))
theorem zU{x:Nat}{d:List G}{Q:bk→al→Prop}:∀{os:List tf} {i j:Nat} {o:tf},os[j]? = some o→x=i+j→(v_ (some (x,d)) os i).holds Q→Q o.x (aM o.S d)
 | [],_,_,_,h,_,_=>by simp at h
 | [o],i,j,o',h,k,g=>by
  cases j with
  | zero =>
   simp at h;subst h;exact g
  |succ j=>simp at h
 | o::o2::os,i,j,o',h,k,g=>by
  simp only[v_,Tree.holds]at g;cases j with
  | zero =>
   simp at h;subst h;exact g.1 (by simp only[EA]; rw[k]; simp)
  | succ j =>
   refine zU (os:=o2::os) (i:=i+1) (j:=j) (by simpa using h) (by omega) (g.2 ?_);have:x≠i:=by omega
   exact Tm.2 fun e=>this (bt e)
def EC(m:Nat)(sp:bx)(s:al):Option Tree :=
 match gY m sp.inv sp.ps (gH sp.opens s)with
 |some (b,d)=>some (.side (vY b (cG sp.st d).isSome) (v_ (cG sp.st d) sp.outs 0))
 |none=>none
theorem Wo(hm:P.follows .mixedOrders=true)(A:ai P τ)(B:ay P m L c)(hr:cX P τ L m c sp){s:al}{t:Tree}(h:EC m sp s=some t):KN P m c s t:=by
 unfold EC at h;split at h
 case h_2=>cases h
 rename_i b d F;cases h;intro Q k;simp only[Tree.holds,vZ,aw]at k;obtain⟨⟨rfl,h1⟩,q⟩:=k;cases g:cG sp.st d with
 |none=>rw[g]at h1; cases h1
 | some r =>
  obtain⟨x,d'⟩:=r;obtain⟨o,g1,g2⟩:=Lu hm A B hr 1000000 g;exact⟨o.x,_,g2.pre ((lA sp.opens s).trans (jm F)),zU g1 (dO x).symm (by rw[g]at q; exact q)⟩
def LT.add(L:LT)(m:Nat)(sp:bx):LT:=⟨fun k s=>match ab k sp.key with
 |true=>EC m sp s
 |false=>L.loops k s,L.pre,L.vT⟩
theorem pg:∀{c:Code} {k:Nat} {g:Code},(k,g)∈bC c→∀ p,p∈bC g→p∈bC c
 | .seq a b,k,g,h,p,d=>by
  simp only[bC,bV]at h⊢;rcases h with h|h
  ·exact .inl (pg h p d)
  ·exact .inr (pg h p d)
 | .cond _ a b,k,g,h,p,d=>by
  simp only[bC,bV]at h⊢;rcases h with h|h
  ·exact .inl (pg h p d)
  ·exact .inr (pg h p d)
 | .block _ c,k,g,h,p,d=>by
  simp only[bC]at h⊢;exact pg h p d
 | .loop c,k,g,h,p,d=>by
  simp only[bC]at h⊢;split at h
  ·rename_i i hi
   rcases bI.1 h with e|h
   ·cases e
    exact cU _ d
   ·exact cU _ (pg h p d)
  ·exact pg h p d
 |.skip,_,_,h,_,_=>by simp[bC]at h
 |.region ..,_,_,h,_,_=>by simp[bC]at h
 |.exit _,_,_,h,_,_=>by simp[bC]at h
 |.ret,_,_,h,_,_=>by simp[bC]at h
 |.rangeFunc ..,_,_,h,_,_=>by simp[bC]at h
 |.scope _,_,_,h,_,_=>by simp[bC]at h
 |.label _,_,_,h,_,_=>by simp[bC]at h
 |.goto _,_,_,h,_,_=>by simp[bC]at h
 |.refuse _,_,_,h,_,_=>by simp[bC]at h
theorem ph:∀{c:Code} {k:Nat} {g:Code},(k,g)∈bC c→∀ p,p∈bA g→p∈bA c
 | .seq a b,k,g,h,p,d=>by
  simp only[bC,bA,bV]at h⊢;rcases h with h|h
  ·exact .inl (ph h p d)
  ·exact .inr (.inr (ph h p d))
 | .cond _ a b,k,g,h,p,d=>by
  simp only[bC,bA,bV]at h⊢;rcases h with h|h
  ·exact .inl (ph h p d)
  ·exact .inr (ph h p d)
 | .block _ c,k,g,h,p,d=>by
  simp only[bC,bA]at h⊢;exact ph h p d
 | .loop c,k,g,h,p,d=>by
  simp only[bC,bA]at h⊢;split at h
  ·rename_i i hi
   rcases bI.1 h with e|h
   ·cases e
    exact d
   ·exact ph h p d
  ·exact ph h p d
 |.skip,_,_,h,_,_=>by simp[bC]at h
 |.region ..,_,_,h,_,_=>by simp[bC]at h
 |.exit _,_,_,h,_,_=>by simp[bC]at h
 |.ret,_,_,h,_,_=>by simp[bC]at h
 |.rangeFunc ..,_,_,h,_,_=>by simp[bC]at h
 |.scope _,_,_,h,_,_=>by simp[bC]at h
 |.label _,_,_,h,_,_=>by simp[bC]at h
 |.goto _,_,_,h,_,_=>by simp[bC]at h
 |.refuse _,_,_,h,_,_=>by simp[bC]at h
theorem pj:∀{c:Code} {k:Nat} {g:Code},(k,g)∈bA c→∀ p,p∈bC g→p∈bC c
 | .seq a b,k,g,h,p,d=>by
  simp only[bC,bA,bV]at h⊢;rcases h with h|h|h
  ·exact .inl (pj h p d)
  ·right
   split at h
   ·rcases bI.1 h with e | h
    ·cases e
     exact d
    ·cases h
   ·cases h
  ·exact .inr (pj h p d)
 | .cond _ a b,k,g,h,p,d=>by
  simp only[bC,bA,bV]at h⊢;rcases h with h|h
  ·exact .inl (pj h p d)
  ·exact .inr (pj h p d)
 | .block _ c,k,g,h,p,d=>by
  simp only[bC,bA]at h⊢;exact pj h p d
 | .loop c,k,g,h,p,d=>by
  simp only[bA]at h;have:=pj h p d;simp only[bC];split
  ·exact cU _ this
  ·exact this
 |.skip,_,_,h,_,_=>by simp[bA]at h
 |.region ..,_,_,h,_,_=>by simp[bA]at h
 |.exit _,_,_,h,_,_=>by simp[bA]at h
 |.ret,_,_,h,_,_=>by simp[bA]at h
 |.rangeFunc ..,_,_,h,_,_=>by simp[bA]at h
 |.scope _,_,_,h,_,_=>by simp[bA]at h
 |.label _,_,_,h,_,_=>by simp[bA]at h
 |.goto _,_,_,h,_,_=>by simp[bA]at h
 |.refuse _,_,_,h,_,_=>by simp[bA]at h
theorem pk:∀{c:Code} {k:Nat} {g:Code},(k,g)∈bA c→∀ p,p∈bA g→p∈bA c
 | .seq a b,k,g,h,p,d=>by
  simp only[bA,bV]at h⊢;rcases h with h|h|h
  ·exact .inl (pk h p d)
  ·right
   right;split at h
   ·rcases bI.1 h with e | h
    ·cases e
     exact d
    ·cases h
   ·cases h
  ·exact .inr (.inr (pk h p d))
 | .cond _ a b,k,g,h,p,d=>by
  simp only[bA,bV]at h⊢;rcases h with h|h
  ·exact .inl (pk h p d)
  ·exact .inr (pk h p d)
 | .block _ c,k,g,h,p,d=>by
  simp only[bA]at h⊢;exact pk h p d
 | .loop c,k,g,h,p,d=>by
  simp only[bA]at h⊢;exact pk h p d
 |.skip,_,_,h,_,_=>by simp[bA]at h
 |.region ..,_,_,h,_,_=>by simp[bA]at h
 |.exit _,_,_,h,_,_=>by simp[bA]at h
 |.ret,_,_,h,_,_=>by simp[bA]at h
 |.rangeFunc ..,_,_,h,_,_=>by simp[bA]at h
 |.scope _,_,_,h,_,_=>by simp[bA]at h
 |.label _,_,_,h,_,_=>by simp[bA]at h
 |.goto _,_,_,h,_,_=>by simp[bA]at h
 |.refuse _,_,_,h,_,_=>by simp[bA]at h
def aN(fn:Func):Code:=match fn.body with
 |some c=>c
 |none=>.skip
theorem Wp{fn:Func} (hn:nodupB ((bC (aN fn)).map (·.1))=true) {k:Nat} {d:Code} (h:(k,d)∈bC (aN fn)):d=c9 fn k:=by
 have key:∀(l:List (Nat × Code)),(l.map (·.1)).Nodup→(k,d)∈l→l.find? (fun p=>ab p.1 k)=some (k,d):=by
  intro l
  induction l with
  |nil=>intro _ h; cases h
  | cons p l B =>
   intro g hm;simp only[dA,jG]at g;rcases bI.1 hm with rfl|hm
   ·simp
   ·have A:p.1≠k:=by
     intro e;exact g.1 (bR.2 ⟨(k,d),hm,e.symm⟩)
    have:ab p.1 k=false:=Tm.2 fun e=>A (bt e);rw[aiA (by simp[this])];exact B g.2 hm
 unfold c9;unfold aN at hn h;split
 ·rename_i c q
  rw[q]at hn h;simp only[]at hn h;rw[key _ (pe hn) h]
 ·rename_i q
  rw[q]at h;simp[bC]at h
theorem ay.add(hm:P.follows .mixedOrders=true)(q:ai P τ){fn:Func} (hn:nodupB ((bC (aN fn)).map (·.1))=true) (g:ay P m L (aN fn)) (hr:cX P τ L m (c9 fn sp.key) sp) :
  ay P m (L.add m sp) (aN fn):=by
 refine⟨fun k A hk s t d=>?_,g.2⟩;simp only[LT.add]at d;split at d
 ·rename_i e
  have e:=bt e;subst e;have B:=Wp hn hk;rw[←B]at hr;exact Wo hm q (g.sub (pg hk) (ph hk)) hr d
 ·exact g.1 k A hk s t d
def cutAt(fn:Func)(k:Nat):Code:=match fn.body with
 | some c=>match (bA c).find? fun p=>ab p.1 k with
  |some (_,b)=>b
  |none=>.skip
 |none=>.skip
def lB(k:Nat):List (Nat × Code)→Bool
 | []=>true
 | p::l=>match ab p.1 k with
  |true => !l.any (fun q=>ab q.1 k)
  |false=>lB k l
theorem Lv{k:Nat}{A:Code}:∀{l:List (Nat × Code)},lB k l=true→(k,A)∈l→l.find? (fun p=>ab p.1 k)=some (k,A)
 | [],_,h=>by cases h
 | p::l,d,hm=>by
  simp only[lB]at d;cases g:ab p.1 k with
  | true =>
   rw[g]at d;simp only[jD]at d;rcases bI.1 hm with rfl|hm
   ·rw[List.find?_cons_of_pos (by simp)]
   ·have : l.any (fun q => ab q.1 k) = true := jE.2 ⟨(k, A), hm, by simp⟩
    rw[this]at d;cases d
  | false =>
   rw[g]at d;rcases bI.1 hm with rfl|hm
   ·simp at g
   ·rw [aiA (by simp [g])]
    exact Lv d hm
theorem ED{fn:Func}{k:Nat}{g:Code} (hn:lB k (bA (aN fn))=true) (h:(k,g)∈bA (aN fn)):g=cutAt fn k:=by
 unfold cutAt;unfold aN at hn h;split
 ·rename_i c d
  rw[d]at hn h;simp only[]at hn h;rw[Lv hn h]
 ·rename_i d
  rw[d]at h;simp[bA]at h
def cY(r:Option (Option Nat × List G)):Option (Nat × List G):=match r with
 |some (some x,d)=>some (x,d)
 |_=>none
def wa(m:Nat)(sp:bx)(s:al):Option Tree :=
 match gY m sp.inv sp.ps (gH sp.opens s)with
 |some (b,d)=>some (.side (vY b (cY (sp.st d)).isSome) (v_ (cY (sp.st d)) sp.outs 0))
 |none=>none
def gl(P:Program)(τ:ah)(L:LT)(m:Nat)(c:Code)(sp:bx):Prop:=∀ d,(bQ P τ L c (aM sp.inv d) .done).leaf (qP m sp.outs 0)=sp.st d
theorem Wq(hm:P.follows .mixedOrders=true)(F:ai P τ)(I:ay P m L c)(hr:gl P τ L m c sp){s:al}{t:Tree}(h:wa m sp s=some t):zw P m c s t:=by
 unfold wa at h;split at h
 case h_2=>cases h
 rename_i b d J;cases h;intro Q q;simp only[Tree.holds,vZ,aw]at q;obtain⟨⟨rfl,h1⟩,A⟩:=q;cases g:sp.st d with
 |none=>rw[g]at h1; cases h1
 | some r =>
  obtain⟨k,d'⟩:=r;cases k with
  |none=>rw[g]at h1; cases h1
  | some i =>
   rw[←hr d]at g;obtain⟨x,s1,g1,g2⟩:=dK hm F c (aM sp.inv d) .done I (Q:=fun x s=>qP m sp.outs 0 x s=some (true,(some i,d'))) (iu g);obtain⟨j,o,M,B,N,O⟩:=zT g2;simp only[aT,dO]at B;subst B;rw[hr d]at g;rw[g]at A;refine⟨o.x,(aM o.S d'),?_,zU M (dO i).symm A⟩;rw[←N];exact sR ((lA sp.opens s).trans (jm J)) (qs g1 (jm O))
def LT.fI(L:LT)(m:Nat)(sp:bx):LT:=⟨L.loops,L.pre,fun k s=>match ab k sp.key with
 |true=>wa m sp s
 |false=>L.vT k s⟩
theorem ay.fI(hm:P.follows .mixedOrders=true)(q:ai P τ){fn:Func} (hn:lB sp.key (bA (aN fn))=true) (g:ay P m L (aN fn)) (hr:gl P τ L m (cutAt fn sp.key) sp) :
  ay P m (L.fI m sp) (aN fn):=by
 refine⟨g.1,g.2.1,fun k A hk s t d=>?_⟩;simp only[LT.fI]at d;split at d
 ·rename_i e
  have e:=bt e;subst e;have B:=ED hn hk;rw[←B]at hr;exact Wq hm q (g.sub (pj hk) (pk hk)) hr d
 ·exact g.2.2 k A hk s t d
end loops
structure ax where
 f:FuncId
 args:List Sh
 aK:List cn
 ps:List gX
 res:List Sh
 dQ:List cn
 Wr:List gX
 opens:List (Nat × List Kd)
 F:List G→Option (List G)
def ax.args0(sp:ax)(d:List G):List AV:=dL (bB sp.aK d) sp.args (dv (kA sp.aK) d)
def ax.H0(sp:ax)(d:List G):List ak:=bZ (bB sp.aK d) sp.aK d
def ax.out(sp:ax)(r:List G):AV:=ct (dL (bB sp.dQ r) sp.res (dv (kA sp.dQ) r))
def ax.H1(sp:ax)(r:List G):List ak:=bZ (bB sp.dQ r) sp.dQ r
def eY(P:Program)(rs:List ResultVar)(sp:ax)(x:bk)(s:al):Option (Bool × List G) :=
 match x with
 |.exit _=>none
 | _=>(fun s=>match fP P s.den rs with
  |none=>none
  | some vs=>match iw s.H (fun i=>vs.getD i .undef) sp.Wr [] with
   |none=>none
   | some ids=>match nodupB ids&&mv s.H 0 sp.aK.length ids sp.dQ with
    |false=>none
    | true=>match ir s.H (a_ s.H ids) (fS ids) sp.dQ ids,eg s.H (a_ s.H ids) (fS ids) sp.res vs with
     |some (b,g),some (d,k)=>some (b&&d,g++k)
     |_,_=>none) (gH sp.opens s)
def aX(P:Program)(τ:ah)(L:LT)(fn:Func)(sp:ax):Prop :=
 ∀ d,(bQ P τ L (aN fn) ⟨dY (sp.args0 d) fn.ntmps,sp.H0 d⟩ .done).leaf (eY P fn.results.toList sp)=sp.F d
def iP(os:List cn):Bool:=os.all fun o=>ab o.up 0
theorem EE:∀{os:List cn} (lens:dc) (d:List G),iP os=true→y5 (aj (bZ lens os d))
 | [],_,_,_=>by intro o k; simp[bZ,aj]at k
 | o::os,lens,d,h=>by
  simp only[iP,m_,aw]at h;intro x g;simp only[bZ,aj,dA,bI]at g;rcases g with rfl|g
  ·cases o with
   | vec ks u =>
    have:u=0:=bt h.1;subst this;rfl
   |box _=>rfl
   |map _ _=>rfl
   |eQ _ _ _=>rfl
   |a7 _ _ _=>rfl
  ·exact EE lens _ h.2 x g
theorem wb(lens:dc):∀(os:List cn) (d:List G),(bZ lens os d).length=os.length
 | [],_=>rfl
 |_::os,d=>by simp[bZ,wb lens os]
theorem Ws{P:Program}{sp:ax}{fn:Func}(hf:P.funcs[sp.f]? = some fn)(hb:fn.body.isSome=true)
  (hfr:iP sp.aK=true) {d r:List G} {x:bk} {s0:al} (h1:bU P sp.aK.length (aN fn) (al.den ⟨dY (sp.args0 d) fn.ntmps,sp.H0 d⟩) x s0.den) (k:eY P fn.results.toList sp x s0=some (true,r)) :
  cg P sp.f (sp.args0 d) (aj (sp.H0 d)) (sp.out r) (aj (sp.H1 r)):=by
 have hbody:fn.body=some (aN fn):=by
  unfold aN;cases I:fn.body with
  |none=>rw[I]at hb; cases hb
  |some c=>rfl
 have h1:=qs h1 (lA sp.opens s0);generalize hs':gH sp.opens s0=s' at h1;have hxx:(x=.normal∨x=.ret)∧∃ vs ids g q,fP P s'.den fn.results.toList=some vs∧(nodupB ids&&mv s'.H 0 sp.aK.length ids sp.dQ)=true ∧
   ir s'.H (a_ s'.H ids) (fS ids) sp.dQ ids=some (true,g)∧eg s'.H (a_ s'.H ids) (fS ids) sp.res vs=some (true,q)∧g++q=r:=by
  have k:eY P fn.results.toList sp x s0=some (true,r):=k;unfold eY at k;split at k
  ·cases k
  ·rename_i I
   simp only[hs']at k;refine⟨by cases x with|normal=>exact .inl rfl|ret=>exact .inr rfl|exit i=>exact(I i rfl).elim,?_⟩;split at k
   ·cases k
   ·rename_i vs R
    split at k
    ·cases k
    ·rename_i ids hids
     split at k
     ·cases k
     ·rename_i B
      split at k
      ·rename_i b g b' q M Y
       simp only[aT,aZ,aw]at k;obtain⟨⟨rfl,rfl⟩,rfl⟩:=k;exact⟨vs,ids,g,q,R,B,M,Y,rfl⟩
      ·cases k
 obtain⟨I,vs,ids,g,q,R,B,M,Y,rfl⟩:=hxx;simp only[aw]at B;intro E cargs hH HE hargs;refine y9 hf hbody ?_;have hfe:=mn HE;have hargs0:=ml hfe _ hargs;have hrel:bj ⟨dY (sp.args0 d) fn.ntmps,aj (sp.H0 d)⟩ { E with X:=⟨E.X.x,fun _=>False,E.X.r⟩ } { tmps:=cargs++Array.replicate (fn.ntmps-cargs.size) undef,defers:=[] }:=by
  refine⟨hH,?_,lb _ _,HE.cP hfe⟩;simp only[dY,Array.toList_append,Array.toList_replicate];refine jd hargs0 ?_;have:=fv hargs;have e:(sp.args0 d).length=cargs.size:=by simpa using this
  rw[e];have:=qt (E:={ E with X:=⟨E.X.x,fun _=>False,E.X.r⟩ }) (List.replicate (fn.ntmps-cargs.size) undef);simpa using this
 refine wpIn_mono (h1 none (y7 _) { E with X:=⟨E.X.x,fun _=>False,E.X.r⟩ } _ hrel) fun e a1 w0 ⟨h3,loc',X',F,N⟩=>?_;refine⟨by subst h3; rcases I with rfl|rfl; exact .inl rfl; exact .inr rfl,X',F.defers,fun O k1 k2 k3=>?_⟩;obtain⟨F,N⟩:=y_ HE F N k1 k2 k3;obtain⟨us,g1,g2⟩:=vq F fn.results.toList vs R;have hres:(results fn a1.tmps).run P O=.ok (if h:us.toArray.size=1 then us.toArray[0] else .tuple us.toArray) O:=by
  rw[sU];simp only[Sem.run_bind];rw[Array.mapM_eq_mapM_toList,Sem.run_map,g1];rfl
 generalize J:({ w:=O,H:=s'.den.H,loc:=loc',X:=E.X.re X'.r }:Env)=A at F N g1 g2;have hH1:A.H=aj s'.H:=by rw[←J]; rfl
 obtain⟨hK,hHR⟩:=Eu hH1 F.heap (pe B.1) M q;obtain⟨p0,p1,p2,p3⟩:=qN M q (bB sp.dQ (g++q));have hd:dv (kA sp.dQ) (g++q)=q:=by rw[←p0]; exact mr g q
 have hS:=qM hK Y [];rw[gS]at hS;have hrl:=hS.2.2.2 us g2;have hleM:=Ev (m:=sp.aK.length) hH1 hK ⟨rfl,rfl⟩ (Er A _ ids) B.2 (fun j hj=>by
  obtain⟨r1,o',r2,_⟩:=v7 B.2 j hj;obtain⟨i,o,g1,rest1,t1,t2,t3,t4,t5,t6⟩:=p3 j o' r2;have hat:=gk (e:=a_ s'.H ids) (j:=j) (aJ t1);rw[show (a_ s'.H ids).ids=ids from rfl,t1]at hat;cases hat;exact⟨o,o',t2,r2,t5⟩) (fun b=>Es)
 have hle:E.le (fR A (aj (bZ (bB sp.dQ (g++q)) sp.dQ (g++q))) ids) :=
  (N.trans hleM).full (by rw[←J]; exact⟨rfl,rfl⟩) (by rw[hH,dU]; simp only[ax.H0,wb]; exact aI _) (by rw[hH]; exact EE _ _ hfr)
 have U:A.w=O:=by rw[←J]
 have W:∀ r,A.X.re r=E.X.re r:=fun r=>by rw[←J]; rfl
 refine⟨_,hres,_,_,_,rfl,⟨rfl,rfl⟩,ids.map (fun i=>A.loc.getD i none),mu A (aj (bZ (bB sp.dQ (g++q)) sp.dQ (g++q))),?_,?_,?_⟩
 ·have := Ee hrl
  simp only[ax.out,ax.H1,hd];simpa only[fR,U,W]using this
 ·simpa only[fR,U,W,ax.H1]using hHR
 ·simpa only[fR,U,W,ax.H1]using hle
theorem EF{P:Program}{τ:ah}{L:LT}(hm:P.follows .mixedOrders=true)(k:ai P τ){sp:ax}{fn:Func}(q:P.funcs[sp.f]? = some fn)(A:fn.body.isSome=true)
  (B:ay P sp.aK.length L (aN fn)) (I:aX P τ L fn sp) (g:iP sp.aK=true) {d r:List G} (h:sp.F d=some r) :
  cg P sp.f (sp.args0 d) (aj (sp.H0 d)) (sp.out r) (aj (sp.H1 r)):=by
 rw[←I d]at h;obtain⟨x,s0,h1,J⟩:=dK hm k (aN fn) _ .done B (Q:=fun x s=>eY P fn.results.toList sp x s=some (true,r)) (iu h);exact Ws q A g h1 J
abbrev aU(P:Program)(sp:ax):Prop:=∀ d r,sp.F d=some r→cg P sp.f (sp.args0 d) (aj (sp.H0 d)) (sp.out r) (aj (sp.H1 r))
theorem EG{P:Program}{τ:ah}{L:LT}(hm:P.follows .mixedOrders=true)(g:ai P τ){sp:ax}{fn:Func}(k:P.funcs[sp.f]? = some fn)(q:fn.body.isSome=true)
  (A:ay P sp.aK.length L (aN fn)) (B:aX P τ L fn sp) (d:iP sp.aK=true):aU P sp:=fun _ _ h=>EF hm g k q A B d h
def we:ew→Bool
 |.int _ | .str | .bool | .list _ | .td _ | .row _ | .cptr _ | .nil | .any | .zM _ | .fn _ | .addr | .El=>true
 |_=>false
def zV:Sh→Bool
 |.s a=>we a
 |.clo _ caps=>caps.all we
theorem Lw{lens:dc}{a:ew}{d:List G}(h:we a=true):(eA lens a d).closed=true:=by
 cases a<;>simp only[we]at h<;>first
  |(cases h; done)
  |rfl
  |(simp only[eA,AV.closed,fL]; done)
theorem Lx{lens:dc}:∀{as:List ew} {d:List G},(as.all we)=true→AV.bf (iq lens as d)=true
 | [],_,_=>rfl
 | a::as,d,h=>by
  simp only[m_,aw]at h;simp only[iq,AV.bf,Lw h.1,Lx h.2,lY]
theorem zW{lens:dc}:∀{as:List Sh} {d:List G},(as.all zV)=true→AV.bf (dL lens as d)=true
 | [],_,_=>rfl
 | a::as,d,h=>by
  simp only[m_,aw]at h;simp only[dL,AV.bf,zW h.2,dZ];cases a with
  |s a=>exact Lw h.1
  |clo f caps=>simp only[lz,AV.closed]; exact Lx h.1
theorem Wt{vs:List AV}(h:AV.bf vs=true):(ct vs).closed=true:=by
 cases vs with
 |nil=>rfl
 | cons v vs =>
  cases vs with
  |nil=>simpa[ct,AV.bf]using h
  |cons v2 vs=>simpa only[ct,AV.closed]using h
def gn(E:Env):Env:={ w:=E.w,H:=[],loc:=[],X:=(E.X.or E.own).re dP }
theorem Wu{E:Env}(x:Nat):¬ (gn E).own x:=by rintro(⟨id,c,hid⟩|⟨l,k,c,hk⟩); simp[gn]at hid; simp[gn,dP]at hk
theorem Ly{E:Env}:E.bG (gn E):=⟨fun b d=>⟨⟨d.1,Wu b,fun g=>g.elim d.2.2 d.2.1⟩,rfl⟩⟩
theorem Wv{E:Env}:(gn E).bG E:=⟨fun b d=>⟨⟨d.1,fun g=>d.2.2 (Or.inr g),fun k=>d.2.2 (Or.inl k)⟩,rfl⟩⟩
theorem EH{E:Env}(HE:ar E):ar (gn E):=by
 refine⟨rfl,?_,?_,?_,?_,HE.fb.bG Ly,fun l k l' k' b m n hk=>by simp[gn,dP]at hk,fun i b m l k n hi=>by simp[gn]at hi,fun l k b m hk=>by simp[gn,dP]at hk,fun i j o o' l hi=>by simp[gn]at hi,fun l _ k q hk=>by simp[gn,dP]at hk⟩
 ·intro i j b m n hi; simp[gn]at hi
 ·intro i b m hi; simp[gn]at hi
 ·rintro b (d | g)
  ·exact HE.X b d
  ·exact(HE.uU g).1
 ·intro i o hi; simp[gn]at hi
theorem Ww{E:Env}(HE:ar E):gW [] (a_ [] []) (fun _=>false) [] (gn E) (gn E):=by
 exact { hH:=rfl,HE:=EH HE,free:=fun _ h=>(nomatch h),dm:=⟨fun b d=>⟨d,rfl⟩,rfl,fun j g=>absurd g (Nat.not_lt_zero _),fun _ _ _ _ _=>rfl⟩,obj:=fun j o k=>by simp at k }
theorem Wx{E:Env}(HE:ar E):∀{d:List Sh} {as:List AV} {g:List G},(d.all zV)=true→eg [] (a_ [] []) (fun _=>false) d as=some (true,g)→∀(rest:List G) (cs:List Value),ad E as cs →
  ad E (dL [] d (g++rest)) cs:=by
 have M:∀{sh:ew} {a:AV} {b:Bool} {g:List G},fH [] (a_ [] []) (fun _=>false) sh a=some (b,g)→a.closed=true∨sh=.any:=by
  intro sh a b g h;unfold fH at h;split at h
  ·exact .inl rfl
  ·exact .inl rfl
  ·exact .inl rfl
  ·split at h
   ·rename_i q
    left;unfold nz at q;split at q<;>first|rfl|cases q
   ·split at h
    ·simp at h
    ·cases h
  ·split at h
   ·rename_i q
    left;rw[La q];simp only[AV.closed,fL]
   ·cases h
  ·exact .inl rfl
  ·simp at h
  ·exact .inl rfl
  ·exact .inr rfl
  ·exact .inl rfl
  ·simp at h
  ·simp at h
  ·simp at h
  ·simp at h
  ·split at h
   ·rename_i q
    left;unfold nz at q;split at q<;>first|rfl|cases q
   ·split at h
    ·simp at h
    ·cases h
  ·simp at h
  ·exact .inl rfl
  ·rename_i f js Y vs
   split at h
   ·rename_i hc
    left;cases js with
    | nil=>cases vs with
     |nil=>rfl
     |cons _ _=>simp[kB]at hc
    | cons j js=>cases vs with
     |nil=>simp[kB]at hc
     |cons v vs=>cases v<;>simp[kB]at hc
   ·cases h
  ·exact .inl rfl
  ·cases h
 have O:∀{d:List ew} {as:List AV} {b:Bool} {g:List G},fw [] (a_ [] []) (fun _=>false) d as=some (b,g)→∀(cs:List Value),ad E as cs →
   ∃ k,fw [] (a_ [] []) (fun _=>false) d k=some (b,g)∧AV.bf k=true∧ad E k cs:=by
  intro d
  induction d with
  | nil =>
   intro as b g h cs hr;cases as with
   |nil=>exact⟨[],h,rfl,hr⟩
   |cons _ _=>simp[fw]at h
  | cons sh d J =>
   intro as b g h cs hr;cases as with
   |nil=>simp[fw]at h
   | cons a as =>
    cases cs with
    |nil=>simp[ad]at hr
    | cons c cs =>
     simp only[ad]at hr;simp only[fw]at h;split at h
     ·rename_i b1 g1 b2 g2 h1 I
      cases h;obtain⟨k,A,B,F⟩:=J I cs hr.2;rcases M h1 with hc|rfl
      ·exact⟨a::k,by simp only[fw,h1,A],by simp only[AV.bf,hc,B,lY],by simp only[ad]; exact⟨hr.1,F⟩⟩
      ·have e:fH [] (a_ [] []) (fun _=>false) .any .undef=some (b1,g1):=by
        have:fH [] (a_ [] []) (fun _=>false) .any a=some (true,[]):=by cases a<;>rfl
        rw[this]at h1;exact h1
       exact⟨.undef::k,by simp only[fw,e,A],by simp only[AV.bf,B]; rfl,by simp only[ad,rel]; exact⟨trivial,F⟩⟩
     ·cases h
 have R:∀{d:List Sh} {as:List AV} {b:Bool} {g:List G},eg [] (a_ [] []) (fun _=>false) d as=some (b,g)→∀(cs:List Value),ad E as cs →
   ∃ k,eg [] (a_ [] []) (fun _=>false) d k=some (b,g)∧AV.bf k=true∧ad E k cs:=by
  intro d
  induction d with
  | nil =>
   intro as b g h cs hr;cases as with
   |nil=>exact⟨[],h,rfl,hr⟩
   |cons _ _=>simp[eg]at h
  | cons sh d J =>
   intro as b g h cs hr;cases as with
   |nil=>simp[eg]at h
   | cons a as =>
    cases cs with
    |nil=>simp[ad]at hr
    | cons c cs =>
     simp only[ad]at hr;simp only[eg]at h;split at h
     ·rename_i b1 g1 b2 g2 h1 I
      cases h;obtain⟨k,A,B,F⟩:=J I cs hr.2;cases sh with
      | s sh0 =>
       simp only[kC]at h1;rcases M h1 with hc|rfl
       ·exact⟨a::k,by simp only[eg,kC,h1,A],by simp only[AV.bf,hc,B,lY],by simp only[ad]; exact⟨hr.1,F⟩⟩
       ·have e:fH [] (a_ [] []) (fun _=>false) .any .undef=some (b1,g1):=by
         have:fH [] (a_ [] []) (fun _=>false) .any a=some (true,[]):=by cases a<;>rfl
         rw[this]at h1;exact h1
        exact⟨.undef::k,by simp only[eg,kC,e,A],by simp only[AV.bf,B]; rfl,by simp only[ad,rel]; exact⟨trivial,F⟩⟩
      | clo f caps =>
       cases a<;>simp only[kC]at h1<;>try cases h1
       rename_i Y vs;split at h1
       ·rename_i hf
        subst hf;have N:=hr.1;simp only[rel]at N;obtain⟨us,e1,e2⟩:=N;obtain⟨U,l1,l2,l3⟩:=O h1 _ e2;exact⟨.clo f U::k,by simp only[eg,kC,if_true,l1,A],by simp only[AV.bf,AV.closed,l2,B,lY],
         by simp only[ad,rel]; exact⟨⟨us,e1,l3⟩,F⟩⟩
       ·cases h1
     ·cases h
 intro d as g W h rest cs hr;obtain⟨k,h1,I,h3⟩:=R h cs hr;have h4:=oB Ly k I h3;have h5:=(qM (Ww HE) h1 rest).2.2.2 cs h4;exact oB Wv _ (zW W) h5
def ah.bp(τ:ah)(sp:ax):ah where
 pf g:=match ab g sp.f with
  |true=>true
  |false=>τ.pf g
 T g as:=match ab g sp.f with
  | true=>match eg [] (a_ [] []) (fun _=>false) sp.args as with
   |some (b,d)=>some (vY b (sp.F d).isSome,ct (dL [] sp.res ((sp.F d).getD [])))
   |none=>τ.T g as
  |false=>τ.T g as
 W:=τ.W
 C:=τ.C
 I:=τ.I
 N:=τ.N
 U:=τ.U
def EI(sp:ax):Bool:=(sp.args.all zV)&&((sp.res.all zV)&&(sp.aK.isEmpty&&sp.dQ.isEmpty))
theorem ai.bp{P:Program}{τ:ah}(h:ai P τ){sp:ax}(hb:dE P sp.f=true)(B:EI sp=true)
  (hc:∀ d r,sp.F d=some r→cg P sp.f (sp.args0 d) (aj (sp.H0 d)) (sp.out r) (aj (sp.H1 r))):ai P (τ.bp sp):=by
 simp only[EI,aw,List.isEmpty_iff]at B;obtain⟨A,R,U,Y⟩:=B;refine⟨fun g as b v k q=>?_,h.W,h.C,h.I,h.F⟩;simp only[ah.bp]at k;split at k
 ·rename_i e
  have e:=bt e;subst e;split at k
  ·rename_i b' d hr
   simp only[aT,aZ]at k;obtain⟨h1,rfl⟩:=k;subst h1;simp only[vZ]at q;obtain⟨rfl,J⟩:=q;refine⟨hb,?_⟩;cases M:sp.F d with
   |none=>rw[M]at J; cases J
   | some r =>
    have N:=hc d r M;simp only[ax.args0,ax.H0,ax.out,ax.H1,U,Y,bZ,bB,kA,dv]at N;have:=Va N (zW A) (Wt (zW R));intro H E cargs hH HE O;exact this H E cargs hH HE (by
     have:=Wx HE A hr [] _ O
     rwa [gS]at this)
  ·exact h.T _ as b v k q
 ·exact h.T g as b v k q
end Go.AL

namespace Go.AL
open Go
variable [Dr]
def Kd.cw:List Kd→Bool
 | []=>true
 |.list _::_=>false
 |_::ks=>Kd.cw ks
def Ct.bW:Ct→Bool
 |.one k=>Kd.cw [k]
 |.agg ks=>Kd.cw ks
def tg:ew→Bool
 |.row ks=>Kd.cw ks
 |.list _ | .td _ | .cptr _=>false
 |_=>true
def Lz:Sh→Bool
 |.s a=>tg a
 |.clo _ caps=>caps.all tg
def LA:cn→Bool
 |.vec ks _=>Kd.cw ks
 |.box cells=>cells.all tg
 |.map K V=>K.bW&&V.bW
 |.eQ _ _ _=>true
 |.a7 _ K ks=>K.bW&&Kd.cw ks
def fj(sp:ax):Bool:=(sp.res.all Lz)&&(sp.dQ.all LA)
theorem wg:∀{ks:List Kd} (r:List G),Kd.cw ks=true→AV.cw (aD ks r)=true
 | [],_,_=>rfl
 |.list _::_,_,h=>by simp[Kd.cw]at h
 | .int _::ks,r,h | .str::ks,r,h | .bool::ks,r,h=>by
  simp only[Kd.cw]at h;simp only[aD,AV.cw,wg r.tail h,dZ];rfl
theorem Ct.EJ{K:Ct}(r:List G)(h:K.bW=true):(K.av r).bW=true:=by
 cases K with
 | one k =>
  simp only[Ct.bW]at h;cases k<;>first
   |rfl
   |(simp[Kd.cw]at h; done)
 |agg ks=>simp only[Ct.av,AV.bW]; exact wg r h
theorem LB:∀ js:List Nat,AV.cw (qJ js)=true
 | []=>rfl
 |j::js=>by simp only[qJ,AV.cw,LB js,dZ]; rfl
theorem LC{lens:dc}{a:ew}{d:List G}(h:tg a=true):(eA lens a d).bW=true:=by
 cases a<;>simp only[tg]at h<;>first
  |(cases h; done)
  |(simp only[eA,AV.bW]; exact wg _ h)
  |rfl
  |(simp only[eA,AV.bW]; exact LB _)
theorem EK{lens:dc}:∀{as:List ew} {d:List G},(as.all tg)=true→AV.cw (iq lens as d)=true
 | [],_,_=>rfl
 | a::as,d,h=>by
  simp only[m_,aw]at h;simp only[iq,AV.cw,LC h.1,EK h.2,lY]
theorem EL{lens:dc}:∀{as:List Sh} {d:List G},(as.all Lz)=true→AV.cw (dL lens as d)=true
 | [],_,_=>rfl
 | a::as,d,h=>by
  simp only[m_,aw]at h;simp only[dL,AV.cw,EL h.2,dZ];cases a with
  |s a=>exact LC h.1
  |clo f caps=>simp only[lz,AV.bW]; exact EK h.1
theorem LD{vs:List AV}(h:AV.cw vs=true):(ct vs).bW=true:=by
 cases vs with
 |nil=>rfl
 | cons v vs =>
  cases vs with
  |nil=>simpa[ct,AV.cw]using h
  |cons v2 vs=>simpa only[ct,AV.bW]using h
theorem EM{lens:dc}:∀{os:List cn} {d:List G},(os.all LA)=true→((aj (bZ lens os d)).all af.bW)=true
 | [],_,_=>rfl
 | o::os,d,h=>by
  simp only[m_,aw]at h;have k:=EM (lens:=lens) (d:=dv o.sz d) h.2;simp only[bZ,aj,dA,m_,aw];refine⟨?_,by simpa only[aj]using k⟩;cases o with
  | vec ks u =>
   simp only[eX,ak.den,af.bW,dX,bR];rintro r ⟨g,_,rfl⟩;exact wg g h.1
  |box cells=>simp only[eX,ak.den,af.bW]; exact EK h.1
  | map K V =>
   have h1:(K.bW&&V.bW)=true:=h.1;simp only[aw]at h1;simp only[eX,ak.den,af.bW,cN,dX,bR];rintro x ⟨g,_,rfl⟩;simp only[Ct.EJ _ h1.1,Ct.EJ _ h1.2,lY]
  |eQ l T B=>rfl
  | a7 l K ks =>
   have h1:(K.bW&&Kd.cw ks)=true:=h.1;simp only[aw]at h1;simp only[eX,ak.den,af.bW,gj,dX,bR];rintro x ⟨g,_,rfl⟩;simp only[jL,Ct.EJ _ h1.1,Bool.true_and];cases (gi g 3).bool with
   |false=>rfl
   | true =>
    simp only[cond_true,dX,bR];rintro r ⟨g2,_,rfl⟩;exact wg g2 h1.2
def ak.cF(e:bJ)(j:Nat):ak→ak
 |.vec ks v rows=>.vec ks (v+e.up j) rows
 |.raw o=>.raw (o.cF e j)
 |.map K V rows c=>.map K V rows c
 |.a7 l K ks rows c=>.a7 l K ks rows c
def wh(e:bJ):Nat→List ak→List ak
 |_,[]=>[]
 |j,o::os=>o.cF e j::wh e (j+1) os
def ix(e:bJ)(H H1:List ak):List ak:=ev H e.ids (wh e 0 H1)++(wh e 0 H1).drop e.ids.length
theorem Wy(e:bJ)(j:Nat)(o:ak):(o.cF e j).den=o.den.cF e j:=by
 cases o<;>rfl
theorem LF(e:bJ):∀(j:Nat) (os:List ak),aj (wh e j os)=kz e j (aj os)
 |_,[]=>rfl
 | j,o::os=>by
  simp only[wh,aj,dA,kz,Wy];have:=LF e (j+1) os;simp only[aj]at this;rw[this]
theorem LG{α β:Type}(f:α→β):∀(is:List Nat) (l xs:List α),(ev l is xs).map f=ev (l.map f) is (xs.map f)
 | [],_,_=>by simp[ev]
 |_::_,_,[]=>by simp[ev]
 |i::is,l,x::xs=>by simp[ev,LG f is,List.map_set]
theorem LH(e:bJ)(H H1:List ak):aj (ix e H H1)=mo e (aj H) (aj H1):=by
 unfold ix mo;rw[←LF];simp only[aj,List.map_append,LG,List.map_drop]
def mw(e:bJ):Nat→List cn→Bool
 |_,[]=>true
 |j,.vec _ _::os=>mw e (j+1) os
 |j,_::os=>ab (e.up j) 0&&mw e (j+1) os
theorem qQ{e:bJ}{lens:dc}:∀{j:Nat} {os:List cn} {d:List G},mw e j os=true→jO e j (aj (bZ lens os d))=true
 |_,[],_,_=>rfl
 | j,.vec ks u::os,d,h=>by
  simp only[mw]at h;have:=qQ (lens:=lens) (d:=dv (cn.vec ks u).sz d) h;simp only[bZ,aj,dA,jO,aw];exact⟨rfl,by simpa only[aj]using this⟩
 | j,.box cells::os,d,h=>by
  simp only[mw,aw]at h;have:=qQ (lens:=lens) (d:=dv (cn.box cells).sz d) h.2;simp only[bZ,aj,dA,jO,aw];exact⟨h.1,by simpa only[aj]using this⟩
 | j,.map K V::os,d,h=>by
  simp only[mw,aw]at h;have:=qQ (lens:=lens) (d:=dv (cn.map K V).sz d) h.2;simp only[bZ,aj,dA,jO,aw];exact⟨h.1,by simpa only[aj]using this⟩
 | j,.eQ l T B::os,d,h=>by
  simp only[mw,aw]at h;have:=qQ (lens:=lens) (d:=dv (cn.eQ l T B).sz d) h.2;simp only[bZ,aj,dA,jO,aw];exact⟨h.1,by simpa only[aj]using this⟩
 | j,.a7 l K ks::os,d,h=>by
  simp only[mw,aw]at h;have:=qQ (lens:=lens) (d:=dv (cn.a7 l K ks).sz d) h.2;simp only[bZ,aj,dA,jO,aw];exact⟨h.1,by simpa only[aj]using this⟩
def lC(S:Bool)(ids:List Nat)(i:Nat):Bool:=match S with
 |true=>fS ids i
 |false=>false
def pn(sp:ax)(as:List AV)(H:List ak):Option (Bool × AV × List ak) :=
 match iw H (fun i=>as.getD i .undef) sp.ps []with
 |none=>none
 | some ids=>match nodupB ids&&mw (a_ H ids) 0 sp.dQ with
  |false=>none
  | true=>match ir H (a_ H ids) (lC (fj sp) ids) sp.aK ids,eg H (a_ H ids) (lC (fj sp) ids) sp.args as with
   |some (b,g),some (k,d)=>some (vY (b&&k) (sp.F (g++d)).isSome,(sp.out ((sp.F (g++d)).getD [])).cF (a_ H ids),ix (a_ H ids) H (sp.H1 ((sp.F (g++d)).getD [])))
   |_,_=>none
def nA:List gX→Nat→Bool
 | [],_=>true
 |.cell j _::ps,n=>eE j n&&nA ps (n+1)
 |.Ez j _ _::ps,n=>eE j n&&nA ps (n+1)
 |_::ps,n=>nA ps (n+1)
theorem LI{H:List ak}{vals:Nat→AV}:∀{ps:List gX} {acc ids:List Nat},iw H vals ps acc=some ids→∀ x∈acc,x∈ids
 | [],acc,ids,h,x,d=>by cases h; exact d
 | p::ps,acc,ids,h,x,d=>by
  unfold iw at h;split at h
  ·exact LI h x (uP _ d)
  ·cases h
theorem LJ{H:List ak}{vals:Nat→AV}{id:Nat}{o:ak}:∀{ps:List gX} {acc ids:List Nat},nA ps acc.length=true→iw H vals ps acc=some ids→id∉ids→iw (H.set id o) vals ps acc=some ids
 | [],acc,ids,_,h,_=>h
 | p::ps,acc,ids,hw,h,hid=>by
  unfold iw at h⊢;split at h
  ·rename_i i hi
   have g:=LI h;have get:∀ j,j<acc.length→(H.set id o)[acc.getD j 0]? = H[acc.getD j 0]? := fun j d=>by
    refine bH fun e=>hid ?_;rw[e,cH,bE d];exact g _ (uP _ (sb d))
   have e:zR (H.set id o) vals acc p=some i∧nA ps (acc++[i]).length=true:=by
    rw[fD];cases p with
    |fix _=>exact⟨hi,hw⟩
    |slot _=>exact⟨hi,hw⟩
    |cap _ _=>exact⟨hi,hw⟩
    | cell j c =>
     simp only[nA,aw,gB]at hw;refine⟨?_,hw.2⟩;simp only[zR]at hi⊢;rw[get j hw.1];exact hi
    | Ez j c k =>
     simp only[nA,aw,gB]at hw;refine⟨?_,hw.2⟩;simp only[zR]at hi⊢;rw[get j hw.1];exact hi
   rw[e.1];exact LJ e.2 h hid
  ·cases h
section Wz
variable {H:List ak} {e:bJ} {id:Nat} {o:ak} (he:∀ j,e.at j≠id)
include he
theorem LL:∀(js:List Nat) (vs:List AV),kB (H.set id o) e js vs=kB H e js vs
 | [],[]=>rfl
 | [],_::_=>rfl
 |_::_,[]=>rfl
 | j::js,v::vs=>by
  have g:=LL js vs;cases v<;>try rfl
  rename_i i ae k row c;simp only[kB,g];by_cases hi:i=id
  ·subst hi
   have d:ab i (e.at j)=false:=by
    cases q:ab i (e.at j)with
    |false=>rfl
    |true=>exact absurd (bt q).symm (he j)
   simp only[d,Bool.false_and];cases (H.set i o)[i]? <;> cases H[i]? <;> (repeat' split)<;>rfl
  ·rw[bH (Ne.symm hi)]
theorem LM:∀(sh:ew) (a:AV),fH (H.set id o) e (fun _=>false) sh a=fH H e (fun _=>false) sh a:=by
 have d:∀{i:Nat},i≠id→(H.set id o)[i]? = H[i]? := fun h=>bH (Ne.symm h);have g:∀ j,¬ (id=e.at j):=fun j h=>he j h.symm;intro sh a;cases a with
 | vec w i ae off n =>
  by_cases hi:i=id
  ·subst hi
   cases sh<;>(try rfl)<;>simp only[fH,nz,mU,and_false,if_false,g,false_and]<;>(repeat' split)<;>(first|rfl|simp_all)
  ·cases sh<;>(try rfl)<;>simp only[fH,d hi]
 | ptr i ae k row col =>
  by_cases hi:i=id
  ·subst hi
   cases sh<;>(try rfl)<;>simp only[fH,nz,mU,and_false,if_false,g,false_and]<;>(repeat' split)<;>(first|rfl|simp_all)
  ·cases sh<;>(try rfl)<;>simp only[fH,d hi]
 | map i =>
  by_cases hi:i=id
  ·subst hi
   cases sh<;>(try rfl)<;>simp only[fH,nz,mU,and_false,if_false,g,false_and]<;>(repeat' split)<;>(first|rfl|simp_all)
  ·cases sh<;>(try rfl)<;>simp only[fH,d hi]
 | clo f vs =>
  cases sh<;>(try rfl)
  ·cases vs<;>rfl
  ·simp only[fH,LL he]
 | lit v =>
  cases sh<;>(try rfl)<;>cases v<;>(try rfl)
  ·rename_i b n c
   cases b<;>cases n<;>cases c<;>rfl
  ·rename_i q
   cases q with
   |none=>rfl
   | some q =>
    obtain⟨b,o',w⟩:=q;cases o'<;>cases w<;>rfl
 |_=>cases sh<;>rfl
theorem EN:∀(d:List ew) (as:List AV),fw (H.set id o) e (fun _=>false) d as=fw H e (fun _=>false) d as
 | [],[]=>rfl
 | [],_::_=>rfl
 |_::_,[]=>rfl
 |sh::d,a::as=>by simp only[fw,LM he sh a,EN d as]
theorem WA(sh:Sh)(a:AV):kC (H.set id o) e (fun _=>false) sh a=kC H e (fun _=>false) sh a:=by
 cases sh with
 |s x=>simp only[kC,LM he]
 | clo f caps =>
  cases a with
  |clo g vs=>simp only[kC,EN he]
  |_=>rfl
theorem LN:∀(d:List Sh) (as:List AV),eg (H.set id o) e (fun _=>false) d as=eg H e (fun _=>false) d as
 | [],[]=>rfl
 | [],_::_=>rfl
 |_::_,[]=>rfl
 |sh::d,a::as=>by simp only[eg,WA he sh a,LN d as]
theorem WB(sh:cn)(t:ak):gV (H.set id o) e (fun _=>false) sh t=gV H e (fun _=>false) sh t:=by
 cases sh with
 | box d =>
  cases t with
  |raw x=>cases x<;>simp only[gV,EN he]
  |_=>rfl
 | eQ l T B =>
  cases t with
  |raw x=>cases x<;>rfl
  |_=>rfl
 |_=>cases t<;>rfl
theorem LO:∀(os:List cn) (is:List Nat),id∉is→ir (H.set id o) e (fun _=>false) os is=ir H e (fun _=>false) os is
 | [],[],_=>rfl
 | [],_::_,_=>rfl
 |_::_,[],_=>rfl
 | sh::os,i::is,h=>by
  have h1:id≠i:=fun e=>h (by rw[e]; exact cZ);simp only[ir,bH h1,WB he,LO os is fun hm=>h (cU _ hm)]
end Wz
theorem LP{α:Type}{i:Nat}{x:α}:∀(is:List Nat) (l xs:List α),i∉is→ev (l.set i x) is xs=(ev l is xs).set i x
 | [],_,_,_=>by simp[ev]
 |_::_,_,[],_=>by simp[ev]
 | j::is,l,y::xs,h=>by
  have h1:i≠j:=fun e=>h (by rw[e]; exact cZ);simp only[ev];rw[List.set_comm _ _ h1];exact LP is _ _ fun hm=>h (cU _ hm)
theorem WC{H:List ak}{ids:List Nat}{id:Nat}{o:ak}(h:id∉ids):a_ (H.set id o) ids=a_ H ids:=by
 unfold a_;rw[List.length_set];congr 1;refine List.map_congr_left fun i hi=>?_;unfold qL;rw[bH fun e=>h (by rw[e]; exact hi)]
theorem WD{sp:ax}(B:fj sp=false)(hw:nA sp.ps 0=true){as:List AV}{H H':List ak}{b:Bool}{v:AV}(h:pn sp as H=some (b,v,H')){id:Nat}{o:ak}(q:id<H.length)
  (hid:∀ ids,iw H (fun i=>as.getD i .undef) sp.ps []=some ids→id∉ids) :
  pn sp as (H.set id o)=some (b,v,H'.set id o)∧∃ ids,iw H (fun i=>as.getD i .undef) sp.ps []=some ids∧iw (H.set id o) (fun i=>as.getD i .undef) sp.ps []=some ids:=by
 unfold pn at h⊢;split at h
 ·cases h
 rename_i ids d;have hn:=hid ids d;have k:=LJ (o:=o) (acc:=[]) hw d hn;refine⟨?_,ids,d,k⟩;rw[k];simp only[WC hn];split at h
 ·cases h
 rename_i I;have A:lC (fj sp) ids=fun _=>false:=by
  rw[B];rfl
 rw[A]at h⊢;have he:∀ j,(a_ H ids).at j≠id:=by
  intro j e;rcases jZ j (a_ H ids).ids.length with g|g
  ·have := gk g
   rw[e]at this;exact hn (fK this)
  ·rw [qI g] at e
   have:(a_ H ids).base=H.length:=rfl;omega
 rw[LO he _ _ hn,LN he];split at h
 case h_2=>cases h
 rename_i h1 J;cases h;have F:∀ X,ix (a_ H ids) (H.set id o) X=(ix (a_ H ids) H X).set id o:=fun X=>by
  unfold ix;rw[show (a_ H ids).ids=ids from rfl,LP ids _ _ hn,aiB _ _ (by rw[o_]; exact q)]
 rw[F]
def ah.cJ(τ:ah)(sp:ax):ah where
 pf g:=match ab g sp.f with
  |true=>false
  |false=>τ.pf g
 T:=τ.T
 W g as H:=match ab g sp.f with
  | true=>match pn sp as H with
   |some r=>some r
   |none=>τ.W g as H
  |false=>τ.W g as H
 C g as H:=match ab g sp.f with
  | true=>(match iw H (fun i=>as.getD i .undef) sp.ps [] with
   |some ids=>ids
   |none=>[])++τ.C g as H
  |false=>τ.C g as H
 I:=τ.I
 N g:=match ab g sp.f with
  | true=>match τ.U g,fj sp with
   |false,false=>nA sp.ps 0
   |_,_=>false
  |false=>τ.N g
 U g:=match ab g sp.f with
  |true=>true
  |false=>τ.U g
def po:List cn→List cn→Bool
 |_,[]=>true
 | [],o'::d=>o'.jk.isNone&&po [] d
 | o::os,o'::d=>(match o'.jk with
  |none=>true
  | some l=>match o.jk with
   |some l'=>ab l l'
   |none=>false)&&po os d
theorem zX:∀{os k:List cn},po os k=true→∀(j:Nat) o' l,k[j]? = some o'→o'.jk=some l→∃ o,os[j]? = some o∧o.jk=some l
 |_,[],_,j,_,_,d,_=>by simp at d
 | [],x::k,h,0,o',l,d,g=>by
  simp only[po,aw]at h;simp at d;subst d;rw[g]at h;cases h.1
 | [],x::k,h,j+1,o',l,d,g=>by
  simp only[po,aw]at h;obtain⟨o,h1,_⟩:=zX h.2 j o' l (by simpa using d) g;simp at h1
 | o::os,x::k,h,0,o',l,d,g=>by
  simp only[po,aw]at h;simp at d;subst d;have h1:=h.1;rw[g]at h1;simp only[]at h1;split at h1
  ·rename_i l' q
   have:=bt h1;subst this;exact⟨o,rfl,q⟩
  ·cases h1
 | o::os,x::k,h,j+1,o',l,d,g=>by
  simp only[po,aw]at h;exact zX h.2 j o' l (by simpa using d) g
theorem LQ(lens:dc):∀(os:List cn) (d:List G) (j:Nat) (o:ak),(bZ lens os d)[j]? = some o→∃ sh d',os[j]? = some sh∧o=eX lens sh d'
 | [],d,j,o,h=>by simp[bZ]at h
 | s::os,d,0,o,h=>by
  simp[bZ]at h;exact⟨s,d,rfl,h.symm⟩
 | s::os,d,j+1,o,h=>by
  simp only[bZ,Tl]at h;obtain⟨sh,d',h1,g⟩:=LQ lens os _ j o h;exact⟨sh,d',by simpa using h1,g⟩
theorem LR{lens:dc}{os:List cn}{d:List G}{j:Nat}{o:af} (h:(aj (bZ lens os d))[j]? = some o):∃ sh,os[j]? = some sh∧o.label=sh.jk:=by
 simp only[aj,cq]at h;obtain⟨o',h1,rfl⟩:=ft.1 h;obtain⟨sh,d',g,rfl⟩:=LQ lens os d j o' h1;exact⟨sh,g,pd _ _ _⟩
theorem EO(lens:dc):∀(os:List cn) (d:List G) (j:Nat) (sh:cn),os[j]? = some sh→∃ o,(aj (bZ lens os d))[j]? = some o∧o.label=sh.jk
 | [],d,j,o,h=>by simp at h
 | s::os,d,0,sh,h=>by
  simp at h;subst h;exact⟨(eX lens s d).den,by simp[bZ,aj],pd _ _ _⟩
 | s::os,d,j+1,sh,h=>by
  obtain⟨o,h1,g⟩:=EO lens os (dv s.sz d) j sh (by simpa using h);exact⟨o,by simpa[bZ,aj]using h1,g⟩
def qR(sp:ax):Bool:=iP sp.aK&&(cR sp.aK.length sp.dQ.length&&po sp.aK sp.dQ)
theorem WE{P:Program}{sp:ax}(hp:qR sp=true) (hc:∀ d r,sp.F d=some r→cg P sp.f (sp.args0 d) (aj (sp.H0 d)) (sp.out r) (aj (sp.H1 r)))
  {as:List AV} {H H':List ak} {v:AV} (h:pn sp as H=some (true,v,H')):cg P sp.f as (aj H) v (aj H'):=by
 simp only[qR,aw]at hp;obtain⟨hfr,hle,hlab⟩:=hp;have hle:=j9 hle;unfold pn at h;split at h
 ·cases h
 rename_i ids hids;split at h
 ·cases h
 rename_i hck;simp only[aw]at hck;obtain⟨hnd,hup⟩:=hck;have hnd:=pe hnd;split at h
 case h_2=>cases h
 rename_i b g b' k h1 h2;simp only[aT,aZ,vZ,aw]at h;obtain⟨⟨⟨rfl,rfl⟩,h3⟩,rfl,rfl⟩:=h;cases hF:sp.F (g++k)with
 |none=>rw[hF]at h3; cases h3
 |some r =>
 simp only[kW];obtain⟨p0,p1,p2,p3⟩:=qN h1 k (bB sp.aK (g++k));have hd:dv (kA sp.aK) (g++k)=k:=by rw[←p0]; exact mr g k
 have hlen:ids.length=(aj (sp.H0 (g++k))).length:=by rw[dU]; simp only[ax.H0,p1,p2]
 have hat:∀ j,j<ids.length→ids[j]? = some ((a_ H ids).at j):=fun j A=>gk (e:=a_ H ids) A;have hobjs:∀ j,j<ids.length→∃ sh o g1 J,sp.aK[j]? = some sh∧H[(a_ H ids).at j]? = some o∧gV H (a_ H ids) (lC (fj sp) ids) sh o=some (true,g1) ∧
   (sp.H0 (g++k))[j]? = some (eX (bB sp.aK (g++k)) sh (g1++J)) ∧
   (bB sp.aK (g++k)).ae j=sh.up∧(∀ ks v rows,o=.vec ks v rows→(bB sp.aK (g++k)).len j=rows.length)∧sh.up=0∧(a_ H ids).up j=qK o:=by
  intro j A;have hj':j<sp.aK.length:=by omega
  obtain⟨i,o,g1,J,U,I,N,M,Y,q6⟩:=p3 j sp.aK[j] (bE hj');have q1':=U;rw[hat j A]at U;cases U;refine⟨sp.aK[j],o,g1,J,bE hj',I,N,M,Y,q6,?_,?_⟩
  ·have := dX.1 hfr sp.aK[j] (sb hj')
   exact bt this
  ·simp only [bJ.up, a_, cH, cq]
   rw[q1'];simp only[iZ,kW,qL];rw[I]
 have hK:∀ E E0,E.H=aj H→ar E→qH (a_ H ids) (bif fj sp then (fp H.length).filter (fS ids) else []) E E0→E0.H=aj (sp.H0 (g++k)) →
   gW H (a_ H ids) (lC (fj sp) ids) (bB sp.aK (g++k)) E E0:=by
  intro E E0 R HE O W;refine { hH:=R,HE:=HE,free:=fun i hi b n hb=>?_,dm:=O.toKeepIn,obj:=fun j o q=>?_ }
  ·refine O.Lc i ?_ b n hb
   have hlt:=aJ hb;rw[HE.len,R,dU]at hlt;unfold lC at hi;split at hi
   ·rename_i B
    rw[B];simp only[cond_true,ga,List.mem_range];exact⟨hlt,hi⟩
   ·cases hi
  ·have A:j<ids.length:=by
    rcases jZ j ids.length with hlt|hge
    ·exact hlt
    ·have h1 := aJ q
     have h2:=qI (e:=a_ H ids) hge;have h3:(a_ H ids).base=H.length:=rfl;omega
   refine⟨A,?_⟩;obtain⟨sh,o',g1,J,U,I,N,M,Y,q6,q7,q8⟩:=hobjs j A;rw[q]at I;cases I;obtain⟨r1,r2,r3⟩:=vX (lens:=bB sp.aK (g++k)) (d:=g1++J) N;exact⟨r1,⟨_,by rw[W]; exact bl M,by rw[Y]; exact r2⟩,q6,fun _=>by rw[Y]; exact q7⟩
 have:=frame (P:=P) (f:=sp.f) (fj sp) (bif fj sp then (fp H.length).filter (fS ids) else []) (e:=a_ H ids) (H:=aj H) (args:=sp.args0 (g++k)) (H0:=aj (sp.H0 (g++k)))
  (H1:=aj (sp.H1 r)) (v:=sp.out r) (args0:=as) (hc _ _ hF) hlen (by rw[dU]; rfl) hnd ?_ ?_ (qQ hup) ?_ (fun B=>by rw[B]; rfl) ?_ ?_ ?_ ?_ ?_ ?_
 ·rw [LH]
  exact this
 ·intro j o q
  have A:j<ids.length:=by rw[hlen]; exact aJ q
  obtain⟨sh,o',g1,J,U,I,N,M,Y,q6,q7,q8⟩:=hobjs j A;obtain⟨r1,r2,r3⟩:=vX (lens:=bB sp.aK (g++k)) (d:=g1++J) N;rw[bl M]at q;cases q;refine⟨o'.den,bl I,fun v=>?_⟩;rw[r1,r2,q7,q8];simp only[aT];constructor
  ·rintro rfl
   exact⟨0,rfl,by omega⟩
  ·rintro ⟨u, rfl, rfl⟩
   omega
 ·intro E E0 R HE O W j o q
  have A:j<ids.length:=by rw[hlen]; exact aJ q
  obtain⟨sh,o',g1,J,U,I,N,M,Y,q6,q7,q8⟩:=hobjs j A;rw[bl M]at q;cases q;exact Ep (hK E E0 R HE O W) N J A (fun l hl=>O.jk j _ l (by rw[W]; exact bl M) (by rw[pd,hl])) (HE.obj _ _ (by rw[R]; exact bl I))
 ·rw [dU, dU]
  simp only[ax.H0,ax.H1,wb];exact hle
 ·intro B
  simp only[fj,aw]at B;exact LD (EL B.1)
 ·intro B
  simp only[fj,aw]at B;exact EM B.2
 ·intro i hi
  cases B:fj sp with
  | true =>
   rw[B]at hi;simp only[cond_true,ga]at hi;exact Et hi.2
  | false =>
   rw[B]at hi;simp at hi
 ·intro j o o' q ho'
  have A:j<ids.length:=by rw[hlen]; exact aJ q
  obtain⟨sh,o2,g1,J,U,I,N,M,_⟩:=hobjs j A;rw[bl M]at q;rw[bl I]at ho';cases q;cases ho';rw[En N,pd]
 ·intro j o l q hl
  obtain⟨sh,h5,h6⟩:=LR (show (aj (bZ (bB sp.dQ r) sp.dQ r))[j]? = some o from q);obtain⟨sh0,h7,h8⟩:=zX hlab j sh l h5 (by rw[←h6,hl]);obtain⟨o0,h9,h10⟩:=EO (bB sp.aK (g++k)) sp.aK (g++k) j sh0 h7;exact⟨o0,h9,by rw[h10,h8]⟩
 ·intro E E0 cs R HE O W hr
  have hS:=(qM (hK E E0 R HE O W) h2 []).2.2.2 cs hr;rw[gS]at hS;simp only[ax.args0,hd];exact hS
theorem WG{sp:ax}{as:List AV}{H H':List ak}{v:AV}{b:Bool}{A:Nat}(h:pn sp as H=some (b,v,H'))(g:A<H.length)(k:∀ ids,iw H (fun i=>as.getD i .undef) sp.ps []=some ids→A∉ids):H'[A]? = H[A]? := by
 unfold pn at h;split at h
 ·cases h
 rename_i ids d;split at h
 ·cases h
 split at h
 case h_2=>cases h
 cases h;unfold ix;rw[dz (by rw[o_]; exact g)];exact zH _ _ _ _ (k ids d)
theorem ai.cJ{P:Program}{τ:ah}(h:ai P τ){sp:ax}(Y:dE P sp.f=true)(hp:qR sp=true)
  (hc:∀ d r,sp.F d=some r→cg P sp.f (sp.args0 d) (aj (sp.H0 d)) (sp.out r) (aj (sp.H1 r))):ai P (τ.cJ sp):=by
 refine⟨h.T,fun g as H b v H' k O=>?_,fun g as H b v H' k A q B=>?_,fun g as H t k Q hQ=>?_,fun g J as H=>?_,fun g M as H b v H' k id o B hid=>?_⟩
 rotate_left 2
 ·obtain ⟨g1, v, H', g2, g3, g4⟩ := h.I g as H t k Q hQ
  refine⟨g1,v,H',g2,fun A q B=>g3 A (fun hm=>q ?_) B,g4⟩;simp only[ah.cJ];split
  ·exact Tn _ hm
  ·exact hm
 ·simp only [ah.cJ] at J ⊢
  cases e:ab g sp.f with
  |true=>rw[e]at J; cases J
  | false =>
   rw[e]at J;exact h.F.1 g J as H
 ·simp only [ah.cJ] at M k hid ⊢
  cases e:ab g sp.f with
  | false =>
   rw[e]at M k hid;exact h.F.2 g M as H b v H' k id o B hid
  | true =>
   rw[e]at M k hid;simp only[]at M k hid⊢;split at M
   case h_2=>cases M
   rename_i J hs;have U:∀ H,τ.W g as H=none:=fun H=>(h.F.1 g J as H).1;have R:∀ H,τ.C g as H=[]:=fun H=>(h.F.1 g J as H).2;rw[U]at k;split at k
   case h_2=>cases k
   rename_i r hr;cases k;obtain⟨q1,ids,q2,q3⟩:=WD hs M hr (o:=o) B fun ids N hm=>hid (uP _ (by rw[N]; exact hm));rw[q1];refine⟨rfl,?_⟩;rw[q2,q3,R,R]
 simp only[ah.cJ]at k;split at k
 ·rename_i e
  have e:=bt e;subst e;split at k
  ·rename_i r hr
   cases k;subst O;exact⟨Y,WE hp hc hr⟩
  ·exact h.W _ as H b v H' k O
 ·exact h.W g as H b v H' k O
 simp only[ah.cJ]at k q;split at k
 ·rename_i e
  rw[e]at q;simp only[]at q;split at k
  ·rename_i r hr
   cases k;exact WG hr B fun ids N hm=>q (uP _ (by rw[N]; exact hm))
  ·exact h.C g as H b v H' k A (fun hm=>q (Tn _ hm)) B
 ·rename_i e
  rw[e]at q;exact h.C g as H b v H' k A q B
end Go.AL

namespace Go.AL
open Go
variable [Dr]
def ao{β:Type}(t:Option (List G))(k:List G→Option β):Option β:=bif t.isSome then k (t.getD []) else none
def gI{β:Type}(b:Bool)(t:Option (List G))(k:List G→Option β):Option β:=bif b then k (t.getD []) else none
def aY{β:Type}(b:Bool)(r:Option (Nat × List G))(k:Nat→List G→Option β):Option β:=bif (b&&r.isSome) then k (EA r) (EB r) else none
def LU:Kd→G→G
 |.int _,g=>.i g.int
 |.str,g=>.s g.str
 |.bool,g=>.t g.bool
 |.list _,g=>.l g.rows
def bh:List Kd→List G→List G
 | [],_=>[]
 |k::ks,r=>LU k (r.headD default)::bh ks r.tail
def ah.jn(τ:ah)(d:List FuncId):ah:={ τ with pf:=fun g=>match d.any (fun x=>ab x g)with
 |true=>false
 |false=>τ.pf g }
theorem ai.jn{P:Program}{τ:ah}(h:ai P τ)(d:List FuncId):ai P (τ.jn d):=⟨h.T,h.W,h.C,h.I,h.F⟩
theorem zY{β:Type}{t:Option (List G)}{k:List G→Option β}{g:List G}(h:t=some g):ao t k=k g:=by subst h; rfl
inductive lD (st:List G→Option (Option Nat × List G)):Nat→List G→Nat→List G→Prop
 |stop {d d':List G} {x:Nat} (h:st d=some (some x,d')):lD st 1 d x d'
 |next {d d1 d':List G} {x n:Nat} (h:st d=some (none,d1)) (h':lD st n d1 x d'):lD st (n+1) d x d'
theorem lD.iter{st:List G→Option (Option Nat × List G)}{n:Nat}{d d':List G}{x:Nat}(h:lD st n d x d'):∀ m,n≤m→qO st m d=some (x,d'):=by
 induction h with
 | stop h =>
  intro m hm;cases m with
  |zero=>omega
  |succ m=>simp only[qO,h]
 | next h _ g =>
  intro m hm;cases m with
  |zero=>omega
  |succ m=>simp only[qO,h]; exact g m (by omega)
theorem lD.WH{st:List G→Option (Option Nat × List G)}{n:Nat}{d d':List G}{x:Nat}(h:lD st n d x d')(hn:n≤1000000):cG st d=some (x,d'):=h.iter _ hn
end Go.AL

namespace Go.AL
open Go
variable [Dr]
inductive Hint where
 |freeze (slot:Nat)
 |LV (slot:Nat) (ks:List Kd)
 |eZ (slot c:Nat) (ks:List Kd)
 |LW (slot:Nat)
 |LX (slot c:Nat)
 |hole (ks:List Kd)
 |a7 (slot l:Nat)
 |LY (slot:Nat)
def zZ(slot:Nat)(s:al):Bool × al :=
 match s.fr.getD slot .undef with
 | .vec w id ae off n=>match s.H[id]? with
  |some (.vec ks v rows)=>if ae=v∧off=0∧w=ks.length then (ab n rows.length,⟨s.fr.set slot (.listF ks rows),s.H.set id (.raw .dead)⟩) else (true,s)
  |_=>(true,s)
 |_=>(true,s)
def EP(slot c:Nat)(ks:List Kd)(s:al):Bool × al :=
 match s.fr.getD slot .undef with
 | .ptr id _ _ _ _=>match s.H[id]? with
  | some (.raw (.box cells))=>match cells[c]? with
   | some a=>match isNil a with
    |true=>(true,⟨s.fr,s.H.set id (.raw (.box (cells.set c (.vec ks.length s.H.length 0 0 0))))++[.vec ks 0 []]⟩)
    |false=>(true,s)
   |none=>(true,s)
  |_=>(true,s)
 |_=>(true,s)
def z_(slot c:Nat)(s:al):Bool × al :=
 match s.fr.getD slot .undef with
 | .ptr id _ _ _ _=>match s.H[id]? with
  | some (.raw (.box cells))=>match cells[c]? with
   | some (.vec w d ae off n)=>match s.H[d]? with
    |some (.vec ks v rows)=>if ae=v∧off=0∧w=ks.length then (ab n rows.length,⟨s.fr,(s.H.set d (.raw .dead)).set id (.raw (.box (cells.set c (.listF ks rows))))⟩) else (true,s)
    |_=>(true,s)
   |_=>(true,s)
  |_=>(true,s)
 |_=>(true,s)
def Ah(slot:Nat)(s:al):Bool × al :=
 match s.fr.getD slot .undef with
 | .vec w id ae off n=>match s.H[id]? with
  |some (.vec ks v rows)=>if ae=v∧off=0∧w=ks.length then (cR n rows.length,⟨s.fr.set slot (.vec w id (v+1) 0 n),s.H.set id (.vec ks (v+1) (rows.take n))⟩) else (true,s)
  |_=>(true,s)
 |_=>(true,s)
def Ai(slot l:Nat)(s:al):Bool × al :=
 match s.fr.getD slot .undef with
 | .map id=>match s.H[id]? with
  |some (.map K (.one (.list ks)) [] cl)=>(sH (aj s.H) l,⟨s.fr,s.H.set id (.a7 l K ks [] cl)⟩)
  |_=>(true,s)
 |_=>(true,s)
def WI(rows:List (List G)):Bool:=rows.all fun r=>(gi r 3).bool
def Aj(slot:Nat)(s:al):Bool × al :=
 match s.fr.getD slot .undef with
 | .map id=>match s.H[id]? with
  |some (.a7 _ K ks rows cl)=>(WI rows,⟨s.fr,s.H.set id (.map K (.one (.list ks)) rows cl)⟩)
  |_=>(true,s)
 |_=>(true,s)
def Ak:Hint→al→Bool × al
 |.freeze i,s=>zZ i s
 | .LV i ks,s=>match isNil (s.fr.getD i .undef) with
  |true=>(true,vW i ks s)
  |false=>(true,s)
 |.eZ i c ks,s=>EP i c ks s
 |.LW i,s=>Ah i s
 |.LX i c,s=>z_ i c s
 |.hole ks,s=>(true,⟨s.fr,s.H++[.vec ks 0 []]⟩)
 |.a7 i l,s=>Ai i l s
 |.LY i,s=>Aj i s
def wk:List Hint→al→Bool × al
 | [],s=>(true,s)
 | h::d,s=>match Ak h s with
  | (b,s1)=>match wk d s1 with
   |(g,s2)=>(b&&g,s2)
theorem WJ{m:Nat}{slot:Nat}{s:al}(h:(zZ slot s).1=true):bL m s.den (zZ slot s).2.den:=by
 unfold zZ at h⊢;split
 case h_2=>exact bL.refl _
 rename_i w id ae off n J;split
 case h_2=>exact bL.refl _
 rename_i ks v rows hid;split
 case isFalse=>exact bL.refl _
 rename_i hc;obtain⟨rfl,rfl,rfl⟩:=hc;simp only[J,hid,and_self,if_true]at h;have hn:=bt h;subst hn;intro E a d;have hH:E.H=aj s.H:=d.H;have hle:=Env.uW d.heap id;have R:=ar.drop d.heap id fun o q=>by
  rw[show E.H[id]? = some (.vec ks.length ae (rows.map (aD ks))) by rw[hH]; exact bl hid]at q;cases q;rfl
 have F:aj (s.H.set id (.raw .dead))=E.H.set id .dead:=by rw[eu,hH]; rfl
 refine⟨E.loc.set id none,E.X,?_,?_⟩
 ·simp only [al.den]
  rw[F];refine⟨rfl,?_,d.defers,R⟩;refine zP (eM hle _ d.fr) fun c hc=>?_;have hr:=Ey d.fr hc;rw[show s.den.fr=s.fr from rfl,J]at hr;have I:E.H[id]? = some (.vec ks.length ae (rows.map (aD ks))):=by rw[hH]; exact bl hid
  have q:=d.heap.obj id _ I;rw[jI];simp only[rel]at hr⊢;obtain⟨⟨base,cap,rfl,O,_⟩,_,B⟩:=hr;obtain⟨q1,W⟩:=B ⟨_,I,rfl⟩;have M:fa (rows.map (aD ks)):=by
   intro r hr;obtain⟨g,_,rfl⟩:=bR.1 hr;exact fL ks g
  refine⟨M,base,cap,by simp,by simpa using O,?_⟩;simp only[aO]at q;rcases q with⟨h1,N⟩|⟨b,mm,h1,N,B,_,Y⟩
  ·exact .inl N
  ·obtain ⟨g1, o, g2, g3⟩ := W b mm h1
   by_cases hm:rows=[]
   ·subst hm; exact .inl rfl
   ·right
    have:0<rows.length:=by cases rows with|nil=>exact(hm rfl).elim|cons _ _=>simp
    simp at B;have q:=g2 (by omega);simp at q;subst q;simp only[j0]at g3;refine⟨b,0,g3.1,⟨(d.heap.lt id b mm h1).1,?_,(d.heap.lt id b mm h1).2⟩,k8 hle.toC _ M rfl Y⟩;rintro(⟨j,c',A⟩|⟨l,k,c',A⟩)
    case inr=>exact d.heap.dj _ _ _ _ _ _ h1 A
    simp only[e_]at A;split at A
    ·split at A<;>cases A
    ·rename_i U
     exact U (d.heap.inj _ _ _ _ _ h1 A)
 ·simp only [al.den]
  rw[F];exact hle.toM
theorem WK{m:Nat}{slot c:Nat}{ks:List Kd}{s:al}:bL m s.den (EP slot c ks s).2.den:=by
 unfold EP;split
 case h_2=>exact bL.refl _
 rename_i id ae k row col hsl;split
 case h_2=>exact bL.refl _
 rename_i cells hid;split
 case h_2=>exact bL.refl _
 rename_i a0 ha0;split
 case h_2=>exact bL.refl _
 rename_i hnil;intro E a g;have hH:E.H=aj s.H:=g.H;have hlen:E.H.length=s.H.length:=by rw[hH,dU]
 have hle:E.le (E.push E.w (.vec ks.length 0 []) none):=Env.jJ g.heap.len (Ext.refl _) (fun b n h=>by cases h);have hobj:aO (E.push E.w (.vec ks.length 0 []) none) E.H.length (.vec ks.length 0 []):=by
  simp only[aO,Env.push];refine .inl ⟨?_,trivial⟩;rw[gx (by rw[g.heap.len]; exact aI _),g.heap.len,r9];rfl
 have A:ar (E.push E.w (.vec ks.length 0 []) none):=ar.push g.heap (Ext.refl _) (fun b n h=>by cases h) hobj;generalize B:E.push E.w (.vec ks.length 0 []) none=d at hle A;have J:d.w=E.w:=by rw[←B]; rfl
 have M:d.X=E.X:=by rw[←B]; rfl
 have N:d.H=aj (s.H++[.vec ks 0 []]):=by rw[←B,im,←hH]; rfl
 have U:id<s.H.length:=aJ hid;have F:d.H[id]? = some (.box cells):=by
  rw[N];exact bl (H:=s.H++[.vec ks 0 []]) (o:=.raw (.box cells)) (by rw[dz U]; exact hid)
 have ho:=A.obj id _ F;simp only[aO]at ho;obtain⟨b,n,h1,h2,O⟩:=ho;have W:∀ v,(af.box (cells.set c (.vec ks.length s.H.length 0 0 0))).aH = some v→(af.box cells).aH = some v:=fun v R=>by simpa[af.aH]using R
 have I:=Env.oI (o':=.box (cells.set c (.vec ks.length s.H.length 0 0 0))) (w':=d.w) A F h1 W rfl (fun _ _=>rfl);have hnew:d.H[s.H.length]? = some (.vec ks.length 0 []):=by
  rw[N];have e:(s.H++[ak.vec ks 0 []])[s.H.length]? = some (ak.vec ks 0 []):=by rw[gx (aI _),r9]; rfl
  exact bl e
 have hloc:d.loc[s.H.length]? = some none:=by
  rw[←B];simp only[Env.push];rw[gx (by rw[g.heap.len]; omega),g.heap.len,hlen,r9];rfl
 have hrel:∀ v,rel d a0 v→rel { w:=d.w,H:=d.H.set id (.box (cells.set c (.vec ks.length s.H.length 0 0 0))),loc:=d.loc,X:=d.X } (.vec ks.length s.H.length 0 0 0) v:=by
  intro v R;obtain⟨base,rfl⟩:=K8 hnil R;simp only[rel];have hne:id≠s.H.length:=by omega
  refine⟨⟨base,0,rfl,aI _,fun h=>absurd h (Nat.lt_irrefl _)⟩,⟨.vec ks.length 0 [],by rw[bH hne]; exact hnew,fun v h=>j5 _⟩,fun _=>⟨fun _=>⟨trivial,trivial,base,rfl⟩,fun b m hb=>?_⟩⟩;rw[hloc]at hb;cases hb
 have Y:=ar.set (w':=d.w) A F h1 W rfl (fun _ _=>rfl) (by
  simp only[aO];refine⟨b,n,h1,by simpa using h2,?_⟩;rw[jb]at O⊢;intro i x q;rw[e_]at q;split at q
  ·rename_i e
   subst e;split at q
   ·cases q
    obtain⟨v,g1,g2,g3⟩:=O c a0 ha0;exact⟨v,g1,g2,hrel v g3⟩
   ·cases q
  ·obtain ⟨v, g1, g2, g3⟩ := O i x q
   exact⟨v,g1,g2,cC I x g3⟩)
 have hden:aj (s.H.set id (.raw (.box (cells.set c (.vec ks.length s.H.length 0 0 0))))++[.vec ks 0 []])=d.H.set id (.box (cells.set c (.vec ks.length s.H.length 0 0 0))):=by
  rw[N,im,im,eu,aiB _ _ (by rw[dU]; exact U)];rfl
 refine⟨d.loc,E.X,?_,?_⟩
 ·simp only [al.den]
  rw[hden];rw[J,M]at Y;refine⟨rfl,?_,g.defers,Y⟩;have:=eM I _ (eM hle _ g.fr);rw[J,M]at this;exact this
 ·simp only [al.den]
  rw[hden];have:=(hle.trans I).toM (m:=m);rw[J,M]at this;exact this
theorem WL{m:Nat}{slot c:Nat}{s:al}(h:(z_ slot c s).1=true):bL m s.den (z_ slot c s).2.den:=by
 unfold z_ at h⊢;split
 case h_2=>exact bL.refl _
 rename_i id ver0 k row col hsl;split
 case h_2=>exact bL.refl _
 rename_i cells hid;split
 case h_2=>exact bL.refl _
 rename_i w g ae off n R;split
 case h_2=>exact bL.refl _
 rename_i ks v rows M;split
 case isFalse=>exact bL.refl _
 rename_i hc;obtain⟨rfl,rfl,rfl⟩:=hc;simp only[hsl,hid,R,M,and_self,if_true]at h;have hn:=bt h;subst hn;intro E a q;have hH:E.H=aj s.H:=q.H;have hne:id≠g:=fun e=>by
  rw[e,M]at hid;cases hid
 have W:E.H[id]? = some (.box cells):=by rw[hH]; exact bl hid
 have U:E.H[g]? = some (.vec ks.length ae (rows.map (aD ks))):=by rw[hH]; exact bl M
 obtain⟨b0,n0,k1,k2,k3⟩:=q.heap.obj id _ W;rw[jb]at k3;obtain⟨cv,c1,c2,c3⟩:=k3 c _ R;have hfr:=J3 q.heap U c3;have hle:=Env.uW q.heap g;have I:=ar.drop q.heap g fun o ho=>by
  rw[U]at ho;cases ho;rfl
 generalize B:({ w:=E.w,H:=E.H.set g .dead,loc:=E.loc.set g none,X:=E.X }:Env)=d at hle I hfr;have J:d.w=E.w:=by rw[←B]
 have O:d.X=E.X:=by rw[←B]
 have N:d.H[id]? = some (.box cells):=by
  rw[←B];show (E.H.set g .dead)[id]? = _
  rw[bH (Ne.symm hne)];exact W
 have hl1:d.loc[id]? = some (some (b0,n0)):=by
  rw[←B];show (E.loc.set g none)[id]? = _
  rw[bH (Ne.symm hne)];exact k1
 obtain⟨b,n,h1,h2,h3⟩:=I.obj id _ N;have hbb:b=b0:=by
  rw[hl1]at h1;cases h1;rfl
 subst hbb;have Y:∀ v,(af.box (cells.set c (.listF ks rows))).aH = some v→(af.box cells).aH = some v:=fun v hv=>by simpa[af.aH]using hv
 have F:=Env.oI (o':=.box (cells.set c (.listF ks rows))) (w':=d.w) I N h1 Y rfl (fun _ _=>rfl);have hHR2:=ar.set (w':=d.w) I N h1 Y rfl (fun _ _=>rfl) (by
  simp only[aO];refine⟨b,n,h1,by simpa using h2,?_⟩;rw[jb]at h3⊢;intro i x A;rw[e_]at A;split at A
  ·rename_i e
   subst e;split at A
   ·cases A
    refine⟨cv,by rw[show ({ w:=d.w,H:=_,loc:=d.loc,X:=d.X }:Env).w=E.w from J]; exact c1,c2,cC F _ hfr⟩
   ·cases A
  ·obtain ⟨v, g1, g2, g3⟩ := h3 i x A
   exact⟨v,g1,g2,cC F x g3⟩)
 have hden:aj ((s.H.set g (.raw .dead)).set id (.raw (.box (cells.set c (.listF ks rows)))))=d.H.set id (.box (cells.set c (.listF ks rows))):=by
  rw[eu,eu,←hH,←B];rfl
 refine⟨d.loc,E.X,?_,?_⟩
 ·simp only [al.den]
  rw[hden];rw[J,O]at hHR2;refine⟨rfl,?_,q.defers,hHR2⟩;have:=eM F _ (eM hle _ q.fr);rw[J,O]at this;exact this
 ·simp only [al.den]
  rw[hden];have:=(hle.trans F).toM (m:=m);rw[J,O]at this;exact this
theorem WM{m:Nat}{slot:Nat}{s:al}(h:(Ah slot s).1=true):bL m s.den (Ah slot s).2.den:=by
 unfold Ah at h⊢;split
 case h_2=>exact bL.refl _
 rename_i w id ae off n J;split
 case h_2=>exact bL.refl _
 rename_i ks v rows hid;split
 case isFalse=>exact bL.refl _
 rename_i hc;obtain⟨rfl,rfl,rfl⟩:=hc;simp only[J,hid,and_self,if_true]at h;have hn:=j9 h;intro E a d;have hH:E.H=aj s.H:=d.H;have q:E.H[id]? = some (.vec ks.length ae (rows.map (aD ks))):=by rw[hH]; exact bl hid
 have U:=d.heap.obj id _ q;obtain⟨l,A⟩:∃ l,E.loc[id]? = some l:=by
  have:id<E.loc.length:=by rw[d.heap.len]; exact aJ q
  exact⟨_,bE this⟩
 have M:E.loc.set id l=E.loc:=mf A;have I:aj (s.H.set id (.vec ks (ae+1) (rows.take n)))=E.H.set id (.vec ks.length (ae+1) ((rows.take n).map (aD ks))):=by rw[eu,hH]; rfl
 have Y:∀ b n,l=some (b,n)→E.w.heap.size≤b∨∃ m,E.loc[id]? = some (some (b,m)):=fun b n B=>.inr ⟨n,by rw[A,B]⟩;have N:∀ v u,(af.vec ks.length (ae+1) ((rows.take n).map (aD ks))).aH = some v→(af.vec ks.length ae (rows.map (aD ks))).aH = some u→u≤v:=by
  intro v u h1 k;simp[af.aH]at h1 k;omega
 have O:∀ v,(af.vec ks.length (ae+1) ((rows.take n).map (aD ks))).aH = some v→∀ u,(af.vec ks.length ae (rows.map (aD ks))).aH = some u→u<v:=by
  intro v h1 u k;simp[af.aH]at h1 k;omega
 have hle:=Env.la (o':=.vec ks.length (ae+1) ((rows.take n).map (aD ks))) (l:=l) (w':=E.w) q d.heap.len (aI _) (fun _ _ _=>rfl) Y (.inr O) N (fun h=>by simp[af.aH]at h);have R:=ar.ni (o':=.vec ks.length (ae+1) ((rows.take n).map (aD ks))) (l:=l) (w':=E.w) d.heap q (aI _) (fun _ _ _=>rfl) (fun b n B=>.inr ⟨n,by rw[A,B]⟩) (.inr O) N (fun h=>by simp[af.aH]at h) (by
  rw[M]at hle⊢;simp only[aO]at U⊢;rcases U with⟨h1,k⟩|⟨b,mm,h1,k,F,h4,W⟩
  ·left
   refine⟨h1,?_⟩;have:rows=[]:=by simpa using k
   rw[this];simp
  ·right
   refine⟨b,mm,h1,k,by simp at F⊢; omega,?_,?_⟩
   ·intro r hr
    obtain⟨g,_,rfl⟩:=bR.1 hr;exact fL ks g
   ·rw [l6] at W ⊢
    intro i r hi;simp only[cq,mT]at hi;split at hi
    ·obtain ⟨g1, g2⟩ := W i r (by simpa using hi)
     exact⟨g1,uV (fun a c hr=>cC hle a hr) rfl g2⟩
    ·simp at hi)
 rw[M]at hle R;refine⟨E.loc,E.X,?_,?_⟩
 ·simp only [al.den]
  rw[I];refine⟨rfl,?_,d.defers,R⟩;refine zP (eM hle _ d.fr) fun c hc=>?_;have hr:=Ey d.fr hc;rw[show s.den.fr=s.fr from rfl,J]at hr;simp only[rel]at hr⊢;obtain⟨h1,k,F⟩:=hr;exact⟨h1,⟨.vec ks.length (ae+1) ((rows.take n).map (aD ks)),cr (aJ q),fun v hv=>by simp[af.aH]at hv; omega⟩,fun _=>F ⟨_,q,rfl⟩⟩
 ·simp only [al.den]
  rw[I];exact hle.toM
theorem WN{m:Nat}{ks:List Kd}{s:al}:bL m s.den (al.den ⟨s.fr,s.H++[.vec ks 0 []]⟩):=fun E a d=>by
 have hH:E.H=aj s.H:=d.H;have hle:E.le (E.push E.w (.vec ks.length 0 []) none):=Env.jJ d.heap.len (Ext.refl _) (fun b n h=>by cases h);have k:aO (E.push E.w (.vec ks.length 0 []) none) E.H.length (.vec ks.length 0 []):=by
  simp only[aO,Env.push];refine .inl ⟨?_,trivial⟩;rw[gx (by rw[d.heap.len]; exact aI _),d.heap.len,r9];rfl
 have q:ar (E.push E.w (.vec ks.length 0 []) none):=ar.push d.heap (Ext.refl _) (fun b n h=>by cases h) k;have g:(al.den ⟨s.fr,s.H++[.vec ks 0 []]⟩).H=E.H++[.vec ks.length 0 []]:=by
  rw[hH];simp[al.den,aj,ak.den]
 refine⟨E.loc++[none],E.X,?_,?_⟩
 ·rw [g]
  exact⟨g.symm,eM hle _ d.fr,d.defers,q⟩
 ·rw [g]
  exact hle.toM
theorem WO{m:Nat}{slot l:Nat}{s:al}(h:(Ai slot l s).1=true):bL m s.den (Ai slot l s).2.den:=by
 unfold Ai at h⊢;split
 case h_2=>exact bL.refl _
 rename_i id A;split
 case h_2=>exact bL.refl _
 rename_i K ks cl hid;simp only[A,hid]at h;intro E a d;have hH:E.H=aj s.H:=d.H;have q:E.H[id]? = some (.map [] cl):=by rw[hH]; exact bl hid
 obtain⟨h1,k⟩:=UE (w:=ks.length) d.heap q (by rw[hH]; exact h);have g:aj (s.H.set id (.a7 l K ks [] cl))=E.H.set id (.a7 l ks.length [] cl):=by rw[eu,hH]; rfl
 refine⟨E.loc,E.X,?_,?_⟩
 ·simp only [al.den]
  rw[g];exact⟨rfl,eM k _ d.fr,d.defers,h1⟩
 ·simp only [al.den]
  rw[g];exact k.toM
theorem WQ{m:Nat}{slot:Nat}{s:al}(h:(Aj slot s).1=true):bL m s.den (Aj slot s).2.den:=by
 unfold Aj at h⊢;split
 case h_2=>exact bL.refl _
 rename_i id M;split
 case h_2=>exact bL.refl _
 rename_i l K ks rows cl hid;simp only[M,hid]at h;intro E a d;have hH:E.H=aj s.H:=d.H;have A:E.H[id]? = some (.a7 l ks.length (gj K ks rows) cl):=by rw[hH]; exact bl hid
 have F:=d.heap.obj id _ A;simp only[aO]at F;obtain⟨b,n,ms,g1,g2,g3,hh,k1,U⟩:=F;obtain⟨h1,I⟩:=ar.Uz (o':=.map (cN K (.one (.list ks)) rows) cl) d.heap A rfl rfl rfl fun hle=>by
  simp only[aO];refine⟨b,n,ms,g1,g2,?_⟩;rw[fF]at g3⊢;obtain⟨W,Y⟩:=g3;refine⟨by simpa[cN,cO,gj]using W,fun i x e k he=>?_⟩;unfold cN at k;rw[cq]at k;obtain⟨r,hr,rfl⟩:=ft.1 k;have J:=vJ (K:=K) (ks:=ks) hr;have N:(gi r 3).bool=true:=dX.1 h r (fK hr);obtain⟨a1,a2,a3,a4,a5⟩:=Y i _ e (yU J) he;refine⟨cC hle _ a1,?_,a3,a4,rfl⟩;have O:=U i _ ((lv r).map (aD ks)) e J (by simp only[jL,N,cond_true]) he;show rel _ (.listF ks (lv r)) e.val
  rw[jI];simp only[rel];have R:fa ((lv r).map (aD ks)):=by
   intro r hr;obtain⟨g,_,rfl⟩:=bR.1 hr;exact fL ks g
  refine⟨R,?_⟩;rcases O with⟨s1,base,s2⟩|⟨bb,mm,s1,s2,s3,s4,s5,s6⟩
  ·rw [s1]
   exact⟨base,0,s2,aI _,.inl rfl⟩
  ·refine ⟨_, mm, s2, s4, .inr ⟨bb, 0, rfl, ⟨(d.heap.cD _ _ _ _ s1).1, ?_, (d.heap.cD _ _ _ _ s1).2⟩, k9 (fun a _ hr => cC hle a hr) rfl s6⟩⟩
   rintro(⟨j,c',q⟩|⟨l',k',c',q⟩)
   ·exact d.heap.dj _ _ _ _ _ _ q s1
   ·obtain ⟨j1, j2⟩ := oM q
    exact j2 (d.heap.fc _ _ _ _ _ _ _ j1 s1).1
 have B:aj (s.H.set id (.map K (.one (.list ks)) rows cl))=E.H.set id (.map (cN K (.one (.list ks)) rows) cl):=by rw[eu,hH]; rfl
 refine⟨E.loc,E.X.re (lp E.X.r l),?_,?_⟩
 ·simp only [al.den]
  rw[B];exact⟨rfl,eM I _ d.fr,d.defers,h1⟩
 ·simp only [al.den]
  rw[B];exact I.toM
theorem WR{m:Nat}(h:Hint)(s:al)(d:(Ak h s).1=true):bL m s.den (Ak h s).2.den:=by
 cases h with
 |freeze i=>exact WJ d
 | LV i ks =>
  simp only[Ak];split
  ·rename_i h; exact K9 h
  ·exact bL.refl _
 |eZ i c ks=>exact WK
 |LW i=>exact WM d
 |LX i c=>exact WL d
 |hole ks=>exact WN
 |a7 i l=>exact WO d
 |LY i=>exact WQ d
theorem LZ{m:Nat}:∀(d:List Hint) (s:al),(wk d s).1=true→bL m s.den (wk d s).2.den
 | [],s,_=>bL.refl _
 | h::d,s,g=>by
  simp only[wk]at g⊢;simp only[aw]at g;exact(WR h s g.1).trans (LZ d _ g.2)
def L1:List (Nat × List Hint)→Nat→List Hint
 | [],_=>[]
 | (i,d)::l,id=>match ab id i with
  |true=>d
  |false=>L1 l id
def LT.iy(L:LT)(d:List (Nat × List Hint)):LT:=⟨L.loops,fun id s=>wk (L1 d id) s,L.vT⟩
theorem qS{P:Program}{m:Nat}{c:Code}(d:List (Nat × List Hint)):ay P m (au.iy d) c:=⟨fun _ _ _ _ _ h=>(nomatch h),fun id s g=>LZ _ s g,fun _ _ _ _ _ h=>(nomatch h)⟩
end Go.AL

namespace Go.AL
open Go
variable [Dr]
theorem WS{E:Env}{ks:List Kd}{c:Value}(h:rel E (.listF ks []) c):rel E (.emptyS true) c∨rel E (.emptyS false) c:=by
 simp only[rel,dC,G.rows,List.length_nil]at h;obtain⟨base,cap,rfl,_,_⟩:=h;cases base with
 |none=>exact .inl (by simp only[rel]; exact⟨_,_,rfl,rfl⟩)
 |some p=>exact .inr (by simp only[rel]; exact⟨_,_,rfl,rfl⟩)
theorem WT{P:Program}{f:FuncId}{ks:List Kd}{H H':List af}{v:AV}(h1:cg P f [.emptyS true] H v H')(d:cg P f [.emptyS false] H v H'):cg P f [.listF ks []] H v H':=by
 intro E cargs hH HE hr
 match hc:cargs.toList,hr with
 | [],hr=>simp[ad]at hr
 | c::cs,hr =>
  simp only[ad]at hr;rcases WS hr.1 with h|h
  ·exact h1 E cargs hH HE (by rw[hc]; simp only[ad]; exact⟨h,hr.2⟩)
  ·exact d E cargs hH HE (by rw[hc]; simp only[ad]; exact⟨h,hr.2⟩)
end Go.AL

namespace Go.AL
open Go Go.ChangeMaps
variable [Dr]
theorem bj.ix{s:St}{E:Env}{a:Act}(d:bj s E a)(t:Tmp){v:AV}{u:Value}(g:rel E v u):bj (s.put (some t) v s.H) E (a.put (some t) u) :=
 ⟨d.H,Dt d.fr (Env.le.refl E) (some t) g,by rw[put_defers]; exact d.defers,d.heap⟩
theorem wm{m:Nat}{E E':Env}(h:E.dx m E'):E.bG E' :=
 ⟨fun b d=>⟨⟨Nat.lt_of_lt_of_le d.1 h.size,h.own b d.1 d.2.1,fun g=>d.2.2 ((h.X b d.1).1.1 g)⟩,h.same b d.1 d.2.1⟩⟩
theorem kE{P:Program}{ops:Array Oper}{Q:Exit→Act→World→Prop}{i:Nat}{o:Oper}{K:Act→World→Prop}{a:Act}{w w':World}{u:Value}
  (hi:ops[i]? = some o) (g:o.guard=none) (hr:(execOp a.eval o).run P w=.ok (.value u) w') (d:∀ c,o.op≠.defer c) (ro:Option Nat) (k:K (a.put o.dst u) w'):wpOpIn (fz ro) 0 P ops Q i K a w:=by
 unfold wpOpIn;simp only[hi];rw[if_pos (by simp[Region.wanted,g])];unfold Oper.wpIn;rw[Oper.semAt_eq _ _ _ d,hr];exact⟨fun _ _=>trivial,k⟩
theorem pq{P:Program}{pf:FuncId→Bool}{ops:Array Oper}{Q:Exit→Act→World→Prop}(ro:Option Nat):∀(l:List Oper) (k:Nat) (s s':St) (E:Env) (a:Act) (rest:List Nat),
  (∀(j:Nat) (o:Oper),l[j]? = some o→ops[k+j]? = some o)→eO P pf ops l s s'→bj s E a→(∀ d w',eW E s' d w'→wpOpsIn (fz ro) 0 P ops Q rest d w')→wpOpsIn (fz ro) 0 P ops Q (List.range' k l.length++rest) a E.w
 | [],k,s,s',E,a,rest,_,h,g,q=>by
  simp only[eO]at h;subst h;exact q _ _ (eW.refl g)
 | o::l,k,s,s',E,a,rest,A,h,g,q=>by
  obtain⟨v,H',J,B⟩:=h;simp only[di,List.range'_succ,ob];rw[wpOpsIn_cons];refine Dv g (by simpa using A 0 o rfl) J (fun d w' hc=>?_) ro;obtain⟨F,r',h1,M⟩:=hc;refine pq ro l (k+1) _ s' { w:=w',H:=H',loc:=F,X:=E.X.re r' } d rest (fun j x N=>?_) B h1 (fun a2 O I=>q a2 O (eW.after M I));have:=A (j+1) x (by simpa using N)
  rwa [show k+1+j=k+(j+1) from by omega]
theorem pr{a:Act}{t:Tmp}{u:Value}(h:t<a.tmps.size):(a.put (some t) u).eval (.tmp t)=u:=by
 simp[Act.eval,Act.put,h]
def Tree.fk:Tree→Option (bk × al)
 |.fail=>none
 |.done x s=>some (x,s)
 | .ask b t e=>match b with
  |true=>t.fk
  |false=>e.fk
 | .side b t=>match b with
  |true=>t.fk
  |false=>none
theorem pt:∀{t:Tree} {x:bk} {s:al},t.fk=some (x,s)→t.holds fun d s'=>d=x∧s'=s
 |.fail,_,_,h=>by cases h
 | .done _ _,_,_,h=>by
  cases h;exact⟨rfl,rfl⟩
 | .ask b t e,_,_,h=>by
  cases b with
  |true=>exact⟨fun _=>pt (t:=t) h,fun h=>(nomatch h)⟩
  |false=>exact⟨fun h=>(nomatch h),fun _=>pt (t:=e) h⟩
 | .side b t,_,_,h=>by
  cases b with
  |true=>exact⟨rfl,pt (t:=t) h⟩
  |false=>cases h
def cQ(st:List G→List G→Option (List G))(br:List G→Nat):List (List G)→List G→Option (List G)
 | [],d=>some d
 | r::rs,d=>match st r d with
  |some d'=>bif ab (br d') (br d) then cQ st br rs d' else none
  |none=>none
theorem ER{st:List G→List G→Option (List G)}{br:List G→Nat}:∀(p q:List (List G)) (d:List G),cQ st br (p++q) d=(cQ st br p d).bind (cQ st br q)
 | [],_,_=>rfl
 | r::p,q,d=>by
  simp only[ob,cQ];cases st r d with
  |none=>rfl
  | some d' =>
   simp only[];cases ab (br d') (br d)with
   |false=>rfl
   |true=>exact ER p q d'
def cd(r:List G):Nat:=(gi r 2).int.toNat
theorem wo{f:List G→Nat}{r:List G}:∀{l:List (List G)} {seen:Array Nat},(l.map f).Nodup→r∈l→seen.contains (f r)=false →
  (l.filter fun x => !seen.contains (f x)).Perm (r::l.filter fun x => !(seen.push (f r)).contains (f x))
 | [],_,_,h,_=>by cases h
 | x::l,seen,hn,hm,d=>by
  obtain⟨g,hn⟩:=jG.1 hn;rcases bI.1 hm with rfl|hm
  ·have e:(l.filter fun x => !(seen.push (f r)).contains (f x))=l.filter fun x => !seen.contains (f x):=by
    apply List.filter_congr;intro y A;have:(f y==f r)=false:=by
     rw[beq_eq_false_iff_ne];intro e;exact g (e▸bR.2 ⟨y,A,rfl⟩)
    rw[contains_push,this,yk]
   rw[List.filter_cons_of_pos (by rw[d]; rfl),List.filter_cons_of_neg (by rw[contains_push]; simp),e]
  ·have q:(f x==f r)=false:=by
    rw[beq_eq_false_iff_ne];intro e;exact g (e▸bR.2 ⟨r,hm,rfl⟩)
   have k:=wo hn hm d;simp only[List.filter_cons,contains_push seen (f r) (f x),q,yk];cases seen.contains (f x)with
   |true=>simpa using k
   | false =>
    simp only[Bool.not_false,if_true];exact(List.Perm.cons x k).trans (List.Perm.swap r x _)
structure eB where
 inv:kD
 ps:List gX
 opens:List (Nat × List Kd)
 K:Ct
 V:Ct
 id:Nat
 x:Tmp
 y:Tmp
 it:Tmp
 t1:Tmp
 t2:Tmp
 t3:Tmp
 br:List G→Nat
 init:List G→Nat→List G
 side:List G→Nat→Bool
 st:List G→List G→Option (List G)
def eB.rs(sp:eB)(r d:List G):al:=⟨(aM sp.inv d).fr.set sp.t3 (.tuple [sp.K.av (gi r 0).row,sp.V.av (gi r 1).row]),(aM sp.inv d).H⟩
def eB.s2(sp:eB)(s:al)(b:Nat):al:=⟨s.fr.set sp.it (.lit (.pointer (some ⟨b,0,none⟩))),s.H.set sp.id (.raw .dead)⟩
def nB(m:Nat)(inv:kD)(ps:List gX)(x:bk)(s:al):Option (Bool × List G) :=
 match x with
 |.normal=>gY m inv ps s
 |_=>none
structure wq (P:Program) (sp:eB) (ops0 ops1 ops2:Array Oper):Prop where
 r0:∃ o2 ty,ops0.toList=ops0.toList.dropLast++[o2]∧o2.guard=none∧o2.op=.range ty (.tmp sp.y)∧o2.dst=some sp.it∧(fe P ty).isSome=true
 r1:∃ o1 o2,ops1.toList=[o1,o2]∧o1.guard=none∧o1.op=.next (.tmp sp.it) false∧o1.dst=some sp.t1∧o2.guard=none∧o2.op=.extract (.tmp sp.t1) 0∧o2.dst=some sp.t2
 r2:∃ o1 l,ops2.toList=o1::l∧o1.guard=none∧o1.op=.entry (.tmp sp.it)∧o1.dst=some sp.t3
def jo(r0 b0 r1 b1 r2:Nat)(ops0 ops1 ops2:Array Oper)(t2:Tmp)(body:Code):Code :=
 .seq (.region r0 ops0 false) (.block b0 (.loop (.seq (.region r1 ops1 false) (.seq (.cond (.tmp t2) .skip (.exit b0)) (.block b1 (.seq (.region r2 ops2 false) body))))))
theorem L2{ro:Option Nat}{r0 b0 r1 b1 r2:Nat}{ops0 ops1 ops2:Array Oper}{t2:Tmp}{body:Code}(h:fg ro (jo r0 b0 r1 b1 r2 ops0 ops1 ops2 t2 body)):fg ro body:=h.imp id fun h=>by
 simpa[jo,d_]using h
section range
variable {P:Program} {τ:ah} {L:LT} {m:Nat} {sp:eB} {ops0 ops1 ops2:Array Oper} {body:Code}
def lE(P:Program)(τ:ah)(L:LT)(m:Nat)(sp:eB)(ops2:Array Oper)(body:Code):Prop :=
 ∀ r d,(ef P τ ops2 (ops2.toList.drop 1) (sp.rs r d) (fun s=>bQ P τ L body s .done)).leaf (nB m sp.inv sp.ps)=sp.st r d
theorem WU(hm:P.follows .mixedOrders=true)(q:ai P τ)(A:ay P m L body)(hr:lE P τ L m sp ops2 body){r d d':List G}(h:sp.st r d=some d') :
  ∃ k:al,eO P τ.pf ops2 (ops2.toList.drop 1) (sp.rs r d).den k.den∧bU P m body k.den .normal (aM sp.inv d').den:=by
 rw[←hr r d]at h;obtain⟨k,h1,B⟩:=o9 q (Q:=fun x s=>nB m sp.inv sp.ps x s=some (true,d')) (iu h);obtain⟨x,F,I,g⟩:=dK hm q body k .done A B;have g:nB m sp.inv sp.ps x F=some (true,d'):=g;unfold nB at g;split at g
 ·exact⟨k,h1,qs I (jm g)⟩
 ·cases g
theorem bj.pv{s:St}{E:Env}{a:Act}(d:bj s E a){t:Tmp}(hu:s.fr[t]? = some .undef)(u:Value):bj s E (a.put (some t) u):=by
 have h:=d.ix t (v:=.undef) (u:=u) (by simp[rel]);have e:s.put (some t) .undef s.H=s:=by
  simp only[St.put,je,mf hu]
 rwa [e]at h
theorem Al{s:St}{E:Env}{a:Act}(g:bj s E a){t:Tmp}{v:AV}(hu:s.fr[t]? = some v):t<a.tmps.size:=by
 have h1:s.fr.length=a.tmps.size:=by simpa using(ng.1 g.fr).1
 have d:t<s.fr.length:=aJ hu;rw[h1]at d;exact d
theorem Am{o:Oper}{t:Tmp}{a:Act}{w:World}{cs:Array Value}{u:Value}(d:o.op=.extract (.tmp t) 0)(g:a.eval (.tmp t)=.tuple cs)(hc:cs[0]? = some u) :
  (execOp a.eval o).run P w=.ok (.value u) w:=by
 obtain⟨dst,op,type,pos,after,guard⟩:=o;subst d;exact mh (by simp[Instr.extract,g,hc])
theorem An{o:Oper}{t:Tmp}{a:Act}{w w':World}{x u:Value}(d:o.op=.next (.tmp t) false)(g:a.eval (.tmp t)=x)(h:(Instr.next x false o.type).run P w=.ok u w') :
  (execOp a.eval o).run P w=.ok (.value u) w':=by
 obtain⟨dst,op,type,pos,after,guard⟩:=o;subst d;subst g;exact mh h
theorem L3{o:Oper}{t:Tmp}{a:Act}{w w':World}{x u:Value}(d:o.op=.entry (.tmp t))(g:a.eval (.tmp t)=x)(h:(Instr.entry x).run P w=.ok u w') :
  (execOp a.eval o).run P w=.ok (.value u) w':=by
 obtain⟨dst,op,type,pos,after,guard⟩:=o;subst d;subst g;exact mh h
theorem L4{o:Oper}{t:Tmp}{ty:TypeId}{a:Act}{w w':World}{x u:Value}(d:o.op=.range ty (.tmp t))(g:a.eval (.tmp t)=x)(h:(Instr.range ty x).run P w=.ok u w') :
  (execOp a.eval o).run P w=.ok (.value u) w':=by
 obtain⟨dst,op,type,pos,after,guard⟩:=o;subst d;subst g;exact mh h
theorem th{w:World}{b:Nat}{o:Obj}(h:w.heap[b]? = some o):b<w.heap.size:=(Array.getElem?_eq_some_iff.1 h).1
theorem Ao{w:World}{r:Nat}{a:Option Nat}{b c:Nat}{s:Array Nat}(h:w.heap[r]? = some (.mapIter a b s c)):w.iterSeen r=s:=by
 unfold World.iterSeen;rw[h]
noncomputable def pz{β:Type}(rows:List (List G))(k:Nat→List (List G)→Option β):Option β :=
 open Classical in if h:∃ r,∀ b p,p.Perm rows→k b p=some r then some h.choose else none
theorem Ap{β:Type}{rows:List (List G)}{k:Nat→List (List G)→Option β}{r:β}(h:pz rows k=some r):∀ b p,p.Perm rows→k b p=some r:=by
 unfold pz at h;split at h
 ·rename_i d
  cases h;exact d.choose_spec
 ·cases h
theorem wu{β:Type}{rows:List (List G)}{k:Nat→List (List G)→Option β}{r:β}(h:∀ b p,p.Perm rows→k b p=some r):pz rows k=some r:=by
 cases d:pz rows k with
 | some r' =>
  have h1:=Ap d 0 rows (sc _);rw[h 0 rows (sc _)]at h1;exact h1.symm
 | none =>
  unfold pz at d;rw[dif_pos ⟨r,h⟩]at d;cases d
def eC(rows:List (List G))(clock:Nat):Bool:=nodupB (rows.map cd)&&rows.all fun r=>eE (cd r) clock
theorem Aq{rows:List (List G)}{clock:Nat}(h:eC rows clock=true):(rows.map cd).Nodup∧∀ r∈rows,cd r<clock:=by
 simp only[eC,aw,dX,gB]at h;exact⟨pe h.1,h.2⟩
noncomputable def kF(sp:eB)(tl:List G→Option (Option Nat × List G))(rows:List (List G))(clock:Nat)(d:List G):Option (Option Nat × List G) :=
 bif eC rows clock then pz rows (fun b p=>bif sp.side d b then (cQ sp.st sp.br p (sp.init d b)).bind tl else none) else none
def qT(P:Program)(m:Nat)(c:Code)(sp:bx):Prop:=∀ d i d',sp.st d=some (some i,d')→∃ o,sp.outs[i]? = some o∧bU P m c (aM sp.inv d).den o.x (aM o.S d').den
theorem gl.sat{c:Code}{q:bx}(hm:P.follows .mixedOrders=true)(A:ai P τ)(B:ay P m L c)(hr:gl P τ L m c q):qT P m c q:=by
 intro d i d' g;rw[←hr d]at g;obtain⟨x,s1,g1,g2⟩:=dK hm A c (aM q.inv d) .done B (Q:=fun x s=>qP m q.outs 0 x s=some (true,(some i,d'))) (iu g);obtain⟨j,o,F,k,I,J⟩:=zT g2;simp only[aT,dO]at k;subst k;refine⟨o,F,?_⟩;rw[←I];exact qs g1 (jm J)
theorem WV{c:Code}{q:bx}(hr:qT P m c q){s:al}{t:Tree}(h:wa m q s=some t):zw P m c s t:=by
 unfold wa at h;split at h
 case h_2=>cases h
 rename_i b d F;cases h;intro Q A;simp only[Tree.holds,vZ,aw]at A;obtain⟨⟨rfl,h1⟩,B⟩:=A;cases g:q.st d with
 |none=>rw[g]at h1; cases h1
 | some r =>
  obtain⟨k,d'⟩:=r;cases k with
  |none=>rw[g]at h1; cases h1
  | some i =>
   obtain⟨o,g1,g2⟩:=hr d i d' g;rw[g]at B;exact⟨o.x,(aM o.S d'),sR ((lA q.opens s).trans (jm F)) g2,zU g1 (dO i).symm B⟩
theorem ay.L5{fn:Func}{q:bx} (hn:lB q.key (bA (aN fn))=true) (g:ay P m L (aN fn)) (hr:ay P m L (cutAt fn q.key)→qT P m (cutAt fn q.key) q) :
  ay P m (L.fI m q) (aN fn):=by
 refine⟨g.1,g.2.1,fun k A hk s t d=>?_⟩;simp only[LT.fI]at d;split at d
 ·rename_i e
  have e:=bt e;subst e;have B:=ED hn hk;rw[←B]at hr;exact WV (hr (g.sub (pj hk) (pk hk))) d
 ·exact g.2.2 k A hk s t d
def wv(o:Option Tmp)(t:Tmp):Bool :=
 match o with
 |some x=>ab x t
 |none=>false
theorem Ar{o:Option Tmp}{t:Tmp}(h:wv o t=true):o=some t:=by
 cases o with
 |none=>cases h
 |some x=>exact congrArg some (bt h)
def As(P:Program)(sp:eB)(ops:Array Oper):Bool :=
 match ops.toList.getLast? with
 |some ⟨d2,.range ty (.tmp b),_,_,_,none⟩=>ab b sp.y&&wv d2 sp.it&&(fe P ty).isSome
 |_=>false
def Au(sp:eB)(ops:Array Oper):Bool :=
 match ops.toList with
 | [⟨d1,.next (.tmp a) false,_,_,_,none⟩,⟨d2,.extract (.tmp b) 0,_,_,_,none⟩]=>ab a sp.it&&wv d1 sp.t1&&ab b sp.t1&&wv d2 sp.t2
 |_=>false
def Av(sp:eB)(ops:Array Oper):Bool :=
 match ops.toList with
 |⟨d1,.entry (.tmp a),_,_,_,none⟩::_=>ab a sp.it&&wv d1 sp.t3
 |_=>false
theorem L6(h0:As P sp ops0=true)(h1:Au sp ops1=true)(d:Av sp ops2=true):wq P sp ops0 ops1 ops2:=by
 refine⟨?_,?_,?_⟩
 ·unfold As at h0
  split at h0
  ·rename_i d2 ty b t' k q e
   simp only[aw]at h0;obtain⟨⟨g3,g4⟩,g5⟩:=h0;have g3:=bt g3;subst g3;refine⟨⟨d2,.range ty (.tmp sp.y),t',k,q,none⟩,ty,?_,rfl,rfl,Ar g4,g5⟩;have g:ops0.toList≠[]:=by
    intro h;rw[h]at e;cases e
   have d:=List.dropLast_concat_getLast g;have A:ops0.toList.getLast? = some (ops0.toList.getLast g):=by
    rw[List.getLast?_eq_some_iff];exact⟨_,d.symm⟩
   rw[A]at e;rw[ow e]at d;exact d.symm
  ·cases h0
 ·unfold Au at h1
  split at h1
  ·rename_i d1 a _ _ _ d2 b _ _ _ e
   simp only[aw]at h1;obtain⟨⟨⟨g1,g2⟩,g3⟩,g4⟩:=h1;have g1:=bt g1;have g3:=bt g3;subst g1;subst g3;exact⟨_,_,e,rfl,rfl,Ar g2,rfl,rfl,Ar g4⟩
  ·cases h1
 ·unfold Av at d
  split at d
  ·rename_i d1 a _ _ _ l e
   simp only[aw]at d;have g1:=bt d.1;subst g1;exact⟨_,l,e,rfl,rfl,Ar d.2⟩
  ·cases d
def nC:Code→Code
 |.seq _ b=>b
 |_=>.skip
def ES:Code→Code
 |.seq (.seq _ (.block _ (.loop c))) _=>c
 |_=>.skip
def qU(c:Code):Code:=match ES c with
 |.seq _ (.seq _ (.block _ (.seq _ b)))=>b
 |_=>.skip
def ET:Code→Array Oper
 |.region _ ops _=>ops
 |_=>#[]
def nD:Code→Array Oper
 |.seq (.seq r _) _=>ET r
 |_=>#[]
def EU(c:Code):Array Oper:=match ES c with
 |.seq r _=>ET r
 |_=>#[]
def pA(c:Code):Array Oper:=match ES c with
 |.seq _ (.seq _ (.block _ (.seq r _)))=>ET r
 |_=>#[]
theorem WW{r0 r1 b0 b1 r2 t2:Nat}{rest:Code} (h:ay P m L (.seq (jo r0 b0 r1 b1 r2 ops0 ops1 ops2 t2 body) rest)):ay P m L body∧ay P m L rest:=by
 refine⟨h.sub (fun p d=>?_) (fun p d=>?_),h.sub (fun p d=>?_) (fun p d=>?_)⟩
 ·simp only [bC, jo, bV]
  left;right;split
  ·simp only [bI, bC, bV]
   exact .inr (.inr (.inr (.inr d)))
  ·simp only [bC, bV]
   exact .inr (.inr (.inr d))
 ·simp only [bA, jo, bV]
  exact .inl (.inr (.inr (.inr (.inr (.inr (.inr (.inr (.inr d))))))))
 ·simp only [bC, bV]
  exact .inr d
 ·simp only [bA, bV]
  exact .inr (.inr d)
def Aw(P:Program)(τ:ah)(ops:Array Oper)(s:al):al:=match (ef P τ ops ops.toList.dropLast s fun s=>.done .normal s).fk with
 |some (_,s1)=>s1
 |none=>s
theorem Ax(d:ai P τ){ops:Array Oper}{l:List Oper}{s s1:al}(h:(ef P τ ops l s fun s=>.done .normal s).fk=some (.normal,s1)):eO P τ.pf ops l s.den s1.den:=by
 obtain⟨s',h1,g⟩:=o9 d (pt h);obtain⟨_,rfl⟩:=g;exact h1
end range
end Go.AL
