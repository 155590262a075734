/-
 What is proved here: shapes: states and arguments as data alone (integers,strings,rows),read off abstract states and built from data; what is built says no more than what was read. No program in sight; no condition.
-/
import Derived.Test.YtdabjgppkghiaaaGreatDoorMC
import Derived.Maps.RangeRun
set_option linter.all false
open Bool renaming and_true→fl,and_eq_true→aq,false_eq_true→jO,not_eq_true'→nZ,and_self→pW,eq_false_iff→Xp,or_false→Xr
open Go.Act renaming put→th
open Go.Exit renaming inBlock→xh
open Go.MapKept renaming heap_set→CI
open Go.Value.slice renaming injEq→iM
open Int renaming toNat_natCast→eL
open List renaming length_cons→dZ,append_nil→cV,append_assoc→gq,getElem?_append_left→cn,length_map→eY,mem_map→dJ,getElem?_map→b7,getElem?_eq_getElem→bC,mem_of_getElem?→dK,getElem?_append_right→gI,getElem?_set_self→bd,getElem?_set_ne→aJ,getElem?_set→dy,all_eq_true→cC,getD_eq_getElem?_getD→cD,getElem?_take→ll,mem_cons→bN,map_cons→dg,cons_append→nS,length_append→gu,mem_append→bQ,getElem?_of_mem→lq,all_cons→ls,mem_cons_self→cW,mem_cons_of_mem→da,nodup_cons→gJ,getElem?_inj→xc,range'_succ→CB,range→dV,mem_append_left→kA,any_eq_true→gK,set_append_left→CF,headD_cons→tu,getElem?_cons_succ→Lh,getD_cons_succ→Xo,find?_cons_of_neg→Xq,getElem_mem→pY,mem_filter→n_,mem_append_right→Li
open List.Perm renaming append_left→Xs,refl→pZ
open Nat renaming le_refl→aB,le_add_right→dT,zero_le→fI,lt_or_ge→gr,zero_add→dL,beq→ah,eq_of_beq_eq_true→aR,sub_self→mE,ble→eM,blt→eg,blt_eq→fJ,le_of_ble_eq_true→pX,lt_irrefl→n5
open Option renaming map_eq_some_iff→df,map_some→eZ,getD_some→nW,bind_some→tx
open Option.some renaming injEq→aK,inj→fa
open Prod.mk renaming injEq→aN
namespace Go.AL
open Go
variable [Dr]
inductive dG where
 |int (k:IntKind)|str|bool
 |list (ks:List Kd)|row (ks:List Kd)|cptr (ks:List Kd)
 |nil|any
 |Fy (isNil:Bool)
 |fn (f:FuncId)
 |ptr (j col:Nat)
 |vec (j w:Nat)
 |sub (j w:Nat)
 |pre (j w:Nat)
 |rk (ks:List Kd)
 |map (j:Nat)
 |addr
 |Fz (f:FuncId) (js:List Nat)
 |zl
 deriving Inhabited
inductive Sh where
 |s (a:dG)
 |clo (f:FuncId) (caps:List dG)
 deriving Inhabited
inductive bL where
 |vec (ks:List Kd) (u:Nat)
 |box (cells:List dG)
 |map (K V:Ct)
 |dC (l T B:Nat)
 |aM (l:Nat) (K:Ct) (ks:List Kd)
 |mm (l:Nat) (K KI VI:Ct)
 deriving Inhabited
def bL.gV:bL→Option Nat
 |.dC l _ _=>some l
 |.aM l _ _=>some l
 |.mm l _ _ _=>some l
 |_=>none
def bL.cF:bL→Option Nat
 |.mm l _ _ _=>some l
 |_=>none
def dG.sz:dG→Nat
 |.int _ | .str | .bool | .list _ | .row _ | .cptr _ | .rk _ | .pre _ _ | .addr=>1
 |.sub _ _=>2
 |_=>0
def lY:List dG→Nat
 | []=>0
 |a::as=>a.sz+lY as
def Sh.sz:Sh→Nat
 |.s a=>a.sz
 |.clo _ caps=>lY caps
def zm:List Sh→Nat
 | []=>0
 |a::as=>a.sz+zm as
def bL.sz:bL→Nat
 |.vec _ _=>1
 |.box cells=>lY cells
 |.map _ _=>2
 |.dC _ _ _=>1
 |.aM _ _ _=>2
 |.mm _ _ _ _=>3
def dw:Nat→List G→List G
 |0,d=>d
 |n+1,d=>dw n d.tail
abbrev cB:=List (Nat × Nat)
def cB.len(os:cB)(j:Nat):Nat:=(os.getD j (0,0)).1
def cB.ad(os:cB)(j:Nat):Nat:=(os.getD j (0,0)).2
def nr:List Nat→List AV
 | []=>[]
 |j::js=>.ptr j 0 0 0 0::nr js
def dH(lens:cB):dG→List G→AV
 |.int k,d=>.lit (.int k (d.headD default).int)
 |.str,d=>.lit (.string (d.headD default).str)
 |.bool,d=>.lit (.bool (d.headD default).bool)
 |.list ks,d=>.listF ks (d.headD default).rows
 |.rk ks,d=>.listF ks (d.headD default).rows
 |.row ks,d=>.agg (ax ks (d.headD default).row)
 |.cptr ks,d=>.cptr (ax ks (d.headD default).row)
 |.nil,_=>.lit (.slice none 0 0)
 |.any,_=>.undef
 |.Fy b,_=>.emptyS b
 |.fn f,_=>.clo f []
 |.ptr j col,_=>.ptr j 0 0 0 col
 |.vec j w,_=>.vec w j (lens.ad j) 0 (lens.len j)
 |.sub j w,d=>.vec w j (lens.ad j) (d.headD default).int.toNat (d.tail.headD default).int.toNat
 |.pre j w,d=>.vec w j (lens.ad j) 0 (d.headD default).int.toNat
 |.map j,_=>.map j
 |.addr,d=>.lit (.pointer (some ⟨(d.headD default).int.toNat,0,none⟩))
 |.Fz f js,_=>.clo f (nr js)
 |.zl,_=>.lit .nilIface
def gG(lens:cB):List dG→List G→List AV
 | [],_=>[]
 |a::as,d=>dH lens a d::gG lens as (dw a.sz d)
def nt(lens:cB):Sh→List G→AV
 |.s a,d=>dH lens a d
 |.clo f caps,d=>.clo f (gG lens caps d)
def eA(lens:cB):List Sh→List G→List AV
 | [],_=>[]
 |a::as,d=>nt lens a d::eA lens as (dw a.sz d)
def dQ(lens:cB):bL→List G→af
 |.vec ks u,d=>.vec ks u (d.headD default).rows
 |.box a,d=>.raw (.box (gG lens a d))
 |.map K V,d=>.map K V (d.headD default).rows (d.tail.headD default).int.toNat
 |.dC l T B,d=>.raw (.dC l T B (d.headD default).str)
 |.aM l K ks,d=>.aM l K ks (d.headD default).rows (d.tail.headD default).int.toNat
 |.mm l K KI VI,d=>.mm l K KI VI (d.headD default).rows (d.tail.headD default).rows (d.tail.tail.headD default).int.toNat
theorem oX(lens:cB)(sh:bL)(d:List G):(dQ lens sh d).den.label=sh.gV:=by cases sh<;>rfl
theorem zn(lens:cB)(sh:bL)(d:List G):(dQ lens sh d).den.cF=sh.cF:=by cases sh<;>rfl
def ca(lens:cB):List bL→List G→List af
 | [],_=>[]
 |o::os,d=>dQ lens o d::ca lens os (dw o.sz d)
def j6:List bL→Nat
 | []=>0
 |o::os=>o.sz+j6 os
def bZ:List bL→List G→cB
 | [],_=>[]
 | o::os,d=>(match o with
  |.vec _ u=>((d.headD default).rows.length,u)
  |_=>(0,0))::bZ os (dw o.sz d)
def iZ(H:List af)(e:bx):List Nat→List AV→Bool
 | [],[]=>true
 | j::js,.ptr id ad k row c::vs=>(match H[id]? with
  |some (.raw _)=>ah id (e.at j)&&ah ad 0&&ah k 0&&ah row 0&&ah c 0
  |_=>false)&&iZ H e js vs
 |_,_=>false
def eI(H:List af)(e:bx)(fz:Nat→Bool):dG→AV→Option (Bool × List G)
 |.int k,.lit (.int k' n)=>if k=k' then some (true,[.i n]) else none
 |.str,.lit (.string s)=>some (true,[.s s])
 |.bool,.lit (.bool b)=>some (true,[.t b])
 | .list ks,a=>match kU ks a with
  |some rows=>some (true,[.l rows])
  | none=>match a with
   | .vec w id ad off n=>match H[id]? with
    |some (.vec d v rows)=>if ad=v∧off=0∧w=ks.length∧Kd.fy ks d=true∧fz id=true then some (ah n rows.length,[.l rows]) else none
    |_=>none
   |_=>none
 | .row ks,a=>match zf ks a with
  |some r=>some (true,[.l [r]])
  |none=>none
 | .cptr ks,.cptr cells=>match eU ks cells with
  |some r=>some (true,[.l [r]])
  |none=>none
 | .cptr ks,.ptr id ad _ row col=>match H[id]? with
  | some (.raw (.box cells))=>match eU ks cells with
   |some r=>if ad=0∧row=0∧col=0∧fz id=true then some (true,[.l [r]]) else none
   |none=>none
  |some (.vec d v [r])=>if ad=v∧row=0∧col=0∧Kd.fy ks d=true∧fz id=true then some (true,[.l [r]]) else none
  |_=>none
 |.nil,.lit (.slice none 0 0)=>some (true,[])
 |.any,_=>some (true,[])
 |.fn f,.clo g []=>if f=g then some (true,[]) else none
 | .ptr j col,.ptr id ad k row c=>match H[id]? with
  |some (.raw _)=>if id=e.at j∧ad=0∧k=0∧row=0∧c=col then some (true,[]) else none
  |_=>none
 | .vec j w,.vec w' id ad off n=>match H[id]? with
  |some (.vec _ v rows)=>if w'=w∧id=e.at j∧ad=v∧off=0 then some (ah n rows.length,[]) else none
  |_=>none
 | .sub j w,.vec w' id ad off n=>match H[id]? with
  |some (.vec _ v _)=>if w'=w∧id=e.at j∧ad=v then some (true,[.i off,.i n]) else none
  |_=>none
 | .pre j w,.vec w' id ad off n=>match H[id]? with
  |some (.vec _ v _)=>if w'=w∧id=e.at j∧ad=v∧off=0 then some (true,[.i n]) else none
  |_=>none
 | .rk ks,a=>match kU ks a with
  |some rows=>some (true,[.l rows])
  | none=>match a with
   | .vec w id ad off n=>match H[id]? with
    |some (.vec d v rows)=>if ad=v∧off=0∧w=ks.length∧Kd.fy ks d=true∧fz id=true then some (eM n rows.length,[.l (rows.take n)]) else none
    |_=>none
   |_=>none
 | .map j,.map id=>match H[id]? with
  |some (.map _ _ _ _)=>if id=e.at j then some (true,[]) else none
  |some (.aM _ _ _ _ _)=>if id=e.at j then some (true,[]) else none
  |some (.mm _ _ _ _ _ _ _)=>if id=e.at j then some (true,[]) else none
  |_=>none
 |.addr,.lit (.pointer (some ⟨b,0,none⟩))=>some (true,[.i (b:Nat)])
 |.Fz f js,.clo g vs=>if f=g∧iZ H e js vs=true then some (true,[]) else none
 |.zl,.lit .nilIface=>some (true,[])
 |_,_=>none
def eB(H:List af)(e:bx)(fz:Nat→Bool):List dG→List AV→Option (Bool × List G)
 | [],[]=>some (true,[])
 | sh::d,a::as=>match eI H e fz sh a,eB H e fz d as with
  |some (b,g),some (h,i)=>some (b&&h,g++i)
  |_,_=>none
 |_,_=>none
def i_(H:List af)(e:bx)(fz:Nat→Bool):Sh→AV→Option (Bool × List G)
 |.s a,v=>eI H e fz a v
 |.clo f caps,.clo g vs=>if f=g then eB H e fz caps vs else none
 |_,_=>none
def dx(H:List af)(e:bx)(fz:Nat→Bool):List Sh→List AV→Option (Bool × List G)
 | [],[]=>some (true,[])
 | sh::d,a::as=>match i_ H e fz sh a,dx H e fz d as with
  |some (b,g),some (h,i)=>some (b&&h,g++i)
  |_,_=>none
 |_,_=>none
def fG(H:List af)(e:bx)(fz:Nat→Bool):bL→af→Option (Bool × List G)
 |.vec ks _,.vec b _ rows=>if Kd.fy ks b then some (true,[.l rows]) else none
 |.box d,.raw (.box cells)=>eB H e fz d cells
 |.map K V,.map a k rows clock=>if K.same a&&V.same k then some (true,[.l rows,.i clock]) else none
 |.dC l T B,.raw (.dC l' q r s)=>if (ah l l'&&(ah T q&&ah B r))=true then some (true,[.s s]) else none
 |.aM l K ks,.aM l' a b rows clock=>if (ah l l'&&(K.same a&&Kd.fy ks b))=true then some (true,[.l rows,.i clock]) else none
 |.mm l K KI VI,.mm l' a g h rows mem clock=>if (ah l l'&&(K.same a&&(KI.same g&&VI.same h)))=true then some (true,[.l rows,.l mem,.i clock]) else none
 |_,_=>none
theorem FA{H:List af}{e:bx}{fz:Nat→Bool}{sh:bL}{o:af}{b:Bool}{g:List G}(h:fG H e fz sh o=some (b,g)):o.den.label=sh.gV:=by
 unfold fG at h;split at h
 ·rfl
 ·rfl
 ·rfl
 ·split at h
  ·rename_i hs
   simp only[aq]at hs;have:=aR hs.1;subst this;rfl
  ·cases h
 ·split at h
  ·rename_i hs
   simp only[aq]at hs;have:=aR hs.1;subst this;rfl
  ·cases h
 ·split at h
  ·rename_i hs
   simp only[aq]at hs;have:=aR hs.1;subst this;rfl
  ·cases h
 ·cases h
theorem zo{H:List af}{e:bx}{fz:Nat→Bool}{sh:bL}{o:af}{b:Bool}{g:List G}(h:fG H e fz sh o=some (b,g)):o.den.cF=sh.cF:=by
 unfold fG at h;split at h
 ·rfl
 ·rfl
 ·rfl
 ·rfl
 ·rfl
 ·split at h
  ·rename_i hs
   simp only[aq]at hs;have:=aR hs.1;subst this;rfl
  ·cases h
 ·cases h
def gW(H:List af)(e:bx)(fz:Nat→Bool):List bL→List Nat→Option (Bool × List G)
 | [],[]=>some (true,[])
 | o::os,i::is=>match H[i]? with
  | some t=>match fG H e fz o t,gW H e fz os is with
   |some (b,g),some (a,d)=>some (b&&a,g++d)
   |_,_=>none
  |none=>none
 |_,_=>none
theorem lZ:∀(g rest:List G),dw g.length (g++rest)=rest
 | [],_=>rfl
 |_::g,rest=>lZ g rest
def oY:af→Nat
 |.vec _ v _=>v
 |_=>0
def oZ(H:List af)(id:Nat):Nat:=match H[id]? with
 |some o=>oY o
 |none=>0
def bu(H:List af)(ids:List Nat):bx:=⟨ids,ids.map (oZ H),H.length⟩
structure ve (E0:Env) (lens:cB) (j:Nat) (o:af):Prop where
 ad:o.den.aw = some (oY o)
 obj:∃ o0,E0.H[j]? = some o0∧o0.aw = some (lens.ad j)
 mm:∀ o0,E0.H[j]? = some o0→o0.cF=o.den.cF
 len:∀ ks v rows,o=.vec ks v rows→lens.len j=rows.length
 flat:(∀ ks v rows,o≠.vec ks v rows)→lens.ad j=0
structure gg (H:List af) (e:bx) (fz:Nat→Bool) (lens:cB) (E E0:Env):Prop where
 hH:E.H=ai H
 HE:ak E
 free:∀ i,fz i=true→∀ b n,E.loc[i]? = some (some (b,n))→E0.gy b
 cr:KeepIn e E E0
 obj:∀ j o,H[e.at j]? = some o→j<e.ids.length∧ve E0 lens j o
section cr
variable {H:List af} {e:bx} {fz:Nat→Bool} {lens:cB} {E E0:Env}
theorem ve.past{j:Nat}{o:af}(h:ve E0 lens j o):E0.past j (lens.ad j):=by
 obtain⟨o0,h1,a⟩:=h.obj;exact⟨o0,h1,ab.xn a,fun v b=>by rw[a]at b; cases b; exact aB _⟩
theorem Oy(K:gg H e fz lens E E0){id v n:Nat}{ks:List Kd}{rows:List (List G)}{c:Value}(hid:H[id]? = some (.vec ks v rows))(q:fz id=true)(t:n=rows.length)
  (hr:rel E (.vec ks.length id v 0 n) c):rel E0 (.listF ks rows) c:=by
 subst t;have h:E.H[id]? = some (.vec ks.length v (rows.map (ax ks))):=by rw[K.hH]; exact aU hid
 have a:=K.HE.obj id _ h;rw[gM];simp only[rel]at hr⊢;obtain⟨⟨base,cap,rfl,l,_⟩,_,d⟩:=hr;obtain⟨A,u⟩:=d ⟨_,h,rfl⟩;have i:dW (rows.map (ax ks)):=by
  intro r hr;obtain⟨g,_,rfl⟩:=dJ.1 hr;exact eO ks g
 refine⟨i,base,cap,by simp,by simpa using l,?_⟩;simp only[aD]at a;rcases a with⟨h1,k⟩|⟨b,m,h1,k,d,_,y⟩
 ·exact .inl k
 ·obtain ⟨g1, o, g2, g3⟩ := u b m h1
  by_cases hm:rows=[]
  ·subst hm; exact .inl rfl
  ·right
   have:0<rows.length:=by cases rows with|nil=>exact(hm rfl).elim|cons _ _=>simp
   simp at d;have a:=g2 (by omega);simp at a;subst a;simp only[iM]at g3;exact⟨b,0,g3.1,K.free id q b m h1,jk K.cr.bh _ i (by rw[K.cr.w]) y⟩
theorem Oz(K:gg H e fz lens E E0){id v n:Nat}{ks:List Kd}{rows:List (List G)}{c:Value}(hid:H[id]? = some (.vec ks v rows))(y:fz id=true)(A:n≤rows.length)
  (hr:rel E (.vec ks.length id v 0 n) c):rel E0 (.listF ks (rows.take n)) c:=by
 have h:E.H[id]? = some (.vec ks.length v (rows.map (ax ks))):=by rw[K.hH]; exact aU hid
 have a:=K.HE.obj id _ h;rw[gM];simp only[rel]at hr⊢;obtain⟨⟨base,cap,rfl,u,_⟩,_,d⟩:=hr;obtain⟨D,B⟩:=d ⟨_,h,rfl⟩;have l:dW ((rows.take n).map (ax ks)):=by
  intro r hr;obtain⟨g,_,rfl⟩:=dJ.1 hr;exact eO ks g
 have k:min n rows.length=n:=Nat.min_eq_left A;refine⟨l,base,cap,by simp[k],by simpa[k]using u,?_⟩;simp only[aD]at a;rcases a with⟨h1,q⟩|⟨b,m,h1,q,d,_,t⟩
 ·left
  have:rows=[]:=by simpa using q
  rw[this];simp
 ·obtain ⟨g1, o, g2, g3⟩ := B b m h1
  by_cases hm:n=0
  ·left; rw[hm]; simp
  ·right
   simp at d;have a:=g2 (by omega);simp at a;subst a;simp only[iM]at g3;refine⟨b,0,g3.1,K.free id y b m h1,jk K.cr.bh _ l (by rw[K.cr.w]) ?_⟩;rw[jQ]at t⊢;intro i r hi;simp only[b7,ll]at hi;split at hi
   ·exact t i r (by simpa using hi)
   ·simp at hi
theorem OA(K:gg H e fz lens E E0){id k:Nat}{cells:List AV}{c:Value} (hid:H[id]? = some (.raw (.box cells))) (d:AV.aV cells=true) (h:fz id=true)
  (hr:rel E (.ptr id 0 k 0 0) c):rel E0 (.cptr cells) c:=by
 have a:E.H[id]? = some (.box cells):=by rw[K.hH]; exact aU hid
 have g:=K.HE.obj id _ a;simp only[aD]at g;obtain⟨b,n,h1,q,i⟩:=g;simp only[rel]at hr⊢;obtain⟨_,_,l⟩:=hr;obtain⟨r,t,g1,g2⟩:=l ⟨_,a,rfl⟩;rw[h1]at g1;simp only[aK,aN]at g1;obtain⟨rfl,rfl⟩:=g1;exact⟨d,b,0,by rw[g2]; simp,K.free id h b n h1,od K.cr.bh cells d (by rw[K.cr.w]) i⟩
theorem OB(K:gg H e fz lens E E0){id k v:Nat}{ks:List Kd}{r:List G}{c:Value}(hid:H[id]? = some (.vec ks v [r]))(i:fz id=true)
  (hr:rel E (.ptr id v k 0 0) c):rel E0 (.cptr (ax ks r)) c:=by
 have a:E.H[id]? = some (.vec ks.length v [ax ks r]):=by rw[K.hH]; exact aU hid
 have d:=K.HE.obj id _ a;simp only[aD]at d;simp only[rel]at hr⊢;obtain⟨_,_,l⟩:=hr;obtain⟨q,t,g1,g2⟩:=l ⟨_,a,rfl⟩;rcases d with⟨_,g⟩|⟨b,m,h1,g,u,y,h⟩
 ·cases g
 ·rw [h1] at g1
  simp only[aK,aN]at g1;obtain⟨rfl,rfl⟩:=g1;simp only[bU]at h;exact⟨eO ks r,b,0,by rw[g2]; simp,K.free id i b m h1,od K.cr.bh _ (eO ks r) (by rw[K.cr.w]) h.2.1⟩
theorem FB(K:gg H e fz lens E E0):∀{js:List Nat} {vs:List AV},iZ H e js vs=true→∀ cs,ae E vs cs→ae E0 (nr js) cs
 | [],[],_,cs,hr=>by
  cases cs with
  |nil=>simp[nr,ae]
  |cons _ _=>simp[ae]at hr
 | j::js,v::vs,h,cs,hr=>by
  cases v<;>simp only[iZ,jO]at h<;>try cases h
  rename_i id ad k row c;simp only[aq]at h;obtain⟨h1,g⟩:=h;split at h1
  ·rename_i r hid
   simp only[aq]at h1;obtain⟨⟨⟨⟨a,a2⟩,a3⟩,a4⟩,a5⟩:=h1;have a:=aR a;have a2:=aR a2;have a3:=aR a3;have a4:=aR a4;have a5:=aR a5;subst a a2 a3 a4 a5;cases cs with
   |nil=>simp[ae]at hr
   | cons c cs =>
    simp only[ae]at hr;simp only[nr,ae];refine⟨?_,FB K g cs hr.2⟩;obtain⟨i,b⟩:=K.obj _ _ hid;have l:=b.flat (fun _ _ _ h=>by cases h);have d:=hr.1;simp only[rel]at d⊢;obtain⟨h1,g,q⟩:=d;refine⟨h1,by have:=b.past; rwa [l]at this,fun _=>?_⟩;rw[K.cr.loc _ i];exact q ⟨_,by rw[K.hH]; exact aU hid,b.ad⟩
  ·cases h1
 | [],_::_,h,_,_=>by simp[iZ]at h
 |_::_,[],h,_,_=>by simp[iZ]at h
theorem FC(K:gg H e fz lens E E0){sh:dG}{a:AV}{g:List G}(h:eI H e fz sh a=some (true,g))(rest:List G) :
  g.length=sh.sz∧∀ c,rel E a c→rel E0 (dH lens sh (g++rest)) c:=by
 unfold eI at h;split at h
 ·split at h
  ·rename_i hk
   subst hk;cases h;exact⟨rfl,fun c hr=>by simp only[rel]at hr; subst hr; simp[dH,rel,G.int]⟩
  ·cases h
 ·cases h; exact⟨rfl,fun c hr=>by simp only[rel]at hr; subst hr; simp[dH,rel,G.str]⟩
 ·cases h; exact⟨rfl,fun c hr=>by simp only[rel]at hr; subst hr; simp[dH,rel,G.bool]⟩
 ·split at h
  ·rename_i rows hr
   cases h;exact⟨rfl,fun c b=>cZ K.cr.bh (.listF _ rows) rfl (Fl hr b)⟩
  ·split at h
   ·split at h
    ·rename_i hid
     split at h
     ·rename_i b
      obtain⟨rfl,rfl,rfl,hs,l⟩:=b;simp only[aK,aN]at h;obtain⟨h1,rfl⟩:=h;have hs:=Kd.gE hs;subst hs;exact⟨rfl,fun c hr=>Oy K hid l (aR h1) hr⟩
     ·cases h
    ·cases h
   ·cases h
 ·split at h
  ·rename_i ks a r hr
   cases h;have u:=Fm hr;subst u;exact⟨rfl,fun c b=>cZ K.cr.bh (.agg (ax ks r)) (by simp only[AV.closed,eO]) b⟩
  ·cases h
 ·split at h
  ·rename_i r hr
   cases h;have u:=iV hr;subst u;exact⟨rfl,fun c b=>cZ K.cr.bh (.cptr _) rfl b⟩
  ·cases h
 ·split at h
  ·rename_i hid
   split at h
   ·rename_i r hr
    split at h
    ·rename_i b
     obtain⟨rfl,rfl,rfl,l⟩:=b;cases h;have u:=iV hr;subst u;exact⟨rfl,fun c hr=>OA K hid (eO _ _) l hr⟩
    ·cases h
   ·cases h
  ·rename_i A v r hid
   split at h
   ·rename_i b
    obtain⟨rfl,rfl,rfl,hs,l⟩:=b;cases h;have hs:=Kd.gE hs;subst hs;exact⟨rfl,fun c hr=>OB K hid l hr⟩
   ·cases h
  ·cases h
 ·cases h; exact⟨rfl,fun c hr=>by simpa only[dH,rel]using hr⟩
 ·cases h; exact⟨rfl,fun c hr=>by simp[dH,rel]⟩
 ·split at h
  ·rename_i hk
   subst hk;cases h;exact⟨rfl,fun c hr=>cZ K.cr.bh (.clo _ []) rfl hr⟩
  ·cases h
 ·split at h
  ·rename_i r hid
   split at h
   ·rename_i b
    obtain⟨rfl,rfl,rfl,rfl,rfl⟩:=b;cases h;obtain⟨i,d⟩:=K.obj _ _ hid;have q:=d.flat (fun _ _ _ h=>by cases h);refine⟨rfl,fun c hr=>?_⟩;simp only[rel]at hr;simp only[dH,rel];obtain⟨h1,t,k⟩:=hr;refine⟨h1,by have:=d.past; rwa [q]at this,fun _=>?_⟩;rw[K.cr.loc _ i];exact k ⟨_,by rw[K.hH]; exact aU hid,d.ad⟩
   ·cases h
  ·cases h
 ·split at h
  ·rename_i ks v rows hid
   split at h
   ·rename_i b
    obtain⟨rfl,rfl,rfl,rfl⟩:=b;simp only[aK,aN]at h;obtain⟨h1,rfl⟩:=h;have h1:=aR h1;subst h1;obtain⟨i,d⟩:=K.obj _ _ hid;refine⟨rfl,fun c hr=>?_⟩;simp only[rel]at hr;simp only[dH,rel];rw[d.len _ _ _ rfl];obtain⟨h1,t,k⟩:=hr;refine⟨h1,d.past,fun _=>?_⟩;rw[K.cr.loc _ i];exact k ⟨_,by rw[K.hH]; exact aU hid,d.ad⟩
   ·cases h
  ·cases h
 ·split at h
  ·rename_i ks v rows hid
   split at h
   ·rename_i b
    obtain⟨rfl,rfl,rfl⟩:=b;cases h;obtain⟨i,d⟩:=K.obj _ _ hid;refine⟨rfl,fun c hr=>?_⟩;simp only[rel]at hr;simp only[dH,rel,nS,tu,List.tail_cons,G.int,eL];obtain⟨h1,t,k⟩:=hr;refine⟨h1,d.past,fun _=>?_⟩;rw[K.cr.loc _ i];exact k ⟨_,by rw[K.hH]; exact aU hid,d.ad⟩
   ·cases h
  ·cases h
 ·split at h
  ·rename_i ks v rows hid
   split at h
   ·rename_i b
    obtain⟨rfl,rfl,rfl,rfl⟩:=b;cases h;obtain⟨i,d⟩:=K.obj _ _ hid;refine⟨rfl,fun c hr=>?_⟩;simp only[rel]at hr;simp only[dH,rel,nS,tu,G.int,eL];obtain⟨h1,t,k⟩:=hr;refine⟨h1,d.past,fun _=>?_⟩;rw[K.cr.loc _ i];exact k ⟨_,by rw[K.hH]; exact aU hid,d.ad⟩
   ·cases h
  ·cases h
 ·split at h
  ·rename_i rows hr
   cases h;exact⟨rfl,fun c b=>cZ K.cr.bh (.listF _ rows) rfl (Fl hr b)⟩
  ·split at h
   ·split at h
    ·rename_i hid
     split at h
     ·rename_i b
      obtain⟨rfl,rfl,rfl,hs,l⟩:=b;simp only[aK,aN]at h;obtain⟨h1,rfl⟩:=h;have hs:=Kd.gE hs;subst hs;exact⟨rfl,fun c hr=>Oz K hid l (pX h1) hr⟩
     ·cases h
    ·cases h
   ·cases h
 ·split at h
  ·rename_i w J rows cl hid
   split at h
   ·rename_i b
    subst b;cases h;obtain⟨i,d⟩:=K.obj _ _ hid;have q:=d.flat (fun _ _ _ h=>by cases h);refine⟨rfl,fun c hr=>?_⟩;simp only[rel]at hr;simp only[dH,rel];obtain⟨h1,t,k⟩:=hr;refine⟨h1,by have:=d.past; rwa [q]at this,fun _=>?_⟩;rw[K.cr.loc _ i];exact k ⟨_,by rw[K.hH]; exact aU hid,d.ad⟩
   ·cases h
  ·rename_i y w B rows cl hid
   split at h
   ·rename_i b
    subst b;cases h;obtain⟨i,d⟩:=K.obj _ _ hid;have q:=d.flat (fun _ _ _ h=>by cases h);refine⟨rfl,fun c hr=>?_⟩;simp only[rel]at hr;simp only[dH,rel];obtain⟨h1,t,k⟩:=hr;refine⟨h1,by have:=d.past; rwa [q]at this,fun _=>?_⟩;rw[K.cr.loc _ i];exact k ⟨_,by rw[K.hH]; exact aU hid,d.ad⟩
   ·cases h
  ·rename_i y w D I rows mem cl hid
   split at h
   ·rename_i b
    subst b;cases h;obtain⟨i,d⟩:=K.obj _ _ hid;have q:=d.flat (fun _ _ _ h=>by cases h);refine⟨rfl,fun c hr=>?_⟩;simp only[rel]at hr;simp only[dH,rel];obtain⟨h1,t,k⟩:=hr;refine⟨h1,by have:=d.past; rwa [q]at this,fun _=>?_⟩;rw[K.cr.loc _ i];exact k ⟨_,by rw[K.hH]; exact aU hid,d.ad⟩
   ·cases h
  ·cases h
 ·cases h; exact⟨rfl,fun c hr=>by simp only[rel]at hr; subst hr; simp[dH,rel,G.int]⟩
 ·split at h
  ·rename_i b
   obtain⟨rfl,b⟩:=b;cases h;refine⟨rfl,fun c hr=>?_⟩;simp only[rel]at hr;simp only[dH,rel];obtain⟨cs,r1,r2⟩:=hr;exact⟨cs,r1,FB K b _ r2⟩
  ·cases h
 ·cases h; exact⟨rfl,fun c hr=>by simpa only[dH,rel]using hr⟩
 ·cases h
theorem zp(K:gg H e fz lens E E0):∀{d:List dG} {as:List AV} {g:List G},eB H e fz d as=some (true,g)→∀(rest:List G),
  g.length=lY d∧as.length=d.length∧(gG lens d (g++rest)).length=d.length ∧
   (∀ cs,ae E as cs→ae E0 (gG lens d (g++rest)) cs)∧∀ b o,E0.w.heap[b]? = E.w.heap[b]? → bO E as b o→bO E0 (gG lens d (g++rest)) b o
 | [],[],g,h,rest=>by
  simp only[eB,aK,aN]at h;obtain⟨_,rfl⟩:=h;refine⟨rfl,rfl,rfl,fun cs hr=>?_,fun b o _ hr=>by simp[gG,bO]⟩;cases cs with
  |nil=>simp[gG,ae]
  |cons _ _=>simp[ae]at hr
 | sh::d,a::as,g,h,rest=>by
  simp only[eB]at h;split at h
  ·rename_i b g1 D g2 h1 q
   simp only[aK,aN,aq]at h;obtain⟨⟨rfl,rfl⟩,rfl⟩:=h;obtain⟨p1,k⟩:=FC K h1 (g2++rest);obtain⟨r,t,u,y,A⟩:=zp K q rest;have i:dw sh.sz (g1++(g2++rest))=g2++rest:=by rw[←p1]; exact lZ g1 _
   refine⟨by simp only[lY,gu,p1,r],by simp only[dZ,t],?_,?_,?_⟩
   ·simp only[gG,gq,i,dZ,u]
   ·intro cs hr
    cases cs with
    |nil=>simp[ae]at hr
    | cons c cs =>
     simp only[ae]at hr;simp only[gG,gq,i,ae];exact⟨k c hr.1,y cs hr.2⟩
   ·intro b o l hr
    simp only[bO]at hr;simp only[gG,gq,i,bO];obtain⟨⟨v,r1,r2,r3⟩,B⟩:=hr;exact⟨⟨v,by rw[World.ob l]; exact r1,r2,k v r3⟩,A b (o+1) l B⟩
  ·cases h
 | [],_::_,_,h,_=>by simp[eB]at h
 |_::_,[],_,h,_=>by simp[eB]at h
theorem FD(K:gg H e fz lens E E0){sh:Sh}{a:AV}{g:List G}(h:i_ H e fz sh a=some (true,g))(rest:List G) :
  g.length=sh.sz∧∀ c,rel E a c→rel E0 (nt lens sh (g++rest)) c:=by
 cases sh with
 |s a0=>exact FC K h rest
 | clo f caps =>
  cases a<;>simp only[i_]at h<;>try cases h
  rename_i g1 vs;split at h
  ·rename_i hf
   subst hf;obtain⟨b,i,k,d,l⟩:=zp K h rest;refine⟨b,fun c hr=>?_⟩;simp only[rel]at hr;simp only[nt,rel];obtain⟨cs,r1,r2⟩:=hr;exact⟨cs,r1,d _ r2⟩
  ·cases h
theorem rm(K:gg H e fz lens E E0):∀{d:List Sh} {as:List AV} {g:List G},dx H e fz d as=some (true,g)→∀(rest:List G),
  g.length=zm d∧as.length=d.length∧(eA lens d (g++rest)).length=d.length∧(∀ cs,ae E as cs→ae E0 (eA lens d (g++rest)) cs)
 | [],[],g,h,rest=>by
  simp only[dx,aK,aN]at h;obtain⟨_,rfl⟩:=h;refine⟨rfl,rfl,rfl,fun cs hr=>?_⟩;cases cs with
  |nil=>simp[eA,ae]
  |cons _ _=>simp[ae]at hr
 | sh::d,a::as,g,h,rest=>by
  simp only[dx]at h;split at h
  ·rename_i b g1 v g2 h1 k
   simp only[aK,aN,aq]at h;obtain⟨⟨rfl,rfl⟩,rfl⟩:=h;obtain⟨p1,l⟩:=FD K h1 (g2++rest);obtain⟨q,r,t,u⟩:=rm K k rest;have i:dw sh.sz (g1++(g2++rest))=g2++rest:=by rw[←p1]; exact lZ g1 _
   refine⟨by simp only[zm,gu,p1,q],by simp only[dZ,r],by simp only[eA,gq,i,dZ,t],?_⟩;intro cs hr;cases cs with
   |nil=>simp[ae]at hr
   | cons c cs =>
    simp only[ae]at hr;simp only[eA,gq,i,ae];exact⟨l c hr.1,u cs hr.2⟩
  ·cases h
 | [],_::_,_,h,_=>by simp[dx]at h
 |_::_,[],_,h,_=>by simp[dx]at h
theorem FE(K:gg H e fz lens E E0):∀{l:List Sh} {as:List AV} {g:List G},dx H e fz l as=some (true,g)→∀{rest:List G} {k:Nat} {x v:AV} {c:Value},
  as[k]? = some x→(eA lens l (g++rest))[k]? = some v→rel E x c→rel E0 v c
 | [],[],_,_,_,_,_,_,_,d,_,_=>by simp at d
 | sh::l,a::as,g,h,rest,k,x,v,c,d,i,hr=>by
  simp only[dx]at h;split at h
  ·rename_i b g1 u g2 h1 q
   simp only[aK,aN,aq]at h;obtain⟨⟨rfl,rfl⟩,rfl⟩:=h;obtain⟨p1,r⟩:=FD K h1 (g2++rest);have t:dw sh.sz (g1++(g2++rest))=g2++rest:=by rw[←p1]; exact lZ g1 _
   simp only[eA,gq,t]at i;cases k with
   | zero =>
    simp at d i;subst d;subst i;exact r c hr
   |succ k=>exact FE K q (by simpa using d) (by simpa using i) hr
  ·cases h
 | [],_::_,_,h,_,_,_,_,_,_,_,_=>by simp[dx]at h
 |_::_,[],_,h,_,_,_,_,_,_,_,_=>by simp[dx]at h
theorem FF(K:gg H e fz lens E E0){sh:bL}{o:af}{g:List G}(h:fG H e fz sh o=some (true,g))(rest:List G)
  {j:Nat} (J:j<e.ids.length) (hlab:∀ l,sh.gV=some l→E0.X.r l=E.X.r l) (i:aD E (e.at j) o.den):aD E0 j (dQ lens sh (g++rest)).den:=by
 have t:∀ b:Nat,E0.w.heap[b]? = E.w.heap[b]? := fun b=>by rw[K.cr.w]
 have u:=K.cr.loc j J;unfold fG at h;split at h
 ·split at h
  ·rename_i hs
   cases h;have hs:=Kd.gE hs;subst hs;simp only[dQ,af.den,aD]at i⊢;rcases i with⟨h1,a⟩|⟨b,m,h1,a,d,y,M⟩
   ·exact .inl ⟨by rw[u,h1],a⟩
   ·exact .inr ⟨b,m,by rw[u,h1],oe (t b) a,d,y,jk K.cr.bh _ y (t b) M⟩
  ·cases h
 ·rename_i Y cells
  obtain⟨q1,N,O,q5,R⟩:=zp K h rest;simp only[dQ,af.den,aD]at i⊢;obtain⟨b,n,h1,a,d⟩:=i;exact⟨b,n,by rw[u,h1],by rw[O,←N]; exact oe (t b) a,R b 0 (t b) d⟩
 ·split at h
  ·rename_i hs
   cases h;simp only[aq]at hs;have h1:=Ct.iw hs.1;have a:=Ct.iw hs.2;subst h1;subst a;simp only[dQ,af.den,aD]at i⊢;obtain⟨b,n,ms,h1,a,d⟩:=i;refine⟨b,n,ms,by rw[u,h1],?_,gF K.cr.bh d⟩;rw[t b];simpa[G.int]using a
  ·cases h
 ·rename_i l T B l' T' B' s
  split at h
  ·rename_i hs
   cases h;simp only[aq]at hs;obtain⟨h1,a,d⟩:=hs;have h1:=aR h1;have a:=aR a;have d:=aR d;subst h1 a d;simp only[dQ,af.den,aD]at i⊢;obtain⟨b,n,p,v,k,q,g1,g2,g3,g4,g5,g6⟩:=i;have hr:=hlab l rfl;exact⟨b,n,p,v,k,q,by rw[u,g1],by rw[t b,g2],g3,by rw[hr,g4],by rw[hr]; exact g5,xr (fun g m _=>t g) (by simpa[G.str]using g6)⟩
  ·cases h
 ·rename_i l U ks l' V Yc rows clock
  split at h
  ·rename_i hs
   cases h;simp only[aq]at hs;obtain⟨h1,a,d⟩:=hs;have h1:=aR h1;have a:=Ct.iw a;have d:=Kd.gE d;subst h1 a d;simp only[dQ,af.den,aD]at i⊢;obtain⟨b,n,ms,g1,g2,g3,g4⟩:=i;have hr:=hlab l rfl;refine⟨b,n,ms,by rw[u,g1],?_,gF K.cr.bh g3,p9 (E:=E) (fun h g m hk=>⟨by rw[hr]; exact hk,t g⟩) (fun _ _ _ _ _ A D W I=>jk K.cr.bh _ W D I) g4⟩;rw[t b];simpa[G.int]using g2
  ·cases h
 ·rename_i l U KI VI l' V Yd Ye rows mem clock
  split at h
  ·rename_i hs
   cases h;simp only[aq]at hs;obtain⟨h1,a,d,y⟩:=hs;have h1:=aR h1;have a:=Ct.iw a;have d:=Ct.iw d;have y:=Ct.iw y;subst h1 a d y;simp only[dQ,af.den,aD]at i⊢;obtain⟨b,n,ms,g1,g2,g3,g4⟩:=i;have hr:=hlab l rfl;refine⟨b,n,ms,by rw[u,g1],?_,gF K.cr.bh g3,xw hr (fun _ A _ _=>t A) (fun _ _ _=>gF K.cr.bh) g4⟩;rw[t b];simpa[G.int]using g2
  ·cases h
 ·cases h
end cr
def bL.up:bL→Nat
 |.vec _ u=>u
 |_=>0
theorem zq{H:List af}{e:bx}{fz:Nat→Bool}{lens:cB}{sh:bL}{o:af}{b:Bool}{g d:List G}(h:fG H e fz sh o=some (b,g)) :
  o.den.aw = some (oY o)∧(dQ lens sh d).den.aw = some sh.up∧((∀ ks v rows,o≠.vec ks v rows)→sh.up=0):=by
 unfold fG at h;split at h
 ·exact⟨rfl,rfl,fun a=>(a _ _ _ rfl).elim⟩
 ·exact⟨rfl,rfl,fun _=>rfl⟩
 ·exact⟨rfl,rfl,fun _=>rfl⟩
 ·exact⟨rfl,rfl,fun _=>rfl⟩
 ·exact⟨rfl,rfl,fun _=>rfl⟩
 ·exact⟨rfl,rfl,fun _=>rfl⟩
 ·cases h
theorem OC{H:List af}{e:bx}{fz:Nat→Bool}{sh:dG}{a:AV}{b:Bool}{g:List G}(h:eI H e fz sh a=some (b,g)):g.length=sh.sz:=by
 unfold eI at h;split at h<;>(try split at h)<;>(try split at h)<;>(try split at h)<;>(try split at h)<;>first
  |(cases h; rfl)
  |cases h
theorem FG{H:List af}{e:bx}{fz:Nat→Bool}:∀{d:List dG} {as:List AV} {b:Bool} {g:List G},eB H e fz d as=some (b,g)→g.length=lY d
 | [],[],_,g,h=>by simp[eB]at h; simp[←h.2,lY]
 | sh::d,a::as,b,g,h=>by
  simp only[eB]at h;split at h
  ·rename_i b g1 k g2 h1 i
   simp only[aK,aN]at h;obtain⟨_,rfl⟩:=h;simp only[lY,gu,OC h1,FG i]
  ·cases h
 | [],_::_,_,_,h|_::_,[],_,_,h=>by simp[eB]at h
theorem OD{H:List af}{e:bx}{fz:Nat→Bool}{sh:bL}{o:af}{b:Bool}{g:List G}(h:fG H e fz sh o=some (b,g)):g.length=sh.sz:=by
 unfold fG at h;split at h
 ·split at h
  ·cases h; rfl
  ·cases h
 ·exact FG h
 ·split at h
  ·cases h; rfl
  ·cases h
 ·split at h
  ·cases h; rfl
  ·cases h
 ·split at h
  ·cases h; rfl
  ·cases h
 ·split at h
  ·cases h; rfl
  ·cases h
 ·cases h
theorem rq{H:List af}{e:bx}{fz:Nat→Bool}:∀{os:List bL} {ids:List Nat} {g:List G},gW H e fz os ids=some (true,g)→∀(rest:List G) (lens:cB),
  g.length=j6 os∧ids.length=os.length∧(ca lens os (g++rest)).length=os.length ∧
  (∀ (j : Nat) (sh : bL), os[j]? = some sh → ∃ i o g1 k, ids[j]? = some i ∧ H[i]? = some o ∧ fG H e fz sh o = some (true, g1) ∧ (ca lens os (g ++ rest))[j]? = some (dQ lens sh (g1 ++ k)) ∧
   (bZ os (g++rest)).ad j=sh.up∧∀ ks v rows,o=.vec ks v rows→(bZ os (g++rest)).len j=rows.length)
 | [],[],g,h,rest,lens=>by
  simp only[gW,aK,aN]at h;obtain⟨_,rfl⟩:=h;exact⟨rfl,rfl,rfl,fun j sh a=>by simp at a⟩
 | sh::os,i::ids,g,h,rest,lens=>by
  simp only[gW]at h;split at h
  case h_2=>cases h
  rename_i o t;split at h
  ·rename_i b g1 N g2 h1 u
   simp only[aK,aN,aq]at h;obtain⟨⟨rfl,rfl⟩,rfl⟩:=h;obtain⟨w,y,A,B⟩:=rq u rest lens;have l:=OD h1;have d:dw sh.sz (g1++(g2++rest))=g2++rest:=by rw[←l]; exact lZ g1 _
   refine⟨by simp only[j6,gu,l,w],by simp only[dZ,y],by simp only[ca,gq,d,dZ,A],fun j q a=>?_⟩;cases j with
   | zero =>
    simp at a;subst a;refine⟨i,o,g1,g2++rest,rfl,t,h1,by simp only[ca,gq,List.getElem?_cons_zero],?_,?_⟩
    ·unfold bZ cB.ad
     cases sh<;>rfl
    ·rintro ks v rows rfl
     unfold fG at h1;split at h1
     ·rename_i heq
      cases heq;split at h1
      ·cases h1
       simp[bZ,cB.len,G.rows]
      ·cases h1
     ·rename_i heq; cases heq
     ·rename_i heq; cases heq
     ·rename_i heq; cases heq
     ·rename_i heq; cases heq
     ·rename_i heq; cases heq
     ·cases h1
   | succ j =>
    obtain⟨D,o',r,k,r1,r2,r3,I,J,M⟩:=B j q (by simpa using a);refine⟨D,o',r,k,by simpa using r1,r2,r3,by simpa only[ca,gq,d,Lh]using I,?_,?_⟩
    ·simpa only[bZ,cB.ad,gq,d,Xo]using J
    ·simpa only[bZ,cB.len,gq,d,Xo]using M
  ·cases h
 | [],_::_,_,h,_,_=>by simp[gW]at h
 |_::_,[],_,h,_,_=>by simp[gW]at h
end Go.AL

namespace Go.AL
open Go
variable [Dr]
abbrev o9(a b:Bool):Bool:=Bool.casesOn a false b
theorem o_{a b:Bool}:o9 a b=true↔a=true∧b=true:=by cases a<;>simp
open Classical in
noncomputable def kV(E:Env)(H0:List ab)(l:Nat):List (Option (Option (Nat × Nat))):=if ∃(j:Nat) (o:ab),H0[j]? = some o∧o.label=some l then E.X.r l else (E.X.r l).map fun _=>none
theorem OE{E:Env}{H0:List ab}{l j:Nat}{o:ab}(h:H0[j]? = some o)(a:o.label=some l):kV E H0 l=E.X.r l:=if_pos ⟨j,o,h,a⟩
theorem vf{E:Env}{H0:List ab}{l h:Nat}{q:Option (Nat × Nat)}(a:(kV E H0 l)[h]? = some (some q)):(E.X.r l)[h]? = some (some q)∧∃(j:Nat) (o:ab),H0[j]? = some o∧o.label=some l:=by
 unfold kV at a;split at a
 ·rename_i d
  exact⟨a,d⟩
 ·rw [b7] at a
  cases b:(E.X.r l)[h]? with
  |none=>rw[b]at a; cases a
  |some y=>rw[b]at a; cases a
theorem OF(E:Env)(H0:List ab)(l:Nat):(kV E H0 l).length=(E.X.r l).length:=by
 unfold kV;split
 ·rfl
 ·simp
noncomputable def gh(E:Env)(H0:List ab)(ids:List Nat):Env:=⟨E.w,H0,ids.map fun i=>E.loc.getD i none,E.X.re (kV E H0)⟩
theorem FH(E:Env)(H0:List ab)(ids:List Nat):∀ l h,h<(E.X.r l).length→h<((gh E H0 ids).X.r l).length∧∀ q,((gh E H0 ids).X.r l)[h]? = some (some q)→(E.X.r l)[h]? = some (some q) :=
 fun l h a=>⟨by show h<(kV E H0 l).length; rw[OF]; exact a,fun q b=>(vf (E:=E) (H0:=H0) b).1⟩
theorem FI{E:Env}{H0:List ab}{ids:List Nat}{b:Nat}(h:(gh E H0 ids).own b):E.own b:=by
 rcases h with⟨j,c,d⟩|⟨l,k,c,d⟩
 ·simp only [gh, b7] at d
  obtain⟨i,_,a⟩:=df.1 d;rw[cD]at a;cases he:E.loc[i]? with
  |none=>rw[he]at a; cases a
  |some y=>rw[he]at a; simp at a; exact .inl ⟨i,c,by rw[he,a]⟩
 ·exact .inr ⟨l,k,c,(vf d).1⟩
def gj(ids:List Nat)(i:Nat):Bool := !ids.any (ah i)
theorem FJ{ids:List Nat}{i:Nat}(h:gj ids i=true):i∉ids:=by
 intro hm;have:ids.any (ah i)=true:=gK.2 ⟨i,hm,by simp⟩;simp[gj,this]at h
theorem FL{E:Env}{H:List af}(hH:E.H=ai H)(HE:ak E){ids:List Nat}(hn:ids.Nodup){os:List bL}{g:List G}(h:gW H (bu H ids) (gj ids) os ids=some (true,g))(rest:List G) :
  gg H (bu H ids) (gj ids) (bZ os (g++rest)) E (gh E (ai (ca (bZ os (g++rest)) os (g++rest))) ids) ∧
   ak (gh E (ai (ca (bZ os (g++rest)) os (g++rest))) ids):=by
 obtain⟨p0,p1,p2,p3⟩:=rq h rest (bZ os (g++rest));generalize A:gh E (ai (ca (bZ os (g++rest)) os (g++rest))) ids=E0;have Yh:E.loc.length=H.length:=by rw[HE.len,hH,dA]
 have Yk:(bu H ids).ids=ids:=rfl;have R:∀ j x,E0.loc[j]? = some x→j<ids.length∧∃ i,ids[j]? = some i∧E.loc.getD i none=x:=by
  intro j x u;rw[←A]at u;simp only[gh,b7]at u;obtain⟨i,h1,t⟩:=df.1 u;exact⟨az h1,i,h1,t⟩
 have getD_some:∀{i:Nat} {x:Nat × Nat},E.loc.getD i none=some x→E.loc[i]? = some (some x):=by
  intro i x u;rw[cD]at u;cases he:E.loc[i]? with
  |none=>rw[he]at u; cases u
  |some y=>rw[he]at u; simp at u; rw[u]
 have Yi:∀ b,E0.own b→E.own b:=by
  rintro b (⟨j,c,a⟩|⟨l,k,c,a⟩)
  ·obtain ⟨_, i, _, t⟩ := R j _ a
   exact .inl ⟨i,c,getD_some t⟩
  ·rw [← A] at a
   exact .inr ⟨l,k,c,(vf a).1⟩
 have hw:E0.w=E.w:=by rw[←A]; rfl
 have U:E0.X.x=E.X.x:=by rw[←A]; rfl
 have O:∀(l k:Nat) q,(E0.X.r l)[k]? = some (some q)→(E.X.r l)[k]? = some (some q)∧∃(j:Nat) (o:ab),E0.H[j]? = some o∧o.label=some l:=fun l k q hq=>by
  rw[←A]at hq⊢;exact vf hq
 have Yc:∀ j,j<ids.length→ids[j]? = some ((bu H ids).at j):=fun j a=>fE (e:=bu H ids) a;have Y:∀ j,j<ids.length→∃ sh o g1 D,os[j]? = some sh∧H[(bu H ids).at j]? = some o∧fG H (bu H ids) (gj ids) sh o=some (true,g1) ∧
   (ca (bZ os (g++rest)) os (g++rest))[j]? = some (dQ (bZ os (g++rest)) sh (g1++D)) ∧
   (bZ os (g++rest)).ad j=sh.up∧∀ ks v rows,o=.vec ks v rows→(bZ os (g++rest)).len j=rows.length:=by
  intro j a;have Yf:j<os.length:=by omega
  obtain⟨i,o,g1,D,V,I,M,J,W,q6⟩:=p3 j os[j] (bC Yf);rw[Yc j a]at V;cases V;exact⟨os[j],o,g1,D,bC Yf,I,M,J,W,q6⟩
 have hK:gg H (bu H ids) (gj ids) (bZ os (g++rest)) E E0:=by
  refine⟨hH,HE,fun i hi b n N=>?_,⟨fun b N=>⟨⟨by rw[hw]; exact N.1,fun B=>N.2.1 (Yi b B),by rw[U]; exact N.2.2⟩,by rw[hw]⟩,hw,fun j a=>?_,fun j o l h1 t=>by rw[←A]at h1⊢; exact OE h1 t⟩,fun j o B=>?_⟩
  ·refine ⟨by rw [hw]; exact (HE.lt _ _ _ N).1, ?_, by rw [U]; exact (HE.lt _ _ _ N).2⟩
   rintro(⟨j,c,a⟩|⟨l,k,c,a⟩)
   case inr=>exact HE.cd _ _ _ _ _ _ N (O l k _ a).1
   obtain⟨_,i',h1,t⟩:=R j _ a;have:=HE.inj _ _ _ _ _ N (getD_some t);subst this;exact FJ hi (dK h1)
  ·rw [← A]
   simp only[gh,b7,Yc j a,eZ];have Yd:(bu H ids).at j<E.loc.length:=by
    obtain⟨sh,o,g1,D,_,I,_⟩:=Y j a;rw[Yh];exact az I
   rw[cD,bC Yd];rfl
  ·have a:j<ids.length:=by
    rcases gr j ids.length with Yd|Yj
    ·exact Yd
    ·have h1 := az B
     have t:=oW (e:=bu H ids) Yj;have h3:(bu H ids).base=H.length:=rfl;omega
   refine⟨a,?_⟩;obtain⟨sh,o',g1,D,V,I,M,J,W,q6⟩:=Y j a;rw[B]at I;cases I;obtain⟨r1,r2,r3⟩:=zq (lens:=bZ os (g++rest)) (d:=g1++D) M;have Yg:E0.H[j]? = some (dQ (bZ os (g++rest)) sh (g1++D)).den:=by
    rw[←A];exact aU J
   exact⟨r1,⟨_,Yg,by rw[W]; exact r2⟩,fun o0 h0=>by rw[Yg]at h0; cases h0; rw[zn,zo M],q6,fun hv=>by rw[W]; exact r3 hv⟩
 have Ye:∀(j:Nat) o,E0.H[j]? = some o→j<ids.length∧∃ o',E.H[(bu H ids).at j]? = some o'∧o'.label=o.label:=fun j o B=>by
  rw[←A]at B;simp only[gh,ai,b7]at B;obtain⟨o',h1,rfl⟩:=df.1 B;have a:j<ids.length:=by
   have:=az h1;omega
  obtain⟨sh,oo,g1,D,V,I,M,J,_⟩:=Y j a;rw[h1]at J;cases J;exact⟨a,oo.den,by rw[hH]; exact aU I,by rw[FA M,oX]⟩
 refine⟨hK,?_,?_,?_,fun b u=>?_,fun j o B=>?_,HE.dX.bh hK.cr.bh,fun l k l' k' b m n h1 t=>HE.dD l k l' k' b m n (O _ _ _ h1).1 (O _ _ _ t).1,fun i b m l k n hi t=>?_,fun l k b m h1=>by rw[hw,U]; exact HE.bR l k b m (O _ _ _ h1).1,fun i j o o' l hi a h1 t=>?_,fun l hn k q hq=>?_⟩
 ·rw [← A]
  simp only[gh,eY,dA,p2,p1]
 ·intro i j b m n hi a
  obtain⟨i1,i2,i3,i4⟩:=R i _ hi;obtain⟨j1,j2,j3,j4⟩:=R j _ a;have:=HE.inj _ _ _ _ _ (getD_some i4) (getD_some j4);subst this;exact(xc i1 hn).1 (by rw[i3,j3])
 ·intro i b m hi
  obtain⟨_,i2,_,i4⟩:=R i _ hi;rw[hw,U];exact HE.lt _ _ _ (getD_some i4)
 ·rw [hw]
  rw[U]at u;exact HE.X b u
 ·rw [← A] at B
  simp only[gh,ai,b7]at B;obtain⟨o',h1,rfl⟩:=df.1 B;have a:j<ids.length:=by
   have:=az h1;omega
  obtain⟨sh,oo,g1,D,V,I,M,J,W,q6⟩:=Y j a;rw[h1]at J;cases J;refine FF hK M D (by exact a) (fun l hl=>?_) (HE.obj _ _ (by rw[hH]; exact aU I));refine hK.cr.gV j (dQ (bZ os (g++rest)) sh (g1++D)).den l ?_ (by rw[oX,hl]);rw[←A];exact aU h1
 ·obtain ⟨_, i', _, h3⟩ := R i _ hi
  exact HE.cd _ _ _ _ _ _ (getD_some h3) (O _ _ _ t).1
 ·obtain ⟨i1, oi, a1, a2⟩ := Ye i o hi
  obtain⟨j1,oj,b1,b2⟩:=Ye j o' a;have:=HE.uniq _ _ _ _ l a1 b1 (by rw[a2,h1]) (by rw[b2,t]);exact(xc i1 hn).1 (by rw[Yc i i1,Yc j j1,this])
 ·obtain ⟨_, j, o, h1, t⟩ := O l k q hq
  exact hn j o h1 t
def nodupB:List Nat→Bool
 | []=>true
 |i::is => !is.any (ah i)&&nodupB is
theorem nu:∀{l:List Nat},nodupB l=true→l.Nodup
 | [],_=>List.nodup_nil
 | i::is,h=>by
  simp only[nodupB,aq,nZ]at h;refine gJ.2 ⟨fun hm=>?_,nu h.2⟩;have:is.any (ah i)=true:=gK.2 ⟨i,hm,by simp⟩;rw[h.1]at this;cases this
def kW(H:List af):Nat→Nat→List Nat→List bL→Bool
 |_,0,_,_=>true
 |i,m+1,id::ids,o::os=>ah id i&&((ah (oZ H i) 0 || !ah o.up 0)&&kW H (i+1) m ids os)
 |_,_,_,_=>false
theorem vg{H:List af}:∀{i m:Nat} {ids:List Nat} {os:List bL},kW H i m ids os=true→∀ j,j<m→ids[j]? = some (i+j)∧∃ o,os[j]? = some o∧(oZ H (i+j)=0∨o.up≠0)
 |_,0,_,_,_,j,b=>by omega
 | i,m+1,id::ids,o::os,h,j,b=>by
  simp only[kW,aq,Bool.or_eq_true,nZ]at h;obtain⟨h1,a,d⟩:=h;have h1:=aR h1;subst h1;cases j with
  | zero =>
   refine⟨rfl,o,rfl,?_⟩;rcases a with a|a
   ·exact .inl (aR a)
   ·right
    intro e;rw[e]at a;cases a
  | succ j =>
   have:=vg d j (by omega);rw[show id+1+j=id+(j+1) from by omega]at this;simpa using this
 |_,_+1,[],_,h,_,_=>by simp[kW]at h
 |_,_+1,_::_,[],h,_,_=>by simp[kW]at h
theorem FM{E:Env}{H:List af}(hH:E.H=ai H){ids:List Nat}{os:List bL}{m:Nat}{lens:cB}{E0:Env}(k:gg H (bu H ids) (gj ids) lens E E0)(D:E0.X.x=E.X.x∧E0.X.z=E.X.z)
  (O:∀ l h,h<(E.X.r l).length→h<(E0.X.r l).length∧∀ q,(E0.X.r l)[h]? = some (some q)→(E.X.r l)[h]? = some (some q))
  (R:kW H 0 m ids os=true) (M:∀ j,j<m→∃ o sh,H[(bu H ids).at j]? = some o∧os[j]? = some sh∧lens.ad j=sh.up) (N:∀ b,E0.own b→E.own b):E.cO m E0:=by
 have key:∀ id,id<m→(bu H ids).at id=id∧∃ o sh,H[id]? = some o∧os[id]? = some sh∧lens.ad id=sh.up∧(oY o=0∨sh.up≠0)∧ve E0 lens id o∧id<ids.length:=by
  intro id hid;obtain⟨h1,o',A,t⟩:=vg R id hid;rw[dL]at h1 t;have y:=az h1;have d:=fE (e:=bu H ids) (j:=id) y;rw[show (bu H ids).ids=ids from rfl,h1]at d;have d:=(fa d).symm;obtain⟨o,sh,a,g,u⟩:=M id hid;obtain⟨r1,r2⟩:=k.obj id o a;rw[d]at a;rw[A]at g;have g:=fa g;rw[←g]at u;refine⟨d,o,o',a,A,u,?_,r2,y⟩;rcases t with t|t
  ·left
   simpa[oZ,a]using t
  ·exact .inr t
 refine⟨fun id hid U=>?_,by rw[k.cr.w]; exact aB _,fun b _ _=>by rw[k.cr.w],fun b _ V W=>V (N b W),fun id hid U Y=>?_,fun b _=>by rw[D.1,D.2]; exact⟨Iff.rfl,Iff.rfl⟩,O,by rw[k.cr.w]; exact⟨rfl,rfl,rfl,by first|exact fun _=>aB _|exact fun _=>dT _ _⟩,fun id hid l o h1 A _=>?_⟩
 rotate_right
 ·obtain ⟨d, o1, sh, a, g, u, B, i, y⟩ := key id hid
  obtain⟨o0,r1,r2⟩:=i.obj;rw[hH,aU a]at h1;cases h1;have hm:=i.mm o0 r1;rw[A]at hm;exact⟨⟨[],by rw[cV]; exact k.cr.gV id o0 l r1 (ab.jh hm)⟩,o0,r1,hm⟩
 ·obtain ⟨_, o, sh, a, g, u, B, i, _⟩ := key id hid
  obtain⟨o0,r1,r2⟩:=i.obj;exact⟨o0,r1,ab.xn r2,fun v _=>fI v⟩
 ·obtain ⟨d, o, sh, a, g, u, B, i, y⟩ := key id hid
  obtain⟨o0,r1,r2⟩:=i.obj;obtain⟨o1,r3,I⟩:=Y;rw[r1]at r3;cases r3;rw[r2]at I;have J:lens.ad id=0:=fa I;rw[u]at J;have hv:oY o=0:=B.resolve_right (fun h=>h J);refine⟨⟨o.den,by rw[hH]; exact aU a,by rw[i.ad,hv]⟩,?_⟩;have:=k.cr.loc id y;rw[d]at this;exact this
structure j7 where
 n:Nat
 rr:List (Nat × Sh)
 b6:List bL
def pb:Nat→List (Nat × Sh)→List AV→AV
 | i,(j,_)::a,v::vs=>match ah i j with
  |true=>v
  |false=>pb i a vs
 |_,_,_=>.undef
def aI(S:j7)(d:List G):aj :=
 ⟨(dV S.n).map fun i=>pb i S.rr (eA (bZ S.b6 d) (S.rr.map (·.2)) (dw (j6 S.b6) d)),ca (bZ S.b6 d) S.b6 d⟩
def zt(m:Nat)(S:j7)(ids:List Nat)(s:aj):Option (Bool × List G) :=
 match ah s.fr.length S.n&&(nodupB ids&&kW s.H 0 m ids S.b6)with
 |false=>none
 | true=>match gW s.H (bu s.H ids) (gj ids) S.b6 ids,dx s.H (bu s.H ids) (gj ids) (S.rr.map (·.2)) (S.rr.map fun p=>s.fr.getD p.1 .undef) with
  |some (b,g),some (a,d)=>some (b&&a,g++d)
  |_,_=>none
theorem FN{E:Env}:∀{a:List (Nat × Sh)} {vs:List AV} {cs:List Value} {i:Nat} {c:Value},(∀(k:Nat) (p:Nat × Sh) (v:AV),a[k]? = some p→vs[k]? = some v→∀ c,cs[p.1]? = some c→rel E v c)→cs[i]? = some c →
  rel E (pb i a vs) c
 | [],_,_,_,_,_,_=>by simp[pb,rel]
 |_::_,[],_,_,_,_,_=>by simp[pb,rel]
 | (j,sh)::a,v::vs,cs,i,c,h,b=>by
  simp only[pb];split
  ·rename_i e
   have e:=aR e;subst e;exact h 0 (i,sh) v rfl rfl c b
  ·exact FN (fun k p v hk d=>h (k+1) p v (by simpa using hk) (by simpa using d)) b
theorem OG{m:Nat}{S:j7}{ids:List Nat}{s:aj}{d:List G}(h:zt m S ids s=some (true,d)):a7 m s.den (aI S d).den:=fun E a hs=>by
 unfold zt at h;split at h
 ·cases h
 rename_i l;simp only[aq]at l;obtain⟨hlen,r,w⟩:=l;have hlen:=aR hlen;have r:=nu r;split at h
 case h_2=>cases h
 rename_i b g b' q h1 B;simp only[aK,aN,aq]at h;obtain⟨⟨rfl,rfl⟩,rfl⟩:=h;have hH:E.H=ai s.H:=hs.H;obtain⟨u,I⟩:=FL hH hs.heap r h1 q;obtain⟨p0,p1,p2,O⟩:=rq h1 q (bZ S.b6 (g++q));have R:dw (j6 S.b6) (g++q)=q:=by rw[←p0]; exact lZ g q
 have D:=rm u B [];rw[cV]at D;obtain⟨q1,q2,q3,q4⟩:=D;refine⟨ids.map fun i=>E.loc.getD i none,E.X.re (kV E (aI S (g++q)).den.H),⟨rfl,?_,hs.defers,I⟩,?_⟩
 ·have J : ae E s.fr a.tmps.toList := hs.fr
  obtain⟨f1,f2⟩:=kB.1 J;refine kB.2 ⟨?_,fun i x c hi l=>?_⟩
  ·simp only [aj.den, aI, eY, List.length_range]
   omega
  ·simp only [aj.den, aI, R, b7] at hi
   obtain⟨i',t,rfl⟩:=df.1 hi;have M:i<S.n:=by
    have:=az t;simpa using this
   rw[List.getElem?_range M]at t;cases t;refine FN (cs:=a.tmps.toList) (fun k p v hk U c l=>?_) l;have N:(S.rr.map fun p=>s.fr.getD p.1 .undef)[k]? = some (s.fr.getD p.1 .undef):=by simp[hk]
   have V:rel E (s.fr.getD p.1 .undef) c:=by
    have y:=az l;rw[←f1]at y;have W:s.fr[p.1]? = some (s.fr.getD p.1 .undef):=by
     rw[cD,bC y];rfl
    exact f2 p.1 _ c W l
   exact FE u B N (by rw[cV]; exact U) V
 ·exact FM hH u ⟨rfl,rfl⟩ (FH E _ ids) w (fun j Y=>by
   obtain⟨r1,o',r2,_⟩:=vg w j Y;obtain⟨i,o,g1,Yc,t1,t2,t3,t4,t5,t6⟩:=O j o' r2;have A:=fE (e:=bu s.H ids) (j:=j) (az t1);rw[show (bu s.H ids).ids=ids from rfl,t1]at A;cases A;exact⟨o,o',t2,r2,t5⟩) (fun b=>FI)
/-! ### b array under a slice, cut to d slice -/
def zu(slot:Nat)(s:aj):aj :=
 match s.fr.getD slot .undef with
 | .vec w id ad off n=>match s.H[id]? with
  |some (.vec ks v rows)=>if ad=v∧off=0∧w=ks.length then ⟨s.fr.set slot (.vec w id (v+1) 0 n),s.H.set id (.vec ks (v+1) (rows.take n))⟩ else s
  |_=>s
 |_=>s
theorem vh{E:Env}{a:AV}:∀{fr:List AV} {cs:List Value} {i:Nat},ae E fr cs→(∀ c,cs[i]? = some c→rel E a c)→ae E (fr.set i a) cs
 | [],cs,i,h,_=>by simpa using h
 |x::fr,[],i,h,_=>by simp[ae]at h
 | x::fr,c::cs,0,h,b=>by
  simp only[ae]at h;simp only[List.set_cons_zero,ae];exact⟨b c rfl,h.2⟩
 | x::fr,c::cs,i+1,h,b=>by
  simp only[ae]at h;simp only[List.set_cons_succ,ae];exact⟨h.1,vh h.2 fun y d=>b y (by simpa using d)⟩
theorem zw{E:Env}{fr:List AV}{cs:List Value}{i:Nat}{c:Value}(h:ae E fr cs)(b:cs[i]? = some c):rel E (fr.getD i .undef) c:=by
 obtain⟨h1,d⟩:=kB.1 h;have a:=az b;rw[←h1]at a;have g:fr[i]? = some (fr.getD i .undef):=by
  rw[cD,bC a];rfl
 exact d i _ c g b
theorem OH{m:Nat}{slot:Nat}{s:aj}:a7 m s.den (zu slot s).den:=by
 unfold zu;split
 case h_2=>exact a7.refl _
 rename_i w id ad off n R;split
 case h_2=>exact a7.refl _
 rename_i ks v rows hid;split
 case isFalse=>exact a7.refl _
 rename_i q;obtain⟨rfl,rfl,rfl⟩:=q;intro E a hs;have hH:E.H=ai s.H:=hs.H;have k:E.H[id]? = some (.vec ks.length ad (rows.map (ax ks))):=by rw[hH]; exact aU hid
 have N:=hs.heap.obj id _ k;obtain⟨l,t⟩:∃ l,E.loc[id]? = some l:=by
  have:id<E.loc.length:=by rw[hs.heap.len]; exact az k
  exact⟨_,bC this⟩
 have D:E.loc.set id l=E.loc:=jW t;have B:ai (s.H.set id (.vec ks (ad+1) (rows.take n)))=E.H.set id (.vec ks.length (ad+1) ((rows.take n).map (ax ks))):=by rw[cI,hH]; rfl
 have U:∀ b n,l=some (b,n)→E.w.heap.size≤b∨∃ m,E.loc[id]? = some (some (b,m)):=fun b n y=>.inr ⟨n,by rw[t,y]⟩;have I:∀ v u,(ab.vec ks.length (ad+1) ((rows.take n).map (ax ks))).aw = some v→(ab.vec ks.length ad (rows.map (ax ks))).aw = some u→u≤v:=by
  intro v u h1 d;simp[ab.aw]at h1 d;omega
 have J:∀ v,(ab.vec ks.length (ad+1) ((rows.take n).map (ax ks))).aw = some v→∀ u,(ab.vec ks.length ad (rows.map (ax ks))).aw = some u→u<v:=by
  intro v h1 u d;simp[ab.aw]at h1 d;omega
 have hle:=Env.im (o':=.vec ks.length (ad+1) ((rows.take n).map (ax ks))) (l:=l) (w':=E.w) k hs.heap.len (aB _) (fun _ _ _=>rfl) U (.inr J) I (fun _ h=>by simp[ab.aw]at h);have M:=ak.jm (o':=.vec ks.length (ad+1) ((rows.take n).map (ax ks))) (l:=l) (w':=E.w) hs.heap k (aB _) (fun _ _ _=>rfl) (fun b n y=>.inr ⟨n,by rw[t,y]⟩) (.inr J) I (fun _ h=>by simp[ab.aw]at h) (by
  rw[D]at hle⊢;simp only[aD]at N⊢;rcases N with⟨h1,d⟩|⟨b,mm,h1,d,A,W,O⟩
  ·left
   refine⟨h1,?_⟩;have:rows=[]:=by simpa using d
   rw[this];simp
  ·right
   refine⟨b,mm,h1,d,by simp at A⊢; omega,?_,?_⟩
   ·intro r hr
    obtain⟨g,_,rfl⟩:=dJ.1 hr;exact eO ks g
   ·rw [jQ] at O ⊢
    intro i r hi;simp only[b7,ll]at hi;split at hi
    ·obtain ⟨g1, g2⟩ := O i r (by simpa using hi)
     exact⟨g1,p_ (fun a c hr=>bA hle a hr) rfl g2⟩
    ·simp at hi)
 rw[D]at hle M;refine⟨E.loc,E.X,?_,?_⟩
 ·simp only [aj.den]
  rw[B];refine⟨rfl,?_,hs.defers,M⟩;refine vh (cR hle _ hs.fr) fun c q=>?_;have hr:=zw hs.fr q;rw[show s.den.fr=s.fr from rfl,R]at hr;simp only[rel]at hr⊢;obtain⟨h1,d,A⟩:=hr;exact⟨h1,⟨.vec ks.length (ad+1) ((rows.take n).map (ax ks)),bd (az k),rfl,fun v V=>by simp[ab.aw]at V; omega⟩,fun _=>A ⟨_,k,rfl⟩⟩
 ·simp only [aj.den]
  rw[B];exact hle.toM
end Go.AL

namespace Go.AL
open Go
variable [Dr]
def Tree.leaf{β:Type}(f:bt→aj→Option (Bool × β)):Tree→Option β
 |.fail=>none
 | .done x s=>match f x s with
  |some (b,r)=>bif b then some r else none
  |none=>none
 |.ask b t e=>bif b then t.leaf f else e.leaf f
 |.side b t=>bif b then t.leaf f else none
theorem kX{β:Type}{f:bt→aj→Option (Bool × β)}:∀{t:Tree} {r:β},t.leaf f=some r→t.holds fun x s=>f x s=some (true,r)
 |.fail,_,h=>by cases h
 | .done x s,r,h=>by
  simp only[Tree.leaf]at h;split at h
  ·rename_i b r' hf
   cases b with
   |true=>cases h; exact hf
   |false=>cases h
  ·cases h
 | .ask b t e,r,h=>by
  cases b with
  |true=>exact⟨fun _=>kX (t:=t) h,fun h=>by cases h⟩
  |false=>exact⟨fun h=>(nomatch h),fun _=>kX (t:=e) h⟩
 | .side b t,r,h=>by
  cases b with
  |true=>exact And.intro rfl (kX (t:=t) h)
  |false=>cases h
inductive gX where
 |fix (i:Nat)
 |slot (i:Nat)
 |cap (i c:Nat)
 |cell (j c:Nat)
 |zx (j c k:Nat)
def vj:AV→Option Nat
 |.ptr id _ _ _ _=>some id
 |.vec _ id _ _ _=>some id
 |.map id=>some id
 |_=>none
def vk(H:List af)(vals:Nat→AV)(acc:List Nat):gX→Option Nat
 |.fix i=>some i
 |.slot i=>vj (vals i)
 | .cap i c=>match vals i with
  |.clo _ cs=>vj (cs.getD c .undef)
  |_=>none
 | .cell j c=>match H[acc.getD j 0]? with
  |some (.raw (.box cells))=>vj (cells.getD c .undef)
  |_=>none
 | .zx j c k=>match H[acc.getD j 0]? with
  | some (.raw (.box cells))=>match cells.getD c .undef with
   |.clo _ cs=>vj (cs.getD k .undef)
   |_=>none
  |_=>none
def gY(H:List af)(vals:Nat→AV):List gX→List Nat→Option (List Nat)
 | [],acc=>some acc
 | p::ps,acc=>match vk H vals acc p with
  |some i=>gY H vals ps (acc++[i])
  |none=>none
/-! ### a -/
structure l4 where
 x:bt
 S:j7
 ps:List gX
structure bI where
 key:Nat
 opens:List (Nat × List Kd)
 inv:j7
 ps:List gX
 outs:List l4
 st:List G→Option (Option Nat × List G)
def nv(st:List G→Option (Option Nat × List G)):Nat→List G→Option (Nat × List G)
 |0,_=>none
 | n+1,d=>match st d with
  |some (none,d')=>nv st n d'
  |some (some x,d')=>some (x,d')
  |none=>none
def cf(st:List G→Option (Option Nat × List G))(d:List G):Option (Nat × List G):=nv st 1000000 d
def zy(r:Option (Nat × List G)):Nat:=match r with
 |some (x,_)=>x
 |none=>0
def zz(r:Option (Nat × List G)):List G:=match r with
 |some (_,d)=>d
 |none=>[]
def eJ(m:Nat)(S:j7)(ps:List gX)(s:aj):Option (Bool × List G) :=
 match gY s.H (fun i=>s.fr.getD i .undef) ps []with
 |some ids=>zt m S ids s
 |none=>none
theorem iC{m:Nat}{S:j7}{ps:List gX}{s:aj}{d:List G}(h:eJ m S ps s=some (true,d)):a7 m s.den (aI S d).den:=by
 unfold eJ at h;split at h
 ·exact OG h
 ·cases h
def fi:List (Nat × List Kd)→aj→aj
 | [],s=>s
 | (i,ks)::r,s=>match eM 1000000 i with
  |true=>fi r (zu (i-1000000) s)
  | false=>match isNil (s.fr.getD i .undef) with
   |true=>fi r (rf i ks s)
   |false=>fi r s
theorem j8{m:Nat}:∀(l:List (Nat × List Kd)) (s:aj),a7 m s.den (fi l s).den
 | [],s=>a7.refl _
 | (i,ks)::r,s=>by
  simp only[fi];split
  ·exact OH.trans (j8 r _)
  ·split
   ·rename_i h
    exact(Fk h).trans (j8 r _)
   ·exact j8 r s
def nw(m:Nat):List l4→Nat→bt→aj→Option (Bool × (Option Nat × List G))
 | [],_,_,_=>none
 | o::os,i,x,s=>match decide (x=o.x) with
  | true=>match eJ m o.S o.ps s with
   |some (b,d)=>some (b,(some i,d))
   |none=>none
  |false=>nw m os (i+1) x s
def vl(m:Nat)(sp:bI)(x:bt)(s:aj):Option (Bool × (Option Nat × List G)) :=
 match x with
 | .normal=>match eJ m sp.inv sp.ps s with
  |some (b,d)=>some (b,(none,d))
  |none=>none
 |x=>nw m sp.outs 0 x (fi sp.opens s)
theorem vm{m:Nat}:∀{os:List l4} {i:Nat} {x:bt} {s:aj} {b:Bool} {k:Option Nat} {d:List G},nw m os i x s=some (b,(k,d)) →
  ∃ j o,os[j]? = some o∧k=some (i+j)∧x=o.x∧eJ m o.S o.ps s=some (b,d)
 | [],_,_,_,_,_,_,h=>by cases h
 | o::os,i,x,s,b,k,d,h=>by
  simp only[nw]at h;split at h
  ·rename_i a
   split at h
   ·rename_i r d' hr
    cases h;exact⟨0,o,rfl,rfl,of_decide_eq_true a,hr⟩
   ·cases h
  ·obtain ⟨j, o', h1, g, l, q⟩ := vm h
   exact⟨j+1,o',by simpa using h1,by rw[g]; congr 1; omega,l,q⟩
section loops
variable {P:Program} {τ:al} {L:LT} {m:Nat} {c:Code} {sp:bI}
def cP(P:Program)(τ:al)(L:LT)(m:Nat)(c:Code)(sp:bI):Prop:=∀ d,(dc P τ L c (aI sp.inv d) .done).leaf (vl m sp)=sp.st d
theorem FO(hm:P.follows .mixedOrders=true)(g:ao P τ)(i:ay P m L c)(hr:cP P τ L m c sp){d d':List G}{k:Option Nat}(h:sp.st d=some (k,d')) :
  (k = none ∧ cq P m c (aI sp.inv d).den .normal (aI sp.inv d').den) ∨
   ∃ j o,k=some j∧sp.outs[j]? = some o∧o.x≠.normal∧cq P m c (aI sp.inv d).den o.x (aI o.S d').den:=by
 rw[←hr d]at h;obtain⟨x,s1,h1,a⟩:=fD hm g c (aI sp.inv d) .done i (Q:=fun x s=>vl m sp x s=some (true,(k,d'))) (kX h);have a:vl m sp x s1=some (true,(k,d')):=a;unfold vl at a;split at a
 ·split at a
  ·rename_i b d2 l
   cases a;exact .inl ⟨rfl,lH h1 (iC l)⟩
  ·cases a
 ·rename_i q
  obtain⟨j,o,g1,g2,rfl,g4⟩:=vm a;exact .inr ⟨j,o,by simpa using g2,g1,fun e=>q e,lH h1 ((j8 sp.opens s1).trans (iC g4))⟩
theorem FP(hm:P.follows .mixedOrders=true)(a:ao P τ)(b:ay P m L c)(hr:cP P τ L m c sp):∀(n:Nat) {d d':List G} {x:Nat},nv sp.st n d=some (x,d') →
  ∃ o,sp.outs[x]? = some o∧iT P m c (aI sp.inv d).den o.x (aI o.S d').den
 |0,_,_,_,h=>by cases h
 | n+1,d,d',x,h=>by
  simp only[nv]at h;split at h
  ·rename_i d1 h1
   rcases FO hm a b hr h1 with⟨_,g⟩|⟨_,_,hk,_⟩
   ·obtain ⟨o, g1, g2⟩ := FP hm a b hr n h
    exact⟨o,g1,.next g g2⟩
   ·cases hk
  ·rename_i i d1 h1
   cases h;rcases FO hm a b hr h1 with⟨hk,_⟩|⟨j,o,hk,g1,g2,g3⟩
   ·cases hk
   ·cases hk
    exact⟨o,g1,.stop g3 g2⟩
  ·cases h
def ru(r:Option (Nat × List G)):List l4→Nat→Tree
 | [],_=>.fail
 | [o],_=>.done o.x (aI o.S (zz r))
 |o::os,i=>.ask (ah (zy r) i) (.done o.x (aI o.S (zz r))) (ru r os (i+1))
theorem vn{x:Nat}{d:List G}{Q:bt→aj→Prop}:∀{os:List l4} {i j:Nat} {o:l4},os[j]? = some o→x=i+j→(ru (some (x,d)) os i).holds Q→Q o.x (aI o.S d)
 | [],_,_,_,h,_,_=>by simp at h
 | [o],i,j,o',h,b,a=>by
  cases j with
  | zero =>
   simp at h;subst h;exact a
  |succ j=>simp at h
 | o::o2::os,i,j,o',h,b,a=>by
  simp only[ru,Tree.holds]at a;cases j with
  | zero =>
   simp at h;subst h;exact a.1 (by simp only[zy]; rw[b]; simp)
  | succ j =>
   refine vn (os:=o2::os) (i:=i+1) (j:=j) (by simpa using h) (by omega) (a.2 ?_);have:x≠i:=by omega
   exact Xp.2 fun e=>this (aR e)
def zA(m:Nat)(sp:bI)(s:aj):Option Tree :=
 match eJ m sp.inv sp.ps (fi sp.opens s)with
 |some (b,d)=>some (.side (o9 b (cf sp.st d).isSome) (ru (cf sp.st d) sp.outs 0))
 |none=>none
theorem OI(hm:P.follows .mixedOrders=true)(k:ao P τ)(l:ay P m L c)(hr:cP P τ L m c sp){s:aj}{t:Tree}(h:zA m sp s=some t):ES P m c s t:=by
 unfold zA at h;split at h
 case h_2=>cases h
 rename_i b d q;cases h;intro Q g;simp only[Tree.holds,o_,aq]at g;obtain⟨⟨rfl,h1⟩,i⟩:=g;cases a:cf sp.st d with
 |none=>rw[a]at h1; cases h1
 | some r =>
  obtain⟨x,d'⟩:=r;obtain⟨o,g1,g2⟩:=FP hm k l hr 1000000 a;exact⟨o.x,_,g2.pre ((j8 sp.opens s).trans (iC q)),vn g1 (dL x).symm (by rw[a]at i; exact i)⟩
def LT.add(L:LT)(m:Nat)(sp:bI):LT:=⟨fun k s=>match ah k sp.key with
 |true=>zA m sp s
 |false=>L.loops k s,L.pre,L.qZ⟩
theorem l5:∀{c:Code} {k:Nat} {g:Code},(k,g)∈bk c→∀ p,p∈bk g→p∈bk c
 | .seq a b,k,g,h,p,d=>by
  simp only[bk,bQ]at h⊢;rcases h with h|h
  ·exact .inl (l5 h p d)
  ·exact .inr (l5 h p d)
 | .cond _ a b,k,g,h,p,d=>by
  simp only[bk,bQ]at h⊢;rcases h with h|h
  ·exact .inl (l5 h p d)
  ·exact .inr (l5 h p d)
 | .block _ c,k,g,h,p,d=>by
  simp only[bk]at h⊢;exact l5 h p d
 | .loop c,k,g,h,p,d=>by
  simp only[bk]at h⊢;split at h
  ·rename_i i hi
   rcases bN.1 h with e|h
   ·cases e
    exact da _ d
   ·exact da _ (l5 h p d)
  ·exact l5 h p d
 |.skip,_,_,h,_,_=>by simp[bk]at h
 |.region ..,_,_,h,_,_=>by simp[bk]at h
 |.exit _,_,_,h,_,_=>by simp[bk]at h
 |.ret,_,_,h,_,_=>by simp[bk]at h
 |.rangeFunc ..,_,_,h,_,_=>by simp[bk]at h
 |.scope _,_,_,h,_,_=>by simp[bk]at h
 |.label _,_,_,h,_,_=>by simp[bk]at h
 |.goto _,_,_,h,_,_=>by simp[bk]at h
 |.refuse _,_,_,h,_,_=>by simp[bk]at h
theorem l6:∀{c:Code} {k:Nat} {g:Code},(k,g)∈bk c→∀ p,p∈bl g→p∈bl c
 | .seq a b,k,g,h,p,d=>by
  simp only[bk,bl,bQ]at h⊢;rcases h with h|h
  ·exact .inl (l6 h p d)
  ·exact .inr (.inr (l6 h p d))
 | .cond _ a b,k,g,h,p,d=>by
  simp only[bk,bl,bQ]at h⊢;rcases h with h|h
  ·exact .inl (l6 h p d)
  ·exact .inr (l6 h p d)
 | .block _ c,k,g,h,p,d=>by
  simp only[bk,bl]at h⊢;exact l6 h p d
 | .loop c,k,g,h,p,d=>by
  simp only[bk,bl]at h⊢;split at h
  ·rename_i i hi
   rcases bN.1 h with e|h
   ·cases e
    exact d
   ·exact l6 h p d
  ·exact l6 h p d
 |.skip,_,_,h,_,_=>by simp[bk]at h
 |.region ..,_,_,h,_,_=>by simp[bk]at h
 |.exit _,_,_,h,_,_=>by simp[bk]at h
 |.ret,_,_,h,_,_=>by simp[bk]at h
 |.rangeFunc ..,_,_,h,_,_=>by simp[bk]at h
 |.scope _,_,_,h,_,_=>by simp[bk]at h
 |.label _,_,_,h,_,_=>by simp[bk]at h
 |.goto _,_,_,h,_,_=>by simp[bk]at h
 |.refuse _,_,_,h,_,_=>by simp[bk]at h
theorem l7:∀{c:Code} {k:Nat} {g:Code},(k,g)∈bl c→∀ p,p∈bk g→p∈bk c
 | .seq a b,k,g,h,p,d=>by
  simp only[bk,bl,bQ]at h⊢;rcases h with h|h|h
  ·exact .inl (l7 h p d)
  ·right
   split at h
   ·rcases bN.1 h with e | h
    ·cases e
     exact d
    ·cases h
   ·cases h
  ·exact .inr (l7 h p d)
 | .cond _ a b,k,g,h,p,d=>by
  simp only[bk,bl,bQ]at h⊢;rcases h with h|h
  ·exact .inl (l7 h p d)
  ·exact .inr (l7 h p d)
 | .block _ c,k,g,h,p,d=>by
  simp only[bk,bl]at h⊢;exact l7 h p d
 | .loop c,k,g,h,p,d=>by
  simp only[bl]at h;have:=l7 h p d;simp only[bk];split
  ·exact da _ this
  ·exact this
 |.skip,_,_,h,_,_=>by simp[bl]at h
 |.region ..,_,_,h,_,_=>by simp[bl]at h
 |.exit _,_,_,h,_,_=>by simp[bl]at h
 |.ret,_,_,h,_,_=>by simp[bl]at h
 |.rangeFunc ..,_,_,h,_,_=>by simp[bl]at h
 |.scope _,_,_,h,_,_=>by simp[bl]at h
 |.label _,_,_,h,_,_=>by simp[bl]at h
 |.goto _,_,_,h,_,_=>by simp[bl]at h
 |.refuse _,_,_,h,_,_=>by simp[bl]at h
theorem l8:∀{c:Code} {k:Nat} {g:Code},(k,g)∈bl c→∀ p,p∈bl g→p∈bl c
 | .seq a b,k,g,h,p,d=>by
  simp only[bl,bQ]at h⊢;rcases h with h|h|h
  ·exact .inl (l8 h p d)
  ·right
   right;split at h
   ·rcases bN.1 h with e | h
    ·cases e
     exact d
    ·cases h
   ·cases h
  ·exact .inr (.inr (l8 h p d))
 | .cond _ a b,k,g,h,p,d=>by
  simp only[bl,bQ]at h⊢;rcases h with h|h
  ·exact .inl (l8 h p d)
  ·exact .inr (l8 h p d)
 | .block _ c,k,g,h,p,d=>by
  simp only[bl]at h⊢;exact l8 h p d
 | .loop c,k,g,h,p,d=>by
  simp only[bl]at h⊢;exact l8 h p d
 |.skip,_,_,h,_,_=>by simp[bl]at h
 |.region ..,_,_,h,_,_=>by simp[bl]at h
 |.exit _,_,_,h,_,_=>by simp[bl]at h
 |.ret,_,_,h,_,_=>by simp[bl]at h
 |.rangeFunc ..,_,_,h,_,_=>by simp[bl]at h
 |.scope _,_,_,h,_,_=>by simp[bl]at h
 |.label _,_,_,h,_,_=>by simp[bl]at h
 |.goto _,_,_,h,_,_=>by simp[bl]at h
 |.refuse _,_,_,h,_,_=>by simp[bl]at h
def aY(fn:Func):Code:=match fn.body with
 |some c=>c
 |none=>.skip
theorem OJ{fn:Func} (b:nodupB ((bk (aY fn)).map (·.1))=true) {k:Nat} {a:Code} (h:(k,a)∈bk (aY fn)):a=cU fn k:=by
 have key:∀(l:List (Nat × Code)),(l.map (·.1)).Nodup→(k,a)∈l→l.find? (fun p=>ah p.1 k)=some (k,a):=by
  intro l
  induction l with
  |nil=>intro _ h; cases h
  | cons p l q =>
   intro d hm;simp only[dg,gJ]at d;rcases bN.1 hm with rfl|hm
   ·simp
   ·have i:p.1≠k:=by
     intro e;exact d.1 (dJ.2 ⟨(k,a),hm,e.symm⟩)
    have:ah p.1 k=false:=Xp.2 fun e=>i (aR e);rw[Xq (by simp[this])];exact q d.2 hm
 unfold cU;unfold aY at b h;split
 ·rename_i c g
  rw[g]at b h;simp only[]at b h;rw[key _ (nu b) h]
 ·rename_i g
  rw[g]at h;simp[bk]at h
theorem ay.add(hm:P.follows .mixedOrders=true)(d:ao P τ){fn:Func} (g:nodupB ((bk (aY fn)).map (·.1))=true) (b:ay P m L (aY fn)) (hr:cP P τ L m (cU fn sp.key) sp) :
  ay P m (L.add m sp) (aY fn):=by
 refine⟨fun k h hk s t a=>?_,b.2⟩;simp only[LT.add]at a;split at a
 ·rename_i e
  have e:=aR e;subst e;have i:=OJ g hk;rw[←i]at hr;exact OI hm d (b.sub (l5 hk) (l6 hk)) hr a
 ·exact b.1 k h hk s t a
/-! ### Code behind other code -/
def cutAt(fn:Func)(k:Nat):Code:=match fn.body with
 | some c=>match (bl c).find? fun p=>ah p.1 k with
  |some (_,b)=>b
  |none=>.skip
 |none=>.skip
def jD(k:Nat):List (Nat × Code)→Bool
 | []=>true
 | p::l=>match ah p.1 k with
  |true => !l.any (fun q=>ah q.1 k)
  |false=>jD k l
theorem FQ{k:Nat}{d:Code}:∀{l:List (Nat × Code)},jD k l=true→(k,d)∈l→l.find? (fun p=>ah p.1 k)=some (k,d)
 | [],_,h=>by cases h
 | p::l,a,hm=>by
  simp only[jD]at a;cases b:ah p.1 k with
  | true =>
   rw[b]at a;simp only[nZ]at a;rcases bN.1 hm with rfl|hm
   ·rw[List.find?_cons_of_pos (by simp)]
   ·have : l.any (fun q => ah q.1 k) = true := gK.2 ⟨(k, d), hm, by simp⟩
    rw[this]at a;cases a
  | false =>
   rw[b]at a;rcases bN.1 hm with rfl|hm
   ·simp at b
   ·rw [Xq (by simp [b])]
    exact FQ a hm
theorem zB{fn:Func}{k:Nat}{d:Code} (a:jD k (bl (aY fn))=true) (h:(k,d)∈bl (aY fn)):d=cutAt fn k:=by
 unfold cutAt;unfold aY at a h;split
 ·rename_i c b
  rw[b]at a h;simp only[]at a h;rw[FQ a h]
 ·rename_i b
  rw[b]at h;simp[bl]at h
def dR(r:Option (Option Nat × List G)):Option (Nat × List G):=match r with
 |some (some x,d)=>some (x,d)
 |_=>none
def ry(m:Nat)(sp:bI)(s:aj):Option Tree :=
 match eJ m sp.inv sp.ps (fi sp.opens s)with
 |some (b,d)=>some (.side (o9 b (dR (sp.st d)).isSome) (ru (dR (sp.st d)) sp.outs 0))
 |none=>none
def jE(P:Program)(τ:al)(L:LT)(m:Nat)(c:Code)(sp:bI):Prop:=∀ d,(dc P τ L c (aI sp.inv d) .done).leaf (nw m sp.outs 0)=sp.st d
theorem OK(hm:P.follows .mixedOrders=true)(u:ao P τ)(v:ay P m L c)(hr:jE P τ L m c sp){s:aj}{t:Tree}(h:ry m sp s=some t):uS P m c s t:=by
 unfold ry at h;split at h
 case h_2=>cases h
 rename_i b d w;cases h;intro Q g;simp only[Tree.holds,o_,aq]at g;obtain⟨⟨rfl,h1⟩,l⟩:=g;cases a:sp.st d with
 |none=>rw[a]at h1; cases h1
 | some r =>
  obtain⟨k,d'⟩:=r;cases k with
  |none=>rw[a]at h1; cases h1
  | some i =>
   rw[←hr d]at a;obtain⟨x,s1,g1,g2⟩:=fD hm u c (aI sp.inv d) .done v (Q:=fun x s=>nw m sp.outs 0 x s=some (true,(some i,d'))) (kX a);obtain⟨j,o,y,q,A,B⟩:=vm g2;simp only[aK,dL]at q;subst q;rw[hr d]at a;rw[a]at l;refine⟨o.x,(aI o.S d'),?_,vn y (dL i).symm l⟩;rw[←A];exact oL ((j8 sp.opens s).trans (iC w)) (lH g1 (iC B))
def LT.gk(L:LT)(m:Nat)(sp:bI):LT:=⟨L.loops,L.pre,fun k s=>match ah k sp.key with
 |true=>ry m sp s
 |false=>L.qZ k s⟩
theorem ay.gk(hm:P.follows .mixedOrders=true)(d:ao P τ){fn:Func} (g:jD sp.key (bl (aY fn))=true) (b:ay P m L (aY fn)) (hr:jE P τ L m (cutAt fn sp.key) sp) :
  ay P m (L.gk m sp) (aY fn):=by
 refine⟨b.1,b.2.1,fun k h hk s t a=>?_⟩;simp only[LT.gk]at a;split at a
 ·rename_i e
  have e:=aR e;subst e;have i:=zB g hk;rw[←i]at hr;exact OK hm d (b.sub (l7 hk) (l8 hk)) hr a
 ·exact b.2.2 k h hk s t a
end loops
/-! ### a -/
structure aG where
 f:FuncId
 args:List Sh
 b6:List bL
 ps:List gX
 res:List Sh
 eK:List bL
 OL:List gX
 opens:List (Nat × List Kd)
 F:List G→Option (List G)
def aG.args0(sp:aG)(d:List G):List AV:=eA (bZ sp.b6 d) sp.args (dw (j6 sp.b6) d)
def aG.H0(sp:aG)(d:List G):List af:=ca (bZ sp.b6 d) sp.b6 d
def aG.out(sp:aG)(r:List G):AV:=cH (eA (bZ sp.eK r) sp.res (dw (j6 sp.eK) r))
def aG.H1(sp:aG)(r:List G):List af:=ca (bZ sp.eK r) sp.eK r
def rz(P:Program)(rs:List ResultVar)(sp:aG)(x:bt)(s:aj):Option (Bool × List G) :=
 match x with
 |.exit _=>none
 | _=>(fun s=>match gb P s.den rs with
  |none=>none
  | some vs=>match gY s.H (fun i=>vs.getD i .undef) sp.OL [] with
   |none=>none
   | some ids=>match nodupB ids&&kW s.H 0 sp.b6.length ids sp.eK with
    |false=>none
    | true=>match gW s.H (bu s.H ids) (gj ids) sp.eK ids,dx s.H (bu s.H ids) (gj ids) sp.res vs with
     |some (b,g),some (a,d)=>some (b&&a,g++d)
     |_,_=>none) (fi sp.opens s)
def bp(P:Program)(τ:al)(L:LT)(fn:Func)(sp:aG):Prop :=
 ∀ d,(dc P τ L (aY fn) ⟨gQ (sp.args0 d) fn.ntmps,sp.H0 d⟩ .done).leaf (rz P fn.results.toList sp)=sp.F d
def ny(os:List bL):Bool:=os.all fun o=>ah o.up 0
theorem FR:∀{os:List bL} (lens:cB) (d:List G),ny os=true→uv (ai (ca lens os d))
 | [],_,_,_=>by intro o b; simp[ca,ai]at b
 | o::os,lens,d,h=>by
  simp only[ny,ls,aq]at h;intro x a;simp only[ca,ai,dg,bN]at a;rcases a with rfl|a
  ·cases o with
   | vec ks u =>
    have:u=0:=aR h.1;subst this;rfl
   |box _=>rfl
   |map _ _=>rfl
   |dC _ _ _=>rfl
   |aM _ _ _=>rfl
   |mm _ _ _ _=>rfl
  ·exact FR lens _ h.2 x a
theorem zC(lens:cB):∀(os:List bL) (d:List G),(ca lens os d).length=os.length
 | [],_=>rfl
 |_::os,d=>by simp[ca,zC lens os]
theorem OM{P:Program}{sp:aG}{fn:Func}(hf:P.funcs[sp.f]? = some fn)(W:fn.body.isSome=true)
  (Yi:ny sp.b6=true) {d r:List G} {x:bt} {u:aj} (h1:cq P sp.b6.length (aY fn) (aj.den ⟨gQ (sp.args0 d) fn.ntmps,sp.H0 d⟩) x u.den) (a:rz P fn.results.toList sp x u=some (true,r)) :
  c9 P sp.f (sp.args0 d) (ai (sp.H0 d)) (sp.out r) (ai (sp.H1 r)):=by
 have Yd:fn.body=some (aY fn):=by
  unfold aY;cases v:fn.body with
  |none=>rw[v]at W; cases W
  |some c=>rfl
 have h1:=lH h1 (j8 sp.opens u);generalize Yj:fi sp.opens u=s' at h1;have Yk:(x=.normal∨x=.ret)∧∃ vs ids g k,gb P s'.den fn.results.toList=some vs∧(nodupB ids&&kW s'.H 0 sp.b6.length ids sp.eK)=true ∧
   gW s'.H (bu s'.H ids) (gj ids) sp.eK ids=some (true,g)∧dx s'.H (bu s'.H ids) (gj ids) sp.res vs=some (true,k)∧g++k=r:=by
  have a:rz P fn.results.toList sp x u=some (true,r):=a;unfold rz at a;split at a
  ·cases a
  ·rename_i v
   simp only[Yj]at a;refine⟨by cases x with|normal=>exact .inl rfl|ret=>exact .inr rfl|exit i=>exact(v i rfl).elim,?_⟩;split at a
   ·cases a
   ·rename_i vs I
    split at a
    ·cases a
    ·rename_i ids Yo
     split at a
     ·cases a
     ·rename_i q
      split at a
      ·rename_i b g b' k A N
       simp only[aK,aN,aq]at a;obtain⟨⟨rfl,rfl⟩,rfl⟩:=a;exact⟨vs,ids,g,k,I,q,A,N,rfl⟩
      ·cases a
 obtain⟨v,vs,ids,g,k,I,q,A,N,rfl⟩:=Yk;simp only[aq]at q;intro E cargs hH HE O;refine yt hf Yd ?_;have R:=oM HE;have Yc:=kN R _ O;have Ye:br ⟨gQ (sp.args0 d) fn.ntmps,ai (sp.H0 d)⟩ { E with X:=⟨E.X.x,fun _=>False,E.X.r⟩ } { tmps:=cargs++Array.replicate (fn.ntmps-cargs.size) undef,defers:=[] }:=by
  refine⟨hH,?_,mI _ _,HE.bY R⟩;simp only[gQ,Array.toList_append,Array.toList_replicate];refine iQ Yc ?_;have:=fb O;have e:(sp.args0 d).length=cargs.size:=by simpa using this
  rw[e];have:=qw (E:={ E with X:=⟨E.X.x,fun _=>False,E.X.r⟩ }) (List.replicate (fn.ntmps-cargs.size) undef);simpa using this
 refine wpIn_mono (h1 none (yp _) { E with X:=⟨E.X.x,fun _=>False,E.X.r⟩ } _ Ye) fun e a1 w0 ⟨h3,Yf,X',t,B⟩=>?_;refine⟨by subst h3; rcases v with rfl|rfl; exact .inl rfl; exact .inr rfl,X',t.defers,fun D k1 k2 k3=>?_⟩;obtain⟨t,B⟩:=yu HE t B k1 k2 k3;obtain⟨us,g1,g2⟩:=uy t fn.results.toList vs I;have Yg:(results fn a1.tmps).run P D=.ok (if h:us.toArray.size=1 then us.toArray[0] else .tuple us.toArray) D:=by
  rw[uz];simp only[Sem.run_bind];rw[Array.mapM_eq_mapM_toList,Sem.run_map,g1];rfl
 generalize y:({ w:=D,H:=s'.den.H,loc:=Yf,X:=E.X.re X'.r }:Env)=l at t B g1 g2;have U:l.H=ai s'.H:=by rw[←y]; rfl
 obtain⟨Y,Yl⟩:=FL U t.heap (nu q.1) A k;obtain⟨p0,p1,p2,p3⟩:=rq A k (bZ sp.eK (g++k));have hd:dw (j6 sp.eK) (g++k)=k:=by rw[←p0]; exact lZ g k
 have hS:=rm Y N [];rw[cV]at hS;have Ym:=hS.2.2.2 us g2;have Yh:=FM (m:=sp.b6.length) U Y ⟨rfl,rfl⟩ (FH l _ ids) q.2 (fun j hj=>by
  obtain⟨r1,o',r2,_⟩:=vg q.2 j hj;obtain⟨i,o,g1,Yn,t1,t2,t3,t4,t5,t6⟩:=p3 j o' r2;have V:=fE (e:=bu s'.H ids) (j:=j) (az t1);rw[show (bu s'.H ids).ids=ids from rfl,t1]at V;cases V;exact⟨o,o',t2,r2,t5⟩) (fun b=>FI)
 have hle:E.le (gh l (ai (ca (bZ sp.eK (g++k)) sp.eK (g++k))) ids) :=
  (B.trans Yh).full (by rw[←y]; exact⟨rfl,rfl⟩) (by rw[hH,dA]; simp only[aG.H0,zC]; exact aB _) (by rw[hH]; exact FR _ _ Yi)
 have J:l.w=D:=by rw[←y]
 have M:∀ r,l.X.re r=E.X.re r:=fun r=>by rw[←y]; rfl
 refine⟨_,Yg,_,_,_,rfl,⟨rfl,rfl⟩,ids.map (fun i=>l.loc.getD i none),kV l (ai (ca (bZ sp.eK (g++k)) sp.eK (g++k))),?_,?_,?_⟩
 ·have := Fh Ym
  simp only[aG.out,aG.H1,hd];simpa only[gh,J,M]using this
 ·simpa only[gh,J,M,aG.H1]using Yl
 ·simpa only[gh,J,M,aG.H1]using hle
theorem ON{P:Program}{τ:al}{L:LT}(hm:P.follows .mixedOrders=true)(b:ao P τ){sp:aG}{fn:Func}(hf:P.funcs[sp.f]? = some fn)(g:fn.body.isSome=true)
  (i:ay P sp.b6.length L (aY fn)) (k:bp P τ L fn sp) (a:ny sp.b6=true) {d r:List G} (h:sp.F d=some r) :
  c9 P sp.f (sp.args0 d) (ai (sp.H0 d)) (sp.out r) (ai (sp.H1 r)):=by
 rw[←k d]at h;obtain⟨x,q,h1,l⟩:=fD hm b (aY fn) _ .done i (Q:=fun x s=>rz P fn.results.toList sp x s=some (true,r)) (kX h);exact OM hf g a h1 l
abbrev bf(P:Program)(sp:aG):Prop:=∀ d r,sp.F d=some r→c9 P sp.f (sp.args0 d) (ai (sp.H0 d)) (sp.out r) (ai (sp.H1 r))
theorem zD{P:Program}{τ:al}{L:LT}(hm:P.follows .mixedOrders=true)(b:ao P τ){sp:aG}{fn:Func}(hf:P.funcs[sp.f]? = some fn)(d:fn.body.isSome=true)
  (g:ay P sp.b6.length L (aY fn)) (i:bp P τ L fn sp) (a:ny sp.b6=true):bf P sp:=fun _ _ h=>ON hm b hf d g i a h
/-! ### Tables -/
def rA:dG→Bool
 |.int _ | .str | .bool | .list _ | .rk _ | .row _ | .cptr _ | .nil | .any | .Fy _ | .fn _ | .addr | .zl=>true
 |_=>false
def vo:Sh→Bool
 |.s a=>rA a
 |.clo _ caps=>caps.all rA
theorem FT{lens:cB}{a:dG}{d:List G}(h:rA a=true):(dH lens a d).closed=true:=by
 cases a<;>simp only[rA]at h<;>first
  |(cases h; done)
  |rfl
  |(simp only[dH,AV.closed,eO]; done)
theorem FU{lens:cB}:∀{as:List dG} {d:List G},(as.all rA)=true→AV.aV (gG lens as d)=true
 | [],_,_=>rfl
 | a::as,d,h=>by
  simp only[ls,aq]at h;simp only[gG,AV.aV,FT h.1,FU h.2,pW]
theorem vp{lens:cB}:∀{as:List Sh} {d:List G},(as.all vo)=true→AV.aV (eA lens as d)=true
 | [],_,_=>rfl
 | a::as,d,h=>by
  simp only[ls,aq]at h;simp only[eA,AV.aV,vp h.2,fl];cases a with
  |s a=>exact FT h.1
  |clo f caps=>simp only[nt,AV.closed]; exact FU h.1
theorem OO{vs:List AV}(h:AV.aV vs=true):(cH vs).closed=true:=by
 cases vs with
 |nil=>rfl
 | cons v vs =>
  cases vs with
  |nil=>simpa[cH,AV.aV]using h
  |cons v2 vs=>simpa only[cH,AV.closed]using h
def gl(E:Env):Env:={ w:=E.w,H:=[],loc:=[],X:=(E.X.or E.own).re cY }
theorem OP{E:Env}(x:Nat):¬ (gl E).own x:=by rintro(⟨id,c,hid⟩|⟨l,k,c,hk⟩); simp[gl]at hid; simp[gl,cY]at hk
theorem FV{E:Env}:E.bh (gl E):=⟨fun b a=>⟨⟨a.1,OP b,fun d=>d.elim a.2.2 a.2.1⟩,rfl⟩⟩
theorem OQ{E:Env}:(gl E).bh E:=⟨fun b a=>⟨⟨a.1,fun d=>a.2.2 (Or.inr d),fun g=>a.2.2 (Or.inl g)⟩,rfl⟩⟩
theorem OR{E:Env}(HE:ak E):ak (gl E):=by
 refine⟨rfl,?_,?_,?_,?_,HE.dX.bh FV,fun l k l' k' b m n hk=>by simp[gl,cY]at hk,fun i b m l k n hi=>by simp[gl]at hi,fun l k b m hk=>by simp[gl,cY]at hk,fun i j o o' l hi=>by simp[gl]at hi,fun l _ k q hk=>by simp[gl,cY]at hk⟩
 ·intro i j b m n hi; simp[gl]at hi
 ·intro i b m hi; simp[gl]at hi
 ·rintro b (a | d)
  ·exact HE.X b a
  ·exact(HE.tJ d).1
 ·intro i o hi; simp[gl]at hi
theorem OS{E:Env}(HE:ak E):gg [] (bu [] []) (fun _=>false) [] (gl E) (gl E):=by
 exact { hH:=rfl,HE:=OR HE,free:=fun _ h=>(nomatch h),cr:=⟨fun b a=>⟨a,rfl⟩,rfl,fun j d=>absurd d (Nat.not_lt_zero _),fun _ _ _ _ _=>rfl⟩,obj:=fun j o g=>by simp at g }
theorem OT{E:Env}(HE:ak E):∀{d:List Sh} {as:List AV} {g:List G},(d.all vo)=true→dx [] (bu [] []) (fun _=>false) d as=some (true,g)→∀(rest:List G) (cs:List Value),ae E as cs →
  ae E (eA [] d (g++rest)) cs:=by
 have y:∀{sh:dG} {a:AV} {b:Bool} {g:List G},eI [] (bu [] []) (fun _=>false) sh a=some (b,g)→a.closed=true∨sh=.any:=by
  intro sh a b g h;unfold eI at h;split at h
  ·exact .inl rfl
  ·exact .inl rfl
  ·exact .inl rfl
  ·split at h
   ·rename_i k
    left;unfold kU at k;split at k<;>first|rfl|cases k
   ·split at h
    ·simp at h
    ·cases h
  ·split at h
   ·rename_i k
    left;rw[Fm k];simp only[AV.closed,eO]
   ·cases h
  ·exact .inl rfl
  ·simp at h
  ·exact .inl rfl
  ·exact .inr rfl
  ·exact .inl rfl
  ·simp at h
  ·simp at h
  ·simp at h
  ·simp at h
  ·split at h
   ·rename_i k
    left;unfold kU at k;split at k<;>first|rfl|cases k
   ·split at h
    ·simp at h
    ·cases h
  ·simp at h
  ·exact .inl rfl
  ·rename_i f js M vs
   split at h
   ·rename_i l
    left;cases js with
    | nil=>cases vs with
     |nil=>rfl
     |cons _ _=>simp[iZ]at l
    | cons j js=>cases vs with
     |nil=>simp[iZ]at l
     |cons v vs=>cases v<;>simp[iZ]at l
   ·cases h
  ·exact .inl rfl
  ·cases h
 have B:∀{d:List dG} {as:List AV} {b:Bool} {g:List G},eB [] (bu [] []) (fun _=>false) d as=some (b,g)→∀(cs:List Value),ae E as cs →
   ∃ i,eB [] (bu [] []) (fun _=>false) d i=some (b,g)∧AV.aV i=true∧ae E i cs:=by
  intro d
  induction d with
  | nil =>
   intro as b g h cs hr;cases as with
   |nil=>exact⟨[],h,rfl,hr⟩
   |cons _ _=>simp[eB]at h
  | cons sh d w =>
   intro as b g h cs hr;cases as with
   |nil=>simp[eB]at h
   | cons a as =>
    cases cs with
    |nil=>simp[ae]at hr
    | cons c cs =>
     simp only[ae]at hr;simp only[eB]at h;split at h
     ·rename_i b1 g1 N g2 h1 u
      cases h;obtain⟨i,q,r,t⟩:=w u cs hr.2;rcases y h1 with l|rfl
      ·exact⟨a::i,by simp only[eB,h1,q],by simp only[AV.aV,l,r,pW],by simp only[ae]; exact⟨hr.1,t⟩⟩
      ·have e:eI [] (bu [] []) (fun _=>false) .any .undef=some (b1,g1):=by
        have:eI [] (bu [] []) (fun _=>false) .any a=some (true,[]):=by cases a<;>rfl
        rw[this]at h1;exact h1
       exact⟨.undef::i,by simp only[eB,e,q],by simp only[AV.aV,r]; rfl,by simp only[ae,rel]; exact⟨trivial,t⟩⟩
     ·cases h
 have D:∀{d:List Sh} {as:List AV} {b:Bool} {g:List G},dx [] (bu [] []) (fun _=>false) d as=some (b,g)→∀(cs:List Value),ae E as cs →
   ∃ i,dx [] (bu [] []) (fun _=>false) d i=some (b,g)∧AV.aV i=true∧ae E i cs:=by
  intro d
  induction d with
  | nil =>
   intro as b g h cs hr;cases as with
   |nil=>exact⟨[],h,rfl,hr⟩
   |cons _ _=>simp[dx]at h
  | cons sh d w =>
   intro as b g h cs hr;cases as with
   |nil=>simp[dx]at h
   | cons a as =>
    cases cs with
    |nil=>simp[ae]at hr
    | cons c cs =>
     simp only[ae]at hr;simp only[dx]at h;split at h
     ·rename_i b1 g1 N g2 h1 u
      cases h;obtain⟨i,q,r,t⟩:=w u cs hr.2;cases sh with
      | s Yc =>
       simp only[i_]at h1;rcases y h1 with l|rfl
       ·exact⟨a::i,by simp only[dx,i_,h1,q],by simp only[AV.aV,l,r,pW],by simp only[ae]; exact⟨hr.1,t⟩⟩
       ·have e:eI [] (bu [] []) (fun _=>false) .any .undef=some (b1,g1):=by
         have:eI [] (bu [] []) (fun _=>false) .any a=some (true,[]):=by cases a<;>rfl
         rw[this]at h1;exact h1
        exact⟨.undef::i,by simp only[dx,i_,e,q],by simp only[AV.aV,r]; rfl,by simp only[ae,rel]; exact⟨trivial,t⟩⟩
      | clo f caps =>
       cases a<;>simp only[i_]at h1<;>try cases h1
       rename_i M vs;split at h1
       ·rename_i hf
        subst hf;have A:=hr.1;simp only[rel]at A;obtain⟨us,O,R⟩:=A;obtain⟨I,U,V,W⟩:=B h1 _ R;exact⟨.clo f I::i,by simp only[dx,i_,if_true,U,q],by simp only[AV.aV,AV.closed,V,r,pW],
         by simp only[ae,rel]; exact⟨⟨us,O,W⟩,t⟩⟩
       ·cases h1
     ·cases h
 intro d as g J h rest cs hr;obtain⟨i,h1,u,X⟩:=D h cs hr;have Y:=lv FV i u X;have h5:=(rm (OS HE) h1 rest).2.2.2 cs Y;exact lv OQ _ (vp J) h5
def al.bF(τ:al)(sp:aG):al where
 pf g:=match ah g sp.f with
  |true=>true
  |false=>τ.pf g
 T g as:=match ah g sp.f with
  | true=>match dx [] (bu [] []) (fun _=>false) sp.args as with
   |some (b,d)=>some (o9 b (sp.F d).isSome,cH (eA [] sp.res ((sp.F d).getD [])))
   |none=>τ.T g as
  |false=>τ.T g as
 W:=τ.W
 C:=τ.C
 I:=τ.I
 N:=τ.N
 U:=τ.U
def zF(sp:aG):Bool:=(sp.args.all vo)&&((sp.res.all vo)&&(sp.b6.isEmpty&&sp.eK.isEmpty))
theorem ao.bF{P:Program}{τ:al}(h:ao P τ){sp:aG}(D:dY P sp.f=true)(l:zF sp=true)
  (J:∀ d r,sp.F d=some r→c9 P sp.f (sp.args0 d) (ai (sp.H0 d)) (sp.out r) (ai (sp.H1 r))):ao P (τ.bF sp):=by
 simp only[zF,aq,List.isEmpty_iff]at l;obtain⟨k,y,A,B⟩:=l;refine⟨fun g as b v a i=>?_,h.W,h.C,h.I,h.F⟩;simp only[al.bF]at a;split at a
 ·rename_i e
  have e:=aR e;subst e;split at a
  ·rename_i M d hr
   simp only[aK,aN]at a;obtain⟨h1,rfl⟩:=a;subst h1;simp only[o_]at i;obtain⟨rfl,q⟩:=i;refine⟨D,?_⟩;cases t:sp.F d with
   |none=>rw[t]at q; cases q
   | some r =>
    have u:=J d r t;simp only[aG.args0,aG.H0,aG.out,aG.H1,A,B,ca,bZ,j6,dw]at u;have:=M5 u (vp k) (OO (vp y));intro H E cargs hH HE w;exact this H E cargs hH HE (by
     have:=OT HE k hr [] _ w
     rwa [cV]at this)
  ·exact h.T _ as b v a i
 ·exact h.T g as b v a i
end Go.AL

namespace Go.AL
open Go
variable [Dr]
def Kd.bS:List Kd→Bool
 | []=>true
 |.list _::_=>false
 |_::ks=>Kd.bS ks
def Ct.bq:Ct→Bool
 |.one k=>Kd.bS [k]
 |.agg ks=>Kd.bS ks
def pc:dG→Bool
 |.row ks=>Kd.bS ks
 |.list _ | .rk _ | .cptr _=>false
 |_=>true
def FW:Sh→Bool
 |.s a=>pc a
 |.clo _ caps=>caps.all pc
def FX:bL→Bool
 |.vec ks _=>Kd.bS ks
 |.box cells=>cells.all pc
 |.map K V=>K.bq&&V.bq
 |.dC _ _ _=>true
 |.aM _ K ks=>K.bq&&Kd.bS ks
 |.mm _ K KI VI=>K.bq&&(KI.bq&&VI.bq)
def iD(sp:aG):Bool:=(sp.res.all FW)&&(sp.eK.all FX)
theorem rB:∀{ks:List Kd} (r:List G),Kd.bS ks=true→AV.bS (ax ks r)=true
 | [],_,_=>rfl
 |.list _::_,_,h=>by simp[Kd.bS]at h
 | .int _::ks,r,h | .str::ks,r,h | .bool::ks,r,h=>by
  simp only[Kd.bS]at h;simp only[ax,AV.bS,rB r.tail h,fl];rfl
theorem Ct.pd{K:Ct}(r:List G)(h:K.bq=true):(K.av r).bq=true:=by
 cases K with
 | one k =>
  simp only[Ct.bq]at h;cases k<;>first
   |rfl
   |(simp[Kd.bS]at h; done)
 |agg ks=>simp only[Ct.av,AV.bq]; exact rB r h
theorem FY:∀ js:List Nat,AV.bS (nr js)=true
 | []=>rfl
 |j::js=>by simp only[nr,AV.bS,FY js,fl]; rfl
theorem FZ{lens:cB}{a:dG}{d:List G}(h:pc a=true):(dH lens a d).bq=true:=by
 cases a<;>simp only[pc]at h<;>first
  |(cases h; done)
  |(simp only[dH,AV.bq]; exact rB _ h)
  |rfl
  |(simp only[dH,AV.bq]; exact FY _)
theorem zG{lens:cB}:∀{as:List dG} {d:List G},(as.all pc)=true→AV.bS (gG lens as d)=true
 | [],_,_=>rfl
 | a::as,d,h=>by
  simp only[ls,aq]at h;simp only[gG,AV.bS,FZ h.1,zG h.2,pW]
theorem F0{lens:cB}:∀{as:List Sh} {d:List G},(as.all FW)=true→AV.bS (eA lens as d)=true
 | [],_,_=>rfl
 | a::as,d,h=>by
  simp only[ls,aq]at h;simp only[eA,AV.bS,F0 h.2,fl];cases a with
  |s a=>exact FZ h.1
  |clo f caps=>simp only[nt,AV.bq]; exact zG h.1
theorem OU{vs:List AV}(h:AV.bS vs=true):(cH vs).bq=true:=by
 cases vs with
 |nil=>rfl
 | cons v vs =>
  cases vs with
  |nil=>simpa[cH,AV.bS]using h
  |cons v2 vs=>simpa only[cH,AV.bq]using h
theorem F1{lens:cB}:∀{os:List bL} {d:List G},(os.all FX)=true→((ai (ca lens os d)).all ab.bq)=true
 | [],_,_=>rfl
 | o::os,d,h=>by
  simp only[ls,aq]at h;have a:=F1 (lens:=lens) (d:=dw o.sz d) h.2;simp only[ca,ai,dg,ls,aq];refine⟨?_,by simpa only[ai]using a⟩;cases o with
  | vec ks u =>
   simp only[dQ,af.den,ab.bq,cC,dJ];rintro r ⟨g,_,rfl⟩;exact rB g h.1
  |box cells=>simp only[dQ,af.den,ab.bq]; exact zG h.1
  | map K V =>
   have h1:(K.bq&&V.bq)=true:=h.1;simp only[aq]at h1;simp only[dQ,af.den,ab.bq,cK,cC,dJ];rintro x ⟨g,_,rfl⟩;simp only[Ct.pd _ h1.1,Ct.pd _ h1.2,pW]
  |dC l T B=>rfl
  | aM l K ks =>
   have h1:(K.bq&&Kd.bS ks)=true:=h.1;simp only[aq]at h1;simp only[dQ,af.den,ab.bq,fh,cC,dJ];rintro x ⟨g,_,rfl⟩;simp only[iu,Ct.pd _ h1.1,Bool.true_and];cases (gi g 3).bool with
   |false=>rfl
   | true =>
    simp only[cond_true,cC,dJ];rintro r ⟨g2,_,rfl⟩;exact rB g2 h1.2
  | mm l K KI VI =>
   have h1:(K.bq&&(KI.bq&&VI.bq))=true:=h.1;simp only[aq]at h1;simp only[dQ,af.den,ab.bq,gd,lK,cK,aq,cC,dJ];refine⟨?_,?_⟩
   ·rintro x ⟨g, _, rfl⟩
    exact Ct.pd _ h1.1
   ·rintro x ⟨g, _, rfl⟩ y b
    obtain⟨q,_,rfl⟩:=dJ.1 b;simp only[Ct.pd _ h1.2.1,Ct.pd _ h1.2.2,and_self]
def af.bK(e:bx)(j:Nat):af→af
 |.vec ks v rows=>.vec ks (v+e.up j) rows
 |.raw o=>.raw (o.bK e j)
 |.map K V rows c=>.map K V rows c
 |.aM l K ks rows c=>.aM l K ks rows c
 |.mm l K KI VI rows mem c=>.mm l K KI VI rows mem c
def rC(e:bx):Nat→List af→List af
 |_,[]=>[]
 |j,o::os=>o.bK e j::rC e (j+1) os
def g_(e:bx)(H H1:List af):List af:=dq H e.ids (rC e 0 H1)++(rC e 0 H1).drop e.ids.length
theorem OV(e:bx)(j:Nat)(o:af):(o.bK e j).den=o.den.bK e j:=by
 cases o<;>rfl
theorem F2(e:bx):∀(j:Nat) (os:List af),ai (rC e j os)=iX e j (ai os)
 |_,[]=>rfl
 | j,o::os=>by
  simp only[rC,ai,dg,iX,OV];have:=F2 e (j+1) os;simp only[ai]at this;rw[this]
theorem F3{α β:Type}(f:α→β):∀(is:List Nat) (l xs:List α),(dq l is xs).map f=dq (l.map f) is (xs.map f)
 | [],_,_=>by simp[dq]
 |_::_,_,[]=>by simp[dq]
 |i::is,l,x::xs=>by simp[dq,F3 f is,List.map_set]
theorem OW(e:bx)(H H1:List af):ai (g_ e H H1)=lW e (ai H) (ai H1):=by
 unfold g_ lW;rw[←F2];simp only[ai,List.map_append,F3,List.map_drop]
def j9(e:bx):Nat→List bL→Bool
 |_,[]=>true
 |j,.vec _ _::os=>j9 e (j+1) os
 |j,_::os=>ah (e.up j) 0&&j9 e (j+1) os
theorem nz{e:bx}{lens:cB}:∀{j:Nat} {os:List bL} {d:List G},j9 e j os=true→iY e j (ai (ca lens os d))=true
 |_,[],_,_=>rfl
 | j,.vec ks u::os,d,h=>by
  simp only[j9]at h;have:=nz (lens:=lens) (d:=dw (bL.vec ks u).sz d) h;simp only[ca,ai,dg,iY,aq];exact⟨rfl,by simpa only[ai]using this⟩
 | j,.box cells::os,d,h=>by
  simp only[j9,aq]at h;have:=nz (lens:=lens) (d:=dw (bL.box cells).sz d) h.2;simp only[ca,ai,dg,iY,aq];exact⟨h.1,by simpa only[ai]using this⟩
 | j,.map K V::os,d,h=>by
  simp only[j9,aq]at h;have:=nz (lens:=lens) (d:=dw (bL.map K V).sz d) h.2;simp only[ca,ai,dg,iY,aq];exact⟨h.1,by simpa only[ai]using this⟩
 | j,.dC l T B::os,d,h=>by
  simp only[j9,aq]at h;have:=nz (lens:=lens) (d:=dw (bL.dC l T B).sz d) h.2;simp only[ca,ai,dg,iY,aq];exact⟨h.1,by simpa only[ai]using this⟩
 | j,.aM l K ks::os,d,h=>by
  simp only[j9,aq]at h;have:=nz (lens:=lens) (d:=dw (bL.aM l K ks).sz d) h.2;simp only[ca,ai,dg,iY,aq];exact⟨h.1,by simpa only[ai]using this⟩
 | j,.mm l K KI VI::os,d,h=>by
  simp only[j9,aq]at h;have:=nz (lens:=lens) (d:=dw (bL.mm l K KI VI).sz d) h.2;simp only[ca,ai,dg,iY,aq];exact⟨h.1,by simpa only[ai]using this⟩
def pe(S:Bool)(ids:List Nat)(i:Nat):Bool:=match S with
 |true=>gj ids i
 |false=>false
def l9(sp:aG)(as:List AV)(H:List af):Option (Bool × AV × List af) :=
 match gY H (fun i=>as.getD i .undef) sp.ps []with
 |none=>none
 | some ids=>match nodupB ids&&j9 (bu H ids) 0 sp.eK with
  |false=>none
  | true=>match gW H (bu H ids) (pe (iD sp) ids) sp.b6 ids,dx H (bu H ids) (pe (iD sp) ids) sp.args as with
   |some (b,g),some (d,a)=>some (o9 (b&&d) (sp.F (g++a)).isSome,(sp.out ((sp.F (g++a)).getD [])).bK (bu H ids),g_ (bu H ids) H (sp.H1 ((sp.F (g++a)).getD [])))
   |_,_=>none
def kY:List gX→Nat→Bool
 | [],_=>true
 |.cell j _::ps,n=>eg j n&&kY ps (n+1)
 |.zx j _ _::ps,n=>eg j n&&kY ps (n+1)
 |_::ps,n=>kY ps (n+1)
theorem F4{H:List af}{vals:Nat→AV}:∀{ps:List gX} {acc ids:List Nat},gY H vals ps acc=some ids→∀ x∈acc,x∈ids
 | [],acc,ids,h,x,a=>by cases h; exact a
 | p::ps,acc,ids,h,x,a=>by
  unfold gY at h;split at h
  ·exact F4 h x (kA _ a)
  ·cases h
theorem F5{H:List af}{vals:Nat→AV}{id:Nat}{o:af}:∀{ps:List gX} {acc ids:List Nat},kY ps acc.length=true→gY H vals ps acc=some ids→id∉ids→gY (H.set id o) vals ps acc=some ids
 | [],acc,ids,_,h,_=>h
 | p::ps,acc,ids,hw,h,hid=>by
  unfold gY at h⊢;split at h
  ·rename_i i hi
   have b:=F4 h;have get:∀ j,j<acc.length→(H.set id o)[acc.getD j 0]? = H[acc.getD j 0]? := fun j a=>by
    refine aJ fun e=>hid ?_;rw[e,cD,bC a];exact b _ (kA _ (pY a))
   have e:vk (H.set id o) vals acc p=some i∧kY ps (acc++[i]).length=true:=by
    rw[gu];cases p with
    |fix _=>exact⟨hi,hw⟩
    |slot _=>exact⟨hi,hw⟩
    |cap _ _=>exact⟨hi,hw⟩
    | cell j c =>
     simp only[kY,aq,fJ]at hw;refine⟨?_,hw.2⟩;simp only[vk]at hi⊢;rw[get j hw.1];exact hi
    | zx j c k =>
     simp only[kY,aq,fJ]at hw;refine⟨?_,hw.2⟩;simp only[vk]at hi⊢;rw[get j hw.1];exact hi
   rw[e.1];exact F5 e.2 h hid
  ·cases h
section OX
variable {H:List af} {e:bx} {id:Nat} {o:af} (he:∀ j,e.at j≠id)
include he
theorem F6:∀(js:List Nat) (vs:List AV),iZ (H.set id o) e js vs=iZ H e js vs
 | [],[]=>rfl
 | [],_::_=>rfl
 |_::_,[]=>rfl
 | j::js,v::vs=>by
  have b:=F6 js vs;cases v<;>try rfl
  rename_i i ad k row c;simp only[iZ,b];by_cases hi:i=id
  ·subst hi
   have a:ah i (e.at j)=false:=by
    cases d:ah i (e.at j)with
    |false=>rfl
    |true=>exact absurd (aR d).symm (he j)
   simp only[a,Bool.false_and];cases (H.set i o)[i]? <;> cases H[i]? <;> (repeat' split)<;>rfl
  ·rw[aJ (Ne.symm hi)]
theorem F7:∀(sh:dG) (a:AV),eI (H.set id o) e (fun _=>false) sh a=eI H e (fun _=>false) sh a:=by
 have d:∀{i:Nat},i≠id→(H.set id o)[i]? = H[i]? := fun h=>aJ (Ne.symm h);have g:∀ j,¬ (id=e.at j):=fun j h=>he j h.symm;intro sh a;cases a with
 | vec w i ad off n =>
  by_cases hi:i=id
  ·subst hi
   cases sh<;>(try rfl)<;>simp only[eI,kU,jO,and_false,if_false,g,false_and]<;>(repeat' split)<;>(first|rfl|simp_all)
  ·cases sh<;>(try rfl)<;>simp only[eI,d hi]
 | ptr i ad k row col =>
  by_cases hi:i=id
  ·subst hi
   cases sh<;>(try rfl)<;>simp only[eI,kU,jO,and_false,if_false,g,false_and]<;>(repeat' split)<;>(first|rfl|simp_all)
  ·cases sh<;>(try rfl)<;>simp only[eI,d hi]
 | map i =>
  by_cases hi:i=id
  ·subst hi
   cases sh<;>(try rfl)<;>simp only[eI,kU,jO,and_false,if_false,g,false_and]<;>(repeat' split)<;>(first|rfl|simp_all)
  ·cases sh<;>(try rfl)<;>simp only[eI,d hi]
 | clo f vs =>
  cases sh<;>(try rfl)
  ·cases vs<;>rfl
  ·simp only[eI,F6 he]
 | lit v =>
  cases sh<;>(try rfl)<;>cases v<;>(try rfl)
  ·rename_i b n c
   cases b<;>cases n<;>cases c<;>rfl
  ·rename_i q
   cases q with
   |none=>rfl
   | some q =>
    obtain⟨b,o',w⟩:=q;cases o'<;>cases w<;>rfl
 |_=>cases sh<;>rfl
theorem zH:∀(b:List dG) (as:List AV),eB (H.set id o) e (fun _=>false) b as=eB H e (fun _=>false) b as
 | [],[]=>rfl
 | [],_::_=>rfl
 |_::_,[]=>rfl
 |sh::b,a::as=>by simp only[eB,F7 he sh a,zH b as]
theorem OY(sh:Sh)(a:AV):i_ (H.set id o) e (fun _=>false) sh a=i_ H e (fun _=>false) sh a:=by
 cases sh with
 |s x=>simp only[i_,F7 he]
 | clo f caps =>
  cases a with
  |clo g vs=>simp only[i_,zH he]
  |_=>rfl
theorem F8:∀(b:List Sh) (as:List AV),dx (H.set id o) e (fun _=>false) b as=dx H e (fun _=>false) b as
 | [],[]=>rfl
 | [],_::_=>rfl
 |_::_,[]=>rfl
 |sh::b,a::as=>by simp only[dx,OY he sh a,F8 b as]
theorem OZ(sh:bL)(t:af):fG (H.set id o) e (fun _=>false) sh t=fG H e (fun _=>false) sh t:=by
 cases sh with
 | box a =>
  cases t with
  |raw x=>cases x<;>simp only[fG,zH he]
  |_=>rfl
 | dC l T B =>
  cases t with
  |raw x=>cases x<;>rfl
  |_=>rfl
 |_=>cases t<;>rfl
theorem F9:∀(os:List bL) (is:List Nat),id∉is→gW (H.set id o) e (fun _=>false) os is=gW H e (fun _=>false) os is
 | [],[],_=>rfl
 | [],_::_,_=>rfl
 |_::_,[],_=>rfl
 | sh::os,i::is,h=>by
  have h1:id≠i:=fun e=>h (by rw[e]; exact cW);simp only[gW,aJ h1,OZ he,F9 os is fun hm=>h (da _ hm)]
end OX
theorem F_{α:Type}{i:Nat}{x:α}:∀(is:List Nat) (l xs:List α),i∉is→dq (l.set i x) is xs=(dq l is xs).set i x
 | [],_,_,_=>by simp[dq]
 |_::_,_,[],_=>by simp[dq]
 | j::is,l,y::xs,h=>by
  have h1:i≠j:=fun e=>h (by rw[e]; exact cW);simp only[dq];rw[List.set_comm _ _ h1];exact F_ is _ _ fun hm=>h (da _ hm)
theorem O0{H:List af}{ids:List Nat}{id:Nat}{o:af}(h:id∉ids):bu (H.set id o) ids=bu H ids:=by
 unfold bu;rw[List.length_set];congr 1;refine List.map_congr_left fun i hi=>?_;unfold oZ;rw[aJ fun e=>h (by rw[e]; exact hi)]
theorem O1{sp:aG}(hs:iD sp=false)(hw:kY sp.ps 0=true){as:List AV}{H H':List af}{b:Bool}{v:AV}(h:l9 sp as H=some (b,v,H')){id:Nat}{o:af}(l:id<H.length)
  (hid:∀ ids,gY H (fun i=>as.getD i .undef) sp.ps []=some ids→id∉ids) :
  l9 sp as (H.set id o)=some (b,v,H'.set id o)∧∃ ids,gY H (fun i=>as.getD i .undef) sp.ps []=some ids∧gY (H.set id o) (fun i=>as.getD i .undef) sp.ps []=some ids:=by
 unfold l9 at h⊢;split at h
 ·cases h
 rename_i ids d;have a:=hid ids d;have k:=F5 (o:=o) (acc:=[]) hw d a;refine⟨?_,ids,d,k⟩;rw[k];simp only[O0 a];split at h
 ·cases h
 rename_i t;have q:pe (iD sp) ids=fun _=>false:=by
  rw[hs];rfl
 rw[q]at h⊢;have he:∀ j,(bu H ids).at j≠id:=by
  intro j e;rcases gr j (bu H ids).ids.length with g|g
  ·have := fE g
   rw[e]at this;exact a (dK this)
  ·rw [oW g] at e
   have:(bu H ids).base=H.length:=rfl;omega
 rw[F9 he _ _ a,F8 he];split at h
 case h_2=>cases h
 rename_i h1 u;cases h;have r:∀ X,g_ (bu H ids) (H.set id o) X=(g_ (bu H ids) H X).set id o:=fun X=>by
  unfold g_;rw[show (bu H ids).ids=ids from rfl,F_ ids _ _ a,CF _ _ (by rw[lV]; exact l)]
 rw[r]
def al.dt(τ:al)(sp:aG):al where
 pf g:=match ah g sp.f with
  |true=>false
  |false=>τ.pf g
 T:=τ.T
 W g as H:=match ah g sp.f with
  | true=>match l9 sp as H with
   |some r=>some r
   |none=>τ.W g as H
  |false=>τ.W g as H
 C g as H:=match ah g sp.f with
  | true=>(match gY H (fun i=>as.getD i .undef) sp.ps [] with
   |some ids=>ids
   |none=>[])++τ.C g as H
  |false=>τ.C g as H
 I:=τ.I
 N g:=match ah g sp.f with
  | true=>match τ.U g,iD sp with
   |false,false=>kY sp.ps 0
   |_,_=>false
  |false=>τ.N g
 U g:=match ah g sp.f with
  |true=>true
  |false=>τ.U g
def l_:List bL→List bL→Bool
 |_,[]=>true
 | [],o'::a=>o'.gV.isNone&&l_ [] a
 | o::os,o'::a=>(match o'.gV with
  |none=>true
  | some l=>match o.gV with
   |some l'=>ah l l'
   |none=>false)&&l_ os a
theorem zI:∀{os d:List bL},l_ os d=true→∀(j:Nat) o' l,d[j]? = some o'→o'.gV=some l→∃ o,os[j]? = some o∧o.gV=some l
 |_,[],_,j,_,_,a,_=>by simp at a
 | [],x::d,h,0,o',l,a,b=>by
  simp only[l_,aq]at h;simp at a;subst a;rw[b]at h;cases h.1
 | [],x::d,h,j+1,o',l,a,b=>by
  simp only[l_,aq]at h;obtain⟨o,h1,_⟩:=zI h.2 j o' l (by simpa using a) b;simp at h1
 | o::os,x::d,h,0,o',l,a,b=>by
  simp only[l_,aq]at h;simp at a;subst a;have h1:=h.1;rw[b]at h1;simp only[]at h1;split at h1
  ·rename_i l' g
   have:=aR h1;subst this;exact⟨o,rfl,g⟩
  ·cases h1
 | o::os,x::d,h,j+1,o',l,a,b=>by
  simp only[l_,aq]at h;exact zI h.2 j o' l (by simpa using a) b
theorem F'(lens:cB):∀(os:List bL) (d:List G) (j:Nat) (o:af),(ca lens os d)[j]? = some o→∃ sh d',os[j]? = some sh∧o=dQ lens sh d'
 | [],d,j,o,h=>by simp[ca]at h
 | s::os,d,0,o,h=>by
  simp[ca]at h;exact⟨s,d,rfl,h.symm⟩
 | s::os,d,j+1,o,h=>by
  simp only[ca,Lh]at h;obtain⟨sh,d',h1,a⟩:=F' lens os _ j o h;exact⟨sh,d',by simpa using h1,a⟩
theorem O2{lens:cB}{os:List bL}{d:List G}{j:Nat}{o:ab} (h:(ai (ca lens os d))[j]? = some o):∃ sh,os[j]? = some sh∧o.label=sh.gV:=by
 simp only[ai,b7]at h;obtain⟨o',h1,rfl⟩:=df.1 h;obtain⟨sh,d',a,rfl⟩:=F' lens os d j o' h1;exact⟨sh,a,oX _ _ _⟩
theorem Ga(lens:cB):∀(os:List bL) (d:List G) (j:Nat) (sh:bL),os[j]? = some sh→∃ o,(ai (ca lens os d))[j]? = some o∧o.label=sh.gV
 | [],d,j,o,h=>by simp at h
 | s::os,d,0,sh,h=>by
  simp at h;subst h;exact⟨(dQ lens s d).den,by simp[ca,ai],oX _ _ _⟩
 | s::os,d,j+1,sh,h=>by
  obtain⟨o,h1,a⟩:=Ga lens os (dw s.sz d) j sh (by simpa using h);exact⟨o,by simpa[ca,ai]using h1,a⟩
def vq(sp:aG):Bool:=ny sp.b6&&(eM sp.b6.length sp.eK.length&&l_ sp.b6 sp.eK)
theorem O3{P:Program}{sp:aG}(hp:vq sp=true) (hc:∀ d r,sp.F d=some r→c9 P sp.f (sp.args0 d) (ai (sp.H0 d)) (sp.out r) (ai (sp.H1 r)))
  {as:List AV} {H H':List af} {v:AV} (h:l9 sp as H=some (true,v,H')):c9 P sp.f as (ai H) v (ai H'):=by
 simp only[vq,aq]at hp;obtain⟨Yd,hle,hlab⟩:=hp;have hle:=pX hle;unfold l9 at h;split at h
 ·cases h
 rename_i ids Yk;split at h
 ·cases h
 rename_i Yc;simp only[aq]at Yc;obtain⟨W,Ye⟩:=Yc;have W:=nu W;split at h
 case h_2=>cases h
 rename_i b g b' k h1 h2;simp only[aK,aN,o_,aq]at h;obtain⟨⟨⟨rfl,rfl⟩,Y⟩,rfl,rfl⟩:=h;cases hF:sp.F (g++k)with
 |none=>rw[hF]at Y; cases Y
 |some r =>
 simp only[nW];obtain⟨p0,p1,p2,p3⟩:=rq h1 k (bZ sp.b6 (g++k));have hd:dw (j6 sp.b6) (g++k)=k:=by rw[←p0]; exact lZ g k
 have hlen:ids.length=(ai (sp.H0 (g++k))).length:=by rw[dA]; simp only[aG.H0,p1,p2]
 have Yf:∀ j,j<ids.length→ids[j]? = some ((bu H ids).at j):=fun j q=>fE (e:=bu H ids) q;have N:∀ j,j<ids.length→∃ sh o g1 A,sp.b6[j]? = some sh∧H[(bu H ids).at j]? = some o∧fG H (bu H ids) (pe (iD sp) ids) sh o=some (true,g1) ∧
   (sp.H0 (g++k))[j]? = some (dQ (bZ sp.b6 (g++k)) sh (g1++A)) ∧
   (bZ sp.b6 (g++k)).ad j=sh.up∧(∀ ks v rows,o=.vec ks v rows→(bZ sp.b6 (g++k)).len j=rows.length)∧sh.up=0∧(bu H ids).up j=oY o:=by
  intro j q;have X:j<sp.b6.length:=by omega
  obtain⟨i,o,g1,A,B,t,y,w,M,R⟩:=p3 j sp.b6[j] (bC X);have Yg:=B;rw[Yf j q]at B;cases B;refine⟨sp.b6[j],o,g1,A,bC X,t,y,w,M,R,?_,?_⟩
  ·have := cC.1 Yd sp.b6[j] (pY X)
   exact aR this
  ·simp only [bx.up, bu, cD, b7]
   rw[Yg];simp only[eZ,nW,oZ];rw[t]
 have hK:∀ E E0,E.H=ai H→ak E→u9 (bu H ids) (bif iD sp then (dV H.length).filter (gj ids) else []) E E0→E0.H=ai (sp.H0 (g++k)) →
   gg H (bu H ids) (pe (iD sp) ids) (bZ sp.b6 (g++k)) E E0:=by
  intro E E0 J HE D I;refine { hH:=J,HE:=HE,free:=fun i hi b n hb=>?_,cr:=D.toKeepIn,obj:=fun j o a=>?_ }
  ·refine D.Ov i ?_ b n hb
   have U:=az hb;rw[HE.len,J,dA]at U;unfold pe at hi;split at hi
   ·rename_i hs
    rw[hs];simp only[cond_true,n_,List.mem_range];exact⟨U,hi⟩
   ·cases hi
  ·have q:j<ids.length:=by
    rcases gr j ids.length with U|Yh
    ·exact U
    ·have h1 := az a
     have h2:=oW (e:=bu H ids) Yh;have Y:(bu H ids).base=H.length:=rfl;omega
   refine⟨q,?_⟩;obtain⟨sh,o',g1,A,B,t,y,w,M,R,V,q8⟩:=N j q;rw[a]at t;cases t;obtain⟨r1,r2,r3⟩:=zq (lens:=bZ sp.b6 (g++k)) (d:=g1++A) y;exact⟨r1,⟨_,by rw[I]; exact aU w,by rw[M]; exact r2⟩,fun o0 h0=>by rw[I,aU w]at h0; cases h0; rw[zn,zo y],R,fun _=>by rw[M]; exact V⟩
 have:=frame (P:=P) (f:=sp.f) (iD sp) (bif iD sp then (dV H.length).filter (gj ids) else []) (e:=bu H ids) (H:=ai H) (args:=sp.args0 (g++k)) (H0:=ai (sp.H0 (g++k)))
  (H1:=ai (sp.H1 r)) (v:=sp.out r) (args0:=as) (hc _ _ hF) hlen (by rw[dA]; rfl) W ?_ ?_ (nz Ye) ?_ (fun hs=>by rw[hs]; rfl) ?_ ?_ ?_ ?_ ?_ ?_ ?_
 ·rw [OW]
  exact this
 ·intro j o a
  have q:j<ids.length:=by rw[hlen]; exact az a
  obtain⟨sh,o',g1,A,B,t,y,w,M,R,V,q8⟩:=N j q;obtain⟨r1,r2,r3⟩:=zq (lens:=bZ sp.b6 (g++k)) (d:=g1++A) y;rw[aU w]at a;cases a;refine⟨o'.den,aU t,ab.xn r2,fun v=>?_⟩;rw[r1,r2,V,q8];simp only[aK];constructor
  ·rintro rfl
   exact⟨0,rfl,by omega⟩
  ·rintro ⟨u, rfl, rfl⟩
   omega
 ·intro E E0 J HE D I j o a
  have q:j<ids.length:=by rw[hlen]; exact az a
  obtain⟨sh,o',g1,A,B,t,y,w,M,R,V,q8⟩:=N j q;rw[aU w]at a;cases a;exact FF (hK E E0 J HE D I) y A q (fun l hl=>D.gV j _ l (by rw[I]; exact aU w) (by rw[oX,hl])) (HE.obj _ _ (by rw[J]; exact aU t))
 ·rw [dA, dA]
  simp only[aG.H0,aG.H1,zC];exact hle
 ·intro hs
  simp only[iD,aq]at hs;exact OU (F0 hs.1)
 ·intro hs
  simp only[iD,aq]at hs;exact F1 hs.2
 ·intro i hi
  cases hs:iD sp with
  | true =>
   rw[hs]at hi;simp only[cond_true,n_]at hi;exact FJ hi.2
  | false =>
   rw[hs]at hi;simp at hi
 ·intro j o o' a O
  have q:j<ids.length:=by rw[hlen]; exact az a
  obtain⟨sh,o2,g1,A,B,t,y,w,_⟩:=N j q;rw[aU w]at a;rw[aU t]at O;cases a;cases O;rw[FA y,oX]
 ·intro j o l a hl
  obtain⟨sh,h5,h6⟩:=O2 (show (ai (ca (bZ sp.eK r) sp.eK r))[j]? = some o from a);obtain⟨Yi,h7,h8⟩:=zI hlab j sh l h5 (by rw[←h6,hl]);obtain⟨o0,h9,Yj⟩:=Ga (bZ sp.b6 (g++k)) sp.b6 (g++k) j Yi h7;exact⟨o0,h9,by rw[Yj,h8]⟩
 ·intro j o o' a O
  have q:j<ids.length:=by rw[hlen]; exact az a
  obtain⟨sh,o2,g1,A,B,t,y,w,_⟩:=N j q;rw[aU w]at a;rw[aU t]at O;cases a;cases O;rw[zo y,zn]
 ·intro E E0 cs J HE D I hr
  have hS:=(rm (hK E E0 J HE D I) h2 []).2.2.2 cs hr;rw[cV]at hS;simp only[aG.args0,hd];exact hS
theorem O4{sp:aG}{as:List AV}{H H':List af}{v:AV}{b:Bool}{A:Nat}(h:l9 sp as H=some (b,v,H'))(d:A<H.length)(g:∀ ids,gY H (fun i=>as.getD i .undef) sp.ps []=some ids→A∉ids):H'[A]? = H[A]? := by
 unfold l9 at h;split at h
 ·cases h
 rename_i ids a;split at h
 ·cases h
 split at h
 case h_2=>cases h
 cases h;unfold g_;rw[cn (by rw[lV]; exact d)];exact u_ _ _ _ _ (g ids a)
theorem ao.dt{P:Program}{τ:al}(h:ao P τ){sp:aG}(D:dY P sp.f=true)(J:vq sp=true)
  (M:∀ d r,sp.F d=some r→c9 P sp.f (sp.args0 d) (ai (sp.H0 d)) (sp.out r) (ai (sp.H1 r))):ao P (τ.dt sp):=by
 refine⟨h.T,fun g as H b v H' a w=>?_,fun g as H b v H' a A i k=>?_,fun g as H t a Q N=>?_,fun g l as H=>?_,fun g q as H b v H' a id o k hid=>?_⟩
 rotate_left 2
 ·obtain ⟨g1, v, H', g2, g3, g4⟩ := h.I g as H t a Q N
  refine⟨g1,v,H',g2,fun A i k=>g3 A (fun hm=>i ?_) k,g4⟩;simp only[al.dt];split
  ·exact Li _ hm
  ·exact hm
 ·simp only [al.dt] at l ⊢
  cases e:ah g sp.f with
  |true=>rw[e]at l; cases l
  | false =>
   rw[e]at l;exact h.F.1 g l as H
 ·simp only [al.dt] at q a hid ⊢
  cases e:ah g sp.f with
  | false =>
   rw[e]at q a hid;exact h.F.2 g q as H b v H' a id o k hid
  | true =>
   rw[e]at q a hid;simp only[]at q a hid⊢;split at q
   case h_2=>cases q
   rename_i l hs;have B:∀ H,τ.W g as H=none:=fun H=>(h.F.1 g l as H).1;have y:∀ H,τ.C g as H=[]:=fun H=>(h.F.1 g l as H).2;rw[B]at a;split at a
   case h_2=>cases a
   rename_i r hr;cases a;obtain⟨O,ids,R,U⟩:=O1 hs q hr (o:=o) k fun ids u hm=>hid (kA _ (by rw[u]; exact hm));rw[O];refine⟨rfl,?_⟩;rw[R,U,y,y]
 simp only[al.dt]at a;split at a
 ·rename_i e
  have e:=aR e;subst e;split at a
  ·rename_i r hr
   cases a;subst w;exact⟨D,O3 J M hr⟩
  ·exact h.W _ as H b v H' a w
 ·exact h.W g as H b v H' a w
 simp only[al.dt]at a i;split at a
 ·rename_i e
  rw[e]at i;simp only[]at i;split at a
  ·rename_i r hr
   cases a;exact O4 hr k fun ids u hm=>i (kA _ (by rw[u]; exact hm))
  ·exact h.C g as H b v H' a A (fun hm=>i (Li _ hm)) k
 ·rename_i e
  rw[e]at i;exact h.C g as H b v H' a A i k
end Go.AL

namespace Go.AL
open Go
variable [Dr]
def aA{β:Type}(t:Option (List G))(k:List G→Option β):Option β:=bif t.isSome then k (t.getD []) else none
def hG{β:Type}(b:Bool)(t:Option (List G))(k:List G→Option β):Option β:=bif b then k (t.getD []) else none
def bD{β:Type}(b:Bool)(r:Option (Nat × List G))(k:Nat→List G→Option β):Option β:=bif (b&&r.isSome) then k (zy r) (zz r) else none
def O5:Kd→G→G
 |.int _,g=>.i g.int
 |.str,g=>.s g.str
 |.bool,g=>.t g.bool
 |.list _,g=>.l g.rows
def bM:List Kd→List G→List G
 | [],_=>[]
 |k::ks,r=>O5 k (r.headD default)::bM ks r.tail
def al.vr(τ:al)(a:List FuncId):al:={ τ with pf:=fun g=>match a.any (fun x=>ah x g)with
 |true=>false
 |false=>τ.pf g }
def al.j_(τ:al)(a:List FuncId):al:={ τ with pf:=fun g=>match a.any (fun x=>ah x g)with
 |true=>true
 |false=>τ.pf g }
theorem ao.j_{P:Program}{τ:al}(h:ao P τ)(a:List FuncId):ao P (τ.j_ a):=⟨h.T,h.W,h.C,h.I,h.F⟩
theorem ao.vr{P:Program}{τ:al}(h:ao P τ)(a:List FuncId):ao P (τ.vr a):=⟨h.T,h.W,h.C,h.I,h.F⟩
inductive jF (st:List G→Option (Option Nat × List G)):Nat→List G→Nat→List G→Prop
 |stop {d d':List G} {x:Nat} (h:st d=some (some x,d')):jF st 1 d x d'
 |next {d d1 d':List G} {x n:Nat} (h:st d=some (none,d1)) (h':jF st n d1 x d'):jF st (n+1) d x d'
theorem jF.iter{st:List G→Option (Option Nat × List G)}{n:Nat}{d d':List G}{x:Nat}(h:jF st n d x d'):∀ m,n≤m→nv st m d=some (x,d'):=by
 induction h with
 | stop h =>
  intro m hm;cases m with
  |zero=>omega
  |succ m=>simp only[nv,h]
 | next h _ a =>
  intro m hm;cases m with
  |zero=>omega
  |succ m=>simp only[nv,h]; exact a m (by omega)
theorem jF.O6{st:List G→Option (Option Nat × List G)}{n:Nat}{d d':List G}{x:Nat}(h:jF st n d x d')(a:n≤1000000):cf st d=some (x,d'):=h.iter _ a
end Go.AL

namespace Go.AL
open Go
variable [Dr]
inductive Hint where
 |freeze (slot:Nat)
 |Gb (slot:Nat) (ks:List Kd)
 |vt (slot c:Nat) (ks:List Kd)
 |Gc (slot:Nat)
 |vu (slot c:Nat)
 |hole (ks:List Kd)
 |Gd
 |aM (slot l:Nat)
 |Ge (slot:Nat)
 |mm (slot l:Nat) (KI VI:Ct)
 |Gf (slot c l:Nat) (KI VI:Ct)
 |forget (id:Nat)
 |Gg (slot c:Nat) (ks:List Kd)
def vw(slot:Nat)(s:aj):Bool × aj :=
 match s.fr.getD slot .undef with
 | .vec w id ad off n=>match s.H[id]? with
  |some (.vec ks v rows)=>if ad=v∧off=0∧w=ks.length then (ah n rows.length,⟨s.fr.set slot (.listF ks rows),s.H.set id (.raw .dead)⟩) else (true,s)
  |_=>(true,s)
 |_=>(true,s)
def zJ(slot c:Nat)(ks:List Kd)(s:aj):Bool × aj :=
 match s.fr.getD slot .undef with
 | .ptr id _ _ _ _=>match s.H[id]? with
  | some (.raw (.box cells))=>match cells[c]? with
   | some a=>match isNil a with
    |true=>(true,⟨s.fr,s.H.set id (.raw (.box (cells.set c (.vec ks.length s.H.length 0 0 0))))++[.vec ks 0 []]⟩)
    |false=>(true,s)
   |none=>(true,s)
  |_=>(true,s)
 |_=>(true,s)
def vz(slot c:Nat)(s:aj):Bool × aj :=
 match s.fr.getD slot .undef with
 | .ptr id _ _ _ _=>match s.H[id]? with
  | some (.raw (.box cells))=>match cells[c]? with
   | some (.vec w a ad off n)=>match s.H[a]? with
    |some (.vec ks v rows)=>if ad=v∧off=0∧w=ks.length then (ah n rows.length,⟨s.fr,(s.H.set a (.raw .dead)).set id (.raw (.box (cells.set c (.listF ks rows))))⟩) else (true,s)
    |_=>(true,s)
   |_=>(true,s)
  |_=>(true,s)
 |_=>(true,s)
def vA(slot:Nat)(s:aj):Bool × aj :=
 match s.fr.getD slot .undef with
 | .vec w id ad off n=>match s.H[id]? with
  |some (.vec ks v rows)=>if ad=v∧off=0∧w=ks.length then (eM n rows.length,⟨s.fr.set slot (.vec w id (v+1) 0 n),s.H.set id (.vec ks (v+1) (rows.take n))⟩) else (true,s)
  |_=>(true,s)
 |_=>(true,s)
def vB(slot l:Nat)(s:aj):Bool × aj :=
 match s.fr.getD slot .undef with
 | .map id=>match s.H[id]? with
  |some (.map K (.one (.list ks)) [] cl)=>(kI (ai s.H) l,⟨s.fr,s.H.set id (.aM l K ks [] cl)⟩)
  |_=>(true,s)
 |_=>(true,s)
def O7(rows:List (List G)):Bool:=rows.all fun r=>(gi r 3).bool
def vC(slot:Nat)(s:aj):Bool × aj :=
 match s.fr.getD slot .undef with
 | .map id=>match s.H[id]? with
  |some (.aM _ K ks rows cl)=>(O7 rows,⟨s.fr,s.H.set id (.map K (.one (.list ks)) rows cl)⟩)
  |_=>(true,s)
 |_=>(true,s)
def vD(slot l:Nat)(KI VI:Ct)(s:aj):Bool × aj :=
 match s.fr.getD slot .undef with
 | .map id=>match s.H[id]? with
  |some (.map K _ [] cl)=>(kI (ai s.H) l,⟨s.fr,s.H.set id (.mm l K KI VI [] [] cl)⟩)
  |_=>(true,s)
 |_=>(true,s)
def vE(slot c l:Nat)(KI VI:Ct)(s:aj):Bool × aj :=
 match s.fr.getD slot .undef with
 | .ptr a _ _ _ _=>match s.H[a]? with
  | some (.raw (.box cells))=>match cells[c]? with
   | some (.map id)=>match s.H[id]? with
    |some (.map K _ rows cl)=>(o9 (kI (ai s.H) l) rows.isEmpty,⟨s.fr,s.H.set id (.mm l K KI VI [] [] cl)⟩)
    |_=>(true,s)
   |_=>(true,s)
  |_=>(true,s)
 |_=>(true,s)
def zK(id:Nat)(s:aj):Bool × aj :=
 match s.H[id]? with
 |some (.raw (.box _))=>(true,⟨s.fr,s.H.set id (.vec [] 1 [])⟩)
 |some (.map ..)=>(true,⟨s.fr,s.H.set id (.vec [] 1 [])⟩)
 |some (.mm ..)=>(true,⟨s.fr,s.H.set id (.vec [] 1 [])⟩)
 |_=>(true,s)
def zL(slot c:Nat)(ks:List Kd)(s:aj):Bool × aj :=
 match s.fr.getD slot .undef with
 | .ptr id _ _ _ _=>match s.H[id]? with
  | some (.raw (.box cells))=>match cells[c]? with
   | some (.list w rows)=>match j5 ks rows with
    |some gs=>if w=ks.length then (true,⟨s.fr,s.H.set id (.raw (.box (cells.set c (.listF ks gs))))⟩) else (true,s)
    |none=>(true,s)
   |_=>(true,s)
  |_=>(true,s)
 |_=>(true,s)
def vF:Hint→aj→Bool × aj
 |.freeze i,s=>vw i s
 | .Gb i ks,s=>match isNil (s.fr.getD i .undef) with
  |true=>(true,rf i ks s)
  |false=>(true,s)
 |.vt i c ks,s=>zJ i c ks s
 |.Gc i,s=>vA i s
 |.vu i c,s=>vz i c s
 |.hole ks,s=>(true,⟨s.fr,s.H++[.vec ks 0 []]⟩)
 |.Gd,s=>(true,⟨s.fr,s.H++[.raw .c6]⟩)
 |.aM i l,s=>vB i l s
 |.Ge i,s=>vC i s
 |.mm i l KI VI,s=>vD i l KI VI s
 |.Gf i c l KI VI,s=>vE i c l KI VI s
 |.forget i,s=>zK i s
 |.Gg i c ks,s=>zL i c ks s
def rD:List Hint→aj→Bool × aj
 | [],s=>(true,s)
 | h::hs,s=>match vF h s with
  | (b,s1)=>match rD hs s1 with
   |(a,s2)=>(b&&a,s2)
theorem O8{m:Nat}{slot:Nat}{s:aj}(h:(vw slot s).1=true):a7 m s.den (vw slot s).2.den:=by
 unfold vw at h⊢;split
 case h_2=>exact a7.refl _
 rename_i w id ad off n A;split
 case h_2=>exact a7.refl _
 rename_i ks v rows hid;split
 case isFalse=>exact a7.refl _
 rename_i q;obtain⟨rfl,rfl,rfl⟩:=q;simp only[A,hid,and_self,if_true]at h;have N:=aR h;subst N;intro E a hs;have hH:E.H=ai s.H:=hs.H;have hle:=Env.og hs.heap id;have J:=ak.drop hs.heap id fun o d=>by
  rw[show E.H[id]? = some (.vec ks.length ad (rows.map (ax ks))) by rw[hH]; exact aU hid]at d;cases d;rfl
 have u:ai (s.H.set id (.raw .dead))=E.H.set id .dead:=by rw[cI,hH]; rfl
 refine⟨E.loc.set id none,E.X,?_,?_⟩
 ·simp only [aj.den]
  rw[u];refine⟨rfl,?_,hs.defers,J⟩;refine vh (cR hle _ hs.fr) fun c q=>?_;have hr:=zw hs.fr q;rw[show s.den.fr=s.fr from rfl,A]at hr;have y:E.H[id]? = some (.vec ks.length ad (rows.map (ax ks))):=by rw[hH]; exact aU hid
  have d:=hs.heap.obj id _ y;rw[gM];simp only[rel]at hr⊢;obtain⟨⟨base,cap,rfl,I,_⟩,_,t⟩:=hr;obtain⟨V,O⟩:=t ⟨_,y,rfl⟩;have B:dW (rows.map (ax ks)):=by
   intro r hr;obtain⟨g,_,rfl⟩:=dJ.1 hr;exact eO ks g
  refine⟨B,base,cap,by simp,by simpa using I,?_⟩;simp only[aD]at d;rcases d with⟨h1,D⟩|⟨b,mm,h1,D,t,_,R⟩
  ·exact .inl D
  ·obtain ⟨g1, o, g2, g3⟩ := O b mm h1
   by_cases hm:rows=[]
   ·subst hm; exact .inl rfl
   ·right
    have:0<rows.length:=by cases rows with|nil=>exact(hm rfl).elim|cons _ _=>simp
    simp at t;have d:=g2 (by omega);simp at d;subst d;simp only[iM]at g3;refine⟨b,0,g3.1,⟨(hs.heap.lt id b mm h1).1,?_,(hs.heap.lt id b mm h1).2⟩,jk hle.toC _ B rfl R⟩;rintro(⟨j,U,i⟩|⟨l,k,U,i⟩)
    case inr=>exact hs.heap.cd _ _ _ _ _ _ h1 i
    simp only[dy]at i;split at i
    ·split at i<;>cases i
    ·rename_i M
     exact M (hs.heap.inj _ _ _ _ _ h1 i)
 ·simp only [aj.den]
  rw[u];exact hle.toM
theorem O9{m:Nat}{slot c:Nat}{ks:List Kd}{s:aj}:a7 m s.den (zJ slot c ks s).2.den:=by
 unfold zJ;split
 case h_2=>exact a7.refl _
 rename_i id ad k row col Yf;split
 case h_2=>exact a7.refl _
 rename_i cells hid;split
 case h_2=>exact a7.refl _
 rename_i a0 Yd;split
 case h_2=>exact a7.refl _
 rename_i U;intro E a hs;have hH:E.H=ai s.H:=hs.H;have hlen:E.H.length=s.H.length:=by rw[hH,dA]
 have hle:E.le (E.push E.w (.vec ks.length 0 []) none):=Env.il hs.heap.len (Ext.refl _) (fun b n h=>by cases h);have V:aD (E.push E.w (.vec ks.length 0 []) none) E.H.length (.vec ks.length 0 []):=by
  simp only[aD,Env.push];refine .inl ⟨?_,trivial⟩;rw[gI (by rw[hs.heap.len]; exact aB _),hs.heap.len,mE];rfl
 have l:ak (E.push E.w (.vec ks.length 0 []) none):=ak.push hs.heap (Ext.refl _) (fun b n h=>by cases h) V;generalize q:E.push E.w (.vec ks.length 0 []) none=d at hle l;have u:d.w=E.w:=by rw[←q]; rfl
 have y:d.X=E.X:=by rw[←q]; rfl
 have A:d.H=ai (s.H++[.vec ks 0 []]):=by rw[←q,fQ,←hH]; rfl
 have I:id<s.H.length:=az hid;have r:d.H[id]? = some (.box cells):=by
  rw[A];exact aU (H:=s.H++[.vec ks 0 []]) (o:=.raw (.box cells)) (by rw[cn I]; exact hid)
 have O:=l.obj id _ r;simp only[aD]at O;obtain⟨b,n,h1,h2,B⟩:=O;have J:∀ v,(ab.box (cells.set c (.vec ks.length s.H.length 0 0 0))).aw = some v→(ab.box cells).aw = some v:=fun v D=>by simpa[ab.aw]using D
 have t:=Env.kH (o':=.box (cells.set c (.vec ks.length s.H.length 0 0 0))) (w':=d.w) l r h1 J rfl (fun _ _=>rfl);have W:d.H[s.H.length]? = some (.vec ks.length 0 []):=by
  rw[A];have e:(s.H++[af.vec ks 0 []])[s.H.length]? = some (af.vec ks 0 []):=by rw[gI (aB _),mE]; rfl
  exact aU e
 have Y:d.loc[s.H.length]? = some none:=by
  rw[←q];simp only[Env.push];rw[gI (by rw[hs.heap.len]; omega),hs.heap.len,hlen,mE];rfl
 have Yc:∀ v,rel d a0 v→rel { w:=d.w,H:=d.H.set id (.box (cells.set c (.vec ks.length s.H.length 0 0 0))),loc:=d.loc,X:=d.X } (.vec ks.length s.H.length 0 0 0) v:=by
  intro v D;obtain⟨base,rfl⟩:=Fj U D;simp only[rel];have Ye:id≠s.H.length:=by omega
  refine⟨⟨base,0,rfl,aB _,fun h=>absurd h (n5 _)⟩,⟨.vec ks.length 0 [],by rw[aJ Ye]; exact W,rfl,fun v h=>fI _⟩,fun _=>⟨fun _=>⟨trivial,trivial,base,rfl⟩,fun b m R=>?_⟩⟩;rw[Y]at R;cases R
 have M:=ak.set (w':=d.w) l r h1 J rfl (fun _ _=>rfl) (by
  simp only[aD];refine⟨b,n,h1,by simpa using h2,?_⟩;rw[gz]at B⊢;intro i x g;rw[dy]at g;split at g
  ·rename_i e
   subst e;split at g
   ·cases g
    obtain⟨v,g1,g2,g3⟩:=B c a0 Yd;exact⟨v,g1,g2,Yc v g3⟩
   ·cases g
  ·obtain ⟨v, g1, g2, g3⟩ := B i x g
   exact⟨v,g1,g2,bA t x g3⟩)
 have N:ai (s.H.set id (.raw (.box (cells.set c (.vec ks.length s.H.length 0 0 0))))++[.vec ks 0 []])=d.H.set id (.box (cells.set c (.vec ks.length s.H.length 0 0 0))):=by
  rw[A,fQ,fQ,cI,CF _ _ (by rw[dA]; exact I)];rfl
 refine⟨d.loc,E.X,?_,?_⟩
 ·simp only [aj.den]
  rw[N];rw[u,y]at M;refine⟨rfl,?_,hs.defers,M⟩;have:=cR t _ (cR hle _ hs.fr);rw[u,y]at this;exact this
 ·simp only [aj.den]
  rw[N];have:=(hle.trans t).toM (m:=m);rw[u,y]at this;exact this
theorem O_{m:Nat}{slot c:Nat}{s:aj}(h:(vz slot c s).1=true):a7 m s.den (vz slot c s).2.den:=by
 unfold vz at h⊢;split
 case h_2=>exact a7.refl _
 rename_i id Yf k row col Yc;split
 case h_2=>exact a7.refl _
 rename_i cells hid;split
 case h_2=>exact a7.refl _
 rename_i w g ad off n D;split
 case h_2=>exact a7.refl _
 rename_i ks v rows y;split
 case isFalse=>exact a7.refl _
 rename_i hc;obtain⟨rfl,rfl,rfl⟩:=hc;simp only[Yc,hid,D,y,and_self,if_true]at h;have hn:=aR h;subst hn;intro E a hs;have hH:E.H=ai s.H:=hs.H;have R:id≠g:=fun e=>by
  rw[e,y]at hid;cases hid
 have J:E.H[id]? = some (.box cells):=by rw[hH]; exact aU hid
 have I:E.H[g]? = some (.vec ks.length ad (rows.map (ax ks))):=by rw[hH]; exact aU y
 obtain⟨b0,n0,k1,k2,V⟩:=hs.heap.obj id _ J;rw[gz]at V;obtain⟨cv,c1,c2,c3⟩:=V c _ D;have U:=DR hs.heap I c3;have hle:=Env.og hs.heap g;have t:=ak.drop hs.heap g fun o W=>by
  rw[I]at W;cases W;rfl
 generalize q:({ w:=E.w,H:=E.H.set g .dead,loc:=E.loc.set g none,X:=E.X }:Env)=d at hle t U;have u:d.w=E.w:=by rw[←q]
 have B:d.X=E.X:=by rw[←q]
 have A:d.H[id]? = some (.box cells):=by
  rw[←q];show (E.H.set g .dead)[id]? = _
  rw[aJ (Ne.symm R)];exact J
 have Yd:d.loc[id]? = some (some (b0,n0)):=by
  rw[←q];show (E.loc.set g none)[id]? = _
  rw[aJ (Ne.symm R)];exact k1
 obtain⟨b,n,h1,h2,Y⟩:=t.obj id _ A;have Ye:b=b0:=by
  rw[Yd]at h1;cases h1;rfl
 subst Ye;have M:∀ v,(ab.box (cells.set c (.listF ks rows))).aw = some v→(ab.box cells).aw = some v:=fun v hv=>by simpa[ab.aw]using hv
 have r:=Env.kH (o':=.box (cells.set c (.listF ks rows))) (w':=d.w) t A h1 M rfl (fun _ _=>rfl);have N:=ak.set (w':=d.w) t A h1 M rfl (fun _ _=>rfl) (by
  simp only[aD];refine⟨b,n,h1,by simpa using h2,?_⟩;rw[gz]at Y⊢;intro i x l;rw[dy]at l;split at l
  ·rename_i e
   subst e;split at l
   ·cases l
    refine⟨cv,by rw[show ({ w:=d.w,H:=_,loc:=d.loc,X:=d.X }:Env).w=E.w from u]; exact c1,c2,bA r _ U⟩
   ·cases l
  ·obtain ⟨v, g1, g2, g3⟩ := Y i x l
   exact⟨v,g1,g2,bA r x g3⟩)
 have O:ai ((s.H.set g (.raw .dead)).set id (.raw (.box (cells.set c (.listF ks rows)))))=d.H.set id (.box (cells.set c (.listF ks rows))):=by
  rw[cI,cI,←hH,←q];rfl
 refine⟨d.loc,E.X,?_,?_⟩
 ·simp only [aj.den]
  rw[O];rw[u,B]at N;refine⟨rfl,?_,hs.defers,N⟩;have:=cR r _ (cR hle _ hs.fr);rw[u,B]at this;exact this
 ·simp only [aj.den]
  rw[O];have:=(hle.trans r).toM (m:=m);rw[u,B]at this;exact this
theorem O'{m:Nat}{slot c:Nat}{ks:List Kd}{s:aj}:a7 m s.den (zL slot c ks s).2.den:=by
 unfold zL;split
 case h_2=>exact a7.refl _
 rename_i id J k row col M;split
 case h_2=>exact a7.refl _
 rename_i cells hid;split
 case h_2=>exact a7.refl _
 rename_i w rows t;split
 case h_2=>exact a7.refl _
 rename_i gs y;split
 case isFalse=>exact a7.refl _
 rename_i hw;subst hw;intro E a hs;have hH:E.H=ai s.H:=hs.H;have h:E.H[id]? = some (.box cells):=by rw[hH]; exact aU hid
 obtain⟨b,n,h1,A,l⟩:=hs.heap.obj id _ h;have q:∀ v,(ab.box (cells.set c (.listF ks gs))).aw = some v→(ab.box cells).aw = some v:=fun v B=>by simpa[ab.aw]using B
 have g:=Env.kH (o':=.box (cells.set c (.listF ks gs))) (w':=E.w) hs.heap h h1 q rfl (fun _ _=>rfl);have u:=ak.set (w':=E.w) hs.heap h h1 q rfl (fun _ _=>rfl) (by
  simp only[aD];refine⟨b,n,h1,by simpa using A,?_⟩;rw[gz]at l⊢;intro i x d;rw[dy]at d;split at d
  ·rename_i e
   subst e;split at d
   ·cases d
    obtain⟨D,c1,c2,I⟩:=l c _ t;refine⟨D,c1,c2,bA g _ ?_⟩;rw[gM,nc y];exact I
   ·cases d
  ·obtain ⟨v, g1, g2, g3⟩ := l i x d
   exact⟨v,g1,g2,bA g x g3⟩)
 have r:ai (s.H.set id (.raw (.box (cells.set c (.listF ks gs)))))=E.H.set id (.box (cells.set c (.listF ks gs))):=by rw[cI,←hH]; rfl
 refine⟨E.loc,E.X,?_,?_⟩
 ·simp only [aj.den]
  rw[r];exact⟨rfl,cR g _ hs.fr,hs.defers,u⟩
 ·simp only [aj.den]
  rw[r];exact g.toM
theorem Pa{m:Nat}{slot:Nat}{s:aj}(h:(vA slot s).1=true):a7 m s.den (vA slot s).2.den:=by
 unfold vA at h⊢;split
 case h_2=>exact a7.refl _
 rename_i w id ad off n D;split
 case h_2=>exact a7.refl _
 rename_i ks v rows hid;split
 case isFalse=>exact a7.refl _
 rename_i q;obtain⟨rfl,rfl,rfl⟩:=q;simp only[D,hid,and_self,if_true]at h;have W:=pX h;intro E a hs;have hH:E.H=ai s.H:=hs.H;have k:E.H[id]? = some (.vec ks.length ad (rows.map (ax ks))):=by rw[hH]; exact aU hid
 have O:=hs.heap.obj id _ k;obtain⟨l,t⟩:∃ l,E.loc[id]? = some l:=by
  have:id<E.loc.length:=by rw[hs.heap.len]; exact az k
  exact⟨_,bC this⟩
 have I:E.loc.set id l=E.loc:=jW t;have B:ai (s.H.set id (.vec ks (ad+1) (rows.take n)))=E.H.set id (.vec ks.length (ad+1) ((rows.take n).map (ax ks))):=by rw[cI,hH]; rfl
 have U:∀ b n,l=some (b,n)→E.w.heap.size≤b∨∃ m,E.loc[id]? = some (some (b,m)):=fun b n y=>.inr ⟨n,by rw[t,y]⟩;have J:∀ v u,(ab.vec ks.length (ad+1) ((rows.take n).map (ax ks))).aw = some v→(ab.vec ks.length ad (rows.map (ax ks))).aw = some u→u≤v:=by
  intro v u h1 d;simp[ab.aw]at h1 d;omega
 have M:∀ v,(ab.vec ks.length (ad+1) ((rows.take n).map (ax ks))).aw = some v→∀ u,(ab.vec ks.length ad (rows.map (ax ks))).aw = some u→u<v:=by
  intro v h1 u d;simp[ab.aw]at h1 d;omega
 have hle:=Env.im (o':=.vec ks.length (ad+1) ((rows.take n).map (ax ks))) (l:=l) (w':=E.w) k hs.heap.len (aB _) (fun _ _ _=>rfl) U (.inr M) J (fun _ h=>by simp[ab.aw]at h);have N:=ak.jm (o':=.vec ks.length (ad+1) ((rows.take n).map (ax ks))) (l:=l) (w':=E.w) hs.heap k (aB _) (fun _ _ _=>rfl) (fun b n y=>.inr ⟨n,by rw[t,y]⟩) (.inr M) J (fun _ h=>by simp[ab.aw]at h) (by
  rw[I]at hle⊢;simp only[aD]at O⊢;rcases O with⟨h1,d⟩|⟨b,mm,h1,d,A,Y,R⟩
  ·left
   refine⟨h1,?_⟩;have:rows=[]:=by simpa using d
   rw[this];simp
  ·right
   refine⟨b,mm,h1,d,by simp at A⊢; omega,?_,?_⟩
   ·intro r hr
    obtain⟨g,_,rfl⟩:=dJ.1 hr;exact eO ks g
   ·rw [jQ] at R ⊢
    intro i r hi;simp only[b7,ll]at hi;split at hi
    ·obtain ⟨g1, g2⟩ := R i r (by simpa using hi)
     exact⟨g1,p_ (fun a c hr=>bA hle a hr) rfl g2⟩
    ·simp at hi)
 rw[I]at hle N;refine⟨E.loc,E.X,?_,?_⟩
 ·simp only [aj.den]
  rw[B];refine⟨rfl,?_,hs.defers,N⟩;refine vh (cR hle _ hs.fr) fun c q=>?_;have hr:=zw hs.fr q;rw[show s.den.fr=s.fr from rfl,D]at hr;simp only[rel]at hr⊢;obtain⟨h1,d,A⟩:=hr;exact⟨h1,⟨.vec ks.length (ad+1) ((rows.take n).map (ax ks)),bd (az k),rfl,fun v V=>by simp[ab.aw]at V; omega⟩,fun _=>A ⟨_,k,rfl⟩⟩
 ·simp only [aj.den]
  rw[B];exact hle.toM
theorem Pb{m:Nat}{ks:List Kd}{s:aj}:a7 m s.den (aj.den ⟨s.fr,s.H++[.vec ks 0 []]⟩):=fun E a hs=>by
 have hH:E.H=ai s.H:=hs.H;have hle:E.le (E.push E.w (.vec ks.length 0 []) none):=Env.il hs.heap.len (Ext.refl _) (fun b n h=>by cases h);have g:aD (E.push E.w (.vec ks.length 0 []) none) E.H.length (.vec ks.length 0 []):=by
  simp only[aD,Env.push];refine .inl ⟨?_,trivial⟩;rw[gI (by rw[hs.heap.len]; exact aB _),hs.heap.len,mE];rfl
 have i:ak (E.push E.w (.vec ks.length 0 []) none):=ak.push hs.heap (Ext.refl _) (fun b n h=>by cases h) g;have d:(aj.den ⟨s.fr,s.H++[.vec ks 0 []]⟩).H=E.H++[.vec ks.length 0 []]:=by
  rw[hH];simp[aj.den,ai,af.den]
 refine⟨E.loc++[none],E.X,?_,?_⟩
 ·rw [d]
  exact⟨d.symm,cR hle _ hs.fr,hs.defers,i⟩
 ·rw [d]
  exact hle.toM
theorem Pc{m:Nat}{s:aj}:a7 m s.den (aj.den ⟨s.fr,s.H++[.raw .c6]⟩):=fun E a hs=>by
 have hH:E.H=ai s.H:=hs.H;have hle:E.le (E.push E.w (.c6) none):=Env.il hs.heap.len (Ext.refl _) (fun b n h=>by cases h);have g:aD (E.push E.w (.c6) none) E.H.length (.c6):=by
  simp only[aD,Env.push];rw[gI (by rw[hs.heap.len]; exact aB _),hs.heap.len,mE];rfl
 have i:ak (E.push E.w (.c6) none):=ak.push hs.heap (Ext.refl _) (fun b n h=>by cases h) g;have d:(aj.den ⟨s.fr,s.H++[.raw .c6]⟩).H=E.H++[.c6]:=by
  rw[hH];simp[aj.den,ai,af.den]
 refine⟨E.loc++[none],E.X,?_,?_⟩
 ·rw [d]
  exact⟨d.symm,cR hle _ hs.fr,hs.defers,i⟩
 ·rw [d]
  exact hle.toM
theorem Pd{m:Nat}{slot l:Nat}{s:aj}(h:(vB slot l s).1=true):a7 m s.den (vB slot l s).2.den:=by
 unfold vB at h⊢;split
 case h_2=>exact a7.refl _
 rename_i id i;split
 case h_2=>exact a7.refl _
 rename_i K ks cl hid;simp only[i,hid]at h;intro E a hs;have hH:E.H=ai s.H:=hs.H;have g:E.H[id]? = some (.map [] cl):=by rw[hH]; exact aU hid
 obtain⟨h1,d⟩:=Mo (w:=ks.length) hs.heap g (by rw[hH]; exact h);have b:ai (s.H.set id (.aM l K ks [] cl))=E.H.set id (.aM l ks.length [] cl):=by rw[cI,hH]; rfl
 refine⟨E.loc,E.X,?_,?_⟩
 ·simp only [aj.den]
  rw[b];exact⟨rfl,cR d _ hs.fr,hs.defers,h1⟩
 ·simp only [aj.den]
  rw[b];exact d.toM
theorem Pe{m:Nat}{slot l:Nat}{KI VI:Ct}{s:aj}(h:(vD slot l KI VI s).1=true):a7 m s.den (vD slot l KI VI s).2.den:=by
 unfold vD at h⊢;split
 case h_2=>exact a7.refl _
 rename_i id i;split
 case h_2=>exact a7.refl _
 rename_i K V cl hid;simp only[i,hid]at h;intro E a hs;have hH:E.H=ai s.H:=hs.H;have g:E.H[id]? = some (.map [] cl):=by rw[hH]; exact aU hid
 obtain⟨h1,d⟩:=DJ hs.heap g (by rw[hH]; exact h);have b:ai (s.H.set id (.mm l K KI VI [] [] cl))=E.H.set id (.mm l [] [] cl):=by rw[cI,hH]; rfl
 refine⟨E.loc,E.X,?_,?_⟩
 ·simp only [aj.den]
  rw[b];exact⟨rfl,cR d _ hs.fr,hs.defers,h1⟩
 ·simp only [aj.den]
  rw[b];exact d.toM
theorem Pf{m:Nat}{slot c l:Nat}{KI VI:Ct}{s:aj}(h:(vE slot c l KI VI s).1=true):a7 m s.den (vE slot c l KI VI s).2.den:=by
 unfold vE at h⊢;split
 case h_2=>exact a7.refl _
 rename_i a _ _ _ _ i;split
 case h_2=>exact a7.refl _
 rename_i cells k;split
 case h_2=>exact a7.refl _
 rename_i id q;split
 case h_2=>exact a7.refl _
 rename_i K V rows cl hid;simp only[i,k,q,hid,o_]at h;obtain⟨h,he⟩:=h;have he:rows=[]:=by cases rows with|nil=>rfl|cons _ _=>cases he
 subst he;intro E act hs;have hH:E.H=ai s.H:=hs.H;have g:E.H[id]? = some (.map [] cl):=by rw[hH]; exact aU hid
 obtain⟨h1,d⟩:=DJ hs.heap g (by rw[hH]; exact h);have b:ai (s.H.set id (.mm l K KI VI [] [] cl))=E.H.set id (.mm l [] [] cl):=by rw[cI,hH]; rfl
 refine⟨E.loc,E.X,?_,?_⟩
 ·simp only [aj.den]
  rw[b];exact⟨rfl,cR d _ hs.fr,hs.defers,h1⟩
 ·simp only [aj.den]
  rw[b];exact d.toM
theorem ak.forget{E:Env}(H:ak E){id l0:Nat}{o:ab}(hid:E.H[id]? = some o)(hlab:o.label=some l0)(O:o.aw = some 0) :
  ak { w:=E.w,H:=E.H.set id (.vec 0 1 []),loc:=E.loc.set id none,X:=E.X.re (fZ E.X.r l0) }∧E.le { w:=E.w,H:=E.H.set id (.vec 0 1 []),loc:=E.loc.set id none,X:=E.X.re (fZ E.X.r l0) }:=by
 have A:=az hid;have R:id<E.loc.length:=by rw[H.len]; exact A
 have B:∀(i:Nat) x,(E.H.set id (.vec 0 1 []))[i]? = some x→(i=id∧x=.vec 0 1 [])∨(i≠id∧E.H[i]? = some x):=fun i x hi=>by
  by_cases d:i=id
  ·subst d
   rw[bd A]at hi;cases hi;exact .inl ⟨rfl,rfl⟩
  ·rw [aJ (Ne.symm d)] at hi
   exact .inr ⟨d,hi⟩
 have u:∀(i b m:Nat),(E.loc.set id none)[i]? = some (some (b,m))→i≠id∧E.loc[i]? = some (some (b,m)):=fun i b m hi=>by
  by_cases d:i=id
  ·subst d
   rw[bd R]at hi;cases hi
  ·rw [aJ (Ne.symm d)] at hi
   exact⟨d,hi⟩
 have hle:E.le { w:=E.w,H:=E.H.set id (.vec 0 1 []),loc:=E.loc.set id none,X:=E.X.re (fZ E.X.r l0) }:=by
  refine⟨fun i ad D=>?_,aB _,fun _ _ _=>rfl,fun b hb U=>?_,fun i ad D t=>?_,⟨rfl,rfl⟩,fun l h W=>?_,.refl _,fun i l x h1 g I=>?_⟩
  rotate_right
  ·by_cases d : i = id
   ·subst d
    obtain⟨y,q,J⟩:=I;rw[show (E.H.set i (.vec 0 1 []))[i]? = some (.vec 0 1 []) from bd A]at q;cases q;cases J
   ·have M : l ≠ l0 := fun M => d (H.uniq i id x o l h1 hid (ab.jh g) (by rw [M]; exact hlab))
    exact⟨⟨[],by rw[cV]; exact if_neg M⟩,x,by simp only[]; rw[aJ (Ne.symm d)]; exact h1,g⟩
  ·obtain ⟨x, h1, g⟩ := D
   by_cases d:i=id
   ·subst d
    rw[hid]at h1;cases h1;have:=g.2 0 O;exact⟨.vec 0 1 [],by simp only[]; rw[bd A],rfl,fun v I=>by cases I; omega⟩
   ·exact⟨x,by simp only[]; rw[aJ (Ne.symm d)]; exact h1,g⟩
  ·rintro (⟨i, c, hi⟩ | ⟨l, h, m, hm⟩)
   ·exact U (.inl ⟨i,c,(u i b c hi).2⟩)
   ·exact U (.inr ⟨l,h,m,(gB hm).1⟩)
  ·obtain ⟨x, h1, g⟩ := t
   rcases B i x h1 with⟨rfl,rfl⟩|⟨d,q⟩
   ·cases g
    obtain⟨y,q,J⟩:=D;rw[hid]at q;cases q;have:=J.2 0 O;omega
   ·exact⟨⟨x,q,g⟩,aJ (Ne.symm d)⟩
  ·refine ⟨?_, fun y N => (gB N).1⟩
   show h<(fZ E.X.r l0 l).length
   rw[DG];exact W
 refine⟨⟨by simp[H.len],fun i j b m n hi Y=>H.inj i j b m n (u _ _ _ hi).2 (u _ _ _ Y).2,fun i b m hi=>H.lt i b m (u _ _ _ hi).2,H.X,fun i x hi=>?_,H.dX.bh hle.toC,fun l h l' h' b m n h1 g=>H.dD _ _ _ _ _ _ _ (gB h1).1 (gB g).1,fun i b m l h n hi hk=>H.cd _ _ _ _ _ _ (u _ _ _ hi).2 (gB hk).1,fun l h b m hk=>H.bR _ _ _ _ (gB hk).1,fun i k x y l hi hk h1 g=>?_,fun l hn h y N=>?_⟩,hle⟩
 ·rcases B i x hi with ⟨rfl, rfl⟩ | ⟨d, q⟩
  ·simp only [aD]
   exact .inl ⟨bd R,trivial⟩
  ·refine iN (fun a _ hr => bA hle a hr) (aJ (Ne.symm d)) (fun _ _ _ => rfl) (fun l t => ?_) (H.obj i x q)
   have V:l≠l0:=fun e=>d (H.uniq i id x o l q hid t (by rw[hlab,e]));exact⟨if_neg V,fun _ _ _ _=>rfl⟩
 ·have key:∀ (i:Nat) x,(E.H.set id (.vec 0 1 []))[i]? = some x→x.label=some l→E.H[i]? = some x:=by
   intro i x hi t;rcases B i x hi with⟨rfl,rfl⟩|⟨d,q⟩
   ·cases t
   ·exact q
  exact H.uniq i k x y l (key i x hi h1) (key k y hk g) h1 g
 ·obtain ⟨g1, g2⟩ := gB N
  refine H.fc l (fun i x hi t=>?_) h y g1;by_cases e:i=id
  ·subst e
   rw[hid]at hi;cases hi;exact g2 (by rw[hlab]at t; cases t; rfl)
  ·exact hn i x (by show (E.H.set id (.vec 0 1 []))[i]? = _; rw[aJ (Ne.symm e)]; exact hi) t
theorem ak.Pg{E:Env}(H:ak E){id:Nat}{o:ab}(hid:E.H[id]? = some o)(hlab:o.label=none)(d:o.aw = some 0) :
  ak { w:=E.w,H:=E.H.set id (.vec 0 1 []),loc:=E.loc.set id none,X:=E.X }∧E.le { w:=E.w,H:=E.H.set id (.vec 0 1 []),loc:=E.loc.set id none,X:=E.X }:=by
 have l:=az hid;have k:id<E.loc.length:=by rw[H.len]; exact l
 have a:∀ v,(ab.vec 0 1 []).aw = some v→∀ u,o.aw = some u→u<v:=fun v b u hu=>by
  rw[d]at hu;cases hu;cases b;exact Nat.zero_lt_one
 have g:∀ v u,(ab.vec 0 1 []).aw = some v→o.aw = some u→u≤v:=fun v u b hu=>Nat.le_of_lt (a v b u hu);have i:o.born=true→o.aw = none→(ab.vec 0 1 []).aw = none:=fun _ h=>by rw[d]at h; cases h
 refine⟨ak.jm H hid (aB _) (fun _ _ _=>rfl) (fun _ _ h=>by cases h) (.inr a) g i ?_ (hlab:=hlab),Env.im hid H.len (aB _) (fun _ _ _=>rfl) (fun _ _ h=>by cases h) (.inr a) g i (hmm:=.inl (ab.tF hlab))⟩;simp only[aD];exact .inl ⟨bd k,trivial⟩
theorem Ph{m:Nat}{id:Nat}{s:aj}:a7 m s.den (zK id s).2.den:=by
 have d:∀ o:af,s.H[id]? = some o→o.den.label=none→o.den.aw = some 0→a7 m s.den (aj.den ⟨s.fr,s.H.set id (.vec [] 1 [])⟩):=fun o hid h1 g=>by
  intro E a hs;have hH:E.H=ai s.H:=hs.H;obtain⟨g1,g2⟩:=ak.Pg hs.heap (by rw[hH]; exact aU hid) h1 g;have b:ai (s.H.set id (.vec [] 1 []))=E.H.set id (.vec 0 1 []):=by rw[cI,hH]; rfl
  refine⟨E.loc.set id none,E.X,?_,?_⟩
  ·simp only [aj.den]
   rw[b];exact⟨rfl,cR g2 _ hs.fr,hs.defers,g1⟩
  ·simp only [aj.den]
   rw[b];exact g2.toM
 unfold zK;split
 ·rename_i hid
  exact d _ hid rfl rfl
 ·rename_i hid
  exact d _ hid rfl rfl
 ·rename_i l K KI VI rows mem cl hid
  intro E a hs;have hH:E.H=ai s.H:=hs.H;obtain⟨g1,g2⟩:=ak.forget (l0:=l) hs.heap (by rw[hH]; exact aU hid) rfl rfl;have b:ai (s.H.set id (.vec [] 1 []))=E.H.set id (.vec 0 1 []):=by rw[cI,hH]; rfl
  refine⟨E.loc.set id none,E.X.re (fZ E.X.r l),?_,?_⟩
  ·simp only [aj.den]
   rw[b];exact⟨rfl,cR g2 _ hs.fr,hs.defers,g1⟩
  ·simp only [aj.den]
   rw[b];exact g2.toM
 ·exact a7.refl _
theorem Pj{m:Nat}{slot:Nat}{s:aj}(h:(vC slot s).1=true):a7 m s.den (vC slot s).2.den:=by
 unfold vC at h⊢;split
 case h_2=>exact a7.refl _
 rename_i id y;split
 case h_2=>exact a7.refl _
 rename_i l K ks rows cl hid;simp only[y,hid]at h;intro E a hs;have hH:E.H=ai s.H:=hs.H;have q:E.H[id]? = some (.aM l ks.length (fh K ks rows) cl):=by rw[hH]; exact aU hid
 have u:=hs.heap.obj id _ q;simp only[aD]at u;obtain⟨b,n,ms,g1,g2,g3,hh,k1,I⟩:=u;obtain⟨h1,v⟩:=ak.Mk (o':=.map (cK K (.one (.list ks)) rows) cl) hs.heap q rfl rfl rfl fun hle=>by
  simp only[aD];refine⟨b,n,ms,g1,g2,?_⟩;rw[dj]at g3⊢;obtain⟨J,M⟩:=g3;refine⟨by simpa[cK,bX,fh]using J,fun i x e d he=>?_⟩;unfold cK at d;rw[b7]at d;obtain⟨r,hr,rfl⟩:=df.1 d;have w:=qL (K:=K) (ks:=ks) hr;have A:(gi r 3).bool=true:=cC.1 h r (dK hr);obtain⟨N,a2,a3,a4,a5⟩:=M i _ e (uf w) he;refine⟨bA hle _ N,?_,a3,a4,rfl⟩;have B:=I i _ ((jz r).map (ax ks)) e w (by simp only[iu,A,cond_true]) he;show rel _ (.listF ks (jz r)) e.val
  rw[gM];simp only[rel];have D:dW ((jz r).map (ax ks)):=by
   intro r hr;obtain⟨g,_,rfl⟩:=dJ.1 hr;exact eO ks g
  refine⟨D,?_⟩;rcases B with⟨s1,base,s2⟩|⟨O,mm,s1,s2,s3,R,s5,U⟩
  ·rw [s1]
   exact⟨base,0,s2,aB _,.inl rfl⟩
  ·refine ⟨_, mm, s2, R, .inr ⟨O, 0, rfl, ⟨(hs.heap.bR _ _ _ _ s1).1, ?_, (hs.heap.bR _ _ _ _ s1).2⟩, jl (fun a _ hr => bA hle a hr) rfl U⟩⟩
   rintro(⟨j,V,k⟩|⟨l',k',V,k⟩)
   ·exact hs.heap.cd _ _ _ _ _ _ k s1
   ·obtain ⟨W, Y⟩ := gB k
    exact Y (hs.heap.dD _ _ _ _ _ _ _ W s1).1
 have t:ai (s.H.set id (.map K (.one (.list ks)) rows cl))=E.H.set id (.map (cK K (.one (.list ks)) rows) cl):=by rw[cI,hH]; rfl
 refine⟨E.loc,E.X.re (fZ E.X.r l),?_,?_⟩
 ·simp only [aj.den]
  rw[t];exact⟨rfl,cR v _ hs.fr,hs.defers,h1⟩
 ·simp only [aj.den]
  rw[t];exact v.toM
theorem Pk{m:Nat}(h:Hint)(s:aj)(a:(vF h s).1=true):a7 m s.den (vF h s).2.den:=by
 cases h with
 |freeze i=>exact O8 a
 | Gb i ks =>
  simp only[vF];split
  ·rename_i h; exact Fk h
  ·exact a7.refl _
 |vt i c ks=>exact O9
 |Gc i=>exact Pa a
 |vu i c=>exact O_ a
 |hole ks=>exact Pb
 |Gd=>exact Pc
 |aM i l=>exact Pd a
 |Ge i=>exact Pj a
 |mm i l KI VI=>exact Pe a
 |Gf i c l KI VI=>exact Pf a
 |forget i=>exact Ph
 |Gg i c ks=>exact O'
theorem Gh{m:Nat}:∀(hs:List Hint) (s:aj),(rD hs s).1=true→a7 m s.den (rD hs s).2.den
 | [],s,_=>a7.refl _
 | h::hs,s,a=>by
  simp only[rD]at a⊢;simp only[aq]at a;exact(Pk h s a.1).trans (Gh hs _ a.2)
def Gi:List (Nat × List Hint)→Nat→List Hint
 | [],_=>[]
 | (i,hs)::l,id=>match ah id i with
  |true=>hs
  |false=>Gi l id
def LT.rE(L:LT)(hs:List (Nat × List Hint)):LT:=⟨L.loops,fun id s=>rD (Gi hs id) s,L.qZ⟩
theorem Gj{P:Program}{m:Nat}{c:Code}(hs:List (Nat × List Hint)):ay P m (aF.rE hs) c:=⟨fun _ _ _ _ _ h=>(nomatch h),fun id s a=>Gh _ s a,fun _ _ _ _ _ h=>(nomatch h)⟩
end Go.AL

namespace Go.AL
open Go
variable [Dr]
end Go.AL

namespace Go.AL
open Go Go.ChangeMaps
variable [Dr]
theorem br.g_{s:St}{E:Env}{a:Act}(hs:br s E a)(t:Tmp){v:AV}{u:Value}(b:rel E v u):br (s.put (some t) v s.H) E (a.put (some t) u) :=
 ⟨hs.H,DS hs.fr (Env.le.refl E) (some t) b,by rw[put_defers]; exact hs.defers,hs.heap⟩
theorem nA{m:Nat}{E E':Env}(h:E.cO m E'):E.bh E' :=
 ⟨fun b a=>⟨⟨Nat.lt_of_lt_of_le a.1 h.size,h.own b a.1 a.2.1,fun d=>a.2.2 ((h.X b a.1).1.1 d)⟩,h.same b a.1 a.2.1⟩⟩
theorem ja{P:Program}{ops:Array Oper}{Q:Exit→Act→World→Prop}{i:Nat}{o:Oper}{K:Act→World→Prop}{a:Act}{w w':World}{u:Value}
  (hi:ops[i]? = some o) (d:o.guard=none) (hr:(execOp a.eval o).run P w=.ok (.value u) w') (b:∀ c,o.op≠.defer c) (ro:Option Nat) (g:K (a.put o.dst u) w'):wpOpIn (fz ro) 0 P ops Q i K a w:=by
 unfold wpOpIn;simp only[hi];rw[if_pos (by simp[Region.wanted,d])];unfold Oper.wpIn;rw[Oper.semAt_eq _ _ _ b,hr];exact⟨fun _ _=>trivial,g⟩
theorem zM{P:Program}{pf:FuncId→Bool}{ops:Array Oper}{Q:Exit→Act→World→Prop}(ro:Option Nat):∀(l:List Oper) (k:Nat) (s s':St) (E:Env) (a:Act) (rest:List Nat),
  (∀(j:Nat) (o:Oper),l[j]? = some o→ops[k+j]? = some o)→eT P pf ops l s s'→br s E a→(∀ b w',dm E s' b w'→wpOpsIn (fz ro) 0 P ops Q rest b w')→wpOpsIn (fz ro) 0 P ops Q (List.range' k l.length++rest) a E.w
 | [],k,s,s',E,a,rest,_,h,hs,d=>by
  simp only[eT]at h;subst h;exact d _ _ (dm.refl hs)
 | o::l,k,s,s',E,a,rest,g,h,hs,d=>by
  obtain⟨v,H',t,i⟩:=h;simp only[dZ,CB,nS];rw[wpOpsIn_cons];refine uk hs (by simpa using g 0 o rfl) t (fun b w' u=>?_) ro;obtain⟨q,r',h1,y⟩:=u;refine zM ro l (k+1) _ s' { w:=w',H:=H',loc:=q,X:=E.X.re r' } b rest (fun j x A=>?_) i h1 (fun a2 B r=>d a2 B (dm.after y r));have:=g (j+1) x (by simpa using A)
  rwa [show k+1+j=k+(j+1) from by omega]
theorem ma{a:Act}{t:Tmp}{u:Value}(h:t<a.tmps.size):(a.put (some t) u).eval (.tmp t)=u:=by
 simp[Act.eval,th,h]
def Tree.ka:Tree→Option (bt × aj)
 |.fail=>none
 |.done x s=>some (x,s)
 | .ask b t e=>match b with
  |true=>t.ka
  |false=>e.ka
 | .side b t=>match b with
  |true=>t.ka
  |false=>none
theorem rF:∀{t:Tree} {x:bt} {s:aj},t.ka=some (x,s)→t.holds fun a s'=>a=x∧s'=s
 |.fail,_,_,h=>by cases h
 | .done _ _,_,_,h=>by
  cases h;exact⟨rfl,rfl⟩
 | .ask b t e,_,_,h=>by
  cases b with
  |true=>exact⟨fun _=>rF (t:=t) h,fun h=>(nomatch h)⟩
  |false=>exact⟨fun h=>(nomatch h),fun _=>rF (t:=e) h⟩
 | .side b t,_,_,h=>by
  cases b with
  |true=>exact⟨rfl,rF (t:=t) h⟩
  |false=>cases h
def ch(st:List G→List G→Option (List G))(a8:List G→Nat):List (List G)→List G→Option (List G)
 | [],d=>some d
 | r::rs,d=>match st r d with
  |some d'=>bif ah (a8 d') (a8 d) then ch st a8 rs d' else none
  |none=>none
theorem rG{st:List G→List G→Option (List G)}{a8:List G→Nat}:∀(p q:List (List G)) (d:List G),ch st a8 (p++q) d=(ch st a8 p d).bind (ch st a8 q)
 | [],_,_=>rfl
 | r::p,q,d=>by
  simp only[nS,ch];cases st r d with
  |none=>rfl
  | some d' =>
   simp only[];cases ah (a8 d') (a8 d)with
   |false=>rfl
   |true=>exact rG p q d'
def b9(r:List G):Nat:=(gi r 2).int.toNat
theorem vG{f:List G→Nat}{r:List G}:∀{l:List (List G)} {seen:Array Nat},(l.map f).Nodup→r∈l→seen.contains (f r)=false →
  (l.filter fun x => !seen.contains (f x)).Perm (r::l.filter fun x => !(seen.push (f r)).contains (f x))
 | [],_,_,h,_=>by cases h
 | x::l,seen,a,hm,hs=>by
  obtain⟨b,a⟩:=gJ.1 a;rcases bN.1 hm with rfl|hm
  ·have e:(l.filter fun x => !(seen.push (f r)).contains (f x))=l.filter fun x => !seen.contains (f x):=by
    apply List.filter_congr;intro y i;have:(f y==f r)=false:=by
     rw[beq_eq_false_iff_ne];intro e;exact b (e▸dJ.2 ⟨y,i,rfl⟩)
    rw[contains_push,this,Xr]
   rw[List.filter_cons_of_pos (by rw[hs]; rfl),List.filter_cons_of_neg (by rw[contains_push]; simp),e]
  ·have g:(f x==f r)=false:=by
    rw[beq_eq_false_iff_ne];intro e;exact b (e▸dJ.2 ⟨r,hm,rfl⟩)
   have d:=vG a hm hs;simp only[List.filter_cons,contains_push seen (f r) (f x),g,Xr];cases seen.contains (f x)with
   |true=>simpa using d
   | false =>
    simp only[Bool.not_false,if_true];exact(List.Perm.cons x d).trans (List.Perm.swap r x _)
structure dS where
 inv:j7
 ps:List gX
 opens:List (Nat × List Kd)
 K:Ct
 V:Ct
 id:Nat
 x:Tmp
 y:Tmp
 it:Tmp
 t1:Tmp
 t2:Tmp
 t3:Tmp
 a8:List G→Nat
 init:List G→Nat→List G
 side:List G→Nat→Bool
 st:List G→List G→Option (List G)
def dS.rs(sp:dS)(r d:List G):aj:=⟨(aI sp.inv d).fr.set sp.t3 (.tuple [sp.K.av (gi r 0).row,sp.V.av (gi r 1).row]),(aI sp.inv d).H⟩
def dS.s2(sp:dS)(s:aj)(b:Nat):aj:=⟨s.fr.set sp.it (.lit (.pointer (some ⟨b,0,none⟩))),s.H.set sp.id (.raw .dead)⟩
def vH(m:Nat)(inv:j7)(ps:List gX)(x:bt)(s:aj):Option (Bool × List G) :=
 match x with
 |.normal=>eJ m inv ps s
 |_=>none
structure kZ (P:Program) (sp:dS) (aH be aL:Array Oper):Prop where
 r0:∃ o2 ty,aH.toList=aH.toList.dropLast++[o2]∧o2.guard=none∧o2.op=.range ty (.tmp sp.y)∧o2.dst=some sp.it∧(cz P ty).isSome=true
 r1:∃ o1 o2,be.toList=[o1,o2]∧o1.guard=none∧o1.op=.next (.tmp sp.it) false∧o1.dst=some sp.t1∧o2.guard=none∧o2.op=.extract (.tmp sp.t1) 0∧o2.dst=some sp.t2
 r2:∃ o1 l,aL.toList=o1::l∧o1.guard=none∧o1.op=.entry (.tmp sp.it)∧o1.dst=some sp.t3
def me(r0 b0 r1 b1 r2:Nat)(aH be aL:Array Oper)(t2:Tmp)(body:Code):Code :=
 .seq (.region r0 aH false) (.block b0 (.loop (.seq (.region r1 be false) (.seq (.cond (.tmp t2) .skip (.exit b0)) (.block b1 (.seq (.region r2 aL false) body))))))
theorem Pl{ro:Option Nat}{r0 b0 r1 b1 r2:Nat}{aH be aL:Array Oper}{t2:Tmp}{body:Code}(h:dv ro (me r0 b0 r1 b1 r2 aH be aL t2 body)):dv ro body:=h.imp id fun h=>by
 simpa[me,eH]using h
section range
variable {P:Program} {τ:al} {L:LT} {m:Nat} {sp:dS} {aH be aL:Array Oper} {body:Code}
def nB(P:Program)(τ:al)(L:LT)(m:Nat)(sp:dS)(aL:Array Oper)(body:Code):Prop :=
 ∀ r d,(kT P τ aL (aL.toList.drop 1) (sp.rs r d) (fun s=>dc P τ L body s .done)).leaf (vH m sp.inv sp.ps)=sp.st r d
theorem Pm(hm:P.follows .mixedOrders=true)(g:ao P τ)(i:ay P m L body)(hr:nB P τ L m sp aL body){r d d':List G}(h:sp.st r d=some d') :
  ∃ b:aj,eT P τ.pf aL (aL.toList.drop 1) (sp.rs r d).den b.den∧cq P m body b.den .normal (aI sp.inv d').den:=by
 rw[←hr r d]at h;obtain⟨b,h1,k⟩:=q_ g (Q:=fun x s=>vH m sp.inv sp.ps x s=some (true,d')) (kX h);obtain⟨x,l,q,a⟩:=fD hm g body b .done i k;have a:vH m sp.inv sp.ps x l=some (true,d'):=a;unfold vH at a;split at a
 ·exact⟨b,h1,lH q (iC a)⟩
 ·cases a
def zN(P:Program)(τ:al)(m:Nat)(sp:dS)(aL:Array Oper)(body:Code)(b1:Nat):Prop:=∀ r d d',sp.st r d=some d' →
 ∃(a:aj) (x:bt),(x=.normal∨x=.exit b1)∧eT P τ.pf aL (aL.toList.drop 1) (sp.rs r d).den a.den∧cq P m body a.den x (aI sp.inv d').den
def vI(b1:Nat)(m:Nat)(inv:j7)(ps:List gX)(x:bt)(s:aj):Option (Bool × List G) :=
 match x with
 |.normal=>eJ m inv ps s
 | .exit i=>match ah i b1 with
  |true=>eJ m inv ps s
  |false=>none
 |_=>none
def rH(P:Program)(τ:al)(L:LT)(m:Nat)(sp:dS)(aL:Array Oper)(body:Code)(b1:Nat):Prop :=
 ∀ r d,(kT P τ aL (aL.toList.drop 1) (sp.rs r d) (fun s=>dc P τ L body s .done)).leaf (vI b1 m sp.inv sp.ps)=sp.st r d
theorem Pn(hm:P.follows .mixedOrders=true)(k:ao P τ)(l:ay P m L body){b1:Nat}(hr:rH P τ L m sp aL body b1):zN P τ m sp aL body b1:=fun r d d' h=>by
 rw[←hr r d]at h;obtain⟨b,h1,q⟩:=q_ k (Q:=fun x s=>vI b1 m sp.inv sp.ps x s=some (true,d')) (kX h);obtain⟨x,t,g,a⟩:=fD hm k body b .done l q;have a:vI b1 m sp.inv sp.ps x t=some (true,d'):=a;unfold vI at a;split at a
 ·exact⟨b,.normal,.inl rfl,h1,lH g (iC a)⟩
 ·rename_i i
  split at a
  ·rename_i e
   rw[aR e]at g;exact⟨b,.exit b1,.inr rfl,h1,lH g (iC a)⟩
  ·cases a
 ·cases a
def Gk(m:Nat)(sp:dS)(E:Env)(rows:List (List G))(d0:List G)(itb mb clock:Nat)(ms:Array MapEntry)(a:Act)(w:World):Prop :=
 ∃(d:List G) (loc:List (Option (Nat × Nat))) (X:XS) (seen:Array Nat) (last:Nat) (p:List (List G)),
  ch sp.st sp.a8 p d0=some d∧sp.a8 d=itb∧(p++rows.filter fun x => !seen.contains (b9 x)).Perm rows ∧
  br (aI sp.inv d).den { w:=w,H:=(aI sp.inv d).den.H,loc:=loc,X:=X } a∧E.cO m { w:=w,H:=(aI sp.inv d).den.H,loc:=loc,X:=X }∧X itb ∧
  w.heap[itb]? = some (.mapIter (some mb) clock seen last)∧clock≤last∧w.heap[mb]? = some (.map ms clock) ∧
  ¬ Env.own { w:=w,H:=(aI sp.inv d).den.H,loc:=loc,X:=X } mb∧ba { w:=w,H:=(aI sp.inv d).den.H,loc:=loc,X:=X } (cK sp.K sp.V rows) ms.toList
theorem br.mf{s:St}{E:Env}{a:Act}(hs:br s E a){t:Tmp}(hu:s.fr[t]? = some .undef)(u:Value):br s E (a.put (some t) u):=by
 have h:=hs.g_ t (v:=.undef) (u:=u) (by simp[rel]);have e:s.put (some t) .undef s.H=s:=by
  simp only[St.put,gP,jW hu]
 rwa [e]at h
theorem vJ{s:St}{E:Env}{a:Act}(hs:br s E a){t:Tmp}{v:AV}(hu:s.fr[t]? = some v):t<a.tmps.size:=by
 have h1:s.fr.length=a.tmps.size:=by simpa using(kB.1 hs.fr).1
 have b:t<s.fr.length:=az hu;rw[h1]at b;exact b
theorem vK{o:Oper}{t:Tmp}{a:Act}{w:World}{cs:Array Value}{u:Value}(b:o.op=.extract (.tmp t) 0)(d:a.eval (.tmp t)=.tuple cs)(g:cs[0]? = some u) :
  (execOp a.eval o).run P w=.ok (.value u) w:=by
 obtain⟨dst,op,type,pos,after,guard⟩:=o;subst b;exact iS (by simp[Instr.extract,d,g])
theorem vL{o:Oper}{t:Tmp}{a:Act}{w w':World}{x u:Value}(b:o.op=.next (.tmp t) false)(d:a.eval (.tmp t)=x)(h:(Instr.next x false o.type).run P w=.ok u w') :
  (execOp a.eval o).run P w=.ok (.value u) w':=by
 obtain⟨dst,op,type,pos,after,guard⟩:=o;subst b;subst d;exact iS h
theorem Gl{o:Oper}{t:Tmp}{a:Act}{w w':World}{x u:Value}(b:o.op=.entry (.tmp t))(d:a.eval (.tmp t)=x)(h:(Instr.entry x).run P w=.ok u w') :
  (execOp a.eval o).run P w=.ok (.value u) w':=by
 obtain⟨dst,op,type,pos,after,guard⟩:=o;subst b;subst d;exact iS h
theorem Gm{o:Oper}{t:Tmp}{ty:TypeId}{a:Act}{w w':World}{x u:Value}(b:o.op=.range ty (.tmp t))(d:a.eval (.tmp t)=x)(h:(Instr.range ty x).run P w=.ok u w') :
  (execOp a.eval o).run P w=.ok (.value u) w':=by
 obtain⟨dst,op,type,pos,after,guard⟩:=o;subst b;subst d;exact iS h
theorem pg{w:World}{b:Nat}{o:Obj}(h:w.heap[b]? = some o):b<w.heap.size:=(Array.getElem?_eq_some_iff.1 h).1
theorem vM{w:World}{r:Nat}{a:Option Nat}{b c:Nat}{s:Array Nat}(h:w.heap[r]? = some (.mapIter a b s c)):w.iterSeen r=s:=by
 unfold World.iterSeen;rw[h]
theorem Po(hm:P.follows .mixedOrders=true)(ht:ao P τ)(hL:ay P m L body)(ho:kZ P sp aH be aL)
  (Ye:∀ d,(aI sp.inv d).fr[sp.t1]? = some .undef) (Yf:∀ d,(aI sp.inv d).fr[sp.t2]? = some .undef) (Ys:∀ d,(aI sp.inv d).fr[sp.it]? = some (.lit (.pointer (some ⟨sp.a8 d,0,none⟩))))
  {E:Env} {rows:List (List G)} {d0:List G} {itb mb clock:Nat} {ms:Array MapEntry} {r1 b0 b1 r2:Nat} (hr:zN P τ m sp aL body b1)
  (Y8:E.w.heap.size≤itb) (hn:(rows.map b9).Nodup) (YP:∀ r∈rows,b9 r<clock) (YQ:mb≠itb)
  (YG:∀ p,p.Perm rows→(ch sp.st sp.a8 p d0).isSome=true) {a:Act} {w:World} (hI:Gk m sp E rows d0 itb mb clock ms a w) (ro:Option Nat) (YR:dv ro body) :
  (Code.loop (.seq (.region r1 be false) (.seq (.cond (.tmp sp.t2) .skip (.exit b0)) (.block b1 (.seq (.region r2 aL false) body))))).wpIn (fz ro) 0 P
   (fun e a1 B=>e=.exit b0∧∃ p d,p.Perm rows∧ch sp.st sp.a8 p d0=some d∧cT m E (aI sp.inv d).den a1 B) a w:=by
 obtain⟨o1,o2,e1,g1,p1,q1,g2,U,q2⟩:=ho.r1;obtain⟨o3,l,e3,g3,p3,q3⟩:=ho.r2;refine wpIn_loop (Gk m sp E rows d0 itb mb clock ms) (fun _ w=>(leftOf ms (w.iterSeen itb)).size) hI fun a w hI=>?_;obtain⟨d,loc,X,seen,last,p,hf,Yg,hp,hs,hle,Yh,hit,YS,Yt,Yk,Yu⟩:=hI;have Yv:be[0]? = some o1:=by
  have:be.toList[0]? = some o1:=by rw[e1]; rfl
  simpa using this
 have Yw:be[1]? = some o2:=by
  have:be.toList[1]? = some o2:=by rw[e1]; rfl
  simpa using this
 have YI:be.size=2:=by
  have:be.toList.length=2:=by rw[e1]; rfl
  simpa using this
 have Yx:a.eval (.tmp sp.it)=.pointer (some ⟨itb,0,none⟩):=by
  have h:=hs.eval (.tmp sp.it);have e:(aI sp.inv d).den.eval (.tmp sp.it)=.lit (.pointer (some ⟨sp.a8 d,0,none⟩)):=by
   show (aI sp.inv d).fr.getD sp.it .undef=_
   rw[cD,Ys d];rfl
  rw[e]at h;simp only[rel]at h;rw[h,Yg]
 obtain⟨hlen,YT⟩:=dj.1 Yu;have Y9:(cK sp.K sp.V rows).length=rows.length:=by simp[cK]
 have J:∀(i:Nat) (e:MapEntry),ms.toList[i]? = some e→∃ r,rows[i]? = some r∧e.born=b9 r:=by
  intro i e hi;have h1:=az hi;have k:i<rows.length:=by omega
  refine⟨rows[i],bC k,?_⟩;exact(YT i (sp.K.av (gi rows[i] 0).row,sp.V.av (gi rows[i] 1).row,(gi rows[i] 2).int.toNat) e (by simp[cK,k]) hi).2.2.1
 have hold:∀ x∈ms.toList,x.born<clock:=by
  intro x t;obtain⟨i,hi⟩:=lq t;obtain⟨r,h1,k⟩:=J i x hi;rw[k];exact YP r (dK h1)
 have YU:(ms.toList.map (·.born)).Nodup:=by
  have:ms.toList.map (·.born)=rows.map b9:=by
   apply List.ext_getElem?;intro i;simp only[b7];cases hi:ms.toList[i]? with
   | none =>
    have h1:=List.getElem?_eq_none_iff.1 hi;rw[List.getElem?_eq_none (by omega)];rfl
   | some e =>
    obtain⟨r,h1,k⟩:=J i e hi;rw[h1];simp[k]
  rw[this];exact hn
 refine wpIn_seq (wpIn_region ?_);rw[YI];show wpOpsIn (fz ro) 0 P be _ [0,1] a w
 rw[wpOpsIn_cons];have Yl:=vJ hs (Ye d);have Ym:=vJ hs (Yf d);rcases run_next_at (P:=P) w o1.type itb mb clock last seen ms clock hit Yt hold YS with⟨h0,Yc⟩|⟨e,he,B,Yy,Yc⟩
 ·refine ja Yv g1 (vL p1 Yx Yc) (fun c e => by rw [p1] at e; cases e) ro ?_
  rw[q1,wpOpsIn_cons];refine ja Yw g2 (vK U (ma Yl) rfl) (fun c e=>by rw[U]at e; cases e) ro ?_;rw[q2];show (Code.seq _ _).wpIn (fz ro) 0 P _ _ w
  refine wpIn_seq (wpIn_cond_false (ma (by simpa[th]using Ym)) (wpIn_exit ?_));refine⟨rfl,p,d,?_,hf,loc,X,?_,hle⟩
  ·have:(rows.filter fun x => !seen.contains (b9 x))=[]:=by
    rw[List.filter_eq_nil_iff];intro x t hc;obtain⟨i,hi⟩:=lq t;have h1:=az hi;have k:i<ms.toList.length:=by omega
    obtain⟨r,W,h4⟩:=J i _ (bC k);rw[hi]at W;cases W;have:ms.toList[i]∈(leftOf ms seen).toList:=by
     unfold leftOf;rw[Array.toList_filter];refine n_.2 ⟨pY k,?_⟩;rw[h4];exact hc
    have h5:(leftOf ms seen).toList.length=0:=by simpa using h0
    rw[List.length_eq_zero_iff.1 h5]at this;cases this
   rwa [this,cV]at hp
  ·exact(hs.mf (Ye d) (.tuple #[.bool false])).mf (Yf d) (.bool false)
 ·refine ja Yv g1 (vL p1 Yx Yc) (fun c e => by rw [p1] at e; cases e) ro ?_
  rw[q1,wpOpsIn_cons];refine ja Yw g2 (vK U (ma Yl) rfl) (fun c e=>by rw[U]at e; cases e) ro ?_;rw[q2];show (Code.seq _ _).wpIn (fz ro) 0 P _ _ _
  refine wpIn_seq (wpIn_cond_true (ma (by simpa[th]using Ym)) (wpIn_skip ?_));show (Code.block _ _).wpIn (fz ro) 0 P _ _ _
  refine wpIn_block (wpIn_seq (wpIn_region ?_));generalize O:setBlock B itb (.mapIter (some mb) clock (seen.push e.born) clock)=g;have N:B.heap=w.heap:=by rcases Yy with rfl|rfl<;>rfl
  have YV:c7 w g:=by rw[←O]; rcases Yy with rfl|rfl<;>exact⟨rfl,rfl,rfl,by first|exact fun _=>aB _|exact fun _=>dT _ _⟩
  have Y:g.heap[itb]? = some (.mapIter (some mb) clock (seen.push e.born) clock):=by
   rw[←O];exact(CI (by rw[N]; exact hit)).1
  have M:∀ b,b≠itb→g.heap[b]? = w.heap[b]? := by
   intro b q;rw[←O];show (B.heap.setIfInBounds itb _)[b]? = _
   rw[(CI (by rw[N]; exact hit)).2 b q,N]
  have Yi:g.heap.size=w.heap.size:=by
   rw[←O];show (B.heap.setIfInBounds itb _).size=_
   simp[N]
  have Yd:g.heap[mb]? = some (.map ms clock):=by rw[M mb YQ]; exact Yt
  have bY:fv { w:=w,H:=(aI sp.inv d).den.H,loc:=loc,X:=X } { w:=g,H:=(aI sp.inv d).den.H,loc:=loc,X:=X } :=
   ⟨rfl,rfl,by show w.heap.size≤g.heap.size; omega,fun b q t=>⟨t,M b (fun e=>t (by rw[e]; exact Yh))⟩,fun b q=>by show b<g.heap.size; rw[Yi]; exact hs.heap.X b q,rfl⟩
  have YW:gN g X a.defers:=⟨hs.defers.1,fun dd YX=>by
   obtain⟨D,e,h1,k,W⟩:=hs.defers.2 dd YX;exact⟨D,e,by rw[M D (fun e=>by rw[e]at h1; rw[hit]at h1; cases h1)]; exact h1,k,W⟩⟩
  have Yz:=((hs.bY bY YW).mf (Ye d) (.tuple #[.bool true,e.key,e.val])).mf (Yf d) (.bool true);obtain⟨YA,YY⟩:=mem_left he;obtain⟨i,hi⟩:=lq YA;obtain⟨r,YB,YC⟩:=J i e hi;have YZ:=dK YB;have Yn:=gF bY.toC Yu;obtain⟨k1,k2,_⟩:=(dj.1 Yn).2 i (sp.K.av (gi r 0).row,sp.V.av (gi r 1).row,(gi r 2).int.toNat) e (by simp[cK,YB]) hi;have YJ:((a.put (some sp.t1) (.tuple #[.bool true,e.key,e.val])).put (some sp.t2) (.bool true)).eval (.tmp sp.it)=.pointer (some ⟨itb,0,none⟩):=by
   have h:=Yz.eval (.tmp sp.it);have e:(aI sp.inv d).den.eval (.tmp sp.it)=.lit (.pointer (some ⟨sp.a8 d,0,none⟩)):=by
    show (aI sp.inv d).fr.getD sp.it .undef=_
    rw[cD,Ys d];rfl
   rw[e]at h;simp only[rel]at h;rw[h,Yg]
  have Y0:aL[0]? = some o3:=by
   have:aL.toList[0]? = some o3:=by rw[e3]; rfl
   simpa using this
  have YD:aL.toList.drop 1=l:=by rw[e3]; rfl
  have YK:aL.size=l.length+1:=by
   have:aL.toList.length=l.length+1:=by rw[e3]; rfl
   simpa using this
  have YE:(p++(r::rows.filter fun x => !(seen.push (b9 r)).contains (b9 x))).Perm rows :=
   (Xs p (vG hn YZ (by rw[←YC]; exact YY)).symm).trans hp
  have y:∃ d',sp.st r d=some d'∧sp.a8 d'=sp.a8 d:=by
   have h:=YG _ YE;rw[rG,hf]at h;simp only[tx,ch]at h;cases y:sp.st r d with
   |none=>rw[y]at h; cases h
   | some d' =>
    rw[y]at h;simp only[]at h;cases q:ah (sp.a8 d') (sp.a8 d)with
    |true=>exact⟨d',rfl,aR q⟩
    |false=>rw[q]at h; cases h
  obtain⟨d',y,Yo⟩:=y;have Y1:ch sp.st sp.a8 (p++[r]) d0=some d':=by
   rw[rG,hf];simp only[tx,ch,y,Yo];simp
  obtain⟨s4,xe,Y2,YF,YL⟩:=hr r d d' y;rw[YK,List.range_eq_range',CB,wpOpsIn_cons];refine ja Y0 g3 (Gl p3 YJ (run_entry_at (P:=P) g itb mb clock seen ms clock e Y Yd YA YU)) (fun c e=>by rw[p3]at e; cases e) ro ?_;rw[q3];have Y3:=Yz.g_ sp.t3 (v:=.tuple [sp.K.av (gi r 0).row,sp.V.av (gi r 1).row]) (u:=.tuple #[e.key,e.val]) (by simp only[rel]; exact⟨_,rfl,by simp only[ae]; exact⟨k1,k2,trivial⟩⟩);refine um (pf:=τ.pf) (ops:=aL) l (0+1) (sp.rs r d).den s4.den { w:=g,H:=(aI sp.inv d).den.H,loc:=loc,X:=X } _ (by rw[←YD]) (by rw[YD]at YF; exact YF) Y3 (fun a3 w3 Y4=>?_) ro;obtain⟨YM,r3,Y5,YN⟩:=Y4;show body.wpIn (fz ro) 0 P _ a3 w3
  refine wpIn_mono (YL ro YR { w:=w3,H:=s4.den.H,loc:=YM,X:=X.re r3 } a3 Y5) fun x a4 I t=>?_;obtain⟨rfl,Yp,X4,Y6,YO⟩:=t;have key:∀{R:Exit→Act→World→Prop},R .normal a4 I→xh b1 R xe.toExit a4 I:=fun h=>by
   rcases Y2 with rfl|rfl
   ·exact h
   ·show (if b1 = b1 then _ else _)
    rw[if_pos rfl];exact h
  refine key ?_;have A:({ w:=g,H:=(aI sp.inv d).den.H,loc:=loc,X:=X }:Env).cO m { w:=I,H:=(aI sp.inv d').den.H,loc:=Yp,X:=X4 }:=YN.toM.trans YO;have Yq:itb<g.heap.size:=pg Y;have YH:¬ Env.own { w:=g,H:=(aI sp.inv d).den.H,loc:=loc,X:=X } itb:=by
   exact(hs.heap.bY bY).lx Yh
  have Yj:mb<g.heap.size:=pg Yd;have Yr:I.heap[itb]? = some (.mapIter (some mb) clock (seen.push e.born) clock):=by rw[A.same itb Yq YH]; exact Y
  refine⟨⟨d',Yp,X4,seen.push e.born,clock,p++[r],Y1,by rw[Yo,Yg],?_,Y6,?_,(A.X itb Yq).1.2 Yh,Yr,aB _,?_,?_,?_⟩,?_⟩
  ·rw [YC, gq]
   exact YE
  ·refine Env.cO.trans (E' := { w := g, H := (aI sp.inv d).den.H, loc := loc, X := X }) ⟨hle.past, ?_, ?_, hle.own, hle.live, hle.X, hle.rl, hle.env.trans YV, hle.grow⟩ A
   ·have := hle.size
    show E.w.heap.size≤g.heap.size
    rw[Yi];exact this
   ·intro b q Y7
    show g.heap[b]? = _
    rw[M b (by omega)];exact hle.same b q Y7
  ·rw [A.same mb Yj Yk]
   exact Yd
  ·exact A.own mb Yj Yk
  ·exact gF (nA A) Yn
  ·show (leftOf ms (I.iterSeen itb)).size < (leftOf ms (w.iterSeen itb)).size
   rw[vM Yr,vM hit];exact left_shrinks ms seen e he
theorem Pp(hm:P.follows .mixedOrders=true)(ht:ao P τ)(hL:ay P m L body)(A:kZ P sp aH be aL)
  (Yk:∀ d,(aI sp.inv d).fr[sp.t1]? = some .undef) (Yl:∀ d,(aI sp.inv d).fr[sp.t2]? = some .undef) (Ym:∀ d,(aI sp.inv d).fr[sp.it]? = some (.lit (.pointer (some ⟨sp.a8 d,0,none⟩))))
  {r1 b0 b1 r2:Nat} (hr:zN P τ m sp aL body b1)
  {s:aj} {d:List G} {rows:List (List G)} {clock:Nat} (N:s.eval (.tmp sp.y)=.map sp.id) (hid:s.H[sp.id]? = some (.map sp.K sp.V rows clock)) (hn:(rows.map b9).Nodup)
  (Yn:∀ r∈rows,b9 r<clock) (Yo:∀ b,eJ m sp.inv sp.ps (fi sp.opens (sp.s2 s b))=some (true,sp.init d b)) (Yf:∀ b,sp.a8 (sp.init d b)=b)
  (Ye:∀ b p,p.Perm rows→(ch sp.st sp.a8 p (sp.init d b)).isSome=true) (E:Env) (a:Act) (hs:br s.den E a) (ro:Option Nat) (Yp:dv ro body) {Q:Exit→Act→World→Prop}
  (hQ:∀ O R,(∃ b p d',p.Perm rows∧ch sp.st sp.a8 p (sp.init d b)=some d'∧cT m E (aI sp.inv d').den O R)→Q .normal O R) :
  wpOpsIn (fz ro) 0 P aH (Exit.then ((Code.block b0 (.loop (.seq (.region r1 be false) (.seq (.cond (.tmp sp.t2) .skip (.exit b0)) (.block b1 (.seq (.region r2 aL false) body)))))).wpIn (fz ro) 0 P Q) Q) [aH.toList.dropLast.length] a E.w:=by
 obtain⟨o2,ty,e1,g2,p2,q2,I⟩:=A.r0;have Yq:aH[aH.toList.dropLast.length]? = some o2:=by
  have:aH.toList[aH.toList.dropLast.length]? = some o2:=by
   rw[e1];simp
  simpa using this
 have Y:E.H[sp.id]? = some (.map (cK sp.K sp.V rows) clock):=by
  rw[hs.H];exact aU hid
 have Yr:rel E (.map sp.id) (a.eval (.tmp sp.y)):=by
  have:=hs.eval (.tmp sp.y)
  rwa [aj.jA,N]at this
 obtain⟨mb,n,ms,hc,Yc,J,Ys⟩:=mO hs.heap Y Yr;obtain⟨⟨kt,et⟩,I⟩:=Option.isSome_iff_exists.1 I;have Yg:mb<E.w.heap.size:=pg J;rw[wpOpsIn_cons];refine ja Yq g2 (Gm p2 hc (run_range_map E.w ty kt et mb ms clock (en I) J)) (fun c e=>by rw[p2]at e; cases e) ro ?_;rw[q2];show (Code.block _ _).wpIn (fz ro) 0 P _ _ _
 generalize D:E.w.alloc (.mapIter (some mb) clock #[] clock)=g;have Yx:g.heap.size=E.w.heap.size+1:=by rw[←D]; show (E.w.heap.push _).size=_; simp
 have hold:∀ b,b<E.w.heap.size→g.heap[b]? = E.w.heap[b]? := fun b i=>by rw[←D]; exact(show (E.w.heap.push _)[b]? = _ by rw[Array.getElem?_push,if_neg (by omega)])
 have Yh:g.heap[E.w.heap.size]? = some (.mapIter (some mb) clock #[] clock):=by rw[←D]; exact(show (E.w.heap.push _)[E.w.heap.size]? = _ by simp)
 have Yt:c7 E.w g:=by rw[←D]; exact⟨rfl,rfl,rfl,by first|exact fun _=>aB _|exact fun _=>dT _ _⟩
 have U:=Env.og hs.heap sp.id;have M:br ⟨s.fr,ai (s.H.set sp.id (.raw .dead))⟩ { w:=E.w,H:=E.H.set sp.id .dead,loc:=E.loc.set sp.id none,X:=E.X } a:=by
  refine⟨?_,cR U _ hs.fr,hs.defers,ak.drop hs.heap sp.id fun o A=>by rw[Y]at A; cases A; rfl⟩;rw[cI,show E.H=ai s.H from hs.H];rfl
 have bY:fv { w:=E.w,H:=E.H.set sp.id .dead,loc:=E.loc.set sp.id none,X:=E.X } { w:=g,H:=E.H.set sp.id .dead,loc:=E.loc.set sp.id none,X:=E.X.or fun b=>b=E.w.heap.size } :=
  ⟨rfl, rfl, by show E.w.heap.size ≤ g.heap.size; omega, fun b i N => ⟨fun h => h.elim N (fun e => absurd i (by rw [e]; exact n5 _)), hold b i⟩, fun b i => by
   show b<g.heap.size
   rcases i with i|i
   ·have := hs.heap.X b i
    omega
   ·omega,rfl⟩
 have Yu:=(M.bY bY (tK (X':=E.X.or fun b=>b=E.w.heap.size) (w':=g) M.defers (fun _ h1 B=>⟨.inl h1,B⟩) fun b h1 _=>hold b (hs.heap.X b h1))).g_ sp.it (v:=.lit (.pointer (some ⟨E.w.heap.size,0,none⟩))) (u:=.pointer (some ⟨E.w.heap.size,0,none⟩)) (by simp only[rel]);have Yi:br (sp.s2 s E.w.heap.size).den { w:=g,H:=E.H.set sp.id .dead,loc:=E.loc.set sp.id none,X:=E.X.or fun b=>b=E.w.heap.size } _:=Yu;obtain⟨loc,X4,Yv,t⟩:=((j8 sp.opens _).trans (iC (Yo E.w.heap.size))) _ _ Yi;have Yd:¬ Env.own { w:=g,H:=E.H.set sp.id .dead,loc:=E.loc.set sp.id none,X:=E.X.or fun b=>b=E.w.heap.size } mb:=by
  rintro(⟨j,c,q⟩|⟨l,k,c,q⟩)
  case inr=>exact hs.heap.cd _ _ _ _ _ _ Yc q
  simp only[dy]at q;split at q
  ·split at q
   ·cases q
   ·cases q
  ·rename_i Yw
   exact Yw (hs.heap.inj _ _ _ _ _ Yc q)
 have Yj:g.heap[mb]? = some (.map ms clock):=by rw[hold mb Yg]; exact J
 refine wpIn_block (wpIn_mono (Po hm ht hL A Yk Yl Ym (hr:=hr) (E:=E) (rows:=rows) (d0:=sp.init d E.w.heap.size) (itb:=E.w.heap.size) (mb:=mb) (clock:=clock) (ms:=ms)
  (aB _) hn Yn (by omega) (Ye _) ?_ ro Yp) fun e O R W=>?_)
 ·refine ⟨sp.init d E.w.heap.size, loc, X4, #[], clock, [], rfl, Yf _, ?_, Yv, ?_, (t.X E.w.heap.size (by show _ < g.heap.size; omega)).1.2 (.inr rfl), ?_, aB _, ?_, ?_, ?_⟩
  ·have : (rows.filter fun x => !(#[] : Array Nat).contains (b9 x)) = rows := List.filter_eq_self.2 (fun x _ => by simp)
   rw[List.nil_append,this]
  ·refine U.toM.trans (Env.cO.trans (E' := { w := g, H := E.H.set sp.id .dead, loc := E.loc.set sp.id none, X := E.X.or fun b => b = E.w.heap.size }) ⟨fun _ _ h => h, ?_, ?_, fun b _ h => h, fun _ _ _ h => ⟨h, rfl⟩, fun b i => ⟨⟨fun h => h.elim id fun e => absurd i (by rw [e]; exact n5 _), .inl⟩, Iff.rfl⟩, fun _ _ h => ⟨h, fun _ W => W⟩, Yt, fun _ _ _ o h1 B _ => ⟨⟨[], (cV _).symm⟩, o, h1, B⟩⟩ t)
   ·show E.w.heap.size ≤ g.heap.size
    omega
   ·exact fun b i _=>hold b i
  ·rw [t.same E.w.heap.size (by show _ < g.heap.size; omega) ?_]
   ·exact Yh
   ·exact(M.heap.bY bY).lx (.inr rfl)
  ·rw [t.same mb (by show _ < g.heap.size; omega) Yd]
   exact Yj
  ·exact t.own mb (by show _<g.heap.size; omega) Yd
  ·exact gF (nA t) (gF bY.toC (gF U.toC Ys))
 ·obtain ⟨rfl, p, d', h1, B, h3⟩ := W
  simp only[xh,if_true];exact hQ _ _ ⟨_,p,d',h1,B,h3⟩
noncomputable def ph{β:Type}(rows:List (List G))(k:Nat→List (List G)→Option β):Option β :=
 open Classical in if h:∃ r,∀ b p,p.Perm rows→k b p=some r then some h.choose else none
theorem zO{β:Type}{rows:List (List G)}{k:Nat→List (List G)→Option β}{r:β}(h:ph rows k=some r):∀ b p,p.Perm rows→k b p=some r:=by
 unfold ph at h;split at h
 ·rename_i a
  cases h;exact a.choose_spec
 ·cases h
theorem Gn{β:Type}{rows:List (List G)}{k:Nat→List (List G)→Option β}{r:β}(h:∀ b p,p.Perm rows→k b p=some r):ph rows k=some r:=by
 cases a:ph rows k with
 | some r' =>
  have h1:=zO a 0 rows (pZ _);rw[h 0 rows (pZ _)]at h1;exact h1.symm
 | none =>
  unfold ph at a;rw[dif_pos ⟨r,h⟩]at a;cases a
def jG(rows:List (List G))(clock:Nat):Bool:=nodupB (rows.map b9)&&rows.all fun r=>eg (b9 r) clock
theorem zP{rows:List (List G)}{clock:Nat}(h:jG rows clock=true):(rows.map b9).Nodup∧∀ r∈rows,b9 r<clock:=by
 simp only[jG,aq,cC,fJ]at h;exact⟨nu h.1,h.2⟩
noncomputable def hY(sp:dS)(tl:List G→Option (Option Nat × List G))(rows:List (List G))(clock:Nat)(d:List G):Option (Option Nat × List G) :=
 bif jG rows clock then ph rows (fun b p=>bif sp.side d b then (ch sp.st sp.a8 p (sp.init d b)).bind tl else none) else none
def pj(P:Program)(m:Nat)(c:Code)(sp:bI):Prop:=∀ d i d',sp.st d=some (some i,d')→∃ o,sp.outs[i]? = some o∧cq P m c (aI sp.inv d).den o.x (aI o.S d').den
theorem jE.sat{c:Code}{q:bI}(hm:P.follows .mixedOrders=true)(g:ao P τ)(h:ay P m L c)(hr:jE P τ L m c q):pj P m c q:=by
 intro d i d' a;rw[←hr d]at a;obtain⟨x,s1,g1,g2⟩:=fD hm g c (aI q.inv d) .done h (Q:=fun x s=>nw m q.outs 0 x s=some (true,(some i,d'))) (kX a);obtain⟨j,o,k,b,l,r⟩:=vm g2;simp only[aK,dL]at b;subst b;refine⟨o,k,?_⟩;rw[←l];exact lH g1 (iC r)
theorem Pq{c:Code}{q:bI}(hr:pj P m c q){s:aj}{t:Tree}(h:ry m q s=some t):uS P m c s t:=by
 unfold ry at h;split at h
 case h_2=>cases h
 rename_i b d u;cases h;intro Q g;simp only[Tree.holds,o_,aq]at g;obtain⟨⟨rfl,h1⟩,l⟩:=g;cases a:q.st d with
 |none=>rw[a]at h1; cases h1
 | some r =>
  obtain⟨k,d'⟩:=r;cases k with
  |none=>rw[a]at h1; cases h1
  | some i =>
   obtain⟨o,g1,g2⟩:=hr d i d' a;rw[a]at l;exact⟨o.x,(aI o.S d'),oL ((j8 q.opens s).trans (iC u)) g2,vn g1 (dL i).symm l⟩
theorem ay.Gp{fn:Func}{q:bI} (d:jD q.key (bl (aY fn))=true) (b:ay P m L (aY fn)) (hr:ay P m L (cutAt fn q.key)→pj P m (cutAt fn q.key) q) :
  ay P m (L.gk m q) (aY fn):=by
 refine⟨b.1,b.2.1,fun k g hk s t a=>?_⟩;simp only[LT.gk]at a;split at a
 ·rename_i e
  have e:=aR e;subst e;have h:=zB d hk;rw[←h]at hr;exact Pq (hr (b.sub (l7 hk) (l8 hk))) a
 ·exact b.2.2 k g hk s t a
def rI(o:Option Tmp)(t:Tmp):Bool :=
 match o with
 |some x=>ah x t
 |none=>false
theorem vN{o:Option Tmp}{t:Tmp}(h:rI o t=true):o=some t:=by
 cases o with
 |none=>cases h
 |some x=>exact congrArg some (aR h)
def vO(P:Program)(sp:dS)(ops:Array Oper):Bool :=
 match ops.toList.getLast? with
 |some ⟨d2,.range ty (.tmp b),_,_,_,none⟩=>ah b sp.y&&rI d2 sp.it&&(cz P ty).isSome
 |_=>false
def vP(sp:dS)(ops:Array Oper):Bool :=
 match ops.toList with
 | [⟨d1,.next (.tmp a) false,_,_,_,none⟩,⟨d2,.extract (.tmp b) 0,_,_,_,none⟩]=>ah a sp.it&&rI d1 sp.t1&&ah b sp.t1&&rI d2 sp.t2
 |_=>false
def vQ(sp:dS)(ops:Array Oper):Bool :=
 match ops.toList with
 |⟨d1,.entry (.tmp a),_,_,_,none⟩::_=>ah a sp.it&&rI d1 sp.t3
 |_=>false
theorem Gq(h0:vO P sp aH=true)(h1:vP sp be=true)(d:vQ sp aL=true):kZ P sp aH be aL:=by
 refine⟨?_,?_,?_⟩
 ·unfold vO at h0
  split at h0
  ·rename_i d2 ty b t' i k e
   simp only[aq]at h0;obtain⟨⟨g3,g4⟩,g5⟩:=h0;have g3:=aR g3;subst g3;refine⟨⟨d2,.range ty (.tmp sp.y),t',i,k,none⟩,ty,?_,rfl,rfl,vN g4,g5⟩;have g:aH.toList≠[]:=by
    intro h;rw[h]at e;cases e
   have d:=List.dropLast_concat_getLast g;have q:aH.toList.getLast? = some (aH.toList.getLast g):=by
    rw[List.getLast?_eq_some_iff];exact⟨_,d.symm⟩
   rw[q]at e;rw[fa e]at d;exact d.symm
  ·cases h0
 ·unfold vP at h1
  split at h1
  ·rename_i d1 a _ _ _ d2 b _ _ _ e
   simp only[aq]at h1;obtain⟨⟨⟨g1,g2⟩,g3⟩,g4⟩:=h1;have g1:=aR g1;have g3:=aR g3;subst g1;subst g3;exact⟨_,_,e,rfl,rfl,vN g2,rfl,rfl,vN g4⟩
  ·cases h1
 ·unfold vQ at d
  split at d
  ·rename_i d1 a _ _ _ l e
   simp only[aq]at d;have g1:=aR d.1;subst g1;exact⟨_,l,e,rfl,rfl,vN d.2⟩
  ·cases d
def zQ:Code→Code
 |.seq _ b=>b
 |_=>.skip
def zR:Code→Code
 |.seq (.seq _ (.block _ (.loop c))) _=>c
 |_=>.skip
def rJ(c:Code):Code:=match zR c with
 |.seq _ (.seq _ (.block _ (.seq _ b)))=>b
 |_=>.skip
def zS:Code→Array Oper
 |.region _ ops _=>ops
 |_=>#[]
def jH:Code→Array Oper
 |.seq (.seq r _) _=>zS r
 |_=>#[]
def zT(c:Code):Array Oper:=match zR c with
 |.seq r _=>zS r
 |_=>#[]
def pk(c:Code):Array Oper:=match zR c with
 |.seq _ (.seq _ (.block _ (.seq r _)))=>zS r
 |_=>#[]
theorem Pr{r0 r1 b0 b1 r2 t2:Nat}{rest:Code} (h:ay P m L (.seq (me r0 b0 r1 b1 r2 aH be aL t2 body) rest)):ay P m L body∧ay P m L rest:=by
 refine⟨h.sub (fun p a=>?_) (fun p a=>?_),h.sub (fun p a=>?_) (fun p a=>?_)⟩
 ·simp only [bk, me, bQ]
  left;right;split
  ·simp only [bN, bk, bQ]
   exact .inr (.inr (.inr (.inr a)))
  ·simp only [bk, bQ]
   exact .inr (.inr (.inr a))
 ·simp only [bl, me, bQ]
  exact .inl (.inr (.inr (.inr (.inr (.inr (.inr (.inr (.inr a))))))))
 ·simp only [bk, bQ]
  exact .inr a
 ·simp only [bl, bQ]
  exact .inr (.inr a)
def Ps(P:Program)(τ:al)(ops:Array Oper)(s:aj):aj:=match (kT P τ ops ops.toList.dropLast s fun s=>.done .normal s).ka with
 |some (_,s1)=>s1
 |none=>s
theorem Pt(a:ao P τ){ops:Array Oper}{l:List Oper}{s s1:aj}(h:(kT P τ ops l s fun s=>.done .normal s).ka=some (.normal,s1)):eT P τ.pf ops l s.den s1.den:=by
 obtain⟨s',h1,b⟩:=q_ a (rF h);obtain⟨_,rfl⟩:=b;exact h1
end range
end Go.AL
