/-
 What is proved here: a range over slices.Backward of data,and what comes behind it,as a function on data: rounds from the last row to the first one. No program in sight; no condition.
-/
import Derived.Test.YtppdbdblllpimaaGreatDoorMG
set_option linter.all false
open Bool renaming and_eq_true→ay
open List renaming mem_append→bV
open Nat renaming beq→ab,eq_of_beq_eq_true→bD,ble→db,le_of_ble_eq_true→kM
namespace Go.AL
open Go
variable [Dr]
variable {P:Program} {τ:ah} {L:LT} {m:Nat}
def Bz(i:jR)(K:List Kd):Bool:=ab K.length i.w&&(bif i.agg then db i.pw K.length else Nat.blt 0 K.length)
theorem YU{i:jR}{e b:Nat}{K:List Kd}{rows:List (List G)}(h1:eJ P i.T1=some (1,false))(q:cw P i.T1=.slice e i.w b)(J:eJ P i.T2=some (i.pw,i.agg))(hk:Bz i K=true) :
  xD P i.T1 i.T2 (.listF K rows) rows.length (fun k=>nq i.agg i.pw (aG K (rows.getD k []))):=by
 unfold Bz at hk;simp only[ay]at hk;obtain⟨hw,d⟩:=hk;have hw:=bD hw;refine⟨fun H=>?_,?_,fun k F I=>?_,by simp[AV.br,AV.closed]⟩
 ·simp[gp,h1,gn]
 ·rw [q]
  rfl
 ·refine ⟨aG K (rows.getD k.toNat []), ?_, fun H => ?_⟩
  ·rw [q]
   simp only[kP];rw[if_pos ⟨hw,F,I⟩]
  ·have g:∃ v,gn i.agg i.pw (aG K (rows.getD k.toNat []))=some v:=by
    have A:=qT K (rows.getD k.toNat []);unfold gn;cases B:i.agg with
    | true =>
     rw[B]at d;have d:=kM d;exact⟨_,by rw[if_pos rfl,if_pos (by rw[A]; exact d)]⟩
    | false =>
     rw[B]at d;have d:0<K.length:=by simpa[Nat.blt_eq]using d
     rw[if_neg (by simp),List.getElem?_eq_getElem (by rw[A]; exact d)];exact⟨_,rfl⟩
   obtain⟨v,g⟩:=g;simp only[gp,J,g];unfold nq;rw[g];rfl
structure uy where
 inv:lj
 ps:List iF
 opens:List (Nat × List Kd)
 K:List Kd
 agg:Bool
 pw:Nat
 id:Nat
 p0:Tmp
 p1:Tmp
 init:List G→List G
 side:List G→Bool
 st:Int→List G→List G→Option (List G)
def qk(st:Int→List G→List G→Option (List G))(rows:List (List G)):Nat→List G→Option (List G)
 |0,d=>some d
 | n+1,d=>match st ((n:Nat):Int) (rows.getD n []) d with
  |some d'=>qk st rows n d'
  |none=>none
theorem NX{st:Int→List G→List G→Option (List G)}{rows:List (List G)}:∀(n:Nat) (d g:List G),qk st rows n d=some g→∃ f:Nat→List G,f 0=d∧f n=g∧∀ k,k<n→st ((n:Int)-1-k) (rows.getD (n-1-k) []) (f k)=some (f (k+1))
 | 0,d,g,h=>by
  cases h;exact⟨fun _=>d,rfl,rfl,fun k hk=>by omega⟩
 | n+1,d,g,h=>by
  simp only[qk]at h;split at h
  ·rename_i d' q
   obtain⟨f,h0,h1,A⟩:=NX n d' g h;refine⟨fun j=>match j with|0=>d|j+1=>f j,rfl,h1,fun k hk=>?_⟩;cases k with
   | zero =>
    show st _ _ d=some (f 0)
    rw[h0,←q];congr 1
    ·omega
   | succ k =>
    have:=A k (by omega);show st _ _ (f k)=some (f (k+1))
    rw[←this];congr 1
    ·omega
    ·congr 1
     omega
  ·cases h
def xL(sp:uy)(tl:List G→Option (Option Nat × List G))(rows:List (List G))(d:List G):Option (Option Nat × List G) :=
 bif (db rows.length 1048576&&sp.side d) then (qk sp.st rows rows.length (sp.init d)).bind tl else none
def NY(n:Nat):List iF:=(List.range n).map .fix
def BA(P:Program)(τ:ah)(L:LT)(sp:uy)(assign body:Code):Prop :=
 ∀(i:Int) (r d:List G),(bW P τ L assign ⟨((aF sp.inv d).fr.set sp.p0 (.lit (.int .i64 i))).set sp.p1 (nq sp.agg sp.pw (aG sp.K r)),(aF sp.inv d).H⟩ fun x s1=>match x with
  | .normal=>bW P τ L body s1 fun x s2=>match x with
   |.normal=>.done .normal ⟨(aF sp.inv d).fr,s2.H⟩
   |_=>.fail
  |_=>.fail).leaf (oz sp.inv.aO.length sp.inv (NY sp.inv.aO.length))=sp.st i r d
theorem YV(hm:P.follows .mixedOrders=true)(q:aj P τ){sp:uy}{assign body:Code}(A:∀ m,ax P m L assign)(B:∀ m,ax P m L body)(hr:BA P τ L sp assign body){i:Int}{r d d':List G}(h:sp.st i r d=some d') :
  ∃ s1 s2:ao,cn P sp.inv.aO.length assign ⟨((aF sp.inv d).fr.set sp.p0 (.lit (.int .i64 i))).set sp.p1 (nq sp.agg sp.pw (aG sp.K r)),(aF sp.inv d).den.H⟩ .normal s1.den∧cn P sp.inv.aO.length body s1.den .normal s2.den ∧
   bQ sp.inv.aO.length ⟨(aF sp.inv d).fr,s2.den.H⟩ (aF sp.inv d').den:=by
 rw[←hr i r d]at h;have h:=iY h;obtain⟨x,s1,h1,k⟩:=dS hm q (m:=sp.inv.aO.length) assign _ _ (A _) h;cases x with
 |exit _=>exact k.elim
 |ret=>exact k.elim
 | normal =>
  obtain⟨x,s2,F,g⟩:=dS hm q (m:=sp.inv.aO.length) body _ _ (B _) k;cases x with
  |exit _=>exact g.elim
  |ret=>exact g.elim
  | normal =>
   have g:oz sp.inv.aO.length sp.inv (NY sp.inv.aO.length) .normal ⟨(aF sp.inv d).fr,s2.H⟩=some (true,d'):=g;exact⟨s1,s2,h1,F,jr (s:=⟨(aF sp.inv d).fr,s2.H⟩) g⟩
theorem YW(hm:P.follows .mixedOrders=true)(M:aj P τ){i:jR}(hi:qi P i){sp:uy}{rest r3 assign body:Code}{q qr:bq}{b:Nat}{g:Tmp}{wd:Nat}{L0:LT}
  (hLa:∀ m,ax P m L0 assign) (hLb:∀ m,ax P m L0 body) (hr:BA P τ L0 sp assign body) (hL3:ax P m L r3) (A:(eC assign&&eC body)=true) (hk:(Bz i sp.K&&(ab sp.pw i.pw&&(sp.agg==i.agg)&&db m sp.inv.aO.length))=true)
  {rows:List G→List (List G)} {pre:List G→ao} (hy:∀ d,(bW P τ L r3 (aF q.inv d) .done).fg=some (.normal,pre d)) (hg:∀ d,(pre d).fr.getD g .undef=.clo i.f [.ptr sp.id 0 wd 0 0]) (hid:∀ d,(pre d).H[sp.id]? = some (.raw (.box [.listF sp.K (rows d)])))
  (hin:∀ d,gg m sp.inv sp.ps (fR sp.opens ⟨(pre d).fr,(pre d).H.set sp.id (.raw .dead)⟩)=some (sp.side d,sp.init d)) (Y:∀ d,lv sp.inv.aO.length (aF sp.inv d).fr=true)
  (hinv:qr.inv=sp.inv) (U:qr.outs=q.outs) (W:oC P m rest qr) (hst:∀ d,q.st d=xL sp qr.st (rows d) d) :
  oC P m (.seq (.seq r3 (.block b (.rangeFunc (.tmp g) #[sp.p0,sp.p1] assign body))) rest) q:=by
 intro d x d' h;rw[hst]at h;unfold xL at h;cases aL:(db (rows d).length 1048576&&sp.side d)with
 |false=>rw[aL]at h; cases h
 | true =>
  rw[aL]at h;simp only[cond_true]at h;simp only[ay]at aL hk A;obtain⟨hlen,hsd⟩:=aL;obtain⟨hk1,⟨B,F⟩,hk4⟩:=hk;have B:=bD B;have F:sp.agg=i.agg:=by simpa using F
  cases I:qk sp.st (rows d) (rows d).length (sp.init d)with
  |none=>rw[I]at h; cases h
  | some J =>
   rw[I]at h;have h:qr.st J=some (some x,d'):=h;obtain⟨o,ho1,hsat⟩:=W J x d' h;refine⟨o,by rw[←U]; exact ho1,?_⟩;obtain⟨x3,s3,h3,h4⟩:=dS hm M r3 (aF q.inv d) .done hL3 (qg (hy d));obtain⟨rfl,rfl⟩:=h4;obtain⟨f,f0,f1,f2⟩:=NX _ _ _ I;obtain⟨fd,ops0,ops1,ops2,cf,r0,r1,r2,r3',b0,b1,e,bb,q1,q2,q3,q4,q5,q6,q7,q8,q9⟩:=hi;have hR:xE P sp.inv.aO.length (rows d).length (fun k=>nq i.agg i.pw (aG sp.K ((rows d).getD k []))) sp.p0 sp.p1 assign body (fun k=>(aF sp.inv (f k)).den):=by
    refine⟨A.1,A.2,fun k _=>Y (f k),fun k hk=>?_⟩;obtain⟨s1,s2,g1,g2,g3⟩:=YV hm M hLa hLb hr (f2 k hk);rw[B,F]at g1;exact⟨s1.den,s2.den,g1,g2,g3⟩
   have N:=NI (m:=m) (m':=sp.inv.aO.length) (P:=P) (YU (rows:=rows d) q7 q8 q9 hk1) q1 q2 q3 q4 q5 q6 (kM hlen) (kM hk4) hR (g:=g) (s:=(pre d).den) (id:=sp.id) (wd:=wd) (hg d) (bx (hid d)) (by
    have O:=hin d;rw[hsd]at O;have h6:=(lk (m:=m) sp.opens ⟨(pre d).fr,(pre d).H.set sp.id (.raw .dead)⟩).trans (jr O);rw[f0];have e:(⟨(pre d).fr,ai ((pre d).H.set sp.id (.raw .dead))⟩:St)=⟨(pre d).den.fr,(pre d).den.H.set sp.id .dead⟩:=by
     show (⟨(pre d).fr,ai ((pre d).H.set sp.id (.raw .dead))⟩:St)=⟨(pre d).fr,(ai (pre d).H).set sp.id .dead⟩
     rw[eE];rfl
    rw[←e];exact h6)
   rw[f1]at N;have R:cn P m (.block b (.rangeFunc (.tmp g) #[sp.p0,sp.p1] assign body)) (pre d).den .normal (aF sp.inv J).den:=ES (x:=.normal) N;rw[←hinv]at R;exact tR (tR h3 R) hsat
def GB:Code→Code
 |.seq (.seq r _) _=>r
 |_=>.skip
def BB:Code→Code
 |.seq (.seq _ (.block _ (.rangeFunc _ _ a _))) _=>a
 |_=>.skip
def BC:Code→Code
 |.seq (.seq _ (.block _ (.rangeFunc _ _ _ b))) _=>b
 |_=>.skip
theorem YX{r3 assign body rest:Code}{b:Nat}{o:Operand}{ps:Array Tmp} (h:ax P m L (.seq (.seq r3 (.block b (.rangeFunc o ps assign body))) rest)):ax P m L r3∧ax P m L rest:=by
 refine⟨h.sub (fun p d=>?_) (fun p d=>?_),h.sub (fun p d=>?_) (fun p d=>?_)⟩
 ·simp only [bH, bV]
  exact .inl (.inl d)
 ·simp only [bG, bV]
  exact .inl (.inl d)
 ·simp only [bH, bV]
  exact .inr d
 ·simp only [bG, bV]
  exact .inr (.inr d)
theorem ax.YY(hm:P.follows .mixedOrders=true)(B:aj P τ){i:jR}(hi:qi P i){fn:Func}{sp:uy}{q qr:bq}{b:Nat}{g:Tmp}{wd:Nat}{L0:LT}
  (hn:ln q.key (bG (aN fn))=true) (W:ax P m L (aN fn)) (k:∀ m c,ax P m L0 c)
  (hc:cutAt fn q.key=.seq (.seq (GB (cutAt fn q.key)) (.block b (.rangeFunc (.tmp g) #[sp.p0,sp.p1] (BB (cutAt fn q.key)) (BC (cutAt fn q.key))))) (ls (cutAt fn q.key)))
  (hr:BA P τ L0 sp (BB (cutAt fn q.key)) (BC (cutAt fn q.key))) (M:(eC (BB (cutAt fn q.key))&&eC (BC (cutAt fn q.key)))=true) (hk:(Bz i sp.K&&(ab sp.pw i.pw&&(sp.agg==i.agg)&&db m sp.inv.aO.length))=true)
  {rows:List G→List (List G)} {pre:List G→ao} (Y:∀ d,(bW P τ L (GB (cutAt fn q.key)) (aF q.inv d) .done).fg=some (.normal,pre d)) (hg:∀ d,(pre d).fr.getD g .undef=.clo i.f [.ptr sp.id 0 wd 0 0]) (hid:∀ d,(pre d).H[sp.id]? = some (.raw (.box [.listF sp.K (rows d)])))
  (N:∀ d,gg m sp.inv sp.ps (fR sp.opens ⟨(pre d).fr,(pre d).H.set sp.id (.raw .dead)⟩)=some (sp.side d,sp.init d)) (J:∀ d,lv sp.inv.aO.length (aF sp.inv d).fr=true)
  (hinv:qr.inv=sp.inv) (F:qr.outs=q.outs) (I:gh P τ L m (ls (cutAt fn q.key)) qr) (O:∀ d,q.st d=xL sp qr.st (rows d) d) :
  ax P m (L.ff m q) (aN fn):=by
 refine ax.Gj hn W fun A=>?_;rw[hc]at A;obtain⟨R,U⟩:=YX A;rw[hc];exact YW hm B hi (fun m=>k m _) (fun m=>k m _) hr R M hk Y hg hid N J hinv F (I.sat hm B U) O
def preB(P:Program)(τ:ah)(L:LT)(c:Code)(s:ao):ao:=match (bW P τ L (GB c) s .done).fg with
 |some (_,s1)=>s1
 |none=>s
end Go.AL
