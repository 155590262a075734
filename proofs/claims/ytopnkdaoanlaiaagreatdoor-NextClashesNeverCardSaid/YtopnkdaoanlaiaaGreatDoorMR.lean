/-
 What is proved here: a range over slices.Backward of data,and what comes behind it,as a function on data: rounds from the last row to the first one. No program in sight; no condition.
-/
import Derived.Test.YtopnkdaoanlaiaaGreatDoorMG
set_option linter.all false
open Bool renaming and_eq_true→aw
open List renaming mem_append→bV
open Nat renaming beq→ab,eq_of_beq_eq_true→bt,ble→cR,le_of_ble_eq_true→j9
namespace Go.AL
open Go
variable [Dr]
variable {P:Program} {τ:ah} {L:LT} {m:Nat}
def AI(i:jr)(K:List Kd):Bool:=ab K.length i.w&&(bif i.agg then cR i.pw K.length else Nat.blt 0 K.length)
theorem Xr{i:jr}{e b:Nat}{K:List Kd}{rows:List (List G)}(h1:eo P i.T1=some (1,false))(q:bY P i.T1=.slice e i.w b)(J:eo P i.T2=some (i.pw,i.agg))(hk:AI i K=true) :
  wz P i.T1 i.T2 (.listF K rows) rows.length (fun k=>mz i.agg i.pw (aD K (rows.getD k []))):=by
 unfold AI at hk;simp only[aw]at hk;obtain⟨hw,d⟩:=hk;have hw:=bt hw;refine⟨fun H=>?_,?_,fun k F I=>?_,by simp[AV.bf,AV.closed]⟩
 ·simp[fN,h1,fM]
 ·rw [q]
  rfl
 ·refine ⟨aD K (rows.getD k.toNat []), ?_, fun H => ?_⟩
  ·rw [q]
   simp only[ka];rw[if_pos ⟨hw,F,I⟩]
  ·have g:∃ v,fM i.agg i.pw (aD K (rows.getD k.toNat []))=some v:=by
    have A:=qf K (rows.getD k.toNat []);unfold fM;cases B:i.agg with
    | true =>
     rw[B]at d;have d:=j9 d;exact⟨_,by rw[if_pos rfl,if_pos (by rw[A]; exact d)]⟩
    | false =>
     rw[B]at d;have d:0<K.length:=by simpa[Nat.blt_eq]using d
     rw[if_neg (by simp),List.getElem?_eq_getElem (by rw[A]; exact d)];exact⟨_,rfl⟩
   obtain⟨v,g⟩:=g;simp only[fN,J,g];unfold mz;rw[g];rfl
structure tw where
 inv:kD
 ps:List gX
 opens:List (Nat × List Kd)
 K:List Kd
 agg:Bool
 pw:Nat
 id:Nat
 p0:Tmp
 p1:Tmp
 init:List G→List G
 side:List G→Bool
 st:Int→List G→List G→Option (List G)
def pD(st:Int→List G→List G→Option (List G))(rows:List (List G)):Nat→List G→Option (List G)
 |0,d=>some d
 | n+1,d=>match st ((n:Nat):Int) (rows.getD n []) d with
  |some d'=>pD st rows n d'
  |none=>none
theorem Mp{st:Int→List G→List G→Option (List G)}{rows:List (List G)}:∀(n:Nat) (d g:List G),pD st rows n d=some g→∃ f:Nat→List G,f 0=d∧f n=g∧∀ k,k<n→st ((n:Int)-1-k) (rows.getD (n-1-k) []) (f k)=some (f (k+1))
 | 0,d,g,h=>by
  cases h;exact⟨fun _=>d,rfl,rfl,fun k hk=>by omega⟩
 | n+1,d,g,h=>by
  simp only[pD]at h;split at h
  ·rename_i d' q
   obtain⟨f,h0,h1,A⟩:=Mp n d' g h;refine⟨fun j=>match j with|0=>d|j+1=>f j,rfl,h1,fun k hk=>?_⟩;cases k with
   | zero =>
    show st _ _ d=some (f 0)
    rw[h0,←q];congr 1
    ·omega
   | succ k =>
    have:=A k (by omega);show st _ _ (f k)=some (f (k+1))
    rw[←this];congr 1
    ·omega
    ·congr 1
     omega
  ·cases h
def wH(sp:tw)(tl:List G→Option (Option Nat × List G))(rows:List (List G))(d:List G):Option (Option Nat × List G) :=
 bif (cR rows.length 1048576&&sp.side d) then (pD sp.st rows rows.length (sp.init d)).bind tl else none
def Mq(n:Nat):List gX:=(List.range n).map .fix
def AJ(P:Program)(τ:ah)(L:LT)(sp:tw)(assign body:Code):Prop :=
 ∀(i:Int) (r d:List G),(bQ P τ L assign ⟨((aM sp.inv d).fr.set sp.p0 (.lit (.int .i64 i))).set sp.p1 (mz sp.agg sp.pw (aD sp.K r)),(aM sp.inv d).H⟩ fun x s1=>match x with
  | .normal=>bQ P τ L body s1 fun x s2=>match x with
   |.normal=>.done .normal ⟨(aM sp.inv d).fr,s2.H⟩
   |_=>.fail
  |_=>.fail).leaf (nB sp.inv.aK.length sp.inv (Mq sp.inv.aK.length))=sp.st i r d
theorem Xs(hm:P.follows .mixedOrders=true)(q:ai P τ){sp:tw}{assign body:Code}(A:∀ m,ay P m L assign)(B:∀ m,ay P m L body)(hr:AJ P τ L sp assign body){i:Int}{r d d':List G}(h:sp.st i r d=some d') :
  ∃ s1 s2:al,bU P sp.inv.aK.length assign ⟨((aM sp.inv d).fr.set sp.p0 (.lit (.int .i64 i))).set sp.p1 (mz sp.agg sp.pw (aD sp.K r)),(aM sp.inv d).den.H⟩ .normal s1.den∧bU P sp.inv.aK.length body s1.den .normal s2.den ∧
   bL sp.inv.aK.length ⟨(aM sp.inv d).fr,s2.den.H⟩ (aM sp.inv d').den:=by
 rw[←hr i r d]at h;have h:=iu h;obtain⟨x,s1,h1,k⟩:=dK hm q (m:=sp.inv.aK.length) assign _ _ (A _) h;cases x with
 |exit _=>exact k.elim
 |ret=>exact k.elim
 | normal =>
  obtain⟨x,s2,F,g⟩:=dK hm q (m:=sp.inv.aK.length) body _ _ (B _) k;cases x with
  |exit _=>exact g.elim
  |ret=>exact g.elim
  | normal =>
   have g:nB sp.inv.aK.length sp.inv (Mq sp.inv.aK.length) .normal ⟨(aM sp.inv d).fr,s2.H⟩=some (true,d'):=g;exact⟨s1,s2,h1,F,jm (s:=⟨(aM sp.inv d).fr,s2.H⟩) g⟩
theorem Xt(hm:P.follows .mixedOrders=true)(M:ai P τ){i:jr}(hi:pB P i){sp:tw}{rest r3 assign body:Code}{q qr:bx}{b:Nat}{g:Tmp}{wd:Nat}{L0:LT}
  (hLa:∀ m,ay P m L0 assign) (hLb:∀ m,ay P m L0 body) (hr:AJ P τ L0 sp assign body) (hL3:ay P m L r3) (A:(d_ assign&&d_ body)=true) (hk:(AI i sp.K&&(ab sp.pw i.pw&&(sp.agg==i.agg)&&cR m sp.inv.aK.length))=true)
  {rows:List G→List (List G)} {pre:List G→al} (hy:∀ d,(bQ P τ L r3 (aM q.inv d) .done).fk=some (.normal,pre d)) (hg:∀ d,(pre d).fr.getD g .undef=.clo i.f [.ptr sp.id 0 wd 0 0]) (hid:∀ d,(pre d).H[sp.id]? = some (.raw (.box [.listF sp.K (rows d)])))
  (hin:∀ d,gY m sp.inv sp.ps (gH sp.opens ⟨(pre d).fr,(pre d).H.set sp.id (.raw .dead)⟩)=some (sp.side d,sp.init d)) (Y:∀ d,kG sp.inv.aK.length (aM sp.inv d).fr=true)
  (hinv:qr.inv=sp.inv) (U:qr.outs=q.outs) (W:qT P m rest qr) (hst:∀ d,q.st d=wH sp qr.st (rows d) d) :
  qT P m (.seq (.seq r3 (.block b (.rangeFunc (.tmp g) #[sp.p0,sp.p1] assign body))) rest) q:=by
 intro d x d' h;rw[hst]at h;unfold wH at h;cases aL:(cR (rows d).length 1048576&&sp.side d)with
 |false=>rw[aL]at h; cases h
 | true =>
  rw[aL]at h;simp only[cond_true]at h;simp only[aw]at aL hk A;obtain⟨hlen,hsd⟩:=aL;obtain⟨hk1,⟨B,F⟩,hk4⟩:=hk;have B:=bt B;have F:sp.agg=i.agg:=by simpa using F
  cases I:pD sp.st (rows d) (rows d).length (sp.init d)with
  |none=>rw[I]at h; cases h
  | some J =>
   rw[I]at h;have h:qr.st J=some (some x,d'):=h;obtain⟨o,ho1,hsat⟩:=W J x d' h;refine⟨o,by rw[←U]; exact ho1,?_⟩;obtain⟨x3,s3,h3,h4⟩:=dK hm M r3 (aM q.inv d) .done hL3 (pt (hy d));obtain⟨rfl,rfl⟩:=h4;obtain⟨f,f0,f1,f2⟩:=Mp _ _ _ I;obtain⟨fd,ops0,ops1,ops2,bS,r0,r1,r2,r3',b0,b1,e,bb,q1,q2,q3,q4,q5,q6,q7,q8,q9⟩:=hi;have hR:wA P sp.inv.aK.length (rows d).length (fun k=>mz i.agg i.pw (aD sp.K ((rows d).getD k []))) sp.p0 sp.p1 assign body (fun k=>(aM sp.inv (f k)).den):=by
    refine⟨A.1,A.2,fun k _=>Y (f k),fun k hk=>?_⟩;obtain⟨s1,s2,g1,g2,g3⟩:=Xs hm M hLa hLb hr (f2 k hk);rw[B,F]at g1;exact⟨s1.den,s2.den,g1,g2,g3⟩
   have N:=L9 (m:=m) (m':=sp.inv.aK.length) (P:=P) (Xr (rows:=rows d) q7 q8 q9 hk1) q1 q2 q3 q4 q5 q6 (j9 hlen) (j9 hk4) hR (g:=g) (s:=(pre d).den) (id:=sp.id) (wd:=wd) (hg d) (bl (hid d)) (by
    have O:=hin d;rw[hsd]at O;have h6:=(lA (m:=m) sp.opens ⟨(pre d).fr,(pre d).H.set sp.id (.raw .dead)⟩).trans (jm O);rw[f0];have e:(⟨(pre d).fr,aj ((pre d).H.set sp.id (.raw .dead))⟩:St)=⟨(pre d).den.fr,(pre d).den.H.set sp.id .dead⟩:=by
     show (⟨(pre d).fr,aj ((pre d).H.set sp.id (.raw .dead))⟩:St)=⟨(pre d).fr,(aj (pre d).H).set sp.id .dead⟩
     rw[eu];rfl
    rw[←e];exact h6)
   rw[f1]at N;have R:bU P m (.block b (.rangeFunc (.tmp g) #[sp.p0,sp.p1] assign body)) (pre d).den .normal (aM sp.inv J).den:=DA (x:=.normal) N;rw[←hinv]at R;exact sS (sS h3 R) hsat
def Fe:Code→Code
 |.seq (.seq r _) _=>r
 |_=>.skip
def AK:Code→Code
 |.seq (.seq _ (.block _ (.rangeFunc _ _ a _))) _=>a
 |_=>.skip
def AM:Code→Code
 |.seq (.seq _ (.block _ (.rangeFunc _ _ _ b))) _=>b
 |_=>.skip
theorem Xu{r3 assign body rest:Code}{b:Nat}{o:Operand}{ps:Array Tmp} (h:ay P m L (.seq (.seq r3 (.block b (.rangeFunc o ps assign body))) rest)):ay P m L r3∧ay P m L rest:=by
 refine⟨h.sub (fun p d=>?_) (fun p d=>?_),h.sub (fun p d=>?_) (fun p d=>?_)⟩
 ·simp only [bC, bV]
  exact .inl (.inl d)
 ·simp only [bA, bV]
  exact .inl (.inl d)
 ·simp only [bC, bV]
  exact .inr d
 ·simp only [bA, bV]
  exact .inr (.inr d)
theorem ay.Xv(hm:P.follows .mixedOrders=true)(B:ai P τ){i:jr}(hi:pB P i){fn:Func}{sp:tw}{q qr:bx}{b:Nat}{g:Tmp}{wd:Nat}{L0:LT}
  (hn:lB q.key (bA (aN fn))=true) (W:ay P m L (aN fn)) (k:∀ m c,ay P m L0 c)
  (hc:cutAt fn q.key=.seq (.seq (Fe (cutAt fn q.key)) (.block b (.rangeFunc (.tmp g) #[sp.p0,sp.p1] (AK (cutAt fn q.key)) (AM (cutAt fn q.key))))) (nC (cutAt fn q.key)))
  (hr:AJ P τ L0 sp (AK (cutAt fn q.key)) (AM (cutAt fn q.key))) (M:(d_ (AK (cutAt fn q.key))&&d_ (AM (cutAt fn q.key)))=true) (hk:(AI i sp.K&&(ab sp.pw i.pw&&(sp.agg==i.agg)&&cR m sp.inv.aK.length))=true)
  {rows:List G→List (List G)} {pre:List G→al} (Y:∀ d,(bQ P τ L (Fe (cutAt fn q.key)) (aM q.inv d) .done).fk=some (.normal,pre d)) (hg:∀ d,(pre d).fr.getD g .undef=.clo i.f [.ptr sp.id 0 wd 0 0]) (hid:∀ d,(pre d).H[sp.id]? = some (.raw (.box [.listF sp.K (rows d)])))
  (N:∀ d,gY m sp.inv sp.ps (gH sp.opens ⟨(pre d).fr,(pre d).H.set sp.id (.raw .dead)⟩)=some (sp.side d,sp.init d)) (J:∀ d,kG sp.inv.aK.length (aM sp.inv d).fr=true)
  (hinv:qr.inv=sp.inv) (F:qr.outs=q.outs) (I:gl P τ L m (nC (cutAt fn q.key)) qr) (O:∀ d,q.st d=wH sp qr.st (rows d) d) :
  ay P m (L.fI m q) (aN fn):=by
 refine ay.L5 hn W fun A=>?_;rw[hc]at A;obtain⟨R,U⟩:=Xu A;rw[hc];exact Xt hm B hi (fun m=>k m _) (fun m=>k m _) hr R M hk Y hg hid N J hinv F (I.sat hm B U) O
def preB(P:Program)(τ:ah)(L:LT)(c:Code)(s:al):al:=match (bQ P τ L (Fe c) s .done).fk with
 |some (_,s1)=>s1
 |none=>s
end Go.AL
