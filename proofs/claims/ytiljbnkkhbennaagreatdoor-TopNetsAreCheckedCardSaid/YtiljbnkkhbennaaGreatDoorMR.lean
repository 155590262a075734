/-
 What is proved here: a range over slices.Backward of data,and what comes behind it,as a function on data: rounds from the last row to the first one. No program in sight; no condition.
-/
import Derived.Test.YtiljbnkkhbennaaGreatDoorMG
set_option linter.all false
open Bool renaming and_eq_true→az
open List renaming mem_append→cQ
open Nat renaming beq→ab,eq_of_beq_eq_true→bk,ble→eE,le_of_ble_eq_true→nW
namespace Go.AL
open Go
variable [Dr]
variable {P:Program} {τ:ai} {L:LT} {m:Nat}
def Bq(i:j7)(K:List Kd):Bool:=ab K.length i.w&&(bif i.agg then eE i.pw K.length else Nat.blt 0 K.length)
theorem aaE{i:j7}{e b:Nat}{K:List Kd}{rows:List (List G)}(h1:e_ P i.T1=some (1,false))(B:cg P i.T1=.slice e i.w b)(N:e_ P i.T2=some (i.pw,i.agg))(hk:Bq i K=true) :
  w7 P i.T1 i.T2 (.listF K rows) rows.length (fun k=>np i.agg i.pw (aH K (rows.getD k []))):=by
 unfold Bq at hk;simp only[az]at hk;obtain⟨hw,d⟩:=hk;have hw:=bk hw;refine⟨fun H=>?_,?_,fun k J M=>?_,by simp[AV.br,AV.closed]⟩
 ·simp[g_,h1,gf]
 ·rw [B]
  rfl
 ·refine ⟨aH K (rows.getD k.toNat []), ?_, fun H => ?_⟩
  ·rw [B]
   simp only[kn];rw[if_pos ⟨hw,J,M⟩]
  ·have q:∃ v,gf i.agg i.pw (aH K (rows.getD k.toNat []))=some v:=by
    have I:=qR K (rows.getD k.toNat []);unfold gf;cases ha:i.agg with
    | true =>
     rw[ha]at d;have d:=nW d;exact⟨_,by rw[if_pos rfl,if_pos (by rw[I]; exact d)]⟩
    | false =>
     rw[ha]at d;have d:0<K.length:=by simpa[Nat.blt_eq]using d
     rw[if_neg (by simp),List.getElem?_eq_getElem (by rw[I]; exact d)];exact⟨_,rfl⟩
   obtain⟨v,q⟩:=q;simp only[g_,N,q];unfold np;rw[q];rfl
structure ug where
 inv:ng
 ps:List jE
 opens:List (Nat × List Kd)
 K:List Kd
 agg:Bool
 pw:Nat
 id:Nat
 p0:Tmp
 p1:Tmp
 init:List G→List G
 side:List G→Bool
 st:Int→List G→List G→Option (List G)
def qi(st:Int→List G→List G→Option (List G))(rows:List (List G)):Nat→List G→Option (List G)
 |0,d=>some d
 | n+1,d=>match st ((n:Nat):Int) (rows.getD n []) d with
  |some d'=>qi st rows n d'
  |none=>none
theorem Ox{st:Int→List G→List G→Option (List G)}{rows:List (List G)}:∀(n:Nat) (d q:List G),qi st rows n d=some q→∃ f:Nat→List G,f 0=d∧f n=q∧∀ k,k<n→st ((n:Int)-1-k) (rows.getD (n-1-k) []) (f k)=some (f (k+1))
 | 0,d,q,h=>by
  cases h;exact⟨fun _=>d,rfl,rfl,fun k hk=>by omega⟩
 | n+1,d,q,h=>by
  simp only[qi]at h;split at h
  ·rename_i d' B
   obtain⟨f,h0,h1,I⟩:=Ox n d' q h;refine⟨fun j=>match j with|0=>d|j+1=>f j,rfl,h1,fun k hk=>?_⟩;cases k with
   | zero =>
    show st _ _ d=some (f 0)
    rw[h0,←B];congr 1
    ·omega
   | succ k =>
    have:=I k (by omega);show st _ _ (f k)=some (f (k+1))
    rw[←this];congr 1
    ·omega
    ·congr 1
     omega
  ·cases h
def xh(sp:ug)(tl:List G→Option (Option Nat × List G))(rows:List (List G))(d:List G):Option (Option Nat × List G) :=
 bif (eE rows.length 1048576&&sp.side d) then (qi sp.st rows rows.length (sp.init d)).bind tl else none
def Oy(n:Nat):List jE:=(List.range n).map .fix
def Br(P:Program)(τ:ai)(L:LT)(sp:ug)(assign body:Code):Prop :=
 ∀(i:Int) (r d:List G),(dN P τ L assign ⟨((aM sp.inv d).fr.set sp.p0 (.lit (.int .i64 i))).set sp.p1 (np sp.agg sp.pw (aH sp.K r)),(aM sp.inv d).H⟩ fun x s1=>match x with
  | .normal=>dN P τ L body s1 fun x s2=>match x with
   |.normal=>.done .normal ⟨(aM sp.inv d).fr,s2.H⟩
   |_=>.fail
  |_=>.fail).leaf (uc sp.inv.bV.length sp.inv (Oy sp.inv.bV.length))=sp.st i r d
theorem aaF(hm:P.follows .mixedOrders=true)(B:ak P τ){sp:ug}{assign body:Code}(I:∀ m,ax P m L assign)(J:∀ m,ax P m L body)(hr:Br P τ L sp assign body){i:Int}{r d d':List G}(h:sp.st i r d=some d') :
  ∃ s1 s2:al,cI P sp.inv.bV.length assign ⟨((aM sp.inv d).fr.set sp.p0 (.lit (.int .i64 i))).set sp.p1 (np sp.agg sp.pw (aH sp.K r)),(aM sp.inv d).den.H⟩ .normal s1.den∧cI P sp.inv.bV.length body s1.den .normal s2.den ∧
   bl sp.inv.bV.length ⟨(aM sp.inv d).fr,s2.den.H⟩ (aM sp.inv d').den:=by
 rw[←hr i r d]at h;have h:=oH h;obtain⟨x,s1,h1,q⟩:=gh hm B (m:=sp.inv.bV.length) assign _ _ (I _) h;cases x with
 |exit _=>exact q.elim
 |ret=>exact q.elim
 | normal =>
  obtain⟨x,s2,M,k⟩:=gh hm B (m:=sp.inv.bV.length) body _ _ (J _) q;cases x with
  |exit _=>exact k.elim
  |ret=>exact k.elim
  | normal =>
   have k:uc sp.inv.bV.length sp.inv (Oy sp.inv.bV.length) .normal ⟨(aM sp.inv d).fr,s2.H⟩=some (true,d'):=k;exact⟨s1,s2,h1,M,ln (s:=⟨(aM sp.inv d).fr,s2.H⟩) k⟩
theorem aaG(hm:P.follows .mixedOrders=true)(O:ak P τ){i:j7}(hi:qh P i){sp:ug}{rest r3 assign body:Code}{q qr:be}{b:Nat}{g:Tmp}{wd:Nat}{L0:LT}
  (hLa:∀ m,ax P m L0 assign) (hLb:∀ m,ax P m L0 body) (hr:Br P τ L0 sp assign body) (hL3:ax P m L r3) (B:(fy assign&&fy body)=true) (hk:(Bq i sp.K&&(ab sp.pw i.pw&&(sp.agg==i.agg)&&eE m sp.inv.bV.length))=true)
  {rows:List G→List (List G)} {pre:List G→al} (hy:∀ d,(dN P τ L r3 (aM q.inv d) .done).jF=some (.normal,pre d)) (hg:∀ d,(pre d).fr.getD g .undef=.clo i.f [.ptr sp.id 0 wd 0 0]) (hid:∀ d,(pre d).H[sp.id]? = some (.raw (.box [.listF sp.K (rows d)])))
  (hin:∀ d,iq m sp.inv sp.ps (gy sp.opens ⟨(pre d).fr,(pre d).H.set sp.id (.raw .dead)⟩)=some (sp.side d,sp.init d)) (hfix:∀ d,nm sp.inv.bV.length (aM sp.inv d).fr=true)
  (hinv:qr.inv=sp.inv) (houts:qr.outs=q.outs) (hrest:oK P m rest qr) (hst:∀ d,q.st d=xh sp qr.st (rows d) d) :
  oK P m (.seq (.seq r3 (.block b (.rangeFunc (.tmp g) #[sp.p0,sp.p1] assign body))) rest) q:=by
 intro d x d' h;rw[hst]at h;unfold xh at h;cases bF:(eE (rows d).length 1048576&&sp.side d)with
 |false=>rw[bF]at h; cases h
 | true =>
  rw[bF]at h;simp only[cond_true]at h;simp only[az]at bF hk B;obtain⟨hlen,hsd⟩:=bF;obtain⟨hk1,⟨I,J⟩,hk4⟩:=hk;have I:=bk I;have J:sp.agg=i.agg:=by simpa using J
  cases M:qi sp.st (rows d) (rows d).length (sp.init d)with
  |none=>rw[M]at h; cases h
  | some N =>
   rw[M]at h;have h:qr.st N=some (some x,d'):=h;obtain⟨o,ho1,hsat⟩:=hrest N x d' h;refine⟨o,by rw[←houts]; exact ho1,?_⟩;obtain⟨x3,s3,h3,h4⟩:=gh hm O r3 (aM q.inv d) .done hL3 (ub (hy d));obtain⟨rfl,rfl⟩:=h4;obtain⟨f,f0,f1,f2⟩:=Ox _ _ _ M;obtain⟨fd,bp,bS,bt,eY,r0,r1,r2,r3',b0,b1,e,bb,q1,q2,q3,q4,q5,q6,q7,q8,q9⟩:=hi;have hR:w_ P sp.inv.bV.length (rows d).length (fun k=>np i.agg i.pw (aH sp.K ((rows d).getD k []))) sp.p0 sp.p1 assign body (fun k=>(aM sp.inv (f k)).den):=by
    refine⟨B.1,B.2,fun k _=>hfix (f k),fun k hk=>?_⟩;obtain⟨s1,s2,g1,g2,g3⟩:=aaF hm O hLa hLb hr (f2 k hk);rw[I,J]at g1;exact⟨s1.den,s2.den,g1,g2,g3⟩
   have U:=Oc (m:=m) (m':=sp.inv.bV.length) (P:=P) (aaE (rows:=rows d) q7 q8 q9 hk1) q1 q2 q3 q4 q5 q6 (nW hlen) (nW hk4) hR (g:=g) (s:=(pre d).den) (id:=sp.id) (wd:=wd) (hg d) (bg (hid d)) (by
    have V:=hin d;rw[hsd]at V;have h6:=(l6 (m:=m) sp.opens ⟨(pre d).fr,(pre d).H.set sp.id (.raw .dead)⟩).trans (ln V);rw[f0];have e:(⟨(pre d).fr,aj ((pre d).H.set sp.id (.raw .dead))⟩:St)=⟨(pre d).den.fr,(pre d).den.H.set sp.id .dead⟩:=by
     show (⟨(pre d).fr,aj ((pre d).H.set sp.id (.raw .dead))⟩:St)=⟨(pre d).fr,(aj (pre d).H).set sp.id .dead⟩
     rw[db];rfl
    rw[←e];exact h6)
   rw[f1]at U;have W:cI P m (.block b (.rangeFunc (.tmp g) #[sp.p0,sp.p1] assign body)) (pre d).den .normal (aM sp.inv N).den:=Er (x:=.normal) U;rw[←hinv]at W;exact tf (tf h3 W) hsat
def F6:Code→Code
 |.seq (.seq r _) _=>r
 |_=>.skip
def Bs:Code→Code
 |.seq (.seq _ (.block _ (.rangeFunc _ _ a _))) _=>a
 |_=>.skip
def Bt:Code→Code
 |.seq (.seq _ (.block _ (.rangeFunc _ _ _ b))) _=>b
 |_=>.skip
theorem aaH{r3 assign body rest:Code}{b:Nat}{o:Operand}{ps:Array Tmp} (h:ax P m L (.seq (.seq r3 (.block b (.rangeFunc o ps assign body))) rest)):ax P m L r3∧ax P m L rest:=by
 refine⟨h.sub (fun p d=>?_) (fun p d=>?_),h.sub (fun p d=>?_) (fun p d=>?_)⟩
 ·simp only [bJ, cQ]
  exact .inl (.inl d)
 ·simp only [bE, cQ]
  exact .inl (.inl d)
 ·simp only [bJ, cQ]
  exact .inr d
 ·simp only [bE, cQ]
  exact .inr (.inr d)
theorem ax.aaI(hm:P.follows .mixedOrders=true)(I:ak P τ){i:j7}(hi:qh P i){fn:Func}{sp:ug}{q qr:be}{b:Nat}{g:Tmp}{wd:Nat}{L0:LT}
  (hn:lp q.key (bE (aQ fn))=true) (hL:ax P m L (aQ fn)) (k:∀ m c,ax P m L0 c)
  (J:cutAt fn q.key=.seq (.seq (F6 (cutAt fn q.key)) (.block b (.rangeFunc (.tmp g) #[sp.p0,sp.p1] (Bs (cutAt fn q.key)) (Bt (cutAt fn q.key))))) (nl (cutAt fn q.key)))
  (hr:Br P τ L0 sp (Bs (cutAt fn q.key)) (Bt (cutAt fn q.key))) (U:(fy (Bs (cutAt fn q.key))&&fy (Bt (cutAt fn q.key)))=true) (hk:(Bq i sp.K&&(ab sp.pw i.pw&&(sp.agg==i.agg)&&eE m sp.inv.bV.length))=true)
  {rows:List G→List (List G)} {pre:List G→al} (hy:∀ d,(dN P τ L (F6 (cutAt fn q.key)) (aM q.inv d) .done).jF=some (.normal,pre d)) (hg:∀ d,(pre d).fr.getD g .undef=.clo i.f [.ptr sp.id 0 wd 0 0]) (hid:∀ d,(pre d).H[sp.id]? = some (.raw (.box [.listF sp.K (rows d)])))
  (V:∀ d,iq m sp.inv sp.ps (gy sp.opens ⟨(pre d).fr,(pre d).H.set sp.id (.raw .dead)⟩)=some (sp.side d,sp.init d)) (O:∀ d,nm sp.inv.bV.length (aM sp.inv d).fr=true)
  (hinv:qr.inv=sp.inv) (M:qr.outs=q.outs) (N:fm P τ L m (nl (cutAt fn q.key)) qr) (W:∀ d,q.st d=xh sp qr.st (rows d) d) :
  ax P m (L.eP m q) (aQ fn):=by
 refine ax.FQ hn hL fun B=>?_;rw[J]at B;obtain⟨hL3,hLr⟩:=aaH B;rw[J];exact aaG hm I hi (fun m=>k m _) (fun m=>k m _) hr hL3 U hk hy hg hid V O hinv M (N.sat hm I hLr) W
def preB(P:Program)(τ:ai)(L:LT)(c:Code)(s:al):al:=match (dN P τ L (F6 c) s .done).jF with
 |some (_,s1)=>s1
 |none=>s
end Go.AL
