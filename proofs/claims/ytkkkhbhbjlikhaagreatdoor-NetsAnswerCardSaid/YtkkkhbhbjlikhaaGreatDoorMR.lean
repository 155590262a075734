/-
 What is proved here: a range over slices.Backward of data,and what comes behind it,as a function on data: rounds from the last row to the first one. No program in sight; no condition.
-/
import Derived.Test.YtkkkhbhbjlikhaaGreatDoorMG
import Derived.Sort.LoopGhostIn
set_option linter.all false
open Array renaming getElem?_push->s_,getElem?_eq_some_iff->fS,ext'->jk
open Bool renaming and_eq_true->aR
open Go renaming Value->al,FuncId->bH,TypeId->aJ,Program->ak,Operand->cN,Oper->aN
open Go.Deferred renaming ofValue->AQ
open Go.World renaming putObj_heap_same->Eh,size_alloc->lR,alloc_heap_new->AX
open Int renaming le_refl->aag
open List renaming mem_append->cY,replicate->dz,range'->ka
open Nat renaming beq->aA,zero_le->lj,eq_of_beq_eq_true->cz,ble->bW,blt->fT,blt_eq->jS,le_of_ble_eq_true->lk
namespace Go.AL
open Go
variable [Dr]
variable {P:ak} {τ:ar} {L:LT} {m:Nat}
def Ga(i:mI)(K:List Kd):Bool:=aA K.length i.w&&(bif i.agg then bW i.pw K.length else fT 0 K.length)
variable {b wd b0 b1 r0 r1 r2 r3 r4 r5 r6:Nat} {i:mI} {assign body rest:Code} {g:Tmp} {q:bF} {fn:Func} {E:af} {H:List ay} {Q:Exit->Act->World->Prop} {a:Act} {ah bD bq br cg hZ iZ jv:Array aN} {f:bH} {o:aN} {pf:bH->Bool} {s:BY} {s':St} {v:AV}
theorem aei{e:Nat}{K:List Kd}{rZ:LL}(N:fj P i.T1=some (1,false))(B:cZ P i.T1=.slice e i.w b)(O:fj P i.T2=some (i.pw,i.agg))(q:Ga i K=true):
  Cf P i.T1 i.T2 (.listF K rZ) rZ.length (fun k=>qO i.agg i.pw (bh K (rZ.getD k []))):=by
 unfold Ga at q;simp only[aR]at q;obtain⟨A,d⟩:=q;have A:=cz A;refine⟨fun H=>?_,?_,fun k J M=>?_,by simp[AV.ca,AV.closed]⟩
 ·simp[iS,N,jo]
 ·rw[B]
  rfl
 ·refine⟨bh K (rZ.getD k.toNat []),?_,fun H=>?_⟩
  ·rw[B]
   simp only[nK];rw[iP ⟨A,J,M⟩]
  ·have g:∃v,jo i.agg i.pw (bh K (rZ.getD k.toNat []))=some v:=by
    have F:=vz K (rZ.getD k.toNat []);unfold jo;cases I:i.agg with
    |true=>
     rw[I]at d;have d:=lk d;exact⟨_,by rw[iP rfl,iP (by rw[F]; exact d)]⟩
    |false=>
     rw[I]at d;have d:0<K.length:=by simpa[jS]using d
     rw[iN ai,List.getElem?_eq_getElem (by rw[F]; exact d)];exact⟨_,rfl⟩
   obtain⟨v,g⟩:=g;simp only[iS,O,g];unfold qO;rw[g];rfl
structure yR where
 inv:nk
 ps:List eH
 opens:List (Nat × List Kd)
 K:List Kd
 agg:Bool
 pw:Nat
 id:Nat
 p0:Tmp
 p1:Tmp
 init:LG->LG
 side:LG->Bool
 st:Int->LG->LG->Option LG
def ux(st:Int->LG->LG->Option LG)(rZ:LL):Nat->LG->Option LG
 |0,d=>some d
 |n+1,d=>match st ((n:Nat):Int) (rZ.getD n []) d with
  |some g=>ux st rZ n g
  |none=>none
theorem SO{st:Int->LG->LG->Option LG}{rZ:LL}:∀(n:Nat) (d g:LG),ux st rZ n d=some g->∃ f:Nat->LG,f 0=d/\f n=g/\∀ k,k<n->st ((n:Int)-1-k) (rZ.getD (n-1-k) []) (f k)=some (f (k+1))
 |0,d,g,h=>by
  cases h;exact⟨fun _=>d,rfl,rfl,fun k q=>by omega⟩
 |n+1,d,g,h=>by
  simp only[ux]at h;split at h
  ·rename_i A B
   obtain⟨f,F,I,J⟩:=SO n A g h;refine⟨fun j=>match j with|0=>d|j+1=>f j,rfl,I,fun k q=>?_⟩;cases k with
   |zero=>
    show st _ _ d=some (f 0)
    rw[F,<-B];congr 1
    ·omega
   |succ k=>
    have:=J k ab;show st _ _ (f k)=some (f (k+1))
    rw[<-this];congr 1
    ·omega
    ·congr 1
     omega
  ·cases h
def Ck(sp:yR)(tl:LG->bk)(rZ:LL)(d:LG):bk:=
 bif (bW rZ.length 1048576&&sp.side d) then (ux sp.st rZ rZ.length (sp.init d)).bind tl else none
def Gb(n:Nat):List eH:=(List.range n).map .fix
def Gc(P:ak)(τ:ar)(L:LT)(sp:yR)(assign body:Code):Prop:=
 ∀(i:Int) (r d:LG),(db P τ L assign ⟨((aX sp.inv d).fr.set sp.p0 (.lit (.int .i64 i))).set sp.p1 (qO sp.agg sp.pw (bh sp.K r)),(aX sp.inv d).H⟩ fun x s1=>match x with
  |.normal=>db P τ L body s1 fun x s2=>match x with
   |.normal=>.done .normal ⟨(aX sp.inv d).fr,s2.H⟩
   |_=>.fail
  |_=>.fail).leaf (pI sp.inv.bj.length sp.inv (Gb sp.inv.bj.length))=sp.st i r d
variable {sp:yR}
theorem aej(hm:P.follows .mixedOrders=true)(B:aw P τ)(F:∀ m,aQ P m L assign)(I:∀ m,aQ P m L body)(hr:Gc P τ L sp assign body){i:Int}{r d q:LG}(h:sp.st i r d=some q):
  ∃s1 s2:aH,c_ P sp.inv.bj.length assign ⟨((aX sp.inv d).fr.set sp.p0 (.lit (.int .i64 i))).set sp.p1 (qO sp.agg sp.pw (bh sp.K r)),(aX sp.inv d).au.H⟩ .normal s1.au/\c_ P sp.inv.bj.length body s1.au .normal s2.au /\
   cV sp.inv.bj.length ⟨(aX sp.inv d).fr,s2.au.H⟩ (aX sp.inv q).au:=by
 rw[<-hr i r d]at h;have h:=kR h;obtain⟨x,s1,J,A⟩:=fo hm B (m:=sp.inv.bj.length) assign _ _ (F _) h;cases x with
 |exit _=>exact A.elim
 |ret=>exact A.elim
 |normal=>
  obtain⟨x,s2,M,g⟩:=fo hm B (m:=sp.inv.bj.length) body _ _ (I _) A;cases x with
  |exit _=>exact g.elim
  |ret=>exact g.elim
  |normal=>
   have g:pI sp.inv.bj.length sp.inv (Gb sp.inv.bj.length) .normal ⟨(aX sp.inv d).fr,s2.H⟩=some (true,q):=g;exact⟨s1,s2,J,M,kS (s:=⟨(aX sp.inv d).fr,s2.H⟩) g⟩
theorem aek(hm:P.follows .mixedOrders=true)(U:aw P τ)(hi:uv P i){r3:Code}{A:bF}{M:LT}
  (hLa:∀m,aQ P m M assign) (hLb:∀m,aQ P m M body) (hr:Gc P τ M sp assign body) (hL3:aQ P m L r3) (F:(fk assign&&fk body)=true) (B:(Ga i sp.K&&(aA sp.pw i.pw&&(sp.agg==i.agg)&&bW m sp.inv.bj.length))=true)
  {rZ:LG->LL} {pre:LG->aH} (hy:∀d,(db P τ L r3 (aX q.inv d) .done).gN=some (.normal,pre d)) (hg:∀d,(pre d).fr.getD g .undef=.clo i.f [.ptr sp.id 0 wd 0 0]) (hid:∀d,(pre d).H[sp.id]?=some (.raw (.box [.listF sp.K (rZ d)])))
  (hin:∀d,iI m sp.inv sp.ps (iu sp.opens ⟨(pre d).fr,(pre d).H.set sp.id (.raw .dead)⟩)=some (sp.side d,sp.init d)) (hfix:∀d,kY sp.inv.bj.length (aX sp.inv d).fr=true)
  (hinv:A.inv=sp.inv) (houts:A.outs=q.outs) (hrest:pJ P m rest A) (hst:∀d,q.st d=Ck sp A.st (rZ d) d) :
  pJ P m (.seq (.seq r3 (.block b (.rangeFunc (.tmp g) #[sp.p0,sp.p1] assign body))) rest) q:=by
 intro d x W h;rw[hst]at h;unfold Ck at h;cases aV:(bW (rZ d).length 1048576&&sp.side d)with
 |false=>rw[aV]at h; cases h
 |true=>
  rw[aV]at h;simp only[cT]at h;simp only[aR]at aV B F;obtain⟨hlen,hsd⟩:=aV;obtain⟨hk1,⟨I,J⟩,hk4⟩:=B;have I:=cz I;have J:sp.agg=i.agg:=by simpa using J
  cases N:ux sp.st (rZ d) (rZ d).length (sp.init d)with
  |none=>rw[N]at h; cases h
  |some O=>
   rw[N]at h;have h:A.st O=some (some x,W):=h;obtain⟨o,ho1,hsat⟩:=hrest O x W h;refine⟨o,by rw[<-houts]; exact ho1,?_⟩;obtain⟨x3,s3,h3,h4⟩:=fo hm U r3 (aX q.inv d) .done hL3 (sb (hy d));obtain⟨rfl,rfl⟩:=h4;obtain⟨f,f0,f1,f2⟩:=SO _ _ _ N;obtain⟨fd,bq,bD,br,cg,r0,r1,r2,r3',b0,b1,e,bb,q1,q2,q3,q4,q5,q6,q7,q8,q9⟩:=hi;have hR:Cg P sp.inv.bj.length (rZ d).length (fun k=>qO i.agg i.pw (bh sp.K ((rZ d).getD k []))) sp.p0 sp.p1 assign body (fun k=>(aX sp.inv (f k)).au):=by
    refine⟨F.1,F.2,fun k _=>hfix (f k),fun k B=>?_⟩;obtain⟨s1,s2,Y,g2,g3⟩:=aej hm U hLa hLb hr (f2 k B);rw[I,J]at Y;exact⟨s1.au,s2.au,Y,g2,g3⟩
   have hS:=Sy (m:=m) (m':=sp.inv.bj.length) (P:=P) (aei (rZ:=rZ d) q7 q8 q9 hk1) q1 q2 q3 q4 q5 q6 (lk hlen) (lk hk4) hR (g:=g) (s:=(pre d).au) (id:=sp.id) (wd:=wd) (hg d) (cn (hid d)) (by
    have h5:=hin d;rw[hsd]at h5;have h6:=(nl (m:=m) sp.opens ⟨(pre d).fr,(pre d).H.set sp.id (.raw .dead)⟩).trans (kS h5);rw[f0];have e:(⟨(pre d).fr,aF ((pre d).H.set sp.id (.raw .dead))⟩:St)=⟨(pre d).au.fr,(pre d).au.H.set sp.id .dead⟩:=by
     show (⟨(pre d).fr,aF ((pre d).H.set sp.id (.raw .dead))⟩:St)=⟨(pre d).fr,(aF (pre d).H).set sp.id .dead⟩
     rw[gn];rfl
    rw[<-e];exact h6)
   rw[f1]at hS;have hB:c_ P m (.block b (.rangeFunc (.tmp g) #[sp.p0,sp.p1] assign body)) (pre d).au .normal (aX sp.inv O).au:=EZ (x:=.normal) hS;rw[<-hinv]at hB;exact tO (tO h3 hB) hsat
def Cl:Code->Code
 |.seq (.seq r _) _=>r
 |_=>.skip
def su:Code->Code
 |.seq (.seq _ (.block _ (.rangeFunc _ _ a _))) _=>a
 |_=>.skip
def pM:Code->Code
 |.seq (.seq _ (.block _ (.rangeFunc _ _ _ b))) _=>b
 |_=>.skip
theorem SP{r3:Code}{o:cN}{ps:Array Tmp} (h:aQ P m L (.seq (.seq r3 (.block b (.rangeFunc o ps assign body))) rest)):aQ P m L r3/\aQ P m L rest:=by
 refine⟨h.sub (fun p d=>?_) (fun p d=>?_),h.sub (fun p d=>?_) (fun p d=>?_)⟩
 ·simp only[cI,cY]
  exact .inl (.inl d)
 ·simp only[cB,cY]
  exact .inl (.inl d)
 ·simp only[cI,cY]
  exact .inr d
 ·simp only[cB,cY]
  exact .inr (.inr d)
theorem aQ.ael(hm:P.follows .mixedOrders=true)(F:aw P τ)(hi:uv P i){qr:bF}{L0:LT}
  (hn:mF q.key (cB (bf fn))=true) (hL:aQ P m L (bf fn)) (A:∀m c,aQ P m L0 c)
  (hc:bS fn q.key=.seq (.seq (Cl (bS fn q.key)) (.block b (.rangeFunc (.tmp g) #[sp.p0,sp.p1] (su (bS fn q.key)) (pM (bS fn q.key))))) (sf (bS fn q.key)))
  (hr:Gc P τ L0 sp (su (bS fn q.key)) (pM (bS fn q.key))) (O:(fk (su (bS fn q.key))&&fk (pM (bS fn q.key)))=true) (hk:(Ga i sp.K&&(aA sp.pw i.pw&&(sp.agg==i.agg)&&bW m sp.inv.bj.length))=true)
  {rZ:LG->LL} {pre:LG->aH} (hy:∀d,(db P τ L (Cl (bS fn q.key)) (aX q.inv d) .done).gN=some (.normal,pre d)) (hg:∀d,(pre d).fr.getD g .undef=.clo i.f [.ptr sp.id 0 wd 0 0]) (U:∀d,(pre d).H[sp.id]?=some (.raw (.box [.listF sp.K (rZ d)])))
  (W:∀d,iI m sp.inv sp.ps (iu sp.opens ⟨(pre d).fr,(pre d).H.set sp.id (.raw .dead)⟩)=some (sp.side d,sp.init d)) (M:∀d,kY sp.inv.bj.length (aX sp.inv d).fr=true)
  (N:qr.inv=sp.inv) (I:qr.outs=q.outs) (J:qI P τ L m (sf (bS fn q.key)) qr) (Y:∀d,q.st d=Ck sp qr.st (rZ d) d) :
  aQ P m (L.gF m q) (bf fn):=by
 refine aQ.F0 hn hL fun B=>?_;rw[hc]at B;obtain⟨hL3,hLr⟩:=SP B;rw[hc];exact aek hm F hi (fun m=>A m _) (fun m=>A m _) hr hL3 O hk hy hg U W M N I (J.sat hm F hLr) Y
def preB(P:ak)(τ:ar)(L:LT)(c:Code)(s:aH):aH:=match (db P τ L (Cl c) s .done).gN with
 |some (_,s1)=>s1
 |none=>s
def kD(ix:BY->Int)(s:BY):BY:=if 0<=ix s then s.extract 0 (ix s+1).toNat else s
def kZ(ix:BY->Int)(s:BY):BY:=if 0<=ix s then s.extract (ix s+1).toNat s.size else ⟨#[]⟩
structure wG (P:ak) (fi:bH) (ix:BY->Int):Prop where
 body:eC P fi=true
 call:∀s:BY,eA P fi [.lit (.string s),.lit (.int .u8 10)] (.lit (.int .i64 (ix s)))
 lt:∀s:BY,ix s<s.size
abbrev Cm(T:aJ)(d:Tmp)(o:aN):Prop:=o.guard=none/\o.op=.load T (.tmp 1)/\o.dst=some d
abbrev Cn(x d:Tmp)(o:aN):Prop:=o.guard=none/\o.op=.move (.tmp x)/\o.dst=some d
abbrev Gd(x:cN)(d:Tmp)(o:aN):Prop:=o.guard=none/\o.op=.assign x/\o.dst=some d
abbrev Ge(b:BinOp)(x:Tmp)(n:Int)(d:Tmp)(o:aN):Prop:=o.guard=none/\(∃t t',o.op=.binOp b t (.tmp x) (.const (.int .i64 n)) t')/\o.dst=some d
abbrev L6(T:aJ)(x:cN)(o:aN):Prop:=o.guard=none/\o.op=.store T (.tmp 1) x/\o.dst=none
structure yS (T:aJ) (fi:bH) (bq bD br cg iZ jv hZ:Array aN):Prop where
 r0:∃o1 o2 o3,bq.toList=[o1,o2,o3]/\Cm T 5 o1/\(o2.guard=none/\o2.op=.call { callee:=.builtin .len,args:=#[.tmp 5],argTypes:=#[T] }/\o2.dst=some 6)/\Ge .gtr 6 0 7 o3
 r1:∃o1,bD.toList=[o1]/\Gd (.const (.string ⟨#[]⟩)) 3 o1
 r2:∃o1 o2 o3 fV,br.toList=[o1,o2,o3]/\Cm T 8 o1/\(o2.guard=none/\o2.op=.call { callee:=.value (.func fi),args:=#[.tmp 8,.const (.int .u8 10)],argTypes:=fV }/\o2.dst=some 9)/\Gd (.tmp 9) 4 o3
 r3:∃o1 o2,cg.toList=[o1,o2]/\Cn 4 10 o1/\Ge .geq 10 0 11 o2
 r4:∃o1 o2 o3 o4 o5 o6 o7 o8 o9 L7,iZ.toList=[o1,o2,o3,o4,o5,o6,o7,o8,o9,L7]/\Cm T 12 o1/\Cn 4 13 o2/\Ge .add 13 1 14 o3/\(o4.guard=none/\o4.op=.slice T (.tmp 12) none (some (.tmp 14)) none/\o4.dst=some 15) /\
  Cm T 16 o5/\Cn 4 17 o6/\Ge .add 17 1 18 o7/\(o8.guard=none/\o8.op=.slice T (.tmp 16) (some (.tmp 18)) none none/\o8.dst=some 19)/\Gd (.tmp 15) 3 o9/\L6 T (.tmp 19) L7
 r5:∃o1 o2 o3,jv.toList=[o1,o2,o3]/\Cm T 20 o1/\Gd (.tmp 20) 3 o2/\L6 T (.const (.string ⟨#[]⟩)) o3
 r6:∃o1 o2 o3 o4 t fV,hZ.toList=[o1,o2,o3,o4]/\Cn 0 21 o1/\Cn 3 22 o2/\(o3.guard=none/\o3.op=.call { callee:=.value (.tmp 21),args:=#[.tmp 22],argTypes:=fV }/\o3.dst=some 23)/\(o4.guard=none/\o4.op=.unOp .not t (.tmp 23)/\o4.dst=some 24)
 any:tN (fun g=>aA g fi) iZ=true
def Co(bq bD br cg iZ jv hZ:Array aN)(r0 r1 r2 r3 r4 r5 r6 d g:Nat):Code:=
 .block d (.loop (.seq (.seq (.region r0 bq false) (.cond (.tmp 7) .skip (.exit d))) (.block g (.seq (.region r1 bD false) (.seq (.seq (.region r2 br false) (.seq (.region r3 cg false) (.cond (.tmp 11) (.region r4 iZ true) (.region r5 jv false)))) (.seq (.region r6 hZ false) (.cond (.tmp 24) .ret .skip)))))))
def jI(y cp v i:AV):List AV:=[y,cp,.undef,v,i,.undef,.undef,.undef,.undef,.undef,.undef,.undef,.undef,.undef,.undef,.undef,.undef,.undef,.undef,.undef,.undef,.undef,.undef,.undef,.undef]
section ln
variable {P:ak} {fi:bH} {ix:BY->Int} {T:aJ} {bq bD br cg iZ jv hZ:Array aN} {id wd:Nat}
theorem Cp(d:fj P T=some (1,false)) (hH:H[id]?=some (.box [.lit (.string s)])):iS P T (.ptr id 0 wd 0 0) H=some (.lit (.string s)):=by
 simp[iS,d,hH,jo]
theorem SQ{s':BY}(d:fj P T=some (1,false)) (hH:H[id]?=some (.box [.lit (.string s)])):rT P T (.ptr id 0 wd 0 0) (.lit (.string s')) H=some (H.set id (.box [.lit (.string s')])):=by
 simp[rT,d,hH,tD,fm,putCells]
theorem aem{t:aJ}{k:Bool}{a b:Int}:iT P .gtr t k (.lit (.int .i64 a)) (.lit (.int .i64 b))=some (.lit (.bool (decide (a>b)))):=by
 simp only[iT,km,if_true,nM]
theorem SR{t:aJ}{k:Bool}{a b:Int}(h:aM (a+b)=true):iT P .add t k (.lit (.int .i64 a)) (.lit (.int .i64 b))=some (.lit (.int .i64 (a+b))):=by
 simp only[iT,km,if_true,nM];rw[tX h]
theorem aen{i:Int}(d:cZ P T=.str)(g:0<=i)(q:i<s.size):lW P T (.lit (.string s)) none (some (.lit (.int .i64 (i+1)))) none=some (.lit (.string (s.extract 0 (i+1).toNat))):=by
 simp only[lW,d,jq,mu];rw[iP ⟨aag _,ab,ab⟩];rfl
theorem aeo{i:Int}(d:cZ P T=.str)(g:0<=i)(q:i<s.size):lW P T (.lit (.string s)) (some (.lit (.int .i64 (i+1)))) none none=some (.lit (.string (s.extract (i+1).toNat s.size))):=by
 simp only[lW,d,jq,mu];rw[iP ⟨ab,ab,aag _⟩];simp
theorem SS{l:List aN}{fr:List AV}{H':List ay}(h:Yields P pf ah o ⟨fr,H⟩ v H')(d:o.dst=none)(h':fW P pf ah l ⟨fr,H'⟩ s'):fW P pf ah (o::l) ⟨fr,H⟩ s':=
 ⟨v,H',h,by
  simp only[St.put,lX,d];exact h'⟩
theorem SU{s:St}{x:cN}{H':List ay}(d:L6 T x o) (h:rT P T (s.eval (.tmp 1)) (s.eval x) s.H=some H'):Yields P pf ah o s .undef H':=by
 unfold Yields;rw[show dq ah s.fr o=some true from by unfold dq; rw[d.1]];simp only[d.2.1,ef];exact .inl (.inl (by simp only[gB,h]))
theorem aep{s:St}{args:List AV}(d:o.guard=none)(hc:ef pf o.op=.pure)(he:g_ s.eval o.op=some (f,args))(g:eC P f=true)(h:eA P f args v):Yields P pf ah o s v s.H:=by
 unfold Yields;rw[show dq ah s.fr o=some true from by unfold dq; rw[d]];simp only[hc];exact⟨trivial,.inr ⟨f,args,he,g,h⟩⟩
theorem yT(hm:P.follows .mixedOrders=true){I:Nat}{q:Bool}(M:q=true->tN pf ah=true)(m:Nat){s:St}(hs:bM s E.fb a)(h:fW P pf ah ah.toList s s')
  (N:∀d E',E.dO m E'->aO E'->bM s' E'.fb d->Q .normal d E'.w):(Code.region I ah q).wpIn (fz none) 0 P Q a E.w:=by
 have key:∀d w',hG E.fb s' d w'->Q .normal d w':=fun d w' hc=>by
  obtain⟨A,B,F,g⟩:=hc;have J:E.le { w:=w',H:=s'.H,ad:=A,X:=E.X.re B }:=⟨g.cf,g.size,g.same,g.bC,g.live,⟨rfl,rfl⟩,g.rl,g.env⟩
  exact N d { w:=w',H:=s'.H,ad:=A,X:=E.X.re B } J.toM (F.heap.cG (wC (E:={ w:=w',H:=s'.H,ad:=A,X:=E.X.re B }) F.heap)) F
 cases q with
 |false=>exact Kt (E:=E.fb) hs h key none
 |true=>exact QI (E:=E.fb) hm (M rfl) hs h key none
theorem SV{l:List aN}{k:Nat}{rest:List Nat}(m:Nat){s:St}(I:∀(j:Nat) (o:aN),l[j]? = some o->ah[k+j]? = some o)(hs:bM s E.fb a)(h:fW P pf ah l s s')
  (J:∀g E',E.dO m E'->aO E'->bM s' E'.fb g->wpOpsIn (fz none) 0 P ah Q rest g E'.w):wpOpsIn (fz none) 0 P ah Q (ka k l.length++rest) a E.w:=
 qL none l k _ _ E.fb a rest I h hs (fun g w' hc=>by
  obtain⟨q,A,B,d⟩:=hc;have F:E.le { w:=w',H:=s'.H,ad:=q,X:=E.X.re A }:=⟨d.cf,d.size,d.same,d.bC,d.live,⟨rfl,rfl⟩,d.rl,d.env⟩
  exact J g { w:=w',H:=s'.H,ad:=q,X:=E.X.re A } F.toM (B.heap.cG (wC (E:={ w:=w',H:=s'.H,ad:=q,X:=E.X.re A }) B.heap)) B)
theorem uy{y cp i:AV}{fr:List AV}(h:bM ⟨fr,H⟩ E a)(g:fr.length=25)(q:fr[0]?=some y)(A:fr[1]?=some cp)(B:v=.undef\/fr[3]?=some v)(F:i=.undef\/fr[4]?=some i):bM ⟨jI y cp v i,H⟩ E a:=by
 refine⟨h.H,F1 h.fr (by rw[g]; rfl) fun j b d=>?_,h.defers,h.heap⟩
 match j,d with
 |0,d=>exact .inr (by rw[q]; exact d)
 |1,d=>exact .inr (by rw[A]; exact d)
 |2,d=>exact .inl (by cases d; rfl)
 |3,d=>
  have d:some v=some b:=d;cases d;exact B.imp id fun h=>h
 |4,d=>
  have d:some i=some b:=d;cases d;exact F.imp id fun h=>h
 |j+5,d=>
  left;have I:jI y cp v i=[y,cp,.undef,v,i]++dz 20 .undef:=rfl;rw[I,List.getElem?_append_right ai]at d;exact(List.mem_replicate.1 (List.mem_of_getElem? d)).2
theorem aeq(hm:P.follows .mixedOrders=true)(I:fj P T=some (1,false))(hK:cZ P T=.str)(hI:wG P fi ix)(J:yS T fi bq bD br cg iZ jv hZ)(m:Nat){y:AV}
  (hsz:s.size<=1048576) (hH:H[id]?=some (.box [.lit (.string s)])) (hs:bM ⟨jI y (.ptr id 0 wd 0 0) .undef .undef,H⟩ E.fb a)
  (N:∀a' E',E.dO m E'->aO E'->bM ⟨jI y (.ptr id 0 wd 0 0) (.lit (.string (kD ix s))) .undef,H.set id (.box [.lit (.string (kZ ix s))])⟩ E'.fb a'->Q .normal a' E'.w) :
  (Code.seq (.region r2 br false) (.seq (.region r3 cg false) (.cond (.tmp 11) (.region r4 iZ true) (.region r5 jv false)))).wpIn (fz none) 0 P Q a E.w:=by
 obtain⟨o1,o2,o3,fV,q,d,⟨g2,M,d2⟩,O⟩:=J.r2;obtain⟨i,hi⟩:∃i,ix s=i:=⟨_,rfl⟩
 have hlt:i<s.size:=hi▸hI.lt s;have hcall:=hI.call s;rw[hi]at hcall;refine wpIn_seq (yT (pf:=fun g=>aA g fi) hm ai m hs (s':=⟨(((jI y (.ptr id 0 wd 0 0) .undef .undef).set 8 (.lit (.string s))).set 9 (.lit (.int .i64 i))).set 4 (.lit (.int .i64 i)),H⟩) ?_ fun a1 E1 hle1 hR1 hs1=>?_)
 ·rw[q]
  refine eO (v:=.lit (.string s)) (sg d.1 (by rw[d.2.1]; rfl) (by rw[d.2.1]; exact Cp I hH)) d.2.2 (eO (v:=.lit (.int .i64 i)) (aep (f:=fi) (args:=[.lit (.string s),.lit (.int .u8 10)]) g2 ?_ ?_ hI.body hcall) d2 (eO (v:=.lit (.int .i64 i)) (f_ O.1 (by rw[O.2.1]; rfl) (by rw[O.2.1]; rfl)) O.2.2 l4))
  ·rw[M]
   simp[ef]
  ·rw[M]
   rfl
 have hs1':=uy (v:=.undef) (i:=.lit (.int .i64 i)) hs1 rfl rfl rfl (.inl rfl) (.inr rfl);obtain⟨o1,o2,q,d,⟨g2,⟨t,t',M⟩,d2⟩⟩:=J.r3;refine wpIn_seq (yT (pf:=fun g=>aA g fi) hm ai m hs1' (s':=⟨((jI y (.ptr id 0 wd 0 0) .undef (.lit (.int .i64 i))).set 10 (.lit (.int .i64 i))).set 11 (.lit (.bool (decide (i≥0)))),H⟩) ?_ fun a2 E2 hle2 hR2 hs2=>?_)
 ·rw[q]
  refine eO (v:=.lit (.int .i64 i)) (f_ d.1 (by rw[d.2.1]; rfl) (by rw[d.2.1]; rfl)) d.2.2 (eO (v:=.lit (.bool (decide (i≥0)))) (f_ g2 (by rw[M]; rfl) ?_) d2 l4);rw[M];exact Sw (P:=P) (t:=t) (k:=kr (Operand.tmp 10)||kr (Operand.const (.int .i64 0)))
 have h11:a2.eval (.tmp 11)=.bool (decide (i≥0)):=by
  have:=hs2.eval (.tmp 11);simpa[St.eval,jI,ae]using this
 have hs2':=uy (v:=.undef) (i:=.lit (.int .i64 i)) hs2 rfl rfl rfl (.inl rfl) (.inr rfl);have hle12:=hle1.trans hle2;by_cases F:i≥0
 ·have e1:kD ix s=s.extract 0 (i+1).toNat:=by simp only[kD,hi]; rw[iP F]
  have e2:kZ ix s=s.extract (i+1).toNat s.size:=by simp only[kZ,hi]; rw[iP F]
  rw[e1,e2]at N;obtain⟨o1,o2,o3,o4,o5,o6,o7,o8,o9,L7,q,A,B,⟨g3,⟨t3,t3',p3⟩,d3⟩,⟨g4,p4,d4⟩,U,W,⟨g7,⟨t7,t7',p7⟩,d7⟩,⟨g8,p8,d8⟩,Y,k10⟩:=J.r4;have hin:aM (i+1)=true:=vS.2 ⟨ab,ab⟩;refine wpIn_cond_true (by rw[h11]; simp[F]) (yT (pf:=fun g=>aA g fi) hm (fun _=>J.any) m hs2' ?_ fun a3 E3 hle3 hR3 hs3=>N a3 E3 (hle12.trans hle3) hR3 (uy (fr:=(((((((((jI y (.ptr id 0 wd 0 0) .undef (.lit (.int .i64 i))).set 12 (.lit (.string s))).set 13 (.lit (.int .i64 i))).set 14 (.lit (.int .i64 (i+1)))).set 15 (.lit (.string (s.extract 0 (i+1).toNat)))).set 16 (.lit (.string s))).set 17 (.lit (.int .i64 i))).set 18 (.lit (.int .i64 (i+1)))).set 19 (.lit (.string (s.extract (i+1).toNat s.size)))).set 3 (.lit (.string (s.extract 0 (i+1).toNat)))) hs3 rfl rfl rfl (.inr rfl) (.inl rfl)));rw[q];refine eO (v:=.lit (.string s)) (sg A.1 (by rw[A.2.1]; rfl) (by rw[A.2.1]; exact Cp I hH)) A.2.2 ?_;refine eO (v:=.lit (.int .i64 i)) (f_ B.1 (by rw[B.2.1]; rfl) (by rw[B.2.1]; rfl)) B.2.2 ?_;refine eO (v:=.lit (.int .i64 (i+1))) (f_ g3 (by rw[p3]; rfl) (by rw[p3]; exact SR (P:=P) (t:=t3) (k:=kr (Operand.tmp 13)||kr (Operand.const (.int .i64 1))) hin)) d3 ?_;refine eO (v:=.lit (.string (s.extract 0 (i+1).toNat))) (f_ g4 (by rw[p4]; rfl) (by rw[p4]; exact aen hK F hlt)) d4 ?_;refine eO (v:=.lit (.string s)) (sg U.1 (by rw[U.2.1]; rfl) (by rw[U.2.1]; exact Cp I hH)) U.2.2 ?_;refine eO (v:=.lit (.int .i64 i)) (f_ W.1 (by rw[W.2.1]; rfl) (by rw[W.2.1]; rfl)) W.2.2 ?_;refine eO (v:=.lit (.int .i64 (i+1))) (f_ g7 (by rw[p7]; rfl) (by rw[p7]; exact SR (P:=P) (t:=t7) (k:=kr (Operand.tmp 17)||kr (Operand.const (.int .i64 1))) hin)) d7 ?_;refine eO (v:=.lit (.string (s.extract (i+1).toNat s.size))) (f_ g8 (by rw[p8]; rfl) (by rw[p8]; exact aeo hK F hlt)) d8 ?_;refine eO (v:=.lit (.string (s.extract 0 (i+1).toNat))) (f_ Y.1 (by rw[Y.2.1]; rfl) (by rw[Y.2.1]; rfl)) Y.2.2 ?_;exact SS (SU k10 (SQ I hH)) k10.2.2 l4
 ·have e1:kD ix s=s:=by simp only[kD,hi]; rw[iN F]
  have e2:kZ ix s=⟨#[]⟩:=by simp only[kZ,hi]; rw[iN F]
  rw[e1,e2]at N;obtain⟨o1,o2,o3,q,A,B,k3⟩:=J.r5;refine wpIn_cond_false (by rw[h11]; simp[F]) (yT (pf:=fun g=>aA g fi) hm ai m hs2' ?_ fun a3 E3 hle3 hR3 hs3=>N a3 E3 (hle12.trans hle3) hR3 (uy (fr:=((jI y (.ptr id 0 wd 0 0) .undef (.lit (.int .i64 i))).set 20 (.lit (.string s))).set 3 (.lit (.string s))) hs3 rfl rfl rfl (.inr rfl) (.inl rfl)));rw[q];refine eO (v:=.lit (.string s)) (sg A.1 (by rw[A.2.1]; rfl) (by rw[A.2.1]; exact Cp I hH)) A.2.2 ?_;refine eO (v:=.lit (.string s)) (f_ B.1 (by rw[B.2.1]; rfl) (by rw[B.2.1]; rfl)) B.2.2 ?_;exact SS (SU k3 (SQ I hH)) k3.2.2 l4
theorem aer(hm:P.follows .mixedOrders=true)(hT:fj P T=some (1,false))(hK:cZ P T=.str)(hI:wG P fi ix)(O:yS T fi bq bD br cg iZ jv hZ)(hf:P.funcs[f]? = some fn)
  (hb:fn.body=some (Co bq bD br cg iZ jv hZ r0 r1 r2 r3 r4 r5 r6 b0 b1)) (hn:fn.ntmps=25) (hr:fn.results=#[]) {l n m:Nat} {R:Nat->BY} (hsz:∀k,k<=n->(R k).size<=1048576) (hn1:∀k,k<n->0<(R k).size) (hn0:(R n).size=0)
  (J:Nat->List ay->af->Prop) (d:Nat->List ay) (hJ:∀k H E,J k H E->aO E/\E.H=H) (M:∀k H E E',J k H E->E.dO m E'->aO E'->J k E'.H E') (hid:id<m)
  (hbox:∀k,k<=n->(d k)[id]?=some (.box [.lit (.string (R k))]))
  (hround:∀k E (cs:Array al),k<n->J k ((d k).set id (.box [.lit (.string (kZ ix (R k)))])) E->aq E [.lit (.string (kD ix (R k)))] cs.toList->YieldAt (fz none) 0 P l cs E.w fun e W'=>e=.returned (.bool true)/\∃E',E'.w=W'/\J (k+1) (d (k+1)) E'/\E.dO m E')
  {E0:af} (h0:J 0 (d 0) E0) {c:al} (hcp:ae E0 (.ptr id 0 wd 0 0) c):CallsIn (fz none) 0 P f #[.func (.yield l) #[] #[],c] E0.w fun e W'=>(∃v,e=.returned v)/\∃E',E'.w=W'/\J n (d n) E':=by
 refine callsIn_of_wp_marks hf hb trivial ?_;obtain⟨y,hy⟩:∃y:AV,y=.lit (.func (.yield l) #[] #[]):=⟨_,rfl⟩
 obtain⟨hR0,hH0⟩:=hJ _ _ _ h0;have hs0:bM ⟨jI y (.ptr id 0 wd 0 0) .undef .undef,d 0⟩ E0.fb { tmps:=#[.func (.yield l) #[] #[],c]++Array.replicate (fn.ntmps-2) undef,defers:=[] }:=by
  refine⟨hH0,?_,mr _ _,hR0.cG (mw hR0)⟩;rw[hn];simp only[Array.toList_append,Array.toList_replicate];show aq E0.fb ([y,.ptr id 0 wd 0 0]++dz 23 .undef) ([.func (.yield l) #[] #[],c]++dz 23 undef)
  refine mv (by simp only[aq]; exact⟨by rw[hy]; simp[ae],rY (mw hR0) _ hcp,trivial⟩) ?_;exact tQ (dz 23 undef)
 refine wpIn_block (wpIn_loop_ghost (fun j a w=>∃k E,j=n-k/\E.w=w/\k<=n/\J k (d k) E/\bM ⟨jI y (.ptr id 0 wd 0 0) .undef .undef,d k⟩ E.fb a) n ⟨0,E0,rfl,rfl,lj _,h0,hs0⟩ ?_);rintro _ a _ ⟨k,E,rfl,rfl,hkl,hj,hs⟩;obtain⟨s,B⟩:∃s,R k=s:=⟨_,rfl⟩
 have hH:(d k)[id]?=some (.box [.lit (.string s)]):=by rw[<-B]; exact hbox k hkl
 have hss:s.size<=1048576:=by rw[<-B]; exact hsz k hkl
 obtain⟨o1,o2,o3,q,g,⟨g2,p2,d2⟩,⟨g3,⟨t3,t3',p3⟩,d3⟩⟩:=O.r0;refine wpIn_seq (wpIn_seq (yT (pf:=fun _=>false) hm ai m hs (s':=⟨(((jI y (.ptr id 0 wd 0 0) .undef .undef).set 5 (.lit (.string s))).set 6 (.lit (.int .i64 (s.size:Nat)))).set 7 (.lit (.bool (decide ((s.size:Int)>0)))),d k⟩) ?_ fun U E2 hle2 hR2 N=>?_))
 ·rw[q]
  refine eO (v:=.lit (.string s)) (sg g.1 (by rw[g.2.1]; rfl) (by rw[g.2.1]; exact Cp hT hH)) g.2.2 (eO (v:=.lit (.int .i64 (s.size:Nat))) (f_ g2 (by rw[p2]; rfl) ?_) d2 (eO (v:=.lit (.bool (decide ((s.size:Int)>0)))) (f_ g3 (by rw[p3]; rfl) ?_) d3 l4))
  ·rw[p2]
   show Bh (cZ P T) (.lit (.string s))=_
   rw[hK];rfl
  ·rw[p3]
   exact aem (P:=P) (t:=t3) (k:=kr (Operand.tmp 6)||kr (Operand.const (.int .i64 0)))
 have hj2:=M _ _ _ _ hj hle2 hR2;have e2:E2.H=d k:=N.H;rw[e2]at hj2;have h7:U.eval (.tmp 7)=.bool (decide ((s.size:Int)>0)):=by
  have:=N.eval (.tmp 7);simpa[St.eval,jI,ae]using this
 have hs2':=uy (v:=.undef) (i:=.undef) N rfl rfl rfl (.inl rfl) (.inl rfl);by_cases hk:k<n
 ·have hpos:0<s.size:=by rw[<- B]; exact hn1 k hk
  refine wpIn_cond_true (by rw[h7]; simp[hpos]) (wpIn_skip ?_);show (Code.block _ _).wpIn (fz none) 0 P _ _ _
  obtain⟨o1,q,g⟩:=O.r1;refine wpIn_block (wpIn_seq (yT (pf:=fun _=>false) hm ai m hs2' (s':=⟨(jI y (.ptr id 0 wd 0 0) .undef .undef).set 3 (.lit (.string ⟨#[]⟩)),d k⟩) ?_ fun a3 E3 hle3 hR3 hs3=>?_))
  ·rw[q]
   exact eO (v:=.lit (.string ⟨#[]⟩)) (f_ g.1 (by rw[g.2.1]; rfl) (by rw[g.2.1]; rfl)) g.2.2 l4
  have hs3':=uy (v:=.undef) (i:=.undef) hs3 rfl rfl rfl (.inl rfl) (.inl rfl);have hj3:=M _ _ _ _ hj2 hle3 hR3;show (Code.seq _ _).wpIn (fz none) 0 P _ _ _
  refine wpIn_seq (aeq hm hT hK hI O m hss hH hs3' fun a4 E4 hle4 hR4 hs4=>?_);have hj4:=M _ _ _ _ hj3 hle4 hR4;have e4:E4.H=(d k).set id (.box [.lit (.string (kZ ix (R k)))]):=by
   rw[B];exact hs4.H
  rw[e4]at hj4;show (Code.seq _ _).wpIn (fz none) 0 P _ _ _
  obtain⟨u1,u2,u3,u4,t7,fV,W,Y,c2,⟨gc3,pc3,dc3⟩,⟨gc4,pc4,dc4⟩⟩:=O.r6;refine wpIn_seq (wpIn_region ?_);have hsz6:hZ.size=4:=by
   have:hZ.toList.length=4:=by rw[W]; rfl
   simpa using this
  rw[hsz6];show wpOpsIn (fz none) 0 P hZ _ (ka 0 2++[2,3]) a4 E4.w
  refine SV (pf:=fun _=>false) (l:=[u1,u2]) (k:=0) m ?_ hs4 (s':=⟨((jI y (.ptr id 0 wd 0 0) (.lit (.string (kD ix s))) .undef).set 21 y).set 22 (.lit (.string (kD ix s))),(d k).set id (.box [.lit (.string (kZ ix s))])⟩) ?_ fun a5 I hle5 hR5 F=>?_
  ·intro j o A
   rw[kC W,Nat.zero_add]
   match j,A with
   |0,A=>exact A
   |1,A=>exact A
  ·exact eO (v:=y) (f_ Y.1 (by rw[Y.2.1]; rfl) (by rw[Y.2.1]; rfl)) Y.2.2 (eO (v:=.lit (.string (kD ix s))) (f_ c2.1 (by rw[c2.2.1]; rfl) (by rw[c2.2.1]; rfl)) c2.2.2 l4)
  have hj5:=M _ _ _ _ hj4 hle5 hR5;have e5:I.H=(d k).set id (.box [.lit (.string (kZ ix (R k)))]):=by
   rw[B];exact F.H
  rw[e5]at hj5;have h21:a5.eval (.tmp 21)=.func (.yield l) #[] #[]:=by
   have:=F.eval (.tmp 21);rw[show St.eval _ (.tmp 21)=y from rfl,hy]at this;simpa only[ae]using this
  have hrel:aq I [.lit (.string (kD ix (R k)))] (#[a5.eval (.tmp 22)]:Array al).toList:=by
   rw[B];simp only[aq];exact⟨rY (wC F.heap) _ (F.eval (.tmp 22)),trivial⟩
  obtain⟨fn',tmps',asg,bod,hy1,hRd⟩:=hround k I _ hk hj5 hrel;rw[wpOpsIn_cons];unfold wpOpIn;have h6:hZ[2]?=some u3:=by rw[kC W]; rfl
  simp only[h6];rw[iP (by simp[Region.wanted,gc3])];refine⟨fun _ _=>trivial,?_⟩;rw[Oper.semAt_eq _ _ _ (fun c e=>by rw[pc3]at e; cases e)];have hrun:(execOp a5.eval u3).run P I.w=.ok (.round l fn' tmps' asg bod) I.w:=by
   obtain⟨dst,op,type,pos,after,guard⟩:=u3;simp only[]at pc3;subst pc3;simp[execOp,resolve,h21,AQ,invoke,hy1]
  rw[hrun,Oper.uponIn_round];refine⟨fun h=>(by cases h),hRd.mono ?_⟩;rintro e _ ⟨rfl,E',rfl,hj',hleR⟩;show wpOpsIn (fz none) 0 P hZ _ (ka 3 1++[]) _ E'.w
  rw[dc3];obtain⟨hR',hH'⟩:=hJ _ _ _ hj';have hd5:a5.defers=[]:=uu F.defers fun _ h=>h;have hp:=(uy (v:=.undef) (i:=.undef) F rfl rfl rfl (.inl rfl) (.inl rfl)).kU 23 (v:=.lit (.bool true)) (u:=.bool true) (by simp[ae]);have hs6:bM ⟨(jI y (.ptr id 0 wd 0 0) .undef .undef).set 23 (.lit (.bool true)),d (k+1)⟩ E'.fb (a5.put (some 23) (.bool true)):=by
   refine⟨hH',?_,by rw[put_defers,hd5]; exact mr _ _,hR'.cG (mw hR')⟩;have hx:aq I ((jI y (.ptr id 0 wd 0 0) .undef .undef).set 23 (.lit (.bool true))) (a5.put (some 23) (.bool true)).tmps.toList:=nf (wC F.heap) _ hp.fr;refine nf (mw hR') _ (sk hleR _ ?_ hx);rw[hy];simp[kY,qN,jI,hid]
  refine SV (pf:=fun _=>false) (l:=[u4]) (k:=3) m ?_ hs6 (s':=⟨((jI y (.ptr id 0 wd 0 0) .undef .undef).set 23 (.lit (.bool true))).set 24 (.lit (.bool false)),d (k+1)⟩) ?_ fun a7 E7 hle7 hR7 hs7=>?_
  ·intro j o A
   have hlt:j<1:=by simpa using bA A
   have:j=0:=ab;subst this;rw[kC W];exact A
  ·exact eO (v:=.lit (.bool false)) (f_ gc4 (by rw[pc4]; rfl) (by rw[pc4]; rfl)) dc4 l4
  ·show (Code.cond _ _ _).wpIn (fz none) 0 P _ _ _
   have h24:a7.eval (.tmp 24)=.bool false:=by
    have:=hs7.eval (.tmp 24);simpa[St.eval,jI,ae]using this
   refine wpIn_cond_false h24 (wpIn_skip ?_);have hj7:=M _ _ _ _ hj' hle7 hR7;have e7:E7.H=d (k+1):=hs7.H;rw[e7]at hj7;exact⟨n-(k+1),ab,k+1,E7,rfl,rfl,ab,hj7,uy (v:=.undef) (i:=.undef) hs7 rfl rfl rfl (.inl rfl) (.inl rfl)⟩
 ·have hkn:k=n :=ab
  subst hkn;have hz:s.size=0:=by rw[<-B]; exact hn0
  refine wpIn_cond_false (by rw[h7]; simp[hz]) (wpIn_exit ?_);simp only[Exit.then,Exit.inBlock,if_true];have hd:U.defers=[]:=uu N.defers fun _ h=>h;show LeavesInM (fz none) 0 P fn U.tmps _ U.defers .returning E2.w
  rw[hd];refine⟨.tuple #[],?_,⟨_,rfl⟩,E2,rfl,hj2⟩;rw[vO,hr];simp
end ln
structure Gf (P:ak) (m n:Nat) (ix:BY->Int) (R:Nat->BY) (id:Nat) (p0:Tmp) (assign body:Code) (S:Nat->St):Prop where
 na:fk assign=true
 nb:fk body=true
 fix:∀k,k<=n->kY m (S k).fr=true
 box:∀k,k<=n->(S k).H[id]?=some (.box [.lit (.string (R k))])
 round:∀k,k<n->∃s1 s2,c_ P m assign ⟨(S k).fr.set p0 (.lit (.string (kD ix (R k)))),(S k).H.set id (.box [.lit (.string (kZ ix (R k)))])⟩ .normal s1/\c_ P m body s1 .normal s2/\cV m ⟨(S k).fr,s2.H⟩ (S (k+1))
section ln
variable {P:ak} {m' n:Nat} {ix:BY->Int} {R:Nat->BY} {id:Nat} {p0:Tmp} {assign body:Code} {S:Nat->St}
theorem aes(hr:Gf P m' n ix R id p0 assign body S){k:Nat}(hk:k<n){fn:bH}{D l:Nat}{tmps:Array al}(htm:tmps=a.tmps) (hs:bM ⟨(S k).fr,(S k).H.set id (.box [.lit (.string (kZ ix (R k)))])⟩ E a) (hX:E.X l)
  (J:E.w.heap[l]?=some (.loop { state:=.ready,pending:=none,fn,tmps,params:=#[p0],assign,body,defers:=D })) {cs:Array al} (hc:aq E [.lit (.string (kD ix (R k)))] cs.toList) :
  YieldAt (fz none) 0 P l cs E.w fun e W'=>e=.returned (.bool true)/\∃E',E'.w=W'/\bM (S (k+1)) E' a/\E.dO m' E'/\E'.X l /\
   E'.w.heap[l]?=some (.loop { state:=.ready,pending:=none,fn,tmps,params:=#[p0],assign,body,defers:=D }):=by
 obtain⟨s1,s2,hA,hB,hle⟩:=hr.round k hk;obtain⟨g,rfl⟩:∃g,cs=#[g]:=by
  have:=il hc
  match h:cs.toList,this with
  |[g],_=>exact⟨g,jk (by simpa using h)⟩
 simp only[aq]at hc;obtain⟨hc0,_⟩:=hc;refine⟨_,_,_,_,run_yield J ai,roundIn_of_wpIn (F:=fz none) trivial ?_⟩;have W:l<E.w.heap.size:=(fS.1 J).1;have hs0:bM ⟨(S k).fr.set p0 (.lit (.string (kD ix (R k)))),(S k).H.set id (.box [.lit (.string (kZ ix (R k)))])⟩ E { tmps:=a.tmps.setIfInBounds p0 g,defers:=[] }:=by
  refine⟨hs.H,?_,mr _ _,hs.heap⟩;simp only[Array.toList_setIfInBounds];exact yn p0 hs.fr hc0
 have e0:((#[p0]:Array Tmp).zip #[g]).foldl (fun tmps (t,a)=>tmps.setIfInBounds t a) tmps=a.tmps.setIfInBounds p0 g:=by
  rw[htm];simp[<-Array.foldl_toList]
 rw[e0];refine wpIn_mono (hA (some l) (.inr hr.na) E _ hs0) fun e a1 q ⟨he,loc1,X1,Y,B⟩=>?_;subst he;have hno:¬ E.bC l:=hs.heap.kh hX;have hl1:q.heap[l]?=some (.loop { state:=.ready,pending:=none,fn,tmps,params:=#[p0],assign,body,defers:=D }):=by rw[B.same l W hno]; exact J
 have hX1:X1 l:=(B.X l W).1.2 hX;have O:l<q.heap.size:=(fS.1 hl1).1;refine⟨_,run_beginRound hl1 rfl,?_⟩;have hs1':=Y.cG (sn (o:=.loop { state:=.busy,pending:=none,fn,tmps,params:=#[p0],assign,body,defers:=D }) hX1 Y.heap) (yO Y.defers hl1);refine wpIn_mono (hB (some l) (.inr hr.nb) _ a1 hs1') fun e a2 w3 ⟨he,jY,M,hs2,U⟩=>?_;subst he;have hno1:¬ af.bC { w:=q,H:=s1.H,ad:=loc1,X:=X1 } l:=B.bC l W hno;have hl3:w3.heap[l]?=some (.loop { state:=.busy,pending:=none,fn,tmps,params:=#[p0],assign,body,defers:=D }):=by
  rw[U.same l (by show l<(q.putObj _ _).heap.size; simpa using O) hno1];exact Eh O
 have hX2:M l:=(U.X l (by show l<(q.putObj _ _).heap.size; simpa using O)).1.2 hX1;have hlt3:l<w3.heap.size:=(fS.1 hl3).1;refine⟨_,_,run_endRound (P:=P) none hl3,rfl,?_⟩;obtain⟨d,I⟩:∃d,w3.putObj l (.loop { state:=.ready,pending:=none,fn,tmps,params:=#[p0],assign,body,defers:=D })=d:=⟨_,rfl⟩
 have hl4:d.heap[l]?=some (.loop { state:=.ready,pending:=none,fn,tmps,params:=#[p0],assign,body,defers:=D }):=by
  rw[<-I];exact Eh hlt3
 have N:E.dO m' { w:=d,H:=s2.H,ad:=jY,X:=M }:=by
  refine af.oq.toM (l:=l) (B.toX.trans (sq.trans (U.toX.trans ?_))) (fun _=>by rw[show af.w _=d from rfl,hl4,J]);rw[<-I];exact sq
 have hR4:aO { w:=d,H:=s2.H,ad:=jY,X:=M }:=by
  rw[<-I];exact hs2.heap.cG (sn hX2 hs2.heap)
 have hsr:bM ⟨(S k).fr,s2.H⟩ { w:=d,H:=s2.H,ad:=jY,X:=M } a:=by
  refine⟨rfl,sk N _ (hr.fix k ab) hs.fr,tv hs.defers (fun b A h2=>?_) (fun b A _=>N.same b (hs.heap.X b A) (hs.heap.kh A)),hR4⟩;have:=N.X b (hs.heap.X b A);exact⟨this.1.2 A,this.2.2 h2⟩
 obtain⟨loc7,X7,hs7,hle7⟩:=hle _ a hsr;refine⟨{ w:=d,H:=(S (k+1)).H,ad:=loc7,X:=X7 },?_,hs7,N.trans hle7,(hle7.X l (by show l<d.heap.size; exact(fS.1 hl4).1)).1.2 hX2,hl4⟩;rw[<-I];rfl
theorem aet(hm:P.follows .mixedOrders=true){T:aJ}{fi:bH}{m:Nat}(hT:fj P T=some (1,false))(hK:cZ P T=.str)(hI:wG P fi ix)(ho:yS T fi bq bD br cg iZ jv hZ){fd:Func}
  (hf:P.funcs[f]?=some fd) (hbd:eC P f=true) (A:fd.body=some (Co bq bD br cg iZ jv hZ r0 r1 r2 r3 r4 r5 r6 b0 b1)) (hn:fd.ntmps=25) (hre:fd.results=#[]) (hsz:∀k,k<=n->(R k).size<=1048576) (hn1:∀k,k<n->0<(R k).size) (hn0:(R n).size=0)
  (hmm:m<=m') (hid:id<m') (hr:Gf P m' n ix R id p0 assign body S) {g:Tmp} (hg:(S 0).eval (.tmp g)=.clo f [.ptr id 0 wd 0 0])
  (E:af) (a:Act) (hs:bM (S 0) E a):(Code.rangeFunc (.tmp g) #[p0] assign body).wpIn (fz none) 0 P (fun e a1 q=>e=.normal/\eG m E (S n) a1 q) a E.w:=by
 have W:=hs.eval (.tmp g);rw[hg]at W;simp only[ae]at W;obtain⟨cs,W,hcs⟩:=W;obtain⟨c,rfl⟩:∃c,cs=#[c]:=by
  have:=il hcs
  match h:cs.toList,this with
  |[c],_=>exact⟨c,jk (by simpa using h)⟩
 have hcp:ae E (.ptr id 0 wd 0 0) c:=by
  have h:aq E [.ptr id 0 wd 0 0] [c]:=hcs;simp only[aq]at h;exact h.1
 obtain⟨D,hD⟩:∃D,E.w.heap.size=D:=⟨_,rfl⟩
 refine wpIn_rangeFunc ?_;intro fn _;obtain⟨rec,M⟩:∃rec:Loop,rec={ state:=.ready,pending:=none,fn,tmps:=a.tmps,params:=#[p0],assign,body,defers:=D }:=⟨_,rfl⟩
 obtain⟨q,Y⟩:∃q,(E.w.alloc (.deferred (some []))).alloc (.loop rec)=q:=⟨_,rfl⟩
 have hsz1:q.heap.size=D+2:=by rw[<-Y,lR,lR,hD]
 have hl1:q.heap[D+1]?=some (.loop rec):=by
  rw[<-Y];have:=AX (E.w.alloc (.deferred (some []))) (.loop rec)
  rwa [lR,hD]at this
 have hold2:∀b,b<D+1->q.heap[b]?=(E.w.alloc (.deferred (some []))).heap[b]?:=fun b A=>by
  rw[<-Y];show ((E.w.alloc (.deferred (some []))).heap.push _)[b]?=_
  rw[s_,iN (by rw[lR,hD]; omega)]
 have hD1:q.heap[D]?=some (.deferred (some [])):=by
  rw[hold2 D ab];have:=AX E.w (.deferred (some []))
  rwa [hD]at this
 have hold:∀b,b<D->q.heap[b]?=E.w.heap[b]?:=fun b A=>by
  rw[hold2 b ab];show (E.w.heap.push _)[b]?=_
  rw[s_,iN ab]
 have hos:eV E.w q:=by rw[<-Y]; exact⟨rfl,rfl,rfl,by first|exact fun _=>Nat.le_refl _|exact fun _=>Nat.le_add_right _ _⟩
 obtain⟨B,F⟩:∃B:XS,B=⟨fun b=>E.X b\/b=D\/b=D+1,fun b=>E.X.z b\/b=D,E.X.r⟩:=⟨_,rfl⟩
 obtain⟨mk,hmk⟩:∃mk:Deferred,mk={ target:=.collected D,args:=#[] }:=⟨_,rfl⟩
 have cG:iU E { w:=q,H:=E.H,ad:=E.ad,X:=B }:=
  ⟨rfl,rfl,by show E.w.heap.size<=q.heap.size; omega,fun b A hx=>by
   have A:b<D:=by rw[<-hD]; exact A
   refine⟨fun h=>?_,hold b A⟩;rw[F]at h;rcases h with h|h|h
   ·exact hx h
   ·omega
   ·omega,fun b A=>by
   show b<q.heap.size
   rw[F]at A;rcases A with h|h|h
   ·have:=hs.heap.X b h
    omega
   ·omega
   ·omega,by show B.r=E.X.r; rw[F]⟩
 have hs2:bM (S 0) { w:=q,H:=E.H,ad:=E.ad,X:=B } { a with defers:=mk::a.defers }:=by
  refine⟨hs.H,nf cG _ hs.fr,⟨?_,fun d hd=>?_⟩,hs.heap.cG cG⟩
  ·refine List.nodup_cons.2 ⟨fun h=>?_,hs.defers.1⟩
   obtain⟨O,e,I,U,_⟩:=hs.defers.2 mk h;have:=hs.heap.X O U;rw[hmk]at e;have e:D=O:=by
    have e:=congrArg Deferred.target e;simpa using e
   omega
  ·rcases List.mem_cons.1 hd with rfl | hd
   ·exact⟨D,hmk,hD1,by rw[F]; exact .inr (.inl rfl),by rw[F]; exact .inr rfl⟩
   ·obtain⟨O,e,I,U,h3⟩:=hs.defers.2 d hd
    have:=hs.heap.X O U;exact⟨O,e,by rw[show af.w _=q from rfl,hold O ab]; exact I,by rw[F]; exact .inl U,by rw[F]; exact .inl h3⟩
 have hle2:E.dO m { w:=q,H:=E.H,ad:=E.ad,X:=B }:=by
  refine⟨fun _ _ h=>h,by show E.w.heap.size<=q.heap.size; omega,fun b A _=>hold b (by rw[<-hD]; exact A),fun b _ h ho=>h ((cG.bC b).1 ho),fun _ _ _ h=>⟨h,rfl⟩,fun b A=>?_,fun l h hh=>by show h<(B.r l).length/\_; rw[F]; exact⟨hh,fun _ hq=>hq⟩,hos⟩;have A:b<D:=by rw[<-hD]; exact A
  show (B b↔E.X b)/\(B.z b↔E.X.z b)
  rw[F];exact⟨⟨fun h=>by rcases h with h|h|h; exact h; omega; omega,.inl⟩,⟨fun h=>by rcases h with h|h; exact h; omega,.inl⟩⟩
 have hX3:B (D+1):=by rw[F]; exact .inr (.inr rfl)
 refine⟨D+1,[mk],q,{ target:=.fn (.func f) #[c],args:=#[.func (.yield (D+1)) #[] #[]] },q,f,#[.func (.yield (D+1)) #[] #[],c],q,?_,?_,fun _ _=>trivial,?_,fun h=>(by cases h),?_⟩
 ·rw[<- Y,M,hmk,<- hD]
  exact run_enterLoop_outer _ _ _ _ _
 ·have hcst:a.eval (.const (.func (.yield (D+1)) #[] #[]))=.func (.yield (D+1)) #[] #[]:=rfl
  simp[resolve,W,hcst,AQ]
 ·simp[invoke,vJ hbd]
 ·have hcall:=aer (P:=P) (m:=m') hm hT hK hI ho hf A hn hre (l:=D+1) hsz hn1 hn0 (fun k H E'=>bM ⟨(S k).fr,H⟩ E' { a with defers:=mk::a.defers }/\kY m' (S k).fr=true/\E.dO m E'/\E'.X (D+1)/\E'.w.heap[D+1]? = some (.loop rec)) (fun k=>(S k).H)
   (fun k H E' h=>⟨h.1.heap,h.1.H⟩) (fun k H E1 E2 h N hR=>?_) hid hr.box (fun k E' cs hk h hc=>?_) (E0:={ w:=q,H:=E.H,ad:=E.ad,X:=B }) (c:=c) (wd:=wd) ⟨hs2,hr.fix 0 (lj _),hle2,hX3,hl1⟩ (rY cG _ hcp)
  ·refine hcall.mono fun e w3 ⟨⟨v,hv⟩,E4,hw4,hs4,_,hle4,hX4,hl4⟩=>?_
   subst hv;subst hw4;obtain⟨w4,H4,loc4,X4⟩:=E4;have hH4:H4=(S n).H:=hs4.H;subst hH4;have hend:=run_endLoop (P:=P) hl4 (by rw[M]; simp);refine⟨_,_,hend,?_⟩;rw[M];refine⟨rfl,loc4,X4,?_,?_⟩
   ·rw[<- M]
    exact hs4.cG (sn hX4 hs4.heap) (yO hs4.defers hl4)
   ·exact(hle4.toX.trans sq).toM (l:=D+1) (fun h=>absurd h ab)
  ·obtain⟨J,gf,g2,g3,g4⟩:=h
   have hlt:D+1<E1.w.heap.size:=(fS.1 g4).1;refine⟨⟨rfl,sk N _ gf J.fr,tv J.defers (fun b I U=>?_) (fun b I _=>N.same b (J.heap.X b I) (J.heap.kh I)),hR⟩,gf,g2.trans (N.mono hmm),(N.X _ hlt).1.2 g3,?_⟩
   ·have:=N.X b (J.heap.X b I)
    exact⟨this.1.2 I,this.2.2 U⟩
   ·rw[N.same (D+1) hlt (J.heap.kh g3)]
    exact g4
  ·obtain⟨J,gf,g2,g3,g4⟩:=h
   rw[M]at g4;obtain⟨fn',tm,as,bo,k1,k2⟩:=aes hr hk rfl J g3 g4 hc;refine⟨fn',tm,as,bo,k1,k2.mono fun e W' ⟨he,E'',hw,q1,q2,q3,q4⟩=>⟨he,E'',hw,⟨q1,hr.fix (k+1) ab,g2.trans (q2.mono hmm),q3,by rw[M]; exact q4⟩,q2⟩⟩
theorem aeu(hm:P.follows .mixedOrders=true){T:aJ}{fi:bH}{m:Nat}(O:fj P T=some (1,false))(U:cZ P T=.str)(W:wG P fi ix)(Y:yS T fi bq bD br cg iZ jv hZ){d:Func}
  (hf:P.funcs[f]?=some d) (q:eC P f=true) (hb:d.body=some (Co bq bD br cg iZ jv hZ r0 r1 r2 r3 r4 r5 r6 b0 b1)) (hn:d.ntmps=25) (A:d.results=#[]) (B:∀k,k<=n->(R k).size<=1048576) (F:∀k,k<n->0<(R k).size) (I:(R n).size=0)
  (J:m<=m') (M:id<m') (hr:Gf P m' n ix R id p0 assign body S) {g:Tmp} (hg:(S 0).eval (.tmp g)=.clo f [.ptr id 0 wd 0 0]):c_ P m (.rangeFunc (.tmp g) #[p0] assign body) (S 0) .normal (S n):=fun ro N E a hs=>by
 obtain rfl:ro=none:=N.resolve_right (by simp[fk]);exact wpIn_mono (aet hm O U W Y hf q hb hn A B F I J M hr hg E a hs) fun e a1 w1 ⟨he,h⟩=>⟨he,h⟩
end ln
variable {P:ak} {τ:ar} {L:LT} {m:Nat}
structure Gg where
 f:bH
 T:aJ
 fi:bH
def Gh(P:ak)(i:Gg):Prop:=∃d bq bD br cg iZ jv hZ r0 r1 r2 r3 r4 r5 r6 g q,P.funcs[i.f]?=some d/\eC P i.f=true/\d.body=some (Co bq bD br cg iZ jv hZ r0 r1 r2 r3 r4 r5 r6 g q)/\d.ntmps=25/\d.results=#[]/\yS i.T i.fi bq bD br cg iZ jv hZ/\fj P i.T=some (1,false)/\cZ P i.T=.str
theorem aev{P:ak}{i:Gg}{d:Func}{g q:Nat}(A:P.funcs[i.f]? = some d)(B:eC P i.f=true)(hc:d.body=some (Co bq bD br cg iZ jv hZ r0 r1 r2 r3 r4 r5 r6 g q))(hn:d.ntmps=25)(hr:d.results=#[])
  (F:yS i.T i.fi bq bD br cg iZ jv hZ) (I:fj P i.T=some (1,false)) (J:cZ P i.T=.str):Gh P i:=
 ⟨d,_,_,_,_,_,_,_,_,_,_,_,_,_,_,_,_,A,B,hc,hn,hr,F,I,J⟩
structure yU where
 inv:nk
 ps:List eH
 opens:List (Nat × List Kd)
 id:Nat
 p0:Tmp
 rest:LG->BY
 init:LG->LG
 side:LG->Bool
 st:BY->BY->LG->Option LG
def uz(ix:BY->Int)(rest:LG->BY)(st:BY->BY->LG->Option LG):Nat->LG->Option LG
 |0,_=>none
 |n+1,d=>bif aA (rest d).size 0 then some d else bif bW (rest d).size 1048576 then (st (kD ix (rest d)) (kZ ix (rest d)) d).bind (uz ix rest st n) else none
theorem SX{ix:BY->Int}{rest:LG->BY}{st:BY->BY->LG->Option LG}:∀(N:Nat) (d q:LG),uz ix rest st N d=some q ->
  ∃(n:Nat) (f:Nat->LG),f 0=d/\f n=q/\(rest (f n)).size=0/\∀k,k<n->0<(rest (f k)).size/\(rest (f k)).size<=1048576/\st (kD ix (rest (f k))) (kZ ix (rest (f k))) (f k)=some (f (k+1))
 |0,_,_,h=>by cases h
 |N+1,d,q,h=>by
  simp only[uz]at h;cases g:aA (rest d).size 0 with
  |true=>
   rw[g]at h;cases h;exact⟨0,fun _=>d,rfl,rfl,cz g,fun k F=>by omega⟩
  |false=>
   rw[g]at h;simp only[cF]at h;have I:0<(rest d).size:=Nat.pos_of_ne_zero fun e=>by rw[e]at g; cases g
   cases A:bW (rest d).size 1048576 with
   |false=>rw[A]at h; cases h
   |true=>
    rw[A]at h;simp only[cT]at h;cases B:st (kD ix (rest d)) (kZ ix (rest d)) d with
    |none=>rw[B]at h; cases h
    |some J=>
     rw[B]at h;obtain⟨n,f,M,O,U,W⟩:=SX N J q h;refine⟨n+1,fun j=>match j with|0=>d|j+1=>f j,rfl,O,U,fun k F=>?_⟩;cases k with
     |zero=>
      refine⟨I,lk A,?_⟩;show st _ _ d=some (f 0)
      rw[M];exact B
     |succ k=>exact W k ab
def Cq(ix:BY->Int)(sp:yU)(tl:LG->bk)(d:LG):bk:=
 bif sp.side d then (uz ix sp.rest sp.st 1048577 (sp.init d)).bind tl else none
def Gi(P:ak)(τ:ar)(L:LT)(sp:yU)(assign body:Code):Prop:=
 ∀(h r:BY) (d:LG),(db P τ L assign ⟨(aX sp.inv d).fr.set sp.p0 (.lit (.string h)),(aX sp.inv d).H.set sp.id (.raw (.box [.lit (.string r)]))⟩ fun x s1=>match x with
  |.normal=>db P τ L body s1 fun x s2=>match x with
   |.normal=>.done .normal ⟨(aX sp.inv d).fr,s2.H⟩
   |_=>.fail
  |_=>.fail).leaf (pI sp.inv.bj.length sp.inv (Gb sp.inv.bj.length))=sp.st h r d
theorem aew(hm:P.follows .mixedOrders=true)(B:aw P τ){sp:yU}(F:aQ P sp.inv.bj.length L assign)(I:aQ P sp.inv.bj.length L body)(hr:Gi P τ L sp assign body){h r:BY}{d q:LG}(he:sp.st h r d=some q):
  ∃s1 s2:aH,c_ P sp.inv.bj.length assign ⟨(aX sp.inv d).fr.set sp.p0 (.lit (.string h)),(aX sp.inv d).au.H.set sp.id (.box [.lit (.string r)])⟩ .normal s1.au/\c_ P sp.inv.bj.length body s1.au .normal s2.au /\
   cV sp.inv.bj.length ⟨(aX sp.inv d).fr,s2.au.H⟩ (aX sp.inv q).au:=by
 rw[<-hr h r d]at he;have he:=kR he;obtain⟨x,s1,J,A⟩:=fo hm B (m:=sp.inv.bj.length) assign _ _ F he;cases x with
 |exit _=>exact A.elim
 |ret=>exact A.elim
 |normal=>
  obtain⟨x,s2,M,g⟩:=fo hm B (m:=sp.inv.bj.length) body _ _ I A;cases x with
  |exit _=>exact g.elim
  |ret=>exact g.elim
  |normal=>
   have g:pI sp.inv.bj.length sp.inv (Gb sp.inv.bj.length) .normal ⟨(aX sp.inv d).fr,s2.H⟩=some (true,q):=g;refine⟨s1,s2,?_,M,kS (s:=⟨(aX sp.inv d).fr,s2.H⟩) g⟩;have e:(⟨(aX sp.inv d).fr.set sp.p0 (.lit (.string h)),(aX sp.inv d).au.H.set sp.id (.box [.lit (.string r)])⟩:St)=(⟨(aX sp.inv d).fr.set sp.p0 (.lit (.string h)),(aX sp.inv d).H.set sp.id (.raw (.box [.lit (.string r)]))⟩:aH).au:=by
    show (⟨_,(aF (aX sp.inv d).H).set sp.id _⟩:St)=⟨_,aF ((aX sp.inv d).H.set sp.id _)⟩
    rw[gn];rfl
   rw[e];exact J
theorem aex(hm:P.follows .mixedOrders=true)(Y:aw P τ){i:Gg}(hi:Gh P i){ix:BY->Int}(hI:wG P i.fi ix){sp:yU}{r3:Code}{B:bF}{N:LT}
  (hLa:aQ P sp.inv.bj.length N assign) (hLb:aQ P sp.inv.bj.length N body) (hr:Gi P τ N sp assign body) (hL3:aQ P m L r3) (I:(fk assign&&fk body)=true) (A:(bW m sp.inv.bj.length&&fT sp.id sp.inv.bj.length)=true)
  {pre:LG->aH} (hy:∀d,(db P τ L r3 (aX q.inv d) .done).gN=some (.normal,pre d)) (hg:∀d,(aX sp.inv d).fr.getD g .undef=.clo i.f [.ptr sp.id 0 wd 0 0]) (hid:∀d,(aX sp.inv d).H[sp.id]?=some (.raw (.box [.lit (.string (sp.rest d))])))
  (hin:∀d,iI m sp.inv sp.ps (iu sp.opens (pre d))=some (sp.side d,sp.init d)) (hfix:∀d,kY sp.inv.bj.length (aX sp.inv d).fr=true)
  (hinv:B.inv=sp.inv) (houts:B.outs=q.outs) (hrest:pJ P m rest B) (hst:∀d,q.st d=Cq ix sp B.st d) :
  pJ P m (.seq (.seq r3 (.block b (.rangeFunc (.tmp g) #[sp.p0] assign body))) rest) q:=by
 intro d x d' h;rw[hst]at h;unfold Cq at h;cases J:sp.side d with
 |false=>rw[J]at h; cases h
 |true=>
  rw[J]at h;simp only[cT]at h;simp only[aR]at A I;obtain⟨hk1,M⟩:=A;have M:sp.id<sp.inv.bj.length:=by simpa[jS]using M
  cases O:uz ix sp.rest sp.st 1048577 (sp.init d)with
  |none=>rw[O]at h; cases h
  |some U=>
   rw[O]at h;have h:B.st U=some (some x,d'):=h;obtain⟨o,ho1,hsat⟩:=hrest U x d' h;refine⟨o,by rw[<-houts]; exact ho1,?_⟩;obtain⟨x3,s3,h3,h4⟩:=fo hm Y r3 (aX q.inv d) .done hL3 (sb (hy d));obtain⟨rfl,rfl⟩:=h4;obtain⟨n,f,f0,f1,fz,W⟩:=SX _ _ _ O;obtain⟨fd,bq,bD,br,cg,iZ,jv,hZ,r0,r1,r2,r3',r4,r5,r6,b0,b1,q1,q2,q3,q4,q5,q6,q7,q8⟩:=hi;have hR:Gf P sp.inv.bj.length n ix (fun k=>sp.rest (f k)) sp.id sp.p0 assign body (fun k=>(aX sp.inv (f k)).au):=by
    refine⟨I.1,I.2,fun k _=>hfix (f k),fun k _=>cn (hid (f k)),fun k A=>?_⟩;obtain⟨s1,s2,g1,g2,g3⟩:=aew hm Y hLa hLb hr (W k A).2.2;exact⟨s1.au,s2.au,g1,g2,g3⟩
   have F:=aeu (m:=m) (m':=sp.inv.bj.length) (P:=P) (wd:=wd) hm q7 q8 hI q6 q1 q2 q3 q4 q5 (fun k A=>by
     rcases Nat.lt_or_eq_of_le A with A|rfl
     ·exact(W k A).2.1
     ·show (sp.rest (f k)).size<=_
      rw[fz];omega) (fun k A=>(W k A).1) fz (lk hk1) M hR (g:=g) (hg _)
   have h5:=hin d;rw[J]at h5;have h6:=(nl (m:=m) sp.opens (pre d)).trans (kS h5);rw[<-f0]at h6;have F:=vM h6 F;rw[f1]at F;have hB:c_ P m (.block b (.rangeFunc (.tmp g) #[sp.p0] assign body)) (pre d).au .normal (aX sp.inv U).au:=EZ (x:=.normal) F;rw[<-hinv]at hB;exact tO (tO h3 hB) hsat
variable {P:ak} {τ:ar} {L:LT} {m:Nat}
def aey(c:Code):Func:={ (default:Func)with body:=some c }
theorem aQ.bare{c g:Code}(h:aQ P m L c)(B:(cI g).isEmpty=true)(F:∀k s,L.yD k s=none):aQ P m L g:=
 ⟨(fun k d q=>by rw[List.isEmpty_iff.1 B]at q; cases q),h.2.1,(fun k d _ s t A=>by rw[F]at A; cases A)⟩
theorem aQ.aez(hm:P.follows .mixedOrders=true)(B:aw P τ){i:Gg}(hi:Gh P i){ix:BY->Int}(hI:wG P i.fi ix){sp:yU}{qr:bF}{L0:LT}
  (hn:mF q.key (cB (bf fn))=true) (hL:aQ P m L (bf fn)) (N:aQ P sp.inv.bj.length L0 (su (bS fn q.key))) (O:aQ P sp.inv.bj.length L0 (pM (bS fn q.key)))
  (hc:bS fn q.key=.seq (.seq (Cl (bS fn q.key)) (.block b (.rangeFunc (.tmp g) #[sp.p0] (su (bS fn q.key)) (pM (bS fn q.key))))) (sf (bS fn q.key)))
  (hr:Gi P τ L0 sp (su (bS fn q.key)) (pM (bS fn q.key))) (U:(fk (su (bS fn q.key))&&fk (pM (bS fn q.key)))=true) (hk:(bW m sp.inv.bj.length&&fT sp.id sp.inv.bj.length)=true)
  {pre:LG->aH} (hy:∀d,(db P τ L (Cl (bS fn q.key)) (aX q.inv d) .done).gN=some (.normal,pre d)) (hg:∀d,(aX sp.inv d).fr.getD g .undef=.clo i.f [.ptr sp.id 0 wd 0 0]) (W:∀d,(aX sp.inv d).H[sp.id]?=some (.raw (.box [.lit (.string (sp.rest d))])))
  (Y:∀d,iI m sp.inv sp.ps (iu sp.opens (pre d))=some (sp.side d,sp.init d)) (J:∀d,kY sp.inv.bj.length (aX sp.inv d).fr=true)
  (M:qr.inv=sp.inv) (F:qr.outs=q.outs) (I:qI P τ L m (sf (bS fn q.key)) qr) (hst:∀d,q.st d=Cq ix sp qr.st d) :
  aQ P m (L.gF m q) (bf fn):=by
 refine aQ.F0 hn hL fun A=>?_;rw[hc]at A;obtain⟨hL3,hLr⟩:=SP A;rw[hc];exact aex hm B hi hI N O hr hL3 U hk hy hg W Y J M F (I.sat hm B hLr) hst
end Go.AL
