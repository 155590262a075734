/-
 What is proved here: a range over slices.Backward of data,and what comes behind it,as a function on data: rounds from the last row to the first one. No program in sight; no condition.
-/
import Derived.Test.YtmhkodhaodcfdaaGreatDoorMG
import Derived.Sort.LoopGhostIn
set_option linter.all false
open Array renaming getElem?_push->JP,ext'->g_,getElem?_eq_some_iff->je
open Go renaming Value->ak,FuncId->bC,TypeId->aD,Program->ai,Operand->bX,Oper->aQ
open Go.Deferred renaming ofValue->Tc
open Go.World renaming putObj_heap_same->aj_,size_alloc->Fh,alloc_heap_new->aj'
open Int renaming le_refl->aj9
open List renaming range'->xg,mem_append->cN,replicate->dz
open Nat renaming zero_le->fO,beq->aH,ble->bf,le_of_ble_eq_true->qL
namespace Go.AL
open Go
variable [Dr]
variable {P:ai} {τ:aJ} {L:LT} {m:Nat}
structure akM where
 inv:nU
 ps:List j7
 opens:List (Nat × List Kd)
 K:List Kd
 agg:Bool
 pw:Nat
 id:Nat
 p0:Tmp
 p1:Tmp
 init:LG->LG
 side:LG->Bool
 st:Int->LG->LG->Option LG
def Oj(n:Nat):List j7:=(List.range n).map .fix
def HR:Code->Code
 |.seq (.seq r _) _=>r
 |_=>.skip
def CU:Code->Code
 |.seq (.seq _ (.block _ (.rangeFunc _ _ a _))) _=>a
 |_=>.skip
def CV:Code->Code
 |.seq (.seq _ (.block _ (.rangeFunc _ _ _ b))) _=>b
 |_=>.skip
theorem X8{r3 assign body rest:Code}{b:Nat}{o:bX}{ps:Array Tmp} (h:ba P m L (.seq (.seq r3 (.block b (.rangeFunc o ps assign body))) rest)):ba P m L r3/\ba P m L rest:=by
 refine⟨h.sub (fun p a=>?_) (fun p a=>?_),h.sub (fun p a=>?_) (fun p a=>?_)⟩
 ·simp only [cC, cN]
  exact .inl (.inl a)
 ·simp only [cB, cN]
  exact .inl (.inl a)
 ·simp only [cC, cN]
  exact .inr a
 ·simp only [cB, cN]
  exact .inr (.inr a)
def preB(P:ai)(τ:aJ)(L:LT)(c:Code)(s:aI):aI:=match (fD P τ L (HR c) s .done).qg with
 |some (_,s1)=>s1
 |none=>s
end Go.AL

namespace Go.AL
open Go
variable [Dr]
def jr(ix:BY->Int)(s:BY):BY:=if 0<=ix s then s.extract 0 (ix s+1).toNat else s
def jJ(ix:BY->Int)(s:BY):BY:=if 0<=ix s then s.extract (ix s+1).toNat s.size else ⟨#[]⟩
structure tM (P:ai) (fi:bC) (ix:BY->Int):Prop where
 body:fM P fi=true
 call:∀ s:BY,nJ P fi [.lit (.string s),.lit (.int .u8 10)] (.lit (.int .i64 (ix s)))
 lt:∀ s:BY,ix s<s.size
abbrev y5(T:aD)(d:Tmp)(o:aQ):Prop:=o.guard=none/\o.op=.load T (.tmp 1)/\o.dst=some d
abbrev y6(x d:Tmp)(o:aQ):Prop:=o.guard=none/\o.op=.move (.tmp x)/\o.dst=some d
abbrev CW(x:bX)(d:Tmp)(o:aQ):Prop:=o.guard=none/\o.op=.assign x/\o.dst=some d
abbrev CX(b:BinOp)(x:Tmp)(n:Int)(d:Tmp)(o:aQ):Prop:=o.guard=none/\(∃ t t',o.op=.binOp b t (.tmp x) (.const (.int .i64 n)) t')/\o.dst=some d
abbrev HS(T:aD)(x:bX)(o:aQ):Prop:=o.guard=none/\o.op=.store T (.tmp 1) x/\o.dst=none
structure v_ (T:aD) (fi:bC) (fp fH fq gh gS im fV:Array aQ):Prop where
 r0:∃ o1 o2 o3,fp.toList=[o1,o2,o3]/\y5 T 5 o1/\(o2.guard=none/\o2.op=.call { callee:=.builtin .len,args:=#[.tmp 5],argTypes:=#[T] }/\o2.dst=some 6)/\CX .gtr 6 0 7 o3
 r1:∃ o1,fH.toList=[o1]/\CW (.const (.string ⟨#[]⟩)) 3 o1
 r2:∃ o1 o2 o3 fQ,fq.toList=[o1,o2,o3]/\y5 T 8 o1/\(o2.guard=none/\o2.op=.call { callee:=.value (.func fi),args:=#[.tmp 8,.const (.int .u8 10)],argTypes:=fQ }/\o2.dst=some 9)/\CW (.tmp 9) 4 o3
 r3:∃ o1 o2,gh.toList=[o1,o2]/\y6 4 10 o1/\CX .geq 10 0 11 o2
 r4:∃ o1 o2 o3 o4 o5 o6 o7 o8 o9 HT,gS.toList=[o1,o2,o3,o4,o5,o6,o7,o8,o9,HT]/\y5 T 12 o1/\y6 4 13 o2/\CX .add 13 1 14 o3/\(o4.guard=none/\o4.op=.slice T (.tmp 12) none (some (.tmp 14)) none/\o4.dst=some 15) /\
  y5 T 16 o5/\y6 4 17 o6/\CX .add 17 1 18 o7/\(o8.guard=none/\o8.op=.slice T (.tmp 16) (some (.tmp 18)) none none/\o8.dst=some 19)/\CW (.tmp 15) 3 o9/\HS T (.tmp 19) HT
 r5:∃ o1 o2 o3,im.toList=[o1,o2,o3]/\y5 T 20 o1/\CW (.tmp 20) 3 o2/\HS T (.const (.string ⟨#[]⟩)) o3
 r6:∃ o1 o2 o3 o4 t fQ,fV.toList=[o1,o2,o3,o4]/\y6 0 21 o1/\y6 3 22 o2/\(o3.guard=none/\o3.op=.call { callee:=.value (.tmp 21),args:=#[.tmp 22],argTypes:=fQ }/\o3.dst=some 23)/\(o4.guard=none/\o4.op=.unOp .not t (.tmp 23)/\o4.dst=some 24)
 any:qZ (fun g=>aH g fi) gS=true
def y7(fp fH fq gh gS im fV:Array aQ)(r0 r1 r2 r3 r4 r5 r6 a b:Nat):Code :=
 .block a (.loop (.seq (.seq (.region r0 fp false) (.cond (.tmp 7) .skip (.exit a))) (.block b (.seq (.region r1 fH false) (.seq (.seq (.region r2 fq false) (.seq (.region r3 gh false) (.cond (.tmp 11) (.region r4 gS true) (.region r5 im false)))) (.seq (.region r6 fV false) (.cond (.tmp 24) .ret .skip)))))))
def iK(y cp v i:AV):List AV:=[y,cp,.undef,v,i,.undef,.undef,.undef,.undef,.undef,.undef,.undef,.undef,.undef,.undef,.undef,.undef,.undef,.undef,.undef,.undef,.undef,.undef,.undef,.undef]
section ln
variable {P:ai} {fi:bC} {ix:BY->Int} {T:aD} {fp fH fq gh gS im fV:Array aQ} {id wd:Nat}
theorem y8{H:List ah}{s:BY}(a:eI P T=some (1,false)) (hH:H[id]? = some (.box [.lit (.string s)])):kP P T (.ptr id 0 wd 0 0) H=some (.lit (.string s)):=by
 simp[kP,a,hH,iQ]
theorem Ok{H:List ah}{s s':BY}(a:eI P T=some (1,false)) (hH:H[id]? = some (.box [.lit (.string s)])):lK P T (.ptr id 0 wd 0 0) (.lit (.string s')) H=some (H.set id (.box [.lit (.string s')])):=by
 simp[lK,a,hH,nE,dU,putCells]
theorem X9{t:aD}{k:Bool}{a b:Int}:iF P .gtr t k (.lit (.int .i64 a)) (.lit (.int .i64 b))=some (.lit (.bool (decide (a>b)))):=by
 simp only[iF,jC,if_true,nB]
theorem Ol{t:aD}{k:Bool}{a b:Int}(h:aF (a+b)=true):iF P .add t k (.lit (.int .i64 a)) (.lit (.int .i64 b))=some (.lit (.int .i64 (a+b))):=by
 simp only[iF,jC,if_true,nB];rw[tp h]
theorem X_{s:BY}{i:Int}(a:cI P T=.str)(b:0<=i)(d:i<s.size):kl P T (.lit (.string s)) none (some (.lit (.int .i64 (i+1)))) none=some (.lit (.string (s.extract 0 (i+1).toNat))):=by
 simp only[kl,a,hZ,kQ];rw[iP ⟨aj9 _,by omega,by omega⟩];rfl
theorem Ya{s:BY}{i:Int}(a:cI P T=.str)(b:0<=i)(d:i<s.size):kl P T (.lit (.string s)) (some (.lit (.int .i64 (i+1)))) none none=some (.lit (.string (s.extract (i+1).toNat s.size))):=by
 simp only[kl,a,hZ,kQ];rw[iP ⟨by omega,by omega,aj9 _⟩];simp
theorem Om{pf:bC->Bool}{af:Array aQ}{o:aQ}{l:List aQ}{fr:List AV}{H H':List ah}{s':St}{v:AV}(h:Yields P pf af o ⟨fr,H⟩ v H')(a:o.dst=none)(h':ji P pf af l ⟨fr,H'⟩ s'):ji P pf af (o::l) ⟨fr,H⟩ s' :=
 ⟨v, H', h, by
  simp only[St.put,kS,a];exact h'⟩
theorem Oo{pf:bC->Bool}{af:Array aQ}{o:aQ}{s:St}{x:bX}{H':List ah}(a:HS T x o) (h:lK P T (s.eval (.tmp 1)) (s.eval x) s.H=some H'):Yields P pf af o s .undef H':=by
 unfold Yields;rw[show cr af s.fr o=some true from by unfold cr; rw[a.1]];simp only[a.2.1,db];exact .inl (.inl (by simp only[du,h]))
theorem Yb{pf:bC->Bool}{af:Array aQ}{o:aQ}{s:St}{f:bC}{args:List AV}{v:AV}(a:o.guard=none)(b:db pf o.op=.pure)(he:iX s.eval o.op=some (f,args))(d:fM P f=true)(h:nJ P f args v):Yields P pf af o s v s.H:=by
 unfold Yields;rw[show cr af s.fr o=some true from by unfold cr; rw[a]];simp only[b];exact⟨trivial,.inr ⟨f,args,he,d,h⟩⟩
theorem wa(hm:P.follows .mixedOrders=true){pf:bC->Bool}{af:Array aQ}{y:Nat}{g:Bool}(A:g=true->qZ pf af=true)(m:Nat){s s':St}{E:ae}{a:Act}{Q:Exit->Act->World->Prop}(v:c9 s E.j_ a)(h:ji P pf af af.toList s s')
  (B:∀ d E',E.eZ m E'->aG E'->c9 s' E'.j_ d->Q .normal d E'.w):(Code.region y af g).wpIn (fz none) 0 P Q a E.w:=by
 have key:∀ d w',fT E.j_ s' d w'->Q .normal d w':=fun d w' F=>by
  obtain⟨k,q,t,b⟩:=F;have z:E.le { w:=w',H:=s'.H,ad:=k,X:=E.X.re q }:=⟨b.bu,b.size,b.same,b.bN,b.live,⟨rfl,rfl⟩,b.rl,b.env,b.grow⟩
  exact B d { w:=w',H:=s'.H,ad:=k,X:=E.X.re q } z.toM (t.heap.iI (CS (E:={ w:=w',H:=s'.H,ad:=k,X:=E.X.re q }) t.heap)) t
 cases g with
 |false=>exact LN (E:=E.j_) v h key none
 |true=>exact LM (E:=E.j_) hm (A rfl) v h key none
theorem Oq{pf:bC->Bool}{af:Array aQ}{l:List aQ}{k:Nat}{rest:List Nat}(m:Nat){s s':St}{E:ae}{a:Act}{Q:Exit->Act->World->Prop}(y:∀(j:Nat) (o:aQ),l[j]? = some o->af[k+j]? = some o)(z:c9 s E.j_ a)(h:ji P pf af l s s')
  (A:∀ d E',E.eZ m E'->aG E'->c9 s' E'.j_ d->wpOpsIn (fz none) 0 P af Q rest d E'.w):wpOpsIn (fz none) 0 P af Q (xg k l.length++rest) a E.w :=
 Oa none l k _ _ E.j_ a rest y h z (fun d w' B=>by
  obtain⟨g,q,t,b⟩:=B;have v:E.le { w:=w',H:=s'.H,ad:=g,X:=E.X.re q }:=⟨b.bu,b.size,b.same,b.bN,b.live,⟨rfl,rfl⟩,b.rl,b.env,b.grow⟩
  exact A d { w:=w',H:=s'.H,ad:=g,X:=E.X.re q } v.toM (t.heap.iI (CS (E:={ w:=w',H:=s'.H,ad:=g,X:=E.X.re q }) t.heap)) t)
theorem rK{y cp v i:AV}{E:ae}{a:Act}{fr:List AV}{H:List ah}(h:c9 ⟨fr,H⟩ E a)(g:fr.length=25)(k:fr[0]? = some y)(q:fr[1]? = some cp)(t:v=.undef\/fr[3]? = some v)(w:i=.undef\/fr[4]? = some i):c9 ⟨iK y cp v i,H⟩ E a:=by
 refine⟨h.H,Oe h.fr (by rw[g]; rfl) fun j b d=>?_,h.defers,h.heap⟩
 match j,d with
 |0,d=>exact .inr (by rw[k]; exact d)
 |1,d=>exact .inr (by rw[q]; exact d)
 |2,d=>exact .inl (by cases d; rfl)
 | 3,d =>
  have d:some v=some b:=d;cases d;exact t.imp id fun h=>h
 | 4,d =>
  have d:some i=some b:=d;cases d;exact w.imp id fun h=>h
 | j+5,d =>
  left;have z:iK y cp v i=[y,cp,.undef,v,i]++dz 20 .undef:=rfl;rw[z,List.getElem?_append_right (by simp)]at d;exact(List.mem_replicate.1 (List.mem_of_getElem? d)).2
theorem Yc(hm:P.follows .mixedOrders=true)(A:eI P T=some (1,false))(hK:cI P T=.str)(X:tM P fi ix)(B:v_ T fi fp fH fq gh gS im fV){r2 r3 r4 r5:Nat}(m:Nat){y:AV}{s:BY}{H:List ah}{E:ae}{a:Act}{Q:Exit->Act->World->Prop}
  (hsz:s.size<=1048576) (hH:H[id]? = some (.box [.lit (.string s)])) (hs:c9 ⟨iK y (.ptr id 0 wd 0 0) .undef .undef,H⟩ E.j_ a)
  (I:∀ a' E',E.eZ m E'->aG E'->c9 ⟨iK y (.ptr id 0 wd 0 0) (.lit (.string (jr ix s))) .undef,H.set id (.box [.lit (.string (jJ ix s))])⟩ E'.j_ a'->Q .normal a' E'.w) :
  (Code.seq (.region r2 fq false) (.seq (.region r3 gh false) (.cond (.tmp 11) (.region r4 gS true) (.region r5 im false)))).wpIn (fz none) 0 P Q a E.w:=by
 obtain⟨o1,o2,o3,fQ,q,b,⟨Y,F,d2⟩,J⟩:=B.r2;obtain⟨i,hi⟩:∃ i,ix s=i:=⟨_,rfl⟩
 have hlt:i<s.size:=hi▸X.lt s;have hcall:=X.call s;rw[hi]at hcall;refine wpIn_seq (wa (pf:=fun g=>aH g fi) hm (by simp) m hs (s':=⟨(((iK y (.ptr id 0 wd 0 0) .undef .undef).set 8 (.lit (.string s))).set 9 (.lit (.int .i64 i))).set 4 (.lit (.int .i64 i)),H⟩) ?_ fun a1 E1 hle1 hR1 hs1=>?_)
 ·rw [q]
  refine gC (v:=.lit (.string s)) (y4 b.1 (by rw[b.2.1]; rfl) (by rw[b.2.1]; exact y8 A hH)) b.2.2 (gC (v:=.lit (.int .i64 i)) (Yb (f:=fi) (args:=[.lit (.string s),.lit (.int .u8 10)]) Y ?_ ?_ X.body hcall) d2 (gC (v:=.lit (.int .i64 i)) (jI J.1 (by rw[J.2.1]; rfl) (by rw[J.2.1]; rfl)) J.2.2 rJ))
  ·rw [F]
   simp[db]
  ·rw [F]
   rfl
 have hs1':=rK (v:=.undef) (i:=.lit (.int .i64 i)) hs1 rfl rfl rfl (.inl rfl) (.inr rfl);obtain⟨o1,o2,q,b,⟨Y,⟨t,t',F⟩,d2⟩⟩:=B.r3;refine wpIn_seq (wa (pf:=fun g=>aH g fi) hm (by simp) m hs1' (s':=⟨((iK y (.ptr id 0 wd 0 0) .undef (.lit (.int .i64 i))).set 10 (.lit (.int .i64 i))).set 11 (.lit (.bool (decide (i ≥ 0)))),H⟩) ?_ fun a2 E2 hle2 hR2 hs2=>?_)
 ·rw [q]
  refine gC (v:=.lit (.int .i64 i)) (jI b.1 (by rw[b.2.1]; rfl) (by rw[b.2.1]; rfl)) b.2.2 (gC (v:=.lit (.bool (decide (i ≥ 0)))) (jI Y (by rw[F]; rfl) ?_) d2 rJ);rw[F];exact XW (P:=P) (t:=t) (k:=mv (Operand.tmp 10)||mv (Operand.const (.int .i64 0)))
 have h11:a2.eval (.tmp 11)=.bool (decide (i ≥ 0)):=by
  have:=hs2.eval (.tmp 11);simpa[St.eval,iK,ab]using this
 have hs2':=rK (v:=.undef) (i:=.lit (.int .i64 i)) hs2 rfl rfl rfl (.inl rfl) (.inr rfl);have hle12:=hle1.trans hle2;by_cases z:i ≥ 0
 ·have e1 : jr ix s = s.extract 0 (i + 1).toNat := by simp only [jr, hi]; rw [iP z]
  have e2:jJ ix s=s.extract (i+1).toNat s.size:=by simp only[jJ,hi]; rw[iP z]
  rw[e1,e2]at I;obtain⟨o1,o2,o3,o4,o5,o6,o7,o8,o9,HT,q,d,h,⟨g3,⟨t3,t3',p3⟩,d3⟩,⟨g4,p4,d4⟩,M,N,⟨g7,⟨t7,t7',p7⟩,d7⟩,⟨g8,p8,d8⟩,O,k10⟩:=B.r4;have hin:aF (i+1)=true:=cK.2 ⟨by omega,by omega⟩;refine wpIn_cond_true (by rw[h11]; simp[z]) (wa (pf:=fun g=>aH g fi) hm (fun _=>B.any) m hs2' ?_ fun a3 E3 U V W=>I a3 E3 (hle12.trans U) V (rK (fr:=(((((((((iK y (.ptr id 0 wd 0 0) .undef (.lit (.int .i64 i))).set 12 (.lit (.string s))).set 13 (.lit (.int .i64 i))).set 14 (.lit (.int .i64 (i+1)))).set 15 (.lit (.string (s.extract 0 (i+1).toNat)))).set 16 (.lit (.string s))).set 17 (.lit (.int .i64 i))).set 18 (.lit (.int .i64 (i+1)))).set 19 (.lit (.string (s.extract (i+1).toNat s.size)))).set 3 (.lit (.string (s.extract 0 (i+1).toNat)))) W rfl rfl rfl (.inr rfl) (.inl rfl)));rw[q];refine gC (v:=.lit (.string s)) (y4 d.1 (by rw[d.2.1]; rfl) (by rw[d.2.1]; exact y8 A hH)) d.2.2 ?_;refine gC (v:=.lit (.int .i64 i)) (jI h.1 (by rw[h.2.1]; rfl) (by rw[h.2.1]; rfl)) h.2.2 ?_;refine gC (v:=.lit (.int .i64 (i+1))) (jI g3 (by rw[p3]; rfl) (by rw[p3]; exact Ol (P:=P) (t:=t3) (k:=mv (Operand.tmp 13)||mv (Operand.const (.int .i64 1))) hin)) d3 ?_;refine gC (v:=.lit (.string (s.extract 0 (i+1).toNat))) (jI g4 (by rw[p4]; rfl) (by rw[p4]; exact X_ hK z hlt)) d4 ?_;refine gC (v:=.lit (.string s)) (y4 M.1 (by rw[M.2.1]; rfl) (by rw[M.2.1]; exact y8 A hH)) M.2.2 ?_;refine gC (v:=.lit (.int .i64 i)) (jI N.1 (by rw[N.2.1]; rfl) (by rw[N.2.1]; rfl)) N.2.2 ?_;refine gC (v:=.lit (.int .i64 (i+1))) (jI g7 (by rw[p7]; rfl) (by rw[p7]; exact Ol (P:=P) (t:=t7) (k:=mv (Operand.tmp 17)||mv (Operand.const (.int .i64 1))) hin)) d7 ?_;refine gC (v:=.lit (.string (s.extract (i+1).toNat s.size))) (jI g8 (by rw[p8]; rfl) (by rw[p8]; exact Ya hK z hlt)) d8 ?_;refine gC (v:=.lit (.string (s.extract 0 (i+1).toNat))) (jI O.1 (by rw[O.2.1]; rfl) (by rw[O.2.1]; rfl)) O.2.2 ?_;exact Om (Oo k10 (Ok A hH)) k10.2.2 rJ
 ·have e1 : jr ix s = s := by simp only [jr, hi]; rw [iN z]
  have e2:jJ ix s=⟨#[]⟩:=by simp only[jJ,hi]; rw[iN z]
  rw[e1,e2]at I;obtain⟨o1,o2,o3,q,d,h,k3⟩:=B.r5;refine wpIn_cond_false (by rw[h11]; simp[z]) (wa (pf:=fun g=>aH g fi) hm (by simp) m hs2' ?_ fun a3 E3 U V W=>I a3 E3 (hle12.trans U) V (rK (fr:=((iK y (.ptr id 0 wd 0 0) .undef (.lit (.int .i64 i))).set 20 (.lit (.string s))).set 3 (.lit (.string s))) W rfl rfl rfl (.inr rfl) (.inl rfl)));rw[q];refine gC (v:=.lit (.string s)) (y4 d.1 (by rw[d.2.1]; rfl) (by rw[d.2.1]; exact y8 A hH)) d.2.2 ?_;refine gC (v:=.lit (.string s)) (jI h.1 (by rw[h.2.1]; rfl) (by rw[h.2.1]; rfl)) h.2.2 ?_;exact Om (Oo k3 (Ok A hH)) k3.2.2 rJ
theorem Yd(hm:P.follows .mixedOrders=true)(hT:eI P T=some (1,false))(hK:cI P T=.str)(hI:tM P fi ix)(M:v_ T fi fp fH fq gh gS im fV){f:bC}{fn:Func}{r0 r1 r2 r3 r4 r5 r6 b0 b1:Nat}(hf:P.funcs[f]? = some fn)
  (hb:fn.body=some (y7 fp fH fq gh gS im fV r0 r1 r2 r3 r4 r5 r6 b0 b1)) (hn:fn.ntmps=25) (hr:fn.results=#[]) {l n m:Nat} {R:Nat->BY} (hsz:∀ k,k<=n->(R k).size<=1048576) (hn1:∀ k,k<n->0<(R k).size) (hn0:(R n).size=0)
  (J:Nat->List ah->ae->Prop) (b:Nat->List ah) (hJ:∀ k H E,J k H E->aG E/\E.H=H) (F:∀ k H E E',J k H E->E.eZ m E'->aG E'->J k E'.H E') (hid:id<m)
  (hbox:∀ k,k<=n->(b k)[id]? = some (.box [.lit (.string (R k))]))
  (hround:∀ k E (cs:Array ak),k<n->J k ((b k).set id (.box [.lit (.string (jJ ix (R k)))])) E->ar E [.lit (.string (jr ix (R k)))] cs.toList->YieldAt (fz none) 0 P l cs E.w fun e W'=>e=.returned (.bool true)/\∃ E',E'.w=W'/\J (k+1) (b (k+1)) E'/\E.eZ m E')
  {E0:ae} (h0:J 0 (b 0) E0) {c:ak} (hcp:ab E0 (.ptr id 0 wd 0 0) c):CallsIn (fz none) 0 P f #[.func (.yield l) #[] #[],c] E0.w fun e W'=>(∃ v,e=.returned v)/\∃ E',E'.w=W'/\J n (b n) E':=by
 refine callsIn_of_wp_marks hf hb trivial ?_;obtain⟨y,hy⟩:∃ y:AV,y=.lit (.func (.yield l) #[] #[]):=⟨_,rfl⟩
 obtain⟨W,hH0⟩:=hJ _ _ _ h0;have hs0:c9 ⟨iK y (.ptr id 0 wd 0 0) .undef .undef,b 0⟩ E0.j_ { tmps:=#[.func (.yield l) #[] #[],c]++Array.replicate (fn.ntmps-2) undef,defers:=[] }:=by
  refine⟨hH0,?_,uU _ _,W.iI (vq W)⟩;rw[hn];simp only[Array.toList_append,Array.toList_replicate];show ar E0.j_ ([y,.ptr id 0 wd 0 0]++dz 23 .undef) ([.func (.yield l) #[] #[],c]++dz 23 undef)
  refine nD (by simp only[ar]; exact⟨by rw[hy]; simp[ab],xY (vq W) _ hcp,trivial⟩) ?_;exact BS (dz 23 undef)
 refine wpIn_block (wpIn_loop_ghost (fun j a w=>∃ k E,j=n-k/\E.w=w/\k<=n/\J k (b k) E/\c9 ⟨iK y (.ptr id 0 wd 0 0) .undef .undef,b k⟩ E.j_ a) n ⟨0,E0,rfl,rfl,fO _,h0,hs0⟩ ?_);rintro _ a _ ⟨k,E,rfl,rfl,hkl,hj,hs⟩;obtain⟨s,z⟩:∃ s,R k=s:=⟨_,rfl⟩
 have hH:(b k)[id]? = some (.box [.lit (.string s)]):=by rw[<-z]; exact hbox k hkl
 have hss:s.size<=1048576:=by rw[<-z]; exact hsz k hkl
 obtain⟨o1,o2,o3,q,d,⟨g2,p2,d2⟩,⟨g3,⟨t3,t3',p3⟩,d3⟩⟩:=M.r0;refine wpIn_seq (wpIn_seq (wa (pf:=fun _=>false) hm (by simp) m hs (s':=⟨(((iK y (.ptr id 0 wd 0 0) .undef .undef).set 5 (.lit (.string s))).set 6 (.lit (.int .i64 (s.size:Nat)))).set 7 (.lit (.bool (decide ((s.size:Int)>0)))),b k⟩) ?_ fun N E2 hle2 hR2 I=>?_))
 ·rw [q]
  refine gC (v:=.lit (.string s)) (y4 d.1 (by rw[d.2.1]; rfl) (by rw[d.2.1]; exact y8 hT hH)) d.2.2 (gC (v:=.lit (.int .i64 (s.size:Nat))) (jI g2 (by rw[p2]; rfl) ?_) d2 (gC (v:=.lit (.bool (decide ((s.size:Int)>0)))) (jI g3 (by rw[p3]; rfl) ?_) d3 rJ))
  ·rw [p2]
   show BJ (cI P T) (.lit (.string s))=_
   rw[hK];rfl
  ·rw [p3]
   exact X9 (P:=P) (t:=t3) (k:=mv (Operand.tmp 6)||mv (Operand.const (.int .i64 0)))
 have X:=F _ _ _ _ hj hle2 hR2;have e2:E2.H=b k:=I.H;rw[e2]at X;have h7:N.eval (.tmp 7)=.bool (decide ((s.size:Int)>0)):=by
  have:=I.eval (.tmp 7);simpa[St.eval,iK,ab]using this
 have hs2':=rK (v:=.undef) (i:=.undef) I rfl rfl rfl (.inl rfl) (.inl rfl);by_cases hk:k<n
 ·have hpos : 0 < s.size := by rw [<- z]; exact hn1 k hk
  refine wpIn_cond_true (by rw[h7]; simp[hpos]) (wpIn_skip ?_);show (Code.block _ _).wpIn (fz none) 0 P _ _ _
  obtain⟨o1,q,d⟩:=M.r1;refine wpIn_block (wpIn_seq (wa (pf:=fun _=>false) hm (by simp) m hs2' (s':=⟨(iK y (.ptr id 0 wd 0 0) .undef .undef).set 3 (.lit (.string ⟨#[]⟩)),b k⟩) ?_ fun a3 E3 hle3 hR3 hs3=>?_))
  ·rw [q]
   exact gC (v:=.lit (.string ⟨#[]⟩)) (jI d.1 (by rw[d.2.1]; rfl) (by rw[d.2.1]; rfl)) d.2.2 rJ
  have hs3':=rK (v:=.undef) (i:=.undef) hs3 rfl rfl rfl (.inl rfl) (.inl rfl);have hj3:=F _ _ _ _ X hle3 hR3;show (Code.seq _ _).wpIn (fz none) 0 P _ _ _
  refine wpIn_seq (Yc hm hT hK hI M m hss hH hs3' fun a4 E4 hle4 hR4 hs4=>?_);have hj4:=F _ _ _ _ hj3 hle4 hR4;have e4:E4.H=(b k).set id (.box [.lit (.string (jJ ix (R k)))]):=by
   rw[z];exact hs4.H
  rw[e4]at hj4;show (Code.seq _ _).wpIn (fz none) 0 P _ _ _
  obtain⟨u1,u2,u3,u4,t7,fQ,O,U,V,⟨gc3,Y,dc3⟩,⟨gc4,pc4,dc4⟩⟩:=M.r6;refine wpIn_seq (wpIn_region ?_);have hsz6:fV.size=4:=by
   have:fV.toList.length=4:=by rw[O]; rfl
   simpa using this
  rw[hsz6];show wpOpsIn (fz none) 0 P fV _ (xg 0 2++[2,3]) a4 E4.w
  refine Oq (pf:=fun _=>false) (l:=[u1,u2]) (k:=0) m ?_ hs4 (s':=⟨((iK y (.ptr id 0 wd 0 0) (.lit (.string (jr ix s))) .undef).set 21 y).set 22 (.lit (.string (jr ix s))),(b k).set id (.box [.lit (.string (jJ ix s))])⟩) ?_ fun a5 B hle5 hR5 A=>?_
  ·intro j o g
   rw[HO O,Nat.zero_add]
   match j,g with
   |0,g=>exact g
   |1,g=>exact g
  ·exact gC (v:=y) (jI U.1 (by rw[U.2.1]; rfl) (by rw[U.2.1]; rfl)) U.2.2 (gC (v:=.lit (.string (jr ix s))) (jI V.1 (by rw[V.2.1]; rfl) (by rw[V.2.1]; rfl)) V.2.2 rJ)
  have hj5:=F _ _ _ _ hj4 hle5 hR5;have e5:B.H=(b k).set id (.box [.lit (.string (jJ ix (R k)))]):=by
   rw[z];exact A.H
  rw[e5]at hj5;have h21:a5.eval (.tmp 21)=.func (.yield l) #[] #[]:=by
   have:=A.eval (.tmp 21);rw[show St.eval _ (.tmp 21)=y from rfl,hy]at this;simpa only[ab]using this
  have hrel:ar B [.lit (.string (jr ix (R k)))] (#[a5.eval (.tmp 22)]:Array ak).toList:=by
   rw[z];simp only[ar];exact⟨xY (CS A.heap) _ (A.eval (.tmp 22)),trivial⟩
  obtain⟨fn',tmps',asg,bod,hy1,hRd⟩:=hround k B _ hk hj5 hrel;rw[wpOpsIn_cons];unfold wpOpIn;have h6:fV[2]? = some u3:=by rw[HO O]; rfl
  simp only[h6];rw[iP (by simp[Region.wanted,gc3])];refine⟨fun _ _=>trivial,?_⟩;rw[Oper.semAt_eq _ _ _ (fun c e=>by rw[Y]at e; cases e)];have hrun:(execOp a5.eval u3).run P B.w=.ok (.round l fn' tmps' asg bod) B.w:=by
   obtain⟨dst,op,type,pos,after,guard⟩:=u3;simp only[]at Y;subst Y;simp[execOp,resolve,h21,Tc,invoke,hy1]
  rw[hrun,Oper.uponIn_round];refine⟨fun h=>(by cases h),hRd.mono ?_⟩;rintro e _ ⟨rfl,E',rfl,hj',hleR⟩;show wpOpsIn (fz none) 0 P fV _ (xg 3 1++[]) _ E'.w
  rw[dc3];obtain⟨hR',hH'⟩:=hJ _ _ _ hj';have hd5:a5.defers=[]:=Of A.defers fun _ h=>h;have hp:=(rK (v:=.undef) (i:=.undef) A rfl rfl rfl (.inl rfl) (.inl rfl)).qd 23 (v:=.lit (.bool true)) (u:=.bool true) (by simp[ab]);have hs6:c9 ⟨(iK y (.ptr id 0 wd 0 0) .undef .undef).set 23 (.lit (.bool true)),b (k+1)⟩ E'.j_ (a5.put (some 23) (.bool true)):=by
   refine⟨hH',?_,by rw[put_defers,hd5]; exact uU _ _,hR'.iI (vq hR')⟩;have hx:ar B ((iK y (.ptr id 0 wd 0 0) .undef .undef).set 23 (.lit (.bool true))) (a5.put (some 23) (.bool true)).tmps.toList:=oG (CS A.heap) _ hp.fr;refine oG (vq hR') _ (tL hleR _ ?_ hx);rw[hy];simp[mL,mJ,iK,hid]
  refine Oq (pf:=fun _=>false) (l:=[u4]) (k:=3) m ?_ hs6 (s':=⟨((iK y (.ptr id 0 wd 0 0) .undef .undef).set 23 (.lit (.bool true))).set 24 (.lit (.bool false)),b (k+1)⟩) ?_ fun a7 E7 hle7 hR7 hs7=>?_
  ·intro j o g
   have hlt:j<1:=by simpa using aX g
   have:j=0:=by omega
   subst this;rw[HO O];exact g
  ·exact gC (v:=.lit (.bool false)) (jI gc4 (by rw[pc4]; rfl) (by rw[pc4]; rfl)) dc4 rJ
  ·show (Code.cond _ _ _).wpIn (fz none) 0 P _ _ _
   have h24:a7.eval (.tmp 24)=.bool false:=by
    have:=hs7.eval (.tmp 24);simpa[St.eval,iK,ab]using this
   refine wpIn_cond_false h24 (wpIn_skip ?_);have hj7:=F _ _ _ _ hj' hle7 hR7;have e7:E7.H=b (k+1):=hs7.H;rw[e7]at hj7;exact⟨n-(k+1),by omega,k+1,E7,rfl,rfl,by omega,hj7,rK (v:=.undef) (i:=.undef) hs7 rfl rfl rfl (.inl rfl) (.inl rfl)⟩
 ·have hkn : k = n := by omega
  subst hkn;have hz:s.size=0:=by rw[<-z]; exact hn0
  refine wpIn_cond_false (by rw[h7]; simp[hz]) (wpIn_exit ?_);simp only[Exit.then,Exit.inBlock,if_true];have hd:N.defers=[]:=Of I.defers fun _ h=>h;show LeavesInM (fz none) 0 P fn N.tmps _ N.defers .returning E2.w
  rw[hd];refine⟨.tuple #[],?_,⟨_,rfl⟩,E2,rfl,X⟩;rw[Gv,hr];simp
end ln
end Go.AL

namespace Go.AL
open Go
variable [Dr]
structure CY (P:ai) (m n:Nat) (ix:BY->Int) (R:Nat->BY) (id:Nat) (p0:Tmp) (assign body:Code) (S:Nat->St):Prop where
 na:gB assign=true
 nb:gB body=true
 fix:∀ k,k<=n->mL m (S k).fr=true
 box:∀ k,k<=n->(S k).H[id]? = some (.box [.lit (.string (R k))])
 round:∀ k,k<n->∃ s1 s2,dC P m assign ⟨(S k).fr.set p0 (.lit (.string (jr ix (R k)))),(S k).H.set id (.box [.lit (.string (jJ ix (R k)))])⟩ .normal s1/\dC P m body s1 .normal s2/\bD m ⟨(S k).fr,s2.H⟩ (S (k+1))
section ln
variable {P:ai} {m' n:Nat} {ix:BY->Int} {R:Nat->BY} {id:Nat} {p0:Tmp} {assign body:Code} {S:Nat->St}
theorem Ye(B:CY P m' n ix R id p0 assign body S){k:Nat}(hk:k<n){fn:bC}{D l:Nat}{a:Act}{tmps:Array ak}(htm:tmps=a.tmps){E:ae} (d:c9 ⟨(S k).fr,(S k).H.set id (.box [.lit (.string (jJ ix (R k)))])⟩ E a) (hX:E.X l)
  (I:E.w.heap[l]? = some (.loop { state:=.ready,pending:=none,fn,tmps,params:=#[p0],assign,body,defers:=D })) {J:Array ak} (hc:ar E [.lit (.string (jr ix (R k)))] J.toList) :
  YieldAt (fz none) 0 P l J E.w fun e W'=>e=.returned (.bool true)/\∃ E',E'.w=W'/\c9 (S (k+1)) E' a/\E.eZ m' E'/\E'.X l /\
   E'.w.heap[l]? = some (.loop { state:=.ready,pending:=none,fn,tmps,params:=#[p0],assign,body,defers:=D }):=by
 obtain⟨s1,s2,hA,hB,hle⟩:=B.round k hk;obtain⟨q,rfl⟩:∃ q,J=#[q]:=by
  have:=iC hc
  match h:J.toList,this with
  | [q],_=>exact⟨q,g_ (by simpa using h)⟩
 simp only[ar]at hc;obtain⟨hc0,_⟩:=hc;refine⟨_,_,_,_,run_yield I (by simp),roundIn_of_wpIn (F:=fz none) trivial ?_⟩;have W:l<E.w.heap.size:=(je.1 I).1;have hs0:c9 ⟨(S k).fr.set p0 (.lit (.string (jr ix (R k)))),(S k).H.set id (.box [.lit (.string (jJ ix (R k)))])⟩ E { tmps:=a.tmps.setIfInBounds p0 q,defers:=[] }:=by
  refine⟨d.H,?_,uU _ _,d.heap⟩;simp only[Array.toList_setIfInBounds];exact Gm p0 d.fr hc0
 have e0:((#[p0]:Array Tmp).zip #[q]).foldl (fun tmps (t,a)=>tmps.setIfInBounds t a) tmps=a.tmps.setIfInBounds p0 q:=by
  rw[htm];simp[<-Array.foldl_toList]
 rw[e0];refine wpIn_mono (hA (some l) (.inr B.na) E _ hs0) fun e a1 v ⟨he,loc1,X1,Y,z⟩=>?_;subst he;have hno:¬ E.bN l:=d.heap.xz hX;have hl1:v.heap[l]? = some (.loop { state:=.ready,pending:=none,fn,tmps,params:=#[p0],assign,body,defers:=D }):=by rw[z.same l W hno]; exact I
 have hX1:X1 l:=(z.X l W).1.2 hX;have O:l<v.heap.size:=(je.1 hl1).1;refine⟨_,run_beginRound hl1 rfl,?_⟩;have hs1':=Y.iI (HP (o:=.loop { state:=.busy,pending:=none,fn,tmps,params:=#[p0],assign,body,defers:=D }) hX1 Y.heap) (Og Y.defers hl1);refine wpIn_mono (hB (some l) (.inr B.nb) _ a1 hs1') fun e a2 w3 ⟨he,U,M,hs2,V⟩=>?_;subst he;have hno1:¬ ae.bN { w:=v,H:=s1.H,ad:=loc1,X:=X1 } l:=z.bN l W hno;have hl3:w3.heap[l]? = some (.loop { state:=.busy,pending:=none,fn,tmps,params:=#[p0],assign,body,defers:=D }):=by
  rw[V.same l (by show l<(v.putObj _ _).heap.size; simpa using O) hno1];exact aj_ O
 have hX2:M l:=(V.X l (by show l<(v.putObj _ _).heap.size; simpa using O)).1.2 hX1;have hlt3:l<w3.heap.size:=(je.1 hl3).1;refine⟨_,_,run_endRound (P:=P) none hl3,rfl,?_⟩;obtain⟨g,A⟩:∃ g,w3.putObj l (.loop { state:=.ready,pending:=none,fn,tmps,params:=#[p0],assign,body,defers:=D })=g:=⟨_,rfl⟩
 have hl4:g.heap[l]? = some (.loop { state:=.ready,pending:=none,fn,tmps,params:=#[p0],assign,body,defers:=D }):=by
  rw[<-A];exact aj_ hlt3
 have N:E.eZ m' { w:=g,H:=s2.H,ad:=U,X:=M }:=by
  refine ae.qh.toM (l:=l) (z.toX.trans (HQ.trans (V.toX.trans ?_))) (fun _=>by rw[show ae.w _=g from rfl,hl4,I]);rw[<-A];exact HQ
 have hR4:aG { w:=g,H:=s2.H,ad:=U,X:=M }:=by
  rw[<-A];exact hs2.heap.iI (HP hX2 hs2.heap)
 have hsr:c9 ⟨(S k).fr,s2.H⟩ { w:=g,H:=s2.H,ad:=U,X:=M } a:=by
  refine⟨rfl,tL N _ (B.fix k (by omega)) d.fr,FA d.defers (fun b y h2=>?_) (fun b y _=>N.same b (d.heap.X b y) (d.heap.xz y)),hR4⟩;have:=N.X b (d.heap.X b y);exact⟨this.1.2 y,this.2.2 h2⟩
 obtain⟨loc7,X7,hs7,hle7⟩:=hle _ a hsr;refine⟨{ w:=g,H:=(S (k+1)).H,ad:=loc7,X:=X7 },?_,hs7,N.trans hle7,(hle7.X l (by show l<g.heap.size; exact(je.1 hl4).1)).1.2 hX2,hl4⟩;rw[<-A];rfl
theorem Yf(hm:P.follows .mixedOrders=true){T:aD}{fi:bC}{fp fH fq gh gS im fV:Array aQ}{wd m:Nat}(hT:eI P T=some (1,false))(hK:cI P T=.str)(hI:tM P fi ix)(ho:v_ T fi fp fH fq gh gS im fV){f:bC}{fd:Func}{r0 r1 r2 r3 r4 r5 r6 b0 b1:Nat}
  (hf:P.funcs[f]? = some fd) (hbd:fM P f=true) (t:fd.body=some (y7 fp fH fq gh gS im fV r0 r1 r2 r3 r4 r5 r6 b0 b1)) (hn:fd.ntmps=25) (hre:fd.results=#[]) (hsz:∀ k,k<=n->(R k).size<=1048576) (hn1:∀ k,k<n->0<(R k).size) (hn0:(R n).size=0)
  (hmm:m<=m') (hid:id<m') (hr:CY P m' n ix R id p0 assign body S) {g:Tmp} (hg:(S 0).eval (.tmp g)=.clo f [.ptr id 0 wd 0 0])
  (E:ae) (a:Act) (B:c9 (S 0) E a):(Code.rangeFunc (.tmp g) #[p0] assign body).wpIn (fz none) 0 P (fun e a1 q=>e=.normal/\fU m E (S n) a1 q) a E.w:=by
 have V:=B.eval (.tmp g);rw[hg]at V;simp only[ab]at V;obtain⟨cs,V,hcs⟩:=V;obtain⟨c,rfl⟩:∃ c,cs=#[c]:=by
  have:=iC hcs
  match h:cs.toList,this with
  | [c],_=>exact⟨c,g_ (by simpa using h)⟩
 have hcp:ab E (.ptr id 0 wd 0 0) c:=by
  have h:ar E [.ptr id 0 wd 0 0] [c]:=hcs;simp only[ar]at h;exact h.1
 obtain⟨D,hD⟩:∃ D,E.w.heap.size=D:=⟨_,rfl⟩
 refine wpIn_rangeFunc ?_;intro fn _;obtain⟨N,M⟩:∃ N:Loop,N={ state:=.ready,pending:=none,fn,tmps:=a.tmps,params:=#[p0],assign,body,defers:=D }:=⟨_,rfl⟩
 obtain⟨q,W⟩:∃ q,(E.w.alloc (.deferred (some []))).alloc (.loop N)=q:=⟨_,rfl⟩
 have hsz1:q.heap.size=D+2:=by rw[<-W,Fh,Fh,hD]
 have hl1:q.heap[D+1]? = some (.loop N):=by
  rw[<-W];have:=aj' (E.w.alloc (.deferred (some []))) (.loop N)
  rwa [Fh,hD]at this
 have hold2:∀ b,b<D+1->q.heap[b]? = (E.w.alloc (.deferred (some []))).heap[b]? := fun b t=>by
  rw[<-W];show ((E.w.alloc (.deferred (some []))).heap.push _)[b]? = _
  rw[JP,iN (by rw[Fh,hD]; omega)]
 have hD1:q.heap[D]? = some (.deferred (some [])):=by
  rw[hold2 D (by omega)];have:=aj' E.w (.deferred (some []))
  rwa [hD]at this
 have hold:∀ b,b<D->q.heap[b]? = E.w.heap[b]? := fun b t=>by
  rw[hold2 b (by omega)];show (E.w.heap.push _)[b]? = _
  rw[JP,iN (by omega)]
 have hos:eO E.w q:=by rw[<-W]; exact⟨rfl,rfl,rfl,by first|exact fun _=>Nat.le_refl _|exact fun _=>Nat.le_add_right _ _⟩
 obtain⟨y,A⟩:∃ y:XS,y=⟨fun b=>E.X b\/b=D\/b=D+1,fun b=>E.X.z b\/b=D,E.X.r⟩:=⟨_,rfl⟩
 obtain⟨mk,hmk⟩:∃ mk:Deferred,mk={ target:=.collected D,args:=#[] }:=⟨_,rfl⟩
 have iI:lM E { w:=q,H:=E.H,ad:=E.ad,X:=y } :=
  ⟨rfl, rfl, by show E.w.heap.size <= q.heap.size; omega, fun b t hx => by
   have t:b<D:=by rw[<-hD]; exact t
   refine⟨fun h=>?_,hold b t⟩;rw[A]at h;rcases h with h|h|h
   ·exact hx h
   ·omega
   ·omega,fun b t=>by
   show b<q.heap.size
   rw[A]at t;rcases t with h|h|h
   ·have := B.heap.X b h
    omega
   ·omega
   ·omega,by show y.r=E.X.r; rw[A]⟩
 have hs2:c9 (S 0) { w:=q,H:=E.H,ad:=E.ad,X:=y } { a with defers:=mk::a.defers }:=by
  refine⟨B.H,oG iI _ B.fr,⟨?_,fun d hd=>?_⟩,B.heap.iI iI⟩
  ·refine List.nodup_cons.2 ⟨fun h => ?_, B.defers.1⟩
   obtain⟨U,e,F,I,_⟩:=B.defers.2 mk h;have:=B.heap.X U I;rw[hmk]at e;have e:D=U:=by
    have e:=congrArg Deferred.target e;simpa using e
   omega
  ·rcases List.mem_cons.1 hd with rfl | hd
   ·exact⟨D,hmk,hD1,by rw[A]; exact .inr (.inl rfl),by rw[A]; exact .inr rfl⟩
   ·obtain ⟨U, e, F, I, h3⟩ := B.defers.2 d hd
    have:=B.heap.X U I;exact⟨U,e,by rw[show ae.w _=q from rfl,hold U (by omega)]; exact F,by rw[A]; exact .inl I,by rw[A]; exact .inl h3⟩
 have hle2:E.eZ m { w:=q,H:=E.H,ad:=E.ad,X:=y }:=by
  refine⟨fun _ _ h=>h,by show E.w.heap.size<=q.heap.size; omega,fun b t _=>hold b (by rw[<-hD]; exact t),fun b _ h ho=>h ((iI.bN b).1 ho),fun _ _ _ h=>⟨h,rfl⟩,fun b t=>?_,fun l h hh=>by show h<(y.r l).length/\_; rw[A]; exact⟨hh,fun _ hq=>hq⟩,hos,fun _ _ _ o F I _=>⟨⟨[],by show y.r _=_; rw[A,List.append_nil]⟩,o,F,I⟩⟩;have t:b<D:=by rw[<-hD]; exact t
  show (y b↔E.X b)/\(y.z b↔E.X.z b)
  rw[A];exact⟨⟨fun h=>by rcases h with h|h|h; exact h; omega; omega,.inl⟩,⟨fun h=>by rcases h with h|h; exact h; omega,.inl⟩⟩
 have hX3:y (D+1):=by rw[A]; exact .inr (.inr rfl)
 refine⟨D+1,[mk],q,{ target:=.fn (.func f) #[c],args:=#[.func (.yield (D+1)) #[] #[]] },q,f,#[.func (.yield (D+1)) #[] #[],c],q,?_,?_,fun _ _=>trivial,?_,fun h=>(by cases h),?_⟩
 ·rw [<- W, M, hmk, <- hD]
  exact run_enterLoop_outer _ _ _ _ _
 ·have hcst : a.eval (.const (.func (.yield (D + 1)) #[] #[])) = .func (.yield (D + 1)) #[] #[] := rfl
  simp[resolve,V,hcst,Tc]
 ·simp[invoke,Lu hbd]
 ·have hcall:=Yd (P:=P) (m:=m') hm hT hK hI ho hf t hn hre (l:=D+1) hsz hn1 hn0 (fun k H E'=>c9 ⟨(S k).fr,H⟩ E' { a with defers:=mk::a.defers }/\mL m' (S k).fr=true/\E.eZ m E'/\E'.X (D+1)/\E'.w.heap[D+1]? = some (.loop N)) (fun k=>(S k).H)
   (fun k H E' h=>⟨h.1.heap,h.1.H⟩) (fun k H E1 E2 h O hR=>?_) hid hr.box (fun k E' cs hk h hc=>?_) (E0:={ w:=q,H:=E.H,ad:=E.ad,X:=y }) (c:=c) (wd:=wd) ⟨hs2,hr.fix 0 (fO _),hle2,hX3,hl1⟩ (xY iI _ hcp)
  ·refine hcall.mono fun e w3 ⟨⟨v, hv⟩, E4, hw4, hs4, _, hle4, hX4, hl4⟩ => ?_
   subst hv;subst hw4;obtain⟨w4,H4,loc4,X4⟩:=E4;have hH4:H4=(S n).H:=hs4.H;subst hH4;have hend:=run_endLoop (P:=P) hl4 (by rw[M]; simp);refine⟨_,_,hend,?_⟩;rw[M];refine⟨rfl,loc4,X4,?_,?_⟩
   ·rw [<- M]
    exact hs4.iI (HP hX4 hs4.heap) (Og hs4.defers hl4)
   ·exact(hle4.toX.trans HQ).toM (l:=D+1) (fun h=>absurd h (by omega))
  ·obtain ⟨J, gf, g2, g3, Y⟩ := h
   have hlt:D+1<E1.w.heap.size:=(je.1 Y).1;refine⟨⟨rfl,tL O _ gf J.fr,FA J.defers (fun b F I=>?_) (fun b F _=>O.same b (J.heap.X b F) (J.heap.xz F)),hR⟩,gf,g2.trans (O.mono hmm),(O.X _ hlt).1.2 g3,?_⟩
   ·have := O.X b (J.heap.X b F)
    exact⟨this.1.2 F,this.2.2 I⟩
   ·rw [O.same (D + 1) hlt (J.heap.xz g3)]
    exact Y
  ·obtain ⟨J, gf, g2, g3, Y⟩ := h
   rw[M]at Y;obtain⟨fn',tm,as,bo,k1,k2⟩:=Ye hr hk rfl J g3 Y hc;refine⟨fn',tm,as,bo,k1,k2.mono fun e W' ⟨he,E'',hw,q1,q2,q3,q4⟩=>⟨he,E'',hw,⟨q1,hr.fix (k+1) (by omega),g2.trans (q2.mono hmm),q3,by rw[M]; exact q4⟩,q2⟩⟩
theorem Yg(hm:P.follows .mixedOrders=true){T:aD}{fi:bC}{fp fH fq gh gS im fV:Array aQ}{wd m:Nat}(B:eI P T=some (1,false))(F:cI P T=.str)(I:tM P fi ix)(J:v_ T fi fp fH fq gh gS im fV){f:bC}{b:Func}{r0 r1 r2 r3 r4 r5 r6 M N:Nat}
  (O:P.funcs[f]? = some b) (d:fM P f=true) (U:b.body=some (y7 fp fH fq gh gS im fV r0 r1 r2 r3 r4 r5 r6 M N)) (V:b.ntmps=25) (q:b.results=#[]) (t:∀ k,k<=n->(R k).size<=1048576) (v:∀ k,k<n->0<(R k).size) (w:(R n).size=0)
  (y:m<=m') (z:id<m') (W:CY P m' n ix R id p0 assign body S) {g:Tmp} (X:(S 0).eval (.tmp g)=.clo f [.ptr id 0 wd 0 0]):dC P m (.rangeFunc (.tmp g) #[p0] assign body) (S 0) .normal (S n):=fun Y A E a hs=>by
 obtain rfl:Y=none:=A.resolve_right (by simp[gB]);exact wpIn_mono (Yf hm B F I J O d U V q t v w y z W X E a hs) fun e a1 w1 ⟨he,h⟩=>⟨he,h⟩
end ln
end Go.AL

namespace Go.AL
open Go
variable [Dr]
variable {P:ai} {τ:aJ} {L:LT} {m:Nat}
structure CZ where
 f:bC
 T:aD
 fi:bC
def C0(P:ai)(i:CZ):Prop:=∃ a fp fH fq gh gS im fV r0 r1 r2 r3 r4 r5 r6 b d,P.funcs[i.f]? = some a/\fM P i.f=true/\a.body=some (y7 fp fH fq gh gS im fV r0 r1 r2 r3 r4 r5 r6 b d)/\a.ntmps=25/\a.results=#[]/\v_ i.T i.fi fp fH fq gh gS im fV/\eI P i.T=some (1,false)/\cI P i.T=.str
theorem Yh{P:ai}{i:CZ}{a:Func}{fp fH fq gh gS im fV:Array aQ}{r0 r1 r2 r3 r4 r5 r6 b d:Nat}(g:P.funcs[i.f]? = some a)(h:fM P i.f=true)(k:a.body=some (y7 fp fH fq gh gS im fV r0 r1 r2 r3 r4 r5 r6 b d))(q:a.ntmps=25)(t:a.results=#[])
  (v:v_ i.T i.fi fp fH fq gh gS im fV) (w:eI P i.T=some (1,false)) (y:cI P i.T=.str):C0 P i :=
 ⟨a,_,_,_,_,_,_,_,_,_,_,_,_,_,_,_,_,g,h,k,q,t,v,w,y⟩
structure wb where
 inv:nU
 ps:List j7
 opens:List (Nat × List Kd)
 id:Nat
 p0:Tmp
 rest:LG->BY
 init:LG->LG
 side:LG->Bool
 st:BY->BY->LG->Option LG
def rL(ix:BY->Int)(rest:LG->BY)(st:BY->BY->LG->Option LG):Nat->LG->Option LG
 |0,_=>none
 |n+1,d=>bif aH (rest d).size 0 then some d else bif bf (rest d).size 1048576 then (st (jr ix (rest d)) (jJ ix (rest d)) d).bind (rL ix rest st n) else none
theorem Ot{ix:BY->Int}{rest:LG->BY}{st:BY->BY->LG->Option LG}:∀(N:Nat) (d b:LG),rL ix rest st N d=some b ->
  ∃(n:Nat) (f:Nat->LG),f 0=d/\f n=b/\(rest (f n)).size=0/\∀ k,k<n->0<(rest (f k)).size/\(rest (f k)).size<=1048576/\st (jr ix (rest (f k))) (jJ ix (rest (f k))) (f k)=some (f (k+1))
 |0,_,_,h=>by cases h
 | N+1,d,b,h=>by
  simp only[rL]at h;cases a:aH (rest d).size 0 with
  | true =>
   rw[a]at h;cases h;exact⟨0,fun _=>d,rfl,rfl,Nat.eq_of_beq_eq_true a,fun k t=>by omega⟩
  | false =>
   rw[a]at h;simp only[cF]at h;have v:0<(rest d).size:=Nat.pos_of_ne_zero fun e=>by rw[e]at a; cases a
   cases g:bf (rest d).size 1048576 with
   |false=>rw[g]at h; cases h
   | true =>
    rw[g]at h;simp only[cT]at h;cases q:st (jr ix (rest d)) (jJ ix (rest d)) d with
    |none=>rw[q]at h; cases h
    | some w =>
     rw[q]at h;obtain⟨n,f,y,z,A,B⟩:=Ot N w b h;refine⟨n+1,fun j=>match j with|0=>d|j+1=>f j,rfl,z,A,fun k t=>?_⟩;cases k with
     | zero =>
      refine⟨v,qL g,?_⟩;show st _ _ d=some (f 0)
      rw[y];exact q
     |succ k=>exact B k (by omega)
def y9(ix:BY->Int)(sp:wb)(a:LG->Option (Option Nat × LG))(d:LG):Option (Option Nat × LG) :=
 bif sp.side d then (rL ix sp.rest sp.st 1048577 (sp.init d)).bind a else none
def C1(P:ai)(τ:aJ)(L:LT)(sp:wb)(assign body:Code):Prop :=
 ∀(h r:BY) (d:LG),(fD P τ L assign ⟨(cW sp.inv d).fr.set sp.p0 (.lit (.string h)),(cW sp.inv d).H.set sp.id (.raw (.box [.lit (.string r)]))⟩ fun x s1=>match x with
  | .normal=>fD P τ L body s1 fun x s2=>match x with
   |.normal=>.done .normal ⟨(cW sp.inv d).fr,s2.H⟩
   |_=>.fail
  |_=>.fail).leaf (Oc sp.inv.bU.length sp.inv (Oj sp.inv.bU.length))=sp.st h r d
theorem Yi(hm:P.follows .mixedOrders=true)(k:aL P τ){sp:wb}{assign body:Code}(q:ba P sp.inv.bU.length L assign)(t:ba P sp.inv.bU.length L body)(v:C1 P τ L sp assign body){h r:BY}{d b:LG}(he:sp.st h r d=some b) :
  ∃ s1 s2:aI,dC P sp.inv.bU.length assign ⟨(cW sp.inv d).fr.set sp.p0 (.lit (.string h)),(cW sp.inv d).aw.H.set sp.id (.box [.lit (.string r)])⟩ .normal s1.aw/\dC P sp.inv.bU.length body s1.aw .normal s2.aw /\
   bD sp.inv.bU.length ⟨(cW sp.inv d).fr,s2.aw.H⟩ (cW sp.inv b).aw:=by
 rw[<-v h r d]at he;have he:=rB he;obtain⟨x,s1,w,g⟩:=kZ hm k (m:=sp.inv.bU.length) assign _ _ q he;cases x with
 |exit _=>exact g.elim
 |ret=>exact g.elim
 | normal =>
  obtain⟨x,s2,y,a⟩:=kZ hm k (m:=sp.inv.bU.length) body _ _ t g;cases x with
  |exit _=>exact a.elim
  |ret=>exact a.elim
  | normal =>
   have a:Oc sp.inv.bU.length sp.inv (Oj sp.inv.bU.length) .normal ⟨(cW sp.inv d).fr,s2.H⟩=some (true,b):=a;refine⟨s1,s2,?_,y,p_ (s:=⟨(cW sp.inv d).fr,s2.H⟩) a⟩;have e:(⟨(cW sp.inv d).fr.set sp.p0 (.lit (.string h)),(cW sp.inv d).aw.H.set sp.id (.box [.lit (.string r)])⟩:St)=(⟨(cW sp.inv d).fr.set sp.p0 (.lit (.string h)),(cW sp.inv d).H.set sp.id (.raw (.box [.lit (.string r)]))⟩:aI).aw:=by
    show (⟨_,(ax (cW sp.inv d).H).set sp.id _⟩:St)=⟨_,ax ((cW sp.inv d).H.set sp.id _)⟩
    rw[cP];rfl
   rw[e];exact w
theorem Yj(hm:P.follows .mixedOrders=true)(J:aL P τ){i:CZ}(hi:C0 P i){ix:BY->Int}(hI:tM P i.fi ix){sp:wb}{rest r3 assign body:Code}{q t:bS}{b:Nat}{g:Tmp}{wd:Nat}{A:LT}
  (hLa:ba P sp.inv.bU.length A assign) (hLb:ba P sp.inv.bU.length A body) (hr:C1 P τ A sp assign body) (hL3:ba P m L r3) (w:(gB assign&&gB body)=true) (a:(bf m sp.inv.bU.length&&Nat.blt sp.id sp.inv.bU.length)=true)
  {pre:LG->aI} (hy:∀ d,(fD P τ L r3 (cW q.inv d) .done).qg=some (.normal,pre d)) (hg:∀ d,(cW sp.inv d).fr.getD g .undef=.clo i.f [.ptr sp.id 0 wd 0 0]) (hid:∀ d,(cW sp.inv d).H[sp.id]? = some (.raw (.box [.lit (.string (sp.rest d))])))
  (hin:∀ d,oL m sp.inv sp.ps (mG sp.opens (pre d))=some (sp.side d,sp.init d)) (X:∀ d,mL sp.inv.bU.length (cW sp.inv d).fr=true)
  (Y:t.inv=sp.inv) (V:t.outs=q.outs) (W:yZ P m rest t) (hst:∀ d,q.st d=y9 ix sp t.st d) :
  yZ P m (.seq (.seq r3 (.block b (.rangeFunc (.tmp g) #[sp.p0] assign body))) rest) q:=by
 intro d x M h;rw[hst]at h;unfold y9 at h;cases y:sp.side d with
 |false=>rw[y]at h; cases h
 | true =>
  rw[y]at h;simp only[cT]at h;simp only[Bool.and_eq_true]at a w;obtain⟨hk1,z⟩:=a;have z:sp.id<sp.inv.bU.length:=by simpa[Nat.blt_eq]using z
  cases B:rL ix sp.rest sp.st 1048577 (sp.init d)with
  |none=>rw[B]at h; cases h
  | some F =>
   rw[B]at h;have h:t.st F=some (some x,M):=h;obtain⟨o,ho1,hsat⟩:=W F x M h;refine⟨o,by rw[<-V]; exact ho1,?_⟩;obtain⟨x3,s3,h3,h4⟩:=kZ hm J r3 (cW q.inv d) .done hL3 (yY (hy d));obtain⟨rfl,rfl⟩:=h4;obtain⟨n,f,f0,f1,fz,I⟩:=Ot _ _ _ B;obtain⟨fd,fp,fH,fq,gh,gS,im,fV,r0,r1,r2,r3',r4,r5,r6,b0,b1,q1,q2,q3,q4,q5,q6,q7,q8⟩:=hi;have hR:CY P sp.inv.bU.length n ix (fun k=>sp.rest (f k)) sp.id sp.p0 assign body (fun k=>(cW sp.inv (f k)).aw):=by
    refine⟨w.1,w.2,fun k _=>X (f k),fun k _=>bx (hid (f k)),fun k a=>?_⟩;obtain⟨s1,s2,g1,g2,g3⟩:=Yi hm J hLa hLb hr (I k a).2.2;exact⟨s1.aw,s2.aw,g1,g2,g3⟩
   have v:=Yg (m:=m) (m':=sp.inv.bU.length) (P:=P) (wd:=wd) hm q7 q8 hI q6 q1 q2 q3 q4 q5 (fun k a=>by
     rcases Nat.lt_or_eq_of_le a with a|rfl
     ·exact(I k a).2.1
     ·show (sp.rest (f k)).size <= _
      rw[fz];omega) (fun k a=>(I k a).1) fz (qL hk1) z hR (g:=g) (hg _)
   have N:=hin d;rw[y]at N;have O:=(qa (m:=m) sp.opens (pre d)).trans (p_ N);rw[<-f0]at O;have v:=s_ O v;rw[f1]at v;have U:dC P m (.block b (.rangeFunc (.tmp g) #[sp.p0] assign body)) (pre d).aw .normal (cW sp.inv F).aw:=LR (x:=.normal) v;rw[<-Y]at U;exact BQ (BQ h3 U) hsat
theorem ba.Yk(hm:P.follows .mixedOrders=true)(k:aL P τ){i:CZ}(hi:C0 P i){ix:BY->Int}(N:tM P i.fi ix){fn:Func}{sp:wb}{q qr:bS}{b:Nat}{g:Tmp}{wd:Nat}{L0:LT}
  (O:qb q.key (cB (bp fn))=true) (U:ba P m L (bp fn)) (a:∀ m c,ba P m L0 c)
  (t:ij fn q.key=.seq (.seq (HR (ij fn q.key)) (.block b (.rangeFunc (.tmp g) #[sp.p0] (CU (ij fn q.key)) (CV (ij fn q.key))))) (Od (ij fn q.key)))
  (V:C1 P τ L0 sp (CU (ij fn q.key)) (CV (ij fn q.key))) (A:(gB (CU (ij fn q.key))&&gB (CV (ij fn q.key)))=true) (W:(bf m sp.inv.bU.length&&Nat.blt sp.id sp.inv.bU.length)=true)
  {pre:LG->aI} (X:∀ d,(fD P τ L (HR (ij fn q.key)) (cW q.inv d) .done).qg=some (.normal,pre d)) (Y:∀ d,(cW sp.inv d).fr.getD g .undef=.clo i.f [.ptr sp.id 0 wd 0 0]) (B:∀ d,(cW sp.inv d).H[sp.id]? = some (.raw (.box [.lit (.string (sp.rest d))])))
  (F:∀ d,oL m sp.inv sp.ps (mG sp.opens (pre d))=some (sp.side d,sp.init d)) (y:∀ d,mL sp.inv.bU.length (cW sp.inv d).fr=true)
  (z:qr.inv=sp.inv) (v:qr.outs=q.outs) (w:tH P τ L m (Od (ij fn q.key)) qr) (I:∀ d,q.st d=y9 ix sp qr.st d) :
  ba P m (L.mH m q) (bp fn):=by
 refine ba.XV O U fun h=>?_;rw[t]at h;obtain⟨J,M⟩:=X8 h;rw[t];exact Yj hm k hi N (a _ _) (a _ _) V J A W X Y B F y z v (w.sat hm k M) I
end Go.AL
