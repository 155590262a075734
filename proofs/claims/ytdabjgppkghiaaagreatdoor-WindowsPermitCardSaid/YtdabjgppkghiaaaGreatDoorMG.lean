/-
 What is proved here: the function that slices.Backward hands back,called with a round's body: the rounds come from the last row to the first one. No program in sight; no condition.
-/
import Derived.Test.YtdabjgppkghiaaaGreatDoorMD
import Derived.Test.YtdabjgppkghiaaaGreatDoorMC
import Derived.Lib.LaidTab
import Derived.Sort.Grow
import Derived.Deep.Draws
set_option linter.all false
open Array renaming getElem?_push→sZ,ext'→ed,getElem?_eq_some_iff→dM
open Bool renaming and_eq_true→aq
open Go.Deferred renaming ofValue→La
open Go.Exit renaming inBlock→xh
open Go.MapKept renaming heap_set→CI
open Go.World renaming putObj_heap_other→CE,putObj_heap_same→Xt,size_alloc→CJ,alloc_heap_new→Xu
open List renaming append_nil→cV,append_assoc→gq,getElem?_append_left→cn,getElem?_eq_getElem→bC,mem_of_getElem?→dK,all_eq_true→cC,getD_eq_getElem?_getD→cD,mem_cons→bN,getElem?_of_mem→lq,replicate→cu,mem_cons_self→cW,range'→tk,range→dV,mem_range→e_,range_eq_range'→CD,getElem_mem→pY
open List.Perm renaming append_left→Xs,refl→pZ
open Nat renaming le_refl→aB,le_add_right→dT,lt_of_lt_of_le→cM,zero_le→fI,beq→ah,eq_of_beq_eq_true→aR,blt→eg,blt_eq→fJ,le_of_ble_eq_true→pX,lt_irrefl→n5
open Option renaming isSome_iff_exists→nR,bind_some→tx
open Option.some renaming injEq→aK
open Prod.mk renaming injEq→aN
namespace Go.AL
open Go
variable [Dr]
theorem zU{P:Program}{pf:FuncId→Bool}{ops:Array Oper}{o:Oper}{s:St}{v:AV}(a:o.guard=none)(b:b8 pf o.op=.read)(h:dF P s.eval s.H o.op=some v):Yields P pf ops o s v s.H:=by
 unfold Yields;rw[show bz ops s.fr o=some true from by unfold bz; rw[a]];simp only[b];exact⟨trivial,h⟩
theorem iE{P:Program}{pf:FuncId→Bool}{ops:Array Oper}{o:Oper}{s:St}{v:AV}(a:o.guard=none)(b:b8 pf o.op=.pure)(h:fO P s.eval o.op=some v):Yields P pf ops o s v s.H:=by
 unfold Yields;rw[show bz ops s.fr o=some true from by unfold bz; rw[a]];simp only[b];exact⟨trivial,.inl h⟩
structure rK (S T:TypeId) (aH be aL dB:Array Oper):Prop where
 r0:∃ o1 o2 o3 o4 t t',aH.toList=[o1,o2,o3,o4]∧(o1.guard=none∧o1.op=.load S (.tmp 1)∧o1.dst=some 4)∧(o2.guard=none∧o2.op=.call { callee:=.builtin .len,args:=#[.tmp 4],argTypes:=#[S] }∧o2.dst=some 5) ∧
  (o3.guard=none∧o3.op=.binOp .sub t (.tmp 5) (.const (.int .i64 1)) t'∧o3.dst=some 6)∧(o4.guard=none∧o4.op=.assign (.tmp 6)∧o4.dst=some 3)
 r1:∃ o1 o2 t t',be.toList=[o1,o2]∧(o1.guard=none∧o1.op=.move (.tmp 3)∧o1.dst=some 7)∧(o2.guard=none∧o2.op=.binOp .geq t (.tmp 7) (.const (.int .i64 0)) t'∧o2.dst=some 8)
 r2:∃ o1 o2 o3 t t',aL.toList=[o1,o2,o3]∧(o1.guard=none∧o1.op=.move (.tmp 3)∧o1.dst=some 9)∧(o2.guard=none∧o2.op=.binOp .sub t (.tmp 9) (.const (.int .i64 1)) t'∧o2.dst=some 10)∧(o3.guard=none∧o3.op=.assign (.tmp 10)∧o3.dst=some 3)
 r3:∃ o1 o2 o3 o4 o5 o6 o7 o8 t tys,dB.toList=[o1,o2,o3,o4,o5,o6,o7,o8]∧(o1.guard=none∧o1.op=.move (.tmp 0)∧o1.dst=some 11)∧(o2.guard=none∧o2.op=.move (.tmp 3)∧o2.dst=some 12)∧(o3.guard=none∧o3.op=.load S (.tmp 1)∧o3.dst=some 13) ∧
  (o4.guard=none∧o4.op=.move (.tmp 3)∧o4.dst=some 14)∧(o5.guard=none∧o5.op=.indexAddr S (.tmp 13) (.tmp 14)∧o5.dst=some 15)∧(o6.guard=none∧o6.op=.load T (.tmp 15)∧o6.dst=some 16) ∧
  (o7.guard=none∧o7.op=.call { callee:=.value (.tmp 11),args:=#[.tmp 12,.tmp 16],argTypes:=tys }∧o7.dst=some 17)∧(o8.guard=none∧o8.op=.unOp .not t (.tmp 17)∧o8.dst=some 18)
def rL(aH be aL dB:Array Oper)(r0 r1 r2 r3 b0 b1:Nat):Code :=
 .seq (.region r0 aH false) (.block b0 (.loop (.seq (.seq (.region r1 be false) (.cond (.tmp 8) .skip (.exit b0))) (.seq (.block b1 (.seq (.region r3 dB false) (.cond (.tmp 18) .ret .skip))) (.region r2 aL false)))))
def iF(y cp:AV)(i:AV):List AV:=[y,cp,.undef,i,.undef,.undef,.undef,.undef,.undef,.undef,.undef,.undef,.undef,.undef,.undef,.undef,.undef,.undef,.undef]
structure vR (P:Program) (S T:TypeId) (sl:AV) (n:Nat) (rv:Nat→AV):Prop where
 load:∀ H,fW P S (.cptr [sl]) H=some sl
 len:uh (bJ P S) sl=some (.lit (.int .i64 (n:Nat)))
 idx:∀ i:Int,0≤i→i<n→∃ cells,jn (bJ P S) sl (.lit (.int .i64 i))=some (.cptr cells)∧∀ H,fW P T (.cptr cells) H=some (rv i.toNat)
 cl:AV.aV [sl]=true
end Go.AL
namespace Go.AL
open Go
variable [Dr]
section bw
variable {P:Program} {pf:FuncId→Bool} {S T:TypeId} {sl:AV} {n:Nat} {rv:Nat→AV} {aH be aL dB:Array Oper}
theorem Gr{E:Env}:∀{as d:List AV} {vs:List Value},ae E as vs→as.length=d.length→(∀(i:Nat) (b:AV),d[i]? = some b→b=.undef∨as[i]? = some b)→ae E d vs
 | [],[],[],_,_,_=>by simp[ae]
 | [],[],_::_,h,_,_=>by simp[ae]at h
 |_::_,[],_,_,h,_=>by simp at h
 | [],_::_,_,_,h,_=>by simp at h
 |_::_,_::_,[],h,_,_=>by simp[ae]at h
 | a::as,b::d,v::vs,h,g,hm=>by
  simp only[ae]at h⊢;refine⟨?_,Gr h.2 (by simpa using g) fun i k l=>hm (i+1) k (by simpa using l)⟩;rcases hm 0 b rfl with rfl|e
  ·simp[rel]
  ·have e : a = b := by simpa using e
   rw[←e];exact h.1
def Env.fH(E:Env):Env:={ E with X:=⟨E.X.x,fun _=>False,E.X.r⟩ }
theorem zV{E:Env}(h:ak E.fH):fv E.fH E:=⟨rfl,rfl,aB _,fun b _ a=>⟨a,rfl⟩,h.X,rfl⟩
theorem Gs{w:World}{X:XS}{l:List Deferred}(h:gN w X l)(a:∀ b,¬ X.z b):l=[]:=by
 cases l with
 |nil=>rfl
 | cons d l =>
  obtain⟨D,_,_,_,g⟩:=h.2 d cW;exact(a D g).elim
theorem zW{J:Env→Prop}(i:∀ E E',J E→E.le E'→ak E'→E'.H=E.H→J E'){id:Nat}{ops:Array Oper}{fr fr':List AV}{E:Env}{a:Act}{Q:Exit→Act→World→Prop}(hs:br ⟨fr,E.H⟩ E.fH a)(k:J E)
  (h:eT P pf ops ops.toList ⟨fr,E.H⟩ ⟨fr',E.H⟩) (l:∀ d E',J E'→br ⟨fr',E'.H⟩ E'.fH d→Q .normal d E'.w):(Code.region id ops false).wpIn (fz none) 0 P Q a E.w :=
 D4 hs h (fun d w' q=>by
  obtain⟨g,r',h1,b⟩:=q;exact l d { w:=w',H:=E.H,loc:=g,X:=E.X.re r' } (i _ _ k ⟨b.past,b.size,b.same,b.own,b.live,⟨rfl,rfl⟩,b.rl,b.env,b.grow⟩ (h1.heap.bY (zV (E:={ w:=w',H:=E.H,loc:=g,X:=E.X.re r' }) h1.heap)) rfl) h1) none
theorem Gt{J:Env→Prop}(i:∀ E E',J E→E.le E'→ak E'→E'.H=E.H→J E'){ops:Array Oper}{l:List Oper}{k:Nat}{rest:List Nat}{fr fr':List AV}{E:Env}{a:Act}{Q:Exit→Act→World→Prop}
  (q:∀(j:Nat) (o:Oper),l[j]? = some o→ops[k+j]? = some o) (hs:br ⟨fr,E.H⟩ E.fH a) (r:J E)
  (h:eT P pf ops l ⟨fr,E.H⟩ ⟨fr',E.H⟩) (t:∀ d E',J E'→br ⟨fr',E'.H⟩ E'.fH d→wpOpsIn (fz none) 0 P ops Q rest d E'.w):wpOpsIn (fz none) 0 P ops Q (tk k l.length++rest) a E.w :=
 zM none l k _ _ E.fH a rest q h hs (fun d w' u=>by
  obtain⟨g,r',h1,b⟩:=u;exact t d { w:=w',H:=E.H,loc:=g,X:=E.X.re r' } (i _ _ r ⟨b.past,b.size,b.same,b.own,b.live,⟨rfl,rfl⟩,b.rl,b.env,b.grow⟩ (h1.heap.bY (zV (E:={ w:=w',H:=E.H,loc:=g,X:=E.X.re r' }) h1.heap)) rfl) h1)
theorem Gu{E E':Env}:∀{fr:List AV} {vs:List Value},ae E fr vs→(∀ b∈fr,b=.undef∨(∃ v,b=.lit v)∨∀ c,rel E b c→rel E' b c)→ae E' fr vs
 | [],[],_,_=>by simp[ae]
 | [],_::_,h,_=>by simp[ae]at h
 |_::_,[],h,_=>by simp[ae]at h
 | b::fr,v::vs,h,a=>by
  simp only[ae]at h⊢;refine⟨?_,Gu h.2 fun x d=>a x (List.mem_cons_of_mem _ d)⟩;rcases a b cW with rfl|⟨u,rfl⟩|h'
  ·simp[rel]
  ·simpa only[rel]using h.1
  ·exact h' _ h.1
theorem gp{ops:Array Oper}{o:Oper}{l:List Oper}{fr:List AV}{H:List ab}{s':St}{v:AV}{d:Tmp}(h:Yields P pf ops o ⟨fr,H⟩ v H)(a:o.dst=some d)(h':eT P pf ops l ⟨fr.set d v,H⟩ s'):eT P pf ops (o::l) ⟨fr,H⟩ s' :=
 ⟨v, H, h, by
  simp only[St.put,gP,a];exact h'⟩
theorem rM{ops:Array Oper}{s:St}:eT P pf ops [] s s:=rfl
theorem Gv{t:TypeId}{k:Bool}{a b:Int}(h:ar (a-b)=true):fu P .sub t k (.lit (.int .i64 a)) (.lit (.int .i64 b))=some (.lit (.int .i64 (a-b))):=by
 simp only[fu,fV,if_true,jR];rw[nh h]
theorem Pu{t:TypeId}{k:Bool}{a b:Int}:fu P .geq t k (.lit (.int .i64 a)) (.lit (.int .i64 b))=some (.lit (.bool (decide (a ≥ b)))):=by
 simp only[fu,fV,if_true,jR]
theorem zX{ops:Array Oper}{l:List Oper}(h:ops.toList=l)(i:Nat):ops[i]? = l[i]? := by rw[←h]; simp
theorem Pv(U:vR P S T sl n rv){f:FuncId}{fn:Func}{r0 r1 r2 r3 b0 b1:Nat}(hf:P.funcs[f]? = some fn)(d:fn.body=some (rL aH be aL dB r0 r1 r2 r3 b0 b1))(hn:fn.ntmps=19)(hr:fn.results=#[])(V:rK S T aH be aL dB)
  {l:Nat} (hlen:n≤1048576) (J:Nat→Env→Prop) (D:∀ k E,J k E→ak E) (A:∀ k E E',J k E→E.le E'→ak E'→E'.H=E.H→J k E')
  {c:Value}
  (Yy:∀ k E (cs:Array Value),k<n→J k E→ae E [.lit (.int .i64 ((n:Int)-1-k)),rv (n-1-k)] cs.toList→YieldAt (fz none) 0 P l cs E.w fun e W'=>e=.returned (.bool true)∧∃ E',E'.w=W'∧J (k+1) E'∧E.bh E')
  {E0:Env} (h0:J 0 E0) (Yf:rel E0 (.cptr [sl]) c):CallsIn (fz none) 0 P f #[.func (.yield l) #[] #[],c] E0.w fun e W'=>(∃ v,e=.returned v)∧∃ E',E'.w=W'∧J n E':=by
 obtain⟨o1,o2,o3,o4,t1,t2,q0,⟨g1,p1,d1⟩,⟨g2,p2,d2⟩,⟨g3,p3,d3⟩,⟨g4,p4,d4⟩⟩:=V.r0;refine callsIn_of_wp_marks hf d trivial ?_;have Yg:∀ j:Int,0≤j→j≤n→ar (j-1)=true:=fun j h1 h2=>Eg.2 ⟨by omega,by omega⟩;obtain⟨y,hy⟩:∃ y:AV,y=.lit (.func (.yield l) #[] #[]):=⟨_,rfl⟩
 obtain⟨cp,N⟩:∃ cp:AV,cp=.cptr [sl]:=⟨_,rfl⟩
 rw[←N]at Yf;have YJ:br ⟨y::cp::cu 17 .undef,E0.H⟩ E0.fH { tmps:=#[.func (.yield l) #[] #[],c]++Array.replicate (fn.ntmps-2) undef,defers:=[] }:=by
  have YK:ak E0.fH:=(D 0 E0 h0).bY (oM (D 0 E0 h0));refine⟨rfl,?_,mI _ _,YK⟩;rw[hn];simp only[Array.toList_append,Array.toList_replicate];show ae E0.fH ([y,cp]++cu 17 .undef) ([.func (.yield l) #[] #[],c]++cu 17 undef)
  refine iQ (by simp only[ae]; exact⟨by rw[hy]; simp[rel],qx (oM (D 0 E0 h0)) _ Yf,trivial⟩) ?_;exact qw (cu 17 undef)
 refine wpIn_seq (zW (pf:=fun _=>false) (J:=J 0) (A 0) YJ h0 (fr':=[y,cp,.undef,.lit (.int .i64 ((n:Int)-1)),sl,.lit (.int .i64 (n:Int)),.lit (.int .i64 ((n:Int)-1)),.undef,.undef,.undef,.undef,.undef,.undef,.undef,.undef,.undef,.undef,.undef,.undef]) ?_ fun a1 E1 YL YM=>?_)
 ·rw [q0]
  refine gp (v:=sl) (zU g1 (by rw[p1]; rfl) ?_) d1 (gp (v:=.lit (.int .i64 (n:Int))) (iE g2 ?_ ?_) d2 (gp (v:=.lit (.int .i64 ((n:Int)-1))) (iE g3 (by rw[p3]; rfl) ?_) d3
   (gp (v:=.lit (.int .i64 ((n:Int)-1))) (iE g4 (by rw[p4]; rfl) ?_) d4 ?_)))
  ·rw [p1]
   show fW P S cp E0.H=_
   rw[N];exact U.load _
  ·rw [p2]
   rfl
  ·rw [p2]
   show uh (bJ P S) sl=_
   exact U.len
  ·rw [p3]
   exact Gv (P:=P) (t:=t1) (k:=jY (Operand.tmp 5)||jY (Operand.const (.int .i64 1))) (Yg (n:Int) (by omega) (by omega))
  ·rw [p4]
   rfl
  ·exact rM
 have r:∀{E:Env} {a:Act} {fr:List AV} {i:AV},br ⟨fr,E.H⟩ E.fH a→fr.length=19→fr[0]? = some y→fr[1]? = some cp→fr[3]? = some i→br ⟨iF y cp i,E.H⟩ E.fH a:=by
  intro E a fr i h YN e0 e1 e3;refine⟨rfl,Gr h.fr (by rw[YN]; rfl) fun j b d=>?_,h.defers,h.heap⟩
  match j,d with
  |0,d=>exact .inr (by rw[e0]; exact d)
  |1,d=>exact .inr (by rw[e1]; exact d)
  |3,d=>exact .inr (by rw[e3]; exact d)
  |2,d=>exact .inl (by cases d; rfl)
  | j+4,d =>
   left;have hx:iF y cp i=[y,cp,.undef,i]++cu 15 .undef:=rfl;rw[hx,List.getElem?_append_right (by simp)]at d;have:=dK d;exact(List.mem_replicate.1 this).2
 refine wpIn_block (wpIn_loop (fun a w=>∃ k E,E.w=w∧k≤n∧J k E∧br ⟨iF y cp (.lit (.int .i64 ((n:Int)-1-k))),E.H⟩ E.fH a)
  (fun a _=>match a.eval (.tmp 3)with | .int _ i=>(i+1).toNat|_=>0) ⟨0,E1,rfl,fI _,YL,r YM rfl rfl rfl (by simp)⟩ ?_)
 rintro a _ ⟨k,E,rfl,Zs,hj,hs⟩;obtain⟨i1,i2,t3,t4,YO,⟨YP,Yh,YQ⟩,⟨YR,Yi,YS⟩⟩:=V.r1;obtain⟨j1,j2,j3,t5,t6,YT,⟨YU,Yj,YV⟩,⟨YW,Yk,YX⟩,⟨YY,Yl,YZ⟩⟩:=V.r2;obtain⟨W,X,Y,u4,u5,u6,I,u8,t7,tys,O,⟨Y0,Ym,Y1⟩,⟨Y2,Yn,Y3⟩,⟨Y4,Yo,Y5⟩,⟨Y6,Yp,Y7⟩,⟨Y8,Yq,Y9⟩,⟨Y_,Yr,Y'⟩,⟨Za,Yc,Zb⟩,⟨Zc,Ys,Zd⟩⟩:=V.r3;obtain⟨i,hi⟩:∃ i:Int,i=(n:Int)-1-k:=⟨_,rfl⟩
 rw[←hi]at hs;have Ze:a.eval (.tmp 3)=.int .i64 i:=by
  have:=hs.eval (.tmp 3);simpa[St.eval,iF,rel]using this
 refine wpIn_seq (wpIn_seq (zW (pf:=fun _=>false) (J:=J k) (A k) hs hj (fr':=((iF y cp (.lit (.int .i64 i))).set 7 (.lit (.int .i64 i))).set 8 (.lit (.bool (decide (i ≥ 0))))) ?_ fun a2 M Yt Yd=>?_))
 ·rw [YO]
  refine gp (v:=.lit (.int .i64 i)) (iE YP (by rw[Yh]; rfl) (by rw[Yh]; rfl)) YQ (gp (v:=.lit (.bool (decide (i ≥ 0)))) (iE YR (by rw[Yi]; rfl) ?_) YS rM);rw[Yi];exact Pu (P:=P) (t:=t3) (k:=jY (Operand.tmp 7)||jY (Operand.const (.int .i64 0)))
 have h8:a2.eval (.tmp 8)=.bool (decide (i ≥ 0)):=by
  have:=Yd.eval (.tmp 8);simpa[St.eval,iF,rel]using this
 by_cases R:i ≥ 0
 ·have YC : k < n := by omega
  refine wpIn_cond_true (by rw[h8]; simp[R]) (wpIn_skip ?_);have YD:=r Yd rfl rfl rfl rfl;show (Code.seq _ _).wpIn (fz none) 0 P _ _ _
  refine wpIn_seq (wpIn_block (wpIn_seq (wpIn_region ?_)));obtain⟨cells,Yz,YA⟩:=U.idx i R (by omega);have Zf:dB.size=8:=by
   have:dB.toList.length=8:=by rw[O]; rfl
   simpa using this
  rw[Zf];show wpOpsIn (fz none) 0 P dB _ (tk 0 6++[6,7]) a2 M.w
  have YE:∀(j:Nat) (o:Oper),[W,X,Y,u4,u5,u6][j]? = some o→dB[0+j]? = some o:=by
   intro j o B;rw[zX O];have Yu:j<6:=by simpa using az B
   rw[Nat.zero_add,show [W,X,Y,u4,u5,u6,I,u8]=[W,X,Y,u4,u5,u6]++[I,u8] from rfl,cn (by simpa using Yu)];exact B
  refine Gt (pf:=fun _=>false) (J:=J k) (l:=[W,X,Y,u4,u5,u6]) (k:=0) (A k) YE YD Yt
   (fr':=[y,cp,.undef,.lit (.int .i64 i),.undef,.undef,.undef,.undef,.undef,.undef,.undef,y,.lit (.int .i64 i),sl,.lit (.int .i64 i),.cptr (cells),rv i.toNat,.undef,.undef]) ?_ fun a3 g Zg q=>?_
  ·refine gp (v:=y) (iE Y0 (by rw [Ym]; rfl) (by rw [Ym]; rfl)) Y1 (gp (v:=.lit (.int .i64 i)) (iE Y2 (by rw [Yn]; rfl) (by rw [Yn]; rfl)) Y3 (gp (v:=sl) (zU Y4 (by rw [Yo]; rfl) ?_) Y5
    (gp (v:=.lit (.int .i64 i)) (iE Y6 (by rw[Yp]; rfl) (by rw[Yp]; rfl)) Y7 (gp (v:=.cptr (cells)) (iE Y8 (by rw[Yq]; rfl) ?_) Y9 (gp (v:=rv i.toNat) (zU Y_ (by rw[Yr]; rfl) ?_) Y' rM)))))
   ·rw [Yo]
    show fW P S cp M.H=_
    rw[N];exact U.load _
   ·rw [Yq]
    exact Yz
   ·rw [Yr]
    exact YA M.H
  ·have Zh:a3.eval (.tmp 11)=.func (.yield l) #[] #[]:=by
    have:=q.eval (.tmp 11);rw[show St.eval _ (.tmp 11)=y from rfl,hy]at this;simpa only[rel]using this
   have YF:i.toNat=n-1-k:=by omega
   have Yv:fv g.fH g:=zV q.heap;have YG:ae g [.lit (.int .i64 ((n:Int)-1-k)),rv (n-1-k)] (#[a3.eval (.tmp 12),a3.eval (.tmp 16)]:Array Value).toList:=by
    rw[←hi,←YF];simp only[ae];exact⟨qx Yv _ (q.eval (.tmp 12)),qx Yv _ (q.eval (.tmp 16)),trivial⟩
   obtain⟨Zi,YB,Zj,Zk,Zl,hR⟩:=Yy k g _ YC Zg YG;rw[wpOpsIn_cons];unfold wpOpIn;have h6:dB[6]? = some I:=by rw[zX O]; rfl
   simp only[h6];rw[if_pos (by simp[Region.wanted,Za])];refine⟨fun _ _=>trivial,?_⟩;rw[Oper.semAt_eq _ _ _ (fun c e=>by rw[Yc]at e; cases e)];have YH:(execOp a3.eval I).run P g.w=.ok (.round l Zi YB Zj Zk) g.w:=by
    obtain⟨dst,op,type,pos,after,guard⟩:=I;simp only[]at Yc;subst Yc;simp[execOp,resolve,Zh,La,invoke,Zl]
   rw[YH,Oper.uponIn_round];refine⟨fun h=>(by cases h),hR.mono ?_⟩;rintro e _ ⟨rfl,E',rfl,Ye,YI⟩;show wpOpsIn (fz none) 0 P dB _ (tk 7 1++[]) _ E'.w
   rw[Zb];have Zm:a3.defers=[]:=Gs q.defers fun _ h=>h;have hp:=(r q rfl rfl rfl rfl).g_ 17 (v:=.lit (.bool true)) (u:=.bool true) (by simp[rel]);have Zn:ak E'.fH:=(D (k+1) E' Ye).bY (oM (D (k+1) E' Ye));have Zo:br ⟨(iF y cp (.lit (.int .i64 i))).set 17 (.lit (.bool true)),E'.H⟩ E'.fH (a3.put (some 17) (.bool true)):=by
    refine⟨rfl,Gu hp.fr fun b d=>?_,?_,Zn⟩
    ·have d : b ∈ (iF y cp (.lit (.int .i64 i))).set 17 (.lit (.bool true)) := d
     rcases List.mem_or_eq_of_mem_set d with d|rfl
     ·simp only [iF, bN, List.not_mem_nil, or_false] at d
      rcases d with rfl|rfl|rfl|rfl|d
      ·exact .inr (.inl ⟨_,hy⟩)
      ·refine .inr (.inr fun c' h => ?_)
       rw[N]at h⊢;exact cZ (E:=g.fH) (E':=E'.fH) ⟨fun b d=>YI.ok b d⟩ _ (by simp[AV.closed]) h
      ·exact .inl rfl
      ·exact .inr (.inl ⟨_,rfl⟩)
      ·left
       rcases d with rfl|rfl|rfl|rfl|rfl|rfl|rfl|rfl|rfl|rfl|rfl|rfl|rfl|rfl|rfl<;>rfl
     ·exact .inr (.inl ⟨_,rfl⟩)
    ·rw [put_defers, Zm]
     exact mI _ _
   refine Gt (pf:=fun _=>false) (J:=J (k+1)) (l:=[u8]) (k:=7) (A (k+1)) ?_ Zo Ye (fr':=((iF y cp (.lit (.int .i64 i))).set 17 (.lit (.bool true))).set 18 (.lit (.bool false))) ?_ fun a5 E5 Zp Yw=>?_
   ·intro j o B
    have Yu:j<1:=by simpa using az B
    have:j=0:=by omega
    subst this;rw[zX O];exact B
   ·exact gp (v:=.lit (.bool false)) (iE Zc (by rw[Ys]; rfl) (by rw[Ys]; rfl)) Zd rM
   ·show (Code.cond _ _ _).wpIn (fz none) 0 P _ _ _
    have Zq:a5.eval (.tmp 18)=.bool false:=by
     have:=Yw.eval (.tmp 18);simpa[St.eval,iF,rel]using this
    refine wpIn_cond_false Zq (wpIn_skip ?_);show (Code.region _ _ _).wpIn (fz none) 0 P _ _ _
    refine zW (pf:=fun _=>false) (J:=J (k+1)) (A (k+1)) (r Yw rfl rfl rfl rfl) Zp (fr':=(((iF y cp (.lit (.int .i64 i))).set 9 (.lit (.int .i64 i))).set 10 (.lit (.int .i64 (i-1)))).set 3 (.lit (.int .i64 (i-1)))) ?_ fun a6 E6 Zr Yx=>?_
    ·rw [YT]
     refine gp (v:=.lit (.int .i64 i)) (iE YU (by rw[Yj]; rfl) (by rw[Yj]; rfl)) YV (gp (v:=.lit (.int .i64 (i-1))) (iE YW (by rw[Yk]; rfl) ?_) YX (gp (v:=.lit (.int .i64 (i-1))) (iE YY (by rw[Yl]; rfl) (by rw[Yl]; rfl)) YZ rM));rw[Yk];exact Gv (P:=P) (t:=t5) (k:=jY (Operand.tmp 9)||jY (Operand.const (.int .i64 1))) (Yg i R (by omega))
    ·have h3:a6.eval (.tmp 3)=.int .i64 (i-1):=by
      have:=Yx.eval (.tmp 3);simpa[St.eval,iF,rel]using this
     have e6:i-1=(n:Int)-1-((k+1:Nat):Int):=by omega
     refine⟨⟨k+1,E6,rfl,by omega,Zr,?_⟩,?_⟩
     ·rw [← e6]
      exact r Yx rfl rfl rfl rfl
     ·rw [h3, Ze]
      show (i-1+1).toNat<(i+1).toNat
      omega
 ·refine wpIn_cond_false (by rw [h8]; simp [R]) (wpIn_exit ?_)
  simp only[Exit.then,xh,if_true];have hd:a2.defers=[]:=Gs Yd.defers fun _ h=>h;have hk:k=n:=by omega
  subst hk;show LeavesInM (fz none) 0 P fn a2.tmps _ a2.defers .returning M.w
  rw[hd];refine⟨.tuple #[],?_,⟨_,rfl⟩,M,rfl,Yt⟩;rw[uz,hr];simp
end bw
end Go.AL

namespace Go.AL
open Go
variable [Dr]
mutual
def k0(m:Nat):AV→Bool
 |.agg cs=>mg m cs
 |.tuple cs=>mg m cs
 |.clo _ cs=>mg m cs
 |.ptr id ad _ _ _=>eg id m&&ah ad 0
 |.vec _ id ad _ _=>eg id m&&ah ad 0
 |.map id=>eg id m
 |.sub ..=>false
 |_=>true
def mg(m:Nat):List AV→Bool
 | []=>true
 |a::as=>k0 m a&&mg m as
end
mutual
theorem Pw{E E':Env}{m:Nat}(h:E.cO m E'):∀(a:AV) {c:Value},k0 m a=true→rel E a c→rel E' a c
 |.undef,_,_,_=>by simp[rel]
 |.lit v,c,_,hr=>by simpa only[rel]using hr
 |.nils,c,_,hr=>by simpa only[rel]using hr
 |.list k rows,c,_,hr=>cZ (nA h) _ (by simp[AV.closed]) hr
 |.listF ks rows,c,_,hr=>cZ (nA h) _ (by simp[AV.closed]) hr
 | .agg cells,c,hf,hr=>by
  simp only[rel]at hr⊢;obtain⟨cs,e,h1,b⟩:=hr;exact⟨cs,e,h1,rN h cells (by simpa only[k0]using hf) b⟩
 | .tuple cells,c,hf,hr=>by
  simp only[rel]at hr⊢;obtain⟨cs,e,b⟩:=hr;exact⟨cs,e,rN h cells (by simpa only[k0]using hf) b⟩
 |.cptr cells,c,_,hr=>cZ (nA h) _ (by simp[AV.closed]) hr
 |.sub ..,_,hf,_=>by simp[k0]at hf
 | .ptr id ad k row col,c,hf,hr=>by
  simp only[k0,aq,fJ]at hf;obtain⟨h1,b⟩:=hf;have b:=aR b;subst b;simp only[rel]at hr⊢;obtain⟨g1,g2,g3⟩:=hr;refine⟨g1,h.past id h1 g2,fun d=>?_⟩;obtain⟨g,i⟩:=h.live id h1 g2 d;rw[i];exact g3 g
 | .vec k id ad off n,c,hf,hr=>by
  simp only[k0,aq,fJ]at hf;obtain⟨h1,b⟩:=hf;have b:=aR b;subst b;simp only[rel]at hr⊢;obtain⟨g1,g2,g3⟩:=hr;refine⟨g1,h.past id h1 g2,fun d=>?_⟩;obtain⟨g,i⟩:=h.live id h1 g2 d;rw[i];exact g3 g
 | .map id,c,hf,hr=>by
  simp only[k0,fJ]at hf;simp only[rel]at hr⊢;obtain⟨g1,g2,g3⟩:=hr;refine⟨g1,h.past id hf g2,fun d=>?_⟩;obtain⟨g,i⟩:=h.live id hf g2 d;rw[i];exact g3 g
 | .clo f caps,c,hf,hr=>by
  simp only[rel]at hr⊢;obtain⟨cs,e,b⟩:=hr;exact⟨cs,e,rN h caps (by simpa only[k0]using hf) b⟩
 |.ifc,c,_,hr=>by simpa only[rel]using hr
 |.emptyS n,c,_,hr=>by simpa only[rel]using hr
theorem rN{E E':Env}{m:Nat}(h:E.cO m E'):∀(as:List AV) {vs:List Value},mg m as=true→ae E as vs→ae E' as vs
 | [],[],_,_=>by simp[ae]
 | [],_::_,_,hr=>by simp[ae]at hr
 |_::_,[],_,hr=>by simp[ae]at hr
 | a::as,v::vs,hf,hr=>by
  simp only[mg,aq]at hf;simp only[ae]at hr⊢;exact⟨Pw h a hf.1 hr.1,rN h as hf.2 hr.2⟩
end
theorem Env.cO.mono{m m':Nat}{E E':Env}(h:E.cO m' E')(hm:m≤m'):E.cO m E' :=
 ⟨fun id hi=>h.past id (by omega),h.size,h.same,h.own,fun id hi=>h.live id (by omega),h.X,h.rl,h.env,fun id hi=>h.grow id (by omega)⟩
structure Env.k8 (m l:Nat) (E E':Env):Prop where
 past:∀ id,id<m→E.past id 0→E'.past id 0
 size:E.w.heap.size≤E'.w.heap.size
 same:∀ b,b<E.w.heap.size→¬ E.own b→b≠l→E'.w.heap[b]? = E.w.heap[b]?
 own:∀ b,b<E.w.heap.size→¬ E.own b→¬ E'.own b
 live:∀ id,id<m→E.past id 0→E'.live id 0→E.live id 0∧E'.loc[id]? = E.loc[id]?
 X:∀ b,b<E.w.heap.size→(E'.X b↔E.X b)∧(E'.X.z b↔E.X.z b)
 rl:∀ l h,h<(E.X.r l).length→h<(E'.X.r l).length∧∀ q,(E'.X.r l)[h]? = some (some q)→(E.X.r l)[h]? = some (some q)
 env:c7 E.w E'.w
 grow:∀ id,id<m→∀ l o,E.H[id]? = some o→o.cF=some l→E'.live id 0→(∃ t,E'.X.r l=E.X.r l++t)∧∃ o',E'.H[id]? = some o'∧o'.cF=some l
theorem Env.cO.toX{m l:Nat}{E E':Env}(h:E.cO m E'):E.k8 m l E':=⟨h.past,h.size,fun b a d _=>h.same b a d,h.own,h.live,h.X,h.rl,h.env,h.grow⟩
theorem Env.k8.trans{m l:Nat}{E E' A:Env}(h:E.k8 m l E')(h':E'.k8 m l A):E.k8 m l A where
 past:=fun id hi r=>h'.past id hi (h.past id hi r)
 size:=Nat.le_trans h.size h'.size
 same:=fun b a g k=>by rw[h'.same b (cM a h.size) (h.own b a g) k,h.same b a g k]
 own:=fun b a g=>h'.own b (cM a h.size) (h.own b a g)
 live:=fun id hi hid k=>by
  obtain⟨u,a2⟩:=h'.live id hi (h.past id hi hid) k;obtain⟨b1,w⟩:=h.live id hi hid u;exact⟨b1,by rw[a2,w]⟩
 X:=fun b a=>by
  have h1:=h'.X b (cM a h.size);have d:=h.X b a;exact⟨h1.1.trans d.1,h1.2.trans d.2⟩
 rl:=fun l i hi=>by
  obtain⟨u,a2⟩:=h.rl l i hi;obtain⟨b1,w⟩:=h'.rl l i u;exact⟨b1,fun q J=>a2 q (w q J)⟩
 env:=h.env.trans h'.env
 grow:=fun id hi l o h1 d y=>by
  have r:E.past id 0:=⟨o,h1,ab.xm d,fun v y=>fI _⟩
  obtain⟨B,_⟩:=h'.live id hi (h.past id hi r) y;obtain⟨⟨t,M⟩,o',g1,g2⟩:=h.grow id hi l o h1 d B;obtain⟨⟨t',D⟩,I,g3,g4⟩:=h'.grow id hi l o' g1 g2 y;exact⟨⟨t++t',by rw[D,M,gq]⟩,I,g3,g4⟩
theorem Env.k8.toM{m l:Nat}{E E':Env}(h:E.k8 m l E')(d:l<E.w.heap.size→E'.w.heap[l]? = E.w.heap[l]?):E.cO m E' :=
 ⟨h.past, h.size, fun b a g => by
  by_cases e:b=l
  ·subst e
   exact d a
  ·exact h.same b a g e,h.own,h.live,h.X,h.rl,h.env,h.grow⟩
theorem zY{w:World}{H:List ab}{loc:List (Option (Nat × Nat))}{X:XS}{l:Nat}{o:Obj}(d:X l)(HE:ak { w:=w,H:=H,loc:=loc,X:=X }) :
  fv { w:=w,H:=H,loc:=loc,X:=X } { w:=w.putObj l o,H:=H,loc:=loc,X:=X } :=
 ⟨rfl, rfl, by simp, fun b _ a => ⟨a, CE fun e => a (by rw [e]; exact d)⟩, fun b g => by
  have:=HE.X b g;simpa using this,rfl⟩
theorem zZ{m:Nat}{w:World}{H:List ab}{loc:List (Option (Nat × Nat))}{X:XS}{l:Nat}{o:Obj}:({ w:=w,H:=H,loc:=loc,X:=X }:Env).k8 m l { w:=w.putObj l o,H:=H,loc:=loc,X:=X } :=
 ⟨fun _ _ h=>h,by simp,fun b _ _ h=>CE h,fun _ _ h=>h,fun _ _ _ h=>⟨h,rfl⟩,fun _ _=>⟨Iff.rfl,Iff.rfl⟩,fun _ _ h=>⟨h,fun _ a=>a⟩,⟨rfl,rfl,rfl,by first|exact fun _=>aB _|exact fun _=>dT _ _⟩,fun _ _ _ o h1 d _=>⟨⟨[],(cV _).symm⟩,o,h1,d⟩⟩
theorem Gw{w:World}{X:XS}{l:Nat}{r:Loop}{o:Obj}{a:List Deferred}(h:gN w X a)(b:w.heap[l]? = some (.loop r)):gN (w.putObj l o) X a :=
 ⟨h.1, fun d g => by
  obtain⟨D,e,h1,i,k⟩:=h.2 d g;exact⟨D,e,by rw[CE (fun e=>by rw[e,b]at h1; cases h1)]; exact h1,i,k⟩⟩
end Go.AL

namespace Go.AL
open Go
variable [Dr]
structure vS (P:Program) (m:Nat) (n:Nat) (rv:Nat→AV) (p0 p1:Tmp) (assign body:Code) (S:Nat→St):Prop where
 na:eH assign=true
 nb:eH body=true
 fix:∀ k,k<n→mg m (S k).fr=true
 round:∀ k,k<n→∃ s1 s2,cq P m assign ⟨((S k).fr.set p0 (.lit (.int .i64 ((n:Int)-1-k)))).set p1 (rv (n-1-k)),(S k).H⟩ .normal s1∧cq P m body s1 .normal s2∧a7 m ⟨(S k).fr,s2.H⟩ (S (k+1))
section bw
variable {P:Program} {m':Nat} {n:Nat} {rv:Nat→AV} {p0 p1:Tmp} {assign body:Code} {S:Nat→St}
theorem Px(hr:vS P m' n rv p0 p1 assign body S){k:Nat}(hk:k<n){fn:FuncId}{D l:Nat}{a:Act}{tmps:Array Value}(Yk:tmps=a.tmps){E:Env}(hs:br (S k) E a)(hX:E.X l)
  (u:E.w.heap[l]? = some (.loop { state:=.ready,pending:=none,fn,tmps,params:=#[p0,p1],assign,body,defers:=D })) {cs:Array Value} (R:ae E [.lit (.int .i64 ((n:Int)-1-k)),rv (n-1-k)] cs.toList) :
  YieldAt (fz none) 0 P l cs E.w fun e W'=>e=.returned (.bool true)∧∃ E',E'.w=W'∧br (S (k+1)) E' a∧E.cO m' E'∧E'.X l ∧
   E'.w.heap[l]? = some (.loop { state:=.ready,pending:=none,fn,tmps,params:=#[p0,p1],assign,body,defers:=D }):=by
 obtain⟨s1,s2,hA,hB,hle⟩:=hr.round k hk;obtain⟨g,c1,rfl⟩:∃ g c1,cs=#[g,c1]:=by
  have:=fb R
  match h:cs.toList,this with
  | [g,c1],_=>exact⟨g,c1,ed (by simpa using h)⟩
 simp only[ae]at R;obtain⟨Yl,Ym,_⟩:=R;refine⟨_,_,_,_,run_yield u (by simp),roundIn_of_wpIn (F:=fz none) trivial ?_⟩;have J:l<E.w.heap.size:=(dM.1 u).1;have Yn:br ⟨((S k).fr.set p0 (.lit (.int .i64 ((n:Int)-1-k)))).set p1 (rv (n-1-k)),(S k).H⟩ E { tmps:=(a.tmps.setIfInBounds p0 g).setIfInBounds p1 c1,defers:=[] }:=by
  refine⟨hs.H,?_,mI _ _,hs.heap⟩;simp only[Array.toList_setIfInBounds];exact uj p1 (uj p0 hs.fr Yl) Ym
 have e0:((#[p0,p1]:Array Tmp).zip #[g,c1]).foldl (fun tmps (t,a)=>tmps.setIfInBounds t a) tmps=(a.tmps.setIfInBounds p0 g).setIfInBounds p1 c1:=by
  rw[Yk];simp[←Array.foldl_toList]
 rw[e0];refine wpIn_mono (hA (some l) (.inr hr.na) E _ Yn) fun e a1 i ⟨he,Yf,X1,M,q⟩=>?_;subst he;have W:¬ E.own l:=hs.heap.lx hX;have N:i.heap[l]? = some (.loop { state:=.ready,pending:=none,fn,tmps,params:=#[p0,p1],assign,body,defers:=D }):=by rw[q.same l J W]; exact u
 have Y:X1 l:=(q.X l J).1.2 hX;have A:l<i.heap.size:=(dM.1 N).1;refine⟨_,run_beginRound N rfl,?_⟩;have Yg:=M.bY (zY (o:=.loop { state:=.busy,pending:=none,fn,tmps,params:=#[p0,p1],assign,body,defers:=D }) Y M.heap) (Gw M.defers N);refine wpIn_mono (hB (some l) (.inr hr.nb) _ a1 Yg) fun e a2 U ⟨he,B,v,Yc,I⟩=>?_;subst he;have Yh:¬ Env.own { w:=i,H:=s1.H,loc:=Yf,X:=X1 } l:=q.own l J W;have Yd:U.heap[l]? = some (.loop { state:=.busy,pending:=none,fn,tmps,params:=#[p0,p1],assign,body,defers:=D }):=by
  rw[I.same l (by show l<(i.putObj _ _).heap.size; simpa using A) Yh];exact Xt A
 have Ye:v l:=(I.X l (by show l<(i.putObj _ _).heap.size; simpa using A)).1.2 Y;have Yi:l<U.heap.size:=(dM.1 Yd).1;refine⟨_,_,run_endRound (P:=P) none Yd,rfl,?_⟩;obtain⟨d,r⟩:∃ d,U.putObj l (.loop { state:=.ready,pending:=none,fn,tmps,params:=#[p0,p1],assign,body,defers:=D })=d:=⟨_,rfl⟩
 have O:d.heap[l]? = some (.loop { state:=.ready,pending:=none,fn,tmps,params:=#[p0,p1],assign,body,defers:=D }):=by
  rw[←r];exact Xt Yi
 have y:E.cO m' { w:=d,H:=s2.H,loc:=B,X:=v }:=by
  refine Env.k8.toM (l:=l) (q.toX.trans (zZ.trans (I.toX.trans ?_))) (fun _=>by rw[show Env.w _=d from rfl,O,u]);rw[←r];exact zZ
 have Yo:ak { w:=d,H:=s2.H,loc:=B,X:=v }:=by
  rw[←r];exact Yc.heap.bY (zY Ye Yc.heap)
 have Yp:br ⟨(S k).fr,s2.H⟩ { w:=d,H:=s2.H,loc:=B,X:=v } a:=by
  refine⟨rfl,rN y _ (hr.fix k hk) hs.fr,tK hs.defers (fun b h1 h2=>?_) (fun b h1 _=>y.same b (hs.heap.X b h1) (hs.heap.lx h1)),Yo⟩;have:=y.X b (hs.heap.X b h1);exact⟨this.1.2 h1,this.2.2 h2⟩
 obtain⟨Yj,X7,Yq,V⟩:=hle _ a Yp;refine⟨{ w:=d,H:=(S (k+1)).H,loc:=Yj,X:=X7 },?_,Yq,y.trans V,(V.X l (by show l<d.heap.size; exact(dM.1 O).1)).1.2 Ye,O⟩;rw[←r];rfl
theorem Py{T1 T2:TypeId}{sl:AV}{aH be aL dB:Array Oper}{m:Nat}(hT:vR P T1 T2 sl n rv){f:FuncId}{fd:Func}{r0 r1 r2 r3 b0 b1:Nat}(hf:P.funcs[f]? = some fd)(Yv:dY P f=true)(t:fd.body=some (rL aH be aL dB r0 r1 r2 r3 b0 b1))(hn:fd.ntmps=19)(Yw:fd.results=#[])(M:rK T1 T2 aH be aL dB)
  (hlen:n≤1048576) (hmm:m≤m') (hr:vS P m' n rv p0 p1 assign body S) {g:Tmp} {s:St} {id wd:Nat} (hg:s.eval (.tmp g)=.clo f [.ptr id 0 wd 0 0]) (hid:s.H[id]? = some (.box [sl])) (h0:a7 m ⟨s.fr,s.H.set id .dead⟩ (S 0))
  (E:Env) (a:Act) (hs:br s E a):(Code.rangeFunc (.tmp g) #[p0,p1] assign body).wpIn (fz none) 0 P (fun e a1 i=>e=.normal∧cT m E (S n) a1 i) a E.w:=by
 have U:=hs.eval (.tmp g);rw[hg]at U;simp only[rel]at U;obtain⟨cs,U,Ye⟩:=U;obtain⟨c,rfl⟩:∃ c,cs=#[c]:=by
  have:=fb Ye
  match h:cs.toList,this with
  | [c],_=>exact⟨c,ed (by simpa using h)⟩
 simp only[ae,rel]at Ye;obtain⟨⟨⟨bc,oc,YN⟩,_,Ym⟩,_⟩:=Ye;have Yc:E.H[id]? = some (.box [sl]):=by rw[hs.H]; exact hid
 obtain⟨Y,nn,R,Yx⟩:=Ym ⟨_,Yc,rfl⟩;obtain⟨D,A⟩:∃ D,E.w.heap.size=D:=⟨_,rfl⟩
 have Yi:=hs.heap.obj id _ Yc;simp only[aD]at Yi;obtain⟨b',n',Yg,YM,Yl⟩:=Yi;rw[R]at Yg;obtain⟨rfl,rfl⟩:Y=b'∧nn=n':=by
  have h:=Yg;simp only[aK,aN]at h;exact h
 have B:=Env.og hs.heap id;have Yy:=ak.drop hs.heap id fun o M=>by
  rw[Yc]at M;cases M;rfl
 have Yo:rel { w:=E.w,H:=E.H.set id .dead,loc:=E.loc.set id none,X:=E.X } (.cptr [sl]) c:=by
  simp only[rel];refine⟨hT.cl,Y,0,by simpa using Yx,⟨(hs.heap.lt id Y nn R).1,?_,(hs.heap.lt id Y nn R).2⟩,p_ (E:=E) (fun a c h=>bA B a h) rfl Yl⟩;rintro(⟨j,q,I⟩|⟨l,k,q,I⟩)
  case inr=>exact hs.heap.cd _ _ _ _ _ _ R I
  simp only[List.getElem?_set]at I;split at I
  ·split at I<;>cases I
  ·rename_i Yz
   exact Yz (hs.heap.inj _ _ _ _ _ R I)
 refine wpIn_rangeFunc ?_;intro fn _;obtain⟨rec,J⟩:∃ rec:Loop,rec={ state:=.ready,pending:=none,fn,tmps:=a.tmps,params:=#[p0,p1],assign,body,defers:=D }:=⟨_,rfl⟩
 obtain⟨i,V⟩:∃ i,(E.w.alloc (.deferred (some []))).alloc (.loop rec)=i:=⟨_,rfl⟩
 have YO:i.heap.size=D+2:=by rw[←V,CJ,CJ,A]
 have YA:i.heap[D+1]? = some (.loop rec):=by
  rw[←V];have:=Xu (E.w.alloc (.deferred (some []))) (.loop rec)
  rwa [CJ,A]at this
 have Yh:∀ b,b<D+1→i.heap[b]? = (E.w.alloc (.deferred (some []))).heap[b]? := fun b t=>by
  rw[←V];show ((E.w.alloc (.deferred (some []))).heap.push _)[b]? = _
  rw[sZ,if_neg (by rw[CJ,A]; omega)]
 have YB:i.heap[D]? = some (.deferred (some [])):=by
  rw[Yh D (by omega)];have:=Xu E.w (.deferred (some []))
  rwa [A]at this
 have hold:∀ b,b<D→i.heap[b]? = E.w.heap[b]? := fun b t=>by
  rw[Yh b (by omega)];show (E.w.heap.push _)[b]? = _
  rw[sZ,if_neg (by omega)]
 have YC:c7 E.w i:=by rw[←V]; exact⟨rfl,rfl,rfl,by first|exact fun _=>aB _|exact fun _=>dT _ _⟩
 obtain⟨y,u⟩:∃ y:XS,y=⟨fun b=>E.X b∨b=D∨b=D+1,fun b=>E.X.z b∨b=D,E.X.r⟩:=⟨_,rfl⟩
 obtain⟨mk,Yf⟩:∃ mk:Deferred,mk={ target:=.collected D,args:=#[] }:=⟨_,rfl⟩
 have bY:fv { w:=E.w,H:=E.H.set id .dead,loc:=E.loc.set id none,X:=E.X } { w:=i,H:=E.H.set id .dead,loc:=E.loc.set id none,X:=y } :=
  ⟨rfl, rfl, by show E.w.heap.size ≤ i.heap.size; omega, fun b t hx => by
   have t:b<D:=by rw[←A]; exact t
   refine⟨fun h=>?_,hold b t⟩;rw[u]at h;rcases h with h|h|h
   ·exact hx h
   ·omega
   ·omega,fun b t=>by
   show b<i.heap.size
   rw[u]at t;rcases t with h|h|h
   ·have := hs.heap.X b h
    omega
   ·omega
   ·omega,by show y.r=E.X.r; rw[u]⟩
 have YD:br ⟨s.fr,s.H.set id .dead⟩ { w:=i,H:=E.H.set id .dead,loc:=E.loc.set id none,X:=y } { a with defers:=mk::a.defers }:=by
  refine⟨by rw[hs.H],kN bY _ (cR B _ hs.fr),⟨?_,fun d B=>?_⟩,Yy.bY bY⟩
  ·refine List.nodup_cons.2 ⟨fun h => ?_, hs.defers.1⟩
   obtain⟨N,e,h1,O,_⟩:=hs.defers.2 mk h;have:=hs.heap.X N O;rw[Yf]at e;have e:D=N:=by
    have e:=congrArg Deferred.target e;simpa using e
   omega
  ·rcases bN.1 B with rfl | B
   ·exact⟨D,Yf,YB,by rw[u]; exact .inr (.inl rfl),by rw[u]; exact .inr rfl⟩
   ·obtain ⟨N, e, h1, O, h3⟩ := hs.defers.2 d B
    have:=hs.heap.X N O;exact⟨N,e,by rw[show Env.w _=i from rfl,hold N (by omega)]; exact h1,by rw[u]; exact .inl O,by rw[u]; exact .inl h3⟩
 have Yp:E.cO m { w:=i,H:=E.H.set id .dead,loc:=E.loc.set id none,X:=y }:=by
  refine B.toM.trans ⟨fun _ _ h=>h,by show E.w.heap.size≤i.heap.size; omega,fun b t _=>hold b (by rw[←A]; exact t),fun b _ h M=>h ((bY.own b).1 M),fun _ _ _ h=>⟨h,rfl⟩,fun b t=>?_,fun l h hh=>by show h<(y.r l).length∧_; rw[u]; exact⟨hh,fun _ hq=>hq⟩,YC,fun _ _ _ o h1 O _=>⟨⟨[],by show y.r _=_; rw[u,cV]⟩,o,h1,O⟩⟩;have t:b<D:=by rw[←A]; exact t
  show (y b↔E.X b)∧(y.z b↔E.X.z b)
  rw[u];exact⟨⟨fun h=>by rcases h with h|h|h; exact h; omega; omega,.inl⟩,⟨fun h=>by rcases h with h|h; exact h; omega,.inl⟩⟩
 obtain⟨Yj,X3,YE,Yd⟩:=h0 _ _ YD;have YF:X3 (D+1):=(Yd.X (D+1) (by show D+1<i.heap.size; omega)).1.2 (by show y (D+1); rw[u]; exact .inr (.inr rfl));have Yq:rel { w:=i,H:=(S 0).H,loc:=Yj,X:=X3 } (.cptr [sl]) c:=cZ (nA Yd) _ (by simp[AV.closed]) (cZ bY.toC _ (by simp[AV.closed]) Yo);refine⟨D+1,[mk],i,{ target:=.fn (.func f) #[c],args:=#[.func (.yield (D+1)) #[] #[]] },i,f,#[.func (.yield (D+1)) #[] #[],c],i,?_,?_,fun _ _=>trivial,?_,fun h=>(by cases h),?_⟩
 ·rw [← V, J, Yf, ← A]
  exact run_enterLoop_outer _ _ _ _ _
 ·have Yr : a.eval (.const (.func (.yield (D + 1)) #[] #[])) = .func (.yield (D + 1)) #[] #[] := rfl
  simp[resolve,U,Yr,La]
 ·simp[invoke,yk Yv]
 ·have Yn:=Pv (P:=P) hT hf t hn Yw M (l:=D+1) hlen (fun k E'=>br (S k) E' { a with defers:=mk::a.defers }∧E.cO m E'∧E'.X (D+1)∧E'.w.heap[D+1]? = some (.loop rec)) (fun k E' h=>h.1.heap)
   (fun k E1 E2 h hle hR hH=>?_) (c:=c) (fun k E' cs hk h hc=>?_) (E0:={ w:=i,H:=(S 0).H,loc:=Yj,X:=X3 }) ⟨YE,Yp.trans Yd,YF,YA⟩ Yq
  ·refine Yn.mono fun e w3 ⟨⟨v, hv⟩, E4, YG, W, Ys, YH, Yk⟩ => ?_
   subst hv;subst YG;obtain⟨w4,H4,Yt,X4⟩:=E4;have YI:H4=(S n).H:=W.H;subst YI;have Yu:=run_endLoop (P:=P) Yk (by rw[J]; simp);refine⟨_,_,Yu,?_⟩;rw[J];refine⟨rfl,Yt,X4,?_,?_⟩
   ·rw [← J]
    exact W.bY (zY YH W.heap) (Gw W.defers Yk)
   ·exact(Ys.toX.trans zZ).toM (l:=D+1) (fun h=>absurd h (by omega))
  ·obtain ⟨g1, g2, g3, g4⟩ := h
   have YJ:D+1<E1.w.heap.size:=(dM.1 g4).1;refine⟨⟨by rw[hH]; exact g1.H,cR hle _ g1.fr,qa g1.heap hle g1.defers,hR⟩,g2.trans hle.toM,by rw[hle.X.1]; exact g3,?_⟩;rw[hle.same (D+1) YJ (g1.heap.lx g3)];exact g4
  ·obtain ⟨g1, g2, g3, g4⟩ := h
   rw[J]at g4;obtain⟨YK,tm,as,bo,k1,k2⟩:=Px hr hk rfl g1 g3 g4 hc;refine⟨YK,tm,as,bo,k1,k2.mono fun e W' ⟨he,YL,hw,q1,q2,q3,q4⟩=>⟨he,YL,hw,⟨q1,g2.trans (q2.mono hmm),q3,by rw[J]; exact q4⟩,nA q2⟩⟩
end bw
end Go.AL

namespace Go.AL
open Go
variable [Dr]
variable {P:Program}
theorem Pz{m m' n:Nat}{rv:Nat→AV}{p0 p1:Tmp}{assign body:Code}{S:Nat→St}{T1 T2:TypeId}{sl:AV}{aH be aL dB:Array Oper}(k:vR P T1 T2 sl n rv){f:FuncId}{fd:Func}{r0 r1 r2 r3 b0 b1:Nat}(hf:P.funcs[f]? = some fd)(b:dY P f=true)
  (l:fd.body=some (rL aH be aL dB r0 r1 r2 r3 b0 b1)) (q:fd.ntmps=19) (d:fd.results=#[]) (r:rK T1 T2 aH be aL dB)
  (hlen:n≤1048576) (hmm:m≤m') (hr:vS P m' n rv p0 p1 assign body S) {g:Tmp} {s:St} {id wd:Nat} (t:s.eval (.tmp g)=.clo f [.ptr id 0 wd 0 0]) (hid:s.H[id]? = some (.box [sl])) (h0:a7 m ⟨s.fr,s.H.set id .dead⟩ (S 0)) :
  cq P m (.rangeFunc (.tmp g) #[p0,p1] assign body) s .normal (S n):=fun ro i E a hs=>by
 obtain rfl:ro=none:=i.resolve_right (by simp[eH]);exact wpIn_mono (Py k hf b l q d r hlen hmm hr t hid h0 E a hs) fun e u v ⟨he,h⟩=>⟨he,h⟩
structure kb where
 f:FuncId
 T1:TypeId
 T2:TypeId
 w:Nat
 pw:Nat
 agg:Bool
def rO(P:Program)(i:kb):Prop:=∃ fd aH be aL dB r0 r1 r2 r3 b0 b1 e b,P.funcs[i.f]? = some fd∧dY P i.f=true∧fd.body=some (rL aH be aL dB r0 r1 r2 r3 b0 b1)∧fd.ntmps=19∧fd.results=#[]∧rK i.T1 i.T2 aH be aL dB ∧
 dN P i.T1=some (1,false)∧bJ P i.T1=.slice e i.w b∧dN P i.T2=some (i.pw,i.agg)
def rP(agg:Bool)(w:Nat)(row:List AV):AV:=(fL agg w row).getD .undef
theorem PA{i:kb}{e b:Nat}{rows:List (List AV)}(h1:dN P i.T1=some (1,false))(d:bJ P i.T1=.slice e i.w b)(q:dN P i.T2=some (i.pw,i.agg)) (hr:(rows.all fun r=>(fL i.agg i.pw r).isSome)=true) :
  vR P i.T1 i.T2 (.list i.w rows) rows.length (fun k=>rP i.agg i.pw (rows.getD k [])):=by
 refine⟨fun H=>?_,?_,fun k h l=>?_,by simp[AV.aV,AV.closed]⟩
 ·simp[fW,h1,fL]
 ·rw [d]
  rfl
 ·have a : k.toNat < rows.length := by omega
  refine⟨rows[k.toNat],?_,fun H=>?_⟩
  ·rw [d]
   simp only[jn];rw[if_pos ⟨trivial,h,l⟩,bC a];rfl
  ·have := cC.1 hr rows[k.toNat] (pY a)
   obtain⟨v,g⟩:=nR.1 this;simp only[fW,q,g];unfold rP;rw[cD,bC a,Option.getD_some,g];rfl
def vT(P:Program)(τ:al)(p0 p1:Tmp)(assign body:Code)(fr:List AV):List (Int × AV)→List af→(List af→Tree)→Tree
 | [],H,k=>k H
 | (i,v)::q,H,k=>dc P τ aF assign ⟨(fr.set p0 (.lit (.int .i64 i))).set p1 v,H⟩ fun x s1=>match x with
  | .normal=>dc P τ aF body s1 fun x s2=>match x with
   |.normal=>vT P τ p0 p1 assign body fr q s2.H k
   |_=>.fail
  |_=>.fail
theorem Gx(hm:P.follows .mixedOrders=true){τ:al}(d:ao P τ){p0 p1:Tmp}{assign body:Code}{fr:List AV}{Q:bt→aj→Prop}{k:List af→Tree}(m:Nat):∀(q:List (Int × AV)) (H:List af),(vT P τ p0 p1 assign body fr q H k).holds Q →
  ∃ f:Nat→List af,f 0=H∧(∀ j a,q[j]? = some a→∃ s1 s2:aj,cq P m assign ⟨(fr.set p0 (.lit (.int .i64 a.1))).set p1 a.2,ai (f j)⟩ .normal s1.den∧cq P m body s1.den .normal s2.den∧f (j+1)=s2.H)∧(k (f q.length)).holds Q
 | [],H,h=>⟨fun _=>H,rfl,fun j a b=>by simp at b,h⟩
 | (i,v)::q,H,h=>by
  simp only[vT]at h;obtain⟨x,s1,h1,g⟩:=fD hm d assign _ _ (aT P m assign) h;cases x with
  | normal =>
   obtain⟨x,s2,r,l⟩:=fD hm d body _ _ (aT P m body) g;cases x with
   | normal =>
    obtain⟨f,g1,g2,g3⟩:=Gx hm d m q s2.H l;refine⟨fun j=>match j with|0=>H|j+1=>f j,rfl,fun j a b=>?_,g3⟩;cases j with
    | zero =>
     simp only[List.getElem?_cons_zero,aK]at b;subst b;exact⟨s1,s2,h1,r,g1⟩
    |succ j=>exact g2 j a (by simpa using b)
   |exit _=>exact l.elim
   |ret=>exact l.elim
  |exit _=>exact g.elim
  |ret=>exact g.elim
def vU(agg:Bool)(w:Nat)(rows:List (List AV)):List (Int × AV):=(dV rows.length).map fun(k:Nat)=>((rows.length:Int)-1-k,rP agg w (rows.getD (rows.length-1-k) []))
def z6(P:Program)(τ:al)(i:kb)(m:Nat)(c:Code)(s:aj):Option Tree :=
 match c with
 | .seq (.seq r3 (.block _ (.rangeFunc (.tmp g) ps assign body))) rest=>match ps.toList,eH assign&&eH body with
  | [p0,p1],true=>some (dc P τ aF r3 s fun x s1=>match x with
   | .normal=>match s1.fr.getD g .undef with
    | .clo f [.ptr id 0 _ 0 0]=>match s1.H[id]? with
     | some (.raw (.box [.list w rows]))=>.side (ah f i.f&&(ah w i.w&&(Nat.ble rows.length 1048576&&((rows.all fun r=>(fL i.agg i.pw r).isSome)&&(mg s1.H.length s1.fr&&Nat.ble m s1.H.length)))))
       (vT P τ p0 p1 assign body s1.fr (vU i.agg i.pw rows) (s1.H.set id (.raw .dead)) fun H=>dc P τ aF rest ⟨s1.fr,H⟩ .done)
     |_=>.fail
    |_=>.fail
   |_=>.fail)
  |_,_=>none
 |_=>none
theorem PB(hm:P.follows .mixedOrders=true){τ:al}(l:ao P τ){i:kb}(hi:rO P i){m:Nat}{c:Code}{s:aj}{t:Tree}(h:z6 P τ i m c s=some t):uS P m c s t:=by
 unfold z6 at h;split at h
 case h_2=>cases h
 rename_i r3 b g ps assign body rest;split at h
 case h_2=>cases h
 rename_i p0 p1 B d;cases h;intro Q D;have A:ps=#[p0,p1]:=ed (by simpa using B);subst A;simp only[aq]at d;obtain⟨x,s1,h1,a⟩:=fD hm l r3 s _ (aT P m r3) D;cases x with
 |exit _=>exact a.elim
 |ret=>exact a.elim
 | normal =>
  simp only[]at a;split at a
  case h_2=>exact a.elim
  rename_i f id wd I;split at a
  case h_2=>exact a.elim
  rename_i w rows hid;simp only[Tree.holds,aq]at a;obtain⟨⟨q,r,u,J,M,v⟩,N⟩:=a;have q:=aR q;have r:=aR r;have u:=pX u;have v:=pX v;subst q;subst r;obtain⟨F,f0,f1,f2⟩:=Gx hm l s1.H.length _ _ N;obtain⟨x,s',y,O⟩:=fD hm l rest _ _ (aT P m rest) f2;refine⟨x,s',?_,O⟩;obtain⟨fd,aH,be,aL,dB,r0,r1,r2,Yc,b0,b1,e,bb,R,U,V,W,X,Y,q7,q8,q9⟩:=hi;have hlen:(vU i.agg i.pw rows).length=rows.length:=by simp[vU]
  have hR:vS P s1.H.length rows.length (fun k=>rP i.agg i.pw (rows.getD k [])) p0 p1 assign body (fun k=>⟨s1.fr,ai (F k)⟩):=by
   refine⟨d.1,d.2,fun k _=>M,fun k hk=>?_⟩;obtain⟨a1,a2,g1,g2,g3⟩:=f1 k ((rows.length:Int)-1-k,rP i.agg i.pw (rows.getD (rows.length-1-k) [])) (by
    simp[vU,hk])
   refine⟨a1.den,a2.den,g1,g2,?_⟩;rw[g3];exact a7.refl _
  have hS:=Pz (m:=m) (m':=s1.H.length) (P:=P) (PA q7 q8 q9 J) R U V W X Y u v hR (g:=g) (s:=s1.den) (id:=id) (wd:=wd) I (aU hid) (by
   rw[f0,cI];exact a7.refl _)
  have hB:cq P m (.block b (.rangeFunc (.tmp g) #[p0,p1] assign body)) s1.den .normal ⟨s1.fr,ai (F rows.length)⟩:=D8 (x:=.normal) hS;rw[hlen]at y;exact uw (uw h1 hB) y
def z7(P:Program)(τ:al)(i:kb)(m key:Nat)(fn:Func):LT:=⟨fun _ _=>none,fun _ s=>(true,s),fun k s=>match ah k key with
 |true=>z6 P τ i m (cutAt fn key) s
 |false=>none⟩
theorem PC(hm:P.follows .mixedOrders=true){τ:al}(a:ao P τ){i:kb}(hi:rO P i){m key:Nat}{fn:Func} (b:jD key (bl (aY fn))=true):ay P m (z7 P τ i m key fn) (aY fn) :=
 ⟨fun _ _ _ _ _ h => (nomatch h), fun _ _ _ => a7.refl _, fun k d hk s t h => by
  simp only[z7]at h;split at h
  ·rename_i e
   have e:=aR e;subst e;rw[zB b hk];exact PB hm a hi h
  ·cases h⟩
end Go.AL

namespace Go.AL
open Go
variable [Dr]
def Gy(P:Program)(i:kb):Bool :=
 (match dN P i.T1 with
 |some (n,a)=>ah n 1 && !a
 |none=>false)&&((match bJ P i.T1 with
 |.slice _ w _=>ah w i.w
 |_=>false)&&(match dN P i.T2 with
 |some (n,a)=>ah n i.pw&&(a==i.agg)
 |none=>false))
theorem PD{P:Program}{i:kb}{fd:Func}{aH be aL dB:Array Oper}{r0 r1 r2 r3 b0 b1:Nat}(hf:P.funcs[i.f]? = some fd)(k:dY P i.f=true)(l:fd.body=some (rL aH be aL dB r0 r1 r2 r3 b0 b1))(q:fd.ntmps=19)(hr:fd.results=#[])(r:rK i.T1 i.T2 aH be aL dB)
  (h:Gy P i=true):rO P i:=by
 unfold Gy at h;simp only[aq]at h;obtain⟨h1,d,g⟩:=h;split at h1
 case h_2=>cases h1
 rename_i n a t;split at d
 case h_2=>cases d
 rename_i e w b u;split at g
 case h_2=>cases g
 rename_i y A v;simp only[aq,Bool.not_eq_true',beq_iff_eq]at h1 g;obtain⟨g1,g2⟩:=h1;obtain⟨g3,g4⟩:=g;have g1:=aR g1;have g3:=aR g3;have d:=aR d;subst g1;subst g2;subst g3;subst g4;subst d;exact⟨fd,aH,be,aL,dB,r0,r1,r2,r3,b0,b1,e,b,hf,k,l,q,hr,r,t,u,v⟩
def al.vV(P:Program)(τ:al)(i:kb)(key:Nat)(f:FuncId)(fn:Func) (ks:List (Option (List Kd))):al:=τ.add f fun args =>
 match (uX P τ (z7 P τ i 0 key fn) fn ks args []).val with
 | some v=>match AV.aV args&&v.closed with
  |true=>some (true,v)
  |false=>none
 |none=>none
theorem ao.vV{P:Program}{τ:al}(h:ao P τ)(hm:P.follows .mixedOrders=true){i:kb}(hi:rO P i){key:Nat}{f:FuncId}{fn:Func}(hf:P.funcs[f]? = some fn)(g:dY P f=true) (k:jD key (bl (aY fn))=true) (ks:List (Option (List Kd))) :
  ao P (τ.vV P i key f fn ks):=h.add g fun args b v a _=>by
 split at a
 ·rename_i u hu
  split at a
  ·rename_i d
   simp only[aq]at d;cases a;exact fR hm h ks (fun c a=>by
    have:=PC (m:=0) hm h hi k;unfold aY at this;rw[a]at this;exact this) hf d.1 d.2 hu
  ·cases a
 ·cases a
def vW:af→Bool
 |.vec _ v _=>ah v 0
 |.map ..=>true
 |.aM ..=>true
 |.mm ..=>true
 |.raw (.vec _ v _)=>ah v 0
 |.raw .dead=>false
 |.raw .c6=>false
 |.raw _=>true
theorem PE{H:List af}(h:H.all vW=true):uv (ai H):=by
 intro o a;obtain⟨t,b,rfl⟩:=List.mem_map.1 a;have:=cC.1 h t b;cases t with
 |vec ks v rows=>simp only[vW]at this; rw[aR this]; rfl
 |map=>rfl
 |aM=>rfl
 |mm=>rfl
 | raw o=>cases o with
  |vec k v rows=>simp only[vW]at this; rw[aR this]; rfl
  |dead=>cases this
  |c6=>cases this
  |box=>rfl
  |map=>rfl
  |iter=>rfl
  |dC=>rfl
  |aM=>rfl
  |mm=>rfl
def Gz(P:Program)(τ:al)(fn:Func)(args:List AV)(H:List af):Option (Bool × AV × List af) :=
 match H.all vW with
 | true=>match (dc P τ aF (aY fn) ⟨gQ args fn.ntmps,H⟩ .done).ka with
  | some (.normal,s')=>match gb P s'.den fn.results.toList with
   |some vs=>some (true,cH vs,s'.H)
   |none=>none
  | some (.ret,s')=>match gb P s'.den fn.results.toList with
   |some vs=>some (true,cH vs,s'.H)
   |none=>none
  |_=>none
 |false=>none
def al.ct(P:Program)(τ:al)(f:FuncId)(fn:Func):al where
 pf g:=match ah g f with
  |true=>false
  |false=>τ.pf g
 T g as:=match ah g f with
  |true=>none
  |false=>τ.T g as
 W g as H:=match ah g f with
  |true=>Gz P τ fn as H
  |false=>τ.W g as H
 C g as H:=match ah g f with
  |true=>dV H.length
  |false=>τ.C g as H
 I:=τ.I
 N g:=match ah g f with
  |true=>false
  |false=>τ.N g
 U g:=match ah g f with
  |true=>true
  |false=>τ.U g
theorem ao.ct{P:Program}{τ:al}(h:ao P τ)(hm:P.follows .mixedOrders=true){f:FuncId}{fn:Func}(hf:P.funcs[f]? = some fn)(D:dY P f=true)(w:fn.body.isSome=true):ao P (τ.ct P f fn):=by
 refine⟨fun g as b v a r=>?_,fun g as H b v H' a r=>?_,fun g as H b v H' a A i d=>?_,fun g as H t a Q J=>?_,?_⟩
 rotate_left 4
 ·refine ⟨fun g k as H => ?_, fun g l as H b v H' a id o d hid => ?_⟩
  ·simp only [al.ct] at k ⊢
   cases e:ah g f with
   |true=>rw[e]at k; cases k
   | false =>
    rw[e]at k;exact h.F.1 g k as H
  ·simp only [al.ct] at l a hid ⊢
   cases e:ah g f with
   |true=>rw[e]at l; cases l
   | false =>
    rw[e]at l a hid;exact h.F.2 g l as H b v H' a id o d hid
 rotate_left 3
 ·obtain ⟨g1, v, H', g2, g3, g4⟩ := h.I g as H t a Q J
  refine⟨g1,v,H',g2,fun A i d=>g3 A (fun hm=>i ?_) d,g4⟩;simp only[al.ct];split
  ·exact e_.2 d
  ·exact hm
 ·simp only [al.ct] at a
  split at a
  ·cases a
  ·exact h.T g as b v a r
 ·simp only [al.ct] at a
  split at a
  ·rename_i e
   have e:=aR e;subst e;refine⟨D,?_⟩;obtain⟨c,u⟩:=nR.1 w;have y:aY fn=c:=by unfold aY; rw[u]
   unfold Gz at a;rw[y]at a;split at a
   case h_2=>cases a
   rename_i B;have key:∀{x:bt} {s':aj} {vs:List AV},(dc P τ aF c ⟨gQ as fn.ntmps,H⟩ .done).ka=some (x,s')→(x=.normal∨x=.ret)→gb P s'.den fn.results.toList=some vs→c9 P g as (ai H) (cH vs) (ai s'.H):=by
    intro x s' vs h1 M q;obtain⟨R,s1,N,O⟩:=fD hm h c ⟨gQ as fn.ntmps,H⟩ .done (aT P (ai H).length c) (rF h1);obtain⟨rfl,rfl⟩:=O;exact M4 hf u N M q (PE B)
   split at a
   ·rename_i s' h1
    split at a
    ·rename_i vs q
     cases a;exact key h1 (.inl rfl) q
    ·cases a
   ·rename_i s' h1
    split at a
    ·rename_i vs q
     cases a;exact key h1 (.inr rfl) q
    ·cases a
   ·cases a
  ·exact h.W g as H b v H' a r
 ·simp only [al.ct] at a i
  split at a
  ·rename_i e
   rw[e]at i;exact(i (e_.2 d)).elim
  ·rename_i e
   rw[e]at i;exact h.C g as H b v H' a A i d
end Go.AL

namespace Go.AL
open Go Go.ChangeMaps
variable [Dr]
def dS.rQ(sp:dS)(s:aj)(b:Nat):aj:=⟨s.fr.set sp.it (.lit (.pointer (some ⟨b,0,none⟩))),s.H⟩
section range
variable {P:Program} {τ:al} {L:LT} {m:Nat} {sp:dS} {aH be aL:Array Oper} {body:Code} {ri:List G→List (List G)} {ci:List G→Nat}
def GA(m:Nat)(sp:dS)(ri:List G→List (List G))(ci:List G→Nat)(E:Env)(rows:List (List G))(d0:List G)(itb mb nn clock:Nat)(a:Act)(w:World):Prop :=
 ∃(d:List G) (loc:List (Option (Nat × Nat))) (X:XS) (seen:Array Nat) (last:Nat) (p:List (List G)),
  ch sp.st sp.a8 p d0=some d∧sp.a8 d=itb∧(p++rows.filter fun x => !seen.contains (b9 x)).Perm rows ∧
  br (aI sp.inv d).den { w:=w,H:=(aI sp.inv d).den.H,loc:=loc,X:=X } a∧E.cO m { w:=w,H:=(aI sp.inv d).den.H,loc:=loc,X:=X }∧X itb ∧
  w.heap[itb]? = some (.mapIter (some mb) clock seen last)∧clock≤last∧ri d=rows∧ci d=clock∧loc[sp.id]? = some (some (mb,nn))
theorem PF(hm:P.follows .mixedOrders=true)(ht:ao P τ)(hL:ay P m L body)(hr:nB P τ L m sp aL body)(ho:kZ P sp aH be aL)
  (Yi:∀ d,(aI sp.inv d).fr[sp.t1]? = some .undef) (Yj:∀ d,(aI sp.inv d).fr[sp.t2]? = some .undef) (Yv:∀ d,(aI sp.inv d).fr[sp.it]? = some (.lit (.pointer (some ⟨sp.a8 d,0,none⟩))))
  {E:Env} {rows:List (List G)} {d0:List G} {itb mb clock:Nat} {nn:Nat} {r1 b0 b1 r2:Nat}
  (Yo:∀ d,(aI sp.inv d).H[sp.id]? = some (.map sp.K sp.V (ri d) (ci d))) (YN:∀ r d d',sp.st r d=some d'→ri d'=ri d∧ci d'=ci d) (Y1:sp.id<m) (Zh:E.w.heap.size≤itb) (hn:(rows.map b9).Nodup) (Y2:∀ r∈rows,b9 r<clock)
  (YO:∀ p,p.Perm rows→(ch sp.st sp.a8 p d0).isSome=true) {a:Act} {w:World} (hI:GA m sp ri ci E rows d0 itb mb nn clock a w) (ro:Option Nat) (Y3:dv ro body) :
  (Code.loop (.seq (.region r1 be false) (.seq (.cond (.tmp sp.t2) .skip (.exit b0)) (.block b1 (.seq (.region r2 aL false) body))))).wpIn (fz ro) 0 P
   (fun e a1 B=>e=.exit b0∧∃ p d,p.Perm rows∧ch sp.st sp.a8 p d0=some d∧cT m E (aI sp.inv d).den a1 B) a w:=by
 obtain⟨o1,o2,e1,g1,p1,q1,g2,W,q2⟩:=ho.r1;obtain⟨o3,l,e3,g3,p3,q3⟩:=ho.r2;refine wpIn_loop (GA m sp ri ci E rows d0 itb mb nn clock) (fun _ w=>(rows.filter fun x => !(w.iterSeen itb).contains (b9 x)).length) hI fun a w hI=>?_;obtain⟨d,loc,X,seen,last,p,hf,Yk,hp,hs,hle,O,hit,Y4,Yd,Ye,Yl⟩:=hI;have Yf:=Yo d;rw[Yd,Ye]at Yf;have Yw:=hs.heap.obj sp.id _ (aU Yf);simp only[af.den,aD]at Yw;obtain⟨k,Zi,ms,YR,Yx,Yy⟩:=Yw;have YS:k=mb:=by
  have h:=YR;rw[Yl]at h;simp only[aK,aN]at h;exact h.1.symm
 subst YS;have Y5:k≠itb:=fun e=>(hs.heap.lt sp.id k nn Yl).2 (by rw[e]; exact O);have Yz:be[0]? = some o1:=by
  have:be.toList[0]? = some o1:=by rw[e1]; rfl
  simpa using this
 have YA:be[1]? = some o2:=by
  have:be.toList[1]? = some o2:=by rw[e1]; rfl
  simpa using this
 have YT:be.size=2:=by
  have:be.toList.length=2:=by rw[e1]; rfl
  simpa using this
 have YB:a.eval (.tmp sp.it)=.pointer (some ⟨itb,0,none⟩):=by
  have h:=hs.eval (.tmp sp.it);have e:(aI sp.inv d).den.eval (.tmp sp.it)=.lit (.pointer (some ⟨sp.a8 d,0,none⟩)):=by
   show (aI sp.inv d).fr.getD sp.it .undef=_
   rw[cD,Yv d];rfl
  rw[e]at h;simp only[rel]at h;rw[h,Yk]
 obtain⟨hlen,Y6⟩:=dj.1 Yy;have Zj:(cK sp.K sp.V rows).length=rows.length:=by simp[cK]
 have I:∀(i:Nat) (e:MapEntry),ms.toList[i]? = some e→∃ r,rows[i]? = some r∧e.born=b9 r:=by
  intro i e hi;have h1:=az hi;have q:i<rows.length:=by omega
  refine⟨rows[i],bC q,?_⟩;exact(Y6 i (sp.K.av (gi rows[i] 0).row,sp.V.av (gi rows[i] 1).row,(gi rows[i] 2).int.toNat) e (by simp[cK,q]) hi).2.2.1
 have hold:∀ x∈ms.toList,x.born<clock:=by
  intro x A;obtain⟨i,hi⟩:=lq A;obtain⟨r,h1,q⟩:=I i x hi;rw[q];exact Y2 r (dK h1)
 have Y7:(ms.toList.map (·.born)).Nodup:=by
  have:ms.toList.map (·.born)=rows.map b9:=by
   apply List.ext_getElem?;intro i;simp only[List.getElem?_map];cases hi:ms.toList[i]? with
   | none =>
    have h1:=List.getElem?_eq_none_iff.1 hi;rw[List.getElem?_eq_none (by omega)];rfl
   | some e =>
    obtain⟨r,h1,q⟩:=I i e hi;rw[h1];simp[q]
  rw[this];exact hn
 refine wpIn_seq (wpIn_region ?_);rw[YT];show wpOpsIn (fz ro) 0 P be _ [0,1] a w
 rw[wpOpsIn_cons];have Yp:=vJ hs (Yi d);have Yq:=vJ hs (Yj d);rcases run_next_at (P:=P) w o1.type itb k clock last seen ms clock hit Yx hold Y4 with⟨h0,Yg⟩|⟨e,he,B,YC,Yg⟩
 ·refine ja Yz g1 (vL p1 YB Yg) (fun c e => by rw [p1] at e; cases e) ro ?_
  rw[q1,wpOpsIn_cons];refine ja YA g2 (vK W (ma Yp) rfl) (fun c e=>by rw[W]at e; cases e) ro ?_;rw[q2];show (Code.seq _ _).wpIn (fz ro) 0 P _ _ w
  refine wpIn_seq (wpIn_cond_false (ma (by simpa[Act.put]using Yq)) (wpIn_exit ?_));refine⟨rfl,p,d,?_,hf,loc,X,?_,hle⟩
  ·have:(rows.filter fun x => !seen.contains (b9 x))=[]:=by
    rw[List.filter_eq_nil_iff];intro x A hc;obtain⟨i,hi⟩:=lq A;have h1:=az hi;have q:i<ms.toList.length:=by omega
    obtain⟨r,Y,h4⟩:=I i _ (bC q);rw[hi]at Y;cases Y;have:ms.toList[i]∈(leftOf ms seen).toList:=by
     unfold leftOf;rw[Array.toList_filter];refine List.mem_filter.2 ⟨pY q,?_⟩;rw[h4];exact hc
    have h5:(leftOf ms seen).toList.length=0:=by simpa using h0
    rw[List.length_eq_zero_iff.1 h5]at this;cases this
   rwa [this,cV]at hp
  ·exact(hs.mf (Yi d) (.tuple #[.bool false])).mf (Yj d) (.bool false)
 ·refine ja Yz g1 (vL p1 YB Yg) (fun c e => by rw [p1] at e; cases e) ro ?_
  rw[q1,wpOpsIn_cons];refine ja YA g2 (vK W (ma Yp) rfl) (fun c e=>by rw[W]at e; cases e) ro ?_;rw[q2];show (Code.seq _ _).wpIn (fz ro) 0 P _ _ _
  refine wpIn_seq (wpIn_cond_true (ma (by simpa[Act.put]using Yq)) (wpIn_skip ?_));show (Code.block _ _).wpIn (fz ro) 0 P _ _ _
  refine wpIn_block (wpIn_seq (wpIn_region ?_));generalize R:setBlock B itb (.mapIter (some k) clock (seen.push e.born) clock)=g;have M:B.heap=w.heap:=by rcases YC with rfl|rfl<;>rfl
  have Y8:c7 w g:=by rw[←R]; rcases YC with rfl|rfl<;>exact⟨rfl,rfl,rfl,by first|exact fun _=>aB _|exact fun _=>dT _ _⟩
  have Yc:g.heap[itb]? = some (.mapIter (some k) clock (seen.push e.born) clock):=by
   rw[←R];exact(CI (by rw[M]; exact hit)).1
  have J:∀ b,b≠itb→g.heap[b]? = w.heap[b]? := by
   intro b t;rw[←R];show (B.heap.setIfInBounds itb _)[b]? = _
   rw[(CI (by rw[M]; exact hit)).2 b t,M]
  have Ym:g.heap.size=w.heap.size:=by
   rw[←R];show (B.heap.setIfInBounds itb _).size=_
   simp[M]
  have Yr:g.heap[k]? = some (.map ms clock):=by rw[J k Y5]; exact Yx
  have bY:fv { w:=w,H:=(aI sp.inv d).den.H,loc:=loc,X:=X } { w:=g,H:=(aI sp.inv d).den.H,loc:=loc,X:=X } :=
   ⟨rfl,rfl,by show w.heap.size≤g.heap.size; omega,fun b t A=>⟨A,J b (fun e=>A (by rw[e]; exact O))⟩,fun b t=>by show b<g.heap.size; rw[Ym]; exact hs.heap.X b t,rfl⟩
  have Y9:gN g X a.defers:=⟨hs.defers.1,fun dd Y_=>by
   obtain⟨D,e,h1,q,Y⟩:=hs.defers.2 dd Y_;exact⟨D,e,by rw[J D (fun e=>by rw[e]at h1; rw[hit]at h1; cases h1)]; exact h1,q,Y⟩⟩
  have YD:=((hs.bY bY Y9).mf (Yi d) (.tuple #[.bool true,e.key,e.val])).mf (Yj d) (.bool true);obtain⟨YE,YF⟩:=mem_left he;obtain⟨i,hi⟩:=lq YE;obtain⟨r,YG,U⟩:=I i e hi;have YH:=dK YG;have YU:=gF bY.toC Yy;obtain⟨k1,k2,_⟩:=(dj.1 YU).2 i (sp.K.av (gi r 0).row,sp.V.av (gi r 1).row,(gi r 2).int.toNat) e (by simp[cK,YG]) hi;have YV:((a.put (some sp.t1) (.tuple #[.bool true,e.key,e.val])).put (some sp.t2) (.bool true)).eval (.tmp sp.it)=.pointer (some ⟨itb,0,none⟩):=by
   have h:=YD.eval (.tmp sp.it);have e:(aI sp.inv d).den.eval (.tmp sp.it)=.lit (.pointer (some ⟨sp.a8 d,0,none⟩)):=by
    show (aI sp.inv d).fr.getD sp.it .undef=_
    rw[cD,Yv d];rfl
   rw[e]at h;simp only[rel]at h;rw[h,Yk]
  have Y':aL[0]? = some o3:=by
   have:aL.toList[0]? = some o3:=by rw[e3]; rfl
   simpa using this
  have YI:aL.toList.drop 1=l:=by rw[e3]; rfl
  have YW:aL.size=l.length+1:=by
   have:aL.toList.length=l.length+1:=by rw[e3]; rfl
   simpa using this
  have YJ:(p++(r::rows.filter fun x => !(seen.push (b9 r)).contains (b9 x))).Perm rows :=
   (Xs p (vG hn YH (by rw[←U]; exact YF)).symm).trans hp
  have y:∃ d',sp.st r d=some d'∧sp.a8 d'=sp.a8 d:=by
   have h:=YO _ YJ;rw[rG,hf]at h;simp only[tx,ch]at h;cases y:sp.st r d with
   |none=>rw[y]at h; cases h
   | some d' =>
    rw[y]at h;simp only[]at h;cases t:ah (sp.a8 d') (sp.a8 d)with
    |true=>exact⟨d',rfl,aR t⟩
    |false=>rw[t]at h; cases h
  obtain⟨d',y,Ys⟩:=y;have Za:ch sp.st sp.a8 (p++[r]) d0=some d':=by
   rw[rG,hf];simp only[tx,ch,y,Ys];simp
  obtain⟨s4,YK,YX⟩:=Pm hm ht hL hr y;rw[YW,CD,List.range'_succ,wpOpsIn_cons];refine ja Y' g3 (Gl p3 YV (run_entry_at (P:=P) g itb k clock seen ms clock e Yc Yr YE Y7)) (fun c e=>by rw[p3]at e; cases e) ro ?_;rw[q3];have Zb:=YD.g_ sp.t3 (v:=.tuple [sp.K.av (gi r 0).row,sp.V.av (gi r 1).row]) (u:=.tuple #[e.key,e.val]) (by simp only[rel]; exact⟨_,rfl,by simp only[ae]; exact⟨k1,k2,trivial⟩⟩);refine um (pf:=τ.pf) (ops:=aL) l (0+1) (sp.rs r d).den s4.den { w:=g,H:=(aI sp.inv d).den.H,loc:=loc,X:=X } _ (by rw[←YI]) (by rw[YI]at YK; exact YK) Zb (fun a3 w3 Zc=>?_) ro;obtain⟨YY,r3,Zd,YZ⟩:=Zc;show body.wpIn (fz ro) 0 P _ a3 w3
  refine wpIn_mono (YX ro Y3 { w:=w3,H:=s4.den.H,loc:=YY,X:=X.re r3 } a3 Zd) fun x a4 w4 A=>?_;obtain⟨rfl,Yh,X4,Ze,Y0⟩:=A;have N:({ w:=g,H:=(aI sp.inv d).den.H,loc:=loc,X:=X }:Env).cO m { w:=w4,H:=(aI sp.inv d').den.H,loc:=Yh,X:=X4 }:=YZ.toM.trans Y0;have Yt:itb<g.heap.size:=pg Yc;have YP:¬ Env.own { w:=g,H:=(aI sp.inv d).den.H,loc:=loc,X:=X } itb:=by
   exact(hs.heap.bY bY).lx O
  have Zg:k<g.heap.size:=pg Yr;have Yu:w4.heap[itb]? = some (.mapIter (some k) clock (seen.push e.born) clock):=by rw[N.same itb Yt YP]; exact Yc
  obtain⟨YL,YM⟩:=YN r d d' y;have Yn:=Yo d';rw[YL,YM,Yd,Ye]at Yn;have YQ:=(N.live sp.id Y1 ⟨_,aU Yf,rfl,fun v _=>fI v⟩ ⟨_,aU Yn,rfl⟩).2;refine⟨⟨d',Yh,X4,seen.push e.born,clock,p++[r],Za,by rw[Ys,Yk],?_,Ze,?_,(N.X itb Yt).1.2 O,Yu,aB _,by rw[YL,Yd],by rw[YM,Ye],?_⟩,?_⟩
  ·rw [U, gq]
   exact YJ
  ·refine Env.cO.trans (E' := { w := g, H := (aI sp.inv d).den.H, loc := loc, X := X }) ⟨hle.past, ?_, ?_, hle.own, hle.live, hle.X, hle.rl, hle.env.trans Y8, hle.grow⟩ N
   ·have := hle.size
    show E.w.heap.size≤g.heap.size
    rw[Ym];exact this
   ·intro b t Zf
    show g.heap[b]? = _
    rw[J b (by omega)];exact hle.same b t Zf
  ·rw [show Yh[sp.id]? = loc[sp.id]? from YQ]
   exact Yl
  ·show (rows.filter fun x => !(w4.iterSeen itb).contains (b9 x)).length < (rows.filter fun x => !(w.iterSeen itb).contains (b9 x)).length
   rw[vM Yu,vM hit];have:=(vG hn YH (by rw[←U]; exact YF)).length_eq;rw[←U]at this;simp only[List.length_cons]at this;omega
theorem PG(hm:P.follows .mixedOrders=true)(ht:ao P τ)(hL:ay P m L body)(hr:nB P τ L m sp aL body)(W:kZ P sp aH be aL)
  (Yj:∀ d,(aI sp.inv d).fr[sp.t1]? = some .undef) (Yk:∀ d,(aI sp.inv d).fr[sp.t2]? = some .undef) (Yl:∀ d,(aI sp.inv d).fr[sp.it]? = some (.lit (.pointer (some ⟨sp.a8 d,0,none⟩))))
  {r1 b0 b1 r2:Nat} (M:∀ d,(aI sp.inv d).H[sp.id]? = some (.map sp.K sp.V (ri d) (ci d))) (Yc:∀ r d d',sp.st r d=some d'→ri d'=ri d∧ci d'=ci d) (R:sp.id<m)
  {s:aj} {d:List G} {rows:List (List G)} {clock:Nat} (B:s.eval (.tmp sp.y)=.map sp.id) (hid:s.H[sp.id]? = some (.map sp.K sp.V rows clock)) (hn:(rows.map b9).Nodup)
  (Ym:∀ r∈rows,b9 r<clock) (Yn:∀ b,eJ m sp.inv sp.ps (fi sp.opens (sp.rQ s b))=some (true,sp.init d b)) (Yf:∀ b,sp.a8 (sp.init d b)=b) (q:∀ b,ri (sp.init d b)=rows∧ci (sp.init d b)=clock)
  (Yd:∀ b p,p.Perm rows→(ch sp.st sp.a8 p (sp.init d b)).isSome=true) (E:Env) (a:Act) (hs:br s.den E a) (ro:Option Nat) (Yo:dv ro body) {Q:Exit→Act→World→Prop}
  (hQ:∀ D I,(∃ b p d',p.Perm rows∧ch sp.st sp.a8 p (sp.init d b)=some d'∧cT m E (aI sp.inv d').den D I)→Q .normal D I) :
  wpOpsIn (fz ro) 0 P aH (Exit.then ((Code.block b0 (.loop (.seq (.region r1 be false) (.seq (.cond (.tmp sp.t2) .skip (.exit b0)) (.block b1 (.seq (.region r2 aL false) body)))))).wpIn (fz ro) 0 P Q) Q) [aH.toList.dropLast.length] a E.w:=by
 obtain⟨o2,ty,e1,g2,Y,q2,A⟩:=W.r0;have Yp:aH[aH.toList.dropLast.length]? = some o2:=by
  have:aH.toList[aH.toList.dropLast.length]? = some o2:=by
   rw[e1];simp
  simpa using this
 have N:E.H[sp.id]? = some (.map (cK sp.K sp.V rows) clock):=by
  rw[hs.H];exact aU hid
 have Yq:rel E (.map sp.id) (a.eval (.tmp sp.y)):=by
  have:=hs.eval (.tmp sp.y)
  rwa [aj.jA,B]at this
 obtain⟨mb,n,ms,hc,Yg,U,Yw⟩:=mO hs.heap N Yq;obtain⟨⟨kt,et⟩,A⟩:=nR.1 A;have Yv:mb<E.w.heap.size:=pg U;rw[wpOpsIn_cons];refine ja Yp g2 (Gm Y hc (run_range_map E.w ty kt et mb ms clock (en A) U)) (fun c e=>by rw[Y]at e; cases e) ro ?_;rw[q2];show (Code.block _ _).wpIn (fz ro) 0 P _ _ _
 generalize t:E.w.alloc (.mapIter (some mb) clock #[] clock)=g;have Yu:g.heap.size=E.w.heap.size+1:=by rw[←t]; show (E.w.heap.push _).size=_; simp
 have hold:∀ b,b<E.w.heap.size→g.heap[b]? = E.w.heap[b]? := fun b i=>by rw[←t]; exact(show (E.w.heap.push _)[b]? = _ by rw[sZ,if_neg (by omega)])
 have Yh:g.heap[E.w.heap.size]? = some (.mapIter (some mb) clock #[] clock):=by rw[←t]; exact(show (E.w.heap.push _)[E.w.heap.size]? = _ by simp)
 have Yr:c7 E.w g:=by rw[←t]; exact⟨rfl,rfl,rfl,by first|exact fun _=>aB _|exact fun _=>dT _ _⟩
 have bY:fv { w:=E.w,H:=E.H,loc:=E.loc,X:=E.X } { w:=g,H:=E.H,loc:=E.loc,X:=E.X.or fun b=>b=E.w.heap.size } :=
  ⟨rfl, rfl, by show E.w.heap.size ≤ g.heap.size; omega, fun b i B => ⟨fun h => h.elim B (fun e => absurd i (by rw [e]; exact n5 _)), hold b i⟩, fun b i => by
   show b<g.heap.size
   rcases i with i|i
   ·have := hs.heap.X b i
    omega
   ·omega,rfl⟩
 have Ys:=(hs.bY bY (tK (X':=E.X.or fun b=>b=E.w.heap.size) (w':=g) hs.defers (fun _ h1 k=>⟨.inl h1,k⟩) fun b h1 _=>hold b (hs.heap.X b h1))).g_ sp.it (v:=.lit (.pointer (some ⟨E.w.heap.size,0,none⟩))) (u:=.pointer (some ⟨E.w.heap.size,0,none⟩)) (by simp only[rel]);have Yi:br (sp.rQ s E.w.heap.size).den { w:=g,H:=E.H,loc:=E.loc,X:=E.X.or fun b=>b=E.w.heap.size } _:=Ys;obtain⟨loc,X4,Yt,l⟩:=((j8 sp.opens _).trans (iC (Yn E.w.heap.size))) _ _ Yi;have O:=M (sp.init d E.w.heap.size);rw[(q _).1,(q _).2]at O;have Ye:=(l.live sp.id R ⟨_,N,rfl,fun v _=>fI v⟩ ⟨_,aU O,rfl⟩).2;refine wpIn_block (wpIn_mono (PF hm ht hL hr W Yj Yk Yl (ri:=ri) (ci:=ci) (E:=E) (rows:=rows) (d0:=sp.init d E.w.heap.size) (itb:=E.w.heap.size) (mb:=mb) (nn:=n) (clock:=clock)
  M Yc R (aB _) hn Ym (Yd _) ?_ ro Yo) fun e D I J=>?_)
 ·refine ⟨sp.init d E.w.heap.size, loc, X4, #[], clock, [], rfl, Yf _, ?_, Yt, ?_, (l.X E.w.heap.size (by show _ < g.heap.size; omega)).1.2 (.inr rfl), ?_, aB _, (q _).1, (q _).2, ?_⟩
  ·have : (rows.filter fun x => !(#[] : Array Nat).contains (b9 x)) = rows := List.filter_eq_self.2 (fun x _ => by simp)
   rw[List.nil_append,this]
  ·refine Env.cO.trans (E' := { w := g, H := E.H, loc := E.loc, X := E.X.or fun b => b = E.w.heap.size }) ⟨fun _ _ h => h, ?_, ?_, fun b _ h => h, fun _ _ _ h => ⟨h, rfl⟩, fun b i => ⟨⟨fun h => h.elim id fun e => absurd i (by rw [e]; exact n5 _), .inl⟩, Iff.rfl⟩, fun _ _ h => ⟨h, fun _ J => J⟩, Yr, fun _ _ _ o h1 k _ => ⟨⟨[], (cV _).symm⟩, o, h1, k⟩⟩ l
   ·show E.w.heap.size ≤ g.heap.size
    omega
   ·exact fun b i _=>hold b i
  ·rw [l.same E.w.heap.size (by show _ < g.heap.size; omega) ?_]
   ·exact Yh
   ·exact(hs.heap.bY bY).lx (.inr rfl)
  ·rw [show loc[sp.id]? = E.loc[sp.id]? from Ye]
   exact Yg
 ·obtain ⟨rfl, p, d', h1, k, h3⟩ := J
  simp only[xh,if_true];exact hQ _ _ ⟨_,p,d',h1,k,h3⟩
theorem PH(hm:P.follows .mixedOrders=true)(Y:ao P τ)(hL:ay P m L body)(hr:nB P τ L m sp aL body)(l:kZ P sp aH be aL)
  (I:∀ d,(aI sp.inv d).fr[sp.t1]? = some .undef) (J:∀ d,(aI sp.inv d).fr[sp.t2]? = some .undef) (M:∀ d,(aI sp.inv d).fr[sp.it]? = some (.lit (.pointer (some ⟨sp.a8 d,0,none⟩))))
  {r0 r1 b0 b1 r2:Nat} (A:∀ d,(aI sp.inv d).H[sp.id]? = some (.map sp.K sp.V (ri d) (ci d))) (u:∀ r d d',sp.st r d=some d'→ri d'=ri d∧ci d'=ci d) (N:sp.id<m)
  {s s1:aj} {d:List G} {rows:List (List G)} {clock:Nat} (hp:eT P τ.pf aH aH.toList.dropLast s.den s1.den) (hx:s1.eval (.tmp sp.y)=.map sp.id) (hid:s1.H[sp.id]? = some (.map sp.K sp.V rows clock)) (hn:(rows.map b9).Nodup)
  (g:∀ r∈rows,b9 r<clock) (O:∀ b,eJ m sp.inv sp.ps (fi sp.opens (sp.rQ s1 b))=some (true,sp.init d b)) (B:∀ b,sp.a8 (sp.init d b)=b) (R:∀ b,ri (sp.init d b)=rows∧ci (sp.init d b)=clock)
  (v:∀ b p,p.Perm rows→(ch sp.st sp.a8 p (sp.init d b)).isSome=true) (E:Env) (a:Act) (hs:br s.den E a) (ro:Option Nat) (U:dv ro body) :
  (me r0 b0 r1 b1 r2 aH be aL sp.t2 body).wpIn (fz ro) 0 P (fun e i k=>e=.normal∧∃ b p d',p.Perm rows∧ch sp.st sp.a8 p (sp.init d b)=some d'∧cT m E (aI sp.inv d').den i k) a E.w:=by
 refine wpIn_seq (wpIn_region ?_);obtain⟨o2,ty,q,_⟩:=l.r0;have W:aH.size=aH.toList.dropLast.length+1:=by
  have h:=congrArg List.length q;simpa using h
 have hl:dV aH.size=tk 0 aH.toList.dropLast.length++[aH.toList.dropLast.length]:=by
  rw[W,List.range_succ,CD]
 rw[hl];refine zM (pf:=τ.pf) ro aH.toList.dropLast 0 s.den s1.den E a _ (fun j o t=>?_) hp hs fun i k hc=>?_
 ·have g := az t
  have:aH.toList[j]? = some o:=by
   rw[q,cn g];exact t
  simpa using this
 ·obtain ⟨D, r1, h1, h2⟩ := hc
  refine PG hm Y hL hr l I J M A u N hx hid hn g O B R v { w:=k,H:=s1.den.H,loc:=D,X:=E.X.re r1 } i h1 ro U fun a2 w2 ⟨b,p,d',g1,g2,g3⟩=>?_;exact⟨rfl,b,p,d',g1,g2,cT.after h2.toM g3⟩
theorem PI(hm:P.follows .mixedOrders=true)(J:ao P τ){rest:Code}{q qr:bI}(hL:ay P m L body)(hr:nB P τ L m sp aL body)(ho:kZ P sp aH be aL)
  (Y:∀ d,(aI sp.inv d).fr[sp.t1]? = some .undef) (Yc:∀ d,(aI sp.inv d).fr[sp.t2]? = some .undef) (Yd:∀ d,(aI sp.inv d).fr[sp.it]? = some (.lit (.pointer (some ⟨sp.a8 d,0,none⟩))))
  {r0 r1 b0 b1 r2:Nat} (R:∀ d,(aI sp.inv d).H[sp.id]? = some (.map sp.K sp.V (ri d) (ci d))) (N:∀ r d d',sp.st r d=some d'→ri d'=ri d∧ci d'=ci d) (Ye:sp.id<m)
  {rows:List G→List (List G)} {clock:List G→Nat} {pre:List G→aj} (hy:∀ d,(kT P τ aH aH.toList.dropLast (aI q.inv d) fun s=>.done .normal s).ka=some (.normal,pre d)) (l:∀ d,(pre d).eval (.tmp sp.y)=.map sp.id) (hid:∀ d,(pre d).H[sp.id]? = some (.map sp.K sp.V (rows d) (clock d)))
  (Yf:∀ d b,eJ m sp.inv sp.ps (fi sp.opens (sp.rQ (pre d) b))=some (sp.side d b,sp.init d b)) (U:∀ d b,sp.a8 (sp.init d b)=b) (Yg:∀ d b,ri (sp.init d b)=rows d∧ci (sp.init d b)=clock d)
  (hinv:qr.inv=sp.inv) (O:qr.outs=q.outs) (u:pj P m rest qr) (Yh:∀ d,q.st d=hY sp qr.st (rows d) (clock d) d) :
  pj P m (.seq (me r0 b0 r1 b1 r2 aH be aL sp.t2 body) rest) q:=by
 intro d i d' h;rw[Yh]at h;unfold hY at h;cases t:jG (rows d) (clock d)with
 |false=>rw[t]at h; cases h
 | true =>
  rw[t]at h;simp only[cond_true]at h;have W:=zO h;obtain⟨hn,Yi⟩:=zP t;have k:∀ b p,p.Perm (rows d)→sp.side d b=true∧∃ d1,ch sp.st sp.a8 p (sp.init d b)=some d1∧qr.st d1=some (some i,d'):=by
   intro b p g;have:=W b p g;cases A:sp.side d b with
   |false=>rw[A]at this; cases this
   | true =>
    rw[A]at this;simp only[cond_true]at this;cases hf:ch sp.st sp.a8 p (sp.init d b)with
    |none=>rw[hf]at this; cases this
    | some d1 =>
     rw[hf]at this;exact⟨rfl,d1,rfl,this⟩
  obtain⟨_,d1,_,g1⟩:=k 0 (rows d) (pZ _);obtain⟨o,B,_⟩:=u d1 i d' g1;refine⟨o,by rw[←O]; exact B,fun ro D E a hs=>wpIn_seq (wpIn_mono (PH hm J hL hr ho Y Yc Yd R N Ye (Pt J (hy d)) (l d) (hid d) hn Yi (fun b=>by rw[Yf d b,(k b (rows d) (pZ _)).1]) (U d) (Yg d) (fun b p g=>?_) E a hs ro (Pl D.seq1)) fun e a1 w1 hq=>?_)⟩
  ·obtain ⟨_, d2, h2, _⟩ := k b p g
   rw[h2];rfl
  ·obtain ⟨rfl, b, p, d2, g, hf, loc, X, Yj, hle⟩ := hq
   obtain⟨_,d3,M,h4⟩:=k b p g;rw[hf]at M;cases M;obtain⟨o',I,v⟩:=u d2 i d' h4;rw[B]at I;cases I;rw[hinv]at v;exact wpIn_mono (v ro D.D5 { w:=w1,H:=(aI sp.inv d2).den.H,loc:=loc,X:=X } a1 Yj) fun x a2 w2 l=>⟨l.1,cT.after hle l.2⟩
theorem ay.PJ(hm:P.follows .mixedOrders=true)(h:ao P τ){fn:Func}{q qr:bI}{r0 b0 r1 b1 r2:Nat}{rows:List G→List (List G)}{clock:List G→Nat}
  (u:∀ d,(aI sp.inv d).H[sp.id]? = some (.map sp.K sp.V (ri d) (ci d))) (k:∀ r d d',sp.st r d=some d'→ri d'=ri d∧ci d'=ci d) (w:eg sp.id m=true) (R:jD q.key (bl (aY fn))=true) (U:ay P m L (aY fn))
  (i:cutAt fn q.key=.seq (me r0 b0 r1 b1 r2 (jH (cutAt fn q.key)) (zT (cutAt fn q.key)) (pk (cutAt fn q.key)) sp.t2 (rJ (cutAt fn q.key))) (zQ (cutAt fn q.key)))
  (a:(vO P sp (jH (cutAt fn q.key))&&vP sp (zT (cutAt fn q.key))&&vQ sp (pk (cutAt fn q.key)))=true)
  (hr:nB P τ L m sp (pk (cutAt fn q.key)) (rJ (cutAt fn q.key)))
  (A:∀ d,(aI sp.inv d).fr[sp.t1]? = some .undef) (B:∀ d,(aI sp.inv d).fr[sp.t2]? = some .undef) (D:∀ d,(aI sp.inv d).fr[sp.it]? = some (.lit (.pointer (some ⟨sp.a8 d,0,none⟩))))
  {pre:List G→aj} (W:∀ d,(kT P τ (jH (cutAt fn q.key)) (jH (cutAt fn q.key)).toList.dropLast (aI q.inv d) fun s=>.done .normal s).ka=some (.normal,pre d)) (X:∀ d,(pre d).eval (.tmp sp.y)=.map sp.id) (hid:∀ d,(pre d).H[sp.id]? = some (.map sp.K sp.V (rows d) (clock d)))
  (I:∀ d b,eJ m sp.inv sp.ps (fi sp.opens (sp.rQ (pre d) b))=some (sp.side d b,sp.init d b)) (v:∀ d b,sp.a8 (sp.init d b)=b) (J:∀ d b,ri (sp.init d b)=rows d∧ci (sp.init d b)=clock d)
  (hinv:qr.inv=sp.inv) (l:qr.outs=q.outs) (t:jE P τ L m (zQ (cutAt fn q.key)) qr) (M:∀ d,q.st d=hY sp qr.st (rows d) (clock d) d) :
  ay P m (L.gk m q) (aY fn):=by
 refine ay.Gp R U fun g=>?_;rw[i]at g;obtain⟨N,O⟩:=Pr g;simp only[aq]at a;rw[i];exact PI hm h N hr (Gq a.1.1 a.1.2 a.2) A B D u k (by rw[←fJ]; exact w) W X hid I v J hinv l (t.sat hm h O) M
end range
end Go.AL

namespace Go.AL
open Go
variable [Dr]
theorem GB{a:G}{l:List G}:gi (a::l) 0=a:=rfl
theorem GC{a:G}{l:List G}{n:Nat}:gi (a::l) (n+1)=gi l n:=rfl
theorem PK{n:Int}:(G.i n).int=n:=rfl
theorem PL{n:Nat}:ah n n=true:=Nat.beq_refl n
def z8(sp:dS)(tl:List G→Option (Option Nat × List G))(rows:List (List G))(clock:Nat)(d:List G):Option (Option Nat × List G) :=
 match rows with
 | [x]=>bif jG [x] clock then bif sp.side d 0 then (ch sp.st sp.a8 [x] (sp.init d 0)).bind tl else none else none
 |_=>none
theorem PM{sp:dS}{tl:List G→Option (Option Nat × List G)}{rows:List (List G)}{clock:Nat}{d:List G}{r:Option Nat × List G}
  (hs:∀ b,sp.side d b=sp.side d 0) (hf:∀ x b,(ch sp.st sp.a8 [x] (sp.init d b)).bind tl=(ch sp.st sp.a8 [x] (sp.init d 0)).bind tl)
  (h:z8 sp tl rows clock d=some r):hY sp tl rows clock d=some r:=by
 unfold z8 at h;split at h
 case h_2=>cases h
 rename_i x;cases h1:jG [x] clock with
 |false=>rw[h1]at h; cases h
 | true =>
  cases a:sp.side d 0 with
  |false=>rw[h1,a]at h; cases h
  | true =>
   rw[h1,a]at h;unfold hY;rw[h1];refine Gn fun b p g=>?_;rw[List.perm_singleton.1 g,hs b,a,cond_true,hf x b];exact h
theorem PN{st:List G→List G→Option (List G)}{a8:List G→Nat}{x e:List G}:ch st a8 [x] e=(st x e).bind fun d'=>bif ah (a8 d') (a8 e) then some d' else none:=by
 simp only[ch];cases st x e<;>rfl
theorem PO{α β:Type}{c:Bool}{a b:Option α}{f:α→Option β}:(bif c then a else b).bind f=bif c then a.bind f else b.bind f:=by
 cases c<;>rfl
theorem PQ{c:Bool}{X Y:Option (Option Nat × List G)}{K:Nat→List G→Option (List G)}{r:List G}(h:∀ v,X=some v→Y=some v)(hr:bD c (dR X) K=some r):bD c (dR Y) K=some r:=by
 cases X with
 |some v=>rw[h v rfl]; exact hr
 |none=>cases c<;>cases hr
end Go.AL

namespace Go.AL
open Go
variable [Dr]
end Go.AL
