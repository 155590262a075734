/-
 What is proved here: the function that slices.Backward hands back,called with a round's body: the rounds come from the last row to the first one. No program in sight; no condition.
-/
import Derived.Test.YtjmnkdlhpemooaaGreatDoorMD
import Derived.Test.YtjmnkdlhpemooaaGreatDoorMC
import Derived.Lib.LaidTab
import Derived.Sort.Grow
import Derived.Deep.Draws
set_option linter.all false
open Array renaming getElem?_push→wA,ext'→fm,getElem?_eq_some_iff→gr
open Bool renaming and_eq_true→ax
open Go.Deferred renaming ofValue→Sb
open Go.Exit renaming inBlock→AT
open Go.MapKept renaming heap_set→HD
open Go.World renaming putObj_heap_other→Hx,putObj_heap_same→ag4,size_alloc→HF,alloc_heap_new→ag5
open List renaming append_nil→db,append_assoc→gp,getElem?_append_left→cK,getElem?_eq_getElem→bt,mem_of_getElem?→eB,all_eq_true→dq,getD_eq_getElem?_getD→bG,mem_cons→bR,getElem?_of_mem→nl,replicate→bO,mem_cons_self→cO,range'→nq,range→dP,mem_range→fF,range_eq_range'→AS,getElem_mem→ly
open List.Perm renaming refl→nu
open Nat renaming le_refl→aD,le_add_right→eR,lt_of_lt_of_le→dz,zero_le→eI,beq→ae,eq_of_beq_eq_true→bk,ble→ep,blt→er,blt_eq→jb,le_of_ble_eq_true→qy,lt_irrefl→qz
open Option renaming isSome_iff_exists→qp,bind_some→AZ
open Option.some renaming injEq→aQ
open Prod.mk renaming injEq→a7
namespace Go.AL
open Go
variable [Dr]
theorem Dl{P:Program}{pf:FuncId→Bool}{ops:Array Oper}{o:Oper}{s:St}{v:AV}(hg:o.guard=none)(d:cL pf o.op=.read)(h:eL P s.eval s.H o.op=some v):Yields P pf ops o s v s.H:=by
 unfold Yields;rw[show bQ ops s.fr o=some true from by unfold bQ; rw[hg]];simp only[d];exact⟨trivial,h⟩
theorem jQ{P:Program}{pf:FuncId→Bool}{ops:Array Oper}{o:Oper}{s:St}{v:AV}(hg:o.guard=none)(d:cL pf o.op=.pure)(h:gS P s.eval o.op=some v):Yields P pf ops o s v s.H:=by
 unfold Yields;rw[show bQ ops s.fr o=some true from by unfold bQ; rw[hg]];simp only[d];exact⟨trivial,.inl h⟩
structure u9 (S T:TypeId) (bg bS bq eG:Array Oper):Prop where
 r0:∃ o1 o2 o3 o4 t t',bg.toList=[o1,o2,o3,o4]∧(o1.guard=none∧o1.op=.load S (.tmp 1)∧o1.dst=some 4)∧(o2.guard=none∧o2.op=.call { callee:=.builtin .len,args:=#[.tmp 4],argTypes:=#[S] }∧o2.dst=some 5) ∧
  (o3.guard=none∧o3.op=.binOp .sub t (.tmp 5) (.const (.int .i64 1)) t'∧o3.dst=some 6)∧(o4.guard=none∧o4.op=.assign (.tmp 6)∧o4.dst=some 3)
 r1:∃ o1 o2 t t',bS.toList=[o1,o2]∧(o1.guard=none∧o1.op=.move (.tmp 3)∧o1.dst=some 7)∧(o2.guard=none∧o2.op=.binOp .geq t (.tmp 7) (.const (.int .i64 0)) t'∧o2.dst=some 8)
 r2:∃ o1 o2 o3 t t',bq.toList=[o1,o2,o3]∧(o1.guard=none∧o1.op=.move (.tmp 3)∧o1.dst=some 9)∧(o2.guard=none∧o2.op=.binOp .sub t (.tmp 9) (.const (.int .i64 1)) t'∧o2.dst=some 10)∧(o3.guard=none∧o3.op=.assign (.tmp 10)∧o3.dst=some 3)
 r3:∃ o1 o2 o3 o4 o5 o6 o7 o8 t tys,eG.toList=[o1,o2,o3,o4,o5,o6,o7,o8]∧(o1.guard=none∧o1.op=.move (.tmp 0)∧o1.dst=some 11)∧(o2.guard=none∧o2.op=.move (.tmp 3)∧o2.dst=some 12)∧(o3.guard=none∧o3.op=.load S (.tmp 1)∧o3.dst=some 13) ∧
  (o4.guard=none∧o4.op=.move (.tmp 3)∧o4.dst=some 14)∧(o5.guard=none∧o5.op=.indexAddr S (.tmp 13) (.tmp 14)∧o5.dst=some 15)∧(o6.guard=none∧o6.op=.load T (.tmp 15)∧o6.dst=some 16) ∧
  (o7.guard=none∧o7.op=.call { callee:=.value (.tmp 11),args:=#[.tmp 12,.tmp 16],argTypes:=tys }∧o7.dst=some 17)∧(o8.guard=none∧o8.op=.unOp .not t (.tmp 17)∧o8.dst=some 18)
def u_(bg bS bq eG:Array Oper)(r0 r1 r2 r3 b0 b1:Nat):Code :=
 .seq (.region r0 bg false) (.block b0 (.loop (.seq (.seq (.region r1 bS false) (.cond (.tmp 8) .skip (.exit b0))) (.seq (.block b1 (.seq (.region r3 eG false) (.cond (.tmp 18) .ret .skip))) (.region r2 bq false)))))
def jR(y cp:AV)(i:AV):List AV:=[y,cp,.undef,i,.undef,.undef,.undef,.undef,.undef,.undef,.undef,.undef,.undef,.undef,.undef,.undef,.undef,.undef,.undef]
structure yX (P:Program) (S T:TypeId) (sl:AV) (n:Nat) (rv:Nat→AV):Prop where
 load:∀ H,ig P S (.cptr [sl]) H=some sl
 len:xz (b_ P S) sl=some (.lit (.int .i64 (n:Nat)))
 idx:∀ i:Int,0≤i→i<n→∃ cells,j0 (b_ P S) sl (.lit (.int .i64 i))=some (.cptr cells)∧∀ H,ig P T (.cptr cells) H=some (rv i.toNat)
 cl:AV.bl [sl]=true
end Go.AL
namespace Go.AL
open Go
variable [Dr]
section bw
variable {P:Program} {pf:FuncId→Bool} {S T:TypeId} {sl:AV} {n:Nat} {rv:Nat→AV} {bg bS bq eG:Array Oper}
theorem Lj{E:Env}:∀{as d:List AV} {vs:List Value},af E as vs→as.length=d.length→(∀(i:Nat) (b:AV),d[i]? = some b→b=.undef∨as[i]? = some b)→af E d vs
 | [],[],[],_,_,_=>by simp[af]
 | [],[],_::_,h,_,_=>by simp[af]at h
 |_::_,[],_,_,h,_=>by simp at h
 | [],_::_,_,_,h,_=>by simp at h
 |_::_,_::_,[],h,_,_=>by simp[af]at h
 | a::as,b::d,v::vs,h,k,hm=>by
  simp only[af]at h⊢;refine⟨?_,Lj h.2 (by simpa using k) fun i q hb=>hm (i+1) q (by simpa using hb)⟩;rcases hm 0 b rfl with rfl|e
  ·simp[rel]
  ·have e : a = b := by simpa using e
   rw[←e];exact h.1
def Env.gK(E:Env):Env:={ E with X:=⟨E.X.x,fun _=>False,E.X.r⟩ }
theorem Dm{E:Env}(h:ar E.gK):gC E.gK E:=⟨rfl,rfl,aD _,fun b _ d=>⟨d,rfl⟩,h.X,rfl⟩
theorem Lk{w:World}{X:XS}{l:List Deferred}(h:je w X l)(k:∀ b,¬ X.z b):l=[]:=by
 cases l with
 |nil=>rfl
 | cons d l =>
  obtain⟨D,_,_,_,q⟩:=h.2 d cO;exact(k D q).elim
theorem Dn{J:Env→Prop}(u:∀ E E',J E→E.le E'→ar E'→E'.H=E.H→J E'){id:Nat}{ops:Array Oper}{fr fr':List AV}{E:Env}{a:Act}{Q:Exit→Act→World→Prop}(v:bP ⟨fr,E.H⟩ E.gK a)(y:J E)
  (h:fI P pf ops ops.toList ⟨fr,E.H⟩ ⟨fr',E.H⟩) (B:∀ k E',J E'→bP ⟨fr',E'.H⟩ E'.gK k→Q .normal k E'.w):(Code.region id ops false).wpIn (fz none) 0 P Q a E.w :=
 I_ v h (fun k w' I=>by
  obtain⟨q,r',h1,d⟩:=I;exact B k { w:=w',H:=E.H,loc:=q,X:=E.X.re r' } (u _ _ y ⟨d.past,d.size,d.same,d.own,d.live,⟨rfl,rfl⟩,d.rl,d.env,d.grow⟩ (h1.heap.cH (Dm (E:={ w:=w',H:=E.H,loc:=q,X:=E.X.re r' }) h1.heap)) rfl) h1) none
theorem Ll{J:Env→Prop}(v:∀ E E',J E→E.le E'→ar E'→E'.H=E.H→J E'){ops:Array Oper}{l:List Oper}{k:Nat}{rest:List Nat}{fr fr':List AV}{E:Env}{a:Act}{Q:Exit→Act→World→Prop}
  (y:∀(j:Nat) (o:Oper),l[j]? = some o→ops[k+j]? = some o) (B:bP ⟨fr,E.H⟩ E.gK a) (I:J E)
  (h:fI P pf ops l ⟨fr,E.H⟩ ⟨fr',E.H⟩) (M:∀ q E',J E'→bP ⟨fr',E'.H⟩ E'.gK q→wpOpsIn (fz none) 0 P ops Q rest q E'.w):wpOpsIn (fz none) 0 P ops Q (nq k l.length++rest) a E.w :=
 yL none l k _ _ E.gK a rest y h B (fun q w' N=>by
  obtain⟨u,r',h1,d⟩:=N;exact M q { w:=w',H:=E.H,loc:=u,X:=E.X.re r' } (v _ _ I ⟨d.past,d.size,d.same,d.own,d.live,⟨rfl,rfl⟩,d.rl,d.env,d.grow⟩ (h1.heap.cH (Dm (E:={ w:=w',H:=E.H,loc:=u,X:=E.X.re r' }) h1.heap)) rfl) h1)
theorem Lm{E E':Env}:∀{fr:List AV} {vs:List Value},af E fr vs→(∀ b∈fr,b=.undef∨(∃ v,b=.lit v)∨∀ c,rel E b c→rel E' b c)→af E' fr vs
 | [],[],_,_=>by simp[af]
 | [],_::_,h,_=>by simp[af]at h
 |_::_,[],h,_=>by simp[af]at h
 | b::fr,v::vs,h,hb=>by
  simp only[af]at h⊢;refine⟨?_,Lm h.2 fun x d=>hb x (List.mem_cons_of_mem _ d)⟩;rcases hb b cO with rfl|⟨u,rfl⟩|h'
  ·simp[rel]
  ·simpa only[rel]using h.1
  ·exact h' _ h.1
theorem iF{ops:Array Oper}{o:Oper}{l:List Oper}{fr:List AV}{H:List ab}{s':St}{v:AV}{d:Tmp}(h:Yields P pf ops o ⟨fr,H⟩ v H)(k:o.dst=some d)(h':fI P pf ops l ⟨fr.set d v,H⟩ s'):fI P pf ops (o::l) ⟨fr,H⟩ s' :=
 ⟨v, H, h, by
  simp only[St.put,jg,k];exact h'⟩
theorem va{ops:Array Oper}{s:St}:fI P pf ops [] s s:=rfl
theorem Ln{t:TypeId}{k:Bool}{a b:Int}(h:au (a-b)=true):gA P .sub t k (.lit (.int .i64 a)) (.lit (.int .i64 b))=some (.lit (.int .i64 (a-b))):=by
 simp only[gA,ic,if_true,lA];rw[pI h]
theorem WE{t:TypeId}{k:Bool}{a b:Int}:gA P .geq t k (.lit (.int .i64 a)) (.lit (.int .i64 b))=some (.lit (.bool (decide (a ≥ b)))):=by
 simp only[gA,ic,if_true,lA]
theorem Dp{ops:Array Oper}{l:List Oper}(h:ops.toList=l)(i:Nat):ops[i]? = l[i]? := by rw[←h]; simp
theorem WG(hT:yX P S T sl n rv){f:FuncId}{fn:Func}{r0 r1 r2 r3 b0 b1:Nat}(hf:P.funcs[f]? = some fn)(hb:fn.body=some (u_ bg bS bq eG r0 r1 r2 r3 b0 b1))(hn:fn.ntmps=19)(hr:fn.results=#[])(ho:u9 S T bg bS bq eG)
  {l:Nat} (hlen:n≤1048576) (J:Nat→Env→Prop) (N:∀ k E,J k E→ar E) (I:∀ k E E',J k E→E.le E'→ar E'→E'.H=E.H→J k E')
  {c:Value}
  (hround:∀ k E (cs:Array Value),k<n→J k E→af E [.lit (.int .i64 ((n:Int)-1-k)),rv (n-1-k)] cs.toList→YieldAt (fz none) 0 P l cs E.w fun e W'=>e=.returned (.bool true)∧∃ E',E'.w=W'∧J (k+1) E'∧E.bF E')
  {E0:Env} (h0:J 0 E0) (hcp:rel E0 (.cptr [sl]) c):CallsIn (fz none) 0 P f #[.func (.yield l) #[] #[],c] E0.w fun e W'=>(∃ v,e=.returned v)∧∃ E',E'.w=W'∧J n E':=by
 obtain⟨o1,o2,o3,o4,t1,t2,q0,⟨g1,p1,d1⟩,⟨g2,p2,d2⟩,⟨g3,p3,d3⟩,⟨g4,p4,d4⟩⟩:=ho.r0;refine callsIn_of_wp_marks hf hb trivial ?_;have hin:∀ j:Int,0≤j→j≤n→au (j-1)=true:=fun j h1 h2=>kX.2 ⟨by omega,by omega⟩;obtain⟨y,hy⟩:∃ y:AV,y=.lit (.func (.yield l) #[] #[]):=⟨_,rfl⟩
 obtain⟨cp,V⟩:∃ cp:AV,cp=.cptr [sl]:=⟨_,rfl⟩
 rw[←V]at hcp;have hs0:bP ⟨y::cp::bO 17 .undef,E0.H⟩ E0.gK { tmps:=#[.func (.yield l) #[] #[],c]++Array.replicate (fn.ntmps-2) undef,defers:=[] }:=by
  have hE0:ar E0.gK:=(N 0 E0 h0).cH (rq (N 0 E0 h0));refine⟨rfl,?_,pd _ _,hE0⟩;rw[hn];simp only[Array.toList_append,Array.toList_replicate];show af E0.gK ([y,cp]++bO 17 .undef) ([.func (.yield l) #[] #[],c]++bO 17 undef)
  refine j7 (by simp only[af]; exact⟨by rw[hy]; simp[rel],ub (rq (N 0 E0 h0)) _ hcp,trivial⟩) ?_;exact ua (bO 17 undef)
 refine wpIn_seq (Dn (pf:=fun _=>false) (J:=J 0) (I 0) hs0 h0 (fr':=[y,cp,.undef,.lit (.int .i64 ((n:Int)-1)),sl,.lit (.int .i64 (n:Int)),.lit (.int .i64 ((n:Int)-1)),.undef,.undef,.undef,.undef,.undef,.undef,.undef,.undef,.undef,.undef,.undef,.undef]) ?_ fun a1 E1 hj1 hs1=>?_)
 ·rw [q0]
  refine iF (v:=sl) (Dl g1 (by rw[p1]; rfl) ?_) d1 (iF (v:=.lit (.int .i64 (n:Int))) (jQ g2 ?_ ?_) d2 (iF (v:=.lit (.int .i64 ((n:Int)-1))) (jQ g3 (by rw[p3]; rfl) ?_) d3
   (iF (v:=.lit (.int .i64 ((n:Int)-1))) (jQ g4 (by rw[p4]; rfl) ?_) d4 ?_)))
  ·rw [p1]
   show ig P S cp E0.H=_
   rw[V];exact hT.load _
  ·rw [p2]
   rfl
  ·rw [p2]
   show xz (b_ P S) sl=_
   exact hT.len
  ·rw [p3]
   exact Ln (P:=P) (t:=t1) (k:=lI (Operand.tmp 5)||lI (Operand.const (.int .i64 1))) (hin (n:Int) (by omega) (by omega))
  ·rw [p4]
   rfl
  ·exact va
 have B:∀{E:Env} {a:Act} {fr:List AV} {i:AV},bP ⟨fr,E.H⟩ E.gK a→fr.length=19→fr[0]? = some y→fr[1]? = some cp→fr[3]? = some i→bP ⟨jR y cp i,E.H⟩ E.gK a:=by
  intro E a fr i h h19 e0 e1 e3;refine⟨rfl,Lj h.fr (by rw[h19]; rfl) fun j b hb=>?_,h.defers,h.heap⟩
  match j,hb with
  |0,hb=>exact .inr (by rw[e0]; exact hb)
  |1,hb=>exact .inr (by rw[e1]; exact hb)
  |3,hb=>exact .inr (by rw[e3]; exact hb)
  |2,hb=>exact .inl (by cases hb; rfl)
  | j+4,hb =>
   left;have hx:jR y cp i=[y,cp,.undef,i]++bO 15 .undef:=rfl;rw[hx,List.getElem?_append_right (by simp)]at hb;have:=eB hb;exact(List.mem_replicate.1 this).2
 refine wpIn_block (wpIn_loop (fun a w=>∃ k E,E.w=w∧k≤n∧J k E∧bP ⟨jR y cp (.lit (.int .i64 ((n:Int)-1-k))),E.H⟩ E.gK a)
  (fun a _=>match a.eval (.tmp 3)with | .int _ i=>(i+1).toNat|_=>0) ⟨0,E1,rfl,eI _,hj1,B hs1 rfl rfl rfl (by simp)⟩ ?_)
 rintro a _ ⟨k,E,rfl,hkl,hj,hs⟩;obtain⟨i1,i2,t3,t4,qq1,⟨ga1,pa1,da1⟩,⟨ga2,pa2,da2⟩⟩:=ho.r1;obtain⟨j1,j2,j3,t5,t6,qq2,⟨gb1,pb1,db1⟩,⟨gb2,pb2,db2⟩,⟨gb3,pb3,db3⟩⟩:=ho.r2;obtain⟨u1,u2,u3,u4,u5,u6,O,u8,t7,tys,W,⟨gc1,pc1,dc1⟩,⟨gc2,pc2,dc2⟩,⟨gc3,pc3,dc3⟩,⟨gc4,pc4,dc4⟩,⟨gc5,pc5,dc5⟩,⟨gc6,pc6,dc6⟩,⟨gc7,pc7,dc7⟩,⟨gc8,pc8,dc8⟩⟩:=ho.r3;obtain⟨i,hi⟩:∃ i:Int,i=(n:Int)-1-k:=⟨_,rfl⟩
 rw[←hi]at hs;have hmu:a.eval (.tmp 3)=.int .i64 i:=by
  have:=hs.eval (.tmp 3);simpa[St.eval,jR,rel]using this
 refine wpIn_seq (wpIn_seq (Dn (pf:=fun _=>false) (J:=J k) (I k) hs hj (fr':=((jR y cp (.lit (.int .i64 i))).set 7 (.lit (.int .i64 i))).set 8 (.lit (.bool (decide (i ≥ 0))))) ?_ fun a2 U hj2 hs2=>?_))
 ·rw [qq1]
  refine iF (v:=.lit (.int .i64 i)) (jQ ga1 (by rw[pa1]; rfl) (by rw[pa1]; rfl)) da1 (iF (v:=.lit (.bool (decide (i ≥ 0)))) (jQ ga2 (by rw[pa2]; rfl) ?_) da2 va);rw[pa2];exact WE (P:=P) (t:=t3) (k:=lI (Operand.tmp 7)||lI (Operand.const (.int .i64 0)))
 have h8:a2.eval (.tmp 8)=.bool (decide (i ≥ 0)):=by
  have:=hs2.eval (.tmp 8);simpa[St.eval,jR,rel]using this
 by_cases hi0:i ≥ 0
 ·have hkl' : k < n := by omega
  refine wpIn_cond_true (by rw[h8]; simp[hi0]) (wpIn_skip ?_);have hs2':=B hs2 rfl rfl rfl rfl;show (Code.seq _ _).wpIn (fz none) 0 P _ _ _
  refine wpIn_seq (wpIn_block (wpIn_seq (wpIn_region ?_)));obtain⟨cells,hcells,hcell2⟩:=hT.idx i hi0 (by omega);have hsz:eG.size=8:=by
   have:eG.toList.length=8:=by rw[W]; rfl
   simpa using this
  rw[hsz];show wpOpsIn (fz none) 0 P eG _ (nq 0 6++[6,7]) a2 U.w
  have hpos:∀(j:Nat) (o:Oper),[u1,u2,u3,u4,u5,u6][j]? = some o→eG[0+j]? = some o:=by
   intro j o M;rw[Dp W];have hlt:j<6:=by simpa using aI M
   rw[Nat.zero_add,show [u1,u2,u3,u4,u5,u6,O,u8]=[u1,u2,u3,u4,u5,u6]++[O,u8] from rfl,cK (by simpa using hlt)];exact M
  refine Ll (pf:=fun _=>false) (J:=J k) (l:=[u1,u2,u3,u4,u5,u6]) (k:=0) (I k) hpos hs2' hj2
   (fr':=[y,cp,.undef,.lit (.int .i64 i),.undef,.undef,.undef,.undef,.undef,.undef,.undef,y,.lit (.int .i64 i),sl,.lit (.int .i64 i),.cptr (cells),rv i.toNat,.undef,.undef]) ?_ fun a3 d hj3 q=>?_
  ·refine iF (v:=y) (jQ gc1 (by rw [pc1]; rfl) (by rw [pc1]; rfl)) dc1 (iF (v:=.lit (.int .i64 i)) (jQ gc2 (by rw [pc2]; rfl) (by rw [pc2]; rfl)) dc2 (iF (v:=sl) (Dl gc3 (by rw [pc3]; rfl) ?_) dc3
    (iF (v:=.lit (.int .i64 i)) (jQ gc4 (by rw[pc4]; rfl) (by rw[pc4]; rfl)) dc4 (iF (v:=.cptr (cells)) (jQ gc5 (by rw[pc5]; rfl) ?_) dc5 (iF (v:=rv i.toNat) (Dl gc6 (by rw[pc6]; rfl) ?_) dc6 va)))))
   ·rw [pc3]
    show ig P S cp U.H=_
    rw[V];exact hT.load _
   ·rw [pc5]
    exact hcells
   ·rw [pc6]
    exact hcell2 U.H
  ·have h11:a3.eval (.tmp 11)=.func (.yield l) #[] #[]:=by
    have:=q.eval (.tmp 11);rw[show St.eval _ (.tmp 11)=y from rfl,hy]at this;simpa only[rel]using this
   have hin2:i.toNat=n-1-k:=by omega
   have hE3:gC d.gK d:=Dm q.heap;have hrel:af d [.lit (.int .i64 ((n:Int)-1-k)),rv (n-1-k)] (#[a3.eval (.tmp 12),a3.eval (.tmp 16)]:Array Value).toList:=by
    rw[←hi,←hin2];simp only[af];exact⟨ub hE3 _ (q.eval (.tmp 12)),ub hE3 _ (q.eval (.tmp 16)),trivial⟩
   obtain⟨fn',tmps',asg,bod,hy1,hR⟩:=hround k d _ hkl' hj3 hrel;rw[wpOpsIn_cons];unfold wpOpIn;have h6:eG[6]? = some O:=by rw[Dp W]; rfl
   simp only[h6];rw[if_pos (by simp[Region.wanted,gc7])];refine⟨fun _ _=>trivial,?_⟩;rw[Oper.semAt_eq _ _ _ (fun c e=>by rw[pc7]at e; cases e)];have hrun:(execOp a3.eval O).run P d.w=.ok (.round l fn' tmps' asg bod) d.w:=by
    obtain⟨dst,op,type,pos,after,guard⟩:=O;simp only[]at pc7;subst pc7;simp[execOp,resolve,h11,Sb,invoke,hy1]
   rw[hrun,Oper.uponIn_round];refine⟨fun h=>(by cases h),hR.mono ?_⟩;rintro e _ ⟨rfl,E',rfl,hj',hleC⟩;show wpOpsIn (fz none) 0 P eG _ (nq 7 1++[]) _ E'.w
   rw[dc7];have hd3:a3.defers=[]:=Lk q.defers fun _ h=>h;have hp:=(B q rfl rfl rfl rfl).jq 17 (v:=.lit (.bool true)) (u:=.bool true) (by simp[rel]);have hE':ar E'.gK:=(N (k+1) E' hj').cH (rq (N (k+1) E' hj'));have hs4:bP ⟨(jR y cp (.lit (.int .i64 i))).set 17 (.lit (.bool true)),E'.H⟩ E'.gK (a3.put (some 17) (.bool true)):=by
    refine⟨rfl,Lm hp.fr fun b hb=>?_,?_,hE'⟩
    ·have hb : b ∈ (jR y cp (.lit (.int .i64 i))).set 17 (.lit (.bool true)) := hb
     rcases List.mem_or_eq_of_mem_set hb with hb|rfl
     ·simp only [jR, bR, List.not_mem_nil, or_false] at hb
      rcases hb with rfl|rfl|rfl|rfl|hb
      ·exact .inr (.inl ⟨_,hy⟩)
      ·refine .inr (.inr fun c' h => ?_)
       rw[V]at h⊢;exact dL (E:=d.gK) (E':=E'.gK) ⟨fun b hb=>hleC.ok b hb⟩ _ (by simp[AV.closed]) h
      ·exact .inl rfl
      ·exact .inr (.inl ⟨_,rfl⟩)
      ·left
       rcases hb with rfl|rfl|rfl|rfl|rfl|rfl|rfl|rfl|rfl|rfl|rfl|rfl|rfl|rfl|rfl<;>rfl
     ·exact .inr (.inl ⟨_,rfl⟩)
    ·rw [put_defers, hd3]
     exact pd _ _
   refine Ll (pf:=fun _=>false) (J:=J (k+1)) (l:=[u8]) (k:=7) (I (k+1)) ?_ hs4 hj' (fr':=((jR y cp (.lit (.int .i64 i))).set 17 (.lit (.bool true))).set 18 (.lit (.bool false))) ?_ fun a5 E5 hj5 hs5=>?_
   ·intro j o M
    have hlt:j<1:=by simpa using aI M
    have:j=0:=by omega
    subst this;rw[Dp W];exact M
   ·exact iF (v:=.lit (.bool false)) (jQ gc8 (by rw[pc8]; rfl) (by rw[pc8]; rfl)) dc8 va
   ·show (Code.cond _ _ _).wpIn (fz none) 0 P _ _ _
    have h18:a5.eval (.tmp 18)=.bool false:=by
     have:=hs5.eval (.tmp 18);simpa[St.eval,jR,rel]using this
    refine wpIn_cond_false h18 (wpIn_skip ?_);show (Code.region _ _ _).wpIn (fz none) 0 P _ _ _
    refine Dn (pf:=fun _=>false) (J:=J (k+1)) (I (k+1)) (B hs5 rfl rfl rfl rfl) hj5 (fr':=(((jR y cp (.lit (.int .i64 i))).set 9 (.lit (.int .i64 i))).set 10 (.lit (.int .i64 (i-1)))).set 3 (.lit (.int .i64 (i-1)))) ?_ fun a6 E6 hj6 hs6=>?_
    ·rw [qq2]
     refine iF (v:=.lit (.int .i64 i)) (jQ gb1 (by rw[pb1]; rfl) (by rw[pb1]; rfl)) db1 (iF (v:=.lit (.int .i64 (i-1))) (jQ gb2 (by rw[pb2]; rfl) ?_) db2 (iF (v:=.lit (.int .i64 (i-1))) (jQ gb3 (by rw[pb3]; rfl) (by rw[pb3]; rfl)) db3 va));rw[pb2];exact Ln (P:=P) (t:=t5) (k:=lI (Operand.tmp 9)||lI (Operand.const (.int .i64 1))) (hin i hi0 (by omega))
    ·have h3:a6.eval (.tmp 3)=.int .i64 (i-1):=by
      have:=hs6.eval (.tmp 3);simpa[St.eval,jR,rel]using this
     have e6:i-1=(n:Int)-1-((k+1:Nat):Int):=by omega
     refine⟨⟨k+1,E6,rfl,by omega,hj6,?_⟩,?_⟩
     ·rw [← e6]
      exact B hs6 rfl rfl rfl rfl
     ·rw [h3, hmu]
      show (i-1+1).toNat<(i+1).toNat
      omega
 ·refine wpIn_cond_false (by rw [h8]; simp [hi0]) (wpIn_exit ?_)
  simp only[Exit.then,AT,if_true];have hd:a2.defers=[]:=Lk hs2.defers fun _ h=>h;have hk:k=n:=by omega
  subst hk;show LeavesInM (fz none) 0 P fn a2.tmps _ a2.defers .returning U.w
  rw[hd];refine⟨.tuple #[],?_,⟨_,rfl⟩,U,rfl,hj2⟩;rw[xK,hr];simp
end bw
end Go.AL

namespace Go.AL
open Go
variable [Dr]
mutual
def mS(m:Nat):AV→Bool
 |.agg cs=>ot m cs
 |.tuple cs=>ot m cs
 |.clo _ cs=>ot m cs
 |.ptr id ad _ _ _=>er id m&&ae ad 0
 |.vec _ id ad _ _=>er id m&&ae ad 0
 |.map id=>er id m
 |.sub ..=>false
 |_=>true
def ot(m:Nat):List AV→Bool
 | []=>true
 |a::as=>mS m a&&ot m as
end
mutual
theorem WH{E E':Env}{m:Nat}(h:E.dx m E'):∀(a:AV) {c:Value},mS m a=true→rel E a c→rel E' a c
 |.undef,_,_,_=>by simp[rel]
 |.lit v,c,_,hr=>by simpa only[rel]using hr
 |.nils,c,_,hr=>by simpa only[rel]using hr
 |.list k rows,c,_,hr=>dL (pU h) _ (by simp[AV.closed]) hr
 |.listF ks rows,c,_,hr=>dL (pU h) _ (by simp[AV.closed]) hr
 | .agg cells,c,d,hr=>by
  simp only[rel]at hr⊢;obtain⟨cs,e,h1,q⟩:=hr;exact⟨cs,e,h1,vc h cells (by simpa only[mS]using d) q⟩
 | .tuple cells,c,d,hr=>by
  simp only[rel]at hr⊢;obtain⟨cs,e,q⟩:=hr;exact⟨cs,e,vc h cells (by simpa only[mS]using d) q⟩
 |.cptr cells,c,_,hr=>dL (pU h) _ (by simp[AV.closed]) hr
 |.sub ..,_,d,_=>by simp[mS]at d
 | .ptr id ad k row col,c,d,hr=>by
  simp only[mS,ax,jb]at d;obtain⟨h1,q⟩:=d;have q:=bk q;subst q;simp only[rel]at hr⊢;obtain⟨g1,g2,g3⟩:=hr;refine⟨g1,h.past id h1 g2,fun u=>?_⟩;obtain⟨y,B⟩:=h.live id h1 g2 u;rw[B];exact g3 y
 | .vec k id ad off n,c,d,hr=>by
  simp only[mS,ax,jb]at d;obtain⟨h1,q⟩:=d;have q:=bk q;subst q;simp only[rel]at hr⊢;obtain⟨g1,g2,g3⟩:=hr;refine⟨g1,h.past id h1 g2,fun u=>?_⟩;obtain⟨y,B⟩:=h.live id h1 g2 u;rw[B];exact g3 y
 | .map id,c,d,hr=>by
  simp only[mS,jb]at d;simp only[rel]at hr⊢;obtain⟨g1,g2,g3⟩:=hr;refine⟨g1,h.past id d g2,fun u=>?_⟩;obtain⟨y,B⟩:=h.live id d g2 u;rw[B];exact g3 y
 | .clo f caps,c,d,hr=>by
  simp only[rel]at hr⊢;obtain⟨cs,e,q⟩:=hr;exact⟨cs,e,vc h caps (by simpa only[mS]using d) q⟩
 |.ifc,c,_,hr=>by simpa only[rel]using hr
 |.emptyS n,c,_,hr=>by simpa only[rel]using hr
theorem vc{E E':Env}{m:Nat}(h:E.dx m E'):∀(as:List AV) {vs:List Value},ot m as=true→af E as vs→af E' as vs
 | [],[],_,_=>by simp[af]
 | [],_::_,_,hr=>by simp[af]at hr
 |_::_,[],_,hr=>by simp[af]at hr
 | a::as,v::vs,d,hr=>by
  simp only[ot,ax]at d;simp only[af]at hr⊢;exact⟨WH h a d.1 hr.1,vc h as d.2 hr.2⟩
end
theorem Env.dx.mono{m m':Nat}{E E':Env}(h:E.dx m' E')(hm:m≤m'):E.dx m E' :=
 ⟨fun id hi=>h.past id (by omega),h.size,h.same,h.own,fun id hi=>h.live id (by omega),h.X,h.rl,h.env,fun id hi=>h.grow id (by omega)⟩
structure Env.mT (m l:Nat) (E E':Env):Prop where
 past:∀ id,id<m→E.past id 0→E'.past id 0
 size:E.w.heap.size≤E'.w.heap.size
 same:∀ b,b<E.w.heap.size→¬ E.own b→b≠l→E'.w.heap[b]? = E.w.heap[b]?
 own:∀ b,b<E.w.heap.size→¬ E.own b→¬ E'.own b
 live:∀ id,id<m→E.past id 0→E'.live id 0→E.live id 0∧E'.loc[id]? = E.loc[id]?
 X:∀ b,b<E.w.heap.size→(E'.X b↔E.X b)∧(E'.X.z b↔E.X.z b)
 rl:∀ l h,h<(E.X.r l).length→h<(E'.X.r l).length∧∀ q,(E'.X.r l)[h]? = some (some q)→(E.X.r l)[h]? = some (some q)
 env:dR E.w E'.w
 grow:∀ id,id<m→∀ l o,E.H[id]? = some o→o.dh=some l→E'.live id 0→(∃ t,E'.X.r l=E.X.r l++t)∧∃ o',E'.H[id]? = some o'∧o'.dh=some l
theorem Env.dx.toX{m l:Nat}{E E':Env}(h:E.dx m E'):E.mT m l E':=⟨h.past,h.size,fun b hb ho _=>h.same b hb ho,h.own,h.live,h.X,h.rl,h.env,h.grow⟩
theorem Env.mT.trans{m l:Nat}{E E' J:Env}(h:E.mT m l E')(h':E'.mT m l J):E.mT m l J where
 past:=fun id hi u=>h'.past id hi (h.past id hi u)
 size:=Nat.le_trans h.size h'.size
 same:=fun b hb ho k=>by rw[h'.same b (dz hb h.size) (h.own b hb ho) k,h.same b hb ho k]
 own:=fun b hb ho=>h'.own b (dz hb h.size) (h.own b hb ho)
 live:=fun id hi hid k=>by
  obtain⟨y,a2⟩:=h'.live id hi (h.past id hi hid) k;obtain⟨b1,B⟩:=h.live id hi hid y;exact⟨b1,by rw[a2,B]⟩
 X:=fun b hb=>by
  have h1:=h'.X b (dz hb h.size);have d:=h.X b hb;exact⟨h1.1.trans d.1,h1.2.trans d.2⟩
 rl:=fun l i hi=>by
  obtain⟨y,a2⟩:=h.rl l i hi;obtain⟨b1,B⟩:=h'.rl l i y;exact⟨b1,fun q U=>a2 q (B q U)⟩
 env:=h.env.trans h'.env
 grow:=fun id hi l o h1 d I=>by
  have u:E.past id 0:=⟨o,h1,ab.A7 d,fun v I=>eI _⟩
  obtain⟨M,_⟩:=h'.live id hi (h.past id hi u) I;obtain⟨⟨t,V⟩,o',g1,g2⟩:=h.grow id hi l o h1 d M;obtain⟨⟨t',N⟩,O,g3,g4⟩:=h'.grow id hi l o' g1 g2 I;exact⟨⟨t++t',by rw[N,V,gp]⟩,O,g3,g4⟩
theorem Env.mT.toM{m l:Nat}{E E':Env}(h:E.mT m l E')(d:l<E.w.heap.size→E'.w.heap[l]? = E.w.heap[l]?):E.dx m E' :=
 ⟨h.past, h.size, fun b hb ho => by
  by_cases e:b=l
  ·subst e
   exact d hb
  ·exact h.same b hb ho e,h.own,h.live,h.X,h.rl,h.env,h.grow⟩
theorem Dq{w:World}{H:List ab}{loc:List (Option (Nat × Nat))}{X:XS}{l:Nat}{o:Obj}(hX:X l)(HE:ar { w:=w,H:=H,loc:=loc,X:=X }) :
  gC { w:=w,H:=H,loc:=loc,X:=X } { w:=w.putObj l o,H:=H,loc:=loc,X:=X } :=
 ⟨rfl, rfl, by simp, fun b _ d => ⟨d, Hx fun e => d (by rw [e]; exact hX)⟩, fun b hb => by
  have:=HE.X b hb;simpa using this,rfl⟩
theorem Ds{m:Nat}{w:World}{H:List ab}{loc:List (Option (Nat × Nat))}{X:XS}{l:Nat}{o:Obj}:({ w:=w,H:=H,loc:=loc,X:=X }:Env).mT m l { w:=w.putObj l o,H:=H,loc:=loc,X:=X } :=
 ⟨fun _ _ h=>h,by simp,fun b _ _ h=>Hx h,fun _ _ h=>h,fun _ _ _ h=>⟨h,rfl⟩,fun _ _=>⟨Iff.rfl,Iff.rfl⟩,fun _ _ h=>⟨h,fun _ d=>d⟩,⟨rfl,rfl,rfl,by first|exact fun _=>aD _|exact fun _=>eR _ _⟩,fun _ _ _ o h1 k _=>⟨⟨[],(db _).symm⟩,o,h1,k⟩⟩
theorem Lo{w:World}{X:XS}{l:Nat}{r:Loop}{o:Obj}{k:List Deferred}(h:je w X k)(q:w.heap[l]? = some (.loop r)):je (w.putObj l o) X k :=
 ⟨h.1, fun d u => by
  obtain⟨D,e,h1,v,y⟩:=h.2 d u;exact⟨D,e,by rw[Hx (fun e=>by rw[e,q]at h1; cases h1)]; exact h1,v,y⟩⟩
end Go.AL

namespace Go.AL
open Go
variable [Dr]
structure yY (P:Program) (m:Nat) (n:Nat) (rv:Nat→AV) (p0 p1:Tmp) (assign body:Code) (S:Nat→St):Prop where
 na:fV assign=true
 nb:fV body=true
 fix:∀ k,k<n→ot m (S k).fr=true
 round:∀ k,k<n→∃ s1 s2,cM P m assign ⟨((S k).fr.set p0 (.lit (.int .i64 ((n:Int)-1-k)))).set p1 (rv (n-1-k)),(S k).H⟩ .normal s1∧cM P m body s1 .normal s2∧be m ⟨(S k).fr,s2.H⟩ (S (k+1))
section bw
variable {P:Program} {m':Nat} {n:Nat} {rv:Nat→AV} {p0 p1:Tmp} {assign body:Code} {S:Nat→St}
theorem WI(hr:yY P m' n rv p0 p1 assign body S){k:Nat}(hk:k<n){fn:FuncId}{D l:Nat}{a:Act}{tmps:Array Value}(htm:tmps=a.tmps){E:Env}(d:bP (S k) E a)(hX:E.X l)
  (I:E.w.heap[l]? = some (.loop { state:=.ready,pending:=none,fn,tmps,params:=#[p0,p1],assign,body,defers:=D })) {cs:Array Value} (hc:af E [.lit (.int .i64 ((n:Int)-1-k)),rv (n-1-k)] cs.toList) :
  YieldAt (fz none) 0 P l cs E.w fun e W'=>e=.returned (.bool true)∧∃ E',E'.w=W'∧bP (S (k+1)) E' a∧E.dx m' E'∧E'.X l ∧
   E'.w.heap[l]? = some (.loop { state:=.ready,pending:=none,fn,tmps,params:=#[p0,p1],assign,body,defers:=D }):=by
 obtain⟨s1,s2,hA,hB,hle⟩:=hr.round k hk;obtain⟨u,c1,rfl⟩:∃ u c1,cs=#[u,c1]:=by
  have:=gb hc
  match h:cs.toList,this with
  | [u,c1],_=>exact⟨u,c1,fm (by simpa using h)⟩
 simp only[af]at hc;obtain⟨hc0,hc1,_⟩:=hc;refine⟨_,_,_,_,run_yield I (by simp),roundIn_of_wpIn (F:=fz none) trivial ?_⟩;have U:l<E.w.heap.size:=(gr.1 I).1;have hs0:bP ⟨((S k).fr.set p0 (.lit (.int .i64 ((n:Int)-1-k)))).set p1 (rv (n-1-k)),(S k).H⟩ E { tmps:=(a.tmps.setIfInBounds p0 u).setIfInBounds p1 c1,defers:=[] }:=by
  refine⟨d.H,?_,pd _ _,d.heap⟩;simp only[Array.toList_setIfInBounds];exact xB p1 (xB p0 d.fr hc0) hc1
 have e0:((#[p0,p1]:Array Tmp).zip #[u,c1]).foldl (fun tmps (t,a)=>tmps.setIfInBounds t a) tmps=(a.tmps.setIfInBounds p0 u).setIfInBounds p1 c1:=by
  rw[htm];simp[←Array.foldl_toList]
 rw[e0];refine wpIn_mono (hA (some l) (.inr hr.na) E _ hs0) fun e a1 v ⟨he,loc1,X1,V,y⟩=>?_;subst he;have hno:¬ E.own l:=d.heap.nz hX;have W:v.heap[l]? = some (.loop { state:=.ready,pending:=none,fn,tmps,params:=#[p0,p1],assign,body,defers:=D }):=by rw[y.same l U hno]; exact I
 have hX1:X1 l:=(y.X l U).1.2 hX;have M:l<v.heap.size:=(gr.1 W).1;refine⟨_,run_beginRound W rfl,?_⟩;have hs1':=V.cH (Dq (o:=.loop { state:=.busy,pending:=none,fn,tmps,params:=#[p0,p1],assign,body,defers:=D }) hX1 V.heap) (Lo V.defers W);refine wpIn_mono (hB (some l) (.inr hr.nb) _ a1 hs1') fun e a2 w3 ⟨he,N,J,hs2,O⟩=>?_;subst he;have hno1:¬ Env.own { w:=v,H:=s1.H,loc:=loc1,X:=X1 } l:=y.own l U hno;have hl3:w3.heap[l]? = some (.loop { state:=.busy,pending:=none,fn,tmps,params:=#[p0,p1],assign,body,defers:=D }):=by
  rw[O.same l (by show l<(v.putObj _ _).heap.size; simpa using M) hno1];exact ag4 M
 have hX2:J l:=(O.X l (by show l<(v.putObj _ _).heap.size; simpa using M)).1.2 hX1;have hlt3:l<w3.heap.size:=(gr.1 hl3).1;refine⟨_,_,run_endRound (P:=P) none hl3,rfl,?_⟩;obtain⟨q,B⟩:∃ q,w3.putObj l (.loop { state:=.ready,pending:=none,fn,tmps,params:=#[p0,p1],assign,body,defers:=D })=q:=⟨_,rfl⟩
 have hl4:q.heap[l]? = some (.loop { state:=.ready,pending:=none,fn,tmps,params:=#[p0,p1],assign,body,defers:=D }):=by
  rw[←B];exact ag4 hlt3
 have hM:E.dx m' { w:=q,H:=s2.H,loc:=N,X:=J }:=by
  refine Env.mT.toM (l:=l) (y.toX.trans (Ds.trans (O.toX.trans ?_))) (fun _=>by rw[show Env.w _=q from rfl,hl4,I]);rw[←B];exact Ds
 have hR4:ar { w:=q,H:=s2.H,loc:=N,X:=J }:=by
  rw[←B];exact hs2.heap.cH (Dq hX2 hs2.heap)
 have hsr:bP ⟨(S k).fr,s2.H⟩ { w:=q,H:=s2.H,loc:=N,X:=J } a:=by
  refine⟨rfl,vc hM _ (hr.fix k hk) d.fr,w6 d.defers (fun b h1 h2=>?_) (fun b h1 _=>hM.same b (d.heap.X b h1) (d.heap.nz h1)),hR4⟩;have:=hM.X b (d.heap.X b h1);exact⟨this.1.2 h1,this.2.2 h2⟩
 obtain⟨loc7,X7,hs7,hle7⟩:=hle _ a hsr;refine⟨{ w:=q,H:=(S (k+1)).H,loc:=loc7,X:=X7 },?_,hs7,hM.trans hle7,(hle7.X l (by show l<q.heap.size; exact(gr.1 hl4).1)).1.2 hX2,hl4⟩;rw[←B];rfl
theorem WJ{T1 T2:TypeId}{sl:AV}{bg bS bq eG:Array Oper}{m:Nat}(hT:yX P T1 T2 sl n rv){f:FuncId}{fd:Func}{r0 r1 r2 r3 b0 b1:Nat}(hf:P.funcs[f]? = some fd)(hbd:fc P f=true)(hb:fd.body=some (u_ bg bS bq eG r0 r1 r2 r3 b0 b1))(hn:fd.ntmps=19)(hre:fd.results=#[])(ho:u9 T1 T2 bg bS bq eG)
  (hlen:n≤1048576) (hmm:m≤m') (hr:yY P m' n rv p0 p1 assign body S) {g:Tmp} {s:St} {id wd:Nat} (hg:s.eval (.tmp g)=.clo f [.ptr id 0 wd 0 0]) (hid:s.H[id]? = some (.box [sl])) (h0:be m ⟨s.fr,s.H.set id .dead⟩ (S 0))
  (E:Env) (a:Act) (y:bP s E a):(Code.rangeFunc (.tmp g) #[p0,p1] assign body).wpIn (fz none) 0 P (fun e a1 u=>e=.normal∧dt m E (S n) a1 u) a E.w:=by
 have W:=y.eval (.tmp g);rw[hg]at W;simp only[rel]at W;obtain⟨cs,W,hcs⟩:=W;obtain⟨c,rfl⟩:∃ c,cs=#[c]:=by
  have:=gb hcs
  match h:cs.toList,this with
  | [c],_=>exact⟨c,fm (by simpa using h)⟩
 simp only[af,rel]at hcs;obtain⟨⟨⟨bc,oc,hc0⟩,_,hlive⟩,_⟩:=hcs;have hidE:E.H[id]? = some (.box [sl]):=by rw[y.H]; exact hid
 obtain⟨bb,nn,V,hcv⟩:=hlive ⟨_,hidE,rfl⟩;obtain⟨D,hD⟩:∃ D,E.w.heap.size=D:=⟨_,rfl⟩
 have hobj:=y.heap.obj id _ hidE;simp only[aJ]at hobj;obtain⟨b',n',hloc',hrow,hcells⟩:=hobj;rw[V]at hloc';obtain⟨rfl,rfl⟩:bb=b'∧nn=n':=by
  have h:=hloc';simp only[aQ,a7]at h;exact h
 have J:=Env.qI y.heap id;have hdr:=ar.drop y.heap id fun o ho=>by
  rw[hidE]at ho;cases ho;rfl
 have hcp0:rel { w:=E.w,H:=E.H.set id .dead,loc:=E.loc.set id none,X:=E.X } (.cptr [sl]) c:=by
  simp only[rel];refine⟨hT.cl,bb,0,by simpa using hcv,⟨(y.heap.lt id bb nn V).1,?_,(y.heap.lt id bb nn V).2⟩,tH (E:=E) (fun a c h=>bH J a h) rfl hcells⟩;rintro(⟨j,q,M⟩|⟨l,k,q,M⟩)
  case inr=>exact y.heap.cP _ _ _ _ _ _ V M
  simp only[List.getElem?_set]at M;split at M
  ·split at M<;>cases M
  ·rename_i aw
   exact aw (y.heap.inj _ _ _ _ _ V M)
 refine wpIn_rangeFunc ?_;intro fn _;obtain⟨rec,N⟩:∃ rec:Loop,rec={ state:=.ready,pending:=none,fn,tmps:=a.tmps,params:=#[p0,p1],assign,body,defers:=D }:=⟨_,rfl⟩
 obtain⟨u,hw1⟩:∃ u,(E.w.alloc (.deferred (some []))).alloc (.loop rec)=u:=⟨_,rfl⟩
 have hsz:u.heap.size=D+2:=by rw[←hw1,HF,HF,hD]
 have hl1:u.heap[D+1]? = some (.loop rec):=by
  rw[←hw1];have:=ag5 (E.w.alloc (.deferred (some []))) (.loop rec)
  rwa [HF,hD]at this
 have hold2:∀ b,b<D+1→u.heap[b]? = (E.w.alloc (.deferred (some []))).heap[b]? := fun b hb=>by
  rw[←hw1];show ((E.w.alloc (.deferred (some []))).heap.push _)[b]? = _
  rw[wA,if_neg (by rw[HF,hD]; omega)]
 have hD1:u.heap[D]? = some (.deferred (some [])):=by
  rw[hold2 D (by omega)];have:=ag5 E.w (.deferred (some []))
  rwa [hD]at this
 have hold:∀ b,b<D→u.heap[b]? = E.w.heap[b]? := fun b hb=>by
  rw[hold2 b (by omega)];show (E.w.heap.push _)[b]? = _
  rw[wA,if_neg (by omega)]
 have hos:dR E.w u:=by rw[←hw1]; exact⟨rfl,rfl,rfl,by first|exact fun _=>aD _|exact fun _=>eR _ _⟩
 obtain⟨I,B⟩:∃ I:XS,I=⟨fun b=>E.X b∨b=D∨b=D+1,fun b=>E.X.z b∨b=D,E.X.r⟩:=⟨_,rfl⟩
 obtain⟨mk,hmk⟩:∃ mk:Deferred,mk={ target:=.collected D,args:=#[] }:=⟨_,rfl⟩
 have cH:gC { w:=E.w,H:=E.H.set id .dead,loc:=E.loc.set id none,X:=E.X } { w:=u,H:=E.H.set id .dead,loc:=E.loc.set id none,X:=I } :=
  ⟨rfl, rfl, by show E.w.heap.size ≤ u.heap.size; omega, fun b hb hx => by
   have hb:b<D:=by rw[←hD]; exact hb
   refine⟨fun h=>?_,hold b hb⟩;rw[B]at h;rcases h with h|h|h
   ·exact hx h
   ·omega
   ·omega,fun b hb=>by
   show b<u.heap.size
   rw[B]at hb;rcases hb with h|h|h
   ·have := y.heap.X b h
    omega
   ·omega
   ·omega,by show I.r=E.X.r; rw[B]⟩
 have hs2:bP ⟨s.fr,s.H.set id .dead⟩ { w:=u,H:=E.H.set id .dead,loc:=E.loc.set id none,X:=I } { a with defers:=mk::a.defers }:=by
  refine⟨by rw[y.H],mG cH _ (dw J _ y.fr),⟨?_,fun d J=>?_⟩,hdr.cH cH⟩
  ·refine List.nodup_cons.2 ⟨fun h => ?_, y.defers.1⟩
   obtain⟨O,e,h1,U,_⟩:=y.defers.2 mk h;have:=y.heap.X O U;rw[hmk]at e;have e:D=O:=by
    have e:=congrArg Deferred.target e;simpa using e
   omega
  ·rcases bR.1 J with rfl | J
   ·exact⟨D,hmk,hD1,by rw[B]; exact .inr (.inl rfl),by rw[B]; exact .inr rfl⟩
   ·obtain ⟨O, e, h1, U, h3⟩ := y.defers.2 d J
    have:=y.heap.X O U;exact⟨O,e,by rw[show Env.w _=u from rfl,hold O (by omega)]; exact h1,by rw[B]; exact .inl U,by rw[B]; exact .inl h3⟩
 have hle2:E.dx m { w:=u,H:=E.H.set id .dead,loc:=E.loc.set id none,X:=I }:=by
  refine J.toM.trans ⟨fun _ _ h=>h,by show E.w.heap.size≤u.heap.size; omega,fun b hb _=>hold b (by rw[←hD]; exact hb),fun b _ h ho=>h ((cH.own b).1 ho),fun _ _ _ h=>⟨h,rfl⟩,fun b hb=>?_,fun l h hh=>by show h<(I.r l).length∧_; rw[B]; exact⟨hh,fun _ hq=>hq⟩,hos,fun _ _ _ o h1 U _=>⟨⟨[],by show I.r _=_; rw[B,db]⟩,o,h1,U⟩⟩;have hb:b<D:=by rw[←hD]; exact hb
  show (I b↔E.X b)∧(I.z b↔E.X.z b)
  rw[B];exact⟨⟨fun h=>by rcases h with h|h|h; exact h; omega; omega,.inl⟩,⟨fun h=>by rcases h with h|h; exact h; omega,.inl⟩⟩
 obtain⟨loc3,X3,hs3,hle3⟩:=h0 _ _ hs2;have hX3:X3 (D+1):=(hle3.X (D+1) (by show D+1<u.heap.size; omega)).1.2 (by show I (D+1); rw[B]; exact .inr (.inr rfl));have hcp3:rel { w:=u,H:=(S 0).H,loc:=loc3,X:=X3 } (.cptr [sl]) c:=dL (pU hle3) _ (by simp[AV.closed]) (dL cH.toC _ (by simp[AV.closed]) hcp0);refine⟨D+1,[mk],u,{ target:=.fn (.func f) #[c],args:=#[.func (.yield (D+1)) #[] #[]] },u,f,#[.func (.yield (D+1)) #[] #[],c],u,?_,?_,fun _ _=>trivial,?_,fun h=>(by cases h),?_⟩
 ·rw [← hw1, N, hmk, ← hD]
  exact run_enterLoop_outer _ _ _ _ _
 ·have hcst : a.eval (.const (.func (.yield (D + 1)) #[] #[])) = .func (.yield (D + 1)) #[] #[] := rfl
  simp[resolve,W,hcst,Sb]
 ·simp[invoke,BZ hbd]
 ·have hcall:=WG (P:=P) hT hf hb hn hre ho (l:=D+1) hlen (fun k E'=>bP (S k) E' { a with defers:=mk::a.defers }∧E.dx m E'∧E'.X (D+1)∧E'.w.heap[D+1]? = some (.loop rec)) (fun k E' h=>h.1.heap)
   (fun k E1 E2 h hle hR hH=>?_) (c:=c) (fun k E' cs hk h hc=>?_) (E0:={ w:=u,H:=(S 0).H,loc:=loc3,X:=X3 }) ⟨hs3,hle2.trans hle3,hX3,hl1⟩ hcp3
  ·refine hcall.mono fun e w3 ⟨⟨v, hv⟩, E4, hw4, hs4, hle4, hX4, hl4⟩ => ?_
   subst hv;subst hw4;obtain⟨w4,H4,loc4,X4⟩:=E4;have hH4:H4=(S n).H:=hs4.H;subst hH4;have hend:=run_endLoop (P:=P) hl4 (by rw[N]; simp);refine⟨_,_,hend,?_⟩;rw[N];refine⟨rfl,loc4,X4,?_,?_⟩
   ·rw [← N]
    exact hs4.cH (Dq hX4 hs4.heap) (Lo hs4.defers hl4)
   ·exact(hle4.toX.trans Ds).toM (l:=D+1) (fun h=>absurd h (by omega))
  ·obtain ⟨g1, g2, g3, g4⟩ := h
   have hlt:D+1<E1.w.heap.size:=(gr.1 g4).1;refine⟨⟨by rw[hH]; exact g1.H,dw hle _ g1.fr,w7 g1.heap hle g1.defers,hR⟩,g2.trans hle.toM,by rw[hle.X.1]; exact g3,?_⟩;rw[hle.same (D+1) hlt (g1.heap.nz g3)];exact g4
  ·obtain ⟨g1, g2, g3, g4⟩ := h
   rw[N]at g4;obtain⟨fn',tm,as,bo,k1,k2⟩:=WI hr hk rfl g1 g3 g4 hc;refine⟨fn',tm,as,bo,k1,k2.mono fun e W' ⟨he,E'',hw,q1,q2,q3,q4⟩=>⟨he,E'',hw,⟨q1,g2.trans (q2.mono hmm),q3,by rw[N]; exact q4⟩,pU q2⟩⟩
end bw
end Go.AL

namespace Go.AL
open Go
variable [Dr]
variable {P:Program}
theorem WK{m m' n:Nat}{rv:Nat→AV}{p0 p1:Tmp}{assign body:Code}{S:Nat→St}{T1 T2:TypeId}{sl:AV}{bg bS bq eG:Array Oper}(u:yX P T1 T2 sl n rv){f:FuncId}{fd:Func}{r0 r1 r2 r3 b0 b1:Nat}(v:P.funcs[f]? = some fd)(d:fc P f=true)
  (hb:fd.body=some (u_ bg bS bq eG r0 r1 r2 r3 b0 b1)) (y:fd.ntmps=19) (k:fd.results=#[]) (ho:u9 T1 T2 bg bS bq eG)
  (hlen:n≤1048576) (hmm:m≤m') (hr:yY P m' n rv p0 p1 assign body S) {g:Tmp} {s:St} {id wd:Nat} (hg:s.eval (.tmp g)=.clo f [.ptr id 0 wd 0 0]) (hid:s.H[id]? = some (.box [sl])) (h0:be m ⟨s.fr,s.H.set id .dead⟩ (S 0)) :
  cM P m (.rangeFunc (.tmp g) #[p0,p1] assign body) s .normal (S n):=fun ro q E a B=>by
 obtain rfl:ro=none:=q.resolve_right (by simp[fV]);exact wpIn_mono (WJ u v d hb y k ho hlen hmm hr hg hid h0 E a B) fun e I J ⟨he,h⟩=>⟨he,h⟩
structure lR where
 f:FuncId
 T1:TypeId
 T2:TypeId
 w:Nat
 pw:Nat
 agg:Bool
def vd(P:Program)(i:lR):Prop:=∃ fd bg bS bq eG r0 r1 r2 r3 b0 b1 e b,P.funcs[i.f]? = some fd∧fc P i.f=true∧fd.body=some (u_ bg bS bq eG r0 r1 r2 r3 b0 b1)∧fd.ntmps=19∧fd.results=#[]∧u9 i.T1 i.T2 bg bS bq eG ∧
 eT P i.T1=some (1,false)∧b_ P i.T1=.slice e i.w b∧eT P i.T2=some (i.pw,i.agg)
def ve(agg:Bool)(w:Nat)(row:List AV):AV:=(gy agg w row).getD .undef
theorem WL{i:lR}{e b:Nat}{rows:List (List AV)}(h1:eT P i.T1=some (1,false))(h:b_ P i.T1=.slice e i.w b)(B:eT P i.T2=some (i.pw,i.agg)) (hr:(rows.all fun r=>(gy i.agg i.pw r).isSome)=true) :
  yX P i.T1 i.T2 (.list i.w rows) rows.length (fun k=>ve i.agg i.pw (rows.getD k [])):=by
 refine⟨fun H=>?_,?_,fun k u y=>?_,by simp[AV.bl,AV.closed]⟩
 ·simp[ig,h1,gy]
 ·rw [h]
  rfl
 ·have d : k.toNat < rows.length := by omega
  refine⟨rows[k.toNat],?_,fun H=>?_⟩
  ·rw [h]
   simp only[j0];rw[if_pos ⟨trivial,u,y⟩,bt d];rfl
  ·have := dq.1 hr rows[k.toNat] (ly d)
   obtain⟨v,q⟩:=qp.1 this;simp only[ig,B,q];unfold ve;rw[bG,bt d,Option.getD_some,q];rfl
def yZ(P:Program)(τ:ak)(p0 p1:Tmp)(assign body:Code)(fr:List AV):List (Int × AV)→List ah→(List ah→Tree)→Tree
 | [],H,k=>k H
 | (i,v)::q,H,k=>ed P τ az assign ⟨(fr.set p0 (.lit (.int .i64 i))).set p1 v,H⟩ fun x s1=>match x with
  | .normal=>ed P τ az body s1 fun x s2=>match x with
   |.normal=>yZ P τ p0 p1 assign body fr q s2.H k
   |_=>.fail
  |_=>.fail
theorem Lp(hm:P.follows .mixedOrders=true){τ:ak}(y:aq P τ){p0 p1:Tmp}{assign body:Code}{fr:List AV}{Q:bL→al→Prop}{k:List ah→Tree}(m:Nat):∀(q:List (Int × AV)) (H:List ah),(yZ P τ p0 p1 assign body fr q H k).holds Q →
  ∃ f:Nat→List ah,f 0=H∧(∀ j d,q[j]? = some d→∃ s1 s2:al,cM P m assign ⟨(fr.set p0 (.lit (.int .i64 d.1))).set p1 d.2,aj (f j)⟩ .normal s1.den∧cM P m body s1.den .normal s2.den∧f (j+1)=s2.H)∧(k (f q.length)).holds Q
 | [],H,h=>⟨fun _=>H,rfl,fun j d u=>by simp at u,h⟩
 | (i,v)::q,H,h=>by
  simp only[yZ]at h;obtain⟨x,s1,h1,B⟩:=gV hm y assign _ _ (aL P m assign) h;cases x with
  | normal =>
   obtain⟨x,s2,J,I⟩:=gV hm y body _ _ (aL P m body) B;cases x with
   | normal =>
    obtain⟨f,g1,g2,g3⟩:=Lp hm y m q s2.H I;refine⟨fun j=>match j with|0=>H|j+1=>f j,rfl,fun j d u=>?_,g3⟩;cases j with
    | zero =>
     simp only[List.getElem?_cons_zero,aQ]at u;subst u;exact⟨s1,s2,h1,J,g1⟩
    |succ j=>exact g2 j d (by simpa using u)
   |exit _=>exact I.elim
   |ret=>exact I.elim
  |exit _=>exact B.elim
  |ret=>exact B.elim
def y4(agg:Bool)(w:Nat)(rows:List (List AV)):List (Int × AV):=(dP rows.length).map fun(k:Nat)=>((rows.length:Int)-1-k,ve agg w (rows.getD (rows.length-1-k) []))
def Dt(P:Program)(τ:ak)(i:lR)(m:Nat)(c:Code)(s:al):Option Tree :=
 match c with
 | .seq (.seq r3 (.block _ (.rangeFunc (.tmp g) ps assign body))) rest=>match ps.toList,fV assign&&fV body with
  | [p0,p1],true=>some (ed P τ az r3 s fun x s1=>match x with
   | .normal=>match s1.fr.getD g .undef with
    | .clo f [.ptr id 0 _ 0 0]=>match s1.H[id]? with
     | some (.raw (.box [.list w rows]))=>.side (ae f i.f&&(ae w i.w&&(ep rows.length 1048576&&((rows.all fun r=>(gy i.agg i.pw r).isSome)&&(ot s1.H.length s1.fr&&ep m s1.H.length)))))
       (yZ P τ p0 p1 assign body s1.fr (y4 i.agg i.pw rows) (s1.H.set id (.raw .dead)) fun H=>ed P τ az rest ⟨s1.fr,H⟩ .done)
     |_=>.fail
    |_=>.fail
   |_=>.fail)
  |_,_=>none
 |_=>none
theorem WM(hm:P.follows .mixedOrders=true){τ:ak}(u:aq P τ){i:lR}(hi:vd P i){m:Nat}{c:Code}{s:al}{t:Tree}(h:Dt P τ i m c s=some t):x3 P m c s t:=by
 unfold Dt at h;split at h
 case h_2=>cases h
 rename_i r3 b g ps assign body rest;split at h
 case h_2=>cases h
 rename_i p0 p1 N q;cases h;intro Q O;have M:ps=#[p0,p1]:=fm (by simpa using N);subst M;simp only[ax]at q;obtain⟨x,s1,h1,d⟩:=gV hm u r3 s _ (aL P m r3) O;cases x with
 |exit _=>exact d.elim
 |ret=>exact d.elim
 | normal =>
  simp only[]at d;split at d
  case h_2=>exact d.elim
  rename_i f id wd hg;split at d
  case h_2=>exact d.elim
  rename_i w rows hid;simp only[Tree.holds,ax]at d;obtain⟨⟨v,y,B,U,V,I⟩,W⟩:=d;have v:=bk v;have y:=bk y;have B:=qy B;have I:=qy I;subst v;subst y;obtain⟨F,f0,f1,f2⟩:=Lp hm u s1.H.length _ _ W;obtain⟨x,s',J,h5⟩:=gV hm u rest _ _ (aL P m rest) f2;refine⟨x,s',?_,h5⟩;obtain⟨fd,bg,bS,bq,eG,r0,r1,r2,r3',b0,b1,e,bb,q1,q2,q3,q4,q5,q6,q7,q8,q9⟩:=hi;have hlen:(y4 i.agg i.pw rows).length=rows.length:=by simp[y4]
  have hR:yY P s1.H.length rows.length (fun k=>ve i.agg i.pw (rows.getD k [])) p0 p1 assign body (fun k=>⟨s1.fr,aj (F k)⟩):=by
   refine⟨q.1,q.2,fun k _=>V,fun k hk=>?_⟩;obtain⟨a1,a2,g1,g2,g3⟩:=f1 k ((rows.length:Int)-1-k,ve i.agg i.pw (rows.getD (rows.length-1-k) [])) (by
    simp[y4,hk])
   refine⟨a1.den,a2.den,g1,g2,?_⟩;rw[g3];exact be.refl _
  have hS:=WK (m:=m) (m':=s1.H.length) (P:=P) (WL q7 q8 q9 U) q1 q2 q3 q4 q5 q6 B I hR (g:=g) (s:=s1.den) (id:=id) (wd:=wd) hg (a_ hid) (by
   rw[f0,c5];exact be.refl _)
  have hB:cM P m (.block b (.rangeFunc (.tmp g) #[p0,p1] assign body)) s1.den .normal ⟨s1.fr,aj (F rows.length)⟩:=Jb (x:=.normal) hS;rw[hlen]at J;exact xH (xH h1 hB) J
def Du(P:Program)(τ:ak)(i:lR)(m key:Nat)(fn:Func):LT:=⟨fun _ _=>none,fun _ s=>(true,s),fun k s=>match ae k key with
 |true=>Dt P τ i m (cutAt fn key) s
 |false=>none⟩
theorem WN(hm:P.follows .mixedOrders=true){τ:ak}(d:aq P τ){i:lR}(hi:vd P i){m key:Nat}{fn:Func} (q:k_ key (bI (aU fn))=true):aA P m (Du P τ i m key fn) (aU fn) :=
 ⟨fun _ _ _ _ _ h => (nomatch h), fun _ _ _ => be.refl _, fun k u hk s t h => by
  simp only[Du]at h;split at h
  ·rename_i e
   have e:=bk e;subst e;rw[C9 q hk];exact WM hm d hi h
  ·cases h⟩
end Go.AL

namespace Go.AL
open Go
variable [Dr]
def Lq(P:Program)(i:lR):Bool :=
 (match eT P i.T1 with
 |some (n,a)=>ae n 1 && !a
 |none=>false)&&((match b_ P i.T1 with
 |.slice _ w _=>ae w i.w
 |_=>false)&&(match eT P i.T2 with
 |some (n,a)=>ae n i.pw&&(a==i.agg)
 |none=>false))
theorem WO{P:Program}{i:lR}{fd:Func}{bg bS bq eG:Array Oper}{r0 r1 r2 r3 b0 b1:Nat}(q:P.funcs[i.f]? = some fd)(hb:fc P i.f=true)(u:fd.body=some (u_ bg bS bq eG r0 r1 r2 r3 b0 b1))(v:fd.ntmps=19)(hr:fd.results=#[])(ho:u9 i.T1 i.T2 bg bS bq eG)
  (k:Lq P i=true):vd P i:=by
 unfold Lq at k;simp only[ax]at k;obtain⟨h1,d,h⟩:=k;split at h1
 case h_2=>cases h1
 rename_i n a y;split at d
 case h_2=>cases d
 rename_i e w b B;split at h
 case h_2=>cases h
 rename_i J M I;simp only[ax,Bool.not_eq_true',beq_iff_eq]at h1 h;obtain⟨g1,g2⟩:=h1;obtain⟨g3,g4⟩:=h;have g1:=bk g1;have g3:=bk g3;have d:=bk d;subst g1;subst g2;subst g3;subst g4;subst d;exact⟨fd,bg,bS,bq,eG,r0,r1,r2,r3,b0,b1,e,b,q,hb,u,v,hr,ho,y,B,I⟩
def ak.y5(P:Program)(τ:ak)(i:lR)(key:Nat)(f:FuncId)(fn:Func) (ks:List (Option (List Kd))):ak:=τ.add f fun args =>
 match (x9 P τ (Du P τ i 0 key fn) fn ks args []).val with
 | some v=>match AV.bl args&&v.closed with
  |true=>some (true,v)
  |false=>none
 |none=>none
theorem aq.y5{P:Program}{τ:ak}(h:aq P τ)(hm:P.follows .mixedOrders=true){i:lR}(hi:vd P i){key:Nat}{f:FuncId}{fn:Func}(q:P.funcs[f]? = some fn)(hb:fc P f=true) (y:k_ key (bI (aU fn))=true) (ks:List (Option (List Kd))) :
  aq P (τ.y5 P i key f fn ks):=h.add hb fun args b v d _=>by
 split at d
 ·rename_i u hu
  split at d
  ·rename_i k
   simp only[ax]at k;cases d;exact dD hm h ks (fun c d=>by
    have:=WN (m:=0) hm h hi y;unfold aU at this;rw[d]at this;exact this) q k.1 k.2 hu
  ·cases d
 ·cases d
def y6:ah→Bool
 |.vec _ v _=>ae v 0
 |.map ..=>true
 |.aO ..=>true
 |.mm ..=>true
 |.raw (.vec _ v _)=>ae v 0
 |.raw .dead=>false
 |.raw .dQ=>false
 |.raw _=>true
theorem WQ{H:List ah}(h:H.all y6=true):xG (aj H):=by
 intro o ho;obtain⟨t,d,rfl⟩:=List.mem_map.1 ho;have:=dq.1 h t d;cases t with
 |vec ks v rows=>simp only[y6]at this; rw[bk this]; rfl
 |map=>rfl
 |aO=>rfl
 |mm=>rfl
 | raw o=>cases o with
  |vec k v rows=>simp only[y6]at this; rw[bk this]; rfl
  |dead=>cases this
  |dQ=>cases this
  |box=>rfl
  |map=>rfl
  |iter=>rfl
  |eJ=>rfl
  |aO=>rfl
  |mm=>rfl
def Lr(P:Program)(τ:ak)(fn:Func)(args:List AV)(H:List ah):Option (Bool × AV × List ah) :=
 match H.all y6 with
 | true=>match (ed P τ az (aU fn) ⟨jh args fn.ntmps,H⟩ .done).kr with
  | some (.normal,s')=>match ir P s'.den fn.results.toList with
   |some vs=>some (true,df vs,s'.H)
   |none=>none
  | some (.ret,s')=>match ir P s'.den fn.results.toList with
   |some vs=>some (true,df vs,s'.H)
   |none=>none
  |_=>none
 |false=>none
def ak.e9(P:Program)(τ:ak)(f:FuncId)(fn:Func):ak where
 pf g:=match ae g f with
  |true=>false
  |false=>τ.pf g
 T g as:=match ae g f with
  |true=>none
  |false=>τ.T g as
 W g as H:=match ae g f with
  |true=>Lr P τ fn as H
  |false=>τ.W g as H
 C g as H:=match ae g f with
  |true=>dP H.length
  |false=>τ.C g as H
 I:=τ.I
 N g:=match ae g f with
  |true=>false
  |false=>τ.N g
 U g:=match ae g f with
  |true=>true
  |false=>τ.U g
theorem aq.e9{P:Program}{τ:ak}(h:aq P τ)(hm:P.follows .mixedOrders=true){f:FuncId}{fn:Func}(U:P.funcs[f]? = some fn)(hb:fc P f=true)(M:fn.body.isSome=true):aq P (τ.e9 P f fn):=by
 refine⟨fun g as b v hg B=>?_,fun g as H b v H' hg B=>?_,fun g as H b v H' hg A k d=>?_,fun g as H t hg Q V=>?_,?_⟩
 rotate_left 4
 ·refine ⟨fun g q as H => ?_, fun g u as H b v H' hg id o d hid => ?_⟩
  ·simp only [ak.e9] at q ⊢
   cases e:ae g f with
   |true=>rw[e]at q; cases q
   | false =>
    rw[e]at q;exact h.F.1 g q as H
  ·simp only [ak.e9] at u hg hid ⊢
   cases e:ae g f with
   |true=>rw[e]at u; cases u
   | false =>
    rw[e]at u hg hid;exact h.F.2 g u as H b v H' hg id o d hid
 rotate_left 3
 ·obtain ⟨g1, v, H', g2, g3, g4⟩ := h.I g as H t hg Q V
  refine⟨g1,v,H',g2,fun A k d=>g3 A (fun hm=>k ?_) d,g4⟩;simp only[ak.e9];split
  ·exact fF.2 d
  ·exact hm
 ·simp only [ak.e9] at hg
  split at hg
  ·cases hg
  ·exact h.T g as b v hg B
 ·simp only [ak.e9] at hg
  split at hg
  ·rename_i e
   have e:=bk e;subst e;refine⟨hb,?_⟩;obtain⟨c,J⟩:=qp.1 M;have N:aU fn=c:=by unfold aU; rw[J]
   unfold Lr at hg;rw[N]at hg;split at hg
   case h_2=>cases hg
   rename_i O;have key:∀{x:bL} {s':al} {vs:List AV},(ed P τ az c ⟨jh as fn.ntmps,H⟩ .done).kr=some (x,s')→(x=.normal∨x=.ret)→ir P s'.den fn.results.toList=some vs→dB P g as (aj H) (df vs) (aj s'.H):=by
    intro x s' vs h1 hx y;obtain⟨x1,s1,h3,h4⟩:=gV hm h c ⟨jh as fn.ntmps,H⟩ .done (aL P (aj H).length c) (uX h1);obtain⟨rfl,rfl⟩:=h4;exact Ue U J h3 hx y (WQ O)
   split at hg
   ·rename_i s' h1
    split at hg
    ·rename_i vs y
     cases hg;exact key h1 (.inl rfl) y
    ·cases hg
   ·rename_i s' h1
    split at hg
    ·rename_i vs y
     cases hg;exact key h1 (.inr rfl) y
    ·cases hg
   ·cases hg
  ·exact h.W g as H b v H' hg B
 ·simp only [ak.e9] at hg k
  split at hg
  ·rename_i e
   rw[e]at k;exact(k (fF.2 d)).elim
  ·rename_i e
   rw[e]at k;exact h.C g as H b v H' hg A k d
end Go.AL

namespace Go.AL
open Go Go.ChangeMaps
variable [Dr]
def fh.vf(sp:fh)(s:al)(b:Nat):al:=⟨s.fr.set sp.it (.lit (.pointer (some ⟨b,0,none⟩))),s.H⟩
section range
variable {P:Program} {τ:ak} {L:LT} {m:Nat} {sp:fh} {bg bS bq:Array Oper} {body:Code} {ri:List G→List (List G)} {ci:List G→Nat}
def Ls(m:Nat)(sp:fh)(ri:List G→List (List G))(ci:List G→Nat)(E:Env)(rows:List (List G))(d0:List G)(itb mb nn clock:Nat)(a:Act)(w:World):Prop :=
 ∃(d:List G) (loc:List (Option (Nat × Nat))) (X:XS) (seen:Array Nat) (last:Nat) (p:List (List G)),
  cG sp.st sp.aY p d0=some d∧sp.aY d=itb∧(p++rows.filter fun x => !seen.contains (cU x)).Perm rows ∧
  bP (aN sp.inv d).den { w:=w,H:=(aN sp.inv d).den.H,loc:=loc,X:=X } a∧E.dx m { w:=w,H:=(aN sp.inv d).den.H,loc:=loc,X:=X }∧X itb ∧
  w.heap[itb]? = some (.mapIter (some mb) clock seen last)∧clock≤last∧ri d=rows∧ci d=clock∧loc[sp.id]? = some (some (mb,nn))
theorem WR(hm:P.follows .mixedOrders=true)(ht:aq P τ)(hL:aA P m L body)(hr:jP P τ L m sp bq body)(ho:mQ P sp bg bS bq)
  (hu1:∀ d,(aN sp.inv d).fr[sp.t1]? = some .undef) (hu2:∀ d,(aN sp.inv d).fr[sp.t2]? = some .undef) (hut:∀ d,(aN sp.inv d).fr[sp.it]? = some (.lit (.pointer (some ⟨sp.aY d,0,none⟩))))
  {E:Env} {rows:List (List G)} {d0:List G} {itb mb clock:Nat} {nn:Nat} {r1 b0 b1 r2:Nat}
  (hid2:∀ d,(aN sp.inv d).H[sp.id]? = some (.map sp.K sp.V (ri d) (ci d))) (hkeep:∀ r d d',sp.st r d=some d'→ri d'=ri d∧ci d'=ci d) (him:sp.id<m) (hsz:E.w.heap.size≤itb) (hn:(rows.map cU).Nodup) (hlt:∀ r∈rows,cU r<clock)
  (hfold:∀ p,p.Perm rows→(cG sp.st sp.aY p d0).isSome=true) {a:Act} {w:World} (hI:Ls m sp ri ci E rows d0 itb mb nn clock a w) (ro:Option Nat) (hro:eM ro body) :
  (Code.loop (.seq (.region r1 bS false) (.seq (.cond (.tmp sp.t2) .skip (.exit b0)) (.block b1 (.seq (.region r2 bq false) body))))).wpIn (fz ro) 0 P
   (fun e a1 M=>e=.exit b0∧∃ p d,p.Perm rows∧cG sp.st sp.aY p d0=some d∧dt m E (aN sp.inv d).den a1 M) a w:=by
 obtain⟨o1,o2,e1,g1,p1,q1,g2,p2,q2⟩:=ho.r1;obtain⟨o3,l,e3,g3,p3,q3⟩:=ho.r2;refine wpIn_loop (Ls m sp ri ci E rows d0 itb mb nn clock) (fun _ w=>(rows.filter fun x => !(w.iterSeen itb).contains (cU x)).length) hI fun a w hI=>?_;obtain⟨d,loc,X,seen,last,p,hf,had,hp,y,hle,hXi,hit,hcl,hriD,hciD,hlo⟩:=hI;have hidd:=hid2 d;rw[hriD,hciD]at hidd;have hob:=y.heap.obj sp.id _ (a_ hidd);simp only[ah.den,aJ]at hob;obtain⟨q,nn',ms,hlo',hmb,hre⟩:=hob;have hmbe:q=mb:=by
  have h:=hlo';rw[hlo]at h;simp only[aQ,a7]at h;exact h.1.symm
 subst hmbe;have aw:q≠itb:=fun e=>(y.heap.lt sp.id q nn hlo).2 (by rw[e]; exact hXi);have h10:bS[0]? = some o1:=by
  have:bS.toList[0]? = some o1:=by rw[e1]; rfl
  simpa using this
 have h11:bS[1]? = some o2:=by
  have:bS.toList[1]? = some o2:=by rw[e1]; rfl
  simpa using this
 have hsz1:bS.size=2:=by
  have:bS.toList.length=2:=by rw[e1]; rfl
  simpa using this
 have hiv:a.eval (.tmp sp.it)=.pointer (some ⟨itb,0,none⟩):=by
  have h:=y.eval (.tmp sp.it);have e:(aN sp.inv d).den.eval (.tmp sp.it)=.lit (.pointer (some ⟨sp.aY d,0,none⟩)):=by
   show (aN sp.inv d).fr.getD sp.it .undef=_
   rw[bG,hut d];rfl
  rw[e]at h;simp only[rel]at h;rw[h,had]
 obtain⟨hlen,hen⟩:=dX.1 hre;have hl1:(cS sp.K sp.V rows).length=rows.length:=by simp[cS]
 have N:∀(i:Nat) (e:MapEntry),ms.toList[i]? = some e→∃ r,rows[i]? = some r∧e.born=cU r:=by
  intro i e hi;have h1:=aI hi;have B:i<rows.length:=by omega
  refine⟨rows[i],bt B,?_⟩;exact(hen i (sp.K.av (gi rows[i] 0).row,sp.V.av (gi rows[i] 1).row,(gi rows[i] 2).int.toNat) e (by simp[cS,B]) hi).2.2.1
 have hold:∀ x∈ms.toList,x.born<clock:=by
  intro x J;obtain⟨i,hi⟩:=nl J;obtain⟨r,h1,B⟩:=N i x hi;rw[B];exact hlt r (eB h1)
 have hbn:(ms.toList.map (·.born)).Nodup:=by
  have:ms.toList.map (·.born)=rows.map cU:=by
   apply List.ext_getElem?;intro i;simp only[List.getElem?_map];cases hi:ms.toList[i]? with
   | none =>
    have h1:=List.getElem?_eq_none_iff.1 hi;rw[List.getElem?_eq_none (by omega)];rfl
   | some e =>
    obtain⟨r,h1,B⟩:=N i e hi;rw[h1];simp[B]
  rw[this];exact hn
 refine wpIn_seq (wpIn_region ?_);rw[hsz1];show wpOpsIn (fz ro) 0 P bS _ [0,1] a w
 rw[wpOpsIn_cons];have hlt1:=yO y (hu1 d);have hlt2:=yO y (hu2 d);rcases run_next_at (P:=P) w o1.type itb q clock last seen ms clock hit hmb hold hcl with⟨h0,hrun⟩|⟨e,he,M,hw1,hrun⟩
 ·refine kq h10 g1 (yQ p1 hiv hrun) (fun c e => by rw [p1] at e; cases e) ro ?_
  rw[q1,wpOpsIn_cons];refine kq h11 g2 (yP p2 (om hlt1) rfl) (fun c e=>by rw[p2]at e; cases e) ro ?_;rw[q2];show (Code.seq _ _).wpIn (fz ro) 0 P _ _ w
  refine wpIn_seq (wpIn_cond_false (om (by simpa[Act.put]using hlt2)) (wpIn_exit ?_));refine⟨rfl,p,d,?_,hf,loc,X,?_,hle⟩
  ·have:(rows.filter fun x => !seen.contains (cU x))=[]:=by
    rw[List.filter_eq_nil_iff];intro x J hc;obtain⟨i,hi⟩:=nl J;have h1:=aI hi;have B:i<ms.toList.length:=by omega
    obtain⟨r,h3,h4⟩:=N i _ (bt B);rw[hi]at h3;cases h3;have:ms.toList[i]∈(leftOf ms seen).toList:=by
     unfold leftOf;rw[Array.toList_filter];refine List.mem_filter.2 ⟨ly B,?_⟩;rw[h4];exact hc
    have h5:(leftOf ms seen).toList.length=0:=by simpa using h0
    rw[List.length_eq_zero_iff.1 h5]at this;cases this
   rwa [this,db]at hp
  ·exact(y.oq (hu1 d) (.tuple #[.bool false])).oq (hu2 d) (.bool false)
 ·refine kq h10 g1 (yQ p1 hiv hrun) (fun c e => by rw [p1] at e; cases e) ro ?_
  rw[q1,wpOpsIn_cons];refine kq h11 g2 (yP p2 (om hlt1) rfl) (fun c e=>by rw[p2]at e; cases e) ro ?_;rw[q2];show (Code.seq _ _).wpIn (fz ro) 0 P _ _ _
  refine wpIn_seq (wpIn_cond_true (om (by simpa[Act.put]using hlt2)) (wpIn_skip ?_));show (Code.block _ _).wpIn (fz ro) 0 P _ _ _
  refine wpIn_block (wpIn_seq (wpIn_region ?_));generalize hw2:setBlock M itb (.mapIter (some q) clock (seen.push e.born) clock)=k;have U:M.heap=w.heap:=by rcases hw1 with rfl|rfl<;>rfl
  have hos:dR w k:=by rw[←hw2]; rcases hw1 with rfl|rfl<;>exact⟨rfl,rfl,rfl,by first|exact fun _=>aD _|exact fun _=>eR _ _⟩
  have hit2':k.heap[itb]? = some (.mapIter (some q) clock (seen.push e.born) clock):=by
   rw[←hw2];exact(HD (by rw[U]; exact hit)).1
  have O:∀ b,b≠itb→k.heap[b]? = w.heap[b]? := by
   intro b hb;rw[←hw2];show (M.heap.setIfInBounds itb _)[b]? = _
   rw[(HD (by rw[U]; exact hit)).2 b hb,U]
  have hsize:k.heap.size=w.heap.size:=by
   rw[←hw2];show (M.heap.setIfInBounds itb _).size=_
   simp[U]
  have hmb2:k.heap[q]? = some (.map ms clock):=by rw[O q aw]; exact hmb
  have cH:gC { w:=w,H:=(aN sp.inv d).den.H,loc:=loc,X:=X } { w:=k,H:=(aN sp.inv d).den.H,loc:=loc,X:=X } :=
   ⟨rfl,rfl,by show w.heap.size≤k.heap.size; omega,fun b hb J=>⟨J,O b (fun e=>J (by rw[e]; exact hXi))⟩,fun b hb=>by show b<k.heap.size; rw[hsize]; exact y.heap.X b hb,rfl⟩
  have hmk:je k X a.defers:=⟨y.defers.1,fun dd hdd=>by
   obtain⟨D,e,h1,B,h3⟩:=y.defers.2 dd hdd;exact⟨D,e,by rw[O D (fun e=>by rw[e]at h1; rw[hit]at h1; cases h1)]; exact h1,B,h3⟩⟩
  have hs1:=((y.cH cH hmk).oq (hu1 d) (.tuple #[.bool true,e.key,e.val])).oq (hu2 d) (.bool true);obtain⟨hem,hes⟩:=mem_left he;obtain⟨i,hi⟩:=nl hem;obtain⟨r,hri,hrb⟩:=N i e hi;have hrm:=eB hri;have hre2:=iR cH.toC hre;obtain⟨k1,k2,_⟩:=(dX.1 hre2).2 i (sp.K.av (gi r 0).row,sp.V.av (gi r 1).row,(gi r 2).int.toNat) e (by simp[cS,hri]) hi;have hiv1:((a.put (some sp.t1) (.tuple #[.bool true,e.key,e.val])).put (some sp.t2) (.bool true)).eval (.tmp sp.it)=.pointer (some ⟨itb,0,none⟩):=by
   have h:=hs1.eval (.tmp sp.it);have e:(aN sp.inv d).den.eval (.tmp sp.it)=.lit (.pointer (some ⟨sp.aY d,0,none⟩)):=by
    show (aN sp.inv d).fr.getD sp.it .undef=_
    rw[bG,hut d];rfl
   rw[e]at h;simp only[rel]at h;rw[h,had]
  have h20:bq[0]? = some o3:=by
   have:bq.toList[0]? = some o3:=by rw[e3]; rfl
   simpa using this
  have hl2:bq.toList.drop 1=l:=by rw[e3]; rfl
  have hsz2:bq.size=l.length+1:=by
   have:bq.toList.length=l.length+1:=by rw[e3]; rfl
   simpa using this
  have hlp:(p++(r::rows.filter fun x => !(seen.push (cU r)).contains (cU x))).Perm rows :=
   (List.Perm.append_left p (yM hn hrm (by rw[←hrb]; exact hes)).symm).trans hp
  have I:∃ d',sp.st r d=some d'∧sp.aY d'=sp.aY d:=by
   have h:=hfold _ hlp;rw[uY,hf]at h;simp only[AZ,cG]at h;cases I:sp.st r d with
   |none=>rw[I]at h; cases h
   | some d' =>
    rw[I]at h;simp only[]at h;cases hb:ae (sp.aY d') (sp.aY d)with
    |true=>exact⟨d',rfl,bk hb⟩
    |false=>rw[hb]at h; cases h
  obtain⟨d',I,had'⟩:=I;have hf':cG sp.st sp.aY (p++[r]) d0=some d':=by
   rw[uY,hf];simp only[AZ,cG,I,had'];simp
  obtain⟨s4,ha4,hsat⟩:=K_ hm ht hL hr I;rw[hsz2,AS,List.range'_succ,wpOpsIn_cons];refine kq h20 g3 (Lb p3 hiv1 (run_entry_at (P:=P) k itb q clock seen ms clock e hit2' hmb2 hem hbn)) (fun c e=>by rw[p3]at e; cases e) ro ?_;rw[q3];have hs3:=hs1.jq sp.t3 (v:=.tuple [sp.K.av (gi r 0).row,sp.V.av (gi r 1).row]) (u:=.tuple #[e.key,e.val]) (by simp only[rel]; exact⟨_,rfl,by simp only[af]; exact⟨k1,k2,trivial⟩⟩);refine xC (pf:=τ.pf) (ops:=bq) l (0+1) (sp.rs r d).den s4.den { w:=k,H:=(aN sp.inv d).den.H,loc:=loc,X:=X } _ (by rw[←hl2]) (by rw[hl2]at ha4; exact ha4) hs3 (fun a3 w3 hc3=>?_) ro;obtain⟨loc3,r3,hs4,hle3⟩:=hc3;show body.wpIn (fz ro) 0 P _ a3 w3
  refine wpIn_mono (hsat ro hro { w:=w3,H:=s4.den.H,loc:=loc3,X:=X.re r3 } a3 hs4) fun x a4 w4 J=>?_;obtain⟨rfl,loc4,X4,hs5,hle4⟩:=J;have W:({ w:=k,H:=(aN sp.inv d).den.H,loc:=loc,X:=X }:Env).dx m { w:=w4,H:=(aN sp.inv d').den.H,loc:=loc4,X:=X4 }:=hle3.toM.trans hle4;have hXsz:itb<k.heap.size:=r_ hit2';have hnown:¬ Env.own { w:=k,H:=(aN sp.inv d).den.H,loc:=loc,X:=X } itb:=by
   exact(y.heap.cH cH).nz hXi
  have hmbsz:q<k.heap.size:=r_ hmb2;have hit4:w4.heap[itb]? = some (.mapIter (some q) clock (seen.push e.born) clock):=by rw[W.same itb hXsz hnown]; exact hit2'
  obtain⟨hk1,hk2⟩:=hkeep r d d' I;have hidd':=hid2 d';rw[hk1,hk2,hriD,hciD]at hidd';have hlive:=(W.live sp.id him ⟨_,a_ hidd,rfl,fun v _=>eI v⟩ ⟨_,a_ hidd',rfl⟩).2;refine⟨⟨d',loc4,X4,seen.push e.born,clock,p++[r],hf',by rw[had',had],?_,hs5,?_,(W.X itb hXsz).1.2 hXi,hit4,aD _,by rw[hk1,hriD],by rw[hk2,hciD],?_⟩,?_⟩
  ·rw [hrb, gp]
   exact hlp
  ·refine Env.dx.trans (E' := { w := k, H := (aN sp.inv d).den.H, loc := loc, X := X }) ⟨hle.past, ?_, ?_, hle.own, hle.live, hle.X, hle.rl, hle.env.trans hos, hle.grow⟩ W
   ·have := hle.size
    show E.w.heap.size≤k.heap.size
    rw[hsize];exact this
   ·intro b hb hbo
    show k.heap[b]? = _
    rw[O b (by omega)];exact hle.same b hb hbo
  ·rw [show loc4[sp.id]? = loc[sp.id]? from hlive]
   exact hlo
  ·show (rows.filter fun x => !(w4.iterSeen itb).contains (cU x)).length < (rows.filter fun x => !(w.iterSeen itb).contains (cU x)).length
   rw[yR hit4,yR hit];have:=(yM hn hrm (by rw[←hrb]; exact hes)).length_eq;rw[←hrb]at this;simp only[List.length_cons]at this;omega
theorem WS(hm:P.follows .mixedOrders=true)(ht:aq P τ)(hL:aA P m L body)(hr:jP P τ L m sp bq body)(ho:mQ P sp bg bS bq)
  (hu1:∀ d,(aN sp.inv d).fr[sp.t1]? = some .undef) (hu2:∀ d,(aN sp.inv d).fr[sp.t2]? = some .undef) (hut:∀ d,(aN sp.inv d).fr[sp.it]? = some (.lit (.pointer (some ⟨sp.aY d,0,none⟩))))
  {r1 b0 b1 r2:Nat} (hid2:∀ d,(aN sp.inv d).H[sp.id]? = some (.map sp.K sp.V (ri d) (ci d))) (hkeep:∀ r d d',sp.st r d=some d'→ri d'=ri d∧ci d'=ci d) (him:sp.id<m)
  {s:al} {d:List G} {rows:List (List G)} {clock:Nat} (O:s.eval (.tmp sp.y)=.map sp.id) (hid:s.H[sp.id]? = some (.map sp.K sp.V rows clock)) (hn:(rows.map cU).Nodup)
  (hlt:∀ r∈rows,cU r<clock) (hin:∀ b,iC m sp.inv sp.ps (gJ sp.opens (sp.vf s b))=some (true,sp.init d b)) (hadr:∀ b,sp.aY (sp.init d b)=b) (J:∀ b,ri (sp.init d b)=rows∧ci (sp.init d b)=clock)
  (hfold:∀ b p,p.Perm rows→(cG sp.st sp.aY p (sp.init d b)).isSome=true) (E:Env) (a:Act) (q:bP s.den E a) (ro:Option Nat) (hro:eM ro body) {Q:Exit→Act→World→Prop}
  (hQ:∀ U W,(∃ b p d',p.Perm rows∧cG sp.st sp.aY p (sp.init d b)=some d'∧dt m E (aN sp.inv d').den U W)→Q .normal U W) :
  wpOpsIn (fz ro) 0 P bg (Exit.then ((Code.block b0 (.loop (.seq (.region r1 bS false) (.seq (.cond (.tmp sp.t2) .skip (.exit b0)) (.block b1 (.seq (.region r2 bq false) body)))))).wpIn (fz ro) 0 P Q) Q) [bg.toList.dropLast.length] a E.w:=by
 obtain⟨o2,ty,e1,g2,p2,q2,N⟩:=ho.r0;have h11:bg[bg.toList.dropLast.length]? = some o2:=by
  have:bg.toList[bg.toList.dropLast.length]? = some o2:=by
   rw[e1];simp
  simpa using this
 have hid':E.H[sp.id]? = some (.map (cS sp.K sp.V rows) clock):=by
  rw[q.H];exact a_ hid
 have hrx:rel E (.map sp.id) (a.eval (.tmp sp.y)):=by
  have:=q.eval (.tmp sp.y)
  rwa [al.kY,O]at this
 obtain⟨mb,n,ms,hc,hloc,hmb,hre⟩:=pk q.heap hid' hrx;obtain⟨⟨kt,et⟩,N⟩:=qp.1 N;have hmbs:mb<E.w.heap.size:=r_ hmb;rw[wpOpsIn_cons];refine kq h11 g2 (Lc p2 hc (run_range_map E.w ty kt et mb ms clock (ft N) hmb)) (fun c e=>by rw[p2]at e; cases e) ro ?_;rw[q2];show (Code.block _ _).wpIn (fz ro) 0 P _ _ _
 generalize M:E.w.alloc (.mapIter (some mb) clock #[] clock)=k;have hsize:k.heap.size=E.w.heap.size+1:=by rw[←M]; show (E.w.heap.push _).size=_; simp
 have hold:∀ b,b<E.w.heap.size→k.heap[b]? = E.w.heap[b]? := fun b hb=>by rw[←M]; exact(show (E.w.heap.push _)[b]? = _ by rw[wA,if_neg (by omega)])
 have hitn:k.heap[E.w.heap.size]? = some (.mapIter (some mb) clock #[] clock):=by rw[←M]; exact(show (E.w.heap.push _)[E.w.heap.size]? = _ by simp)
 have hos:dR E.w k:=by rw[←M]; exact⟨rfl,rfl,rfl,by first|exact fun _=>aD _|exact fun _=>eR _ _⟩
 have cH:gC { w:=E.w,H:=E.H,loc:=E.loc,X:=E.X } { w:=k,H:=E.H,loc:=E.loc,X:=E.X.or fun b=>b=E.w.heap.size } :=
  ⟨rfl, rfl, by show E.w.heap.size ≤ k.heap.size; omega, fun b hb O => ⟨fun h => h.elim O (fun e => absurd hb (by rw [e]; exact qz _)), hold b hb⟩, fun b hb => by
   show b<k.heap.size
   rcases hb with hb|hb
   ·have := q.heap.X b hb
    omega
   ·omega,rfl⟩
 have hs3:=(q.cH cH (w6 (X':=E.X.or fun b=>b=E.w.heap.size) (w':=k) q.defers (fun _ h1 B=>⟨.inl h1,B⟩) fun b h1 _=>hold b (q.heap.X b h1))).jq sp.it (v:=.lit (.pointer (some ⟨E.w.heap.size,0,none⟩))) (u:=.pointer (some ⟨E.w.heap.size,0,none⟩)) (by simp only[rel]);have hs3':bP (sp.vf s E.w.heap.size).den { w:=k,H:=E.H,loc:=E.loc,X:=E.X.or fun b=>b=E.w.heap.size } _:=hs3;obtain⟨loc,X4,hs4,I⟩:=((lP sp.opens _).trans (lO (hin E.w.heap.size))) _ _ hs3';have hidd:=hid2 (sp.init d E.w.heap.size);rw[(J _).1,(J _).2]at hidd;have hlive:=(I.live sp.id him ⟨_,hid',rfl,fun v _=>eI v⟩ ⟨_,a_ hidd,rfl⟩).2;refine wpIn_block (wpIn_mono (WR hm ht hL hr ho hu1 hu2 hut (ri:=ri) (ci:=ci) (E:=E) (rows:=rows) (d0:=sp.init d E.w.heap.size) (itb:=E.w.heap.size) (mb:=mb) (nn:=n) (clock:=clock)
  hid2 hkeep him (aD _) hn hlt (hfold _) ?_ ro hro) fun e U W hq=>?_)
 ·refine ⟨sp.init d E.w.heap.size, loc, X4, #[], clock, [], rfl, hadr _, ?_, hs4, ?_, (I.X E.w.heap.size (by show _ < k.heap.size; omega)).1.2 (.inr rfl), ?_, aD _, (J _).1, (J _).2, ?_⟩
  ·have : (rows.filter fun x => !(#[] : Array Nat).contains (cU x)) = rows := List.filter_eq_self.2 (fun x _ => by simp)
   rw[List.nil_append,this]
  ·refine Env.dx.trans (E' := { w := k, H := E.H, loc := E.loc, X := E.X.or fun b => b = E.w.heap.size }) ⟨fun _ _ h => h, ?_, ?_, fun b _ h => h, fun _ _ _ h => ⟨h, rfl⟩, fun b hb => ⟨⟨fun h => h.elim id fun e => absurd hb (by rw [e]; exact qz _), .inl⟩, Iff.rfl⟩, fun _ _ h => ⟨h, fun _ hq => hq⟩, hos, fun _ _ _ o h1 B _ => ⟨⟨[], (db _).symm⟩, o, h1, B⟩⟩ I
   ·show E.w.heap.size ≤ k.heap.size
    omega
   ·exact fun b hb _=>hold b hb
  ·rw [I.same E.w.heap.size (by show _ < k.heap.size; omega) ?_]
   ·exact hitn
   ·exact(q.heap.cH cH).nz (.inr rfl)
  ·rw [show loc[sp.id]? = E.loc[sp.id]? from hlive]
   exact hloc
 ·obtain ⟨rfl, p, d', h1, B, h3⟩ := hq
  simp only[AT,if_true];exact hQ _ _ ⟨_,p,d',h1,B,h3⟩
theorem WT(hm:P.follows .mixedOrders=true)(ht:aq P τ)(hL:aA P m L body)(hr:jP P τ L m sp bq body)(ho:mQ P sp bg bS bq)
  (U:∀ d,(aN sp.inv d).fr[sp.t1]? = some .undef) (W:∀ d,(aN sp.inv d).fr[sp.t2]? = some .undef) (hut:∀ d,(aN sp.inv d).fr[sp.it]? = some (.lit (.pointer (some ⟨sp.aY d,0,none⟩))))
  {r0 r1 b0 b1 r2:Nat} (M:∀ d,(aN sp.inv d).H[sp.id]? = some (.map sp.K sp.V (ri d) (ci d))) (I:∀ r d d',sp.st r d=some d'→ri d'=ri d∧ci d'=ci d) (him:sp.id<m)
  {s s1:al} {d:List G} {rows:List (List G)} {clock:Nat} (hp:fI P τ.pf bg bg.toList.dropLast s.den s1.den) (hx:s1.eval (.tmp sp.y)=.map sp.id) (hid:s1.H[sp.id]? = some (.map sp.K sp.V rows clock)) (hn:(rows.map cU).Nodup)
  (k:∀ r∈rows,cU r<clock) (hin:∀ b,iC m sp.inv sp.ps (gJ sp.opens (sp.vf s1 b))=some (true,sp.init d b)) (N:∀ b,sp.aY (sp.init d b)=b) (hri:∀ b,ri (sp.init d b)=rows∧ci (sp.init d b)=clock)
  (J:∀ b p,p.Perm rows→(cG sp.st sp.aY p (sp.init d b)).isSome=true) (E:Env) (a:Act) (hs:bP s.den E a) (ro:Option Nat) (hro:eM ro body) :
  (la r0 b0 r1 b1 r2 bg bS bq sp.t2 body).wpIn (fz ro) 0 P (fun e q u=>e=.normal∧∃ b p d',p.Perm rows∧cG sp.st sp.aY p (sp.init d b)=some d'∧dt m E (aN sp.inv d').den q u) a E.w:=by
 refine wpIn_seq (wpIn_region ?_);obtain⟨o2,ty,v,_⟩:=ho.r0;have hsz:bg.size=bg.toList.dropLast.length+1:=by
  have h:=congrArg List.length v;simpa using h
 have hl:dP bg.size=nq 0 bg.toList.dropLast.length++[bg.toList.dropLast.length]:=by
  rw[hsz,List.range_succ,AS]
 rw[hl];refine yL (pf:=τ.pf) ro bg.toList.dropLast 0 s.den s1.den E a _ (fun j o B=>?_) hp hs fun q u hc=>?_
 ·have k := aI B
  have:bg.toList[j]? = some o:=by
   rw[v,cK k];exact B
  simpa using this
 ·obtain ⟨O, r1, h1, h2⟩ := hc
  refine WS hm ht hL hr ho U W hut M I him hx hid hn k hin N hri J { w:=u,H:=s1.den.H,loc:=O,X:=E.X.re r1 } q h1 ro hro fun a2 w2 ⟨b,p,d',g1,g2,g3⟩=>?_;exact⟨rfl,b,p,d',g1,g2,dt.after h2.toM g3⟩
theorem WU(hm:P.follows .mixedOrders=true)(W:aq P τ){rest:Code}{q qr:bz}(hL:aA P m L body)(hr:jP P τ L m sp bq body)(ho:mQ P sp bg bS bq)
  (hu1:∀ d,(aN sp.inv d).fr[sp.t1]? = some .undef) (hu2:∀ d,(aN sp.inv d).fr[sp.t2]? = some .undef) (hut:∀ d,(aN sp.inv d).fr[sp.it]? = some (.lit (.pointer (some ⟨sp.aY d,0,none⟩))))
  {r0 r1 b0 b1 r2:Nat} (hid2:∀ d,(aN sp.inv d).H[sp.id]? = some (.map sp.K sp.V (ri d) (ci d))) (hkeep:∀ r d d',sp.st r d=some d'→ri d'=ri d∧ci d'=ci d) (him:sp.id<m)
  {rows:List G→List (List G)} {clock:List G→Nat} {pre:List G→al} (hy:∀ d,(lM P τ bg bg.toList.dropLast (aN q.inv d) fun s=>.done .normal s).kr=some (.normal,pre d)) (v:∀ d,(pre d).eval (.tmp sp.y)=.map sp.id) (hid:∀ d,(pre d).H[sp.id]? = some (.map sp.K sp.V (rows d) (clock d)))
  (hin:∀ d b,iC m sp.inv sp.ps (gJ sp.opens (sp.vf (pre d) b))=some (sp.side d b,sp.init d b)) (hadr:∀ d b,sp.aY (sp.init d b)=b) (hri:∀ d b,ri (sp.init d b)=rows d∧ci (sp.init d b)=clock d)
  (hinv:qr.inv=sp.inv) (houts:qr.outs=q.outs) (I:pV P m rest qr) (hst:∀ d,q.st d=iU sp qr.st (rows d) (clock d) d) :
  pV P m (.seq (la r0 b0 r1 b1 r2 bg bS bq sp.t2 body) rest) q:=by
 intro d i d' h;rw[hst]at h;unfold iU at h;cases bY:ku (rows d) (clock d)with
 |false=>rw[bY]at h; cases h
 | true =>
  rw[bY]at h;simp only[cond_true]at h;have hall:=Dh h;obtain⟨hn,hlt⟩:=Le bY;have u:∀ b p,p.Perm (rows d)→sp.side d b=true∧∃ d1,cG sp.st sp.aY p (sp.init d b)=some d1∧qr.st d1=some (some i,d'):=by
   intro b p k;have:=hall b p k;cases M:sp.side d b with
   |false=>rw[M]at this; cases this
   | true =>
    rw[M]at this;simp only[cond_true]at this;cases B:cG sp.st sp.aY p (sp.init d b)with
    |none=>rw[B]at this; cases this
    | some d1 =>
     rw[B]at this;exact⟨rfl,d1,rfl,this⟩
  obtain⟨_,d1,_,g1⟩:=u 0 (rows d) (nu _);obtain⟨o,N,_⟩:=I d1 i d' g1;refine⟨o,by rw[←houts]; exact N,fun ro O E a hs=>wpIn_seq (wpIn_mono (WT hm W hL hr ho hu1 hu2 hut hid2 hkeep him (Li W (hy d)) (v d) (hid d) hn hlt (fun b=>by rw[hin d b,(u b (rows d) (nu _)).1]) (hadr d) (hri d) (fun b p k=>?_) E a hs ro (K9 O.seq1)) fun e a1 w1 hq=>?_)⟩
  ·obtain ⟨_, d2, h2, _⟩ := u b p k
   rw[h2];rfl
  ·obtain ⟨rfl, b, p, d2, k, B, loc, X, hs2, hle⟩ := hq
   obtain⟨_,d3,h3,h4⟩:=u b p k;rw[B]at h3;cases h3;obtain⟨o',U,J⟩:=I d2 i d' h4;rw[N]at U;cases U;rw[hinv]at J;exact wpIn_mono (J ro O.B5 { w:=w1,H:=(aN sp.inv d2).den.H,loc:=loc,X:=X } a1 hs2) fun x a2 w2 v=>⟨v.1,dt.after hle v.2⟩
theorem aA.Lt(hm:P.follows .mixedOrders=true)(k:aq P τ){fn:Func}{q qr:bz}{r0 b0 r1 b1 r2:Nat}{rows:List G→List (List G)}{clock:List G→Nat}
  (J:∀ d,(aN sp.inv d).H[sp.id]? = some (.map sp.K sp.V (ri d) (ci d))) (v:∀ r d d',sp.st r d=some d'→ri d'=ri d∧ci d'=ci d) (N:er sp.id m=true) (hn:k_ q.key (bI (aU fn))=true) (hL:aA P m L (aU fn))
  (u:cutAt fn q.key=.seq (la r0 b0 r1 b1 r2 (lb (cutAt fn q.key)) (yW (cutAt fn q.key)) (mR (cutAt fn q.key)) sp.t2 (pX (cutAt fn q.key))) (pW (cutAt fn q.key)))
  (ho:(yT P sp (lb (cutAt fn q.key))&&yU sp (yW (cutAt fn q.key))&&yV sp (mR (cutAt fn q.key)))=true)
  (hr:jP P τ L m sp (mR (cutAt fn q.key)) (pX (cutAt fn q.key)))
  (O:∀ d,(aN sp.inv d).fr[sp.t1]? = some .undef) (U:∀ d,(aN sp.inv d).fr[sp.t2]? = some .undef) (W:∀ d,(aN sp.inv d).fr[sp.it]? = some (.lit (.pointer (some ⟨sp.aY d,0,none⟩))))
  {pre:List G→al} (hy:∀ d,(lM P τ (lb (cutAt fn q.key)) (lb (cutAt fn q.key)).toList.dropLast (aN q.inv d) fun s=>.done .normal s).kr=some (.normal,pre d)) (hx:∀ d,(pre d).eval (.tmp sp.y)=.map sp.id) (hid:∀ d,(pre d).H[sp.id]? = some (.map sp.K sp.V (rows d) (clock d)))
  (hin:∀ d b,iC m sp.inv sp.ps (gJ sp.opens (sp.vf (pre d) b))=some (sp.side d b,sp.init d b)) (M:∀ d b,sp.aY (sp.init d b)=b) (hri:∀ d b,ri (sp.init d b)=rows d∧ci (sp.init d b)=clock d)
  (hinv:qr.inv=sp.inv) (B:qr.outs=q.outs) (I:gW P τ L m (pW (cutAt fn q.key)) qr) (hst:∀ d,q.st d=iU sp qr.st (rows d) (clock d) d) :
  aA P m (L.fX m q) (aU fn):=by
 refine aA.Lf hn hL fun h=>?_;rw[u]at h;obtain⟨hLb,hLr⟩:=Lh h;simp only[ax]at ho;rw[u];exact WU hm k hLb hr (Lg ho.1.1 ho.1.2 ho.2) O U W J v (by rw[←jb]; exact N) hy hx hid hin M hri hinv B (I.sat hm k hLr) hst
end range
/-! ### d of h own u k in front, as q of arguments do -/
theorem dt.Lu{m m':Nat}{E:Env}{s':St}{d:Act}{w':World}(h:dt m' E s' d w')(hm:m≤m'):dt m E s' d w':=by
 obtain⟨k,X',h1,q⟩:=h;exact⟨k,X',h1,q.mono hm⟩
theorem cM.mono{P:Program}{m m':Nat}{c:Code}{s:St}{x:bL}{s':St}(h:cM P m' c s x s')(hm:m≤m'):cM P m c s x s' :=
 fun ro k E a q=>wpIn_mono (h ro k E a q) fun _ _ _ d=>⟨d.1,d.2.Lu hm⟩
theorem rm.mono{P:Program}{m m':Nat}{c:Code}(hm:m≤m'){x:bL}{s':St}:∀{n:Nat} {s:St},rm P m' c n s x s'→rm P m c n s x s'
 |0,_,h=>⟨h.1,h.2.mono hm⟩
 |_+1,_,⟨s1,h1,d⟩=>⟨s1,h1.mono hm,d.mono hm⟩
theorem aA.mono{P:Program}{m m':Nat}{L:LT}{c:Code}(h:aA P m' L c)(hm:ep m m'=true):aA P m L c:=by
 have hm:=qy hm;refine⟨fun k d hk s t q Q u=>?_,fun id s y E a B=>(h.2.1 id s y E a B).Lu hm,fun k d hk s t q Q u=>?_⟩
 ·obtain ⟨x, s', ⟨n, h1⟩, v⟩ := h.1 k d hk s t q Q u
  exact⟨x,s',⟨n,h1.mono hm⟩,v⟩
 ·obtain ⟨x, s', h1, v⟩ := h.2.2 k d hk s t q Q u
  exact⟨x,s',h1.mono hm,v⟩
end Go.AL

namespace Go.AL
open Go
variable [Dr]
theorem Lv{a:G}{l:List G}:gi (a::l) 0=a:=rfl
theorem Lw{a:G}{l:List G}{n:Nat}:gi (a::l) (n+1)=gi l n:=rfl
theorem WV{n:Int}:(G.i n).int=n:=rfl
theorem WW{n:Nat}:ae n n=true:=Nat.beq_refl n
def Dv(sp:fh)(tl:List G→Option (Option Nat × List G))(rows:List (List G))(clock:Nat)(d:List G):Option (Option Nat × List G) :=
 match rows with
 | [x]=>bif ku [x] clock then bif sp.side d 0 then (cG sp.st sp.aY [x] (sp.init d 0)).bind tl else none else none
 |_=>none
theorem WX{sp:fh}{tl:List G→Option (Option Nat × List G)}{rows:List (List G)}{clock:Nat}{d:List G}{r:Option Nat × List G}
  (q:∀ b,sp.side d b=sp.side d 0) (u:∀ x b,(cG sp.st sp.aY [x] (sp.init d b)).bind tl=(cG sp.st sp.aY [x] (sp.init d 0)).bind tl)
  (h:Dv sp tl rows clock d=some r):iU sp tl rows clock d=some r:=by
 unfold Dv at h;split at h
 case h_2=>cases h
 rename_i x;cases h1:ku [x] clock with
 |false=>rw[h1]at h; cases h
 | true =>
  cases k:sp.side d 0 with
  |false=>rw[h1,k]at h; cases h
  | true =>
   rw[h1,k]at h;unfold iU;rw[h1];refine Ld fun b p v=>?_;rw[List.perm_singleton.1 v,q b,k,cond_true,u x b];exact h
theorem WY{st:List G→List G→Option (List G)}{aY:List G→Nat}{x e:List G}:cG st aY [x] e=(st x e).bind fun d'=>bif ae (aY d') (aY e) then some d' else none:=by
 simp only[cG];cases st x e<;>rfl
theorem WZ{α β:Type}{c:Bool}{a b:Option α}{f:α→Option β}:(bif c then a else b).bind f=bif c then a.bind f else b.bind f:=by
 cases c<;>rfl
theorem W0{c:Bool}{X Y:Option (Option Nat × List G)}{K:Nat→List G→Option (List G)}{r:List G}(h:∀ v,X=some v→Y=some v)(hr:a8 c (dn X) K=some r):a8 c (dn Y) K=some r:=by
 cases X with
 |some v=>rw[h v rfl]; exact hr
 |none=>cases c<;>cases hr
end Go.AL

namespace Go.AL
open Go
variable [Dr]
end Go.AL
