/-
 What is proved here: the function that slices.Backward hands back,called with a round's body: the rounds come from the last row to the first one. No program in sight; no condition.
-/
import Derived.Test.YtiljbnkkhbennaaGreatDoorMD
import Derived.Test.YtiljbnkkhbennaaGreatDoorMC
import Derived.Lib.LaidTab
import Derived.Sort.Grow
import Derived.Deep.Draws
set_option linter.all false
open Array renaming getElem?_push→yL,ext'→fO,getElem?_eq_some_iff→gV
open Bool renaming and_eq_true→az
open Go.Deferred renaming ofValue→VR
open Go.Exit renaming inBlock→Dd
open Go.MapKept renaming heap_set→Kx
open Go.World renaming putObj_heap_other→Kr,putObj_heap_same→al5,size_alloc→Ky,alloc_heap_new→al6
open List renaming append_nil→dh,append_assoc→gT,getElem?_append_left→cT,getElem?_eq_getElem→bf,mem_of_getElem?→eZ,all_eq_true→dB,getD_eq_getElem?_getD→bz,mem_cons→bN,getElem?_of_mem→pe,replicate→cd,mem_cons_self→cU,range'→pk,range→dI,mem_range→fG,range_eq_range'→Dc,getElem_mem→mN
open List.Perm renaming refl→pq
open Nat renaming le_refl→aD,le_add_right→fq,lt_of_lt_of_le→dP,zero_le→fg,beq→ab,eq_of_beq_eq_true→bk,ble→eE,blt→eh,blt_eq→iR,le_of_ble_eq_true→nW,lt_irrefl→sD
open Option renaming isSome_iff_exists→qH,bind_some→y7
open Option.some renaming injEq→aY
open Prod.mk renaming injEq→a8
namespace Go.AL
open Go
variable [Dr]
theorem FV{P:Program}{pf:FuncId→Bool}{ops:Array Oper}{o:Oper}{s:St}{v:AV}(hg:o.guard=none)(d:cW pf o.op=.read)(h:fi P s.eval s.H o.op=some v):Yields P pf ops o s v s.H:=by
 unfold Yields;rw[show bR ops s.fr o=some true from by unfold bR; rw[hg]];simp only[d];exact⟨trivial,h⟩
theorem kG{P:Program}{pf:FuncId→Bool}{ops:Array Oper}{o:Oper}{s:St}{v:AV}(hg:o.guard=none)(d:cW pf o.op=.pure)(h:iC P s.eval o.op=some v):Yields P pf ops o s v s.H:=by
 unfold Yields;rw[show bR ops s.fr o=some true from by unfold bR; rw[hg]];simp only[d];exact⟨trivial,.inl h⟩
structure w5 (S T:TypeId) (bp bS bt eY:Array Oper):Prop where
 r0:∃ o1 o2 o3 o4 t t',bp.toList=[o1,o2,o3,o4]∧(o1.guard=none∧o1.op=.load S (.tmp 1)∧o1.dst=some 4)∧(o2.guard=none∧o2.op=.call { callee:=.builtin .len,args:=#[.tmp 4],argTypes:=#[S] }∧o2.dst=some 5) ∧
  (o3.guard=none∧o3.op=.binOp .sub t (.tmp 5) (.const (.int .i64 1)) t'∧o3.dst=some 6)∧(o4.guard=none∧o4.op=.assign (.tmp 6)∧o4.dst=some 3)
 r1:∃ o1 o2 t t',bS.toList=[o1,o2]∧(o1.guard=none∧o1.op=.move (.tmp 3)∧o1.dst=some 7)∧(o2.guard=none∧o2.op=.binOp .geq t (.tmp 7) (.const (.int .i64 0)) t'∧o2.dst=some 8)
 r2:∃ o1 o2 o3 t t',bt.toList=[o1,o2,o3]∧(o1.guard=none∧o1.op=.move (.tmp 3)∧o1.dst=some 9)∧(o2.guard=none∧o2.op=.binOp .sub t (.tmp 9) (.const (.int .i64 1)) t'∧o2.dst=some 10)∧(o3.guard=none∧o3.op=.assign (.tmp 10)∧o3.dst=some 3)
 r3:∃ o1 o2 o3 o4 o5 o6 o7 o8 t tys,eY.toList=[o1,o2,o3,o4,o5,o6,o7,o8]∧(o1.guard=none∧o1.op=.move (.tmp 0)∧o1.dst=some 11)∧(o2.guard=none∧o2.op=.move (.tmp 3)∧o2.dst=some 12)∧(o3.guard=none∧o3.op=.load S (.tmp 1)∧o3.dst=some 13) ∧
  (o4.guard=none∧o4.op=.move (.tmp 3)∧o4.dst=some 14)∧(o5.guard=none∧o5.op=.indexAddr S (.tmp 13) (.tmp 14)∧o5.dst=some 15)∧(o6.guard=none∧o6.op=.load T (.tmp 15)∧o6.dst=some 16) ∧
  (o7.guard=none∧o7.op=.call { callee:=.value (.tmp 11),args:=#[.tmp 12,.tmp 16],argTypes:=tys }∧o7.dst=some 17)∧(o8.guard=none∧o8.op=.unOp .not t (.tmp 17)∧o8.dst=some 18)
def w6(bp bS bt eY:Array Oper)(r0 r1 r2 r3 b0 b1:Nat):Code :=
 .seq (.region r0 bp false) (.block b0 (.loop (.seq (.seq (.region r1 bS false) (.cond (.tmp 8) .skip (.exit b0))) (.seq (.block b1 (.seq (.region r3 eY false) (.cond (.tmp 18) .ret .skip))) (.region r2 bt false)))))
def kH(y cp:AV)(i:AV):List AV:=[y,cp,.undef,i,.undef,.undef,.undef,.undef,.undef,.undef,.undef,.undef,.undef,.undef,.undef,.undef,.undef,.undef,.undef]
structure w7 (P:Program) (S T:TypeId) (sl:AV) (n:Nat) (rv:Nat→AV):Prop where
 load:∀ H,g_ P S (.cptr [sl]) H=some sl
 len:zO (cg P S) sl=some (.lit (.int .i64 (n:Nat)))
 idx:∀ i:Int,0≤i→i<n→∃ cells,kn (cg P S) sl (.lit (.int .i64 i))=some (.cptr cells)∧∀ H,g_ P T (.cptr cells) H=some (rv i.toNat)
 cl:AV.br [sl]=true
end Go.AL
namespace Go.AL
open Go
variable [Dr]
section bw
variable {P:Program} {pf:FuncId→Bool} {S T:TypeId} {sl:AV} {n:Nat} {rv:Nat→AV} {bp bS bt eY:Array Oper}
theorem N8{E:Env}:∀{as d:List AV} {vs:List Value},af E as vs→as.length=d.length→(∀(i:Nat) (b:AV),d[i]? = some b→b=.undef∨as[i]? = some b)→af E d vs
 | [],[],[],_,_,_=>by simp[af]
 | [],[],_::_,h,_,_=>by simp[af]at h
 |_::_,[],_,_,h,_=>by simp at h
 | [],_::_,_,_,h,_=>by simp at h
 |_::_,_::_,[],h,_,_=>by simp[af]at h
 | a::as,b::d,v::vs,h,k,hm=>by
  simp only[af]at h⊢;refine⟨?_,N8 h.2 (by simpa using k) fun i q hb=>hm (i+1) q (by simpa using hb)⟩;rcases hm 0 b rfl with rfl|e
  ·simp[rel]
  ·have e : a = b := by simpa using e
   rw[←e];exact h.1
def Env.ir(E:Env):Env:={ E with X:=⟨E.X.x,fun _=>False,E.X.r⟩ }
theorem FW{E:Env}(h:aq E.ir):ia E.ir E:=⟨rfl,rfl,aD _,fun b _ d=>⟨d,rfl⟩,h.X,rfl⟩
theorem N9{w:World}{X:XS}{l:List Deferred}(h:jR w X l)(k:∀ b,¬ X.z b):l=[]:=by
 cases l with
 |nil=>rfl
 | cons d l =>
  obtain⟨D,_,_,_,q⟩:=h.2 d cU;exact(k D q).elim
theorem FX{J:Env→Prop}(B:∀ E E',J E→E.le E'→aq E'→E'.H=E.H→J E'){id:Nat}{ops:Array Oper}{fr fr':List AV}{E:Env}{a:Act}{Q:Exit→Act→World→Prop}(I:bQ ⟨fr,E.H⟩ E.ir a)(M:J E)
  (h:gg P pf ops ops.toList ⟨fr,E.H⟩ ⟨fr',E.H⟩) (N:∀ k E',J E'→bQ ⟨fr',E'.H⟩ E'.ir k→Q .normal k E'.w):(Code.region id ops false).wpIn (fz none) 0 P Q a E.w :=
 L2 I h (fun k w' O=>by
  obtain⟨q,r',h1,d⟩:=O;exact N k { w:=w',H:=E.H,loc:=q,X:=E.X.re r' } (B _ _ M ⟨d.past,d.size,d.same,d.own,d.live,⟨rfl,rfl⟩,d.rl,d.env,d.grow⟩ (h1.heap.cR (FW (E:={ w:=w',H:=E.H,loc:=q,X:=E.X.re r' }) h1.heap)) rfl) h1) none
theorem N_{J:Env→Prop}(I:∀ E E',J E→E.le E'→aq E'→E'.H=E.H→J E'){ops:Array Oper}{l:List Oper}{k:Nat}{rest:List Nat}{fr fr':List AV}{E:Env}{a:Act}{Q:Exit→Act→World→Prop}
  (M:∀(j:Nat) (o:Oper),l[j]? = some o→ops[k+j]? = some o) (N:bQ ⟨fr,E.H⟩ E.ir a) (O:J E)
  (h:gg P pf ops l ⟨fr,E.H⟩ ⟨fr',E.H⟩) (U:∀ q E',J E'→bQ ⟨fr',E'.H⟩ E'.ir q→wpOpsIn (fz none) 0 P ops Q rest q E'.w):wpOpsIn (fz none) 0 P ops Q (pk k l.length++rest) a E.w :=
 Bb none l k _ _ E.ir a rest M h N (fun q w' V=>by
  obtain⟨B,r',h1,d⟩:=V;exact U q { w:=w',H:=E.H,loc:=B,X:=E.X.re r' } (I _ _ O ⟨d.past,d.size,d.same,d.own,d.live,⟨rfl,rfl⟩,d.rl,d.env,d.grow⟩ (h1.heap.cR (FW (E:={ w:=w',H:=E.H,loc:=B,X:=E.X.re r' }) h1.heap)) rfl) h1)
theorem N'{E E':Env}:∀{fr:List AV} {vs:List Value},af E fr vs→(∀ b∈fr,b=.undef∨(∃ v,b=.lit v)∨∀ c,rel E b c→rel E' b c)→af E' fr vs
 | [],[],_,_=>by simp[af]
 | [],_::_,h,_=>by simp[af]at h
 |_::_,[],h,_=>by simp[af]at h
 | b::fr,v::vs,h,hb=>by
  simp only[af]at h⊢;refine⟨?_,N' h.2 fun x d=>hb x (List.mem_cons_of_mem _ d)⟩;rcases hb b cU with rfl|⟨u,rfl⟩|h'
  ·simp[rel]
  ·simpa only[rel]using h.1
  ·exact h' _ h.1
theorem jg{ops:Array Oper}{o:Oper}{l:List Oper}{fr:List AV}{H:List ad}{s':St}{v:AV}{d:Tmp}(h:Yields P pf ops o ⟨fr,H⟩ v H)(k:o.dst=some d)(h':gg P pf ops l ⟨fr.set d v,H⟩ s'):gg P pf ops (o::l) ⟨fr,H⟩ s' :=
 ⟨v, H, h, by
  simp only[St.put,jT,k];exact h'⟩
theorem w8{ops:Array Oper}{s:St}:gg P pf ops [] s s:=rfl
theorem Oa{t:TypeId}{k:Bool}{a b:Int}(h:aw (a-b)=true):hZ P .sub t k (.lit (.int .i64 a)) (.lit (.int .i64 b))=some (.lit (.int .i64 (a-b))):=by
 simp only[hZ,iT,if_true,mP];rw[rC h]
theorem aad{t:TypeId}{k:Bool}{a b:Int}:hZ P .geq t k (.lit (.int .i64 a)) (.lit (.int .i64 b))=some (.lit (.bool (decide (a ≥ b)))):=by
 simp only[hZ,iT,if_true,mP]
theorem FY{ops:Array Oper}{l:List Oper}(h:ops.toList=l)(i:Nat):ops[i]? = l[i]? := by rw[←h]; simp
theorem aae(hT:w7 P S T sl n rv){f:FuncId}{fn:Func}{r0 r1 r2 r3 b0 b1:Nat}(hf:P.funcs[f]? = some fn)(hb:fn.body=some (w6 bp bS bt eY r0 r1 r2 r3 b0 b1))(hn:fn.ntmps=19)(hr:fn.results=#[])(ho:w5 S T bp bS bt eY)
  {l:Nat} (hlen:n≤1048576) (J:Nat→Env→Prop) (hJ:∀ k E,J k E→aq E) (I:∀ k E E',J k E→E.le E'→aq E'→E'.H=E.H→J k E')
  {c:Value}
  (hround:∀ k E (cs:Array Value),k<n→J k E→af E [.lit (.int .i64 ((n:Int)-1-k)),rv (n-1-k)] cs.toList→YieldAt (fz none) 0 P l cs E.w fun e W'=>e=.returned (.bool true)∧∃ E',E'.w=W'∧J (k+1) E'∧E.bH E')
  {E0:Env} (h0:J 0 E0) (hcp:rel E0 (.cptr [sl]) c):CallsIn (fz none) 0 P f #[.func (.yield l) #[] #[],c] E0.w fun e W'=>(∃ v,e=.returned v)∧∃ E',E'.w=W'∧J n E':=by
 obtain⟨o1,o2,o3,o4,t1,t2,q0,⟨g1,p1,d1⟩,⟨g2,p2,d2⟩,⟨g3,p3,d3⟩,⟨g4,p4,d4⟩⟩:=ho.r0;refine callsIn_of_wp_marks hf hb trivial ?_;have hin:∀ j:Int,0≤j→j≤n→aw (j-1)=true:=fun j h1 h2=>ib.2 ⟨by omega,by omega⟩;obtain⟨y,hy⟩:∃ y:AV,y=.lit (.func (.yield l) #[] #[]):=⟨_,rfl⟩
 obtain⟨cp,U⟩:∃ cp:AV,cp=.cptr [sl]:=⟨_,rfl⟩
 rw[←U]at hcp;have hs0:bQ ⟨y::cp::cd 17 .undef,E0.H⟩ E0.ir { tmps:=#[.func (.yield l) #[] #[],c]++Array.replicate (fn.ntmps-2) undef,defers:=[] }:=by
  have hE0:aq E0.ir:=(hJ 0 E0 h0).cR (th (hJ 0 E0 h0));refine⟨rfl,?_,qU _ _,hE0⟩;rw[hn];simp only[Array.toList_append,Array.toList_replicate];show af E0.ir ([y,cp]++cd 17 .undef) ([.func (.yield l) #[] #[],c]++cd 17 undef)
  refine kW (by simp only[af]; exact⟨by rw[hy]; simp[rel],vV (th (hJ 0 E0 h0)) _ hcp,trivial⟩) ?_;exact vU (cd 17 undef)
 refine wpIn_seq (FX (pf:=fun _=>false) (J:=J 0) (I 0) hs0 h0 (fr':=[y,cp,.undef,.lit (.int .i64 ((n:Int)-1)),sl,.lit (.int .i64 (n:Int)),.lit (.int .i64 ((n:Int)-1)),.undef,.undef,.undef,.undef,.undef,.undef,.undef,.undef,.undef,.undef,.undef,.undef]) ?_ fun a1 E1 hj1 hs1=>?_)
 ·rw [q0]
  refine jg (v:=sl) (FV g1 (by rw[p1]; rfl) ?_) d1 (jg (v:=.lit (.int .i64 (n:Int))) (kG g2 ?_ ?_) d2 (jg (v:=.lit (.int .i64 ((n:Int)-1))) (kG g3 (by rw[p3]; rfl) ?_) d3
   (jg (v:=.lit (.int .i64 ((n:Int)-1))) (kG g4 (by rw[p4]; rfl) ?_) d4 ?_)))
  ·rw [p1]
   show g_ P S cp E0.H=_
   rw[U];exact hT.load _
  ·rw [p2]
   rfl
  ·rw [p2]
   show zO (cg P S) sl=_
   exact hT.len
  ·rw [p3]
   exact Oa (P:=P) (t:=t1) (k:=mX (Operand.tmp 5)||mX (Operand.const (.int .i64 1))) (hin (n:Int) (by omega) (by omega))
  ·rw [p4]
   rfl
  ·exact w8
 have B:∀{E:Env} {a:Act} {fr:List AV} {i:AV},bQ ⟨fr,E.H⟩ E.ir a→fr.length=19→fr[0]? = some y→fr[1]? = some cp→fr[3]? = some i→bQ ⟨kH y cp i,E.H⟩ E.ir a:=by
  intro E a fr i h h19 e0 e1 e3;refine⟨rfl,N8 h.fr (by rw[h19]; rfl) fun j b hb=>?_,h.defers,h.heap⟩
  match j,hb with
  |0,hb=>exact .inr (by rw[e0]; exact hb)
  |1,hb=>exact .inr (by rw[e1]; exact hb)
  |3,hb=>exact .inr (by rw[e3]; exact hb)
  |2,hb=>exact .inl (by cases hb; rfl)
  | j+4,hb =>
   left;have hx:kH y cp i=[y,cp,.undef,i]++cd 15 .undef:=rfl;rw[hx,List.getElem?_append_right (by simp)]at hb;have:=eZ hb;exact(List.mem_replicate.1 this).2
 refine wpIn_block (wpIn_loop (fun a w=>∃ k E,E.w=w∧k≤n∧J k E∧bQ ⟨kH y cp (.lit (.int .i64 ((n:Int)-1-k))),E.H⟩ E.ir a)
  (fun a _=>match a.eval (.tmp 3)with | .int _ i=>(i+1).toNat|_=>0) ⟨0,E1,rfl,fg _,hj1,B hs1 rfl rfl rfl (by simp)⟩ ?_)
 rintro a _ ⟨k,E,rfl,hkl,hj,hs⟩;obtain⟨i1,i2,t3,t4,qq1,⟨ga1,pa1,da1⟩,⟨ga2,pa2,da2⟩⟩:=ho.r1;obtain⟨j1,j2,j3,t5,t6,qq2,⟨gb1,pb1,db1⟩,⟨gb2,pb2,db2⟩,⟨gb3,pb3,db3⟩⟩:=ho.r2;obtain⟨u1,u2,u3,u4,u5,u6,N,u8,t7,tys,V,⟨gc1,pc1,dc1⟩,⟨gc2,pc2,dc2⟩,⟨gc3,pc3,dc3⟩,⟨gc4,pc4,dc4⟩,⟨gc5,pc5,dc5⟩,⟨gc6,pc6,dc6⟩,⟨gc7,pc7,dc7⟩,⟨gc8,pc8,dc8⟩⟩:=ho.r3;obtain⟨i,hi⟩:∃ i:Int,i=(n:Int)-1-k:=⟨_,rfl⟩
 rw[←hi]at hs;have hmu:a.eval (.tmp 3)=.int .i64 i:=by
  have:=hs.eval (.tmp 3);simpa[St.eval,kH,rel]using this
 refine wpIn_seq (wpIn_seq (FX (pf:=fun _=>false) (J:=J k) (I k) hs hj (fr':=((kH y cp (.lit (.int .i64 i))).set 7 (.lit (.int .i64 i))).set 8 (.lit (.bool (decide (i ≥ 0))))) ?_ fun a2 O hj2 hs2=>?_))
 ·rw [qq1]
  refine jg (v:=.lit (.int .i64 i)) (kG ga1 (by rw[pa1]; rfl) (by rw[pa1]; rfl)) da1 (jg (v:=.lit (.bool (decide (i ≥ 0)))) (kG ga2 (by rw[pa2]; rfl) ?_) da2 w8);rw[pa2];exact aad (P:=P) (t:=t3) (k:=mX (Operand.tmp 7)||mX (Operand.const (.int .i64 0)))
 have h8:a2.eval (.tmp 8)=.bool (decide (i ≥ 0)):=by
  have:=hs2.eval (.tmp 8);simpa[St.eval,kH,rel]using this
 by_cases W:i ≥ 0
 ·have hkl' : k < n := by omega
  refine wpIn_cond_true (by rw[h8]; simp[W]) (wpIn_skip ?_);have hs2':=B hs2 rfl rfl rfl rfl;show (Code.seq _ _).wpIn (fz none) 0 P _ _ _
  refine wpIn_seq (wpIn_block (wpIn_seq (wpIn_region ?_)));obtain⟨cells,hcells,hcell2⟩:=hT.idx i W (by omega);have hsz:eY.size=8:=by
   have:eY.toList.length=8:=by rw[V]; rfl
   simpa using this
  rw[hsz];show wpOpsIn (fz none) 0 P eY _ (pk 0 6++[6,7]) a2 O.w
  have hpos:∀(j:Nat) (o:Oper),[u1,u2,u3,u4,u5,u6][j]? = some o→eY[0+j]? = some o:=by
   intro j o M;rw[FY V];have hlt:j<6:=by simpa using aK M
   rw[Nat.zero_add,show [u1,u2,u3,u4,u5,u6,N,u8]=[u1,u2,u3,u4,u5,u6]++[N,u8] from rfl,cT (by simpa using hlt)];exact M
  refine N_ (pf:=fun _=>false) (J:=J k) (l:=[u1,u2,u3,u4,u5,u6]) (k:=0) (I k) hpos hs2' hj2
   (fr':=[y,cp,.undef,.lit (.int .i64 i),.undef,.undef,.undef,.undef,.undef,.undef,.undef,y,.lit (.int .i64 i),sl,.lit (.int .i64 i),.cptr (cells),rv i.toNat,.undef,.undef]) ?_ fun a3 d hj3 q=>?_
  ·refine jg (v:=y) (kG gc1 (by rw [pc1]; rfl) (by rw [pc1]; rfl)) dc1 (jg (v:=.lit (.int .i64 i)) (kG gc2 (by rw [pc2]; rfl) (by rw [pc2]; rfl)) dc2 (jg (v:=sl) (FV gc3 (by rw [pc3]; rfl) ?_) dc3
    (jg (v:=.lit (.int .i64 i)) (kG gc4 (by rw[pc4]; rfl) (by rw[pc4]; rfl)) dc4 (jg (v:=.cptr (cells)) (kG gc5 (by rw[pc5]; rfl) ?_) dc5 (jg (v:=rv i.toNat) (FV gc6 (by rw[pc6]; rfl) ?_) dc6 w8)))))
   ·rw [pc3]
    show g_ P S cp O.H=_
    rw[U];exact hT.load _
   ·rw [pc5]
    exact hcells
   ·rw [pc6]
    exact hcell2 O.H
  ·have h11:a3.eval (.tmp 11)=.func (.yield l) #[] #[]:=by
    have:=q.eval (.tmp 11);rw[show St.eval _ (.tmp 11)=y from rfl,hy]at this;simpa only[rel]using this
   have hin2:i.toNat=n-1-k:=by omega
   have hE3:ia d.ir d:=FW q.heap;have hrel:af d [.lit (.int .i64 ((n:Int)-1-k)),rv (n-1-k)] (#[a3.eval (.tmp 12),a3.eval (.tmp 16)]:Array Value).toList:=by
    rw[←hi,←hin2];simp only[af];exact⟨vV hE3 _ (q.eval (.tmp 12)),vV hE3 _ (q.eval (.tmp 16)),trivial⟩
   obtain⟨fn',tmps',asg,bod,hy1,hR⟩:=hround k d _ hkl' hj3 hrel;rw[wpOpsIn_cons];unfold wpOpIn;have h6:eY[6]? = some N:=by rw[FY V]; rfl
   simp only[h6];rw[if_pos (by simp[Region.wanted,gc7])];refine⟨fun _ _=>trivial,?_⟩;rw[Oper.semAt_eq _ _ _ (fun c e=>by rw[pc7]at e; cases e)];have hrun:(execOp a3.eval N).run P d.w=.ok (.round l fn' tmps' asg bod) d.w:=by
    obtain⟨dst,op,type,pos,after,guard⟩:=N;simp only[]at pc7;subst pc7;simp[execOp,resolve,h11,VR,invoke,hy1]
   rw[hrun,Oper.uponIn_round];refine⟨fun h=>(by cases h),hR.mono ?_⟩;rintro e _ ⟨rfl,E',rfl,hj',hleC⟩;show wpOpsIn (fz none) 0 P eY _ (pk 7 1++[]) _ E'.w
   rw[dc7];have hd3:a3.defers=[]:=N9 q.defers fun _ h=>h;have hp:=(B q rfl rfl rfl rfl).j6 17 (v:=.lit (.bool true)) (u:=.bool true) (by simp[rel]);have hE':aq E'.ir:=(hJ (k+1) E' hj').cR (th (hJ (k+1) E' hj'));have hs4:bQ ⟨(kH y cp (.lit (.int .i64 i))).set 17 (.lit (.bool true)),E'.H⟩ E'.ir (a3.put (some 17) (.bool true)):=by
    refine⟨rfl,N' hp.fr fun b hb=>?_,?_,hE'⟩
    ·have hb : b ∈ (kH y cp (.lit (.int .i64 i))).set 17 (.lit (.bool true)) := hb
     rcases List.mem_or_eq_of_mem_set hb with hb|rfl
     ·simp only [kH, bN, List.not_mem_nil, or_false] at hb
      rcases hb with rfl|rfl|rfl|rfl|hb
      ·exact .inr (.inl ⟨_,hy⟩)
      ·refine .inr (.inr fun c' h => ?_)
       rw[U]at h⊢;exact dZ (E:=d.ir) (E':=E'.ir) ⟨fun b hb=>hleC.ok b hb⟩ _ (by simp[AV.closed]) h
      ·exact .inl rfl
      ·exact .inr (.inl ⟨_,rfl⟩)
      ·left
       rcases hb with rfl|rfl|rfl|rfl|rfl|rfl|rfl|rfl|rfl|rfl|rfl|rfl|rfl|rfl|rfl<;>rfl
     ·exact .inr (.inl ⟨_,rfl⟩)
    ·rw [put_defers, hd3]
     exact qU _ _
   refine N_ (pf:=fun _=>false) (J:=J (k+1)) (l:=[u8]) (k:=7) (I (k+1)) ?_ hs4 hj' (fr':=((kH y cp (.lit (.int .i64 i))).set 17 (.lit (.bool true))).set 18 (.lit (.bool false))) ?_ fun a5 E5 hj5 hs5=>?_
   ·intro j o M
    have hlt:j<1:=by simpa using aK M
    have:j=0:=by omega
    subst this;rw[FY V];exact M
   ·exact jg (v:=.lit (.bool false)) (kG gc8 (by rw[pc8]; rfl) (by rw[pc8]; rfl)) dc8 w8
   ·show (Code.cond _ _ _).wpIn (fz none) 0 P _ _ _
    have h18:a5.eval (.tmp 18)=.bool false:=by
     have:=hs5.eval (.tmp 18);simpa[St.eval,kH,rel]using this
    refine wpIn_cond_false h18 (wpIn_skip ?_);show (Code.region _ _ _).wpIn (fz none) 0 P _ _ _
    refine FX (pf:=fun _=>false) (J:=J (k+1)) (I (k+1)) (B hs5 rfl rfl rfl rfl) hj5 (fr':=(((kH y cp (.lit (.int .i64 i))).set 9 (.lit (.int .i64 i))).set 10 (.lit (.int .i64 (i-1)))).set 3 (.lit (.int .i64 (i-1)))) ?_ fun a6 E6 hj6 hs6=>?_
    ·rw [qq2]
     refine jg (v:=.lit (.int .i64 i)) (kG gb1 (by rw[pb1]; rfl) (by rw[pb1]; rfl)) db1 (jg (v:=.lit (.int .i64 (i-1))) (kG gb2 (by rw[pb2]; rfl) ?_) db2 (jg (v:=.lit (.int .i64 (i-1))) (kG gb3 (by rw[pb3]; rfl) (by rw[pb3]; rfl)) db3 w8));rw[pb2];exact Oa (P:=P) (t:=t5) (k:=mX (Operand.tmp 9)||mX (Operand.const (.int .i64 1))) (hin i W (by omega))
    ·have h3:a6.eval (.tmp 3)=.int .i64 (i-1):=by
      have:=hs6.eval (.tmp 3);simpa[St.eval,kH,rel]using this
     have e6:i-1=(n:Int)-1-((k+1:Nat):Int):=by omega
     refine⟨⟨k+1,E6,rfl,by omega,hj6,?_⟩,?_⟩
     ·rw [← e6]
      exact B hs6 rfl rfl rfl rfl
     ·rw [h3, hmu]
      show (i-1+1).toNat<(i+1).toNat
      omega
 ·refine wpIn_cond_false (by rw [h8]; simp [W]) (wpIn_exit ?_)
  simp only[Exit.then,Dd,if_true];have hd:a2.defers=[]:=N9 hs2.defers fun _ h=>h;have hk:k=n:=by omega
  subst hk;show LeavesInM (fz none) 0 P fn a2.tmps _ a2.defers .returning O.w
  rw[hd];refine⟨.tuple #[],?_,⟨_,rfl⟩,O,rfl,hj2⟩;rw[zY,hr];simp
end bw
end Go.AL

namespace Go.AL
open Go
variable [Dr]
mutual
def oM(m:Nat):AV→Bool
 |.agg cs=>nm m cs
 |.tuple cs=>nm m cs
 |.clo _ cs=>nm m cs
 |.ptr id ae _ _ _=>eh id m&&ab ae 0
 |.vec _ id ae _ _=>eh id m&&ab ae 0
 |.map id=>eh id m
 |.sub ..=>false
 |_=>true
def nm(m:Nat):List AV→Bool
 | []=>true
 |a::as=>oM m a&&nm m as
end
mutual
theorem aaf{E E':Env}{m:Nat}(h:E.dL m E'):∀(a:AV) {c:Value},oM m a=true→rel E a c→rel E' a c
 |.undef,_,_,_=>by simp[rel]
 |.lit v,c,_,hr=>by simpa only[rel]using hr
 |.nils,c,_,hr=>by simpa only[rel]using hr
 |.list k rows,c,_,hr=>dZ (rN h) _ (by simp[AV.closed]) hr
 |.listF ks rows,c,_,hr=>dZ (rN h) _ (by simp[AV.closed]) hr
 | .agg cells,c,d,hr=>by
  simp only[rel]at hr⊢;obtain⟨cs,e,h1,q⟩:=hr;exact⟨cs,e,h1,w9 h cells (by simpa only[oM]using d) q⟩
 | .tuple cells,c,d,hr=>by
  simp only[rel]at hr⊢;obtain⟨cs,e,q⟩:=hr;exact⟨cs,e,w9 h cells (by simpa only[oM]using d) q⟩
 |.cptr cells,c,_,hr=>dZ (rN h) _ (by simp[AV.closed]) hr
 |.sub ..,_,d,_=>by simp[oM]at d
 | .ptr id ae k row col,c,d,hr=>by
  simp only[oM,az,iR]at d;obtain⟨h1,q⟩:=d;have q:=bk q;subst q;simp only[rel]at hr⊢;obtain⟨g1,g2,g3⟩:=hr;refine⟨g1,h.past id h1 g2,fun B=>?_⟩;obtain⟨I,J⟩:=h.live id h1 g2 B;rw[J];exact g3 I
 | .vec k id ae off n,c,d,hr=>by
  simp only[oM,az,iR]at d;obtain⟨h1,q⟩:=d;have q:=bk q;subst q;simp only[rel]at hr⊢;obtain⟨g1,g2,g3⟩:=hr;refine⟨g1,h.past id h1 g2,fun B=>?_⟩;obtain⟨I,J⟩:=h.live id h1 g2 B;rw[J];exact g3 I
 | .map id,c,d,hr=>by
  simp only[oM,iR]at d;simp only[rel]at hr⊢;obtain⟨g1,g2,g3⟩:=hr;refine⟨g1,h.past id d g2,fun B=>?_⟩;obtain⟨I,J⟩:=h.live id d g2 B;rw[J];exact g3 I
 | .clo f caps,c,d,hr=>by
  simp only[rel]at hr⊢;obtain⟨cs,e,q⟩:=hr;exact⟨cs,e,w9 h caps (by simpa only[oM]using d) q⟩
 |.ifc,c,_,hr=>by simpa only[rel]using hr
 |.emptyS n,c,_,hr=>by simpa only[rel]using hr
theorem w9{E E':Env}{m:Nat}(h:E.dL m E'):∀(as:List AV) {vs:List Value},nm m as=true→af E as vs→af E' as vs
 | [],[],_,_=>by simp[af]
 | [],_::_,_,hr=>by simp[af]at hr
 |_::_,[],_,hr=>by simp[af]at hr
 | a::as,v::vs,d,hr=>by
  simp only[nm,az]at d;simp only[af]at hr⊢;exact⟨aaf h a d.1 hr.1,w9 h as d.2 hr.2⟩
end
theorem Env.dL.mono{m m':Nat}{E E':Env}(h:E.dL m' E')(hm:m≤m'):E.dL m E' :=
 ⟨fun id hi=>h.past id (by omega),h.size,h.same,h.own,fun id hi=>h.live id (by omega),h.X,h.rl,h.env,fun id hi=>h.grow id (by omega)⟩
structure Env.oN (m l:Nat) (E E':Env):Prop where
 past:∀ id,id<m→E.past id 0→E'.past id 0
 size:E.w.heap.size≤E'.w.heap.size
 same:∀ b,b<E.w.heap.size→¬ E.own b→b≠l→E'.w.heap[b]? = E.w.heap[b]?
 own:∀ b,b<E.w.heap.size→¬ E.own b→¬ E'.own b
 live:∀ id,id<m→E.past id 0→E'.live id 0→E.live id 0∧E'.loc[id]? = E.loc[id]?
 X:∀ b,b<E.w.heap.size→(E'.X b↔E.X b)∧(E'.X.z b↔E.X.z b)
 rl:∀ l h,h<(E.X.r l).length→h<(E'.X.r l).length∧∀ q,(E'.X.r l)[h]? = some (some q)→(E.X.r l)[h]? = some (some q)
 env:ep E.w E'.w
 grow:∀ id,id<m→∀ l o,E.H[id]? = some o→o.dy=some l→E'.live id 0→(∃ t,E'.X.r l=E.X.r l++t)∧∃ o',E'.H[id]? = some o'∧o'.dy=some l
theorem Env.dL.toX{m l:Nat}{E E':Env}(h:E.dL m E'):E.oN m l E':=⟨h.past,h.size,fun b hb ho _=>h.same b hb ho,h.own,h.live,h.X,h.rl,h.env,h.grow⟩
theorem Env.oN.trans{m l:Nat}{E E' N:Env}(h:E.oN m l E')(h':E'.oN m l N):E.oN m l N where
 past:=fun id hi B=>h'.past id hi (h.past id hi B)
 size:=Nat.le_trans h.size h'.size
 same:=fun b hb ho k=>by rw[h'.same b (dP hb h.size) (h.own b hb ho) k,h.same b hb ho k]
 own:=fun b hb ho=>h'.own b (dP hb h.size) (h.own b hb ho)
 live:=fun id hi hid k=>by
  obtain⟨I,a2⟩:=h'.live id hi (h.past id hi hid) k;obtain⟨b1,J⟩:=h.live id hi hid I;exact⟨b1,by rw[a2,J]⟩
 X:=fun b hb=>by
  have h1:=h'.X b (dP hb h.size);have d:=h.X b hb;exact⟨h1.1.trans d.1,h1.2.trans d.2⟩
 rl:=fun l i hi=>by
  obtain⟨I,a2⟩:=h.rl l i hi;obtain⟨b1,J⟩:=h'.rl l i I;exact⟨b1,fun q W=>a2 q (J q W)⟩
 env:=h.env.trans h'.env
 grow:=fun id hi l o h1 d M=>by
  have B:E.past id 0:=⟨o,h1,ad.Dn d,fun v M=>fg _⟩
  obtain⟨O,_⟩:=h'.live id hi (h.past id hi B) M;obtain⟨⟨t,ht⟩,o',g1,g2⟩:=h.grow id hi l o h1 d O;obtain⟨⟨t',U⟩,V,g3,g4⟩:=h'.grow id hi l o' g1 g2 M;exact⟨⟨t++t',by rw[U,ht,gT]⟩,V,g3,g4⟩
theorem Env.oN.toM{m l:Nat}{E E':Env}(h:E.oN m l E')(d:l<E.w.heap.size→E'.w.heap[l]? = E.w.heap[l]?):E.dL m E' :=
 ⟨h.past, h.size, fun b hb ho => by
  by_cases e:b=l
  ·subst e
   exact d hb
  ·exact h.same b hb ho e,h.own,h.live,h.X,h.rl,h.env,h.grow⟩
theorem FZ{w:World}{H:List ad}{loc:List (Option (Nat × Nat))}{X:XS}{l:Nat}{o:Obj}(hX:X l)(HE:aq { w:=w,H:=H,loc:=loc,X:=X }) :
  ia { w:=w,H:=H,loc:=loc,X:=X } { w:=w.putObj l o,H:=H,loc:=loc,X:=X } :=
 ⟨rfl, rfl, by simp, fun b _ d => ⟨d, Kr fun e => d (by rw [e]; exact hX)⟩, fun b hb => by
  have:=HE.X b hb;simpa using this,rfl⟩
theorem F0{m:Nat}{w:World}{H:List ad}{loc:List (Option (Nat × Nat))}{X:XS}{l:Nat}{o:Obj}:({ w:=w,H:=H,loc:=loc,X:=X }:Env).oN m l { w:=w.putObj l o,H:=H,loc:=loc,X:=X } :=
 ⟨fun _ _ h=>h,by simp,fun b _ _ h=>Kr h,fun _ _ h=>h,fun _ _ _ h=>⟨h,rfl⟩,fun _ _=>⟨Iff.rfl,Iff.rfl⟩,fun _ _ h=>⟨h,fun _ d=>d⟩,⟨rfl,rfl,rfl,by first|exact fun _=>aD _|exact fun _=>fq _ _⟩,fun _ _ _ o h1 k _=>⟨⟨[],(dh _).symm⟩,o,h1,k⟩⟩
theorem Ob{w:World}{X:XS}{l:Nat}{r:Loop}{o:Obj}{k:List Deferred}(h:jR w X k)(q:w.heap[l]? = some (.loop r)):jR (w.putObj l o) X k :=
 ⟨h.1, fun d B => by
  obtain⟨D,e,h1,I,J⟩:=h.2 d B;exact⟨D,e,by rw[Kr (fun e=>by rw[e,q]at h1; cases h1)]; exact h1,I,J⟩⟩
end Go.AL

namespace Go.AL
open Go
variable [Dr]
structure w_ (P:Program) (m:Nat) (n:Nat) (rv:Nat→AV) (p0 p1:Tmp) (assign body:Code) (S:Nat→St):Prop where
 na:fy assign=true
 nb:fy body=true
 fix:∀ k,k<n→nm m (S k).fr=true
 round:∀ k,k<n→∃ s1 s2,cI P m assign ⟨((S k).fr.set p0 (.lit (.int .i64 ((n:Int)-1-k)))).set p1 (rv (n-1-k)),(S k).H⟩ .normal s1∧cI P m body s1 .normal s2∧bl m ⟨(S k).fr,s2.H⟩ (S (k+1))
section bw
variable {P:Program} {m':Nat} {n:Nat} {rv:Nat→AV} {p0 p1:Tmp} {assign body:Code} {S:Nat→St}
theorem aag(hr:w_ P m' n rv p0 p1 assign body S){k:Nat}(hk:k<n){fn:FuncId}{D l:Nat}{a:Act}{tmps:Array Value}(htm:tmps=a.tmps){E:Env}(d:bQ (S k) E a)(hX:E.X l)
  (N:E.w.heap[l]? = some (.loop { state:=.ready,pending:=none,fn,tmps,params:=#[p0,p1],assign,body,defers:=D })) {cs:Array Value} (hc:af E [.lit (.int .i64 ((n:Int)-1-k)),rv (n-1-k)] cs.toList) :
  YieldAt (fz none) 0 P l cs E.w fun e W'=>e=.returned (.bool true)∧∃ E',E'.w=W'∧bQ (S (k+1)) E' a∧E.dL m' E'∧E'.X l ∧
   E'.w.heap[l]? = some (.loop { state:=.ready,pending:=none,fn,tmps,params:=#[p0,p1],assign,body,defers:=D }):=by
 obtain⟨s1,s2,hA,hB,hle⟩:=hr.round k hk;obtain⟨B,c1,rfl⟩:∃ B c1,cs=#[B,c1]:=by
  have:=gG hc
  match h:cs.toList,this with
  | [B,c1],_=>exact⟨B,c1,fO (by simpa using h)⟩
 simp only[af]at hc;obtain⟨hc0,hc1,_⟩:=hc;refine⟨_,_,_,_,run_yield N (by simp),roundIn_of_wpIn (F:=fz none) trivial ?_⟩;have hlt:l<E.w.heap.size:=(gV.1 N).1;have hs0:bQ ⟨((S k).fr.set p0 (.lit (.int .i64 ((n:Int)-1-k)))).set p1 (rv (n-1-k)),(S k).H⟩ E { tmps:=(a.tmps.setIfInBounds p0 B).setIfInBounds p1 c1,defers:=[] }:=by
  refine⟨d.H,?_,qU _ _,d.heap⟩;simp only[Array.toList_setIfInBounds];exact zQ p1 (zQ p0 d.fr hc0) hc1
 have e0:((#[p0,p1]:Array Tmp).zip #[B,c1]).foldl (fun tmps (t,a)=>tmps.setIfInBounds t a) tmps=(a.tmps.setIfInBounds p0 B).setIfInBounds p1 c1:=by
  rw[htm];simp[←Array.foldl_toList]
 rw[e0];refine wpIn_mono (hA (some l) (.inr hr.na) E _ hs0) fun e a1 I ⟨he,loc1,X1,hs1,J⟩=>?_;subst he;have hno:¬ E.own l:=d.heap.pA hX;have hl1:I.heap[l]? = some (.loop { state:=.ready,pending:=none,fn,tmps,params:=#[p0,p1],assign,body,defers:=D }):=by rw[J.same l hlt hno]; exact N
 have hX1:X1 l:=(J.X l hlt).1.2 hX;have U:l<I.heap.size:=(gV.1 hl1).1;refine⟨_,run_beginRound hl1 rfl,?_⟩;have hs1':=hs1.cR (FZ (o:=.loop { state:=.busy,pending:=none,fn,tmps,params:=#[p0,p1],assign,body,defers:=D }) hX1 hs1.heap) (Ob hs1.defers hl1);refine wpIn_mono (hB (some l) (.inr hr.nb) _ a1 hs1') fun e a2 w3 ⟨he,V,O,hs2,W⟩=>?_;subst he;have hno1:¬ Env.own { w:=I,H:=s1.H,loc:=loc1,X:=X1 } l:=J.own l hlt hno;have hl3:w3.heap[l]? = some (.loop { state:=.busy,pending:=none,fn,tmps,params:=#[p0,p1],assign,body,defers:=D }):=by
  rw[W.same l (by show l<(I.putObj _ _).heap.size; simpa using U) hno1];exact al5 U
 have hX2:O l:=(W.X l (by show l<(I.putObj _ _).heap.size; simpa using U)).1.2 hX1;have hlt3:l<w3.heap.size:=(gV.1 hl3).1;refine⟨_,_,run_endRound (P:=P) none hl3,rfl,?_⟩;obtain⟨q,M⟩:∃ q,w3.putObj l (.loop { state:=.ready,pending:=none,fn,tmps,params:=#[p0,p1],assign,body,defers:=D })=q:=⟨_,rfl⟩
 have hl4:q.heap[l]? = some (.loop { state:=.ready,pending:=none,fn,tmps,params:=#[p0,p1],assign,body,defers:=D }):=by
  rw[←M];exact al5 hlt3
 have hM:E.dL m' { w:=q,H:=s2.H,loc:=V,X:=O }:=by
  refine Env.oN.toM (l:=l) (J.toX.trans (F0.trans (W.toX.trans ?_))) (fun _=>by rw[show Env.w _=q from rfl,hl4,N]);rw[←M];exact F0
 have hR4:aq { w:=q,H:=s2.H,loc:=V,X:=O }:=by
  rw[←M];exact hs2.heap.cR (FZ hX2 hs2.heap)
 have hsr:bQ ⟨(S k).fr,s2.H⟩ { w:=q,H:=s2.H,loc:=V,X:=O } a:=by
  refine⟨rfl,w9 hM _ (hr.fix k hk) d.fr,zl d.defers (fun b h1 h2=>?_) (fun b h1 _=>hM.same b (d.heap.X b h1) (d.heap.pA h1)),hR4⟩;have:=hM.X b (d.heap.X b h1);exact⟨this.1.2 h1,this.2.2 h2⟩
 obtain⟨loc7,X7,hs7,hle7⟩:=hle _ a hsr;refine⟨{ w:=q,H:=(S (k+1)).H,loc:=loc7,X:=X7 },?_,hs7,hM.trans hle7,(hle7.X l (by show l<q.heap.size; exact(gV.1 hl4).1)).1.2 hX2,hl4⟩;rw[←M];rfl
theorem aah{T1 T2:TypeId}{sl:AV}{bp bS bt eY:Array Oper}{m:Nat}(hT:w7 P T1 T2 sl n rv){f:FuncId}{fd:Func}{r0 r1 r2 r3 b0 b1:Nat}(hf:P.funcs[f]? = some fd)(hbd:fw P f=true)(hb:fd.body=some (w6 bp bS bt eY r0 r1 r2 r3 b0 b1))(hn:fd.ntmps=19)(hre:fd.results=#[])(ho:w5 T1 T2 bp bS bt eY)
  (hlen:n≤1048576) (hmm:m≤m') (hr:w_ P m' n rv p0 p1 assign body S) {g:Tmp} {s:St} {id wd:Nat} (hg:s.eval (.tmp g)=.clo f [.ptr id 0 wd 0 0]) (hid:s.H[id]? = some (.box [sl])) (h0:bl m ⟨s.fr,s.H.set id .dead⟩ (S 0))
  (E:Env) (a:Act) (I:bQ s E a):(Code.rangeFunc (.tmp g) #[p0,p1] assign body).wpIn (fz none) 0 P (fun e a1 B=>e=.normal∧dE m E (S n) a1 B) a E.w:=by
 have hgv:=I.eval (.tmp g);rw[hg]at hgv;simp only[rel]at hgv;obtain⟨cs,hgv,hcs⟩:=hgv;obtain⟨c,rfl⟩:∃ c,cs=#[c]:=by
  have:=gG hcs
  match h:cs.toList,this with
  | [c],_=>exact⟨c,fO (by simpa using h)⟩
 simp only[af,rel]at hcs;obtain⟨⟨⟨bc,oc,hc0⟩,_,hlive⟩,_⟩:=hcs;have hidE:E.H[id]? = some (.box [sl]):=by rw[I.H]; exact hid
 obtain⟨bb,nn,hloc,hcv⟩:=hlive ⟨_,hidE,rfl⟩;obtain⟨D,hD⟩:∃ D,E.w.heap.size=D:=⟨_,rfl⟩
 have hobj:=I.heap.obj id _ hidE;simp only[aN]at hobj;obtain⟨b',n',hloc',hrow,hcells⟩:=hobj;rw[hloc]at hloc';obtain⟨rfl,rfl⟩:bb=b'∧nn=n':=by
  have h:=hloc';simp only[aY,a8]at h;exact h
 have N:=Env.sK I.heap id;have hdr:=aq.drop I.heap id fun o ho=>by
  rw[hidE]at ho;cases ho;rfl
 have hcp0:rel { w:=E.w,H:=E.H.set id .dead,loc:=E.loc.set id none,X:=E.X } (.cptr [sl]) c:=by
  simp only[rel];refine⟨hT.cl,bb,0,by simpa using hcv,⟨(I.heap.lt id bb nn hloc).1,?_,(I.heap.lt id bb nn hloc).2⟩,vB (E:=E) (fun a c h=>bI N a h) rfl hcells⟩;rintro(⟨j,q,O⟩|⟨l,k,q,O⟩)
  case inr=>exact I.heap.cY _ _ _ _ _ _ hloc O
  simp only[List.getElem?_set]at O;split at O
  ·split at O<;>cases O
  ·rename_i aA
   exact aA (I.heap.inj _ _ _ _ _ hloc O)
 refine wpIn_rangeFunc ?_;intro fn _;obtain⟨rec,U⟩:∃ rec:Loop,rec={ state:=.ready,pending:=none,fn,tmps:=a.tmps,params:=#[p0,p1],assign,body,defers:=D }:=⟨_,rfl⟩
 obtain⟨B,hw1⟩:∃ B,(E.w.alloc (.deferred (some []))).alloc (.loop rec)=B:=⟨_,rfl⟩
 have hsz:B.heap.size=D+2:=by rw[←hw1,Ky,Ky,hD]
 have hl1:B.heap[D+1]? = some (.loop rec):=by
  rw[←hw1];have:=al6 (E.w.alloc (.deferred (some []))) (.loop rec)
  rwa [Ky,hD]at this
 have hold2:∀ b,b<D+1→B.heap[b]? = (E.w.alloc (.deferred (some []))).heap[b]? := fun b hb=>by
  rw[←hw1];show ((E.w.alloc (.deferred (some []))).heap.push _)[b]? = _
  rw[yL,if_neg (by rw[Ky,hD]; omega)]
 have hD1:B.heap[D]? = some (.deferred (some [])):=by
  rw[hold2 D (by omega)];have:=al6 E.w (.deferred (some []))
  rwa [hD]at this
 have hold:∀ b,b<D→B.heap[b]? = E.w.heap[b]? := fun b hb=>by
  rw[hold2 b (by omega)];show (E.w.heap.push _)[b]? = _
  rw[yL,if_neg (by omega)]
 have hos:ep E.w B:=by rw[←hw1]; exact⟨rfl,rfl,rfl,by first|exact fun _=>aD _|exact fun _=>fq _ _⟩
 obtain⟨M,J⟩:∃ M:XS,M=⟨fun b=>E.X b∨b=D∨b=D+1,fun b=>E.X.z b∨b=D,E.X.r⟩:=⟨_,rfl⟩
 obtain⟨mk,hmk⟩:∃ mk:Deferred,mk={ target:=.collected D,args:=#[] }:=⟨_,rfl⟩
 have cR:ia { w:=E.w,H:=E.H.set id .dead,loc:=E.loc.set id none,X:=E.X } { w:=B,H:=E.H.set id .dead,loc:=E.loc.set id none,X:=M } :=
  ⟨rfl, rfl, by show E.w.heap.size ≤ B.heap.size; omega, fun b hb hx => by
   have hb:b<D:=by rw[←hD]; exact hb
   refine⟨fun h=>?_,hold b hb⟩;rw[J]at h;rcases h with h|h|h
   ·exact hx h
   ·omega
   ·omega,fun b hb=>by
   show b<B.heap.size
   rw[J]at hb;rcases hb with h|h|h
   ·have := I.heap.X b h
    omega
   ·omega
   ·omega,by show M.r=E.X.r; rw[J]⟩
 have hs2:bQ ⟨s.fr,s.H.set id .dead⟩ { w:=B,H:=E.H.set id .dead,loc:=E.loc.set id none,X:=M } { a with defers:=mk::a.defers }:=by
  refine⟨by rw[I.H],ox cR _ (dK N _ I.fr),⟨?_,fun d N=>?_⟩,hdr.cR cR⟩
  ·refine List.nodup_cons.2 ⟨fun h => ?_, I.defers.1⟩
   obtain⟨V,e,h1,W,_⟩:=I.defers.2 mk h;have:=I.heap.X V W;rw[hmk]at e;have e:D=V:=by
    have e:=congrArg Deferred.target e;simpa using e
   omega
  ·rcases bN.1 N with rfl | N
   ·exact⟨D,hmk,hD1,by rw[J]; exact .inr (.inl rfl),by rw[J]; exact .inr rfl⟩
   ·obtain ⟨V, e, h1, W, h3⟩ := I.defers.2 d N
    have:=I.heap.X V W;exact⟨V,e,by rw[show Env.w _=B from rfl,hold V (by omega)]; exact h1,by rw[J]; exact .inl W,by rw[J]; exact .inl h3⟩
 have hle2:E.dL m { w:=B,H:=E.H.set id .dead,loc:=E.loc.set id none,X:=M }:=by
  refine N.toM.trans ⟨fun _ _ h=>h,by show E.w.heap.size≤B.heap.size; omega,fun b hb _=>hold b (by rw[←hD]; exact hb),fun b _ h ho=>h ((cR.own b).1 ho),fun _ _ _ h=>⟨h,rfl⟩,fun b hb=>?_,fun l h hh=>by show h<(M.r l).length∧_; rw[J]; exact⟨hh,fun _ hq=>hq⟩,hos,fun _ _ _ o h1 W _=>⟨⟨[],by show M.r _=_; rw[J,dh]⟩,o,h1,W⟩⟩;have hb:b<D:=by rw[←hD]; exact hb
  show (M b↔E.X b)∧(M.z b↔E.X.z b)
  rw[J];exact⟨⟨fun h=>by rcases h with h|h|h; exact h; omega; omega,.inl⟩,⟨fun h=>by rcases h with h|h; exact h; omega,.inl⟩⟩
 obtain⟨loc3,X3,hs3,hle3⟩:=h0 _ _ hs2;have hX3:X3 (D+1):=(hle3.X (D+1) (by show D+1<B.heap.size; omega)).1.2 (by show M (D+1); rw[J]; exact .inr (.inr rfl));have hcp3:rel { w:=B,H:=(S 0).H,loc:=loc3,X:=X3 } (.cptr [sl]) c:=dZ (rN hle3) _ (by simp[AV.closed]) (dZ cR.toC _ (by simp[AV.closed]) hcp0);refine⟨D+1,[mk],B,{ target:=.fn (.func f) #[c],args:=#[.func (.yield (D+1)) #[] #[]] },B,f,#[.func (.yield (D+1)) #[] #[],c],B,?_,?_,fun _ _=>trivial,?_,fun h=>(by cases h),?_⟩
 ·rw [← hw1, U, hmk, ← hD]
  exact run_enterLoop_outer _ _ _ _ _
 ·have hcst : a.eval (.const (.func (.yield (D + 1)) #[] #[])) = .func (.yield (D + 1)) #[] #[] := rfl
  simp[resolve,hgv,hcst,VR]
 ·simp[invoke,Ei hbd]
 ·have hcall:=aae (P:=P) hT hf hb hn hre ho (l:=D+1) hlen (fun k E'=>bQ (S k) E' { a with defers:=mk::a.defers }∧E.dL m E'∧E'.X (D+1)∧E'.w.heap[D+1]? = some (.loop rec)) (fun k E' h=>h.1.heap)
   (fun k E1 E2 h hle hR hH=>?_) (c:=c) (fun k E' cs hk h hc=>?_) (E0:={ w:=B,H:=(S 0).H,loc:=loc3,X:=X3 }) ⟨hs3,hle2.trans hle3,hX3,hl1⟩ hcp3
  ·refine hcall.mono fun e w3 ⟨⟨v, hv⟩, E4, hw4, hs4, hle4, hX4, hl4⟩ => ?_
   subst hv;subst hw4;obtain⟨w4,H4,loc4,X4⟩:=E4;have hH4:H4=(S n).H:=hs4.H;subst hH4;have hend:=run_endLoop (P:=P) hl4 (by rw[U]; simp);refine⟨_,_,hend,?_⟩;rw[U];refine⟨rfl,loc4,X4,?_,?_⟩
   ·rw [← U]
    exact hs4.cR (FZ hX4 hs4.heap) (Ob hs4.defers hl4)
   ·exact(hle4.toX.trans F0).toM (l:=D+1) (fun h=>absurd h (by omega))
  ·obtain ⟨g1, g2, g3, g4⟩ := h
   have hlt:D+1<E1.w.heap.size:=(gV.1 g4).1;refine⟨⟨by rw[hH]; exact g1.H,dK hle _ g1.fr,zm g1.heap hle g1.defers,hR⟩,g2.trans hle.toM,by rw[hle.X.1]; exact g3,?_⟩;rw[hle.same (D+1) hlt (g1.heap.pA g3)];exact g4
  ·obtain ⟨g1, g2, g3, g4⟩ := h
   rw[U]at g4;obtain⟨fn',tm,as,bo,k1,k2⟩:=aag hr hk rfl g1 g3 g4 hc;refine⟨fn',tm,as,bo,k1,k2.mono fun e W' ⟨he,E'',hw,q1,q2,q3,q4⟩=>⟨he,E'',hw,⟨q1,g2.trans (q2.mono hmm),q3,by rw[U]; exact q4⟩,rN q2⟩⟩
end bw
end Go.AL

namespace Go.AL
open Go
variable [Dr]
variable {P:Program}
theorem Oc{m m' n:Nat}{rv:Nat→AV}{p0 p1:Tmp}{assign body:Code}{S:Nat→St}{T1 T2:TypeId}{sl:AV}{bp bS bt eY:Array Oper}(B:w7 P T1 T2 sl n rv){f:FuncId}{fd:Func}{r0 r1 r2 r3 b0 b1:Nat}(I:P.funcs[f]? = some fd)(d:fw P f=true)
  (hb:fd.body=some (w6 bp bS bt eY r0 r1 r2 r3 b0 b1)) (hn:fd.ntmps=19) (k:fd.results=#[]) (ho:w5 T1 T2 bp bS bt eY)
  (hlen:n≤1048576) (hmm:m≤m') (hr:w_ P m' n rv p0 p1 assign body S) {g:Tmp} {s:St} {id wd:Nat} (hg:s.eval (.tmp g)=.clo f [.ptr id 0 wd 0 0]) (hid:s.H[id]? = some (.box [sl])) (h0:bl m ⟨s.fr,s.H.set id .dead⟩ (S 0)) :
  cI P m (.rangeFunc (.tmp g) #[p0,p1] assign body) s .normal (S n):=fun ro q E a J=>by
 obtain rfl:ro=none:=q.resolve_right (by simp[fy]);exact wpIn_mono (aah B I d hb hn k ho hlen hmm hr hg hid h0 E a J) fun e M N ⟨he,h⟩=>⟨he,h⟩
structure j7 where
 f:FuncId
 T1:TypeId
 T2:TypeId
 w:Nat
 pw:Nat
 agg:Bool
def qh(P:Program)(i:j7):Prop:=∃ fd bp bS bt eY r0 r1 r2 r3 b0 b1 e b,P.funcs[i.f]? = some fd∧fw P i.f=true∧fd.body=some (w6 bp bS bt eY r0 r1 r2 r3 b0 b1)∧fd.ntmps=19∧fd.results=#[]∧w5 i.T1 i.T2 bp bS bt eY ∧
 e_ P i.T1=some (1,false)∧cg P i.T1=.slice e i.w b∧e_ P i.T2=some (i.pw,i.agg)
def np(agg:Bool)(w:Nat)(row:List AV):AV:=(gf agg w row).getD .undef
theorem aai{i:j7}{e b:Nat}{rows:List (List AV)}(h1:e_ P i.T1=some (1,false))(q:cg P i.T1=.slice e i.w b)(M:e_ P i.T2=some (i.pw,i.agg)) (hr:(rows.all fun r=>(gf i.agg i.pw r).isSome)=true) :
  w7 P i.T1 i.T2 (.list i.w rows) rows.length (fun k=>np i.agg i.pw (rows.getD k [])):=by
 refine⟨fun H=>?_,?_,fun k I J=>?_,by simp[AV.br,AV.closed]⟩
 ·simp[g_,h1,gf]
 ·rw [q]
  rfl
 ·have d : k.toNat < rows.length := by omega
  refine⟨rows[k.toNat],?_,fun H=>?_⟩
  ·rw [q]
   simp only[kn];rw[if_pos ⟨trivial,I,J⟩,bf d];rfl
  ·have := dB.1 hr rows[k.toNat] (mN d)
   obtain⟨v,B⟩:=qH.1 this;simp only[g_,M,B];unfold np;rw[bz,bf d,Option.getD_some,B];rfl
def Bm(P:Program)(τ:ai)(p0 p1:Tmp)(assign body:Code)(fr:List AV):List (Int × AV)→List ah→(List ah→Tree)→Tree
 | [],H,k=>k H
 | (i,v)::q,H,k=>dN P τ ay assign ⟨(fr.set p0 (.lit (.int .i64 i))).set p1 v,H⟩ fun x s1=>match x with
  | .normal=>dN P τ ay body s1 fun x s2=>match x with
   |.normal=>Bm P τ p0 p1 assign body fr q s2.H k
   |_=>.fail
  |_=>.fail
theorem Od(hm:P.follows .mixedOrders=true){τ:ai}(I:ak P τ){p0 p1:Tmp}{assign body:Code}{fr:List AV}{Q:bO→al→Prop}{k:List ah→Tree}(m:Nat):∀(q:List (Int × AV)) (H:List ah),(Bm P τ p0 p1 assign body fr q H k).holds Q →
  ∃ f:Nat→List ah,f 0=H∧(∀ j d,q[j]? = some d→∃ s1 s2:al,cI P m assign ⟨(fr.set p0 (.lit (.int .i64 d.1))).set p1 d.2,aj (f j)⟩ .normal s1.den∧cI P m body s1.den .normal s2.den∧f (j+1)=s2.H)∧(k (f q.length)).holds Q
 | [],H,h=>⟨fun _=>H,rfl,fun j d B=>by simp at B,h⟩
 | (i,v)::q,H,h=>by
  simp only[Bm]at h;obtain⟨x,s1,h1,J⟩:=gh hm I assign _ _ (aL P m assign) h;cases x with
  | normal =>
   obtain⟨x,s2,N,M⟩:=gh hm I body _ _ (aL P m body) J;cases x with
   | normal =>
    obtain⟨f,g1,g2,g3⟩:=Od hm I m q s2.H M;refine⟨fun j=>match j with|0=>H|j+1=>f j,rfl,fun j d B=>?_,g3⟩;cases j with
    | zero =>
     simp only[List.getElem?_cons_zero,aY]at B;subst B;exact⟨s1,s2,h1,N,g1⟩
    |succ j=>exact g2 j d (by simpa using B)
   |exit _=>exact M.elim
   |ret=>exact M.elim
  |exit _=>exact J.elim
  |ret=>exact J.elim
def Bn(agg:Bool)(w:Nat)(rows:List (List AV)):List (Int × AV):=(dI rows.length).map fun(k:Nat)=>((rows.length:Int)-1-k,np agg w (rows.getD (rows.length-1-k) []))
def F1(P:Program)(τ:ai)(i:j7)(m:Nat)(c:Code)(s:al):Option Tree :=
 match c with
 | .seq (.seq r3 (.block _ (.rangeFunc (.tmp g) ps assign body))) rest=>match ps.toList,fy assign&&fy body with
  | [p0,p1],true=>some (dN P τ ay r3 s fun x s1=>match x with
   | .normal=>match s1.fr.getD g .undef with
    | .clo f [.ptr id 0 _ 0 0]=>match s1.H[id]? with
     | some (.raw (.box [.list w rows]))=>.side (ab f i.f&&(ab w i.w&&(eE rows.length 1048576&&((rows.all fun r=>(gf i.agg i.pw r).isSome)&&(nm s1.H.length s1.fr&&eE m s1.H.length)))))
       (Bm P τ p0 p1 assign body s1.fr (Bn i.agg i.pw rows) (s1.H.set id (.raw .dead)) fun H=>dN P τ ay rest ⟨s1.fr,H⟩ .done)
     |_=>.fail
    |_=>.fail
   |_=>.fail)
  |_,_=>none
 |_=>none
theorem aaj(hm:P.follows .mixedOrders=true){τ:ai}(B:ak P τ){i:j7}(hi:qh P i){m:Nat}{c:Code}{s:al}{t:Tree}(h:F1 P τ i m c s=some t):Aw P m c s t:=by
 unfold F1 at h;split at h
 case h_2=>cases h
 rename_i r3 b g ps assign body rest;split at h
 case h_2=>cases h
 rename_i p0 p1 V q;cases h;intro Q W;have U:ps=#[p0,p1]:=fO (by simpa using V);subst U;simp only[az]at q;obtain⟨x,s1,h1,d⟩:=gh hm B r3 s _ (aL P m r3) W;cases x with
 |exit _=>exact d.elim
 |ret=>exact d.elim
 | normal =>
  simp only[]at d;split at d
  case h_2=>exact d.elim
  rename_i f id wd hg;split at d
  case h_2=>exact d.elim
  rename_i w rows hid;simp only[Tree.holds,az]at d;obtain⟨⟨I,J,M,k4,k5,N⟩,h3⟩:=d;have I:=bk I;have J:=bk J;have M:=nW M;have N:=nW N;subst I;subst J;obtain⟨F,f0,f1,f2⟩:=Od hm B s1.H.length _ _ h3;obtain⟨x,s',O,h5⟩:=gh hm B rest _ _ (aL P m rest) f2;refine⟨x,s',?_,h5⟩;obtain⟨fd,bp,bS,bt,eY,r0,r1,r2,r3',b0,b1,e,bb,q1,q2,q3,q4,q5,q6,q7,q8,q9⟩:=hi;have hlen:(Bn i.agg i.pw rows).length=rows.length:=by simp[Bn]
  have hR:w_ P s1.H.length rows.length (fun k=>np i.agg i.pw (rows.getD k [])) p0 p1 assign body (fun k=>⟨s1.fr,aj (F k)⟩):=by
   refine⟨q.1,q.2,fun k _=>k5,fun k hk=>?_⟩;obtain⟨a1,a2,g1,g2,g3⟩:=f1 k ((rows.length:Int)-1-k,np i.agg i.pw (rows.getD (rows.length-1-k) [])) (by
    simp[Bn,hk])
   refine⟨a1.den,a2.den,g1,g2,?_⟩;rw[g3];exact bl.refl _
  have hS:=Oc (m:=m) (m':=s1.H.length) (P:=P) (aai q7 q8 q9 k4) q1 q2 q3 q4 q5 q6 M N hR (g:=g) (s:=s1.den) (id:=id) (wd:=wd) hg (bg hid) (by
   rw[f0,db];exact bl.refl _)
  have hB:cI P m (.block b (.rangeFunc (.tmp g) #[p0,p1] assign body)) s1.den .normal ⟨s1.fr,aj (F rows.length)⟩:=Er (x:=.normal) hS;rw[hlen]at O;exact tf (tf h1 hB) O
def F2(P:Program)(τ:ai)(i:j7)(m key:Nat)(fn:Func):LT:=⟨fun _ _=>none,fun _ s=>(true,s),fun k s=>match ab k key with
 |true=>F1 P τ i m (cutAt fn key) s
 |false=>none⟩
theorem aak(hm:P.follows .mixedOrders=true){τ:ai}(d:ak P τ){i:j7}(hi:qh P i){m key:Nat}{fn:Func} (hn:lp key (bE (aQ fn))=true):ax P m (F2 P τ i m key fn) (aQ fn) :=
 ⟨fun _ _ _ _ _ h => (nomatch h), fun _ _ _ => bl.refl _, fun k q hk s t h => by
  simp only[F2]at h;split at h
  ·rename_i e
   have e:=bk e;subst e;rw[FE hn hk];exact aaj hm d hi h
  ·cases h⟩
end Go.AL

namespace Go.AL
open Go
variable [Dr]
def Oe(P:Program)(i:j7):Bool :=
 (match e_ P i.T1 with
 |some (n,a)=>ab n 1 && !a
 |none=>false)&&((match cg P i.T1 with
 |.slice _ w _=>ab w i.w
 |_=>false)&&(match e_ P i.T2 with
 |some (n,a)=>ab n i.pw&&(a==i.agg)
 |none=>false))
theorem Of{P:Program}{i:j7}{fd:Func}{bp bS bt eY:Array Oper}{r0 r1 r2 r3 b0 b1:Nat}(B:P.funcs[i.f]? = some fd)(hb:fw P i.f=true)(I:fd.body=some (w6 bp bS bt eY r0 r1 r2 r3 b0 b1))(hn:fd.ntmps=19)(hr:fd.results=#[])(ho:w5 i.T1 i.T2 bp bS bt eY)
  (q:Oe P i=true):qh P i:=by
 unfold Oe at q;simp only[az]at q;obtain⟨h1,d,k⟩:=q;split at h1
 case h_2=>cases h1
 rename_i n a J;split at d
 case h_2=>cases d
 rename_i e w b M;split at k
 case h_2=>cases k
 rename_i O U N;simp only[az,Bool.not_eq_true',beq_iff_eq]at h1 k;obtain⟨g1,g2⟩:=h1;obtain⟨g3,g4⟩:=k;have g1:=bk g1;have g3:=bk g3;have d:=bk d;subst g1;subst g2;subst g3;subst g4;subst d;exact⟨fd,bp,bS,bt,eY,r0,r1,r2,r3,b0,b1,e,b,B,hb,I,hn,hr,ho,J,M,N⟩
def ai.Bo(P:Program)(τ:ai)(i:j7)(key:Nat)(f:FuncId)(fn:Func) (ks:List (Option (List Kd))):ai:=τ.add f fun args =>
 match (AD P τ (F2 P τ i 0 key fn) fn ks args []).val with
 | some v=>match AV.br args&&v.closed with
  |true=>some (true,v)
  |false=>none
 |none=>none
theorem ak.Bo{P:Program}{τ:ai}(h:ak P τ)(hm:P.follows .mixedOrders=true){i:j7}(hi:qh P i){key:Nat}{f:FuncId}{fn:Func}(q:P.funcs[f]? = some fn)(hb:fw P f=true) (hn:lp key (bE (aQ fn))=true) (ks:List (Option (List Kd))) :
  ak P (τ.Bo P i key f fn ks):=h.add hb fun args b v d _=>by
 split at d
 ·rename_i u hu
  split at d
  ·rename_i k
   simp only[az]at k;cases d;exact dS hm h ks (fun c d=>by
    have:=aak (m:=0) hm h hi hn;unfold aQ at this;rw[d]at this;exact this) q k.1 k.2 hu
  ·cases d
 ·cases d
def xa:ah→Bool
 |.vec _ v _=>ab v 0
 |.map ..=>true
 |.aX ..=>true
 |.mm ..=>true
 |.raw (.vec _ v _)=>ab v 0
 |.raw .dead=>false
 |.raw .eo=>false
 |.raw _=>true
theorem Og{H:List ah}(h:H.all xa=true):zV (aj H):=by
 intro o ho;obtain⟨t,d,rfl⟩:=List.mem_map.1 ho;have:=dB.1 h t d;cases t with
 |vec ks v rows=>simp only[xa]at this; rw[bk this]; rfl
 |map=>rfl
 |aX=>rfl
 |mm=>rfl
 | raw o=>cases o with
  |vec k v rows=>simp only[xa]at this; rw[bk this]; rfl
  |dead=>cases this
  |eo=>cases this
  |box=>rfl
  |map=>rfl
  |iter=>rfl
  |fh=>rfl
  |aX=>rfl
  |mm=>rfl
def Oh(P:Program)(τ:ai)(fn:Func)(args:List AV)(H:List ah):Option (Bool × AV × List ah) :=
 match H.all xa with
 | true=>match (dN P τ ay (aQ fn) ⟨iY args fn.ntmps,H⟩ .done).jF with
  | some (.normal,s')=>match gL P s'.den fn.results.toList with
   |some vs=>some (true,c9 vs,s'.H)
   |none=>none
  | some (.ret,s')=>match gL P s'.den fn.results.toList with
   |some vs=>some (true,c9 vs,s'.H)
   |none=>none
  |_=>none
 |false=>none
def ai.fe(P:Program)(τ:ai)(f:FuncId)(fn:Func):ai where
 pf g:=match ab g f with
  |true=>false
  |false=>τ.pf g
 T g as:=match ab g f with
  |true=>none
  |false=>τ.T g as
 W g as H:=match ab g f with
  |true=>Oh P τ fn as H
  |false=>τ.W g as H
 C g as H:=match ab g f with
  |true=>dI H.length
  |false=>τ.C g as H
 I:=τ.I
 N g:=match ab g f with
  |true=>false
  |false=>τ.N g
 U g:=match ab g f with
  |true=>true
  |false=>τ.U g
theorem ak.fe{P:Program}{τ:ai}(h:ak P τ)(hm:P.follows .mixedOrders=true){f:FuncId}{fn:Func}(hf:P.funcs[f]? = some fn)(hb:fw P f=true)(O:fn.body.isSome=true):ak P (τ.fe P f fn):=by
 refine⟨fun g as b v hg M=>?_,fun g as H b v H' hg M=>?_,fun g as H b v H' hg A k d=>?_,fun g as H t hg Q hQ=>?_,?_⟩
 rotate_left 4
 ·refine ⟨fun g q as H => ?_, fun g B as H b v H' hg id o d hid => ?_⟩
  ·simp only [ai.fe] at q ⊢
   cases e:ab g f with
   |true=>rw[e]at q; cases q
   | false =>
    rw[e]at q;exact h.F.1 g q as H
  ·simp only [ai.fe] at B hg hid ⊢
   cases e:ab g f with
   |true=>rw[e]at B; cases B
   | false =>
    rw[e]at B hg hid;exact h.F.2 g B as H b v H' hg id o d hid
 rotate_left 3
 ·obtain ⟨g1, v, H', g2, g3, g4⟩ := h.I g as H t hg Q hQ
  refine⟨g1,v,H',g2,fun A k d=>g3 A (fun hm=>k ?_) d,g4⟩;simp only[ai.fe];split
  ·exact fG.2 d
  ·exact hm
 ·simp only [ai.fe] at hg
  split at hg
  ·cases hg
  ·exact h.T g as b v hg M
 ·simp only [ai.fe] at hg
  split at hg
  ·rename_i e
   have e:=bk e;subst e;refine⟨hb,?_⟩;obtain⟨c,N⟩:=qH.1 O;have U:aQ fn=c:=by unfold aQ; rw[N]
   unfold Oh at hg;rw[U]at hg;split at hg
   case h_2=>cases hg
   rename_i V;have key:∀{x:bO} {s':al} {vs:List AV},(dN P τ ay c ⟨iY as fn.ntmps,H⟩ .done).jF=some (x,s')→(x=.normal∨x=.ret)→gL P s'.den fn.results.toList=some vs→dC P g as (aj H) (c9 vs) (aj s'.H):=by
    intro x s' vs h1 hx J;obtain⟨x1,s1,h3,h4⟩:=gh hm h c ⟨iY as fn.ntmps,H⟩ .done (aL P (aj H).length c) (ub h1);obtain⟨rfl,rfl⟩:=h4;exact L7 hf N h3 hx J (Og V)
   split at hg
   ·rename_i s' h1
    split at hg
    ·rename_i vs J
     cases hg;exact key h1 (.inl rfl) J
    ·cases hg
   ·rename_i s' h1
    split at hg
    ·rename_i vs J
     cases hg;exact key h1 (.inr rfl) J
    ·cases hg
   ·cases hg
  ·exact h.W g as H b v H' hg M
 ·simp only [ai.fe] at hg k
  split at hg
  ·rename_i e
   rw[e]at k;exact(k (fG.2 d)).elim
  ·rename_i e
   rw[e]at k;exact h.C g as H b v H' hg A k d
def Oi(P:Program)(τ:ai)(fn:Func)(args:List AV)(H:List ah):Option Tree :=
 match H.all xa with
 | true=>some (dN P τ ay (aQ fn) ⟨iY args fn.ntmps,H⟩ fun x s=>match x with
  | .normal=>match gL P s.den fn.results.toList with
   |some vs=>.done .normal ⟨[c9 vs],s.H⟩
   |none=>.fail
  | .ret=>match gL P s.den fn.results.toList with
   |some vs=>.done .normal ⟨[c9 vs],s.H⟩
   |none=>.fail
  |.exit _=>.fail)
 |false=>none
def ai.nq(P:Program)(τ:ai)(f:FuncId)(fn:Func):ai where
 pf g:=match ab g f with
  |true=>false
  |false=>τ.pf g
 T g as:=match ab g f with
  |true=>none
  |false=>τ.T g as
 W g as H:=match ab g f with
  |true=>none
  |false=>τ.W g as H
 C g as H:=match ab g f with
  |true=>dI H.length
  |false=>τ.C g as H
 I g as H:=match ab g f with
  |true=>Oi P τ fn as H
  |false=>τ.I g as H
 N g:=match ab g f with
  |true=>false
  |false=>τ.N g
 U g:=match ab g f with
  |true=>true
  |false=>τ.U g
theorem ak.nq{P:Program}{τ:ai}(h:ak P τ)(hm:P.follows .mixedOrders=true){f:FuncId}{fn:Func}(hf:P.funcs[f]? = some fn)(hb:fw P f=true)(hbs:fn.body.isSome=true):ak P (τ.nq P f fn):=by
 refine⟨fun g as b v hg N=>?_,fun g as H b v H' hg N=>?_,fun g as H b v H' hg A q k=>?_,fun g as H t hg Q O=>?_,?_⟩
 rotate_left 4
 ·refine ⟨fun g B as H => ?_, fun g J as H b v H' hg id o k hid => ?_⟩
  ·simp only [ai.nq] at B ⊢
   cases e:ab g f with
   |true=>rw[e]at B; cases B
   | false =>
    rw[e]at B;exact h.F.1 g B as H
  ·simp only [ai.nq] at J hg hid ⊢
   cases e:ab g f with
   |true=>rw[e]at J; cases J
   | false =>
    rw[e]at J hg hid;exact h.F.2 g J as H b v H' hg id o k hid
 ·simp only [ai.nq] at hg
  split at hg
  ·cases hg
  ·exact h.T g as b v hg N
 ·simp only [ai.nq] at hg
  split at hg
  ·cases hg
  ·exact h.W g as H b v H' hg N
 ·simp only [ai.nq] at hg q
  split at hg
  ·cases hg
  ·rename_i e
   rw[e]at q;exact h.C g as H b v H' hg A q k
 ·simp only [ai.nq] at hg ⊢
  split at hg
  ·rename_i e
   have e:=bk e;subst e;refine⟨hb,?_⟩;obtain⟨c,U⟩:=qH.1 hbs;have hbo:aQ fn=c:=by unfold aQ; rw[U]
   unfold Oi at hg;rw[hbo]at hg;split at hg
   case h_2=>cases hg
   rename_i hfr;cases hg;obtain⟨V,s1,h3,d⟩:=gh hm h c ⟨iY as fn.ntmps,H⟩ _ (aL P (aj H).length c) O;have key:∀ vs,(V=.normal∨V=.ret)→gL P s1.den fn.results.toList=some vs→Q .normal ⟨[c9 vs],s1.H⟩→∃ v H',dC P g as (aj H) v (aj H')∧(∀ A,¬ A∈dI H.length→A<H.length→H'[A]? = H[A]?)∧Q .normal ⟨[v],H'⟩:=fun vs hx M hq =>
    ⟨c9 vs,s1.H,L7 hf U h3 hx M (Og hfr),fun A q k=>(q (fG.2 k)).elim,hq⟩
   split at d
   ·split at d
    ·rename_i vs M
     exact key vs (.inl rfl) M d
    ·exact d.elim
   ·split at d
    ·rename_i vs M
     exact key vs (.inr rfl) M d
    ·exact d.elim
   ·exact d.elim
  ·rename_i e
   obtain⟨g1,v,H',g2,g3,g4⟩:=h.I g as H t hg Q O;exact⟨g1,v,H',g2,fun A q k=>g3 A (fun hm=>q hm) k,g4⟩
end Go.AL

namespace Go.AL
open Go Go.ChangeMaps
variable [Dr]
def fK.xb(sp:fK)(s:al)(b:Nat):al:=⟨s.fr.set sp.it (.lit (.pointer (some ⟨b,0,none⟩))),s.H⟩
section range
variable {P:Program} {τ:ai} {L:LT} {m:Nat} {sp:fK} {bp bS bt:Array Oper} {body:Code} {ri:List G→List (List G)} {ci:List G→Nat}
def Oj(m:Nat)(sp:fK)(ri:List G→List (List G))(ci:List G→Nat)(E:Env)(rows:List (List G))(d0:List G)(itb mb nn clock:Nat)(a:Act)(w:World):Prop :=
 ∃(d:List G) (loc:List (Option (Nat × Nat))) (X:XS) (seen:Array Nat) (last:Nat) (p:List (List G)),
  cO sp.st sp.a7 p d0=some d∧sp.a7 d=itb∧(p++rows.filter fun x => !seen.contains (da x)).Perm rows ∧
  bQ (aM sp.inv d).den { w:=w,H:=(aM sp.inv d).den.H,loc:=loc,X:=X } a∧E.dL m { w:=w,H:=(aM sp.inv d).den.H,loc:=loc,X:=X }∧X itb ∧
  w.heap[itb]? = some (.mapIter (some mb) clock seen last)∧clock≤last∧ri d=rows∧ci d=clock∧loc[sp.id]? = some (some (mb,nn))
theorem aal(hm:P.follows .mixedOrders=true)(ht:ak P τ)(hL:ax P m L body)(hr:kF P τ L m sp bt body)(ho:oJ P sp bp bS bt)
  (hu1:∀ d,(aM sp.inv d).fr[sp.t1]? = some .undef) (hu2:∀ d,(aM sp.inv d).fr[sp.t2]? = some .undef) (hut:∀ d,(aM sp.inv d).fr[sp.it]? = some (.lit (.pointer (some ⟨sp.a7 d,0,none⟩))))
  {E:Env} {rows:List (List G)} {d0:List G} {itb mb clock:Nat} {nn:Nat} {r1 b0 b1 r2:Nat}
  (hid2:∀ d,(aM sp.inv d).H[sp.id]? = some (.map sp.K sp.V (ri d) (ci d))) (hkeep:∀ r d d',sp.st r d=some d'→ri d'=ri d∧ci d'=ci d) (him:sp.id<m) (hsz:E.w.heap.size≤itb) (hn:(rows.map da).Nodup) (hlt:∀ r∈rows,da r<clock)
  (hfold:∀ p,p.Perm rows→(cO sp.st sp.a7 p d0).isSome=true) {a:Act} {w:World} (hI:Oj m sp ri ci E rows d0 itb mb nn clock a w) (ro:Option Nat) (hro:fj ro body) :
  (Code.loop (.seq (.region r1 bS false) (.seq (.cond (.tmp sp.t2) .skip (.exit b0)) (.block b1 (.seq (.region r2 bt false) body))))).wpIn (fz ro) 0 P
   (fun e a1 N=>e=.exit b0∧∃ p d,p.Perm rows∧cO sp.st sp.a7 p d0=some d∧dE m E (aM sp.inv d).den a1 N) a w:=by
 obtain⟨o1,o2,e1,g1,p1,q1,g2,p2,q2⟩:=ho.r1;obtain⟨o3,l,e3,g3,p3,q3⟩:=ho.r2;refine wpIn_loop (Oj m sp ri ci E rows d0 itb mb nn clock) (fun _ w=>(rows.filter fun x => !(w.iterSeen itb).contains (da x)).length) hI fun a w hI=>?_;obtain⟨d,loc,X,seen,last,p,hf,had,hp,B,hle,hXi,hit,hcl,hriD,hciD,hlo⟩:=hI;have hidd:=hid2 d;rw[hriD,hciD]at hidd;have hob:=B.heap.obj sp.id _ (bg hidd);simp only[ah.den,aN]at hob;obtain⟨q,nn',ms,hlo',hmb,hre⟩:=hob;have hmbe:q=mb:=by
  have h:=hlo';rw[hlo]at h;simp only[aY,a8]at h;exact h.1.symm
 subst hmbe;have aA:q≠itb:=fun e=>(B.heap.lt sp.id q nn hlo).2 (by rw[e]; exact hXi);have h10:bS[0]? = some o1:=by
  have:bS.toList[0]? = some o1:=by rw[e1]; rfl
  simpa using this
 have h11:bS[1]? = some o2:=by
  have:bS.toList[1]? = some o2:=by rw[e1]; rfl
  simpa using this
 have hsz1:bS.size=2:=by
  have:bS.toList.length=2:=by rw[e1]; rfl
  simpa using this
 have hiv:a.eval (.tmp sp.it)=.pointer (some ⟨itb,0,none⟩):=by
  have h:=B.eval (.tmp sp.it);have e:(aM sp.inv d).den.eval (.tmp sp.it)=.lit (.pointer (some ⟨sp.a7 d,0,none⟩)):=by
   show (aM sp.inv d).fr.getD sp.it .undef=_
   rw[bz,hut d];rfl
  rw[e]at h;simp only[rel]at h;rw[h,had]
 obtain⟨hlen,hen⟩:=eG.1 hre;have hl1:(c_ sp.K sp.V rows).length=rows.length:=by simp[c_]
 have O:∀(i:Nat) (e:MapEntry),ms.toList[i]? = some e→∃ r,rows[i]? = some r∧e.born=da r:=by
  intro i e hi;have h1:=aK hi;have I:i<rows.length:=by omega
  refine⟨rows[i],bf I,?_⟩;exact(hen i (sp.K.av (gi rows[i] 0).row,sp.V.av (gi rows[i] 1).row,(gi rows[i] 2).int.toNat) e (by simp[c_,I]) hi).2.2.1
 have hold:∀ x∈ms.toList,x.born<clock:=by
  intro x M;obtain⟨i,hi⟩:=pe M;obtain⟨r,h1,I⟩:=O i x hi;rw[I];exact hlt r (eZ h1)
 have hbn:(ms.toList.map (·.born)).Nodup:=by
  have:ms.toList.map (·.born)=rows.map da:=by
   apply List.ext_getElem?;intro i;simp only[List.getElem?_map];cases hi:ms.toList[i]? with
   | none =>
    have h1:=List.getElem?_eq_none_iff.1 hi;rw[List.getElem?_eq_none (by omega)];rfl
   | some e =>
    obtain⟨r,h1,I⟩:=O i e hi;rw[h1];simp[I]
  rw[this];exact hn
 refine wpIn_seq (wpIn_region ?_);rw[hsz1];show wpOpsIn (fz ro) 0 P bS _ [0,1] a w
 rw[wpOpsIn_cons];have hlt1:=Bd B (hu1 d);have hlt2:=Bd B (hu2 d);rcases run_next_at (P:=P) w o1.type itb q clock last seen ms clock hit hmb hold hcl with⟨h0,hrun⟩|⟨e,he,N,hw1,hrun⟩
 ·refine lr h10 g1 (Bf p1 hiv hrun) (fun c e => by rw [p1] at e; cases e) ro ?_
  rw[q1,wpOpsIn_cons];refine lr h11 g2 (Be p2 (qf hlt1) rfl) (fun c e=>by rw[p2]at e; cases e) ro ?_;rw[q2];show (Code.seq _ _).wpIn (fz ro) 0 P _ _ w
  refine wpIn_seq (wpIn_cond_false (qf (by simpa[Act.put]using hlt2)) (wpIn_exit ?_));refine⟨rfl,p,d,?_,hf,loc,X,?_,hle⟩
  ·have:(rows.filter fun x => !seen.contains (da x))=[]:=by
    rw[List.filter_eq_nil_iff];intro x M hc;obtain⟨i,hi⟩:=pe M;have h1:=aK hi;have I:i<ms.toList.length:=by omega
    obtain⟨r,h3,h4⟩:=O i _ (bf I);rw[hi]at h3;cases h3;have:ms.toList[i]∈(leftOf ms seen).toList:=by
     unfold leftOf;rw[Array.toList_filter];refine List.mem_filter.2 ⟨mN I,?_⟩;rw[h4];exact hc
    have h5:(leftOf ms seen).toList.length=0:=by simpa using h0
    rw[List.length_eq_zero_iff.1 h5]at this;cases this
   rwa [this,dh]at hp
  ·exact(B.qg (hu1 d) (.tuple #[.bool false])).qg (hu2 d) (.bool false)
 ·refine lr h10 g1 (Bf p1 hiv hrun) (fun c e => by rw [p1] at e; cases e) ro ?_
  rw[q1,wpOpsIn_cons];refine lr h11 g2 (Be p2 (qf hlt1) rfl) (fun c e=>by rw[p2]at e; cases e) ro ?_;rw[q2];show (Code.seq _ _).wpIn (fz ro) 0 P _ _ _
  refine wpIn_seq (wpIn_cond_true (qf (by simpa[Act.put]using hlt2)) (wpIn_skip ?_));show (Code.block _ _).wpIn (fz ro) 0 P _ _ _
  refine wpIn_block (wpIn_seq (wpIn_region ?_));generalize hw2:setBlock N itb (.mapIter (some q) clock (seen.push e.born) clock)=k;have W:N.heap=w.heap:=by rcases hw1 with rfl|rfl<;>rfl
  have hos:ep w k:=by rw[←hw2]; rcases hw1 with rfl|rfl<;>exact⟨rfl,rfl,rfl,by first|exact fun _=>aD _|exact fun _=>fq _ _⟩
  have hit2':k.heap[itb]? = some (.mapIter (some q) clock (seen.push e.born) clock):=by
   rw[←hw2];exact(Kx (by rw[W]; exact hit)).1
  have U:∀ b,b≠itb→k.heap[b]? = w.heap[b]? := by
   intro b hb;rw[←hw2];show (N.heap.setIfInBounds itb _)[b]? = _
   rw[(Kx (by rw[W]; exact hit)).2 b hb,W]
  have hsize:k.heap.size=w.heap.size:=by
   rw[←hw2];show (N.heap.setIfInBounds itb _).size=_
   simp[W]
  have hmb2:k.heap[q]? = some (.map ms clock):=by rw[U q aA]; exact hmb
  have cR:ia { w:=w,H:=(aM sp.inv d).den.H,loc:=loc,X:=X } { w:=k,H:=(aM sp.inv d).den.H,loc:=loc,X:=X } :=
   ⟨rfl,rfl,by show w.heap.size≤k.heap.size; omega,fun b hb M=>⟨M,U b (fun e=>M (by rw[e]; exact hXi))⟩,fun b hb=>by show b<k.heap.size; rw[hsize]; exact B.heap.X b hb,rfl⟩
  have hmk:jR k X a.defers:=⟨B.defers.1,fun dd hdd=>by
   obtain⟨D,e,h1,I,h3⟩:=B.defers.2 dd hdd;exact⟨D,e,by rw[U D (fun e=>by rw[e]at h1; rw[hit]at h1; cases h1)]; exact h1,I,h3⟩⟩
  have hs1:=((B.cR cR hmk).qg (hu1 d) (.tuple #[.bool true,e.key,e.val])).qg (hu2 d) (.bool true);obtain⟨hem,hes⟩:=mem_left he;obtain⟨i,hi⟩:=pe hem;obtain⟨r,hri,hrb⟩:=O i e hi;have hrm:=eZ hri;have hre2:=jC cR.toC hre;obtain⟨k1,k2,_⟩:=(eG.1 hre2).2 i (sp.K.av (gi r 0).row,sp.V.av (gi r 1).row,(gi r 2).int.toNat) e (by simp[c_,hri]) hi;have hiv1:((a.put (some sp.t1) (.tuple #[.bool true,e.key,e.val])).put (some sp.t2) (.bool true)).eval (.tmp sp.it)=.pointer (some ⟨itb,0,none⟩):=by
   have h:=hs1.eval (.tmp sp.it);have e:(aM sp.inv d).den.eval (.tmp sp.it)=.lit (.pointer (some ⟨sp.a7 d,0,none⟩)):=by
    show (aM sp.inv d).fr.getD sp.it .undef=_
    rw[bz,hut d];rfl
   rw[e]at h;simp only[rel]at h;rw[h,had]
  have h20:bt[0]? = some o3:=by
   have:bt.toList[0]? = some o3:=by rw[e3]; rfl
   simpa using this
  have hl2:bt.toList.drop 1=l:=by rw[e3]; rfl
  have hsz2:bt.size=l.length+1:=by
   have:bt.toList.length=l.length+1:=by rw[e3]; rfl
   simpa using this
  have hlp:(p++(r::rows.filter fun x => !(seen.push (da r)).contains (da x))).Perm rows :=
   (List.Perm.append_left p (Bc hn hrm (by rw[←hrb]; exact hes)).symm).trans hp
  have J:∃ d',sp.st r d=some d'∧sp.a7 d'=sp.a7 d:=by
   have h:=hfold _ hlp;rw[wY,hf]at h;simp only[y7,cO]at h;cases J:sp.st r d with
   |none=>rw[J]at h; cases h
   | some d' =>
    rw[J]at h;simp only[]at h;cases hb:ab (sp.a7 d') (sp.a7 d)with
    |true=>exact⟨d',rfl,bk hb⟩
    |false=>rw[hb]at h; cases h
  obtain⟨d',J,had'⟩:=J;have hf':cO sp.st sp.a7 (p++[r]) d0=some d':=by
   rw[wY,hf];simp only[y7,cO,J,had'];simp
  obtain⟨s4,ha4,hsat⟩:=NZ hm ht hL hr J;rw[hsz2,Dc,List.range'_succ,wpOpsIn_cons];refine lr h20 g3 (N1 p3 hiv1 (run_entry_at (P:=P) k itb q clock seen ms clock e hit2' hmb2 hem hbn)) (fun c e=>by rw[p3]at e; cases e) ro ?_;rw[q3];have hs3:=hs1.j6 sp.t3 (v:=.tuple [sp.K.av (gi r 0).row,sp.V.av (gi r 1).row]) (u:=.tuple #[e.key,e.val]) (by simp only[rel]; exact⟨_,rfl,by simp only[af]; exact⟨k1,k2,trivial⟩⟩);refine zR (pf:=τ.pf) (ops:=bt) l (0+1) (sp.rs r d).den s4.den { w:=k,H:=(aM sp.inv d).den.H,loc:=loc,X:=X } _ (by rw[←hl2]) (by rw[hl2]at ha4; exact ha4) hs3 (fun a3 w3 hc3=>?_) ro;obtain⟨loc3,r3,hs4,hle3⟩:=hc3;show body.wpIn (fz ro) 0 P _ a3 w3
  refine wpIn_mono (hsat ro hro { w:=w3,H:=s4.den.H,loc:=loc3,X:=X.re r3 } a3 hs4) fun x a4 w4 M=>?_;obtain⟨rfl,loc4,X4,hs5,hle4⟩:=M;have hall:({ w:=k,H:=(aM sp.inv d).den.H,loc:=loc,X:=X }:Env).dL m { w:=w4,H:=(aM sp.inv d').den.H,loc:=loc4,X:=X4 }:=hle3.toM.trans hle4;have hXsz:itb<k.heap.size:=ud hit2';have hnown:¬ Env.own { w:=k,H:=(aM sp.inv d).den.H,loc:=loc,X:=X } itb:=by
   exact(B.heap.cR cR).pA hXi
  have hmbsz:q<k.heap.size:=ud hmb2;have hit4:w4.heap[itb]? = some (.mapIter (some q) clock (seen.push e.born) clock):=by rw[hall.same itb hXsz hnown]; exact hit2'
  obtain⟨hk1,hk2⟩:=hkeep r d d' J;have hidd':=hid2 d';rw[hk1,hk2,hriD,hciD]at hidd';have hlive:=(hall.live sp.id him ⟨_,bg hidd,rfl,fun v _=>fg v⟩ ⟨_,bg hidd',rfl⟩).2;refine⟨⟨d',loc4,X4,seen.push e.born,clock,p++[r],hf',by rw[had',had],?_,hs5,?_,(hall.X itb hXsz).1.2 hXi,hit4,aD _,by rw[hk1,hriD],by rw[hk2,hciD],?_⟩,?_⟩
  ·rw [hrb, gT]
   exact hlp
  ·refine Env.dL.trans (E' := { w := k, H := (aM sp.inv d).den.H, loc := loc, X := X }) ⟨hle.past, ?_, ?_, hle.own, hle.live, hle.X, hle.rl, hle.env.trans hos, hle.grow⟩ hall
   ·have := hle.size
    show E.w.heap.size≤k.heap.size
    rw[hsize];exact this
   ·intro b hb hbo
    show k.heap[b]? = _
    rw[U b (by omega)];exact hle.same b hb hbo
  ·rw [show loc4[sp.id]? = loc[sp.id]? from hlive]
   exact hlo
  ·show (rows.filter fun x => !(w4.iterSeen itb).contains (da x)).length < (rows.filter fun x => !(w.iterSeen itb).contains (da x)).length
   rw[Bg hit4,Bg hit];have:=(Bc hn hrm (by rw[←hrb]; exact hes)).length_eq;rw[←hrb]at this;simp only[List.length_cons]at this;omega
theorem aam(hm:P.follows .mixedOrders=true)(ht:ak P τ)(hL:ax P m L body)(hr:kF P τ L m sp bt body)(ho:oJ P sp bp bS bt)
  (hu1:∀ d,(aM sp.inv d).fr[sp.t1]? = some .undef) (hu2:∀ d,(aM sp.inv d).fr[sp.t2]? = some .undef) (hut:∀ d,(aM sp.inv d).fr[sp.it]? = some (.lit (.pointer (some ⟨sp.a7 d,0,none⟩))))
  {r1 b0 b1 r2:Nat} (hid2:∀ d,(aM sp.inv d).H[sp.id]? = some (.map sp.K sp.V (ri d) (ci d))) (hkeep:∀ r d d',sp.st r d=some d'→ri d'=ri d∧ci d'=ci d) (him:sp.id<m)
  {s:al} {d:List G} {rows:List (List G)} {clock:Nat} (O:s.eval (.tmp sp.y)=.map sp.id) (hid:s.H[sp.id]? = some (.map sp.K sp.V rows clock)) (hn:(rows.map da).Nodup)
  (hlt:∀ r∈rows,da r<clock) (hin:∀ b,iq m sp.inv sp.ps (gy sp.opens (sp.xb s b))=some (true,sp.init d b)) (hadr:∀ b,sp.a7 (sp.init d b)=b) (J:∀ b,ri (sp.init d b)=rows∧ci (sp.init d b)=clock)
  (hfold:∀ b p,p.Perm rows→(cO sp.st sp.a7 p (sp.init d b)).isSome=true) (E:Env) (a:Act) (q:bQ s.den E a) (ro:Option Nat) (hro:fj ro body) {Q:Exit→Act→World→Prop}
  (hQ:∀ U W,(∃ b p d',p.Perm rows∧cO sp.st sp.a7 p (sp.init d b)=some d'∧dE m E (aM sp.inv d').den U W)→Q .normal U W) :
  wpOpsIn (fz ro) 0 P bp (Exit.then ((Code.block b0 (.loop (.seq (.region r1 bS false) (.seq (.cond (.tmp sp.t2) .skip (.exit b0)) (.block b1 (.seq (.region r2 bt false) body)))))).wpIn (fz ro) 0 P Q) Q) [bp.toList.dropLast.length] a E.w:=by
 obtain⟨o2,ty,e1,g2,p2,q2,N⟩:=ho.r0;have h11:bp[bp.toList.dropLast.length]? = some o2:=by
  have:bp.toList[bp.toList.dropLast.length]? = some o2:=by
   rw[e1];simp
  simpa using this
 have hid':E.H[sp.id]? = some (.map (c_ sp.K sp.V rows) clock):=by
  rw[q.H];exact bg hid
 have hrx:rel E (.map sp.id) (a.eval (.tmp sp.y)):=by
  have:=q.eval (.tmp sp.y)
  rwa [al.lZ,O]at this
 obtain⟨mb,n,ms,hc,hloc,hmb,hre⟩:=qZ q.heap hid' hrx;obtain⟨⟨kt,et⟩,N⟩:=qH.1 N;have hmbs:mb<E.w.heap.size:=ud hmb;rw[wpOpsIn_cons];refine lr h11 g2 (N2 p2 hc (run_range_map E.w ty kt et mb ms clock (fR N) hmb)) (fun c e=>by rw[p2]at e; cases e) ro ?_;rw[q2];show (Code.block _ _).wpIn (fz ro) 0 P _ _ _
 generalize M:E.w.alloc (.mapIter (some mb) clock #[] clock)=k;have hsize:k.heap.size=E.w.heap.size+1:=by rw[←M]; show (E.w.heap.push _).size=_; simp
 have hold:∀ b,b<E.w.heap.size→k.heap[b]? = E.w.heap[b]? := fun b hb=>by rw[←M]; exact(show (E.w.heap.push _)[b]? = _ by rw[yL,if_neg (by omega)])
 have hitn:k.heap[E.w.heap.size]? = some (.mapIter (some mb) clock #[] clock):=by rw[←M]; exact(show (E.w.heap.push _)[E.w.heap.size]? = _ by simp)
 have hos:ep E.w k:=by rw[←M]; exact⟨rfl,rfl,rfl,by first|exact fun _=>aD _|exact fun _=>fq _ _⟩
 have cR:ia { w:=E.w,H:=E.H,loc:=E.loc,X:=E.X } { w:=k,H:=E.H,loc:=E.loc,X:=E.X.or fun b=>b=E.w.heap.size } :=
  ⟨rfl, rfl, by show E.w.heap.size ≤ k.heap.size; omega, fun b hb O => ⟨fun h => h.elim O (fun e => absurd hb (by rw [e]; exact sD _)), hold b hb⟩, fun b hb => by
   show b<k.heap.size
   rcases hb with hb|hb
   ·have := q.heap.X b hb
    omega
   ·omega,rfl⟩
 have hs3:=(q.cR cR (zl (X':=E.X.or fun b=>b=E.w.heap.size) (w':=k) q.defers (fun _ h1 B=>⟨.inl h1,B⟩) fun b h1 _=>hold b (q.heap.X b h1))).j6 sp.it (v:=.lit (.pointer (some ⟨E.w.heap.size,0,none⟩))) (u:=.pointer (some ⟨E.w.heap.size,0,none⟩)) (by simp only[rel]);have hs3':bQ (sp.xb s E.w.heap.size).den { w:=k,H:=E.H,loc:=E.loc,X:=E.X.or fun b=>b=E.w.heap.size } _:=hs3;obtain⟨loc,X4,hs4,I⟩:=((l6 sp.opens _).trans (ln (hin E.w.heap.size))) _ _ hs3';have hidd:=hid2 (sp.init d E.w.heap.size);rw[(J _).1,(J _).2]at hidd;have hlive:=(I.live sp.id him ⟨_,hid',rfl,fun v _=>fg v⟩ ⟨_,bg hidd,rfl⟩).2;refine wpIn_block (wpIn_mono (aal hm ht hL hr ho hu1 hu2 hut (ri:=ri) (ci:=ci) (E:=E) (rows:=rows) (d0:=sp.init d E.w.heap.size) (itb:=E.w.heap.size) (mb:=mb) (nn:=n) (clock:=clock)
  hid2 hkeep him (aD _) hn hlt (hfold _) ?_ ro hro) fun e U W hq=>?_)
 ·refine ⟨sp.init d E.w.heap.size, loc, X4, #[], clock, [], rfl, hadr _, ?_, hs4, ?_, (I.X E.w.heap.size (by show _ < k.heap.size; omega)).1.2 (.inr rfl), ?_, aD _, (J _).1, (J _).2, ?_⟩
  ·have : (rows.filter fun x => !(#[] : Array Nat).contains (da x)) = rows := List.filter_eq_self.2 (fun x _ => by simp)
   rw[List.nil_append,this]
  ·refine Env.dL.trans (E' := { w := k, H := E.H, loc := E.loc, X := E.X.or fun b => b = E.w.heap.size }) ⟨fun _ _ h => h, ?_, ?_, fun b _ h => h, fun _ _ _ h => ⟨h, rfl⟩, fun b hb => ⟨⟨fun h => h.elim id fun e => absurd hb (by rw [e]; exact sD _), .inl⟩, Iff.rfl⟩, fun _ _ h => ⟨h, fun _ hq => hq⟩, hos, fun _ _ _ o h1 B _ => ⟨⟨[], (dh _).symm⟩, o, h1, B⟩⟩ I
   ·show E.w.heap.size ≤ k.heap.size
    omega
   ·exact fun b hb _=>hold b hb
  ·rw [I.same E.w.heap.size (by show _ < k.heap.size; omega) ?_]
   ·exact hitn
   ·exact(q.heap.cR cR).pA (.inr rfl)
  ·rw [show loc[sp.id]? = E.loc[sp.id]? from hlive]
   exact hloc
 ·obtain ⟨rfl, p, d', h1, B, h3⟩ := hq
  simp only[Dd,if_true];exact hQ _ _ ⟨_,p,d',h1,B,h3⟩
theorem aan(hm:P.follows .mixedOrders=true)(ht:ak P τ)(hL:ax P m L body)(hr:kF P τ L m sp bt body)(ho:oJ P sp bp bS bt)
  (hu1:∀ d,(aM sp.inv d).fr[sp.t1]? = some .undef) (hu2:∀ d,(aM sp.inv d).fr[sp.t2]? = some .undef) (hut:∀ d,(aM sp.inv d).fr[sp.it]? = some (.lit (.pointer (some ⟨sp.a7 d,0,none⟩))))
  {r0 r1 b0 b1 r2:Nat} (O:∀ d,(aM sp.inv d).H[sp.id]? = some (.map sp.K sp.V (ri d) (ci d))) (M:∀ r d d',sp.st r d=some d'→ri d'=ri d∧ci d'=ci d) (him:sp.id<m)
  {s s1:al} {d:List G} {rows:List (List G)} {clock:Nat} (hp:gg P τ.pf bp bp.toList.dropLast s.den s1.den) (hx:s1.eval (.tmp sp.y)=.map sp.id) (hid:s1.H[sp.id]? = some (.map sp.K sp.V rows clock)) (hn:(rows.map da).Nodup)
  (k:∀ r∈rows,da r<clock) (hin:∀ b,iq m sp.inv sp.ps (gy sp.opens (sp.xb s1 b))=some (true,sp.init d b)) (U:∀ b,sp.a7 (sp.init d b)=b) (hri:∀ b,ri (sp.init d b)=rows∧ci (sp.init d b)=clock)
  (N:∀ b p,p.Perm rows→(cO sp.st sp.a7 p (sp.init d b)).isSome=true) (E:Env) (a:Act) (hs:bQ s.den E a) (ro:Option Nat) (hro:fj ro body) :
  (l8 r0 b0 r1 b1 r2 bp bS bt sp.t2 body).wpIn (fz ro) 0 P (fun e q B=>e=.normal∧∃ b p d',p.Perm rows∧cO sp.st sp.a7 p (sp.init d b)=some d'∧dE m E (aM sp.inv d').den q B) a E.w:=by
 refine wpIn_seq (wpIn_region ?_);obtain⟨o2,ty,I,_⟩:=ho.r0;have hsz:bp.size=bp.toList.dropLast.length+1:=by
  have h:=congrArg List.length I;simpa using h
 have hl:dI bp.size=pk 0 bp.toList.dropLast.length++[bp.toList.dropLast.length]:=by
  rw[hsz,List.range_succ,Dc]
 rw[hl];refine Bb (pf:=τ.pf) ro bp.toList.dropLast 0 s.den s1.den E a _ (fun j o J=>?_) hp hs fun q B hc=>?_
 ·have k := aK J
  have:bp.toList[j]? = some o:=by
   rw[I,cT k];exact J
  simpa using this
 ·obtain ⟨W, r1, h1, h2⟩ := hc
  refine aam hm ht hL hr ho hu1 hu2 hut O M him hx hid hn k hin U hri N { w:=B,H:=s1.den.H,loc:=W,X:=E.X.re r1 } q h1 ro hro fun a2 w2 ⟨b,p,d',g1,g2,g3⟩=>?_;exact⟨rfl,b,p,d',g1,g2,dE.after h2.toM g3⟩
theorem aao(hm:P.follows .mixedOrders=true)(ht:ak P τ){rest:Code}{q qr:be}(hL:ax P m L body)(hr:kF P τ L m sp bt body)(ho:oJ P sp bp bS bt)
  (hu1:∀ d,(aM sp.inv d).fr[sp.t1]? = some .undef) (hu2:∀ d,(aM sp.inv d).fr[sp.t2]? = some .undef) (hut:∀ d,(aM sp.inv d).fr[sp.it]? = some (.lit (.pointer (some ⟨sp.a7 d,0,none⟩))))
  {r0 r1 b0 b1 r2:Nat} (hid2:∀ d,(aM sp.inv d).H[sp.id]? = some (.map sp.K sp.V (ri d) (ci d))) (hkeep:∀ r d d',sp.st r d=some d'→ri d'=ri d∧ci d'=ci d) (him:sp.id<m)
  {rows:List G→List (List G)} {clock:List G→Nat} {pre:List G→al} (hy:∀ d,(nc P τ bp bp.toList.dropLast (aM q.inv d) fun s=>.done .normal s).jF=some (.normal,pre d)) (I:∀ d,(pre d).eval (.tmp sp.y)=.map sp.id) (hid:∀ d,(pre d).H[sp.id]? = some (.map sp.K sp.V (rows d) (clock d)))
  (hin:∀ d b,iq m sp.inv sp.ps (gy sp.opens (sp.xb (pre d) b))=some (sp.side d b,sp.init d b)) (hadr:∀ d b,sp.a7 (sp.init d b)=b) (hri:∀ d b,ri (sp.init d b)=rows d∧ci (sp.init d b)=clock d)
  (hinv:qr.inv=sp.inv) (houts:qr.outs=q.outs) (M:oK P m rest qr) (hst:∀ d,q.st d=jG sp qr.st (rows d) (clock d) d) :
  oK P m (.seq (l8 r0 b0 r1 b1 r2 bp bS bt sp.t2 body) rest) q:=by
 intro d i d' h;rw[hst]at h;unfold jG at h;cases bF:ls (rows d) (clock d)with
 |false=>rw[bF]at h; cases h
 | true =>
  rw[bF]at h;simp only[cond_true]at h;have hall:=FP h;obtain⟨hn,hlt⟩:=N4 bF;have B:∀ b p,p.Perm (rows d)→sp.side d b=true∧∃ d1,cO sp.st sp.a7 p (sp.init d b)=some d1∧qr.st d1=some (some i,d'):=by
   intro b p k;have:=hall b p k;cases O:sp.side d b with
   |false=>rw[O]at this; cases this
   | true =>
    rw[O]at this;simp only[cond_true]at this;cases J:cO sp.st sp.a7 p (sp.init d b)with
    |none=>rw[J]at this; cases this
    | some d1 =>
     rw[J]at this;exact⟨rfl,d1,rfl,this⟩
  obtain⟨_,d1,_,g1⟩:=B 0 (rows d) (pq _);obtain⟨o,U,_⟩:=M d1 i d' g1;refine⟨o,by rw[←houts]; exact U,fun ro W E a hs=>wpIn_seq (wpIn_mono (aan hm ht hL hr ho hu1 hu2 hut hid2 hkeep him (N7 ht (hy d)) (I d) (hid d) hn hlt (fun b=>by rw[hin d b,(B b (rows d) (pq _)).1]) (hadr d) (hri d) (fun b p k=>?_) E a hs ro (NY W.seq1)) fun e a1 w1 hq=>?_)⟩
  ·obtain ⟨_, d2, h2, _⟩ := B b p k
   rw[h2];rfl
  ·obtain ⟨rfl, b, p, d2, k, J, loc, X, hs2, hle⟩ := hq
   obtain⟨_,d3,h3,h4⟩:=B b p k;rw[J]at h3;cases h3;obtain⟨o',ho2,N⟩:=M d2 i d' h4;rw[U]at ho2;cases ho2;rw[hinv]at N;exact wpIn_mono (N ro W.Eo { w:=w1,H:=(aM sp.inv d2).den.H,loc:=loc,X:=X } a1 hs2) fun x a2 w2 I=>⟨I.1,dE.after hle I.2⟩
theorem ax.Ol(hm:P.follows .mixedOrders=true)(B:ak P τ){fn:Func}{q qr:be}{r0 b0 r1 b1 r2:Nat}{rows:List G→List (List G)}{clock:List G→Nat}
  (O:∀ d,(aM sp.inv d).H[sp.id]? = some (.map sp.K sp.V (ri d) (ci d))) (J:∀ r d d',sp.st r d=some d'→ri d'=ri d∧ci d'=ci d) (W:eh sp.id m=true) (hn:lp q.key (bE (aQ fn))=true) (hL:ax P m L (aQ fn))
  (I:cutAt fn q.key=.seq (l8 r0 b0 r1 b1 r2 (l9 (cutAt fn q.key)) (Bl (cutAt fn q.key)) (oL (cutAt fn q.key)) sp.t2 (rO (cutAt fn q.key))) (nl (cutAt fn q.key)))
  (ho:(Bi P sp (l9 (cutAt fn q.key))&&Bj sp (Bl (cutAt fn q.key))&&Bk sp (oL (cutAt fn q.key)))=true)
  (hr:kF P τ L m sp (oL (cutAt fn q.key)) (rO (cutAt fn q.key)))
  (hu1:∀ d,(aM sp.inv d).fr[sp.t1]? = some .undef) (hu2:∀ d,(aM sp.inv d).fr[sp.t2]? = some .undef) (hut:∀ d,(aM sp.inv d).fr[sp.it]? = some (.lit (.pointer (some ⟨sp.a7 d,0,none⟩))))
  {pre:List G→al} (hy:∀ d,(nc P τ (l9 (cutAt fn q.key)) (l9 (cutAt fn q.key)).toList.dropLast (aM q.inv d) fun s=>.done .normal s).jF=some (.normal,pre d)) (hx:∀ d,(pre d).eval (.tmp sp.y)=.map sp.id) (hid:∀ d,(pre d).H[sp.id]? = some (.map sp.K sp.V (rows d) (clock d)))
  (hin:∀ d b,iq m sp.inv sp.ps (gy sp.opens (sp.xb (pre d) b))=some (sp.side d b,sp.init d b)) (U:∀ d b,sp.a7 (sp.init d b)=b) (hri:∀ d b,ri (sp.init d b)=rows d∧ci (sp.init d b)=clock d)
  (hinv:qr.inv=sp.inv) (M:qr.outs=q.outs) (N:fm P τ L m (nl (cutAt fn q.key)) qr) (hst:∀ d,q.st d=jG sp qr.st (rows d) (clock d) d) :
  ax P m (L.eP m q) (aQ fn):=by
 refine ax.FQ hn hL fun k=>?_;rw[I]at k;obtain⟨hLb,hLr⟩:=N6 k;simp only[az]at ho;rw[I];exact aao hm B hLb hr (N5 ho.1.1 ho.1.2 ho.2) hu1 hu2 hut O J (by rw[←iR]; exact W) hy hx hid hin U hri hinv M (N.sat hm B hLr) hst
end range
theorem dE.Om{m m':Nat}{E:Env}{s':St}{d:Act}{w':World}(h:dE m' E s' d w')(hm:m≤m'):dE m E s' d w':=by
 obtain⟨k,X',h1,q⟩:=h;exact⟨k,X',h1,q.mono hm⟩
theorem cI.mono{P:Program}{m m':Nat}{c:Code}{s:St}{x:bO}{s':St}(h:cI P m' c s x s')(hm:m≤m'):cI P m c s x s' :=
 fun ro k E a q=>wpIn_mono (h ro k E a q) fun _ _ _ d=>⟨d.1,d.2.Om hm⟩
theorem tg.mono{P:Program}{m m':Nat}{c:Code}(hm:m≤m'){x:bO}{s':St}:∀{n:Nat} {s:St},tg P m' c n s x s'→tg P m c n s x s'
 |0,_,h=>⟨h.1,h.2.mono hm⟩
 |_+1,_,⟨s1,h1,d⟩=>⟨s1,h1.mono hm,d.mono hm⟩
theorem ax.mono{P:Program}{m m':Nat}{L:LT}{c:Code}(h:ax P m' L c)(hm:eE m m'=true):ax P m L c:=by
 have hm:=nW hm;refine⟨fun k d hk s t q Q B=>?_,fun id s J E a M=>(h.2.1 id s J E a M).Om hm,fun k d hk s t q Q B=>?_⟩
 ·obtain ⟨x, s', ⟨n, h1⟩, I⟩ := h.1 k d hk s t q Q B
  exact⟨x,s',⟨n,h1.mono hm⟩,I⟩
 ·obtain ⟨x, s', h1, I⟩ := h.2.2 k d hk s t q Q B
  exact⟨x,s',h1.mono hm,I⟩
end Go.AL

namespace Go.AL
open Go
variable [Dr]
theorem On{a:G}{l:List G}:gi (a::l) 0=a:=rfl
theorem Oo{a:G}{l:List G}{n:Nat}:gi (a::l) (n+1)=gi l n:=rfl
theorem aap{n:Int}:(G.i n).int=n:=rfl
theorem aaq{n:Nat}:ab n n=true:=Nat.beq_refl n
def F3(sp:fK)(tl:List G→Option (Option Nat × List G))(rows:List (List G))(clock:Nat)(d:List G):Option (Option Nat × List G) :=
 match rows with
 | [x]=>bif ls [x] clock then bif sp.side d 0 then (cO sp.st sp.a7 [x] (sp.init d 0)).bind tl else none else none
 |_=>none
theorem aar{sp:fK}{tl:List G→Option (Option Nat × List G)}{rows:List (List G)}{clock:Nat}{d:List G}{r:Option Nat × List G}
  (q:∀ b,sp.side d b=sp.side d 0) (B:∀ x b,(cO sp.st sp.a7 [x] (sp.init d b)).bind tl=(cO sp.st sp.a7 [x] (sp.init d 0)).bind tl)
  (h:F3 sp tl rows clock d=some r):jG sp tl rows clock d=some r:=by
 unfold F3 at h;split at h
 case h_2=>cases h
 rename_i x;cases h1:ls [x] clock with
 |false=>rw[h1]at h; cases h
 | true =>
  cases k:sp.side d 0 with
  |false=>rw[h1,k]at h; cases h
  | true =>
   rw[h1,k]at h;unfold jG;rw[h1];refine N3 fun b p I=>?_;rw[List.perm_singleton.1 I,q b,k,cond_true,B x b];exact h
theorem aas{st:List G→List G→Option (List G)}{a7:List G→Nat}{x e:List G}:cO st a7 [x] e=(st x e).bind fun d'=>bif ab (a7 d') (a7 e) then some d' else none:=by
 simp only[cO];cases st x e<;>rfl
theorem aat{α β:Type}{c:Bool}{a b:Option α}{f:α→Option β}:(bif c then a else b).bind f=bif c then a.bind f else b.bind f:=by
 cases c<;>rfl
theorem aau{c:Bool}{X Y:Option (Option Nat × List G)}{K:Nat→List G→Option (List G)}{r:List G}(h:∀ v,X=some v→Y=some v)(hr:aO c (cf X) K=some r):aO c (cf Y) K=some r:=by
 cases X with
 |some v=>rw[h v rfl]; exact hr
 |none=>cases c<;>cases hr
end Go.AL

namespace Go.AL
open Go
variable [Dr]
end Go.AL
