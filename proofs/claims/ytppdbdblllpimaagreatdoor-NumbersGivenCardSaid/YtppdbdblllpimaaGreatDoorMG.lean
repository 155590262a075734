/-
 What is proved here: the function that slices.Backward hands back,called with a round's body: the rounds come from the last row to the first one. No program in sight; no condition.
-/
import Derived.Test.YtppdbdblllpimaaGreatDoorMD
import Derived.Test.YtppdbdblllpimaaGreatDoorMC
import Derived.Lib.LaidTab
import Derived.Sort.Grow
import Derived.Deep.Draws
set_option linter.all false
open Array renaming getElem?_push→oZ,ext'→fl,getElem?_eq_some_iff→fb
open Bool renaming and_eq_true→ay
open Go.Deferred renaming ofValue→DM
open Go.Exit renaming inBlock→DN
open Go.Lib renaming TabIs→KC
open Go.MapKept renaming heap_set→zC
open Go.Sort renaming grow→mP
open Go.World renaming putObj_heap_other→Kt,putObj_heap_same→KB,size_alloc→mO,alloc_heap_new→DQ,var?→aj_
open List renaming range→fK,getElem?_append_left→dI,all_eq_true→ep,getElem?_eq_getElem→bA,getD_eq_getElem?_getD→cG,mem_cons→bC,mem_of_getElem?→fy,getElem?_of_mem→lN,replicate→cI,mem_cons_self→cJ,range'→jk,mem_range→ke,range_eq_range'→vQ,getElem_mem→qO
open List.Perm renaming append_left→UN,refl→pn
open Nat renaming le_refl→aI,le_add_right→eB,lt_of_lt_of_le→dV,beq→ab,zero_le→kL,eq_of_beq_eq_true→bD,ble→db,blt→eZ,blt_eq→iA,le_of_ble_eq_true→kM,lt_irrefl→vR
open Option renaming isSome_iff_exists→nM,bind_some→s9
open Option.some renaming injEq→aX
open Prod.mk renaming injEq→be
namespace Go.AL
open Go
variable [Dr]
theorem Bo{P:Program}{pf:FuncId→Bool}{ops:Array Oper}{o:Oper}{s:St}{v:AV}(d:o.guard=none)(hc:df pf o.op=.read)(h:fp P s.eval s.H o.op=some v):Yields P pf ops o s v s.H:=by
 unfold Yields;rw[show ch ops s.fr o=some true from by unfold ch; rw[d]];simp only[hc];exact⟨trivial,h⟩
theorem jQ{P:Program}{pf:FuncId→Bool}{ops:Array Oper}{o:Oper}{s:St}{v:AV}(d:o.guard=none)(hc:df pf o.op=.pure)(h:iC P s.eval o.op=some v):Yields P pf ops o s v s.H:=by
 unfold Yields;rw[show ch ops s.fr o=some true from by unfold ch; rw[d]];simp only[hc];exact⟨trivial,.inl h⟩
structure xB (S T:TypeId) (ops0 ops1 ops2 cf:Array Oper):Prop where
 r0:∃ o1 o2 o3 o4 t t',ops0.toList=[o1,o2,o3,o4]∧(o1.guard=none∧o1.op=.load S (.tmp 1)∧o1.dst=some 4)∧(o2.guard=none∧o2.op=.call { callee:=.builtin .len,args:=#[.tmp 4],argTypes:=#[S] }∧o2.dst=some 5) ∧
  (o3.guard=none∧o3.op=.binOp .sub t (.tmp 5) (.const (.int .i64 1)) t'∧o3.dst=some 6)∧(o4.guard=none∧o4.op=.assign (.tmp 6)∧o4.dst=some 3)
 r1:∃ o1 o2 t t',ops1.toList=[o1,o2]∧(o1.guard=none∧o1.op=.move (.tmp 3)∧o1.dst=some 7)∧(o2.guard=none∧o2.op=.binOp .geq t (.tmp 7) (.const (.int .i64 0)) t'∧o2.dst=some 8)
 r2:∃ o1 o2 o3 t t',ops2.toList=[o1,o2,o3]∧(o1.guard=none∧o1.op=.move (.tmp 3)∧o1.dst=some 9)∧(o2.guard=none∧o2.op=.binOp .sub t (.tmp 9) (.const (.int .i64 1)) t'∧o2.dst=some 10)∧(o3.guard=none∧o3.op=.assign (.tmp 10)∧o3.dst=some 3)
 r3:∃ o1 o2 o3 o4 o5 o6 o7 o8 t tys,cf.toList=[o1,o2,o3,o4,o5,o6,o7,o8]∧(o1.guard=none∧o1.op=.move (.tmp 0)∧o1.dst=some 11)∧(o2.guard=none∧o2.op=.move (.tmp 3)∧o2.dst=some 12)∧(o3.guard=none∧o3.op=.load S (.tmp 1)∧o3.dst=some 13) ∧
  (o4.guard=none∧o4.op=.move (.tmp 3)∧o4.dst=some 14)∧(o5.guard=none∧o5.op=.indexAddr S (.tmp 13) (.tmp 14)∧o5.dst=some 15)∧(o6.guard=none∧o6.op=.load T (.tmp 15)∧o6.dst=some 16) ∧
  (o7.guard=none∧o7.op=.call { callee:=.value (.tmp 11),args:=#[.tmp 12,.tmp 16],argTypes:=tys }∧o7.dst=some 17)∧(o8.guard=none∧o8.op=.unOp .not t (.tmp 17)∧o8.dst=some 18)
def xC(ops0 ops1 ops2 cf:Array Oper)(r0 r1 r2 r3 b0 b1:Nat):Code :=
 .seq (.region r0 ops0 false) (.block b0 (.loop (.seq (.seq (.region r1 ops1 false) (.cond (.tmp 8) .skip (.exit b0))) (.seq (.block b1 (.seq (.region r3 cf false) (.cond (.tmp 18) .ret .skip))) (.region r2 ops2 false)))))
def kA(y cp:AV)(i:AV):List AV:=[y,cp,.undef,i,.undef,.undef,.undef,.undef,.undef,.undef,.undef,.undef,.undef,.undef,.undef,.undef,.undef,.undef,.undef]
structure xD (P:Program) (S T:TypeId) (sl:AV) (n:Nat) (rv:Nat→AV):Prop where
 load:∀ H,gp P S (.cptr [sl]) H=some sl
 len:Ap (cw P S) sl=some (.lit (.int .i64 (n:Nat)))
 idx:∀ i:Int,0≤i→i<n→∃ cells,kP (cw P S) sl (.lit (.int .i64 i))=some (.cptr cells)∧∀ H,gp P T (.cptr cells) H=some (rv i.toNat)
 cl:AV.br [sl]=true
end Go.AL
namespace Go.AL
open Go
variable [Dr]
section bw
variable {P:Program} {pf:FuncId→Bool} {S T:TypeId} {sl:AV} {n:Nat} {rv:Nat→AV} {ops0 ops1 ops2 cf:Array Oper}
theorem Gn{E:Env}:∀{as d:List AV} {vs:List Value},ad E as vs→as.length=d.length→(∀(i:Nat) (b:AV),d[i]? = some b→b=.undef∨as[i]? = some b)→ad E d vs
 | [],[],[],_,_,_=>by simp[ad]
 | [],[],_::_,h,_,_=>by simp[ad]at h
 |_::_,[],_,_,h,_=>by simp at h
 | [],_::_,_,_,h,_=>by simp at h
 |_::_,_::_,[],h,_,_=>by simp[ad]at h
 | a::as,b::d,v::vs,h,g,hm=>by
  simp only[ad]at h⊢;refine⟨?_,Gn h.2 (by simpa using g) fun i k q=>hm (i+1) k (by simpa using q)⟩;rcases hm 0 b rfl with rfl|e
  ·simp[rel]
  ·have e : a = b := by simpa using e
   rw[←e];exact h.1
def Env.fh(E:Env):Env:={ E with X:=⟨E.X.x,fun _=>False,E.X.r⟩ }
theorem Gp{E:Env}(h:au E.fh):gd E.fh E:=⟨rfl,rfl,aI _,fun b _ d=>⟨d,rfl⟩,h.X,rfl⟩
theorem uq{w:World}{X:XS}{l:List Deferred}(h:jo w X l)(g:∀ b,¬ X.z b):l=[]:=by
 cases l with
 |nil=>rfl
 | cons d l =>
  obtain⟨D,_,_,_,k⟩:=h.2 d cJ;exact(g D k).elim
theorem Gq{J:Env→Prop}(q:∀ E E',J E→E.le E'→au E'→E'.H=E.H→J E'){id:Nat}{ops:Array Oper}{fr fr':List AV}{E:Env}{a:Act}{Q:Exit→Act→World→Prop}(hs:bl ⟨fr,E.H⟩ E.fh a)(A:J E)
  (h:eT P pf ops ops.toList ⟨fr,E.H⟩ ⟨fr',E.H⟩) (B:∀ g E',J E'→bl ⟨fr',E'.H⟩ E'.fh g→Q .normal g E'.w):(Code.region id ops false).wpIn (fz none) 0 P Q a E.w :=
 LW hs h (fun g w' hc=>by
  obtain⟨k,r',h1,d⟩:=hc;exact B g { w:=w',H:=E.H,loc:=k,X:=E.X.re r' } (q _ _ A ⟨d.past,d.size,d.same,d.own,d.live,⟨rfl,rfl⟩,d.rl,d.env⟩ (h1.heap.b_ (Gp (E:={ w:=w',H:=E.H,loc:=k,X:=E.X.re r' }) h1.heap)) rfl) h1) none
theorem Gr{J:Env→Prop}(A:∀ E E',J E→E.le E'→au E'→E'.H=E.H→J E'){ops:Array Oper}{l:List Oper}{k:Nat}{rest:List Nat}{fr fr':List AV}{E:Env}{a:Act}{Q:Exit→Act→World→Prop}
  (B:∀(j:Nat) (o:Oper),l[j]? = some o→ops[k+j]? = some o) (hs:bl ⟨fr,E.H⟩ E.fh a) (F:J E)
  (h:eT P pf ops l ⟨fr,E.H⟩ ⟨fr',E.H⟩) (I:∀ g E',J E'→bl ⟨fr',E'.H⟩ E'.fh g→wpOpsIn (fz none) 0 P ops Q rest g E'.w):wpOpsIn (fz none) 0 P ops Q (jk k l.length++rest) a E.w :=
 oy none l k _ _ E.fh a rest B h hs (fun g w' hc=>by
  obtain⟨q,r',h1,d⟩:=hc;exact I g { w:=w',H:=E.H,loc:=q,X:=E.X.re r' } (A _ _ F ⟨d.past,d.size,d.same,d.own,d.live,⟨rfl,rfl⟩,d.rl,d.env⟩ (h1.heap.b_ (Gp (E:={ w:=w',H:=E.H,loc:=q,X:=E.X.re r' }) h1.heap)) rfl) h1)
theorem Gs{E E':Env}:∀{fr:List AV} {vs:List Value},ad E fr vs→(∀ b∈fr,b=.undef∨(∃ v,b=.lit v)∨∀ c,rel E b c→rel E' b c)→ad E' fr vs
 | [],[],_,_=>by simp[ad]
 | [],_::_,h,_=>by simp[ad]at h
 |_::_,[],h,_=>by simp[ad]at h
 | b::fr,v::vs,h,d=>by
  simp only[ad]at h⊢;refine⟨?_,Gs h.2 fun x g=>d x (List.mem_cons_of_mem _ g)⟩;rcases d b cJ with rfl|⟨u,rfl⟩|h'
  ·simp[rel]
  ·simpa only[rel]using h.1
  ·exact h' _ h.1
theorem il{ops:Array Oper}{o:Oper}{l:List Oper}{fr:List AV}{H:List af}{s':St}{v:AV}{d:Tmp}(h:Yields P pf ops o ⟨fr,H⟩ v H)(g:o.dst=some d)(h':eT P pf ops l ⟨fr.set d v,H⟩ s'):eT P pf ops (o::l) ⟨fr,H⟩ s' :=
 ⟨v, H, h, by
  simp only[St.put,jH,g];exact h'⟩
theorem rV{ops:Array Oper}{s:St}:eT P pf ops [] s s:=rfl
theorem NG{t:TypeId}{k:Bool}{a b:Int}(h:aw (a-b)=true):hZ P .sub t k (.lit (.int .i64 a)) (.lit (.int .i64 b))=some (.lit (.int .i64 (a-b))):=by
 simp only[hZ,iS,if_true,mT];rw[rC h]
theorem Yp{t:TypeId}{k:Bool}{a b:Int}:hZ P .geq t k (.lit (.int .i64 a)) (.lit (.int .i64 b))=some (.lit (.bool (decide (a ≥ b)))):=by
 simp only[hZ,iS,if_true,mT]
theorem jv{ops:Array Oper}{l:List Oper}(h:ops.toList=l)(i:Nat):ops[i]? = l[i]? := by rw[←h]; simp
theorem Yq(W:xD P S T sl n rv){f:FuncId}{fn:Func}{r0 r1 r2 r3 b0 b1:Nat}(hf:P.funcs[f]? = some fn)(d:fn.body=some (xC ops0 ops1 ops2 cf r0 r1 r2 r3 b0 b1))(hn:fn.ntmps=19)(hr:fn.results=#[])(Y:xB S T ops0 ops1 ops2 cf)
  {l:Nat} (hlen:n≤1048576) (J:Nat→Env→Prop) (I:∀ k E,J k E→au E) (B:∀ k E E',J k E→E.le E'→au E'→E'.H=E.H→J k E')
  {c:Value}
  (hround:∀ k E (cs:Array Value),k<n→J k E→ad E [.lit (.int .i64 ((n:Int)-1-k)),rv (n-1-k)] cs.toList→YieldAt (fz none) 0 P l cs E.w fun e W'=>e=.returned (.bool true)∧∃ E',E'.w=W'∧J (k+1) E'∧E.bJ E')
  {E0:Env} (h0:J 0 E0) (hcp:rel E0 (.cptr [sl]) c):CallsIn (fz none) 0 P f #[.func (.yield l) #[] #[],c] E0.w fun e W'=>(∃ v,e=.returned v)∧∃ E',E'.w=W'∧J n E':=by
 obtain⟨o1,o2,o3,o4,t1,t2,q0,⟨g1,p1,d1⟩,⟨g2,p2,d2⟩,⟨g3,p3,d3⟩,⟨g4,p4,d4⟩⟩:=Y.r0;refine callsIn_of_wp_marks hf d trivial ?_;have hin:∀ j:Int,0≤j→j≤n→aw (j-1)=true:=fun j h1 h2=>L7.2 ⟨by omega,by omega⟩;obtain⟨y,hy⟩:∃ y:AV,y=.lit (.func (.yield l) #[] #[]):=⟨_,rfl⟩
 obtain⟨cp,O⟩:∃ cp:AV,cp=.cptr [sl]:=⟨_,rfl⟩
 rw[←O]at hcp;have hs0:bl ⟨y::cp::cI 17 .undef,E0.H⟩ E0.fh { tmps:=#[.func (.yield l) #[] #[],c]++Array.replicate (fn.ntmps-2) undef,defers:=[] }:=by
  have hE0:au E0.fh:=(I 0 E0 h0).b_ (nf (I 0 E0 h0));refine⟨rfl,?_,lV _ _,hE0⟩;rw[hn];simp only[Array.toList_append,Array.toList_replicate];show ad E0.fh ([y,cp]++cI 17 .undef) ([.func (.yield l) #[] #[],c]++cI 17 undef)
  refine jG (by simp only[ad]; exact⟨by rw[hy]; simp[rel],tU (nf (I 0 E0 h0)) _ hcp,trivial⟩) ?_;exact rq (cI 17 undef)
 refine wpIn_seq (Gq (pf:=fun _=>false) (J:=J 0) (B 0) hs0 h0 (fr':=[y,cp,.undef,.lit (.int .i64 ((n:Int)-1)),sl,.lit (.int .i64 (n:Int)),.lit (.int .i64 ((n:Int)-1)),.undef,.undef,.undef,.undef,.undef,.undef,.undef,.undef,.undef,.undef,.undef,.undef]) ?_ fun a1 E1 hj1 hs1=>?_)
 ·rw [q0]
  refine il (v:=sl) (Bo g1 (by rw[p1]; rfl) ?_) d1 (il (v:=.lit (.int .i64 (n:Int))) (jQ g2 ?_ ?_) d2 (il (v:=.lit (.int .i64 ((n:Int)-1))) (jQ g3 (by rw[p3]; rfl) ?_) d3
   (il (v:=.lit (.int .i64 ((n:Int)-1))) (jQ g4 (by rw[p4]; rfl) ?_) d4 ?_)))
  ·rw [p1]
   show gp P S cp E0.H=_
   rw[O];exact W.load _
  ·rw [p2]
   rfl
  ·rw [p2]
   show Ap (cw P S) sl=_
   exact W.len
  ·rw [p3]
   exact NG (P:=P) (t:=t1) (k:=mY (Operand.tmp 5)||mY (Operand.const (.int .i64 1))) (hin (n:Int) (by omega) (by omega))
  ·rw [p4]
   rfl
  ·exact rV
 have A:∀{E:Env} {a:Act} {fr:List AV} {i:AV},bl ⟨fr,E.H⟩ E.fh a→fr.length=19→fr[0]? = some y→fr[1]? = some cp→fr[3]? = some i→bl ⟨kA y cp i,E.H⟩ E.fh a:=by
  intro E a fr i h h19 e0 e1 e3;refine⟨rfl,Gn h.fr (by rw[h19]; rfl) fun j b d=>?_,h.defers,h.heap⟩
  match j,d with
  |0,d=>exact .inr (by rw[e0]; exact d)
  |1,d=>exact .inr (by rw[e1]; exact d)
  |3,d=>exact .inr (by rw[e3]; exact d)
  |2,d=>exact .inl (by cases d; rfl)
  | j+4,d =>
   left;have hx:kA y cp i=[y,cp,.undef,i]++cI 15 .undef:=rfl;rw[hx,List.getElem?_append_right (by simp)]at d;have:=fy d;exact(List.mem_replicate.1 this).2
 refine wpIn_block (wpIn_loop (fun a w=>∃ k E,E.w=w∧k≤n∧J k E∧bl ⟨kA y cp (.lit (.int .i64 ((n:Int)-1-k))),E.H⟩ E.fh a)
  (fun a _=>match a.eval (.tmp 3)with | .int _ i=>(i+1).toNat|_=>0) ⟨0,E1,rfl,kL _,hj1,A hs1 rfl rfl rfl (by simp)⟩ ?_)
 rintro a _ ⟨k,E,rfl,hkl,hj,hs⟩;obtain⟨i1,i2,t3,t4,qq1,⟨ga1,pa1,da1⟩,⟨ga2,pa2,da2⟩⟩:=Y.r1;obtain⟨j1,j2,j3,t5,t6,qq2,⟨gb1,pb1,db1⟩,⟨gb2,pb2,db2⟩,⟨gb3,pb3,db3⟩⟩:=Y.r2;obtain⟨u1,u2,u3,u4,u5,u6,M,u8,t7,tys,R,⟨gc1,pc1,dc1⟩,⟨gc2,pc2,dc2⟩,⟨gc3,pc3,dc3⟩,⟨gc4,pc4,dc4⟩,⟨gc5,pc5,dc5⟩,⟨gc6,pc6,dc6⟩,⟨gc7,pc7,dc7⟩,⟨gc8,pc8,dc8⟩⟩:=Y.r3;obtain⟨i,hi⟩:∃ i:Int,i=(n:Int)-1-k:=⟨_,rfl⟩
 rw[←hi]at hs;have hmu:a.eval (.tmp 3)=.int .i64 i:=by
  have:=hs.eval (.tmp 3);simpa[St.eval,kA,rel]using this
 refine wpIn_seq (wpIn_seq (Gq (pf:=fun _=>false) (J:=J k) (B k) hs hj (fr':=((kA y cp (.lit (.int .i64 i))).set 7 (.lit (.int .i64 i))).set 8 (.lit (.bool (decide (i ≥ 0))))) ?_ fun a2 N hj2 hs2=>?_))
 ·rw [qq1]
  refine il (v:=.lit (.int .i64 i)) (jQ ga1 (by rw[pa1]; rfl) (by rw[pa1]; rfl)) da1 (il (v:=.lit (.bool (decide (i ≥ 0)))) (jQ ga2 (by rw[pa2]; rfl) ?_) da2 rV);rw[pa2];exact Yp (P:=P) (t:=t3) (k:=mY (Operand.tmp 7)||mY (Operand.const (.int .i64 0)))
 have h8:a2.eval (.tmp 8)=.bool (decide (i ≥ 0)):=by
  have:=hs2.eval (.tmp 8);simpa[St.eval,kA,rel]using this
 by_cases U:i ≥ 0
 ·have hkl' : k < n := by omega
  refine wpIn_cond_true (by rw[h8]; simp[U]) (wpIn_skip ?_);have hs2':=A hs2 rfl rfl rfl rfl;show (Code.seq _ _).wpIn (fz none) 0 P _ _ _
  refine wpIn_seq (wpIn_block (wpIn_seq (wpIn_region ?_)));obtain⟨cells,hcells,hcell2⟩:=W.idx i U (by omega);have hsz:cf.size=8:=by
   have:cf.toList.length=8:=by rw[R]; rfl
   simpa using this
  rw[hsz];show wpOpsIn (fz none) 0 P cf _ (jk 0 6++[6,7]) a2 N.w
  have hpos:∀(j:Nat) (o:Oper),[u1,u2,u3,u4,u5,u6][j]? = some o→cf[0+j]? = some o:=by
   intro j o F;rw[jv R];have hlt:j<6:=by simpa using aM F
   rw[Nat.zero_add,show [u1,u2,u3,u4,u5,u6,M,u8]=[u1,u2,u3,u4,u5,u6]++[M,u8] from rfl,dI (by simpa using hlt)];exact F
  refine Gr (pf:=fun _=>false) (J:=J k) (l:=[u1,u2,u3,u4,u5,u6]) (k:=0) (B k) hpos hs2' hj2
   (fr':=[y,cp,.undef,.lit (.int .i64 i),.undef,.undef,.undef,.undef,.undef,.undef,.undef,y,.lit (.int .i64 i),sl,.lit (.int .i64 i),.cptr (cells),rv i.toNat,.undef,.undef]) ?_ fun a3 g hj3 q=>?_
  ·refine il (v:=y) (jQ gc1 (by rw [pc1]; rfl) (by rw [pc1]; rfl)) dc1 (il (v:=.lit (.int .i64 i)) (jQ gc2 (by rw [pc2]; rfl) (by rw [pc2]; rfl)) dc2 (il (v:=sl) (Bo gc3 (by rw [pc3]; rfl) ?_) dc3
    (il (v:=.lit (.int .i64 i)) (jQ gc4 (by rw[pc4]; rfl) (by rw[pc4]; rfl)) dc4 (il (v:=.cptr (cells)) (jQ gc5 (by rw[pc5]; rfl) ?_) dc5 (il (v:=rv i.toNat) (Bo gc6 (by rw[pc6]; rfl) ?_) dc6 rV)))))
   ·rw [pc3]
    show gp P S cp N.H=_
    rw[O];exact W.load _
   ·rw [pc5]
    exact hcells
   ·rw [pc6]
    exact hcell2 N.H
  ·have h11:a3.eval (.tmp 11)=.func (.yield l) #[] #[]:=by
    have:=q.eval (.tmp 11);rw[show St.eval _ (.tmp 11)=y from rfl,hy]at this;simpa only[rel]using this
   have hin2:i.toNat=n-1-k:=by omega
   have hE3:gd g.fh g:=Gp q.heap;have hrel:ad g [.lit (.int .i64 ((n:Int)-1-k)),rv (n-1-k)] (#[a3.eval (.tmp 12),a3.eval (.tmp 16)]:Array Value).toList:=by
    rw[←hi,←hin2];simp only[ad];exact⟨tU hE3 _ (q.eval (.tmp 12)),tU hE3 _ (q.eval (.tmp 16)),trivial⟩
   obtain⟨fn',tmps',asg,bod,hy1,hR⟩:=hround k g _ hkl' hj3 hrel;rw[wpOpsIn_cons];unfold wpOpIn;have h6:cf[6]? = some M:=by rw[jv R]; rfl
   simp only[h6];rw[if_pos (by simp[Region.wanted,gc7])];refine⟨fun _ _=>trivial,?_⟩;rw[Oper.semAt_eq _ _ _ (fun c e=>by rw[pc7]at e; cases e)];have hrun:(execOp a3.eval M).run P g.w=.ok (.round l fn' tmps' asg bod) g.w:=by
    obtain⟨dst,op,type,pos,after,guard⟩:=M;simp only[]at pc7;subst pc7;simp[execOp,resolve,h11,DM,invoke,hy1]
   rw[hrun,Oper.uponIn_round];refine⟨fun h=>(by cases h),hR.mono ?_⟩;rintro e _ ⟨rfl,E',rfl,hj',hleC⟩;show wpOpsIn (fz none) 0 P cf _ (jk 7 1++[]) _ E'.w
   rw[dc7];have hd3:a3.defers=[]:=uq q.defers fun _ h=>h;have hp:=(A q rfl rfl rfl rfl).ic 17 (v:=.lit (.bool true)) (u:=.bool true) (by simp[rel]);have hE':au E'.fh:=(I (k+1) E' hj').b_ (nf (I (k+1) E' hj'));have hs4:bl ⟨(kA y cp (.lit (.int .i64 i))).set 17 (.lit (.bool true)),E'.H⟩ E'.fh (a3.put (some 17) (.bool true)):=by
    refine⟨rfl,Gs hp.fr fun b d=>?_,?_,hE'⟩
    ·have d : b ∈ (kA y cp (.lit (.int .i64 i))).set 17 (.lit (.bool true)) := d
     rcases List.mem_or_eq_of_mem_set d with d|rfl
     ·simp only [kA, bC, List.not_mem_nil, or_false] at d
      rcases d with rfl|rfl|rfl|rfl|d
      ·exact .inr (.inl ⟨_,hy⟩)
      ·refine .inr (.inr fun c' h => ?_)
       rw[O]at h⊢;exact dQ (E:=g.fh) (E':=E'.fh) ⟨fun b d=>hleC.ok b d⟩ _ (by simp[AV.closed]) h
      ·exact .inl rfl
      ·exact .inr (.inl ⟨_,rfl⟩)
      ·left
       rcases d with rfl|rfl|rfl|rfl|rfl|rfl|rfl|rfl|rfl|rfl|rfl|rfl|rfl|rfl|rfl<;>rfl
     ·exact .inr (.inl ⟨_,rfl⟩)
    ·rw [put_defers, hd3]
     exact lV _ _
   refine Gr (pf:=fun _=>false) (J:=J (k+1)) (l:=[u8]) (k:=7) (B (k+1)) ?_ hs4 hj' (fr':=((kA y cp (.lit (.int .i64 i))).set 17 (.lit (.bool true))).set 18 (.lit (.bool false))) ?_ fun a5 E5 hj5 hs5=>?_
   ·intro j o F
    have hlt:j<1:=by simpa using aM F
    have:j=0:=by omega
    subst this;rw[jv R];exact F
   ·exact il (v:=.lit (.bool false)) (jQ gc8 (by rw[pc8]; rfl) (by rw[pc8]; rfl)) dc8 rV
   ·show (Code.cond _ _ _).wpIn (fz none) 0 P _ _ _
    have h18:a5.eval (.tmp 18)=.bool false:=by
     have:=hs5.eval (.tmp 18);simpa[St.eval,kA,rel]using this
    refine wpIn_cond_false h18 (wpIn_skip ?_);show (Code.region _ _ _).wpIn (fz none) 0 P _ _ _
    refine Gq (pf:=fun _=>false) (J:=J (k+1)) (B (k+1)) (A hs5 rfl rfl rfl rfl) hj5 (fr':=(((kA y cp (.lit (.int .i64 i))).set 9 (.lit (.int .i64 i))).set 10 (.lit (.int .i64 (i-1)))).set 3 (.lit (.int .i64 (i-1)))) ?_ fun a6 E6 hj6 hs6=>?_
    ·rw [qq2]
     refine il (v:=.lit (.int .i64 i)) (jQ gb1 (by rw[pb1]; rfl) (by rw[pb1]; rfl)) db1 (il (v:=.lit (.int .i64 (i-1))) (jQ gb2 (by rw[pb2]; rfl) ?_) db2 (il (v:=.lit (.int .i64 (i-1))) (jQ gb3 (by rw[pb3]; rfl) (by rw[pb3]; rfl)) db3 rV));rw[pb2];exact NG (P:=P) (t:=t5) (k:=mY (Operand.tmp 9)||mY (Operand.const (.int .i64 1))) (hin i U (by omega))
    ·have h3:a6.eval (.tmp 3)=.int .i64 (i-1):=by
      have:=hs6.eval (.tmp 3);simpa[St.eval,kA,rel]using this
     have e6:i-1=(n:Int)-1-((k+1:Nat):Int):=by omega
     refine⟨⟨k+1,E6,rfl,by omega,hj6,?_⟩,?_⟩
     ·rw [← e6]
      exact A hs6 rfl rfl rfl rfl
     ·rw [h3, hmu]
      show (i-1+1).toNat<(i+1).toNat
      omega
 ·refine wpIn_cond_false (by rw [h8]; simp [U]) (wpIn_exit ?_)
  simp only[Exit.then,DN,if_true];have hd:a2.defers=[]:=uq hs2.defers fun _ h=>h;have hk:k=n:=by omega
  subst hk;show LeavesInM (fz none) 0 P fn a2.tmps _ a2.defers .returning N.w
  rw[hd];refine⟨.tuple #[],?_,⟨_,rfl⟩,N,rfl,hj2⟩;rw[tT,hr];simp
end bw
end Go.AL

namespace Go.AL
open Go
variable [Dr]
mutual
def oD(m:Nat):AV→Bool
 |.agg cs=>lv m cs
 |.tuple cs=>lv m cs
 |.clo _ cs=>lv m cs
 |.ptr id ae _ _ _=>eZ id m&&ab ae 0
 |.vec _ id ae _ _=>eZ id m&&ab ae 0
 |.map id=>eZ id m
 |_=>true
def lv(m:Nat):List AV→Bool
 | []=>true
 |a::as=>oD m a&&lv m as
end
mutual
theorem NH{E E':Env}{m:Nat}(h:E.dv m E'):∀(a:AV) {c:Value},oD m a=true→rel E a c→rel E' a c
 |.undef,_,_,_=>by simp[rel]
 |.lit v,c,_,hr=>by simpa only[rel]using hr
 |.nils,c,_,hr=>by simpa only[rel]using hr
 |.list k rows,c,_,hr=>dQ (rU h) _ (by simp[AV.closed]) hr
 |.listF ks rows,c,_,hr=>dQ (rU h) _ (by simp[AV.closed]) hr
 | .agg cells,c,d,hr=>by
  simp only[rel]at hr⊢;obtain⟨cs,e,h1,g⟩:=hr;exact⟨cs,e,h1,ur h cells (by simpa only[oD]using d) g⟩
 | .tuple cells,c,d,hr=>by
  simp only[rel]at hr⊢;obtain⟨cs,e,g⟩:=hr;exact⟨cs,e,ur h cells (by simpa only[oD]using d) g⟩
 |.cptr cells,c,_,hr=>dQ (rU h) _ (by simp[AV.closed]) hr
 | .ptr id ae k row col,c,d,hr=>by
  simp only[oD,ay,iA]at d;obtain⟨h1,g⟩:=d;have g:=bD g;subst g;simp only[rel]at hr⊢;obtain⟨g1,g2,g3⟩:=hr;refine⟨g1,h.past id h1 g2,fun q=>?_⟩;obtain⟨A,B⟩:=h.live id h1 g2 q;rw[B];exact g3 A
 | .vec k id ae off n,c,d,hr=>by
  simp only[oD,ay,iA]at d;obtain⟨h1,g⟩:=d;have g:=bD g;subst g;simp only[rel]at hr⊢;obtain⟨g1,g2,g3⟩:=hr;refine⟨g1,h.past id h1 g2,fun q=>?_⟩;obtain⟨A,B⟩:=h.live id h1 g2 q;rw[B];exact g3 A
 | .map id,c,d,hr=>by
  simp only[oD,iA]at d;simp only[rel]at hr⊢;obtain⟨g1,g2,g3⟩:=hr;refine⟨g1,h.past id d g2,fun q=>?_⟩;obtain⟨A,B⟩:=h.live id d g2 q;rw[B];exact g3 A
 | .clo f caps,c,d,hr=>by
  simp only[rel]at hr⊢;obtain⟨cs,e,g⟩:=hr;exact⟨cs,e,ur h caps (by simpa only[oD]using d) g⟩
 |.ifc,c,_,hr=>by simpa only[rel]using hr
 |.emptyS n,c,_,hr=>by simpa only[rel]using hr
theorem ur{E E':Env}{m:Nat}(h:E.dv m E'):∀(as:List AV) {vs:List Value},lv m as=true→ad E as vs→ad E' as vs
 | [],[],_,_=>by simp[ad]
 | [],_::_,_,hr=>by simp[ad]at hr
 |_::_,[],_,hr=>by simp[ad]at hr
 | a::as,v::vs,d,hr=>by
  simp only[lv,ay]at d;simp only[ad]at hr⊢;exact⟨NH h a d.1 hr.1,ur h as d.2 hr.2⟩
end
theorem Env.dv.mono{m m':Nat}{E E':Env}(h:E.dv m' E')(hm:m≤m'):E.dv m E' :=
 ⟨fun id hi=>h.past id (by omega),h.size,h.same,h.own,fun id hi=>h.live id (by omega),h.X,h.rl,h.env⟩
structure Env.mf (m l:Nat) (E E':Env):Prop where
 past:∀ id,id<m→E.past id 0→E'.past id 0
 size:E.w.heap.size≤E'.w.heap.size
 same:∀ b,b<E.w.heap.size→¬ E.own b→b≠l→E'.w.heap[b]? = E.w.heap[b]?
 own:∀ b,b<E.w.heap.size→¬ E.own b→¬ E'.own b
 live:∀ id,id<m→E.past id 0→E'.live id 0→E.live id 0∧E'.loc[id]? = E.loc[id]?
 X:∀ b,b<E.w.heap.size→(E'.X b↔E.X b)∧(E'.X.z b↔E.X.z b)
 rl:∀ l h,h<(E.X.r l).length→h<(E'.X.r l).length∧∀ q,(E'.X.r l)[h]? = some (some q)→(E.X.r l)[h]? = some (some q)
 env:dx E.w E'.w
theorem Env.dv.toX{m l:Nat}{E E':Env}(h:E.dv m E'):E.mf m l E':=⟨h.past,h.size,fun b d g _=>h.same b d g,h.own,h.live,h.X,h.rl,h.env⟩
theorem Env.mf.trans{m l:Nat}{E E' F:Env}(h:E.mf m l E')(h':E'.mf m l F):E.mf m l F where
 past:=fun id hi J=>h'.past id hi (h.past id hi J)
 size:=Nat.le_trans h.size h'.size
 same:=fun b d g k=>by rw[h'.same b (dV d h.size) (h.own b d g) k,h.same b d g k]
 own:=fun b d g=>h'.own b (dV d h.size) (h.own b d g)
 live:=fun id hi hid k=>by
  obtain⟨A,a2⟩:=h'.live id hi (h.past id hi hid) k;obtain⟨b1,B⟩:=h.live id hi hid A;exact⟨b1,by rw[a2,B]⟩
 X:=fun b d=>by
  have h1:=h'.X b (dV d h.size);have I:=h.X b d;exact⟨h1.1.trans I.1,h1.2.trans I.2⟩
 rl:=fun l i hi=>by
  obtain⟨A,a2⟩:=h.rl l i hi;obtain⟨b1,B⟩:=h'.rl l i A;exact⟨b1,fun q M=>a2 q (B q M)⟩
 env:=h.env.trans h'.env
theorem Env.mf.toM{m l:Nat}{E E':Env}(h:E.mf m l E')(g:l<E.w.heap.size→E'.w.heap[l]? = E.w.heap[l]?):E.dv m E' :=
 ⟨h.past, h.size, fun b d k => by
  by_cases e:b=l
  ·subst e
   exact g d
  ·exact h.same b d k e,h.own,h.live,h.X,h.rl,h.env⟩
theorem uu{w:World}{H:List af}{loc:List (Option (Nat × Nat))}{X:XS}{l:Nat}{o:Obj}(g:X l)(HE:au { w:=w,H:=H,loc:=loc,X:=X }) :
  gd { w:=w,H:=H,loc:=loc,X:=X } { w:=w.putObj l o,H:=H,loc:=loc,X:=X } :=
 ⟨rfl, rfl, by simp, fun b _ d => ⟨d, Kt fun e => d (by rw [e]; exact g)⟩, fun b k => by
  have:=HE.X b k;simpa using this,rfl⟩
theorem uv{m:Nat}{w:World}{H:List af}{loc:List (Option (Nat × Nat))}{X:XS}{l:Nat}{o:Obj}:({ w:=w,H:=H,loc:=loc,X:=X }:Env).mf m l { w:=w.putObj l o,H:=H,loc:=loc,X:=X } :=
 ⟨fun _ _ h=>h,by simp,fun b _ _ h=>Kt h,fun _ _ h=>h,fun _ _ _ h=>⟨h,rfl⟩,fun _ _=>⟨Iff.rfl,Iff.rfl⟩,fun _ _ h=>⟨h,fun _ d=>d⟩,⟨rfl,rfl,rfl,by first|exact fun _=>aI _|exact fun _=>eB _ _⟩⟩
theorem Bp{w:World}{X:XS}{l:Nat}{r:Loop}{o:Obj}{g:List Deferred}(h:jo w X g)(k:w.heap[l]? = some (.loop r)):jo (w.putObj l o) X g :=
 ⟨h.1, fun d q => by
  obtain⟨D,e,h1,A,B⟩:=h.2 d q;exact⟨D,e,by rw[Kt (fun e=>by rw[e,k]at h1; cases h1)]; exact h1,A,B⟩⟩
end Go.AL

namespace Go.AL
open Go
variable [Dr]
structure xE (P:Program) (m:Nat) (n:Nat) (rv:Nat→AV) (p0 p1:Tmp) (assign body:Code) (S:Nat→St):Prop where
 na:eC assign=true
 nb:eC body=true
 fix:∀ k,k<n→lv m (S k).fr=true
 round:∀ k,k<n→∃ s1 s2,cn P m assign ⟨((S k).fr.set p0 (.lit (.int .i64 ((n:Int)-1-k)))).set p1 (rv (n-1-k)),(S k).H⟩ .normal s1∧cn P m body s1 .normal s2∧bQ m ⟨(S k).fr,s2.H⟩ (S (k+1))
section bw
variable {P:Program} {m':Nat} {n:Nat} {rv:Nat→AV} {p0 p1:Tmp} {assign body:Code} {S:Nat→St}
theorem Yr(hr:xE P m' n rv p0 p1 assign body S){k:Nat}(hk:k<n){fn:FuncId}{D l:Nat}{a:Act}{tmps:Array Value}(htm:tmps=a.tmps){E:Env}(hs:bl (S k) E a)(hX:E.X l)
  (I:E.w.heap[l]? = some (.loop { state:=.ready,pending:=none,fn,tmps,params:=#[p0,p1],assign,body,defers:=D })) {cs:Array Value} (hc:ad E [.lit (.int .i64 ((n:Int)-1-k)),rv (n-1-k)] cs.toList) :
  YieldAt (fz none) 0 P l cs E.w fun e W'=>e=.returned (.bool true)∧∃ E',E'.w=W'∧bl (S (k+1)) E' a∧E.dv m' E'∧E'.X l ∧
   E'.w.heap[l]? = some (.loop { state:=.ready,pending:=none,fn,tmps,params:=#[p0,p1],assign,body,defers:=D }):=by
 obtain⟨s1,s2,hA,hB,hle⟩:=hr.round k hk;obtain⟨g,c1,rfl⟩:∃ g c1,cs=#[g,c1]:=by
  have:=fO hc
  match h:cs.toList,this with
  | [g,c1],_=>exact⟨g,c1,fl (by simpa using h)⟩
 simp only[ad]at hc;obtain⟨hc0,hc1,_⟩:=hc;refine⟨_,_,_,_,run_yield I (by simp),roundIn_of_wpIn (F:=fz none) trivial ?_⟩;have R:l<E.w.heap.size:=(fb.1 I).1;have hs0:bl ⟨((S k).fr.set p0 (.lit (.int .i64 ((n:Int)-1-k)))).set p1 (rv (n-1-k)),(S k).H⟩ E { tmps:=(a.tmps.setIfInBounds p0 g).setIfInBounds p1 c1,defers:=[] }:=by
  refine⟨hs.H,?_,lV _ _,hs.heap⟩;simp only[Array.toList_setIfInBounds];exact wu p1 (wu p0 hs.fr hc0) hc1
 have e0:((#[p0,p1]:Array Tmp).zip #[g,c1]).foldl (fun tmps (t,a)=>tmps.setIfInBounds t a) tmps=(a.tmps.setIfInBounds p0 g).setIfInBounds p1 c1:=by
  rw[htm];simp[←Array.foldl_toList]
 rw[e0];refine wpIn_mono (hA (some l) (.inr hr.na) E _ hs0) fun e a1 q ⟨he,loc1,X1,U,A⟩=>?_;subst he;have hno:¬ E.own l:=hs.heap.jF hX;have W:q.heap[l]? = some (.loop { state:=.ready,pending:=none,fn,tmps,params:=#[p0,p1],assign,body,defers:=D }):=by rw[A.same l R hno]; exact I
 have hX1:X1 l:=(A.X l R).1.2 hX;have N:l<q.heap.size:=(fb.1 W).1;refine⟨_,run_beginRound W rfl,?_⟩;have hs1':=U.b_ (uu (o:=.loop { state:=.busy,pending:=none,fn,tmps,params:=#[p0,p1],assign,body,defers:=D }) hX1 U.heap) (Bp U.defers W);refine wpIn_mono (hB (some l) (.inr hr.nb) _ a1 hs1') fun e a2 w3 ⟨he,jx,J,hs2,O⟩=>?_;subst he;have hno1:¬ Env.own { w:=q,H:=s1.H,loc:=loc1,X:=X1 } l:=A.own l R hno;have hl3:w3.heap[l]? = some (.loop { state:=.busy,pending:=none,fn,tmps,params:=#[p0,p1],assign,body,defers:=D }):=by
  rw[O.same l (by show l<(q.putObj _ _).heap.size; simpa using N) hno1];exact KB N
 have hX2:J l:=(O.X l (by show l<(q.putObj _ _).heap.size; simpa using N)).1.2 hX1;have hlt3:l<w3.heap.size:=(fb.1 hl3).1;refine⟨_,_,run_endRound (P:=P) none hl3,rfl,?_⟩;obtain⟨d,B⟩:∃ d,w3.putObj l (.loop { state:=.ready,pending:=none,fn,tmps,params:=#[p0,p1],assign,body,defers:=D })=d:=⟨_,rfl⟩
 have Y:d.heap[l]? = some (.loop { state:=.ready,pending:=none,fn,tmps,params:=#[p0,p1],assign,body,defers:=D }):=by
  rw[←B];exact KB hlt3
 have M:E.dv m' { w:=d,H:=s2.H,loc:=jx,X:=J }:=by
  refine Env.mf.toM (l:=l) (A.toX.trans (uv.trans (O.toX.trans ?_))) (fun _=>by rw[show Env.w _=d from rfl,Y,I]);rw[←B];exact uv
 have hR4:au { w:=d,H:=s2.H,loc:=jx,X:=J }:=by
  rw[←B];exact hs2.heap.b_ (uu hX2 hs2.heap)
 have hsr:bl ⟨(S k).fr,s2.H⟩ { w:=d,H:=s2.H,loc:=jx,X:=J } a:=by
  refine⟨rfl,ur M _ (hr.fix k hk) hs.fr,tn hs.defers (fun b h1 h2=>?_) (fun b h1 _=>M.same b (hs.heap.X b h1) (hs.heap.jF h1)),hR4⟩;have:=M.X b (hs.heap.X b h1);exact⟨this.1.2 h1,this.2.2 h2⟩
 obtain⟨loc7,X7,hs7,hle7⟩:=hle _ a hsr;refine⟨{ w:=d,H:=(S (k+1)).H,loc:=loc7,X:=X7 },?_,hs7,M.trans hle7,(hle7.X l (by show l<d.heap.size; exact(fb.1 Y).1)).1.2 hX2,Y⟩;rw[←B];rfl
theorem Ys{T1 T2:TypeId}{sl:AV}{ops0 ops1 ops2 cf:Array Oper}{m:Nat}(hT:xD P T1 T2 sl n rv){f:FuncId}{fd:Func}{r0 r1 r2 r3 b0 b1:Nat}(hf:P.funcs[f]? = some fd)(hbd:dN P f=true)(B:fd.body=some (xC ops0 ops1 ops2 cf r0 r1 r2 r3 b0 b1))(hn:fd.ntmps=19)(hre:fd.results=#[])(O:xB T1 T2 ops0 ops1 ops2 cf)
  (hlen:n≤1048576) (hmm:m≤m') (hr:xE P m' n rv p0 p1 assign body S) {g:Tmp} {s:St} {id wd:Nat} (hg:s.eval (.tmp g)=.clo f [.ptr id 0 wd 0 0]) (hid:s.H[id]? = some (.box [sl])) (h0:bQ m ⟨s.fr,s.H.set id .dead⟩ (S 0))
  (E:Env) (a:Act) (hs:bl s E a):(Code.rangeFunc (.tmp g) #[p0,p1] assign body).wpIn (fz none) 0 P (fun e a1 A=>e=.normal∧dj m E (S n) a1 A) a E.w:=by
 have W:=hs.eval (.tmp g);rw[hg]at W;simp only[rel]at W;obtain⟨cs,W,hcs⟩:=W;obtain⟨c,rfl⟩:∃ c,cs=#[c]:=by
  have:=fO hcs
  match h:cs.toList,this with
  | [c],_=>exact⟨c,fl (by simpa using h)⟩
 simp only[ad,rel]at hcs;obtain⟨⟨⟨bc,oc,hc0⟩,_,hlive⟩,_⟩:=hcs;have hidE:E.H[id]? = some (.box [sl]):=by rw[hs.H]; exact hid
 obtain⟨bb,nn,U,hcv⟩:=hlive ⟨_,hidE,rfl⟩;obtain⟨D,hD⟩:∃ D,E.w.heap.size=D:=⟨_,rfl⟩
 have hobj:=hs.heap.obj id _ hidE;simp only[aU]at hobj;obtain⟨b',n',hloc',hrow,hcells⟩:=hobj;rw[U]at hloc';obtain⟨rfl,rfl⟩:bb=b'∧nn=n':=by
  have h:=hloc';simp only[aX,be]at h;exact h
 have J:=Env.tg hs.heap id;have hdr:=au.drop hs.heap id fun o O=>by
  rw[hidE]at O;cases O;rfl
 have hcp0:rel { w:=E.w,H:=E.H.set id .dead,loc:=E.loc.set id none,X:=E.X } (.cptr [sl]) c:=by
  simp only[rel];refine⟨hT.cl,bb,0,by simpa using hcv,⟨(hs.heap.lt id bb nn U).1,?_,(hs.heap.lt id bb nn U).2⟩,vV (E:=E) (fun a c h=>cR J a h) rfl hcells⟩;rintro(⟨j,q,M⟩|⟨l,k,q,M⟩)
  case inr=>exact hs.heap.dy _ _ _ _ _ _ U M
  simp only[List.getElem?_set]at M;split at M
  ·split at M<;>cases M
  ·rename_i hne
   exact hne (hs.heap.inj _ _ _ _ _ U M)
 refine wpIn_rangeFunc ?_;intro fn _;obtain⟨rec,N⟩:∃ rec:Loop,rec={ state:=.ready,pending:=none,fn,tmps:=a.tmps,params:=#[p0,p1],assign,body,defers:=D }:=⟨_,rfl⟩
 obtain⟨A,Y⟩:∃ A,(E.w.alloc (.deferred (some []))).alloc (.loop rec)=A:=⟨_,rfl⟩
 have hsz:A.heap.size=D+2:=by rw[←Y,mO,mO,hD]
 have hl1:A.heap[D+1]? = some (.loop rec):=by
  rw[←Y];have:=DQ (E.w.alloc (.deferred (some []))) (.loop rec)
  rwa [mO,hD]at this
 have hold2:∀ b,b<D+1→A.heap[b]? = (E.w.alloc (.deferred (some []))).heap[b]? := fun b B=>by
  rw[←Y];show ((E.w.alloc (.deferred (some []))).heap.push _)[b]? = _
  rw[oZ,if_neg (by rw[mO,hD]; omega)]
 have hD1:A.heap[D]? = some (.deferred (some [])):=by
  rw[hold2 D (by omega)];have:=DQ E.w (.deferred (some []))
  rwa [hD]at this
 have hold:∀ b,b<D→A.heap[b]? = E.w.heap[b]? := fun b B=>by
  rw[hold2 b (by omega)];show (E.w.heap.push _)[b]? = _
  rw[oZ,if_neg (by omega)]
 have hos:dx E.w A:=by rw[←Y]; exact⟨rfl,rfl,rfl,by first|exact fun _=>aI _|exact fun _=>eB _ _⟩
 obtain⟨I,F⟩:∃ I:XS,I=⟨fun b=>E.X b∨b=D∨b=D+1,fun b=>E.X.z b∨b=D,E.X.r⟩:=⟨_,rfl⟩
 obtain⟨mk,hmk⟩:∃ mk:Deferred,mk={ target:=.collected D,args:=#[] }:=⟨_,rfl⟩
 have b_:gd { w:=E.w,H:=E.H.set id .dead,loc:=E.loc.set id none,X:=E.X } { w:=A,H:=E.H.set id .dead,loc:=E.loc.set id none,X:=I } :=
  ⟨rfl, rfl, by show E.w.heap.size ≤ A.heap.size; omega, fun b B hx => by
   have B:b<D:=by rw[←hD]; exact B
   refine⟨fun h=>?_,hold b B⟩;rw[F]at h;rcases h with h|h|h
   ·exact hx h
   ·omega
   ·omega,fun b B=>by
   show b<A.heap.size
   rw[F]at B;rcases B with h|h|h
   ·have := hs.heap.X b h
    omega
   ·omega
   ·omega,by show I.r=E.X.r; rw[F]⟩
 have hs2:bl ⟨s.fr,s.H.set id .dead⟩ { w:=A,H:=E.H.set id .dead,loc:=E.loc.set id none,X:=I } { a with defers:=mk::a.defers }:=by
  refine⟨by rw[hs.H],nc b_ _ (eP J _ hs.fr),⟨?_,fun d J=>?_⟩,hdr.b_ b_⟩
  ·refine List.nodup_cons.2 ⟨fun h => ?_, hs.defers.1⟩
   obtain⟨R,e,h1,h2,_⟩:=hs.defers.2 mk h;have:=hs.heap.X R h2;rw[hmk]at e;have e:D=R:=by
    have e:=congrArg Deferred.target e;simpa using e
   omega
  ·rcases bC.1 J with rfl | J
   ·exact⟨D,hmk,hD1,by rw[F]; exact .inr (.inl rfl),by rw[F]; exact .inr rfl⟩
   ·obtain ⟨R, e, h1, h2, h3⟩ := hs.defers.2 d J
    have:=hs.heap.X R h2;exact⟨R,e,by rw[show Env.w _=A from rfl,hold R (by omega)]; exact h1,by rw[F]; exact .inl h2,by rw[F]; exact .inl h3⟩
 have hle2:E.dv m { w:=A,H:=E.H.set id .dead,loc:=E.loc.set id none,X:=I }:=by
  refine J.toM.trans ⟨fun _ _ h=>h,by show E.w.heap.size≤A.heap.size; omega,fun b B _=>hold b (by rw[←hD]; exact B),fun b _ h O=>h ((b_.own b).1 O),fun _ _ _ h=>⟨h,rfl⟩,fun b B=>?_,fun l h hh=>by show h<(I.r l).length∧_; rw[F]; exact⟨hh,fun _ hq=>hq⟩,hos⟩;have B:b<D:=by rw[←hD]; exact B
  show (I b↔E.X b)∧(I.z b↔E.X.z b)
  rw[F];exact⟨⟨fun h=>by rcases h with h|h|h; exact h; omega; omega,.inl⟩,⟨fun h=>by rcases h with h|h; exact h; omega,.inl⟩⟩
 obtain⟨lr,X3,hs3,hle3⟩:=h0 _ _ hs2;have hX3:X3 (D+1):=(hle3.X (D+1) (by show D+1<A.heap.size; omega)).1.2 (by show I (D+1); rw[F]; exact .inr (.inr rfl));have hcp3:rel { w:=A,H:=(S 0).H,loc:=lr,X:=X3 } (.cptr [sl]) c:=dQ (rU hle3) _ (by simp[AV.closed]) (dQ b_.toC _ (by simp[AV.closed]) hcp0);refine⟨D+1,[mk],A,{ target:=.fn (.func f) #[c],args:=#[.func (.yield (D+1)) #[] #[]] },A,f,#[.func (.yield (D+1)) #[] #[],c],A,?_,?_,fun _ _=>trivial,?_,fun h=>(by cases h),?_⟩
 ·rw [← Y, N, hmk, ← hD]
  exact run_enterLoop_outer _ _ _ _ _
 ·have hcst : a.eval (.const (.func (.yield (D + 1)) #[] #[])) = .func (.yield (D + 1)) #[] #[] := rfl
  simp[resolve,W,hcst,DM]
 ·simp[invoke,tL hbd]
 ·have hcall:=Yq (P:=P) hT hf B hn hre O (l:=D+1) hlen (fun k E'=>bl (S k) E' { a with defers:=mk::a.defers }∧E.dv m E'∧E'.X (D+1)∧E'.w.heap[D+1]? = some (.loop rec)) (fun k E' h=>h.1.heap)
   (fun k E1 E2 h hle hR hH=>?_) (c:=c) (fun k E' cs hk h hc=>?_) (E0:={ w:=A,H:=(S 0).H,loc:=lr,X:=X3 }) ⟨hs3,hle2.trans hle3,hX3,hl1⟩ hcp3
  ·refine hcall.mono fun e w3 ⟨⟨v, hv⟩, E4, hw4, hs4, hle4, hX4, hl4⟩ => ?_
   subst hv;subst hw4;obtain⟨w4,H4,loc4,X4⟩:=E4;have hH4:H4=(S n).H:=hs4.H;subst hH4;have hend:=run_endLoop (P:=P) hl4 (by rw[N]; simp);refine⟨_,_,hend,?_⟩;rw[N];refine⟨rfl,loc4,X4,?_,?_⟩
   ·rw [← N]
    exact hs4.b_ (uu hX4 hs4.heap) (Bp hs4.defers hl4)
   ·exact(hle4.toX.trans uv).toM (l:=D+1) (fun h=>absurd h (by omega))
  ·obtain ⟨g1, g2, g3, g4⟩ := h
   have hlt:D+1<E1.w.heap.size:=(fb.1 g4).1;refine⟨⟨by rw[hH]; exact g1.H,eP hle _ g1.fr,tq g1.heap hle g1.defers,hR⟩,g2.trans hle.toM,by rw[hle.X.1]; exact g3,?_⟩;rw[hle.same (D+1) hlt (g1.heap.jF g3)];exact g4
  ·obtain ⟨g1, g2, g3, g4⟩ := h
   rw[N]at g4;obtain⟨fn',tm,as,bo,k1,k2⟩:=Yr hr hk rfl g1 g3 g4 hc;refine⟨fn',tm,as,bo,k1,k2.mono fun e W' ⟨he,E'',hw,q1,q2,q3,q4⟩=>⟨he,E'',hw,⟨q1,g2.trans (q2.mono hmm),q3,by rw[N]; exact q4⟩,rU q2⟩⟩
end bw
end Go.AL

namespace Go.AL
open Go
variable [Dr]
variable {P:Program}
theorem NI{m m' n:Nat}{rv:Nat→AV}{p0 p1:Tmp}{assign body:Code}{S:Nat→St}{T1 T2:TypeId}{sl:AV}{ops0 ops1 ops2 cf:Array Oper}(B:xD P T1 T2 sl n rv){f:FuncId}{fd:Func}{r0 r1 r2 r3 b0 b1:Nat}(F:P.funcs[f]? = some fd)(d:dN P f=true)
  (I:fd.body=some (xC ops0 ops1 ops2 cf r0 r1 r2 r3 b0 b1)) (hn:fd.ntmps=19) (k:fd.results=#[]) (J:xB T1 T2 ops0 ops1 ops2 cf)
  (hlen:n≤1048576) (q:m≤m') (hr:xE P m' n rv p0 p1 assign body S) {g:Tmp} {s:St} {id wd:Nat} (M:s.eval (.tmp g)=.clo f [.ptr id 0 wd 0 0]) (hid:s.H[id]? = some (.box [sl])) (h0:bQ m ⟨s.fr,s.H.set id .dead⟩ (S 0)) :
  cn P m (.rangeFunc (.tmp g) #[p0,p1] assign body) s .normal (S n):=fun ro A E a hs=>by
 obtain rfl:ro=none:=A.resolve_right (by simp[eC]);exact wpIn_mono (Ys B F d I hn k J hlen q hr M hid h0 E a hs) fun e N O ⟨he,h⟩=>⟨he,h⟩
structure jR where
 f:FuncId
 T1:TypeId
 T2:TypeId
 w:Nat
 pw:Nat
 agg:Bool
def qi(P:Program)(i:jR):Prop:=∃ fd ops0 ops1 ops2 cf r0 r1 r2 r3 b0 b1 e b,P.funcs[i.f]? = some fd∧dN P i.f=true∧fd.body=some (xC ops0 ops1 ops2 cf r0 r1 r2 r3 b0 b1)∧fd.ntmps=19∧fd.results=#[]∧xB i.T1 i.T2 ops0 ops1 ops2 cf ∧
 eJ P i.T1=some (1,false)∧cw P i.T1=.slice e i.w b∧eJ P i.T2=some (i.pw,i.agg)
def nq(agg:Bool)(w:Nat)(row:List AV):AV:=(gn agg w row).getD .undef
theorem Yt{i:jR}{e b:Nat}{rows:List (List AV)}(h1:eJ P i.T1=some (1,false))(g:cw P i.T1=.slice e i.w b)(F:eJ P i.T2=some (i.pw,i.agg)) (hr:(rows.all fun r=>(gn i.agg i.pw r).isSome)=true) :
  xD P i.T1 i.T2 (.list i.w rows) rows.length (fun k=>nq i.agg i.pw (rows.getD k [])):=by
 refine⟨fun H=>?_,?_,fun k A B=>?_,by simp[AV.br,AV.closed]⟩
 ·simp[gp,h1,gn]
 ·rw [g]
  rfl
 ·have d : k.toNat < rows.length := by omega
  refine⟨rows[k.toNat],?_,fun H=>?_⟩
  ·rw [g]
   simp only[kP];rw[if_pos ⟨trivial,A,B⟩,bA d];rfl
  ·have := ep.1 hr rows[k.toNat] (qO d)
   obtain⟨v,q⟩:=nM.1 this;simp only[gp,F,q];unfold nq;rw[cG,bA d,Option.getD_some,q];rfl
def Bq(P:Program)(τ:ah)(p0 p1:Tmp)(assign body:Code)(fr:List AV):List (Int × AV)→List al→(List al→Tree)→Tree
 | [],H,k=>k H
 | (i,v)::q,H,k=>bW P τ az assign ⟨(fr.set p0 (.lit (.int .i64 i))).set p1 v,H⟩ fun x s1=>match x with
  | .normal=>bW P τ az body s1 fun x s2=>match x with
   |.normal=>Bq P τ p0 p1 assign body fr q s2.H k
   |_=>.fail
  |_=>.fail
theorem NJ(hm:P.follows .mixedOrders=true){τ:ah}(A:aj P τ){p0 p1:Tmp}{assign body:Code}{fr:List AV}{Q:bB→ao→Prop}{k:List al→Tree}(m:Nat):∀(q:List (Int × AV)) (H:List al),(Bq P τ p0 p1 assign body fr q H k).holds Q →
  ∃ f:Nat→List al,f 0=H∧(∀ j d,q[j]? = some d→∃ s1 s2:ao,cn P m assign ⟨(fr.set p0 (.lit (.int .i64 d.1))).set p1 d.2,ai (f j)⟩ .normal s1.den∧cn P m body s1.den .normal s2.den∧f (j+1)=s2.H)∧(k (f q.length)).holds Q
 | [],H,h=>⟨fun _=>H,rfl,fun j d g=>by simp at g,h⟩
 | (i,v)::q,H,h=>by
  simp only[Bq]at h;obtain⟨x,s1,h1,B⟩:=dS hm A assign _ _ (aK P m assign) h;cases x with
  | normal =>
   obtain⟨x,s2,I,F⟩:=dS hm A body _ _ (aK P m body) B;cases x with
   | normal =>
    obtain⟨f,g1,g2,g3⟩:=NJ hm A m q s2.H F;refine⟨fun j=>match j with|0=>H|j+1=>f j,rfl,fun j d g=>?_,g3⟩;cases j with
    | zero =>
     simp only[List.getElem?_cons_zero,aX]at g;subst g;exact⟨s1,s2,h1,I,g1⟩
    |succ j=>exact g2 j d (by simpa using g)
   |exit _=>exact F.elim
   |ret=>exact F.elim
  |exit _=>exact B.elim
  |ret=>exact B.elim
def Br(agg:Bool)(w:Nat)(rows:List (List AV)):List (Int × AV):=(fK rows.length).map fun(k:Nat)=>((rows.length:Int)-1-k,nq agg w (rows.getD (rows.length-1-k) []))
def Gt(P:Program)(τ:ah)(i:jR)(m:Nat)(c:Code)(s:ao):Option Tree :=
 match c with
 | .seq (.seq r3 (.block _ (.rangeFunc (.tmp g) ps assign body))) rest=>match ps.toList,eC assign&&eC body with
  | [p0,p1],true=>some (bW P τ az r3 s fun x s1=>match x with
   | .normal=>match s1.fr.getD g .undef with
    | .clo f [.ptr id 0 _ 0 0]=>match s1.H[id]? with
     | some (.raw (.box [.list w rows]))=>.side (ab f i.f&&(ab w i.w&&(db rows.length 1048576&&((rows.all fun r=>(gn i.agg i.pw r).isSome)&&(lv s1.H.length s1.fr&&db m s1.H.length)))))
       (Bq P τ p0 p1 assign body s1.fr (Br i.agg i.pw rows) (s1.H.set id (.raw .dead)) fun H=>bW P τ az rest ⟨s1.fr,H⟩ .done)
     |_=>.fail
    |_=>.fail
   |_=>.fail)
  |_,_=>none
 |_=>none
theorem Yu(hm:P.follows .mixedOrders=true){τ:ah}(A:aj P τ){i:jR}(hi:qi P i){m:Nat}{c:Code}{s:ao}{t:Tree}(h:Gt P τ i m c s=some t):AT P m c s t:=by
 unfold Gt at h;split at h
 case h_2=>cases h
 rename_i r3 b g ps assign body rest;split at h
 case h_2=>cases h
 rename_i p0 p1 R q;cases h;intro Q U;have O:ps=#[p0,p1]:=fl (by simpa using R);subst O;simp only[ay]at q;obtain⟨x,s1,h1,d⟩:=dS hm A r3 s _ (aK P m r3) U;cases x with
 |exit _=>exact d.elim
 |ret=>exact d.elim
 | normal =>
  simp only[]at d;split at d
  case h_2=>exact d.elim
  rename_i f id wd W;split at d
  case h_2=>exact d.elim
  rename_i w rows hid;simp only[Tree.holds,ay]at d;obtain⟨⟨B,I,J,Y,k5,M⟩,h3⟩:=d;have B:=bD B;have I:=bD I;have J:=kM J;have M:=kM M;subst B;subst I;obtain⟨F,f0,f1,f2⟩:=NJ hm A s1.H.length _ _ h3;obtain⟨x,s',N,h5⟩:=dS hm A rest _ _ (aK P m rest) f2;refine⟨x,s',?_,h5⟩;obtain⟨fd,ops0,ops1,ops2,cf,r0,r1,r2,r3',b0,b1,e,bb,q1,q2,q3,q4,q5,q6,q7,q8,q9⟩:=hi;have hlen:(Br i.agg i.pw rows).length=rows.length:=by simp[Br]
  have hR:xE P s1.H.length rows.length (fun k=>nq i.agg i.pw (rows.getD k [])) p0 p1 assign body (fun k=>⟨s1.fr,ai (F k)⟩):=by
   refine⟨q.1,q.2,fun k _=>k5,fun k hk=>?_⟩;obtain⟨a1,a2,g1,g2,g3⟩:=f1 k ((rows.length:Int)-1-k,nq i.agg i.pw (rows.getD (rows.length-1-k) [])) (by
    simp[Br,hk])
   refine⟨a1.den,a2.den,g1,g2,?_⟩;rw[g3];exact bQ.refl _
  have hS:=NI (m:=m) (m':=s1.H.length) (P:=P) (Yt q7 q8 q9 Y) q1 q2 q3 q4 q5 q6 J M hR (g:=g) (s:=s1.den) (id:=id) (wd:=wd) W (bx hid) (by
   rw[f0,eE];exact bQ.refl _)
  have hB:cn P m (.block b (.rangeFunc (.tmp g) #[p0,p1] assign body)) s1.den .normal ⟨s1.fr,ai (F rows.length)⟩:=ES (x:=.normal) hS;rw[hlen]at N;exact tR (tR h1 hB) N
def Gu(P:Program)(τ:ah)(i:jR)(m key:Nat)(fn:Func):LT:=⟨fun _ _=>none,fun _ s=>(true,s),fun k s=>match ab k key with
 |true=>Gt P τ i m (cutAt fn key) s
 |false=>none⟩
theorem Yv(hm:P.follows .mixedOrders=true){τ:ah}(d:aj P τ){i:jR}(hi:qi P i){m key:Nat}{fn:Func} (hn:ln key (bG (aN fn))=true):ax P m (Gu P τ i m key fn) (aN fn) :=
 ⟨fun _ _ _ _ _ h => (nomatch h), fun _ _ _ => bQ.refl _, fun k g hk s t h => by
  simp only[Gu]at h;split at h
  ·rename_i e
   have e:=bD e;subst e;rw[F6 hn hk];exact Yu hm d hi h
  ·cases h⟩
end Go.AL

namespace Go.AL
open Go
variable [Dr]
def NK(P:Program)(i:jR):Bool :=
 (match eJ P i.T1 with
 |some (n,a)=>ab n 1 && !a
 |none=>false)&&((match cw P i.T1 with
 |.slice _ w _=>ab w i.w
 |_=>false)&&(match eJ P i.T2 with
 |some (n,a)=>ab n i.pw&&(a==i.agg)
 |none=>false))
theorem NL{P:Program}{i:jR}{fd:Func}{ops0 ops1 ops2 cf:Array Oper}{r0 r1 r2 r3 b0 b1:Nat}(q:P.funcs[i.f]? = some fd)(A:dN P i.f=true)(hc:fd.body=some (xC ops0 ops1 ops2 cf r0 r1 r2 r3 b0 b1))(hn:fd.ntmps=19)(hr:fd.results=#[])(B:xB i.T1 i.T2 ops0 ops1 ops2 cf)
  (k:NK P i=true):qi P i:=by
 unfold NK at k;simp only[ay]at k;obtain⟨h1,d,g⟩:=k;split at h1
 case h_2=>cases h1
 rename_i n a F;split at d
 case h_2=>cases d
 rename_i e w b I;split at g
 case h_2=>cases g
 rename_i M N J;simp only[ay,Bool.not_eq_true',beq_iff_eq]at h1 g;obtain⟨g1,g2⟩:=h1;obtain⟨g3,g4⟩:=g;have g1:=bD g1;have g3:=bD g3;have d:=bD d;subst g1;subst g2;subst g3;subst g4;subst d;exact⟨fd,ops0,ops1,ops2,cf,r0,r1,r2,r3,b0,b1,e,b,q,A,hc,hn,hr,B,F,I,J⟩
def ah.Bs(P:Program)(τ:ah)(i:jR)(key:Nat)(f:FuncId)(fn:Func) (ks:List (Option (List Kd))):ah:=τ.add f fun args =>
 match (AZ P τ (Gu P τ i 0 key fn) fn ks args []).val with
 | some v=>match AV.br args&&v.closed with
  |true=>some (true,v)
  |false=>none
 |none=>none
theorem aj.Bs{P:Program}{τ:ah}(h:aj P τ)(hm:P.follows .mixedOrders=true){i:jR}(hi:qi P i){key:Nat}{f:FuncId}{fn:Func}(g:P.funcs[f]? = some fn)(k:dN P f=true) (hn:ln key (bG (aN fn))=true) (ks:List (Option (List Kd))) :
  aj P (τ.Bs P i key f fn ks):=h.add k fun args b v hc _=>by
 split at hc
 ·rename_i u hu
  split at hc
  ·rename_i d
   simp only[ay]at d;cases hc;exact eh hm h ks (fun c hc=>by
    have:=Yv (m:=0) hm h hi hn;unfold aN at this;rw[hc]at this;exact this) g d.1 d.2 hu
  ·cases hc
 ·cases hc
def xF:al→Bool
 |.vec _ v _=>ab v 0
 |.map ..=>true
 |.aQ ..=>true
 |.raw (.vec _ v _)=>ab v 0
 |.raw .dead=>false
 |.raw _=>true
theorem NM{H:List al}(h:H.all xF=true):Aw (ai H):=by
 intro o d;obtain⟨t,g,rfl⟩:=List.mem_map.1 d;have:=ep.1 h t g;cases t with
 |vec ks v rows=>simp only[xF]at this; rw[bD this]; rfl
 |map=>rfl
 |aQ=>rfl
 | raw o=>cases o with
  |vec k v rows=>simp only[xF]at this; rw[bD this]; rfl
  |dead=>cases this
  |box=>rfl
  |map=>rfl
  |iter=>rfl
  |fc=>rfl
  |aQ=>rfl
def NN(P:Program)(τ:ah)(fn:Func)(args:List AV)(H:List al):Option (Bool × AV × List al) :=
 match H.all xF with
 | true=>match (bW P τ az (aN fn) ⟨er args fn.ntmps,H⟩ .done).fg with
  | some (.normal,s')=>match gr P s'.den fn.results.toList with
   |some vs=>some (true,cK vs,s'.H)
   |none=>none
  | some (.ret,s')=>match gr P s'.den fn.results.toList with
   |some vs=>some (true,cK vs,s'.H)
   |none=>none
  |_=>none
 |false=>none
def ah.dZ(P:Program)(τ:ah)(f:FuncId)(fn:Func):ah where
 pf g:=match ab g f with
  |true=>false
  |false=>τ.pf g
 T g as:=match ab g f with
  |true=>none
  |false=>τ.T g as
 W g as H:=match ab g f with
  |true=>NN P τ fn as H
  |false=>τ.W g as H
 C g as H:=match ab g f with
  |true=>fK H.length
  |false=>τ.C g as H
 I:=τ.I
 N g:=match ab g f with
  |true=>false
  |false=>τ.N g
 U g:=match ab g f with
  |true=>true
  |false=>τ.U g
theorem aj.dZ{P:Program}{τ:ah}(h:aj P τ)(hm:P.follows .mixedOrders=true){f:FuncId}{fn:Func}(Y:P.funcs[f]? = some fn)(hb:dN P f=true)(O:fn.body.isSome=true):aj P (τ.dZ P f fn):=by
 refine⟨fun g as b v d N=>?_,fun g as H b v H' d N=>?_,fun g as H b v H' d A q k=>?_,fun g as H t d Q hQ=>?_,?_⟩
 rotate_left 4
 ·refine ⟨fun g B as H => ?_, fun g J as H b v H' d id o k hid => ?_⟩
  ·simp only [ah.dZ] at B ⊢
   cases e:ab g f with
   |true=>rw[e]at B; cases B
   | false =>
    rw[e]at B;exact h.F.1 g B as H
  ·simp only [ah.dZ] at J d hid ⊢
   cases e:ab g f with
   |true=>rw[e]at J; cases J
   | false =>
    rw[e]at J d hid;exact h.F.2 g J as H b v H' d id o k hid
 rotate_left 3
 ·obtain ⟨g1, v, H', g2, g3, g4⟩ := h.I g as H t d Q hQ
  refine⟨g1,v,H',g2,fun A q k=>g3 A (fun hm=>q ?_) k,g4⟩;simp only[ah.dZ];split
  ·exact ke.2 k
  ·exact hm
 ·simp only [ah.dZ] at d
  split at d
  ·cases d
  ·exact h.T g as b v d N
 ·simp only [ah.dZ] at d
  split at d
  ·rename_i e
   have e:=bD e;subst e;refine⟨hb,?_⟩;obtain⟨c,hc⟩:=nM.1 O;have R:aN fn=c:=by unfold aN; rw[hc]
   unfold NN at d;rw[R]at d;split at d
   case h_2=>cases d
   rename_i U;have key:∀{x:bB} {s':ao} {vs:List AV},(bW P τ az c ⟨er as fn.ntmps,H⟩ .done).fg=some (x,s')→(x=.normal∨x=.ret)→gr P s'.den fn.results.toList=some vs→cz P g as (ai H) (cK vs) (ai s'.H):=by
    intro x s' vs h1 hx M;obtain⟨x1,s1,h3,h4⟩:=dS hm h c ⟨er as fn.ntmps,H⟩ .done (aK P (ai H).length c) (qg h1);obtain⟨rfl,rfl⟩:=h4;exact L2 Y hc h3 hx M (NM U)
   split at d
   ·rename_i s' h1
    split at d
    ·rename_i vs M
     cases d;exact key h1 (.inl rfl) M
    ·cases d
   ·rename_i s' h1
    split at d
    ·rename_i vs M
     cases d;exact key h1 (.inr rfl) M
    ·cases d
   ·cases d
  ·exact h.W g as H b v H' d N
 ·simp only [ah.dZ] at d q
  split at d
  ·rename_i e
   rw[e]at q;exact(q (ke.2 k)).elim
  ·rename_i e
   rw[e]at q;exact h.C g as H b v H' d A q k
def NO(P:Program)(τ:ah)(fn:Func)(args:List AV)(H:List al):Option Tree :=
 match H.all xF with
 | true=>some (bW P τ az (aN fn) ⟨er args fn.ntmps,H⟩ fun x s=>match x with
  | .normal=>match gr P s.den fn.results.toList with
   |some vs=>.done .normal ⟨[cK vs],s.H⟩
   |none=>.fail
  | .ret=>match gr P s.den fn.results.toList with
   |some vs=>.done .normal ⟨[cK vs],s.H⟩
   |none=>.fail
  |.exit _=>.fail)
 |false=>none
def ah.nr(P:Program)(τ:ah)(f:FuncId)(fn:Func):ah where
 pf g:=match ab g f with
  |true=>false
  |false=>τ.pf g
 T g as:=match ab g f with
  |true=>none
  |false=>τ.T g as
 W g as H:=match ab g f with
  |true=>none
  |false=>τ.W g as H
 C g as H:=match ab g f with
  |true=>fK H.length
  |false=>τ.C g as H
 I g as H:=match ab g f with
  |true=>NO P τ fn as H
  |false=>τ.I g as H
 N g:=match ab g f with
  |true=>false
  |false=>τ.N g
 U g:=match ab g f with
  |true=>true
  |false=>τ.U g
theorem aj.nr{P:Program}{τ:ah}(h:aj P τ)(hm:P.follows .mixedOrders=true){f:FuncId}{fn:Func}(hf:P.funcs[f]? = some fn)(hb:dN P f=true)(Y:fn.body.isSome=true):aj P (τ.nr P f fn):=by
 refine⟨fun g as b v d O=>?_,fun g as H b v H' d O=>?_,fun g as H b v H' d A B q=>?_,fun g as H t d Q R=>?_,?_⟩
 rotate_left 4
 ·refine ⟨fun g J as H => ?_, fun g M as H b v H' d id o q hid => ?_⟩
  ·simp only [ah.nr] at J ⊢
   cases e:ab g f with
   |true=>rw[e]at J; cases J
   | false =>
    rw[e]at J;exact h.F.1 g J as H
  ·simp only [ah.nr] at M d hid ⊢
   cases e:ab g f with
   |true=>rw[e]at M; cases M
   | false =>
    rw[e]at M d hid;exact h.F.2 g M as H b v H' d id o q hid
 ·simp only [ah.nr] at d
  split at d
  ·cases d
  ·exact h.T g as b v d O
 ·simp only [ah.nr] at d
  split at d
  ·cases d
  ·exact h.W g as H b v H' d O
 ·simp only [ah.nr] at d B
  split at d
  ·cases d
  ·rename_i e
   rw[e]at B;exact h.C g as H b v H' d A B q
 ·simp only [ah.nr] at d ⊢
  split at d
  ·rename_i e
   have e:=bD e;subst e;refine⟨hb,?_⟩;obtain⟨c,hc⟩:=nM.1 Y;have hbo:aN fn=c:=by unfold aN; rw[hc]
   unfold NO at d;rw[hbo]at d;split at d
   case h_2=>cases d
   rename_i hfr;cases d;obtain⟨U,s1,h3,k⟩:=dS hm h c ⟨er as fn.ntmps,H⟩ _ (aK P (ai H).length c) R;have key:∀ vs,(U=.normal∨U=.ret)→gr P s1.den fn.results.toList=some vs→Q .normal ⟨[cK vs],s1.H⟩→∃ v H',cz P g as (ai H) v (ai H')∧(∀ A,¬ A∈fK H.length→A<H.length→H'[A]? = H[A]?)∧Q .normal ⟨[v],H'⟩:=fun vs hx N hq =>
    ⟨cK vs,s1.H,L2 hf hc h3 hx N (NM hfr),fun A B q=>(B (ke.2 q)).elim,hq⟩
   split at k
   ·split at k
    ·rename_i vs N
     exact key vs (.inl rfl) N k
    ·exact k.elim
   ·split at k
    ·rename_i vs N
     exact key vs (.inr rfl) N k
    ·exact k.elim
   ·exact k.elim
  ·rename_i e
   obtain⟨g1,v,H',g2,g3,g4⟩:=h.I g as H t d Q R;exact⟨g1,v,H',g2,fun A B q=>g3 A (fun hm=>B hm) q,g4⟩
end Go.AL

namespace Go.AL
open Go Go.ChangeMaps
variable [Dr]
def eu.uw(sp:eu)(s:ao)(b:Nat):ao:=⟨s.fr.set sp.it (.lit (.pointer (some ⟨b,0,none⟩))),s.H⟩
section range
variable {P:Program} {τ:ah} {L:LT} {m:Nat} {sp:eu} {ops0 ops1 ops2:Array Oper} {body:Code} {ri:List G→List (List G)} {ci:List G→Nat}
def NP(m:Nat)(sp:eu)(ri:List G→List (List G))(ci:List G→Nat)(E:Env)(rows:List (List G))(d0:List G)(itb mb nn clock:Nat)(a:Act)(w:World):Prop :=
 ∃(d:List G) (loc:List (Option (Nat × Nat))) (X:XS) (seen:Array Nat) (last:Nat) (p:List (List G)),
  bP sp.st sp.aT p d0=some d∧sp.aT d=itb∧(p++rows.filter fun x => !seen.contains (bI x)).Perm rows ∧
  bl (aF sp.inv d).den { w:=w,H:=(aF sp.inv d).den.H,loc:=loc,X:=X } a∧E.dv m { w:=w,H:=(aF sp.inv d).den.H,loc:=loc,X:=X }∧X itb ∧
  w.heap[itb]? = some (.mapIter (some mb) clock seen last)∧clock≤last∧ri d=rows∧ci d=clock∧loc[sp.id]? = some (some (mb,nn))
theorem Yw(hm:P.follows .mixedOrders=true)(ht:aj P τ)(hL:ax P m L body)(hr:iH P τ L m sp ops2 body)(ho:oA P sp ops0 ops1 ops2)
  (hu1:∀ d,(aF sp.inv d).fr[sp.t1]? = some .undef) (hu2:∀ d,(aF sp.inv d).fr[sp.t2]? = some .undef) (hut:∀ d,(aF sp.inv d).fr[sp.it]? = some (.lit (.pointer (some ⟨sp.aT d,0,none⟩))))
  {E:Env} {rows:List (List G)} {d0:List G} {itb mb clock:Nat} {nn:Nat} {r1 b0 b1 r2:Nat}
  (hid2:∀ d,(aF sp.inv d).H[sp.id]? = some (.map sp.K sp.V (ri d) (ci d))) (hkeep:∀ r d d',sp.st r d=some d'→ri d'=ri d∧ci d'=ci d) (him:sp.id<m) (hsz:E.w.heap.size≤itb) (hn:(rows.map bI).Nodup) (hlt:∀ r∈rows,bI r<clock)
  (hfold:∀ p,p.Perm rows→(bP sp.st sp.aT p d0).isSome=true) {a:Act} {w:World} (hI:NP m sp ri ci E rows d0 itb mb nn clock a w) (ro:Option Nat) (hro:e9 ro body) :
  (Code.loop (.seq (.region r1 ops1 false) (.seq (.cond (.tmp sp.t2) .skip (.exit b0)) (.block b1 (.seq (.region r2 ops2 false) body))))).wpIn (fz ro) 0 P
   (fun e a1 I=>e=.exit b0∧∃ p d,p.Perm rows∧bP sp.st sp.aT p d0=some d∧dj m E (aF sp.inv d).den a1 I) a w:=by
 obtain⟨o1,o2,e1,g1,p1,q1,g2,Y,q2⟩:=ho.r1;obtain⟨o3,l,e3,g3,p3,q3⟩:=ho.r2;refine wpIn_loop (NP m sp ri ci E rows d0 itb mb nn clock) (fun _ w=>(rows.filter fun x => !(w.iterSeen itb).contains (bI x)).length) hI fun a w hI=>?_;obtain⟨d,loc,X,seen,last,p,hf,had,hp,hs,hle,R,hit,hcl,hriD,hciD,hlo⟩:=hI;have hidd:=hid2 d;rw[hriD,hciD]at hidd;have hob:=hs.heap.obj sp.id _ (bx hidd);simp only[al.den,aU]at hob;obtain⟨k,nn',ms,hlo',hmb,hre⟩:=hob;have hmbe:k=mb:=by
  have h:=hlo';rw[hlo]at h;simp only[aX,be]at h;exact h.1.symm
 subst hmbe;have hne:k≠itb:=fun e=>(hs.heap.lt sp.id k nn hlo).2 (by rw[e]; exact R);have h10:ops1[0]? = some o1:=by
  have:ops1.toList[0]? = some o1:=by rw[e1]; rfl
  simpa using this
 have h11:ops1[1]? = some o2:=by
  have:ops1.toList[1]? = some o2:=by rw[e1]; rfl
  simpa using this
 have hsz1:ops1.size=2:=by
  have:ops1.toList.length=2:=by rw[e1]; rfl
  simpa using this
 have hiv:a.eval (.tmp sp.it)=.pointer (some ⟨itb,0,none⟩):=by
  have h:=hs.eval (.tmp sp.it);have e:(aF sp.inv d).den.eval (.tmp sp.it)=.lit (.pointer (some ⟨sp.aT d,0,none⟩)):=by
   show (aF sp.inv d).fr.getD sp.it .undef=_
   rw[cG,hut d];rfl
  rw[e]at h;simp only[rel]at h;rw[h,had]
 obtain⟨hlen,hen⟩:=fE.1 hre;have hl1:(cC sp.K sp.V rows).length=rows.length:=by simp[cC]
 have J:∀(i:Nat) (e:MapEntry),ms.toList[i]? = some e→∃ r,rows[i]? = some r∧e.born=bI r:=by
  intro i e hi;have h1:=aM hi;have q:i<rows.length:=by omega
  refine⟨rows[i],bA q,?_⟩;exact(hen i (sp.K.av (gi rows[i] 0).row,sp.V.av (gi rows[i] 1).row,(gi rows[i] 2).int.toNat) e (by simp[cC,q]) hi).2.2.1
 have hold:∀ x∈ms.toList,x.born<clock:=by
  intro x F;obtain⟨i,hi⟩:=lN F;obtain⟨r,h1,q⟩:=J i x hi;rw[q];exact hlt r (fy h1)
 have hbn:(ms.toList.map (·.born)).Nodup:=by
  have:ms.toList.map (·.born)=rows.map bI:=by
   apply List.ext_getElem?;intro i;simp only[List.getElem?_map];cases hi:ms.toList[i]? with
   | none =>
    have h1:=List.getElem?_eq_none_iff.1 hi;rw[List.getElem?_eq_none (by omega)];rfl
   | some e =>
    obtain⟨r,h1,q⟩:=J i e hi;rw[h1];simp[q]
  rw[this];exact hn
 refine wpIn_seq (wpIn_region ?_);rw[hsz1];show wpOpsIn (fz ro) 0 P ops1 _ [0,1] a w
 rw[wpOpsIn_cons];have hlt1:=uj hs (hu1 d);have hlt2:=uj hs (hu2 d);rcases run_next_at (P:=P) w o1.type itb k clock last seen ms clock hit hmb hold hcl with⟨h0,hrun⟩|⟨e,he,I,hw1,hrun⟩
 ·refine ij h10 g1 (um p1 hiv hrun) (fun c e => by rw [p1] at e; cases e) ro ?_
  rw[q1,wpOpsIn_cons];refine ij h11 g2 (uk Y (lp hlt1) rfl) (fun c e=>by rw[Y]at e; cases e) ro ?_;rw[q2];show (Code.seq _ _).wpIn (fz ro) 0 P _ _ w
  refine wpIn_seq (wpIn_cond_false (lp (by simpa[Act.put]using hlt2)) (wpIn_exit ?_));refine⟨rfl,p,d,?_,hf,loc,X,?_,hle⟩
  ·have:(rows.filter fun x => !seen.contains (bI x))=[]:=by
    rw[List.filter_eq_nil_iff];intro x F hc;obtain⟨i,hi⟩:=lN F;have h1:=aM hi;have q:i<ms.toList.length:=by omega
    obtain⟨r,h3,h4⟩:=J i _ (bA q);rw[hi]at h3;cases h3;have:ms.toList[i]∈(leftOf ms seen).toList:=by
     unfold leftOf;rw[Array.toList_filter];refine List.mem_filter.2 ⟨qO q,?_⟩;rw[h4];exact hc
    have h5:(leftOf ms seen).toList.length=0:=by simpa using h0
    rw[List.length_eq_zero_iff.1 h5]at this;cases this
   rwa [this,List.append_nil]at hp
  ·exact(hs.lq (hu1 d) (.tuple #[.bool false])).lq (hu2 d) (.bool false)
 ·refine ij h10 g1 (um p1 hiv hrun) (fun c e => by rw [p1] at e; cases e) ro ?_
  rw[q1,wpOpsIn_cons];refine ij h11 g2 (uk Y (lp hlt1) rfl) (fun c e=>by rw[Y]at e; cases e) ro ?_;rw[q2];show (Code.seq _ _).wpIn (fz ro) 0 P _ _ _
  refine wpIn_seq (wpIn_cond_true (lp (by simpa[Act.put]using hlt2)) (wpIn_skip ?_));show (Code.block _ _).wpIn (fz ro) 0 P _ _ _
  refine wpIn_block (wpIn_seq (wpIn_region ?_));generalize U:setBlock I itb (.mapIter (some k) clock (seen.push e.born) clock)=g;have N:I.heap=w.heap:=by rcases hw1 with rfl|rfl<;>rfl
  have hos:dx w g:=by rw[←U]; rcases hw1 with rfl|rfl<;>exact⟨rfl,rfl,rfl,by first|exact fun _=>aI _|exact fun _=>eB _ _⟩
  have hit2':g.heap[itb]? = some (.mapIter (some k) clock (seen.push e.born) clock):=by
   rw[←U];exact(zC (by rw[N]; exact hit)).1
  have M:∀ b,b≠itb→g.heap[b]? = w.heap[b]? := by
   intro b A;rw[←U];show (I.heap.setIfInBounds itb _)[b]? = _
   rw[(zC (by rw[N]; exact hit)).2 b A,N]
  have hsize:g.heap.size=w.heap.size:=by
   rw[←U];show (I.heap.setIfInBounds itb _).size=_
   simp[N]
  have hmb2:g.heap[k]? = some (.map ms clock):=by rw[M k hne]; exact hmb
  have b_:gd { w:=w,H:=(aF sp.inv d).den.H,loc:=loc,X:=X } { w:=g,H:=(aF sp.inv d).den.H,loc:=loc,X:=X } :=
   ⟨rfl,rfl,by show w.heap.size≤g.heap.size; omega,fun b A F=>⟨F,M b (fun e=>F (by rw[e]; exact R))⟩,fun b A=>by show b<g.heap.size; rw[hsize]; exact hs.heap.X b A,rfl⟩
  have hmk:jo g X a.defers:=⟨hs.defers.1,fun dd hdd=>by
   obtain⟨D,e,h1,q,h3⟩:=hs.defers.2 dd hdd;exact⟨D,e,by rw[M D (fun e=>by rw[e]at h1; rw[hit]at h1; cases h1)]; exact h1,q,h3⟩⟩
  have hs1:=((hs.b_ b_ hmk).lq (hu1 d) (.tuple #[.bool true,e.key,e.val])).lq (hu2 d) (.bool true);obtain⟨hem,hes⟩:=mem_left he;obtain⟨i,hi⟩:=lN hem;obtain⟨r,hri,W⟩:=J i e hi;have hrm:=fy hri;have hre2:=mc b_.toC hre;obtain⟨k1,k2,_⟩:=(fE.1 hre2).2 i (sp.K.av (gi r 0).row,sp.V.av (gi r 1).row,(gi r 2).int.toNat) e (by simp[cC,hri]) hi;have hiv1:((a.put (some sp.t1) (.tuple #[.bool true,e.key,e.val])).put (some sp.t2) (.bool true)).eval (.tmp sp.it)=.pointer (some ⟨itb,0,none⟩):=by
   have h:=hs1.eval (.tmp sp.it);have e:(aF sp.inv d).den.eval (.tmp sp.it)=.lit (.pointer (some ⟨sp.aT d,0,none⟩)):=by
    show (aF sp.inv d).fr.getD sp.it .undef=_
    rw[cG,hut d];rfl
   rw[e]at h;simp only[rel]at h;rw[h,had]
  have h20:ops2[0]? = some o3:=by
   have:ops2.toList[0]? = some o3:=by rw[e3]; rfl
   simpa using this
  have hl2:ops2.toList.drop 1=l:=by rw[e3]; rfl
  have hsz2:ops2.size=l.length+1:=by
   have:ops2.toList.length=l.length+1:=by rw[e3]; rfl
   simpa using this
  have hlp:(p++(r::rows.filter fun x => !(seen.push (bI r)).contains (bI x))).Perm rows :=
   (UN p (ui hn hrm (by rw[←W]; exact hes)).symm).trans hp
  have B:∃ d',sp.st r d=some d'∧sp.aT d'=sp.aT d:=by
   have h:=hfold _ hlp;rw[xn,hf]at h;simp only[s9,bP]at h;cases B:sp.st r d with
   |none=>rw[B]at h; cases h
   | some d' =>
    rw[B]at h;simp only[]at h;cases A:ab (sp.aT d') (sp.aT d)with
    |true=>exact⟨d',rfl,bD A⟩
    |false=>rw[A]at h; cases h
  obtain⟨d',B,had'⟩:=B;have hf':bP sp.st sp.aT (p++[r]) d0=some d':=by
   rw[xn,hf];simp only[s9,bP,B,had'];simp
  obtain⟨s4,ha4,hsat⟩:=NC hm ht hL hr B;rw[hsz2,vQ,List.range'_succ,wpOpsIn_cons];refine ij h20 g3 (Gh p3 hiv1 (run_entry_at (P:=P) g itb k clock seen ms clock e hit2' hmb2 hem hbn)) (fun c e=>by rw[p3]at e; cases e) ro ?_;rw[q3];have hs3:=hs1.ic sp.t3 (v:=.tuple [sp.K.av (gi r 0).row,sp.V.av (gi r 1).row]) (u:=.tuple #[e.key,e.val]) (by simp only[rel]; exact⟨_,rfl,by simp only[ad]; exact⟨k1,k2,trivial⟩⟩);refine Ar (pf:=τ.pf) (ops:=ops2) l (0+1) (sp.rs r d).den s4.den { w:=g,H:=(aF sp.inv d).den.H,loc:=loc,X:=X } _ (by rw[←hl2]) (by rw[hl2]at ha4; exact ha4) hs3 (fun a3 w3 hc3=>?_) ro;obtain⟨lr,r3,hs4,hle3⟩:=hc3;show body.wpIn (fz ro) 0 P _ a3 w3
  refine wpIn_mono (hsat ro hro { w:=w3,H:=s4.den.H,loc:=lr,X:=X.re r3 } a3 hs4) fun x a4 w4 F=>?_;obtain⟨rfl,loc4,X4,hs5,hle4⟩:=F;have O:({ w:=g,H:=(aF sp.inv d).den.H,loc:=loc,X:=X }:Env).dv m { w:=w4,H:=(aF sp.inv d').den.H,loc:=loc4,X:=X4 }:=hle3.toM.trans hle4;have hXsz:itb<g.heap.size:=oB hit2';have hnown:¬ Env.own { w:=g,H:=(aF sp.inv d).den.H,loc:=loc,X:=X } itb:=by
   exact(hs.heap.b_ b_).jF R
  have hmbsz:k<g.heap.size:=oB hmb2;have hit4:w4.heap[itb]? = some (.mapIter (some k) clock (seen.push e.born) clock):=by rw[O.same itb hXsz hnown]; exact hit2'
  obtain⟨hk1,hk2⟩:=hkeep r d d' B;have hidd':=hid2 d';rw[hk1,hk2,hriD,hciD]at hidd';have hlive:=(O.live sp.id him ⟨_,bx hidd,fun v _=>kL v⟩ ⟨_,bx hidd',rfl⟩).2;refine⟨⟨d',loc4,X4,seen.push e.born,clock,p++[r],hf',by rw[had',had],?_,hs5,?_,(O.X itb hXsz).1.2 R,hit4,aI _,by rw[hk1,hriD],by rw[hk2,hciD],?_⟩,?_⟩
  ·rw [W, List.append_assoc]
   exact hlp
  ·refine Env.dv.trans (E' := { w := g, H := (aF sp.inv d).den.H, loc := loc, X := X }) ⟨hle.past, ?_, ?_, hle.own, hle.live, hle.X, hle.rl, hle.env.trans hos⟩ O
   ·have := hle.size
    show E.w.heap.size≤g.heap.size
    rw[hsize];exact this
   ·intro b A hbo
    show g.heap[b]? = _
    rw[M b (by omega)];exact hle.same b A hbo
  ·rw [show loc4[sp.id]? = loc[sp.id]? from hlive]
   exact hlo
  ·show (rows.filter fun x => !(w4.iterSeen itb).contains (bI x)).length < (rows.filter fun x => !(w.iterSeen itb).contains (bI x)).length
   rw[uo hit4,uo hit];have:=(ui hn hrm (by rw[←W]; exact hes)).length_eq;rw[←W]at this;simp only[List.length_cons]at this;omega
theorem Yx(hm:P.follows .mixedOrders=true)(ht:aj P τ)(hL:ax P m L body)(hr:iH P τ L m sp ops2 body)(ho:oA P sp ops0 ops1 ops2)
  (hu1:∀ d,(aF sp.inv d).fr[sp.t1]? = some .undef) (hu2:∀ d,(aF sp.inv d).fr[sp.t2]? = some .undef) (hut:∀ d,(aF sp.inv d).fr[sp.it]? = some (.lit (.pointer (some ⟨sp.aT d,0,none⟩))))
  {r1 b0 b1 r2:Nat} (R:∀ d,(aF sp.inv d).H[sp.id]? = some (.map sp.K sp.V (ri d) (ci d))) (hkeep:∀ r d d',sp.st r d=some d'→ri d'=ri d∧ci d'=ci d) (Y:sp.id<m)
  {s:ao} {d:List G} {rows:List (List G)} {clock:Nat} (I:s.eval (.tmp sp.y)=.map sp.id) (hid:s.H[sp.id]? = some (.map sp.K sp.V rows clock)) (hn:(rows.map bI).Nodup)
  (hlt:∀ r∈rows,bI r<clock) (hin:∀ b,gg m sp.inv sp.ps (fR sp.opens (sp.uw s b))=some (true,sp.init d b)) (hadr:∀ b,sp.aT (sp.init d b)=b) (A:∀ b,ri (sp.init d b)=rows∧ci (sp.init d b)=clock)
  (hfold:∀ b p,p.Perm rows→(bP sp.st sp.aT p (sp.init d b)).isSome=true) (E:Env) (a:Act) (hs:bl s.den E a) (ro:Option Nat) (hro:e9 ro body) {Q:Exit→Act→World→Prop}
  (hQ:∀ J M,(∃ b p d',p.Perm rows∧bP sp.st sp.aT p (sp.init d b)=some d'∧dj m E (aF sp.inv d').den J M)→Q .normal J M) :
  wpOpsIn (fz ro) 0 P ops0 (Exit.then ((Code.block b0 (.loop (.seq (.region r1 ops1 false) (.seq (.cond (.tmp sp.t2) .skip (.exit b0)) (.block b1 (.seq (.region r2 ops2 false) body)))))).wpIn (fz ro) 0 P Q) Q) [ops0.toList.dropLast.length] a E.w:=by
 obtain⟨o2,ty,e1,g2,p2,q2,F⟩:=ho.r0;have h11:ops0[ops0.toList.dropLast.length]? = some o2:=by
  have:ops0.toList[ops0.toList.dropLast.length]? = some o2:=by
   rw[e1];simp
  simpa using this
 have U:E.H[sp.id]? = some (.map (cC sp.K sp.V rows) clock):=by
  rw[hs.H];exact bx hid
 have hrx:rel E (.map sp.id) (a.eval (.tmp sp.y)):=by
  have:=hs.eval (.tmp sp.y)
  rwa [ao.ng,I]at this
 obtain⟨mb,n,ms,hc,hloc,hmb,hre⟩:=qZ hs.heap U hrx;obtain⟨⟨kt,et⟩,F⟩:=nM.1 F;have hmbs:mb<E.w.heap.size:=oB hmb;rw[wpOpsIn_cons];refine ij h11 g2 (Gi p2 hc (run_range_map E.w ty kt et mb ms clock (iT F) hmb)) (fun c e=>by rw[p2]at e; cases e) ro ?_;rw[q2];show (Code.block _ _).wpIn (fz ro) 0 P _ _ _
 generalize B:E.w.alloc (.mapIter (some mb) clock #[] clock)=g;have hsize:g.heap.size=E.w.heap.size+1:=by rw[←B]; show (E.w.heap.push _).size=_; simp
 have hold:∀ b,b<E.w.heap.size→g.heap[b]? = E.w.heap[b]? := fun b k=>by rw[←B]; exact(show (E.w.heap.push _)[b]? = _ by rw[oZ,if_neg (by omega)])
 have hitn:g.heap[E.w.heap.size]? = some (.mapIter (some mb) clock #[] clock):=by rw[←B]; exact(show (E.w.heap.push _)[E.w.heap.size]? = _ by simp)
 have hos:dx E.w g:=by rw[←B]; exact⟨rfl,rfl,rfl,by first|exact fun _=>aI _|exact fun _=>eB _ _⟩
 have b_:gd { w:=E.w,H:=E.H,loc:=E.loc,X:=E.X } { w:=g,H:=E.H,loc:=E.loc,X:=E.X.or fun b=>b=E.w.heap.size } :=
  ⟨rfl, rfl, by show E.w.heap.size ≤ g.heap.size; omega, fun b k I => ⟨fun h => h.elim I (fun e => absurd k (by rw [e]; exact vR _)), hold b k⟩, fun b k => by
   show b<g.heap.size
   rcases k with k|k
   ·have := hs.heap.X b k
    omega
   ·omega,rfl⟩
 have hs3:=(hs.b_ b_ (tn (X':=E.X.or fun b=>b=E.w.heap.size) (w':=g) hs.defers (fun _ h1 N=>⟨.inl h1,N⟩) fun b h1 _=>hold b (hs.heap.X b h1))).ic sp.it (v:=.lit (.pointer (some ⟨E.w.heap.size,0,none⟩))) (u:=.pointer (some ⟨E.w.heap.size,0,none⟩)) (by simp only[rel]);have hs3':bl (sp.uw s E.w.heap.size).den { w:=g,H:=E.H,loc:=E.loc,X:=E.X.or fun b=>b=E.w.heap.size } _:=hs3;obtain⟨loc,X4,hs4,q⟩:=((lk sp.opens _).trans (jr (hin E.w.heap.size))) _ _ hs3';have W:=R (sp.init d E.w.heap.size);rw[(A _).1,(A _).2]at W;have hlive:=(q.live sp.id Y ⟨_,U,fun v _=>kL v⟩ ⟨_,bx W,rfl⟩).2;refine wpIn_block (wpIn_mono (Yw hm ht hL hr ho hu1 hu2 hut (ri:=ri) (ci:=ci) (E:=E) (rows:=rows) (d0:=sp.init d E.w.heap.size) (itb:=E.w.heap.size) (mb:=mb) (nn:=n) (clock:=clock)
  R hkeep Y (aI _) hn hlt (hfold _) ?_ ro hro) fun e J M O=>?_)
 ·refine ⟨sp.init d E.w.heap.size, loc, X4, #[], clock, [], rfl, hadr _, ?_, hs4, ?_, (q.X E.w.heap.size (by show _ < g.heap.size; omega)).1.2 (.inr rfl), ?_, aI _, (A _).1, (A _).2, ?_⟩
  ·have : (rows.filter fun x => !(#[] : Array Nat).contains (bI x)) = rows := List.filter_eq_self.2 (fun x _ => by simp)
   rw[List.nil_append,this]
  ·refine Env.dv.trans (E' := { w := g, H := E.H, loc := E.loc, X := E.X.or fun b => b = E.w.heap.size }) ⟨fun _ _ h => h, ?_, ?_, fun b _ h => h, fun _ _ _ h => ⟨h, rfl⟩, fun b k => ⟨⟨fun h => h.elim id fun e => absurd k (by rw [e]; exact vR _), .inl⟩, Iff.rfl⟩, fun _ _ h => ⟨h, fun _ O => O⟩, hos⟩ q
   ·show E.w.heap.size ≤ g.heap.size
    omega
   ·exact fun b k _=>hold b k
  ·rw [q.same E.w.heap.size (by show _ < g.heap.size; omega) ?_]
   ·exact hitn
   ·exact(hs.heap.b_ b_).jF (.inr rfl)
  ·rw [show loc[sp.id]? = E.loc[sp.id]? from hlive]
   exact hloc
 ·obtain ⟨rfl, p, d', h1, N, h3⟩ := O
  simp only[DN,if_true];exact hQ _ _ ⟨_,p,d',h1,N,h3⟩
theorem NQ(hm:P.follows .mixedOrders=true)(ht:aj P τ)(hL:ax P m L body)(hr:iH P τ L m sp ops2 body)(A:oA P sp ops0 ops1 ops2)
  (R:∀ d,(aF sp.inv d).fr[sp.t1]? = some .undef) (U:∀ d,(aF sp.inv d).fr[sp.t2]? = some .undef) (W:∀ d,(aF sp.inv d).fr[sp.it]? = some (.lit (.pointer (some ⟨sp.aT d,0,none⟩))))
  {r0 r1 b0 b1 r2:Nat} (M:∀ d,(aF sp.inv d).H[sp.id]? = some (.map sp.K sp.V (ri d) (ci d))) (I:∀ r d d',sp.st r d=some d'→ri d'=ri d∧ci d'=ci d) (Y:sp.id<m)
  {s s1:ao} {d:List G} {rows:List (List G)} {clock:Nat} (hp:eT P τ.pf ops0 ops0.toList.dropLast s.den s1.den) (hx:s1.eval (.tmp sp.y)=.map sp.id) (hid:s1.H[sp.id]? = some (.map sp.K sp.V rows clock)) (hn:(rows.map bI).Nodup)
  (g:∀ r∈rows,bI r<clock) (hin:∀ b,gg m sp.inv sp.ps (fR sp.opens (sp.uw s1 b))=some (true,sp.init d b)) (N:∀ b,sp.aT (sp.init d b)=b) (hri:∀ b,ri (sp.init d b)=rows∧ci (sp.init d b)=clock)
  (J:∀ b p,p.Perm rows→(bP sp.st sp.aT p (sp.init d b)).isSome=true) (E:Env) (a:Act) (hs:bl s.den E a) (ro:Option Nat) (hro:e9 ro body) :
  (iG r0 b0 r1 b1 r2 ops0 ops1 ops2 sp.t2 body).wpIn (fz ro) 0 P (fun e k q=>e=.normal∧∃ b p d',p.Perm rows∧bP sp.st sp.aT p (sp.init d b)=some d'∧dj m E (aF sp.inv d').den k q) a E.w:=by
 refine wpIn_seq (wpIn_region ?_);obtain⟨o2,ty,B,_⟩:=A.r0;have hsz:ops0.size=ops0.toList.dropLast.length+1:=by
  have h:=congrArg List.length B;simpa using h
 have hl:fK ops0.size=jk 0 ops0.toList.dropLast.length++[ops0.toList.dropLast.length]:=by
  rw[hsz,List.range_succ,vQ]
 rw[hl];refine oy (pf:=τ.pf) ro ops0.toList.dropLast 0 s.den s1.den E a _ (fun j o F=>?_) hp hs fun k q hc=>?_
 ·have g := aM F
  have:ops0.toList[j]? = some o:=by
   rw[B,dI g];exact F
  simpa using this
 ·obtain ⟨O, r1, h1, h2⟩ := hc
  refine Yx hm ht hL hr A R U W M I Y hx hid hn g hin N hri J { w:=q,H:=s1.den.H,loc:=O,X:=E.X.re r1 } k h1 ro hro fun a2 w2 ⟨b,p,d',g1,g2,g3⟩=>?_;exact⟨rfl,b,p,d',g1,g2,dj.after h2.toM g3⟩
theorem Yy(hm:P.follows .mixedOrders=true)(R:aj P τ){rest:Code}{q qr:bq}(hL:ax P m L body)(hr:iH P τ L m sp ops2 body)(ho:oA P sp ops0 ops1 ops2)
  (hu1:∀ d,(aF sp.inv d).fr[sp.t1]? = some .undef) (hu2:∀ d,(aF sp.inv d).fr[sp.t2]? = some .undef) (hut:∀ d,(aF sp.inv d).fr[sp.it]? = some (.lit (.pointer (some ⟨sp.aT d,0,none⟩))))
  {r0 r1 b0 b1 r2:Nat} (hid2:∀ d,(aF sp.inv d).H[sp.id]? = some (.map sp.K sp.V (ri d) (ci d))) (W:∀ r d d',sp.st r d=some d'→ri d'=ri d∧ci d'=ci d) (him:sp.id<m)
  {rows:List G→List (List G)} {clock:List G→Nat} {pre:List G→ao} (hy:∀ d,(eg P τ ops0 ops0.toList.dropLast (aF q.inv d) fun s=>.done .normal s).fg=some (.normal,pre d)) (A:∀ d,(pre d).eval (.tmp sp.y)=.map sp.id) (hid:∀ d,(pre d).H[sp.id]? = some (.map sp.K sp.V (rows d) (clock d)))
  (hin:∀ d b,gg m sp.inv sp.ps (fR sp.opens (sp.uw (pre d) b))=some (sp.side d b,sp.init d b)) (hadr:∀ d b,sp.aT (sp.init d b)=b) (hri:∀ d b,ri (sp.init d b)=rows d∧ci (sp.init d b)=clock d)
  (hinv:qr.inv=sp.inv) (Y:qr.outs=q.outs) (F:oC P m rest qr) (hst:∀ d,q.st d=iI sp qr.st (rows d) (clock d) d) :
  oC P m (.seq (iG r0 b0 r1 b1 r2 ops0 ops1 ops2 sp.t2 body) rest) q:=by
 intro d i d' h;rw[hst]at h;unfold iI at h;cases aL:eA (rows d) (clock d)with
 |false=>rw[aL]at h; cases h
 | true =>
  rw[aL]at h;simp only[cond_true]at h;have hall:=xo h;obtain⟨hn,hlt⟩:=xq aL;have k:∀ b p,p.Perm (rows d)→sp.side d b=true∧∃ d1,bP sp.st sp.aT p (sp.init d b)=some d1∧qr.st d1=some (some i,d'):=by
   intro b p g;have:=hall b p g;cases J:sp.side d b with
   |false=>rw[J]at this; cases this
   | true =>
    rw[J]at this;simp only[cond_true]at this;cases B:bP sp.st sp.aT p (sp.init d b)with
    |none=>rw[B]at this; cases this
    | some d1 =>
     rw[B]at this;exact⟨rfl,d1,rfl,this⟩
  obtain⟨_,d1,_,g1⟩:=k 0 (rows d) (pn _);obtain⟨o,M,_⟩:=F d1 i d' g1;refine⟨o,by rw[←Y]; exact M,fun ro N E a hs=>wpIn_seq (wpIn_mono (NQ hm R hL hr ho hu1 hu2 hut hid2 W him (xA R (hy d)) (A d) (hid d) hn hlt (fun b=>by rw[hin d b,(k b (rows d) (pn _)).1]) (hadr d) (hri d) (fun b p g=>?_) E a hs ro (Gg N.seq1)) fun e a1 w1 hq=>?_)⟩
  ·obtain ⟨_, d2, h2, _⟩ := k b p g
   rw[h2];rfl
  ·obtain ⟨rfl, b, p, d2, g, B, loc, X, hs2, hle⟩ := hq
   obtain⟨_,d3,U,h4⟩:=k b p g;rw[B]at U;cases U;obtain⟨o',O,I⟩:=F d2 i d' h4;rw[M]at O;cases O;rw[hinv]at I;exact wpIn_mono (I ro N.wx { w:=w1,H:=(aF sp.inv d2).den.H,loc:=loc,X:=X } a1 hs2) fun x a2 w2 A=>⟨A.1,dj.after hle A.2⟩
theorem ax.Gv(hm:P.follows .mixedOrders=true)(A:aj P τ){fn:Func}{q qr:bq}{r0 b0 r1 b1 r2:Nat}{rows:List G→List (List G)}{clock:List G→Nat}
  (J:∀ d,(aF sp.inv d).H[sp.id]? = some (.map sp.K sp.V (ri d) (ci d))) (B:∀ r d d',sp.st r d=some d'→ri d'=ri d∧ci d'=ci d) (N:eZ sp.id m=true) (hn:ln q.key (bG (aN fn))=true) (hL:ax P m L (aN fn))
  (hc:cutAt fn q.key=.seq (iG r0 b0 r1 b1 r2 (jP (cutAt fn q.key)) (xy (cutAt fn q.key)) (lu (cutAt fn q.key)) sp.t2 (np (cutAt fn q.key))) (ls (cutAt fn q.key)))
  (g:(xu P sp (jP (cutAt fn q.key))&&xv sp (xy (cutAt fn q.key))&&xw sp (lu (cutAt fn q.key)))=true)
  (hr:iH P τ L m sp (lu (cutAt fn q.key)) (np (cutAt fn q.key)))
  (O:∀ d,(aF sp.inv d).fr[sp.t1]? = some .undef) (R:∀ d,(aF sp.inv d).fr[sp.t2]? = some .undef) (U:∀ d,(aF sp.inv d).fr[sp.it]? = some (.lit (.pointer (some ⟨sp.aT d,0,none⟩))))
  {pre:List G→ao} (hy:∀ d,(eg P τ (jP (cutAt fn q.key)) (jP (cutAt fn q.key)).toList.dropLast (aF q.inv d) fun s=>.done .normal s).fg=some (.normal,pre d)) (hx:∀ d,(pre d).eval (.tmp sp.y)=.map sp.id) (hid:∀ d,(pre d).H[sp.id]? = some (.map sp.K sp.V (rows d) (clock d)))
  (W:∀ d b,gg m sp.inv sp.ps (fR sp.opens (sp.uw (pre d) b))=some (sp.side d b,sp.init d b)) (M:∀ d b,sp.aT (sp.init d b)=b) (Y:∀ d b,ri (sp.init d b)=rows d∧ci (sp.init d b)=clock d)
  (hinv:qr.inv=sp.inv) (F:qr.outs=q.outs) (I:gh P τ L m (ls (cutAt fn q.key)) qr) (hst:∀ d,q.st d=iI sp qr.st (rows d) (clock d) d) :
  ax P m (L.ff m q) (aN fn):=by
 refine ax.Gj hn hL fun k=>?_;rw[hc]at k;obtain⟨hLb,hLr⟩:=NF k;simp only[ay]at g;rw[hc];exact Yy hm A hLb hr (Gk g.1.1 g.1.2 g.2) O R U J B (by rw[←iA]; exact N) hy hx hid W M Y hinv F (I.sat hm A hLr) hst
end range
theorem dj.Bt{m m':Nat}{E:Env}{s':St}{d:Act}{w':World}(h:dj m' E s' d w')(hm:m≤m'):dj m E s' d w':=by
 obtain⟨g,X',h1,k⟩:=h;exact⟨g,X',h1,k.mono hm⟩
theorem cn.mono{P:Program}{m m':Nat}{c:Code}{s:St}{x:bB}{s':St}(h:cn P m' c s x s')(hm:m≤m'):cn P m c s x s' :=
 fun ro g E a hs=>wpIn_mono (h ro g E a hs) fun _ _ _ d=>⟨d.1,d.2.Bt hm⟩
theorem tS.mono{P:Program}{m m':Nat}{c:Code}(hm:m≤m'){x:bB}{s':St}:∀{n:Nat} {s:St},tS P m' c n s x s'→tS P m c n s x s'
 |0,_,h=>⟨h.1,h.2.mono hm⟩
 |_+1,_,⟨s1,h1,d⟩=>⟨s1,h1.mono hm,d.mono hm⟩
theorem ax.mono{P:Program}{m m':Nat}{L:LT}{c:Code}(h:ax P m' L c)(hm:db m m'=true):ax P m L c:=by
 have hm:=kM hm;refine⟨fun k d hk s t g Q q=>?_,fun id s B E a hs=>(h.2.1 id s B E a hs).Bt hm,fun k d hk s t g Q q=>?_⟩
 ·obtain ⟨x, s', ⟨n, h1⟩, A⟩ := h.1 k d hk s t g Q q
  exact⟨x,s',⟨n,h1.mono hm⟩,A⟩
 ·obtain ⟨x, s', h1, A⟩ := h.2.2 k d hk s t g Q q
  exact⟨x,s',h1.mono hm,A⟩
end Go.AL

namespace Go.AL
open Go
variable [Dr]
theorem NR{a:G}{l:List G}:gi (a::l) 0=a:=rfl
theorem NS{a:G}{l:List G}{n:Nat}:gi (a::l) (n+1)=gi l n:=rfl
theorem Yz{n:Int}:(G.i n).int=n:=rfl
theorem YA{n:Nat}:ab n n=true:=Nat.beq_refl n
def Gw(sp:eu)(tl:List G→Option (Option Nat × List G))(rows:List (List G))(clock:Nat)(d:List G):Option (Option Nat × List G) :=
 match rows with
 | [x]=>bif eA [x] clock then bif sp.side d 0 then (bP sp.st sp.aT [x] (sp.init d 0)).bind tl else none else none
 |_=>none
theorem YB{sp:eu}{tl:List G→Option (Option Nat × List G)}{rows:List (List G)}{clock:Nat}{d:List G}{r:Option Nat × List G}
  (hs:∀ b,sp.side d b=sp.side d 0) (k:∀ x b,(bP sp.st sp.aT [x] (sp.init d b)).bind tl=(bP sp.st sp.aT [x] (sp.init d 0)).bind tl)
  (h:Gw sp tl rows clock d=some r):iI sp tl rows clock d=some r:=by
 unfold Gw at h;split at h
 case h_2=>cases h
 rename_i x;cases h1:eA [x] clock with
 |false=>rw[h1]at h; cases h
 | true =>
  cases g:sp.side d 0 with
  |false=>rw[h1,g]at h; cases h
  | true =>
   rw[h1,g]at h;unfold iI;rw[h1];refine xp fun b p q=>?_;rw[List.perm_singleton.1 q,hs b,g,cond_true,k x b];exact h
theorem YC{st:List G→List G→Option (List G)}{aT:List G→Nat}{x e:List G}:bP st aT [x] e=(st x e).bind fun d'=>bif ab (aT d') (aT e) then some d' else none:=by
 simp only[bP];cases st x e<;>rfl
theorem YD{α β:Type}{c:Bool}{a b:Option α}{f:α→Option β}:(bif c then a else b).bind f=bif c then a.bind f else b.bind f:=by
 cases c<;>rfl
theorem YE{c:Bool}{X Y:Option (Option Nat × List G)}{K:Nat→List G→Option (List G)}{r:List G}(h:∀ v,X=some v→Y=some v)(hr:a7 c (dD X) K=some r):a7 c (dD Y) K=some r:=by
 cases X with
 |some v=>rw[h v rfl]; exact hr
 |none=>cases c<;>cases hr
theorem dx.mg{w w':World}(h:@dx nU w w'):dx w w':=⟨h.1,h.2.1,h.2.2.1,fun _=>h.2.2.2 rfl⟩
theorem Env.le.mg{E E':Env}(h:@Env.le nU E E'):E.le E':=by
 cases h with
 |mk a b c d e f r g=>exact⟨a,b,c,d,e,f,r,dx.mg g⟩
theorem fF.mg{P:Program}{f:FuncId}{args:List AV}{H:List af}{Q:AV→List af→Prop}(h:@fF nU P f args H Q):fF P f args H Q:=fun E cargs h1 g k =>
 (h E cargs h1 g k).mono fun _ _ ⟨c,v,H',e,q,d,r',r1,r2,r3⟩=>⟨c,v,H',e,q,d,r',r1,r2,r3.mg⟩
theorem aj.mg{P:Program}{τ:ah}(h:@aj nU P τ):aj P τ:=by
 cases h with
 | mk g k hC q A =>
  refine⟨fun f args b v h1 d=>⟨(g f args b v h1 d).1,fun H=>fF.mg ((g f args b v h1 d).2 H)⟩,fun f args H b v H' h1 d=>⟨(k f args H b v H' h1 d).1,fF.mg (k f args H b v H' h1 d).2⟩,hC,fun f args H t h1 Q d=>?_,A⟩;obtain⟨g1,v,H',g2,g3,g4⟩:=q f args H t h1 Q d;exact⟨g1,v,H',fF.mg g2,g3,g4⟩
end Go.AL

namespace Go.AL
open Go
variable [Dr]
theorem YF(w:World)(q:Nat)(os:Array Obj):Ext w (mP (w.drewN q) os) :=
 ⟨by simp [mP, World.drewN], fun b d => by
  show (w.heap++os)[b]? = w.heap[b]?
  rw[Array.getElem?_append_left d],⟨rfl,rfl,rfl,fun _=>eB _ _⟩⟩
theorem YG{P:Program}{E:Env}(H:nW E){name:String}{g:Nat}{k:IntKind}{zs:List Int}(d:P.globalNamed name=some g) (q:(g,(zs.map fun z=>Value.int k z).toArray)∈tc):KC P E.w name k zs:=by
 obtain⟨_,t,f,h⟩:=H _ q;unfold KC aj_;rw[d];simp only[s9];rw[h]
theorem YH{P:Program}{w:World}{name:String}{g:Nat}{k:IntKind}{zs:List Int}(d:P.globalNamed name=some g)(h:KC P w name k zs):∃ t f,w.heap[g]? = some (.cells (zs.map fun z=>Value.int k z).toArray t f):=by
 unfold KC aj_ at h;rw[d]at h;simp only[s9]at h;split at h
 ·rename_i cs t f hc
  cases h;exact⟨t,f,hc⟩
 ·cases h
theorem YI{P:Program}{f:FuncId}{vs:List Value}{u:Value}(h:∀ E:Env,nW E→Calls P f vs.toArray E.w fun e w'=>e=.returned u∧Ext E.w w'):dc P f (vs.map .lit) (.lit u):=by
 intro H E cargs hH HE g;have e:cargs=vs.toArray:=by
  have:∀(vs us:List Value),ad E (vs.map AV.lit) us→us=vs:=by
   intro vs
   induction vs with
   | nil=>intro us h; cases us with
    |nil=>rfl
    |cons _ _=>simp[ad]at h
   | cons v vs k =>
    intro us h;cases us with
    |nil=>simp[ad]at h
    | cons u us =>
     simp only[List.map_cons,ad,rel]at h;rw[h.1,k us h.2]
  have:=this vs cargs.toList g;rw[←this]
 rw[e];refine(h E HE.fB).mono ?_;rintro _ w' ⟨rfl,d⟩;refine⟨u,.lit u,H,rfl,⟨rfl,rfl⟩,E.loc,E.X.r,by simp[rel],?_,?_⟩
 ·rw[←hH]; exact HE.ext d
 ·rw[←hH]; exact Env.gL d
end Go.AL
