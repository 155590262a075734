/-
 What is proved here: the function that slices.Backward hands back,called with a round's body: the rounds come from the last row to the first one. No program in sight; no condition.
-/
import Derived.Test.YtopnkdaoanlaiaaGreatDoorMD
import Derived.Test.YtopnkdaoanlaiaaGreatDoorMC
import Derived.Lib.LaidTab
import Derived.Sort.Grow
import Derived.Deep.Draws
set_option linter.all false
open Array renaming getElem?_push→pY,ext'→eT,getElem?_eq_some_iff→eP
open Bool renaming and_eq_true→aw
open Go.Deferred renaming ofValue→Cq
open Go.Exit renaming inBlock→IW
open Go.Lib renaming TabIs→I4
open Go.MapKept renaming heap_set→I3
open Go.Sort renaming grow→ox
open Go.World renaming putObj_heap_other→IX,putObj_heap_same→I2,size_alloc→l4,alloc_heap_new→Cy,var?→aiD
open List renaming range→fp,getElem?_append_left→dz,all_eq_true→dX,getElem?_eq_getElem→bE,getD_eq_getElem?_getD→cH,mem_cons→bI,mem_of_getElem?→fK,getElem?_of_mem→od,replicate→cI,mem_cons_self→cZ,range'→i_,mem_range→ja,range_eq_range'→Cs,getElem_mem→sb
open List.Perm renaming refl→sc
open Nat renaming le_refl→aI,le_add_right→eL,lt_of_lt_of_le→dN,beq→ab,zero_le→j5,eq_of_beq_eq_true→bt,ble→cR,blt→eE,blt_eq→gB,le_of_ble_eq_true→j9,lt_irrefl→Cw
open Option renaming isSome_iff_exists→n_,bind_some→ym
open Option.some renaming injEq→aT
open Prod.mk renaming injEq→aZ
namespace Go.AL
open Go
variable [Dr]
theorem Ay{P:Program}{pf:FuncId→Bool}{ops:Array Oper}{o:Oper}{s:St}{v:AV}(d:o.guard=none)(hc:cW pf o.op=.read)(h:eV P s.eval s.H o.op=some v):Yields P pf ops o s v s.H:=by
 unfold Yields;rw[show bT ops s.fr o=some true from by unfold bT; rw[d]];simp only[hc];exact⟨trivial,h⟩
theorem jq{P:Program}{pf:FuncId→Bool}{ops:Array Oper}{o:Oper}{s:St}{v:AV}(d:o.guard=none)(hc:cW pf o.op=.pure)(h:gU P s.eval o.op=some v):Yields P pf ops o s v s.H:=by
 unfold Yields;rw[show bT ops s.fr o=some true from by unfold bT; rw[d]];simp only[hc];exact⟨trivial,.inl h⟩
structure wx (S T:TypeId) (ops0 ops1 ops2 bS:Array Oper):Prop where
 r0:∃ o1 o2 o3 o4 t t',ops0.toList=[o1,o2,o3,o4]∧(o1.guard=none∧o1.op=.load S (.tmp 1)∧o1.dst=some 4)∧(o2.guard=none∧o2.op=.call { callee:=.builtin .len,args:=#[.tmp 4],argTypes:=#[S] }∧o2.dst=some 5) ∧
  (o3.guard=none∧o3.op=.binOp .sub t (.tmp 5) (.const (.int .i64 1)) t'∧o3.dst=some 6)∧(o4.guard=none∧o4.op=.assign (.tmp 6)∧o4.dst=some 3)
 r1:∃ o1 o2 t t',ops1.toList=[o1,o2]∧(o1.guard=none∧o1.op=.move (.tmp 3)∧o1.dst=some 7)∧(o2.guard=none∧o2.op=.binOp .geq t (.tmp 7) (.const (.int .i64 0)) t'∧o2.dst=some 8)
 r2:∃ o1 o2 o3 t t',ops2.toList=[o1,o2,o3]∧(o1.guard=none∧o1.op=.move (.tmp 3)∧o1.dst=some 9)∧(o2.guard=none∧o2.op=.binOp .sub t (.tmp 9) (.const (.int .i64 1)) t'∧o2.dst=some 10)∧(o3.guard=none∧o3.op=.assign (.tmp 10)∧o3.dst=some 3)
 r3:∃ o1 o2 o3 o4 o5 o6 o7 o8 t tys,bS.toList=[o1,o2,o3,o4,o5,o6,o7,o8]∧(o1.guard=none∧o1.op=.move (.tmp 0)∧o1.dst=some 11)∧(o2.guard=none∧o2.op=.move (.tmp 3)∧o2.dst=some 12)∧(o3.guard=none∧o3.op=.load S (.tmp 1)∧o3.dst=some 13) ∧
  (o4.guard=none∧o4.op=.move (.tmp 3)∧o4.dst=some 14)∧(o5.guard=none∧o5.op=.indexAddr S (.tmp 13) (.tmp 14)∧o5.dst=some 15)∧(o6.guard=none∧o6.op=.load T (.tmp 15)∧o6.dst=some 16) ∧
  (o7.guard=none∧o7.op=.call { callee:=.value (.tmp 11),args:=#[.tmp 12,.tmp 16],argTypes:=tys }∧o7.dst=some 17)∧(o8.guard=none∧o8.op=.unOp .not t (.tmp 17)∧o8.dst=some 18)
def wy(ops0 ops1 ops2 bS:Array Oper)(r0 r1 r2 r3 b0 b1:Nat):Code :=
 .seq (.region r0 ops0 false) (.block b0 (.loop (.seq (.seq (.region r1 ops1 false) (.cond (.tmp 8) .skip (.exit b0))) (.seq (.block b1 (.seq (.region r3 bS false) (.cond (.tmp 18) .ret .skip))) (.region r2 ops2 false)))))
def jP(y cp:AV)(i:AV):List AV:=[y,cp,.undef,i,.undef,.undef,.undef,.undef,.undef,.undef,.undef,.undef,.undef,.undef,.undef,.undef,.undef,.undef,.undef]
structure wz (P:Program) (S T:TypeId) (sl:AV) (n:Nat) (rv:Nat→AV):Prop where
 load:∀ H,fN P S (.cptr [sl]) H=some sl
 len:yW (bY P S) sl=some (.lit (.int .i64 (n:Nat)))
 idx:∀ i:Int,0≤i→i<n→∃ cells,ka (bY P S) sl (.lit (.int .i64 i))=some (.cptr cells)∧∀ H,fN P T (.cptr cells) H=some (rv i.toNat)
 cl:AV.bf [sl]=true
end Go.AL
namespace Go.AL
open Go
variable [Dr]
section bw
variable {P:Program} {pf:FuncId→Bool} {S T:TypeId} {sl:AV} {n:Nat} {rv:Nat→AV} {ops0 ops1 ops2 bS:Array Oper}
theorem EV{E:Env}:∀{as d:List AV} {vs:List Value},ad E as vs→as.length=d.length→(∀(i:Nat) (b:AV),d[i]? = some b→b=.undef∨as[i]? = some b)→ad E d vs
 | [],[],[],_,_,_=>by simp[ad]
 | [],[],_::_,h,_,_=>by simp[ad]at h
 |_::_,[],_,_,h,_=>by simp at h
 | [],_::_,_,_,h,_=>by simp at h
 |_::_,_::_,[],h,_,_=>by simp[ad]at h
 | a::as,b::d,v::vs,h,g,hm=>by
  simp only[ad]at h⊢;refine⟨?_,EV h.2 (by simpa using g) fun i k q=>hm (i+1) k (by simpa using q)⟩;rcases hm 0 b rfl with rfl|e
  ·simp[rel]
  ·have e : a = b := by simpa using e
   rw[←e];exact h.1
def Env.eR(E:Env):Env:={ E with X:=⟨E.X.x,fun _=>False,E.X.r⟩ }
theorem EW{E:Env}(h:ar E.eR):gh E.eR E:=⟨rfl,rfl,aI _,fun b _ d=>⟨d,rfl⟩,h.X,rfl⟩
theorem tk{w:World}{X:XS}{l:List Deferred}(h:jc w X l)(g:∀ b,¬ X.z b):l=[]:=by
 cases l with
 |nil=>rfl
 | cons d l =>
  obtain⟨D,_,_,_,k⟩:=h.2 d cZ;exact(g D k).elim
theorem EX{J:Env→Prop}(q:∀ E E',J E→E.le E'→ar E'→E'.H=E.H→J E'){id:Nat}{ops:Array Oper}{fr fr':List AV}{E:Env}{a:Act}{Q:Exit→Act→World→Prop}(A:bj ⟨fr,E.H⟩ E.eR a)(B:J E)
  (h:eO P pf ops ops.toList ⟨fr,E.H⟩ ⟨fr',E.H⟩) (F:∀ g E',J E'→bj ⟨fr',E'.H⟩ E'.eR g→Q .normal g E'.w):(Code.region id ops false).wpIn (fz none) 0 P Q a E.w :=
 Kc A h (fun g w' hc=>by
  obtain⟨k,r',h1,d⟩:=hc;exact F g { w:=w',H:=E.H,loc:=k,X:=E.X.re r' } (q _ _ B ⟨d.past,d.size,d.same,d.own,d.live,⟨rfl,rfl⟩,d.rl,d.env⟩ (h1.heap.cP (EW (E:={ w:=w',H:=E.H,loc:=k,X:=E.X.re r' }) h1.heap)) rfl) h1) none
theorem EY{J:Env→Prop}(A:∀ E E',J E→E.le E'→ar E'→E'.H=E.H→J E'){ops:Array Oper}{l:List Oper}{k:Nat}{rest:List Nat}{fr fr':List AV}{E:Env}{a:Act}{Q:Exit→Act→World→Prop}
  (B:∀(j:Nat) (o:Oper),l[j]? = some o→ops[k+j]? = some o) (F:bj ⟨fr,E.H⟩ E.eR a) (I:J E)
  (h:eO P pf ops l ⟨fr,E.H⟩ ⟨fr',E.H⟩) (M:∀ g E',J E'→bj ⟨fr',E'.H⟩ E'.eR g→wpOpsIn (fz none) 0 P ops Q rest g E'.w):wpOpsIn (fz none) 0 P ops Q (i_ k l.length++rest) a E.w :=
 pq none l k _ _ E.eR a rest B h F (fun g w' hc=>by
  obtain⟨q,r',h1,d⟩:=hc;exact M g { w:=w',H:=E.H,loc:=q,X:=E.X.re r' } (A _ _ I ⟨d.past,d.size,d.same,d.own,d.live,⟨rfl,rfl⟩,d.rl,d.env⟩ (h1.heap.cP (EW (E:={ w:=w',H:=E.H,loc:=q,X:=E.X.re r' }) h1.heap)) rfl) h1)
theorem EZ{E E':Env}:∀{fr:List AV} {vs:List Value},ad E fr vs→(∀ b∈fr,b=.undef∨(∃ v,b=.lit v)∨∀ c,rel E b c→rel E' b c)→ad E' fr vs
 | [],[],_,_=>by simp[ad]
 | [],_::_,h,_=>by simp[ad]at h
 |_::_,[],h,_=>by simp[ad]at h
 | b::fr,v::vs,h,d=>by
  simp only[ad]at h⊢;refine⟨?_,EZ h.2 fun x g=>d x (List.mem_cons_of_mem _ g)⟩;rcases d b cZ with rfl|⟨u,rfl⟩|h'
  ·simp[rel]
  ·simpa only[rel]using h.1
  ·exact h' _ h.1
theorem gJ{ops:Array Oper}{o:Oper}{l:List Oper}{fr:List AV}{H:List af}{s':St}{v:AV}{d:Tmp}(h:Yields P pf ops o ⟨fr,H⟩ v H)(g:o.dst=some d)(h':eO P pf ops l ⟨fr.set d v,H⟩ s'):eO P pf ops (o::l) ⟨fr,H⟩ s' :=
 ⟨v, H, h, by
  simp only[St.put,je,g];exact h'⟩
theorem qV{ops:Array Oper}{s:St}:eO P pf ops [] s s:=rfl
theorem L7{t:TypeId}{k:Bool}{a b:Int}(h:az (a-b)=true):gD P .sub t k (.lit (.int .i64 a)) (.lit (.int .i64 b))=some (.lit (.int .i64 (a-b))):=by
 simp only[gD,ij,if_true,l9];rw[qB h]
theorem WX{t:TypeId}{k:Bool}{a b:Int}:gD P .geq t k (.lit (.int .i64 a)) (.lit (.int .i64 b))=some (.lit (.bool (decide (a ≥ b)))):=by
 simp only[gD,ij,if_true,l9]
theorem iQ{ops:Array Oper}{l:List Oper}(h:ops.toList=l)(i:Nat):ops[i]? = l[i]? := by rw[←h]; simp
theorem WY(W:wz P S T sl n rv){f:FuncId}{fn:Func}{r0 r1 r2 r3 b0 b1:Nat}(hf:P.funcs[f]? = some fn)(d:fn.body=some (wy ops0 ops1 ops2 bS r0 r1 r2 r3 b0 b1))(hn:fn.ntmps=19)(hr:fn.results=#[])(Y:wx S T ops0 ops1 ops2 bS)
  {l:Nat} (hlen:n≤1048576) (J:Nat→Env→Prop) (I:∀ k E,J k E→ar E) (B:∀ k E E',J k E→E.le E'→ar E'→E'.H=E.H→J k E')
  {c:Value}
  (hround:∀ k E (cs:Array Value),k<n→J k E→ad E [.lit (.int .i64 ((n:Int)-1-k)),rv (n-1-k)] cs.toList→YieldAt (fz none) 0 P l cs E.w fun e W'=>e=.returned (.bool true)∧∃ E',E'.w=W'∧J (k+1) E'∧E.bG E')
  {E0:Env} (h0:J 0 E0) (hcp:rel E0 (.cptr [sl]) c):CallsIn (fz none) 0 P f #[.func (.yield l) #[] #[],c] E0.w fun e W'=>(∃ v,e=.returned v)∧∃ E',E'.w=W'∧J n E':=by
 obtain⟨o1,o2,o3,o4,t1,t2,q0,⟨g1,p1,d1⟩,⟨g2,p2,d2⟩,⟨g3,p3,d3⟩,⟨g4,p4,d4⟩⟩:=Y.r0;refine callsIn_of_wp_marks hf d trivial ?_;have hin:∀ j:Int,0≤j→j≤n→az (j-1)=true:=fun j h1 h2=>Kn.2 ⟨by omega,by omega⟩;obtain⟨y,hy⟩:∃ y:AV,y=.lit (.func (.yield l) #[] #[]):=⟨_,rfl⟩
 obtain⟨cp,O⟩:∃ cp:AV,cp=.cptr [sl]:=⟨_,rfl⟩
 rw[←O]at hcp;have hs0:bj ⟨y::cp::cI 17 .undef,E0.H⟩ E0.eR { tmps:=#[.func (.yield l) #[] #[],c]++Array.replicate (fn.ntmps-2) undef,defers:=[] }:=by
  have hE0:ar E0.eR:=(I 0 E0 h0).cP (mn (I 0 E0 h0));refine⟨rfl,?_,lb _ _,hE0⟩;rw[hn];simp only[Array.toList_append,Array.toList_replicate];show ad E0.eR ([y,cp]++cI 17 .undef) ([.func (.yield l) #[] #[],c]++cI 17 undef)
  refine jd (by simp only[ad]; exact⟨by rw[hy]; simp[rel],sV (mn (I 0 E0 h0)) _ hcp,trivial⟩) ?_;exact qt (cI 17 undef)
 refine wpIn_seq (EX (pf:=fun _=>false) (J:=J 0) (B 0) hs0 h0 (fr':=[y,cp,.undef,.lit (.int .i64 ((n:Int)-1)),sl,.lit (.int .i64 (n:Int)),.lit (.int .i64 ((n:Int)-1)),.undef,.undef,.undef,.undef,.undef,.undef,.undef,.undef,.undef,.undef,.undef,.undef]) ?_ fun a1 E1 hj1 hs1=>?_)
 ·rw [q0]
  refine gJ (v:=sl) (Ay g1 (by rw[p1]; rfl) ?_) d1 (gJ (v:=.lit (.int .i64 (n:Int))) (jq g2 ?_ ?_) d2 (gJ (v:=.lit (.int .i64 ((n:Int)-1))) (jq g3 (by rw[p3]; rfl) ?_) d3
   (gJ (v:=.lit (.int .i64 ((n:Int)-1))) (jq g4 (by rw[p4]; rfl) ?_) d4 ?_)))
  ·rw [p1]
   show fN P S cp E0.H=_
   rw[O];exact W.load _
  ·rw [p2]
   rfl
  ·rw [p2]
   show yW (bY P S) sl=_
   exact W.len
  ·rw [p3]
   exact L7 (P:=P) (t:=t1) (k:=mg (Operand.tmp 5)||mg (Operand.const (.int .i64 1))) (hin (n:Int) (by omega) (by omega))
  ·rw [p4]
   rfl
  ·exact qV
 have A:∀{E:Env} {a:Act} {fr:List AV} {i:AV},bj ⟨fr,E.H⟩ E.eR a→fr.length=19→fr[0]? = some y→fr[1]? = some cp→fr[3]? = some i→bj ⟨jP y cp i,E.H⟩ E.eR a:=by
  intro E a fr i h h19 e0 e1 e3;refine⟨rfl,EV h.fr (by rw[h19]; rfl) fun j b d=>?_,h.defers,h.heap⟩
  match j,d with
  |0,d=>exact .inr (by rw[e0]; exact d)
  |1,d=>exact .inr (by rw[e1]; exact d)
  |3,d=>exact .inr (by rw[e3]; exact d)
  |2,d=>exact .inl (by cases d; rfl)
  | j+4,d =>
   left;have hx:jP y cp i=[y,cp,.undef,i]++cI 15 .undef:=rfl;rw[hx,List.getElem?_append_right (by simp)]at d;have:=fK d;exact(List.mem_replicate.1 this).2
 refine wpIn_block (wpIn_loop (fun a w=>∃ k E,E.w=w∧k≤n∧J k E∧bj ⟨jP y cp (.lit (.int .i64 ((n:Int)-1-k))),E.H⟩ E.eR a)
  (fun a _=>match a.eval (.tmp 3)with | .int _ i=>(i+1).toNat|_=>0) ⟨0,E1,rfl,j5 _,hj1,A hs1 rfl rfl rfl (by simp)⟩ ?_)
 rintro a _ ⟨k,E,rfl,hkl,hj,hs⟩;obtain⟨i1,i2,t3,t4,qq1,⟨ga1,pa1,da1⟩,⟨ga2,pa2,da2⟩⟩:=Y.r1;obtain⟨j1,j2,j3,t5,t6,qq2,⟨gb1,pb1,db1⟩,⟨gb2,pb2,db2⟩,⟨gb3,pb3,db3⟩⟩:=Y.r2;obtain⟨u1,u2,u3,u4,u5,u6,M,u8,t7,tys,R,⟨gc1,pc1,dc1⟩,⟨gc2,pc2,dc2⟩,⟨gc3,pc3,dc3⟩,⟨gc4,pc4,dc4⟩,⟨gc5,pc5,dc5⟩,⟨gc6,pc6,dc6⟩,⟨gc7,pc7,dc7⟩,⟨gc8,pc8,dc8⟩⟩:=Y.r3;obtain⟨i,hi⟩:∃ i:Int,i=(n:Int)-1-k:=⟨_,rfl⟩
 rw[←hi]at hs;have hmu:a.eval (.tmp 3)=.int .i64 i:=by
  have:=hs.eval (.tmp 3);simpa[St.eval,jP,rel]using this
 refine wpIn_seq (wpIn_seq (EX (pf:=fun _=>false) (J:=J k) (B k) hs hj (fr':=((jP y cp (.lit (.int .i64 i))).set 7 (.lit (.int .i64 i))).set 8 (.lit (.bool (decide (i ≥ 0))))) ?_ fun a2 N hj2 hs2=>?_))
 ·rw [qq1]
  refine gJ (v:=.lit (.int .i64 i)) (jq ga1 (by rw[pa1]; rfl) (by rw[pa1]; rfl)) da1 (gJ (v:=.lit (.bool (decide (i ≥ 0)))) (jq ga2 (by rw[pa2]; rfl) ?_) da2 qV);rw[pa2];exact WX (P:=P) (t:=t3) (k:=mg (Operand.tmp 7)||mg (Operand.const (.int .i64 0)))
 have h8:a2.eval (.tmp 8)=.bool (decide (i ≥ 0)):=by
  have:=hs2.eval (.tmp 8);simpa[St.eval,jP,rel]using this
 by_cases U:i ≥ 0
 ·have hkl' : k < n := by omega
  refine wpIn_cond_true (by rw[h8]; simp[U]) (wpIn_skip ?_);have hs2':=A hs2 rfl rfl rfl rfl;show (Code.seq _ _).wpIn (fz none) 0 P _ _ _
  refine wpIn_seq (wpIn_block (wpIn_seq (wpIn_region ?_)));obtain⟨cells,hcells,hcell2⟩:=W.idx i U (by omega);have hsz:bS.size=8:=by
   have:bS.toList.length=8:=by rw[R]; rfl
   simpa using this
  rw[hsz];show wpOpsIn (fz none) 0 P bS _ (i_ 0 6++[6,7]) a2 N.w
  have hpos:∀(j:Nat) (o:Oper),[u1,u2,u3,u4,u5,u6][j]? = some o→bS[0+j]? = some o:=by
   intro j o F;rw[iQ R];have hlt:j<6:=by simpa using aJ F
   rw[Nat.zero_add,show [u1,u2,u3,u4,u5,u6,M,u8]=[u1,u2,u3,u4,u5,u6]++[M,u8] from rfl,dz (by simpa using hlt)];exact F
  refine EY (pf:=fun _=>false) (J:=J k) (l:=[u1,u2,u3,u4,u5,u6]) (k:=0) (B k) hpos hs2' hj2
   (fr':=[y,cp,.undef,.lit (.int .i64 i),.undef,.undef,.undef,.undef,.undef,.undef,.undef,y,.lit (.int .i64 i),sl,.lit (.int .i64 i),.cptr (cells),rv i.toNat,.undef,.undef]) ?_ fun a3 g hj3 q=>?_
  ·refine gJ (v:=y) (jq gc1 (by rw [pc1]; rfl) (by rw [pc1]; rfl)) dc1 (gJ (v:=.lit (.int .i64 i)) (jq gc2 (by rw [pc2]; rfl) (by rw [pc2]; rfl)) dc2 (gJ (v:=sl) (Ay gc3 (by rw [pc3]; rfl) ?_) dc3
    (gJ (v:=.lit (.int .i64 i)) (jq gc4 (by rw[pc4]; rfl) (by rw[pc4]; rfl)) dc4 (gJ (v:=.cptr (cells)) (jq gc5 (by rw[pc5]; rfl) ?_) dc5 (gJ (v:=rv i.toNat) (Ay gc6 (by rw[pc6]; rfl) ?_) dc6 qV)))))
   ·rw [pc3]
    show fN P S cp N.H=_
    rw[O];exact W.load _
   ·rw [pc5]
    exact hcells
   ·rw [pc6]
    exact hcell2 N.H
  ·have h11:a3.eval (.tmp 11)=.func (.yield l) #[] #[]:=by
    have:=q.eval (.tmp 11);rw[show St.eval _ (.tmp 11)=y from rfl,hy]at this;simpa only[rel]using this
   have hin2:i.toNat=n-1-k:=by omega
   have hE3:gh g.eR g:=EW q.heap;have hrel:ad g [.lit (.int .i64 ((n:Int)-1-k)),rv (n-1-k)] (#[a3.eval (.tmp 12),a3.eval (.tmp 16)]:Array Value).toList:=by
    rw[←hi,←hin2];simp only[ad];exact⟨sV hE3 _ (q.eval (.tmp 12)),sV hE3 _ (q.eval (.tmp 16)),trivial⟩
   obtain⟨fn',tmps',asg,bod,hy1,hR⟩:=hround k g _ hkl' hj3 hrel;rw[wpOpsIn_cons];unfold wpOpIn;have h6:bS[6]? = some M:=by rw[iQ R]; rfl
   simp only[h6];rw[if_pos (by simp[Region.wanted,gc7])];refine⟨fun _ _=>trivial,?_⟩;rw[Oper.semAt_eq _ _ _ (fun c e=>by rw[pc7]at e; cases e)];have hrun:(execOp a3.eval M).run P g.w=.ok (.round l fn' tmps' asg bod) g.w:=by
    obtain⟨dst,op,type,pos,after,guard⟩:=M;simp only[]at pc7;subst pc7;simp[execOp,resolve,h11,Cq,invoke,hy1]
   rw[hrun,Oper.uponIn_round];refine⟨fun h=>(by cases h),hR.mono ?_⟩;rintro e _ ⟨rfl,E',rfl,hj',hleC⟩;show wpOpsIn (fz none) 0 P bS _ (i_ 7 1++[]) _ E'.w
   rw[dc7];have hd3:a3.defers=[]:=tk q.defers fun _ h=>h;have hp:=(A q rfl rfl rfl rfl).ix 17 (v:=.lit (.bool true)) (u:=.bool true) (by simp[rel]);have hE':ar E'.eR:=(I (k+1) E' hj').cP (mn (I (k+1) E' hj'));have hs4:bj ⟨(jP y cp (.lit (.int .i64 i))).set 17 (.lit (.bool true)),E'.H⟩ E'.eR (a3.put (some 17) (.bool true)):=by
    refine⟨rfl,EZ hp.fr fun b d=>?_,?_,hE'⟩
    ·have d : b ∈ (jP y cp (.lit (.int .i64 i))).set 17 (.lit (.bool true)) := d
     rcases List.mem_or_eq_of_mem_set d with d|rfl
     ·simp only [jP, bI, List.not_mem_nil, or_false] at d
      rcases d with rfl|rfl|rfl|rfl|d
      ·exact .inr (.inl ⟨_,hy⟩)
      ·refine .inr (.inr fun c' h => ?_)
       rw[O]at h⊢;exact dI (E:=g.eR) (E':=E'.eR) ⟨fun b d=>hleC.ok b d⟩ _ (by simp[AV.closed]) h
      ·exact .inl rfl
      ·exact .inr (.inl ⟨_,rfl⟩)
      ·left
       rcases d with rfl|rfl|rfl|rfl|rfl|rfl|rfl|rfl|rfl|rfl|rfl|rfl|rfl|rfl|rfl<;>rfl
     ·exact .inr (.inl ⟨_,rfl⟩)
    ·rw [put_defers, hd3]
     exact lb _ _
   refine EY (pf:=fun _=>false) (J:=J (k+1)) (l:=[u8]) (k:=7) (B (k+1)) ?_ hs4 hj' (fr':=((jP y cp (.lit (.int .i64 i))).set 17 (.lit (.bool true))).set 18 (.lit (.bool false))) ?_ fun a5 E5 hj5 hs5=>?_
   ·intro j o F
    have hlt:j<1:=by simpa using aJ F
    have:j=0:=by omega
    subst this;rw[iQ R];exact F
   ·exact gJ (v:=.lit (.bool false)) (jq gc8 (by rw[pc8]; rfl) (by rw[pc8]; rfl)) dc8 qV
   ·show (Code.cond _ _ _).wpIn (fz none) 0 P _ _ _
    have h18:a5.eval (.tmp 18)=.bool false:=by
     have:=hs5.eval (.tmp 18);simpa[St.eval,jP,rel]using this
    refine wpIn_cond_false h18 (wpIn_skip ?_);show (Code.region _ _ _).wpIn (fz none) 0 P _ _ _
    refine EX (pf:=fun _=>false) (J:=J (k+1)) (B (k+1)) (A hs5 rfl rfl rfl rfl) hj5 (fr':=(((jP y cp (.lit (.int .i64 i))).set 9 (.lit (.int .i64 i))).set 10 (.lit (.int .i64 (i-1)))).set 3 (.lit (.int .i64 (i-1)))) ?_ fun a6 E6 hj6 hs6=>?_
    ·rw [qq2]
     refine gJ (v:=.lit (.int .i64 i)) (jq gb1 (by rw[pb1]; rfl) (by rw[pb1]; rfl)) db1 (gJ (v:=.lit (.int .i64 (i-1))) (jq gb2 (by rw[pb2]; rfl) ?_) db2 (gJ (v:=.lit (.int .i64 (i-1))) (jq gb3 (by rw[pb3]; rfl) (by rw[pb3]; rfl)) db3 qV));rw[pb2];exact L7 (P:=P) (t:=t5) (k:=mg (Operand.tmp 9)||mg (Operand.const (.int .i64 1))) (hin i U (by omega))
    ·have h3:a6.eval (.tmp 3)=.int .i64 (i-1):=by
      have:=hs6.eval (.tmp 3);simpa[St.eval,jP,rel]using this
     have e6:i-1=(n:Int)-1-((k+1:Nat):Int):=by omega
     refine⟨⟨k+1,E6,rfl,by omega,hj6,?_⟩,?_⟩
     ·rw [← e6]
      exact A hs6 rfl rfl rfl rfl
     ·rw [h3, hmu]
      show (i-1+1).toNat<(i+1).toNat
      omega
 ·refine wpIn_cond_false (by rw [h8]; simp [U]) (wpIn_exit ?_)
  simp only[Exit.then,IW,if_true];have hd:a2.defers=[]:=tk hs2.defers fun _ h=>h;have hk:k=n:=by omega
  subst hk;show LeavesInM (fz none) 0 P fn a2.tmps _ a2.defers .returning N.w
  rw[hd];refine⟨.tuple #[],?_,⟨_,rfl⟩,N,rfl,hj2⟩;rw[sU,hr];simp
end bw
end Go.AL

namespace Go.AL
open Go
variable [Dr]
mutual
def nE(m:Nat):AV→Bool
 |.agg cs=>kG m cs
 |.tuple cs=>kG m cs
 |.clo _ cs=>kG m cs
 |.ptr id ae _ _ _=>eE id m&&ab ae 0
 |.vec _ id ae _ _=>eE id m&&ab ae 0
 |.map id=>eE id m
 |_=>true
def kG(m:Nat):List AV→Bool
 | []=>true
 |a::as=>nE m a&&kG m as
end
mutual
theorem L8{E E':Env}{m:Nat}(h:E.dx m E'):∀(a:AV) {c:Value},nE m a=true→rel E a c→rel E' a c
 |.undef,_,_,_=>by simp[rel]
 |.lit v,c,_,hr=>by simpa only[rel]using hr
 |.nils,c,_,hr=>by simpa only[rel]using hr
 |.list k rows,c,_,hr=>dI (wm h) _ (by simp[AV.closed]) hr
 |.listF ks rows,c,_,hr=>dI (wm h) _ (by simp[AV.closed]) hr
 | .agg cells,c,d,hr=>by
  simp only[rel]at hr⊢;obtain⟨cs,e,h1,g⟩:=hr;exact⟨cs,e,h1,tn h cells (by simpa only[nE]using d) g⟩
 | .tuple cells,c,d,hr=>by
  simp only[rel]at hr⊢;obtain⟨cs,e,g⟩:=hr;exact⟨cs,e,tn h cells (by simpa only[nE]using d) g⟩
 |.cptr cells,c,_,hr=>dI (wm h) _ (by simp[AV.closed]) hr
 | .ptr id ae k row col,c,d,hr=>by
  simp only[nE,aw,gB]at d;obtain⟨h1,g⟩:=d;have g:=bt g;subst g;simp only[rel]at hr⊢;obtain⟨g1,g2,g3⟩:=hr;refine⟨g1,h.past id h1 g2,fun q=>?_⟩;obtain⟨A,B⟩:=h.live id h1 g2 q;rw[B];exact g3 A
 | .vec k id ae off n,c,d,hr=>by
  simp only[nE,aw,gB]at d;obtain⟨h1,g⟩:=d;have g:=bt g;subst g;simp only[rel]at hr⊢;obtain⟨g1,g2,g3⟩:=hr;refine⟨g1,h.past id h1 g2,fun q=>?_⟩;obtain⟨A,B⟩:=h.live id h1 g2 q;rw[B];exact g3 A
 | .map id,c,d,hr=>by
  simp only[nE,gB]at d;simp only[rel]at hr⊢;obtain⟨g1,g2,g3⟩:=hr;refine⟨g1,h.past id d g2,fun q=>?_⟩;obtain⟨A,B⟩:=h.live id d g2 q;rw[B];exact g3 A
 | .clo f caps,c,d,hr=>by
  simp only[rel]at hr⊢;obtain⟨cs,e,g⟩:=hr;exact⟨cs,e,tn h caps (by simpa only[nE]using d) g⟩
 |.ifc,c,_,hr=>by simpa only[rel]using hr
 |.emptyS n,c,_,hr=>by simpa only[rel]using hr
theorem tn{E E':Env}{m:Nat}(h:E.dx m E'):∀(as:List AV) {vs:List Value},kG m as=true→ad E as vs→ad E' as vs
 | [],[],_,_=>by simp[ad]
 | [],_::_,_,hr=>by simp[ad]at hr
 |_::_,[],_,hr=>by simp[ad]at hr
 | a::as,v::vs,d,hr=>by
  simp only[kG,aw]at d;simp only[ad]at hr⊢;exact⟨L8 h a d.1 hr.1,tn h as d.2 hr.2⟩
end
theorem Env.dx.mono{m m':Nat}{E E':Env}(h:E.dx m' E')(hm:m≤m'):E.dx m E' :=
 ⟨fun id hi=>h.past id (by omega),h.size,h.same,h.own,fun id hi=>h.live id (by omega),h.X,h.rl,h.env⟩
structure Env.lF (m l:Nat) (E E':Env):Prop where
 past:∀ id,id<m→E.past id 0→E'.past id 0
 size:E.w.heap.size≤E'.w.heap.size
 same:∀ b,b<E.w.heap.size→¬ E.own b→b≠l→E'.w.heap[b]? = E.w.heap[b]?
 own:∀ b,b<E.w.heap.size→¬ E.own b→¬ E'.own b
 live:∀ id,id<m→E.past id 0→E'.live id 0→E.live id 0∧E'.loc[id]? = E.loc[id]?
 X:∀ b,b<E.w.heap.size→(E'.X b↔E.X b)∧(E'.X.z b↔E.X.z b)
 rl:∀ l h,h<(E.X.r l).length→h<(E'.X.r l).length∧∀ q,(E'.X.r l)[h]? = some (some q)→(E.X.r l)[h]? = some (some q)
 env:dq E.w E'.w
theorem Env.dx.toX{m l:Nat}{E E':Env}(h:E.dx m E'):E.lF m l E':=⟨h.past,h.size,fun b d g _=>h.same b d g,h.own,h.live,h.X,h.rl,h.env⟩
theorem Env.lF.trans{m l:Nat}{E E' F:Env}(h:E.lF m l E')(h':E'.lF m l F):E.lF m l F where
 past:=fun id hi J=>h'.past id hi (h.past id hi J)
 size:=Nat.le_trans h.size h'.size
 same:=fun b d g k=>by rw[h'.same b (dN d h.size) (h.own b d g) k,h.same b d g k]
 own:=fun b d g=>h'.own b (dN d h.size) (h.own b d g)
 live:=fun id hi hid k=>by
  obtain⟨A,a2⟩:=h'.live id hi (h.past id hi hid) k;obtain⟨b1,B⟩:=h.live id hi hid A;exact⟨b1,by rw[a2,B]⟩
 X:=fun b d=>by
  have h1:=h'.X b (dN d h.size);have I:=h.X b d;exact⟨h1.1.trans I.1,h1.2.trans I.2⟩
 rl:=fun l i hi=>by
  obtain⟨A,a2⟩:=h.rl l i hi;obtain⟨b1,B⟩:=h'.rl l i A;exact⟨b1,fun q M=>a2 q (B q M)⟩
 env:=h.env.trans h'.env
theorem Env.lF.toM{m l:Nat}{E E':Env}(h:E.lF m l E')(g:l<E.w.heap.size→E'.w.heap[l]? = E.w.heap[l]?):E.dx m E' :=
 ⟨h.past, h.size, fun b d k => by
  by_cases e:b=l
  ·subst e
   exact g d
  ·exact h.same b d k e,h.own,h.live,h.X,h.rl,h.env⟩
theorem tq{w:World}{H:List af}{loc:List (Option (Nat × Nat))}{X:XS}{l:Nat}{o:Obj}(g:X l)(HE:ar { w:=w,H:=H,loc:=loc,X:=X }) :
  gh { w:=w,H:=H,loc:=loc,X:=X } { w:=w.putObj l o,H:=H,loc:=loc,X:=X } :=
 ⟨rfl, rfl, by simp, fun b _ d => ⟨d, IX fun e => d (by rw [e]; exact g)⟩, fun b k => by
  have:=HE.X b k;simpa using this,rfl⟩
theorem tt{m:Nat}{w:World}{H:List af}{loc:List (Option (Nat × Nat))}{X:XS}{l:Nat}{o:Obj}:({ w:=w,H:=H,loc:=loc,X:=X }:Env).lF m l { w:=w.putObj l o,H:=H,loc:=loc,X:=X } :=
 ⟨fun _ _ h=>h,by simp,fun b _ _ h=>IX h,fun _ _ h=>h,fun _ _ _ h=>⟨h,rfl⟩,fun _ _=>⟨Iff.rfl,Iff.rfl⟩,fun _ _ h=>⟨h,fun _ d=>d⟩,⟨rfl,rfl,rfl,by first|exact fun _=>aI _|exact fun _=>eL _ _⟩⟩
theorem Az{w:World}{X:XS}{l:Nat}{r:Loop}{o:Obj}{g:List Deferred}(h:jc w X g)(k:w.heap[l]? = some (.loop r)):jc (w.putObj l o) X g :=
 ⟨h.1, fun d q => by
  obtain⟨D,e,h1,A,B⟩:=h.2 d q;exact⟨D,e,by rw[IX (fun e=>by rw[e,k]at h1; cases h1)]; exact h1,A,B⟩⟩
end Go.AL

namespace Go.AL
open Go
variable [Dr]
structure wA (P:Program) (m:Nat) (n:Nat) (rv:Nat→AV) (p0 p1:Tmp) (assign body:Code) (S:Nat→St):Prop where
 na:d_ assign=true
 nb:d_ body=true
 fix:∀ k,k<n→kG m (S k).fr=true
 round:∀ k,k<n→∃ s1 s2,bU P m assign ⟨((S k).fr.set p0 (.lit (.int .i64 ((n:Int)-1-k)))).set p1 (rv (n-1-k)),(S k).H⟩ .normal s1∧bU P m body s1 .normal s2∧bL m ⟨(S k).fr,s2.H⟩ (S (k+1))
section bw
variable {P:Program} {m':Nat} {n:Nat} {rv:Nat→AV} {p0 p1:Tmp} {assign body:Code} {S:Nat→St}
theorem WZ(hr:wA P m' n rv p0 p1 assign body S){k:Nat}(hk:k<n){fn:FuncId}{D l:Nat}{a:Act}{tmps:Array Value}(htm:tmps=a.tmps){E:Env}(d:bj (S k) E a)(hX:E.X l)
  (J:E.w.heap[l]? = some (.loop { state:=.ready,pending:=none,fn,tmps,params:=#[p0,p1],assign,body,defers:=D })) {cs:Array Value} (hc:ad E [.lit (.int .i64 ((n:Int)-1-k)),rv (n-1-k)] cs.toList) :
  YieldAt (fz none) 0 P l cs E.w fun e W'=>e=.returned (.bool true)∧∃ E',E'.w=W'∧bj (S (k+1)) E' a∧E.dx m' E'∧E'.X l ∧
   E'.w.heap[l]? = some (.loop { state:=.ready,pending:=none,fn,tmps,params:=#[p0,p1],assign,body,defers:=D }):=by
 obtain⟨s1,s2,hA,hB,hle⟩:=hr.round k hk;obtain⟨q,c1,rfl⟩:∃ q c1,cs=#[q,c1]:=by
  have:=fv hc
  match h:cs.toList,this with
  | [q,c1],_=>exact⟨q,c1,eT (by simpa using h)⟩
 simp only[ad]at hc;obtain⟨hc0,hc1,_⟩:=hc;refine⟨_,_,_,_,run_yield J (by simp),roundIn_of_wpIn (F:=fz none) trivial ?_⟩;have U:l<E.w.heap.size:=(eP.1 J).1;have hs0:bj ⟨((S k).fr.set p0 (.lit (.int .i64 ((n:Int)-1-k)))).set p1 (rv (n-1-k)),(S k).H⟩ E { tmps:=(a.tmps.setIfInBounds p0 q).setIfInBounds p1 c1,defers:=[] }:=by
  refine⟨d.H,?_,lb _ _,d.heap⟩;simp only[Array.toList_setIfInBounds];exact vo p1 (vo p0 d.fr hc0) hc1
 have e0:((#[p0,p1]:Array Tmp).zip #[q,c1]).foldl (fun tmps (t,a)=>tmps.setIfInBounds t a) tmps=(a.tmps.setIfInBounds p0 q).setIfInBounds p1 c1:=by
  rw[htm];simp[←Array.foldl_toList]
 rw[e0];refine wpIn_mono (hA (some l) (.inr hr.na) E _ hs0) fun e a1 A ⟨he,loc1,X1,W,B⟩=>?_;subst he;have hno:¬ E.own l:=d.heap.j_ hX;have Y:A.heap[l]? = some (.loop { state:=.ready,pending:=none,fn,tmps,params:=#[p0,p1],assign,body,defers:=D }):=by rw[B.same l U hno]; exact J
 have hX1:X1 l:=(B.X l U).1.2 hX;have O:l<A.heap.size:=(eP.1 Y).1;refine⟨_,run_beginRound Y rfl,?_⟩;have hs1':=W.cP (tq (o:=.loop { state:=.busy,pending:=none,fn,tmps,params:=#[p0,p1],assign,body,defers:=D }) hX1 W.heap) (Az W.defers Y);refine wpIn_mono (hB (some l) (.inr hr.nb) _ a1 hs1') fun e a2 w3 ⟨he,iR,M,hs2,R⟩=>?_;subst he;have hno1:¬ Env.own { w:=A,H:=s1.H,loc:=loc1,X:=X1 } l:=B.own l U hno;have hl3:w3.heap[l]? = some (.loop { state:=.busy,pending:=none,fn,tmps,params:=#[p0,p1],assign,body,defers:=D }):=by
  rw[R.same l (by show l<(A.putObj _ _).heap.size; simpa using O) hno1];exact I2 O
 have hX2:M l:=(R.X l (by show l<(A.putObj _ _).heap.size; simpa using O)).1.2 hX1;have hlt3:l<w3.heap.size:=(eP.1 hl3).1;refine⟨_,_,run_endRound (P:=P) none hl3,rfl,?_⟩;obtain⟨g,I⟩:∃ g,w3.putObj l (.loop { state:=.ready,pending:=none,fn,tmps,params:=#[p0,p1],assign,body,defers:=D })=g:=⟨_,rfl⟩
 have hl4:g.heap[l]? = some (.loop { state:=.ready,pending:=none,fn,tmps,params:=#[p0,p1],assign,body,defers:=D }):=by
  rw[←I];exact I2 hlt3
 have N:E.dx m' { w:=g,H:=s2.H,loc:=iR,X:=M }:=by
  refine Env.lF.toM (l:=l) (B.toX.trans (tt.trans (R.toX.trans ?_))) (fun _=>by rw[show Env.w _=g from rfl,hl4,J]);rw[←I];exact tt
 have hR4:ar { w:=g,H:=s2.H,loc:=iR,X:=M }:=by
  rw[←I];exact hs2.heap.cP (tq hX2 hs2.heap)
 have hsr:bj ⟨(S k).fr,s2.H⟩ { w:=g,H:=s2.H,loc:=iR,X:=M } a:=by
  refine⟨rfl,tn N _ (hr.fix k hk) d.fr,uX d.defers (fun b h1 h2=>?_) (fun b h1 _=>N.same b (d.heap.X b h1) (d.heap.j_ h1)),hR4⟩;have:=N.X b (d.heap.X b h1);exact⟨this.1.2 h1,this.2.2 h2⟩
 obtain⟨loc7,X7,hs7,hle7⟩:=hle _ a hsr;refine⟨{ w:=g,H:=(S (k+1)).H,loc:=loc7,X:=X7 },?_,hs7,N.trans hle7,(hle7.X l (by show l<g.heap.size; exact(eP.1 hl4).1)).1.2 hX2,hl4⟩;rw[←I];rfl
theorem W0{T1 T2:TypeId}{sl:AV}{ops0 ops1 ops2 bS:Array Oper}{m:Nat}(hT:wz P T1 T2 sl n rv){f:FuncId}{fd:Func}{r0 r1 r2 r3 b0 b1:Nat}(hf:P.funcs[f]? = some fd)(hbd:dE P f=true)(F:fd.body=some (wy ops0 ops1 ops2 bS r0 r1 r2 r3 b0 b1))(hn:fd.ntmps=19)(hre:fd.results=#[])(R:wx T1 T2 ops0 ops1 ops2 bS)
  (hlen:n≤1048576) (hmm:m≤m') (hr:wA P m' n rv p0 p1 assign body S) {g:Tmp} {s:St} {id wd:Nat} (hg:s.eval (.tmp g)=.clo f [.ptr id 0 wd 0 0]) (hid:s.H[id]? = some (.box [sl])) (h0:bL m ⟨s.fr,s.H.set id .dead⟩ (S 0))
  (E:Env) (a:Act) (B:bj s E a):(Code.rangeFunc (.tmp g) #[p0,p1] assign body).wpIn (fz none) 0 P (fun e a1 A=>e=.normal∧dt m E (S n) a1 A) a E.w:=by
 have Y:=B.eval (.tmp g);rw[hg]at Y;simp only[rel]at Y;obtain⟨cs,Y,hcs⟩:=Y;obtain⟨c,rfl⟩:∃ c,cs=#[c]:=by
  have:=fv hcs
  match h:cs.toList,this with
  | [c],_=>exact⟨c,eT (by simpa using h)⟩
 simp only[ad,rel]at hcs;obtain⟨⟨⟨bc,oc,hc0⟩,_,hlive⟩,_⟩:=hcs;have hidE:E.H[id]? = some (.box [sl]):=by rw[B.H]; exact hid
 obtain⟨bb,nn,W,hcv⟩:=hlive ⟨_,hidE,rfl⟩;obtain⟨D,hD⟩:∃ D,E.w.heap.size=D:=⟨_,rfl⟩
 have hobj:=B.heap.obj id _ hidE;simp only[aO]at hobj;obtain⟨b',n',hloc',hrow,hcells⟩:=hobj;rw[W]at hloc';obtain⟨rfl,rfl⟩:bb=b'∧nn=n':=by
  have h:=hloc';simp only[aT,aZ]at h;exact h
 have M:=Env.uW B.heap id;have hdr:=ar.drop B.heap id fun o R=>by
  rw[hidE]at R;cases R;rfl
 have hcp0:rel { w:=E.w,H:=E.H.set id .dead,loc:=E.loc.set id none,X:=E.X } (.cptr [sl]) c:=by
  simp only[rel];refine⟨hT.cl,bb,0,by simpa using hcv,⟨(B.heap.lt id bb nn W).1,?_,(B.heap.lt id bb nn W).2⟩,uV (E:=E) (fun a c h=>cC M a h) rfl hcells⟩;rintro(⟨j,q,N⟩|⟨l,k,q,N⟩)
  case inr=>exact B.heap.dj _ _ _ _ _ _ W N
  simp only[List.getElem?_set]at N;split at N
  ·split at N<;>cases N
  ·rename_i hne
   exact hne (B.heap.inj _ _ _ _ _ W N)
 refine wpIn_rangeFunc ?_;intro fn _;obtain⟨rec,O⟩:∃ rec:Loop,rec={ state:=.ready,pending:=none,fn,tmps:=a.tmps,params:=#[p0,p1],assign,body,defers:=D }:=⟨_,rfl⟩
 obtain⟨A,hw1⟩:∃ A,(E.w.alloc (.deferred (some []))).alloc (.loop rec)=A:=⟨_,rfl⟩
 have hsz:A.heap.size=D+2:=by rw[←hw1,l4,l4,hD]
 have hl1:A.heap[D+1]? = some (.loop rec):=by
  rw[←hw1];have:=Cy (E.w.alloc (.deferred (some []))) (.loop rec)
  rwa [l4,hD]at this
 have hold2:∀ b,b<D+1→A.heap[b]? = (E.w.alloc (.deferred (some []))).heap[b]? := fun b F=>by
  rw[←hw1];show ((E.w.alloc (.deferred (some []))).heap.push _)[b]? = _
  rw[pY,if_neg (by rw[l4,hD]; omega)]
 have hD1:A.heap[D]? = some (.deferred (some [])):=by
  rw[hold2 D (by omega)];have:=Cy E.w (.deferred (some []))
  rwa [hD]at this
 have hold:∀ b,b<D→A.heap[b]? = E.w.heap[b]? := fun b F=>by
  rw[hold2 b (by omega)];show (E.w.heap.push _)[b]? = _
  rw[pY,if_neg (by omega)]
 have hos:dq E.w A:=by rw[←hw1]; exact⟨rfl,rfl,rfl,by first|exact fun _=>aI _|exact fun _=>eL _ _⟩
 obtain⟨J,I⟩:∃ J:XS,J=⟨fun b=>E.X b∨b=D∨b=D+1,fun b=>E.X.z b∨b=D,E.X.r⟩:=⟨_,rfl⟩
 obtain⟨mk,hmk⟩:∃ mk:Deferred,mk={ target:=.collected D,args:=#[] }:=⟨_,rfl⟩
 have cP:gh { w:=E.w,H:=E.H.set id .dead,loc:=E.loc.set id none,X:=E.X } { w:=A,H:=E.H.set id .dead,loc:=E.loc.set id none,X:=J } :=
  ⟨rfl, rfl, by show E.w.heap.size ≤ A.heap.size; omega, fun b F hx => by
   have F:b<D:=by rw[←hD]; exact F
   refine⟨fun h=>?_,hold b F⟩;rw[I]at h;rcases h with h|h|h
   ·exact hx h
   ·omega
   ·omega,fun b F=>by
   show b<A.heap.size
   rw[I]at F;rcases F with h|h|h
   ·have := B.heap.X b h
    omega
   ·omega
   ·omega,by show J.r=E.X.r; rw[I]⟩
 have hs2:bj ⟨s.fr,s.H.set id .dead⟩ { w:=A,H:=E.H.set id .dead,loc:=E.loc.set id none,X:=J } { a with defers:=mk::a.defers }:=by
  refine⟨by rw[B.H],ml cP _ (eM M _ B.fr),⟨?_,fun d M=>?_⟩,hdr.cP cP⟩
  ·refine List.nodup_cons.2 ⟨fun h => ?_, B.defers.1⟩
   obtain⟨U,e,h1,h2,_⟩:=B.defers.2 mk h;have:=B.heap.X U h2;rw[hmk]at e;have e:D=U:=by
    have e:=congrArg Deferred.target e;simpa using e
   omega
  ·rcases bI.1 M with rfl | M
   ·exact⟨D,hmk,hD1,by rw[I]; exact .inr (.inl rfl),by rw[I]; exact .inr rfl⟩
   ·obtain ⟨U, e, h1, h2, h3⟩ := B.defers.2 d M
    have:=B.heap.X U h2;exact⟨U,e,by rw[show Env.w _=A from rfl,hold U (by omega)]; exact h1,by rw[I]; exact .inl h2,by rw[I]; exact .inl h3⟩
 have hle2:E.dx m { w:=A,H:=E.H.set id .dead,loc:=E.loc.set id none,X:=J }:=by
  refine M.toM.trans ⟨fun _ _ h=>h,by show E.w.heap.size≤A.heap.size; omega,fun b F _=>hold b (by rw[←hD]; exact F),fun b _ h R=>h ((cP.own b).1 R),fun _ _ _ h=>⟨h,rfl⟩,fun b F=>?_,fun l h hh=>by show h<(J.r l).length∧_; rw[I]; exact⟨hh,fun _ hq=>hq⟩,hos⟩;have F:b<D:=by rw[←hD]; exact F
  show (J b↔E.X b)∧(J.z b↔E.X.z b)
  rw[I];exact⟨⟨fun h=>by rcases h with h|h|h; exact h; omega; omega,.inl⟩,⟨fun h=>by rcases h with h|h; exact h; omega,.inl⟩⟩
 obtain⟨my,X3,hs3,hle3⟩:=h0 _ _ hs2;have hX3:X3 (D+1):=(hle3.X (D+1) (by show D+1<A.heap.size; omega)).1.2 (by show J (D+1); rw[I]; exact .inr (.inr rfl));have hcp3:rel { w:=A,H:=(S 0).H,loc:=my,X:=X3 } (.cptr [sl]) c:=dI (wm hle3) _ (by simp[AV.closed]) (dI cP.toC _ (by simp[AV.closed]) hcp0);refine⟨D+1,[mk],A,{ target:=.fn (.func f) #[c],args:=#[.func (.yield (D+1)) #[] #[]] },A,f,#[.func (.yield (D+1)) #[] #[],c],A,?_,?_,fun _ _=>trivial,?_,fun h=>(by cases h),?_⟩
 ·rw [← hw1, O, hmk, ← hD]
  exact run_enterLoop_outer _ _ _ _ _
 ·have hcst : a.eval (.const (.func (.yield (D + 1)) #[] #[])) = .func (.yield (D + 1)) #[] #[] := rfl
  simp[resolve,Y,hcst,Cq]
 ·simp[invoke,sM hbd]
 ·have hcall:=WY (P:=P) hT hf F hn hre R (l:=D+1) hlen (fun k E'=>bj (S k) E' { a with defers:=mk::a.defers }∧E.dx m E'∧E'.X (D+1)∧E'.w.heap[D+1]? = some (.loop rec)) (fun k E' h=>h.1.heap)
   (fun k E1 E2 h hle hR hH=>?_) (c:=c) (fun k E' cs hk h hc=>?_) (E0:={ w:=A,H:=(S 0).H,loc:=my,X:=X3 }) ⟨hs3,hle2.trans hle3,hX3,hl1⟩ hcp3
  ·refine hcall.mono fun e w3 ⟨⟨v, hv⟩, E4, hw4, hs4, hle4, hX4, hl4⟩ => ?_
   subst hv;subst hw4;obtain⟨w4,H4,loc4,X4⟩:=E4;have hH4:H4=(S n).H:=hs4.H;subst hH4;have hend:=run_endLoop (P:=P) hl4 (by rw[O]; simp);refine⟨_,_,hend,?_⟩;rw[O];refine⟨rfl,loc4,X4,?_,?_⟩
   ·rw [← O]
    exact hs4.cP (tq hX4 hs4.heap) (Az hs4.defers hl4)
   ·exact(hle4.toX.trans tt).toM (l:=D+1) (fun h=>absurd h (by omega))
  ·obtain ⟨g1, g2, g3, g4⟩ := h
   have hlt:D+1<E1.w.heap.size:=(eP.1 g4).1;refine⟨⟨by rw[hH]; exact g1.H,eM hle _ g1.fr,sr g1.heap hle g1.defers,hR⟩,g2.trans hle.toM,by rw[hle.X.1]; exact g3,?_⟩;rw[hle.same (D+1) hlt (g1.heap.j_ g3)];exact g4
  ·obtain ⟨g1, g2, g3, g4⟩ := h
   rw[O]at g4;obtain⟨fn',tm,as,bo,k1,k2⟩:=WZ hr hk rfl g1 g3 g4 hc;refine⟨fn',tm,as,bo,k1,k2.mono fun e W' ⟨he,E'',hw,q1,q2,q3,q4⟩=>⟨he,E'',hw,⟨q1,g2.trans (q2.mono hmm),q3,by rw[O]; exact q4⟩,wm q2⟩⟩
end bw
end Go.AL

namespace Go.AL
open Go
variable [Dr]
variable {P:Program}
theorem L9{m m' n:Nat}{rv:Nat→AV}{p0 p1:Tmp}{assign body:Code}{S:Nat→St}{T1 T2:TypeId}{sl:AV}{ops0 ops1 ops2 bS:Array Oper}(B:wz P T1 T2 sl n rv){f:FuncId}{fd:Func}{r0 r1 r2 r3 b0 b1:Nat}(F:P.funcs[f]? = some fd)(d:dE P f=true)
  (I:fd.body=some (wy ops0 ops1 ops2 bS r0 r1 r2 r3 b0 b1)) (hn:fd.ntmps=19) (k:fd.results=#[]) (J:wx T1 T2 ops0 ops1 ops2 bS)
  (hlen:n≤1048576) (q:m≤m') (hr:wA P m' n rv p0 p1 assign body S) {g:Tmp} {s:St} {id wd:Nat} (M:s.eval (.tmp g)=.clo f [.ptr id 0 wd 0 0]) (hid:s.H[id]? = some (.box [sl])) (h0:bL m ⟨s.fr,s.H.set id .dead⟩ (S 0)) :
  bU P m (.rangeFunc (.tmp g) #[p0,p1] assign body) s .normal (S n):=fun ro A E a N=>by
 obtain rfl:ro=none:=A.resolve_right (by simp[d_]);exact wpIn_mono (W0 B F d I hn k J hlen q hr M hid h0 E a N) fun e O R ⟨he,h⟩=>⟨he,h⟩
structure jr where
 f:FuncId
 T1:TypeId
 T2:TypeId
 w:Nat
 pw:Nat
 agg:Bool
def pB(P:Program)(i:jr):Prop:=∃ fd ops0 ops1 ops2 bS r0 r1 r2 r3 b0 b1 e b,P.funcs[i.f]? = some fd∧dE P i.f=true∧fd.body=some (wy ops0 ops1 ops2 bS r0 r1 r2 r3 b0 b1)∧fd.ntmps=19∧fd.results=#[]∧wx i.T1 i.T2 ops0 ops1 ops2 bS ∧
 eo P i.T1=some (1,false)∧bY P i.T1=.slice e i.w b∧eo P i.T2=some (i.pw,i.agg)
def mz(agg:Bool)(w:Nat)(row:List AV):AV:=(fM agg w row).getD .undef
theorem W1{i:jr}{e b:Nat}{rows:List (List AV)}(h1:eo P i.T1=some (1,false))(g:bY P i.T1=.slice e i.w b)(F:eo P i.T2=some (i.pw,i.agg)) (hr:(rows.all fun r=>(fM i.agg i.pw r).isSome)=true) :
  wz P i.T1 i.T2 (.list i.w rows) rows.length (fun k=>mz i.agg i.pw (rows.getD k [])):=by
 refine⟨fun H=>?_,?_,fun k A B=>?_,by simp[AV.bf,AV.closed]⟩
 ·simp[fN,h1,fM]
 ·rw [g]
  rfl
 ·have d : k.toNat < rows.length := by omega
  refine⟨rows[k.toNat],?_,fun H=>?_⟩
  ·rw [g]
   simp only[ka];rw[if_pos ⟨trivial,A,B⟩,bE d];rfl
  ·have := dX.1 hr rows[k.toNat] (sb d)
   obtain⟨v,q⟩:=n_.1 this;simp only[fN,F,q];unfold mz;rw[cH,bE d,Option.getD_some,q];rfl
def AA(P:Program)(τ:ah)(p0 p1:Tmp)(assign body:Code)(fr:List AV):List (Int × AV)→List ak→(List ak→Tree)→Tree
 | [],H,k=>k H
 | (i,v)::q,H,k=>bQ P τ au assign ⟨(fr.set p0 (.lit (.int .i64 i))).set p1 v,H⟩ fun x s1=>match x with
  | .normal=>bQ P τ au body s1 fun x s2=>match x with
   |.normal=>AA P τ p0 p1 assign body fr q s2.H k
   |_=>.fail
  |_=>.fail
theorem L_(hm:P.follows .mixedOrders=true){τ:ah}(A:ai P τ){p0 p1:Tmp}{assign body:Code}{fr:List AV}{Q:bk→al→Prop}{k:List ak→Tree}(m:Nat):∀(q:List (Int × AV)) (H:List ak),(AA P τ p0 p1 assign body fr q H k).holds Q →
  ∃ f:Nat→List ak,f 0=H∧(∀ j d,q[j]? = some d→∃ s1 s2:al,bU P m assign ⟨(fr.set p0 (.lit (.int .i64 d.1))).set p1 d.2,aj (f j)⟩ .normal s1.den∧bU P m body s1.den .normal s2.den∧f (j+1)=s2.H)∧(k (f q.length)).holds Q
 | [],H,h=>⟨fun _=>H,rfl,fun j d g=>by simp at g,h⟩
 | (i,v)::q,H,h=>by
  simp only[AA]at h;obtain⟨x,s1,h1,B⟩:=dK hm A assign _ _ (aG P m assign) h;cases x with
  | normal =>
   obtain⟨x,s2,I,F⟩:=dK hm A body _ _ (aG P m body) B;cases x with
   | normal =>
    obtain⟨f,g1,g2,g3⟩:=L_ hm A m q s2.H F;refine⟨fun j=>match j with|0=>H|j+1=>f j,rfl,fun j d g=>?_,g3⟩;cases j with
    | zero =>
     simp only[List.getElem?_cons_zero,aT]at g;subst g;exact⟨s1,s2,h1,I,g1⟩
    |succ j=>exact g2 j d (by simpa using g)
   |exit _=>exact F.elim
   |ret=>exact F.elim
  |exit _=>exact B.elim
  |ret=>exact B.elim
def AB(agg:Bool)(w:Nat)(rows:List (List AV)):List (Int × AV):=(fp rows.length).map fun(k:Nat)=>((rows.length:Int)-1-k,mz agg w (rows.getD (rows.length-1-k) []))
def E7(P:Program)(τ:ah)(i:jr)(m:Nat)(c:Code)(s:al):Option Tree :=
 match c with
 | .seq (.seq r3 (.block _ (.rangeFunc (.tmp g) ps assign body))) rest=>match ps.toList,d_ assign&&d_ body with
  | [p0,p1],true=>some (bQ P τ au r3 s fun x s1=>match x with
   | .normal=>match s1.fr.getD g .undef with
    | .clo f [.ptr id 0 _ 0 0]=>match s1.H[id]? with
     | some (.raw (.box [.list w rows]))=>.side (ab f i.f&&(ab w i.w&&(cR rows.length 1048576&&((rows.all fun r=>(fM i.agg i.pw r).isSome)&&(kG s1.H.length s1.fr&&cR m s1.H.length)))))
       (AA P τ p0 p1 assign body s1.fr (AB i.agg i.pw rows) (s1.H.set id (.raw .dead)) fun H=>bQ P τ au rest ⟨s1.fr,H⟩ .done)
     |_=>.fail
    |_=>.fail
   |_=>.fail)
  |_,_=>none
 |_=>none
theorem W2(hm:P.follows .mixedOrders=true){τ:ah}(A:ai P τ){i:jr}(hi:pB P i){m:Nat}{c:Code}{s:al}{t:Tree}(h:E7 P τ i m c s=some t):zw P m c s t:=by
 unfold E7 at h;split at h
 case h_2=>cases h
 rename_i r3 b g ps assign body rest;split at h
 case h_2=>cases h
 rename_i p0 p1 R q;cases h;intro Q U;have O:ps=#[p0,p1]:=eT (by simpa using R);subst O;simp only[aw]at q;obtain⟨x,s1,h1,d⟩:=dK hm A r3 s _ (aG P m r3) U;cases x with
 |exit _=>exact d.elim
 |ret=>exact d.elim
 | normal =>
  simp only[]at d;split at d
  case h_2=>exact d.elim
  rename_i f id wd W;split at d
  case h_2=>exact d.elim
  rename_i w rows hid;simp only[Tree.holds,aw]at d;obtain⟨⟨B,I,J,Y,k5,M⟩,h3⟩:=d;have B:=bt B;have I:=bt I;have J:=j9 J;have M:=j9 M;subst B;subst I;obtain⟨F,f0,f1,f2⟩:=L_ hm A s1.H.length _ _ h3;obtain⟨x,s',N,h5⟩:=dK hm A rest _ _ (aG P m rest) f2;refine⟨x,s',?_,h5⟩;obtain⟨fd,ops0,ops1,ops2,bS,r0,r1,r2,r3',b0,b1,e,bb,q1,q2,q3,q4,q5,q6,q7,q8,q9⟩:=hi;have hlen:(AB i.agg i.pw rows).length=rows.length:=by simp[AB]
  have hR:wA P s1.H.length rows.length (fun k=>mz i.agg i.pw (rows.getD k [])) p0 p1 assign body (fun k=>⟨s1.fr,aj (F k)⟩):=by
   refine⟨q.1,q.2,fun k _=>k5,fun k hk=>?_⟩;obtain⟨a1,a2,g1,g2,g3⟩:=f1 k ((rows.length:Int)-1-k,mz i.agg i.pw (rows.getD (rows.length-1-k) [])) (by
    simp[AB,hk])
   refine⟨a1.den,a2.den,g1,g2,?_⟩;rw[g3];exact bL.refl _
  have hS:=L9 (m:=m) (m':=s1.H.length) (P:=P) (W1 q7 q8 q9 Y) q1 q2 q3 q4 q5 q6 J M hR (g:=g) (s:=s1.den) (id:=id) (wd:=wd) W (bl hid) (by
   rw[f0,eu];exact bL.refl _)
  have hB:bU P m (.block b (.rangeFunc (.tmp g) #[p0,p1] assign body)) s1.den .normal ⟨s1.fr,aj (F rows.length)⟩:=DA (x:=.normal) hS;rw[hlen]at N;exact sS (sS h1 hB) N
def E8(P:Program)(τ:ah)(i:jr)(m key:Nat)(fn:Func):LT:=⟨fun _ _=>none,fun _ s=>(true,s),fun k s=>match ab k key with
 |true=>E7 P τ i m (cutAt fn key) s
 |false=>none⟩
theorem W3(hm:P.follows .mixedOrders=true){τ:ah}(d:ai P τ){i:jr}(hi:pB P i){m key:Nat}{fn:Func} (hn:lB key (bA (aN fn))=true):ay P m (E8 P τ i m key fn) (aN fn) :=
 ⟨fun _ _ _ _ _ h => (nomatch h), fun _ _ _ => bL.refl _, fun k g hk s t h => by
  simp only[E8]at h;split at h
  ·rename_i e
   have e:=bt e;subst e;rw[ED hn hk];exact W2 hm d hi h
  ·cases h⟩
end Go.AL

namespace Go.AL
open Go
variable [Dr]
def L'(P:Program)(i:jr):Bool :=
 (match eo P i.T1 with
 |some (n,a)=>ab n 1 && !a
 |none=>false)&&((match bY P i.T1 with
 |.slice _ w _=>ab w i.w
 |_=>false)&&(match eo P i.T2 with
 |some (n,a)=>ab n i.pw&&(a==i.agg)
 |none=>false))
theorem Ma{P:Program}{i:jr}{fd:Func}{ops0 ops1 ops2 bS:Array Oper}{r0 r1 r2 r3 b0 b1:Nat}(q:P.funcs[i.f]? = some fd)(A:dE P i.f=true)(hc:fd.body=some (wy ops0 ops1 ops2 bS r0 r1 r2 r3 b0 b1))(hn:fd.ntmps=19)(hr:fd.results=#[])(B:wx i.T1 i.T2 ops0 ops1 ops2 bS)
  (k:L' P i=true):pB P i:=by
 unfold L' at k;simp only[aw]at k;obtain⟨h1,d,g⟩:=k;split at h1
 case h_2=>cases h1
 rename_i n a F;split at d
 case h_2=>cases d
 rename_i e w b I;split at g
 case h_2=>cases g
 rename_i M N J;simp only[aw,Bool.not_eq_true',beq_iff_eq]at h1 g;obtain⟨g1,g2⟩:=h1;obtain⟨g3,g4⟩:=g;have g1:=bt g1;have g3:=bt g3;have d:=bt d;subst g1;subst g2;subst g3;subst g4;subst d;exact⟨fd,ops0,ops1,ops2,bS,r0,r1,r2,r3,b0,b1,e,b,q,A,hc,hn,hr,B,F,I,J⟩
def ah.AD(P:Program)(τ:ah)(i:jr)(key:Nat)(f:FuncId)(fn:Func) (ks:List (Option (List Kd))):ah:=τ.add f fun args =>
 match (zC P τ (E8 P τ i 0 key fn) fn ks args []).val with
 | some v=>match AV.bf args&&v.closed with
  |true=>some (true,v)
  |false=>none
 |none=>none
theorem ai.AD{P:Program}{τ:ah}(h:ai P τ)(hm:P.follows .mixedOrders=true){i:jr}(hi:pB P i){key:Nat}{f:FuncId}{fn:Func}(g:P.funcs[f]? = some fn)(k:dE P f=true) (hn:lB key (bA (aN fn))=true) (ks:List (Option (List Kd))) :
  ai P (τ.AD P i key f fn ks):=h.add k fun args b v hc _=>by
 split at hc
 ·rename_i u hu
  split at hc
  ·rename_i d
   simp only[aw]at d;cases hc;exact dV hm h ks (fun c hc=>by
    have:=W3 (m:=0) hm h hi hn;unfold aN at this;rw[hc]at this;exact this) g d.1 d.2 hu
  ·cases hc
 ·cases hc
def wB:ak→Bool
 |.vec _ v _=>ab v 0
 |.map ..=>true
 |.a7 ..=>true
 |.raw (.vec _ v _)=>ab v 0
 |.raw .dead=>false
 |.raw _=>true
theorem Mb{H:List ak}(h:H.all wB=true):y5 (aj H):=by
 intro o d;obtain⟨t,g,rfl⟩:=List.mem_map.1 d;have:=dX.1 h t g;cases t with
 |vec ks v rows=>simp only[wB]at this; rw[bt this]; rfl
 |map=>rfl
 |a7=>rfl
 | raw o=>cases o with
  |vec k v rows=>simp only[wB]at this; rw[bt this]; rfl
  |dead=>cases this
  |box=>rfl
  |map=>rfl
  |iter=>rfl
  |eQ=>rfl
  |a7=>rfl
def Mc(P:Program)(τ:ah)(fn:Func)(args:List AV)(H:List ak):Option (Bool × AV × List ak) :=
 match H.all wB with
 | true=>match (bQ P τ au (aN fn) ⟨dY args fn.ntmps,H⟩ .done).fk with
  | some (.normal,s')=>match fP P s'.den fn.results.toList with
   |some vs=>some (true,ct vs,s'.H)
   |none=>none
  | some (.ret,s')=>match fP P s'.den fn.results.toList with
   |some vs=>some (true,ct vs,s'.H)
   |none=>none
  |_=>none
 |false=>none
def ah.cy(P:Program)(τ:ah)(f:FuncId)(fn:Func):ah where
 pf g:=match ab g f with
  |true=>false
  |false=>τ.pf g
 T g as:=match ab g f with
  |true=>none
  |false=>τ.T g as
 W g as H:=match ab g f with
  |true=>Mc P τ fn as H
  |false=>τ.W g as H
 C g as H:=match ab g f with
  |true=>fp H.length
  |false=>τ.C g as H
 I:=τ.I
 N g:=match ab g f with
  |true=>false
  |false=>τ.N g
 U g:=match ab g f with
  |true=>true
  |false=>τ.U g
theorem ai.cy{P:Program}{τ:ah}(h:ai P τ)(hm:P.follows .mixedOrders=true){f:FuncId}{fn:Func}(Y:P.funcs[f]? = some fn)(hb:dE P f=true)(O:fn.body.isSome=true):ai P (τ.cy P f fn):=by
 refine⟨fun g as b v d N=>?_,fun g as H b v H' d N=>?_,fun g as H b v H' d A q k=>?_,fun g as H t d Q hQ=>?_,?_⟩
 rotate_left 4
 ·refine ⟨fun g B as H => ?_, fun g J as H b v H' d id o k hid => ?_⟩
  ·simp only [ah.cy] at B ⊢
   cases e:ab g f with
   |true=>rw[e]at B; cases B
   | false =>
    rw[e]at B;exact h.F.1 g B as H
  ·simp only [ah.cy] at J d hid ⊢
   cases e:ab g f with
   |true=>rw[e]at J; cases J
   | false =>
    rw[e]at J d hid;exact h.F.2 g J as H b v H' d id o k hid
 rotate_left 3
 ·obtain ⟨g1, v, H', g2, g3, g4⟩ := h.I g as H t d Q hQ
  refine⟨g1,v,H',g2,fun A q k=>g3 A (fun hm=>q ?_) k,g4⟩;simp only[ah.cy];split
  ·exact ja.2 k
  ·exact hm
 ·simp only [ah.cy] at d
  split at d
  ·cases d
  ·exact h.T g as b v d N
 ·simp only [ah.cy] at d
  split at d
  ·rename_i e
   have e:=bt e;subst e;refine⟨hb,?_⟩;obtain⟨c,hc⟩:=n_.1 O;have R:aN fn=c:=by unfold aN; rw[hc]
   unfold Mc at d;rw[R]at d;split at d
   case h_2=>cases d
   rename_i U;have key:∀{x:bk} {s':al} {vs:List AV},(bQ P τ au c ⟨dY as fn.ntmps,H⟩ .done).fk=some (x,s')→(x=.normal∨x=.ret)→fP P s'.den fn.results.toList=some vs→cg P g as (aj H) (ct vs) (aj s'.H):=by
    intro x s' vs h1 hx M;obtain⟨x1,s1,h3,h4⟩:=dK hm h c ⟨dY as fn.ntmps,H⟩ .done (aG P (aj H).length c) (pt h1);obtain⟨rfl,rfl⟩:=h4;exact Ki Y hc h3 hx M (Mb U)
   split at d
   ·rename_i s' h1
    split at d
    ·rename_i vs M
     cases d;exact key h1 (.inl rfl) M
    ·cases d
   ·rename_i s' h1
    split at d
    ·rename_i vs M
     cases d;exact key h1 (.inr rfl) M
    ·cases d
   ·cases d
  ·exact h.W g as H b v H' d N
 ·simp only [ah.cy] at d q
  split at d
  ·rename_i e
   rw[e]at q;exact(q (ja.2 k)).elim
  ·rename_i e
   rw[e]at q;exact h.C g as H b v H' d A q k
def Md(P:Program)(τ:ah)(fn:Func)(args:List AV)(H:List ak):Option Tree :=
 match H.all wB with
 | true=>some (bQ P τ au (aN fn) ⟨dY args fn.ntmps,H⟩ fun x s=>match x with
  | .normal=>match fP P s.den fn.results.toList with
   |some vs=>.done .normal ⟨[ct vs],s.H⟩
   |none=>.fail
  | .ret=>match fP P s.den fn.results.toList with
   |some vs=>.done .normal ⟨[ct vs],s.H⟩
   |none=>.fail
  |.exit _=>.fail)
 |false=>none
def ah.mA(P:Program)(τ:ah)(f:FuncId)(fn:Func):ah where
 pf g:=match ab g f with
  |true=>false
  |false=>τ.pf g
 T g as:=match ab g f with
  |true=>none
  |false=>τ.T g as
 W g as H:=match ab g f with
  |true=>none
  |false=>τ.W g as H
 C g as H:=match ab g f with
  |true=>fp H.length
  |false=>τ.C g as H
 I g as H:=match ab g f with
  |true=>Md P τ fn as H
  |false=>τ.I g as H
 N g:=match ab g f with
  |true=>false
  |false=>τ.N g
 U g:=match ab g f with
  |true=>true
  |false=>τ.U g
theorem ai.mA{P:Program}{τ:ah}(h:ai P τ)(hm:P.follows .mixedOrders=true){f:FuncId}{fn:Func}(hf:P.funcs[f]? = some fn)(hb:dE P f=true)(Y:fn.body.isSome=true):ai P (τ.mA P f fn):=by
 refine⟨fun g as b v d O=>?_,fun g as H b v H' d O=>?_,fun g as H b v H' d A B q=>?_,fun g as H t d Q R=>?_,?_⟩
 rotate_left 4
 ·refine ⟨fun g J as H => ?_, fun g M as H b v H' d id o q hid => ?_⟩
  ·simp only [ah.mA] at J ⊢
   cases e:ab g f with
   |true=>rw[e]at J; cases J
   | false =>
    rw[e]at J;exact h.F.1 g J as H
  ·simp only [ah.mA] at M d hid ⊢
   cases e:ab g f with
   |true=>rw[e]at M; cases M
   | false =>
    rw[e]at M d hid;exact h.F.2 g M as H b v H' d id o q hid
 ·simp only [ah.mA] at d
  split at d
  ·cases d
  ·exact h.T g as b v d O
 ·simp only [ah.mA] at d
  split at d
  ·cases d
  ·exact h.W g as H b v H' d O
 ·simp only [ah.mA] at d B
  split at d
  ·cases d
  ·rename_i e
   rw[e]at B;exact h.C g as H b v H' d A B q
 ·simp only [ah.mA] at d ⊢
  split at d
  ·rename_i e
   have e:=bt e;subst e;refine⟨hb,?_⟩;obtain⟨c,hc⟩:=n_.1 Y;have hbo:aN fn=c:=by unfold aN; rw[hc]
   unfold Md at d;rw[hbo]at d;split at d
   case h_2=>cases d
   rename_i hfr;cases d;obtain⟨U,s1,h3,k⟩:=dK hm h c ⟨dY as fn.ntmps,H⟩ _ (aG P (aj H).length c) R;have key:∀ vs,(U=.normal∨U=.ret)→fP P s1.den fn.results.toList=some vs→Q .normal ⟨[ct vs],s1.H⟩→∃ v H',cg P g as (aj H) v (aj H')∧(∀ A,¬ A∈fp H.length→A<H.length→H'[A]? = H[A]?)∧Q .normal ⟨[v],H'⟩:=fun vs hx N hq =>
    ⟨ct vs,s1.H,Ki hf hc h3 hx N (Mb hfr),fun A B q=>(B (ja.2 q)).elim,hq⟩
   split at k
   ·split at k
    ·rename_i vs N
     exact key vs (.inl rfl) N k
    ·exact k.elim
   ·split at k
    ·rename_i vs N
     exact key vs (.inr rfl) N k
    ·exact k.elim
   ·exact k.elim
  ·rename_i e
   obtain⟨g1,v,H',g2,g3,g4⟩:=h.I g as H t d Q R;exact⟨g1,v,H',g2,fun A B q=>g3 A (fun hm=>B hm) q,g4⟩
end Go.AL

namespace Go.AL
open Go Go.ChangeMaps
variable [Dr]
def eB.tu(sp:eB)(s:al)(b:Nat):al:=⟨s.fr.set sp.it (.lit (.pointer (some ⟨b,0,none⟩))),s.H⟩
section range
variable {P:Program} {τ:ah} {L:LT} {m:Nat} {sp:eB} {ops0 ops1 ops2:Array Oper} {body:Code} {ri:List G→List (List G)} {ci:List G→Nat}
def Me(m:Nat)(sp:eB)(ri:List G→List (List G))(ci:List G→Nat)(E:Env)(rows:List (List G))(d0:List G)(itb mb nn clock:Nat)(a:Act)(w:World):Prop :=
 ∃(d:List G) (loc:List (Option (Nat × Nat))) (X:XS) (seen:Array Nat) (last:Nat) (p:List (List G)),
  cQ sp.st sp.br p d0=some d∧sp.br d=itb∧(p++rows.filter fun x => !seen.contains (cd x)).Perm rows ∧
  bj (aM sp.inv d).den { w:=w,H:=(aM sp.inv d).den.H,loc:=loc,X:=X } a∧E.dx m { w:=w,H:=(aM sp.inv d).den.H,loc:=loc,X:=X }∧X itb ∧
  w.heap[itb]? = some (.mapIter (some mb) clock seen last)∧clock≤last∧ri d=rows∧ci d=clock∧loc[sp.id]? = some (some (mb,nn))
theorem W4(hm:P.follows .mixedOrders=true)(ht:ai P τ)(hL:ay P m L body)(hr:lE P τ L m sp ops2 body)(ho:wq P sp ops0 ops1 ops2)
  (hu1:∀ d,(aM sp.inv d).fr[sp.t1]? = some .undef) (hu2:∀ d,(aM sp.inv d).fr[sp.t2]? = some .undef) (hut:∀ d,(aM sp.inv d).fr[sp.it]? = some (.lit (.pointer (some ⟨sp.br d,0,none⟩))))
  {E:Env} {rows:List (List G)} {d0:List G} {itb mb clock:Nat} {nn:Nat} {r1 b0 b1 r2:Nat}
  (hid2:∀ d,(aM sp.inv d).H[sp.id]? = some (.map sp.K sp.V (ri d) (ci d))) (hkeep:∀ r d d',sp.st r d=some d'→ri d'=ri d∧ci d'=ci d) (him:sp.id<m) (hsz:E.w.heap.size≤itb) (hn:(rows.map cd).Nodup) (hlt:∀ r∈rows,cd r<clock)
  (hfold:∀ p,p.Perm rows→(cQ sp.st sp.br p d0).isSome=true) {a:Act} {w:World} (hI:Me m sp ri ci E rows d0 itb mb nn clock a w) (ro:Option Nat) (hro:fg ro body) :
  (Code.loop (.seq (.region r1 ops1 false) (.seq (.cond (.tmp sp.t2) .skip (.exit b0)) (.block b1 (.seq (.region r2 ops2 false) body))))).wpIn (fz ro) 0 P
   (fun e a1 J=>e=.exit b0∧∃ p d,p.Perm rows∧cQ sp.st sp.br p d0=some d∧dt m E (aM sp.inv d).den a1 J) a w:=by
 obtain⟨o1,o2,e1,g1,p1,q1,g2,p2,q2⟩:=ho.r1;obtain⟨o3,l,e3,g3,p3,q3⟩:=ho.r2;refine wpIn_loop (Me m sp ri ci E rows d0 itb mb nn clock) (fun _ w=>(rows.filter fun x => !(w.iterSeen itb).contains (cd x)).length) hI fun a w hI=>?_;obtain⟨d,loc,X,seen,last,p,hf,had,hp,q,hle,U,hit,hcl,hriD,hciD,hlo⟩:=hI;have hidd:=hid2 d;rw[hriD,hciD]at hidd;have hob:=q.heap.obj sp.id _ (bl hidd);simp only[ak.den,aO]at hob;obtain⟨k,nn',ms,hlo',hmb,hre⟩:=hob;have hmbe:k=mb:=by
  have h:=hlo';rw[hlo]at h;simp only[aT,aZ]at h;exact h.1.symm
 subst hmbe;have hne:k≠itb:=fun e=>(q.heap.lt sp.id k nn hlo).2 (by rw[e]; exact U);have h10:ops1[0]? = some o1:=by
  have:ops1.toList[0]? = some o1:=by rw[e1]; rfl
  simpa using this
 have h11:ops1[1]? = some o2:=by
  have:ops1.toList[1]? = some o2:=by rw[e1]; rfl
  simpa using this
 have hsz1:ops1.size=2:=by
  have:ops1.toList.length=2:=by rw[e1]; rfl
  simpa using this
 have hiv:a.eval (.tmp sp.it)=.pointer (some ⟨itb,0,none⟩):=by
  have h:=q.eval (.tmp sp.it);have e:(aM sp.inv d).den.eval (.tmp sp.it)=.lit (.pointer (some ⟨sp.br d,0,none⟩)):=by
   show (aM sp.inv d).fr.getD sp.it .undef=_
   rw[cH,hut d];rfl
  rw[e]at h;simp only[rel]at h;rw[h,had]
 obtain⟨hlen,hen⟩:=fF.1 hre;have hl1:(cN sp.K sp.V rows).length=rows.length:=by simp[cN]
 have M:∀(i:Nat) (e:MapEntry),ms.toList[i]? = some e→∃ r,rows[i]? = some r∧e.born=cd r:=by
  intro i e hi;have h1:=aJ hi;have A:i<rows.length:=by omega
  refine⟨rows[i],bE A,?_⟩;exact(hen i (sp.K.av (gi rows[i] 0).row,sp.V.av (gi rows[i] 1).row,(gi rows[i] 2).int.toNat) e (by simp[cN,A]) hi).2.2.1
 have hold:∀ x∈ms.toList,x.born<clock:=by
  intro x I;obtain⟨i,hi⟩:=od I;obtain⟨r,h1,A⟩:=M i x hi;rw[A];exact hlt r (fK h1)
 have hbn:(ms.toList.map (·.born)).Nodup:=by
  have:ms.toList.map (·.born)=rows.map cd:=by
   apply List.ext_getElem?;intro i;simp only[List.getElem?_map];cases hi:ms.toList[i]? with
   | none =>
    have h1:=List.getElem?_eq_none_iff.1 hi;rw[List.getElem?_eq_none (by omega)];rfl
   | some e =>
    obtain⟨r,h1,A⟩:=M i e hi;rw[h1];simp[A]
  rw[this];exact hn
 refine wpIn_seq (wpIn_region ?_);rw[hsz1];show wpOpsIn (fz ro) 0 P ops1 _ [0,1] a w
 rw[wpOpsIn_cons];have hlt1:=Al q (hu1 d);have hlt2:=Al q (hu2 d);rcases run_next_at (P:=P) w o1.type itb k clock last seen ms clock hit hmb hold hcl with⟨h0,hrun⟩|⟨e,he,J,hw1,hrun⟩
 ·refine kE h10 g1 (An p1 hiv hrun) (fun c e => by rw [p1] at e; cases e) ro ?_
  rw[q1,wpOpsIn_cons];refine kE h11 g2 (Am p2 (pr hlt1) rfl) (fun c e=>by rw[p2]at e; cases e) ro ?_;rw[q2];show (Code.seq _ _).wpIn (fz ro) 0 P _ _ w
  refine wpIn_seq (wpIn_cond_false (pr (by simpa[Act.put]using hlt2)) (wpIn_exit ?_));refine⟨rfl,p,d,?_,hf,loc,X,?_,hle⟩
  ·have:(rows.filter fun x => !seen.contains (cd x))=[]:=by
    rw[List.filter_eq_nil_iff];intro x I hc;obtain⟨i,hi⟩:=od I;have h1:=aJ hi;have A:i<ms.toList.length:=by omega
    obtain⟨r,h3,h4⟩:=M i _ (bE A);rw[hi]at h3;cases h3;have:ms.toList[i]∈(leftOf ms seen).toList:=by
     unfold leftOf;rw[Array.toList_filter];refine List.mem_filter.2 ⟨sb A,?_⟩;rw[h4];exact hc
    have h5:(leftOf ms seen).toList.length=0:=by simpa using h0
    rw[List.length_eq_zero_iff.1 h5]at this;cases this
   rwa [this,List.append_nil]at hp
  ·exact(q.pv (hu1 d) (.tuple #[.bool false])).pv (hu2 d) (.bool false)
 ·refine kE h10 g1 (An p1 hiv hrun) (fun c e => by rw [p1] at e; cases e) ro ?_
  rw[q1,wpOpsIn_cons];refine kE h11 g2 (Am p2 (pr hlt1) rfl) (fun c e=>by rw[p2]at e; cases e) ro ?_;rw[q2];show (Code.seq _ _).wpIn (fz ro) 0 P _ _ _
  refine wpIn_seq (wpIn_cond_true (pr (by simpa[Act.put]using hlt2)) (wpIn_skip ?_));show (Code.block _ _).wpIn (fz ro) 0 P _ _ _
  refine wpIn_block (wpIn_seq (wpIn_region ?_));generalize W:setBlock J itb (.mapIter (some k) clock (seen.push e.born) clock)=g;have O:J.heap=w.heap:=by rcases hw1 with rfl|rfl<;>rfl
  have hos:dq w g:=by rw[←W]; rcases hw1 with rfl|rfl<;>exact⟨rfl,rfl,rfl,by first|exact fun _=>aI _|exact fun _=>eL _ _⟩
  have hit2':g.heap[itb]? = some (.mapIter (some k) clock (seen.push e.born) clock):=by
   rw[←W];exact(I3 (by rw[O]; exact hit)).1
  have N:∀ b,b≠itb→g.heap[b]? = w.heap[b]? := by
   intro b B;rw[←W];show (J.heap.setIfInBounds itb _)[b]? = _
   rw[(I3 (by rw[O]; exact hit)).2 b B,O]
  have hsize:g.heap.size=w.heap.size:=by
   rw[←W];show (J.heap.setIfInBounds itb _).size=_
   simp[O]
  have hmb2:g.heap[k]? = some (.map ms clock):=by rw[N k hne]; exact hmb
  have cP:gh { w:=w,H:=(aM sp.inv d).den.H,loc:=loc,X:=X } { w:=g,H:=(aM sp.inv d).den.H,loc:=loc,X:=X } :=
   ⟨rfl,rfl,by show w.heap.size≤g.heap.size; omega,fun b B I=>⟨I,N b (fun e=>I (by rw[e]; exact U))⟩,fun b B=>by show b<g.heap.size; rw[hsize]; exact q.heap.X b B,rfl⟩
  have hmk:jc g X a.defers:=⟨q.defers.1,fun dd hdd=>by
   obtain⟨D,e,h1,A,h3⟩:=q.defers.2 dd hdd;exact⟨D,e,by rw[N D (fun e=>by rw[e]at h1; rw[hit]at h1; cases h1)]; exact h1,A,h3⟩⟩
  have hs1:=((q.cP cP hmk).pv (hu1 d) (.tuple #[.bool true,e.key,e.val])).pv (hu2 d) (.bool true);obtain⟨hem,hes⟩:=mem_left he;obtain⟨i,hi⟩:=od hem;obtain⟨r,hri,Y⟩:=M i e hi;have hrm:=fK hri;have hre2:=tc cP.toC hre;obtain⟨k1,k2,_⟩:=(fF.1 hre2).2 i (sp.K.av (gi r 0).row,sp.V.av (gi r 1).row,(gi r 2).int.toNat) e (by simp[cN,hri]) hi;have hiv1:((a.put (some sp.t1) (.tuple #[.bool true,e.key,e.val])).put (some sp.t2) (.bool true)).eval (.tmp sp.it)=.pointer (some ⟨itb,0,none⟩):=by
   have h:=hs1.eval (.tmp sp.it);have e:(aM sp.inv d).den.eval (.tmp sp.it)=.lit (.pointer (some ⟨sp.br d,0,none⟩)):=by
    show (aM sp.inv d).fr.getD sp.it .undef=_
    rw[cH,hut d];rfl
   rw[e]at h;simp only[rel]at h;rw[h,had]
  have h20:ops2[0]? = some o3:=by
   have:ops2.toList[0]? = some o3:=by rw[e3]; rfl
   simpa using this
  have hl2:ops2.toList.drop 1=l:=by rw[e3]; rfl
  have hsz2:ops2.size=l.length+1:=by
   have:ops2.toList.length=l.length+1:=by rw[e3]; rfl
   simpa using this
  have hlp:(p++(r::rows.filter fun x => !(seen.push (cd r)).contains (cd x))).Perm rows :=
   (List.Perm.append_left p (wo hn hrm (by rw[←Y]; exact hes)).symm).trans hp
  have F:∃ d',sp.st r d=some d'∧sp.br d'=sp.br d:=by
   have h:=hfold _ hlp;rw[ER,hf]at h;simp only[ym,cQ]at h;cases F:sp.st r d with
   |none=>rw[F]at h; cases h
   | some d' =>
    rw[F]at h;simp only[]at h;cases B:ab (sp.br d') (sp.br d)with
    |true=>exact⟨d',rfl,bt B⟩
    |false=>rw[B]at h; cases h
  obtain⟨d',F,had'⟩:=F;have hf':cQ sp.st sp.br (p++[r]) d0=some d':=by
   rw[ER,hf];simp only[ym,cQ,F,had'];simp
  obtain⟨s4,ha4,hsat⟩:=WU hm ht hL hr F;rw[hsz2,Cs,List.range'_succ,wpOpsIn_cons];refine kE h20 g3 (L3 p3 hiv1 (run_entry_at (P:=P) g itb k clock seen ms clock e hit2' hmb2 hem hbn)) (fun c e=>by rw[p3]at e; cases e) ro ?_;rw[q3];have hs3:=hs1.ix sp.t3 (v:=.tuple [sp.K.av (gi r 0).row,sp.V.av (gi r 1).row]) (u:=.tuple #[e.key,e.val]) (by simp only[rel]; exact⟨_,rfl,by simp only[ad]; exact⟨k1,k2,trivial⟩⟩);refine Dw (pf:=τ.pf) (ops:=ops2) l (0+1) (sp.rs r d).den s4.den { w:=g,H:=(aM sp.inv d).den.H,loc:=loc,X:=X } _ (by rw[←hl2]) (by rw[hl2]at ha4; exact ha4) hs3 (fun a3 w3 hc3=>?_) ro;obtain⟨my,r3,hs4,hle3⟩:=hc3;show body.wpIn (fz ro) 0 P _ a3 w3
  refine wpIn_mono (hsat ro hro { w:=w3,H:=s4.den.H,loc:=my,X:=X.re r3 } a3 hs4) fun x a4 w4 I=>?_;obtain⟨rfl,loc4,X4,hs5,hle4⟩:=I;have R:({ w:=g,H:=(aM sp.inv d).den.H,loc:=loc,X:=X }:Env).dx m { w:=w4,H:=(aM sp.inv d').den.H,loc:=loc4,X:=X4 }:=hle3.toM.trans hle4;have hXsz:itb<g.heap.size:=th hit2';have hnown:¬ Env.own { w:=g,H:=(aM sp.inv d).den.H,loc:=loc,X:=X } itb:=by
   exact(q.heap.cP cP).j_ U
  have hmbsz:k<g.heap.size:=th hmb2;have hit4:w4.heap[itb]? = some (.mapIter (some k) clock (seen.push e.born) clock):=by rw[R.same itb hXsz hnown]; exact hit2'
  obtain⟨hk1,hk2⟩:=hkeep r d d' F;have hidd':=hid2 d';rw[hk1,hk2,hriD,hciD]at hidd';have hlive:=(R.live sp.id him ⟨_,bl hidd,fun v _=>j5 v⟩ ⟨_,bl hidd',rfl⟩).2;refine⟨⟨d',loc4,X4,seen.push e.born,clock,p++[r],hf',by rw[had',had],?_,hs5,?_,(R.X itb hXsz).1.2 U,hit4,aI _,by rw[hk1,hriD],by rw[hk2,hciD],?_⟩,?_⟩
  ·rw [Y, List.append_assoc]
   exact hlp
  ·refine Env.dx.trans (E' := { w := g, H := (aM sp.inv d).den.H, loc := loc, X := X }) ⟨hle.past, ?_, ?_, hle.own, hle.live, hle.X, hle.rl, hle.env.trans hos⟩ R
   ·have := hle.size
    show E.w.heap.size≤g.heap.size
    rw[hsize];exact this
   ·intro b B hbo
    show g.heap[b]? = _
    rw[N b (by omega)];exact hle.same b B hbo
  ·rw [show loc4[sp.id]? = loc[sp.id]? from hlive]
   exact hlo
  ·show (rows.filter fun x => !(w4.iterSeen itb).contains (cd x)).length < (rows.filter fun x => !(w.iterSeen itb).contains (cd x)).length
   rw[Ao hit4,Ao hit];have:=(wo hn hrm (by rw[←Y]; exact hes)).length_eq;rw[←Y]at this;simp only[List.length_cons]at this;omega
theorem W5(hm:P.follows .mixedOrders=true)(ht:ai P τ)(hL:ay P m L body)(hr:lE P τ L m sp ops2 body)(ho:wq P sp ops0 ops1 ops2)
  (hu1:∀ d,(aM sp.inv d).fr[sp.t1]? = some .undef) (hu2:∀ d,(aM sp.inv d).fr[sp.t2]? = some .undef) (hut:∀ d,(aM sp.inv d).fr[sp.it]? = some (.lit (.pointer (some ⟨sp.br d,0,none⟩))))
  {r1 b0 b1 r2:Nat} (U:∀ d,(aM sp.inv d).H[sp.id]? = some (.map sp.K sp.V (ri d) (ci d))) (hkeep:∀ r d d',sp.st r d=some d'→ri d'=ri d∧ci d'=ci d) (him:sp.id<m)
  {s:al} {d:List G} {rows:List (List G)} {clock:Nat} (J:s.eval (.tmp sp.y)=.map sp.id) (hid:s.H[sp.id]? = some (.map sp.K sp.V rows clock)) (hn:(rows.map cd).Nodup)
  (hlt:∀ r∈rows,cd r<clock) (hin:∀ b,gY m sp.inv sp.ps (gH sp.opens (sp.tu s b))=some (true,sp.init d b)) (hadr:∀ b,sp.br (sp.init d b)=b) (B:∀ b,ri (sp.init d b)=rows∧ci (sp.init d b)=clock)
  (hfold:∀ b p,p.Perm rows→(cQ sp.st sp.br p (sp.init d b)).isSome=true) (E:Env) (a:Act) (q:bj s.den E a) (ro:Option Nat) (hro:fg ro body) {Q:Exit→Act→World→Prop}
  (hQ:∀ M N,(∃ b p d',p.Perm rows∧cQ sp.st sp.br p (sp.init d b)=some d'∧dt m E (aM sp.inv d').den M N)→Q .normal M N) :
  wpOpsIn (fz ro) 0 P ops0 (Exit.then ((Code.block b0 (.loop (.seq (.region r1 ops1 false) (.seq (.cond (.tmp sp.t2) .skip (.exit b0)) (.block b1 (.seq (.region r2 ops2 false) body)))))).wpIn (fz ro) 0 P Q) Q) [ops0.toList.dropLast.length] a E.w:=by
 obtain⟨o2,ty,e1,g2,p2,q2,I⟩:=ho.r0;have h11:ops0[ops0.toList.dropLast.length]? = some o2:=by
  have:ops0.toList[ops0.toList.dropLast.length]? = some o2:=by
   rw[e1];simp
  simpa using this
 have W:E.H[sp.id]? = some (.map (cN sp.K sp.V rows) clock):=by
  rw[q.H];exact bl hid
 have hrx:rel E (.map sp.id) (a.eval (.tmp sp.y)):=by
  have:=q.eval (.tmp sp.y)
  rwa [al.nv,J]at this
 obtain⟨mb,n,ms,hc,hloc,hmb,hre⟩:=sJ q.heap W hrx;obtain⟨⟨kt,et⟩,I⟩:=n_.1 I;have hmbs:mb<E.w.heap.size:=th hmb;rw[wpOpsIn_cons];refine kE h11 g2 (L4 p2 hc (run_range_map E.w ty kt et mb ms clock (iN I) hmb)) (fun c e=>by rw[p2]at e; cases e) ro ?_;rw[q2];show (Code.block _ _).wpIn (fz ro) 0 P _ _ _
 generalize F:E.w.alloc (.mapIter (some mb) clock #[] clock)=g;have hsize:g.heap.size=E.w.heap.size+1:=by rw[←F]; show (E.w.heap.push _).size=_; simp
 have hold:∀ b,b<E.w.heap.size→g.heap[b]? = E.w.heap[b]? := fun b k=>by rw[←F]; exact(show (E.w.heap.push _)[b]? = _ by rw[pY,if_neg (by omega)])
 have hitn:g.heap[E.w.heap.size]? = some (.mapIter (some mb) clock #[] clock):=by rw[←F]; exact(show (E.w.heap.push _)[E.w.heap.size]? = _ by simp)
 have hos:dq E.w g:=by rw[←F]; exact⟨rfl,rfl,rfl,by first|exact fun _=>aI _|exact fun _=>eL _ _⟩
 have cP:gh { w:=E.w,H:=E.H,loc:=E.loc,X:=E.X } { w:=g,H:=E.H,loc:=E.loc,X:=E.X.or fun b=>b=E.w.heap.size } :=
  ⟨rfl, rfl, by show E.w.heap.size ≤ g.heap.size; omega, fun b k J => ⟨fun h => h.elim J (fun e => absurd k (by rw [e]; exact Cw _)), hold b k⟩, fun b k => by
   show b<g.heap.size
   rcases k with k|k
   ·have := q.heap.X b k
    omega
   ·omega,rfl⟩
 have hs3:=(q.cP cP (uX (X':=E.X.or fun b=>b=E.w.heap.size) (w':=g) q.defers (fun _ h1 O=>⟨.inl h1,O⟩) fun b h1 _=>hold b (q.heap.X b h1))).ix sp.it (v:=.lit (.pointer (some ⟨E.w.heap.size,0,none⟩))) (u:=.pointer (some ⟨E.w.heap.size,0,none⟩)) (by simp only[rel]);have hs3':bj (sp.tu s E.w.heap.size).den { w:=g,H:=E.H,loc:=E.loc,X:=E.X.or fun b=>b=E.w.heap.size } _:=hs3;obtain⟨loc,X4,hs4,A⟩:=((lA sp.opens _).trans (jm (hin E.w.heap.size))) _ _ hs3';have Y:=U (sp.init d E.w.heap.size);rw[(B _).1,(B _).2]at Y;have hlive:=(A.live sp.id him ⟨_,W,fun v _=>j5 v⟩ ⟨_,bl Y,rfl⟩).2;refine wpIn_block (wpIn_mono (W4 hm ht hL hr ho hu1 hu2 hut (ri:=ri) (ci:=ci) (E:=E) (rows:=rows) (d0:=sp.init d E.w.heap.size) (itb:=E.w.heap.size) (mb:=mb) (nn:=n) (clock:=clock)
  U hkeep him (aI _) hn hlt (hfold _) ?_ ro hro) fun e M N R=>?_)
 ·refine ⟨sp.init d E.w.heap.size, loc, X4, #[], clock, [], rfl, hadr _, ?_, hs4, ?_, (A.X E.w.heap.size (by show _ < g.heap.size; omega)).1.2 (.inr rfl), ?_, aI _, (B _).1, (B _).2, ?_⟩
  ·have : (rows.filter fun x => !(#[] : Array Nat).contains (cd x)) = rows := List.filter_eq_self.2 (fun x _ => by simp)
   rw[List.nil_append,this]
  ·refine Env.dx.trans (E' := { w := g, H := E.H, loc := E.loc, X := E.X.or fun b => b = E.w.heap.size }) ⟨fun _ _ h => h, ?_, ?_, fun b _ h => h, fun _ _ _ h => ⟨h, rfl⟩, fun b k => ⟨⟨fun h => h.elim id fun e => absurd k (by rw [e]; exact Cw _), .inl⟩, Iff.rfl⟩, fun _ _ h => ⟨h, fun _ R => R⟩, hos⟩ A
   ·show E.w.heap.size ≤ g.heap.size
    omega
   ·exact fun b k _=>hold b k
  ·rw [A.same E.w.heap.size (by show _ < g.heap.size; omega) ?_]
   ·exact hitn
   ·exact(q.heap.cP cP).j_ (.inr rfl)
  ·rw [show loc[sp.id]? = E.loc[sp.id]? from hlive]
   exact hloc
 ·obtain ⟨rfl, p, d', h1, O, h3⟩ := R
  simp only[IW,if_true];exact hQ _ _ ⟨_,p,d',h1,O,h3⟩
theorem Mf(hm:P.follows .mixedOrders=true)(ht:ai P τ)(hL:ay P m L body)(hr:lE P τ L m sp ops2 body)(A:wq P sp ops0 ops1 ops2)
  (R:∀ d,(aM sp.inv d).fr[sp.t1]? = some .undef) (U:∀ d,(aM sp.inv d).fr[sp.t2]? = some .undef) (W:∀ d,(aM sp.inv d).fr[sp.it]? = some (.lit (.pointer (some ⟨sp.br d,0,none⟩))))
  {r0 r1 b0 b1 r2:Nat} (M:∀ d,(aM sp.inv d).H[sp.id]? = some (.map sp.K sp.V (ri d) (ci d))) (I:∀ r d d',sp.st r d=some d'→ri d'=ri d∧ci d'=ci d) (Y:sp.id<m)
  {s s1:al} {d:List G} {rows:List (List G)} {clock:Nat} (hp:eO P τ.pf ops0 ops0.toList.dropLast s.den s1.den) (hx:s1.eval (.tmp sp.y)=.map sp.id) (hid:s1.H[sp.id]? = some (.map sp.K sp.V rows clock)) (hn:(rows.map cd).Nodup)
  (g:∀ r∈rows,cd r<clock) (hin:∀ b,gY m sp.inv sp.ps (gH sp.opens (sp.tu s1 b))=some (true,sp.init d b)) (N:∀ b,sp.br (sp.init d b)=b) (hri:∀ b,ri (sp.init d b)=rows∧ci (sp.init d b)=clock)
  (J:∀ b p,p.Perm rows→(cQ sp.st sp.br p (sp.init d b)).isSome=true) (E:Env) (a:Act) (hs:bj s.den E a) (ro:Option Nat) (hro:fg ro body) :
  (jo r0 b0 r1 b1 r2 ops0 ops1 ops2 sp.t2 body).wpIn (fz ro) 0 P (fun e k q=>e=.normal∧∃ b p d',p.Perm rows∧cQ sp.st sp.br p (sp.init d b)=some d'∧dt m E (aM sp.inv d').den k q) a E.w:=by
 refine wpIn_seq (wpIn_region ?_);obtain⟨o2,ty,B,_⟩:=A.r0;have hsz:ops0.size=ops0.toList.dropLast.length+1:=by
  have h:=congrArg List.length B;simpa using h
 have hl:fp ops0.size=i_ 0 ops0.toList.dropLast.length++[ops0.toList.dropLast.length]:=by
  rw[hsz,List.range_succ,Cs]
 rw[hl];refine pq (pf:=τ.pf) ro ops0.toList.dropLast 0 s.den s1.den E a _ (fun j o F=>?_) hp hs fun k q hc=>?_
 ·have g := aJ F
  have:ops0.toList[j]? = some o:=by
   rw[B,dz g];exact F
  simpa using this
 ·obtain ⟨O, r1, h1, h2⟩ := hc
  refine W5 hm ht hL hr A R U W M I Y hx hid hn g hin N hri J { w:=q,H:=s1.den.H,loc:=O,X:=E.X.re r1 } k h1 ro hro fun a2 w2 ⟨b,p,d',g1,g2,g3⟩=>?_;exact⟨rfl,b,p,d',g1,g2,dt.after h2.toM g3⟩
theorem W6(hm:P.follows .mixedOrders=true)(R:ai P τ){rest:Code}{q qr:bx}(hL:ay P m L body)(hr:lE P τ L m sp ops2 body)(ho:wq P sp ops0 ops1 ops2)
  (hu1:∀ d,(aM sp.inv d).fr[sp.t1]? = some .undef) (hu2:∀ d,(aM sp.inv d).fr[sp.t2]? = some .undef) (hut:∀ d,(aM sp.inv d).fr[sp.it]? = some (.lit (.pointer (some ⟨sp.br d,0,none⟩))))
  {r0 r1 b0 b1 r2:Nat} (hid2:∀ d,(aM sp.inv d).H[sp.id]? = some (.map sp.K sp.V (ri d) (ci d))) (W:∀ r d d',sp.st r d=some d'→ri d'=ri d∧ci d'=ci d) (him:sp.id<m)
  {rows:List G→List (List G)} {clock:List G→Nat} {pre:List G→al} (hy:∀ d,(ef P τ ops0 ops0.toList.dropLast (aM q.inv d) fun s=>.done .normal s).fk=some (.normal,pre d)) (A:∀ d,(pre d).eval (.tmp sp.y)=.map sp.id) (hid:∀ d,(pre d).H[sp.id]? = some (.map sp.K sp.V (rows d) (clock d)))
  (hin:∀ d b,gY m sp.inv sp.ps (gH sp.opens (sp.tu (pre d) b))=some (sp.side d b,sp.init d b)) (hadr:∀ d b,sp.br (sp.init d b)=b) (hri:∀ d b,ri (sp.init d b)=rows d∧ci (sp.init d b)=clock d)
  (hinv:qr.inv=sp.inv) (Y:qr.outs=q.outs) (F:qT P m rest qr) (hst:∀ d,q.st d=kF sp qr.st (rows d) (clock d) d) :
  qT P m (.seq (jo r0 b0 r1 b1 r2 ops0 ops1 ops2 sp.t2 body) rest) q:=by
 intro d i d' h;rw[hst]at h;unfold kF at h;cases aL:eC (rows d) (clock d)with
 |false=>rw[aL]at h; cases h
 | true =>
  rw[aL]at h;simp only[cond_true]at h;have hall:=Ap h;obtain⟨hn,hlt⟩:=Aq aL;have k:∀ b p,p.Perm (rows d)→sp.side d b=true∧∃ d1,cQ sp.st sp.br p (sp.init d b)=some d1∧qr.st d1=some (some i,d'):=by
   intro b p g;have:=hall b p g;cases J:sp.side d b with
   |false=>rw[J]at this; cases this
   | true =>
    rw[J]at this;simp only[cond_true]at this;cases B:cQ sp.st sp.br p (sp.init d b)with
    |none=>rw[B]at this; cases this
    | some d1 =>
     rw[B]at this;exact⟨rfl,d1,rfl,this⟩
  obtain⟨_,d1,_,g1⟩:=k 0 (rows d) (sc _);obtain⟨o,M,_⟩:=F d1 i d' g1;refine⟨o,by rw[←Y]; exact M,fun ro N E a hs=>wpIn_seq (wpIn_mono (Mf hm R hL hr ho hu1 hu2 hut hid2 W him (Ax R (hy d)) (A d) (hid d) hn hlt (fun b=>by rw[hin d b,(k b (rows d) (sc _)).1]) (hadr d) (hri d) (fun b p g=>?_) E a hs ro (L2 N.seq1)) fun e a1 w1 hq=>?_)⟩
  ·obtain ⟨_, d2, h2, _⟩ := k b p g
   rw[h2];rfl
  ·obtain ⟨rfl, b, p, d2, g, B, loc, X, hs2, hle⟩ := hq
   obtain⟨_,d3,U,h4⟩:=k b p g;rw[B]at U;cases U;obtain⟨o',O,I⟩:=F d2 i d' h4;rw[M]at O;cases O;rw[hinv]at I;exact wpIn_mono (I ro N.y6 { w:=w1,H:=(aM sp.inv d2).den.H,loc:=loc,X:=X } a1 hs2) fun x a2 w2 A=>⟨A.1,dt.after hle A.2⟩
theorem ay.E9(hm:P.follows .mixedOrders=true)(A:ai P τ){fn:Func}{q qr:bx}{r0 b0 r1 b1 r2:Nat}{rows:List G→List (List G)}{clock:List G→Nat}
  (J:∀ d,(aM sp.inv d).H[sp.id]? = some (.map sp.K sp.V (ri d) (ci d))) (B:∀ r d d',sp.st r d=some d'→ri d'=ri d∧ci d'=ci d) (N:eE sp.id m=true) (hn:lB q.key (bA (aN fn))=true) (hL:ay P m L (aN fn))
  (hc:cutAt fn q.key=.seq (jo r0 b0 r1 b1 r2 (nD (cutAt fn q.key)) (EU (cutAt fn q.key)) (pA (cutAt fn q.key)) sp.t2 (qU (cutAt fn q.key))) (nC (cutAt fn q.key)))
  (g:(As P sp (nD (cutAt fn q.key))&&Au sp (EU (cutAt fn q.key))&&Av sp (pA (cutAt fn q.key)))=true)
  (hr:lE P τ L m sp (pA (cutAt fn q.key)) (qU (cutAt fn q.key)))
  (O:∀ d,(aM sp.inv d).fr[sp.t1]? = some .undef) (R:∀ d,(aM sp.inv d).fr[sp.t2]? = some .undef) (U:∀ d,(aM sp.inv d).fr[sp.it]? = some (.lit (.pointer (some ⟨sp.br d,0,none⟩))))
  {pre:List G→al} (hy:∀ d,(ef P τ (nD (cutAt fn q.key)) (nD (cutAt fn q.key)).toList.dropLast (aM q.inv d) fun s=>.done .normal s).fk=some (.normal,pre d)) (hx:∀ d,(pre d).eval (.tmp sp.y)=.map sp.id) (hid:∀ d,(pre d).H[sp.id]? = some (.map sp.K sp.V (rows d) (clock d)))
  (W:∀ d b,gY m sp.inv sp.ps (gH sp.opens (sp.tu (pre d) b))=some (sp.side d b,sp.init d b)) (M:∀ d b,sp.br (sp.init d b)=b) (Y:∀ d b,ri (sp.init d b)=rows d∧ci (sp.init d b)=clock d)
  (hinv:qr.inv=sp.inv) (F:qr.outs=q.outs) (I:gl P τ L m (nC (cutAt fn q.key)) qr) (hst:∀ d,q.st d=kF sp qr.st (rows d) (clock d) d) :
  ay P m (L.fI m q) (aN fn):=by
 refine ay.L5 hn hL fun k=>?_;rw[hc]at k;obtain⟨hLb,hLr⟩:=WW k;simp only[aw]at g;rw[hc];exact W6 hm A hLb hr (L6 g.1.1 g.1.2 g.2) O R U J B (by rw[←gB]; exact N) hy hx hid W M Y hinv F (I.sat hm A hLr) hst
end range
theorem dt.AE{m m':Nat}{E:Env}{s':St}{d:Act}{w':World}(h:dt m' E s' d w')(hm:m≤m'):dt m E s' d w':=by
 obtain⟨g,X',h1,k⟩:=h;exact⟨g,X',h1,k.mono hm⟩
theorem bU.mono{P:Program}{m m':Nat}{c:Code}{s:St}{x:bk}{s':St}(h:bU P m' c s x s')(hm:m≤m'):bU P m c s x s' :=
 fun ro g E a k=>wpIn_mono (h ro g E a k) fun _ _ _ d=>⟨d.1,d.2.AE hm⟩
theorem sT.mono{P:Program}{m m':Nat}{c:Code}(hm:m≤m'){x:bk}{s':St}:∀{n:Nat} {s:St},sT P m' c n s x s'→sT P m c n s x s'
 |0,_,h=>⟨h.1,h.2.mono hm⟩
 |_+1,_,⟨s1,h1,d⟩=>⟨s1,h1.mono hm,d.mono hm⟩
theorem ay.mono{P:Program}{m m':Nat}{L:LT}{c:Code}(h:ay P m' L c)(hm:cR m m'=true):ay P m L c:=by
 have hm:=j9 hm;refine⟨fun k d hk s t g Q q=>?_,fun id s B E a F=>(h.2.1 id s B E a F).AE hm,fun k d hk s t g Q q=>?_⟩
 ·obtain ⟨x, s', ⟨n, h1⟩, A⟩ := h.1 k d hk s t g Q q
  exact⟨x,s',⟨n,h1.mono hm⟩,A⟩
 ·obtain ⟨x, s', h1, A⟩ := h.2.2 k d hk s t g Q q
  exact⟨x,s',h1.mono hm,A⟩
end Go.AL

namespace Go.AL
open Go
variable [Dr]
theorem Mg{a:G}{l:List G}:gi (a::l) 0=a:=rfl
theorem Mh{a:G}{l:List G}{n:Nat}:gi (a::l) (n+1)=gi l n:=rfl
theorem W7{n:Int}:(G.i n).int=n:=rfl
theorem W8{n:Nat}:ab n n=true:=Nat.beq_refl n
def E_(sp:eB)(tl:List G→Option (Option Nat × List G))(rows:List (List G))(clock:Nat)(d:List G):Option (Option Nat × List G) :=
 match rows with
 | [x]=>bif eC [x] clock then bif sp.side d 0 then (cQ sp.st sp.br [x] (sp.init d 0)).bind tl else none else none
 |_=>none
theorem W9{sp:eB}{tl:List G→Option (Option Nat × List G)}{rows:List (List G)}{clock:Nat}{d:List G}{r:Option Nat × List G}
  (k:∀ b,sp.side d b=sp.side d 0) (q:∀ x b,(cQ sp.st sp.br [x] (sp.init d b)).bind tl=(cQ sp.st sp.br [x] (sp.init d 0)).bind tl)
  (h:E_ sp tl rows clock d=some r):kF sp tl rows clock d=some r:=by
 unfold E_ at h;split at h
 case h_2=>cases h
 rename_i x;cases h1:eC [x] clock with
 |false=>rw[h1]at h; cases h
 | true =>
  cases g:sp.side d 0 with
  |false=>rw[h1,g]at h; cases h
  | true =>
   rw[h1,g]at h;unfold kF;rw[h1];refine wu fun b p A=>?_;rw[List.perm_singleton.1 A,k b,g,cond_true,q x b];exact h
theorem W_{st:List G→List G→Option (List G)}{br:List G→Nat}{x e:List G}:cQ st br [x] e=(st x e).bind fun d'=>bif ab (br d') (br e) then some d' else none:=by
 simp only[cQ];cases st x e<;>rfl
theorem Xa{α β:Type}{c:Bool}{a b:Option α}{f:α→Option β}:(bif c then a else b).bind f=bif c then a.bind f else b.bind f:=by
 cases c<;>rfl
theorem Xb{c:Bool}{X Y:Option (Option Nat × List G)}{K:Nat→List G→Option (List G)}{r:List G}(h:∀ v,X=some v→Y=some v)(hr:aY c (cY X) K=some r):aY c (cY Y) K=some r:=by
 cases X with
 |some v=>rw[h v rfl]; exact hr
 |none=>cases c<;>cases hr
theorem dq.lG{w w':World}(h:@dq nf w w'):dq w w':=⟨h.1,h.2.1,h.2.2.1,fun _=>h.2.2.2 rfl⟩
theorem Env.le.lG{E E':Env}(h:@Env.le nf E E'):E.le E':=by
 cases h with
 |mk a b c d e f r g=>exact⟨a,b,c,d,e,f,r,dq.lG g⟩
theorem ff.lG{P:Program}{f:FuncId}{args:List AV}{H:List af}{Q:AV→List af→Prop}(h:@ff nf P f args H Q):ff P f args H Q:=fun E cargs h1 g k =>
 (h E cargs h1 g k).mono fun _ _ ⟨c,v,H',e,q,d,r',r1,r2,r3⟩=>⟨c,v,H',e,q,d,r',r1,r2,r3.lG⟩
theorem ai.lG{P:Program}{τ:ah}(h:@ai nf P τ):ai P τ:=by
 cases h with
 | mk g k hC q A =>
  refine⟨fun f args b v h1 d=>⟨(g f args b v h1 d).1,fun H=>ff.lG ((g f args b v h1 d).2 H)⟩,fun f args H b v H' h1 d=>⟨(k f args H b v H' h1 d).1,ff.lG (k f args H b v H' h1 d).2⟩,hC,fun f args H t h1 Q d=>?_,A⟩;obtain⟨g1,v,H',g2,g3,g4⟩:=q f args H t h1 Q d;exact⟨g1,v,H',ff.lG g2,g3,g4⟩
end Go.AL

namespace Go.AL
open Go
variable [Dr]
theorem Xc(w:World)(q:Nat)(os:Array Obj):Ext w (ox (w.drewN q) os) :=
 ⟨by simp [ox, World.drewN], fun b d => by
  show (w.heap++os)[b]? = w.heap[b]?
  rw[Array.getElem?_append_left d],⟨rfl,rfl,rfl,fun _=>eL _ _⟩⟩
theorem Xd{P:Program}{E:Env}(H:nh E){name:String}{g:Nat}{k:IntKind}{zs:List Int}(d:P.globalNamed name=some g) (q:(g,(zs.map fun z=>Value.int k z).toArray)∈se):I4 P E.w name k zs:=by
 obtain⟨_,t,f,h⟩:=H _ q;unfold I4 aiD;rw[d];simp only[ym];rw[h]
theorem Xe{P:Program}{w:World}{name:String}{g:Nat}{k:IntKind}{zs:List Int}(d:P.globalNamed name=some g)(h:I4 P w name k zs):∃ t f,w.heap[g]? = some (.cells (zs.map fun z=>Value.int k z).toArray t f):=by
 unfold I4 aiD at h;rw[d]at h;simp only[ym]at h;split at h
 ·rename_i cs t f hc
  cases h;exact⟨t,f,hc⟩
 ·cases h
theorem Xf{P:Program}{f:FuncId}{vs:List Value}{u:Value}(h:∀ E:Env,nh E→Calls P f vs.toArray E.w fun e w'=>e=.returned u∧Ext E.w w'):cV P f (vs.map .lit) (.lit u):=by
 intro H E cargs hH HE g;have e:cargs=vs.toArray:=by
  have:∀(vs us:List Value),ad E (vs.map AV.lit) us→us=vs:=by
   intro vs
   induction vs with
   | nil=>intro us h; cases us with
    |nil=>rfl
    |cons _ _=>simp[ad]at h
   | cons v vs k =>
    intro us h;cases us with
    |nil=>simp[ad]at h
    | cons u us =>
     simp only[List.map_cons,ad,rel]at h;rw[h.1,k us h.2]
  have:=this vs cargs.toList g;rw[←this]
 rw[e];refine(h E HE.fb).mono ?_;rintro _ w' ⟨rfl,d⟩;refine⟨u,.lit u,H,rfl,⟨rfl,rfl⟩,E.loc,E.X.r,by simp[rel],?_,?_⟩
 ·rw[←hH]; exact HE.ext d
 ·rw[←hH]; exact Env.gd d
end Go.AL
