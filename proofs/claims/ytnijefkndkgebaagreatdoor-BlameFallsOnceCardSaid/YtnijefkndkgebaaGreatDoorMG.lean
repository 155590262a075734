/-
 What is proved here: the function that slices.Backward hands back,called with a round's body: the rounds come from the last row to the first one. No program in sight; no condition.
-/
import Derived.Test.YtnijefkndkgebaaGreatDoorMD
import Derived.Test.YtnijefkndkgebaaGreatDoorMC
import Derived.Lib.LaidTab
import Derived.Sort.Grow
import Derived.Deep.Draws
set_option linter.all false
open Array renaming getElem?_push→vB,ext'→eZ,getElem?_eq_some_iff→fT
open Bool renaming and_eq_true→aB
open Go.Deferred renaming ofValue→RH
open Go.Exit renaming inBlock→GU
open Go.MapKept renaming heap_set→G3
open Go.World renaming putObj_heap_other→GV,putObj_heap_same→agN,size_alloc→G5,alloc_heap_new→agO
open List renaming append_nil→cY,append_assoc→gu,getElem?_append_left→cK,getElem?_eq_getElem→bI,mem_of_getElem?→eM,all_eq_true→cO,getD_eq_getElem?_getD→ch,mem_cons→bV,getElem?_of_mem→mB,replicate→bM,mem_cons_self→db,range'→sC,range→dG,mem_range→eP,range_eq_range'→zX,getElem_mem→kN
open List.Perm renaming refl→oe
open Nat renaming le_refl→aG,le_add_right→eL,lt_of_lt_of_le→dj,zero_le→ef,beq→ad,eq_of_beq_eq_true→bt,blt→fj,blt_eq→j8,le_of_ble_eq_true→sH,lt_irrefl→pQ
open Option renaming isSome_iff_exists→pI,bind_some→z8
open Option.some renaming injEq→aZ
open Prod.mk renaming injEq→be
namespace Go.AL
open Go
variable [Dr]
theorem Cw{P:Program}{pf:FuncId→Bool}{ops:Array Oper}{o:Oper}{s:St}{v:AV}(d:o.guard=none)(g:cI pf o.op=.read)(h:ev P s.eval s.H o.op=some v):Yields P pf ops o s v s.H:=by
 unfold Yields;rw[show bO ops s.fr o=some true from by unfold bO; rw[d]];simp only[g];exact⟨trivial,h⟩
theorem jq{P:Program}{pf:FuncId→Bool}{ops:Array Oper}{o:Oper}{s:St}{v:AV}(d:o.guard=none)(g:cI pf o.op=.pure)(h:gA P s.eval o.op=some v):Yields P pf ops o s v s.H:=by
 unfold Yields;rw[show bO ops s.fr o=some true from by unfold bO; rw[d]];simp only[g];exact⟨trivial,.inl h⟩
structure uq (S T:TypeId) (bh bR bA en:Array Oper):Prop where
 r0:∃ o1 o2 o3 o4 t t',bh.toList=[o1,o2,o3,o4]∧(o1.guard=none∧o1.op=.load S (.tmp 1)∧o1.dst=some 4)∧(o2.guard=none∧o2.op=.call { callee:=.builtin .len,args:=#[.tmp 4],argTypes:=#[S] }∧o2.dst=some 5) ∧
  (o3.guard=none∧o3.op=.binOp .sub t (.tmp 5) (.const (.int .i64 1)) t'∧o3.dst=some 6)∧(o4.guard=none∧o4.op=.assign (.tmp 6)∧o4.dst=some 3)
 r1:∃ o1 o2 t t',bR.toList=[o1,o2]∧(o1.guard=none∧o1.op=.move (.tmp 3)∧o1.dst=some 7)∧(o2.guard=none∧o2.op=.binOp .geq t (.tmp 7) (.const (.int .i64 0)) t'∧o2.dst=some 8)
 r2:∃ o1 o2 o3 t t',bA.toList=[o1,o2,o3]∧(o1.guard=none∧o1.op=.move (.tmp 3)∧o1.dst=some 9)∧(o2.guard=none∧o2.op=.binOp .sub t (.tmp 9) (.const (.int .i64 1)) t'∧o2.dst=some 10)∧(o3.guard=none∧o3.op=.assign (.tmp 10)∧o3.dst=some 3)
 r3:∃ o1 o2 o3 o4 o5 o6 o7 o8 t tys,en.toList=[o1,o2,o3,o4,o5,o6,o7,o8]∧(o1.guard=none∧o1.op=.move (.tmp 0)∧o1.dst=some 11)∧(o2.guard=none∧o2.op=.move (.tmp 3)∧o2.dst=some 12)∧(o3.guard=none∧o3.op=.load S (.tmp 1)∧o3.dst=some 13) ∧
  (o4.guard=none∧o4.op=.move (.tmp 3)∧o4.dst=some 14)∧(o5.guard=none∧o5.op=.indexAddr S (.tmp 13) (.tmp 14)∧o5.dst=some 15)∧(o6.guard=none∧o6.op=.load T (.tmp 15)∧o6.dst=some 16) ∧
  (o7.guard=none∧o7.op=.call { callee:=.value (.tmp 11),args:=#[.tmp 12,.tmp 16],argTypes:=tys }∧o7.dst=some 17)∧(o8.guard=none∧o8.op=.unOp .not t (.tmp 17)∧o8.dst=some 18)
def ur(bh bR bA en:Array Oper)(r0 r1 r2 r3 b0 b1:Nat):Code :=
 .seq (.region r0 bh false) (.block b0 (.loop (.seq (.seq (.region r1 bR false) (.cond (.tmp 8) .skip (.exit b0))) (.seq (.block b1 (.seq (.region r3 en false) (.cond (.tmp 18) .ret .skip))) (.region r2 bA false)))))
def jr(y cp:AV)(i:AV):List AV:=[y,cp,.undef,i,.undef,.undef,.undef,.undef,.undef,.undef,.undef,.undef,.undef,.undef,.undef,.undef,.undef,.undef,.undef]
structure yg (P:Program) (S T:TypeId) (sl:AV) (n:Nat) (rv:Nat→AV):Prop where
 load:∀ H,gK P S (.cptr [sl]) H=some sl
 len:wN (b_ P S) sl=some (.lit (.int .i64 (n:Nat)))
 idx:∀ i:Int,0≤i→i<n→∃ cells,kg (b_ P S) sl (.lit (.int .i64 i))=some (.cptr cells)∧∀ H,gK P T (.cptr cells) H=some (rv i.toNat)
 cl:AV.bq [sl]=true
end Go.AL
namespace Go.AL
open Go
variable [Dr]
section bw
variable {P:Program} {pf:FuncId→Bool} {S T:TypeId} {sl:AV} {n:Nat} {rv:Nat→AV} {bh bR bA en:Array Oper}
theorem KG{E:Env}:∀{as d:List AV} {vs:List Value},af E as vs→as.length=d.length→(∀(i:Nat) (b:AV),d[i]? = some b→b=.undef∨as[i]? = some b)→af E d vs
 | [],[],[],_,_,_=>by simp[af]
 | [],[],_::_,h,_,_=>by simp[af]at h
 |_::_,[],_,_,h,_=>by simp at h
 | [],_::_,_,_,h,_=>by simp at h
 |_::_,_::_,[],h,_,_=>by simp[af]at h
 | a::as,b::d,v::vs,h,g,hm=>by
  simp only[af]at h⊢;refine⟨?_,KG h.2 (by simpa using g) fun i k hb=>hm (i+1) k (by simpa using hb)⟩;rcases hm 0 b rfl with rfl|e
  ·simp[rel]
  ·have e : a = b := by simpa using e
   rw[←e];exact h.1
def Env.gk(E:Env):Env:={ E with X:=⟨E.X.x,fun _=>False,E.X.r⟩ }
theorem Cx{E:Env}(h:au E.gk):fZ E.gk E:=⟨rfl,rfl,aG _,fun b _ d=>⟨d,rfl⟩,h.X,rfl⟩
theorem KH{w:World}{X:XS}{l:List Deferred}(h:iE w X l)(g:∀ b,¬ X.z b):l=[]:=by
 cases l with
 |nil=>rfl
 | cons d l =>
  obtain⟨D,_,_,_,k⟩:=h.2 d db;exact(g D k).elim
theorem Cy{J:Env→Prop}(q:∀ E E',J E→E.le E'→au E'→E'.H=E.H→J E'){id:Nat}{ops:Array Oper}{fr fr':List AV}{E:Env}{a:Act}{Q:Exit→Act→World→Prop}(u:bN ⟨fr,E.H⟩ E.gk a)(v:J E)
  (h:fD P pf ops ops.toList ⟨fr,E.H⟩ ⟨fr',E.H⟩) (y:∀ g E',J E'→bN ⟨fr',E'.H⟩ E'.gk g→Q .normal g E'.w):(Code.region id ops false).wpIn (fz none) 0 P Q a E.w :=
 IB u h (fun g w' B=>by
  obtain⟨k,r',h1,d⟩:=B;exact y g { w:=w',H:=E.H,loc:=k,X:=E.X.re r' } (q _ _ v ⟨d.past,d.size,d.same,d.own,d.live,⟨rfl,rfl⟩,d.rl,d.env,d.grow⟩ (h1.heap.cD (Cx (E:={ w:=w',H:=E.H,loc:=k,X:=E.X.re r' }) h1.heap)) rfl) h1) none
theorem KJ{J:Env→Prop}(u:∀ E E',J E→E.le E'→au E'→E'.H=E.H→J E'){ops:Array Oper}{l:List Oper}{k:Nat}{rest:List Nat}{fr fr':List AV}{E:Env}{a:Act}{Q:Exit→Act→World→Prop}
  (v:∀(j:Nat) (o:Oper),l[j]? = some o→ops[k+j]? = some o) (y:bN ⟨fr,E.H⟩ E.gk a) (B:J E)
  (h:fD P pf ops l ⟨fr,E.H⟩ ⟨fr',E.H⟩) (I:∀ g E',J E'→bN ⟨fr',E'.H⟩ E'.gk g→wpOpsIn (fz none) 0 P ops Q rest g E'.w):wpOpsIn (fz none) 0 P ops Q (sC k l.length++rest) a E.w :=
 xX none l k _ _ E.gk a rest v h y (fun g w' M=>by
  obtain⟨q,r',h1,d⟩:=M;exact I g { w:=w',H:=E.H,loc:=q,X:=E.X.re r' } (u _ _ B ⟨d.past,d.size,d.same,d.own,d.live,⟨rfl,rfl⟩,d.rl,d.env,d.grow⟩ (h1.heap.cD (Cx (E:={ w:=w',H:=E.H,loc:=q,X:=E.X.re r' }) h1.heap)) rfl) h1)
theorem KK{E E':Env}:∀{fr:List AV} {vs:List Value},af E fr vs→(∀ b∈fr,b=.undef∨(∃ v,b=.lit v)∨∀ c,rel E b c→rel E' b c)→af E' fr vs
 | [],[],_,_=>by simp[af]
 | [],_::_,h,_=>by simp[af]at h
 |_::_,[],h,_=>by simp[af]at h
 | b::fr,v::vs,h,hb=>by
  simp only[af]at h⊢;refine⟨?_,KK h.2 fun x d=>hb x (List.mem_cons_of_mem _ d)⟩;rcases hb b db with rfl|⟨u,rfl⟩|h'
  ·simp[rel]
  ·simpa only[rel]using h.1
  ·exact h' _ h.1
theorem g_{ops:Array Oper}{o:Oper}{l:List Oper}{fr:List AV}{H:List ab}{s':St}{v:AV}{d:Tmp}(h:Yields P pf ops o ⟨fr,H⟩ v H)(g:o.dst=some d)(h':fD P pf ops l ⟨fr.set d v,H⟩ s'):fD P pf ops (o::l) ⟨fr,H⟩ s' :=
 ⟨v, H, h, by
  simp only[St.put,iG,g];exact h'⟩
theorem uu{ops:Array Oper}{s:St}:fD P pf ops [] s s:=rfl
theorem KL{t:TypeId}{k:Bool}{a b:Int}(h:aq (a-b)=true):fY P .sub t k (.lit (.int .i64 a)) (.lit (.int .i64 b))=some (.lit (.int .i64 (a-b))):=by
 simp only[fY,gJ,if_true,kP];rw[oN h]
theorem VZ{t:TypeId}{k:Bool}{a b:Int}:fY P .geq t k (.lit (.int .i64 a)) (.lit (.int .i64 b))=some (.lit (.bool (decide (a ≥ b)))):=by
 simp only[fY,gJ,if_true,kP]
theorem Cz{ops:Array Oper}{l:List Oper}(h:ops.toList=l)(i:Nat):ops[i]? = l[i]? := by rw[←h]; simp
theorem V3(hT:yg P S T sl n rv){f:FuncId}{fn:Func}{r0 r1 r2 r3 b0 b1:Nat}(hf:P.funcs[f]? = some fn)(hb:fn.body=some (ur bh bR bA en r0 r1 r2 r3 b0 b1))(hn:fn.ntmps=19)(hr:fn.results=#[])(ho:uq S T bh bR bA en)
  {l:Nat} (hlen:n≤1048576) (J:Nat→Env→Prop) (M:∀ k E,J k E→au E) (B:∀ k E E',J k E→E.le E'→au E'→E'.H=E.H→J k E')
  {c:Value}
  (hround:∀ k E (cs:Array Value),k<n→J k E→af E [.lit (.int .i64 ((n:Int)-1-k)),rv (n-1-k)] cs.toList→YieldAt (fz none) 0 P l cs E.w fun e W'=>e=.returned (.bool true)∧∃ E',E'.w=W'∧J (k+1) E'∧E.bF E')
  {E0:Env} (h0:J 0 E0) (hcp:rel E0 (.cptr [sl]) c):CallsIn (fz none) 0 P f #[.func (.yield l) #[] #[],c] E0.w fun e W'=>(∃ v,e=.returned v)∧∃ E',E'.w=W'∧J n E':=by
 obtain⟨o1,o2,o3,o4,t1,t2,q0,⟨g1,p1,d1⟩,⟨g2,p2,d2⟩,⟨g3,p3,d3⟩,⟨g4,p4,d4⟩⟩:=ho.r0;refine callsIn_of_wp_marks hf hb trivial ?_;have hin:∀ j:Int,0≤j→j≤n→aq (j-1)=true:=fun j h1 h2=>kq.2 ⟨by omega,by omega⟩;obtain⟨y,hy⟩:∃ y:AV,y=.lit (.func (.yield l) #[] #[]):=⟨_,rfl⟩
 obtain⟨cp,U⟩:∃ cp:AV,cp=.cptr [sl]:=⟨_,rfl⟩
 rw[←U]at hcp;have hs0:bN ⟨y::cp::bM 17 .undef,E0.H⟩ E0.gk { tmps:=#[.func (.yield l) #[] #[],c]++Array.replicate (fn.ntmps-2) undef,defers:=[] }:=by
  have hE0:au E0.gk:=(M 0 E0 h0).cD (qp (M 0 E0 h0));refine⟨rfl,?_,om _ _,hE0⟩;rw[hn];simp only[Array.toList_append,Array.toList_replicate];show af E0.gk ([y,cp]++bM 17 .undef) ([.func (.yield l) #[] #[],c]++bM 17 undef)
  refine jC (by simp only[af]; exact⟨by rw[hy]; simp[rel],te (qp (M 0 E0 h0)) _ hcp,trivial⟩) ?_;exact td (bM 17 undef)
 refine wpIn_seq (Cy (pf:=fun _=>false) (J:=J 0) (B 0) hs0 h0 (fr':=[y,cp,.undef,.lit (.int .i64 ((n:Int)-1)),sl,.lit (.int .i64 (n:Int)),.lit (.int .i64 ((n:Int)-1)),.undef,.undef,.undef,.undef,.undef,.undef,.undef,.undef,.undef,.undef,.undef,.undef]) ?_ fun a1 E1 hj1 hs1=>?_)
 ·rw [q0]
  refine g_ (v:=sl) (Cw g1 (by rw[p1]; rfl) ?_) d1 (g_ (v:=.lit (.int .i64 (n:Int))) (jq g2 ?_ ?_) d2 (g_ (v:=.lit (.int .i64 ((n:Int)-1))) (jq g3 (by rw[p3]; rfl) ?_) d3
   (g_ (v:=.lit (.int .i64 ((n:Int)-1))) (jq g4 (by rw[p4]; rfl) ?_) d4 ?_)))
  ·rw [p1]
   show gK P S cp E0.H=_
   rw[U];exact hT.load _
  ·rw [p2]
   rfl
  ·rw [p2]
   show wN (b_ P S) sl=_
   exact hT.len
  ·rw [p3]
   exact KL (P:=P) (t:=t1) (k:=kW (Operand.tmp 5)||kW (Operand.const (.int .i64 1))) (hin (n:Int) (by omega) (by omega))
  ·rw [p4]
   rfl
  ·exact uu
 have q:∀{E:Env} {a:Act} {fr:List AV} {i:AV},bN ⟨fr,E.H⟩ E.gk a→fr.length=19→fr[0]? = some y→fr[1]? = some cp→fr[3]? = some i→bN ⟨jr y cp i,E.H⟩ E.gk a:=by
  intro E a fr i h h19 e0 e1 e3;refine⟨rfl,KG h.fr (by rw[h19]; rfl) fun j b hb=>?_,h.defers,h.heap⟩
  match j,hb with
  |0,hb=>exact .inr (by rw[e0]; exact hb)
  |1,hb=>exact .inr (by rw[e1]; exact hb)
  |3,hb=>exact .inr (by rw[e3]; exact hb)
  |2,hb=>exact .inl (by cases hb; rfl)
  | j+4,hb =>
   left;have hx:jr y cp i=[y,cp,.undef,i]++bM 15 .undef:=rfl;rw[hx,List.getElem?_append_right (by simp)]at hb;have:=eM hb;exact(List.mem_replicate.1 this).2
 refine wpIn_block (wpIn_loop (fun a w=>∃ k E,E.w=w∧k≤n∧J k E∧bN ⟨jr y cp (.lit (.int .i64 ((n:Int)-1-k))),E.H⟩ E.gk a)
  (fun a _=>match a.eval (.tmp 3)with | .int _ i=>(i+1).toNat|_=>0) ⟨0,E1,rfl,ef _,hj1,q hs1 rfl rfl rfl (by simp)⟩ ?_)
 rintro a _ ⟨k,E,rfl,hkl,hj,hs⟩;obtain⟨i1,i2,t3,t4,qq1,⟨ga1,pa1,da1⟩,⟨ga2,pa2,da2⟩⟩:=ho.r1;obtain⟨j1,j2,j3,t5,t6,qq2,⟨gb1,pb1,db1⟩,⟨gb2,pb2,db2⟩,⟨gb3,pb3,db3⟩⟩:=ho.r2;obtain⟨u1,u2,u3,u4,u5,u6,N,u8,t7,tys,V,⟨gc1,pc1,dc1⟩,⟨gc2,pc2,dc2⟩,⟨gc3,pc3,dc3⟩,⟨gc4,pc4,dc4⟩,⟨gc5,pc5,dc5⟩,⟨gc6,pc6,dc6⟩,⟨gc7,pc7,dc7⟩,⟨gc8,pc8,dc8⟩⟩:=ho.r3;obtain⟨i,hi⟩:∃ i:Int,i=(n:Int)-1-k:=⟨_,rfl⟩
 rw[←hi]at hs;have hmu:a.eval (.tmp 3)=.int .i64 i:=by
  have:=hs.eval (.tmp 3);simpa[St.eval,jr,rel]using this
 refine wpIn_seq (wpIn_seq (Cy (pf:=fun _=>false) (J:=J k) (B k) hs hj (fr':=((jr y cp (.lit (.int .i64 i))).set 7 (.lit (.int .i64 i))).set 8 (.lit (.bool (decide (i ≥ 0))))) ?_ fun a2 O hj2 hs2=>?_))
 ·rw [qq1]
  refine g_ (v:=.lit (.int .i64 i)) (jq ga1 (by rw[pa1]; rfl) (by rw[pa1]; rfl)) da1 (g_ (v:=.lit (.bool (decide (i ≥ 0)))) (jq ga2 (by rw[pa2]; rfl) ?_) da2 uu);rw[pa2];exact VZ (P:=P) (t:=t3) (k:=kW (Operand.tmp 7)||kW (Operand.const (.int .i64 0)))
 have h8:a2.eval (.tmp 8)=.bool (decide (i ≥ 0)):=by
  have:=hs2.eval (.tmp 8);simpa[St.eval,jr,rel]using this
 by_cases W:i ≥ 0
 ·have hkl' : k < n := by omega
  refine wpIn_cond_true (by rw[h8]; simp[W]) (wpIn_skip ?_);have hs2':=q hs2 rfl rfl rfl rfl;show (Code.seq _ _).wpIn (fz none) 0 P _ _ _
  refine wpIn_seq (wpIn_block (wpIn_seq (wpIn_region ?_)));obtain⟨cells,hcells,hcell2⟩:=hT.idx i W (by omega);have hsz:en.size=8:=by
   have:en.toList.length=8:=by rw[V]; rfl
   simpa using this
  rw[hsz];show wpOpsIn (fz none) 0 P en _ (sC 0 6++[6,7]) a2 O.w
  have hpos:∀(j:Nat) (o:Oper),[u1,u2,u3,u4,u5,u6][j]? = some o→en[0+j]? = some o:=by
   intro j o I;rw[Cz V];have hlt:j<6:=by simpa using aK I
   rw[Nat.zero_add,show [u1,u2,u3,u4,u5,u6,N,u8]=[u1,u2,u3,u4,u5,u6]++[N,u8] from rfl,cK (by simpa using hlt)];exact I
  refine KJ (pf:=fun _=>false) (J:=J k) (l:=[u1,u2,u3,u4,u5,u6]) (k:=0) (B k) hpos hs2' hj2
   (fr':=[y,cp,.undef,.lit (.int .i64 i),.undef,.undef,.undef,.undef,.undef,.undef,.undef,y,.lit (.int .i64 i),sl,.lit (.int .i64 i),.cptr (cells),rv i.toNat,.undef,.undef]) ?_ fun a3 d hj3 g=>?_
  ·refine g_ (v:=y) (jq gc1 (by rw [pc1]; rfl) (by rw [pc1]; rfl)) dc1 (g_ (v:=.lit (.int .i64 i)) (jq gc2 (by rw [pc2]; rfl) (by rw [pc2]; rfl)) dc2 (g_ (v:=sl) (Cw gc3 (by rw [pc3]; rfl) ?_) dc3
    (g_ (v:=.lit (.int .i64 i)) (jq gc4 (by rw[pc4]; rfl) (by rw[pc4]; rfl)) dc4 (g_ (v:=.cptr (cells)) (jq gc5 (by rw[pc5]; rfl) ?_) dc5 (g_ (v:=rv i.toNat) (Cw gc6 (by rw[pc6]; rfl) ?_) dc6 uu)))))
   ·rw [pc3]
    show gK P S cp O.H=_
    rw[U];exact hT.load _
   ·rw [pc5]
    exact hcells
   ·rw [pc6]
    exact hcell2 O.H
  ·have h11:a3.eval (.tmp 11)=.func (.yield l) #[] #[]:=by
    have:=g.eval (.tmp 11);rw[show St.eval _ (.tmp 11)=y from rfl,hy]at this;simpa only[rel]using this
   have hin2:i.toNat=n-1-k:=by omega
   have hE3:fZ d.gk d:=Cx g.heap;have hrel:af d [.lit (.int .i64 ((n:Int)-1-k)),rv (n-1-k)] (#[a3.eval (.tmp 12),a3.eval (.tmp 16)]:Array Value).toList:=by
    rw[←hi,←hin2];simp only[af];exact⟨te hE3 _ (g.eval (.tmp 12)),te hE3 _ (g.eval (.tmp 16)),trivial⟩
   obtain⟨fn',tmps',asg,bod,hy1,hR⟩:=hround k d _ hkl' hj3 hrel;rw[wpOpsIn_cons];unfold wpOpIn;have h6:en[6]? = some N:=by rw[Cz V]; rfl
   simp only[h6];rw[if_pos (by simp[Region.wanted,gc7])];refine⟨fun _ _=>trivial,?_⟩;rw[Oper.semAt_eq _ _ _ (fun c e=>by rw[pc7]at e; cases e)];have hrun:(execOp a3.eval N).run P d.w=.ok (.round l fn' tmps' asg bod) d.w:=by
    obtain⟨dst,op,type,pos,after,guard⟩:=N;simp only[]at pc7;subst pc7;simp[execOp,resolve,h11,RH,invoke,hy1]
   rw[hrun,Oper.uponIn_round];refine⟨fun h=>(by cases h),hR.mono ?_⟩;rintro e _ ⟨rfl,E',rfl,hj',hleC⟩;show wpOpsIn (fz none) 0 P en _ (sC 7 1++[]) _ E'.w
   rw[dc7];have hd3:a3.defers=[]:=KH g.defers fun _ h=>h;have hp:=(q g rfl rfl rfl rfl).iO 17 (v:=.lit (.bool true)) (u:=.bool true) (by simp[rel]);have hE':au E'.gk:=(M (k+1) E' hj').cD (qp (M (k+1) E' hj'));have hs4:bN ⟨(jr y cp (.lit (.int .i64 i))).set 17 (.lit (.bool true)),E'.H⟩ E'.gk (a3.put (some 17) (.bool true)):=by
    refine⟨rfl,KK hp.fr fun b hb=>?_,?_,hE'⟩
    ·have hb : b ∈ (jr y cp (.lit (.int .i64 i))).set 17 (.lit (.bool true)) := hb
     rcases List.mem_or_eq_of_mem_set hb with hb|rfl
     ·simp only [jr, bV, List.not_mem_nil, or_false] at hb
      rcases hb with rfl|rfl|rfl|rfl|hb
      ·exact .inr (.inl ⟨_,hy⟩)
      ·refine .inr (.inr fun c' h => ?_)
       rw[U]at h⊢;exact dB (E:=d.gk) (E':=E'.gk) ⟨fun b hb=>hleC.ok b hb⟩ _ (by simp[AV.closed]) h
      ·exact .inl rfl
      ·exact .inr (.inl ⟨_,rfl⟩)
      ·left
       rcases hb with rfl|rfl|rfl|rfl|rfl|rfl|rfl|rfl|rfl|rfl|rfl|rfl|rfl|rfl|rfl<;>rfl
     ·exact .inr (.inl ⟨_,rfl⟩)
    ·rw [put_defers, hd3]
     exact om _ _
   refine KJ (pf:=fun _=>false) (J:=J (k+1)) (l:=[u8]) (k:=7) (B (k+1)) ?_ hs4 hj' (fr':=((jr y cp (.lit (.int .i64 i))).set 17 (.lit (.bool true))).set 18 (.lit (.bool false))) ?_ fun a5 E5 hj5 hs5=>?_
   ·intro j o I
    have hlt:j<1:=by simpa using aK I
    have:j=0:=by omega
    subst this;rw[Cz V];exact I
   ·exact g_ (v:=.lit (.bool false)) (jq gc8 (by rw[pc8]; rfl) (by rw[pc8]; rfl)) dc8 uu
   ·show (Code.cond _ _ _).wpIn (fz none) 0 P _ _ _
    have h18:a5.eval (.tmp 18)=.bool false:=by
     have:=hs5.eval (.tmp 18);simpa[St.eval,jr,rel]using this
    refine wpIn_cond_false h18 (wpIn_skip ?_);show (Code.region _ _ _).wpIn (fz none) 0 P _ _ _
    refine Cy (pf:=fun _=>false) (J:=J (k+1)) (B (k+1)) (q hs5 rfl rfl rfl rfl) hj5 (fr':=(((jr y cp (.lit (.int .i64 i))).set 9 (.lit (.int .i64 i))).set 10 (.lit (.int .i64 (i-1)))).set 3 (.lit (.int .i64 (i-1)))) ?_ fun a6 E6 hj6 hs6=>?_
    ·rw [qq2]
     refine g_ (v:=.lit (.int .i64 i)) (jq gb1 (by rw[pb1]; rfl) (by rw[pb1]; rfl)) db1 (g_ (v:=.lit (.int .i64 (i-1))) (jq gb2 (by rw[pb2]; rfl) ?_) db2 (g_ (v:=.lit (.int .i64 (i-1))) (jq gb3 (by rw[pb3]; rfl) (by rw[pb3]; rfl)) db3 uu));rw[pb2];exact KL (P:=P) (t:=t5) (k:=kW (Operand.tmp 9)||kW (Operand.const (.int .i64 1))) (hin i W (by omega))
    ·have h3:a6.eval (.tmp 3)=.int .i64 (i-1):=by
      have:=hs6.eval (.tmp 3);simpa[St.eval,jr,rel]using this
     have e6:i-1=(n:Int)-1-((k+1:Nat):Int):=by omega
     refine⟨⟨k+1,E6,rfl,by omega,hj6,?_⟩,?_⟩
     ·rw [← e6]
      exact q hs6 rfl rfl rfl rfl
     ·rw [h3, hmu]
      show (i-1+1).toNat<(i+1).toNat
      omega
 ·refine wpIn_cond_false (by rw [h8]; simp [W]) (wpIn_exit ?_)
  simp only[Exit.then,GU,if_true];have hd:a2.defers=[]:=KH hs2.defers fun _ h=>h;have hk:k=n:=by omega
  subst hk;show LeavesInM (fz none) 0 P fn a2.tmps _ a2.defers .returning O.w
  rw[hd];refine⟨.tuple #[],?_,⟨_,rfl⟩,O,rfl,hj2⟩;rw[wY,hr];simp
end bw
end Go.AL

namespace Go.AL
open Go
variable [Dr]
mutual
def ma(m:Nat):AV→Bool
 |.agg cs=>nG m cs
 |.tuple cs=>nG m cs
 |.clo _ cs=>nG m cs
 |.ptr id ae _ _ _=>fj id m&&ad ae 0
 |.vec _ id ae _ _=>fj id m&&ad ae 0
 |.map id=>fj id m
 |.sub ..=>false
 |_=>true
def nG(m:Nat):List AV→Bool
 | []=>true
 |a::as=>ma m a&&nG m as
end
mutual
theorem V4{E E':Env}{m:Nat}(h:E.di m E'):∀(a:AV) {c:Value},ma m a=true→rel E a c→rel E' a c
 |.undef,_,_,_=>by simp[rel]
 |.lit v,c,_,d=>by simpa only[rel]using d
 |.nils,c,_,d=>by simpa only[rel]using d
 |.list k rows,c,_,d=>dB (o9 h) _ (by simp[AV.closed]) d
 |.listF ks rows,c,_,d=>dB (o9 h) _ (by simp[AV.closed]) d
 | .agg cells,c,g,d=>by
  simp only[rel]at d⊢;obtain⟨cs,e,h1,q⟩:=d;exact⟨cs,e,h1,uv h cells (by simpa only[ma]using g) q⟩
 | .tuple cells,c,g,d=>by
  simp only[rel]at d⊢;obtain⟨cs,e,q⟩:=d;exact⟨cs,e,uv h cells (by simpa only[ma]using g) q⟩
 |.cptr cells,c,_,d=>dB (o9 h) _ (by simp[AV.closed]) d
 |.sub ..,_,g,_=>by simp[ma]at g
 | .ptr id ae k row col,c,g,d=>by
  simp only[ma,aB,j8]at g;obtain⟨h1,q⟩:=g;have q:=bt q;subst q;simp only[rel]at d⊢;obtain⟨g1,g2,g3⟩:=d;refine⟨g1,h.past id h1 g2,fun u=>?_⟩;obtain⟨y,B⟩:=h.live id h1 g2 u;rw[B];exact g3 y
 | .vec k id ae off n,c,g,d=>by
  simp only[ma,aB,j8]at g;obtain⟨h1,q⟩:=g;have q:=bt q;subst q;simp only[rel]at d⊢;obtain⟨g1,g2,g3⟩:=d;refine⟨g1,h.past id h1 g2,fun u=>?_⟩;obtain⟨y,B⟩:=h.live id h1 g2 u;rw[B];exact g3 y
 | .map id,c,g,d=>by
  simp only[ma,j8]at g;simp only[rel]at d⊢;obtain⟨g1,g2,g3⟩:=d;refine⟨g1,h.past id g g2,fun u=>?_⟩;obtain⟨y,B⟩:=h.live id g g2 u;rw[B];exact g3 y
 | .clo f caps,c,g,d=>by
  simp only[rel]at d⊢;obtain⟨cs,e,q⟩:=d;exact⟨cs,e,uv h caps (by simpa only[ma]using g) q⟩
 |.ifc,c,_,d=>by simpa only[rel]using d
 |.emptyS n,c,_,d=>by simpa only[rel]using d
theorem uv{E E':Env}{m:Nat}(h:E.di m E'):∀(as:List AV) {vs:List Value},nG m as=true→af E as vs→af E' as vs
 | [],[],_,_=>by simp[af]
 | [],_::_,_,d=>by simp[af]at d
 |_::_,[],_,d=>by simp[af]at d
 | a::as,v::vs,g,d=>by
  simp only[nG,aB]at g;simp only[af]at d⊢;exact⟨V4 h a g.1 d.1,uv h as g.2 d.2⟩
end
theorem Env.di.mono{m m':Nat}{E E':Env}(h:E.di m' E')(hm:m≤m'):E.di m E' :=
 ⟨fun id hi=>h.past id (by omega),h.size,h.same,h.own,fun id hi=>h.live id (by omega),h.X,h.rl,h.env,fun id hi=>h.grow id (by omega)⟩
structure Env.me (m l:Nat) (E E':Env):Prop where
 past:∀ id,id<m→E.past id 0→E'.past id 0
 size:E.w.heap.size≤E'.w.heap.size
 same:∀ b,b<E.w.heap.size→¬ E.own b→b≠l→E'.w.heap[b]? = E.w.heap[b]?
 own:∀ b,b<E.w.heap.size→¬ E.own b→¬ E'.own b
 live:∀ id,id<m→E.past id 0→E'.live id 0→E.live id 0∧E'.loc[id]? = E.loc[id]?
 X:∀ b,b<E.w.heap.size→(E'.X b↔E.X b)∧(E'.X.z b↔E.X.z b)
 rl:∀ l h,h<(E.X.r l).length→h<(E'.X.r l).length∧∀ q,(E'.X.r l)[h]? = some (some q)→(E.X.r l)[h]? = some (some q)
 env:dJ E.w E'.w
 grow:∀ id,id<m→∀ l o,E.H[id]? = some o→o.cZ=some l→E'.live id 0→(∃ t,E'.X.r l=E.X.r l++t)∧∃ o',E'.H[id]? = some o'∧o'.cZ=some l
theorem Env.di.toX{m l:Nat}{E E':Env}(h:E.di m E'):E.me m l E':=⟨h.past,h.size,fun b hb ho _=>h.same b hb ho,h.own,h.live,h.X,h.rl,h.env,h.grow⟩
theorem Env.me.trans{m l:Nat}{E E' I:Env}(h:E.me m l E')(h':E'.me m l I):E.me m l I where
 past:=fun id hi k=>h'.past id hi (h.past id hi k)
 size:=Nat.le_trans h.size h'.size
 same:=fun b hb ho g=>by rw[h'.same b (dj hb h.size) (h.own b hb ho) g,h.same b hb ho g]
 own:=fun b hb ho=>h'.own b (dj hb h.size) (h.own b hb ho)
 live:=fun id hi hid g=>by
  obtain⟨u,a2⟩:=h'.live id hi (h.past id hi hid) g;obtain⟨b1,y⟩:=h.live id hi hid u;exact⟨b1,by rw[a2,y]⟩
 X:=fun b hb=>by
  have h1:=h'.X b (dj hb h.size);have d:=h.X b hb;exact⟨h1.1.trans d.1,h1.2.trans d.2⟩
 rl:=fun l i hi=>by
  obtain⟨u,a2⟩:=h.rl l i hi;obtain⟨b1,y⟩:=h'.rl l i u;exact⟨b1,fun q O=>a2 q (y q O)⟩
 env:=h.env.trans h'.env
 grow:=fun id hi l o h1 d B=>by
  have k:E.past id 0:=⟨o,h1,ab.z_ d,fun v B=>ef _⟩
  obtain⟨J,_⟩:=h'.live id hi (h.past id hi k) B;obtain⟨⟨t,U⟩,o',g1,g2⟩:=h.grow id hi l o h1 d J;obtain⟨⟨t',M⟩,N,g3,g4⟩:=h'.grow id hi l o' g1 g2 B;exact⟨⟨t++t',by rw[M,U,gu]⟩,N,g3,g4⟩
theorem Env.me.toM{m l:Nat}{E E':Env}(h:E.me m l E')(d:l<E.w.heap.size→E'.w.heap[l]? = E.w.heap[l]?):E.di m E' :=
 ⟨h.past, h.size, fun b hb ho => by
  by_cases e:b=l
  ·subst e
   exact d hb
  ·exact h.same b hb ho e,h.own,h.live,h.X,h.rl,h.env,h.grow⟩
theorem CA{w:World}{H:List ab}{loc:List (Option (Nat × Nat))}{X:XS}{l:Nat}{o:Obj}(hX:X l)(HE:au { w:=w,H:=H,loc:=loc,X:=X }) :
  fZ { w:=w,H:=H,loc:=loc,X:=X } { w:=w.putObj l o,H:=H,loc:=loc,X:=X } :=
 ⟨rfl, rfl, by simp, fun b _ d => ⟨d, GV fun e => d (by rw [e]; exact hX)⟩, fun b hb => by
  have:=HE.X b hb;simpa using this,rfl⟩
theorem CB{m:Nat}{w:World}{H:List ab}{loc:List (Option (Nat × Nat))}{X:XS}{l:Nat}{o:Obj}:({ w:=w,H:=H,loc:=loc,X:=X }:Env).me m l { w:=w.putObj l o,H:=H,loc:=loc,X:=X } :=
 ⟨fun _ _ h=>h,by simp,fun b _ _ h=>GV h,fun _ _ h=>h,fun _ _ _ h=>⟨h,rfl⟩,fun _ _=>⟨Iff.rfl,Iff.rfl⟩,fun _ _ h=>⟨h,fun _ d=>d⟩,⟨rfl,rfl,rfl,by first|exact fun _=>aG _|exact fun _=>eL _ _⟩,fun _ _ _ o h1 g _=>⟨⟨[],(cY _).symm⟩,o,h1,g⟩⟩
theorem KM{w:World}{X:XS}{l:Nat}{r:Loop}{o:Obj}{g:List Deferred}(h:iE w X g)(k:w.heap[l]? = some (.loop r)):iE (w.putObj l o) X g :=
 ⟨h.1, fun d q => by
  obtain⟨D,e,h1,u,v⟩:=h.2 d q;exact⟨D,e,by rw[GV (fun e=>by rw[e,k]at h1; cases h1)]; exact h1,u,v⟩⟩
end Go.AL

namespace Go.AL
open Go
variable [Dr]
structure yh (P:Program) (m:Nat) (n:Nat) (rv:Nat→AV) (p0 p1:Tmp) (assign body:Code) (S:Nat→St):Prop where
 na:fE assign=true
 nb:fE body=true
 fix:∀ k,k<n→nG m (S k).fr=true
 round:∀ k,k<n→∃ s1 s2,cU P m assign ⟨((S k).fr.set p0 (.lit (.int .i64 ((n:Int)-1-k)))).set p1 (rv (n-1-k)),(S k).H⟩ .normal s1∧cU P m body s1 .normal s2∧bu m ⟨(S k).fr,s2.H⟩ (S (k+1))
section bw
variable {P:Program} {m':Nat} {n:Nat} {rv:Nat→AV} {p0 p1:Tmp} {assign body:Code} {S:Nat→St}
theorem V5(B:yh P m' n rv p0 p1 assign body S){k:Nat}(hk:k<n){fn:FuncId}{D l:Nat}{a:Act}{tmps:Array Value}(htm:tmps=a.tmps){E:Env}(d:bN (S k) E a)(hX:E.X l)
  (I:E.w.heap[l]? = some (.loop { state:=.ready,pending:=none,fn,tmps,params:=#[p0,p1],assign,body,defers:=D })) {cs:Array Value} (hc:af E [.lit (.int .i64 ((n:Int)-1-k)),rv (n-1-k)] cs.toList) :
  YieldAt (fz none) 0 P l cs E.w fun e W'=>e=.returned (.bool true)∧∃ E',E'.w=W'∧bN (S (k+1)) E' a∧E.di m' E'∧E'.X l ∧
   E'.w.heap[l]? = some (.loop { state:=.ready,pending:=none,fn,tmps,params:=#[p0,p1],assign,body,defers:=D }):=by
 obtain⟨s1,s2,hA,hB,hle⟩:=B.round k hk;obtain⟨q,c1,rfl⟩:∃ q c1,cs=#[q,c1]:=by
  have:=fI hc
  match h:cs.toList,this with
  | [q,c1],_=>exact⟨q,c1,eZ (by simpa using h)⟩
 simp only[af]at hc;obtain⟨hc0,hc1,_⟩:=hc;refine⟨_,_,_,_,run_yield I (by simp),roundIn_of_wpIn (F:=fz none) trivial ?_⟩;have V:l<E.w.heap.size:=(fT.1 I).1;have hs0:bN ⟨((S k).fr.set p0 (.lit (.int .i64 ((n:Int)-1-k)))).set p1 (rv (n-1-k)),(S k).H⟩ E { tmps:=(a.tmps.setIfInBounds p0 q).setIfInBounds p1 c1,defers:=[] }:=by
  refine⟨d.H,?_,om _ _,d.heap⟩;simp only[Array.toList_setIfInBounds];exact wP p1 (wP p0 d.fr hc0) hc1
 have e0:((#[p0,p1]:Array Tmp).zip #[q,c1]).foldl (fun tmps (t,a)=>tmps.setIfInBounds t a) tmps=(a.tmps.setIfInBounds p0 q).setIfInBounds p1 c1:=by
  rw[htm];simp[←Array.foldl_toList]
 rw[e0];refine wpIn_mono (hA (some l) (.inr B.na) E _ hs0) fun e a1 u ⟨he,loc1,X1,W,v⟩=>?_;subst he;have hno:¬ E.own l:=d.heap.mL hX;have hl1:u.heap[l]? = some (.loop { state:=.ready,pending:=none,fn,tmps,params:=#[p0,p1],assign,body,defers:=D }):=by rw[v.same l V hno]; exact I
 have hX1:X1 l:=(v.X l V).1.2 hX;have N:l<u.heap.size:=(fT.1 hl1).1;refine⟨_,run_beginRound hl1 rfl,?_⟩;have hs1':=W.cD (CA (o:=.loop { state:=.busy,pending:=none,fn,tmps,params:=#[p0,p1],assign,body,defers:=D }) hX1 W.heap) (KM W.defers hl1);refine wpIn_mono (hB (some l) (.inr B.nb) _ a1 hs1') fun e a2 w3 ⟨he,O,J,hs2,U⟩=>?_;subst he;have hno1:¬ Env.own { w:=u,H:=s1.H,loc:=loc1,X:=X1 } l:=v.own l V hno;have hl3:w3.heap[l]? = some (.loop { state:=.busy,pending:=none,fn,tmps,params:=#[p0,p1],assign,body,defers:=D }):=by
  rw[U.same l (by show l<(u.putObj _ _).heap.size; simpa using N) hno1];exact agN N
 have hX2:J l:=(U.X l (by show l<(u.putObj _ _).heap.size; simpa using N)).1.2 hX1;have hlt3:l<w3.heap.size:=(fT.1 hl3).1;refine⟨_,_,run_endRound (P:=P) none hl3,rfl,?_⟩;obtain⟨g,y⟩:∃ g,w3.putObj l (.loop { state:=.ready,pending:=none,fn,tmps,params:=#[p0,p1],assign,body,defers:=D })=g:=⟨_,rfl⟩
 have hl4:g.heap[l]? = some (.loop { state:=.ready,pending:=none,fn,tmps,params:=#[p0,p1],assign,body,defers:=D }):=by
  rw[←y];exact agN hlt3
 have M:E.di m' { w:=g,H:=s2.H,loc:=O,X:=J }:=by
  refine Env.me.toM (l:=l) (v.toX.trans (CB.trans (U.toX.trans ?_))) (fun _=>by rw[show Env.w _=g from rfl,hl4,I]);rw[←y];exact CB
 have hR4:au { w:=g,H:=s2.H,loc:=O,X:=J }:=by
  rw[←y];exact hs2.heap.cD (CA hX2 hs2.heap)
 have hsr:bN ⟨(S k).fr,s2.H⟩ { w:=g,H:=s2.H,loc:=O,X:=J } a:=by
  refine⟨rfl,uv M _ (B.fix k hk) d.fr,wb d.defers (fun b h1 h2=>?_) (fun b h1 _=>M.same b (d.heap.X b h1) (d.heap.mL h1)),hR4⟩;have:=M.X b (d.heap.X b h1);exact⟨this.1.2 h1,this.2.2 h2⟩
 obtain⟨loc7,X7,hs7,hle7⟩:=hle _ a hsr;refine⟨{ w:=g,H:=(S (k+1)).H,loc:=loc7,X:=X7 },?_,hs7,M.trans hle7,(hle7.X l (by show l<g.heap.size; exact(fT.1 hl4).1)).1.2 hX2,hl4⟩;rw[←y];rfl
theorem V6{T1 T2:TypeId}{sl:AV}{bh bR bA en:Array Oper}{m:Nat}(hT:yg P T1 T2 sl n rv){f:FuncId}{fd:Func}{r0 r1 r2 r3 b0 b1:Nat}(hf:P.funcs[f]? = some fd)(hbd:eS P f=true)(hb:fd.body=some (ur bh bR bA en r0 r1 r2 r3 b0 b1))(hn:fd.ntmps=19)(hre:fd.results=#[])(ho:uq T1 T2 bh bR bA en)
  (hlen:n≤1048576) (hmm:m≤m') (hr:yh P m' n rv p0 p1 assign body S) {g:Tmp} {s:St} {id wd:Nat} (hg:s.eval (.tmp g)=.clo f [.ptr id 0 wd 0 0]) (hid:s.H[id]? = some (.box [sl])) (h0:bu m ⟨s.fr,s.H.set id .dead⟩ (S 0))
  (E:Env) (a:Act) (y:bN s E a):(Code.rangeFunc (.tmp g) #[p0,p1] assign body).wpIn (fz none) 0 P (fun e a1 u=>e=.normal∧dw m E (S n) a1 u) a E.w:=by
 have W:=y.eval (.tmp g);rw[hg]at W;simp only[rel]at W;obtain⟨cs,W,hcs⟩:=W;obtain⟨c,rfl⟩:∃ c,cs=#[c]:=by
  have:=fI hcs
  match h:cs.toList,this with
  | [c],_=>exact⟨c,eZ (by simpa using h)⟩
 simp only[af,rel]at hcs;obtain⟨⟨⟨bc,oc,hc0⟩,_,hlive⟩,_⟩:=hcs;have hidE:E.H[id]? = some (.box [sl]):=by rw[y.H]; exact hid
 obtain⟨bb,nn,V,hcv⟩:=hlive ⟨_,hidE,rfl⟩;obtain⟨D,hD⟩:∃ D,E.w.heap.size=D:=⟨_,rfl⟩
 have hobj:=y.heap.obj id _ hidE;simp only[aN]at hobj;obtain⟨b',n',hloc',hrow,hcells⟩:=hobj;rw[V]at hloc';obtain⟨rfl,rfl⟩:bb=b'∧nn=n':=by
  have h:=hloc';simp only[aZ,be]at h;exact h
 have J:=Env.pW y.heap id;have hdr:=au.drop y.heap id fun o ho=>by
  rw[hidE]at ho;cases ho;rfl
 have hcp0:rel { w:=E.w,H:=E.H.set id .dead,loc:=E.loc.set id none,X:=E.X } (.cptr [sl]) c:=by
  simp only[rel];refine⟨hT.cl,bb,0,by simpa using hcv,⟨(y.heap.lt id bb nn V).1,?_,(y.heap.lt id bb nn V).2⟩,sO (E:=E) (fun a c h=>bP J a h) rfl hcells⟩;rintro(⟨j,q,M⟩|⟨l,k,q,M⟩)
  case inr=>exact y.heap.cN _ _ _ _ _ _ V M
  simp only[List.getElem?_set]at M;split at M
  ·split at M<;>cases M
  ·rename_i hne
   exact hne (y.heap.inj _ _ _ _ _ V M)
 refine wpIn_rangeFunc ?_;intro fn _;obtain⟨rec,N⟩:∃ rec:Loop,rec={ state:=.ready,pending:=none,fn,tmps:=a.tmps,params:=#[p0,p1],assign,body,defers:=D }:=⟨_,rfl⟩
 obtain⟨u,hw1⟩:∃ u,(E.w.alloc (.deferred (some []))).alloc (.loop rec)=u:=⟨_,rfl⟩
 have hsz:u.heap.size=D+2:=by rw[←hw1,G5,G5,hD]
 have hl1:u.heap[D+1]? = some (.loop rec):=by
  rw[←hw1];have:=agO (E.w.alloc (.deferred (some []))) (.loop rec)
  rwa [G5,hD]at this
 have hold2:∀ b,b<D+1→u.heap[b]? = (E.w.alloc (.deferred (some []))).heap[b]? := fun b hb=>by
  rw[←hw1];show ((E.w.alloc (.deferred (some []))).heap.push _)[b]? = _
  rw[vB,if_neg (by rw[G5,hD]; omega)]
 have hD1:u.heap[D]? = some (.deferred (some [])):=by
  rw[hold2 D (by omega)];have:=agO E.w (.deferred (some []))
  rwa [hD]at this
 have hold:∀ b,b<D→u.heap[b]? = E.w.heap[b]? := fun b hb=>by
  rw[hold2 b (by omega)];show (E.w.heap.push _)[b]? = _
  rw[vB,if_neg (by omega)]
 have hos:dJ E.w u:=by rw[←hw1]; exact⟨rfl,rfl,rfl,by first|exact fun _=>aG _|exact fun _=>eL _ _⟩
 obtain⟨I,B⟩:∃ I:XS,I=⟨fun b=>E.X b∨b=D∨b=D+1,fun b=>E.X.z b∨b=D,E.X.r⟩:=⟨_,rfl⟩
 obtain⟨mk,hmk⟩:∃ mk:Deferred,mk={ target:=.collected D,args:=#[] }:=⟨_,rfl⟩
 have cD:fZ { w:=E.w,H:=E.H.set id .dead,loc:=E.loc.set id none,X:=E.X } { w:=u,H:=E.H.set id .dead,loc:=E.loc.set id none,X:=I } :=
  ⟨rfl, rfl, by show E.w.heap.size ≤ u.heap.size; omega, fun b hb hx => by
   have hb:b<D:=by rw[←hD]; exact hb
   refine⟨fun h=>?_,hold b hb⟩;rw[B]at h;rcases h with h|h|h
   ·exact hx h
   ·omega
   ·omega,fun b hb=>by
   show b<u.heap.size
   rw[B]at hb;rcases hb with h|h|h
   ·have := y.heap.X b h
    omega
   ·omega
   ·omega,by show I.r=E.X.r; rw[B]⟩
 have hs2:bN ⟨s.fr,s.H.set id .dead⟩ { w:=u,H:=E.H.set id .dead,loc:=E.loc.set id none,X:=I } { a with defers:=mk::a.defers }:=by
  refine⟨by rw[y.H],lX cD _ (du J _ y.fr),⟨?_,fun d J=>?_⟩,hdr.cD cD⟩
  ·refine List.nodup_cons.2 ⟨fun h => ?_, y.defers.1⟩
   obtain⟨O,e,h1,U,_⟩:=y.defers.2 mk h;have:=y.heap.X O U;rw[hmk]at e;have e:D=O:=by
    have e:=congrArg Deferred.target e;simpa using e
   omega
  ·rcases bV.1 J with rfl | J
   ·exact⟨D,hmk,hD1,by rw[B]; exact .inr (.inl rfl),by rw[B]; exact .inr rfl⟩
   ·obtain ⟨O, e, h1, U, h3⟩ := y.defers.2 d J
    have:=y.heap.X O U;exact⟨O,e,by rw[show Env.w _=u from rfl,hold O (by omega)]; exact h1,by rw[B]; exact .inl U,by rw[B]; exact .inl h3⟩
 have hle2:E.di m { w:=u,H:=E.H.set id .dead,loc:=E.loc.set id none,X:=I }:=by
  refine J.toM.trans ⟨fun _ _ h=>h,by show E.w.heap.size≤u.heap.size; omega,fun b hb _=>hold b (by rw[←hD]; exact hb),fun b _ h ho=>h ((cD.own b).1 ho),fun _ _ _ h=>⟨h,rfl⟩,fun b hb=>?_,fun l h hh=>by show h<(I.r l).length∧_; rw[B]; exact⟨hh,fun _ hq=>hq⟩,hos,fun _ _ _ o h1 U _=>⟨⟨[],by show I.r _=_; rw[B,cY]⟩,o,h1,U⟩⟩;have hb:b<D:=by rw[←hD]; exact hb
  show (I b↔E.X b)∧(I.z b↔E.X.z b)
  rw[B];exact⟨⟨fun h=>by rcases h with h|h|h; exact h; omega; omega,.inl⟩,⟨fun h=>by rcases h with h|h; exact h; omega,.inl⟩⟩
 obtain⟨loc3,X3,hs3,hle3⟩:=h0 _ _ hs2;have hX3:X3 (D+1):=(hle3.X (D+1) (by show D+1<u.heap.size; omega)).1.2 (by show I (D+1); rw[B]; exact .inr (.inr rfl));have hcp3:rel { w:=u,H:=(S 0).H,loc:=loc3,X:=X3 } (.cptr [sl]) c:=dB (o9 hle3) _ (by simp[AV.closed]) (dB cD.toC _ (by simp[AV.closed]) hcp0);refine⟨D+1,[mk],u,{ target:=.fn (.func f) #[c],args:=#[.func (.yield (D+1)) #[] #[]] },u,f,#[.func (.yield (D+1)) #[] #[],c],u,?_,?_,fun _ _=>trivial,?_,fun h=>(by cases h),?_⟩
 ·rw [← hw1, N, hmk, ← hD]
  exact run_enterLoop_outer _ _ _ _ _
 ·have hcst : a.eval (.const (.func (.yield (D + 1)) #[] #[])) = .func (.yield (D + 1)) #[] #[] := rfl
  simp[resolve,W,hcst,RH]
 ·simp[invoke,Ba hbd]
 ·have hcall:=V3 (P:=P) hT hf hb hn hre ho (l:=D+1) hlen (fun k E'=>bN (S k) E' { a with defers:=mk::a.defers }∧E.di m E'∧E'.X (D+1)∧E'.w.heap[D+1]? = some (.loop rec)) (fun k E' h=>h.1.heap)
   (fun k E1 E2 h hle hR hH=>?_) (c:=c) (fun k E' cs hk h hc=>?_) (E0:={ w:=u,H:=(S 0).H,loc:=loc3,X:=X3 }) ⟨hs3,hle2.trans hle3,hX3,hl1⟩ hcp3
  ·refine hcall.mono fun e w3 ⟨⟨v, hv⟩, E4, hw4, hs4, hle4, hX4, hl4⟩ => ?_
   subst hv;subst hw4;obtain⟨w4,H4,loc4,X4⟩:=E4;have hH4:H4=(S n).H:=hs4.H;subst hH4;have hend:=run_endLoop (P:=P) hl4 (by rw[N]; simp);refine⟨_,_,hend,?_⟩;rw[N];refine⟨rfl,loc4,X4,?_,?_⟩
   ·rw [← N]
    exact hs4.cD (CA hX4 hs4.heap) (KM hs4.defers hl4)
   ·exact(hle4.toX.trans CB).toM (l:=D+1) (fun h=>absurd h (by omega))
  ·obtain ⟨g1, g2, g3, g4⟩ := h
   have hlt:D+1<E1.w.heap.size:=(fT.1 g4).1;refine⟨⟨by rw[hH]; exact g1.H,du hle _ g1.fr,we g1.heap hle g1.defers,hR⟩,g2.trans hle.toM,by rw[hle.X.1]; exact g3,?_⟩;rw[hle.same (D+1) hlt (g1.heap.mL g3)];exact g4
  ·obtain ⟨g1, g2, g3, g4⟩ := h
   rw[N]at g4;obtain⟨fn',tm,as,bo,k1,k2⟩:=V5 hr hk rfl g1 g3 g4 hc;refine⟨fn',tm,as,bo,k1,k2.mono fun e W' ⟨he,E'',hw,q1,q2,q3,q4⟩=>⟨he,E'',hw,⟨q1,g2.trans (q2.mono hmm),q3,by rw[N]; exact q4⟩,o9 q2⟩⟩
end bw
end Go.AL

namespace Go.AL
open Go
variable [Dr]
variable {P:Program}
theorem V7{m m' n:Nat}{rv:Nat→AV}{p0 p1:Tmp}{assign body:Code}{S:Nat→St}{T1 T2:TypeId}{sl:AV}{bh bR bA en:Array Oper}(u:yg P T1 T2 sl n rv){f:FuncId}{fd:Func}{r0 r1 r2 r3 b0 b1:Nat}(v:P.funcs[f]? = some fd)(d:eS P f=true)
  (hb:fd.body=some (ur bh bR bA en r0 r1 r2 r3 b0 b1)) (y:fd.ntmps=19) (k:fd.results=#[]) (ho:uq T1 T2 bh bR bA en)
  (hlen:n≤1048576) (hmm:m≤m') (B:yh P m' n rv p0 p1 assign body S) {g:Tmp} {s:St} {id wd:Nat} (I:s.eval (.tmp g)=.clo f [.ptr id 0 wd 0 0]) (hid:s.H[id]? = some (.box [sl])) (h0:bu m ⟨s.fr,s.H.set id .dead⟩ (S 0)) :
  cU P m (.rangeFunc (.tmp g) #[p0,p1] assign body) s .normal (S n):=fun ro q E a J=>by
 obtain rfl:ro=none:=q.resolve_right (by simp[fE]);exact wpIn_mono (V6 u v d hb y k ho hlen hmm B I hid h0 E a J) fun e M N ⟨he,h⟩=>⟨he,h⟩
structure lg where
 f:FuncId
 T1:TypeId
 T2:TypeId
 w:Nat
 pw:Nat
 agg:Bool
def uw(P:Program)(i:lg):Prop:=∃ fd bh bR bA en r0 r1 r2 r3 b0 b1 e b,P.funcs[i.f]? = some fd∧eS P i.f=true∧fd.body=some (ur bh bR bA en r0 r1 r2 r3 b0 b1)∧fd.ntmps=19∧fd.results=#[]∧uq i.T1 i.T2 bh bR bA en ∧
 eG P i.T1=some (1,false)∧b_ P i.T1=.slice e i.w b∧eG P i.T2=some (i.pw,i.agg)
def ux(agg:Bool)(w:Nat)(row:List AV):AV:=(gx agg w row).getD .undef
theorem V8{i:lg}{e b:Nat}{rows:List (List AV)}(h1:eG P i.T1=some (1,false))(g:b_ P i.T1=.slice e i.w b)(y:eG P i.T2=some (i.pw,i.agg)) (B:(rows.all fun r=>(gx i.agg i.pw r).isSome)=true) :
  yg P i.T1 i.T2 (.list i.w rows) rows.length (fun k=>ux i.agg i.pw (rows.getD k [])):=by
 refine⟨fun H=>?_,?_,fun k q u=>?_,by simp[AV.bq,AV.closed]⟩
 ·simp[gK,h1,gx]
 ·rw [g]
  rfl
 ·have d : k.toNat < rows.length := by omega
  refine⟨rows[k.toNat],?_,fun H=>?_⟩
  ·rw [g]
   simp only[kg];rw[if_pos ⟨trivial,q,u⟩,bI d];rfl
  ·have := cO.1 B rows[k.toNat] (kN d)
   obtain⟨v,h⟩:=pI.1 this;simp only[gK,y,h];unfold ux;rw[ch,bI d,Option.getD_some,h];rfl
def yk(P:Program)(τ:aj)(p0 p1:Tmp)(assign body:Code)(fr:List AV):List (Int × AV)→List ai→(List ai→Tree)→Tree
 | [],H,k=>k H
 | (i,v)::q,H,k=>dW P τ ay assign ⟨(fr.set p0 (.lit (.int .i64 i))).set p1 v,H⟩ fun x s1=>match x with
  | .normal=>dW P τ ay body s1 fun x s2=>match x with
   |.normal=>yk P τ p0 p1 assign body fr q s2.H k
   |_=>.fail
  |_=>.fail
theorem KN(hm:P.follows .mixedOrders=true){τ:aj}(u:ak P τ){p0 p1:Tmp}{assign body:Code}{fr:List AV}{Q:bS→ar→Prop}{k:List ai→Tree}(m:Nat):∀(q:List (Int × AV)) (H:List ai),(yk P τ p0 p1 assign body fr q H k).holds Q →
  ∃ f:Nat→List ai,f 0=H∧(∀ j d,q[j]? = some d→∃ s1 s2:ar,cU P m assign ⟨(fr.set p0 (.lit (.int .i64 d.1))).set p1 d.2,ao (f j)⟩ .normal s1.den∧cU P m body s1.den .normal s2.den∧f (j+1)=s2.H)∧(k (f q.length)).holds Q
 | [],H,h=>⟨fun _=>H,rfl,fun j d g=>by simp at g,h⟩
 | (i,v)::q,H,h=>by
  simp only[yk]at h;obtain⟨x,s1,h1,y⟩:=gC hm u assign _ _ (aM P m assign) h;cases x with
  | normal =>
   obtain⟨x,s2,I,B⟩:=gC hm u body _ _ (aM P m body) y;cases x with
   | normal =>
    obtain⟨f,g1,g2,g3⟩:=KN hm u m q s2.H B;refine⟨fun j=>match j with|0=>H|j+1=>f j,rfl,fun j d g=>?_,g3⟩;cases j with
    | zero =>
     simp only[List.getElem?_cons_zero,aZ]at g;subst g;exact⟨s1,s2,h1,I,g1⟩
    |succ j=>exact g2 j d (by simpa using g)
   |exit _=>exact B.elim
   |ret=>exact B.elim
  |exit _=>exact y.elim
  |ret=>exact y.elim
def ym(agg:Bool)(w:Nat)(rows:List (List AV)):List (Int × AV):=(dG rows.length).map fun(k:Nat)=>((rows.length:Int)-1-k,ux agg w (rows.getD (rows.length-1-k) []))
def CC(P:Program)(τ:aj)(i:lg)(m:Nat)(c:Code)(s:ar):Option Tree :=
 match c with
 | .seq (.seq r3 (.block _ (.rangeFunc (.tmp g) ps assign body))) rest=>match ps.toList,fE assign&&fE body with
  | [p0,p1],true=>some (dW P τ ay r3 s fun x s1=>match x with
   | .normal=>match s1.fr.getD g .undef with
    | .clo f [.ptr id 0 _ 0 0]=>match s1.H[id]? with
     | some (.raw (.box [.list w rows]))=>.side (ad f i.f&&(ad w i.w&&(Nat.ble rows.length 1048576&&((rows.all fun r=>(gx i.agg i.pw r).isSome)&&(nG s1.H.length s1.fr&&Nat.ble m s1.H.length)))))
       (yk P τ p0 p1 assign body s1.fr (ym i.agg i.pw rows) (s1.H.set id (.raw .dead)) fun H=>dW P τ ay rest ⟨s1.fr,H⟩ .done)
     |_=>.fail
    |_=>.fail
   |_=>.fail)
  |_,_=>none
 |_=>none
theorem V9(hm:P.follows .mixedOrders=true){τ:aj}(u:ak P τ){i:lg}(hi:uw P i){m:Nat}{c:Code}{s:ar}{t:Tree}(h:CC P τ i m c s=some t):xk P m c s t:=by
 unfold CC at h;split at h
 case h_2=>cases h
 rename_i r3 b g ps assign body rest;split at h
 case h_2=>cases h
 rename_i p0 p1 N q;cases h;intro Q O;have M:ps=#[p0,p1]:=eZ (by simpa using N);subst M;simp only[aB]at q;obtain⟨x,s1,h1,d⟩:=gC hm u r3 s _ (aM P m r3) O;cases x with
 |exit _=>exact d.elim
 |ret=>exact d.elim
 | normal =>
  simp only[]at d;split at d
  case h_2=>exact d.elim
  rename_i f id wd U;split at d
  case h_2=>exact d.elim
  rename_i w rows hid;simp only[Tree.holds,aB]at d;obtain⟨⟨v,y,B,V,W,I⟩,h3⟩:=d;have v:=bt v;have y:=bt y;have B:=sH B;have I:=sH I;subst v;subst y;obtain⟨F,f0,f1,f2⟩:=KN hm u s1.H.length _ _ h3;obtain⟨x,s',J,h5⟩:=gC hm u rest _ _ (aM P m rest) f2;refine⟨x,s',?_,h5⟩;obtain⟨fd,bh,bR,bA,en,r0,r1,r2,r3',b0,b1,e,bb,q1,q2,q3,q4,q5,q6,q7,q8,q9⟩:=hi;have hlen:(ym i.agg i.pw rows).length=rows.length:=by simp[ym]
  have hR:yh P s1.H.length rows.length (fun k=>ux i.agg i.pw (rows.getD k [])) p0 p1 assign body (fun k=>⟨s1.fr,ao (F k)⟩):=by
   refine⟨q.1,q.2,fun k _=>W,fun k hk=>?_⟩;obtain⟨a1,a2,g1,g2,g3⟩:=f1 k ((rows.length:Int)-1-k,ux i.agg i.pw (rows.getD (rows.length-1-k) [])) (by
    simp[ym,hk])
   refine⟨a1.den,a2.den,g1,g2,?_⟩;rw[g3];exact bu.refl _
  have hS:=V7 (m:=m) (m':=s1.H.length) (P:=P) (V8 q7 q8 q9 V) q1 q2 q3 q4 q5 q6 B I hR (g:=g) (s:=s1.den) (id:=id) (wd:=wd) U (bk hid) (by
   rw[f0,c7];exact bu.refl _)
  have hB:cU P m (.block b (.rangeFunc (.tmp g) #[p0,p1] assign body)) s1.den .normal ⟨s1.fr,ao (F rows.length)⟩:=IE (x:=.normal) hS;rw[hlen]at J;exact wV (wV h1 hB) J
def CD(P:Program)(τ:aj)(i:lg)(m key:Nat)(fn:Func):LT:=⟨fun _ _=>none,fun _ s=>(true,s),fun k s=>match ad k key with
 |true=>CC P τ i m (cutAt fn key) s
 |false=>none⟩
theorem V_(hm:P.follows .mixedOrders=true){τ:aj}(d:ak P τ){i:lg}(hi:uw P i){m key:Nat}{fn:Func} (g:kC key (bG (aR fn))=true):ax P m (CD P τ i m key fn) (aR fn) :=
 ⟨fun _ _ _ _ _ h => (nomatch h), fun _ _ _ => bu.refl _, fun k q hk s t h => by
  simp only[CD]at h;split at h
  ·rename_i e
   have e:=bt e;subst e;rw[Cj g hk];exact V9 hm d hi h
  ·cases h⟩
end Go.AL

namespace Go.AL
open Go
variable [Dr]
def KO(P:Program)(i:lg):Bool :=
 (match eG P i.T1 with
 |some (n,a)=>ad n 1 && !a
 |none=>false)&&((match b_ P i.T1 with
 |.slice _ w _=>ad w i.w
 |_=>false)&&(match eG P i.T2 with
 |some (n,a)=>ad n i.pw&&(a==i.agg)
 |none=>false))
theorem Wa{P:Program}{i:lg}{fd:Func}{bh bR bA en:Array Oper}{r0 r1 r2 r3 b0 b1:Nat}(k:P.funcs[i.f]? = some fd)(hb:eS P i.f=true)(q:fd.body=some (ur bh bR bA en r0 r1 r2 r3 b0 b1))(u:fd.ntmps=19)(v:fd.results=#[])(ho:uq i.T1 i.T2 bh bR bA en)
  (h:KO P i=true):uw P i:=by
 unfold KO at h;simp only[aB]at h;obtain⟨h1,d,g⟩:=h;split at h1
 case h_2=>cases h1
 rename_i n a y;split at d
 case h_2=>cases d
 rename_i e w b B;split at g
 case h_2=>cases g
 rename_i J M I;simp only[aB,Bool.not_eq_true',beq_iff_eq]at h1 g;obtain⟨g1,g2⟩:=h1;obtain⟨g3,g4⟩:=g;have g1:=bt g1;have g3:=bt g3;have d:=bt d;subst g1;subst g2;subst g3;subst g4;subst d;exact⟨fd,bh,bR,bA,en,r0,r1,r2,r3,b0,b1,e,b,k,hb,q,u,v,ho,y,B,I⟩
def aj.yn(P:Program)(τ:aj)(i:lg)(key:Nat)(f:FuncId)(fn:Func) (ks:List (Option (List Kd))):aj:=τ.add f fun args =>
 match (xq P τ (CD P τ i 0 key fn) fn ks args []).val with
 | some v=>match AV.bq args&&v.closed with
  |true=>some (true,v)
  |false=>none
 |none=>none
theorem ak.yn{P:Program}{τ:aj}(h:ak P τ)(hm:P.follows .mixedOrders=true){i:lg}(hi:uw P i){key:Nat}{f:FuncId}{fn:Func}(k:P.funcs[f]? = some fn)(hb:eS P f=true) (q:kC key (bG (aR fn))=true) (ks:List (Option (List Kd))) :
  ak P (τ.yn P i key f fn ks):=h.add hb fun args b v d _=>by
 split at d
 ·rename_i u hu
  split at d
  ·rename_i g
   simp only[aB]at g;cases d;exact dn hm h ks (fun c d=>by
    have:=V_ (m:=0) hm h hi q;unfold aR at this;rw[d]at this;exact this) k g.1 g.2 hu
  ·cases d
 ·cases d
def yo:ai→Bool
 |.vec _ v _=>ad v 0
 |.map ..=>true
 |.aH ..=>true
 |.mm ..=>true
 |.raw (.vec _ v _)=>ad v 0
 |.raw .dead=>false
 |.raw .dI=>false
 |.raw _=>true
theorem Wb{H:List ai}(h:H.all yo=true):wU (ao H):=by
 intro o ho;obtain⟨t,d,rfl⟩:=List.mem_map.1 ho;have:=cO.1 h t d;cases t with
 |vec ks v rows=>simp only[yo]at this; rw[bt this]; rfl
 |map=>rfl
 |aH=>rfl
 |mm=>rfl
 | raw o=>cases o with
  |vec k v rows=>simp only[yo]at this; rw[bt this]; rfl
  |dead=>cases this
  |dI=>cases this
  |box=>rfl
  |map=>rfl
  |iter=>rfl
  |er=>rfl
  |aH=>rfl
  |mm=>rfl
def KP(P:Program)(τ:aj)(fn:Func)(args:List AV)(H:List ai):Option (Bool × AV × List ai) :=
 match H.all yo with
 | true=>match (dW P τ ay (aR fn) ⟨iH args fn.ntmps,H⟩ .done).jQ with
  | some (.normal,s')=>match gQ P s'.den fn.results.toList with
   |some vs=>some (true,c6 vs,s'.H)
   |none=>none
  | some (.ret,s')=>match gQ P s'.den fn.results.toList with
   |some vs=>some (true,c6 vs,s'.H)
   |none=>none
  |_=>none
 |false=>none
def aj.cR(P:Program)(τ:aj)(f:FuncId)(fn:Func):aj where
 pf g:=match ad g f with
  |true=>false
  |false=>τ.pf g
 T g as:=match ad g f with
  |true=>none
  |false=>τ.T g as
 W g as H:=match ad g f with
  |true=>KP P τ fn as H
  |false=>τ.W g as H
 C g as H:=match ad g f with
  |true=>dG H.length
  |false=>τ.C g as H
 I:=τ.I
 N g:=match ad g f with
  |true=>false
  |false=>τ.N g
 U g:=match ad g f with
  |true=>true
  |false=>τ.U g
theorem ak.cR{P:Program}{τ:aj}(h:ak P τ)(hm:P.follows .mixedOrders=true){f:FuncId}{fn:Func}(V:P.funcs[f]? = some fn)(hb:eS P f=true)(N:fn.body.isSome=true):ak P (τ.cR P f fn):=by
 refine⟨fun g as b v d J=>?_,fun g as H b v H' d J=>?_,fun g as H b v H' d A q k=>?_,fun g as H t d Q hQ=>?_,?_⟩
 rotate_left 4
 ·refine ⟨fun g u as H => ?_, fun g y as H b v H' d id o k hid => ?_⟩
  ·simp only [aj.cR] at u ⊢
   cases e:ad g f with
   |true=>rw[e]at u; cases u
   | false =>
    rw[e]at u;exact h.F.1 g u as H
  ·simp only [aj.cR] at y d hid ⊢
   cases e:ad g f with
   |true=>rw[e]at y; cases y
   | false =>
    rw[e]at y d hid;exact h.F.2 g y as H b v H' d id o k hid
 rotate_left 3
 ·obtain ⟨g1, v, H', g2, g3, g4⟩ := h.I g as H t d Q hQ
  refine⟨g1,v,H',g2,fun A q k=>g3 A (fun hm=>q ?_) k,g4⟩;simp only[aj.cR];split
  ·exact eP.2 k
  ·exact hm
 ·simp only [aj.cR] at d
  split at d
  ·cases d
  ·exact h.T g as b v d J
 ·simp only [aj.cR] at d
  split at d
  ·rename_i e
   have e:=bt e;subst e;refine⟨hb,?_⟩;obtain⟨c,M⟩:=pI.1 N;have O:aR fn=c:=by unfold aR; rw[M]
   unfold KP at d;rw[O]at d;split at d
   case h_2=>cases d
   rename_i U;have key:∀{x:bS} {s':ar} {vs:List AV},(dW P τ ay c ⟨iH as fn.ntmps,H⟩ .done).jQ=some (x,s')→(x=.normal∨x=.ret)→gQ P s'.den fn.results.toList=some vs→dv P g as (ao H) (c6 vs) (ao s'.H):=by
    intro x s' vs h1 hx B;obtain⟨x1,s1,h3,h4⟩:=gC hm h c ⟨iH as fn.ntmps,H⟩ .done (aM P (ao H).length c) (uk h1);obtain⟨rfl,rfl⟩:=h4;exact TE V M h3 hx B (Wb U)
   split at d
   ·rename_i s' h1
    split at d
    ·rename_i vs B
     cases d;exact key h1 (.inl rfl) B
    ·cases d
   ·rename_i s' h1
    split at d
    ·rename_i vs B
     cases d;exact key h1 (.inr rfl) B
    ·cases d
   ·cases d
  ·exact h.W g as H b v H' d J
 ·simp only [aj.cR] at d q
  split at d
  ·rename_i e
   rw[e]at q;exact(q (eP.2 k)).elim
  ·rename_i e
   rw[e]at q;exact h.C g as H b v H' d A q k
end Go.AL

namespace Go.AL
open Go Go.ChangeMaps
variable [Dr]
def fp.uy(sp:fp)(s:ar)(b:Nat):ar:=⟨s.fr.set sp.it (.lit (.pointer (some ⟨b,0,none⟩))),s.H⟩
section range
variable {P:Program} {τ:aj} {L:LT} {m:Nat} {sp:fp} {bh bR bA:Array Oper} {body:Code} {ri:List G→List (List G)} {ci:List G→Nat}
def KQ(m:Nat)(sp:fp)(ri:List G→List (List G))(ci:List G→Nat)(E:Env)(rows:List (List G))(d0:List G)(itb mb nn clock:Nat)(a:Act)(w:World):Prop :=
 ∃(d:List G) (loc:List (Option (Nat × Nat))) (X:XS) (seen:Array Nat) (last:Nat) (p:List (List G)),
  cJ sp.st sp.ba p d0=some d∧sp.ba d=itb∧(p++rows.filter fun x => !seen.contains (cV x)).Perm rows ∧
  bN (aQ sp.inv d).den { w:=w,H:=(aQ sp.inv d).den.H,loc:=loc,X:=X } a∧E.di m { w:=w,H:=(aQ sp.inv d).den.H,loc:=loc,X:=X }∧X itb ∧
  w.heap[itb]? = some (.mapIter (some mb) clock seen last)∧clock≤last∧ri d=rows∧ci d=clock∧loc[sp.id]? = some (some (mb,nn))
theorem Wc(hm:P.follows .mixedOrders=true)(ht:ak P τ)(hL:ax P m L body)(hr:jn P τ L m sp bA body)(ho:l_ P sp bh bR bA)
  (hu1:∀ d,(aQ sp.inv d).fr[sp.t1]? = some .undef) (hu2:∀ d,(aQ sp.inv d).fr[sp.t2]? = some .undef) (hut:∀ d,(aQ sp.inv d).fr[sp.it]? = some (.lit (.pointer (some ⟨sp.ba d,0,none⟩))))
  {E:Env} {rows:List (List G)} {d0:List G} {itb mb clock:Nat} {nn:Nat} {r1 b0 b1 r2:Nat}
  (hid2:∀ d,(aQ sp.inv d).H[sp.id]? = some (.map sp.K sp.V (ri d) (ci d))) (hkeep:∀ r d d',sp.st r d=some d'→ri d'=ri d∧ci d'=ci d) (him:sp.id<m) (hsz:E.w.heap.size≤itb) (hn:(rows.map cV).Nodup) (hlt:∀ r∈rows,cV r<clock)
  (hfold:∀ p,p.Perm rows→(cJ sp.st sp.ba p d0).isSome=true) {a:Act} {w:World} (hI:KQ m sp ri ci E rows d0 itb mb nn clock a w) (ro:Option Nat) (hro:ew ro body) :
  (Code.loop (.seq (.region r1 bR false) (.seq (.cond (.tmp sp.t2) .skip (.exit b0)) (.block b1 (.seq (.region r2 bA false) body))))).wpIn (fz ro) 0 P
   (fun e a1 J=>e=.exit b0∧∃ p d,p.Perm rows∧cJ sp.st sp.ba p d0=some d∧dw m E (aQ sp.inv d).den a1 J) a w:=by
 obtain⟨o1,o2,e1,g1,p1,q1,g2,p2,q2⟩:=ho.r1;obtain⟨o3,l,e3,g3,p3,q3⟩:=ho.r2;refine wpIn_loop (KQ m sp ri ci E rows d0 itb mb nn clock) (fun _ w=>(rows.filter fun x => !(w.iterSeen itb).contains (cV x)).length) hI fun a w hI=>?_;obtain⟨d,loc,X,seen,last,p,hf,had,hp,q,hle,W,hit,hcl,hriD,hciD,hlo⟩:=hI;have hidd:=hid2 d;rw[hriD,hciD]at hidd;have hob:=q.heap.obj sp.id _ (bk hidd);simp only[ai.den,aN]at hob;obtain⟨k,nn',ms,hlo',hmb,hre⟩:=hob;have hmbe:k=mb:=by
  have h:=hlo';rw[hlo]at h;simp only[aZ,be]at h;exact h.1.symm
 subst hmbe;have hne:k≠itb:=fun e=>(q.heap.lt sp.id k nn hlo).2 (by rw[e]; exact W);have h10:bR[0]? = some o1:=by
  have:bR.toList[0]? = some o1:=by rw[e1]; rfl
  simpa using this
 have h11:bR[1]? = some o2:=by
  have:bR.toList[1]? = some o2:=by rw[e1]; rfl
  simpa using this
 have hsz1:bR.size=2:=by
  have:bR.toList.length=2:=by rw[e1]; rfl
  simpa using this
 have hiv:a.eval (.tmp sp.it)=.pointer (some ⟨itb,0,none⟩):=by
  have h:=q.eval (.tmp sp.it);have e:(aQ sp.inv d).den.eval (.tmp sp.it)=.lit (.pointer (some ⟨sp.ba d,0,none⟩)):=by
   show (aQ sp.inv d).fr.getD sp.it .undef=_
   rw[ch,hut d];rfl
  rw[e]at h;simp only[rel]at h;rw[h,had]
 obtain⟨hlen,hen⟩:=dT.1 hre;have hl1:(c9 sp.K sp.V rows).length=rows.length:=by simp[c9]
 have M:∀(i:Nat) (e:MapEntry),ms.toList[i]? = some e→∃ r,rows[i]? = some r∧e.born=cV r:=by
  intro i e hi;have h1:=aK hi;have y:i<rows.length:=by omega
  refine⟨rows[i],bI y,?_⟩;exact(hen i (sp.K.av (gi rows[i] 0).row,sp.V.av (gi rows[i] 1).row,(gi rows[i] 2).int.toNat) e (by simp[c9,y]) hi).2.2.1
 have hold:∀ x∈ms.toList,x.born<clock:=by
  intro x I;obtain⟨i,hi⟩:=mB I;obtain⟨r,h1,y⟩:=M i x hi;rw[y];exact hlt r (eM h1)
 have hbn:(ms.toList.map (·.born)).Nodup:=by
  have:ms.toList.map (·.born)=rows.map cV:=by
   apply List.ext_getElem?;intro i;simp only[List.getElem?_map];cases hi:ms.toList[i]? with
   | none =>
    have h1:=List.getElem?_eq_none_iff.1 hi;rw[List.getElem?_eq_none (by omega)];rfl
   | some e =>
    obtain⟨r,h1,y⟩:=M i e hi;rw[h1];simp[y]
  rw[this];exact hn
 refine wpIn_seq (wpIn_region ?_);rw[hsz1];show wpOpsIn (fz ro) 0 P bR _ [0,1] a w
 rw[wpOpsIn_cons];have hlt1:=x8 q (hu1 d);have hlt2:=x8 q (hu2 d);rcases run_next_at (P:=P) w o1.type itb k clock last seen ms clock hit hmb hold hcl with⟨h0,hrun⟩|⟨e,he,J,hw1,hrun⟩
 ·refine jP h10 g1 (x_ p1 hiv hrun) (fun c e => by rw [p1] at e; cases e) ro ?_
  rw[q1,wpOpsIn_cons];refine jP h11 g2 (x9 p2 (nD hlt1) rfl) (fun c e=>by rw[p2]at e; cases e) ro ?_;rw[q2];show (Code.seq _ _).wpIn (fz ro) 0 P _ _ w
  refine wpIn_seq (wpIn_cond_false (nD (by simpa[Act.put]using hlt2)) (wpIn_exit ?_));refine⟨rfl,p,d,?_,hf,loc,X,?_,hle⟩
  ·have:(rows.filter fun x => !seen.contains (cV x))=[]:=by
    rw[List.filter_eq_nil_iff];intro x I hc;obtain⟨i,hi⟩:=mB I;have h1:=aK hi;have y:i<ms.toList.length:=by omega
    obtain⟨r,h3,h4⟩:=M i _ (bI y);rw[hi]at h3;cases h3;have:ms.toList[i]∈(leftOf ms seen).toList:=by
     unfold leftOf;rw[Array.toList_filter];refine List.mem_filter.2 ⟨kN y,?_⟩;rw[h4];exact hc
    have h5:(leftOf ms seen).toList.length=0:=by simpa using h0
    rw[List.length_eq_zero_iff.1 h5]at this;cases this
   rwa [this,cY]at hp
  ·exact(q.nE (hu1 d) (.tuple #[.bool false])).nE (hu2 d) (.bool false)
 ·refine jP h10 g1 (x_ p1 hiv hrun) (fun c e => by rw [p1] at e; cases e) ro ?_
  rw[q1,wpOpsIn_cons];refine jP h11 g2 (x9 p2 (nD hlt1) rfl) (fun c e=>by rw[p2]at e; cases e) ro ?_;rw[q2];show (Code.seq _ _).wpIn (fz ro) 0 P _ _ _
  refine wpIn_seq (wpIn_cond_true (nD (by simpa[Act.put]using hlt2)) (wpIn_skip ?_));show (Code.block _ _).wpIn (fz ro) 0 P _ _ _
  refine wpIn_block (wpIn_seq (wpIn_region ?_));generalize hw2:setBlock J itb (.mapIter (some k) clock (seen.push e.born) clock)=g;have O:J.heap=w.heap:=by rcases hw1 with rfl|rfl<;>rfl
  have hos:dJ w g:=by rw[←hw2]; rcases hw1 with rfl|rfl<;>exact⟨rfl,rfl,rfl,by first|exact fun _=>aG _|exact fun _=>eL _ _⟩
  have hit2':g.heap[itb]? = some (.mapIter (some k) clock (seen.push e.born) clock):=by
   rw[←hw2];exact(G3 (by rw[O]; exact hit)).1
  have N:∀ b,b≠itb→g.heap[b]? = w.heap[b]? := by
   intro b hb;rw[←hw2];show (J.heap.setIfInBounds itb _)[b]? = _
   rw[(G3 (by rw[O]; exact hit)).2 b hb,O]
  have hsize:g.heap.size=w.heap.size:=by
   rw[←hw2];show (J.heap.setIfInBounds itb _).size=_
   simp[O]
  have hmb2:g.heap[k]? = some (.map ms clock):=by rw[N k hne]; exact hmb
  have cD:fZ { w:=w,H:=(aQ sp.inv d).den.H,loc:=loc,X:=X } { w:=g,H:=(aQ sp.inv d).den.H,loc:=loc,X:=X } :=
   ⟨rfl,rfl,by show w.heap.size≤g.heap.size; omega,fun b hb I=>⟨I,N b (fun e=>I (by rw[e]; exact W))⟩,fun b hb=>by show b<g.heap.size; rw[hsize]; exact q.heap.X b hb,rfl⟩
  have hmk:iE g X a.defers:=⟨q.defers.1,fun dd hdd=>by
   obtain⟨D,e,h1,y,h3⟩:=q.defers.2 dd hdd;exact⟨D,e,by rw[N D (fun e=>by rw[e]at h1; rw[hit]at h1; cases h1)]; exact h1,y,h3⟩⟩
  have hs1:=((q.cD cD hmk).nE (hu1 d) (.tuple #[.bool true,e.key,e.val])).nE (hu2 d) (.bool true);obtain⟨hem,hes⟩:=mem_left he;obtain⟨i,hi⟩:=mB hem;obtain⟨r,hri,hrb⟩:=M i e hi;have hrm:=eM hri;have hre2:=iu cD.toC hre;obtain⟨k1,k2,_⟩:=(dT.1 hre2).2 i (sp.K.av (gi r 0).row,sp.V.av (gi r 1).row,(gi r 2).int.toNat) e (by simp[c9,hri]) hi;have hiv1:((a.put (some sp.t1) (.tuple #[.bool true,e.key,e.val])).put (some sp.t2) (.bool true)).eval (.tmp sp.it)=.pointer (some ⟨itb,0,none⟩):=by
   have h:=hs1.eval (.tmp sp.it);have e:(aQ sp.inv d).den.eval (.tmp sp.it)=.lit (.pointer (some ⟨sp.ba d,0,none⟩)):=by
    show (aQ sp.inv d).fr.getD sp.it .undef=_
    rw[ch,hut d];rfl
   rw[e]at h;simp only[rel]at h;rw[h,had]
  have h20:bA[0]? = some o3:=by
   have:bA.toList[0]? = some o3:=by rw[e3]; rfl
   simpa using this
  have hl2:bA.toList.drop 1=l:=by rw[e3]; rfl
  have hsz2:bA.size=l.length+1:=by
   have:bA.toList.length=l.length+1:=by rw[e3]; rfl
   simpa using this
  have hlp:(p++(r::rows.filter fun x => !(seen.push (cV r)).contains (cV x))).Perm rows :=
   (List.Perm.append_left p (xY hn hrm (by rw[←hrb]; exact hes)).symm).trans hp
  have B:∃ d',sp.st r d=some d'∧sp.ba d'=sp.ba d:=by
   have h:=hfold _ hlp;rw[um,hf]at h;simp only[z8,cJ]at h;cases B:sp.st r d with
   |none=>rw[B]at h; cases h
   | some d' =>
    rw[B]at h;simp only[]at h;cases hb:ad (sp.ba d') (sp.ba d)with
    |true=>exact⟨d',rfl,bt hb⟩
    |false=>rw[hb]at h; cases h
  obtain⟨d',B,had'⟩:=B;have hf':cJ sp.st sp.ba (p++[r]) d0=some d':=by
   rw[um,hf];simp only[z8,cJ,B,had'];simp
  obtain⟨s4,ha4,hsat⟩:=Kv hm ht hL hr B;rw[hsz2,zX,List.range'_succ,wpOpsIn_cons];refine jP h20 g3 (Kx p3 hiv1 (run_entry_at (P:=P) g itb k clock seen ms clock e hit2' hmb2 hem hbn)) (fun c e=>by rw[p3]at e; cases e) ro ?_;rw[q3];have hs3:=hs1.iO sp.t3 (v:=.tuple [sp.K.av (gi r 0).row,sp.V.av (gi r 1).row]) (u:=.tuple #[e.key,e.val]) (by simp only[rel]; exact⟨_,rfl,by simp only[af]; exact⟨k1,k2,trivial⟩⟩);refine wQ (pf:=τ.pf) (ops:=bA) l (0+1) (sp.rs r d).den s4.den { w:=g,H:=(aQ sp.inv d).den.H,loc:=loc,X:=X } _ (by rw[←hl2]) (by rw[hl2]at ha4; exact ha4) hs3 (fun a3 w3 hc3=>?_) ro;obtain⟨loc3,r3,hs4,hle3⟩:=hc3;show body.wpIn (fz ro) 0 P _ a3 w3
  refine wpIn_mono (hsat ro hro { w:=w3,H:=s4.den.H,loc:=loc3,X:=X.re r3 } a3 hs4) fun x a4 w4 I=>?_;obtain⟨rfl,loc4,X4,hs5,hle4⟩:=I;have U:({ w:=g,H:=(aQ sp.inv d).den.H,loc:=loc,X:=X }:Env).di m { w:=w4,H:=(aQ sp.inv d').den.H,loc:=loc4,X:=X4 }:=hle3.toM.trans hle4;have hXsz:itb<g.heap.size:=qW hit2';have hnown:¬ Env.own { w:=g,H:=(aQ sp.inv d).den.H,loc:=loc,X:=X } itb:=by
   exact(q.heap.cD cD).mL W
  have hmbsz:k<g.heap.size:=qW hmb2;have hit4:w4.heap[itb]? = some (.mapIter (some k) clock (seen.push e.born) clock):=by rw[U.same itb hXsz hnown]; exact hit2'
  obtain⟨hk1,hk2⟩:=hkeep r d d' B;have hidd':=hid2 d';rw[hk1,hk2,hriD,hciD]at hidd';have hlive:=(U.live sp.id him ⟨_,bk hidd,rfl,fun v _=>ef v⟩ ⟨_,bk hidd',rfl⟩).2;refine⟨⟨d',loc4,X4,seen.push e.born,clock,p++[r],hf',by rw[had',had],?_,hs5,?_,(U.X itb hXsz).1.2 W,hit4,aG _,by rw[hk1,hriD],by rw[hk2,hciD],?_⟩,?_⟩
  ·rw [hrb, gu]
   exact hlp
  ·refine Env.di.trans (E' := { w := g, H := (aQ sp.inv d).den.H, loc := loc, X := X }) ⟨hle.past, ?_, ?_, hle.own, hle.live, hle.X, hle.rl, hle.env.trans hos, hle.grow⟩ U
   ·have := hle.size
    show E.w.heap.size≤g.heap.size
    rw[hsize];exact this
   ·intro b hb hbo
    show g.heap[b]? = _
    rw[N b (by omega)];exact hle.same b hb hbo
  ·rw [show loc4[sp.id]? = loc[sp.id]? from hlive]
   exact hlo
  ·show (rows.filter fun x => !(w4.iterSeen itb).contains (cV x)).length < (rows.filter fun x => !(w.iterSeen itb).contains (cV x)).length
   rw[ya hit4,ya hit];have:=(xY hn hrm (by rw[←hrb]; exact hes)).length_eq;rw[←hrb]at this;simp only[List.length_cons]at this;omega
theorem Wd(hm:P.follows .mixedOrders=true)(ht:ak P τ)(hL:ax P m L body)(hr:jn P τ L m sp bA body)(ho:l_ P sp bh bR bA)
  (hu1:∀ d,(aQ sp.inv d).fr[sp.t1]? = some .undef) (hu2:∀ d,(aQ sp.inv d).fr[sp.t2]? = some .undef) (hut:∀ d,(aQ sp.inv d).fr[sp.it]? = some (.lit (.pointer (some ⟨sp.ba d,0,none⟩))))
  {r1 b0 b1 r2:Nat} (hid2:∀ d,(aQ sp.inv d).H[sp.id]? = some (.map sp.K sp.V (ri d) (ci d))) (hkeep:∀ r d d',sp.st r d=some d'→ri d'=ri d∧ci d'=ci d) (him:sp.id<m)
  {s:ar} {d:List G} {rows:List (List G)} {clock:Nat} (N:s.eval (.tmp sp.y)=.map sp.id) (hid:s.H[sp.id]? = some (.map sp.K sp.V rows clock)) (hn:(rows.map cV).Nodup)
  (hlt:∀ r∈rows,cV r<clock) (hin:∀ b,gW m sp.inv sp.ps (gj sp.opens (sp.uy s b))=some (true,sp.init d b)) (hadr:∀ b,sp.ba (sp.init d b)=b) (I:∀ b,ri (sp.init d b)=rows∧ci (sp.init d b)=clock)
  (hfold:∀ b p,p.Perm rows→(cJ sp.st sp.ba p (sp.init d b)).isSome=true) (E:Env) (a:Act) (k:bN s.den E a) (ro:Option Nat) (hro:ew ro body) {Q:Exit→Act→World→Prop}
  (hQ:∀ O U,(∃ b p d',p.Perm rows∧cJ sp.st sp.ba p (sp.init d b)=some d'∧dw m E (aQ sp.inv d').den O U)→Q .normal O U) :
  wpOpsIn (fz ro) 0 P bh (Exit.then ((Code.block b0 (.loop (.seq (.region r1 bR false) (.seq (.cond (.tmp sp.t2) .skip (.exit b0)) (.block b1 (.seq (.region r2 bA false) body)))))).wpIn (fz ro) 0 P Q) Q) [bh.toList.dropLast.length] a E.w:=by
 obtain⟨o2,ty,e1,g2,p2,q2,M⟩:=ho.r0;have h11:bh[bh.toList.dropLast.length]? = some o2:=by
  have:bh.toList[bh.toList.dropLast.length]? = some o2:=by
   rw[e1];simp
  simpa using this
 have hid':E.H[sp.id]? = some (.map (c9 sp.K sp.V rows) clock):=by
  rw[k.H];exact bk hid
 have hrx:rel E (.map sp.id) (a.eval (.tmp sp.y)):=by
  have:=k.eval (.tmp sp.y)
  rwa [ar.kr,N]at this
 obtain⟨mb,n,ms,hc,hloc,hmb,hre⟩:=oy k.heap hid' hrx;obtain⟨⟨kt,et⟩,M⟩:=pI.1 M;have hmbs:mb<E.w.heap.size:=qW hmb;rw[wpOpsIn_cons];refine jP h11 g2 (Ky p2 hc (run_range_map E.w ty kt et mb ms clock (e_ M) hmb)) (fun c e=>by rw[p2]at e; cases e) ro ?_;rw[q2];show (Code.block _ _).wpIn (fz ro) 0 P _ _ _
 generalize J:E.w.alloc (.mapIter (some mb) clock #[] clock)=g;have hsize:g.heap.size=E.w.heap.size+1:=by rw[←J]; show (E.w.heap.push _).size=_; simp
 have hold:∀ b,b<E.w.heap.size→g.heap[b]? = E.w.heap[b]? := fun b hb=>by rw[←J]; exact(show (E.w.heap.push _)[b]? = _ by rw[vB,if_neg (by omega)])
 have hitn:g.heap[E.w.heap.size]? = some (.mapIter (some mb) clock #[] clock):=by rw[←J]; exact(show (E.w.heap.push _)[E.w.heap.size]? = _ by simp)
 have hos:dJ E.w g:=by rw[←J]; exact⟨rfl,rfl,rfl,by first|exact fun _=>aG _|exact fun _=>eL _ _⟩
 have cD:fZ { w:=E.w,H:=E.H,loc:=E.loc,X:=E.X } { w:=g,H:=E.H,loc:=E.loc,X:=E.X.or fun b=>b=E.w.heap.size } :=
  ⟨rfl, rfl, by show E.w.heap.size ≤ g.heap.size; omega, fun b hb N => ⟨fun h => h.elim N (fun e => absurd hb (by rw [e]; exact pQ _)), hold b hb⟩, fun b hb => by
   show b<g.heap.size
   rcases hb with hb|hb
   ·have := k.heap.X b hb
    omega
   ·omega,rfl⟩
 have hs3:=(k.cD cD (wb (X':=E.X.or fun b=>b=E.w.heap.size) (w':=g) k.defers (fun _ h1 q=>⟨.inl h1,q⟩) fun b h1 _=>hold b (k.heap.X b h1))).iO sp.it (v:=.lit (.pointer (some ⟨E.w.heap.size,0,none⟩))) (u:=.pointer (some ⟨E.w.heap.size,0,none⟩)) (by simp only[rel]);have hs3':bN (sp.uy s E.w.heap.size).den { w:=g,H:=E.H,loc:=E.loc,X:=E.X.or fun b=>b=E.w.heap.size } _:=hs3;obtain⟨loc,X4,hs4,B⟩:=((k_ sp.opens _).trans (k9 (hin E.w.heap.size))) _ _ hs3';have hidd:=hid2 (sp.init d E.w.heap.size);rw[(I _).1,(I _).2]at hidd;have hlive:=(B.live sp.id him ⟨_,hid',rfl,fun v _=>ef v⟩ ⟨_,bk hidd,rfl⟩).2;refine wpIn_block (wpIn_mono (Wc hm ht hL hr ho hu1 hu2 hut (ri:=ri) (ci:=ci) (E:=E) (rows:=rows) (d0:=sp.init d E.w.heap.size) (itb:=E.w.heap.size) (mb:=mb) (nn:=n) (clock:=clock)
  hid2 hkeep him (aG _) hn hlt (hfold _) ?_ ro hro) fun e O U W=>?_)
 ·refine ⟨sp.init d E.w.heap.size, loc, X4, #[], clock, [], rfl, hadr _, ?_, hs4, ?_, (B.X E.w.heap.size (by show _ < g.heap.size; omega)).1.2 (.inr rfl), ?_, aG _, (I _).1, (I _).2, ?_⟩
  ·have : (rows.filter fun x => !(#[] : Array Nat).contains (cV x)) = rows := List.filter_eq_self.2 (fun x _ => by simp)
   rw[List.nil_append,this]
  ·refine Env.di.trans (E' := { w := g, H := E.H, loc := E.loc, X := E.X.or fun b => b = E.w.heap.size }) ⟨fun _ _ h => h, ?_, ?_, fun b _ h => h, fun _ _ _ h => ⟨h, rfl⟩, fun b hb => ⟨⟨fun h => h.elim id fun e => absurd hb (by rw [e]; exact pQ _), .inl⟩, Iff.rfl⟩, fun _ _ h => ⟨h, fun _ W => W⟩, hos, fun _ _ _ o h1 q _ => ⟨⟨[], (cY _).symm⟩, o, h1, q⟩⟩ B
   ·show E.w.heap.size ≤ g.heap.size
    omega
   ·exact fun b hb _=>hold b hb
  ·rw [B.same E.w.heap.size (by show _ < g.heap.size; omega) ?_]
   ·exact hitn
   ·exact(k.heap.cD cD).mL (.inr rfl)
  ·rw [show loc[sp.id]? = E.loc[sp.id]? from hlive]
   exact hloc
 ·obtain ⟨rfl, p, d', h1, q, h3⟩ := W
  simp only[GU,if_true];exact hQ _ _ ⟨_,p,d',h1,q,h3⟩
theorem We(hm:P.follows .mixedOrders=true)(ht:ak P τ)(hL:ax P m L body)(hr:jn P τ L m sp bA body)(ho:l_ P sp bh bR bA)
  (O:∀ d,(aQ sp.inv d).fr[sp.t1]? = some .undef) (U:∀ d,(aQ sp.inv d).fr[sp.t2]? = some .undef) (W:∀ d,(aQ sp.inv d).fr[sp.it]? = some (.lit (.pointer (some ⟨sp.ba d,0,none⟩))))
  {r0 r1 b0 b1 r2:Nat} (J:∀ d,(aQ sp.inv d).H[sp.id]? = some (.map sp.K sp.V (ri d) (ci d))) (B:∀ r d d',sp.st r d=some d'→ri d'=ri d∧ci d'=ci d) (him:sp.id<m)
  {s s1:ar} {d:List G} {rows:List (List G)} {clock:Nat} (hp:fD P τ.pf bh bh.toList.dropLast s.den s1.den) (hx:s1.eval (.tmp sp.y)=.map sp.id) (hid:s1.H[sp.id]? = some (.map sp.K sp.V rows clock)) (hn:(rows.map cV).Nodup)
  (g:∀ r∈rows,cV r<clock) (hin:∀ b,gW m sp.inv sp.ps (gj sp.opens (sp.uy s1 b))=some (true,sp.init d b)) (M:∀ b,sp.ba (sp.init d b)=b) (hri:∀ b,ri (sp.init d b)=rows∧ci (sp.init d b)=clock)
  (I:∀ b p,p.Perm rows→(cJ sp.st sp.ba p (sp.init d b)).isSome=true) (E:Env) (a:Act) (hs:bN s.den E a) (ro:Option Nat) (hro:ew ro body) :
  (kD r0 b0 r1 b1 r2 bh bR bA sp.t2 body).wpIn (fz ro) 0 P (fun e k q=>e=.normal∧∃ b p d',p.Perm rows∧cJ sp.st sp.ba p (sp.init d b)=some d'∧dw m E (aQ sp.inv d').den k q) a E.w:=by
 refine wpIn_seq (wpIn_region ?_);obtain⟨o2,ty,u,_⟩:=ho.r0;have hsz:bh.size=bh.toList.dropLast.length+1:=by
  have h:=congrArg List.length u;simpa using h
 have hl:dG bh.size=sC 0 bh.toList.dropLast.length++[bh.toList.dropLast.length]:=by
  rw[hsz,List.range_succ,zX]
 rw[hl];refine xX (pf:=τ.pf) ro bh.toList.dropLast 0 s.den s1.den E a _ (fun j o v=>?_) hp hs fun k q hc=>?_
 ·have g := aK v
  have:bh.toList[j]? = some o:=by
   rw[u,cK g];exact v
  simpa using this
 ·obtain ⟨N, r1, h1, h2⟩ := hc
  refine Wd hm ht hL hr ho O U W J B him hx hid hn g hin M hri I { w:=q,H:=s1.den.H,loc:=N,X:=E.X.re r1 } k h1 ro hro fun a2 w2 ⟨b,p,d',g1,g2,g3⟩=>?_;exact⟨rfl,b,p,d',g1,g2,dw.after h2.toM g3⟩
theorem Wf(hm:P.follows .mixedOrders=true)(W:ak P τ){rest:Code}{q qr:bp}(hL:ax P m L body)(hr:jn P τ L m sp bA body)(ho:l_ P sp bh bR bA)
  (hu1:∀ d,(aQ sp.inv d).fr[sp.t1]? = some .undef) (hu2:∀ d,(aQ sp.inv d).fr[sp.t2]? = some .undef) (hut:∀ d,(aQ sp.inv d).fr[sp.it]? = some (.lit (.pointer (some ⟨sp.ba d,0,none⟩))))
  {r0 r1 b0 b1 r2:Nat} (hid2:∀ d,(aQ sp.inv d).H[sp.id]? = some (.map sp.K sp.V (ri d) (ci d))) (hkeep:∀ r d d',sp.st r d=some d'→ri d'=ri d∧ci d'=ci d) (him:sp.id<m)
  {rows:List G→List (List G)} {clock:List G→Nat} {pre:List G→ar} (hy:∀ d,(k0 P τ bh bh.toList.dropLast (aQ q.inv d) fun s=>.done .normal s).jQ=some (.normal,pre d)) (u:∀ d,(pre d).eval (.tmp sp.y)=.map sp.id) (hid:∀ d,(pre d).H[sp.id]? = some (.map sp.K sp.V (rows d) (clock d)))
  (hin:∀ d b,gW m sp.inv sp.ps (gj sp.opens (sp.uy (pre d) b))=some (sp.side d b,sp.init d b)) (hadr:∀ d b,sp.ba (sp.init d b)=b) (hri:∀ d b,ri (sp.init d b)=rows d∧ci (sp.init d b)=clock d)
  (hinv:qr.inv=sp.inv) (houts:qr.outs=q.outs) (I:o_ P m rest qr) (hst:∀ d,q.st d=jo sp qr.st (rows d) (clock d) d) :
  o_ P m (.seq (kD r0 b0 r1 b1 r2 bh bR bA sp.t2 body) rest) q:=by
 intro d i d' h;rw[hst]at h;unfold jo at h;cases B:lb (rows d) (clock d)with
 |false=>rw[B]at h; cases h
 | true =>
  rw[B]at h;simp only[cond_true]at h;have hall:=Cs h;obtain⟨hn,hlt⟩:=KA B;have k:∀ b p,p.Perm (rows d)→sp.side d b=true∧∃ d1,cJ sp.st sp.ba p (sp.init d b)=some d1∧qr.st d1=some (some i,d'):=by
   intro b p g;have:=hall b p g;cases M:sp.side d b with
   |false=>rw[M]at this; cases this
   | true =>
    rw[M]at this;simp only[cond_true]at this;cases v:cJ sp.st sp.ba p (sp.init d b)with
    |none=>rw[v]at this; cases this
    | some d1 =>
     rw[v]at this;exact⟨rfl,d1,rfl,this⟩
  obtain⟨_,d1,_,g1⟩:=k 0 (rows d) (oe _);obtain⟨o,N,_⟩:=I d1 i d' g1;refine⟨o,by rw[←houts]; exact N,fun ro O E a hs=>wpIn_seq (wpIn_mono (We hm W hL hr ho hu1 hu2 hut hid2 hkeep him (KF W (hy d)) (u d) (hid d) hn hlt (fun b=>by rw[hin d b,(k b (rows d) (oe _)).1]) (hadr d) (hri d) (fun b p g=>?_) E a hs ro (Ku O.seq1)) fun e a1 w1 hq=>?_)⟩
  ·obtain ⟨_, d2, h2, _⟩ := k b p g
   rw[h2];rfl
  ·obtain ⟨rfl, b, p, d2, g, v, loc, X, hs2, hle⟩ := hq
   obtain⟨_,d3,h3,h4⟩:=k b p g;rw[v]at h3;cases h3;obtain⟨o',U,J⟩:=I d2 i d' h4;rw[N]at U;cases U;rw[hinv]at J;exact wpIn_mono (J ro O.Bg { w:=w1,H:=(aQ sp.inv d2).den.H,loc:=loc,X:=X } a1 hs2) fun x a2 w2 u=>⟨u.1,dw.after hle u.2⟩
theorem ax.Wg(hm:P.follows .mixedOrders=true)(h:ak P τ){fn:Func}{q qr:bp}{r0 b0 r1 b1 r2:Nat}{rows:List G→List (List G)}{clock:List G→Nat}
  (I:∀ d,(aQ sp.inv d).H[sp.id]? = some (.map sp.K sp.V (ri d) (ci d))) (u:∀ r d d',sp.st r d=some d'→ri d'=ri d∧ci d'=ci d) (M:fj sp.id m=true) (hn:kC q.key (bG (aR fn))=true) (hL:ax P m L (aR fn))
  (k:cutAt fn q.key=.seq (kD r0 b0 r1 b1 r2 (lf (cutAt fn q.key)) (yf (cutAt fn q.key)) (nF (cutAt fn q.key)) sp.t2 (qZ (cutAt fn q.key))) (qY (cutAt fn q.key)))
  (ho:(yc P sp (lf (cutAt fn q.key))&&yd sp (yf (cutAt fn q.key))&&ye sp (nF (cutAt fn q.key)))=true)
  (hr:jn P τ L m sp (nF (cutAt fn q.key)) (qZ (cutAt fn q.key)))
  (N:∀ d,(aQ sp.inv d).fr[sp.t1]? = some .undef) (O:∀ d,(aQ sp.inv d).fr[sp.t2]? = some .undef) (U:∀ d,(aQ sp.inv d).fr[sp.it]? = some (.lit (.pointer (some ⟨sp.ba d,0,none⟩))))
  {pre:List G→ar} (hy:∀ d,(k0 P τ (lf (cutAt fn q.key)) (lf (cutAt fn q.key)).toList.dropLast (aQ q.inv d) fun s=>.done .normal s).jQ=some (.normal,pre d)) (hx:∀ d,(pre d).eval (.tmp sp.y)=.map sp.id) (hid:∀ d,(pre d).H[sp.id]? = some (.map sp.K sp.V (rows d) (clock d)))
  (W:∀ d b,gW m sp.inv sp.ps (gj sp.opens (sp.uy (pre d) b))=some (sp.side d b,sp.init d b)) (J:∀ d b,sp.ba (sp.init d b)=b) (hri:∀ d b,ri (sp.init d b)=rows d∧ci (sp.init d b)=clock d)
  (hinv:qr.inv=sp.inv) (v:qr.outs=q.outs) (B:fm P τ L m (qY (cutAt fn q.key)) qr) (hst:∀ d,q.st d=jo sp qr.st (rows d) (clock d) d) :
  ax P m (L.dY m q) (aR fn):=by
 refine ax.KB hn hL fun g=>?_;rw[k]at g;obtain⟨hLb,hLr⟩:=KD g;simp only[aB]at ho;rw[k];exact Wf hm h hLb hr (KC ho.1.1 ho.1.2 ho.2) N O U I u (by rw[←j8]; exact M) hy hx hid W J hri hinv v (B.sat hm h hLr) hst
end range
end Go.AL

namespace Go.AL
open Go
variable [Dr]
theorem KR{a:G}{l:List G}:gi (a::l) 0=a:=rfl
theorem KS{a:G}{l:List G}{n:Nat}:gi (a::l) (n+1)=gi l n:=rfl
theorem Wh{n:Int}:(G.i n).int=n:=rfl
theorem Wi{n:Nat}:ad n n=true:=Nat.beq_refl n
def CE(sp:fp)(tl:List G→Option (Option Nat × List G))(rows:List (List G))(clock:Nat)(d:List G):Option (Option Nat × List G) :=
 match rows with
 | [x]=>bif lb [x] clock then bif sp.side d 0 then (cJ sp.st sp.ba [x] (sp.init d 0)).bind tl else none else none
 |_=>none
theorem Wj{sp:fp}{tl:List G→Option (Option Nat × List G)}{rows:List (List G)}{clock:Nat}{d:List G}{r:Option Nat × List G}
  (k:∀ b,sp.side d b=sp.side d 0) (q:∀ x b,(cJ sp.st sp.ba [x] (sp.init d b)).bind tl=(cJ sp.st sp.ba [x] (sp.init d 0)).bind tl)
  (h:CE sp tl rows clock d=some r):jo sp tl rows clock d=some r:=by
 unfold CE at h;split at h
 case h_2=>cases h
 rename_i x;cases h1:lb [x] clock with
 |false=>rw[h1]at h; cases h
 | true =>
  cases g:sp.side d 0 with
  |false=>rw[h1,g]at h; cases h
  | true =>
   rw[h1,g]at h;unfold jo;rw[h1];refine Kz fun b p u=>?_;rw[List.perm_singleton.1 u,k b,g,cond_true,q x b];exact h
theorem Wk{st:List G→List G→Option (List G)}{ba:List G→Nat}{x e:List G}:cJ st ba [x] e=(st x e).bind fun d'=>bif ad (ba d') (ba e) then some d' else none:=by
 simp only[cJ];cases st x e<;>rfl
theorem Wl{α β:Type}{c:Bool}{a b:Option α}{f:α→Option β}:(bif c then a else b).bind f=bif c then a.bind f else b.bind f:=by
 cases c<;>rfl
theorem Wm{c:Bool}{X Y:Option (Option Nat × List G)}{K:Nat→List G→Option (List G)}{r:List G}(h:∀ v,X=some v→Y=some v)(d:aO c (bU X) K=some r):aO c (bU Y) K=some r:=by
 cases X with
 |some v=>rw[h v rfl]; exact d
 |none=>cases c<;>cases d
end Go.AL

namespace Go.AL
open Go
variable [Dr]
end Go.AL
