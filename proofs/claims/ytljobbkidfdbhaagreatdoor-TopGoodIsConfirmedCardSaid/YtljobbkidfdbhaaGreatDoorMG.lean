/-
 What is proved here: the function that slices.Backward hands back,called with a round's body: the rounds come from the last row to the first one. No program in sight; no condition.
-/
import Derived.Test.YtljobbkidfdbhaaGreatDoorMD
import Derived.Test.YtljobbkidfdbhaaGreatDoorMC
import Derived.Lib.LaidTab
import Derived.Sort.Grow
import Derived.Deep.Draws
set_option linter.all false
open Array renaming getElem?_push→wv,ext'→fc,getElem?_eq_some_iff→gb
open Bool renaming and_eq_true→ax
open Go.Deferred renaming ofValue→QY
open Go.Exit renaming inBlock→Hh
open Go.MapKept renaming heap_set→Hq
open Go.World renaming putObj_heap_other→Hk,putObj_heap_same→ae0,size_alloc→Hr,alloc_heap_new→ae1
open List renaming append_nil→cO,append_assoc→gG,getElem?_append_left→cI,getElem?_eq_getElem→bI,mem_of_getElem?→eT,all_eq_true→cM,getD_eq_getElem?_getD→cf,mem_cons→bW,getElem?_of_mem→nc,replicate→bM,mem_cons_self→cW,range'→tc,range→dv,mem_range→eC,range_eq_range'→AQ,getElem_mem→nm
open List.Perm renaming refl→oO
open Nat renaming le_refl→aB,le_add_right→eS,lt_of_lt_of_le→dn,zero_le→er,beq→ad,eq_of_beq_eq_true→br,blt→fe,blt_eq→kC,le_of_ble_eq_true→th,lt_irrefl→qo
open Option renaming isSome_iff_exists→qf,bind_some→AW
open Option.some renaming injEq→aV
open Prod.mk renaming injEq→ba
namespace Go.AL
open Go
variable [Dr]
theorem Db{P:Program}{pf:FuncId→Bool}{ops:Array Oper}{o:Oper}{s:St}{v:AV}(d:o.guard=none)(g:cG pf o.op=.read)(h:eF P s.eval s.H o.op=some v):Yields P pf ops o s v s.H:=by
 unfold Yields;rw[show bO ops s.fr o=some true from by unfold bO; rw[d]];simp only[g];exact⟨trivial,h⟩
theorem jL{P:Program}{pf:FuncId→Bool}{ops:Array Oper}{o:Oper}{s:St}{v:AV}(d:o.guard=none)(g:cG pf o.op=.pure)(h:gL P s.eval o.op=some v):Yields P pf ops o s v s.H:=by
 unfold Yields;rw[show bO ops s.fr o=some true from by unfold bO; rw[d]];simp only[g];exact⟨trivial,.inl h⟩
structure uX (S T:TypeId) (bg bQ bA ew:Array Oper):Prop where
 r0:∃ o1 o2 o3 o4 t t',bg.toList=[o1,o2,o3,o4]∧(o1.guard=none∧o1.op=.load S (.tmp 1)∧o1.dst=some 4)∧(o2.guard=none∧o2.op=.call { callee:=.builtin .len,args:=#[.tmp 4],argTypes:=#[S] }∧o2.dst=some 5) ∧
  (o3.guard=none∧o3.op=.binOp .sub t (.tmp 5) (.const (.int .i64 1)) t'∧o3.dst=some 6)∧(o4.guard=none∧o4.op=.assign (.tmp 6)∧o4.dst=some 3)
 r1:∃ o1 o2 t t',bQ.toList=[o1,o2]∧(o1.guard=none∧o1.op=.move (.tmp 3)∧o1.dst=some 7)∧(o2.guard=none∧o2.op=.binOp .geq t (.tmp 7) (.const (.int .i64 0)) t'∧o2.dst=some 8)
 r2:∃ o1 o2 o3 t t',bA.toList=[o1,o2,o3]∧(o1.guard=none∧o1.op=.move (.tmp 3)∧o1.dst=some 9)∧(o2.guard=none∧o2.op=.binOp .sub t (.tmp 9) (.const (.int .i64 1)) t'∧o2.dst=some 10)∧(o3.guard=none∧o3.op=.assign (.tmp 10)∧o3.dst=some 3)
 r3:∃ o1 o2 o3 o4 o5 o6 o7 o8 t tys,ew.toList=[o1,o2,o3,o4,o5,o6,o7,o8]∧(o1.guard=none∧o1.op=.move (.tmp 0)∧o1.dst=some 11)∧(o2.guard=none∧o2.op=.move (.tmp 3)∧o2.dst=some 12)∧(o3.guard=none∧o3.op=.load S (.tmp 1)∧o3.dst=some 13) ∧
  (o4.guard=none∧o4.op=.move (.tmp 3)∧o4.dst=some 14)∧(o5.guard=none∧o5.op=.indexAddr S (.tmp 13) (.tmp 14)∧o5.dst=some 15)∧(o6.guard=none∧o6.op=.load T (.tmp 15)∧o6.dst=some 16) ∧
  (o7.guard=none∧o7.op=.call { callee:=.value (.tmp 11),args:=#[.tmp 12,.tmp 16],argTypes:=tys }∧o7.dst=some 17)∧(o8.guard=none∧o8.op=.unOp .not t (.tmp 17)∧o8.dst=some 18)
def uY(bg bQ bA ew:Array Oper)(r0 r1 r2 r3 b0 b1:Nat):Code :=
 .seq (.region r0 bg false) (.block b0 (.loop (.seq (.seq (.region r1 bQ false) (.cond (.tmp 8) .skip (.exit b0))) (.seq (.block b1 (.seq (.region r3 ew false) (.cond (.tmp 18) .ret .skip))) (.region r2 bA false)))))
def jM(y cp:AV)(i:AV):List AV:=[y,cp,.undef,i,.undef,.undef,.undef,.undef,.undef,.undef,.undef,.undef,.undef,.undef,.undef,.undef,.undef,.undef,.undef]
structure yW (P:Program) (S T:TypeId) (sl:AV) (n:Nat) (rv:Nat→AV):Prop where
 load:∀ H,gU P S (.cptr [sl]) H=some sl
 len:xy (b9 P S) sl=some (.lit (.int .i64 (n:Nat)))
 idx:∀ i:Int,0≤i→i<n→∃ cells,kI (b9 P S) sl (.lit (.int .i64 i))=some (.cptr cells)∧∀ H,gU P T (.cptr cells) H=some (rv i.toNat)
 cl:AV.bp [sl]=true
end Go.AL
namespace Go.AL
open Go
variable [Dr]
section bw
variable {P:Program} {pf:FuncId→Bool} {S T:TypeId} {sl:AV} {n:Nat} {rv:Nat→AV} {bg bQ bA ew:Array Oper}
theorem K6{E:Env}:∀{as d:List AV} {vs:List Value},af E as vs→as.length=d.length→(∀(i:Nat) (b:AV),d[i]? = some b→b=.undef∨as[i]? = some b)→af E d vs
 | [],[],[],_,_,_=>by simp[af]
 | [],[],_::_,h,_,_=>by simp[af]at h
 |_::_,[],_,_,h,_=>by simp at h
 | [],_::_,_,_,h,_=>by simp at h
 |_::_,_::_,[],h,_,_=>by simp[af]at h
 | a::as,b::d,v::vs,h,g,hm=>by
  simp only[af]at h⊢;refine⟨?_,K6 h.2 (by simpa using g) fun i k hb=>hm (i+1) k (by simpa using hb)⟩;rcases hm 0 b rfl with rfl|e
  ·simp[rel]
  ·have e : a = b := by simpa using e
   rw[←e];exact h.1
def Env.gA(E:Env):Env:={ E with X:=⟨E.X.x,fun _=>False,E.X.r⟩ }
theorem Dc{E:Env}(h:aq E.gA):gk E.gA E:=⟨rfl,rfl,aB _,fun b _ d=>⟨d,rfl⟩,h.X,rfl⟩
theorem K7{w:World}{X:XS}{l:List Deferred}(h:iT w X l)(g:∀ b,¬ X.z b):l=[]:=by
 cases l with
 |nil=>rfl
 | cons d l =>
  obtain⟨D,_,_,_,k⟩:=h.2 d cW;exact(g D k).elim
theorem Dd{J:Env→Prop}(q:∀ E E',J E→E.le E'→aq E'→E'.H=E.H→J E'){id:Nat}{ops:Array Oper}{fr fr':List AV}{E:Env}{a:Act}{Q:Exit→Act→World→Prop}(u:bN ⟨fr,E.H⟩ E.gA a)(v:J E)
  (h:fI P pf ops ops.toList ⟨fr,E.H⟩ ⟨fr',E.H⟩) (y:∀ g E',J E'→bN ⟨fr',E'.H⟩ E'.gA g→Q .normal g E'.w):(Code.region id ops false).wpIn (fz none) 0 P Q a E.w :=
 IY u h (fun g w' B=>by
  obtain⟨k,r',h1,d⟩:=B;exact y g { w:=w',H:=E.H,loc:=k,X:=E.X.re r' } (q _ _ v ⟨d.past,d.size,d.same,d.own,d.live,⟨rfl,rfl⟩,d.rl,d.env,d.grow⟩ (h1.heap.cC (Dc (E:={ w:=w',H:=E.H,loc:=k,X:=E.X.re r' }) h1.heap)) rfl) h1) none
theorem K8{J:Env→Prop}(u:∀ E E',J E→E.le E'→aq E'→E'.H=E.H→J E'){ops:Array Oper}{l:List Oper}{k:Nat}{rest:List Nat}{fr fr':List AV}{E:Env}{a:Act}{Q:Exit→Act→World→Prop}
  (v:∀(j:Nat) (o:Oper),l[j]? = some o→ops[k+j]? = some o) (y:bN ⟨fr,E.H⟩ E.gA a) (B:J E)
  (h:fI P pf ops l ⟨fr,E.H⟩ ⟨fr',E.H⟩) (I:∀ g E',J E'→bN ⟨fr',E'.H⟩ E'.gA g→wpOpsIn (fz none) 0 P ops Q rest g E'.w):wpOpsIn (fz none) 0 P ops Q (tc k l.length++rest) a E.w :=
 yK none l k _ _ E.gA a rest v h y (fun g w' M=>by
  obtain⟨q,r',h1,d⟩:=M;exact I g { w:=w',H:=E.H,loc:=q,X:=E.X.re r' } (u _ _ B ⟨d.past,d.size,d.same,d.own,d.live,⟨rfl,rfl⟩,d.rl,d.env,d.grow⟩ (h1.heap.cC (Dc (E:={ w:=w',H:=E.H,loc:=q,X:=E.X.re r' }) h1.heap)) rfl) h1)
theorem K9{E E':Env}:∀{fr:List AV} {vs:List Value},af E fr vs→(∀ b∈fr,b=.undef∨(∃ v,b=.lit v)∨∀ c,rel E b c→rel E' b c)→af E' fr vs
 | [],[],_,_=>by simp[af]
 | [],_::_,h,_=>by simp[af]at h
 |_::_,[],h,_=>by simp[af]at h
 | b::fr,v::vs,h,hb=>by
  simp only[af]at h⊢;refine⟨?_,K9 h.2 fun x d=>hb x (List.mem_cons_of_mem _ d)⟩;rcases hb b cW with rfl|⟨u,rfl⟩|h'
  ·simp[rel]
  ·simpa only[rel]using h.1
  ·exact h' _ h.1
theorem im{ops:Array Oper}{o:Oper}{l:List Oper}{fr:List AV}{H:List ab}{s':St}{v:AV}{d:Tmp}(h:Yields P pf ops o ⟨fr,H⟩ v H)(g:o.dst=some d)(h':fI P pf ops l ⟨fr.set d v,H⟩ s'):fI P pf ops (o::l) ⟨fr,H⟩ s' :=
 ⟨v, H, h, by
  simp only[St.put,iV,g];exact h'⟩
theorem uZ{ops:Array Oper}{s:St}:fI P pf ops [] s s:=rfl
theorem K_{t:TypeId}{k:Bool}{a b:Int}(h:ao (a-b)=true):gj P .sub t k (.lit (.int .i64 a)) (.lit (.int .i64 b))=some (.lit (.int .i64 (a-b))):=by
 simp only[gj,gT,if_true,lg];rw[po h]
theorem Vh{t:TypeId}{k:Bool}{a b:Int}:gj P .geq t k (.lit (.int .i64 a)) (.lit (.int .i64 b))=some (.lit (.bool (decide (a ≥ b)))):=by
 simp only[gj,gT,if_true,lg]
theorem De{ops:Array Oper}{l:List Oper}(h:ops.toList=l)(i:Nat):ops[i]? = l[i]? := by rw[←h]; simp
theorem Vi(hT:yW P S T sl n rv){f:FuncId}{fn:Func}{r0 r1 r2 r3 b0 b1:Nat}(hf:P.funcs[f]? = some fn)(hb:fn.body=some (uY bg bQ bA ew r0 r1 r2 r3 b0 b1))(hn:fn.ntmps=19)(hr:fn.results=#[])(ho:uX S T bg bQ bA ew)
  {l:Nat} (hlen:n≤1048576) (J:Nat→Env→Prop) (M:∀ k E,J k E→aq E) (B:∀ k E E',J k E→E.le E'→aq E'→E'.H=E.H→J k E')
  {c:Value}
  (hround:∀ k E (cs:Array Value),k<n→J k E→af E [.lit (.int .i64 ((n:Int)-1-k)),rv (n-1-k)] cs.toList→YieldAt (fz none) 0 P l cs E.w fun e W'=>e=.returned (.bool true)∧∃ E',E'.w=W'∧J (k+1) E'∧E.bF E')
  {E0:Env} (h0:J 0 E0) (hcp:rel E0 (.cptr [sl]) c):CallsIn (fz none) 0 P f #[.func (.yield l) #[] #[],c] E0.w fun e W'=>(∃ v,e=.returned v)∧∃ E',E'.w=W'∧J n E':=by
 obtain⟨o1,o2,o3,o4,t1,t2,q0,⟨g1,p1,d1⟩,⟨g2,p2,d2⟩,⟨g3,p3,d3⟩,⟨g4,p4,d4⟩⟩:=ho.r0;refine callsIn_of_wp_marks hf hb trivial ?_;have hin:∀ j:Int,0≤j→j≤n→ao (j-1)=true:=fun j h1 h2=>kP.2 ⟨by omega,by omega⟩;obtain⟨y,hy⟩:∃ y:AV,y=.lit (.func (.yield l) #[] #[]):=⟨_,rfl⟩
 obtain⟨cp,U⟩:∃ cp:AV,cp=.cptr [sl]:=⟨_,rfl⟩
 rw[←U]at hcp;have hs0:bN ⟨y::cp::bM 17 .undef,E0.H⟩ E0.gA { tmps:=#[.func (.yield l) #[] #[],c]++Array.replicate (fn.ntmps-2) undef,defers:=[] }:=by
  have hE0:aq E0.gA:=(M 0 E0 h0).cC (qT (M 0 E0 h0));refine⟨rfl,?_,oR _ _,hE0⟩;rw[hn];simp only[Array.toList_append,Array.toList_replicate];show af E0.gA ([y,cp]++bM 17 .undef) ([.func (.yield l) #[] #[],c]++bM 17 undef)
  refine jV (by simp only[af]; exact⟨by rw[hy]; simp[rel],tW (qT (M 0 E0 h0)) _ hcp,trivial⟩) ?_;exact tV (bM 17 undef)
 refine wpIn_seq (Dd (pf:=fun _=>false) (J:=J 0) (B 0) hs0 h0 (fr':=[y,cp,.undef,.lit (.int .i64 ((n:Int)-1)),sl,.lit (.int .i64 (n:Int)),.lit (.int .i64 ((n:Int)-1)),.undef,.undef,.undef,.undef,.undef,.undef,.undef,.undef,.undef,.undef,.undef,.undef]) ?_ fun a1 E1 hj1 hs1=>?_)
 ·rw [q0]
  refine im (v:=sl) (Db g1 (by rw[p1]; rfl) ?_) d1 (im (v:=.lit (.int .i64 (n:Int))) (jL g2 ?_ ?_) d2 (im (v:=.lit (.int .i64 ((n:Int)-1))) (jL g3 (by rw[p3]; rfl) ?_) d3
   (im (v:=.lit (.int .i64 ((n:Int)-1))) (jL g4 (by rw[p4]; rfl) ?_) d4 ?_)))
  ·rw [p1]
   show gU P S cp E0.H=_
   rw[U];exact hT.load _
  ·rw [p2]
   rfl
  ·rw [p2]
   show xy (b9 P S) sl=_
   exact hT.len
  ·rw [p3]
   exact K_ (P:=P) (t:=t1) (k:=lq (Operand.tmp 5)||lq (Operand.const (.int .i64 1))) (hin (n:Int) (by omega) (by omega))
  ·rw [p4]
   rfl
  ·exact uZ
 have q:∀{E:Env} {a:Act} {fr:List AV} {i:AV},bN ⟨fr,E.H⟩ E.gA a→fr.length=19→fr[0]? = some y→fr[1]? = some cp→fr[3]? = some i→bN ⟨jM y cp i,E.H⟩ E.gA a:=by
  intro E a fr i h h19 e0 e1 e3;refine⟨rfl,K6 h.fr (by rw[h19]; rfl) fun j b hb=>?_,h.defers,h.heap⟩
  match j,hb with
  |0,hb=>exact .inr (by rw[e0]; exact hb)
  |1,hb=>exact .inr (by rw[e1]; exact hb)
  |3,hb=>exact .inr (by rw[e3]; exact hb)
  |2,hb=>exact .inl (by cases hb; rfl)
  | j+4,hb =>
   left;have hx:jM y cp i=[y,cp,.undef,i]++bM 15 .undef:=rfl;rw[hx,List.getElem?_append_right (by simp)]at hb;have:=eT hb;exact(List.mem_replicate.1 this).2
 refine wpIn_block (wpIn_loop (fun a w=>∃ k E,E.w=w∧k≤n∧J k E∧bN ⟨jM y cp (.lit (.int .i64 ((n:Int)-1-k))),E.H⟩ E.gA a)
  (fun a _=>match a.eval (.tmp 3)with | .int _ i=>(i+1).toNat|_=>0) ⟨0,E1,rfl,er _,hj1,q hs1 rfl rfl rfl (by simp)⟩ ?_)
 rintro a _ ⟨k,E,rfl,hkl,hj,hs⟩;obtain⟨i1,i2,t3,t4,qq1,⟨ga1,pa1,da1⟩,⟨ga2,pa2,da2⟩⟩:=ho.r1;obtain⟨j1,j2,j3,t5,t6,qq2,⟨gb1,pb1,db1⟩,⟨gb2,pb2,db2⟩,⟨gb3,pb3,db3⟩⟩:=ho.r2;obtain⟨u1,u2,u3,u4,u5,u6,N,u8,t7,tys,V,⟨gc1,pc1,dc1⟩,⟨gc2,pc2,dc2⟩,⟨gc3,pc3,dc3⟩,⟨gc4,pc4,dc4⟩,⟨gc5,pc5,dc5⟩,⟨gc6,pc6,dc6⟩,⟨gc7,pc7,dc7⟩,⟨gc8,pc8,dc8⟩⟩:=ho.r3;obtain⟨i,hi⟩:∃ i:Int,i=(n:Int)-1-k:=⟨_,rfl⟩
 rw[←hi]at hs;have hmu:a.eval (.tmp 3)=.int .i64 i:=by
  have:=hs.eval (.tmp 3);simpa[St.eval,jM,rel]using this
 refine wpIn_seq (wpIn_seq (Dd (pf:=fun _=>false) (J:=J k) (B k) hs hj (fr':=((jM y cp (.lit (.int .i64 i))).set 7 (.lit (.int .i64 i))).set 8 (.lit (.bool (decide (i ≥ 0))))) ?_ fun a2 O hj2 hs2=>?_))
 ·rw [qq1]
  refine im (v:=.lit (.int .i64 i)) (jL ga1 (by rw[pa1]; rfl) (by rw[pa1]; rfl)) da1 (im (v:=.lit (.bool (decide (i ≥ 0)))) (jL ga2 (by rw[pa2]; rfl) ?_) da2 uZ);rw[pa2];exact Vh (P:=P) (t:=t3) (k:=lq (Operand.tmp 7)||lq (Operand.const (.int .i64 0)))
 have h8:a2.eval (.tmp 8)=.bool (decide (i ≥ 0)):=by
  have:=hs2.eval (.tmp 8);simpa[St.eval,jM,rel]using this
 by_cases W:i ≥ 0
 ·have hkl' : k < n := by omega
  refine wpIn_cond_true (by rw[h8]; simp[W]) (wpIn_skip ?_);have hs2':=q hs2 rfl rfl rfl rfl;show (Code.seq _ _).wpIn (fz none) 0 P _ _ _
  refine wpIn_seq (wpIn_block (wpIn_seq (wpIn_region ?_)));obtain⟨cells,hcells,hcell2⟩:=hT.idx i W (by omega);have hsz:ew.size=8:=by
   have:ew.toList.length=8:=by rw[V]; rfl
   simpa using this
  rw[hsz];show wpOpsIn (fz none) 0 P ew _ (tc 0 6++[6,7]) a2 O.w
  have hpos:∀(j:Nat) (o:Oper),[u1,u2,u3,u4,u5,u6][j]? = some o→ew[0+j]? = some o:=by
   intro j o I;rw[De V];have hlt:j<6:=by simpa using aL I
   rw[Nat.zero_add,show [u1,u2,u3,u4,u5,u6,N,u8]=[u1,u2,u3,u4,u5,u6]++[N,u8] from rfl,cI (by simpa using hlt)];exact I
  refine K8 (pf:=fun _=>false) (J:=J k) (l:=[u1,u2,u3,u4,u5,u6]) (k:=0) (B k) hpos hs2' hj2
   (fr':=[y,cp,.undef,.lit (.int .i64 i),.undef,.undef,.undef,.undef,.undef,.undef,.undef,y,.lit (.int .i64 i),sl,.lit (.int .i64 i),.cptr (cells),rv i.toNat,.undef,.undef]) ?_ fun a3 d hj3 g=>?_
  ·refine im (v:=y) (jL gc1 (by rw [pc1]; rfl) (by rw [pc1]; rfl)) dc1 (im (v:=.lit (.int .i64 i)) (jL gc2 (by rw [pc2]; rfl) (by rw [pc2]; rfl)) dc2 (im (v:=sl) (Db gc3 (by rw [pc3]; rfl) ?_) dc3
    (im (v:=.lit (.int .i64 i)) (jL gc4 (by rw[pc4]; rfl) (by rw[pc4]; rfl)) dc4 (im (v:=.cptr (cells)) (jL gc5 (by rw[pc5]; rfl) ?_) dc5 (im (v:=rv i.toNat) (Db gc6 (by rw[pc6]; rfl) ?_) dc6 uZ)))))
   ·rw [pc3]
    show gU P S cp O.H=_
    rw[U];exact hT.load _
   ·rw [pc5]
    exact hcells
   ·rw [pc6]
    exact hcell2 O.H
  ·have h11:a3.eval (.tmp 11)=.func (.yield l) #[] #[]:=by
    have:=g.eval (.tmp 11);rw[show St.eval _ (.tmp 11)=y from rfl,hy]at this;simpa only[rel]using this
   have hin2:i.toNat=n-1-k:=by omega
   have hE3:gk d.gA d:=Dc g.heap;have hrel:af d [.lit (.int .i64 ((n:Int)-1-k)),rv (n-1-k)] (#[a3.eval (.tmp 12),a3.eval (.tmp 16)]:Array Value).toList:=by
    rw[←hi,←hin2];simp only[af];exact⟨tW hE3 _ (g.eval (.tmp 12)),tW hE3 _ (g.eval (.tmp 16)),trivial⟩
   obtain⟨fn',tmps',asg,bod,hy1,hR⟩:=hround k d _ hkl' hj3 hrel;rw[wpOpsIn_cons];unfold wpOpIn;have h6:ew[6]? = some N:=by rw[De V]; rfl
   simp only[h6];rw[if_pos (by simp[Region.wanted,gc7])];refine⟨fun _ _=>trivial,?_⟩;rw[Oper.semAt_eq _ _ _ (fun c e=>by rw[pc7]at e; cases e)];have hrun:(execOp a3.eval N).run P d.w=.ok (.round l fn' tmps' asg bod) d.w:=by
    obtain⟨dst,op,type,pos,after,guard⟩:=N;simp only[]at pc7;subst pc7;simp[execOp,resolve,h11,QY,invoke,hy1]
   rw[hrun,Oper.uponIn_round];refine⟨fun h=>(by cases h),hR.mono ?_⟩;rintro e _ ⟨rfl,E',rfl,hj',hleC⟩;show wpOpsIn (fz none) 0 P ew _ (tc 7 1++[]) _ E'.w
   rw[dc7];have hd3:a3.defers=[]:=K7 g.defers fun _ h=>h;have hp:=(q g rfl rfl rfl rfl).jd 17 (v:=.lit (.bool true)) (u:=.bool true) (by simp[rel]);have hE':aq E'.gA:=(M (k+1) E' hj').cC (qT (M (k+1) E' hj'));have hs4:bN ⟨(jM y cp (.lit (.int .i64 i))).set 17 (.lit (.bool true)),E'.H⟩ E'.gA (a3.put (some 17) (.bool true)):=by
    refine⟨rfl,K9 hp.fr fun b hb=>?_,?_,hE'⟩
    ·have hb : b ∈ (jM y cp (.lit (.int .i64 i))).set 17 (.lit (.bool true)) := hb
     rcases List.mem_or_eq_of_mem_set hb with hb|rfl
     ·simp only [jM, bW, List.not_mem_nil, or_false] at hb
      rcases hb with rfl|rfl|rfl|rfl|hb
      ·exact .inr (.inl ⟨_,hy⟩)
      ·refine .inr (.inr fun c' h => ?_)
       rw[U]at h⊢;exact dF (E:=d.gA) (E':=E'.gA) ⟨fun b hb=>hleC.ok b hb⟩ _ (by simp[AV.closed]) h
      ·exact .inl rfl
      ·exact .inr (.inl ⟨_,rfl⟩)
      ·left
       rcases hb with rfl|rfl|rfl|rfl|rfl|rfl|rfl|rfl|rfl|rfl|rfl|rfl|rfl|rfl|rfl<;>rfl
     ·exact .inr (.inl ⟨_,rfl⟩)
    ·rw [put_defers, hd3]
     exact oR _ _
   refine K8 (pf:=fun _=>false) (J:=J (k+1)) (l:=[u8]) (k:=7) (B (k+1)) ?_ hs4 hj' (fr':=((jM y cp (.lit (.int .i64 i))).set 17 (.lit (.bool true))).set 18 (.lit (.bool false))) ?_ fun a5 E5 hj5 hs5=>?_
   ·intro j o I
    have hlt:j<1:=by simpa using aL I
    have:j=0:=by omega
    subst this;rw[De V];exact I
   ·exact im (v:=.lit (.bool false)) (jL gc8 (by rw[pc8]; rfl) (by rw[pc8]; rfl)) dc8 uZ
   ·show (Code.cond _ _ _).wpIn (fz none) 0 P _ _ _
    have h18:a5.eval (.tmp 18)=.bool false:=by
     have:=hs5.eval (.tmp 18);simpa[St.eval,jM,rel]using this
    refine wpIn_cond_false h18 (wpIn_skip ?_);show (Code.region _ _ _).wpIn (fz none) 0 P _ _ _
    refine Dd (pf:=fun _=>false) (J:=J (k+1)) (B (k+1)) (q hs5 rfl rfl rfl rfl) hj5 (fr':=(((jM y cp (.lit (.int .i64 i))).set 9 (.lit (.int .i64 i))).set 10 (.lit (.int .i64 (i-1)))).set 3 (.lit (.int .i64 (i-1)))) ?_ fun a6 E6 hj6 hs6=>?_
    ·rw [qq2]
     refine im (v:=.lit (.int .i64 i)) (jL gb1 (by rw[pb1]; rfl) (by rw[pb1]; rfl)) db1 (im (v:=.lit (.int .i64 (i-1))) (jL gb2 (by rw[pb2]; rfl) ?_) db2 (im (v:=.lit (.int .i64 (i-1))) (jL gb3 (by rw[pb3]; rfl) (by rw[pb3]; rfl)) db3 uZ));rw[pb2];exact K_ (P:=P) (t:=t5) (k:=lq (Operand.tmp 9)||lq (Operand.const (.int .i64 1))) (hin i W (by omega))
    ·have h3:a6.eval (.tmp 3)=.int .i64 (i-1):=by
      have:=hs6.eval (.tmp 3);simpa[St.eval,jM,rel]using this
     have e6:i-1=(n:Int)-1-((k+1:Nat):Int):=by omega
     refine⟨⟨k+1,E6,rfl,by omega,hj6,?_⟩,?_⟩
     ·rw [← e6]
      exact q hs6 rfl rfl rfl rfl
     ·rw [h3, hmu]
      show (i-1+1).toNat<(i+1).toNat
      omega
 ·refine wpIn_cond_false (by rw [h8]; simp [W]) (wpIn_exit ?_)
  simp only[Exit.then,Hh,if_true];have hd:a2.defers=[]:=K7 hs2.defers fun _ h=>h;have hk:k=n:=by omega
  subst hk;show LeavesInM (fz none) 0 P fn a2.tmps _ a2.defers .returning O.w
  rw[hd];refine⟨.tuple #[],?_,⟨_,rfl⟩,O,rfl,hj2⟩;rw[xJ,hr];simp
end bw
end Go.AL

namespace Go.AL
open Go
variable [Dr]
mutual
def mI(m:Nat):AV→Bool
 |.agg cs=>od m cs
 |.tuple cs=>od m cs
 |.clo _ cs=>od m cs
 |.ptr id ae _ _ _=>fe id m&&ad ae 0
 |.vec _ id ae _ _=>fe id m&&ad ae 0
 |.map id=>fe id m
 |.sub ..=>false
 |_=>true
def od(m:Nat):List AV→Bool
 | []=>true
 |a::as=>mI m a&&od m as
end
mutual
theorem Vj{E E':Env}{m:Nat}(h:E.dj m E'):∀(a:AV) {c:Value},mI m a=true→rel E a c→rel E' a c
 |.undef,_,_,_=>by simp[rel]
 |.lit v,c,_,d=>by simpa only[rel]using d
 |.nils,c,_,d=>by simpa only[rel]using d
 |.list k rows,c,_,d=>dF (pG h) _ (by simp[AV.closed]) d
 |.listF ks rows,c,_,d=>dF (pG h) _ (by simp[AV.closed]) d
 | .agg cells,c,g,d=>by
  simp only[rel]at d⊢;obtain⟨cs,e,h1,q⟩:=d;exact⟨cs,e,h1,u9 h cells (by simpa only[mI]using g) q⟩
 | .tuple cells,c,g,d=>by
  simp only[rel]at d⊢;obtain⟨cs,e,q⟩:=d;exact⟨cs,e,u9 h cells (by simpa only[mI]using g) q⟩
 |.cptr cells,c,_,d=>dF (pG h) _ (by simp[AV.closed]) d
 |.sub ..,_,g,_=>by simp[mI]at g
 | .ptr id ae k row col,c,g,d=>by
  simp only[mI,ax,kC]at g;obtain⟨h1,q⟩:=g;have q:=br q;subst q;simp only[rel]at d⊢;obtain⟨g1,g2,g3⟩:=d;refine⟨g1,h.past id h1 g2,fun u=>?_⟩;obtain⟨y,B⟩:=h.live id h1 g2 u;rw[B];exact g3 y
 | .vec k id ae off n,c,g,d=>by
  simp only[mI,ax,kC]at g;obtain⟨h1,q⟩:=g;have q:=br q;subst q;simp only[rel]at d⊢;obtain⟨g1,g2,g3⟩:=d;refine⟨g1,h.past id h1 g2,fun u=>?_⟩;obtain⟨y,B⟩:=h.live id h1 g2 u;rw[B];exact g3 y
 | .map id,c,g,d=>by
  simp only[mI,kC]at g;simp only[rel]at d⊢;obtain⟨g1,g2,g3⟩:=d;refine⟨g1,h.past id g g2,fun u=>?_⟩;obtain⟨y,B⟩:=h.live id g g2 u;rw[B];exact g3 y
 | .clo f caps,c,g,d=>by
  simp only[rel]at d⊢;obtain⟨cs,e,q⟩:=d;exact⟨cs,e,u9 h caps (by simpa only[mI]using g) q⟩
 |.ifc,c,_,d=>by simpa only[rel]using d
 |.emptyS n,c,_,d=>by simpa only[rel]using d
theorem u9{E E':Env}{m:Nat}(h:E.dj m E'):∀(as:List AV) {vs:List Value},od m as=true→af E as vs→af E' as vs
 | [],[],_,_=>by simp[af]
 | [],_::_,_,d=>by simp[af]at d
 |_::_,[],_,d=>by simp[af]at d
 | a::as,v::vs,g,d=>by
  simp only[od,ax]at g;simp only[af]at d⊢;exact⟨Vj h a g.1 d.1,u9 h as g.2 d.2⟩
end
theorem Env.dj.mono{m m':Nat}{E E':Env}(h:E.dj m' E')(hm:m≤m'):E.dj m E' :=
 ⟨fun id hi=>h.past id (by omega),h.size,h.same,h.own,fun id hi=>h.live id (by omega),h.X,h.rl,h.env,fun id hi=>h.grow id (by omega)⟩
structure Env.mJ (m l:Nat) (E E':Env):Prop where
 past:∀ id,id<m→E.past id 0→E'.past id 0
 size:E.w.heap.size≤E'.w.heap.size
 same:∀ b,b<E.w.heap.size→¬ E.own b→b≠l→E'.w.heap[b]? = E.w.heap[b]?
 own:∀ b,b<E.w.heap.size→¬ E.own b→¬ E'.own b
 live:∀ id,id<m→E.past id 0→E'.live id 0→E.live id 0∧E'.loc[id]? = E.loc[id]?
 X:∀ b,b<E.w.heap.size→(E'.X b↔E.X b)∧(E'.X.z b↔E.X.z b)
 rl:∀ l h,h<(E.X.r l).length→h<(E'.X.r l).length∧∀ q,(E'.X.r l)[h]? = some (some q)→(E.X.r l)[h]? = some (some q)
 env:dL E.w E'.w
 grow:∀ id,id<m→∀ l o,E.H[id]? = some o→o.cZ=some l→E'.live id 0→(∃ t,E'.X.r l=E.X.r l++t)∧∃ o',E'.H[id]? = some o'∧o'.cZ=some l
theorem Env.dj.toX{m l:Nat}{E E':Env}(h:E.dj m E'):E.mJ m l E':=⟨h.past,h.size,fun b hb ho _=>h.same b hb ho,h.own,h.live,h.X,h.rl,h.env,h.grow⟩
theorem Env.mJ.trans{m l:Nat}{E E' I:Env}(h:E.mJ m l E')(h':E'.mJ m l I):E.mJ m l I where
 past:=fun id hi k=>h'.past id hi (h.past id hi k)
 size:=Nat.le_trans h.size h'.size
 same:=fun b hb ho g=>by rw[h'.same b (dn hb h.size) (h.own b hb ho) g,h.same b hb ho g]
 own:=fun b hb ho=>h'.own b (dn hb h.size) (h.own b hb ho)
 live:=fun id hi hid g=>by
  obtain⟨u,a2⟩:=h'.live id hi (h.past id hi hid) g;obtain⟨b1,y⟩:=h.live id hi hid u;exact⟨b1,by rw[a2,y]⟩
 X:=fun b hb=>by
  have h1:=h'.X b (dn hb h.size);have d:=h.X b hb;exact⟨h1.1.trans d.1,h1.2.trans d.2⟩
 rl:=fun l i hi=>by
  obtain⟨u,a2⟩:=h.rl l i hi;obtain⟨b1,y⟩:=h'.rl l i u;exact⟨b1,fun q O=>a2 q (y q O)⟩
 env:=h.env.trans h'.env
 grow:=fun id hi l o h1 d B=>by
  have k:E.past id 0:=⟨o,h1,ab.A0 d,fun v B=>er _⟩
  obtain⟨J,_⟩:=h'.live id hi (h.past id hi k) B;obtain⟨⟨t,U⟩,o',g1,g2⟩:=h.grow id hi l o h1 d J;obtain⟨⟨t',M⟩,N,g3,g4⟩:=h'.grow id hi l o' g1 g2 B;exact⟨⟨t++t',by rw[M,U,gG]⟩,N,g3,g4⟩
theorem Env.mJ.toM{m l:Nat}{E E':Env}(h:E.mJ m l E')(d:l<E.w.heap.size→E'.w.heap[l]? = E.w.heap[l]?):E.dj m E' :=
 ⟨h.past, h.size, fun b hb ho => by
  by_cases e:b=l
  ·subst e
   exact d hb
  ·exact h.same b hb ho e,h.own,h.live,h.X,h.rl,h.env,h.grow⟩
theorem Df{w:World}{H:List ab}{loc:List (Option (Nat × Nat))}{X:XS}{l:Nat}{o:Obj}(hX:X l)(HE:aq { w:=w,H:=H,loc:=loc,X:=X }) :
  gk { w:=w,H:=H,loc:=loc,X:=X } { w:=w.putObj l o,H:=H,loc:=loc,X:=X } :=
 ⟨rfl, rfl, by simp, fun b _ d => ⟨d, Hk fun e => d (by rw [e]; exact hX)⟩, fun b hb => by
  have:=HE.X b hb;simpa using this,rfl⟩
theorem Dg{m:Nat}{w:World}{H:List ab}{loc:List (Option (Nat × Nat))}{X:XS}{l:Nat}{o:Obj}:({ w:=w,H:=H,loc:=loc,X:=X }:Env).mJ m l { w:=w.putObj l o,H:=H,loc:=loc,X:=X } :=
 ⟨fun _ _ h=>h,by simp,fun b _ _ h=>Hk h,fun _ _ h=>h,fun _ _ _ h=>⟨h,rfl⟩,fun _ _=>⟨Iff.rfl,Iff.rfl⟩,fun _ _ h=>⟨h,fun _ d=>d⟩,⟨rfl,rfl,rfl,by first|exact fun _=>aB _|exact fun _=>eS _ _⟩,fun _ _ _ o h1 g _=>⟨⟨[],(cO _).symm⟩,o,h1,g⟩⟩
theorem La{w:World}{X:XS}{l:Nat}{r:Loop}{o:Obj}{g:List Deferred}(h:iT w X g)(k:w.heap[l]? = some (.loop r)):iT (w.putObj l o) X g :=
 ⟨h.1, fun d q => by
  obtain⟨D,e,h1,u,v⟩:=h.2 d q;exact⟨D,e,by rw[Hk (fun e=>by rw[e,k]at h1; cases h1)]; exact h1,u,v⟩⟩
end Go.AL

namespace Go.AL
open Go
variable [Dr]
structure yX (P:Program) (m:Nat) (n:Nat) (rv:Nat→AV) (p0 p1:Tmp) (assign body:Code) (S:Nat→St):Prop where
 na:fJ assign=true
 nb:fJ body=true
 fix:∀ k,k<n→od m (S k).fr=true
 round:∀ k,k<n→∃ s1 s2,cU P m assign ⟨((S k).fr.set p0 (.lit (.int .i64 ((n:Int)-1-k)))).set p1 (rv (n-1-k)),(S k).H⟩ .normal s1∧cU P m body s1 .normal s2∧bt m ⟨(S k).fr,s2.H⟩ (S (k+1))
section bw
variable {P:Program} {m':Nat} {n:Nat} {rv:Nat→AV} {p0 p1:Tmp} {assign body:Code} {S:Nat→St}
theorem Vk(B:yX P m' n rv p0 p1 assign body S){k:Nat}(hk:k<n){fn:FuncId}{D l:Nat}{a:Act}{tmps:Array Value}(htm:tmps=a.tmps){E:Env}(d:bN (S k) E a)(hX:E.X l)
  (I:E.w.heap[l]? = some (.loop { state:=.ready,pending:=none,fn,tmps,params:=#[p0,p1],assign,body,defers:=D })) {cs:Array Value} (hc:af E [.lit (.int .i64 ((n:Int)-1-k)),rv (n-1-k)] cs.toList) :
  YieldAt (fz none) 0 P l cs E.w fun e W'=>e=.returned (.bool true)∧∃ E',E'.w=W'∧bN (S (k+1)) E' a∧E.dj m' E'∧E'.X l ∧
   E'.w.heap[l]? = some (.loop { state:=.ready,pending:=none,fn,tmps,params:=#[p0,p1],assign,body,defers:=D }):=by
 obtain⟨s1,s2,hA,hB,hle⟩:=B.round k hk;obtain⟨q,c1,rfl⟩:∃ q c1,cs=#[q,c1]:=by
  have:=fP hc
  match h:cs.toList,this with
  | [q,c1],_=>exact⟨q,c1,fc (by simpa using h)⟩
 simp only[af]at hc;obtain⟨hc0,hc1,_⟩:=hc;refine⟨_,_,_,_,run_yield I (by simp),roundIn_of_wpIn (F:=fz none) trivial ?_⟩;have V:l<E.w.heap.size:=(gb.1 I).1;have hs0:bN ⟨((S k).fr.set p0 (.lit (.int .i64 ((n:Int)-1-k)))).set p1 (rv (n-1-k)),(S k).H⟩ E { tmps:=(a.tmps.setIfInBounds p0 q).setIfInBounds p1 c1,defers:=[] }:=by
  refine⟨d.H,?_,oR _ _,d.heap⟩;simp only[Array.toList_setIfInBounds];exact xA p1 (xA p0 d.fr hc0) hc1
 have e0:((#[p0,p1]:Array Tmp).zip #[q,c1]).foldl (fun tmps (t,a)=>tmps.setIfInBounds t a) tmps=(a.tmps.setIfInBounds p0 q).setIfInBounds p1 c1:=by
  rw[htm];simp[←Array.foldl_toList]
 rw[e0];refine wpIn_mono (hA (some l) (.inr B.na) E _ hs0) fun e a1 u ⟨he,loc1,X1,W,v⟩=>?_;subst he;have hno:¬ E.own l:=d.heap.nt hX;have hl1:u.heap[l]? = some (.loop { state:=.ready,pending:=none,fn,tmps,params:=#[p0,p1],assign,body,defers:=D }):=by rw[v.same l V hno]; exact I
 have hX1:X1 l:=(v.X l V).1.2 hX;have N:l<u.heap.size:=(gb.1 hl1).1;refine⟨_,run_beginRound hl1 rfl,?_⟩;have hs1':=W.cC (Df (o:=.loop { state:=.busy,pending:=none,fn,tmps,params:=#[p0,p1],assign,body,defers:=D }) hX1 W.heap) (La W.defers hl1);refine wpIn_mono (hB (some l) (.inr B.nb) _ a1 hs1') fun e a2 w3 ⟨he,O,J,hs2,U⟩=>?_;subst he;have hno1:¬ Env.own { w:=u,H:=s1.H,loc:=loc1,X:=X1 } l:=v.own l V hno;have hl3:w3.heap[l]? = some (.loop { state:=.busy,pending:=none,fn,tmps,params:=#[p0,p1],assign,body,defers:=D }):=by
  rw[U.same l (by show l<(u.putObj _ _).heap.size; simpa using N) hno1];exact ae0 N
 have hX2:J l:=(U.X l (by show l<(u.putObj _ _).heap.size; simpa using N)).1.2 hX1;have hlt3:l<w3.heap.size:=(gb.1 hl3).1;refine⟨_,_,run_endRound (P:=P) none hl3,rfl,?_⟩;obtain⟨g,y⟩:∃ g,w3.putObj l (.loop { state:=.ready,pending:=none,fn,tmps,params:=#[p0,p1],assign,body,defers:=D })=g:=⟨_,rfl⟩
 have hl4:g.heap[l]? = some (.loop { state:=.ready,pending:=none,fn,tmps,params:=#[p0,p1],assign,body,defers:=D }):=by
  rw[←y];exact ae0 hlt3
 have M:E.dj m' { w:=g,H:=s2.H,loc:=O,X:=J }:=by
  refine Env.mJ.toM (l:=l) (v.toX.trans (Dg.trans (U.toX.trans ?_))) (fun _=>by rw[show Env.w _=g from rfl,hl4,I]);rw[←y];exact Dg
 have hR4:aq { w:=g,H:=s2.H,loc:=O,X:=J }:=by
  rw[←y];exact hs2.heap.cC (Df hX2 hs2.heap)
 have hsr:bN ⟨(S k).fr,s2.H⟩ { w:=g,H:=s2.H,loc:=O,X:=J } a:=by
  refine⟨rfl,u9 M _ (B.fix k hk) d.fr,w5 d.defers (fun b h1 h2=>?_) (fun b h1 _=>M.same b (d.heap.X b h1) (d.heap.nt h1)),hR4⟩;have:=M.X b (d.heap.X b h1);exact⟨this.1.2 h1,this.2.2 h2⟩
 obtain⟨loc7,X7,hs7,hle7⟩:=hle _ a hsr;refine⟨{ w:=g,H:=(S (k+1)).H,loc:=loc7,X:=X7 },?_,hs7,M.trans hle7,(hle7.X l (by show l<g.heap.size; exact(gb.1 hl4).1)).1.2 hX2,hl4⟩;rw[←y];rfl
theorem Vl{T1 T2:TypeId}{sl:AV}{bg bQ bA ew:Array Oper}{m:Nat}(hT:yW P T1 T2 sl n rv){f:FuncId}{fd:Func}{r0 r1 r2 r3 b0 b1:Nat}(hf:P.funcs[f]? = some fd)(hbd:eX P f=true)(hb:fd.body=some (uY bg bQ bA ew r0 r1 r2 r3 b0 b1))(hn:fd.ntmps=19)(hre:fd.results=#[])(ho:uX T1 T2 bg bQ bA ew)
  (hlen:n≤1048576) (hmm:m≤m') (hr:yX P m' n rv p0 p1 assign body S) {g:Tmp} {s:St} {id wd:Nat} (hg:s.eval (.tmp g)=.clo f [.ptr id 0 wd 0 0]) (hid:s.H[id]? = some (.box [sl])) (h0:bt m ⟨s.fr,s.H.set id .dead⟩ (S 0))
  (E:Env) (a:Act) (y:bN s E a):(Code.rangeFunc (.tmp g) #[p0,p1] assign body).wpIn (fz none) 0 P (fun e a1 u=>e=.normal∧dx m E (S n) a1 u) a E.w:=by
 have W:=y.eval (.tmp g);rw[hg]at W;simp only[rel]at W;obtain⟨cs,W,hcs⟩:=W;obtain⟨c,rfl⟩:∃ c,cs=#[c]:=by
  have:=fP hcs
  match h:cs.toList,this with
  | [c],_=>exact⟨c,fc (by simpa using h)⟩
 simp only[af,rel]at hcs;obtain⟨⟨⟨bc,oc,hc0⟩,_,hlive⟩,_⟩:=hcs;have hidE:E.H[id]? = some (.box [sl]):=by rw[y.H]; exact hid
 obtain⟨bb,nn,V,hcv⟩:=hlive ⟨_,hidE,rfl⟩;obtain⟨D,hD⟩:∃ D,E.w.heap.size=D:=⟨_,rfl⟩
 have hobj:=y.heap.obj id _ hidE;simp only[aM]at hobj;obtain⟨b',n',hloc',hrow,hcells⟩:=hobj;rw[V]at hloc';obtain⟨rfl,rfl⟩:bb=b'∧nn=n':=by
  have h:=hloc';simp only[aV,ba]at h;exact h
 have J:=Env.qv y.heap id;have hdr:=aq.drop y.heap id fun o ho=>by
  rw[hidE]at ho;cases ho;rfl
 have hcp0:rel { w:=E.w,H:=E.H.set id .dead,loc:=E.loc.set id none,X:=E.X } (.cptr [sl]) c:=by
  simp only[rel];refine⟨hT.cl,bb,0,by simpa using hcv,⟨(y.heap.lt id bb nn V).1,?_,(y.heap.lt id bb nn V).2⟩,tz (E:=E) (fun a c h=>bP J a h) rfl hcells⟩;rintro(⟨j,q,M⟩|⟨l,k,q,M⟩)
  case inr=>exact y.heap.cN _ _ _ _ _ _ V M
  simp only[List.getElem?_set]at M;split at M
  ·split at M<;>cases M
  ·rename_i hne
   exact hne (y.heap.inj _ _ _ _ _ V M)
 refine wpIn_rangeFunc ?_;intro fn _;obtain⟨rec,N⟩:∃ rec:Loop,rec={ state:=.ready,pending:=none,fn,tmps:=a.tmps,params:=#[p0,p1],assign,body,defers:=D }:=⟨_,rfl⟩
 obtain⟨u,hw1⟩:∃ u,(E.w.alloc (.deferred (some []))).alloc (.loop rec)=u:=⟨_,rfl⟩
 have hsz:u.heap.size=D+2:=by rw[←hw1,Hr,Hr,hD]
 have hl1:u.heap[D+1]? = some (.loop rec):=by
  rw[←hw1];have:=ae1 (E.w.alloc (.deferred (some []))) (.loop rec)
  rwa [Hr,hD]at this
 have hold2:∀ b,b<D+1→u.heap[b]? = (E.w.alloc (.deferred (some []))).heap[b]? := fun b hb=>by
  rw[←hw1];show ((E.w.alloc (.deferred (some []))).heap.push _)[b]? = _
  rw[wv,if_neg (by rw[Hr,hD]; omega)]
 have hD1:u.heap[D]? = some (.deferred (some [])):=by
  rw[hold2 D (by omega)];have:=ae1 E.w (.deferred (some []))
  rwa [hD]at this
 have hold:∀ b,b<D→u.heap[b]? = E.w.heap[b]? := fun b hb=>by
  rw[hold2 b (by omega)];show (E.w.heap.push _)[b]? = _
  rw[wv,if_neg (by omega)]
 have hos:dL E.w u:=by rw[←hw1]; exact⟨rfl,rfl,rfl,by first|exact fun _=>aB _|exact fun _=>eS _ _⟩
 obtain⟨I,B⟩:∃ I:XS,I=⟨fun b=>E.X b∨b=D∨b=D+1,fun b=>E.X.z b∨b=D,E.X.r⟩:=⟨_,rfl⟩
 obtain⟨mk,hmk⟩:∃ mk:Deferred,mk={ target:=.collected D,args:=#[] }:=⟨_,rfl⟩
 have cC:gk { w:=E.w,H:=E.H.set id .dead,loc:=E.loc.set id none,X:=E.X } { w:=u,H:=E.H.set id .dead,loc:=E.loc.set id none,X:=I } :=
  ⟨rfl, rfl, by show E.w.heap.size ≤ u.heap.size; omega, fun b hb hx => by
   have hb:b<D:=by rw[←hD]; exact hb
   refine⟨fun h=>?_,hold b hb⟩;rw[B]at h;rcases h with h|h|h
   ·exact hx h
   ·omega
   ·omega,fun b hb=>by
   show b<u.heap.size
   rw[B]at hb;rcases hb with h|h|h
   ·have := y.heap.X b h
    omega
   ·omega
   ·omega,by show I.r=E.X.r; rw[B]⟩
 have hs2:bN ⟨s.fr,s.H.set id .dead⟩ { w:=u,H:=E.H.set id .dead,loc:=E.loc.set id none,X:=I } { a with defers:=mk::a.defers }:=by
  refine⟨by rw[y.H],my cC _ (dw J _ y.fr),⟨?_,fun d J=>?_⟩,hdr.cC cC⟩
  ·refine List.nodup_cons.2 ⟨fun h => ?_, y.defers.1⟩
   obtain⟨O,e,h1,U,_⟩:=y.defers.2 mk h;have:=y.heap.X O U;rw[hmk]at e;have e:D=O:=by
    have e:=congrArg Deferred.target e;simpa using e
   omega
  ·rcases bW.1 J with rfl | J
   ·exact⟨D,hmk,hD1,by rw[B]; exact .inr (.inl rfl),by rw[B]; exact .inr rfl⟩
   ·obtain ⟨O, e, h1, U, h3⟩ := y.defers.2 d J
    have:=y.heap.X O U;exact⟨O,e,by rw[show Env.w _=u from rfl,hold O (by omega)]; exact h1,by rw[B]; exact .inl U,by rw[B]; exact .inl h3⟩
 have hle2:E.dj m { w:=u,H:=E.H.set id .dead,loc:=E.loc.set id none,X:=I }:=by
  refine J.toM.trans ⟨fun _ _ h=>h,by show E.w.heap.size≤u.heap.size; omega,fun b hb _=>hold b (by rw[←hD]; exact hb),fun b _ h ho=>h ((cC.own b).1 ho),fun _ _ _ h=>⟨h,rfl⟩,fun b hb=>?_,fun l h hh=>by show h<(I.r l).length∧_; rw[B]; exact⟨hh,fun _ hq=>hq⟩,hos,fun _ _ _ o h1 U _=>⟨⟨[],by show I.r _=_; rw[B,cO]⟩,o,h1,U⟩⟩;have hb:b<D:=by rw[←hD]; exact hb
  show (I b↔E.X b)∧(I.z b↔E.X.z b)
  rw[B];exact⟨⟨fun h=>by rcases h with h|h|h; exact h; omega; omega,.inl⟩,⟨fun h=>by rcases h with h|h; exact h; omega,.inl⟩⟩
 obtain⟨loc3,X3,hs3,hle3⟩:=h0 _ _ hs2;have hX3:X3 (D+1):=(hle3.X (D+1) (by show D+1<u.heap.size; omega)).1.2 (by show I (D+1); rw[B]; exact .inr (.inr rfl));have hcp3:rel { w:=u,H:=(S 0).H,loc:=loc3,X:=X3 } (.cptr [sl]) c:=dF (pG hle3) _ (by simp[AV.closed]) (dF cC.toC _ (by simp[AV.closed]) hcp0);refine⟨D+1,[mk],u,{ target:=.fn (.func f) #[c],args:=#[.func (.yield (D+1)) #[] #[]] },u,f,#[.func (.yield (D+1)) #[] #[],c],u,?_,?_,fun _ _=>trivial,?_,fun h=>(by cases h),?_⟩
 ·rw [← hw1, N, hmk, ← hD]
  exact run_enterLoop_outer _ _ _ _ _
 ·have hcst : a.eval (.const (.func (.yield (D + 1)) #[] #[])) = .func (.yield (D + 1)) #[] #[] := rfl
  simp[resolve,W,hcst,QY]
 ·simp[invoke,BQ hbd]
 ·have hcall:=Vi (P:=P) hT hf hb hn hre ho (l:=D+1) hlen (fun k E'=>bN (S k) E' { a with defers:=mk::a.defers }∧E.dj m E'∧E'.X (D+1)∧E'.w.heap[D+1]? = some (.loop rec)) (fun k E' h=>h.1.heap)
   (fun k E1 E2 h hle hR hH=>?_) (c:=c) (fun k E' cs hk h hc=>?_) (E0:={ w:=u,H:=(S 0).H,loc:=loc3,X:=X3 }) ⟨hs3,hle2.trans hle3,hX3,hl1⟩ hcp3
  ·refine hcall.mono fun e w3 ⟨⟨v, hv⟩, E4, hw4, hs4, hle4, hX4, hl4⟩ => ?_
   subst hv;subst hw4;obtain⟨w4,H4,loc4,X4⟩:=E4;have hH4:H4=(S n).H:=hs4.H;subst hH4;have hend:=run_endLoop (P:=P) hl4 (by rw[N]; simp);refine⟨_,_,hend,?_⟩;rw[N];refine⟨rfl,loc4,X4,?_,?_⟩
   ·rw [← N]
    exact hs4.cC (Df hX4 hs4.heap) (La hs4.defers hl4)
   ·exact(hle4.toX.trans Dg).toM (l:=D+1) (fun h=>absurd h (by omega))
  ·obtain ⟨g1, g2, g3, g4⟩ := h
   have hlt:D+1<E1.w.heap.size:=(gb.1 g4).1;refine⟨⟨by rw[hH]; exact g1.H,dw hle _ g1.fr,w6 g1.heap hle g1.defers,hR⟩,g2.trans hle.toM,by rw[hle.X.1]; exact g3,?_⟩;rw[hle.same (D+1) hlt (g1.heap.nt g3)];exact g4
  ·obtain ⟨g1, g2, g3, g4⟩ := h
   rw[N]at g4;obtain⟨fn',tm,as,bo,k1,k2⟩:=Vk hr hk rfl g1 g3 g4 hc;refine⟨fn',tm,as,bo,k1,k2.mono fun e W' ⟨he,E'',hw,q1,q2,q3,q4⟩=>⟨he,E'',hw,⟨q1,g2.trans (q2.mono hmm),q3,by rw[N]; exact q4⟩,pG q2⟩⟩
end bw
end Go.AL

namespace Go.AL
open Go
variable [Dr]
variable {P:Program}
theorem Vm{m m' n:Nat}{rv:Nat→AV}{p0 p1:Tmp}{assign body:Code}{S:Nat→St}{T1 T2:TypeId}{sl:AV}{bg bQ bA ew:Array Oper}(u:yW P T1 T2 sl n rv){f:FuncId}{fd:Func}{r0 r1 r2 r3 b0 b1:Nat}(v:P.funcs[f]? = some fd)(d:eX P f=true)
  (hb:fd.body=some (uY bg bQ bA ew r0 r1 r2 r3 b0 b1)) (y:fd.ntmps=19) (k:fd.results=#[]) (ho:uX T1 T2 bg bQ bA ew)
  (hlen:n≤1048576) (hmm:m≤m') (B:yX P m' n rv p0 p1 assign body S) {g:Tmp} {s:St} {id wd:Nat} (I:s.eval (.tmp g)=.clo f [.ptr id 0 wd 0 0]) (hid:s.H[id]? = some (.box [sl])) (h0:bt m ⟨s.fr,s.H.set id .dead⟩ (S 0)) :
  cU P m (.rangeFunc (.tmp g) #[p0,p1] assign body) s .normal (S n):=fun ro q E a J=>by
 obtain rfl:ro=none:=q.resolve_right (by simp[fJ]);exact wpIn_mono (Vl u v d hb y k ho hlen hmm B I hid h0 E a J) fun e M N ⟨he,h⟩=>⟨he,h⟩
structure lD where
 f:FuncId
 T1:TypeId
 T2:TypeId
 w:Nat
 pw:Nat
 agg:Bool
def u_(P:Program)(i:lD):Prop:=∃ fd bg bQ bA ew r0 r1 r2 r3 b0 b1 e b,P.funcs[i.f]? = some fd∧eX P i.f=true∧fd.body=some (uY bg bQ bA ew r0 r1 r2 r3 b0 b1)∧fd.ntmps=19∧fd.results=#[]∧uX i.T1 i.T2 bg bQ bA ew ∧
 eL P i.T1=some (1,false)∧b9 P i.T1=.slice e i.w b∧eL P i.T2=some (i.pw,i.agg)
def va(agg:Bool)(w:Nat)(row:List AV):AV:=(gI agg w row).getD .undef
theorem Vn{i:lD}{e b:Nat}{rows:List (List AV)}(h1:eL P i.T1=some (1,false))(g:b9 P i.T1=.slice e i.w b)(y:eL P i.T2=some (i.pw,i.agg)) (B:(rows.all fun r=>(gI i.agg i.pw r).isSome)=true) :
  yW P i.T1 i.T2 (.list i.w rows) rows.length (fun k=>va i.agg i.pw (rows.getD k [])):=by
 refine⟨fun H=>?_,?_,fun k q u=>?_,by simp[AV.bp,AV.closed]⟩
 ·simp[gU,h1,gI]
 ·rw [g]
  rfl
 ·have d : k.toNat < rows.length := by omega
  refine⟨rows[k.toNat],?_,fun H=>?_⟩
  ·rw [g]
   simp only[kI];rw[if_pos ⟨trivial,q,u⟩,bI d];rfl
  ·have := cM.1 B rows[k.toNat] (nm d)
   obtain⟨v,h⟩:=qf.1 this;simp only[gU,y,h];unfold va;rw[cf,bI d,Option.getD_some,h];rfl
def yY(P:Program)(τ:ar)(p0 p1:Tmp)(assign body:Code)(fr:List AV):List (Int × AV)→List ah→(List ah→Tree)→Tree
 | [],H,k=>k H
 | (i,v)::q,H,k=>dY P τ aF assign ⟨(fr.set p0 (.lit (.int .i64 i))).set p1 v,H⟩ fun x s1=>match x with
  | .normal=>dY P τ aF body s1 fun x s2=>match x with
   |.normal=>yY P τ p0 p1 assign body fr q s2.H k
   |_=>.fail
  |_=>.fail
theorem Lb(hm:P.follows .mixedOrders=true){τ:ar}(u:au P τ){p0 p1:Tmp}{assign body:Code}{fr:List AV}{Q:bR→al→Prop}{k:List ah→Tree}(m:Nat):∀(q:List (Int × AV)) (H:List ah),(yY P τ p0 p1 assign body fr q H k).holds Q →
  ∃ f:Nat→List ah,f 0=H∧(∀ j d,q[j]? = some d→∃ s1 s2:al,cU P m assign ⟨(fr.set p0 (.lit (.int .i64 d.1))).set p1 d.2,ak (f j)⟩ .normal s1.den∧cU P m body s1.den .normal s2.den∧f (j+1)=s2.H)∧(k (f q.length)).holds Q
 | [],H,h=>⟨fun _=>H,rfl,fun j d g=>by simp at g,h⟩
 | (i,v)::q,H,h=>by
  simp only[yY]at h;obtain⟨x,s1,h1,y⟩:=gN hm u assign _ _ (aT P m assign) h;cases x with
  | normal =>
   obtain⟨x,s2,I,B⟩:=gN hm u body _ _ (aT P m body) y;cases x with
   | normal =>
    obtain⟨f,g1,g2,g3⟩:=Lb hm u m q s2.H B;refine⟨fun j=>match j with|0=>H|j+1=>f j,rfl,fun j d g=>?_,g3⟩;cases j with
    | zero =>
     simp only[List.getElem?_cons_zero,aV]at g;subst g;exact⟨s1,s2,h1,I,g1⟩
    |succ j=>exact g2 j d (by simpa using g)
   |exit _=>exact B.elim
   |ret=>exact B.elim
  |exit _=>exact y.elim
  |ret=>exact y.elim
def yZ(agg:Bool)(w:Nat)(rows:List (List AV)):List (Int × AV):=(dv rows.length).map fun(k:Nat)=>((rows.length:Int)-1-k,va agg w (rows.getD (rows.length-1-k) []))
def Dh(P:Program)(τ:ar)(i:lD)(m:Nat)(c:Code)(s:al):Option Tree :=
 match c with
 | .seq (.seq r3 (.block _ (.rangeFunc (.tmp g) ps assign body))) rest=>match ps.toList,fJ assign&&fJ body with
  | [p0,p1],true=>some (dY P τ aF r3 s fun x s1=>match x with
   | .normal=>match s1.fr.getD g .undef with
    | .clo f [.ptr id 0 _ 0 0]=>match s1.H[id]? with
     | some (.raw (.box [.list w rows]))=>.side (ad f i.f&&(ad w i.w&&(Nat.ble rows.length 1048576&&((rows.all fun r=>(gI i.agg i.pw r).isSome)&&(od s1.H.length s1.fr&&Nat.ble m s1.H.length)))))
       (yY P τ p0 p1 assign body s1.fr (yZ i.agg i.pw rows) (s1.H.set id (.raw .dead)) fun H=>dY P τ aF rest ⟨s1.fr,H⟩ .done)
     |_=>.fail
    |_=>.fail
   |_=>.fail)
  |_,_=>none
 |_=>none
theorem Vo(hm:P.follows .mixedOrders=true){τ:ar}(u:au P τ){i:lD}(hi:u_ P i){m:Nat}{c:Code}{s:al}{t:Tree}(h:Dh P τ i m c s=some t):xZ P m c s t:=by
 unfold Dh at h;split at h
 case h_2=>cases h
 rename_i r3 b g ps assign body rest;split at h
 case h_2=>cases h
 rename_i p0 p1 N q;cases h;intro Q O;have M:ps=#[p0,p1]:=fc (by simpa using N);subst M;simp only[ax]at q;obtain⟨x,s1,h1,d⟩:=gN hm u r3 s _ (aT P m r3) O;cases x with
 |exit _=>exact d.elim
 |ret=>exact d.elim
 | normal =>
  simp only[]at d;split at d
  case h_2=>exact d.elim
  rename_i f id wd U;split at d
  case h_2=>exact d.elim
  rename_i w rows hid;simp only[Tree.holds,ax]at d;obtain⟨⟨v,y,B,V,W,I⟩,h3⟩:=d;have v:=br v;have y:=br y;have B:=th B;have I:=th I;subst v;subst y;obtain⟨F,f0,f1,f2⟩:=Lb hm u s1.H.length _ _ h3;obtain⟨x,s',J,h5⟩:=gN hm u rest _ _ (aT P m rest) f2;refine⟨x,s',?_,h5⟩;obtain⟨fd,bg,bQ,bA,ew,r0,r1,r2,r3',b0,b1,e,bb,q1,q2,q3,q4,q5,q6,q7,q8,q9⟩:=hi;have hlen:(yZ i.agg i.pw rows).length=rows.length:=by simp[yZ]
  have hR:yX P s1.H.length rows.length (fun k=>va i.agg i.pw (rows.getD k [])) p0 p1 assign body (fun k=>⟨s1.fr,ak (F k)⟩):=by
   refine⟨q.1,q.2,fun k _=>W,fun k hk=>?_⟩;obtain⟨a1,a2,g1,g2,g3⟩:=f1 k ((rows.length:Int)-1-k,va i.agg i.pw (rows.getD (rows.length-1-k) [])) (by
    simp[yZ,hk])
   refine⟨a1.den,a2.den,g1,g2,?_⟩;rw[g3];exact bt.refl _
  have hS:=Vm (m:=m) (m':=s1.H.length) (P:=P) (Vn q7 q8 q9 V) q1 q2 q3 q4 q5 q6 B I hR (g:=g) (s:=s1.den) (id:=id) (wd:=wd) U (bh hid) (by
   rw[f0,c7];exact bt.refl _)
  have hB:cU P m (.block b (.rangeFunc (.tmp g) #[p0,p1] assign body)) s1.den .normal ⟨s1.fr,ak (F rows.length)⟩:=I1 (x:=.normal) hS;rw[hlen]at J;exact xG (xG h1 hB) J
def Di(P:Program)(τ:ar)(i:lD)(m key:Nat)(fn:Func):LT:=⟨fun _ _=>none,fun _ s=>(true,s),fun k s=>match ad k key with
 |true=>Dh P τ i m (cutAt fn key) s
 |false=>none⟩
theorem Vp(hm:P.follows .mixedOrders=true){τ:ar}(d:au P τ){i:lD}(hi:u_ P i){m key:Nat}{fn:Func} (g:kV key (bG (aU fn))=true):ay P m (Di P τ i m key fn) (aU fn) :=
 ⟨fun _ _ _ _ _ h => (nomatch h), fun _ _ _ => bt.refl _, fun k q hk s t h => by
  simp only[Di]at h;split at h
  ·rename_i e
   have e:=br e;subst e;rw[C0 g hk];exact Vo hm d hi h
  ·cases h⟩
end Go.AL

namespace Go.AL
open Go
variable [Dr]
def Lc(P:Program)(i:lD):Bool :=
 (match eL P i.T1 with
 |some (n,a)=>ad n 1 && !a
 |none=>false)&&((match b9 P i.T1 with
 |.slice _ w _=>ad w i.w
 |_=>false)&&(match eL P i.T2 with
 |some (n,a)=>ad n i.pw&&(a==i.agg)
 |none=>false))
theorem Vq{P:Program}{i:lD}{fd:Func}{bg bQ bA ew:Array Oper}{r0 r1 r2 r3 b0 b1:Nat}(k:P.funcs[i.f]? = some fd)(hb:eX P i.f=true)(q:fd.body=some (uY bg bQ bA ew r0 r1 r2 r3 b0 b1))(u:fd.ntmps=19)(v:fd.results=#[])(ho:uX i.T1 i.T2 bg bQ bA ew)
  (h:Lc P i=true):u_ P i:=by
 unfold Lc at h;simp only[ax]at h;obtain⟨h1,d,g⟩:=h;split at h1
 case h_2=>cases h1
 rename_i n a y;split at d
 case h_2=>cases d
 rename_i e w b B;split at g
 case h_2=>cases g
 rename_i J M I;simp only[ax,Bool.not_eq_true',beq_iff_eq]at h1 g;obtain⟨g1,g2⟩:=h1;obtain⟨g3,g4⟩:=g;have g1:=br g1;have g3:=br g3;have d:=br d;subst g1;subst g2;subst g3;subst g4;subst d;exact⟨fd,bg,bQ,bA,ew,r0,r1,r2,r3,b0,b1,e,b,k,hb,q,u,v,ho,y,B,I⟩
def ar.y8(P:Program)(τ:ar)(i:lD)(key:Nat)(f:FuncId)(fn:Func) (ks:List (Option (List Kd))):ar:=τ.add f fun args =>
 match (yc P τ (Di P τ i 0 key fn) fn ks args []).val with
 | some v=>match AV.bp args&&v.closed with
  |true=>some (true,v)
  |false=>none
 |none=>none
theorem au.y8{P:Program}{τ:ar}(h:au P τ)(hm:P.follows .mixedOrders=true){i:lD}(hi:u_ P i){key:Nat}{f:FuncId}{fn:Func}(k:P.funcs[f]? = some fn)(hb:eX P f=true) (q:kV key (bG (aU fn))=true) (ks:List (Option (List Kd))) :
  au P (τ.y8 P i key f fn ks):=h.add hb fun args b v d _=>by
 split at d
 ·rename_i u hu
  split at d
  ·rename_i g
   simp only[ax]at g;cases d;exact gv hm h ks (fun c d=>by
    have:=Vp (m:=0) hm h hi q;unfold aU at this;rw[d]at this;exact this) k g.1 g.2 hu
  ·cases d
 ·cases d
def y9:ah→Bool
 |.vec _ v _=>ad v 0
 |.map ..=>true
 |.aG ..=>true
 |.mm ..=>true
 |.raw (.vec _ v _)=>ad v 0
 |.raw .dead=>false
 |.raw .dK=>false
 |.raw _=>true
theorem Vr{H:List ah}(h:H.all y9=true):xF (ak H):=by
 intro o ho;obtain⟨t,d,rfl⟩:=List.mem_map.1 ho;have:=cM.1 h t d;cases t with
 |vec ks v rows=>simp only[y9]at this; rw[br this]; rfl
 |map=>rfl
 |aG=>rfl
 |mm=>rfl
 | raw o=>cases o with
  |vec k v rows=>simp only[y9]at this; rw[br this]; rfl
  |dead=>cases this
  |dK=>cases this
  |box=>rfl
  |map=>rfl
  |iter=>rfl
  |eD=>rfl
  |aG=>rfl
  |mm=>rfl
def Ld(P:Program)(τ:ar)(fn:Func)(args:List AV)(H:List ah):Option (Bool × AV × List ah) :=
 match H.all y9 with
 | true=>match (dY P τ aF (aU fn) ⟨iW args fn.ntmps,H⟩ .done).ke with
  | some (.normal,s')=>match hG P s'.den fn.results.toList with
   |some vs=>some (true,c6 vs,s'.H)
   |none=>none
  | some (.ret,s')=>match hG P s'.den fn.results.toList with
   |some vs=>some (true,c6 vs,s'.H)
   |none=>none
  |_=>none
 |false=>none
def ar.eQ(P:Program)(τ:ar)(f:FuncId)(fn:Func):ar where
 pf g:=match ad g f with
  |true=>false
  |false=>τ.pf g
 T g as:=match ad g f with
  |true=>none
  |false=>τ.T g as
 W g as H:=match ad g f with
  |true=>Ld P τ fn as H
  |false=>τ.W g as H
 C g as H:=match ad g f with
  |true=>dv H.length
  |false=>τ.C g as H
 I:=τ.I
 N g:=match ad g f with
  |true=>false
  |false=>τ.N g
 U g:=match ad g f with
  |true=>true
  |false=>τ.U g
theorem au.eQ{P:Program}{τ:ar}(h:au P τ)(hm:P.follows .mixedOrders=true){f:FuncId}{fn:Func}(V:P.funcs[f]? = some fn)(hb:eX P f=true)(N:fn.body.isSome=true):au P (τ.eQ P f fn):=by
 refine⟨fun g as b v d J=>?_,fun g as H b v H' d J=>?_,fun g as H b v H' d A q k=>?_,fun g as H t d Q hQ=>?_,?_⟩
 rotate_left 4
 ·refine ⟨fun g u as H => ?_, fun g y as H b v H' d id o k hid => ?_⟩
  ·simp only [ar.eQ] at u ⊢
   cases e:ad g f with
   |true=>rw[e]at u; cases u
   | false =>
    rw[e]at u;exact h.F.1 g u as H
  ·simp only [ar.eQ] at y d hid ⊢
   cases e:ad g f with
   |true=>rw[e]at y; cases y
   | false =>
    rw[e]at y d hid;exact h.F.2 g y as H b v H' d id o k hid
 rotate_left 3
 ·obtain ⟨g1, v, H', g2, g3, g4⟩ := h.I g as H t d Q hQ
  refine⟨g1,v,H',g2,fun A q k=>g3 A (fun hm=>q ?_) k,g4⟩;simp only[ar.eQ];split
  ·exact eC.2 k
  ·exact hm
 ·simp only [ar.eQ] at d
  split at d
  ·cases d
  ·exact h.T g as b v d J
 ·simp only [ar.eQ] at d
  split at d
  ·rename_i e
   have e:=br e;subst e;refine⟨hb,?_⟩;obtain⟨c,M⟩:=qf.1 N;have O:aU fn=c:=by unfold aU; rw[M]
   unfold Ld at d;rw[O]at d;split at d
   case h_2=>cases d
   rename_i U;have key:∀{x:bR} {s':al} {vs:List AV},(dY P τ aF c ⟨iW as fn.ntmps,H⟩ .done).ke=some (x,s')→(x=.normal∨x=.ret)→hG P s'.den fn.results.toList=some vs→dG P g as (ak H) (c6 vs) (ak s'.H):=by
    intro x s' vs h1 hx B;obtain⟨x1,s1,h3,h4⟩:=gN hm h c ⟨iW as fn.ntmps,H⟩ .done (aT P (ak H).length c) (uU h1);obtain⟨rfl,rfl⟩:=h4;exact S0 V M h3 hx B (Vr U)
   split at d
   ·rename_i s' h1
    split at d
    ·rename_i vs B
     cases d;exact key h1 (.inl rfl) B
    ·cases d
   ·rename_i s' h1
    split at d
    ·rename_i vs B
     cases d;exact key h1 (.inr rfl) B
    ·cases d
   ·cases d
  ·exact h.W g as H b v H' d J
 ·simp only [ar.eQ] at d q
  split at d
  ·rename_i e
   rw[e]at q;exact(q (eC.2 k)).elim
  ·rename_i e
   rw[e]at q;exact h.C g as H b v H' d A q k
end Go.AL

namespace Go.AL
open Go Go.ChangeMaps
variable [Dr]
def fv.vc(sp:fv)(s:al)(b:Nat):al:=⟨s.fr.set sp.it (.lit (.pointer (some ⟨b,0,none⟩))),s.H⟩
section range
variable {P:Program} {τ:ar} {L:LT} {m:Nat} {sp:fv} {bg bQ bA:Array Oper} {body:Code} {ri:List G→List (List G)} {ci:List G→Nat}
def Le(m:Nat)(sp:fv)(ri:List G→List (List G))(ci:List G→Nat)(E:Env)(rows:List (List G))(d0:List G)(itb mb nn clock:Nat)(a:Act)(w:World):Prop :=
 ∃(d:List G) (loc:List (Option (Nat × Nat))) (X:XS) (seen:Array Nat) (last:Nat) (p:List (List G)),
  cH sp.st sp.a7 p d0=some d∧sp.a7 d=itb∧(p++rows.filter fun x => !seen.contains (cV x)).Perm rows ∧
  bN (aO sp.inv d).den { w:=w,H:=(aO sp.inv d).den.H,loc:=loc,X:=X } a∧E.dj m { w:=w,H:=(aO sp.inv d).den.H,loc:=loc,X:=X }∧X itb ∧
  w.heap[itb]? = some (.mapIter (some mb) clock seen last)∧clock≤last∧ri d=rows∧ci d=clock∧loc[sp.id]? = some (some (mb,nn))
theorem Vs(hm:P.follows .mixedOrders=true)(ht:au P τ)(hL:ay P m L body)(hr:jJ P τ L m sp bA body)(ho:mH P sp bg bQ bA)
  (hu1:∀ d,(aO sp.inv d).fr[sp.t1]? = some .undef) (hu2:∀ d,(aO sp.inv d).fr[sp.t2]? = some .undef) (hut:∀ d,(aO sp.inv d).fr[sp.it]? = some (.lit (.pointer (some ⟨sp.a7 d,0,none⟩))))
  {E:Env} {rows:List (List G)} {d0:List G} {itb mb clock:Nat} {nn:Nat} {r1 b0 b1 r2:Nat}
  (hid2:∀ d,(aO sp.inv d).H[sp.id]? = some (.map sp.K sp.V (ri d) (ci d))) (hkeep:∀ r d d',sp.st r d=some d'→ri d'=ri d∧ci d'=ci d) (him:sp.id<m) (hsz:E.w.heap.size≤itb) (hn:(rows.map cV).Nodup) (hlt:∀ r∈rows,cV r<clock)
  (hfold:∀ p,p.Perm rows→(cH sp.st sp.a7 p d0).isSome=true) {a:Act} {w:World} (hI:Le m sp ri ci E rows d0 itb mb nn clock a w) (ro:Option Nat) (hro:eG ro body) :
  (Code.loop (.seq (.region r1 bQ false) (.seq (.cond (.tmp sp.t2) .skip (.exit b0)) (.block b1 (.seq (.region r2 bA false) body))))).wpIn (fz ro) 0 P
   (fun e a1 J=>e=.exit b0∧∃ p d,p.Perm rows∧cH sp.st sp.a7 p d0=some d∧dx m E (aO sp.inv d).den a1 J) a w:=by
 obtain⟨o1,o2,e1,g1,p1,q1,g2,p2,q2⟩:=ho.r1;obtain⟨o3,l,e3,g3,p3,q3⟩:=ho.r2;refine wpIn_loop (Le m sp ri ci E rows d0 itb mb nn clock) (fun _ w=>(rows.filter fun x => !(w.iterSeen itb).contains (cV x)).length) hI fun a w hI=>?_;obtain⟨d,loc,X,seen,last,p,hf,had,hp,q,hle,W,hit,hcl,hriD,hciD,hlo⟩:=hI;have hidd:=hid2 d;rw[hriD,hciD]at hidd;have hob:=q.heap.obj sp.id _ (bh hidd);simp only[ah.den,aM]at hob;obtain⟨k,nn',ms,hlo',hmb,hre⟩:=hob;have hmbe:k=mb:=by
  have h:=hlo';rw[hlo]at h;simp only[aV,ba]at h;exact h.1.symm
 subst hmbe;have hne:k≠itb:=fun e=>(q.heap.lt sp.id k nn hlo).2 (by rw[e]; exact W);have h10:bQ[0]? = some o1:=by
  have:bQ.toList[0]? = some o1:=by rw[e1]; rfl
  simpa using this
 have h11:bQ[1]? = some o2:=by
  have:bQ.toList[1]? = some o2:=by rw[e1]; rfl
  simpa using this
 have hsz1:bQ.size=2:=by
  have:bQ.toList.length=2:=by rw[e1]; rfl
  simpa using this
 have hiv:a.eval (.tmp sp.it)=.pointer (some ⟨itb,0,none⟩):=by
  have h:=q.eval (.tmp sp.it);have e:(aO sp.inv d).den.eval (.tmp sp.it)=.lit (.pointer (some ⟨sp.a7 d,0,none⟩)):=by
   show (aO sp.inv d).fr.getD sp.it .undef=_
   rw[cf,hut d];rfl
  rw[e]at h;simp only[rel]at h;rw[h,had]
 obtain⟨hlen,hen⟩:=dW.1 hre;have hl1:(da sp.K sp.V rows).length=rows.length:=by simp[da]
 have M:∀(i:Nat) (e:MapEntry),ms.toList[i]? = some e→∃ r,rows[i]? = some r∧e.born=cV r:=by
  intro i e hi;have h1:=aL hi;have y:i<rows.length:=by omega
  refine⟨rows[i],bI y,?_⟩;exact(hen i (sp.K.av (gi rows[i] 0).row,sp.V.av (gi rows[i] 1).row,(gi rows[i] 2).int.toNat) e (by simp[da,y]) hi).2.2.1
 have hold:∀ x∈ms.toList,x.born<clock:=by
  intro x I;obtain⟨i,hi⟩:=nc I;obtain⟨r,h1,y⟩:=M i x hi;rw[y];exact hlt r (eT h1)
 have hbn:(ms.toList.map (·.born)).Nodup:=by
  have:ms.toList.map (·.born)=rows.map cV:=by
   apply List.ext_getElem?;intro i;simp only[List.getElem?_map];cases hi:ms.toList[i]? with
   | none =>
    have h1:=List.getElem?_eq_none_iff.1 hi;rw[List.getElem?_eq_none (by omega)];rfl
   | some e =>
    obtain⟨r,h1,y⟩:=M i e hi;rw[h1];simp[y]
  rw[this];exact hn
 refine wpIn_seq (wpIn_region ?_);rw[hsz1];show wpOpsIn (fz ro) 0 P bQ _ [0,1] a w
 rw[wpOpsIn_cons];have hlt1:=yN q (hu1 d);have hlt2:=yN q (hu2 d);rcases run_next_at (P:=P) w o1.type itb k clock last seen ms clock hit hmb hold hcl with⟨h0,hrun⟩|⟨e,he,J,hw1,hrun⟩
 ·refine ka h10 g1 (yP p1 hiv hrun) (fun c e => by rw [p1] at e; cases e) ro ?_
  rw[q1,wpOpsIn_cons];refine ka h11 g2 (yO p2 (n_ hlt1) rfl) (fun c e=>by rw[p2]at e; cases e) ro ?_;rw[q2];show (Code.seq _ _).wpIn (fz ro) 0 P _ _ w
  refine wpIn_seq (wpIn_cond_false (n_ (by simpa[Act.put]using hlt2)) (wpIn_exit ?_));refine⟨rfl,p,d,?_,hf,loc,X,?_,hle⟩
  ·have:(rows.filter fun x => !seen.contains (cV x))=[]:=by
    rw[List.filter_eq_nil_iff];intro x I hc;obtain⟨i,hi⟩:=nc I;have h1:=aL hi;have y:i<ms.toList.length:=by omega
    obtain⟨r,h3,h4⟩:=M i _ (bI y);rw[hi]at h3;cases h3;have:ms.toList[i]∈(leftOf ms seen).toList:=by
     unfold leftOf;rw[Array.toList_filter];refine List.mem_filter.2 ⟨nm y,?_⟩;rw[h4];exact hc
    have h5:(leftOf ms seen).toList.length=0:=by simpa using h0
    rw[List.length_eq_zero_iff.1 h5]at this;cases this
   rwa [this,cO]at hp
  ·exact(q.oa (hu1 d) (.tuple #[.bool false])).oa (hu2 d) (.bool false)
 ·refine ka h10 g1 (yP p1 hiv hrun) (fun c e => by rw [p1] at e; cases e) ro ?_
  rw[q1,wpOpsIn_cons];refine ka h11 g2 (yO p2 (n_ hlt1) rfl) (fun c e=>by rw[p2]at e; cases e) ro ?_;rw[q2];show (Code.seq _ _).wpIn (fz ro) 0 P _ _ _
  refine wpIn_seq (wpIn_cond_true (n_ (by simpa[Act.put]using hlt2)) (wpIn_skip ?_));show (Code.block _ _).wpIn (fz ro) 0 P _ _ _
  refine wpIn_block (wpIn_seq (wpIn_region ?_));generalize hw2:setBlock J itb (.mapIter (some k) clock (seen.push e.born) clock)=g;have O:J.heap=w.heap:=by rcases hw1 with rfl|rfl<;>rfl
  have hos:dL w g:=by rw[←hw2]; rcases hw1 with rfl|rfl<;>exact⟨rfl,rfl,rfl,by first|exact fun _=>aB _|exact fun _=>eS _ _⟩
  have hit2':g.heap[itb]? = some (.mapIter (some k) clock (seen.push e.born) clock):=by
   rw[←hw2];exact(Hq (by rw[O]; exact hit)).1
  have N:∀ b,b≠itb→g.heap[b]? = w.heap[b]? := by
   intro b hb;rw[←hw2];show (J.heap.setIfInBounds itb _)[b]? = _
   rw[(Hq (by rw[O]; exact hit)).2 b hb,O]
  have hsize:g.heap.size=w.heap.size:=by
   rw[←hw2];show (J.heap.setIfInBounds itb _).size=_
   simp[O]
  have hmb2:g.heap[k]? = some (.map ms clock):=by rw[N k hne]; exact hmb
  have cC:gk { w:=w,H:=(aO sp.inv d).den.H,loc:=loc,X:=X } { w:=g,H:=(aO sp.inv d).den.H,loc:=loc,X:=X } :=
   ⟨rfl,rfl,by show w.heap.size≤g.heap.size; omega,fun b hb I=>⟨I,N b (fun e=>I (by rw[e]; exact W))⟩,fun b hb=>by show b<g.heap.size; rw[hsize]; exact q.heap.X b hb,rfl⟩
  have hmk:iT g X a.defers:=⟨q.defers.1,fun dd hdd=>by
   obtain⟨D,e,h1,y,h3⟩:=q.defers.2 dd hdd;exact⟨D,e,by rw[N D (fun e=>by rw[e]at h1; rw[hit]at h1; cases h1)]; exact h1,y,h3⟩⟩
  have hs1:=((q.cC cC hmk).oa (hu1 d) (.tuple #[.bool true,e.key,e.val])).oa (hu2 d) (.bool true);obtain⟨hem,hes⟩:=mem_left he;obtain⟨i,hi⟩:=nc hem;obtain⟨r,hri,hrb⟩:=M i e hi;have hrm:=eT hri;have hre2:=iI cC.toC hre;obtain⟨k1,k2,_⟩:=(dW.1 hre2).2 i (sp.K.av (gi r 0).row,sp.V.av (gi r 1).row,(gi r 2).int.toNat) e (by simp[da,hri]) hi;have hiv1:((a.put (some sp.t1) (.tuple #[.bool true,e.key,e.val])).put (some sp.t2) (.bool true)).eval (.tmp sp.it)=.pointer (some ⟨itb,0,none⟩):=by
   have h:=hs1.eval (.tmp sp.it);have e:(aO sp.inv d).den.eval (.tmp sp.it)=.lit (.pointer (some ⟨sp.a7 d,0,none⟩)):=by
    show (aO sp.inv d).fr.getD sp.it .undef=_
    rw[cf,hut d];rfl
   rw[e]at h;simp only[rel]at h;rw[h,had]
  have h20:bA[0]? = some o3:=by
   have:bA.toList[0]? = some o3:=by rw[e3]; rfl
   simpa using this
  have hl2:bA.toList.drop 1=l:=by rw[e3]; rfl
  have hsz2:bA.size=l.length+1:=by
   have:bA.toList.length=l.length+1:=by rw[e3]; rfl
   simpa using this
  have hlp:(p++(r::rows.filter fun x => !(seen.push (cV r)).contains (cV x))).Perm rows :=
   (List.Perm.append_left p (yL hn hrm (by rw[←hrb]; exact hes)).symm).trans hp
  have B:∃ d',sp.st r d=some d'∧sp.a7 d'=sp.a7 d:=by
   have h:=hfold _ hlp;rw[uV,hf]at h;simp only[AW,cH]at h;cases B:sp.st r d with
   |none=>rw[B]at h; cases h
   | some d' =>
    rw[B]at h;simp only[]at h;cases hb:ad (sp.a7 d') (sp.a7 d)with
    |true=>exact⟨d',rfl,br hb⟩
    |false=>rw[hb]at h; cases h
  obtain⟨d',B,had'⟩:=B;have hf':cH sp.st sp.a7 (p++[r]) d0=some d':=by
   rw[uV,hf];simp only[AW,cH,B,had'];simp
  obtain⟨s4,ha4,hsat⟩:=KR hm ht hL hr B;rw[hsz2,AQ,List.range'_succ,wpOpsIn_cons];refine ka h20 g3 (KT p3 hiv1 (run_entry_at (P:=P) g itb k clock seen ms clock e hit2' hmb2 hem hbn)) (fun c e=>by rw[p3]at e; cases e) ro ?_;rw[q3];have hs3:=hs1.jd sp.t3 (v:=.tuple [sp.K.av (gi r 0).row,sp.V.av (gi r 1).row]) (u:=.tuple #[e.key,e.val]) (by simp only[rel]; exact⟨_,rfl,by simp only[af]; exact⟨k1,k2,trivial⟩⟩);refine xB (pf:=τ.pf) (ops:=bA) l (0+1) (sp.rs r d).den s4.den { w:=g,H:=(aO sp.inv d).den.H,loc:=loc,X:=X } _ (by rw[←hl2]) (by rw[hl2]at ha4; exact ha4) hs3 (fun a3 w3 hc3=>?_) ro;obtain⟨loc3,r3,hs4,hle3⟩:=hc3;show body.wpIn (fz ro) 0 P _ a3 w3
  refine wpIn_mono (hsat ro hro { w:=w3,H:=s4.den.H,loc:=loc3,X:=X.re r3 } a3 hs4) fun x a4 w4 I=>?_;obtain⟨rfl,loc4,X4,hs5,hle4⟩:=I;have U:({ w:=g,H:=(aO sp.inv d).den.H,loc:=loc,X:=X }:Env).dj m { w:=w4,H:=(aO sp.inv d').den.H,loc:=loc4,X:=X4 }:=hle3.toM.trans hle4;have hXsz:itb<g.heap.size:=rM hit2';have hnown:¬ Env.own { w:=g,H:=(aO sp.inv d).den.H,loc:=loc,X:=X } itb:=by
   exact(q.heap.cC cC).nt W
  have hmbsz:k<g.heap.size:=rM hmb2;have hit4:w4.heap[itb]? = some (.mapIter (some k) clock (seen.push e.born) clock):=by rw[U.same itb hXsz hnown]; exact hit2'
  obtain⟨hk1,hk2⟩:=hkeep r d d' B;have hidd':=hid2 d';rw[hk1,hk2,hriD,hciD]at hidd';have hlive:=(U.live sp.id him ⟨_,bh hidd,rfl,fun v _=>er v⟩ ⟨_,bh hidd',rfl⟩).2;refine⟨⟨d',loc4,X4,seen.push e.born,clock,p++[r],hf',by rw[had',had],?_,hs5,?_,(U.X itb hXsz).1.2 W,hit4,aB _,by rw[hk1,hriD],by rw[hk2,hciD],?_⟩,?_⟩
  ·rw [hrb, gG]
   exact hlp
  ·refine Env.dj.trans (E' := { w := g, H := (aO sp.inv d).den.H, loc := loc, X := X }) ⟨hle.past, ?_, ?_, hle.own, hle.live, hle.X, hle.rl, hle.env.trans hos, hle.grow⟩ U
   ·have := hle.size
    show E.w.heap.size≤g.heap.size
    rw[hsize];exact this
   ·intro b hb hbo
    show g.heap[b]? = _
    rw[N b (by omega)];exact hle.same b hb hbo
  ·rw [show loc4[sp.id]? = loc[sp.id]? from hlive]
   exact hlo
  ·show (rows.filter fun x => !(w4.iterSeen itb).contains (cV x)).length < (rows.filter fun x => !(w.iterSeen itb).contains (cV x)).length
   rw[yQ hit4,yQ hit];have:=(yL hn hrm (by rw[←hrb]; exact hes)).length_eq;rw[←hrb]at this;simp only[List.length_cons]at this;omega
theorem Vt(hm:P.follows .mixedOrders=true)(ht:au P τ)(hL:ay P m L body)(hr:jJ P τ L m sp bA body)(ho:mH P sp bg bQ bA)
  (hu1:∀ d,(aO sp.inv d).fr[sp.t1]? = some .undef) (hu2:∀ d,(aO sp.inv d).fr[sp.t2]? = some .undef) (hut:∀ d,(aO sp.inv d).fr[sp.it]? = some (.lit (.pointer (some ⟨sp.a7 d,0,none⟩))))
  {r1 b0 b1 r2:Nat} (hid2:∀ d,(aO sp.inv d).H[sp.id]? = some (.map sp.K sp.V (ri d) (ci d))) (hkeep:∀ r d d',sp.st r d=some d'→ri d'=ri d∧ci d'=ci d) (him:sp.id<m)
  {s:al} {d:List G} {rows:List (List G)} {clock:Nat} (N:s.eval (.tmp sp.y)=.map sp.id) (hid:s.H[sp.id]? = some (.map sp.K sp.V rows clock)) (hn:(rows.map cV).Nodup)
  (hlt:∀ r∈rows,cV r<clock) (hin:∀ b,ig m sp.inv sp.ps (gz sp.opens (sp.vc s b))=some (true,sp.init d b)) (hadr:∀ b,sp.a7 (sp.init d b)=b) (I:∀ b,ri (sp.init d b)=rows∧ci (sp.init d b)=clock)
  (hfold:∀ b p,p.Perm rows→(cH sp.st sp.a7 p (sp.init d b)).isSome=true) (E:Env) (a:Act) (k:bN s.den E a) (ro:Option Nat) (hro:eG ro body) {Q:Exit→Act→World→Prop}
  (hQ:∀ O U,(∃ b p d',p.Perm rows∧cH sp.st sp.a7 p (sp.init d b)=some d'∧dx m E (aO sp.inv d').den O U)→Q .normal O U) :
  wpOpsIn (fz ro) 0 P bg (Exit.then ((Code.block b0 (.loop (.seq (.region r1 bQ false) (.seq (.cond (.tmp sp.t2) .skip (.exit b0)) (.block b1 (.seq (.region r2 bA false) body)))))).wpIn (fz ro) 0 P Q) Q) [bg.toList.dropLast.length] a E.w:=by
 obtain⟨o2,ty,e1,g2,p2,q2,M⟩:=ho.r0;have h11:bg[bg.toList.dropLast.length]? = some o2:=by
  have:bg.toList[bg.toList.dropLast.length]? = some o2:=by
   rw[e1];simp
  simpa using this
 have hid':E.H[sp.id]? = some (.map (da sp.K sp.V rows) clock):=by
  rw[k.H];exact bh hid
 have hrx:rel E (.map sp.id) (a.eval (.tmp sp.y)):=by
  have:=k.eval (.tmp sp.y)
  rwa [al.kQ,N]at this
 obtain⟨mb,n,ms,hc,hloc,hmb,hre⟩:=oW k.heap hid' hrx;obtain⟨⟨kt,et⟩,M⟩:=qf.1 M;have hmbs:mb<E.w.heap.size:=rM hmb;rw[wpOpsIn_cons];refine ka h11 g2 (KU p2 hc (run_range_map E.w ty kt et mb ms clock (fg M) hmb)) (fun c e=>by rw[p2]at e; cases e) ro ?_;rw[q2];show (Code.block _ _).wpIn (fz ro) 0 P _ _ _
 generalize J:E.w.alloc (.mapIter (some mb) clock #[] clock)=g;have hsize:g.heap.size=E.w.heap.size+1:=by rw[←J]; show (E.w.heap.push _).size=_; simp
 have hold:∀ b,b<E.w.heap.size→g.heap[b]? = E.w.heap[b]? := fun b hb=>by rw[←J]; exact(show (E.w.heap.push _)[b]? = _ by rw[wv,if_neg (by omega)])
 have hitn:g.heap[E.w.heap.size]? = some (.mapIter (some mb) clock #[] clock):=by rw[←J]; exact(show (E.w.heap.push _)[E.w.heap.size]? = _ by simp)
 have hos:dL E.w g:=by rw[←J]; exact⟨rfl,rfl,rfl,by first|exact fun _=>aB _|exact fun _=>eS _ _⟩
 have cC:gk { w:=E.w,H:=E.H,loc:=E.loc,X:=E.X } { w:=g,H:=E.H,loc:=E.loc,X:=E.X.or fun b=>b=E.w.heap.size } :=
  ⟨rfl, rfl, by show E.w.heap.size ≤ g.heap.size; omega, fun b hb N => ⟨fun h => h.elim N (fun e => absurd hb (by rw [e]; exact qo _)), hold b hb⟩, fun b hb => by
   show b<g.heap.size
   rcases hb with hb|hb
   ·have := k.heap.X b hb
    omega
   ·omega,rfl⟩
 have hs3:=(k.cC cC (w5 (X':=E.X.or fun b=>b=E.w.heap.size) (w':=g) k.defers (fun _ h1 q=>⟨.inl h1,q⟩) fun b h1 _=>hold b (k.heap.X b h1))).jd sp.it (v:=.lit (.pointer (some ⟨E.w.heap.size,0,none⟩))) (u:=.pointer (some ⟨E.w.heap.size,0,none⟩)) (by simp only[rel]);have hs3':bN (sp.vc s E.w.heap.size).den { w:=g,H:=E.H,loc:=E.loc,X:=E.X.or fun b=>b=E.w.heap.size } _:=hs3;obtain⟨loc,X4,hs4,B⟩:=((lz sp.opens _).trans (ly (hin E.w.heap.size))) _ _ hs3';have hidd:=hid2 (sp.init d E.w.heap.size);rw[(I _).1,(I _).2]at hidd;have hlive:=(B.live sp.id him ⟨_,hid',rfl,fun v _=>er v⟩ ⟨_,bh hidd,rfl⟩).2;refine wpIn_block (wpIn_mono (Vs hm ht hL hr ho hu1 hu2 hut (ri:=ri) (ci:=ci) (E:=E) (rows:=rows) (d0:=sp.init d E.w.heap.size) (itb:=E.w.heap.size) (mb:=mb) (nn:=n) (clock:=clock)
  hid2 hkeep him (aB _) hn hlt (hfold _) ?_ ro hro) fun e O U W=>?_)
 ·refine ⟨sp.init d E.w.heap.size, loc, X4, #[], clock, [], rfl, hadr _, ?_, hs4, ?_, (B.X E.w.heap.size (by show _ < g.heap.size; omega)).1.2 (.inr rfl), ?_, aB _, (I _).1, (I _).2, ?_⟩
  ·have : (rows.filter fun x => !(#[] : Array Nat).contains (cV x)) = rows := List.filter_eq_self.2 (fun x _ => by simp)
   rw[List.nil_append,this]
  ·refine Env.dj.trans (E' := { w := g, H := E.H, loc := E.loc, X := E.X.or fun b => b = E.w.heap.size }) ⟨fun _ _ h => h, ?_, ?_, fun b _ h => h, fun _ _ _ h => ⟨h, rfl⟩, fun b hb => ⟨⟨fun h => h.elim id fun e => absurd hb (by rw [e]; exact qo _), .inl⟩, Iff.rfl⟩, fun _ _ h => ⟨h, fun _ W => W⟩, hos, fun _ _ _ o h1 q _ => ⟨⟨[], (cO _).symm⟩, o, h1, q⟩⟩ B
   ·show E.w.heap.size ≤ g.heap.size
    omega
   ·exact fun b hb _=>hold b hb
  ·rw [B.same E.w.heap.size (by show _ < g.heap.size; omega) ?_]
   ·exact hitn
   ·exact(k.heap.cC cC).nt (.inr rfl)
  ·rw [show loc[sp.id]? = E.loc[sp.id]? from hlive]
   exact hloc
 ·obtain ⟨rfl, p, d', h1, q, h3⟩ := W
  simp only[Hh,if_true];exact hQ _ _ ⟨_,p,d',h1,q,h3⟩
theorem Vu(hm:P.follows .mixedOrders=true)(ht:au P τ)(hL:ay P m L body)(hr:jJ P τ L m sp bA body)(ho:mH P sp bg bQ bA)
  (O:∀ d,(aO sp.inv d).fr[sp.t1]? = some .undef) (U:∀ d,(aO sp.inv d).fr[sp.t2]? = some .undef) (W:∀ d,(aO sp.inv d).fr[sp.it]? = some (.lit (.pointer (some ⟨sp.a7 d,0,none⟩))))
  {r0 r1 b0 b1 r2:Nat} (J:∀ d,(aO sp.inv d).H[sp.id]? = some (.map sp.K sp.V (ri d) (ci d))) (B:∀ r d d',sp.st r d=some d'→ri d'=ri d∧ci d'=ci d) (him:sp.id<m)
  {s s1:al} {d:List G} {rows:List (List G)} {clock:Nat} (hp:fI P τ.pf bg bg.toList.dropLast s.den s1.den) (hx:s1.eval (.tmp sp.y)=.map sp.id) (hid:s1.H[sp.id]? = some (.map sp.K sp.V rows clock)) (hn:(rows.map cV).Nodup)
  (g:∀ r∈rows,cV r<clock) (hin:∀ b,ig m sp.inv sp.ps (gz sp.opens (sp.vc s1 b))=some (true,sp.init d b)) (M:∀ b,sp.a7 (sp.init d b)=b) (hri:∀ b,ri (sp.init d b)=rows∧ci (sp.init d b)=clock)
  (I:∀ b p,p.Perm rows→(cH sp.st sp.a7 p (sp.init d b)).isSome=true) (E:Env) (a:Act) (hs:bN s.den E a) (ro:Option Nat) (hro:eG ro body) :
  (kW r0 b0 r1 b1 r2 bg bQ bA sp.t2 body).wpIn (fz ro) 0 P (fun e k q=>e=.normal∧∃ b p d',p.Perm rows∧cH sp.st sp.a7 p (sp.init d b)=some d'∧dx m E (aO sp.inv d').den k q) a E.w:=by
 refine wpIn_seq (wpIn_region ?_);obtain⟨o2,ty,u,_⟩:=ho.r0;have hsz:bg.size=bg.toList.dropLast.length+1:=by
  have h:=congrArg List.length u;simpa using h
 have hl:dv bg.size=tc 0 bg.toList.dropLast.length++[bg.toList.dropLast.length]:=by
  rw[hsz,List.range_succ,AQ]
 rw[hl];refine yK (pf:=τ.pf) ro bg.toList.dropLast 0 s.den s1.den E a _ (fun j o v=>?_) hp hs fun k q hc=>?_
 ·have g := aL v
  have:bg.toList[j]? = some o:=by
   rw[u,cI g];exact v
  simpa using this
 ·obtain ⟨N, r1, h1, h2⟩ := hc
  refine Vt hm ht hL hr ho O U W J B him hx hid hn g hin M hri I { w:=q,H:=s1.den.H,loc:=N,X:=E.X.re r1 } k h1 ro hro fun a2 w2 ⟨b,p,d',g1,g2,g3⟩=>?_;exact⟨rfl,b,p,d',g1,g2,dx.after h2.toM g3⟩
theorem Vv(hm:P.follows .mixedOrders=true)(W:au P τ){rest:Code}{q qr:bx}(hL:ay P m L body)(hr:jJ P τ L m sp bA body)(ho:mH P sp bg bQ bA)
  (hu1:∀ d,(aO sp.inv d).fr[sp.t1]? = some .undef) (hu2:∀ d,(aO sp.inv d).fr[sp.t2]? = some .undef) (hut:∀ d,(aO sp.inv d).fr[sp.it]? = some (.lit (.pointer (some ⟨sp.a7 d,0,none⟩))))
  {r0 r1 b0 b1 r2:Nat} (hid2:∀ d,(aO sp.inv d).H[sp.id]? = some (.map sp.K sp.V (ri d) (ci d))) (hkeep:∀ r d d',sp.st r d=some d'→ri d'=ri d∧ci d'=ci d) (him:sp.id<m)
  {rows:List G→List (List G)} {clock:List G→Nat} {pre:List G→al} (hy:∀ d,(lv P τ bg bg.toList.dropLast (aO q.inv d) fun s=>.done .normal s).ke=some (.normal,pre d)) (u:∀ d,(pre d).eval (.tmp sp.y)=.map sp.id) (hid:∀ d,(pre d).H[sp.id]? = some (.map sp.K sp.V (rows d) (clock d)))
  (hin:∀ d b,ig m sp.inv sp.ps (gz sp.opens (sp.vc (pre d) b))=some (sp.side d b,sp.init d b)) (hadr:∀ d b,sp.a7 (sp.init d b)=b) (hri:∀ d b,ri (sp.init d b)=rows d∧ci (sp.init d b)=clock d)
  (hinv:qr.inv=sp.inv) (houts:qr.outs=q.outs) (I:pH P m rest qr) (hst:∀ d,q.st d=jK sp qr.st (rows d) (clock d) d) :
  pH P m (.seq (kW r0 b0 r1 b1 r2 bg bQ bA sp.t2 body) rest) q:=by
 intro d i d' h;rw[hst]at h;unfold jK at h;cases B:lB (rows d) (clock d)with
 |false=>rw[B]at h; cases h
 | true =>
  rw[B]at h;simp only[cond_true]at h;have hall:=C_ h;obtain⟨hn,hlt⟩:=KW B;have k:∀ b p,p.Perm (rows d)→sp.side d b=true∧∃ d1,cH sp.st sp.a7 p (sp.init d b)=some d1∧qr.st d1=some (some i,d'):=by
   intro b p g;have:=hall b p g;cases M:sp.side d b with
   |false=>rw[M]at this; cases this
   | true =>
    rw[M]at this;simp only[cond_true]at this;cases v:cH sp.st sp.a7 p (sp.init d b)with
    |none=>rw[v]at this; cases this
    | some d1 =>
     rw[v]at this;exact⟨rfl,d1,rfl,this⟩
  obtain⟨_,d1,_,g1⟩:=k 0 (rows d) (oO _);obtain⟨o,N,_⟩:=I d1 i d' g1;refine⟨o,by rw[←houts]; exact N,fun ro O E a hs=>wpIn_seq (wpIn_mono (Vu hm W hL hr ho hu1 hu2 hut hid2 hkeep him (K5 W (hy d)) (u d) (hid d) hn hlt (fun b=>by rw[hin d b,(k b (rows d) (oO _)).1]) (hadr d) (hri d) (fun b p g=>?_) E a hs ro (KQ O.seq1)) fun e a1 w1 hq=>?_)⟩
  ·obtain ⟨_, d2, h2, _⟩ := k b p g
   rw[h2];rfl
  ·obtain ⟨rfl, b, p, d2, g, v, loc, X, hs2, hle⟩ := hq
   obtain⟨_,d3,h3,h4⟩:=k b p g;rw[v]at h3;cases h3;obtain⟨o',U,J⟩:=I d2 i d' h4;rw[N]at U;cases U;rw[hinv]at J;exact wpIn_mono (J ro O.BW { w:=w1,H:=(aO sp.inv d2).den.H,loc:=loc,X:=X } a1 hs2) fun x a2 w2 u=>⟨u.1,dx.after hle u.2⟩
theorem ay.Vw(hm:P.follows .mixedOrders=true)(h:au P τ){fn:Func}{q qr:bx}{r0 b0 r1 b1 r2:Nat}{rows:List G→List (List G)}{clock:List G→Nat}
  (I:∀ d,(aO sp.inv d).H[sp.id]? = some (.map sp.K sp.V (ri d) (ci d))) (u:∀ r d d',sp.st r d=some d'→ri d'=ri d∧ci d'=ci d) (M:fe sp.id m=true) (hn:kV q.key (bG (aU fn))=true) (hL:ay P m L (aU fn))
  (k:cutAt fn q.key=.seq (kW r0 b0 r1 b1 r2 (lC (cutAt fn q.key)) (yV (cutAt fn q.key)) (ob (cutAt fn q.key)) sp.t2 (rP (cutAt fn q.key))) (rO (cutAt fn q.key)))
  (ho:(yS P sp (lC (cutAt fn q.key))&&yT sp (yV (cutAt fn q.key))&&yU sp (ob (cutAt fn q.key)))=true)
  (hr:jJ P τ L m sp (ob (cutAt fn q.key)) (rP (cutAt fn q.key)))
  (N:∀ d,(aO sp.inv d).fr[sp.t1]? = some .undef) (O:∀ d,(aO sp.inv d).fr[sp.t2]? = some .undef) (U:∀ d,(aO sp.inv d).fr[sp.it]? = some (.lit (.pointer (some ⟨sp.a7 d,0,none⟩))))
  {pre:List G→al} (hy:∀ d,(lv P τ (lC (cutAt fn q.key)) (lC (cutAt fn q.key)).toList.dropLast (aO q.inv d) fun s=>.done .normal s).ke=some (.normal,pre d)) (hx:∀ d,(pre d).eval (.tmp sp.y)=.map sp.id) (hid:∀ d,(pre d).H[sp.id]? = some (.map sp.K sp.V (rows d) (clock d)))
  (W:∀ d b,ig m sp.inv sp.ps (gz sp.opens (sp.vc (pre d) b))=some (sp.side d b,sp.init d b)) (J:∀ d b,sp.a7 (sp.init d b)=b) (hri:∀ d b,ri (sp.init d b)=rows d∧ci (sp.init d b)=clock d)
  (hinv:qr.inv=sp.inv) (v:qr.outs=q.outs) (B:ft P τ L m (rO (cutAt fn q.key)) qr) (hst:∀ d,q.st d=jK sp qr.st (rows d) (clock d) d) :
  ay P m (L.d_ m q) (aU fn):=by
 refine ay.KX hn hL fun g=>?_;rw[k]at g;obtain⟨hLb,hLr⟩:=KZ g;simp only[ax]at ho;rw[k];exact Vv hm h hLb hr (KY ho.1.1 ho.1.2 ho.2) N O U I u (by rw[←kC]; exact M) hy hx hid W J hri hinv v (B.sat hm h hLr) hst
end range
end Go.AL

namespace Go.AL
open Go
variable [Dr]
theorem Lf{a:G}{l:List G}:gi (a::l) 0=a:=rfl
theorem Lg{a:G}{l:List G}{n:Nat}:gi (a::l) (n+1)=gi l n:=rfl
theorem Vx{n:Int}:(G.i n).int=n:=rfl
theorem Vy{n:Nat}:ad n n=true:=Nat.beq_refl n
def Dj(sp:fv)(tl:List G→Option (Option Nat × List G))(rows:List (List G))(clock:Nat)(d:List G):Option (Option Nat × List G) :=
 match rows with
 | [x]=>bif lB [x] clock then bif sp.side d 0 then (cH sp.st sp.a7 [x] (sp.init d 0)).bind tl else none else none
 |_=>none
theorem Vz{sp:fv}{tl:List G→Option (Option Nat × List G)}{rows:List (List G)}{clock:Nat}{d:List G}{r:Option Nat × List G}
  (k:∀ b,sp.side d b=sp.side d 0) (q:∀ x b,(cH sp.st sp.a7 [x] (sp.init d b)).bind tl=(cH sp.st sp.a7 [x] (sp.init d 0)).bind tl)
  (h:Dj sp tl rows clock d=some r):jK sp tl rows clock d=some r:=by
 unfold Dj at h;split at h
 case h_2=>cases h
 rename_i x;cases h1:lB [x] clock with
 |false=>rw[h1]at h; cases h
 | true =>
  cases g:sp.side d 0 with
  |false=>rw[h1,g]at h; cases h
  | true =>
   rw[h1,g]at h;unfold jK;rw[h1];refine KV fun b p u=>?_;rw[List.perm_singleton.1 u,k b,g,cond_true,q x b];exact h
theorem VA{st:List G→List G→Option (List G)}{a7:List G→Nat}{x e:List G}:cH st a7 [x] e=(st x e).bind fun d'=>bif ad (a7 d') (a7 e) then some d' else none:=by
 simp only[cH];cases st x e<;>rfl
theorem VB{α β:Type}{c:Bool}{a b:Option α}{f:α→Option β}:(bif c then a else b).bind f=bif c then a.bind f else b.bind f:=by
 cases c<;>rfl
theorem VC{c:Bool}{X Y:Option (Option Nat × List G)}{K:Nat→List G→Option (List G)}{r:List G}(h:∀ v,X=some v→Y=some v)(d:aN c (bU X) K=some r):aN c (bU Y) K=some r:=by
 cases X with
 |some v=>rw[h v rfl]; exact d
 |none=>cases c<;>cases d
end Go.AL

namespace Go.AL
open Go
variable [Dr]
end Go.AL
