/-
 What is proved here: the function that slices.Backward hands back,called with a round's body: the rounds come from the last row to the first one. No program in sight; no condition.
-/
import Derived.Test.YtioeckojljemcaaGreatDoorMD
import Derived.Test.YtioeckojljemcaaGreatDoorMC
import Derived.Lib.LaidTab
import Derived.Sort.Grow
import Derived.Deep.Draws
set_option linter.all false
namespace Go.AL
open Go
variable [Dr]
theorem yields_readO {P:Program} {pf:FuncId→Bool} {ops:Array Oper} {o:Oper} {s:St} {v:AV} (hg:o.guard=none) (hc:clsOf pf o.op=.read) (h:evR P s.eval s.H o.op=some v):Yields P pf ops o s v s.H:=by
 unfold Yields
 rw [show wantedA ops s.fr o=some true from by unfold wantedA; rw [hg]]
 simp only [hc]
 exact ⟨trivial,h⟩
theorem yields_pureO {P:Program} {pf:FuncId→Bool} {ops:Array Oper} {o:Oper} {s:St} {v:AV} (hg:o.guard=none) (hc:clsOf pf o.op=.pure) (h:evP P s.eval o.op=some v):Yields P pf ops o s v s.H:=by
 unfold Yields
 rw [show wantedA ops s.fr o=some true from by unfold wantedA; rw [hg]]
 simp only [hc]
 exact ⟨trivial,.inl h⟩
structure BwOps (S T:TypeId) (ops0 ops1 ops2 ops3:Array Oper):Prop where
 r0:∃ o1 o2 o3 o4 t t',ops0.toList=[o1,o2,o3,o4]∧(o1.guard=none∧o1.op=.load S (.tmp 1)∧o1.dst=some 4)∧(o2.guard=none∧o2.op=.call { callee:=.builtin .len,args:=#[.tmp 4],argTypes:=#[S] }∧o2.dst=some 5) ∧
  (o3.guard=none∧o3.op=.binOp .sub t (.tmp 5) (.const (.int .i64 1)) t'∧o3.dst=some 6)∧(o4.guard=none∧o4.op=.assign (.tmp 6)∧o4.dst=some 3)
 r1:∃ o1 o2 t t',ops1.toList=[o1,o2]∧(o1.guard=none∧o1.op=.move (.tmp 3)∧o1.dst=some 7)∧(o2.guard=none∧o2.op=.binOp .geq t (.tmp 7) (.const (.int .i64 0)) t'∧o2.dst=some 8)
 r2:∃ o1 o2 o3 t t',ops2.toList=[o1,o2,o3]∧(o1.guard=none∧o1.op=.move (.tmp 3)∧o1.dst=some 9)∧(o2.guard=none∧o2.op=.binOp .sub t (.tmp 9) (.const (.int .i64 1)) t'∧o2.dst=some 10)∧(o3.guard=none∧o3.op=.assign (.tmp 10)∧o3.dst=some 3)
 r3:∃ o1 o2 o3 o4 o5 o6 o7 o8 t tys,ops3.toList=[o1,o2,o3,o4,o5,o6,o7,o8]∧(o1.guard=none∧o1.op=.move (.tmp 0)∧o1.dst=some 11)∧(o2.guard=none∧o2.op=.move (.tmp 3)∧o2.dst=some 12)∧(o3.guard=none∧o3.op=.load S (.tmp 1)∧o3.dst=some 13) ∧
  (o4.guard=none∧o4.op=.move (.tmp 3)∧o4.dst=some 14)∧(o5.guard=none∧o5.op=.indexAddr S (.tmp 13) (.tmp 14)∧o5.dst=some 15)∧(o6.guard=none∧o6.op=.load T (.tmp 15)∧o6.dst=some 16) ∧
  (o7.guard=none∧o7.op=.call { callee:=.value (.tmp 11),args:=#[.tmp 12,.tmp 16],argTypes:=tys }∧o7.dst=some 17)∧(o8.guard=none∧o8.op=.unOp .not t (.tmp 17)∧o8.dst=some 18)
def bwCode (ops0 ops1 ops2 ops3:Array Oper) (r0 r1 r2 r3 b0 b1:Nat):Code :=
 .seq (.region r0 ops0 false) (.block b0 (.loop (.seq (.seq (.region r1 ops1 false) (.cond (.tmp 8) .skip (.exit b0))) (.seq (.block b1 (.seq (.region r3 ops3 false) (.cond (.tmp 18) .ret .skip))) (.region r2 ops2 false)))))
def bwFr (y cp:AV) (i:AV):List AV:=[y,cp,.undef,i,.undef,.undef,.undef,.undef,.undef,.undef,.undef,.undef,.undef,.undef,.undef,.undef,.undef,.undef,.undef]
structure BwT (P:Program) (S T:TypeId) (sl:AV) (n:Nat) (rv:Nat→AV):Prop where
 load:∀ H,loadA P S (.cptr [sl]) H=some sl
 len:lenTA (kindK P S) sl=some (.lit (.int .i64 (n:Nat)))
 idx:∀ i:Int,0≤i→i<n→∃ cells,idxAddrA (kindK P S) sl (.lit (.int .i64 i))=some (.cptr cells)∧∀ H,loadA P T (.cptr cells) H=some (rv i.toNat)
 cl:AV.closedL [sl]=true
end Go.AL
namespace Go.AL
open Go
variable [Dr]
section bw
variable {P:Program} {pf:FuncId→Bool} {S T:TypeId} {sl:AV} {n:Nat} {rv:Nat→AV} {ops0 ops1 ops2 ops3:Array Oper}
theorem relList_mask {E:Env}:∀ {as bs:List AV} {vs:List Value},rLs E as vs→as.length=bs.length→(∀ (i:Nat) (b:AV),bs[i]? = some b→b=.undef∨as[i]? = some b)→rLs E bs vs
 | [],[],[],_,_,_=>by simp [rLs]
 | [],[],_::_,h,_,_=>by simp [rLs] at h
 | _::_,[],_,_,h,_=>by simp at h
 | [],_::_,_,_,h,_=>by simp at h
 | _::_,_::_,[],h,_,_=>by simp [rLs] at h
 | a::as,b::bs,v::vs,h,hl,hm=>by
  simp only [rLs] at h ⊢
  refine ⟨?_,relList_mask h.2 (by simpa using hl) fun i b' hb=>hm (i+1) b' (by simpa using hb)⟩
  rcases hm 0 b rfl with rfl | e
  ·simp [rel]
  ·have e : a = b := by simpa using e
   rw [←e]
   exact h.1
def Env.clr (E:Env):Env:={ E with X:=⟨E.X.x,fun _=>False,E.X.r⟩ }
theorem clr_chg {E:Env} (h:HRel E.clr):Chg E.clr E:=⟨rfl,rfl,Nat.le_refl _,fun b _ hx=>⟨hx,rfl⟩,h.X,rfl⟩
theorem marks_nil {w:World} {X:XS} {l:List Deferred} (h:marksOk w X l) (hz:∀ b,¬ X.z b):l=[]:=by
 cases l with
 | nil=>rfl
 | cons d l =>
  obtain ⟨D,_,_,_,h3⟩:=h.2 d List.mem_cons_self
  exact (hz D h3).elim
theorem bw_region {J:Env→Prop} (hJs:∀ E E',J E→E.le E'→HRel E'→E'.H=E.H→J E') {id:Nat} {ops:Array Oper} {fr fr':List AV} {E:Env} {a:Act} {Q:Exit→Act→World→Prop} (hs:SRel ⟨fr,E.H⟩ E.clr a) (hj:J E)
  (h:aOps P pf ops ops.toList ⟨fr,E.H⟩ ⟨fr',E.H⟩) (hQ:∀ a' E',J E'→SRel ⟨fr',E'.H⟩ E'.clr a'→Q .normal a' E'.w):(Code.region id ops false).wpIn (fz none) 0 P Q a E.w :=
 region_text hs h (fun a' w' hc=>by
  obtain ⟨loc',r',h1,h2⟩:=hc
  exact hQ a' { w:=w',H:=E.H,loc:=loc',X:=E.X.re r' } (hJs _ _ hj ⟨h2.past,h2.size,h2.same,h2.own,h2.live,⟨rfl,rfl⟩,h2.rl,h2.env⟩ (h1.heap.chg (clr_chg (E:={ w:=w',H:=E.H,loc:=loc',X:=E.X.re r' }) h1.heap)) rfl) h1) none
theorem bw_regionP {J:Env→Prop} (hJs:∀ E E',J E→E.le E'→HRel E'→E'.H=E.H→J E') {ops:Array Oper} {l:List Oper} {k:Nat} {rest:List Nat} {fr fr':List AV} {E:Env} {a:Act} {Q:Exit→Act→World→Prop}
  (hl:∀ (j:Nat) (o:Oper),l[j]? = some o→ops[k+j]? = some o) (hs:SRel ⟨fr,E.H⟩ E.clr a) (hj:J E)
  (h:aOps P pf ops l ⟨fr,E.H⟩ ⟨fr',E.H⟩) (hQ:∀ a' E',J E'→SRel ⟨fr',E'.H⟩ E'.clr a'→wpOpsIn (fz none) 0 P ops Q rest a' E'.w):wpOpsIn (fz none) 0 P ops Q (List.range' k l.length++rest) a E.w :=
 wpOps_pre none l k _ _ E.clr a rest hl h hs (fun a' w' hc=>by
  obtain ⟨loc',r',h1,h2⟩:=hc
  exact hQ a' { w:=w',H:=E.H,loc:=loc',X:=E.X.re r' } (hJs _ _ hj ⟨h2.past,h2.size,h2.same,h2.own,h2.live,⟨rfl,rfl⟩,h2.rl,h2.env⟩ (h1.heap.chg (clr_chg (E:={ w:=w',H:=E.H,loc:=loc',X:=E.X.re r' }) h1.heap)) rfl) h1)
theorem relList_env {E E':Env}:∀ {fr:List AV} {vs:List Value},rLs E fr vs→(∀ b∈fr,b=.undef∨(∃ v,b=.lit v)∨∀ c,rel E b c→rel E' b c)→rLs E' fr vs
 | [],[],_,_=>by simp [rLs]
 | [],_::_,h,_=>by simp [rLs] at h
 | _::_,[],h,_=>by simp [rLs] at h
 | b::fr,v::vs,h,hb=>by
  simp only [rLs] at h ⊢
  refine ⟨?_,relList_env h.2 fun x hx=>hb x (List.mem_cons_of_mem _ hx)⟩
  rcases hb b List.mem_cons_self with rfl | ⟨u,rfl⟩ | h'
  ·simp [rel]
  ·simpa only [rel] using h.1
  ·exact h' _ h.1
theorem aOps_cons {ops:Array Oper} {o:Oper} {l:List Oper} {fr:List AV} {H:List AObj} {s':St} {v:AV} {d:Tmp} (h:Yields P pf ops o ⟨fr,H⟩ v H) (hd:o.dst=some d) (h':aOps P pf ops l ⟨fr.set d v,H⟩ s'):aOps P pf ops (o::l) ⟨fr,H⟩ s' :=
 ⟨v, H, h, by
  simp only [St.put,putFr,hd]
  exact h'⟩
theorem aOps_nil {ops:Array Oper} {s:St}:aOps P pf ops [] s s:=rfl
theorem bin_sub {t:TypeId} {k:Bool} {a b:Int} (h:inI (a-b)=true):binA P .sub t k (.lit (.int .i64 a)) (.lit (.int .i64 b))=some (.lit (.int .i64 (a-b))):=by
 simp only [binA,litBin,if_true,intBin]
 rw [wrap_in h]
theorem bin_geq {t:TypeId} {k:Bool} {a b:Int}:binA P .geq t k (.lit (.int .i64 a)) (.lit (.int .i64 b))=some (.lit (.bool (decide (a ≥ b)))):=by
 simp only [binA,litBin,if_true,intBin]
theorem opsPos {ops:Array Oper} {l:List Oper} (h:ops.toList=l) (i:Nat):ops[i]? = l[i]? := by rw [←h]; simp
theorem bw_calls (hT:BwT P S T sl n rv) {f:FuncId} {fn:Func} {r0 r1 r2 r3 b0 b1:Nat} (hf:P.funcs[f]? = some fn) (hb:fn.body=some (bwCode ops0 ops1 ops2 ops3 r0 r1 r2 r3 b0 b1)) (hn:fn.ntmps=19) (hr:fn.results=#[]) (ho:BwOps S T ops0 ops1 ops2 ops3)
  {l:Nat} (hlen:n≤1048576) (J:Nat→Env→Prop) (hJ:∀ k E,J k E→HRel E) (hJs:∀ k E E',J k E→E.le E'→HRel E'→E'.H=E.H→J k E')
  {c:Value}
  (hround:∀ k E (cs:Array Value),k<n→J k E→rLs E [.lit (.int .i64 ((n:Int)-1-k)),rv (n-1-k)] cs.toList→YieldAt (fz none) 0 P l cs E.w fun e W'=>e=.returned (.bool true)∧∃ E',E'.w=W'∧J (k+1) E'∧E.leC E')
  {E0:Env} (h0:J 0 E0) (hcp:rel E0 (.cptr [sl]) c):CallsIn (fz none) 0 P f #[.func (.yield l) #[] #[],c] E0.w fun e W'=>(∃ v,e=.returned v)∧∃ E',E'.w=W'∧J n E':=by
 obtain ⟨o1,o2,o3,o4,t1,t2,q0,⟨g1,p1,d1⟩,⟨g2,p2,d2⟩,⟨g3,p3,d3⟩,⟨g4,p4,d4⟩⟩:=ho.r0
 refine callsIn_of_wp_marks hf hb trivial ?_
 have hin:∀ j:Int,0≤j→j≤n→inI (j-1)=true:=fun j h1 h2=>inI_iff.2 ⟨by omega,by omega⟩
 obtain ⟨y,hy⟩:∃ y:AV,y=.lit (.func (.yield l) #[] #[]):=⟨_,rfl⟩
 obtain ⟨cp,hcpe⟩:∃ cp:AV,cp=.cptr [sl]:=⟨_,rfl⟩
 rw [←hcpe] at hcp
 have hs0:SRel ⟨y::cp::List.replicate 17 .undef,E0.H⟩ E0.clr { tmps:=#[.func (.yield l) #[] #[],c]++Array.replicate (fn.ntmps-2) undef,defers:=[] }:=by
  have hE0:HRel E0.clr:=(hJ 0 E0 h0).chg (fresh_env (hJ 0 E0 h0))
  refine ⟨rfl,?_,marksOk_nil _ _,hE0⟩
  rw [hn]
  simp only [Array.toList_append,Array.toList_replicate]
  show rLs E0.clr ([y,cp]++List.replicate 17 .undef) ([.func (.yield l) #[] #[],c]++List.replicate 17 undef)
  refine relList_append (by simp only [rLs]; exact ⟨by rw [hy]; simp [rel],rel_chg (fresh_env (hJ 0 E0 h0)) _ hcp,trivial⟩) ?_
  exact relList_undef (List.replicate 17 undef)
 refine wpIn_seq (bw_region (pf:=fun _=>false) (J:=J 0) (hJs 0) hs0 h0 (fr':=[y,cp,.undef,.lit (.int .i64 ((n:Int)-1)),sl,.lit (.int .i64 (n:Int)),.lit (.int .i64 ((n:Int)-1)),.undef,.undef,.undef,.undef,.undef,.undef,.undef,.undef,.undef,.undef,.undef,.undef]) ?_ fun a1 E1 hj1 hs1=>?_)
 ·rw [q0]
  refine aOps_cons (v:=sl) (yields_readO g1 (by rw [p1]; rfl) ?_) d1 (aOps_cons (v:=.lit (.int .i64 (n:Int))) (yields_pureO g2 ?_ ?_) d2 (aOps_cons (v:=.lit (.int .i64 ((n:Int)-1))) (yields_pureO g3 (by rw [p3]; rfl) ?_) d3
   (aOps_cons (v:=.lit (.int .i64 ((n:Int)-1))) (yields_pureO g4 (by rw [p4]; rfl) ?_) d4 ?_)))
  ·rw [p1]
   show loadA P S cp E0.H=_
   rw [hcpe]
   exact hT.load _
  ·rw [p2]
   rfl
  ·rw [p2]
   show lenTA (kindK P S) sl=_
   exact hT.len
  ·rw [p3]
   exact bin_sub (P:=P) (t:=t1) (k:=isConstB (Operand.tmp 5)||isConstB (Operand.const (.int .i64 1))) (hin (n:Int) (by omega) (by omega))
  ·rw [p4]
   rfl
  ·exact aOps_nil
 -- the rounds
 have hmask:∀ {E:Env} {a:Act} {fr:List AV} {i:AV},SRel ⟨fr,E.H⟩ E.clr a→fr.length=19→fr[0]? = some y→fr[1]? = some cp→fr[3]? = some i→SRel ⟨bwFr y cp i,E.H⟩ E.clr a:=by
  intro E a fr i h h19 e0 e1 e3
  refine ⟨rfl,relList_mask h.fr (by rw [h19]; rfl) fun j b hb=>?_,h.defers,h.heap⟩
  match j,hb with
  | 0,hb=>exact .inr (by rw [e0]; exact hb)
  | 1,hb=>exact .inr (by rw [e1]; exact hb)
  | 3,hb=>exact .inr (by rw [e3]; exact hb)
  | 2,hb=>exact .inl (by cases hb; rfl)
  | j+4,hb =>
   left
   have hx:bwFr y cp i=[y,cp,.undef,i]++List.replicate 15 .undef:=rfl
   rw [hx,List.getElem?_append_right (by simp)] at hb
   have:=List.mem_of_getElem? hb
   exact (List.mem_replicate.1 this).2
 refine wpIn_block (wpIn_loop (fun a w=>∃ k E,E.w=w∧k≤n∧J k E∧SRel ⟨bwFr y cp (.lit (.int .i64 ((n:Int)-1-k))),E.H⟩ E.clr a)
  (fun a _=>match a.eval (.tmp 3) with | .int _ i=>(i+1).toNat | _=>0) ⟨0,E1,rfl,Nat.zero_le _,hj1,hmask hs1 rfl rfl rfl (by simp)⟩ ?_)
 rintro a _ ⟨k,E,rfl,hkl,hj,hs⟩
 obtain ⟨i1,i2,t3,t4,qq1,⟨ga1,pa1,da1⟩,⟨ga2,pa2,da2⟩⟩:=ho.r1
 obtain ⟨j1,j2,j3,t5,t6,qq2,⟨gb1,pb1,db1⟩,⟨gb2,pb2,db2⟩,⟨gb3,pb3,db3⟩⟩:=ho.r2
 obtain ⟨u1,u2,u3,u4,u5,u6,u7,u8,t7,tys,qq3,⟨gc1,pc1,dc1⟩,⟨gc2,pc2,dc2⟩,⟨gc3,pc3,dc3⟩,⟨gc4,pc4,dc4⟩,⟨gc5,pc5,dc5⟩,⟨gc6,pc6,dc6⟩,⟨gc7,pc7,dc7⟩,⟨gc8,pc8,dc8⟩⟩:=ho.r3
 obtain ⟨i,hi⟩:∃ i:Int,i=(n:Int)-1-k:=⟨_,rfl⟩
 rw [←hi] at hs
 have hmu:a.eval (.tmp 3)=.int .i64 i:=by
  have:=hs.eval (.tmp 3)
  simpa [St.eval,bwFr,rel] using this
 refine wpIn_seq (wpIn_seq (bw_region (pf:=fun _=>false) (J:=J k) (hJs k) hs hj (fr':=((bwFr y cp (.lit (.int .i64 i))).set 7 (.lit (.int .i64 i))).set 8 (.lit (.bool (decide (i ≥ 0))))) ?_ fun a2 E2 hj2 hs2=>?_))
 ·rw [qq1]
  refine aOps_cons (v:=.lit (.int .i64 i)) (yields_pureO ga1 (by rw [pa1]; rfl) (by rw [pa1]; rfl)) da1 (aOps_cons (v:=.lit (.bool (decide (i ≥ 0)))) (yields_pureO ga2 (by rw [pa2]; rfl) ?_) da2 aOps_nil)
  rw [pa2]
  exact bin_geq (P:=P) (t:=t3) (k:=isConstB (Operand.tmp 7)||isConstB (Operand.const (.int .i64 0)))
 have h8:a2.eval (.tmp 8)=.bool (decide (i ≥ 0)):=by
  have:=hs2.eval (.tmp 8)
  simpa [St.eval,bwFr,rel] using this
 by_cases hi0:i ≥ 0
 ·have hkl' : k < n := by omega
  refine wpIn_cond_true (by rw [h8]; simp [hi0]) (wpIn_skip ?_)
  have hs2':=hmask hs2 rfl rfl rfl rfl
  show (Code.seq _ _).wpIn (fz none) 0 P _ _ _
  refine wpIn_seq (wpIn_block (wpIn_seq (wpIn_region ?_)))
  obtain ⟨cells,hcells,hcell2⟩:=hT.idx i hi0 (by omega)
  have hsz:ops3.size=8:=by
   have:ops3.toList.length=8:=by rw [qq3]; rfl
   simpa using this
  rw [hsz]
  show wpOpsIn (fz none) 0 P ops3 _ (List.range' 0 6++[6,7]) a2 E2.w
  have hpos:∀ (j:Nat) (o:Oper),[u1,u2,u3,u4,u5,u6][j]? = some o→ops3[0+j]? = some o:=by
   intro j o hjo
   rw [opsPos qq3]
   have hlt:j<6:=by simpa using lt_of_getElem? hjo
   rw [Nat.zero_add,show [u1,u2,u3,u4,u5,u6,u7,u8]=[u1,u2,u3,u4,u5,u6]++[u7,u8] from rfl,List.getElem?_append_left (by simpa using hlt)]
   exact hjo
  refine bw_regionP (pf:=fun _=>false) (J:=J k) (l:=[u1,u2,u3,u4,u5,u6]) (k:=0) (hJs k) hpos hs2' hj2
   (fr':=[y,cp,.undef,.lit (.int .i64 i),.undef,.undef,.undef,.undef,.undef,.undef,.undef,y,.lit (.int .i64 i),sl,.lit (.int .i64 i),.cptr (cells),rv i.toNat,.undef,.undef]) ?_ fun a3 E3 hj3 hs3=>?_
  ·refine aOps_cons (v:=y) (yields_pureO gc1 (by rw [pc1]; rfl) (by rw [pc1]; rfl)) dc1 (aOps_cons (v:=.lit (.int .i64 i)) (yields_pureO gc2 (by rw [pc2]; rfl) (by rw [pc2]; rfl)) dc2 (aOps_cons (v:=sl) (yields_readO gc3 (by rw [pc3]; rfl) ?_) dc3
    (aOps_cons (v:=.lit (.int .i64 i)) (yields_pureO gc4 (by rw [pc4]; rfl) (by rw [pc4]; rfl)) dc4 (aOps_cons (v:=.cptr (cells)) (yields_pureO gc5 (by rw [pc5]; rfl) ?_) dc5 (aOps_cons (v:=rv i.toNat) (yields_readO gc6 (by rw [pc6]; rfl) ?_) dc6 aOps_nil)))))
   ·rw [pc3]
    show loadA P S cp E2.H=_
    rw [hcpe]
    exact hT.load _
   ·rw [pc5]
    exact hcells
   ·rw [pc6]
    exact hcell2 E2.H
  ·have h11:a3.eval (.tmp 11)=.func (.yield l) #[] #[]:=by
    have:=hs3.eval (.tmp 11)
    rw [show St.eval _ (.tmp 11)=y from rfl,hy] at this
    simpa only [rel] using this
   have hin2:i.toNat=n-1-k:=by omega
   have hE3:Chg E3.clr E3:=clr_chg hs3.heap
   have hrel:rLs E3 [.lit (.int .i64 ((n:Int)-1-k)),rv (n-1-k)] (#[a3.eval (.tmp 12),a3.eval (.tmp 16)]:Array Value).toList:=by
    rw [←hi,←hin2]
    simp only [rLs]
    exact ⟨rel_chg hE3 _ (hs3.eval (.tmp 12)),rel_chg hE3 _ (hs3.eval (.tmp 16)),trivial⟩
   obtain ⟨fn',tmps',asg,bod,hy1,hR⟩:=hround k E3 _ hkl' hj3 hrel
   rw [wpOpsIn_cons]
   unfold wpOpIn
   have h6:ops3[6]? = some u7:=by rw [opsPos qq3]; rfl
   simp only [h6]
   rw [if_pos (by simp [Region.wanted,gc7])]
   refine ⟨fun _ _=>trivial,?_⟩
   rw [Oper.semAt_eq _ _ _ (fun c e=>by rw [pc7] at e; cases e)]
   have hrun:(execOp a3.eval u7).run P E3.w=.ok (.round l fn' tmps' asg bod) E3.w:=by
    obtain ⟨dst,op,type,pos,after,guard⟩:=u7
    simp only [] at pc7
    subst pc7
    simp [execOp,resolve,h11,Deferred.ofValue,invoke,hy1]
   rw [hrun,Oper.uponIn_round]
   refine ⟨fun h=>(by cases h),hR.mono ?_⟩
   rintro e _ ⟨rfl,E',rfl,hj',hleC⟩
   show wpOpsIn (fz none) 0 P ops3 _ (List.range' 7 1++[]) _ E'.w
   rw [dc7]
   have hd3:a3.defers=[]:=marks_nil hs3.defers fun _ h=>h
   have hp:=(hmask hs3 rfl rfl rfl rfl).putT 17 (v:=.lit (.bool true)) (u:=.bool true) (by simp [rel])
   have hE':HRel E'.clr:=(hJ (k+1) E' hj').chg (fresh_env (hJ (k+1) E' hj'))
   have hs4:SRel ⟨(bwFr y cp (.lit (.int .i64 i))).set 17 (.lit (.bool true)),E'.H⟩ E'.clr (a3.put (some 17) (.bool true)):=by
    refine ⟨rfl,relList_env hp.fr fun b hb=>?_,?_,hE'⟩
    ·have hb : b ∈ (bwFr y cp (.lit (.int .i64 i))).set 17 (.lit (.bool true)) := hb
     rcases List.mem_or_eq_of_mem_set hb with hb | rfl
     ·simp only [bwFr, List.mem_cons, List.not_mem_nil, or_false] at hb
      rcases hb with rfl | rfl | rfl | rfl | hb
      ·exact .inr (.inl ⟨_,hy⟩)
      ·refine .inr (.inr fun c' h => ?_)
       rw [hcpe] at h ⊢
       exact rel_closed (E:=E3.clr) (E':=E'.clr) ⟨fun b hb=>hleC.ok b hb⟩ _ (by simp [AV.closed]) h
      ·exact .inl rfl
      ·exact .inr (.inl ⟨_,rfl⟩)
      ·left
       rcases hb with rfl | rfl | rfl | rfl | rfl | rfl | rfl | rfl | rfl | rfl | rfl | rfl | rfl | rfl | rfl<;>rfl
     ·exact .inr (.inl ⟨_,rfl⟩)
    ·rw [put_defers, hd3]
     exact marksOk_nil _ _
   refine bw_regionP (pf:=fun _=>false) (J:=J (k+1)) (l:=[u8]) (k:=7) (hJs (k+1)) ?_ hs4 hj' (fr':=((bwFr y cp (.lit (.int .i64 i))).set 17 (.lit (.bool true))).set 18 (.lit (.bool false))) ?_ fun a5 E5 hj5 hs5=>?_
   ·intro j o hjo
    have hlt:j<1:=by simpa using lt_of_getElem? hjo
    have:j=0:=by omega
    subst this
    rw [opsPos qq3]
    exact hjo
   ·exact aOps_cons (v:=.lit (.bool false)) (yields_pureO gc8 (by rw [pc8]; rfl) (by rw [pc8]; rfl)) dc8 aOps_nil
   ·show (Code.cond _ _ _).wpIn (fz none) 0 P _ _ _
    have h18:a5.eval (.tmp 18)=.bool false:=by
     have:=hs5.eval (.tmp 18)
     simpa [St.eval,bwFr,rel] using this
    refine wpIn_cond_false h18 (wpIn_skip ?_)
    show (Code.region _ _ _).wpIn (fz none) 0 P _ _ _
    refine bw_region (pf:=fun _=>false) (J:=J (k+1)) (hJs (k+1)) (hmask hs5 rfl rfl rfl rfl) hj5 (fr':=(((bwFr y cp (.lit (.int .i64 i))).set 9 (.lit (.int .i64 i))).set 10 (.lit (.int .i64 (i-1)))).set 3 (.lit (.int .i64 (i-1)))) ?_ fun a6 E6 hj6 hs6=>?_
    ·rw [qq2]
     refine aOps_cons (v:=.lit (.int .i64 i)) (yields_pureO gb1 (by rw [pb1]; rfl) (by rw [pb1]; rfl)) db1 (aOps_cons (v:=.lit (.int .i64 (i-1))) (yields_pureO gb2 (by rw [pb2]; rfl) ?_) db2 (aOps_cons (v:=.lit (.int .i64 (i-1))) (yields_pureO gb3 (by rw [pb3]; rfl) (by rw [pb3]; rfl)) db3 aOps_nil))
     rw [pb2]
     exact bin_sub (P:=P) (t:=t5) (k:=isConstB (Operand.tmp 9)||isConstB (Operand.const (.int .i64 1))) (hin i hi0 (by omega))
    ·have h3:a6.eval (.tmp 3)=.int .i64 (i-1):=by
      have:=hs6.eval (.tmp 3)
      simpa [St.eval,bwFr,rel] using this
     have e6:i-1=(n:Int)-1-((k+1:Nat):Int):=by omega
     refine ⟨⟨k+1,E6,rfl,by omega,hj6,?_⟩,?_⟩
     ·rw [← e6]
      exact hmask hs6 rfl rfl rfl rfl
     ·rw [h3, hmu]
      show (i-1+1).toNat<(i+1).toNat
      omega
 ·refine wpIn_cond_false (by rw [h8]; simp [hi0]) (wpIn_exit ?_)
  simp only [Exit.then,Exit.inBlock,if_true]
  have hd:a2.defers=[]:=marks_nil hs2.defers fun _ h=>h
  have hk:k=n:=by omega
  subst hk
  show LeavesInM (fz none) 0 P fn a2.tmps _ a2.defers .returning E2.w
  rw [hd]
  refine ⟨.tuple #[],?_,⟨_,rfl⟩,E2,rfl,hj2⟩
  rw [results_eq,hr]
  simp
end bw
end Go.AL

namespace Go.AL
open Go
variable [Dr]
mutual
def fixedA (m:Nat):AV→Bool
 | .agg cs=>fixedL m cs
 | .tuple cs=>fixedL m cs
 | .clo _ cs=>fixedL m cs
 | .ptr id ver _ _ _=>Nat.blt id m&&Nat.beq ver 0
 | .vec _ id ver _ _=>Nat.blt id m&&Nat.beq ver 0
 | .map id=>Nat.blt id m
 | _=>true
def fixedL (m:Nat):List AV→Bool
 | []=>true
 | a::as=>fixedA m a&&fixedL m as
end
mutual
theorem rel_fixed {E E':Env} {m:Nat} (h:E.leM m E'):∀ (a:AV) {c:Value},fixedA m a=true→rel E a c→rel E' a c
 | .undef,_,_,_=>by simp [rel]
 | .lit v,c,_,hr=>by simpa only [rel] using hr
 | .nils,c,_,hr=>by simpa only [rel] using hr
 | .list k rows,c,_,hr=>rel_closed (leM_C h) _ (by simp [AV.closed]) hr
 | .listF ks rows,c,_,hr=>rel_closed (leM_C h) _ (by simp [AV.closed]) hr
 | .agg cells,c,hf,hr=>by
  simp only [rel] at hr ⊢
  obtain ⟨cs,e,h1,h2⟩:=hr
  exact ⟨cs,e,h1,relList_fixed h cells (by simpa only [fixedA] using hf) h2⟩
 | .tuple cells,c,hf,hr=>by
  simp only [rel] at hr ⊢
  obtain ⟨cs,e,h2⟩:=hr
  exact ⟨cs,e,relList_fixed h cells (by simpa only [fixedA] using hf) h2⟩
 | .cptr cells,c,_,hr=>rel_closed (leM_C h) _ (by simp [AV.closed]) hr
 | .ptr id ver k row col,c,hf,hr=>by
  simp only [fixedA,Bool.and_eq_true,Nat.blt_eq] at hf
  obtain ⟨h1,h2⟩:=hf
  have h2:=Nat.eq_of_beq_eq_true h2
  subst h2
  simp only [rel] at hr ⊢
  obtain ⟨g1,g2,g3⟩:=hr
  refine ⟨g1,h.past id h1 g2,fun hl=>?_⟩
  obtain ⟨k1,k2⟩:=h.live id h1 g2 hl
  rw [k2]
  exact g3 k1
 | .vec k id ver off n,c,hf,hr=>by
  simp only [fixedA,Bool.and_eq_true,Nat.blt_eq] at hf
  obtain ⟨h1,h2⟩:=hf
  have h2:=Nat.eq_of_beq_eq_true h2
  subst h2
  simp only [rel] at hr ⊢
  obtain ⟨g1,g2,g3⟩:=hr
  refine ⟨g1,h.past id h1 g2,fun hl=>?_⟩
  obtain ⟨k1,k2⟩:=h.live id h1 g2 hl
  rw [k2]
  exact g3 k1
 | .map id,c,hf,hr=>by
  simp only [fixedA,Nat.blt_eq] at hf
  simp only [rel] at hr ⊢
  obtain ⟨g1,g2,g3⟩:=hr
  refine ⟨g1,h.past id hf g2,fun hl=>?_⟩
  obtain ⟨k1,k2⟩:=h.live id hf g2 hl
  rw [k2]
  exact g3 k1
 | .clo f caps,c,hf,hr=>by
  simp only [rel] at hr ⊢
  obtain ⟨cs,e,h2⟩:=hr
  exact ⟨cs,e,relList_fixed h caps (by simpa only [fixedA] using hf) h2⟩
 | .ifc,c,_,hr=>by simpa only [rel] using hr
 | .emptyS n,c,_,hr=>by simpa only [rel] using hr
theorem relList_fixed {E E':Env} {m:Nat} (h:E.leM m E'):∀ (as:List AV) {vs:List Value},fixedL m as=true→rLs E as vs→rLs E' as vs
 | [],[],_,_=>by simp [rLs]
 | [],_::_,_,hr=>by simp [rLs] at hr
 | _::_,[],_,hr=>by simp [rLs] at hr
 | a::as,v::vs,hf,hr=>by
  simp only [fixedL,Bool.and_eq_true] at hf
  simp only [rLs] at hr ⊢
  exact ⟨rel_fixed h a hf.1 hr.1,relList_fixed h as hf.2 hr.2⟩
end
theorem Env.leM.mono {m m':Nat} {E E':Env} (h:E.leM m' E') (hm:m≤m'):E.leM m E' :=
 ⟨fun id hi=>h.past id (by omega),h.size,h.same,h.own,fun id hi=>h.live id (by omega),h.X,h.rl,h.env⟩
structure Env.leX (m l:Nat) (E E':Env):Prop where
 past:∀ id,id<m→E.past id 0→E'.past id 0
 size:E.w.heap.size≤E'.w.heap.size
 same:∀ b,b<E.w.heap.size→¬ E.own b→b≠l→E'.w.heap[b]? = E.w.heap[b]?
 own:∀ b,b<E.w.heap.size→¬ E.own b→¬ E'.own b
 live:∀ id,id<m→E.past id 0→E'.live id 0→E.live id 0∧E'.loc[id]? = E.loc[id]?
 X:∀ b,b<E.w.heap.size→(E'.X b↔E.X b)∧(E'.X.z b↔E.X.z b)
 rl:∀ l h,h<(E.X.r l).length→h<(E'.X.r l).length∧∀ q,(E'.X.r l)[h]? = some (some q)→(E.X.r l)[h]? = some (some q)
 env:SameOs E.w E'.w
theorem Env.leM.toX {m l:Nat} {E E':Env} (h:E.leM m E'):E.leX m l E':=⟨h.past,h.size,fun b hb ho _=>h.same b hb ho,h.own,h.live,h.X,h.rl,h.env⟩
theorem Env.leX.trans {m l:Nat} {E E' E'':Env} (h:E.leX m l E') (h':E'.leX m l E''):E.leX m l E'' where
 past:=fun id hi hp=>h'.past id hi (h.past id hi hp)
 size:=Nat.le_trans h.size h'.size
 same:=fun b hb ho hl=>by rw [h'.same b (Nat.lt_of_lt_of_le hb h.size) (h.own b hb ho) hl,h.same b hb ho hl]
 own:=fun b hb ho=>h'.own b (Nat.lt_of_lt_of_le hb h.size) (h.own b hb ho)
 live:=fun id hi hid hl=>by
  obtain ⟨a1,a2⟩:=h'.live id hi (h.past id hi hid) hl
  obtain ⟨b1,b2⟩:=h.live id hi hid a1
  exact ⟨b1,by rw [a2,b2]⟩
 X:=fun b hb=>by
  have h1:=h'.X b (Nat.lt_of_lt_of_le hb h.size)
  have h2:=h.X b hb
  exact ⟨h1.1.trans h2.1,h1.2.trans h2.2⟩
 rl:=fun l i hi=>by
  obtain ⟨a1,a2⟩:=h.rl l i hi
  obtain ⟨b1,b2⟩:=h'.rl l i a1
  exact ⟨b1,fun q hq=>a2 q (b2 q hq)⟩
 env:=h.env.trans h'.env
theorem Env.leX.toM {m l:Nat} {E E':Env} (h:E.leX m l E') (hl:l<E.w.heap.size→E'.w.heap[l]? = E.w.heap[l]?):E.leM m E' :=
 ⟨h.past, h.size, fun b hb ho => by
  by_cases e:b=l
  ·subst e
   exact hl hb
  ·exact h.same b hb ho e,h.own,h.live,h.X,h.rl,h.env⟩
theorem put_chg {w:World} {H:List AObj} {loc:List (Option (Nat × Nat))} {X:XS} {l:Nat} {o:Obj} (hX:X l) (HE:HRel { w:=w,H:=H,loc:=loc,X:=X }) :
  Chg { w:=w,H:=H,loc:=loc,X:=X } { w:=w.putObj l o,H:=H,loc:=loc,X:=X } :=
 ⟨rfl, rfl, by simp, fun b _ hx => ⟨hx, World.putObj_heap_other fun e => hx (by rw [e]; exact hX)⟩, fun b hb => by
  have:=HE.X b hb
  simpa using this,rfl⟩
theorem put_leX {m:Nat} {w:World} {H:List AObj} {loc:List (Option (Nat × Nat))} {X:XS} {l:Nat} {o:Obj}:({ w:=w,H:=H,loc:=loc,X:=X }:Env).leX m l { w:=w.putObj l o,H:=H,loc:=loc,X:=X } :=
 ⟨fun _ _ h=>h,by simp,fun b _ _ h=>World.putObj_heap_other h,fun _ _ h=>h,fun _ _ _ h=>⟨h,rfl⟩,fun _ _=>⟨Iff.rfl,Iff.rfl⟩,fun _ _ h=>⟨h,fun _ hq=>hq⟩,⟨rfl,rfl,rfl,by first | exact fun _=>Nat.le_refl _ | exact fun _=>Nat.le_add_right _ _⟩⟩
theorem put_marks {w:World} {X:XS} {l:Nat} {r:Loop} {o:Obj} {ds:List Deferred} (h:marksOk w X ds) (hl:w.heap[l]? = some (.loop r)):marksOk (w.putObj l o) X ds :=
 ⟨h.1, fun d hd => by
  obtain ⟨D,e,h1,h2,h3⟩:=h.2 d hd
  exact ⟨D,e,by rw [World.putObj_heap_other (fun e=>by rw [e,hl] at h1; cases h1)]; exact h1,h2,h3⟩⟩
end Go.AL

namespace Go.AL
open Go
variable [Dr]
structure BwR (P:Program) (m:Nat) (n:Nat) (rv:Nat→AV) (p0 p1:Tmp) (assign body:Code) (S:Nat→St):Prop where
 na:noRF assign=true
 nb:noRF body=true
 fix:∀ k,k<n→fixedL m (S k).fr=true
 round:∀ k,k<n→∃ s1 s2,ASat P m assign ⟨((S k).fr.set p0 (.lit (.int .i64 ((n:Int)-1-k)))).set p1 (rv (n-1-k)),(S k).H⟩ .normal s1∧ASat P m body s1 .normal s2∧SLe m ⟨(S k).fr,s2.H⟩ (S (k+1))
section bw
variable {P:Program} {m':Nat} {n:Nat} {rv:Nat→AV} {p0 p1:Tmp} {assign body:Code} {S:Nat→St}
theorem bw_round (hr:BwR P m' n rv p0 p1 assign body S) {k:Nat} (hk:k<n) {fn:FuncId} {D l:Nat} {a:Act} {tmps:Array Value} (htm:tmps=a.tmps) {E:Env} (hs:SRel (S k) E a) (hX:E.X l)
  (hl:E.w.heap[l]? = some (.loop { state:=.ready,pending:=none,fn,tmps,params:=#[p0,p1],assign,body,defers:=D })) {cs:Array Value} (hc:rLs E [.lit (.int .i64 ((n:Int)-1-k)),rv (n-1-k)] cs.toList) :
  YieldAt (fz none) 0 P l cs E.w fun e W'=>e=.returned (.bool true)∧∃ E',E'.w=W'∧SRel (S (k+1)) E' a∧E.leM m' E'∧E'.X l ∧
   E'.w.heap[l]? = some (.loop { state:=.ready,pending:=none,fn,tmps,params:=#[p0,p1],assign,body,defers:=D }):=by
 obtain ⟨s1,s2,hA,hB,hle⟩:=hr.round k hk
 obtain ⟨c0,c1,rfl⟩:∃ c0 c1,cs=#[c0,c1]:=by
  have:=relList_length hc
  match h:cs.toList,this with
  | [c0,c1],_=>exact ⟨c0,c1,Array.ext' (by simpa using h)⟩
 simp only [rLs] at hc
 obtain ⟨hc0,hc1,_⟩:=hc
 refine ⟨_,_,_,_,run_yield hl (by simp),roundIn_of_wpIn (F:=fz none) trivial ?_⟩
 have hlt:l<E.w.heap.size:=(Array.getElem?_eq_some_iff.1 hl).1
 have hs0:SRel ⟨((S k).fr.set p0 (.lit (.int .i64 ((n:Int)-1-k)))).set p1 (rv (n-1-k)),(S k).H⟩ E { tmps:=(a.tmps.setIfInBounds p0 c0).setIfInBounds p1 c1,defers:=[] }:=by
  refine ⟨hs.H,?_,marksOk_nil _ _,hs.heap⟩
  simp only [Array.toList_setIfInBounds]
  exact relList_set p1 (relList_set p0 hs.fr hc0) hc1
 have e0:((#[p0,p1]:Array Tmp).zip #[c0,c1]).foldl (fun tmps (t,a)=>tmps.setIfInBounds t a) tmps=(a.tmps.setIfInBounds p0 c0).setIfInBounds p1 c1:=by
  rw [htm]
  simp [←Array.foldl_toList]
 rw [e0]
 refine wpIn_mono (hA (some l) (.inr hr.na) E _ hs0) fun e a1 w1 ⟨he,loc1,X1,hs1,hle1⟩=>?_
 subst he
 have hno:¬ E.own l:=hs.heap.ownX hX
 have hl1:w1.heap[l]? = some (.loop { state:=.ready,pending:=none,fn,tmps,params:=#[p0,p1],assign,body,defers:=D }):=by rw [hle1.same l hlt hno]; exact hl
 have hX1:X1 l:=(hle1.X l hlt).1.2 hX
 have hlt1:l<w1.heap.size:=(Array.getElem?_eq_some_iff.1 hl1).1
 refine ⟨_,run_beginRound hl1 rfl,?_⟩
 have hs1':=hs1.chg (put_chg (o:=.loop { state:=.busy,pending:=none,fn,tmps,params:=#[p0,p1],assign,body,defers:=D }) hX1 hs1.heap) (put_marks hs1.defers hl1)
 refine wpIn_mono (hB (some l) (.inr hr.nb) _ a1 hs1') fun e a2 w3 ⟨he,loc2,X2,hs2,hle2⟩=>?_
 subst he
 have hno1:¬ Env.own { w:=w1,H:=s1.H,loc:=loc1,X:=X1 } l:=hle1.own l hlt hno
 have hl3:w3.heap[l]? = some (.loop { state:=.busy,pending:=none,fn,tmps,params:=#[p0,p1],assign,body,defers:=D }):=by
  rw [hle2.same l (by show l<(w1.putObj _ _).heap.size; simpa using hlt1) hno1]
  exact World.putObj_heap_same hlt1
 have hX2:X2 l:=(hle2.X l (by show l<(w1.putObj _ _).heap.size; simpa using hlt1)).1.2 hX1
 have hlt3:l<w3.heap.size:=(Array.getElem?_eq_some_iff.1 hl3).1
 refine ⟨_,_,run_endRound (P:=P) none hl3,rfl,?_⟩
 -- the record is as it was
 obtain ⟨w4,hw4⟩:∃ w4,w3.putObj l (.loop { state:=.ready,pending:=none,fn,tmps,params:=#[p0,p1],assign,body,defers:=D })=w4:=⟨_,rfl⟩
 have hl4:w4.heap[l]? = some (.loop { state:=.ready,pending:=none,fn,tmps,params:=#[p0,p1],assign,body,defers:=D }):=by
  rw [←hw4]
  exact World.putObj_heap_same hlt3
 have hM:E.leM m' { w:=w4,H:=s2.H,loc:=loc2,X:=X2 }:=by
  refine Env.leX.toM (l:=l) (hle1.toX.trans (put_leX.trans (hle2.toX.trans ?_))) (fun _=>by rw [show Env.w _=w4 from rfl,hl4,hl])
  rw [←hw4]
  exact put_leX
 have hR4:HRel { w:=w4,H:=s2.H,loc:=loc2,X:=X2 }:=by
  rw [←hw4]
  exact hs2.heap.chg (put_chg hX2 hs2.heap)
 have hsr:SRel ⟨(S k).fr,s2.H⟩ { w:=w4,H:=s2.H,loc:=loc2,X:=X2 } a:=by
  refine ⟨rfl,relList_fixed hM _ (hr.fix k hk) hs.fr,marksOk_same hs.defers (fun b h1 h2=>?_) (fun b h1 _=>hM.same b (hs.heap.X b h1) (hs.heap.ownX h1)),hR4⟩
  have:=hM.X b (hs.heap.X b h1)
  exact ⟨this.1.2 h1,this.2.2 h2⟩
 obtain ⟨loc7,X7,hs7,hle7⟩:=hle _ a hsr
 refine ⟨{ w:=w4,H:=(S (k+1)).H,loc:=loc7,X:=X7 },?_,hs7,hM.trans hle7,(hle7.X l (by show l<w4.heap.size; exact (Array.getElem?_eq_some_iff.1 hl4).1)).1.2 hX2,hl4⟩
 rw [←hw4]
 rfl
theorem bw_wp {T1 T2:TypeId} {sl:AV} {ops0 ops1 ops2 ops3:Array Oper} {m:Nat} (hT:BwT P T1 T2 sl n rv) {f:FuncId} {fd:Func} {r0 r1 r2 r3 b0 b1:Nat} (hf:P.funcs[f]? = some fd) (hbd:hasBody P f=true) (hb:fd.body=some (bwCode ops0 ops1 ops2 ops3 r0 r1 r2 r3 b0 b1)) (hn:fd.ntmps=19) (hre:fd.results=#[]) (ho:BwOps T1 T2 ops0 ops1 ops2 ops3)
  (hlen:n≤1048576) (hmm:m≤m') (hr:BwR P m' n rv p0 p1 assign body S) {g:Tmp} {s:St} {id wd:Nat} (hg:s.eval (.tmp g)=.clo f [.ptr id 0 wd 0 0]) (hid:s.H[id]? = some (.box [sl])) (h0:SLe m ⟨s.fr,s.H.set id .dead⟩ (S 0))
  (E:Env) (a:Act) (hs:SRel s E a):(Code.rangeFunc (.tmp g) #[p0,p1] assign body).wpIn (fz none) 0 P (fun e a1 w1=>e=.normal∧MPost m E (S n) a1 w1) a E.w:=by
 -- the function value
 have hgv:=hs.eval (.tmp g)
 rw [hg] at hgv
 simp only [rel] at hgv
 obtain ⟨cs,hgv,hcs⟩:=hgv
 obtain ⟨c,rfl⟩:∃ c,cs=#[c]:=by
  have:=relList_length hcs
  match h:cs.toList,this with
  | [c],_=>exact ⟨c,Array.ext' (by simpa using h)⟩
 simp only [rLs,rel] at hcs
 obtain ⟨⟨⟨bc,oc,hc0⟩,_,hlive⟩,_⟩:=hcs
 have hidE:E.H[id]? = some (.box [sl]):=by rw [hs.H]; exact hid
 obtain ⟨bb,nn,hloc,hcv⟩:=hlive ⟨_,hidE,rfl⟩
 obtain ⟨D,hD⟩:∃ D,E.w.heap.size=D:=⟨_,rfl⟩
 -- the captured slice is let go
 have hobj:=hs.heap.obj id _ hidE
 simp only [objRel] at hobj
 obtain ⟨b',n',hloc',hrow,hcells⟩:=hobj
 rw [hloc] at hloc'
 obtain ⟨rfl,rfl⟩:bb=b'∧nn=n':=by
  have h:=hloc'
  simp only [Option.some.injEq,Prod.mk.injEq] at h
  exact h
 have hd:=Env.le_drop hs.heap id
 have hdr:=HRel.drop hs.heap id fun o ho=>by
  rw [hidE] at ho
  cases ho
  rfl
 have hcp0:rel { w:=E.w,H:=E.H.set id .dead,loc:=E.loc.set id none,X:=E.X } (.cptr [sl]) c:=by
  simp only [rel]
  refine ⟨hT.cl,bb,0,by simpa using hcv,⟨(hs.heap.lt id bb nn hloc).1,?_,(hs.heap.lt id bb nn hloc).2⟩,relCells_same (E:=E) (fun a c h=>rel_le hd a h) rfl hcells⟩
  rintro (⟨j,q,hj⟩ | ⟨l,k,q,hj⟩)
  case inr=>exact hs.heap.rloc _ _ _ _ _ _ hloc hj
  simp only [List.getElem?_set] at hj
  split at hj
  ·split at hj<;>cases hj
  ·rename_i hne
   exact hne (hs.heap.inj _ _ _ _ _ hloc hj)
 refine wpIn_rangeFunc ?_
 intro fn _
 obtain ⟨rec,hrec⟩:∃ rec:Loop,rec={ state:=.ready,pending:=none,fn,tmps:=a.tmps,params:=#[p0,p1],assign,body,defers:=D }:=⟨_,rfl⟩
 obtain ⟨w1,hw1⟩:∃ w1,(E.w.alloc (.deferred (some []))).alloc (.loop rec)=w1:=⟨_,rfl⟩
 have hsz:w1.heap.size=D+2:=by rw [←hw1,World.size_alloc,World.size_alloc,hD]
 have hl1:w1.heap[D+1]? = some (.loop rec):=by
  rw [←hw1]
  have:=World.alloc_heap_new (E.w.alloc (.deferred (some []))) (.loop rec)
  rwa [World.size_alloc,hD] at this
 have hold2:∀ b,b<D+1→w1.heap[b]? = (E.w.alloc (.deferred (some []))).heap[b]? := fun b hb=>by
  rw [←hw1]
  show ((E.w.alloc (.deferred (some []))).heap.push _)[b]? = _
  rw [Array.getElem?_push,if_neg (by rw [World.size_alloc,hD]; omega)]
 have hD1:w1.heap[D]? = some (.deferred (some [])):=by
  rw [hold2 D (by omega)]
  have:=World.alloc_heap_new E.w (.deferred (some []))
  rwa [hD] at this
 have hold:∀ b,b<D→w1.heap[b]? = E.w.heap[b]? := fun b hb=>by
  rw [hold2 b (by omega)]
  show (E.w.heap.push _)[b]? = _
  rw [Array.getElem?_push,if_neg (by omega)]
 have hos:SameOs E.w w1:=by rw [←hw1]; exact ⟨rfl,rfl,rfl,by first | exact fun _=>Nat.le_refl _ | exact fun _=>Nat.le_add_right _ _⟩
 obtain ⟨X2,hX2⟩:∃ X2:XS,X2=⟨fun b=>E.X b∨b=D∨b=D+1,fun b=>E.X.z b∨b=D,E.X.r⟩:=⟨_,rfl⟩
 obtain ⟨mk,hmk⟩:∃ mk:Deferred,mk={ target:=.collected D,args:=#[] }:=⟨_,rfl⟩
 have chg:Chg { w:=E.w,H:=E.H.set id .dead,loc:=E.loc.set id none,X:=E.X } { w:=w1,H:=E.H.set id .dead,loc:=E.loc.set id none,X:=X2 } :=
  ⟨rfl, rfl, by show E.w.heap.size ≤ w1.heap.size; omega, fun b hb hx => by
   have hb:b<D:=by rw [←hD]; exact hb
   refine ⟨fun h=>?_,hold b hb⟩
   rw [hX2] at h
   rcases h with h | h | h
   ·exact hx h
   ·omega
   ·omega,fun b hb=>by
   show b<w1.heap.size
   rw [hX2] at hb
   rcases hb with h | h | h
   ·have := hs.heap.X b h
    omega
   ·omega
   ·omega,by show X2.r=E.X.r; rw [hX2]⟩
 have hs2:SRel ⟨s.fr,s.H.set id .dead⟩ { w:=w1,H:=E.H.set id .dead,loc:=E.loc.set id none,X:=X2 } { a with defers:=mk::a.defers }:=by
  refine ⟨by rw [hs.H],relList_chg chg _ (relList_le hd _ hs.fr),⟨?_,fun d hd=>?_⟩,hdr.chg chg⟩
  ·refine List.nodup_cons.2 ⟨fun h => ?_, hs.defers.1⟩
   obtain ⟨D',e,h1,h2,_⟩:=hs.defers.2 mk h
   have:=hs.heap.X D' h2
   rw [hmk] at e
   have e:D=D':=by
    have e:=congrArg Deferred.target e
    simpa using e
   omega
  ·rcases List.mem_cons.1 hd with rfl | hd
   ·exact ⟨D,hmk,hD1,by rw [hX2]; exact .inr (.inl rfl),by rw [hX2]; exact .inr rfl⟩
   ·obtain ⟨D', e, h1, h2, h3⟩ := hs.defers.2 d hd
    have:=hs.heap.X D' h2
    exact ⟨D',e,by rw [show Env.w _=w1 from rfl,hold D' (by omega)]; exact h1,by rw [hX2]; exact .inl h2,by rw [hX2]; exact .inl h3⟩
 have hle2:E.leM m { w:=w1,H:=E.H.set id .dead,loc:=E.loc.set id none,X:=X2 }:=by
  refine hd.toM.trans ⟨fun _ _ h=>h,by show E.w.heap.size≤w1.heap.size; omega,fun b hb _=>hold b (by rw [←hD]; exact hb),fun b _ h ho=>h ((chg.own b).1 ho),fun _ _ _ h=>⟨h,rfl⟩,fun b hb=>?_,fun l h hh=>by show h<(X2.r l).length∧_; rw [hX2]; exact ⟨hh,fun _ hq=>hq⟩,hos⟩
  have hb:b<D:=by rw [←hD]; exact hb
  show (X2 b↔E.X b)∧(X2.z b↔E.X.z b)
  rw [hX2]
  exact ⟨⟨fun h=>by rcases h with h | h | h; exact h; omega; omega,.inl⟩,⟨fun h=>by rcases h with h | h; exact h; omega,.inl⟩⟩
 obtain ⟨loc3,X3,hs3,hle3⟩:=h0 _ _ hs2
 have hX3:X3 (D+1):=(hle3.X (D+1) (by show D+1<w1.heap.size; omega)).1.2 (by show X2 (D+1); rw [hX2]; exact .inr (.inr rfl))
 have hcp3:rel { w:=w1,H:=(S 0).H,loc:=loc3,X:=X3 } (.cptr [sl]) c:=rel_closed (leM_C hle3) _ (by simp [AV.closed]) (rel_closed chg.toC _ (by simp [AV.closed]) hcp0)
 refine ⟨D+1,[mk],w1,{ target:=.fn (.func f) #[c],args:=#[.func (.yield (D+1)) #[] #[]] },w1,f,#[.func (.yield (D+1)) #[] #[],c],w1,?_,?_,fun _ _=>trivial,?_,fun h=>(by cases h),?_⟩
 ·rw [← hw1, hrec, hmk, ← hD]
  exact run_enterLoop_outer _ _ _ _ _
 ·have hcst : a.eval (.const (.func (.yield (D + 1)) #[] #[])) = .func (.yield (D + 1)) #[] #[] := rfl
  simp [resolve,hgv,hcst,Deferred.ofValue]
 ·simp [invoke,run_callFunc hbd]
 ·have hcall:=bw_calls (P:=P) hT hf hb hn hre ho (l:=D+1) hlen (fun k E'=>SRel (S k) E' { a with defers:=mk::a.defers }∧E.leM m E'∧E'.X (D+1)∧E'.w.heap[D+1]? = some (.loop rec)) (fun k E' h=>h.1.heap)
   (fun k E1 E2 h hle hR hH=>?_) (c:=c) (fun k E' cs hk h hc=>?_) (E0:={ w:=w1,H:=(S 0).H,loc:=loc3,X:=X3 }) ⟨hs3,hle2.trans hle3,hX3,hl1⟩ hcp3
  ·refine hcall.mono fun e w3 ⟨⟨v, hv⟩, E4, hw4, hs4, hle4, hX4, hl4⟩ => ?_
   subst hv
   subst hw4
   obtain ⟨w4,H4,loc4,X4⟩:=E4
   have hH4:H4=(S n).H:=hs4.H
   subst hH4
   have hend:=run_endLoop (P:=P) hl4 (by rw [hrec]; simp)
   refine ⟨_,_,hend,?_⟩
   rw [hrec]
   refine ⟨rfl,loc4,X4,?_,?_⟩
   ·rw [← hrec]
    exact hs4.chg (put_chg hX4 hs4.heap) (put_marks hs4.defers hl4)
   ·exact (hle4.toX.trans put_leX).toM (l:=D+1) (fun h=>absurd h (by omega))
  ·obtain ⟨g1, g2, g3, g4⟩ := h
   have hlt:D+1<E1.w.heap.size:=(Array.getElem?_eq_some_iff.1 g4).1
   refine ⟨⟨by rw [hH]; exact g1.H,relList_le hle _ g1.fr,marksOk_le g1.heap hle g1.defers,hR⟩,g2.trans hle.toM,by rw [hle.X.1]; exact g3,?_⟩
   rw [hle.same (D+1) hlt (g1.heap.ownX g3)]
   exact g4
  ·obtain ⟨g1, g2, g3, g4⟩ := h
   rw [hrec] at g4
   obtain ⟨fn',tm,as,bo,k1,k2⟩:=bw_round hr hk rfl g1 g3 g4 hc
   refine ⟨fn',tm,as,bo,k1,k2.mono fun e W' ⟨he,E'',hw,q1,q2,q3,q4⟩=>⟨he,E'',hw,⟨q1,g2.trans (q2.mono hmm),q3,by rw [hrec]; exact q4⟩,leM_C q2⟩⟩
end bw
end Go.AL

namespace Go.AL
open Go
variable [Dr]
variable {P:Program}
theorem sat_bw {m m' n:Nat} {rv:Nat→AV} {p0 p1:Tmp} {assign body:Code} {S:Nat→St} {T1 T2:TypeId} {sl:AV} {ops0 ops1 ops2 ops3:Array Oper} (hT:BwT P T1 T2 sl n rv) {f:FuncId} {fd:Func} {r0 r1 r2 r3 b0 b1:Nat} (hf:P.funcs[f]? = some fd) (hbd:hasBody P f=true)
  (hb:fd.body=some (bwCode ops0 ops1 ops2 ops3 r0 r1 r2 r3 b0 b1)) (hn:fd.ntmps=19) (hre:fd.results=#[]) (ho:BwOps T1 T2 ops0 ops1 ops2 ops3)
  (hlen:n≤1048576) (hmm:m≤m') (hr:BwR P m' n rv p0 p1 assign body S) {g:Tmp} {s:St} {id wd:Nat} (hg:s.eval (.tmp g)=.clo f [.ptr id 0 wd 0 0]) (hid:s.H[id]? = some (.box [sl])) (h0:SLe m ⟨s.fr,s.H.set id .dead⟩ (S 0)) :
  ASat P m (.rangeFunc (.tmp g) #[p0,p1] assign body) s .normal (S n):=fun ro hro E a hs=>by
 obtain rfl:ro=none:=hro.resolve_right (by simp [noRF])
 exact wpIn_mono (bw_wp hT hf hbd hb hn hre ho hlen hmm hr hg hid h0 E a hs) fun e a1 w1 ⟨he,h⟩=>⟨he,h⟩
structure BwI where
 f:FuncId
 T1:TypeId
 T2:TypeId
 w:Nat
 pw:Nat
 agg:Bool
def BwFact (P:Program) (i:BwI):Prop:=∃ fd ops0 ops1 ops2 ops3 r0 r1 r2 r3 b0 b1 e b,P.funcs[i.f]? = some fd∧hasBody P i.f=true∧fd.body=some (bwCode ops0 ops1 ops2 ops3 r0 r1 r2 r3 b0 b1)∧fd.ntmps=19∧fd.results=#[]∧BwOps i.T1 i.T2 ops0 ops1 ops2 ops3 ∧
 varK P i.T1=some (1,false)∧kindK P i.T1=.slice e i.w b∧varK P i.T2=some (i.pw,i.agg)
def rvOf (agg:Bool) (w:Nat) (row:List AV):AV:=(partA agg w row).getD .undef
theorem bwT_list {i:BwI} {e b:Nat} {rows:List (List AV)} (h1:varK P i.T1=some (1,false)) (h2:kindK P i.T1=.slice e i.w b) (h3:varK P i.T2=some (i.pw,i.agg)) (hr:(rows.all fun r=>(partA i.agg i.pw r).isSome)=true) :
  BwT P i.T1 i.T2 (.list i.w rows) rows.length (fun k=>rvOf i.agg i.pw (rows.getD k [])):=by
 refine ⟨fun H=>?_,?_,fun k hk0 hk1=>?_,by simp [AV.closedL,AV.closed]⟩
 ·simp [loadA,h1,partA]
 ·rw [h2]
  rfl
 ·have hlt : k.toNat < rows.length := by omega
  refine ⟨rows[k.toNat],?_,fun H=>?_⟩
  ·rw [h2]
   simp only [idxAddrA]
   rw [if_pos ⟨trivial,hk0,hk1⟩,List.getElem?_eq_getElem hlt]
   rfl
  ·have := List.all_eq_true.1 hr rows[k.toNat] (List.getElem_mem hlt)
   obtain ⟨v,hv⟩:=Option.isSome_iff_exists.1 this
   simp only [loadA,h3,hv]
   unfold rvOf
   rw [List.getD_eq_getElem?_getD,List.getElem?_eq_getElem hlt,Option.getD_some,hv]
   rfl
def bwRun (P:Program) (τ:Tab) (p0 p1:Tmp) (assign body:Code) (fr:List AV):List (Int × AV)→List TObj→(List TObj→Tree)→Tree
 | [],H,k=>k H
 | (i,v)::q,H,k=>runCode P τ nL0 assign ⟨(fr.set p0 (.lit (.int .i64 i))).set p1 v,H⟩ fun x s1=>match x with
  | .normal=>runCode P τ nL0 body s1 fun x s2=>match x with
   | .normal=>bwRun P τ p0 p1 assign body fr q s2.H k
   | _=>.fail
  | _=>.fail
theorem bwRun_sound (hm:P.follows .mixedOrders=true) {τ:Tab} (ht:TabOK P τ) {p0 p1:Tmp} {assign body:Code} {fr:List AV} {Q:AExit→TSt→Prop} {k:List TObj→Tree} (m:Nat):∀ (q:List (Int × AV)) (H:List TObj),(bwRun P τ p0 p1 assign body fr q H k).holds Q →
  ∃ f:Nat→List TObj,f 0=H∧(∀ j iv,q[j]? = some iv→∃ s1 s2:TSt,ASat P m assign ⟨(fr.set p0 (.lit (.int .i64 iv.1))).set p1 iv.2,denH (f j)⟩ .normal s1.den∧ASat P m body s1.den .normal s2.den∧f (j+1)=s2.H)∧(k (f q.length)).holds Q
 | [],H,h=>⟨fun _=>H,rfl,fun j iv hj=>by simp at hj,h⟩
 | (i,v)::q,H,h=>by
  simp only [bwRun] at h
  obtain ⟨x,s1,h1,h2⟩:=runCode_sound hm ht assign _ _ (nLk P m assign) h
  cases x with
  | normal =>
   obtain ⟨x,s2,h3,h4⟩:=runCode_sound hm ht body _ _ (nLk P m body) h2
   cases x with
   | normal =>
    obtain ⟨f,g1,g2,g3⟩:=bwRun_sound hm ht m q s2.H h4
    refine ⟨fun j=>match j with | 0=>H | j+1=>f j,rfl,fun j iv hj=>?_,g3⟩
    cases j with
    | zero =>
     simp only [List.getElem?_cons_zero,Option.some.injEq] at hj
     subst hj
     exact ⟨s1,s2,h1,h3,g1⟩
    | succ j=>exact g2 j iv (by simpa using hj)
   | exit _=>exact h4.elim
   | ret=>exact h4.elim
  | exit _=>exact h2.elim
  | ret=>exact h2.elim
def bwItems (agg:Bool) (w:Nat) (rows:List (List AV)):List (Int × AV):=(List.range rows.length).map fun (k:Nat)=>((rows.length:Int)-1-k,rvOf agg w (rows.getD (rows.length-1-k) []))
def bwCut (P:Program) (τ:Tab) (i:BwI) (m:Nat) (c:Code) (s:TSt):Option Tree :=
 match c with
 | .seq (.seq r3 (.block _ (.rangeFunc (.tmp g) ps assign body))) rest=>match ps.toList,noRF assign&&noRF body with
  | [p0,p1],true=>some (runCode P τ nL0 r3 s fun x s1=>match x with
   | .normal=>match s1.fr.getD g .undef with
    | .clo f [.ptr id 0 _ 0 0]=>match s1.H[id]? with
     | some (.raw (.box [.list w rows]))=>.side (Nat.beq f i.f&&(Nat.beq w i.w&&(Nat.ble rows.length 1048576&&((rows.all fun r=>(partA i.agg i.pw r).isSome)&&(fixedL s1.H.length s1.fr&&Nat.ble m s1.H.length)))))
       (bwRun P τ p0 p1 assign body s1.fr (bwItems i.agg i.pw rows) (s1.H.set id (.raw .dead)) fun H=>runCode P τ nL0 rest ⟨s1.fr,H⟩ .done)
     | _=>.fail
    | _=>.fail
   | _=>.fail)
  | _,_=>none
 | _=>none
theorem bwCut_ok (hm:P.follows .mixedOrders=true) {τ:Tab} (ht:TabOK P τ) {i:BwI} (hi:BwFact P i) {m:Nat} {c:Code} {s:TSt} {t:Tree} (h:bwCut P τ i m c s=some t):cutOk P m c s t:=by
 unfold bwCut at h
 split at h
 case h_2=>cases h
 rename_i r3 b g ps assign body rest
 split at h
 case h_2=>cases h
 rename_i p0 p1 hps hnr
 cases h
 intro Q hQ
 have hps':ps=#[p0,p1]:=Array.ext' (by simpa using hps)
 subst hps'
 simp only [Bool.and_eq_true] at hnr
 obtain ⟨x,s1,h1,h2⟩:=runCode_sound hm ht r3 s _ (nLk P m r3) hQ
 cases x with
 | exit _=>exact h2.elim
 | ret=>exact h2.elim
 | normal =>
  simp only [] at h2
  split at h2
  case h_2=>exact h2.elim
  rename_i f id wd hg
  split at h2
  case h_2=>exact h2.elim
  rename_i w rows hid
  simp only [Tree.holds,Bool.and_eq_true] at h2
  obtain ⟨⟨k1,k2,k3,k4,k5,k6⟩,h3⟩:=h2
  have k1:=Nat.eq_of_beq_eq_true k1
  have k2:=Nat.eq_of_beq_eq_true k2
  have k3:=Nat.le_of_ble_eq_true k3
  have k6:=Nat.le_of_ble_eq_true k6
  subst k1
  subst k2
  obtain ⟨F,f0,f1,f2⟩:=bwRun_sound hm ht s1.H.length _ _ h3
  obtain ⟨x,s',h4,h5⟩:=runCode_sound hm ht rest _ _ (nLk P m rest) f2
  refine ⟨x,s',?_,h5⟩
  obtain ⟨fd,ops0,ops1,ops2,ops3,r0,r1,r2,r3',b0,b1,e,bb,q1,q2,q3,q4,q5,q6,q7,q8,q9⟩:=hi
  have hlen:(bwItems i.agg i.pw rows).length=rows.length:=by simp [bwItems]
  have hR:BwR P s1.H.length rows.length (fun k=>rvOf i.agg i.pw (rows.getD k [])) p0 p1 assign body (fun k=>⟨s1.fr,denH (F k)⟩):=by
   refine ⟨hnr.1,hnr.2,fun k _=>k5,fun k hk=>?_⟩
   obtain ⟨a1,a2,g1,g2,g3⟩:=f1 k ((rows.length:Int)-1-k,rvOf i.agg i.pw (rows.getD (rows.length-1-k) [])) (by
    simp [bwItems,hk])
   refine ⟨a1.den,a2.den,g1,g2,?_⟩
   rw [g3]
   exact SLe.refl _
  have hS:=sat_bw (m:=m) (m':=s1.H.length) (P:=P) (bwT_list q7 q8 q9 k4) q1 q2 q3 q4 q5 q6 k3 k6 hR (g:=g) (s:=s1.den) (id:=id) (wd:=wd) hg (denH_get hid) (by
   rw [f0,denH_set]
   exact SLe.refl _)
  have hB:ASat P m (.block b (.rangeFunc (.tmp g) #[p0,p1] assign body)) s1.den .normal ⟨s1.fr,denH (F rows.length)⟩:=sat_block (x:=.normal) hS
  rw [hlen] at h4
  exact sat_seq (sat_seq h1 hB) h4
def bwL (P:Program) (τ:Tab) (i:BwI) (m key:Nat) (fn:Func):LT:=⟨fun _ _=>none,fun _ s=>(true,s),fun k s=>match Nat.beq k key with
 | true=>bwCut P τ i m (cutAt fn key) s
 | false=>none⟩
theorem bwL_ok (hm:P.follows .mixedOrders=true) {τ:Tab} (ht:TabOK P τ) {i:BwI} (hi:BwFact P i) {m key:Nat} {fn:Func} (hn:oneKey key (cutsIn (bodyOf fn))=true):LpK P m (bwL P τ i m key fn) (bodyOf fn) :=
 ⟨fun _ _ _ _ _ h => (nomatch h), fun _ _ _ => SLe.refl _, fun k c' hk s t h => by
  simp only [bwL] at h
  split at h
  ·rename_i e
   have e:=Nat.eq_of_beq_eq_true e
   subst e
   rw [cutAt_of hn hk]
   exact bwCut_ok hm ht hi h
  ·cases h⟩
end Go.AL

namespace Go.AL
open Go
variable [Dr]
def bwTypes (P:Program) (i:BwI):Bool :=
 (match varK P i.T1 with
 | some (n,a)=>Nat.beq n 1 && !a
 | none=>false)&&((match kindK P i.T1 with
 | .slice _ w _=>Nat.beq w i.w
 | _=>false)&&(match varK P i.T2 with
 | some (n,a)=>Nat.beq n i.pw&&(a==i.agg)
 | none=>false))
theorem bwFact_of {P:Program} {i:BwI} {fd:Func} {ops0 ops1 ops2 ops3:Array Oper} {r0 r1 r2 r3 b0 b1:Nat} (hf:P.funcs[i.f]? = some fd) (hb:hasBody P i.f=true) (hc:fd.body=some (bwCode ops0 ops1 ops2 ops3 r0 r1 r2 r3 b0 b1)) (hn:fd.ntmps=19) (hr:fd.results=#[]) (ho:BwOps i.T1 i.T2 ops0 ops1 ops2 ops3)
  (ht:bwTypes P i=true):BwFact P i:=by
 unfold bwTypes at ht
 simp only [Bool.and_eq_true] at ht
 obtain ⟨h1,h2,h3⟩:=ht
 split at h1
 case h_2=>cases h1
 rename_i n a e1
 split at h2
 case h_2=>cases h2
 rename_i e w b e2
 split at h3
 case h_2=>cases h3
 rename_i n' a' e3
 simp only [Bool.and_eq_true,Bool.not_eq_true',beq_iff_eq] at h1 h3
 obtain ⟨g1,g2⟩:=h1
 obtain ⟨g3,g4⟩:=h3
 have g1:=Nat.eq_of_beq_eq_true g1
 have g3:=Nat.eq_of_beq_eq_true g3
 have h2:=Nat.eq_of_beq_eq_true h2
 subst g1
 subst g2
 subst g3
 subst g4
 subst h2
 exact ⟨fd,ops0,ops1,ops2,ops3,r0,r1,r2,r3,b0,b1,e,b,hf,hb,hc,hn,hr,ho,e1,e2,e3⟩
def Tab.inlineB (P:Program) (τ:Tab) (i:BwI) (key:Nat) (f:FuncId) (fn:Func) (ks:List (Option (List Kd))):Tab:=τ.add f fun args =>
 match (runFn P τ (bwL P τ i 0 key fn) fn ks args []).val with
 | some v=>match AV.closedL args&&v.closed with
  | true=>some (true,v)
  | false=>none
 | none=>none
theorem TabOK.inlineB {P:Program} {τ:Tab} (h:TabOK P τ) (hm:P.follows .mixedOrders=true) {i:BwI} (hi:BwFact P i) {key:Nat} {f:FuncId} {fn:Func} (hf:P.funcs[f]? = some fn) (hb:hasBody P f=true) (hn:oneKey key (cutsIn (bodyOf fn))=true) (ks:List (Option (List Kd))) :
  TabOK P (τ.inlineB P i key f fn ks):=h.add hb fun args b v hc _=>by
 split at hc
 ·rename_i u hu
  split at hc
  ·rename_i hcl
   simp only [Bool.and_eq_true] at hcl
   cases hc
   exact fn_pure hm h ks (fun c hc=>by
    have:=bwL_ok (m:=0) hm h hi hn
    unfold bodyOf at this
    rw [hc] at this
    exact this) hf hcl.1 hcl.2 hu
  ·cases hc
 ·cases hc
def fresh1:TObj→Bool
 | .vec _ v _=>Nat.beq v 0
 | .map ..=>true
 | .pool ..=>true
 | .raw (.vec _ v _)=>Nat.beq v 0
 | .raw .dead=>false
 | .raw _=>true
theorem fresh1_ok {H:List TObj} (h:H.all fresh1=true):freshH (denH H):=by
 intro o ho
 obtain ⟨t,ht,rfl⟩:=List.mem_map.1 ho
 have:=List.all_eq_true.1 h t ht
 cases t with
 | vec ks v rows=>simp only [fresh1] at this; rw [Nat.eq_of_beq_eq_true this]; rfl
 | map=>rfl
 | pool=>rfl
 | raw o=>cases o with
  | vec k v rows=>simp only [fresh1] at this; rw [Nat.eq_of_beq_eq_true this]; rfl
  | dead=>cases this
  | box=>rfl
  | map=>rfl
  | iter=>rfl
  | bld=>rfl
  | pool=>rfl
def runW (P:Program) (τ:Tab) (fn:Func) (args:List AV) (H:List TObj):Option (Bool × AV × List TObj) :=
 match H.all fresh1 with
 | true=>match (runCode P τ nL0 (bodyOf fn) ⟨frame0 args fn.ntmps,H⟩ .done).val1 with
  | some (.normal,s')=>match resultsA P s'.den fn.results.toList with
   | some vs=>some (true,oneA vs,s'.H)
   | none=>none
  | some (.ret,s')=>match resultsA P s'.den fn.results.toList with
   | some vs=>some (true,oneA vs,s'.H)
   | none=>none
  | _=>none
 | false=>none
def Tab.inlineW (P:Program) (τ:Tab) (f:FuncId) (fn:Func):Tab where
 pf g:=match Nat.beq g f with
  | true=>false
  | false=>τ.pf g
 T g as:=match Nat.beq g f with
  | true=>none
  | false=>τ.T g as
 W g as H:=match Nat.beq g f with
  | true=>runW P τ fn as H
  | false=>τ.W g as H
 C g as H:=match Nat.beq g f with
  | true=>List.range H.length
  | false=>τ.C g as H
 I:=τ.I
 N g:=match Nat.beq g f with
  | true=>false
  | false=>τ.N g
 U g:=match Nat.beq g f with
  | true=>true
  | false=>τ.U g
theorem TabOK.inlineW {P:Program} {τ:Tab} (h:TabOK P τ) (hm:P.follows .mixedOrders=true) {f:FuncId} {fn:Func} (hf:P.funcs[f]? = some fn) (hb:hasBody P f=true) (hbs:fn.body.isSome=true):TabOK P (τ.inlineW P f fn):=by
 refine ⟨fun g as b v hg ht=>?_,fun g as H b v H' hg ht=>?_,fun g as H b v H' hg A hA hlt=>?_,fun g as H t hg Q hQ=>?_,?_⟩
 rotate_left 4
 ·refine ⟨fun g hU as H => ?_, fun g hN as H b v H' hg id o hlt hid => ?_⟩
  ·simp only [Tab.inlineW] at hU ⊢
   cases e:Nat.beq g f with
   | true=>rw [e] at hU; cases hU
   | false =>
    rw [e] at hU
    exact h.F.1 g hU as H
  ·simp only [Tab.inlineW] at hN hg hid ⊢
   cases e:Nat.beq g f with
   | true=>rw [e] at hN; cases hN
   | false =>
    rw [e] at hN hg hid
    exact h.F.2 g hN as H b v H' hg id o hlt hid
 rotate_left 3
 ·obtain ⟨g1, v, H', g2, g3, g4⟩ := h.I g as H t hg Q hQ
  refine ⟨g1,v,H',g2,fun A hA hlt=>g3 A (fun hm=>hA ?_) hlt,g4⟩
  simp only [Tab.inlineW]
  split
  ·exact List.mem_range.2 hlt
  ·exact hm
 ·simp only [Tab.inlineW] at hg
  split at hg
  ·cases hg
  ·exact h.T g as b v hg ht
 ·simp only [Tab.inlineW] at hg
  split at hg
  ·rename_i e
   have e:=Nat.eq_of_beq_eq_true e
   subst e
   refine ⟨hb,?_⟩
   obtain ⟨c,hc⟩:=Option.isSome_iff_exists.1 hbs
   have hbo:bodyOf fn=c:=by unfold bodyOf; rw [hc]
   unfold runW at hg
   rw [hbo] at hg
   split at hg
   case h_2=>cases hg
   rename_i hfr
   have key:∀ {x:AExit} {s':TSt} {vs:List AV},(runCode P τ nL0 c ⟨frame0 as fn.ntmps,H⟩ .done).val1=some (x,s')→(x=.normal∨x=.ret)→resultsA P s'.den fn.results.toList=some vs→ACallX P g as (denH H) (oneA vs) (denH s'.H):=by
    intro x s' vs h1 hx h2
    obtain ⟨x1,s1,h3,h4⟩:=runCode_sound hm h c ⟨frame0 as fn.ntmps,H⟩ .done (nLk P (denH H).length c) (val1_holds h1)
    obtain ⟨rfl,rfl⟩:=h4
    exact call_body hf hc h3 hx h2 (fresh1_ok hfr)
   split at hg
   ·rename_i s' h1
    split at hg
    ·rename_i vs h2
     cases hg
     exact key h1 (.inl rfl) h2
    ·cases hg
   ·rename_i s' h1
    split at hg
    ·rename_i vs h2
     cases hg
     exact key h1 (.inr rfl) h2
    ·cases hg
   ·cases hg
  ·exact h.W g as H b v H' hg ht
 ·simp only [Tab.inlineW] at hg hA
  split at hg
  ·rename_i e
   rw [e] at hA
   exact (hA (List.mem_range.2 hlt)).elim
  ·rename_i e
   rw [e] at hA
   exact h.C g as H b v H' hg A hA hlt
end Go.AL

namespace Go.AL
open Go Go.ChangeMaps
variable [Dr]
def RSpec.s2K (sp:RSpec) (s:TSt) (b:Nat):TSt:=⟨s.fr.set sp.it (.lit (.pointer (some ⟨b,0,none⟩))),s.H⟩
section range
variable {P:Program} {τ:Tab} {L:LT} {m:Nat} {sp:RSpec} {ops0 ops1 ops2:Array Oper} {body:Code} {ri:List G→List (List G)} {ci:List G→Nat}
def RInvK (m:Nat) (sp:RSpec) (ri:List G→List (List G)) (ci:List G→Nat) (E:Env) (rows:List (List G)) (d0:List G) (itb mb nn clock:Nat) (a:Act) (w:World):Prop :=
 ∃ (d:List G) (loc:List (Option (Nat × Nat))) (X:XS) (seen:Array Nat) (last:Nat) (p:List (List G)),
  foldR sp.st sp.adr p d0=some d∧sp.adr d=itb∧(p++rows.filter fun x => !seen.contains (bornG x)).Perm rows ∧
  SRel (mkSt sp.inv d).den { w:=w,H:=(mkSt sp.inv d).den.H,loc:=loc,X:=X } a∧E.leM m { w:=w,H:=(mkSt sp.inv d).den.H,loc:=loc,X:=X }∧X itb ∧
  w.heap[itb]? = some (.mapIter (some mb) clock seen last)∧clock≤last∧ri d=rows∧ci d=clock∧loc[sp.id]? = some (some (mb,nn))
theorem range_loopK (hm:P.follows .mixedOrders=true) (ht:TabOK P τ) (hL:LpK P m L body) (hr:RRound P τ L m sp ops2 body) (ho:ROps P sp ops0 ops1 ops2)
  (hu1:∀ d,(mkSt sp.inv d).fr[sp.t1]? = some .undef) (hu2:∀ d,(mkSt sp.inv d).fr[sp.t2]? = some .undef) (hut:∀ d,(mkSt sp.inv d).fr[sp.it]? = some (.lit (.pointer (some ⟨sp.adr d,0,none⟩))))
  {E:Env} {rows:List (List G)} {d0:List G} {itb mb clock:Nat} {nn:Nat} {r1 b0 b1 r2:Nat}
  (hid2:∀ d,(mkSt sp.inv d).H[sp.id]? = some (.map sp.K sp.V (ri d) (ci d))) (hkeep:∀ r d d',sp.st r d=some d'→ri d'=ri d∧ci d'=ci d) (him:sp.id<m) (hsz:E.w.heap.size≤itb) (hn:(rows.map bornG).Nodup) (hlt:∀ r∈rows,bornG r<clock)
  (hfold:∀ p,p.Perm rows→(foldR sp.st sp.adr p d0).isSome=true) {a:Act} {w:World} (hI:RInvK m sp ri ci E rows d0 itb mb nn clock a w) (ro:Option Nat) (hro:okR ro body) :
  (Code.loop (.seq (.region r1 ops1 false) (.seq (.cond (.tmp sp.t2) .skip (.exit b0)) (.block b1 (.seq (.region r2 ops2 false) body))))).wpIn (fz ro) 0 P
   (fun e a1 w1=>e=.exit b0∧∃ p d,p.Perm rows∧foldR sp.st sp.adr p d0=some d∧MPost m E (mkSt sp.inv d).den a1 w1) a w:=by
 obtain ⟨o1,o2,e1,g1,p1,q1,g2,p2,q2⟩:=ho.r1
 obtain ⟨o3,l,e3,g3,p3,q3⟩:=ho.r2
 refine wpIn_loop (RInvK m sp ri ci E rows d0 itb mb nn clock) (fun _ w=>(rows.filter fun x => !(w.iterSeen itb).contains (bornG x)).length) hI fun a w hI=>?_
 obtain ⟨d,loc,X,seen,last,p,hf,had,hp,hs,hle,hXi,hit,hcl,hriD,hciD,hlo⟩:=hI
 have hidd:=hid2 d
 rw [hriD,hciD] at hidd
 have hob:=hs.heap.obj sp.id _ (denH_get hidd)
 simp only [TObj.den,objRel] at hob
 obtain ⟨mb',nn',ms,hlo',hmb,hre⟩:=hob
 have hmbe:mb'=mb:=by
  have h:=hlo'
  rw [hlo] at h
  simp only [Option.some.injEq,Prod.mk.injEq] at h
  exact h.1.symm
 subst hmbe
 have hne:mb'≠itb:=fun e=>(hs.heap.lt sp.id mb' nn hlo).2 (by rw [e]; exact hXi)
 have h10:ops1[0]? = some o1:=by
  have:ops1.toList[0]? = some o1:=by rw [e1]; rfl
  simpa using this
 have h11:ops1[1]? = some o2:=by
  have:ops1.toList[1]? = some o2:=by rw [e1]; rfl
  simpa using this
 have hsz1:ops1.size=2:=by
  have:ops1.toList.length=2:=by rw [e1]; rfl
  simpa using this
 have hiv:a.eval (.tmp sp.it)=.pointer (some ⟨itb,0,none⟩):=by
  have h:=hs.eval (.tmp sp.it)
  have e:(mkSt sp.inv d).den.eval (.tmp sp.it)=.lit (.pointer (some ⟨sp.adr d,0,none⟩)):=by
   show (mkSt sp.inv d).fr.getD sp.it .undef=_
   rw [List.getD_eq_getElem?_getD,hut d]
   rfl
  rw [e] at h
  simp only [rel] at h
  rw [h,had]
 obtain ⟨hlen,hen⟩:=relEntries_iff.1 hre
 have hl1:(mapEs sp.K sp.V rows).length=rows.length:=by simp [mapEs]
 have row_of:∀ (i:Nat) (e:MapEntry),ms.toList[i]? = some e→∃ r,rows[i]? = some r∧e.born=bornG r:=by
  intro i e hi
  have h1:=lt_of_getElem? hi
  have h2:i<rows.length:=by omega
  refine ⟨rows[i],List.getElem?_eq_getElem h2,?_⟩
  exact (hen i (sp.K.av (gi rows[i] 0).row,sp.V.av (gi rows[i] 1).row,(gi rows[i] 2).int.toNat) e (by simp [mapEs,h2]) hi).2.2.1
 have hold:∀ x∈ms.toList,x.born<clock:=by
  intro x hx
  obtain ⟨i,hi⟩:=List.getElem?_of_mem hx
  obtain ⟨r,h1,h2⟩:=row_of i x hi
  rw [h2]
  exact hlt r (List.mem_of_getElem? h1)
 have hbn:(ms.toList.map (·.born)).Nodup:=by
  have:ms.toList.map (·.born)=rows.map bornG:=by
   apply List.ext_getElem?
   intro i
   simp only [List.getElem?_map]
   cases hi:ms.toList[i]? with
   | none =>
    have h1:=List.getElem?_eq_none_iff.1 hi
    rw [List.getElem?_eq_none (by omega)]
    rfl
   | some e =>
    obtain ⟨r,h1,h2⟩:=row_of i e hi
    rw [h1]
    simp [h2]
  rw [this]
  exact hn
 refine wpIn_seq (wpIn_region ?_)
 rw [hsz1]
 show wpOpsIn (fz ro) 0 P ops1 _ [0,1] a w
 rw [wpOpsIn_cons]
 have hlt1:=tmp_lt hs (hu1 d)
 have hlt2:=tmp_lt hs (hu2 d)
 rcases run_next_at (P:=P) w o1.type itb mb' clock last seen ms clock hit hmb hold hcl with ⟨h0,hrun⟩ | ⟨e,he,w1,hw1,hrun⟩
 ·refine wpOp_value h10 g1 (run_next_op p1 hiv hrun) (fun c e => by rw [p1] at e; cases e) ro ?_
  rw [q1,wpOpsIn_cons]
  refine wpOp_value h11 g2 (run_extract0 p2 (eval_put_same hlt1) rfl) (fun c e=>by rw [p2] at e; cases e) ro ?_
  rw [q2]
  show (Code.seq _ _).wpIn (fz ro) 0 P _ _ w
  refine wpIn_seq (wpIn_cond_false (eval_put_same (by simpa [Act.put] using hlt2)) (wpIn_exit ?_))
  refine ⟨rfl,p,d,?_,hf,loc,X,?_,hle⟩
  ·have:(rows.filter fun x => !seen.contains (bornG x))=[]:=by
    rw [List.filter_eq_nil_iff]
    intro x hx hc
    obtain ⟨i,hi⟩:=List.getElem?_of_mem hx
    have h1:=lt_of_getElem? hi
    have h2:i<ms.toList.length:=by omega
    obtain ⟨r,h3,h4⟩:=row_of i _ (List.getElem?_eq_getElem h2)
    rw [hi] at h3
    cases h3
    have:ms.toList[i]∈(leftOf ms seen).toList:=by
     unfold leftOf
     rw [Array.toList_filter]
     refine List.mem_filter.2 ⟨List.getElem_mem h2,?_⟩
     rw [h4]
     exact hc
    have h5:(leftOf ms seen).toList.length=0:=by simpa using h0
    rw [List.length_eq_zero_iff.1 h5] at this
    cases this
   rwa [this,List.append_nil] at hp
  ·exact (hs.skipT (hu1 d) (.tuple #[.bool false])).skipT (hu2 d) (.bool false)
 ·refine wpOp_value h10 g1 (run_next_op p1 hiv hrun) (fun c e => by rw [p1] at e; cases e) ro ?_
  rw [q1,wpOpsIn_cons]
  refine wpOp_value h11 g2 (run_extract0 p2 (eval_put_same hlt1) rfl) (fun c e=>by rw [p2] at e; cases e) ro ?_
  rw [q2]
  show (Code.seq _ _).wpIn (fz ro) 0 P _ _ _
  refine wpIn_seq (wpIn_cond_true (eval_put_same (by simpa [Act.put] using hlt2)) (wpIn_skip ?_))
  show (Code.block _ _).wpIn (fz ro) 0 P _ _ _
  refine wpIn_block (wpIn_seq (wpIn_region ?_))
  generalize hw2:setBlock w1 itb (.mapIter (some mb') clock (seen.push e.born) clock)=w2
  have hw1h:w1.heap=w.heap:=by rcases hw1 with rfl | rfl<;>rfl
  have hos:SameOs w w2:=by rw [←hw2]; rcases hw1 with rfl | rfl<;>exact ⟨rfl,rfl,rfl,by first | exact fun _=>Nat.le_refl _ | exact fun _=>Nat.le_add_right _ _⟩
  have hit2':w2.heap[itb]? = some (.mapIter (some mb') clock (seen.push e.born) clock):=by
   rw [←hw2]
   exact (MapKept.heap_set (by rw [hw1h]; exact hit)).1
  have hother:∀ b,b≠itb→w2.heap[b]? = w.heap[b]? := by
   intro b hb
   rw [←hw2]
   show (w1.heap.setIfInBounds itb _)[b]? = _
   rw [(MapKept.heap_set (by rw [hw1h]; exact hit)).2 b hb,hw1h]
  have hsize:w2.heap.size=w.heap.size:=by
   rw [←hw2]
   show (w1.heap.setIfInBounds itb _).size=_
   simp [hw1h]
  have hmb2:w2.heap[mb']? = some (.map ms clock):=by rw [hother mb' hne]; exact hmb
  have chg:Chg { w:=w,H:=(mkSt sp.inv d).den.H,loc:=loc,X:=X } { w:=w2,H:=(mkSt sp.inv d).den.H,loc:=loc,X:=X } :=
   ⟨rfl,rfl,by show w.heap.size≤w2.heap.size; omega,fun b hb hx=>⟨hx,hother b (fun e=>hx (by rw [e]; exact hXi))⟩,fun b hb=>by show b<w2.heap.size; rw [hsize]; exact hs.heap.X b hb,rfl⟩
  have hmk:marksOk w2 X a.defers:=⟨hs.defers.1,fun dd hdd=>by
   obtain ⟨D,e,h1,h2,h3⟩:=hs.defers.2 dd hdd
   exact ⟨D,e,by rw [hother D (fun e=>by rw [e] at h1; rw [hit] at h1; cases h1)]; exact h1,h2,h3⟩⟩
  have hs1:=((hs.chg chg hmk).skipT (hu1 d) (.tuple #[.bool true,e.key,e.val])).skipT (hu2 d) (.bool true)
  obtain ⟨hem,hes⟩:=mem_left he
  obtain ⟨i,hi⟩:=List.getElem?_of_mem hem
  obtain ⟨r,hri,hrb⟩:=row_of i e hi
  have hrm:=List.mem_of_getElem? hri
  have hre2:=relEntries_closed chg.toC hre
  obtain ⟨k1,k2,_⟩:=(relEntries_iff.1 hre2).2 i (sp.K.av (gi r 0).row,sp.V.av (gi r 1).row,(gi r 2).int.toNat) e (by simp [mapEs,hri]) hi
  have hiv1:((a.put (some sp.t1) (.tuple #[.bool true,e.key,e.val])).put (some sp.t2) (.bool true)).eval (.tmp sp.it)=.pointer (some ⟨itb,0,none⟩):=by
   have h:=hs1.eval (.tmp sp.it)
   have e:(mkSt sp.inv d).den.eval (.tmp sp.it)=.lit (.pointer (some ⟨sp.adr d,0,none⟩)):=by
    show (mkSt sp.inv d).fr.getD sp.it .undef=_
    rw [List.getD_eq_getElem?_getD,hut d]
    rfl
   rw [e] at h
   simp only [rel] at h
   rw [h,had]
  have h20:ops2[0]? = some o3:=by
   have:ops2.toList[0]? = some o3:=by rw [e3]; rfl
   simpa using this
  have hl2:ops2.toList.drop 1=l:=by rw [e3]; rfl
  have hsz2:ops2.size=l.length+1:=by
   have:ops2.toList.length=l.length+1:=by rw [e3]; rfl
   simpa using this
  -- the order goes on
  have hlp:(p++(r::rows.filter fun x => !(seen.push (bornG r)).contains (bornG x))).Perm rows :=
   (List.Perm.append_left p (left_perm hn hrm (by rw [←hrb]; exact hes)).symm).trans hp
  have hst:∃ d',sp.st r d=some d'∧sp.adr d'=sp.adr d:=by
   have h:=hfold _ hlp
   rw [foldR_append,hf] at h
   simp only [Option.bind_some,foldR] at h
   cases hst:sp.st r d with
   | none=>rw [hst] at h; cases h
   | some d' =>
    rw [hst] at h
    simp only [] at h
    cases hb:Nat.beq (sp.adr d') (sp.adr d) with
    | true=>exact ⟨d',rfl,Nat.eq_of_beq_eq_true hb⟩
    | false=>rw [hb] at h; cases h
  obtain ⟨d',hst,had'⟩:=hst
  have hf':foldR sp.st sp.adr (p++[r]) d0=some d':=by
   rw [foldR_append,hf]
   simp only [Option.bind_some,foldR,hst,had']
   simp
  obtain ⟨s4,ha4,hsat⟩:=round_wp hm ht hL hr hst
  rw [hsz2,List.range_eq_range',List.range'_succ,wpOpsIn_cons]
  refine wpOp_value h20 g3 (run_entry_op p3 hiv1 (run_entry_at (P:=P) w2 itb mb' clock seen ms clock e hit2' hmb2 hem hbn)) (fun c e=>by rw [p3] at e; cases e) ro ?_
  rw [q3]
  have hs3:=hs1.putT sp.t3 (v:=.tuple [sp.K.av (gi r 0).row,sp.V.av (gi r 1).row]) (u:=.tuple #[e.key,e.val]) (by simp only [rel]; exact ⟨_,rfl,by simp only [rLs]; exact ⟨k1,k2,trivial⟩⟩)
  refine wpOps_of_aOps (pf:=τ.pf) (ops:=ops2) l (0+1) (sp.rs r d).den s4.den { w:=w2,H:=(mkSt sp.inv d).den.H,loc:=loc,X:=X } _ (by rw [←hl2]) (by rw [hl2] at ha4; exact ha4) hs3 (fun a3 w3 hc3=>?_) ro
  obtain ⟨loc3,r3,hs4,hle3⟩:=hc3
  show body.wpIn (fz ro) 0 P _ a3 w3
  refine wpIn_mono (hsat ro hro { w:=w3,H:=s4.den.H,loc:=loc3,X:=X.re r3 } a3 hs4) fun x a4 w4 hx=>?_
  obtain ⟨rfl,loc4,X4,hs5,hle4⟩:=hx
  have hall:({ w:=w2,H:=(mkSt sp.inv d).den.H,loc:=loc,X:=X }:Env).leM m { w:=w4,H:=(mkSt sp.inv d').den.H,loc:=loc4,X:=X4 }:=hle3.toM.trans hle4
  have hXsz:itb<w2.heap.size:=lt_of_heap hit2'
  have hnown:¬ Env.own { w:=w2,H:=(mkSt sp.inv d).den.H,loc:=loc,X:=X } itb:=by
   exact (hs.heap.chg chg).ownX hXi
  have hmbsz:mb'<w2.heap.size:=lt_of_heap hmb2
  have hit4:w4.heap[itb]? = some (.mapIter (some mb') clock (seen.push e.born) clock):=by rw [hall.same itb hXsz hnown]; exact hit2'
  obtain ⟨hk1,hk2⟩:=hkeep r d d' hst
  have hidd':=hid2 d'
  rw [hk1,hk2,hriD,hciD] at hidd'
  have hlive:=(hall.live sp.id him ⟨_,denH_get hidd,fun v _=>Nat.zero_le v⟩ ⟨_,denH_get hidd',rfl⟩).2
  refine ⟨⟨d',loc4,X4,seen.push e.born,clock,p++[r],hf',by rw [had',had],?_,hs5,?_,(hall.X itb hXsz).1.2 hXi,hit4,Nat.le_refl _,by rw [hk1,hriD],by rw [hk2,hciD],?_⟩,?_⟩
  ·rw [hrb, List.append_assoc]
   exact hlp
  ·refine Env.leM.trans (E' := { w := w2, H := (mkSt sp.inv d).den.H, loc := loc, X := X }) ⟨hle.past, ?_, ?_, hle.own, hle.live, hle.X, hle.rl, hle.env.trans hos⟩ hall
   ·have := hle.size
    show E.w.heap.size≤w2.heap.size
    rw [hsize]
    exact this
   ·intro b hb hbo
    show w2.heap[b]? = _
    rw [hother b (by omega)]
    exact hle.same b hb hbo
  ·rw [show loc4[sp.id]? = loc[sp.id]? from hlive]
   exact hlo
  ·show (rows.filter fun x => !(w4.iterSeen itb).contains (bornG x)).length < (rows.filter fun x => !(w.iterSeen itb).contains (bornG x)).length
   rw [iterSeen_of hit4,iterSeen_of hit]
   have:=(left_perm hn hrm (by rw [←hrb]; exact hes)).length_eq
   rw [←hrb] at this
   simp only [List.length_cons] at this
   omega
theorem range_wp1K (hm:P.follows .mixedOrders=true) (ht:TabOK P τ) (hL:LpK P m L body) (hr:RRound P τ L m sp ops2 body) (ho:ROps P sp ops0 ops1 ops2)
  (hu1:∀ d,(mkSt sp.inv d).fr[sp.t1]? = some .undef) (hu2:∀ d,(mkSt sp.inv d).fr[sp.t2]? = some .undef) (hut:∀ d,(mkSt sp.inv d).fr[sp.it]? = some (.lit (.pointer (some ⟨sp.adr d,0,none⟩))))
  {r1 b0 b1 r2:Nat} (hid2:∀ d,(mkSt sp.inv d).H[sp.id]? = some (.map sp.K sp.V (ri d) (ci d))) (hkeep:∀ r d d',sp.st r d=some d'→ri d'=ri d∧ci d'=ci d) (him:sp.id<m)
  {s:TSt} {d:List G} {rows:List (List G)} {clock:Nat} (hx:s.eval (.tmp sp.y)=.map sp.id) (hid:s.H[sp.id]? = some (.map sp.K sp.V rows clock)) (hn:(rows.map bornG).Nodup)
  (hlt:∀ r∈rows,bornG r<clock) (hin:∀ b,readP m sp.inv sp.ps (openAll sp.opens (sp.s2K s b))=some (true,sp.init d b)) (hadr:∀ b,sp.adr (sp.init d b)=b) (hri:∀ b,ri (sp.init d b)=rows∧ci (sp.init d b)=clock)
  (hfold:∀ b p,p.Perm rows→(foldR sp.st sp.adr p (sp.init d b)).isSome=true) (E:Env) (a:Act) (hs:SRel s.den E a) (ro:Option Nat) (hro:okR ro body) {Q:Exit→Act→World→Prop}
  (hQ:∀ a1 w1,(∃ b p d',p.Perm rows∧foldR sp.st sp.adr p (sp.init d b)=some d'∧MPost m E (mkSt sp.inv d').den a1 w1)→Q .normal a1 w1) :
  wpOpsIn (fz ro) 0 P ops0 (Exit.then ((Code.block b0 (.loop (.seq (.region r1 ops1 false) (.seq (.cond (.tmp sp.t2) .skip (.exit b0)) (.block b1 (.seq (.region r2 ops2 false) body)))))).wpIn (fz ro) 0 P Q) Q) [ops0.toList.dropLast.length] a E.w:=by
 obtain ⟨o2,ty,e1,g2,p2,q2,hty⟩:=ho.r0
 have h11:ops0[ops0.toList.dropLast.length]? = some o2:=by
  have:ops0.toList[ops0.toList.dropLast.length]? = some o2:=by
   rw [e1]
   simp
  simpa using this
 have hid':E.H[sp.id]? = some (.map (mapEs sp.K sp.V rows) clock):=by
  rw [hs.H]
  exact denH_get hid
 have hrx:rel E (.map sp.id) (a.eval (.tmp sp.y)):=by
  have:=hs.eval (.tmp sp.y)
  rwa [TSt.eval_den,hx] at this
 obtain ⟨mb,n,ms,hc,hloc,hmb,hre⟩:=rel_map hs.heap hid' hrx
 obtain ⟨⟨kt,et⟩,hty⟩:=Option.isSome_iff_exists.1 hty
 have hmbs:mb<E.w.heap.size:=lt_of_heap hmb
 rw [wpOpsIn_cons]
 refine wpOp_value h11 g2 (run_range_op p2 hc (run_range_map E.w ty kt et mb ms clock (mapTy_some hty) hmb)) (fun c e=>by rw [p2] at e; cases e) ro ?_
 rw [q2]
 show (Code.block _ _).wpIn (fz ro) 0 P _ _ _
 generalize hw2:E.w.alloc (.mapIter (some mb) clock #[] clock)=w2
 have hsize:w2.heap.size=E.w.heap.size+1:=by rw [←hw2]; show (E.w.heap.push _).size=_; simp
 have hold:∀ b,b<E.w.heap.size→w2.heap[b]? = E.w.heap[b]? := fun b hb=>by rw [←hw2]; exact (show (E.w.heap.push _)[b]? = _ by rw [Array.getElem?_push,if_neg (by omega)])
 have hitn:w2.heap[E.w.heap.size]? = some (.mapIter (some mb) clock #[] clock):=by rw [←hw2]; exact (show (E.w.heap.push _)[E.w.heap.size]? = _ by simp)
 have hos:SameOs E.w w2:=by rw [←hw2]; exact ⟨rfl,rfl,rfl,by first | exact fun _=>Nat.le_refl _ | exact fun _=>Nat.le_add_right _ _⟩
 have chg:Chg { w:=E.w,H:=E.H,loc:=E.loc,X:=E.X } { w:=w2,H:=E.H,loc:=E.loc,X:=E.X.or fun b=>b=E.w.heap.size } :=
  ⟨rfl, rfl, by show E.w.heap.size ≤ w2.heap.size; omega, fun b hb hx => ⟨fun h => h.elim hx (fun e => absurd hb (by rw [e]; exact Nat.lt_irrefl _)), hold b hb⟩, fun b hb => by
   show b<w2.heap.size
   rcases hb with hb | hb
   ·have := hs.heap.X b hb
    omega
   ·omega,rfl⟩
 have hs3:=(hs.chg chg (marksOk_same (X':=E.X.or fun b=>b=E.w.heap.size) (w':=w2) hs.defers (fun _ h1 h2=>⟨.inl h1,h2⟩) fun b h1 _=>hold b (hs.heap.X b h1))).putT sp.it (v:=.lit (.pointer (some ⟨E.w.heap.size,0,none⟩))) (u:=.pointer (some ⟨E.w.heap.size,0,none⟩)) (by simp only [rel])
 have hs3':SRel (sp.s2K s E.w.heap.size).den { w:=w2,H:=E.H,loc:=E.loc,X:=E.X.or fun b=>b=E.w.heap.size } _:=hs3
 obtain ⟨loc,X4,hs4,hle4⟩:=((openAll_le sp.opens _).trans (readP_le (hin E.w.heap.size))) _ _ hs3'
 have hidd:=hid2 (sp.init d E.w.heap.size)
 rw [(hri _).1,(hri _).2] at hidd
 have hlive:=(hle4.live sp.id him ⟨_,hid',fun v _=>Nat.zero_le v⟩ ⟨_,denH_get hidd,rfl⟩).2
 refine wpIn_block (wpIn_mono (range_loopK hm ht hL hr ho hu1 hu2 hut (ri:=ri) (ci:=ci) (E:=E) (rows:=rows) (d0:=sp.init d E.w.heap.size) (itb:=E.w.heap.size) (mb:=mb) (nn:=n) (clock:=clock)
  hid2 hkeep him (Nat.le_refl _) hn hlt (hfold _) ?_ ro hro) fun e a1 w1 hq=>?_)
 ·refine ⟨sp.init d E.w.heap.size, loc, X4, #[], clock, [], rfl, hadr _, ?_, hs4, ?_, (hle4.X E.w.heap.size (by show _ < w2.heap.size; omega)).1.2 (.inr rfl), ?_, Nat.le_refl _, (hri _).1, (hri _).2, ?_⟩
  ·have : (rows.filter fun x => !(#[] : Array Nat).contains (bornG x)) = rows := List.filter_eq_self.2 (fun x _ => by simp)
   rw [List.nil_append,this]
  ·refine Env.leM.trans (E' := { w := w2, H := E.H, loc := E.loc, X := E.X.or fun b => b = E.w.heap.size }) ⟨fun _ _ h => h, ?_, ?_, fun b _ h => h, fun _ _ _ h => ⟨h, rfl⟩, fun b hb => ⟨⟨fun h => h.elim id fun e => absurd hb (by rw [e]; exact Nat.lt_irrefl _), .inl⟩, Iff.rfl⟩, fun _ _ h => ⟨h, fun _ hq => hq⟩, hos⟩ hle4
   ·show E.w.heap.size ≤ w2.heap.size
    omega
   ·exact fun b hb _=>hold b hb
  ·rw [hle4.same E.w.heap.size (by show _ < w2.heap.size; omega) ?_]
   ·exact hitn
   ·exact (hs.heap.chg chg).ownX (.inr rfl)
  ·rw [show loc[sp.id]? = E.loc[sp.id]? from hlive]
   exact hloc
 ·obtain ⟨rfl, p, d', h1, h2, h3⟩ := hq
  simp only [Exit.inBlock,if_true]
  exact hQ _ _ ⟨_,p,d',h1,h2,h3⟩
theorem range_wpK (hm:P.follows .mixedOrders=true) (ht:TabOK P τ) (hL:LpK P m L body) (hr:RRound P τ L m sp ops2 body) (ho:ROps P sp ops0 ops1 ops2)
  (hu1:∀ d,(mkSt sp.inv d).fr[sp.t1]? = some .undef) (hu2:∀ d,(mkSt sp.inv d).fr[sp.t2]? = some .undef) (hut:∀ d,(mkSt sp.inv d).fr[sp.it]? = some (.lit (.pointer (some ⟨sp.adr d,0,none⟩))))
  {r0 r1 b0 b1 r2:Nat} (hid2:∀ d,(mkSt sp.inv d).H[sp.id]? = some (.map sp.K sp.V (ri d) (ci d))) (hkeep:∀ r d d',sp.st r d=some d'→ri d'=ri d∧ci d'=ci d) (him:sp.id<m)
  {s s1:TSt} {d:List G} {rows:List (List G)} {clock:Nat} (hp:aOps P τ.pf ops0 ops0.toList.dropLast s.den s1.den) (hx:s1.eval (.tmp sp.y)=.map sp.id) (hid:s1.H[sp.id]? = some (.map sp.K sp.V rows clock)) (hn:(rows.map bornG).Nodup)
  (hlt:∀ r∈rows,bornG r<clock) (hin:∀ b,readP m sp.inv sp.ps (openAll sp.opens (sp.s2K s1 b))=some (true,sp.init d b)) (hadr:∀ b,sp.adr (sp.init d b)=b) (hri:∀ b,ri (sp.init d b)=rows∧ci (sp.init d b)=clock)
  (hfold:∀ b p,p.Perm rows→(foldR sp.st sp.adr p (sp.init d b)).isSome=true) (E:Env) (a:Act) (hs:SRel s.den E a) (ro:Option Nat) (hro:okR ro body) :
  (rangeCode r0 b0 r1 b1 r2 ops0 ops1 ops2 sp.t2 body).wpIn (fz ro) 0 P (fun e a1 w1=>e=.normal∧∃ b p d',p.Perm rows∧foldR sp.st sp.adr p (sp.init d b)=some d'∧MPost m E (mkSt sp.inv d').den a1 w1) a E.w:=by
 refine wpIn_seq (wpIn_region ?_)
 obtain ⟨o2,ty,e1,_⟩:=ho.r0
 have hsz:ops0.size=ops0.toList.dropLast.length+1:=by
  have h:=congrArg List.length e1
  simpa using h
 have hl:List.range ops0.size=List.range' 0 ops0.toList.dropLast.length++[ops0.toList.dropLast.length]:=by
  rw [hsz,List.range_succ,List.range_eq_range']
 rw [hl]
 refine wpOps_pre (pf:=τ.pf) ro ops0.toList.dropLast 0 s.den s1.den E a _ (fun j o hj=>?_) hp hs fun a1 w1 hc=>?_
 ·have hlt := lt_of_getElem? hj
  have:ops0.toList[j]? = some o:=by
   rw [e1,List.getElem?_append_left hlt]
   exact hj
  simpa using this
 ·obtain ⟨loc1, r1, h1, h2⟩ := hc
  refine range_wp1K hm ht hL hr ho hu1 hu2 hut hid2 hkeep him hx hid hn hlt hin hadr hri hfold { w:=w1,H:=s1.den.H,loc:=loc1,X:=E.X.re r1 } a1 h1 ro hro fun a2 w2 ⟨b,p,d',g1,g2,g3⟩=>?_
  exact ⟨rfl,b,p,d',g1,g2,MPost.after h2.toM g3⟩
theorem range_satK (hm:P.follows .mixedOrders=true) (ht:TabOK P τ) {rest:Code} {q qr:LSpec} (hL:LpK P m L body) (hr:RRound P τ L m sp ops2 body) (ho:ROps P sp ops0 ops1 ops2)
  (hu1:∀ d,(mkSt sp.inv d).fr[sp.t1]? = some .undef) (hu2:∀ d,(mkSt sp.inv d).fr[sp.t2]? = some .undef) (hut:∀ d,(mkSt sp.inv d).fr[sp.it]? = some (.lit (.pointer (some ⟨sp.adr d,0,none⟩))))
  {r0 r1 b0 b1 r2:Nat} (hid2:∀ d,(mkSt sp.inv d).H[sp.id]? = some (.map sp.K sp.V (ri d) (ci d))) (hkeep:∀ r d d',sp.st r d=some d'→ri d'=ri d∧ci d'=ci d) (him:sp.id<m)
  {rows:List G→List (List G)} {clock:List G→Nat} {pre:List G→TSt} (hy:∀ d,(runOps P τ ops0 ops0.toList.dropLast (mkSt q.inv d) fun s=>.done .normal s).val1=some (.normal,pre d)) (hx:∀ d,(pre d).eval (.tmp sp.y)=.map sp.id) (hid:∀ d,(pre d).H[sp.id]? = some (.map sp.K sp.V (rows d) (clock d)))
  (hin:∀ d b,readP m sp.inv sp.ps (openAll sp.opens (sp.s2K (pre d) b))=some (sp.side d b,sp.init d b)) (hadr:∀ d b,sp.adr (sp.init d b)=b) (hri:∀ d b,ri (sp.init d b)=rows d∧ci (sp.init d b)=clock d)
  (hinv:qr.inv=sp.inv) (houts:qr.outs=q.outs) (hrest:CutSat P m rest qr) (hst:∀ d,q.st d=rangeR sp qr.st (rows d) (clock d) d) :
  CutSat P m (.seq (rangeCode r0 b0 r1 b1 r2 ops0 ops1 ops2 sp.t2 body) rest) q:=by
 intro d i d' h
 rw [hst] at h
 unfold rangeR at h
 cases hok:okSt (rows d) (clock d) with
 | false=>rw [hok] at h; cases h
 | true =>
  rw [hok] at h
  simp only [cond_true] at h
  have hall:=permB_all h
  obtain ⟨hn,hlt⟩:=okSt_iff hok
  have hsome:∀ b p,p.Perm (rows d)→sp.side d b=true∧∃ d1,foldR sp.st sp.adr p (sp.init d b)=some d1∧qr.st d1=some (some i,d'):=by
   intro b p hp
   have:=hall b p hp
   cases hsd:sp.side d b with
   | false=>rw [hsd] at this; cases this
   | true =>
    rw [hsd] at this
    simp only [cond_true] at this
    cases hf:foldR sp.st sp.adr p (sp.init d b) with
    | none=>rw [hf] at this; cases this
    | some d1 =>
     rw [hf] at this
     exact ⟨rfl,d1,rfl,this⟩
  obtain ⟨_,d1,_,g1⟩:=hsome 0 (rows d) (List.Perm.refl _)
  obtain ⟨o,ho1,_⟩:=hrest d1 i d' g1
  refine ⟨o,by rw [←houts]; exact ho1,fun ro hro E a hs=>wpIn_seq (wpIn_mono (range_wpK hm ht hL hr ho hu1 hu2 hut hid2 hkeep him (pre_ops ht (hy d)) (hx d) (hid d) hn hlt (fun b=>by rw [hin d b,(hsome b (rows d) (List.Perm.refl _)).1]) (hadr d) (hri d) (fun b p hp=>?_) E a hs ro (okR_body hro.seq1)) fun e a1 w1 hq=>?_)⟩
  ·obtain ⟨_, d2, h2, _⟩ := hsome b p hp
   rw [h2]
   rfl
  ·obtain ⟨rfl, b, p, d2, hp, hf, loc, X, hs2, hle⟩ := hq
   obtain ⟨_,d3,h3,h4⟩:=hsome b p hp
   rw [hf] at h3
   cases h3
   obtain ⟨o',ho2,hsat⟩:=hrest d2 i d' h4
   rw [ho1] at ho2
   cases ho2
   rw [hinv] at hsat
   exact wpIn_mono (hsat ro hro.seq2 { w:=w1,H:=(mkSt sp.inv d2).den.H,loc:=loc,X:=X } a1 hs2) fun x a2 w2 hx=>⟨hx.1,MPost.after hle hx.2⟩
theorem LpK.addRangeK (hm:P.follows .mixedOrders=true) (ht:TabOK P τ) {fn:Func} {q qr:LSpec} {r0 b0 r1 b1 r2:Nat} {rows:List G→List (List G)} {clock:List G→Nat}
  (hid2:∀ d,(mkSt sp.inv d).H[sp.id]? = some (.map sp.K sp.V (ri d) (ci d))) (hkeep:∀ r d d',sp.st r d=some d'→ri d'=ri d∧ci d'=ci d) (him:Nat.blt sp.id m=true) (hn:oneKey q.key (cutsIn (bodyOf fn))=true) (hL:LpK P m L (bodyOf fn))
  (hc:cutAt fn q.key=.seq (rangeCode r0 b0 r1 b1 r2 (rOps0 (cutAt fn q.key)) (rOps1 (cutAt fn q.key)) (rOps2 (cutAt fn q.key)) sp.t2 (rBody (cutAt fn q.key))) (rRest (cutAt fn q.key)))
  (ho:(ops0Ok P sp (rOps0 (cutAt fn q.key))&&ops1Ok sp (rOps1 (cutAt fn q.key))&&ops2Ok sp (rOps2 (cutAt fn q.key)))=true)
  (hr:RRound P τ L m sp (rOps2 (cutAt fn q.key)) (rBody (cutAt fn q.key)))
  (hu1:∀ d,(mkSt sp.inv d).fr[sp.t1]? = some .undef) (hu2:∀ d,(mkSt sp.inv d).fr[sp.t2]? = some .undef) (hut:∀ d,(mkSt sp.inv d).fr[sp.it]? = some (.lit (.pointer (some ⟨sp.adr d,0,none⟩))))
  {pre:List G→TSt} (hy:∀ d,(runOps P τ (rOps0 (cutAt fn q.key)) (rOps0 (cutAt fn q.key)).toList.dropLast (mkSt q.inv d) fun s=>.done .normal s).val1=some (.normal,pre d)) (hx:∀ d,(pre d).eval (.tmp sp.y)=.map sp.id) (hid:∀ d,(pre d).H[sp.id]? = some (.map sp.K sp.V (rows d) (clock d)))
  (hin:∀ d b,readP m sp.inv sp.ps (openAll sp.opens (sp.s2K (pre d) b))=some (sp.side d b,sp.init d b)) (hadr:∀ d b,sp.adr (sp.init d b)=b) (hri:∀ d b,ri (sp.init d b)=rows d∧ci (sp.init d b)=clock d)
  (hinv:qr.inv=sp.inv) (houts:qr.outs=q.outs) (hrest:CutOK P τ L m (rRest (cutAt fn q.key)) qr) (hst:∀ d,q.st d=rangeR sp qr.st (rows d) (clock d) d) :
  LpK P m (L.addCut m q) (bodyOf fn):=by
 refine LpK.addCutS hn hL fun hLc=>?_
 rw [hc] at hLc
 obtain ⟨hLb,hLr⟩:=loopsOK_parts hLc
 simp only [Bool.and_eq_true] at ho
 rw [hc]
 exact range_satK hm ht hLb hr (rops_of ho.1.1 ho.1.2 ho.2) hu1 hu2 hut hid2 hkeep (by rw [←Nat.blt_eq]; exact him) hy hx hid hin hadr hri hinv houts (hrest.sat hm ht hLr) hst
end range
end Go.AL

namespace Go.AL
open Go
variable [Dr]
theorem giC0 {a:G} {l:List G}:gi (a::l) 0=a:=rfl
theorem giCs {a:G} {l:List G} {n:Nat}:gi (a::l) (n+1)=gi l n:=rfl
theorem intC {n:Int}:(G.i n).int=n:=rfl
theorem beqC {n:Nat}:Nat.beq n n=true:=Nat.beq_refl n
def range1 (sp:RSpec) (tl:List G→Option (Option Nat × List G)) (rows:List (List G)) (clock:Nat) (d:List G):Option (Option Nat × List G) :=
 match rows with
 | [x]=>bif okSt [x] clock then bif sp.side d 0 then (foldR sp.st sp.adr [x] (sp.init d 0)).bind tl else none else none
 | _=>none
theorem range1_le {sp:RSpec} {tl:List G→Option (Option Nat × List G)} {rows:List (List G)} {clock:Nat} {d:List G} {r:Option Nat × List G}
  (hs:∀ b,sp.side d b=sp.side d 0) (hf:∀ x b,(foldR sp.st sp.adr [x] (sp.init d b)).bind tl=(foldR sp.st sp.adr [x] (sp.init d 0)).bind tl)
  (h:range1 sp tl rows clock d=some r):rangeR sp tl rows clock d=some r:=by
 unfold range1 at h
 split at h
 case h_2=>cases h
 rename_i x
 cases h1:okSt [x] clock with
 | false=>rw [h1] at h; cases h
 | true =>
  cases h2:sp.side d 0 with
  | false=>rw [h1,h2] at h; cases h
  | true =>
   rw [h1,h2] at h
   unfold rangeR
   rw [h1]
   refine permB_of fun b p hp=>?_
   rw [List.perm_singleton.1 hp,hs b,h2,cond_true,hf x b]
   exact h
theorem foldR_one {st:List G→List G→Option (List G)} {adr:List G→Nat} {x e:List G}:foldR st adr [x] e=(st x e).bind fun d'=>bif Nat.beq (adr d') (adr e) then some d' else none:=by
 simp only [foldR]
 cases st x e<;>rfl
theorem bind_cond {α β:Type} {c:Bool} {a b:Option α} {f:α→Option β}:(bif c then a else b).bind f=bif c then a.bind f else b.bind f:=by
 cases c<;>rfl
theorem loopB_le {c:Bool} {X Y:Option (Option Nat × List G)} {K:Nat→List G→Option (List G)} {r:List G} (h:∀ v,X=some v→Y=some v) (hr:loopB c (cutR X) K=some r):loopB c (cutR Y) K=some r:=by
 cases X with
 | some v=>rw [h v rfl]; exact hr
 | none=>cases c<;>cases hr
end Go.AL

namespace Go.AL
open Go
variable [Dr]
end Go.AL
