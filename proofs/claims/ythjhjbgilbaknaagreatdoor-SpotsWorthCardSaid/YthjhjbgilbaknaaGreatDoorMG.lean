/-
 What is proved here: the function that slices.Backward hands back, called with a round's body: the rounds come from the last row to the first one. No program in sight; no condition.
-/
import Derived.Test.YthjhjbgilbaknaaGreatDoorMD
import Derived.Test.YthjhjbgilbaknaaGreatDoorMC
import Derived.Lib.LaidTab
import Derived.Sort.Grow
import Derived.Deep.Draws
set_option linter.unusedSimpArgs false
set_option linter.unusedVariables false
set_option linter.unusedSectionVars false
namespace Go.AL
open Go
theorem yields_readO {P : Program} {pf : FuncId → Bool} {ops : Array Oper} {o : Oper} {s : St} {v : AV} (hg : o.guard = none) (hc : clsOf pf o.op = .read) (h : evR P s.eval s.H o.op = some v) : Yields P pf ops o s v s.H := by
 unfold Yields
 rw [show wantedA ops s.fr o = some true from by unfold wantedA; rw [hg]]
 simp only [hc]
 exact ⟨trivial, h⟩
theorem yields_pureO {P : Program} {pf : FuncId → Bool} {ops : Array Oper} {o : Oper} {s : St} {v : AV} (hg : o.guard = none) (hc : clsOf pf o.op = .pure) (h : evP P s.eval o.op = some v) : Yields P pf ops o s v s.H := by
 unfold Yields
 rw [show wantedA ops s.fr o = some true from by unfold wantedA; rw [hg]]
 simp only [hc]
 exact ⟨trivial, .inl h⟩
structure BwOps (S T : TypeId) (ops0 ops1 ops2 ops3 : Array Oper) : Prop where
 r0 : ∃ o1 o2 o3 o4 t t', ops0.toList = [o1, o2, o3, o4] ∧ (o1.guard = none ∧ o1.op = .load S (.tmp 1) ∧ o1.dst = some 4) ∧ (o2.guard = none ∧ o2.op = .call { callee := .builtin .len, args := #[.tmp 4], argTypes := #[S] } ∧ o2.dst = some 5) ∧
  (o3.guard = none ∧ o3.op = .binOp .sub t (.tmp 5) (.const (.int .i64 1)) t' ∧ o3.dst = some 6) ∧ (o4.guard = none ∧ o4.op = .assign (.tmp 6) ∧ o4.dst = some 3)
 r1 : ∃ o1 o2 t t', ops1.toList = [o1, o2] ∧ (o1.guard = none ∧ o1.op = .move (.tmp 3) ∧ o1.dst = some 7) ∧ (o2.guard = none ∧ o2.op = .binOp .geq t (.tmp 7) (.const (.int .i64 0)) t' ∧ o2.dst = some 8)
 r2 : ∃ o1 o2 o3 t t', ops2.toList = [o1, o2, o3] ∧ (o1.guard = none ∧ o1.op = .move (.tmp 3) ∧ o1.dst = some 9) ∧ (o2.guard = none ∧ o2.op = .binOp .sub t (.tmp 9) (.const (.int .i64 1)) t' ∧ o2.dst = some 10) ∧ (o3.guard = none ∧ o3.op = .assign (.tmp 10) ∧ o3.dst = some 3)
 r3 : ∃ o1 o2 o3 o4 o5 o6 o7 o8 t tys, ops3.toList = [o1, o2, o3, o4, o5, o6, o7, o8] ∧ (o1.guard = none ∧ o1.op = .move (.tmp 0) ∧ o1.dst = some 11) ∧ (o2.guard = none ∧ o2.op = .move (.tmp 3) ∧ o2.dst = some 12) ∧ (o3.guard = none ∧ o3.op = .load S (.tmp 1) ∧ o3.dst = some 13) ∧
  (o4.guard = none ∧ o4.op = .move (.tmp 3) ∧ o4.dst = some 14) ∧ (o5.guard = none ∧ o5.op = .indexAddr S (.tmp 13) (.tmp 14) ∧ o5.dst = some 15) ∧ (o6.guard = none ∧ o6.op = .load T (.tmp 15) ∧ o6.dst = some 16) ∧
  (o7.guard = none ∧ o7.op = .call { callee := .value (.tmp 11), args := #[.tmp 12, .tmp 16], argTypes := tys } ∧ o7.dst = some 17) ∧ (o8.guard = none ∧ o8.op = .unOp .not t (.tmp 17) ∧ o8.dst = some 18)
def bwCode (ops0 ops1 ops2 ops3 : Array Oper) (r0 r1 r2 r3 b0 b1 : Nat) : Code :=
 .seq (.region r0 ops0 false) (.block b0 (.loop (.seq (.seq (.region r1 ops1 false) (.cond (.tmp 8) .skip (.exit b0))) (.seq (.block b1 (.seq (.region r3 ops3 false) (.cond (.tmp 18) .ret .skip))) (.region r2 ops2 false)))))
def bwFr (y cp : AV) (i : AV) : List AV := [y, cp, .undef, i, .undef, .undef, .undef, .undef, .undef, .undef, .undef, .undef, .undef, .undef, .undef, .undef, .undef, .undef, .undef]
structure BwT (P : Program) (S T : TypeId) (sl : AV) (n : Nat) (rv : Nat → AV) : Prop where
 load : ∀ H, loadA P S (.cptr [sl]) H = some sl
 len : lenTA (kindK P S) sl = some (.lit (.int .i64 (n : Nat)))
 idx : ∀ i : Int, 0 ≤ i → i < n → ∃ cells, idxAddrA (kindK P S) sl (.lit (.int .i64 i)) = some (.cptr cells) ∧ ∀ H, loadA P T (.cptr cells) H = some (rv i.toNat)
 cl : AV.closedL [sl] = true
end Go.AL
namespace Go.AL
open Go
section bw
variable {P : Program} {pf : FuncId → Bool} {S T : TypeId} {sl : AV} {n : Nat} {rv : Nat → AV} {ops0 ops1 ops2 ops3 : Array Oper}
theorem relList_mask {E : Env} : ∀ {as bs : List AV} {vs : List Value}, rLs E as vs → as.length = bs.length → (∀ (i : Nat) (b : AV), bs[i]? = some b → b = .undef ∨ as[i]? = some b) → rLs E bs vs
 | [], [], [], _, _, _ => by simp [rLs]
 | [], [], _ :: _, h, _, _ => by simp [rLs] at h
 | _ :: _, [], _, _, h, _ => by simp at h
 | [], _ :: _, _, _, h, _ => by simp at h
 | _ :: _, _ :: _, [], h, _, _ => by simp [rLs] at h
 | a :: as, b :: bs, v :: vs, h, hl, hm => by
  simp only [rLs] at h ⊢
  refine ⟨?_, relList_mask h.2 (by simpa using hl) fun i b' hb => hm (i + 1) b' (by simpa using hb)⟩
  rcases hm 0 b rfl with rfl | e
  ·simp [rel]
  ·have e : a = b := by simpa using e
   rw [← e]
   exact h.1
def Env.clr (E : Env) : Env := { E with X := ⟨E.X.x, fun _ => False⟩ }
theorem clr_chg {E : Env} (h : HRel E.clr) : Chg E.clr E := ⟨rfl, rfl, Nat.le_refl _, fun b _ hx => ⟨hx, rfl⟩, h.X⟩
theorem marks_nil {w : World} {X : XS} {l : List Deferred} (h : marksOk w X l) (hz : ∀ b, ¬ X.z b) : l = [] := by
 cases l with
 | nil => rfl
 | cons d l =>
  obtain ⟨D, _, _, _, h3⟩ := h.2 d List.mem_cons_self
  exact (hz D h3).elim
theorem bw_region {J : Env → Prop} (hJs : ∀ E E', J E → E.le E' → HRel E' → E'.H = E.H → J E') {id : Nat} {ops : Array Oper} {fr fr' : List AV} {E : Env} {a : Act} {Q : Exit → Act → World → Prop} (hs : SRel ⟨fr, E.H⟩ E.clr a) (hj : J E)
  (h : aOps P pf ops ops.toList ⟨fr, E.H⟩ ⟨fr', E.H⟩) (hQ : ∀ a' E', J E' → SRel ⟨fr', E'.H⟩ E'.clr a' → Q .normal a' E'.w) : (Code.region id ops false).wpIn (fz none) 0 P Q a E.w :=
 region_text hs h (fun a' w' hc => by
  obtain ⟨loc', h1, h2⟩ := hc
  exact hQ a' { w := w', H := E.H, loc := loc', X := E.X } (hJs _ _ hj ⟨h2.past, h2.size, h2.same, h2.own, h2.live, rfl, h2.env⟩ (h1.heap.chg (clr_chg (E := { w := w', H := E.H, loc := loc', X := E.X }) h1.heap)) rfl) h1) none
theorem bw_regionP {J : Env → Prop} (hJs : ∀ E E', J E → E.le E' → HRel E' → E'.H = E.H → J E') {ops : Array Oper} {l : List Oper} {k : Nat} {rest : List Nat} {fr fr' : List AV} {E : Env} {a : Act} {Q : Exit → Act → World → Prop}
  (hl : ∀ (j : Nat) (o : Oper), l[j]? = some o → ops[k + j]? = some o) (hs : SRel ⟨fr, E.H⟩ E.clr a) (hj : J E)
  (h : aOps P pf ops l ⟨fr, E.H⟩ ⟨fr', E.H⟩) (hQ : ∀ a' E', J E' → SRel ⟨fr', E'.H⟩ E'.clr a' → wpOpsIn (fz none) 0 P ops Q rest a' E'.w) : wpOpsIn (fz none) 0 P ops Q (List.range' k l.length ++ rest) a E.w :=
 wpOps_pre none l k _ _ E.clr a rest hl h hs (fun a' w' hc => by
  obtain ⟨loc', h1, h2⟩ := hc
  exact hQ a' { w := w', H := E.H, loc := loc', X := E.X } (hJs _ _ hj ⟨h2.past, h2.size, h2.same, h2.own, h2.live, rfl, h2.env⟩ (h1.heap.chg (clr_chg (E := { w := w', H := E.H, loc := loc', X := E.X }) h1.heap)) rfl) h1)
theorem relList_env {E E' : Env} : ∀ {fr : List AV} {vs : List Value}, rLs E fr vs → (∀ b ∈ fr, b = .undef ∨ (∃ v, b = .lit v) ∨ ∀ c, rel E b c → rel E' b c) → rLs E' fr vs
 | [], [], _, _ => by simp [rLs]
 | [], _ :: _, h, _ => by simp [rLs] at h
 | _ :: _, [], h, _ => by simp [rLs] at h
 | b :: fr, v :: vs, h, hb => by
  simp only [rLs] at h ⊢
  refine ⟨?_, relList_env h.2 fun x hx => hb x (List.mem_cons_of_mem _ hx)⟩
  rcases hb b List.mem_cons_self with rfl | ⟨u, rfl⟩ | h'
  ·simp [rel]
  ·simpa only [rel] using h.1
  ·exact h' _ h.1
theorem aOps_cons {ops : Array Oper} {o : Oper} {l : List Oper} {fr : List AV} {H : List AObj} {s' : St} {v : AV} {d : Tmp} (h : Yields P pf ops o ⟨fr, H⟩ v H) (hd : o.dst = some d) (h' : aOps P pf ops l ⟨fr.set d v, H⟩ s') : aOps P pf ops (o :: l) ⟨fr, H⟩ s' :=
 ⟨v, H, h, by
  simp only [St.put, putFr, hd]
  exact h'⟩
theorem aOps_nil {ops : Array Oper} {s : St} : aOps P pf ops [] s s := rfl
theorem bin_sub {t : TypeId} {k : Bool} {a b : Int} (h : inI (a - b) = true) : binA P .sub t k (.lit (.int .i64 a)) (.lit (.int .i64 b)) = some (.lit (.int .i64 (a - b))) := by
 simp only [binA, litBin, if_true, intBin]
 rw [wrap_in h]
theorem bin_geq {t : TypeId} {k : Bool} {a b : Int} : binA P .geq t k (.lit (.int .i64 a)) (.lit (.int .i64 b)) = some (.lit (.bool (decide (a ≥ b)))) := by
 simp only [binA, litBin, if_true, intBin]
theorem opsPos {ops : Array Oper} {l : List Oper} (h : ops.toList = l) (i : Nat) : ops[i]? = l[i]? := by rw [← h]; simp
theorem bw_calls (hT : BwT P S T sl n rv) {f : FuncId} {fn : Func} {r0 r1 r2 r3 b0 b1 : Nat} (hf : P.funcs[f]? = some fn) (hb : fn.body = some (bwCode ops0 ops1 ops2 ops3 r0 r1 r2 r3 b0 b1)) (hn : fn.ntmps = 19) (hr : fn.results = #[]) (ho : BwOps S T ops0 ops1 ops2 ops3)
  {l : Nat} (hlen : n ≤ 1048576) (J : Nat → Env → Prop) (hJ : ∀ k E, J k E → HRel E) (hJs : ∀ k E E', J k E → E.le E' → HRel E' → E'.H = E.H → J k E')
  {c : Value}
  (hround : ∀ k E (cs : Array Value), k < n → J k E → rLs E [.lit (.int .i64 ((n : Int) - 1 - k)), rv (n - 1 - k)] cs.toList → YieldAt (fz none) 0 P l cs E.w fun e W' => e = .returned (.bool true) ∧ ∃ E', E'.w = W' ∧ J (k + 1) E' ∧ E.leC E')
  {E0 : Env} (h0 : J 0 E0) (hcp : rel E0 (.cptr [sl]) c) : CallsIn (fz none) 0 P f #[.func (.yield l) #[] #[], c] E0.w fun e W' => (∃ v, e = .returned v) ∧ ∃ E', E'.w = W' ∧ J n E' := by
 obtain ⟨o1, o2, o3, o4, t1, t2, q0, ⟨g1, p1, d1⟩, ⟨g2, p2, d2⟩, ⟨g3, p3, d3⟩, ⟨g4, p4, d4⟩⟩ := ho.r0
 refine callsIn_of_wp_marks hf hb trivial ?_
 have hin : ∀ j : Int, 0 ≤ j → j ≤ n → inI (j - 1) = true := fun j h1 h2 => inI_iff.2 ⟨by omega, by omega⟩
 obtain ⟨y, hy⟩ : ∃ y : AV, y = .lit (.func (.yield l) #[] #[]) := ⟨_, rfl⟩
 obtain ⟨cp, hcpe⟩ : ∃ cp : AV, cp = .cptr [sl] := ⟨_, rfl⟩
 rw [← hcpe] at hcp
 have hs0 : SRel ⟨y :: cp :: List.replicate 17 .undef, E0.H⟩ E0.clr { tmps := #[.func (.yield l) #[] #[], c] ++ Array.replicate (fn.ntmps - 2) undef, defers := [] } := by
  have hE0 : HRel E0.clr := (hJ 0 E0 h0).chg (fresh_env (hJ 0 E0 h0))
  refine ⟨rfl, ?_, marksOk_nil _ _, hE0⟩
  rw [hn]
  simp only [Array.toList_append, Array.toList_replicate]
  show rLs E0.clr ([y, cp] ++ List.replicate 17 .undef) ([.func (.yield l) #[] #[], c] ++ List.replicate 17 undef)
  refine relList_append (by simp only [rLs]; exact ⟨by rw [hy]; simp [rel], rel_chg (fresh_env (hJ 0 E0 h0)) _ hcp, trivial⟩) ?_
  exact relList_undef (List.replicate 17 undef)
 refine wpIn_seq (bw_region (pf := fun _ => false) (J := J 0) (hJs 0) hs0 h0 (fr' := [y, cp, .undef, .lit (.int .i64 ((n : Int) - 1)), sl, .lit (.int .i64 (n : Int)), .lit (.int .i64 ((n : Int) - 1)), .undef, .undef, .undef, .undef, .undef, .undef, .undef, .undef, .undef, .undef, .undef, .undef]) ?_ fun a1 E1 hj1 hs1 => ?_)
 ·rw [q0]
  refine aOps_cons (v := sl) (yields_readO g1 (by rw [p1]; rfl) ?_) d1 (aOps_cons (v := .lit (.int .i64 (n : Int))) (yields_pureO g2 ?_ ?_) d2 (aOps_cons (v := .lit (.int .i64 ((n : Int) - 1))) (yields_pureO g3 (by rw [p3]; rfl) ?_) d3
   (aOps_cons (v := .lit (.int .i64 ((n : Int) - 1))) (yields_pureO g4 (by rw [p4]; rfl) ?_) d4 ?_)))
  ·rw [p1]
   show loadA P S cp E0.H = _
   rw [hcpe]
   exact hT.load _
  ·rw [p2]
   rfl
  ·rw [p2]
   show lenTA (kindK P S) sl = _
   exact hT.len
  ·rw [p3]
   exact bin_sub (P := P) (t := t1) (k := isConstB (Operand.tmp 5) || isConstB (Operand.const (.int .i64 1))) (hin (n : Int) (by omega) (by omega))
  ·rw [p4]
   rfl
  ·exact aOps_nil
 -- the rounds
 have hmask : ∀ {E : Env} {a : Act} {fr : List AV} {i : AV}, SRel ⟨fr, E.H⟩ E.clr a → fr.length = 19 → fr[0]? = some y → fr[1]? = some cp → fr[3]? = some i → SRel ⟨bwFr y cp i, E.H⟩ E.clr a := by
  intro E a fr i h h19 e0 e1 e3
  refine ⟨rfl, relList_mask h.fr (by rw [h19]; rfl) fun j b hb => ?_, h.defers, h.heap⟩
  match j, hb with
  | 0, hb => exact .inr (by rw [e0]; exact hb)
  | 1, hb => exact .inr (by rw [e1]; exact hb)
  | 3, hb => exact .inr (by rw [e3]; exact hb)
  | 2, hb => exact .inl (by cases hb; rfl)
  | j + 4, hb =>
   left
   have hx : bwFr y cp i = [y, cp, .undef, i] ++ List.replicate 15 .undef := rfl
   rw [hx, List.getElem?_append_right (by simp)] at hb
   have := List.mem_of_getElem? hb
   exact (List.mem_replicate.1 this).2
 refine wpIn_block (wpIn_loop (fun a w => ∃ k E, E.w = w ∧ k ≤ n ∧ J k E ∧ SRel ⟨bwFr y cp (.lit (.int .i64 ((n : Int) - 1 - k))), E.H⟩ E.clr a)
  (fun a _ => match a.eval (.tmp 3) with | .int _ i => (i + 1).toNat | _ => 0) ⟨0, E1, rfl, Nat.zero_le _, hj1, hmask hs1 rfl rfl rfl (by simp)⟩ ?_)
 rintro a _ ⟨k, E, rfl, hkl, hj, hs⟩
 obtain ⟨i1, i2, t3, t4, qq1, ⟨ga1, pa1, da1⟩, ⟨ga2, pa2, da2⟩⟩ := ho.r1
 obtain ⟨j1, j2, j3, t5, t6, qq2, ⟨gb1, pb1, db1⟩, ⟨gb2, pb2, db2⟩, ⟨gb3, pb3, db3⟩⟩ := ho.r2
 obtain ⟨u1, u2, u3, u4, u5, u6, u7, u8, t7, tys, qq3, ⟨gc1, pc1, dc1⟩, ⟨gc2, pc2, dc2⟩, ⟨gc3, pc3, dc3⟩, ⟨gc4, pc4, dc4⟩, ⟨gc5, pc5, dc5⟩, ⟨gc6, pc6, dc6⟩, ⟨gc7, pc7, dc7⟩, ⟨gc8, pc8, dc8⟩⟩ := ho.r3
 obtain ⟨i, hi⟩ : ∃ i : Int, i = (n : Int) - 1 - k := ⟨_, rfl⟩
 rw [← hi] at hs
 have hmu : a.eval (.tmp 3) = .int .i64 i := by
  have := hs.eval (.tmp 3)
  simpa [St.eval, bwFr, rel] using this
 refine wpIn_seq (wpIn_seq (bw_region (pf := fun _ => false) (J := J k) (hJs k) hs hj (fr' := ((bwFr y cp (.lit (.int .i64 i))).set 7 (.lit (.int .i64 i))).set 8 (.lit (.bool (decide (i ≥ 0))))) ?_ fun a2 E2 hj2 hs2 => ?_))
 ·rw [qq1]
  refine aOps_cons (v := .lit (.int .i64 i)) (yields_pureO ga1 (by rw [pa1]; rfl) (by rw [pa1]; rfl)) da1 (aOps_cons (v := .lit (.bool (decide (i ≥ 0)))) (yields_pureO ga2 (by rw [pa2]; rfl) ?_) da2 aOps_nil)
  rw [pa2]
  exact bin_geq (P := P) (t := t3) (k := isConstB (Operand.tmp 7) || isConstB (Operand.const (.int .i64 0)))
 have h8 : a2.eval (.tmp 8) = .bool (decide (i ≥ 0)) := by
  have := hs2.eval (.tmp 8)
  simpa [St.eval, bwFr, rel] using this
 by_cases hi0 : i ≥ 0
 ·have hkl' : k < n := by omega
  refine wpIn_cond_true (by rw [h8]; simp [hi0]) (wpIn_skip ?_)
  have hs2' := hmask hs2 rfl rfl rfl rfl
  show (Code.seq _ _).wpIn (fz none) 0 P _ _ _
  refine wpIn_seq (wpIn_block (wpIn_seq (wpIn_region ?_)))
  obtain ⟨cells, hcells, hcell2⟩ := hT.idx i hi0 (by omega)
  have hsz : ops3.size = 8 := by
   have : ops3.toList.length = 8 := by rw [qq3]; rfl
   simpa using this
  rw [hsz]
  show wpOpsIn (fz none) 0 P ops3 _ (List.range' 0 6 ++ [6, 7]) a2 E2.w
  have hpos : ∀ (j : Nat) (o : Oper), [u1, u2, u3, u4, u5, u6][j]? = some o → ops3[0 + j]? = some o := by
   intro j o hjo
   rw [opsPos qq3]
   have hlt : j < 6 := by simpa using lt_of_getElem? hjo
   rw [Nat.zero_add, show [u1, u2, u3, u4, u5, u6, u7, u8] = [u1, u2, u3, u4, u5, u6] ++ [u7, u8] from rfl, List.getElem?_append_left (by simpa using hlt)]
   exact hjo
  refine bw_regionP (pf := fun _ => false) (J := J k) (l := [u1, u2, u3, u4, u5, u6]) (k := 0) (hJs k) hpos hs2' hj2
   (fr' := [y, cp, .undef, .lit (.int .i64 i), .undef, .undef, .undef, .undef, .undef, .undef, .undef, y, .lit (.int .i64 i), sl, .lit (.int .i64 i), .cptr (cells), rv i.toNat, .undef, .undef]) ?_ fun a3 E3 hj3 hs3 => ?_
  ·refine aOps_cons (v := y) (yields_pureO gc1 (by rw [pc1]; rfl) (by rw [pc1]; rfl)) dc1 (aOps_cons (v := .lit (.int .i64 i)) (yields_pureO gc2 (by rw [pc2]; rfl) (by rw [pc2]; rfl)) dc2 (aOps_cons (v := sl) (yields_readO gc3 (by rw [pc3]; rfl) ?_) dc3
    (aOps_cons (v := .lit (.int .i64 i)) (yields_pureO gc4 (by rw [pc4]; rfl) (by rw [pc4]; rfl)) dc4 (aOps_cons (v := .cptr (cells)) (yields_pureO gc5 (by rw [pc5]; rfl) ?_) dc5 (aOps_cons (v := rv i.toNat) (yields_readO gc6 (by rw [pc6]; rfl) ?_) dc6 aOps_nil)))))
   ·rw [pc3]
    show loadA P S cp E2.H = _
    rw [hcpe]
    exact hT.load _
   ·rw [pc5]
    exact hcells
   ·rw [pc6]
    exact hcell2 E2.H
  ·have h11 : a3.eval (.tmp 11) = .func (.yield l) #[] #[] := by
    have := hs3.eval (.tmp 11)
    rw [show St.eval _ (.tmp 11) = y from rfl, hy] at this
    simpa only [rel] using this
   have hin2 : i.toNat = n - 1 - k := by omega
   have hE3 : Chg E3.clr E3 := clr_chg hs3.heap
   have hrel : rLs E3 [.lit (.int .i64 ((n : Int) - 1 - k)), rv (n - 1 - k)] (#[a3.eval (.tmp 12), a3.eval (.tmp 16)] : Array Value).toList := by
    rw [← hi, ← hin2]
    simp only [rLs]
    exact ⟨rel_chg hE3 _ (hs3.eval (.tmp 12)), rel_chg hE3 _ (hs3.eval (.tmp 16)), trivial⟩
   obtain ⟨fn', tmps', asg, bod, hy1, hR⟩ := hround k E3 _ hkl' hj3 hrel
   rw [wpOpsIn_cons]
   unfold wpOpIn
   have h6 : ops3[6]? = some u7 := by rw [opsPos qq3]; rfl
   simp only [h6]
   rw [if_pos (by simp [Region.wanted, gc7])]
   refine ⟨fun _ _ => trivial, ?_⟩
   rw [Oper.semAt_eq _ _ _ (fun c e => by rw [pc7] at e; cases e)]
   have hrun : (execOp a3.eval u7).run P E3.w = .ok (.round l fn' tmps' asg bod) E3.w := by
    obtain ⟨dst, op, type, pos, after, guard⟩ := u7
    simp only [] at pc7
    subst pc7
    simp [execOp, resolve, h11, Deferred.ofValue, invoke, hy1]
   rw [hrun, Oper.uponIn_round]
   refine ⟨fun h => (by cases h), hR.mono ?_⟩
   rintro e _ ⟨rfl, E', rfl, hj', hleC⟩
   show wpOpsIn (fz none) 0 P ops3 _ (List.range' 7 1 ++ []) _ E'.w
   rw [dc7]
   have hd3 : a3.defers = [] := marks_nil hs3.defers fun _ h => h
   have hp := (hmask hs3 rfl rfl rfl rfl).putT 17 (v := .lit (.bool true)) (u := .bool true) (by simp [rel])
   have hE' : HRel E'.clr := (hJ (k + 1) E' hj').chg (fresh_env (hJ (k + 1) E' hj'))
   have hs4 : SRel ⟨(bwFr y cp (.lit (.int .i64 i))).set 17 (.lit (.bool true)), E'.H⟩ E'.clr (a3.put (some 17) (.bool true)) := by
    refine ⟨rfl, relList_env hp.fr fun b hb => ?_, ?_, hE'⟩
    ·have hb : b ∈ (bwFr y cp (.lit (.int .i64 i))).set 17 (.lit (.bool true)) := hb
     rcases List.mem_or_eq_of_mem_set hb with hb | rfl
     ·simp only [bwFr, List.mem_cons, List.not_mem_nil, or_false] at hb
      rcases hb with rfl | rfl | rfl | rfl | hb
      ·exact .inr (.inl ⟨_, hy⟩)
      ·refine .inr (.inr fun c' h => ?_)
       rw [hcpe] at h ⊢
       exact rel_closed (E := E3.clr) (E' := E'.clr) ⟨fun b hb => hleC.ok b hb⟩ _ (by simp [AV.closed]) h
      ·exact .inl rfl
      ·exact .inr (.inl ⟨_, rfl⟩)
      ·left
       rcases hb with rfl | rfl | rfl | rfl | rfl | rfl | rfl | rfl | rfl | rfl | rfl | rfl | rfl | rfl | rfl <;> rfl
     ·exact .inr (.inl ⟨_, rfl⟩)
    ·rw [put_defers, hd3]
     exact marksOk_nil _ _
   refine bw_regionP (pf := fun _ => false) (J := J (k + 1)) (l := [u8]) (k := 7) (hJs (k + 1)) ?_ hs4 hj' (fr' := ((bwFr y cp (.lit (.int .i64 i))).set 17 (.lit (.bool true))).set 18 (.lit (.bool false))) ?_ fun a5 E5 hj5 hs5 => ?_
   ·intro j o hjo
    have hlt : j < 1 := by simpa using lt_of_getElem? hjo
    have : j = 0 := by omega
    subst this
    rw [opsPos qq3]
    exact hjo
   ·exact aOps_cons (v := .lit (.bool false)) (yields_pureO gc8 (by rw [pc8]; rfl) (by rw [pc8]; rfl)) dc8 aOps_nil
   ·show (Code.cond _ _ _).wpIn (fz none) 0 P _ _ _
    have h18 : a5.eval (.tmp 18) = .bool false := by
     have := hs5.eval (.tmp 18)
     simpa [St.eval, bwFr, rel] using this
    refine wpIn_cond_false h18 (wpIn_skip ?_)
    show (Code.region _ _ _).wpIn (fz none) 0 P _ _ _
    refine bw_region (pf := fun _ => false) (J := J (k + 1)) (hJs (k + 1)) (hmask hs5 rfl rfl rfl rfl) hj5 (fr' := (((bwFr y cp (.lit (.int .i64 i))).set 9 (.lit (.int .i64 i))).set 10 (.lit (.int .i64 (i - 1)))).set 3 (.lit (.int .i64 (i - 1)))) ?_ fun a6 E6 hj6 hs6 => ?_
    ·rw [qq2]
     refine aOps_cons (v := .lit (.int .i64 i)) (yields_pureO gb1 (by rw [pb1]; rfl) (by rw [pb1]; rfl)) db1 (aOps_cons (v := .lit (.int .i64 (i - 1))) (yields_pureO gb2 (by rw [pb2]; rfl) ?_) db2 (aOps_cons (v := .lit (.int .i64 (i - 1))) (yields_pureO gb3 (by rw [pb3]; rfl) (by rw [pb3]; rfl)) db3 aOps_nil))
     rw [pb2]
     exact bin_sub (P := P) (t := t5) (k := isConstB (Operand.tmp 9) || isConstB (Operand.const (.int .i64 1))) (hin i hi0 (by omega))
    ·have h3 : a6.eval (.tmp 3) = .int .i64 (i - 1) := by
      have := hs6.eval (.tmp 3)
      simpa [St.eval, bwFr, rel] using this
     have e6 : i - 1 = (n : Int) - 1 - ((k + 1 : Nat) : Int) := by omega
     refine ⟨⟨k + 1, E6, rfl, by omega, hj6, ?_⟩, ?_⟩
     ·rw [← e6]
      exact hmask hs6 rfl rfl rfl rfl
     ·rw [h3, hmu]
      show (i - 1 + 1).toNat < (i + 1).toNat
      omega
 ·refine wpIn_cond_false (by rw [h8]; simp [hi0]) (wpIn_exit ?_)
  simp only [Exit.then, Exit.inBlock, if_true]
  have hd : a2.defers = [] := marks_nil hs2.defers fun _ h => h
  have hk : k = n := by omega
  subst hk
  show LeavesInM (fz none) 0 P fn a2.tmps _ a2.defers .returning E2.w
  rw [hd]
  refine ⟨.tuple #[], ?_, ⟨_, rfl⟩, E2, rfl, hj2⟩
  rw [results_eq, hr]
  simp
end bw
end Go.AL

namespace Go.AL
open Go
mutual
def fixedA (m : Nat) : AV → Bool
 | .agg cs => fixedL m cs
 | .tuple cs => fixedL m cs
 | .clo _ cs => fixedL m cs
 | .ptr id ver _ _ _ => Nat.blt id m && Nat.beq ver 0
 | .vec _ id ver _ _ => Nat.blt id m && Nat.beq ver 0
 | .map id => Nat.blt id m
 | _ => true
def fixedL (m : Nat) : List AV → Bool
 | [] => true
 | a :: as => fixedA m a && fixedL m as
end
mutual
theorem rel_fixed {E E' : Env} {m : Nat} (h : E.leM m E') : ∀ (a : AV) {c : Value}, fixedA m a = true → rel E a c → rel E' a c
 | .undef, _, _, _ => by simp [rel]
 | .lit v, c, _, hr => by simpa only [rel] using hr
 | .nils, c, _, hr => by simpa only [rel] using hr
 | .list k rows, c, _, hr => rel_closed (leM_C h) _ (by simp [AV.closed]) hr
 | .listF ks rows, c, _, hr => rel_closed (leM_C h) _ (by simp [AV.closed]) hr
 | .agg cells, c, hf, hr => by
  simp only [rel] at hr ⊢
  obtain ⟨cs, e, h1, h2⟩ := hr
  exact ⟨cs, e, h1, relList_fixed h cells (by simpa only [fixedA] using hf) h2⟩
 | .tuple cells, c, hf, hr => by
  simp only [rel] at hr ⊢
  obtain ⟨cs, e, h2⟩ := hr
  exact ⟨cs, e, relList_fixed h cells (by simpa only [fixedA] using hf) h2⟩
 | .cptr cells, c, _, hr => rel_closed (leM_C h) _ (by simp [AV.closed]) hr
 | .ptr id ver k row col, c, hf, hr => by
  simp only [fixedA, Bool.and_eq_true, Nat.blt_eq] at hf
  obtain ⟨h1, h2⟩ := hf
  have h2 := Nat.eq_of_beq_eq_true h2
  subst h2
  simp only [rel] at hr ⊢
  obtain ⟨g1, g2, g3⟩ := hr
  refine ⟨g1, h.past id h1 g2, fun hl => ?_⟩
  obtain ⟨k1, k2⟩ := h.live id h1 g2 hl
  rw [k2]
  exact g3 k1
 | .vec k id ver off n, c, hf, hr => by
  simp only [fixedA, Bool.and_eq_true, Nat.blt_eq] at hf
  obtain ⟨h1, h2⟩ := hf
  have h2 := Nat.eq_of_beq_eq_true h2
  subst h2
  simp only [rel] at hr ⊢
  obtain ⟨g1, g2, g3⟩ := hr
  refine ⟨g1, h.past id h1 g2, fun hl => ?_⟩
  obtain ⟨k1, k2⟩ := h.live id h1 g2 hl
  rw [k2]
  exact g3 k1
 | .map id, c, hf, hr => by
  simp only [fixedA, Nat.blt_eq] at hf
  simp only [rel] at hr ⊢
  obtain ⟨g1, g2, g3⟩ := hr
  refine ⟨g1, h.past id hf g2, fun hl => ?_⟩
  obtain ⟨k1, k2⟩ := h.live id hf g2 hl
  rw [k2]
  exact g3 k1
 | .clo f caps, c, hf, hr => by
  simp only [rel] at hr ⊢
  obtain ⟨cs, e, h2⟩ := hr
  exact ⟨cs, e, relList_fixed h caps (by simpa only [fixedA] using hf) h2⟩
 | .ifc, c, _, hr => by simpa only [rel] using hr
 | .emptyS n, c, _, hr => by simpa only [rel] using hr
theorem relList_fixed {E E' : Env} {m : Nat} (h : E.leM m E') : ∀ (as : List AV) {vs : List Value}, fixedL m as = true → rLs E as vs → rLs E' as vs
 | [], [], _, _ => by simp [rLs]
 | [], _ :: _, _, hr => by simp [rLs] at hr
 | _ :: _, [], _, hr => by simp [rLs] at hr
 | a :: as, v :: vs, hf, hr => by
  simp only [fixedL, Bool.and_eq_true] at hf
  simp only [rLs] at hr ⊢
  exact ⟨rel_fixed h a hf.1 hr.1, relList_fixed h as hf.2 hr.2⟩
end
theorem Env.leM.mono {m m' : Nat} {E E' : Env} (h : E.leM m' E') (hm : m ≤ m') : E.leM m E' :=
 ⟨fun id hi => h.past id (by omega), h.size, h.same, h.own, fun id hi => h.live id (by omega), h.X, h.env⟩
structure Env.leX (m l : Nat) (E E' : Env) : Prop where
 past : ∀ id, id < m → E.past id 0 → E'.past id 0
 size : E.w.heap.size ≤ E'.w.heap.size
 same : ∀ b, b < E.w.heap.size → ¬ E.own b → b ≠ l → E'.w.heap[b]? = E.w.heap[b]?
 own : ∀ b, b < E.w.heap.size → ¬ E.own b → ¬ E'.own b
 live : ∀ id, id < m → E.past id 0 → E'.live id 0 → E.live id 0 ∧ E'.loc[id]? = E.loc[id]?
 X : ∀ b, b < E.w.heap.size → (E'.X b ↔ E.X b) ∧ (E'.X.z b ↔ E.X.z b)
 env : SameOs E.w E'.w
theorem Env.leM.toX {m l : Nat} {E E' : Env} (h : E.leM m E') : E.leX m l E' := ⟨h.past, h.size, fun b hb ho _ => h.same b hb ho, h.own, h.live, h.X, h.env⟩
theorem Env.leX.trans {m l : Nat} {E E' E'' : Env} (h : E.leX m l E') (h' : E'.leX m l E'') : E.leX m l E'' where
 past := fun id hi hp => h'.past id hi (h.past id hi hp)
 size := Nat.le_trans h.size h'.size
 same := fun b hb ho hl => by rw [h'.same b (Nat.lt_of_lt_of_le hb h.size) (h.own b hb ho) hl, h.same b hb ho hl]
 own := fun b hb ho => h'.own b (Nat.lt_of_lt_of_le hb h.size) (h.own b hb ho)
 live := fun id hi hid hl => by
  obtain ⟨a1, a2⟩ := h'.live id hi (h.past id hi hid) hl
  obtain ⟨b1, b2⟩ := h.live id hi hid a1
  exact ⟨b1, by rw [a2, b2]⟩
 X := fun b hb => by
  have h1 := h'.X b (Nat.lt_of_lt_of_le hb h.size)
  have h2 := h.X b hb
  exact ⟨h1.1.trans h2.1, h1.2.trans h2.2⟩
 env := h.env.trans h'.env
theorem Env.leX.toM {m l : Nat} {E E' : Env} (h : E.leX m l E') (hl : l < E.w.heap.size → E'.w.heap[l]? = E.w.heap[l]?) : E.leM m E' :=
 ⟨h.past, h.size, fun b hb ho => by
  by_cases e : b = l
  ·subst e
   exact hl hb
  ·exact h.same b hb ho e, h.own, h.live, h.X, h.env⟩
theorem put_chg {w : World} {H : List AObj} {loc : List (Option (Nat × Nat))} {X : XS} {l : Nat} {o : Obj} (hX : X l) (HE : HRel { w := w, H := H, loc := loc, X := X }) :
  Chg { w := w, H := H, loc := loc, X := X } { w := w.putObj l o, H := H, loc := loc, X := X } :=
 ⟨rfl, rfl, by simp, fun b _ hx => ⟨hx, World.putObj_heap_other fun e => hx (by rw [e]; exact hX)⟩, fun b hb => by
  have := HE.X b hb
  simpa using this⟩
theorem put_leX {m : Nat} {w : World} {H : List AObj} {loc : List (Option (Nat × Nat))} {X : XS} {l : Nat} {o : Obj} : ({ w := w, H := H, loc := loc, X := X } : Env).leX m l { w := w.putObj l o, H := H, loc := loc, X := X } :=
 ⟨fun _ _ h => h, by simp, fun b _ _ h => World.putObj_heap_other h, fun _ _ h => h, fun _ _ _ h => ⟨h, rfl⟩, fun _ _ => ⟨Iff.rfl, Iff.rfl⟩, ⟨rfl, rfl, rfl, by first | exact fun _ => Nat.le_refl _ | exact fun _ => Nat.le_add_right _ _⟩⟩
theorem put_marks {w : World} {X : XS} {l : Nat} {r : Loop} {o : Obj} {ds : List Deferred} (h : marksOk w X ds) (hl : w.heap[l]? = some (.loop r)) : marksOk (w.putObj l o) X ds :=
 ⟨h.1, fun d hd => by
  obtain ⟨D, e, h1, h2, h3⟩ := h.2 d hd
  exact ⟨D, e, by rw [World.putObj_heap_other (fun e => by rw [e, hl] at h1; cases h1)]; exact h1, h2, h3⟩⟩
end Go.AL

namespace Go.AL
open Go
structure BwR (P : Program) (m : Nat) (n : Nat) (rv : Nat → AV) (p0 p1 : Tmp) (assign body : Code) (S : Nat → St) : Prop where
 na : noRF assign = true
 nb : noRF body = true
 fix : ∀ k, k < n → fixedL m (S k).fr = true
 round : ∀ k, k < n → ∃ s1 s2, ASat P m assign ⟨((S k).fr.set p0 (.lit (.int .i64 ((n : Int) - 1 - k)))).set p1 (rv (n - 1 - k)), (S k).H⟩ .normal s1 ∧ ASat P m body s1 .normal s2 ∧ SLe m ⟨(S k).fr, s2.H⟩ (S (k + 1))
section bw
variable {P : Program} {m' : Nat} {n : Nat} {rv : Nat → AV} {p0 p1 : Tmp} {assign body : Code} {S : Nat → St}
theorem bw_round (hr : BwR P m' n rv p0 p1 assign body S) {k : Nat} (hk : k < n) {fn : FuncId} {D l : Nat} {a : Act} {tmps : Array Value} (htm : tmps = a.tmps) {E : Env} (hs : SRel (S k) E a) (hX : E.X l)
  (hl : E.w.heap[l]? = some (.loop { state := .ready, pending := none, fn, tmps, params := #[p0, p1], assign, body, defers := D })) {cs : Array Value} (hc : rLs E [.lit (.int .i64 ((n : Int) - 1 - k)), rv (n - 1 - k)] cs.toList) :
  YieldAt (fz none) 0 P l cs E.w fun e W' => e = .returned (.bool true) ∧ ∃ E', E'.w = W' ∧ SRel (S (k + 1)) E' a ∧ E.leM m' E' ∧ E'.X l ∧
   E'.w.heap[l]? = some (.loop { state := .ready, pending := none, fn, tmps, params := #[p0, p1], assign, body, defers := D }) := by
 obtain ⟨s1, s2, hA, hB, hle⟩ := hr.round k hk
 obtain ⟨c0, c1, rfl⟩ : ∃ c0 c1, cs = #[c0, c1] := by
  have := relList_length hc
  match h : cs.toList, this with
  | [c0, c1], _ => exact ⟨c0, c1, Array.ext' (by simpa using h)⟩
 simp only [rLs] at hc
 obtain ⟨hc0, hc1, _⟩ := hc
 refine ⟨_, _, _, _, run_yield hl (by simp), roundIn_of_wpIn (F := fz none) trivial ?_⟩
 have hlt : l < E.w.heap.size := (Array.getElem?_eq_some_iff.1 hl).1
 have hs0 : SRel ⟨((S k).fr.set p0 (.lit (.int .i64 ((n : Int) - 1 - k)))).set p1 (rv (n - 1 - k)), (S k).H⟩ E { tmps := (a.tmps.setIfInBounds p0 c0).setIfInBounds p1 c1, defers := [] } := by
  refine ⟨hs.H, ?_, marksOk_nil _ _, hs.heap⟩
  simp only [Array.toList_setIfInBounds]
  exact relList_set p1 (relList_set p0 hs.fr hc0) hc1
 have e0 : ((#[p0, p1] : Array Tmp).zip #[c0, c1]).foldl (fun tmps (t, a) => tmps.setIfInBounds t a) tmps = (a.tmps.setIfInBounds p0 c0).setIfInBounds p1 c1 := by
  rw [htm]
  simp [← Array.foldl_toList]
 rw [e0]
 refine wpIn_mono (hA (some l) (.inr hr.na) E _ hs0) fun e a1 w1 ⟨he, loc1, X1, hs1, hle1⟩ => ?_
 subst he
 have hno : ¬ E.own l := fun ⟨i, c, hi⟩ => (hs.heap.lt i l c hi).2 hX
 have hl1 : w1.heap[l]? = some (.loop { state := .ready, pending := none, fn, tmps, params := #[p0, p1], assign, body, defers := D }) := by rw [hle1.same l hlt hno]; exact hl
 have hX1 : X1 l := (hle1.X l hlt).1.2 hX
 have hlt1 : l < w1.heap.size := (Array.getElem?_eq_some_iff.1 hl1).1
 refine ⟨_, run_beginRound hl1 rfl, ?_⟩
 have hs1' := hs1.chg (put_chg (o := .loop { state := .busy, pending := none, fn, tmps, params := #[p0, p1], assign, body, defers := D }) hX1 hs1.heap) (put_marks hs1.defers hl1)
 refine wpIn_mono (hB (some l) (.inr hr.nb) _ a1 hs1') fun e a2 w3 ⟨he, loc2, X2, hs2, hle2⟩ => ?_
 subst he
 have hno1 : ¬ Env.own { w := w1, H := s1.H, loc := loc1, X := X1 } l := hle1.own l hlt hno
 have hl3 : w3.heap[l]? = some (.loop { state := .busy, pending := none, fn, tmps, params := #[p0, p1], assign, body, defers := D }) := by
  rw [hle2.same l (by show l < (w1.putObj _ _).heap.size; simpa using hlt1) hno1]
  exact World.putObj_heap_same hlt1
 have hX2 : X2 l := (hle2.X l (by show l < (w1.putObj _ _).heap.size; simpa using hlt1)).1.2 hX1
 have hlt3 : l < w3.heap.size := (Array.getElem?_eq_some_iff.1 hl3).1
 refine ⟨_, _, run_endRound (P := P) none hl3, rfl, ?_⟩
 -- the record is as it was
 obtain ⟨w4, hw4⟩ : ∃ w4, w3.putObj l (.loop { state := .ready, pending := none, fn, tmps, params := #[p0, p1], assign, body, defers := D }) = w4 := ⟨_, rfl⟩
 have hl4 : w4.heap[l]? = some (.loop { state := .ready, pending := none, fn, tmps, params := #[p0, p1], assign, body, defers := D }) := by
  rw [← hw4]
  exact World.putObj_heap_same hlt3
 have hM : E.leM m' { w := w4, H := s2.H, loc := loc2, X := X2 } := by
  refine Env.leX.toM (l := l) (hle1.toX.trans (put_leX.trans (hle2.toX.trans ?_))) (fun _ => by rw [show Env.w _ = w4 from rfl, hl4, hl])
  rw [← hw4]
  exact put_leX
 have hR4 : HRel { w := w4, H := s2.H, loc := loc2, X := X2 } := by
  rw [← hw4]
  exact hs2.heap.chg (put_chg hX2 hs2.heap)
 have hsr : SRel ⟨(S k).fr, s2.H⟩ { w := w4, H := s2.H, loc := loc2, X := X2 } a := by
  refine ⟨rfl, relList_fixed hM _ (hr.fix k hk) hs.fr, marksOk_same hs.defers (fun b h1 h2 => ?_) (fun b h1 _ => hM.same b (hs.heap.X b h1) fun ⟨i, c, hi⟩ => (hs.heap.lt i b c hi).2 h1), hR4⟩
  have := hM.X b (hs.heap.X b h1)
  exact ⟨this.1.2 h1, this.2.2 h2⟩
 obtain ⟨loc7, X7, hs7, hle7⟩ := hle _ a hsr
 refine ⟨{ w := w4, H := (S (k + 1)).H, loc := loc7, X := X7 }, ?_, hs7, hM.trans hle7, (hle7.X l (by show l < w4.heap.size; exact (Array.getElem?_eq_some_iff.1 hl4).1)).1.2 hX2, hl4⟩
 rw [← hw4]
 rfl
theorem bw_wp {T1 T2 : TypeId} {sl : AV} {ops0 ops1 ops2 ops3 : Array Oper} {m : Nat} (hT : BwT P T1 T2 sl n rv) {f : FuncId} {fd : Func} {r0 r1 r2 r3 b0 b1 : Nat} (hf : P.funcs[f]? = some fd) (hbd : hasBody P f = true) (hb : fd.body = some (bwCode ops0 ops1 ops2 ops3 r0 r1 r2 r3 b0 b1)) (hn : fd.ntmps = 19) (hre : fd.results = #[]) (ho : BwOps T1 T2 ops0 ops1 ops2 ops3)
  (hlen : n ≤ 1048576) (hmm : m ≤ m') (hr : BwR P m' n rv p0 p1 assign body S) {g : Tmp} {s : St} {id wd : Nat} (hg : s.eval (.tmp g) = .clo f [.ptr id 0 wd 0 0]) (hid : s.H[id]? = some (.box [sl])) (h0 : SLe m ⟨s.fr, s.H.set id .dead⟩ (S 0))
  (E : Env) (a : Act) (hs : SRel s E a) : (Code.rangeFunc (.tmp g) #[p0, p1] assign body).wpIn (fz none) 0 P (fun e a1 w1 => e = .normal ∧ MPost m E (S n) a1 w1) a E.w := by
 -- the function value
 have hgv := hs.eval (.tmp g)
 rw [hg] at hgv
 simp only [rel] at hgv
 obtain ⟨cs, hgv, hcs⟩ := hgv
 obtain ⟨c, rfl⟩ : ∃ c, cs = #[c] := by
  have := relList_length hcs
  match h : cs.toList, this with
  | [c], _ => exact ⟨c, Array.ext' (by simpa using h)⟩
 simp only [rLs, rel] at hcs
 obtain ⟨⟨⟨bc, oc, hc0⟩, _, hlive⟩, _⟩ := hcs
 have hidE : E.H[id]? = some (.box [sl]) := by rw [hs.H]; exact hid
 obtain ⟨bb, nn, hloc, hcv⟩ := hlive ⟨_, hidE, rfl⟩
 obtain ⟨D, hD⟩ : ∃ D, E.w.heap.size = D := ⟨_, rfl⟩
 -- the captured slice is let go
 have hobj := hs.heap.obj id _ hidE
 simp only [objRel] at hobj
 obtain ⟨b', n', hloc', hrow, hcells⟩ := hobj
 rw [hloc] at hloc'
 obtain ⟨rfl, rfl⟩ : bb = b' ∧ nn = n' := by
  have h := hloc'
  simp only [Option.some.injEq, Prod.mk.injEq] at h
  exact h
 have hd := Env.le_drop hs.heap id
 have hdr := HRel.drop hs.heap id
 have hcp0 : rel { w := E.w, H := E.H.set id .dead, loc := E.loc.set id none, X := E.X } (.cptr [sl]) c := by
  simp only [rel]
  refine ⟨hT.cl, bb, 0, by simpa using hcv, ⟨(hs.heap.lt id bb nn hloc).1, ?_, (hs.heap.lt id bb nn hloc).2⟩, relCells_same (E := E) (fun a c h => rel_le hd a h) rfl hcells⟩
  rintro ⟨j, q, hj⟩
  simp only [List.getElem?_set] at hj
  split at hj
  ·split at hj <;> cases hj
  ·rename_i hne
   exact hne (hs.heap.inj _ _ _ _ _ hloc hj)
 refine wpIn_rangeFunc ?_
 intro fn _
 obtain ⟨rec, hrec⟩ : ∃ rec : Loop, rec = { state := .ready, pending := none, fn, tmps := a.tmps, params := #[p0, p1], assign, body, defers := D } := ⟨_, rfl⟩
 obtain ⟨w1, hw1⟩ : ∃ w1, (E.w.alloc (.deferred (some []))).alloc (.loop rec) = w1 := ⟨_, rfl⟩
 have hsz : w1.heap.size = D + 2 := by rw [← hw1, World.size_alloc, World.size_alloc, hD]
 have hl1 : w1.heap[D + 1]? = some (.loop rec) := by
  rw [← hw1]
  have := World.alloc_heap_new (E.w.alloc (.deferred (some []))) (.loop rec)
  rwa [World.size_alloc, hD] at this
 have hold2 : ∀ b, b < D + 1 → w1.heap[b]? = (E.w.alloc (.deferred (some []))).heap[b]? := fun b hb => by
  rw [← hw1]
  show ((E.w.alloc (.deferred (some []))).heap.push _)[b]? = _
  rw [Array.getElem?_push, if_neg (by rw [World.size_alloc, hD]; omega)]
 have hD1 : w1.heap[D]? = some (.deferred (some [])) := by
  rw [hold2 D (by omega)]
  have := World.alloc_heap_new E.w (.deferred (some []))
  rwa [hD] at this
 have hold : ∀ b, b < D → w1.heap[b]? = E.w.heap[b]? := fun b hb => by
  rw [hold2 b (by omega)]
  show (E.w.heap.push _)[b]? = _
  rw [Array.getElem?_push, if_neg (by omega)]
 have hos : SameOs E.w w1 := by rw [← hw1]; exact ⟨rfl, rfl, rfl, by first | exact fun _ => Nat.le_refl _ | exact fun _ => Nat.le_add_right _ _⟩
 obtain ⟨X2, hX2⟩ : ∃ X2 : XS, X2 = ⟨fun b => E.X b ∨ b = D ∨ b = D + 1, fun b => E.X.z b ∨ b = D⟩ := ⟨_, rfl⟩
 obtain ⟨mk, hmk⟩ : ∃ mk : Deferred, mk = { target := .collected D, args := #[] } := ⟨_, rfl⟩
 have chg : Chg { w := E.w, H := E.H.set id .dead, loc := E.loc.set id none, X := E.X } { w := w1, H := E.H.set id .dead, loc := E.loc.set id none, X := X2 } :=
  ⟨rfl, rfl, by show E.w.heap.size ≤ w1.heap.size; omega, fun b hb hx => by
   have hb : b < D := by rw [← hD]; exact hb
   refine ⟨fun h => ?_, hold b hb⟩
   rw [hX2] at h
   rcases h with h | h | h
   ·exact hx h
   ·omega
   ·omega, fun b hb => by
   show b < w1.heap.size
   rw [hX2] at hb
   rcases hb with h | h | h
   ·have := hs.heap.X b h
    omega
   ·omega
   ·omega⟩
 have hs2 : SRel ⟨s.fr, s.H.set id .dead⟩ { w := w1, H := E.H.set id .dead, loc := E.loc.set id none, X := X2 } { a with defers := mk :: a.defers } := by
  refine ⟨by rw [hs.H], relList_chg chg _ (relList_le hd _ hs.fr), ⟨?_, fun d hd => ?_⟩, hdr.chg chg⟩
  ·refine List.nodup_cons.2 ⟨fun h => ?_, hs.defers.1⟩
   obtain ⟨D', e, h1, h2, _⟩ := hs.defers.2 mk h
   have := hs.heap.X D' h2
   rw [hmk] at e
   have e : D = D' := by
    have e := congrArg Deferred.target e
    simpa using e
   omega
  ·rcases List.mem_cons.1 hd with rfl | hd
   ·exact ⟨D, hmk, hD1, by rw [hX2]; exact .inr (.inl rfl), by rw [hX2]; exact .inr rfl⟩
   ·obtain ⟨D', e, h1, h2, h3⟩ := hs.defers.2 d hd
    have := hs.heap.X D' h2
    exact ⟨D', e, by rw [show Env.w _ = w1 from rfl, hold D' (by omega)]; exact h1, by rw [hX2]; exact .inl h2, by rw [hX2]; exact .inl h3⟩
 have hle2 : E.leM m { w := w1, H := E.H.set id .dead, loc := E.loc.set id none, X := X2 } := by
  refine hd.toM.trans ⟨fun _ _ h => h, by show E.w.heap.size ≤ w1.heap.size; omega, fun b hb _ => hold b (by rw [← hD]; exact hb), fun _ _ h => h, fun _ _ _ h => ⟨h, rfl⟩, fun b hb => ?_, hos⟩
  have hb : b < D := by rw [← hD]; exact hb
  show (X2 b ↔ E.X b) ∧ (X2.z b ↔ E.X.z b)
  rw [hX2]
  exact ⟨⟨fun h => by rcases h with h | h | h; exact h; omega; omega, .inl⟩, ⟨fun h => by rcases h with h | h; exact h; omega, .inl⟩⟩
 obtain ⟨loc3, X3, hs3, hle3⟩ := h0 _ _ hs2
 have hX3 : X3 (D + 1) := (hle3.X (D + 1) (by show D + 1 < w1.heap.size; omega)).1.2 (by show X2 (D + 1); rw [hX2]; exact .inr (.inr rfl))
 have hcp3 : rel { w := w1, H := (S 0).H, loc := loc3, X := X3 } (.cptr [sl]) c := rel_closed (leM_C hle3) _ (by simp [AV.closed]) (rel_closed chg.toC _ (by simp [AV.closed]) hcp0)
 refine ⟨D + 1, [mk], w1, { target := .fn (.func f) #[c], args := #[.func (.yield (D + 1)) #[] #[]] }, w1, f, #[.func (.yield (D + 1)) #[] #[], c], w1, ?_, ?_, fun _ _ => trivial, ?_, fun h => (by cases h), ?_⟩
 ·rw [← hw1, hrec, hmk, ← hD]
  exact run_enterLoop_outer _ _ _ _ _
 ·have hcst : a.eval (.const (.func (.yield (D + 1)) #[] #[])) = .func (.yield (D + 1)) #[] #[] := rfl
  simp [resolve, hgv, hcst, Deferred.ofValue]
 ·simp [invoke, run_callFunc hbd]
 ·have hcall := bw_calls (P := P) hT hf hb hn hre ho (l := D + 1) hlen (fun k E' => SRel (S k) E' { a with defers := mk :: a.defers } ∧ E.leM m E' ∧ E'.X (D + 1) ∧ E'.w.heap[D + 1]? = some (.loop rec)) (fun k E' h => h.1.heap)
   (fun k E1 E2 h hle hR hH => ?_) (c := c) (fun k E' cs hk h hc => ?_) (E0 := { w := w1, H := (S 0).H, loc := loc3, X := X3 }) ⟨hs3, hle2.trans hle3, hX3, hl1⟩ hcp3
  ·refine hcall.mono fun e w3 ⟨⟨v, hv⟩, E4, hw4, hs4, hle4, hX4, hl4⟩ => ?_
   subst hv
   subst hw4
   obtain ⟨w4, H4, loc4, X4⟩ := E4
   have hH4 : H4 = (S n).H := hs4.H
   subst hH4
   have hend := run_endLoop (P := P) hl4 (by rw [hrec]; simp)
   refine ⟨_, _, hend, ?_⟩
   rw [hrec]
   refine ⟨rfl, loc4, X4, ?_, ?_⟩
   ·rw [← hrec]
    exact hs4.chg (put_chg hX4 hs4.heap) (put_marks hs4.defers hl4)
   ·exact (hle4.toX.trans put_leX).toM (l := D + 1) (fun h => absurd h (by omega))
  ·obtain ⟨g1, g2, g3, g4⟩ := h
   have hlt : D + 1 < E1.w.heap.size := (Array.getElem?_eq_some_iff.1 g4).1
   refine ⟨⟨by rw [hH]; exact g1.H, relList_le hle _ g1.fr, marksOk_le g1.heap hle g1.defers, hR⟩, g2.trans hle.toM, by rw [hle.X]; exact g3, ?_⟩
   rw [hle.same (D + 1) hlt fun ⟨i, c, hi⟩ => (g1.heap.lt i _ c hi).2 g3]
   exact g4
  ·obtain ⟨g1, g2, g3, g4⟩ := h
   rw [hrec] at g4
   obtain ⟨fn', tm, as, bo, k1, k2⟩ := bw_round hr hk rfl g1 g3 g4 hc
   refine ⟨fn', tm, as, bo, k1, k2.mono fun e W' ⟨he, E'', hw, q1, q2, q3, q4⟩ => ⟨he, E'', hw, ⟨q1, g2.trans (q2.mono hmm), q3, by rw [hrec]; exact q4⟩, leM_C q2⟩⟩
end bw
end Go.AL

namespace Go.AL
open Go
variable {P : Program}
theorem sat_bw {m m' n : Nat} {rv : Nat → AV} {p0 p1 : Tmp} {assign body : Code} {S : Nat → St} {T1 T2 : TypeId} {sl : AV} {ops0 ops1 ops2 ops3 : Array Oper} (hT : BwT P T1 T2 sl n rv) {f : FuncId} {fd : Func} {r0 r1 r2 r3 b0 b1 : Nat} (hf : P.funcs[f]? = some fd) (hbd : hasBody P f = true)
  (hb : fd.body = some (bwCode ops0 ops1 ops2 ops3 r0 r1 r2 r3 b0 b1)) (hn : fd.ntmps = 19) (hre : fd.results = #[]) (ho : BwOps T1 T2 ops0 ops1 ops2 ops3)
  (hlen : n ≤ 1048576) (hmm : m ≤ m') (hr : BwR P m' n rv p0 p1 assign body S) {g : Tmp} {s : St} {id wd : Nat} (hg : s.eval (.tmp g) = .clo f [.ptr id 0 wd 0 0]) (hid : s.H[id]? = some (.box [sl])) (h0 : SLe m ⟨s.fr, s.H.set id .dead⟩ (S 0)) :
  ASat P m (.rangeFunc (.tmp g) #[p0, p1] assign body) s .normal (S n) := fun ro hro E a hs => by
 obtain rfl : ro = none := hro.resolve_right (by simp [noRF])
 exact wpIn_mono (bw_wp hT hf hbd hb hn hre ho hlen hmm hr hg hid h0 E a hs) fun e a1 w1 ⟨he, h⟩ => ⟨he, h⟩
structure BwI where
 f : FuncId
 T1 : TypeId
 T2 : TypeId
 w : Nat
 pw : Nat
 agg : Bool
def BwFact (P : Program) (i : BwI) : Prop := ∃ fd ops0 ops1 ops2 ops3 r0 r1 r2 r3 b0 b1 e b, P.funcs[i.f]? = some fd ∧ hasBody P i.f = true ∧ fd.body = some (bwCode ops0 ops1 ops2 ops3 r0 r1 r2 r3 b0 b1) ∧ fd.ntmps = 19 ∧ fd.results = #[] ∧ BwOps i.T1 i.T2 ops0 ops1 ops2 ops3 ∧
 varK P i.T1 = some (1, false) ∧ kindK P i.T1 = .slice e i.w b ∧ varK P i.T2 = some (i.pw, i.agg)
def rvOf (agg : Bool) (w : Nat) (row : List AV) : AV := (partA agg w row).getD .undef
end Go.AL

namespace Go.AL
open Go
def bwTypes (P : Program) (i : BwI) : Bool :=
 (match varK P i.T1 with
 | some (n, a) => Nat.beq n 1 && !a
 | none => false) && ((match kindK P i.T1 with
 | .slice _ w _ => Nat.beq w i.w
 | _ => false) && (match varK P i.T2 with
 | some (n, a) => Nat.beq n i.pw && (a == i.agg)
 | none => false))
theorem bwFact_of {P : Program} {i : BwI} {fd : Func} {ops0 ops1 ops2 ops3 : Array Oper} {r0 r1 r2 r3 b0 b1 : Nat} (hf : P.funcs[i.f]? = some fd) (hb : hasBody P i.f = true) (hc : fd.body = some (bwCode ops0 ops1 ops2 ops3 r0 r1 r2 r3 b0 b1)) (hn : fd.ntmps = 19) (hr : fd.results = #[]) (ho : BwOps i.T1 i.T2 ops0 ops1 ops2 ops3)
  (ht : bwTypes P i = true) : BwFact P i := by
 unfold bwTypes at ht
 simp only [Bool.and_eq_true] at ht
 obtain ⟨h1, h2, h3⟩ := ht
 split at h1
 case h_2 => cases h1
 rename_i n a e1
 split at h2
 case h_2 => cases h2
 rename_i e w b e2
 split at h3
 case h_2 => cases h3
 rename_i n' a' e3
 simp only [Bool.and_eq_true, Bool.not_eq_true', beq_iff_eq] at h1 h3
 obtain ⟨g1, g2⟩ := h1
 obtain ⟨g3, g4⟩ := h3
 have g1 := Nat.eq_of_beq_eq_true g1
 have g3 := Nat.eq_of_beq_eq_true g3
 have h2 := Nat.eq_of_beq_eq_true h2
 subst g1
 subst g2
 subst g3
 subst g4
 subst h2
 exact ⟨fd, ops0, ops1, ops2, ops3, r0, r1, r2, r3, b0, b1, e, b, hf, hb, hc, hn, hr, ho, e1, e2, e3⟩
def fresh1 : TObj → Bool
 | .vec _ v _ => Nat.beq v 0
 | .map .. => true
 | .raw (.vec _ v _) => Nat.beq v 0
 | .raw .dead => false
 | .raw _ => true
theorem fresh1_ok {H : List TObj} (h : H.all fresh1 = true) : freshH (denH H) := by
 intro o ho
 obtain ⟨t, ht, rfl⟩ := List.mem_map.1 ho
 have := List.all_eq_true.1 h t ht
 cases t with
 | vec ks v rows => simp only [fresh1] at this; rw [Nat.eq_of_beq_eq_true this]; rfl
 | map => rfl
 | raw o => cases o with
  | vec k v rows => simp only [fresh1] at this; rw [Nat.eq_of_beq_eq_true this]; rfl
  | dead => cases this
  | box => rfl
  | map => rfl
  | iter => rfl
def runW (P : Program) (τ : Tab) (fn : Func) (args : List AV) (H : List TObj) : Option (Bool × AV × List TObj) :=
 match H.all fresh1 with
 | true => match (runCode P τ nL0 (bodyOf fn) ⟨frame0 args fn.ntmps, H⟩ .done).val1 with
  | some (.normal, s') => match resultsA P s'.den fn.results.toList with
   | some vs => some (true, oneA vs, s'.H)
   | none => none
  | some (.ret, s') => match resultsA P s'.den fn.results.toList with
   | some vs => some (true, oneA vs, s'.H)
   | none => none
  | _ => none
 | false => none
def Tab.inlineW (P : Program) (τ : Tab) (f : FuncId) (fn : Func) : Tab where
 pf g := match Nat.beq g f with
  | true => false
  | false => τ.pf g
 T g as := match Nat.beq g f with
  | true => none
  | false => τ.T g as
 W g as H := match Nat.beq g f with
  | true => runW P τ fn as H
  | false => τ.W g as H
 C g as H := match Nat.beq g f with
  | true => List.range H.length
  | false => τ.C g as H
theorem TabOK.inlineW {P : Program} {τ : Tab} (h : TabOK P τ) (hm : P.follows .mixedOrders = true) {f : FuncId} {fn : Func} (hf : P.funcs[f]? = some fn) (hb : hasBody P f = true) (hbs : fn.body.isSome = true) : TabOK P (τ.inlineW P f fn) := by
 refine ⟨fun g as b v hg ht => ?_, fun g as H b v H' hg ht => ?_, fun g as H b v H' hg A hA hlt => ?_⟩
 ·simp only [Tab.inlineW] at hg
  split at hg
  ·cases hg
  ·exact h.T g as b v hg ht
 ·simp only [Tab.inlineW] at hg
  split at hg
  ·rename_i e
   have e := Nat.eq_of_beq_eq_true e
   subst e
   refine ⟨hb, ?_⟩
   obtain ⟨c, hc⟩ := Option.isSome_iff_exists.1 hbs
   have hbo : bodyOf fn = c := by unfold bodyOf; rw [hc]
   unfold runW at hg
   rw [hbo] at hg
   split at hg
   case h_2 => cases hg
   rename_i hfr
   have key : ∀ {x : AExit} {s' : TSt} {vs : List AV}, (runCode P τ nL0 c ⟨frame0 as fn.ntmps, H⟩ .done).val1 = some (x, s') → (x = .normal ∨ x = .ret) → resultsA P s'.den fn.results.toList = some vs → ACallX P g as (denH H) (oneA vs) (denH s'.H) := by
    intro x s' vs h1 hx h2
    obtain ⟨x1, s1, h3, h4⟩ := runCode_sound hm h c ⟨frame0 as fn.ntmps, H⟩ .done (nLk P (denH H).length c) (val1_holds h1)
    obtain ⟨rfl, rfl⟩ := h4
    exact call_body hf hc h3 hx h2 (fresh1_ok hfr)
   split at hg
   ·rename_i s' h1
    split at hg
    ·rename_i vs h2
     cases hg
     exact key h1 (.inl rfl) h2
    ·cases hg
   ·rename_i s' h1
    split at hg
    ·rename_i vs h2
     cases hg
     exact key h1 (.inr rfl) h2
    ·cases hg
   ·cases hg
  ·exact h.W g as H b v H' hg ht
 ·simp only [Tab.inlineW] at hg hA
  split at hg
  ·rename_i e
   rw [e] at hA
   exact (hA (List.mem_range.2 hlt)).elim
  ·rename_i e
   rw [e] at hA
   exact h.C g as H b v H' hg A hA hlt
end Go.AL

namespace Go.AL
open Go Go.ChangeMaps
section range
variable {P : Program} {τ : Tab} {L : LT} {m : Nat} {sp : RSpec} {ops0 ops1 ops2 : Array Oper} {body : Code} {ri : List G → List (List G)} {ci : List G → Nat}
end range
end Go.AL

namespace Go.AL
open Go
end Go.AL

namespace Go.AL
open Go
end Go.AL
