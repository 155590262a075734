/-
  What is proved here: what the methods of the stream give on data. No condition.
-/
import Derived.Test.YtpfhjchbegdgdaaGreatDoorML3
import Derived.Test.YtpfhjchbegdgdaaGreatDoorME
set_option linter.unusedSimpArgs false
set_option linter.unusedVariables false
namespace Go.Proofs.SYtpfhjchbegdgdaaGreatDoor
open Go Go.AL Go.Proofs

theorem r_Below (x n : Int) (h0 : 1 ≤ n) (h1 : n ≤ 1099511627776) : Ret (F_pilemake_Below [.i x, .i n]) fun g => ∃ v, g = [.i v] ∧ 0 ≤ v ∧ v < n := by
  unfold F_pilemake_Below
  (dsimp +instances only [Go.AL.gi0, Go.AL.gis, Go.AL.row1, Go.AL.rows1, Go.AL.int1, Go.AL.str1, Go.AL.bool1])
  have ha := Int.tmod_lt_of_pos x (by omega : 0 < n)
  have hb := Int.lt_tmod_of_pos x (by omega : 0 < n)
  (repeat (first | (refine Go.AL.Ret.pos ?_ ?_; (first | rfl | assumption | (simp only [Go.AL.inI, Go.AL.ltI_eq, Go.AL.leI_eq, Go.AL.nnI_eq, Bool.and_true, Bool.true_and, Bool.and_eq_true, Bool.and_eq_false_iff, Go.AL.dec_iff, Go.AL.dec_not_iff, Bool.not_eq_true', Bool.not_eq_false', beq_iff_eq, beq_eq_false_iff_ne, bne_iff_ne, bne_eq_false_iff_eq, ne_eq, Go.AL.nbeq_iff, Nat.ble_eq, Nat.blt_eq, List.length_set, List.length_append, List.length_replicate, List.length_cons, List.length_nil, List.length_take, List.length_drop, Int.toNat_natCast, true_and, and_true] <;> omega))) | (refine Go.AL.Ret.neg ?_ ?_; (first | rfl | assumption | (simp only [Go.AL.inI, Go.AL.ltI_eq, Go.AL.leI_eq, Go.AL.nnI_eq, Bool.and_true, Bool.true_and, Bool.and_eq_true, Bool.and_eq_false_iff, Go.AL.dec_iff, Go.AL.dec_not_iff, Bool.not_eq_true', Bool.not_eq_false', beq_iff_eq, beq_eq_false_iff_ne, bne_iff_ne, bne_eq_false_iff_eq, ne_eq, Go.AL.nbeq_iff, Nat.ble_eq, Nat.blt_eq, List.length_set, List.length_append, List.length_replicate, List.length_cons, List.length_nil, List.length_take, List.length_drop, Int.toNat_natCast, true_and, and_true] <;> omega)))))
  refine Ret.test (fun h => ?_) fun h => ?_
  · simp only [ltI_eq, decide_eq_true_eq] at h
    (repeat (first | (refine Go.AL.Ret.pos ?_ ?_; (first | rfl | assumption | (simp only [Go.AL.inI, Go.AL.ltI_eq, Go.AL.leI_eq, Go.AL.nnI_eq, Bool.and_true, Bool.true_and, Bool.and_eq_true, Bool.and_eq_false_iff, Go.AL.dec_iff, Go.AL.dec_not_iff, Bool.not_eq_true', Bool.not_eq_false', beq_iff_eq, beq_eq_false_iff_ne, bne_iff_ne, bne_eq_false_iff_eq, ne_eq, Go.AL.nbeq_iff, Nat.ble_eq, Nat.blt_eq, List.length_set, List.length_append, List.length_replicate, List.length_cons, List.length_nil, List.length_take, List.length_drop, Int.toNat_natCast, true_and, and_true] <;> omega))) | (refine Go.AL.Ret.neg ?_ ?_; (first | rfl | assumption | (simp only [Go.AL.inI, Go.AL.ltI_eq, Go.AL.leI_eq, Go.AL.nnI_eq, Bool.and_true, Bool.true_and, Bool.and_eq_true, Bool.and_eq_false_iff, Go.AL.dec_iff, Go.AL.dec_not_iff, Bool.not_eq_true', Bool.not_eq_false', beq_iff_eq, beq_eq_false_iff_ne, bne_iff_ne, bne_eq_false_iff_eq, ne_eq, Go.AL.nbeq_iff, Nat.ble_eq, Nat.blt_eq, List.length_set, List.length_append, List.length_replicate, List.length_cons, List.length_nil, List.length_take, List.length_drop, Int.toNat_natCast, true_and, and_true] <;> omega)))))
    exact Ret.some ⟨_, rfl, by omega, by omega⟩
  · simp only [ltI_eq, decide_eq_false_iff_not] at h
    exact Ret.some ⟨_, rfl, by omega, by omega⟩

/-- A number of the stream; how far it is then. -/
theorem r_Next (l : List (List G)) (a n : Int) (ha : 0 ≤ a) (ha1 : a ≤ 1000000) (h0 : 1 ≤ n) (h1 : n ≤ 1099511627776) :
    Ret (F_pilemake_Stream_Next [.l l, .i a, .i n]) fun g => ∃ v, g = [.l l, .i (a + 1), .i v] ∧ 0 ≤ v ∧ v < n := by
  unfold F_pilemake_Stream_Next
  (dsimp +instances only [Go.AL.gi0, Go.AL.gis, Go.AL.row1, Go.AL.rows1, Go.AL.int1, Go.AL.str1, Go.AL.bool1])
  have ea : a + 1 - 1 = a := by omega
  simp only [ea]
  by_cases hl : l.length = 0
  · (repeat (first | (refine Go.AL.Ret.pos ?_ ?_; (first | rfl | assumption | (simp only [Go.AL.inI, Go.AL.ltI_eq, Go.AL.leI_eq, Go.AL.nnI_eq, Bool.and_true, Bool.true_and, Bool.and_eq_true, Bool.and_eq_false_iff, Go.AL.dec_iff, Go.AL.dec_not_iff, Bool.not_eq_true', Bool.not_eq_false', beq_iff_eq, beq_eq_false_iff_ne, bne_iff_ne, bne_eq_false_iff_eq, ne_eq, Go.AL.nbeq_iff, Nat.ble_eq, Nat.blt_eq, List.length_set, List.length_append, List.length_replicate, List.length_cons, List.length_nil, List.length_take, List.length_drop, Int.toNat_natCast, true_and, and_true] <;> omega))) | (refine Go.AL.Ret.neg ?_ ?_; (first | rfl | assumption | (simp only [Go.AL.inI, Go.AL.ltI_eq, Go.AL.leI_eq, Go.AL.nnI_eq, Bool.and_true, Bool.true_and, Bool.and_eq_true, Bool.and_eq_false_iff, Go.AL.dec_iff, Go.AL.dec_not_iff, Bool.not_eq_true', Bool.not_eq_false', beq_iff_eq, beq_eq_false_iff_ne, bne_iff_ne, bne_eq_false_iff_eq, ne_eq, Go.AL.nbeq_iff, Nat.ble_eq, Nat.blt_eq, List.length_set, List.length_append, List.length_replicate, List.length_cons, List.length_nil, List.length_take, List.length_drop, Int.toNat_natCast, true_and, and_true] <;> omega)))))
    refine Ret.call (r_Below _ n h0 h1) ?_
    rintro _ ⟨v, rfl, h2, h3⟩
    (dsimp +instances only [Go.AL.gi0, Go.AL.gis, Go.AL.row1, Go.AL.rows1, Go.AL.int1, Go.AL.str1, Go.AL.bool1])
    exact Ret.some ⟨v, rfl, h2, h3⟩
  · have hp : (0 : Int) < (l.length : Int) := by omega
    have d0 : 0 ≤ Int.tdiv a l.length := Int.tdiv_nonneg ha (by omega)
    have d1 : Int.tdiv a l.length ≤ a := by
      rw [Int.tdiv_eq_ediv_of_nonneg ha]
      exact Int.ediv_le_self _ ha
    have m0 : 0 ≤ Int.tmod a l.length := by
      rw [Int.tmod_eq_emod_of_nonneg ha]
      exact Int.emod_nonneg _ (by omega)
    have m1 : Int.tmod a l.length < l.length := Int.tmod_lt_of_pos a hp
    have m2 : Int.tmod a l.length ≤ a := by
      rw [Int.tmod_eq_emod_of_nonneg ha]
      have := Int.mul_ediv_add_emod a l.length
      have h4 : 0 ≤ (l.length : Int) * (a / l.length) := Int.mul_nonneg (by omega) (Int.ediv_nonneg ha (by omega))
      omega
    generalize hq : Int.tdiv a l.length = q at *
    generalize hr : Int.tmod a l.length = r at *
    have p0 : 0 ≤ q * (7919 + r) := Int.mul_nonneg d0 (by omega)
    have p1 : q * (7919 + r) ≤ 1000000 * 2000000 := Int.mul_le_mul (by omega) (by omega) (by omega) (by omega)
    generalize hz : q * (7919 + r) = z at *
    (repeat (first | (refine Go.AL.Ret.pos ?_ ?_; (first | rfl | assumption | (simp only [Go.AL.inI, Go.AL.ltI_eq, Go.AL.leI_eq, Go.AL.nnI_eq, Bool.and_true, Bool.true_and, Bool.and_eq_true, Bool.and_eq_false_iff, Go.AL.dec_iff, Go.AL.dec_not_iff, Bool.not_eq_true', Bool.not_eq_false', beq_iff_eq, beq_eq_false_iff_ne, bne_iff_ne, bne_eq_false_iff_eq, ne_eq, Go.AL.nbeq_iff, Nat.ble_eq, Nat.blt_eq, List.length_set, List.length_append, List.length_replicate, List.length_cons, List.length_nil, List.length_take, List.length_drop, Int.toNat_natCast, true_and, and_true] <;> omega))) | (refine Go.AL.Ret.neg ?_ ?_; (first | rfl | assumption | (simp only [Go.AL.inI, Go.AL.ltI_eq, Go.AL.leI_eq, Go.AL.nnI_eq, Bool.and_true, Bool.true_and, Bool.and_eq_true, Bool.and_eq_false_iff, Go.AL.dec_iff, Go.AL.dec_not_iff, Bool.not_eq_true', Bool.not_eq_false', beq_iff_eq, beq_eq_false_iff_ne, bne_iff_ne, bne_eq_false_iff_eq, ne_eq, Go.AL.nbeq_iff, Nat.ble_eq, Nat.blt_eq, List.length_set, List.length_append, List.length_replicate, List.length_cons, List.length_nil, List.length_take, List.length_drop, Int.toNat_natCast, true_and, and_true] <;> omega)))))
    refine Ret.call (r_Below _ 1073741824 (by omega) (by omega)) ?_
    rintro _ ⟨u, rfl, h2, h3⟩
    (dsimp +instances only [Go.AL.gi0, Go.AL.gis, Go.AL.row1, Go.AL.rows1, Go.AL.int1, Go.AL.str1, Go.AL.bool1])
    (repeat (first | (refine Go.AL.Ret.pos ?_ ?_; (first | rfl | assumption | (simp only [Go.AL.inI, Go.AL.ltI_eq, Go.AL.leI_eq, Go.AL.nnI_eq, Bool.and_true, Bool.true_and, Bool.and_eq_true, Bool.and_eq_false_iff, Go.AL.dec_iff, Go.AL.dec_not_iff, Bool.not_eq_true', Bool.not_eq_false', beq_iff_eq, beq_eq_false_iff_ne, bne_iff_ne, bne_eq_false_iff_eq, ne_eq, Go.AL.nbeq_iff, Nat.ble_eq, Nat.blt_eq, List.length_set, List.length_append, List.length_replicate, List.length_cons, List.length_nil, List.length_take, List.length_drop, Int.toNat_natCast, true_and, and_true] <;> omega))) | (refine Go.AL.Ret.neg ?_ ?_; (first | rfl | assumption | (simp only [Go.AL.inI, Go.AL.ltI_eq, Go.AL.leI_eq, Go.AL.nnI_eq, Bool.and_true, Bool.true_and, Bool.and_eq_true, Bool.and_eq_false_iff, Go.AL.dec_iff, Go.AL.dec_not_iff, Bool.not_eq_true', Bool.not_eq_false', beq_iff_eq, beq_eq_false_iff_ne, bne_iff_ne, bne_eq_false_iff_eq, ne_eq, Go.AL.nbeq_iff, Nat.ble_eq, Nat.blt_eq, List.length_set, List.length_append, List.length_replicate, List.length_cons, List.length_nil, List.length_take, List.length_drop, Int.toNat_natCast, true_and, and_true] <;> omega)))))
    refine Ret.call (r_Below _ n h0 h1) ?_
    rintro _ ⟨v, rfl, h4, h5⟩
    (dsimp +instances only [Go.AL.gi0, Go.AL.gis, Go.AL.row1, Go.AL.rows1, Go.AL.int1, Go.AL.str1, Go.AL.bool1])
    exact Ret.some ⟨v, rfl, h4, h5⟩

theorem r_Range (l : List (List G)) (a lo hi : Int) (ha : 0 ≤ a) (ha1 : a ≤ 1000000) (h0 : lo ≤ hi) (h1 : -1000000000 ≤ lo) (h2 : hi ≤ 1000000000) :
    Ret (F_pilemake_Stream_Range [.l l, .i a, .i lo, .i hi]) fun g => ∃ v, g = [.l l, .i (a + 1), .i v] ∧ lo ≤ v ∧ v ≤ hi := by
  unfold F_pilemake_Stream_Range
  (dsimp +instances only [Go.AL.gi0, Go.AL.gis, Go.AL.row1, Go.AL.rows1, Go.AL.int1, Go.AL.str1, Go.AL.bool1])
  (repeat (first | (refine Go.AL.Ret.pos ?_ ?_; (first | rfl | assumption | (simp only [Go.AL.inI, Go.AL.ltI_eq, Go.AL.leI_eq, Go.AL.nnI_eq, Bool.and_true, Bool.true_and, Bool.and_eq_true, Bool.and_eq_false_iff, Go.AL.dec_iff, Go.AL.dec_not_iff, Bool.not_eq_true', Bool.not_eq_false', beq_iff_eq, beq_eq_false_iff_ne, bne_iff_ne, bne_eq_false_iff_eq, ne_eq, Go.AL.nbeq_iff, Nat.ble_eq, Nat.blt_eq, List.length_set, List.length_append, List.length_replicate, List.length_cons, List.length_nil, List.length_take, List.length_drop, Int.toNat_natCast, true_and, and_true] <;> omega))) | (refine Go.AL.Ret.neg ?_ ?_; (first | rfl | assumption | (simp only [Go.AL.inI, Go.AL.ltI_eq, Go.AL.leI_eq, Go.AL.nnI_eq, Bool.and_true, Bool.true_and, Bool.and_eq_true, Bool.and_eq_false_iff, Go.AL.dec_iff, Go.AL.dec_not_iff, Bool.not_eq_true', Bool.not_eq_false', beq_iff_eq, beq_eq_false_iff_ne, bne_iff_ne, bne_eq_false_iff_eq, ne_eq, Go.AL.nbeq_iff, Nat.ble_eq, Nat.blt_eq, List.length_set, List.length_append, List.length_replicate, List.length_cons, List.length_nil, List.length_take, List.length_drop, Int.toNat_natCast, true_and, and_true] <;> omega)))))
  refine Ret.call (r_Next l a _ ha ha1 (by omega) (by omega)) ?_
  rintro _ ⟨v, rfl, h3, h4⟩
  (dsimp +instances only [Go.AL.gi0, Go.AL.gis, Go.AL.row1, Go.AL.rows1, Go.AL.int1, Go.AL.str1, Go.AL.bool1])
  (repeat (first | (refine Go.AL.Ret.pos ?_ ?_; (first | rfl | assumption | (simp only [Go.AL.inI, Go.AL.ltI_eq, Go.AL.leI_eq, Go.AL.nnI_eq, Bool.and_true, Bool.true_and, Bool.and_eq_true, Bool.and_eq_false_iff, Go.AL.dec_iff, Go.AL.dec_not_iff, Bool.not_eq_true', Bool.not_eq_false', beq_iff_eq, beq_eq_false_iff_ne, bne_iff_ne, bne_eq_false_iff_eq, ne_eq, Go.AL.nbeq_iff, Nat.ble_eq, Nat.blt_eq, List.length_set, List.length_append, List.length_replicate, List.length_cons, List.length_nil, List.length_take, List.length_drop, Int.toNat_natCast, true_and, and_true] <;> omega))) | (refine Go.AL.Ret.neg ?_ ?_; (first | rfl | assumption | (simp only [Go.AL.inI, Go.AL.ltI_eq, Go.AL.leI_eq, Go.AL.nnI_eq, Bool.and_true, Bool.true_and, Bool.and_eq_true, Bool.and_eq_false_iff, Go.AL.dec_iff, Go.AL.dec_not_iff, Bool.not_eq_true', Bool.not_eq_false', beq_iff_eq, beq_eq_false_iff_ne, bne_iff_ne, bne_eq_false_iff_eq, ne_eq, Go.AL.nbeq_iff, Nat.ble_eq, Nat.blt_eq, List.length_set, List.length_append, List.length_replicate, List.length_cons, List.length_nil, List.length_take, List.length_drop, Int.toNat_natCast, true_and, and_true] <;> omega)))))
  exact Ret.some ⟨_, rfl, by omega, by omega⟩

theorem getD_mem' {l : List (List G)} {v : Int} (h0 : 0 ≤ v) (h1 : v < l.length) : l.getD v.toNat [] ∈ l := by
  have : v.toNat < l.length := by omega
  rw [List.getD_eq_getElem?_getD, List.getElem?_eq_getElem this]
  exact List.getElem_mem this

theorem r_Pick (P : Int → Prop) (l : List (List G)) (a : Int) (xs : List (List G)) (ha : 0 ≤ a) (ha1 : a ≤ 1000000) (h0 : 1 ≤ xs.length) (h1 : xs.length ≤ 1000000) (hP : ∀ x ∈ xs, P (gi x 0).int) :
    Ret (F_pilemake_Stream_Pick [.l l, .i a, .l xs]) fun g => ∃ v, g = [.l l, .i (a + 1), .i v] ∧ P v := by
  unfold F_pilemake_Stream_Pick
  (dsimp +instances only [Go.AL.gi0, Go.AL.gis, Go.AL.row1, Go.AL.rows1, Go.AL.int1, Go.AL.str1, Go.AL.bool1])
  refine Ret.call (r_Next l a _ ha ha1 (by omega) (by omega)) ?_
  rintro _ ⟨v, rfl, h3, h4⟩
  (dsimp +instances only [Go.AL.gi0, Go.AL.gis, Go.AL.row1, Go.AL.rows1, Go.AL.int1, Go.AL.str1, Go.AL.bool1])
  (repeat (first | (refine Go.AL.Ret.pos ?_ ?_; (first | rfl | assumption | (simp only [Go.AL.inI, Go.AL.ltI_eq, Go.AL.leI_eq, Go.AL.nnI_eq, Bool.and_true, Bool.true_and, Bool.and_eq_true, Bool.and_eq_false_iff, Go.AL.dec_iff, Go.AL.dec_not_iff, Bool.not_eq_true', Bool.not_eq_false', beq_iff_eq, beq_eq_false_iff_ne, bne_iff_ne, bne_eq_false_iff_eq, ne_eq, Go.AL.nbeq_iff, Nat.ble_eq, Nat.blt_eq, List.length_set, List.length_append, List.length_replicate, List.length_cons, List.length_nil, List.length_take, List.length_drop, Int.toNat_natCast, true_and, and_true] <;> omega))) | (refine Go.AL.Ret.neg ?_ ?_; (first | rfl | assumption | (simp only [Go.AL.inI, Go.AL.ltI_eq, Go.AL.leI_eq, Go.AL.nnI_eq, Bool.and_true, Bool.true_and, Bool.and_eq_true, Bool.and_eq_false_iff, Go.AL.dec_iff, Go.AL.dec_not_iff, Bool.not_eq_true', Bool.not_eq_false', beq_iff_eq, beq_eq_false_iff_ne, bne_iff_ne, bne_eq_false_iff_eq, ne_eq, Go.AL.nbeq_iff, Nat.ble_eq, Nat.blt_eq, List.length_set, List.length_append, List.length_replicate, List.length_cons, List.length_nil, List.length_take, List.length_drop, Int.toNat_natCast, true_and, and_true] <;> omega)))))
  exact Ret.some ⟨_, rfl, hP _ (getD_mem' h3 h4)⟩

theorem r_Some (P : ByteArray → Prop) (l : List (List G)) (a : Int) (xs : List (List G)) (ha : 0 ≤ a) (ha1 : a ≤ 1000000) (h0 : 1 ≤ xs.length) (h1 : xs.length ≤ 1000000) (hP : ∀ x ∈ xs, P (gi x 0).str) :
    Ret (F_pilemake_Stream_Some [.l l, .i a, .l xs]) fun g => ∃ v, g = [.l l, .i (a + 1), .s v] ∧ P v := by
  unfold F_pilemake_Stream_Some
  (dsimp +instances only [Go.AL.gi0, Go.AL.gis, Go.AL.row1, Go.AL.rows1, Go.AL.int1, Go.AL.str1, Go.AL.bool1])
  refine Ret.call (r_Next l a _ ha ha1 (by omega) (by omega)) ?_
  rintro _ ⟨v, rfl, h3, h4⟩
  (dsimp +instances only [Go.AL.gi0, Go.AL.gis, Go.AL.row1, Go.AL.rows1, Go.AL.int1, Go.AL.str1, Go.AL.bool1])
  (repeat (first | (refine Go.AL.Ret.pos ?_ ?_; (first | rfl | assumption | (simp only [Go.AL.inI, Go.AL.ltI_eq, Go.AL.leI_eq, Go.AL.nnI_eq, Bool.and_true, Bool.true_and, Bool.and_eq_true, Bool.and_eq_false_iff, Go.AL.dec_iff, Go.AL.dec_not_iff, Bool.not_eq_true', Bool.not_eq_false', beq_iff_eq, beq_eq_false_iff_ne, bne_iff_ne, bne_eq_false_iff_eq, ne_eq, Go.AL.nbeq_iff, Nat.ble_eq, Nat.blt_eq, List.length_set, List.length_append, List.length_replicate, List.length_cons, List.length_nil, List.length_take, List.length_drop, Int.toNat_natCast, true_and, and_true] <;> omega))) | (refine Go.AL.Ret.neg ?_ ?_; (first | rfl | assumption | (simp only [Go.AL.inI, Go.AL.ltI_eq, Go.AL.leI_eq, Go.AL.nnI_eq, Bool.and_true, Bool.true_and, Bool.and_eq_true, Bool.and_eq_false_iff, Go.AL.dec_iff, Go.AL.dec_not_iff, Bool.not_eq_true', Bool.not_eq_false', beq_iff_eq, beq_eq_false_iff_ne, bne_iff_ne, bne_eq_false_iff_eq, ne_eq, Go.AL.nbeq_iff, Nat.ble_eq, Nat.blt_eq, List.length_set, List.length_append, List.length_replicate, List.length_cons, List.length_nil, List.length_take, List.length_drop, Int.toNat_natCast, true_and, and_true] <;> omega)))))
  exact Ret.some ⟨_, rfl, hP _ (getD_mem' h3 h4)⟩

theorem r_Flip (l : List (List G)) (a n : Int) (ha : 0 ≤ a) (ha1 : a ≤ 1000000) (h0 : 1 ≤ n) (h1 : n ≤ 1000000) :
    Ret (F_pilemake_Stream_Flip [.l l, .i a, .i n]) fun g => ∃ b, g = [.l l, .i (a + 1), .t b] := by
  unfold F_pilemake_Stream_Flip
  (dsimp +instances only [Go.AL.gi0, Go.AL.gis, Go.AL.row1, Go.AL.rows1, Go.AL.int1, Go.AL.str1, Go.AL.bool1])
  refine Ret.call (r_Next l a _ ha ha1 (by omega) (by omega)) ?_
  rintro _ ⟨v, rfl, h3, h4⟩
  exact Ret.some ⟨_, rfl⟩

/-- A number that need not be between the bounds. -/
theorem r_Odd (l : List (List G)) (a lo hi : Int) (ha : 0 ≤ a) (ha1 : a ≤ 900000) (h0 : lo ≤ hi) (h1 : -1000000000 ≤ lo) (h2 : hi ≤ 1000000000) :
    Ret (F_pilemake_Stream_Odd [.l l, .i a, .i lo, .i hi]) fun g => ∃ v, g = [.l l, .i (a + 2), .i v] ∧ -1099511627776 ≤ v ∧ v ≤ 1099511627776 := by
  unfold F_pilemake_Stream_Odd
  (dsimp +instances only [Go.AL.gi0, Go.AL.gis, Go.AL.row1, Go.AL.rows1, Go.AL.int1, Go.AL.str1, Go.AL.bool1])
  have e2 : a + 1 + 1 = a + 2 := by omega
  refine Ret.call (r_Flip l a 12 ha (by omega) (by omega) (by omega)) ?_
  rintro _ ⟨b, rfl⟩
  (dsimp +instances only [Go.AL.gi0, Go.AL.gis, Go.AL.row1, Go.AL.rows1, Go.AL.int1, Go.AL.str1, Go.AL.bool1])
  cases b with
  | true =>
    (repeat (first | (refine Go.AL.Ret.pos ?_ ?_; (first | rfl | assumption | (simp only [Go.AL.inI, Go.AL.ltI_eq, Go.AL.leI_eq, Go.AL.nnI_eq, Bool.and_true, Bool.true_and, Bool.and_eq_true, Bool.and_eq_false_iff, Go.AL.dec_iff, Go.AL.dec_not_iff, Bool.not_eq_true', Bool.not_eq_false', beq_iff_eq, beq_eq_false_iff_ne, bne_iff_ne, bne_eq_false_iff_eq, ne_eq, Go.AL.nbeq_iff, Nat.ble_eq, Nat.blt_eq, List.length_set, List.length_append, List.length_replicate, List.length_cons, List.length_nil, List.length_take, List.length_drop, Int.toNat_natCast, true_and, and_true] <;> omega))) | (refine Go.AL.Ret.neg ?_ ?_; (first | rfl | assumption | (simp only [Go.AL.inI, Go.AL.ltI_eq, Go.AL.leI_eq, Go.AL.nnI_eq, Bool.and_true, Bool.true_and, Bool.and_eq_true, Bool.and_eq_false_iff, Go.AL.dec_iff, Go.AL.dec_not_iff, Bool.not_eq_true', Bool.not_eq_false', beq_iff_eq, beq_eq_false_iff_ne, bne_iff_ne, bne_eq_false_iff_eq, ne_eq, Go.AL.nbeq_iff, Nat.ble_eq, Nat.blt_eq, List.length_set, List.length_append, List.length_replicate, List.length_cons, List.length_nil, List.length_take, List.length_drop, Int.toNat_natCast, true_and, and_true] <;> omega)))))
    refine Ret.call (r_Pick (fun v => -1099511627776 ≤ v ∧ v ≤ 1099511627776) l (a + 1) _ (by omega) (by omega) (by simp) (by simp) ?_) ?_
    · intro x hx
      simp only [List.mem_cons, List.not_mem_nil, or_false] at hx
      rcases hx with rfl | rfl | rfl | rfl | rfl | rfl <;> (dsimp +instances only [Go.AL.gi0, Go.AL.gis, Go.AL.row1, Go.AL.rows1, Go.AL.int1, Go.AL.str1, Go.AL.bool1]) <;> omega
    · rintro _ ⟨v, rfl, h3, h4⟩
      (dsimp +instances only [Go.AL.gi0, Go.AL.gis, Go.AL.row1, Go.AL.rows1, Go.AL.int1, Go.AL.str1, Go.AL.bool1])
      exact Ret.some ⟨v, by rw [e2], h3, h4⟩
  | false =>
    (repeat (first | (refine Go.AL.Ret.pos ?_ ?_; (first | rfl | assumption | (simp only [Go.AL.inI, Go.AL.ltI_eq, Go.AL.leI_eq, Go.AL.nnI_eq, Bool.and_true, Bool.true_and, Bool.and_eq_true, Bool.and_eq_false_iff, Go.AL.dec_iff, Go.AL.dec_not_iff, Bool.not_eq_true', Bool.not_eq_false', beq_iff_eq, beq_eq_false_iff_ne, bne_iff_ne, bne_eq_false_iff_eq, ne_eq, Go.AL.nbeq_iff, Nat.ble_eq, Nat.blt_eq, List.length_set, List.length_append, List.length_replicate, List.length_cons, List.length_nil, List.length_take, List.length_drop, Int.toNat_natCast, true_and, and_true] <;> omega))) | (refine Go.AL.Ret.neg ?_ ?_; (first | rfl | assumption | (simp only [Go.AL.inI, Go.AL.ltI_eq, Go.AL.leI_eq, Go.AL.nnI_eq, Bool.and_true, Bool.true_and, Bool.and_eq_true, Bool.and_eq_false_iff, Go.AL.dec_iff, Go.AL.dec_not_iff, Bool.not_eq_true', Bool.not_eq_false', beq_iff_eq, beq_eq_false_iff_ne, bne_iff_ne, bne_eq_false_iff_eq, ne_eq, Go.AL.nbeq_iff, Nat.ble_eq, Nat.blt_eq, List.length_set, List.length_append, List.length_replicate, List.length_cons, List.length_nil, List.length_take, List.length_drop, Int.toNat_natCast, true_and, and_true] <;> omega)))))
    refine Ret.call (r_Range l (a + 1) lo hi (by omega) (by omega) h0 h1 h2) ?_
    rintro _ ⟨v, rfl, h3, h4⟩
    (dsimp +instances only [Go.AL.gi0, Go.AL.gis, Go.AL.row1, Go.AL.rows1, Go.AL.int1, Go.AL.str1, Go.AL.bool1])
    exact Ret.some ⟨v, by rw [e2], by omega, by omega⟩

end Go.Proofs.SYtpfhjchbegdgdaaGreatDoor

namespace Go.Proofs.SYtpfhjchbegdgdaaGreatDoor
open Go Go.AL Go.Proofs

def inL (L : List ByteArray) (s : ByteArray) : Bool := L.any fun x => eqS x s
theorem inL_mem {L : List ByteArray} {s : ByteArray} (h : inL L s = true) : s ∈ L := by
  obtain ⟨x, hx, he⟩ := List.any_eq_true.1 h
  exact eqS_eq he ▸ hx

theorem r_PickB (lo hi : Int) (l : List (List G)) (a : Int) (xs : List (List G)) (ha : 0 ≤ a) (ha1 : a ≤ 1000000) (h0 : (Nat.ble 1 xs.length && Nat.ble xs.length 1000000) = true) (hP : (xs.all fun x => leI lo (gi x 0).int && leI (gi x 0).int hi) = true) :
    Ret (F_pilemake_Stream_Pick [.l l, .i a, .l xs]) fun g => ∃ v, g = [.l l, .i (a + 1), .i v] ∧ lo ≤ v ∧ v ≤ hi := by
  simp only [Bool.and_eq_true, Nat.ble_eq] at h0
  refine r_Pick (fun v => lo ≤ v ∧ v ≤ hi) l a xs ha ha1 h0.1 h0.2 fun x hx => ?_
  have := List.all_eq_true.1 hP x hx
  simpa only [leI_eq, Bool.and_eq_true, decide_eq_true_eq] using this
theorem r_SomeB (L : List ByteArray) (l : List (List G)) (a : Int) (xs : List (List G)) (ha : 0 ≤ a) (ha1 : a ≤ 1000000) (h0 : (Nat.ble 1 xs.length && Nat.ble xs.length 1000000) = true) (hP : (xs.all fun x => inL L (gi x 0).str) = true) :
    Ret (F_pilemake_Stream_Some [.l l, .i a, .l xs]) fun g => ∃ v, g = [.l l, .i (a + 1), .s v] ∧ v ∈ L := by
  simp only [Bool.and_eq_true, Nat.ble_eq] at h0
  exact r_Some (fun v => v ∈ L) l a xs ha ha1 h0.1 h0.2 fun x hx => inL_mem (List.all_eq_true.1 hP x hx)

def calls : List ByteArray := [⟨#[]⟩, ⟨#[107, 49]⟩, ⟨#[75, 49, 65, 66]⟩, ⟨#[107, 49, 97, 98, 47]⟩, ⟨#[49, 97]⟩, ⟨#[107, 49, 97, 98, 47, 109, 109, 47, 112]⟩, ⟨#[107, 49, 97, 98]⟩, ⟨#[107, 49, 97, 97]⟩, ⟨#[107, 49, 97, 98, 47, 52]⟩,
  ⟨#[111, 104, 50, 97, 98, 99]⟩, ⟨#[111, 104, 50, 97, 98, 100]⟩, ⟨#[119, 49, 97, 119]⟩, ⟨#[110, 49, 109, 109]⟩, ⟨#[103, 51, 120, 121, 122, 47, 112]⟩]
def bands : List ByteArray := [⟨#[]⟩, ⟨#[66]⟩, ⟨#[98, 50, 48]⟩, ⟨#[98, 52, 48]⟩]
def names : List ByteArray := [⟨#[]⟩, ⟨#[65]⟩, ⟨#[49]⟩, ⟨#[102, 105, 110]⟩, ⟨#[117, 115, 97]⟩]

def small (n : Int) : Prop := -2000000000000 ≤ n ∧ n ≤ 2000000000000
/-- A contact as the stream makes it. -/
def Con (r : List G) : Prop := ∃ (t m : Int) (b c : ByteArray) (s h : Int) (x y : ByteArray), r = [.i t, .i m, .s b, .s c, .i s, .i h, .s x, .s y] ∧ small t ∧ small m ∧ small s ∧ small h ∧ b ∈ bands ∧ c ∈ calls ∧ x ∈ names ∧ y ∈ names

def tight (n : Int) : Prop := -1900000000000 ≤ n ∧ n ≤ 1900000000000
/-- The same, with numbers that may be counted up. -/
def ConT (r : List G) : Prop := ∃ (t m : Int) (b c : ByteArray) (s h : Int) (x y : ByteArray), r = [.i t, .i m, .s b, .s c, .i s, .i h, .s x, .s y] ∧ tight t ∧ tight m ∧ tight s ∧ tight h ∧ b ∈ bands ∧ c ∈ calls ∧ x ∈ names ∧ y ∈ names
theorem tight.to {n : Int} (h : tight n) : small n := ⟨by have := h.1; omega, by have := h.2; omega⟩
theorem ConT.to {r : List G} (h : ConT r) : Con r := by
  obtain ⟨t, m, b, c, s, h, x, y, e, h1, h2, h3, h4, h5⟩ := h
  exact ⟨t, m, b, c, s, h, x, y, e, h1.to, h2.to, h3.to, h4.to, h5⟩

theorem Con.eta {r : List G} (h : Con r) : gEta KContact r = r := by
  obtain ⟨t, m, b, c, s, h, x, y, rfl, _⟩ := h
  rfl

theorem r_ACall (l : List (List G)) (a : Int) (ha : 0 ≤ a) (ha1 : a ≤ 900000) : Ret (F_pilemake_Stream_ACall [.l l, .i a]) fun g => ∃ v, g = [.l l, .i (a + 2), .s v] ∧ v ∈ calls := by
  unfold F_pilemake_Stream_ACall
  (dsimp +instances only [Go.AL.gi0, Go.AL.gis, Go.AL.row1, Go.AL.rows1, Go.AL.int1, Go.AL.str1, Go.AL.bool1])
  have e2 : a + 1 + 1 = a + 2 := by omega
  refine Ret.call (r_Flip l a 60 ha (by omega) (by omega) (by omega)) ?_
  rintro _ ⟨b, rfl⟩
  (dsimp +instances only [Go.AL.gi0, Go.AL.gis, Go.AL.row1, Go.AL.rows1, Go.AL.int1, Go.AL.str1, Go.AL.bool1])
  cases b with
  | true =>
    (repeat (first | (refine Go.AL.Ret.pos ?_ ?_; (first | rfl | assumption | (simp only [Go.AL.inI, Go.AL.ltI_eq, Go.AL.leI_eq, Go.AL.nnI_eq, Bool.and_true, Bool.true_and, Bool.and_eq_true, Bool.and_eq_false_iff, Go.AL.dec_iff, Go.AL.dec_not_iff, Bool.not_eq_true', Bool.not_eq_false', beq_iff_eq, beq_eq_false_iff_ne, bne_iff_ne, bne_eq_false_iff_eq, ne_eq, Go.AL.nbeq_iff, Nat.ble_eq, Nat.blt_eq, List.length_set, List.length_append, List.length_replicate, List.length_cons, List.length_nil, List.length_take, List.length_drop, Int.toNat_natCast, true_and, and_true] <;> omega))) | (refine Go.AL.Ret.neg ?_ ?_; (first | rfl | assumption | (simp only [Go.AL.inI, Go.AL.ltI_eq, Go.AL.leI_eq, Go.AL.nnI_eq, Bool.and_true, Bool.true_and, Bool.and_eq_true, Bool.and_eq_false_iff, Go.AL.dec_iff, Go.AL.dec_not_iff, Bool.not_eq_true', Bool.not_eq_false', beq_iff_eq, beq_eq_false_iff_ne, bne_iff_ne, bne_eq_false_iff_eq, ne_eq, Go.AL.nbeq_iff, Nat.ble_eq, Nat.blt_eq, List.length_set, List.length_append, List.length_replicate, List.length_cons, List.length_nil, List.length_take, List.length_drop, Int.toNat_natCast, true_and, and_true] <;> omega)))))
    refine Ret.call (r_SomeB calls l (a + 1) _ (by omega) (by omega) (by kernel_rfl) (by kernel_rfl)) ?_
    rintro _ ⟨v, rfl, h⟩
    exact Ret.some ⟨v, by (dsimp +instances only [Go.AL.gi0, Go.AL.gis, Go.AL.row1, Go.AL.rows1, Go.AL.int1, Go.AL.str1, Go.AL.bool1]); rw [e2], h⟩
  | false =>
    (repeat (first | (refine Go.AL.Ret.pos ?_ ?_; (first | rfl | assumption | (simp only [Go.AL.inI, Go.AL.ltI_eq, Go.AL.leI_eq, Go.AL.nnI_eq, Bool.and_true, Bool.true_and, Bool.and_eq_true, Bool.and_eq_false_iff, Go.AL.dec_iff, Go.AL.dec_not_iff, Bool.not_eq_true', Bool.not_eq_false', beq_iff_eq, beq_eq_false_iff_ne, bne_iff_ne, bne_eq_false_iff_eq, ne_eq, Go.AL.nbeq_iff, Nat.ble_eq, Nat.blt_eq, List.length_set, List.length_append, List.length_replicate, List.length_cons, List.length_nil, List.length_take, List.length_drop, Int.toNat_natCast, true_and, and_true] <;> omega))) | (refine Go.AL.Ret.neg ?_ ?_; (first | rfl | assumption | (simp only [Go.AL.inI, Go.AL.ltI_eq, Go.AL.leI_eq, Go.AL.nnI_eq, Bool.and_true, Bool.true_and, Bool.and_eq_true, Bool.and_eq_false_iff, Go.AL.dec_iff, Go.AL.dec_not_iff, Bool.not_eq_true', Bool.not_eq_false', beq_iff_eq, beq_eq_false_iff_ne, bne_iff_ne, bne_eq_false_iff_eq, ne_eq, Go.AL.nbeq_iff, Nat.ble_eq, Nat.blt_eq, List.length_set, List.length_append, List.length_replicate, List.length_cons, List.length_nil, List.length_take, List.length_drop, Int.toNat_natCast, true_and, and_true] <;> omega)))))
    refine Ret.call (r_SomeB calls l (a + 1) _ (by omega) (by omega) (by kernel_rfl) (by kernel_rfl)) ?_
    rintro _ ⟨v, rfl, h⟩
    exact Ret.some ⟨v, by (dsimp +instances only [Go.AL.gi0, Go.AL.gis, Go.AL.row1, Go.AL.rows1, Go.AL.int1, Go.AL.str1, Go.AL.bool1]); rw [e2], h⟩

theorem r_SomeContact (l : List (List G)) (a t : Int) (ha : 0 ≤ a) (ha1 : a ≤ 800000) (ht : tight t) :
    Ret (F_pilemake_Stream_SomeContact [.l l, .i a, .i t]) fun g => ∃ b r, g = [.l l, .i b, .l [r]] ∧ a ≤ b ∧ b ≤ a + 20 ∧ ConT r := by
  unfold tight at ht
  unfold F_pilemake_Stream_SomeContact
  (dsimp +instances only [Go.AL.gi0, Go.AL.gis, Go.AL.row1, Go.AL.rows1, Go.AL.int1, Go.AL.str1, Go.AL.bool1])
  refine Ret.call (r_PickB 1 3 l a _ ha (by omega) (by kernel_rfl) (by kernel_rfl)) ?_
  rintro _ ⟨m, rfl, hm⟩
  (dsimp +instances only [Go.AL.gi0, Go.AL.gis, Go.AL.row1, Go.AL.rows1, Go.AL.int1, Go.AL.str1, Go.AL.bool1])
  refine Ret.call (r_SomeB bands l _ _ (by omega) (by omega) (by kernel_rfl) (by kernel_rfl)) ?_
  rintro _ ⟨bd, rfl, hb⟩
  (dsimp +instances only [Go.AL.gi0, Go.AL.gis, Go.AL.row1, Go.AL.rows1, Go.AL.int1, Go.AL.str1, Go.AL.bool1])
  refine Ret.call (r_ACall l _ (by omega) (by omega)) ?_
  rintro _ ⟨c, rfl, hc⟩
  (dsimp +instances only [Go.AL.gi0, Go.AL.gis, Go.AL.row1, Go.AL.rows1, Go.AL.int1, Go.AL.str1, Go.AL.bool1])
  refine Ret.call (r_PickB 0 7 l _ _ (by omega) (by omega) (by kernel_rfl) (by kernel_rfl)) ?_
  rintro _ ⟨s, rfl, hs⟩
  (dsimp +instances only [Go.AL.gi0, Go.AL.gis, Go.AL.row1, Go.AL.rows1, Go.AL.int1, Go.AL.str1, Go.AL.bool1])
  refine Ret.call (r_PickB 0 9 l _ _ (by omega) (by omega) (by kernel_rfl) (by kernel_rfl)) ?_
  rintro _ ⟨h, rfl, hh⟩
  (dsimp +instances only [Go.AL.gi0, Go.AL.gis, Go.AL.row1, Go.AL.rows1, Go.AL.int1, Go.AL.str1, Go.AL.bool1])
  refine Ret.call (r_SomeB names l _ _ (by omega) (by omega) (by kernel_rfl) (by kernel_rfl)) ?_
  rintro _ ⟨x, rfl, hx⟩
  (dsimp +instances only [Go.AL.gi0, Go.AL.gis, Go.AL.row1, Go.AL.rows1, Go.AL.int1, Go.AL.str1, Go.AL.bool1])
  refine Ret.call (r_SomeB names l _ _ (by omega) (by omega) (by kernel_rfl) (by kernel_rfl)) ?_
  rintro _ ⟨y, rfl, hy⟩
  (dsimp +instances only [Go.AL.gi0, Go.AL.gis, Go.AL.row1, Go.AL.rows1, Go.AL.int1, Go.AL.str1, Go.AL.bool1])
  refine Ret.call (r_Flip l _ 100 (by omega) (by omega) (by omega) (by omega)) ?_
  rintro _ ⟨f, rfl⟩
  (dsimp +instances only [Go.AL.gi0, Go.AL.gis, Go.AL.row1, Go.AL.rows1, Go.AL.int1, Go.AL.str1, Go.AL.bool1])
  cases f with
  | false =>
    (repeat (first | (refine Go.AL.Ret.pos ?_ ?_; (first | rfl | assumption | (simp only [Go.AL.inI, Go.AL.ltI_eq, Go.AL.leI_eq, Go.AL.nnI_eq, Bool.and_true, Bool.true_and, Bool.and_eq_true, Bool.and_eq_false_iff, Go.AL.dec_iff, Go.AL.dec_not_iff, Bool.not_eq_true', Bool.not_eq_false', beq_iff_eq, beq_eq_false_iff_ne, bne_iff_ne, bne_eq_false_iff_eq, ne_eq, Go.AL.nbeq_iff, Nat.ble_eq, Nat.blt_eq, List.length_set, List.length_append, List.length_replicate, List.length_cons, List.length_nil, List.length_take, List.length_drop, Int.toNat_natCast, true_and, and_true] <;> omega))) | (refine Go.AL.Ret.neg ?_ ?_; (first | rfl | assumption | (simp only [Go.AL.inI, Go.AL.ltI_eq, Go.AL.leI_eq, Go.AL.nnI_eq, Bool.and_true, Bool.true_and, Bool.and_eq_true, Bool.and_eq_false_iff, Go.AL.dec_iff, Go.AL.dec_not_iff, Bool.not_eq_true', Bool.not_eq_false', beq_iff_eq, beq_eq_false_iff_ne, bne_iff_ne, bne_eq_false_iff_eq, ne_eq, Go.AL.nbeq_iff, Nat.ble_eq, Nat.blt_eq, List.length_set, List.length_append, List.length_replicate, List.length_cons, List.length_nil, List.length_take, List.length_drop, Int.toNat_natCast, true_and, and_true] <;> omega)))))
    exact Ret.some ⟨_, _, rfl, by omega, by omega, t, m, bd, c, s, h, x, y, rfl, ht, ⟨by omega, by omega⟩, ⟨by omega, by omega⟩, ⟨by omega, by omega⟩, hb, hc, hx, hy⟩
  | true =>
    (repeat (first | (refine Go.AL.Ret.pos ?_ ?_; (first | rfl | assumption | (simp only [Go.AL.inI, Go.AL.ltI_eq, Go.AL.leI_eq, Go.AL.nnI_eq, Bool.and_true, Bool.true_and, Bool.and_eq_true, Bool.and_eq_false_iff, Go.AL.dec_iff, Go.AL.dec_not_iff, Bool.not_eq_true', Bool.not_eq_false', beq_iff_eq, beq_eq_false_iff_ne, bne_iff_ne, bne_eq_false_iff_eq, ne_eq, Go.AL.nbeq_iff, Nat.ble_eq, Nat.blt_eq, List.length_set, List.length_append, List.length_replicate, List.length_cons, List.length_nil, List.length_take, List.length_drop, Int.toNat_natCast, true_and, and_true] <;> omega))) | (refine Go.AL.Ret.neg ?_ ?_; (first | rfl | assumption | (simp only [Go.AL.inI, Go.AL.ltI_eq, Go.AL.leI_eq, Go.AL.nnI_eq, Bool.and_true, Bool.true_and, Bool.and_eq_true, Bool.and_eq_false_iff, Go.AL.dec_iff, Go.AL.dec_not_iff, Bool.not_eq_true', Bool.not_eq_false', beq_iff_eq, beq_eq_false_iff_ne, bne_iff_ne, bne_eq_false_iff_eq, ne_eq, Go.AL.nbeq_iff, Nat.ble_eq, Nat.blt_eq, List.length_set, List.length_append, List.length_replicate, List.length_cons, List.length_nil, List.length_take, List.length_drop, Int.toNat_natCast, true_and, and_true] <;> omega)))))
    refine Ret.call (r_Next l _ 4 (by omega) (by omega) (by omega) (by omega)) ?_
    rintro _ ⟨k, rfl, hk⟩
    (dsimp +instances only [Go.AL.gi0, Go.AL.gis, Go.AL.row1, Go.AL.rows1, Go.AL.int1, Go.AL.str1, Go.AL.bool1])
    by_cases k0 : k = 0
    · subst k0
      (repeat (first | (refine Go.AL.Ret.pos ?_ ?_; (first | rfl | assumption | (simp only [Go.AL.inI, Go.AL.ltI_eq, Go.AL.leI_eq, Go.AL.nnI_eq, Bool.and_true, Bool.true_and, Bool.and_eq_true, Bool.and_eq_false_iff, Go.AL.dec_iff, Go.AL.dec_not_iff, Bool.not_eq_true', Bool.not_eq_false', beq_iff_eq, beq_eq_false_iff_ne, bne_iff_ne, bne_eq_false_iff_eq, ne_eq, Go.AL.nbeq_iff, Nat.ble_eq, Nat.blt_eq, List.length_set, List.length_append, List.length_replicate, List.length_cons, List.length_nil, List.length_take, List.length_drop, Int.toNat_natCast, true_and, and_true] <;> omega))) | (refine Go.AL.Ret.neg ?_ ?_; (first | rfl | assumption | (simp only [Go.AL.inI, Go.AL.ltI_eq, Go.AL.leI_eq, Go.AL.nnI_eq, Bool.and_true, Bool.true_and, Bool.and_eq_true, Bool.and_eq_false_iff, Go.AL.dec_iff, Go.AL.dec_not_iff, Bool.not_eq_true', Bool.not_eq_false', beq_iff_eq, beq_eq_false_iff_ne, bne_iff_ne, bne_eq_false_iff_eq, ne_eq, Go.AL.nbeq_iff, Nat.ble_eq, Nat.blt_eq, List.length_set, List.length_append, List.length_replicate, List.length_cons, List.length_nil, List.length_take, List.length_drop, Int.toNat_natCast, true_and, and_true] <;> omega)))))
      refine Ret.call (r_Odd l _ 0 500 (by omega) (by omega) (by omega) (by omega) (by omega)) ?_
      rintro _ ⟨t', rfl, ht'⟩
      (dsimp +instances only [Go.AL.gi0, Go.AL.gis, Go.AL.row1, Go.AL.rows1, Go.AL.int1, Go.AL.str1, Go.AL.bool1])
      refine Ret.call (r_Odd l _ 1 3 (by omega) (by omega) (by omega) (by omega) (by omega)) ?_
      rintro _ ⟨m', rfl, hm'⟩
      (dsimp +instances only [Go.AL.gi0, Go.AL.gis, Go.AL.row1, Go.AL.rows1, Go.AL.int1, Go.AL.str1, Go.AL.bool1])
      exact Ret.some ⟨_, _, rfl, by omega, by omega, t', m', bd, c, s, h, x, y, rfl, ⟨by omega, by omega⟩, ⟨by omega, by omega⟩, ⟨by omega, by omega⟩, ⟨by omega, by omega⟩, hb, hc, hx, hy⟩
    · refine Ret.neg (by simpa using k0) ?_
      by_cases k1 : k = 1
      · subst k1
        (repeat (first | (refine Go.AL.Ret.pos ?_ ?_; (first | rfl | assumption | (simp only [Go.AL.inI, Go.AL.ltI_eq, Go.AL.leI_eq, Go.AL.nnI_eq, Bool.and_true, Bool.true_and, Bool.and_eq_true, Bool.and_eq_false_iff, Go.AL.dec_iff, Go.AL.dec_not_iff, Bool.not_eq_true', Bool.not_eq_false', beq_iff_eq, beq_eq_false_iff_ne, bne_iff_ne, bne_eq_false_iff_eq, ne_eq, Go.AL.nbeq_iff, Nat.ble_eq, Nat.blt_eq, List.length_set, List.length_append, List.length_replicate, List.length_cons, List.length_nil, List.length_take, List.length_drop, Int.toNat_natCast, true_and, and_true] <;> omega))) | (refine Go.AL.Ret.neg ?_ ?_; (first | rfl | assumption | (simp only [Go.AL.inI, Go.AL.ltI_eq, Go.AL.leI_eq, Go.AL.nnI_eq, Bool.and_true, Bool.true_and, Bool.and_eq_true, Bool.and_eq_false_iff, Go.AL.dec_iff, Go.AL.dec_not_iff, Bool.not_eq_true', Bool.not_eq_false', beq_iff_eq, beq_eq_false_iff_ne, bne_iff_ne, bne_eq_false_iff_eq, ne_eq, Go.AL.nbeq_iff, Nat.ble_eq, Nat.blt_eq, List.length_set, List.length_append, List.length_replicate, List.length_cons, List.length_nil, List.length_take, List.length_drop, Int.toNat_natCast, true_and, and_true] <;> omega)))))
        refine Ret.call (r_SomeB bands l _ _ (by omega) (by omega) (by kernel_rfl) (by kernel_rfl)) ?_
        rintro _ ⟨b', rfl, hb'⟩
        (dsimp +instances only [Go.AL.gi0, Go.AL.gis, Go.AL.row1, Go.AL.rows1, Go.AL.int1, Go.AL.str1, Go.AL.bool1])
        exact Ret.some ⟨_, _, rfl, by omega, by omega, t, m, b', c, s, h, x, y, rfl, ht, ⟨by omega, by omega⟩, ⟨by omega, by omega⟩, ⟨by omega, by omega⟩, hb', hc, hx, hy⟩
      · refine Ret.neg (by simpa using k1) ?_
        by_cases k2 : k = 2
        · subst k2
          (repeat (first | (refine Go.AL.Ret.pos ?_ ?_; (first | rfl | assumption | (simp only [Go.AL.inI, Go.AL.ltI_eq, Go.AL.leI_eq, Go.AL.nnI_eq, Bool.and_true, Bool.true_and, Bool.and_eq_true, Bool.and_eq_false_iff, Go.AL.dec_iff, Go.AL.dec_not_iff, Bool.not_eq_true', Bool.not_eq_false', beq_iff_eq, beq_eq_false_iff_ne, bne_iff_ne, bne_eq_false_iff_eq, ne_eq, Go.AL.nbeq_iff, Nat.ble_eq, Nat.blt_eq, List.length_set, List.length_append, List.length_replicate, List.length_cons, List.length_nil, List.length_take, List.length_drop, Int.toNat_natCast, true_and, and_true] <;> omega))) | (refine Go.AL.Ret.neg ?_ ?_; (first | rfl | assumption | (simp only [Go.AL.inI, Go.AL.ltI_eq, Go.AL.leI_eq, Go.AL.nnI_eq, Bool.and_true, Bool.true_and, Bool.and_eq_true, Bool.and_eq_false_iff, Go.AL.dec_iff, Go.AL.dec_not_iff, Bool.not_eq_true', Bool.not_eq_false', beq_iff_eq, beq_eq_false_iff_ne, bne_iff_ne, bne_eq_false_iff_eq, ne_eq, Go.AL.nbeq_iff, Nat.ble_eq, Nat.blt_eq, List.length_set, List.length_append, List.length_replicate, List.length_cons, List.length_nil, List.length_take, List.length_drop, Int.toNat_natCast, true_and, and_true] <;> omega)))))
          refine Ret.call (r_Odd l _ 0 99999 (by omega) (by omega) (by omega) (by omega) (by omega)) ?_
          rintro _ ⟨s', rfl, hs'⟩
          (dsimp +instances only [Go.AL.gi0, Go.AL.gis, Go.AL.row1, Go.AL.rows1, Go.AL.int1, Go.AL.str1, Go.AL.bool1])
          refine Ret.call (r_Odd l _ 0 99999 (by omega) (by omega) (by omega) (by omega) (by omega)) ?_
          rintro _ ⟨h', rfl, hh'⟩
          (dsimp +instances only [Go.AL.gi0, Go.AL.gis, Go.AL.row1, Go.AL.rows1, Go.AL.int1, Go.AL.str1, Go.AL.bool1])
          exact Ret.some ⟨_, _, rfl, by omega, by omega, t, m, bd, c, s', h', x, y, rfl, ht, ⟨by omega, by omega⟩, ⟨by omega, by omega⟩, ⟨by omega, by omega⟩, hb, hc, hx, hy⟩
        · refine Ret.neg (by simpa using k2) ?_
          refine Ret.call (r_SomeB names l _ _ (by omega) (by omega) (by kernel_rfl) (by kernel_rfl)) ?_
          rintro _ ⟨x', rfl, hx'⟩
          (dsimp +instances only [Go.AL.gi0, Go.AL.gis, Go.AL.row1, Go.AL.rows1, Go.AL.int1, Go.AL.str1, Go.AL.bool1])
          refine Ret.call (r_SomeB names l _ _ (by omega) (by omega) (by kernel_rfl) (by kernel_rfl)) ?_
          rintro _ ⟨y', rfl, hy'⟩
          (dsimp +instances only [Go.AL.gi0, Go.AL.gis, Go.AL.row1, Go.AL.rows1, Go.AL.int1, Go.AL.str1, Go.AL.bool1])
          exact Ret.some ⟨_, _, rfl, by omega, by omega, t, m, bd, c, s, h, x', y', rfl, ht, ⟨by omega, by omega⟩, ⟨by omega, by omega⟩, ⟨by omega, by omega⟩, hb, hc, hx', hy'⟩

end Go.Proofs.SYtpfhjchbegdgdaaGreatDoor

namespace Go.Proofs.SYtpfhjchbegdgdaaGreatDoor
open Go Go.AL Go.Proofs

def cmpI (a b : Int) : Int := if a < b then -1 else if b < a then 1 else 0

theorem compareBytes_zero : ∀ {a b : List UInt8}, Lib.compareBytes a b = 0 → a = b
  | [], [], _ => rfl
  | [], _ :: _, h => by simp [Lib.compareBytes] at h
  | _ :: _, [], h => by simp [Lib.compareBytes] at h
  | x :: a, y :: b, h => by
    unfold Lib.compareBytes at h
    split at h
    · cases h
    · split at h
      · cases h
      · rename_i h1 h2
        rw [compareBytes_zero h, UInt8.le_antisymm (UInt8.not_lt.1 h2) (UInt8.not_lt.1 h1)]
theorem compareBytes_self : ∀ a : List UInt8, Lib.compareBytes a a = 0
  | [] => rfl
  | x :: a => by simp [Lib.compareBytes, compareBytes_self a]

theorem str_eq (a b : ByteArray) : (a.toList == b.toList) = decide (cmpS a b = 0) := by
  rw [ByteArray.toList_eq, ByteArray.toList_eq, Bool.eq_iff_iff, decide_eq_true_eq, beq_iff_eq]
  constructor
  · intro h
    unfold cmpS
    rw [h]
    exact compareBytes_self _
  · exact fun h => compareBytes_zero h

def or4 (a b c d : Int) : Int := if a ≠ 0 then a else if b ≠ 0 then b else if c ≠ 0 then c else d
/-- How contacts are ordered. -/
def ordC (r s : List G) : Int := or4 (cmpI (gi r 0).int (gi s 0).int) (cmpS (gi r 3).str (gi s 3).str) (cmpS (gi r 2).str (gi s 2).str) (cmpI (gi r 1).int (gi s 1).int)

theorem sign_eq (a b : Int) : F_pileref2_sign [.i (a - b)] = some [.i (cmpI a b)] := by
  refine Ret.toEq ?_
  unfold F_pileref2_sign cmpI
  (dsimp +instances only [Go.AL.gi0, Go.AL.gis, Go.AL.row1, Go.AL.rows1, Go.AL.int1, Go.AL.str1, Go.AL.bool1])
  by_cases h1 : a < b
  · (repeat (first | (refine Go.AL.Ret.pos ?_ ?_; (first | rfl | assumption | (simp only [Go.AL.inI, Go.AL.ltI_eq, Go.AL.leI_eq, Go.AL.nnI_eq, Bool.and_true, Bool.true_and, Bool.and_eq_true, Bool.and_eq_false_iff, Go.AL.dec_iff, Go.AL.dec_not_iff, Bool.not_eq_true', Bool.not_eq_false', beq_iff_eq, beq_eq_false_iff_ne, bne_iff_ne, bne_eq_false_iff_eq, ne_eq, Go.AL.nbeq_iff, Nat.ble_eq, Nat.blt_eq, List.length_set, List.length_append, List.length_replicate, List.length_cons, List.length_nil, List.length_take, List.length_drop, Int.toNat_natCast, true_and, and_true] <;> omega))) | (refine Go.AL.Ret.neg ?_ ?_; (first | rfl | assumption | (simp only [Go.AL.inI, Go.AL.ltI_eq, Go.AL.leI_eq, Go.AL.nnI_eq, Bool.and_true, Bool.true_and, Bool.and_eq_true, Bool.and_eq_false_iff, Go.AL.dec_iff, Go.AL.dec_not_iff, Bool.not_eq_true', Bool.not_eq_false', beq_iff_eq, beq_eq_false_iff_ne, bne_iff_ne, bne_eq_false_iff_eq, ne_eq, Go.AL.nbeq_iff, Nat.ble_eq, Nat.blt_eq, List.length_set, List.length_append, List.length_replicate, List.length_cons, List.length_nil, List.length_take, List.length_drop, Int.toNat_natCast, true_and, and_true] <;> omega)))))
    exact Ret.some (by simp [h1])
  · by_cases h2 : b < a
    · (repeat (first | (refine Go.AL.Ret.pos ?_ ?_; (first | rfl | assumption | (simp only [Go.AL.inI, Go.AL.ltI_eq, Go.AL.leI_eq, Go.AL.nnI_eq, Bool.and_true, Bool.true_and, Bool.and_eq_true, Bool.and_eq_false_iff, Go.AL.dec_iff, Go.AL.dec_not_iff, Bool.not_eq_true', Bool.not_eq_false', beq_iff_eq, beq_eq_false_iff_ne, bne_iff_ne, bne_eq_false_iff_eq, ne_eq, Go.AL.nbeq_iff, Nat.ble_eq, Nat.blt_eq, List.length_set, List.length_append, List.length_replicate, List.length_cons, List.length_nil, List.length_take, List.length_drop, Int.toNat_natCast, true_and, and_true] <;> omega))) | (refine Go.AL.Ret.neg ?_ ?_; (first | rfl | assumption | (simp only [Go.AL.inI, Go.AL.ltI_eq, Go.AL.leI_eq, Go.AL.nnI_eq, Bool.and_true, Bool.true_and, Bool.and_eq_true, Bool.and_eq_false_iff, Go.AL.dec_iff, Go.AL.dec_not_iff, Bool.not_eq_true', Bool.not_eq_false', beq_iff_eq, beq_eq_false_iff_ne, bne_iff_ne, bne_eq_false_iff_eq, ne_eq, Go.AL.nbeq_iff, Nat.ble_eq, Nat.blt_eq, List.length_set, List.length_append, List.length_replicate, List.length_cons, List.length_nil, List.length_take, List.length_drop, Int.toNat_natCast, true_and, and_true] <;> omega)))))
      exact Ret.some (by simp [h1, h2])
    · (repeat (first | (refine Go.AL.Ret.pos ?_ ?_; (first | rfl | assumption | (simp only [Go.AL.inI, Go.AL.ltI_eq, Go.AL.leI_eq, Go.AL.nnI_eq, Bool.and_true, Bool.true_and, Bool.and_eq_true, Bool.and_eq_false_iff, Go.AL.dec_iff, Go.AL.dec_not_iff, Bool.not_eq_true', Bool.not_eq_false', beq_iff_eq, beq_eq_false_iff_ne, bne_iff_ne, bne_eq_false_iff_eq, ne_eq, Go.AL.nbeq_iff, Nat.ble_eq, Nat.blt_eq, List.length_set, List.length_append, List.length_replicate, List.length_cons, List.length_nil, List.length_take, List.length_drop, Int.toNat_natCast, true_and, and_true] <;> omega))) | (refine Go.AL.Ret.neg ?_ ?_; (first | rfl | assumption | (simp only [Go.AL.inI, Go.AL.ltI_eq, Go.AL.leI_eq, Go.AL.nnI_eq, Bool.and_true, Bool.true_and, Bool.and_eq_true, Bool.and_eq_false_iff, Go.AL.dec_iff, Go.AL.dec_not_iff, Bool.not_eq_true', Bool.not_eq_false', beq_iff_eq, beq_eq_false_iff_ne, bne_iff_ne, bne_eq_false_iff_eq, ne_eq, Go.AL.nbeq_iff, Nat.ble_eq, Nat.blt_eq, List.length_set, List.length_append, List.length_replicate, List.length_cons, List.length_nil, List.length_take, List.length_drop, Int.toNat_natCast, true_and, and_true] <;> omega)))))
      exact Ret.some (by simp [h1, h2])

theorem order_eq {r s : List G} (hr : Con r) (hs : Con s) : F_pileref2_ContactOrder [.l [r], .l [s]] = some [.i (ordC r s)] := by
  obtain ⟨t, m, b, c, _, _, _, _, rfl, ht, hm, _⟩ := hr
  obtain ⟨t', m', b', c', _, _, _, _, rfl, ht', hm', _⟩ := hs
  unfold small at *
  refine Ret.toEq ?_
  unfold F_pileref2_ContactOrder ordC or4
  (dsimp +instances only [Go.AL.gi0, Go.AL.gis, Go.AL.row1, Go.AL.rows1, Go.AL.int1, Go.AL.str1, Go.AL.bool1])
  simp only [str_eq]
  by_cases e1 : t = t'
  · subst e1
    have z : cmpI t t = 0 := by simp [cmpI]
    simp only [z]
    (repeat (first | (refine Go.AL.Ret.pos ?_ ?_; (first | rfl | assumption | (simp only [Go.AL.inI, Go.AL.ltI_eq, Go.AL.leI_eq, Go.AL.nnI_eq, Bool.and_true, Bool.true_and, Bool.and_eq_true, Bool.and_eq_false_iff, Go.AL.dec_iff, Go.AL.dec_not_iff, Bool.not_eq_true', Bool.not_eq_false', beq_iff_eq, beq_eq_false_iff_ne, bne_iff_ne, bne_eq_false_iff_eq, ne_eq, Go.AL.nbeq_iff, Nat.ble_eq, Nat.blt_eq, List.length_set, List.length_append, List.length_replicate, List.length_cons, List.length_nil, List.length_take, List.length_drop, Int.toNat_natCast, true_and, and_true] <;> omega))) | (refine Go.AL.Ret.neg ?_ ?_; (first | rfl | assumption | (simp only [Go.AL.inI, Go.AL.ltI_eq, Go.AL.leI_eq, Go.AL.nnI_eq, Bool.and_true, Bool.true_and, Bool.and_eq_true, Bool.and_eq_false_iff, Go.AL.dec_iff, Go.AL.dec_not_iff, Bool.not_eq_true', Bool.not_eq_false', beq_iff_eq, beq_eq_false_iff_ne, bne_iff_ne, bne_eq_false_iff_eq, ne_eq, Go.AL.nbeq_iff, Nat.ble_eq, Nat.blt_eq, List.length_set, List.length_append, List.length_replicate, List.length_cons, List.length_nil, List.length_take, List.length_drop, Int.toNat_natCast, true_and, and_true] <;> omega)))))
    by_cases e2 : cmpS c c' = 0
    · simp only [e2]
      (repeat (first | (refine Go.AL.Ret.pos ?_ ?_; (first | rfl | assumption | (simp only [Go.AL.inI, Go.AL.ltI_eq, Go.AL.leI_eq, Go.AL.nnI_eq, Bool.and_true, Bool.true_and, Bool.and_eq_true, Bool.and_eq_false_iff, Go.AL.dec_iff, Go.AL.dec_not_iff, Bool.not_eq_true', Bool.not_eq_false', beq_iff_eq, beq_eq_false_iff_ne, bne_iff_ne, bne_eq_false_iff_eq, ne_eq, Go.AL.nbeq_iff, Nat.ble_eq, Nat.blt_eq, List.length_set, List.length_append, List.length_replicate, List.length_cons, List.length_nil, List.length_take, List.length_drop, Int.toNat_natCast, true_and, and_true] <;> omega))) | (refine Go.AL.Ret.neg ?_ ?_; (first | rfl | assumption | (simp only [Go.AL.inI, Go.AL.ltI_eq, Go.AL.leI_eq, Go.AL.nnI_eq, Bool.and_true, Bool.true_and, Bool.and_eq_true, Bool.and_eq_false_iff, Go.AL.dec_iff, Go.AL.dec_not_iff, Bool.not_eq_true', Bool.not_eq_false', beq_iff_eq, beq_eq_false_iff_ne, bne_iff_ne, bne_eq_false_iff_eq, ne_eq, Go.AL.nbeq_iff, Nat.ble_eq, Nat.blt_eq, List.length_set, List.length_append, List.length_replicate, List.length_cons, List.length_nil, List.length_take, List.length_drop, Int.toNat_natCast, true_and, and_true] <;> omega)))))
      by_cases e3 : cmpS b b' = 0
      · simp only [e3]
        (repeat (first | (refine Go.AL.Ret.pos ?_ ?_; (first | rfl | assumption | (simp only [Go.AL.inI, Go.AL.ltI_eq, Go.AL.leI_eq, Go.AL.nnI_eq, Bool.and_true, Bool.true_and, Bool.and_eq_true, Bool.and_eq_false_iff, Go.AL.dec_iff, Go.AL.dec_not_iff, Bool.not_eq_true', Bool.not_eq_false', beq_iff_eq, beq_eq_false_iff_ne, bne_iff_ne, bne_eq_false_iff_eq, ne_eq, Go.AL.nbeq_iff, Nat.ble_eq, Nat.blt_eq, List.length_set, List.length_append, List.length_replicate, List.length_cons, List.length_nil, List.length_take, List.length_drop, Int.toNat_natCast, true_and, and_true] <;> omega))) | (refine Go.AL.Ret.neg ?_ ?_; (first | rfl | assumption | (simp only [Go.AL.inI, Go.AL.ltI_eq, Go.AL.leI_eq, Go.AL.nnI_eq, Bool.and_true, Bool.true_and, Bool.and_eq_true, Bool.and_eq_false_iff, Go.AL.dec_iff, Go.AL.dec_not_iff, Bool.not_eq_true', Bool.not_eq_false', beq_iff_eq, beq_eq_false_iff_ne, bne_iff_ne, bne_eq_false_iff_eq, ne_eq, Go.AL.nbeq_iff, Nat.ble_eq, Nat.blt_eq, List.length_set, List.length_append, List.length_replicate, List.length_cons, List.length_nil, List.length_take, List.length_drop, Int.toNat_natCast, true_and, and_true] <;> omega)))))
        refine Ret.call (Ret.eq (sign_eq m m')) ?_
        rintro _ rfl
        (dsimp +instances only [Go.AL.gi0, Go.AL.gis, Go.AL.row1, Go.AL.rows1, Go.AL.int1, Go.AL.str1, Go.AL.bool1])
        exact Ret.some (by simp)
      · refine Ret.pos (by simpa using e3) (Ret.call (Ret.eq (rfl : F_strings_Compare [.s b, .s b'] = some [.i (cmpS b b')])) ?_)
        rintro _ rfl
        (dsimp +instances only [Go.AL.gi0, Go.AL.gis, Go.AL.row1, Go.AL.rows1, Go.AL.int1, Go.AL.str1, Go.AL.bool1])
        exact Ret.some (by simp [e3])
    · refine Ret.pos (by simpa using e2) (Ret.call (Ret.eq (rfl : F_strings_Compare [.s c, .s c'] = some [.i (cmpS c c')])) ?_)
      rintro _ rfl
      (dsimp +instances only [Go.AL.gi0, Go.AL.gis, Go.AL.row1, Go.AL.rows1, Go.AL.int1, Go.AL.str1, Go.AL.bool1])
      exact Ret.some (by simp [e2])
  · (repeat (first | (refine Go.AL.Ret.pos ?_ ?_; (first | rfl | assumption | (simp only [Go.AL.inI, Go.AL.ltI_eq, Go.AL.leI_eq, Go.AL.nnI_eq, Bool.and_true, Bool.true_and, Bool.and_eq_true, Bool.and_eq_false_iff, Go.AL.dec_iff, Go.AL.dec_not_iff, Bool.not_eq_true', Bool.not_eq_false', beq_iff_eq, beq_eq_false_iff_ne, bne_iff_ne, bne_eq_false_iff_eq, ne_eq, Go.AL.nbeq_iff, Nat.ble_eq, Nat.blt_eq, List.length_set, List.length_append, List.length_replicate, List.length_cons, List.length_nil, List.length_take, List.length_drop, Int.toNat_natCast, true_and, and_true] <;> omega))) | (refine Go.AL.Ret.neg ?_ ?_; (first | rfl | assumption | (simp only [Go.AL.inI, Go.AL.ltI_eq, Go.AL.leI_eq, Go.AL.nnI_eq, Bool.and_true, Bool.true_and, Bool.and_eq_true, Bool.and_eq_false_iff, Go.AL.dec_iff, Go.AL.dec_not_iff, Bool.not_eq_true', Bool.not_eq_false', beq_iff_eq, beq_eq_false_iff_ne, bne_iff_ne, bne_eq_false_iff_eq, ne_eq, Go.AL.nbeq_iff, Nat.ble_eq, Nat.blt_eq, List.length_set, List.length_append, List.length_replicate, List.length_cons, List.length_nil, List.length_take, List.length_drop, Int.toNat_natCast, true_and, and_true] <;> omega)))))
    refine Ret.call (Ret.eq (sign_eq t t')) ?_
    rintro _ rfl
    (dsimp +instances only [Go.AL.gi0, Go.AL.gis, Go.AL.row1, Go.AL.rows1, Go.AL.int1, Go.AL.str1, Go.AL.bool1])
    have z : cmpI t t' ≠ 0 := by
      unfold cmpI
      split
      · omega
      · split <;> omega
    exact Ret.some (by simp [z])

theorem cmpInt_eq (a b : Int) : F_cmp_Compare_int [.i a, .i b] = some [.i (cmpI a b)] := by
  refine Ret.toEq ?_
  unfold F_cmp_Compare_int F_cmp_isNaN_int cmpI
  (dsimp +instances only [Go.AL.gi0, Go.AL.gis, Go.AL.row1, Go.AL.rows1, Go.AL.int1, Go.AL.str1, Go.AL.bool1])
  simp only [bne_self_eq_false]
  refine Ret.call ⟨_, rfl, rfl⟩ ?_
  rintro _ rfl
  refine Ret.call ⟨_, rfl, rfl⟩ ?_
  rintro _ rfl
  (dsimp +instances only [Go.AL.gi0, Go.AL.gis, Go.AL.row1, Go.AL.rows1, Go.AL.int1, Go.AL.str1, Go.AL.bool1])
  (repeat (first | (refine Go.AL.Ret.pos ?_ ?_; (first | rfl | assumption | (simp only [Go.AL.inI, Go.AL.ltI_eq, Go.AL.leI_eq, Go.AL.nnI_eq, Bool.and_true, Bool.true_and, Bool.and_eq_true, Bool.and_eq_false_iff, Go.AL.dec_iff, Go.AL.dec_not_iff, Bool.not_eq_true', Bool.not_eq_false', beq_iff_eq, beq_eq_false_iff_ne, bne_iff_ne, bne_eq_false_iff_eq, ne_eq, Go.AL.nbeq_iff, Nat.ble_eq, Nat.blt_eq, List.length_set, List.length_append, List.length_replicate, List.length_cons, List.length_nil, List.length_take, List.length_drop, Int.toNat_natCast, true_and, and_true] <;> omega))) | (refine Go.AL.Ret.neg ?_ ?_; (first | rfl | assumption | (simp only [Go.AL.inI, Go.AL.ltI_eq, Go.AL.leI_eq, Go.AL.nnI_eq, Bool.and_true, Bool.true_and, Bool.and_eq_true, Bool.and_eq_false_iff, Go.AL.dec_iff, Go.AL.dec_not_iff, Bool.not_eq_true', Bool.not_eq_false', beq_iff_eq, beq_eq_false_iff_ne, bne_iff_ne, bne_eq_false_iff_eq, ne_eq, Go.AL.nbeq_iff, Nat.ble_eq, Nat.blt_eq, List.length_set, List.length_append, List.length_replicate, List.length_cons, List.length_nil, List.length_take, List.length_drop, Int.toNat_natCast, true_and, and_true] <;> omega)))))
  by_cases h1 : a < b
  · (repeat (first | (refine Go.AL.Ret.pos ?_ ?_; (first | rfl | assumption | (simp only [Go.AL.inI, Go.AL.ltI_eq, Go.AL.leI_eq, Go.AL.nnI_eq, Bool.and_true, Bool.true_and, Bool.and_eq_true, Bool.and_eq_false_iff, Go.AL.dec_iff, Go.AL.dec_not_iff, Bool.not_eq_true', Bool.not_eq_false', beq_iff_eq, beq_eq_false_iff_ne, bne_iff_ne, bne_eq_false_iff_eq, ne_eq, Go.AL.nbeq_iff, Nat.ble_eq, Nat.blt_eq, List.length_set, List.length_append, List.length_replicate, List.length_cons, List.length_nil, List.length_take, List.length_drop, Int.toNat_natCast, true_and, and_true] <;> omega))) | (refine Go.AL.Ret.neg ?_ ?_; (first | rfl | assumption | (simp only [Go.AL.inI, Go.AL.ltI_eq, Go.AL.leI_eq, Go.AL.nnI_eq, Bool.and_true, Bool.true_and, Bool.and_eq_true, Bool.and_eq_false_iff, Go.AL.dec_iff, Go.AL.dec_not_iff, Bool.not_eq_true', Bool.not_eq_false', beq_iff_eq, beq_eq_false_iff_ne, bne_iff_ne, bne_eq_false_iff_eq, ne_eq, Go.AL.nbeq_iff, Nat.ble_eq, Nat.blt_eq, List.length_set, List.length_append, List.length_replicate, List.length_cons, List.length_nil, List.length_take, List.length_drop, Int.toNat_natCast, true_and, and_true] <;> omega)))))
    exact Ret.some (by simp [h1])
  · by_cases h2 : b < a
    · (repeat (first | (refine Go.AL.Ret.pos ?_ ?_; (first | rfl | assumption | (simp only [Go.AL.inI, Go.AL.ltI_eq, Go.AL.leI_eq, Go.AL.nnI_eq, Bool.and_true, Bool.true_and, Bool.and_eq_true, Bool.and_eq_false_iff, Go.AL.dec_iff, Go.AL.dec_not_iff, Bool.not_eq_true', Bool.not_eq_false', beq_iff_eq, beq_eq_false_iff_ne, bne_iff_ne, bne_eq_false_iff_eq, ne_eq, Go.AL.nbeq_iff, Nat.ble_eq, Nat.blt_eq, List.length_set, List.length_append, List.length_replicate, List.length_cons, List.length_nil, List.length_take, List.length_drop, Int.toNat_natCast, true_and, and_true] <;> omega))) | (refine Go.AL.Ret.neg ?_ ?_; (first | rfl | assumption | (simp only [Go.AL.inI, Go.AL.ltI_eq, Go.AL.leI_eq, Go.AL.nnI_eq, Bool.and_true, Bool.true_and, Bool.and_eq_true, Bool.and_eq_false_iff, Go.AL.dec_iff, Go.AL.dec_not_iff, Bool.not_eq_true', Bool.not_eq_false', beq_iff_eq, beq_eq_false_iff_ne, bne_iff_ne, bne_eq_false_iff_eq, ne_eq, Go.AL.nbeq_iff, Nat.ble_eq, Nat.blt_eq, List.length_set, List.length_append, List.length_replicate, List.length_cons, List.length_nil, List.length_take, List.length_drop, Int.toNat_natCast, true_and, and_true] <;> omega)))))
      exact Ret.some (by simp [h1, h2])
    · (repeat (first | (refine Go.AL.Ret.pos ?_ ?_; (first | rfl | assumption | (simp only [Go.AL.inI, Go.AL.ltI_eq, Go.AL.leI_eq, Go.AL.nnI_eq, Bool.and_true, Bool.true_and, Bool.and_eq_true, Bool.and_eq_false_iff, Go.AL.dec_iff, Go.AL.dec_not_iff, Bool.not_eq_true', Bool.not_eq_false', beq_iff_eq, beq_eq_false_iff_ne, bne_iff_ne, bne_eq_false_iff_eq, ne_eq, Go.AL.nbeq_iff, Nat.ble_eq, Nat.blt_eq, List.length_set, List.length_append, List.length_replicate, List.length_cons, List.length_nil, List.length_take, List.length_drop, Int.toNat_natCast, true_and, and_true] <;> omega))) | (refine Go.AL.Ret.neg ?_ ?_; (first | rfl | assumption | (simp only [Go.AL.inI, Go.AL.ltI_eq, Go.AL.leI_eq, Go.AL.nnI_eq, Bool.and_true, Bool.true_and, Bool.and_eq_true, Bool.and_eq_false_iff, Go.AL.dec_iff, Go.AL.dec_not_iff, Bool.not_eq_true', Bool.not_eq_false', beq_iff_eq, beq_eq_false_iff_ne, bne_iff_ne, bne_eq_false_iff_eq, ne_eq, Go.AL.nbeq_iff, Nat.ble_eq, Nat.blt_eq, List.length_set, List.length_append, List.length_replicate, List.length_cons, List.length_nil, List.length_take, List.length_drop, Int.toNat_natCast, true_and, and_true] <;> omega)))))
      exact Ret.some (by simp [h1, h2])

def orL : List (List G) → Int
  | [] => 0
  | x :: q => if (gi x 0).int ≠ 0 then (gi x 0).int else orL q

theorem or_runs : ∀ (q p : List (List G)), p.length + q.length < 100000 →
    RetN st_cmp_Or_int_3 [.i 0, .l (p ++ q), .i ((p.length + q.length : Nat) : Int), .i (p.length : Int)] (q.length + 1) fun c g => c ≤ 1 ∧ g = [.i (orL q)]
  | [], p, hl => by
    refine RetN.stop (x := 1) (Ret.toEq ?_) ⟨by omega, rfl⟩
    unfold st_cmp_Or_int_3
    (dsimp +instances only [Go.AL.gi0, Go.AL.gis, Go.AL.row1, Go.AL.rows1, Go.AL.int1, Go.AL.str1, Go.AL.bool1])
    (repeat (first | (refine Go.AL.Ret.pos ?_ ?_; (first | rfl | assumption | (simp only [Go.AL.inI, Go.AL.ltI_eq, Go.AL.leI_eq, Go.AL.nnI_eq, Bool.and_true, Bool.true_and, Bool.and_eq_true, Bool.and_eq_false_iff, Go.AL.dec_iff, Go.AL.dec_not_iff, Bool.not_eq_true', Bool.not_eq_false', beq_iff_eq, beq_eq_false_iff_ne, bne_iff_ne, bne_eq_false_iff_eq, ne_eq, Go.AL.nbeq_iff, Nat.ble_eq, Nat.blt_eq, List.length_set, List.length_append, List.length_replicate, List.length_cons, List.length_nil, List.length_take, List.length_drop, Int.toNat_natCast, true_and, and_true] <;> omega))) | (refine Go.AL.Ret.neg ?_ ?_; (first | rfl | assumption | (simp only [Go.AL.inI, Go.AL.ltI_eq, Go.AL.leI_eq, Go.AL.nnI_eq, Bool.and_true, Bool.true_and, Bool.and_eq_true, Bool.and_eq_false_iff, Go.AL.dec_iff, Go.AL.dec_not_iff, Bool.not_eq_true', Bool.not_eq_false', beq_iff_eq, beq_eq_false_iff_ne, bne_iff_ne, bne_eq_false_iff_eq, ne_eq, Go.AL.nbeq_iff, Nat.ble_eq, Nat.blt_eq, List.length_set, List.length_append, List.length_replicate, List.length_cons, List.length_nil, List.length_take, List.length_drop, Int.toNat_natCast, true_and, and_true] <;> omega)))))
    exact Ret.some rfl
  | y :: q, p, hl => by
    simp only [List.length_cons] at hl
    have g1 : (p ++ y :: q).getD (p.length : Int).toNat [] = y := getD_mid _ _ _ _ _ (by simp)
    have hlen : (p ++ y :: q).length = p.length + q.length + 1 := by simp; omega
    by_cases he : (gi y 0).int = 0
    · have ih := or_runs q (p ++ [y]) (by simp; omega)
      have e : orL (y :: q) = orL q := by simp [orL, he]
      rw [e]
      refine RetN.next (Ret.toEq ?_) ih
      unfold st_cmp_Or_int_3
      (dsimp +instances only [Go.AL.gi0, Go.AL.gis, Go.AL.row1, Go.AL.rows1, Go.AL.int1, Go.AL.str1, Go.AL.bool1])
      simp only [g1, hlen, List.length_cons]
      (repeat (first | (refine Go.AL.Ret.pos ?_ ?_; (first | rfl | assumption | (simp only [Go.AL.inI, Go.AL.ltI_eq, Go.AL.leI_eq, Go.AL.nnI_eq, Bool.and_true, Bool.true_and, Bool.and_eq_true, Bool.and_eq_false_iff, Go.AL.dec_iff, Go.AL.dec_not_iff, Bool.not_eq_true', Bool.not_eq_false', beq_iff_eq, beq_eq_false_iff_ne, bne_iff_ne, bne_eq_false_iff_eq, ne_eq, Go.AL.nbeq_iff, Nat.ble_eq, Nat.blt_eq, List.length_set, List.length_append, List.length_replicate, List.length_cons, List.length_nil, List.length_take, List.length_drop, Int.toNat_natCast, true_and, and_true] <;> omega))) | (refine Go.AL.Ret.neg ?_ ?_; (first | rfl | assumption | (simp only [Go.AL.inI, Go.AL.ltI_eq, Go.AL.leI_eq, Go.AL.nnI_eq, Bool.and_true, Bool.true_and, Bool.and_eq_true, Bool.and_eq_false_iff, Go.AL.dec_iff, Go.AL.dec_not_iff, Bool.not_eq_true', Bool.not_eq_false', beq_iff_eq, beq_eq_false_iff_ne, bne_iff_ne, bne_eq_false_iff_eq, ne_eq, Go.AL.nbeq_iff, Nat.ble_eq, Nat.blt_eq, List.length_set, List.length_append, List.length_replicate, List.length_cons, List.length_nil, List.length_take, List.length_drop, Int.toNat_natCast, true_and, and_true] <;> omega)))))
      refine Ret.some ?_
      simp
      omega
    · refine RetN.stop (x := 0) (Ret.toEq ?_) ⟨by omega, rfl⟩
      unfold st_cmp_Or_int_3
      (dsimp +instances only [Go.AL.gi0, Go.AL.gis, Go.AL.row1, Go.AL.rows1, Go.AL.int1, Go.AL.str1, Go.AL.bool1])
      simp only [g1, hlen, List.length_cons]
      (repeat (first | (refine Go.AL.Ret.pos ?_ ?_; (first | rfl | assumption | (simp only [Go.AL.inI, Go.AL.ltI_eq, Go.AL.leI_eq, Go.AL.nnI_eq, Bool.and_true, Bool.true_and, Bool.and_eq_true, Bool.and_eq_false_iff, Go.AL.dec_iff, Go.AL.dec_not_iff, Bool.not_eq_true', Bool.not_eq_false', beq_iff_eq, beq_eq_false_iff_ne, bne_iff_ne, bne_eq_false_iff_eq, ne_eq, Go.AL.nbeq_iff, Nat.ble_eq, Nat.blt_eq, List.length_set, List.length_append, List.length_replicate, List.length_cons, List.length_nil, List.length_take, List.length_drop, Int.toNat_natCast, true_and, and_true] <;> omega))) | (refine Go.AL.Ret.neg ?_ ?_; (first | rfl | assumption | (simp only [Go.AL.inI, Go.AL.ltI_eq, Go.AL.leI_eq, Go.AL.nnI_eq, Bool.and_true, Bool.true_and, Bool.and_eq_true, Bool.and_eq_false_iff, Go.AL.dec_iff, Go.AL.dec_not_iff, Bool.not_eq_true', Bool.not_eq_false', beq_iff_eq, beq_eq_false_iff_ne, bne_iff_ne, bne_eq_false_iff_eq, ne_eq, Go.AL.nbeq_iff, Nat.ble_eq, Nat.blt_eq, List.length_set, List.length_append, List.length_replicate, List.length_cons, List.length_nil, List.length_take, List.length_drop, Int.toNat_natCast, true_and, and_true] <;> omega)))))
      refine Ret.some ?_
      simp [orL, he]

theorem or_eq (a b c d : Int) : F_cmp_Or_int [.l [[.i a], [.i b], [.i c], [.i d]]] = some [.i (or4 a b c d)] := by
  refine Ret.toEq ?_
  unfold F_cmp_Or_int
  (dsimp +instances only [Go.AL.gi0, Go.AL.gis, Go.AL.row1, Go.AL.rows1, Go.AL.int1, Go.AL.str1, Go.AL.bool1])
  have h := or_runs [[.i a], [.i b], [.i c], [.i d]] [] (by simp)
  refine Ret.loop (h.to (by simp)) (by (first | rfl | assumption | (simp only [Go.AL.inI, Go.AL.ltI_eq, Go.AL.leI_eq, Go.AL.nnI_eq, Bool.and_true, Bool.true_and, Bool.and_eq_true, Bool.and_eq_false_iff, Go.AL.dec_iff, Go.AL.dec_not_iff, Bool.not_eq_true', Bool.not_eq_false', beq_iff_eq, beq_eq_false_iff_ne, bne_iff_ne, bne_eq_false_iff_eq, ne_eq, Go.AL.nbeq_iff, Nat.ble_eq, Nat.blt_eq, List.length_set, List.length_append, List.length_replicate, List.length_cons, List.length_nil, List.length_take, List.length_drop, Int.toNat_natCast, true_and, and_true] <;> omega))) ?_
  rintro x g ⟨hx, rfl⟩
  have e : orL [[.i a], [.i b], [.i c], [.i d]] = or4 a b c d := by
    simp only [orL, or4]
    (dsimp +instances only [Go.AL.gi0, Go.AL.gis, Go.AL.row1, Go.AL.rows1, Go.AL.int1, Go.AL.str1, Go.AL.bool1])
    by_cases h1 : a = 0 <;> by_cases h2 : b = 0 <;> by_cases h3 : c = 0 <;> by_cases h4 : d = 0 <;> simp [h1, h2, h3, h4]
  rw [e]
  (dsimp +instances only [Go.AL.gi0, Go.AL.gis, Go.AL.row1, Go.AL.rows1, Go.AL.int1, Go.AL.str1, Go.AL.bool1])
  exact Ret.test (fun _ => Ret.some rfl) fun _ => Ret.some rfl

theorem compare_eq {r s : List G} (hr : Con r) (hs : Con s) : F_log_Compare [.l [r], .l [s]] = some [.i (ordC r s)] := by
  obtain ⟨t, m, b, c, _, _, _, _, rfl, ht, hm, _⟩ := hr
  obtain ⟨t', m', b', c', _, _, _, _, rfl, ht', hm', _⟩ := hs
  refine Ret.toEq ?_
  unfold F_log_Compare
  (dsimp +instances only [Go.AL.gi0, Go.AL.gis, Go.AL.row1, Go.AL.rows1, Go.AL.int1, Go.AL.str1, Go.AL.bool1])
  refine Ret.call (Ret.eq (cmpInt_eq t t')) ?_
  rintro _ rfl
  refine Ret.call (Ret.eq (rfl : F_strings_Compare [.s c, .s c'] = some [.i (cmpS c c')])) ?_
  rintro _ rfl
  refine Ret.call (Ret.eq (rfl : F_strings_Compare [.s b, .s b'] = some [.i (cmpS b b')])) ?_
  rintro _ rfl
  refine Ret.call (Ret.eq (cmpInt_eq m m')) ?_
  rintro _ rfl
  (dsimp +instances only [Go.AL.gi0, Go.AL.gis, Go.AL.row1, Go.AL.rows1, Go.AL.int1, Go.AL.str1, Go.AL.bool1])
  refine Ret.call (Ret.eq (or_eq _ _ _ _)) ?_
  rintro _ rfl
  exact Ret.some rfl

theorem cmpOrder : Cmp KContact F_pileref2_ContactOrder Con ordC := ⟨fun _ _ hr hs => order_eq hr hs, fun _ h => h.eta⟩
theorem cmpCompare : Cmp KContact F_log_Compare Con ordC := ⟨fun _ _ hr hs => compare_eq hr hs, fun _ h => h.eta⟩

end Go.Proofs.SYtpfhjchbegdgdaaGreatDoor

namespace Go.Proofs.SYtpfhjchbegdgdaaGreatDoor
open Go Go.AL Go.Proofs

def inB (v lo hi : Int) : Bool := leI lo v && leI v hi
theorem in_eq (v lo hi : Int) : F_pileref2_in [.i v, .i lo, .i hi] = some [.t (inB v lo hi)] := by
  unfold F_pileref2_in inB
  (dsimp +instances only [Go.AL.gi0, Go.AL.gis, Go.AL.row1, Go.AL.rows1, Go.AL.int1, Go.AL.str1, Go.AL.bool1])
  cases leI lo v <;> rfl
theorem outside_eq (v lo hi : Int) : F_kit_Outside [.i v, .i lo, .i hi] = some [.t (!inB v lo hi)] := by
  unfold F_kit_Outside inB
  (dsimp +instances only [Go.AL.gi0, Go.AL.gis, Go.AL.row1, Go.AL.rows1, Go.AL.int1, Go.AL.str1, Go.AL.bool1])
  have h1 : ltI v lo = !leI lo v := by rw [ltI_eq, leI_eq, Bool.eq_iff_iff]; simp
  have h2 : ltI hi v = !leI v hi := by rw [ltI_eq, leI_eq, Bool.eq_iff_iff]; simp
  rw [h1, h2]
  cases leI lo v <;> cases leI v hi <;> rfl

def okKey (s : ByteArray) : Bool := inL [⟨#[98, 50, 48]⟩, ⟨#[98, 52, 48]⟩, ⟨#[102, 105, 110]⟩, ⟨#[117, 115, 97]⟩] s
def okName (s : ByteArray) : Bool := inL [⟨#[]⟩] s || okKey s
def okCall (s : ByteArray) : Bool := (gi ((F_call_Is [.s s]).getD []) 0).bool

theorem isKey_eq {s : ByteArray} (h : s ∈ bands ∨ s ∈ names) : F_kit_IsKey [.s s] = some [.t (okKey s)] := by
  simp only [bands, names, List.mem_cons, List.not_mem_nil, or_false] at h
  rcases h with (rfl | rfl | rfl | rfl) | (rfl | rfl | rfl | rfl | rfl) <;> kernel_rfl
theorem key_eq {s : ByteArray} (h : s ∈ bands ∨ s ∈ names) : F_pileref2_Key [.s s] = some [.t (okKey s)] := by
  simp only [bands, names, List.mem_cons, List.not_mem_nil, or_false] at h
  rcases h with (rfl | rfl | rfl | rfl) | (rfl | rfl | rfl | rfl | rfl) <;> kernel_rfl
theorem isName_eq {s : ByteArray} (h : s ∈ names) : F_kit_IsName [.s s] = some [.t (okName s)] := by
  simp only [names, List.mem_cons, List.not_mem_nil, or_false] at h
  rcases h with (rfl | rfl | rfl | rfl | rfl) <;> kernel_rfl
theorem isCall_eq {s : ByteArray} (h : s ∈ calls) : F_call_Is [.s s] = some [.t (okCall s)] := by
  simp only [calls, List.mem_cons, List.not_mem_nil, or_false] at h
  rcases h with (rfl | rfl | rfl | rfl | rfl | rfl | rfl | rfl | rfl | rfl | rfl | rfl | rfl | rfl) <;> kernel_rfl
theorem call_eq {s : ByteArray} (h : s ∈ calls) : F_pileref2_Call [.s s] = some [.t (okCall s)] := by
  simp only [calls, List.mem_cons, List.not_mem_nil, or_false] at h
  rcases h with (rfl | rfl | rfl | rfl | rfl | rfl | rfl | rfl | rfl | rfl | rfl | rfl | rfl | rfl) <;> kernel_rfl

/-- What is wrong with a contact. -/
def faultC (r : List G) : Int :=
  bif !inB (gi r 0).int 0 345686399999 then 1 else bif !inB (gi r 1).int 1 3 then 4 else bif !okKey (gi r 2).str then 5 else bif !okCall (gi r 3).str then 3 else
  bif !inB (gi r 4).int 0 99999 then 1 else bif !inB (gi r 5).int 0 99999 then 1 else bif !okName (gi r 6).str then 5 else bif !okName (gi r 7).str then 5 else 0

theorem check_eq {r : List G} (hr : Con r) : F_log_CheckContact [.l [r]] = some [.i (faultC r)] := by
  obtain ⟨t, m, b, c, s, h, x, y, rfl, _, _, _, _, hb, hc, hx, hy⟩ := hr
  unfold F_log_CheckContact F_kit_IsMoment F_kit_IsMode faultC
  (dsimp +instances only [Go.AL.gi0, Go.AL.gis, Go.AL.row1, Go.AL.rows1, Go.AL.int1, Go.AL.str1, Go.AL.bool1])
  have kb := isKey_eq (.inl hb)
  have kx := isName_eq hx
  have ky := isName_eq hy
  have kc := isCall_eq hc
  rw [outside_eq t, outside_eq m]
  rw [kb, kc, outside_eq s, outside_eq h, kx, ky]
  generalize inB t 0 345686399999 = b1
  generalize inB m 1 3 = b2
  generalize okKey b = b3
  generalize okCall c = b4
  generalize inB s 0 99999 = b5
  generalize inB h 0 99999 = b6
  generalize okName x = b7
  generalize okName y = b8
  cases b1 <;> cases b2 <;> cases b3 <;> cases b4 <;> cases b5 <;> cases b6 <;> cases b7 <;> cases b8 <;> rfl

theorem empty_eq (s : ByteArray) : (s.toList == (⟨#[]⟩ : ByteArray).toList) = inL [⟨#[]⟩] s := by
  rw [ByteArray.toList_eq, ByteArray.toList_eq]
  simp only [inL, eqS, List.any_cons, List.any_nil, Bool.or_false]
  rw [Bool.eq_iff_iff]
  simp only [beq_iff_eq]
  exact eq_comm

theorem fault_eq {r : List G} (hr : Con r) : F_pileref2_ContactFault [.l [r]] = some [.i (faultC r)] := by
  obtain ⟨t, m, b, c, s, h, x, y, rfl, _, _, _, _, hb, hc, hx, hy⟩ := hr
  unfold F_pileref2_ContactFault F_pileref2_Moment faultC okName
  (dsimp +instances only [Go.AL.gi0, Go.AL.gis, Go.AL.row1, Go.AL.rows1, Go.AL.int1, Go.AL.str1, Go.AL.bool1])
  have kb := key_eq (.inl hb)
  have kx := key_eq (.inr hx)
  have ky := key_eq (.inr hy)
  have kc := call_eq hc
  have ex := empty_eq x
  have ey := empty_eq y
  generalize (⟨#[]⟩ : ByteArray) = z at ex ey ⊢
  simp only [in_eq, callF_some rfl, kb, kc, kx, ky]
  (dsimp +instances only [Go.AL.gi0, Go.AL.gis, Go.AL.row1, Go.AL.rows1, Go.AL.int1, Go.AL.str1, Go.AL.bool1])
  rw [ex, ey]
  generalize inB t 0 345686399999 = b1
  generalize inB m 1 3 = b2
  generalize okKey b = b3
  generalize okCall c = b4
  generalize inB s 0 99999 = b5
  generalize inB h 0 99999 = b6
  generalize okKey x = b7
  generalize okKey y = b8
  generalize inL [z] x = b9
  generalize inL [z] y = b10
  cases b1 <;> cases b2 <;> cases b3 <;> cases b4 <;> cases b5 <;> cases b6 <;> cases b7 <;> cases b8 <;> cases b9 <;> cases b10 <;> rfl

end Go.Proofs.SYtpfhjchbegdgdaaGreatDoor

namespace Go.Proofs.SYtpfhjchbegdgdaaGreatDoor
open Go Go.AL Go.Proofs

def chk4 (K : List Kd) (C D : List G → Option (List G)) (d : List G) : Option (Option Nat × List G) :=
  (bif (ltI (gi d 3).int (gi d 2).int) then (bif ((nnI (gi d 3).int) && (ltI (gi d 3).int (((gi d 1).rows.length : Nat) : Int))) then (callF (C [.l [(gEta K ((gi d 1).rows.getD (((gi d 3).int).toNat) []))]]) fun g1 => (bif ((gi g1 0).int != 0) then some (some 0, [.i (gi g1 0).int]) else (bif (ltI 0 (gi d 3).int) then (bif (inI ((gi d 3).int - 1)) then (bif ((nnI ((gi d 3).int - 1)) && (ltI ((gi d 3).int - 1) (((gi d 0).rows.length : Nat) : Int))) then (callF (D [.l [(gEta K ((gi d 0).rows.getD (((gi d 3).int - 1).toNat) []))], .l [(gEta K ((gi d 1).rows.getD (((gi d 3).int).toNat) []))]]) fun g2 => (bif (leI 0 (gi g2 0).int) then some (some 0, [.i 7]) else (bif (inI ((gi d 3).int + 1)) then some (none, [.l (gi d 0).rows, .l (gi d 1).rows, .i (gi d 2).int, .i ((gi d 3).int + 1)]) else none))) else none) else none) else (bif (inI ((gi d 3).int + 1)) then some (none, [.l (gi d 0).rows, .l (gi d 1).rows, .i (gi d 2).int, .i ((gi d 3).int + 1)]) else none)))) else none) else some (some 1, []))
def chkF (K : List Kd) (C D : List G → Option (List G)) (d : List G) : Option (List G) :=
  (bif (ltI 2000 (((gi d 0).rows.length : Nat) : Int)) then some [.i 2] else (loopB true (LRun (chk4 K C D) [.l (gi d 0).rows, .l (gi d 0).rows, .i (((gi d 0).rows.length : Nat) : Int), .i 0]) fun cg3 g3 => (bif Nat.beq cg3 0 then some [.i (gi g3 0).int] else some [.i 0])))

/-- What is wrong with a log, behind a contact. -/
def faultL : Option (List G) → List (List G) → Int
  | _, [] => 0
  | none, x :: q => if faultC x ≠ 0 then faultC x else faultL (some x) q
  | some y, x :: q => if faultC x ≠ 0 then faultC x else if 0 ≤ ordC y x then 7 else faultL (some x) q
def faultLog (l : List (List G)) : Int := if 2000 < l.length then 2 else faultL none l

section
variable {C D : List G → Option (List G)} (hC : ∀ r, Con r → C [.l [r]] = some [.i (faultC r)]) (hD : ∀ r s, Con r → Con s → D [.l [r], .l [s]] = some [.i (ordC r s)])
include hC hD

theorem chk4_runs : ∀ (q p : List (List G)), (∀ z ∈ p ++ q, Con z) → p.length + q.length < 100000 →
    RetN (chk4 KContact C D) [.l (p ++ q), .l (p ++ q), .i ((p.length + q.length : Nat) : Int), .i (p.length : Int)] (q.length + 1) fun c g => (c = 0 ∧ g = [.i (faultL p.getLast? q)]) ∨ c = 1 ∧ faultL p.getLast? q = 0
  | [], p, hQ, hl => by
    refine RetN.stop (x := 1) (d' := []) (Ret.toEq ?_) (.inr ⟨rfl, by unfold faultL; rfl⟩)
    unfold chk4
    (dsimp +instances only [Go.AL.gi0, Go.AL.gis, Go.AL.row1, Go.AL.rows1, Go.AL.int1, Go.AL.str1, Go.AL.bool1])
    (repeat (first | (refine Go.AL.Ret.pos ?_ ?_; (first | rfl | assumption | (simp only [Go.AL.inI, Go.AL.ltI_eq, Go.AL.leI_eq, Go.AL.nnI_eq, Bool.and_true, Bool.true_and, Bool.and_eq_true, Bool.and_eq_false_iff, Go.AL.dec_iff, Go.AL.dec_not_iff, Bool.not_eq_true', Bool.not_eq_false', beq_iff_eq, beq_eq_false_iff_ne, bne_iff_ne, bne_eq_false_iff_eq, ne_eq, Go.AL.nbeq_iff, Nat.ble_eq, Nat.blt_eq, List.length_set, List.length_append, List.length_replicate, List.length_cons, List.length_nil, List.length_take, List.length_drop, Int.toNat_natCast, true_and, and_true] <;> omega))) | (refine Go.AL.Ret.neg ?_ ?_; (first | rfl | assumption | (simp only [Go.AL.inI, Go.AL.ltI_eq, Go.AL.leI_eq, Go.AL.nnI_eq, Bool.and_true, Bool.true_and, Bool.and_eq_true, Bool.and_eq_false_iff, Go.AL.dec_iff, Go.AL.dec_not_iff, Bool.not_eq_true', Bool.not_eq_false', beq_iff_eq, beq_eq_false_iff_ne, bne_iff_ne, bne_eq_false_iff_eq, ne_eq, Go.AL.nbeq_iff, Nat.ble_eq, Nat.blt_eq, List.length_set, List.length_append, List.length_replicate, List.length_cons, List.length_nil, List.length_take, List.length_drop, Int.toNat_natCast, true_and, and_true] <;> omega)))))
    exact Ret.some rfl
  | x :: q, p, hQ, hl => by
    simp only [List.length_cons] at hl
    have hx : Con x := hQ x (by simp)
    have g1 : (p ++ x :: q).getD (p.length : Int).toNat [] = x := getD_mid _ _ _ _ _ (by simp)
    have hlen : (p ++ x :: q).length = p.length + q.length + 1 := by simp; omega
    by_cases hf : faultC x = 0
    · have ih := chk4_runs q (p ++ [x]) (by simpa using hQ) (by simp; omega)
      rw [List.getLast?_concat] at ih
      rcases List.eq_nil_or_concat p with rfl | ⟨p', y, rfl⟩
      · have e : faultL ([] : List (List G)).getLast? (x :: q) = faultL (some x) q := by simp [faultL, hf]
        rw [e]
        refine RetN.next (Ret.toEq ?_) ih
        unfold chk4
        (dsimp +instances only [Go.AL.gi0, Go.AL.gis, Go.AL.row1, Go.AL.rows1, Go.AL.int1, Go.AL.str1, Go.AL.bool1])
        simp only [g1, hlen, List.length_cons, hx.eta]
        (repeat (first | (refine Go.AL.Ret.pos ?_ ?_; (first | rfl | assumption | (simp only [Go.AL.inI, Go.AL.ltI_eq, Go.AL.leI_eq, Go.AL.nnI_eq, Bool.and_true, Bool.true_and, Bool.and_eq_true, Bool.and_eq_false_iff, Go.AL.dec_iff, Go.AL.dec_not_iff, Bool.not_eq_true', Bool.not_eq_false', beq_iff_eq, beq_eq_false_iff_ne, bne_iff_ne, bne_eq_false_iff_eq, ne_eq, Go.AL.nbeq_iff, Nat.ble_eq, Nat.blt_eq, List.length_set, List.length_append, List.length_replicate, List.length_cons, List.length_nil, List.length_take, List.length_drop, Int.toNat_natCast, true_and, and_true] <;> omega))) | (refine Go.AL.Ret.neg ?_ ?_; (first | rfl | assumption | (simp only [Go.AL.inI, Go.AL.ltI_eq, Go.AL.leI_eq, Go.AL.nnI_eq, Bool.and_true, Bool.true_and, Bool.and_eq_true, Bool.and_eq_false_iff, Go.AL.dec_iff, Go.AL.dec_not_iff, Bool.not_eq_true', Bool.not_eq_false', beq_iff_eq, beq_eq_false_iff_ne, bne_iff_ne, bne_eq_false_iff_eq, ne_eq, Go.AL.nbeq_iff, Nat.ble_eq, Nat.blt_eq, List.length_set, List.length_append, List.length_replicate, List.length_cons, List.length_nil, List.length_take, List.length_drop, Int.toNat_natCast, true_and, and_true] <;> omega)))))
        refine Ret.call (Ret.eq (hC x hx)) ?_
        rintro _ rfl
        (dsimp +instances only [Go.AL.gi0, Go.AL.gis, Go.AL.row1, Go.AL.rows1, Go.AL.int1, Go.AL.str1, Go.AL.bool1])
        simp only [hf]
        (repeat (first | (refine Go.AL.Ret.pos ?_ ?_; (first | rfl | assumption | (simp only [Go.AL.inI, Go.AL.ltI_eq, Go.AL.leI_eq, Go.AL.nnI_eq, Bool.and_true, Bool.true_and, Bool.and_eq_true, Bool.and_eq_false_iff, Go.AL.dec_iff, Go.AL.dec_not_iff, Bool.not_eq_true', Bool.not_eq_false', beq_iff_eq, beq_eq_false_iff_ne, bne_iff_ne, bne_eq_false_iff_eq, ne_eq, Go.AL.nbeq_iff, Nat.ble_eq, Nat.blt_eq, List.length_set, List.length_append, List.length_replicate, List.length_cons, List.length_nil, List.length_take, List.length_drop, Int.toNat_natCast, true_and, and_true] <;> omega))) | (refine Go.AL.Ret.neg ?_ ?_; (first | rfl | assumption | (simp only [Go.AL.inI, Go.AL.ltI_eq, Go.AL.leI_eq, Go.AL.nnI_eq, Bool.and_true, Bool.true_and, Bool.and_eq_true, Bool.and_eq_false_iff, Go.AL.dec_iff, Go.AL.dec_not_iff, Bool.not_eq_true', Bool.not_eq_false', beq_iff_eq, beq_eq_false_iff_ne, bne_iff_ne, bne_eq_false_iff_eq, ne_eq, Go.AL.nbeq_iff, Nat.ble_eq, Nat.blt_eq, List.length_set, List.length_append, List.length_replicate, List.length_cons, List.length_nil, List.length_take, List.length_drop, Int.toNat_natCast, true_and, and_true] <;> omega)))))
        refine Ret.some ?_
        simp
        omega
      · rw [List.concat_eq_append] at *
        have hy : Con y := hQ y (by simp)
        have g2 : ((p' ++ [y]) ++ x :: q).getD (((p' ++ [y]).length : Int) - 1).toNat [] = y := by
          have e : (p' ++ [y]) ++ x :: q = p' ++ y :: x :: q := by simp
          rw [e]; exact getD_mid _ _ _ _ _ (by simp)
        have hp : (p' ++ [y]).length = p'.length + 1 := by simp
        have hl0 : (p' ++ [y]).getLast? = some y := by simp
        rw [hl0]
        by_cases ho : 0 ≤ ordC y x
        · refine RetN.stop (x := 0) (d' := [.i 7]) (Ret.toEq ?_) (.inl ⟨rfl, by simp [faultL, hf, ho]⟩)
          unfold chk4
          (dsimp +instances only [Go.AL.gi0, Go.AL.gis, Go.AL.row1, Go.AL.rows1, Go.AL.int1, Go.AL.str1, Go.AL.bool1])
          simp only [g1, g2, hlen, List.length_cons, hx.eta, hy.eta]
          (repeat (first | (refine Go.AL.Ret.pos ?_ ?_; (first | rfl | assumption | (simp only [Go.AL.inI, Go.AL.ltI_eq, Go.AL.leI_eq, Go.AL.nnI_eq, Bool.and_true, Bool.true_and, Bool.and_eq_true, Bool.and_eq_false_iff, Go.AL.dec_iff, Go.AL.dec_not_iff, Bool.not_eq_true', Bool.not_eq_false', beq_iff_eq, beq_eq_false_iff_ne, bne_iff_ne, bne_eq_false_iff_eq, ne_eq, Go.AL.nbeq_iff, Nat.ble_eq, Nat.blt_eq, List.length_set, List.length_append, List.length_replicate, List.length_cons, List.length_nil, List.length_take, List.length_drop, Int.toNat_natCast, true_and, and_true] <;> omega))) | (refine Go.AL.Ret.neg ?_ ?_; (first | rfl | assumption | (simp only [Go.AL.inI, Go.AL.ltI_eq, Go.AL.leI_eq, Go.AL.nnI_eq, Bool.and_true, Bool.true_and, Bool.and_eq_true, Bool.and_eq_false_iff, Go.AL.dec_iff, Go.AL.dec_not_iff, Bool.not_eq_true', Bool.not_eq_false', beq_iff_eq, beq_eq_false_iff_ne, bne_iff_ne, bne_eq_false_iff_eq, ne_eq, Go.AL.nbeq_iff, Nat.ble_eq, Nat.blt_eq, List.length_set, List.length_append, List.length_replicate, List.length_cons, List.length_nil, List.length_take, List.length_drop, Int.toNat_natCast, true_and, and_true] <;> omega)))))
          refine Ret.call (Ret.eq (hC x hx)) ?_
          rintro _ rfl
          (dsimp +instances only [Go.AL.gi0, Go.AL.gis, Go.AL.row1, Go.AL.rows1, Go.AL.int1, Go.AL.str1, Go.AL.bool1])
          simp only [hf]
          (repeat (first | (refine Go.AL.Ret.pos ?_ ?_; (first | rfl | assumption | (simp only [Go.AL.inI, Go.AL.ltI_eq, Go.AL.leI_eq, Go.AL.nnI_eq, Bool.and_true, Bool.true_and, Bool.and_eq_true, Bool.and_eq_false_iff, Go.AL.dec_iff, Go.AL.dec_not_iff, Bool.not_eq_true', Bool.not_eq_false', beq_iff_eq, beq_eq_false_iff_ne, bne_iff_ne, bne_eq_false_iff_eq, ne_eq, Go.AL.nbeq_iff, Nat.ble_eq, Nat.blt_eq, List.length_set, List.length_append, List.length_replicate, List.length_cons, List.length_nil, List.length_take, List.length_drop, Int.toNat_natCast, true_and, and_true] <;> omega))) | (refine Go.AL.Ret.neg ?_ ?_; (first | rfl | assumption | (simp only [Go.AL.inI, Go.AL.ltI_eq, Go.AL.leI_eq, Go.AL.nnI_eq, Bool.and_true, Bool.true_and, Bool.and_eq_true, Bool.and_eq_false_iff, Go.AL.dec_iff, Go.AL.dec_not_iff, Bool.not_eq_true', Bool.not_eq_false', beq_iff_eq, beq_eq_false_iff_ne, bne_iff_ne, bne_eq_false_iff_eq, ne_eq, Go.AL.nbeq_iff, Nat.ble_eq, Nat.blt_eq, List.length_set, List.length_append, List.length_replicate, List.length_cons, List.length_nil, List.length_take, List.length_drop, Int.toNat_natCast, true_and, and_true] <;> omega)))))
          refine Ret.call (Ret.eq (hD y x hy hx)) ?_
          rintro _ rfl
          (dsimp +instances only [Go.AL.gi0, Go.AL.gis, Go.AL.row1, Go.AL.rows1, Go.AL.int1, Go.AL.str1, Go.AL.bool1])
          (repeat (first | (refine Go.AL.Ret.pos ?_ ?_; (first | rfl | assumption | (simp only [Go.AL.inI, Go.AL.ltI_eq, Go.AL.leI_eq, Go.AL.nnI_eq, Bool.and_true, Bool.true_and, Bool.and_eq_true, Bool.and_eq_false_iff, Go.AL.dec_iff, Go.AL.dec_not_iff, Bool.not_eq_true', Bool.not_eq_false', beq_iff_eq, beq_eq_false_iff_ne, bne_iff_ne, bne_eq_false_iff_eq, ne_eq, Go.AL.nbeq_iff, Nat.ble_eq, Nat.blt_eq, List.length_set, List.length_append, List.length_replicate, List.length_cons, List.length_nil, List.length_take, List.length_drop, Int.toNat_natCast, true_and, and_true] <;> omega))) | (refine Go.AL.Ret.neg ?_ ?_; (first | rfl | assumption | (simp only [Go.AL.inI, Go.AL.ltI_eq, Go.AL.leI_eq, Go.AL.nnI_eq, Bool.and_true, Bool.true_and, Bool.and_eq_true, Bool.and_eq_false_iff, Go.AL.dec_iff, Go.AL.dec_not_iff, Bool.not_eq_true', Bool.not_eq_false', beq_iff_eq, beq_eq_false_iff_ne, bne_iff_ne, bne_eq_false_iff_eq, ne_eq, Go.AL.nbeq_iff, Nat.ble_eq, Nat.blt_eq, List.length_set, List.length_append, List.length_replicate, List.length_cons, List.length_nil, List.length_take, List.length_drop, Int.toNat_natCast, true_and, and_true] <;> omega)))))
          exact Ret.some rfl
        · have e : faultL (some y) (x :: q) = faultL (some x) q := by simp [faultL, hf, ho]
          rw [e]
          refine RetN.next (Ret.toEq ?_) ih
          unfold chk4
          (dsimp +instances only [Go.AL.gi0, Go.AL.gis, Go.AL.row1, Go.AL.rows1, Go.AL.int1, Go.AL.str1, Go.AL.bool1])
          simp only [g1, g2, hlen, List.length_cons, hx.eta, hy.eta]
          (repeat (first | (refine Go.AL.Ret.pos ?_ ?_; (first | rfl | assumption | (simp only [Go.AL.inI, Go.AL.ltI_eq, Go.AL.leI_eq, Go.AL.nnI_eq, Bool.and_true, Bool.true_and, Bool.and_eq_true, Bool.and_eq_false_iff, Go.AL.dec_iff, Go.AL.dec_not_iff, Bool.not_eq_true', Bool.not_eq_false', beq_iff_eq, beq_eq_false_iff_ne, bne_iff_ne, bne_eq_false_iff_eq, ne_eq, Go.AL.nbeq_iff, Nat.ble_eq, Nat.blt_eq, List.length_set, List.length_append, List.length_replicate, List.length_cons, List.length_nil, List.length_take, List.length_drop, Int.toNat_natCast, true_and, and_true] <;> omega))) | (refine Go.AL.Ret.neg ?_ ?_; (first | rfl | assumption | (simp only [Go.AL.inI, Go.AL.ltI_eq, Go.AL.leI_eq, Go.AL.nnI_eq, Bool.and_true, Bool.true_and, Bool.and_eq_true, Bool.and_eq_false_iff, Go.AL.dec_iff, Go.AL.dec_not_iff, Bool.not_eq_true', Bool.not_eq_false', beq_iff_eq, beq_eq_false_iff_ne, bne_iff_ne, bne_eq_false_iff_eq, ne_eq, Go.AL.nbeq_iff, Nat.ble_eq, Nat.blt_eq, List.length_set, List.length_append, List.length_replicate, List.length_cons, List.length_nil, List.length_take, List.length_drop, Int.toNat_natCast, true_and, and_true] <;> omega)))))
          refine Ret.call (Ret.eq (hC x hx)) ?_
          rintro _ rfl
          (dsimp +instances only [Go.AL.gi0, Go.AL.gis, Go.AL.row1, Go.AL.rows1, Go.AL.int1, Go.AL.str1, Go.AL.bool1])
          simp only [hf]
          (repeat (first | (refine Go.AL.Ret.pos ?_ ?_; (first | rfl | assumption | (simp only [Go.AL.inI, Go.AL.ltI_eq, Go.AL.leI_eq, Go.AL.nnI_eq, Bool.and_true, Bool.true_and, Bool.and_eq_true, Bool.and_eq_false_iff, Go.AL.dec_iff, Go.AL.dec_not_iff, Bool.not_eq_true', Bool.not_eq_false', beq_iff_eq, beq_eq_false_iff_ne, bne_iff_ne, bne_eq_false_iff_eq, ne_eq, Go.AL.nbeq_iff, Nat.ble_eq, Nat.blt_eq, List.length_set, List.length_append, List.length_replicate, List.length_cons, List.length_nil, List.length_take, List.length_drop, Int.toNat_natCast, true_and, and_true] <;> omega))) | (refine Go.AL.Ret.neg ?_ ?_; (first | rfl | assumption | (simp only [Go.AL.inI, Go.AL.ltI_eq, Go.AL.leI_eq, Go.AL.nnI_eq, Bool.and_true, Bool.true_and, Bool.and_eq_true, Bool.and_eq_false_iff, Go.AL.dec_iff, Go.AL.dec_not_iff, Bool.not_eq_true', Bool.not_eq_false', beq_iff_eq, beq_eq_false_iff_ne, bne_iff_ne, bne_eq_false_iff_eq, ne_eq, Go.AL.nbeq_iff, Nat.ble_eq, Nat.blt_eq, List.length_set, List.length_append, List.length_replicate, List.length_cons, List.length_nil, List.length_take, List.length_drop, Int.toNat_natCast, true_and, and_true] <;> omega)))))
          refine Ret.call (Ret.eq (hD y x hy hx)) ?_
          rintro _ rfl
          (dsimp +instances only [Go.AL.gi0, Go.AL.gis, Go.AL.row1, Go.AL.rows1, Go.AL.int1, Go.AL.str1, Go.AL.bool1])
          (repeat (first | (refine Go.AL.Ret.pos ?_ ?_; (first | rfl | assumption | (simp only [Go.AL.inI, Go.AL.ltI_eq, Go.AL.leI_eq, Go.AL.nnI_eq, Bool.and_true, Bool.true_and, Bool.and_eq_true, Bool.and_eq_false_iff, Go.AL.dec_iff, Go.AL.dec_not_iff, Bool.not_eq_true', Bool.not_eq_false', beq_iff_eq, beq_eq_false_iff_ne, bne_iff_ne, bne_eq_false_iff_eq, ne_eq, Go.AL.nbeq_iff, Nat.ble_eq, Nat.blt_eq, List.length_set, List.length_append, List.length_replicate, List.length_cons, List.length_nil, List.length_take, List.length_drop, Int.toNat_natCast, true_and, and_true] <;> omega))) | (refine Go.AL.Ret.neg ?_ ?_; (first | rfl | assumption | (simp only [Go.AL.inI, Go.AL.ltI_eq, Go.AL.leI_eq, Go.AL.nnI_eq, Bool.and_true, Bool.true_and, Bool.and_eq_true, Bool.and_eq_false_iff, Go.AL.dec_iff, Go.AL.dec_not_iff, Bool.not_eq_true', Bool.not_eq_false', beq_iff_eq, beq_eq_false_iff_ne, bne_iff_ne, bne_eq_false_iff_eq, ne_eq, Go.AL.nbeq_iff, Nat.ble_eq, Nat.blt_eq, List.length_set, List.length_append, List.length_replicate, List.length_cons, List.length_nil, List.length_take, List.length_drop, Int.toNat_natCast, true_and, and_true] <;> omega)))))
          refine Ret.some ?_
          simp
          omega
    · refine RetN.stop (x := 0) (d' := [.i (faultC x)]) (Ret.toEq ?_) (.inl ⟨rfl, by cases hg : p.getLast? <;> simp [faultL, hf]⟩)
      unfold chk4
      (dsimp +instances only [Go.AL.gi0, Go.AL.gis, Go.AL.row1, Go.AL.rows1, Go.AL.int1, Go.AL.str1, Go.AL.bool1])
      simp only [g1, hlen, List.length_cons, hx.eta]
      (repeat (first | (refine Go.AL.Ret.pos ?_ ?_; (first | rfl | assumption | (simp only [Go.AL.inI, Go.AL.ltI_eq, Go.AL.leI_eq, Go.AL.nnI_eq, Bool.and_true, Bool.true_and, Bool.and_eq_true, Bool.and_eq_false_iff, Go.AL.dec_iff, Go.AL.dec_not_iff, Bool.not_eq_true', Bool.not_eq_false', beq_iff_eq, beq_eq_false_iff_ne, bne_iff_ne, bne_eq_false_iff_eq, ne_eq, Go.AL.nbeq_iff, Nat.ble_eq, Nat.blt_eq, List.length_set, List.length_append, List.length_replicate, List.length_cons, List.length_nil, List.length_take, List.length_drop, Int.toNat_natCast, true_and, and_true] <;> omega))) | (refine Go.AL.Ret.neg ?_ ?_; (first | rfl | assumption | (simp only [Go.AL.inI, Go.AL.ltI_eq, Go.AL.leI_eq, Go.AL.nnI_eq, Bool.and_true, Bool.true_and, Bool.and_eq_true, Bool.and_eq_false_iff, Go.AL.dec_iff, Go.AL.dec_not_iff, Bool.not_eq_true', Bool.not_eq_false', beq_iff_eq, beq_eq_false_iff_ne, bne_iff_ne, bne_eq_false_iff_eq, ne_eq, Go.AL.nbeq_iff, Nat.ble_eq, Nat.blt_eq, List.length_set, List.length_append, List.length_replicate, List.length_cons, List.length_nil, List.length_take, List.length_drop, Int.toNat_natCast, true_and, and_true] <;> omega)))))
      refine Ret.call (Ret.eq (hC x hx)) ?_
      rintro _ rfl
      (dsimp +instances only [Go.AL.gi0, Go.AL.gis, Go.AL.row1, Go.AL.rows1, Go.AL.int1, Go.AL.str1, Go.AL.bool1])
      refine Ret.pos (by simpa using hf) (Ret.some rfl)

theorem chkF_eq (l : List (List G)) (hl : ∀ z ∈ l, Con z) (hn : l.length < 100000) : chkF KContact C D [.l l] = some [.i (faultLog l)] := by
  refine Ret.toEq ?_
  unfold chkF faultLog
  (dsimp +instances only [Go.AL.gi0, Go.AL.gis, Go.AL.row1, Go.AL.rows1, Go.AL.int1, Go.AL.str1, Go.AL.bool1])
  by_cases h : 2000 < l.length
  · (repeat (first | (refine Go.AL.Ret.pos ?_ ?_; (first | rfl | assumption | (simp only [Go.AL.inI, Go.AL.ltI_eq, Go.AL.leI_eq, Go.AL.nnI_eq, Bool.and_true, Bool.true_and, Bool.and_eq_true, Bool.and_eq_false_iff, Go.AL.dec_iff, Go.AL.dec_not_iff, Bool.not_eq_true', Bool.not_eq_false', beq_iff_eq, beq_eq_false_iff_ne, bne_iff_ne, bne_eq_false_iff_eq, ne_eq, Go.AL.nbeq_iff, Nat.ble_eq, Nat.blt_eq, List.length_set, List.length_append, List.length_replicate, List.length_cons, List.length_nil, List.length_take, List.length_drop, Int.toNat_natCast, true_and, and_true] <;> omega))) | (refine Go.AL.Ret.neg ?_ ?_; (first | rfl | assumption | (simp only [Go.AL.inI, Go.AL.ltI_eq, Go.AL.leI_eq, Go.AL.nnI_eq, Bool.and_true, Bool.true_and, Bool.and_eq_true, Bool.and_eq_false_iff, Go.AL.dec_iff, Go.AL.dec_not_iff, Bool.not_eq_true', Bool.not_eq_false', beq_iff_eq, beq_eq_false_iff_ne, bne_iff_ne, bne_eq_false_iff_eq, ne_eq, Go.AL.nbeq_iff, Nat.ble_eq, Nat.blt_eq, List.length_set, List.length_append, List.length_replicate, List.length_cons, List.length_nil, List.length_take, List.length_drop, Int.toNat_natCast, true_and, and_true] <;> omega)))))
    exact Ret.some (by simp [h])
  · (repeat (first | (refine Go.AL.Ret.pos ?_ ?_; (first | rfl | assumption | (simp only [Go.AL.inI, Go.AL.ltI_eq, Go.AL.leI_eq, Go.AL.nnI_eq, Bool.and_true, Bool.true_and, Bool.and_eq_true, Bool.and_eq_false_iff, Go.AL.dec_iff, Go.AL.dec_not_iff, Bool.not_eq_true', Bool.not_eq_false', beq_iff_eq, beq_eq_false_iff_ne, bne_iff_ne, bne_eq_false_iff_eq, ne_eq, Go.AL.nbeq_iff, Nat.ble_eq, Nat.blt_eq, List.length_set, List.length_append, List.length_replicate, List.length_cons, List.length_nil, List.length_take, List.length_drop, Int.toNat_natCast, true_and, and_true] <;> omega))) | (refine Go.AL.Ret.neg ?_ ?_; (first | rfl | assumption | (simp only [Go.AL.inI, Go.AL.ltI_eq, Go.AL.leI_eq, Go.AL.nnI_eq, Bool.and_true, Bool.true_and, Bool.and_eq_true, Bool.and_eq_false_iff, Go.AL.dec_iff, Go.AL.dec_not_iff, Bool.not_eq_true', Bool.not_eq_false', beq_iff_eq, beq_eq_false_iff_ne, bne_iff_ne, bne_eq_false_iff_eq, ne_eq, Go.AL.nbeq_iff, Nat.ble_eq, Nat.blt_eq, List.length_set, List.length_append, List.length_replicate, List.length_cons, List.length_nil, List.length_take, List.length_drop, Int.toNat_natCast, true_and, and_true] <;> omega)))))
    have h1 := chk4_runs hC hD l [] (by simpa using hl) (by simpa using hn)
    have h0 : ((0 : Nat) : Int) = 0 := rfl
    simp only [List.nil_append, List.length_nil, Nat.zero_add, h0] at h1
    refine Ret.loop (h1.to (by omega)) (by (first | rfl | assumption | (simp only [Go.AL.inI, Go.AL.ltI_eq, Go.AL.leI_eq, Go.AL.nnI_eq, Bool.and_true, Bool.true_and, Bool.and_eq_true, Bool.and_eq_false_iff, Go.AL.dec_iff, Go.AL.dec_not_iff, Bool.not_eq_true', Bool.not_eq_false', beq_iff_eq, beq_eq_false_iff_ne, bne_iff_ne, bne_eq_false_iff_eq, ne_eq, Go.AL.nbeq_iff, Nat.ble_eq, Nat.blt_eq, List.length_set, List.length_append, List.length_replicate, List.length_cons, List.length_nil, List.length_take, List.length_drop, Int.toNat_natCast, true_and, and_true] <;> omega))) ?_
    rintro c g (⟨rfl, rfl⟩ | ⟨rfl, h2⟩)
    · (dsimp +instances only [Go.AL.gi0, Go.AL.gis, Go.AL.row1, Go.AL.rows1, Go.AL.int1, Go.AL.str1, Go.AL.bool1])
      (repeat (first | (refine Go.AL.Ret.pos ?_ ?_; (first | rfl | assumption | (simp only [Go.AL.inI, Go.AL.ltI_eq, Go.AL.leI_eq, Go.AL.nnI_eq, Bool.and_true, Bool.true_and, Bool.and_eq_true, Bool.and_eq_false_iff, Go.AL.dec_iff, Go.AL.dec_not_iff, Bool.not_eq_true', Bool.not_eq_false', beq_iff_eq, beq_eq_false_iff_ne, bne_iff_ne, bne_eq_false_iff_eq, ne_eq, Go.AL.nbeq_iff, Nat.ble_eq, Nat.blt_eq, List.length_set, List.length_append, List.length_replicate, List.length_cons, List.length_nil, List.length_take, List.length_drop, Int.toNat_natCast, true_and, and_true] <;> omega))) | (refine Go.AL.Ret.neg ?_ ?_; (first | rfl | assumption | (simp only [Go.AL.inI, Go.AL.ltI_eq, Go.AL.leI_eq, Go.AL.nnI_eq, Bool.and_true, Bool.true_and, Bool.and_eq_true, Bool.and_eq_false_iff, Go.AL.dec_iff, Go.AL.dec_not_iff, Bool.not_eq_true', Bool.not_eq_false', beq_iff_eq, beq_eq_false_iff_ne, bne_iff_ne, bne_eq_false_iff_eq, ne_eq, Go.AL.nbeq_iff, Nat.ble_eq, Nat.blt_eq, List.length_set, List.length_append, List.length_replicate, List.length_cons, List.length_nil, List.length_take, List.length_drop, Int.toNat_natCast, true_and, and_true] <;> omega)))))
      refine Ret.some ?_
      rw [if_neg h]
      rfl
    · (repeat (first | (refine Go.AL.Ret.pos ?_ ?_; (first | rfl | assumption | (simp only [Go.AL.inI, Go.AL.ltI_eq, Go.AL.leI_eq, Go.AL.nnI_eq, Bool.and_true, Bool.true_and, Bool.and_eq_true, Bool.and_eq_false_iff, Go.AL.dec_iff, Go.AL.dec_not_iff, Bool.not_eq_true', Bool.not_eq_false', beq_iff_eq, beq_eq_false_iff_ne, bne_iff_ne, bne_eq_false_iff_eq, ne_eq, Go.AL.nbeq_iff, Nat.ble_eq, Nat.blt_eq, List.length_set, List.length_append, List.length_replicate, List.length_cons, List.length_nil, List.length_take, List.length_drop, Int.toNat_natCast, true_and, and_true] <;> omega))) | (refine Go.AL.Ret.neg ?_ ?_; (first | rfl | assumption | (simp only [Go.AL.inI, Go.AL.ltI_eq, Go.AL.leI_eq, Go.AL.nnI_eq, Bool.and_true, Bool.true_and, Bool.and_eq_true, Bool.and_eq_false_iff, Go.AL.dec_iff, Go.AL.dec_not_iff, Bool.not_eq_true', Bool.not_eq_false', beq_iff_eq, beq_eq_false_iff_ne, bne_iff_ne, bne_eq_false_iff_eq, ne_eq, Go.AL.nbeq_iff, Nat.ble_eq, Nat.blt_eq, List.length_set, List.length_append, List.length_replicate, List.length_cons, List.length_nil, List.length_take, List.length_drop, Int.toNat_natCast, true_and, and_true] <;> omega)))))
      refine Ret.some ?_
      rw [if_neg h]
      exact congrArg (fun z => [G.i z]) h2.symm
end

theorem checkLog_eq (l : List (List G)) (hl : ∀ z ∈ l, Con z) (hn : l.length < 100000) : F_log_CheckLog [.l l] = some [.i (faultLog l)] :=
  chkF_eq (fun _ h => check_eq h) (fun _ _ h h' => compare_eq h h') l hl hn
theorem logFault_eq (l : List (List G)) (hl : ∀ z ∈ l, Con z) (hn : l.length < 100000) : F_pileref2_LogFault [.l l] = some [.i (faultLog l)] :=
  chkF_eq (fun _ h => fault_eq h) (fun _ _ h h' => order_eq h h') l hl hn

end Go.Proofs.SYtpfhjchbegdgdaaGreatDoor

namespace Go.Proofs.SYtpfhjchbegdgdaaGreatDoor
open Go Go.AL Go.Proofs

theorem loop_Contacts (l : List (List G)) (n : Nat) (hn : n ≤ 20) : ∀ (k i : Nat) (a t : Int) (acc : List (List G)), i + k = n → 0 ≤ a → a ≤ 700000 + 21 * i → -(1500000 * (i : Int)) ≤ t → t ≤ 1500000 * (i : Int) → (∀ z ∈ acc, ConT z) → acc.length = i →
    RetN st_pilemake_Stream_Contacts_4 [.l l, .i a, .l acc, .i t, .i (n : Int), .i (i : Int)] (k + 1) fun c g => c = 0 ∧ ∃ b rows, g = [.l l, .i b, .l rows] ∧ a ≤ b ∧ b ≤ a + 21 * k ∧ (∀ z ∈ rows, ConT z) ∧ rows.length = n
  | 0, i, a, t, acc, hi, ha, ha1, ht, ht1, hQ, hl => by
    refine RetN.stop (x := 0) (Ret.toEq ?_) ⟨rfl, a, acc, rfl, by omega, by omega, hQ, by omega⟩
    unfold st_pilemake_Stream_Contacts_4
    (dsimp +instances only [Go.AL.gi0, Go.AL.gis, Go.AL.row1, Go.AL.rows1, Go.AL.int1, Go.AL.str1, Go.AL.bool1])
    (repeat (first | (refine Go.AL.Ret.pos ?_ ?_; (first | rfl | assumption | (simp only [Go.AL.inI, Go.AL.ltI_eq, Go.AL.leI_eq, Go.AL.nnI_eq, Bool.and_true, Bool.true_and, Bool.and_eq_true, Bool.and_eq_false_iff, Go.AL.dec_iff, Go.AL.dec_not_iff, Bool.not_eq_true', Bool.not_eq_false', beq_iff_eq, beq_eq_false_iff_ne, bne_iff_ne, bne_eq_false_iff_eq, ne_eq, Go.AL.nbeq_iff, Nat.ble_eq, Nat.blt_eq, List.length_set, List.length_append, List.length_replicate, List.length_cons, List.length_nil, List.length_take, List.length_drop, Int.toNat_natCast, true_and, and_true] <;> omega))) | (refine Go.AL.Ret.neg ?_ ?_; (first | rfl | assumption | (simp only [Go.AL.inI, Go.AL.ltI_eq, Go.AL.leI_eq, Go.AL.nnI_eq, Bool.and_true, Bool.true_and, Bool.and_eq_true, Bool.and_eq_false_iff, Go.AL.dec_iff, Go.AL.dec_not_iff, Bool.not_eq_true', Bool.not_eq_false', beq_iff_eq, beq_eq_false_iff_ne, bne_iff_ne, bne_eq_false_iff_eq, ne_eq, Go.AL.nbeq_iff, Nat.ble_eq, Nat.blt_eq, List.length_set, List.length_append, List.length_replicate, List.length_cons, List.length_nil, List.length_take, List.length_drop, Int.toNat_natCast, true_and, and_true] <;> omega)))))
    exact Ret.some rfl
  | k + 1, i, a, t, acc, hi, ha, ha1, ht, ht1, hQ, hl => by
    have key : Ret (st_pilemake_Stream_Contacts_4 [.l l, .i a, .l acc, .i t, .i (n : Int), .i (i : Int)]) fun o => ∃ b r v, o = (none, [.l l, .i b, .l (acc ++ [r]), .i (t + v), .i (n : Int), .i ((i : Int) + 1)]) ∧ a ≤ b ∧ b ≤ a + 21 ∧ ConT r ∧ 0 ≤ v ∧ v ≤ 1500000 := by
      unfold st_pilemake_Stream_Contacts_4
      (dsimp +instances only [Go.AL.gi0, Go.AL.gis, Go.AL.row1, Go.AL.rows1, Go.AL.int1, Go.AL.str1, Go.AL.bool1])
      (repeat (first | (refine Go.AL.Ret.pos ?_ ?_; (first | rfl | assumption | (simp only [Go.AL.inI, Go.AL.ltI_eq, Go.AL.leI_eq, Go.AL.nnI_eq, Bool.and_true, Bool.true_and, Bool.and_eq_true, Bool.and_eq_false_iff, Go.AL.dec_iff, Go.AL.dec_not_iff, Bool.not_eq_true', Bool.not_eq_false', beq_iff_eq, beq_eq_false_iff_ne, bne_iff_ne, bne_eq_false_iff_eq, ne_eq, Go.AL.nbeq_iff, Nat.ble_eq, Nat.blt_eq, List.length_set, List.length_append, List.length_replicate, List.length_cons, List.length_nil, List.length_take, List.length_drop, Int.toNat_natCast, true_and, and_true] <;> omega))) | (refine Go.AL.Ret.neg ?_ ?_; (first | rfl | assumption | (simp only [Go.AL.inI, Go.AL.ltI_eq, Go.AL.leI_eq, Go.AL.nnI_eq, Bool.and_true, Bool.true_and, Bool.and_eq_true, Bool.and_eq_false_iff, Go.AL.dec_iff, Go.AL.dec_not_iff, Bool.not_eq_true', Bool.not_eq_false', beq_iff_eq, beq_eq_false_iff_ne, bne_iff_ne, bne_eq_false_iff_eq, ne_eq, Go.AL.nbeq_iff, Nat.ble_eq, Nat.blt_eq, List.length_set, List.length_append, List.length_replicate, List.length_cons, List.length_nil, List.length_take, List.length_drop, Int.toNat_natCast, true_and, and_true] <;> omega)))))
      refine Ret.call (r_PickB 0 1500000 l a _ ha (by omega) (by kernel_rfl) (by kernel_rfl)) ?_
      rintro _ ⟨v, rfl, hv0, hv1⟩
      (dsimp +instances only [Go.AL.gi0, Go.AL.gis, Go.AL.row1, Go.AL.rows1, Go.AL.int1, Go.AL.str1, Go.AL.bool1])
      (repeat (first | (refine Go.AL.Ret.pos ?_ ?_; (first | rfl | assumption | (simp only [Go.AL.inI, Go.AL.ltI_eq, Go.AL.leI_eq, Go.AL.nnI_eq, Bool.and_true, Bool.true_and, Bool.and_eq_true, Bool.and_eq_false_iff, Go.AL.dec_iff, Go.AL.dec_not_iff, Bool.not_eq_true', Bool.not_eq_false', beq_iff_eq, beq_eq_false_iff_ne, bne_iff_ne, bne_eq_false_iff_eq, ne_eq, Go.AL.nbeq_iff, Nat.ble_eq, Nat.blt_eq, List.length_set, List.length_append, List.length_replicate, List.length_cons, List.length_nil, List.length_take, List.length_drop, Int.toNat_natCast, true_and, and_true] <;> omega))) | (refine Go.AL.Ret.neg ?_ ?_; (first | rfl | assumption | (simp only [Go.AL.inI, Go.AL.ltI_eq, Go.AL.leI_eq, Go.AL.nnI_eq, Bool.and_true, Bool.true_and, Bool.and_eq_true, Bool.and_eq_false_iff, Go.AL.dec_iff, Go.AL.dec_not_iff, Bool.not_eq_true', Bool.not_eq_false', beq_iff_eq, beq_eq_false_iff_ne, bne_iff_ne, bne_eq_false_iff_eq, ne_eq, Go.AL.nbeq_iff, Nat.ble_eq, Nat.blt_eq, List.length_set, List.length_append, List.length_replicate, List.length_cons, List.length_nil, List.length_take, List.length_drop, Int.toNat_natCast, true_and, and_true] <;> omega)))))
      refine Ret.call (r_SomeContact l (a + 1) (t + v) (by omega) (by omega) ⟨by omega, by omega⟩) ?_
      rintro _ ⟨b, r, rfl, hb0, hb1, hr⟩
      (dsimp +instances only [Go.AL.gi0, Go.AL.gis, Go.AL.row1, Go.AL.rows1, Go.AL.int1, Go.AL.str1, Go.AL.bool1])
      simp only [hr.to.eta]
      (repeat (first | (refine Go.AL.Ret.pos ?_ ?_; (first | rfl | assumption | (simp only [Go.AL.inI, Go.AL.ltI_eq, Go.AL.leI_eq, Go.AL.nnI_eq, Bool.and_true, Bool.true_and, Bool.and_eq_true, Bool.and_eq_false_iff, Go.AL.dec_iff, Go.AL.dec_not_iff, Bool.not_eq_true', Bool.not_eq_false', beq_iff_eq, beq_eq_false_iff_ne, bne_iff_ne, bne_eq_false_iff_eq, ne_eq, Go.AL.nbeq_iff, Nat.ble_eq, Nat.blt_eq, List.length_set, List.length_append, List.length_replicate, List.length_cons, List.length_nil, List.length_take, List.length_drop, Int.toNat_natCast, true_and, and_true] <;> omega))) | (refine Go.AL.Ret.neg ?_ ?_; (first | rfl | assumption | (simp only [Go.AL.inI, Go.AL.ltI_eq, Go.AL.leI_eq, Go.AL.nnI_eq, Bool.and_true, Bool.true_and, Bool.and_eq_true, Bool.and_eq_false_iff, Go.AL.dec_iff, Go.AL.dec_not_iff, Bool.not_eq_true', Bool.not_eq_false', beq_iff_eq, beq_eq_false_iff_ne, bne_iff_ne, bne_eq_false_iff_eq, ne_eq, Go.AL.nbeq_iff, Nat.ble_eq, Nat.blt_eq, List.length_set, List.length_append, List.length_replicate, List.length_cons, List.length_nil, List.length_take, List.length_drop, Int.toNat_natCast, true_and, and_true] <;> omega)))))
      exact Ret.some ⟨b, r, v, rfl, by omega, by omega, hr, hv0, hv1⟩
    obtain ⟨_, h, b, r, v, rfl, h1, h2, h3, h4, h5⟩ := key
    have ih := loop_Contacts l n hn k (i + 1) b (t + v) (acc ++ [r]) (by omega) (by omega) (by omega) (by omega) (by omega) (by
      intro z hz
      rcases List.mem_append.1 hz with hz | hz
      · exact hQ z hz
      · simp at hz; exact hz ▸ h3) (by simp [hl])
    refine RetN.next h (ih.mono ?_)
    rintro c g ⟨rfl, b', rows, rfl, q1, q2, q3, q4⟩
    exact ⟨rfl, b', rows, rfl, by omega, by omega, q3, q4⟩

theorem sortOrder_eq (rows : List (List G)) (hr : ∀ y ∈ rows, Con y) (hn : rows.length ≤ 20) : F_slices_SortStableFunc_Contact [.l rows] = some [.l (sortA (ltC ordC) rows)] :=
  sortF_eq cmpOrder rows hr hn
theorem sortCompare_eq (rows : List (List G)) (hr : ∀ y ∈ rows, Con y) (hn : rows.length ≤ 20) : F_slices_SortStableFunc_Contact_2 [.l rows] = some [.l (sortA (ltC ordC) rows)] :=
  sortF_eq cmpCompare rows hr hn

def sameC (r s : List G) : Bool := ordC r s == 0
theorem eqvOrder : Eqv KContact F_pilemake_Stream_Contacts_1 Con sameC := ⟨fun r s hr hs => by
  refine Ret.toEq ?_
  unfold F_pilemake_Stream_Contacts_1
  (dsimp +instances only [Go.AL.gi0, Go.AL.gis, Go.AL.row1, Go.AL.rows1, Go.AL.int1, Go.AL.str1, Go.AL.bool1])
  simp only [hr.eta, hs.eta]
  refine Ret.call (Ret.eq (order_eq hr hs)) ?_
  rintro _ rfl
  exact Ret.some rfl, fun _ h => h.eta⟩

def zC : List G := [.i 0, .i 0, .s (⟨#[]⟩ : ByteArray), .s (⟨#[]⟩ : ByteArray), .i 0, .i 0, .s (⟨#[]⟩ : ByteArray), .s (⟨#[]⟩ : ByteArray)]

/-- A log as the stream makes it. -/
theorem r_Contacts (l : List (List G)) (a n : Int) (ha : 0 ≤ a) (ha1 : a ≤ 700000) (h0 : 0 ≤ n) (h1 : n ≤ 20) :
    Ret (F_pilemake_Stream_Contacts [.l l, .i a, .i n]) fun g => ∃ b rows, g = [.l l, .i b, .l rows] ∧ a ≤ b ∧ b ≤ a + 420 ∧ (∀ z ∈ rows, ConT z) ∧ (rows.length : Int) ≤ n := by
  obtain ⟨n, rfl⟩ := Int.eq_ofNat_of_zero_le h0
  unfold F_pilemake_Stream_Contacts
  (dsimp +instances only [Go.AL.gi0, Go.AL.gis, Go.AL.row1, Go.AL.rows1, Go.AL.int1, Go.AL.str1, Go.AL.bool1])
  have hl := loop_Contacts l n (by omega) n 0 a 0 [] (by omega) ha (by omega) (by omega) (by omega) (by simp) rfl
  refine Ret.loop (hl.to (by omega)) (by (first | rfl | assumption | (simp only [Go.AL.inI, Go.AL.ltI_eq, Go.AL.leI_eq, Go.AL.nnI_eq, Bool.and_true, Bool.true_and, Bool.and_eq_true, Bool.and_eq_false_iff, Go.AL.dec_iff, Go.AL.dec_not_iff, Bool.not_eq_true', Bool.not_eq_false', beq_iff_eq, beq_eq_false_iff_ne, bne_iff_ne, bne_eq_false_iff_eq, ne_eq, Go.AL.nbeq_iff, Nat.ble_eq, Nat.blt_eq, List.length_set, List.length_append, List.length_replicate, List.length_cons, List.length_nil, List.length_take, List.length_drop, Int.toNat_natCast, true_and, and_true] <;> omega))) ?_
  rintro c g ⟨rfl, b, rows, rfl, h2, h3, h4, h5⟩
  (dsimp +instances only [Go.AL.gi0, Go.AL.gis, Go.AL.row1, Go.AL.rows1, Go.AL.int1, Go.AL.str1, Go.AL.bool1])
  refine Ret.callb (Ret.eq (sortOrder_eq rows (fun z hz => (h4 z hz).to) (by omega))) (by (first | rfl | assumption | (simp only [Go.AL.inI, Go.AL.ltI_eq, Go.AL.leI_eq, Go.AL.nnI_eq, Bool.and_true, Bool.true_and, Bool.and_eq_true, Bool.and_eq_false_iff, Go.AL.dec_iff, Go.AL.dec_not_iff, Bool.not_eq_true', Bool.not_eq_false', beq_iff_eq, beq_eq_false_iff_ne, bne_iff_ne, bne_eq_false_iff_eq, ne_eq, Go.AL.nbeq_iff, Nat.ble_eq, Nat.blt_eq, List.length_set, List.length_append, List.length_replicate, List.length_cons, List.length_nil, List.length_take, List.length_drop, Int.toNat_natCast, true_and, and_true] <;> omega))) ?_
  rintro _ rfl
  (dsimp +instances only [Go.AL.gi0, Go.AL.gis, Go.AL.row1, Go.AL.rows1, Go.AL.int1, Go.AL.str1, Go.AL.bool1])
  have hs := sortA_all (lt := ltC ordC) h4
  have hsl := sortA_length (ltC ordC) rows
  refine Ret.callb (P := fun g => ∃ J, g = [.l (compact sameC (sortA (ltC ordC) rows) ++ J), .i ((compact sameC (sortA (ltC ordC) rows)).length : Int)] ∧ (compact sameC (sortA (ltC ordC) rows) ++ J).length = (sortA (ltC ordC) rows).length)
    (cmpfF_eq (Z := zC) eqvOrder (sortA (ltC ordC) rows) (fun z hz => (hs z hz).to) (by omega)) (by (first | rfl | assumption | (simp only [Go.AL.inI, Go.AL.ltI_eq, Go.AL.leI_eq, Go.AL.nnI_eq, Bool.and_true, Bool.true_and, Bool.and_eq_true, Bool.and_eq_false_iff, Go.AL.dec_iff, Go.AL.dec_not_iff, Bool.not_eq_true', Bool.not_eq_false', beq_iff_eq, beq_eq_false_iff_ne, bne_iff_ne, bne_eq_false_iff_eq, ne_eq, Go.AL.nbeq_iff, Nat.ble_eq, Nat.blt_eq, List.length_set, List.length_append, List.length_replicate, List.length_cons, List.length_nil, List.length_take, List.length_drop, Int.toNat_natCast, true_and, and_true] <;> omega))) ?_
  rintro _ ⟨J, rfl, hJ⟩
  (dsimp +instances only [Go.AL.gi0, Go.AL.gis, Go.AL.row1, Go.AL.rows1, Go.AL.int1, Go.AL.str1, Go.AL.bool1])
  have hle : (compact sameC (sortA (ltC ordC) rows)).length ≤ (sortA (ltC ordC) rows).length := compact_length _ _
  simp only [hJ]
  (repeat (first | (refine Go.AL.Ret.pos ?_ ?_; (first | rfl | assumption | (simp only [Go.AL.inI, Go.AL.ltI_eq, Go.AL.leI_eq, Go.AL.nnI_eq, Bool.and_true, Bool.true_and, Bool.and_eq_true, Bool.and_eq_false_iff, Go.AL.dec_iff, Go.AL.dec_not_iff, Bool.not_eq_true', Bool.not_eq_false', beq_iff_eq, beq_eq_false_iff_ne, bne_iff_ne, bne_eq_false_iff_eq, ne_eq, Go.AL.nbeq_iff, Nat.ble_eq, Nat.blt_eq, List.length_set, List.length_append, List.length_replicate, List.length_cons, List.length_nil, List.length_take, List.length_drop, Int.toNat_natCast, true_and, and_true] <;> omega))) | (refine Go.AL.Ret.neg ?_ ?_; (first | rfl | assumption | (simp only [Go.AL.inI, Go.AL.ltI_eq, Go.AL.leI_eq, Go.AL.nnI_eq, Bool.and_true, Bool.true_and, Bool.and_eq_true, Bool.and_eq_false_iff, Go.AL.dec_iff, Go.AL.dec_not_iff, Bool.not_eq_true', Bool.not_eq_false', beq_iff_eq, beq_eq_false_iff_ne, bne_iff_ne, bne_eq_false_iff_eq, ne_eq, Go.AL.nbeq_iff, Nat.ble_eq, Nat.blt_eq, List.length_set, List.length_append, List.length_replicate, List.length_cons, List.length_nil, List.length_take, List.length_drop, Int.toNat_natCast, true_and, and_true] <;> omega)))))
  refine Ret.some ⟨b, compact sameC (sortA (ltC ordC) rows), by simp, by omega, by omega, fun z hz => hs z (compact_mem hz), by omega⟩

end Go.Proofs.SYtpfhjchbegdgdaaGreatDoor

namespace Go.Proofs.SYtpfhjchbegdgdaaGreatDoor
open Go Go.AL Go.Proofs

theorem kdsC : Kds KContact Con := ⟨fun _ h => h.eta⟩

/-- Neighbours that are alike in their order. -/
def clash : List (List G) → Bool
  | [] => false
  | [_] => false
  | x :: y :: q => ordC x y == 0 || clash (y :: q)
/-- What a log gives that was put together: the rows, the fault. -/
def joined (m : List (List G)) : List G := bif clash m then [.l [], .i 13] else bif Nat.blt 2000 m.length then [.l [], .i 2] else [.l m, .i 0]

theorem clash_drop (m : List (List G)) (i : Nat) (h : i + 1 < m.length) : clash (m.drop i) = (ordC (m.getD i []) (m.getD (i + 1) []) == 0 || clash (m.drop (i + 1))) := by
  rw [List.drop_eq_getElem_cons (show i < m.length by omega), List.drop_eq_getElem_cons h]
  simp only [clash]
  rw [List.getD_eq_getElem?_getD, List.getD_eq_getElem?_getD, List.getElem?_eq_getElem h, List.getElem?_eq_getElem (show i < m.length by omega)]
  rfl
theorem clash_last (m : List (List G)) (i : Nat) (h : m.length ≤ i + 1) : clash (m.drop i) = false := by
  have : (m.drop i).length ≤ 1 := by simp; omega
  match hm : m.drop i, this with
  | [], _ => rfl
  | [_], _ => rfl

theorem getD_app {m J : List (List G)} {i : Nat} (h : i < m.length) : (m ++ J).getD i [] = m.getD i [] := by
  rw [List.getD_eq_getElem?_getD, List.getD_eq_getElem?_getD, List.getElem?_append_left h]
theorem getD_Con {m : List (List G)} {i : Nat} (hm : ∀ z ∈ m, Con z) (h : i < m.length) : Con (m.getD i []) := by
  rw [List.getD_eq_getElem?_getD, List.getElem?_eq_getElem h]
  exact hm _ (List.getElem_mem h)

theorem merge_runs (m J : List (List G)) (hm : ∀ z ∈ m, Con z) (hl : m.length < 100000) : ∀ (k i : Nat), i + k = m.length →
    RetN st_log_Merge_8 [.l (m ++ J), .i (m.length : Int), .i ((i : Int) + 1)] (k + 1) fun c g => (c = 0 ∧ g = [.l [], .i 13] ∧ clash (m.drop i) = true) ∨ c = 1 ∧ g = [.l (m ++ J), .i (m.length : Int)] ∧ clash (m.drop i) = false
  | 0, i, hi => by
    refine RetN.stop (x := 1) (Ret.toEq ?_) (.inr ⟨rfl, rfl, clash_last m i (by omega)⟩)
    unfold st_log_Merge_8
    (dsimp +instances only [Go.AL.gi0, Go.AL.gis, Go.AL.row1, Go.AL.rows1, Go.AL.int1, Go.AL.str1, Go.AL.bool1])
    simp only [Int.toNat_natCast]
    (repeat (first | (refine Go.AL.Ret.pos ?_ ?_; (first | rfl | assumption | (simp only [Go.AL.inI, Go.AL.ltI_eq, Go.AL.leI_eq, Go.AL.nnI_eq, Bool.and_true, Bool.true_and, Bool.and_eq_true, Bool.and_eq_false_iff, Go.AL.dec_iff, Go.AL.dec_not_iff, Bool.not_eq_true', Bool.not_eq_false', beq_iff_eq, beq_eq_false_iff_ne, bne_iff_ne, bne_eq_false_iff_eq, ne_eq, Go.AL.nbeq_iff, Nat.ble_eq, Nat.blt_eq, List.length_set, List.length_append, List.length_replicate, List.length_cons, List.length_nil, List.length_take, List.length_drop, Int.toNat_natCast, true_and, and_true] <;> omega))) | (refine Go.AL.Ret.neg ?_ ?_; (first | rfl | assumption | (simp only [Go.AL.inI, Go.AL.ltI_eq, Go.AL.leI_eq, Go.AL.nnI_eq, Bool.and_true, Bool.true_and, Bool.and_eq_true, Bool.and_eq_false_iff, Go.AL.dec_iff, Go.AL.dec_not_iff, Bool.not_eq_true', Bool.not_eq_false', beq_iff_eq, beq_eq_false_iff_ne, bne_iff_ne, bne_eq_false_iff_eq, ne_eq, Go.AL.nbeq_iff, Nat.ble_eq, Nat.blt_eq, List.length_set, List.length_append, List.length_replicate, List.length_cons, List.length_nil, List.length_take, List.length_drop, Int.toNat_natCast, true_and, and_true] <;> omega)))))
    exact Ret.some rfl
  | k + 1, i, hi => by
    by_cases he : i + 1 < m.length
    · have t0 : ((i : Int) + 1 - 1).toNat = i := by omega
      have t1 : ((i : Int) + 1).toNat = i + 1 := by omega
      have t2 : 0 + i = i := by omega
      have t3 : 0 + (i + 1) = i + 1 := by omega
      have hx := getD_Con hm (show i < m.length by omega)
      have hy := getD_Con hm he
      have key : Ret (st_log_Merge_8 [.l (m ++ J), .i (m.length : Int), .i ((i : Int) + 1)]) fun o => o = bif ordC (m.getD i []) (m.getD (i + 1) []) == 0 then (some 0, [.l [], .i 13]) else (none, [.l (m ++ J), .i (m.length : Int), .i ((i : Int) + 1 + 1)]) := by
        unfold st_log_Merge_8
        (dsimp +instances only [Go.AL.gi0, Go.AL.gis, Go.AL.row1, Go.AL.rows1, Go.AL.int1, Go.AL.str1, Go.AL.bool1])
        simp only [Int.toNat_natCast, t0, t1, t2, t3, getD_app he, getD_app (show i < m.length by omega), hx.eta, hy.eta]
        (repeat (first | (refine Go.AL.Ret.pos ?_ ?_; (first | rfl | assumption | (simp only [Go.AL.inI, Go.AL.ltI_eq, Go.AL.leI_eq, Go.AL.nnI_eq, Bool.and_true, Bool.true_and, Bool.and_eq_true, Bool.and_eq_false_iff, Go.AL.dec_iff, Go.AL.dec_not_iff, Bool.not_eq_true', Bool.not_eq_false', beq_iff_eq, beq_eq_false_iff_ne, bne_iff_ne, bne_eq_false_iff_eq, ne_eq, Go.AL.nbeq_iff, Nat.ble_eq, Nat.blt_eq, List.length_set, List.length_append, List.length_replicate, List.length_cons, List.length_nil, List.length_take, List.length_drop, Int.toNat_natCast, true_and, and_true] <;> omega))) | (refine Go.AL.Ret.neg ?_ ?_; (first | rfl | assumption | (simp only [Go.AL.inI, Go.AL.ltI_eq, Go.AL.leI_eq, Go.AL.nnI_eq, Bool.and_true, Bool.true_and, Bool.and_eq_true, Bool.and_eq_false_iff, Go.AL.dec_iff, Go.AL.dec_not_iff, Bool.not_eq_true', Bool.not_eq_false', beq_iff_eq, beq_eq_false_iff_ne, bne_iff_ne, bne_eq_false_iff_eq, ne_eq, Go.AL.nbeq_iff, Nat.ble_eq, Nat.blt_eq, List.length_set, List.length_append, List.length_replicate, List.length_cons, List.length_nil, List.length_take, List.length_drop, Int.toNat_natCast, true_and, and_true] <;> omega)))))
        refine Ret.call (Ret.eq (compare_eq hx hy)) ?_
        rintro _ rfl
        (dsimp +instances only [Go.AL.gi0, Go.AL.gis, Go.AL.row1, Go.AL.rows1, Go.AL.int1, Go.AL.str1, Go.AL.bool1])
        refine Ret.test (fun h => ?_) fun h => ?_
        · rw [h]
          exact Ret.some rfl
        · rw [h]
          (repeat (first | (refine Go.AL.Ret.pos ?_ ?_; (first | rfl | assumption | (simp only [Go.AL.inI, Go.AL.ltI_eq, Go.AL.leI_eq, Go.AL.nnI_eq, Bool.and_true, Bool.true_and, Bool.and_eq_true, Bool.and_eq_false_iff, Go.AL.dec_iff, Go.AL.dec_not_iff, Bool.not_eq_true', Bool.not_eq_false', beq_iff_eq, beq_eq_false_iff_ne, bne_iff_ne, bne_eq_false_iff_eq, ne_eq, Go.AL.nbeq_iff, Nat.ble_eq, Nat.blt_eq, List.length_set, List.length_append, List.length_replicate, List.length_cons, List.length_nil, List.length_take, List.length_drop, Int.toNat_natCast, true_and, and_true] <;> omega))) | (refine Go.AL.Ret.neg ?_ ?_; (first | rfl | assumption | (simp only [Go.AL.inI, Go.AL.ltI_eq, Go.AL.leI_eq, Go.AL.nnI_eq, Bool.and_true, Bool.true_and, Bool.and_eq_true, Bool.and_eq_false_iff, Go.AL.dec_iff, Go.AL.dec_not_iff, Bool.not_eq_true', Bool.not_eq_false', beq_iff_eq, beq_eq_false_iff_ne, bne_iff_ne, bne_eq_false_iff_eq, ne_eq, Go.AL.nbeq_iff, Nat.ble_eq, Nat.blt_eq, List.length_set, List.length_append, List.length_replicate, List.length_cons, List.length_nil, List.length_take, List.length_drop, Int.toNat_natCast, true_and, and_true] <;> omega)))))
          exact Ret.some rfl
      obtain ⟨o, h, rfl⟩ := key
      rw [clash_drop m i he]
      cases hc : ordC (m.getD i []) (m.getD (i + 1) []) == 0 with
      | true =>
        rw [hc] at h
        exact RetN.stop h (.inl ⟨rfl, rfl, rfl⟩)
      | false =>
        rw [hc] at h
        refine RetN.next h ((merge_runs m J hm hl k (i + 1) (by omega)).mono ?_)
        intro c g hcg
        simpa using hcg
    · have : RetN st_log_Merge_8 [.l (m ++ J), .i (m.length : Int), .i ((i : Int) + 1)] 1 fun c g => c = 1 ∧ g = [.l (m ++ J), .i (m.length : Int)] := by
        refine RetN.stop (x := 1) (Ret.toEq ?_) ⟨rfl, rfl⟩
        unfold st_log_Merge_8
        (dsimp +instances only [Go.AL.gi0, Go.AL.gis, Go.AL.row1, Go.AL.rows1, Go.AL.int1, Go.AL.str1, Go.AL.bool1])
        simp only [Int.toNat_natCast]
        (repeat (first | (refine Go.AL.Ret.pos ?_ ?_; (first | rfl | assumption | (simp only [Go.AL.inI, Go.AL.ltI_eq, Go.AL.leI_eq, Go.AL.nnI_eq, Bool.and_true, Bool.true_and, Bool.and_eq_true, Bool.and_eq_false_iff, Go.AL.dec_iff, Go.AL.dec_not_iff, Bool.not_eq_true', Bool.not_eq_false', beq_iff_eq, beq_eq_false_iff_ne, bne_iff_ne, bne_eq_false_iff_eq, ne_eq, Go.AL.nbeq_iff, Nat.ble_eq, Nat.blt_eq, List.length_set, List.length_append, List.length_replicate, List.length_cons, List.length_nil, List.length_take, List.length_drop, Int.toNat_natCast, true_and, and_true] <;> omega))) | (refine Go.AL.Ret.neg ?_ ?_; (first | rfl | assumption | (simp only [Go.AL.inI, Go.AL.ltI_eq, Go.AL.leI_eq, Go.AL.nnI_eq, Bool.and_true, Bool.true_and, Bool.and_eq_true, Bool.and_eq_false_iff, Go.AL.dec_iff, Go.AL.dec_not_iff, Bool.not_eq_true', Bool.not_eq_false', beq_iff_eq, beq_eq_false_iff_ne, bne_iff_ne, bne_eq_false_iff_eq, ne_eq, Go.AL.nbeq_iff, Nat.ble_eq, Nat.blt_eq, List.length_set, List.length_append, List.length_replicate, List.length_cons, List.length_nil, List.length_take, List.length_drop, Int.toNat_natCast, true_and, and_true] <;> omega)))))
        exact Ret.some rfl
      obtain ⟨n, c, g, h1, h2, h3, h4⟩ := this
      exact ⟨n, c, g, h1, by omega, .inr ⟨h3, h4, clash_last m i (by omega)⟩⟩

theorem logsOf_runs (m J : List (List G)) (hm : ∀ z ∈ m, Con z) (hl : m.length < 100000) : ∀ (k i : Nat), i + k = m.length →
    RetN st_pileref2_LogsOf_5 [.l (m ++ J), .i (m.length : Int), .i (m.length : Int), .i (i : Int)] (k + 1) fun c g => (c = 0 ∧ g = [.l [], .i 13] ∧ clash (m.drop (i - 1)) = true) ∨ c = 1 ∧ g = [.l (m ++ J), .i (m.length : Int)] ∧ clash (m.drop (i - 1)) = false
  | 0, i, hi => by
    refine RetN.stop (x := 1) (Ret.toEq ?_) (.inr ⟨rfl, rfl, clash_last m _ (by omega)⟩)
    unfold st_pileref2_LogsOf_5
    (dsimp +instances only [Go.AL.gi0, Go.AL.gis, Go.AL.row1, Go.AL.rows1, Go.AL.int1, Go.AL.str1, Go.AL.bool1])
    simp only [Int.toNat_natCast]
    (repeat (first | (refine Go.AL.Ret.pos ?_ ?_; (first | rfl | assumption | (simp only [Go.AL.inI, Go.AL.ltI_eq, Go.AL.leI_eq, Go.AL.nnI_eq, Bool.and_true, Bool.true_and, Bool.and_eq_true, Bool.and_eq_false_iff, Go.AL.dec_iff, Go.AL.dec_not_iff, Bool.not_eq_true', Bool.not_eq_false', beq_iff_eq, beq_eq_false_iff_ne, bne_iff_ne, bne_eq_false_iff_eq, ne_eq, Go.AL.nbeq_iff, Nat.ble_eq, Nat.blt_eq, List.length_set, List.length_append, List.length_replicate, List.length_cons, List.length_nil, List.length_take, List.length_drop, Int.toNat_natCast, true_and, and_true] <;> omega))) | (refine Go.AL.Ret.neg ?_ ?_; (first | rfl | assumption | (simp only [Go.AL.inI, Go.AL.ltI_eq, Go.AL.leI_eq, Go.AL.nnI_eq, Bool.and_true, Bool.true_and, Bool.and_eq_true, Bool.and_eq_false_iff, Go.AL.dec_iff, Go.AL.dec_not_iff, Bool.not_eq_true', Bool.not_eq_false', beq_iff_eq, beq_eq_false_iff_ne, bne_iff_ne, bne_eq_false_iff_eq, ne_eq, Go.AL.nbeq_iff, Nat.ble_eq, Nat.blt_eq, List.length_set, List.length_append, List.length_replicate, List.length_cons, List.length_nil, List.length_take, List.length_drop, Int.toNat_natCast, true_and, and_true] <;> omega)))))
    exact Ret.some rfl
  | k + 1, i, hi => by
    have ih := logsOf_runs m J hm hl k (i + 1) (by omega)
    rw [show i + 1 - 1 = i from by omega] at ih
    by_cases he : i = 0
    · subst he
      refine RetN.next (Ret.toEq ?_) ih
      unfold st_pileref2_LogsOf_5
      (dsimp +instances only [Go.AL.gi0, Go.AL.gis, Go.AL.row1, Go.AL.rows1, Go.AL.int1, Go.AL.str1, Go.AL.bool1])
      simp only [Int.toNat_natCast]
      (repeat (first | (refine Go.AL.Ret.pos ?_ ?_; (first | rfl | assumption | (simp only [Go.AL.inI, Go.AL.ltI_eq, Go.AL.leI_eq, Go.AL.nnI_eq, Bool.and_true, Bool.true_and, Bool.and_eq_true, Bool.and_eq_false_iff, Go.AL.dec_iff, Go.AL.dec_not_iff, Bool.not_eq_true', Bool.not_eq_false', beq_iff_eq, beq_eq_false_iff_ne, bne_iff_ne, bne_eq_false_iff_eq, ne_eq, Go.AL.nbeq_iff, Nat.ble_eq, Nat.blt_eq, List.length_set, List.length_append, List.length_replicate, List.length_cons, List.length_nil, List.length_take, List.length_drop, Int.toNat_natCast, true_and, and_true] <;> omega))) | (refine Go.AL.Ret.neg ?_ ?_; (first | rfl | assumption | (simp only [Go.AL.inI, Go.AL.ltI_eq, Go.AL.leI_eq, Go.AL.nnI_eq, Bool.and_true, Bool.true_and, Bool.and_eq_true, Bool.and_eq_false_iff, Go.AL.dec_iff, Go.AL.dec_not_iff, Bool.not_eq_true', Bool.not_eq_false', beq_iff_eq, beq_eq_false_iff_ne, bne_iff_ne, bne_eq_false_iff_eq, ne_eq, Go.AL.nbeq_iff, Nat.ble_eq, Nat.blt_eq, List.length_set, List.length_append, List.length_replicate, List.length_cons, List.length_nil, List.length_take, List.length_drop, Int.toNat_natCast, true_and, and_true] <;> omega)))))
      exact Ret.some rfl
    · obtain ⟨i, rfl⟩ : ∃ j, i = j + 1 := ⟨i - 1, by omega⟩
      have hlt : i + 1 < m.length := by omega
      have t0 : (((i + 1 : Nat) : Int) - 1).toNat = i := by omega
      have t1 : ((i + 1 : Nat) : Int).toNat = i + 1 := by omega
      have t2 : 0 + i = i := by omega
      have t3 : 0 + (i + 1) = i + 1 := by omega
      have hx := getD_Con hm (show i < m.length by omega)
      have hy := getD_Con hm hlt
      have key : Ret (st_pileref2_LogsOf_5 [.l (m ++ J), .i (m.length : Int), .i (m.length : Int), .i ((i + 1 : Nat) : Int)]) fun o => o = bif ordC (m.getD i []) (m.getD (i + 1) []) == 0 then (some 0, [.l [], .i 13]) else (none, [.l (m ++ J), .i (m.length : Int), .i (m.length : Int), .i ((i + 1 + 1 : Nat) : Int)]) := by
        unfold st_pileref2_LogsOf_5
        (dsimp +instances only [Go.AL.gi0, Go.AL.gis, Go.AL.row1, Go.AL.rows1, Go.AL.int1, Go.AL.str1, Go.AL.bool1])
        simp only [t0, t1, t2, t3, getD_app hlt, getD_app (show i < m.length by omega), hx.eta, hy.eta]
        (repeat (first | (refine Go.AL.Ret.pos ?_ ?_; (first | rfl | assumption | (simp only [Go.AL.inI, Go.AL.ltI_eq, Go.AL.leI_eq, Go.AL.nnI_eq, Bool.and_true, Bool.true_and, Bool.and_eq_true, Bool.and_eq_false_iff, Go.AL.dec_iff, Go.AL.dec_not_iff, Bool.not_eq_true', Bool.not_eq_false', beq_iff_eq, beq_eq_false_iff_ne, bne_iff_ne, bne_eq_false_iff_eq, ne_eq, Go.AL.nbeq_iff, Nat.ble_eq, Nat.blt_eq, List.length_set, List.length_append, List.length_replicate, List.length_cons, List.length_nil, List.length_take, List.length_drop, Int.toNat_natCast, true_and, and_true] <;> omega))) | (refine Go.AL.Ret.neg ?_ ?_; (first | rfl | assumption | (simp only [Go.AL.inI, Go.AL.ltI_eq, Go.AL.leI_eq, Go.AL.nnI_eq, Bool.and_true, Bool.true_and, Bool.and_eq_true, Bool.and_eq_false_iff, Go.AL.dec_iff, Go.AL.dec_not_iff, Bool.not_eq_true', Bool.not_eq_false', beq_iff_eq, beq_eq_false_iff_ne, bne_iff_ne, bne_eq_false_iff_eq, ne_eq, Go.AL.nbeq_iff, Nat.ble_eq, Nat.blt_eq, List.length_set, List.length_append, List.length_replicate, List.length_cons, List.length_nil, List.length_take, List.length_drop, Int.toNat_natCast, true_and, and_true] <;> omega)))))
        refine Ret.call (Ret.eq (order_eq hx hy)) ?_
        rintro _ rfl
        (dsimp +instances only [Go.AL.gi0, Go.AL.gis, Go.AL.row1, Go.AL.rows1, Go.AL.int1, Go.AL.str1, Go.AL.bool1])
        refine Ret.test (fun h => ?_) fun h => ?_
        · rw [h]
          exact Ret.some rfl
        · rw [h]
          (repeat (first | (refine Go.AL.Ret.pos ?_ ?_; (first | rfl | assumption | (simp only [Go.AL.inI, Go.AL.ltI_eq, Go.AL.leI_eq, Go.AL.nnI_eq, Bool.and_true, Bool.true_and, Bool.and_eq_true, Bool.and_eq_false_iff, Go.AL.dec_iff, Go.AL.dec_not_iff, Bool.not_eq_true', Bool.not_eq_false', beq_iff_eq, beq_eq_false_iff_ne, bne_iff_ne, bne_eq_false_iff_eq, ne_eq, Go.AL.nbeq_iff, Nat.ble_eq, Nat.blt_eq, List.length_set, List.length_append, List.length_replicate, List.length_cons, List.length_nil, List.length_take, List.length_drop, Int.toNat_natCast, true_and, and_true] <;> omega))) | (refine Go.AL.Ret.neg ?_ ?_; (first | rfl | assumption | (simp only [Go.AL.inI, Go.AL.ltI_eq, Go.AL.leI_eq, Go.AL.nnI_eq, Bool.and_true, Bool.true_and, Bool.and_eq_true, Bool.and_eq_false_iff, Go.AL.dec_iff, Go.AL.dec_not_iff, Bool.not_eq_true', Bool.not_eq_false', beq_iff_eq, beq_eq_false_iff_ne, bne_iff_ne, bne_eq_false_iff_eq, ne_eq, Go.AL.nbeq_iff, Nat.ble_eq, Nat.blt_eq, List.length_set, List.length_append, List.length_replicate, List.length_cons, List.length_nil, List.length_take, List.length_drop, Int.toNat_natCast, true_and, and_true] <;> omega)))))
          exact Ret.some rfl
      rw [show i + 1 - 1 = i from by omega, clash_drop m i hlt]
      obtain ⟨o, h, rfl⟩ := key
      cases hc : ordC (m.getD i []) (m.getD (i + 1) []) == 0 with
      | true =>
        rw [hc] at h
        exact RetN.stop h (.inl ⟨rfl, rfl, rfl⟩)
      | false =>
        rw [hc] at h
        refine RetN.next h (ih.mono ?_)
        intro c g hcg
        simpa using hcg

/-- The rows of two logs in one. -/
def mixed (a b : List (List G)) : List (List G) := compact (rowEq KContact) (sortA (ltC ordC) (a ++ b))
theorem mixed_Con {a b : List (List G)} (ha : ∀ z ∈ a, Con z) (hb : ∀ z ∈ b, Con z) : ∀ z ∈ mixed a b, Con z := fun z hz =>
  sortA_all (lt := ltC ordC) (l := a ++ b) (fun y hy => (List.mem_append.1 hy).elim (ha y) (hb y)) z (compact_mem hz)

theorem concat_eq (a b : List (List G)) (h : a.length + b.length ≤ 20) : F_slices_Concat_Contact_f [.l [[.l a], [.l b]]] = some [.l (a ++ b)] := by
  have h := concF_eq (K := KContact) (Z := zC) [a, b] (by simp [lenAll]; omega) (by simp)
  rw [show [a, b].flatten = a ++ b from by simp] at h
  exact h

theorem merge_ok (a b : List (List G)) (ha : ∀ z ∈ a, Con z) (hb : ∀ z ∈ b, Con z) (h : a.length + b.length ≤ 20) :
    F_log_Merge [.l a, .l b] = some (bif faultLog a != 0 then [.l [], .i (faultLog a)] else bif faultLog b != 0 then [.l [], .i (faultLog b)] else joined (mixed a b)) := by
  have hab : ∀ z ∈ a ++ b, Con z := fun y hy => (List.mem_append.1 hy).elim (ha y) (hb y)
  have hs := sortA_all (lt := ltC ordC) hab
  have hsl := sortA_length (ltC ordC) (a ++ b)
  have hc := mixed_Con ha hb
  have hle : (mixed a b).length ≤ (sortA (ltC ordC) (a ++ b)).length := compact_length _ _
  have hal : (a ++ b).length = a.length + b.length := List.length_append
  refine Ret.toEq ?_
  have both : F_log_checkBoth [.l a, .l b] = some [.i (bif faultLog a != 0 then faultLog a else faultLog b)] := by
    unfold F_log_checkBoth
    (dsimp +instances only [Go.AL.gi0, Go.AL.gis, Go.AL.row1, Go.AL.rows1, Go.AL.int1, Go.AL.str1, Go.AL.bool1])
    rw [checkLog_eq a ha (by omega), checkLog_eq b hb (by omega)]
    simp only [callF_some rfl]
    (dsimp +instances only [Go.AL.gi0, Go.AL.gis, Go.AL.row1, Go.AL.rows1, Go.AL.int1, Go.AL.str1, Go.AL.bool1])
    cases faultLog a != 0 <;> rfl
  unfold F_log_Merge
  (dsimp +instances only [Go.AL.gi0, Go.AL.gis, Go.AL.row1, Go.AL.rows1, Go.AL.int1, Go.AL.str1, Go.AL.bool1])
  refine Ret.call (Ret.eq both) ?_
  rintro _ rfl
  (dsimp +instances only [Go.AL.gi0, Go.AL.gis, Go.AL.row1, Go.AL.rows1, Go.AL.int1, Go.AL.str1, Go.AL.bool1])
  cases h1 : faultLog a != 0 with
  | true =>
    simp only [cond_true, h1]
    exact Ret.some rfl
  | false =>
    simp only [cond_false]
    cases h2 : faultLog b != 0 with
    | true => exact Ret.some rfl
    | false =>
      simp only [cond_false]
      refine Ret.call (Ret.eq (concat_eq a b h)) ?_
      rintro _ rfl
      (dsimp +instances only [Go.AL.gi0, Go.AL.gis, Go.AL.row1, Go.AL.rows1, Go.AL.int1, Go.AL.str1, Go.AL.bool1])
      refine Ret.callb (Ret.eq (sortCompare_eq _ hab (by omega))) (by (first | rfl | assumption | (simp only [Go.AL.inI, Go.AL.ltI_eq, Go.AL.leI_eq, Go.AL.nnI_eq, Bool.and_true, Bool.true_and, Bool.and_eq_true, Bool.and_eq_false_iff, Go.AL.dec_iff, Go.AL.dec_not_iff, Bool.not_eq_true', Bool.not_eq_false', beq_iff_eq, beq_eq_false_iff_ne, bne_iff_ne, bne_eq_false_iff_eq, ne_eq, Go.AL.nbeq_iff, Nat.ble_eq, Nat.blt_eq, List.length_set, List.length_append, List.length_replicate, List.length_cons, List.length_nil, List.length_take, List.length_drop, Int.toNat_natCast, true_and, and_true] <;> omega))) ?_
      rintro _ rfl
      (dsimp +instances only [Go.AL.gi0, Go.AL.gis, Go.AL.row1, Go.AL.rows1, Go.AL.int1, Go.AL.str1, Go.AL.bool1])
      refine Ret.callb (P := fun g => ∃ J, g = [.l (mixed a b ++ J), .i ((mixed a b).length : Int)] ∧ (mixed a b ++ J).length = (sortA (ltC ordC) (a ++ b)).length)
        (cmpcF_eq (Z := zC) kdsC _ hs (by omega)) (by rw [hsl]; simp) ?_
      rintro _ ⟨J, rfl, hJ⟩
      (dsimp +instances only [Go.AL.gi0, Go.AL.gis, Go.AL.row1, Go.AL.rows1, Go.AL.int1, Go.AL.str1, Go.AL.bool1])
      simp only [Int.toNat_natCast]
      refine Ret.loop ((merge_runs (mixed a b) J hc (by omega) (mixed a b).length 0 (by omega)).to (by omega)) rfl ?_
      rintro c g (⟨rfl, rfl, hcl⟩ | ⟨rfl, rfl, hcl⟩)
      · (dsimp +instances only [Go.AL.gi0, Go.AL.gis, Go.AL.row1, Go.AL.rows1, Go.AL.int1, Go.AL.str1, Go.AL.bool1])
        have hcl : clash (mixed a b) = true := hcl
        (repeat (first | (refine Go.AL.Ret.pos ?_ ?_; (first | rfl | assumption | (simp only [Go.AL.inI, Go.AL.ltI_eq, Go.AL.leI_eq, Go.AL.nnI_eq, Bool.and_true, Bool.true_and, Bool.and_eq_true, Bool.and_eq_false_iff, Go.AL.dec_iff, Go.AL.dec_not_iff, Bool.not_eq_true', Bool.not_eq_false', beq_iff_eq, beq_eq_false_iff_ne, bne_iff_ne, bne_eq_false_iff_eq, ne_eq, Go.AL.nbeq_iff, Nat.ble_eq, Nat.blt_eq, List.length_set, List.length_append, List.length_replicate, List.length_cons, List.length_nil, List.length_take, List.length_drop, Int.toNat_natCast, true_and, and_true] <;> omega))) | (refine Go.AL.Ret.neg ?_ ?_; (first | rfl | assumption | (simp only [Go.AL.inI, Go.AL.ltI_eq, Go.AL.leI_eq, Go.AL.nnI_eq, Bool.and_true, Bool.true_and, Bool.and_eq_true, Bool.and_eq_false_iff, Go.AL.dec_iff, Go.AL.dec_not_iff, Bool.not_eq_true', Bool.not_eq_false', beq_iff_eq, beq_eq_false_iff_ne, bne_iff_ne, bne_eq_false_iff_eq, ne_eq, Go.AL.nbeq_iff, Nat.ble_eq, Nat.blt_eq, List.length_set, List.length_append, List.length_replicate, List.length_cons, List.length_nil, List.length_take, List.length_drop, Int.toNat_natCast, true_and, and_true] <;> omega)))))
        exact Ret.some (by simp only [joined, hcl, cond_true])
      · (dsimp +instances only [Go.AL.gi0, Go.AL.gis, Go.AL.row1, Go.AL.rows1, Go.AL.int1, Go.AL.str1, Go.AL.bool1])
        have hcl : clash (mixed a b) = false := hcl
        simp only [Int.toNat_natCast]
        (repeat (first | (refine Go.AL.Ret.pos ?_ ?_; (first | rfl | assumption | (simp only [Go.AL.inI, Go.AL.ltI_eq, Go.AL.leI_eq, Go.AL.nnI_eq, Bool.and_true, Bool.true_and, Bool.and_eq_true, Bool.and_eq_false_iff, Go.AL.dec_iff, Go.AL.dec_not_iff, Bool.not_eq_true', Bool.not_eq_false', beq_iff_eq, beq_eq_false_iff_ne, bne_iff_ne, bne_eq_false_iff_eq, ne_eq, Go.AL.nbeq_iff, Nat.ble_eq, Nat.blt_eq, List.length_set, List.length_append, List.length_replicate, List.length_cons, List.length_nil, List.length_take, List.length_drop, Int.toNat_natCast, true_and, and_true] <;> omega))) | (refine Go.AL.Ret.neg ?_ ?_; (first | rfl | assumption | (simp only [Go.AL.inI, Go.AL.ltI_eq, Go.AL.leI_eq, Go.AL.nnI_eq, Bool.and_true, Bool.true_and, Bool.and_eq_true, Bool.and_eq_false_iff, Go.AL.dec_iff, Go.AL.dec_not_iff, Bool.not_eq_true', Bool.not_eq_false', beq_iff_eq, beq_eq_false_iff_ne, bne_iff_ne, bne_eq_false_iff_eq, ne_eq, Go.AL.nbeq_iff, Nat.ble_eq, Nat.blt_eq, List.length_set, List.length_append, List.length_replicate, List.length_cons, List.length_nil, List.length_take, List.length_drop, Int.toNat_natCast, true_and, and_true] <;> omega)))))
        exact Ret.some (by
          have : Nat.blt 2000 (mixed a b).length = false := Bool.eq_false_iff.2 fun hh => by rw [Nat.blt_eq] at hh; omega
          simp only [joined, hcl, this, cond_false]
          simp)

theorem logsOf_ok (a b : List (List G)) (ha : ∀ z ∈ a, Con z) (hb : ∀ z ∈ b, Con z) (h : a.length + b.length ≤ 20) : F_pileref2_LogsOf [.l a, .l b] = some (joined (mixed a b)) := by
  have hab : ∀ z ∈ a ++ b, Con z := fun y hy => (List.mem_append.1 hy).elim (ha y) (hb y)
  have hs := sortA_all (lt := ltC ordC) hab
  have hsl := sortA_length (ltC ordC) (a ++ b)
  have hc := mixed_Con ha hb
  have hle : (mixed a b).length ≤ (sortA (ltC ordC) (a ++ b)).length := compact_length _ _
  have hal : (a ++ b).length = a.length + b.length := List.length_append
  refine Ret.toEq ?_
  unfold F_pileref2_LogsOf
  (dsimp +instances only [Go.AL.gi0, Go.AL.gis, Go.AL.row1, Go.AL.rows1, Go.AL.int1, Go.AL.str1, Go.AL.bool1])
  refine Ret.call (Ret.eq (concat_eq a b h)) ?_
  rintro _ rfl
  (dsimp +instances only [Go.AL.gi0, Go.AL.gis, Go.AL.row1, Go.AL.rows1, Go.AL.int1, Go.AL.str1, Go.AL.bool1])
  refine Ret.callb (Ret.eq (sortOrder_eq _ hab (by omega))) (by (first | rfl | assumption | (simp only [Go.AL.inI, Go.AL.ltI_eq, Go.AL.leI_eq, Go.AL.nnI_eq, Bool.and_true, Bool.true_and, Bool.and_eq_true, Bool.and_eq_false_iff, Go.AL.dec_iff, Go.AL.dec_not_iff, Bool.not_eq_true', Bool.not_eq_false', beq_iff_eq, beq_eq_false_iff_ne, bne_iff_ne, bne_eq_false_iff_eq, ne_eq, Go.AL.nbeq_iff, Nat.ble_eq, Nat.blt_eq, List.length_set, List.length_append, List.length_replicate, List.length_cons, List.length_nil, List.length_take, List.length_drop, Int.toNat_natCast, true_and, and_true] <;> omega))) ?_
  rintro _ rfl
  (dsimp +instances only [Go.AL.gi0, Go.AL.gis, Go.AL.row1, Go.AL.rows1, Go.AL.int1, Go.AL.str1, Go.AL.bool1])
  refine Ret.callb (P := fun g => ∃ J, g = [.l (mixed a b ++ J), .i ((mixed a b).length : Int)] ∧ (mixed a b ++ J).length = (sortA (ltC ordC) (a ++ b)).length)
    (cmpcF_eq (Z := zC) kdsC _ hs (by omega)) (by rw [hsl]; simp) ?_
  rintro _ ⟨J, rfl, hJ⟩
  (dsimp +instances only [Go.AL.gi0, Go.AL.gis, Go.AL.row1, Go.AL.rows1, Go.AL.int1, Go.AL.str1, Go.AL.bool1])
  simp only [Int.toNat_natCast]
  refine Ret.loop ((logsOf_runs (mixed a b) J hc (by omega) (mixed a b).length 0 (by omega)).to (by omega)) rfl ?_
  rintro c g (⟨rfl, rfl, hcl⟩ | ⟨rfl, rfl, hcl⟩)
  · (dsimp +instances only [Go.AL.gi0, Go.AL.gis, Go.AL.row1, Go.AL.rows1, Go.AL.int1, Go.AL.str1, Go.AL.bool1])
    have hcl : clash (mixed a b) = true := hcl
    (repeat (first | (refine Go.AL.Ret.pos ?_ ?_; (first | rfl | assumption | (simp only [Go.AL.inI, Go.AL.ltI_eq, Go.AL.leI_eq, Go.AL.nnI_eq, Bool.and_true, Bool.true_and, Bool.and_eq_true, Bool.and_eq_false_iff, Go.AL.dec_iff, Go.AL.dec_not_iff, Bool.not_eq_true', Bool.not_eq_false', beq_iff_eq, beq_eq_false_iff_ne, bne_iff_ne, bne_eq_false_iff_eq, ne_eq, Go.AL.nbeq_iff, Nat.ble_eq, Nat.blt_eq, List.length_set, List.length_append, List.length_replicate, List.length_cons, List.length_nil, List.length_take, List.length_drop, Int.toNat_natCast, true_and, and_true] <;> omega))) | (refine Go.AL.Ret.neg ?_ ?_; (first | rfl | assumption | (simp only [Go.AL.inI, Go.AL.ltI_eq, Go.AL.leI_eq, Go.AL.nnI_eq, Bool.and_true, Bool.true_and, Bool.and_eq_true, Bool.and_eq_false_iff, Go.AL.dec_iff, Go.AL.dec_not_iff, Bool.not_eq_true', Bool.not_eq_false', beq_iff_eq, beq_eq_false_iff_ne, bne_iff_ne, bne_eq_false_iff_eq, ne_eq, Go.AL.nbeq_iff, Nat.ble_eq, Nat.blt_eq, List.length_set, List.length_append, List.length_replicate, List.length_cons, List.length_nil, List.length_take, List.length_drop, Int.toNat_natCast, true_and, and_true] <;> omega)))))
    exact Ret.some (by simp only [joined, hcl, cond_true])
  · (dsimp +instances only [Go.AL.gi0, Go.AL.gis, Go.AL.row1, Go.AL.rows1, Go.AL.int1, Go.AL.str1, Go.AL.bool1])
    have hcl : clash (mixed a b) = false := hcl
    simp only [Int.toNat_natCast]
    (repeat (first | (refine Go.AL.Ret.pos ?_ ?_; (first | rfl | assumption | (simp only [Go.AL.inI, Go.AL.ltI_eq, Go.AL.leI_eq, Go.AL.nnI_eq, Bool.and_true, Bool.true_and, Bool.and_eq_true, Bool.and_eq_false_iff, Go.AL.dec_iff, Go.AL.dec_not_iff, Bool.not_eq_true', Bool.not_eq_false', beq_iff_eq, beq_eq_false_iff_ne, bne_iff_ne, bne_eq_false_iff_eq, ne_eq, Go.AL.nbeq_iff, Nat.ble_eq, Nat.blt_eq, List.length_set, List.length_append, List.length_replicate, List.length_cons, List.length_nil, List.length_take, List.length_drop, Int.toNat_natCast, true_and, and_true] <;> omega))) | (refine Go.AL.Ret.neg ?_ ?_; (first | rfl | assumption | (simp only [Go.AL.inI, Go.AL.ltI_eq, Go.AL.leI_eq, Go.AL.nnI_eq, Bool.and_true, Bool.true_and, Bool.and_eq_true, Bool.and_eq_false_iff, Go.AL.dec_iff, Go.AL.dec_not_iff, Bool.not_eq_true', Bool.not_eq_false', beq_iff_eq, beq_eq_false_iff_ne, bne_iff_ne, bne_eq_false_iff_eq, ne_eq, Go.AL.nbeq_iff, Nat.ble_eq, Nat.blt_eq, List.length_set, List.length_append, List.length_replicate, List.length_cons, List.length_nil, List.length_take, List.length_drop, Int.toNat_natCast, true_and, and_true] <;> omega)))))
    exact Ret.some (by
      have : Nat.blt 2000 (mixed a b).length = false := Bool.eq_false_iff.2 fun hh => by rw [Nat.blt_eq] at hh; omega
      simp only [joined, hcl, this, cond_false]
      simp)

end Go.Proofs.SYtpfhjchbegdgdaaGreatDoor

namespace Go.Proofs.SYtpfhjchbegdgdaaGreatDoor
open Go Go.AL Go.Proofs

/-- The rows that are not among others. -/
def lacking (others l : List (List G)) : List (List G) := l.filter fun x => !others.any fun y => rowEq KContact x y
theorem lacking_Con {o l : List (List G)} (h : ∀ z ∈ l, Con z) : ∀ z ∈ lacking o l, Con z := fun z hz => h z (List.mem_filter.1 hz).1

theorem without_ok (l o : List (List G)) (hl : ∀ z ∈ l, Con z) (ho : ∀ z ∈ o, Con z) (h1 : l.length < 100000) (h2 : o.length < 100000) : F_log_Without [.l l, .l o] = some [.l (lacking o l)] := by
  refine Ret.toEq ?_
  unfold F_log_Without
  (dsimp +instances only [Go.AL.gi0, Go.AL.gis, Go.AL.row1, Go.AL.rows1, Go.AL.int1, Go.AL.str1, Go.AL.bool1])
  have r1 := range_all (st := st_log_Without_3) (σ := List (List G) × Nat) (fun s i => [.l s.1, .i (s.2 : Int), .l l, .l o, .i (o.length : Int), .i (i : Int)]) o (fun s => (0, [.l s.1, .i (s.2 : Int), .l l]))
    (fun s i => ∀ key, (gi (mget KContact s.1 key [.t false]) 0).bool = (o.take i).any fun y => rowEq KContact key y) ([], 0) (by omega) (fun key => by simp [mget_nil]; rfl)
    (fun s i x hI hi hx hm ht => by
      refine Ret.mono (P := fun a => a = (none, [.l (mput KContact s.1 x [.t true] s.2), .i ((mclk KContact s.1 x s.2 : Nat) : Int), .l l, .l o, .i (o.length : Int), .i ((i : Int) + 1)])) ?_ ?_
      · unfold st_log_Without_3
        (dsimp +instances only [Go.AL.gi0, Go.AL.gis, Go.AL.row1, Go.AL.rows1, Go.AL.int1, Go.AL.str1, Go.AL.bool1])
        simp only [Int.toNat_natCast, hx, (ho x hm).eta]
        (repeat (first | (refine Go.AL.Ret.pos ?_ ?_; (first | rfl | assumption | (simp only [Go.AL.inI, Go.AL.ltI_eq, Go.AL.leI_eq, Go.AL.nnI_eq, Bool.and_true, Bool.true_and, Bool.and_eq_true, Bool.and_eq_false_iff, Go.AL.dec_iff, Go.AL.dec_not_iff, Bool.not_eq_true', Bool.not_eq_false', beq_iff_eq, beq_eq_false_iff_ne, bne_iff_ne, bne_eq_false_iff_eq, ne_eq, Go.AL.nbeq_iff, Nat.ble_eq, Nat.blt_eq, List.length_set, List.length_append, List.length_replicate, List.length_cons, List.length_nil, List.length_take, List.length_drop, Int.toNat_natCast, true_and, and_true] <;> omega))) | (refine Go.AL.Ret.neg ?_ ?_; (first | rfl | assumption | (simp only [Go.AL.inI, Go.AL.ltI_eq, Go.AL.leI_eq, Go.AL.nnI_eq, Bool.and_true, Bool.true_and, Bool.and_eq_true, Bool.and_eq_false_iff, Go.AL.dec_iff, Go.AL.dec_not_iff, Bool.not_eq_true', Bool.not_eq_false', beq_iff_eq, beq_eq_false_iff_ne, bne_iff_ne, bne_eq_false_iff_eq, ne_eq, Go.AL.nbeq_iff, Nat.ble_eq, Nat.blt_eq, List.length_set, List.length_append, List.length_replicate, List.length_cons, List.length_nil, List.length_take, List.length_drop, Int.toNat_natCast, true_and, and_true] <;> omega)))))
        exact Ret.some rfl
      · rintro _ rfl
        refine ⟨(mput KContact s.1 x [.t true] s.2, mclk KContact s.1 x s.2), rfl, fun key => ?_⟩
        rw [mget_mput, ht, List.any_append, ← hI key]
        cases hk : rowEq KContact key x <;> simp [hk, gi0, bool1])
    (fun s hI => by
      unfold st_log_Without_3
      (dsimp +instances only [Go.AL.gi0, Go.AL.gis, Go.AL.row1, Go.AL.rows1, Go.AL.int1, Go.AL.str1, Go.AL.bool1])
      simp only [Int.toNat_natCast]
      (repeat (first | (refine Go.AL.Ret.pos ?_ ?_; (first | rfl | assumption | (simp only [Go.AL.inI, Go.AL.ltI_eq, Go.AL.leI_eq, Go.AL.nnI_eq, Bool.and_true, Bool.true_and, Bool.and_eq_true, Bool.and_eq_false_iff, Go.AL.dec_iff, Go.AL.dec_not_iff, Bool.not_eq_true', Bool.not_eq_false', beq_iff_eq, beq_eq_false_iff_ne, bne_iff_ne, bne_eq_false_iff_eq, ne_eq, Go.AL.nbeq_iff, Nat.ble_eq, Nat.blt_eq, List.length_set, List.length_append, List.length_replicate, List.length_cons, List.length_nil, List.length_take, List.length_drop, Int.toNat_natCast, true_and, and_true] <;> omega))) | (refine Go.AL.Ret.neg ?_ ?_; (first | rfl | assumption | (simp only [Go.AL.inI, Go.AL.ltI_eq, Go.AL.leI_eq, Go.AL.nnI_eq, Bool.and_true, Bool.true_and, Bool.and_eq_true, Bool.and_eq_false_iff, Go.AL.dec_iff, Go.AL.dec_not_iff, Bool.not_eq_true', Bool.not_eq_false', beq_iff_eq, beq_eq_false_iff_ne, bne_iff_ne, bne_eq_false_iff_eq, ne_eq, Go.AL.nbeq_iff, Nat.ble_eq, Nat.blt_eq, List.length_set, List.length_append, List.length_replicate, List.length_cons, List.length_nil, List.length_take, List.length_drop, Int.toNat_natCast, true_and, and_true] <;> omega)))))
      exact Ret.some rfl)
  refine Ret.loop r1 rfl ?_
  rintro c g ⟨⟨m, n⟩, hI, rfl, rfl⟩
  (dsimp +instances only [Go.AL.gi0, Go.AL.gis, Go.AL.row1, Go.AL.rows1, Go.AL.int1, Go.AL.str1, Go.AL.bool1])
  rw [List.take_length] at hI
  have r2 := range_all (st := st_log_Without_9) (σ := List (List G)) (fun s i => [.l m, .i (n : Int), .l s, .l l, .i (l.length : Int), .i (i : Int)]) l (fun s => (0, [.l s]))
    (fun s i => s = lacking o (l.take i)) [] (by omega) rfl
    (fun s i x hs hi hx hm ht => by
      have hlen : s.length ≤ i := by
        rw [hs]
        exact Nat.le_trans (List.length_filter_le _ _) (by simp; omega)
      have e : lacking o (l.take (i + 1)) = s ++ bif o.any (fun y => rowEq KContact x y) then [] else [x] := by
        rw [ht, hs]
        unfold lacking
        rw [List.filter_append]
        congr 1
        cases ha : o.any (fun y => rowEq KContact x y) <;> simp [ha]
      unfold st_log_Without_9
      (dsimp +instances only [Go.AL.gi0, Go.AL.gis, Go.AL.row1, Go.AL.rows1, Go.AL.int1, Go.AL.str1, Go.AL.bool1])
      simp only [Int.toNat_natCast, hx, (hl x hm).eta, hI x]
      refine Ret.pos (by (first | rfl | assumption | (simp only [Go.AL.inI, Go.AL.ltI_eq, Go.AL.leI_eq, Go.AL.nnI_eq, Bool.and_true, Bool.true_and, Bool.and_eq_true, Bool.and_eq_false_iff, Go.AL.dec_iff, Go.AL.dec_not_iff, Bool.not_eq_true', Bool.not_eq_false', beq_iff_eq, beq_eq_false_iff_ne, bne_iff_ne, bne_eq_false_iff_eq, ne_eq, Go.AL.nbeq_iff, Nat.ble_eq, Nat.blt_eq, List.length_set, List.length_append, List.length_replicate, List.length_cons, List.length_nil, List.length_take, List.length_drop, Int.toNat_natCast, true_and, and_true] <;> omega))) (Ret.pos (by (first | rfl | assumption | (simp only [Go.AL.inI, Go.AL.ltI_eq, Go.AL.leI_eq, Go.AL.nnI_eq, Bool.and_true, Bool.true_and, Bool.and_eq_true, Bool.and_eq_false_iff, Go.AL.dec_iff, Go.AL.dec_not_iff, Bool.not_eq_true', Bool.not_eq_false', beq_iff_eq, beq_eq_false_iff_ne, bne_iff_ne, bne_eq_false_iff_eq, ne_eq, Go.AL.nbeq_iff, Nat.ble_eq, Nat.blt_eq, List.length_set, List.length_append, List.length_replicate, List.length_cons, List.length_nil, List.length_take, List.length_drop, Int.toNat_natCast, true_and, and_true] <;> omega))) ?_)
      cases ha : o.any (fun y => rowEq KContact x y) with
      | false =>
        rw [ha] at e
        (repeat (first | (refine Go.AL.Ret.pos ?_ ?_; (first | rfl | assumption | (simp only [Go.AL.inI, Go.AL.ltI_eq, Go.AL.leI_eq, Go.AL.nnI_eq, Bool.and_true, Bool.true_and, Bool.and_eq_true, Bool.and_eq_false_iff, Go.AL.dec_iff, Go.AL.dec_not_iff, Bool.not_eq_true', Bool.not_eq_false', beq_iff_eq, beq_eq_false_iff_ne, bne_iff_ne, bne_eq_false_iff_eq, ne_eq, Go.AL.nbeq_iff, Nat.ble_eq, Nat.blt_eq, List.length_set, List.length_append, List.length_replicate, List.length_cons, List.length_nil, List.length_take, List.length_drop, Int.toNat_natCast, true_and, and_true] <;> omega))) | (refine Go.AL.Ret.neg ?_ ?_; (first | rfl | assumption | (simp only [Go.AL.inI, Go.AL.ltI_eq, Go.AL.leI_eq, Go.AL.nnI_eq, Bool.and_true, Bool.true_and, Bool.and_eq_true, Bool.and_eq_false_iff, Go.AL.dec_iff, Go.AL.dec_not_iff, Bool.not_eq_true', Bool.not_eq_false', beq_iff_eq, beq_eq_false_iff_ne, bne_iff_ne, bne_eq_false_iff_eq, ne_eq, Go.AL.nbeq_iff, Nat.ble_eq, Nat.blt_eq, List.length_set, List.length_append, List.length_replicate, List.length_cons, List.length_nil, List.length_take, List.length_drop, Int.toNat_natCast, true_and, and_true] <;> omega)))))
        exact Ret.some ⟨s ++ [x], rfl, e.symm⟩
      | true =>
        rw [ha] at e
        (repeat (first | (refine Go.AL.Ret.pos ?_ ?_; (first | rfl | assumption | (simp only [Go.AL.inI, Go.AL.ltI_eq, Go.AL.leI_eq, Go.AL.nnI_eq, Bool.and_true, Bool.true_and, Bool.and_eq_true, Bool.and_eq_false_iff, Go.AL.dec_iff, Go.AL.dec_not_iff, Bool.not_eq_true', Bool.not_eq_false', beq_iff_eq, beq_eq_false_iff_ne, bne_iff_ne, bne_eq_false_iff_eq, ne_eq, Go.AL.nbeq_iff, Nat.ble_eq, Nat.blt_eq, List.length_set, List.length_append, List.length_replicate, List.length_cons, List.length_nil, List.length_take, List.length_drop, Int.toNat_natCast, true_and, and_true] <;> omega))) | (refine Go.AL.Ret.neg ?_ ?_; (first | rfl | assumption | (simp only [Go.AL.inI, Go.AL.ltI_eq, Go.AL.leI_eq, Go.AL.nnI_eq, Bool.and_true, Bool.true_and, Bool.and_eq_true, Bool.and_eq_false_iff, Go.AL.dec_iff, Go.AL.dec_not_iff, Bool.not_eq_true', Bool.not_eq_false', beq_iff_eq, beq_eq_false_iff_ne, bne_iff_ne, bne_eq_false_iff_eq, ne_eq, Go.AL.nbeq_iff, Nat.ble_eq, Nat.blt_eq, List.length_set, List.length_append, List.length_replicate, List.length_cons, List.length_nil, List.length_take, List.length_drop, Int.toNat_natCast, true_and, and_true] <;> omega)))))
        exact Ret.some ⟨s, rfl, by rw [e]; simp⟩)
    (fun s hI => by
      unfold st_log_Without_9
      (dsimp +instances only [Go.AL.gi0, Go.AL.gis, Go.AL.row1, Go.AL.rows1, Go.AL.int1, Go.AL.str1, Go.AL.bool1])
      (repeat (first | (refine Go.AL.Ret.pos ?_ ?_; (first | rfl | assumption | (simp only [Go.AL.inI, Go.AL.ltI_eq, Go.AL.leI_eq, Go.AL.nnI_eq, Bool.and_true, Bool.true_and, Bool.and_eq_true, Bool.and_eq_false_iff, Go.AL.dec_iff, Go.AL.dec_not_iff, Bool.not_eq_true', Bool.not_eq_false', beq_iff_eq, beq_eq_false_iff_ne, bne_iff_ne, bne_eq_false_iff_eq, ne_eq, Go.AL.nbeq_iff, Nat.ble_eq, Nat.blt_eq, List.length_set, List.length_append, List.length_replicate, List.length_cons, List.length_nil, List.length_take, List.length_drop, Int.toNat_natCast, true_and, and_true] <;> omega))) | (refine Go.AL.Ret.neg ?_ ?_; (first | rfl | assumption | (simp only [Go.AL.inI, Go.AL.ltI_eq, Go.AL.leI_eq, Go.AL.nnI_eq, Bool.and_true, Bool.true_and, Bool.and_eq_true, Bool.and_eq_false_iff, Go.AL.dec_iff, Go.AL.dec_not_iff, Bool.not_eq_true', Bool.not_eq_false', beq_iff_eq, beq_eq_false_iff_ne, bne_iff_ne, bne_eq_false_iff_eq, ne_eq, Go.AL.nbeq_iff, Nat.ble_eq, Nat.blt_eq, List.length_set, List.length_append, List.length_replicate, List.length_cons, List.length_nil, List.length_take, List.length_drop, Int.toNat_natCast, true_and, and_true] <;> omega)))))
      exact Ret.some rfl)
  simp only [Int.toNat_natCast]
  refine Ret.loop r2 rfl ?_
  rintro c g ⟨s, rfl, rfl, rfl⟩
  (dsimp +instances only [Go.AL.gi0, Go.AL.gis, Go.AL.row1, Go.AL.rows1, Go.AL.int1, Go.AL.str1, Go.AL.bool1])
  rw [List.take_length]
  (repeat (first | (refine Go.AL.Ret.pos ?_ ?_; (first | rfl | assumption | (simp only [Go.AL.inI, Go.AL.ltI_eq, Go.AL.leI_eq, Go.AL.nnI_eq, Bool.and_true, Bool.true_and, Bool.and_eq_true, Bool.and_eq_false_iff, Go.AL.dec_iff, Go.AL.dec_not_iff, Bool.not_eq_true', Bool.not_eq_false', beq_iff_eq, beq_eq_false_iff_ne, bne_iff_ne, bne_eq_false_iff_eq, ne_eq, Go.AL.nbeq_iff, Nat.ble_eq, Nat.blt_eq, List.length_set, List.length_append, List.length_replicate, List.length_cons, List.length_nil, List.length_take, List.length_drop, Int.toNat_natCast, true_and, and_true] <;> omega))) | (refine Go.AL.Ret.neg ?_ ?_; (first | rfl | assumption | (simp only [Go.AL.inI, Go.AL.ltI_eq, Go.AL.leI_eq, Go.AL.nnI_eq, Bool.and_true, Bool.true_and, Bool.and_eq_true, Bool.and_eq_false_iff, Go.AL.dec_iff, Go.AL.dec_not_iff, Bool.not_eq_true', Bool.not_eq_false', beq_iff_eq, beq_eq_false_iff_ne, bne_iff_ne, bne_eq_false_iff_eq, ne_eq, Go.AL.nbeq_iff, Nat.ble_eq, Nat.blt_eq, List.length_set, List.length_append, List.length_replicate, List.length_cons, List.length_nil, List.length_take, List.length_drop, Int.toNat_natCast, true_and, and_true] <;> omega)))))
  exact Ret.some rfl

theorem both_eq (a b : List (List G)) (ha : ∀ z ∈ a, Con z) (hb : ∀ z ∈ b, Con z) (h1 : a.length < 100000) (h2 : b.length < 100000) : F_log_checkBoth [.l a, .l b] = some [.i (bif faultLog a != 0 then faultLog a else faultLog b)] := by
  unfold F_log_checkBoth
  (dsimp +instances only [Go.AL.gi0, Go.AL.gis, Go.AL.row1, Go.AL.rows1, Go.AL.int1, Go.AL.str1, Go.AL.bool1])
  rw [checkLog_eq a ha (by omega), checkLog_eq b hb (by omega)]
  simp only [callF_some rfl]
  (dsimp +instances only [Go.AL.gi0, Go.AL.gis, Go.AL.row1, Go.AL.rows1, Go.AL.int1, Go.AL.str1, Go.AL.bool1])
  cases faultLog a != 0 <;> rfl

theorem lacks_ok (a b : List (List G)) (ha : ∀ z ∈ a, Con z) (hb : ∀ z ∈ b, Con z) (h1 : a.length < 100000) (h2 : b.length < 100000) :
    F_log_Lacks [.l a, .l b] = some (bif faultLog a != 0 then [.l [], .i (faultLog a)] else bif faultLog b != 0 then [.l [], .i (faultLog b)] else [.l (lacking a b), .i 0]) := by
  refine Ret.toEq ?_
  unfold F_log_Lacks
  (dsimp +instances only [Go.AL.gi0, Go.AL.gis, Go.AL.row1, Go.AL.rows1, Go.AL.int1, Go.AL.str1, Go.AL.bool1])
  refine Ret.call (Ret.eq (both_eq a b ha hb h1 h2)) ?_
  rintro _ rfl
  (dsimp +instances only [Go.AL.gi0, Go.AL.gis, Go.AL.row1, Go.AL.rows1, Go.AL.int1, Go.AL.str1, Go.AL.bool1])
  cases h3 : faultLog a != 0 with
  | true =>
    simp only [cond_true, h3]
    exact Ret.some rfl
  | false =>
    simp only [cond_false]
    cases h4 : faultLog b != 0 with
    | true => exact Ret.some rfl
    | false =>
      simp only [cond_false]
      refine Ret.call (Ret.eq (without_ok b a hb ha h2 h1)) ?_
      rintro _ rfl
      exact Ret.some rfl

theorem prdLack (o : List (List G)) (ho : ∀ z ∈ o, Con z) (hn : o.length < 100000) : Prd KContact F_pileref2_LackingOf_1 (fun g => .l [[.l (gi g.row 0).rows]]) (.l [[.l o]]) Con (fun x => o.any fun y => rowEq KContact x y) := by
  refine ⟨fun r hr => ?_, fun _ h => h.eta, rfl⟩
  refine Ret.toEq ?_
  unfold F_pileref2_LackingOf_1
  (dsimp +instances only [Go.AL.gi0, Go.AL.gis, Go.AL.row1, Go.AL.rows1, Go.AL.int1, Go.AL.str1, Go.AL.bool1])
  rw [hr.eta]
  refine Ret.call (Ret.eq (containsF_eq kdsC r hr.eta o ho hn : F_slices_Contains_Contact [.l o, .l [r]] = _)) ?_
  rintro _ rfl
  exact Ret.some rfl

theorem cloneF_ok (a : List (List G)) (h : a.length ≤ 1048576) : F_slices_Clone_Contact_f [.l a] = some [.l a] := by
  refine Ret.toEq ?_
  unfold F_slices_Clone_Contact_f
  (dsimp +instances only [Go.AL.gi0, Go.AL.gis, Go.AL.row1, Go.AL.rows1, Go.AL.int1, Go.AL.str1, Go.AL.bool1])
  refine Ret.test (fun h1 => ?_) fun h1 => ?_
  · unfold F_slices_Clone_Contact_f_0
    (dsimp +instances only [Go.AL.gi0, Go.AL.gis, Go.AL.row1, Go.AL.rows1, Go.AL.int1, Go.AL.str1, Go.AL.bool1])
    (repeat (first | (refine Go.AL.Ret.pos ?_ ?_; (first | rfl | assumption | (simp only [Go.AL.inI, Go.AL.ltI_eq, Go.AL.leI_eq, Go.AL.nnI_eq, Bool.and_true, Bool.true_and, Bool.and_eq_true, Bool.and_eq_false_iff, Go.AL.dec_iff, Go.AL.dec_not_iff, Bool.not_eq_true', Bool.not_eq_false', beq_iff_eq, beq_eq_false_iff_ne, bne_iff_ne, bne_eq_false_iff_eq, ne_eq, Go.AL.nbeq_iff, Nat.ble_eq, Nat.blt_eq, List.length_set, List.length_append, List.length_replicate, List.length_cons, List.length_nil, List.length_take, List.length_drop, Int.toNat_natCast, true_and, and_true] <;> omega))) | (refine Go.AL.Ret.neg ?_ ?_; (first | rfl | assumption | (simp only [Go.AL.inI, Go.AL.ltI_eq, Go.AL.leI_eq, Go.AL.nnI_eq, Bool.and_true, Bool.true_and, Bool.and_eq_true, Bool.and_eq_false_iff, Go.AL.dec_iff, Go.AL.dec_not_iff, Bool.not_eq_true', Bool.not_eq_false', beq_iff_eq, beq_eq_false_iff_ne, bne_iff_ne, bne_eq_false_iff_eq, ne_eq, Go.AL.nbeq_iff, Nat.ble_eq, Nat.blt_eq, List.length_set, List.length_append, List.length_replicate, List.length_cons, List.length_nil, List.length_take, List.length_drop, Int.toNat_natCast, true_and, and_true] <;> omega)))))
    exact Ret.some rfl
  · have : a = [] := by
      cases a with
      | nil => rfl
      | cons x a =>
        have h2 : Nat.blt 0 (x :: a).length = true := by rw [Nat.blt_eq]; simp
        rw [h2] at h1
        cases h1
    subst this
    exact Ret.some rfl

theorem lackingOf_ok (a b : List (List G)) (ha : ∀ z ∈ a, Con z) (hb : ∀ z ∈ b, Con z) (h1 : a.length < 90000) (h2 : b.length < 90000) : F_pileref2_LackingOf [.l a, .l b] = some [.l (lacking a b)] := by
  refine Ret.toEq ?_
  unfold F_pileref2_LackingOf
  (dsimp +instances only [Go.AL.gi0, Go.AL.gis, Go.AL.row1, Go.AL.rows1, Go.AL.int1, Go.AL.str1, Go.AL.bool1])
  refine Ret.call (Ret.eq (cloneF_ok b (by omega))) ?_
  rintro _ rfl
  (dsimp +instances only [Go.AL.gi0, Go.AL.gis, Go.AL.row1, Go.AL.rows1, Go.AL.int1, Go.AL.str1, Go.AL.bool1])
  have hd := delfF_eq (Z := zC) (prdLack a ha (by omega)) b hb (by omega)
  refine Ret.callb (P := fun g => ∃ J, g = [.l (lacking a b ++ J), .i ((lacking a b).length : Int)] ∧ (lacking a b ++ J).length = b.length) hd (by (first | rfl | assumption | (simp only [Go.AL.inI, Go.AL.ltI_eq, Go.AL.leI_eq, Go.AL.nnI_eq, Bool.and_true, Bool.true_and, Bool.and_eq_true, Bool.and_eq_false_iff, Go.AL.dec_iff, Go.AL.dec_not_iff, Bool.not_eq_true', Bool.not_eq_false', beq_iff_eq, beq_eq_false_iff_ne, bne_iff_ne, bne_eq_false_iff_eq, ne_eq, Go.AL.nbeq_iff, Nat.ble_eq, Nat.blt_eq, List.length_set, List.length_append, List.length_replicate, List.length_cons, List.length_nil, List.length_take, List.length_drop, Int.toNat_natCast, true_and, and_true] <;> omega))) ?_
  rintro _ ⟨J, rfl, hJ⟩
  (dsimp +instances only [Go.AL.gi0, Go.AL.gis, Go.AL.row1, Go.AL.rows1, Go.AL.int1, Go.AL.str1, Go.AL.bool1])
  simp only [Int.toNat_natCast]
  have hle : (lacking a b).length ≤ (lacking a b ++ J).length := by simp
  (repeat (first | (refine Go.AL.Ret.pos ?_ ?_; (first | rfl | assumption | (simp only [Go.AL.inI, Go.AL.ltI_eq, Go.AL.leI_eq, Go.AL.nnI_eq, Bool.and_true, Bool.true_and, Bool.and_eq_true, Bool.and_eq_false_iff, Go.AL.dec_iff, Go.AL.dec_not_iff, Bool.not_eq_true', Bool.not_eq_false', beq_iff_eq, beq_eq_false_iff_ne, bne_iff_ne, bne_eq_false_iff_eq, ne_eq, Go.AL.nbeq_iff, Nat.ble_eq, Nat.blt_eq, List.length_set, List.length_append, List.length_replicate, List.length_cons, List.length_nil, List.length_take, List.length_drop, Int.toNat_natCast, true_and, and_true] <;> omega))) | (refine Go.AL.Ret.neg ?_ ?_; (first | rfl | assumption | (simp only [Go.AL.inI, Go.AL.ltI_eq, Go.AL.leI_eq, Go.AL.nnI_eq, Bool.and_true, Bool.true_and, Bool.and_eq_true, Bool.and_eq_false_iff, Go.AL.dec_iff, Go.AL.dec_not_iff, Bool.not_eq_true', Bool.not_eq_false', beq_iff_eq, beq_eq_false_iff_ne, bne_iff_ne, bne_eq_false_iff_eq, ne_eq, Go.AL.nbeq_iff, Nat.ble_eq, Nat.blt_eq, List.length_set, List.length_append, List.length_replicate, List.length_cons, List.length_nil, List.length_take, List.length_drop, Int.toNat_natCast, true_and, and_true] <;> omega)))))
  refine Ret.some ?_
  simp

theorem equal_refl (a : List (List G)) (ha : ∀ z ∈ a, Con z) (hn : a.length < 100000) : F_slices_Equal_Contact [.l a, .l a] = some [.t true] := by
  have h := equalF_eq kdsC a a ha ha hn
  rw [eqlA_refl rfl] at h
  exact h

theorem errs2 (x y : Int) : F_pilelaw2_errs [.l [[.i x], [.i y]]] = some [.i (bif x != 0 then x else y)] := by
  refine Ret.toEq ?_
  unfold F_pilelaw2_errs
  (dsimp +instances only [Go.AL.gi0, Go.AL.gis, Go.AL.row1, Go.AL.rows1, Go.AL.int1, Go.AL.str1, Go.AL.bool1])
  have key : RetN st_pilelaw2_errs_2 [.l [[.i x], [.i y]], .i 2, .i 0] 3 fun c g => (c = 0 ∧ g = [.i (bif x != 0 then x else y)]) ∨ c = 1 ∧ (bif x != 0 then x else y) = 0 := by
    by_cases hx : x = 0
    · subst hx
      refine RetN.next (d1 := [.l [[.i 0], [.i y]], .i 2, .i 1]) rfl ?_
      by_cases hy : y = 0
      · subst hy
        refine RetN.next (d1 := [.l [[.i 0], [.i 0]], .i 2, .i 2]) rfl ?_
        exact RetN.stop (x := 1) (d' := []) rfl (.inr ⟨rfl, rfl⟩)
      · refine RetN.stop (x := 0) (d' := [.i y]) (Ret.toEq ?_) (.inl ⟨rfl, rfl⟩)
        unfold st_pilelaw2_errs_2
        (dsimp +instances only [Go.AL.gi0, Go.AL.gis, Go.AL.row1, Go.AL.rows1, Go.AL.int1, Go.AL.str1, Go.AL.bool1])
        refine Ret.pos rfl (Ret.pos rfl (Ret.pos (show (y != 0) = true from by simpa using hy) (Ret.some rfl)))
    · have e : (bif x != 0 then x else y) = x := by
        have : (x != 0) = true := by simpa using hx
        rw [this]
        rfl
      rw [e]
      refine RetN.stop (x := 0) (d' := [.i x]) (Ret.toEq ?_) (.inl ⟨rfl, rfl⟩)
      unfold st_pilelaw2_errs_2
      (dsimp +instances only [Go.AL.gi0, Go.AL.gis, Go.AL.row1, Go.AL.rows1, Go.AL.int1, Go.AL.str1, Go.AL.bool1])
      refine Ret.pos rfl (Ret.pos rfl (Ret.pos (show (x != 0) = true from by simpa using hx) (Ret.some rfl)))
  refine Ret.loop (key.to (by omega)) rfl ?_
  rintro c g (⟨rfl, rfl⟩ | ⟨rfl, h⟩)
  · exact Ret.some rfl
  · exact Ret.some (by rw [h])

theorem logged_ok : F_pilelaw2_logged [] = some [.t true] := by kernel_rfl

end Go.Proofs.SYtpfhjchbegdgdaaGreatDoor

namespace Go.Proofs.SYtpfhjchbegdgdaaGreatDoor
open Go Go.AL Go.Proofs

theorem bne_self (x : Int) : (x == x) = true := by simp

theorem mergeTail_ok (t m : Int) (b c : ByteArray) (s h : Int) (x y : ByteArray) (p q : List (List G)) (hr : Con [.i t, .i m, .s b, .s c, .i s, .i h, .s x, .s y]) (hp : ∀ z ∈ p, Con z) (hq : ∀ z ∈ q, Con z) (hl : p.length + q.length ≤ 20) :
    Ret (tl_pilelaw2_LogsMerge_7 [.i t, .i m, .s b, .s c, .i s, .i h, .s x, .s y, .l p, .l q]) fun o => ∃ k, o.1 = some k ∧ o.2 = [.t true] := by
  have e : gEta KContact [.i t, .i m, .s b, .s c, .i s, .i h, .s x, .s y, .l p, .l q] = [.i t, .i m, .s b, .s c, .i s, .i h, .s x, .s y] := rfl
  have hmx := mixed_Con hp hq
  have hml : (mixed p q).length < 100000 := by
    have h1 : (mixed p q).length ≤ (sortA (ltC ordC) (p ++ q)).length := compact_length _ _
    have h2 := sortA_length (ltC ordC) (p ++ q)
    have h3 : (p ++ q).length = p.length + q.length := List.length_append
    omega
  have hll : (lacking p q).length < 100000 := by
    have : (lacking p q).length ≤ q.length := List.length_filter_le _ _
    omega
  unfold tl_pilelaw2_LogsMerge_7
  (dsimp +instances only [Go.AL.gi0, Go.AL.gis, Go.AL.row1, Go.AL.rows1, Go.AL.int1, Go.AL.str1, Go.AL.bool1])
  rw [e]
  refine Ret.call (Ret.eq (merge_ok p q hp hq hl)) ?_
  rintro _ rfl
  refine Ret.call (Ret.eq (lacks_ok p q hp hq (by omega) (by omega))) ?_
  rintro _ rfl
  refine Ret.call (Ret.eq (logFault_eq p hp (by omega))) ?_
  rintro _ rfl
  refine Ret.call (Ret.eq (logFault_eq q hq (by omega))) ?_
  rintro _ rfl
  (dsimp +instances only [Go.AL.gi0, Go.AL.gis, Go.AL.row1, Go.AL.rows1, Go.AL.int1, Go.AL.str1, Go.AL.bool1])
  refine Ret.call (Ret.eq (errs2 _ _)) ?_
  rintro _ rfl
  (dsimp +instances only [Go.AL.gi0, Go.AL.gis, Go.AL.row1, Go.AL.rows1, Go.AL.int1, Go.AL.str1, Go.AL.bool1])
  have none : ∀ v : Int, v ≠ 0 → Ret (callF (F_log_CheckContact [.l [[.i t, .i m, .s b, .s c, .i s, .i h, .s x, .s y]]]) fun g26 => (callF (F_pileref2_ContactFault [.l [[.i t, .i m, .s b, .s c, .i s, .i h, .s x, .s y]]]) fun g27 => (bif ((gi g26 0).int == (gi g27 0).int) then (callF (F_log_CheckLog [.l p]) fun g28 => (callF (F_pileref2_LogFault [.l p]) fun g29 => (bif ((gi g28 0).int == (gi g29 0).int) then (bif (v == v) then (callF (F_slices_Equal_Contact [.l [], .l []]) fun g30 => (bif (gi g30 0).bool then (bif (v == v) then (callF (F_slices_Equal_Contact [.l [], .l []]) fun g31 => (bif (gi g31 0).bool then (callF (F_pilelaw2_logged []) fun g32 => some (some 0, [.t (gi g32 0).bool])) else some (some 0, [.t false]))) else some (some 0, [.t false])) else some (some 0, [.t false]))) else some (some 0, [.t false])) else some (some 0, [.t false])))) else some (some 0, [.t false]))))
      (fun o : Option Nat × List G => ∃ k, o.1 = some k ∧ o.2 = [.t true]) := by
    intro v hv
    refine Ret.call (Ret.eq (check_eq hr)) ?_
    rintro _ rfl
    refine Ret.call (Ret.eq (fault_eq hr)) ?_
    rintro _ rfl
    (dsimp +instances only [Go.AL.gi0, Go.AL.gis, Go.AL.row1, Go.AL.rows1, Go.AL.int1, Go.AL.str1, Go.AL.bool1])
    refine Ret.pos (bne_self _) ?_
    refine Ret.call (Ret.eq (checkLog_eq p hp (by omega))) ?_
    rintro _ rfl
    refine Ret.call (Ret.eq (logFault_eq p hp (by omega))) ?_
    rintro _ rfl
    (dsimp +instances only [Go.AL.gi0, Go.AL.gis, Go.AL.row1, Go.AL.rows1, Go.AL.int1, Go.AL.str1, Go.AL.bool1])
    refine Ret.pos (bne_self _) (Ret.pos (bne_self _) ?_)
    refine Ret.call (Ret.eq (equal_refl [] (by simp) (by simp))) ?_
    rintro _ rfl
    refine Ret.pos rfl (Ret.pos (bne_self _) ?_)
    refine Ret.call (Ret.eq (equal_refl [] (by simp) (by simp))) ?_
    rintro _ rfl
    refine Ret.pos rfl ?_
    refine Ret.call (Ret.eq logged_ok) ?_
    rintro _ rfl
    exact Ret.some ⟨0, rfl, rfl⟩
  by_cases hfa : faultLog p = 0
  · by_cases hfb : faultLog q = 0
    · have z : ((0 : Int) != 0) = false := rfl
      rw [hfa, hfb]
      simp only [z, cond_false]
      refine Ret.pos rfl ?_
      refine Ret.call (Ret.eq (logsOf_ok p q hp hq hl)) ?_
      rintro _ rfl
      refine Ret.call (Ret.eq (lackingOf_ok p q hp hq (by omega) (by omega))) ?_
      rintro _ rfl
      refine Ret.call (Ret.eq (check_eq hr)) ?_
      rintro _ rfl
      refine Ret.call (Ret.eq (fault_eq hr)) ?_
      rintro _ rfl
      (dsimp +instances only [Go.AL.gi0, Go.AL.gis, Go.AL.row1, Go.AL.rows1, Go.AL.int1, Go.AL.str1, Go.AL.bool1])
      refine Ret.pos (bne_self _) ?_
      refine Ret.call (Ret.eq (checkLog_eq p hp (by omega))) ?_
      rintro _ rfl
      refine Ret.call (Ret.eq (logFault_eq p hp (by omega))) ?_
      rintro _ rfl
      (dsimp +instances only [Go.AL.gi0, Go.AL.gis, Go.AL.row1, Go.AL.rows1, Go.AL.int1, Go.AL.str1, Go.AL.bool1])
      refine Ret.pos (bne_self _) (Ret.pos (bne_self _) ?_)
      have hj : F_slices_Equal_Contact [.l (gi (joined (mixed p q)) 0).rows, .l (gi (joined (mixed p q)) 0).rows] = some [.t true] := by
        unfold joined
        cases clash (mixed p q) with
        | true => exact equal_refl [] (by simp) (by simp)
        | false =>
          cases Nat.blt 2000 (mixed p q).length with
          | true => exact equal_refl [] (by simp) (by simp)
          | false => exact equal_refl _ hmx hml
      refine Ret.call (Ret.eq hj) ?_
      rintro _ rfl
      refine Ret.pos rfl (Ret.pos rfl ?_)
      refine Ret.call (Ret.eq (equal_refl _ (lacking_Con hq) hll)) ?_
      rintro _ rfl
      refine Ret.pos rfl ?_
      refine Ret.call (Ret.eq logged_ok) ?_
      rintro _ rfl
      exact Ret.some ⟨0, rfl, rfl⟩
    · have z : (faultLog q != 0) = true := by simpa using hfb
      have z0 : ((0 : Int) != 0) = false := rfl
      rw [hfa]
      simp only [z, z0, cond_false, cond_true]
      refine Ret.neg (by simpa using hfb) ?_
      exact none _ hfb
  · have z : (faultLog p != 0) = true := by simpa using hfa
    simp only [z, cond_true]
    refine Ret.neg (by simpa using hfa) ?_
    exact none _ hfa

theorem upHeard {z : List G} (hz : ConT z) : ∃ n, (gi z 5).int = n ∧ tight n ∧ Con (putG KContact z 5 [.i (n + 1)]) := by
  obtain ⟨t, m, b, c, s, h, x, y, rfl, h1, h2, h3, h4, h5⟩ := hz
  refine ⟨h, rfl, h4, t, m, b, c, s, h + 1, x, y, rfl, h1.to, h2.to, h3.to, ?_, h5⟩
  unfold tight at h4
  unfold small
  omega

theorem mergeMid_ok (l : List (List G)) (a : Int) (t m : Int) (b c : ByteArray) (s h : Int) (x y : ByteArray) (p q : List (List G)) (f : Bool) (ha : 0 ≤ a) (ha1 : a ≤ 900000) (hp : ∀ z ∈ p, ConT z) (hq : ∀ z ∈ q, ConT z) (hl : p.length ≤ 10) (hl2 : q.length ≤ 10) (hf : f = true → 0 < p.length) :
    Ret (tl_pilelaw2_LogsMerge_4 [.l l, .i a, .i t, .i m, .s b, .s c, .i s, .i h, .s x, .s y, .l p, .l q, .t f]) fun o => ∃ k, o.1 = some k ∧ ∃ q', o.2 = [.i t, .i m, .s b, .s c, .i s, .i h, .s x, .s y, .l p, .l q'] ∧ (∀ z ∈ q', Con z) ∧ q'.length ≤ 10 := by
  unfold tl_pilelaw2_LogsMerge_4
  (dsimp +instances only [Go.AL.gi0, Go.AL.gis, Go.AL.row1, Go.AL.rows1, Go.AL.int1, Go.AL.str1, Go.AL.bool1])
  cases f with
  | false => exact Ret.neg rfl (Ret.some ⟨0, rfl, q, rfl, fun z hz => (hq z hz).to, hl2⟩)
  | true =>
    have hf := hf rfl
    refine Ret.pos rfl ?_
    refine Ret.call (r_Next l a _ ha (by omega) (by omega) (by omega)) ?_
    rintro _ ⟨v, rfl, hv0, hv1⟩
    (dsimp +instances only [Go.AL.gi0, Go.AL.gis, Go.AL.row1, Go.AL.rows1, Go.AL.int1, Go.AL.str1, Go.AL.bool1])
    (repeat (first | (refine Go.AL.Ret.pos ?_ ?_; (first | rfl | assumption | (simp only [Go.AL.inI, Go.AL.ltI_eq, Go.AL.leI_eq, Go.AL.nnI_eq, Bool.and_true, Bool.true_and, Bool.and_eq_true, Bool.and_eq_false_iff, Go.AL.dec_iff, Go.AL.dec_not_iff, Bool.not_eq_true', Bool.not_eq_false', beq_iff_eq, beq_eq_false_iff_ne, bne_iff_ne, bne_eq_false_iff_eq, ne_eq, Go.AL.nbeq_iff, Nat.ble_eq, Nat.blt_eq, List.length_set, List.length_append, List.length_replicate, List.length_cons, List.length_nil, List.length_take, List.length_drop, Int.toNat_natCast, true_and, and_true] <;> omega))) | (refine Go.AL.Ret.neg ?_ ?_; (first | rfl | assumption | (simp only [Go.AL.inI, Go.AL.ltI_eq, Go.AL.leI_eq, Go.AL.nnI_eq, Bool.and_true, Bool.true_and, Bool.and_eq_true, Bool.and_eq_false_iff, Go.AL.dec_iff, Go.AL.dec_not_iff, Bool.not_eq_true', Bool.not_eq_false', beq_iff_eq, beq_eq_false_iff_ne, bne_iff_ne, bne_eq_false_iff_eq, ne_eq, Go.AL.nbeq_iff, Nat.ble_eq, Nat.blt_eq, List.length_set, List.length_append, List.length_replicate, List.length_cons, List.length_nil, List.length_take, List.length_drop, Int.toNat_natCast, true_and, and_true] <;> omega)))))
    have hdl : (p.drop v.toNat).length = p.length - v.toNat := List.length_drop
    have hd : ∀ z ∈ p.drop v.toNat, ConT z := fun z hz => hp z (List.mem_of_mem_drop hz)
    refine Ret.call (Ret.eq (cloneF_ok (p.drop v.toNat) (by omega))) ?_
    rintro _ rfl
    (dsimp +instances only [Go.AL.gi0, Go.AL.gis, Go.AL.row1, Go.AL.rows1, Go.AL.int1, Go.AL.str1, Go.AL.bool1])
    refine Ret.call (r_Flip l _ 4 (by omega) (by omega) (by omega) (by omega)) ?_
    rintro _ ⟨b4, rfl⟩
    (dsimp +instances only [Go.AL.gi0, Go.AL.gis, Go.AL.row1, Go.AL.rows1, Go.AL.int1, Go.AL.str1, Go.AL.bool1])
    generalize p.drop v.toNat = w at hdl hd ⊢
    match w, hdl, hd with
    | [], hdl, _ => simp at hdl; omega
    | z :: w, hdl, hd =>
      obtain ⟨n, hn, ht, hC⟩ := upHeard (hd z List.mem_cons_self)
      unfold tight at ht
      have e0 : (z :: w).getD 0 [] = z := rfl
      simp only [e0, hn]
      cases b4 with
      | true =>
        refine Ret.pos rfl ?_
        (repeat (first | (refine Go.AL.Ret.pos ?_ ?_; (first | rfl | assumption | (simp only [Go.AL.inI, Go.AL.ltI_eq, Go.AL.leI_eq, Go.AL.nnI_eq, Bool.and_true, Bool.true_and, Bool.and_eq_true, Bool.and_eq_false_iff, Go.AL.dec_iff, Go.AL.dec_not_iff, Bool.not_eq_true', Bool.not_eq_false', beq_iff_eq, beq_eq_false_iff_ne, bne_iff_ne, bne_eq_false_iff_eq, ne_eq, Go.AL.nbeq_iff, Nat.ble_eq, Nat.blt_eq, List.length_set, List.length_append, List.length_replicate, List.length_cons, List.length_nil, List.length_take, List.length_drop, Int.toNat_natCast, true_and, and_true] <;> omega))) | (refine Go.AL.Ret.neg ?_ ?_; (first | rfl | assumption | (simp only [Go.AL.inI, Go.AL.ltI_eq, Go.AL.leI_eq, Go.AL.nnI_eq, Bool.and_true, Bool.true_and, Bool.and_eq_true, Bool.and_eq_false_iff, Go.AL.dec_iff, Go.AL.dec_not_iff, Bool.not_eq_true', Bool.not_eq_false', beq_iff_eq, beq_eq_false_iff_ne, bne_iff_ne, bne_eq_false_iff_eq, ne_eq, Go.AL.nbeq_iff, Nat.ble_eq, Nat.blt_eq, List.length_set, List.length_append, List.length_replicate, List.length_cons, List.length_nil, List.length_take, List.length_drop, Int.toNat_natCast, true_and, and_true] <;> omega)))))
        refine Ret.some ⟨0, rfl, putG KContact z 5 [.i (n + 1)] :: w, rfl, ?_, ?_⟩
        · intro y hy
          rcases List.mem_cons.1 hy with rfl | hy
          · exact hC
          · exact (hd y (List.mem_cons_of_mem _ hy)).to
        · simp at hdl ⊢
          omega
      | false =>
        refine Ret.neg rfl ?_
        (repeat (first | (refine Go.AL.Ret.pos ?_ ?_; (first | rfl | assumption | (simp only [Go.AL.inI, Go.AL.ltI_eq, Go.AL.leI_eq, Go.AL.nnI_eq, Bool.and_true, Bool.true_and, Bool.and_eq_true, Bool.and_eq_false_iff, Go.AL.dec_iff, Go.AL.dec_not_iff, Bool.not_eq_true', Bool.not_eq_false', beq_iff_eq, beq_eq_false_iff_ne, bne_iff_ne, bne_eq_false_iff_eq, ne_eq, Go.AL.nbeq_iff, Nat.ble_eq, Nat.blt_eq, List.length_set, List.length_append, List.length_replicate, List.length_cons, List.length_nil, List.length_take, List.length_drop, Int.toNat_natCast, true_and, and_true] <;> omega))) | (refine Go.AL.Ret.neg ?_ ?_; (first | rfl | assumption | (simp only [Go.AL.inI, Go.AL.ltI_eq, Go.AL.leI_eq, Go.AL.nnI_eq, Bool.and_true, Bool.true_and, Bool.and_eq_true, Bool.and_eq_false_iff, Go.AL.dec_iff, Go.AL.dec_not_iff, Bool.not_eq_true', Bool.not_eq_false', beq_iff_eq, beq_eq_false_iff_ne, bne_iff_ne, bne_eq_false_iff_eq, ne_eq, Go.AL.nbeq_iff, Nat.ble_eq, Nat.blt_eq, List.length_set, List.length_append, List.length_replicate, List.length_cons, List.length_nil, List.length_take, List.length_drop, Int.toNat_natCast, true_and, and_true] <;> omega)))))
        exact Ret.some ⟨0, rfl, z :: w, rfl, fun y hy => (hd y hy).to, by omega⟩

/-- The law of merged logs, whatever numbers the stream has. -/
theorem logsMerge_data (rows : List (List G)) : F_pilelaw2_LogsMerge [.l rows] = some [.t true] := by
  refine Ret.toEq ?_
  unfold F_pilelaw2_LogsMerge
  (dsimp +instances only [Go.AL.gi0, Go.AL.gis, Go.AL.row1, Go.AL.rows1, Go.AL.int1, Go.AL.str1, Go.AL.bool1])
  refine Ret.call (r_Range rows 0 0 100 (by omega) (by omega) (by omega) (by omega) (by omega)) ?_
  rintro _ ⟨v, rfl, hv0, hv1⟩
  (dsimp +instances only [Go.AL.gi0, Go.AL.gis, Go.AL.row1, Go.AL.rows1, Go.AL.int1, Go.AL.str1, Go.AL.bool1])
  refine Ret.call (r_SomeContact rows _ v (by omega) (by omega) ⟨by omega, by omega⟩) ?_
  rintro _ ⟨a1, r, rfl, ha0, ha1, hr⟩
  (dsimp +instances only [Go.AL.gi0, Go.AL.gis, Go.AL.row1, Go.AL.rows1, Go.AL.int1, Go.AL.str1, Go.AL.bool1])
  refine Ret.call (r_Range rows _ 0 10 (by omega) (by omega) (by omega) (by omega) (by omega)) ?_
  rintro _ ⟨n1, rfl, hn0, hn1⟩
  (dsimp +instances only [Go.AL.gi0, Go.AL.gis, Go.AL.row1, Go.AL.rows1, Go.AL.int1, Go.AL.str1, Go.AL.bool1])
  refine Ret.call (r_Contacts rows _ n1 (by omega) (by omega) hn0 (by omega)) ?_
  rintro _ ⟨a2, p, rfl, hb0, hb1, hp, hpl⟩
  (dsimp +instances only [Go.AL.gi0, Go.AL.gis, Go.AL.row1, Go.AL.rows1, Go.AL.int1, Go.AL.str1, Go.AL.bool1])
  refine Ret.call (r_Range rows _ 0 6 (by omega) (by omega) (by omega) (by omega) (by omega)) ?_
  rintro _ ⟨n2, rfl, hm0, hm1⟩
  (dsimp +instances only [Go.AL.gi0, Go.AL.gis, Go.AL.row1, Go.AL.rows1, Go.AL.int1, Go.AL.str1, Go.AL.bool1])
  refine Ret.call (r_Contacts rows _ n2 (by omega) (by omega) hm0 (by omega)) ?_
  rintro _ ⟨a3, q, rfl, hc0, hc1, hq, hql⟩
  (dsimp +instances only [Go.AL.gi0, Go.AL.gis, Go.AL.row1, Go.AL.rows1, Go.AL.int1, Go.AL.str1, Go.AL.bool1])
  obtain ⟨t, m, b, c, s, h, x, y, rfl, hr'⟩ := hr
  (dsimp +instances only [Go.AL.gi0, Go.AL.gis, Go.AL.row1, Go.AL.rows1, Go.AL.int1, Go.AL.str1, Go.AL.bool1])
  have hrC : Con [.i t, .i m, .s b, .s c, .i s, .i h, .s x, .s y] := ConT.to ⟨t, m, b, c, s, h, x, y, rfl, hr'⟩
  refine Ret.test (fun hlt => ?_) fun hlt => ?_
  · simp only [ltI_eq, decide_eq_true_eq] at hlt
    refine Ret.call (r_Flip rows a3 2 (by omega) (by omega) (by omega) (by omega)) ?_
    rintro _ ⟨f, rfl⟩
    (dsimp +instances only [Go.AL.gi0, Go.AL.gis, Go.AL.row1, Go.AL.rows1, Go.AL.int1, Go.AL.str1, Go.AL.bool1])
    refine Ret.tail (P := fun _ g => ∃ q', g = [.i t, .i m, .s b, .s c, .i s, .i h, .s x, .s y, .l p, .l q'] ∧ (∀ z ∈ q', Con z) ∧ q'.length ≤ 10) (mergeMid_ok rows (a3 + 1) t m b c s h x y p q f (by omega) (by omega) hp hq (by omega) (by omega) (fun _ => by omega)) rfl ?_
    rintro _ _ ⟨q', rfl, hq', hql'⟩
    (dsimp +instances only [Go.AL.gi0, Go.AL.gis, Go.AL.row1, Go.AL.rows1, Go.AL.int1, Go.AL.str1, Go.AL.bool1])
    refine Ret.tail (P := fun _ g => g = [.t true]) (mergeTail_ok t m b c s h x y p q' hrC (fun z hz => (hp z hz).to) hq' (by omega)) (by (first | rfl | assumption | (simp only [Go.AL.inI, Go.AL.ltI_eq, Go.AL.leI_eq, Go.AL.nnI_eq, Bool.and_true, Bool.true_and, Bool.and_eq_true, Bool.and_eq_false_iff, Go.AL.dec_iff, Go.AL.dec_not_iff, Bool.not_eq_true', Bool.not_eq_false', beq_iff_eq, beq_eq_false_iff_ne, bne_iff_ne, bne_eq_false_iff_eq, ne_eq, Go.AL.nbeq_iff, Nat.ble_eq, Nat.blt_eq, List.length_set, List.length_append, List.length_replicate, List.length_cons, List.length_nil, List.length_take, List.length_drop, Int.toNat_natCast, true_and, and_true] <;> omega))) ?_
    rintro _ _ rfl
    exact Ret.some rfl
  · refine Ret.tail (P := fun _ g => ∃ q', g = [.i t, .i m, .s b, .s c, .i s, .i h, .s x, .s y, .l p, .l q'] ∧ (∀ z ∈ q', Con z) ∧ q'.length ≤ 10) (mergeMid_ok rows a3 t m b c s h x y p q false (by omega) (by omega) hp hq (by omega) (by omega) (fun h => by cases h)) rfl ?_
    rintro _ _ ⟨q', rfl, hq', hql'⟩
    (dsimp +instances only [Go.AL.gi0, Go.AL.gis, Go.AL.row1, Go.AL.rows1, Go.AL.int1, Go.AL.str1, Go.AL.bool1])
    refine Ret.tail (P := fun _ g => g = [.t true]) (mergeTail_ok t m b c s h x y p q' hrC (fun z hz => (hp z hz).to) hq' (by omega)) (by (first | rfl | assumption | (simp only [Go.AL.inI, Go.AL.ltI_eq, Go.AL.leI_eq, Go.AL.nnI_eq, Bool.and_true, Bool.true_and, Bool.and_eq_true, Bool.and_eq_false_iff, Go.AL.dec_iff, Go.AL.dec_not_iff, Bool.not_eq_true', Bool.not_eq_false', beq_iff_eq, beq_eq_false_iff_ne, bne_iff_ne, bne_eq_false_iff_eq, ne_eq, Go.AL.nbeq_iff, Nat.ble_eq, Nat.blt_eq, List.length_set, List.length_append, List.length_replicate, List.length_cons, List.length_nil, List.length_take, List.length_drop, Int.toNat_natCast, true_and, and_true] <;> omega))) ?_
    rintro _ _ rfl
    exact Ret.some rfl

end Go.Proofs.SYtpfhjchbegdgdaaGreatDoor
