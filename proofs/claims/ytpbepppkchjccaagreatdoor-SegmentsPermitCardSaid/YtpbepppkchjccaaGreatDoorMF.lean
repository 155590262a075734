/-
  What is proved here: what the methods of the stream give on data. No condition.
-/
import Derived.Test.YtpbepppkchjccaaGreatDoorML3
import Derived.Test.YtpbepppkchjccaaGreatDoorME
set_option linter.unusedSimpArgs false
set_option linter.unusedVariables false
set_option linter.unusedSectionVars false
namespace Go.Proofs.SYtpbepppkchjccaaGreatDoor
open Go Go.AL Go.Proofs
noncomputable section
theorem r_Below (x n : Int) (h0 : 1 ≤ n) (h1 : n ≤ 1099511627776) : Ret (F_pilemake_Below [.i x, .i n]) fun g => ∃ v, g = [.i v] ∧ 0 ≤ v ∧ v < n := by
  unfold F_pilemake_Below
  (dsimp +instances only [gi0,gis,row1,rows1,int1,str1,bool1])
  have ha := Int.tmod_lt_of_pos x (by omega : 0 < n)
  have hb := Int.lt_tmod_of_pos x (by omega : 0 < n)
  (repeat(first|(refine Ret.pos ?_ ?_;(first|rfl|assumption|(simp only [inI,sl]<;>omega)))|(refine Ret.neg ?_ ?_;(first|rfl|assumption|(simp only [inI,sl]<;>omega)))))
  refine Ret.test (fun h => ?_) fun h => ?_
  · simp only [ltI_eq, decide_eq_true_eq] at h
    (repeat(first|(refine Ret.pos ?_ ?_;(first|rfl|assumption|(simp only [inI,sl]<;>omega)))|(refine Ret.neg ?_ ?_;(first|rfl|assumption|(simp only [inI,sl]<;>omega)))))
    exact Ret.some ⟨_, rfl, by omega, by omega⟩
  · simp only [ltI_eq, decide_eq_false_iff_not] at h
    exact Ret.some ⟨_, rfl, by omega, by omega⟩
theorem r_Next (l : List (List G)) (a n : Int) (ha : 0 ≤ a) (ha1 : a ≤ 1000000) (h0 : 1 ≤ n) (h1 : n ≤ 1099511627776) :
    Ret (F_pilemake_Stream_Next [.l l, .i a, .i n]) fun g => ∃ v, g = [.l l, .i (a + 1), .i v] ∧ 0 ≤ v ∧ v < n := by
  unfold F_pilemake_Stream_Next
  (dsimp +instances only [gi0,gis,row1,rows1,int1,str1,bool1])
  have ea : a + 1 - 1 = a := by omega
  simp only [ea]
  by_cases hl : l.length = 0
  · (repeat(first|(refine Ret.pos ?_ ?_;(first|rfl|assumption|(simp only [inI,sl]<;>omega)))|(refine Ret.neg ?_ ?_;(first|rfl|assumption|(simp only [inI,sl]<;>omega)))))
    refine Ret.call (r_Below _ n h0 h1) ?_
    rintro _ ⟨v, rfl, h2, h3⟩
    (dsimp +instances only [gi0,gis,row1,rows1,int1,str1,bool1])
    exact Ret.some ⟨v, rfl, h2, h3⟩
  · have hp : (0 : Int) < (l.length : Int) := by omega
    have d0 : 0 ≤ Int.tdiv a l.length := Int.tdiv_nonneg ha (by omega)
    have d1 : Int.tdiv a l.length ≤ a := by
      rw [Int.tdiv_eq_ediv_of_nonneg ha]
      exact Int.ediv_le_self _ ha
    have m0 : 0 ≤ Int.tmod a l.length := by
      rw [Int.tmod_eq_emod_of_nonneg ha]
      exact Int.emod_nonneg _ (by omega)
    have m1 : Int.tmod a l.length < l.length := Int.tmod_lt_of_pos a hp
    have m2 : Int.tmod a l.length ≤ a := by
      rw [Int.tmod_eq_emod_of_nonneg ha]
      have := Int.mul_ediv_add_emod a l.length
      have h4 : 0 ≤ (l.length : Int) * (a / l.length) := Int.mul_nonneg (by omega) (Int.ediv_nonneg ha (by omega))
      omega
    generalize hq : Int.tdiv a l.length = q at *
    generalize hr : Int.tmod a l.length = r at *
    have p0 : 0 ≤ q * (7919 + r) := Int.mul_nonneg d0 (by omega)
    have p1 : q * (7919 + r) ≤ 1000000 * 2000000 := Int.mul_le_mul (by omega) (by omega) (by omega) (by omega)
    generalize hz : q * (7919 + r) = z at *
    (repeat(first|(refine Ret.pos ?_ ?_;(first|rfl|assumption|(simp only [inI,sl]<;>omega)))|(refine Ret.neg ?_ ?_;(first|rfl|assumption|(simp only [inI,sl]<;>omega)))))
    refine Ret.call (r_Below _ 1073741824 (by omega) (by omega)) ?_
    rintro _ ⟨u, rfl, h2, h3⟩
    (dsimp +instances only [gi0,gis,row1,rows1,int1,str1,bool1])
    (repeat(first|(refine Ret.pos ?_ ?_;(first|rfl|assumption|(simp only [inI,sl]<;>omega)))|(refine Ret.neg ?_ ?_;(first|rfl|assumption|(simp only [inI,sl]<;>omega)))))
    refine Ret.call (r_Below _ n h0 h1) ?_
    rintro _ ⟨v, rfl, h4, h5⟩
    (dsimp +instances only [gi0,gis,row1,rows1,int1,str1,bool1])
    exact Ret.some ⟨v, rfl, h4, h5⟩
theorem getD_mem' {l : List (List G)} {v : Int} (h0 : 0 ≤ v) (h1 : v < l.length) : l.getD v.toNat [] ∈ l := by
  have : v.toNat < l.length := by omega
  rw [List.getD_eq_getElem?_getD, List.getElem?_eq_getElem this]
  exact List.getElem_mem this
theorem r_Pick (P : Int → Prop) (l : List (List G)) (a : Int) (xs : List (List G)) (ha : 0 ≤ a) (ha1 : a ≤ 1000000) (h0 : 1 ≤ xs.length) (h1 : xs.length ≤ 1000000) (hP : ∀ x ∈ xs, P (gi x 0).int) :
    Ret (F_pilemake_Stream_Pick [.l l, .i a, .l xs]) fun g => ∃ v, g = [.l l, .i (a + 1), .i v] ∧ P v := by
  unfold F_pilemake_Stream_Pick
  (dsimp +instances only [gi0,gis,row1,rows1,int1,str1,bool1])
  refine Ret.call (r_Next l a _ ha ha1 (by omega) (by omega)) ?_
  rintro _ ⟨v, rfl, h3, h4⟩
  (dsimp +instances only [gi0,gis,row1,rows1,int1,str1,bool1])
  (repeat(first|(refine Ret.pos ?_ ?_;(first|rfl|assumption|(simp only [inI,sl]<;>omega)))|(refine Ret.neg ?_ ?_;(first|rfl|assumption|(simp only [inI,sl]<;>omega)))))
  exact Ret.some ⟨_, rfl, hP _ (getD_mem' h3 h4)⟩
theorem r_Some (P : ByteArray → Prop) (l : List (List G)) (a : Int) (xs : List (List G)) (ha : 0 ≤ a) (ha1 : a ≤ 1000000) (h0 : 1 ≤ xs.length) (h1 : xs.length ≤ 1000000) (hP : ∀ x ∈ xs, P (gi x 0).str) :
    Ret (F_pilemake_Stream_Some [.l l, .i a, .l xs]) fun g => ∃ v, g = [.l l, .i (a + 1), .s v] ∧ P v := by
  unfold F_pilemake_Stream_Some
  (dsimp +instances only [gi0,gis,row1,rows1,int1,str1,bool1])
  refine Ret.call (r_Next l a _ ha ha1 (by omega) (by omega)) ?_
  rintro _ ⟨v, rfl, h3, h4⟩
  (dsimp +instances only [gi0,gis,row1,rows1,int1,str1,bool1])
  (repeat(first|(refine Ret.pos ?_ ?_;(first|rfl|assumption|(simp only [inI,sl]<;>omega)))|(refine Ret.neg ?_ ?_;(first|rfl|assumption|(simp only [inI,sl]<;>omega)))))
  exact Ret.some ⟨_, rfl, hP _ (getD_mem' h3 h4)⟩
theorem r_Flip (l : List (List G)) (a n : Int) (ha : 0 ≤ a) (ha1 : a ≤ 1000000) (h0 : 1 ≤ n) (h1 : n ≤ 1000000) :
    Ret (F_pilemake_Stream_Flip [.l l, .i a, .i n]) fun g => ∃ b, g = [.l l, .i (a + 1), .t b] := by
  unfold F_pilemake_Stream_Flip
  (dsimp +instances only [gi0,gis,row1,rows1,int1,str1,bool1])
  refine Ret.call (r_Next l a _ ha ha1 (by omega) (by omega)) ?_
  rintro _ ⟨v, rfl, h3, h4⟩
  exact Ret.some ⟨_, rfl⟩
end
end Go.Proofs.SYtpbepppkchjccaaGreatDoor

namespace Go.Proofs.SYtpbepppkchjccaaGreatDoor
open Go Go.AL Go.Proofs
noncomputable section
def inL (L : List ByteArray) (s : ByteArray) : Bool := L.any fun x => eqS x s
theorem inL_mem {L : List ByteArray} {s : ByteArray} (h : inL L s = true) : s ∈ L := by
  obtain ⟨x, hx, he⟩ := List.any_eq_true.1 h
  exact eqS_eq he ▸ hx
theorem r_PickB (lo hi : Int) (l : List (List G)) (a : Int) (xs : List (List G)) (ha : 0 ≤ a) (ha1 : a ≤ 1000000) (h0 : (Nat.ble 1 xs.length && Nat.ble xs.length 1000000) = true) (hP : (xs.all fun x => leI lo (gi x 0).int && leI (gi x 0).int hi) = true) :
    Ret (F_pilemake_Stream_Pick [.l l, .i a, .l xs]) fun g => ∃ v, g = [.l l, .i (a + 1), .i v] ∧ lo ≤ v ∧ v ≤ hi := by
  simp only [Bool.and_eq_true, Nat.ble_eq] at h0
  refine r_Pick (fun v => lo ≤ v ∧ v ≤ hi) l a xs ha ha1 h0.1 h0.2 fun x hx => ?_
  have := List.all_eq_true.1 hP x hx
  simpa only [leI_eq, Bool.and_eq_true, decide_eq_true_eq] using this
theorem r_SomeB (L : List ByteArray) (l : List (List G)) (a : Int) (xs : List (List G)) (ha : 0 ≤ a) (ha1 : a ≤ 1000000) (h0 : (Nat.ble 1 xs.length && Nat.ble xs.length 1000000) = true) (hP : (xs.all fun x => inL L (gi x 0).str) = true) :
    Ret (F_pilemake_Stream_Some [.l l, .i a, .l xs]) fun g => ∃ v, g = [.l l, .i (a + 1), .s v] ∧ v ∈ L := by
  simp only [Bool.and_eq_true, Nat.ble_eq] at h0
  exact r_Some (fun v => v ∈ L) l a xs ha ha1 h0.1 h0.2 fun x hx => inL_mem (List.all_eq_true.1 hP x hx)
def calls : List ByteArray := [⟨#[]⟩, ⟨#[107, 49]⟩, ⟨#[75, 49, 65, 66]⟩, ⟨#[107, 49, 97, 98, 47]⟩, ⟨#[49, 97]⟩, ⟨#[107, 49, 97, 98, 47, 109, 109, 47, 112]⟩, ⟨#[107, 49, 97, 98]⟩, ⟨#[107, 49, 97, 97]⟩, ⟨#[107, 49, 97, 98, 47, 52]⟩,
  ⟨#[111, 104, 50, 97, 98, 99]⟩, ⟨#[111, 104, 50, 97, 98, 100]⟩, ⟨#[119, 49, 97, 119]⟩, ⟨#[110, 49, 109, 109]⟩, ⟨#[103, 51, 120, 121, 122, 47, 112]⟩]
def bands : List ByteArray := [⟨#[]⟩, ⟨#[66]⟩, ⟨#[98, 50, 48]⟩, ⟨#[98, 52, 48]⟩]
def names : List ByteArray := [⟨#[]⟩, ⟨#[65]⟩, ⟨#[49]⟩, ⟨#[102, 105, 110]⟩, ⟨#[117, 115, 97]⟩]
def small (n : Int) : Prop := -2000000000000 ≤ n ∧ n ≤ 2000000000000
def Con (r : List G) : Prop := ∃ (t m : Int) (b c : ByteArray) (s h : Int) (x y : ByteArray), r = [.i t, .i m, .s b, .s c, .i s, .i h, .s x, .s y] ∧ small t ∧ small m ∧ small s ∧ small h ∧ b ∈ bands ∧ c ∈ calls ∧ x ∈ names ∧ y ∈ names
def tight (n : Int) : Prop := -1900000000000 ≤ n ∧ n ≤ 1900000000000
def tightT (n : Int) : Prop := -1900000000000 ≤ n ∧ (n ≤ 345000000000 ∨ (345686399999 < n ∧ n ≤ 1900000000000))
def ConT (r : List G) : Prop := ∃ (t m : Int) (b c : ByteArray) (s h : Int) (x y : ByteArray), r = [.i t, .i m, .s b, .s c, .i s, .i h, .s x, .s y] ∧ tightT t ∧ tight m ∧ tight s ∧ tight h ∧ b ∈ bands ∧ c ∈ calls ∧ x ∈ names ∧ y ∈ names
theorem tight.to {n : Int} (h : tight n) : small n := ⟨by have := h.1; omega, by have := h.2; omega⟩
theorem tightT.to {n : Int} (h : tightT n) : small n := by
  unfold tightT at h
  exact ⟨by omega, by omega⟩
theorem ConT.to {r : List G} (h : ConT r) : Con r := by
  obtain ⟨t, m, b, c, s, h, x, y, e, h1, h2, h3, h4, h5⟩ := h
  exact ⟨t, m, b, c, s, h, x, y, e, h1.to, h2.to, h3.to, h4.to, h5⟩
theorem Con.eta {r : List G} (h : Con r) : gEta [.int .i64, .int .i64, .str, .str, .int .i64, .int .i64, .str, .str] r = r := by
  obtain ⟨t, m, b, c, s, h, x, y, rfl, _⟩ := h
  rfl
end
end Go.Proofs.SYtpbepppkchjccaaGreatDoor

namespace Go.Proofs.SYtpbepppkchjccaaGreatDoor
open Go Go.AL Go.Proofs
noncomputable section
def cmpI (a b : Int) : Int := if a < b then -1 else if b < a then 1 else 0
theorem cmpInt_eq (a b : Int) : F_cmp_Compare_int [.i a, .i b] = some [.i (cmpI a b)] := by
  refine Ret.toEq ?_
  unfold F_cmp_Compare_int F_cmp_isNaN_int cmpI
  (dsimp +instances only [gi0,gis,row1,rows1,int1,str1,bool1])
  simp only [bne_self_eq_false]
  refine Ret.call ⟨_, rfl, rfl⟩ ?_
  rintro _ rfl
  refine Ret.call ⟨_, rfl, rfl⟩ ?_
  rintro _ rfl
  (dsimp +instances only [gi0,gis,row1,rows1,int1,str1,bool1])
  (repeat(first|(refine Ret.pos ?_ ?_;(first|rfl|assumption|(simp only [inI,sl]<;>omega)))|(refine Ret.neg ?_ ?_;(first|rfl|assumption|(simp only [inI,sl]<;>omega)))))
  by_cases h1 : a < b
  · (repeat(first|(refine Ret.pos ?_ ?_;(first|rfl|assumption|(simp only [inI,sl]<;>omega)))|(refine Ret.neg ?_ ?_;(first|rfl|assumption|(simp only [inI,sl]<;>omega)))))
    exact Ret.some (by simp [h1])
  · by_cases h2 : b < a
    · (repeat(first|(refine Ret.pos ?_ ?_;(first|rfl|assumption|(simp only [inI,sl]<;>omega)))|(refine Ret.neg ?_ ?_;(first|rfl|assumption|(simp only [inI,sl]<;>omega)))))
      exact Ret.some (by simp [h1, h2])
    · (repeat(first|(refine Ret.pos ?_ ?_;(first|rfl|assumption|(simp only [inI,sl]<;>omega)))|(refine Ret.neg ?_ ?_;(first|rfl|assumption|(simp only [inI,sl]<;>omega)))))
      exact Ret.some (by simp [h1, h2])
def orL : List (List G) → Int
  | [] => 0
  | x :: q => if (gi x 0).int ≠ 0 then (gi x 0).int else orL q
theorem or_runs : ∀ (q p : List (List G)), p.length + q.length < 100000 →
    RetN st_cmp_Or_int_3 [.i 0, .l (p ++ q), .i ((p.length + q.length : Nat) : Int), .i (p.length : Int)] (q.length + 1) fun c g => c ≤ 1 ∧ g = [.i (orL q)]
  | [], p, hl => by
    refine RetN.stop (x := 1) (Ret.toEq ?_) ⟨by omega, rfl⟩
    unfold st_cmp_Or_int_3
    (dsimp +instances only [gi0,gis,row1,rows1,int1,str1,bool1])
    (repeat(first|(refine Ret.pos ?_ ?_;(first|rfl|assumption|(simp only [inI,sl]<;>omega)))|(refine Ret.neg ?_ ?_;(first|rfl|assumption|(simp only [inI,sl]<;>omega)))))
    exact Ret.some rfl
  | y :: q, p, hl => by
    simp only [List.length_cons] at hl
    have g1 : (p ++ y :: q).getD (p.length : Int).toNat [] = y := getD_mid _ _ _ _ _ (by simp)
    have hlen : (p ++ y :: q).length = p.length + q.length + 1 := by simp; omega
    by_cases he : (gi y 0).int = 0
    · have ih := or_runs q (p ++ [y]) (by simp; omega)
      have e : orL (y :: q) = orL q := by simp [orL, he]
      rw [e]
      refine RetN.next (Ret.toEq ?_) ih
      unfold st_cmp_Or_int_3
      (dsimp +instances only [gi0,gis,row1,rows1,int1,str1,bool1])
      simp only [g1, hlen, List.length_cons]
      (repeat(first|(refine Ret.pos ?_ ?_;(first|rfl|assumption|(simp only [inI,sl]<;>omega)))|(refine Ret.neg ?_ ?_;(first|rfl|assumption|(simp only [inI,sl]<;>omega)))))
      refine Ret.some ?_
      simp
      omega
    · refine RetN.stop (x := 0) (Ret.toEq ?_) ⟨by omega, rfl⟩
      unfold st_cmp_Or_int_3
      (dsimp +instances only [gi0,gis,row1,rows1,int1,str1,bool1])
      simp only [g1, hlen, List.length_cons]
      (repeat(first|(refine Ret.pos ?_ ?_;(first|rfl|assumption|(simp only [inI,sl]<;>omega)))|(refine Ret.neg ?_ ?_;(first|rfl|assumption|(simp only [inI,sl]<;>omega)))))
      refine Ret.some ?_
      simp [orL, he]
end
end Go.Proofs.SYtpbepppkchjccaaGreatDoor

namespace Go.Proofs.SYtpbepppkchjccaaGreatDoor
open Go Go.AL Go.Proofs
noncomputable section
def inB (v lo hi : Int) : Bool := leI lo v && leI v hi
theorem in_eq (v lo hi : Int) : F_pileref2_in [.i v, .i lo, .i hi] = some [.t (inB v lo hi)] := by
  unfold F_pileref2_in inB
  (dsimp +instances only [gi0,gis,row1,rows1,int1,str1,bool1])
  cases leI lo v <;> rfl
theorem outside_eq (v lo hi : Int) : F_kit_Outside [.i v, .i lo, .i hi] = some [.t (!inB v lo hi)] := by
  unfold F_kit_Outside inB
  (dsimp +instances only [gi0,gis,row1,rows1,int1,str1,bool1])
  have h1 : ltI v lo = !leI lo v := by rw [ltI_eq, leI_eq, Bool.eq_iff_iff]; simp
  have h2 : ltI hi v = !leI v hi := by rw [ltI_eq, leI_eq, Bool.eq_iff_iff]; simp
  rw [h1, h2]
  cases leI lo v <;> cases leI v hi <;> rfl
end
end Go.Proofs.SYtpbepppkchjccaaGreatDoor

namespace Go.Proofs.SYtpbepppkchjccaaGreatDoor
open Go Go.AL Go.Proofs
noncomputable section
structure Ordr {α : Type} (c : α → α → Int) : Prop where
  flip : ∀ a b, c b a = - c a b
  eq : ∀ a b, c a b = 0 → a = b
  tr : ∀ a b d, c a b < 0 → c b d < 0 → c a d < 0
theorem Ordr.le {α : Type} {c : α → α → Int} (h : Ordr c) (a b d : α) (h1 : c a b ≤ 0) (h2 : c b d ≤ 0) : c a d ≤ 0 := by
  by_cases e1 : c a b = 0
  · rw [h.eq a b e1]
    exact h2
  · by_cases e2 : c b d = 0
    · rw [← h.eq b d e2]
      exact h1
    · have := h.tr a b d (by omega) (by omega)
      omega
theorem Ordr.refl {α : Type} {c : α → α → Int} (h : Ordr c) (a : α) : c a a = 0 := by
  have := h.flip a a
  omega
def or2 (a b : Int) : Int := if a ≠ 0 then a else b
theorem lin_of {c : List G → List G → Int} (hf : ∀ a b, c b a = - c a b) (ht : ∀ a b d, c a b ≤ 0 → c b d ≤ 0 → c a d ≤ 0) : Lin (ltC c) (fun _ => True) := by
  have lt : ∀ r s, ltC c r s = decide (c r s < 0) := fun r s => by unfold ltC; rw [ltI_eq]
  refine ⟨fun a b d _ _ _ h1 h2 => ?_, fun a b _ _ h => ?_⟩
  · rw [lt, decide_eq_false_iff_not] at *
    have := ht d b a (by have := hf d b; omega) (by have := hf b a; omega)
    have := hf a d
    omega
  · rw [lt, decide_eq_true_eq] at h
    rw [lt, decide_eq_false_iff_not]
    have := hf a b
    omega
/-! ### Lists that are checked row by row -/
def fw (step : Nat → Int) : Nat → Int
  | 0 => 0
  | i + 1 => if fw step i ≠ 0 then fw step i else step i
theorem fw_stays {step : Nat → Int} {i : Nat} (h : fw step i ≠ 0) : ∀ k, fw step (i + k) = fw step i
  | 0 => rfl
  | k + 1 => by
    have ih := fw_stays h k
    show (if fw step (i + k) ≠ 0 then fw step (i + k) else step (i + k)) = fw step i
    rw [ih, if_pos h]
theorem fw_zero {step : Nat → Int} : ∀ {n : Nat}, fw step n = 0 → ∀ i, i < n → step i = 0
  | 0, _, i, hi => by omega
  | n + 1, h, i, hi => by
    have h0 : fw step n = 0 := by
      refine Decidable.byContradiction fun hn => hn ?_
      have := fw_stays hn 1
      rw [← this]
      exact h
    have h' : (if fw step n ≠ 0 then fw step n else step n) = 0 := h
    rw [if_neg (by simpa using h0)] at h'
    rcases Nat.lt_or_ge i n with hlt | hge
    · exact fw_zero h0 i hlt
    · have : i = n := by omega
      rw [this]
      exact h'
theorem fw_loop {st : List G → Option (Option Nat × List G)} (mk : Nat → List G) (n : Nat) (step : Nat → Int) (gn : List G) (hn : n < 999999)
    (hstep : ∀ i, i < n → Ret (st (mk i)) fun o => (step i = 0 ∧ o = (none, mk (i + 1))) ∨ (step i ≠ 0 ∧ o = (some 0, [.i (step i)])))
    (hfin : Ret (st (mk n)) fun o => o = (some 1, gn)) :
    RetL st (mk 0) fun c g => (c = 1 ∧ fw step n = 0 ∧ g = gn) ∨ (c = 0 ∧ g = [.i (fw step n)] ∧ fw step n ≠ 0) := by
  refine ((count_runs (σ := Unit) (fun _ i => mk i) n (fun _ => (1, gn)) (fun _ i => fw step i = 0) (fun c g => c = 0 ∧ g = [.i (fw step n)] ∧ fw step n ≠ 0) ?_ (fun _ _ => hfin) n () 0 (by omega) rfl).to (by omega)).mono ?_
  · rintro _ i hI hi
    refine (hstep i hi).mono ?_
    rintro _ (⟨h0, rfl⟩ | ⟨h1, rfl⟩)
    · refine .inl ⟨(), rfl, ?_⟩
      show (if fw step i ≠ 0 then fw step i else step i) = 0
      rw [if_neg (by simpa using hI)]
      exact h0
    · have e : fw step (i + 1) = step i := by
        show (if fw step i ≠ 0 then fw step i else step i) = step i
        rw [if_neg (by simpa using hI)]
      have e2 : fw step n = step i := by
        have := fw_stays (step := step) (i := i + 1) (by rw [e]; exact h1) (n - (i + 1))
        rw [show i + 1 + (n - (i + 1)) = n by omega, e] at this
        exact this
      exact .inr ⟨0, _, rfl, rfl, by rw [e2], by rw [e2]; exact h1⟩
  · rintro c g (⟨_, h, rfl, rfl⟩ | h)
    · exact .inl ⟨rfl, h, rfl⟩
    · exact .inr h
end
end Go.Proofs.SYtpbepppkchjccaaGreatDoor

namespace Go.Proofs.SYtpbepppkchjccaaGreatDoor
open Go Go.AL Go.Proofs
noncomputable section
def cats : List ByteArray := [⟨#[97, 108, 108]⟩, ⟨#[99, 111, 100, 101]⟩, ⟨#[65]⟩]
def locs : List ByteArray := [⟨#[]⟩, ⟨#[107, 112, 50, 48, 108, 102]⟩, ⟨#[107, 112, 50, 48]⟩]
def Ent (r : List G) : Prop := ∃ (c k : ByteArray) (p : Int) (q : ByteArray), r = [.s c, .s k, .i p, .s q] ∧ c ∈ calls ∧ k ∈ cats ∧ -1099511627776 ≤ p ∧ p ≤ 1099511627776 ∧ q ∈ locs
theorem Ent.eta {r : List G} (h : Ent r) : gEta [.str, .str, .int .i64, .str] r = r := by
  obtain ⟨c, k, p, q, rfl, _⟩ := h
  rfl
def two : List (List G) := [[.s (⟨#[97, 108, 108]⟩ : ByteArray)], [.s (⟨#[99, 111, 100, 101]⟩ : ByteArray)]]
/-! ### What is wrong with entrants -/
end
end Go.Proofs.SYtpbepppkchjccaaGreatDoor

namespace Go.Proofs.SYtpbepppkchjccaaGreatDoor
open Go Go.AL Go.Proofs
noncomputable section
def okW (a b : Int) : Bool := inB a 0 b && leI b 345686400000
theorem when_eq (b : Bool) (e : Int) : F_pilelaw2_when [.t b, .i e] = some [.i (bif b then e else 0)] := by
  unfold F_pilelaw2_when
  (dsimp +instances only [gi0,gis,row1,rows1,int1,str1,bool1])
  cases b <;> rfl
def firstE : List Int → Int
  | [] => 0
  | x :: q => bif x != 0 then x else firstE q
theorem errs_runs : ∀ (q p : List (List G)) (xs : List Int), q = xs.map (fun x => [G.i x]) → p.length + q.length < 100000 →
    RetN st_pilelaw2_errs_2 [.l (p ++ q), .i ((p.length + q.length : Nat) : Int), .i (p.length : Int)] (q.length + 1) fun c g => (c = 0 ∧ g = [.i (firstE xs)]) ∨ c = 1 ∧ firstE xs = 0
  | [], p, xs, hq, hl => by
    have : xs = [] := by
      cases xs with
      | nil => rfl
      | cons x xs => simp at hq
    subst this
    refine RetN.stop (x := 1) (d' := []) (Ret.toEq ?_) (.inr ⟨rfl, rfl⟩)
    unfold st_pilelaw2_errs_2
    (dsimp +instances only [gi0,gis,row1,rows1,int1,str1,bool1])
    (repeat(first|(refine Ret.pos ?_ ?_;(first|rfl|assumption|(simp only [inI,sl]<;>omega)))|(refine Ret.neg ?_ ?_;(first|rfl|assumption|(simp only [inI,sl]<;>omega)))))
    exact Ret.some rfl
  | y :: q, p, xs, hq, hl => by
    match xs, hq with
    | x :: xs, hq2 =>
      have h := hq2
      simp only [List.map_cons, List.cons.injEq] at h
      obtain ⟨rfl, hq3⟩ := h
      simp only [List.length_cons] at hl
      have g1 : (p ++ [.i x] :: q).getD (p.length : Int).toNat [] = [.i x] := getD_mid _ _ _ _ _ (by simp)
      have hlen : (p ++ [.i x] :: q).length = p.length + q.length + 1 := by simp; omega
      by_cases hx : x = 0
      · have ih := errs_runs q (p ++ [[.i x]]) xs hq3 (by simp; omega)
        subst hx
        have e : firstE (0 :: xs) = firstE xs := rfl
        rw [e]
        refine RetN.next (Ret.toEq ?_) ih
        unfold st_pilelaw2_errs_2
        (dsimp +instances only [gi0,gis,row1,rows1,int1,str1,bool1])
        simp only [g1, hlen, List.length_cons]
        (dsimp +instances only [gi0,gis,row1,rows1,int1,str1,bool1])
        (repeat(first|(refine Ret.pos ?_ ?_;(first|rfl|assumption|(simp only [inI,sl]<;>omega)))|(refine Ret.neg ?_ ?_;(first|rfl|assumption|(simp only [inI,sl]<;>omega)))))
        refine Ret.some ?_
        simp
        omega
      · have hb : (x != 0) = true := by simpa using hx
        refine RetN.stop (x := 0) (d' := [.i x]) (Ret.toEq ?_) (.inl ⟨rfl, by simp only [firstE, hb, cond_true]⟩)
        unfold st_pilelaw2_errs_2
        (dsimp +instances only [gi0,gis,row1,rows1,int1,str1,bool1])
        simp only [g1, hlen, List.length_cons]
        (dsimp +instances only [gi0,gis,row1,rows1,int1,str1,bool1])
        refine Ret.pos (by (first|rfl|assumption|(simp only [inI,sl]<;>omega))) (Ret.pos (by (first|rfl|assumption|(simp only [inI,sl]<;>omega))) (Ret.pos hb (Ret.some rfl)))
theorem errs_eq (xs : List Int) (h : xs.length < 1000) : F_pilelaw2_errs [.l (xs.map fun x => [.i x])] = some [.i (firstE xs)] := by
  refine Ret.toEq ?_
  unfold F_pilelaw2_errs
  (dsimp +instances only [gi0,gis,row1,rows1,int1,str1,bool1])
  have h1 := errs_runs (xs.map fun x => [G.i x]) [] xs rfl (by simp; omega)
  have h0 : ((0 : Nat) : Int) = 0 := rfl
  simp only [List.nil_append, List.length_nil, Nat.zero_add, h0] at h1
  refine Ret.loop (h1.to (by simp; omega)) rfl ?_
  rintro c g (⟨rfl, rfl⟩ | ⟨rfl, h⟩)
  · exact Ret.some rfl
  · exact Ret.some (by rw [h])
/-! ### Pauses -/
structure PauseOK (s : List (List G) × Int) (i : Nat) : Prop where
  len : s.1.length ≤ i
  rows : ∀ r ∈ s.1, ∃ a b, r = [.i a, .i b]
  at0 : 0 ≤ s.2
  at1 : s.2 ≤ 345686400000
/-! ### Hours -/
structure HourOK (s : List (List G)) (n i : Nat) : Prop where
  len : s.length = n
  rows : ∀ r ∈ s, ∃ v, r = [.i v] ∧ 0 ≤ v ∧ v ≤ i
end
end Go.Proofs.SYtpbepppkchjccaaGreatDoor

namespace Go.Proofs.SYtpbepppkchjccaaGreatDoor
open Go Go.AL Go.Proofs
noncomputable section
def Two (r : List G) : Prop := ∃ a b, r = [.i a, .i b]
theorem kdsTwo : Kds [.int .i64, .int .i64] Two := ⟨fun r ⟨a, b, h⟩ => by subst h; rfl⟩
theorem equalRow_refl (a : List (List G)) (h : ∀ r ∈ a, Two r) (hn : a.length < 100000) : F_slices_Equal_Row [.l a, .l a] = some [.t true] := by
  have := equalF_eq kdsTwo a a h h hn
  rw [eqlA_refl rfl] at this
  exact this
def wf (a b : Int) : Int := bif okW a b then 0 else 1
end
end Go.Proofs.SYtpbepppkchjccaaGreatDoor

namespace Go.Proofs.SYtpbepppkchjccaaGreatDoor
open Go Go.AL Go.Proofs
noncomputable section
def b40 (n : Int) : Prop := -1099511627776 ≤ n ∧ n ≤ 1099511627776
theorem r_RangeX (l : List (List G)) (a lo hi : Int) (ha : 0 ≤ a) (ha1 : a ≤ 1000000) (h0 : lo ≤ hi) (h1 : -1000 ≤ lo) (h2 : hi ≤ 400000000000) :
    Ret (F_pilemake_Stream_Range [.l l, .i a, .i lo, .i hi]) fun g => ∃ v, g = [.l l, .i (a + 1), .i v] ∧ lo ≤ v ∧ v ≤ hi := by
  unfold F_pilemake_Stream_Range
  (dsimp +instances only [gi0,gis,row1,rows1,int1,str1,bool1])
  (repeat(first|(refine Ret.pos ?_ ?_;(first|rfl|assumption|(simp only [inI,sl]<;>omega)))|(refine Ret.neg ?_ ?_;(first|rfl|assumption|(simp only [inI,sl]<;>omega)))))
  refine Ret.call (r_Next l a _ ha ha1 (by omega) (by omega)) ?_
  rintro _ ⟨v, rfl, h3, h4⟩
  (dsimp +instances only [gi0,gis,row1,rows1,int1,str1,bool1])
  (repeat(first|(refine Ret.pos ?_ ?_;(first|rfl|assumption|(simp only [inI,sl]<;>omega)))|(refine Ret.neg ?_ ?_;(first|rfl|assumption|(simp only [inI,sl]<;>omega)))))
  exact Ret.some ⟨_, rfl, by omega, by omega⟩
theorem r_OddX (l : List (List G)) (a lo hi : Int) (ha : 0 ≤ a) (ha1 : a ≤ 900000) (h0 : lo ≤ hi) (h1 : -1000 ≤ lo) (h2 : hi ≤ 400000000000) :
    Ret (F_pilemake_Stream_Odd [.l l, .i a, .i lo, .i hi]) fun g => ∃ v, g = [.l l, .i (a + 2), .i v] ∧ b40 v := by
  unfold F_pilemake_Stream_Odd
  (dsimp +instances only [gi0,gis,row1,rows1,int1,str1,bool1])
  have e2 : a + 1 + 1 = a + 2 := by omega
  refine Ret.call (r_Flip l a 12 ha (by omega) (by omega) (by omega)) ?_
  rintro _ ⟨b, rfl⟩
  (dsimp +instances only [gi0,gis,row1,rows1,int1,str1,bool1])
  cases b with
  | true =>
    (repeat(first|(refine Ret.pos ?_ ?_;(first|rfl|assumption|(simp only [inI,sl]<;>omega)))|(refine Ret.neg ?_ ?_;(first|rfl|assumption|(simp only [inI,sl]<;>omega)))))
    refine Ret.call (r_Pick b40 l (a + 1) _ (by omega) (by omega) (by simp) (by simp) ?_) ?_
    · intro x hx
      unfold b40
      simp only [List.mem_cons, List.not_mem_nil, or_false] at hx
      rcases hx with rfl | rfl | rfl | rfl | rfl | rfl <;> (dsimp +instances only [gi0,gis,row1,rows1,int1,str1,bool1]) <;> omega
    · rintro _ ⟨v, rfl, h3⟩
      (dsimp +instances only [gi0,gis,row1,rows1,int1,str1,bool1])
      exact Ret.some ⟨v, by rw [e2], h3⟩
  | false =>
    (repeat(first|(refine Ret.pos ?_ ?_;(first|rfl|assumption|(simp only [inI,sl]<;>omega)))|(refine Ret.neg ?_ ?_;(first|rfl|assumption|(simp only [inI,sl]<;>omega)))))
    refine Ret.call (r_RangeX l (a + 1) lo hi (by omega) (by omega) h0 h1 h2) ?_
    rintro _ ⟨v, rfl, h3, h4⟩
    (dsimp +instances only [gi0,gis,row1,rows1,int1,str1,bool1])
    exact Ret.some ⟨v, by rw [e2], by omega, by omega⟩
def classes : List ByteArray := [⟨#[102, 117, 108, 108]⟩, ⟨#[115, 109, 97, 108, 108]⟩, ⟨#[]⟩, ⟨#[65]⟩, ⟨#[110, 111, 110, 101]⟩]
def Mod (r : List G) : Prop := ∃ m : Int, r = [.i m] ∧ 0 ≤ m ∧ m ≤ 4
def Seg (r : List G) : Prop := ∃ (c : ByteArray) (lo hi : Int) (ms : List (List G)) (f t : Int), r = [.s c, .i lo, .i hi, .l ms, .i f, .i t] ∧ c ∈ classes ∧ b40 lo ∧ b40 hi ∧ (∀ z ∈ ms, Mod z) ∧ ms.length ≤ 4 ∧ b40 f ∧ b40 t
theorem Seg.eta {r : List G} (h : Seg r) : gEta KSegment r = r := by
  obtain ⟨c, lo, hi, ms, f, t, rfl, _⟩ := h
  rfl
theorem modes_in (l out cs : List (List G)) (c c' : ByteArray) (lo hi f t n j a : Int) (ha : 0 ≤ a) (ha1 : a ≤ 1000) :
    RetL st_pilemake_Stream_Segments_10 [.l l, .i a, .l out, .s c, .i lo, .i hi, .i f, .i t, .l [], .s c', .i 1, .l cs, .i n, .i j] fun k g => k = 0 ∧ ∃ b ms, g = [.l l, .i b, .l out, .s c, .i lo, .i hi, .i f, .i t, .l ms, .s c', .l cs, .i n, .i j] ∧ a ≤ b ∧ b ≤ a + 3 ∧ (∀ z ∈ ms, Mod z) ∧ ms.length ≤ 3 := by
  have r := count_runs (st := st_pilemake_Stream_Segments_10) (σ := Int × List (List G)) (fun s i => [.l l, .i s.1, .l out, .s c, .i lo, .i hi, .i f, .i t, .l s.2, .s c', .i ((i : Int) + 1), .l cs, .i n, .i j]) 3
    (fun s => (0, [.l l, .i s.1, .l out, .s c, .i lo, .i hi, .i f, .i t, .l s.2, .s c', .l cs, .i n, .i j])) (fun s i => a ≤ s.1 ∧ s.1 ≤ a + (i : Int) ∧ (∀ z ∈ s.2, Mod z) ∧ s.2.length ≤ i) (fun _ _ => False)
    (fun s i ⟨s0, s1, s2, s3⟩ hi => by
      obtain ⟨b, ms⟩ := s
      simp only at s0 s1 s2 s3
      unfold st_pilemake_Stream_Segments_10
      (dsimp +instances only [gi0,gis,row1,rows1,int1,str1,bool1])
      refine Ret.pos (by (first|rfl|assumption|(simp only [inI,sl]<;>omega))) ?_
      refine Ret.call (r_Flip l b 2 (by omega) (by omega) (by omega) (by omega)) ?_
      rintro _ ⟨q, rfl⟩
      (dsimp +instances only [gi0,gis,row1,rows1,int1,str1,bool1])
      cases q with
      | true =>
        (repeat(first|(refine Ret.pos ?_ ?_;(first|rfl|assumption|(simp only [inI,sl]<;>omega)))|(refine Ret.neg ?_ ?_;(first|rfl|assumption|(simp only [inI,sl]<;>omega)))))
        refine Ret.some (.inl ⟨(b + 1, ms ++ [[.i ((i : Int) + 1)]]), by simp, by simp only; omega, by simp only; omega, ?_, by simp; omega⟩)
        intro z hz
        rcases List.mem_append.1 hz with hz | hz
        · exact s2 z hz
        · rw [List.mem_singleton.1 hz]
          exact ⟨_, rfl, by omega, by omega⟩
      | false =>
        (repeat(first|(refine Ret.pos ?_ ?_;(first|rfl|assumption|(simp only [inI,sl]<;>omega)))|(refine Ret.neg ?_ ?_;(first|rfl|assumption|(simp only [inI,sl]<;>omega)))))
        exact Ret.some (.inl ⟨(b + 1, ms), by simp, by simp only; omega, by simp only; omega, s2, by simp only; omega⟩))
    (fun s hI => by
      unfold st_pilemake_Stream_Segments_10
      (dsimp +instances only [gi0,gis,row1,rows1,int1,str1,bool1])
      (repeat(first|(refine Ret.pos ?_ ?_;(first|rfl|assumption|(simp only [inI,sl]<;>omega)))|(refine Ret.neg ?_ ?_;(first|rfl|assumption|(simp only [inI,sl]<;>omega)))))
      exact Ret.some rfl) 3 (a, []) 0 (by omega) ⟨Int.le_refl _, by simp, by simp, by simp⟩
  refine (r.to (by omega)).mono ?_
  rintro k g (⟨⟨b, ms⟩, ⟨q1, q2, q3, q4⟩, rfl, rfl⟩ | h)
  · exact ⟨rfl, b, ms, rfl, q1, by simpa using q2, q3, q4⟩
  · exact h.elim
theorem segs_tail (l out cs : List (List G)) (c c' : ByteArray) (lo hi f t n j a : Int) (ms : List (List G)) (ha : 0 ≤ a) (ha1 : a ≤ 1000) (hc : c ∈ classes) (hc' : c' ∈ classes) (hlo : b40 lo) (hhi : b40 hi) (hf : b40 f) (ht : b40 t) (hm : ∀ z ∈ ms, Mod z) (hn : ms.length ≤ 3) (ho : out.length ≤ 100) :
    Ret (tl_pilemake_Stream_Segments_16 [.l l, .i a, .l out, .s c, .i lo, .i hi, .i f, .i t, .l ms, .s c', .l cs, .i n, .i j]) fun o => ∃ x, o.1 = some x ∧ x = 0 ∧ ∃ b r, o.2 = [.l l, .i b, .l (out ++ [r]), .l cs, .i n, .i j] ∧ a ≤ b ∧ b ≤ a + 10 ∧ Seg r := by
  unfold tl_pilemake_Stream_Segments_16
  (dsimp +instances only [gi0,gis,row1,rows1,int1,str1,bool1])
  refine Ret.call (r_Flip l a 50 ha (by omega) (by omega) (by omega)) ?_
  rintro _ ⟨q, rfl⟩
  (dsimp +instances only [gi0,gis,row1,rows1,int1,str1,bool1])
  cases q with
  | false =>
    (repeat(first|(refine Ret.pos ?_ ?_;(first|rfl|assumption|(simp only [inI,sl]<;>omega)))|(refine Ret.neg ?_ ?_;(first|rfl|assumption|(simp only [inI,sl]<;>omega)))))
    exact Ret.some ⟨0, rfl, rfl, _, _, rfl, by omega, by omega, c, lo, hi, ms, f, t, rfl, hc, hlo, hhi, hm, by omega, hf, ht⟩
  | true =>
    refine Ret.pos rfl ?_
    refine Ret.call (r_Next l _ 4 (by omega) (by omega) (by omega) (by omega)) ?_
    rintro _ ⟨k, rfl, hk⟩
    (dsimp +instances only [gi0,gis,row1,rows1,int1,str1,bool1])
    refine Ret.test (fun h => ?_) fun _ => Ret.test (fun h => ?_) fun _ => Ret.test (fun h => ?_) fun _ => ?_
    · refine Ret.call (r_Some (fun v => v ∈ classes) l _ [[.s c'], [.s (⟨#[]⟩ : ByteArray)], [.s (⟨#[65]⟩ : ByteArray)]] (by omega) (by omega) (by simp) (by simp) ?_) ?_
      · intro x hx
        simp only [List.mem_cons, List.not_mem_nil, or_false] at hx
        rcases hx with rfl | rfl | rfl
        · exact hc'
        · exact inL_mem (by kernel_rfl)
        · exact inL_mem (by kernel_rfl)
      rintro _ ⟨d, rfl, hd⟩
      (dsimp +instances only [gi0,gis,row1,rows1,int1,str1,bool1])
      refine Ret.call (r_OddX l _ 0 300 (by omega) (by omega) (by omega) (by omega) (by omega)) ?_
      rintro _ ⟨lo', rfl, hlo'⟩
      (dsimp +instances only [gi0,gis,row1,rows1,int1,str1,bool1])
      (repeat(first|(refine Ret.pos ?_ ?_;(first|rfl|assumption|(simp only [inI,sl]<;>omega)))|(refine Ret.neg ?_ ?_;(first|rfl|assumption|(simp only [inI,sl]<;>omega)))))
      exact Ret.some ⟨0, rfl, rfl, _, _, rfl, by omega, by omega, d, lo', hi, ms, f, t, rfl, hd, hlo', hhi, hm, by omega, hf, ht⟩
    · refine Ret.call (r_OddX l _ 1 30000000000 (by omega) (by omega) (by omega) (by omega) (by omega)) ?_
      rintro _ ⟨hi', rfl, hhi'⟩
      (dsimp +instances only [gi0,gis,row1,rows1,int1,str1,bool1])
      (repeat(first|(refine Ret.pos ?_ ?_;(first|rfl|assumption|(simp only [inI,sl]<;>omega)))|(refine Ret.neg ?_ ?_;(first|rfl|assumption|(simp only [inI,sl]<;>omega)))))
      exact Ret.some ⟨0, rfl, rfl, _, _, rfl, by omega, by omega, c, lo, hi', ms, f, t, rfl, hc, hlo, hhi', hm, by omega, hf, ht⟩
    · refine Ret.call (r_PickB 0 4 l _ _ (by omega) (by omega) (by kernel_rfl) (by kernel_rfl)) ?_
      rintro _ ⟨m, rfl, hm0, hm1⟩
      (dsimp +instances only [gi0,gis,row1,rows1,int1,str1,bool1])
      (repeat(first|(refine Ret.pos ?_ ?_;(first|rfl|assumption|(simp only [inI,sl]<;>omega)))|(refine Ret.neg ?_ ?_;(first|rfl|assumption|(simp only [inI,sl]<;>omega)))))
      refine Ret.some ⟨0, rfl, rfl, _, _, rfl, by omega, by omega, c, lo, hi, ms ++ [[.i m]], f, t, rfl, hc, hlo, hhi, ?_, by simp; omega, hf, ht⟩
      intro z hz
      rcases List.mem_append.1 hz with hz | hz
      · exact hm z hz
      · rw [List.mem_singleton.1 hz]
        exact ⟨_, rfl, hm0, hm1⟩
    · refine Ret.call (r_OddX l _ 0 100 (by omega) (by omega) (by omega) (by omega) (by omega)) ?_
      rintro _ ⟨f', rfl, hf'⟩
      (dsimp +instances only [gi0,gis,row1,rows1,int1,str1,bool1])
      refine Ret.call (r_OddX l _ 1 345686400000 (by omega) (by omega) (by omega) (by omega) (by omega)) ?_
      rintro _ ⟨t', rfl, ht'⟩
      (dsimp +instances only [gi0,gis,row1,rows1,int1,str1,bool1])
      (repeat(first|(refine Ret.pos ?_ ?_;(first|rfl|assumption|(simp only [inI,sl]<;>omega)))|(refine Ret.neg ?_ ?_;(first|rfl|assumption|(simp only [inI,sl]<;>omega)))))
      exact Ret.some ⟨0, rfl, rfl, _, _, rfl, by omega, by omega, c, lo, hi, ms, f', t', rfl, hc, hlo, hhi, hm, by omega, hf', ht'⟩
def cls4 : List (List G) := [[.s (⟨#[102, 117, 108, 108]⟩ : ByteArray)], [.s (⟨#[102, 117, 108, 108]⟩ : ByteArray)], [.s (⟨#[102, 117, 108, 108]⟩ : ByteArray)], [.s (⟨#[115, 109, 97, 108, 108]⟩ : ByteArray)]]
theorem cls4_mem {x : List G} (h : x ∈ cls4) : ∃ c, x = [.s c] ∧ c ∈ classes := by
  simp only [cls4, List.mem_cons, List.not_mem_nil, or_false] at h
  rcases h with rfl | rfl | rfl | rfl <;> exact ⟨_, rfl, inL_mem (by kernel_rfl)⟩
/-! ### How the stream compares -/
def cmpLI : List Int → List Int → Int
  | x :: xs, y :: ys => or2 (cmpI x y) (cmpLI xs ys)
  | _, _ => 0
theorem cmpInts_eq (xs ys : List Int) (hl : ys.length = xs.length) (hn : xs.length ≤ 100) : F_slices_Compare_int [.l (xs.map fun n => [.i n]), .l (ys.map fun n => [.i n])] = some [.i (cmpLI xs ys)] := by
  refine Ret.toEq ?_
  unfold F_slices_Compare_int
  (dsimp +instances only [gi0,gis,row1,rows1,int1,str1,bool1])
  have r := count_runs (st := st_slices_Compare_int_2) (σ := Unit) (fun _ i => [.l (xs.map fun n => [.i n]), .l (ys.map fun n => [.i n]), .l (xs.map fun n => [.i n]), .i ((xs.map fun n => [G.i n]).length : Int), .i (i : Int)]) xs.length
    (fun _ => (1, [.l (xs.map fun n => [.i n]), .l (ys.map fun n => [.i n])])) (fun _ i => cmpLI (xs.drop i) (ys.drop i) = cmpLI xs ys) (fun c g => c = 0 ∧ g = [.i (cmpLI xs ys)])
    (fun _ i hI hi => by
      have hy : i < ys.length := by omega
      have ex : (xs.map fun n => [G.i n]).getD i [] = [.i (xs[i])] := by simp [List.getD_eq_getElem?_getD, hi]
      have ey : (ys.map fun n => [G.i n]).getD i [] = [.i (ys[i])] := by simp [List.getD_eq_getElem?_getD, hy]
      unfold st_slices_Compare_int_2
      (dsimp +instances only [gi0,gis,row1,rows1,int1,str1,bool1])
      simp only [Int.toNat_natCast, ex, ey, List.length_map]
      (dsimp +instances only [gi0,gis,row1,rows1,int1,str1,bool1])
      refine Ret.pos (by (first|rfl|assumption|(simp only [inI,sl]<;>omega))) (Ret.pos (by (first|rfl|assumption|(simp only [inI,sl]<;>omega))) (Ret.neg (by (first|rfl|assumption|(simp only [inI,sl]<;>omega))) (Ret.pos (by (first|rfl|assumption|(simp only [inI,sl]<;>omega))) ?_)))
      refine Ret.call (Ret.eq (cmpInt_eq _ _)) ?_
      rintro _ rfl
      (dsimp +instances only [gi0,gis,row1,rows1,int1,str1,bool1])
      rw [List.drop_eq_getElem_cons hi, List.drop_eq_getElem_cons hy] at hI
      have hI : or2 (cmpI xs[i] ys[i]) (cmpLI (xs.drop (i + 1)) (ys.drop (i + 1))) = cmpLI xs ys := hI
      unfold or2 at hI
      by_cases e : cmpI xs[i] ys[i] = 0
      · rw [if_neg (by simpa using e)] at hI
        refine Ret.neg (by simpa using e) (Ret.pos (by (first|rfl|assumption|(simp only [inI,sl]<;>omega))) (Ret.some (.inl ⟨(), ?_, hI⟩)))
        simp
      · rw [if_pos e] at hI
        exact Ret.pos (by simpa using e) (Ret.some (.inr ⟨0, _, rfl, rfl, by rw [hI]⟩)))
    (fun _ hI => by
      unfold st_slices_Compare_int_2
      (dsimp +instances only [gi0,gis,row1,rows1,int1,str1,bool1])
      simp only [List.length_map]
      (repeat(first|(refine Ret.pos ?_ ?_;(first|rfl|assumption|(simp only [inI,sl]<;>omega)))|(refine Ret.neg ?_ ?_;(first|rfl|assumption|(simp only [inI,sl]<;>omega)))))
      exact Ret.some rfl) xs.length () 0 (by omega) rfl
  refine Ret.loop (r.to (by omega)) rfl ?_
  rintro _ _ (⟨_, h, rfl, rfl⟩ | ⟨rfl, rfl⟩)
  · (dsimp +instances only [gi0,gis,row1,rows1,int1,str1,bool1])
    simp only [List.length_map]
    refine Ret.neg rfl (Ret.neg (by (first|rfl|assumption|(simp only [inI,sl]<;>omega))) (Ret.some ?_))
    have h : cmpLI (xs.drop xs.length) (ys.drop xs.length) = cmpLI xs ys := h
    rw [List.drop_length, List.drop_eq_nil_of_le (by omega)] at h
    rw [← h]
    rfl
  · (dsimp +instances only [gi0,gis,row1,rows1,int1,str1,bool1])
    exact Ret.pos rfl (Ret.some rfl)
theorem cmp3_eq (a b c a' b' c' : Int) : F_slices_Compare_int [.l [[.i a], [.i b], [.i c]], .l [[.i a'], [.i b'], [.i c']]] = some [.i (or2 (cmpI a a') (or2 (cmpI b b') (cmpI c c')))] := by
  refine (cmpInts_eq [a, b, c] [a', b', c'] rfl (by simp)).trans ?_
  have e : or2 (cmpI c c') 0 = cmpI c c' := by
    unfold or2
    split
    · rfl
    · rename_i h
      have h : cmpI c c' = 0 := Decidable.byContradiction fun h' => h h'
      rw [h]
  show some [G.i (or2 (cmpI a a') (or2 (cmpI b b') (or2 (cmpI c c') 0)))] = _
  rw [e]
def ordSv (r s : List G) : Int := (gi ((F_pilemake_Stream_Segments_1 [.l [r], .l [s]]).getD []) 0).int
theorem segs1_ok (r s : List G) : Ret (F_pilemake_Stream_Segments_1 [.l [r], .l [s]]) fun g => ∃ v, g = [.i v] := by
  unfold F_pilemake_Stream_Segments_1
  (dsimp +instances only [gi0,gis,row1,rows1,int1,str1,bool1])
  refine Ret.test (fun _ => Ret.test (fun _ => Ret.some ⟨_, rfl⟩) fun _ => Ret.some ⟨_, rfl⟩) fun _ => ?_
  refine Ret.call (Ret.eq (cmp3_eq _ _ _ _ _ _)) ?_
  rintro _ rfl
  exact Ret.some ⟨_, rfl⟩
theorem cmpSegs : Cmp KSegment F_pilemake_Stream_Segments_1 Seg ordSv := ⟨fun r s _ _ => by
  obtain ⟨g, h, v, rfl⟩ := segs1_ok r s
  unfold ordSv
  rw [h]
  rfl, fun _ h => h.eta⟩
theorem sortSegs_eq (rows : List (List G)) (hr : ∀ y ∈ rows, Seg y) (hn : rows.length ≤ 20) : F_slices_SortStableFunc_Segment [.l rows] = some [.l (sortA (ltC ordSv) rows)] := sortF_eq cmpSegs rows hr hn
theorem r_Segments (l : List (List G)) (a : Int) (ha : 0 ≤ a) (ha1 : a ≤ 100) :
    Ret (F_pilemake_Stream_Segments [.l l, .i a]) fun g => ∃ b rows, g = [.l l, .i b, .l rows] ∧ 0 ≤ b ∧ b ≤ 300 ∧ (∀ z ∈ rows, Seg z) ∧ rows.length ≤ 4 := by
  have h4 : cls4.length = 4 := rfl
  unfold F_pilemake_Stream_Segments
  (dsimp +instances only [gi0,gis,row1,rows1,int1,str1,bool1])
  have r := range_all (st := st_pilemake_Stream_Segments_3) (σ := Int × List (List G)) (fun s i => [.l l, .i s.1, .l s.2, .l cls4, .i 4, .i (i : Int)]) cls4 (fun s => (0, [.l l, .i s.1, .l s.2]))
    (fun s i => 0 ≤ s.1 ∧ s.1 ≤ a + 30 * (i : Int) ∧ (∀ z ∈ s.2, Seg z) ∧ s.2.length ≤ i) (a, []) (by rw [h4]; omega) ⟨ha, by simp, by simp, by simp⟩
    (fun s i x ⟨s0, s1, s2, s3⟩ hi hx hm ht => by
      obtain ⟨b, ac⟩ := s
      simp only at s0 s1 s2 s3
      have hi4 : i < 4 := hi
      obtain ⟨c, rfl, hc⟩ := cls4_mem hm
      unfold st_pilemake_Stream_Segments_3
      (dsimp +instances only [gi0,gis,row1,rows1,int1,str1,bool1])
      simp only [Int.toNat_natCast, hx, h4]
      (dsimp +instances only [gi0,gis,row1,rows1,int1,str1,bool1])
      refine Ret.pos (by (first|rfl|assumption|(simp only [inI,sl]<;>omega))) (Ret.pos (by (first|rfl|assumption|(simp only [inI,sl]<;>omega))) ?_)
      refine Ret.call (r_Flip l b 5 (by omega) (by omega) (by omega) (by omega)) ?_
      rintro _ ⟨f, rfl⟩
      (dsimp +instances only [gi0,gis,row1,rows1,int1,str1,bool1])
      cases f with
      | true =>
        (repeat(first|(refine Ret.pos ?_ ?_;(first|rfl|assumption|(simp only [inI,sl]<;>omega)))|(refine Ret.neg ?_ ?_;(first|rfl|assumption|(simp only [inI,sl]<;>omega)))))
        exact Ret.some ⟨(b + 1, ac), by simp, by simp only; omega, by simp only; omega, s2, by simp only; omega⟩
      | false =>
        refine Ret.neg rfl ?_
        refine Ret.call (r_PickB 0 200 l _ _ (by omega) (by omega) (by kernel_rfl) (by kernel_rfl)) ?_
        rintro _ ⟨lo, rfl, hlo0, hlo1⟩
        (dsimp +instances only [gi0,gis,row1,rows1,int1,str1,bool1])
        refine Ret.call (r_PickB 0 50 l _ _ (by omega) (by omega) (by kernel_rfl) (by kernel_rfl)) ?_
        rintro _ ⟨fr, rfl, hf0, hf1⟩
        (dsimp +instances only [gi0,gis,row1,rows1,int1,str1,bool1])
        refine Ret.call (r_PickB 0 100 l _ _ (by omega) (by omega) (by kernel_rfl) (by kernel_rfl)) ?_
        rintro _ ⟨wd, rfl, hw0, hw1⟩
        (dsimp +instances only [gi0,gis,row1,rows1,int1,str1,bool1])
        refine Ret.pos (by (first|rfl|assumption|(simp only [inI,sl]<;>omega))) ?_
        refine Ret.call (r_PickB 0 1000 l _ _ (by omega) (by omega) (by kernel_rfl) (by kernel_rfl)) ?_
        rintro _ ⟨tm, rfl, ht0, ht1⟩
        (dsimp +instances only [gi0,gis,row1,rows1,int1,str1,bool1])
        refine Ret.pos (by (first|rfl|assumption|(simp only [inI,sl]<;>omega))) ?_
        refine Ret.loop (modes_in l ac cls4 c c lo (lo + wd) fr (fr + tm) 4 i _ (by omega) (by omega)) (by simp) ?_
        rintro _ _ ⟨rfl, b', ms, rfl, q1, q2, q3, q4⟩
        (dsimp +instances only [gi0,gis,row1,rows1,int1,str1,bool1])
        have fin : ∀ ms' : List (List G), (∀ z ∈ ms', Mod z) → ms'.length ≤ 3 → _ := fun ms' hms hml => segs_tail l ac cls4 c c lo (lo + wd) fr (fr + tm) 4 i b' ms' (by omega) (by omega) hc hc ⟨by omega, by omega⟩ ⟨by omega, by omega⟩ ⟨by omega, by omega⟩ ⟨by omega, by omega⟩ hms hml (by omega)
        refine Ret.test (fun _ => ?_) fun _ => ?_
        · refine Ret.tail (P := fun x g => x = 0 ∧ ∃ b2 r, g = [.l l, .i b2, .l (ac ++ [r]), .l cls4, .i 4, .i (i : Int)] ∧ b' ≤ b2 ∧ b2 ≤ b' + 10 ∧ Seg r) (fin [[.i 1]] (by
            intro z hz
            rw [List.mem_singleton.1 hz]
            exact ⟨1, rfl, by omega, by omega⟩) (by simp)) (by simp) ?_
          rintro _ _ ⟨rfl, b2, r, rfl, g1, g2, g3⟩
          (dsimp +instances only [gi0,gis,row1,rows1,int1,str1,bool1])
          (repeat(first|(refine Ret.pos ?_ ?_;(first|rfl|assumption|(simp only [inI,sl]<;>omega)))|(refine Ret.neg ?_ ?_;(first|rfl|assumption|(simp only [inI,sl]<;>omega)))))
          refine Ret.some ⟨(b2, ac ++ [r]), by simp, by simp only; omega, by simp only; omega, ?_, by simp; omega⟩
          intro z hz
          rcases List.mem_append.1 hz with hz | hz
          · exact s2 z hz
          · rw [List.mem_singleton.1 hz]
            exact g3
        · refine Ret.tail (P := fun x g => x = 0 ∧ ∃ b2 r, g = [.l l, .i b2, .l (ac ++ [r]), .l cls4, .i 4, .i (i : Int)] ∧ b' ≤ b2 ∧ b2 ≤ b' + 10 ∧ Seg r) (fin ms q3 q4) (by simp) ?_
          rintro _ _ ⟨rfl, b2, r, rfl, g1, g2, g3⟩
          (dsimp +instances only [gi0,gis,row1,rows1,int1,str1,bool1])
          (repeat(first|(refine Ret.pos ?_ ?_;(first|rfl|assumption|(simp only [inI,sl]<;>omega)))|(refine Ret.neg ?_ ?_;(first|rfl|assumption|(simp only [inI,sl]<;>omega)))))
          refine Ret.some ⟨(b2, ac ++ [r]), by simp, by simp only; omega, by simp only; omega, ?_, by simp; omega⟩
          intro z hz
          rcases List.mem_append.1 hz with hz | hz
          · exact s2 z hz
          · rw [List.mem_singleton.1 hz]
            exact g3)
    (fun s hI => by
      unfold st_pilemake_Stream_Segments_3
      (dsimp +instances only [gi0,gis,row1,rows1,int1,str1,bool1])
      simp only [h4]
      (repeat(first|(refine Ret.pos ?_ ?_;(first|rfl|assumption|(simp only [inI,sl]<;>omega)))|(refine Ret.neg ?_ ?_;(first|rfl|assumption|(simp only [inI,sl]<;>omega)))))
      exact Ret.some rfl)
  refine Ret.loop r rfl ?_
  rintro _ _ ⟨⟨b, ac⟩, ⟨q1, q2, q3, q4⟩, rfl, rfl⟩
  rw [h4] at q2 q4
  simp only at q2 q4
  (dsimp +instances only [gi0,gis,row1,rows1,int1,str1,bool1])
  refine Ret.callb (Ret.eq (sortSegs_eq ac q3 (by omega))) (by (first|rfl|assumption|(simp only [inI,sl]<;>omega))) ?_
  rintro _ rfl
  (dsimp +instances only [gi0,gis,row1,rows1,int1,str1,bool1])
  have hl := sortA_length (ltC ordSv) ac
  refine Ret.pos (by rw [hl]; (first|rfl|assumption|(simp only [inI,sl]<;>omega))) (Ret.some ⟨b, _, rfl, q1, by omega, sortA_all q3, by omega⟩)
end
end Go.Proofs.SYtpbepppkchjccaaGreatDoor

namespace Go.Proofs.SYtpbepppkchjccaaGreatDoor
open Go Go.AL Go.Proofs
noncomputable section
def okClass (s : ByteArray) : Bool := inL [⟨#[102, 117, 108, 108]⟩, ⟨#[115, 109, 97, 108, 108]⟩, ⟨#[110, 111, 110, 101]⟩] s
theorem isClass_eq {s : ByteArray} (h : s ∈ classes) : F_kit_IsKey [.s s] = some [.t (okClass s)] := by
  simp only [classes, List.mem_cons, List.not_mem_nil, or_false] at h
  rcases h with rfl | rfl | rfl | rfl | rfl <;> kernel_rfl
theorem class_eq {s : ByteArray} (h : s ∈ classes) : F_pileref2_Key [.s s] = some [.t (okClass s)] := by
  simp only [classes, List.mem_cons, List.not_mem_nil, or_false] at h
  rcases h with rfl | rfl | rfl | rfl | rfl <;> kernel_rfl
theorem isMomentX (t : Int) : F_kit_IsMoment [.i t] = some [.t (inB t 0 345686399999)] := by
  unfold F_kit_IsMoment
  (dsimp +instances only [gi0,gis,row1,rows1,int1,str1,bool1])
  rw [outside_eq]
  show some [G.t (!(!inB t 0 345686399999))] = _
  rw [Bool.not_not]
theorem isModeX (t : Int) : F_kit_IsMode [.i t] = some [.t (inB t 1 3)] := by
  unfold F_kit_IsMode
  (dsimp +instances only [gi0,gis,row1,rows1,int1,str1,bool1])
  rw [outside_eq]
  show some [G.t (!(!inB t 1 3))] = _
  rw [Bool.not_not]
def okTime (f t : Int) : Bool := inB f 0 (t - 1) && leI t 345686400000
theorem inB_iff {v lo hi : Int} : inB v lo hi = true ↔ lo ≤ v ∧ v ≤ hi := by
  unfold inB
  rw [leI_eq, leI_eq, Bool.and_eq_true, decide_eq_true_eq, decide_eq_true_eq]
theorem inB_not {v lo hi : Int} : inB v lo hi = false ↔ v < lo ∨ hi < v := by
  rw [← Bool.not_eq_true, inB_iff]
  omega
theorem okTime_iff {f t : Int} : okTime f t = true ↔ 0 ≤ f ∧ f < t ∧ t ≤ 345686400000 := by
  unfold okTime
  rw [leI_eq, Bool.and_eq_true, inB_iff, decide_eq_true_eq]
  omega
theorem isTime_eq (f t : Int) (ht : b40 t) : F_kit_IsTime [.l [[.i f, .i t]]] = some [.t (okTime f t)] := by
  unfold b40 at ht
  refine Ret.toEq ?_
  unfold F_kit_IsTime okTime
  (dsimp +instances only [gi0,gis,row1,rows1,int1,str1,bool1])
  refine Ret.pos (by (first|rfl|assumption|(simp only [inI,sl]<;>omega))) ?_
  refine Ret.call (Ret.eq (outside_eq _ _ _)) ?_
  rintro _ rfl
  (dsimp +instances only [gi0,gis,row1,rows1,int1,str1,bool1])
  cases inB f 0 (t - 1) with
  | true => exact Ret.pos rfl (Ret.some rfl)
  | false => exact Ret.neg rfl (Ret.some rfl)
theorem timeFault_eq (f t : Int) : F_pileref2_timeFault [.l [[.i f, .i t]]] = some [.i (bif okTime f t then 0 else 1)] := by
  refine Ret.toEq ?_
  unfold F_pileref2_timeFault
  (dsimp +instances only [gi0,gis,row1,rows1,int1,str1,bool1])
  cases h : okTime f t with
  | true =>
    obtain ⟨h1, h2, h3⟩ := okTime_iff.1 h
    exact Ret.neg (by (first|rfl|assumption|(simp only [inI,sl]<;>omega))) (Ret.neg (by (first|rfl|assumption|(simp only [inI,sl]<;>omega))) (Ret.neg (by (first|rfl|assumption|(simp only [inI,sl]<;>omega))) (Ret.some rfl)))
  | false =>
    refine Ret.test (fun _ => Ret.some rfl) fun h1 => Ret.test (fun _ => Ret.some rfl) fun h2 => Ret.test (fun _ => Ret.some rfl) fun h3 => ?_
    rw [ltI_eq, decide_eq_false_iff_not] at h1 h3
    rw [leI_eq, decide_eq_false_iff_not] at h2
    rw [okTime_iff.2 ⟨by omega, by omega, by omega⟩] at h
    cases h
def stepMd (ms : List (List G)) (i : Nat) : Int :=
  if inB (gi (ms.getD i []) 0).int 1 3 = false then 4 else if 0 < i ∧ (gi (ms.getD i []) 0).int ≤ (gi (ms.getD (i - 1) []) 0).int then 7 else 0
def faultMd (ms : List (List G)) : Int := if ms.length = 0 then 8 else fw (stepMd ms) ms.length
theorem modes_ok (ms : List (List G)) (hn : ms.length ≤ 100) : F_band_modesFault [.l ms] = some [.i (faultMd ms)] := by
  refine Ret.toEq ?_
  unfold F_band_modesFault faultMd
  (dsimp +instances only [gi0,gis,row1,rows1,int1,str1,bool1])
  by_cases h0 : ms.length = 0
  · refine Ret.pos (by (first|rfl|assumption|(simp only [inI,sl]<;>omega))) ?_
    rw [if_pos h0]
    exact Ret.some rfl
  · refine Ret.neg (by (first|rfl|assumption|(simp only [inI,sl]<;>omega))) ?_
    rw [if_neg h0]
    refine Ret.loop (fw_loop (st := st_band_modesFault_4) (fun i => [.l ms, .l ms, .i (ms.length : Int), .i (i : Int)]) ms.length (stepMd ms) [] (by omega) (fun i hi => ?_) ?_) rfl ?_
    · unfold st_band_modesFault_4 stepMd
      (dsimp +instances only [gi0,gis,row1,rows1,int1,str1,bool1])
      simp only [Int.toNat_natCast]
      refine Ret.pos (by (first|rfl|assumption|(simp only [inI,sl]<;>omega))) (Ret.pos (by (first|rfl|assumption|(simp only [inI,sl]<;>omega))) ?_)
      refine Ret.call (Ret.eq (isModeX _)) ?_
      rintro _ rfl
      (dsimp +instances only [gi0,gis,row1,rows1,int1,str1,bool1])
      cases hb : inB (gi (ms.getD i []) 0).int 1 3 with
      | false =>
        refine Ret.pos rfl (Ret.some (.inr ?_))
        rw [if_pos rfl]
        exact ⟨by omega, rfl⟩
      | true =>
        refine Ret.neg rfl ?_
        rw [if_neg (by simp)]
        by_cases hi0 : 0 < i
        · have ei : ((i : Int) - 1).toNat = i - 1 := by omega
          simp only [ei]
          refine Ret.pos (by (first|rfl|assumption|(simp only [inI,sl]<;>omega))) (Ret.pos (by (first|rfl|assumption|(simp only [inI,sl]<;>omega))) (Ret.pos (by (first|rfl|assumption|(simp only [inI,sl]<;>omega))) ?_))
          by_cases hle : (gi (ms.getD i []) 0).int ≤ (gi (ms.getD (i - 1) []) 0).int
          · refine Ret.pos (by (first|rfl|assumption|(simp only [inI,sl]<;>omega))) (Ret.some (.inr ?_))
            rw [if_pos ⟨hi0, hle⟩]
            exact ⟨by omega, rfl⟩
          · refine Ret.neg (by (first|rfl|assumption|(simp only [inI,sl]<;>omega))) (Ret.pos (by (first|rfl|assumption|(simp only [inI,sl]<;>omega))) (Ret.some (.inl ?_)))
            rw [if_neg fun h => hle h.2]
            exact ⟨rfl, rfl⟩
        · refine Ret.neg (by (first|rfl|assumption|(simp only [inI,sl]<;>omega))) (Ret.pos (by (first|rfl|assumption|(simp only [inI,sl]<;>omega))) (Ret.some (.inl ?_)))
          rw [if_neg fun h => hi0 h.1]
          exact ⟨rfl, rfl⟩
    · unfold st_band_modesFault_4
      (dsimp +instances only [gi0,gis,row1,rows1,int1,str1,bool1])
      (repeat(first|(refine Ret.pos ?_ ?_;(first|rfl|assumption|(simp only [inI,sl]<;>omega)))|(refine Ret.neg ?_ ?_;(first|rfl|assumption|(simp only [inI,sl]<;>omega)))))
      exact Ret.some rfl
    · rintro _ _ (⟨rfl, h, rfl⟩ | ⟨rfl, rfl, _⟩)
      · rw [h]
        exact Ret.neg rfl (Ret.some rfl)
      · exact Ret.pos rfl (Ret.some rfl)
def ordS (r s : List G) : Int := or2 (cmpS (gi r 0).str (gi s 0).str) (or2 (cmpI (gi r 1).int (gi s 1).int) (or2 (cmpI (gi r 2).int (gi s 2).int) (cmpI (gi r 4).int (gi s 4).int)))
def okHz (lo hi : Int) : Bool := leI 0 lo && ltI lo hi && leI hi 30000000000
theorem okHz_iff {lo hi : Int} : okHz lo hi = true ↔ 0 ≤ lo ∧ lo < hi ∧ hi ≤ 30000000000 := by
  unfold okHz
  rw [leI_eq, ltI_eq, leI_eq, Bool.and_eq_true, Bool.and_eq_true, decide_eq_true_eq, decide_eq_true_eq, decide_eq_true_eq, and_assoc]
def faultS1 (x : List G) : Int :=
  if okClass (gi x 0).str = false then 5 else if okHz (gi x 1).int (gi x 2).int = false then 1 else if faultMd (gi x 3).rows ≠ 0 then faultMd (gi x 3).rows else if okTime (gi x 4).int (gi x 5).int = false then 1 else 0
def stepS (rows : List (List G)) (i : Nat) : Int :=
  if faultS1 (rows.getD i []) ≠ 0 then faultS1 (rows.getD i []) else if 0 < i ∧ 0 ≤ ordS (rows.getD (i - 1) []) (rows.getD i []) then 7 else 0
def faultSegs (rows : List (List G)) : Int := if 500 < rows.length then 2 else fw (stepS rows) rows.length
theorem or_four (a b c d : Int) : F_cmp_Or_int [.l [[.i a], [.i b], [.i c], [.i d]]] = some [.i (or2 a (or2 b (or2 c d)))] := by
  refine Ret.toEq ?_
  unfold F_cmp_Or_int
  (dsimp +instances only [gi0,gis,row1,rows1,int1,str1,bool1])
  have h := or_runs [[.i a], [.i b], [.i c], [.i d]] [] (by simp)
  refine Ret.loop (h.to (by simp)) (by (first|rfl|assumption|(simp only [inI,sl]<;>omega))) ?_
  rintro x g ⟨hx, rfl⟩
  have q : orL [[.i a], [.i b], [.i c], [.i d]] = or2 a (or2 b (or2 c d)) := by
    simp only [orL, or2]
    (dsimp +instances only [gi0,gis,row1,rows1,int1,str1,bool1])
    by_cases h1 : a = 0 <;> by_cases h2 : b = 0 <;> by_cases h3 : c = 0 <;> by_cases h4 : d = 0 <;> simp [h1, h2, h3, h4]
  rw [q]
  (dsimp +instances only [gi0,gis,row1,rows1,int1,str1,bool1])
  exact Ret.test (fun _ => Ret.some rfl) fun _ => Ret.some rfl
theorem compareSegs_eq (r s : List G) : F_band_compareSegments [.l [r], .l [s]] = some [.i (ordS r s)] := by
  refine Ret.toEq ?_
  unfold F_band_compareSegments ordS
  (dsimp +instances only [gi0,gis,row1,rows1,int1,str1,bool1])
  refine Ret.call (Ret.eq (rfl : F_strings_Compare [.s (gi r 0).str, .s (gi s 0).str] = some [.i (cmpS (gi r 0).str (gi s 0).str)])) ?_
  rintro _ rfl
  refine Ret.call (Ret.eq (cmpInt_eq _ _)) ?_
  rintro _ rfl
  refine Ret.call (Ret.eq (cmpInt_eq _ _)) ?_
  rintro _ rfl
  refine Ret.call (Ret.eq (cmpInt_eq _ _)) ?_
  rintro _ rfl
  (dsimp +instances only [gi0,gis,row1,rows1,int1,str1,bool1])
  refine Ret.call (Ret.eq (or_four _ _ _ _)) ?_
  rintro _ rfl
  exact Ret.some rfl
theorem stepS_end {rows : List (List G)} {i : Nat} (h : faultS1 (rows.getD i []) = 0) : stepS rows i = if 0 < i ∧ 0 ≤ ordS (rows.getD (i - 1) []) (rows.getD i []) then 7 else 0 := by
  unfold stepS
  rw [if_neg (by simpa using h)]
theorem stepS_bad {rows : List (List G)} {i : Nat} (h : faultS1 (rows.getD i []) ≠ 0) : stepS rows i = faultS1 (rows.getD i []) := by
  unfold stepS
  rw [if_pos h]
theorem checkSegs_step (rows : List (List G)) (hr : ∀ z ∈ rows, Seg z) (hn : rows.length ≤ 500) (i : Nat) (hi : i < rows.length) :
    Ret (st_band_CheckSegments_4 [.l rows, .l rows, .i (rows.length : Int), .i (i : Int)]) fun o => (stepS rows i = 0 ∧ o = (none, [.l rows, .l rows, .i (rows.length : Int), .i ((i + 1 : Nat) : Int)])) ∨ (stepS rows i ≠ 0 ∧ o = (some 0, [.i (stepS rows i)])) := by
  obtain ⟨c, lo, hz, ms, f, t, hx, hc, hlo, hhi, hm, hml, hf, ht⟩ := hr _ (getD_row hi)
  have hC : Seg (rows.getD i []) := hr _ (getD_row hi)
  unfold st_band_CheckSegments_4
  (dsimp +instances only [gi0,gis,row1,rows1,int1,str1,bool1])
  simp only [Int.toNat_natCast, hC.eta]
  have f0 : (gi (rows.getD i []) 0).str = c := by rw [hx]; rfl
  have f1 : (gi (rows.getD i []) 1).int = lo := by rw [hx]; rfl
  have f2 : (gi (rows.getD i []) 2).int = hz := by rw [hx]; rfl
  have f3 : (gi (rows.getD i []) 3).rows = ms := by rw [hx]; rfl
  have f4 : (gi (rows.getD i []) 4).int = f := by rw [hx]; rfl
  have f5 : (gi (rows.getD i []) 5).int = t := by rw [hx]; rfl
  have ef : faultS1 (rows.getD i []) = if okClass c = false then 5 else if okHz lo hz = false then 1 else if faultMd ms ≠ 0 then faultMd ms else if okTime f t = false then 1 else 0 := by
    unfold faultS1
    rw [f0, f1, f2, f3, f4, f5]
  simp only [f0, f1, f2, f3, f4, f5]
  have hhi' := hhi
  unfold b40 at hhi'
  refine Ret.pos (by (first|rfl|assumption|(simp only [inI,sl]<;>omega))) (Ret.pos (by (first|rfl|assumption|(simp only [inI,sl]<;>omega))) ?_)
  refine Ret.call (Ret.eq (isClass_eq hc)) ?_
  rintro _ rfl
  (dsimp +instances only [gi0,gis,row1,rows1,int1,str1,bool1])
  cases h0 : okClass c with
  | false =>
    rw [h0, if_pos rfl] at ef
    rw [stepS_bad (by rw [ef]; omega), ef]
    exact Ret.pos rfl (Ret.some (.inr ⟨by omega, rfl⟩))
  | true =>
  rw [h0, if_neg (by simp)] at ef
  refine Ret.neg rfl (Ret.pos (by (first|rfl|assumption|(simp only [inI,sl]<;>omega))) ?_)
  refine Ret.call (Ret.eq (outside_eq _ _ _)) ?_
  rintro _ rfl
  (dsimp +instances only [gi0,gis,row1,rows1,int1,str1,bool1])
  cases h1 : okHz lo hz with
  | false =>
    rw [h1, if_pos rfl] at ef
    rw [stepS_bad (by rw [ef]; omega), ef]
    refine Ret.test (fun _ => Ret.some (.inr ⟨by omega, rfl⟩)) fun h2 => ?_
    refine Ret.pos ?_ (Ret.some (.inr ⟨by omega, rfl⟩))
    have h2 : inB lo 0 (hz - 1) = true := by simpa using h2
    rw [ltI_eq, decide_eq_true_eq]
    refine Int.not_le.1 fun hle => ?_
    obtain ⟨g1, g2⟩ := inB_iff.1 h2
    rw [okHz_iff.2 ⟨g1, by omega, hle⟩] at h1
    cases h1
  | true =>
  rw [h1, if_neg (by simp)] at ef
  obtain ⟨g1, g2, g3⟩ := okHz_iff.1 h1
  have hin : inB lo 0 (hz - 1) = true := inB_iff.2 ⟨g1, by omega⟩
  rw [hin]
  refine Ret.neg rfl (Ret.neg (by (first|rfl|assumption|(simp only [inI,sl]<;>omega))) ?_)
  refine Ret.call (Ret.eq (modes_ok ms (by omega))) ?_
  rintro _ rfl
  (dsimp +instances only [gi0,gis,row1,rows1,int1,str1,bool1])
  by_cases h2 : faultMd ms = 0
  rotate_left
  · rw [if_pos h2] at ef
    rw [stepS_bad (by rw [ef]; exact h2), ef]
    exact Ret.pos (by simpa using h2) (Ret.some (.inr ⟨h2, rfl⟩))
  rw [if_neg (by simpa using h2)] at ef
  refine Ret.neg (by simpa using h2) ?_
  refine Ret.call (Ret.eq (isTime_eq f t ht)) ?_
  rintro _ rfl
  (dsimp +instances only [gi0,gis,row1,rows1,int1,str1,bool1])
  cases h3 : okTime f t with
  | false =>
    rw [h3, if_pos rfl] at ef
    rw [stepS_bad (by rw [ef]; omega), ef]
    exact Ret.pos rfl (Ret.some (.inr ⟨by omega, rfl⟩))
  | true =>
  rw [h3, if_neg (by simp)] at ef
  refine Ret.neg rfl ?_
  rw [stepS_end ef]
  by_cases hi0 : 0 < i
  · have ei : ((i : Int) - 1).toNat = i - 1 := by omega
    have hy : Seg (rows.getD (i - 1) []) := hr _ (getD_row (by omega))
    simp only [ei, hy.eta]
    refine Ret.pos (by (first|rfl|assumption|(simp only [inI,sl]<;>omega))) (Ret.pos (by (first|rfl|assumption|(simp only [inI,sl]<;>omega))) (Ret.pos (by (first|rfl|assumption|(simp only [inI,sl]<;>omega))) ?_))
    refine Ret.call (Ret.eq (compareSegs_eq _ _)) ?_
    rintro _ rfl
    (dsimp +instances only [gi0,gis,row1,rows1,int1,str1,bool1])
    by_cases h7 : 0 ≤ ordS (rows.getD (i - 1) []) (rows.getD i [])
    · rw [if_pos ⟨hi0, h7⟩]
      exact Ret.pos (by (first|rfl|assumption|(simp only [inI,sl]<;>omega))) (Ret.some (.inr ⟨by omega, rfl⟩))
    · rw [if_neg fun h => h7 h.2]
      exact Ret.neg (by (first|rfl|assumption|(simp only [inI,sl]<;>omega))) (Ret.pos (by (first|rfl|assumption|(simp only [inI,sl]<;>omega))) (Ret.some (.inl ⟨rfl, rfl⟩)))
  · rw [if_neg fun h => hi0 h.1]
    exact Ret.neg (by (first|rfl|assumption|(simp only [inI,sl]<;>omega))) (Ret.pos (by (first|rfl|assumption|(simp only [inI,sl]<;>omega))) (Ret.some (.inl ⟨rfl, rfl⟩)))
theorem checkSegs_ok (rows : List (List G)) (hr : ∀ z ∈ rows, Seg z) : F_band_CheckSegments [.l rows] = some [.i (faultSegs rows)] := by
  refine Ret.toEq ?_
  unfold F_band_CheckSegments faultSegs
  (dsimp +instances only [gi0,gis,row1,rows1,int1,str1,bool1])
  by_cases hn : 500 < rows.length
  · refine Ret.pos (by (first|rfl|assumption|(simp only [inI,sl]<;>omega))) ?_
    rw [if_pos hn]
    exact Ret.some rfl
  · refine Ret.neg (by (first|rfl|assumption|(simp only [inI,sl]<;>omega))) ?_
    rw [if_neg hn]
    refine Ret.loop (fw_loop (fun i => [.l rows, .l rows, .i (rows.length : Int), .i (i : Int)]) rows.length (stepS rows) [] (by omega) (checkSegs_step rows hr (by omega)) ?_) rfl ?_
    · unfold st_band_CheckSegments_4
      (dsimp +instances only [gi0,gis,row1,rows1,int1,str1,bool1])
      (repeat(first|(refine Ret.pos ?_ ?_;(first|rfl|assumption|(simp only [inI,sl]<;>omega)))|(refine Ret.neg ?_ ?_;(first|rfl|assumption|(simp only [inI,sl]<;>omega)))))
      exact Ret.some rfl
    · rintro _ _ (⟨rfl, h, rfl⟩ | ⟨rfl, rfl, _⟩)
      · rw [h]
        exact Ret.some rfl
      · exact Ret.some rfl
theorem modesR (ms : List (List G)) (hn : ms.length ≤ 100) (c : ByteArray) (lo hz f t i n i' : Int) (rows rows2 : List (List G)) :
    RetL st_pileref2_SegmentsFault_13 [.s c, .i lo, .i hz, .l ms, .i f, .i t, .l rows, .i i, .l rows2, .i n, .i i', .l ms, .i (ms.length : Int), .i 0] fun k g =>
      (k = 1 ∧ fw (stepMd ms) ms.length = 0 ∧ g = [.s c, .i lo, .i hz, .l ms, .i f, .i t, .l rows, .i i, .l rows2, .i n, .i i']) ∨ (k = 0 ∧ g = [.i (fw (stepMd ms) ms.length)] ∧ fw (stepMd ms) ms.length ≠ 0) := by
  refine fw_loop (st := st_pileref2_SegmentsFault_13) (fun j => [.s c, .i lo, .i hz, .l ms, .i f, .i t, .l rows, .i i, .l rows2, .i n, .i i', .l ms, .i (ms.length : Int), .i (j : Int)]) ms.length (stepMd ms) _ (by omega) (fun j hi => ?_) ?_
  · unfold st_pileref2_SegmentsFault_13 stepMd
    (dsimp +instances only [gi0,gis,row1,rows1,int1,str1,bool1])
    simp only [Int.toNat_natCast]
    refine Ret.pos (by (first|rfl|assumption|(simp only [inI,sl]<;>omega))) (Ret.pos (by (first|rfl|assumption|(simp only [inI,sl]<;>omega))) ?_)
    refine Ret.call (Ret.eq (in_eq _ _ _)) ?_
    rintro _ rfl
    (dsimp +instances only [gi0,gis,row1,rows1,int1,str1,bool1])
    cases hb : inB (gi (ms.getD j []) 0).int 1 3 with
    | false =>
      refine Ret.pos rfl (Ret.some (.inr ?_))
      rw [if_pos rfl]
      exact ⟨by omega, rfl⟩
    | true =>
      refine Ret.neg rfl ?_
      rw [if_neg (by simp)]
      by_cases hi0 : 0 < j
      · have ei : ((j : Int) - 1).toNat = j - 1 := by omega
        simp only [ei]
        refine Ret.pos (by (first|rfl|assumption|(simp only [inI,sl]<;>omega))) (Ret.pos (by (first|rfl|assumption|(simp only [inI,sl]<;>omega))) (Ret.pos (by (first|rfl|assumption|(simp only [inI,sl]<;>omega))) ?_))
        by_cases hle : (gi (ms.getD j []) 0).int ≤ (gi (ms.getD (j - 1) []) 0).int
        · refine Ret.pos (by (first|rfl|assumption|(simp only [inI,sl]<;>omega))) (Ret.some (.inr ?_))
          rw [if_pos ⟨hi0, hle⟩]
          exact ⟨by omega, rfl⟩
        · refine Ret.neg (by (first|rfl|assumption|(simp only [inI,sl]<;>omega))) (Ret.pos (by (first|rfl|assumption|(simp only [inI,sl]<;>omega))) (Ret.some (.inl ?_)))
          rw [if_neg fun h => hle h.2]
          exact ⟨rfl, rfl⟩
      · refine Ret.neg (by (first|rfl|assumption|(simp only [inI,sl]<;>omega))) (Ret.pos (by (first|rfl|assumption|(simp only [inI,sl]<;>omega))) (Ret.some (.inl ?_)))
        rw [if_neg fun h => hi0 h.1]
        exact ⟨rfl, rfl⟩
  · unfold st_pileref2_SegmentsFault_13
    (dsimp +instances only [gi0,gis,row1,rows1,int1,str1,bool1])
    (repeat(first|(refine Ret.pos ?_ ?_;(first|rfl|assumption|(simp only [inI,sl]<;>omega)))|(refine Ret.neg ?_ ?_;(first|rfl|assumption|(simp only [inI,sl]<;>omega)))))
    exact Ret.some rfl
theorem segsFault_step (rows : List (List G)) (hr : ∀ z ∈ rows, Seg z) (hn : rows.length ≤ 500) (i : Nat) (hi : i < rows.length) :
    Ret (st_pileref2_SegmentsFault_4 [.l rows, .l rows, .i (rows.length : Int), .i (i : Int)]) fun o => (stepS rows i = 0 ∧ o = (none, [.l rows, .l rows, .i (rows.length : Int), .i ((i + 1 : Nat) : Int)])) ∨ (stepS rows i ≠ 0 ∧ o = (some 0, [.i (stepS rows i)])) := by
  obtain ⟨c, lo, hz, ms, f, t, hx, hc, hlo, hhi, hm, hml, hf, ht⟩ := hr _ (getD_row hi)
  have hC : Seg (rows.getD i []) := hr _ (getD_row hi)
  unfold st_pileref2_SegmentsFault_4
  (dsimp +instances only [gi0,gis,row1,rows1,int1,str1,bool1])
  simp only [Int.toNat_natCast]
  have f0 : (gi (rows.getD i []) 0).str = c := by rw [hx]; rfl
  have f1 : (gi (rows.getD i []) 1).int = lo := by rw [hx]; rfl
  have f2 : (gi (rows.getD i []) 2).int = hz := by rw [hx]; rfl
  have f3 : (gi (rows.getD i []) 3).rows = ms := by rw [hx]; rfl
  have f4 : (gi (rows.getD i []) 4).int = f := by rw [hx]; rfl
  have f5 : (gi (rows.getD i []) 5).int = t := by rw [hx]; rfl
  have ef : faultS1 (rows.getD i []) = if okClass c = false then 5 else if okHz lo hz = false then 1 else if faultMd ms ≠ 0 then faultMd ms else if okTime f t = false then 1 else 0 := by
    unfold faultS1
    rw [f0, f1, f2, f3, f4, f5]
  simp only [f0, f1, f2, f3, f4, f5]
  refine Ret.pos (by (first|rfl|assumption|(simp only [inI,sl]<;>omega))) (Ret.pos (by (first|rfl|assumption|(simp only [inI,sl]<;>omega))) ?_)
  refine Ret.call (Ret.eq (class_eq hc)) ?_
  rintro _ rfl
  (dsimp +instances only [gi0,gis,row1,rows1,int1,str1,bool1])
  cases h0 : okClass c with
  | false =>
    rw [h0, if_pos rfl] at ef
    rw [stepS_bad (by rw [ef]; omega), ef]
    exact Ret.pos rfl (Ret.some (.inr ⟨by omega, rfl⟩))
  | true =>
  rw [h0, if_neg (by simp)] at ef
  refine Ret.neg rfl ?_
  cases h1 : okHz lo hz with
  | false =>
    rw [h1, if_pos rfl] at ef
    rw [stepS_bad (by rw [ef]; omega), ef]
    refine Ret.test (fun _ => Ret.some (.inr ⟨by omega, rfl⟩)) fun h2 => Ret.test (fun _ => Ret.some (.inr ⟨by omega, rfl⟩)) fun h3 => Ret.test (fun _ => Ret.some (.inr ⟨by omega, rfl⟩)) fun h4 => ?_
    rw [ltI_eq, decide_eq_false_iff_not] at h2 h4
    rw [leI_eq, decide_eq_false_iff_not] at h3
    rw [okHz_iff.2 ⟨by omega, by omega, by omega⟩] at h1
    cases h1
  | true =>
  rw [h1, if_neg (by simp)] at ef
  obtain ⟨g1, g2, g3⟩ := okHz_iff.1 h1
  refine Ret.neg (by (first|rfl|assumption|(simp only [inI,sl]<;>omega))) (Ret.neg (by (first|rfl|assumption|(simp only [inI,sl]<;>omega))) (Ret.neg (by (first|rfl|assumption|(simp only [inI,sl]<;>omega))) ?_))
  by_cases hm0 : ms.length = 0
  · have e8 : faultMd ms = 8 := by
      unfold faultMd
      rw [if_pos hm0]
    rw [e8, if_pos (by omega)] at ef
    rw [stepS_bad (by rw [ef]; omega), ef]
    exact Ret.pos (by (first|rfl|assumption|(simp only [inI,sl]<;>omega))) (Ret.some (.inr ⟨by omega, rfl⟩))
  have e8 : faultMd ms = fw (stepMd ms) ms.length := by
    unfold faultMd
    rw [if_neg hm0]
  refine Ret.neg (by (first|rfl|assumption|(simp only [inI,sl]<;>omega))) ?_
  refine Ret.loop (modesR ms (by omega) c lo hz f t i rows.length i rows rows) (by simp) ?_
  rintro _ _ (⟨rfl, h2, rfl⟩ | ⟨rfl, rfl, h2⟩)
  rotate_left
  · rw [e8, if_pos h2] at ef
    rw [stepS_bad (by rw [ef]; exact h2), ef]
    exact Ret.pos rfl (Ret.some (.inr ⟨h2, rfl⟩))
  rw [e8, if_neg (by simpa using h2)] at ef
  (dsimp +instances only [gi0,gis,row1,rows1,int1,str1,bool1])
  refine Ret.neg rfl ?_
  refine Ret.call (Ret.eq (timeFault_eq f t)) ?_
  rintro _ rfl
  (dsimp +instances only [gi0,gis,row1,rows1,int1,str1,bool1])
  cases h3 : okTime f t with
  | false =>
    rw [h3, if_pos rfl] at ef
    rw [stepS_bad (by rw [ef]; omega), ef]
    exact Ret.pos rfl (Ret.some (.inr ⟨by omega, rfl⟩))
  | true =>
  rw [h3, if_neg (by simp)] at ef
  refine Ret.neg rfl ?_
  rw [stepS_end ef]
  by_cases hi0 : 0 < i
  · have ei : ((i : Int) - 1).toNat = i - 1 := by omega
    obtain ⟨c', lo', hz', ms', f', t', hx', _⟩ := hr _ (getD_row (show i - 1 < rows.length by omega))
    have eo : ordS (rows.getD (i - 1) []) (rows.getD i []) = or2 (cmpS c' c) (or2 (cmpI lo' lo) (or2 (cmpI hz' hz) (cmpI f' f))) := by
      unfold ordS
      rw [hx', hx]
      rfl
    rw [eo]
    simp only [ei, hx']
    refine Ret.pos (by (first|rfl|assumption|(simp only [inI,sl]<;>omega))) (Ret.pos (by (first|rfl|assumption|(simp only [inI,sl]<;>omega))) (Ret.pos (by (first|rfl|assumption|(simp only [inI,sl]<;>omega))) ?_))
    (dsimp +instances only [gi0,gis,row1,rows1,int1,str1,bool1])
    refine Ret.call (Ret.eq (rfl : F_strings_Compare [.s c', .s c] = some [.i (cmpS c' c)])) ?_
    rintro _ rfl
    (dsimp +instances only [gi0,gis,row1,rows1,int1,str1,bool1])
    by_cases hc0 : cmpS c' c = 0
    · have e9 : or2 (cmpS c' c) (or2 (cmpI lo' lo) (or2 (cmpI hz' hz) (cmpI f' f))) = or2 (cmpI lo' lo) (or2 (cmpI hz' hz) (cmpI f' f)) := by
        rw [hc0]
        rfl
      rw [e9]
      refine Ret.pos (by simpa using hc0) ?_
      refine Ret.call (Ret.eq (cmp3_eq _ _ _ _ _ _)) ?_
      rintro _ rfl
      (dsimp +instances only [gi0,gis,row1,rows1,int1,str1,bool1])
      by_cases h7 : 0 ≤ or2 (cmpI lo' lo) (or2 (cmpI hz' hz) (cmpI f' f))
      · rw [if_pos ⟨hi0, h7⟩]
        exact Ret.pos (by (first|rfl|assumption|(simp only [inI,sl]<;>omega))) (Ret.some (.inr ⟨by omega, rfl⟩))
      · rw [if_neg fun h => h7 h.2]
        exact Ret.neg (by (first|rfl|assumption|(simp only [inI,sl]<;>omega))) (Ret.pos (by (first|rfl|assumption|(simp only [inI,sl]<;>omega))) (Ret.some (.inl ⟨rfl, rfl⟩)))
    · have e9 : or2 (cmpS c' c) (or2 (cmpI lo' lo) (or2 (cmpI hz' hz) (cmpI f' f))) = cmpS c' c := by
        unfold or2
        rw [if_pos hc0]
      rw [e9]
      refine Ret.neg (by simpa using hc0) ?_
      by_cases h7 : 0 ≤ cmpS c' c
      · rw [if_pos ⟨hi0, h7⟩]
        exact Ret.pos (by (first|rfl|assumption|(simp only [inI,sl]<;>omega))) (Ret.some (.inr ⟨by omega, rfl⟩))
      · rw [if_neg fun h => h7 h.2]
        exact Ret.neg (by (first|rfl|assumption|(simp only [inI,sl]<;>omega))) (Ret.pos (by (first|rfl|assumption|(simp only [inI,sl]<;>omega))) (Ret.some (.inl ⟨rfl, rfl⟩)))
  · rw [if_neg fun h => hi0 h.1]
    exact Ret.neg (by (first|rfl|assumption|(simp only [inI,sl]<;>omega))) (Ret.pos (by (first|rfl|assumption|(simp only [inI,sl]<;>omega))) (Ret.some (.inl ⟨rfl, rfl⟩)))
theorem segsFault_ok (rows : List (List G)) (hr : ∀ z ∈ rows, Seg z) : F_pileref2_SegmentsFault [.l rows] = some [.i (faultSegs rows)] := by
  refine Ret.toEq ?_
  unfold F_pileref2_SegmentsFault faultSegs
  (dsimp +instances only [gi0,gis,row1,rows1,int1,str1,bool1])
  by_cases hn : 500 < rows.length
  · refine Ret.pos (by (first|rfl|assumption|(simp only [inI,sl]<;>omega))) ?_
    rw [if_pos hn]
    exact Ret.some rfl
  · refine Ret.neg (by (first|rfl|assumption|(simp only [inI,sl]<;>omega))) ?_
    rw [if_neg hn]
    refine Ret.loop (fw_loop (fun i => [.l rows, .l rows, .i (rows.length : Int), .i (i : Int)]) rows.length (stepS rows) [] (by omega) (segsFault_step rows hr (by omega)) ?_) rfl ?_
    · unfold st_pileref2_SegmentsFault_4
      (dsimp +instances only [gi0,gis,row1,rows1,int1,str1,bool1])
      (repeat(first|(refine Ret.pos ?_ ?_;(first|rfl|assumption|(simp only [inI,sl]<;>omega)))|(refine Ret.neg ?_ ?_;(first|rfl|assumption|(simp only [inI,sl]<;>omega)))))
      exact Ret.some rfl
    · rintro _ _ (⟨rfl, h, rfl⟩ | ⟨rfl, rfl, _⟩)
      · rw [h]
        exact Ret.some rfl
      · exact Ret.some rfl
theorem segs_right {rows : List (List G)} (h : faultSegs rows = 0) : ∀ r ∈ rows, okHz (gi r 1).int (gi r 2).int = true ∧ okTime (gi r 4).int (gi r 5).int = true := by
  intro r hr
  unfold faultSegs at h
  have hn : ¬ 500 < rows.length := fun hn => by rw [if_pos hn] at h; omega
  rw [if_neg hn] at h
  obtain ⟨i, hi, rfl⟩ := List.mem_iff_getElem.1 hr
  have hs := fw_zero h i hi
  have e : rows.getD i [] = rows[i] := by simp [List.getD_eq_getElem?_getD, hi]
  have h1 : faultS1 rows[i] = 0 := by
    refine Decidable.byContradiction fun hne => ?_
    rw [← e] at hne
    rw [stepS_bad hne] at hs
    exact hne hs
  unfold faultS1 at h1
  split at h1
  · omega
  · split at h1
    · omega
    · rename_i h2
      split at h1
      · rename_i h3
        exact (h3 h1).elim
      · split at h1
        · omega
        · rename_i h4
          exact ⟨by simpa using h2, by simpa using h4⟩
end
end Go.Proofs.SYtpbepppkchjccaaGreatDoor

namespace Go.Proofs.SYtpbepppkchjccaaGreatDoor
open Go Go.AL Go.Proofs
noncomputable section
def Bsy (r : List G) : Prop := ∃ (w : ByteArray) (h d f t : Int), r = [.s w, .i h, .i d, .i f, .i t] ∧ w ∈ calls ∧ b40 h ∧ b40 d ∧ b40 f ∧ b40 t
theorem Bsy.eta {r : List G} (h : Bsy r) : gEta KBusy r = r := by
  obtain ⟨w, h, d, f, t, rfl, _⟩ := h
  rfl
/-! ### What is wrong with it -/
end
end Go.Proofs.SYtpbepppkchjccaaGreatDoor

namespace Go.Proofs.SYtpbepppkchjccaaGreatDoor
open Go Go.AL Go.Proofs
noncomputable section
def RowB (r : List G) : Prop := IsR r ∧ -4000000000000 ≤ rLo r ∧ rHi r ≤ 4000000000000
def cmpRow (r s : List G) : Int := rLo r - rLo s
theorem cmpRow_ok : CmpS F_band_joined_1 RowB cmpRow := by
  intro r s hr hs
  obtain ⟨⟨_, h1⟩, h2, h3⟩ := hr
  obtain ⟨⟨_, h4⟩, h5, h6⟩ := hs
  refine ⟨rLo r - rLo s, Ret.toEq ?_, Iff.rfl⟩
  unfold F_band_joined_1
  (dsimp +instances only [gi0,gis,row1,rows1,int1,str1,bool1])
  refine Ret.pos ?_ (Ret.some rfl)
  simp only [inI, sl]
  show -(2 : Int) ^ 63 ≤ rLo r - rLo s ∧ rLo r - rLo s ≤ 2 ^ 63 - 1
  omega
theorem cmpRow_lin : Lin (ltC cmpRow) RowB := (lin_of (fun a b => by unfold cmpRow; omega) fun a b d h1 h2 => by unfold cmpRow at *; omega).mono fun _ _ => trivial
theorem sortRow_ok (rows : List (List G)) (hr : ∀ y ∈ rows, RowB y) (hn : rows.length < 100000) : ∃ out, F_slices_SortFunc_Row [.l rows] = some [.l out] ∧ out.Perm rows ∧ out.Pairwise fun a b => rLo a ≤ rLo b := by
  obtain ⟨out, h, hp, hs⟩ := sortG_some cmpRow_ok cmpRow_lin rows hr hn
  refine ⟨out, h, hp, hs.imp fun {a b} h => ?_⟩
  unfold ltC cmpRow at h
  rw [ltI_eq, decide_eq_false_iff_not] at h
  omega
theorem join_new (srt acc : List (List G)) (lo hi k n i : Int) (hl : acc.length ≤ 1000) : tl_band_joined_8 [.l srt, .l acc, .i lo, .i hi, .i k, .i n, .i i, .t false] = some (some 0, [.l srt, .l (acc ++ [[.i lo, .i hi]]), .i n, .i i]) := by
  refine Ret.toEq ?_
  unfold tl_band_joined_8
  (dsimp +instances only [gi0,gis,row1,rows1,int1,str1,bool1])
  refine Ret.neg rfl ?_
  (repeat(first|(refine Ret.pos ?_ ?_;(first|rfl|assumption|(simp only [inI,sl]<;>omega)))|(refine Ret.neg ?_ ?_;(first|rfl|assumption|(simp only [inI,sl]<;>omega)))))
  exact Ret.some rfl
theorem join_old (srt L : List (List G)) (b : List G) (hb : IsR b) (lo hi n i : Int) : tl_band_joined_8 [.l srt, .l (L ++ [b]), .i lo, .i hi, .i (L.length : Int), .i n, .i i, .t true] = some (some 0, [.l srt, .l (L ++ [[.i (rLo b), .i (if hi > rHi b then hi else rHi b)]]), .i n, .i i]) := by
  obtain ⟨e1, e2, e3⟩ := snoc_last L b
  have hput : ∀ m : Int, putG [.int .i64, .int .i64] b 1 [.i m] = [.i (rLo b), .i m] := fun m => by
    rw [hb.1]
    rfl
  refine Ret.toEq ?_
  unfold tl_band_joined_8
  (dsimp +instances only [gi0,gis,row1,rows1,int1,str1,bool1])
  simp only [Int.toNat_natCast, Nat.zero_add, e2, e3, hput]
  refine Ret.pos rfl ?_
  have hlen : (L ++ [b]).length = L.length + 1 := by simp
  refine Ret.pos (by rw [hlen]; (first|rfl|assumption|(simp only [inI,sl]<;>omega))) (Ret.pos (by rw [hlen]; simp) (Ret.pos (by rw [hlen]; (first|rfl|assumption|(simp only [inI,sl]<;>omega))) (Ret.pos (by rw [hlen]; simp) (Ret.pos (by simp) (Ret.some rfl)))))
theorem joined_ok (rows : List (List G)) (hr : ∀ y ∈ rows, RowB y) (hn : rows.length ≤ 1000) :
    Ret (F_band_joined [.l rows]) fun g => ∃ srt out, g = [.l srt, .l out] ∧ srt.length = rows.length ∧ CanR out ∧ out.length ≤ rows.length ∧ ∀ n, memR out n ↔ memR rows n := by
  obtain ⟨srt, hs, hp, hsort⟩ := sortRow_ok rows hr (by omega)
  have hlen := hp.length_eq
  unfold F_band_joined
  (dsimp +instances only [gi0,gis,row1,rows1,int1,str1,bool1])
  rw [hs]
  refine Ret.callb (P := fun g => g = [.l srt]) (Ret.eq rfl) (by (first|rfl|assumption|(simp only [inI,sl]<;>omega))) ?_
  rintro _ rfl
  (dsimp +instances only [gi0,gis,row1,rows1,int1,str1,bool1])
  rw [show (rows.length : Int) = (srt.length : Int) by rw [hlen], show rows.length = srt.length from hlen.symm]
  have r := range_all (st := st_band_joined_4) (σ := List (List G)) (fun s i => [.l srt, .l s, .i (srt.length : Int), .i (i : Int)]) srt (fun s => (0, [.l srt, .l s]))
    (fun s i => CanR s ∧ (∀ n, memR s n ↔ memR (srt.take i) n) ∧ (∀ a ∈ s, ∃ r ∈ srt.take i, rLo a = rLo r) ∧ s.length ≤ i) [] (by omega) ⟨canR_nil, by simp, by simp, by simp⟩
    (fun s i x ⟨s0, s1, s2, s3⟩ hi hx hm ht => by
      obtain ⟨hX, _, _⟩ := hr x (hp.mem_iff.1 hm)
      have hle : ∀ a ∈ s, rLo a ≤ rLo x := fun a ha => by
        obtain ⟨r, hr', e⟩ := s2 a ha
        rw [e]
        obtain ⟨j, hj, rfl⟩ := List.mem_iff_getElem.1 hr'
        have hji : j < i := by
          have := hj
          rw [List.length_take] at this
          omega
        rw [List.getElem_take]
        have := List.pairwise_iff_getElem.1 hsort j i (by omega) hi hji
        have ex : srt[i] = x := by
          rw [← hx]
          simp [List.getD_eq_getElem?_getD, hi]
        rw [ex] at this
        exact this
      have new : CanR (s ++ [x]) → CanR (s ++ [[.i (rLo x), .i (rHi x)]]) ∧ (∀ n, memR (s ++ [[.i (rLo x), .i (rHi x)]]) n ↔ memR (srt.take (i + 1)) n) ∧ (∀ a ∈ s ++ [[.i (rLo x), .i (rHi x)]], ∃ r ∈ srt.take (i + 1), rLo a = rLo r) ∧ (s ++ [[G.i (rLo x), .i (rHi x)]]).length ≤ i + 1 := by
        intro hc
        rw [← hX.1]
        refine ⟨hc, fun n => ?_, fun a ha => ?_, by simp; omega⟩
        · rw [ht, memR_append, memR_append, s1]
        · rw [ht]
          rcases List.mem_append.1 ha with ha | ha
          · obtain ⟨r, hr', e⟩ := s2 a ha
            exact ⟨r, List.mem_append_left _ hr', e⟩
          · rw [List.mem_singleton.1 ha]
            exact ⟨x, by simp, rfl⟩
      unfold st_band_joined_4
      (dsimp +instances only [gi0,gis,row1,rows1,int1,str1,bool1])
      simp only [Int.toNat_natCast, Nat.zero_add, hx]
      refine Ret.pos (by (first|rfl|assumption|(simp only [inI,sl]<;>omega))) (Ret.pos (by (first|rfl|assumption|(simp only [inI,sl]<;>omega))) (Ret.pos (by (first|rfl|assumption|(simp only [inI,sl]<;>omega))) (Ret.pos (by (first|rfl|assumption|(simp only [inI,sl]<;>omega))) ?_)))
      rcases List.eq_nil_or_concat s with rfl | ⟨L, b, e⟩
      · refine Ret.neg (by simp [sl]) ?_
        refine Ret.tail (P := fun x' g => x' = 0 ∧ g = [.l srt, .l ([] ++ [[.i (rLo x), .i (rHi x)]]), .i (srt.length : Int), .i (i : Int)]) ⟨_, join_new srt [] (rLo x) (rHi x) _ _ _ (by simp), 0, rfl, rfl, rfl⟩ (by simp) ?_
        rintro _ _ ⟨rfl, rfl⟩
        (dsimp +instances only [gi0,gis,row1,rows1,int1,str1,bool1])
        (repeat(first|(refine Ret.pos ?_ ?_;(first|rfl|assumption|(simp only [inI,sl]<;>omega)))|(refine Ret.neg ?_ ?_;(first|rfl|assumption|(simp only [inI,sl]<;>omega)))))
        exact Ret.some ⟨_, by simp, new (by simpa using (canR_cons.2 ⟨hX, by simp, canR_nil⟩))⟩
      · rw [List.concat_eq_append] at e
        subst e
        obtain ⟨e1, e2, e3⟩ := snoc_last L b
        have hlb : (((L ++ [b]).length : Nat) : Int) - 1 = (L.length : Int) := by simp
        simp only [hlb, Int.toNat_natCast, Nat.zero_add, e2]
        have hbR := (canR_snoc.1 s0).2.2
        have hbx := hle b (by simp)
        have hll : (L ++ [b]).length = L.length + 1 := by simp
        refine Ret.pos (by (first|rfl|assumption|(simp only [inI,sl]<;>omega))) (Ret.pos (by rw [hll]; (first|rfl|assumption|(simp only [inI,sl]<;>omega))) (Ret.pos (by rw [hll]; simp) ?_))
        cases ht8 : leI (rLo x) (rHi b) with
        | true =>
          have h8 : rLo x ≤ rHi b := by rw [leI_eq, decide_eq_true_eq] at ht8; exact ht8
          refine Ret.tail (P := fun x' g => x' = 0 ∧ g = [.l srt, .l (L ++ [[.i (rLo b), .i (if rHi x > rHi b then rHi x else rHi b)]]), .i (srt.length : Int), .i (i : Int)]) ⟨_, join_old srt L b hbR (rLo x) (rHi x) _ _, 0, rfl, rfl, rfl⟩ (by simp) ?_
          rintro _ _ ⟨rfl, rfl⟩
          (dsimp +instances only [gi0,gis,row1,rows1,int1,str1,bool1])
          (repeat(first|(refine Ret.pos ?_ ?_;(first|rfl|assumption|(simp only [inI,sl]<;>omega)))|(refine Ret.neg ?_ ?_;(first|rfl|assumption|(simp only [inI,sl]<;>omega)))))
          obtain ⟨g1, g2⟩ := canR_grow s0 hX hbx h8 (m := if rHi x > rHi b then rHi x else rHi b) (by split <;> omega)
          refine Ret.some ⟨_, by simp, g1, fun n => ?_, fun a ha => ?_, by simp at s3 ⊢; omega⟩
          · rw [g2, s1, ht, memR_snoc]
          · rw [ht]
            rcases List.mem_append.1 ha with ha | ha
            · obtain ⟨r, hr', e⟩ := s2 a (List.mem_append_left _ ha)
              exact ⟨r, List.mem_append_left _ hr', e⟩
            · rw [List.mem_singleton.1 ha]
              obtain ⟨r, hr', e⟩ := s2 b (by simp)
              exact ⟨r, List.mem_append_left _ hr', e⟩
        | false =>
          have h8 : rHi b < rLo x := by rw [leI_eq, decide_eq_false_iff_not] at ht8; omega
          refine Ret.tail (P := fun x' g => x' = 0 ∧ g = [.l srt, .l ((L ++ [b]) ++ [[.i (rLo x), .i (rHi x)]]), .i (srt.length : Int), .i (i : Int)]) ⟨_, join_new srt (L ++ [b]) (rLo x) (rHi x) _ _ _ (by omega), 0, rfl, rfl, rfl⟩ (by simp) ?_
          rintro _ _ ⟨rfl, rfl⟩
          (dsimp +instances only [gi0,gis,row1,rows1,int1,str1,bool1])
          (repeat(first|(refine Ret.pos ?_ ?_;(first|rfl|assumption|(simp only [inI,sl]<;>omega)))|(refine Ret.neg ?_ ?_;(first|rfl|assumption|(simp only [inI,sl]<;>omega)))))
          refine Ret.some ⟨(L ++ [b]) ++ [[.i (rLo x), .i (rHi x)]], by simp, ?_⟩
          have := new (canR_snoc.2 ⟨s0, fun a ha => ?_, hX⟩)
          · simpa using this
          · rcases List.mem_append.1 ha with ha | ha
            · have := (canR_snoc.1 s0).2.1 a ha
              have := hbR.2
              omega
            · rw [List.mem_singleton.1 ha]
              exact h8)
    (fun s hI => by
      unfold st_band_joined_4
      (dsimp +instances only [gi0,gis,row1,rows1,int1,str1,bool1])
      (repeat(first|(refine Ret.pos ?_ ?_;(first|rfl|assumption|(simp only [inI,sl]<;>omega)))|(refine Ret.neg ?_ ?_;(first|rfl|assumption|(simp only [inI,sl]<;>omega)))))
      exact Ret.some rfl)
  refine Ret.loop r (by (first|rfl|assumption|(simp only [inI,sl]<;>omega))) ?_
  rintro _ _ ⟨out, ⟨q1, q2, q3, q4⟩, rfl, rfl⟩
  (dsimp +instances only [gi0,gis,row1,rows1,int1,str1,bool1])
  refine Ret.pos (by (first|rfl|assumption|(simp only [inI,sl]<;>omega))) (Ret.some ⟨srt, out, rfl, rfl, q1, by omega, fun n => ?_⟩)
  rw [q2, List.take_length]
  exact memR_perm hp n
end
end Go.Proofs.SYtpbepppkchjccaaGreatDoor

namespace Go.Proofs.SYtpbepppkchjccaaGreatDoor
open Go Go.AL Go.Proofs
noncomputable section
theorem has_runs (k : Int) : ∀ (q p : List (List G)), p.length + q.length < 100000 →
    RetN st_slices_Index_int_2 [.l (p ++ q), .i k, .i ((p ++ q).length : Nat), .i (p.length : Nat)] (q.length + 1) fun c g => (c = 0 ∧ (∃ r ∈ q, (gi r 0).int = k) ∧ ∃ j : Nat, g = [.i (j : Int)]) ∨ (c = 1 ∧ (∀ r ∈ q, (gi r 0).int ≠ k) ∧ g = [])
  | [], p, hl => by
    refine RetN.stop (x := 1) (d' := []) (Ret.toEq ?_) (.inr ⟨rfl, by simp, rfl⟩)
    unfold st_slices_Index_int_2
    (dsimp +instances only [gi0,gis,row1,rows1,int1,str1,bool1])
    exact Ret.neg (by simp [ltI_eq]) (Ret.some rfl)
  | z :: q, p, hl => by
    simp only [List.length_cons] at hl
    have hlen : (p ++ z :: q).length = p.length + (q.length + 1) := by simp
    have hd : (p ++ z :: q).getD p.length [] = z := by simp
    by_cases e : k = (gi z 0).int
    · refine RetN.stop (x := 0) (d' := [.i (p.length : Nat)]) (Ret.toEq ?_) (.inl ⟨rfl, ⟨z, by simp, e.symm⟩, _, rfl⟩)
      unfold st_slices_Index_int_2
      (dsimp +instances only [gi0,gis,row1,rows1,int1,str1,bool1])
      simp only [Int.toNat_natCast, hd, hlen]
      exact Ret.pos (by (first|rfl|assumption|(simp only [inI,sl]<;>omega))) (Ret.pos (by (first|rfl|assumption|(simp only [inI,sl]<;>omega))) (Ret.pos (by simpa using e) (Ret.some rfl)))
    · have ih := has_runs k q (p ++ [z]) (by simp; omega)
      have e1 : p ++ z :: q = (p ++ [z]) ++ q := by simp
      have e2 : (((p ++ [z]).length : Nat) : Int) = (p.length : Int) + 1 := by simp
      refine RetN.next (d1 := [.l ((p ++ [z]) ++ q), .i k, .i (((p ++ [z]) ++ q).length : Nat), .i ((p ++ [z]).length : Nat)]) (Ret.toEq ?_) (ih.mono ?_)
      · unfold st_slices_Index_int_2
        (dsimp +instances only [gi0,gis,row1,rows1,int1,str1,bool1])
        rw [← e1, e2]
        simp only [Int.toNat_natCast, hd, hlen]
        exact Ret.pos (by (first|rfl|assumption|(simp only [inI,sl]<;>omega))) (Ret.pos (by (first|rfl|assumption|(simp only [inI,sl]<;>omega))) (Ret.neg (by simpa using e) (Ret.pos (by (first|rfl|assumption|(simp only [inI,sl]<;>omega))) (Ret.some rfl))))
      · rintro c g (⟨rfl, ⟨r, h1, h2⟩, h3⟩ | ⟨rfl, h, rfl⟩)
        · exact .inl ⟨rfl, ⟨r, by simp [h1], h2⟩, h3⟩
        · refine .inr ⟨rfl, fun r hr => ?_, rfl⟩
          rcases List.mem_cons.1 hr with rfl | hr
          · exact fun h => e h.symm
          · exact h r hr
def hasI (ms : List (List G)) (k : Int) : Bool := ms.any fun z => (gi z 0).int == k
theorem hasI_eq (ms : List (List G)) (k : Int) (hl : ms.length < 100000) : F_slices_Contains_int [.l ms, .i k] = some [.t (hasI ms k)] := by
  refine Ret.toEq ?_
  unfold F_slices_Contains_int
  (dsimp +instances only [gi0,gis,row1,rows1,int1,str1,bool1])
  refine Ret.call (P := fun g => (∃ j : Nat, g = [.i (j : Int)] ∧ hasI ms k = true) ∨ (g = [.i (-1)] ∧ hasI ms k = false)) ?_ ?_
  · unfold F_slices_Index_int
    (dsimp +instances only [gi0,gis,row1,rows1,int1,str1,bool1])
    have h := has_runs k ms [] (by simpa using hl)
    simp only [List.nil_append, List.length_nil] at h
    refine Ret.loop (h.to (by omega)) rfl ?_
    rintro c g (⟨rfl, ⟨r, h1, h2⟩, j, rfl⟩ | ⟨rfl, hx, rfl⟩)
    · exact Ret.pos rfl (Ret.some (.inl ⟨j, rfl, List.any_eq_true.2 ⟨r, h1, by simpa using h2⟩⟩))
    · exact Ret.neg rfl (Ret.some (.inr ⟨rfl, List.any_eq_false.2 fun r hr => by simpa using hx r hr⟩))
  · rintro g (⟨j, rfl, hx⟩ | ⟨rfl, hx⟩)
    · rw [hx]
      refine Ret.some ?_
      simp [gi0, int1, leI_eq]
    · rw [hx]
      exact Ret.some rfl
def inT (f t at_ : Int) : Bool := leI f at_ && ltI at_ t
theorem has_ok (f t at_ : Int) : F_kit_Has [.l [[.i f, .i t]], .i at_] = some [.t (inT f t at_)] := by
  refine Ret.toEq ?_
  unfold F_kit_Has inT
  (dsimp +instances only [gi0,gis,row1,rows1,int1,str1,bool1])
  cases leI f at_ with
  | true => exact Ret.pos rfl (Ret.some rfl)
  | false => exact Ret.neg rfl (Ret.some rfl)
def segFor (c : ByteArray) (mode at_ : Int) (x : List G) : Bool := ((gi x 0).str.toList == c.toList) && ((mode == 0) || hasI (gi x 3).rows mode) && inT (gi x 4).int (gi x 5).int at_
def segRow (x : List G) : List G := [.i (gi x 1).int, .i (gi x 2).int]
def permR (segs : List (List G)) (c : ByteArray) (mode at_ : Int) : List (List G) := (segs.filter (segFor c mode at_)).map segRow
theorem permR_snoc (l : List (List G)) (x : List G) (c : ByteArray) (mode at_ : Int) : permR (l ++ [x]) c mode at_ = permR l c mode at_ ++ bif segFor c mode at_ x then [segRow x] else [] := by
  unfold permR
  rw [List.filter_append, List.map_append]
  cases h : segFor c mode at_ x <;> simp [h]
theorem permR_length (l : List (List G)) (c : ByteArray) (mode at_ : Int) : (permR l c mode at_).length ≤ l.length := by
  unfold permR
  rw [List.length_map]
  exact List.length_filter_le _ _
theorem permR_row {segs : List (List G)} {c : ByteArray} {mode at_ : Int} (hs : ∀ z ∈ segs, Seg z) (h : faultSegs segs = 0) : ∀ y ∈ permR segs c mode at_, RowB y ∧ 0 ≤ rLo y ∧ rHi y ≤ 30000000000 := by
  intro y hy
  obtain ⟨x, hx, rfl⟩ := List.mem_map.1 hy
  have hx := (List.mem_filter.1 hx).1
  obtain ⟨h1, h2, h3⟩ := okHz_iff.1 (segs_right h x hx).1
  have e1 : rLo (segRow x) = (gi x 1).int := rfl
  have e2 : rHi (segRow x) = (gi x 2).int := rfl
  refine ⟨⟨isR_mk h2, ?_, ?_⟩, ?_, ?_⟩ <;> omega
theorem permitted_ok (segs : List (List G)) (c : ByteArray) (mode at_ : Int) (hs : ∀ z ∈ segs, Seg z) (hn : segs.length ≤ 500) (h : faultSegs segs = 0) :
    Ret (F_band_permitted [.l segs, .s c, .i mode, .i at_]) fun g => ∃ out, g = [.l out] ∧ CanR out ∧ out.length ≤ segs.length ∧ ∀ n, memR out n ↔ memR (permR segs c mode at_) n := by
  unfold F_band_permitted
  (dsimp +instances only [gi0,gis,row1,rows1,int1,str1,bool1])
  have r := range_all (st := st_band_permitted_3) (σ := List (List G)) (fun s i => [.l s, .s c, .i mode, .i at_, .l segs, .i (segs.length : Int), .i (i : Int)]) segs (fun s => (0, [.l s])) (fun s i => s = permR (segs.take i) c mode at_ ∧ s.length ≤ i) [] (by omega) ⟨rfl, by simp⟩
    (fun s i x ⟨s0, s1⟩ hi hx hm ht => by
      obtain ⟨k, lo, hz, ms, f, t, hx', hc, hlo, hhi, hms, hml, hf, htt⟩ := hs x hm
      have fx : segFor c mode at_ x = ((k.toList == c.toList) && ((mode == 0) || hasI ms mode) && inT f t at_) := by
        rw [hx']
        rfl
      have yes : segFor c mode at_ x = true → s ++ [[.i lo, .i hz]] = permR (segs.take (i + 1)) c mode at_ ∧ (s ++ [[G.i lo, .i hz]]).length ≤ i + 1 := fun hy => by
        rw [ht, permR_snoc, hy, ← s0, hx']
        exact ⟨rfl, by simp; omega⟩
      have no : segFor c mode at_ x = false → s = permR (segs.take (i + 1)) c mode at_ ∧ s.length ≤ i + 1 := fun hy => by
        rw [ht, permR_snoc, hy, ← s0]
        exact ⟨by simp, by omega⟩
      unfold st_band_permitted_3
      (dsimp +instances only [gi0,gis,row1,rows1,int1,str1,bool1])
      simp only [Int.toNat_natCast, hx]
      rw [hx'] at *
      (dsimp +instances only [gi0,gis,row1,rows1,int1,str1,bool1])
      refine Ret.pos (by (first|rfl|assumption|(simp only [inI,sl]<;>omega))) (Ret.pos (by (first|rfl|assumption|(simp only [inI,sl]<;>omega))) ?_)
      rw [fx] at yes no
      cases h1 : (k.toList == c.toList) with
      | false =>
        rw [h1] at no
        refine Ret.neg rfl ?_
        (repeat(first|(refine Ret.pos ?_ ?_;(first|rfl|assumption|(simp only [inI,sl]<;>omega)))|(refine Ret.neg ?_ ?_;(first|rfl|assumption|(simp only [inI,sl]<;>omega)))))
        exact Ret.some ⟨s, by simp, no rfl⟩
      | true =>
      rw [h1] at yes no
      refine Ret.pos rfl ?_
      cases h2 : (mode == 0) with
      | true =>
        rw [h2] at yes no
        refine Ret.pos rfl ?_
        refine Ret.call (Ret.eq (has_ok _ _ _)) ?_
        rintro _ rfl
        (dsimp +instances only [gi0,gis,row1,rows1,int1,str1,bool1])
        cases h3 : inT f t at_ with
        | true =>
          rw [h3] at yes
          refine Ret.pos rfl ?_
          (repeat(first|(refine Ret.pos ?_ ?_;(first|rfl|assumption|(simp only [inI,sl]<;>omega)))|(refine Ret.neg ?_ ?_;(first|rfl|assumption|(simp only [inI,sl]<;>omega)))))
          exact Ret.some ⟨_, by simp, yes rfl⟩
        | false =>
          rw [h3] at no
          refine Ret.neg rfl ?_
          (repeat(first|(refine Ret.pos ?_ ?_;(first|rfl|assumption|(simp only [inI,sl]<;>omega)))|(refine Ret.neg ?_ ?_;(first|rfl|assumption|(simp only [inI,sl]<;>omega)))))
          exact Ret.some ⟨s, by simp, no rfl⟩
      | false =>
        rw [h2] at yes no
        refine Ret.neg rfl ?_
        refine Ret.call (Ret.eq (hasI_eq ms mode (by omega))) ?_
        rintro _ rfl
        (dsimp +instances only [gi0,gis,row1,rows1,int1,str1,bool1])
        cases h4 : hasI ms mode with
        | false =>
          rw [h4] at no
          refine Ret.neg rfl ?_
          (repeat(first|(refine Ret.pos ?_ ?_;(first|rfl|assumption|(simp only [inI,sl]<;>omega)))|(refine Ret.neg ?_ ?_;(first|rfl|assumption|(simp only [inI,sl]<;>omega)))))
          exact Ret.some ⟨s, by simp, no rfl⟩
        | true =>
          rw [h4] at yes no
          refine Ret.pos rfl ?_
          refine Ret.call (Ret.eq (has_ok _ _ _)) ?_
          rintro _ rfl
          (dsimp +instances only [gi0,gis,row1,rows1,int1,str1,bool1])
          cases h3 : inT f t at_ with
          | true =>
            rw [h3] at yes
            refine Ret.pos rfl ?_
            (repeat(first|(refine Ret.pos ?_ ?_;(first|rfl|assumption|(simp only [inI,sl]<;>omega)))|(refine Ret.neg ?_ ?_;(first|rfl|assumption|(simp only [inI,sl]<;>omega)))))
            exact Ret.some ⟨_, by simp, yes rfl⟩
          | false =>
            rw [h3] at no
            refine Ret.neg rfl ?_
            (repeat(first|(refine Ret.pos ?_ ?_;(first|rfl|assumption|(simp only [inI,sl]<;>omega)))|(refine Ret.neg ?_ ?_;(first|rfl|assumption|(simp only [inI,sl]<;>omega)))))
            exact Ret.some ⟨s, by simp, no rfl⟩)
    (fun s hI => by
      unfold st_band_permitted_3
      (dsimp +instances only [gi0,gis,row1,rows1,int1,str1,bool1])
      (repeat(first|(refine Ret.pos ?_ ?_;(first|rfl|assumption|(simp only [inI,sl]<;>omega)))|(refine Ret.neg ?_ ?_;(first|rfl|assumption|(simp only [inI,sl]<;>omega)))))
      exact Ret.some rfl)
  refine Ret.loop r rfl ?_
  rintro _ _ ⟨s, ⟨q1, q2⟩, rfl, rfl⟩
  (dsimp +instances only [gi0,gis,row1,rows1,int1,str1,bool1])
  rw [List.take_length] at q1
  subst q1
  refine Ret.callb (joined_ok _ (fun y hy => (permR_row hs h y hy).1) (by omega)) (by (first|rfl|assumption|(simp only [inI,sl]<;>omega))) ?_
  rintro _ ⟨srt, out, rfl, g1, g2, g3, g4⟩
  (dsimp +instances only [gi0,gis,row1,rows1,int1,str1,bool1])
  exact Ret.some ⟨out, rfl, g2, by omega, g4⟩
/-! ### Rows without others -/
theorem without_in (l others out : List (List G)) (a b n i : Int) (hO : CanR others) (hn : others.length ≤ 2000) (hc : CanR out) (hg : ∀ s ∈ out, rHi s < a) (hl : out.length ≤ 500000) :
    RetL st_band_without_7 [.l out, .i a, .i b, .l others, .i a, .l l, .i n, .i i, .l others, .i (others.length : Int), .i 0] fun c g => c = 0 ∧ ∃ ps f, g = [.l (out ++ ps), .i a, .i b, .l others, .i f, .l l, .i n, .i i] ∧ CutI out a b others ps f := by
  have r := range_all (st := st_band_without_7) (σ := List (List G) × Int) (fun s j => [.l (out ++ s.1), .i a, .i b, .l others, .i s.2, .l l, .i n, .i i, .l others, .i (others.length : Int), .i (j : Int)]) others
    (fun s => (0, [.l (out ++ s.1), .i a, .i b, .l others, .i s.2, .l l, .i n, .i i])) (fun s j => CutI out a b (others.take j) s.1 s.2) ([], a) (by omega) (by simpa using cutI_start hc hg)
    (fun s j x hI hj hx hm ht => by
      obtain ⟨ps, f⟩ := s
      simp only at hI
      have hX := hO.1 x hm
      have hmany := hI.many
      have hos : ∀ s ∈ others.take j, rHi s < rLo x := fun s hs' => by
        have hp := List.pairwise_append.1 (ht ▸ (hO.2.sublist (List.take_sublist (j + 1) others)) : (others.take j ++ [x]).Pairwise fun r s => rHi r < rLo s)
        exact hp.2.2 s hs' x (by simp)
      have hps : ps.length ≤ j := by
        rw [List.length_take] at hmany
        omega
      have hlen : (out ++ ps).length ≤ 600000 := by simp; omega
      unfold st_band_without_7
      (dsimp +instances only [gi0,gis,row1,rows1,int1,str1,bool1])
      simp only [Int.toNat_natCast, hx]
      rw [ht]
      refine Ret.pos (by (first|rfl|assumption|(simp only [inI,sl]<;>omega))) (Ret.pos (by (first|rfl|assumption|(simp only [inI,sl]<;>omega))) ?_)
      by_cases h1 : rHi x ≤ f
      · refine Ret.pos (by (first|rfl|assumption|(simp only [inI,sl]<;>omega))) ?_
        (repeat(first|(refine Ret.pos ?_ ?_;(first|rfl|assumption|(simp only [inI,sl]<;>omega)))|(refine Ret.neg ?_ ?_;(first|rfl|assumption|(simp only [inI,sl]<;>omega)))))
        exact Ret.some ⟨(ps, f), by simp, cutI_skip hI hX hos (.inl h1)⟩
      · refine Ret.neg (by (first|rfl|assumption|(simp only [inI,sl]<;>omega))) ?_
        by_cases h2 : b ≤ rLo x
        · refine Ret.pos (by (first|rfl|assumption|(simp only [inI,sl]<;>omega))) ?_
          (repeat(first|(refine Ret.pos ?_ ?_;(first|rfl|assumption|(simp only [inI,sl]<;>omega)))|(refine Ret.neg ?_ ?_;(first|rfl|assumption|(simp only [inI,sl]<;>omega)))))
          exact Ret.some ⟨(ps, f), by simp, cutI_skip hI hX hos (.inr h2)⟩
        · refine Ret.neg (by (first|rfl|assumption|(simp only [inI,sl]<;>omega))) ?_
          by_cases h3 : f < rLo x
          · refine Ret.pos (by (first|rfl|assumption|(simp only [inI,sl]<;>omega))) ?_
            (repeat(first|(refine Ret.pos ?_ ?_;(first|rfl|assumption|(simp only [inI,sl]<;>omega)))|(refine Ret.neg ?_ ?_;(first|rfl|assumption|(simp only [inI,sl]<;>omega)))))
            exact Ret.some ⟨(ps ++ [[.i f, .i (rLo x)]], rHi x), by simp, cutI_left hI hX (by omega) h3⟩
          · refine Ret.neg (by (first|rfl|assumption|(simp only [inI,sl]<;>omega))) ?_
            (repeat(first|(refine Ret.pos ?_ ?_;(first|rfl|assumption|(simp only [inI,sl]<;>omega)))|(refine Ret.neg ?_ ?_;(first|rfl|assumption|(simp only [inI,sl]<;>omega)))))
            exact Ret.some ⟨(ps, rHi x), by simp, cutI_none hI hX hos (by omega) (by omega)⟩)
    (fun s hI => by
      unfold st_band_without_7
      (dsimp +instances only [gi0,gis,row1,rows1,int1,str1,bool1])
      (repeat(first|(refine Ret.pos ?_ ?_;(first|rfl|assumption|(simp only [inI,sl]<;>omega)))|(refine Ret.neg ?_ ?_;(first|rfl|assumption|(simp only [inI,sl]<;>omega)))))
      exact Ret.some rfl)
  rw [List.append_nil] at r
  refine r.mono ?_
  rintro _ _ ⟨⟨ps, f⟩, hI, rfl, rfl⟩
  rw [List.take_length] at hI
  exact ⟨rfl, ps, f, rfl, hI⟩
theorem without_ok (l others : List (List G)) (hL : CanR l) (hO : CanR others) (hn : l.length ≤ 500) (hm : others.length ≤ 500) :
    Ret (F_band_without [.l l, .l others]) fun g => ∃ out, g = [.l out] ∧ CanR out ∧ out.length ≤ 300000 ∧ ∀ n, memR out n ↔ memR l n ∧ ¬ memR others n := by
  unfold F_band_without
  (dsimp +instances only [gi0,gis,row1,rows1,int1,str1,bool1])
  have r := range_all (st := st_band_without_3) (σ := List (List G)) (fun s i => [.l s, .l others, .l l, .i (l.length : Int), .i (i : Int)]) l (fun s => (0, [.l s]))
    (fun s i => CanR s ∧ (∀ n, memR s n ↔ memR (l.take i) n ∧ ¬ memR others n) ∧ s.length ≤ 600 * i) [] (by omega) ⟨canR_nil, by simp [memR], by simp⟩
    (fun s i x ⟨s0, s1, s2⟩ hi hx hm' ht => by
      have hX := hL.1 x hm'
      have hp := List.pairwise_append.1 (ht ▸ (hL.2.sublist (List.take_sublist (i + 1) l)) : (l.take i ++ [x]).Pairwise fun r s => rHi r < rLo s)
      have hg : ∀ a ∈ s, rHi a < rLo x := fun a ha => by
        have hA := s0.1 a ha
        obtain ⟨r, hr, h1, h2⟩ := ((s1 (rHi a - 1)).1 ⟨a, ha, by have := hA.2; omega, by omega⟩).1
        have := hp.2.2 r hr x (by simp)
        omega
      unfold st_band_without_3
      (dsimp +instances only [gi0,gis,row1,rows1,int1,str1,bool1])
      simp only [Int.toNat_natCast, hx]
      refine Ret.pos (by (first|rfl|assumption|(simp only [inI,sl]<;>omega))) (Ret.pos (by (first|rfl|assumption|(simp only [inI,sl]<;>omega))) ?_)
      refine Ret.loop (without_in l others s (rLo x) (rHi x) l.length i hO (by omega) s0 hg (by omega)) (by simp) ?_
      rintro _ _ ⟨rfl, ps, f, rfl, hI⟩
      (dsimp +instances only [gi0,gis,row1,rows1,int1,str1,bool1])
      have hmany := hI.many
      by_cases hf : f < rHi x
      · obtain ⟨g1, g2⟩ := cutI_end hI hf
        refine Ret.pos (by (first|rfl|assumption|(simp only [inI,sl]<;>omega))) ?_
        (repeat(first|(refine Ret.pos ?_ ?_;(first|rfl|assumption|(simp only [inI,sl]<;>omega)))|(refine Ret.neg ?_ ?_;(first|rfl|assumption|(simp only [inI,sl]<;>omega)))))
        refine Ret.some ⟨s ++ (ps ++ [[.i f, .i (rHi x)]]), by simp, g1, fun n => ?_, by simp; omega⟩
        rw [memR_append, s1, g2, ht, memR_snoc]
        constructor
        · rintro (⟨h1, h2⟩ | ⟨h1, h2, h3⟩)
          · exact ⟨.inl h1, h2⟩
          · exact ⟨.inr ⟨h1, h2⟩, h3⟩
        · rintro ⟨h1 | h1, h2⟩
          · exact .inl ⟨h1, h2⟩
          · exact .inr ⟨h1.1, h1.2, h2⟩
      · obtain ⟨g1, g2⟩ := cutI_stop hI (by omega)
        refine Ret.neg (by (first|rfl|assumption|(simp only [inI,sl]<;>omega))) ?_
        (repeat(first|(refine Ret.pos ?_ ?_;(first|rfl|assumption|(simp only [inI,sl]<;>omega)))|(refine Ret.neg ?_ ?_;(first|rfl|assumption|(simp only [inI,sl]<;>omega)))))
        refine Ret.some ⟨s ++ ps, by simp, g1, fun n => ?_, by simp; omega⟩
        rw [memR_append, s1, g2, ht, memR_snoc]
        constructor
        · rintro (⟨h1, h2⟩ | ⟨h1, h2, h3⟩)
          · exact ⟨.inl h1, h2⟩
          · exact ⟨.inr ⟨h1, h2⟩, h3⟩
        · rintro ⟨h1 | h1, h2⟩
          · exact .inl ⟨h1, h2⟩
          · exact .inr ⟨h1.1, h1.2, h2⟩)
    (fun s ⟨_, _, hI⟩ => by
      unfold st_band_without_3
      (dsimp +instances only [gi0,gis,row1,rows1,int1,str1,bool1])
      (repeat(first|(refine Ret.pos ?_ ?_;(first|rfl|assumption|(simp only [inI,sl]<;>omega)))|(refine Ret.neg ?_ ?_;(first|rfl|assumption|(simp only [inI,sl]<;>omega)))))
      exact Ret.some rfl)
  refine Ret.loop r rfl ?_
  rintro _ _ ⟨out, ⟨q1, q2, q3⟩, rfl, rfl⟩
  (dsimp +instances only [gi0,gis,row1,rows1,int1,str1,bool1])
  refine Ret.pos (by (first|rfl|assumption|(simp only [inI,sl]<;>omega))) (Ret.some ⟨out, rfl, q1, by omega, fun n => ?_⟩)
  rw [q2, List.take_length]
end
end Go.Proofs.SYtpbepppkchjccaaGreatDoor

namespace Go.Proofs.SYtpbepppkchjccaaGreatDoor
open Go Go.AL Go.Proofs
noncomputable section
theorem half_ok (w : Int) (hw : 0 ≤ w) : 0 ≤ Int.tdiv w 2 ∧ 2 * Int.tdiv w 2 ≤ w ∧ w ≤ 2 * Int.tdiv w 2 + 1 := by
  rw [Int.tdiv_eq_ediv_of_nonneg hw]
  omega
def useR (h d : Int) : List G := [.i (h - Int.tdiv d 2), .i (h - Int.tdiv d 2 + d)]
theorem used_ok (h d : Int) (h1 : b40 h) (h2 : 0 ≤ d) (h3 : d ≤ 1099511627776) : F_band_used [.i h, .i d] = some [.l [useR h d]] := by
  obtain ⟨g1, g2, g3⟩ := half_ok d h2
  unfold b40 at h1
  refine Ret.toEq ?_
  unfold F_band_used
  (dsimp +instances only [gi0,gis,row1,rows1,int1,str1,bool1])
  (repeat(first|(refine Ret.pos ?_ ?_;(first|rfl|assumption|(simp only [inI,sl]<;>omega)))|(refine Ret.neg ?_ ?_;(first|rfl|assumption|(simp only [inI,sl]<;>omega)))))
  exact Ret.some rfl
/-! ### What is wrong with what is asked -/
/-! ### What is free -/
/-! ### The nearest -/
end
end Go.Proofs.SYtpbepppkchjccaaGreatDoor

namespace Go.Proofs.SYtpbepppkchjccaaGreatDoor
open Go Go.AL Go.Proofs
noncomputable section
def inRow (u x : List G) : Bool := leI (rLo x) (rLo u) && leI (rHi u) (rHi x)
theorem may1_ok (u x : List G) : F_band_May_1 [.l [x], .l [u]] = some [.t (inRow u x)] := by
  refine Ret.toEq ?_
  unfold F_band_May_1 inRow
  (dsimp +instances only [gi0,gis,row1,rows1,int1,str1,bool1])
  have e1 : (gi x 0).int = rLo x := rfl
  have e2 : (gi u 0).int = rLo u := rfl
  rw [e1, e2]
  cases leI (rLo x) (rLo u) with
  | true => exact Ret.pos rfl (Ret.some rfl)
  | false => exact Ret.neg rfl (Ret.some rfl)
theorem anyRow_ok (rows : List (List G)) (u : List G) (hu : gEta [.int .i64, .int .i64] u = u) (hr : ∀ r ∈ rows, IsR r) (hn : rows.length ≤ 1000) : F_slices_ContainsFunc_Row [.l rows, .l [u]] = some [.t (rows.any (inRow u))] := by
  refine Ret.toEq ?_
  unfold F_slices_ContainsFunc_Row
  (dsimp +instances only [gi0,gis,row1,rows1,int1,str1,bool1])
  simp only [hu]
  refine Ret.call (P := fun g => (∃ j : Nat, g = [.i (j : Int)] ∧ rows.any (inRow u) = true) ∨ (g = [.i (-1)] ∧ rows.any (inRow u) = false)) ?_ ?_
  · unfold F_slices_IndexFunc_Row
    (dsimp +instances only [gi0,gis,row1,rows1,int1,str1,bool1])
    simp only [hu]
    refine Ret.loop (find_inv (st := st_slices_IndexFunc_Row_2) (fun i => [.l rows, .l [u], .i (rows.length : Int), .i (i : Int)]) rows (inRow u) (by omega) (fun i x hi hx hm => ?_) ?_) rfl ?_
    · have hX := hr x hm
      unfold st_slices_IndexFunc_Row_2
      (dsimp +instances only [gi0,gis,row1,rows1,int1,str1,bool1])
      simp only [Int.toNat_natCast, hx, hu, isR_eta hX]
      refine Ret.pos (by (first|rfl|assumption|(simp only [inI,sl]<;>omega))) (Ret.pos (by (first|rfl|assumption|(simp only [inI,sl]<;>omega))) ?_)
      refine Ret.call (Ret.eq (may1_ok u x)) ?_
      rintro _ rfl
      (dsimp +instances only [gi0,gis,row1,rows1,int1,str1,bool1])
      cases inRow u x with
      | true => exact Ret.pos rfl (Ret.some rfl)
      | false => exact Ret.neg rfl (Ret.pos (by (first|rfl|assumption|(simp only [inI,sl]<;>omega))) (Ret.some (by simp)))
    · unfold st_slices_IndexFunc_Row_2
      (dsimp +instances only [gi0,gis,row1,rows1,int1,str1,bool1])
      (repeat(first|(refine Ret.pos ?_ ?_;(first|rfl|assumption|(simp only [inI,sl]<;>omega)))|(refine Ret.neg ?_ ?_;(first|rfl|assumption|(simp only [inI,sl]<;>omega)))))
      exact Ret.some rfl
    · rintro _ _ (⟨rfl, q1, x, q2, h1, h2, h3, rfl⟩ | ⟨rfl, rfl, h⟩)
      · exact Ret.pos rfl (Ret.some (.inl ⟨_, rfl, List.any_eq_true.2 ⟨x, by rw [h1]; simp, h3⟩⟩))
      · exact Ret.neg rfl (Ret.some (.inr ⟨rfl, List.any_eq_false.2 fun r hr' => by rw [h r hr']; simp⟩))
  · rintro g (⟨j, rfl, hx⟩ | ⟨rfl, hx⟩)
    · rw [hx]
      refine Ret.some ?_
      simp [gi0, int1, leI_eq]
    · rw [hx]
      exact Ret.some rfl
def allP (segs : List (List G)) (c : ByteArray) (hz width mode at_ : Int) : Prop := ∀ m, rLo (useR hz width) ≤ m → m < rHi (useR hz width) → memR (permR segs c mode at_) m
def mayFlt (segs : List (List G)) (c : ByteArray) (hz width mode at_ : Int) : Int :=
  if faultSegs segs ≠ 0 then faultSegs segs else if okClass c = false then 5 else if inB hz 0 30000000000 = false then 1 else if inB width 1 100000 = false then 1 else if inB mode 1 3 = false then 4 else if inB at_ 0 345686399999 = false then 1 else 0
theorem may_ok (segs : List (List G)) (c : ByteArray) (hz width mode at_ : Int) (hs : ∀ z ∈ segs, Seg z) (hsn : segs.length ≤ 500) (hc : c ∈ classes) :
    Ret (F_band_May [.l segs, .s c, .i hz, .i width, .i mode, .i at_]) fun g => ∃ b, g = [.t b, .i (mayFlt segs c hz width mode at_)] ∧ (b = true ↔ mayFlt segs c hz width mode at_ = 0 ∧ allP segs c hz width mode at_) := by
  have bad : ∀ e : Int, e ≠ 0 → ∃ b, [G.t false, .i e] = [.t b, .i e] ∧ (b = true ↔ e = 0 ∧ allP segs c hz width mode at_) := fun e he => ⟨false, rfl, by simp [he]⟩
  unfold F_band_May mayFlt
  (dsimp +instances only [gi0,gis,row1,rows1,int1,str1,bool1])
  refine Ret.call (Ret.eq (checkSegs_ok segs hs)) ?_
  rintro _ rfl
  (dsimp +instances only [gi0,gis,row1,rows1,int1,str1,bool1])
  by_cases h1 : faultSegs segs = 0
  rotate_left
  · rw [if_pos h1]
    exact Ret.pos (by simpa using h1) (Ret.some (bad _ h1))
  rw [if_neg (by simpa using h1)]
  refine Ret.neg (by simpa using h1) ?_
  refine Ret.call (Ret.eq (isClass_eq hc)) ?_
  rintro _ rfl
  (dsimp +instances only [gi0,gis,row1,rows1,int1,str1,bool1])
  cases okClass c with
  | false => exact Ret.pos rfl (Ret.some (bad 5 (by omega)))
  | true =>
  refine Ret.neg rfl ?_
  refine Ret.call (Ret.eq (outside_eq _ _ _)) ?_
  rintro _ rfl
  (dsimp +instances only [gi0,gis,row1,rows1,int1,str1,bool1])
  cases h2 : inB hz 0 30000000000 with
  | false => exact Ret.pos rfl (Ret.some (bad 1 (by omega)))
  | true =>
  refine Ret.neg rfl ?_
  refine Ret.call (Ret.eq (outside_eq _ _ _)) ?_
  rintro _ rfl
  (dsimp +instances only [gi0,gis,row1,rows1,int1,str1,bool1])
  cases h3 : inB width 1 100000 with
  | false => exact Ret.pos rfl (Ret.some (bad 1 (by omega)))
  | true =>
  refine Ret.neg rfl ?_
  refine Ret.call (Ret.eq (isModeX _)) ?_
  rintro _ rfl
  (dsimp +instances only [gi0,gis,row1,rows1,int1,str1,bool1])
  cases inB mode 1 3 with
  | false => exact Ret.pos rfl (Ret.some (bad 4 (by omega)))
  | true =>
  refine Ret.neg rfl ?_
  refine Ret.call (Ret.eq (isMomentX _)) ?_
  rintro _ rfl
  (dsimp +instances only [gi0,gis,row1,rows1,int1,str1,bool1])
  cases inB at_ 0 345686399999 with
  | false => exact Ret.pos rfl (Ret.some (bad 1 (by omega)))
  | true =>
  refine Ret.neg rfl ?_
  obtain ⟨a1, a2⟩ := inB_iff.1 h2
  obtain ⟨a3, a4⟩ := inB_iff.1 h3
  refine Ret.call (Ret.eq (used_ok hz width ⟨by omega, by omega⟩ (by omega) (by omega))) ?_
  rintro _ rfl
  refine Ret.call (permitted_ok segs c mode at_ hs hsn h1) ?_
  rintro _ ⟨P, rfl, p1, p2, p3⟩
  (dsimp +instances only [gi0,gis,row1,rows1,int1,str1,bool1])
  have hu : gEta [.int .i64, .int .i64] (useR hz width) = useR hz width := rfl
  simp only [hu]
  refine Ret.call (Ret.eq (anyRow_ok P (useR hz width) hu p1.1 (by omega))) ?_
  rintro _ rfl
  (dsimp +instances only [gi0,gis,row1,rows1,int1,str1,bool1])
  refine Ret.some ⟨_, rfl, ?_⟩
  have hlt : rLo (useR hz width) < rHi (useR hz width) := by
    have e1 : rLo (useR hz width) = hz - Int.tdiv width 2 := rfl
    have e2 : rHi (useR hz width) = hz - Int.tdiv width 2 + width := rfl
    omega
  rw [List.any_eq_true]
  constructor
  · rintro ⟨r, hr, h⟩
    unfold inRow at h
    rw [leI_eq, leI_eq, Bool.and_eq_true, decide_eq_true_eq, decide_eq_true_eq] at h
    exact ⟨rfl, fun m h4 h5 => (p3 m).1 ⟨r, hr, by omega, by omega⟩⟩
  · rintro ⟨_, h⟩
    obtain ⟨r, hr, h4, h5⟩ := canR_run p1 hlt fun n h6 h7 => (p3 n).2 (h n h6 h7)
    refine ⟨r, hr, ?_⟩
    unfold inRow
    rw [leI_eq, leI_eq, Bool.and_eq_true, decide_eq_true_eq, decide_eq_true_eq]
    exact ⟨h4, h5⟩
end
end Go.Proofs.SYtpbepppkchjccaaGreatDoor

namespace Go.Proofs.SYtpbepppkchjccaaGreatDoor
open Go Go.AL Go.Proofs
noncomputable section
/-! ### Numbers that are sorted, each once -/
theorem rowEq_int (a b : List G) : rowEq [.int .i64] (gEta [.int .i64] a) (gEta [.int .i64] b) = ((gi a 0).int == (gi b 0).int) := by
  show (((gi a 0).int == (gi b 0).int) && true) = _
  rw [Bool.and_true]
theorem cpt9_eq : st_slices_Compact_int_9 = cmpc9 [.int .i64] [.i 0] := by
  funext d
  unfold cmpc9
  simp only [rowEq_int]
  rfl
theorem cpt4_eq : st_slices_Compact_int_4 = cmpc4 [.int .i64] [.i 0] := by
  funext d
  unfold st_slices_Compact_int_4 cmpc4
  simp only [rowEq_int, cpt9_eq]
theorem cptF_eq : F_slices_Compact_int = cmpcF [.int .i64] [.i 0] := by
  funext d
  unfold F_slices_Compact_int cmpcF
  rw [cpt4_eq]
def One (r : List G) : Prop := r = [.i (rLo r)]
theorem kdsOne : Kds [.int .i64] One := ⟨fun r h => by rw [h]; rfl⟩
theorem rowEq_one {a b : List G} (ha : One a) (hb : One b) : rowEq [.int .i64] a b = (rLo a == rLo b) := by
  have := rowEq_int a b
  rw [kdsOne.eta a ha, kdsOne.eta b hb] at this
  exact this
theorem edges_once (rows : List (List G)) (hr : ∀ y ∈ rows, One y) (hn : rows.length < 99999) :
    ∃ es : List (List G), (∀ y ∈ es, One y) ∧ es.Pairwise (fun a b => rLo a < rLo b) ∧ (∀ n, (∃ y ∈ es, rLo y = n) ↔ ∃ y ∈ rows, rLo y = n) ∧ es.length ≤ rows.length ∧
      F_slices_Sort_int [.l rows] = some [.l (sortedI rows)] ∧ (sortedI rows).length = rows.length ∧ Ret (F_slices_Compact_int [.l (sortedI rows)]) fun g => ∃ J, g = [.l (es ++ J), .i (es.length : Int)] ∧ (es ++ J).length = rows.length := by
  have hone : ∀ y ∈ sortedI rows, One y := fun y hy => by
    obtain ⟨n, _, rfl⟩ := List.mem_map.1 hy
    rfl
  have hlen := sortedI_length rows
  have hpw : (sortedI rows).Pairwise fun a b => rLo a ≤ rLo b := by
    unfold sortedI
    rw [List.pairwise_map]
    refine (List.pairwise_mergeSort (le := fun x y : Int => decide (x ≤ y)) (fun a b c h1 h2 => ?_) (fun a b => ?_) _).imp fun {a b} h => ?_
    · rw [decide_eq_true_eq] at *
      omega
    · rw [Bool.or_eq_true, decide_eq_true_eq, decide_eq_true_eq]
      omega
    · rw [decide_eq_true_eq] at h
      exact h
  have hmem : ∀ n, (∃ y ∈ sortedI rows, rLo y = n) ↔ ∃ y ∈ rows, rLo y = n := fun n => by
    have hp := List.mergeSort_perm (rows.map fun r => (gi r 0).int) (fun x y => decide (x ≤ y))
    constructor
    · rintro ⟨y, hy, e⟩
      obtain ⟨m, hm, rfl⟩ := List.mem_map.1 hy
      obtain ⟨z, hz, e2⟩ := List.mem_map.1 (hp.mem_iff.1 hm)
      exact ⟨z, hz, by rw [← e]; exact e2⟩
    · rintro ⟨y, hy, e⟩
      exact ⟨[.i n], List.mem_map.2 ⟨n, hp.mem_iff.2 (List.mem_map.2 ⟨y, hy, e⟩), rfl⟩, rfl⟩
  have eqv : ∀ a ∈ sortedI rows, ∀ b ∈ sortedI rows, rowEq [.int .i64] a b = true → a = b := fun a ha b hb h => by
    rw [rowEq_one (hone a ha) (hone b hb), beq_iff_eq] at h
    rw [hone a ha, hone b hb, h]
  refine ⟨compact (rowEq [.int .i64]) (sortedI rows), fun y hy => hone y (compact_mem hy), ?_, fun n => ?_, ?_, ?_, hlen, ?_⟩
  · refine compact_rising (fun a b c h1 h2 => by omega) (fun x hx => by rw [rowEq_one (hone x hx) (hone x hx)]; simp) (fun a b c h1 h2 => ?_) eqv (hpw.imp_of_mem fun {a b} ha hb h => ?_)
    · have e : ∀ x y : List G, rowEq [.int .i64] x y = gEq (.int .i64) (x.headD default) (y.headD default) := fun x y => by
        show (gEq (.int .i64) (x.headD default) (y.headD default) && true) = _
        rw [Bool.and_true]
      rw [e] at *
      have e2 : ∀ x y : G, gEq (.int .i64) x y = (x.int == y.int) := fun x y => rfl
      rw [e2, beq_iff_eq] at *
      omega
    · rcases Int.lt_or_eq_of_le h with h | h
      · exact .inr h
      · left
        rw [hone a ha, hone b hb, h]
  · rw [← hmem n]
    constructor
    · rintro ⟨y, hy, e⟩
      exact ⟨y, compact_mem hy, e⟩
    · rintro ⟨y, hy, e⟩
      exact ⟨y, (compact_iff eqv).2 hy, e⟩
  · rw [← hlen]
    exact compact_length _ _
  · unfold F_slices_Sort_int sortIG
    show (bif Nat.blt rows.length 1000000 then some [G.l (sortedI rows)] else none) = _
    rw [show Nat.blt rows.length 1000000 = true by rw [Nat.blt_eq]; omega]
    rfl
  · rw [cptF_eq, ← hlen]
    exact cmpcF_eq (Z := [.i 0]) kdsOne _ hone (by omega)
/-! ### Is a number in a row? -/
def atRow (n : Int) (x : List G) : Bool := leI (rLo x) n && ltI n (rHi x)
theorem atRow_any (rows : List (List G)) (n : Int) : rows.any (atRow n) = true ↔ memR rows n := by
  rw [List.any_eq_true]
  unfold atRow
  constructor
  · rintro ⟨r, hr, h⟩
    rw [leI_eq, ltI_eq, Bool.and_eq_true, decide_eq_true_eq, decide_eq_true_eq] at h
    exact ⟨r, hr, h⟩
  · rintro ⟨r, hr, h⟩
    refine ⟨r, hr, ?_⟩
    rw [leI_eq, ltI_eq, Bool.and_eq_true, decide_eq_true_eq, decide_eq_true_eq]
    exact h
theorem inRows_ok (rows : List (List G)) (n : Int) (hr : ∀ r ∈ rows, IsR r) (hl : rows.length ≤ 100000) : F_pileref2_rowsOf_1 [.l rows, .i n] = some [.t (rows.any (atRow n))] := by
  refine Ret.toEq ?_
  unfold F_pileref2_rowsOf_1
  (dsimp +instances only [gi0,gis,row1,rows1,int1,str1,bool1])
  refine Ret.call (P := fun g => g = [.t (rows.any (atRow n))]) ?_ (by rintro _ rfl; exact Ret.some rfl)
  unfold F_slices_ContainsFunc_Row_2
  (dsimp +instances only [gi0,gis,row1,rows1,int1,str1,bool1])
  refine Ret.call (P := fun g => (∃ j : Nat, g = [.i (j : Int)] ∧ rows.any (atRow n) = true) ∨ (g = [.i (-1)] ∧ rows.any (atRow n) = false)) ?_ ?_
  · unfold F_slices_IndexFunc_Row_2
    (dsimp +instances only [gi0,gis,row1,rows1,int1,str1,bool1])
    refine Ret.loop (find_inv (st := st_slices_IndexFunc_Row_2_2) (fun i => [.l rows, .l [[.i n]], .i (rows.length : Int), .i (i : Int)]) rows (atRow n) (by omega) (fun i x hi hx hm => ?_) ?_) rfl ?_
    · have hX := hr x hm
      have e : F_pileref2_rowsOf_1_1 [.l [x], .l [[.i n]]] = some [.t (atRow n x)] := by
        refine Ret.toEq ?_
        unfold F_pileref2_rowsOf_1_1 atRow
        (dsimp +instances only [gi0,gis,row1,rows1,int1,str1,bool1])
        have b1 : (gi x 0).int = rLo x := rfl
        rw [b1]
        cases leI (rLo x) n with
        | true => exact Ret.pos rfl (Ret.some rfl)
        | false => exact Ret.neg rfl (Ret.some rfl)
      unfold st_slices_IndexFunc_Row_2_2
      (dsimp +instances only [gi0,gis,row1,rows1,int1,str1,bool1])
      simp only [Int.toNat_natCast, hx, isR_eta hX]
      refine Ret.pos (by (first|rfl|assumption|(simp only [inI,sl]<;>omega))) (Ret.pos (by (first|rfl|assumption|(simp only [inI,sl]<;>omega))) ?_)
      refine Ret.call (Ret.eq e) ?_
      rintro _ rfl
      (dsimp +instances only [gi0,gis,row1,rows1,int1,str1,bool1])
      cases atRow n x with
      | true => exact Ret.pos rfl (Ret.some rfl)
      | false => exact Ret.neg rfl (Ret.pos (by (first|rfl|assumption|(simp only [inI,sl]<;>omega))) (Ret.some (by simp)))
    · unfold st_slices_IndexFunc_Row_2_2
      (dsimp +instances only [gi0,gis,row1,rows1,int1,str1,bool1])
      (repeat(first|(refine Ret.pos ?_ ?_;(first|rfl|assumption|(simp only [inI,sl]<;>omega)))|(refine Ret.neg ?_ ?_;(first|rfl|assumption|(simp only [inI,sl]<;>omega)))))
      exact Ret.some rfl
    · rintro _ _ (⟨rfl, q1, x, q2, h1, h2, h3, rfl⟩ | ⟨rfl, rfl, h⟩)
      · exact Ret.pos rfl (Ret.some (.inl ⟨_, rfl, List.any_eq_true.2 ⟨x, by rw [h1]; simp, h3⟩⟩))
      · exact Ret.neg rfl (Ret.some (.inr ⟨rfl, List.any_eq_false.2 fun r hr' => by rw [h r hr']; simp⟩))
  · rintro g (⟨j, rfl, hx⟩ | ⟨rfl, hx⟩)
    · rw [hx]
      refine Ret.some ?_
      simp [gi0, int1, leI_eq]
    · rw [hx]
      exact Ret.some rfl
/-! ### The rows -/
def zRow : List G := [.i 0, .i 0]
theorem catRow_eq (a b : List (List G)) (h : a.length + b.length ≤ 1000) : F_slices_Concat_Row [.l [[.l a], [.l b]]] = some [.l (a ++ b)] := by
  have h := concF_eq (K := [.int .i64, .int .i64]) (Z := zRow) [a, b] (by simp [lenAll]; omega) (by simp)
  rw [show [a, b].flatten = a ++ b from by simp] at h
  exact h
def edg (x : List G) : List (List G) := [[.i (gi x 0).int], [.i (gi x 1).int]]
theorem edges_ok (l w rows : List (List G)) (hn : rows.length ≤ 1000) : RetL st_pileref2_rowsOf_3 [.l [], .l l, .l w, .l rows, .i (rows.length : Int), .i 0] fun c g => c = 0 ∧ g = [.l (rows.flatMap edg), .l l, .l w] := by
  have r := range_all (st := st_pileref2_rowsOf_3) (σ := List (List G)) (fun s i => [.l s, .l l, .l w, .l rows, .i (rows.length : Int), .i (i : Int)]) rows (fun s => (0, [.l s, .l l, .l w])) (fun s i => s = (rows.take i).flatMap edg ∧ s.length ≤ 2 * i) [] (by omega) ⟨rfl, by simp⟩
    (fun s i x ⟨s0, s1⟩ hi hx hm ht => by
      unfold st_pileref2_rowsOf_3
      (dsimp +instances only [gi0,gis,row1,rows1,int1,str1,bool1])
      simp only [Int.toNat_natCast, hx]
      (repeat(first|(refine Ret.pos ?_ ?_;(first|rfl|assumption|(simp only [inI,sl]<;>omega)))|(refine Ret.neg ?_ ?_;(first|rfl|assumption|(simp only [inI,sl]<;>omega)))))
      refine Ret.some ⟨s ++ edg x, by simp [edg], ?_, by simp [edg]; omega⟩
      rw [ht, List.flatMap_append, ← s0]
      simp)
    (fun s hI => by
      unfold st_pileref2_rowsOf_3
      (dsimp +instances only [gi0,gis,row1,rows1,int1,str1,bool1])
      (repeat(first|(refine Ret.pos ?_ ?_;(first|rfl|assumption|(simp only [inI,sl]<;>omega)))|(refine Ret.neg ?_ ?_;(first|rfl|assumption|(simp only [inI,sl]<;>omega)))))
      exact Ret.some rfl)
  refine r.mono ?_
  rintro _ _ ⟨s, ⟨q0, q1⟩, rfl, rfl⟩
  rw [List.take_length] at q0
  subst q0
  exact ⟨rfl, rfl⟩
theorem same_in {l : List (List G)} {a b n : Int} (hl : ∀ r ∈ l, ¬ (a < rLo r ∧ rLo r < b) ∧ ¬ (a < rHi r ∧ rHi r < b)) (h1 : a ≤ n) (h2 : n < b) : memR l n ↔ memR l a := by
  constructor
  · rintro ⟨r, hr, h3, h4⟩
    have := hl r hr
    exact ⟨r, hr, by omega, by omega⟩
  · rintro ⟨r, hr, h3, h4⟩
    have := hl r hr
    exact ⟨r, hr, by omega, by omega⟩
theorem rows_new (E acc l w : List (List G)) (k i a b : Int) (p : Int) (hi0 : 0 ≤ i) (hik : i + 1 < k) (hkn : k ≤ 100000) (hE : k ≤ (E.length : Int)) (ea : (gi (E.getD i.toNat []) 0).int = a) (eb : (gi (E.getD (i + 1).toNat []) 0).int = b) (hl : acc.length ≤ 10000) :
    tl_pileref2_rowsOf_17 [.l E, .l acc, .l l, .l w, .i k, .i i, .i p, .t false] = some (some 0, [.l E, .l (acc ++ [[.i a, .i b]]), .l l, .l w, .i k, .i i]) := by
  refine Ret.toEq ?_
  unfold tl_pileref2_rowsOf_17
  (dsimp +instances only [gi0,gis,row1,rows1,int1,str1,bool1])
  have ek : ((k.toNat : Nat) : Int) = k := by omega
  simp only [ek, Nat.zero_add, ea, eb]
  refine Ret.neg rfl ?_
  refine Ret.pos (by (first|rfl|assumption|(simp only [inI,sl]<;>omega))) (Ret.pos (by rw [decide_eq_true_eq]; omega) (Ret.pos (by (first|rfl|assumption|(simp only [inI,sl]<;>omega))) (Ret.pos (by (first|rfl|assumption|(simp only [inI,sl]<;>omega))) (Ret.pos (by rw [decide_eq_true_eq]; omega) (Ret.pos (by (first|rfl|assumption|(simp only [inI,sl]<;>omega))) (Ret.pos (by simp) (Ret.some rfl)))))))
theorem rows_old (E L l w : List (List G)) (c : List G) (hc : IsR c) (k i b : Int) (hi0 : 0 ≤ i) (hik : i + 1 < k) (hkn : k ≤ 100000) (hE : k ≤ (E.length : Int)) (eb : (gi (E.getD (i + 1).toNat []) 0).int = b) :
    tl_pileref2_rowsOf_17 [.l E, .l (L ++ [c]), .l l, .l w, .i k, .i i, .i (L.length : Int), .t true] = some (some 0, [.l E, .l (L ++ [[.i (rLo c), .i b]]), .l l, .l w, .i k, .i i]) := by
  obtain ⟨e1, e2, e3⟩ := snoc_last L c
  have hput : ∀ m : Int, putG [.int .i64, .int .i64] c 1 [.i m] = [.i (rLo c), .i m] := fun m => by
    rw [hc.1]
    rfl
  refine Ret.toEq ?_
  unfold tl_pileref2_rowsOf_17
  (dsimp +instances only [gi0,gis,row1,rows1,int1,str1,bool1])
  have ek : ((k.toNat : Nat) : Int) = k := by omega
  have hlen : (L ++ [c]).length = L.length + 1 := by simp
  simp only [ek, Nat.zero_add, eb, Int.toNat_natCast, e2, e3, hput]
  refine Ret.pos rfl ?_
  refine Ret.pos (by (first|rfl|assumption|(simp only [inI,sl]<;>omega))) (Ret.pos (by (first|rfl|assumption|(simp only [inI,sl]<;>omega))) (Ret.pos (by rw [decide_eq_true_eq]; omega) (Ret.pos (by rw [hlen]; (first|rfl|assumption|(simp only [inI,sl]<;>omega))) (Ret.pos (by simp) (Ret.pos (by simp) (Ret.some rfl))))))
theorem rowsOf_ok (l w : List (List G)) (hl : ∀ r ∈ l, IsR r) (hw : ∀ r ∈ w, IsR r) (hn : l.length + w.length ≤ 100) :
    Ret (F_pileref2_rowsOf [.l l, .l w]) fun g => ∃ out, g = [.l out] ∧ CanR out ∧ out.length ≤ 1000 ∧ ∀ n, memR out n ↔ memR l n ∧ ¬ memR w n := by
  have hedge : ∀ y ∈ (l ++ w).flatMap edg, One y := fun y hy => by
    obtain ⟨x, _, h⟩ := List.mem_flatMap.1 hy
    unfold edg at h
    simp only [List.mem_cons, List.not_mem_nil, or_false] at h
    rcases h with rfl | rfl <;> rfl
  have hel : ∀ q : List (List G), (q.flatMap edg).length = 2 * q.length := fun q => by
    induction q with
    | nil => rfl
    | cons x q ih => rw [List.flatMap_cons, List.length_append, ih]; simp [edg]; omega
  have hell := hel (l ++ w)
  rw [List.length_append] at hell
  obtain ⟨es, es1, es2, es3, es4, hsort, hslen, hcpt⟩ := edges_once ((l ++ w).flatMap edg) hedge (by omega)
  unfold F_pileref2_rowsOf
  (dsimp +instances only [gi0,gis,row1,rows1,int1,str1,bool1])
  refine Ret.call (Ret.eq (catRow_eq l w (by omega))) ?_
  rintro _ rfl
  (dsimp +instances only [gi0,gis,row1,rows1,int1,str1,bool1])
  refine Ret.loop (edges_ok l w (l ++ w) (by simp; omega)) rfl ?_
  rintro _ _ ⟨rfl, rfl⟩
  (dsimp +instances only [gi0,gis,row1,rows1,int1,str1,bool1])
  refine Ret.callb (Ret.eq hsort) (by (first|rfl|assumption|(simp only [inI,sl]<;>omega))) ?_
  rintro _ rfl
  (dsimp +instances only [gi0,gis,row1,rows1,int1,str1,bool1])
  refine Ret.callb hcpt (by rw [hslen]; simp) ?_
  rintro _ ⟨J, rfl, hJ⟩
  (dsimp +instances only [gi0,gis,row1,rows1,int1,str1,bool1])
  simp only [Int.toNat_natCast]
  have hE : ∀ i, i < es.length → (gi ((es ++ J).getD i []) 0).int = rLo (es.getD i []) := fun i hi => by
    have : (es ++ J).getD i [] = es.getD i [] := by
      rw [List.getD_eq_getElem?_getD, List.getD_eq_getElem?_getD, List.getElem?_append_left hi]
    rw [this]
  have hEl : es.length ≤ (es ++ J).length := by simp
  have rise : ∀ i j, i < j → j < es.length → rLo (es.getD i []) < rLo (es.getD j []) := fun i j hij hj => by
    have := List.pairwise_iff_getElem.1 es2 i j (by omega) hj hij
    simpa [List.getD_eq_getElem?_getD, hj, show i < es.length by omega] using this
  have place : ∀ n, (∃ x ∈ l ++ w, n = rLo x ∨ n = rHi x) → ∃ i, i < es.length ∧ rLo (es.getD i []) = n := fun n h => by
    obtain ⟨x, hx, h⟩ := h
    obtain ⟨y, hy, e⟩ := (es3 n).2 (by
      rcases h with h | h
      · exact ⟨[.i (gi x 0).int], List.mem_flatMap.2 ⟨x, hx, by simp [edg]⟩, h.symm⟩
      · exact ⟨[.i (gi x 1).int], List.mem_flatMap.2 ⟨x, hx, by simp [edg]⟩, h.symm⟩)
    obtain ⟨i, hi, rfl⟩ := List.mem_iff_getElem.1 hy
    exact ⟨i, hi, by simpa [List.getD_eq_getElem?_getD, hi] using e⟩
  have gap : ∀ i, i + 1 < es.length → ∀ x ∈ l ++ w, ¬ (rLo (es.getD i []) < rLo x ∧ rLo x < rLo (es.getD (i + 1) [])) ∧ ¬ (rLo (es.getD i []) < rHi x ∧ rHi x < rLo (es.getD (i + 1) [])) := by
    intro i hi x hx
    have key : ∀ n, (n = rLo x ∨ n = rHi x) → ¬ (rLo (es.getD i []) < n ∧ n < rLo (es.getD (i + 1) [])) := by
      rintro n hn ⟨h1, h2⟩
      obtain ⟨j, hj, e⟩ := place n ⟨x, hx, hn⟩
      rcases Nat.lt_trichotomy j i with h | h | h
      · have := rise j i h (by omega)
        omega
      · subst h
        omega
      · rcases Nat.lt_or_ge (i + 1) j with h' | h'
        · have := rise (i + 1) j h' hj
          omega
        · have : j = i + 1 := by omega
          subst this
          omega
    exact ⟨key _ (.inl rfl), key _ (.inr rfl)⟩
  have low : ∀ n, memR (l ++ w) n → ∃ i, i < es.length ∧ rLo (es.getD 0 []) ≤ n := fun n ⟨r, hr, h1, _⟩ => by
    obtain ⟨i, hi, e⟩ := place (rLo r) ⟨r, hr, .inl rfl⟩
    refine ⟨i, hi, ?_⟩
    rcases Nat.eq_zero_or_pos i with h | h
    · subst h
      omega
    · have := rise 0 i h hi
      omega
  have high : ∀ n, memR (l ++ w) n → n < rLo (es.getD (es.length - 1) []) := fun n ⟨r, hr, _, h1⟩ => by
    obtain ⟨i, hi, e⟩ := place (rHi r) ⟨r, hr, .inr rfl⟩
    rcases Nat.lt_or_ge i (es.length - 1) with h | h
    · have := rise i (es.length - 1) h (by omega)
      omega
    · have : i = es.length - 1 := by omega
      subst this
      omega
  have r := count_runs (st := st_pileref2_rowsOf_12) (σ := List (List G)) (fun s i => [.l (es ++ J), .l s, .l l, .l w, .i (es.length : Int), .i (i : Int)]) (es.length - 1) (fun s => (0, [.l s]))
    (fun s i => CanR s ∧ s.length ≤ i ∧ (∀ a ∈ s, rHi a ≤ rLo (es.getD i [])) ∧ ∀ n, memR s n ↔ (memR l n ∧ ¬ memR w n) ∧ n < rLo (es.getD i [])) (fun _ _ => False)
    (fun s i ⟨s0, s1, s2, s3⟩ hi => by
      have hi1 : i + 1 < es.length := by omega
      have eT : ((i : Int) + 1).toNat = i + 1 := by omega
      have hlt := rise i (i + 1) (by omega) hi1
      have inl : ∀ n, rLo (es.getD i []) ≤ n → n < rLo (es.getD (i + 1) []) → (memR l n ↔ memR l (rLo (es.getD i []))) := fun n h1 h2 => same_in (fun r hr => gap i hi1 r (List.mem_append_left _ hr)) h1 h2
      have inw : ∀ n, rLo (es.getD i []) ≤ n → n < rLo (es.getD (i + 1) []) → (memR w n ↔ memR w (rLo (es.getD i []))) := fun n h1 h2 => same_in (fun r hr => gap i hi1 r (List.mem_append_right _ hr)) h1 h2
      have skip : ¬ (memR l (rLo (es.getD i [])) ∧ ¬ memR w (rLo (es.getD i []))) → CanR s ∧ s.length ≤ i + 1 ∧ (∀ a ∈ s, rHi a ≤ rLo (es.getD (i + 1) [])) ∧ ∀ n, memR s n ↔ (memR l n ∧ ¬ memR w n) ∧ n < rLo (es.getD (i + 1) []) := fun hno => by
        refine ⟨s0, by omega, fun a ha => by have := s2 a ha; omega, fun n => ?_⟩
        rw [s3]
        constructor
        · rintro ⟨h1, h2⟩
          exact ⟨h1, by omega⟩
        · rintro ⟨h1, h2⟩
          refine ⟨h1, Int.not_le.1 fun hle => hno ?_⟩
          exact ⟨(inl n hle h2).1 h1.1, fun h => h1.2 ((inw n hle h2).2 h)⟩
      have take : memR l (rLo (es.getD i [])) ∧ ¬ memR w (rLo (es.getD i [])) → ∀ n, ((memR l n ∧ ¬ memR w n) ∧ n < rLo (es.getD i [])) ∨ (rLo (es.getD i []) ≤ n ∧ n < rLo (es.getD (i + 1) [])) ↔ (memR l n ∧ ¬ memR w n) ∧ n < rLo (es.getD (i + 1) []) := fun hy n => by
        constructor
        · rintro (⟨h1, h2⟩ | ⟨h1, h2⟩)
          · exact ⟨h1, by omega⟩
          · exact ⟨⟨(inl n h1 h2).2 hy.1, fun h => hy.2 ((inw n h1 h2).1 h)⟩, h2⟩
        · rintro ⟨h1, h2⟩
          by_cases hn : n < rLo (es.getD i [])
          · exact .inl ⟨h1, hn⟩
          · exact .inr ⟨by omega, h2⟩
      have hJl : (es ++ J).length ≤ 1000 := by omega
      have ea := hE i (by omega)
      have eb := hE (i + 1) hi1
      unfold st_pileref2_rowsOf_12
      (dsimp +instances only [gi0,gis,row1,rows1,int1,str1,bool1])
      simp only [Int.toNat_natCast, Nat.zero_add, eT, ea]
      generalize hA : rLo (es.getD i []) = A at *
      generalize hB : rLo (es.getD (i + 1) []) = B at *
      refine Ret.pos (by (first|rfl|assumption|(simp only [inI,sl]<;>omega))) (Ret.pos (by (first|rfl|assumption|(simp only [inI,sl]<;>omega))) (Ret.pos (by (first|rfl|assumption|(simp only [inI,sl]<;>omega))) (Ret.pos (by rw [decide_eq_true_eq]; omega) ?_)))
      refine Ret.call (Ret.eq (inRows_ok l A hl (by omega))) ?_
      rintro _ rfl
      (dsimp +instances only [gi0,gis,row1,rows1,int1,str1,bool1])
      cases h1 : l.any (atRow A) with
      | false =>
        have hno : ¬ memR l A := fun h => by rw [(atRow_any l A).2 h] at h1; cases h1
        refine Ret.pos rfl (Ret.pos (by (first|rfl|assumption|(simp only [inI,sl]<;>omega))) (Ret.pos (by simp) (Ret.some (.inl ⟨s, by simp, skip fun h => hno h.1⟩))))
      | true =>
      have hyl := (atRow_any l A).1 h1
      refine Ret.neg rfl (Ret.pos (by (first|rfl|assumption|(simp only [inI,sl]<;>omega))) (Ret.pos (by rw [decide_eq_true_eq]; omega) ?_))
      refine Ret.call (Ret.eq (inRows_ok w A hw (by omega))) ?_
      rintro _ rfl
      (dsimp +instances only [gi0,gis,row1,rows1,int1,str1,bool1])
      cases h2 : w.any (atRow A) with
      | true =>
        have hyw := (atRow_any w A).1 h2
        refine Ret.pos rfl (Ret.pos (by (first|rfl|assumption|(simp only [inI,sl]<;>omega))) (Ret.pos (by simp) (Ret.some (.inl ⟨s, by simp, skip fun h => h.2 hyw⟩))))
      | false =>
      have hnw : ¬ memR w A := fun h => by rw [(atRow_any w A).2 h] at h2; cases h2
      have take := take ⟨hyl, hnw⟩
      refine Ret.neg rfl (Ret.pos (by (first|rfl|assumption|(simp only [inI,sl]<;>omega))) ?_)
      have addN : CanR (s ++ [[.i A, .i B]]) → CanR (s ++ [[.i A, .i B]]) ∧ (s ++ [[G.i A, .i B]]).length ≤ i + 1 ∧ (∀ a ∈ s ++ [[.i A, .i B]], rHi a ≤ B) ∧ ∀ n, memR (s ++ [[.i A, .i B]]) n ↔ (memR l n ∧ ¬ memR w n) ∧ n < B := fun hc => by
        refine ⟨hc, by simp; omega, fun a ha => ?_, fun n => ?_⟩
        · rcases List.mem_append.1 ha with ha | ha
          · have := s2 a ha
            omega
          · rw [List.mem_singleton.1 ha]
            exact Int.le_refl B
        · rw [memR_snoc, s3, ← take n]
          exact Iff.rfl
      rcases List.eq_nil_or_concat s with rfl | ⟨L, c, e⟩
      · refine Ret.neg (by simp [sl]) ?_
        refine Ret.tail (P := fun x' g => x' = 0 ∧ g = [.l (es ++ J), .l ([] ++ [[.i A, .i B]]), .l l, .l w, .i (es.length : Int), .i (i : Int)]) ⟨_, rows_new (es ++ J) [] l w es.length i A B _ (by omega) (by omega) (by omega) (by omega) (by simpa using ea) (by rw [eT]; exact eb) (by simp), 0, rfl, rfl, rfl⟩ (by simp) ?_
        rintro _ _ ⟨rfl, rfl⟩
        (dsimp +instances only [gi0,gis,row1,rows1,int1,str1,bool1])
        simp only [Int.toNat_natCast]
        (repeat(first|(refine Ret.pos ?_ ?_;(first|rfl|assumption|(simp only [inI,sl]<;>omega)))|(refine Ret.neg ?_ ?_;(first|rfl|assumption|(simp only [inI,sl]<;>omega)))))
        exact Ret.some (.inl ⟨[] ++ [[.i A, .i B]], by simp, addN (by simpa using (canR_cons.2 ⟨isR_mk hlt, by simp, canR_nil⟩))⟩)
      · rw [List.concat_eq_append] at e
        subst e
        obtain ⟨e1, e2, e3⟩ := snoc_last L c
        have hlb : (((L ++ [c]).length : Nat) : Int) - 1 = (L.length : Int) := by simp
        simp only [hlb, Int.toNat_natCast, e2]
        have hcR := (canR_snoc.1 s0).2.2
        have hcA := s2 c (by simp)
        have hll : (L ++ [c]).length = L.length + 1 := by simp
        refine Ret.pos (by (first|rfl|assumption|(simp only [inI,sl]<;>omega))) (Ret.pos (by rw [hll]; (first|rfl|assumption|(simp only [inI,sl]<;>omega))) (Ret.pos (by simp) (Ret.pos (by (first|rfl|assumption|(simp only [inI,sl]<;>omega))) (Ret.pos (by rw [decide_eq_true_eq]; omega) ?_))))
        have b1 : (gi c 1).int = rHi c := rfl
        rw [b1]
        cases h8 : (rHi c == A) with
        | true =>
          have h8 : rHi c = A := by simpa using h8
          refine Ret.tail (P := fun x' g => x' = 0 ∧ g = [.l (es ++ J), .l (L ++ [[.i (rLo c), .i B]]), .l l, .l w, .i (es.length : Int), .i (i : Int)]) ⟨_, rows_old (es ++ J) L l w c hcR es.length i B (by omega) (by omega) (by omega) (by omega) (by rw [eT]; exact eb), 0, rfl, rfl, rfl⟩ (by simp) ?_
          rintro _ _ ⟨rfl, rfl⟩
          (dsimp +instances only [gi0,gis,row1,rows1,int1,str1,bool1])
          simp only [Int.toNat_natCast]
          (repeat(first|(refine Ret.pos ?_ ?_;(first|rfl|assumption|(simp only [inI,sl]<;>omega)))|(refine Ret.neg ?_ ?_;(first|rfl|assumption|(simp only [inI,sl]<;>omega)))))
          have hAx : IsR [.i A, .i B] := isR_mk hlt
          have hcl := hcR.2
          obtain ⟨g1, g2⟩ := canR_grow (x := [.i A, .i B]) s0 hAx (by show rLo c ≤ A; omega) (by show A ≤ rHi c; omega) (m := B) (by show B = max (rHi c) B; omega)
          refine Ret.some (.inl ⟨L ++ [[.i (rLo c), .i B]], by simp, g1, by simp at s1 ⊢; omega, fun a ha => ?_, fun n => ?_⟩)
          · rcases List.mem_append.1 ha with ha | ha
            · have := s2 a (List.mem_append_left _ ha)
              omega
            · rw [List.mem_singleton.1 ha]
              exact Int.le_refl B
          · rw [g2, s3, ← take n]
            exact Iff.rfl
        | false =>
          have h8 : ¬ rHi c = A := by simpa using h8
          refine Ret.tail (P := fun x' g => x' = 0 ∧ g = [.l (es ++ J), .l ((L ++ [c]) ++ [[.i A, .i B]]), .l l, .l w, .i (es.length : Int), .i (i : Int)]) ⟨_, rows_new (es ++ J) (L ++ [c]) l w es.length i A B _ (by omega) (by omega) (by omega) (by omega) (by simpa using ea) (by rw [eT]; exact eb) (by omega), 0, rfl, rfl, rfl⟩ (by simp) ?_
          rintro _ _ ⟨rfl, rfl⟩
          (dsimp +instances only [gi0,gis,row1,rows1,int1,str1,bool1])
          simp only [Int.toNat_natCast]
          (repeat(first|(refine Ret.pos ?_ ?_;(first|rfl|assumption|(simp only [inI,sl]<;>omega)))|(refine Ret.neg ?_ ?_;(first|rfl|assumption|(simp only [inI,sl]<;>omega)))))
          refine Ret.some (.inl ⟨(L ++ [c]) ++ [[.i A, .i B]], by simp, addN (canR_snoc.2 ⟨s0, fun a ha => ?_, isR_mk hlt⟩)⟩)
          show rHi a < A
          rcases List.mem_append.1 ha with ha | ha
          · have := (canR_snoc.1 s0).2.1 a ha
            have := hcR.2
            omega
          · rw [List.mem_singleton.1 ha]
            omega)
    (fun s hI => by
      have ei : ((es.length - 1 : Nat) : Int) + 1 < (es.length : Int) ↔ False := ⟨fun h => by omega, False.elim⟩
      unfold st_pileref2_rowsOf_12
      (dsimp +instances only [gi0,gis,row1,rows1,int1,str1,bool1])
      simp only [Int.toNat_natCast]
      have hlt : ltI (((es.length - 1 : Nat) : Int) + 1) (es.length : Int) = false := by
        rw [ltI_eq, decide_eq_false_iff_not]
        omega
      rw [hlt]
      (repeat(first|(refine Ret.pos ?_ ?_;(first|rfl|assumption|(simp only [inI,sl]<;>omega)))|(refine Ret.neg ?_ ?_;(first|rfl|assumption|(simp only [inI,sl]<;>omega)))))
      exact Ret.some rfl) (es.length - 1) [] 0 (by omega) ⟨canR_nil, by simp, by simp, fun n => ⟨fun h => (memR_nil n h).elim, fun ⟨⟨h1, _⟩, h2⟩ => by
        obtain ⟨i, hi, h3⟩ := low n ((memR_append _ _ _).2 (.inl h1))
        omega⟩⟩
  refine Ret.loop (r.to (by omega)) (by simp) ?_
  rintro _ _ (⟨s, ⟨q0, q1, q2, q3⟩, rfl, rfl⟩ | h)
  · (dsimp +instances only [gi0,gis,row1,rows1,int1,str1,bool1])
    refine Ret.pos (by simp) (Ret.some ⟨s, rfl, q0, by omega, fun n => ?_⟩)
    rw [q3]
    exact ⟨fun h => h.1, fun h => ⟨h, high n ((memR_append _ _ _).2 (.inl h.1))⟩⟩
  · exact h.elim
end
end Go.Proofs.SYtpbepppkchjccaaGreatDoor

namespace Go.Proofs.SYtpbepppkchjccaaGreatDoor
open Go Go.AL Go.Proofs
noncomputable section
theorem uses_ok (h d : Int) (h1 : b40 h) (h2 : 0 ≤ d) (h3 : d ≤ 1099511627776) : F_pileref2_uses [.i h, .i d] = some [.l [useR h d]] := by
  obtain ⟨g1, g2, g3⟩ := half_ok d h2
  unfold b40 at h1
  refine Ret.toEq ?_
  unfold F_pileref2_uses
  (dsimp +instances only [gi0,gis,row1,rows1,int1,str1,bool1])
  (repeat(first|(refine Ret.pos ?_ ?_;(first|rfl|assumption|(simp only [inI,sl]<;>omega)))|(refine Ret.neg ?_ ?_;(first|rfl|assumption|(simp only [inI,sl]<;>omega)))))
  exact Ret.some rfl
theorem refPerm_ok (segs : List (List G)) (c : ByteArray) (mode at_ : Int) (hs : ∀ z ∈ segs, Seg z) (hn : segs.length ≤ 500) : F_pileref2_permitted [.l segs, .s c, .i mode, .i at_] = some [.l (permR segs c mode at_)] := by
  refine Ret.toEq ?_
  unfold F_pileref2_permitted
  (dsimp +instances only [gi0,gis,row1,rows1,int1,str1,bool1])
  have r := range_all (st := st_pileref2_permitted_3) (σ := List (List G)) (fun s i => [.l s, .s c, .i mode, .i at_, .l segs, .i (segs.length : Int), .i (i : Int)]) segs (fun s => (0, [.l s])) (fun s i => s = permR (segs.take i) c mode at_ ∧ s.length ≤ i) [] (by omega) ⟨rfl, by simp⟩
    (fun s i x ⟨s0, s1⟩ hi hx hm ht => by
      obtain ⟨k, lo, hz, ms, f, t, hx', hc, hlo, hhi, hms, hml, hf, htt⟩ := hs x hm
      have fx : segFor c mode at_ x = ((k.toList == c.toList) && ((mode == 0) || hasI ms mode) && (leI f at_ && ltI at_ t)) := by
        rw [hx']
        rfl
      have yes : segFor c mode at_ x = true → s ++ [[.i lo, .i hz]] = permR (segs.take (i + 1)) c mode at_ ∧ (s ++ [[G.i lo, .i hz]]).length ≤ i + 1 := fun hy => by
        rw [ht, permR_snoc, hy, ← s0, hx']
        exact ⟨rfl, by simp; omega⟩
      have no : segFor c mode at_ x = false → s = permR (segs.take (i + 1)) c mode at_ ∧ s.length ≤ i + 1 := fun hy => by
        rw [ht, permR_snoc, hy, ← s0]
        exact ⟨by simp, by omega⟩
      unfold st_pileref2_permitted_3
      (dsimp +instances only [gi0,gis,row1,rows1,int1,str1,bool1])
      simp only [Int.toNat_natCast, hx]
      rw [hx'] at *
      (dsimp +instances only [gi0,gis,row1,rows1,int1,str1,bool1])
      refine Ret.pos (by (first|rfl|assumption|(simp only [inI,sl]<;>omega))) (Ret.pos (by (first|rfl|assumption|(simp only [inI,sl]<;>omega))) ?_)
      rw [fx] at yes no
      cases h1 : (k.toList == c.toList) with
      | false =>
        rw [h1] at no
        refine Ret.neg rfl ?_
        (repeat(first|(refine Ret.pos ?_ ?_;(first|rfl|assumption|(simp only [inI,sl]<;>omega)))|(refine Ret.neg ?_ ?_;(first|rfl|assumption|(simp only [inI,sl]<;>omega)))))
        exact Ret.some ⟨s, by simp, no rfl⟩
      | true =>
      rw [h1] at yes no
      refine Ret.pos rfl ?_
      cases h2 : leI f at_ with
      | false =>
        rw [h2] at no
        refine Ret.neg rfl ?_
        (repeat(first|(refine Ret.pos ?_ ?_;(first|rfl|assumption|(simp only [inI,sl]<;>omega)))|(refine Ret.neg ?_ ?_;(first|rfl|assumption|(simp only [inI,sl]<;>omega)))))
        exact Ret.some ⟨s, by simp, no (by simp)⟩
      | true =>
      rw [h2] at yes no
      refine Ret.pos rfl ?_
      cases h3 : ltI at_ t with
      | false =>
        rw [h3] at no
        refine Ret.neg rfl ?_
        (repeat(first|(refine Ret.pos ?_ ?_;(first|rfl|assumption|(simp only [inI,sl]<;>omega)))|(refine Ret.neg ?_ ?_;(first|rfl|assumption|(simp only [inI,sl]<;>omega)))))
        exact Ret.some ⟨s, by simp, no (by simp)⟩
      | true =>
      rw [h3] at yes no
      refine Ret.pos rfl ?_
      cases h4 : (mode == 0) with
      | true =>
        rw [h4] at yes
        refine Ret.pos rfl ?_
        (repeat(first|(refine Ret.pos ?_ ?_;(first|rfl|assumption|(simp only [inI,sl]<;>omega)))|(refine Ret.neg ?_ ?_;(first|rfl|assumption|(simp only [inI,sl]<;>omega)))))
        exact Ret.some ⟨_, by simp, yes rfl⟩
      | false =>
        rw [h4] at yes no
        refine Ret.neg rfl ?_
        refine Ret.call (Ret.eq (hasI_eq ms mode (by omega))) ?_
        rintro _ rfl
        (dsimp +instances only [gi0,gis,row1,rows1,int1,str1,bool1])
        cases h5 : hasI ms mode with
        | true =>
          rw [h5] at yes
          refine Ret.pos rfl ?_
          (repeat(first|(refine Ret.pos ?_ ?_;(first|rfl|assumption|(simp only [inI,sl]<;>omega)))|(refine Ret.neg ?_ ?_;(first|rfl|assumption|(simp only [inI,sl]<;>omega)))))
          exact Ret.some ⟨_, by simp, yes rfl⟩
        | false =>
          rw [h5] at no
          refine Ret.neg rfl ?_
          (repeat(first|(refine Ret.pos ?_ ?_;(first|rfl|assumption|(simp only [inI,sl]<;>omega)))|(refine Ret.neg ?_ ?_;(first|rfl|assumption|(simp only [inI,sl]<;>omega)))))
          exact Ret.some ⟨s, by simp, no rfl⟩)
    (fun s hI => by
      unfold st_pileref2_permitted_3
      (dsimp +instances only [gi0,gis,row1,rows1,int1,str1,bool1])
      (repeat(first|(refine Ret.pos ?_ ?_;(first|rfl|assumption|(simp only [inI,sl]<;>omega)))|(refine Ret.neg ?_ ?_;(first|rfl|assumption|(simp only [inI,sl]<;>omega)))))
      exact Ret.some rfl)
  refine Ret.loop r rfl ?_
  rintro _ _ ⟨s, ⟨q1, q2⟩, rfl, rfl⟩
  rw [List.take_length] at q1
  subst q1
  (dsimp +instances only [gi0,gis,row1,rows1,int1,str1,bool1])
  exact Ret.pos (by simp) (Ret.some rfl)
/-! ### What is wrong, as the reference says it -/
theorem hertzFault_ok (v : Int) : F_pilelaw2_hertzFault [.i v] = some [.i (bif inB v 0 30000000000 then 0 else 1)] := by
  refine Ret.toEq ?_
  unfold F_pilelaw2_hertzFault
  (dsimp +instances only [gi0,gis,row1,rows1,int1,str1,bool1])
  by_cases h : v < 0
  · refine Ret.pos (by (first|rfl|assumption|(simp only [inI,sl]<;>omega))) (Ret.call (Ret.eq (when_eq _ _)) ?_)
    rintro _ rfl
    rw [inB_not.2 (.inl h)]
    exact Ret.some rfl
  · refine Ret.neg (by (first|rfl|assumption|(simp only [inI,sl]<;>omega))) (Ret.call (Ret.eq (when_eq _ _)) ?_)
    rintro _ rfl
    by_cases h2 : 30000000000 < v
    · rw [inB_not.2 (.inr h2), ltI_eq, decide_eq_true h2]
      exact Ret.some rfl
    · rw [inB_iff.2 ⟨by omega, by omega⟩, ltI_eq, decide_eq_false h2]
      exact Ret.some rfl
theorem widthFault_ok (v : Int) : F_pilelaw2_widthFault [.i v] = some [.i (bif inB v 1 100000 then 0 else 1)] := by
  refine Ret.toEq ?_
  unfold F_pilelaw2_widthFault
  (dsimp +instances only [gi0,gis,row1,rows1,int1,str1,bool1])
  by_cases h : v < 1
  · refine Ret.pos (by (first|rfl|assumption|(simp only [inI,sl]<;>omega))) (Ret.call (Ret.eq (when_eq _ _)) ?_)
    rintro _ rfl
    rw [inB_not.2 (.inl h)]
    exact Ret.some rfl
  · refine Ret.neg (by (first|rfl|assumption|(simp only [inI,sl]<;>omega))) (Ret.call (Ret.eq (when_eq _ _)) ?_)
    rintro _ rfl
    by_cases h2 : 100000 < v
    · rw [inB_not.2 (.inr h2), ltI_eq, decide_eq_true h2]
      exact Ret.some rfl
    · rw [inB_iff.2 ⟨by omega, by omega⟩, ltI_eq, decide_eq_false h2]
      exact Ret.some rfl
theorem modeFault_ok (v : Int) : F_pilelaw2_modeFault [.i v] = some [.i (bif inB v 1 3 then 0 else 4)] := by
  refine Ret.toEq ?_
  unfold F_pilelaw2_modeFault
  (dsimp +instances only [gi0,gis,row1,rows1,int1,str1,bool1])
  by_cases h : v < 1
  · refine Ret.pos (by (first|rfl|assumption|(simp only [inI,sl]<;>omega))) (Ret.call (Ret.eq (when_eq _ _)) ?_)
    rintro _ rfl
    rw [inB_not.2 (.inl h)]
    exact Ret.some rfl
  · refine Ret.neg (by (first|rfl|assumption|(simp only [inI,sl]<;>omega))) (Ret.call (Ret.eq (when_eq _ _)) ?_)
    rintro _ rfl
    by_cases h2 : 3 < v
    · rw [inB_not.2 (.inr h2), ltI_eq, decide_eq_true h2]
      exact Ret.some rfl
    · rw [inB_iff.2 ⟨by omega, by omega⟩, ltI_eq, decide_eq_false h2]
      exact Ret.some rfl
theorem momentFault_ok (t : Int) : F_pileref2_MomentFault [.i t] = some [.i (bif inB t 0 345686399999 then 0 else 1)] := by
  have e : F_pileref2_Moment [.i t] = some [.t (inB t 0 345686399999)] := by
    unfold F_pileref2_Moment
    (dsimp +instances only [gi0,gis,row1,rows1,int1,str1,bool1])
    rw [in_eq]
    rfl
  refine Ret.toEq ?_
  unfold F_pileref2_MomentFault
  (dsimp +instances only [gi0,gis,row1,rows1,int1,str1,bool1])
  refine Ret.call (Ret.eq e) ?_
  rintro _ rfl
  (dsimp +instances only [gi0,gis,row1,rows1,int1,str1,bool1])
  cases inB t 0 345686399999 with
  | true => exact Ret.neg rfl (Ret.some rfl)
  | false => exact Ret.pos rfl (Ret.some rfl)
theorem nameFault_ok {c : ByteArray} (hc : c ∈ classes) : F_pilelaw2_nameFault [.s c] = some [.i (bif okClass c then 0 else 5)] := by
  refine Ret.toEq ?_
  unfold F_pilelaw2_nameFault
  (dsimp +instances only [gi0,gis,row1,rows1,int1,str1,bool1])
  refine Ret.call (Ret.eq (class_eq hc)) ?_
  rintro _ rfl
  (dsimp +instances only [gi0,gis,row1,rows1,int1,str1,bool1])
  refine Ret.call (Ret.eq (when_eq _ _)) ?_
  rintro _ rfl
  cases okClass c <;> exact Ret.some rfl
theorem e_first (x : Int) (q : List Int) : firstE (x :: q) = if x ≠ 0 then x else firstE q := by
  show (bif x != 0 then x else firstE q) = _
  by_cases h : x = 0
  · simp [h]
  · have e : (x != 0) = true := by simpa using h
    rw [e, if_pos h]
    rfl
theorem e_none : firstE [] = 0 := rfl
theorem mayFlt_eq (segs : List (List G)) (c : ByteArray) (hz width mode at_ : Int) :
    firstE [firstE [faultSegs segs, bif okClass c then 0 else 5], bif inB hz 0 30000000000 then 0 else 1, bif inB width 1 100000 then 0 else 1, bif inB mode 1 3 then 0 else 4, bif inB at_ 0 345686399999 then 0 else 1] = mayFlt segs c hz width mode at_ := by
  unfold mayFlt
  simp only [e_first, e_none]
  by_cases h : faultSegs segs = 0
  · simp only [h]
    cases okClass c <;> cases inB hz 0 30000000000 <;> cases inB width 1 100000 <;> cases inB mode 1 3 <;> cases inB at_ 0 345686399999 <;> simp
  · simp [h]
def winFlt (segs : List (List G)) (c : ByteArray) (mode at_ : Int) : Int :=
  if faultSegs segs ≠ 0 then faultSegs segs else if okClass c = false then 5 else if inB mode 1 3 = false then 4 else if inB at_ 0 345686399999 = false then 1 else 0
theorem winFlt_eq (segs : List (List G)) (c : ByteArray) (mode at_ : Int) :
    firstE [firstE [faultSegs segs, bif okClass c then 0 else 5], bif inB mode 1 3 then 0 else 4, bif inB at_ 0 345686399999 then 0 else 1] = winFlt segs c mode at_ := by
  unfold winFlt
  simp only [e_first, e_none]
  by_cases h : faultSegs segs = 0
  · simp only [h]
    cases okClass c <;> cases inB mode 1 3 <;> cases inB at_ 0 345686399999 <;> simp
  · simp [h]
def lostFlt (segs : List (List G)) (c : ByteArray) (at_ to_ : Int) : Int :=
  if faultSegs segs ≠ 0 then faultSegs segs else if okClass c = false then 5 else if inB at_ 0 345686399999 = false then 1 else if inB to_ 0 345686399999 = false then 1 else 0
theorem lostFlt_eq (segs : List (List G)) (c : ByteArray) (at_ to_ : Int) :
    firstE [firstE [faultSegs segs, bif okClass c then 0 else 5], bif inB at_ 0 345686399999 then 0 else 1, bif inB to_ 0 345686399999 then 0 else 1] = lostFlt segs c at_ to_ := by
  unfold lostFlt
  simp only [e_first, e_none]
  by_cases h : faultSegs segs = 0
  · simp only [h]
    cases okClass c <;> cases inB at_ 0 345686399999 <;> cases inB to_ 0 345686399999 <;> simp
  · simp [h]
/-! ### Windows and Lost -/
theorem windows_ok (segs : List (List G)) (c : ByteArray) (mode at_ : Int) (hs : ∀ z ∈ segs, Seg z) (hsn : segs.length ≤ 500) (hc : c ∈ classes) :
    Ret (F_band_Windows [.l segs, .s c, .i mode, .i at_]) fun g => ∃ out, g = [.l out, .i (winFlt segs c mode at_)] ∧ (winFlt segs c mode at_ ≠ 0 → out = []) ∧ (winFlt segs c mode at_ = 0 → faultSegs segs = 0 ∧ CanR out ∧ out.length ≤ 500 ∧ ∀ n, memR out n ↔ memR (permR segs c mode at_) n) := by
  unfold F_band_Windows winFlt
  (dsimp +instances only [gi0,gis,row1,rows1,int1,str1,bool1])
  refine Ret.call (Ret.eq (checkSegs_ok segs hs)) ?_
  rintro _ rfl
  (dsimp +instances only [gi0,gis,row1,rows1,int1,str1,bool1])
  by_cases h1 : faultSegs segs = 0
  rotate_left
  · rw [if_pos h1]
    exact Ret.pos (by simpa using h1) (Ret.some ⟨[], rfl, fun _ => rfl, fun h => (h1 h).elim⟩)
  rw [if_neg (by simpa using h1)]
  refine Ret.neg (by simpa using h1) ?_
  refine Ret.call (Ret.eq (isClass_eq hc)) ?_
  rintro _ rfl
  (dsimp +instances only [gi0,gis,row1,rows1,int1,str1,bool1])
  cases okClass c with
  | false => exact Ret.pos rfl (Ret.some ⟨[], rfl, fun _ => rfl, fun h => by cases h⟩)
  | true =>
  refine Ret.neg rfl ?_
  refine Ret.call (Ret.eq (isModeX _)) ?_
  rintro _ rfl
  (dsimp +instances only [gi0,gis,row1,rows1,int1,str1,bool1])
  cases inB mode 1 3 with
  | false => exact Ret.pos rfl (Ret.some ⟨[], rfl, fun _ => rfl, fun h => by cases h⟩)
  | true =>
  refine Ret.neg rfl ?_
  refine Ret.call (Ret.eq (isMomentX _)) ?_
  rintro _ rfl
  (dsimp +instances only [gi0,gis,row1,rows1,int1,str1,bool1])
  cases inB at_ 0 345686399999 with
  | false => exact Ret.pos rfl (Ret.some ⟨[], rfl, fun _ => rfl, fun h => by cases h⟩)
  | true =>
  refine Ret.neg rfl ?_
  refine Ret.call (permitted_ok segs c mode at_ hs hsn h1) ?_
  rintro _ ⟨P, rfl, p1, p2, p3⟩
  exact Ret.some ⟨P, rfl, fun h => (h rfl).elim, fun _ => ⟨h1, p1, by omega, p3⟩⟩
theorem lost_ok (segs : List (List G)) (c : ByteArray) (at_ to_ : Int) (hs : ∀ z ∈ segs, Seg z) (hsn : segs.length ≤ 500) (hc : c ∈ classes) :
    Ret (F_band_Lost [.l segs, .s c, .i at_, .i to_]) fun g => ∃ out, g = [.l out, .i (lostFlt segs c at_ to_)] ∧ (lostFlt segs c at_ to_ ≠ 0 → out = []) ∧ (lostFlt segs c at_ to_ = 0 → faultSegs segs = 0 ∧ CanR out ∧ out.length ≤ 300000 ∧ ∀ n, memR out n ↔ memR (permR segs c 0 at_) n ∧ ¬ memR (permR segs c 0 to_) n) := by
  unfold F_band_Lost lostFlt
  (dsimp +instances only [gi0,gis,row1,rows1,int1,str1,bool1])
  refine Ret.call (Ret.eq (checkSegs_ok segs hs)) ?_
  rintro _ rfl
  (dsimp +instances only [gi0,gis,row1,rows1,int1,str1,bool1])
  by_cases h1 : faultSegs segs = 0
  rotate_left
  · rw [if_pos h1]
    exact Ret.pos (by simpa using h1) (Ret.some ⟨[], rfl, fun _ => rfl, fun h => (h1 h).elim⟩)
  rw [if_neg (by simpa using h1)]
  refine Ret.neg (by simpa using h1) ?_
  refine Ret.call (Ret.eq (isClass_eq hc)) ?_
  rintro _ rfl
  (dsimp +instances only [gi0,gis,row1,rows1,int1,str1,bool1])
  cases okClass c with
  | false => exact Ret.pos rfl (Ret.some ⟨[], rfl, fun _ => rfl, fun h => by cases h⟩)
  | true =>
  refine Ret.neg rfl ?_
  refine Ret.call (Ret.eq (isMomentX _)) ?_
  rintro _ rfl
  (dsimp +instances only [gi0,gis,row1,rows1,int1,str1,bool1])
  cases inB at_ 0 345686399999 with
  | false => exact Ret.pos rfl (Ret.some ⟨[], rfl, fun _ => rfl, fun h => by cases h⟩)
  | true =>
  refine Ret.neg rfl ?_
  refine Ret.call (Ret.eq (isMomentX _)) ?_
  rintro _ rfl
  (dsimp +instances only [gi0,gis,row1,rows1,int1,str1,bool1])
  cases inB to_ 0 345686399999 with
  | false => exact Ret.pos rfl (Ret.some ⟨[], rfl, fun _ => rfl, fun h => by cases h⟩)
  | true =>
  refine Ret.neg rfl ?_
  refine Ret.call (permitted_ok segs c 0 at_ hs hsn h1) ?_
  rintro _ ⟨P, rfl, p1, p2, p3⟩
  (dsimp +instances only [gi0,gis,row1,rows1,int1,str1,bool1])
  refine Ret.call (permitted_ok segs c 0 to_ hs hsn h1) ?_
  rintro _ ⟨Q, rfl, q1, q2, q3⟩
  (dsimp +instances only [gi0,gis,row1,rows1,int1,str1,bool1])
  refine Ret.call (without_ok P Q p1 q1 (by omega) (by omega)) ?_
  rintro _ ⟨out, rfl, o1, o2, o3⟩
  refine Ret.some ⟨out, rfl, fun h => (h rfl).elim, fun _ => ⟨h1, o1, o2, fun n => ?_⟩⟩
  rw [o3, p3, q3]
/-! ### What the reference says -/
theorem windowsOf_ok (segs : List (List G)) (c : ByteArray) (mode at_ : Int) (hs : ∀ z ∈ segs, Seg z) (hsn : segs.length ≤ 10) (h : faultSegs segs = 0) :
    Ret (F_pileref2_WindowsOf [.l segs, .s c, .i mode, .i at_]) fun g => ∃ out, g = [.l out] ∧ CanR out ∧ ∀ n, memR out n ↔ memR (permR segs c mode at_) n := by
  have hl := permR_length segs c mode at_
  unfold F_pileref2_WindowsOf
  (dsimp +instances only [gi0,gis,row1,rows1,int1,str1,bool1])
  refine Ret.call (Ret.eq (refPerm_ok segs c mode at_ hs (by omega))) ?_
  rintro _ rfl
  (dsimp +instances only [gi0,gis,row1,rows1,int1,str1,bool1])
  refine Ret.call (rowsOf_ok _ [] (fun r hr => (permR_row hs h r hr).1.1) (by simp) (by simp; omega)) ?_
  rintro _ ⟨out, rfl, o1, _, o2⟩
  refine Ret.some ⟨out, rfl, o1, fun n => ?_⟩
  rw [o2]
  exact ⟨fun h => h.1, fun h => ⟨h, memR_nil n⟩⟩
theorem lostOf_ok (segs : List (List G)) (c : ByteArray) (at_ to_ : Int) (hs : ∀ z ∈ segs, Seg z) (hsn : segs.length ≤ 10) (h : faultSegs segs = 0) :
    Ret (F_pileref2_LostOfClass [.l segs, .s c, .i at_, .i to_]) fun g => ∃ out, g = [.l out] ∧ CanR out ∧ out.length ≤ 1000 ∧ ∀ n, memR out n ↔ memR (permR segs c 0 at_) n ∧ ¬ memR (permR segs c 0 to_) n := by
  have hl := permR_length segs c 0 at_
  have hl2 := permR_length segs c 0 to_
  unfold F_pileref2_LostOfClass
  (dsimp +instances only [gi0,gis,row1,rows1,int1,str1,bool1])
  refine Ret.call (Ret.eq (refPerm_ok segs c 0 at_ hs (by omega))) ?_
  rintro _ rfl
  (dsimp +instances only [gi0,gis,row1,rows1,int1,str1,bool1])
  refine Ret.call (Ret.eq (refPerm_ok segs c 0 to_ hs (by omega))) ?_
  rintro _ rfl
  (dsimp +instances only [gi0,gis,row1,rows1,int1,str1,bool1])
  refine Ret.call (rowsOf_ok _ _ (fun r hr => (permR_row hs h r hr).1.1) (fun r hr => (permR_row hs h r hr).1.1) (by omega)) ?_
  rintro _ ⟨out, rfl, o1, o3, o2⟩
  exact Ret.some ⟨out, rfl, o1, o3, o2⟩
theorem mayFor_ok (segs : List (List G)) (c : ByteArray) (hz width mode at_ : Int) (hs : ∀ z ∈ segs, Seg z) (hsn : segs.length ≤ 10) (h : faultSegs segs = 0) (h1 : b40 hz) (h2 : 1 ≤ width) (h3 : width ≤ 100000) :
    Ret (F_pileref2_MayFor [.l segs, .s c, .i hz, .i width, .i mode, .i at_]) fun g => ∃ b, g = [.t b] ∧ (b = true ↔ allP segs c hz width mode at_) := by
  have hl := permR_length segs c mode at_
  unfold F_pileref2_MayFor
  (dsimp +instances only [gi0,gis,row1,rows1,int1,str1,bool1])
  refine Ret.call (Ret.eq (uses_ok hz width h1 (by omega) (by omega))) ?_
  rintro _ rfl
  (dsimp +instances only [gi0,gis,row1,rows1,int1,str1,bool1])
  refine Ret.call (Ret.eq (refPerm_ok segs c mode at_ hs (by omega))) ?_
  rintro _ rfl
  (dsimp +instances only [gi0,gis,row1,rows1,int1,str1,bool1])
  have hu : gEta [.int .i64, .int .i64] (useR hz width) = useR hz width := rfl
  have hur : IsR (useR hz width) := isR_mk (by omega)
  rw [hu]
  refine Ret.call (rowsOf_ok [useR hz width] _ (fun r hr => by rw [List.mem_singleton.1 hr]; exact hur) (fun r hr => (permR_row hs h r hr).1.1) (by simp; omega)) ?_
  rintro _ ⟨out, rfl, o1, _, o2⟩
  refine Ret.some ⟨_, rfl, ?_⟩
  (dsimp +instances only [gi0,gis,row1,rows1,int1,str1,bool1])
  rw [beq_iff_eq]
  constructor
  · intro h0 m h4 h5
    have h0 : out = [] := List.eq_nil_of_length_eq_zero (by omega)
    subst h0
    refine Classical.byContradiction fun hno => memR_nil m ((o2 m).2 ⟨(memR_one _ _).2 ⟨h4, h5⟩, hno⟩)
  · intro hall
    cases out with
    | nil => rfl
    | cons r q =>
      have hr := (canR_cons.1 o1).1
      obtain ⟨h4, h5⟩ := (o2 (rLo r)).1 ⟨r, by simp, Int.le_refl _, hr.2⟩
      obtain ⟨h6, h7⟩ := (memR_one _ _).1 h4
      exact (h5 (hall _ h6 h7)).elim
theorem equalCan (a : List (List G)) (h : CanR a) (hn : a.length < 100000) : F_slices_Equal_Row [.l a, .l a] = some [.t true] :=
  equalRow_refl a (fun r hr => ⟨_, _, (h.1 r hr).1⟩) hn
/-! ### The law -/
theorem law_tail14 (segs r y : List (List G)) (c : ByteArray) (hz width mode at_ to_ e f g one two trd : Int) (ok : Bool) (hs : ∀ z ∈ segs, Seg z) (hsn : segs.length ≤ 10) (hr : CanR r) (hrl : r.length < 100000) (hy : CanR y) (hyl : y.length < 100000) (he : e = one) (hf : f = two) (hg : g = trd)
    (hok : one = 0 → Ret (F_pileref2_MayFor [.l segs, .s c, .i hz, .i width, .i mode, .i at_]) fun g => g = [.t ok]) (hno : one ≠ 0 → ok = false) :
    Ret (tl_pilelaw2_SegmentsPermit_14 [.l segs, .s c, .i hz, .i width, .i mode, .i at_, .t ok, .i e, .l r, .i f, .l y, .i g, .i one, .i two, .i trd, .l r, .l y]) fun o => ∃ x, o.1 = some x ∧ x = 0 ∧ o.2 = [.t true] := by
  subst he hf hg
  unfold tl_pilelaw2_SegmentsPermit_14
  (dsimp +instances only [gi0,gis,row1,rows1,int1,str1,bool1])
  refine Ret.call (Ret.eq (checkSegs_ok segs hs)) ?_
  rintro _ rfl
  refine Ret.call (Ret.eq (segsFault_ok segs hs)) ?_
  rintro _ rfl
  (dsimp +instances only [gi0,gis,row1,rows1,int1,str1,bool1])
  refine Ret.pos (by simp) (Ret.pos (by simp) ?_)
  have fin : Ret (callF (F_slices_Equal_Row [.l r, .l r]) fun g33 => bif (gi g33 0).bool then bif g == g then callF (F_slices_Equal_Row [.l y, .l y]) fun g34 => bif (gi g34 0).bool then callF (F_pilelaw2_banded []) fun g35 => some (some 0, [G.t (gi g35 0).bool]) else some (some 0, [.t false]) else some (some 0, [.t false]) else some (some 0, [.t false])) fun o => ∃ x, o.1 = some x ∧ x = 0 ∧ o.2 = [.t true] := by
    refine Ret.call (Ret.eq (equalCan r hr hrl)) ?_
    rintro _ rfl
    refine Ret.pos rfl (Ret.pos (by simp) ?_)
    refine Ret.call (Ret.eq (equalCan y hy hyl)) ?_
    rintro _ rfl
    refine Ret.pos rfl ?_
    refine Ret.call (Ret.eq (rfl : F_pilelaw2_banded [] = some [.t true])) ?_
    rintro _ rfl
    exact Ret.some ⟨0, rfl, rfl, rfl⟩
  by_cases h0 : e = 0
  · refine Ret.pos (by simpa using h0) ?_
    refine Ret.call (hok h0) ?_
    rintro _ rfl
    (dsimp +instances only [gi0,gis,row1,rows1,int1,str1,bool1])
    refine Ret.pos (by simp) (Ret.pos (by simp) fin)
  · have := hno h0
    subst this
    refine Ret.neg (by simpa using h0) (Ret.pos rfl (Ret.pos (by simp) fin))
theorem r_Near (l : List (List G)) (a : Int) (ha : 0 ≤ a) (ha1 : a ≤ 100000) : Ret (F_pilemake_Stream_Near [.l l, .i a]) fun g => ∃ b v, g = [.l l, .i b, .i v] ∧ a ≤ b ∧ b ≤ a + 3 ∧ b40 v := by
  unfold F_pilemake_Stream_Near
  (dsimp +instances only [gi0,gis,row1,rows1,int1,str1,bool1])
  refine Ret.call (r_Flip l a 20 ha (by omega) (by omega) (by omega)) ?_
  rintro _ ⟨f, rfl⟩
  (dsimp +instances only [gi0,gis,row1,rows1,int1,str1,bool1])
  cases f with
  | true =>
    refine Ret.pos rfl ?_
    refine Ret.call (r_OddX l _ 0 30000000000 (by omega) (by omega) (by omega) (by omega) (by omega)) ?_
    rintro _ ⟨v, rfl, hv⟩
    (dsimp +instances only [gi0,gis,row1,rows1,int1,str1,bool1])
    exact Ret.some ⟨_, v, rfl, by omega, by omega, hv⟩
  | false =>
    refine Ret.neg rfl ?_
    refine Ret.call (r_RangeX l _ 0 330 (by omega) (by omega) (by omega) (by omega) (by omega)) ?_
    rintro _ ⟨v, rfl, hv0, hv1⟩
    (dsimp +instances only [gi0,gis,row1,rows1,int1,str1,bool1])
    exact Ret.some ⟨_, v, rfl, by omega, by omega, by omega, by omega⟩
theorem r_Wide (l : List (List G)) (a : Int) (ha : 0 ≤ a) (ha1 : a ≤ 900000) : Ret (F_pilemake_Stream_Wide [.l l, .i a]) fun g => ∃ v, g = [.l l, .i (a + 1), .i v] ∧ 0 ≤ v ∧ v ≤ 100001 := by
  unfold F_pilemake_Stream_Wide
  (dsimp +instances only [gi0,gis,row1,rows1,int1,str1,bool1])
  refine Ret.call (r_PickB 0 100001 l a _ ha (by omega) (by kernel_rfl) (by kernel_rfl)) ?_
  rintro _ ⟨v, rfl, hv0, hv1⟩
  exact Ret.some ⟨v, rfl, hv0, hv1⟩
theorem may_flt0 {segs : List (List G)} {c : ByteArray} {hz width mode at_ : Int} (h : mayFlt segs c hz width mode at_ = 0) : faultSegs segs = 0 ∧ 1 ≤ width ∧ width ≤ 100000 := by
  unfold mayFlt at h
  by_cases h1 : faultSegs segs = 0
  · rw [if_neg (by simpa using h1)] at h
    split at h
    · cases h
    · split at h
      · cases h
      · split at h
        · cases h
        · rename_i h2
          have := inB_iff.1 (by simpa using h2)
          exact ⟨h1, this.1, this.2⟩
  · rw [if_pos h1] at h
    exact (h1 h).elim
theorem segmentsPermit_data (rows : List (List G)) : F_pilelaw2_SegmentsPermit [.l rows] = some [.t true] := by
  refine Ret.toEq ?_
  unfold F_pilelaw2_SegmentsPermit
  (dsimp +instances only [gi0,gis,row1,rows1,int1,str1,bool1])
  refine Ret.call (r_Segments rows 0 (by omega) (by omega)) ?_
  rintro _ ⟨a1, segs, rfl, ha0, ha1, hs, hsn⟩
  (dsimp +instances only [gi0,gis,row1,rows1,int1,str1,bool1])
  refine Ret.call (r_SomeB classes rows _ _ (by omega) (by omega) (by kernel_rfl) (by kernel_rfl)) ?_
  rintro _ ⟨c, rfl, hc⟩
  (dsimp +instances only [gi0,gis,row1,rows1,int1,str1,bool1])
  refine Ret.call (r_Near rows _ (by omega) (by omega)) ?_
  rintro _ ⟨a2, hz, rfl, hb0, hb1, hhz⟩
  (dsimp +instances only [gi0,gis,row1,rows1,int1,str1,bool1])
  refine Ret.call (r_Wide rows _ (by omega) (by omega)) ?_
  rintro _ ⟨width, rfl, hw0, hw1⟩
  (dsimp +instances only [gi0,gis,row1,rows1,int1,str1,bool1])
  refine Ret.call (r_PickB 0 4 rows _ _ (by omega) (by omega) (by kernel_rfl) (by kernel_rfl)) ?_
  rintro _ ⟨mode, rfl, hm0, hm1⟩
  (dsimp +instances only [gi0,gis,row1,rows1,int1,str1,bool1])
  refine Ret.call (r_PickB (-1) 200 rows _ _ (by omega) (by omega) (by kernel_rfl) (by kernel_rfl)) ?_
  rintro _ ⟨at_, rfl, ht0, ht1⟩
  (dsimp +instances only [gi0,gis,row1,rows1,int1,str1,bool1])
  refine Ret.call (r_PickB (-1) 2000 rows _ _ (by omega) (by omega) (by kernel_rfl) (by kernel_rfl)) ?_
  rintro _ ⟨to_, rfl, hto0, hto1⟩
  (dsimp +instances only [gi0,gis,row1,rows1,int1,str1,bool1])
  refine Ret.call (may_ok segs c hz width mode at_ hs (by omega) hc) ?_
  rintro _ ⟨ok, rfl, hok⟩
  (dsimp +instances only [gi0,gis,row1,rows1,int1,str1,bool1])
  refine Ret.call (windows_ok segs c mode at_ hs (by omega) hc) ?_
  rintro _ ⟨r, rfl, hr1, hr2⟩
  (dsimp +instances only [gi0,gis,row1,rows1,int1,str1,bool1])
  refine Ret.call (lost_ok segs c at_ to_ hs (by omega) hc) ?_
  rintro _ ⟨y, rfl, hy1, hy2⟩
  (dsimp +instances only [gi0,gis,row1,rows1,int1,str1,bool1])
  refine Ret.call (Ret.eq (segsFault_ok segs hs)) ?_
  rintro _ rfl
  refine Ret.call (Ret.eq (nameFault_ok hc)) ?_
  rintro _ rfl
  (dsimp +instances only [gi0,gis,row1,rows1,int1,str1,bool1])
  refine Ret.call (Ret.eq (errs_eq [_, _] (by simp))) ?_
  rintro _ rfl
  refine Ret.call (Ret.eq (hertzFault_ok hz)) ?_
  rintro _ rfl
  refine Ret.call (Ret.eq (widthFault_ok width)) ?_
  rintro _ rfl
  refine Ret.call (Ret.eq (modeFault_ok mode)) ?_
  rintro _ rfl
  refine Ret.call (Ret.eq (momentFault_ok at_)) ?_
  rintro _ rfl
  (dsimp +instances only [gi0,gis,row1,rows1,int1,str1,bool1])
  refine Ret.call (Ret.eq (errs_eq [_, _, _, _, _] (by simp))) ?_
  rintro _ rfl
  refine Ret.call (Ret.eq (modeFault_ok mode)) ?_
  rintro _ rfl
  refine Ret.call (Ret.eq (momentFault_ok at_)) ?_
  rintro _ rfl
  (dsimp +instances only [gi0,gis,row1,rows1,int1,str1,bool1])
  refine Ret.call (Ret.eq (errs_eq [_, _, _] (by simp))) ?_
  rintro _ rfl
  refine Ret.call (Ret.eq (momentFault_ok at_)) ?_
  rintro _ rfl
  refine Ret.call (Ret.eq (momentFault_ok to_)) ?_
  rintro _ rfl
  (dsimp +instances only [gi0,gis,row1,rows1,int1,str1,bool1])
  refine Ret.call (Ret.eq (errs_eq [_, _, _] (by simp))) ?_
  rintro _ rfl
  (dsimp +instances only [gi0,gis,row1,rows1,int1,str1,bool1])
  rw [mayFlt_eq, winFlt_eq, lostFlt_eq]
  have hrc : CanR r ∧ r.length < 100000 := by
    by_cases h : winFlt segs c mode at_ = 0
    · obtain ⟨_, h1, h2, _⟩ := hr2 h
      exact ⟨h1, by omega⟩
    · rw [hr1 h]
      exact ⟨canR_nil, by simp⟩
  have hok1 : mayFlt segs c hz width mode at_ = 0 → Ret (F_pileref2_MayFor [.l segs, .s c, .i hz, .i width, .i mode, .i at_]) fun g => g = [.t ok] := fun h => by
    obtain ⟨h1, h2, h3⟩ := may_flt0 h
    refine (mayFor_ok segs c hz width mode at_ hs (by omega) h1 hhz h2 h3).mono ?_
    rintro _ ⟨b, rfl, hb⟩
    have : (b = true ↔ ok = true) := by
      rw [hb, hok]
      exact ⟨fun h' => ⟨h, h'⟩, fun h' => h'.2⟩
    rw [Bool.eq_iff_iff.2 this]
  have hno : mayFlt segs c hz width mode at_ ≠ 0 → ok = false := fun h => by
    cases ok with
    | false => rfl
    | true => exact (h (hok.1 rfl).1).elim
  have tlw : ∀ wy0 : List (List G), wy0 = [] → Ret (tl_pilelaw2_SegmentsPermit_12 [.l segs, .s c, .i hz, .i width, .i mode, .i at_, .i to_, .t ok, .i (mayFlt segs c hz width mode at_), .l r, .i (winFlt segs c mode at_), .l y, .i (lostFlt segs c at_ to_), .i (mayFlt segs c hz width mode at_), .i (winFlt segs c mode at_), .i (lostFlt segs c at_ to_), .l r, .l wy0]) fun o => ∃ x, o.1 = some x ∧ x = 0 ∧ o.2 = [.t true] := by
    rintro _ rfl
    unfold tl_pilelaw2_SegmentsPermit_12
    (dsimp +instances only [gi0,gis,row1,rows1,int1,str1,bool1])
    by_cases h : lostFlt segs c at_ to_ = 0
    · obtain ⟨h1, h2, h3, h4⟩ := hy2 h
      refine Ret.pos (by simpa using h) ?_
      refine Ret.call (lostOf_ok segs c at_ to_ hs (by omega) h1) ?_
      rintro _ ⟨wy, rfl, o1, o3, o2⟩
      have e : wy = y := canR_unique o1 h2 fun n => by rw [o2, h4]
      subst e
      (dsimp +instances only [gi0,gis,row1,rows1,int1,str1,bool1])
      have hyl : wy.length < 100000 := by omega
      refine Ret.tail (P := fun x g => x = 0 ∧ g = [.t true]) (law_tail14 segs r wy c hz width mode at_ to_ _ _ _ _ _ _ ok hs (by omega) hrc.1 hrc.2 h2 hyl rfl rfl rfl hok1 hno) rfl ?_
      rintro _ _ ⟨rfl, rfl⟩
      exact Ret.some ⟨0, rfl, rfl, rfl⟩
    · have e := hy1 h
      subst e
      refine Ret.neg (by simpa using h) ?_
      refine Ret.tail (P := fun x g => x = 0 ∧ g = [.t true]) (law_tail14 segs r [] c hz width mode at_ to_ _ _ _ _ _ _ ok hs (by omega) hrc.1 hrc.2 canR_nil (by simp) rfl rfl rfl hok1 hno) rfl ?_
      rintro _ _ ⟨rfl, rfl⟩
      exact Ret.some ⟨0, rfl, rfl, rfl⟩
  by_cases h : winFlt segs c mode at_ = 0
  · obtain ⟨h1, h2, h3, h4⟩ := hr2 h
    refine Ret.pos (by simpa using h) ?_
    refine Ret.call (windowsOf_ok segs c mode at_ hs (by omega) h1) ?_
    rintro _ ⟨wr, rfl, o1, o2⟩
    have e : wr = r := canR_unique o1 h2 fun n => by rw [o2, h4]
    subst e
    (dsimp +instances only [gi0,gis,row1,rows1,int1,str1,bool1])
    refine Ret.tail (P := fun x g => x = 0 ∧ g = [.t true]) (tlw [] rfl) rfl ?_
    rintro _ _ ⟨rfl, rfl⟩
    exact Ret.some rfl
  · have e := hr1 h
    subst e
    refine Ret.neg (by simpa using h) ?_
    refine Ret.tail (P := fun x g => x = 0 ∧ g = [.t true]) (tlw [] rfl) rfl ?_
    rintro _ _ ⟨rfl, rfl⟩
    exact Ret.some rfl
end
end Go.Proofs.SYtpbepppkchjccaaGreatDoor
