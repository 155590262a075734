/-
  What is proved here: what the methods of the stream give on data. No condition.
-/
import Derived.Test.YtpbepppkchjccaaGreatDoorML4
import Derived.Test.YtpbepppkchjccaaGreatDoorME
set_option linter.unusedSimpArgs false
set_option linter.unusedVariables false
set_option linter.unusedSectionVars false
namespace Go.Proofs.SYtpbepppkchjccaaGreatDoor
open Go Go.AL Go.Proofs
noncomputable section
theorem r_Below (x n : Int) (h0 : 1 ≤ n) (h1 : n ≤ 1099511627776) : Ret (F_pilemake_Below [.i x, .i n]) fun g => ∃ v, g = [.i v] ∧ 0 ≤ v ∧ v < n := by
  unfold F_pilemake_Below
  (dsimp +instances only [gi0,gis,row1,rows1,int1,str1,bool1])
  have ha := Int.tmod_lt_of_pos x (by omega : 0 < n)
  have hb := Int.lt_tmod_of_pos x (by omega : 0 < n)
  (repeat(first|(refine Ret.pos ?_ ?_;(first|rfl|assumption|(simp only [inI,sl]<;>omega)))|(refine Ret.neg ?_ ?_;(first|rfl|assumption|(simp only [inI,sl]<;>omega)))))
  refine Ret.test (fun h => ?_) fun h => ?_
  · simp only [ltI_eq, decide_eq_true_eq] at h
    (repeat(first|(refine Ret.pos ?_ ?_;(first|rfl|assumption|(simp only [inI,sl]<;>omega)))|(refine Ret.neg ?_ ?_;(first|rfl|assumption|(simp only [inI,sl]<;>omega)))))
    exact Ret.some ⟨_, rfl, by omega, by omega⟩
  · simp only [ltI_eq, decide_eq_false_iff_not] at h
    exact Ret.some ⟨_, rfl, by omega, by omega⟩
theorem r_Next (l : List (List G)) (a n : Int) (ha : 0 ≤ a) (ha1 : a ≤ 1000000) (h0 : 1 ≤ n) (h1 : n ≤ 1099511627776) :
    Ret (F_pilemake_Stream_Next [.l l, .i a, .i n]) fun g => ∃ v, g = [.l l, .i (a + 1), .i v] ∧ 0 ≤ v ∧ v < n := by
  unfold F_pilemake_Stream_Next
  (dsimp +instances only [gi0,gis,row1,rows1,int1,str1,bool1])
  have ea : a + 1 - 1 = a := by omega
  simp only [ea]
  by_cases hl : l.length = 0
  · (repeat(first|(refine Ret.pos ?_ ?_;(first|rfl|assumption|(simp only [inI,sl]<;>omega)))|(refine Ret.neg ?_ ?_;(first|rfl|assumption|(simp only [inI,sl]<;>omega)))))
    refine Ret.call (r_Below _ n h0 h1) ?_
    rintro _ ⟨v, rfl, h2, h3⟩
    (dsimp +instances only [gi0,gis,row1,rows1,int1,str1,bool1])
    exact Ret.some ⟨v, rfl, h2, h3⟩
  · have hp : (0 : Int) < (l.length : Int) := by omega
    have d0 : 0 ≤ Int.tdiv a l.length := Int.tdiv_nonneg ha (by omega)
    have d1 : Int.tdiv a l.length ≤ a := by
      rw [Int.tdiv_eq_ediv_of_nonneg ha]
      exact Int.ediv_le_self _ ha
    have m0 : 0 ≤ Int.tmod a l.length := by
      rw [Int.tmod_eq_emod_of_nonneg ha]
      exact Int.emod_nonneg _ (by omega)
    have m1 : Int.tmod a l.length < l.length := Int.tmod_lt_of_pos a hp
    have m2 : Int.tmod a l.length ≤ a := by
      rw [Int.tmod_eq_emod_of_nonneg ha]
      have := Int.mul_ediv_add_emod a l.length
      have h4 : 0 ≤ (l.length : Int) * (a / l.length) := Int.mul_nonneg (by omega) (Int.ediv_nonneg ha (by omega))
      omega
    generalize hq : Int.tdiv a l.length = q at *
    generalize hr : Int.tmod a l.length = r at *
    have p0 : 0 ≤ q * (7919 + r) := Int.mul_nonneg d0 (by omega)
    have p1 : q * (7919 + r) ≤ 1000000 * 2000000 := Int.mul_le_mul (by omega) (by omega) (by omega) (by omega)
    generalize hz : q * (7919 + r) = z at *
    (repeat(first|(refine Ret.pos ?_ ?_;(first|rfl|assumption|(simp only [inI,sl]<;>omega)))|(refine Ret.neg ?_ ?_;(first|rfl|assumption|(simp only [inI,sl]<;>omega)))))
    refine Ret.call (r_Below _ 1073741824 (by omega) (by omega)) ?_
    rintro _ ⟨u, rfl, h2, h3⟩
    (dsimp +instances only [gi0,gis,row1,rows1,int1,str1,bool1])
    (repeat(first|(refine Ret.pos ?_ ?_;(first|rfl|assumption|(simp only [inI,sl]<;>omega)))|(refine Ret.neg ?_ ?_;(first|rfl|assumption|(simp only [inI,sl]<;>omega)))))
    refine Ret.call (r_Below _ n h0 h1) ?_
    rintro _ ⟨v, rfl, h4, h5⟩
    (dsimp +instances only [gi0,gis,row1,rows1,int1,str1,bool1])
    exact Ret.some ⟨v, rfl, h4, h5⟩
theorem getD_mem' {l : List (List G)} {v : Int} (h0 : 0 ≤ v) (h1 : v < l.length) : l.getD v.toNat [] ∈ l := by
  have : v.toNat < l.length := by omega
  rw [List.getD_eq_getElem?_getD, List.getElem?_eq_getElem this]
  exact List.getElem_mem this
theorem r_Pick (P : Int → Prop) (l : List (List G)) (a : Int) (xs : List (List G)) (ha : 0 ≤ a) (ha1 : a ≤ 1000000) (h0 : 1 ≤ xs.length) (h1 : xs.length ≤ 1000000) (hP : ∀ x ∈ xs, P (gi x 0).int) :
    Ret (F_pilemake_Stream_Pick [.l l, .i a, .l xs]) fun g => ∃ v, g = [.l l, .i (a + 1), .i v] ∧ P v := by
  unfold F_pilemake_Stream_Pick
  (dsimp +instances only [gi0,gis,row1,rows1,int1,str1,bool1])
  refine Ret.call (r_Next l a _ ha ha1 (by omega) (by omega)) ?_
  rintro _ ⟨v, rfl, h3, h4⟩
  (dsimp +instances only [gi0,gis,row1,rows1,int1,str1,bool1])
  (repeat(first|(refine Ret.pos ?_ ?_;(first|rfl|assumption|(simp only [inI,sl]<;>omega)))|(refine Ret.neg ?_ ?_;(first|rfl|assumption|(simp only [inI,sl]<;>omega)))))
  exact Ret.some ⟨_, rfl, hP _ (getD_mem' h3 h4)⟩
theorem r_Some (P : ByteArray → Prop) (l : List (List G)) (a : Int) (xs : List (List G)) (ha : 0 ≤ a) (ha1 : a ≤ 1000000) (h0 : 1 ≤ xs.length) (h1 : xs.length ≤ 1000000) (hP : ∀ x ∈ xs, P (gi x 0).str) :
    Ret (F_pilemake_Stream_Some [.l l, .i a, .l xs]) fun g => ∃ v, g = [.l l, .i (a + 1), .s v] ∧ P v := by
  unfold F_pilemake_Stream_Some
  (dsimp +instances only [gi0,gis,row1,rows1,int1,str1,bool1])
  refine Ret.call (r_Next l a _ ha ha1 (by omega) (by omega)) ?_
  rintro _ ⟨v, rfl, h3, h4⟩
  (dsimp +instances only [gi0,gis,row1,rows1,int1,str1,bool1])
  (repeat(first|(refine Ret.pos ?_ ?_;(first|rfl|assumption|(simp only [inI,sl]<;>omega)))|(refine Ret.neg ?_ ?_;(first|rfl|assumption|(simp only [inI,sl]<;>omega)))))
  exact Ret.some ⟨_, rfl, hP _ (getD_mem' h3 h4)⟩
theorem r_Flip (l : List (List G)) (a n : Int) (ha : 0 ≤ a) (ha1 : a ≤ 1000000) (h0 : 1 ≤ n) (h1 : n ≤ 1000000) :
    Ret (F_pilemake_Stream_Flip [.l l, .i a, .i n]) fun g => ∃ b, g = [.l l, .i (a + 1), .t b] := by
  unfold F_pilemake_Stream_Flip
  (dsimp +instances only [gi0,gis,row1,rows1,int1,str1,bool1])
  refine Ret.call (r_Next l a _ ha ha1 (by omega) (by omega)) ?_
  rintro _ ⟨v, rfl, h3, h4⟩
  exact Ret.some ⟨_, rfl⟩
end
end Go.Proofs.SYtpbepppkchjccaaGreatDoor

namespace Go.Proofs.SYtpbepppkchjccaaGreatDoor
open Go Go.AL Go.Proofs
noncomputable section
def inL (L : List ByteArray) (s : ByteArray) : Bool := L.any fun x => eqS x s
theorem inL_mem {L : List ByteArray} {s : ByteArray} (h : inL L s = true) : s ∈ L := by
  obtain ⟨x, hx, he⟩ := List.any_eq_true.1 h
  exact eqS_eq he ▸ hx
theorem r_PickB (lo hi : Int) (l : List (List G)) (a : Int) (xs : List (List G)) (ha : 0 ≤ a) (ha1 : a ≤ 1000000) (h0 : (Nat.ble 1 xs.length && Nat.ble xs.length 1000000) = true) (hP : (xs.all fun x => leI lo (gi x 0).int && leI (gi x 0).int hi) = true) :
    Ret (F_pilemake_Stream_Pick [.l l, .i a, .l xs]) fun g => ∃ v, g = [.l l, .i (a + 1), .i v] ∧ lo ≤ v ∧ v ≤ hi := by
  simp only [Bool.and_eq_true, Nat.ble_eq] at h0
  refine r_Pick (fun v => lo ≤ v ∧ v ≤ hi) l a xs ha ha1 h0.1 h0.2 fun x hx => ?_
  have := List.all_eq_true.1 hP x hx
  simpa only [leI_eq, Bool.and_eq_true, decide_eq_true_eq] using this
theorem r_SomeB (L : List ByteArray) (l : List (List G)) (a : Int) (xs : List (List G)) (ha : 0 ≤ a) (ha1 : a ≤ 1000000) (h0 : (Nat.ble 1 xs.length && Nat.ble xs.length 1000000) = true) (hP : (xs.all fun x => inL L (gi x 0).str) = true) :
    Ret (F_pilemake_Stream_Some [.l l, .i a, .l xs]) fun g => ∃ v, g = [.l l, .i (a + 1), .s v] ∧ v ∈ L := by
  simp only [Bool.and_eq_true, Nat.ble_eq] at h0
  exact r_Some (fun v => v ∈ L) l a xs ha ha1 h0.1 h0.2 fun x hx => inL_mem (List.all_eq_true.1 hP x hx)
def calls : List ByteArray := [⟨#[]⟩, ⟨#[107, 49]⟩, ⟨#[75, 49, 65, 66]⟩, ⟨#[107, 49, 97, 98, 47]⟩, ⟨#[49, 97]⟩, ⟨#[107, 49, 97, 98, 47, 109, 109, 47, 112]⟩, ⟨#[107, 49, 97, 98]⟩, ⟨#[107, 49, 97, 97]⟩, ⟨#[107, 49, 97, 98, 47, 52]⟩,
  ⟨#[111, 104, 50, 97, 98, 99]⟩, ⟨#[111, 104, 50, 97, 98, 100]⟩, ⟨#[119, 49, 97, 119]⟩, ⟨#[110, 49, 109, 109]⟩, ⟨#[103, 51, 120, 121, 122, 47, 112]⟩]
def bands : List ByteArray := [⟨#[]⟩, ⟨#[66]⟩, ⟨#[98, 50, 48]⟩, ⟨#[98, 52, 48]⟩]
def names : List ByteArray := [⟨#[]⟩, ⟨#[65]⟩, ⟨#[49]⟩, ⟨#[102, 105, 110]⟩, ⟨#[117, 115, 97]⟩]
def small (n : Int) : Prop := -2000000000000 ≤ n ∧ n ≤ 2000000000000
def Con (r : List G) : Prop := ∃ (t m : Int) (b c : ByteArray) (s h : Int) (x y : ByteArray), r = [.i t, .i m, .s b, .s c, .i s, .i h, .s x, .s y] ∧ small t ∧ small m ∧ small s ∧ small h ∧ b ∈ bands ∧ c ∈ calls ∧ x ∈ names ∧ y ∈ names
def tight (n : Int) : Prop := -1900000000000 ≤ n ∧ n ≤ 1900000000000
def tightT (n : Int) : Prop := -1900000000000 ≤ n ∧ (n ≤ 345000000000 ∨ (345686399999 < n ∧ n ≤ 1900000000000))
def ConT (r : List G) : Prop := ∃ (t m : Int) (b c : ByteArray) (s h : Int) (x y : ByteArray), r = [.i t, .i m, .s b, .s c, .i s, .i h, .s x, .s y] ∧ tightT t ∧ tight m ∧ tight s ∧ tight h ∧ b ∈ bands ∧ c ∈ calls ∧ x ∈ names ∧ y ∈ names
theorem tight.to {n : Int} (h : tight n) : small n := ⟨by have := h.1; omega, by have := h.2; omega⟩
theorem tightT.to {n : Int} (h : tightT n) : small n := by
  unfold tightT at h
  exact ⟨by omega, by omega⟩
theorem ConT.to {r : List G} (h : ConT r) : Con r := by
  obtain ⟨t, m, b, c, s, h, x, y, e, h1, h2, h3, h4, h5⟩ := h
  exact ⟨t, m, b, c, s, h, x, y, e, h1.to, h2.to, h3.to, h4.to, h5⟩
theorem Con.eta {r : List G} (h : Con r) : gEta [.int .i64, .int .i64, .str, .str, .int .i64, .int .i64, .str, .str] r = r := by
  obtain ⟨t, m, b, c, s, h, x, y, rfl, _⟩ := h
  rfl
end
end Go.Proofs.SYtpbepppkchjccaaGreatDoor

namespace Go.Proofs.SYtpbepppkchjccaaGreatDoor
open Go Go.AL Go.Proofs
noncomputable section
def cmpI (a b : Int) : Int := if a < b then -1 else if b < a then 1 else 0
theorem cmpInt_eq (a b : Int) : F_cmp_Compare_int [.i a, .i b] = some [.i (cmpI a b)] := by
  refine Ret.toEq ?_
  unfold F_cmp_Compare_int F_cmp_isNaN_int cmpI
  (dsimp +instances only [gi0,gis,row1,rows1,int1,str1,bool1])
  simp only [bne_self_eq_false]
  refine Ret.call ⟨_, rfl, rfl⟩ ?_
  rintro _ rfl
  refine Ret.call ⟨_, rfl, rfl⟩ ?_
  rintro _ rfl
  (dsimp +instances only [gi0,gis,row1,rows1,int1,str1,bool1])
  (repeat(first|(refine Ret.pos ?_ ?_;(first|rfl|assumption|(simp only [inI,sl]<;>omega)))|(refine Ret.neg ?_ ?_;(first|rfl|assumption|(simp only [inI,sl]<;>omega)))))
  by_cases h1 : a < b
  · (repeat(first|(refine Ret.pos ?_ ?_;(first|rfl|assumption|(simp only [inI,sl]<;>omega)))|(refine Ret.neg ?_ ?_;(first|rfl|assumption|(simp only [inI,sl]<;>omega)))))
    exact Ret.some (by simp [h1])
  · by_cases h2 : b < a
    · (repeat(first|(refine Ret.pos ?_ ?_;(first|rfl|assumption|(simp only [inI,sl]<;>omega)))|(refine Ret.neg ?_ ?_;(first|rfl|assumption|(simp only [inI,sl]<;>omega)))))
      exact Ret.some (by simp [h1, h2])
    · (repeat(first|(refine Ret.pos ?_ ?_;(first|rfl|assumption|(simp only [inI,sl]<;>omega)))|(refine Ret.neg ?_ ?_;(first|rfl|assumption|(simp only [inI,sl]<;>omega)))))
      exact Ret.some (by simp [h1, h2])
def orL : List (List G) → Int
  | [] => 0
  | x :: q => if (gi x 0).int ≠ 0 then (gi x 0).int else orL q
theorem or_runs : ∀ (q p : List (List G)), p.length + q.length < 100000 →
    RetN st_cmp_Or_int_3 [.i 0, .l (p ++ q), .i ((p.length + q.length : Nat) : Int), .i (p.length : Int)] (q.length + 1) fun c g => c ≤ 1 ∧ g = [.i (orL q)]
  | [], p, hl => by
    refine RetN.stop (x := 1) (Ret.toEq ?_) ⟨by omega, rfl⟩
    unfold st_cmp_Or_int_3
    (dsimp +instances only [gi0,gis,row1,rows1,int1,str1,bool1])
    (repeat(first|(refine Ret.pos ?_ ?_;(first|rfl|assumption|(simp only [inI,sl]<;>omega)))|(refine Ret.neg ?_ ?_;(first|rfl|assumption|(simp only [inI,sl]<;>omega)))))
    exact Ret.some rfl
  | y :: q, p, hl => by
    simp only [List.length_cons] at hl
    have g1 : (p ++ y :: q).getD (p.length : Int).toNat [] = y := getD_mid _ _ _ _ _ (by simp)
    have hlen : (p ++ y :: q).length = p.length + q.length + 1 := by simp; omega
    by_cases he : (gi y 0).int = 0
    · have ih := or_runs q (p ++ [y]) (by simp; omega)
      have e : orL (y :: q) = orL q := by simp [orL, he]
      rw [e]
      refine RetN.next (Ret.toEq ?_) ih
      unfold st_cmp_Or_int_3
      (dsimp +instances only [gi0,gis,row1,rows1,int1,str1,bool1])
      simp only [g1, hlen, List.length_cons]
      (repeat(first|(refine Ret.pos ?_ ?_;(first|rfl|assumption|(simp only [inI,sl]<;>omega)))|(refine Ret.neg ?_ ?_;(first|rfl|assumption|(simp only [inI,sl]<;>omega)))))
      refine Ret.some ?_
      simp
      omega
    · refine RetN.stop (x := 0) (Ret.toEq ?_) ⟨by omega, rfl⟩
      unfold st_cmp_Or_int_3
      (dsimp +instances only [gi0,gis,row1,rows1,int1,str1,bool1])
      simp only [g1, hlen, List.length_cons]
      (repeat(first|(refine Ret.pos ?_ ?_;(first|rfl|assumption|(simp only [inI,sl]<;>omega)))|(refine Ret.neg ?_ ?_;(first|rfl|assumption|(simp only [inI,sl]<;>omega)))))
      refine Ret.some ?_
      simp [orL, he]
end
end Go.Proofs.SYtpbepppkchjccaaGreatDoor

namespace Go.Proofs.SYtpbepppkchjccaaGreatDoor
open Go Go.AL Go.Proofs
noncomputable section
def inB (v lo hi : Int) : Bool := leI lo v && leI v hi
theorem in_eq (v lo hi : Int) : F_pileref2_in [.i v, .i lo, .i hi] = some [.t (inB v lo hi)] := by
  unfold F_pileref2_in inB
  (dsimp +instances only [gi0,gis,row1,rows1,int1,str1,bool1])
  cases leI lo v <;> rfl
theorem outside_eq (v lo hi : Int) : F_kit_Outside [.i v, .i lo, .i hi] = some [.t (!inB v lo hi)] := by
  unfold F_kit_Outside inB
  (dsimp +instances only [gi0,gis,row1,rows1,int1,str1,bool1])
  have h1 : ltI v lo = !leI lo v := by rw [ltI_eq, leI_eq, Bool.eq_iff_iff]; simp
  have h2 : ltI hi v = !leI v hi := by rw [ltI_eq, leI_eq, Bool.eq_iff_iff]; simp
  rw [h1, h2]
  cases leI lo v <;> cases leI v hi <;> rfl
def okCall (s : ByteArray) : Bool := (gi ((F_call_Is [.s s]).getD []) 0).bool
theorem isCall_eq {s : ByteArray} (h : s ∈ calls) : F_call_Is [.s s] = some [.t (okCall s)] := by
  simp only [calls, List.mem_cons, List.not_mem_nil, or_false] at h
  rcases h with (rfl | rfl | rfl | rfl | rfl | rfl | rfl | rfl | rfl | rfl | rfl | rfl | rfl | rfl) <;> kernel_rfl
theorem call_eq {s : ByteArray} (h : s ∈ calls) : F_pileref2_Call [.s s] = some [.t (okCall s)] := by
  simp only [calls, List.mem_cons, List.not_mem_nil, or_false] at h
  rcases h with (rfl | rfl | rfl | rfl | rfl | rfl | rfl | rfl | rfl | rfl | rfl | rfl | rfl | rfl) <;> kernel_rfl
end
end Go.Proofs.SYtpbepppkchjccaaGreatDoor

namespace Go.Proofs.SYtpbepppkchjccaaGreatDoor
open Go Go.AL Go.Proofs
noncomputable section
structure Ordr {α : Type} (c : α → α → Int) : Prop where
  flip : ∀ a b, c b a = - c a b
  eq : ∀ a b, c a b = 0 → a = b
  tr : ∀ a b d, c a b < 0 → c b d < 0 → c a d < 0
theorem Ordr.le {α : Type} {c : α → α → Int} (h : Ordr c) (a b d : α) (h1 : c a b ≤ 0) (h2 : c b d ≤ 0) : c a d ≤ 0 := by
  by_cases e1 : c a b = 0
  · rw [h.eq a b e1]
    exact h2
  · by_cases e2 : c b d = 0
    · rw [← h.eq b d e2]
      exact h1
    · have := h.tr a b d (by omega) (by omega)
      omega
theorem Ordr.refl {α : Type} {c : α → α → Int} (h : Ordr c) (a : α) : c a a = 0 := by
  have := h.flip a a
  omega
def or2 (a b : Int) : Int := if a ≠ 0 then a else b
theorem lin_of {c : List G → List G → Int} (hf : ∀ a b, c b a = - c a b) (ht : ∀ a b d, c a b ≤ 0 → c b d ≤ 0 → c a d ≤ 0) : Lin (ltC c) (fun _ => True) := by
  have lt : ∀ r s, ltC c r s = decide (c r s < 0) := fun r s => by unfold ltC; rw [ltI_eq]
  refine ⟨fun a b d _ _ _ h1 h2 => ?_, fun a b _ _ h => ?_⟩
  · rw [lt, decide_eq_false_iff_not] at *
    have := ht d b a (by have := hf d b; omega) (by have := hf b a; omega)
    have := hf a d
    omega
  · rw [lt, decide_eq_true_eq] at h
    rw [lt, decide_eq_false_iff_not]
    have := hf a b
    omega
/-! ### Lists that are checked row by row -/
def fw (step : Nat → Int) : Nat → Int
  | 0 => 0
  | i + 1 => if fw step i ≠ 0 then fw step i else step i
theorem fw_stays {step : Nat → Int} {i : Nat} (h : fw step i ≠ 0) : ∀ k, fw step (i + k) = fw step i
  | 0 => rfl
  | k + 1 => by
    have ih := fw_stays h k
    show (if fw step (i + k) ≠ 0 then fw step (i + k) else step (i + k)) = fw step i
    rw [ih, if_pos h]
theorem fw_zero {step : Nat → Int} : ∀ {n : Nat}, fw step n = 0 → ∀ i, i < n → step i = 0
  | 0, _, i, hi => by omega
  | n + 1, h, i, hi => by
    have h0 : fw step n = 0 := by
      refine Decidable.byContradiction fun hn => hn ?_
      have := fw_stays hn 1
      rw [← this]
      exact h
    have h' : (if fw step n ≠ 0 then fw step n else step n) = 0 := h
    rw [if_neg (by simpa using h0)] at h'
    rcases Nat.lt_or_ge i n with hlt | hge
    · exact fw_zero h0 i hlt
    · have : i = n := by omega
      rw [this]
      exact h'
theorem fw_loop {st : List G → Option (Option Nat × List G)} (mk : Nat → List G) (n : Nat) (step : Nat → Int) (gn : List G) (hn : n < 999999)
    (hstep : ∀ i, i < n → Ret (st (mk i)) fun o => (step i = 0 ∧ o = (none, mk (i + 1))) ∨ (step i ≠ 0 ∧ o = (some 0, [.i (step i)])))
    (hfin : Ret (st (mk n)) fun o => o = (some 1, gn)) :
    RetL st (mk 0) fun c g => (c = 1 ∧ fw step n = 0 ∧ g = gn) ∨ (c = 0 ∧ g = [.i (fw step n)] ∧ fw step n ≠ 0) := by
  refine ((count_runs (σ := Unit) (fun _ i => mk i) n (fun _ => (1, gn)) (fun _ i => fw step i = 0) (fun c g => c = 0 ∧ g = [.i (fw step n)] ∧ fw step n ≠ 0) ?_ (fun _ _ => hfin) n () 0 (by omega) rfl).to (by omega)).mono ?_
  · rintro _ i hI hi
    refine (hstep i hi).mono ?_
    rintro _ (⟨h0, rfl⟩ | ⟨h1, rfl⟩)
    · refine .inl ⟨(), rfl, ?_⟩
      show (if fw step i ≠ 0 then fw step i else step i) = 0
      rw [if_neg (by simpa using hI)]
      exact h0
    · have e : fw step (i + 1) = step i := by
        show (if fw step i ≠ 0 then fw step i else step i) = step i
        rw [if_neg (by simpa using hI)]
      have e2 : fw step n = step i := by
        have := fw_stays (step := step) (i := i + 1) (by rw [e]; exact h1) (n - (i + 1))
        rw [show i + 1 + (n - (i + 1)) = n by omega, e] at this
        exact this
      exact .inr ⟨0, _, rfl, rfl, by rw [e2], by rw [e2]; exact h1⟩
  · rintro c g (⟨_, h, rfl, rfl⟩ | h)
    · exact .inl ⟨rfl, h, rfl⟩
    · exact .inr h
end
end Go.Proofs.SYtpbepppkchjccaaGreatDoor

namespace Go.Proofs.SYtpbepppkchjccaaGreatDoor
open Go Go.AL Go.Proofs
noncomputable section
def cats : List ByteArray := [⟨#[97, 108, 108]⟩, ⟨#[99, 111, 100, 101]⟩, ⟨#[65]⟩]
def locs : List ByteArray := [⟨#[]⟩, ⟨#[107, 112, 50, 48, 108, 102]⟩, ⟨#[107, 112, 50, 48]⟩]
def Ent (r : List G) : Prop := ∃ (c k : ByteArray) (p : Int) (q : ByteArray), r = [.s c, .s k, .i p, .s q] ∧ c ∈ calls ∧ k ∈ cats ∧ -1099511627776 ≤ p ∧ p ≤ 1099511627776 ∧ q ∈ locs
theorem Ent.eta {r : List G} (h : Ent r) : gEta [.str, .str, .int .i64, .str] r = r := by
  obtain ⟨c, k, p, q, rfl, _⟩ := h
  rfl
def two : List (List G) := [[.s (⟨#[97, 108, 108]⟩ : ByteArray)], [.s (⟨#[99, 111, 100, 101]⟩ : ByteArray)]]
/-! ### What is wrong with entrants -/
theorem less_eq : ∀ a b : List UInt8, Op.bytesLess a b = decide (Lib.compareBytes a b < 0)
  | [], [] => rfl
  | _ :: _, [] => rfl
  | [], _ :: _ => rfl
  | a :: x, b :: y => by
    simp only [Op.bytesLess, Lib.compareBytes, less_eq x y]
    by_cases h1 : a < b
    · simp [h1]
    · by_cases h2 : b < a
      · have h3 : a ≠ b := fun h => by
          subst h
          exact h1 h2
        simp [h1, h2, h3]
      · have h3 : a = b := UInt8.le_antisymm (UInt8.not_lt.1 h2) (UInt8.not_lt.1 h1)
        subst h3
        simp [h1]
end
end Go.Proofs.SYtpbepppkchjccaaGreatDoor

namespace Go.Proofs.SYtpbepppkchjccaaGreatDoor
open Go Go.AL Go.Proofs
noncomputable section
def okW (a b : Int) : Bool := inB a 0 b && leI b 345686400000
theorem when_eq (b : Bool) (e : Int) : F_pilelaw2_when [.t b, .i e] = some [.i (bif b then e else 0)] := by
  unfold F_pilelaw2_when
  (dsimp +instances only [gi0,gis,row1,rows1,int1,str1,bool1])
  cases b <;> rfl
def firstE : List Int → Int
  | [] => 0
  | x :: q => bif x != 0 then x else firstE q
theorem errs_runs : ∀ (q p : List (List G)) (xs : List Int), q = xs.map (fun x => [G.i x]) → p.length + q.length < 100000 →
    RetN st_pilelaw2_errs_2 [.l (p ++ q), .i ((p.length + q.length : Nat) : Int), .i (p.length : Int)] (q.length + 1) fun c g => (c = 0 ∧ g = [.i (firstE xs)]) ∨ c = 1 ∧ firstE xs = 0
  | [], p, xs, hq, hl => by
    have : xs = [] := by
      cases xs with
      | nil => rfl
      | cons x xs => simp at hq
    subst this
    refine RetN.stop (x := 1) (d' := []) (Ret.toEq ?_) (.inr ⟨rfl, rfl⟩)
    unfold st_pilelaw2_errs_2
    (dsimp +instances only [gi0,gis,row1,rows1,int1,str1,bool1])
    (repeat(first|(refine Ret.pos ?_ ?_;(first|rfl|assumption|(simp only [inI,sl]<;>omega)))|(refine Ret.neg ?_ ?_;(first|rfl|assumption|(simp only [inI,sl]<;>omega)))))
    exact Ret.some rfl
  | y :: q, p, xs, hq, hl => by
    match xs, hq with
    | x :: xs, hq2 =>
      have h := hq2
      simp only [List.map_cons, List.cons.injEq] at h
      obtain ⟨rfl, hq3⟩ := h
      simp only [List.length_cons] at hl
      have g1 : (p ++ [.i x] :: q).getD (p.length : Int).toNat [] = [.i x] := getD_mid _ _ _ _ _ (by simp)
      have hlen : (p ++ [.i x] :: q).length = p.length + q.length + 1 := by simp; omega
      by_cases hx : x = 0
      · have ih := errs_runs q (p ++ [[.i x]]) xs hq3 (by simp; omega)
        subst hx
        have e : firstE (0 :: xs) = firstE xs := rfl
        rw [e]
        refine RetN.next (Ret.toEq ?_) ih
        unfold st_pilelaw2_errs_2
        (dsimp +instances only [gi0,gis,row1,rows1,int1,str1,bool1])
        simp only [g1, hlen, List.length_cons]
        (dsimp +instances only [gi0,gis,row1,rows1,int1,str1,bool1])
        (repeat(first|(refine Ret.pos ?_ ?_;(first|rfl|assumption|(simp only [inI,sl]<;>omega)))|(refine Ret.neg ?_ ?_;(first|rfl|assumption|(simp only [inI,sl]<;>omega)))))
        refine Ret.some ?_
        simp
        omega
      · have hb : (x != 0) = true := by simpa using hx
        refine RetN.stop (x := 0) (d' := [.i x]) (Ret.toEq ?_) (.inl ⟨rfl, by simp only [firstE, hb, cond_true]⟩)
        unfold st_pilelaw2_errs_2
        (dsimp +instances only [gi0,gis,row1,rows1,int1,str1,bool1])
        simp only [g1, hlen, List.length_cons]
        (dsimp +instances only [gi0,gis,row1,rows1,int1,str1,bool1])
        refine Ret.pos (by (first|rfl|assumption|(simp only [inI,sl]<;>omega))) (Ret.pos (by (first|rfl|assumption|(simp only [inI,sl]<;>omega))) (Ret.pos hb (Ret.some rfl)))
theorem errs_eq (xs : List Int) (h : xs.length < 1000) : F_pilelaw2_errs [.l (xs.map fun x => [.i x])] = some [.i (firstE xs)] := by
  refine Ret.toEq ?_
  unfold F_pilelaw2_errs
  (dsimp +instances only [gi0,gis,row1,rows1,int1,str1,bool1])
  have h1 := errs_runs (xs.map fun x => [G.i x]) [] xs rfl (by simp; omega)
  have h0 : ((0 : Nat) : Int) = 0 := rfl
  simp only [List.nil_append, List.length_nil, Nat.zero_add, h0] at h1
  refine Ret.loop (h1.to (by simp; omega)) rfl ?_
  rintro c g (⟨rfl, rfl⟩ | ⟨rfl, h⟩)
  · exact Ret.some rfl
  · exact Ret.some (by rw [h])
/-! ### Pauses -/
structure PauseOK (s : List (List G) × Int) (i : Nat) : Prop where
  len : s.1.length ≤ i
  rows : ∀ r ∈ s.1, ∃ a b, r = [.i a, .i b]
  at0 : 0 ≤ s.2
  at1 : s.2 ≤ 345686400000
/-! ### Hours -/
structure HourOK (s : List (List G)) (n i : Nat) : Prop where
  len : s.length = n
  rows : ∀ r ∈ s, ∃ v, r = [.i v] ∧ 0 ≤ v ∧ v ≤ i
end
end Go.Proofs.SYtpbepppkchjccaaGreatDoor

namespace Go.Proofs.SYtpbepppkchjccaaGreatDoor
open Go Go.AL Go.Proofs
noncomputable section
def Two (r : List G) : Prop := ∃ a b, r = [.i a, .i b]
theorem kdsTwo : Kds [.int .i64, .int .i64] Two := ⟨fun r ⟨a, b, h⟩ => by subst h; rfl⟩
theorem equalRow_refl (a : List (List G)) (h : ∀ r ∈ a, Two r) (hn : a.length < 100000) : F_slices_Equal_Row [.l a, .l a] = some [.t true] := by
  have := equalF_eq kdsTwo a a h h hn
  rw [eqlA_refl rfl] at this
  exact this
def wf (a b : Int) : Int := bif okW a b then 0 else 1
end
end Go.Proofs.SYtpbepppkchjccaaGreatDoor

namespace Go.Proofs.SYtpbepppkchjccaaGreatDoor
open Go Go.AL Go.Proofs
noncomputable section
def b40 (n : Int) : Prop := -1099511627776 ≤ n ∧ n ≤ 1099511627776
theorem r_RangeX (l : List (List G)) (a lo hi : Int) (ha : 0 ≤ a) (ha1 : a ≤ 1000000) (h0 : lo ≤ hi) (h1 : -1000 ≤ lo) (h2 : hi ≤ 400000000000) :
    Ret (F_pilemake_Stream_Range [.l l, .i a, .i lo, .i hi]) fun g => ∃ v, g = [.l l, .i (a + 1), .i v] ∧ lo ≤ v ∧ v ≤ hi := by
  unfold F_pilemake_Stream_Range
  (dsimp +instances only [gi0,gis,row1,rows1,int1,str1,bool1])
  (repeat(first|(refine Ret.pos ?_ ?_;(first|rfl|assumption|(simp only [inI,sl]<;>omega)))|(refine Ret.neg ?_ ?_;(first|rfl|assumption|(simp only [inI,sl]<;>omega)))))
  refine Ret.call (r_Next l a _ ha ha1 (by omega) (by omega)) ?_
  rintro _ ⟨v, rfl, h3, h4⟩
  (dsimp +instances only [gi0,gis,row1,rows1,int1,str1,bool1])
  (repeat(first|(refine Ret.pos ?_ ?_;(first|rfl|assumption|(simp only [inI,sl]<;>omega)))|(refine Ret.neg ?_ ?_;(first|rfl|assumption|(simp only [inI,sl]<;>omega)))))
  exact Ret.some ⟨_, rfl, by omega, by omega⟩
theorem r_OddX (l : List (List G)) (a lo hi : Int) (ha : 0 ≤ a) (ha1 : a ≤ 900000) (h0 : lo ≤ hi) (h1 : -1000 ≤ lo) (h2 : hi ≤ 400000000000) :
    Ret (F_pilemake_Stream_Odd [.l l, .i a, .i lo, .i hi]) fun g => ∃ v, g = [.l l, .i (a + 2), .i v] ∧ b40 v := by
  unfold F_pilemake_Stream_Odd
  (dsimp +instances only [gi0,gis,row1,rows1,int1,str1,bool1])
  have e2 : a + 1 + 1 = a + 2 := by omega
  refine Ret.call (r_Flip l a 12 ha (by omega) (by omega) (by omega)) ?_
  rintro _ ⟨b, rfl⟩
  (dsimp +instances only [gi0,gis,row1,rows1,int1,str1,bool1])
  cases b with
  | true =>
    (repeat(first|(refine Ret.pos ?_ ?_;(first|rfl|assumption|(simp only [inI,sl]<;>omega)))|(refine Ret.neg ?_ ?_;(first|rfl|assumption|(simp only [inI,sl]<;>omega)))))
    refine Ret.call (r_Pick b40 l (a + 1) _ (by omega) (by omega) (by simp) (by simp) ?_) ?_
    · intro x hx
      unfold b40
      simp only [List.mem_cons, List.not_mem_nil, or_false] at hx
      rcases hx with rfl | rfl | rfl | rfl | rfl | rfl <;> (dsimp +instances only [gi0,gis,row1,rows1,int1,str1,bool1]) <;> omega
    · rintro _ ⟨v, rfl, h3⟩
      (dsimp +instances only [gi0,gis,row1,rows1,int1,str1,bool1])
      exact Ret.some ⟨v, by rw [e2], h3⟩
  | false =>
    (repeat(first|(refine Ret.pos ?_ ?_;(first|rfl|assumption|(simp only [inI,sl]<;>omega)))|(refine Ret.neg ?_ ?_;(first|rfl|assumption|(simp only [inI,sl]<;>omega)))))
    refine Ret.call (r_RangeX l (a + 1) lo hi (by omega) (by omega) h0 h1 h2) ?_
    rintro _ ⟨v, rfl, h3, h4⟩
    (dsimp +instances only [gi0,gis,row1,rows1,int1,str1,bool1])
    exact Ret.some ⟨v, by rw [e2], by omega, by omega⟩
def classes : List ByteArray := [⟨#[102, 117, 108, 108]⟩, ⟨#[115, 109, 97, 108, 108]⟩, ⟨#[]⟩, ⟨#[65]⟩, ⟨#[110, 111, 110, 101]⟩]
def Mod (r : List G) : Prop := ∃ m : Int, r = [.i m] ∧ 0 ≤ m ∧ m ≤ 4
def Seg (r : List G) : Prop := ∃ (c : ByteArray) (lo hi : Int) (ms : List (List G)) (f t : Int), r = [.s c, .i lo, .i hi, .l ms, .i f, .i t] ∧ c ∈ classes ∧ b40 lo ∧ b40 hi ∧ (∀ z ∈ ms, Mod z) ∧ ms.length ≤ 4 ∧ b40 f ∧ b40 t
theorem Seg.eta {r : List G} (h : Seg r) : gEta KSegment r = r := by
  obtain ⟨c, lo, hi, ms, f, t, rfl, _⟩ := h
  rfl
theorem modes_in (l out cs : List (List G)) (c c' : ByteArray) (lo hi f t n j a : Int) (ha : 0 ≤ a) (ha1 : a ≤ 1000) :
    RetL st_pilemake_Stream_Segments_10 [.l l, .i a, .l out, .s c, .i lo, .i hi, .i f, .i t, .l [], .s c', .i 1, .l cs, .i n, .i j] fun k g => k = 0 ∧ ∃ b ms, g = [.l l, .i b, .l out, .s c, .i lo, .i hi, .i f, .i t, .l ms, .s c', .l cs, .i n, .i j] ∧ a ≤ b ∧ b ≤ a + 3 ∧ (∀ z ∈ ms, Mod z) ∧ ms.length ≤ 3 := by
  have r := count_runs (st := st_pilemake_Stream_Segments_10) (σ := Int × List (List G)) (fun s i => [.l l, .i s.1, .l out, .s c, .i lo, .i hi, .i f, .i t, .l s.2, .s c', .i ((i : Int) + 1), .l cs, .i n, .i j]) 3
    (fun s => (0, [.l l, .i s.1, .l out, .s c, .i lo, .i hi, .i f, .i t, .l s.2, .s c', .l cs, .i n, .i j])) (fun s i => a ≤ s.1 ∧ s.1 ≤ a + (i : Int) ∧ (∀ z ∈ s.2, Mod z) ∧ s.2.length ≤ i) (fun _ _ => False)
    (fun s i ⟨s0, s1, s2, s3⟩ hi => by
      obtain ⟨b, ms⟩ := s
      simp only at s0 s1 s2 s3
      unfold st_pilemake_Stream_Segments_10
      (dsimp +instances only [gi0,gis,row1,rows1,int1,str1,bool1])
      refine Ret.pos (by (first|rfl|assumption|(simp only [inI,sl]<;>omega))) ?_
      refine Ret.call (r_Flip l b 2 (by omega) (by omega) (by omega) (by omega)) ?_
      rintro _ ⟨q, rfl⟩
      (dsimp +instances only [gi0,gis,row1,rows1,int1,str1,bool1])
      cases q with
      | true =>
        (repeat(first|(refine Ret.pos ?_ ?_;(first|rfl|assumption|(simp only [inI,sl]<;>omega)))|(refine Ret.neg ?_ ?_;(first|rfl|assumption|(simp only [inI,sl]<;>omega)))))
        refine Ret.some (.inl ⟨(b + 1, ms ++ [[.i ((i : Int) + 1)]]), by simp, by simp only; omega, by simp only; omega, ?_, by simp; omega⟩)
        intro z hz
        rcases List.mem_append.1 hz with hz | hz
        · exact s2 z hz
        · rw [List.mem_singleton.1 hz]
          exact ⟨_, rfl, by omega, by omega⟩
      | false =>
        (repeat(first|(refine Ret.pos ?_ ?_;(first|rfl|assumption|(simp only [inI,sl]<;>omega)))|(refine Ret.neg ?_ ?_;(first|rfl|assumption|(simp only [inI,sl]<;>omega)))))
        exact Ret.some (.inl ⟨(b + 1, ms), by simp, by simp only; omega, by simp only; omega, s2, by simp only; omega⟩))
    (fun s hI => by
      unfold st_pilemake_Stream_Segments_10
      (dsimp +instances only [gi0,gis,row1,rows1,int1,str1,bool1])
      (repeat(first|(refine Ret.pos ?_ ?_;(first|rfl|assumption|(simp only [inI,sl]<;>omega)))|(refine Ret.neg ?_ ?_;(first|rfl|assumption|(simp only [inI,sl]<;>omega)))))
      exact Ret.some rfl) 3 (a, []) 0 (by omega) ⟨Int.le_refl _, by simp, by simp, by simp⟩
  refine (r.to (by omega)).mono ?_
  rintro k g (⟨⟨b, ms⟩, ⟨q1, q2, q3, q4⟩, rfl, rfl⟩ | h)
  · exact ⟨rfl, b, ms, rfl, q1, by simpa using q2, q3, q4⟩
  · exact h.elim
theorem segs_tail (l out cs : List (List G)) (c c' : ByteArray) (lo hi f t n j a : Int) (ms : List (List G)) (ha : 0 ≤ a) (ha1 : a ≤ 1000) (hc : c ∈ classes) (hc' : c' ∈ classes) (hlo : b40 lo) (hhi : b40 hi) (hf : b40 f) (ht : b40 t) (hm : ∀ z ∈ ms, Mod z) (hn : ms.length ≤ 3) (ho : out.length ≤ 100) :
    Ret (tl_pilemake_Stream_Segments_16 [.l l, .i a, .l out, .s c, .i lo, .i hi, .i f, .i t, .l ms, .s c', .l cs, .i n, .i j]) fun o => ∃ x, o.1 = some x ∧ x = 0 ∧ ∃ b r, o.2 = [.l l, .i b, .l (out ++ [r]), .l cs, .i n, .i j] ∧ a ≤ b ∧ b ≤ a + 10 ∧ Seg r := by
  unfold tl_pilemake_Stream_Segments_16
  (dsimp +instances only [gi0,gis,row1,rows1,int1,str1,bool1])
  refine Ret.call (r_Flip l a 50 ha (by omega) (by omega) (by omega)) ?_
  rintro _ ⟨q, rfl⟩
  (dsimp +instances only [gi0,gis,row1,rows1,int1,str1,bool1])
  cases q with
  | false =>
    (repeat(first|(refine Ret.pos ?_ ?_;(first|rfl|assumption|(simp only [inI,sl]<;>omega)))|(refine Ret.neg ?_ ?_;(first|rfl|assumption|(simp only [inI,sl]<;>omega)))))
    exact Ret.some ⟨0, rfl, rfl, _, _, rfl, by omega, by omega, c, lo, hi, ms, f, t, rfl, hc, hlo, hhi, hm, by omega, hf, ht⟩
  | true =>
    refine Ret.pos rfl ?_
    refine Ret.call (r_Next l _ 4 (by omega) (by omega) (by omega) (by omega)) ?_
    rintro _ ⟨k, rfl, hk⟩
    (dsimp +instances only [gi0,gis,row1,rows1,int1,str1,bool1])
    refine Ret.test (fun h => ?_) fun _ => Ret.test (fun h => ?_) fun _ => Ret.test (fun h => ?_) fun _ => ?_
    · refine Ret.call (r_Some (fun v => v ∈ classes) l _ [[.s c'], [.s (⟨#[]⟩ : ByteArray)], [.s (⟨#[65]⟩ : ByteArray)]] (by omega) (by omega) (by simp) (by simp) ?_) ?_
      · intro x hx
        simp only [List.mem_cons, List.not_mem_nil, or_false] at hx
        rcases hx with rfl | rfl | rfl
        · exact hc'
        · exact inL_mem (by kernel_rfl)
        · exact inL_mem (by kernel_rfl)
      rintro _ ⟨d, rfl, hd⟩
      (dsimp +instances only [gi0,gis,row1,rows1,int1,str1,bool1])
      refine Ret.call (r_OddX l _ 0 300 (by omega) (by omega) (by omega) (by omega) (by omega)) ?_
      rintro _ ⟨lo', rfl, hlo'⟩
      (dsimp +instances only [gi0,gis,row1,rows1,int1,str1,bool1])
      (repeat(first|(refine Ret.pos ?_ ?_;(first|rfl|assumption|(simp only [inI,sl]<;>omega)))|(refine Ret.neg ?_ ?_;(first|rfl|assumption|(simp only [inI,sl]<;>omega)))))
      exact Ret.some ⟨0, rfl, rfl, _, _, rfl, by omega, by omega, d, lo', hi, ms, f, t, rfl, hd, hlo', hhi, hm, by omega, hf, ht⟩
    · refine Ret.call (r_OddX l _ 1 30000000000 (by omega) (by omega) (by omega) (by omega) (by omega)) ?_
      rintro _ ⟨hi', rfl, hhi'⟩
      (dsimp +instances only [gi0,gis,row1,rows1,int1,str1,bool1])
      (repeat(first|(refine Ret.pos ?_ ?_;(first|rfl|assumption|(simp only [inI,sl]<;>omega)))|(refine Ret.neg ?_ ?_;(first|rfl|assumption|(simp only [inI,sl]<;>omega)))))
      exact Ret.some ⟨0, rfl, rfl, _, _, rfl, by omega, by omega, c, lo, hi', ms, f, t, rfl, hc, hlo, hhi', hm, by omega, hf, ht⟩
    · refine Ret.call (r_PickB 0 4 l _ _ (by omega) (by omega) (by kernel_rfl) (by kernel_rfl)) ?_
      rintro _ ⟨m, rfl, hm0, hm1⟩
      (dsimp +instances only [gi0,gis,row1,rows1,int1,str1,bool1])
      (repeat(first|(refine Ret.pos ?_ ?_;(first|rfl|assumption|(simp only [inI,sl]<;>omega)))|(refine Ret.neg ?_ ?_;(first|rfl|assumption|(simp only [inI,sl]<;>omega)))))
      refine Ret.some ⟨0, rfl, rfl, _, _, rfl, by omega, by omega, c, lo, hi, ms ++ [[.i m]], f, t, rfl, hc, hlo, hhi, ?_, by simp; omega, hf, ht⟩
      intro z hz
      rcases List.mem_append.1 hz with hz | hz
      · exact hm z hz
      · rw [List.mem_singleton.1 hz]
        exact ⟨_, rfl, hm0, hm1⟩
    · refine Ret.call (r_OddX l _ 0 100 (by omega) (by omega) (by omega) (by omega) (by omega)) ?_
      rintro _ ⟨f', rfl, hf'⟩
      (dsimp +instances only [gi0,gis,row1,rows1,int1,str1,bool1])
      refine Ret.call (r_OddX l _ 1 345686400000 (by omega) (by omega) (by omega) (by omega) (by omega)) ?_
      rintro _ ⟨t', rfl, ht'⟩
      (dsimp +instances only [gi0,gis,row1,rows1,int1,str1,bool1])
      (repeat(first|(refine Ret.pos ?_ ?_;(first|rfl|assumption|(simp only [inI,sl]<;>omega)))|(refine Ret.neg ?_ ?_;(first|rfl|assumption|(simp only [inI,sl]<;>omega)))))
      exact Ret.some ⟨0, rfl, rfl, _, _, rfl, by omega, by omega, c, lo, hi, ms, f', t', rfl, hc, hlo, hhi, hm, by omega, hf', ht'⟩
def cls4 : List (List G) := [[.s (⟨#[102, 117, 108, 108]⟩ : ByteArray)], [.s (⟨#[102, 117, 108, 108]⟩ : ByteArray)], [.s (⟨#[102, 117, 108, 108]⟩ : ByteArray)], [.s (⟨#[115, 109, 97, 108, 108]⟩ : ByteArray)]]
theorem cls4_mem {x : List G} (h : x ∈ cls4) : ∃ c, x = [.s c] ∧ c ∈ classes := by
  simp only [cls4, List.mem_cons, List.not_mem_nil, or_false] at h
  rcases h with rfl | rfl | rfl | rfl <;> exact ⟨_, rfl, inL_mem (by kernel_rfl)⟩
/-! ### How the stream compares -/
def cmpLI : List Int → List Int → Int
  | x :: xs, y :: ys => or2 (cmpI x y) (cmpLI xs ys)
  | _, _ => 0
theorem cmpInts_eq (xs ys : List Int) (hl : ys.length = xs.length) (hn : xs.length ≤ 100) : F_slices_Compare_int [.l (xs.map fun n => [.i n]), .l (ys.map fun n => [.i n])] = some [.i (cmpLI xs ys)] := by
  refine Ret.toEq ?_
  unfold F_slices_Compare_int
  (dsimp +instances only [gi0,gis,row1,rows1,int1,str1,bool1])
  have r := count_runs (st := st_slices_Compare_int_2) (σ := Unit) (fun _ i => [.l (xs.map fun n => [.i n]), .l (ys.map fun n => [.i n]), .l (xs.map fun n => [.i n]), .i ((xs.map fun n => [G.i n]).length : Int), .i (i : Int)]) xs.length
    (fun _ => (1, [.l (xs.map fun n => [.i n]), .l (ys.map fun n => [.i n])])) (fun _ i => cmpLI (xs.drop i) (ys.drop i) = cmpLI xs ys) (fun c g => c = 0 ∧ g = [.i (cmpLI xs ys)])
    (fun _ i hI hi => by
      have hy : i < ys.length := by omega
      have ex : (xs.map fun n => [G.i n]).getD i [] = [.i (xs[i])] := by simp [List.getD_eq_getElem?_getD, hi]
      have ey : (ys.map fun n => [G.i n]).getD i [] = [.i (ys[i])] := by simp [List.getD_eq_getElem?_getD, hy]
      unfold st_slices_Compare_int_2
      (dsimp +instances only [gi0,gis,row1,rows1,int1,str1,bool1])
      simp only [Int.toNat_natCast, ex, ey, List.length_map]
      (dsimp +instances only [gi0,gis,row1,rows1,int1,str1,bool1])
      refine Ret.pos (by (first|rfl|assumption|(simp only [inI,sl]<;>omega))) (Ret.pos (by (first|rfl|assumption|(simp only [inI,sl]<;>omega))) (Ret.neg (by (first|rfl|assumption|(simp only [inI,sl]<;>omega))) (Ret.pos (by (first|rfl|assumption|(simp only [inI,sl]<;>omega))) ?_)))
      refine Ret.call (Ret.eq (cmpInt_eq _ _)) ?_
      rintro _ rfl
      (dsimp +instances only [gi0,gis,row1,rows1,int1,str1,bool1])
      rw [List.drop_eq_getElem_cons hi, List.drop_eq_getElem_cons hy] at hI
      have hI : or2 (cmpI xs[i] ys[i]) (cmpLI (xs.drop (i + 1)) (ys.drop (i + 1))) = cmpLI xs ys := hI
      unfold or2 at hI
      by_cases e : cmpI xs[i] ys[i] = 0
      · rw [if_neg (by simpa using e)] at hI
        refine Ret.neg (by simpa using e) (Ret.pos (by (first|rfl|assumption|(simp only [inI,sl]<;>omega))) (Ret.some (.inl ⟨(), ?_, hI⟩)))
        simp
      · rw [if_pos e] at hI
        exact Ret.pos (by simpa using e) (Ret.some (.inr ⟨0, _, rfl, rfl, by rw [hI]⟩)))
    (fun _ hI => by
      unfold st_slices_Compare_int_2
      (dsimp +instances only [gi0,gis,row1,rows1,int1,str1,bool1])
      simp only [List.length_map]
      (repeat(first|(refine Ret.pos ?_ ?_;(first|rfl|assumption|(simp only [inI,sl]<;>omega)))|(refine Ret.neg ?_ ?_;(first|rfl|assumption|(simp only [inI,sl]<;>omega)))))
      exact Ret.some rfl) xs.length () 0 (by omega) rfl
  refine Ret.loop (r.to (by omega)) rfl ?_
  rintro _ _ (⟨_, h, rfl, rfl⟩ | ⟨rfl, rfl⟩)
  · (dsimp +instances only [gi0,gis,row1,rows1,int1,str1,bool1])
    simp only [List.length_map]
    refine Ret.neg rfl (Ret.neg (by (first|rfl|assumption|(simp only [inI,sl]<;>omega))) (Ret.some ?_))
    have h : cmpLI (xs.drop xs.length) (ys.drop xs.length) = cmpLI xs ys := h
    rw [List.drop_length, List.drop_eq_nil_of_le (by omega)] at h
    rw [← h]
    rfl
  · (dsimp +instances only [gi0,gis,row1,rows1,int1,str1,bool1])
    exact Ret.pos rfl (Ret.some rfl)
theorem cmp3_eq (a b c a' b' c' : Int) : F_slices_Compare_int [.l [[.i a], [.i b], [.i c]], .l [[.i a'], [.i b'], [.i c']]] = some [.i (or2 (cmpI a a') (or2 (cmpI b b') (cmpI c c')))] := by
  refine (cmpInts_eq [a, b, c] [a', b', c'] rfl (by simp)).trans ?_
  have e : or2 (cmpI c c') 0 = cmpI c c' := by
    unfold or2
    split
    · rfl
    · rename_i h
      have h : cmpI c c' = 0 := Decidable.byContradiction fun h' => h h'
      rw [h]
  show some [G.i (or2 (cmpI a a') (or2 (cmpI b b') (or2 (cmpI c c') 0)))] = _
  rw [e]
theorem cmp2_eq (a b a' b' : Int) : F_slices_Compare_int [.l [[.i a], [.i b]], .l [[.i a'], [.i b']]] = some [.i (or2 (cmpI a a') (cmpI b b'))] := by
  refine (cmpInts_eq [a, b] [a', b'] rfl (by simp)).trans ?_
  have e : or2 (cmpI b b') 0 = cmpI b b' := by
    unfold or2
    split
    · rfl
    · rename_i h
      have h : cmpI b b' = 0 := Decidable.byContradiction fun h' => h h'
      rw [h]
  show some [G.i (or2 (cmpI a a') (or2 (cmpI b b') 0))] = _
  rw [e]
def ordSv (r s : List G) : Int := (gi ((F_pilemake_Stream_Segments_1 [.l [r], .l [s]]).getD []) 0).int
theorem segs1_ok (r s : List G) : Ret (F_pilemake_Stream_Segments_1 [.l [r], .l [s]]) fun g => ∃ v, g = [.i v] := by
  unfold F_pilemake_Stream_Segments_1
  (dsimp +instances only [gi0,gis,row1,rows1,int1,str1,bool1])
  refine Ret.test (fun _ => Ret.test (fun _ => Ret.some ⟨_, rfl⟩) fun _ => Ret.some ⟨_, rfl⟩) fun _ => ?_
  refine Ret.call (Ret.eq (cmp3_eq _ _ _ _ _ _)) ?_
  rintro _ rfl
  exact Ret.some ⟨_, rfl⟩
theorem cmpSegs : Cmp KSegment F_pilemake_Stream_Segments_1 Seg ordSv := ⟨fun r s _ _ => by
  obtain ⟨g, h, v, rfl⟩ := segs1_ok r s
  unfold ordSv
  rw [h]
  rfl, fun _ h => h.eta⟩
theorem sortSegs_eq (rows : List (List G)) (hr : ∀ y ∈ rows, Seg y) (hn : rows.length ≤ 20) : F_slices_SortStableFunc_Segment [.l rows] = some [.l (sortA (ltC ordSv) rows)] := sortF_eq cmpSegs rows hr hn
theorem r_Segments (l : List (List G)) (a : Int) (ha : 0 ≤ a) (ha1 : a ≤ 100) :
    Ret (F_pilemake_Stream_Segments [.l l, .i a]) fun g => ∃ b rows, g = [.l l, .i b, .l rows] ∧ 0 ≤ b ∧ b ≤ 300 ∧ (∀ z ∈ rows, Seg z) ∧ rows.length ≤ 4 := by
  have h4 : cls4.length = 4 := rfl
  unfold F_pilemake_Stream_Segments
  (dsimp +instances only [gi0,gis,row1,rows1,int1,str1,bool1])
  have r := range_all (st := st_pilemake_Stream_Segments_3) (σ := Int × List (List G)) (fun s i => [.l l, .i s.1, .l s.2, .l cls4, .i 4, .i (i : Int)]) cls4 (fun s => (0, [.l l, .i s.1, .l s.2]))
    (fun s i => 0 ≤ s.1 ∧ s.1 ≤ a + 30 * (i : Int) ∧ (∀ z ∈ s.2, Seg z) ∧ s.2.length ≤ i) (a, []) (by rw [h4]; omega) ⟨ha, by simp, by simp, by simp⟩
    (fun s i x ⟨s0, s1, s2, s3⟩ hi hx hm ht => by
      obtain ⟨b, ac⟩ := s
      simp only at s0 s1 s2 s3
      have hi4 : i < 4 := hi
      obtain ⟨c, rfl, hc⟩ := cls4_mem hm
      unfold st_pilemake_Stream_Segments_3
      (dsimp +instances only [gi0,gis,row1,rows1,int1,str1,bool1])
      simp only [Int.toNat_natCast, hx, h4]
      (dsimp +instances only [gi0,gis,row1,rows1,int1,str1,bool1])
      refine Ret.pos (by (first|rfl|assumption|(simp only [inI,sl]<;>omega))) (Ret.pos (by (first|rfl|assumption|(simp only [inI,sl]<;>omega))) ?_)
      refine Ret.call (r_Flip l b 5 (by omega) (by omega) (by omega) (by omega)) ?_
      rintro _ ⟨f, rfl⟩
      (dsimp +instances only [gi0,gis,row1,rows1,int1,str1,bool1])
      cases f with
      | true =>
        (repeat(first|(refine Ret.pos ?_ ?_;(first|rfl|assumption|(simp only [inI,sl]<;>omega)))|(refine Ret.neg ?_ ?_;(first|rfl|assumption|(simp only [inI,sl]<;>omega)))))
        exact Ret.some ⟨(b + 1, ac), by simp, by simp only; omega, by simp only; omega, s2, by simp only; omega⟩
      | false =>
        refine Ret.neg rfl ?_
        refine Ret.call (r_PickB 0 200 l _ _ (by omega) (by omega) (by kernel_rfl) (by kernel_rfl)) ?_
        rintro _ ⟨lo, rfl, hlo0, hlo1⟩
        (dsimp +instances only [gi0,gis,row1,rows1,int1,str1,bool1])
        refine Ret.call (r_PickB 0 50 l _ _ (by omega) (by omega) (by kernel_rfl) (by kernel_rfl)) ?_
        rintro _ ⟨fr, rfl, hf0, hf1⟩
        (dsimp +instances only [gi0,gis,row1,rows1,int1,str1,bool1])
        refine Ret.call (r_PickB 0 100 l _ _ (by omega) (by omega) (by kernel_rfl) (by kernel_rfl)) ?_
        rintro _ ⟨wd, rfl, hw0, hw1⟩
        (dsimp +instances only [gi0,gis,row1,rows1,int1,str1,bool1])
        refine Ret.pos (by (first|rfl|assumption|(simp only [inI,sl]<;>omega))) ?_
        refine Ret.call (r_PickB 0 1000 l _ _ (by omega) (by omega) (by kernel_rfl) (by kernel_rfl)) ?_
        rintro _ ⟨tm, rfl, ht0, ht1⟩
        (dsimp +instances only [gi0,gis,row1,rows1,int1,str1,bool1])
        refine Ret.pos (by (first|rfl|assumption|(simp only [inI,sl]<;>omega))) ?_
        refine Ret.loop (modes_in l ac cls4 c c lo (lo + wd) fr (fr + tm) 4 i _ (by omega) (by omega)) (by simp) ?_
        rintro _ _ ⟨rfl, b', ms, rfl, q1, q2, q3, q4⟩
        (dsimp +instances only [gi0,gis,row1,rows1,int1,str1,bool1])
        have fin : ∀ ms' : List (List G), (∀ z ∈ ms', Mod z) → ms'.length ≤ 3 → _ := fun ms' hms hml => segs_tail l ac cls4 c c lo (lo + wd) fr (fr + tm) 4 i b' ms' (by omega) (by omega) hc hc ⟨by omega, by omega⟩ ⟨by omega, by omega⟩ ⟨by omega, by omega⟩ ⟨by omega, by omega⟩ hms hml (by omega)
        refine Ret.test (fun _ => ?_) fun _ => ?_
        · refine Ret.tail (P := fun x g => x = 0 ∧ ∃ b2 r, g = [.l l, .i b2, .l (ac ++ [r]), .l cls4, .i 4, .i (i : Int)] ∧ b' ≤ b2 ∧ b2 ≤ b' + 10 ∧ Seg r) (fin [[.i 1]] (by
            intro z hz
            rw [List.mem_singleton.1 hz]
            exact ⟨1, rfl, by omega, by omega⟩) (by simp)) (by simp) ?_
          rintro _ _ ⟨rfl, b2, r, rfl, g1, g2, g3⟩
          (dsimp +instances only [gi0,gis,row1,rows1,int1,str1,bool1])
          (repeat(first|(refine Ret.pos ?_ ?_;(first|rfl|assumption|(simp only [inI,sl]<;>omega)))|(refine Ret.neg ?_ ?_;(first|rfl|assumption|(simp only [inI,sl]<;>omega)))))
          refine Ret.some ⟨(b2, ac ++ [r]), by simp, by simp only; omega, by simp only; omega, ?_, by simp; omega⟩
          intro z hz
          rcases List.mem_append.1 hz with hz | hz
          · exact s2 z hz
          · rw [List.mem_singleton.1 hz]
            exact g3
        · refine Ret.tail (P := fun x g => x = 0 ∧ ∃ b2 r, g = [.l l, .i b2, .l (ac ++ [r]), .l cls4, .i 4, .i (i : Int)] ∧ b' ≤ b2 ∧ b2 ≤ b' + 10 ∧ Seg r) (fin ms q3 q4) (by simp) ?_
          rintro _ _ ⟨rfl, b2, r, rfl, g1, g2, g3⟩
          (dsimp +instances only [gi0,gis,row1,rows1,int1,str1,bool1])
          (repeat(first|(refine Ret.pos ?_ ?_;(first|rfl|assumption|(simp only [inI,sl]<;>omega)))|(refine Ret.neg ?_ ?_;(first|rfl|assumption|(simp only [inI,sl]<;>omega)))))
          refine Ret.some ⟨(b2, ac ++ [r]), by simp, by simp only; omega, by simp only; omega, ?_, by simp; omega⟩
          intro z hz
          rcases List.mem_append.1 hz with hz | hz
          · exact s2 z hz
          · rw [List.mem_singleton.1 hz]
            exact g3)
    (fun s hI => by
      unfold st_pilemake_Stream_Segments_3
      (dsimp +instances only [gi0,gis,row1,rows1,int1,str1,bool1])
      simp only [h4]
      (repeat(first|(refine Ret.pos ?_ ?_;(first|rfl|assumption|(simp only [inI,sl]<;>omega)))|(refine Ret.neg ?_ ?_;(first|rfl|assumption|(simp only [inI,sl]<;>omega)))))
      exact Ret.some rfl)
  refine Ret.loop r rfl ?_
  rintro _ _ ⟨⟨b, ac⟩, ⟨q1, q2, q3, q4⟩, rfl, rfl⟩
  rw [h4] at q2 q4
  simp only at q2 q4
  (dsimp +instances only [gi0,gis,row1,rows1,int1,str1,bool1])
  refine Ret.callb (Ret.eq (sortSegs_eq ac q3 (by omega))) (by (first|rfl|assumption|(simp only [inI,sl]<;>omega))) ?_
  rintro _ rfl
  (dsimp +instances only [gi0,gis,row1,rows1,int1,str1,bool1])
  have hl := sortA_length (ltC ordSv) ac
  refine Ret.pos (by rw [hl]; (first|rfl|assumption|(simp only [inI,sl]<;>omega))) (Ret.some ⟨b, _, rfl, q1, by omega, sortA_all q3, by omega⟩)
end
end Go.Proofs.SYtpbepppkchjccaaGreatDoor

namespace Go.Proofs.SYtpbepppkchjccaaGreatDoor
open Go Go.AL Go.Proofs
noncomputable section
def okClass (s : ByteArray) : Bool := inL [⟨#[102, 117, 108, 108]⟩, ⟨#[115, 109, 97, 108, 108]⟩, ⟨#[110, 111, 110, 101]⟩] s
theorem isClass_eq {s : ByteArray} (h : s ∈ classes) : F_kit_IsKey [.s s] = some [.t (okClass s)] := by
  simp only [classes, List.mem_cons, List.not_mem_nil, or_false] at h
  rcases h with rfl | rfl | rfl | rfl | rfl <;> kernel_rfl
theorem class_eq {s : ByteArray} (h : s ∈ classes) : F_pileref2_Key [.s s] = some [.t (okClass s)] := by
  simp only [classes, List.mem_cons, List.not_mem_nil, or_false] at h
  rcases h with rfl | rfl | rfl | rfl | rfl <;> kernel_rfl
theorem isMomentX (t : Int) : F_kit_IsMoment [.i t] = some [.t (inB t 0 345686399999)] := by
  unfold F_kit_IsMoment
  (dsimp +instances only [gi0,gis,row1,rows1,int1,str1,bool1])
  rw [outside_eq]
  show some [G.t (!(!inB t 0 345686399999))] = _
  rw [Bool.not_not]
theorem isModeX (t : Int) : F_kit_IsMode [.i t] = some [.t (inB t 1 3)] := by
  unfold F_kit_IsMode
  (dsimp +instances only [gi0,gis,row1,rows1,int1,str1,bool1])
  rw [outside_eq]
  show some [G.t (!(!inB t 1 3))] = _
  rw [Bool.not_not]
def okTime (f t : Int) : Bool := inB f 0 (t - 1) && leI t 345686400000
theorem inB_iff {v lo hi : Int} : inB v lo hi = true ↔ lo ≤ v ∧ v ≤ hi := by
  unfold inB
  rw [leI_eq, leI_eq, Bool.and_eq_true, decide_eq_true_eq, decide_eq_true_eq]
theorem inB_not {v lo hi : Int} : inB v lo hi = false ↔ v < lo ∨ hi < v := by
  rw [← Bool.not_eq_true, inB_iff]
  omega
theorem okTime_iff {f t : Int} : okTime f t = true ↔ 0 ≤ f ∧ f < t ∧ t ≤ 345686400000 := by
  unfold okTime
  rw [leI_eq, Bool.and_eq_true, inB_iff, decide_eq_true_eq]
  omega
theorem isTime_eq (f t : Int) (ht : b40 t) : F_kit_IsTime [.l [[.i f, .i t]]] = some [.t (okTime f t)] := by
  unfold b40 at ht
  refine Ret.toEq ?_
  unfold F_kit_IsTime okTime
  (dsimp +instances only [gi0,gis,row1,rows1,int1,str1,bool1])
  refine Ret.pos (by (first|rfl|assumption|(simp only [inI,sl]<;>omega))) ?_
  refine Ret.call (Ret.eq (outside_eq _ _ _)) ?_
  rintro _ rfl
  (dsimp +instances only [gi0,gis,row1,rows1,int1,str1,bool1])
  cases inB f 0 (t - 1) with
  | true => exact Ret.pos rfl (Ret.some rfl)
  | false => exact Ret.neg rfl (Ret.some rfl)
theorem timeFault_eq (f t : Int) : F_pileref2_timeFault [.l [[.i f, .i t]]] = some [.i (bif okTime f t then 0 else 1)] := by
  refine Ret.toEq ?_
  unfold F_pileref2_timeFault
  (dsimp +instances only [gi0,gis,row1,rows1,int1,str1,bool1])
  cases h : okTime f t with
  | true =>
    obtain ⟨h1, h2, h3⟩ := okTime_iff.1 h
    exact Ret.neg (by (first|rfl|assumption|(simp only [inI,sl]<;>omega))) (Ret.neg (by (first|rfl|assumption|(simp only [inI,sl]<;>omega))) (Ret.neg (by (first|rfl|assumption|(simp only [inI,sl]<;>omega))) (Ret.some rfl)))
  | false =>
    refine Ret.test (fun _ => Ret.some rfl) fun h1 => Ret.test (fun _ => Ret.some rfl) fun h2 => Ret.test (fun _ => Ret.some rfl) fun h3 => ?_
    rw [ltI_eq, decide_eq_false_iff_not] at h1 h3
    rw [leI_eq, decide_eq_false_iff_not] at h2
    rw [okTime_iff.2 ⟨by omega, by omega, by omega⟩] at h
    cases h
def stepMd (ms : List (List G)) (i : Nat) : Int :=
  if inB (gi (ms.getD i []) 0).int 1 3 = false then 4 else if 0 < i ∧ (gi (ms.getD i []) 0).int ≤ (gi (ms.getD (i - 1) []) 0).int then 7 else 0
def faultMd (ms : List (List G)) : Int := if ms.length = 0 then 8 else fw (stepMd ms) ms.length
theorem modes_ok (ms : List (List G)) (hn : ms.length ≤ 100) : F_band_modesFault [.l ms] = some [.i (faultMd ms)] := by
  refine Ret.toEq ?_
  unfold F_band_modesFault faultMd
  (dsimp +instances only [gi0,gis,row1,rows1,int1,str1,bool1])
  by_cases h0 : ms.length = 0
  · refine Ret.pos (by (first|rfl|assumption|(simp only [inI,sl]<;>omega))) ?_
    rw [if_pos h0]
    exact Ret.some rfl
  · refine Ret.neg (by (first|rfl|assumption|(simp only [inI,sl]<;>omega))) ?_
    rw [if_neg h0]
    refine Ret.loop (fw_loop (st := st_band_modesFault_4) (fun i => [.l ms, .l ms, .i (ms.length : Int), .i (i : Int)]) ms.length (stepMd ms) [] (by omega) (fun i hi => ?_) ?_) rfl ?_
    · unfold st_band_modesFault_4 stepMd
      (dsimp +instances only [gi0,gis,row1,rows1,int1,str1,bool1])
      simp only [Int.toNat_natCast]
      refine Ret.pos (by (first|rfl|assumption|(simp only [inI,sl]<;>omega))) (Ret.pos (by (first|rfl|assumption|(simp only [inI,sl]<;>omega))) ?_)
      refine Ret.call (Ret.eq (isModeX _)) ?_
      rintro _ rfl
      (dsimp +instances only [gi0,gis,row1,rows1,int1,str1,bool1])
      cases hb : inB (gi (ms.getD i []) 0).int 1 3 with
      | false =>
        refine Ret.pos rfl (Ret.some (.inr ?_))
        rw [if_pos rfl]
        exact ⟨by omega, rfl⟩
      | true =>
        refine Ret.neg rfl ?_
        rw [if_neg (by simp)]
        by_cases hi0 : 0 < i
        · have ei : ((i : Int) - 1).toNat = i - 1 := by omega
          simp only [ei]
          refine Ret.pos (by (first|rfl|assumption|(simp only [inI,sl]<;>omega))) (Ret.pos (by (first|rfl|assumption|(simp only [inI,sl]<;>omega))) (Ret.pos (by (first|rfl|assumption|(simp only [inI,sl]<;>omega))) ?_))
          by_cases hle : (gi (ms.getD i []) 0).int ≤ (gi (ms.getD (i - 1) []) 0).int
          · refine Ret.pos (by (first|rfl|assumption|(simp only [inI,sl]<;>omega))) (Ret.some (.inr ?_))
            rw [if_pos ⟨hi0, hle⟩]
            exact ⟨by omega, rfl⟩
          · refine Ret.neg (by (first|rfl|assumption|(simp only [inI,sl]<;>omega))) (Ret.pos (by (first|rfl|assumption|(simp only [inI,sl]<;>omega))) (Ret.some (.inl ?_)))
            rw [if_neg fun h => hle h.2]
            exact ⟨rfl, rfl⟩
        · refine Ret.neg (by (first|rfl|assumption|(simp only [inI,sl]<;>omega))) (Ret.pos (by (first|rfl|assumption|(simp only [inI,sl]<;>omega))) (Ret.some (.inl ?_)))
          rw [if_neg fun h => hi0 h.1]
          exact ⟨rfl, rfl⟩
    · unfold st_band_modesFault_4
      (dsimp +instances only [gi0,gis,row1,rows1,int1,str1,bool1])
      (repeat(first|(refine Ret.pos ?_ ?_;(first|rfl|assumption|(simp only [inI,sl]<;>omega)))|(refine Ret.neg ?_ ?_;(first|rfl|assumption|(simp only [inI,sl]<;>omega)))))
      exact Ret.some rfl
    · rintro _ _ (⟨rfl, h, rfl⟩ | ⟨rfl, rfl, _⟩)
      · rw [h]
        exact Ret.neg rfl (Ret.some rfl)
      · exact Ret.pos rfl (Ret.some rfl)
def ordS (r s : List G) : Int := or2 (cmpS (gi r 0).str (gi s 0).str) (or2 (cmpI (gi r 1).int (gi s 1).int) (or2 (cmpI (gi r 2).int (gi s 2).int) (cmpI (gi r 4).int (gi s 4).int)))
def okHz (lo hi : Int) : Bool := leI 0 lo && ltI lo hi && leI hi 30000000000
theorem okHz_iff {lo hi : Int} : okHz lo hi = true ↔ 0 ≤ lo ∧ lo < hi ∧ hi ≤ 30000000000 := by
  unfold okHz
  rw [leI_eq, ltI_eq, leI_eq, Bool.and_eq_true, Bool.and_eq_true, decide_eq_true_eq, decide_eq_true_eq, decide_eq_true_eq, and_assoc]
def faultS1 (x : List G) : Int :=
  if okClass (gi x 0).str = false then 5 else if okHz (gi x 1).int (gi x 2).int = false then 1 else if faultMd (gi x 3).rows ≠ 0 then faultMd (gi x 3).rows else if okTime (gi x 4).int (gi x 5).int = false then 1 else 0
def stepS (rows : List (List G)) (i : Nat) : Int :=
  if faultS1 (rows.getD i []) ≠ 0 then faultS1 (rows.getD i []) else if 0 < i ∧ 0 ≤ ordS (rows.getD (i - 1) []) (rows.getD i []) then 7 else 0
def faultSegs (rows : List (List G)) : Int := if 500 < rows.length then 2 else fw (stepS rows) rows.length
theorem or_four (a b c d : Int) : F_cmp_Or_int [.l [[.i a], [.i b], [.i c], [.i d]]] = some [.i (or2 a (or2 b (or2 c d)))] := by
  refine Ret.toEq ?_
  unfold F_cmp_Or_int
  (dsimp +instances only [gi0,gis,row1,rows1,int1,str1,bool1])
  have h := or_runs [[.i a], [.i b], [.i c], [.i d]] [] (by simp)
  refine Ret.loop (h.to (by simp)) (by (first|rfl|assumption|(simp only [inI,sl]<;>omega))) ?_
  rintro x g ⟨hx, rfl⟩
  have q : orL [[.i a], [.i b], [.i c], [.i d]] = or2 a (or2 b (or2 c d)) := by
    simp only [orL, or2]
    (dsimp +instances only [gi0,gis,row1,rows1,int1,str1,bool1])
    by_cases h1 : a = 0 <;> by_cases h2 : b = 0 <;> by_cases h3 : c = 0 <;> by_cases h4 : d = 0 <;> simp [h1, h2, h3, h4]
  rw [q]
  (dsimp +instances only [gi0,gis,row1,rows1,int1,str1,bool1])
  exact Ret.test (fun _ => Ret.some rfl) fun _ => Ret.some rfl
theorem compareSegs_eq (r s : List G) : F_band_compareSegments [.l [r], .l [s]] = some [.i (ordS r s)] := by
  refine Ret.toEq ?_
  unfold F_band_compareSegments ordS
  (dsimp +instances only [gi0,gis,row1,rows1,int1,str1,bool1])
  refine Ret.call (Ret.eq (rfl : F_strings_Compare [.s (gi r 0).str, .s (gi s 0).str] = some [.i (cmpS (gi r 0).str (gi s 0).str)])) ?_
  rintro _ rfl
  refine Ret.call (Ret.eq (cmpInt_eq _ _)) ?_
  rintro _ rfl
  refine Ret.call (Ret.eq (cmpInt_eq _ _)) ?_
  rintro _ rfl
  refine Ret.call (Ret.eq (cmpInt_eq _ _)) ?_
  rintro _ rfl
  (dsimp +instances only [gi0,gis,row1,rows1,int1,str1,bool1])
  refine Ret.call (Ret.eq (or_four _ _ _ _)) ?_
  rintro _ rfl
  exact Ret.some rfl
theorem stepS_end {rows : List (List G)} {i : Nat} (h : faultS1 (rows.getD i []) = 0) : stepS rows i = if 0 < i ∧ 0 ≤ ordS (rows.getD (i - 1) []) (rows.getD i []) then 7 else 0 := by
  unfold stepS
  rw [if_neg (by simpa using h)]
theorem stepS_bad {rows : List (List G)} {i : Nat} (h : faultS1 (rows.getD i []) ≠ 0) : stepS rows i = faultS1 (rows.getD i []) := by
  unfold stepS
  rw [if_pos h]
theorem checkSegs_step (rows : List (List G)) (hr : ∀ z ∈ rows, Seg z) (hn : rows.length ≤ 500) (i : Nat) (hi : i < rows.length) :
    Ret (st_band_CheckSegments_4 [.l rows, .l rows, .i (rows.length : Int), .i (i : Int)]) fun o => (stepS rows i = 0 ∧ o = (none, [.l rows, .l rows, .i (rows.length : Int), .i ((i + 1 : Nat) : Int)])) ∨ (stepS rows i ≠ 0 ∧ o = (some 0, [.i (stepS rows i)])) := by
  obtain ⟨c, lo, hz, ms, f, t, hx, hc, hlo, hhi, hm, hml, hf, ht⟩ := hr _ (getD_row hi)
  have hC : Seg (rows.getD i []) := hr _ (getD_row hi)
  unfold st_band_CheckSegments_4
  (dsimp +instances only [gi0,gis,row1,rows1,int1,str1,bool1])
  simp only [Int.toNat_natCast, hC.eta]
  have f0 : (gi (rows.getD i []) 0).str = c := by rw [hx]; rfl
  have f1 : (gi (rows.getD i []) 1).int = lo := by rw [hx]; rfl
  have f2 : (gi (rows.getD i []) 2).int = hz := by rw [hx]; rfl
  have f3 : (gi (rows.getD i []) 3).rows = ms := by rw [hx]; rfl
  have f4 : (gi (rows.getD i []) 4).int = f := by rw [hx]; rfl
  have f5 : (gi (rows.getD i []) 5).int = t := by rw [hx]; rfl
  have ef : faultS1 (rows.getD i []) = if okClass c = false then 5 else if okHz lo hz = false then 1 else if faultMd ms ≠ 0 then faultMd ms else if okTime f t = false then 1 else 0 := by
    unfold faultS1
    rw [f0, f1, f2, f3, f4, f5]
  simp only [f0, f1, f2, f3, f4, f5]
  have hhi' := hhi
  unfold b40 at hhi'
  refine Ret.pos (by (first|rfl|assumption|(simp only [inI,sl]<;>omega))) (Ret.pos (by (first|rfl|assumption|(simp only [inI,sl]<;>omega))) ?_)
  refine Ret.call (Ret.eq (isClass_eq hc)) ?_
  rintro _ rfl
  (dsimp +instances only [gi0,gis,row1,rows1,int1,str1,bool1])
  cases h0 : okClass c with
  | false =>
    rw [h0, if_pos rfl] at ef
    rw [stepS_bad (by rw [ef]; omega), ef]
    exact Ret.pos rfl (Ret.some (.inr ⟨by omega, rfl⟩))
  | true =>
  rw [h0, if_neg (by simp)] at ef
  refine Ret.neg rfl (Ret.pos (by (first|rfl|assumption|(simp only [inI,sl]<;>omega))) ?_)
  refine Ret.call (Ret.eq (outside_eq _ _ _)) ?_
  rintro _ rfl
  (dsimp +instances only [gi0,gis,row1,rows1,int1,str1,bool1])
  cases h1 : okHz lo hz with
  | false =>
    rw [h1, if_pos rfl] at ef
    rw [stepS_bad (by rw [ef]; omega), ef]
    refine Ret.test (fun _ => Ret.some (.inr ⟨by omega, rfl⟩)) fun h2 => ?_
    refine Ret.pos ?_ (Ret.some (.inr ⟨by omega, rfl⟩))
    have h2 : inB lo 0 (hz - 1) = true := by simpa using h2
    rw [ltI_eq, decide_eq_true_eq]
    refine Int.not_le.1 fun hle => ?_
    obtain ⟨g1, g2⟩ := inB_iff.1 h2
    rw [okHz_iff.2 ⟨g1, by omega, hle⟩] at h1
    cases h1
  | true =>
  rw [h1, if_neg (by simp)] at ef
  obtain ⟨g1, g2, g3⟩ := okHz_iff.1 h1
  have hin : inB lo 0 (hz - 1) = true := inB_iff.2 ⟨g1, by omega⟩
  rw [hin]
  refine Ret.neg rfl (Ret.neg (by (first|rfl|assumption|(simp only [inI,sl]<;>omega))) ?_)
  refine Ret.call (Ret.eq (modes_ok ms (by omega))) ?_
  rintro _ rfl
  (dsimp +instances only [gi0,gis,row1,rows1,int1,str1,bool1])
  by_cases h2 : faultMd ms = 0
  rotate_left
  · rw [if_pos h2] at ef
    rw [stepS_bad (by rw [ef]; exact h2), ef]
    exact Ret.pos (by simpa using h2) (Ret.some (.inr ⟨h2, rfl⟩))
  rw [if_neg (by simpa using h2)] at ef
  refine Ret.neg (by simpa using h2) ?_
  refine Ret.call (Ret.eq (isTime_eq f t ht)) ?_
  rintro _ rfl
  (dsimp +instances only [gi0,gis,row1,rows1,int1,str1,bool1])
  cases h3 : okTime f t with
  | false =>
    rw [h3, if_pos rfl] at ef
    rw [stepS_bad (by rw [ef]; omega), ef]
    exact Ret.pos rfl (Ret.some (.inr ⟨by omega, rfl⟩))
  | true =>
  rw [h3, if_neg (by simp)] at ef
  refine Ret.neg rfl ?_
  rw [stepS_end ef]
  by_cases hi0 : 0 < i
  · have ei : ((i : Int) - 1).toNat = i - 1 := by omega
    have hy : Seg (rows.getD (i - 1) []) := hr _ (getD_row (by omega))
    simp only [ei, hy.eta]
    refine Ret.pos (by (first|rfl|assumption|(simp only [inI,sl]<;>omega))) (Ret.pos (by (first|rfl|assumption|(simp only [inI,sl]<;>omega))) (Ret.pos (by (first|rfl|assumption|(simp only [inI,sl]<;>omega))) ?_))
    refine Ret.call (Ret.eq (compareSegs_eq _ _)) ?_
    rintro _ rfl
    (dsimp +instances only [gi0,gis,row1,rows1,int1,str1,bool1])
    by_cases h7 : 0 ≤ ordS (rows.getD (i - 1) []) (rows.getD i [])
    · rw [if_pos ⟨hi0, h7⟩]
      exact Ret.pos (by (first|rfl|assumption|(simp only [inI,sl]<;>omega))) (Ret.some (.inr ⟨by omega, rfl⟩))
    · rw [if_neg fun h => h7 h.2]
      exact Ret.neg (by (first|rfl|assumption|(simp only [inI,sl]<;>omega))) (Ret.pos (by (first|rfl|assumption|(simp only [inI,sl]<;>omega))) (Ret.some (.inl ⟨rfl, rfl⟩)))
  · rw [if_neg fun h => hi0 h.1]
    exact Ret.neg (by (first|rfl|assumption|(simp only [inI,sl]<;>omega))) (Ret.pos (by (first|rfl|assumption|(simp only [inI,sl]<;>omega))) (Ret.some (.inl ⟨rfl, rfl⟩)))
theorem checkSegs_ok (rows : List (List G)) (hr : ∀ z ∈ rows, Seg z) : F_band_CheckSegments [.l rows] = some [.i (faultSegs rows)] := by
  refine Ret.toEq ?_
  unfold F_band_CheckSegments faultSegs
  (dsimp +instances only [gi0,gis,row1,rows1,int1,str1,bool1])
  by_cases hn : 500 < rows.length
  · refine Ret.pos (by (first|rfl|assumption|(simp only [inI,sl]<;>omega))) ?_
    rw [if_pos hn]
    exact Ret.some rfl
  · refine Ret.neg (by (first|rfl|assumption|(simp only [inI,sl]<;>omega))) ?_
    rw [if_neg hn]
    refine Ret.loop (fw_loop (fun i => [.l rows, .l rows, .i (rows.length : Int), .i (i : Int)]) rows.length (stepS rows) [] (by omega) (checkSegs_step rows hr (by omega)) ?_) rfl ?_
    · unfold st_band_CheckSegments_4
      (dsimp +instances only [gi0,gis,row1,rows1,int1,str1,bool1])
      (repeat(first|(refine Ret.pos ?_ ?_;(first|rfl|assumption|(simp only [inI,sl]<;>omega)))|(refine Ret.neg ?_ ?_;(first|rfl|assumption|(simp only [inI,sl]<;>omega)))))
      exact Ret.some rfl
    · rintro _ _ (⟨rfl, h, rfl⟩ | ⟨rfl, rfl, _⟩)
      · rw [h]
        exact Ret.some rfl
      · exact Ret.some rfl
theorem modesR (ms : List (List G)) (hn : ms.length ≤ 100) (c : ByteArray) (lo hz f t i n i' : Int) (rows rows2 : List (List G)) :
    RetL st_pileref2_SegmentsFault_13 [.s c, .i lo, .i hz, .l ms, .i f, .i t, .l rows, .i i, .l rows2, .i n, .i i', .l ms, .i (ms.length : Int), .i 0] fun k g =>
      (k = 1 ∧ fw (stepMd ms) ms.length = 0 ∧ g = [.s c, .i lo, .i hz, .l ms, .i f, .i t, .l rows, .i i, .l rows2, .i n, .i i']) ∨ (k = 0 ∧ g = [.i (fw (stepMd ms) ms.length)] ∧ fw (stepMd ms) ms.length ≠ 0) := by
  refine fw_loop (st := st_pileref2_SegmentsFault_13) (fun j => [.s c, .i lo, .i hz, .l ms, .i f, .i t, .l rows, .i i, .l rows2, .i n, .i i', .l ms, .i (ms.length : Int), .i (j : Int)]) ms.length (stepMd ms) _ (by omega) (fun j hi => ?_) ?_
  · unfold st_pileref2_SegmentsFault_13 stepMd
    (dsimp +instances only [gi0,gis,row1,rows1,int1,str1,bool1])
    simp only [Int.toNat_natCast]
    refine Ret.pos (by (first|rfl|assumption|(simp only [inI,sl]<;>omega))) (Ret.pos (by (first|rfl|assumption|(simp only [inI,sl]<;>omega))) ?_)
    refine Ret.call (Ret.eq (in_eq _ _ _)) ?_
    rintro _ rfl
    (dsimp +instances only [gi0,gis,row1,rows1,int1,str1,bool1])
    cases hb : inB (gi (ms.getD j []) 0).int 1 3 with
    | false =>
      refine Ret.pos rfl (Ret.some (.inr ?_))
      rw [if_pos rfl]
      exact ⟨by omega, rfl⟩
    | true =>
      refine Ret.neg rfl ?_
      rw [if_neg (by simp)]
      by_cases hi0 : 0 < j
      · have ei : ((j : Int) - 1).toNat = j - 1 := by omega
        simp only [ei]
        refine Ret.pos (by (first|rfl|assumption|(simp only [inI,sl]<;>omega))) (Ret.pos (by (first|rfl|assumption|(simp only [inI,sl]<;>omega))) (Ret.pos (by (first|rfl|assumption|(simp only [inI,sl]<;>omega))) ?_))
        by_cases hle : (gi (ms.getD j []) 0).int ≤ (gi (ms.getD (j - 1) []) 0).int
        · refine Ret.pos (by (first|rfl|assumption|(simp only [inI,sl]<;>omega))) (Ret.some (.inr ?_))
          rw [if_pos ⟨hi0, hle⟩]
          exact ⟨by omega, rfl⟩
        · refine Ret.neg (by (first|rfl|assumption|(simp only [inI,sl]<;>omega))) (Ret.pos (by (first|rfl|assumption|(simp only [inI,sl]<;>omega))) (Ret.some (.inl ?_)))
          rw [if_neg fun h => hle h.2]
          exact ⟨rfl, rfl⟩
      · refine Ret.neg (by (first|rfl|assumption|(simp only [inI,sl]<;>omega))) (Ret.pos (by (first|rfl|assumption|(simp only [inI,sl]<;>omega))) (Ret.some (.inl ?_)))
        rw [if_neg fun h => hi0 h.1]
        exact ⟨rfl, rfl⟩
  · unfold st_pileref2_SegmentsFault_13
    (dsimp +instances only [gi0,gis,row1,rows1,int1,str1,bool1])
    (repeat(first|(refine Ret.pos ?_ ?_;(first|rfl|assumption|(simp only [inI,sl]<;>omega)))|(refine Ret.neg ?_ ?_;(first|rfl|assumption|(simp only [inI,sl]<;>omega)))))
    exact Ret.some rfl
theorem segsFault_step (rows : List (List G)) (hr : ∀ z ∈ rows, Seg z) (hn : rows.length ≤ 500) (i : Nat) (hi : i < rows.length) :
    Ret (st_pileref2_SegmentsFault_4 [.l rows, .l rows, .i (rows.length : Int), .i (i : Int)]) fun o => (stepS rows i = 0 ∧ o = (none, [.l rows, .l rows, .i (rows.length : Int), .i ((i + 1 : Nat) : Int)])) ∨ (stepS rows i ≠ 0 ∧ o = (some 0, [.i (stepS rows i)])) := by
  obtain ⟨c, lo, hz, ms, f, t, hx, hc, hlo, hhi, hm, hml, hf, ht⟩ := hr _ (getD_row hi)
  have hC : Seg (rows.getD i []) := hr _ (getD_row hi)
  unfold st_pileref2_SegmentsFault_4
  (dsimp +instances only [gi0,gis,row1,rows1,int1,str1,bool1])
  simp only [Int.toNat_natCast]
  have f0 : (gi (rows.getD i []) 0).str = c := by rw [hx]; rfl
  have f1 : (gi (rows.getD i []) 1).int = lo := by rw [hx]; rfl
  have f2 : (gi (rows.getD i []) 2).int = hz := by rw [hx]; rfl
  have f3 : (gi (rows.getD i []) 3).rows = ms := by rw [hx]; rfl
  have f4 : (gi (rows.getD i []) 4).int = f := by rw [hx]; rfl
  have f5 : (gi (rows.getD i []) 5).int = t := by rw [hx]; rfl
  have ef : faultS1 (rows.getD i []) = if okClass c = false then 5 else if okHz lo hz = false then 1 else if faultMd ms ≠ 0 then faultMd ms else if okTime f t = false then 1 else 0 := by
    unfold faultS1
    rw [f0, f1, f2, f3, f4, f5]
  simp only [f0, f1, f2, f3, f4, f5]
  refine Ret.pos (by (first|rfl|assumption|(simp only [inI,sl]<;>omega))) (Ret.pos (by (first|rfl|assumption|(simp only [inI,sl]<;>omega))) ?_)
  refine Ret.call (Ret.eq (class_eq hc)) ?_
  rintro _ rfl
  (dsimp +instances only [gi0,gis,row1,rows1,int1,str1,bool1])
  cases h0 : okClass c with
  | false =>
    rw [h0, if_pos rfl] at ef
    rw [stepS_bad (by rw [ef]; omega), ef]
    exact Ret.pos rfl (Ret.some (.inr ⟨by omega, rfl⟩))
  | true =>
  rw [h0, if_neg (by simp)] at ef
  refine Ret.neg rfl ?_
  cases h1 : okHz lo hz with
  | false =>
    rw [h1, if_pos rfl] at ef
    rw [stepS_bad (by rw [ef]; omega), ef]
    refine Ret.test (fun _ => Ret.some (.inr ⟨by omega, rfl⟩)) fun h2 => Ret.test (fun _ => Ret.some (.inr ⟨by omega, rfl⟩)) fun h3 => Ret.test (fun _ => Ret.some (.inr ⟨by omega, rfl⟩)) fun h4 => ?_
    rw [ltI_eq, decide_eq_false_iff_not] at h2 h4
    rw [leI_eq, decide_eq_false_iff_not] at h3
    rw [okHz_iff.2 ⟨by omega, by omega, by omega⟩] at h1
    cases h1
  | true =>
  rw [h1, if_neg (by simp)] at ef
  obtain ⟨g1, g2, g3⟩ := okHz_iff.1 h1
  refine Ret.neg (by (first|rfl|assumption|(simp only [inI,sl]<;>omega))) (Ret.neg (by (first|rfl|assumption|(simp only [inI,sl]<;>omega))) (Ret.neg (by (first|rfl|assumption|(simp only [inI,sl]<;>omega))) ?_))
  by_cases hm0 : ms.length = 0
  · have e8 : faultMd ms = 8 := by
      unfold faultMd
      rw [if_pos hm0]
    rw [e8, if_pos (by omega)] at ef
    rw [stepS_bad (by rw [ef]; omega), ef]
    exact Ret.pos (by (first|rfl|assumption|(simp only [inI,sl]<;>omega))) (Ret.some (.inr ⟨by omega, rfl⟩))
  have e8 : faultMd ms = fw (stepMd ms) ms.length := by
    unfold faultMd
    rw [if_neg hm0]
  refine Ret.neg (by (first|rfl|assumption|(simp only [inI,sl]<;>omega))) ?_
  refine Ret.loop (modesR ms (by omega) c lo hz f t i rows.length i rows rows) (by simp) ?_
  rintro _ _ (⟨rfl, h2, rfl⟩ | ⟨rfl, rfl, h2⟩)
  rotate_left
  · rw [e8, if_pos h2] at ef
    rw [stepS_bad (by rw [ef]; exact h2), ef]
    exact Ret.pos rfl (Ret.some (.inr ⟨h2, rfl⟩))
  rw [e8, if_neg (by simpa using h2)] at ef
  (dsimp +instances only [gi0,gis,row1,rows1,int1,str1,bool1])
  refine Ret.neg rfl ?_
  refine Ret.call (Ret.eq (timeFault_eq f t)) ?_
  rintro _ rfl
  (dsimp +instances only [gi0,gis,row1,rows1,int1,str1,bool1])
  cases h3 : okTime f t with
  | false =>
    rw [h3, if_pos rfl] at ef
    rw [stepS_bad (by rw [ef]; omega), ef]
    exact Ret.pos rfl (Ret.some (.inr ⟨by omega, rfl⟩))
  | true =>
  rw [h3, if_neg (by simp)] at ef
  refine Ret.neg rfl ?_
  rw [stepS_end ef]
  by_cases hi0 : 0 < i
  · have ei : ((i : Int) - 1).toNat = i - 1 := by omega
    obtain ⟨c', lo', hz', ms', f', t', hx', _⟩ := hr _ (getD_row (show i - 1 < rows.length by omega))
    have eo : ordS (rows.getD (i - 1) []) (rows.getD i []) = or2 (cmpS c' c) (or2 (cmpI lo' lo) (or2 (cmpI hz' hz) (cmpI f' f))) := by
      unfold ordS
      rw [hx', hx]
      rfl
    rw [eo]
    simp only [ei, hx']
    refine Ret.pos (by (first|rfl|assumption|(simp only [inI,sl]<;>omega))) (Ret.pos (by (first|rfl|assumption|(simp only [inI,sl]<;>omega))) (Ret.pos (by (first|rfl|assumption|(simp only [inI,sl]<;>omega))) ?_))
    (dsimp +instances only [gi0,gis,row1,rows1,int1,str1,bool1])
    refine Ret.call (Ret.eq (rfl : F_strings_Compare [.s c', .s c] = some [.i (cmpS c' c)])) ?_
    rintro _ rfl
    (dsimp +instances only [gi0,gis,row1,rows1,int1,str1,bool1])
    by_cases hc0 : cmpS c' c = 0
    · have e9 : or2 (cmpS c' c) (or2 (cmpI lo' lo) (or2 (cmpI hz' hz) (cmpI f' f))) = or2 (cmpI lo' lo) (or2 (cmpI hz' hz) (cmpI f' f)) := by
        rw [hc0]
        rfl
      rw [e9]
      refine Ret.pos (by simpa using hc0) ?_
      refine Ret.call (Ret.eq (cmp3_eq _ _ _ _ _ _)) ?_
      rintro _ rfl
      (dsimp +instances only [gi0,gis,row1,rows1,int1,str1,bool1])
      by_cases h7 : 0 ≤ or2 (cmpI lo' lo) (or2 (cmpI hz' hz) (cmpI f' f))
      · rw [if_pos ⟨hi0, h7⟩]
        exact Ret.pos (by (first|rfl|assumption|(simp only [inI,sl]<;>omega))) (Ret.some (.inr ⟨by omega, rfl⟩))
      · rw [if_neg fun h => h7 h.2]
        exact Ret.neg (by (first|rfl|assumption|(simp only [inI,sl]<;>omega))) (Ret.pos (by (first|rfl|assumption|(simp only [inI,sl]<;>omega))) (Ret.some (.inl ⟨rfl, rfl⟩)))
    · have e9 : or2 (cmpS c' c) (or2 (cmpI lo' lo) (or2 (cmpI hz' hz) (cmpI f' f))) = cmpS c' c := by
        unfold or2
        rw [if_pos hc0]
      rw [e9]
      refine Ret.neg (by simpa using hc0) ?_
      by_cases h7 : 0 ≤ cmpS c' c
      · rw [if_pos ⟨hi0, h7⟩]
        exact Ret.pos (by (first|rfl|assumption|(simp only [inI,sl]<;>omega))) (Ret.some (.inr ⟨by omega, rfl⟩))
      · rw [if_neg fun h => h7 h.2]
        exact Ret.neg (by (first|rfl|assumption|(simp only [inI,sl]<;>omega))) (Ret.pos (by (first|rfl|assumption|(simp only [inI,sl]<;>omega))) (Ret.some (.inl ⟨rfl, rfl⟩)))
  · rw [if_neg fun h => hi0 h.1]
    exact Ret.neg (by (first|rfl|assumption|(simp only [inI,sl]<;>omega))) (Ret.pos (by (first|rfl|assumption|(simp only [inI,sl]<;>omega))) (Ret.some (.inl ⟨rfl, rfl⟩)))
theorem segsFault_ok (rows : List (List G)) (hr : ∀ z ∈ rows, Seg z) : F_pileref2_SegmentsFault [.l rows] = some [.i (faultSegs rows)] := by
  refine Ret.toEq ?_
  unfold F_pileref2_SegmentsFault faultSegs
  (dsimp +instances only [gi0,gis,row1,rows1,int1,str1,bool1])
  by_cases hn : 500 < rows.length
  · refine Ret.pos (by (first|rfl|assumption|(simp only [inI,sl]<;>omega))) ?_
    rw [if_pos hn]
    exact Ret.some rfl
  · refine Ret.neg (by (first|rfl|assumption|(simp only [inI,sl]<;>omega))) ?_
    rw [if_neg hn]
    refine Ret.loop (fw_loop (fun i => [.l rows, .l rows, .i (rows.length : Int), .i (i : Int)]) rows.length (stepS rows) [] (by omega) (segsFault_step rows hr (by omega)) ?_) rfl ?_
    · unfold st_pileref2_SegmentsFault_4
      (dsimp +instances only [gi0,gis,row1,rows1,int1,str1,bool1])
      (repeat(first|(refine Ret.pos ?_ ?_;(first|rfl|assumption|(simp only [inI,sl]<;>omega)))|(refine Ret.neg ?_ ?_;(first|rfl|assumption|(simp only [inI,sl]<;>omega)))))
      exact Ret.some rfl
    · rintro _ _ (⟨rfl, h, rfl⟩ | ⟨rfl, rfl, _⟩)
      · rw [h]
        exact Ret.some rfl
      · exact Ret.some rfl
theorem segs_right {rows : List (List G)} (h : faultSegs rows = 0) : ∀ r ∈ rows, okHz (gi r 1).int (gi r 2).int = true ∧ okTime (gi r 4).int (gi r 5).int = true := by
  intro r hr
  unfold faultSegs at h
  have hn : ¬ 500 < rows.length := fun hn => by rw [if_pos hn] at h; omega
  rw [if_neg hn] at h
  obtain ⟨i, hi, rfl⟩ := List.mem_iff_getElem.1 hr
  have hs := fw_zero h i hi
  have e : rows.getD i [] = rows[i] := by simp [List.getD_eq_getElem?_getD, hi]
  have h1 : faultS1 rows[i] = 0 := by
    refine Decidable.byContradiction fun hne => ?_
    rw [← e] at hne
    rw [stepS_bad hne] at hs
    exact hne hs
  unfold faultS1 at h1
  split at h1
  · omega
  · split at h1
    · omega
    · rename_i h2
      split at h1
      · rename_i h3
        exact (h3 h1).elim
      · split at h1
        · omega
        · rename_i h4
          exact ⟨by simpa using h2, by simpa using h4⟩
end
end Go.Proofs.SYtpbepppkchjccaaGreatDoor

namespace Go.Proofs.SYtpbepppkchjccaaGreatDoor
open Go Go.AL Go.Proofs
noncomputable section
def Bsy (r : List G) : Prop := ∃ (w : ByteArray) (h d f t : Int), r = [.s w, .i h, .i d, .i f, .i t] ∧ w ∈ calls ∧ b40 h ∧ b40 d ∧ b40 f ∧ b40 t
theorem Bsy.eta {r : List G} (h : Bsy r) : gEta KBusy r = r := by
  obtain ⟨w, h, d, f, t, rfl, _⟩ := h
  rfl
def ordBv (r s : List G) : Int := (gi ((F_pilemake_Stream_Busies_1 [.l [r], .l [s]]).getD []) 0).int
theorem cmpBusies : Cmp KBusy F_pilemake_Stream_Busies_1 Bsy ordBv := ⟨fun r s _ _ => by
  have h : ∃ v, F_pilemake_Stream_Busies_1 [.l [r], .l [s]] = some [.i v] := by
    refine ⟨or2 (cmpI (gi r 3).int (gi s 3).int) (cmpI (gi r 1).int (gi s 1).int), Ret.toEq ?_⟩
    unfold F_pilemake_Stream_Busies_1
    (dsimp +instances only [gi0,gis,row1,rows1,int1,str1,bool1])
    refine Ret.call (Ret.eq (cmp2_eq _ _ _ _)) ?_
    rintro _ rfl
    exact Ret.some rfl
  obtain ⟨v, h⟩ := h
  unfold ordBv
  rw [h]
  rfl, fun _ h => h.eta⟩
theorem sortBusies_eq (rows : List (List G)) (hr : ∀ y ∈ rows, Bsy y) (hn : rows.length ≤ 20) : F_slices_SortStableFunc_Busy [.l rows] = some [.l (sortA (ltC ordBv) rows)] := sortF_eq cmpBusies rows hr hn
theorem r_Busies (l : List (List G)) (a : Int) (ha : 0 ≤ a) (ha1 : a ≤ 1000) :
    Ret (F_pilemake_Stream_Busies [.l l, .i a]) fun g => ∃ b rows, g = [.l l, .i b, .l rows] ∧ 0 ≤ b ∧ b ≤ 2000 ∧ (∀ z ∈ rows, Bsy z) ∧ rows.length ≤ 6 := by
  unfold F_pilemake_Stream_Busies
  (dsimp +instances only [gi0,gis,row1,rows1,int1,str1,bool1])
  refine Ret.call (r_RangeX l a 0 6 ha (by omega) (by omega) (by omega) (by omega)) ?_
  rintro _ ⟨n, rfl, hn0, hn6⟩
  obtain ⟨n, rfl⟩ := Int.eq_ofNat_of_zero_le hn0
  (dsimp +instances only [gi0,gis,row1,rows1,int1,str1,bool1])
  have r := count_runs (st := st_pilemake_Stream_Busies_3) (σ := Int × List (List G)) (fun s i => [.l l, .i s.1, .l s.2, .i (n : Int), .i (i : Int)]) n (fun s => (0, [.l l, .i s.1, .l s.2]))
    (fun s i => 0 ≤ s.1 ∧ s.1 ≤ a + 1 + 30 * (i : Int) ∧ (∀ z ∈ s.2, Bsy z) ∧ s.2.length ≤ i) (fun _ _ => False)
    (fun s i ⟨s0, s1, s2, s3⟩ hi => by
      obtain ⟨b, ac⟩ := s
      simp only at s0 s1 s2 s3
      have hn : n ≤ 6 := by omega
      unfold st_pilemake_Stream_Busies_3
      (dsimp +instances only [gi0,gis,row1,rows1,int1,str1,bool1])
      refine Ret.pos (by (first|rfl|assumption|(simp only [inI,sl]<;>omega))) ?_
      refine Ret.call (r_SomeB calls l _ _ (by omega) (by omega) (by kernel_rfl) (by kernel_rfl)) ?_
      rintro _ ⟨w, rfl, hw⟩
      (dsimp +instances only [gi0,gis,row1,rows1,int1,str1,bool1])
      refine Ret.call (r_RangeX l _ 90 320 (by omega) (by omega) (by omega) (by omega) (by omega)) ?_
      rintro _ ⟨h, rfl, hh0, hh1⟩
      (dsimp +instances only [gi0,gis,row1,rows1,int1,str1,bool1])
      refine Ret.call (r_PickB 0 50 l _ _ (by omega) (by omega) (by kernel_rfl) (by kernel_rfl)) ?_
      rintro _ ⟨d, rfl, hd0, hd1⟩
      (dsimp +instances only [gi0,gis,row1,rows1,int1,str1,bool1])
      refine Ret.call (r_PickB 0 60 l _ _ (by omega) (by omega) (by kernel_rfl) (by kernel_rfl)) ?_
      rintro _ ⟨f, rfl, hf0, hf1⟩
      (dsimp +instances only [gi0,gis,row1,rows1,int1,str1,bool1])
      refine Ret.call (r_PickB 0 100 l _ _ (by omega) (by omega) (by kernel_rfl) (by kernel_rfl)) ?_
      rintro _ ⟨t, rfl, ht0, ht1⟩
      (dsimp +instances only [gi0,gis,row1,rows1,int1,str1,bool1])
      refine Ret.pos (by (first|rfl|assumption|(simp only [inI,sl]<;>omega))) ?_
      refine Ret.call (r_Flip l _ 60 (by omega) (by omega) (by omega) (by omega)) ?_
      rintro _ ⟨q, rfl⟩
      (dsimp +instances only [gi0,gis,row1,rows1,int1,str1,bool1])
      cases q with
      | false =>
        (repeat(first|(refine Ret.pos ?_ ?_;(first|rfl|assumption|(simp only [inI,sl]<;>omega)))|(refine Ret.neg ?_ ?_;(first|rfl|assumption|(simp only [inI,sl]<;>omega)))))
        refine Ret.some (.inl ⟨(_, ac ++ [[.s w, .i h, .i d, .i f, .i (f + t)]]), by simp; rfl, by simp only; omega, by simp only; omega, ?_, by simp; omega⟩)
        intro z hz
        rcases List.mem_append.1 hz with hz | hz
        · exact s2 z hz
        · rw [List.mem_singleton.1 hz]
          exact ⟨w, h, d, f, f + t, rfl, hw, ⟨by omega, by omega⟩, ⟨by omega, by omega⟩, ⟨by omega, by omega⟩, by omega, by omega⟩
      | true =>
        refine Ret.pos rfl ?_
        refine Ret.call (r_Some (fun v => v ∈ calls) l _ [[.s w], [.s (⟨#[]⟩ : ByteArray)]] (by omega) (by omega) (by simp) (by simp) ?_) ?_
        · intro x hx
          simp only [List.mem_cons, List.not_mem_nil, or_false] at hx
          rcases hx with rfl | rfl
          · exact hw
          · exact inL_mem (by kernel_rfl)
        rintro _ ⟨w', rfl, hw'⟩
        (dsimp +instances only [gi0,gis,row1,rows1,int1,str1,bool1])
        refine Ret.call (r_OddX l _ 0 30000000000 (by omega) (by omega) (by omega) (by omega) (by omega)) ?_
        rintro _ ⟨h', rfl, hh'⟩
        (dsimp +instances only [gi0,gis,row1,rows1,int1,str1,bool1])
        refine Ret.call (r_OddX l _ 1 100000 (by omega) (by omega) (by omega) (by omega) (by omega)) ?_
        rintro _ ⟨d', rfl, hd'⟩
        (dsimp +instances only [gi0,gis,row1,rows1,int1,str1,bool1])
        refine Ret.call (r_OddX l _ 1 100 (by omega) (by omega) (by omega) (by omega) (by omega)) ?_
        rintro _ ⟨t', rfl, ht'⟩
        (dsimp +instances only [gi0,gis,row1,rows1,int1,str1,bool1])
        (repeat(first|(refine Ret.pos ?_ ?_;(first|rfl|assumption|(simp only [inI,sl]<;>omega)))|(refine Ret.neg ?_ ?_;(first|rfl|assumption|(simp only [inI,sl]<;>omega)))))
        refine Ret.some (.inl ⟨(_, ac ++ [[.s w', .i h', .i d', .i f, .i t']]), by simp; rfl, by simp only; omega, by simp only; omega, ?_, by simp; omega⟩)
        intro z hz
        rcases List.mem_append.1 hz with hz | hz
        · exact s2 z hz
        · rw [List.mem_singleton.1 hz]
          exact ⟨w', h', d', f, t', rfl, hw', hh', hd', ⟨by omega, by omega⟩, ht'⟩)
    (fun s hI => by
      unfold st_pilemake_Stream_Busies_3
      (dsimp +instances only [gi0,gis,row1,rows1,int1,str1,bool1])
      (repeat(first|(refine Ret.pos ?_ ?_;(first|rfl|assumption|(simp only [inI,sl]<;>omega)))|(refine Ret.neg ?_ ?_;(first|rfl|assumption|(simp only [inI,sl]<;>omega)))))
      exact Ret.some rfl) n (a + 1, []) 0 (by omega) ⟨by simp only; omega, by simp, by simp, by simp⟩
  refine Ret.loop (r.to (by omega)) rfl ?_
  rintro _ _ (⟨⟨b, ac⟩, ⟨q1, q2, q3, q4⟩, rfl, rfl⟩ | h)
  rotate_left
  · exact h.elim
  simp only at q1 q2 q3 q4
  have hn : n ≤ 6 := by omega
  (dsimp +instances only [gi0,gis,row1,rows1,int1,str1,bool1])
  refine Ret.callb (Ret.eq (sortBusies_eq ac q3 (by omega))) (by (first|rfl|assumption|(simp only [inI,sl]<;>omega))) ?_
  rintro _ rfl
  (dsimp +instances only [gi0,gis,row1,rows1,int1,str1,bool1])
  have hl := sortA_length (ltC ordBv) ac
  refine Ret.pos (by rw [hl]; (first|rfl|assumption|(simp only [inI,sl]<;>omega))) (Ret.some ⟨b, _, rfl, q1, by omega, sortA_all q3, by omega⟩)
/-! ### What is wrong with it -/
theorem or_three (a b c : Int) : F_cmp_Or_int [.l [[.i a], [.i b], [.i c]]] = some [.i (or2 a (or2 b c))] := by
  refine Ret.toEq ?_
  unfold F_cmp_Or_int
  (dsimp +instances only [gi0,gis,row1,rows1,int1,str1,bool1])
  have h := or_runs [[.i a], [.i b], [.i c]] [] (by simp)
  refine Ret.loop (h.to (by simp)) (by (first|rfl|assumption|(simp only [inI,sl]<;>omega))) ?_
  rintro x g ⟨hx, rfl⟩
  have q : orL [[.i a], [.i b], [.i c]] = or2 a (or2 b c) := by
    simp only [orL, or2]
    (dsimp +instances only [gi0,gis,row1,rows1,int1,str1,bool1])
    by_cases h1 : a = 0 <;> by_cases h2 : b = 0 <;> by_cases h3 : c = 0 <;> simp [h1, h2, h3]
  rw [q]
  (dsimp +instances only [gi0,gis,row1,rows1,int1,str1,bool1])
  exact Ret.test (fun _ => Ret.some rfl) fun _ => Ret.some rfl
def ordB (r s : List G) : Int := or2 (cmpI (gi r 3).int (gi s 3).int) (or2 (cmpI (gi r 1).int (gi s 1).int) (cmpS (gi r 0).str (gi s 0).str))
theorem compareBusy_eq (r s : List G) : F_band_compareBusy [.l [r], .l [s]] = some [.i (ordB r s)] := by
  refine Ret.toEq ?_
  unfold F_band_compareBusy ordB
  (dsimp +instances only [gi0,gis,row1,rows1,int1,str1,bool1])
  refine Ret.call (Ret.eq (cmpInt_eq _ _)) ?_
  rintro _ rfl
  refine Ret.call (Ret.eq (cmpInt_eq _ _)) ?_
  rintro _ rfl
  refine Ret.call (Ret.eq (rfl : F_strings_Compare [.s (gi r 0).str, .s (gi s 0).str] = some [.i (cmpS (gi r 0).str (gi s 0).str)])) ?_
  rintro _ rfl
  (dsimp +instances only [gi0,gis,row1,rows1,int1,str1,bool1])
  refine Ret.call (Ret.eq (or_three _ _ _)) ?_
  rintro _ rfl
  exact Ret.some rfl
def faultB1 (x : List G) : Int :=
  if okCall (gi x 0).str = false then 3 else if inB (gi x 1).int 0 30000000000 = false then 1 else if inB (gi x 2).int 1 100000 = false then 1 else if okTime (gi x 3).int (gi x 4).int = false then 1 else 0
def stepB (rows : List (List G)) (i : Nat) : Int :=
  if faultB1 (rows.getD i []) ≠ 0 then faultB1 (rows.getD i []) else if 0 < i ∧ 0 ≤ ordB (rows.getD (i - 1) []) (rows.getD i []) then 7 else 0
def faultBusy (rows : List (List G)) : Int := if 500 < rows.length then 2 else fw (stepB rows) rows.length
theorem stepB_end {rows : List (List G)} {i : Nat} (h : faultB1 (rows.getD i []) = 0) : stepB rows i = if 0 < i ∧ 0 ≤ ordB (rows.getD (i - 1) []) (rows.getD i []) then 7 else 0 := by
  unfold stepB
  rw [if_neg (by simpa using h)]
theorem stepB_bad {rows : List (List G)} {i : Nat} (h : faultB1 (rows.getD i []) ≠ 0) : stepB rows i = faultB1 (rows.getD i []) := by
  unfold stepB
  rw [if_pos h]
theorem checkBusy_step (rows : List (List G)) (hr : ∀ z ∈ rows, Bsy z) (hn : rows.length ≤ 500) (i : Nat) (hi : i < rows.length) :
    Ret (st_band_CheckBusy_4 [.l rows, .l rows, .i (rows.length : Int), .i (i : Int)]) fun o => (stepB rows i = 0 ∧ o = (none, [.l rows, .l rows, .i (rows.length : Int), .i ((i + 1 : Nat) : Int)])) ∨ (stepB rows i ≠ 0 ∧ o = (some 0, [.i (stepB rows i)])) := by
  obtain ⟨w, h, d, f, t, hx, hw, hh, hd, hf, ht⟩ := hr _ (getD_row hi)
  have hC : Bsy (rows.getD i []) := hr _ (getD_row hi)
  unfold st_band_CheckBusy_4
  (dsimp +instances only [gi0,gis,row1,rows1,int1,str1,bool1])
  simp only [Int.toNat_natCast, hC.eta]
  have f0 : (gi (rows.getD i []) 0).str = w := by rw [hx]; rfl
  have f1 : (gi (rows.getD i []) 1).int = h := by rw [hx]; rfl
  have f2 : (gi (rows.getD i []) 2).int = d := by rw [hx]; rfl
  have f3 : (gi (rows.getD i []) 3).int = f := by rw [hx]; rfl
  have f4 : (gi (rows.getD i []) 4).int = t := by rw [hx]; rfl
  have ef : faultB1 (rows.getD i []) = if okCall w = false then 3 else if inB h 0 30000000000 = false then 1 else if inB d 1 100000 = false then 1 else if okTime f t = false then 1 else 0 := by
    unfold faultB1
    rw [f0, f1, f2, f3, f4]
  simp only [f0, f1, f2, f3, f4]
  refine Ret.pos (by (first|rfl|assumption|(simp only [inI,sl]<;>omega))) (Ret.pos (by (first|rfl|assumption|(simp only [inI,sl]<;>omega))) ?_)
  refine Ret.call (Ret.eq (isCall_eq hw)) ?_
  rintro _ rfl
  (dsimp +instances only [gi0,gis,row1,rows1,int1,str1,bool1])
  cases h0 : okCall w with
  | false =>
    rw [h0, if_pos rfl] at ef
    rw [stepB_bad (by rw [ef]; omega), ef]
    exact Ret.pos rfl (Ret.some (.inr ⟨by omega, rfl⟩))
  | true =>
  rw [h0, if_neg (by simp)] at ef
  refine Ret.neg rfl ?_
  refine Ret.call (Ret.eq (outside_eq _ _ _)) ?_
  rintro _ rfl
  (dsimp +instances only [gi0,gis,row1,rows1,int1,str1,bool1])
  cases h1 : inB h 0 30000000000 with
  | false =>
    rw [h1, if_pos rfl] at ef
    rw [stepB_bad (by rw [ef]; omega), ef]
    exact Ret.pos rfl (Ret.some (.inr ⟨by omega, rfl⟩))
  | true =>
  rw [h1, if_neg (by simp)] at ef
  refine Ret.neg rfl ?_
  refine Ret.call (Ret.eq (outside_eq _ _ _)) ?_
  rintro _ rfl
  (dsimp +instances only [gi0,gis,row1,rows1,int1,str1,bool1])
  cases h2 : inB d 1 100000 with
  | false =>
    rw [h2, if_pos rfl] at ef
    rw [stepB_bad (by rw [ef]; omega), ef]
    exact Ret.pos rfl (Ret.some (.inr ⟨by omega, rfl⟩))
  | true =>
  rw [h2, if_neg (by simp)] at ef
  refine Ret.neg rfl ?_
  refine Ret.call (Ret.eq (isTime_eq f t ht)) ?_
  rintro _ rfl
  (dsimp +instances only [gi0,gis,row1,rows1,int1,str1,bool1])
  cases h3 : okTime f t with
  | false =>
    rw [h3, if_pos rfl] at ef
    rw [stepB_bad (by rw [ef]; omega), ef]
    exact Ret.pos rfl (Ret.some (.inr ⟨by omega, rfl⟩))
  | true =>
  rw [h3, if_neg (by simp)] at ef
  refine Ret.neg rfl ?_
  rw [stepB_end ef]
  by_cases hi0 : 0 < i
  · have ei : ((i : Int) - 1).toNat = i - 1 := by omega
    have hy : Bsy (rows.getD (i - 1) []) := hr _ (getD_row (by omega))
    simp only [ei, hy.eta]
    refine Ret.pos (by (first|rfl|assumption|(simp only [inI,sl]<;>omega))) (Ret.pos (by (first|rfl|assumption|(simp only [inI,sl]<;>omega))) (Ret.pos (by (first|rfl|assumption|(simp only [inI,sl]<;>omega))) ?_))
    refine Ret.call (Ret.eq (compareBusy_eq _ _)) ?_
    rintro _ rfl
    (dsimp +instances only [gi0,gis,row1,rows1,int1,str1,bool1])
    by_cases h7 : 0 ≤ ordB (rows.getD (i - 1) []) (rows.getD i [])
    · rw [if_pos ⟨hi0, h7⟩]
      exact Ret.pos (by (first|rfl|assumption|(simp only [inI,sl]<;>omega))) (Ret.some (.inr ⟨by omega, rfl⟩))
    · rw [if_neg fun h => h7 h.2]
      exact Ret.neg (by (first|rfl|assumption|(simp only [inI,sl]<;>omega))) (Ret.pos (by (first|rfl|assumption|(simp only [inI,sl]<;>omega))) (Ret.some (.inl ⟨rfl, rfl⟩)))
  · rw [if_neg fun h => hi0 h.1]
    exact Ret.neg (by (first|rfl|assumption|(simp only [inI,sl]<;>omega))) (Ret.pos (by (first|rfl|assumption|(simp only [inI,sl]<;>omega))) (Ret.some (.inl ⟨rfl, rfl⟩)))
theorem checkBusy_ok (rows : List (List G)) (hr : ∀ z ∈ rows, Bsy z) : F_band_CheckBusy [.l rows] = some [.i (faultBusy rows)] := by
  refine Ret.toEq ?_
  unfold F_band_CheckBusy faultBusy
  (dsimp +instances only [gi0,gis,row1,rows1,int1,str1,bool1])
  by_cases hn : 500 < rows.length
  · refine Ret.pos (by (first|rfl|assumption|(simp only [inI,sl]<;>omega))) ?_
    rw [if_pos hn]
    exact Ret.some rfl
  · refine Ret.neg (by (first|rfl|assumption|(simp only [inI,sl]<;>omega))) ?_
    rw [if_neg hn]
    refine Ret.loop (fw_loop (fun i => [.l rows, .l rows, .i (rows.length : Int), .i (i : Int)]) rows.length (stepB rows) [] (by omega) (checkBusy_step rows hr (by omega)) ?_) rfl ?_
    · unfold st_band_CheckBusy_4
      (dsimp +instances only [gi0,gis,row1,rows1,int1,str1,bool1])
      (repeat(first|(refine Ret.pos ?_ ?_;(first|rfl|assumption|(simp only [inI,sl]<;>omega)))|(refine Ret.neg ?_ ?_;(first|rfl|assumption|(simp only [inI,sl]<;>omega)))))
      exact Ret.some rfl
    · rintro _ _ (⟨rfl, h, rfl⟩ | ⟨rfl, rfl, _⟩)
      · rw [h]
        exact Ret.some rfl
      · exact Ret.some rfl
theorem ordB_split (x y : Int) (s : Int) : 0 ≤ or2 x (or2 y s) ↔ 0 < or2 x y ∨ (or2 x y = 0 ∧ ¬ s < 0) := by
  unfold or2
  by_cases h1 : x = 0
  · by_cases h2 : y = 0
    · simp [h1, h2]
    · simp [h1, h2]
      omega
  · simp [h1]
    omega
theorem busyFault_step (rows : List (List G)) (hr : ∀ z ∈ rows, Bsy z) (hn : rows.length ≤ 500) (i : Nat) (hi : i < rows.length) :
    Ret (st_pileref2_BusyFault_4 [.l rows, .l rows, .i (rows.length : Int), .i (i : Int)]) fun o => (stepB rows i = 0 ∧ o = (none, [.l rows, .l rows, .i (rows.length : Int), .i ((i + 1 : Nat) : Int)])) ∨ (stepB rows i ≠ 0 ∧ o = (some 0, [.i (stepB rows i)])) := by
  obtain ⟨w, h, d, f, t, hx, hw, hh, hd, hf, ht⟩ := hr _ (getD_row hi)
  unfold st_pileref2_BusyFault_4
  (dsimp +instances only [gi0,gis,row1,rows1,int1,str1,bool1])
  simp only [Int.toNat_natCast]
  have f0 : (gi (rows.getD i []) 0).str = w := by rw [hx]; rfl
  have f1 : (gi (rows.getD i []) 1).int = h := by rw [hx]; rfl
  have f2 : (gi (rows.getD i []) 2).int = d := by rw [hx]; rfl
  have f3 : (gi (rows.getD i []) 3).int = f := by rw [hx]; rfl
  have f4 : (gi (rows.getD i []) 4).int = t := by rw [hx]; rfl
  have ef : faultB1 (rows.getD i []) = if okCall w = false then 3 else if inB h 0 30000000000 = false then 1 else if inB d 1 100000 = false then 1 else if okTime f t = false then 1 else 0 := by
    unfold faultB1
    rw [f0, f1, f2, f3, f4]
  simp only [f0, f1, f2, f3, f4]
  refine Ret.pos (by (first|rfl|assumption|(simp only [inI,sl]<;>omega))) (Ret.pos (by (first|rfl|assumption|(simp only [inI,sl]<;>omega))) ?_)
  refine Ret.call (Ret.eq (call_eq hw)) ?_
  rintro _ rfl
  (dsimp +instances only [gi0,gis,row1,rows1,int1,str1,bool1])
  cases h0 : okCall w with
  | false =>
    rw [h0, if_pos rfl] at ef
    rw [stepB_bad (by rw [ef]; omega), ef]
    exact Ret.pos rfl (Ret.some (.inr ⟨by omega, rfl⟩))
  | true =>
  rw [h0, if_neg (by simp)] at ef
  refine Ret.neg rfl ?_
  refine Ret.call (Ret.eq (in_eq _ _ _)) ?_
  rintro _ rfl
  (dsimp +instances only [gi0,gis,row1,rows1,int1,str1,bool1])
  cases h1 : inB h 0 30000000000 with
  | false =>
    rw [h1, if_pos rfl] at ef
    rw [stepB_bad (by rw [ef]; omega), ef]
    exact Ret.pos rfl (Ret.some (.inr ⟨by omega, rfl⟩))
  | true =>
  rw [h1, if_neg (by simp)] at ef
  refine Ret.neg rfl ?_
  refine Ret.call (Ret.eq (in_eq _ _ _)) ?_
  rintro _ rfl
  (dsimp +instances only [gi0,gis,row1,rows1,int1,str1,bool1])
  cases h2 : inB d 1 100000 with
  | false =>
    rw [h2, if_pos rfl] at ef
    rw [stepB_bad (by rw [ef]; omega), ef]
    exact Ret.pos rfl (Ret.some (.inr ⟨by omega, rfl⟩))
  | true =>
  rw [h2, if_neg (by simp)] at ef
  refine Ret.neg rfl ?_
  refine Ret.call (Ret.eq (timeFault_eq f t)) ?_
  rintro _ rfl
  (dsimp +instances only [gi0,gis,row1,rows1,int1,str1,bool1])
  cases h3 : okTime f t with
  | false =>
    rw [h3, if_pos rfl] at ef
    rw [stepB_bad (by rw [ef]; omega), ef]
    exact Ret.pos rfl (Ret.some (.inr ⟨by omega, rfl⟩))
  | true =>
  rw [h3, if_neg (by simp)] at ef
  refine Ret.neg rfl ?_
  rw [stepB_end ef]
  by_cases hi0 : 0 < i
  · have ei : ((i : Int) - 1).toNat = i - 1 := by omega
    obtain ⟨w', h', d', f', t', hx', _⟩ := hr _ (getD_row (show i - 1 < rows.length by omega))
    have eo : ordB (rows.getD (i - 1) []) (rows.getD i []) = or2 (cmpI f' f) (or2 (cmpI h' h) (cmpS w' w)) := by
      unfold ordB
      rw [hx', hx]
      rfl
    have el : Op.bytesLess w'.toList w.toList = decide (cmpS w' w < 0) := by
      rw [less_eq, ByteArray.toList_eq, ByteArray.toList_eq]
      rfl
    rw [eo]
    simp only [ei, hx']
    refine Ret.pos (by (first|rfl|assumption|(simp only [inI,sl]<;>omega))) (Ret.pos (by (first|rfl|assumption|(simp only [inI,sl]<;>omega))) (Ret.pos (by (first|rfl|assumption|(simp only [inI,sl]<;>omega))) ?_))
    (dsimp +instances only [gi0,gis,row1,rows1,int1,str1,bool1])
    refine Ret.call (Ret.eq (cmp2_eq _ _ _ _)) ?_
    rintro _ rfl
    (dsimp +instances only [gi0,gis,row1,rows1,int1,str1,bool1])
    rw [el]
    by_cases h7 : 0 < or2 (cmpI f' f) (cmpI h' h)
    · rw [if_pos ⟨hi0, (ordB_split _ _ _).2 (.inl h7)⟩]
      exact Ret.pos (by (first|rfl|assumption|(simp only [inI,sl]<;>omega))) (Ret.some (.inr ⟨by omega, rfl⟩))
    · refine Ret.neg (by (first|rfl|assumption|(simp only [inI,sl]<;>omega))) ?_
      by_cases h8 : or2 (cmpI f' f) (cmpI h' h) = 0
      · refine Ret.pos (by simpa using h8) ?_
        by_cases h9 : cmpS w' w < 0
        · rw [if_neg fun h => ((ordB_split _ _ _).1 h.2).elim h7 fun h => h.2 h9]
          exact Ret.neg (by simp [h9]) (Ret.pos (by (first|rfl|assumption|(simp only [inI,sl]<;>omega))) (Ret.some (.inl ⟨rfl, rfl⟩)))
        · rw [if_pos ⟨hi0, (ordB_split _ _ _).2 (.inr ⟨h8, h9⟩)⟩]
          exact Ret.pos (by simp [h9]) (Ret.some (.inr ⟨by omega, rfl⟩))
      · rw [if_neg fun h => ((ordB_split _ _ _).1 h.2).elim h7 fun h => h8 h.1]
        exact Ret.neg (by simpa using h8) (Ret.pos (by (first|rfl|assumption|(simp only [inI,sl]<;>omega))) (Ret.some (.inl ⟨rfl, rfl⟩)))
  · rw [if_neg fun h => hi0 h.1]
    exact Ret.neg (by (first|rfl|assumption|(simp only [inI,sl]<;>omega))) (Ret.pos (by (first|rfl|assumption|(simp only [inI,sl]<;>omega))) (Ret.some (.inl ⟨rfl, rfl⟩)))
theorem busyFault_ok (rows : List (List G)) (hr : ∀ z ∈ rows, Bsy z) : F_pileref2_BusyFault [.l rows] = some [.i (faultBusy rows)] := by
  refine Ret.toEq ?_
  unfold F_pileref2_BusyFault faultBusy
  (dsimp +instances only [gi0,gis,row1,rows1,int1,str1,bool1])
  by_cases hn : 500 < rows.length
  · refine Ret.pos (by (first|rfl|assumption|(simp only [inI,sl]<;>omega))) ?_
    rw [if_pos hn]
    exact Ret.some rfl
  · refine Ret.neg (by (first|rfl|assumption|(simp only [inI,sl]<;>omega))) ?_
    rw [if_neg hn]
    refine Ret.loop (fw_loop (fun i => [.l rows, .l rows, .i (rows.length : Int), .i (i : Int)]) rows.length (stepB rows) [] (by omega) (busyFault_step rows hr (by omega)) ?_) rfl ?_
    · unfold st_pileref2_BusyFault_4
      (dsimp +instances only [gi0,gis,row1,rows1,int1,str1,bool1])
      (repeat(first|(refine Ret.pos ?_ ?_;(first|rfl|assumption|(simp only [inI,sl]<;>omega)))|(refine Ret.neg ?_ ?_;(first|rfl|assumption|(simp only [inI,sl]<;>omega)))))
      exact Ret.some rfl
    · rintro _ _ (⟨rfl, h, rfl⟩ | ⟨rfl, rfl, _⟩)
      · rw [h]
        exact Ret.some rfl
      · exact Ret.some rfl
theorem busy_right {rows : List (List G)} (h : faultBusy rows = 0) : ∀ r ∈ rows, 0 ≤ (gi r 1).int ∧ (gi r 1).int ≤ 30000000000 ∧ 1 ≤ (gi r 2).int ∧ (gi r 2).int ≤ 100000 ∧ okTime (gi r 3).int (gi r 4).int = true := by
  intro r hr
  unfold faultBusy at h
  have hn : ¬ 500 < rows.length := fun hn => by rw [if_pos hn] at h; omega
  rw [if_neg hn] at h
  obtain ⟨i, hi, rfl⟩ := List.mem_iff_getElem.1 hr
  have hs := fw_zero h i hi
  have e : rows.getD i [] = rows[i] := by simp [List.getD_eq_getElem?_getD, hi]
  have h1 : faultB1 rows[i] = 0 := by
    refine Decidable.byContradiction fun hne => ?_
    rw [← e] at hne
    rw [stepB_bad hne] at hs
    exact hne hs
  unfold faultB1 at h1
  split at h1
  · omega
  · split at h1
    · omega
    · rename_i h2
      split at h1
      · omega
      · rename_i h3
        split at h1
        · omega
        · rename_i h4
          have h2 := inB_iff.1 (by simpa using h2)
          have h3 := inB_iff.1 (by simpa using h3)
          exact ⟨h2.1, h2.2, h3.1, h3.2, by simpa using h4⟩
end
end Go.Proofs.SYtpbepppkchjccaaGreatDoor

namespace Go.Proofs.SYtpbepppkchjccaaGreatDoor
open Go Go.AL Go.Proofs
noncomputable section
def RowB (r : List G) : Prop := IsR r ∧ -4000000000000 ≤ rLo r ∧ rHi r ≤ 4000000000000
def cmpRow (r s : List G) : Int := rLo r - rLo s
theorem cmpRow_ok : CmpS F_band_joined_1 RowB cmpRow := by
  intro r s hr hs
  obtain ⟨⟨_, h1⟩, h2, h3⟩ := hr
  obtain ⟨⟨_, h4⟩, h5, h6⟩ := hs
  refine ⟨rLo r - rLo s, Ret.toEq ?_, Iff.rfl⟩
  unfold F_band_joined_1
  (dsimp +instances only [gi0,gis,row1,rows1,int1,str1,bool1])
  refine Ret.pos ?_ (Ret.some rfl)
  simp only [inI, sl]
  show -(2 : Int) ^ 63 ≤ rLo r - rLo s ∧ rLo r - rLo s ≤ 2 ^ 63 - 1
  omega
theorem cmpRow_lin : Lin (ltC cmpRow) RowB := (lin_of (fun a b => by unfold cmpRow; omega) fun a b d h1 h2 => by unfold cmpRow at *; omega).mono fun _ _ => trivial
theorem sortRow_ok (rows : List (List G)) (hr : ∀ y ∈ rows, RowB y) (hn : rows.length < 100000) : ∃ out, F_slices_SortFunc_Row [.l rows] = some [.l out] ∧ out.Perm rows ∧ out.Pairwise fun a b => rLo a ≤ rLo b := by
  obtain ⟨out, h, hp, hs⟩ := sortG_some cmpRow_ok cmpRow_lin rows hr hn
  refine ⟨out, h, hp, hs.imp fun {a b} h => ?_⟩
  unfold ltC cmpRow at h
  rw [ltI_eq, decide_eq_false_iff_not] at h
  omega
theorem join_new (srt acc : List (List G)) (lo hi k n i : Int) (hl : acc.length ≤ 1000) : tl_band_joined_8 [.l srt, .l acc, .i lo, .i hi, .i k, .i n, .i i, .t false] = some (some 0, [.l srt, .l (acc ++ [[.i lo, .i hi]]), .i n, .i i]) := by
  refine Ret.toEq ?_
  unfold tl_band_joined_8
  (dsimp +instances only [gi0,gis,row1,rows1,int1,str1,bool1])
  refine Ret.neg rfl ?_
  (repeat(first|(refine Ret.pos ?_ ?_;(first|rfl|assumption|(simp only [inI,sl]<;>omega)))|(refine Ret.neg ?_ ?_;(first|rfl|assumption|(simp only [inI,sl]<;>omega)))))
  exact Ret.some rfl
theorem join_old (srt L : List (List G)) (b : List G) (hb : IsR b) (lo hi n i : Int) : tl_band_joined_8 [.l srt, .l (L ++ [b]), .i lo, .i hi, .i (L.length : Int), .i n, .i i, .t true] = some (some 0, [.l srt, .l (L ++ [[.i (rLo b), .i (if hi > rHi b then hi else rHi b)]]), .i n, .i i]) := by
  obtain ⟨e1, e2, e3⟩ := snoc_last L b
  have hput : ∀ m : Int, putG [.int .i64, .int .i64] b 1 [.i m] = [.i (rLo b), .i m] := fun m => by
    rw [hb.1]
    rfl
  refine Ret.toEq ?_
  unfold tl_band_joined_8
  (dsimp +instances only [gi0,gis,row1,rows1,int1,str1,bool1])
  simp only [Int.toNat_natCast, Nat.zero_add, e2, e3, hput]
  refine Ret.pos rfl ?_
  have hlen : (L ++ [b]).length = L.length + 1 := by simp
  refine Ret.pos (by rw [hlen]; (first|rfl|assumption|(simp only [inI,sl]<;>omega))) (Ret.pos (by rw [hlen]; simp) (Ret.pos (by rw [hlen]; (first|rfl|assumption|(simp only [inI,sl]<;>omega))) (Ret.pos (by rw [hlen]; simp) (Ret.pos (by simp) (Ret.some rfl)))))
theorem joined_ok (rows : List (List G)) (hr : ∀ y ∈ rows, RowB y) (hn : rows.length ≤ 1000) :
    Ret (F_band_joined [.l rows]) fun g => ∃ srt out, g = [.l srt, .l out] ∧ srt.length = rows.length ∧ CanR out ∧ out.length ≤ rows.length ∧ ∀ n, memR out n ↔ memR rows n := by
  obtain ⟨srt, hs, hp, hsort⟩ := sortRow_ok rows hr (by omega)
  have hlen := hp.length_eq
  unfold F_band_joined
  (dsimp +instances only [gi0,gis,row1,rows1,int1,str1,bool1])
  rw [hs]
  refine Ret.callb (P := fun g => g = [.l srt]) (Ret.eq rfl) (by (first|rfl|assumption|(simp only [inI,sl]<;>omega))) ?_
  rintro _ rfl
  (dsimp +instances only [gi0,gis,row1,rows1,int1,str1,bool1])
  rw [show (rows.length : Int) = (srt.length : Int) by rw [hlen], show rows.length = srt.length from hlen.symm]
  have r := range_all (st := st_band_joined_4) (σ := List (List G)) (fun s i => [.l srt, .l s, .i (srt.length : Int), .i (i : Int)]) srt (fun s => (0, [.l srt, .l s]))
    (fun s i => CanR s ∧ (∀ n, memR s n ↔ memR (srt.take i) n) ∧ (∀ a ∈ s, ∃ r ∈ srt.take i, rLo a = rLo r) ∧ s.length ≤ i) [] (by omega) ⟨canR_nil, by simp, by simp, by simp⟩
    (fun s i x ⟨s0, s1, s2, s3⟩ hi hx hm ht => by
      obtain ⟨hX, _, _⟩ := hr x (hp.mem_iff.1 hm)
      have hle : ∀ a ∈ s, rLo a ≤ rLo x := fun a ha => by
        obtain ⟨r, hr', e⟩ := s2 a ha
        rw [e]
        obtain ⟨j, hj, rfl⟩ := List.mem_iff_getElem.1 hr'
        have hji : j < i := by
          have := hj
          rw [List.length_take] at this
          omega
        rw [List.getElem_take]
        have := List.pairwise_iff_getElem.1 hsort j i (by omega) hi hji
        have ex : srt[i] = x := by
          rw [← hx]
          simp [List.getD_eq_getElem?_getD, hi]
        rw [ex] at this
        exact this
      have new : CanR (s ++ [x]) → CanR (s ++ [[.i (rLo x), .i (rHi x)]]) ∧ (∀ n, memR (s ++ [[.i (rLo x), .i (rHi x)]]) n ↔ memR (srt.take (i + 1)) n) ∧ (∀ a ∈ s ++ [[.i (rLo x), .i (rHi x)]], ∃ r ∈ srt.take (i + 1), rLo a = rLo r) ∧ (s ++ [[G.i (rLo x), .i (rHi x)]]).length ≤ i + 1 := by
        intro hc
        rw [← hX.1]
        refine ⟨hc, fun n => ?_, fun a ha => ?_, by simp; omega⟩
        · rw [ht, memR_append, memR_append, s1]
        · rw [ht]
          rcases List.mem_append.1 ha with ha | ha
          · obtain ⟨r, hr', e⟩ := s2 a ha
            exact ⟨r, List.mem_append_left _ hr', e⟩
          · rw [List.mem_singleton.1 ha]
            exact ⟨x, by simp, rfl⟩
      unfold st_band_joined_4
      (dsimp +instances only [gi0,gis,row1,rows1,int1,str1,bool1])
      simp only [Int.toNat_natCast, Nat.zero_add, hx]
      refine Ret.pos (by (first|rfl|assumption|(simp only [inI,sl]<;>omega))) (Ret.pos (by (first|rfl|assumption|(simp only [inI,sl]<;>omega))) (Ret.pos (by (first|rfl|assumption|(simp only [inI,sl]<;>omega))) (Ret.pos (by (first|rfl|assumption|(simp only [inI,sl]<;>omega))) ?_)))
      rcases List.eq_nil_or_concat s with rfl | ⟨L, b, e⟩
      · refine Ret.neg (by simp [sl]) ?_
        refine Ret.tail (P := fun x' g => x' = 0 ∧ g = [.l srt, .l ([] ++ [[.i (rLo x), .i (rHi x)]]), .i (srt.length : Int), .i (i : Int)]) ⟨_, join_new srt [] (rLo x) (rHi x) _ _ _ (by simp), 0, rfl, rfl, rfl⟩ (by simp) ?_
        rintro _ _ ⟨rfl, rfl⟩
        (dsimp +instances only [gi0,gis,row1,rows1,int1,str1,bool1])
        (repeat(first|(refine Ret.pos ?_ ?_;(first|rfl|assumption|(simp only [inI,sl]<;>omega)))|(refine Ret.neg ?_ ?_;(first|rfl|assumption|(simp only [inI,sl]<;>omega)))))
        exact Ret.some ⟨_, by simp, new (by simpa using (canR_cons.2 ⟨hX, by simp, canR_nil⟩))⟩
      · rw [List.concat_eq_append] at e
        subst e
        obtain ⟨e1, e2, e3⟩ := snoc_last L b
        have hlb : (((L ++ [b]).length : Nat) : Int) - 1 = (L.length : Int) := by simp
        simp only [hlb, Int.toNat_natCast, Nat.zero_add, e2]
        have hbR := (canR_snoc.1 s0).2.2
        have hbx := hle b (by simp)
        have hll : (L ++ [b]).length = L.length + 1 := by simp
        refine Ret.pos (by (first|rfl|assumption|(simp only [inI,sl]<;>omega))) (Ret.pos (by rw [hll]; (first|rfl|assumption|(simp only [inI,sl]<;>omega))) (Ret.pos (by rw [hll]; simp) ?_))
        cases ht8 : leI (rLo x) (rHi b) with
        | true =>
          have h8 : rLo x ≤ rHi b := by rw [leI_eq, decide_eq_true_eq] at ht8; exact ht8
          refine Ret.tail (P := fun x' g => x' = 0 ∧ g = [.l srt, .l (L ++ [[.i (rLo b), .i (if rHi x > rHi b then rHi x else rHi b)]]), .i (srt.length : Int), .i (i : Int)]) ⟨_, join_old srt L b hbR (rLo x) (rHi x) _ _, 0, rfl, rfl, rfl⟩ (by simp) ?_
          rintro _ _ ⟨rfl, rfl⟩
          (dsimp +instances only [gi0,gis,row1,rows1,int1,str1,bool1])
          (repeat(first|(refine Ret.pos ?_ ?_;(first|rfl|assumption|(simp only [inI,sl]<;>omega)))|(refine Ret.neg ?_ ?_;(first|rfl|assumption|(simp only [inI,sl]<;>omega)))))
          obtain ⟨g1, g2⟩ := canR_grow s0 hX hbx h8 (m := if rHi x > rHi b then rHi x else rHi b) (by split <;> omega)
          refine Ret.some ⟨_, by simp, g1, fun n => ?_, fun a ha => ?_, by simp at s3 ⊢; omega⟩
          · rw [g2, s1, ht, memR_snoc]
          · rw [ht]
            rcases List.mem_append.1 ha with ha | ha
            · obtain ⟨r, hr', e⟩ := s2 a (List.mem_append_left _ ha)
              exact ⟨r, List.mem_append_left _ hr', e⟩
            · rw [List.mem_singleton.1 ha]
              obtain ⟨r, hr', e⟩ := s2 b (by simp)
              exact ⟨r, List.mem_append_left _ hr', e⟩
        | false =>
          have h8 : rHi b < rLo x := by rw [leI_eq, decide_eq_false_iff_not] at ht8; omega
          refine Ret.tail (P := fun x' g => x' = 0 ∧ g = [.l srt, .l ((L ++ [b]) ++ [[.i (rLo x), .i (rHi x)]]), .i (srt.length : Int), .i (i : Int)]) ⟨_, join_new srt (L ++ [b]) (rLo x) (rHi x) _ _ _ (by omega), 0, rfl, rfl, rfl⟩ (by simp) ?_
          rintro _ _ ⟨rfl, rfl⟩
          (dsimp +instances only [gi0,gis,row1,rows1,int1,str1,bool1])
          (repeat(first|(refine Ret.pos ?_ ?_;(first|rfl|assumption|(simp only [inI,sl]<;>omega)))|(refine Ret.neg ?_ ?_;(first|rfl|assumption|(simp only [inI,sl]<;>omega)))))
          refine Ret.some ⟨(L ++ [b]) ++ [[.i (rLo x), .i (rHi x)]], by simp, ?_⟩
          have := new (canR_snoc.2 ⟨s0, fun a ha => ?_, hX⟩)
          · simpa using this
          · rcases List.mem_append.1 ha with ha | ha
            · have := (canR_snoc.1 s0).2.1 a ha
              have := hbR.2
              omega
            · rw [List.mem_singleton.1 ha]
              exact h8)
    (fun s hI => by
      unfold st_band_joined_4
      (dsimp +instances only [gi0,gis,row1,rows1,int1,str1,bool1])
      (repeat(first|(refine Ret.pos ?_ ?_;(first|rfl|assumption|(simp only [inI,sl]<;>omega)))|(refine Ret.neg ?_ ?_;(first|rfl|assumption|(simp only [inI,sl]<;>omega)))))
      exact Ret.some rfl)
  refine Ret.loop r (by (first|rfl|assumption|(simp only [inI,sl]<;>omega))) ?_
  rintro _ _ ⟨out, ⟨q1, q2, q3, q4⟩, rfl, rfl⟩
  (dsimp +instances only [gi0,gis,row1,rows1,int1,str1,bool1])
  refine Ret.pos (by (first|rfl|assumption|(simp only [inI,sl]<;>omega))) (Ret.some ⟨srt, out, rfl, rfl, q1, by omega, fun n => ?_⟩)
  rw [q2, List.take_length]
  exact memR_perm hp n
end
end Go.Proofs.SYtpbepppkchjccaaGreatDoor

namespace Go.Proofs.SYtpbepppkchjccaaGreatDoor
open Go Go.AL Go.Proofs
noncomputable section
theorem has_runs (k : Int) : ∀ (q p : List (List G)), p.length + q.length < 100000 →
    RetN st_slices_Index_int_2 [.l (p ++ q), .i k, .i ((p ++ q).length : Nat), .i (p.length : Nat)] (q.length + 1) fun c g => (c = 0 ∧ (∃ r ∈ q, (gi r 0).int = k) ∧ ∃ j : Nat, g = [.i (j : Int)]) ∨ (c = 1 ∧ (∀ r ∈ q, (gi r 0).int ≠ k) ∧ g = [])
  | [], p, hl => by
    refine RetN.stop (x := 1) (d' := []) (Ret.toEq ?_) (.inr ⟨rfl, by simp, rfl⟩)
    unfold st_slices_Index_int_2
    (dsimp +instances only [gi0,gis,row1,rows1,int1,str1,bool1])
    exact Ret.neg (by simp [ltI_eq]) (Ret.some rfl)
  | z :: q, p, hl => by
    simp only [List.length_cons] at hl
    have hlen : (p ++ z :: q).length = p.length + (q.length + 1) := by simp
    have hd : (p ++ z :: q).getD p.length [] = z := by simp
    by_cases e : k = (gi z 0).int
    · refine RetN.stop (x := 0) (d' := [.i (p.length : Nat)]) (Ret.toEq ?_) (.inl ⟨rfl, ⟨z, by simp, e.symm⟩, _, rfl⟩)
      unfold st_slices_Index_int_2
      (dsimp +instances only [gi0,gis,row1,rows1,int1,str1,bool1])
      simp only [Int.toNat_natCast, hd, hlen]
      exact Ret.pos (by (first|rfl|assumption|(simp only [inI,sl]<;>omega))) (Ret.pos (by (first|rfl|assumption|(simp only [inI,sl]<;>omega))) (Ret.pos (by simpa using e) (Ret.some rfl)))
    · have ih := has_runs k q (p ++ [z]) (by simp; omega)
      have e1 : p ++ z :: q = (p ++ [z]) ++ q := by simp
      have e2 : (((p ++ [z]).length : Nat) : Int) = (p.length : Int) + 1 := by simp
      refine RetN.next (d1 := [.l ((p ++ [z]) ++ q), .i k, .i (((p ++ [z]) ++ q).length : Nat), .i ((p ++ [z]).length : Nat)]) (Ret.toEq ?_) (ih.mono ?_)
      · unfold st_slices_Index_int_2
        (dsimp +instances only [gi0,gis,row1,rows1,int1,str1,bool1])
        rw [← e1, e2]
        simp only [Int.toNat_natCast, hd, hlen]
        exact Ret.pos (by (first|rfl|assumption|(simp only [inI,sl]<;>omega))) (Ret.pos (by (first|rfl|assumption|(simp only [inI,sl]<;>omega))) (Ret.neg (by simpa using e) (Ret.pos (by (first|rfl|assumption|(simp only [inI,sl]<;>omega))) (Ret.some rfl))))
      · rintro c g (⟨rfl, ⟨r, h1, h2⟩, h3⟩ | ⟨rfl, h, rfl⟩)
        · exact .inl ⟨rfl, ⟨r, by simp [h1], h2⟩, h3⟩
        · refine .inr ⟨rfl, fun r hr => ?_, rfl⟩
          rcases List.mem_cons.1 hr with rfl | hr
          · exact fun h => e h.symm
          · exact h r hr
def hasI (ms : List (List G)) (k : Int) : Bool := ms.any fun z => (gi z 0).int == k
theorem hasI_eq (ms : List (List G)) (k : Int) (hl : ms.length < 100000) : F_slices_Contains_int [.l ms, .i k] = some [.t (hasI ms k)] := by
  refine Ret.toEq ?_
  unfold F_slices_Contains_int
  (dsimp +instances only [gi0,gis,row1,rows1,int1,str1,bool1])
  refine Ret.call (P := fun g => (∃ j : Nat, g = [.i (j : Int)] ∧ hasI ms k = true) ∨ (g = [.i (-1)] ∧ hasI ms k = false)) ?_ ?_
  · unfold F_slices_Index_int
    (dsimp +instances only [gi0,gis,row1,rows1,int1,str1,bool1])
    have h := has_runs k ms [] (by simpa using hl)
    simp only [List.nil_append, List.length_nil] at h
    refine Ret.loop (h.to (by omega)) rfl ?_
    rintro c g (⟨rfl, ⟨r, h1, h2⟩, j, rfl⟩ | ⟨rfl, hx, rfl⟩)
    · exact Ret.pos rfl (Ret.some (.inl ⟨j, rfl, List.any_eq_true.2 ⟨r, h1, by simpa using h2⟩⟩))
    · exact Ret.neg rfl (Ret.some (.inr ⟨rfl, List.any_eq_false.2 fun r hr => by simpa using hx r hr⟩))
  · rintro g (⟨j, rfl, hx⟩ | ⟨rfl, hx⟩)
    · rw [hx]
      refine Ret.some ?_
      simp [gi0, int1, leI_eq]
    · rw [hx]
      exact Ret.some rfl
def inT (f t at_ : Int) : Bool := leI f at_ && ltI at_ t
theorem has_ok (f t at_ : Int) : F_kit_Has [.l [[.i f, .i t]], .i at_] = some [.t (inT f t at_)] := by
  refine Ret.toEq ?_
  unfold F_kit_Has inT
  (dsimp +instances only [gi0,gis,row1,rows1,int1,str1,bool1])
  cases leI f at_ with
  | true => exact Ret.pos rfl (Ret.some rfl)
  | false => exact Ret.neg rfl (Ret.some rfl)
def segFor (c : ByteArray) (mode at_ : Int) (x : List G) : Bool := ((gi x 0).str.toList == c.toList) && ((mode == 0) || hasI (gi x 3).rows mode) && inT (gi x 4).int (gi x 5).int at_
def segRow (x : List G) : List G := [.i (gi x 1).int, .i (gi x 2).int]
def permR (segs : List (List G)) (c : ByteArray) (mode at_ : Int) : List (List G) := (segs.filter (segFor c mode at_)).map segRow
theorem permR_snoc (l : List (List G)) (x : List G) (c : ByteArray) (mode at_ : Int) : permR (l ++ [x]) c mode at_ = permR l c mode at_ ++ bif segFor c mode at_ x then [segRow x] else [] := by
  unfold permR
  rw [List.filter_append, List.map_append]
  cases h : segFor c mode at_ x <;> simp [h]
theorem permR_length (l : List (List G)) (c : ByteArray) (mode at_ : Int) : (permR l c mode at_).length ≤ l.length := by
  unfold permR
  rw [List.length_map]
  exact List.length_filter_le _ _
theorem permR_row {segs : List (List G)} {c : ByteArray} {mode at_ : Int} (hs : ∀ z ∈ segs, Seg z) (h : faultSegs segs = 0) : ∀ y ∈ permR segs c mode at_, RowB y ∧ 0 ≤ rLo y ∧ rHi y ≤ 30000000000 := by
  intro y hy
  obtain ⟨x, hx, rfl⟩ := List.mem_map.1 hy
  have hx := (List.mem_filter.1 hx).1
  obtain ⟨h1, h2, h3⟩ := okHz_iff.1 (segs_right h x hx).1
  have e1 : rLo (segRow x) = (gi x 1).int := rfl
  have e2 : rHi (segRow x) = (gi x 2).int := rfl
  refine ⟨⟨isR_mk h2, ?_, ?_⟩, ?_, ?_⟩ <;> omega
theorem permitted_ok (segs : List (List G)) (c : ByteArray) (mode at_ : Int) (hs : ∀ z ∈ segs, Seg z) (hn : segs.length ≤ 500) (h : faultSegs segs = 0) :
    Ret (F_band_permitted [.l segs, .s c, .i mode, .i at_]) fun g => ∃ out, g = [.l out] ∧ CanR out ∧ out.length ≤ segs.length ∧ ∀ n, memR out n ↔ memR (permR segs c mode at_) n := by
  unfold F_band_permitted
  (dsimp +instances only [gi0,gis,row1,rows1,int1,str1,bool1])
  have r := range_all (st := st_band_permitted_3) (σ := List (List G)) (fun s i => [.l s, .s c, .i mode, .i at_, .l segs, .i (segs.length : Int), .i (i : Int)]) segs (fun s => (0, [.l s])) (fun s i => s = permR (segs.take i) c mode at_ ∧ s.length ≤ i) [] (by omega) ⟨rfl, by simp⟩
    (fun s i x ⟨s0, s1⟩ hi hx hm ht => by
      obtain ⟨k, lo, hz, ms, f, t, hx', hc, hlo, hhi, hms, hml, hf, htt⟩ := hs x hm
      have fx : segFor c mode at_ x = ((k.toList == c.toList) && ((mode == 0) || hasI ms mode) && inT f t at_) := by
        rw [hx']
        rfl
      have yes : segFor c mode at_ x = true → s ++ [[.i lo, .i hz]] = permR (segs.take (i + 1)) c mode at_ ∧ (s ++ [[G.i lo, .i hz]]).length ≤ i + 1 := fun hy => by
        rw [ht, permR_snoc, hy, ← s0, hx']
        exact ⟨rfl, by simp; omega⟩
      have no : segFor c mode at_ x = false → s = permR (segs.take (i + 1)) c mode at_ ∧ s.length ≤ i + 1 := fun hy => by
        rw [ht, permR_snoc, hy, ← s0]
        exact ⟨by simp, by omega⟩
      unfold st_band_permitted_3
      (dsimp +instances only [gi0,gis,row1,rows1,int1,str1,bool1])
      simp only [Int.toNat_natCast, hx]
      rw [hx'] at *
      (dsimp +instances only [gi0,gis,row1,rows1,int1,str1,bool1])
      refine Ret.pos (by (first|rfl|assumption|(simp only [inI,sl]<;>omega))) (Ret.pos (by (first|rfl|assumption|(simp only [inI,sl]<;>omega))) ?_)
      rw [fx] at yes no
      cases h1 : (k.toList == c.toList) with
      | false =>
        rw [h1] at no
        refine Ret.neg rfl ?_
        (repeat(first|(refine Ret.pos ?_ ?_;(first|rfl|assumption|(simp only [inI,sl]<;>omega)))|(refine Ret.neg ?_ ?_;(first|rfl|assumption|(simp only [inI,sl]<;>omega)))))
        exact Ret.some ⟨s, by simp, no rfl⟩
      | true =>
      rw [h1] at yes no
      refine Ret.pos rfl ?_
      cases h2 : (mode == 0) with
      | true =>
        rw [h2] at yes no
        refine Ret.pos rfl ?_
        refine Ret.call (Ret.eq (has_ok _ _ _)) ?_
        rintro _ rfl
        (dsimp +instances only [gi0,gis,row1,rows1,int1,str1,bool1])
        cases h3 : inT f t at_ with
        | true =>
          rw [h3] at yes
          refine Ret.pos rfl ?_
          (repeat(first|(refine Ret.pos ?_ ?_;(first|rfl|assumption|(simp only [inI,sl]<;>omega)))|(refine Ret.neg ?_ ?_;(first|rfl|assumption|(simp only [inI,sl]<;>omega)))))
          exact Ret.some ⟨_, by simp, yes rfl⟩
        | false =>
          rw [h3] at no
          refine Ret.neg rfl ?_
          (repeat(first|(refine Ret.pos ?_ ?_;(first|rfl|assumption|(simp only [inI,sl]<;>omega)))|(refine Ret.neg ?_ ?_;(first|rfl|assumption|(simp only [inI,sl]<;>omega)))))
          exact Ret.some ⟨s, by simp, no rfl⟩
      | false =>
        rw [h2] at yes no
        refine Ret.neg rfl ?_
        refine Ret.call (Ret.eq (hasI_eq ms mode (by omega))) ?_
        rintro _ rfl
        (dsimp +instances only [gi0,gis,row1,rows1,int1,str1,bool1])
        cases h4 : hasI ms mode with
        | false =>
          rw [h4] at no
          refine Ret.neg rfl ?_
          (repeat(first|(refine Ret.pos ?_ ?_;(first|rfl|assumption|(simp only [inI,sl]<;>omega)))|(refine Ret.neg ?_ ?_;(first|rfl|assumption|(simp only [inI,sl]<;>omega)))))
          exact Ret.some ⟨s, by simp, no rfl⟩
        | true =>
          rw [h4] at yes no
          refine Ret.pos rfl ?_
          refine Ret.call (Ret.eq (has_ok _ _ _)) ?_
          rintro _ rfl
          (dsimp +instances only [gi0,gis,row1,rows1,int1,str1,bool1])
          cases h3 : inT f t at_ with
          | true =>
            rw [h3] at yes
            refine Ret.pos rfl ?_
            (repeat(first|(refine Ret.pos ?_ ?_;(first|rfl|assumption|(simp only [inI,sl]<;>omega)))|(refine Ret.neg ?_ ?_;(first|rfl|assumption|(simp only [inI,sl]<;>omega)))))
            exact Ret.some ⟨_, by simp, yes rfl⟩
          | false =>
            rw [h3] at no
            refine Ret.neg rfl ?_
            (repeat(first|(refine Ret.pos ?_ ?_;(first|rfl|assumption|(simp only [inI,sl]<;>omega)))|(refine Ret.neg ?_ ?_;(first|rfl|assumption|(simp only [inI,sl]<;>omega)))))
            exact Ret.some ⟨s, by simp, no rfl⟩)
    (fun s hI => by
      unfold st_band_permitted_3
      (dsimp +instances only [gi0,gis,row1,rows1,int1,str1,bool1])
      (repeat(first|(refine Ret.pos ?_ ?_;(first|rfl|assumption|(simp only [inI,sl]<;>omega)))|(refine Ret.neg ?_ ?_;(first|rfl|assumption|(simp only [inI,sl]<;>omega)))))
      exact Ret.some rfl)
  refine Ret.loop r rfl ?_
  rintro _ _ ⟨s, ⟨q1, q2⟩, rfl, rfl⟩
  (dsimp +instances only [gi0,gis,row1,rows1,int1,str1,bool1])
  rw [List.take_length] at q1
  subst q1
  refine Ret.callb (joined_ok _ (fun y hy => (permR_row hs h y hy).1) (by omega)) (by (first|rfl|assumption|(simp only [inI,sl]<;>omega))) ?_
  rintro _ ⟨srt, out, rfl, g1, g2, g3, g4⟩
  (dsimp +instances only [gi0,gis,row1,rows1,int1,str1,bool1])
  exact Ret.some ⟨out, rfl, g2, by omega, g4⟩
/-! ### Rows without others -/
theorem without_in (l others out : List (List G)) (a b n i : Int) (hO : CanR others) (hn : others.length ≤ 2000) (hc : CanR out) (hg : ∀ s ∈ out, rHi s < a) (hl : out.length ≤ 500000) :
    RetL st_band_without_7 [.l out, .i a, .i b, .l others, .i a, .l l, .i n, .i i, .l others, .i (others.length : Int), .i 0] fun c g => c = 0 ∧ ∃ ps f, g = [.l (out ++ ps), .i a, .i b, .l others, .i f, .l l, .i n, .i i] ∧ CutI out a b others ps f := by
  have r := range_all (st := st_band_without_7) (σ := List (List G) × Int) (fun s j => [.l (out ++ s.1), .i a, .i b, .l others, .i s.2, .l l, .i n, .i i, .l others, .i (others.length : Int), .i (j : Int)]) others
    (fun s => (0, [.l (out ++ s.1), .i a, .i b, .l others, .i s.2, .l l, .i n, .i i])) (fun s j => CutI out a b (others.take j) s.1 s.2) ([], a) (by omega) (by simpa using cutI_start hc hg)
    (fun s j x hI hj hx hm ht => by
      obtain ⟨ps, f⟩ := s
      simp only at hI
      have hX := hO.1 x hm
      have hmany := hI.many
      have hos : ∀ s ∈ others.take j, rHi s < rLo x := fun s hs' => by
        have hp := List.pairwise_append.1 (ht ▸ (hO.2.sublist (List.take_sublist (j + 1) others)) : (others.take j ++ [x]).Pairwise fun r s => rHi r < rLo s)
        exact hp.2.2 s hs' x (by simp)
      have hps : ps.length ≤ j := by
        rw [List.length_take] at hmany
        omega
      have hlen : (out ++ ps).length ≤ 600000 := by simp; omega
      unfold st_band_without_7
      (dsimp +instances only [gi0,gis,row1,rows1,int1,str1,bool1])
      simp only [Int.toNat_natCast, hx]
      rw [ht]
      refine Ret.pos (by (first|rfl|assumption|(simp only [inI,sl]<;>omega))) (Ret.pos (by (first|rfl|assumption|(simp only [inI,sl]<;>omega))) ?_)
      by_cases h1 : rHi x ≤ f
      · refine Ret.pos (by (first|rfl|assumption|(simp only [inI,sl]<;>omega))) ?_
        (repeat(first|(refine Ret.pos ?_ ?_;(first|rfl|assumption|(simp only [inI,sl]<;>omega)))|(refine Ret.neg ?_ ?_;(first|rfl|assumption|(simp only [inI,sl]<;>omega)))))
        exact Ret.some ⟨(ps, f), by simp, cutI_skip hI hX hos (.inl h1)⟩
      · refine Ret.neg (by (first|rfl|assumption|(simp only [inI,sl]<;>omega))) ?_
        by_cases h2 : b ≤ rLo x
        · refine Ret.pos (by (first|rfl|assumption|(simp only [inI,sl]<;>omega))) ?_
          (repeat(first|(refine Ret.pos ?_ ?_;(first|rfl|assumption|(simp only [inI,sl]<;>omega)))|(refine Ret.neg ?_ ?_;(first|rfl|assumption|(simp only [inI,sl]<;>omega)))))
          exact Ret.some ⟨(ps, f), by simp, cutI_skip hI hX hos (.inr h2)⟩
        · refine Ret.neg (by (first|rfl|assumption|(simp only [inI,sl]<;>omega))) ?_
          by_cases h3 : f < rLo x
          · refine Ret.pos (by (first|rfl|assumption|(simp only [inI,sl]<;>omega))) ?_
            (repeat(first|(refine Ret.pos ?_ ?_;(first|rfl|assumption|(simp only [inI,sl]<;>omega)))|(refine Ret.neg ?_ ?_;(first|rfl|assumption|(simp only [inI,sl]<;>omega)))))
            exact Ret.some ⟨(ps ++ [[.i f, .i (rLo x)]], rHi x), by simp, cutI_left hI hX (by omega) h3⟩
          · refine Ret.neg (by (first|rfl|assumption|(simp only [inI,sl]<;>omega))) ?_
            (repeat(first|(refine Ret.pos ?_ ?_;(first|rfl|assumption|(simp only [inI,sl]<;>omega)))|(refine Ret.neg ?_ ?_;(first|rfl|assumption|(simp only [inI,sl]<;>omega)))))
            exact Ret.some ⟨(ps, rHi x), by simp, cutI_none hI hX hos (by omega) (by omega)⟩)
    (fun s hI => by
      unfold st_band_without_7
      (dsimp +instances only [gi0,gis,row1,rows1,int1,str1,bool1])
      (repeat(first|(refine Ret.pos ?_ ?_;(first|rfl|assumption|(simp only [inI,sl]<;>omega)))|(refine Ret.neg ?_ ?_;(first|rfl|assumption|(simp only [inI,sl]<;>omega)))))
      exact Ret.some rfl)
  rw [List.append_nil] at r
  refine r.mono ?_
  rintro _ _ ⟨⟨ps, f⟩, hI, rfl, rfl⟩
  rw [List.take_length] at hI
  exact ⟨rfl, ps, f, rfl, hI⟩
theorem without_ok (l others : List (List G)) (hL : CanR l) (hO : CanR others) (hn : l.length ≤ 500) (hm : others.length ≤ 500) :
    Ret (F_band_without [.l l, .l others]) fun g => ∃ out, g = [.l out] ∧ CanR out ∧ out.length ≤ 300000 ∧ ∀ n, memR out n ↔ memR l n ∧ ¬ memR others n := by
  unfold F_band_without
  (dsimp +instances only [gi0,gis,row1,rows1,int1,str1,bool1])
  have r := range_all (st := st_band_without_3) (σ := List (List G)) (fun s i => [.l s, .l others, .l l, .i (l.length : Int), .i (i : Int)]) l (fun s => (0, [.l s]))
    (fun s i => CanR s ∧ (∀ n, memR s n ↔ memR (l.take i) n ∧ ¬ memR others n) ∧ s.length ≤ 600 * i) [] (by omega) ⟨canR_nil, by simp [memR], by simp⟩
    (fun s i x ⟨s0, s1, s2⟩ hi hx hm' ht => by
      have hX := hL.1 x hm'
      have hp := List.pairwise_append.1 (ht ▸ (hL.2.sublist (List.take_sublist (i + 1) l)) : (l.take i ++ [x]).Pairwise fun r s => rHi r < rLo s)
      have hg : ∀ a ∈ s, rHi a < rLo x := fun a ha => by
        have hA := s0.1 a ha
        obtain ⟨r, hr, h1, h2⟩ := ((s1 (rHi a - 1)).1 ⟨a, ha, by have := hA.2; omega, by omega⟩).1
        have := hp.2.2 r hr x (by simp)
        omega
      unfold st_band_without_3
      (dsimp +instances only [gi0,gis,row1,rows1,int1,str1,bool1])
      simp only [Int.toNat_natCast, hx]
      refine Ret.pos (by (first|rfl|assumption|(simp only [inI,sl]<;>omega))) (Ret.pos (by (first|rfl|assumption|(simp only [inI,sl]<;>omega))) ?_)
      refine Ret.loop (without_in l others s (rLo x) (rHi x) l.length i hO (by omega) s0 hg (by omega)) (by simp) ?_
      rintro _ _ ⟨rfl, ps, f, rfl, hI⟩
      (dsimp +instances only [gi0,gis,row1,rows1,int1,str1,bool1])
      have hmany := hI.many
      by_cases hf : f < rHi x
      · obtain ⟨g1, g2⟩ := cutI_end hI hf
        refine Ret.pos (by (first|rfl|assumption|(simp only [inI,sl]<;>omega))) ?_
        (repeat(first|(refine Ret.pos ?_ ?_;(first|rfl|assumption|(simp only [inI,sl]<;>omega)))|(refine Ret.neg ?_ ?_;(first|rfl|assumption|(simp only [inI,sl]<;>omega)))))
        refine Ret.some ⟨s ++ (ps ++ [[.i f, .i (rHi x)]]), by simp, g1, fun n => ?_, by simp; omega⟩
        rw [memR_append, s1, g2, ht, memR_snoc]
        constructor
        · rintro (⟨h1, h2⟩ | ⟨h1, h2, h3⟩)
          · exact ⟨.inl h1, h2⟩
          · exact ⟨.inr ⟨h1, h2⟩, h3⟩
        · rintro ⟨h1 | h1, h2⟩
          · exact .inl ⟨h1, h2⟩
          · exact .inr ⟨h1.1, h1.2, h2⟩
      · obtain ⟨g1, g2⟩ := cutI_stop hI (by omega)
        refine Ret.neg (by (first|rfl|assumption|(simp only [inI,sl]<;>omega))) ?_
        (repeat(first|(refine Ret.pos ?_ ?_;(first|rfl|assumption|(simp only [inI,sl]<;>omega)))|(refine Ret.neg ?_ ?_;(first|rfl|assumption|(simp only [inI,sl]<;>omega)))))
        refine Ret.some ⟨s ++ ps, by simp, g1, fun n => ?_, by simp; omega⟩
        rw [memR_append, s1, g2, ht, memR_snoc]
        constructor
        · rintro (⟨h1, h2⟩ | ⟨h1, h2, h3⟩)
          · exact ⟨.inl h1, h2⟩
          · exact ⟨.inr ⟨h1, h2⟩, h3⟩
        · rintro ⟨h1 | h1, h2⟩
          · exact .inl ⟨h1, h2⟩
          · exact .inr ⟨h1.1, h1.2, h2⟩)
    (fun s ⟨_, _, hI⟩ => by
      unfold st_band_without_3
      (dsimp +instances only [gi0,gis,row1,rows1,int1,str1,bool1])
      (repeat(first|(refine Ret.pos ?_ ?_;(first|rfl|assumption|(simp only [inI,sl]<;>omega)))|(refine Ret.neg ?_ ?_;(first|rfl|assumption|(simp only [inI,sl]<;>omega)))))
      exact Ret.some rfl)
  refine Ret.loop r rfl ?_
  rintro _ _ ⟨out, ⟨q1, q2, q3⟩, rfl, rfl⟩
  (dsimp +instances only [gi0,gis,row1,rows1,int1,str1,bool1])
  refine Ret.pos (by (first|rfl|assumption|(simp only [inI,sl]<;>omega))) (Ret.some ⟨out, rfl, q1, by omega, fun n => ?_⟩)
  rw [q2, List.take_length]
end
end Go.Proofs.SYtpbepppkchjccaaGreatDoor

namespace Go.Proofs.SYtpbepppkchjccaaGreatDoor
open Go Go.AL Go.Proofs
noncomputable section
theorem half_ok (w : Int) (hw : 0 ≤ w) : 0 ≤ Int.tdiv w 2 ∧ 2 * Int.tdiv w 2 ≤ w ∧ w ≤ 2 * Int.tdiv w 2 + 1 := by
  rw [Int.tdiv_eq_ediv_of_nonneg hw]
  omega
def useR (h d : Int) : List G := [.i (h - Int.tdiv d 2), .i (h - Int.tdiv d 2 + d)]
theorem used_ok (h d : Int) (h1 : b40 h) (h2 : 0 ≤ d) (h3 : d ≤ 1099511627776) : F_band_used [.i h, .i d] = some [.l [useR h d]] := by
  obtain ⟨g1, g2, g3⟩ := half_ok d h2
  unfold b40 at h1
  refine Ret.toEq ?_
  unfold F_band_used
  (dsimp +instances only [gi0,gis,row1,rows1,int1,str1,bool1])
  (repeat(first|(refine Ret.pos ?_ ?_;(first|rfl|assumption|(simp only [inI,sl]<;>omega)))|(refine Ret.neg ?_ ?_;(first|rfl|assumption|(simp only [inI,sl]<;>omega)))))
  exact Ret.some rfl
/-! ### What is wrong with what is asked -/
def freeFlt (segs bus : List (List G)) (c : ByteArray) (mode width at_ : Int) : Int :=
  if faultSegs segs ≠ 0 then faultSegs segs else if faultBusy bus ≠ 0 then faultBusy bus else if okClass c = false then 5 else if inB mode 1 3 = false then 4 else if inB width 1 100000 = false then 1 else if inB at_ 0 345686399999 = false then 1 else 0
theorem freeFault_ok (segs bus : List (List G)) (c : ByteArray) (mode width at_ : Int) (hs : ∀ z ∈ segs, Seg z) (hb : ∀ z ∈ bus, Bsy z) (hc : c ∈ classes) :
    F_band_freeFault [.l segs, .l bus, .s c, .i mode, .i width, .i at_] = some [.i (freeFlt segs bus c mode width at_)] := by
  refine Ret.toEq ?_
  unfold F_band_freeFault freeFlt
  (dsimp +instances only [gi0,gis,row1,rows1,int1,str1,bool1])
  refine Ret.call (Ret.eq (checkSegs_ok segs hs)) ?_
  rintro _ rfl
  (dsimp +instances only [gi0,gis,row1,rows1,int1,str1,bool1])
  by_cases h1 : faultSegs segs = 0
  rotate_left
  · rw [if_pos h1]
    exact Ret.pos (by simpa using h1) (Ret.some rfl)
  rw [if_neg (by simpa using h1)]
  refine Ret.neg (by simpa using h1) ?_
  refine Ret.call (Ret.eq (checkBusy_ok bus hb)) ?_
  rintro _ rfl
  (dsimp +instances only [gi0,gis,row1,rows1,int1,str1,bool1])
  by_cases h2 : faultBusy bus = 0
  rotate_left
  · rw [if_pos h2]
    exact Ret.pos (by simpa using h2) (Ret.some rfl)
  rw [if_neg (by simpa using h2)]
  refine Ret.neg (by simpa using h2) ?_
  refine Ret.call (Ret.eq (isClass_eq hc)) ?_
  rintro _ rfl
  (dsimp +instances only [gi0,gis,row1,rows1,int1,str1,bool1])
  cases okClass c with
  | false => exact Ret.pos rfl (Ret.some rfl)
  | true =>
  refine Ret.neg rfl ?_
  refine Ret.call (Ret.eq (isModeX _)) ?_
  rintro _ rfl
  (dsimp +instances only [gi0,gis,row1,rows1,int1,str1,bool1])
  cases inB mode 1 3 with
  | false => exact Ret.pos rfl (Ret.some rfl)
  | true =>
  refine Ret.neg rfl ?_
  refine Ret.call (Ret.eq (outside_eq _ _ _)) ?_
  rintro _ rfl
  (dsimp +instances only [gi0,gis,row1,rows1,int1,str1,bool1])
  cases inB width 1 100000 with
  | false => exact Ret.pos rfl (Ret.some rfl)
  | true =>
  refine Ret.neg rfl ?_
  refine Ret.call (Ret.eq (isMomentX _)) ?_
  rintro _ rfl
  (dsimp +instances only [gi0,gis,row1,rows1,int1,str1,bool1])
  cases inB at_ 0 345686399999 with
  | false => exact Ret.pos rfl (Ret.some rfl)
  | true => exact Ret.neg rfl (Ret.some rfl)
/-! ### What is free -/
theorem perm_bound {segs out : List (List G)} {c : ByteArray} {mode at_ : Int} (hs : ∀ z ∈ segs, Seg z) (h : faultSegs segs = 0) (hc : CanR out) (hm : ∀ n, memR out n ↔ memR (permR segs c mode at_) n) : ∀ r ∈ out, IsR r ∧ 0 ≤ rLo r ∧ rHi r ≤ 30000000000 := by
  intro r hr
  have hR := hc.1 r hr
  obtain ⟨y, hy, h1, h2⟩ := (hm (rLo r)).1 ⟨r, hr, Int.le_refl _, hR.2⟩
  obtain ⟨z, hz, h3, h4⟩ := (hm (rHi r - 1)).1 ⟨r, hr, by have := hR.2; omega, by omega⟩
  have := (permR_row hs h y hy).2
  have := (permR_row hs h z hz).2
  exact ⟨hR, by omega, by omega⟩
def onAir (at_ : Int) (x : List G) : Bool := inT (gi x 3).int (gi x 4).int at_
def meets (bus : List (List G)) (width at_ n : Int) : Prop := ∃ b ∈ bus, onAir at_ b = true ∧ rLo (useR (gi b 1).int (gi b 2).int) < n - Int.tdiv width 2 + width ∧ n - Int.tdiv width 2 < rHi (useR (gi b 1).int (gi b 2).int)
def fits (rows : List (List G)) (width n : Int) : Prop := ∃ r ∈ rows, rLo r ≤ n - Int.tdiv width 2 ∧ n - Int.tdiv width 2 + width ≤ rHi r
theorem fits_snoc (l : List (List G)) (x : List G) (width n : Int) : fits (l ++ [x]) width n ↔ fits l width n ∨ (rLo x ≤ n - Int.tdiv width 2 ∧ n - Int.tdiv width 2 + width ≤ rHi x) := by
  constructor
  · rintro ⟨r, hr, h⟩
    rcases List.mem_append.1 hr with hr | hr
    · exact .inl ⟨r, hr, h⟩
    · rw [List.mem_singleton.1 hr] at h
      exact .inr h
  · rintro (⟨r, hr, h⟩ | h)
    · exact ⟨r, List.mem_append_left _ hr, h⟩
    · exact ⟨x, by simp, h⟩
theorem meets_snoc (l : List (List G)) (x : List G) (width at_ n : Int) : meets (l ++ [x]) width at_ n ↔ meets l width at_ n ∨ (onAir at_ x = true ∧ rLo (useR (gi x 1).int (gi x 2).int) < n - Int.tdiv width 2 + width ∧ n - Int.tdiv width 2 < rHi (useR (gi x 1).int (gi x 2).int)) := by
  constructor
  · rintro ⟨r, hr, h⟩
    rcases List.mem_append.1 hr with hr | hr
    · exact .inl ⟨r, hr, h⟩
    · rw [List.mem_singleton.1 hr] at h
      exact .inr h
  · rintro (⟨r, hr, h⟩ | h)
    · exact ⟨r, List.mem_append_left _ hr, h⟩
    · exact ⟨x, by simp, h⟩
theorem free_may (bus P : List (List G)) (width at_ : Int) (hw0 : 1 ≤ width) (hw1 : width ≤ 100000) (hP : ∀ r ∈ P, IsR r ∧ 0 ≤ rLo r ∧ rHi r ≤ 30000000000) (hn : P.length ≤ 500) :
    RetL st_band_free_3 [.l [], .l [], .l bus, .i width, .i at_, .l P, .i (P.length : Int), .i 0] fun c g => c = 0 ∧ ∃ may, g = [.l may, .l [], .l bus, .i width, .i at_] ∧ (∀ y ∈ may, RowB y) ∧ may.length ≤ P.length ∧ ∀ n, memR may n ↔ fits P width n := by
  obtain ⟨g1, g2, g3⟩ := half_ok width (by omega)
  have r := range_all (st := st_band_free_3) (σ := List (List G)) (fun s i => [.l s, .l [], .l bus, .i width, .i at_, .l P, .i (P.length : Int), .i (i : Int)]) P (fun s => (0, [.l s, .l [], .l bus, .i width, .i at_]))
    (fun s i => (∀ y ∈ s, RowB y) ∧ s.length ≤ i ∧ ∀ n, memR s n ↔ fits (P.take i) width n) [] (by omega) ⟨by simp, by simp, fun n => by simp [memR, fits]⟩
    (fun s i x ⟨s0, s1, s2⟩ hi hx hm ht => by
      obtain ⟨hX, hx0, hx1⟩ := hP x hm
      have hX2 := hX.2
      unfold st_band_free_3
      (dsimp +instances only [gi0,gis,row1,rows1,int1,str1,bool1])
      simp only [Int.toNat_natCast, hx]
      have b1 : (gi x 0).int = rLo x := rfl
      have b2 : (gi x 1).int = rHi x := rfl
      rw [b1, b2]
      generalize hh : Int.tdiv width 2 = h at *
      refine Ret.pos (by (first|rfl|assumption|(simp only [inI,sl]<;>omega))) (Ret.pos (by (first|rfl|assumption|(simp only [inI,sl]<;>omega))) (Ret.pos (by (first|rfl|assumption|(simp only [inI,sl]<;>omega))) ?_))
      by_cases hle : width ≤ rHi x - rLo x
      · refine Ret.pos (by (first|rfl|assumption|(simp only [inI,sl]<;>omega))) ?_
        (repeat(first|(refine Ret.pos ?_ ?_;(first|rfl|assumption|(simp only [inI,sl]<;>omega)))|(refine Ret.neg ?_ ?_;(first|rfl|assumption|(simp only [inI,sl]<;>omega)))))
        refine Ret.some ⟨s ++ [[.i (rLo x + h), .i (rHi x - width + h + 1)]], by simp, fun y hy => ?_, by simp; omega, fun n => ?_⟩
        · rcases List.mem_append.1 hy with hy | hy
          · exact s0 y hy
          · rw [List.mem_singleton.1 hy]
            have e1 : rLo [.i (rLo x + h), .i (rHi x - width + h + 1)] = rLo x + h := rfl
            have e2 : rHi [.i (rLo x + h), .i (rHi x - width + h + 1)] = rHi x - width + h + 1 := rfl
            refine ⟨isR_mk (by omega), ?_, ?_⟩
            · rw [e1]; omega
            · rw [e2]; omega
        · rw [memR_snoc, s2, ht, fits_snoc, hh]
          have e1 : rLo [.i (rLo x + h), .i (rHi x - width + h + 1)] = rLo x + h := rfl
          have e2 : rHi [.i (rLo x + h), .i (rHi x - width + h + 1)] = rHi x - width + h + 1 := rfl
          rw [e1, e2]
          refine ⟨fun h' => h'.imp id fun h' => ⟨by omega, by omega⟩, fun h' => h'.imp id fun h' => ⟨by omega, by omega⟩⟩
      · refine Ret.neg (by (first|rfl|assumption|(simp only [inI,sl]<;>omega))) ?_
        (repeat(first|(refine Ret.pos ?_ ?_;(first|rfl|assumption|(simp only [inI,sl]<;>omega)))|(refine Ret.neg ?_ ?_;(first|rfl|assumption|(simp only [inI,sl]<;>omega)))))
        refine Ret.some ⟨s, by simp, s0, by omega, fun n => ?_⟩
        rw [s2, ht, fits_snoc, hh]
        refine ⟨.inl, fun h' => h'.elim id fun h' => ?_⟩
        omega)
    (fun s hI => by
      unfold st_band_free_3
      (dsimp +instances only [gi0,gis,row1,rows1,int1,str1,bool1])
      (repeat(first|(refine Ret.pos ?_ ?_;(first|rfl|assumption|(simp only [inI,sl]<;>omega)))|(refine Ret.neg ?_ ?_;(first|rfl|assumption|(simp only [inI,sl]<;>omega)))))
      exact Ret.some rfl)
  refine r.mono ?_
  rintro _ _ ⟨s, ⟨q0, q1, q2⟩, rfl, rfl⟩
  rw [List.take_length] at q2
  exact ⟨rfl, s, rfl, q0, q1, q2⟩
theorem free_oth (bus may : List (List G)) (width at_ : Int) (hw0 : 1 ≤ width) (hw1 : width ≤ 100000) (hb : ∀ z ∈ bus, Bsy z) (hf : faultBusy bus = 0) (hn : bus.length ≤ 500) :
    RetL st_band_free_9 [.l may, .l [], .i width, .i at_, .l bus, .i (bus.length : Int), .i 0] fun c g => c = 0 ∧ ∃ oth, g = [.l may, .l oth] ∧ (∀ y ∈ oth, RowB y) ∧ oth.length ≤ bus.length ∧ ∀ n, memR oth n ↔ meets bus width at_ n := by
  obtain ⟨g1, g2, g3⟩ := half_ok width (by omega)
  have r := range_all (st := st_band_free_9) (σ := List (List G)) (fun s i => [.l may, .l s, .i width, .i at_, .l bus, .i (bus.length : Int), .i (i : Int)]) bus (fun s => (0, [.l may, .l s]))
    (fun s i => (∀ y ∈ s, RowB y) ∧ s.length ≤ i ∧ ∀ n, memR s n ↔ meets (bus.take i) width at_ n) [] (by omega) ⟨by simp, by simp, fun n => by simp [memR, meets]⟩
    (fun s i x ⟨s0, s1, s2⟩ hi hx hm ht => by
      obtain ⟨k1, k2, k3, k4, _⟩ := busy_right hf x hm
      obtain ⟨w, h', d', f', t', ex, _⟩ := hb x hm
      have ha : onAir at_ x = inT (gi x 3).int (gi x 4).int at_ := rfl
      unfold st_band_free_9
      (dsimp +instances only [gi0,gis,row1,rows1,int1,str1,bool1])
      simp only [Int.toNat_natCast, hx]
      refine Ret.pos (by (first|rfl|assumption|(simp only [inI,sl]<;>omega))) (Ret.pos (by (first|rfl|assumption|(simp only [inI,sl]<;>omega))) ?_)
      refine Ret.call (Ret.eq (has_ok _ _ _)) ?_
      rintro _ rfl
      (dsimp +instances only [gi0,gis,row1,rows1,int1,str1,bool1])
      rw [← ha]
      cases hon : onAir at_ x with
      | false =>
        refine Ret.neg rfl ?_
        (repeat(first|(refine Ret.pos ?_ ?_;(first|rfl|assumption|(simp only [inI,sl]<;>omega)))|(refine Ret.neg ?_ ?_;(first|rfl|assumption|(simp only [inI,sl]<;>omega)))))
        refine Ret.some ⟨s, by simp, s0, by omega, fun n => ?_⟩
        rw [s2, ht, meets_snoc, hon]
        simp
      | true =>
        refine Ret.pos rfl ?_
        refine Ret.call (Ret.eq (used_ok _ _ ⟨by omega, by omega⟩ (by omega) (by omega))) ?_
        rintro _ rfl
        obtain ⟨j1, j2, j3⟩ := half_ok (gi x 2).int (by omega)
        have u1 : rLo (useR (gi x 1).int (gi x 2).int) = (gi x 1).int - Int.tdiv (gi x 2).int 2 := rfl
        have u2 : rHi (useR (gi x 1).int (gi x 2).int) = (gi x 1).int - Int.tdiv (gi x 2).int 2 + (gi x 2).int := rfl
        have u3 : (gi (useR (gi x 1).int (gi x 2).int) 0).int = (gi x 1).int - Int.tdiv (gi x 2).int 2 := rfl
        have u4 : (gi (useR (gi x 1).int (gi x 2).int) 1).int = (gi x 1).int - Int.tdiv (gi x 2).int 2 + (gi x 2).int := rfl
        (dsimp +instances only [gi0,gis,row1,rows1,int1,str1,bool1])
        rw [u3, u4]
        generalize hA : (gi x 1).int - Int.tdiv (gi x 2).int 2 = A at *
        generalize hB : (gi x 2).int = B at *
        generalize hh : Int.tdiv width 2 = h at *
        (repeat(first|(refine Ret.pos ?_ ?_;(first|rfl|assumption|(simp only [inI,sl]<;>omega)))|(refine Ret.neg ?_ ?_;(first|rfl|assumption|(simp only [inI,sl]<;>omega)))))
        refine Ret.some ⟨s ++ [[.i (A - width + h + 1), .i (A + B + h)]], by simp, fun y hy => ?_, by simp; omega, fun n => ?_⟩
        · rcases List.mem_append.1 hy with hy | hy
          · exact s0 y hy
          · rw [List.mem_singleton.1 hy]
            have e1 : rLo [.i (A - width + h + 1), .i (A + B + h)] = A - width + h + 1 := rfl
            have e2 : rHi [.i (A - width + h + 1), .i (A + B + h)] = A + B + h := rfl
            refine ⟨isR_mk (by omega), ?_, ?_⟩
            · rw [e1]; omega
            · rw [e2]; omega
        · rw [memR_snoc, s2, ht, meets_snoc, hon, hB, u1, u2, hh]
          have e1 : rLo [.i (A - width + h + 1), .i (A + B + h)] = A - width + h + 1 := rfl
          have e2 : rHi [.i (A - width + h + 1), .i (A + B + h)] = A + B + h := rfl
          rw [e1, e2]
          refine ⟨fun h' => h'.imp id fun h' => ⟨rfl, by omega, by omega⟩, fun h' => h'.imp id fun h' => ⟨by omega, by omega⟩⟩)
    (fun s hI => by
      unfold st_band_free_9
      (dsimp +instances only [gi0,gis,row1,rows1,int1,str1,bool1])
      (repeat(first|(refine Ret.pos ?_ ?_;(first|rfl|assumption|(simp only [inI,sl]<;>omega)))|(refine Ret.neg ?_ ?_;(first|rfl|assumption|(simp only [inI,sl]<;>omega)))))
      exact Ret.some rfl)
  refine r.mono ?_
  rintro _ _ ⟨s, ⟨q0, q1, q2⟩, rfl, rfl⟩
  rw [List.take_length] at q2
  exact ⟨rfl, s, rfl, q0, q1, q2⟩
theorem free_ok (segs bus : List (List G)) (c : ByteArray) (mode width at_ : Int) (hs : ∀ z ∈ segs, Seg z) (hb : ∀ z ∈ bus, Bsy z) (hsn : segs.length ≤ 500) (hbn : bus.length ≤ 500) (h1 : faultSegs segs = 0) (h2 : faultBusy bus = 0) (hw0 : 1 ≤ width) (hw1 : width ≤ 100000) :
    Ret (F_band_free [.l segs, .l bus, .s c, .i mode, .i width, .i at_]) fun g => ∃ P out, g = [.l out] ∧ CanR P ∧ (∀ r ∈ P, IsR r ∧ 0 ≤ rLo r ∧ rHi r ≤ 30000000000) ∧ (∀ n, memR P n ↔ memR (permR segs c mode at_) n) ∧ CanR out ∧ out.length ≤ 300000 ∧ ∀ n, memR out n ↔ fits P width n ∧ ¬ meets bus width at_ n := by
  unfold F_band_free
  (dsimp +instances only [gi0,gis,row1,rows1,int1,str1,bool1])
  refine Ret.call (permitted_ok segs c mode at_ hs hsn h1) ?_
  rintro _ ⟨P, rfl, p1, p2, p3⟩
  have hP := perm_bound hs h1 p1 p3
  (dsimp +instances only [gi0,gis,row1,rows1,int1,str1,bool1])
  refine Ret.loop (free_may bus P width at_ hw0 hw1 hP (by omega)) rfl ?_
  rintro _ _ ⟨rfl, may, rfl, m1, m2, m3⟩
  (dsimp +instances only [gi0,gis,row1,rows1,int1,str1,bool1])
  refine Ret.loop (free_oth bus may width at_ hw0 hw1 hb h2 hbn) (by simp) ?_
  rintro _ _ ⟨rfl, oth, rfl, o1, o2, o3⟩
  (dsimp +instances only [gi0,gis,row1,rows1,int1,str1,bool1])
  refine Ret.callb (joined_ok may m1 (by omega)) (by (first|rfl|assumption|(simp only [inI,sl]<;>omega))) ?_
  rintro _ ⟨_, may', rfl, _, a1, a2, a3⟩
  (dsimp +instances only [gi0,gis,row1,rows1,int1,str1,bool1])
  refine Ret.callb (joined_ok oth o1 (by omega)) (by (first|rfl|assumption|(simp only [inI,sl]<;>omega))) ?_
  rintro _ ⟨_, oth', rfl, _, b1, b2, b3⟩
  (dsimp +instances only [gi0,gis,row1,rows1,int1,str1,bool1])
  refine Ret.call (without_ok may' oth' a1 b1 (by omega) (by omega)) ?_
  rintro _ ⟨out, rfl, c1, c3, c2⟩
  (dsimp +instances only [gi0,gis,row1,rows1,int1,str1,bool1])
  refine Ret.some ⟨P, out, rfl, p1, hP, p3, c1, c3, fun n => ?_⟩
  rw [c2, a3, b3, m3, o3]
/-! ### The nearest -/
def farI (wish n : Int) : Int := if wish - n > n - wish then wish - n else n - wish
def clampR (wish : Int) (r : List G) : Int := if rHi r - 1 < (if rLo r > wish then rLo r else wish) then rHi r - 1 else (if rLo r > wish then rLo r else wish)
def nearS (wish : Int) (s : Int × Bool) (r : List G) : Int × Bool := if s.2 = false ∨ farI wish (clampR wish r) < farI wish s.1 then (clampR wish r, true) else s
def nearL (wish : Int) (rows : List (List G)) : Int × Bool := rows.foldl (nearS wish) (0, false)
theorem nearL_snoc (wish : Int) (l : List (List G)) (x : List G) : nearL wish (l ++ [x]) = nearS wish (nearL wish l) x := by
  unfold nearL
  rw [List.foldl_append]
  rfl
theorem far_ok (wish n : Int) (hw : b40 wish) (hn : b40 n) : F_band_Nearest_1 [.i n, .l [[.i wish]]] = some [.i (farI wish n)] := by
  unfold b40 at *
  refine Ret.toEq ?_
  unfold F_band_Nearest_1 farI
  (dsimp +instances only [gi0,gis,row1,rows1,int1,str1,bool1])
  (repeat(first|(refine Ret.pos ?_ ?_;(first|rfl|assumption|(simp only [inI,sl]<;>omega)))|(refine Ret.neg ?_ ?_;(first|rfl|assumption|(simp only [inI,sl]<;>omega)))))
  exact Ret.some rfl
theorem near_loop (rows : List (List G)) (wish : Int) (hw : b40 wish) (hr : ∀ r ∈ rows, IsR r ∧ b40 (rLo r) ∧ b40 (rHi r)) (hn : rows.length ≤ 300000) :
    RetL st_band_Nearest_9 [.i wish, .i 0, .t false, .l rows, .i (rows.length : Int), .i 0] fun c g => c = 0 ∧ g = [.i (nearL wish rows).1, .t (nearL wish rows).2] := by
  have hw' := hw
  unfold b40 at hw'
  have r := range_all (st := st_band_Nearest_9) (σ := Int × Bool) (fun s i => [.i wish, .i s.1, .t s.2, .l rows, .i (rows.length : Int), .i (i : Int)]) rows (fun s => (0, [.i s.1, .t s.2]))
    (fun s i => s = nearL wish (rows.take i) ∧ b40 s.1) (0, false) (by omega) ⟨rfl, by unfold b40; simp⟩
    (fun s i x ⟨s0, s1⟩ hi hx hm ht => by
      obtain ⟨hX, hx1, hx2⟩ := hr x hm
      have hX2 := hX.2
      obtain ⟨best, q⟩ := s
      simp only at s0 s1
      have hc : b40 (clampR wish x) := by
        unfold clampR b40 at *
        constructor <;> split <;> split <;> omega
      unfold b40 at hx1 hx2
      have ec : (if rHi x - 1 < (if rLo x > wish then rLo x else wish) then rHi x - 1 else (if rLo x > wish then rLo x else wish)) = clampR wish x := rfl
      have b1 : (gi x 0).int = rLo x := rfl
      have b2 : (gi x 1).int = rHi x := rfl
      have en : nearL wish (rows.take (i + 1)) = nearS wish (best, q) x := by rw [ht, nearL_snoc, ← s0]
      unfold st_band_Nearest_9
      (dsimp +instances only [gi0,gis,row1,rows1,int1,str1,bool1])
      simp only [Int.toNat_natCast, hx]
      rw [b1, b2]
      simp only [ec]
      refine Ret.pos (by (first|rfl|assumption|(simp only [inI,sl]<;>omega))) (Ret.pos (by (first|rfl|assumption|(simp only [inI,sl]<;>omega))) (Ret.pos (by (first|rfl|assumption|(simp only [inI,sl]<;>omega))) ?_))
      cases q with
      | false =>
        refine Ret.pos rfl (Ret.pos (by (first|rfl|assumption|(simp only [inI,sl]<;>omega))) (Ret.some ⟨(clampR wish x, true), by simp, ?_, hc⟩))
        rw [en]
        unfold nearS
        rw [if_pos (.inl rfl)]
      | true =>
        refine Ret.neg rfl ?_
        refine Ret.call (Ret.eq (far_ok wish _ hw hc)) ?_
        rintro _ rfl
        refine Ret.call (Ret.eq (far_ok wish _ hw s1)) ?_
        rintro _ rfl
        (dsimp +instances only [gi0,gis,row1,rows1,int1,str1,bool1])
        by_cases hlt : farI wish (clampR wish x) < farI wish best
        · refine Ret.pos (by (first|rfl|assumption|(simp only [inI,sl]<;>omega))) (Ret.pos (by (first|rfl|assumption|(simp only [inI,sl]<;>omega))) (Ret.some ⟨(clampR wish x, true), by simp, ?_, hc⟩))
          rw [en]
          unfold nearS
          rw [if_pos (.inr hlt)]
        · refine Ret.neg (by (first|rfl|assumption|(simp only [inI,sl]<;>omega))) (Ret.pos (by (first|rfl|assumption|(simp only [inI,sl]<;>omega))) (Ret.some ⟨(best, true), by simp, ?_, s1⟩))
          rw [en]
          unfold nearS
          rw [if_neg (by simp; omega)])
    (fun s hI => by
      unfold st_band_Nearest_9
      (dsimp +instances only [gi0,gis,row1,rows1,int1,str1,bool1])
      (repeat(first|(refine Ret.pos ?_ ?_;(first|rfl|assumption|(simp only [inI,sl]<;>omega)))|(refine Ret.neg ?_ ?_;(first|rfl|assumption|(simp only [inI,sl]<;>omega)))))
      exact Ret.some rfl)
  refine r.mono ?_
  rintro _ _ ⟨s, ⟨q0, _⟩, rfl, rfl⟩
  rw [List.take_length] at q0
  subst q0
  exact ⟨rfl, rfl⟩
theorem can_b40 {out P : List (List G)} {bus : List (List G)} {width at_ : Int} (hw0 : 1 ≤ width) (hw1 : width ≤ 100000) (hP : ∀ r ∈ P, IsR r ∧ 0 ≤ rLo r ∧ rHi r ≤ 30000000000) (hc : CanR out) (hm : ∀ n, memR out n ↔ fits P width n ∧ ¬ meets bus width at_ n) : ∀ r ∈ out, IsR r ∧ 0 ≤ rLo r ∧ rHi r ≤ 30000000000 := by
  obtain ⟨g1, g2, g3⟩ := half_ok width (by omega)
  intro r hr
  have hR := hc.1 r hr
  obtain ⟨y, hy, h1, h2⟩ := ((hm (rLo r)).1 ⟨r, hr, Int.le_refl _, hR.2⟩).1
  obtain ⟨z, hz, h3, h4⟩ := ((hm (rHi r - 1)).1 ⟨r, hr, by have := hR.2; omega, by omega⟩).1
  have := hP y hy
  have := hP z hz
  exact ⟨hR, by omega, by omega⟩
end
end Go.Proofs.SYtpbepppkchjccaaGreatDoor

namespace Go.Proofs.SYtpbepppkchjccaaGreatDoor
open Go Go.AL Go.Proofs
noncomputable section
end
end Go.Proofs.SYtpbepppkchjccaaGreatDoor

namespace Go.Proofs.SYtpbepppkchjccaaGreatDoor
open Go Go.AL Go.Proofs
noncomputable section
/-! ### Numbers that are sorted, each once -/
theorem rowEq_int (a b : List G) : rowEq [.int .i64] (gEta [.int .i64] a) (gEta [.int .i64] b) = ((gi a 0).int == (gi b 0).int) := by
  show (((gi a 0).int == (gi b 0).int) && true) = _
  rw [Bool.and_true]
theorem cpt9_eq : st_slices_Compact_int_9 = cmpc9 [.int .i64] [.i 0] := by
  funext d
  unfold cmpc9
  simp only [rowEq_int]
  rfl
theorem cpt4_eq : st_slices_Compact_int_4 = cmpc4 [.int .i64] [.i 0] := by
  funext d
  unfold st_slices_Compact_int_4 cmpc4
  simp only [rowEq_int, cpt9_eq]
theorem cptF_eq : F_slices_Compact_int = cmpcF [.int .i64] [.i 0] := by
  funext d
  unfold F_slices_Compact_int cmpcF
  rw [cpt4_eq]
def One (r : List G) : Prop := r = [.i (rLo r)]
theorem kdsOne : Kds [.int .i64] One := ⟨fun r h => by rw [h]; rfl⟩
theorem rowEq_one {a b : List G} (ha : One a) (hb : One b) : rowEq [.int .i64] a b = (rLo a == rLo b) := by
  have := rowEq_int a b
  rw [kdsOne.eta a ha, kdsOne.eta b hb] at this
  exact this
theorem edges_once (rows : List (List G)) (hr : ∀ y ∈ rows, One y) (hn : rows.length < 99999) :
    ∃ es : List (List G), (∀ y ∈ es, One y) ∧ es.Pairwise (fun a b => rLo a < rLo b) ∧ (∀ n, (∃ y ∈ es, rLo y = n) ↔ ∃ y ∈ rows, rLo y = n) ∧ es.length ≤ rows.length ∧
      F_slices_Sort_int [.l rows] = some [.l (sortedI rows)] ∧ (sortedI rows).length = rows.length ∧ Ret (F_slices_Compact_int [.l (sortedI rows)]) fun g => ∃ J, g = [.l (es ++ J), .i (es.length : Int)] ∧ (es ++ J).length = rows.length := by
  have hone : ∀ y ∈ sortedI rows, One y := fun y hy => by
    obtain ⟨n, _, rfl⟩ := List.mem_map.1 hy
    rfl
  have hlen := sortedI_length rows
  have hpw : (sortedI rows).Pairwise fun a b => rLo a ≤ rLo b := by
    unfold sortedI
    rw [List.pairwise_map]
    refine (List.pairwise_mergeSort (le := fun x y : Int => decide (x ≤ y)) (fun a b c h1 h2 => ?_) (fun a b => ?_) _).imp fun {a b} h => ?_
    · rw [decide_eq_true_eq] at *
      omega
    · rw [Bool.or_eq_true, decide_eq_true_eq, decide_eq_true_eq]
      omega
    · rw [decide_eq_true_eq] at h
      exact h
  have hmem : ∀ n, (∃ y ∈ sortedI rows, rLo y = n) ↔ ∃ y ∈ rows, rLo y = n := fun n => by
    have hp := List.mergeSort_perm (rows.map fun r => (gi r 0).int) (fun x y => decide (x ≤ y))
    constructor
    · rintro ⟨y, hy, e⟩
      obtain ⟨m, hm, rfl⟩ := List.mem_map.1 hy
      obtain ⟨z, hz, e2⟩ := List.mem_map.1 (hp.mem_iff.1 hm)
      exact ⟨z, hz, by rw [← e]; exact e2⟩
    · rintro ⟨y, hy, e⟩
      exact ⟨[.i n], List.mem_map.2 ⟨n, hp.mem_iff.2 (List.mem_map.2 ⟨y, hy, e⟩), rfl⟩, rfl⟩
  have eqv : ∀ a ∈ sortedI rows, ∀ b ∈ sortedI rows, rowEq [.int .i64] a b = true → a = b := fun a ha b hb h => by
    rw [rowEq_one (hone a ha) (hone b hb), beq_iff_eq] at h
    rw [hone a ha, hone b hb, h]
  refine ⟨compact (rowEq [.int .i64]) (sortedI rows), fun y hy => hone y (compact_mem hy), ?_, fun n => ?_, ?_, ?_, hlen, ?_⟩
  · refine compact_rising (fun a b c h1 h2 => by omega) (fun x hx => by rw [rowEq_one (hone x hx) (hone x hx)]; simp) (fun a b c h1 h2 => ?_) eqv (hpw.imp_of_mem fun {a b} ha hb h => ?_)
    · have e : ∀ x y : List G, rowEq [.int .i64] x y = gEq (.int .i64) (x.headD default) (y.headD default) := fun x y => by
        show (gEq (.int .i64) (x.headD default) (y.headD default) && true) = _
        rw [Bool.and_true]
      rw [e] at *
      have e2 : ∀ x y : G, gEq (.int .i64) x y = (x.int == y.int) := fun x y => rfl
      rw [e2, beq_iff_eq] at *
      omega
    · rcases Int.lt_or_eq_of_le h with h | h
      · exact .inr h
      · left
        rw [hone a ha, hone b hb, h]
  · rw [← hmem n]
    constructor
    · rintro ⟨y, hy, e⟩
      exact ⟨y, compact_mem hy, e⟩
    · rintro ⟨y, hy, e⟩
      exact ⟨y, (compact_iff eqv).2 hy, e⟩
  · rw [← hlen]
    exact compact_length _ _
  · unfold F_slices_Sort_int sortIG
    show (bif Nat.blt rows.length 1000000 then some [G.l (sortedI rows)] else none) = _
    rw [show Nat.blt rows.length 1000000 = true by rw [Nat.blt_eq]; omega]
    rfl
  · rw [cptF_eq, ← hlen]
    exact cmpcF_eq (Z := [.i 0]) kdsOne _ hone (by omega)
/-! ### Is a number in a row? -/
def atRow (n : Int) (x : List G) : Bool := leI (rLo x) n && ltI n (rHi x)
theorem atRow_any (rows : List (List G)) (n : Int) : rows.any (atRow n) = true ↔ memR rows n := by
  rw [List.any_eq_true]
  unfold atRow
  constructor
  · rintro ⟨r, hr, h⟩
    rw [leI_eq, ltI_eq, Bool.and_eq_true, decide_eq_true_eq, decide_eq_true_eq] at h
    exact ⟨r, hr, h⟩
  · rintro ⟨r, hr, h⟩
    refine ⟨r, hr, ?_⟩
    rw [leI_eq, ltI_eq, Bool.and_eq_true, decide_eq_true_eq, decide_eq_true_eq]
    exact h
theorem inRows_ok (rows : List (List G)) (n : Int) (hr : ∀ r ∈ rows, IsR r) (hl : rows.length ≤ 100000) : F_pileref2_rowsOf_1 [.l rows, .i n] = some [.t (rows.any (atRow n))] := by
  refine Ret.toEq ?_
  unfold F_pileref2_rowsOf_1
  (dsimp +instances only [gi0,gis,row1,rows1,int1,str1,bool1])
  refine Ret.call (P := fun g => g = [.t (rows.any (atRow n))]) ?_ (by rintro _ rfl; exact Ret.some rfl)
  unfold F_slices_ContainsFunc_Row
  (dsimp +instances only [gi0,gis,row1,rows1,int1,str1,bool1])
  refine Ret.call (P := fun g => (∃ j : Nat, g = [.i (j : Int)] ∧ rows.any (atRow n) = true) ∨ (g = [.i (-1)] ∧ rows.any (atRow n) = false)) ?_ ?_
  · unfold F_slices_IndexFunc_Row
    (dsimp +instances only [gi0,gis,row1,rows1,int1,str1,bool1])
    refine Ret.loop (find_inv (st := st_slices_IndexFunc_Row_2) (fun i => [.l rows, .l [[.i n]], .i (rows.length : Int), .i (i : Int)]) rows (atRow n) (by omega) (fun i x hi hx hm => ?_) ?_) rfl ?_
    · have hX := hr x hm
      have e : F_pileref2_rowsOf_1_1 [.l [x], .l [[.i n]]] = some [.t (atRow n x)] := by
        refine Ret.toEq ?_
        unfold F_pileref2_rowsOf_1_1 atRow
        (dsimp +instances only [gi0,gis,row1,rows1,int1,str1,bool1])
        have b1 : (gi x 0).int = rLo x := rfl
        rw [b1]
        cases leI (rLo x) n with
        | true => exact Ret.pos rfl (Ret.some rfl)
        | false => exact Ret.neg rfl (Ret.some rfl)
      unfold st_slices_IndexFunc_Row_2
      (dsimp +instances only [gi0,gis,row1,rows1,int1,str1,bool1])
      simp only [Int.toNat_natCast, hx, isR_eta hX]
      refine Ret.pos (by (first|rfl|assumption|(simp only [inI,sl]<;>omega))) (Ret.pos (by (first|rfl|assumption|(simp only [inI,sl]<;>omega))) ?_)
      refine Ret.call (Ret.eq e) ?_
      rintro _ rfl
      (dsimp +instances only [gi0,gis,row1,rows1,int1,str1,bool1])
      cases atRow n x with
      | true => exact Ret.pos rfl (Ret.some rfl)
      | false => exact Ret.neg rfl (Ret.pos (by (first|rfl|assumption|(simp only [inI,sl]<;>omega))) (Ret.some (by simp)))
    · unfold st_slices_IndexFunc_Row_2
      (dsimp +instances only [gi0,gis,row1,rows1,int1,str1,bool1])
      (repeat(first|(refine Ret.pos ?_ ?_;(first|rfl|assumption|(simp only [inI,sl]<;>omega)))|(refine Ret.neg ?_ ?_;(first|rfl|assumption|(simp only [inI,sl]<;>omega)))))
      exact Ret.some rfl
    · rintro _ _ (⟨rfl, q1, x, q2, h1, h2, h3, rfl⟩ | ⟨rfl, rfl, h⟩)
      · exact Ret.pos rfl (Ret.some (.inl ⟨_, rfl, List.any_eq_true.2 ⟨x, by rw [h1]; simp, h3⟩⟩))
      · exact Ret.neg rfl (Ret.some (.inr ⟨rfl, List.any_eq_false.2 fun r hr' => by rw [h r hr']; simp⟩))
  · rintro g (⟨j, rfl, hx⟩ | ⟨rfl, hx⟩)
    · rw [hx]
      refine Ret.some ?_
      simp [gi0, int1, leI_eq]
    · rw [hx]
      exact Ret.some rfl
/-! ### The rows -/
def zRow : List G := [.i 0, .i 0]
theorem catRow_eq (a b : List (List G)) (h : a.length + b.length ≤ 1000) : F_slices_Concat_Row [.l [[.l a], [.l b]]] = some [.l (a ++ b)] := by
  have h := concF_eq (K := [.int .i64, .int .i64]) (Z := zRow) [a, b] (by simp [lenAll]; omega) (by simp)
  rw [show [a, b].flatten = a ++ b from by simp] at h
  exact h
def edg (x : List G) : List (List G) := [[.i (gi x 0).int], [.i (gi x 1).int]]
theorem edges_ok (l w rows : List (List G)) (hn : rows.length ≤ 1000) : RetL st_pileref2_rowsOf_3 [.l [], .l l, .l w, .l rows, .i (rows.length : Int), .i 0] fun c g => c = 0 ∧ g = [.l (rows.flatMap edg), .l l, .l w] := by
  have r := range_all (st := st_pileref2_rowsOf_3) (σ := List (List G)) (fun s i => [.l s, .l l, .l w, .l rows, .i (rows.length : Int), .i (i : Int)]) rows (fun s => (0, [.l s, .l l, .l w])) (fun s i => s = (rows.take i).flatMap edg ∧ s.length ≤ 2 * i) [] (by omega) ⟨rfl, by simp⟩
    (fun s i x ⟨s0, s1⟩ hi hx hm ht => by
      unfold st_pileref2_rowsOf_3
      (dsimp +instances only [gi0,gis,row1,rows1,int1,str1,bool1])
      simp only [Int.toNat_natCast, hx]
      (repeat(first|(refine Ret.pos ?_ ?_;(first|rfl|assumption|(simp only [inI,sl]<;>omega)))|(refine Ret.neg ?_ ?_;(first|rfl|assumption|(simp only [inI,sl]<;>omega)))))
      refine Ret.some ⟨s ++ edg x, by simp [edg], ?_, by simp [edg]; omega⟩
      rw [ht, List.flatMap_append, ← s0]
      simp)
    (fun s hI => by
      unfold st_pileref2_rowsOf_3
      (dsimp +instances only [gi0,gis,row1,rows1,int1,str1,bool1])
      (repeat(first|(refine Ret.pos ?_ ?_;(first|rfl|assumption|(simp only [inI,sl]<;>omega)))|(refine Ret.neg ?_ ?_;(first|rfl|assumption|(simp only [inI,sl]<;>omega)))))
      exact Ret.some rfl)
  refine r.mono ?_
  rintro _ _ ⟨s, ⟨q0, q1⟩, rfl, rfl⟩
  rw [List.take_length] at q0
  subst q0
  exact ⟨rfl, rfl⟩
theorem same_in {l : List (List G)} {a b n : Int} (hl : ∀ r ∈ l, ¬ (a < rLo r ∧ rLo r < b) ∧ ¬ (a < rHi r ∧ rHi r < b)) (h1 : a ≤ n) (h2 : n < b) : memR l n ↔ memR l a := by
  constructor
  · rintro ⟨r, hr, h3, h4⟩
    have := hl r hr
    exact ⟨r, hr, by omega, by omega⟩
  · rintro ⟨r, hr, h3, h4⟩
    have := hl r hr
    exact ⟨r, hr, by omega, by omega⟩
theorem rows_new (E acc l w : List (List G)) (k i a b : Int) (p : Int) (hi0 : 0 ≤ i) (hik : i + 1 < k) (hkn : k ≤ 100000) (hE : k ≤ (E.length : Int)) (ea : (gi (E.getD i.toNat []) 0).int = a) (eb : (gi (E.getD (i + 1).toNat []) 0).int = b) (hl : acc.length ≤ 10000) :
    tl_pileref2_rowsOf_17 [.l E, .l acc, .l l, .l w, .i k, .i i, .i p, .t false] = some (some 0, [.l E, .l (acc ++ [[.i a, .i b]]), .l l, .l w, .i k, .i i]) := by
  refine Ret.toEq ?_
  unfold tl_pileref2_rowsOf_17
  (dsimp +instances only [gi0,gis,row1,rows1,int1,str1,bool1])
  have ek : ((k.toNat : Nat) : Int) = k := by omega
  simp only [ek, Nat.zero_add, ea, eb]
  refine Ret.neg rfl ?_
  refine Ret.pos (by (first|rfl|assumption|(simp only [inI,sl]<;>omega))) (Ret.pos (by rw [decide_eq_true_eq]; omega) (Ret.pos (by (first|rfl|assumption|(simp only [inI,sl]<;>omega))) (Ret.pos (by (first|rfl|assumption|(simp only [inI,sl]<;>omega))) (Ret.pos (by rw [decide_eq_true_eq]; omega) (Ret.pos (by (first|rfl|assumption|(simp only [inI,sl]<;>omega))) (Ret.pos (by simp) (Ret.some rfl)))))))
theorem rows_old (E L l w : List (List G)) (c : List G) (hc : IsR c) (k i b : Int) (hi0 : 0 ≤ i) (hik : i + 1 < k) (hkn : k ≤ 100000) (hE : k ≤ (E.length : Int)) (eb : (gi (E.getD (i + 1).toNat []) 0).int = b) :
    tl_pileref2_rowsOf_17 [.l E, .l (L ++ [c]), .l l, .l w, .i k, .i i, .i (L.length : Int), .t true] = some (some 0, [.l E, .l (L ++ [[.i (rLo c), .i b]]), .l l, .l w, .i k, .i i]) := by
  obtain ⟨e1, e2, e3⟩ := snoc_last L c
  have hput : ∀ m : Int, putG [.int .i64, .int .i64] c 1 [.i m] = [.i (rLo c), .i m] := fun m => by
    rw [hc.1]
    rfl
  refine Ret.toEq ?_
  unfold tl_pileref2_rowsOf_17
  (dsimp +instances only [gi0,gis,row1,rows1,int1,str1,bool1])
  have ek : ((k.toNat : Nat) : Int) = k := by omega
  have hlen : (L ++ [c]).length = L.length + 1 := by simp
  simp only [ek, Nat.zero_add, eb, Int.toNat_natCast, e2, e3, hput]
  refine Ret.pos rfl ?_
  refine Ret.pos (by (first|rfl|assumption|(simp only [inI,sl]<;>omega))) (Ret.pos (by (first|rfl|assumption|(simp only [inI,sl]<;>omega))) (Ret.pos (by rw [decide_eq_true_eq]; omega) (Ret.pos (by rw [hlen]; (first|rfl|assumption|(simp only [inI,sl]<;>omega))) (Ret.pos (by simp) (Ret.pos (by simp) (Ret.some rfl))))))
theorem rowsOf_ok (l w : List (List G)) (hl : ∀ r ∈ l, IsR r) (hw : ∀ r ∈ w, IsR r) (hn : l.length + w.length ≤ 100) :
    Ret (F_pileref2_rowsOf [.l l, .l w]) fun g => ∃ out, g = [.l out] ∧ CanR out ∧ out.length ≤ 1000 ∧ ∀ n, memR out n ↔ memR l n ∧ ¬ memR w n := by
  have hedge : ∀ y ∈ (l ++ w).flatMap edg, One y := fun y hy => by
    obtain ⟨x, _, h⟩ := List.mem_flatMap.1 hy
    unfold edg at h
    simp only [List.mem_cons, List.not_mem_nil, or_false] at h
    rcases h with rfl | rfl <;> rfl
  have hel : ∀ q : List (List G), (q.flatMap edg).length = 2 * q.length := fun q => by
    induction q with
    | nil => rfl
    | cons x q ih => rw [List.flatMap_cons, List.length_append, ih]; simp [edg]; omega
  have hell := hel (l ++ w)
  rw [List.length_append] at hell
  obtain ⟨es, es1, es2, es3, es4, hsort, hslen, hcpt⟩ := edges_once ((l ++ w).flatMap edg) hedge (by omega)
  unfold F_pileref2_rowsOf
  (dsimp +instances only [gi0,gis,row1,rows1,int1,str1,bool1])
  refine Ret.call (Ret.eq (catRow_eq l w (by omega))) ?_
  rintro _ rfl
  (dsimp +instances only [gi0,gis,row1,rows1,int1,str1,bool1])
  refine Ret.loop (edges_ok l w (l ++ w) (by simp; omega)) rfl ?_
  rintro _ _ ⟨rfl, rfl⟩
  (dsimp +instances only [gi0,gis,row1,rows1,int1,str1,bool1])
  refine Ret.callb (Ret.eq hsort) (by (first|rfl|assumption|(simp only [inI,sl]<;>omega))) ?_
  rintro _ rfl
  (dsimp +instances only [gi0,gis,row1,rows1,int1,str1,bool1])
  refine Ret.callb hcpt (by rw [hslen]; simp) ?_
  rintro _ ⟨J, rfl, hJ⟩
  (dsimp +instances only [gi0,gis,row1,rows1,int1,str1,bool1])
  simp only [Int.toNat_natCast]
  have hE : ∀ i, i < es.length → (gi ((es ++ J).getD i []) 0).int = rLo (es.getD i []) := fun i hi => by
    have : (es ++ J).getD i [] = es.getD i [] := by
      rw [List.getD_eq_getElem?_getD, List.getD_eq_getElem?_getD, List.getElem?_append_left hi]
    rw [this]
  have hEl : es.length ≤ (es ++ J).length := by simp
  have rise : ∀ i j, i < j → j < es.length → rLo (es.getD i []) < rLo (es.getD j []) := fun i j hij hj => by
    have := List.pairwise_iff_getElem.1 es2 i j (by omega) hj hij
    simpa [List.getD_eq_getElem?_getD, hj, show i < es.length by omega] using this
  have place : ∀ n, (∃ x ∈ l ++ w, n = rLo x ∨ n = rHi x) → ∃ i, i < es.length ∧ rLo (es.getD i []) = n := fun n h => by
    obtain ⟨x, hx, h⟩ := h
    obtain ⟨y, hy, e⟩ := (es3 n).2 (by
      rcases h with h | h
      · exact ⟨[.i (gi x 0).int], List.mem_flatMap.2 ⟨x, hx, by simp [edg]⟩, h.symm⟩
      · exact ⟨[.i (gi x 1).int], List.mem_flatMap.2 ⟨x, hx, by simp [edg]⟩, h.symm⟩)
    obtain ⟨i, hi, rfl⟩ := List.mem_iff_getElem.1 hy
    exact ⟨i, hi, by simpa [List.getD_eq_getElem?_getD, hi] using e⟩
  have gap : ∀ i, i + 1 < es.length → ∀ x ∈ l ++ w, ¬ (rLo (es.getD i []) < rLo x ∧ rLo x < rLo (es.getD (i + 1) [])) ∧ ¬ (rLo (es.getD i []) < rHi x ∧ rHi x < rLo (es.getD (i + 1) [])) := by
    intro i hi x hx
    have key : ∀ n, (n = rLo x ∨ n = rHi x) → ¬ (rLo (es.getD i []) < n ∧ n < rLo (es.getD (i + 1) [])) := by
      rintro n hn ⟨h1, h2⟩
      obtain ⟨j, hj, e⟩ := place n ⟨x, hx, hn⟩
      rcases Nat.lt_trichotomy j i with h | h | h
      · have := rise j i h (by omega)
        omega
      · subst h
        omega
      · rcases Nat.lt_or_ge (i + 1) j with h' | h'
        · have := rise (i + 1) j h' hj
          omega
        · have : j = i + 1 := by omega
          subst this
          omega
    exact ⟨key _ (.inl rfl), key _ (.inr rfl)⟩
  have low : ∀ n, memR (l ++ w) n → ∃ i, i < es.length ∧ rLo (es.getD 0 []) ≤ n := fun n ⟨r, hr, h1, _⟩ => by
    obtain ⟨i, hi, e⟩ := place (rLo r) ⟨r, hr, .inl rfl⟩
    refine ⟨i, hi, ?_⟩
    rcases Nat.eq_zero_or_pos i with h | h
    · subst h
      omega
    · have := rise 0 i h hi
      omega
  have high : ∀ n, memR (l ++ w) n → n < rLo (es.getD (es.length - 1) []) := fun n ⟨r, hr, _, h1⟩ => by
    obtain ⟨i, hi, e⟩ := place (rHi r) ⟨r, hr, .inr rfl⟩
    rcases Nat.lt_or_ge i (es.length - 1) with h | h
    · have := rise i (es.length - 1) h (by omega)
      omega
    · have : i = es.length - 1 := by omega
      subst this
      omega
  have r := count_runs (st := st_pileref2_rowsOf_12) (σ := List (List G)) (fun s i => [.l (es ++ J), .l s, .l l, .l w, .i (es.length : Int), .i (i : Int)]) (es.length - 1) (fun s => (0, [.l s]))
    (fun s i => CanR s ∧ s.length ≤ i ∧ (∀ a ∈ s, rHi a ≤ rLo (es.getD i [])) ∧ ∀ n, memR s n ↔ (memR l n ∧ ¬ memR w n) ∧ n < rLo (es.getD i [])) (fun _ _ => False)
    (fun s i ⟨s0, s1, s2, s3⟩ hi => by
      have hi1 : i + 1 < es.length := by omega
      have eT : ((i : Int) + 1).toNat = i + 1 := by omega
      have hlt := rise i (i + 1) (by omega) hi1
      have inl : ∀ n, rLo (es.getD i []) ≤ n → n < rLo (es.getD (i + 1) []) → (memR l n ↔ memR l (rLo (es.getD i []))) := fun n h1 h2 => same_in (fun r hr => gap i hi1 r (List.mem_append_left _ hr)) h1 h2
      have inw : ∀ n, rLo (es.getD i []) ≤ n → n < rLo (es.getD (i + 1) []) → (memR w n ↔ memR w (rLo (es.getD i []))) := fun n h1 h2 => same_in (fun r hr => gap i hi1 r (List.mem_append_right _ hr)) h1 h2
      have skip : ¬ (memR l (rLo (es.getD i [])) ∧ ¬ memR w (rLo (es.getD i []))) → CanR s ∧ s.length ≤ i + 1 ∧ (∀ a ∈ s, rHi a ≤ rLo (es.getD (i + 1) [])) ∧ ∀ n, memR s n ↔ (memR l n ∧ ¬ memR w n) ∧ n < rLo (es.getD (i + 1) []) := fun hno => by
        refine ⟨s0, by omega, fun a ha => by have := s2 a ha; omega, fun n => ?_⟩
        rw [s3]
        constructor
        · rintro ⟨h1, h2⟩
          exact ⟨h1, by omega⟩
        · rintro ⟨h1, h2⟩
          refine ⟨h1, Int.not_le.1 fun hle => hno ?_⟩
          exact ⟨(inl n hle h2).1 h1.1, fun h => h1.2 ((inw n hle h2).2 h)⟩
      have take : memR l (rLo (es.getD i [])) ∧ ¬ memR w (rLo (es.getD i [])) → ∀ n, ((memR l n ∧ ¬ memR w n) ∧ n < rLo (es.getD i [])) ∨ (rLo (es.getD i []) ≤ n ∧ n < rLo (es.getD (i + 1) [])) ↔ (memR l n ∧ ¬ memR w n) ∧ n < rLo (es.getD (i + 1) []) := fun hy n => by
        constructor
        · rintro (⟨h1, h2⟩ | ⟨h1, h2⟩)
          · exact ⟨h1, by omega⟩
          · exact ⟨⟨(inl n h1 h2).2 hy.1, fun h => hy.2 ((inw n h1 h2).1 h)⟩, h2⟩
        · rintro ⟨h1, h2⟩
          by_cases hn : n < rLo (es.getD i [])
          · exact .inl ⟨h1, hn⟩
          · exact .inr ⟨by omega, h2⟩
      have hJl : (es ++ J).length ≤ 1000 := by omega
      have ea := hE i (by omega)
      have eb := hE (i + 1) hi1
      unfold st_pileref2_rowsOf_12
      (dsimp +instances only [gi0,gis,row1,rows1,int1,str1,bool1])
      simp only [Int.toNat_natCast, Nat.zero_add, eT, ea]
      generalize hA : rLo (es.getD i []) = A at *
      generalize hB : rLo (es.getD (i + 1) []) = B at *
      refine Ret.pos (by (first|rfl|assumption|(simp only [inI,sl]<;>omega))) (Ret.pos (by (first|rfl|assumption|(simp only [inI,sl]<;>omega))) (Ret.pos (by (first|rfl|assumption|(simp only [inI,sl]<;>omega))) (Ret.pos (by rw [decide_eq_true_eq]; omega) ?_)))
      refine Ret.call (Ret.eq (inRows_ok l A hl (by omega))) ?_
      rintro _ rfl
      (dsimp +instances only [gi0,gis,row1,rows1,int1,str1,bool1])
      cases h1 : l.any (atRow A) with
      | false =>
        have hno : ¬ memR l A := fun h => by rw [(atRow_any l A).2 h] at h1; cases h1
        refine Ret.pos rfl (Ret.pos (by (first|rfl|assumption|(simp only [inI,sl]<;>omega))) (Ret.pos (by simp) (Ret.some (.inl ⟨s, by simp, skip fun h => hno h.1⟩))))
      | true =>
      have hyl := (atRow_any l A).1 h1
      refine Ret.neg rfl (Ret.pos (by (first|rfl|assumption|(simp only [inI,sl]<;>omega))) (Ret.pos (by rw [decide_eq_true_eq]; omega) ?_))
      refine Ret.call (Ret.eq (inRows_ok w A hw (by omega))) ?_
      rintro _ rfl
      (dsimp +instances only [gi0,gis,row1,rows1,int1,str1,bool1])
      cases h2 : w.any (atRow A) with
      | true =>
        have hyw := (atRow_any w A).1 h2
        refine Ret.pos rfl (Ret.pos (by (first|rfl|assumption|(simp only [inI,sl]<;>omega))) (Ret.pos (by simp) (Ret.some (.inl ⟨s, by simp, skip fun h => h.2 hyw⟩))))
      | false =>
      have hnw : ¬ memR w A := fun h => by rw [(atRow_any w A).2 h] at h2; cases h2
      have take := take ⟨hyl, hnw⟩
      refine Ret.neg rfl (Ret.pos (by (first|rfl|assumption|(simp only [inI,sl]<;>omega))) ?_)
      have addN : CanR (s ++ [[.i A, .i B]]) → CanR (s ++ [[.i A, .i B]]) ∧ (s ++ [[G.i A, .i B]]).length ≤ i + 1 ∧ (∀ a ∈ s ++ [[.i A, .i B]], rHi a ≤ B) ∧ ∀ n, memR (s ++ [[.i A, .i B]]) n ↔ (memR l n ∧ ¬ memR w n) ∧ n < B := fun hc => by
        refine ⟨hc, by simp; omega, fun a ha => ?_, fun n => ?_⟩
        · rcases List.mem_append.1 ha with ha | ha
          · have := s2 a ha
            omega
          · rw [List.mem_singleton.1 ha]
            exact Int.le_refl B
        · rw [memR_snoc, s3, ← take n]
          exact Iff.rfl
      rcases List.eq_nil_or_concat s with rfl | ⟨L, c, e⟩
      · refine Ret.neg (by simp [sl]) ?_
        refine Ret.tail (P := fun x' g => x' = 0 ∧ g = [.l (es ++ J), .l ([] ++ [[.i A, .i B]]), .l l, .l w, .i (es.length : Int), .i (i : Int)]) ⟨_, rows_new (es ++ J) [] l w es.length i A B _ (by omega) (by omega) (by omega) (by omega) (by simpa using ea) (by rw [eT]; exact eb) (by simp), 0, rfl, rfl, rfl⟩ (by simp) ?_
        rintro _ _ ⟨rfl, rfl⟩
        (dsimp +instances only [gi0,gis,row1,rows1,int1,str1,bool1])
        simp only [Int.toNat_natCast]
        (repeat(first|(refine Ret.pos ?_ ?_;(first|rfl|assumption|(simp only [inI,sl]<;>omega)))|(refine Ret.neg ?_ ?_;(first|rfl|assumption|(simp only [inI,sl]<;>omega)))))
        exact Ret.some (.inl ⟨[] ++ [[.i A, .i B]], by simp, addN (by simpa using (canR_cons.2 ⟨isR_mk hlt, by simp, canR_nil⟩))⟩)
      · rw [List.concat_eq_append] at e
        subst e
        obtain ⟨e1, e2, e3⟩ := snoc_last L c
        have hlb : (((L ++ [c]).length : Nat) : Int) - 1 = (L.length : Int) := by simp
        simp only [hlb, Int.toNat_natCast, e2]
        have hcR := (canR_snoc.1 s0).2.2
        have hcA := s2 c (by simp)
        have hll : (L ++ [c]).length = L.length + 1 := by simp
        refine Ret.pos (by (first|rfl|assumption|(simp only [inI,sl]<;>omega))) (Ret.pos (by rw [hll]; (first|rfl|assumption|(simp only [inI,sl]<;>omega))) (Ret.pos (by simp) (Ret.pos (by (first|rfl|assumption|(simp only [inI,sl]<;>omega))) (Ret.pos (by rw [decide_eq_true_eq]; omega) ?_))))
        have b1 : (gi c 1).int = rHi c := rfl
        rw [b1]
        cases h8 : (rHi c == A) with
        | true =>
          have h8 : rHi c = A := by simpa using h8
          refine Ret.tail (P := fun x' g => x' = 0 ∧ g = [.l (es ++ J), .l (L ++ [[.i (rLo c), .i B]]), .l l, .l w, .i (es.length : Int), .i (i : Int)]) ⟨_, rows_old (es ++ J) L l w c hcR es.length i B (by omega) (by omega) (by omega) (by omega) (by rw [eT]; exact eb), 0, rfl, rfl, rfl⟩ (by simp) ?_
          rintro _ _ ⟨rfl, rfl⟩
          (dsimp +instances only [gi0,gis,row1,rows1,int1,str1,bool1])
          simp only [Int.toNat_natCast]
          (repeat(first|(refine Ret.pos ?_ ?_;(first|rfl|assumption|(simp only [inI,sl]<;>omega)))|(refine Ret.neg ?_ ?_;(first|rfl|assumption|(simp only [inI,sl]<;>omega)))))
          have hAx : IsR [.i A, .i B] := isR_mk hlt
          have hcl := hcR.2
          obtain ⟨g1, g2⟩ := canR_grow (x := [.i A, .i B]) s0 hAx (by show rLo c ≤ A; omega) (by show A ≤ rHi c; omega) (m := B) (by show B = max (rHi c) B; omega)
          refine Ret.some (.inl ⟨L ++ [[.i (rLo c), .i B]], by simp, g1, by simp at s1 ⊢; omega, fun a ha => ?_, fun n => ?_⟩)
          · rcases List.mem_append.1 ha with ha | ha
            · have := s2 a (List.mem_append_left _ ha)
              omega
            · rw [List.mem_singleton.1 ha]
              exact Int.le_refl B
          · rw [g2, s3, ← take n]
            exact Iff.rfl
        | false =>
          have h8 : ¬ rHi c = A := by simpa using h8
          refine Ret.tail (P := fun x' g => x' = 0 ∧ g = [.l (es ++ J), .l ((L ++ [c]) ++ [[.i A, .i B]]), .l l, .l w, .i (es.length : Int), .i (i : Int)]) ⟨_, rows_new (es ++ J) (L ++ [c]) l w es.length i A B _ (by omega) (by omega) (by omega) (by omega) (by simpa using ea) (by rw [eT]; exact eb) (by omega), 0, rfl, rfl, rfl⟩ (by simp) ?_
          rintro _ _ ⟨rfl, rfl⟩
          (dsimp +instances only [gi0,gis,row1,rows1,int1,str1,bool1])
          simp only [Int.toNat_natCast]
          (repeat(first|(refine Ret.pos ?_ ?_;(first|rfl|assumption|(simp only [inI,sl]<;>omega)))|(refine Ret.neg ?_ ?_;(first|rfl|assumption|(simp only [inI,sl]<;>omega)))))
          refine Ret.some (.inl ⟨(L ++ [c]) ++ [[.i A, .i B]], by simp, addN (canR_snoc.2 ⟨s0, fun a ha => ?_, isR_mk hlt⟩)⟩)
          show rHi a < A
          rcases List.mem_append.1 ha with ha | ha
          · have := (canR_snoc.1 s0).2.1 a ha
            have := hcR.2
            omega
          · rw [List.mem_singleton.1 ha]
            omega)
    (fun s hI => by
      have ei : ((es.length - 1 : Nat) : Int) + 1 < (es.length : Int) ↔ False := ⟨fun h => by omega, False.elim⟩
      unfold st_pileref2_rowsOf_12
      (dsimp +instances only [gi0,gis,row1,rows1,int1,str1,bool1])
      simp only [Int.toNat_natCast]
      have hlt : ltI (((es.length - 1 : Nat) : Int) + 1) (es.length : Int) = false := by
        rw [ltI_eq, decide_eq_false_iff_not]
        omega
      rw [hlt]
      (repeat(first|(refine Ret.pos ?_ ?_;(first|rfl|assumption|(simp only [inI,sl]<;>omega)))|(refine Ret.neg ?_ ?_;(first|rfl|assumption|(simp only [inI,sl]<;>omega)))))
      exact Ret.some rfl) (es.length - 1) [] 0 (by omega) ⟨canR_nil, by simp, by simp, fun n => ⟨fun h => (memR_nil n h).elim, fun ⟨⟨h1, _⟩, h2⟩ => by
        obtain ⟨i, hi, h3⟩ := low n ((memR_append _ _ _).2 (.inl h1))
        omega⟩⟩
  refine Ret.loop (r.to (by omega)) (by simp) ?_
  rintro _ _ (⟨s, ⟨q0, q1, q2, q3⟩, rfl, rfl⟩ | h)
  · (dsimp +instances only [gi0,gis,row1,rows1,int1,str1,bool1])
    refine Ret.pos (by simp) (Ret.some ⟨s, rfl, q0, by omega, fun n => ?_⟩)
    rw [q3]
    exact ⟨fun h => h.1, fun h => ⟨h, high n ((memR_append _ _ _).2 (.inl h.1))⟩⟩
  · exact h.elim
end
end Go.Proofs.SYtpbepppkchjccaaGreatDoor

namespace Go.Proofs.SYtpbepppkchjccaaGreatDoor
open Go Go.AL Go.Proofs
noncomputable section
theorem uses_ok (h d : Int) (h1 : b40 h) (h2 : 0 ≤ d) (h3 : d ≤ 1099511627776) : F_pileref2_uses [.i h, .i d] = some [.l [useR h d]] := by
  obtain ⟨g1, g2, g3⟩ := half_ok d h2
  unfold b40 at h1
  refine Ret.toEq ?_
  unfold F_pileref2_uses
  (dsimp +instances only [gi0,gis,row1,rows1,int1,str1,bool1])
  (repeat(first|(refine Ret.pos ?_ ?_;(first|rfl|assumption|(simp only [inI,sl]<;>omega)))|(refine Ret.neg ?_ ?_;(first|rfl|assumption|(simp only [inI,sl]<;>omega)))))
  exact Ret.some rfl
theorem refPerm_ok (segs : List (List G)) (c : ByteArray) (mode at_ : Int) (hs : ∀ z ∈ segs, Seg z) (hn : segs.length ≤ 500) : F_pileref2_permitted [.l segs, .s c, .i mode, .i at_] = some [.l (permR segs c mode at_)] := by
  refine Ret.toEq ?_
  unfold F_pileref2_permitted
  (dsimp +instances only [gi0,gis,row1,rows1,int1,str1,bool1])
  have r := range_all (st := st_pileref2_permitted_3) (σ := List (List G)) (fun s i => [.l s, .s c, .i mode, .i at_, .l segs, .i (segs.length : Int), .i (i : Int)]) segs (fun s => (0, [.l s])) (fun s i => s = permR (segs.take i) c mode at_ ∧ s.length ≤ i) [] (by omega) ⟨rfl, by simp⟩
    (fun s i x ⟨s0, s1⟩ hi hx hm ht => by
      obtain ⟨k, lo, hz, ms, f, t, hx', hc, hlo, hhi, hms, hml, hf, htt⟩ := hs x hm
      have fx : segFor c mode at_ x = ((k.toList == c.toList) && ((mode == 0) || hasI ms mode) && (leI f at_ && ltI at_ t)) := by
        rw [hx']
        rfl
      have yes : segFor c mode at_ x = true → s ++ [[.i lo, .i hz]] = permR (segs.take (i + 1)) c mode at_ ∧ (s ++ [[G.i lo, .i hz]]).length ≤ i + 1 := fun hy => by
        rw [ht, permR_snoc, hy, ← s0, hx']
        exact ⟨rfl, by simp; omega⟩
      have no : segFor c mode at_ x = false → s = permR (segs.take (i + 1)) c mode at_ ∧ s.length ≤ i + 1 := fun hy => by
        rw [ht, permR_snoc, hy, ← s0]
        exact ⟨by simp, by omega⟩
      unfold st_pileref2_permitted_3
      (dsimp +instances only [gi0,gis,row1,rows1,int1,str1,bool1])
      simp only [Int.toNat_natCast, hx]
      rw [hx'] at *
      (dsimp +instances only [gi0,gis,row1,rows1,int1,str1,bool1])
      refine Ret.pos (by (first|rfl|assumption|(simp only [inI,sl]<;>omega))) (Ret.pos (by (first|rfl|assumption|(simp only [inI,sl]<;>omega))) ?_)
      rw [fx] at yes no
      cases h1 : (k.toList == c.toList) with
      | false =>
        rw [h1] at no
        refine Ret.neg rfl ?_
        (repeat(first|(refine Ret.pos ?_ ?_;(first|rfl|assumption|(simp only [inI,sl]<;>omega)))|(refine Ret.neg ?_ ?_;(first|rfl|assumption|(simp only [inI,sl]<;>omega)))))
        exact Ret.some ⟨s, by simp, no rfl⟩
      | true =>
      rw [h1] at yes no
      refine Ret.pos rfl ?_
      cases h2 : leI f at_ with
      | false =>
        rw [h2] at no
        refine Ret.neg rfl ?_
        (repeat(first|(refine Ret.pos ?_ ?_;(first|rfl|assumption|(simp only [inI,sl]<;>omega)))|(refine Ret.neg ?_ ?_;(first|rfl|assumption|(simp only [inI,sl]<;>omega)))))
        exact Ret.some ⟨s, by simp, no (by simp)⟩
      | true =>
      rw [h2] at yes no
      refine Ret.pos rfl ?_
      cases h3 : ltI at_ t with
      | false =>
        rw [h3] at no
        refine Ret.neg rfl ?_
        (repeat(first|(refine Ret.pos ?_ ?_;(first|rfl|assumption|(simp only [inI,sl]<;>omega)))|(refine Ret.neg ?_ ?_;(first|rfl|assumption|(simp only [inI,sl]<;>omega)))))
        exact Ret.some ⟨s, by simp, no (by simp)⟩
      | true =>
      rw [h3] at yes no
      refine Ret.pos rfl ?_
      cases h4 : (mode == 0) with
      | true =>
        rw [h4] at yes
        refine Ret.pos rfl ?_
        (repeat(first|(refine Ret.pos ?_ ?_;(first|rfl|assumption|(simp only [inI,sl]<;>omega)))|(refine Ret.neg ?_ ?_;(first|rfl|assumption|(simp only [inI,sl]<;>omega)))))
        exact Ret.some ⟨_, by simp, yes rfl⟩
      | false =>
        rw [h4] at yes no
        refine Ret.neg rfl ?_
        refine Ret.call (Ret.eq (hasI_eq ms mode (by omega))) ?_
        rintro _ rfl
        (dsimp +instances only [gi0,gis,row1,rows1,int1,str1,bool1])
        cases h5 : hasI ms mode with
        | true =>
          rw [h5] at yes
          refine Ret.pos rfl ?_
          (repeat(first|(refine Ret.pos ?_ ?_;(first|rfl|assumption|(simp only [inI,sl]<;>omega)))|(refine Ret.neg ?_ ?_;(first|rfl|assumption|(simp only [inI,sl]<;>omega)))))
          exact Ret.some ⟨_, by simp, yes rfl⟩
        | false =>
          rw [h5] at no
          refine Ret.neg rfl ?_
          (repeat(first|(refine Ret.pos ?_ ?_;(first|rfl|assumption|(simp only [inI,sl]<;>omega)))|(refine Ret.neg ?_ ?_;(first|rfl|assumption|(simp only [inI,sl]<;>omega)))))
          exact Ret.some ⟨s, by simp, no rfl⟩)
    (fun s hI => by
      unfold st_pileref2_permitted_3
      (dsimp +instances only [gi0,gis,row1,rows1,int1,str1,bool1])
      (repeat(first|(refine Ret.pos ?_ ?_;(first|rfl|assumption|(simp only [inI,sl]<;>omega)))|(refine Ret.neg ?_ ?_;(first|rfl|assumption|(simp only [inI,sl]<;>omega)))))
      exact Ret.some rfl)
  refine Ret.loop r rfl ?_
  rintro _ _ ⟨s, ⟨q1, q2⟩, rfl, rfl⟩
  rw [List.take_length] at q1
  subst q1
  (dsimp +instances only [gi0,gis,row1,rows1,int1,str1,bool1])
  exact Ret.pos (by simp) (Ret.some rfl)
/-! ### What is wrong, as the reference says it -/
theorem hertzFault_ok (v : Int) : F_pilelaw2_hertzFault [.i v] = some [.i (bif inB v 0 30000000000 then 0 else 1)] := by
  refine Ret.toEq ?_
  unfold F_pilelaw2_hertzFault
  (dsimp +instances only [gi0,gis,row1,rows1,int1,str1,bool1])
  by_cases h : v < 0
  · refine Ret.pos (by (first|rfl|assumption|(simp only [inI,sl]<;>omega))) (Ret.call (Ret.eq (when_eq _ _)) ?_)
    rintro _ rfl
    rw [inB_not.2 (.inl h)]
    exact Ret.some rfl
  · refine Ret.neg (by (first|rfl|assumption|(simp only [inI,sl]<;>omega))) (Ret.call (Ret.eq (when_eq _ _)) ?_)
    rintro _ rfl
    by_cases h2 : 30000000000 < v
    · rw [inB_not.2 (.inr h2), ltI_eq, decide_eq_true h2]
      exact Ret.some rfl
    · rw [inB_iff.2 ⟨by omega, by omega⟩, ltI_eq, decide_eq_false h2]
      exact Ret.some rfl
theorem widthFault_ok (v : Int) : F_pilelaw2_widthFault [.i v] = some [.i (bif inB v 1 100000 then 0 else 1)] := by
  refine Ret.toEq ?_
  unfold F_pilelaw2_widthFault
  (dsimp +instances only [gi0,gis,row1,rows1,int1,str1,bool1])
  by_cases h : v < 1
  · refine Ret.pos (by (first|rfl|assumption|(simp only [inI,sl]<;>omega))) (Ret.call (Ret.eq (when_eq _ _)) ?_)
    rintro _ rfl
    rw [inB_not.2 (.inl h)]
    exact Ret.some rfl
  · refine Ret.neg (by (first|rfl|assumption|(simp only [inI,sl]<;>omega))) (Ret.call (Ret.eq (when_eq _ _)) ?_)
    rintro _ rfl
    by_cases h2 : 100000 < v
    · rw [inB_not.2 (.inr h2), ltI_eq, decide_eq_true h2]
      exact Ret.some rfl
    · rw [inB_iff.2 ⟨by omega, by omega⟩, ltI_eq, decide_eq_false h2]
      exact Ret.some rfl
theorem modeFault_ok (v : Int) : F_pilelaw2_modeFault [.i v] = some [.i (bif inB v 1 3 then 0 else 4)] := by
  refine Ret.toEq ?_
  unfold F_pilelaw2_modeFault
  (dsimp +instances only [gi0,gis,row1,rows1,int1,str1,bool1])
  by_cases h : v < 1
  · refine Ret.pos (by (first|rfl|assumption|(simp only [inI,sl]<;>omega))) (Ret.call (Ret.eq (when_eq _ _)) ?_)
    rintro _ rfl
    rw [inB_not.2 (.inl h)]
    exact Ret.some rfl
  · refine Ret.neg (by (first|rfl|assumption|(simp only [inI,sl]<;>omega))) (Ret.call (Ret.eq (when_eq _ _)) ?_)
    rintro _ rfl
    by_cases h2 : 3 < v
    · rw [inB_not.2 (.inr h2), ltI_eq, decide_eq_true h2]
      exact Ret.some rfl
    · rw [inB_iff.2 ⟨by omega, by omega⟩, ltI_eq, decide_eq_false h2]
      exact Ret.some rfl
theorem momentFault_ok (t : Int) : F_pileref2_MomentFault [.i t] = some [.i (bif inB t 0 345686399999 then 0 else 1)] := by
  have e : F_pileref2_Moment [.i t] = some [.t (inB t 0 345686399999)] := by
    unfold F_pileref2_Moment
    (dsimp +instances only [gi0,gis,row1,rows1,int1,str1,bool1])
    rw [in_eq]
    rfl
  refine Ret.toEq ?_
  unfold F_pileref2_MomentFault
  (dsimp +instances only [gi0,gis,row1,rows1,int1,str1,bool1])
  refine Ret.call (Ret.eq e) ?_
  rintro _ rfl
  (dsimp +instances only [gi0,gis,row1,rows1,int1,str1,bool1])
  cases inB t 0 345686399999 with
  | true => exact Ret.neg rfl (Ret.some rfl)
  | false => exact Ret.pos rfl (Ret.some rfl)
theorem nameFault_ok {c : ByteArray} (hc : c ∈ classes) : F_pilelaw2_nameFault [.s c] = some [.i (bif okClass c then 0 else 5)] := by
  refine Ret.toEq ?_
  unfold F_pilelaw2_nameFault
  (dsimp +instances only [gi0,gis,row1,rows1,int1,str1,bool1])
  refine Ret.call (Ret.eq (class_eq hc)) ?_
  rintro _ rfl
  (dsimp +instances only [gi0,gis,row1,rows1,int1,str1,bool1])
  refine Ret.call (Ret.eq (when_eq _ _)) ?_
  rintro _ rfl
  cases okClass c <;> exact Ret.some rfl
theorem e_first (x : Int) (q : List Int) : firstE (x :: q) = if x ≠ 0 then x else firstE q := by
  show (bif x != 0 then x else firstE q) = _
  by_cases h : x = 0
  · simp [h]
  · have e : (x != 0) = true := by simpa using h
    rw [e, if_pos h]
    rfl
theorem e_none : firstE [] = 0 := rfl
/-! ### Windows and Lost -/
/-! ### What the reference says -/
theorem equalCan (a : List (List G)) (h : CanR a) (hn : a.length < 100000) : F_slices_Equal_Row [.l a, .l a] = some [.t true] :=
  equalRow_refl a (fun r hr => ⟨_, _, (h.1 r hr).1⟩) hn
/-! ### The law -/
theorem r_Near (l : List (List G)) (a : Int) (ha : 0 ≤ a) (ha1 : a ≤ 100000) : Ret (F_pilemake_Stream_Near [.l l, .i a]) fun g => ∃ b v, g = [.l l, .i b, .i v] ∧ a ≤ b ∧ b ≤ a + 3 ∧ b40 v := by
  unfold F_pilemake_Stream_Near
  (dsimp +instances only [gi0,gis,row1,rows1,int1,str1,bool1])
  refine Ret.call (r_Flip l a 20 ha (by omega) (by omega) (by omega)) ?_
  rintro _ ⟨f, rfl⟩
  (dsimp +instances only [gi0,gis,row1,rows1,int1,str1,bool1])
  cases f with
  | true =>
    refine Ret.pos rfl ?_
    refine Ret.call (r_OddX l _ 0 30000000000 (by omega) (by omega) (by omega) (by omega) (by omega)) ?_
    rintro _ ⟨v, rfl, hv⟩
    (dsimp +instances only [gi0,gis,row1,rows1,int1,str1,bool1])
    exact Ret.some ⟨_, v, rfl, by omega, by omega, hv⟩
  | false =>
    refine Ret.neg rfl ?_
    refine Ret.call (r_RangeX l _ 0 330 (by omega) (by omega) (by omega) (by omega) (by omega)) ?_
    rintro _ ⟨v, rfl, hv0, hv1⟩
    (dsimp +instances only [gi0,gis,row1,rows1,int1,str1,bool1])
    exact Ret.some ⟨_, v, rfl, by omega, by omega, by omega, by omega⟩
theorem r_Wide (l : List (List G)) (a : Int) (ha : 0 ≤ a) (ha1 : a ≤ 900000) : Ret (F_pilemake_Stream_Wide [.l l, .i a]) fun g => ∃ v, g = [.l l, .i (a + 1), .i v] ∧ 0 ≤ v ∧ v ≤ 100001 := by
  unfold F_pilemake_Stream_Wide
  (dsimp +instances only [gi0,gis,row1,rows1,int1,str1,bool1])
  refine Ret.call (r_PickB 0 100001 l a _ ha (by omega) (by kernel_rfl) (by kernel_rfl)) ?_
  rintro _ ⟨v, rfl, hv0, hv1⟩
  exact Ret.some ⟨v, rfl, hv0, hv1⟩
end
end Go.Proofs.SYtpbepppkchjccaaGreatDoor

namespace Go.Proofs.SYtpbepppkchjccaaGreatDoor
open Go Go.AL Go.Proofs
noncomputable section
/-! ### Who is too near -/
def meetB (x y : List G) : Bool := ltI (rLo x) (rHi y) && ltI (rLo y) (rHi x)
def useB (a : List G) : List G := useR (gi a 1).int (gi a 2).int
def timB (a : List G) : List G := [.i (gi a 3).int, .i (gi a 4).int]
def nearB (a b : List G) : Bool := !((gi a 0).str.toList == (gi b 0).str.toList) && (meetB (useB a) (useB b) && meetB (timB a) (timB b))
def pairB (a b : List G) : List G := [.s (gi a 0).str, .s (gi b 0).str]
structure BusR (a : List G) : Prop where
  is : Bsy a
  h0 : 0 ≤ (gi a 1).int
  h1 : (gi a 1).int ≤ 30000000000
  d0 : 1 ≤ (gi a 2).int
  d1 : (gi a 2).int ≤ 100000
  time : okTime (gi a 3).int (gi a 4).int = true
theorem busR_of {bus : List (List G)} (hb : ∀ z ∈ bus, Bsy z) (hf : faultBusy bus = 0) : ∀ a ∈ bus, BusR a := fun a ha => by
  obtain ⟨h1, h2, h3, h4, h5⟩ := busy_right hf a ha
  exact ⟨hb a ha, h1, h2, h3, h4, h5⟩
theorem BusR.lt {a : List G} (h : BusR a) : rLo (useB a) < rHi (useB a) := by
  have e1 : rLo (useB a) = (gi a 1).int - Int.tdiv (gi a 2).int 2 := rfl
  have e2 : rHi (useB a) = (gi a 1).int - Int.tdiv (gi a 2).int 2 + (gi a 2).int := rfl
  have := h.d0
  omega
theorem meet_ok (x y : List G) : F_band_meet [.l [x], .l [y]] = some [.t (meetB x y)] := by
  refine Ret.toEq ?_
  unfold F_band_meet meetB
  (dsimp +instances only [gi0,gis,row1,rows1,int1,str1,bool1])
  have e1 : (gi x 0).int = rLo x := rfl
  have e2 : (gi y 1).int = rHi y := rfl
  rw [e1, e2]
  cases ltI (rLo x) (rHi y) with
  | true => exact Ret.pos rfl (Ret.some rfl)
  | false => exact Ret.neg rfl (Ret.some rfl)
theorem near_in (bus rest acc : List (List G)) (w : ByteArray) (h d f t n i : Int) (ha : BusR [.s w, .i h, .i d, .i f, .i t]) (hr : ∀ z ∈ rest, BusR z) (hn : rest.length ≤ 500) (hl : acc.length ≤ 300000) :
    RetL st_band_TooNear_9 [.l acc, .s w, .i h, .i d, .i f, .i t, .l bus, .l bus, .i n, .i i, .l rest, .i (rest.length : Int), .i 0] fun c g => c = 0 ∧ g = [.l (acc ++ (rest.filter (nearB [.s w, .i h, .i d, .i f, .i t])).map (pairB [.s w, .i h, .i d, .i f, .i t])), .l bus, .l bus, .i n, .i i] := by
  have q1 := ha.h0
  have q2 := ha.h1
  have q3 := ha.d0
  have q4 := ha.d1
  simp only [gis, gi0, int1] at q1 q2 q3 q4
  have r := range_all (st := st_band_TooNear_9) (σ := List (List G)) (fun s j => [.l s, .s w, .i h, .i d, .i f, .i t, .l bus, .l bus, .i n, .i i, .l rest, .i (rest.length : Int), .i (j : Int)]) rest (fun s => (0, [.l s, .l bus, .l bus, .i n, .i i]))
    (fun s j => s = acc ++ ((rest.take j).filter (nearB [.s w, .i h, .i d, .i f, .i t])).map (pairB [.s w, .i h, .i d, .i f, .i t]) ∧ s.length ≤ acc.length + j) acc (by omega) ⟨by simp, by simp⟩
    (fun s j x ⟨s0, s1⟩ hj hx hm ht => by
      have hX := hr x hm
      obtain ⟨w', h', d', f', t', ex, _⟩ := hX.is
      have x1 := hX.h0
      have x2 := hX.h1
      have x3 := hX.d0
      have x4 := hX.d1
      have eN : nearB [.s w, .i h, .i d, .i f, .i t] x = (!(w.toList == (gi x 0).str.toList) && (meetB (useR h d) (useR (gi x 1).int (gi x 2).int) && meetB [.i f, .i t] [.i (gi x 3).int, .i (gi x 4).int])) := rfl
      have yes : nearB [.s w, .i h, .i d, .i f, .i t] x = true → s ++ [[.s w, .s (gi x 0).str]] = acc ++ ((rest.take (j + 1)).filter (nearB [.s w, .i h, .i d, .i f, .i t])).map (pairB [.s w, .i h, .i d, .i f, .i t]) ∧ (s ++ [[G.s w, .s (gi x 0).str]]).length ≤ acc.length + (j + 1) := fun hy => by
        rw [ht, List.filter_append, List.map_append, ← List.append_assoc, ← s0]
        have e : [x].filter (nearB [.s w, .i h, .i d, .i f, .i t]) = [x] := by simp [hy]
        rw [e]
        exact ⟨rfl, by simp; omega⟩
      have no : nearB [.s w, .i h, .i d, .i f, .i t] x = false → s = acc ++ ((rest.take (j + 1)).filter (nearB [.s w, .i h, .i d, .i f, .i t])).map (pairB [.s w, .i h, .i d, .i f, .i t]) ∧ s.length ≤ acc.length + (j + 1) := fun hy => by
        rw [ht, List.filter_append, List.map_append, ← List.append_assoc, ← s0]
        have e : [x].filter (nearB [.s w, .i h, .i d, .i f, .i t]) = [] := by simp [hy]
        rw [e]
        exact ⟨by simp, by omega⟩
      rw [eN] at yes no
      unfold st_band_TooNear_9
      (dsimp +instances only [gi0,gis,row1,rows1,int1,str1,bool1])
      simp only [Int.toNat_natCast, hx]
      refine Ret.pos (by (first|rfl|assumption|(simp only [inI,sl]<;>omega))) (Ret.pos (by (first|rfl|assumption|(simp only [inI,sl]<;>omega))) ?_)
      cases c1 : (!(w.toList == (gi x 0).str.toList)) with
      | false =>
        rw [c1] at no
        refine Ret.neg rfl ?_
        (repeat(first|(refine Ret.pos ?_ ?_;(first|rfl|assumption|(simp only [inI,sl]<;>omega)))|(refine Ret.neg ?_ ?_;(first|rfl|assumption|(simp only [inI,sl]<;>omega)))))
        exact Ret.some ⟨s, by simp, no rfl⟩
      | true =>
      rw [c1] at yes no
      refine Ret.pos rfl ?_
      refine Ret.call (Ret.eq (used_ok h d ⟨by omega, by omega⟩ (by omega) (by omega))) ?_
      rintro _ rfl
      refine Ret.call (Ret.eq (used_ok (gi x 1).int (gi x 2).int ⟨by omega, by omega⟩ (by omega) (by omega))) ?_
      rintro _ rfl
      (dsimp +instances only [gi0,gis,row1,rows1,int1,str1,bool1])
      have hu1 : gEta [.int .i64, .int .i64] (useR h d) = useR h d := rfl
      have hu2 : gEta [.int .i64, .int .i64] (useR (gi x 1).int (gi x 2).int) = useR (gi x 1).int (gi x 2).int := rfl
      rw [hu1, hu2]
      refine Ret.call (Ret.eq (meet_ok _ _)) ?_
      rintro _ rfl
      (dsimp +instances only [gi0,gis,row1,rows1,int1,str1,bool1])
      cases c2 : meetB (useR h d) (useR (gi x 1).int (gi x 2).int) with
      | false =>
        rw [c2] at no
        refine Ret.neg rfl ?_
        (repeat(first|(refine Ret.pos ?_ ?_;(first|rfl|assumption|(simp only [inI,sl]<;>omega)))|(refine Ret.neg ?_ ?_;(first|rfl|assumption|(simp only [inI,sl]<;>omega)))))
        exact Ret.some ⟨s, by simp, no rfl⟩
      | true =>
      rw [c2] at yes no
      refine Ret.pos rfl ?_
      refine Ret.call (Ret.eq (meet_ok _ _)) ?_
      rintro _ rfl
      (dsimp +instances only [gi0,gis,row1,rows1,int1,str1,bool1])
      cases c3 : meetB [.i f, .i t] [.i (gi x 3).int, .i (gi x 4).int] with
      | false =>
        rw [c3] at no
        refine Ret.neg rfl ?_
        (repeat(first|(refine Ret.pos ?_ ?_;(first|rfl|assumption|(simp only [inI,sl]<;>omega)))|(refine Ret.neg ?_ ?_;(first|rfl|assumption|(simp only [inI,sl]<;>omega)))))
        exact Ret.some ⟨s, by simp, no rfl⟩
      | true =>
        rw [c3] at yes
        refine Ret.pos rfl ?_
        (repeat(first|(refine Ret.pos ?_ ?_;(first|rfl|assumption|(simp only [inI,sl]<;>omega)))|(refine Ret.neg ?_ ?_;(first|rfl|assumption|(simp only [inI,sl]<;>omega)))))
        exact Ret.some ⟨_, by simp, yes rfl⟩)
    (fun s hI => by
      unfold st_band_TooNear_9
      (dsimp +instances only [gi0,gis,row1,rows1,int1,str1,bool1])
      (repeat(first|(refine Ret.pos ?_ ?_;(first|rfl|assumption|(simp only [inI,sl]<;>omega)))|(refine Ret.neg ?_ ?_;(first|rfl|assumption|(simp only [inI,sl]<;>omega)))))
      exact Ret.some rfl)
  refine r.mono ?_
  rintro _ _ ⟨s, ⟨e, _⟩, rfl, rfl⟩
  rw [List.take_length] at e
  subst e
  exact ⟨rfl, rfl⟩
def pairsAt (bus : List (List G)) (j : Nat) : List (List G) := ((bus.drop (j + 1)).filter (nearB (bus.getD j []))).map (pairB (bus.getD j []))
def pairsTo (bus : List (List G)) : Nat → List (List G)
  | 0 => []
  | i + 1 => pairsTo bus i ++ pairsAt bus i
theorem pairsAt_length (bus : List (List G)) (j : Nat) : (pairsAt bus j).length ≤ bus.length := by
  unfold pairsAt
  rw [List.length_map]
  refine Nat.le_trans (List.length_filter_le _ _) ?_
  rw [List.length_drop]
  omega
theorem tooNear_ok (bus : List (List G)) (hb : ∀ z ∈ bus, Bsy z) (hn : bus.length ≤ 500) :
    F_band_TooNear [.l bus] = some (if faultBusy bus ≠ 0 then [.l [], .i (faultBusy bus)] else [.l (pairsTo bus bus.length), .i 0]) := by
  refine Ret.toEq ?_
  unfold F_band_TooNear
  (dsimp +instances only [gi0,gis,row1,rows1,int1,str1,bool1])
  refine Ret.call (Ret.eq (checkBusy_ok bus hb)) ?_
  rintro _ rfl
  (dsimp +instances only [gi0,gis,row1,rows1,int1,str1,bool1])
  by_cases hf : faultBusy bus = 0
  rotate_left
  · rw [if_pos hf]
    exact Ret.pos (by simpa using hf) (Ret.some rfl)
  rw [if_neg (by simpa using hf)]
  have hR := busR_of hb hf
  refine Ret.neg (by simpa using hf) ?_
  have r := range_all (st := st_band_TooNear_6) (σ := List (List G)) (fun s i => [.l s, .l bus, .l bus, .i (bus.length : Int), .i (i : Int)]) bus (fun s => (0, [.l s])) (fun s i => s = pairsTo bus i ∧ s.length ≤ 500 * i) [] (by omega) ⟨rfl, by simp⟩
    (fun s i x ⟨s0, s1⟩ hi hx hm ht => by
      have hX := hR x hm
      obtain ⟨w, h, d, f, t, rfl, _⟩ := hX.is
      have eT : ((i : Int) + 1).toNat = i + 1 := by omega
      unfold st_band_TooNear_6
      (dsimp +instances only [gi0,gis,row1,rows1,int1,str1,bool1])
      simp only [Int.toNat_natCast, hx, eT]
      (dsimp +instances only [gi0,gis,row1,rows1,int1,str1,bool1])
      refine Ret.pos (by (first|rfl|assumption|(simp only [inI,sl]<;>omega))) (Ret.pos (by (first|rfl|assumption|(simp only [inI,sl]<;>omega))) (Ret.pos (by (first|rfl|assumption|(simp only [inI,sl]<;>omega))) (Ret.pos (by (first|rfl|assumption|(simp only [inI,sl]<;>omega))) ?_)))
      refine Ret.loop (near_in bus (bus.drop (i + 1)) s w h d f t bus.length i hX (fun z hz => hR z (List.mem_of_mem_drop hz)) (by rw [List.length_drop]; omega) (by omega)) (by simp) ?_
      rintro _ _ ⟨rfl, rfl⟩
      (dsimp +instances only [gi0,gis,row1,rows1,int1,str1,bool1])
      (repeat(first|(refine Ret.pos ?_ ?_;(first|rfl|assumption|(simp only [inI,sl]<;>omega)))|(refine Ret.neg ?_ ?_;(first|rfl|assumption|(simp only [inI,sl]<;>omega)))))
      have e : pairsAt bus i = ((bus.drop (i + 1)).filter (nearB [.s w, .i h, .i d, .i f, .i t])).map (pairB [.s w, .i h, .i d, .i f, .i t]) := by
        unfold pairsAt
        rw [hx]
      have hl := pairsAt_length bus i
      rw [e] at hl
      refine Ret.some ⟨_, by simp; rfl, ?_, ?_⟩
      · show _ = pairsTo bus i ++ pairsAt bus i
        rw [e, s0]
      · rw [List.length_append]
        omega)
    (fun s hI => by
      unfold st_band_TooNear_6
      (dsimp +instances only [gi0,gis,row1,rows1,int1,str1,bool1])
      (repeat(first|(refine Ret.pos ?_ ?_;(first|rfl|assumption|(simp only [inI,sl]<;>omega)))|(refine Ret.neg ?_ ?_;(first|rfl|assumption|(simp only [inI,sl]<;>omega)))))
      exact Ret.some rfl)
  refine Ret.loop r rfl ?_
  rintro _ _ ⟨s, ⟨q1, q2⟩, rfl, rfl⟩
  subst q1
  (dsimp +instances only [gi0,gis,row1,rows1,int1,str1,bool1])
  exact Ret.pos (by simp) (Ret.some rfl)
theorem near_ref (a x : List G) (ha : BusR a) (hX : BusR x) (hw : (!((gi a 0).str.toList == (gi x 0).str.toList)) = true) : F_pileref2_near [.l [a], .l [x]] = some [.t (nearB a x)] := by
  have q1 := ha.h0
  have q2 := ha.h1
  have q3 := ha.d0
  have q4 := ha.d1
  have x1 := hX.h0
  have x2 := hX.h1
  have x3 := hX.d0
  have x4 := hX.d1
  obtain ⟨t1, t2, t3⟩ := okTime_iff.1 ha.time
  obtain ⟨t4, t5, t6⟩ := okTime_iff.1 hX.time
  refine Ret.toEq ?_
  unfold F_pileref2_near
  (dsimp +instances only [gi0,gis,row1,rows1,int1,str1,bool1])
  refine Ret.call (Ret.eq (uses_ok _ _ ⟨by omega, by omega⟩ (by omega) (by omega))) ?_
  rintro _ rfl
  refine Ret.call (Ret.eq (uses_ok _ _ ⟨by omega, by omega⟩ (by omega) (by omega))) ?_
  rintro _ rfl
  (dsimp +instances only [gi0,gis,row1,rows1,int1,str1,bool1])
  have e1 : ∀ b : List G, (gi (useR (gi b 1).int (gi b 2).int) 0).int = rLo (useB b) := fun b => rfl
  have e2 : ∀ b : List G, (gi (useR (gi b 1).int (gi b 2).int) 1).int = rHi (useB b) := fun b => rfl
  rw [e1, e1, e2, e2]
  have l1 := ha.lt
  have l2 := hX.lt
  have m1 : ltI (if rLo (useB x) > rLo (useB a) then rLo (useB x) else rLo (useB a)) (if rHi (useB x) < rHi (useB a) then rHi (useB x) else rHi (useB a)) = meetB (useB a) (useB x) := by
    unfold meetB
    rw [ltI_eq, ltI_eq, ltI_eq, Bool.eq_iff_iff, Bool.and_eq_true, decide_eq_true_eq, decide_eq_true_eq, decide_eq_true_eq]
    constructor
    · intro h
      split at h <;> split at h <;> omega
    · rintro ⟨h1, h2⟩
      split <;> split <;> omega
  have m2 : ltI (if (gi x 3).int > (gi a 3).int then (gi x 3).int else (gi a 3).int) (if (gi x 4).int < (gi a 4).int then (gi x 4).int else (gi a 4).int) = meetB (timB a) (timB x) := by
    have z1 : ∀ b : List G, rLo (timB b) = (gi b 3).int := fun b => rfl
    have z2 : ∀ b : List G, rHi (timB b) = (gi b 4).int := fun b => rfl
    unfold meetB
    rw [z1, z1, z2, z2, ltI_eq, ltI_eq, ltI_eq, Bool.eq_iff_iff, Bool.and_eq_true, decide_eq_true_eq, decide_eq_true_eq, decide_eq_true_eq]
    constructor
    · intro h
      split at h <;> split at h <;> omega
    · rintro ⟨h1, h2⟩
      split <;> split <;> omega
  rw [m1, m2]
  unfold nearB
  rw [hw]
  cases meetB (useB a) (useB x) with
  | true => exact Ret.pos rfl (Ret.some rfl)
  | false => exact Ret.neg rfl (Ret.some rfl)
theorem pairs_in (bus rest acc : List (List G)) (w : ByteArray) (h d f t n i : Int) (ha : BusR [.s w, .i h, .i d, .i f, .i t]) (hr : ∀ z ∈ rest, BusR z) (hn : rest.length ≤ 500) (hl : acc.length ≤ 300000) :
    RetL st_pileref2_NearPairs_6 [.l acc, .s w, .i h, .i d, .i f, .i t, .l bus, .l bus, .i n, .i i, .l rest, .i (rest.length : Int), .i 0] fun c g => c = 0 ∧ g = [.l (acc ++ (rest.filter (nearB [.s w, .i h, .i d, .i f, .i t])).map (pairB [.s w, .i h, .i d, .i f, .i t])), .l bus, .l bus, .i n, .i i] := by
  have r := range_all (st := st_pileref2_NearPairs_6) (σ := List (List G)) (fun s j => [.l s, .s w, .i h, .i d, .i f, .i t, .l bus, .l bus, .i n, .i i, .l rest, .i (rest.length : Int), .i (j : Int)]) rest (fun s => (0, [.l s, .l bus, .l bus, .i n, .i i]))
    (fun s j => s = acc ++ ((rest.take j).filter (nearB [.s w, .i h, .i d, .i f, .i t])).map (pairB [.s w, .i h, .i d, .i f, .i t]) ∧ s.length ≤ acc.length + j) acc (by omega) ⟨by simp, by simp⟩
    (fun s j x ⟨s0, s1⟩ hj hx hm ht => by
      have hX := hr x hm
      have hE := hX.is.eta
      have yes : nearB [.s w, .i h, .i d, .i f, .i t] x = true → s ++ [[.s w, .s (gi x 0).str]] = acc ++ ((rest.take (j + 1)).filter (nearB [.s w, .i h, .i d, .i f, .i t])).map (pairB [.s w, .i h, .i d, .i f, .i t]) ∧ (s ++ [[G.s w, .s (gi x 0).str]]).length ≤ acc.length + (j + 1) := fun hy => by
        rw [ht, List.filter_append, List.map_append, ← List.append_assoc, ← s0]
        have e : [x].filter (nearB [.s w, .i h, .i d, .i f, .i t]) = [x] := by simp [hy]
        rw [e]
        exact ⟨rfl, by simp; omega⟩
      have no : nearB [.s w, .i h, .i d, .i f, .i t] x = false → s = acc ++ ((rest.take (j + 1)).filter (nearB [.s w, .i h, .i d, .i f, .i t])).map (pairB [.s w, .i h, .i d, .i f, .i t]) ∧ s.length ≤ acc.length + (j + 1) := fun hy => by
        rw [ht, List.filter_append, List.map_append, ← List.append_assoc, ← s0]
        have e : [x].filter (nearB [.s w, .i h, .i d, .i f, .i t]) = [] := by simp [hy]
        rw [e]
        exact ⟨by simp, by omega⟩
      unfold st_pileref2_NearPairs_6
      (dsimp +instances only [gi0,gis,row1,rows1,int1,str1,bool1])
      simp only [Int.toNat_natCast, hx, hE]
      refine Ret.pos (by (first|rfl|assumption|(simp only [inI,sl]<;>omega))) (Ret.pos (by (first|rfl|assumption|(simp only [inI,sl]<;>omega))) ?_)
      cases c1 : (!(w.toList == (gi x 0).str.toList)) with
      | false =>
        have eF : nearB [.s w, .i h, .i d, .i f, .i t] x = false := by
          show (!(w.toList == (gi x 0).str.toList) && _) = false
          rw [c1]
          rfl
        refine Ret.neg rfl ?_
        (repeat(first|(refine Ret.pos ?_ ?_;(first|rfl|assumption|(simp only [inI,sl]<;>omega)))|(refine Ret.neg ?_ ?_;(first|rfl|assumption|(simp only [inI,sl]<;>omega)))))
        exact Ret.some ⟨s, by simp, no eF⟩
      | true =>
      refine Ret.pos rfl ?_
      refine Ret.call (Ret.eq (near_ref _ x ha hX c1)) ?_
      rintro _ rfl
      (dsimp +instances only [gi0,gis,row1,rows1,int1,str1,bool1])
      cases c2 : nearB [.s w, .i h, .i d, .i f, .i t] x with
      | false =>
        refine Ret.neg rfl ?_
        (repeat(first|(refine Ret.pos ?_ ?_;(first|rfl|assumption|(simp only [inI,sl]<;>omega)))|(refine Ret.neg ?_ ?_;(first|rfl|assumption|(simp only [inI,sl]<;>omega)))))
        exact Ret.some ⟨s, by simp, no c2⟩
      | true =>
        refine Ret.pos rfl ?_
        (repeat(first|(refine Ret.pos ?_ ?_;(first|rfl|assumption|(simp only [inI,sl]<;>omega)))|(refine Ret.neg ?_ ?_;(first|rfl|assumption|(simp only [inI,sl]<;>omega)))))
        exact Ret.some ⟨_, by simp, yes c2⟩)
    (fun s hI => by
      unfold st_pileref2_NearPairs_6
      (dsimp +instances only [gi0,gis,row1,rows1,int1,str1,bool1])
      (repeat(first|(refine Ret.pos ?_ ?_;(first|rfl|assumption|(simp only [inI,sl]<;>omega)))|(refine Ret.neg ?_ ?_;(first|rfl|assumption|(simp only [inI,sl]<;>omega)))))
      exact Ret.some rfl)
  refine r.mono ?_
  rintro _ _ ⟨s, ⟨e, _⟩, rfl, rfl⟩
  rw [List.take_length] at e
  subst e
  exact ⟨rfl, rfl⟩
theorem nearPairs_ok (bus : List (List G)) (hb : ∀ z ∈ bus, Bsy z) (hn : bus.length ≤ 500) (hf : faultBusy bus = 0) : F_pileref2_NearPairs [.l bus] = some [.l (pairsTo bus bus.length)] := by
  have hR := busR_of hb hf
  refine Ret.toEq ?_
  unfold F_pileref2_NearPairs
  (dsimp +instances only [gi0,gis,row1,rows1,int1,str1,bool1])
  have r := range_all (st := st_pileref2_NearPairs_3) (σ := List (List G)) (fun s i => [.l s, .l bus, .l bus, .i (bus.length : Int), .i (i : Int)]) bus (fun s => (0, [.l s])) (fun s i => s = pairsTo bus i ∧ s.length ≤ 500 * i) [] (by omega) ⟨rfl, by simp⟩
    (fun s i x ⟨s0, s1⟩ hi hx hm ht => by
      have hX := hR x hm
      obtain ⟨w, h, d, f, t, rfl, _⟩ := hX.is
      have eT : ((i : Int) + 1).toNat = i + 1 := by omega
      unfold st_pileref2_NearPairs_3
      (dsimp +instances only [gi0,gis,row1,rows1,int1,str1,bool1])
      simp only [Int.toNat_natCast, hx, eT]
      (dsimp +instances only [gi0,gis,row1,rows1,int1,str1,bool1])
      refine Ret.pos (by (first|rfl|assumption|(simp only [inI,sl]<;>omega))) (Ret.pos (by (first|rfl|assumption|(simp only [inI,sl]<;>omega))) (Ret.pos (by (first|rfl|assumption|(simp only [inI,sl]<;>omega))) (Ret.pos (by (first|rfl|assumption|(simp only [inI,sl]<;>omega))) ?_)))
      refine Ret.loop (pairs_in bus (bus.drop (i + 1)) s w h d f t bus.length i hX (fun z hz => hR z (List.mem_of_mem_drop hz)) (by rw [List.length_drop]; omega) (by omega)) (by simp) ?_
      rintro _ _ ⟨rfl, rfl⟩
      (dsimp +instances only [gi0,gis,row1,rows1,int1,str1,bool1])
      (repeat(first|(refine Ret.pos ?_ ?_;(first|rfl|assumption|(simp only [inI,sl]<;>omega)))|(refine Ret.neg ?_ ?_;(first|rfl|assumption|(simp only [inI,sl]<;>omega)))))
      have e : pairsAt bus i = ((bus.drop (i + 1)).filter (nearB [.s w, .i h, .i d, .i f, .i t])).map (pairB [.s w, .i h, .i d, .i f, .i t]) := by
        unfold pairsAt
        rw [hx]
      have hl := pairsAt_length bus i
      rw [e] at hl
      refine Ret.some ⟨_, by simp; rfl, ?_, ?_⟩
      · show _ = pairsTo bus i ++ pairsAt bus i
        rw [e, s0]
      · rw [List.length_append]
        omega)
    (fun s hI => by
      unfold st_pileref2_NearPairs_3
      (dsimp +instances only [gi0,gis,row1,rows1,int1,str1,bool1])
      (repeat(first|(refine Ret.pos ?_ ?_;(first|rfl|assumption|(simp only [inI,sl]<;>omega)))|(refine Ret.neg ?_ ?_;(first|rfl|assumption|(simp only [inI,sl]<;>omega)))))
      exact Ret.some rfl)
  refine Ret.loop r rfl ?_
  rintro _ _ ⟨s, ⟨q1, q2⟩, rfl, rfl⟩
  subst q1
  (dsimp +instances only [gi0,gis,row1,rows1,int1,str1,bool1])
  exact Ret.pos (by simp) (Ret.some rfl)
/-! ### How many receivers -/
def manyAt (bus : List (List G)) (f : Int) : Int := ((bus.filter (onAir f)).length : Int)
def mostTo (bus : List (List G)) : Nat → Int
  | 0 => 0
  | i + 1 => if manyAt bus (gi (bus.getD i []) 3).int > mostTo bus i then manyAt bus (gi (bus.getD i []) 3).int else mostTo bus i
theorem many_snoc (l : List (List G)) (x : List G) (f : Int) : manyAt (l ++ [x]) f = manyAt l f + bif onAir f x then 1 else 0 := by
  unfold manyAt
  rw [List.filter_append]
  cases h : onAir f x <;> simp [h]
theorem few_in (bus : List (List G)) (w : ByteArray) (h d f t m n i : Int) (hn : bus.length ≤ 500) :
    RetL st_band_Fewest_10 [.s w, .i h, .i d, .i f, .i t, .l bus, .i m, .i 0, .l bus, .i n, .i i, .l bus, .i (bus.length : Int), .i 0] fun c g => c = 0 ∧ g = [.l bus, .i m, .i (manyAt bus f), .l bus, .i n, .i i] := by
  have r := range_all (st := st_band_Fewest_10) (σ := Int) (fun s j => [.s w, .i h, .i d, .i f, .i t, .l bus, .i m, .i s, .l bus, .i n, .i i, .l bus, .i (bus.length : Int), .i (j : Int)]) bus (fun s => (0, [.l bus, .i m, .i s, .l bus, .i n, .i i])) (fun s j => s = manyAt (bus.take j) f ∧ 0 ≤ s ∧ s ≤ (j : Int)) 0 (by omega) ⟨rfl, by simp, by simp⟩
    (fun s j x ⟨s0, s1, s2⟩ hj hx hm ht => by
      have hon : onAir f x = inT (gi x 3).int (gi x 4).int f := rfl
      unfold st_band_Fewest_10
      (dsimp +instances only [gi0,gis,row1,rows1,int1,str1,bool1])
      simp only [Int.toNat_natCast, hx]
      refine Ret.pos (by (first|rfl|assumption|(simp only [inI,sl]<;>omega))) (Ret.pos (by (first|rfl|assumption|(simp only [inI,sl]<;>omega))) ?_)
      refine Ret.call (Ret.eq (has_ok _ _ _)) ?_
      rintro _ rfl
      (dsimp +instances only [gi0,gis,row1,rows1,int1,str1,bool1])
      rw [← hon]
      cases ho : onAir f x with
      | true =>
        refine Ret.pos rfl ?_
        (repeat(first|(refine Ret.pos ?_ ?_;(first|rfl|assumption|(simp only [inI,sl]<;>omega)))|(refine Ret.neg ?_ ?_;(first|rfl|assumption|(simp only [inI,sl]<;>omega)))))
        refine Ret.some ⟨s + 1, by simp, ?_, by omega, by omega⟩
        rw [ht, many_snoc, ho, ← s0]
        rfl
      | false =>
        refine Ret.neg rfl ?_
        (repeat(first|(refine Ret.pos ?_ ?_;(first|rfl|assumption|(simp only [inI,sl]<;>omega)))|(refine Ret.neg ?_ ?_;(first|rfl|assumption|(simp only [inI,sl]<;>omega)))))
        refine Ret.some ⟨s, by simp, ?_, by omega, by omega⟩
        rw [ht, many_snoc, ho, ← s0]
        simp)
    (fun s hI => by
      unfold st_band_Fewest_10
      (dsimp +instances only [gi0,gis,row1,rows1,int1,str1,bool1])
      (repeat(first|(refine Ret.pos ?_ ?_;(first|rfl|assumption|(simp only [inI,sl]<;>omega)))|(refine Ret.neg ?_ ?_;(first|rfl|assumption|(simp only [inI,sl]<;>omega)))))
      exact Ret.some rfl)
  refine r.mono ?_
  rintro _ _ ⟨s, ⟨e, _⟩, rfl, rfl⟩
  rw [List.take_length] at e
  subst e
  exact ⟨rfl, rfl⟩
theorem few_ref (bus : List (List G)) (w : ByteArray) (h d f t m n i : Int) (hn : bus.length ≤ 500) :
    RetL st_pileref2_FewestOf_7 [.s w, .i h, .i d, .i f, .i t, .l bus, .i m, .i 0, .l bus, .i n, .i i, .l bus, .i (bus.length : Int), .i 0] fun c g => c = 0 ∧ g = [.l bus, .i m, .i (manyAt bus f), .l bus, .i n, .i i] := by
  have r := range_all (st := st_pileref2_FewestOf_7) (σ := Int) (fun s j => [.s w, .i h, .i d, .i f, .i t, .l bus, .i m, .i s, .l bus, .i n, .i i, .l bus, .i (bus.length : Int), .i (j : Int)]) bus (fun s => (0, [.l bus, .i m, .i s, .l bus, .i n, .i i])) (fun s j => s = manyAt (bus.take j) f ∧ 0 ≤ s ∧ s ≤ (j : Int)) 0 (by omega) ⟨rfl, by simp, by simp⟩
    (fun s j x ⟨s0, s1, s2⟩ hj hx hm ht => by
      have hon : onAir f x = (leI (gi x 3).int f && ltI f (gi x 4).int) := rfl
      have no : onAir f x = false → s = manyAt (bus.take (j + 1)) f := fun ho => by
        rw [ht, many_snoc, ho, ← s0]
        simp
      rw [hon] at no
      unfold st_pileref2_FewestOf_7
      (dsimp +instances only [gi0,gis,row1,rows1,int1,str1,bool1])
      simp only [Int.toNat_natCast, hx]
      refine Ret.pos (by (first|rfl|assumption|(simp only [inI,sl]<;>omega))) (Ret.pos (by (first|rfl|assumption|(simp only [inI,sl]<;>omega))) ?_)
      cases h1 : leI (gi x 3).int f with
      | false =>
        rw [h1] at no
        refine Ret.neg rfl ?_
        (repeat(first|(refine Ret.pos ?_ ?_;(first|rfl|assumption|(simp only [inI,sl]<;>omega)))|(refine Ret.neg ?_ ?_;(first|rfl|assumption|(simp only [inI,sl]<;>omega)))))
        exact Ret.some ⟨s, by simp, no rfl, by omega, by omega⟩
      | true =>
      rw [h1] at no
      refine Ret.pos rfl ?_
      cases h2 : ltI f (gi x 4).int with
      | false =>
        rw [h2] at no
        refine Ret.neg rfl ?_
        (repeat(first|(refine Ret.pos ?_ ?_;(first|rfl|assumption|(simp only [inI,sl]<;>omega)))|(refine Ret.neg ?_ ?_;(first|rfl|assumption|(simp only [inI,sl]<;>omega)))))
        exact Ret.some ⟨s, by simp, no rfl, by omega, by omega⟩
      | true =>
        refine Ret.pos rfl ?_
        (repeat(first|(refine Ret.pos ?_ ?_;(first|rfl|assumption|(simp only [inI,sl]<;>omega)))|(refine Ret.neg ?_ ?_;(first|rfl|assumption|(simp only [inI,sl]<;>omega)))))
        refine Ret.some ⟨s + 1, by simp, ?_, by omega, by omega⟩
        rw [ht, many_snoc, hon, h1, h2, ← s0]
        rfl)
    (fun s hI => by
      unfold st_pileref2_FewestOf_7
      (dsimp +instances only [gi0,gis,row1,rows1,int1,str1,bool1])
      (repeat(first|(refine Ret.pos ?_ ?_;(first|rfl|assumption|(simp only [inI,sl]<;>omega)))|(refine Ret.neg ?_ ?_;(first|rfl|assumption|(simp only [inI,sl]<;>omega)))))
      exact Ret.some rfl)
  refine r.mono ?_
  rintro _ _ ⟨s, ⟨e, _⟩, rfl, rfl⟩
  rw [List.take_length] at e
  subst e
  exact ⟨rfl, rfl⟩
theorem fewest_ok (bus : List (List G)) (hb : ∀ z ∈ bus, Bsy z) (hn : bus.length ≤ 500) : F_band_Fewest [.l bus] = some (if faultBusy bus ≠ 0 then [.i 0, .i (faultBusy bus)] else [.i (mostTo bus bus.length), .i 0]) := by
  refine Ret.toEq ?_
  unfold F_band_Fewest
  (dsimp +instances only [gi0,gis,row1,rows1,int1,str1,bool1])
  refine Ret.call (Ret.eq (checkBusy_ok bus hb)) ?_
  rintro _ rfl
  (dsimp +instances only [gi0,gis,row1,rows1,int1,str1,bool1])
  by_cases hf : faultBusy bus = 0
  rotate_left
  · rw [if_pos hf]
    exact Ret.pos (by simpa using hf) (Ret.some rfl)
  rw [if_neg (by simpa using hf)]
  refine Ret.neg (by simpa using hf) ?_
  have r := range_all (st := st_band_Fewest_6) (σ := Int) (fun s i => [.l bus, .i s, .l bus, .i (bus.length : Int), .i (i : Int)]) bus (fun s => (0, [.i s])) (fun s i => s = mostTo bus i) 0 (by omega) rfl
    (fun s i x s0 hi hx hm ht => by
      unfold st_band_Fewest_6
      (dsimp +instances only [gi0,gis,row1,rows1,int1,str1,bool1])
      simp only [Int.toNat_natCast, hx]
      refine Ret.pos (by (first|rfl|assumption|(simp only [inI,sl]<;>omega))) (Ret.pos (by (first|rfl|assumption|(simp only [inI,sl]<;>omega))) ?_)
      refine Ret.loop (few_in bus _ _ _ _ _ s bus.length i hn) rfl ?_
      rintro _ _ ⟨rfl, rfl⟩
      (dsimp +instances only [gi0,gis,row1,rows1,int1,str1,bool1])
      (repeat(first|(refine Ret.pos ?_ ?_;(first|rfl|assumption|(simp only [inI,sl]<;>omega)))|(refine Ret.neg ?_ ?_;(first|rfl|assumption|(simp only [inI,sl]<;>omega)))))
      refine Ret.some ⟨_, by simp; rfl, ?_⟩
      rw [s0]
      show _ = if manyAt bus (gi (bus.getD i []) 3).int > mostTo bus i then manyAt bus (gi (bus.getD i []) 3).int else mostTo bus i
      rw [hx])
    (fun s hI => by
      unfold st_band_Fewest_6
      (dsimp +instances only [gi0,gis,row1,rows1,int1,str1,bool1])
      (repeat(first|(refine Ret.pos ?_ ?_;(first|rfl|assumption|(simp only [inI,sl]<;>omega)))|(refine Ret.neg ?_ ?_;(first|rfl|assumption|(simp only [inI,sl]<;>omega)))))
      exact Ret.some rfl)
  refine Ret.loop r rfl ?_
  rintro _ _ ⟨s, q1, rfl, rfl⟩
  subst q1
  exact Ret.some rfl
theorem fewestOf_ok (bus : List (List G)) (hn : bus.length ≤ 500) : F_pileref2_FewestOf [.l bus] = some [.i (mostTo bus bus.length)] := by
  refine Ret.toEq ?_
  unfold F_pileref2_FewestOf
  (dsimp +instances only [gi0,gis,row1,rows1,int1,str1,bool1])
  have r := range_all (st := st_pileref2_FewestOf_3) (σ := Int) (fun s i => [.l bus, .i s, .l bus, .i (bus.length : Int), .i (i : Int)]) bus (fun s => (0, [.i s])) (fun s i => s = mostTo bus i) 0 (by omega) rfl
    (fun s i x s0 hi hx hm ht => by
      unfold st_pileref2_FewestOf_3
      (dsimp +instances only [gi0,gis,row1,rows1,int1,str1,bool1])
      simp only [Int.toNat_natCast, hx]
      refine Ret.pos (by (first|rfl|assumption|(simp only [inI,sl]<;>omega))) (Ret.pos (by (first|rfl|assumption|(simp only [inI,sl]<;>omega))) ?_)
      refine Ret.loop (few_ref bus _ _ _ _ _ s bus.length i hn) rfl ?_
      rintro _ _ ⟨rfl, rfl⟩
      (dsimp +instances only [gi0,gis,row1,rows1,int1,str1,bool1])
      (repeat(first|(refine Ret.pos ?_ ?_;(first|rfl|assumption|(simp only [inI,sl]<;>omega)))|(refine Ret.neg ?_ ?_;(first|rfl|assumption|(simp only [inI,sl]<;>omega)))))
      refine Ret.some ⟨_, by simp; rfl, ?_⟩
      rw [s0]
      show _ = if manyAt bus (gi (bus.getD i []) 3).int > mostTo bus i then manyAt bus (gi (bus.getD i []) 3).int else mostTo bus i
      rw [hx])
    (fun s hI => by
      unfold st_pileref2_FewestOf_3
      (dsimp +instances only [gi0,gis,row1,rows1,int1,str1,bool1])
      (repeat(first|(refine Ret.pos ?_ ?_;(first|rfl|assumption|(simp only [inI,sl]<;>omega)))|(refine Ret.neg ?_ ?_;(first|rfl|assumption|(simp only [inI,sl]<;>omega)))))
      exact Ret.some rfl)
  refine Ret.loop r rfl ?_
  rintro _ _ ⟨s, q1, rfl, rfl⟩
  subst q1
  exact Ret.some rfl
/-! ### What the reference calls free -/
def takenR (bus : List (List G)) (at_ : Int) : List (List G) := (bus.filter (onAir at_)).map useB
theorem taken_mem (bus : List (List G)) (at_ m : Int) : memR (takenR bus at_) m ↔ ∃ b ∈ bus, onAir at_ b = true ∧ rLo (useB b) ≤ m ∧ m < rHi (useB b) := by
  unfold takenR memR
  constructor
  · rintro ⟨r, hr, h⟩
    obtain ⟨b, hb, rfl⟩ := List.mem_map.1 hr
    obtain ⟨h1, h2⟩ := List.mem_filter.1 hb
    exact ⟨b, h1, h2, h⟩
  · rintro ⟨b, h1, h2, h⟩
    exact ⟨useB b, List.mem_map.2 ⟨b, List.mem_filter.2 ⟨h1, h2⟩, rfl⟩, h⟩
theorem taken_loop (segs bus : List (List G)) (c : ByteArray) (mode width at_ : Int) (hb : ∀ z ∈ bus, Bsy z) (hf : faultBusy bus = 0) (hn : bus.length ≤ 500) :
    RetL st_pileref2_FreeRows_3 [.l [], .l segs, .s c, .i mode, .i width, .i at_, .l bus, .i (bus.length : Int), .i 0] fun k g => k = 0 ∧ g = [.l (takenR bus at_), .l segs, .s c, .i mode, .i width, .i at_] := by
  have hR := busR_of hb hf
  have r := range_all (st := st_pileref2_FreeRows_3) (σ := List (List G)) (fun s i => [.l s, .l segs, .s c, .i mode, .i width, .i at_, .l bus, .i (bus.length : Int), .i (i : Int)]) bus (fun s => (0, [.l s, .l segs, .s c, .i mode, .i width, .i at_])) (fun s i => s = takenR (bus.take i) at_ ∧ s.length ≤ i) [] (by omega) ⟨rfl, by simp⟩
    (fun s i x ⟨s0, s1⟩ hi hx hm ht => by
      have hX := hR x hm
      have x1 := hX.h0
      have x2 := hX.h1
      have x3 := hX.d0
      have x4 := hX.d1
      have hon : onAir at_ x = (leI (gi x 3).int at_ && ltI at_ (gi x 4).int) := rfl
      have no : onAir at_ x = false → s = takenR (bus.take (i + 1)) at_ ∧ s.length ≤ i + 1 := fun ho => by
        rw [ht]
        unfold takenR
        rw [List.filter_append, List.map_append]
        have e : [x].filter (onAir at_) = [] := by simp [ho]
        rw [e]
        refine ⟨?_, by omega⟩
        rw [s0]
        unfold takenR
        simp
      have yes : onAir at_ x = true → s ++ [useB x] = takenR (bus.take (i + 1)) at_ ∧ (s ++ [useB x]).length ≤ i + 1 := fun ho => by
        rw [ht]
        unfold takenR
        rw [List.filter_append, List.map_append]
        have e : [x].filter (onAir at_) = [x] := by simp [ho]
        rw [e]
        refine ⟨?_, by simp; omega⟩
        rw [s0]
        rfl
      rw [hon] at no yes
      unfold st_pileref2_FreeRows_3
      (dsimp +instances only [gi0,gis,row1,rows1,int1,str1,bool1])
      simp only [Int.toNat_natCast, hx]
      refine Ret.pos (by (first|rfl|assumption|(simp only [inI,sl]<;>omega))) (Ret.pos (by (first|rfl|assumption|(simp only [inI,sl]<;>omega))) ?_)
      cases h1 : leI (gi x 3).int at_ with
      | false =>
        rw [h1] at no
        refine Ret.neg rfl ?_
        (repeat(first|(refine Ret.pos ?_ ?_;(first|rfl|assumption|(simp only [inI,sl]<;>omega)))|(refine Ret.neg ?_ ?_;(first|rfl|assumption|(simp only [inI,sl]<;>omega)))))
        exact Ret.some ⟨s, by simp, no rfl⟩
      | true =>
      rw [h1] at no yes
      refine Ret.pos rfl ?_
      cases h2 : ltI at_ (gi x 4).int with
      | false =>
        rw [h2] at no
        refine Ret.neg rfl ?_
        (repeat(first|(refine Ret.pos ?_ ?_;(first|rfl|assumption|(simp only [inI,sl]<;>omega)))|(refine Ret.neg ?_ ?_;(first|rfl|assumption|(simp only [inI,sl]<;>omega)))))
        exact Ret.some ⟨s, by simp, no rfl⟩
      | true =>
        rw [h2] at yes
        refine Ret.pos rfl ?_
        refine Ret.call (Ret.eq (uses_ok _ _ ⟨by omega, by omega⟩ (by omega) (by omega))) ?_
        rintro _ rfl
        (dsimp +instances only [gi0,gis,row1,rows1,int1,str1,bool1])
        have hu : gEta [.int .i64, .int .i64] (useR (gi x 1).int (gi x 2).int) = useB x := rfl
        rw [hu]
        (repeat(first|(refine Ret.pos ?_ ?_;(first|rfl|assumption|(simp only [inI,sl]<;>omega)))|(refine Ret.neg ?_ ?_;(first|rfl|assumption|(simp only [inI,sl]<;>omega)))))
        exact Ret.some ⟨_, by simp, yes rfl⟩)
    (fun s hI => by
      unfold st_pileref2_FreeRows_3
      (dsimp +instances only [gi0,gis,row1,rows1,int1,str1,bool1])
      (repeat(first|(refine Ret.pos ?_ ?_;(first|rfl|assumption|(simp only [inI,sl]<;>omega)))|(refine Ret.neg ?_ ?_;(first|rfl|assumption|(simp only [inI,sl]<;>omega)))))
      exact Ret.some rfl)
  refine r.mono ?_
  rintro _ _ ⟨s, ⟨e, _⟩, rfl, rfl⟩
  rw [List.take_length] at e
  subst e
  exact ⟨rfl, rfl⟩
theorem shrink_loop (W : List (List G)) (width : Int) (hw0 : 1 ≤ width) (hw1 : width ≤ 100000) (hW : CanR W) (hWb : ∀ r ∈ W, IsR r ∧ 0 ≤ rLo r ∧ rHi r ≤ 30000000000) (hn : W.length ≤ 5000) :
    RetL st_pileref2_FreeRows_10 [.l [], .i width, .l W, .i (W.length : Int), .i 0] fun k g => k = 0 ∧ ∃ out, g = [.l out] ∧ CanR out ∧ out.length ≤ W.length ∧ ∀ n, memR out n ↔ fits W width n := by
  obtain ⟨g1, g2, g3⟩ := half_ok width (by omega)
  have r := range_all (st := st_pileref2_FreeRows_10) (σ := List (List G)) (fun s i => [.l s, .i width, .l W, .i (W.length : Int), .i (i : Int)]) W (fun s => (0, [.l s]))
    (fun s i => CanR s ∧ s.length ≤ i ∧ (∀ a ∈ s, ∃ r ∈ W.take i, rHi a ≤ rHi r + Int.tdiv width 2) ∧ ∀ n, memR s n ↔ fits (W.take i) width n) [] (by omega) ⟨canR_nil, by simp, by simp, fun n => by simp [memR, fits]⟩
    (fun s i x ⟨s0, s1, s2, s3⟩ hi hx hm ht => by
      obtain ⟨hX, hx0, hx1⟩ := hWb x hm
      have hX2 := hX.2
      have hp := List.pairwise_append.1 (ht ▸ (hW.2.sublist (List.take_sublist (i + 1) W)) : (W.take i ++ [x]).Pairwise fun r s => rHi r < rLo s)
      unfold st_pileref2_FreeRows_10
      (dsimp +instances only [gi0,gis,row1,rows1,int1,str1,bool1])
      simp only [Int.toNat_natCast, hx]
      have b1 : (gi x 0).int = rLo x := rfl
      have b2 : (gi x 1).int = rHi x := rfl
      rw [b1, b2]
      generalize hh : Int.tdiv width 2 = h at *
      refine Ret.pos (by (first|rfl|assumption|(simp only [inI,sl]<;>omega))) (Ret.pos (by (first|rfl|assumption|(simp only [inI,sl]<;>omega))) (Ret.pos (by (first|rfl|assumption|(simp only [inI,sl]<;>omega))) ?_))
      by_cases hle : width ≤ rHi x - rLo x
      · refine Ret.pos (by (first|rfl|assumption|(simp only [inI,sl]<;>omega))) ?_
        (repeat(first|(refine Ret.pos ?_ ?_;(first|rfl|assumption|(simp only [inI,sl]<;>omega)))|(refine Ret.neg ?_ ?_;(first|rfl|assumption|(simp only [inI,sl]<;>omega)))))
        have e1 : rLo [.i (rLo x + h), .i (rHi x - width + h + 1)] = rLo x + h := rfl
        have e2 : rHi [.i (rLo x + h), .i (rHi x - width + h + 1)] = rHi x - width + h + 1 := rfl
        refine Ret.some ⟨s ++ [[.i (rLo x + h), .i (rHi x - width + h + 1)]], by simp, canR_snoc.2 ⟨s0, fun a ha => ?_, isR_mk (by omega)⟩, by simp; omega, fun a ha => ?_, fun n => ?_⟩
        · rw [e1]
          obtain ⟨r, hr, h1⟩ := s2 a ha
          have := hp.2.2 r hr x (by simp)
          omega
        · rw [ht]
          rcases List.mem_append.1 ha with ha | ha
          · obtain ⟨r, hr, h1⟩ := s2 a ha
            exact ⟨r, List.mem_append_left _ hr, h1⟩
          · rw [List.mem_singleton.1 ha]
            exact ⟨x, by simp, by rw [e2]; omega⟩
        · rw [memR_snoc, s3, ht, fits_snoc, hh, e1, e2]
          refine ⟨fun h' => h'.imp id fun h' => ⟨by omega, by omega⟩, fun h' => h'.imp id fun h' => ⟨by omega, by omega⟩⟩
      · refine Ret.neg (by (first|rfl|assumption|(simp only [inI,sl]<;>omega))) ?_
        (repeat(first|(refine Ret.pos ?_ ?_;(first|rfl|assumption|(simp only [inI,sl]<;>omega)))|(refine Ret.neg ?_ ?_;(first|rfl|assumption|(simp only [inI,sl]<;>omega)))))
        refine Ret.some ⟨s, by simp, s0, by omega, fun a ha => ?_, fun n => ?_⟩
        · rw [ht]
          obtain ⟨r, hr, h1⟩ := s2 a ha
          exact ⟨r, List.mem_append_left _ hr, h1⟩
        · rw [s3, ht, fits_snoc, hh]
          refine ⟨.inl, fun h' => h'.elim id fun h' => ?_⟩
          omega)
    (fun s hI => by
      unfold st_pileref2_FreeRows_10
      (dsimp +instances only [gi0,gis,row1,rows1,int1,str1,bool1])
      (repeat(first|(refine Ret.pos ?_ ?_;(first|rfl|assumption|(simp only [inI,sl]<;>omega)))|(refine Ret.neg ?_ ?_;(first|rfl|assumption|(simp only [inI,sl]<;>omega)))))
      exact Ret.some rfl)
  refine r.mono ?_
  rintro _ _ ⟨s, ⟨q0, q1, q2, q3⟩, rfl, rfl⟩
  rw [List.take_length] at q3
  exact ⟨rfl, s, rfl, q0, q1, q3⟩
theorem freeRows_ok (segs bus : List (List G)) (c : ByteArray) (mode width at_ : Int) (hs : ∀ z ∈ segs, Seg z) (hb : ∀ z ∈ bus, Bsy z) (hsn : segs.length ≤ 10) (hbn : bus.length ≤ 10) (h1 : faultSegs segs = 0) (h2 : faultBusy bus = 0) (hw0 : 1 ≤ width) (hw1 : width ≤ 100000) :
    Ret (F_pileref2_FreeRows [.l segs, .l bus, .s c, .i mode, .i width, .i at_]) fun g => ∃ W out, g = [.l out] ∧ CanR W ∧ (∀ n, memR W n ↔ memR (permR segs c mode at_) n ∧ ¬ memR (takenR bus at_) n) ∧ CanR out ∧ out.length ≤ 1000 ∧ ∀ n, memR out n ↔ fits W width n := by
  have hR := busR_of hb h2
  have hl := permR_length segs c mode at_
  have htl : (takenR bus at_).length ≤ bus.length := by
    unfold takenR
    rw [List.length_map]
    exact List.length_filter_le _ _
  unfold F_pileref2_FreeRows
  (dsimp +instances only [gi0,gis,row1,rows1,int1,str1,bool1])
  refine Ret.loop (taken_loop segs bus c mode width at_ hb h2 (by omega)) rfl ?_
  rintro _ _ ⟨rfl, rfl⟩
  (dsimp +instances only [gi0,gis,row1,rows1,int1,str1,bool1])
  refine Ret.pos (by simp) ?_
  refine Ret.call (Ret.eq (refPerm_ok segs c mode at_ hs (by omega))) ?_
  rintro _ rfl
  (dsimp +instances only [gi0,gis,row1,rows1,int1,str1,bool1])
  refine Ret.call (rowsOf_ok _ _ (fun r hr => (permR_row hs h1 r hr).1.1) (fun r hr => ?_) (by omega)) ?_
  · unfold takenR at hr
    obtain ⟨b, hb', rfl⟩ := List.mem_map.1 hr
    exact isR_mk (hR b (List.mem_filter.1 hb').1).lt
  rintro _ ⟨W, rfl, w1, w2, w3⟩
  (dsimp +instances only [gi0,gis,row1,rows1,int1,str1,bool1])
  have hWb : ∀ r ∈ W, IsR r ∧ 0 ≤ rLo r ∧ rHi r ≤ 30000000000 := by
    intro r hr
    have hRr := w1.1 r hr
    obtain ⟨y, hy, k1, k2⟩ := ((w3 (rLo r)).1 ⟨r, hr, Int.le_refl _, hRr.2⟩).1
    obtain ⟨z, hz, k3, k4⟩ := ((w3 (rHi r - 1)).1 ⟨r, hr, by have := hRr.2; omega, by omega⟩).1
    have := (permR_row hs h1 y hy).2
    have := (permR_row hs h1 z hz).2
    exact ⟨hRr, by omega, by omega⟩
  refine Ret.loop (shrink_loop W width hw0 hw1 w1 hWb (by omega)) rfl ?_
  rintro _ _ ⟨rfl, out, rfl, o1, o2, o3⟩
  (dsimp +instances only [gi0,gis,row1,rows1,int1,str1,bool1])
  exact Ret.pos (by simp) (Ret.some ⟨W, out, rfl, w1, w3, o1, by omega, o3⟩)
theorem same_free {segs bus P W : List (List G)} {c : ByteArray} {mode width at_ : Int} (hw0 : 1 ≤ width) (hR : ∀ b ∈ bus, BusR b) (p1 : CanR P) (p3 : ∀ n, memR P n ↔ memR (permR segs c mode at_) n) (w1 : CanR W) (w3 : ∀ n, memR W n ↔ memR (permR segs c mode at_) n ∧ ¬ memR (takenR bus at_) n) (n : Int) :
    fits W width n ↔ fits P width n ∧ ¬ meets bus width at_ n := by
  constructor
  · rintro ⟨r, hr, h1, h2⟩
    have hin : ∀ m, n - Int.tdiv width 2 ≤ m → m < n - Int.tdiv width 2 + width → memR W m := fun m h3 h4 => ⟨r, hr, by omega, by omega⟩
    refine ⟨?_, ?_⟩
    · obtain ⟨q, hq, h3, h4⟩ := canR_run p1 (a := n - Int.tdiv width 2) (b := n - Int.tdiv width 2 + width) (by omega) fun m h3 h4 => (p3 m).2 ((w3 m).1 (hin m h3 h4)).1
      exact ⟨q, hq, h3, h4⟩
    · rintro ⟨b, hb, ho, h3, h4⟩
      have hlt := (hR b hb).lt
      have h3 : rLo (useB b) < n - Int.tdiv width 2 + width := h3
      have h4 : n - Int.tdiv width 2 < rHi (useB b) := h4
      have key : ∃ m, n - Int.tdiv width 2 ≤ m ∧ m < n - Int.tdiv width 2 + width ∧ rLo (useB b) ≤ m ∧ m < rHi (useB b) := by
        by_cases h5 : n - Int.tdiv width 2 ≤ rLo (useB b)
        · exact ⟨rLo (useB b), h5, h3, Int.le_refl _, hlt⟩
        · exact ⟨n - Int.tdiv width 2, Int.le_refl _, by omega, by omega, h4⟩
      obtain ⟨m, k1, k2, k3, k4⟩ := key
      exact ((w3 m).1 (hin m k1 k2)).2 ((taken_mem bus at_ m).2 ⟨b, hb, ho, k3, k4⟩)
  · rintro ⟨⟨r, hr, h1, h2⟩, hno⟩
    obtain ⟨q, hq, h3, h4⟩ := canR_run w1 (a := n - Int.tdiv width 2) (b := n - Int.tdiv width 2 + width) (by omega) fun m h3 h4 => (w3 m).2 ⟨(p3 m).1 ⟨r, hr, by omega, by omega⟩, fun ht => by
      obtain ⟨b, hb, ho, k3, k4⟩ := (taken_mem bus at_ m).1 ht
      refine hno ⟨b, hb, ho, ?_, ?_⟩
      · show rLo (useB b) < n - Int.tdiv width 2 + width
        omega
      · show n - Int.tdiv width 2 < rHi (useB b)
        omega⟩
    exact ⟨q, hq, h3, h4⟩
/-! ### The nearest, as the reference says it -/
theorem apart_ok (wish n : Int) (hw : b40 wish) (hn : b40 n) : F_pileref2_apart [.i n, .i wish] = some [.i (farI wish n)] := by
  unfold b40 at *
  refine Ret.toEq ?_
  unfold F_pileref2_apart farI
  (dsimp +instances only [gi0,gis,row1,rows1,int1,str1,bool1])
  (repeat(first|(refine Ret.pos ?_ ?_;(first|rfl|assumption|(simp only [inI,sl]<;>omega)))|(refine Ret.neg ?_ ?_;(first|rfl|assumption|(simp only [inI,sl]<;>omega)))))
  exact Ret.some rfl
theorem nearestTo_ok (rows : List (List G)) (wish : Int) (hw : b40 wish) (hr : ∀ r ∈ rows, IsR r ∧ b40 (rLo r) ∧ b40 (rHi r)) (hn : rows.length ≤ 300000) : F_pileref2_NearestTo [.l rows, .i wish] = some [.i (nearL wish rows).1, .t (nearL wish rows).2] := by
  have hw' := hw
  unfold b40 at hw'
  have r := range_all (st := st_pileref2_NearestTo_3) (σ := Int × Bool) (fun s i => [.i wish, .i s.1, .t s.2, .l rows, .i (rows.length : Int), .i (i : Int)]) rows (fun s => (0, [.i s.1, .t s.2]))
    (fun s i => s = nearL wish (rows.take i) ∧ b40 s.1) (0, false) (by omega) ⟨rfl, by unfold b40; simp⟩
    (fun s i x ⟨s0, s1⟩ hi hx hm ht => by
      obtain ⟨hX, hx1, hx2⟩ := hr x hm
      have hX2 := hX.2
      obtain ⟨best, q⟩ := s
      simp only at s0 s1
      have hc : b40 (clampR wish x) := by
        unfold clampR b40 at *
        constructor <;> split <;> split <;> omega
      unfold b40 at hx1 hx2
      have ec : (if rHi x - 1 < (if rLo x > wish then rLo x else wish) then rHi x - 1 else (if rLo x > wish then rLo x else wish)) = clampR wish x := rfl
      have b1 : (gi x 0).int = rLo x := rfl
      have b2 : (gi x 1).int = rHi x := rfl
      have en : nearL wish (rows.take (i + 1)) = nearS wish (best, q) x := by rw [ht, nearL_snoc, ← s0]
      unfold st_pileref2_NearestTo_3
      (dsimp +instances only [gi0,gis,row1,rows1,int1,str1,bool1])
      simp only [Int.toNat_natCast, hx]
      rw [b1, b2]
      simp only [ec]
      refine Ret.pos (by (first|rfl|assumption|(simp only [inI,sl]<;>omega))) (Ret.pos (by (first|rfl|assumption|(simp only [inI,sl]<;>omega))) (Ret.pos (by (first|rfl|assumption|(simp only [inI,sl]<;>omega))) ?_))
      cases q with
      | false =>
        refine Ret.pos rfl (Ret.pos (by (first|rfl|assumption|(simp only [inI,sl]<;>omega))) (Ret.some ⟨(clampR wish x, true), by simp, ?_, hc⟩))
        rw [en]
        unfold nearS
        rw [if_pos (.inl rfl)]
      | true =>
        refine Ret.neg rfl ?_
        refine Ret.call (Ret.eq (apart_ok wish _ hw hc)) ?_
        rintro _ rfl
        refine Ret.call (Ret.eq (apart_ok wish _ hw s1)) ?_
        rintro _ rfl
        (dsimp +instances only [gi0,gis,row1,rows1,int1,str1,bool1])
        by_cases hlt : farI wish (clampR wish x) < farI wish best
        · refine Ret.pos (by (first|rfl|assumption|(simp only [inI,sl]<;>omega))) (Ret.pos (by (first|rfl|assumption|(simp only [inI,sl]<;>omega))) (Ret.some ⟨(clampR wish x, true), by simp, ?_, hc⟩))
          rw [en]
          unfold nearS
          rw [if_pos (.inr hlt)]
        · refine Ret.neg (by (first|rfl|assumption|(simp only [inI,sl]<;>omega))) (Ret.pos (by (first|rfl|assumption|(simp only [inI,sl]<;>omega))) (Ret.some ⟨(best, true), by simp, ?_, s1⟩))
          rw [en]
          unfold nearS
          rw [if_neg (by simp; omega)])
    (fun s hI => by
      unfold st_pileref2_NearestTo_3
      (dsimp +instances only [gi0,gis,row1,rows1,int1,str1,bool1])
      (repeat(first|(refine Ret.pos ?_ ?_;(first|rfl|assumption|(simp only [inI,sl]<;>omega)))|(refine Ret.neg ?_ ?_;(first|rfl|assumption|(simp only [inI,sl]<;>omega)))))
      exact Ret.some rfl)
  refine Ret.toEq ?_
  unfold F_pileref2_NearestTo
  (dsimp +instances only [gi0,gis,row1,rows1,int1,str1,bool1])
  refine Ret.loop r rfl ?_
  rintro _ _ ⟨s, ⟨q0, _⟩, rfl, rfl⟩
  rw [List.take_length] at q0
  subst q0
  exact Ret.some rfl
/-! ### The law -/
theorem frFlt_eq (segs bus : List (List G)) (c : ByteArray) (mode width at_ : Int) :
    firstE [faultSegs segs, faultBusy bus, bif okClass c then 0 else 5, bif inB mode 1 3 then 0 else 4, bif inB width 1 100000 then 0 else 1, bif inB at_ 0 345686399999 then 0 else 1] = freeFlt segs bus c mode width at_ := by
  unfold freeFlt
  simp only [e_first, e_none]
  by_cases h : faultSegs segs = 0
  · by_cases h' : faultBusy bus = 0
    · simp only [h, h']
      cases okClass c <;> cases inB mode 1 3 <;> cases inB width 1 100000 <;> cases inB at_ 0 345686399999 <;> simp
    · simp [h, h']
  · simp [h]
theorem free_flt0 {segs bus : List (List G)} {c : ByteArray} {mode width at_ : Int} (h : freeFlt segs bus c mode width at_ = 0) : faultSegs segs = 0 ∧ faultBusy bus = 0 ∧ 1 ≤ width ∧ width ≤ 100000 := by
  unfold freeFlt at h
  by_cases h1 : faultSegs segs = 0
  · rw [if_neg (by simpa using h1)] at h
    by_cases h2 : faultBusy bus = 0
    · rw [if_neg (by simpa using h2)] at h
      split at h
      · cases h
      · split at h
        · cases h
        · split at h
          · cases h
          · rename_i h3
            have := inB_iff.1 (by simpa using h3)
            exact ⟨h1, h2, this.1, this.2⟩
    · rw [if_pos h2] at h
      exact (h2 h).elim
  · rw [if_pos h1] at h
    exact (h1 h).elim
theorem equalPairs (a : List (List G)) (h : ∀ r ∈ a, ∃ x y, r = [G.s x, .s y]) (hn : a.length < 100000) : F_slices_Equal_Pair [.l a, .l a] = some [.t true] := by
  have := equalF_eq (K := [.str, .str]) (Q := fun r => ∃ x y, r = [G.s x, .s y]) ⟨fun r ⟨x, y, h⟩ => by subst h; rfl⟩ a a h h hn
  rw [eqlA_refl rfl] at this
  exact this
theorem pairs_shape (bus : List (List G)) : ∀ i, (∀ r ∈ pairsTo bus i, ∃ x y, r = [G.s x, .s y]) ∧ (pairsTo bus i).length ≤ bus.length * i
  | 0 => ⟨by simp [pairsTo], by simp [pairsTo]⟩
  | i + 1 => by
    obtain ⟨h1, h2⟩ := pairs_shape bus i
    have h3 := pairsAt_length bus i
    refine ⟨fun r hr => ?_, ?_⟩
    · rcases List.mem_append.1 hr with hr | hr
      · exact h1 r hr
      · obtain ⟨b, _, rfl⟩ := List.mem_map.1 hr
        exact ⟨_, _, rfl⟩
    · show (pairsTo bus i ++ pairsAt bus i).length ≤ bus.length * (i + 1)
      rw [List.length_append, Nat.mul_succ]
      omega
theorem law_end (bus p r : List (List G)) (wish n k one two trd : Int) (ok : Bool) (hb : ∀ z ∈ bus, Bsy z) (h1 : one = faultBusy bus) (hp : F_slices_Equal_Pair [.l p, .l p] = some [.t true]) (hr : F_slices_Equal_Row [.l r, .l r] = some [.t true])
    (hn : trd = 0 → F_pileref2_NearestTo [.l r, .i wish] = some [.i n, .t ok]) (hno : trd ≠ 0 → n = 0 ∧ ok = false) :
    Ret (tl_pilelaw2_FrequenciesFree_17 [.l bus, .i wish, .l p, .i one, .l r, .i two, .i n, .t ok, .i trd, .i k, .i one, .i one, .i two, .i trd, .l p, .i k, .l r]) fun o => ∃ x, o.1 = some x ∧ x = 0 ∧ o.2 = [.t true] := by
  unfold tl_pilelaw2_FrequenciesFree_17
  (dsimp +instances only [gi0,gis,row1,rows1,int1,str1,bool1])
  by_cases h0 : trd = 0
  · refine Ret.pos (by simpa using h0) ?_
    refine Ret.call (Ret.eq (hn h0)) ?_
    rintro _ rfl
    refine Ret.call (Ret.eq (checkBusy_ok bus hb)) ?_
    rintro _ rfl
    (dsimp +instances only [gi0,gis,row1,rows1,int1,str1,bool1])
    refine Ret.pos (by simp [h1]) (Ret.pos (by simp) ?_)
    refine Ret.call (Ret.eq hp) ?_
    rintro _ rfl
    refine Ret.pos rfl (Ret.pos (by simp) ?_)
    refine Ret.call (Ret.eq hr) ?_
    rintro _ rfl
    refine Ret.pos rfl (Ret.pos (by simp) (Ret.pos (by simp) (Ret.pos (by simp) (Ret.pos (by simp) (Ret.pos (by simp) ?_)))))
    refine Ret.call (Ret.eq (rfl : F_pilelaw2_banded [] = some [.t true])) ?_
    rintro _ rfl
    exact Ret.some ⟨0, rfl, rfl, rfl⟩
  · obtain ⟨rfl, rfl⟩ := hno h0
    refine Ret.neg (by simpa using h0) ?_
    refine Ret.call (Ret.eq (checkBusy_ok bus hb)) ?_
    rintro _ rfl
    (dsimp +instances only [gi0,gis,row1,rows1,int1,str1,bool1])
    refine Ret.pos (by simp [h1]) (Ret.pos (by simp) ?_)
    refine Ret.call (Ret.eq hp) ?_
    rintro _ rfl
    refine Ret.pos rfl (Ret.pos (by simp) ?_)
    refine Ret.call (Ret.eq hr) ?_
    rintro _ rfl
    refine Ret.pos rfl (Ret.pos (by simp) (Ret.pos (by simp) (Ret.pos (by simp) (Ret.pos (by simp) (Ret.pos (by simp) ?_)))))
    refine Ret.call (Ret.eq (rfl : F_pilelaw2_banded [] = some [.t true])) ?_
    rintro _ rfl
    exact Ret.some ⟨0, rfl, rfl, rfl⟩
theorem frequenciesFree_data (rows : List (List G)) : F_pilelaw2_FrequenciesFree [.l rows] = some [.t true] := by
  refine Ret.toEq ?_
  unfold F_pilelaw2_FrequenciesFree
  (dsimp +instances only [gi0,gis,row1,rows1,int1,str1,bool1])
  refine Ret.call (r_Segments rows 0 (by omega) (by omega)) ?_
  rintro _ ⟨a1, segs, rfl, ha0, ha1, hs, hsn⟩
  (dsimp +instances only [gi0,gis,row1,rows1,int1,str1,bool1])
  refine Ret.call (r_Busies rows a1 ha0 (by omega)) ?_
  rintro _ ⟨a2, bus, rfl, hb0, hb1, hb, hbn⟩
  (dsimp +instances only [gi0,gis,row1,rows1,int1,str1,bool1])
  refine Ret.call (r_SomeB classes rows _ _ (by omega) (by omega) (by kernel_rfl) (by kernel_rfl)) ?_
  rintro _ ⟨c, rfl, hc⟩
  (dsimp +instances only [gi0,gis,row1,rows1,int1,str1,bool1])
  refine Ret.call (r_Wide rows _ (by omega) (by omega)) ?_
  rintro _ ⟨width, rfl, hw0, hw1⟩
  (dsimp +instances only [gi0,gis,row1,rows1,int1,str1,bool1])
  refine Ret.call (r_PickB 0 4 rows _ _ (by omega) (by omega) (by kernel_rfl) (by kernel_rfl)) ?_
  rintro _ ⟨mode, rfl, hm0, hm1⟩
  (dsimp +instances only [gi0,gis,row1,rows1,int1,str1,bool1])
  refine Ret.call (r_PickB (-1) 200 rows _ _ (by omega) (by omega) (by kernel_rfl) (by kernel_rfl)) ?_
  rintro _ ⟨at_, rfl, ht0, ht1⟩
  (dsimp +instances only [gi0,gis,row1,rows1,int1,str1,bool1])
  refine Ret.call (r_Near rows _ (by omega) (by omega)) ?_
  rintro _ ⟨a3, wish, rfl, hz0, hz1, hwish⟩
  (dsimp +instances only [gi0,gis,row1,rows1,int1,str1,bool1])
  refine Ret.call (Ret.eq (tooNear_ok bus hb (by omega))) ?_
  rintro _ rfl
  have hff := freeFault_ok segs bus c mode width at_ hs hb hc
  -- what is free, and the nearest
  have bth : ∃ out nn ok, F_band_Free [.l segs, .l bus, .s c, .i mode, .i width, .i at_] = some [.l out, .i (freeFlt segs bus c mode width at_)] ∧
      F_band_Nearest [.l segs, .l bus, .s c, .i mode, .i width, .i at_, .i wish] = some [.i nn, .t ok, .i (firstE [freeFlt segs bus c mode width at_, bif inB wish 0 30000000000 then 0 else 1])] ∧
      F_slices_Equal_Row [.l out, .l out] = some [.t true] ∧ (freeFlt segs bus c mode width at_ ≠ 0 → out = []) ∧
      (freeFlt segs bus c mode width at_ = 0 → F_pileref2_FreeRows [.l segs, .l bus, .s c, .i mode, .i width, .i at_] = some [.l out]) ∧
      (firstE [freeFlt segs bus c mode width at_, bif inB wish 0 30000000000 then 0 else 1] = 0 → F_pileref2_NearestTo [.l out, .i wish] = some [.i nn, .t ok]) ∧ (firstE [freeFlt segs bus c mode width at_, bif inB wish 0 30000000000 then 0 else 1] ≠ 0 → nn = 0 ∧ ok = false) := by
    by_cases hbad : freeFlt segs bus c mode width at_ = 0
    rotate_left
    · have e0 : firstE [freeFlt segs bus c mode width at_, bif inB wish 0 30000000000 then 0 else 1] = freeFlt segs bus c mode width at_ := by rw [e_first, if_pos hbad]
      rw [e0]
      refine ⟨[], 0, false, Ret.toEq ?_, Ret.toEq ?_, rfl, fun _ => rfl, fun h => (hbad h).elim, fun h => (hbad h).elim, fun _ => ⟨rfl, rfl⟩⟩
      · unfold F_band_Free
        (dsimp +instances only [gi0,gis,row1,rows1,int1,str1,bool1])
        refine Ret.call (Ret.eq hff) ?_
        rintro _ rfl
        exact Ret.pos (by simpa [gi, G.int] using hbad) (Ret.some rfl)
      · unfold F_band_Nearest
        (dsimp +instances only [gi0,gis,row1,rows1,int1,str1,bool1])
        refine Ret.call (Ret.eq hff) ?_
        rintro _ rfl
        exact Ret.pos (by simpa [gi, G.int] using hbad) (Ret.some rfl)
    obtain ⟨h1, h2, hw2, hw3⟩ := free_flt0 hbad
    have e0 : firstE [freeFlt segs bus c mode width at_, bif inB wish 0 30000000000 then 0 else 1] = bif inB wish 0 30000000000 then 0 else 1 := by
      rw [e_first, if_neg (by simpa using hbad), e_first, e_none]
      cases inB wish 0 30000000000 <;> simp
    rw [e0, hbad]
    rw [hbad] at hff
    obtain ⟨_, hfree, P, out, rfl, p1, p2, p3, o1, hlen, o2⟩ := free_ok segs bus c mode width at_ hs hb (by omega) (by omega) h1 h2 hw2 hw3
    obtain ⟨_, href, W, out2, rfl, w1, w3, u1, u2, u3⟩ := freeRows_ok segs bus c mode width at_ hs hb (by omega) (by omega) h1 h2 hw2 hw3
    have e : out2 = out := canR_unique u1 o1 fun n => by rw [u3, o2, same_free hw2 (busR_of hb h2) p1 p3 w1 w3]
    subst e
    have hob := can_b40 hw2 hw3 p2 o1 o2
    have hob2 : ∀ r ∈ out2, IsR r ∧ b40 (rLo r) ∧ b40 (rHi r) := fun r hr => by
      obtain ⟨q1, q2, q3⟩ := hob r hr
      have := q1.2
      exact ⟨q1, ⟨by omega, by omega⟩, ⟨by omega, by omega⟩⟩
    have hF : F_band_Free [.l segs, .l bus, .s c, .i mode, .i width, .i at_] = some [.l out2, .i 0] := Ret.toEq (by
      unfold F_band_Free
      (dsimp +instances only [gi0,gis,row1,rows1,int1,str1,bool1])
      refine Ret.call (Ret.eq hff) ?_
      rintro _ rfl
      (dsimp +instances only [gi0,gis,row1,rows1,int1,str1,bool1])
      refine Ret.neg rfl ?_
      refine Ret.call (Ret.eq hfree) ?_
      rintro _ rfl
      exact Ret.some rfl)
    cases hin : inB wish 0 30000000000 with
    | false =>
      refine ⟨out2, 0, false, hF, Ret.toEq ?_, equalCan out2 o1 (by omega), fun h => (h rfl).elim, fun _ => href, (fun h => by cases h), fun _ => ⟨rfl, rfl⟩⟩
      unfold F_band_Nearest
      (dsimp +instances only [gi0,gis,row1,rows1,int1,str1,bool1])
      refine Ret.call (Ret.eq hff) ?_
      rintro _ rfl
      (dsimp +instances only [gi0,gis,row1,rows1,int1,str1,bool1])
      refine Ret.neg rfl ?_
      refine Ret.call (Ret.eq (outside_eq _ _ _)) ?_
      rintro _ rfl
      (dsimp +instances only [gi0,gis,row1,rows1,int1,str1,bool1])
      rw [hin]
      exact Ret.pos rfl (Ret.some rfl)
    | true =>
      refine ⟨out2, (nearL wish out2).1, (nearL wish out2).2, hF, Ret.toEq ?_, equalCan out2 o1 (by omega), fun h => (h rfl).elim, fun _ => href, fun _ => nearestTo_ok out2 wish hwish hob2 hlen, fun h => (h rfl).elim⟩
      unfold F_band_Nearest
      (dsimp +instances only [gi0,gis,row1,rows1,int1,str1,bool1])
      refine Ret.call (Ret.eq hff) ?_
      rintro _ rfl
      (dsimp +instances only [gi0,gis,row1,rows1,int1,str1,bool1])
      refine Ret.neg rfl ?_
      refine Ret.call (Ret.eq (outside_eq _ _ _)) ?_
      rintro _ rfl
      (dsimp +instances only [gi0,gis,row1,rows1,int1,str1,bool1])
      rw [hin]
      refine Ret.neg rfl ?_
      refine Ret.call (Ret.eq hfree) ?_
      rintro _ rfl
      (dsimp +instances only [gi0,gis,row1,rows1,int1,str1,bool1])
      refine Ret.loop (near_loop out2 wish hwish hob2 hlen) rfl ?_
      rintro _ _ ⟨rfl, rfl⟩
      exact Ret.some rfl
  obtain ⟨out, nn, ok, b1, b2, b3, b4, b5, b6, b7⟩ := bth
  refine Ret.call (Ret.eq b1) ?_
  rintro _ rfl
  refine Ret.call (Ret.eq b2) ?_
  rintro _ rfl
  refine Ret.call (Ret.eq (fewest_ok bus hb (by omega))) ?_
  rintro _ rfl
  refine Ret.call (Ret.eq (busyFault_ok bus hb)) ?_
  rintro _ rfl
  refine Ret.call (Ret.eq (segsFault_ok segs hs)) ?_
  rintro _ rfl
  refine Ret.call (Ret.eq (nameFault_ok hc)) ?_
  rintro _ rfl
  refine Ret.call (Ret.eq (modeFault_ok mode)) ?_
  rintro _ rfl
  refine Ret.call (Ret.eq (widthFault_ok width)) ?_
  rintro _ rfl
  refine Ret.call (Ret.eq (momentFault_ok at_)) ?_
  rintro _ rfl
  (dsimp +instances only [gi0,gis,row1,rows1,int1,str1,bool1])
  refine Ret.call (Ret.eq (errs_eq [_, _, _, _, _, _] (by simp))) ?_
  rintro _ rfl
  refine Ret.call (Ret.eq (hertzFault_ok wish)) ?_
  rintro _ rfl
  (dsimp +instances only [gi0,gis,row1,rows1,int1,str1,bool1])
  rw [frFlt_eq]
  refine Ret.call (Ret.eq (errs_eq [_, _] (by simp))) ?_
  rintro _ rfl
  (dsimp +instances only [gi0,gis,row1,rows1,int1,str1,bool1])
  obtain ⟨ps1, ps2⟩ := pairs_shape bus bus.length
  have hpl : (pairsTo bus bus.length).length < 100000 := by
    have : bus.length * bus.length ≤ 6 * 6 := Nat.mul_le_mul hbn hbn
    omega
  by_cases hf : faultBusy bus = 0
  · rw [if_neg (by simpa using hf), if_neg (by simpa using hf)]
    (dsimp +instances only [gi0,gis,row1,rows1,int1,str1,bool1])
    refine Ret.pos (by simpa using hf) ?_
    refine Ret.call (Ret.eq (nearPairs_ok bus hb (by omega) hf)) ?_
    rintro _ rfl
    refine Ret.call (Ret.eq (fewestOf_ok bus (by omega))) ?_
    rintro _ rfl
    (dsimp +instances only [gi0,gis,row1,rows1,int1,str1,bool1])
    have fin : Ret (tl_pilelaw2_FrequenciesFree_17 [.l bus, .i wish, .l (pairsTo bus bus.length), .i 0, .l out, .i (freeFlt segs bus c mode width at_), .i nn, .t ok, .i (firstE [freeFlt segs bus c mode width at_, bif inB wish 0 30000000000 then 0 else 1]), .i (mostTo bus bus.length), .i 0, .i (faultBusy bus), .i (freeFlt segs bus c mode width at_), .i (firstE [freeFlt segs bus c mode width at_, bif inB wish 0 30000000000 then 0 else 1]), .l (pairsTo bus bus.length), .i (mostTo bus bus.length), .l out]) fun o => ∃ x, o.1 = some x ∧ x = 0 ∧ o.2 = [.t true] := by
      rw [hf]
      exact law_end bus (pairsTo bus bus.length) out wish nn _ 0 _ _ ok hb hf.symm (equalPairs _ ps1 hpl) b3 b6 b7
    by_cases h0 : freeFlt segs bus c mode width at_ = 0
    · refine Ret.pos (by simpa using h0) ?_
      refine Ret.call (Ret.eq (b5 h0)) ?_
      rintro _ rfl
      (dsimp +instances only [gi0,gis,row1,rows1,int1,str1,bool1])
      refine Ret.tail (P := fun x g => x = 0 ∧ g = [.t true]) fin rfl ?_
      rintro _ _ ⟨rfl, rfl⟩
      exact Ret.some rfl
    · have e := b4 h0
      subst e
      refine Ret.neg (by simpa using h0) ?_
      refine Ret.tail (P := fun x g => x = 0 ∧ g = [.t true]) fin rfl ?_
      rintro _ _ ⟨rfl, rfl⟩
      exact Ret.some rfl
  · rw [if_pos hf, if_pos hf]
    (dsimp +instances only [gi0,gis,row1,rows1,int1,str1,bool1])
    have h0 : freeFlt segs bus c mode width at_ ≠ 0 := fun h => hf (free_flt0 h).2.1
    have e := b4 h0
    subst e
    refine Ret.neg (by simpa using hf) (Ret.neg (by simpa using h0) ?_)
    refine Ret.tail (P := fun x g => x = 0 ∧ g = [.t true]) (law_end bus [] [] wish nn 0 (faultBusy bus) _ _ ok hb rfl rfl b3 b6 b7) rfl ?_
    rintro _ _ ⟨rfl, rfl⟩
    exact Ret.some rfl
end
end Go.Proofs.SYtpbepppkchjccaaGreatDoor
