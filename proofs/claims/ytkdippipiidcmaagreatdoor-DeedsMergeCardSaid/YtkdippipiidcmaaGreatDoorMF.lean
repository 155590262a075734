/-
  What is proved here: what the methods of the stream give on data. No condition.
-/
import Derived.Test.YtkdippipiidcmaaGreatDoorML3
import Derived.Test.YtkdippipiidcmaaGreatDoorME
set_option linter.unusedSimpArgs false
set_option linter.unusedVariables false
set_option linter.unusedSectionVars false
namespace Go.Proofs.SYtkdippipiidcmaaGreatDoor
open Go Go.AL Go.Proofs
noncomputable section
theorem r_Below (x n : Int) (h0 : 1 ≤ n) (h1 : n ≤ 1099511627776) : Ret (F_pilemake_Below [.i x, .i n]) fun g => ∃ v, g = [.i v] ∧ 0 ≤ v ∧ v < n := by
  unfold F_pilemake_Below
  (dsimp +instances only [gi0,gis,row1,rows1,int1,str1,bool1])
  have ha := Int.tmod_lt_of_pos x (by omega : 0 < n)
  have hb := Int.lt_tmod_of_pos x (by omega : 0 < n)
  (repeat(first|(refine Ret.pos ?_ ?_;(first|rfl|assumption|(simp only [inI,sl]<;>omega)))|(refine Ret.neg ?_ ?_;(first|rfl|assumption|(simp only [inI,sl]<;>omega)))))
  refine Ret.test (fun h => ?_) fun h => ?_
  · simp only [ltI_eq, decide_eq_true_eq] at h
    (repeat(first|(refine Ret.pos ?_ ?_;(first|rfl|assumption|(simp only [inI,sl]<;>omega)))|(refine Ret.neg ?_ ?_;(first|rfl|assumption|(simp only [inI,sl]<;>omega)))))
    exact Ret.some ⟨_, rfl, by omega, by omega⟩
  · simp only [ltI_eq, decide_eq_false_iff_not] at h
    exact Ret.some ⟨_, rfl, by omega, by omega⟩
theorem r_Next (l : List (List G)) (a n : Int) (ha : 0 ≤ a) (ha1 : a ≤ 1000000) (h0 : 1 ≤ n) (h1 : n ≤ 1099511627776) :
    Ret (F_pilemake_Stream_Next [.l l, .i a, .i n]) fun g => ∃ v, g = [.l l, .i (a + 1), .i v] ∧ 0 ≤ v ∧ v < n := by
  unfold F_pilemake_Stream_Next
  (dsimp +instances only [gi0,gis,row1,rows1,int1,str1,bool1])
  have ea : a + 1 - 1 = a := by omega
  simp only [ea]
  by_cases hl : l.length = 0
  · (repeat(first|(refine Ret.pos ?_ ?_;(first|rfl|assumption|(simp only [inI,sl]<;>omega)))|(refine Ret.neg ?_ ?_;(first|rfl|assumption|(simp only [inI,sl]<;>omega)))))
    refine Ret.call (r_Below _ n h0 h1) ?_
    rintro _ ⟨v, rfl, h2, h3⟩
    (dsimp +instances only [gi0,gis,row1,rows1,int1,str1,bool1])
    exact Ret.some ⟨v, rfl, h2, h3⟩
  · have hp : (0 : Int) < (l.length : Int) := by omega
    have d0 : 0 ≤ Int.tdiv a l.length := Int.tdiv_nonneg ha (by omega)
    have d1 : Int.tdiv a l.length ≤ a := by
      rw [Int.tdiv_eq_ediv_of_nonneg ha]
      exact Int.ediv_le_self _ ha
    have m0 : 0 ≤ Int.tmod a l.length := by
      rw [Int.tmod_eq_emod_of_nonneg ha]
      exact Int.emod_nonneg _ (by omega)
    have m1 : Int.tmod a l.length < l.length := Int.tmod_lt_of_pos a hp
    have m2 : Int.tmod a l.length ≤ a := by
      rw [Int.tmod_eq_emod_of_nonneg ha]
      have := Int.mul_ediv_add_emod a l.length
      have h4 : 0 ≤ (l.length : Int) * (a / l.length) := Int.mul_nonneg (by omega) (Int.ediv_nonneg ha (by omega))
      omega
    generalize hq : Int.tdiv a l.length = q at *
    generalize hr : Int.tmod a l.length = r at *
    have p0 : 0 ≤ q * (7919 + r) := Int.mul_nonneg d0 (by omega)
    have p1 : q * (7919 + r) ≤ 1000000 * 2000000 := Int.mul_le_mul (by omega) (by omega) (by omega) (by omega)
    generalize hz : q * (7919 + r) = z at *
    (repeat(first|(refine Ret.pos ?_ ?_;(first|rfl|assumption|(simp only [inI,sl]<;>omega)))|(refine Ret.neg ?_ ?_;(first|rfl|assumption|(simp only [inI,sl]<;>omega)))))
    refine Ret.call (r_Below _ 1073741824 (by omega) (by omega)) ?_
    rintro _ ⟨u, rfl, h2, h3⟩
    (dsimp +instances only [gi0,gis,row1,rows1,int1,str1,bool1])
    (repeat(first|(refine Ret.pos ?_ ?_;(first|rfl|assumption|(simp only [inI,sl]<;>omega)))|(refine Ret.neg ?_ ?_;(first|rfl|assumption|(simp only [inI,sl]<;>omega)))))
    refine Ret.call (r_Below _ n h0 h1) ?_
    rintro _ ⟨v, rfl, h4, h5⟩
    (dsimp +instances only [gi0,gis,row1,rows1,int1,str1,bool1])
    exact Ret.some ⟨v, rfl, h4, h5⟩
theorem r_Range (l : List (List G)) (a lo hi : Int) (ha : 0 ≤ a) (ha1 : a ≤ 1000000) (h0 : lo ≤ hi) (h1 : -1000000000 ≤ lo) (h2 : hi ≤ 1000000000) :
    Ret (F_pilemake_Stream_Range [.l l, .i a, .i lo, .i hi]) fun g => ∃ v, g = [.l l, .i (a + 1), .i v] ∧ lo ≤ v ∧ v ≤ hi := by
  unfold F_pilemake_Stream_Range
  (dsimp +instances only [gi0,gis,row1,rows1,int1,str1,bool1])
  (repeat(first|(refine Ret.pos ?_ ?_;(first|rfl|assumption|(simp only [inI,sl]<;>omega)))|(refine Ret.neg ?_ ?_;(first|rfl|assumption|(simp only [inI,sl]<;>omega)))))
  refine Ret.call (r_Next l a _ ha ha1 (by omega) (by omega)) ?_
  rintro _ ⟨v, rfl, h3, h4⟩
  (dsimp +instances only [gi0,gis,row1,rows1,int1,str1,bool1])
  (repeat(first|(refine Ret.pos ?_ ?_;(first|rfl|assumption|(simp only [inI,sl]<;>omega)))|(refine Ret.neg ?_ ?_;(first|rfl|assumption|(simp only [inI,sl]<;>omega)))))
  exact Ret.some ⟨_, rfl, by omega, by omega⟩
theorem getD_mem' {l : List (List G)} {v : Int} (h0 : 0 ≤ v) (h1 : v < l.length) : l.getD v.toNat [] ∈ l := by
  have : v.toNat < l.length := by omega
  rw [List.getD_eq_getElem?_getD, List.getElem?_eq_getElem this]
  exact List.getElem_mem this
theorem r_Pick (P : Int → Prop) (l : List (List G)) (a : Int) (xs : List (List G)) (ha : 0 ≤ a) (ha1 : a ≤ 1000000) (h0 : 1 ≤ xs.length) (h1 : xs.length ≤ 1000000) (hP : ∀ x ∈ xs, P (gi x 0).int) :
    Ret (F_pilemake_Stream_Pick [.l l, .i a, .l xs]) fun g => ∃ v, g = [.l l, .i (a + 1), .i v] ∧ P v := by
  unfold F_pilemake_Stream_Pick
  (dsimp +instances only [gi0,gis,row1,rows1,int1,str1,bool1])
  refine Ret.call (r_Next l a _ ha ha1 (by omega) (by omega)) ?_
  rintro _ ⟨v, rfl, h3, h4⟩
  (dsimp +instances only [gi0,gis,row1,rows1,int1,str1,bool1])
  (repeat(first|(refine Ret.pos ?_ ?_;(first|rfl|assumption|(simp only [inI,sl]<;>omega)))|(refine Ret.neg ?_ ?_;(first|rfl|assumption|(simp only [inI,sl]<;>omega)))))
  exact Ret.some ⟨_, rfl, hP _ (getD_mem' h3 h4)⟩
theorem r_Some (P : ByteArray → Prop) (l : List (List G)) (a : Int) (xs : List (List G)) (ha : 0 ≤ a) (ha1 : a ≤ 1000000) (h0 : 1 ≤ xs.length) (h1 : xs.length ≤ 1000000) (hP : ∀ x ∈ xs, P (gi x 0).str) :
    Ret (F_pilemake_Stream_Some [.l l, .i a, .l xs]) fun g => ∃ v, g = [.l l, .i (a + 1), .s v] ∧ P v := by
  unfold F_pilemake_Stream_Some
  (dsimp +instances only [gi0,gis,row1,rows1,int1,str1,bool1])
  refine Ret.call (r_Next l a _ ha ha1 (by omega) (by omega)) ?_
  rintro _ ⟨v, rfl, h3, h4⟩
  (dsimp +instances only [gi0,gis,row1,rows1,int1,str1,bool1])
  (repeat(first|(refine Ret.pos ?_ ?_;(first|rfl|assumption|(simp only [inI,sl]<;>omega)))|(refine Ret.neg ?_ ?_;(first|rfl|assumption|(simp only [inI,sl]<;>omega)))))
  exact Ret.some ⟨_, rfl, hP _ (getD_mem' h3 h4)⟩
theorem r_Flip (l : List (List G)) (a n : Int) (ha : 0 ≤ a) (ha1 : a ≤ 1000000) (h0 : 1 ≤ n) (h1 : n ≤ 1000000) :
    Ret (F_pilemake_Stream_Flip [.l l, .i a, .i n]) fun g => ∃ b, g = [.l l, .i (a + 1), .t b] := by
  unfold F_pilemake_Stream_Flip
  (dsimp +instances only [gi0,gis,row1,rows1,int1,str1,bool1])
  refine Ret.call (r_Next l a _ ha ha1 (by omega) (by omega)) ?_
  rintro _ ⟨v, rfl, h3, h4⟩
  exact Ret.some ⟨_, rfl⟩
theorem r_Odd (l : List (List G)) (a lo hi : Int) (ha : 0 ≤ a) (ha1 : a ≤ 900000) (h0 : lo ≤ hi) (h1 : -1000000000 ≤ lo) (h2 : hi ≤ 1000000000) :
    Ret (F_pilemake_Stream_Odd [.l l, .i a, .i lo, .i hi]) fun g => ∃ v, g = [.l l, .i (a + 2), .i v] ∧ -1099511627776 ≤ v ∧ (v ≤ 1000000001 ∨ v = 1099511627776) := by
  unfold F_pilemake_Stream_Odd
  (dsimp +instances only [gi0,gis,row1,rows1,int1,str1,bool1])
  have e2 : a + 1 + 1 = a + 2 := by omega
  refine Ret.call (r_Flip l a 12 ha (by omega) (by omega) (by omega)) ?_
  rintro _ ⟨b, rfl⟩
  (dsimp +instances only [gi0,gis,row1,rows1,int1,str1,bool1])
  cases b with
  | true =>
    (repeat(first|(refine Ret.pos ?_ ?_;(first|rfl|assumption|(simp only [inI,sl]<;>omega)))|(refine Ret.neg ?_ ?_;(first|rfl|assumption|(simp only [inI,sl]<;>omega)))))
    refine Ret.call (r_Pick (fun v => -1099511627776 ≤ v ∧ (v ≤ 1000000001 ∨ v = 1099511627776)) l (a + 1) _ (by omega) (by omega) (by simp) (by simp) ?_) ?_
    · intro x hx
      simp only [List.mem_cons, List.not_mem_nil, or_false] at hx
      rcases hx with rfl | rfl | rfl | rfl | rfl | rfl <;> (dsimp +instances only [gi0,gis,row1,rows1,int1,str1,bool1]) <;> omega
    · rintro _ ⟨v, rfl, h3, h4⟩
      (dsimp +instances only [gi0,gis,row1,rows1,int1,str1,bool1])
      exact Ret.some ⟨v, by rw [e2], h3, h4⟩
  | false =>
    (repeat(first|(refine Ret.pos ?_ ?_;(first|rfl|assumption|(simp only [inI,sl]<;>omega)))|(refine Ret.neg ?_ ?_;(first|rfl|assumption|(simp only [inI,sl]<;>omega)))))
    refine Ret.call (r_Range l (a + 1) lo hi (by omega) (by omega) h0 h1 h2) ?_
    rintro _ ⟨v, rfl, h3, h4⟩
    (dsimp +instances only [gi0,gis,row1,rows1,int1,str1,bool1])
    exact Ret.some ⟨v, by rw [e2], by omega, by omega⟩
end
end Go.Proofs.SYtkdippipiidcmaaGreatDoor

namespace Go.Proofs.SYtkdippipiidcmaaGreatDoor
open Go Go.AL Go.Proofs
noncomputable section
def inL (L : List ByteArray) (s : ByteArray) : Bool := L.any fun x => eqS x s
theorem inL_mem {L : List ByteArray} {s : ByteArray} (h : inL L s = true) : s ∈ L := by
  obtain ⟨x, hx, he⟩ := List.any_eq_true.1 h
  exact eqS_eq he ▸ hx
theorem r_PickB (lo hi : Int) (l : List (List G)) (a : Int) (xs : List (List G)) (ha : 0 ≤ a) (ha1 : a ≤ 1000000) (h0 : (Nat.ble 1 xs.length && Nat.ble xs.length 1000000) = true) (hP : (xs.all fun x => leI lo (gi x 0).int && leI (gi x 0).int hi) = true) :
    Ret (F_pilemake_Stream_Pick [.l l, .i a, .l xs]) fun g => ∃ v, g = [.l l, .i (a + 1), .i v] ∧ lo ≤ v ∧ v ≤ hi := by
  simp only [Bool.and_eq_true, Nat.ble_eq] at h0
  refine r_Pick (fun v => lo ≤ v ∧ v ≤ hi) l a xs ha ha1 h0.1 h0.2 fun x hx => ?_
  have := List.all_eq_true.1 hP x hx
  simpa only [leI_eq, Bool.and_eq_true, decide_eq_true_eq] using this
theorem r_SomeB (L : List ByteArray) (l : List (List G)) (a : Int) (xs : List (List G)) (ha : 0 ≤ a) (ha1 : a ≤ 1000000) (h0 : (Nat.ble 1 xs.length && Nat.ble xs.length 1000000) = true) (hP : (xs.all fun x => inL L (gi x 0).str) = true) :
    Ret (F_pilemake_Stream_Some [.l l, .i a, .l xs]) fun g => ∃ v, g = [.l l, .i (a + 1), .s v] ∧ v ∈ L := by
  simp only [Bool.and_eq_true, Nat.ble_eq] at h0
  exact r_Some (fun v => v ∈ L) l a xs ha ha1 h0.1 h0.2 fun x hx => inL_mem (List.all_eq_true.1 hP x hx)
def calls : List ByteArray := [⟨#[]⟩, ⟨#[107, 49]⟩, ⟨#[75, 49, 65, 66]⟩, ⟨#[107, 49, 97, 98, 47]⟩, ⟨#[49, 97]⟩, ⟨#[107, 49, 97, 98, 47, 109, 109, 47, 112]⟩, ⟨#[107, 49, 97, 98]⟩, ⟨#[107, 49, 97, 97]⟩, ⟨#[107, 49, 97, 98, 47, 52]⟩,
  ⟨#[111, 104, 50, 97, 98, 99]⟩, ⟨#[111, 104, 50, 97, 98, 100]⟩, ⟨#[119, 49, 97, 119]⟩, ⟨#[110, 49, 109, 109]⟩, ⟨#[103, 51, 120, 121, 122, 47, 112]⟩]
def bands : List ByteArray := [⟨#[]⟩, ⟨#[66]⟩, ⟨#[98, 50, 48]⟩, ⟨#[98, 52, 48]⟩]
def names : List ByteArray := [⟨#[]⟩, ⟨#[65]⟩, ⟨#[49]⟩, ⟨#[102, 105, 110]⟩, ⟨#[117, 115, 97]⟩]
def small (n : Int) : Prop := -2000000000000 ≤ n ∧ n ≤ 2000000000000
def Con (r : List G) : Prop := ∃ (t m : Int) (b c : ByteArray) (s h : Int) (x y : ByteArray), r = [.i t, .i m, .s b, .s c, .i s, .i h, .s x, .s y] ∧ small t ∧ small m ∧ small s ∧ small h ∧ b ∈ bands ∧ c ∈ calls ∧ x ∈ names ∧ y ∈ names
def tight (n : Int) : Prop := -1900000000000 ≤ n ∧ n ≤ 1900000000000
def tightT (n : Int) : Prop := -1900000000000 ≤ n ∧ (n ≤ 345000000000 ∨ (345686399999 < n ∧ n ≤ 1900000000000))
def ConT (r : List G) : Prop := ∃ (t m : Int) (b c : ByteArray) (s h : Int) (x y : ByteArray), r = [.i t, .i m, .s b, .s c, .i s, .i h, .s x, .s y] ∧ tightT t ∧ tight m ∧ tight s ∧ tight h ∧ b ∈ bands ∧ c ∈ calls ∧ x ∈ names ∧ y ∈ names
theorem tight.to {n : Int} (h : tight n) : small n := ⟨by have := h.1; omega, by have := h.2; omega⟩
theorem tightT.to {n : Int} (h : tightT n) : small n := by
  unfold tightT at h
  exact ⟨by omega, by omega⟩
theorem ConT.to {r : List G} (h : ConT r) : Con r := by
  obtain ⟨t, m, b, c, s, h, x, y, e, h1, h2, h3, h4, h5⟩ := h
  exact ⟨t, m, b, c, s, h, x, y, e, h1.to, h2.to, h3.to, h4.to, h5⟩
theorem Con.eta {r : List G} (h : Con r) : gEta [.int .i64, .int .i64, .str, .str, .int .i64, .int .i64, .str, .str] r = r := by
  obtain ⟨t, m, b, c, s, h, x, y, rfl, _⟩ := h
  rfl
theorem r_ACall (l : List (List G)) (a : Int) (ha : 0 ≤ a) (ha1 : a ≤ 900000) : Ret (F_pilemake_Stream_ACall [.l l, .i a]) fun g => ∃ v, g = [.l l, .i (a + 2), .s v] ∧ v ∈ calls := by
  unfold F_pilemake_Stream_ACall
  (dsimp +instances only [gi0,gis,row1,rows1,int1,str1,bool1])
  have e2 : a + 1 + 1 = a + 2 := by omega
  refine Ret.call (r_Flip l a 60 ha (by omega) (by omega) (by omega)) ?_
  rintro _ ⟨b, rfl⟩
  (dsimp +instances only [gi0,gis,row1,rows1,int1,str1,bool1])
  cases b with
  | true =>
    (repeat(first|(refine Ret.pos ?_ ?_;(first|rfl|assumption|(simp only [inI,sl]<;>omega)))|(refine Ret.neg ?_ ?_;(first|rfl|assumption|(simp only [inI,sl]<;>omega)))))
    refine Ret.call (r_SomeB calls l (a + 1) _ (by omega) (by omega) (by kernel_rfl) (by kernel_rfl)) ?_
    rintro _ ⟨v, rfl, h⟩
    exact Ret.some ⟨v, by (dsimp +instances only [gi0,gis,row1,rows1,int1,str1,bool1]); rw [e2], h⟩
  | false =>
    (repeat(first|(refine Ret.pos ?_ ?_;(first|rfl|assumption|(simp only [inI,sl]<;>omega)))|(refine Ret.neg ?_ ?_;(first|rfl|assumption|(simp only [inI,sl]<;>omega)))))
    refine Ret.call (r_SomeB calls l (a + 1) _ (by omega) (by omega) (by kernel_rfl) (by kernel_rfl)) ?_
    rintro _ ⟨v, rfl, h⟩
    exact Ret.some ⟨v, by (dsimp +instances only [gi0,gis,row1,rows1,int1,str1,bool1]); rw [e2], h⟩
theorem r_SomeContact (l : List (List G)) (a t : Int) (ha : 0 ≤ a) (ha1 : a ≤ 800000) (ht : tightT t) :
    Ret (F_pilemake_Stream_SomeContact [.l l, .i a, .i t]) fun g => ∃ b r, g = [.l l, .i b, .l [r]] ∧ a ≤ b ∧ b ≤ a + 20 ∧ ConT r := by
  unfold tightT at ht
  unfold F_pilemake_Stream_SomeContact
  (dsimp +instances only [gi0,gis,row1,rows1,int1,str1,bool1])
  refine Ret.call (r_PickB 1 3 l a _ ha (by omega) (by kernel_rfl) (by kernel_rfl)) ?_
  rintro _ ⟨m, rfl, hm⟩
  (dsimp +instances only [gi0,gis,row1,rows1,int1,str1,bool1])
  refine Ret.call (r_SomeB bands l _ _ (by omega) (by omega) (by kernel_rfl) (by kernel_rfl)) ?_
  rintro _ ⟨bd, rfl, hb⟩
  (dsimp +instances only [gi0,gis,row1,rows1,int1,str1,bool1])
  refine Ret.call (r_ACall l _ (by omega) (by omega)) ?_
  rintro _ ⟨c, rfl, hc⟩
  (dsimp +instances only [gi0,gis,row1,rows1,int1,str1,bool1])
  refine Ret.call (r_PickB 0 7 l _ _ (by omega) (by omega) (by kernel_rfl) (by kernel_rfl)) ?_
  rintro _ ⟨s, rfl, hs⟩
  (dsimp +instances only [gi0,gis,row1,rows1,int1,str1,bool1])
  refine Ret.call (r_PickB 0 9 l _ _ (by omega) (by omega) (by kernel_rfl) (by kernel_rfl)) ?_
  rintro _ ⟨h, rfl, hh⟩
  (dsimp +instances only [gi0,gis,row1,rows1,int1,str1,bool1])
  refine Ret.call (r_SomeB names l _ _ (by omega) (by omega) (by kernel_rfl) (by kernel_rfl)) ?_
  rintro _ ⟨x, rfl, hx⟩
  (dsimp +instances only [gi0,gis,row1,rows1,int1,str1,bool1])
  refine Ret.call (r_SomeB names l _ _ (by omega) (by omega) (by kernel_rfl) (by kernel_rfl)) ?_
  rintro _ ⟨y, rfl, hy⟩
  (dsimp +instances only [gi0,gis,row1,rows1,int1,str1,bool1])
  refine Ret.call (r_Flip l _ 100 (by omega) (by omega) (by omega) (by omega)) ?_
  rintro _ ⟨f, rfl⟩
  (dsimp +instances only [gi0,gis,row1,rows1,int1,str1,bool1])
  cases f with
  | false =>
    (repeat(first|(refine Ret.pos ?_ ?_;(first|rfl|assumption|(simp only [inI,sl]<;>omega)))|(refine Ret.neg ?_ ?_;(first|rfl|assumption|(simp only [inI,sl]<;>omega)))))
    exact Ret.some ⟨_, _, rfl, by omega, by omega, t, m, bd, c, s, h, x, y, rfl, ht, ⟨by omega, by omega⟩, ⟨by omega, by omega⟩, ⟨by omega, by omega⟩, hb, hc, hx, hy⟩
  | true =>
    (repeat(first|(refine Ret.pos ?_ ?_;(first|rfl|assumption|(simp only [inI,sl]<;>omega)))|(refine Ret.neg ?_ ?_;(first|rfl|assumption|(simp only [inI,sl]<;>omega)))))
    refine Ret.call (r_Next l _ 4 (by omega) (by omega) (by omega) (by omega)) ?_
    rintro _ ⟨k, rfl, hk⟩
    (dsimp +instances only [gi0,gis,row1,rows1,int1,str1,bool1])
    by_cases k0 : k = 0
    · subst k0
      (repeat(first|(refine Ret.pos ?_ ?_;(first|rfl|assumption|(simp only [inI,sl]<;>omega)))|(refine Ret.neg ?_ ?_;(first|rfl|assumption|(simp only [inI,sl]<;>omega)))))
      refine Ret.call (r_Odd l _ 0 500 (by omega) (by omega) (by omega) (by omega) (by omega)) ?_
      rintro _ ⟨t', rfl, ht'⟩
      (dsimp +instances only [gi0,gis,row1,rows1,int1,str1,bool1])
      refine Ret.call (r_Odd l _ 1 3 (by omega) (by omega) (by omega) (by omega) (by omega)) ?_
      rintro _ ⟨m', rfl, hm'⟩
      (dsimp +instances only [gi0,gis,row1,rows1,int1,str1,bool1])
      exact Ret.some ⟨_, _, rfl, by omega, by omega, t', m', bd, c, s, h, x, y, rfl, ⟨by omega, by omega⟩, ⟨by omega, by omega⟩, ⟨by omega, by omega⟩, ⟨by omega, by omega⟩, hb, hc, hx, hy⟩
    · refine Ret.neg (by simpa using k0) ?_
      by_cases k1 : k = 1
      · subst k1
        (repeat(first|(refine Ret.pos ?_ ?_;(first|rfl|assumption|(simp only [inI,sl]<;>omega)))|(refine Ret.neg ?_ ?_;(first|rfl|assumption|(simp only [inI,sl]<;>omega)))))
        refine Ret.call (r_SomeB bands l _ _ (by omega) (by omega) (by kernel_rfl) (by kernel_rfl)) ?_
        rintro _ ⟨b', rfl, hb'⟩
        (dsimp +instances only [gi0,gis,row1,rows1,int1,str1,bool1])
        exact Ret.some ⟨_, _, rfl, by omega, by omega, t, m, b', c, s, h, x, y, rfl, ht, ⟨by omega, by omega⟩, ⟨by omega, by omega⟩, ⟨by omega, by omega⟩, hb', hc, hx, hy⟩
      · refine Ret.neg (by simpa using k1) ?_
        by_cases k2 : k = 2
        · subst k2
          (repeat(first|(refine Ret.pos ?_ ?_;(first|rfl|assumption|(simp only [inI,sl]<;>omega)))|(refine Ret.neg ?_ ?_;(first|rfl|assumption|(simp only [inI,sl]<;>omega)))))
          refine Ret.call (r_Odd l _ 0 99999 (by omega) (by omega) (by omega) (by omega) (by omega)) ?_
          rintro _ ⟨s', rfl, hs'⟩
          (dsimp +instances only [gi0,gis,row1,rows1,int1,str1,bool1])
          refine Ret.call (r_Odd l _ 0 99999 (by omega) (by omega) (by omega) (by omega) (by omega)) ?_
          rintro _ ⟨h', rfl, hh'⟩
          (dsimp +instances only [gi0,gis,row1,rows1,int1,str1,bool1])
          exact Ret.some ⟨_, _, rfl, by omega, by omega, t, m, bd, c, s', h', x, y, rfl, ht, ⟨by omega, by omega⟩, ⟨by omega, by omega⟩, ⟨by omega, by omega⟩, hb, hc, hx, hy⟩
        · refine Ret.neg (by simpa using k2) ?_
          refine Ret.call (r_SomeB names l _ _ (by omega) (by omega) (by kernel_rfl) (by kernel_rfl)) ?_
          rintro _ ⟨x', rfl, hx'⟩
          (dsimp +instances only [gi0,gis,row1,rows1,int1,str1,bool1])
          refine Ret.call (r_SomeB names l _ _ (by omega) (by omega) (by kernel_rfl) (by kernel_rfl)) ?_
          rintro _ ⟨y', rfl, hy'⟩
          (dsimp +instances only [gi0,gis,row1,rows1,int1,str1,bool1])
          exact Ret.some ⟨_, _, rfl, by omega, by omega, t, m, bd, c, s, h, x', y', rfl, ht, ⟨by omega, by omega⟩, ⟨by omega, by omega⟩, ⟨by omega, by omega⟩, hb, hc, hx', hy'⟩
end
end Go.Proofs.SYtkdippipiidcmaaGreatDoor

namespace Go.Proofs.SYtkdippipiidcmaaGreatDoor
open Go Go.AL Go.Proofs
noncomputable section
def cmpI (a b : Int) : Int := if a < b then -1 else if b < a then 1 else 0
theorem compareBytes_zero : ∀ {a b : List UInt8}, Lib.compareBytes a b = 0 → a = b
  | [], [], _ => rfl
  | [], _ :: _, h => by simp [Lib.compareBytes] at h
  | _ :: _, [], h => by simp [Lib.compareBytes] at h
  | x :: a, y :: b, h => by
    unfold Lib.compareBytes at h
    split at h
    · cases h
    · split at h
      · cases h
      · rename_i h1 h2
        rw [compareBytes_zero h, UInt8.le_antisymm (UInt8.not_lt.1 h2) (UInt8.not_lt.1 h1)]
theorem compareBytes_self : ∀ a : List UInt8, Lib.compareBytes a a = 0
  | [] => rfl
  | x :: a => by simp [Lib.compareBytes, compareBytes_self a]
theorem str_eq (a b : ByteArray) : (a.toList == b.toList) = decide (cmpS a b = 0) := by
  rw [ByteArray.toList_eq, ByteArray.toList_eq, Bool.eq_iff_iff, decide_eq_true_eq, beq_iff_eq]
  constructor
  · intro h
    unfold cmpS
    rw [h]
    exact compareBytes_self _
  · exact fun h => compareBytes_zero h
def or4 (a b c d : Int) : Int := if a ≠ 0 then a else if b ≠ 0 then b else if c ≠ 0 then c else d
def ordC (r s : List G) : Int := or4 (cmpI (gi r 0).int (gi s 0).int) (cmpS (gi r 3).str (gi s 3).str) (cmpS (gi r 2).str (gi s 2).str) (cmpI (gi r 1).int (gi s 1).int)
theorem sign_eq (a b : Int) : F_pileref2_sign [.i (a - b)] = some [.i (cmpI a b)] := by
  refine Ret.toEq ?_
  unfold F_pileref2_sign cmpI
  (dsimp +instances only [gi0,gis,row1,rows1,int1,str1,bool1])
  by_cases h1 : a < b
  · (repeat(first|(refine Ret.pos ?_ ?_;(first|rfl|assumption|(simp only [inI,sl]<;>omega)))|(refine Ret.neg ?_ ?_;(first|rfl|assumption|(simp only [inI,sl]<;>omega)))))
    exact Ret.some (by simp [h1])
  · by_cases h2 : b < a
    · (repeat(first|(refine Ret.pos ?_ ?_;(first|rfl|assumption|(simp only [inI,sl]<;>omega)))|(refine Ret.neg ?_ ?_;(first|rfl|assumption|(simp only [inI,sl]<;>omega)))))
      exact Ret.some (by simp [h1, h2])
    · (repeat(first|(refine Ret.pos ?_ ?_;(first|rfl|assumption|(simp only [inI,sl]<;>omega)))|(refine Ret.neg ?_ ?_;(first|rfl|assumption|(simp only [inI,sl]<;>omega)))))
      exact Ret.some (by simp [h1, h2])
theorem cmpInt_eq (a b : Int) : F_cmp_Compare_int [.i a, .i b] = some [.i (cmpI a b)] := by
  refine Ret.toEq ?_
  unfold F_cmp_Compare_int F_cmp_isNaN_int cmpI
  (dsimp +instances only [gi0,gis,row1,rows1,int1,str1,bool1])
  simp only [bne_self_eq_false]
  refine Ret.call ⟨_, rfl, rfl⟩ ?_
  rintro _ rfl
  refine Ret.call ⟨_, rfl, rfl⟩ ?_
  rintro _ rfl
  (dsimp +instances only [gi0,gis,row1,rows1,int1,str1,bool1])
  (repeat(first|(refine Ret.pos ?_ ?_;(first|rfl|assumption|(simp only [inI,sl]<;>omega)))|(refine Ret.neg ?_ ?_;(first|rfl|assumption|(simp only [inI,sl]<;>omega)))))
  by_cases h1 : a < b
  · (repeat(first|(refine Ret.pos ?_ ?_;(first|rfl|assumption|(simp only [inI,sl]<;>omega)))|(refine Ret.neg ?_ ?_;(first|rfl|assumption|(simp only [inI,sl]<;>omega)))))
    exact Ret.some (by simp [h1])
  · by_cases h2 : b < a
    · (repeat(first|(refine Ret.pos ?_ ?_;(first|rfl|assumption|(simp only [inI,sl]<;>omega)))|(refine Ret.neg ?_ ?_;(first|rfl|assumption|(simp only [inI,sl]<;>omega)))))
      exact Ret.some (by simp [h1, h2])
    · (repeat(first|(refine Ret.pos ?_ ?_;(first|rfl|assumption|(simp only [inI,sl]<;>omega)))|(refine Ret.neg ?_ ?_;(first|rfl|assumption|(simp only [inI,sl]<;>omega)))))
      exact Ret.some (by simp [h1, h2])
def orL : List (List G) → Int
  | [] => 0
  | x :: q => if (gi x 0).int ≠ 0 then (gi x 0).int else orL q
theorem or_runs : ∀ (q p : List (List G)), p.length + q.length < 100000 →
    RetN st_cmp_Or_int_3 [.i 0, .l (p ++ q), .i ((p.length + q.length : Nat) : Int), .i (p.length : Int)] (q.length + 1) fun c g => c ≤ 1 ∧ g = [.i (orL q)]
  | [], p, hl => by
    refine RetN.stop (x := 1) (Ret.toEq ?_) ⟨by omega, rfl⟩
    unfold st_cmp_Or_int_3
    (dsimp +instances only [gi0,gis,row1,rows1,int1,str1,bool1])
    (repeat(first|(refine Ret.pos ?_ ?_;(first|rfl|assumption|(simp only [inI,sl]<;>omega)))|(refine Ret.neg ?_ ?_;(first|rfl|assumption|(simp only [inI,sl]<;>omega)))))
    exact Ret.some rfl
  | y :: q, p, hl => by
    simp only [List.length_cons] at hl
    have g1 : (p ++ y :: q).getD (p.length : Int).toNat [] = y := getD_mid _ _ _ _ _ (by simp)
    have hlen : (p ++ y :: q).length = p.length + q.length + 1 := by simp; omega
    by_cases he : (gi y 0).int = 0
    · have ih := or_runs q (p ++ [y]) (by simp; omega)
      have e : orL (y :: q) = orL q := by simp [orL, he]
      rw [e]
      refine RetN.next (Ret.toEq ?_) ih
      unfold st_cmp_Or_int_3
      (dsimp +instances only [gi0,gis,row1,rows1,int1,str1,bool1])
      simp only [g1, hlen, List.length_cons]
      (repeat(first|(refine Ret.pos ?_ ?_;(first|rfl|assumption|(simp only [inI,sl]<;>omega)))|(refine Ret.neg ?_ ?_;(first|rfl|assumption|(simp only [inI,sl]<;>omega)))))
      refine Ret.some ?_
      simp
      omega
    · refine RetN.stop (x := 0) (Ret.toEq ?_) ⟨by omega, rfl⟩
      unfold st_cmp_Or_int_3
      (dsimp +instances only [gi0,gis,row1,rows1,int1,str1,bool1])
      simp only [g1, hlen, List.length_cons]
      (repeat(first|(refine Ret.pos ?_ ?_;(first|rfl|assumption|(simp only [inI,sl]<;>omega)))|(refine Ret.neg ?_ ?_;(first|rfl|assumption|(simp only [inI,sl]<;>omega)))))
      refine Ret.some ?_
      simp [orL, he]
end
end Go.Proofs.SYtkdippipiidcmaaGreatDoor

namespace Go.Proofs.SYtkdippipiidcmaaGreatDoor
open Go Go.AL Go.Proofs
noncomputable section
def inB (v lo hi : Int) : Bool := leI lo v && leI v hi
theorem in_eq (v lo hi : Int) : F_pileref2_in [.i v, .i lo, .i hi] = some [.t (inB v lo hi)] := by
  unfold F_pileref2_in inB
  (dsimp +instances only [gi0,gis,row1,rows1,int1,str1,bool1])
  cases leI lo v <;> rfl
theorem outside_eq (v lo hi : Int) : F_kit_Outside [.i v, .i lo, .i hi] = some [.t (!inB v lo hi)] := by
  unfold F_kit_Outside inB
  (dsimp +instances only [gi0,gis,row1,rows1,int1,str1,bool1])
  have h1 : ltI v lo = !leI lo v := by rw [ltI_eq, leI_eq, Bool.eq_iff_iff]; simp
  have h2 : ltI hi v = !leI v hi := by rw [ltI_eq, leI_eq, Bool.eq_iff_iff]; simp
  rw [h1, h2]
  cases leI lo v <;> cases leI v hi <;> rfl
def okKey (s : ByteArray) : Bool := inL [⟨#[98, 50, 48]⟩, ⟨#[98, 52, 48]⟩, ⟨#[102, 105, 110]⟩, ⟨#[117, 115, 97]⟩] s
def okName (s : ByteArray) : Bool := inL [⟨#[]⟩] s || okKey s
def okCall (s : ByteArray) : Bool := (gi ((F_call_Is [.s s]).getD []) 0).bool
theorem isKey_eq {s : ByteArray} (h : s ∈ bands ∨ s ∈ names) : F_kit_IsKey [.s s] = some [.t (okKey s)] := by
  simp only [bands, names, List.mem_cons, List.not_mem_nil, or_false] at h
  rcases h with (rfl | rfl | rfl | rfl) | (rfl | rfl | rfl | rfl | rfl) <;> kernel_rfl
theorem key_eq {s : ByteArray} (h : s ∈ bands ∨ s ∈ names) : F_pileref2_Key [.s s] = some [.t (okKey s)] := by
  simp only [bands, names, List.mem_cons, List.not_mem_nil, or_false] at h
  rcases h with (rfl | rfl | rfl | rfl) | (rfl | rfl | rfl | rfl | rfl) <;> kernel_rfl
theorem isName_eq {s : ByteArray} (h : s ∈ names) : F_kit_IsName [.s s] = some [.t (okName s)] := by
  simp only [names, List.mem_cons, List.not_mem_nil, or_false] at h
  rcases h with (rfl | rfl | rfl | rfl | rfl) <;> kernel_rfl
theorem isCall_eq {s : ByteArray} (h : s ∈ calls) : F_call_Is [.s s] = some [.t (okCall s)] := by
  simp only [calls, List.mem_cons, List.not_mem_nil, or_false] at h
  rcases h with (rfl | rfl | rfl | rfl | rfl | rfl | rfl | rfl | rfl | rfl | rfl | rfl | rfl | rfl) <;> kernel_rfl
theorem call_eq {s : ByteArray} (h : s ∈ calls) : F_pileref2_Call [.s s] = some [.t (okCall s)] := by
  simp only [calls, List.mem_cons, List.not_mem_nil, or_false] at h
  rcases h with (rfl | rfl | rfl | rfl | rfl | rfl | rfl | rfl | rfl | rfl | rfl | rfl | rfl | rfl) <;> kernel_rfl
def faultC (r : List G) : Int :=
  bif !inB (gi r 0).int 0 345686399999 then 1 else bif !inB (gi r 1).int 1 3 then 4 else bif !okKey (gi r 2).str then 5 else bif !okCall (gi r 3).str then 3 else
  bif !inB (gi r 4).int 0 99999 then 1 else bif !inB (gi r 5).int 0 99999 then 1 else bif !okName (gi r 6).str then 5 else bif !okName (gi r 7).str then 5 else 0
theorem check_eq {r : List G} (hr : Con r) : F_log_CheckContact [.l [r]] = some [.i (faultC r)] := by
  obtain ⟨t, m, b, c, s, h, x, y, rfl, _, _, _, _, hb, hc, hx, hy⟩ := hr
  unfold F_log_CheckContact F_kit_IsMoment F_kit_IsMode faultC
  (dsimp +instances only [gi0,gis,row1,rows1,int1,str1,bool1])
  have kb := isKey_eq (.inl hb)
  have kx := isName_eq hx
  have ky := isName_eq hy
  have kc := isCall_eq hc
  rw [outside_eq t, outside_eq m]
  rw [kb, kc, outside_eq s, outside_eq h, kx, ky]
  generalize inB t 0 345686399999 = b1
  generalize inB m 1 3 = b2
  generalize okKey b = b3
  generalize okCall c = b4
  generalize inB s 0 99999 = b5
  generalize inB h 0 99999 = b6
  generalize okName x = b7
  generalize okName y = b8
  cases b1 <;> cases b2 <;> cases b3 <;> cases b4 <;> cases b5 <;> cases b6 <;> cases b7 <;> cases b8 <;> rfl
theorem empty_eq (s : ByteArray) : (s.toList == (⟨#[]⟩ : ByteArray).toList) = inL [⟨#[]⟩] s := by
  rw [ByteArray.toList_eq, ByteArray.toList_eq]
  simp only [inL, eqS, List.any_cons, List.any_nil, Bool.or_false]
  rw [Bool.eq_iff_iff]
  simp only [beq_iff_eq]
  exact eq_comm
theorem fault_eq {r : List G} (hr : Con r) : F_pileref2_ContactFault [.l [r]] = some [.i (faultC r)] := by
  obtain ⟨t, m, b, c, s, h, x, y, rfl, _, _, _, _, hb, hc, hx, hy⟩ := hr
  unfold F_pileref2_ContactFault F_pileref2_Moment faultC okName
  (dsimp +instances only [gi0,gis,row1,rows1,int1,str1,bool1])
  have kb := key_eq (.inl hb)
  have kx := key_eq (.inr hx)
  have ky := key_eq (.inr hy)
  have kc := call_eq hc
  have ex := empty_eq x
  have ey := empty_eq y
  generalize (⟨#[]⟩ : ByteArray) = z at ex ey ⊢
  simp only [in_eq, callF_some rfl, kb, kc, kx, ky]
  (dsimp +instances only [gi0,gis,row1,rows1,int1,str1,bool1])
  rw [ex, ey]
  generalize inB t 0 345686399999 = b1
  generalize inB m 1 3 = b2
  generalize okKey b = b3
  generalize okCall c = b4
  generalize inB s 0 99999 = b5
  generalize inB h 0 99999 = b6
  generalize okKey x = b7
  generalize okKey y = b8
  generalize inL [z] x = b9
  generalize inL [z] y = b10
  cases b1 <;> cases b2 <;> cases b3 <;> cases b4 <;> cases b5 <;> cases b6 <;> cases b7 <;> cases b8 <;> cases b9 <;> cases b10 <;> rfl
end
end Go.Proofs.SYtkdippipiidcmaaGreatDoor

namespace Go.Proofs.SYtkdippipiidcmaaGreatDoor
open Go Go.AL Go.Proofs
noncomputable section
section
variable {C D : List G → Option (List G)} (hC : ∀ r, Con r → C [.l [r]] = some [.i (faultC r)]) (hD : ∀ r s, Con r → Con s → D [.l [r], .l [s]] = some [.i (ordC r s)])
include hC hD
end
end
end Go.Proofs.SYtkdippipiidcmaaGreatDoor

namespace Go.Proofs.SYtkdippipiidcmaaGreatDoor
open Go Go.AL Go.Proofs
noncomputable section
end
end Go.Proofs.SYtkdippipiidcmaaGreatDoor

namespace Go.Proofs.SYtkdippipiidcmaaGreatDoor
open Go Go.AL Go.Proofs
noncomputable section
theorem bytes_flip' : ∀ a b : List UInt8, Lib.compareBytes b a = - Lib.compareBytes a b
  | [], [] => rfl
  | [], _ :: _ => rfl
  | _ :: _, [] => rfl
  | a :: xs, b :: ys => by
    simp only [Lib.compareBytes]
    have ih := bytes_flip' xs ys
    by_cases h1 : a < b
    · have h2 : ¬ b < a := fun h => UInt8.lt_irrefl a (UInt8.lt_trans h1 h)
      simp [h1, h2]
    · by_cases h2 : b < a
      · simp [h1, h2]
      · simp [h1, h2, ih]
theorem bytes_lt_trans' : ∀ {a b c : List UInt8}, Lib.compareBytes a b < 0 → Lib.compareBytes b c < 0 → Lib.compareBytes a c < 0
  | [], [], _, h, _ => by simp [Lib.compareBytes] at h
  | [], _ :: _, [], _, h => by simp [Lib.compareBytes] at h
  | [], _ :: _, _ :: _, _, _ => by simp [Lib.compareBytes]
  | _ :: _, [], _, h, _ => by simp [Lib.compareBytes] at h
  | _ :: _, _ :: _, [], _, h => by simp [Lib.compareBytes] at h
  | a :: xs, b :: ys, c :: zs, h1, h2 => by
    simp only [Lib.compareBytes] at h1 h2 ⊢
    by_cases hab : a < b
    · by_cases hbc : b < c
      · rw [if_pos (UInt8.lt_trans hab hbc)]
        omega
      · by_cases hcb : c < b
        · rw [if_neg hbc, if_pos hcb] at h2
          omega
        · have e : b = c := UInt8.le_antisymm (UInt8.not_lt.1 hcb) (UInt8.not_lt.1 hbc)
          subst e
          rw [if_pos hab]
          omega
    · by_cases hba : b < a
      · rw [if_neg hab, if_pos hba] at h1
        omega
      · have e : a = b := UInt8.le_antisymm (UInt8.not_lt.1 hba) (UInt8.not_lt.1 hab)
        subst e
        rw [if_neg (UInt8.lt_irrefl a), if_neg (UInt8.lt_irrefl a)] at h1
        by_cases hac : a < c
        · rw [if_pos hac]
          omega
        · by_cases hca : c < a
          · rw [if_neg hac, if_pos hca] at h2
            omega
          · rw [if_neg hac, if_neg hca] at h2 ⊢
            exact bytes_lt_trans' h1 h2
theorem str_ext {a b : ByteArray} (h : (a.toList == b.toList) = true) : a = b := by
  rw [ByteArray.toList_eq, ByteArray.toList_eq, beq_iff_eq] at h
  exact ByteArray.ext (Array.toList_inj.1 h)
theorem cmpS_z {a b : ByteArray} : cmpS a b = 0 ↔ a = b := by
  have h := str_eq a b
  constructor
  · intro e
    rw [decide_eq_true (p := cmpS a b = 0) e] at h
    exact str_ext h
  · rintro rfl
    have h2 : (a.toList == a.toList) = true := by simp
    rw [h2] at h
    exact of_decide_eq_true h.symm
theorem cmpI_z {a b : Int} : cmpI a b = 0 ↔ a = b := by
  unfold cmpI
  constructor
  · intro h
    split at h
    · omega
    · split at h <;> omega
  · rintro rfl
    simp
theorem cmpI_lt {a b : Int} : cmpI a b < 0 ↔ a < b := by
  unfold cmpI
  constructor
  · intro h
    split at h
    · assumption
    · split at h <;> omega
  · intro h
    rw [if_pos h]
    omega
structure Ordr {α : Type} (c : α → α → Int) : Prop where
  flip : ∀ a b, c b a = - c a b
  eq : ∀ a b, c a b = 0 → a = b
  tr : ∀ a b d, c a b < 0 → c b d < 0 → c a d < 0
theorem ordrI : Ordr cmpI := ⟨fun a b => by unfold cmpI; split <;> split <;> first | omega | (split <;> omega) | skip, fun a b h => cmpI_z.1 h, fun a b d h1 h2 => cmpI_lt.2 (Int.lt_trans (cmpI_lt.1 h1) (cmpI_lt.1 h2))⟩
theorem ordrS : Ordr cmpS := ⟨fun a b => bytes_flip' _ _, fun a b h => cmpS_z.1 h, fun a b d h1 h2 => bytes_lt_trans' h1 h2⟩
theorem Ordr.le {α : Type} {c : α → α → Int} (h : Ordr c) (a b d : α) (h1 : c a b ≤ 0) (h2 : c b d ≤ 0) : c a d ≤ 0 := by
  by_cases e1 : c a b = 0
  · rw [h.eq a b e1]
    exact h2
  · by_cases e2 : c b d = 0
    · rw [← h.eq b d e2]
      exact h1
    · have := h.tr a b d (by omega) (by omega)
      omega
theorem Ordr.refl {α : Type} {c : α → α → Int} (h : Ordr c) (a : α) : c a a = 0 := by
  have := h.flip a a
  omega
def or2 (a b : Int) : Int := if a ≠ 0 then a else b
theorem or2_le {α : Type} {c : α → α → Int} (h : Ordr c) (a b d : α) (x y z : Int) (h1 : or2 (c a b) x ≤ 0) (h2 : or2 (c b d) y ≤ 0) (h3 : x ≤ 0 → y ≤ 0 → z ≤ 0) : or2 (c a d) z ≤ 0 := by
  unfold or2 at *
  by_cases e1 : c a b = 0
  · have e := h.eq a b e1
    subst e
    rw [if_neg (by simpa using e1)] at h1
    by_cases e2 : c a d = 0
    · rw [if_neg (by simpa using e2)] at h2 ⊢
      exact h3 h1 h2
    · rw [if_pos e2] at h2 ⊢
      exact h2
  · rw [if_pos e1] at h1
    by_cases e2 : c b d = 0
    · have e := h.eq b d e2
      subst e
      rw [if_pos e1]
      exact h1
    · rw [if_pos e2] at h2
      have := h.tr a b d (by omega) (by omega)
      rw [if_pos (by omega)]
      omega
theorem or2_flip {a b a' b' : Int} (h1 : a' = - a) (h2 : b' = - b) : or2 a' b' = - or2 a b := by
  unfold or2
  subst h1 h2
  by_cases e : a = 0
  · subst e
    simp
  · rw [if_pos e, if_pos (by omega)]
theorem lin_of {c : List G → List G → Int} (hf : ∀ a b, c b a = - c a b) (ht : ∀ a b d, c a b ≤ 0 → c b d ≤ 0 → c a d ≤ 0) : Lin (ltC c) (fun _ => True) := by
  have lt : ∀ r s, ltC c r s = decide (c r s < 0) := fun r s => by unfold ltC; rw [ltI_eq]
  refine ⟨fun a b d _ _ _ h1 h2 => ?_, fun a b _ _ h => ?_⟩
  · rw [lt, decide_eq_false_iff_not] at *
    have := ht d b a (by have := hf d b; omega) (by have := hf b a; omega)
    have := hf a d
    omega
  · rw [lt, decide_eq_true_eq] at h
    rw [lt, decide_eq_false_iff_not]
    have := hf a b
    omega
/-! ### Lists that are checked row by row -/
end
end Go.Proofs.SYtkdippipiidcmaaGreatDoor

namespace Go.Proofs.SYtkdippipiidcmaaGreatDoor
open Go Go.AL Go.Proofs
noncomputable section
def cats : List ByteArray := [⟨#[97, 108, 108]⟩, ⟨#[99, 111, 100, 101]⟩, ⟨#[65]⟩]
def locs : List ByteArray := [⟨#[]⟩, ⟨#[107, 112, 50, 48, 108, 102]⟩, ⟨#[107, 112, 50, 48]⟩]
def Ent (r : List G) : Prop := ∃ (c k : ByteArray) (p : Int) (q : ByteArray), r = [.s c, .s k, .i p, .s q] ∧ c ∈ calls ∧ k ∈ cats ∧ -1099511627776 ≤ p ∧ p ≤ 1099511627776 ∧ q ∈ locs
theorem Ent.eta {r : List G} (h : Ent r) : gEta [.str, .str, .int .i64, .str] r = r := by
  obtain ⟨c, k, p, q, rfl, _⟩ := h
  rfl
def two : List (List G) := [[.s (⟨#[97, 108, 108]⟩ : ByteArray)], [.s (⟨#[99, 111, 100, 101]⟩ : ByteArray)]]
/-! ### What is wrong with entrants -/
end
end Go.Proofs.SYtkdippipiidcmaaGreatDoor

namespace Go.Proofs.SYtkdippipiidcmaaGreatDoor
open Go Go.AL Go.Proofs
noncomputable section
def b40 (n : Int) : Prop := -1099511627776 ≤ n ∧ n ≤ 1099511627776
def classes : List ByteArray := [⟨#[102, 117, 108, 108]⟩, ⟨#[115, 109, 97, 108, 108]⟩, ⟨#[]⟩, ⟨#[65]⟩, ⟨#[110, 111, 110, 101]⟩]
def Mod (r : List G) : Prop := ∃ m : Int, r = [.i m] ∧ 0 ≤ m ∧ m ≤ 4
def Seg (r : List G) : Prop := ∃ (c : ByteArray) (lo hi : Int) (ms : List (List G)) (f t : Int), r = [.s c, .i lo, .i hi, .l ms, .i f, .i t] ∧ c ∈ classes ∧ b40 lo ∧ b40 hi ∧ (∀ z ∈ ms, Mod z) ∧ ms.length ≤ 4 ∧ b40 f ∧ b40 t
theorem Seg.eta {r : List G} (h : Seg r) : gEta KSegment r = r := by
  obtain ⟨c, lo, hi, ms, f, t, rfl, _⟩ := h
  rfl
/-! ### How the stream compares -/
end
end Go.Proofs.SYtkdippipiidcmaaGreatDoor

namespace Go.Proofs.SYtkdippipiidcmaaGreatDoor
open Go Go.AL Go.Proofs
noncomputable section
def sitesL : List ByteArray := [⟨#[]⟩, ⟨#[115, 97]⟩, ⟨#[115, 98]⟩, ⟨#[115, 99]⟩]
def dRow (si : ByteArray) (no at_ kd t m : Int) (b c : ByteArray) (s h : Int) (x y bd of_ : ByteArray) (ot : Int) : List G :=
  [.s si, .i no, .i at_, .i kd, .i t, .i m, .s b, .s c, .i s, .i h, .s x, .s y, .s bd, .s of_, .i ot]
def DedP (si : ByteArray) (no at_ kd t m : Int) (b c : ByteArray) (s h : Int) (x y bd of_ : ByteArray) (ot : Int) : Prop :=
  si ∈ sitesL ∧ small no ∧ small at_ ∧ small kd ∧ (small t ∧ small m ∧ b ∈ bands ∧ c ∈ calls ∧ small s ∧ small h ∧ x ∈ names ∧ y ∈ names) ∧ bd ∈ bands ∧ of_ ∈ sitesL ∧ small ot
def Ded (r : List G) : Prop := ∃ si no at_ kd t m b c s h x y bd of_ ot, r = dRow si no at_ kd t m b c s h x y bd of_ ot ∧ DedP si no at_ kd t m b c s h x y bd of_ ot
theorem Ded.eta {r : List G} (h : Ded r) : gEta KDeed r = r := by
  obtain ⟨_, _, _, _, _, _, _, _, _, _, _, _, _, _, _, rfl, _⟩ := h
  rfl
theorem kdsDeed : Kds KDeed Ded := ⟨fun _ h => h.eta⟩
section
variable {l out mm : List (List G)} {a no at_ kd t m s h ot u v w : Int} {ck : Nat} {si b c x y bd of_ : ByteArray}
theorem deed_add (hn : out.length ≤ 1000) :
    tl_pilemake_Stream_Deeds_28 [.l l, .i a, .l out, .l mm, .i (ck : Int), .s si, .i no, .i at_, .i kd, .i t, .i m, .s b, .s c, .i s, .i h, .s x, .s y, .s bd, .s of_, .i ot, .i u, .i v, .i w] =
      some (some 0, [.l l, .i a, .l (out ++ [dRow si no at_ kd t m b c s h x y bd of_ ot]), .l mm, .i (ck : Int), .i u, .i v, .i w]) := by
  refine Ret.toEq ?_
  unfold tl_pilemake_Stream_Deeds_28
  (dsimp +instances only [gi0,gis,row1,rows1,int1,str1,bool1])
  simp only [Int.toNat_natCast]
  (repeat(first|(refine Ret.pos ?_ ?_;(first|rfl|assumption|(simp only [inI,sl]<;>omega)))|(refine Ret.neg ?_ ?_;(first|rfl|assumption|(simp only [inI,sl]<;>omega)))))
  exact Ret.some rfl
theorem small_odd {n : Int} (h : -1099511627776 ≤ n ∧ (n ≤ 1000000001 ∨ n = 1099511627776)) : small n := by
  unfold small
  omega
theorem deed_end (ha : 0 ≤ a) (ha1 : a ≤ 800000) (hn : out.length ≤ 1000) (hd : DedP si no at_ kd t m b c s h x y bd of_ ot) :
    Ret (tl_pilemake_Stream_Deeds_19 [.l l, .i a, .l out, .l mm, .i (ck : Int), .s si, .i no, .i at_, .i kd, .i t, .i m, .s b, .s c, .i s, .i h, .s x, .s y, .s bd, .s of_, .i ot, .i u, .i v, .i w]) fun o =>
      ∃ k, o.1 = some k ∧ ∃ a' r, o.2 = [.l l, .i a', .l (out ++ [r]), .l mm, .i (ck : Int), .i u, .i v, .i w] ∧ a ≤ a' ∧ a' ≤ a + 20 ∧ Ded r ∧ (gi r 2).int = at_ := by
  obtain ⟨d1, d2, d3, d4, d5, d6, d7, d8⟩ := hd
  have fin : ∀ (a' : Int) (si : ByteArray) (no kd s : Int) (bd of_ : ByteArray) (ot : Int), a ≤ a' → a' ≤ a + 20 → DedP si no at_ kd t m b c s h x y bd of_ ot →
      Ret (loopB ((Nat.beq out.length out.length) && true) (cutR (tl_pilemake_Stream_Deeds_28 [.l l, .i a', .l out, .l mm, .i (ck : Int), .s si, .i no, .i at_, .i kd, .i t, .i m, .s b, .s c, .i s, .i h, .s x, .s y, .s bd, .s of_, .i ot, .i u, .i v, .i w])) fun cg10 g10 =>
        (bif ((Nat.beq (gi g10 2).rows.length (gi g10 2).rows.length) && true) then (some (some 0, [G.l (gi g10 0).rows, G.i (gi g10 1).int, G.l (gi g10 2).rows, G.l (gi g10 3).rows, G.i (((gi g10 4).int.toNat : Nat) : Int), G.i (gi g10 5).int, G.i (gi g10 6).int, G.i (gi g10 7).int]) : Option (Option Nat × List G)) else none)) fun o =>
      ∃ k, o.1 = some k ∧ ∃ a' r, o.2 = [.l l, .i a', .l (out ++ [r]), .l mm, .i (ck : Int), .i u, .i v, .i w] ∧ a ≤ a' ∧ a' ≤ a + 20 ∧ Ded r ∧ (gi r 2).int = at_ := by
    intro a' si no kd s bd of_ ot h1 h2 hd
    refine Ret.tail (P := fun _ g => g = [.l l, .i a', .l (out ++ [dRow si no at_ kd t m b c s h x y bd of_ ot]), .l mm, .i (ck : Int), .i u, .i v, .i w]) ⟨_, deed_add hn, 0, rfl, rfl⟩ (by simp) ?_
    rintro _ _ rfl
    (dsimp +instances only [gi0,gis,row1,rows1,int1,str1,bool1])
    simp only [Int.toNat_natCast]
    refine Ret.pos (by simp) (Ret.some ⟨0, rfl, a', _, rfl, h1, h2, ⟨_, _, _, _, _, _, _, _, _, _, _, _, _, _, _, rfl, hd⟩, rfl⟩)
  unfold tl_pilemake_Stream_Deeds_19
  (dsimp +instances only [gi0,gis,row1,rows1,int1,str1,bool1])
  simp only [Int.toNat_natCast]
  refine Ret.call (r_Flip l a 100 ha (by omega) (by omega) (by omega)) ?_
  rintro _ ⟨f, rfl⟩
  (dsimp +instances only [gi0,gis,row1,rows1,int1,str1,bool1])
  refine Ret.test (fun _ => ?_) fun _ => fin (a + 1) _ _ _ _ _ _ _ (by omega) (by omega) ⟨d1, d2, d3, d4, d5, d6, d7, d8⟩
  refine Ret.call (r_Next l _ 4 (by omega) (by omega) (by omega) (by omega)) ?_
  rintro _ ⟨n, rfl, hn0, hn1⟩
  (dsimp +instances only [gi0,gis,row1,rows1,int1,str1,bool1])
  refine Ret.test (fun _ => ?_) fun _ => Ret.test (fun _ => ?_) fun _ => Ret.test (fun _ => ?_) fun _ => ?_
  · refine Ret.call (r_SomeB sitesL l _ _ (by omega) (by omega) (by kernel_rfl) (by kernel_rfl)) ?_
    rintro _ ⟨si', rfl, hsi⟩
    (dsimp +instances only [gi0,gis,row1,rows1,int1,str1,bool1])
    refine Ret.call (r_Odd l _ 1 9 (by omega) (by omega) (by omega) (by omega) (by omega)) ?_
    rintro _ ⟨no', rfl, hno⟩
    (dsimp +instances only [gi0,gis,row1,rows1,int1,str1,bool1])
    exact fin (a + 1 + 1 + 1 + 2) _ _ _ _ _ _ _ (by omega) (by omega) ⟨hsi, small_odd hno, d3, d4, d5, d6, d7, d8⟩
  · refine Ret.call (r_Odd l _ 1 5 (by omega) (by omega) (by omega) (by omega) (by omega)) ?_
    rintro _ ⟨kd', rfl, hkd⟩
    (dsimp +instances only [gi0,gis,row1,rows1,int1,str1,bool1])
    exact fin (a + 1 + 1 + 2) _ _ _ _ _ _ _ (by omega) (by omega) ⟨d1, d2, d3, small_odd hkd, d5, d6, d7, d8⟩
  · refine Ret.call (r_SomeB bands l _ _ (by omega) (by omega) (by kernel_rfl) (by kernel_rfl)) ?_
    rintro _ ⟨bd', rfl, hbd⟩
    (dsimp +instances only [gi0,gis,row1,rows1,int1,str1,bool1])
    refine Ret.call (r_SomeB sitesL l _ _ (by omega) (by omega) (by kernel_rfl) (by kernel_rfl)) ?_
    rintro _ ⟨of', rfl, hof⟩
    (dsimp +instances only [gi0,gis,row1,rows1,int1,str1,bool1])
    exact fin (a + 1 + 1 + 1 + 1) _ _ _ _ _ _ _ (by omega) (by omega) ⟨d1, d2, d3, d4, d5, hbd, hof, d8⟩
  · refine Ret.call (r_Odd l _ 1 99999 (by omega) (by omega) (by omega) (by omega) (by omega)) ?_
    rintro _ ⟨s', rfl, hs⟩
    (dsimp +instances only [gi0,gis,row1,rows1,int1,str1,bool1])
    refine Ret.call (r_Odd l _ 0 5 (by omega) (by omega) (by omega) (by omega) (by omega)) ?_
    rintro _ ⟨ot', rfl, hot⟩
    (dsimp +instances only [gi0,gis,row1,rows1,int1,str1,bool1])
    exact fin (a + 1 + 1 + 2 + 2) _ _ _ _ _ _ _ (by omega) (by omega) ⟨d1, d2, d3, d4, ⟨d5.1, d5.2.1, d5.2.2.1, d5.2.2.2.1, small_odd hs, d5.2.2.2.2.2⟩, d6, d7, small_odd hot⟩
end
end
end Go.Proofs.SYtkdippipiidcmaaGreatDoor

namespace Go.Proofs.SYtkdippipiidcmaaGreatDoor
open Go Go.AL Go.Proofs
noncomputable section
def NoOK (mm : List (List G)) (i : Int) : Prop := ∀ k, 0 ≤ (gi (mget [Kd.str] mm k [.i 0]) 0).int ∧ (gi (mget [Kd.str] mm k [.i 0]) 0).int ≤ i
theorem NoOK.nil : NoOK [] 0 := fun k => by
  rw [mget_nil]
  simp [gi, G.int]
theorem NoOK.put {mm : List (List G)} {i v : Int} (h : NoOK mm i) (k : List G) (h0 : 0 ≤ v) (h1 : v ≤ i + 1) (c : Nat) : NoOK (mput [Kd.str] mm k [.i v] c) (i + 1) := fun x => by
  rw [mget_mput]
  cases rowEq [Kd.str] x k with
  | true => exact ⟨h0, h1⟩
  | false =>
    have := h x
    simp only [cond_false]
    omega
theorem deed_other (l out mm : List (List G)) (a no at_ kd t m s h ot u v w i : Int) (ck : Nat) (si b c x y bd of_ : ByteArray) (f : Bool) (ha : 0 ≤ a) (ha1 : a ≤ 800000) (hi0 : 0 ≤ i) (hi : i ≤ 1000) (hM : NoOK mm i) (hd : DedP si no at_ kd t m b c s h x y bd of_ ot) :
    Ret (tl_pilemake_Stream_Deeds_18 [.l l, .i a, .l out, .l mm, .i (ck : Int), .s si, .i no, .i at_, .i kd, .i t, .i m, .s b, .s c, .i s, .i h, .s x, .s y, .s bd, .s of_, .i ot, .i u, .i v, .i w, .t f]) fun o =>
      ∃ k, o.1 = some k ∧ ∃ a' s' of' ot', o.2 = [.l l, .i a', .l out, .l mm, .i (ck : Int), .s si, .i no, .i at_, .i kd, .i t, .i m, .s b, .s c, .i s', .i h, .s x, .s y, .s bd, .s of', .i ot', .i u, .i v, .i w] ∧ a ≤ a' ∧ a' ≤ a + 5 ∧ DedP si no at_ kd t m b c s' h x y bd of' ot' := by
  obtain ⟨d1, d2, d3, d4, d5, d6, d7, d8⟩ := hd
  have hsa := hM [.s (⟨#[115, 97]⟩ : ByteArray)]
  unfold tl_pilemake_Stream_Deeds_18
  (dsimp +instances only [gi0,gis,row1,rows1,int1,str1,bool1])
  simp only [Int.toNat_natCast]
  cases f with
  | true =>
    refine Ret.pos rfl ?_
    refine Ret.call (r_Range l a 1 7 ha (by omega) (by omega) (by omega) (by omega)) ?_
    rintro _ ⟨s', rfl, hs0, hs1⟩
    (dsimp +instances only [gi0,gis,row1,rows1,int1,str1,bool1])
    refine Ret.pos (by simp) (Ret.some ⟨0, rfl, a + 1, s', of_, ot, rfl, by omega, by omega, ⟨d1, d2, d3, d4, ⟨d5.1, d5.2.1, d5.2.2.1, d5.2.2.2.1, by unfold small; omega, d5.2.2.2.2.2⟩, d6, d7, d8⟩⟩)
  | false =>
    refine Ret.neg rfl ?_
    refine Ret.call (r_SomeB sitesL l _ _ ha (by omega) (by kernel_rfl) (by kernel_rfl)) ?_
    rintro _ ⟨of', rfl, hof⟩
    (dsimp +instances only [gi0,gis,row1,rows1,int1,str1,bool1])
    refine Ret.call (r_Range l _ 1 _ (by omega) (by omega) (by split <;> omega) (by omega) (by split <;> omega)) ?_
    rintro _ ⟨ot', rfl, hot0, hot1⟩
    (dsimp +instances only [gi0,gis,row1,rows1,int1,str1,bool1])
    have hot2 : ot' ≤ 1001 := by
      revert hot1
      split <;> intro _ <;> omega
    refine Ret.pos (by simp) (Ret.some ⟨0, rfl, a + 1 + 1, s, of', ot', rfl, by omega, by omega, ⟨d1, d2, d3, d4, d5, d6, hof, by unfold small; omega⟩⟩)
theorem empties : (⟨#[]⟩ : ByteArray) ∈ bands ∧ (⟨#[]⟩ : ByteArray) ∈ calls ∧ (⟨#[]⟩ : ByteArray) ∈ names ∧ (⟨#[]⟩ : ByteArray) ∈ sitesL := by
  refine ⟨?_, ?_, ?_, ?_⟩ <;> simp [bands, calls, names, sitesL]
theorem small0 : small 0 := by unfold small; omega
theorem deed_step (l out mm : List (List G)) (a at_ : Int) (ck n i : Nat) (ha : 0 ≤ a) (ha1 : a ≤ 700000) (hn : n ≤ 20) (hi : i < n) (ho : out.length ≤ 100) (ht0 : 0 ≤ at_) (ht1 : at_ ≤ 5 * (i : Int)) (hM : NoOK mm i) :
    Ret (st_pilemake_Stream_Deeds_5 [.l l, .i a, .l out, .l mm, .i (ck : Int), .i at_, .i (n : Int), .i (i : Int)]) fun o => ∃ a' r mm' ck' v, o = (none, [.l l, .i a', .l (out ++ [r]), .l mm', .i ((ck' : Nat) : Int), .i (at_ + v), .i (n : Int), .i ((i : Int) + 1)]) ∧ a ≤ a' ∧ a' ≤ a + 100 ∧ Ded r ∧ (gi r 2).int = at_ + v ∧ 0 ≤ v ∧ v ≤ 5 ∧ NoOK mm' ((i : Int) + 1) := by
  unfold st_pilemake_Stream_Deeds_5
  (dsimp +instances only [gi0,gis,row1,rows1,int1,str1,bool1])
  simp only [Int.toNat_natCast]
  refine Ret.pos (by (first|rfl|assumption|(simp only [inI,sl]<;>omega))) ?_
  refine Ret.call (r_PickB 0 5 l a _ ha (by omega) (by kernel_rfl) (by kernel_rfl)) ?_
  rintro _ ⟨v, rfl, hv0, hv1⟩
  (dsimp +instances only [gi0,gis,row1,rows1,int1,str1,bool1])
  refine Ret.pos (by (first|rfl|assumption|(simp only [inI,sl]<;>omega))) ?_
  refine Ret.call (r_SomeB sitesL l _ _ (by omega) (by omega) (by kernel_rfl) (by kernel_rfl)) ?_
  rintro _ ⟨si, rfl, hsi⟩
  (dsimp +instances only [gi0,gis,row1,rows1,int1,str1,bool1])
  refine Ret.call (r_PickB 1 5 l _ _ (by omega) (by omega) (by kernel_rfl) (by kernel_rfl)) ?_
  rintro _ ⟨kd, rfl, hk0, hk1⟩
  (dsimp +instances only [gi0,gis,row1,rows1,int1,str1,bool1])
  have hs := hM [.s si]
  have hM' := hM.put [.s si] (v := (gi (mget [Kd.str] mm [.s si] [.i 0]) 0).int + 1) (by omega) (by omega) ck
  generalize hmm : mput [Kd.str] mm [.s si] [.i ((gi (mget [Kd.str] mm [.s si] [.i 0]) 0).int + 1)] ck = mm' at hM' ⊢
  generalize mclk [Kd.str] mm [.s si] ck = ck'
  have hno := hM' [.s si]
  generalize (gi (mget [Kd.str] mm' [.s si] [.i 0]) 0).int = no at hno ⊢
  have sno : small no := by unfold small; omega
  have sat : small (at_ + v) := by unfold small; omega
  have skd : small kd := by unfold small; omega
  obtain ⟨eb, ec, en, es⟩ := empties
  refine Ret.pos (by (first|rfl|assumption|(simp only [inI,sl]<;>omega))) ?_
  have fin : ∀ (a' t m s h ot : Int) (b c x y bd of_ : ByteArray), a ≤ a' → a' ≤ a + 50 → DedP si no (at_ + v) kd t m b c s h x y bd of_ ot →
      Ret (loopB ((Nat.beq out.length out.length) && true) (cutR (tl_pilemake_Stream_Deeds_19 [.l l, .i a', .l out, .l mm', .i (ck' : Int), .s si, .i no, .i (at_ + v), .i kd, .i t, .i m, .s b, .s c, .i s, .i h, .s x, .s y, .s bd, .s of_, .i ot, .i (at_ + v), .i (n : Int), .i (i : Int)])) fun cg20 g20 =>
        (bif (inI ((gi g20 7).int + 1)) then (bif ((Nat.beq (gi g20 2).rows.length (gi g20 2).rows.length) && true) then (some (none, [G.l (gi g20 0).rows, G.i (gi g20 1).int, G.l (gi g20 2).rows, G.l (gi g20 3).rows, G.i (((gi g20 4).int.toNat : Nat) : Int), G.i (gi g20 5).int, G.i (gi g20 6).int, G.i ((gi g20 7).int + 1)]) : Option (Option Nat × List G)) else none) else none)) fun o =>
      ∃ a' r mm' ck' w, o = (none, [.l l, .i a', .l (out ++ [r]), .l mm', .i ((ck' : Nat) : Int), .i (at_ + w), .i (n : Int), .i ((i : Int) + 1)]) ∧ a ≤ a' ∧ a' ≤ a + 100 ∧ Ded r ∧ (gi r 2).int = at_ + w ∧ 0 ≤ w ∧ w ≤ 5 ∧ NoOK mm' ((i : Int) + 1) := by
    intro a' t m s h ot b c x y bd of_ h1 h2 hd
    refine Ret.tail (P := fun _ g => ∃ a2 r, g = [.l l, .i a2, .l (out ++ [r]), .l mm', .i (ck' : Int), .i (at_ + v), .i (n : Int), .i (i : Int)] ∧ a' ≤ a2 ∧ a2 ≤ a' + 20 ∧ Ded r ∧ (gi r 2).int = at_ + v) (deed_end (by omega) (by omega) (by omega) hd) (by simp) ?_
    rintro _ _ ⟨a2, r, rfl, q1, q2, q3, q4⟩
    (dsimp +instances only [gi0,gis,row1,rows1,int1,str1,bool1])
    simp only [Int.toNat_natCast]
    refine Ret.pos (by (first|rfl|assumption|(simp only [inI,sl]<;>omega))) (Ret.pos (by simp) (Ret.some ⟨a2, r, mm', ck', v, rfl, by omega, by omega, q3, q4, hv0, hv1, hM'⟩))
  refine Ret.test (fun _ => ?_) fun _ => Ret.test (fun _ => ?_) fun _ => Ret.test (fun _ => ?_) fun _ => ?_
  · refine Ret.pos (by (first|rfl|assumption|(simp only [inI,sl]<;>omega))) ?_
    refine Ret.call (r_Range l _ _ _ (by omega) (by omega) (by split <;> omega) (by split <;> omega) (by omega)) ?_
    rintro _ ⟨t, rfl, ht2, ht3⟩
    (dsimp +instances only [gi0,gis,row1,rows1,int1,str1,bool1])
    have ht4 : 0 ≤ t := by
      revert ht2
      split <;> intro _ <;> omega
    refine Ret.call (r_SomeContact l _ t (by omega) (by omega) (by unfold tightT; omega)) ?_
    rintro _ ⟨b0, r, rfl, q1, q2, q3⟩
    obtain ⟨t', m, b, c, s, h, x, y, rfl, p1, p2, p3, p4, p5, p6, p7, p8⟩ := q3.to
    (dsimp +instances only [gi0,gis,row1,rows1,int1,str1,bool1])
    exact fin b0 _ _ _ _ _ _ _ _ _ _ _ (by omega) (by omega) ⟨hsi, sno, sat, skd, ⟨p1, p2, p5, p6, p3, p4, p7, p8⟩, eb, es, small0⟩
  · refine Ret.call (r_SomeB bands l _ _ (by omega) (by omega) (by kernel_rfl) (by kernel_rfl)) ?_
    rintro _ ⟨bd, rfl, hbd⟩
    (dsimp +instances only [gi0,gis,row1,rows1,int1,str1,bool1])
    exact fin (a + 1 + 1 + 1 + 1) _ _ _ _ _ _ _ _ _ _ _ (by omega) (by omega) ⟨hsi, sno, sat, skd, ⟨small0, small0, eb, ec, small0, small0, en, en⟩, hbd, es, small0⟩
  · refine Ret.tail (P := fun _ g => ∃ a2 s' of' ot', g = [.l l, .i a2, .l out, .l mm', .i (ck' : Int), .s si, .i no, .i (at_ + v), .i kd, .i 0, .i 0, .s (⟨#[]⟩ : ByteArray), .s (⟨#[]⟩ : ByteArray), .i s', .i 0, .s (⟨#[]⟩ : ByteArray), .s (⟨#[]⟩ : ByteArray), .s (⟨#[]⟩ : ByteArray), .s of', .i ot', .i (at_ + v), .i (n : Int), .i (i : Int)] ∧
      a + 1 + 1 + 1 ≤ a2 ∧ a2 ≤ a + 1 + 1 + 1 + 5 ∧ DedP si no (at_ + v) kd 0 0 ⟨#[]⟩ ⟨#[]⟩ s' 0 ⟨#[]⟩ ⟨#[]⟩ ⟨#[]⟩ of' ot') (deed_other l out mm' _ no (at_ + v) kd 0 0 0 0 0 _ _ _ ((i : Int) + 1) ck' si _ _ _ _ _ _ _ (by omega) (by omega) (by omega) (by omega) hM' ⟨hsi, sno, sat, skd, ⟨small0, small0, eb, ec, small0, small0, en, en⟩, eb, es, small0⟩) (by simp) ?_
    rintro _ _ ⟨a2, s', of', ot', rfl, q1, q2, q3⟩
    (dsimp +instances only [gi0,gis,row1,rows1,int1,str1,bool1])
    simp only [Int.toNat_natCast]
    exact fin a2 _ _ _ _ _ _ _ _ _ _ _ (by omega) (by omega) q3
  · refine Ret.tail (P := fun _ g => ∃ a2 s' of' ot', g = [.l l, .i a2, .l out, .l mm', .i (ck' : Int), .s si, .i no, .i (at_ + v), .i kd, .i 0, .i 0, .s (⟨#[]⟩ : ByteArray), .s (⟨#[]⟩ : ByteArray), .i s', .i 0, .s (⟨#[]⟩ : ByteArray), .s (⟨#[]⟩ : ByteArray), .s (⟨#[]⟩ : ByteArray), .s of', .i ot', .i (at_ + v), .i (n : Int), .i (i : Int)] ∧
      a + 1 + 1 + 1 ≤ a2 ∧ a2 ≤ a + 1 + 1 + 1 + 5 ∧ DedP si no (at_ + v) kd 0 0 ⟨#[]⟩ ⟨#[]⟩ s' 0 ⟨#[]⟩ ⟨#[]⟩ ⟨#[]⟩ of' ot') (deed_other l out mm' _ no (at_ + v) kd 0 0 0 0 0 _ _ _ ((i : Int) + 1) ck' si _ _ _ _ _ _ _ (by omega) (by omega) (by omega) (by omega) hM' ⟨hsi, sno, sat, skd, ⟨small0, small0, eb, ec, small0, small0, en, en⟩, eb, es, small0⟩) (by simp) ?_
    rintro _ _ ⟨a2, s', of', ot', rfl, q1, q2, q3⟩
    (dsimp +instances only [gi0,gis,row1,rows1,int1,str1,bool1])
    simp only [Int.toNat_natCast]
    exact fin a2 _ _ _ _ _ _ _ _ _ _ _ (by omega) (by omega) q3
end
end Go.Proofs.SYtkdippipiidcmaaGreatDoor

namespace Go.Proofs.SYtkdippipiidcmaaGreatDoor
open Go Go.AL Go.Proofs
noncomputable section
def Dd0 (z : List G) : Prop := Ded z ∧ 0 ≤ (gi z 2).int ∧ (gi z 2).int ≤ 100
theorem loop_Deeds (l : List (List G)) (n : Nat) (hn : n ≤ 20) : ∀ (k i : Nat) (a t : Int) (ck : Nat) (acc mm : List (List G)), i + k = n → 0 ≤ a → a + 100 * (k : Int) ≤ 700000 → 0 ≤ t → t ≤ 5 * (i : Int) → (∀ z ∈ acc, Dd0 z) → acc.length = i → NoOK mm i →
    RetN st_pilemake_Stream_Deeds_5 [.l l, .i a, .l acc, .l mm, .i (ck : Int), .i t, .i (n : Int), .i (i : Int)] (k + 1) fun c g => c = 0 ∧ ∃ b rows, g = [.l l, .i b, .l rows] ∧ a ≤ b ∧ b ≤ a + 100 * k ∧ (∀ z ∈ rows, Dd0 z) ∧ rows.length = n
  | 0, i, a, t, ck, acc, mm, hi, ha, hb, ht, ht1, hQ, hl, hM => by
    refine RetN.stop (x := 0) (Ret.toEq ?_) ⟨rfl, a, acc, rfl, by omega, by omega, hQ, by omega⟩
    unfold st_pilemake_Stream_Deeds_5
    (dsimp +instances only [gi0,gis,row1,rows1,int1,str1,bool1])
    (repeat(first|(refine Ret.pos ?_ ?_;(first|rfl|assumption|(simp only [inI,sl]<;>omega)))|(refine Ret.neg ?_ ?_;(first|rfl|assumption|(simp only [inI,sl]<;>omega)))))
    exact Ret.some rfl
  | k + 1, i, a, t, ck, acc, mm, hi, ha, hb, ht, ht1, hQ, hl, hM => by
    obtain ⟨_, h, b, r, mm', ck', v, rfl, h1, h2, h3, h7, h4, h5, h6⟩ := deed_step l acc mm a t ck n i ha (by omega) hn (by omega) (by omega) ht ht1 hM
    have ih := loop_Deeds l n hn k (i + 1) b (t + v) ck' (acc ++ [r]) mm' (by omega) (by omega) (by omega) (by omega) (by omega) (by
      intro z hz
      rcases List.mem_append.1 hz with hz | hz
      · exact hQ z hz
      · simp at hz; exact hz ▸ ⟨h3, by omega, by omega⟩) (by simp [hl]) (by simpa using h6)
    refine RetN.next h (ih.mono ?_)
    rintro c g ⟨rfl, b', rows, rfl, q1, q2, q3, q4⟩
    exact ⟨rfl, b', rows, rfl, by omega, by omega, q3, q4⟩
def ordDd (r s : List G) : Int := if (gi r 2).int ≠ (gi s 2).int then cmpI (gi r 2).int (gi s 2).int else if cmpS (gi r 0).str (gi s 0).str ≠ 0 then cmpS (gi r 0).str (gi s 0).str else cmpI (gi r 1).int (gi s 1).int
theorem deedOrder_eq {r s : List G} (hr : Ded r) (hs : Ded s) : F_pileref2_DeedOrder [.l [r], .l [s]] = some [.i (ordDd r s)] := by
  obtain ⟨si, no, at_, _, _, _, _, _, _, _, _, _, _, _, _, rfl, _, hn, ha, _⟩ := hr
  obtain ⟨si', no', at', _, _, _, _, _, _, _, _, _, _, _, _, rfl, _, hn', ha', _⟩ := hs
  unfold small at *
  refine Ret.toEq ?_
  unfold F_pileref2_DeedOrder ordDd dRow
  (dsimp +instances only [gi0,gis,row1,rows1,int1,str1,bool1])
  simp only [str_eq]
  by_cases e1 : at_ = at'
  · subst e1
    by_cases e2 : cmpS si si' = 0
    · simp only [e2]
      (repeat(first|(refine Ret.pos ?_ ?_;(first|rfl|assumption|(simp only [inI,sl]<;>omega)))|(refine Ret.neg ?_ ?_;(first|rfl|assumption|(simp only [inI,sl]<;>omega)))))
      refine Ret.call (Ret.eq (sign_eq no no')) ?_
      rintro _ rfl
      (dsimp +instances only [gi0,gis,row1,rows1,int1,str1,bool1])
      exact Ret.some (by simp)
    · refine Ret.neg (by simp) (Ret.pos (by simp [e2]) ?_)
      refine Ret.call (Ret.eq (rfl : F_strings_Compare [.s si, .s si'] = some [.i (cmpS si si')])) ?_
      rintro _ rfl
      (dsimp +instances only [gi0,gis,row1,rows1,int1,str1,bool1])
      exact Ret.some (by simp [e2])
  · (repeat(first|(refine Ret.pos ?_ ?_;(first|rfl|assumption|(simp only [inI,sl]<;>omega)))|(refine Ret.neg ?_ ?_;(first|rfl|assumption|(simp only [inI,sl]<;>omega)))))
    refine Ret.call (Ret.eq (sign_eq at_ at')) ?_
    rintro _ rfl
    (dsimp +instances only [gi0,gis,row1,rows1,int1,str1,bool1])
    exact Ret.some (by simp [e1])
theorem cmpDeeds : Cmp KDeed F_pileref2_DeedOrder Ded ordDd := ⟨fun _ _ hr hs => deedOrder_eq hr hs, fun _ h => h.eta⟩
theorem sortDeeds_eq (rows : List (List G)) (hr : ∀ y ∈ rows, Ded y) (hn : rows.length ≤ 20) : F_slices_SortStableFunc_Deed [.l rows] = some [.l (sortA (ltC ordDd) rows)] := sortF_eq cmpDeeds rows hr hn
theorem r_Deeds0 (l : List (List G)) (a n : Int) (ha : 0 ≤ a) (ha1 : a ≤ 600000) (h0 : 0 ≤ n) (h1 : n ≤ 20) :
    Ret (F_pilemake_Stream_Deeds [.l l, .i a, .i n]) fun g => ∃ b rows, g = [.l l, .i b, .l rows] ∧ a ≤ b ∧ b ≤ a + 2000 ∧ (∀ z ∈ rows, Dd0 z) ∧ (rows.length : Int) ≤ n := by
  obtain ⟨n, rfl⟩ := Int.eq_ofNat_of_zero_le h0
  unfold F_pilemake_Stream_Deeds
  (dsimp +instances only [gi0,gis,row1,rows1,int1,str1,bool1])
  refine Ret.loop ((loop_Deeds l n (by omega) n 0 a 0 0 [] [] (by omega) ha (by omega) (by omega) (by omega) (by simp) rfl (by simpa using NoOK.nil)).to (by omega)) rfl ?_
  rintro c g ⟨rfl, b, rows, rfl, q1, q2, q3, q4⟩
  (dsimp +instances only [gi0,gis,row1,rows1,int1,str1,bool1])
  have hs := sortA_all (lt := ltC ordDd) q3
  have hsl := sortA_length (ltC ordDd) rows
  refine Ret.callb (Ret.eq (sortDeeds_eq rows (fun z hz => (q3 z hz).1) (by omega))) (by (first|rfl|assumption|(simp only [inI,sl]<;>omega))) ?_
  rintro _ rfl
  (dsimp +instances only [gi0,gis,row1,rows1,int1,str1,bool1])
  exact Ret.pos (by simp [hsl]) (Ret.some ⟨b, _, rfl, by omega, by omega, hs, by omega⟩)
theorem r_Deeds (l : List (List G)) (a n : Int) (ha : 0 ≤ a) (ha1 : a ≤ 600000) (h0 : 0 ≤ n) (h1 : n ≤ 20) :
    Ret (F_pilemake_Stream_Deeds [.l l, .i a, .i n]) fun g => ∃ b rows, g = [.l l, .i b, .l rows] ∧ a ≤ b ∧ b ≤ a + 2000 ∧ (∀ z ∈ rows, Ded z) ∧ (rows.length : Int) ≤ n :=
  (r_Deeds0 l a n ha ha1 h0 h1).mono fun _ ⟨b, rows, e, q1, q2, q3, q4⟩ => ⟨b, rows, e, q1, q2, fun z hz => (q3 z hz).1, q4⟩
end
end Go.Proofs.SYtkdippipiidcmaaGreatDoor

namespace Go.Proofs.SYtkdippipiidcmaaGreatDoor
open Go Go.AL Go.Proofs
noncomputable section
def okSite (s : ByteArray) : Bool := inL [⟨#[115, 97]⟩, ⟨#[115, 98]⟩, ⟨#[115, 99]⟩] s
theorem siteIsKey_eq {s : ByteArray} (h : s ∈ sitesL) : F_kit_IsKey [.s s] = some [.t (okSite s)] := by
  simp only [sitesL, List.mem_cons, List.not_mem_nil, or_false] at h
  rcases h with rfl | rfl | rfl | rfl <;> kernel_rfl
theorem siteKey_eq {s : ByteArray} (h : s ∈ sitesL) : F_pileref2_Key [.s s] = some [.t (okSite s)] := by
  simp only [sitesL, List.mem_cons, List.not_mem_nil, or_false] at h
  rcases h with rfl | rfl | rfl | rfl <;> kernel_rfl
def cOf (r : List G) : List G := [.i (gi r 4).int, .i (gi r 5).int, .s (gi r 6).str, .s (gi r 7).str, .i (gi r 8).int, .i (gi r 9).int, .s (gi r 10).str, .s (gi r 11).str]
def head4 (r : List G) : List G := [.s (gi r 0).str, .i (gi r 1).int, .i (gi r 2).int, .i (gi r 3).int]
def faultDd (r : List G) : Int :=
  bif !okSite (gi r 0).str then 5 else bif !inB (gi r 1).int 1 1000000 then 1 else bif !inB (gi r 2).int 0 345686399999 then 1 else bif !inB (gi r 3).int 1 5 then 4 else
  bif (gi r 3).int == 1 then (bif faultC (cOf r) != 0 then faultC (cOf r) else bif ltI (gi r 2).int (gi r 4).int then 1 else
    bif !rowEq KDeed r (head4 r ++ cOf r ++ [.s (⟨#[]⟩ : ByteArray), .s (⟨#[]⟩ : ByteArray), .i 0]) then 3 else 0)
  else bif (gi r 3).int == 2 then (bif !okKey (gi r 12).str then 5 else
    bif !rowEq KDeed r (head4 r ++ [.i 0, .i 0, .s (⟨#[]⟩ : ByteArray), .s (⟨#[]⟩ : ByteArray), .i 0, .i 0, .s (⟨#[]⟩ : ByteArray), .s (⟨#[]⟩ : ByteArray), .s (gi r 12).str, .s (⟨#[]⟩ : ByteArray), .i 0]) then 3 else 0)
  else bif (gi r 3).int == 5 then (bif !okSite (gi r 13).str then 5 else bif !inB (gi r 14).int 1 1000000 then 1 else
    bif !rowEq KDeed r (head4 r ++ [.i 0, .i 0, .s (⟨#[]⟩ : ByteArray), .s (⟨#[]⟩ : ByteArray), .i 0, .i 0, .s (⟨#[]⟩ : ByteArray), .s (⟨#[]⟩ : ByteArray), .s (⟨#[]⟩ : ByteArray), .s (gi r 13).str, .i (gi r 14).int]) then 3 else 0)
  else (bif !inB (gi r 8).int 1 99999 then 1 else
    bif !rowEq KDeed r (head4 r ++ [.i 0, .i 0, .s (⟨#[]⟩ : ByteArray), .s (⟨#[]⟩ : ByteArray), .i (gi r 8).int, .i 0, .s (⟨#[]⟩ : ByteArray), .s (⟨#[]⟩ : ByteArray), .s (⟨#[]⟩ : ByteArray), .s (⟨#[]⟩ : ByteArray), .i 0]) then 3 else 0)
theorem leafD (b : Bool) : (bif !b then some [G.i 3] else some [G.i 0]) = some [G.i (bif !b then 3 else 0)] := by cases b <;> rfl
theorem deedFault_eq {r : List G} (hr : Ded r) : F_pileref2_DeedFault [.l [r]] = some [.i (faultDd r)] := by
  obtain ⟨si, no, at_, kd, t, m, b, c, s, h, x, y, bd, of_, ot, rfl, d1, _, _, _, ⟨c1, c2, c3, c4, c5, c6, c7, c8⟩, d6, d7, _⟩ := hr
  have kc : F_pileref2_ContactFault [.l [[.i t, .i m, .s b, .s c, .i s, .i h, .s x, .s y]]] = some [.i (faultC [.i t, .i m, .s b, .s c, .i s, .i h, .s x, .s y])] :=
    fault_eq ⟨t, m, b, c, s, h, x, y, rfl, c1, c2, c5, c6, c3, c4, c7, c8⟩
  have k1 := siteKey_eq d1
  have k2 := siteKey_eq d7
  have k3 := key_eq (.inl d6)
  unfold F_pileref2_DeedFault F_pileref2_Moment faultDd dRow cOf head4
  (dsimp +instances only [gi0,gis,row1,rows1,int1,str1,bool1])
  simp only [in_eq, callF_some rfl, k1, k2, k3, kc]
  (dsimp +instances only [gi0,gis,row1,rows1,int1,str1,bool1])
  generalize okSite si = b1
  generalize inB no 1 1000000 = b2
  generalize inB at_ 0 345686399999 = b3
  generalize inB kd 1 5 = b4
  generalize faultC [.i t, .i m, .s b, .s c, .i s, .i h, .s x, .s y] = v
  cases b1 <;> cases b2 <;> cases b3 <;> cases b4 <;> try rfl
  cases kd == 1
  · cases kd == 2
    · cases kd == 5
      · cases inB s 1 99999
        · rfl
        · exact leafD _
      · cases okSite of_ <;> cases inB ot 1 1000000 <;> first | rfl | exact leafD _
    · cases okKey bd <;> first | rfl | exact leafD _
  · cases v != 0 <;> cases ltI at_ t <;> first | rfl | exact leafD _
end
end Go.Proofs.SYtkdippipiidcmaaGreatDoor

namespace Go.Proofs.SYtkdippipiidcmaaGreatDoor
open Go Go.AL Go.Proofs
noncomputable section
theorem idle1 (no at_ t m s h ot : Int) (si b c x y bd of_ : ByteArray) : F_net_idle [.l [[.s si, .i no, .i at_, .i 1, .i t, .i m, .s b, .s c, .i s, .i h, .s x, .s y, .s bd, .s of_, .i ot]]] = some [.t (rowEq KDeed [.s si, .i no, .i at_, .i 1, .i t, .i m, .s b, .s c, .i s, .i h, .s x, .s y, .s bd, .s of_, .i ot] [.s si, .i no, .i at_, .i 1, .i t, .i m, .s b, .s c, .i s, .i h, .s x, .s y, .s (⟨#[]⟩ : ByteArray), .s (⟨#[]⟩ : ByteArray), .i 0])] := by
  have e : rowEq KDeed [.s si, .i no, .i at_, .i 1, .i t, .i m, .s b, .s c, .i s, .i h, .s x, .s y, .s bd, .s of_, .i ot] [.s si, .i no, .i at_, .i 1, .i t, .i m, .s b, .s c, .i s, .i h, .s x, .s y, .s (⟨#[]⟩ : ByteArray), .s (⟨#[]⟩ : ByteArray), .i 0] = ((si.toList == si.toList) && ((no == no) && ((at_ == at_) && (((1 : Int) == 1) && ((t == t) && ((m == m) && ((b.toList == b.toList) && ((c.toList == c.toList) && ((s == s) && ((h == h) && ((x.toList == x.toList) && ((y.toList == y.toList) && ((bd.toList == (⟨#[]⟩ : ByteArray).toList) && ((of_.toList == (⟨#[]⟩ : ByteArray).toList) && ((ot == 0) && true))))))))))))))) := rfl
  have e2 : rowEq [.int .i64, .int .i64, .str, .str, .int .i64, .int .i64, .str, .str] [.i t, .i m, .s b, .s c, .i s, .i h, .s x, .s y] [.i 0, .i 0, .s (⟨#[]⟩ : ByteArray), .s (⟨#[]⟩ : ByteArray), .i 0, .i 0, .s (⟨#[]⟩ : ByteArray), .s (⟨#[]⟩ : ByteArray)] = ((t == 0) && ((m == 0) && ((b.toList == (⟨#[]⟩ : ByteArray).toList) && ((c.toList == (⟨#[]⟩ : ByteArray).toList) && ((s == 0) && ((h == 0) && ((x.toList == (⟨#[]⟩ : ByteArray).toList) && ((y.toList == (⟨#[]⟩ : ByteArray).toList) && true)))))))) := rfl
  rw [e]
  unfold F_net_idle
  (dsimp +instances only [gi0,gis,row1,rows1,int1,str1,bool1])
  try rw [e2]
  simp only [beq_self_eq_true, Bool.true_and, Bool.and_true, Bool.and_self]
  generalize (bd.toList == (⟨#[]⟩ : ByteArray).toList) = q0
  generalize (of_.toList == (⟨#[]⟩ : ByteArray).toList) = q1
  generalize (ot == 0) = q2
  cases q0 <;> cases q1 <;> cases q2 <;> rfl
theorem idle2 (no at_ t m s h ot : Int) (si b c x y bd of_ : ByteArray) : F_net_idle [.l [[.s si, .i no, .i at_, .i 2, .i t, .i m, .s b, .s c, .i s, .i h, .s x, .s y, .s bd, .s of_, .i ot]]] = some [.t (rowEq KDeed [.s si, .i no, .i at_, .i 2, .i t, .i m, .s b, .s c, .i s, .i h, .s x, .s y, .s bd, .s of_, .i ot] [.s si, .i no, .i at_, .i 2, .i 0, .i 0, .s (⟨#[]⟩ : ByteArray), .s (⟨#[]⟩ : ByteArray), .i 0, .i 0, .s (⟨#[]⟩ : ByteArray), .s (⟨#[]⟩ : ByteArray), .s bd, .s (⟨#[]⟩ : ByteArray), .i 0])] := by
  have e : rowEq KDeed [.s si, .i no, .i at_, .i 2, .i t, .i m, .s b, .s c, .i s, .i h, .s x, .s y, .s bd, .s of_, .i ot] [.s si, .i no, .i at_, .i 2, .i 0, .i 0, .s (⟨#[]⟩ : ByteArray), .s (⟨#[]⟩ : ByteArray), .i 0, .i 0, .s (⟨#[]⟩ : ByteArray), .s (⟨#[]⟩ : ByteArray), .s bd, .s (⟨#[]⟩ : ByteArray), .i 0] = ((si.toList == si.toList) && ((no == no) && ((at_ == at_) && (((2 : Int) == 2) && ((t == 0) && ((m == 0) && ((b.toList == (⟨#[]⟩ : ByteArray).toList) && ((c.toList == (⟨#[]⟩ : ByteArray).toList) && ((s == 0) && ((h == 0) && ((x.toList == (⟨#[]⟩ : ByteArray).toList) && ((y.toList == (⟨#[]⟩ : ByteArray).toList) && ((bd.toList == bd.toList) && ((of_.toList == (⟨#[]⟩ : ByteArray).toList) && ((ot == 0) && true))))))))))))))) := rfl
  have e2 : rowEq [.int .i64, .int .i64, .str, .str, .int .i64, .int .i64, .str, .str] [.i t, .i m, .s b, .s c, .i s, .i h, .s x, .s y] [.i 0, .i 0, .s (⟨#[]⟩ : ByteArray), .s (⟨#[]⟩ : ByteArray), .i 0, .i 0, .s (⟨#[]⟩ : ByteArray), .s (⟨#[]⟩ : ByteArray)] = ((t == 0) && ((m == 0) && ((b.toList == (⟨#[]⟩ : ByteArray).toList) && ((c.toList == (⟨#[]⟩ : ByteArray).toList) && ((s == 0) && ((h == 0) && ((x.toList == (⟨#[]⟩ : ByteArray).toList) && ((y.toList == (⟨#[]⟩ : ByteArray).toList) && true)))))))) := rfl
  rw [e]
  unfold F_net_idle
  (dsimp +instances only [gi0,gis,row1,rows1,int1,str1,bool1])
  try rw [e2]
  simp only [beq_self_eq_true, Bool.true_and, Bool.and_true, Bool.and_self]
  generalize (bd.toList == (⟨#[]⟩ : ByteArray).toList) = q0
  generalize (of_.toList == (⟨#[]⟩ : ByteArray).toList) = q1
  generalize (ot == 0) = q2
  generalize ((t == 0)) = q3
  generalize ((m == 0)) = q4
  generalize ((b.toList == (⟨#[]⟩ : ByteArray).toList)) = q5
  generalize ((c.toList == (⟨#[]⟩ : ByteArray).toList)) = q6
  generalize ((s == 0)) = q7
  generalize ((h == 0)) = q8
  generalize ((x.toList == (⟨#[]⟩ : ByteArray).toList)) = q9
  generalize ((y.toList == (⟨#[]⟩ : ByteArray).toList)) = q10
  cases q3
  · rfl
  cases q4
  · rfl
  cases q5
  · rfl
  cases q6
  · rfl
  cases q7
  · rfl
  cases q8
  · rfl
  cases q9
  · rfl
  cases q10
  · rfl
  cases q0 <;> cases q1 <;> cases q2 <;> rfl
theorem idle3 (no at_ t m s h ot : Int) (si b c x y bd of_ : ByteArray) : F_net_idle [.l [[.s si, .i no, .i at_, .i 3, .i t, .i m, .s b, .s c, .i s, .i h, .s x, .s y, .s bd, .s of_, .i ot]]] = some [.t (rowEq KDeed [.s si, .i no, .i at_, .i 3, .i t, .i m, .s b, .s c, .i s, .i h, .s x, .s y, .s bd, .s of_, .i ot] [.s si, .i no, .i at_, .i 3, .i 0, .i 0, .s (⟨#[]⟩ : ByteArray), .s (⟨#[]⟩ : ByteArray), .i s, .i 0, .s (⟨#[]⟩ : ByteArray), .s (⟨#[]⟩ : ByteArray), .s (⟨#[]⟩ : ByteArray), .s (⟨#[]⟩ : ByteArray), .i 0])] := by
  have e : rowEq KDeed [.s si, .i no, .i at_, .i 3, .i t, .i m, .s b, .s c, .i s, .i h, .s x, .s y, .s bd, .s of_, .i ot] [.s si, .i no, .i at_, .i 3, .i 0, .i 0, .s (⟨#[]⟩ : ByteArray), .s (⟨#[]⟩ : ByteArray), .i s, .i 0, .s (⟨#[]⟩ : ByteArray), .s (⟨#[]⟩ : ByteArray), .s (⟨#[]⟩ : ByteArray), .s (⟨#[]⟩ : ByteArray), .i 0] = ((si.toList == si.toList) && ((no == no) && ((at_ == at_) && (((3 : Int) == 3) && ((t == 0) && ((m == 0) && ((b.toList == (⟨#[]⟩ : ByteArray).toList) && ((c.toList == (⟨#[]⟩ : ByteArray).toList) && ((s == s) && ((h == 0) && ((x.toList == (⟨#[]⟩ : ByteArray).toList) && ((y.toList == (⟨#[]⟩ : ByteArray).toList) && ((bd.toList == (⟨#[]⟩ : ByteArray).toList) && ((of_.toList == (⟨#[]⟩ : ByteArray).toList) && ((ot == 0) && true))))))))))))))) := rfl
  have e2 : rowEq [.int .i64, .int .i64, .str, .str, .int .i64, .int .i64, .str, .str] [.i t, .i m, .s b, .s c, .i s, .i h, .s x, .s y] [.i 0, .i 0, .s (⟨#[]⟩ : ByteArray), .s (⟨#[]⟩ : ByteArray), .i s, .i 0, .s (⟨#[]⟩ : ByteArray), .s (⟨#[]⟩ : ByteArray)] = ((t == 0) && ((m == 0) && ((b.toList == (⟨#[]⟩ : ByteArray).toList) && ((c.toList == (⟨#[]⟩ : ByteArray).toList) && ((s == s) && ((h == 0) && ((x.toList == (⟨#[]⟩ : ByteArray).toList) && ((y.toList == (⟨#[]⟩ : ByteArray).toList) && true)))))))) := rfl
  rw [e]
  unfold F_net_idle
  (dsimp +instances only [gi0,gis,row1,rows1,int1,str1,bool1])
  try rw [e2]
  simp only [beq_self_eq_true, Bool.true_and, Bool.and_true, Bool.and_self]
  generalize (bd.toList == (⟨#[]⟩ : ByteArray).toList) = q0
  generalize (of_.toList == (⟨#[]⟩ : ByteArray).toList) = q1
  generalize (ot == 0) = q2
  generalize ((t == 0)) = q3
  generalize ((m == 0)) = q4
  generalize ((b.toList == (⟨#[]⟩ : ByteArray).toList)) = q5
  generalize ((c.toList == (⟨#[]⟩ : ByteArray).toList)) = q6
  generalize ((h == 0)) = q7
  generalize ((x.toList == (⟨#[]⟩ : ByteArray).toList)) = q8
  generalize ((y.toList == (⟨#[]⟩ : ByteArray).toList)) = q9
  cases q3
  · rfl
  cases q4
  · rfl
  cases q5
  · rfl
  cases q6
  · rfl
  cases q7
  · rfl
  cases q8
  · rfl
  cases q9
  · rfl
  cases q0 <;> cases q1 <;> cases q2 <;> rfl
theorem idle4 (no at_ t m s h ot : Int) (si b c x y bd of_ : ByteArray) : F_net_idle [.l [[.s si, .i no, .i at_, .i 4, .i t, .i m, .s b, .s c, .i s, .i h, .s x, .s y, .s bd, .s of_, .i ot]]] = some [.t (rowEq KDeed [.s si, .i no, .i at_, .i 4, .i t, .i m, .s b, .s c, .i s, .i h, .s x, .s y, .s bd, .s of_, .i ot] [.s si, .i no, .i at_, .i 4, .i 0, .i 0, .s (⟨#[]⟩ : ByteArray), .s (⟨#[]⟩ : ByteArray), .i s, .i 0, .s (⟨#[]⟩ : ByteArray), .s (⟨#[]⟩ : ByteArray), .s (⟨#[]⟩ : ByteArray), .s (⟨#[]⟩ : ByteArray), .i 0])] := by
  have e : rowEq KDeed [.s si, .i no, .i at_, .i 4, .i t, .i m, .s b, .s c, .i s, .i h, .s x, .s y, .s bd, .s of_, .i ot] [.s si, .i no, .i at_, .i 4, .i 0, .i 0, .s (⟨#[]⟩ : ByteArray), .s (⟨#[]⟩ : ByteArray), .i s, .i 0, .s (⟨#[]⟩ : ByteArray), .s (⟨#[]⟩ : ByteArray), .s (⟨#[]⟩ : ByteArray), .s (⟨#[]⟩ : ByteArray), .i 0] = ((si.toList == si.toList) && ((no == no) && ((at_ == at_) && (((4 : Int) == 4) && ((t == 0) && ((m == 0) && ((b.toList == (⟨#[]⟩ : ByteArray).toList) && ((c.toList == (⟨#[]⟩ : ByteArray).toList) && ((s == s) && ((h == 0) && ((x.toList == (⟨#[]⟩ : ByteArray).toList) && ((y.toList == (⟨#[]⟩ : ByteArray).toList) && ((bd.toList == (⟨#[]⟩ : ByteArray).toList) && ((of_.toList == (⟨#[]⟩ : ByteArray).toList) && ((ot == 0) && true))))))))))))))) := rfl
  have e2 : rowEq [.int .i64, .int .i64, .str, .str, .int .i64, .int .i64, .str, .str] [.i t, .i m, .s b, .s c, .i s, .i h, .s x, .s y] [.i 0, .i 0, .s (⟨#[]⟩ : ByteArray), .s (⟨#[]⟩ : ByteArray), .i s, .i 0, .s (⟨#[]⟩ : ByteArray), .s (⟨#[]⟩ : ByteArray)] = ((t == 0) && ((m == 0) && ((b.toList == (⟨#[]⟩ : ByteArray).toList) && ((c.toList == (⟨#[]⟩ : ByteArray).toList) && ((s == s) && ((h == 0) && ((x.toList == (⟨#[]⟩ : ByteArray).toList) && ((y.toList == (⟨#[]⟩ : ByteArray).toList) && true)))))))) := rfl
  rw [e]
  unfold F_net_idle
  (dsimp +instances only [gi0,gis,row1,rows1,int1,str1,bool1])
  try rw [e2]
  simp only [beq_self_eq_true, Bool.true_and, Bool.and_true, Bool.and_self]
  generalize (bd.toList == (⟨#[]⟩ : ByteArray).toList) = q0
  generalize (of_.toList == (⟨#[]⟩ : ByteArray).toList) = q1
  generalize (ot == 0) = q2
  generalize ((t == 0)) = q3
  generalize ((m == 0)) = q4
  generalize ((b.toList == (⟨#[]⟩ : ByteArray).toList)) = q5
  generalize ((c.toList == (⟨#[]⟩ : ByteArray).toList)) = q6
  generalize ((h == 0)) = q7
  generalize ((x.toList == (⟨#[]⟩ : ByteArray).toList)) = q8
  generalize ((y.toList == (⟨#[]⟩ : ByteArray).toList)) = q9
  cases q3
  · rfl
  cases q4
  · rfl
  cases q5
  · rfl
  cases q6
  · rfl
  cases q7
  · rfl
  cases q8
  · rfl
  cases q9
  · rfl
  cases q0 <;> cases q1 <;> cases q2 <;> rfl
theorem idle5 (no at_ t m s h ot : Int) (si b c x y bd of_ : ByteArray) : F_net_idle [.l [[.s si, .i no, .i at_, .i 5, .i t, .i m, .s b, .s c, .i s, .i h, .s x, .s y, .s bd, .s of_, .i ot]]] = some [.t (rowEq KDeed [.s si, .i no, .i at_, .i 5, .i t, .i m, .s b, .s c, .i s, .i h, .s x, .s y, .s bd, .s of_, .i ot] [.s si, .i no, .i at_, .i 5, .i 0, .i 0, .s (⟨#[]⟩ : ByteArray), .s (⟨#[]⟩ : ByteArray), .i 0, .i 0, .s (⟨#[]⟩ : ByteArray), .s (⟨#[]⟩ : ByteArray), .s (⟨#[]⟩ : ByteArray), .s of_, .i ot])] := by
  have e : rowEq KDeed [.s si, .i no, .i at_, .i 5, .i t, .i m, .s b, .s c, .i s, .i h, .s x, .s y, .s bd, .s of_, .i ot] [.s si, .i no, .i at_, .i 5, .i 0, .i 0, .s (⟨#[]⟩ : ByteArray), .s (⟨#[]⟩ : ByteArray), .i 0, .i 0, .s (⟨#[]⟩ : ByteArray), .s (⟨#[]⟩ : ByteArray), .s (⟨#[]⟩ : ByteArray), .s of_, .i ot] = ((si.toList == si.toList) && ((no == no) && ((at_ == at_) && (((5 : Int) == 5) && ((t == 0) && ((m == 0) && ((b.toList == (⟨#[]⟩ : ByteArray).toList) && ((c.toList == (⟨#[]⟩ : ByteArray).toList) && ((s == 0) && ((h == 0) && ((x.toList == (⟨#[]⟩ : ByteArray).toList) && ((y.toList == (⟨#[]⟩ : ByteArray).toList) && ((bd.toList == (⟨#[]⟩ : ByteArray).toList) && ((of_.toList == of_.toList) && ((ot == ot) && true))))))))))))))) := rfl
  have e2 : rowEq [.int .i64, .int .i64, .str, .str, .int .i64, .int .i64, .str, .str] [.i t, .i m, .s b, .s c, .i s, .i h, .s x, .s y] [.i 0, .i 0, .s (⟨#[]⟩ : ByteArray), .s (⟨#[]⟩ : ByteArray), .i 0, .i 0, .s (⟨#[]⟩ : ByteArray), .s (⟨#[]⟩ : ByteArray)] = ((t == 0) && ((m == 0) && ((b.toList == (⟨#[]⟩ : ByteArray).toList) && ((c.toList == (⟨#[]⟩ : ByteArray).toList) && ((s == 0) && ((h == 0) && ((x.toList == (⟨#[]⟩ : ByteArray).toList) && ((y.toList == (⟨#[]⟩ : ByteArray).toList) && true)))))))) := rfl
  rw [e]
  unfold F_net_idle
  (dsimp +instances only [gi0,gis,row1,rows1,int1,str1,bool1])
  try rw [e2]
  simp only [beq_self_eq_true, Bool.true_and, Bool.and_true, Bool.and_self]
  generalize (bd.toList == (⟨#[]⟩ : ByteArray).toList) = q0
  generalize (of_.toList == (⟨#[]⟩ : ByteArray).toList) = q1
  generalize (ot == 0) = q2
  generalize ((t == 0)) = q3
  generalize ((m == 0)) = q4
  generalize ((b.toList == (⟨#[]⟩ : ByteArray).toList)) = q5
  generalize ((c.toList == (⟨#[]⟩ : ByteArray).toList)) = q6
  generalize ((s == 0)) = q7
  generalize ((h == 0)) = q8
  generalize ((x.toList == (⟨#[]⟩ : ByteArray).toList)) = q9
  generalize ((y.toList == (⟨#[]⟩ : ByteArray).toList)) = q10
  cases q3
  · rfl
  cases q4
  · rfl
  cases q5
  · rfl
  cases q6
  · rfl
  cases q7
  · rfl
  cases q8
  · rfl
  cases q9
  · rfl
  cases q10
  · rfl
  cases q0 <;> cases q1 <;> cases q2 <;> rfl
end
end Go.Proofs.SYtkdippipiidcmaaGreatDoor

namespace Go.Proofs.SYtkdippipiidcmaaGreatDoor
open Go Go.AL Go.Proofs
noncomputable section
section
variable (si b c x y bd of_ : ByteArray) (no at_ t m s h ot : Int)
theorem used1 (v : Int) (hv : F_log_CheckContact [.l [[.i t, .i m, .s b, .s c, .i s, .i h, .s x, .s y]]] = some [.i v]) :
    F_net_usedFault [.l [[.s si, .i no, .i at_, .i 1, .i t, .i m, .s b, .s c, .i s, .i h, .s x, .s y, .s bd, .s of_, .i ot]]] = some [.i (bif v != 0 then v else bif ltI at_ t then 1 else 0)] := by
  have e : F_net_logFault [.l [[.s si, .i no, .i at_, .i 1, .i t, .i m, .s b, .s c, .i s, .i h, .s x, .s y, .s bd, .s of_, .i ot]]] = some [.i (bif v != 0 then v else bif ltI at_ t then 1 else 0)] := by
    refine Ret.toEq ?_
    unfold F_net_logFault
    (dsimp +instances only [gi0,gis,row1,rows1,int1,str1,bool1])
    refine Ret.call (Ret.eq hv) ?_
    rintro _ rfl
    (dsimp +instances only [gi0,gis,row1,rows1,int1,str1,bool1])
    refine Ret.test (fun h1 => Ret.some ?_) fun h1 => Ret.test (fun h2 => Ret.some ?_) fun h2 => Ret.some ?_
    · simp only [h1, cond_true]
    · simp only [h1, h2, cond_true, cond_false]
    · simp only [h1, h2, cond_false]
  refine Ret.toEq ?_
  unfold F_net_usedFault
  (dsimp +instances only [gi0,gis,row1,rows1,int1,str1,bool1])
  try refine Ret.pos rfl ?_
  refine Ret.call (Ret.eq e) ?_
  rintro _ rfl
  exact Ret.some rfl
theorem used2 (hb : bd ∈ bands) :
    F_net_usedFault [.l [[.s si, .i no, .i at_, .i 2, .i t, .i m, .s b, .s c, .i s, .i h, .s x, .s y, .s bd, .s of_, .i ot]]] = some [.i (bif !okKey bd then 5 else 0)] := by
  refine Ret.toEq ?_
  unfold F_net_usedFault
  (dsimp +instances only [gi0,gis,row1,rows1,int1,str1,bool1])
  try refine Ret.neg rfl ?_
  try refine Ret.pos rfl ?_
  refine Ret.call (Ret.eq (isKey_eq (.inl hb))) ?_
  rintro _ rfl
  cases okKey bd <;> exact Ret.some rfl
theorem used5 (hb : of_ ∈ sitesL) :
    F_net_usedFault [.l [[.s si, .i no, .i at_, .i 5, .i t, .i m, .s b, .s c, .i s, .i h, .s x, .s y, .s bd, .s of_, .i ot]]] = some [.i (bif !okSite of_ then 5 else bif !inB ot 1 1000000 then 1 else 0)] := by
  refine Ret.toEq ?_
  unfold F_net_usedFault
  (dsimp +instances only [gi0,gis,row1,rows1,int1,str1,bool1])
  try refine Ret.neg rfl ?_
  try refine Ret.neg rfl ?_
  try refine Ret.pos rfl ?_
  refine Ret.call (Ret.eq (siteIsKey_eq hb)) ?_
  rintro _ rfl
  cases okSite of_
  · exact Ret.some rfl
  refine Ret.neg rfl ?_
  refine Ret.call (Ret.eq (outside_eq ot 1 1000000)) ?_
  rintro _ rfl
  cases inB ot 1 1000000 <;> exact Ret.some rfl
theorem used34 (kd : Int) (hk : kd = 3 ∨ kd = 4) :
    F_net_usedFault [.l [[.s si, .i no, .i at_, .i kd, .i t, .i m, .s b, .s c, .i s, .i h, .s x, .s y, .s bd, .s of_, .i ot]]] = some [.i (bif !inB s 1 99999 then 1 else 0)] := by
  refine Ret.toEq ?_
  unfold F_net_usedFault
  (dsimp +instances only [gi0,gis,row1,rows1,int1,str1,bool1])
  refine Ret.neg (by rcases hk with rfl | rfl <;> rfl) (Ret.neg (by rcases hk with rfl | rfl <;> rfl) (Ret.neg (by rcases hk with rfl | rfl <;> rfl) ?_))
  refine Ret.call (Ret.eq (outside_eq s 1 99999)) ?_
  rintro _ rfl
  cases inB s 1 99999 <;> exact Ret.some rfl
end
end
end Go.Proofs.SYtkdippipiidcmaaGreatDoor

namespace Go.Proofs.SYtkdippipiidcmaaGreatDoor
open Go Go.AL Go.Proofs
noncomputable section
theorem isMoment_eq (v : Int) : F_kit_IsMoment [.i v] = some [.t (inB v 0 345686399999)] := by
  refine Ret.toEq ?_
  unfold F_kit_IsMoment
  (dsimp +instances only [gi0,gis,row1,rows1,int1,str1,bool1])
  refine Ret.call (Ret.eq (outside_eq v 0 345686399999)) ?_
  rintro _ rfl
  cases inB v 0 345686399999 <;> exact Ret.some rfl
theorem formed_eq {r : List G} (hr : Ded r) : F_net_formed [.l [r]] = some [.i (faultDd r)] := by
  obtain ⟨si, no, at_, kd, t, m, b, c, s, h, x, y, bd, of_, ot, rfl, d1, _, _, _, ⟨c1, c2, c3, c4, c5, c6, c7, c8⟩, d6, d7, _⟩ := hr
  have kc : F_log_CheckContact [.l [[.i t, .i m, .s b, .s c, .i s, .i h, .s x, .s y]]] = some [.i (faultC [.i t, .i m, .s b, .s c, .i s, .i h, .s x, .s y])] :=
    check_eq ⟨t, m, b, c, s, h, x, y, rfl, c1, c2, c5, c6, c3, c4, c7, c8⟩
  have hk : inB kd 1 5 = true → kd = 1 ∨ kd = 2 ∨ kd = 5 ∨ kd = 3 ∨ kd = 4 := by
    unfold inB
    rw [leI_eq, leI_eq, Bool.and_eq_true, decide_eq_true_eq, decide_eq_true_eq]
    omega
  refine Ret.toEq ?_
  unfold F_net_formed faultDd dRow cOf head4
  (dsimp +instances only [gi0,gis,row1,rows1,int1,str1,bool1])
  refine Ret.call (Ret.eq (siteIsKey_eq d1)) ?_
  rintro _ rfl
  cases okSite si
  · exact Ret.some rfl
  refine Ret.neg rfl ?_
  refine Ret.call (Ret.eq (outside_eq no 1 1000000)) ?_
  rintro _ rfl
  cases inB no 1 1000000
  · exact Ret.some rfl
  refine Ret.neg rfl ?_
  refine Ret.call (Ret.eq (isMoment_eq at_)) ?_
  rintro _ rfl
  cases inB at_ 0 345686399999
  · exact Ret.some rfl
  refine Ret.neg rfl ?_
  refine Ret.call (Ret.eq (outside_eq kd 1 5)) ?_
  rintro _ rfl
  cases hkd : inB kd 1 5
  · exact Ret.some rfl
  refine Ret.neg rfl ?_
  rcases hk hkd with rfl | rfl | rfl | hk
  · refine Ret.call (Ret.eq (used1 si b c x y bd of_ no at_ t m s h ot _ kc)) ?_
    rintro _ rfl
    (dsimp +instances only [gi0,gis,row1,rows1,int1,str1,bool1])
    generalize faultC [.i t, .i m, .s b, .s c, .i s, .i h, .s x, .s y] = v
    cases hv : v != 0
    · cases ltI at_ t
      · refine Ret.neg rfl ?_
        refine Ret.call (Ret.eq (idle1 no at_ t m s h ot si b c x y bd of_)) ?_
        rintro _ rfl
        exact ⟨_, leafD _, rfl⟩
      · exact Ret.pos rfl (Ret.some rfl)
    · exact Ret.pos hv (Ret.some rfl)
  · refine Ret.call (Ret.eq (used2 si b c x y bd of_ no at_ t m s h ot d6)) ?_
    rintro _ rfl
    cases okKey bd
    · exact Ret.pos rfl (Ret.some rfl)
    refine Ret.neg rfl ?_
    refine Ret.call (Ret.eq (idle2 no at_ t m s h ot si b c x y bd of_)) ?_
    rintro _ rfl
    exact ⟨_, leafD _, rfl⟩
  · refine Ret.call (Ret.eq (used5 si b c x y bd of_ no at_ t m s h ot d7)) ?_
    rintro _ rfl
    cases okSite of_
    · exact Ret.pos rfl (Ret.some rfl)
    cases inB ot 1 1000000
    · exact Ret.pos rfl (Ret.some rfl)
    refine Ret.neg rfl ?_
    refine Ret.call (Ret.eq (idle5 no at_ t m s h ot si b c x y bd of_)) ?_
    rintro _ rfl
    exact ⟨_, leafD _, rfl⟩
  · refine Ret.call (Ret.eq (used34 si b c x y bd of_ no at_ t m s h ot kd hk)) ?_
    rintro _ rfl
    cases inB s 1 99999
    · refine Ret.pos rfl (Ret.some ?_)
      rcases hk with rfl | rfl <;> rfl
    refine Ret.neg rfl ?_
    rcases hk with rfl | rfl
    · refine Ret.call (Ret.eq (idle3 no at_ t m s h ot si b c x y bd of_)) ?_
      rintro _ rfl
      exact ⟨_, leafD _, rfl⟩
    · refine Ret.call (Ret.eq (idle4 no at_ t m s h ot si b c x y bd of_)) ?_
      rintro _ rfl
      exact ⟨_, leafD _, rfl⟩
end
end Go.Proofs.SYtkdippipiidcmaaGreatDoor

namespace Go.Proofs.SYtkdippipiidcmaaGreatDoor
open Go Go.AL Go.Proofs
noncomputable section
def DdUp (rows : List (List G)) (i : Nat) : Prop := (∀ j, j < i → faultDd (rows.getD j []) = 0) ∧ ∀ j, j + 1 < i → ordDd (rows.getD j []) (rows.getD (j + 1) []) < 0
def FirstBad (rows : List (List G)) (i : Nat) (v : Int) : Prop := DdUp rows i ∧ i < rows.length ∧
  ((faultDd (rows.getD i []) ≠ 0 ∧ v = faultDd (rows.getD i [])) ∨ (faultDd (rows.getD i []) = 0 ∧ 0 < i ∧ ¬ ordDd (rows.getD (i - 1) []) (rows.getD i []) < 0 ∧ v = 7))
theorem FirstBad.ne {rows : List (List G)} {i : Nat} {v : Int} (h : FirstBad rows i v) : v ≠ 0 := by
  rcases h.2.2 with ⟨h1, rfl⟩ | ⟨_, _, _, rfl⟩
  · exact h1
  · decide
theorem FirstBad.not_up {rows : List (List G)} {i j : Nat} {v : Int} (h : FirstBad rows i v) (hj : i < j) : ¬ DdUp rows j := by
  rintro ⟨h1, h2⟩
  rcases h.2.2 with ⟨h3, _⟩ | ⟨_, h4, h5, _⟩
  · exact h3 (h1 i hj)
  · have := h2 (i - 1) (by omega)
    rw [show i - 1 + 1 = i by omega] at this
    exact h5 this
theorem FirstBad.unique {rows : List (List G)} {i j : Nat} {v w : Int} (h : FirstBad rows i v) (h' : FirstBad rows j w) : v = w := by
  have e : i = j := by
    rcases Nat.lt_trichotomy i j with e | e | e
    · exact (h.not_up e h'.1).elim
    · exact e
    · exact (h'.not_up e h.1).elim
  subst e
  rcases h.2.2 with ⟨h1, rfl⟩ | ⟨h1, _, _, rfl⟩ <;> rcases h'.2.2 with ⟨h2, rfl⟩ | ⟨h2, _, _, rfl⟩
  · rfl
  · exact (h1 h2).elim
  · exact (h2 h1).elim
  · rfl
theorem loop_DeedsFault4 (rows : List (List G)) (hr : ∀ z ∈ rows, Ded z) (hn : rows.length ≤ 20) :
    RetL st_pileref2_DeedsFault_4 [.l rows, .l rows, .i (rows.length : Int), .i 0] fun c g => (DdUp rows rows.length ∧ c = 1 ∧ g = [.l rows]) ∨ (c = 0 ∧ ∃ v, (∃ i, FirstBad rows i v) ∧ g = [.i v]) := by
  refine (range_inv (σ := Unit) (fun _ i => [.l rows, .l rows, .i (rows.length : Int), .i (i : Int)]) rows (fun _ => (1, [.l rows])) (fun _ i => DdUp rows i) (fun c g => c = 0 ∧ ∃ v, (∃ i, FirstBad rows i v) ∧ g = [.i v]) () (by omega) ⟨fun j h => by omega, fun j h => by omega⟩ ?_ ?_).mono ?_
  · intro _ i x hI hi hx hm _
    unfold st_pileref2_DeedsFault_4
    (dsimp +instances only [gi0,gis,row1,rows1,int1,str1,bool1])
    have ex := (hr x hm).eta
    refine Ret.pos (by (first|rfl|assumption|(simp only [inI,sl]<;>omega))) (Ret.pos (by (first|rfl|assumption|(simp only [inI,sl]<;>omega))) ?_)
    simp only [Int.toNat_natCast, hx, ex]
    refine Ret.call (Ret.eq (deedFault_eq (hr x hm))) ?_
    rintro _ rfl
    (dsimp +instances only [gi0,gis,row1,rows1,int1,str1,bool1])
    refine Ret.test (fun h1 => Ret.some (.inr ⟨0, _, rfl, rfl, _, ⟨i, hI, hi, .inl ⟨by rw [hx]; simpa using h1, by rw [hx]⟩⟩, rfl⟩)) fun h1 => ?_
    have h1 : faultDd x = 0 := by simpa using h1
    refine Ret.test (fun h2 => ?_) fun h2 => ?_
    · have h2 : 0 < i := by
        rw [ltI_eq, decide_eq_true_eq] at h2
        omega
      have e1 : ((i : Int) - 1).toNat = i - 1 := by omega
      have hp : rows.getD (i - 1) [] ∈ rows := getD_row (by omega)
      refine Ret.pos (by (first|rfl|assumption|(simp only [inI,sl]<;>omega))) (Ret.pos (by (first|rfl|assumption|(simp only [inI,sl]<;>omega))) ?_)
      simp only [e1, (hr _ hp).eta]
      refine Ret.call (Ret.eq (deedOrder_eq (hr _ hp) (hr x hm))) ?_
      rintro _ rfl
      (dsimp +instances only [gi0,gis,row1,rows1,int1,str1,bool1])
      refine Ret.test (fun h3 => Ret.some (.inr ⟨0, _, rfl, rfl, 7, ⟨i, hI, hi, .inr ⟨by rw [hx]; exact h1, h2, by rw [leI_eq, decide_eq_true_eq] at h3; rw [hx]; omega, rfl⟩⟩, rfl⟩)) fun h3 => ?_
      refine Ret.pos (by (first|rfl|assumption|(simp only [inI,sl]<;>omega))) (Ret.some (.inl ⟨(), rfl, fun j hj => ?_, fun j hj => ?_⟩))
      · by_cases e : j = i
        · rw [e, hx, h1]
        · exact hI.1 j (by omega)
      · by_cases e : j + 1 = i
        · rw [leI_eq, decide_eq_false_iff_not] at h3
          rw [e, hx, show j = i - 1 from by omega]
          omega
        · exact hI.2 j (by omega)
    · have h2 : i = 0 := by
        rw [ltI_eq, decide_eq_false_iff_not] at h2
        omega
      refine Ret.pos (by (first|rfl|assumption|(simp only [inI,sl]<;>omega))) (Ret.some (.inl ⟨(), rfl, fun j hj => ?_, fun j hj => by omega⟩))
      rw [show j = i from by omega, hx, h1]
  · intro _ _
    unfold st_pileref2_DeedsFault_4
    (dsimp +instances only [gi0,gis,row1,rows1,int1,str1,bool1])
    refine Ret.neg (by (first|rfl|assumption|(simp only [inI,sl]<;>omega))) (Ret.some rfl)
  · rintro c g (⟨_, h, rfl, rfl⟩ | h)
    · exact .inl ⟨h, rfl, rfl⟩
    · exact .inr h
end
end Go.Proofs.SYtkdippipiidcmaaGreatDoor

namespace Go.Proofs.SYtkdippipiidcmaaGreatDoor
open Go Go.AL Go.Proofs
noncomputable section
def sameD (r s : List G) : Bool := ((gi r 0).str.toList == (gi s 0).str.toList) && ((gi r 1).int == (gi s 1).int)
theorem sameNo_eq {r s : List G} (hr : Ded r) (hs : Ded s) : F_pileref2_DeedsFault_1 [.l [r], .l [s]] = some [.t (sameD r s)] := by
  have e : F_pileref2_sameNo [.l [r], .l [s]] = some [.t (sameD r s)] := by
    refine Ret.toEq ?_
    unfold F_pileref2_sameNo sameD
    (dsimp +instances only [gi0,gis,row1,rows1,int1,str1,bool1])
    cases (gi r 0).str.toList == (gi s 0).str.toList <;> exact Ret.some rfl
  refine Ret.toEq ?_
  unfold F_pileref2_DeedsFault_1
  (dsimp +instances only [gi0,gis,row1,rows1,int1,str1,bool1])
  simp only [hr.eta, hs.eta]
  refine Ret.call (Ret.eq e) ?_
  rintro _ rfl
  exact Ret.some rfl
theorem hasDeed_ok (p : List (List G)) (x : List G) (hp : ∀ z ∈ p, Ded z) (hx : Ded x) (hn : p.length ≤ 20) :
    Ret (F_slices_ContainsFunc_Deed [.l p, .l [x]]) fun g => ∃ b, g = [.t b] ∧ (b = false → ∀ j, j < p.length → sameD (p.getD j []) x = false) ∧ (b = true → ∃ j, j < p.length ∧ sameD (p.getD j []) x = true) := by
  have key : Ret (F_slices_IndexFunc_Deed [.l p, .l [x]]) fun g => ∃ v : Int, g = [.i v] ∧ (v < 0 → ∀ j, j < p.length → sameD (p.getD j []) x = false) ∧ (0 ≤ v → ∃ j, j < p.length ∧ sameD (p.getD j []) x = true) := by
    unfold F_slices_IndexFunc_Deed
    (dsimp +instances only [gi0,gis,row1,rows1,int1,str1,bool1])
    simp only [hx.eta]
    refine Ret.loop (P := fun c g => (c = 1 ∧ g = [] ∧ ∀ j, j < p.length → sameD (p.getD j []) x = false) ∨ (c = 0 ∧ ∃ v : Int, 0 ≤ v ∧ g = [.i v] ∧ ∃ j, j < p.length ∧ sameD (p.getD j []) x = true)) ((range_inv (σ := Unit) (fun _ i => [.l p, .l [x], .i (p.length : Int), .i (i : Int)]) p (fun _ => (1, [])) (fun _ i => ∀ j, j < i → sameD (p.getD j []) x = false) (fun c g => c = 0 ∧ ∃ v : Int, 0 ≤ v ∧ g = [.i v] ∧ ∃ j, j < p.length ∧ sameD (p.getD j []) x = true) () (by omega) (fun j h => by omega) ?_ ?_).mono ?_) rfl ?_
    · intro _ i z hI hi hz hm _
      unfold st_slices_IndexFunc_Deed_2
      (dsimp +instances only [gi0,gis,row1,rows1,int1,str1,bool1])
      refine Ret.pos (by (first|rfl|assumption|(simp only [inI,sl]<;>omega))) (Ret.pos (by (first|rfl|assumption|(simp only [inI,sl]<;>omega))) ?_)
      simp only [Int.toNat_natCast, hz, (hp z hm).eta, hx.eta]
      refine Ret.call (Ret.eq (sameNo_eq (hp z hm) hx)) ?_
      rintro _ rfl
      (dsimp +instances only [gi0,gis,row1,rows1,int1,str1,bool1])
      refine Ret.test (fun h1 => Ret.some (.inr ⟨0, _, rfl, rfl, _, by omega, rfl, i, hi, by rw [hz]; exact h1⟩)) fun h1 => ?_
      refine Ret.pos (by (first|rfl|assumption|(simp only [inI,sl]<;>omega))) (Ret.some (.inl ⟨(), rfl, fun j hj => ?_⟩))
      by_cases e : j = i
      · rw [e, hz, h1]
      · exact hI j (by omega)
    · intro _ _
      unfold st_slices_IndexFunc_Deed_2
      (dsimp +instances only [gi0,gis,row1,rows1,int1,str1,bool1])
      exact Ret.neg (by (first|rfl|assumption|(simp only [inI,sl]<;>omega))) (Ret.some rfl)
    · rintro c g (⟨_, h, rfl, rfl⟩ | h)
      · exact .inl ⟨rfl, rfl, h⟩
      · exact .inr h
    · rintro c g (⟨rfl, rfl, h⟩ | ⟨rfl, v, hv, rfl, h⟩)
      · exact Ret.neg rfl (Ret.some ⟨-1, rfl, fun _ => h, fun h => by omega⟩)
      · exact Ret.pos rfl (Ret.some ⟨v, rfl, fun h => by omega, fun _ => h⟩)
  unfold F_slices_ContainsFunc_Deed
  (dsimp +instances only [gi0,gis,row1,rows1,int1,str1,bool1])
  simp only [hx.eta]
  refine Ret.call key ?_
  rintro _ ⟨v, rfl, h, h'⟩
  refine Ret.some ⟨leI 0 v, rfl, fun e => h ?_, fun e => h' ?_⟩
  · rw [leI_eq, decide_eq_false_iff_not] at e
    omega
  · rw [leI_eq, decide_eq_true_eq] at e
    exact e
end
end Go.Proofs.SYtkdippipiidcmaaGreatDoor

namespace Go.Proofs.SYtkdippipiidcmaaGreatDoor
open Go Go.AL Go.Proofs
noncomputable section
def DdOnce (rows : List (List G)) (n : Nat) : Prop := ∀ i, i < n → ∀ j, j < i → sameD (rows.getD j []) (rows.getD i []) = false
theorem loop_DeedsFault13 (rows : List (List G)) (hr : ∀ z ∈ rows, Ded z) (hn : rows.length ≤ 20) :
    RetL st_pileref2_DeedsFault_13 [.l rows, .l rows, .i (rows.length : Int), .i 0] fun c g => (DdOnce rows rows.length ∧ c = 1 ∧ g = []) ∨ (c = 0 ∧ ¬ DdOnce rows rows.length ∧ g = [.i 6]) := by
  refine (range_inv (σ := Unit) (fun _ i => [.l rows, .l rows, .i (rows.length : Int), .i (i : Int)]) rows (fun _ => (1, [])) (fun _ i => DdOnce rows i) (fun c g => c = 0 ∧ ¬ DdOnce rows rows.length ∧ g = [.i 6]) () (by omega) (fun j h => by omega) ?_ ?_).mono ?_
  · intro _ i x hI hi hx hm _
    unfold st_pileref2_DeedsFault_13
    (dsimp +instances only [gi0,gis,row1,rows1,int1,str1,bool1])
    refine Ret.pos (by (first|rfl|assumption|(simp only [inI,sl]<;>omega))) (Ret.pos (by (first|rfl|assumption|(simp only [inI,sl]<;>omega))) (Ret.pos (by (first|rfl|assumption|(simp only [inI,sl]<;>omega))) ?_))
    simp only [Int.toNat_natCast, hx, (hr x hm).eta]
    have hl : (rows.take i).length = i := by rw [List.length_take]; omega
    refine Ret.call (hasDeed_ok (rows.take i) x (fun z hz => hr z (List.mem_of_mem_take hz)) (hr x hm) (by omega)) ?_
    rintro _ ⟨b, rfl, hb, hb'⟩
    (dsimp +instances only [gi0,gis,row1,rows1,int1,str1,bool1])
    refine Ret.test (fun h1 => Ret.some (.inr ⟨0, _, rfl, rfl, fun h2 => ?_, rfl⟩)) fun h1 => ?_
    · obtain ⟨j, hj, h3⟩ := hb' h1
      have := h2 i hi j (by omega)
      rw [List.getD_eq_getElem?_getD, List.getElem?_take_of_lt (by omega), ← List.getD_eq_getElem?_getD] at h3
      rw [hx, h3] at this
      cases this
    refine Ret.pos (by (first|rfl|assumption|(simp only [inI,sl]<;>omega))) (Ret.some (.inl ⟨(), rfl, fun k hk j hj => ?_⟩))
    by_cases e : k = i
    · have := hb h1 j (by omega)
      rw [List.getD_eq_getElem?_getD, List.getElem?_take_of_lt (by omega), ← List.getD_eq_getElem?_getD] at this
      rw [e, hx, this]
    · exact hI k (by omega) j hj
  · intro _ _
    unfold st_pileref2_DeedsFault_13
    (dsimp +instances only [gi0,gis,row1,rows1,int1,str1,bool1])
    exact Ret.neg (by (first|rfl|assumption|(simp only [inI,sl]<;>omega))) (Ret.some rfl)
  · rintro c g (⟨_, h, rfl, rfl⟩ | h)
    · exact .inl ⟨h, rfl, rfl⟩
    · exact .inr h
def DdOK (rows : List (List G)) : Prop := DdUp rows rows.length ∧ DdOnce rows rows.length
def ChkR (rows : List (List G)) (v : Int) : Prop := (∃ i, FirstBad rows i v) ∨ (DdUp rows rows.length ∧ ((DdOnce rows rows.length ∧ v = 0) ∨ (¬ DdOnce rows rows.length ∧ v = 6)))
def chkDd (rows : List (List G)) : Int := Classical.epsilon (ChkR rows)
theorem ChkR.unique {rows : List (List G)} {v w : Int} (h : ChkR rows v) (h' : ChkR rows w) : v = w := by
  rcases h with ⟨i, h⟩ | ⟨h1, h⟩ <;> rcases h' with ⟨j, h'⟩ | ⟨h2, h'⟩
  · exact h.unique h'
  · exact (h.not_up h.2.1 h2).elim
  · exact (h'.not_up h'.2.1 h1).elim
  · rcases h with ⟨h3, rfl⟩ | ⟨h3, rfl⟩ <;> rcases h' with ⟨h4, rfl⟩ | ⟨h4, rfl⟩
    · rfl
    · exact (h4 h3).elim
    · exact (h3 h4).elim
    · rfl
theorem ChkR.eq {rows : List (List G)} {v : Int} (h : ChkR rows v) : v = chkDd rows := h.unique (Classical.epsilon_spec (p := ChkR rows) ⟨v, h⟩)
theorem ChkR.zero {rows : List (List G)} (h : ChkR rows 0) : DdOK rows := by
  rcases h with ⟨i, h⟩ | ⟨h1, ⟨h, _⟩ | ⟨_, h⟩⟩
  · exact (h.ne rfl).elim
  · exact ⟨h1, h⟩
  · cases h
theorem DdOK.chk {rows : List (List G)} (h : DdOK rows) : ChkR rows 0 := .inr ⟨h.1, .inl ⟨h.2, rfl⟩⟩
theorem DdOK.chkDd {rows : List (List G)} (h : DdOK rows) : chkDd rows = 0 := h.chk.eq.symm
theorem deedsFault_eq (rows : List (List G)) (hr : ∀ z ∈ rows, Ded z) (hn : rows.length ≤ 20) : F_pileref2_DeedsFault [.l rows] = some [.i (chkDd rows)] ∧ ChkR rows (chkDd rows) := by
  have key : Ret (F_pileref2_DeedsFault [.l rows]) fun g => ∃ v : Int, g = [.i v] ∧ ChkR rows v := by
    unfold F_pileref2_DeedsFault
    (dsimp +instances only [gi0,gis,row1,rows1,int1,str1,bool1])
    refine Ret.neg (by (first|rfl|assumption|(simp only [inI,sl]<;>omega))) ?_
    refine Ret.loop (loop_DeedsFault4 rows hr hn) rfl ?_
    rintro c g (⟨h1, rfl, rfl⟩ | ⟨rfl, v, hv, rfl⟩)
    · refine Ret.neg rfl ?_
      refine Ret.loop (loop_DeedsFault13 rows hr hn) rfl ?_
      rintro c g (⟨h2, rfl, rfl⟩ | ⟨rfl, hv, rfl⟩)
      · exact Ret.neg rfl (Ret.some ⟨0, rfl, .inr ⟨h1, .inl ⟨h2, rfl⟩⟩⟩)
      · exact Ret.pos rfl (Ret.some ⟨6, rfl, .inr ⟨h1, .inr ⟨hv, rfl⟩⟩⟩)
    · exact Ret.pos rfl (Ret.some ⟨v, rfl, .inl hv⟩)
  obtain ⟨_, h, v, rfl, hv⟩ := key
  have e := hv.eq
  subst e
  exact ⟨h, hv⟩
end
end Go.Proofs.SYtkdippipiidcmaaGreatDoor

namespace Go.Proofs.SYtkdippipiidcmaaGreatDoor
open Go Go.AL Go.Proofs
noncomputable section
theorem or3_eq (a b c : Int) : F_cmp_Or_int [.l [[.i a], [.i b], [.i c]]] = some [.i (if a ≠ 0 then a else if b ≠ 0 then b else c)] := by
  refine Ret.toEq ?_
  unfold F_cmp_Or_int
  (dsimp +instances only [gi0,gis,row1,rows1,int1,str1,bool1])
  have h := or_runs [[.i a], [.i b], [.i c]] [] (by simp)
  refine Ret.loop (h.to (by simp)) (by (first|rfl|assumption|(simp only [inI,sl]<;>omega))) ?_
  rintro x g ⟨hx, rfl⟩
  have e : orL [[.i a], [.i b], [.i c]] = if a ≠ 0 then a else if b ≠ 0 then b else c := by
    simp only [orL]
    (dsimp +instances only [gi0,gis,row1,rows1,int1,str1,bool1])
    by_cases h1 : a = 0 <;> by_cases h2 : b = 0 <;> by_cases h3 : c = 0 <;> simp [h1, h2, h3]
  rw [e]
  (dsimp +instances only [gi0,gis,row1,rows1,int1,str1,bool1])
  exact Ret.test (fun _ => Ret.some rfl) fun _ => Ret.some rfl
theorem cmpI_ne {a b : Int} : (cmpI a b ≠ 0) ↔ a ≠ b := by
  unfold cmpI
  split
  · constructor <;> intro _ <;> omega
  · split <;> constructor <;> intro _ <;> omega
theorem compareDd_eq {r s : List G} (hr : Ded r) (hs : Ded s) : F_net_compare [.l [r], .l [s]] = some [.i (ordDd r s)] := by
  obtain ⟨si, no, at_, _, _, _, _, _, _, _, _, _, _, _, _, rfl, _⟩ := hr
  obtain ⟨si', no', at', _, _, _, _, _, _, _, _, _, _, _, _, rfl, _⟩ := hs
  refine Ret.toEq ?_
  unfold F_net_compare ordDd dRow
  (dsimp +instances only [gi0,gis,row1,rows1,int1,str1,bool1])
  refine Ret.call (Ret.eq (cmpInt_eq at_ at')) ?_
  rintro _ rfl
  refine Ret.call (Ret.eq (rfl : F_strings_Compare [.s si, .s si'] = some [.i (cmpS si si')])) ?_
  rintro _ rfl
  refine Ret.call (Ret.eq (cmpInt_eq no no')) ?_
  rintro _ rfl
  (dsimp +instances only [gi0,gis,row1,rows1,int1,str1,bool1])
  refine Ret.call (Ret.eq (or3_eq _ _ _)) ?_
  rintro _ rfl
  (dsimp +instances only [gi0,gis,row1,rows1,int1,str1,bool1])
  by_cases h : at_ = at'
  · subst h
    exact Ret.some (by simp [cmpI])
  · have := (cmpI_ne (a := at_) (b := at')).2 h
    exact Ret.some (by simp [this, h])
theorem cmpNet : Cmp KDeed F_net_compare Ded ordDd := ⟨fun _ _ hr hs => compareDd_eq hr hs, fun _ h => h.eta⟩
theorem loop_CheckDeeds4 (rows : List (List G)) (hr : ∀ z ∈ rows, Ded z) (hn : rows.length ≤ 20) :
    RetL st_net_CheckDeeds_4 [.l rows, .l rows, .i (rows.length : Int), .i 0] fun c g => (DdUp rows rows.length ∧ c = 1 ∧ g = [.l rows]) ∨ (c = 0 ∧ ∃ v, (∃ i, FirstBad rows i v) ∧ g = [.i v]) := by
  refine (range_inv (σ := Unit) (fun _ i => [.l rows, .l rows, .i (rows.length : Int), .i (i : Int)]) rows (fun _ => (1, [.l rows])) (fun _ i => DdUp rows i) (fun c g => c = 0 ∧ ∃ v, (∃ i, FirstBad rows i v) ∧ g = [.i v]) () (by omega) ⟨fun j h => by omega, fun j h => by omega⟩ ?_ ?_).mono ?_
  · intro _ i x hI hi hx hm _
    unfold st_net_CheckDeeds_4
    (dsimp +instances only [gi0,gis,row1,rows1,int1,str1,bool1])
    have ex := (hr x hm).eta
    refine Ret.pos (by (first|rfl|assumption|(simp only [inI,sl]<;>omega))) (Ret.pos (by (first|rfl|assumption|(simp only [inI,sl]<;>omega))) ?_)
    simp only [Int.toNat_natCast, hx, ex]
    refine Ret.call (Ret.eq (formed_eq (hr x hm))) ?_
    rintro _ rfl
    (dsimp +instances only [gi0,gis,row1,rows1,int1,str1,bool1])
    refine Ret.test (fun h1 => Ret.some (.inr ⟨0, _, rfl, rfl, _, ⟨i, hI, hi, .inl ⟨by rw [hx]; simpa using h1, by rw [hx]⟩⟩, rfl⟩)) fun h1 => ?_
    have h1 : faultDd x = 0 := by simpa using h1
    refine Ret.test (fun h2 => ?_) fun h2 => ?_
    · have h2 : 0 < i := by
        rw [ltI_eq, decide_eq_true_eq] at h2
        omega
      have e1 : ((i : Int) - 1).toNat = i - 1 := by omega
      have hp : rows.getD (i - 1) [] ∈ rows := getD_row (by omega)
      refine Ret.pos (by (first|rfl|assumption|(simp only [inI,sl]<;>omega))) (Ret.pos (by (first|rfl|assumption|(simp only [inI,sl]<;>omega))) ?_)
      simp only [e1, (hr _ hp).eta]
      refine Ret.call (Ret.eq (compareDd_eq (hr _ hp) (hr x hm))) ?_
      rintro _ rfl
      (dsimp +instances only [gi0,gis,row1,rows1,int1,str1,bool1])
      refine Ret.test (fun h3 => Ret.some (.inr ⟨0, _, rfl, rfl, 7, ⟨i, hI, hi, .inr ⟨by rw [hx]; exact h1, h2, by rw [leI_eq, decide_eq_true_eq] at h3; rw [hx]; omega, rfl⟩⟩, rfl⟩)) fun h3 => ?_
      refine Ret.pos (by (first|rfl|assumption|(simp only [inI,sl]<;>omega))) (Ret.some (.inl ⟨(), rfl, fun j hj => ?_, fun j hj => ?_⟩))
      · by_cases e : j = i
        · rw [e, hx, h1]
        · exact hI.1 j (by omega)
      · by_cases e : j + 1 = i
        · rw [leI_eq, decide_eq_false_iff_not] at h3
          rw [e, hx, show j = i - 1 from by omega]
          omega
        · exact hI.2 j (by omega)
    · have h2 : i = 0 := by
        rw [ltI_eq, decide_eq_false_iff_not] at h2
        omega
      refine Ret.pos (by (first|rfl|assumption|(simp only [inI,sl]<;>omega))) (Ret.some (.inl ⟨(), rfl, fun j hj => ?_, fun j hj => by omega⟩))
      rw [show j = i from by omega, hx, h1]
  · intro _ _
    unfold st_net_CheckDeeds_4
    (dsimp +instances only [gi0,gis,row1,rows1,int1,str1,bool1])
    refine Ret.neg (by (first|rfl|assumption|(simp only [inI,sl]<;>omega))) (Ret.some rfl)
  · rintro c g (⟨_, h, rfl, rfl⟩ | h)
    · exact .inl ⟨h, rfl, rfl⟩
    · exact .inr h
abbrev KOwn : List Kd := [.str, .int .i64]
theorem sameD_symm (r s : List G) : sameD r s = sameD s r := by
  unfold sameD
  rw [beq_swap (gi r 0).str.toList, beq_swap (gi r 1).int]
theorem own_same {r s : List G} (hr : Ded r) (hs : Ded s) : rowEq KOwn (gEta KOwn r) (gEta KOwn s) = sameD r s := by
  obtain ⟨_, _, _, _, _, _, _, _, _, _, _, _, _, _, _, rfl, _⟩ := hr
  obtain ⟨_, _, _, _, _, _, _, _, _, _, _, _, _, _, _, rfl, _⟩ := hs
  simp only [rowEq, gEta, gEq, sameD, dRow]
  (dsimp +instances only [gi0,gis,row1,rows1,int1,str1,bool1])
  simp [Bool.and_true, gNew, G.str, G.int]
def SeenD (m rows : List (List G)) (i : Nat) : Prop := ∀ r, Ded r → ((gi (mget KOwn m (gEta KOwn r) [.t false]) 0).bool = true ↔ ∃ j, j < i ∧ sameD (rows.getD j []) r = true)
theorem SeenD.nil (rows : List (List G)) : SeenD [] rows 0 := fun r _ => by
  rw [mget_nil]
  constructor
  · intro h; cases h
  · rintro ⟨j, hj, _⟩; omega
theorem SeenD.put {m rows : List (List G)} {i : Nat} {x : List G} (h : SeenD m rows i) (hx : Ded x) (e : rows.getD i [] = x) (c : Nat) : SeenD (mput KOwn m (gEta KOwn x) [.t true] c) rows (i + 1) := fun r hr => by
  rw [mget_mput, own_same hr hx, sameD_symm]
  cases hs : sameD x r with
  | true =>
    simp only [cond_true]
    exact ⟨fun _ => ⟨i, by omega, by rw [e]; exact hs⟩, fun _ => rfl⟩
  | false =>
    simp only [cond_false]
    rw [h r hr]
    constructor
    · rintro ⟨j, hj, h2⟩; exact ⟨j, by omega, h2⟩
    · rintro ⟨j, hj, h2⟩
      by_cases ej : j = i
      · rw [ej, e, hs] at h2; cases h2
      · exact ⟨j, by omega, h2⟩
theorem loop_CheckDeeds14 (rows : List (List G)) (hr : ∀ z ∈ rows, Ded z) (hn : rows.length ≤ 20) :
    RetL st_net_CheckDeeds_14 [.l [], .i 0, .l rows, .i (rows.length : Int), .i 0] fun c g => (DdOnce rows rows.length ∧ c = 1 ∧ g = []) ∨ (c = 0 ∧ ¬ DdOnce rows rows.length ∧ g = [.i 6]) := by
  refine (range_inv (σ := List (List G) × Nat) (fun s i => [.l s.1, .i (s.2 : Int), .l rows, .i (rows.length : Int), .i (i : Int)]) rows (fun _ => (1, [])) (fun s i => DdOnce rows i ∧ SeenD s.1 rows i) (fun c g => c = 0 ∧ ¬ DdOnce rows rows.length ∧ g = [.i 6]) ([], 0) (by omega) ⟨fun j h => by omega, SeenD.nil rows⟩ ?_ ?_).mono ?_
  · rintro ⟨m, ck⟩ i x ⟨hI, hM⟩ hi hx hm _
    have hd := hr x hm
    unfold st_net_CheckDeeds_14
    (dsimp +instances only [gi0,gis,row1,rows1,int1,str1,bool1])
    refine Ret.pos (by (first|rfl|assumption|(simp only [inI,sl]<;>omega))) (Ret.pos (by (first|rfl|assumption|(simp only [inI,sl]<;>omega))) ?_)
    simp only [Int.toNat_natCast, hx]
    refine Ret.test (fun h1 => Ret.some (.inr ⟨0, _, rfl, rfl, fun h2 => ?_, rfl⟩)) fun h1 => ?_
    · obtain ⟨j, hj, h3⟩ := (hM x hd).1 h1
      have := h2 i hi j hj
      rw [hx, h3] at this
      cases this
    · refine Ret.pos (by (first|rfl|assumption|(simp only [inI,sl]<;>omega))) (Ret.some (.inl ⟨(mput KOwn m (gEta KOwn x) [.t true] ck, mclk KOwn m (gEta KOwn x) ck), rfl, fun k hk j hj => ?_, hM.put hd hx ck⟩))
      by_cases e : k = i
      · subst e
        rw [hx]
        cases h3 : sameD (rows.getD j []) x with
        | false => rfl
        | true =>
          rw [(hM x hd).2 ⟨j, hj, h3⟩] at h1
          cases h1
      · exact hI k (by omega) j hj
  · rintro ⟨m, ck⟩ _
    unfold st_net_CheckDeeds_14
    (dsimp +instances only [gi0,gis,row1,rows1,int1,str1,bool1])
    exact Ret.neg (by (first|rfl|assumption|(simp only [inI,sl]<;>omega))) (Ret.some rfl)
  · rintro c g (⟨_, h, rfl, rfl⟩ | h)
    · exact .inl ⟨h.1, rfl, rfl⟩
    · exact .inr h
theorem checkDeeds_eq (rows : List (List G)) (hr : ∀ z ∈ rows, Ded z) (hn : rows.length ≤ 20) : F_net_CheckDeeds [.l rows] = some [.i (chkDd rows)] ∧ ChkR rows (chkDd rows) := by
  have key : Ret (F_net_CheckDeeds [.l rows]) fun g => ∃ v : Int, g = [.i v] ∧ ChkR rows v := by
    unfold F_net_CheckDeeds
    (dsimp +instances only [gi0,gis,row1,rows1,int1,str1,bool1])
    refine Ret.neg (by (first|rfl|assumption|(simp only [inI,sl]<;>omega))) ?_
    refine Ret.loop (loop_CheckDeeds4 rows hr hn) rfl ?_
    rintro c g (⟨h1, rfl, rfl⟩ | ⟨rfl, v, hv, rfl⟩)
    · refine Ret.neg rfl ?_
      refine Ret.loop (loop_CheckDeeds14 rows hr hn) rfl ?_
      rintro c g (⟨h2, rfl, rfl⟩ | ⟨rfl, hv, rfl⟩)
      · exact Ret.neg rfl (Ret.some ⟨0, rfl, .inr ⟨h1, .inl ⟨h2, rfl⟩⟩⟩)
      · exact Ret.pos rfl (Ret.some ⟨6, rfl, .inr ⟨h1, .inr ⟨hv, rfl⟩⟩⟩)
    · exact Ret.pos rfl (Ret.some ⟨v, rfl, .inl hv⟩)
  obtain ⟨_, h, v, rfl, hv⟩ := key
  have e := hv.eq
  subst e
  exact ⟨h, hv⟩
end
end Go.Proofs.SYtkdippipiidcmaaGreatDoor

namespace Go.Proofs.SYtkdippipiidcmaaGreatDoor
open Go Go.AL Go.Proofs
noncomputable section
def Int1 (r : List G) : Prop := ∃ n : Int, r = [.i n]
theorem revI_runs : ∀ (n : Nat) (mid p q : List (List G)), mid.length ≤ n → (∀ z ∈ mid, Int1 z) → p.length + mid.length + q.length < 100000 →
    RetN st_slices_Reverse_int_1 [.l (p ++ mid ++ q), .i (p.length : Int), .i ((p.length : Int) + (mid.length : Int) - 1)] (n + 1) fun c g => c = 0 ∧ g = [.l (p ++ mid.reverse ++ q)]
  | n, [], p, q, _, _, hl => by
    refine RetN.stop (x := 0) (Ret.toEq ?_) ⟨rfl, rfl⟩
    unfold st_slices_Reverse_int_1
    (dsimp +instances only [gi0,gis,row1,rows1,int1,str1,bool1])
    refine Ret.neg (by simp only [List.length_nil, ltI_eq, decide_eq_false_iff_not]; omega) ?_
    exact Ret.some (by simp)
  | n, [x], p, q, _, _, hl => by
    refine RetN.stop (x := 0) (Ret.toEq ?_) ⟨rfl, rfl⟩
    unfold st_slices_Reverse_int_1
    (dsimp +instances only [gi0,gis,row1,rows1,int1,str1,bool1])
    refine Ret.neg (by simp only [List.length_cons, List.length_nil, ltI_eq, decide_eq_false_iff_not]; omega) ?_
    exact Ret.some (by simp)
  | 0, x :: y0 :: m0, p, q, h, _, _ => by simp at h
  | n + 1, x :: y0 :: m0, p, q, h, hQ, hl => by
    obtain ⟨m, y, e⟩ : ∃ m y, y0 :: m0 = m ++ [y] := ⟨(y0 :: m0).dropLast, (y0 :: m0).getLast (by simp), (List.dropLast_concat_getLast (by simp)).symm⟩
    rw [e] at h hQ hl ⊢
    have hx : Int1 x := hQ x (by simp)
    have hy : Int1 y := hQ y (by simp)
    simp only [List.length_cons, List.length_append, List.length_nil] at h hl ⊢
    have ih := revI_runs n m (p ++ [y]) (x :: q) (by omega) (fun z hz => hQ z (by simp [hz])) (by simp; omega)
    have e1 : p ++ x :: (m ++ [y]) ++ q = p ++ x :: (m ++ y :: q) := by simp
    have e2 : p ++ x :: (m ++ y :: q) = (p ++ x :: m) ++ y :: q := by simp
    have ji : ((p.length : Int) + ((m.length + (0 + 1) + 1 : Nat) : Int) - 1).toNat = (p ++ x :: m).length := by simp; omega
    have g1 : (p ++ x :: (m ++ y :: q)).getD p.length [] = x := getD_mid _ _ _ _ _ rfl
    have g2 : (p ++ x :: (m ++ y :: q)).getD (p ++ x :: m).length [] = y := by rw [e2]; exact getD_mid _ _ _ _ _ rfl
    have s1 : (p ++ x :: (m ++ y :: q)).set p.length y = p ++ y :: (m ++ y :: q) := set_mid _ _ _ _ _ rfl
    have e3 : p ++ y :: (m ++ y :: q) = (p ++ y :: m) ++ y :: q := by simp
    have ll : (p ++ x :: m).length = (p ++ y :: m).length := by simp
    have s2 : (p ++ y :: (m ++ y :: q)).set (p ++ x :: m).length x = (p ++ y :: m) ++ x :: q := by rw [e3, ll]; exact set_mid _ _ _ _ _ rfl
    have g3 : (p ++ y :: (m ++ y :: q)).getD (p ++ x :: m).length [] = y := by rw [e3, ll]; exact getD_mid _ _ _ _ _ rfl
    have n1 : (p ++ x :: (m ++ y :: q)).length = p.length + m.length + q.length + 2 := by simp; omega
    have n2 : (p ++ y :: (m ++ y :: q)).length = p.length + m.length + q.length + 2 := by simp; omega
    have n3 : ((p ++ y :: m) ++ x :: q).length = p.length + m.length + q.length + 2 := by simp; omega
    have n4 : (p ++ x :: m).length = p.length + m.length + 1 := by simp; omega
    obtain ⟨vx, ex⟩ := hx
    obtain ⟨vy, ey⟩ := hy
    have i1 : (gi x 0).int = vx := by rw [ex]; rfl
    have i2 : (gi y 0).int = vy := by rw [ey]; rfl
    have q1 : putG [Kd.int .i64] x 0 [.i vy] = y := by rw [ex, ey]; rfl
    have q2 : putG [Kd.int .i64] y 0 [.i vx] = x := by rw [ex, ey]; rfl
    refine RetN.next (d1 := [.l ((p ++ [y]) ++ m ++ (x :: q)), .i (((p ++ [y]).length : Nat) : Int), .i ((((p ++ [y]).length : Nat) : Int) + (m.length : Int) - 1)]) (Ret.toEq ?_) (ih.mono ?_)
    · rw [e1]
      unfold st_slices_Reverse_int_1
      (dsimp +instances only [gi0,gis,row1,rows1,int1,str1,bool1])
      simp only [Nat.zero_add, Int.toNat_natCast, ji, g1, g2, i1, i2, q1, q2, s1, g3, s2, n1, n2, n3]
      (repeat(first|(refine Ret.pos ?_ ?_;(first|rfl|assumption|(simp only [inI,sl]<;>omega)))|(refine Ret.neg ?_ ?_;(first|rfl|assumption|(simp only [inI,sl]<;>omega)))))
      refine Ret.some ?_
      rw [show p ++ [y] ++ m ++ x :: q = p ++ y :: m ++ x :: q from by simp, show (((p ++ [y]).length : Nat) : Int) = (p.length : Int) + 1 from by simp, show (p.length : Int) + 1 + (m.length : Int) - 1 = (p.length : Int) + ((m.length + (0 + 1) + 1 : Nat) : Int) - 1 - 1 from by omega]
    · rintro c g ⟨rfl, rfl⟩
      exact ⟨rfl, by simp⟩
theorem revI_eq (rows : List (List G)) (hr : ∀ z ∈ rows, Int1 z) (hn : rows.length < 90000) : F_slices_Reverse_int [.l rows] = some [.l rows.reverse] := by
  refine Ret.toEq ?_
  unfold F_slices_Reverse_int
  (dsimp +instances only [gi0,gis,row1,rows1,int1,str1,bool1])
  refine Ret.pos (by (first|rfl|assumption|(simp only [inI,sl]<;>omega))) ?_
  have h := revI_runs rows.length rows [] [] (Nat.le_refl _) hr (by simp; omega)
  simp only [List.nil_append, List.append_nil, List.length_nil] at h
  have e : ((0 : Nat) : Int) + (rows.length : Int) - 1 = (rows.length : Int) - 1 := by omega
  rw [e] at h
  refine Ret.loop (h.to (by omega)) (by (first|rfl|assumption|(simp only [inI,sl]<;>omega))) ?_
  rintro _ _ ⟨rfl, rfl⟩
  (dsimp +instances only [gi0,gis,row1,rows1,int1,str1,bool1])
  (repeat(first|(refine Ret.pos ?_ ?_;(first|rfl|assumption|(simp only [inI,sl]<;>omega)))|(refine Ret.neg ?_ ?_;(first|rfl|assumption|(simp only [inI,sl]<;>omega)))))
  exact Ret.some rfl
theorem foldB_drop {st : Int → List G → List G → Option (List G)} {rows : List (List G)} (I : Nat → List G → Prop) (hst : ∀ (n : Nat) (d : List G), n < rows.length → I (n + 1) d → Ret (st (n : Int) (rows.getD n []) d) (I n)) :
    ∀ (n : Nat) (d : List G), n ≤ rows.length → I n d → Ret (foldB st rows n d) (I 0)
  | 0, d, _, h => Ret.some h
  | n + 1, d, hn, h => by
    obtain ⟨d', h1, h2⟩ := hst n d (by omega) h
    simp only [foldB, h1]
    exact foldB_drop I hst n d' (by omega) h2
def tgt (r : List G) : List G := [.s (gi r 13).str, .i (gi r 14).int]
def inU (k : List G) (u : List (List G)) : Bool := u.any fun o => rowEq KOwn k o
def uA (a : Int) : List (List G) → List (List G)
  | [] => []
  | x :: l => bif ltI a (gi x 2).int || inU (gEta KOwn x) (uA a l) then uA a l else bif (gi x 3).int == 5 then tgt x :: uA a l else uA a l
def cntD (a : Int) (x : List G) (l : List (List G)) : Bool := !(ltI a (gi x 2).int || inU (gEta KOwn x) (uA a l))
def cA (a : Int) : Nat → List (List G) → List (List G)
  | _, [] => []
  | i, x :: l => bif cntD a x l then [.i (i : Int)] :: cA a (i + 1) l else cA a (i + 1) l
theorem uA_cons (a : Int) (x : List G) (l : List (List G)) : uA a (x :: l) = bif cntD a x l && (gi x 3).int == 5 then tgt x :: uA a l else uA a l := by
  simp only [uA, cntD]
  cases ltI a (gi x 2).int || inU (gEta KOwn x) (uA a l) <;> rfl
theorem cA_length (a : Int) : ∀ (i : Nat) (l : List (List G)), (cA a i l).length ≤ l.length
  | _, [] => Nat.le_refl _
  | i, x :: l => by
    simp only [cA]
    have := cA_length a (i + 1) l
    cases cntD a x l <;> simp only [cond_true, cond_false, List.length_cons] <;> omega
theorem cA_mem {a : Int} : ∀ {i : Nat} {l : List (List G)} {z : List G}, z ∈ cA a i l → ∃ j : Nat, z = [.i (j : Int)] ∧ i ≤ j ∧ j < i + l.length
  | _, [], z, h => by simp [cA] at h
  | i, x :: l, z, h => by
    have rec_ : z ∈ cA a (i + 1) l → ∃ j : Nat, z = [.i (j : Int)] ∧ i ≤ j ∧ j < i + (x :: l).length := fun h => by
      obtain ⟨j, e, h1, h2⟩ := cA_mem h
      exact ⟨j, e, by omega, by simp only [List.length_cons]; omega⟩
    simp only [cA] at h
    cases hc : cntD a x l with
    | false => rw [hc] at h; exact rec_ h
    | true =>
      rw [hc] at h
      rcases List.mem_cons.1 h with rfl | h
      · exact ⟨i, rfl, Nat.le_refl _, by simp only [List.length_cons]; omega⟩
      · exact rec_ h
def UndoM (m u : List (List G)) : Prop := ∀ k, (gi (mget KOwn m k [.t false]) 0).bool = inU k u
theorem UndoM.nil : UndoM [] [] := fun k => by rw [mget_nil]; rfl
theorem UndoM.put {m u : List (List G)} (h : UndoM m u) (t : List G) (c : Nat) : UndoM (mput KOwn m t [.t true] c) (t :: u) := fun k => by
  rw [mget_mput]
  simp only [inU, List.any_cons]
  cases hk : rowEq KOwn k t with
  | true => rfl
  | false =>
    simp only [cond_false, Bool.false_or]
    exact h k
theorem counting_eq (rows : List (List G)) (a : Int) (hr : ∀ z ∈ rows, Ded z) (hn : rows.length ≤ 1000) : F_net_counting [.l rows, .i a] = some [.l (cA a 0 rows)] := by
  refine Ret.toEq ?_
  unfold F_net_counting
  (dsimp +instances only [gi0,gis,row1,rows1,int1,str1,bool1])
  have key : Ret (tl_net_counting_3 [.i a, .l [], .i 0, .l rows]) fun o => ∃ x, o.1 = some x ∧ o.2 = [.l (cA a 0 rows)] := by
    unfold tl_net_counting_3 backR
    have rows3 : (gi [G.i a, G.l [], G.i 0, G.l rows] 3).rows = rows := rfl
    have hI := foldB_drop (st := br_net_counting_3) (rows := rows) (fun n d => ∃ m c, d = [.i a, .l m, .i c, .l (cA a n (rows.drop n)).reverse] ∧ UndoM m (uA a (rows.drop n))) (fun n d hlt hd => by
      obtain ⟨m, c, rfl, hm⟩ := hd
      have hx : rows.getD n [] ∈ rows := getD_row hlt
      have ed : rows.drop n = rows.getD n [] :: rows.drop (n + 1) := by
        rw [List.drop_eq_getElem_cons hlt, List.getD_eq_getElem?_getD, List.getElem?_eq_getElem hlt]
        rfl
      rw [ed]
      generalize rows.getD n [] = x at hx
      have hlen := cA_length a (n + 1) (rows.drop (n + 1))
      rw [List.length_drop] at hlen
      unfold br_net_counting_3
      (dsimp +instances only [gi0,gis,row1,rows1,int1,str1,bool1])
      have hk := hm (gEta KOwn x)
      simp only [cA, uA_cons]
      refine Ret.test (fun h1 => ?_) fun h1 => ?_
      · have e : cntD a x (rows.drop (n + 1)) = false := by unfold cntD; rw [h1]; rfl
        rw [e]
        exact Ret.pos (by simp) (Ret.some ⟨m, _, rfl, hm⟩)
      refine Ret.test (fun h2 => ?_) fun h2 => ?_
      · have e : cntD a x (rows.drop (n + 1)) = false := by unfold cntD; rw [← hk, h2, Bool.or_true]; rfl
        rw [e]
        exact Ret.pos (by simp) (Ret.some ⟨m, _, rfl, hm⟩)
      have e : cntD a x (rows.drop (n + 1)) = true := by unfold cntD; rw [← hk, h2, h1]; rfl
      rw [e]
      refine Ret.pos (by simp only [sl, List.length_reverse]; simp; omega) ?_
      refine Ret.test (fun h3 => ?_) fun h3 => ?_
      · rw [h3]
        exact Ret.pos (by simp) (Ret.some ⟨mput KOwn m (tgt x) [.t true] c.toNat, ((mclk KOwn m (tgt x) c.toNat : Nat) : Int), by simp only [cond_true, List.reverse_cons]; rfl, hm.put (tgt x) _⟩)
      · rw [h3]
        exact Ret.pos (by simp) (Ret.some ⟨m, ((c.toNat : Nat) : Int), by simp only [Bool.and_false, cond_true, cond_false, List.reverse_cons], hm⟩)) rows.length (bi_net_counting_3 [.i a, .l [], .i 0, .l rows]) (Nat.le_refl _) ⟨[], _, by rw [List.drop_length]; rfl, by rw [List.drop_length]; exact UndoM.nil⟩
    obtain ⟨d, hd, m, c, rfl, _⟩ := hI
    rw [rows3]
    refine Ret.pos (by simp [bs_net_counting_3, bd_net_counting_3]; omega) ?_
    have hd' : foldB bs_net_counting_3.st rows rows.length (bs_net_counting_3.init [.i a, .l [], .i 0, .l rows]) = some [.i a, .l m, .i c, .l (cA a 0 (rows.drop 0)).reverse] := hd
    rw [hd']
    simp only [Option.bind_some, List.drop_zero]
    unfold tr_net_counting_3
    (dsimp +instances only [gi0,gis,row1,rows1,int1,str1,bool1])
    have hlen := cA_length a 0 rows
    refine Ret.callb (Ret.eq (revI_eq (cA a 0 rows).reverse (fun z hz => by
      obtain ⟨j, e, _⟩ := cA_mem (List.mem_reverse.1 hz)
      exact ⟨_, e⟩) (by rw [List.length_reverse]; omega))) (by simp) ?_
    rintro _ rfl
    (dsimp +instances only [gi0,gis,row1,rows1,int1,str1,bool1])
    exact Ret.pos (by simp) (Ret.some ⟨0, rfl, by rw [List.reverse_reverse]⟩)
  refine Ret.tail (P := fun _ g => g = [.l (cA a 0 rows)]) (key.mono ?_) (by simp) ?_
  · rintro o ⟨x, h1, h2⟩
    exact ⟨x, h1, h2⟩
  rintro _ _ rfl
  (dsimp +instances only [gi0,gis,row1,rows1,int1,str1,bool1])
  exact Ret.pos (by simp) (Ret.some rfl)
end
end Go.Proofs.SYtkdippipiidcmaaGreatDoor

namespace Go.Proofs.SYtkdippipiidcmaaGreatDoor
open Go Go.AL Go.Proofs
noncomputable section
theorem getD_drop_cons {rows : List (List G)} {n : Nat} (h : n < rows.length) : rows.drop n = rows.getD n [] :: rows.drop (n + 1) := by
  rw [List.drop_eq_getElem_cons h, List.getD_eq_getElem?_getD, List.getElem?_eq_getElem h]
  rfl
theorem own_tgt (x y : List G) (hy : Ded y) : rowEq KOwn (gEta KOwn y) (tgt x) = (((gi x 13).str.toList == (gi y 0).str.toList) && ((gi x 14).int == (gi y 1).int)) := by
  obtain ⟨_, _, _, _, _, _, _, _, _, _, _, _, _, _, _, rfl, _⟩ := hy
  unfold dRow tgt
  generalize (gi x 13).str = s
  generalize (gi x 14).int = n
  simp only [rowEq, gEta, gEq]
  (dsimp +instances only [gi0,gis,row1,rows1,int1,str1,bool1])
  rw [beq_swap s.toList, beq_swap n]
  simp [Bool.and_true, gNew, G.str, G.int]
theorem inU_cons (a : Int) (k x : List G) (l : List (List G)) : inU k (uA a (x :: l)) = ((cntD a x l && (gi x 3).int == 5 && rowEq KOwn k (tgt x)) || inU k (uA a l)) := by
  rw [uA_cons]
  cases cntD a x l && (gi x 3).int == 5 with
  | false => simp
  | true => simp only [cond_true, Bool.true_and]; simp only [inU, List.any_cons]
def Till (a : Int) (rows : List (List G)) : Prop := ∀ z ∈ rows, Ded z ∧ ltI a (gi z 2).int = false
theorem cntD_till {a : Int} {x : List G} (h : ltI a (gi x 2).int = false) (l : List (List G)) : cntD a x l = !inU (gEta KOwn x) (uA a l) := by
  unfold cntD
  rw [h, Bool.false_or]
theorem counts_eq (a : Int) (rows : List (List G)) (hr : Till a rows) (hn : rows.length ≤ 1000) : ∀ (n i : Nat), i < rows.length → rows.length ≤ i + n →
    F_pileref2_CountingOf_1_n n [.l rows, .i (i : Int)] = some [.l rows, .t (cntD a (rows.getD i []) (rows.drop (i + 1)))]
  | 0, i, h1, h2 => by omega
  | n + 1, i, h1, h2 => by
    have ih := counts_eq a rows hr hn n
    refine Ret.toEq ?_
    unfold F_pileref2_CountingOf_1_n F_pileref2_CountingOf_1_r
    (dsimp +instances only [gi0,gis,row1,rows1,int1,str1,bool1])
    have hx := hr _ (getD_row h1)
    generalize hxx : rows.getD i [] = x at hx
    refine Ret.pos (by (first|rfl|assumption|(simp only [inI,sl]<;>omega))) ?_
    refine Ret.loop (P := fun c g => (c = 1 ∧ cntD a x (rows.drop (i + 1)) = true ∧ g = [.l rows]) ∨ (c = 0 ∧ cntD a x (rows.drop (i + 1)) = false ∧ g = [.l rows, .t false]))
      (((count_runs (σ := Unit) (fun _ k => [.l rows, .i (i : Int), .i (k : Int)]) rows.length (fun _ => (1, [.l rows])) (fun _ k => i + 1 ≤ k ∧ inU (gEta KOwn x) (uA a (rows.drop (i + 1))) = inU (gEta KOwn x) (uA a (rows.drop k))) (fun c g => c = 0 ∧ cntD a x (rows.drop (i + 1)) = false ∧ g = [.l rows, .t false])
        ?_ ?_ (rows.length - (i + 1)) () (i + 1) (by omega) ⟨Nat.le_refl _, rfl⟩).to (by omega)).mono ?_) (by simp) ?_
    · rintro _ k ⟨hk0, hI⟩ hk
      have hy := hr _ (getD_row hk)
      rw [getD_drop_cons hk, inU_cons] at hI
      unfold st_pileref2_CountingOf_1_2
      (dsimp +instances only [gi0,gis,row1,rows1,int1,str1,bool1])
      simp only [Int.toNat_natCast, Nat.zero_add, hxx]
      have hcy := ih k hk (by omega)
      generalize rows.getD k [] = y at hy hI hcy
      rw [own_tgt y x hx.1] at hI
      have go : (cntD a y (rows.drop (k + 1)) && (gi y 3).int == 5 && (((gi y 13).str.toList == (gi x 0).str.toList) && ((gi y 14).int == (gi x 1).int))) = false →
          Ret (bif inI ((k : Int) + 1) then (bif ((((Nat.beq rows.length rows.length) && true) && true) && true) then (some (none, [G.l rows, .i (i : Int), .i ((k : Int) + 1)]) : Option (Option Nat × List G)) else none) else none) fun o =>
            (∃ s', o = (none, [.l rows, .i (i : Int), .i ((k + 1 : Nat) : Int)]) ∧ i + 1 ≤ k + 1 ∧ inU (gEta KOwn x) (uA a (rows.drop (i + 1))) = inU (gEta KOwn x) (uA a (rows.drop (k + 1)))) ∨ ∃ c g, o = (some c, g) ∧ c = 0 ∧ cntD a x (rows.drop (i + 1)) = false ∧ g = [.l rows, .t false] := fun h => by
        refine Ret.pos (by (first|rfl|assumption|(simp only [inI,sl]<;>omega))) (Ret.pos (by simp) (Ret.some (.inl ⟨(), rfl, by omega, ?_⟩)))
        rw [hI, h, Bool.false_or]
      have hk' : k < rows.length := hk
      refine Ret.pos (by (first|rfl|assumption|(simp only [inI,sl]<;>omega))) (Ret.pos (by (first|rfl|assumption|(simp only [inI,sl]<;>omega))) (Ret.pos (by (first|rfl|assumption|(simp only [inI,sl]<;>omega))) ?_))
      refine Ret.test (fun h3 => ?_) fun h3 => go (by rw [h3]; simp)
      refine Ret.pos (by (first|rfl|assumption|(simp only [inI,sl]<;>omega))) (Ret.pos (by (first|rfl|assumption|(simp only [inI,sl]<;>omega))) (Ret.pos (by (first|rfl|assumption|(simp only [inI,sl]<;>omega))) (Ret.pos (by (first|rfl|assumption|(simp only [inI,sl]<;>omega))) ?_)))
      refine Ret.test (fun h4 => ?_) fun h4 => go (by rw [h4]; simp)
      refine Ret.pos (by (first|rfl|assumption|(simp only [inI,sl]<;>omega))) (Ret.pos (by (first|rfl|assumption|(simp only [inI,sl]<;>omega))) (Ret.pos (by (first|rfl|assumption|(simp only [inI,sl]<;>omega))) (Ret.pos (by (first|rfl|assumption|(simp only [inI,sl]<;>omega))) ?_)))
      refine Ret.test (fun h5 => ?_) fun h5 => go (by rw [h5]; simp)
      refine Ret.callb (Ret.eq hcy) (by simp) ?_
      rintro _ rfl
      (dsimp +instances only [gi0,gis,row1,rows1,int1,str1,bool1])
      refine Ret.test (fun h6 => ?_) fun h6 => go (by rw [h6]; simp)
      refine Ret.pos (by simp) (Ret.some (.inr ⟨0, _, rfl, rfl, ?_, rfl⟩))
      rw [cntD_till hx.2, hI, h3, h4, h5, h6]
      rfl
    · rintro _ ⟨_, hI⟩
      unfold st_pileref2_CountingOf_1_2
      (dsimp +instances only [gi0,gis,row1,rows1,int1,str1,bool1])
      exact Ret.neg (by (first|rfl|assumption|(simp only [inI,sl]<;>omega))) (Ret.pos (by simp) (Ret.some rfl))
    · rintro c g (⟨_, ⟨_, hI⟩, rfl, rfl⟩ | h)
      · refine .inl ⟨rfl, ?_, rfl⟩
        rw [cntD_till hx.2, hI, List.drop_length]
        rfl
      · exact .inr h
    · rintro c g (⟨rfl, hc, rfl⟩ | ⟨rfl, hc, rfl⟩)
      · exact Ret.neg rfl (Ret.pos (by simp) (Ret.some (by rw [hc]; rfl)))
      · exact Ret.pos rfl (Ret.pos (by simp) (Ret.some (by rw [hc]; rfl)))
/-! ### Deeds that come later -/
theorem late_nil {a : Int} : ∀ {q : List (List G)} (i : Nat), (∀ z ∈ q, ltI a (gi z 2).int = true) → uA a q = [] ∧ cA a i q = []
  | [], _, _ => ⟨rfl, rfl⟩
  | x :: q, i, h => by
    obtain ⟨h1, _⟩ := late_nil (q := q) i fun z hz => h z (List.mem_cons_of_mem _ hz)
    obtain ⟨_, h2⟩ := late_nil (q := q) (i + 1) fun z hz => h z (List.mem_cons_of_mem _ hz)
    have e : cntD a x q = false := by unfold cntD; rw [h x List.mem_cons_self]; rfl
    exact ⟨by rw [uA_cons, e, h1]; rfl, by simp only [cA, e, h2, cond_false]⟩
theorem late_app {a : Int} {q : List (List G)} (h : ∀ z ∈ q, ltI a (gi z 2).int = true) : ∀ (p : List (List G)) (i : Nat), uA a (p ++ q) = uA a p ∧ cA a i (p ++ q) = cA a i p
  | [], i => by
    obtain ⟨h1, h2⟩ := late_nil i h
    exact ⟨by simpa [uA] using h1, by simpa [cA] using h2⟩
  | x :: p, i => by
    obtain ⟨h1, h2⟩ := late_app h p (i + 1)
    have e : cntD a x (p ++ q) = cntD a x p := by unfold cntD; rw [h1]
    exact ⟨by rw [List.cons_append, uA_cons, uA_cons, e, h1], by simp only [List.cons_append, cA, e, h2]⟩
theorem ordDd_at {r s : List G} (h : ordDd r s < 0) : (gi r 2).int ≤ (gi s 2).int := by
  unfold ordDd at h
  split at h
  · unfold cmpI at h
    split at h
    · omega
    · split at h <;> omega
  · omega
theorem up_split (a : Int) : ∀ (rows : List (List G)), (∀ k, k + 1 < rows.length → ordDd (rows.getD k []) (rows.getD (k + 1) []) < 0) → ∃ p q, rows = p ++ q ∧ (∀ z ∈ p, ltI a (gi z 2).int = false) ∧ ∀ z ∈ q, ltI a (gi z 2).int = true
  | [], _ => ⟨[], [], rfl, by simp, by simp⟩
  | x :: l, h => by
    obtain ⟨p, q, e, h1, h2⟩ := up_split a l fun k hk => by
      have := h (k + 1) (by simpa using hk)
      simpa using this
    cases hx : ltI a (gi x 2).int with
    | false => exact ⟨x :: p, q, by rw [e]; rfl, fun z hz => by rcases List.mem_cons.1 hz with rfl | hz; exact hx; exact h1 z hz, h2⟩
    | true =>
      cases p with
      | nil => exact ⟨[], x :: q, by rw [e]; rfl, by simp, fun z hz => by rcases List.mem_cons.1 hz with rfl | hz; exact hx; exact h2 z hz⟩
      | cons y p =>
        have h3 := h 0 (by rw [e]; simp)
        rw [e] at h3
        have h4 := ordDd_at h3
        have h5 := h1 y List.mem_cons_self
        rw [ltI_eq, decide_eq_false_iff_not] at h5
        rw [ltI_eq, decide_eq_true_eq] at hx
        simp only [List.getD_cons_zero, List.cons_append, List.getD_cons_succ] at h4
        omega
theorem countingOf_eq (rows : List (List G)) (a : Int) (hr : ∀ z ∈ rows, Ded z) (hn : rows.length ≤ 40) (hu : ∀ k, k + 1 < rows.length → ordDd (rows.getD k []) (rows.getD (k + 1) []) < 0) :
    F_pileref2_CountingOf [.l rows, .i a] = some [.l (cA a 0 rows)] := by
  obtain ⟨p, q, rfl, hp, hq⟩ := up_split a rows hu
  rw [(late_app hq p 0).2]
  have hT : Till a p := fun z hz => ⟨hr z (List.mem_append_left _ hz), hp z hz⟩
  have hpl : p.length ≤ 40 := by rw [List.length_append] at hn; omega
  have hf : (p ++ q).filter (fun r => leI (gi r 2).int a) = p := by
    rw [List.filter_append, List.filter_eq_self.2 (fun z hz => by
      have := hp z hz
      rw [ltI_eq, decide_eq_false_iff_not] at this
      rw [leI_eq, decide_eq_true_eq]; omega), List.filter_eq_nil_iff.2 (fun z hz => by
      have := hq z hz
      rw [ltI_eq, decide_eq_true_eq] at this
      rw [leI_eq, decide_eq_true_eq]; omega), List.append_nil]
  refine Ret.toEq ?_
  unfold F_pileref2_CountingOf
  (dsimp +instances only [gi0,gis,row1,rows1,int1,str1,bool1])
  refine Ret.loop (P := fun c g => g = [.l p]) ((range_all (σ := List (List G)) (fun s i => [.l s, .i a, .l (p ++ q), .i ((p ++ q).length : Int), .i (i : Int)]) (p ++ q) (fun s => (0, [.l s])) (fun s i => s = ((p ++ q).take i).filter fun r => leI (gi r 2).int a) [] (by omega) (by simp) ?_ ?_).mono ?_) (by simp) ?_
  · rintro s i x hs hi hx hm ht
    have hl := List.length_filter_le (fun r => leI (gi r 2).int a) ((p ++ q).take i)
    rw [← hs, List.length_take] at hl
    have hs40 : s.length ≤ 40 := by omega
    have hi' : i < p.length + q.length := by rw [← List.length_append]; exact hi
    unfold st_pileref2_CountingOf_3
    (dsimp +instances only [gi0,gis,row1,rows1,int1,str1,bool1])
    simp only [Int.toNat_natCast, hx, (hr x hm).eta]
    have en : ((p ++ q).take (i + 1)).filter (fun r => leI (gi r 2).int a) = bif leI (gi x 2).int a then s ++ [x] else s := by
      rw [ht, List.filter_append, ← hs]
      cases h : leI (gi x 2).int a <;> simp [h]
    refine Ret.pos (by (first|rfl|assumption|(simp only [inI,sl]<;>omega))) (Ret.pos (by (first|rfl|assumption|(simp only [inI,sl]<;>omega))) ?_)
    refine Ret.test (fun h => ?_) fun h => ?_
    · rw [h] at en
      exact Ret.pos (by simp only [sl, List.length_append, List.length_cons, List.length_nil]; simp; omega) (Ret.pos (by (first|rfl|assumption|(simp only [inI,sl]<;>omega))) (Ret.pos (by simp) (Ret.some ⟨s ++ [x], rfl, en.symm⟩)))
    · rw [h] at en
      exact Ret.pos (by (first|rfl|assumption|(simp only [inI,sl]<;>omega))) (Ret.pos (by simp) (Ret.some ⟨s, rfl, en.symm⟩))
  · rintro s _
    unfold st_pileref2_CountingOf_3
    (dsimp +instances only [gi0,gis,row1,rows1,int1,str1,bool1])
    exact Ret.neg (by (first|rfl|assumption|(simp only [inI,sl]<;>omega))) (Ret.pos (by simp) (Ret.some rfl))
  · rintro c g ⟨s, hs, rfl, rfl⟩
    rw [hs, List.take_length, hf]
  rintro _ _ rfl
  (dsimp +instances only [gi0,gis,row1,rows1,int1,str1,bool1])
  refine Ret.loop (P := fun c g => g = [.l (cA a 0 p)]) ((range_all (σ := List (List G)) (fun s i => [.l p, .l s, .i (p.length : Int), .i (i : Int)]) p (fun s => (0, [.l s])) (fun s i => s.length ≤ i ∧ s ++ cA a i (p.drop i) = cA a 0 p) [] (by omega) ⟨Nat.le_refl _, by simp⟩ ?_ ?_).mono ?_) (by simp) ?_
  · rintro s i x ⟨hl, hs⟩ hi hx hm ht
    rw [getD_drop_cons hi, hx] at hs
    simp only [cA] at hs
    unfold st_pileref2_CountingOf_12
    (dsimp +instances only [gi0,gis,row1,rows1,int1,str1,bool1])
    have hc := counts_eq a p hT (by omega) 40 i hi (by omega)
    rw [hx] at hc
    refine Ret.pos (by (first|rfl|assumption|(simp only [inI,sl]<;>omega))) (Ret.callb (Ret.eq (show F_pileref2_CountingOf_1 [.l p, .i (i : Int)] = _ from hc)) (by simp) ?_)
    rintro _ rfl
    (dsimp +instances only [gi0,gis,row1,rows1,int1,str1,bool1])
    refine Ret.test (fun h => ?_) fun h => ?_
    · rw [h] at hs
      exact Ret.pos (by simp only [sl, List.length_append, List.length_cons, List.length_nil]; simp; omega) (Ret.pos (by (first|rfl|assumption|(simp only [inI,sl]<;>omega))) (Ret.pos (by simp) (Ret.some ⟨s ++ [[.i (i : Int)]], rfl, by simp; omega, by simpa using hs⟩)))
    · rw [h] at hs
      exact Ret.pos (by (first|rfl|assumption|(simp only [inI,sl]<;>omega))) (Ret.pos (by simp) (Ret.some ⟨s, rfl, by omega, by simpa using hs⟩))
  · rintro s ⟨hl, _⟩
    unfold st_pileref2_CountingOf_12
    (dsimp +instances only [gi0,gis,row1,rows1,int1,str1,bool1])
    exact Ret.neg (by (first|rfl|assumption|(simp only [inI,sl]<;>omega))) (Ret.pos (by simp) (Ret.some rfl))
  · rintro c g ⟨s, ⟨_, hs⟩, rfl, rfl⟩
    rw [List.drop_length] at hs
    rw [← hs]
    simp [cA]
  rintro _ _ rfl
  (dsimp +instances only [gi0,gis,row1,rows1,int1,str1,bool1])
  exact Ret.pos (by simp) (Ret.some rfl)
end
end Go.Proofs.SYtkdippipiidcmaaGreatDoor

namespace Go.Proofs.SYtkdippipiidcmaaGreatDoor
open Go Go.AL Go.Proofs
noncomputable section
theorem ordDd_or (r s : List G) : ordDd r s = or2 (cmpI (gi r 2).int (gi s 2).int) (or2 (cmpS (gi r 0).str (gi s 0).str) (cmpI (gi r 1).int (gi s 1).int)) := by
  unfold ordDd or2
  by_cases h : (gi r 2).int = (gi s 2).int
  · have e : cmpI (gi r 2).int (gi s 2).int = 0 := by rw [h]; simp [cmpI]
    simp [h, e, cmpI]
  · have := (cmpI_ne (a := (gi r 2).int) (b := (gi s 2).int)).2 h
    simp [h, this]
theorem ordDd_flip (r s : List G) : ordDd s r = - ordDd r s := by
  rw [ordDd_or, ordDd_or]
  exact or2_flip (ordrI.flip _ _) (or2_flip (ordrS.flip _ _) (ordrI.flip _ _))
theorem ordDd_le (a b d : List G) (h1 : ordDd a b ≤ 0) (h2 : ordDd b d ≤ 0) : ordDd a d ≤ 0 := by
  rw [ordDd_or] at *
  exact or2_le ordrI _ _ _ _ _ _ h1 h2 fun g1 g2 => or2_le ordrS _ _ _ _ _ _ g1 g2 fun k1 k2 => ordrI.le _ _ _ k1 k2
theorem linDd : Lin (ltC ordDd) (fun _ => True) := lin_of (fun a b => ordDd_flip a b) ordDd_le
theorem sameD_iff {a b : List G} : sameD a b = true ↔ (gi a 0).str = (gi b 0).str ∧ (gi a 1).int = (gi b 1).int := by
  unfold sameD
  rw [Bool.and_eq_true, beq_iff_eq, beq_iff_eq]
  constructor
  · rintro ⟨h1, h2⟩
    have := str_eq (gi a 0).str (gi b 0).str
    rw [h1, beq_self_eq_true] at this
    exact ⟨ordrS.eq _ _ (by simpa using this.symm), h2⟩
  · rintro ⟨h1, h2⟩
    rw [h1]
    exact ⟨rfl, h2⟩
theorem ordDd_zero {a b : List G} (h : ordDd a b = 0) : sameD a b = true := by
  rw [ordDd_or] at h
  unfold or2 at h
  split at h
  · rename_i h1; exact (h1 h).elim
  · split at h
    · rename_i h1; exact (h1 h).elim
    · rename_i h2
      exact sameD_iff.2 ⟨ordrS.eq _ _ (by simpa using h2), ordrI.eq _ _ h⟩
def Apart (l : List (List G)) : Prop := l.Pairwise fun a b => sameD a b = false
theorem DdOnce.apart {rows : List (List G)} (h : DdOnce rows rows.length) : Apart rows := by
  unfold Apart
  rw [List.pairwise_iff_getElem]
  intro i j hi hj hij
  have := h j hj i hij
  rw [List.getD_eq_getElem?_getD, List.getD_eq_getElem?_getD, List.getElem?_eq_getElem hi, List.getElem?_eq_getElem hj] at this
  exact this
theorem Apart.inj {l : List (List G)} (h : Apart l) : ∀ a ∈ l, ∀ b ∈ l, sameD a b = true → a = b := by
  intro a ha b hb e
  refine inj_of_pairwise (f := fun r : List G => ((gi r 0).str, (gi r 1).int)) (List.Pairwise.imp ?_ h) a ha b hb ?_
  · intro x y hxy he
    rw [(sameD_iff (a := x) (b := y)).2 ⟨congrArg Prod.fst he, congrArg Prod.snd he⟩] at hxy
    cases hxy
  · obtain ⟨h1, h2⟩ := sameD_iff.1 e
    exact Prod.ext h1 h2
theorem Apart.zero {l : List (List G)} (h : Apart l) : ∀ a ∈ l, ∀ b ∈ l, ltC ordDd a b = false → ltC ordDd b a = false → a = b := by
  intro a ha b hb h1 h2
  unfold ltC at h1 h2
  rw [ltI_eq, decide_eq_false_iff_not] at h1 h2
  have := ordDd_flip a b
  exact h.inj a ha b hb (ordDd_zero (by omega))
theorem Apart.sort {l : List (List G)} (h : Apart l) : Apart (sortA (ltC ordDd) l) := (sortA_perm (lt := ltC ordDd) l).symm.pairwise h (fun e => by rw [sameD_symm]; exact e)
def mrg : List (List G) → List (List G) → Option (List (List G))
  | out, [] => some out
  | out, x :: l => match out.find? fun o => sameD o x with
    | none => mrg (out ++ [x]) l
    | some o => bif rowEq KDeed o x then mrg out l else none
theorem find_none {out : List (List G)} {x : List G} (h : (out.find? fun o => sameD o x) = none) : ∀ o ∈ out, sameD o x = false := fun o ho => by
  have := List.find?_eq_none.1 h o ho
  simpa using this
theorem Apart.snoc {out : List (List G)} {x : List G} (h : Apart out) (hx : ∀ o ∈ out, sameD o x = false) : Apart (out ++ [x]) := by
  unfold Apart
  rw [List.pairwise_append]
  exact ⟨h, by simp, fun a ha b hb => by simp at hb; rw [hb]; exact hx a ha⟩
theorem mrg_ok : ∀ {l out o : List (List G)}, mrg out l = some o → Apart out → (∀ z ∈ out, Ded z) → (∀ z ∈ l, Ded z) → Apart o ∧ (∀ z ∈ o, Ded z) ∧ o.length ≤ out.length + l.length
  | [], out, o, h, h1, h2, _ => by
    simp only [mrg, Option.some.injEq] at h
    subst h
    exact ⟨h1, h2, by simp⟩
  | x :: l, out, o, h, h1, h2, h3 => by
    simp only [mrg] at h
    split at h
    · rename_i hn
      obtain ⟨g1, g2, g3⟩ := mrg_ok h (h1.snoc (find_none hn)) (fun z hz => by
        rcases List.mem_append.1 hz with hz | hz
        · exact h2 z hz
        · simp at hz; rw [hz]; exact h3 x List.mem_cons_self) (fun z hz => h3 z (List.mem_cons_of_mem _ hz))
      exact ⟨g1, g2, by simp at g3 ⊢; omega⟩
    · rename_i y hs
      cases he : rowEq KDeed y x with
      | false => rw [he] at h; cases h
      | true =>
        rw [he] at h
        obtain ⟨g1, g2, g3⟩ := mrg_ok h h1 h2 (fun z hz => h3 z (List.mem_cons_of_mem _ hz))
        exact ⟨g1, g2, by simp; omega⟩
theorem mrg_apart : ∀ {l out r : List (List G)}, Apart (out ++ l) → mrg out (l ++ r) = mrg (out ++ l) r
  | [], out, r, _ => by simp
  | x :: l, out, r, h => by
    have hn : (out.find? fun o => sameD o x) = none := List.find?_eq_none.2 fun o ho => by
      have := (List.pairwise_append.1 h).2.2 o ho x List.mem_cons_self
      rw [this]; simp
    have e : out ++ x :: l = (out ++ [x]) ++ l := by simp
    simp only [List.cons_append, mrg, hn]
    rw [e, mrg_apart (by rw [← e]; exact h)]
/-! ### The program's -/
def zD : List G := [.s (⟨#[]⟩ : ByteArray), .i 0, .i 0, .i 0, .i 0, .i 0, .s (⟨#[]⟩ : ByteArray), .s (⟨#[]⟩ : ByteArray), .i 0, .i 0, .s (⟨#[]⟩ : ByteArray), .s (⟨#[]⟩ : ByteArray), .s (⟨#[]⟩ : ByteArray), .s (⟨#[]⟩ : ByteArray), .i 0]
def ByNo (m out : List (List G)) : Prop := ∀ r, Ded r → mhas KOwn m (gEta KOwn r) = (out.find? fun o => sameD o r).isSome ∧ ∀ o, (out.find? fun o => sameD o r) = some o → mget KOwn m (gEta KOwn r) zD = o
theorem ByNo.nil : ByNo [] [] := fun r _ => ⟨rfl, fun o h => by cases h⟩
theorem ByNo.put {m out : List (List G)} {x : List G} (h : ByNo m out) (hx : Ded x) (hn : (out.find? fun o => sameD o x) = none) (c : Nat) : ByNo (mput KOwn m (gEta KOwn x) (gEta KDeed x) c) (out ++ [x]) := fun r hr => by
  obtain ⟨h1, h2⟩ := h r hr
  rw [mhas_mput, mget_mput, own_same hr hx, sameD_symm r x, List.find?_append]
  cases hs : sameD x r with
  | true =>
    have hn' : (out.find? fun o => sameD o r) = none := List.find?_eq_none.2 fun o ho hor => by
      have h3 := sameD_iff.1 hs
      have h4 := sameD_iff.1 hor
      have h5 := find_none hn o ho
      rw [sameD_iff.2 ⟨h4.1.trans h3.1.symm, h4.2.trans h3.2.symm⟩] at h5
      cases h5
    rw [hn']
    simp [hs, hx.eta]
  | false =>
    simp only [Bool.false_or, cond_false]
    have e : ([x].find? fun o => sameD o r) = none := by simp [hs]
    rw [e, Option.or_none]
    exact ⟨h1, h2⟩
theorem sortDd1 (rows : List (List G)) (hr : ∀ y ∈ rows, Ded y) (ha : Apart rows) (hn : rows.length < 100000) : F_slices_SortFunc_Deed [.l rows] = some [.l (sortA (ltC ordDd) rows)] :=
  sortG_eq (C := F_net_compare) (Q := Ded) cmpNet.sgn (linDd.mono fun _ _ => trivial) rows hr hn ha.zero
theorem sortDd2 (rows : List (List G)) (hr : ∀ y ∈ rows, Ded y) (ha : Apart rows) (hn : rows.length < 100000) : F_slices_SortFunc_Deed_2 [.l rows] = some [.l (sortA (ltC ordDd) rows)] :=
  sortG_eq (C := F_pileref2_DeedOrder) (Q := Ded) cmpDeeds.sgn (linDd.mono fun _ _ => trivial) rows hr hn ha.zero
theorem concatD_eq (a b : List (List G)) (h : a.length + b.length ≤ 1000) : F_slices_Concat_Deed [.l [[.l a], [.l b]]] = some [.l (a ++ b)] := by
  have h := concF_eq (K := KDeed) (Z := zD) [a, b] (by simp [lenAll]; omega) (by simp)
  rw [show [a, b].flatten = a ++ b from by simp] at h
  exact h
theorem loop_Merge11 (c : List (List G)) (hr : ∀ z ∈ c, Ded z) (hn : c.length ≤ 1000) :
    RetL st_net_Merge_11 [.l [], .i 0, .l [], .l c, .i (c.length : Int), .i 0] fun x g => (x = 1 ∧ ∃ o, mrg [] c = some o ∧ g = [.l o]) ∨ (x = 0 ∧ mrg [] c = none ∧ g = [.l [], .i 13]) := by
  refine (range_inv (σ := List (List G) × Nat × List (List G)) (fun s i => [.l s.1, .i (s.2.1 : Int), .l s.2.2, .l c, .i (c.length : Int), .i (i : Int)]) c (fun s => (1, [.l s.2.2]))
    (fun s i => ByNo s.1 s.2.2 ∧ s.2.2.length ≤ i ∧ (∀ z ∈ s.2.2, Ded z) ∧ mrg [] c = mrg s.2.2 (c.drop i)) (fun x g => x = 0 ∧ mrg [] c = none ∧ g = [.l [], .i 13]) ([], 0, []) (by omega) ⟨ByNo.nil, by simp, by simp, by simp⟩ ?_ ?_).mono ?_
  · rintro ⟨m, ck, out⟩ i x ⟨hM, hl, hO, hI⟩ hi hx hm _
    have hd := hr x hm
    simp only at hM hl hO hI
    rw [getD_drop_cons hi, hx] at hI
    simp only [mrg] at hI
    obtain ⟨h1, h2⟩ := hM x hd
    unfold st_net_Merge_11
    (dsimp +instances only [gi0,gis,row1,rows1,int1,str1,bool1])
    simp only [Int.toNat_natCast, hx]
    refine Ret.pos (by (first|rfl|assumption|(simp only [inI,sl]<;>omega))) (Ret.pos (by (first|rfl|assumption|(simp only [inI,sl]<;>omega))) ?_)
    cases hf : out.find? fun o => sameD o x with
    | none =>
      rw [hf] at hI h1
      refine Ret.pos (by rw [h1]; rfl) ?_
      refine Ret.pos (by simp only [sl]; simp; omega) (Ret.pos (by (first|rfl|assumption|(simp only [inI,sl]<;>omega))) (Ret.pos (by simp) (Ret.some (.inl ⟨(mput KOwn m (gEta KOwn x) (gEta KDeed x) ck, mclk KOwn m (gEta KOwn x) ck, out ++ [gEta KDeed x]), rfl, ?_, ?_, ?_, ?_⟩))))
      · rw [hd.eta]
        have := hM.put hd hf ck
        rw [hd.eta] at this
        exact this
      · simp; omega
      · intro z hz
        rcases List.mem_append.1 hz with hz | hz
        · exact hO z hz
        · simp at hz; rw [hz, hd.eta]; exact hd
      · rw [hI, hd.eta]
    | some o =>
      rw [hf] at hI h1
      dsimp only at hI
      have ho := h2 o hf
      have hod : Ded o := hO o (List.mem_of_find?_eq_some hf)
      refine Ret.neg (by rw [h1]; rfl) ?_
      rw [show mget [Kd.str, Kd.int IntKind.i64] m (gEta [Kd.str, Kd.int IntKind.i64] x) [.s (⟨#[]⟩ : ByteArray), .i 0, .i 0, .i 0, .i 0, .i 0, .s (⟨#[]⟩ : ByteArray), .s (⟨#[]⟩ : ByteArray), .i 0, .i 0, .s (⟨#[]⟩ : ByteArray), .s (⟨#[]⟩ : ByteArray), .s (⟨#[]⟩ : ByteArray), .s (⟨#[]⟩ : ByteArray), .i 0] = o from ho, hod.eta, hd.eta]
      cases he : rowEq KDeed o x with
      | false =>
        rw [he] at hI
        exact Ret.pos rfl (Ret.some (.inr ⟨0, _, rfl, rfl, hI, rfl⟩))
      | true =>
        rw [he] at hI
        exact Ret.neg rfl (Ret.pos (by (first|rfl|assumption|(simp only [inI,sl]<;>omega))) (Ret.pos (by simp) (Ret.some (.inl ⟨(m, ck, out), rfl, hM, by simp only; omega, hO, hI⟩))))
  · rintro ⟨m, ck, out⟩ _
    unfold st_net_Merge_11
    (dsimp +instances only [gi0,gis,row1,rows1,int1,str1,bool1])
    exact Ret.neg (by (first|rfl|assumption|(simp only [inI,sl]<;>omega))) (Ret.pos (by simp) (Ret.some rfl))
  · rintro x g (⟨⟨m, ck, out⟩, ⟨_, _, _, hI⟩, rfl, rfl⟩ | h)
    · rw [List.drop_length] at hI
      exact .inl ⟨rfl, out, hI, rfl⟩
    · exact .inr h
def mergeD (a b : List (List G)) : List G := match mrg a b with
  | some o => [.l (sortA (ltC ordDd) o), .i 0]
  | none => [.l [], .i 13]
theorem netMerge_eq (a b : List (List G)) (ha : ∀ z ∈ a, Ded z) (hb : ∀ z ∈ b, Ded z) (hn : a.length ≤ 20) (hm : b.length ≤ 20) :
    F_net_Merge [.l a, .l b] = some (bif chkDd a != 0 then [.l [], .i (chkDd a)] else bif chkDd b != 0 then [.l [], .i (chkDd b)] else mergeD a b) := by
  obtain ⟨a1, a2⟩ := checkDeeds_eq a ha hn
  obtain ⟨b1, b2⟩ := checkDeeds_eq b hb hm
  refine Ret.toEq ?_
  unfold F_net_Merge
  (dsimp +instances only [gi0,gis,row1,rows1,int1,str1,bool1])
  have e0 : ∀ k : Nat, k < 2 → (gi ([[G.l a], [G.l b]].getD k []) 0).rows = if k = 0 then a else b := fun k hk => by
    match k, hk with
    | 0, _ => rfl
    | 1, _ => rfl
  refine Ret.loop (P := fun c g => (c = 1 ∧ chkDd a = 0 ∧ chkDd b = 0 ∧ g = [.l a, .l b]) ∨ (c = 0 ∧ ((chkDd a ≠ 0 ∧ g = [.l [], .i (chkDd a)]) ∨ (chkDd a = 0 ∧ chkDd b ≠ 0 ∧ g = [.l [], .i (chkDd b)]))))
    (((count_runs (σ := Unit) (fun _ i => [.l a, .l b, .l [[.l a], [.l b]], .i 2, .i (i : Int)]) 2 (fun _ => (1, [.l a, .l b])) (fun _ i => (0 < i → chkDd a = 0) ∧ (1 < i → chkDd b = 0)) (fun c g => c = 0 ∧ ((chkDd a ≠ 0 ∧ g = [.l [], .i (chkDd a)]) ∨ (chkDd a = 0 ∧ chkDd b ≠ 0 ∧ g = [.l [], .i (chkDd b)]))) ?_ ?_ 2 () 0 rfl ⟨fun h => by omega, fun h => by omega⟩).to (by omega)).mono ?_) rfl ?_
  · rintro _ i ⟨h1, h2⟩ hi
    unfold st_net_Merge_2
    (dsimp +instances only [gi0,gis,row1,rows1,int1,str1,bool1])
    simp only [Int.toNat_natCast, e0 i hi]
    refine Ret.pos (by (first|rfl|assumption|(simp only [inI,sl]<;>omega))) (Ret.pos (by (first|rfl|assumption|(simp only [inI,sl]<;>omega))) ?_)
    by_cases h0 : i = 0
    · rw [if_pos h0]
      refine Ret.call (Ret.eq a1) ?_
      rintro _ rfl
      (dsimp +instances only [gi0,gis,row1,rows1,int1,str1,bool1])
      refine Ret.test (fun h => Ret.some (.inr ⟨0, _, rfl, rfl, .inl ⟨by simpa using h, rfl⟩⟩)) fun h => ?_
      exact Ret.pos (by (first|rfl|assumption|(simp only [inI,sl]<;>omega))) (Ret.some (.inl ⟨(), rfl, fun _ => by simpa using h, fun h => by omega⟩))
    · rw [if_neg h0]
      refine Ret.call (Ret.eq b1) ?_
      rintro _ rfl
      (dsimp +instances only [gi0,gis,row1,rows1,int1,str1,bool1])
      refine Ret.test (fun h => Ret.some (.inr ⟨0, _, rfl, rfl, .inr ⟨h1 (by omega), by simpa using h, rfl⟩⟩)) fun h => ?_
      exact Ret.pos (by (first|rfl|assumption|(simp only [inI,sl]<;>omega))) (Ret.some (.inl ⟨(), rfl, fun _ => h1 (by omega), fun _ => by simpa using h⟩))
  · rintro _ _
    unfold st_net_Merge_2
    (dsimp +instances only [gi0,gis,row1,rows1,int1,str1,bool1])
    exact Ret.neg (by (first|rfl|assumption|(simp only [inI,sl]<;>omega))) (Ret.some rfl)
  · rintro c g (⟨_, ⟨h1, h2⟩, rfl, rfl⟩ | h)
    · exact .inl ⟨rfl, h1 (by omega), h2 (by omega), rfl⟩
    · exact .inr h
  rintro c g (⟨rfl, h1, h2, rfl⟩ | ⟨rfl, ⟨h1, rfl⟩ | ⟨h1, h2, rfl⟩⟩)
  · rw [h1] at a2
    rw [h2] at b2
    have hc : ∀ z ∈ a ++ b, Ded z := fun z hz => (List.mem_append.1 hz).elim (ha z) (hb z)
    have hcl : (a ++ b).length = a.length + b.length := List.length_append
    have em : mrg [] (a ++ b) = mrg a b := by rw [mrg_apart (by simpa using a2.zero.2.apart), List.nil_append]
    rw [h1, h2]
    refine Ret.neg rfl ?_
    refine Ret.call (Ret.eq (concatD_eq a b (by omega))) ?_
    rintro _ rfl
    (dsimp +instances only [gi0,gis,row1,rows1,int1,str1,bool1])
    refine Ret.loop (loop_Merge11 (a ++ b) hc (by omega)) rfl ?_
    rintro x g (⟨rfl, o, ho, rfl⟩ | ⟨rfl, ho, rfl⟩)
    · rw [em] at ho
      obtain ⟨o1, o2, o3⟩ := mrg_ok ho a2.zero.2.apart ha hb
      have hsl := sortA_length (ltC ordDd) o
      refine Ret.neg rfl ?_
      (dsimp +instances only [gi0,gis,row1,rows1,int1,str1,bool1])
      refine Ret.neg (by (first|rfl|assumption|(simp only [inI,sl]<;>omega))) ?_
      refine Ret.callb (Ret.eq (sortDd1 o o2 o1 (by omega))) (by simp) ?_
      rintro _ rfl
      (dsimp +instances only [gi0,gis,row1,rows1,int1,str1,bool1])
      refine Ret.pos (by simp [hsl]) (Ret.some ?_)
      unfold mergeD
      rw [ho]
      rfl
    · rw [em] at ho
      refine Ret.pos rfl (Ret.some ?_)
      unfold mergeD
      rw [ho]
      rfl
  · have e : (chkDd a != 0) = true := by simpa using h1
    rw [e]
    exact Ret.pos rfl (Ret.some rfl)
  · have e : (chkDd b != 0) = true := by simpa using h2
    rw [h1, e]
    exact Ret.pos rfl (Ret.some rfl)
end
end Go.Proofs.SYtkdippipiidcmaaGreatDoor

namespace Go.Proofs.SYtkdippipiidcmaaGreatDoor
open Go Go.AL Go.Proofs
noncomputable section
theorem cloneD_ok (a : List (List G)) (h : a.length ≤ 1048576) : F_slices_Clone_Deed_f [.l a] = some [.l a] := by
  refine Ret.toEq ?_
  unfold F_slices_Clone_Deed_f
  (dsimp +instances only [gi0,gis,row1,rows1,int1,str1,bool1])
  refine Ret.test (fun h1 => ?_) fun h1 => ?_
  · unfold F_slices_Clone_Deed_f_0
    (dsimp +instances only [gi0,gis,row1,rows1,int1,str1,bool1])
    (repeat(first|(refine Ret.pos ?_ ?_;(first|rfl|assumption|(simp only [inI,sl]<;>omega)))|(refine Ret.neg ?_ ?_;(first|rfl|assumption|(simp only [inI,sl]<;>omega)))))
    exact Ret.some rfl
  · have : a = [] := by
      cases a with
      | nil => rfl
      | cons x a =>
        have h2 : Nat.blt 0 (x :: a).length = true := by rw [Nat.blt_eq]; simp
        rw [h2] at h1
        cases h1
    subst this
    exact Ret.some rfl
theorem sameNo2_eq {r s : List G} (hr : Ded r) (hs : Ded s) : F_pileref2_DeedsOf_1 [.l [r], .l [s]] = some [.t (sameD r s)] := sameNo_eq hr hs
theorem prdD {x : List G} (hx : Ded x) : Prd KDeed F_pileref2_DeedsOf_1 (fun g => .l [gEta KDeed g.row]) (.l [x]) Ded (fun o => sameD o x) := by
  refine ⟨fun r hr => sameNo2_eq hr hx, fun _ h => h.eta, ?_⟩
  show G.l [gEta KDeed x] = _
  rw [hx.eta]
theorem indexD_eq {x : List G} (hx : Ded x) (rows : List (List G)) (hr : ∀ y ∈ rows, Ded y) (hn : rows.length < 100000) :
    Ret (F_slices_IndexFunc_Deed_2 [.l rows, .l [x]]) fun g => (∃ q1 o q2, rows = q1 ++ o :: q2 ∧ (∀ y ∈ q1, sameD y x = false) ∧ sameD o x = true ∧ g = [.i (q1.length : Int)]) ∨ (∀ y ∈ rows, sameD y x = false) ∧ g = [.i (-1)] :=
  indexfF_eq (Z := zD) (prdD hx) rows hr hn
theorem find_midD {p : List G → Bool} {q1 q2 : List (List G)} {o : List G} (h : ∀ y ∈ q1, p y = false) (ho : p o = true) : (q1 ++ o :: q2).find? p = some o := by
  rw [List.find?_append]
  have : q1.find? p = none := List.find?_eq_none.2 fun y hy => by rw [h y hy]; simp
  rw [this]
  simp [ho]
theorem deedsOf_eq (a b : List (List G)) (ha : ∀ z ∈ a, Ded z) (hb : ∀ z ∈ b, Ded z) (hA : Apart a) (hn : a.length ≤ 20) (hm : b.length ≤ 20) : F_pileref2_DeedsOf [.l a, .l b] = some (mergeD a b) := by
  refine Ret.toEq ?_
  unfold F_pileref2_DeedsOf
  (dsimp +instances only [gi0,gis,row1,rows1,int1,str1,bool1])
  refine Ret.call (Ret.eq (cloneD_ok a (by omega))) ?_
  rintro _ rfl
  (dsimp +instances only [gi0,gis,row1,rows1,int1,str1,bool1])
  refine Ret.loop (P := fun x g => (x = 1 ∧ ∃ o, mrg a b = some o ∧ g = [.l o]) ∨ (x = 0 ∧ mrg a b = none ∧ g = [.l [], .i 13]))
    ((range_inv (σ := List (List G)) (fun s i => [.l s, .l b, .i (b.length : Int), .i (i : Int)]) b (fun s => (1, [.l s]))
    (fun s i => s.length ≤ a.length + i ∧ (∀ z ∈ s, Ded z) ∧ mrg a b = mrg s (b.drop i)) (fun x g => x = 0 ∧ mrg a b = none ∧ g = [.l [], .i 13]) a (by omega) ⟨by omega, ha, by simp⟩ ?_ ?_).mono ?_) (by simp) ?_
  · rintro out i x ⟨hl, hO, hI⟩ hi hx hm' _
    have hd := hb x hm'
    rw [getD_drop_cons hi, hx] at hI
    simp only [mrg] at hI
    unfold st_pileref2_DeedsOf_3
    (dsimp +instances only [gi0,gis,row1,rows1,int1,str1,bool1])
    simp only [Int.toNat_natCast, Nat.zero_add, hx, hd.eta]
    refine Ret.pos (by (first|rfl|assumption|(simp only [inI,sl]<;>omega))) (Ret.pos (by (first|rfl|assumption|(simp only [inI,sl]<;>omega))) ?_)
    refine Ret.callb (indexD_eq hd out hO (by omega)) (by simp) ?_
    rintro g (⟨q1, o, q2, e, h1, h2, rfl⟩ | ⟨h1, rfl⟩)
    · (dsimp +instances only [gi0,gis,row1,rows1,int1,str1,bool1])
      have hf : (out.find? fun o => sameD o x) = some o := by rw [e]; exact find_midD h1 h2
      rw [hf] at hI
      dsimp only at hI
      have hod : Ded o := hO o (List.mem_of_find?_eq_some hf)
      have hlo : q1.length < out.length := by rw [e]; simp
      have hg : out.getD (q1.length : Int).toNat [] = o := by rw [Int.toNat_natCast, e]; exact getD_mid _ _ _ _ _ rfl
      simp only [hg, hod.eta]
      refine Ret.neg (by rw [ltI_eq, decide_eq_false_iff_not]; omega) (Ret.pos (by simp only [sl]; omega) (Ret.pos (by simp only [sl]; omega) ?_))
      cases he : rowEq KDeed o x with
      | false =>
        rw [he] at hI
        exact Ret.pos rfl (Ret.some (.inr ⟨0, _, rfl, rfl, hI, rfl⟩))
      | true =>
        rw [he] at hI
        exact Ret.neg rfl (Ret.pos (by (first|rfl|assumption|(simp only [inI,sl]<;>omega))) (Ret.pos (by simp) (Ret.some (.inl ⟨out, rfl, by omega, hO, hI⟩))))
    · (dsimp +instances only [gi0,gis,row1,rows1,int1,str1,bool1])
      have hf : (out.find? fun o => sameD o x) = none := List.find?_eq_none.2 fun o ho => by rw [h1 o ho]; simp
      rw [hf] at hI
      dsimp only at hI
      refine Ret.pos rfl (Ret.pos (by simp only [sl]; simp; omega) (Ret.pos (by (first|rfl|assumption|(simp only [inI,sl]<;>omega))) (Ret.pos (by simp) (Ret.some (.inl ⟨out ++ [x], rfl, by simp; omega, ?_, hI⟩)))))
      intro z hz
      rcases List.mem_append.1 hz with hz | hz
      · exact hO z hz
      · simp at hz; rw [hz]; exact hd
  · rintro out _
    unfold st_pileref2_DeedsOf_3
    (dsimp +instances only [gi0,gis,row1,rows1,int1,str1,bool1])
    exact Ret.neg (by (first|rfl|assumption|(simp only [inI,sl]<;>omega))) (Ret.pos (by simp) (Ret.some rfl))
  · rintro x g (⟨out, ⟨_, _, hI⟩, rfl, rfl⟩ | h)
    · rw [List.drop_length] at hI
      exact .inl ⟨rfl, out, hI, rfl⟩
    · exact .inr h
  unfold mergeD
  rintro x g (⟨rfl, o, ho, rfl⟩ | ⟨rfl, ho, rfl⟩)
  · obtain ⟨o1, o2, o3⟩ := mrg_ok ho hA ha hb
    have hsl := sortA_length (ltC ordDd) o
    rw [ho]
    refine Ret.neg rfl ?_
    (dsimp +instances only [gi0,gis,row1,rows1,int1,str1,bool1])
    refine Ret.callb (Ret.eq (sortDd2 o o2 o1 (by omega))) (by simp) ?_
    rintro _ rfl
    (dsimp +instances only [gi0,gis,row1,rows1,int1,str1,bool1])
    exact Ret.neg (by (first|rfl|assumption|(simp only [inI,sl]<;>omega))) (Ret.pos (by simp [hsl]) (Ret.some rfl))
  · rw [ho]
    exact Ret.pos rfl (Ret.some rfl)
/-! ### Writing -/
theorem DdOK.fault {rows : List (List G)} (h : DdOK rows) : ∀ z ∈ rows, faultDd z = 0 := fun z hz => by
  obtain ⟨i, hi, rfl⟩ := List.mem_iff_getElem.1 hz
  have := h.1.1 i hi
  rwa [List.getD_eq_getElem?_getD, List.getElem?_eq_getElem hi] at this
theorem fault_no {r : List G} (h : faultDd r = 0) : 1 ≤ (gi r 1).int ∧ (gi r 1).int ≤ 1000000 := by
  unfold faultDd at h
  cases h1 : okSite (gi r 0).str with
  | false => rw [h1] at h; cases h
  | true =>
    cases h2 : inB (gi r 1).int 1 1000000 with
    | false => rw [h1, h2] at h; cases h
    | true =>
      unfold inB at h2
      rw [leI_eq, leI_eq, Bool.and_eq_true, decide_eq_true_eq, decide_eq_true_eq] at h2
      exact h2
def topNo (s : ByteArray) (n : Int) (l : List (List G)) : Int := l.foldl (fun n r => bif (gi r 0).str.toList == s.toList then (if (gi r 1).int > n then (gi r 1).int else n) else n) n
theorem topNo_le {s : ByteArray} : ∀ {l : List (List G)} {n : Int}, 0 ≤ n → n ≤ 1000000 → (∀ z ∈ l, (gi z 1).int ≤ 1000000) → 0 ≤ topNo s n l ∧ topNo s n l ≤ 1000000
  | [], n, h0, h1, _ => ⟨h0, h1⟩
  | x :: l, n, h0, h1, h => by
    have hx := h x List.mem_cons_self
    unfold topNo
    rw [List.foldl_cons]
    have hl := fun z hz => h z (List.mem_cons_of_mem _ hz)
    cases (gi x 0).str.toList == s.toList with
    | false => exact topNo_le h0 h1 hl
    | true =>
      simp only [cond_true]
      split
      · exact topNo_le (by omega) hx hl
      · exact topNo_le h0 h1 hl
section
variable {a : List (List G)} {si b c x y bd of_ : ByteArray} {no at_ kd t m s h ot : Int}
theorem loop_Write (st : List G → Option (Option Nat × List G)) (hst : st = st_net_Write_7 ∨ st = st_pileref2_WriteDeed_4) (ha : ∀ z ∈ a, (gi z 1).int ≤ 1000000) (hn : a.length ≤ 1000) (h0 : 0 ≤ no) (h1 : no ≤ 1000000) :
    RetL st [.s si, .i no, .i at_, .i kd, .i t, .i m, .s b, .s c, .i s, .i h, .s x, .s y, .s bd, .s of_, .i ot, .l a, .l a, .i (a.length : Int), .i 0] fun k g => g = [.s si, .i (topNo si no a), .i at_, .i kd, .i t, .i m, .s b, .s c, .i s, .i h, .s x, .s y, .s bd, .s of_, .i ot, .l a] := by
  refine (range_all (σ := Int) (fun n i => [.s si, .i n, .i at_, .i kd, .i t, .i m, .s b, .s c, .i s, .i h, .s x, .s y, .s bd, .s of_, .i ot, .l a, .l a, .i (a.length : Int), .i (i : Int)]) a (fun n => (0, [.s si, .i n, .i at_, .i kd, .i t, .i m, .s b, .s c, .i s, .i h, .s x, .s y, .s bd, .s of_, .i ot, .l a]))
    (fun n i => n = topNo si no (a.take i)) no (by omega) rfl ?_ ?_).mono ?_
  · rintro n i z hI hi hz hm ht
    have en : topNo si no (a.take (i + 1)) = bif (gi z 0).str.toList == si.toList then (if (gi z 1).int > n then (gi z 1).int else n) else n := by
      rw [ht]
      unfold topNo at hI ⊢
      rw [List.foldl_append, ← hI]
      rfl
    have go : Ret (bif ltI (i : Int) (a.length : Int) then bif nnI (i : Int) && ltI (i : Int) (a.length : Int) then bif (gi z 0).str.toList == si.toList then
        bif inI ((i : Int) + 1) then (some (none, [G.s si, .i (if (gi z 1).int > n then (gi z 1).int else n), .i at_, .i kd, .i t, .i m, .s b, .s c, .i s, .i h, .s x, .s y, .s bd, .s of_, .i ot, .l a, .l a, .i (a.length : Int), .i ((i : Int) + 1)]) : Option (Option Nat × List G)) else none
        else bif inI ((i : Int) + 1) then some (none, [G.s si, .i n, .i at_, .i kd, .i t, .i m, .s b, .s c, .i s, .i h, .s x, .s y, .s bd, .s of_, .i ot, .l a, .l a, .i (a.length : Int), .i ((i : Int) + 1)]) else none else none
        else some (some 0, [G.s si, .i n, .i at_, .i kd, .i t, .i m, .s b, .s c, .i s, .i h, .s x, .s y, .s bd, .s of_, .i ot, .l a])) fun o => ∃ n', o = (none, [G.s si, .i n', .i at_, .i kd, .i t, .i m, .s b, .s c, .i s, .i h, .s x, .s y, .s bd, .s of_, .i ot, .l a, .l a, .i (a.length : Int), .i ((i + 1 : Nat) : Int)]) ∧ n' = topNo si no (a.take (i + 1)) := by
      refine Ret.pos (by (first|rfl|assumption|(simp only [inI,sl]<;>omega))) (Ret.pos (by (first|rfl|assumption|(simp only [inI,sl]<;>omega))) ?_)
      refine Ret.test (fun h3 => ?_) fun h3 => ?_
      · rw [h3] at en
        exact Ret.pos (by (first|rfl|assumption|(simp only [inI,sl]<;>omega))) (Ret.some ⟨_, rfl, en.symm⟩)
      · rw [h3] at en
        exact Ret.pos (by (first|rfl|assumption|(simp only [inI,sl]<;>omega))) (Ret.some ⟨_, rfl, en.symm⟩)
    rcases hst with rfl | rfl
    · unfold st_net_Write_7
      (dsimp +instances only [gi0,gis,row1,rows1,int1,str1,bool1])
      simp only [Int.toNat_natCast, hz]
      exact go
    · unfold st_pileref2_WriteDeed_4
      (dsimp +instances only [gi0,gis,row1,rows1,int1,str1,bool1])
      simp only [Int.toNat_natCast, hz]
      exact go
  · rintro n _
    rcases hst with rfl | rfl
    · unfold st_net_Write_7
      (dsimp +instances only [gi0,gis,row1,rows1,int1,str1,bool1])
      exact Ret.neg (by (first|rfl|assumption|(simp only [inI,sl]<;>omega))) (Ret.some rfl)
    · unfold st_pileref2_WriteDeed_4
      (dsimp +instances only [gi0,gis,row1,rows1,int1,str1,bool1])
      exact Ret.neg (by (first|rfl|assumption|(simp only [inI,sl]<;>omega))) (Ret.some rfl)
  · rintro k g ⟨n, hI, rfl, rfl⟩
    rw [hI, List.take_length]
def wrtD (a : List (List G)) (no : Int) (w : List G) : List G :=
  bif no != 0 then [.l [], .i 3] else bif faultDd w != 0 then [.l [], .i (faultDd w)] else bif ltI 0 (a.length : Int) && leI 0 (ordDd (a.getD (a.length - 1) []) w) then [.l [], .i 7] else [.l (a ++ [w]), .i 0]
theorem write_eq (ha : ∀ z ∈ a, Ded z) (hn : a.length ≤ 20) (hd : DedP si no at_ kd t m b c s h x y bd of_ ot) (h0 : 0 ≤ no) (h1 : no ≤ 1) :
    F_net_Write [.l a, .l [dRow si no at_ kd t m b c s h x y bd of_ ot]] = some (bif chkDd a != 0 then [.l [], .i (chkDd a)] else wrtD a no (dRow si (topNo si no a + 1) at_ kd t m b c s h x y bd of_ ot)) := by
  obtain ⟨a1, a2⟩ := checkDeeds_eq a ha hn
  refine Ret.toEq ?_
  unfold F_net_Write
  (dsimp +instances only [gi0,gis,row1,rows1,int1,str1,bool1])
  refine Ret.call (Ret.eq a1) ?_
  rintro _ rfl
  (dsimp +instances only [gi0,gis,row1,rows1,int1,str1,bool1])
  cases hc : chkDd a != 0 with
  | true => exact Ret.pos rfl (Ret.some rfl)
  | false =>
  have hc : chkDd a = 0 := by simpa using hc
  rw [hc] at a2
  have hno : ∀ z ∈ a, (gi z 1).int ≤ 1000000 := fun z hz => (fault_no (a2.zero.fault z hz)).2
  refine Ret.neg rfl ?_
  unfold dRow wrtD
  (dsimp +instances only [gi0,gis,row1,rows1,int1,str1,bool1])
  cases h3 : no != 0 with
  | true => exact Ret.pos rfl (Ret.some rfl)
  | false =>
  refine Ret.neg rfl ?_
  refine Ret.loop (loop_Write st_net_Write_7 (.inl rfl) hno (by omega) h0 (by omega)) rfl ?_
  rintro _ _ rfl
  (dsimp +instances only [gi0,gis,row1,rows1,int1,str1,bool1])
  have hT := topNo_le (s := si) (n := no) (l := a) h0 (by omega) hno
  have hw : Ded [.s si, .i (topNo si no a + 1), .i at_, .i kd, .i t, .i m, .s b, .s c, .i s, .i h, .s x, .s y, .s bd, .s of_, .i ot] :=
    ⟨_, _, _, _, _, _, _, _, _, _, _, _, _, _, _, rfl, ⟨hd.1, by unfold small; omega, hd.2.2⟩⟩
  refine Ret.pos (by (first|rfl|assumption|(simp only [inI,sl]<;>omega))) ?_
  refine Ret.call (Ret.eq (formed_eq hw)) ?_
  rintro _ rfl
  (dsimp +instances only [gi0,gis,row1,rows1,int1,str1,bool1])
  cases h4 : faultDd [.s si, .i (topNo si no a + 1), .i at_, .i kd, .i t, .i m, .s b, .s c, .i s, .i h, .s x, .s y, .s bd, .s of_, .i ot] != 0 with
  | true => exact Ret.pos rfl (Ret.some rfl)
  | false =>
  refine Ret.neg rfl ?_
  have last : Ret (callF (F_slices_Clone_Deed_f [.l a]) fun g5 => (bif ((Nat.beq (gi g5 0).rows.length (gi g5 0).rows.length) && (decide (((gi g5 0).rows.length + 1) ≤ 1048576))) then (bif ((Nat.beq ((gi g5 0).rows ++ ([[.s si, .i (topNo si no a + 1), .i at_, .i kd, .i t, .i m, .s b, .s c, .i s, .i h, .s x, .s y, .s bd, .s of_, .i ot]] : List (List G))).length ((gi g5 0).rows ++ ([[.s si, .i (topNo si no a + 1), .i at_, .i kd, .i t, .i m, .s b, .s c, .i s, .i h, .s x, .s y, .s bd, .s of_, .i ot]] : List (List G))).length) && true) then some [G.l ((gi g5 0).rows ++ ([[.s si, .i (topNo si no a + 1), .i at_, .i kd, .i t, .i m, .s b, .s c, .i s, .i h, .s x, .s y, .s bd, .s of_, .i ot]] : List (List G))), .i 0] else none) else none)) fun g => g = [G.l (a ++ [[.s si, .i (topNo si no a + 1), .i at_, .i kd, .i t, .i m, .s b, .s c, .i s, .i h, .s x, .s y, .s bd, .s of_, .i ot]]), .i 0] := by
    refine Ret.call (Ret.eq (cloneD_ok a (by omega))) ?_
    rintro _ rfl
    (dsimp +instances only [gi0,gis,row1,rows1,int1,str1,bool1])
    exact Ret.pos (by simp only [sl]; simp; omega) (Ret.pos (by simp) (Ret.some rfl))
  cases h5 : ltI 0 (a.length : Int) with
  | false =>
    refine Ret.neg rfl (Ret.neg (by (first|rfl|assumption|(simp only [inI,sl]<;>omega))) ?_)
    exact last
  | true =>
    have h6 : 0 < a.length := by rw [ltI_eq, decide_eq_true_eq] at h5; omega
    have e1 : ((a.length : Int) - 1).toNat = a.length - 1 := by omega
    have hp : a.getD (a.length - 1) [] ∈ a := getD_row (by omega)
    refine Ret.pos rfl (Ret.pos (by (first|rfl|assumption|(simp only [inI,sl]<;>omega))) (Ret.pos (by (first|rfl|assumption|(simp only [inI,sl]<;>omega))) ?_))
    simp only [e1, (ha _ hp).eta]
    refine Ret.call (Ret.eq (compareDd_eq (ha _ hp) hw)) ?_
    rintro _ rfl
    (dsimp +instances only [gi0,gis,row1,rows1,int1,str1,bool1])
    cases h7 : leI 0 (ordDd (a.getD (a.length - 1) []) [.s si, .i (topNo si no a + 1), .i at_, .i kd, .i t, .i m, .s b, .s c, .i s, .i h, .s x, .s y, .s bd, .s of_, .i ot]) with
    | true => exact Ret.pos rfl (Ret.some rfl)
    | false => exact Ret.neg rfl (Ret.neg (by (first|rfl|assumption|(simp only [inI,sl]<;>omega))) last)
theorem writeDeed_eq (ha : ∀ z ∈ a, Ded z) (hn : a.length ≤ 20) (hok : DdOK a) (hd : DedP si no at_ kd t m b c s h x y bd of_ ot) (h0 : 0 ≤ no) (h1 : no ≤ 1) :
    F_pileref2_WriteDeed [.l a, .l [dRow si no at_ kd t m b c s h x y bd of_ ot]] = some (wrtD a no (dRow si (topNo si no a + 1) at_ kd t m b c s h x y bd of_ ot)) := by
  refine Ret.toEq ?_
  unfold F_pileref2_WriteDeed
  have hno : ∀ z ∈ a, (gi z 1).int ≤ 1000000 := fun z hz => (fault_no (hok.fault z hz)).2
  unfold dRow wrtD
  (dsimp +instances only [gi0,gis,row1,rows1,int1,str1,bool1])
  cases h3 : no != 0 with
  | true => exact Ret.pos rfl (Ret.some rfl)
  | false =>
  refine Ret.neg rfl ?_
  refine Ret.loop (loop_Write st_pileref2_WriteDeed_4 (.inr rfl) hno (by omega) h0 (by omega)) rfl ?_
  rintro _ _ rfl
  (dsimp +instances only [gi0,gis,row1,rows1,int1,str1,bool1])
  have hT := topNo_le (s := si) (n := no) (l := a) h0 (by omega) hno
  have hw : Ded [.s si, .i (topNo si no a + 1), .i at_, .i kd, .i t, .i m, .s b, .s c, .i s, .i h, .s x, .s y, .s bd, .s of_, .i ot] :=
    ⟨_, _, _, _, _, _, _, _, _, _, _, _, _, _, _, rfl, ⟨hd.1, by unfold small; omega, hd.2.2⟩⟩
  refine Ret.pos (by (first|rfl|assumption|(simp only [inI,sl]<;>omega))) ?_
  refine Ret.call (Ret.eq (deedFault_eq hw)) ?_
  rintro _ rfl
  (dsimp +instances only [gi0,gis,row1,rows1,int1,str1,bool1])
  cases h4 : faultDd [.s si, .i (topNo si no a + 1), .i at_, .i kd, .i t, .i m, .s b, .s c, .i s, .i h, .s x, .s y, .s bd, .s of_, .i ot] != 0 with
  | true => exact Ret.pos rfl (Ret.some rfl)
  | false =>
  refine Ret.neg rfl ?_
  have last : Ret (callF (F_slices_Clone_Deed_f [.l a]) fun g5 => (bif ((Nat.beq (gi g5 0).rows.length (gi g5 0).rows.length) && (decide (((gi g5 0).rows.length + 1) ≤ 1048576))) then (bif ((Nat.beq ((gi g5 0).rows ++ ([[.s si, .i (topNo si no a + 1), .i at_, .i kd, .i t, .i m, .s b, .s c, .i s, .i h, .s x, .s y, .s bd, .s of_, .i ot]] : List (List G))).length ((gi g5 0).rows ++ ([[.s si, .i (topNo si no a + 1), .i at_, .i kd, .i t, .i m, .s b, .s c, .i s, .i h, .s x, .s y, .s bd, .s of_, .i ot]] : List (List G))).length) && true) then some [G.l ((gi g5 0).rows ++ ([[.s si, .i (topNo si no a + 1), .i at_, .i kd, .i t, .i m, .s b, .s c, .i s, .i h, .s x, .s y, .s bd, .s of_, .i ot]] : List (List G))), .i 0] else none) else none)) fun g => g = [G.l (a ++ [[.s si, .i (topNo si no a + 1), .i at_, .i kd, .i t, .i m, .s b, .s c, .i s, .i h, .s x, .s y, .s bd, .s of_, .i ot]]), .i 0] := by
    refine Ret.call (Ret.eq (cloneD_ok a (by omega))) ?_
    rintro _ rfl
    (dsimp +instances only [gi0,gis,row1,rows1,int1,str1,bool1])
    exact Ret.pos (by simp only [sl]; simp; omega) (Ret.pos (by simp) (Ret.some rfl))
  have h8 : ((a.length : Int) == 2000) = false := by simp; omega
  cases h5 : ltI 0 (a.length : Int) with
  | false =>
    refine Ret.neg rfl (Ret.neg h8 ?_)
    exact last
  | true =>
    have h6 : 0 < a.length := by rw [ltI_eq, decide_eq_true_eq] at h5; omega
    have e1 : ((a.length : Int) - 1).toNat = a.length - 1 := by omega
    have hp : a.getD (a.length - 1) [] ∈ a := getD_row (by omega)
    refine Ret.pos rfl (Ret.pos (by (first|rfl|assumption|(simp only [inI,sl]<;>omega))) (Ret.pos (by (first|rfl|assumption|(simp only [inI,sl]<;>omega))) ?_))
    simp only [e1, (ha _ hp).eta]
    refine Ret.call (Ret.eq (deedOrder_eq (ha _ hp) hw)) ?_
    rintro _ rfl
    (dsimp +instances only [gi0,gis,row1,rows1,int1,str1,bool1])
    cases h7 : leI 0 (ordDd (a.getD (a.length - 1) []) [.s si, .i (topNo si no a + 1), .i at_, .i kd, .i t, .i m, .s b, .s c, .i s, .i h, .s x, .s y, .s bd, .s of_, .i ot]) with
    | true => exact Ret.pos rfl (Ret.some rfl)
    | false => exact Ret.neg rfl (Ret.neg h8 last)
end
end
end Go.Proofs.SYtkdippipiidcmaaGreatDoor

namespace Go.Proofs.SYtkdippipiidcmaaGreatDoor
open Go Go.AL Go.Proofs
noncomputable section
theorem r_DeedTime (l : List (List G)) (a : Int) (ha : 0 ≤ a) (ha1 : a ≤ 1000000) : Ret (F_pilemake_Stream_DeedTime [.l l, .i a]) fun g => ∃ v : Int, g = [.l l, .i (a + 1), .i v] ∧ -1 ≤ v ∧ v ≤ 100 := by
  unfold F_pilemake_Stream_DeedTime
  (dsimp +instances only [gi0,gis,row1,rows1,int1,str1,bool1])
  refine Ret.call (r_Pick (fun v => -1 ≤ v ∧ v ≤ 100) l a _ ha ha1 (by simp) (by simp) (by
    intro x hx
    simp only [List.mem_cons, List.not_mem_nil, or_false] at hx
    rcases hx with rfl | rfl | rfl | rfl | rfl | rfl | rfl | rfl <;> exact ⟨by decide, by decide⟩)) ?_
  rintro _ ⟨v, rfl, h1, h2⟩
  exact Ret.some ⟨v, rfl, h1, h2⟩
theorem momentF_eq (t : Int) : F_pileref2_MomentFault [.i t] = some [.i (bif inB t 0 345686399999 then 0 else 1)] := by
  unfold F_pileref2_MomentFault F_pileref2_Moment
  (dsimp +instances only [gi0,gis,row1,rows1,int1,str1,bool1])
  simp only [in_eq, callF_some rfl]
  (dsimp +instances only [gi0,gis,row1,rows1,int1,str1,bool1])
  cases inB t 0 345686399999 <;> rfl
def askF (rows : List (List G)) (t : Int) : Int := bif chkDd rows != 0 then chkDd rows else bif inB t 0 345686399999 then 0 else 1
theorem asked_eq (rows : List (List G)) (t : Int) (hr : ∀ z ∈ rows, Ded z) (hn : rows.length ≤ 20) : F_net_askedFault [.l rows, .i t] = some [.i (askF rows t)] := by
  refine Ret.toEq ?_
  unfold F_net_askedFault askF
  (dsimp +instances only [gi0,gis,row1,rows1,int1,str1,bool1])
  refine Ret.call (Ret.eq (checkDeeds_eq rows hr hn).1) ?_
  rintro _ rfl
  (dsimp +instances only [gi0,gis,row1,rows1,int1,str1,bool1])
  cases chkDd rows != 0 with
  | true => exact Ret.pos rfl (Ret.some rfl)
  | false =>
    refine Ret.neg rfl ?_
    refine Ret.call (Ret.eq (isMoment_eq t)) ?_
    rintro _ rfl
    (dsimp +instances only [gi0,gis,row1,rows1,int1,str1,bool1])
    cases inB t 0 345686399999 <;> exact ⟨_, rfl, rfl⟩
theorem netCounting_eq (rows : List (List G)) (t : Int) (hr : ∀ z ∈ rows, Ded z) (hn : rows.length ≤ 20) : F_net_Counting [.l rows, .i t] = some (bif askF rows t != 0 then [.l [], .i (askF rows t)] else [.l (cA t 0 rows), .i 0]) := by
  refine Ret.toEq ?_
  unfold F_net_Counting
  (dsimp +instances only [gi0,gis,row1,rows1,int1,str1,bool1])
  refine Ret.call (Ret.eq (asked_eq rows t hr hn)) ?_
  rintro _ rfl
  (dsimp +instances only [gi0,gis,row1,rows1,int1,str1,bool1])
  cases askF rows t != 0 with
  | true => exact Ret.pos rfl (Ret.some rfl)
  | false =>
    refine Ret.neg rfl ?_
    refine Ret.call (Ret.eq (counting_eq rows t hr (by omega))) ?_
    rintro _ rfl
    exact Ret.some rfl
theorem equalI (a : List (List G)) (hn : a.length < 1000) : F_slices_Equal_int [.l a, .l a] = some [.t true] := by
  refine Ret.toEq ?_
  unfold F_slices_Equal_int
  (dsimp +instances only [gi0,gis,row1,rows1,int1,str1,bool1])
  refine Ret.neg (by simp) ?_
  have r := range_all (st := st_slices_Equal_int_4) (σ := Unit) (fun _ i => [.l a, .l a, .i (a.length : Int), .i (i : Int)]) a (fun _ => (1, [])) (fun _ _ => True) () (by omega) trivial
    (fun _ i x _ hi hx hm ht => by
      unfold st_slices_Equal_int_4
      (dsimp +instances only [gi0,gis,row1,rows1,int1,str1,bool1])
      simp only [Int.toNat_natCast, hx]
      exact Ret.pos (by (first|rfl|assumption|(simp only [inI,sl]<;>omega))) (Ret.pos (by (first|rfl|assumption|(simp only [inI,sl]<;>omega))) (Ret.pos (by (first|rfl|assumption|(simp only [inI,sl]<;>omega))) (Ret.neg (by simp) (Ret.pos (by (first|rfl|assumption|(simp only [inI,sl]<;>omega))) (Ret.some ⟨(), rfl, trivial⟩))))))
    (fun _ _ => by
      unfold st_slices_Equal_int_4
      (dsimp +instances only [gi0,gis,row1,rows1,int1,str1,bool1])
      exact Ret.neg (by (first|rfl|assumption|(simp only [inI,sl]<;>omega))) (Ret.some rfl))
  refine Ret.loop r rfl ?_
  rintro _ _ ⟨_, _, rfl, rfl⟩
  exact Ret.some rfl
theorem equalD (a : List (List G)) (ha : ∀ z ∈ a, Ded z) (hn : a.length < 100000) : F_slices_Equal_Deed [.l a, .l a] = some [.t true] := by
  have h := equalF_eq kdsDeed a a ha ha hn
  rw [eqlA_refl rfl] at h
  exact h
theorem errsTwo (x y : Int) : F_pilelaw2_errs [.l [[.i x], [.i y]]] = some [.i (bif x != 0 then x else y)] := by
  refine Ret.toEq ?_
  unfold F_pilelaw2_errs
  (dsimp +instances only [gi0,gis,row1,rows1,int1,str1,bool1])
  have key : RetN st_pilelaw2_errs_2 [.l [[.i x], [.i y]], .i 2, .i 0] 3 fun c g => (c = 0 ∧ g = [.i (bif x != 0 then x else y)]) ∨ c = 1 ∧ (bif x != 0 then x else y) = 0 := by
    by_cases hx : x = 0
    · subst hx
      refine RetN.next (d1 := [.l [[.i 0], [.i y]], .i 2, .i 1]) rfl ?_
      by_cases hy : y = 0
      · subst hy
        refine RetN.next (d1 := [.l [[.i 0], [.i 0]], .i 2, .i 2]) rfl ?_
        exact RetN.stop (x := 1) (d' := []) rfl (.inr ⟨rfl, rfl⟩)
      · refine RetN.stop (x := 0) (d' := [.i y]) (Ret.toEq ?_) (.inl ⟨rfl, rfl⟩)
        unfold st_pilelaw2_errs_2
        (dsimp +instances only [gi0,gis,row1,rows1,int1,str1,bool1])
        refine Ret.pos rfl (Ret.pos rfl (Ret.pos (show (y != 0) = true from by simpa using hy) (Ret.some rfl)))
    · have e : (bif x != 0 then x else y) = x := by
        have : (x != 0) = true := by simpa using hx
        rw [this]
        rfl
      rw [e]
      refine RetN.stop (x := 0) (d' := [.i x]) (Ret.toEq ?_) (.inl ⟨rfl, rfl⟩)
      unfold st_pilelaw2_errs_2
      (dsimp +instances only [gi0,gis,row1,rows1,int1,str1,bool1])
      refine Ret.pos rfl (Ret.pos rfl (Ret.pos (show (x != 0) = true from by simpa using hx) (Ret.some rfl)))
  refine Ret.loop (key.to (by omega)) rfl ?_
  rintro c g (⟨rfl, rfl⟩ | ⟨rfl, h⟩)
  · exact Ret.some rfl
  · exact Ret.some (by rw [h])
theorem one_write (l a rest : List (List G)) (pos f u v : Int) (si b c x y bd of_ : ByteArray) (no at_ kd t m s h ot : Int) (ha : ∀ z ∈ a, Ded z) (hn : a.length ≤ 20) (hf : f = chkDd a) (hd : DedP si no at_ kd t m b c s h x y bd of_ ot) (h0 : 0 ≤ no) (h1 : no ≤ 1) :
    Ret (tl_pilelaw2_DeedsMerge_27 [.l l, .i pos, .s si, .i no, .i at_, .i kd, .i t, .i m, .s b, .s c, .i s, .i h, .s x, .s y, .s bd, .s of_, .i ot, .l a, .i f, .l rest, .i u, .i v]) fun o =>
      ∃ k, o.1 = some k ∧ k = 1 ∧ o.2 = [.l l, .i pos, .l a, .i f, .l rest, .i u, .i v] := by
  obtain ⟨a1, a2⟩ := checkDeeds_eq a ha hn
  unfold tl_pilelaw2_DeedsMerge_27
  (dsimp +instances only [gi0,gis,row1,rows1,int1,str1,bool1])
  refine Ret.call (Ret.eq (write_eq ha hn hd h0 h1)) ?_
  rintro _ rfl
  cases hc : chkDd a != 0 with
  | true =>
    simp only [cond_true]
    (dsimp +instances only [gi0,gis,row1,rows1,int1,str1,bool1])
    have hc' : chkDd a ≠ 0 := by simpa using hc
    refine Ret.neg (by rw [hf]; simpa using hc') (Ret.neg (by rw [hf]; simp) ?_)
    refine Ret.call (Ret.eq (equalD [] (by simp) (by simp))) ?_
    rintro _ rfl
    exact Ret.neg rfl (Ret.some ⟨1, rfl, rfl, rfl⟩)
  | false =>
    have hc' : chkDd a = 0 := by simpa using hc
    rw [hc'] at a2
    have hno : ∀ z ∈ a, (gi z 1).int ≤ 1000000 := fun z hz => (fault_no (a2.zero.fault z hz)).2
    have hT := topNo_le (s := si) (n := no) (l := a) h0 (by omega) hno
    have hw : Ded (dRow si (topNo si no a + 1) at_ kd t m b c s h x y bd of_ ot) := ⟨_, _, _, _, _, _, _, _, _, _, _, _, _, _, _, rfl, ⟨hd.1, by unfold small; omega, hd.2.2⟩⟩
    refine Ret.pos (by rw [hf, hc']; rfl) ?_
    refine Ret.call (Ret.eq (writeDeed_eq ha hn a2.zero hd h0 h1)) ?_
    rintro _ rfl
    obtain ⟨p, e, he, hp, hpl⟩ : ∃ p e, wrtD a no (dRow si (topNo si no a + 1) at_ kd t m b c s h x y bd of_ ot) = [.l p, .i e] ∧ (∀ z ∈ p, Ded z) ∧ p.length ≤ 100 := by
      unfold wrtD
      cases no != 0 with
      | true => exact ⟨[], 3, rfl, by simp, by simp⟩
      | false =>
      simp only [cond_false]
      cases faultDd (dRow si (topNo si no a + 1) at_ kd t m b c s h x y bd of_ ot) != 0 with
      | true => exact ⟨[], _, rfl, by simp, by simp⟩
      | false =>
      simp only [cond_false]
      cases ltI 0 (a.length : Int) && leI 0 (ordDd (a.getD (a.length - 1) []) (dRow si (topNo si no a + 1) at_ kd t m b c s h x y bd of_ ot)) with
      | true => exact ⟨[], 7, rfl, by simp, by simp⟩
      | false =>
        refine ⟨_, 0, rfl, ?_, by simp; omega⟩
        intro z hz
        rcases List.mem_append.1 hz with hz | hz
        · exact ha z hz
        · simp at hz; rw [hz]; exact hw
    simp only [cond_false, he]
    (dsimp +instances only [gi0,gis,row1,rows1,int1,str1,bool1])
    refine Ret.neg (by simp) ?_
    refine Ret.call (Ret.eq (equalD p hp (by omega))) ?_
    rintro _ rfl
    exact Ret.neg rfl (Ret.some ⟨1, rfl, rfl, rfl⟩)
theorem one_deed (l a rest : List (List G)) (pos f u v : Int) (si b c x y bd of_ : ByteArray) (no at_ kd t m s h ot : Int) (hp0 : 0 ≤ pos) (hp1 : pos ≤ 500000) (ha : ∀ z ∈ a, Ded z) (hn : a.length ≤ 20) (hf : f = chkDd a) (hd : DedP si no at_ kd t m b c s h x y bd of_ ot) (hA0 : 0 ≤ at_) (hA1 : at_ ≤ 100) (h0 : 0 ≤ no) (h1 : no ≤ 1) :
    Ret (tl_pilelaw2_DeedsMerge_25 [.l l, .i pos, .s si, .i no, .i at_, .i kd, .i t, .i m, .s b, .s c, .i s, .i h, .s x, .s y, .s bd, .s of_, .i ot, .l a, .i f, .l rest, .i u, .i v]) fun o =>
      ∃ k, o.1 = some k ∧ k = 1 ∧ o.2 = [.l l, .i (pos + 1), .l a, .i f, .l rest, .i u, .i v] := by
  unfold tl_pilelaw2_DeedsMerge_25
  (dsimp +instances only [gi0,gis,row1,rows1,int1,str1,bool1])
  refine Ret.call (r_Flip l pos 2 hp0 (by omega) (by omega) (by omega)) ?_
  rintro _ ⟨fl, rfl⟩
  (dsimp +instances only [gi0,gis,row1,rows1,int1,str1,bool1])
  refine Ret.test (fun _ => ?_) fun _ => ?_
  · refine Ret.pos (by (first|rfl|assumption|(simp only [inI,sl]<;>omega))) ?_
    refine Ret.tail (P := fun k g => k = 1 ∧ g = [.l l, .i (pos + 1), .l a, .i f, .l rest, .i u, .i v]) ((one_write l a rest (pos + 1) f u v si b c x y bd of_ no (at_ + 80) kd t m s h ot ha hn hf ⟨hd.1, hd.2.1, by unfold small; omega, hd.2.2.2⟩ h0 h1).mono ?_) rfl ?_
    · rintro o ⟨k, e1, e2, e3⟩
      exact ⟨k, e1, e2, e3⟩
    · rintro _ _ ⟨rfl, rfl⟩
      exact Ret.neg rfl (Ret.some ⟨1, rfl, rfl, rfl⟩)
  · refine Ret.tail (P := fun k g => k = 1 ∧ g = [.l l, .i (pos + 1), .l a, .i f, .l rest, .i u, .i v]) ((one_write l a rest (pos + 1) f u v si b c x y bd of_ no at_ kd t m s h ot ha hn hf hd h0 h1).mono ?_) rfl ?_
    · rintro o ⟨k, e1, e2, e3⟩
      exact ⟨k, e1, e2, e3⟩
    · rintro _ _ ⟨rfl, rfl⟩
      exact Ret.neg rfl (Ret.some ⟨1, rfl, rfl, rfl⟩)
theorem loop_writes (l a q : List (List G)) (pos : Int) (hp0 : 0 ≤ pos) (hp1 : pos ≤ 400000) (ha : ∀ z ∈ a, Ded z) (hn : a.length ≤ 20) (hq : ∀ z ∈ q, Dd0 z) (hql : q.length ≤ 20) :
    RetL st_pilelaw2_DeedsMerge_20 [.l l, .i pos, .l a, .i (chkDd a), .l q, .i (q.length : Int), .i 0] fun c g => c = 1 ∧ g = [] := by
  refine (range_all (σ := Int) (fun p i => [.l l, .i p, .l a, .i (chkDd a), .l q, .i (q.length : Int), .i (i : Int)]) q (fun _ => (1, [])) (fun p i => pos ≤ p ∧ p ≤ pos + 2 * (i : Int)) pos (by omega) (by omega) ?_ ?_).mono ?_
  · rintro p i z ⟨h1, h2⟩ hi hz hm _
    obtain ⟨⟨si, no, at_, kd, t, m, b, c, s, h, x, y, bd, of_, ot, rfl, hd⟩, hA0, hA1⟩ := hq z hm
    unfold dRow at hA0 hA1 hz
    have hA0 : 0 ≤ at_ := hA0
    have hA1 : at_ ≤ 100 := hA1
    unfold st_pilelaw2_DeedsMerge_20
    (dsimp +instances only [gi0,gis,row1,rows1,int1,str1,bool1])
    refine Ret.pos (by (first|rfl|assumption|(simp only [inI,sl]<;>omega))) (Ret.pos (by (first|rfl|assumption|(simp only [inI,sl]<;>omega))) ?_)
    simp only [Int.toNat_natCast, hz]
    refine Ret.call (r_Flip l p 12 (by omega) (by omega) (by omega) (by omega)) ?_
    rintro _ ⟨fl, rfl⟩
    (dsimp +instances only [gi0,gis,row1,rows1,int1,str1,bool1])
    refine Ret.test (fun _ => ?_) fun _ => ?_
    · refine Ret.tail (P := fun k g => k = 1 ∧ g = [.l l, .i (p + 1 + 1), .l a, .i (chkDd a), .l q, .i (q.length : Int), .i (i : Int)]) ((one_deed l a q (p + 1) (chkDd a) _ _ si b c x y bd of_ 1 at_ kd t m s h ot (by omega) (by omega) ha hn rfl ⟨hd.1, by unfold small; omega, hd.2.2⟩ hA0 hA1 (by omega) (by omega)).mono ?_) rfl ?_
      · rintro o ⟨k, e1, e2, e3⟩
        exact ⟨k, e1, e2, e3⟩
      · rintro _ _ ⟨rfl, rfl⟩
        (dsimp +instances only [gi0,gis,row1,rows1,int1,str1,bool1])
        exact Ret.neg rfl (Ret.pos (by (first|rfl|assumption|(simp only [inI,sl]<;>omega))) (Ret.some ⟨p + 1 + 1, rfl, by omega, by omega⟩))
    · refine Ret.tail (P := fun k g => k = 1 ∧ g = [.l l, .i (p + 1 + 1), .l a, .i (chkDd a), .l q, .i (q.length : Int), .i (i : Int)]) ((one_deed l a q (p + 1) (chkDd a) _ _ si b c x y bd of_ 0 at_ kd t m s h ot (by omega) (by omega) ha hn rfl ⟨hd.1, by unfold small; omega, hd.2.2⟩ hA0 hA1 (by omega) (by omega)).mono ?_) rfl ?_
      · rintro o ⟨k, e1, e2, e3⟩
        exact ⟨k, e1, e2, e3⟩
      · rintro _ _ ⟨rfl, rfl⟩
        (dsimp +instances only [gi0,gis,row1,rows1,int1,str1,bool1])
        exact Ret.neg rfl (Ret.pos (by (first|rfl|assumption|(simp only [inI,sl]<;>omega))) (Ret.some ⟨p + 1 + 1, rfl, by omega, by omega⟩))
  · rintro p _
    unfold st_pilelaw2_DeedsMerge_20
    (dsimp +instances only [gi0,gis,row1,rows1,int1,str1,bool1])
    exact Ret.neg (by (first|rfl|assumption|(simp only [inI,sl]<;>omega))) (Ret.some rfl)
  · rintro c g ⟨p, _, rfl, rfl⟩
    exact ⟨rfl, rfl⟩
theorem end_merge (l a : List (List G)) (pos : Int) (hp0 : 0 ≤ pos) (hp1 : pos ≤ 300000) (ha : ∀ z ∈ a, Ded z) (hn : a.length ≤ 20) (k : Option (Option Nat × List G)) (hk : k = (callF (F_pilemake_Stream_Deeds [.l l, .i pos, .i 2]) fun g39 => (loopB true (LRun st_pilelaw2_DeedsMerge_20 [.l (gi g39 0).rows, .i (gi g39 1).int, .l a, .i (chkDd a), .l (gi g39 2).rows, .i (((gi g39 2).rows.length : Nat) : Int), .i 0]) fun cg40 g40 =>
      (bif Nat.beq cg40 0 then some (some 0, [G.t (gi g40 0).bool]) else (callF (F_pilelaw2_netted []) fun g41 => some (some 0, [G.t (gi g41 0).bool])))))) :
    Ret k fun o => o = (some 0, [.t true]) := by
  subst hk
  refine Ret.call (r_Deeds0 l pos 2 hp0 (by omega) (by omega) (by omega)) ?_
  rintro _ ⟨p, q, rfl, h1, h2, h3, h4⟩
  (dsimp +instances only [gi0,gis,row1,rows1,int1,str1,bool1])
  refine Ret.loop (loop_writes l a q p (by omega) (by omega) ha hn h3 (by omega)) rfl ?_
  rintro _ _ ⟨rfl, rfl⟩
  refine Ret.neg rfl (Ret.call (Ret.eq (rfl : F_pilelaw2_netted [] = some [.t true])) ?_)
  rintro _ rfl
  exact Ret.some rfl
theorem tail14 (l a m : List (List G)) (pos at_ e f f3 : Int) (c : List (List G)) (hp0 : 0 ≤ pos) (hp1 : pos ≤ 300000) (ha : ∀ z ∈ a, Ded z) (hn : a.length ≤ 20) (hm : ∀ z ∈ m, Ded z) (hml : m.length ≤ 1000)
    (h3 : f3 = askF a at_) (hcf : [G.l c, G.i f] = bif askF a at_ != 0 then [.l [], .i (askF a at_)] else [.l (cA at_ 0 a), .i 0]) :
    Ret (tl_pilelaw2_DeedsMerge_14 [.l l, .i pos, .l a, .i at_, .i (chkDd a), .l m, .i e, .l c, .i f, .i e, .i f3, .l m]) fun o => o = (some 0, [.t true]) := by
  obtain ⟨a1, a2⟩ := checkDeeds_eq a ha hn
  unfold tl_pilelaw2_DeedsMerge_14
  (dsimp +instances only [gi0,gis,row1,rows1,int1,str1,bool1])
  subst h3
  cases h4 : askF a at_ != 0 with
  | false =>
    have h4' : askF a at_ = 0 := by simpa using h4
    rw [h4] at hcf
    cases hcf
    have hok : DdOK a := by
      unfold askF at h4'
      cases h5 : chkDd a != 0 with
      | true => rw [h5] at h4'; simp only [cond_true] at h4'; simp [h4'] at h5
      | false =>
        have : chkDd a = 0 := by simpa using h5
        rw [this] at a2
        exact a2.zero
    have hcl := cA_length at_ 0 a
    refine Ret.pos (by rw [h4']; rfl) ?_
    refine Ret.call (Ret.eq (countingOf_eq a at_ ha (by omega) (fun k hk => hok.1.2 k hk))) ?_
    rintro _ rfl
    refine Ret.call (Ret.eq a1) ?_
    rintro _ rfl
    (dsimp +instances only [gi0,gis,row1,rows1,int1,str1,bool1])
    refine Ret.neg (by simp) (Ret.neg (by simp) ?_)
    refine Ret.call (Ret.eq (equalD m hm (by omega))) ?_
    rintro _ rfl
    refine Ret.neg rfl (Ret.neg (by rw [h4']; rfl) ?_)
    refine Ret.call (Ret.eq (equalI _ (by omega))) ?_
    rintro _ rfl
    refine Ret.neg rfl ?_
    exact end_merge l a pos hp0 hp1 ha hn _ rfl
  | true =>
    have h4' : askF a at_ ≠ 0 := by simpa using h4
    rw [h4] at hcf
    cases hcf
    refine Ret.neg (by simpa using h4') ?_
    refine Ret.call (Ret.eq a1) ?_
    rintro _ rfl
    (dsimp +instances only [gi0,gis,row1,rows1,int1,str1,bool1])
    refine Ret.neg (by simp) (Ret.neg (by simp) ?_)
    refine Ret.call (Ret.eq (equalD m hm (by omega))) ?_
    rintro _ rfl
    refine Ret.neg rfl (Ret.neg (by simp) ?_)
    refine Ret.call (Ret.eq (equalI [] (by simp))) ?_
    rintro _ rfl
    refine Ret.neg rfl ?_
    exact end_merge l a pos hp0 hp1 ha hn _ rfl
theorem mergeD_shape {a b : List (List G)} (ha : ∀ z ∈ a, Ded z) (hb : ∀ z ∈ b, Ded z) (hA : Apart a) (hn : a.length ≤ 20) (hm : b.length ≤ 20) : ∃ m e, mergeD a b = [.l m, .i e] ∧ (∀ z ∈ m, Ded z) ∧ m.length ≤ 1000 := by
  unfold mergeD
  cases h : mrg a b with
  | none => exact ⟨[], 13, rfl, by simp, by simp⟩
  | some o =>
    obtain ⟨o1, o2, o3⟩ := mrg_ok h hA ha hb
    have := sortA_length (ltC ordDd) o
    exact ⟨_, 0, rfl, sortA_all (lt := ltC ordDd) o2, by omega⟩
theorem tail7 (l a b : List (List G)) (pos at_ : Int) (hp0 : 0 ≤ pos) (hp1 : pos ≤ 300000) (ha : ∀ z ∈ a, Ded z) (hb : ∀ z ∈ b, Ded z) (hn : a.length ≤ 20) (hm : b.length ≤ 20) :
    Ret (tl_pilelaw2_DeedsMerge_7 [.l l, .i pos, .l a, .l b, .i at_]) fun o => o = (some 0, [.t true]) := by
  obtain ⟨a1, a2⟩ := deedsFault_eq a ha hn
  obtain ⟨b1, b2⟩ := deedsFault_eq b hb hm
  unfold tl_pilelaw2_DeedsMerge_7
  (dsimp +instances only [gi0,gis,row1,rows1,int1,str1,bool1])
  refine Ret.call (Ret.eq a1) ?_
  rintro _ rfl
  refine Ret.call (Ret.eq (netMerge_eq a b ha hb hn hm)) ?_
  rintro _ rfl
  refine Ret.call (Ret.eq (netCounting_eq a at_ ha hn)) ?_
  rintro _ rfl
  refine Ret.call (Ret.eq b1) ?_
  rintro _ rfl
  (dsimp +instances only [gi0,gis,row1,rows1,int1,str1,bool1])
  refine Ret.call (Ret.eq (errsTwo _ _)) ?_
  rintro _ rfl
  refine Ret.call (Ret.eq (momentF_eq at_)) ?_
  rintro _ rfl
  (dsimp +instances only [gi0,gis,row1,rows1,int1,str1,bool1])
  refine Ret.call (Ret.eq (errsTwo _ _)) ?_
  rintro _ rfl
  (dsimp +instances only [gi0,gis,row1,rows1,int1,str1,bool1])
  have e3 : (bif chkDd a != 0 then chkDd a else bif inB at_ 0 345686399999 then 0 else 1) = askF a at_ := rfl
  rw [e3]
  obtain ⟨c, f, hcf⟩ : ∃ c f, (bif askF a at_ != 0 then [G.l [], .i (askF a at_)] else [.l (cA at_ 0 a), .i 0]) = [.l c, .i f] := by
    cases askF a at_ != 0
    · exact ⟨_, _, rfl⟩
    · exact ⟨_, _, rfl⟩
  have hfin : ∀ m e, (∀ z ∈ m, Ded z) → m.length ≤ 1000 → Ret (loopB true (cutR (tl_pilelaw2_DeedsMerge_14 [.l l, .i pos, .l a, .i at_, .i (chkDd a), .l m, .i e, .l c, .i f, .i e, .i (askF a at_), .l m])) fun cg42 g42 => (some (some 0, [G.t (gi g42 0).bool]) : Option (Option Nat × List G))) fun o => o = (some 0, [.t true]) := by
    intro m e h1 h2
    refine Ret.tail (P := fun _ g => g = [.t true]) ((tail14 l a m pos at_ e f _ c hp0 hp1 ha hn h1 h2 rfl hcf.symm).mono ?_) rfl ?_
    · rintro _ rfl
      exact ⟨0, rfl, rfl⟩
    · rintro _ _ rfl
      exact Ret.some rfl
  cases h1 : chkDd a != 0 with
  | true =>
    have h1' : chkDd a ≠ 0 := by simpa using h1
    simp only [cond_true]
    refine Ret.neg (by simpa using h1') ?_
    rw [hcf]
    exact hfin [] (chkDd a) (by simp) (by simp)
  | false =>
    have h1' : chkDd a = 0 := by simpa using h1
    simp only [cond_false]
    cases h2 : chkDd b != 0 with
    | true =>
      have h2' : chkDd b ≠ 0 := by simpa using h2
      simp only [cond_true]
      refine Ret.neg (by simpa using h2') ?_
      rw [hcf]
      exact hfin [] (chkDd b) (by simp) (by simp)
    | false =>
      have h2' : chkDd b = 0 := by simpa using h2
      simp only [cond_false]
      refine Ret.pos (by rw [h2']; rfl) ?_
      rw [h1'] at a2
      refine Ret.call (Ret.eq (deedsOf_eq a b ha hb a2.zero.2.apart hn hm)) ?_
      rintro _ rfl
      obtain ⟨m, e, he, hM, hML⟩ := mergeD_shape ha hb a2.zero.2.apart hn hm
      rw [he, hcf]
      exact hfin m e hM hML
theorem tail4 (l a b : List (List G)) (pos at_ : Int) (fl : Bool) (hp0 : 0 ≤ pos) (hp1 : pos ≤ 200000) (ha : ∀ z ∈ a, Dd0 z) (hb : ∀ z ∈ b, Ded z) (hn : a.length ≤ 20) (hm : b.length ≤ 20) (h0 : fl = true → 0 < a.length) :
    Ret (tl_pilelaw2_DeedsMerge_4 [.l l, .i pos, .l a, .l b, .i at_, .t fl]) fun o => ∃ x, o.1 = some x ∧ ∃ p q, o.2 = [.l l, .i p, .l a, .l q, .i at_] ∧ pos ≤ p ∧ p ≤ pos + 10 ∧ (∀ z ∈ q, Ded z) ∧ q.length ≤ 20 := by
  unfold tl_pilelaw2_DeedsMerge_4
  (dsimp +instances only [gi0,gis,row1,rows1,int1,str1,bool1])
  cases fl with
  | false => exact Ret.neg rfl (Ret.some ⟨0, rfl, pos, b, rfl, by omega, by omega, hb, hm⟩)
  | true =>
    have h0 := h0 rfl
    refine Ret.pos rfl ?_
    refine Ret.call (r_Next l pos (a.length : Int) hp0 (by omega) (by omega) (by omega)) ?_
    rintro _ ⟨v, rfl, hv0, hv1⟩
    (dsimp +instances only [gi0,gis,row1,rows1,int1,str1,bool1])
    refine Ret.pos (by (first|rfl|assumption|(simp only [inI,sl]<;>omega))) ?_
    have hdl : (a.drop v.toNat).length = a.length - v.toNat := List.length_drop
    refine Ret.call (Ret.eq (cloneD_ok (a.drop v.toNat) (by omega))) ?_
    rintro _ rfl
    (dsimp +instances only [gi0,gis,row1,rows1,int1,str1,bool1])
    refine Ret.call (r_Flip l _ 4 (by omega) (by omega) (by omega) (by omega)) ?_
    rintro _ ⟨f2, rfl⟩
    (dsimp +instances only [gi0,gis,row1,rows1,int1,str1,bool1])
    have hq : ∀ z ∈ a.drop v.toNat, Dd0 z := fun z hz => ha z (List.mem_of_mem_drop hz)
    refine Ret.test (fun _ => ?_) fun _ => ?_
    · obtain ⟨z, r, e⟩ : ∃ z r, a.drop v.toNat = z :: r := by
        cases hh : a.drop v.toNat with
        | nil => rw [hh] at hdl; simp at hdl; omega
        | cons z r => exact ⟨z, r, rfl⟩
      rw [e] at hq hdl ⊢
      obtain ⟨⟨si, no, at', kd, t, m, b', c, s, h, x, y, bd, of_, ot, rfl, hd⟩, hA0, hA1⟩ := hq z List.mem_cons_self
      have hA0 : 0 ≤ at' := hA0
      have hA1 : at' ≤ 100 := hA1
      simp only [List.getD_cons_zero, List.set_cons_zero, List.length_cons]
      have e2 : putG KDeed (dRow si no at' kd t m b' c s h x y bd of_ ot) 2 [.i ((gi (dRow si no at' kd t m b' c s h x y bd of_ ot) 2).int + 1)] = dRow si no (at' + 1) kd t m b' c s h x y bd of_ ot := rfl
      have e3 : (gi (dRow si no at' kd t m b' c s h x y bd of_ ot) 2).int = at' := rfl
      rw [e2, e3]
      refine Ret.pos (by (first|rfl|assumption|(simp only [inI,sl]<;>omega))) (Ret.pos (by (first|rfl|assumption|(simp only [inI,sl]<;>omega))) (Ret.pos (by (first|rfl|assumption|(simp only [inI,sl]<;>omega))) (Ret.pos (by (first|rfl|assumption|(simp only [inI,sl]<;>omega))) (Ret.pos (by (first|rfl|assumption|(simp only [inI,sl]<;>omega))) (Ret.pos (by simp) (Ret.some ⟨0, rfl, _, _, rfl, by omega, by omega, ?_, by simp at hdl ⊢; omega⟩))))))
      intro w hw
      rcases List.mem_cons.1 hw with rfl | hw
      · exact ⟨_, _, _, _, _, _, _, _, _, _, _, _, _, _, _, rfl, ⟨hd.1, hd.2.1, by unfold small; omega, hd.2.2.2⟩⟩
      · exact (hq w (List.mem_cons_of_mem _ hw)).1
    · exact Ret.pos (by simp) (Ret.some ⟨0, rfl, _, _, rfl, by omega, by omega, fun z hz => (hq z hz).1, by omega⟩)
theorem deedsMerge_data (l : List (List G)) : F_pilelaw2_DeedsMerge [.l l] = some [.t true] := by
  refine Ret.toEq ?_
  unfold F_pilelaw2_DeedsMerge
  (dsimp +instances only [gi0,gis,row1,rows1,int1,str1,bool1])
  refine Ret.call (r_Range l 0 0 14 (by omega) (by omega) (by omega) (by omega) (by omega)) ?_
  rintro _ ⟨n, rfl, hn0, hn1⟩
  (dsimp +instances only [gi0,gis,row1,rows1,int1,str1,bool1])
  refine Ret.call (r_Deeds0 l (0 + 1) n (by omega) (by omega) hn0 (by omega)) ?_
  rintro _ ⟨p1, a, rfl, q1, q2, ha, hal⟩
  (dsimp +instances only [gi0,gis,row1,rows1,int1,str1,bool1])
  refine Ret.call (r_Range l p1 0 6 (by omega) (by omega) (by omega) (by omega) (by omega)) ?_
  rintro _ ⟨n2, rfl, hm0, hm1⟩
  (dsimp +instances only [gi0,gis,row1,rows1,int1,str1,bool1])
  refine Ret.call (r_Deeds l (p1 + 1) n2 (by omega) (by omega) hm0 (by omega)) ?_
  rintro _ ⟨p2, b, rfl, q3, q4, hb, hbl⟩
  (dsimp +instances only [gi0,gis,row1,rows1,int1,str1,bool1])
  refine Ret.call (r_DeedTime l p2 (by omega) (by omega)) ?_
  rintro _ ⟨t, rfl, ht0, ht1⟩
  (dsimp +instances only [gi0,gis,row1,rows1,int1,str1,bool1])
  have haD : ∀ z ∈ a, Ded z := fun z hz => (ha z hz).1
  have fin : ∀ (p : Int) (fl : Bool), 0 ≤ p → p ≤ 100000 → (fl = true → 0 < a.length) → Ret (loopB true (cutR (tl_pilelaw2_DeedsMerge_4 [.l l, .i p, .l a, .l b, .i t, .t fl])) fun cg10 g10 =>
      (loopB true (cutR (tl_pilelaw2_DeedsMerge_7 [.l (gi g10 0).rows, .i (gi g10 1).int, .l (gi g10 2).rows, .l (gi g10 3).rows, .i (gi g10 4).int])) fun cg44 g44 => (some [G.t (gi g44 0).bool] : Option (List G)))) fun g => g = [.t true] := by
    intro p fl hp0 hp1 h0
    refine Ret.tail (P := fun _ g => ∃ p' q, g = [.l l, .i p', .l a, .l q, .i t] ∧ p ≤ p' ∧ p' ≤ p + 10 ∧ (∀ z ∈ q, Ded z) ∧ q.length ≤ 20) (tail4 l a b p t fl hp0 (by omega) ha hb (by omega) (by omega) h0) rfl ?_
    rintro _ _ ⟨p', q, rfl, r1, r2, r3, r4⟩
    (dsimp +instances only [gi0,gis,row1,rows1,int1,str1,bool1])
    refine Ret.tail (P := fun _ g => g = [.t true]) ((tail7 l a q p' t (by omega) (by omega) haD r3 (by omega) r4).mono ?_) rfl ?_
    · rintro _ rfl
      exact ⟨0, rfl, rfl⟩
    · rintro _ _ rfl
      exact Ret.some rfl
  refine Ret.test (fun h => ?_) fun h => ?_
  · refine Ret.call (r_Flip l (p2 + 1) 2 (by omega) (by omega) (by omega) (by omega)) ?_
    rintro _ ⟨fl, rfl⟩
    (dsimp +instances only [gi0,gis,row1,rows1,int1,str1,bool1])
    exact fin _ fl (by omega) (by omega) fun _ => by rw [ltI_eq, decide_eq_true_eq] at h; omega
  · exact fin _ false (by omega) (by omega) fun h => by cases h
end
end Go.Proofs.SYtkdippipiidcmaaGreatDoor
