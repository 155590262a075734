/-
  What is proved here: what the methods of the stream give on data. No condition.
-/
import Derived.Test.YthnhleemkjpigaaGreatDoorML4
import Derived.Test.YthnhleemkjpigaaGreatDoorME
set_option linter.unusedSimpArgs false
set_option linter.unusedVariables false
set_option linter.unusedSectionVars false
namespace Go.Proofs.SYthnhleemkjpigaaGreatDoor
open Go Go.AL Go.Proofs
noncomputable section
theorem r_Below (x n : Int) (h0 : 1 ≤ n) (h1 : n ≤ 1099511627776) : Ret (F_pilemake_Below [.i x, .i n]) fun g => ∃ v, g = [.i v] ∧ 0 ≤ v ∧ v < n := by
  unfold F_pilemake_Below
  (dsimp +instances only [gi0,gis,row1,rows1,int1,str1,bool1])
  have ha := Int.tmod_lt_of_pos x (by omega : 0 < n)
  have hb := Int.lt_tmod_of_pos x (by omega : 0 < n)
  (repeat(first|(refine Ret.pos ?_ ?_;(first|rfl|assumption|(simp only [inI,sl]<;>omega)))|(refine Ret.neg ?_ ?_;(first|rfl|assumption|(simp only [inI,sl]<;>omega)))))
  refine Ret.test (fun h => ?_) fun h => ?_
  · simp only [ltI_eq, decide_eq_true_eq] at h
    (repeat(first|(refine Ret.pos ?_ ?_;(first|rfl|assumption|(simp only [inI,sl]<;>omega)))|(refine Ret.neg ?_ ?_;(first|rfl|assumption|(simp only [inI,sl]<;>omega)))))
    exact Ret.some ⟨_, rfl, by omega, by omega⟩
  · simp only [ltI_eq, decide_eq_false_iff_not] at h
    exact Ret.some ⟨_, rfl, by omega, by omega⟩
theorem r_Next (l : List (List G)) (a n : Int) (ha : 0 ≤ a) (ha1 : a ≤ 1000000) (h0 : 1 ≤ n) (h1 : n ≤ 1099511627776) :
    Ret (F_pilemake_Stream_Next [.l l, .i a, .i n]) fun g => ∃ v, g = [.l l, .i (a + 1), .i v] ∧ 0 ≤ v ∧ v < n := by
  unfold F_pilemake_Stream_Next
  (dsimp +instances only [gi0,gis,row1,rows1,int1,str1,bool1])
  have ea : a + 1 - 1 = a := by omega
  simp only [ea]
  by_cases hl : l.length = 0
  · (repeat(first|(refine Ret.pos ?_ ?_;(first|rfl|assumption|(simp only [inI,sl]<;>omega)))|(refine Ret.neg ?_ ?_;(first|rfl|assumption|(simp only [inI,sl]<;>omega)))))
    refine Ret.call (r_Below _ n h0 h1) ?_
    rintro _ ⟨v, rfl, h2, h3⟩
    (dsimp +instances only [gi0,gis,row1,rows1,int1,str1,bool1])
    exact Ret.some ⟨v, rfl, h2, h3⟩
  · have hp : (0 : Int) < (l.length : Int) := by omega
    have d0 : 0 ≤ Int.tdiv a l.length := Int.tdiv_nonneg ha (by omega)
    have d1 : Int.tdiv a l.length ≤ a := by
      rw [Int.tdiv_eq_ediv_of_nonneg ha]
      exact Int.ediv_le_self _ ha
    have m0 : 0 ≤ Int.tmod a l.length := by
      rw [Int.tmod_eq_emod_of_nonneg ha]
      exact Int.emod_nonneg _ (by omega)
    have m1 : Int.tmod a l.length < l.length := Int.tmod_lt_of_pos a hp
    have m2 : Int.tmod a l.length ≤ a := by
      rw [Int.tmod_eq_emod_of_nonneg ha]
      have := Int.mul_ediv_add_emod a l.length
      have h4 : 0 ≤ (l.length : Int) * (a / l.length) := Int.mul_nonneg (by omega) (Int.ediv_nonneg ha (by omega))
      omega
    generalize hq : Int.tdiv a l.length = q at *
    generalize hr : Int.tmod a l.length = r at *
    have p0 : 0 ≤ q * (7919 + r) := Int.mul_nonneg d0 (by omega)
    have p1 : q * (7919 + r) ≤ 1000000 * 2000000 := Int.mul_le_mul (by omega) (by omega) (by omega) (by omega)
    generalize hz : q * (7919 + r) = z at *
    (repeat(first|(refine Ret.pos ?_ ?_;(first|rfl|assumption|(simp only [inI,sl]<;>omega)))|(refine Ret.neg ?_ ?_;(first|rfl|assumption|(simp only [inI,sl]<;>omega)))))
    refine Ret.call (r_Below _ 1073741824 (by omega) (by omega)) ?_
    rintro _ ⟨u, rfl, h2, h3⟩
    (dsimp +instances only [gi0,gis,row1,rows1,int1,str1,bool1])
    (repeat(first|(refine Ret.pos ?_ ?_;(first|rfl|assumption|(simp only [inI,sl]<;>omega)))|(refine Ret.neg ?_ ?_;(first|rfl|assumption|(simp only [inI,sl]<;>omega)))))
    refine Ret.call (r_Below _ n h0 h1) ?_
    rintro _ ⟨v, rfl, h4, h5⟩
    (dsimp +instances only [gi0,gis,row1,rows1,int1,str1,bool1])
    exact Ret.some ⟨v, rfl, h4, h5⟩
theorem r_Range (l : List (List G)) (a lo hi : Int) (ha : 0 ≤ a) (ha1 : a ≤ 1000000) (h0 : lo ≤ hi) (h1 : -1000000000 ≤ lo) (h2 : hi ≤ 1000000000) :
    Ret (F_pilemake_Stream_Range [.l l, .i a, .i lo, .i hi]) fun g => ∃ v, g = [.l l, .i (a + 1), .i v] ∧ lo ≤ v ∧ v ≤ hi := by
  unfold F_pilemake_Stream_Range
  (dsimp +instances only [gi0,gis,row1,rows1,int1,str1,bool1])
  (repeat(first|(refine Ret.pos ?_ ?_;(first|rfl|assumption|(simp only [inI,sl]<;>omega)))|(refine Ret.neg ?_ ?_;(first|rfl|assumption|(simp only [inI,sl]<;>omega)))))
  refine Ret.call (r_Next l a _ ha ha1 (by omega) (by omega)) ?_
  rintro _ ⟨v, rfl, h3, h4⟩
  (dsimp +instances only [gi0,gis,row1,rows1,int1,str1,bool1])
  (repeat(first|(refine Ret.pos ?_ ?_;(first|rfl|assumption|(simp only [inI,sl]<;>omega)))|(refine Ret.neg ?_ ?_;(first|rfl|assumption|(simp only [inI,sl]<;>omega)))))
  exact Ret.some ⟨_, rfl, by omega, by omega⟩
theorem getD_mem' {l : List (List G)} {v : Int} (h0 : 0 ≤ v) (h1 : v < l.length) : l.getD v.toNat [] ∈ l := by
  have : v.toNat < l.length := by omega
  rw [List.getD_eq_getElem?_getD, List.getElem?_eq_getElem this]
  exact List.getElem_mem this
theorem r_Pick (P : Int → Prop) (l : List (List G)) (a : Int) (xs : List (List G)) (ha : 0 ≤ a) (ha1 : a ≤ 1000000) (h0 : 1 ≤ xs.length) (h1 : xs.length ≤ 1000000) (hP : ∀ x ∈ xs, P (gi x 0).int) :
    Ret (F_pilemake_Stream_Pick [.l l, .i a, .l xs]) fun g => ∃ v, g = [.l l, .i (a + 1), .i v] ∧ P v := by
  unfold F_pilemake_Stream_Pick
  (dsimp +instances only [gi0,gis,row1,rows1,int1,str1,bool1])
  refine Ret.call (r_Next l a _ ha ha1 (by omega) (by omega)) ?_
  rintro _ ⟨v, rfl, h3, h4⟩
  (dsimp +instances only [gi0,gis,row1,rows1,int1,str1,bool1])
  (repeat(first|(refine Ret.pos ?_ ?_;(first|rfl|assumption|(simp only [inI,sl]<;>omega)))|(refine Ret.neg ?_ ?_;(first|rfl|assumption|(simp only [inI,sl]<;>omega)))))
  exact Ret.some ⟨_, rfl, hP _ (getD_mem' h3 h4)⟩
theorem r_Some (P : ByteArray → Prop) (l : List (List G)) (a : Int) (xs : List (List G)) (ha : 0 ≤ a) (ha1 : a ≤ 1000000) (h0 : 1 ≤ xs.length) (h1 : xs.length ≤ 1000000) (hP : ∀ x ∈ xs, P (gi x 0).str) :
    Ret (F_pilemake_Stream_Some [.l l, .i a, .l xs]) fun g => ∃ v, g = [.l l, .i (a + 1), .s v] ∧ P v := by
  unfold F_pilemake_Stream_Some
  (dsimp +instances only [gi0,gis,row1,rows1,int1,str1,bool1])
  refine Ret.call (r_Next l a _ ha ha1 (by omega) (by omega)) ?_
  rintro _ ⟨v, rfl, h3, h4⟩
  (dsimp +instances only [gi0,gis,row1,rows1,int1,str1,bool1])
  (repeat(first|(refine Ret.pos ?_ ?_;(first|rfl|assumption|(simp only [inI,sl]<;>omega)))|(refine Ret.neg ?_ ?_;(first|rfl|assumption|(simp only [inI,sl]<;>omega)))))
  exact Ret.some ⟨_, rfl, hP _ (getD_mem' h3 h4)⟩
theorem r_Flip (l : List (List G)) (a n : Int) (ha : 0 ≤ a) (ha1 : a ≤ 1000000) (h0 : 1 ≤ n) (h1 : n ≤ 1000000) :
    Ret (F_pilemake_Stream_Flip [.l l, .i a, .i n]) fun g => ∃ b, g = [.l l, .i (a + 1), .t b] := by
  unfold F_pilemake_Stream_Flip
  (dsimp +instances only [gi0,gis,row1,rows1,int1,str1,bool1])
  refine Ret.call (r_Next l a _ ha ha1 (by omega) (by omega)) ?_
  rintro _ ⟨v, rfl, h3, h4⟩
  exact Ret.some ⟨_, rfl⟩
theorem r_Odd (l : List (List G)) (a lo hi : Int) (ha : 0 ≤ a) (ha1 : a ≤ 900000) (h0 : lo ≤ hi) (h1 : -1000000000 ≤ lo) (h2 : hi ≤ 1000000000) :
    Ret (F_pilemake_Stream_Odd [.l l, .i a, .i lo, .i hi]) fun g => ∃ v, g = [.l l, .i (a + 2), .i v] ∧ -1099511627776 ≤ v ∧ (v ≤ 1000000001 ∨ v = 1099511627776) := by
  unfold F_pilemake_Stream_Odd
  (dsimp +instances only [gi0,gis,row1,rows1,int1,str1,bool1])
  have e2 : a + 1 + 1 = a + 2 := by omega
  refine Ret.call (r_Flip l a 12 ha (by omega) (by omega) (by omega)) ?_
  rintro _ ⟨b, rfl⟩
  (dsimp +instances only [gi0,gis,row1,rows1,int1,str1,bool1])
  cases b with
  | true =>
    (repeat(first|(refine Ret.pos ?_ ?_;(first|rfl|assumption|(simp only [inI,sl]<;>omega)))|(refine Ret.neg ?_ ?_;(first|rfl|assumption|(simp only [inI,sl]<;>omega)))))
    refine Ret.call (r_Pick (fun v => -1099511627776 ≤ v ∧ (v ≤ 1000000001 ∨ v = 1099511627776)) l (a + 1) _ (by omega) (by omega) (by simp) (by simp) ?_) ?_
    · intro x hx
      simp only [List.mem_cons, List.not_mem_nil, or_false] at hx
      rcases hx with rfl | rfl | rfl | rfl | rfl | rfl <;> (dsimp +instances only [gi0,gis,row1,rows1,int1,str1,bool1]) <;> omega
    · rintro _ ⟨v, rfl, h3, h4⟩
      (dsimp +instances only [gi0,gis,row1,rows1,int1,str1,bool1])
      exact Ret.some ⟨v, by rw [e2], h3, h4⟩
  | false =>
    (repeat(first|(refine Ret.pos ?_ ?_;(first|rfl|assumption|(simp only [inI,sl]<;>omega)))|(refine Ret.neg ?_ ?_;(first|rfl|assumption|(simp only [inI,sl]<;>omega)))))
    refine Ret.call (r_Range l (a + 1) lo hi (by omega) (by omega) h0 h1 h2) ?_
    rintro _ ⟨v, rfl, h3, h4⟩
    (dsimp +instances only [gi0,gis,row1,rows1,int1,str1,bool1])
    exact Ret.some ⟨v, by rw [e2], by omega, by omega⟩
end
end Go.Proofs.SYthnhleemkjpigaaGreatDoor

namespace Go.Proofs.SYthnhleemkjpigaaGreatDoor
open Go Go.AL Go.Proofs
noncomputable section
def inL (L : List ByteArray) (s : ByteArray) : Bool := L.any fun x => eqS x s
theorem inL_mem {L : List ByteArray} {s : ByteArray} (h : inL L s = true) : s ∈ L := by
  obtain ⟨x, hx, he⟩ := List.any_eq_true.1 h
  exact eqS_eq he ▸ hx
theorem r_PickB (lo hi : Int) (l : List (List G)) (a : Int) (xs : List (List G)) (ha : 0 ≤ a) (ha1 : a ≤ 1000000) (h0 : (Nat.ble 1 xs.length && Nat.ble xs.length 1000000) = true) (hP : (xs.all fun x => leI lo (gi x 0).int && leI (gi x 0).int hi) = true) :
    Ret (F_pilemake_Stream_Pick [.l l, .i a, .l xs]) fun g => ∃ v, g = [.l l, .i (a + 1), .i v] ∧ lo ≤ v ∧ v ≤ hi := by
  simp only [Bool.and_eq_true, Nat.ble_eq] at h0
  refine r_Pick (fun v => lo ≤ v ∧ v ≤ hi) l a xs ha ha1 h0.1 h0.2 fun x hx => ?_
  have := List.all_eq_true.1 hP x hx
  simpa only [leI_eq, Bool.and_eq_true, decide_eq_true_eq] using this
theorem r_SomeB (L : List ByteArray) (l : List (List G)) (a : Int) (xs : List (List G)) (ha : 0 ≤ a) (ha1 : a ≤ 1000000) (h0 : (Nat.ble 1 xs.length && Nat.ble xs.length 1000000) = true) (hP : (xs.all fun x => inL L (gi x 0).str) = true) :
    Ret (F_pilemake_Stream_Some [.l l, .i a, .l xs]) fun g => ∃ v, g = [.l l, .i (a + 1), .s v] ∧ v ∈ L := by
  simp only [Bool.and_eq_true, Nat.ble_eq] at h0
  exact r_Some (fun v => v ∈ L) l a xs ha ha1 h0.1 h0.2 fun x hx => inL_mem (List.all_eq_true.1 hP x hx)
def calls : List ByteArray := [⟨#[]⟩, ⟨#[107, 49]⟩, ⟨#[75, 49, 65, 66]⟩, ⟨#[107, 49, 97, 98, 47]⟩, ⟨#[49, 97]⟩, ⟨#[107, 49, 97, 98, 47, 109, 109, 47, 112]⟩, ⟨#[107, 49, 97, 98]⟩, ⟨#[107, 49, 97, 97]⟩, ⟨#[107, 49, 97, 98, 47, 52]⟩,
  ⟨#[111, 104, 50, 97, 98, 99]⟩, ⟨#[111, 104, 50, 97, 98, 100]⟩, ⟨#[119, 49, 97, 119]⟩, ⟨#[110, 49, 109, 109]⟩, ⟨#[103, 51, 120, 121, 122, 47, 112]⟩]
def bands : List ByteArray := [⟨#[]⟩, ⟨#[66]⟩, ⟨#[98, 50, 48]⟩, ⟨#[98, 52, 48]⟩]
def names : List ByteArray := [⟨#[]⟩, ⟨#[65]⟩, ⟨#[49]⟩, ⟨#[102, 105, 110]⟩, ⟨#[117, 115, 97]⟩]
def small (n : Int) : Prop := -2000000000000 ≤ n ∧ n ≤ 2000000000000
def Con (r : List G) : Prop := ∃ (t m : Int) (b c : ByteArray) (s h : Int) (x y : ByteArray), r = [.i t, .i m, .s b, .s c, .i s, .i h, .s x, .s y] ∧ small t ∧ small m ∧ small s ∧ small h ∧ b ∈ bands ∧ c ∈ calls ∧ x ∈ names ∧ y ∈ names
def tight (n : Int) : Prop := -1900000000000 ≤ n ∧ n ≤ 1900000000000
def tightT (n : Int) : Prop := -1900000000000 ≤ n ∧ (n ≤ 345000000000 ∨ (345686399999 < n ∧ n ≤ 1900000000000))
def ConT (r : List G) : Prop := ∃ (t m : Int) (b c : ByteArray) (s h : Int) (x y : ByteArray), r = [.i t, .i m, .s b, .s c, .i s, .i h, .s x, .s y] ∧ tightT t ∧ tight m ∧ tight s ∧ tight h ∧ b ∈ bands ∧ c ∈ calls ∧ x ∈ names ∧ y ∈ names
theorem tight.to {n : Int} (h : tight n) : small n := ⟨by have := h.1; omega, by have := h.2; omega⟩
theorem tightT.to {n : Int} (h : tightT n) : small n := by
  unfold tightT at h
  exact ⟨by omega, by omega⟩
theorem ConT.to {r : List G} (h : ConT r) : Con r := by
  obtain ⟨t, m, b, c, s, h, x, y, e, h1, h2, h3, h4, h5⟩ := h
  exact ⟨t, m, b, c, s, h, x, y, e, h1.to, h2.to, h3.to, h4.to, h5⟩
theorem Con.eta {r : List G} (h : Con r) : gEta KContact r = r := by
  obtain ⟨t, m, b, c, s, h, x, y, rfl, _⟩ := h
  rfl
theorem r_ACall (l : List (List G)) (a : Int) (ha : 0 ≤ a) (ha1 : a ≤ 900000) : Ret (F_pilemake_Stream_ACall [.l l, .i a]) fun g => ∃ v, g = [.l l, .i (a + 2), .s v] ∧ v ∈ calls := by
  unfold F_pilemake_Stream_ACall
  (dsimp +instances only [gi0,gis,row1,rows1,int1,str1,bool1])
  have e2 : a + 1 + 1 = a + 2 := by omega
  refine Ret.call (r_Flip l a 60 ha (by omega) (by omega) (by omega)) ?_
  rintro _ ⟨b, rfl⟩
  (dsimp +instances only [gi0,gis,row1,rows1,int1,str1,bool1])
  cases b with
  | true =>
    (repeat(first|(refine Ret.pos ?_ ?_;(first|rfl|assumption|(simp only [inI,sl]<;>omega)))|(refine Ret.neg ?_ ?_;(first|rfl|assumption|(simp only [inI,sl]<;>omega)))))
    refine Ret.call (r_SomeB calls l (a + 1) _ (by omega) (by omega) (by kernel_rfl) (by kernel_rfl)) ?_
    rintro _ ⟨v, rfl, h⟩
    exact Ret.some ⟨v, by (dsimp +instances only [gi0,gis,row1,rows1,int1,str1,bool1]); rw [e2], h⟩
  | false =>
    (repeat(first|(refine Ret.pos ?_ ?_;(first|rfl|assumption|(simp only [inI,sl]<;>omega)))|(refine Ret.neg ?_ ?_;(first|rfl|assumption|(simp only [inI,sl]<;>omega)))))
    refine Ret.call (r_SomeB calls l (a + 1) _ (by omega) (by omega) (by kernel_rfl) (by kernel_rfl)) ?_
    rintro _ ⟨v, rfl, h⟩
    exact Ret.some ⟨v, by (dsimp +instances only [gi0,gis,row1,rows1,int1,str1,bool1]); rw [e2], h⟩
theorem r_SomeContact (l : List (List G)) (a t : Int) (ha : 0 ≤ a) (ha1 : a ≤ 800000) (ht : tightT t) :
    Ret (F_pilemake_Stream_SomeContact [.l l, .i a, .i t]) fun g => ∃ b r, g = [.l l, .i b, .l [r]] ∧ a ≤ b ∧ b ≤ a + 20 ∧ ConT r := by
  unfold tightT at ht
  unfold F_pilemake_Stream_SomeContact
  (dsimp +instances only [gi0,gis,row1,rows1,int1,str1,bool1])
  refine Ret.call (r_PickB 1 3 l a _ ha (by omega) (by kernel_rfl) (by kernel_rfl)) ?_
  rintro _ ⟨m, rfl, hm⟩
  (dsimp +instances only [gi0,gis,row1,rows1,int1,str1,bool1])
  refine Ret.call (r_SomeB bands l _ _ (by omega) (by omega) (by kernel_rfl) (by kernel_rfl)) ?_
  rintro _ ⟨bd, rfl, hb⟩
  (dsimp +instances only [gi0,gis,row1,rows1,int1,str1,bool1])
  refine Ret.call (r_ACall l _ (by omega) (by omega)) ?_
  rintro _ ⟨c, rfl, hc⟩
  (dsimp +instances only [gi0,gis,row1,rows1,int1,str1,bool1])
  refine Ret.call (r_PickB 0 7 l _ _ (by omega) (by omega) (by kernel_rfl) (by kernel_rfl)) ?_
  rintro _ ⟨s, rfl, hs⟩
  (dsimp +instances only [gi0,gis,row1,rows1,int1,str1,bool1])
  refine Ret.call (r_PickB 0 9 l _ _ (by omega) (by omega) (by kernel_rfl) (by kernel_rfl)) ?_
  rintro _ ⟨h, rfl, hh⟩
  (dsimp +instances only [gi0,gis,row1,rows1,int1,str1,bool1])
  refine Ret.call (r_SomeB names l _ _ (by omega) (by omega) (by kernel_rfl) (by kernel_rfl)) ?_
  rintro _ ⟨x, rfl, hx⟩
  (dsimp +instances only [gi0,gis,row1,rows1,int1,str1,bool1])
  refine Ret.call (r_SomeB names l _ _ (by omega) (by omega) (by kernel_rfl) (by kernel_rfl)) ?_
  rintro _ ⟨y, rfl, hy⟩
  (dsimp +instances only [gi0,gis,row1,rows1,int1,str1,bool1])
  refine Ret.call (r_Flip l _ 100 (by omega) (by omega) (by omega) (by omega)) ?_
  rintro _ ⟨f, rfl⟩
  (dsimp +instances only [gi0,gis,row1,rows1,int1,str1,bool1])
  cases f with
  | false =>
    (repeat(first|(refine Ret.pos ?_ ?_;(first|rfl|assumption|(simp only [inI,sl]<;>omega)))|(refine Ret.neg ?_ ?_;(first|rfl|assumption|(simp only [inI,sl]<;>omega)))))
    exact Ret.some ⟨_, _, rfl, by omega, by omega, t, m, bd, c, s, h, x, y, rfl, ht, ⟨by omega, by omega⟩, ⟨by omega, by omega⟩, ⟨by omega, by omega⟩, hb, hc, hx, hy⟩
  | true =>
    (repeat(first|(refine Ret.pos ?_ ?_;(first|rfl|assumption|(simp only [inI,sl]<;>omega)))|(refine Ret.neg ?_ ?_;(first|rfl|assumption|(simp only [inI,sl]<;>omega)))))
    refine Ret.call (r_Next l _ 4 (by omega) (by omega) (by omega) (by omega)) ?_
    rintro _ ⟨k, rfl, hk⟩
    (dsimp +instances only [gi0,gis,row1,rows1,int1,str1,bool1])
    by_cases k0 : k = 0
    · subst k0
      (repeat(first|(refine Ret.pos ?_ ?_;(first|rfl|assumption|(simp only [inI,sl]<;>omega)))|(refine Ret.neg ?_ ?_;(first|rfl|assumption|(simp only [inI,sl]<;>omega)))))
      refine Ret.call (r_Odd l _ 0 500 (by omega) (by omega) (by omega) (by omega) (by omega)) ?_
      rintro _ ⟨t', rfl, ht'⟩
      (dsimp +instances only [gi0,gis,row1,rows1,int1,str1,bool1])
      refine Ret.call (r_Odd l _ 1 3 (by omega) (by omega) (by omega) (by omega) (by omega)) ?_
      rintro _ ⟨m', rfl, hm'⟩
      (dsimp +instances only [gi0,gis,row1,rows1,int1,str1,bool1])
      exact Ret.some ⟨_, _, rfl, by omega, by omega, t', m', bd, c, s, h, x, y, rfl, ⟨by omega, by omega⟩, ⟨by omega, by omega⟩, ⟨by omega, by omega⟩, ⟨by omega, by omega⟩, hb, hc, hx, hy⟩
    · refine Ret.neg (by simpa using k0) ?_
      by_cases k1 : k = 1
      · subst k1
        (repeat(first|(refine Ret.pos ?_ ?_;(first|rfl|assumption|(simp only [inI,sl]<;>omega)))|(refine Ret.neg ?_ ?_;(first|rfl|assumption|(simp only [inI,sl]<;>omega)))))
        refine Ret.call (r_SomeB bands l _ _ (by omega) (by omega) (by kernel_rfl) (by kernel_rfl)) ?_
        rintro _ ⟨b', rfl, hb'⟩
        (dsimp +instances only [gi0,gis,row1,rows1,int1,str1,bool1])
        exact Ret.some ⟨_, _, rfl, by omega, by omega, t, m, b', c, s, h, x, y, rfl, ht, ⟨by omega, by omega⟩, ⟨by omega, by omega⟩, ⟨by omega, by omega⟩, hb', hc, hx, hy⟩
      · refine Ret.neg (by simpa using k1) ?_
        by_cases k2 : k = 2
        · subst k2
          (repeat(first|(refine Ret.pos ?_ ?_;(first|rfl|assumption|(simp only [inI,sl]<;>omega)))|(refine Ret.neg ?_ ?_;(first|rfl|assumption|(simp only [inI,sl]<;>omega)))))
          refine Ret.call (r_Odd l _ 0 99999 (by omega) (by omega) (by omega) (by omega) (by omega)) ?_
          rintro _ ⟨s', rfl, hs'⟩
          (dsimp +instances only [gi0,gis,row1,rows1,int1,str1,bool1])
          refine Ret.call (r_Odd l _ 0 99999 (by omega) (by omega) (by omega) (by omega) (by omega)) ?_
          rintro _ ⟨h', rfl, hh'⟩
          (dsimp +instances only [gi0,gis,row1,rows1,int1,str1,bool1])
          exact Ret.some ⟨_, _, rfl, by omega, by omega, t, m, bd, c, s', h', x, y, rfl, ht, ⟨by omega, by omega⟩, ⟨by omega, by omega⟩, ⟨by omega, by omega⟩, hb, hc, hx, hy⟩
        · refine Ret.neg (by simpa using k2) ?_
          refine Ret.call (r_SomeB names l _ _ (by omega) (by omega) (by kernel_rfl) (by kernel_rfl)) ?_
          rintro _ ⟨x', rfl, hx'⟩
          (dsimp +instances only [gi0,gis,row1,rows1,int1,str1,bool1])
          refine Ret.call (r_SomeB names l _ _ (by omega) (by omega) (by kernel_rfl) (by kernel_rfl)) ?_
          rintro _ ⟨y', rfl, hy'⟩
          (dsimp +instances only [gi0,gis,row1,rows1,int1,str1,bool1])
          exact Ret.some ⟨_, _, rfl, by omega, by omega, t, m, bd, c, s, h, x', y', rfl, ht, ⟨by omega, by omega⟩, ⟨by omega, by omega⟩, ⟨by omega, by omega⟩, hb, hc, hx', hy'⟩
end
end Go.Proofs.SYthnhleemkjpigaaGreatDoor

namespace Go.Proofs.SYthnhleemkjpigaaGreatDoor
open Go Go.AL Go.Proofs
noncomputable section
def cmpI (a b : Int) : Int := if a < b then -1 else if b < a then 1 else 0
theorem compareBytes_zero : ∀ {a b : List UInt8}, Lib.compareBytes a b = 0 → a = b
  | [], [], _ => rfl
  | [], _ :: _, h => by simp [Lib.compareBytes] at h
  | _ :: _, [], h => by simp [Lib.compareBytes] at h
  | x :: a, y :: b, h => by
    unfold Lib.compareBytes at h
    split at h
    · cases h
    · split at h
      · cases h
      · rename_i h1 h2
        rw [compareBytes_zero h, UInt8.le_antisymm (UInt8.not_lt.1 h2) (UInt8.not_lt.1 h1)]
theorem compareBytes_self : ∀ a : List UInt8, Lib.compareBytes a a = 0
  | [] => rfl
  | x :: a => by simp [Lib.compareBytes, compareBytes_self a]
theorem str_eq (a b : ByteArray) : (a.toList == b.toList) = decide (cmpS a b = 0) := by
  rw [ByteArray.toList_eq, ByteArray.toList_eq, Bool.eq_iff_iff, decide_eq_true_eq, beq_iff_eq]
  constructor
  · intro h
    unfold cmpS
    rw [h]
    exact compareBytes_self _
  · exact fun h => compareBytes_zero h
def or4 (a b c d : Int) : Int := if a ≠ 0 then a else if b ≠ 0 then b else if c ≠ 0 then c else d
def ordC (r s : List G) : Int := or4 (cmpI (gi r 0).int (gi s 0).int) (cmpS (gi r 3).str (gi s 3).str) (cmpS (gi r 2).str (gi s 2).str) (cmpI (gi r 1).int (gi s 1).int)
theorem sign_eq (a b : Int) : F_pileref2_sign [.i (a - b)] = some [.i (cmpI a b)] := by
  refine Ret.toEq ?_
  unfold F_pileref2_sign cmpI
  (dsimp +instances only [gi0,gis,row1,rows1,int1,str1,bool1])
  by_cases h1 : a < b
  · (repeat(first|(refine Ret.pos ?_ ?_;(first|rfl|assumption|(simp only [inI,sl]<;>omega)))|(refine Ret.neg ?_ ?_;(first|rfl|assumption|(simp only [inI,sl]<;>omega)))))
    exact Ret.some (by simp [h1])
  · by_cases h2 : b < a
    · (repeat(first|(refine Ret.pos ?_ ?_;(first|rfl|assumption|(simp only [inI,sl]<;>omega)))|(refine Ret.neg ?_ ?_;(first|rfl|assumption|(simp only [inI,sl]<;>omega)))))
      exact Ret.some (by simp [h1, h2])
    · (repeat(first|(refine Ret.pos ?_ ?_;(first|rfl|assumption|(simp only [inI,sl]<;>omega)))|(refine Ret.neg ?_ ?_;(first|rfl|assumption|(simp only [inI,sl]<;>omega)))))
      exact Ret.some (by simp [h1, h2])
theorem order_eq {r s : List G} (hr : Con r) (hs : Con s) : F_pileref2_ContactOrder [.l [r], .l [s]] = some [.i (ordC r s)] := by
  obtain ⟨t, m, b, c, _, _, _, _, rfl, ht, hm, _⟩ := hr
  obtain ⟨t', m', b', c', _, _, _, _, rfl, ht', hm', _⟩ := hs
  unfold small at *
  refine Ret.toEq ?_
  unfold F_pileref2_ContactOrder ordC or4
  (dsimp +instances only [gi0,gis,row1,rows1,int1,str1,bool1])
  simp only [str_eq]
  by_cases e1 : t = t'
  · subst e1
    have z : cmpI t t = 0 := by simp [cmpI]
    simp only [z]
    (repeat(first|(refine Ret.pos ?_ ?_;(first|rfl|assumption|(simp only [inI,sl]<;>omega)))|(refine Ret.neg ?_ ?_;(first|rfl|assumption|(simp only [inI,sl]<;>omega)))))
    by_cases e2 : cmpS c c' = 0
    · simp only [e2]
      (repeat(first|(refine Ret.pos ?_ ?_;(first|rfl|assumption|(simp only [inI,sl]<;>omega)))|(refine Ret.neg ?_ ?_;(first|rfl|assumption|(simp only [inI,sl]<;>omega)))))
      by_cases e3 : cmpS b b' = 0
      · simp only [e3]
        (repeat(first|(refine Ret.pos ?_ ?_;(first|rfl|assumption|(simp only [inI,sl]<;>omega)))|(refine Ret.neg ?_ ?_;(first|rfl|assumption|(simp only [inI,sl]<;>omega)))))
        refine Ret.call (Ret.eq (sign_eq m m')) ?_
        rintro _ rfl
        (dsimp +instances only [gi0,gis,row1,rows1,int1,str1,bool1])
        exact Ret.some (by simp)
      · refine Ret.pos (by simpa using e3) (Ret.call (Ret.eq (rfl : F_strings_Compare [.s b, .s b'] = some [.i (cmpS b b')])) ?_)
        rintro _ rfl
        (dsimp +instances only [gi0,gis,row1,rows1,int1,str1,bool1])
        exact Ret.some (by simp [e3])
    · refine Ret.pos (by simpa using e2) (Ret.call (Ret.eq (rfl : F_strings_Compare [.s c, .s c'] = some [.i (cmpS c c')])) ?_)
      rintro _ rfl
      (dsimp +instances only [gi0,gis,row1,rows1,int1,str1,bool1])
      exact Ret.some (by simp [e2])
  · (repeat(first|(refine Ret.pos ?_ ?_;(first|rfl|assumption|(simp only [inI,sl]<;>omega)))|(refine Ret.neg ?_ ?_;(first|rfl|assumption|(simp only [inI,sl]<;>omega)))))
    refine Ret.call (Ret.eq (sign_eq t t')) ?_
    rintro _ rfl
    (dsimp +instances only [gi0,gis,row1,rows1,int1,str1,bool1])
    have z : cmpI t t' ≠ 0 := by
      unfold cmpI
      split
      · omega
      · split <;> omega
    exact Ret.some (by simp [z])
theorem cmpInt_eq (a b : Int) : F_cmp_Compare_int [.i a, .i b] = some [.i (cmpI a b)] := by
  refine Ret.toEq ?_
  unfold F_cmp_Compare_int F_cmp_isNaN_int cmpI
  (dsimp +instances only [gi0,gis,row1,rows1,int1,str1,bool1])
  simp only [bne_self_eq_false]
  refine Ret.call ⟨_, rfl, rfl⟩ ?_
  rintro _ rfl
  refine Ret.call ⟨_, rfl, rfl⟩ ?_
  rintro _ rfl
  (dsimp +instances only [gi0,gis,row1,rows1,int1,str1,bool1])
  (repeat(first|(refine Ret.pos ?_ ?_;(first|rfl|assumption|(simp only [inI,sl]<;>omega)))|(refine Ret.neg ?_ ?_;(first|rfl|assumption|(simp only [inI,sl]<;>omega)))))
  by_cases h1 : a < b
  · (repeat(first|(refine Ret.pos ?_ ?_;(first|rfl|assumption|(simp only [inI,sl]<;>omega)))|(refine Ret.neg ?_ ?_;(first|rfl|assumption|(simp only [inI,sl]<;>omega)))))
    exact Ret.some (by simp [h1])
  · by_cases h2 : b < a
    · (repeat(first|(refine Ret.pos ?_ ?_;(first|rfl|assumption|(simp only [inI,sl]<;>omega)))|(refine Ret.neg ?_ ?_;(first|rfl|assumption|(simp only [inI,sl]<;>omega)))))
      exact Ret.some (by simp [h1, h2])
    · (repeat(first|(refine Ret.pos ?_ ?_;(first|rfl|assumption|(simp only [inI,sl]<;>omega)))|(refine Ret.neg ?_ ?_;(first|rfl|assumption|(simp only [inI,sl]<;>omega)))))
      exact Ret.some (by simp [h1, h2])
def orL : List (List G) → Int
  | [] => 0
  | x :: q => if (gi x 0).int ≠ 0 then (gi x 0).int else orL q
theorem or_runs : ∀ (q p : List (List G)), p.length + q.length < 100000 →
    RetN st_cmp_Or_int_3 [.i 0, .l (p ++ q), .i ((p.length + q.length : Nat) : Int), .i (p.length : Int)] (q.length + 1) fun c g => c ≤ 1 ∧ g = [.i (orL q)]
  | [], p, hl => by
    refine RetN.stop (x := 1) (Ret.toEq ?_) ⟨by omega, rfl⟩
    unfold st_cmp_Or_int_3
    (dsimp +instances only [gi0,gis,row1,rows1,int1,str1,bool1])
    (repeat(first|(refine Ret.pos ?_ ?_;(first|rfl|assumption|(simp only [inI,sl]<;>omega)))|(refine Ret.neg ?_ ?_;(first|rfl|assumption|(simp only [inI,sl]<;>omega)))))
    exact Ret.some rfl
  | y :: q, p, hl => by
    simp only [List.length_cons] at hl
    have g1 : (p ++ y :: q).getD (p.length : Int).toNat [] = y := getD_mid _ _ _ _ _ (by simp)
    have hlen : (p ++ y :: q).length = p.length + q.length + 1 := by simp; omega
    by_cases he : (gi y 0).int = 0
    · have ih := or_runs q (p ++ [y]) (by simp; omega)
      have e : orL (y :: q) = orL q := by simp [orL, he]
      rw [e]
      refine RetN.next (Ret.toEq ?_) ih
      unfold st_cmp_Or_int_3
      (dsimp +instances only [gi0,gis,row1,rows1,int1,str1,bool1])
      simp only [g1, hlen, List.length_cons]
      (repeat(first|(refine Ret.pos ?_ ?_;(first|rfl|assumption|(simp only [inI,sl]<;>omega)))|(refine Ret.neg ?_ ?_;(first|rfl|assumption|(simp only [inI,sl]<;>omega)))))
      refine Ret.some ?_
      simp
      omega
    · refine RetN.stop (x := 0) (Ret.toEq ?_) ⟨by omega, rfl⟩
      unfold st_cmp_Or_int_3
      (dsimp +instances only [gi0,gis,row1,rows1,int1,str1,bool1])
      simp only [g1, hlen, List.length_cons]
      (repeat(first|(refine Ret.pos ?_ ?_;(first|rfl|assumption|(simp only [inI,sl]<;>omega)))|(refine Ret.neg ?_ ?_;(first|rfl|assumption|(simp only [inI,sl]<;>omega)))))
      refine Ret.some ?_
      simp [orL, he]
theorem or_eq (a b c d : Int) : F_cmp_Or_int [.l [[.i a], [.i b], [.i c], [.i d]]] = some [.i (or4 a b c d)] := by
  refine Ret.toEq ?_
  unfold F_cmp_Or_int
  (dsimp +instances only [gi0,gis,row1,rows1,int1,str1,bool1])
  have h := or_runs [[.i a], [.i b], [.i c], [.i d]] [] (by simp)
  refine Ret.loop (h.to (by simp)) (by (first|rfl|assumption|(simp only [inI,sl]<;>omega))) ?_
  rintro x g ⟨hx, rfl⟩
  have e : orL [[.i a], [.i b], [.i c], [.i d]] = or4 a b c d := by
    simp only [orL, or4]
    (dsimp +instances only [gi0,gis,row1,rows1,int1,str1,bool1])
    by_cases h1 : a = 0 <;> by_cases h2 : b = 0 <;> by_cases h3 : c = 0 <;> by_cases h4 : d = 0 <;> simp [h1, h2, h3, h4]
  rw [e]
  (dsimp +instances only [gi0,gis,row1,rows1,int1,str1,bool1])
  exact Ret.test (fun _ => Ret.some rfl) fun _ => Ret.some rfl
theorem compare_eq {r s : List G} (hr : Con r) (hs : Con s) : F_log_Compare [.l [r], .l [s]] = some [.i (ordC r s)] := by
  obtain ⟨t, m, b, c, _, _, _, _, rfl, ht, hm, _⟩ := hr
  obtain ⟨t', m', b', c', _, _, _, _, rfl, ht', hm', _⟩ := hs
  refine Ret.toEq ?_
  unfold F_log_Compare
  (dsimp +instances only [gi0,gis,row1,rows1,int1,str1,bool1])
  refine Ret.call (Ret.eq (cmpInt_eq t t')) ?_
  rintro _ rfl
  refine Ret.call (Ret.eq (rfl : F_strings_Compare [.s c, .s c'] = some [.i (cmpS c c')])) ?_
  rintro _ rfl
  refine Ret.call (Ret.eq (rfl : F_strings_Compare [.s b, .s b'] = some [.i (cmpS b b')])) ?_
  rintro _ rfl
  refine Ret.call (Ret.eq (cmpInt_eq m m')) ?_
  rintro _ rfl
  (dsimp +instances only [gi0,gis,row1,rows1,int1,str1,bool1])
  refine Ret.call (Ret.eq (or_eq _ _ _ _)) ?_
  rintro _ rfl
  exact Ret.some rfl
theorem cmpOrder : Cmp KContact F_pileref2_ContactOrder Con ordC := ⟨fun _ _ hr hs => order_eq hr hs, fun _ h => h.eta⟩
theorem cmpCompare : Cmp KContact F_log_Compare Con ordC := ⟨fun _ _ hr hs => compare_eq hr hs, fun _ h => h.eta⟩
end
end Go.Proofs.SYthnhleemkjpigaaGreatDoor

namespace Go.Proofs.SYthnhleemkjpigaaGreatDoor
open Go Go.AL Go.Proofs
noncomputable section
def inB (v lo hi : Int) : Bool := leI lo v && leI v hi
theorem in_eq (v lo hi : Int) : F_pileref2_in [.i v, .i lo, .i hi] = some [.t (inB v lo hi)] := by
  unfold F_pileref2_in inB
  (dsimp +instances only [gi0,gis,row1,rows1,int1,str1,bool1])
  cases leI lo v <;> rfl
theorem outside_eq (v lo hi : Int) : F_kit_Outside [.i v, .i lo, .i hi] = some [.t (!inB v lo hi)] := by
  unfold F_kit_Outside inB
  (dsimp +instances only [gi0,gis,row1,rows1,int1,str1,bool1])
  have h1 : ltI v lo = !leI lo v := by rw [ltI_eq, leI_eq, Bool.eq_iff_iff]; simp
  have h2 : ltI hi v = !leI v hi := by rw [ltI_eq, leI_eq, Bool.eq_iff_iff]; simp
  rw [h1, h2]
  cases leI lo v <;> cases leI v hi <;> rfl
def okKey (s : ByteArray) : Bool := inL [⟨#[98, 50, 48]⟩, ⟨#[98, 52, 48]⟩, ⟨#[102, 105, 110]⟩, ⟨#[117, 115, 97]⟩] s
def okName (s : ByteArray) : Bool := inL [⟨#[]⟩] s || okKey s
def okCall (s : ByteArray) : Bool := (gi ((F_call_Is [.s s]).getD []) 0).bool
theorem isKey_eq {s : ByteArray} (h : s ∈ bands ∨ s ∈ names) : F_kit_IsKey [.s s] = some [.t (okKey s)] := by
  simp only [bands, names, List.mem_cons, List.not_mem_nil, or_false] at h
  rcases h with (rfl | rfl | rfl | rfl) | (rfl | rfl | rfl | rfl | rfl) <;> kernel_rfl
theorem key_eq {s : ByteArray} (h : s ∈ bands ∨ s ∈ names) : F_pileref2_Key [.s s] = some [.t (okKey s)] := by
  simp only [bands, names, List.mem_cons, List.not_mem_nil, or_false] at h
  rcases h with (rfl | rfl | rfl | rfl) | (rfl | rfl | rfl | rfl | rfl) <;> kernel_rfl
theorem isName_eq {s : ByteArray} (h : s ∈ names) : F_kit_IsName [.s s] = some [.t (okName s)] := by
  simp only [names, List.mem_cons, List.not_mem_nil, or_false] at h
  rcases h with (rfl | rfl | rfl | rfl | rfl) <;> kernel_rfl
theorem isCall_eq {s : ByteArray} (h : s ∈ calls) : F_call_Is [.s s] = some [.t (okCall s)] := by
  simp only [calls, List.mem_cons, List.not_mem_nil, or_false] at h
  rcases h with (rfl | rfl | rfl | rfl | rfl | rfl | rfl | rfl | rfl | rfl | rfl | rfl | rfl | rfl) <;> kernel_rfl
theorem call_eq {s : ByteArray} (h : s ∈ calls) : F_pileref2_Call [.s s] = some [.t (okCall s)] := by
  simp only [calls, List.mem_cons, List.not_mem_nil, or_false] at h
  rcases h with (rfl | rfl | rfl | rfl | rfl | rfl | rfl | rfl | rfl | rfl | rfl | rfl | rfl | rfl) <;> kernel_rfl
def faultC (r : List G) : Int :=
  bif !inB (gi r 0).int 0 345686399999 then 1 else bif !inB (gi r 1).int 1 3 then 4 else bif !okKey (gi r 2).str then 5 else bif !okCall (gi r 3).str then 3 else
  bif !inB (gi r 4).int 0 99999 then 1 else bif !inB (gi r 5).int 0 99999 then 1 else bif !okName (gi r 6).str then 5 else bif !okName (gi r 7).str then 5 else 0
theorem check_eq {r : List G} (hr : Con r) : F_log_CheckContact [.l [r]] = some [.i (faultC r)] := by
  obtain ⟨t, m, b, c, s, h, x, y, rfl, _, _, _, _, hb, hc, hx, hy⟩ := hr
  unfold F_log_CheckContact F_kit_IsMoment F_kit_IsMode faultC
  (dsimp +instances only [gi0,gis,row1,rows1,int1,str1,bool1])
  have kb := isKey_eq (.inl hb)
  have kx := isName_eq hx
  have ky := isName_eq hy
  have kc := isCall_eq hc
  rw [outside_eq t, outside_eq m]
  rw [kb, kc, outside_eq s, outside_eq h, kx, ky]
  generalize inB t 0 345686399999 = b1
  generalize inB m 1 3 = b2
  generalize okKey b = b3
  generalize okCall c = b4
  generalize inB s 0 99999 = b5
  generalize inB h 0 99999 = b6
  generalize okName x = b7
  generalize okName y = b8
  cases b1 <;> cases b2 <;> cases b3 <;> cases b4 <;> cases b5 <;> cases b6 <;> cases b7 <;> cases b8 <;> rfl
theorem empty_eq (s : ByteArray) : (s.toList == (⟨#[]⟩ : ByteArray).toList) = inL [⟨#[]⟩] s := by
  rw [ByteArray.toList_eq, ByteArray.toList_eq]
  simp only [inL, eqS, List.any_cons, List.any_nil, Bool.or_false]
  rw [Bool.eq_iff_iff]
  simp only [beq_iff_eq]
  exact eq_comm
theorem fault_eq {r : List G} (hr : Con r) : F_pileref2_ContactFault [.l [r]] = some [.i (faultC r)] := by
  obtain ⟨t, m, b, c, s, h, x, y, rfl, _, _, _, _, hb, hc, hx, hy⟩ := hr
  unfold F_pileref2_ContactFault F_pileref2_Moment faultC okName
  (dsimp +instances only [gi0,gis,row1,rows1,int1,str1,bool1])
  have kb := key_eq (.inl hb)
  have kx := key_eq (.inr hx)
  have ky := key_eq (.inr hy)
  have kc := call_eq hc
  have ex := empty_eq x
  have ey := empty_eq y
  generalize (⟨#[]⟩ : ByteArray) = z at ex ey ⊢
  simp only [in_eq, callF_some rfl, kb, kc, kx, ky]
  (dsimp +instances only [gi0,gis,row1,rows1,int1,str1,bool1])
  rw [ex, ey]
  generalize inB t 0 345686399999 = b1
  generalize inB m 1 3 = b2
  generalize okKey b = b3
  generalize okCall c = b4
  generalize inB s 0 99999 = b5
  generalize inB h 0 99999 = b6
  generalize okKey x = b7
  generalize okKey y = b8
  generalize inL [z] x = b9
  generalize inL [z] y = b10
  cases b1 <;> cases b2 <;> cases b3 <;> cases b4 <;> cases b5 <;> cases b6 <;> cases b7 <;> cases b8 <;> cases b9 <;> cases b10 <;> rfl
end
end Go.Proofs.SYthnhleemkjpigaaGreatDoor

namespace Go.Proofs.SYthnhleemkjpigaaGreatDoor
open Go Go.AL Go.Proofs
noncomputable section
def chk4 (K : List Kd) (C D : List G → Option (List G)) (d : List G) : Option (Option Nat × List G) :=
  (bif (ltI (gi d 3).int (gi d 2).int) then (bif ((nnI (gi d 3).int) && (ltI (gi d 3).int (((gi d 1).rows.length : Nat) : Int))) then (callF (C [.l [(gEta K ((gi d 1).rows.getD (((gi d 3).int).toNat) []))]]) fun g1 => (bif ((gi g1 0).int != 0) then some (some 0, [.i (gi g1 0).int]) else (bif (ltI 0 (gi d 3).int) then (bif (inI ((gi d 3).int - 1)) then (bif ((nnI ((gi d 3).int - 1)) && (ltI ((gi d 3).int - 1) (((gi d 0).rows.length : Nat) : Int))) then (callF (D [.l [(gEta K ((gi d 0).rows.getD (((gi d 3).int - 1).toNat) []))], .l [(gEta K ((gi d 1).rows.getD (((gi d 3).int).toNat) []))]]) fun g2 => (bif (leI 0 (gi g2 0).int) then some (some 0, [.i 7]) else (bif (inI ((gi d 3).int + 1)) then some (none, [.l (gi d 0).rows, .l (gi d 1).rows, .i (gi d 2).int, .i ((gi d 3).int + 1)]) else none))) else none) else none) else (bif (inI ((gi d 3).int + 1)) then some (none, [.l (gi d 0).rows, .l (gi d 1).rows, .i (gi d 2).int, .i ((gi d 3).int + 1)]) else none)))) else none) else some (some 1, []))
def chkF (K : List Kd) (C D : List G → Option (List G)) (d : List G) : Option (List G) :=
  (bif (ltI 2000 (((gi d 0).rows.length : Nat) : Int)) then some [.i 2] else (loopB true (LRun (chk4 K C D) [.l (gi d 0).rows, .l (gi d 0).rows, .i (((gi d 0).rows.length : Nat) : Int), .i 0]) fun cg3 g3 => (bif Nat.beq cg3 0 then some [.i (gi g3 0).int] else some [.i 0])))
def faultL : Option (List G) → List (List G) → Int
  | _, [] => 0
  | none, x :: q => if faultC x ≠ 0 then faultC x else faultL (some x) q
  | some y, x :: q => if faultC x ≠ 0 then faultC x else if 0 ≤ ordC y x then 7 else faultL (some x) q
def faultLog (l : List (List G)) : Int := if 2000 < l.length then 2 else faultL none l
section
variable {C D : List G → Option (List G)} (hC : ∀ r, Con r → C [.l [r]] = some [.i (faultC r)]) (hD : ∀ r s, Con r → Con s → D [.l [r], .l [s]] = some [.i (ordC r s)])
include hC hD
theorem chk4_runs : ∀ (q p : List (List G)), (∀ z ∈ p ++ q, Con z) → p.length + q.length < 100000 →
    RetN (chk4 KContact C D) [.l (p ++ q), .l (p ++ q), .i ((p.length + q.length : Nat) : Int), .i (p.length : Int)] (q.length + 1) fun c g => (c = 0 ∧ g = [.i (faultL p.getLast? q)]) ∨ c = 1 ∧ faultL p.getLast? q = 0
  | [], p, hQ, hl => by
    refine RetN.stop (x := 1) (d' := []) (Ret.toEq ?_) (.inr ⟨rfl, by unfold faultL; rfl⟩)
    unfold chk4
    (dsimp +instances only [gi0,gis,row1,rows1,int1,str1,bool1])
    (repeat(first|(refine Ret.pos ?_ ?_;(first|rfl|assumption|(simp only [inI,sl]<;>omega)))|(refine Ret.neg ?_ ?_;(first|rfl|assumption|(simp only [inI,sl]<;>omega)))))
    exact Ret.some rfl
  | x :: q, p, hQ, hl => by
    simp only [List.length_cons] at hl
    have hx : Con x := hQ x (by simp)
    have g1 : (p ++ x :: q).getD (p.length : Int).toNat [] = x := getD_mid _ _ _ _ _ (by simp)
    have hlen : (p ++ x :: q).length = p.length + q.length + 1 := by simp; omega
    by_cases hf : faultC x = 0
    · have ih := chk4_runs q (p ++ [x]) (by simpa using hQ) (by simp; omega)
      rw [List.getLast?_concat] at ih
      rcases List.eq_nil_or_concat p with rfl | ⟨p', y, rfl⟩
      · have e : faultL ([] : List (List G)).getLast? (x :: q) = faultL (some x) q := by simp [faultL, hf]
        rw [e]
        refine RetN.next (Ret.toEq ?_) ih
        unfold chk4
        (dsimp +instances only [gi0,gis,row1,rows1,int1,str1,bool1])
        simp only [g1, hlen, List.length_cons, hx.eta]
        (repeat(first|(refine Ret.pos ?_ ?_;(first|rfl|assumption|(simp only [inI,sl]<;>omega)))|(refine Ret.neg ?_ ?_;(first|rfl|assumption|(simp only [inI,sl]<;>omega)))))
        refine Ret.call (Ret.eq (hC x hx)) ?_
        rintro _ rfl
        (dsimp +instances only [gi0,gis,row1,rows1,int1,str1,bool1])
        simp only [hf]
        (repeat(first|(refine Ret.pos ?_ ?_;(first|rfl|assumption|(simp only [inI,sl]<;>omega)))|(refine Ret.neg ?_ ?_;(first|rfl|assumption|(simp only [inI,sl]<;>omega)))))
        refine Ret.some ?_
        simp
        omega
      · rw [List.concat_eq_append] at *
        have hy : Con y := hQ y (by simp)
        have g2 : ((p' ++ [y]) ++ x :: q).getD (((p' ++ [y]).length : Int) - 1).toNat [] = y := by
          have e : (p' ++ [y]) ++ x :: q = p' ++ y :: x :: q := by simp
          rw [e]; exact getD_mid _ _ _ _ _ (by simp)
        have hp : (p' ++ [y]).length = p'.length + 1 := by simp
        have hl0 : (p' ++ [y]).getLast? = some y := by simp
        rw [hl0]
        by_cases ho : 0 ≤ ordC y x
        · refine RetN.stop (x := 0) (d' := [.i 7]) (Ret.toEq ?_) (.inl ⟨rfl, by simp [faultL, hf, ho]⟩)
          unfold chk4
          (dsimp +instances only [gi0,gis,row1,rows1,int1,str1,bool1])
          simp only [g1, g2, hlen, List.length_cons, hx.eta, hy.eta]
          (repeat(first|(refine Ret.pos ?_ ?_;(first|rfl|assumption|(simp only [inI,sl]<;>omega)))|(refine Ret.neg ?_ ?_;(first|rfl|assumption|(simp only [inI,sl]<;>omega)))))
          refine Ret.call (Ret.eq (hC x hx)) ?_
          rintro _ rfl
          (dsimp +instances only [gi0,gis,row1,rows1,int1,str1,bool1])
          simp only [hf]
          (repeat(first|(refine Ret.pos ?_ ?_;(first|rfl|assumption|(simp only [inI,sl]<;>omega)))|(refine Ret.neg ?_ ?_;(first|rfl|assumption|(simp only [inI,sl]<;>omega)))))
          refine Ret.call (Ret.eq (hD y x hy hx)) ?_
          rintro _ rfl
          (dsimp +instances only [gi0,gis,row1,rows1,int1,str1,bool1])
          (repeat(first|(refine Ret.pos ?_ ?_;(first|rfl|assumption|(simp only [inI,sl]<;>omega)))|(refine Ret.neg ?_ ?_;(first|rfl|assumption|(simp only [inI,sl]<;>omega)))))
          exact Ret.some rfl
        · have e : faultL (some y) (x :: q) = faultL (some x) q := by simp [faultL, hf, ho]
          rw [e]
          refine RetN.next (Ret.toEq ?_) ih
          unfold chk4
          (dsimp +instances only [gi0,gis,row1,rows1,int1,str1,bool1])
          simp only [g1, g2, hlen, List.length_cons, hx.eta, hy.eta]
          (repeat(first|(refine Ret.pos ?_ ?_;(first|rfl|assumption|(simp only [inI,sl]<;>omega)))|(refine Ret.neg ?_ ?_;(first|rfl|assumption|(simp only [inI,sl]<;>omega)))))
          refine Ret.call (Ret.eq (hC x hx)) ?_
          rintro _ rfl
          (dsimp +instances only [gi0,gis,row1,rows1,int1,str1,bool1])
          simp only [hf]
          (repeat(first|(refine Ret.pos ?_ ?_;(first|rfl|assumption|(simp only [inI,sl]<;>omega)))|(refine Ret.neg ?_ ?_;(first|rfl|assumption|(simp only [inI,sl]<;>omega)))))
          refine Ret.call (Ret.eq (hD y x hy hx)) ?_
          rintro _ rfl
          (dsimp +instances only [gi0,gis,row1,rows1,int1,str1,bool1])
          (repeat(first|(refine Ret.pos ?_ ?_;(first|rfl|assumption|(simp only [inI,sl]<;>omega)))|(refine Ret.neg ?_ ?_;(first|rfl|assumption|(simp only [inI,sl]<;>omega)))))
          refine Ret.some ?_
          simp
          omega
    · refine RetN.stop (x := 0) (d' := [.i (faultC x)]) (Ret.toEq ?_) (.inl ⟨rfl, by cases hg : p.getLast? <;> simp [faultL, hf]⟩)
      unfold chk4
      (dsimp +instances only [gi0,gis,row1,rows1,int1,str1,bool1])
      simp only [g1, hlen, List.length_cons, hx.eta]
      (repeat(first|(refine Ret.pos ?_ ?_;(first|rfl|assumption|(simp only [inI,sl]<;>omega)))|(refine Ret.neg ?_ ?_;(first|rfl|assumption|(simp only [inI,sl]<;>omega)))))
      refine Ret.call (Ret.eq (hC x hx)) ?_
      rintro _ rfl
      (dsimp +instances only [gi0,gis,row1,rows1,int1,str1,bool1])
      refine Ret.pos (by simpa using hf) (Ret.some rfl)
theorem chkF_eq (l : List (List G)) (hl : ∀ z ∈ l, Con z) (hn : l.length < 100000) : chkF KContact C D [.l l] = some [.i (faultLog l)] := by
  refine Ret.toEq ?_
  unfold chkF faultLog
  (dsimp +instances only [gi0,gis,row1,rows1,int1,str1,bool1])
  by_cases h : 2000 < l.length
  · (repeat(first|(refine Ret.pos ?_ ?_;(first|rfl|assumption|(simp only [inI,sl]<;>omega)))|(refine Ret.neg ?_ ?_;(first|rfl|assumption|(simp only [inI,sl]<;>omega)))))
    exact Ret.some (by simp [h])
  · (repeat(first|(refine Ret.pos ?_ ?_;(first|rfl|assumption|(simp only [inI,sl]<;>omega)))|(refine Ret.neg ?_ ?_;(first|rfl|assumption|(simp only [inI,sl]<;>omega)))))
    have h1 := chk4_runs hC hD l [] (by simpa using hl) (by simpa using hn)
    have h0 : ((0 : Nat) : Int) = 0 := rfl
    simp only [List.nil_append, List.length_nil, Nat.zero_add, h0] at h1
    refine Ret.loop (h1.to (by omega)) (by (first|rfl|assumption|(simp only [inI,sl]<;>omega))) ?_
    rintro c g (⟨rfl, rfl⟩ | ⟨rfl, h2⟩)
    · (dsimp +instances only [gi0,gis,row1,rows1,int1,str1,bool1])
      (repeat(first|(refine Ret.pos ?_ ?_;(first|rfl|assumption|(simp only [inI,sl]<;>omega)))|(refine Ret.neg ?_ ?_;(first|rfl|assumption|(simp only [inI,sl]<;>omega)))))
      refine Ret.some ?_
      rw [if_neg h]
      rfl
    · (repeat(first|(refine Ret.pos ?_ ?_;(first|rfl|assumption|(simp only [inI,sl]<;>omega)))|(refine Ret.neg ?_ ?_;(first|rfl|assumption|(simp only [inI,sl]<;>omega)))))
      refine Ret.some ?_
      rw [if_neg h]
      exact congrArg (fun z => [G.i z]) h2.symm
end
theorem checkLog_eq (l : List (List G)) (hl : ∀ z ∈ l, Con z) (hn : l.length < 100000) : F_log_CheckLog [.l l] = some [.i (faultLog l)] :=
  chkF_eq (fun _ h => check_eq h) (fun _ _ h h' => compare_eq h h') l hl hn
theorem logFault_eq (l : List (List G)) (hl : ∀ z ∈ l, Con z) (hn : l.length < 100000) : F_pileref2_LogFault [.l l] = some [.i (faultLog l)] :=
  chkF_eq (fun _ h => fault_eq h) (fun _ _ h h' => order_eq h h') l hl hn
end
end Go.Proofs.SYthnhleemkjpigaaGreatDoor

namespace Go.Proofs.SYthnhleemkjpigaaGreatDoor
open Go Go.AL Go.Proofs
noncomputable section
theorem loop_Contacts (l : List (List G)) (n : Nat) (hn : n ≤ 20) : ∀ (k i : Nat) (a t : Int) (acc : List (List G)), i + k = n → 0 ≤ a → a ≤ 700000 + 21 * i → -(1500000 * (i : Int)) ≤ t → t ≤ 1500000 * (i : Int) → (∀ z ∈ acc, ConT z) → acc.length = i →
    RetN st_pilemake_Stream_Contacts_4 [.l l, .i a, .l acc, .i t, .i (n : Int), .i (i : Int)] (k + 1) fun c g => c = 0 ∧ ∃ b rows, g = [.l l, .i b, .l rows] ∧ a ≤ b ∧ b ≤ a + 21 * k ∧ (∀ z ∈ rows, ConT z) ∧ rows.length = n
  | 0, i, a, t, acc, hi, ha, ha1, ht, ht1, hQ, hl => by
    refine RetN.stop (x := 0) (Ret.toEq ?_) ⟨rfl, a, acc, rfl, by omega, by omega, hQ, by omega⟩
    unfold st_pilemake_Stream_Contacts_4
    (dsimp +instances only [gi0,gis,row1,rows1,int1,str1,bool1])
    (repeat(first|(refine Ret.pos ?_ ?_;(first|rfl|assumption|(simp only [inI,sl]<;>omega)))|(refine Ret.neg ?_ ?_;(first|rfl|assumption|(simp only [inI,sl]<;>omega)))))
    exact Ret.some rfl
  | k + 1, i, a, t, acc, hi, ha, ha1, ht, ht1, hQ, hl => by
    have key : Ret (st_pilemake_Stream_Contacts_4 [.l l, .i a, .l acc, .i t, .i (n : Int), .i (i : Int)]) fun o => ∃ b r v, o = (none, [.l l, .i b, .l (acc ++ [r]), .i (t + v), .i (n : Int), .i ((i : Int) + 1)]) ∧ a ≤ b ∧ b ≤ a + 21 ∧ ConT r ∧ 0 ≤ v ∧ v ≤ 1500000 := by
      unfold st_pilemake_Stream_Contacts_4
      (dsimp +instances only [gi0,gis,row1,rows1,int1,str1,bool1])
      (repeat(first|(refine Ret.pos ?_ ?_;(first|rfl|assumption|(simp only [inI,sl]<;>omega)))|(refine Ret.neg ?_ ?_;(first|rfl|assumption|(simp only [inI,sl]<;>omega)))))
      refine Ret.call (r_PickB 0 1500000 l a _ ha (by omega) (by kernel_rfl) (by kernel_rfl)) ?_
      rintro _ ⟨v, rfl, hv0, hv1⟩
      (dsimp +instances only [gi0,gis,row1,rows1,int1,str1,bool1])
      (repeat(first|(refine Ret.pos ?_ ?_;(first|rfl|assumption|(simp only [inI,sl]<;>omega)))|(refine Ret.neg ?_ ?_;(first|rfl|assumption|(simp only [inI,sl]<;>omega)))))
      refine Ret.call (r_SomeContact l (a + 1) (t + v) (by omega) (by omega) ⟨by omega, by omega⟩) ?_
      rintro _ ⟨b, r, rfl, hb0, hb1, hr⟩
      (dsimp +instances only [gi0,gis,row1,rows1,int1,str1,bool1])
      simp only [hr.to.eta]
      (repeat(first|(refine Ret.pos ?_ ?_;(first|rfl|assumption|(simp only [inI,sl]<;>omega)))|(refine Ret.neg ?_ ?_;(first|rfl|assumption|(simp only [inI,sl]<;>omega)))))
      exact Ret.some ⟨b, r, v, rfl, by omega, by omega, hr, hv0, hv1⟩
    obtain ⟨_, h, b, r, v, rfl, h1, h2, h3, h4, h5⟩ := key
    have ih := loop_Contacts l n hn k (i + 1) b (t + v) (acc ++ [r]) (by omega) (by omega) (by omega) (by omega) (by omega) (by
      intro z hz
      rcases List.mem_append.1 hz with hz | hz
      · exact hQ z hz
      · simp at hz; exact hz ▸ h3) (by simp [hl])
    refine RetN.next h (ih.mono ?_)
    rintro c g ⟨rfl, b', rows, rfl, q1, q2, q3, q4⟩
    exact ⟨rfl, b', rows, rfl, by omega, by omega, q3, q4⟩
theorem sortOrder_eq (rows : List (List G)) (hr : ∀ y ∈ rows, Con y) (hn : rows.length ≤ 20) : F_slices_SortStableFunc_Contact [.l rows] = some [.l (sortA (ltC ordC) rows)] :=
  sortF_eq cmpOrder rows hr hn
theorem sortCompare_eq (rows : List (List G)) (hr : ∀ y ∈ rows, Con y) (hn : rows.length ≤ 20) : F_slices_SortStableFunc_Contact_2 [.l rows] = some [.l (sortA (ltC ordC) rows)] :=
  sortF_eq cmpCompare rows hr hn
def sameC (r s : List G) : Bool := ordC r s == 0
theorem eqvOrder : Eqv KContact F_pilemake_Stream_Contacts_1 Con sameC := ⟨fun r s hr hs => by
  refine Ret.toEq ?_
  unfold F_pilemake_Stream_Contacts_1
  (dsimp +instances only [gi0,gis,row1,rows1,int1,str1,bool1])
  simp only [hr.eta, hs.eta]
  refine Ret.call (Ret.eq (order_eq hr hs)) ?_
  rintro _ rfl
  exact Ret.some rfl, fun _ h => h.eta⟩
def zC : List G := [.i 0, .i 0, .s (⟨#[]⟩ : ByteArray), .s (⟨#[]⟩ : ByteArray), .i 0, .i 0, .s (⟨#[]⟩ : ByteArray), .s (⟨#[]⟩ : ByteArray)]
theorem r_Contacts (l : List (List G)) (a n : Int) (ha : 0 ≤ a) (ha1 : a ≤ 700000) (h0 : 0 ≤ n) (h1 : n ≤ 20) :
    Ret (F_pilemake_Stream_Contacts [.l l, .i a, .i n]) fun g => ∃ b rows, g = [.l l, .i b, .l rows] ∧ a ≤ b ∧ b ≤ a + 420 ∧ (∀ z ∈ rows, ConT z) ∧ (rows.length : Int) ≤ n := by
  obtain ⟨n, rfl⟩ := Int.eq_ofNat_of_zero_le h0
  unfold F_pilemake_Stream_Contacts
  (dsimp +instances only [gi0,gis,row1,rows1,int1,str1,bool1])
  have hl := loop_Contacts l n (by omega) n 0 a 0 [] (by omega) ha (by omega) (by omega) (by omega) (by simp) rfl
  refine Ret.loop (hl.to (by omega)) (by (first|rfl|assumption|(simp only [inI,sl]<;>omega))) ?_
  rintro c g ⟨rfl, b, rows, rfl, h2, h3, h4, h5⟩
  (dsimp +instances only [gi0,gis,row1,rows1,int1,str1,bool1])
  refine Ret.callb (Ret.eq (sortOrder_eq rows (fun z hz => (h4 z hz).to) (by omega))) (by (first|rfl|assumption|(simp only [inI,sl]<;>omega))) ?_
  rintro _ rfl
  (dsimp +instances only [gi0,gis,row1,rows1,int1,str1,bool1])
  have hs := sortA_all (lt := ltC ordC) h4
  have hsl := sortA_length (ltC ordC) rows
  refine Ret.callb (P := fun g => ∃ J, g = [.l (compact sameC (sortA (ltC ordC) rows) ++ J), .i ((compact sameC (sortA (ltC ordC) rows)).length : Int)] ∧ (compact sameC (sortA (ltC ordC) rows) ++ J).length = (sortA (ltC ordC) rows).length)
    (cmpfF_eq (Z := zC) eqvOrder (sortA (ltC ordC) rows) (fun z hz => (hs z hz).to) (by omega)) (by (first|rfl|assumption|(simp only [inI,sl]<;>omega))) ?_
  rintro _ ⟨J, rfl, hJ⟩
  (dsimp +instances only [gi0,gis,row1,rows1,int1,str1,bool1])
  have hle : (compact sameC (sortA (ltC ordC) rows)).length ≤ (sortA (ltC ordC) rows).length := compact_length _ _
  simp only [hJ]
  (repeat(first|(refine Ret.pos ?_ ?_;(first|rfl|assumption|(simp only [inI,sl]<;>omega)))|(refine Ret.neg ?_ ?_;(first|rfl|assumption|(simp only [inI,sl]<;>omega)))))
  refine Ret.some ⟨b, compact sameC (sortA (ltC ordC) rows), by simp, by omega, by omega, fun z hz => hs z (compact_mem hz), by omega⟩
end
end Go.Proofs.SYthnhleemkjpigaaGreatDoor

namespace Go.Proofs.SYthnhleemkjpigaaGreatDoor
open Go Go.AL Go.Proofs
noncomputable section
theorem kdsC : Kds KContact Con := ⟨fun _ h => h.eta⟩
def clash : List (List G) → Bool
  | [] => false
  | [_] => false
  | x :: y :: q => ordC x y == 0 || clash (y :: q)
theorem clash_drop (m : List (List G)) (i : Nat) (h : i + 1 < m.length) : clash (m.drop i) = (ordC (m.getD i []) (m.getD (i + 1) []) == 0 || clash (m.drop (i + 1))) := by
  rw [List.drop_eq_getElem_cons (show i < m.length by omega), List.drop_eq_getElem_cons h]
  simp only [clash]
  rw [List.getD_eq_getElem?_getD, List.getD_eq_getElem?_getD, List.getElem?_eq_getElem h, List.getElem?_eq_getElem (show i < m.length by omega)]
  rfl
theorem clash_last (m : List (List G)) (i : Nat) (h : m.length ≤ i + 1) : clash (m.drop i) = false := by
  have : (m.drop i).length ≤ 1 := by simp; omega
  match hm : m.drop i, this with
  | [], _ => rfl
  | [_], _ => rfl
theorem getD_app {m J : List (List G)} {i : Nat} (h : i < m.length) : (m ++ J).getD i [] = m.getD i [] := by
  rw [List.getD_eq_getElem?_getD, List.getD_eq_getElem?_getD, List.getElem?_append_left h]
theorem getD_Con {m : List (List G)} {i : Nat} (hm : ∀ z ∈ m, Con z) (h : i < m.length) : Con (m.getD i []) := by
  rw [List.getD_eq_getElem?_getD, List.getElem?_eq_getElem h]
  exact hm _ (List.getElem_mem h)
theorem merge_runs (m J : List (List G)) (hm : ∀ z ∈ m, Con z) (hl : m.length < 100000) : ∀ (k i : Nat), i + k = m.length →
    RetN st_log_Merge_8 [.l (m ++ J), .i (m.length : Int), .i ((i : Int) + 1)] (k + 1) fun c g => (c = 0 ∧ g = [.l [], .i 13] ∧ clash (m.drop i) = true) ∨ c = 1 ∧ g = [.l (m ++ J), .i (m.length : Int)] ∧ clash (m.drop i) = false
  | 0, i, hi => by
    refine RetN.stop (x := 1) (Ret.toEq ?_) (.inr ⟨rfl, rfl, clash_last m i (by omega)⟩)
    unfold st_log_Merge_8
    (dsimp +instances only [gi0,gis,row1,rows1,int1,str1,bool1])
    simp only [Int.toNat_natCast]
    (repeat(first|(refine Ret.pos ?_ ?_;(first|rfl|assumption|(simp only [inI,sl]<;>omega)))|(refine Ret.neg ?_ ?_;(first|rfl|assumption|(simp only [inI,sl]<;>omega)))))
    exact Ret.some rfl
  | k + 1, i, hi => by
    by_cases he : i + 1 < m.length
    · have t0 : ((i : Int) + 1 - 1).toNat = i := by omega
      have t1 : ((i : Int) + 1).toNat = i + 1 := by omega
      have t2 : 0 + i = i := by omega
      have t3 : 0 + (i + 1) = i + 1 := by omega
      have hx := getD_Con hm (show i < m.length by omega)
      have hy := getD_Con hm he
      have key : Ret (st_log_Merge_8 [.l (m ++ J), .i (m.length : Int), .i ((i : Int) + 1)]) fun o => o = bif ordC (m.getD i []) (m.getD (i + 1) []) == 0 then (some 0, [.l [], .i 13]) else (none, [.l (m ++ J), .i (m.length : Int), .i ((i : Int) + 1 + 1)]) := by
        unfold st_log_Merge_8
        (dsimp +instances only [gi0,gis,row1,rows1,int1,str1,bool1])
        simp only [Int.toNat_natCast, t0, t1, t2, t3, getD_app he, getD_app (show i < m.length by omega), hx.eta, hy.eta]
        (repeat(first|(refine Ret.pos ?_ ?_;(first|rfl|assumption|(simp only [inI,sl]<;>omega)))|(refine Ret.neg ?_ ?_;(first|rfl|assumption|(simp only [inI,sl]<;>omega)))))
        refine Ret.call (Ret.eq (compare_eq hx hy)) ?_
        rintro _ rfl
        (dsimp +instances only [gi0,gis,row1,rows1,int1,str1,bool1])
        refine Ret.test (fun h => ?_) fun h => ?_
        · rw [h]
          exact Ret.some rfl
        · rw [h]
          (repeat(first|(refine Ret.pos ?_ ?_;(first|rfl|assumption|(simp only [inI,sl]<;>omega)))|(refine Ret.neg ?_ ?_;(first|rfl|assumption|(simp only [inI,sl]<;>omega)))))
          exact Ret.some rfl
      obtain ⟨o, h, rfl⟩ := key
      rw [clash_drop m i he]
      cases hc : ordC (m.getD i []) (m.getD (i + 1) []) == 0 with
      | true =>
        rw [hc] at h
        exact RetN.stop h (.inl ⟨rfl, rfl, rfl⟩)
      | false =>
        rw [hc] at h
        refine RetN.next h ((merge_runs m J hm hl k (i + 1) (by omega)).mono ?_)
        intro c g hcg
        simpa using hcg
    · have : RetN st_log_Merge_8 [.l (m ++ J), .i (m.length : Int), .i ((i : Int) + 1)] 1 fun c g => c = 1 ∧ g = [.l (m ++ J), .i (m.length : Int)] := by
        refine RetN.stop (x := 1) (Ret.toEq ?_) ⟨rfl, rfl⟩
        unfold st_log_Merge_8
        (dsimp +instances only [gi0,gis,row1,rows1,int1,str1,bool1])
        simp only [Int.toNat_natCast]
        (repeat(first|(refine Ret.pos ?_ ?_;(first|rfl|assumption|(simp only [inI,sl]<;>omega)))|(refine Ret.neg ?_ ?_;(first|rfl|assumption|(simp only [inI,sl]<;>omega)))))
        exact Ret.some rfl
      obtain ⟨n, c, g, h1, h2, h3, h4⟩ := this
      exact ⟨n, c, g, h1, by omega, .inr ⟨h3, h4, clash_last m i (by omega)⟩⟩
def mixed (a b : List (List G)) : List (List G) := compact (rowEq KContact) (sortA (ltC ordC) (a ++ b))
theorem mixed_Con {a b : List (List G)} (ha : ∀ z ∈ a, Con z) (hb : ∀ z ∈ b, Con z) : ∀ z ∈ mixed a b, Con z := fun z hz =>
  sortA_all (lt := ltC ordC) (l := a ++ b) (fun y hy => (List.mem_append.1 hy).elim (ha y) (hb y)) z (compact_mem hz)
theorem concat_eq (a b : List (List G)) (h : a.length + b.length ≤ 20) : F_slices_Concat_Contact_f [.l [[.l a], [.l b]]] = some [.l (a ++ b)] := by
  have h := concF_eq (K := KContact) (Z := zC) [a, b] (by simp [lenAll]; omega) (by simp)
  rw [show [a, b].flatten = a ++ b from by simp] at h
  exact h
end
end Go.Proofs.SYthnhleemkjpigaaGreatDoor

namespace Go.Proofs.SYthnhleemkjpigaaGreatDoor
open Go Go.AL Go.Proofs
noncomputable section
def lacking (others l : List (List G)) : List (List G) := l.filter fun x => !others.any fun y => rowEq KContact x y
theorem without_ok (l o : List (List G)) (hl : ∀ z ∈ l, Con z) (ho : ∀ z ∈ o, Con z) (h1 : l.length < 100000) (h2 : o.length < 100000) : F_log_Without [.l l, .l o] = some [.l (lacking o l)] := by
  refine Ret.toEq ?_
  unfold F_log_Without
  (dsimp +instances only [gi0,gis,row1,rows1,int1,str1,bool1])
  have r1 := range_all (st := st_log_Without_3) (σ := List (List G) × Nat) (fun s i => [.l s.1, .i (s.2 : Int), .l l, .l o, .i (o.length : Int), .i (i : Int)]) o (fun s => (0, [.l s.1, .i (s.2 : Int), .l l]))
    (fun s i => ∀ key, (gi (mget KContact s.1 key [.t false]) 0).bool = (o.take i).any fun y => rowEq KContact key y) ([], 0) (by omega) (fun key => by simp [mget_nil]; rfl)
    (fun s i x hI hi hx hm ht => by
      refine Ret.mono (P := fun a => a = (none, [.l (mput KContact s.1 x [.t true] s.2), .i ((mclk KContact s.1 x s.2 : Nat) : Int), .l l, .l o, .i (o.length : Int), .i ((i : Int) + 1)])) ?_ ?_
      · unfold st_log_Without_3
        (dsimp +instances only [gi0,gis,row1,rows1,int1,str1,bool1])
        simp only [Int.toNat_natCast, hx, (ho x hm).eta]
        (repeat(first|(refine Ret.pos ?_ ?_;(first|rfl|assumption|(simp only [inI,sl]<;>omega)))|(refine Ret.neg ?_ ?_;(first|rfl|assumption|(simp only [inI,sl]<;>omega)))))
        exact Ret.some rfl
      · rintro _ rfl
        refine ⟨(mput KContact s.1 x [.t true] s.2, mclk KContact s.1 x s.2), rfl, fun key => ?_⟩
        rw [mget_mput, ht, List.any_append, ← hI key]
        cases hk : rowEq KContact key x <;> simp [hk, gi0, bool1])
    (fun s hI => by
      unfold st_log_Without_3
      (dsimp +instances only [gi0,gis,row1,rows1,int1,str1,bool1])
      simp only [Int.toNat_natCast]
      (repeat(first|(refine Ret.pos ?_ ?_;(first|rfl|assumption|(simp only [inI,sl]<;>omega)))|(refine Ret.neg ?_ ?_;(first|rfl|assumption|(simp only [inI,sl]<;>omega)))))
      exact Ret.some rfl)
  refine Ret.loop r1 rfl ?_
  rintro c g ⟨⟨m, n⟩, hI, rfl, rfl⟩
  (dsimp +instances only [gi0,gis,row1,rows1,int1,str1,bool1])
  rw [List.take_length] at hI
  have r2 := range_all (st := st_log_Without_9) (σ := List (List G)) (fun s i => [.l m, .i (n : Int), .l s, .l l, .i (l.length : Int), .i (i : Int)]) l (fun s => (0, [.l s]))
    (fun s i => s = lacking o (l.take i)) [] (by omega) rfl
    (fun s i x hs hi hx hm ht => by
      have hlen : s.length ≤ i := by
        rw [hs]
        exact Nat.le_trans (List.length_filter_le _ _) (by simp; omega)
      have e : lacking o (l.take (i + 1)) = s ++ bif o.any (fun y => rowEq KContact x y) then [] else [x] := by
        rw [ht, hs]
        unfold lacking
        rw [List.filter_append]
        congr 1
        cases ha : o.any (fun y => rowEq KContact x y) <;> simp [ha]
      unfold st_log_Without_9
      (dsimp +instances only [gi0,gis,row1,rows1,int1,str1,bool1])
      simp only [Int.toNat_natCast, hx, (hl x hm).eta, hI x]
      refine Ret.pos (by (first|rfl|assumption|(simp only [inI,sl]<;>omega))) (Ret.pos (by (first|rfl|assumption|(simp only [inI,sl]<;>omega))) ?_)
      cases ha : o.any (fun y => rowEq KContact x y) with
      | false =>
        rw [ha] at e
        (repeat(first|(refine Ret.pos ?_ ?_;(first|rfl|assumption|(simp only [inI,sl]<;>omega)))|(refine Ret.neg ?_ ?_;(first|rfl|assumption|(simp only [inI,sl]<;>omega)))))
        exact Ret.some ⟨s ++ [x], rfl, e.symm⟩
      | true =>
        rw [ha] at e
        (repeat(first|(refine Ret.pos ?_ ?_;(first|rfl|assumption|(simp only [inI,sl]<;>omega)))|(refine Ret.neg ?_ ?_;(first|rfl|assumption|(simp only [inI,sl]<;>omega)))))
        exact Ret.some ⟨s, rfl, by rw [e]; simp⟩)
    (fun s hI => by
      unfold st_log_Without_9
      (dsimp +instances only [gi0,gis,row1,rows1,int1,str1,bool1])
      (repeat(first|(refine Ret.pos ?_ ?_;(first|rfl|assumption|(simp only [inI,sl]<;>omega)))|(refine Ret.neg ?_ ?_;(first|rfl|assumption|(simp only [inI,sl]<;>omega)))))
      exact Ret.some rfl)
  simp only [Int.toNat_natCast]
  refine Ret.loop r2 rfl ?_
  rintro c g ⟨s, rfl, rfl, rfl⟩
  (dsimp +instances only [gi0,gis,row1,rows1,int1,str1,bool1])
  rw [List.take_length]
  (repeat(first|(refine Ret.pos ?_ ?_;(first|rfl|assumption|(simp only [inI,sl]<;>omega)))|(refine Ret.neg ?_ ?_;(first|rfl|assumption|(simp only [inI,sl]<;>omega)))))
  exact Ret.some rfl
theorem both_eq (a b : List (List G)) (ha : ∀ z ∈ a, Con z) (hb : ∀ z ∈ b, Con z) (h1 : a.length < 100000) (h2 : b.length < 100000) : F_log_checkBoth [.l a, .l b] = some [.i (bif faultLog a != 0 then faultLog a else faultLog b)] := by
  unfold F_log_checkBoth
  (dsimp +instances only [gi0,gis,row1,rows1,int1,str1,bool1])
  rw [checkLog_eq a ha (by omega), checkLog_eq b hb (by omega)]
  simp only [callF_some rfl]
  (dsimp +instances only [gi0,gis,row1,rows1,int1,str1,bool1])
  cases faultLog a != 0 <;> rfl
theorem cloneF_ok (a : List (List G)) (h : a.length ≤ 1048576) : F_slices_Clone_Contact_f [.l a] = some [.l a] := by
  refine Ret.toEq ?_
  unfold F_slices_Clone_Contact_f
  (dsimp +instances only [gi0,gis,row1,rows1,int1,str1,bool1])
  refine Ret.test (fun h1 => ?_) fun h1 => ?_
  · unfold F_slices_Clone_Contact_f_0
    (dsimp +instances only [gi0,gis,row1,rows1,int1,str1,bool1])
    (repeat(first|(refine Ret.pos ?_ ?_;(first|rfl|assumption|(simp only [inI,sl]<;>omega)))|(refine Ret.neg ?_ ?_;(first|rfl|assumption|(simp only [inI,sl]<;>omega)))))
    exact Ret.some rfl
  · have : a = [] := by
      cases a with
      | nil => rfl
      | cons x a =>
        have h2 : Nat.blt 0 (x :: a).length = true := by rw [Nat.blt_eq]; simp
        rw [h2] at h1
        cases h1
    subst this
    exact Ret.some rfl
theorem equal_refl (a : List (List G)) (ha : ∀ z ∈ a, Con z) (hn : a.length < 100000) : F_slices_Equal_Contact [.l a, .l a] = some [.t true] := by
  have h := equalF_eq kdsC a a ha ha hn
  rw [eqlA_refl rfl] at h
  exact h
end
end Go.Proofs.SYthnhleemkjpigaaGreatDoor

namespace Go.Proofs.SYthnhleemkjpigaaGreatDoor
open Go Go.AL Go.Proofs
noncomputable section
structure SerOK (s : List (List G) × List (List G)) (i : Nat) : Prop where
  l1 : s.1.length ≤ i
  l2 : s.2.length ≤ i
  r1 : ∀ r ∈ s.1, ∃ a b, r = [.i a, .i b] ∧ 0 ≤ b ∧ b ≤ i + 1
  r2 : ∀ r ∈ s.2, ∃ a, r = [.i a]
end
end Go.Proofs.SYthnhleemkjpigaaGreatDoor

namespace Go.Proofs.SYthnhleemkjpigaaGreatDoor
open Go Go.AL Go.Proofs
noncomputable section
def Row8 (r : List G) : Prop := ∃ (t m : Int) (b c : ByteArray) (s h : Int) (x y : ByteArray), r = [.i t, .i m, .s b, .s c, .i s, .i h, .s x, .s y]
theorem Con.row {r : List G} (h : Con r) : Row8 r := by
  obtain ⟨t, m, b, c, s, h, x, y, e, _⟩ := h
  exact ⟨t, m, b, c, s, h, x, y, e⟩
theorem Row8.eta {r : List G} (h : Row8 r) : gEta KContact r = r := by
  obtain ⟨t, m, b, c, s, h, x, y, rfl⟩ := h
  rfl
theorem Row8.put {r : List G} (h : Row8 r) (n : Int) : Row8 (putG KContact r 4 [.i n]) := by
  obtain ⟨t, m, b, c, s, h, x, y, rfl⟩ := h
  exact ⟨t, m, b, c, n, h, x, y, rfl⟩
theorem renum_loop (l : List (List G)) (hC : ∀ z ∈ l, Con z) (hn : l.length < 90000) (from0 : Int) (h0 : 1 ≤ from0) (h1 : from0 ≤ 99999) :
    RetL st_log_Renumber_8 [.l l, .i from0, .i (l.length : Int), .i 0] fun c g => c = 0 ∧ ∃ rows, g = [.l rows] ∧ (∀ r ∈ rows, Row8 r) ∧ rows.length = l.length := by
  have r := count_runs (st := st_log_Renumber_8) (σ := List (List G)) (fun s i => [.l s, .i from0, .i (l.length : Int), .i (i : Int)]) l.length (fun s => (0, [.l s])) (fun s _ => s.length = l.length ∧ ∀ r ∈ s, Row8 r) (fun _ _ => False)
    (fun s i hs hi => by
      obtain ⟨hl, hr⟩ := hs
      unfold st_log_Renumber_8
      (dsimp +instances only [gi0,gis,row1,rows1,int1,str1,bool1])
      simp only [Int.toNat_natCast, Nat.zero_add]
      (repeat(first|(refine Ret.pos ?_ ?_;(first|rfl|assumption|(simp only [inI,sl]<;>omega)))|(refine Ret.neg ?_ ?_;(first|rfl|assumption|(simp only [inI,sl]<;>omega)))))
      refine Ret.some (.inl ⟨s.set i (putG KContact (s.getD i []) 4 [.i (from0 + i)]), rfl, by simp [hl], fun r hr' => ?_⟩)
      rcases List.mem_or_eq_of_mem_set hr' with h | rfl
      · exact hr r h
      · exact (hr _ (getD_row (by omega))).put _)
    (fun s hs => by
      unfold st_log_Renumber_8
      (dsimp +instances only [gi0,gis,row1,rows1,int1,str1,bool1])
      (repeat(first|(refine Ret.pos ?_ ?_;(first|rfl|assumption|(simp only [inI,sl]<;>omega)))|(refine Ret.neg ?_ ?_;(first|rfl|assumption|(simp only [inI,sl]<;>omega)))))
      exact Ret.some rfl)
    l.length l 0 (by omega) ⟨rfl, fun r hr => (hC r hr).row⟩
  refine (r.to (by omega)).mono ?_
  rintro c g (⟨s, ⟨h2, h3⟩, rfl, rfl⟩ | h)
  · exact ⟨rfl, s, rfl, h3, h2⟩
  · exact h.elim
/-! ### Duplicates -/
end
end Go.Proofs.SYthnhleemkjpigaaGreatDoor

namespace Go.Proofs.SYthnhleemkjpigaaGreatDoor
open Go Go.AL Go.Proofs
noncomputable section
def has (a b t : Int) : Bool := leI a t && ltI t b
/-! ### Pauses -/
structure PauseOK (s : List (List G) × Int) (i : Nat) : Prop where
  len : s.1.length ≤ i
  rows : ∀ r ∈ s.1, ∃ a b, r = [.i a, .i b]
  at0 : 0 ≤ s.2
  at1 : s.2 ≤ 345686400000
/-! ### Hours -/
structure HourOK (s : List (List G)) (n i : Nat) : Prop where
  len : s.length = n
  rows : ∀ r ∈ s, ∃ v, r = [.i v] ∧ 0 ≤ v ∧ v ≤ i
end
end Go.Proofs.SYthnhleemkjpigaaGreatDoor

namespace Go.Proofs.SYthnhleemkjpigaaGreatDoor
open Go Go.AL Go.Proofs
noncomputable section
def mid (n : Int) : Prop := -1950000000000 ≤ n ∧ n ≤ 1950000000000
def ConM (r : List G) : Prop := ∃ (t m : Int) (b c : ByteArray) (s h : Int) (x y : ByteArray), r = [.i t, .i m, .s b, .s c, .i s, .i h, .s x, .s y] ∧ mid t ∧ mid m ∧ mid s ∧ mid h ∧ b ∈ bands ∧ c ∈ calls ∧ x ∈ names ∧ y ∈ names
theorem mid.to {n : Int} (h : mid n) : small n := ⟨by have := h.1; omega, by have := h.2; omega⟩
theorem tight.toM {n : Int} (h : tight n) : mid n := ⟨by have := h.1; omega, by have := h.2; omega⟩
theorem ConM.to {r : List G} (h : ConM r) : Con r := by
  obtain ⟨t, m, b, c, s, h, x, y, e, h1, h2, h3, h4, h5⟩ := h
  exact ⟨t, m, b, c, s, h, x, y, e, h1.to, h2.to, h3.to, h4.to, h5⟩
theorem tightT.toM {n : Int} (h : tightT n) : mid n := by
  unfold tightT at h
  exact ⟨by omega, by omega⟩
theorem ConT.toM {r : List G} (h : ConT r) : ConM r := by
  obtain ⟨t, m, b, c, s, h, x, y, e, h1, h2, h3, h4, h5⟩ := h
  exact ⟨t, m, b, c, s, h, x, y, e, h1.toM, h2.toM, h3.toM, h4.toM, h5⟩
theorem zC_ConM : ConM zC := ⟨0, 0, _, _, 0, 0, _, _, rfl, by unfold mid; omega, by unfold mid; omega, by unfold mid; omega, by unfold mid; omega, List.mem_cons_self, List.mem_cons_self, List.mem_cons_self, List.mem_cons_self⟩
def Chg (C : List G → Prop) (r : List G) : Prop := ∃ (n k : Int) (w s : List G), r = .i n :: .i k :: (w ++ s) ∧ tight n ∧ tight k ∧ C w ∧ C s
theorem Chg.to {C D : List G → Prop} (hCD : ∀ r, C r → D r) {r : List G} (h : Chg C r) : Chg D r := by
  obtain ⟨n, k, w, s, e, h1, h2, h3, h4⟩ := h
  exact ⟨n, k, w, s, e, h1, h2, hCD _ h3, hCD _ h4⟩
theorem Chg.eta {r : List G} (h : Chg Con r) : gEta KChange r = r := by
  obtain ⟨n, k, _, _, rfl, _, _, ⟨t, m, b, c, s, h, x, y, rfl, _⟩, ⟨t2, m2, b2, c2, s2, h2, x2, y2, rfl, _⟩⟩ := h
  rfl
theorem chg19 (l out rows : List (List G)) (a n k N i : Int) (t m : Int) (b c : ByteArray) (s h : Int) (x y : ByteArray) (t2 m2 : Int) (b2 c2 : ByteArray) (s2 h2 : Int) (x2 y2 : ByteArray) (hl : out.length ≤ 100) :
    tl_pilemake_Stream_Changes_19 [.l l, .i a, .l out, .i n, .i k, .i t, .i m, .s b, .s c, .i s, .i h, .s x, .s y, .i t2, .i m2, .s b2, .s c2, .i s2, .i h2, .s x2, .s y2, .l rows, .i N, .i i] = some (some 0, [.l l, .i a, .l (out ++ [[.i n, .i k, .i t, .i m, .s b, .s c, .i s, .i h, .s x, .s y, .i t2, .i m2, .s b2, .s c2, .i s2, .i h2, .s x2, .s y2]]), .l rows, .i N, .i i]) := by
  refine Ret.toEq ?_
  unfold tl_pilemake_Stream_Changes_19
  (dsimp +instances only [gi0,gis,row1,rows1,int1,str1,bool1])
  (repeat(first|(refine Ret.pos ?_ ?_;(first|rfl|assumption|(simp only [inI,sl]<;>omega)))|(refine Ret.neg ?_ ?_;(first|rfl|assumption|(simp only [inI,sl]<;>omega)))))
  exact Ret.some rfl
theorem chg17 (l out rows : List (List G)) (a n k N i : Int) (t m : Int) (b c : ByteArray) (s h : Int) (x y : ByteArray) (t2 m2 : Int) (b2 c2 : ByteArray) (s2 h2 : Int) (x2 y2 : ByteArray) (hl : out.length ≤ 100) (ha : 0 ≤ a) (ha1 : a ≤ 800000) (hn : tight n) (hk : tight k) :
    Ret (tl_pilemake_Stream_Changes_17 [.l l, .i a, .l out, .i n, .i k, .i t, .i m, .s b, .s c, .i s, .i h, .s x, .s y, .i t2, .i m2, .s b2, .s c2, .i s2, .i h2, .s x2, .s y2, .l rows, .i N, .i i]) fun o => ∃ z, o.1 = some z ∧ ∃ a' n' k', o.2 = [.l l, .i a', .l (out ++ [[.i n', .i k', .i t, .i m, .s b, .s c, .i s, .i h, .s x, .s y, .i t2, .i m2, .s b2, .s c2, .i s2, .i h2, .s x2, .s y2]]), .l rows, .i N, .i i] ∧ a ≤ a' ∧ a' ≤ a + 5 ∧ tight n' ∧ tight k' := by
  unfold tl_pilemake_Stream_Changes_17
  (dsimp +instances only [gi0,gis,row1,rows1,int1,str1,bool1])
  refine Ret.call (r_Flip l a 50 ha (by omega) (by omega) (by omega)) ?_
  rintro _ ⟨f, rfl⟩
  (dsimp +instances only [gi0,gis,row1,rows1,int1,str1,bool1])
  cases f with
  | true =>
    (repeat(first|(refine Ret.pos ?_ ?_;(first|rfl|assumption|(simp only [inI,sl]<;>omega)))|(refine Ret.neg ?_ ?_;(first|rfl|assumption|(simp only [inI,sl]<;>omega)))))
    refine Ret.call (r_Odd l _ 1 9 (by omega) (by omega) (by omega) (by omega) (by omega)) ?_
    rintro _ ⟨n', rfl, hn'⟩
    (dsimp +instances only [gi0,gis,row1,rows1,int1,str1,bool1])
    refine Ret.call (r_Odd l _ 1 3 (by omega) (by omega) (by omega) (by omega) (by omega)) ?_
    rintro _ ⟨k', rfl, hk'⟩
    (dsimp +instances only [gi0,gis,row1,rows1,int1,str1,bool1])
    refine Ret.tail (P := fun z g => z = 0 ∧ g = _) (Ret.mono (Ret.eq (chg19 l out rows _ n' k' N i t m b c s h x y t2 m2 b2 c2 s2 h2 x2 y2 hl)) fun o ho => ⟨0, by rw [ho], rfl, by rw [ho]⟩) (by (first|rfl|assumption|(simp only [inI,sl]<;>omega))) ?_
    rintro _ _ ⟨rfl, rfl⟩
    (dsimp +instances only [gi0,gis,row1,rows1,int1,str1,bool1])
    (repeat(first|(refine Ret.pos ?_ ?_;(first|rfl|assumption|(simp only [inI,sl]<;>omega)))|(refine Ret.neg ?_ ?_;(first|rfl|assumption|(simp only [inI,sl]<;>omega)))))
    exact Ret.some ⟨0, rfl, _, n', k', rfl, by omega, by omega, ⟨by omega, by omega⟩, ⟨by omega, by omega⟩⟩
  | false =>
    (repeat(first|(refine Ret.pos ?_ ?_;(first|rfl|assumption|(simp only [inI,sl]<;>omega)))|(refine Ret.neg ?_ ?_;(first|rfl|assumption|(simp only [inI,sl]<;>omega)))))
    refine Ret.tail (P := fun z g => z = 0 ∧ g = _) (Ret.mono (Ret.eq (chg19 l out rows _ n k N i t m b c s h x y t2 m2 b2 c2 s2 h2 x2 y2 hl)) fun o ho => ⟨0, by rw [ho], rfl, by rw [ho]⟩) (by (first|rfl|assumption|(simp only [inI,sl]<;>omega))) ?_
    rintro _ _ ⟨rfl, rfl⟩
    (dsimp +instances only [gi0,gis,row1,rows1,int1,str1,bool1])
    (repeat(first|(refine Ret.pos ?_ ?_;(first|rfl|assumption|(simp only [inI,sl]<;>omega)))|(refine Ret.neg ?_ ?_;(first|rfl|assumption|(simp only [inI,sl]<;>omega)))))
    exact Ret.some ⟨0, rfl, _, n, k, rfl, by omega, by omega, hn, hk⟩
theorem chg12 (l out rows : List (List G)) (a n k N i : Int) (t m : Int) (b c : ByteArray) (s h : Int) (x y : ByteArray) (t2 m2 : Int) (b2 c2 : ByteArray) (s2 h2 : Int) (x2 y2 : ByteArray) (hl : out.length ≤ 100) (ha : 0 ≤ a) (ha1 : a ≤ 800000) (hn : tight n) (hk : tight k) (hw : ConM [.i t, .i m, .s b, .s c, .i s, .i h, .s x, .s y]) (hs : ConM [.i t2, .i m2, .s b2, .s c2, .i s2, .i h2, .s x2, .s y2]) :
    Ret (tl_pilemake_Stream_Changes_12 [.l l, .i a, .l out, .i n, .i k, .i t, .i m, .s b, .s c, .i s, .i h, .s x, .s y, .i t2, .i m2, .s b2, .s c2, .i s2, .i h2, .s x2, .s y2, .l rows, .i N, .i i]) fun o => ∃ z, o.1 = some z ∧ ∃ a' r, o.2 = [.l l, .i a', .l (out ++ [r]), .l rows, .i N, .i i] ∧ a ≤ a' ∧ a' ≤ a + 5 ∧ Chg ConM r := by
  unfold tl_pilemake_Stream_Changes_12
  (dsimp +instances only [gi0,gis,row1,rows1,int1,str1,bool1])
  by_cases k1 : k = 1
  · refine Ret.pos (by simpa using k1) ?_
    refine Ret.tail (P := fun z g => ∃ a' n' k', g = [.l l, .i a', .l (out ++ [[.i n', .i k', .i 0, .i 0, .s (⟨#[]⟩ : ByteArray), .s (⟨#[]⟩ : ByteArray), .i 0, .i 0, .s (⟨#[]⟩ : ByteArray), .s (⟨#[]⟩ : ByteArray), .i t2, .i m2, .s b2, .s c2, .i s2, .i h2, .s x2, .s y2]]), .l rows, .i N, .i i] ∧ a ≤ a' ∧ a' ≤ a + 5 ∧ tight n' ∧ tight k') ((chg17 l out rows a n k N i 0 0 (⟨#[]⟩ : ByteArray) (⟨#[]⟩ : ByteArray) 0 0 (⟨#[]⟩ : ByteArray) (⟨#[]⟩ : ByteArray) t2 m2 b2 c2 s2 h2 x2 y2 hl ha ha1 hn hk).mono fun o ho => ho) (by (first|rfl|assumption|(simp only [inI,sl]<;>omega))) ?_
    rintro _ _ ⟨a', n', k', rfl, u1, u2, u3, u4⟩
    (dsimp +instances only [gi0,gis,row1,rows1,int1,str1,bool1])
    (repeat(first|(refine Ret.pos ?_ ?_;(first|rfl|assumption|(simp only [inI,sl]<;>omega)))|(refine Ret.neg ?_ ?_;(first|rfl|assumption|(simp only [inI,sl]<;>omega)))))
    exact Ret.some ⟨0, rfl, _, _, rfl, u1, u2, n', k', [.i 0, .i 0, .s (⟨#[]⟩ : ByteArray), .s (⟨#[]⟩ : ByteArray), .i 0, .i 0, .s (⟨#[]⟩ : ByteArray), .s (⟨#[]⟩ : ByteArray)], [.i t2, .i m2, .s b2, .s c2, .i s2, .i h2, .s x2, .s y2], rfl, u3, u4, zC_ConM, hs⟩
  · refine Ret.neg (by simpa using k1) ?_
    by_cases k2 : k = 2
    · refine Ret.pos (by simpa using k2) ?_
      refine Ret.tail (P := fun z g => ∃ a' n' k', g = [.l l, .i a', .l (out ++ [[.i n', .i k', .i t, .i m, .s b, .s c, .i s, .i h, .s x, .s y, .i 0, .i 0, .s (⟨#[]⟩ : ByteArray), .s (⟨#[]⟩ : ByteArray), .i 0, .i 0, .s (⟨#[]⟩ : ByteArray), .s (⟨#[]⟩ : ByteArray)]]), .l rows, .i N, .i i] ∧ a ≤ a' ∧ a' ≤ a + 5 ∧ tight n' ∧ tight k') ((chg17 l out rows a n k N i t m b c s h x y 0 0 (⟨#[]⟩ : ByteArray) (⟨#[]⟩ : ByteArray) 0 0 (⟨#[]⟩ : ByteArray) (⟨#[]⟩ : ByteArray) hl ha ha1 hn hk).mono fun o ho => ho) (by (first|rfl|assumption|(simp only [inI,sl]<;>omega))) ?_
      rintro _ _ ⟨a', n', k', rfl, u1, u2, u3, u4⟩
      (dsimp +instances only [gi0,gis,row1,rows1,int1,str1,bool1])
      (repeat(first|(refine Ret.pos ?_ ?_;(first|rfl|assumption|(simp only [inI,sl]<;>omega)))|(refine Ret.neg ?_ ?_;(first|rfl|assumption|(simp only [inI,sl]<;>omega)))))
      exact Ret.some ⟨0, rfl, _, _, rfl, u1, u2, n', k', [.i t, .i m, .s b, .s c, .i s, .i h, .s x, .s y], [.i 0, .i 0, .s (⟨#[]⟩ : ByteArray), .s (⟨#[]⟩ : ByteArray), .i 0, .i 0, .s (⟨#[]⟩ : ByteArray), .s (⟨#[]⟩ : ByteArray)], rfl, u3, u4, hw, zC_ConM⟩
    · refine Ret.neg (by simpa using k2) ?_
      refine Ret.tail (P := fun z g => ∃ a' n' k', g = [.l l, .i a', .l (out ++ [[.i n', .i k', .i t, .i m, .s b, .s c, .i s, .i h, .s x, .s y, .i t2, .i m2, .s b2, .s c2, .i s2, .i h2, .s x2, .s y2]]), .l rows, .i N, .i i] ∧ a ≤ a' ∧ a' ≤ a + 5 ∧ tight n' ∧ tight k') ((chg17 l out rows a n k N i t m b c s h x y t2 m2 b2 c2 s2 h2 x2 y2 hl ha ha1 hn hk).mono fun o ho => ho) (by (first|rfl|assumption|(simp only [inI,sl]<;>omega))) ?_
      rintro _ _ ⟨a', n', k', rfl, u1, u2, u3, u4⟩
      (dsimp +instances only [gi0,gis,row1,rows1,int1,str1,bool1])
      (repeat(first|(refine Ret.pos ?_ ?_;(first|rfl|assumption|(simp only [inI,sl]<;>omega)))|(refine Ret.neg ?_ ?_;(first|rfl|assumption|(simp only [inI,sl]<;>omega)))))
      exact Ret.some ⟨0, rfl, _, _, rfl, u1, u2, n', k', [.i t, .i m, .s b, .s c, .i s, .i h, .s x, .s y], [.i t2, .i m2, .s b2, .s c2, .i s2, .i h2, .s x2, .s y2], rfl, u3, u4, hw, hs⟩
theorem rowT {rows : List (List G)} (hr : ∀ z ∈ rows, ConT z) {v : Int} (h0 : 0 ≤ v) (h1 : v < rows.length) : ConT (rows.getD v.toNat []) := hr _ (getD_mem' h0 h1)
theorem chg9 (l out rows : List (List G)) (a n k N i : Int) (t m : Int) (b c : ByteArray) (s h : Int) (x y : ByteArray) (t2 m2 : Int) (b2 c2 : ByteArray) (s2 h2 : Int) (x2 y2 : ByteArray) (hl : out.length ≤ 100) (ha : 0 ≤ a) (ha1 : a ≤ 800000) (hr : ∀ z ∈ rows, ConT z) (hr0 : 0 < rows.length) (hr1 : rows.length ≤ 1000) (hw : ConM [.i t, .i m, .s b, .s c, .i s, .i h, .s x, .s y]) (hs : ConM [.i t2, .i m2, .s b2, .s c2, .i s2, .i h2, .s x2, .s y2]) :
    Ret (tl_pilemake_Stream_Changes_9 [.l l, .i a, .l out, .i n, .i k, .i t, .i m, .s b, .s c, .i s, .i h, .s x, .s y, .i t2, .i m2, .s b2, .s c2, .i s2, .i h2, .s x2, .s y2, .l rows, .i N, .i i]) fun o => ∃ z, o.1 = some z ∧ ∃ (a' : Int) (t2' : Int) (m2' : Int) (b2' : ByteArray) (c2' : ByteArray) (s2' : Int) (h2' : Int) (x2' : ByteArray) (y2' : ByteArray), o.2 = [.l l, .i a', .l out, .i n, .i k, .i t, .i m, .s b, .s c, .i s, .i h, .s x, .s y, .i t2', .i m2', .s b2', .s c2', .i s2', .i h2', .s x2', .s y2', .l rows, .i N, .i i] ∧ a ≤ a' ∧ a' ≤ a + 2 ∧ ConM [.i t2', .i m2', .s b2', .s c2', .i s2', .i h2', .s x2', .s y2'] := by
  unfold tl_pilemake_Stream_Changes_9
  (dsimp +instances only [gi0,gis,row1,rows1,int1,str1,bool1])
  refine Ret.call (r_Flip l a 3 ha (by omega) (by omega) (by omega)) ?_
  rintro _ ⟨f, rfl⟩
  (dsimp +instances only [gi0,gis,row1,rows1,int1,str1,bool1])
  cases f with
  | false =>
    (repeat(first|(refine Ret.pos ?_ ?_;(first|rfl|assumption|(simp only [inI,sl]<;>omega)))|(refine Ret.neg ?_ ?_;(first|rfl|assumption|(simp only [inI,sl]<;>omega)))))
    exact Ret.some ⟨0, rfl, _, t2, m2, b2, c2, s2, h2, x2, y2, rfl, by omega, by omega, hs⟩
  | true =>
    refine Ret.pos rfl ?_
    refine Ret.call (r_Next l _ _ (by omega) (by omega) (by omega) (by omega)) ?_
    rintro _ ⟨v, rfl, hv⟩
    (dsimp +instances only [gi0,gis,row1,rows1,int1,str1,bool1])
    refine Ret.pos (by (first|rfl|assumption|(simp only [inI,sl]<;>omega))) ?_
    obtain ⟨t2', m2', b2', c2', s2', h2', x2', y2', e, g1, g2, g3, g4, g5⟩ := rowT hr hv.1 hv.2
    rw [e]
    (dsimp +instances only [gi0,gis,row1,rows1,int1,str1,bool1])
    unfold tight at g4
    (repeat(first|(refine Ret.pos ?_ ?_;(first|rfl|assumption|(simp only [inI,sl]<;>omega)))|(refine Ret.neg ?_ ?_;(first|rfl|assumption|(simp only [inI,sl]<;>omega)))))
    exact Ret.some ⟨0, rfl, _, t2', m2', b2', c2', s2', h2' + 1, x2', y2', rfl, by omega, by omega, t2', m2', b2', c2', s2', h2' + 1, x2', y2', rfl, g1.toM, g2.toM, g3.toM, ⟨by omega, by omega⟩, g5⟩
theorem round_Changes (l out rows : List (List G)) (a : Int) (N i : Nat) (hi : i < N) (hN : N ≤ 6) (ha : 0 ≤ a) (ha1 : a ≤ 700000) (hl : out.length ≤ 50) (hr : ∀ z ∈ rows, ConT z) (hr1 : rows.length ≤ 1000) :
    Ret (st_pilemake_Stream_Changes_3 [.l l, .i a, .l out, .l rows, .i (N : Int), .i (i : Int)]) fun o => ∃ b r, o = (none, [.l l, .i b, .l (out ++ [r]), .l rows, .i (N : Int), .i ((i : Int) + 1)]) ∧ a ≤ b ∧ b ≤ a + 60 ∧ Chg ConM r := by
  unfold st_pilemake_Stream_Changes_3
  (dsimp +instances only [gi0,gis,row1,rows1,int1,str1,bool1])
  (repeat(first|(refine Ret.pos ?_ ?_;(first|rfl|assumption|(simp only [inI,sl]<;>omega)))|(refine Ret.neg ?_ ?_;(first|rfl|assumption|(simp only [inI,sl]<;>omega)))))
  refine Ret.call (r_Range l a 1 2 ha (by omega) (by omega) (by omega) (by omega)) ?_
  rintro _ ⟨no, rfl, hno⟩
  (dsimp +instances only [gi0,gis,row1,rows1,int1,str1,bool1])
  (repeat(first|(refine Ret.pos ?_ ?_;(first|rfl|assumption|(simp only [inI,sl]<;>omega)))|(refine Ret.neg ?_ ?_;(first|rfl|assumption|(simp only [inI,sl]<;>omega)))))
  refine Ret.call (r_PickB 1 3 l _ _ (by omega) (by omega) (by kernel_rfl) (by kernel_rfl)) ?_
  rintro _ ⟨kind, rfl, hkind⟩
  (dsimp +instances only [gi0,gis,row1,rows1,int1,str1,bool1])
  refine Ret.call (r_Range l _ 0 100 (by omega) (by omega) (by omega) (by omega) (by omega)) ?_
  rintro _ ⟨at1, rfl, hat1⟩
  (dsimp +instances only [gi0,gis,row1,rows1,int1,str1,bool1])
  refine Ret.call (r_SomeContact l _ at1 (by omega) (by omega) (by unfold tightT; omega)) ?_
  rintro _ ⟨p1, _, rfl, hp1, hp2, hw⟩
  (dsimp +instances only [gi0,gis,row1,rows1,int1,str1,bool1])
  refine Ret.call (r_Range l _ 0 100 (by omega) (by omega) (by omega) (by omega) (by omega)) ?_
  rintro _ ⟨at2, rfl, hat2⟩
  (dsimp +instances only [gi0,gis,row1,rows1,int1,str1,bool1])
  refine Ret.call (r_SomeContact l _ at2 (by omega) (by omega) (by unfold tightT; omega)) ?_
  rintro _ ⟨p2, _, rfl, hp3, hp4, hs⟩
  (dsimp +instances only [gi0,gis,row1,rows1,int1,str1,bool1])
  obtain ⟨t, m, b, c, s, h, x, y, rfl, hw1⟩ := id hw
  obtain ⟨t2, m2, b2, c2, s2, h2, x2, y2, rfl, hs1⟩ := id hs
  (dsimp +instances only [gi0,gis,row1,rows1,int1,str1,bool1])
  by_cases h0 : 0 < rows.length
  · refine Ret.pos (by (first|rfl|assumption|(simp only [inI,sl]<;>omega))) ?_
    refine Ret.call (r_Flip l _ 6 (by omega) (by omega) (by omega) (by omega)) ?_
    rintro _ ⟨f, rfl⟩
    (dsimp +instances only [gi0,gis,row1,rows1,int1,str1,bool1])
    generalize hp : p2 + 1 = p
    cases f with
    | false =>
      refine Ret.pos rfl ?_
      refine Ret.call (r_Next l _ _ (by omega) (by omega) (by omega) (by omega)) ?_
      rintro _ ⟨v, rfl, hv⟩
      (dsimp +instances only [gi0,gis,row1,rows1,int1,str1,bool1])
      refine Ret.pos (by (first|rfl|assumption|(simp only [inI,sl]<;>omega))) ?_
      have hv3 := rowT hr hv.1 hv.2
      obtain ⟨t3, m3, b3, c3, s3, h3, x3, y3, e, hv4⟩ := id hv3
      rw [e]
      rw [e] at hv3
      (dsimp +instances only [gi0,gis,row1,rows1,int1,str1,bool1])
      generalize hpp : p + 1 = p
      refine Ret.tail (P := fun z g => ∃ (a' : Int) (t2' : Int) (m2' : Int) (b2' : ByteArray) (c2' : ByteArray) (s2' : Int) (h2' : Int) (x2' : ByteArray) (y2' : ByteArray), g = [.l l, .i a', .l out, .i (2 * (i : Int) + no), .i kind, .i t3, .i m3, .s b3, .s c3, .i s3, .i h3, .s x3, .s y3, .i t2', .i m2', .s b2', .s c2', .i s2', .i h2', .s x2', .s y2', .l rows, .i (N : Int), .i (i : Int)] ∧ p ≤ a' ∧ a' ≤ p + 2 ∧ ConM [.i t2', .i m2', .s b2', .s c2', .i s2', .i h2', .s x2', .s y2']) ((chg9 l out rows p _ _ N i t3 m3 b3 c3 s3 h3 x3 y3 t2 m2 b2 c2 s2 h2 x2 y2 (by omega) (by omega) (by omega) hr h0 hr1 hv3.toM hs.toM).mono fun o ho => ho) (by (first|rfl|assumption|(simp only [inI,sl]<;>omega))) ?_
      rintro _ _ ⟨p', t2', m2', b2', c2', s2', h2', x2', y2', rfl, q4, q5, hs'⟩
      (dsimp +instances only [gi0,gis,row1,rows1,int1,str1,bool1])
      refine Ret.tail (P := fun z g => ∃ a' r, g = [.l l, .i a', .l (out ++ [r]), .l rows, .i (N : Int), .i (i : Int)] ∧ p' ≤ a' ∧ a' ≤ p' + 5 ∧ Chg ConM r) ((chg12 l out rows _ _ _ N i _ _ _ _ _ _ _ _ _ _ _ _ _ _ _ _ (by omega) (by omega) (by omega) (by unfold tight; omega) (by unfold tight; omega) hv3.toM hs').mono fun o ho => ho) (by (first|rfl|assumption|(simp only [inI,sl]<;>omega))) ?_
      rintro _ _ ⟨a', r, rfl, q1, q2, q3⟩
      (dsimp +instances only [gi0,gis,row1,rows1,int1,str1,bool1])
      (repeat(first|(refine Ret.pos ?_ ?_;(first|rfl|assumption|(simp only [inI,sl]<;>omega)))|(refine Ret.neg ?_ ?_;(first|rfl|assumption|(simp only [inI,sl]<;>omega)))))
      exact Ret.some ⟨a', r, rfl, by omega, by omega, q3⟩
    | true =>
      refine Ret.neg rfl ?_
      refine Ret.tail (P := fun z g => ∃ (a' : Int) (t2' : Int) (m2' : Int) (b2' : ByteArray) (c2' : ByteArray) (s2' : Int) (h2' : Int) (x2' : ByteArray) (y2' : ByteArray), g = [.l l, .i a', .l out, .i (2 * (i : Int) + no), .i kind, .i t, .i m, .s b, .s c, .i s, .i h, .s x, .s y, .i t2', .i m2', .s b2', .s c2', .i s2', .i h2', .s x2', .s y2', .l rows, .i (N : Int), .i (i : Int)] ∧ p ≤ a' ∧ a' ≤ p + 2 ∧ ConM [.i t2', .i m2', .s b2', .s c2', .i s2', .i h2', .s x2', .s y2']) ((chg9 l out rows p _ _ N i t m b c s h x y t2 m2 b2 c2 s2 h2 x2 y2 (by omega) (by omega) (by omega) hr h0 hr1 hw.toM hs.toM).mono fun o ho => ho) (by (first|rfl|assumption|(simp only [inI,sl]<;>omega))) ?_
      rintro _ _ ⟨p', t2', m2', b2', c2', s2', h2', x2', y2', rfl, q4, q5, hs'⟩
      (dsimp +instances only [gi0,gis,row1,rows1,int1,str1,bool1])
      refine Ret.tail (P := fun z g => ∃ a' r, g = [.l l, .i a', .l (out ++ [r]), .l rows, .i (N : Int), .i (i : Int)] ∧ p' ≤ a' ∧ a' ≤ p' + 5 ∧ Chg ConM r) ((chg12 l out rows _ _ _ N i _ _ _ _ _ _ _ _ _ _ _ _ _ _ _ _ (by omega) (by omega) (by omega) (by unfold tight; omega) (by unfold tight; omega) hw.toM hs').mono fun o ho => ho) (by (first|rfl|assumption|(simp only [inI,sl]<;>omega))) ?_
      rintro _ _ ⟨a', r, rfl, q1, q2, q3⟩
      (dsimp +instances only [gi0,gis,row1,rows1,int1,str1,bool1])
      (repeat(first|(refine Ret.pos ?_ ?_;(first|rfl|assumption|(simp only [inI,sl]<;>omega)))|(refine Ret.neg ?_ ?_;(first|rfl|assumption|(simp only [inI,sl]<;>omega)))))
      exact Ret.some ⟨a', r, rfl, by omega, by omega, q3⟩
  · refine Ret.neg (by (first|rfl|assumption|(simp only [inI,sl]<;>omega))) ?_
    refine Ret.tail (P := fun z g => ∃ a' r, g = [.l l, .i a', .l (out ++ [r]), .l rows, .i (N : Int), .i (i : Int)] ∧ p2 ≤ a' ∧ a' ≤ p2 + 5 ∧ Chg ConM r) ((chg12 l out rows _ _ _ N i _ _ _ _ _ _ _ _ _ _ _ _ _ _ _ _ (by omega) (by omega) (by omega) (by unfold tight; omega) (by unfold tight; omega) hw.toM hs.toM).mono fun o ho => ho) (by (first|rfl|assumption|(simp only [inI,sl]<;>omega))) ?_
    rintro _ _ ⟨a', r, rfl, q1, q2, q3⟩
    (dsimp +instances only [gi0,gis,row1,rows1,int1,str1,bool1])
    (repeat(first|(refine Ret.pos ?_ ?_;(first|rfl|assumption|(simp only [inI,sl]<;>omega)))|(refine Ret.neg ?_ ?_;(first|rfl|assumption|(simp only [inI,sl]<;>omega)))))
    exact Ret.some ⟨a', r, rfl, by omega, by omega, q3⟩
theorem loop_Changes (l rows : List (List G)) (n : Nat) (hn : n ≤ 6) (hr : ∀ z ∈ rows, ConT z) (hr1 : rows.length ≤ 1000) : ∀ (k i : Nat) (a : Int) (acc : List (List G)), i + k = n → 0 ≤ a → a ≤ 600000 + 60 * i → (∀ z ∈ acc, Chg ConM z) → acc.length = i →
    RetN st_pilemake_Stream_Changes_3 [.l l, .i a, .l acc, .l rows, .i (n : Int), .i (i : Int)] (k + 1) fun c g => c = 0 ∧ ∃ b rows, g = [.l l, .i b, .l rows] ∧ a ≤ b ∧ b ≤ a + 60 * k ∧ (∀ z ∈ rows, Chg ConM z) ∧ rows.length = n
  | 0, i, a, acc, hi, ha, ha1, hQ, hl => by
    refine RetN.stop (x := 0) (Ret.toEq ?_) ⟨rfl, a, acc, rfl, by omega, by omega, hQ, by omega⟩
    unfold st_pilemake_Stream_Changes_3
    (dsimp +instances only [gi0,gis,row1,rows1,int1,str1,bool1])
    (repeat(first|(refine Ret.pos ?_ ?_;(first|rfl|assumption|(simp only [inI,sl]<;>omega)))|(refine Ret.neg ?_ ?_;(first|rfl|assumption|(simp only [inI,sl]<;>omega)))))
    exact Ret.some rfl
  | k + 1, i, a, acc, hi, ha, ha1, hQ, hl => by
    obtain ⟨_, h, b, r, rfl, h1, h2, h3⟩ := round_Changes l acc rows a n i (by omega) hn ha (by omega) (by omega) hr hr1
    have ih := loop_Changes l rows n hn hr hr1 k (i + 1) b (acc ++ [r]) (by omega) (by omega) (by omega) (by
      intro z hz
      rcases List.mem_append.1 hz with hz | hz
      · exact hQ z hz
      · simp at hz; exact hz ▸ h3) (by simp [hl])
    refine RetN.next h (ih.mono ?_)
    rintro c g ⟨rfl, b', rows, rfl, q1, q2, q3, q4⟩
    exact ⟨rfl, b', rows, rfl, by omega, by omega, q3, q4⟩
theorem r_Changes (l rows : List (List G)) (a : Int) (ha : 0 ≤ a) (ha1 : a ≤ 500000) (hr : ∀ z ∈ rows, ConT z) (hr1 : rows.length ≤ 1000) :
    Ret (F_pilemake_Stream_Changes [.l l, .i a, .l rows]) fun g => ∃ b cs, g = [.l l, .i b, .l cs] ∧ a ≤ b ∧ b ≤ a + 400 ∧ (∀ z ∈ cs, Chg ConM z) ∧ cs.length ≤ 6 := by
  unfold F_pilemake_Stream_Changes
  (dsimp +instances only [gi0,gis,row1,rows1,int1,str1,bool1])
  refine Ret.call (r_Range l a 0 6 ha (by omega) (by omega) (by omega) (by omega)) ?_
  rintro _ ⟨v, rfl, hv0, hv1⟩
  obtain ⟨n, rfl⟩ := Int.eq_ofNat_of_zero_le hv0
  (dsimp +instances only [gi0,gis,row1,rows1,int1,str1,bool1])
  have hl := loop_Changes l rows n (by omega) hr hr1 n 0 (a + 1) [] (by omega) (by omega) (by omega) (by simp) rfl
  refine Ret.loop (hl.to (by omega)) (by (first|rfl|assumption|(simp only [inI,sl]<;>omega))) ?_
  rintro c g ⟨rfl, b, cs, rfl, h2, h3, h4, h5⟩
  (dsimp +instances only [gi0,gis,row1,rows1,int1,str1,bool1])
  (repeat(first|(refine Ret.pos ?_ ?_;(first|rfl|assumption|(simp only [inI,sl]<;>omega)))|(refine Ret.neg ?_ ?_;(first|rfl|assumption|(simp only [inI,sl]<;>omega)))))
  exact Ret.some ⟨b, cs, rfl, by omega, by omega, h4, by omega⟩
end
end Go.Proofs.SYthnhleemkjpigaaGreatDoor

namespace Go.Proofs.SYthnhleemkjpigaaGreatDoor
open Go Go.AL Go.Proofs
noncomputable section
def formG (k : Int) (w s : List G) : Bool := ((k == 2) && !(rowEq KContact s zC)) || (((k == 1) && !(rowEq KContact w zC)) || rowEq KContact w s)
def lastG (p : Option Int) (n : Int) : Int := match p with
  | none => 0
  | some q => bif leI n q then 7 else 0
def f14 (p : Option Int) (n k : Int) (w s : List G) : Int := bif formG k w s then 3 else lastG p n
def f10 (p : Option Int) (n k : Int) (w s : List G) : Int := bif (k != 2) && (faultC s != 0) then faultC s else f14 p n k w s
def f1 (p : Option Int) (n k : Int) (w s : List G) : Int := bif !inB n 1 1000 then 1 else bif !inB k 1 3 then 4 else bif (k != 1) && (faultC w != 0) then faultC w else f10 p n k w s
def prevG (rows : List (List G)) (i : Nat) : Option Int := match i with
  | 0 => none
  | j + 1 => some (gi (rows.getD j []) 0).int
theorem last_log (rows : List (List G)) (i : Nat) (hi : i < rows.length) (hn : rows.length < 100000) (n : Int) :
    (bif (ltI 0 (i : Int)) then (bif (inI ((i : Int) - 1)) then (bif ((nnI ((i : Int) - 1)) && (ltI ((i : Int) - 1) ((rows.length : Nat) : Int))) then (bif (leI n (gi (rows.getD (((i : Int) - 1).toNat) []) 0).int) then some (some 0, [G.i 7]) else some (some 0, [G.i 0])) else none) else none) else some (some 0, [G.i 0]))
      = some (some 0, [G.i (lastG (prevG rows i) n)]) := by
  refine Ret.toEq ?_
  cases i with
  | zero => exact Ret.neg (by (first|rfl|assumption|(simp only [inI,sl]<;>omega))) (Ret.some rfl)
  | succ j =>
    refine Ret.pos (by (first|rfl|assumption|(simp only [inI,sl]<;>omega))) (Ret.pos (by (first|rfl|assumption|(simp only [inI,sl]<;>omega))) (Ret.pos (by (first|rfl|assumption|(simp only [inI,sl]<;>omega))) ?_))
    have e : (((j + 1 : Nat) : Int) - 1).toNat = j := by omega
    rw [e]
    simp only [prevG, lastG]
    cases leI n (gi (rows.getD j []) 0).int <;> exact Ret.some rfl
theorem g14 (rows : List (List G)) (i : Nat) (hi : i < rows.length) (hn : rows.length < 100000) (n k : Int) (t m : Int) (b c : ByteArray) (sn hd : Int) (x y : ByteArray) (t2 m2 : Int) (b2 c2 : ByteArray) (sn2 hd2 : Int) (x2 y2 : ByteArray) :
    tl_log_changeFault_14 [.i n, .i k, .i t, .i m, .s b, .s c, .i sn, .i hd, .s x, .s y, .i t2, .i m2, .s b2, .s c2, .i sn2, .i hd2, .s x2, .s y2, .l rows, .i (i : Int)] = some (some 0, [.i (f14 (prevG rows i) n k [.i t, .i m, .s b, .s c, .i sn, .i hd, .s x, .s y] [.i t2, .i m2, .s b2, .s c2, .i sn2, .i hd2, .s x2, .s y2])]) := by
  have hl := last_log rows i hi hn n
  unfold tl_log_changeFault_14 f14 formG
  (dsimp +instances only [gi0,gis,row1,rows1,int1,str1,bool1])
  rw [hl]
  show _ = _
  unfold zC
  generalize rowEq KContact [.i t2, .i m2, .s b2, .s c2, .i sn2, .i hd2, .s x2, .s y2] [.i 0, .i 0, .s (⟨#[]⟩ : ByteArray), .s (⟨#[]⟩ : ByteArray), .i 0, .i 0, .s (⟨#[]⟩ : ByteArray), .s (⟨#[]⟩ : ByteArray)] = zs
  generalize rowEq KContact [.i t, .i m, .s b, .s c, .i sn, .i hd, .s x, .s y] [.i 0, .i 0, .s (⟨#[]⟩ : ByteArray), .s (⟨#[]⟩ : ByteArray), .i 0, .i 0, .s (⟨#[]⟩ : ByteArray), .s (⟨#[]⟩ : ByteArray)] = zw
  generalize rowEq KContact [.i t, .i m, .s b, .s c, .i sn, .i hd, .s x, .s y] [.i t2, .i m2, .s b2, .s c2, .i sn2, .i hd2, .s x2, .s y2] = ws
  cases (k == 2) <;> cases (k == 1) <;> cases zs <;> cases zw <;> cases ws <;> rfl
theorem g10 (rows : List (List G)) (i : Nat) (hi : i < rows.length) (hn : rows.length < 100000) (n k : Int) (t m : Int) (b c : ByteArray) (sn hd : Int) (x y : ByteArray) (t2 m2 : Int) (b2 c2 : ByteArray) (sn2 hd2 : Int) (x2 y2 : ByteArray) (hs : Con [.i t2, .i m2, .s b2, .s c2, .i sn2, .i hd2, .s x2, .s y2]) :
    tl_log_changeFault_10 [.i n, .i k, .i t, .i m, .s b, .s c, .i sn, .i hd, .s x, .s y, .i t2, .i m2, .s b2, .s c2, .i sn2, .i hd2, .s x2, .s y2, .l rows, .i (i : Int)] = some (some 0, [.i (f10 (prevG rows i) n k [.i t, .i m, .s b, .s c, .i sn, .i hd, .s x, .s y] [.i t2, .i m2, .s b2, .s c2, .i sn2, .i hd2, .s x2, .s y2])]) := by
  have h := g14 rows i hi hn n k t m b c sn hd x y t2 m2 b2 c2 sn2 hd2 x2 y2
  refine Ret.toEq ?_
  unfold tl_log_changeFault_10 f10
  (dsimp +instances only [gi0,gis,row1,rows1,int1,str1,bool1])
  cases hk : (k != 2) with
  | true =>
    refine Ret.pos rfl ?_
    refine Ret.call (Ret.eq (check_eq hs)) ?_
    rintro _ rfl
    (dsimp +instances only [gi0,gis,row1,rows1,int1,str1,bool1])
    cases hf : (faultC [.i t2, .i m2, .s b2, .s c2, .i sn2, .i hd2, .s x2, .s y2] != 0) with
    | true => exact Ret.pos rfl (Ret.some rfl)
    | false =>
      refine Ret.neg rfl ?_
      refine Ret.tail (P := fun z g => z = 0 ∧ g = _) (Ret.mono (Ret.eq (h)) fun o ho => ⟨0, by rw [ho], rfl, by rw [ho]⟩) (by (first|rfl|assumption|(simp only [inI,sl]<;>omega))) ?_
      rintro _ _ ⟨rfl, rfl⟩
      (dsimp +instances only [gi0,gis,row1,rows1,int1,str1,bool1])
      exact Ret.some rfl
  | false =>
    refine Ret.neg rfl ?_
    refine Ret.tail (P := fun z g => z = 0 ∧ g = _) (Ret.mono (Ret.eq (h)) fun o ho => ⟨0, by rw [ho], rfl, by rw [ho]⟩) (by (first|rfl|assumption|(simp only [inI,sl]<;>omega))) ?_
    rintro _ _ ⟨rfl, rfl⟩
    (dsimp +instances only [gi0,gis,row1,rows1,int1,str1,bool1])
    exact Ret.some rfl
theorem getD_i {rows : List (List G)} {i : Nat} : rows.getD ((i : Int)).toNat [] = rows.getD i [] := by simp
theorem g1 (rows : List (List G)) (i : Nat) (hi : i < rows.length) (hn : rows.length < 100000) {n k : Int} {w s : List G} (e : rows.getD i [] = .i n :: .i k :: (w ++ s)) (hw : Con w) (hs : Con s) :
    F_log_changeFault [.l rows, .i (i : Int)] = some [.i (f1 (prevG rows i) n k w s)] := by
  obtain ⟨t, m, b, c, sn, hd, x, y, rfl, hw1⟩ := id hw
  obtain ⟨t2, m2, b2, c2, sn2, hd2, x2, y2, rfl, hs1⟩ := id hs
  have h := g10 rows i hi hn n k t m b c sn hd x y t2 m2 b2 c2 sn2 hd2 x2 y2 hs
  refine Ret.toEq ?_
  unfold F_log_changeFault f1
  (dsimp +instances only [gi0,gis,row1,rows1,int1,str1,bool1])
  refine Ret.pos (by (first|rfl|assumption|(simp only [inI,sl]<;>omega))) ?_
  simp only [getD_i, e, List.cons_append, List.nil_append]
  (dsimp +instances only [gi0,gis,row1,rows1,int1,str1,bool1])
  refine Ret.call (Ret.eq (outside_eq _ _ _)) ?_
  rintro _ rfl
  (dsimp +instances only [gi0,gis,row1,rows1,int1,str1,bool1])
  cases inB n 1 1000 with
  | false => exact Ret.pos rfl (Ret.some rfl)
  | true =>
    refine Ret.neg rfl ?_
    refine Ret.call (Ret.eq (outside_eq _ _ _)) ?_
    rintro _ rfl
    (dsimp +instances only [gi0,gis,row1,rows1,int1,str1,bool1])
    cases inB k 1 3 with
    | false => exact Ret.pos rfl (Ret.some rfl)
    | true =>
      refine Ret.neg rfl ?_
      cases hk : (k != 1) with
      | true =>
        refine Ret.pos rfl ?_
        refine Ret.call (Ret.eq (check_eq hw)) ?_
        rintro _ rfl
        (dsimp +instances only [gi0,gis,row1,rows1,int1,str1,bool1])
        cases hf : (faultC [.i t, .i m, .s b, .s c, .i sn, .i hd, .s x, .s y] != 0) with
        | true => exact Ret.pos rfl (Ret.some rfl)
        | false =>
          refine Ret.neg rfl ?_
          refine Ret.tail (P := fun z g => z = 0 ∧ g = _) (Ret.mono (Ret.eq (h)) fun o ho => ⟨0, by rw [ho], rfl, by rw [ho]⟩) (by (first|rfl|assumption|(simp only [inI,sl]<;>omega))) ?_
          rintro _ _ ⟨rfl, rfl⟩
          (dsimp +instances only [gi0,gis,row1,rows1,int1,str1,bool1])
          exact Ret.some rfl
      | false =>
        refine Ret.neg rfl ?_
        refine Ret.tail (P := fun z g => z = 0 ∧ g = _) (Ret.mono (Ret.eq (h)) fun o ho => ⟨0, by rw [ho], rfl, by rw [ho]⟩) (by (first|rfl|assumption|(simp only [inI,sl]<;>omega))) ?_
        rintro _ _ ⟨rfl, rfl⟩
        (dsimp +instances only [gi0,gis,row1,rows1,int1,str1,bool1])
        exact Ret.some rfl
def fAt (rows : List (List G)) (i : Nat) : Int := f1 (prevG rows i) (gi (rows.getD i []) 0).int (gi (rows.getD i []) 1).int (((rows.getD i []).drop 2).take 8) ((rows.getD i []).drop 10)
def firstF (f : Nat → Int) : Nat → Nat → Int
  | 0, _ => 0
  | k + 1, i => bif f i != 0 then f i else firstF f k (i + 1)
def faultCh (rows : List (List G)) : Int := bif Nat.blt 1000 rows.length then 2 else firstF (fAt rows) rows.length 0
theorem fAt_eq {rows : List (List G)} {i : Nat} {n k : Int} {w s : List G} (e : rows.getD i [] = .i n :: .i k :: (w ++ s)) (hw : Con w) (hs : Con s) : fAt rows i = f1 (prevG rows i) n k w s := by
  obtain ⟨t, m, b, c, sn, hd, x, y, rfl, hw1⟩ := hw
  obtain ⟨t2, m2, b2, c2, sn2, hd2, x2, y2, rfl, hs1⟩ := hs
  unfold fAt
  rw [e]
  rfl
theorem fAt_log {rows : List (List G)} {i : Nat} (hi : i < rows.length) (hn : rows.length < 100000) (hr : ∀ z ∈ rows, Chg Con z) : F_log_changeFault [.l rows, .i (i : Int)] = some [.i (fAt rows i)] := by
  obtain ⟨n, k, w, s, e, _, _, hw, hs⟩ := hr _ (getD_row hi)
  rw [fAt_eq e hw hs]
  exact g1 rows i hi hn e hw hs
theorem runs_log (rows : List (List G)) (hn : rows.length < 100000) (hr : ∀ z ∈ rows, Chg Con z) : ∀ (k i : Nat), i + k = rows.length →
    RetN st_log_CheckChanges_4 [.l rows, .i (rows.length : Int), .i (i : Int)] (k + 1) fun c g => (firstF (fAt rows) k i ≠ 0 ∧ c = 0 ∧ g = [.i (firstF (fAt rows) k i)]) ∨ (firstF (fAt rows) k i = 0 ∧ c = 1 ∧ g = [])
  | 0, i, h => by
    refine RetN.stop (x := 1) (d' := []) (Ret.toEq ?_) (.inr ⟨rfl, rfl, rfl⟩)
    unfold st_log_CheckChanges_4
    (dsimp +instances only [gi0,gis,row1,rows1,int1,str1,bool1])
    exact Ret.neg (by (first|rfl|assumption|(simp only [inI,sl]<;>omega))) (Ret.some rfl)
  | k + 1, i, h => by
    have hs := fAt_log (rows := rows) (i := i) (by omega) hn hr
    by_cases hf : fAt rows i = 0
    · have step : st_log_CheckChanges_4 [.l rows, .i (rows.length : Int), .i (i : Int)] = some (none, [.l rows, .i (rows.length : Int), .i ((i : Int) + 1)]) := by
        refine Ret.toEq ?_
        unfold st_log_CheckChanges_4
        (dsimp +instances only [gi0,gis,row1,rows1,int1,str1,bool1])
        refine Ret.pos (by (first|rfl|assumption|(simp only [inI,sl]<;>omega))) ?_
        refine Ret.call (Ret.eq hs) ?_
        rintro _ rfl
        (dsimp +instances only [gi0,gis,row1,rows1,int1,str1,bool1])
        exact Ret.neg (by simpa using hf) (Ret.pos (by (first|rfl|assumption|(simp only [inI,sl]<;>omega))) (Ret.some rfl))
      refine RetN.next step ((runs_log rows hn hr k (i + 1) (by omega)).mono fun c g hq => ?_)
      have e : firstF (fAt rows) (k + 1) i = firstF (fAt rows) k (i + 1) := by simp [firstF, hf]
      rw [e]
      exact hq
    · have e : firstF (fAt rows) (k + 1) i = fAt rows i := by
        have : (fAt rows i != 0) = true := by simpa using hf
        simp only [firstF, this, cond_true]
      refine RetN.stop (x := 0) (d' := [.i (fAt rows i)]) (Ret.toEq ?_) (.inl ⟨by rw [e]; exact hf, rfl, by rw [e]⟩)
      unfold st_log_CheckChanges_4
      (dsimp +instances only [gi0,gis,row1,rows1,int1,str1,bool1])
      refine Ret.pos (by (first|rfl|assumption|(simp only [inI,sl]<;>omega))) ?_
      refine Ret.call (Ret.eq hs) ?_
      rintro _ rfl
      (dsimp +instances only [gi0,gis,row1,rows1,int1,str1,bool1])
      exact Ret.pos (by simpa using hf) (Ret.some rfl)
theorem checkCh_eq (rows : List (List G)) (hn : rows.length < 100000) (hr : ∀ z ∈ rows, Chg Con z) : F_log_CheckChanges [.l rows] = some [.i (faultCh rows)] := by
  refine Ret.toEq ?_
  unfold F_log_CheckChanges faultCh
  (dsimp +instances only [gi0,gis,row1,rows1,int1,str1,bool1])
  by_cases h : 1000 < rows.length
  · have e : Nat.blt 1000 rows.length = true := by rw [Nat.blt_eq]; exact h
    rw [e]
    exact Ret.pos (by (first|rfl|assumption|(simp only [inI,sl]<;>omega))) (Ret.some rfl)
  · have e : Nat.blt 1000 rows.length = false := by
      cases hb : Nat.blt 1000 rows.length with
      | false => rfl
      | true => rw [Nat.blt_eq] at hb; exact (h hb).elim
    rw [e]
    refine Ret.neg (by (first|rfl|assumption|(simp only [inI,sl]<;>omega))) ?_
    refine Ret.loop ((runs_log rows hn hr rows.length 0 (by omega)).to (by omega)) rfl ?_
    rintro c g (⟨h1, rfl, rfl⟩ | ⟨h1, rfl, rfl⟩)
    · exact Ret.pos rfl (Ret.some rfl)
    · refine Ret.neg rfl (Ret.some ?_)
      simp only [cond_false, h1]
end
end Go.Proofs.SYthnhleemkjpigaaGreatDoor

namespace Go.Proofs.SYthnhleemkjpigaaGreatDoor
open Go Go.AL Go.Proofs
noncomputable section
end
end Go.Proofs.SYthnhleemkjpigaaGreatDoor

namespace Go.Proofs.SYthnhleemkjpigaaGreatDoor
open Go Go.AL Go.Proofs
noncomputable section
theorem kdsCh : Kds KChange (Chg Con) := ⟨fun _ h => h.eta⟩
def noOf (r : List G) : Int := (gi r 0).int
end
end Go.Proofs.SYthnhleemkjpigaaGreatDoor

namespace Go.Proofs.SYthnhleemkjpigaaGreatDoor
open Go Go.AL Go.Proofs
noncomputable section
theorem getD_at (p : List (List G)) (x : List G) (q : List (List G)) : (p ++ x :: q).getD p.length [] = x := by simp
end
end Go.Proofs.SYthnhleemkjpigaaGreatDoor

namespace Go.Proofs.SYthnhleemkjpigaaGreatDoor
open Go Go.AL Go.Proofs
noncomputable section
theorem bytes_eq {a b : ByteArray} (h : (a.toList == b.toList) = true) : a = b := by
  rw [ByteArray.toList_eq, ByteArray.toList_eq, beq_iff_eq] at h
  exact ByteArray.ext (Array.toList_inj.1 h)
theorem rowEq_con {r s : List G} (hr : Con r) (hs : Con s) (h : rowEq KContact r s = true) : r = s := by
  obtain ⟨t, m, b, c, n, d, x, y, rfl, _⟩ := hr
  obtain ⟨t2, m2, b2, c2, n2, d2, x2, y2, rfl, _⟩ := hs
  have h : ((t == t2) && ((m == m2) && ((b.toList == b2.toList) && ((c.toList == c2.toList) && ((n == n2) && ((d == d2) && ((x.toList == x2.toList) && ((y.toList == y2.toList) && true)))))))) = true := h
  simp only [Bool.and_eq_true, Bool.and_true, beq_iff_eq (α := Int)] at h
  obtain ⟨rfl, rfl, h1, h2, rfl, rfl, h3, h4⟩ := h
  rw [bytes_eq h1, bytes_eq h2, bytes_eq h3, bytes_eq h4]
def rising (l : List (List G)) : Prop := l.Pairwise fun a b => noOf a < noOf b
def apartN (l : List (List G)) : Prop := l.Pairwise fun a b => noOf a ≠ noOf b
theorem rising.apart {l : List (List G)} (h : rising l) : apartN l := List.Pairwise.imp (fun h => by omega) h
end
end Go.Proofs.SYthnhleemkjpigaaGreatDoor

namespace Go.Proofs.SYthnhleemkjpigaaGreatDoor
open Go Go.AL Go.Proofs
noncomputable section
end
end Go.Proofs.SYthnhleemkjpigaaGreatDoor

namespace Go.Proofs.SYthnhleemkjpigaaGreatDoor
open Go Go.AL Go.Proofs
noncomputable section
def keyOf (r : List G) : List G := [.i (gi r 0).int, .i (gi r 1).int, .s (gi r 2).str, .s (gi r 3).str, .i 0, .i 0, .s (⟨#[]⟩ : ByteArray), .s (⟨#[]⟩ : ByteArray)]
theorem key_ok (r : List G) : F_log_key [.l [r]] = some [.l [keyOf r]] := rfl
theorem cmpI_zero {a b : Int} : cmpI a b = 0 ↔ a = b := by
  unfold cmpI
  constructor
  · intro h
    split at h
    · omega
    · split at h <;> omega
  · rintro rfl
    simp
theorem cmpS_zero {a b : ByteArray} : cmpS a b = 0 ↔ a = b := by
  have h := str_eq a b
  constructor
  · intro e
    rw [decide_eq_true (p := cmpS a b = 0) e] at h
    exact bytes_eq h
  · rintro rfl
    have h2 : (a.toList == a.toList) = true := by simp
    rw [h2] at h
    exact of_decide_eq_true h.symm
theorem or4_zero {a b c d : Int} : or4 a b c d = 0 ↔ a = 0 ∧ b = 0 ∧ c = 0 ∧ d = 0 := by
  unfold or4
  constructor
  · intro h
    split at h
    · contradiction
    · split at h
      · contradiction
      · split at h
        · contradiction
        · omega
  · rintro ⟨rfl, rfl, rfl, rfl⟩
    simp
theorem ordC_key {r s : List G} : ordC r s = 0 ↔ keyOf r = keyOf s := by
  unfold ordC keyOf
  rw [or4_zero, cmpI_zero, cmpS_zero, cmpS_zero, cmpI_zero]
  simp only [List.cons.injEq, G.i.injEq, G.s.injEq, and_true]
  constructor
  · rintro ⟨h1, h2, h3, h4⟩
    exact ⟨h1, h4, h3, h2⟩
  · rintro ⟨h1, h2, h3, h4⟩
    exact ⟨h1, h4, h3, h2⟩
theorem keyEq {r s : List G} : rowEq KContact (keyOf r) (keyOf s) = true ↔ keyOf r = keyOf s := by
  constructor
  · intro h
    have h : (((gi r 0).int == (gi s 0).int) && (((gi r 1).int == (gi s 1).int) && (((gi r 2).str.toList == (gi s 2).str.toList) && (((gi r 3).str.toList == (gi s 3).str.toList) && true)))) = true := by
      have h : (((gi r 0).int == (gi s 0).int) && (((gi r 1).int == (gi s 1).int) && (((gi r 2).str.toList == (gi s 2).str.toList) && (((gi r 3).str.toList == (gi s 3).str.toList) && (((0 : Int) == 0) && (((0 : Int) == 0) && (((⟨#[]⟩ : ByteArray).toList == (⟨#[]⟩ : ByteArray).toList) && (((⟨#[]⟩ : ByteArray).toList == (⟨#[]⟩ : ByteArray).toList) && true)))))))) = true := h
      simpa using h
    simp only [Bool.and_eq_true, Bool.and_true, beq_iff_eq (α := Int)] at h
    obtain ⟨h1, h2, h3, h4⟩ := h
    unfold keyOf
    rw [h1, h2, bytes_eq h3, bytes_eq h4]
  · intro h
    rw [h]
    exact rowEq_refl KContact _ rfl
theorem keyEq_false {r s : List G} : rowEq KContact (keyOf r) (keyOf s) = false ↔ keyOf r ≠ keyOf s := by
  rw [Bool.eq_false_iff, Ne, keyEq]
def valOf' (e : List G) : List G := (gi e 1).row
structure MInv (m : List (List G)) (clock : Nat) (out : List (List G)) : Prop where
  form : ∀ e ∈ m, ∃ v n, e = [.l [keyOf v], .l [v], .i (n : Nat)] ∧ n < clock ∧ Con v
  born : (m.map bornG).Nodup
  vals : (m.map valOf').Perm out
  keys : out.Pairwise fun a b => keyOf a ≠ keyOf b
theorem MInv.nil : MInv [] 0 [] := ⟨by simp, by simp, List.Perm.nil, List.Pairwise.nil⟩
theorem MInv.con {m : List (List G)} {clock : Nat} {out : List (List G)} (h : MInv m clock out) : ∀ x ∈ out, Con x := by
  intro x hx
  obtain ⟨e, he, rfl⟩ := List.mem_map.1 (h.vals.symm.subset hx)
  obtain ⟨v, n, rfl, _, hv⟩ := h.form e he
  exact hv
theorem MInv.ok {m : List (List G)} {clock : Nat} {out : List (List G)} (h : MInv m clock out) : okSt m clock = true := by
  have nb : ∀ l : List Nat, l.Nodup → nodupB l = true := by
    intro l hl
    induction l with
    | nil => rfl
    | cons a l ih =>
      obtain ⟨h1, h2⟩ := List.nodup_cons.1 hl
      simp only [nodupB, ih h2, Bool.and_true, Bool.not_eq_true']
      cases hc : l.any (Nat.beq a) with
      | false => rfl
      | true =>
        obtain ⟨x, hx, e⟩ := List.any_eq_true.1 hc
        rw [Nat.eq_of_beq_eq_true e] at h1
        exact (h1 hx).elim
  simp only [okSt, nb _ h.born, Bool.true_and, List.all_eq_true, Nat.blt_eq]
  intro e he
  obtain ⟨v, n, rfl, hn, _⟩ := h.form e he
  exact hn
theorem MInv.once {m : List (List G)} {clock : Nat} {out : List (List G)} (h : MInv m clock out) : (m.map valOf').Pairwise fun a b => keyOf a ≠ keyOf b :=
  (h.vals.pairwise_iff (fun h => Ne.symm h)).2 h.keys
theorem has_iff : ∀ {m : List (List G)} {k : List G}, (∀ e ∈ m, ∃ v n, e = [.l [keyOf v], .l [v], .i (n : Nat)]) → (mhas KContact m (keyOf k) = true ↔ ∃ v ∈ m.map valOf', keyOf v = keyOf k)
  | [], k, _ => by simp [mhas_nil]
  | e :: m, k, h => by
    obtain ⟨v, n, rfl⟩ := h e List.mem_cons_self
    rw [mhas_cons, Bool.or_eq_true, has_iff (fun e he => h e (List.mem_cons_of_mem _ he))]
    have e1 : rowEq KContact (keyOf k) (gi [G.l [keyOf v], .l [v], .i (n : Nat)] 0).row = rowEq KContact (keyOf k) (keyOf v) := rfl
    rw [e1, keyEq]
    constructor
    · rintro (h | ⟨w, hw, e⟩)
      · exact ⟨v, by simp [valOf', gi, G.row, G.rows], h.symm⟩
      · exact ⟨w, by simp at hw ⊢; exact .inr hw, e⟩
    · rintro ⟨w, hw, e⟩
      simp only [List.map_cons, List.mem_cons] at hw
      rcases hw with rfl | hw
      · exact .inl e.symm
      · exact .inr ⟨w, hw, e⟩
theorem get_of : ∀ {m : List (List G)} {k v z : List G}, (∀ e ∈ m, ∃ v n, e = [.l [keyOf v], .l [v], .i (n : Nat)]) → (m.map valOf').Pairwise (fun a b => keyOf a ≠ keyOf b) → v ∈ m.map valOf' → keyOf v = keyOf k → mget KContact m (keyOf k) z = v
  | [], _, _, _, _, _, hv, _ => by simp at hv
  | e :: m, k, v, z, h, hp, hv, hk => by
    obtain ⟨w, n, rfl⟩ := h e List.mem_cons_self
    rw [mget_cons]
    have e1 : rowEq KContact (keyOf k) (gi [G.l [keyOf w], .l [w], .i (n : Nat)] 0).row = rowEq KContact (keyOf k) (keyOf w) := rfl
    rw [e1]
    simp only [List.map_cons, List.mem_cons] at hv
    obtain ⟨h1, h2⟩ := List.pairwise_cons.1 hp
    by_cases hw : keyOf k = keyOf w
    · rw [keyEq.2 hw, cond_true]
      rcases hv with rfl | hv
      · rfl
      · exact (h1 v hv (by
          show keyOf w = keyOf v
          rw [← hw, hk])).elim
    · rw [keyEq_false.2 hw, cond_false]
      rcases hv with rfl | hv
      · exact (hw hk.symm).elim
      · exact get_of (fun e he => h e (List.mem_cons_of_mem _ he)) h2 hv hk
end
end Go.Proofs.SYthnhleemkjpigaaGreatDoor

namespace Go.Proofs.SYthnhleemkjpigaaGreatDoor
open Go Go.AL Go.Proofs
noncomputable section
theorem none_of {m : List (List G)} {k : List G} (h : mhas KContact m k = false) : mfind KContact k m 0 = none := by
  unfold mhas at h
  cases hf : mfind KContact k m 0 with
  | none => rfl
  | some p => rw [hf] at h; cases h
theorem MInv.put {m : List (List G)} {clock : Nat} {out : List (List G)} (h : MInv m clock out) {x : List G} (hx : Con x) (hn : ∀ y ∈ out, keyOf y ≠ keyOf x) :
    mput KContact m (keyOf x) x clock = m ++ [[.l [keyOf x], .l [x], .i (clock : Nat)]] ∧ mclk KContact m (keyOf x) clock = clock + 1 ∧ MInv (m ++ [[.l [keyOf x], .l [x], .i (clock : Nat)]]) (clock + 1) (out ++ [x]) := by
  have hf : ∀ e ∈ m, ∃ v n, e = [.l [keyOf v], .l [v], .i ((n : Nat) : Int)] := fun e he => let ⟨v, n, e1, _⟩ := h.form e he; ⟨v, n, e1⟩
  have hh : mhas KContact m (keyOf x) = false := by
    cases hc : mhas KContact m (keyOf x) with
    | false => rfl
    | true =>
      obtain ⟨v, hv, e⟩ := (has_iff hf).1 hc
      exact (hn v (h.vals.subset hv) e).elim
  refine ⟨by unfold mput; rw [none_of hh], by unfold mclk; rw [hh]; rfl, ?_⟩
  refine ⟨fun e he => ?_, ?_, ?_, ?_⟩
  · rcases List.mem_append.1 he with he | he
    · obtain ⟨v, n, e1, h1, h2⟩ := h.form e he
      exact ⟨v, n, e1, by omega, h2⟩
    · simp at he
      exact ⟨x, clock, he, by omega, hx⟩
  · rw [List.map_append]
    refine List.nodup_append.2 ⟨h.born, by simp, fun a ha b hb => ?_⟩
    obtain ⟨e, he, rfl⟩ := List.mem_map.1 ha
    obtain ⟨v, n, rfl, h1, _⟩ := h.form e he
    simp [bornG, gi, G.int] at hb ⊢
    omega
  · rw [List.map_append]
    exact List.Perm.append h.vals (List.Perm.refl _)
  · refine List.pairwise_append.2 ⟨h.keys, by simp, fun a ha b hb => ?_⟩
    simp at hb
    exact hb ▸ hn a ha
theorem mdel_cons (r : List G) (rs : List (List G)) (k : List G) : mdel KContact (r :: rs) k = bif rowEq KContact k (gi r 0).row then rs else r :: mdel KContact rs k := by
  unfold mdel
  simp only [mfind]
  cases rowEq KContact k (gi r 0).row with
  | true => rfl
  | false =>
    simp only [cond_false]
    rw [mfind_shift KContact k rs (0 + 1)]
    cases mfind KContact k rs 0 <;> rfl
theorem del_filter : ∀ {m : List (List G)} {k : List G}, (∀ e ∈ m, ∃ v n, e = [.l [keyOf v], .l [v], .i ((n : Nat) : Int)]) → (m.map valOf').Pairwise (fun a b => keyOf a ≠ keyOf b) →
    mdel KContact m (keyOf k) = m.filter fun e => !rowEq KContact (keyOf k) (keyOf (valOf' e))
  | [], _, _, _ => rfl
  | e :: m, k, h, hp => by
    obtain ⟨w, n, rfl⟩ := h e List.mem_cons_self
    obtain ⟨h1, h2⟩ := List.pairwise_cons.1 hp
    rw [mdel_cons]
    have e1 : rowEq KContact (keyOf k) (gi [G.l [keyOf w], .l [w], .i ((n : Nat) : Int)] 0).row = rowEq KContact (keyOf k) (keyOf w) := rfl
    have e2 : valOf' [G.l [keyOf w], .l [w], .i ((n : Nat) : Int)] = w := rfl
    rw [e1, List.filter_cons, e2]
    by_cases hw : keyOf k = keyOf w
    · rw [keyEq.2 hw]
      simp only [cond_true, Bool.not_true, Bool.false_eq_true, if_false]
      symm
      rw [List.filter_eq_self]
      intro e he
      rw [keyEq_false.2 (fun h3 => h1 (valOf' e) (List.mem_map.2 ⟨e, he, rfl⟩) (by rw [e2, ← hw, h3]))]
      rfl
    · rw [keyEq_false.2 hw]
      simp only [cond_false, Bool.not_false, if_true]
      rw [del_filter (fun e he => h e (List.mem_cons_of_mem _ he)) h2]
theorem MInv.del {m : List (List G)} {clock : Nat} {out : List (List G)} (h : MInv m clock out) (k : List G) :
    MInv (mdel KContact m (keyOf k)) clock (out.filter fun y => !rowEq KContact (keyOf k) (keyOf y)) := by
  have hf : ∀ e ∈ m, ∃ v n, e = [.l [keyOf v], .l [v], .i ((n : Nat) : Int)] := fun e he => let ⟨v, n, e1, _⟩ := h.form e he; ⟨v, n, e1⟩
  rw [del_filter hf h.once]
  refine ⟨fun e he => h.form e (List.mem_filter.1 he).1, ?_, ?_, h.keys.sublist List.filter_sublist⟩
  · exact h.born.sublist (List.filter_sublist.map _)
  · have e : (m.filter fun e => !rowEq KContact (keyOf k) (keyOf (valOf' e))).map valOf' = (m.map valOf').filter fun y => !rowEq KContact (keyOf k) (keyOf y) := by
      rw [List.filter_map]
      rfl
    rw [e]
    exact h.vals.filter _
end
end Go.Proofs.SYthnhleemkjpigaaGreatDoor

namespace Go.Proofs.SYthnhleemkjpigaaGreatDoor
open Go Go.AL Go.Proofs
noncomputable section
def changeM (mp : List (List G)) (clock : Nat) (k : Int) (w s : List G) : List G :=
  bif !(k == 1) && (!mhas KContact mp (keyOf w) || !rowEq KContact (gEta KContact (mget KContact mp (keyOf w) zC)) w) then [.l mp, .i (clock : Nat), .t false]
  else bif !(k == 2) && (mhas KContact mp (keyOf s) && ((k == 1) || !rowEq KContact (keyOf s) (keyOf w))) then [.l mp, .i (clock : Nat), .t false]
  else bif !(k == 2) then [.l (mput KContact (bif !(k == 1) then mdel KContact mp (keyOf w) else mp) (keyOf s) s clock), .i ((mclk KContact (bif !(k == 1) then mdel KContact mp (keyOf w) else mp) (keyOf s) clock : Nat) : Int), .t true]
  else [.l (bif !(k == 1) then mdel KContact mp (keyOf w) else mp), .i (clock : Nat), .t true]
theorem change_eq (mp : List (List G)) (clock : Nat) (n k : Int) (t m : Int) (b c : ByteArray) (sn hd : Int) (x y : ByteArray) (t2 m2 : Int) (b2 c2 : ByteArray) (sn2 hd2 : Int) (x2 y2 : ByteArray) :
    F_log_change [.l mp, .i (clock : Nat), .l [[.i n, .i k, .i t, .i m, .s b, .s c, .i sn, .i hd, .s x, .s y, .i t2, .i m2, .s b2, .s c2, .i sn2, .i hd2, .s x2, .s y2]]] = some (changeM mp clock k [.i t, .i m, .s b, .s c, .i sn, .i hd, .s x, .s y] [.i t2, .i m2, .s b2, .s c2, .i sn2, .i hd2, .s x2, .s y2]) := by
  have e1 : gEta KContact (keyOf [.i t, .i m, .s b, .s c, .i sn, .i hd, .s x, .s y]) = keyOf [.i t, .i m, .s b, .s c, .i sn, .i hd, .s x, .s y] := rfl
  have e2 : gEta KContact (keyOf [.i t2, .i m2, .s b2, .s c2, .i sn2, .i hd2, .s x2, .s y2]) = keyOf [.i t2, .i m2, .s b2, .s c2, .i sn2, .i hd2, .s x2, .s y2] := rfl
  unfold F_log_change changeM
  (dsimp +instances only [gi0,gis,row1,rows1,int1,str1,bool1])
  rw [callF_some (key_ok [.i t, .i m, .s b, .s c, .i sn, .i hd, .s x, .s y])]
  (dsimp +instances only [gi0,gis,row1,rows1,int1,str1,bool1])
  rw [callF_some (key_ok [.i t2, .i m2, .s b2, .s c2, .i sn2, .i hd2, .s x2, .s y2])]
  (dsimp +instances only [gi0,gis,row1,rows1,int1,str1,bool1])
  simp only [e1, e2, Int.toNat_natCast, bne]
  unfold zC
  generalize mhas KContact mp (keyOf [.i t2, .i m2, .s b2, .s c2, .i sn2, .i hd2, .s x2, .s y2]) = hs
  generalize mhas KContact mp (keyOf [.i t, .i m, .s b, .s c, .i sn, .i hd, .s x, .s y]) = hw
  generalize rowEq KContact (gEta KContact _) [.i t, .i m, .s b, .s c, .i sn, .i hd, .s x, .s y] = rw
  generalize rowEq KContact (keyOf [.i t2, .i m2, .s b2, .s c2, .i sn2, .i hd2, .s x2, .s y2]) (keyOf [.i t, .i m, .s b, .s c, .i sn, .i hd, .s x, .s y]) = rk
  cases (k == 1) <;> cases (k == 2) <;> cases hs <;> cases hw <;> cases rw <;> cases rk <;> rfl
end
end Go.Proofs.SYthnhleemkjpigaaGreatDoor

namespace Go.Proofs.SYthnhleemkjpigaaGreatDoor
open Go Go.AL Go.Proofs
noncomputable section
def leftOf' (out : List (List G)) (k : Int) (w : List G) : List (List G) := out.filter fun o => !(!(k == 1) && rowEq KContact o w)
def refStep (out : List (List G)) (k : Int) (w s : List G) : Option (List (List G)) :=
  bif (!(k == 1) && Nat.beq (leftOf' out k w).length out.length) || (leftOf' out k w).any (fun o => !(k == 2) && (ordC o s == 0)) then none else some (bif !(k == 2) then leftOf' out k w ++ [s] else leftOf' out k w)
theorem one_key {out : List (List G)} (h : out.Pairwise fun a b => keyOf a ≠ keyOf b) {x y : List G} (hx : x ∈ out) (hy : y ∈ out) (e : keyOf x = keyOf y) : x = y := by
  induction out with
  | nil => cases hx
  | cons a l ih =>
    obtain ⟨h1, h2⟩ := List.pairwise_cons.1 h
    rcases List.mem_cons.1 hx with ex | hx' <;> rcases List.mem_cons.1 hy with ey | hy'
    · rw [ex, ey]
    · subst ex
      exact (h1 y hy' e).elim
    · subst ey
      exact (h1 x hx' e.symm).elim
    · exact ih h2 hx' hy'
theorem con_self (r : List G) : rowEq KContact r r = true := rowEq_refl KContact r rfl
theorem MInv.has {m : List (List G)} {clock : Nat} {out : List (List G)} (h : MInv m clock out) (k : List G) : mhas KContact m (keyOf k) = true ↔ ∃ v ∈ out, keyOf v = keyOf k := by
  have hf : ∀ e ∈ m, ∃ v n, e = [.l [keyOf v], .l [v], .i ((n : Nat) : Int)] := fun e he => let ⟨v, n, e1, _⟩ := h.form e he; ⟨v, n, e1⟩
  rw [has_iff hf]
  constructor
  · rintro ⟨v, hv, e⟩
    exact ⟨v, h.vals.subset hv, e⟩
  · rintro ⟨v, hv, e⟩
    exact ⟨v, h.vals.symm.subset hv, e⟩
theorem MInv.found {m : List (List G)} {clock : Nat} {out : List (List G)} (h : MInv m clock out) {w : List G} (hw : Con w) :
    (!mhas KContact m (keyOf w) || !rowEq KContact (gEta KContact (mget KContact m (keyOf w) zC)) w) = true ↔ w ∉ out := by
  have hf : ∀ e ∈ m, ∃ v n, e = [.l [keyOf v], .l [v], .i ((n : Nat) : Int)] := fun e he => let ⟨v, n, e1, _⟩ := h.form e he; ⟨v, n, e1⟩
  constructor
  · intro hc hin
    have h1 : mhas KContact m (keyOf w) = true := (h.has w).2 ⟨w, hin, rfl⟩
    have h2 : mget KContact m (keyOf w) zC = w := get_of hf h.once (h.vals.symm.subset hin) rfl
    rw [h1, h2, hw.eta, con_self] at hc
    cases hc
  · intro hn
    cases h1 : mhas KContact m (keyOf w) with
    | false => rfl
    | true =>
      obtain ⟨v, hv, e⟩ := (h.has w).1 h1
      have h2 : mget KContact m (keyOf w) zC = v := get_of hf h.once (h.vals.symm.subset hv) e
      rw [h2, (h.con v hv).eta]
      cases h3 : rowEq KContact v w with
      | false => rfl
      | true => exact (hn (rowEq_con (h.con v hv) hw h3 ▸ hv)).elim
theorem any_key {l : List (List G)} {s : List G} : (l.any fun o => ordC o s == 0) = true ↔ ∃ o ∈ l, keyOf o = keyOf s := by
  rw [List.any_eq_true]
  constructor
  · rintro ⟨o, ho, e⟩
    exact ⟨o, ho, ordC_key.1 (by simpa using e)⟩
  · rintro ⟨o, ho, e⟩
    exact ⟨o, ho, by simpa using ordC_key.2 e⟩
theorem left_all (out : List (List G)) (w : List G) {k : Int} (hk : (k == 1) = true) : leftOf' out k w = out := by
  unfold leftOf'
  rw [hk]
  exact List.filter_eq_self.2 fun _ _ => rfl
theorem left_len {m : List (List G)} {clock : Nat} {out : List (List G)} (h : MInv m clock out) {w : List G} (hw : Con w) {k : Int} (hk : (k == 1) = false) : Nat.beq (leftOf' out k w).length out.length = true ↔ w ∉ out := by
  rw [nbeq_iff]
  unfold leftOf'
  rw [hk, List.length_filter_eq_length_iff]
  constructor
  · intro ha hin
    have := ha w hin
    rw [con_self] at this
    cases this
  · intro hn o ho
    cases h3 : rowEq KContact o w with
    | false => rfl
    | true => exact (hn (rowEq_con (h.con o ho) hw h3 ▸ ho)).elim
theorem left_key {m : List (List G)} {clock : Nat} {out : List (List G)} (h : MInv m clock out) {w : List G} (hw : Con w) (hin : w ∈ out) {k : Int} (hk : (k == 1) = false) :
    leftOf' out k w = out.filter fun y => !rowEq KContact (keyOf w) (keyOf y) := by
  unfold leftOf'
  rw [hk]
  refine List.filter_congr fun y hy => ?_
  show (!rowEq KContact y w) = _
  by_cases e : keyOf w = keyOf y
  · have := one_key h.keys hin hy e
    subst this
    rw [con_self, con_self]
  · rw [keyEq_false.2 e]
    cases h3 : rowEq KContact y w with
    | false => rfl
    | true => exact (e (by rw [rowEq_con (h.con y hy) hw h3])).elim
theorem step_agree {mp : List (List G)} {clock : Nat} {out : List (List G)} (h : MInv mp clock out) {k : Int} {w s : List G} (hw : Con w) (hs : Con s) :
    (refStep out k w s = none ∧ changeM mp clock k w s = [.l mp, .i (clock : Nat), .t false]) ∨
      ∃ out' mp' clock', refStep out k w s = some out' ∧ changeM mp clock k w s = [.l mp', .i ((clock' : Nat) : Int), .t true] ∧ MInv mp' clock' out' := by
  have hS := h.has s
  cases h1 : (k == 1) with
  | true =>
    have h2 : (k == 2) = false := by
      have : k = 1 := by simpa using h1
      subst this
      rfl
    have hl := left_all out w h1
    unfold refStep changeM
    rw [hl, h1, h2]
    simp only [Bool.not_true, Bool.not_false, Bool.false_and, Bool.true_and, Bool.false_or, Bool.true_or, Bool.and_true, cond_false, cond_true]
    cases hm : mhas KContact mp (keyOf s) with
    | true =>
      left
      have ha := any_key.2 (hS.1 hm)
      rw [ha]
      exact ⟨rfl, rfl⟩
    | false =>
      right
      have ha : (out.any fun o => ordC o s == 0) = false := Bool.eq_false_iff.2 fun hc => by
        rw [hS.2 (any_key.1 hc)] at hm
        cases hm
      rw [ha]
      obtain ⟨p1, p2, p3⟩ := h.put hs (fun y hy e => by
        rw [hS.2 ⟨y, hy, e⟩] at hm
        cases hm)
      exact ⟨_, _, _, rfl, by rw [p1, p2]; rfl, p3⟩
  | false =>
    by_cases hin : w ∈ out
    · have hf : (!mhas KContact mp (keyOf w) || !rowEq KContact (gEta KContact (mget KContact mp (keyOf w) zC)) w) = false := Bool.eq_false_iff.2 fun hc => (h.found hw).1 hc hin
      have hlen : Nat.beq (leftOf' out k w).length out.length = false := Bool.eq_false_iff.2 fun hc => (left_len h hw h1).1 hc hin
      have hl := left_key h hw hin h1
      have hd := h.del w
      rw [← hl] at hd
      unfold refStep changeM
      rw [hf, hlen, h1]
      simp only [Bool.not_false, Bool.and_false, Bool.true_and, Bool.false_or, cond_false, cond_true]
      cases h2 : (k == 2) with
      | true =>
        right
        have ha : ((leftOf' out k w).any fun o => !true && (ordC o s == 0)) = false := by
          rw [List.any_eq_false]
          intro x _
          simp
        rw [ha]
        exact ⟨_, _, _, rfl, rfl, hd⟩
      | false =>
        simp only [Bool.not_false, Bool.true_and, cond_true]
        by_cases hth : ∃ o ∈ leftOf' out k w, keyOf o = keyOf s
        · left
          rw [any_key.2 hth]
          obtain ⟨o, ho, e⟩ := hth
          rw [hl] at ho
          obtain ⟨ho1, ho2⟩ := List.mem_filter.1 ho
          have hm : mhas KContact mp (keyOf s) = true := hS.2 ⟨o, ho1, e⟩
          have hne : rowEq KContact (keyOf s) (keyOf w) = false := keyEq_false.2 fun e2 => by
            rw [keyEq.2 (e2.symm.trans e.symm)] at ho2
            cases ho2
          rw [hm, hne]
          exact ⟨rfl, rfl⟩
        · right
          have ha : ((leftOf' out k w).any fun o => ordC o s == 0) = false := Bool.eq_false_iff.2 fun hc => hth (any_key.1 hc)
          have hno : (mhas KContact mp (keyOf s) && !rowEq KContact (keyOf s) (keyOf w)) = false := by
            cases hm : mhas KContact mp (keyOf s) with
            | false => rfl
            | true =>
              cases hk : rowEq KContact (keyOf s) (keyOf w) with
              | true => rfl
              | false =>
                obtain ⟨v, hv, e⟩ := hS.1 hm
                refine (hth ⟨v, ?_, e⟩).elim
                rw [hl]
                refine List.mem_filter.2 ⟨hv, ?_⟩
                rw [keyEq_false.2 (fun e2 => keyEq_false.1 hk (by rw [← e, ← e2]))]
                rfl
          rw [ha, hno]
          obtain ⟨p1, p2, p3⟩ := hd.put hs (fun y hy e => hth ⟨y, hy, e⟩)
          exact ⟨_, _, _, rfl, by rw [p1, p2]; rfl, p3⟩
    · left
      have hf := (h.found hw).2 hin
      have hlen := (left_len h hw h1).2 hin
      unfold refStep changeM
      rw [hf, hlen, h1]
      exact ⟨rfl, rfl⟩
end
end Go.Proofs.SYthnhleemkjpigaaGreatDoor

namespace Go.Proofs.SYthnhleemkjpigaaGreatDoor
open Go Go.AL Go.Proofs
noncomputable section
theorem bytes_flip : ∀ a b : List UInt8, Lib.compareBytes b a = - Lib.compareBytes a b
  | [], [] => rfl
  | [], _ :: _ => rfl
  | _ :: _, [] => rfl
  | a :: xs, b :: ys => by
    simp only [Lib.compareBytes]
    have ih := bytes_flip xs ys
    by_cases h1 : a < b
    · have h2 : ¬ b < a := fun h => UInt8.lt_irrefl a (UInt8.lt_trans h1 h)
      simp [h1, h2]
    · by_cases h2 : b < a
      · simp [h1, h2]
      · simp [h1, h2, ih]
theorem bytes_lt_trans : ∀ {a b c : List UInt8}, Lib.compareBytes a b < 0 → Lib.compareBytes b c < 0 → Lib.compareBytes a c < 0
  | [], [], _, h, _ => by simp [Lib.compareBytes] at h
  | [], _ :: _, [], _, h => by simp [Lib.compareBytes] at h
  | [], _ :: _, _ :: _, _, _ => by simp [Lib.compareBytes]
  | _ :: _, [], _, h, _ => by simp [Lib.compareBytes] at h
  | _ :: _, _ :: _, [], _, h => by simp [Lib.compareBytes] at h
  | a :: xs, b :: ys, c :: zs, h1, h2 => by
    simp only [Lib.compareBytes] at h1 h2 ⊢
    by_cases hab : a < b
    · by_cases hbc : b < c
      · rw [if_pos (UInt8.lt_trans hab hbc)]
        omega
      · by_cases hcb : c < b
        · rw [if_neg hbc, if_pos hcb] at h2
          omega
        · have e : b = c := UInt8.le_antisymm (UInt8.not_lt.1 hcb) (UInt8.not_lt.1 hbc)
          subst e
          rw [if_pos hab]
          omega
    · by_cases hba : b < a
      · rw [if_neg hab, if_pos hba] at h1
        omega
      · have e : a = b := UInt8.le_antisymm (UInt8.not_lt.1 hba) (UInt8.not_lt.1 hab)
        subst e
        rw [if_neg (UInt8.lt_irrefl a), if_neg (UInt8.lt_irrefl a)] at h1
        by_cases hac : a < c
        · rw [if_pos hac]
          omega
        · by_cases hca : c < a
          · rw [if_neg hac, if_pos hca] at h2
            omega
          · rw [if_neg hac, if_neg hca] at h2 ⊢
            exact bytes_lt_trans h1 h2
structure Sgn {α : Type} (c : α → α → Int) : Prop where
  flip : ∀ a b, c b a = - c a b
  eq : ∀ a b, c a b = 0 → a = b
  tr : ∀ a b d, c a b < 0 → c b d < 0 → c a d < 0
theorem sgnI : Sgn cmpI := ⟨fun a b => by unfold cmpI; split <;> split <;> first | omega | (split <;> omega) | skip, fun a b h => cmpI_zero.1 h, fun a b d h1 h2 => by
  have g1 : a < b := by
    unfold cmpI at h1
    split at h1
    · assumption
    · split at h1 <;> omega
  have g2 : b < d := by
    unfold cmpI at h2
    split at h2
    · assumption
    · split at h2 <;> omega
  unfold cmpI
  rw [if_pos (by omega)]
  omega⟩
theorem sgnS : Sgn cmpS := ⟨fun a b => bytes_flip _ _, fun a b h => cmpS_zero.1 h, fun a b d h1 h2 => bytes_lt_trans h1 h2⟩
theorem ordC_flip (r s : List G) : ordC s r = - ordC r s := by
  unfold ordC or4
  rw [sgnI.flip (gi r 0).int, sgnS.flip (gi r 3).str, sgnS.flip (gi r 2).str, sgnI.flip (gi r 1).int]
  simp only [ne_eq, Int.neg_eq_zero]
  repeat' split
  all_goals rfl
theorem ordC_trans {r s u : List G} (h1 : ordC r s < 0) (h2 : ordC s u < 0) : ordC r u < 0 := by
  have step : ∀ {α : Type} {c : α → α → Int} (_ : Sgn c) (a b d : α) (x y z : Int), (if c a b ≠ 0 then c a b else x) < 0 → (if c b d ≠ 0 then c b d else y) < 0 → (x < 0 → y < 0 → z < 0) → (if c a d ≠ 0 then c a d else z) < 0 := by
    intro α c hc a b d x y z g1 g2 g3
    by_cases e1 : c a b = 0
    · have := hc.eq a b e1
      subst this
      rw [if_neg (by simpa using e1)] at g1
      by_cases e2 : c a d = 0
      · rw [if_neg (by simpa using e2)] at g2 ⊢
        exact g3 g1 g2
      · rw [if_pos e2] at g2 ⊢
        exact g2
    · rw [if_pos e1] at g1
      by_cases e2 : c b d = 0
      · have := hc.eq b d e2
        subst this
        rw [if_pos (by omega)]
        exact g1
      · rw [if_pos e2] at g2
        have := hc.tr a b d g1 g2
        rw [if_pos (by omega)]
        exact this
  unfold ordC or4 at *
  refine step sgnI _ _ _ _ _ _ h1 h2 (fun a1 a2 => ?_)
  refine step sgnS _ _ _ _ _ _ a1 a2 (fun b1 b2 => ?_)
  refine step sgnS _ _ _ _ _ _ b1 b2 (fun c1 c2 => ?_)
  exact sgnI.tr _ _ _ c1 c2
theorem linC : Lin (ltC ordC) (fun _ => True) := by
  have lt_iff : ∀ r s : List G, ltC ordC r s = decide (ordC r s < 0) := fun r s => by unfold ltC; rw [ltI_eq]
  refine ⟨fun a b c _ _ _ h1 h2 => ?_, fun a b _ _ h => ?_⟩
  · rw [lt_iff, decide_eq_false_iff_not] at *
    intro h3
    -- a not below b, b not below c, a below c
    have f1 := ordC_flip a b
    have f2 := ordC_flip b c
    by_cases e1 : ordC a b = 0
    · have k := ordC_key.1 e1
      have : ordC b c < 0 := by
        have e : ordC a c = ordC b c := by
          unfold keyOf at k
          simp only [List.cons.injEq, G.i.injEq, G.s.injEq, and_true] at k
          obtain ⟨k1, k2, k3, k4⟩ := k
          unfold ordC
          rw [k1, k2, k3, k4]
        rw [← e]
        exact h3
      omega
    · have : ordC b a < 0 := by omega
      have := ordC_trans this h3
      omega
  · rw [lt_iff, decide_eq_true_eq] at h
    rw [lt_iff, decide_eq_false_iff_not]
    have := ordC_flip a b
    omega
end
end Go.Proofs.SYthnhleemkjpigaaGreatDoor

namespace Go.Proofs.SYthnhleemkjpigaaGreatDoor
open Go Go.AL Go.Proofs
noncomputable section
theorem faultL_rising : ∀ {l : List (List G)} {y : List G}, faultL (some y) l = 0 → (y :: l).Pairwise fun a b => ordC a b < 0
  | [], y, _ => by simp
  | x :: q, y, h => by
    simp only [faultL] at h
    split at h
    · contradiction
    · split at h
      · cases h
      · rename_i h0
        have ih := faultL_rising h
        have hyx : ordC y x < 0 := by omega
        refine List.pairwise_cons.2 ⟨fun z hz => ?_, ih⟩
        rcases List.mem_cons.1 hz with rfl | hz
        · exact hyx
        · exact ordC_trans hyx ((List.pairwise_cons.1 ih).1 z hz)
theorem log_rising {l : List (List G)} (h : faultLog l = 0) : l.Pairwise fun a b => ordC a b < 0 := by
  unfold faultLog at h
  split at h
  · cases h
  · cases l with
    | nil => exact List.Pairwise.nil
    | cons x q =>
      simp only [faultL] at h
      split at h
      · contradiction
      · exact faultL_rising h
theorem log_keys {l : List (List G)} (h : faultLog l = 0) : l.Pairwise fun a b => keyOf a ≠ keyOf b :=
  List.Pairwise.imp (fun {a b} h e => by
    have := ordC_key.2 e
    omega) (log_rising h)
theorem build_runs (ch : List (List G)) : ∀ (q p m : List (List G)) (clock : Nat), (∀ z ∈ p ++ q, Con z) → ((p ++ q).Pairwise fun a b => keyOf a ≠ keyOf b) → MInv m clock p → p.length + q.length < 100000 →
    RetN st_log_Changed_9 [.l m, .i (clock : Nat), .l ch, .l (p ++ q), .i ((p.length + q.length : Nat) : Int), .i (p.length : Int)] (q.length + 1) fun c g => c = 0 ∧ ∃ m' clock', g = [.l m', .i ((clock' : Nat) : Int), .l ch] ∧ MInv m' clock' (p ++ q)
  | [], p, m, clock, hc, hk, hm, hl => by
    refine RetN.stop (x := 0) (d' := [.l m, .i (clock : Nat), .l ch]) (Ret.toEq ?_) ⟨rfl, m, clock, rfl, by simpa using hm⟩
    unfold st_log_Changed_9
    (dsimp +instances only [gi0,gis,row1,rows1,int1,str1,bool1])
    refine Ret.neg (by simp [ltI_eq]) (Ret.some ?_)
    simp
  | x :: q, p, m, clock, hc, hk, hm, hl => by
    have hx : Con x := hc x (by simp)
    have hn : ∀ y ∈ p, keyOf y ≠ keyOf x := fun y hy => (List.pairwise_append.1 hk).2.2 y hy x List.mem_cons_self
    obtain ⟨p1, p2, p3⟩ := hm.put hx hn
    have e : p ++ x :: q = (p ++ [x]) ++ q := by simp
    simp only [List.length_cons] at hl
    have step : st_log_Changed_9 [.l m, .i (clock : Nat), .l ch, .l (p ++ x :: q), .i ((p.length + (x :: q).length : Nat) : Int), .i (p.length : Int)] =
        some (none, [.l (m ++ [[.l [keyOf x], .l [x], .i (clock : Nat)]]), .i ((clock + 1 : Nat) : Int), .l ch, .l (p ++ x :: q), .i ((p.length + (x :: q).length : Nat) : Int), .i ((p.length : Int) + 1)]) := by
      refine Ret.toEq ?_
      unfold st_log_Changed_9
      (dsimp +instances only [gi0,gis,row1,rows1,int1,str1,bool1])
      have t : ((p.length : Int)).toNat = p.length := by simp
      have hlen : (p ++ x :: q).length = p.length + (q.length + 1) := by simp
      simp only [t, getD_at, hx.eta, hlen, List.length_cons]
      refine Ret.pos (by (first|rfl|assumption|(simp only [inI,sl]<;>omega))) (Ret.pos (by (first|rfl|assumption|(simp only [inI,sl]<;>omega))) ?_)
      refine Ret.call (Ret.eq (key_ok x)) ?_
      rintro _ rfl
      (dsimp +instances only [gi0,gis,row1,rows1,int1,str1,bool1])
      have e1 : gEta KContact (keyOf x) = keyOf x := rfl
      simp only [e1, Int.toNat_natCast, p1, p2]
      exact Ret.pos (by (first|rfl|assumption|(simp only [inI,sl]<;>omega))) (Ret.some rfl)
    have ih := build_runs ch q (p ++ [x]) _ (clock + 1) (by rw [← e]; exact hc) (by rw [← e]; exact hk) p3 (by simp; omega)
    rw [← e] at ih
    have e2 : (((p ++ [x]).length + q.length : Nat) : Int) = ((p.length + (x :: q).length : Nat) : Int) := by simp; omega
    have e3 : ((p ++ [x]).length : Int) = (p.length : Int) + 1 := by simp
    rw [e2, e3] at ih
    exact RetN.next step ih
end
end Go.Proofs.SYthnhleemkjpigaaGreatDoor

namespace Go.Proofs.SYthnhleemkjpigaaGreatDoor
open Go Go.AL Go.Proofs
noncomputable section
theorem right_runs (l : List (List G)) (n : Int) (h0 : 0 ≤ n) (h1 : n ≤ 20) : ∀ (k i : Nat) (a : Int), i + k = 5 → 0 ≤ a → a ≤ 1000 + 420 * (i : Int) →
    RetN st_pilemake_Stream_RightContacts_2 [.l l, .i a, .i n, .i (i : Int)] (k + 1) fun c g => (c = 0 ∧ ∃ b rows, g = [.l l, .i b, .l rows] ∧ 0 ≤ b ∧ b ≤ 10000 ∧ (∀ z ∈ rows, ConT z) ∧ (rows.length : Int) ≤ n ∧ faultLog rows = 0) ∨ (c = 1 ∧ ∃ b, g = [.l l, .i b] ∧ 0 ≤ b ∧ b ≤ 10000)
  | 0, i, a, hi, ha, ha1 => by
    refine RetN.stop (x := 1) (Ret.toEq ?_) (.inr ⟨rfl, a, rfl, ha, by omega⟩)
    unfold st_pilemake_Stream_RightContacts_2
    (dsimp +instances only [gi0,gis,row1,rows1,int1,str1,bool1])
    (repeat(first|(refine Ret.pos ?_ ?_;(first|rfl|assumption|(simp only [inI,sl]<;>omega)))|(refine Ret.neg ?_ ?_;(first|rfl|assumption|(simp only [inI,sl]<;>omega)))))
    exact Ret.some rfl
  | k + 1, i, a, hi, ha, ha1 => by
    have key : Ret (st_pilemake_Stream_RightContacts_2 [.l l, .i a, .i n, .i (i : Int)]) fun o => (∃ b rows, o = (some 0, [.l l, .i b, .l rows]) ∧ 0 ≤ b ∧ b ≤ 10000 ∧ (∀ z ∈ rows, ConT z) ∧ (rows.length : Int) ≤ n ∧ faultLog rows = 0) ∨
        ∃ b, o = (none, [.l l, .i b, .i n, .i ((i + 1 : Nat) : Int)]) ∧ a ≤ b ∧ b ≤ a + 420 := by
      unfold st_pilemake_Stream_RightContacts_2
      (dsimp +instances only [gi0,gis,row1,rows1,int1,str1,bool1])
      (repeat(first|(refine Ret.pos ?_ ?_;(first|rfl|assumption|(simp only [inI,sl]<;>omega)))|(refine Ret.neg ?_ ?_;(first|rfl|assumption|(simp only [inI,sl]<;>omega)))))
      refine Ret.call (r_Contacts l a n ha (by omega) h0 h1) ?_
      rintro _ ⟨b, rows, rfl, g1, g2, g3, g4⟩
      (dsimp +instances only [gi0,gis,row1,rows1,int1,str1,bool1])
      refine Ret.call (Ret.eq (logFault_eq rows (fun z hz => (g3 z hz).to) (by omega))) ?_
      rintro _ rfl
      (dsimp +instances only [gi0,gis,row1,rows1,int1,str1,bool1])
      refine Ret.test (fun h => ?_) fun h => ?_
      · exact Ret.some (.inl ⟨b, rows, rfl, by omega, by omega, g3, g4, by simpa using h⟩)
      · (repeat(first|(refine Ret.pos ?_ ?_;(first|rfl|assumption|(simp only [inI,sl]<;>omega)))|(refine Ret.neg ?_ ?_;(first|rfl|assumption|(simp only [inI,sl]<;>omega)))))
        exact Ret.some (.inr ⟨b, by simp, g1, g2⟩)
    obtain ⟨_, h, ⟨b, rows, rfl, q1, q2, q3, q4, q5⟩ | ⟨b, rfl, q1, q2⟩⟩ := key
    · exact RetN.stop h (.inl ⟨rfl, b, rows, rfl, q1, q2, q3, q4, q5⟩)
    · exact RetN.next h (right_runs l n h0 h1 k (i + 1) b (by omega) (by omega) (by omega))
theorem r_Right (l : List (List G)) (a n : Int) (ha : 0 ≤ a) (ha1 : a ≤ 1000) (h0 : 0 ≤ n) (h1 : n ≤ 20) :
    Ret (F_pilemake_Stream_RightContacts [.l l, .i a, .i n]) fun g => ∃ b rows, g = [.l l, .i b, .l rows] ∧ 0 ≤ b ∧ b ≤ 10000 ∧ (∀ z ∈ rows, ConT z) ∧ (rows.length : Int) ≤ n ∧ faultLog rows = 0 := by
  unfold F_pilemake_Stream_RightContacts
  (dsimp +instances only [gi0,gis,row1,rows1,int1,str1,bool1])
  refine Ret.loop ((right_runs l n h0 h1 5 0 a rfl ha (by omega)).to (by omega)) rfl ?_
  rintro c g (⟨rfl, b, rows, rfl, q⟩ | ⟨rfl, b, rfl, q1, q2⟩)
  · exact Ret.pos rfl (Ret.some ⟨b, rows, rfl, q⟩)
  · exact Ret.neg rfl (Ret.some ⟨b, [], rfl, q1, q2, by simp, by simpa using h0, rfl⟩)
/-! ### Hours: their sum -/
/-! ### The law -/
end
end Go.Proofs.SYthnhleemkjpigaaGreatDoor

namespace Go.Proofs.SYthnhleemkjpigaaGreatDoor
open Go Go.AL Go.Proofs
noncomputable section
theorem sort14 (rows : List (List G)) (hC : ∀ y ∈ rows, Con y) (hk : rows.Pairwise fun a b => keyOf a ≠ keyOf b) (hn : rows.length ≤ 14) : F_slices_SortFunc_Contact [.l rows] = some [.l (sortA (ltC ordC) rows)] := by
  refine sortG_eq (C := F_log_Compare) (Q := Con) cmpCompare.sgn (linC.mono fun _ _ => trivial) rows hC (by omega) fun a ha b hb h1 h2 => ?_
  refine inj_of_pairwise hk a ha b hb (ordC_key.1 ?_)
  unfold ltC at h1 h2
  rw [ltI_eq, decide_eq_false_iff_not] at h1 h2
  have := ordC_flip a b
  omega
end
end Go.Proofs.SYthnhleemkjpigaaGreatDoor

namespace Go.Proofs.SYthnhleemkjpigaaGreatDoor
open Go Go.AL Go.Proofs
noncomputable section
def kOf (z : List G) : Int := (gi z 1).int
def wOf (z : List G) : List G := (z.drop 2).take 8
def sOf (z : List G) : List G := z.drop 10
theorem Chg.split {z : List G} (h : Chg Con z) : Con (wOf z) ∧ Con (sOf z) ∧ ∀ (mp : List (List G)) (clock : Nat), F_log_change [.l mp, .i (clock : Nat), .l [z]] = some (changeM mp clock (kOf z) (wOf z) (sOf z)) := by
  obtain ⟨n, k, w, s, rfl, _, _, hw, hs⟩ := h
  have hw' := hw
  have hs' := hs
  obtain ⟨t, m, b, c, sn, hd, x, y, rfl, _⟩ := hw
  obtain ⟨t2, m2, b2, c2, sn2, hd2, x2, y2, rfl, _⟩ := hs
  exact ⟨hw', hs', fun mp clock => change_eq mp clock n k t m b c sn hd x y t2 m2 b2 c2 sn2 hd2 x2 y2⟩
def chFold : List (List G) → Nat → List (List G) → List (List G) → List (List G) × List (List G)
  | [], _, out, ref => (out, ref)
  | z :: q, i, out, ref => match refStep out (kOf z) (wOf z) (sOf z) with
    | none => chFold q (i + 1) out (ref ++ [[.i (i : Nat)]])
    | some o => chFold q (i + 1) o ref
theorem refStep_some {out o : List (List G)} {k : Int} {w s : List G} (h : refStep out k w s = some o) : (∀ z ∈ o, z ∈ out ∨ z = s) ∧ o.length ≤ out.length + 1 := by
  unfold refStep at h
  have hl : (leftOf' out k w).length ≤ out.length := List.length_filter_le _ _
  have hm : ∀ z ∈ leftOf' out k w, z ∈ out := fun z hz => (List.mem_filter.1 hz).1
  generalize hc : ((!(k == 1) && Nat.beq (leftOf' out k w).length out.length) || (leftOf' out k w).any (fun o => !(k == 2) && (ordC o s == 0))) = cc at h
  cases cc with
  | true => cases h
  | false =>
    simp only [cond_false, Option.some.injEq] at h
    cases h2 : (k == 2) with
    | true =>
      rw [h2] at h
      simp only [Bool.not_true, cond_false] at h
      subst h
      exact ⟨fun z hz => .inl (hm z hz), by omega⟩
    | false =>
      rw [h2] at h
      simp only [Bool.not_false, cond_true] at h
      subst h
      refine ⟨fun z hz => ?_, by simp; omega⟩
      rcases List.mem_append.1 hz with hz | hz
      · exact .inl (hm z hz)
      · exact .inr (by simpa using hz)
theorem chFold_con : ∀ {q : List (List G)} {i : Nat} {out ref : List (List G)}, (∀ z ∈ q, Chg Con z) → (∀ z ∈ out, Con z) → (∀ z ∈ (chFold q i out ref).1, Con z) ∧ (chFold q i out ref).1.length ≤ out.length + q.length ∧ (chFold q i out ref).2.length ≤ ref.length + q.length
  | [], _, _, _, _, ho => ⟨ho, by simp [chFold], by simp [chFold]⟩
  | z :: q, i, out, ref, hq, ho => by
    have hq' : ∀ z ∈ q, Chg Con z := fun y hy => hq y (List.mem_cons_of_mem _ hy)
    simp only [chFold]
    cases h : refStep out (kOf z) (wOf z) (sOf z) with
    | none =>
      obtain ⟨h1, h2, h3⟩ := chFold_con (i := i + 1) (ref := ref ++ [[.i (i : Nat)]]) hq' ho
      refine ⟨h1, by simp; omega, ?_⟩
      simp at h3 ⊢
      omega
    | some o =>
      obtain ⟨g1, g2⟩ := refStep_some h
      have ho' : ∀ y ∈ o, Con y := fun y hy => (g1 y hy).elim (ho y) fun e => e ▸ (hq z List.mem_cons_self).split.2.1
      obtain ⟨h1, h2, h3⟩ := chFold_con (i := i + 1) (ref := ref) hq' ho'
      refine ⟨h1, ?_, ?_⟩
      · simp
        omega
      · simp
        omega
theorem round15 (m ref ch : List (List G)) (clock i : Nat) {x : List G} (hx : Chg Con x) (hi : i < ch.length) (hd : ch.getD i [] = x) (hl : ref.length < 100000) (hn : ch.length < 100000) {m' : List (List G)} {clock' : Nat} {b : Bool}
    (hc : changeM m clock (kOf x) (wOf x) (sOf x) = [.l m', .i (clock' : Nat), .t b]) :
    st_log_Changed_15 [.l m, .i (clock : Nat), .l ref, .l ch, .i (ch.length : Nat), .i (i : Nat)] = some (none, [.l m', .i (clock' : Nat), .l (bif b then ref else ref ++ [[.i (i : Nat)]]), .l ch, .i (ch.length : Nat), .i ((i : Int) + 1)]) := by
  refine Ret.toEq ?_
  unfold st_log_Changed_15
  (dsimp +instances only [gi0,gis,row1,rows1,int1,str1,bool1])
  simp only [Int.toNat_natCast, hd, hx.eta]
  refine Ret.pos (by (first|rfl|assumption|(simp only [inI,sl]<;>omega))) (Ret.pos (by (first|rfl|assumption|(simp only [inI,sl]<;>omega))) ?_)
  refine Ret.call (Ret.eq (hx.split.2.2 m clock)) ?_
  rintro _ rfl
  rw [hc]
  (dsimp +instances only [gi0,gis,row1,rows1,int1,str1,bool1])
  simp only [Int.toNat_natCast]
  cases b with
  | true =>
    (repeat(first|(refine Ret.pos ?_ ?_;(first|rfl|assumption|(simp only [inI,sl]<;>omega)))|(refine Ret.neg ?_ ?_;(first|rfl|assumption|(simp only [inI,sl]<;>omega)))))
    exact Ret.some rfl
  | false =>
    (repeat(first|(refine Ret.pos ?_ ?_;(first|rfl|assumption|(simp only [inI,sl]<;>omega)))|(refine Ret.neg ?_ ?_;(first|rfl|assumption|(simp only [inI,sl]<;>omega)))))
    exact Ret.some rfl
theorem chg_runs : ∀ (q p m ref out : List (List G)) (clock : Nat), MInv m clock out → (∀ z ∈ p ++ q, Chg Con z) → ref.length ≤ p.length → p.length + q.length < 90000 →
    RetN st_log_Changed_15 [.l m, .i (clock : Nat), .l ref, .l (p ++ q), .i ((p ++ q).length : Nat), .i (p.length : Nat)] (q.length + 1) fun c g => c = 0 ∧ ∃ m' clock', g = [.l m', .i ((clock' : Nat) : Int), .l (chFold q p.length out ref).2] ∧ MInv m' clock' (chFold q p.length out ref).1
  | [], p, m, ref, out, clock, hm, hc, hr, hl => by
    refine RetN.stop (x := 0) (d' := [.l m, .i (clock : Nat), .l ref]) (Ret.toEq ?_) ⟨rfl, m, clock, rfl, hm⟩
    unfold st_log_Changed_15
    (dsimp +instances only [gi0,gis,row1,rows1,int1,str1,bool1])
    simp only [Int.toNat_natCast]
    refine Ret.neg (by simp [ltI_eq]) (Ret.pos (by (first|rfl|assumption|(simp only [inI,sl]<;>omega))) (Ret.some rfl))
  | x :: q, p, m, ref, out, clock, hm, hc, hr, hl => by
    have hx : Chg Con x := hc x (by simp)
    have e : p ++ x :: q = (p ++ [x]) ++ q := by simp
    simp only [List.length_cons] at hl
    have hlen : (p ++ x :: q).length = p.length + (q.length + 1) := by simp
    have hd : (p ++ x :: q).getD p.length [] = x := getD_at p x q
    have e3 : ((p ++ [x]).length : Int) = (p.length : Int) + 1 := by simp
    rcases step_agree hm (k := kOf x) hx.split.1 hx.split.2.1 with ⟨h1, h2⟩ | ⟨out', m', clock', h1, h2, h3⟩
    · have st := round15 m ref (p ++ x :: q) clock p.length hx (by omega) hd (by omega) (by omega) h2
      simp only [cond_false] at st
      have ih := chg_runs q (p ++ [x]) m (ref ++ [[.i (p.length : Nat)]]) out clock hm (by rw [← e]; exact hc) (by simp; omega) (by simp; omega)
      rw [← e, e3] at ih
      have e4 : (p ++ [x]).length = p.length + 1 := by simp
      rw [e4] at ih
      have ef : chFold (x :: q) p.length out ref = chFold q (p.length + 1) out (ref ++ [[.i (p.length : Nat)]]) := by
        simp only [chFold, h1]
      rw [ef]
      exact RetN.next st ih
    · have st := round15 m ref (p ++ x :: q) clock p.length hx (by omega) hd (by omega) (by omega) h2
      simp only [cond_true] at st
      have ih := chg_runs q (p ++ [x]) m' ref out' clock' h3 (by rw [← e]; exact hc) (by simp; omega) (by simp; omega)
      rw [← e, e3] at ih
      have e4 : (p ++ [x]).length = p.length + 1 := by simp
      rw [e4] at ih
      have ef : chFold (x :: q) p.length out ref = chFold q (p.length + 1) out' ref := by
        simp only [chFold, h1]
      rw [ef]
      exact RetN.next st ih
theorem one_value {m : List (List G)} {clock : Nat} {out : List (List G)} (h : MInv m clock out) {p : List (List G)} (hp : p.Perm m) : (p.map valOf').Perm out := (hp.map valOf').trans h.vals
theorem sort_one {out r : List (List G)} (hk : out.Pairwise fun a b => keyOf a ≠ keyOf b) (hp : r.Perm out) : sortA (ltC ordC) r = sortA (ltC ordC) out := by
  symm
  refine sortA_unique linC hp.symm (fun _ _ => trivial) fun a ha b hb h1 h2 => ?_
  refine one_key hk ha hb (ordC_key.1 ?_)
  have f := ordC_flip a b
  unfold ltC at h1 h2
  rw [ltI_eq, decide_eq_false_iff_not] at h1 h2
  omega
theorem foldR_walk {st : List G → List G → Option (List G)} {adr : List G → Nat} {I : List (List G) → List G → Prop} {N : Nat} (hst : ∀ r p d, p.length < N → I p d → ∃ d', st r d = some d' ∧ adr d' = adr d ∧ I (p ++ [r]) d') :
    ∀ (q p : List (List G)) (d : List G), p.length + q.length ≤ N → I p d → ∃ d', foldR st adr q d = some d' ∧ adr d' = adr d ∧ I (p ++ q) d'
  | [], p, d, _, h => ⟨d, rfl, rfl, by simpa using h⟩
  | r :: q, p, d, hl, h => by
    simp only [List.length_cons] at hl
    obtain ⟨d1, h1, h2, h3⟩ := hst r p d (by omega) h
    obtain ⟨d2, h4, h5, h6⟩ := foldR_walk hst q (p ++ [r]) d1 (by simp; omega) h3
    refine ⟨d2, ?_, by rw [h5, h2], by simpa using h6⟩
    simp only [foldR, h1]
    rw [h2, show Nat.beq (adr d) (adr d) = true from Nat.beq_refl _]
    exact h4
theorem tail23 {m : List (List G)} {clock : Nat} {out : List (List G)} (h : MInv m clock out) (ref : List (List G)) (hl : out.length ≤ 14) :
    tl_log_Changed_23 [.l m, .i (clock : Nat), .l ref, .l []] = some (some 0, [.l (sortA (ltC ordC) out), .l ref, .i 0]) := by
  have hm : m.length = out.length := by rw [← h.vals.length_eq, List.length_map]
  unfold tl_log_Changed_23
  (dsimp +instances only [gi0,gis,row1,rows1,int1,str1,bool1])
  simp only [Int.toNat_natCast]
  refine rangeR_of h.ok fun b p hp => ⟨?_, ?_⟩
  · show rb_log_Changed_23 _ b = true
    unfold rb_log_Changed_23
    (dsimp +instances only [gi0,gis,row1,rows1,int1,str1,bool1])
    simp only [Nat.beq_refl, Bool.and_true]
  · have hpl : p.length = out.length := by rw [hp.length_eq, hm]
    have hst : ∀ (r : List G) (p' : List (List G)) (d : List G), p'.length < 14 → d = [.l ref, .l (p'.map fun r => gEta KContact (gi r 1).row), .i ((b : Nat) : Int)] →
        ∃ d', rs_log_Changed_23.st r d = some d' ∧ rs_log_Changed_23.adr d' = rs_log_Changed_23.adr d ∧ d' = [.l ref, .l ((p' ++ [r]).map fun r => gEta KContact (gi r 1).row), .i ((b : Nat) : Int)] := by
      rintro r p' _ hlt rfl
      refine ⟨[.l ref, .l ((p' ++ [r]).map fun r => gEta KContact (gi r 1).row), .i ((b : Nat) : Int)], Ret.toEq ?_, rfl, rfl⟩
      show Ret (sr_log_Changed_23 r _) _
      unfold sr_log_Changed_23
      (dsimp +instances only [gi0,gis,row1,rows1,int1,str1,bool1])
      simp only [Int.toNat_natCast]
      refine Ret.pos ?_ (Ret.pos ?_ (Ret.some ?_))
      · simp only [Nat.beq_refl, Bool.true_and, List.length_map, decide_eq_true_eq]
        omega
      · simp only [Nat.beq_refl, Bool.and_true]
      · rw [List.map_append]
        rfl
    obtain ⟨d', h1, _, h2⟩ := foldR_walk hst p [] [.l ref, .l [], .i ((b : Nat) : Int)] (by simp; omega) rfl
    subst h2
    refine ⟨_, h1, ?_⟩
    have hperm := one_value h hp
    have hcon : ∀ z ∈ p.map valOf', Con z := fun z hz => h.con z (hperm.subset hz)
    have hmap : (([] ++ p).map fun r => gEta KContact (gi r 1).row) = p.map valOf' := by
      rw [List.nil_append]
      refine List.map_congr_left fun r hr => ?_
      exact (hcon _ (List.mem_map.2 ⟨r, hr, rfl⟩)).eta
    rw [hmap]
    have hs := sort_one h.keys hperm
    have hkeys : (p.map valOf').Pairwise fun a b => keyOf a ≠ keyOf b := hperm.symm.pairwise h.keys fun h => h.symm
    refine Ret.toEq ?_
    unfold tr_log_Changed_23
    (dsimp +instances only [gi0,gis,row1,rows1,int1,str1,bool1])
    refine Ret.callb (Ret.eq (sort14 (p.map valOf') hcon hkeys (by simp; omega))) (by (first|rfl|assumption|(simp only [inI,sl]<;>omega))) ?_
    rintro _ rfl
    (dsimp +instances only [gi0,gis,row1,rows1,int1,str1,bool1])
    refine Ret.pos ?_ (Ret.some ?_)
    · simp only [sortA_length, Nat.beq_refl, Bool.and_true]
    · rw [hs]
theorem changed_ok (l ch : List (List G)) (hl : ∀ z ∈ l, Con z) (hc : ∀ z ∈ ch, Chg Con z) (h : l.length + ch.length ≤ 14) :
    F_log_Changed [.l l, .l ch] = some (bif faultLog l != 0 then [.l [], .l [], .i (faultLog l)] else bif faultCh ch != 0 then [.l [], .l [], .i (faultCh ch)] else [.l (sortA (ltC ordC) (chFold ch 0 l []).1), .l (chFold ch 0 l []).2, .i 0]) := by
  refine Ret.toEq ?_
  unfold F_log_Changed
  (dsimp +instances only [gi0,gis,row1,rows1,int1,str1,bool1])
  refine Ret.call (Ret.eq (checkLog_eq l hl (by omega))) ?_
  rintro _ rfl
  (dsimp +instances only [gi0,gis,row1,rows1,int1,str1,bool1])
  by_cases fl : faultLog l = 0
  · have z : (faultLog l != 0) = false := by simpa using fl
    simp only [z, cond_false]
    refine Ret.call (Ret.eq (checkCh_eq ch (by omega) hc)) ?_
    rintro _ rfl
    (dsimp +instances only [gi0,gis,row1,rows1,int1,str1,bool1])
    by_cases fc : faultCh ch = 0
    · have z : (faultCh ch != 0) = false := by simpa using fc
      simp only [z, cond_false]
      have hb := build_runs ch l [] [] 0 (by simpa using hl) (by simpa using log_keys fl) MInv.nil (by simp; omega)
      simp only [List.nil_append, List.length_nil, Nat.zero_add] at hb
      refine Ret.loop (hb.to (by omega)) rfl ?_
      rintro c g ⟨rfl, m, clock, rfl, hm⟩
      (dsimp +instances only [gi0,gis,row1,rows1,int1,str1,bool1])
      simp only [Int.toNat_natCast]
      have hr := chg_runs ch [] m [] l clock hm (by simpa using hc) (by simp) (by simp; omega)
      simp only [List.nil_append, List.length_nil] at hr
      refine Ret.loop (hr.to (by omega)) rfl ?_
      rintro c g ⟨rfl, m', clock', rfl, hm'⟩
      (dsimp +instances only [gi0,gis,row1,rows1,int1,str1,bool1])
      simp only [Int.toNat_natCast]
      obtain ⟨_, g2, _⟩ := chFold_con (i := 0) (ref := []) hc hl
      have hml : m'.length = (chFold ch 0 l []).1.length := by rw [← hm'.vals.length_eq, List.length_map]
      refine Ret.neg (by (first|rfl|assumption|(simp only [inI,sl]<;>omega))) ?_
      refine Ret.tail (P := fun x g => x = 0 ∧ g = [.l (sortA (ltC ordC) (chFold ch 0 l []).1), .l (chFold ch 0 l []).2, .i 0]) (Ret.mono (Ret.eq (tail23 hm' _ (by omega))) fun o ho => ⟨0, by rw [ho], rfl, by rw [ho]⟩) (by (first|rfl|assumption|(simp only [inI,sl]<;>omega))) ?_
      rintro _ _ ⟨rfl, rfl⟩
      (dsimp +instances only [gi0,gis,row1,rows1,int1,str1,bool1])
      exact Ret.pos (by (first|rfl|assumption|(simp only [inI,sl]<;>omega))) (Ret.some rfl)
    · have z : (faultCh ch != 0) = true := by simpa using fc
      simp only [z, cond_true]
      exact Ret.some rfl
  · have z : (faultLog l != 0) = true := by simpa using fl
    simp only [z, cond_true]
    exact Ret.some rfl
end
end Go.Proofs.SYthnhleemkjpigaaGreatDoor

namespace Go.Proofs.SYthnhleemkjpigaaGreatDoor
open Go Go.AL Go.Proofs
noncomputable section
theorem compA_id {α : Type} {e : α → α → Bool} : ∀ {q : List α} {y : α}, (y :: q).Pairwise (fun a b => e b a = false) → compA e y q = q
  | [], _, _ => rfl
  | x :: q, y, h => by
    obtain ⟨h1, h2⟩ := List.pairwise_cons.1 h
    simp only [compA, h1 x List.mem_cons_self, cond_false, compA_id h2]
theorem compact_id {α : Type} {e : α → α → Bool} {l : List α} (h : l.Pairwise (fun a b => e b a = false)) : compact e l = l := by
  cases l with
  | nil => rfl
  | cons x q => simp only [compact, compA_id h]
theorem mixed_nil {a : List (List G)} (ha : ∀ z ∈ a, Con z) (hf : faultLog a = 0) : (mixed a []).length = (sortA (ltC ordC) (a ++ [])).length := by
  unfold mixed
  rw [compact_id]
  rw [List.append_nil]
  have hk : (sortA (ltC ordC) a).Pairwise fun a b => keyOf a ≠ keyOf b := (sortA_perm a).symm.pairwise (log_keys hf) fun h => h.symm
  refine List.Pairwise.imp_of_mem ?_ hk
  intro x y hx hy hne
  refine Bool.eq_false_iff.2 fun h => hne ?_
  have := rowEq_con (ha y ((sortA_perm a).mem_iff.1 hy)) (ha x ((sortA_perm a).mem_iff.1 hx)) h
  rw [this]
theorem merge_stay (a : List (List G)) (ha : ∀ z ∈ a, Con z) (h : a.length ≤ 20) (hf : faultLog a = 0) :
    Ret (F_log_Merge_f [.l a, .l []]) fun g => ∃ r e, g = [.l r, .i e] ∧ r.length ≤ 20 := by
  have hb : ∀ z ∈ ([] : List (List G)), Con z := by simp
  have hab : ∀ z ∈ a ++ [], Con z := by simpa using ha
  have hs := sortA_all (lt := ltC ordC) hab
  have hsl := sortA_length (ltC ordC) (a ++ [])
  have hc := mixed_Con ha hb
  have hlen := mixed_nil ha hf
  have hal : (a ++ []).length = a.length := by simp
  unfold F_log_Merge_f
  (dsimp +instances only [gi0,gis,row1,rows1,int1,str1,bool1])
  refine Ret.call (Ret.eq (both_eq a [] ha hb (by omega) (by simp))) ?_
  rintro _ rfl
  (dsimp +instances only [gi0,gis,row1,rows1,int1,str1,bool1])
  rw [hf]
  refine Ret.neg rfl ?_
  refine Ret.call (Ret.eq (concat_eq a [] (by simpa using h))) ?_
  rintro _ rfl
  (dsimp +instances only [gi0,gis,row1,rows1,int1,str1,bool1])
  refine Ret.callb (Ret.eq (sortCompare_eq _ hab (by omega))) (by (first|rfl|assumption|(simp only [inI,sl]<;>omega))) ?_
  rintro _ rfl
  (dsimp +instances only [gi0,gis,row1,rows1,int1,str1,bool1])
  refine Ret.callb (P := fun g => ∃ J, g = [.l (mixed a [] ++ J), .i ((mixed a []).length : Int)] ∧ (mixed a [] ++ J).length = (sortA (ltC ordC) (a ++ [])).length)
    (cmpcF_eq (Z := zC) kdsC _ hs (by omega)) (by rw [hsl]; simp) ?_
  rintro _ ⟨J, rfl, hJ⟩
  (dsimp +instances only [gi0,gis,row1,rows1,int1,str1,bool1])
  simp only [Int.toNat_natCast]
  have hJ0 : J = [] := by
    rw [List.length_append] at hJ
    exact List.eq_nil_of_length_eq_zero (by omega)
  subst hJ0
  refine Ret.loop ((merge_runs (mixed a []) [] hc (by omega) (mixed a []).length 0 (by omega)).to (by omega)) rfl ?_
  rintro c g (⟨rfl, rfl, hcl⟩ | ⟨rfl, rfl, hcl⟩)
  · exact Ret.pos rfl (Ret.pos (by (first|rfl|assumption|(simp only [inI,sl]<;>omega))) (Ret.some ⟨_, _, rfl, by simp [gi, G.rows]⟩))
  · refine Ret.neg rfl ?_
    (dsimp +instances only [gi0,gis,row1,rows1,int1,str1,bool1])
    simp only [Int.toNat_natCast]
    refine Ret.neg (by (first|rfl|assumption|(simp only [inI,sl]<;>omega))) (Ret.pos (by simp) (Ret.some ⟨_, _, rfl, ?_⟩))
    rw [List.append_nil]
    omega
theorem lacks_stay (a : List (List G)) (ha : ∀ z ∈ a, Con z) (h : a.length ≤ 20) (hf : faultLog a = 0) :
    Ret (F_log_Lacks_f [.l [], .l a]) fun g => ∃ r e, g = [.l r, .i e] ∧ r.length ≤ 20 := by
  have hb : ∀ z ∈ ([] : List (List G)), Con z := by simp
  unfold F_log_Lacks_f
  (dsimp +instances only [gi0,gis,row1,rows1,int1,str1,bool1])
  refine Ret.call (Ret.eq (both_eq [] a hb ha (by simp) (by omega))) ?_
  rintro _ rfl
  (dsimp +instances only [gi0,gis,row1,rows1,int1,str1,bool1])
  rw [hf]
  refine Ret.neg rfl ?_
  refine Ret.call (Ret.eq (without_ok a [] ha hb (by omega) (by simp))) ?_
  rintro _ rfl
  (dsimp +instances only [gi0,gis,row1,rows1,int1,str1,bool1])
  refine Ret.pos (by (first|rfl|assumption|(simp only [inI,sl]<;>omega))) (Ret.some ⟨_, _, rfl, ?_⟩)
  have : (lacking [] a).length ≤ a.length := List.length_filter_le _ _
  omega
theorem renum_stay (a : List (List G)) (ha : ∀ z ∈ a, Con z) (h : a.length ≤ 20) (hf : faultLog a = 0) :
    Ret (F_log_Renumber_f [.l a, .i 5]) fun g => ∃ r e, g = [.l r, .i e] ∧ r.length ≤ 20 := by
  unfold F_log_Renumber_f
  (dsimp +instances only [gi0,gis,row1,rows1,int1,str1,bool1])
  refine Ret.call (Ret.eq (checkLog_eq a ha (by omega))) ?_
  rintro _ rfl
  (dsimp +instances only [gi0,gis,row1,rows1,int1,str1,bool1])
  rw [hf]
  refine Ret.neg rfl ?_
  refine Ret.call (Ret.eq (outside_eq 5 1 99999)) ?_
  rintro _ rfl
  (dsimp +instances only [gi0,gis,row1,rows1,int1,str1,bool1])
  refine Ret.neg (by kernel_rfl) ?_
  (repeat(first|(refine Ret.pos ?_ ?_;(first|rfl|assumption|(simp only [inI,sl]<;>omega)))|(refine Ret.neg ?_ ?_;(first|rfl|assumption|(simp only [inI,sl]<;>omega)))))
  refine Ret.call (Ret.eq (cloneF_ok a (by omega))) ?_
  rintro _ rfl
  (dsimp +instances only [gi0,gis,row1,rows1,int1,str1,bool1])
  refine Ret.loop (renum_loop a ha (by omega) 5 (by omega) (by omega)) (by (first|rfl|assumption|(simp only [inI,sl]<;>omega))) ?_
  rintro _ _ ⟨rfl, r, rfl, _, hl⟩
  (dsimp +instances only [gi0,gis,row1,rows1,int1,str1,bool1])
  (repeat(first|(refine Ret.pos ?_ ?_;(first|rfl|assumption|(simp only [inI,sl]<;>omega)))|(refine Ret.neg ?_ ?_;(first|rfl|assumption|(simp only [inI,sl]<;>omega)))))
  exact Ret.some ⟨r, 0, rfl, by omega⟩
theorem changed_stay (l ch : List (List G)) (hl : ∀ z ∈ l, Con z) (hc : ∀ z ∈ ch, Chg Con z) (h : l.length + ch.length ≤ 14) :
    Ret (F_log_Changed_f [.l l, .l ch]) fun g => ∃ r n e, g = [.l r, .l n, .i e] ∧ r.length ≤ 20 := by
  refine (Ret.eq (changed_ok l ch hl hc h)).mono ?_
  rintro _ rfl
  cases faultLog l != 0 with
  | true => exact ⟨_, _, _, rfl, by simp⟩
  | false =>
    cases faultCh ch != 0 with
    | true => exact ⟨_, _, _, rfl, by simp⟩
    | false =>
      refine ⟨_, _, _, rfl, ?_⟩
      rw [sortA_length]
      obtain ⟨_, g2, _⟩ := chFold_con (i := 0) (ref := []) hc hl
      omega
theorem spoil_ok (rows : List (List G)) (h : rows.length ≤ 100) : Ret (F_pilekeep2_spoil_Contact [.l rows]) fun g => ∃ r, g = [.l r] := by
  unfold F_pilekeep2_spoil_Contact
  (dsimp +instances only [gi0,gis,row1,rows1,int1,str1,bool1])
  have r := count_runs (st := st_pilekeep2_spoil_Contact_2) (σ := List (List G)) (fun s i => [.l s, .i 0, .i 0, .s (⟨#[]⟩ : ByteArray), .s (⟨#[]⟩ : ByteArray), .i 0, .i 0, .s (⟨#[]⟩ : ByteArray), .s (⟨#[]⟩ : ByteArray), .i (rows.length : Int), .i (i : Int)]) rows.length (fun s => (0, [.l s])) (fun s _ => s.length = rows.length) (fun _ _ => False)
    (fun s i hs hi => by
      unfold st_pilekeep2_spoil_Contact_2
      (dsimp +instances only [gi0,gis,row1,rows1,int1,str1,bool1])
      simp only [Int.toNat_natCast, Nat.zero_add, List.length_set, hs]
      (repeat(first|(refine Ret.pos ?_ ?_;(first|rfl|assumption|(simp only [inI,sl]<;>omega)))|(refine Ret.neg ?_ ?_;(first|rfl|assumption|(simp only [inI,sl]<;>omega)))))
      exact Ret.some (.inl ⟨_, rfl, by rw [List.length_set, hs]⟩))
    (fun s hs => by
      unfold st_pilekeep2_spoil_Contact_2
      (dsimp +instances only [gi0,gis,row1,rows1,int1,str1,bool1])
      (repeat(first|(refine Ret.pos ?_ ?_;(first|rfl|assumption|(simp only [inI,sl]<;>omega)))|(refine Ret.neg ?_ ?_;(first|rfl|assumption|(simp only [inI,sl]<;>omega)))))
      exact Ret.some rfl)
    rows.length rows 0 (by omega) rfl
  refine Ret.loop (r.to (by omega)) (by (first|rfl|assumption|(simp only [inI,sl]<;>omega))) ?_
  rintro c g (⟨s, _, rfl, rfl⟩ | h)
  · exact Ret.some ⟨_, rfl⟩
  · exact h.elim
theorem equalC_refl (a : List (List G)) (ha : ∀ z ∈ a, Chg Con z) (hn : a.length < 100000) : F_slices_Equal_Change [.l a, .l a] = some [.t true] := by
  have h := equalF_eq kdsCh a a ha ha hn
  rw [eqlA_refl rfl] at h
  exact h
theorem logsStay_data (rows : List (List G)) : F_pilekeep2_LogsStay [.l rows] = some [.t true] := by
  refine Ret.toEq ?_
  obtain ⟨_, h1, a, x, rfl, ha0, ha1, hx, hxl, hxf⟩ := r_Right rows 0 8 (by omega) (by omega) (by omega) (by omega)
  have hC : ∀ z ∈ x, Con z := fun z hz => (hx z hz).to
  obtain ⟨_, h2, b, c, rfl, _, _, hc, hcl⟩ := r_Changes rows x a (by omega) (by omega) hx (by omega)
  have hcc : ∀ z ∈ c, Chg Con z := fun z hz => (hc z hz).to fun _ h => h.to
  unfold F_pilekeep2_LogsStay
  (dsimp +instances only [gi0,gis,row1,rows1,int1,str1,bool1])
  refine Ret.call (Ret.eq h1) ?_
  rintro _ rfl
  refine Ret.call (Ret.eq h1) ?_
  rintro _ rfl
  (dsimp +instances only [gi0,gis,row1,rows1,int1,str1,bool1])
  refine Ret.call (Ret.eq h2) ?_
  rintro _ rfl
  refine Ret.call (Ret.eq h2) ?_
  rintro _ rfl
  (dsimp +instances only [gi0,gis,row1,rows1,int1,str1,bool1])
  refine Ret.call (merge_stay x hC (by omega) hxf) ?_
  rintro _ ⟨r1, e1, rfl, hr1⟩
  (dsimp +instances only [gi0,gis,row1,rows1,int1,str1,bool1])
  refine Ret.callb (spoil_ok r1 (by omega)) (by (first|rfl|assumption|(simp only [inI,sl]<;>omega))) ?_
  rintro _ ⟨s1, rfl⟩
  refine Ret.call (renum_stay x hC (by omega) hxf) ?_
  rintro _ ⟨r2, e2, rfl, hr2⟩
  (dsimp +instances only [gi0,gis,row1,rows1,int1,str1,bool1])
  refine Ret.callb (spoil_ok r2 (by omega)) (by (first|rfl|assumption|(simp only [inI,sl]<;>omega))) ?_
  rintro _ ⟨s2, rfl⟩
  refine Ret.call (lacks_stay x hC (by omega) hxf) ?_
  rintro _ ⟨r3, e3, rfl, hr3⟩
  (dsimp +instances only [gi0,gis,row1,rows1,int1,str1,bool1])
  refine Ret.callb (spoil_ok r3 (by omega)) (by (first|rfl|assumption|(simp only [inI,sl]<;>omega))) ?_
  rintro _ ⟨s3, rfl⟩
  refine Ret.call (changed_stay x c hC hcc (by omega)) ?_
  rintro _ ⟨r4, n4, e4, rfl, hr4⟩
  (dsimp +instances only [gi0,gis,row1,rows1,int1,str1,bool1])
  refine Ret.callb (spoil_ok r4 (by omega)) (by (first|rfl|assumption|(simp only [inI,sl]<;>omega))) ?_
  rintro _ ⟨s4, rfl⟩
  refine Ret.call (Ret.eq (equal_refl x hC (by omega))) ?_
  rintro _ rfl
  refine Ret.pos rfl ?_
  refine Ret.call (Ret.eq (equalC_refl c hcc (by omega))) ?_
  rintro _ rfl
  refine Ret.pos rfl ?_
  exact Ret.call (Ret.eq (rfl : F_pilekeep2_ready [] = some [.t true])) fun _ h => by
    subst h
    exact Ret.some rfl
end
end Go.Proofs.SYthnhleemkjpigaaGreatDoor
