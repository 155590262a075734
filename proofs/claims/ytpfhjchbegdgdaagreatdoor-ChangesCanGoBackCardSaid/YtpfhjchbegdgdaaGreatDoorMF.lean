/-
  What is proved here: what the methods of the stream give on data. No condition.
-/
import Derived.Test.YtpfhjchbegdgdaaGreatDoorML4
import Derived.Test.YtpfhjchbegdgdaaGreatDoorME
set_option linter.unusedSimpArgs false
set_option linter.unusedVariables false
set_option linter.unusedSectionVars false
namespace Go.Proofs.SYtpfhjchbegdgdaaGreatDoor
open Go Go.AL Go.Proofs
noncomputable section
theorem r_Below (x n : Int) (h0 : 1 ≤ n) (h1 : n ≤ 1099511627776) : Ret (F_pilemake_Below [.i x, .i n]) fun g => ∃ v, g = [.i v] ∧ 0 ≤ v ∧ v < n := by
  unfold F_pilemake_Below
  (dsimp +instances only [gi0,gis,row1,rows1,int1,str1,bool1])
  have ha := Int.tmod_lt_of_pos x (by omega : 0 < n)
  have hb := Int.lt_tmod_of_pos x (by omega : 0 < n)
  (repeat(first|(refine Ret.pos ?_ ?_;(first|rfl|assumption|(simp only [inI,sl]<;>omega)))|(refine Ret.neg ?_ ?_;(first|rfl|assumption|(simp only [inI,sl]<;>omega)))))
  refine Ret.test (fun h => ?_) fun h => ?_
  · simp only [ltI_eq, decide_eq_true_eq] at h
    (repeat(first|(refine Ret.pos ?_ ?_;(first|rfl|assumption|(simp only [inI,sl]<;>omega)))|(refine Ret.neg ?_ ?_;(first|rfl|assumption|(simp only [inI,sl]<;>omega)))))
    exact Ret.some ⟨_, rfl, by omega, by omega⟩
  · simp only [ltI_eq, decide_eq_false_iff_not] at h
    exact Ret.some ⟨_, rfl, by omega, by omega⟩
theorem r_Next (l : List (List G)) (a n : Int) (ha : 0 ≤ a) (ha1 : a ≤ 1000000) (h0 : 1 ≤ n) (h1 : n ≤ 1099511627776) :
    Ret (F_pilemake_Stream_Next [.l l, .i a, .i n]) fun g => ∃ v, g = [.l l, .i (a + 1), .i v] ∧ 0 ≤ v ∧ v < n := by
  unfold F_pilemake_Stream_Next
  (dsimp +instances only [gi0,gis,row1,rows1,int1,str1,bool1])
  have ea : a + 1 - 1 = a := by omega
  simp only [ea]
  by_cases hl : l.length = 0
  · (repeat(first|(refine Ret.pos ?_ ?_;(first|rfl|assumption|(simp only [inI,sl]<;>omega)))|(refine Ret.neg ?_ ?_;(first|rfl|assumption|(simp only [inI,sl]<;>omega)))))
    refine Ret.call (r_Below _ n h0 h1) ?_
    rintro _ ⟨v, rfl, h2, h3⟩
    (dsimp +instances only [gi0,gis,row1,rows1,int1,str1,bool1])
    exact Ret.some ⟨v, rfl, h2, h3⟩
  · have hp : (0 : Int) < (l.length : Int) := by omega
    have d0 : 0 ≤ Int.tdiv a l.length := Int.tdiv_nonneg ha (by omega)
    have d1 : Int.tdiv a l.length ≤ a := by
      rw [Int.tdiv_eq_ediv_of_nonneg ha]
      exact Int.ediv_le_self _ ha
    have m0 : 0 ≤ Int.tmod a l.length := by
      rw [Int.tmod_eq_emod_of_nonneg ha]
      exact Int.emod_nonneg _ (by omega)
    have m1 : Int.tmod a l.length < l.length := Int.tmod_lt_of_pos a hp
    have m2 : Int.tmod a l.length ≤ a := by
      rw [Int.tmod_eq_emod_of_nonneg ha]
      have := Int.mul_ediv_add_emod a l.length
      have h4 : 0 ≤ (l.length : Int) * (a / l.length) := Int.mul_nonneg (by omega) (Int.ediv_nonneg ha (by omega))
      omega
    generalize hq : Int.tdiv a l.length = q at *
    generalize hr : Int.tmod a l.length = r at *
    have p0 : 0 ≤ q * (7919 + r) := Int.mul_nonneg d0 (by omega)
    have p1 : q * (7919 + r) ≤ 1000000 * 2000000 := Int.mul_le_mul (by omega) (by omega) (by omega) (by omega)
    generalize hz : q * (7919 + r) = z at *
    (repeat(first|(refine Ret.pos ?_ ?_;(first|rfl|assumption|(simp only [inI,sl]<;>omega)))|(refine Ret.neg ?_ ?_;(first|rfl|assumption|(simp only [inI,sl]<;>omega)))))
    refine Ret.call (r_Below _ 1073741824 (by omega) (by omega)) ?_
    rintro _ ⟨u, rfl, h2, h3⟩
    (dsimp +instances only [gi0,gis,row1,rows1,int1,str1,bool1])
    (repeat(first|(refine Ret.pos ?_ ?_;(first|rfl|assumption|(simp only [inI,sl]<;>omega)))|(refine Ret.neg ?_ ?_;(first|rfl|assumption|(simp only [inI,sl]<;>omega)))))
    refine Ret.call (r_Below _ n h0 h1) ?_
    rintro _ ⟨v, rfl, h4, h5⟩
    (dsimp +instances only [gi0,gis,row1,rows1,int1,str1,bool1])
    exact Ret.some ⟨v, rfl, h4, h5⟩
theorem r_Range (l : List (List G)) (a lo hi : Int) (ha : 0 ≤ a) (ha1 : a ≤ 1000000) (h0 : lo ≤ hi) (h1 : -1000000000 ≤ lo) (h2 : hi ≤ 1000000000) :
    Ret (F_pilemake_Stream_Range [.l l, .i a, .i lo, .i hi]) fun g => ∃ v, g = [.l l, .i (a + 1), .i v] ∧ lo ≤ v ∧ v ≤ hi := by
  unfold F_pilemake_Stream_Range
  (dsimp +instances only [gi0,gis,row1,rows1,int1,str1,bool1])
  (repeat(first|(refine Ret.pos ?_ ?_;(first|rfl|assumption|(simp only [inI,sl]<;>omega)))|(refine Ret.neg ?_ ?_;(first|rfl|assumption|(simp only [inI,sl]<;>omega)))))
  refine Ret.call (r_Next l a _ ha ha1 (by omega) (by omega)) ?_
  rintro _ ⟨v, rfl, h3, h4⟩
  (dsimp +instances only [gi0,gis,row1,rows1,int1,str1,bool1])
  (repeat(first|(refine Ret.pos ?_ ?_;(first|rfl|assumption|(simp only [inI,sl]<;>omega)))|(refine Ret.neg ?_ ?_;(first|rfl|assumption|(simp only [inI,sl]<;>omega)))))
  exact Ret.some ⟨_, rfl, by omega, by omega⟩
theorem getD_mem' {l : List (List G)} {v : Int} (h0 : 0 ≤ v) (h1 : v < l.length) : l.getD v.toNat [] ∈ l := by
  have : v.toNat < l.length := by omega
  rw [List.getD_eq_getElem?_getD, List.getElem?_eq_getElem this]
  exact List.getElem_mem this
theorem r_Pick (P : Int → Prop) (l : List (List G)) (a : Int) (xs : List (List G)) (ha : 0 ≤ a) (ha1 : a ≤ 1000000) (h0 : 1 ≤ xs.length) (h1 : xs.length ≤ 1000000) (hP : ∀ x ∈ xs, P (gi x 0).int) :
    Ret (F_pilemake_Stream_Pick [.l l, .i a, .l xs]) fun g => ∃ v, g = [.l l, .i (a + 1), .i v] ∧ P v := by
  unfold F_pilemake_Stream_Pick
  (dsimp +instances only [gi0,gis,row1,rows1,int1,str1,bool1])
  refine Ret.call (r_Next l a _ ha ha1 (by omega) (by omega)) ?_
  rintro _ ⟨v, rfl, h3, h4⟩
  (dsimp +instances only [gi0,gis,row1,rows1,int1,str1,bool1])
  (repeat(first|(refine Ret.pos ?_ ?_;(first|rfl|assumption|(simp only [inI,sl]<;>omega)))|(refine Ret.neg ?_ ?_;(first|rfl|assumption|(simp only [inI,sl]<;>omega)))))
  exact Ret.some ⟨_, rfl, hP _ (getD_mem' h3 h4)⟩
theorem r_Some (P : ByteArray → Prop) (l : List (List G)) (a : Int) (xs : List (List G)) (ha : 0 ≤ a) (ha1 : a ≤ 1000000) (h0 : 1 ≤ xs.length) (h1 : xs.length ≤ 1000000) (hP : ∀ x ∈ xs, P (gi x 0).str) :
    Ret (F_pilemake_Stream_Some [.l l, .i a, .l xs]) fun g => ∃ v, g = [.l l, .i (a + 1), .s v] ∧ P v := by
  unfold F_pilemake_Stream_Some
  (dsimp +instances only [gi0,gis,row1,rows1,int1,str1,bool1])
  refine Ret.call (r_Next l a _ ha ha1 (by omega) (by omega)) ?_
  rintro _ ⟨v, rfl, h3, h4⟩
  (dsimp +instances only [gi0,gis,row1,rows1,int1,str1,bool1])
  (repeat(first|(refine Ret.pos ?_ ?_;(first|rfl|assumption|(simp only [inI,sl]<;>omega)))|(refine Ret.neg ?_ ?_;(first|rfl|assumption|(simp only [inI,sl]<;>omega)))))
  exact Ret.some ⟨_, rfl, hP _ (getD_mem' h3 h4)⟩
theorem r_Flip (l : List (List G)) (a n : Int) (ha : 0 ≤ a) (ha1 : a ≤ 1000000) (h0 : 1 ≤ n) (h1 : n ≤ 1000000) :
    Ret (F_pilemake_Stream_Flip [.l l, .i a, .i n]) fun g => ∃ b, g = [.l l, .i (a + 1), .t b] := by
  unfold F_pilemake_Stream_Flip
  (dsimp +instances only [gi0,gis,row1,rows1,int1,str1,bool1])
  refine Ret.call (r_Next l a _ ha ha1 (by omega) (by omega)) ?_
  rintro _ ⟨v, rfl, h3, h4⟩
  exact Ret.some ⟨_, rfl⟩
theorem r_Odd (l : List (List G)) (a lo hi : Int) (ha : 0 ≤ a) (ha1 : a ≤ 900000) (h0 : lo ≤ hi) (h1 : -1000000000 ≤ lo) (h2 : hi ≤ 1000000000) :
    Ret (F_pilemake_Stream_Odd [.l l, .i a, .i lo, .i hi]) fun g => ∃ v, g = [.l l, .i (a + 2), .i v] ∧ -1099511627776 ≤ v ∧ (v ≤ 1000000001 ∨ v = 1099511627776) := by
  unfold F_pilemake_Stream_Odd
  (dsimp +instances only [gi0,gis,row1,rows1,int1,str1,bool1])
  have e2 : a + 1 + 1 = a + 2 := by omega
  refine Ret.call (r_Flip l a 12 ha (by omega) (by omega) (by omega)) ?_
  rintro _ ⟨b, rfl⟩
  (dsimp +instances only [gi0,gis,row1,rows1,int1,str1,bool1])
  cases b with
  | true =>
    (repeat(first|(refine Ret.pos ?_ ?_;(first|rfl|assumption|(simp only [inI,sl]<;>omega)))|(refine Ret.neg ?_ ?_;(first|rfl|assumption|(simp only [inI,sl]<;>omega)))))
    refine Ret.call (r_Pick (fun v => -1099511627776 ≤ v ∧ (v ≤ 1000000001 ∨ v = 1099511627776)) l (a + 1) _ (by omega) (by omega) (by simp) (by simp) ?_) ?_
    · intro x hx
      simp only [List.mem_cons, List.not_mem_nil, or_false] at hx
      rcases hx with rfl | rfl | rfl | rfl | rfl | rfl <;> (dsimp +instances only [gi0,gis,row1,rows1,int1,str1,bool1]) <;> omega
    · rintro _ ⟨v, rfl, h3, h4⟩
      (dsimp +instances only [gi0,gis,row1,rows1,int1,str1,bool1])
      exact Ret.some ⟨v, by rw [e2], h3, h4⟩
  | false =>
    (repeat(first|(refine Ret.pos ?_ ?_;(first|rfl|assumption|(simp only [inI,sl]<;>omega)))|(refine Ret.neg ?_ ?_;(first|rfl|assumption|(simp only [inI,sl]<;>omega)))))
    refine Ret.call (r_Range l (a + 1) lo hi (by omega) (by omega) h0 h1 h2) ?_
    rintro _ ⟨v, rfl, h3, h4⟩
    (dsimp +instances only [gi0,gis,row1,rows1,int1,str1,bool1])
    exact Ret.some ⟨v, by rw [e2], by omega, by omega⟩
end
end Go.Proofs.SYtpfhjchbegdgdaaGreatDoor

namespace Go.Proofs.SYtpfhjchbegdgdaaGreatDoor
open Go Go.AL Go.Proofs
noncomputable section
def inL (L : List ByteArray) (s : ByteArray) : Bool := L.any fun x => eqS x s
theorem inL_mem {L : List ByteArray} {s : ByteArray} (h : inL L s = true) : s ∈ L := by
  obtain ⟨x, hx, he⟩ := List.any_eq_true.1 h
  exact eqS_eq he ▸ hx
theorem r_PickB (lo hi : Int) (l : List (List G)) (a : Int) (xs : List (List G)) (ha : 0 ≤ a) (ha1 : a ≤ 1000000) (h0 : (Nat.ble 1 xs.length && Nat.ble xs.length 1000000) = true) (hP : (xs.all fun x => leI lo (gi x 0).int && leI (gi x 0).int hi) = true) :
    Ret (F_pilemake_Stream_Pick [.l l, .i a, .l xs]) fun g => ∃ v, g = [.l l, .i (a + 1), .i v] ∧ lo ≤ v ∧ v ≤ hi := by
  simp only [Bool.and_eq_true, Nat.ble_eq] at h0
  refine r_Pick (fun v => lo ≤ v ∧ v ≤ hi) l a xs ha ha1 h0.1 h0.2 fun x hx => ?_
  have := List.all_eq_true.1 hP x hx
  simpa only [leI_eq, Bool.and_eq_true, decide_eq_true_eq] using this
theorem r_SomeB (L : List ByteArray) (l : List (List G)) (a : Int) (xs : List (List G)) (ha : 0 ≤ a) (ha1 : a ≤ 1000000) (h0 : (Nat.ble 1 xs.length && Nat.ble xs.length 1000000) = true) (hP : (xs.all fun x => inL L (gi x 0).str) = true) :
    Ret (F_pilemake_Stream_Some [.l l, .i a, .l xs]) fun g => ∃ v, g = [.l l, .i (a + 1), .s v] ∧ v ∈ L := by
  simp only [Bool.and_eq_true, Nat.ble_eq] at h0
  exact r_Some (fun v => v ∈ L) l a xs ha ha1 h0.1 h0.2 fun x hx => inL_mem (List.all_eq_true.1 hP x hx)
def calls : List ByteArray := [⟨#[]⟩, ⟨#[107, 49]⟩, ⟨#[75, 49, 65, 66]⟩, ⟨#[107, 49, 97, 98, 47]⟩, ⟨#[49, 97]⟩, ⟨#[107, 49, 97, 98, 47, 109, 109, 47, 112]⟩, ⟨#[107, 49, 97, 98]⟩, ⟨#[107, 49, 97, 97]⟩, ⟨#[107, 49, 97, 98, 47, 52]⟩,
  ⟨#[111, 104, 50, 97, 98, 99]⟩, ⟨#[111, 104, 50, 97, 98, 100]⟩, ⟨#[119, 49, 97, 119]⟩, ⟨#[110, 49, 109, 109]⟩, ⟨#[103, 51, 120, 121, 122, 47, 112]⟩]
def bands : List ByteArray := [⟨#[]⟩, ⟨#[66]⟩, ⟨#[98, 50, 48]⟩, ⟨#[98, 52, 48]⟩]
def names : List ByteArray := [⟨#[]⟩, ⟨#[65]⟩, ⟨#[49]⟩, ⟨#[102, 105, 110]⟩, ⟨#[117, 115, 97]⟩]
def small (n : Int) : Prop := -2000000000000 ≤ n ∧ n ≤ 2000000000000
def Con (r : List G) : Prop := ∃ (t m : Int) (b c : ByteArray) (s h : Int) (x y : ByteArray), r = [.i t, .i m, .s b, .s c, .i s, .i h, .s x, .s y] ∧ small t ∧ small m ∧ small s ∧ small h ∧ b ∈ bands ∧ c ∈ calls ∧ x ∈ names ∧ y ∈ names
def tight (n : Int) : Prop := -1900000000000 ≤ n ∧ n ≤ 1900000000000
def tightT (n : Int) : Prop := -1900000000000 ≤ n ∧ (n ≤ 345000000000 ∨ (345686399999 < n ∧ n ≤ 1900000000000))
def ConT (r : List G) : Prop := ∃ (t m : Int) (b c : ByteArray) (s h : Int) (x y : ByteArray), r = [.i t, .i m, .s b, .s c, .i s, .i h, .s x, .s y] ∧ tightT t ∧ tight m ∧ tight s ∧ tight h ∧ b ∈ bands ∧ c ∈ calls ∧ x ∈ names ∧ y ∈ names
theorem tight.to {n : Int} (h : tight n) : small n := ⟨by have := h.1; omega, by have := h.2; omega⟩
theorem tightT.to {n : Int} (h : tightT n) : small n := by
  unfold tightT at h
  exact ⟨by omega, by omega⟩
theorem ConT.to {r : List G} (h : ConT r) : Con r := by
  obtain ⟨t, m, b, c, s, h, x, y, e, h1, h2, h3, h4, h5⟩ := h
  exact ⟨t, m, b, c, s, h, x, y, e, h1.to, h2.to, h3.to, h4.to, h5⟩
theorem Con.eta {r : List G} (h : Con r) : gEta KContact r = r := by
  obtain ⟨t, m, b, c, s, h, x, y, rfl, _⟩ := h
  rfl
theorem r_ACall (l : List (List G)) (a : Int) (ha : 0 ≤ a) (ha1 : a ≤ 900000) : Ret (F_pilemake_Stream_ACall [.l l, .i a]) fun g => ∃ v, g = [.l l, .i (a + 2), .s v] ∧ v ∈ calls := by
  unfold F_pilemake_Stream_ACall
  (dsimp +instances only [gi0,gis,row1,rows1,int1,str1,bool1])
  have e2 : a + 1 + 1 = a + 2 := by omega
  refine Ret.call (r_Flip l a 60 ha (by omega) (by omega) (by omega)) ?_
  rintro _ ⟨b, rfl⟩
  (dsimp +instances only [gi0,gis,row1,rows1,int1,str1,bool1])
  cases b with
  | true =>
    (repeat(first|(refine Ret.pos ?_ ?_;(first|rfl|assumption|(simp only [inI,sl]<;>omega)))|(refine Ret.neg ?_ ?_;(first|rfl|assumption|(simp only [inI,sl]<;>omega)))))
    refine Ret.call (r_SomeB calls l (a + 1) _ (by omega) (by omega) (by kernel_rfl) (by kernel_rfl)) ?_
    rintro _ ⟨v, rfl, h⟩
    exact Ret.some ⟨v, by (dsimp +instances only [gi0,gis,row1,rows1,int1,str1,bool1]); rw [e2], h⟩
  | false =>
    (repeat(first|(refine Ret.pos ?_ ?_;(first|rfl|assumption|(simp only [inI,sl]<;>omega)))|(refine Ret.neg ?_ ?_;(first|rfl|assumption|(simp only [inI,sl]<;>omega)))))
    refine Ret.call (r_SomeB calls l (a + 1) _ (by omega) (by omega) (by kernel_rfl) (by kernel_rfl)) ?_
    rintro _ ⟨v, rfl, h⟩
    exact Ret.some ⟨v, by (dsimp +instances only [gi0,gis,row1,rows1,int1,str1,bool1]); rw [e2], h⟩
theorem r_SomeContact (l : List (List G)) (a t : Int) (ha : 0 ≤ a) (ha1 : a ≤ 800000) (ht : tightT t) :
    Ret (F_pilemake_Stream_SomeContact [.l l, .i a, .i t]) fun g => ∃ b r, g = [.l l, .i b, .l [r]] ∧ a ≤ b ∧ b ≤ a + 20 ∧ ConT r := by
  unfold tightT at ht
  unfold F_pilemake_Stream_SomeContact
  (dsimp +instances only [gi0,gis,row1,rows1,int1,str1,bool1])
  refine Ret.call (r_PickB 1 3 l a _ ha (by omega) (by kernel_rfl) (by kernel_rfl)) ?_
  rintro _ ⟨m, rfl, hm⟩
  (dsimp +instances only [gi0,gis,row1,rows1,int1,str1,bool1])
  refine Ret.call (r_SomeB bands l _ _ (by omega) (by omega) (by kernel_rfl) (by kernel_rfl)) ?_
  rintro _ ⟨bd, rfl, hb⟩
  (dsimp +instances only [gi0,gis,row1,rows1,int1,str1,bool1])
  refine Ret.call (r_ACall l _ (by omega) (by omega)) ?_
  rintro _ ⟨c, rfl, hc⟩
  (dsimp +instances only [gi0,gis,row1,rows1,int1,str1,bool1])
  refine Ret.call (r_PickB 0 7 l _ _ (by omega) (by omega) (by kernel_rfl) (by kernel_rfl)) ?_
  rintro _ ⟨s, rfl, hs⟩
  (dsimp +instances only [gi0,gis,row1,rows1,int1,str1,bool1])
  refine Ret.call (r_PickB 0 9 l _ _ (by omega) (by omega) (by kernel_rfl) (by kernel_rfl)) ?_
  rintro _ ⟨h, rfl, hh⟩
  (dsimp +instances only [gi0,gis,row1,rows1,int1,str1,bool1])
  refine Ret.call (r_SomeB names l _ _ (by omega) (by omega) (by kernel_rfl) (by kernel_rfl)) ?_
  rintro _ ⟨x, rfl, hx⟩
  (dsimp +instances only [gi0,gis,row1,rows1,int1,str1,bool1])
  refine Ret.call (r_SomeB names l _ _ (by omega) (by omega) (by kernel_rfl) (by kernel_rfl)) ?_
  rintro _ ⟨y, rfl, hy⟩
  (dsimp +instances only [gi0,gis,row1,rows1,int1,str1,bool1])
  refine Ret.call (r_Flip l _ 100 (by omega) (by omega) (by omega) (by omega)) ?_
  rintro _ ⟨f, rfl⟩
  (dsimp +instances only [gi0,gis,row1,rows1,int1,str1,bool1])
  cases f with
  | false =>
    (repeat(first|(refine Ret.pos ?_ ?_;(first|rfl|assumption|(simp only [inI,sl]<;>omega)))|(refine Ret.neg ?_ ?_;(first|rfl|assumption|(simp only [inI,sl]<;>omega)))))
    exact Ret.some ⟨_, _, rfl, by omega, by omega, t, m, bd, c, s, h, x, y, rfl, ht, ⟨by omega, by omega⟩, ⟨by omega, by omega⟩, ⟨by omega, by omega⟩, hb, hc, hx, hy⟩
  | true =>
    (repeat(first|(refine Ret.pos ?_ ?_;(first|rfl|assumption|(simp only [inI,sl]<;>omega)))|(refine Ret.neg ?_ ?_;(first|rfl|assumption|(simp only [inI,sl]<;>omega)))))
    refine Ret.call (r_Next l _ 4 (by omega) (by omega) (by omega) (by omega)) ?_
    rintro _ ⟨k, rfl, hk⟩
    (dsimp +instances only [gi0,gis,row1,rows1,int1,str1,bool1])
    by_cases k0 : k = 0
    · subst k0
      (repeat(first|(refine Ret.pos ?_ ?_;(first|rfl|assumption|(simp only [inI,sl]<;>omega)))|(refine Ret.neg ?_ ?_;(first|rfl|assumption|(simp only [inI,sl]<;>omega)))))
      refine Ret.call (r_Odd l _ 0 500 (by omega) (by omega) (by omega) (by omega) (by omega)) ?_
      rintro _ ⟨t', rfl, ht'⟩
      (dsimp +instances only [gi0,gis,row1,rows1,int1,str1,bool1])
      refine Ret.call (r_Odd l _ 1 3 (by omega) (by omega) (by omega) (by omega) (by omega)) ?_
      rintro _ ⟨m', rfl, hm'⟩
      (dsimp +instances only [gi0,gis,row1,rows1,int1,str1,bool1])
      exact Ret.some ⟨_, _, rfl, by omega, by omega, t', m', bd, c, s, h, x, y, rfl, ⟨by omega, by omega⟩, ⟨by omega, by omega⟩, ⟨by omega, by omega⟩, ⟨by omega, by omega⟩, hb, hc, hx, hy⟩
    · refine Ret.neg (by simpa using k0) ?_
      by_cases k1 : k = 1
      · subst k1
        (repeat(first|(refine Ret.pos ?_ ?_;(first|rfl|assumption|(simp only [inI,sl]<;>omega)))|(refine Ret.neg ?_ ?_;(first|rfl|assumption|(simp only [inI,sl]<;>omega)))))
        refine Ret.call (r_SomeB bands l _ _ (by omega) (by omega) (by kernel_rfl) (by kernel_rfl)) ?_
        rintro _ ⟨b', rfl, hb'⟩
        (dsimp +instances only [gi0,gis,row1,rows1,int1,str1,bool1])
        exact Ret.some ⟨_, _, rfl, by omega, by omega, t, m, b', c, s, h, x, y, rfl, ht, ⟨by omega, by omega⟩, ⟨by omega, by omega⟩, ⟨by omega, by omega⟩, hb', hc, hx, hy⟩
      · refine Ret.neg (by simpa using k1) ?_
        by_cases k2 : k = 2
        · subst k2
          (repeat(first|(refine Ret.pos ?_ ?_;(first|rfl|assumption|(simp only [inI,sl]<;>omega)))|(refine Ret.neg ?_ ?_;(first|rfl|assumption|(simp only [inI,sl]<;>omega)))))
          refine Ret.call (r_Odd l _ 0 99999 (by omega) (by omega) (by omega) (by omega) (by omega)) ?_
          rintro _ ⟨s', rfl, hs'⟩
          (dsimp +instances only [gi0,gis,row1,rows1,int1,str1,bool1])
          refine Ret.call (r_Odd l _ 0 99999 (by omega) (by omega) (by omega) (by omega) (by omega)) ?_
          rintro _ ⟨h', rfl, hh'⟩
          (dsimp +instances only [gi0,gis,row1,rows1,int1,str1,bool1])
          exact Ret.some ⟨_, _, rfl, by omega, by omega, t, m, bd, c, s', h', x, y, rfl, ht, ⟨by omega, by omega⟩, ⟨by omega, by omega⟩, ⟨by omega, by omega⟩, hb, hc, hx, hy⟩
        · refine Ret.neg (by simpa using k2) ?_
          refine Ret.call (r_SomeB names l _ _ (by omega) (by omega) (by kernel_rfl) (by kernel_rfl)) ?_
          rintro _ ⟨x', rfl, hx'⟩
          (dsimp +instances only [gi0,gis,row1,rows1,int1,str1,bool1])
          refine Ret.call (r_SomeB names l _ _ (by omega) (by omega) (by kernel_rfl) (by kernel_rfl)) ?_
          rintro _ ⟨y', rfl, hy'⟩
          (dsimp +instances only [gi0,gis,row1,rows1,int1,str1,bool1])
          exact Ret.some ⟨_, _, rfl, by omega, by omega, t, m, bd, c, s, h, x', y', rfl, ht, ⟨by omega, by omega⟩, ⟨by omega, by omega⟩, ⟨by omega, by omega⟩, hb, hc, hx', hy'⟩
end
end Go.Proofs.SYtpfhjchbegdgdaaGreatDoor

namespace Go.Proofs.SYtpfhjchbegdgdaaGreatDoor
open Go Go.AL Go.Proofs
noncomputable section
def cmpI (a b : Int) : Int := if a < b then -1 else if b < a then 1 else 0
theorem compareBytes_zero : ∀ {a b : List UInt8}, Lib.compareBytes a b = 0 → a = b
  | [], [], _ => rfl
  | [], _ :: _, h => by simp [Lib.compareBytes] at h
  | _ :: _, [], h => by simp [Lib.compareBytes] at h
  | x :: a, y :: b, h => by
    unfold Lib.compareBytes at h
    split at h
    · cases h
    · split at h
      · cases h
      · rename_i h1 h2
        rw [compareBytes_zero h, UInt8.le_antisymm (UInt8.not_lt.1 h2) (UInt8.not_lt.1 h1)]
theorem compareBytes_self : ∀ a : List UInt8, Lib.compareBytes a a = 0
  | [] => rfl
  | x :: a => by simp [Lib.compareBytes, compareBytes_self a]
theorem str_eq (a b : ByteArray) : (a.toList == b.toList) = decide (cmpS a b = 0) := by
  rw [ByteArray.toList_eq, ByteArray.toList_eq, Bool.eq_iff_iff, decide_eq_true_eq, beq_iff_eq]
  constructor
  · intro h
    unfold cmpS
    rw [h]
    exact compareBytes_self _
  · exact fun h => compareBytes_zero h
def or4 (a b c d : Int) : Int := if a ≠ 0 then a else if b ≠ 0 then b else if c ≠ 0 then c else d
def ordC (r s : List G) : Int := or4 (cmpI (gi r 0).int (gi s 0).int) (cmpS (gi r 3).str (gi s 3).str) (cmpS (gi r 2).str (gi s 2).str) (cmpI (gi r 1).int (gi s 1).int)
theorem sign_eq (a b : Int) : F_pileref2_sign [.i (a - b)] = some [.i (cmpI a b)] := by
  refine Ret.toEq ?_
  unfold F_pileref2_sign cmpI
  (dsimp +instances only [gi0,gis,row1,rows1,int1,str1,bool1])
  by_cases h1 : a < b
  · (repeat(first|(refine Ret.pos ?_ ?_;(first|rfl|assumption|(simp only [inI,sl]<;>omega)))|(refine Ret.neg ?_ ?_;(first|rfl|assumption|(simp only [inI,sl]<;>omega)))))
    exact Ret.some (by simp [h1])
  · by_cases h2 : b < a
    · (repeat(first|(refine Ret.pos ?_ ?_;(first|rfl|assumption|(simp only [inI,sl]<;>omega)))|(refine Ret.neg ?_ ?_;(first|rfl|assumption|(simp only [inI,sl]<;>omega)))))
      exact Ret.some (by simp [h1, h2])
    · (repeat(first|(refine Ret.pos ?_ ?_;(first|rfl|assumption|(simp only [inI,sl]<;>omega)))|(refine Ret.neg ?_ ?_;(first|rfl|assumption|(simp only [inI,sl]<;>omega)))))
      exact Ret.some (by simp [h1, h2])
theorem order_eq {r s : List G} (hr : Con r) (hs : Con s) : F_pileref2_ContactOrder [.l [r], .l [s]] = some [.i (ordC r s)] := by
  obtain ⟨t, m, b, c, _, _, _, _, rfl, ht, hm, _⟩ := hr
  obtain ⟨t', m', b', c', _, _, _, _, rfl, ht', hm', _⟩ := hs
  unfold small at *
  refine Ret.toEq ?_
  unfold F_pileref2_ContactOrder ordC or4
  (dsimp +instances only [gi0,gis,row1,rows1,int1,str1,bool1])
  simp only [str_eq]
  by_cases e1 : t = t'
  · subst e1
    have z : cmpI t t = 0 := by simp [cmpI]
    simp only [z]
    (repeat(first|(refine Ret.pos ?_ ?_;(first|rfl|assumption|(simp only [inI,sl]<;>omega)))|(refine Ret.neg ?_ ?_;(first|rfl|assumption|(simp only [inI,sl]<;>omega)))))
    by_cases e2 : cmpS c c' = 0
    · simp only [e2]
      (repeat(first|(refine Ret.pos ?_ ?_;(first|rfl|assumption|(simp only [inI,sl]<;>omega)))|(refine Ret.neg ?_ ?_;(first|rfl|assumption|(simp only [inI,sl]<;>omega)))))
      by_cases e3 : cmpS b b' = 0
      · simp only [e3]
        (repeat(first|(refine Ret.pos ?_ ?_;(first|rfl|assumption|(simp only [inI,sl]<;>omega)))|(refine Ret.neg ?_ ?_;(first|rfl|assumption|(simp only [inI,sl]<;>omega)))))
        refine Ret.call (Ret.eq (sign_eq m m')) ?_
        rintro _ rfl
        (dsimp +instances only [gi0,gis,row1,rows1,int1,str1,bool1])
        exact Ret.some (by simp)
      · refine Ret.pos (by simpa using e3) (Ret.call (Ret.eq (rfl : F_strings_Compare [.s b, .s b'] = some [.i (cmpS b b')])) ?_)
        rintro _ rfl
        (dsimp +instances only [gi0,gis,row1,rows1,int1,str1,bool1])
        exact Ret.some (by simp [e3])
    · refine Ret.pos (by simpa using e2) (Ret.call (Ret.eq (rfl : F_strings_Compare [.s c, .s c'] = some [.i (cmpS c c')])) ?_)
      rintro _ rfl
      (dsimp +instances only [gi0,gis,row1,rows1,int1,str1,bool1])
      exact Ret.some (by simp [e2])
  · (repeat(first|(refine Ret.pos ?_ ?_;(first|rfl|assumption|(simp only [inI,sl]<;>omega)))|(refine Ret.neg ?_ ?_;(first|rfl|assumption|(simp only [inI,sl]<;>omega)))))
    refine Ret.call (Ret.eq (sign_eq t t')) ?_
    rintro _ rfl
    (dsimp +instances only [gi0,gis,row1,rows1,int1,str1,bool1])
    have z : cmpI t t' ≠ 0 := by
      unfold cmpI
      split
      · omega
      · split <;> omega
    exact Ret.some (by simp [z])
theorem cmpInt_eq (a b : Int) : F_cmp_Compare_int [.i a, .i b] = some [.i (cmpI a b)] := by
  refine Ret.toEq ?_
  unfold F_cmp_Compare_int F_cmp_isNaN_int cmpI
  (dsimp +instances only [gi0,gis,row1,rows1,int1,str1,bool1])
  simp only [bne_self_eq_false]
  refine Ret.call ⟨_, rfl, rfl⟩ ?_
  rintro _ rfl
  refine Ret.call ⟨_, rfl, rfl⟩ ?_
  rintro _ rfl
  (dsimp +instances only [gi0,gis,row1,rows1,int1,str1,bool1])
  (repeat(first|(refine Ret.pos ?_ ?_;(first|rfl|assumption|(simp only [inI,sl]<;>omega)))|(refine Ret.neg ?_ ?_;(first|rfl|assumption|(simp only [inI,sl]<;>omega)))))
  by_cases h1 : a < b
  · (repeat(first|(refine Ret.pos ?_ ?_;(first|rfl|assumption|(simp only [inI,sl]<;>omega)))|(refine Ret.neg ?_ ?_;(first|rfl|assumption|(simp only [inI,sl]<;>omega)))))
    exact Ret.some (by simp [h1])
  · by_cases h2 : b < a
    · (repeat(first|(refine Ret.pos ?_ ?_;(first|rfl|assumption|(simp only [inI,sl]<;>omega)))|(refine Ret.neg ?_ ?_;(first|rfl|assumption|(simp only [inI,sl]<;>omega)))))
      exact Ret.some (by simp [h1, h2])
    · (repeat(first|(refine Ret.pos ?_ ?_;(first|rfl|assumption|(simp only [inI,sl]<;>omega)))|(refine Ret.neg ?_ ?_;(first|rfl|assumption|(simp only [inI,sl]<;>omega)))))
      exact Ret.some (by simp [h1, h2])
def orL : List (List G) → Int
  | [] => 0
  | x :: q => if (gi x 0).int ≠ 0 then (gi x 0).int else orL q
theorem or_runs : ∀ (q p : List (List G)), p.length + q.length < 100000 →
    RetN st_cmp_Or_int_3 [.i 0, .l (p ++ q), .i ((p.length + q.length : Nat) : Int), .i (p.length : Int)] (q.length + 1) fun c g => c ≤ 1 ∧ g = [.i (orL q)]
  | [], p, hl => by
    refine RetN.stop (x := 1) (Ret.toEq ?_) ⟨by omega, rfl⟩
    unfold st_cmp_Or_int_3
    (dsimp +instances only [gi0,gis,row1,rows1,int1,str1,bool1])
    (repeat(first|(refine Ret.pos ?_ ?_;(first|rfl|assumption|(simp only [inI,sl]<;>omega)))|(refine Ret.neg ?_ ?_;(first|rfl|assumption|(simp only [inI,sl]<;>omega)))))
    exact Ret.some rfl
  | y :: q, p, hl => by
    simp only [List.length_cons] at hl
    have g1 : (p ++ y :: q).getD (p.length : Int).toNat [] = y := getD_mid _ _ _ _ _ (by simp)
    have hlen : (p ++ y :: q).length = p.length + q.length + 1 := by simp; omega
    by_cases he : (gi y 0).int = 0
    · have ih := or_runs q (p ++ [y]) (by simp; omega)
      have e : orL (y :: q) = orL q := by simp [orL, he]
      rw [e]
      refine RetN.next (Ret.toEq ?_) ih
      unfold st_cmp_Or_int_3
      (dsimp +instances only [gi0,gis,row1,rows1,int1,str1,bool1])
      simp only [g1, hlen, List.length_cons]
      (repeat(first|(refine Ret.pos ?_ ?_;(first|rfl|assumption|(simp only [inI,sl]<;>omega)))|(refine Ret.neg ?_ ?_;(first|rfl|assumption|(simp only [inI,sl]<;>omega)))))
      refine Ret.some ?_
      simp
      omega
    · refine RetN.stop (x := 0) (Ret.toEq ?_) ⟨by omega, rfl⟩
      unfold st_cmp_Or_int_3
      (dsimp +instances only [gi0,gis,row1,rows1,int1,str1,bool1])
      simp only [g1, hlen, List.length_cons]
      (repeat(first|(refine Ret.pos ?_ ?_;(first|rfl|assumption|(simp only [inI,sl]<;>omega)))|(refine Ret.neg ?_ ?_;(first|rfl|assumption|(simp only [inI,sl]<;>omega)))))
      refine Ret.some ?_
      simp [orL, he]
theorem or_eq (a b c d : Int) : F_cmp_Or_int [.l [[.i a], [.i b], [.i c], [.i d]]] = some [.i (or4 a b c d)] := by
  refine Ret.toEq ?_
  unfold F_cmp_Or_int
  (dsimp +instances only [gi0,gis,row1,rows1,int1,str1,bool1])
  have h := or_runs [[.i a], [.i b], [.i c], [.i d]] [] (by simp)
  refine Ret.loop (h.to (by simp)) (by (first|rfl|assumption|(simp only [inI,sl]<;>omega))) ?_
  rintro x g ⟨hx, rfl⟩
  have e : orL [[.i a], [.i b], [.i c], [.i d]] = or4 a b c d := by
    simp only [orL, or4]
    (dsimp +instances only [gi0,gis,row1,rows1,int1,str1,bool1])
    by_cases h1 : a = 0 <;> by_cases h2 : b = 0 <;> by_cases h3 : c = 0 <;> by_cases h4 : d = 0 <;> simp [h1, h2, h3, h4]
  rw [e]
  (dsimp +instances only [gi0,gis,row1,rows1,int1,str1,bool1])
  exact Ret.test (fun _ => Ret.some rfl) fun _ => Ret.some rfl
theorem compare_eq {r s : List G} (hr : Con r) (hs : Con s) : F_log_Compare [.l [r], .l [s]] = some [.i (ordC r s)] := by
  obtain ⟨t, m, b, c, _, _, _, _, rfl, ht, hm, _⟩ := hr
  obtain ⟨t', m', b', c', _, _, _, _, rfl, ht', hm', _⟩ := hs
  refine Ret.toEq ?_
  unfold F_log_Compare
  (dsimp +instances only [gi0,gis,row1,rows1,int1,str1,bool1])
  refine Ret.call (Ret.eq (cmpInt_eq t t')) ?_
  rintro _ rfl
  refine Ret.call (Ret.eq (rfl : F_strings_Compare [.s c, .s c'] = some [.i (cmpS c c')])) ?_
  rintro _ rfl
  refine Ret.call (Ret.eq (rfl : F_strings_Compare [.s b, .s b'] = some [.i (cmpS b b')])) ?_
  rintro _ rfl
  refine Ret.call (Ret.eq (cmpInt_eq m m')) ?_
  rintro _ rfl
  (dsimp +instances only [gi0,gis,row1,rows1,int1,str1,bool1])
  refine Ret.call (Ret.eq (or_eq _ _ _ _)) ?_
  rintro _ rfl
  exact Ret.some rfl
theorem cmpOrder : Cmp KContact F_pileref2_ContactOrder Con ordC := ⟨fun _ _ hr hs => order_eq hr hs, fun _ h => h.eta⟩
theorem cmpCompare : Cmp KContact F_log_Compare Con ordC := ⟨fun _ _ hr hs => compare_eq hr hs, fun _ h => h.eta⟩
end
end Go.Proofs.SYtpfhjchbegdgdaaGreatDoor

namespace Go.Proofs.SYtpfhjchbegdgdaaGreatDoor
open Go Go.AL Go.Proofs
noncomputable section
def inB (v lo hi : Int) : Bool := leI lo v && leI v hi
theorem in_eq (v lo hi : Int) : F_pileref2_in [.i v, .i lo, .i hi] = some [.t (inB v lo hi)] := by
  unfold F_pileref2_in inB
  (dsimp +instances only [gi0,gis,row1,rows1,int1,str1,bool1])
  cases leI lo v <;> rfl
theorem outside_eq (v lo hi : Int) : F_kit_Outside [.i v, .i lo, .i hi] = some [.t (!inB v lo hi)] := by
  unfold F_kit_Outside inB
  (dsimp +instances only [gi0,gis,row1,rows1,int1,str1,bool1])
  have h1 : ltI v lo = !leI lo v := by rw [ltI_eq, leI_eq, Bool.eq_iff_iff]; simp
  have h2 : ltI hi v = !leI v hi := by rw [ltI_eq, leI_eq, Bool.eq_iff_iff]; simp
  rw [h1, h2]
  cases leI lo v <;> cases leI v hi <;> rfl
def okKey (s : ByteArray) : Bool := inL [⟨#[98, 50, 48]⟩, ⟨#[98, 52, 48]⟩, ⟨#[102, 105, 110]⟩, ⟨#[117, 115, 97]⟩] s
def okName (s : ByteArray) : Bool := inL [⟨#[]⟩] s || okKey s
def okCall (s : ByteArray) : Bool := (gi ((F_call_Is [.s s]).getD []) 0).bool
theorem isKey_eq {s : ByteArray} (h : s ∈ bands ∨ s ∈ names) : F_kit_IsKey [.s s] = some [.t (okKey s)] := by
  simp only [bands, names, List.mem_cons, List.not_mem_nil, or_false] at h
  rcases h with (rfl | rfl | rfl | rfl) | (rfl | rfl | rfl | rfl | rfl) <;> kernel_rfl
theorem key_eq {s : ByteArray} (h : s ∈ bands ∨ s ∈ names) : F_pileref2_Key [.s s] = some [.t (okKey s)] := by
  simp only [bands, names, List.mem_cons, List.not_mem_nil, or_false] at h
  rcases h with (rfl | rfl | rfl | rfl) | (rfl | rfl | rfl | rfl | rfl) <;> kernel_rfl
theorem isName_eq {s : ByteArray} (h : s ∈ names) : F_kit_IsName [.s s] = some [.t (okName s)] := by
  simp only [names, List.mem_cons, List.not_mem_nil, or_false] at h
  rcases h with (rfl | rfl | rfl | rfl | rfl) <;> kernel_rfl
theorem isCall_eq {s : ByteArray} (h : s ∈ calls) : F_call_Is [.s s] = some [.t (okCall s)] := by
  simp only [calls, List.mem_cons, List.not_mem_nil, or_false] at h
  rcases h with (rfl | rfl | rfl | rfl | rfl | rfl | rfl | rfl | rfl | rfl | rfl | rfl | rfl | rfl) <;> kernel_rfl
theorem call_eq {s : ByteArray} (h : s ∈ calls) : F_pileref2_Call [.s s] = some [.t (okCall s)] := by
  simp only [calls, List.mem_cons, List.not_mem_nil, or_false] at h
  rcases h with (rfl | rfl | rfl | rfl | rfl | rfl | rfl | rfl | rfl | rfl | rfl | rfl | rfl | rfl) <;> kernel_rfl
def faultC (r : List G) : Int :=
  bif !inB (gi r 0).int 0 345686399999 then 1 else bif !inB (gi r 1).int 1 3 then 4 else bif !okKey (gi r 2).str then 5 else bif !okCall (gi r 3).str then 3 else
  bif !inB (gi r 4).int 0 99999 then 1 else bif !inB (gi r 5).int 0 99999 then 1 else bif !okName (gi r 6).str then 5 else bif !okName (gi r 7).str then 5 else 0
theorem check_eq {r : List G} (hr : Con r) : F_log_CheckContact [.l [r]] = some [.i (faultC r)] := by
  obtain ⟨t, m, b, c, s, h, x, y, rfl, _, _, _, _, hb, hc, hx, hy⟩ := hr
  unfold F_log_CheckContact F_kit_IsMoment F_kit_IsMode faultC
  (dsimp +instances only [gi0,gis,row1,rows1,int1,str1,bool1])
  have kb := isKey_eq (.inl hb)
  have kx := isName_eq hx
  have ky := isName_eq hy
  have kc := isCall_eq hc
  rw [outside_eq t, outside_eq m]
  rw [kb, kc, outside_eq s, outside_eq h, kx, ky]
  generalize inB t 0 345686399999 = b1
  generalize inB m 1 3 = b2
  generalize okKey b = b3
  generalize okCall c = b4
  generalize inB s 0 99999 = b5
  generalize inB h 0 99999 = b6
  generalize okName x = b7
  generalize okName y = b8
  cases b1 <;> cases b2 <;> cases b3 <;> cases b4 <;> cases b5 <;> cases b6 <;> cases b7 <;> cases b8 <;> rfl
theorem empty_eq (s : ByteArray) : (s.toList == (⟨#[]⟩ : ByteArray).toList) = inL [⟨#[]⟩] s := by
  rw [ByteArray.toList_eq, ByteArray.toList_eq]
  simp only [inL, eqS, List.any_cons, List.any_nil, Bool.or_false]
  rw [Bool.eq_iff_iff]
  simp only [beq_iff_eq]
  exact eq_comm
theorem fault_eq {r : List G} (hr : Con r) : F_pileref2_ContactFault [.l [r]] = some [.i (faultC r)] := by
  obtain ⟨t, m, b, c, s, h, x, y, rfl, _, _, _, _, hb, hc, hx, hy⟩ := hr
  unfold F_pileref2_ContactFault F_pileref2_Moment faultC okName
  (dsimp +instances only [gi0,gis,row1,rows1,int1,str1,bool1])
  have kb := key_eq (.inl hb)
  have kx := key_eq (.inr hx)
  have ky := key_eq (.inr hy)
  have kc := call_eq hc
  have ex := empty_eq x
  have ey := empty_eq y
  generalize (⟨#[]⟩ : ByteArray) = z at ex ey ⊢
  simp only [in_eq, callF_some rfl, kb, kc, kx, ky]
  (dsimp +instances only [gi0,gis,row1,rows1,int1,str1,bool1])
  rw [ex, ey]
  generalize inB t 0 345686399999 = b1
  generalize inB m 1 3 = b2
  generalize okKey b = b3
  generalize okCall c = b4
  generalize inB s 0 99999 = b5
  generalize inB h 0 99999 = b6
  generalize okKey x = b7
  generalize okKey y = b8
  generalize inL [z] x = b9
  generalize inL [z] y = b10
  cases b1 <;> cases b2 <;> cases b3 <;> cases b4 <;> cases b5 <;> cases b6 <;> cases b7 <;> cases b8 <;> cases b9 <;> cases b10 <;> rfl
end
end Go.Proofs.SYtpfhjchbegdgdaaGreatDoor

namespace Go.Proofs.SYtpfhjchbegdgdaaGreatDoor
open Go Go.AL Go.Proofs
noncomputable section
def chk4 (K : List Kd) (C D : List G → Option (List G)) (d : List G) : Option (Option Nat × List G) :=
  (bif (ltI (gi d 3).int (gi d 2).int) then (bif ((nnI (gi d 3).int) && (ltI (gi d 3).int (((gi d 1).rows.length : Nat) : Int))) then (callF (C [.l [(gEta K ((gi d 1).rows.getD (((gi d 3).int).toNat) []))]]) fun g1 => (bif ((gi g1 0).int != 0) then some (some 0, [.i (gi g1 0).int]) else (bif (ltI 0 (gi d 3).int) then (bif (inI ((gi d 3).int - 1)) then (bif ((nnI ((gi d 3).int - 1)) && (ltI ((gi d 3).int - 1) (((gi d 0).rows.length : Nat) : Int))) then (callF (D [.l [(gEta K ((gi d 0).rows.getD (((gi d 3).int - 1).toNat) []))], .l [(gEta K ((gi d 1).rows.getD (((gi d 3).int).toNat) []))]]) fun g2 => (bif (leI 0 (gi g2 0).int) then some (some 0, [.i 7]) else (bif (inI ((gi d 3).int + 1)) then some (none, [.l (gi d 0).rows, .l (gi d 1).rows, .i (gi d 2).int, .i ((gi d 3).int + 1)]) else none))) else none) else none) else (bif (inI ((gi d 3).int + 1)) then some (none, [.l (gi d 0).rows, .l (gi d 1).rows, .i (gi d 2).int, .i ((gi d 3).int + 1)]) else none)))) else none) else some (some 1, []))
def chkF (K : List Kd) (C D : List G → Option (List G)) (d : List G) : Option (List G) :=
  (bif (ltI 2000 (((gi d 0).rows.length : Nat) : Int)) then some [.i 2] else (loopB true (LRun (chk4 K C D) [.l (gi d 0).rows, .l (gi d 0).rows, .i (((gi d 0).rows.length : Nat) : Int), .i 0]) fun cg3 g3 => (bif Nat.beq cg3 0 then some [.i (gi g3 0).int] else some [.i 0])))
def faultL : Option (List G) → List (List G) → Int
  | _, [] => 0
  | none, x :: q => if faultC x ≠ 0 then faultC x else faultL (some x) q
  | some y, x :: q => if faultC x ≠ 0 then faultC x else if 0 ≤ ordC y x then 7 else faultL (some x) q
def faultLog (l : List (List G)) : Int := if 2000 < l.length then 2 else faultL none l
section
variable {C D : List G → Option (List G)} (hC : ∀ r, Con r → C [.l [r]] = some [.i (faultC r)]) (hD : ∀ r s, Con r → Con s → D [.l [r], .l [s]] = some [.i (ordC r s)])
include hC hD
theorem chk4_runs : ∀ (q p : List (List G)), (∀ z ∈ p ++ q, Con z) → p.length + q.length < 100000 →
    RetN (chk4 KContact C D) [.l (p ++ q), .l (p ++ q), .i ((p.length + q.length : Nat) : Int), .i (p.length : Int)] (q.length + 1) fun c g => (c = 0 ∧ g = [.i (faultL p.getLast? q)]) ∨ c = 1 ∧ faultL p.getLast? q = 0
  | [], p, hQ, hl => by
    refine RetN.stop (x := 1) (d' := []) (Ret.toEq ?_) (.inr ⟨rfl, by unfold faultL; rfl⟩)
    unfold chk4
    (dsimp +instances only [gi0,gis,row1,rows1,int1,str1,bool1])
    (repeat(first|(refine Ret.pos ?_ ?_;(first|rfl|assumption|(simp only [inI,sl]<;>omega)))|(refine Ret.neg ?_ ?_;(first|rfl|assumption|(simp only [inI,sl]<;>omega)))))
    exact Ret.some rfl
  | x :: q, p, hQ, hl => by
    simp only [List.length_cons] at hl
    have hx : Con x := hQ x (by simp)
    have g1 : (p ++ x :: q).getD (p.length : Int).toNat [] = x := getD_mid _ _ _ _ _ (by simp)
    have hlen : (p ++ x :: q).length = p.length + q.length + 1 := by simp; omega
    by_cases hf : faultC x = 0
    · have ih := chk4_runs q (p ++ [x]) (by simpa using hQ) (by simp; omega)
      rw [List.getLast?_concat] at ih
      rcases List.eq_nil_or_concat p with rfl | ⟨p', y, rfl⟩
      · have e : faultL ([] : List (List G)).getLast? (x :: q) = faultL (some x) q := by simp [faultL, hf]
        rw [e]
        refine RetN.next (Ret.toEq ?_) ih
        unfold chk4
        (dsimp +instances only [gi0,gis,row1,rows1,int1,str1,bool1])
        simp only [g1, hlen, List.length_cons, hx.eta]
        (repeat(first|(refine Ret.pos ?_ ?_;(first|rfl|assumption|(simp only [inI,sl]<;>omega)))|(refine Ret.neg ?_ ?_;(first|rfl|assumption|(simp only [inI,sl]<;>omega)))))
        refine Ret.call (Ret.eq (hC x hx)) ?_
        rintro _ rfl
        (dsimp +instances only [gi0,gis,row1,rows1,int1,str1,bool1])
        simp only [hf]
        (repeat(first|(refine Ret.pos ?_ ?_;(first|rfl|assumption|(simp only [inI,sl]<;>omega)))|(refine Ret.neg ?_ ?_;(first|rfl|assumption|(simp only [inI,sl]<;>omega)))))
        refine Ret.some ?_
        simp
        omega
      · rw [List.concat_eq_append] at *
        have hy : Con y := hQ y (by simp)
        have g2 : ((p' ++ [y]) ++ x :: q).getD (((p' ++ [y]).length : Int) - 1).toNat [] = y := by
          have e : (p' ++ [y]) ++ x :: q = p' ++ y :: x :: q := by simp
          rw [e]; exact getD_mid _ _ _ _ _ (by simp)
        have hp : (p' ++ [y]).length = p'.length + 1 := by simp
        have hl0 : (p' ++ [y]).getLast? = some y := by simp
        rw [hl0]
        by_cases ho : 0 ≤ ordC y x
        · refine RetN.stop (x := 0) (d' := [.i 7]) (Ret.toEq ?_) (.inl ⟨rfl, by simp [faultL, hf, ho]⟩)
          unfold chk4
          (dsimp +instances only [gi0,gis,row1,rows1,int1,str1,bool1])
          simp only [g1, g2, hlen, List.length_cons, hx.eta, hy.eta]
          (repeat(first|(refine Ret.pos ?_ ?_;(first|rfl|assumption|(simp only [inI,sl]<;>omega)))|(refine Ret.neg ?_ ?_;(first|rfl|assumption|(simp only [inI,sl]<;>omega)))))
          refine Ret.call (Ret.eq (hC x hx)) ?_
          rintro _ rfl
          (dsimp +instances only [gi0,gis,row1,rows1,int1,str1,bool1])
          simp only [hf]
          (repeat(first|(refine Ret.pos ?_ ?_;(first|rfl|assumption|(simp only [inI,sl]<;>omega)))|(refine Ret.neg ?_ ?_;(first|rfl|assumption|(simp only [inI,sl]<;>omega)))))
          refine Ret.call (Ret.eq (hD y x hy hx)) ?_
          rintro _ rfl
          (dsimp +instances only [gi0,gis,row1,rows1,int1,str1,bool1])
          (repeat(first|(refine Ret.pos ?_ ?_;(first|rfl|assumption|(simp only [inI,sl]<;>omega)))|(refine Ret.neg ?_ ?_;(first|rfl|assumption|(simp only [inI,sl]<;>omega)))))
          exact Ret.some rfl
        · have e : faultL (some y) (x :: q) = faultL (some x) q := by simp [faultL, hf, ho]
          rw [e]
          refine RetN.next (Ret.toEq ?_) ih
          unfold chk4
          (dsimp +instances only [gi0,gis,row1,rows1,int1,str1,bool1])
          simp only [g1, g2, hlen, List.length_cons, hx.eta, hy.eta]
          (repeat(first|(refine Ret.pos ?_ ?_;(first|rfl|assumption|(simp only [inI,sl]<;>omega)))|(refine Ret.neg ?_ ?_;(first|rfl|assumption|(simp only [inI,sl]<;>omega)))))
          refine Ret.call (Ret.eq (hC x hx)) ?_
          rintro _ rfl
          (dsimp +instances only [gi0,gis,row1,rows1,int1,str1,bool1])
          simp only [hf]
          (repeat(first|(refine Ret.pos ?_ ?_;(first|rfl|assumption|(simp only [inI,sl]<;>omega)))|(refine Ret.neg ?_ ?_;(first|rfl|assumption|(simp only [inI,sl]<;>omega)))))
          refine Ret.call (Ret.eq (hD y x hy hx)) ?_
          rintro _ rfl
          (dsimp +instances only [gi0,gis,row1,rows1,int1,str1,bool1])
          (repeat(first|(refine Ret.pos ?_ ?_;(first|rfl|assumption|(simp only [inI,sl]<;>omega)))|(refine Ret.neg ?_ ?_;(first|rfl|assumption|(simp only [inI,sl]<;>omega)))))
          refine Ret.some ?_
          simp
          omega
    · refine RetN.stop (x := 0) (d' := [.i (faultC x)]) (Ret.toEq ?_) (.inl ⟨rfl, by cases hg : p.getLast? <;> simp [faultL, hf]⟩)
      unfold chk4
      (dsimp +instances only [gi0,gis,row1,rows1,int1,str1,bool1])
      simp only [g1, hlen, List.length_cons, hx.eta]
      (repeat(first|(refine Ret.pos ?_ ?_;(first|rfl|assumption|(simp only [inI,sl]<;>omega)))|(refine Ret.neg ?_ ?_;(first|rfl|assumption|(simp only [inI,sl]<;>omega)))))
      refine Ret.call (Ret.eq (hC x hx)) ?_
      rintro _ rfl
      (dsimp +instances only [gi0,gis,row1,rows1,int1,str1,bool1])
      refine Ret.pos (by simpa using hf) (Ret.some rfl)
theorem chkF_eq (l : List (List G)) (hl : ∀ z ∈ l, Con z) (hn : l.length < 100000) : chkF KContact C D [.l l] = some [.i (faultLog l)] := by
  refine Ret.toEq ?_
  unfold chkF faultLog
  (dsimp +instances only [gi0,gis,row1,rows1,int1,str1,bool1])
  by_cases h : 2000 < l.length
  · (repeat(first|(refine Ret.pos ?_ ?_;(first|rfl|assumption|(simp only [inI,sl]<;>omega)))|(refine Ret.neg ?_ ?_;(first|rfl|assumption|(simp only [inI,sl]<;>omega)))))
    exact Ret.some (by simp [h])
  · (repeat(first|(refine Ret.pos ?_ ?_;(first|rfl|assumption|(simp only [inI,sl]<;>omega)))|(refine Ret.neg ?_ ?_;(first|rfl|assumption|(simp only [inI,sl]<;>omega)))))
    have h1 := chk4_runs hC hD l [] (by simpa using hl) (by simpa using hn)
    have h0 : ((0 : Nat) : Int) = 0 := rfl
    simp only [List.nil_append, List.length_nil, Nat.zero_add, h0] at h1
    refine Ret.loop (h1.to (by omega)) (by (first|rfl|assumption|(simp only [inI,sl]<;>omega))) ?_
    rintro c g (⟨rfl, rfl⟩ | ⟨rfl, h2⟩)
    · (dsimp +instances only [gi0,gis,row1,rows1,int1,str1,bool1])
      (repeat(first|(refine Ret.pos ?_ ?_;(first|rfl|assumption|(simp only [inI,sl]<;>omega)))|(refine Ret.neg ?_ ?_;(first|rfl|assumption|(simp only [inI,sl]<;>omega)))))
      refine Ret.some ?_
      rw [if_neg h]
      rfl
    · (repeat(first|(refine Ret.pos ?_ ?_;(first|rfl|assumption|(simp only [inI,sl]<;>omega)))|(refine Ret.neg ?_ ?_;(first|rfl|assumption|(simp only [inI,sl]<;>omega)))))
      refine Ret.some ?_
      rw [if_neg h]
      exact congrArg (fun z => [G.i z]) h2.symm
end
theorem checkLog_eq (l : List (List G)) (hl : ∀ z ∈ l, Con z) (hn : l.length < 100000) : F_log_CheckLog [.l l] = some [.i (faultLog l)] :=
  chkF_eq (fun _ h => check_eq h) (fun _ _ h h' => compare_eq h h') l hl hn
theorem logFault_eq (l : List (List G)) (hl : ∀ z ∈ l, Con z) (hn : l.length < 100000) : F_pileref2_LogFault [.l l] = some [.i (faultLog l)] :=
  chkF_eq (fun _ h => fault_eq h) (fun _ _ h h' => order_eq h h') l hl hn
end
end Go.Proofs.SYtpfhjchbegdgdaaGreatDoor

namespace Go.Proofs.SYtpfhjchbegdgdaaGreatDoor
open Go Go.AL Go.Proofs
noncomputable section
theorem loop_Contacts (l : List (List G)) (n : Nat) (hn : n ≤ 20) : ∀ (k i : Nat) (a t : Int) (acc : List (List G)), i + k = n → 0 ≤ a → a ≤ 700000 + 21 * i → -(1500000 * (i : Int)) ≤ t → t ≤ 1500000 * (i : Int) → (∀ z ∈ acc, ConT z) → acc.length = i →
    RetN st_pilemake_Stream_Contacts_4 [.l l, .i a, .l acc, .i t, .i (n : Int), .i (i : Int)] (k + 1) fun c g => c = 0 ∧ ∃ b rows, g = [.l l, .i b, .l rows] ∧ a ≤ b ∧ b ≤ a + 21 * k ∧ (∀ z ∈ rows, ConT z) ∧ rows.length = n
  | 0, i, a, t, acc, hi, ha, ha1, ht, ht1, hQ, hl => by
    refine RetN.stop (x := 0) (Ret.toEq ?_) ⟨rfl, a, acc, rfl, by omega, by omega, hQ, by omega⟩
    unfold st_pilemake_Stream_Contacts_4
    (dsimp +instances only [gi0,gis,row1,rows1,int1,str1,bool1])
    (repeat(first|(refine Ret.pos ?_ ?_;(first|rfl|assumption|(simp only [inI,sl]<;>omega)))|(refine Ret.neg ?_ ?_;(first|rfl|assumption|(simp only [inI,sl]<;>omega)))))
    exact Ret.some rfl
  | k + 1, i, a, t, acc, hi, ha, ha1, ht, ht1, hQ, hl => by
    have key : Ret (st_pilemake_Stream_Contacts_4 [.l l, .i a, .l acc, .i t, .i (n : Int), .i (i : Int)]) fun o => ∃ b r v, o = (none, [.l l, .i b, .l (acc ++ [r]), .i (t + v), .i (n : Int), .i ((i : Int) + 1)]) ∧ a ≤ b ∧ b ≤ a + 21 ∧ ConT r ∧ 0 ≤ v ∧ v ≤ 1500000 := by
      unfold st_pilemake_Stream_Contacts_4
      (dsimp +instances only [gi0,gis,row1,rows1,int1,str1,bool1])
      (repeat(first|(refine Ret.pos ?_ ?_;(first|rfl|assumption|(simp only [inI,sl]<;>omega)))|(refine Ret.neg ?_ ?_;(first|rfl|assumption|(simp only [inI,sl]<;>omega)))))
      refine Ret.call (r_PickB 0 1500000 l a _ ha (by omega) (by kernel_rfl) (by kernel_rfl)) ?_
      rintro _ ⟨v, rfl, hv0, hv1⟩
      (dsimp +instances only [gi0,gis,row1,rows1,int1,str1,bool1])
      (repeat(first|(refine Ret.pos ?_ ?_;(first|rfl|assumption|(simp only [inI,sl]<;>omega)))|(refine Ret.neg ?_ ?_;(first|rfl|assumption|(simp only [inI,sl]<;>omega)))))
      refine Ret.call (r_SomeContact l (a + 1) (t + v) (by omega) (by omega) ⟨by omega, by omega⟩) ?_
      rintro _ ⟨b, r, rfl, hb0, hb1, hr⟩
      (dsimp +instances only [gi0,gis,row1,rows1,int1,str1,bool1])
      simp only [hr.to.eta]
      (repeat(first|(refine Ret.pos ?_ ?_;(first|rfl|assumption|(simp only [inI,sl]<;>omega)))|(refine Ret.neg ?_ ?_;(first|rfl|assumption|(simp only [inI,sl]<;>omega)))))
      exact Ret.some ⟨b, r, v, rfl, by omega, by omega, hr, hv0, hv1⟩
    obtain ⟨_, h, b, r, v, rfl, h1, h2, h3, h4, h5⟩ := key
    have ih := loop_Contacts l n hn k (i + 1) b (t + v) (acc ++ [r]) (by omega) (by omega) (by omega) (by omega) (by omega) (by
      intro z hz
      rcases List.mem_append.1 hz with hz | hz
      · exact hQ z hz
      · simp at hz; exact hz ▸ h3) (by simp [hl])
    refine RetN.next h (ih.mono ?_)
    rintro c g ⟨rfl, b', rows, rfl, q1, q2, q3, q4⟩
    exact ⟨rfl, b', rows, rfl, by omega, by omega, q3, q4⟩
theorem sortOrder_eq (rows : List (List G)) (hr : ∀ y ∈ rows, Con y) (hn : rows.length ≤ 20) : F_slices_SortStableFunc_Contact [.l rows] = some [.l (sortA (ltC ordC) rows)] :=
  sortF_eq cmpOrder rows hr hn
def sameC (r s : List G) : Bool := ordC r s == 0
theorem eqvOrder : Eqv KContact F_pilemake_Stream_Contacts_1 Con sameC := ⟨fun r s hr hs => by
  refine Ret.toEq ?_
  unfold F_pilemake_Stream_Contacts_1
  (dsimp +instances only [gi0,gis,row1,rows1,int1,str1,bool1])
  simp only [hr.eta, hs.eta]
  refine Ret.call (Ret.eq (order_eq hr hs)) ?_
  rintro _ rfl
  exact Ret.some rfl, fun _ h => h.eta⟩
def zC : List G := [.i 0, .i 0, .s (⟨#[]⟩ : ByteArray), .s (⟨#[]⟩ : ByteArray), .i 0, .i 0, .s (⟨#[]⟩ : ByteArray), .s (⟨#[]⟩ : ByteArray)]
theorem r_Contacts (l : List (List G)) (a n : Int) (ha : 0 ≤ a) (ha1 : a ≤ 700000) (h0 : 0 ≤ n) (h1 : n ≤ 20) :
    Ret (F_pilemake_Stream_Contacts [.l l, .i a, .i n]) fun g => ∃ b rows, g = [.l l, .i b, .l rows] ∧ a ≤ b ∧ b ≤ a + 420 ∧ (∀ z ∈ rows, ConT z) ∧ (rows.length : Int) ≤ n := by
  obtain ⟨n, rfl⟩ := Int.eq_ofNat_of_zero_le h0
  unfold F_pilemake_Stream_Contacts
  (dsimp +instances only [gi0,gis,row1,rows1,int1,str1,bool1])
  have hl := loop_Contacts l n (by omega) n 0 a 0 [] (by omega) ha (by omega) (by omega) (by omega) (by simp) rfl
  refine Ret.loop (hl.to (by omega)) (by (first|rfl|assumption|(simp only [inI,sl]<;>omega))) ?_
  rintro c g ⟨rfl, b, rows, rfl, h2, h3, h4, h5⟩
  (dsimp +instances only [gi0,gis,row1,rows1,int1,str1,bool1])
  refine Ret.callb (Ret.eq (sortOrder_eq rows (fun z hz => (h4 z hz).to) (by omega))) (by (first|rfl|assumption|(simp only [inI,sl]<;>omega))) ?_
  rintro _ rfl
  (dsimp +instances only [gi0,gis,row1,rows1,int1,str1,bool1])
  have hs := sortA_all (lt := ltC ordC) h4
  have hsl := sortA_length (ltC ordC) rows
  refine Ret.callb (P := fun g => ∃ J, g = [.l (compact sameC (sortA (ltC ordC) rows) ++ J), .i ((compact sameC (sortA (ltC ordC) rows)).length : Int)] ∧ (compact sameC (sortA (ltC ordC) rows) ++ J).length = (sortA (ltC ordC) rows).length)
    (cmpfF_eq (Z := zC) eqvOrder (sortA (ltC ordC) rows) (fun z hz => (hs z hz).to) (by omega)) (by (first|rfl|assumption|(simp only [inI,sl]<;>omega))) ?_
  rintro _ ⟨J, rfl, hJ⟩
  (dsimp +instances only [gi0,gis,row1,rows1,int1,str1,bool1])
  have hle : (compact sameC (sortA (ltC ordC) rows)).length ≤ (sortA (ltC ordC) rows).length := compact_length _ _
  simp only [hJ]
  (repeat(first|(refine Ret.pos ?_ ?_;(first|rfl|assumption|(simp only [inI,sl]<;>omega)))|(refine Ret.neg ?_ ?_;(first|rfl|assumption|(simp only [inI,sl]<;>omega)))))
  refine Ret.some ⟨b, compact sameC (sortA (ltC ordC) rows), by simp, by omega, by omega, fun z hz => hs z (compact_mem hz), by omega⟩
end
end Go.Proofs.SYtpfhjchbegdgdaaGreatDoor

namespace Go.Proofs.SYtpfhjchbegdgdaaGreatDoor
open Go Go.AL Go.Proofs
noncomputable section
structure SerOK (s : List (List G) × List (List G)) (i : Nat) : Prop where
  l1 : s.1.length ≤ i
  l2 : s.2.length ≤ i
  r1 : ∀ r ∈ s.1, ∃ a b, r = [.i a, .i b] ∧ 0 ≤ b ∧ b ≤ i + 1
  r2 : ∀ r ∈ s.2, ∃ a, r = [.i a]
theorem bf_false {a b : Int} (h : a ≠ b) : (a == b) = false := by simpa using h
theorem bf_true {a b : Int} (h : a = b) : (a == b) = true := by simpa using h
end
end Go.Proofs.SYtpfhjchbegdgdaaGreatDoor

namespace Go.Proofs.SYtpfhjchbegdgdaaGreatDoor
open Go Go.AL Go.Proofs
noncomputable section
def Row8 (r : List G) : Prop := ∃ (t m : Int) (b c : ByteArray) (s h : Int) (x y : ByteArray), r = [.i t, .i m, .s b, .s c, .i s, .i h, .s x, .s y]
theorem Con.row {r : List G} (h : Con r) : Row8 r := by
  obtain ⟨t, m, b, c, s, h, x, y, e, _⟩ := h
  exact ⟨t, m, b, c, s, h, x, y, e⟩
theorem Row8.eta {r : List G} (h : Row8 r) : gEta KContact r = r := by
  obtain ⟨t, m, b, c, s, h, x, y, rfl⟩ := h
  rfl
theorem Row8.put {r : List G} (h : Row8 r) (n : Int) : Row8 (putG KContact r 4 [.i n]) := by
  obtain ⟨t, m, b, c, s, h, x, y, rfl⟩ := h
  exact ⟨t, m, b, c, n, h, x, y, rfl⟩
theorem kds8 : Kds KContact Row8 := ⟨fun _ h => h.eta⟩
/-! ### Duplicates -/
end
end Go.Proofs.SYtpfhjchbegdgdaaGreatDoor

namespace Go.Proofs.SYtpfhjchbegdgdaaGreatDoor
open Go Go.AL Go.Proofs
noncomputable section
def has (a b t : Int) : Bool := leI a t && ltI t b
def firstE : List Int → Int
  | [] => 0
  | x :: q => bif x != 0 then x else firstE q
theorem errs_runs : ∀ (q p : List (List G)) (xs : List Int), q = xs.map (fun x => [G.i x]) → p.length + q.length < 100000 →
    RetN st_pilekeep2_errs_2 [.l (p ++ q), .i ((p.length + q.length : Nat) : Int), .i (p.length : Int)] (q.length + 1) fun c g => (c = 0 ∧ g = [.i (firstE xs)]) ∨ c = 1 ∧ firstE xs = 0
  | [], p, xs, hq, hl => by
    have : xs = [] := by
      cases xs with
      | nil => rfl
      | cons x xs => simp at hq
    subst this
    refine RetN.stop (x := 1) (d' := []) (Ret.toEq ?_) (.inr ⟨rfl, rfl⟩)
    unfold st_pilekeep2_errs_2
    (dsimp +instances only [gi0,gis,row1,rows1,int1,str1,bool1])
    (repeat(first|(refine Ret.pos ?_ ?_;(first|rfl|assumption|(simp only [inI,sl]<;>omega)))|(refine Ret.neg ?_ ?_;(first|rfl|assumption|(simp only [inI,sl]<;>omega)))))
    exact Ret.some rfl
  | y :: q, p, xs, hq, hl => by
    match xs, hq with
    | x :: xs, hq2 =>
      have h := hq2
      simp only [List.map_cons, List.cons.injEq] at h
      obtain ⟨rfl, hq3⟩ := h
      simp only [List.length_cons] at hl
      have g1 : (p ++ [.i x] :: q).getD (p.length : Int).toNat [] = [.i x] := getD_mid _ _ _ _ _ (by simp)
      have hlen : (p ++ [.i x] :: q).length = p.length + q.length + 1 := by simp; omega
      by_cases hx : x = 0
      · have ih := errs_runs q (p ++ [[.i x]]) xs hq3 (by simp; omega)
        subst hx
        have e : firstE (0 :: xs) = firstE xs := rfl
        rw [e]
        refine RetN.next (Ret.toEq ?_) ih
        unfold st_pilekeep2_errs_2
        (dsimp +instances only [gi0,gis,row1,rows1,int1,str1,bool1])
        simp only [g1, hlen, List.length_cons]
        (dsimp +instances only [gi0,gis,row1,rows1,int1,str1,bool1])
        (repeat(first|(refine Ret.pos ?_ ?_;(first|rfl|assumption|(simp only [inI,sl]<;>omega)))|(refine Ret.neg ?_ ?_;(first|rfl|assumption|(simp only [inI,sl]<;>omega)))))
        refine Ret.some ?_
        simp
        omega
      · have hb : (x != 0) = true := by simpa using hx
        refine RetN.stop (x := 0) (d' := [.i x]) (Ret.toEq ?_) (.inl ⟨rfl, by simp only [firstE, hb, cond_true]⟩)
        unfold st_pilekeep2_errs_2
        (dsimp +instances only [gi0,gis,row1,rows1,int1,str1,bool1])
        simp only [g1, hlen, List.length_cons]
        (dsimp +instances only [gi0,gis,row1,rows1,int1,str1,bool1])
        refine Ret.pos (by (first|rfl|assumption|(simp only [inI,sl]<;>omega))) (Ret.pos (by (first|rfl|assumption|(simp only [inI,sl]<;>omega))) (Ret.pos hb (Ret.some rfl)))
theorem errs_eq (xs : List Int) (h : xs.length < 1000) : F_pilekeep2_errs [.l (xs.map fun x => [.i x])] = some [.i (firstE xs)] := by
  refine Ret.toEq ?_
  unfold F_pilekeep2_errs
  (dsimp +instances only [gi0,gis,row1,rows1,int1,str1,bool1])
  have h1 := errs_runs (xs.map fun x => [G.i x]) [] xs rfl (by simp; omega)
  have h0 : ((0 : Nat) : Int) = 0 := rfl
  simp only [List.nil_append, List.length_nil, Nat.zero_add, h0] at h1
  refine Ret.loop (h1.to (by simp; omega)) rfl ?_
  rintro c g (⟨rfl, rfl⟩ | ⟨rfl, h⟩)
  · exact Ret.some rfl
  · exact Ret.some (by rw [h])
/-! ### Pauses -/
structure PauseOK (s : List (List G) × Int) (i : Nat) : Prop where
  len : s.1.length ≤ i
  rows : ∀ r ∈ s.1, ∃ a b, r = [.i a, .i b]
  at0 : 0 ≤ s.2
  at1 : s.2 ≤ 345686400000
/-! ### Hours -/
structure HourOK (s : List (List G)) (n i : Nat) : Prop where
  len : s.length = n
  rows : ∀ r ∈ s, ∃ v, r = [.i v] ∧ 0 ≤ v ∧ v ≤ i
end
end Go.Proofs.SYtpfhjchbegdgdaaGreatDoor

namespace Go.Proofs.SYtpfhjchbegdgdaaGreatDoor
open Go Go.AL Go.Proofs
noncomputable section
theorem right_runs (l : List (List G)) (n : Int) (h0 : 0 ≤ n) (h1 : n ≤ 20) : ∀ (k i : Nat) (a : Int), i + k = 5 → 0 ≤ a → a ≤ 1000 + 420 * (i : Int) →
    RetN st_pilemake_Stream_RightContacts_2 [.l l, .i a, .i n, .i (i : Int)] (k + 1) fun c g => (c = 0 ∧ ∃ b rows, g = [.l l, .i b, .l rows] ∧ 0 ≤ b ∧ b ≤ 10000 ∧ (∀ z ∈ rows, ConT z) ∧ (rows.length : Int) ≤ n ∧ faultLog rows = 0) ∨ (c = 1 ∧ ∃ b, g = [.l l, .i b] ∧ 0 ≤ b ∧ b ≤ 10000)
  | 0, i, a, hi, ha, ha1 => by
    refine RetN.stop (x := 1) (Ret.toEq ?_) (.inr ⟨rfl, a, rfl, ha, by omega⟩)
    unfold st_pilemake_Stream_RightContacts_2
    (dsimp +instances only [gi0,gis,row1,rows1,int1,str1,bool1])
    (repeat(first|(refine Ret.pos ?_ ?_;(first|rfl|assumption|(simp only [inI,sl]<;>omega)))|(refine Ret.neg ?_ ?_;(first|rfl|assumption|(simp only [inI,sl]<;>omega)))))
    exact Ret.some rfl
  | k + 1, i, a, hi, ha, ha1 => by
    have key : Ret (st_pilemake_Stream_RightContacts_2 [.l l, .i a, .i n, .i (i : Int)]) fun o => (∃ b rows, o = (some 0, [.l l, .i b, .l rows]) ∧ 0 ≤ b ∧ b ≤ 10000 ∧ (∀ z ∈ rows, ConT z) ∧ (rows.length : Int) ≤ n ∧ faultLog rows = 0) ∨
        ∃ b, o = (none, [.l l, .i b, .i n, .i ((i + 1 : Nat) : Int)]) ∧ a ≤ b ∧ b ≤ a + 420 := by
      unfold st_pilemake_Stream_RightContacts_2
      (dsimp +instances only [gi0,gis,row1,rows1,int1,str1,bool1])
      (repeat(first|(refine Ret.pos ?_ ?_;(first|rfl|assumption|(simp only [inI,sl]<;>omega)))|(refine Ret.neg ?_ ?_;(first|rfl|assumption|(simp only [inI,sl]<;>omega)))))
      refine Ret.call (r_Contacts l a n ha (by omega) h0 h1) ?_
      rintro _ ⟨b, rows, rfl, g1, g2, g3, g4⟩
      (dsimp +instances only [gi0,gis,row1,rows1,int1,str1,bool1])
      refine Ret.call (Ret.eq (logFault_eq rows (fun z hz => (g3 z hz).to) (by omega))) ?_
      rintro _ rfl
      (dsimp +instances only [gi0,gis,row1,rows1,int1,str1,bool1])
      refine Ret.test (fun h => ?_) fun h => ?_
      · exact Ret.some (.inl ⟨b, rows, rfl, by omega, by omega, g3, g4, by simpa using h⟩)
      · (repeat(first|(refine Ret.pos ?_ ?_;(first|rfl|assumption|(simp only [inI,sl]<;>omega)))|(refine Ret.neg ?_ ?_;(first|rfl|assumption|(simp only [inI,sl]<;>omega)))))
        exact Ret.some (.inr ⟨b, by simp, g1, g2⟩)
    obtain ⟨_, h, ⟨b, rows, rfl, q1, q2, q3, q4, q5⟩ | ⟨b, rfl, q1, q2⟩⟩ := key
    · exact RetN.stop h (.inl ⟨rfl, b, rows, rfl, q1, q2, q3, q4, q5⟩)
    · exact RetN.next h (right_runs l n h0 h1 k (i + 1) b (by omega) (by omega) (by omega))
theorem r_Right (l : List (List G)) (a n : Int) (ha : 0 ≤ a) (ha1 : a ≤ 1000) (h0 : 0 ≤ n) (h1 : n ≤ 20) :
    Ret (F_pilemake_Stream_RightContacts [.l l, .i a, .i n]) fun g => ∃ b rows, g = [.l l, .i b, .l rows] ∧ 0 ≤ b ∧ b ≤ 10000 ∧ (∀ z ∈ rows, ConT z) ∧ (rows.length : Int) ≤ n ∧ faultLog rows = 0 := by
  unfold F_pilemake_Stream_RightContacts
  (dsimp +instances only [gi0,gis,row1,rows1,int1,str1,bool1])
  refine Ret.loop ((right_runs l n h0 h1 5 0 a rfl ha (by omega)).to (by omega)) rfl ?_
  rintro c g (⟨rfl, b, rows, rfl, q⟩ | ⟨rfl, b, rfl, q1, q2⟩)
  · exact Ret.pos rfl (Ret.some ⟨b, rows, rfl, q⟩)
  · exact Ret.neg rfl (Ret.some ⟨b, [], rfl, q1, q2, by simp, by simpa using h0, rfl⟩)
/-! ### Hours: their sum -/
/-! ### The law -/
end
end Go.Proofs.SYtpfhjchbegdgdaaGreatDoor

namespace Go.Proofs.SYtpfhjchbegdgdaaGreatDoor
open Go Go.AL Go.Proofs
noncomputable section
def mid (n : Int) : Prop := -1950000000000 ≤ n ∧ n ≤ 1950000000000
def ConM (r : List G) : Prop := ∃ (t m : Int) (b c : ByteArray) (s h : Int) (x y : ByteArray), r = [.i t, .i m, .s b, .s c, .i s, .i h, .s x, .s y] ∧ mid t ∧ mid m ∧ mid s ∧ mid h ∧ b ∈ bands ∧ c ∈ calls ∧ x ∈ names ∧ y ∈ names
theorem mid.to {n : Int} (h : mid n) : small n := ⟨by have := h.1; omega, by have := h.2; omega⟩
theorem tight.toM {n : Int} (h : tight n) : mid n := ⟨by have := h.1; omega, by have := h.2; omega⟩
theorem ConM.to {r : List G} (h : ConM r) : Con r := by
  obtain ⟨t, m, b, c, s, h, x, y, e, h1, h2, h3, h4, h5⟩ := h
  exact ⟨t, m, b, c, s, h, x, y, e, h1.to, h2.to, h3.to, h4.to, h5⟩
theorem tightT.toM {n : Int} (h : tightT n) : mid n := by
  unfold tightT at h
  exact ⟨by omega, by omega⟩
theorem ConT.toM {r : List G} (h : ConT r) : ConM r := by
  obtain ⟨t, m, b, c, s, h, x, y, e, h1, h2, h3, h4, h5⟩ := h
  exact ⟨t, m, b, c, s, h, x, y, e, h1.toM, h2.toM, h3.toM, h4.toM, h5⟩
theorem zC_ConM : ConM zC := ⟨0, 0, _, _, 0, 0, _, _, rfl, by unfold mid; omega, by unfold mid; omega, by unfold mid; omega, by unfold mid; omega, List.mem_cons_self, List.mem_cons_self, List.mem_cons_self, List.mem_cons_self⟩
def Chg (C : List G → Prop) (r : List G) : Prop := ∃ (n k : Int) (w s : List G), r = .i n :: .i k :: (w ++ s) ∧ tight n ∧ tight k ∧ C w ∧ C s
theorem Chg.to {C D : List G → Prop} (hCD : ∀ r, C r → D r) {r : List G} (h : Chg C r) : Chg D r := by
  obtain ⟨n, k, w, s, e, h1, h2, h3, h4⟩ := h
  exact ⟨n, k, w, s, e, h1, h2, hCD _ h3, hCD _ h4⟩
theorem Chg.eta {r : List G} (h : Chg Con r) : gEta KChange r = r := by
  obtain ⟨n, k, _, _, rfl, _, _, ⟨t, m, b, c, s, h, x, y, rfl, _⟩, ⟨t2, m2, b2, c2, s2, h2, x2, y2, rfl, _⟩⟩ := h
  rfl
theorem chg19 (l out rows : List (List G)) (a n k N i : Int) (t m : Int) (b c : ByteArray) (s h : Int) (x y : ByteArray) (t2 m2 : Int) (b2 c2 : ByteArray) (s2 h2 : Int) (x2 y2 : ByteArray) (hl : out.length ≤ 100) :
    tl_pilemake_Stream_Changes_19 [.l l, .i a, .l out, .i n, .i k, .i t, .i m, .s b, .s c, .i s, .i h, .s x, .s y, .i t2, .i m2, .s b2, .s c2, .i s2, .i h2, .s x2, .s y2, .l rows, .i N, .i i] = some (some 0, [.l l, .i a, .l (out ++ [[.i n, .i k, .i t, .i m, .s b, .s c, .i s, .i h, .s x, .s y, .i t2, .i m2, .s b2, .s c2, .i s2, .i h2, .s x2, .s y2]]), .l rows, .i N, .i i]) := by
  refine Ret.toEq ?_
  unfold tl_pilemake_Stream_Changes_19
  (dsimp +instances only [gi0,gis,row1,rows1,int1,str1,bool1])
  (repeat(first|(refine Ret.pos ?_ ?_;(first|rfl|assumption|(simp only [inI,sl]<;>omega)))|(refine Ret.neg ?_ ?_;(first|rfl|assumption|(simp only [inI,sl]<;>omega)))))
  exact Ret.some rfl
theorem chg17 (l out rows : List (List G)) (a n k N i : Int) (t m : Int) (b c : ByteArray) (s h : Int) (x y : ByteArray) (t2 m2 : Int) (b2 c2 : ByteArray) (s2 h2 : Int) (x2 y2 : ByteArray) (hl : out.length ≤ 100) (ha : 0 ≤ a) (ha1 : a ≤ 800000) (hn : tight n) (hk : tight k) :
    Ret (tl_pilemake_Stream_Changes_17 [.l l, .i a, .l out, .i n, .i k, .i t, .i m, .s b, .s c, .i s, .i h, .s x, .s y, .i t2, .i m2, .s b2, .s c2, .i s2, .i h2, .s x2, .s y2, .l rows, .i N, .i i]) fun o => ∃ z, o.1 = some z ∧ ∃ a' n' k', o.2 = [.l l, .i a', .l (out ++ [[.i n', .i k', .i t, .i m, .s b, .s c, .i s, .i h, .s x, .s y, .i t2, .i m2, .s b2, .s c2, .i s2, .i h2, .s x2, .s y2]]), .l rows, .i N, .i i] ∧ a ≤ a' ∧ a' ≤ a + 5 ∧ tight n' ∧ tight k' := by
  unfold tl_pilemake_Stream_Changes_17
  (dsimp +instances only [gi0,gis,row1,rows1,int1,str1,bool1])
  refine Ret.call (r_Flip l a 50 ha (by omega) (by omega) (by omega)) ?_
  rintro _ ⟨f, rfl⟩
  (dsimp +instances only [gi0,gis,row1,rows1,int1,str1,bool1])
  cases f with
  | true =>
    (repeat(first|(refine Ret.pos ?_ ?_;(first|rfl|assumption|(simp only [inI,sl]<;>omega)))|(refine Ret.neg ?_ ?_;(first|rfl|assumption|(simp only [inI,sl]<;>omega)))))
    refine Ret.call (r_Odd l _ 1 9 (by omega) (by omega) (by omega) (by omega) (by omega)) ?_
    rintro _ ⟨n', rfl, hn'⟩
    (dsimp +instances only [gi0,gis,row1,rows1,int1,str1,bool1])
    refine Ret.call (r_Odd l _ 1 3 (by omega) (by omega) (by omega) (by omega) (by omega)) ?_
    rintro _ ⟨k', rfl, hk'⟩
    (dsimp +instances only [gi0,gis,row1,rows1,int1,str1,bool1])
    refine Ret.tail (P := fun z g => z = 0 ∧ g = _) (Ret.mono (Ret.eq (chg19 l out rows _ n' k' N i t m b c s h x y t2 m2 b2 c2 s2 h2 x2 y2 hl)) fun o ho => ⟨0, by rw [ho], rfl, by rw [ho]⟩) (by (first|rfl|assumption|(simp only [inI,sl]<;>omega))) ?_
    rintro _ _ ⟨rfl, rfl⟩
    (dsimp +instances only [gi0,gis,row1,rows1,int1,str1,bool1])
    (repeat(first|(refine Ret.pos ?_ ?_;(first|rfl|assumption|(simp only [inI,sl]<;>omega)))|(refine Ret.neg ?_ ?_;(first|rfl|assumption|(simp only [inI,sl]<;>omega)))))
    exact Ret.some ⟨0, rfl, _, n', k', rfl, by omega, by omega, ⟨by omega, by omega⟩, ⟨by omega, by omega⟩⟩
  | false =>
    (repeat(first|(refine Ret.pos ?_ ?_;(first|rfl|assumption|(simp only [inI,sl]<;>omega)))|(refine Ret.neg ?_ ?_;(first|rfl|assumption|(simp only [inI,sl]<;>omega)))))
    refine Ret.tail (P := fun z g => z = 0 ∧ g = _) (Ret.mono (Ret.eq (chg19 l out rows _ n k N i t m b c s h x y t2 m2 b2 c2 s2 h2 x2 y2 hl)) fun o ho => ⟨0, by rw [ho], rfl, by rw [ho]⟩) (by (first|rfl|assumption|(simp only [inI,sl]<;>omega))) ?_
    rintro _ _ ⟨rfl, rfl⟩
    (dsimp +instances only [gi0,gis,row1,rows1,int1,str1,bool1])
    (repeat(first|(refine Ret.pos ?_ ?_;(first|rfl|assumption|(simp only [inI,sl]<;>omega)))|(refine Ret.neg ?_ ?_;(first|rfl|assumption|(simp only [inI,sl]<;>omega)))))
    exact Ret.some ⟨0, rfl, _, n, k, rfl, by omega, by omega, hn, hk⟩
theorem chg12 (l out rows : List (List G)) (a n k N i : Int) (t m : Int) (b c : ByteArray) (s h : Int) (x y : ByteArray) (t2 m2 : Int) (b2 c2 : ByteArray) (s2 h2 : Int) (x2 y2 : ByteArray) (hl : out.length ≤ 100) (ha : 0 ≤ a) (ha1 : a ≤ 800000) (hn : tight n) (hk : tight k) (hw : ConM [.i t, .i m, .s b, .s c, .i s, .i h, .s x, .s y]) (hs : ConM [.i t2, .i m2, .s b2, .s c2, .i s2, .i h2, .s x2, .s y2]) :
    Ret (tl_pilemake_Stream_Changes_12 [.l l, .i a, .l out, .i n, .i k, .i t, .i m, .s b, .s c, .i s, .i h, .s x, .s y, .i t2, .i m2, .s b2, .s c2, .i s2, .i h2, .s x2, .s y2, .l rows, .i N, .i i]) fun o => ∃ z, o.1 = some z ∧ ∃ a' r, o.2 = [.l l, .i a', .l (out ++ [r]), .l rows, .i N, .i i] ∧ a ≤ a' ∧ a' ≤ a + 5 ∧ Chg ConM r := by
  unfold tl_pilemake_Stream_Changes_12
  (dsimp +instances only [gi0,gis,row1,rows1,int1,str1,bool1])
  by_cases k1 : k = 1
  · refine Ret.pos (by simpa using k1) ?_
    refine Ret.tail (P := fun z g => ∃ a' n' k', g = [.l l, .i a', .l (out ++ [[.i n', .i k', .i 0, .i 0, .s (⟨#[]⟩ : ByteArray), .s (⟨#[]⟩ : ByteArray), .i 0, .i 0, .s (⟨#[]⟩ : ByteArray), .s (⟨#[]⟩ : ByteArray), .i t2, .i m2, .s b2, .s c2, .i s2, .i h2, .s x2, .s y2]]), .l rows, .i N, .i i] ∧ a ≤ a' ∧ a' ≤ a + 5 ∧ tight n' ∧ tight k') ((chg17 l out rows a n k N i 0 0 (⟨#[]⟩ : ByteArray) (⟨#[]⟩ : ByteArray) 0 0 (⟨#[]⟩ : ByteArray) (⟨#[]⟩ : ByteArray) t2 m2 b2 c2 s2 h2 x2 y2 hl ha ha1 hn hk).mono fun o ho => ho) (by (first|rfl|assumption|(simp only [inI,sl]<;>omega))) ?_
    rintro _ _ ⟨a', n', k', rfl, u1, u2, u3, u4⟩
    (dsimp +instances only [gi0,gis,row1,rows1,int1,str1,bool1])
    (repeat(first|(refine Ret.pos ?_ ?_;(first|rfl|assumption|(simp only [inI,sl]<;>omega)))|(refine Ret.neg ?_ ?_;(first|rfl|assumption|(simp only [inI,sl]<;>omega)))))
    exact Ret.some ⟨0, rfl, _, _, rfl, u1, u2, n', k', [.i 0, .i 0, .s (⟨#[]⟩ : ByteArray), .s (⟨#[]⟩ : ByteArray), .i 0, .i 0, .s (⟨#[]⟩ : ByteArray), .s (⟨#[]⟩ : ByteArray)], [.i t2, .i m2, .s b2, .s c2, .i s2, .i h2, .s x2, .s y2], rfl, u3, u4, zC_ConM, hs⟩
  · refine Ret.neg (by simpa using k1) ?_
    by_cases k2 : k = 2
    · refine Ret.pos (by simpa using k2) ?_
      refine Ret.tail (P := fun z g => ∃ a' n' k', g = [.l l, .i a', .l (out ++ [[.i n', .i k', .i t, .i m, .s b, .s c, .i s, .i h, .s x, .s y, .i 0, .i 0, .s (⟨#[]⟩ : ByteArray), .s (⟨#[]⟩ : ByteArray), .i 0, .i 0, .s (⟨#[]⟩ : ByteArray), .s (⟨#[]⟩ : ByteArray)]]), .l rows, .i N, .i i] ∧ a ≤ a' ∧ a' ≤ a + 5 ∧ tight n' ∧ tight k') ((chg17 l out rows a n k N i t m b c s h x y 0 0 (⟨#[]⟩ : ByteArray) (⟨#[]⟩ : ByteArray) 0 0 (⟨#[]⟩ : ByteArray) (⟨#[]⟩ : ByteArray) hl ha ha1 hn hk).mono fun o ho => ho) (by (first|rfl|assumption|(simp only [inI,sl]<;>omega))) ?_
      rintro _ _ ⟨a', n', k', rfl, u1, u2, u3, u4⟩
      (dsimp +instances only [gi0,gis,row1,rows1,int1,str1,bool1])
      (repeat(first|(refine Ret.pos ?_ ?_;(first|rfl|assumption|(simp only [inI,sl]<;>omega)))|(refine Ret.neg ?_ ?_;(first|rfl|assumption|(simp only [inI,sl]<;>omega)))))
      exact Ret.some ⟨0, rfl, _, _, rfl, u1, u2, n', k', [.i t, .i m, .s b, .s c, .i s, .i h, .s x, .s y], [.i 0, .i 0, .s (⟨#[]⟩ : ByteArray), .s (⟨#[]⟩ : ByteArray), .i 0, .i 0, .s (⟨#[]⟩ : ByteArray), .s (⟨#[]⟩ : ByteArray)], rfl, u3, u4, hw, zC_ConM⟩
    · refine Ret.neg (by simpa using k2) ?_
      refine Ret.tail (P := fun z g => ∃ a' n' k', g = [.l l, .i a', .l (out ++ [[.i n', .i k', .i t, .i m, .s b, .s c, .i s, .i h, .s x, .s y, .i t2, .i m2, .s b2, .s c2, .i s2, .i h2, .s x2, .s y2]]), .l rows, .i N, .i i] ∧ a ≤ a' ∧ a' ≤ a + 5 ∧ tight n' ∧ tight k') ((chg17 l out rows a n k N i t m b c s h x y t2 m2 b2 c2 s2 h2 x2 y2 hl ha ha1 hn hk).mono fun o ho => ho) (by (first|rfl|assumption|(simp only [inI,sl]<;>omega))) ?_
      rintro _ _ ⟨a', n', k', rfl, u1, u2, u3, u4⟩
      (dsimp +instances only [gi0,gis,row1,rows1,int1,str1,bool1])
      (repeat(first|(refine Ret.pos ?_ ?_;(first|rfl|assumption|(simp only [inI,sl]<;>omega)))|(refine Ret.neg ?_ ?_;(first|rfl|assumption|(simp only [inI,sl]<;>omega)))))
      exact Ret.some ⟨0, rfl, _, _, rfl, u1, u2, n', k', [.i t, .i m, .s b, .s c, .i s, .i h, .s x, .s y], [.i t2, .i m2, .s b2, .s c2, .i s2, .i h2, .s x2, .s y2], rfl, u3, u4, hw, hs⟩
theorem rowT {rows : List (List G)} (hr : ∀ z ∈ rows, ConT z) {v : Int} (h0 : 0 ≤ v) (h1 : v < rows.length) : ConT (rows.getD v.toNat []) := hr _ (getD_mem' h0 h1)
theorem chg9 (l out rows : List (List G)) (a n k N i : Int) (t m : Int) (b c : ByteArray) (s h : Int) (x y : ByteArray) (t2 m2 : Int) (b2 c2 : ByteArray) (s2 h2 : Int) (x2 y2 : ByteArray) (hl : out.length ≤ 100) (ha : 0 ≤ a) (ha1 : a ≤ 800000) (hr : ∀ z ∈ rows, ConT z) (hr0 : 0 < rows.length) (hr1 : rows.length ≤ 1000) (hw : ConM [.i t, .i m, .s b, .s c, .i s, .i h, .s x, .s y]) (hs : ConM [.i t2, .i m2, .s b2, .s c2, .i s2, .i h2, .s x2, .s y2]) :
    Ret (tl_pilemake_Stream_Changes_9 [.l l, .i a, .l out, .i n, .i k, .i t, .i m, .s b, .s c, .i s, .i h, .s x, .s y, .i t2, .i m2, .s b2, .s c2, .i s2, .i h2, .s x2, .s y2, .l rows, .i N, .i i]) fun o => ∃ z, o.1 = some z ∧ ∃ (a' : Int) (t2' : Int) (m2' : Int) (b2' : ByteArray) (c2' : ByteArray) (s2' : Int) (h2' : Int) (x2' : ByteArray) (y2' : ByteArray), o.2 = [.l l, .i a', .l out, .i n, .i k, .i t, .i m, .s b, .s c, .i s, .i h, .s x, .s y, .i t2', .i m2', .s b2', .s c2', .i s2', .i h2', .s x2', .s y2', .l rows, .i N, .i i] ∧ a ≤ a' ∧ a' ≤ a + 2 ∧ ConM [.i t2', .i m2', .s b2', .s c2', .i s2', .i h2', .s x2', .s y2'] := by
  unfold tl_pilemake_Stream_Changes_9
  (dsimp +instances only [gi0,gis,row1,rows1,int1,str1,bool1])
  refine Ret.call (r_Flip l a 3 ha (by omega) (by omega) (by omega)) ?_
  rintro _ ⟨f, rfl⟩
  (dsimp +instances only [gi0,gis,row1,rows1,int1,str1,bool1])
  cases f with
  | false =>
    (repeat(first|(refine Ret.pos ?_ ?_;(first|rfl|assumption|(simp only [inI,sl]<;>omega)))|(refine Ret.neg ?_ ?_;(first|rfl|assumption|(simp only [inI,sl]<;>omega)))))
    exact Ret.some ⟨0, rfl, _, t2, m2, b2, c2, s2, h2, x2, y2, rfl, by omega, by omega, hs⟩
  | true =>
    refine Ret.pos rfl ?_
    refine Ret.call (r_Next l _ _ (by omega) (by omega) (by omega) (by omega)) ?_
    rintro _ ⟨v, rfl, hv⟩
    (dsimp +instances only [gi0,gis,row1,rows1,int1,str1,bool1])
    refine Ret.pos (by (first|rfl|assumption|(simp only [inI,sl]<;>omega))) ?_
    obtain ⟨t2', m2', b2', c2', s2', h2', x2', y2', e, g1, g2, g3, g4, g5⟩ := rowT hr hv.1 hv.2
    rw [e]
    (dsimp +instances only [gi0,gis,row1,rows1,int1,str1,bool1])
    unfold tight at g4
    (repeat(first|(refine Ret.pos ?_ ?_;(first|rfl|assumption|(simp only [inI,sl]<;>omega)))|(refine Ret.neg ?_ ?_;(first|rfl|assumption|(simp only [inI,sl]<;>omega)))))
    exact Ret.some ⟨0, rfl, _, t2', m2', b2', c2', s2', h2' + 1, x2', y2', rfl, by omega, by omega, t2', m2', b2', c2', s2', h2' + 1, x2', y2', rfl, g1.toM, g2.toM, g3.toM, ⟨by omega, by omega⟩, g5⟩
theorem round_Changes (l out rows : List (List G)) (a : Int) (N i : Nat) (hi : i < N) (hN : N ≤ 6) (ha : 0 ≤ a) (ha1 : a ≤ 700000) (hl : out.length ≤ 50) (hr : ∀ z ∈ rows, ConT z) (hr1 : rows.length ≤ 1000) :
    Ret (st_pilemake_Stream_Changes_3 [.l l, .i a, .l out, .l rows, .i (N : Int), .i (i : Int)]) fun o => ∃ b r, o = (none, [.l l, .i b, .l (out ++ [r]), .l rows, .i (N : Int), .i ((i : Int) + 1)]) ∧ a ≤ b ∧ b ≤ a + 60 ∧ Chg ConM r := by
  unfold st_pilemake_Stream_Changes_3
  (dsimp +instances only [gi0,gis,row1,rows1,int1,str1,bool1])
  (repeat(first|(refine Ret.pos ?_ ?_;(first|rfl|assumption|(simp only [inI,sl]<;>omega)))|(refine Ret.neg ?_ ?_;(first|rfl|assumption|(simp only [inI,sl]<;>omega)))))
  refine Ret.call (r_Range l a 1 2 ha (by omega) (by omega) (by omega) (by omega)) ?_
  rintro _ ⟨no, rfl, hno⟩
  (dsimp +instances only [gi0,gis,row1,rows1,int1,str1,bool1])
  (repeat(first|(refine Ret.pos ?_ ?_;(first|rfl|assumption|(simp only [inI,sl]<;>omega)))|(refine Ret.neg ?_ ?_;(first|rfl|assumption|(simp only [inI,sl]<;>omega)))))
  refine Ret.call (r_PickB 1 3 l _ _ (by omega) (by omega) (by kernel_rfl) (by kernel_rfl)) ?_
  rintro _ ⟨kind, rfl, hkind⟩
  (dsimp +instances only [gi0,gis,row1,rows1,int1,str1,bool1])
  refine Ret.call (r_Range l _ 0 100 (by omega) (by omega) (by omega) (by omega) (by omega)) ?_
  rintro _ ⟨at1, rfl, hat1⟩
  (dsimp +instances only [gi0,gis,row1,rows1,int1,str1,bool1])
  refine Ret.call (r_SomeContact l _ at1 (by omega) (by omega) (by unfold tightT; omega)) ?_
  rintro _ ⟨p1, _, rfl, hp1, hp2, hw⟩
  (dsimp +instances only [gi0,gis,row1,rows1,int1,str1,bool1])
  refine Ret.call (r_Range l _ 0 100 (by omega) (by omega) (by omega) (by omega) (by omega)) ?_
  rintro _ ⟨at2, rfl, hat2⟩
  (dsimp +instances only [gi0,gis,row1,rows1,int1,str1,bool1])
  refine Ret.call (r_SomeContact l _ at2 (by omega) (by omega) (by unfold tightT; omega)) ?_
  rintro _ ⟨p2, _, rfl, hp3, hp4, hs⟩
  (dsimp +instances only [gi0,gis,row1,rows1,int1,str1,bool1])
  obtain ⟨t, m, b, c, s, h, x, y, rfl, hw1⟩ := id hw
  obtain ⟨t2, m2, b2, c2, s2, h2, x2, y2, rfl, hs1⟩ := id hs
  (dsimp +instances only [gi0,gis,row1,rows1,int1,str1,bool1])
  by_cases h0 : 0 < rows.length
  · refine Ret.pos (by (first|rfl|assumption|(simp only [inI,sl]<;>omega))) ?_
    refine Ret.call (r_Flip l _ 6 (by omega) (by omega) (by omega) (by omega)) ?_
    rintro _ ⟨f, rfl⟩
    (dsimp +instances only [gi0,gis,row1,rows1,int1,str1,bool1])
    generalize hp : p2 + 1 = p
    cases f with
    | false =>
      refine Ret.pos rfl ?_
      refine Ret.call (r_Next l _ _ (by omega) (by omega) (by omega) (by omega)) ?_
      rintro _ ⟨v, rfl, hv⟩
      (dsimp +instances only [gi0,gis,row1,rows1,int1,str1,bool1])
      refine Ret.pos (by (first|rfl|assumption|(simp only [inI,sl]<;>omega))) ?_
      have hv3 := rowT hr hv.1 hv.2
      obtain ⟨t3, m3, b3, c3, s3, h3, x3, y3, e, hv4⟩ := id hv3
      rw [e]
      rw [e] at hv3
      (dsimp +instances only [gi0,gis,row1,rows1,int1,str1,bool1])
      generalize hpp : p + 1 = p
      refine Ret.tail (P := fun z g => ∃ (a' : Int) (t2' : Int) (m2' : Int) (b2' : ByteArray) (c2' : ByteArray) (s2' : Int) (h2' : Int) (x2' : ByteArray) (y2' : ByteArray), g = [.l l, .i a', .l out, .i (2 * (i : Int) + no), .i kind, .i t3, .i m3, .s b3, .s c3, .i s3, .i h3, .s x3, .s y3, .i t2', .i m2', .s b2', .s c2', .i s2', .i h2', .s x2', .s y2', .l rows, .i (N : Int), .i (i : Int)] ∧ p ≤ a' ∧ a' ≤ p + 2 ∧ ConM [.i t2', .i m2', .s b2', .s c2', .i s2', .i h2', .s x2', .s y2']) ((chg9 l out rows p _ _ N i t3 m3 b3 c3 s3 h3 x3 y3 t2 m2 b2 c2 s2 h2 x2 y2 (by omega) (by omega) (by omega) hr h0 hr1 hv3.toM hs.toM).mono fun o ho => ho) (by (first|rfl|assumption|(simp only [inI,sl]<;>omega))) ?_
      rintro _ _ ⟨p', t2', m2', b2', c2', s2', h2', x2', y2', rfl, q4, q5, hs'⟩
      (dsimp +instances only [gi0,gis,row1,rows1,int1,str1,bool1])
      refine Ret.tail (P := fun z g => ∃ a' r, g = [.l l, .i a', .l (out ++ [r]), .l rows, .i (N : Int), .i (i : Int)] ∧ p' ≤ a' ∧ a' ≤ p' + 5 ∧ Chg ConM r) ((chg12 l out rows _ _ _ N i _ _ _ _ _ _ _ _ _ _ _ _ _ _ _ _ (by omega) (by omega) (by omega) (by unfold tight; omega) (by unfold tight; omega) hv3.toM hs').mono fun o ho => ho) (by (first|rfl|assumption|(simp only [inI,sl]<;>omega))) ?_
      rintro _ _ ⟨a', r, rfl, q1, q2, q3⟩
      (dsimp +instances only [gi0,gis,row1,rows1,int1,str1,bool1])
      (repeat(first|(refine Ret.pos ?_ ?_;(first|rfl|assumption|(simp only [inI,sl]<;>omega)))|(refine Ret.neg ?_ ?_;(first|rfl|assumption|(simp only [inI,sl]<;>omega)))))
      exact Ret.some ⟨a', r, rfl, by omega, by omega, q3⟩
    | true =>
      refine Ret.neg rfl ?_
      refine Ret.tail (P := fun z g => ∃ (a' : Int) (t2' : Int) (m2' : Int) (b2' : ByteArray) (c2' : ByteArray) (s2' : Int) (h2' : Int) (x2' : ByteArray) (y2' : ByteArray), g = [.l l, .i a', .l out, .i (2 * (i : Int) + no), .i kind, .i t, .i m, .s b, .s c, .i s, .i h, .s x, .s y, .i t2', .i m2', .s b2', .s c2', .i s2', .i h2', .s x2', .s y2', .l rows, .i (N : Int), .i (i : Int)] ∧ p ≤ a' ∧ a' ≤ p + 2 ∧ ConM [.i t2', .i m2', .s b2', .s c2', .i s2', .i h2', .s x2', .s y2']) ((chg9 l out rows p _ _ N i t m b c s h x y t2 m2 b2 c2 s2 h2 x2 y2 (by omega) (by omega) (by omega) hr h0 hr1 hw.toM hs.toM).mono fun o ho => ho) (by (first|rfl|assumption|(simp only [inI,sl]<;>omega))) ?_
      rintro _ _ ⟨p', t2', m2', b2', c2', s2', h2', x2', y2', rfl, q4, q5, hs'⟩
      (dsimp +instances only [gi0,gis,row1,rows1,int1,str1,bool1])
      refine Ret.tail (P := fun z g => ∃ a' r, g = [.l l, .i a', .l (out ++ [r]), .l rows, .i (N : Int), .i (i : Int)] ∧ p' ≤ a' ∧ a' ≤ p' + 5 ∧ Chg ConM r) ((chg12 l out rows _ _ _ N i _ _ _ _ _ _ _ _ _ _ _ _ _ _ _ _ (by omega) (by omega) (by omega) (by unfold tight; omega) (by unfold tight; omega) hw.toM hs').mono fun o ho => ho) (by (first|rfl|assumption|(simp only [inI,sl]<;>omega))) ?_
      rintro _ _ ⟨a', r, rfl, q1, q2, q3⟩
      (dsimp +instances only [gi0,gis,row1,rows1,int1,str1,bool1])
      (repeat(first|(refine Ret.pos ?_ ?_;(first|rfl|assumption|(simp only [inI,sl]<;>omega)))|(refine Ret.neg ?_ ?_;(first|rfl|assumption|(simp only [inI,sl]<;>omega)))))
      exact Ret.some ⟨a', r, rfl, by omega, by omega, q3⟩
  · refine Ret.neg (by (first|rfl|assumption|(simp only [inI,sl]<;>omega))) ?_
    refine Ret.tail (P := fun z g => ∃ a' r, g = [.l l, .i a', .l (out ++ [r]), .l rows, .i (N : Int), .i (i : Int)] ∧ p2 ≤ a' ∧ a' ≤ p2 + 5 ∧ Chg ConM r) ((chg12 l out rows _ _ _ N i _ _ _ _ _ _ _ _ _ _ _ _ _ _ _ _ (by omega) (by omega) (by omega) (by unfold tight; omega) (by unfold tight; omega) hw.toM hs.toM).mono fun o ho => ho) (by (first|rfl|assumption|(simp only [inI,sl]<;>omega))) ?_
    rintro _ _ ⟨a', r, rfl, q1, q2, q3⟩
    (dsimp +instances only [gi0,gis,row1,rows1,int1,str1,bool1])
    (repeat(first|(refine Ret.pos ?_ ?_;(first|rfl|assumption|(simp only [inI,sl]<;>omega)))|(refine Ret.neg ?_ ?_;(first|rfl|assumption|(simp only [inI,sl]<;>omega)))))
    exact Ret.some ⟨a', r, rfl, by omega, by omega, q3⟩
theorem loop_Changes (l rows : List (List G)) (n : Nat) (hn : n ≤ 6) (hr : ∀ z ∈ rows, ConT z) (hr1 : rows.length ≤ 1000) : ∀ (k i : Nat) (a : Int) (acc : List (List G)), i + k = n → 0 ≤ a → a ≤ 600000 + 60 * i → (∀ z ∈ acc, Chg ConM z) → acc.length = i →
    RetN st_pilemake_Stream_Changes_3 [.l l, .i a, .l acc, .l rows, .i (n : Int), .i (i : Int)] (k + 1) fun c g => c = 0 ∧ ∃ b rows, g = [.l l, .i b, .l rows] ∧ a ≤ b ∧ b ≤ a + 60 * k ∧ (∀ z ∈ rows, Chg ConM z) ∧ rows.length = n
  | 0, i, a, acc, hi, ha, ha1, hQ, hl => by
    refine RetN.stop (x := 0) (Ret.toEq ?_) ⟨rfl, a, acc, rfl, by omega, by omega, hQ, by omega⟩
    unfold st_pilemake_Stream_Changes_3
    (dsimp +instances only [gi0,gis,row1,rows1,int1,str1,bool1])
    (repeat(first|(refine Ret.pos ?_ ?_;(first|rfl|assumption|(simp only [inI,sl]<;>omega)))|(refine Ret.neg ?_ ?_;(first|rfl|assumption|(simp only [inI,sl]<;>omega)))))
    exact Ret.some rfl
  | k + 1, i, a, acc, hi, ha, ha1, hQ, hl => by
    obtain ⟨_, h, b, r, rfl, h1, h2, h3⟩ := round_Changes l acc rows a n i (by omega) hn ha (by omega) (by omega) hr hr1
    have ih := loop_Changes l rows n hn hr hr1 k (i + 1) b (acc ++ [r]) (by omega) (by omega) (by omega) (by
      intro z hz
      rcases List.mem_append.1 hz with hz | hz
      · exact hQ z hz
      · simp at hz; exact hz ▸ h3) (by simp [hl])
    refine RetN.next h (ih.mono ?_)
    rintro c g ⟨rfl, b', rows, rfl, q1, q2, q3, q4⟩
    exact ⟨rfl, b', rows, rfl, by omega, by omega, q3, q4⟩
theorem r_Changes (l rows : List (List G)) (a : Int) (ha : 0 ≤ a) (ha1 : a ≤ 500000) (hr : ∀ z ∈ rows, ConT z) (hr1 : rows.length ≤ 1000) :
    Ret (F_pilemake_Stream_Changes [.l l, .i a, .l rows]) fun g => ∃ b cs, g = [.l l, .i b, .l cs] ∧ a ≤ b ∧ b ≤ a + 400 ∧ (∀ z ∈ cs, Chg ConM z) ∧ cs.length ≤ 6 := by
  unfold F_pilemake_Stream_Changes
  (dsimp +instances only [gi0,gis,row1,rows1,int1,str1,bool1])
  refine Ret.call (r_Range l a 0 6 ha (by omega) (by omega) (by omega) (by omega)) ?_
  rintro _ ⟨v, rfl, hv0, hv1⟩
  obtain ⟨n, rfl⟩ := Int.eq_ofNat_of_zero_le hv0
  (dsimp +instances only [gi0,gis,row1,rows1,int1,str1,bool1])
  have hl := loop_Changes l rows n (by omega) hr hr1 n 0 (a + 1) [] (by omega) (by omega) (by omega) (by simp) rfl
  refine Ret.loop (hl.to (by omega)) (by (first|rfl|assumption|(simp only [inI,sl]<;>omega))) ?_
  rintro c g ⟨rfl, b, cs, rfl, h2, h3, h4, h5⟩
  (dsimp +instances only [gi0,gis,row1,rows1,int1,str1,bool1])
  (repeat(first|(refine Ret.pos ?_ ?_;(first|rfl|assumption|(simp only [inI,sl]<;>omega)))|(refine Ret.neg ?_ ?_;(first|rfl|assumption|(simp only [inI,sl]<;>omega)))))
  exact Ret.some ⟨b, cs, rfl, by omega, by omega, h4, by omega⟩
end
end Go.Proofs.SYtpfhjchbegdgdaaGreatDoor

namespace Go.Proofs.SYtpfhjchbegdgdaaGreatDoor
open Go Go.AL Go.Proofs
noncomputable section
def formG (k : Int) (w s : List G) : Bool := ((k == 2) && !(rowEq KContact s zC)) || (((k == 1) && !(rowEq KContact w zC)) || rowEq KContact w s)
def lastG (p : Option Int) (n : Int) : Int := match p with
  | none => 0
  | some q => bif leI n q then 7 else 0
def f14 (p : Option Int) (n k : Int) (w s : List G) : Int := bif formG k w s then 3 else lastG p n
def f10 (p : Option Int) (n k : Int) (w s : List G) : Int := bif (k != 2) && (faultC s != 0) then faultC s else f14 p n k w s
def f1 (p : Option Int) (n k : Int) (w s : List G) : Int := bif !inB n 1 1000 then 1 else bif !inB k 1 3 then 4 else bif (k != 1) && (faultC w != 0) then faultC w else f10 p n k w s
def prevG (rows : List (List G)) (i : Nat) : Option Int := match i with
  | 0 => none
  | j + 1 => some (gi (rows.getD j []) 0).int
theorem last_log (rows : List (List G)) (i : Nat) (hi : i < rows.length) (hn : rows.length < 100000) (n : Int) :
    (bif (ltI 0 (i : Int)) then (bif (inI ((i : Int) - 1)) then (bif ((nnI ((i : Int) - 1)) && (ltI ((i : Int) - 1) ((rows.length : Nat) : Int))) then (bif (leI n (gi (rows.getD (((i : Int) - 1).toNat) []) 0).int) then some (some 0, [G.i 7]) else some (some 0, [G.i 0])) else none) else none) else some (some 0, [G.i 0]))
      = some (some 0, [G.i (lastG (prevG rows i) n)]) := by
  refine Ret.toEq ?_
  cases i with
  | zero => exact Ret.neg (by (first|rfl|assumption|(simp only [inI,sl]<;>omega))) (Ret.some rfl)
  | succ j =>
    refine Ret.pos (by (first|rfl|assumption|(simp only [inI,sl]<;>omega))) (Ret.pos (by (first|rfl|assumption|(simp only [inI,sl]<;>omega))) (Ret.pos (by (first|rfl|assumption|(simp only [inI,sl]<;>omega))) ?_))
    have e : (((j + 1 : Nat) : Int) - 1).toNat = j := by omega
    rw [e]
    simp only [prevG, lastG]
    cases leI n (gi (rows.getD j []) 0).int <;> exact Ret.some rfl
theorem g14 (rows : List (List G)) (i : Nat) (hi : i < rows.length) (hn : rows.length < 100000) (n k : Int) (t m : Int) (b c : ByteArray) (sn hd : Int) (x y : ByteArray) (t2 m2 : Int) (b2 c2 : ByteArray) (sn2 hd2 : Int) (x2 y2 : ByteArray) :
    tl_log_changeFault_14 [.i n, .i k, .i t, .i m, .s b, .s c, .i sn, .i hd, .s x, .s y, .i t2, .i m2, .s b2, .s c2, .i sn2, .i hd2, .s x2, .s y2, .l rows, .i (i : Int)] = some (some 0, [.i (f14 (prevG rows i) n k [.i t, .i m, .s b, .s c, .i sn, .i hd, .s x, .s y] [.i t2, .i m2, .s b2, .s c2, .i sn2, .i hd2, .s x2, .s y2])]) := by
  have hl := last_log rows i hi hn n
  unfold tl_log_changeFault_14 f14 formG
  (dsimp +instances only [gi0,gis,row1,rows1,int1,str1,bool1])
  rw [hl]
  show _ = _
  unfold zC
  generalize rowEq KContact [.i t2, .i m2, .s b2, .s c2, .i sn2, .i hd2, .s x2, .s y2] [.i 0, .i 0, .s (⟨#[]⟩ : ByteArray), .s (⟨#[]⟩ : ByteArray), .i 0, .i 0, .s (⟨#[]⟩ : ByteArray), .s (⟨#[]⟩ : ByteArray)] = zs
  generalize rowEq KContact [.i t, .i m, .s b, .s c, .i sn, .i hd, .s x, .s y] [.i 0, .i 0, .s (⟨#[]⟩ : ByteArray), .s (⟨#[]⟩ : ByteArray), .i 0, .i 0, .s (⟨#[]⟩ : ByteArray), .s (⟨#[]⟩ : ByteArray)] = zw
  generalize rowEq KContact [.i t, .i m, .s b, .s c, .i sn, .i hd, .s x, .s y] [.i t2, .i m2, .s b2, .s c2, .i sn2, .i hd2, .s x2, .s y2] = ws
  cases (k == 2) <;> cases (k == 1) <;> cases zs <;> cases zw <;> cases ws <;> rfl
theorem g10 (rows : List (List G)) (i : Nat) (hi : i < rows.length) (hn : rows.length < 100000) (n k : Int) (t m : Int) (b c : ByteArray) (sn hd : Int) (x y : ByteArray) (t2 m2 : Int) (b2 c2 : ByteArray) (sn2 hd2 : Int) (x2 y2 : ByteArray) (hs : Con [.i t2, .i m2, .s b2, .s c2, .i sn2, .i hd2, .s x2, .s y2]) :
    tl_log_changeFault_10 [.i n, .i k, .i t, .i m, .s b, .s c, .i sn, .i hd, .s x, .s y, .i t2, .i m2, .s b2, .s c2, .i sn2, .i hd2, .s x2, .s y2, .l rows, .i (i : Int)] = some (some 0, [.i (f10 (prevG rows i) n k [.i t, .i m, .s b, .s c, .i sn, .i hd, .s x, .s y] [.i t2, .i m2, .s b2, .s c2, .i sn2, .i hd2, .s x2, .s y2])]) := by
  have h := g14 rows i hi hn n k t m b c sn hd x y t2 m2 b2 c2 sn2 hd2 x2 y2
  refine Ret.toEq ?_
  unfold tl_log_changeFault_10 f10
  (dsimp +instances only [gi0,gis,row1,rows1,int1,str1,bool1])
  cases hk : (k != 2) with
  | true =>
    refine Ret.pos rfl ?_
    refine Ret.call (Ret.eq (check_eq hs)) ?_
    rintro _ rfl
    (dsimp +instances only [gi0,gis,row1,rows1,int1,str1,bool1])
    cases hf : (faultC [.i t2, .i m2, .s b2, .s c2, .i sn2, .i hd2, .s x2, .s y2] != 0) with
    | true => exact Ret.pos rfl (Ret.some rfl)
    | false =>
      refine Ret.neg rfl ?_
      refine Ret.tail (P := fun z g => z = 0 ∧ g = _) (Ret.mono (Ret.eq (h)) fun o ho => ⟨0, by rw [ho], rfl, by rw [ho]⟩) (by (first|rfl|assumption|(simp only [inI,sl]<;>omega))) ?_
      rintro _ _ ⟨rfl, rfl⟩
      (dsimp +instances only [gi0,gis,row1,rows1,int1,str1,bool1])
      exact Ret.some rfl
  | false =>
    refine Ret.neg rfl ?_
    refine Ret.tail (P := fun z g => z = 0 ∧ g = _) (Ret.mono (Ret.eq (h)) fun o ho => ⟨0, by rw [ho], rfl, by rw [ho]⟩) (by (first|rfl|assumption|(simp only [inI,sl]<;>omega))) ?_
    rintro _ _ ⟨rfl, rfl⟩
    (dsimp +instances only [gi0,gis,row1,rows1,int1,str1,bool1])
    exact Ret.some rfl
theorem getD_i {rows : List (List G)} {i : Nat} : rows.getD ((i : Int)).toNat [] = rows.getD i [] := by simp
theorem g1 (rows : List (List G)) (i : Nat) (hi : i < rows.length) (hn : rows.length < 100000) {n k : Int} {w s : List G} (e : rows.getD i [] = .i n :: .i k :: (w ++ s)) (hw : Con w) (hs : Con s) :
    F_log_changeFault [.l rows, .i (i : Int)] = some [.i (f1 (prevG rows i) n k w s)] := by
  obtain ⟨t, m, b, c, sn, hd, x, y, rfl, hw1⟩ := id hw
  obtain ⟨t2, m2, b2, c2, sn2, hd2, x2, y2, rfl, hs1⟩ := id hs
  have h := g10 rows i hi hn n k t m b c sn hd x y t2 m2 b2 c2 sn2 hd2 x2 y2 hs
  refine Ret.toEq ?_
  unfold F_log_changeFault f1
  (dsimp +instances only [gi0,gis,row1,rows1,int1,str1,bool1])
  refine Ret.pos (by (first|rfl|assumption|(simp only [inI,sl]<;>omega))) ?_
  simp only [getD_i, e, List.cons_append, List.nil_append]
  (dsimp +instances only [gi0,gis,row1,rows1,int1,str1,bool1])
  refine Ret.call (Ret.eq (outside_eq _ _ _)) ?_
  rintro _ rfl
  (dsimp +instances only [gi0,gis,row1,rows1,int1,str1,bool1])
  cases inB n 1 1000 with
  | false => exact Ret.pos rfl (Ret.some rfl)
  | true =>
    refine Ret.neg rfl ?_
    refine Ret.call (Ret.eq (outside_eq _ _ _)) ?_
    rintro _ rfl
    (dsimp +instances only [gi0,gis,row1,rows1,int1,str1,bool1])
    cases inB k 1 3 with
    | false => exact Ret.pos rfl (Ret.some rfl)
    | true =>
      refine Ret.neg rfl ?_
      cases hk : (k != 1) with
      | true =>
        refine Ret.pos rfl ?_
        refine Ret.call (Ret.eq (check_eq hw)) ?_
        rintro _ rfl
        (dsimp +instances only [gi0,gis,row1,rows1,int1,str1,bool1])
        cases hf : (faultC [.i t, .i m, .s b, .s c, .i sn, .i hd, .s x, .s y] != 0) with
        | true => exact Ret.pos rfl (Ret.some rfl)
        | false =>
          refine Ret.neg rfl ?_
          refine Ret.tail (P := fun z g => z = 0 ∧ g = _) (Ret.mono (Ret.eq (h)) fun o ho => ⟨0, by rw [ho], rfl, by rw [ho]⟩) (by (first|rfl|assumption|(simp only [inI,sl]<;>omega))) ?_
          rintro _ _ ⟨rfl, rfl⟩
          (dsimp +instances only [gi0,gis,row1,rows1,int1,str1,bool1])
          exact Ret.some rfl
      | false =>
        refine Ret.neg rfl ?_
        refine Ret.tail (P := fun z g => z = 0 ∧ g = _) (Ret.mono (Ret.eq (h)) fun o ho => ⟨0, by rw [ho], rfl, by rw [ho]⟩) (by (first|rfl|assumption|(simp only [inI,sl]<;>omega))) ?_
        rintro _ _ ⟨rfl, rfl⟩
        (dsimp +instances only [gi0,gis,row1,rows1,int1,str1,bool1])
        exact Ret.some rfl
theorem q20 (l1 l2 : List (List G)) (j N i n k : Int) (t m : Int) (b c : ByteArray) (sn hd : Int) (x y : ByteArray) (t2 m2 : Int) (b2 c2 : ByteArray) (sn2 hd2 : Int) (x2 y2 : ByteArray) (f : Bool) :
    tl_pileref2_ChangesFault_20 [.i n, .i k, .i t, .i m, .s b, .s c, .i sn, .i hd, .s x, .s y, .i t2, .i m2, .s b2, .s c2, .i sn2, .i hd2, .s x2, .s y2, .l l1, .i j, .l l2, .i N, .i i, .t f] = bif f then some (some 0, [.i 3]) else some (some 1, [.i n, .i k, .i t, .i m, .s b, .s c, .i sn, .i hd, .s x, .s y, .i t2, .i m2, .s b2, .s c2, .i sn2, .i hd2, .s x2, .s y2, .l l1, .i j, .l l2, .i N, .i i]) := rfl
theorem last_ref (rows : List (List G)) (i : Nat) (hi : i < rows.length) (hn : rows.length < 100000) (n N : Int) :
    (bif (ltI 0 (i : Int)) then (bif (inI ((i : Int) - 1)) then (bif ((nnI ((i : Int) - 1)) && (ltI ((i : Int) - 1) ((rows.length : Nat) : Int))) then (bif (leI n (gi (rows.getD (((i : Int) - 1).toNat) []) 0).int) then some (some 0, [G.i 7]) else some (some 1, [.l rows, .l rows, .i N, .i (i : Int)])) else none) else none) else some (some 1, [.l rows, .l rows, .i N, .i (i : Int)]))
      = some (bif lastG (prevG rows i) n != 0 then (some 0, [G.i (lastG (prevG rows i) n)]) else (some 1, [.l rows, .l rows, .i N, .i (i : Int)])) := by
  refine Ret.toEq ?_
  cases i with
  | zero => exact Ret.neg (by (first|rfl|assumption|(simp only [inI,sl]<;>omega))) (Ret.some rfl)
  | succ j =>
    refine Ret.pos (by (first|rfl|assumption|(simp only [inI,sl]<;>omega))) (Ret.pos (by (first|rfl|assumption|(simp only [inI,sl]<;>omega))) (Ret.pos (by (first|rfl|assumption|(simp only [inI,sl]<;>omega))) ?_))
    have e : (((j + 1 : Nat) : Int) - 1).toNat = j := by omega
    rw [e]
    simp only [prevG, lastG]
    cases leI n (gi (rows.getD j []) 0).int <;> exact Ret.some rfl
def okR (rows : List (List G)) (i : Nat) (N v : Int) : Option (Option Nat × List G) := some (bif v != 0 then (some 0, [.i v]) else (some 1, [.l rows, .l rows, .i N, .i (i : Int)]))
theorem q18 (rows : List (List G)) (i : Nat) (hi : i < rows.length) (hn : rows.length < 100000) (n k N : Int) (t m : Int) (b c : ByteArray) (sn hd : Int) (x y : ByteArray) (t2 m2 : Int) (b2 c2 : ByteArray) (sn2 hd2 : Int) (x2 y2 : ByteArray) :
    tl_pileref2_ChangesFault_18 [.i n, .i k, .i t, .i m, .s b, .s c, .i sn, .i hd, .s x, .s y, .i t2, .i m2, .s b2, .s c2, .i sn2, .i hd2, .s x2, .s y2, .l rows, .i (i : Int), .l rows, .i N, .i (i : Int)] = okR rows i N (f14 (prevG rows i) n k [.i t, .i m, .s b, .s c, .i sn, .i hd, .s x, .s y] [.i t2, .i m2, .s b2, .s c2, .i sn2, .i hd2, .s x2, .s y2]) := by
  have hl := last_ref rows i hi hn n N
  unfold tl_pileref2_ChangesFault_18 f14 formG okR
  (dsimp +instances only [gi0,gis,row1,rows1,int1,str1,bool1])
  simp only [q20]
  unfold zC
  generalize rowEq KContact [.i t2, .i m2, .s b2, .s c2, .i sn2, .i hd2, .s x2, .s y2] [.i 0, .i 0, .s (⟨#[]⟩ : ByteArray), .s (⟨#[]⟩ : ByteArray), .i 0, .i 0, .s (⟨#[]⟩ : ByteArray), .s (⟨#[]⟩ : ByteArray)] = zs
  generalize rowEq KContact [.i t, .i m, .s b, .s c, .i sn, .i hd, .s x, .s y] [.i 0, .i 0, .s (⟨#[]⟩ : ByteArray), .s (⟨#[]⟩ : ByteArray), .i 0, .i 0, .s (⟨#[]⟩ : ByteArray), .s (⟨#[]⟩ : ByteArray)] = zw
  generalize rowEq KContact [.i t, .i m, .s b, .s c, .i sn, .i hd, .s x, .s y] [.i t2, .i m2, .s b2, .s c2, .i sn2, .i hd2, .s x2, .s y2] = ws
  cases (k == 2) <;> cases (k == 1) <;> cases zs <;> cases zw <;> cases ws <;> first | rfl | exact hl
theorem okR_ne {rows : List (List G)} {i : Nat} {N v : Int} (h : v ≠ 0) : okR rows i N v = some (some 0, [.i v]) := by
  have e : (v != 0) = true := by simpa using h
  unfold okR
  rw [e]
  rfl
theorem okR_eq {rows : List (List G)} {i : Nat} {N v : Int} (h : v = 0) : okR rows i N v = some (some 1, [.l rows, .l rows, .i N, .i (i : Int)]) := by subst h; rfl
theorem okR_tail {rows : List (List G)} {i : Nat} {N v : Int} {t : Option (Option Nat × List G)} {β : Type} {k : Nat → List G → Option β} {Q : β → Prop} (h : t = okR rows i N v) (h1 : v ≠ 0 → Ret (k 0 [.i v]) Q) (h2 : v = 0 → Ret (k 1 [.l rows, .l rows, .i N, .i (i : Int)]) Q) :
    Ret (loopB true (cutR t) k) Q := by
  subst h
  by_cases hv : v = 0
  · rw [okR_eq hv]
    exact h2 hv
  · rw [okR_ne hv]
    exact h1 hv
theorem okR_thru {rows : List (List G)} {i : Nat} {N v : Int} {t : Option (Option Nat × List G)} (h : t = okR rows i N v) :
    (loopB true (cutR t) fun c g => bif Nat.beq c 0 then some (some 0, [G.i (gi g 0).int]) else some (some 1, [G.l (gi g 0).rows, .l (gi g 1).rows, .i (gi g 2).int, .i (gi g 3).int])) = okR rows i N v := by
  subst h
  by_cases hv : v = 0
  · rw [okR_eq hv]
    rfl
  · rw [okR_ne hv]
    rfl
theorem q14 (rows : List (List G)) (i : Nat) (hi : i < rows.length) (hn : rows.length < 100000) (n k N : Int) (t m : Int) (b c : ByteArray) (sn hd : Int) (x y : ByteArray) (t2 m2 : Int) (b2 c2 : ByteArray) (sn2 hd2 : Int) (x2 y2 : ByteArray) (hs : Con [.i t2, .i m2, .s b2, .s c2, .i sn2, .i hd2, .s x2, .s y2]) :
    tl_pileref2_ChangesFault_14 [.i n, .i k, .i t, .i m, .s b, .s c, .i sn, .i hd, .s x, .s y, .i t2, .i m2, .s b2, .s c2, .i sn2, .i hd2, .s x2, .s y2, .l rows, .i (i : Int), .l rows, .i N, .i (i : Int)] = okR rows i N (f10 (prevG rows i) n k [.i t, .i m, .s b, .s c, .i sn, .i hd, .s x, .s y] [.i t2, .i m2, .s b2, .s c2, .i sn2, .i hd2, .s x2, .s y2]) := by
  have h := okR_thru (q18 rows i hi hn n k N t m b c sn hd x y t2 m2 b2 c2 sn2 hd2 x2 y2)
  unfold tl_pileref2_ChangesFault_14
  (dsimp +instances only [gi0,gis,row1,rows1,int1,str1,bool1])
  cases hk : (k != 2) with
  | true =>
    refine Ret.toEq ?_
    refine Ret.pos rfl ?_
    refine Ret.call (Ret.eq (fault_eq hs)) ?_
    rintro _ rfl
    (dsimp +instances only [gi0,gis,row1,rows1,int1,str1,bool1])
    cases hf : (faultC [.i t2, .i m2, .s b2, .s c2, .i sn2, .i hd2, .s x2, .s y2] != 0) with
    | true =>
      have ef : f10 (prevG rows i) n k [.i t, .i m, .s b, .s c, .i sn, .i hd, .s x, .s y] [.i t2, .i m2, .s b2, .s c2, .i sn2, .i hd2, .s x2, .s y2] = faultC [.i t2, .i m2, .s b2, .s c2, .i sn2, .i hd2, .s x2, .s y2] := by unfold f10; rw [hk, hf]; rfl
      rw [ef, hf]
      exact Ret.pos rfl ⟨_, rfl, rfl⟩
    | false =>
      have ef : f10 (prevG rows i) n k [.i t, .i m, .s b, .s c, .i sn, .i hd, .s x, .s y] [.i t2, .i m2, .s b2, .s c2, .i sn2, .i hd2, .s x2, .s y2] = f14 (prevG rows i) n k [.i t, .i m, .s b, .s c, .i sn, .i hd, .s x, .s y] [.i t2, .i m2, .s b2, .s c2, .i sn2, .i hd2, .s x2, .s y2] := by unfold f10; rw [hk, hf]; rfl
      rw [ef]
      exact Ret.neg rfl (Ret.eq h)
  | false =>
    have ef : f10 (prevG rows i) n k [.i t, .i m, .s b, .s c, .i sn, .i hd, .s x, .s y] [.i t2, .i m2, .s b2, .s c2, .i sn2, .i hd2, .s x2, .s y2] = f14 (prevG rows i) n k [.i t, .i m, .s b, .s c, .i sn, .i hd, .s x, .s y] [.i t2, .i m2, .s b2, .s c2, .i sn2, .i hd2, .s x2, .s y2] := by unfold f10; rw [hk]; rfl
    rw [ef]
    exact h
def fAt (rows : List (List G)) (i : Nat) : Int := f1 (prevG rows i) (gi (rows.getD i []) 0).int (gi (rows.getD i []) 1).int (((rows.getD i []).drop 2).take 8) ((rows.getD i []).drop 10)
def firstF (f : Nat → Int) : Nat → Nat → Int
  | 0, _ => 0
  | k + 1, i => bif f i != 0 then f i else firstF f k (i + 1)
def faultCh (rows : List (List G)) : Int := bif Nat.blt 1000 rows.length then 2 else firstF (fAt rows) rows.length 0
theorem fAt_eq {rows : List (List G)} {i : Nat} {n k : Int} {w s : List G} (e : rows.getD i [] = .i n :: .i k :: (w ++ s)) (hw : Con w) (hs : Con s) : fAt rows i = f1 (prevG rows i) n k w s := by
  obtain ⟨t, m, b, c, sn, hd, x, y, rfl, hw1⟩ := hw
  obtain ⟨t2, m2, b2, c2, sn2, hd2, x2, y2, rfl, hs1⟩ := hs
  unfold fAt
  rw [e]
  rfl
theorem fAt_log {rows : List (List G)} {i : Nat} (hi : i < rows.length) (hn : rows.length < 100000) (hr : ∀ z ∈ rows, Chg Con z) : F_log_changeFault [.l rows, .i (i : Int)] = some [.i (fAt rows i)] := by
  obtain ⟨n, k, w, s, e, _, _, hw, hs⟩ := hr _ (getD_row hi)
  rw [fAt_eq e hw hs]
  exact g1 rows i hi hn e hw hs
theorem runs_log (rows : List (List G)) (hn : rows.length < 100000) (hr : ∀ z ∈ rows, Chg Con z) : ∀ (k i : Nat), i + k = rows.length →
    RetN st_log_CheckChanges_4 [.l rows, .i (rows.length : Int), .i (i : Int)] (k + 1) fun c g => (firstF (fAt rows) k i ≠ 0 ∧ c = 0 ∧ g = [.i (firstF (fAt rows) k i)]) ∨ (firstF (fAt rows) k i = 0 ∧ c = 1 ∧ g = [])
  | 0, i, h => by
    refine RetN.stop (x := 1) (d' := []) (Ret.toEq ?_) (.inr ⟨rfl, rfl, rfl⟩)
    unfold st_log_CheckChanges_4
    (dsimp +instances only [gi0,gis,row1,rows1,int1,str1,bool1])
    exact Ret.neg (by (first|rfl|assumption|(simp only [inI,sl]<;>omega))) (Ret.some rfl)
  | k + 1, i, h => by
    have hs := fAt_log (rows := rows) (i := i) (by omega) hn hr
    by_cases hf : fAt rows i = 0
    · have step : st_log_CheckChanges_4 [.l rows, .i (rows.length : Int), .i (i : Int)] = some (none, [.l rows, .i (rows.length : Int), .i ((i : Int) + 1)]) := by
        refine Ret.toEq ?_
        unfold st_log_CheckChanges_4
        (dsimp +instances only [gi0,gis,row1,rows1,int1,str1,bool1])
        refine Ret.pos (by (first|rfl|assumption|(simp only [inI,sl]<;>omega))) ?_
        refine Ret.call (Ret.eq hs) ?_
        rintro _ rfl
        (dsimp +instances only [gi0,gis,row1,rows1,int1,str1,bool1])
        exact Ret.neg (by simpa using hf) (Ret.pos (by (first|rfl|assumption|(simp only [inI,sl]<;>omega))) (Ret.some rfl))
      refine RetN.next step ((runs_log rows hn hr k (i + 1) (by omega)).mono fun c g hq => ?_)
      have e : firstF (fAt rows) (k + 1) i = firstF (fAt rows) k (i + 1) := by simp [firstF, hf]
      rw [e]
      exact hq
    · have e : firstF (fAt rows) (k + 1) i = fAt rows i := by
        have : (fAt rows i != 0) = true := by simpa using hf
        simp only [firstF, this, cond_true]
      refine RetN.stop (x := 0) (d' := [.i (fAt rows i)]) (Ret.toEq ?_) (.inl ⟨by rw [e]; exact hf, rfl, by rw [e]⟩)
      unfold st_log_CheckChanges_4
      (dsimp +instances only [gi0,gis,row1,rows1,int1,str1,bool1])
      refine Ret.pos (by (first|rfl|assumption|(simp only [inI,sl]<;>omega))) ?_
      refine Ret.call (Ret.eq hs) ?_
      rintro _ rfl
      (dsimp +instances only [gi0,gis,row1,rows1,int1,str1,bool1])
      exact Ret.pos (by simpa using hf) (Ret.some rfl)
theorem checkCh_eq (rows : List (List G)) (hn : rows.length < 100000) (hr : ∀ z ∈ rows, Chg Con z) : F_log_CheckChanges [.l rows] = some [.i (faultCh rows)] := by
  refine Ret.toEq ?_
  unfold F_log_CheckChanges faultCh
  (dsimp +instances only [gi0,gis,row1,rows1,int1,str1,bool1])
  by_cases h : 1000 < rows.length
  · have e : Nat.blt 1000 rows.length = true := by rw [Nat.blt_eq]; exact h
    rw [e]
    exact Ret.pos (by (first|rfl|assumption|(simp only [inI,sl]<;>omega))) (Ret.some rfl)
  · have e : Nat.blt 1000 rows.length = false := by
      cases hb : Nat.blt 1000 rows.length with
      | false => rfl
      | true => rw [Nat.blt_eq] at hb; exact (h hb).elim
    rw [e]
    refine Ret.neg (by (first|rfl|assumption|(simp only [inI,sl]<;>omega))) ?_
    refine Ret.loop ((runs_log rows hn hr rows.length 0 (by omega)).to (by omega)) rfl ?_
    rintro c g (⟨h1, rfl, rfl⟩ | ⟨h1, rfl, rfl⟩)
    · exact Ret.pos rfl (Ret.some rfl)
    · refine Ret.neg rfl (Ret.some ?_)
      simp only [cond_false, h1]
def stR (rows : List (List G)) (i : Nat) (v : Int) : Option Nat × List G := bif v != 0 then (some 0, [.i v]) else (none, [.l rows, .l rows, .i (rows.length : Int), .i ((i : Int) + 1)])
theorem stR_ne {rows : List (List G)} {i : Nat} {v : Int} (h : v ≠ 0) : stR rows i v = (some 0, [.i v]) := by
  have e : (v != 0) = true := by simpa using h
  unfold stR
  rw [e]
  rfl
theorem stR_eq {rows : List (List G)} {i : Nat} {v : Int} (h : v = 0) : stR rows i v = (none, [.l rows, .l rows, .i (rows.length : Int), .i ((i : Int) + 1)]) := by subst h; rfl
theorem step_ref (rows : List (List G)) (i : Nat) (hi : i < rows.length) (hn : rows.length < 100000) (hr : ∀ z ∈ rows, Chg Con z) :
    Ret (st_pileref2_ChangesFault_4 [.l rows, .l rows, .i (rows.length : Int), .i (i : Int)]) fun o => o = stR rows i (fAt rows i) := by
  obtain ⟨n, k, _, _, e, _, _, hw, hs⟩ := hr _ (getD_row hi)
  rw [fAt_eq e hw hs]
  obtain ⟨t, m, b, c, sn, hd, x, y, rfl, hw1⟩ := id hw
  obtain ⟨t2, m2, b2, c2, sn2, hd2, x2, y2, rfl, hs1⟩ := id hs
  have h := q14 rows i hi hn n k (rows.length : Int) t m b c sn hd x y t2 m2 b2 c2 sn2 hd2 x2 y2 hs
  have last : f1 (prevG rows i) n k [.i t, .i m, .s b, .s c, .i sn, .i hd, .s x, .s y] [.i t2, .i m2, .s b2, .s c2, .i sn2, .i hd2, .s x2, .s y2] = f10 (prevG rows i) n k [.i t, .i m, .s b, .s c, .i sn, .i hd, .s x, .s y] [.i t2, .i m2, .s b2, .s c2, .i sn2, .i hd2, .s x2, .s y2] → Ret (loopB true (cutR (tl_pileref2_ChangesFault_14 [.i n, .i k, .i t, .i m, .s b, .s c, .i sn, .i hd, .s x, .s y, .i t2, .i m2, .s b2, .s c2, .i sn2, .i hd2, .s x2, .s y2, .l rows, .i (i : Int), .l rows, .i (rows.length : Int), .i (i : Int)])) fun cg14 g14 => (bif Nat.beq cg14 0 then some (some 0, [.i (gi g14 0).int]) else (bif (inI ((gi g14 3).int + 1)) then some (none, [.l (gi g14 0).rows, .l (gi g14 1).rows, .i (gi g14 2).int, .i ((gi g14 3).int + 1)]) else none)))
      (fun o => o = stR rows i (f1 (prevG rows i) n k [.i t, .i m, .s b, .s c, .i sn, .i hd, .s x, .s y] [.i t2, .i m2, .s b2, .s c2, .i sn2, .i hd2, .s x2, .s y2])) := by
    intro ef
    rw [ef]
    refine okR_tail h (fun hv => ?_) (fun hv => ?_)
    · rw [stR_ne hv]
      exact Ret.pos rfl (Ret.some rfl)
    · rw [stR_eq hv]
      refine Ret.neg rfl ?_
      (dsimp +instances only [gi0,gis,row1,rows1,int1,str1,bool1])
      exact Ret.pos (by (first|rfl|assumption|(simp only [inI,sl]<;>omega))) (Ret.some rfl)
  unfold st_pileref2_ChangesFault_4
  (dsimp +instances only [gi0,gis,row1,rows1,int1,str1,bool1])
  refine Ret.pos (by (first|rfl|assumption|(simp only [inI,sl]<;>omega))) (Ret.pos (by (first|rfl|assumption|(simp only [inI,sl]<;>omega))) ?_)
  simp only [getD_i, e, List.cons_append, List.nil_append]
  (dsimp +instances only [gi0,gis,row1,rows1,int1,str1,bool1])
  refine Ret.call (Ret.eq (in_eq _ _ _)) ?_
  rintro _ rfl
  (dsimp +instances only [gi0,gis,row1,rows1,int1,str1,bool1])
  cases h1 : inB n 1 1000 with
  | false =>
    have ef : f1 (prevG rows i) n k [.i t, .i m, .s b, .s c, .i sn, .i hd, .s x, .s y] [.i t2, .i m2, .s b2, .s c2, .i sn2, .i hd2, .s x2, .s y2] = 1 := by unfold f1; rw [h1]; rfl
    rw [ef]
    exact Ret.pos rfl (Ret.some rfl)
  | true =>
    refine Ret.neg rfl ?_
    refine Ret.call (Ret.eq (in_eq _ _ _)) ?_
    rintro _ rfl
    (dsimp +instances only [gi0,gis,row1,rows1,int1,str1,bool1])
    cases h2 : inB k 1 3 with
    | false =>
      have ef : f1 (prevG rows i) n k [.i t, .i m, .s b, .s c, .i sn, .i hd, .s x, .s y] [.i t2, .i m2, .s b2, .s c2, .i sn2, .i hd2, .s x2, .s y2] = 4 := by unfold f1; rw [h1, h2]; rfl
      rw [ef]
      exact Ret.pos rfl (Ret.some rfl)
    | true =>
      refine Ret.neg rfl ?_
      cases hk : (k != 1) with
      | true =>
        refine Ret.pos rfl ?_
        refine Ret.call (Ret.eq (fault_eq hw)) ?_
        rintro _ rfl
        (dsimp +instances only [gi0,gis,row1,rows1,int1,str1,bool1])
        cases hf : (faultC [.i t, .i m, .s b, .s c, .i sn, .i hd, .s x, .s y] != 0) with
        | true =>
          have ef : f1 (prevG rows i) n k [.i t, .i m, .s b, .s c, .i sn, .i hd, .s x, .s y] [.i t2, .i m2, .s b2, .s c2, .i sn2, .i hd2, .s x2, .s y2] = faultC [.i t, .i m, .s b, .s c, .i sn, .i hd, .s x, .s y] := by unfold f1; rw [h1, h2, hk, hf]; rfl
          rw [ef, stR_ne (by simpa using hf)]
          exact Ret.pos rfl (Ret.some rfl)
        | false =>
          refine Ret.neg rfl ?_
          exact last (by unfold f1; rw [h1, h2, hk, hf]; rfl)
      | false =>
        refine Ret.neg rfl ?_
        exact last (by unfold f1; rw [h1, h2, hk]; rfl)
theorem runs_ref (rows : List (List G)) (hn : rows.length < 100000) (hr : ∀ z ∈ rows, Chg Con z) : ∀ (k i : Nat), i + k = rows.length →
    RetN st_pileref2_ChangesFault_4 [.l rows, .l rows, .i (rows.length : Int), .i (i : Int)] (k + 1) fun c g => (firstF (fAt rows) k i ≠ 0 ∧ c = 0 ∧ g = [.i (firstF (fAt rows) k i)]) ∨ (firstF (fAt rows) k i = 0 ∧ c = 1 ∧ g = [])
  | 0, i, h => by
    refine RetN.stop (x := 1) (d' := []) (Ret.toEq ?_) (.inr ⟨rfl, rfl, rfl⟩)
    unfold st_pileref2_ChangesFault_4
    (dsimp +instances only [gi0,gis,row1,rows1,int1,str1,bool1])
    exact Ret.neg (by (first|rfl|assumption|(simp only [inI,sl]<;>omega))) (Ret.some rfl)
  | k + 1, i, h => by
    obtain ⟨o, ho, e0⟩ := step_ref rows i (by omega) hn hr
    by_cases hf : fAt rows i = 0
    · rw [stR_eq hf] at e0
      rw [e0] at ho
      refine RetN.next ho ((runs_ref rows hn hr k (i + 1) (by omega)).mono fun c g hq => ?_)
      have e : firstF (fAt rows) (k + 1) i = firstF (fAt rows) k (i + 1) := by simp [firstF, hf]
      rw [e]
      exact hq
    · have e1 : (fAt rows i != 0) = true := by simpa using hf
      rw [stR_ne hf] at e0
      rw [e0] at ho
      have e : firstF (fAt rows) (k + 1) i = fAt rows i := by simp only [firstF, e1, cond_true]
      exact RetN.stop ho (.inl ⟨by rw [e]; exact hf, rfl, by rw [e]⟩)
theorem faultCh_eq (rows : List (List G)) (hn : rows.length < 100000) (hr : ∀ z ∈ rows, Chg Con z) : F_pileref2_ChangesFault [.l rows] = some [.i (faultCh rows)] := by
  refine Ret.toEq ?_
  unfold F_pileref2_ChangesFault faultCh
  (dsimp +instances only [gi0,gis,row1,rows1,int1,str1,bool1])
  by_cases h : 1000 < rows.length
  · have e : Nat.blt 1000 rows.length = true := by rw [Nat.blt_eq]; exact h
    rw [e]
    exact Ret.pos (by (first|rfl|assumption|(simp only [inI,sl]<;>omega))) (Ret.some rfl)
  · have e : Nat.blt 1000 rows.length = false := by
      cases hb : Nat.blt 1000 rows.length with
      | false => rfl
      | true => rw [Nat.blt_eq] at hb; exact (h hb).elim
    rw [e]
    refine Ret.neg (by (first|rfl|assumption|(simp only [inI,sl]<;>omega))) ?_
    refine Ret.loop ((runs_ref rows hn hr rows.length 0 (by omega)).to (by omega)) rfl ?_
    rintro c g (⟨h1, rfl, rfl⟩ | ⟨h1, rfl, rfl⟩)
    · exact Ret.pos rfl (Ret.some rfl)
    · refine Ret.neg rfl (Ret.some ?_)
      simp only [cond_false, h1]
end
end Go.Proofs.SYtpfhjchbegdgdaaGreatDoor

namespace Go.Proofs.SYtpfhjchbegdgdaaGreatDoor
open Go Go.AL Go.Proofs
noncomputable section
end
end Go.Proofs.SYtpfhjchbegdgdaaGreatDoor

namespace Go.Proofs.SYtpfhjchbegdgdaaGreatDoor
open Go Go.AL Go.Proofs
noncomputable section
def noOf (r : List G) : Int := (gi r 0).int
end
end Go.Proofs.SYtpfhjchbegdgdaaGreatDoor

namespace Go.Proofs.SYtpfhjchbegdgdaaGreatDoor
open Go Go.AL Go.Proofs
noncomputable section
theorem getD_at (p : List (List G)) (x : List G) (q : List (List G)) : (p ++ x :: q).getD p.length [] = x := by simp
end
end Go.Proofs.SYtpfhjchbegdgdaaGreatDoor

namespace Go.Proofs.SYtpfhjchbegdgdaaGreatDoor
open Go Go.AL Go.Proofs
noncomputable section
theorem bytes_eq {a b : ByteArray} (h : (a.toList == b.toList) = true) : a = b := by
  rw [ByteArray.toList_eq, ByteArray.toList_eq, beq_iff_eq] at h
  exact ByteArray.ext (Array.toList_inj.1 h)
theorem rowEq_con {r s : List G} (hr : Con r) (hs : Con s) (h : rowEq KContact r s = true) : r = s := by
  obtain ⟨t, m, b, c, n, d, x, y, rfl, _⟩ := hr
  obtain ⟨t2, m2, b2, c2, n2, d2, x2, y2, rfl, _⟩ := hs
  have h : ((t == t2) && ((m == m2) && ((b.toList == b2.toList) && ((c.toList == c2.toList) && ((n == n2) && ((d == d2) && ((x.toList == x2.toList) && ((y.toList == y2.toList) && true)))))))) = true := h
  simp only [Bool.and_eq_true, Bool.and_true, beq_iff_eq (α := Int)] at h
  obtain ⟨rfl, rfl, h1, h2, rfl, rfl, h3, h4⟩ := h
  rw [bytes_eq h1, bytes_eq h2, bytes_eq h3, bytes_eq h4]
def rising (l : List (List G)) : Prop := l.Pairwise fun a b => noOf a < noOf b
def apartN (l : List (List G)) : Prop := l.Pairwise fun a b => noOf a ≠ noOf b
theorem rising.apart {l : List (List G)} (h : rising l) : apartN l := List.Pairwise.imp (fun h => by omega) h
end
end Go.Proofs.SYtpfhjchbegdgdaaGreatDoor

namespace Go.Proofs.SYtpfhjchbegdgdaaGreatDoor
open Go Go.AL Go.Proofs
noncomputable section
theorem adj_strict {f : List G → Int} : ∀ {l : List (List G)}, (∀ i, i + 1 < l.length → f (l.getD i []) < f (l.getD (i + 1) [])) → l.Pairwise fun a b => f a < f b
  | [], _ => List.Pairwise.nil
  | [x], _ => by simp
  | x :: y :: l, h => by
    have h0 : f x < f y := h 0 (by simp)
    have ih := adj_strict (l := y :: l) (fun i hi => h (i + 1) (by simpa using hi))
    refine List.pairwise_cons.2 ⟨fun z hz => ?_, ih⟩
    rcases List.mem_cons.1 hz with rfl | hz
    · exact h0
    · have := (List.pairwise_cons.1 ih).1 z hz
      omega
theorem bif_zero {c : Bool} {x y : Int} (h : (bif c then x else y) = 0) (hx : c = true → x ≠ 0) : y = 0 := by
  cases c with
  | true => exact (hx rfl h).elim
  | false => exact h
theorem f1_zero {p : Option Int} {n k : Int} {w s : List G} (h : f1 p n k w s = 0) : lastG p n = 0 := by
  unfold f1 at h
  have h := bif_zero h (fun _ => by omega)
  have h := bif_zero h (fun _ => by omega)
  have h := bif_zero h (fun hc => by simp only [Bool.and_eq_true] at hc; simpa using hc.2)
  unfold f10 at h
  have h := bif_zero h (fun hc => by simp only [Bool.and_eq_true] at hc; simpa using hc.2)
  unfold f14 at h
  exact bif_zero h (fun _ => by omega)
theorem firstF_zero {f : Nat → Int} : ∀ {k i : Nat}, firstF f k i = 0 → ∀ j, i ≤ j → j < i + k → f j = 0
  | 0, _, _, j, h1, h2 => by omega
  | k + 1, i, h, j, h1, h2 => by
    simp only [firstF] at h
    have hi : f i = 0 := by
      by_cases e : f i = 0
      · exact e
      · have z : (f i != 0) = true := by simpa using e
        rw [z] at h
        exact h
    have z : (f i != 0) = false := by simpa using hi
    rw [z] at h
    by_cases e : j = i
    · rw [e]
      exact hi
    · exact firstF_zero (k := k) (i := i + 1) h j (by omega) (by omega)
theorem rising_of {rows : List (List G)} (hr : ∀ z ∈ rows, Chg Con z) (hl : rows.length ≤ 1000) (h : faultCh rows = 0) : rising rows := by
  have e : Nat.blt 1000 rows.length = false := Bool.eq_false_iff.2 fun hh => by rw [Nat.blt_eq] at hh; omega
  unfold faultCh at h
  rw [e] at h
  simp only [cond_false] at h
  refine adj_strict fun i hi => ?_
  have h1 := firstF_zero h (i + 1) (by omega) (by omega)
  obtain ⟨n, k, w, s, e1, _, _, hw, hs⟩ := hr _ (getD_row hi)
  rw [fAt_eq e1 hw hs] at h1
  have h2 := f1_zero h1
  simp only [prevG, lastG] at h2
  have h3 := leI_eq n (gi (rows.getD i []) 0).int
  cases hc : leI n (gi (rows.getD i []) 0).int with
  | true => rw [hc] at h2; cases h2
  | false =>
    rw [hc] at h3
    have h4 : ¬ n ≤ (gi (rows.getD i []) 0).int := by simpa using h3.symm
    unfold noOf
    rw [e1]
    show (gi (rows.getD i []) 0).int < n
    omega
end
end Go.Proofs.SYtpfhjchbegdgdaaGreatDoor

namespace Go.Proofs.SYtpfhjchbegdgdaaGreatDoor
open Go Go.AL Go.Proofs
noncomputable section
def keyOf (r : List G) : List G := [.i (gi r 0).int, .i (gi r 1).int, .s (gi r 2).str, .s (gi r 3).str, .i 0, .i 0, .s (⟨#[]⟩ : ByteArray), .s (⟨#[]⟩ : ByteArray)]
theorem key_ok (r : List G) : F_log_key [.l [r]] = some [.l [keyOf r]] := rfl
theorem cmpI_zero {a b : Int} : cmpI a b = 0 ↔ a = b := by
  unfold cmpI
  constructor
  · intro h
    split at h
    · omega
    · split at h <;> omega
  · rintro rfl
    simp
theorem cmpS_zero {a b : ByteArray} : cmpS a b = 0 ↔ a = b := by
  have h := str_eq a b
  constructor
  · intro e
    rw [decide_eq_true (p := cmpS a b = 0) e] at h
    exact bytes_eq h
  · rintro rfl
    have h2 : (a.toList == a.toList) = true := by simp
    rw [h2] at h
    exact of_decide_eq_true h.symm
theorem or4_zero {a b c d : Int} : or4 a b c d = 0 ↔ a = 0 ∧ b = 0 ∧ c = 0 ∧ d = 0 := by
  unfold or4
  constructor
  · intro h
    split at h
    · contradiction
    · split at h
      · contradiction
      · split at h
        · contradiction
        · omega
  · rintro ⟨rfl, rfl, rfl, rfl⟩
    simp
theorem ordC_key {r s : List G} : ordC r s = 0 ↔ keyOf r = keyOf s := by
  unfold ordC keyOf
  rw [or4_zero, cmpI_zero, cmpS_zero, cmpS_zero, cmpI_zero]
  simp only [List.cons.injEq, G.i.injEq, G.s.injEq, and_true]
  constructor
  · rintro ⟨h1, h2, h3, h4⟩
    exact ⟨h1, h4, h3, h2⟩
  · rintro ⟨h1, h2, h3, h4⟩
    exact ⟨h1, h4, h3, h2⟩
theorem keyEq {r s : List G} : rowEq KContact (keyOf r) (keyOf s) = true ↔ keyOf r = keyOf s := by
  constructor
  · intro h
    have h : (((gi r 0).int == (gi s 0).int) && (((gi r 1).int == (gi s 1).int) && (((gi r 2).str.toList == (gi s 2).str.toList) && (((gi r 3).str.toList == (gi s 3).str.toList) && true)))) = true := by
      have h : (((gi r 0).int == (gi s 0).int) && (((gi r 1).int == (gi s 1).int) && (((gi r 2).str.toList == (gi s 2).str.toList) && (((gi r 3).str.toList == (gi s 3).str.toList) && (((0 : Int) == 0) && (((0 : Int) == 0) && (((⟨#[]⟩ : ByteArray).toList == (⟨#[]⟩ : ByteArray).toList) && (((⟨#[]⟩ : ByteArray).toList == (⟨#[]⟩ : ByteArray).toList) && true)))))))) = true := h
      simpa using h
    simp only [Bool.and_eq_true, Bool.and_true, beq_iff_eq (α := Int)] at h
    obtain ⟨h1, h2, h3, h4⟩ := h
    unfold keyOf
    rw [h1, h2, bytes_eq h3, bytes_eq h4]
  · intro h
    rw [h]
    exact rowEq_refl KContact _ rfl
theorem keyEq_false {r s : List G} : rowEq KContact (keyOf r) (keyOf s) = false ↔ keyOf r ≠ keyOf s := by
  rw [Bool.eq_false_iff, Ne, keyEq]
def valOf' (e : List G) : List G := (gi e 1).row
structure MInv (m : List (List G)) (clock : Nat) (out : List (List G)) : Prop where
  form : ∀ e ∈ m, ∃ v n, e = [.l [keyOf v], .l [v], .i (n : Nat)] ∧ n < clock ∧ Con v
  born : (m.map bornG).Nodup
  vals : (m.map valOf').Perm out
  keys : out.Pairwise fun a b => keyOf a ≠ keyOf b
theorem MInv.nil : MInv [] 0 [] := ⟨by simp, by simp, List.Perm.nil, List.Pairwise.nil⟩
theorem MInv.con {m : List (List G)} {clock : Nat} {out : List (List G)} (h : MInv m clock out) : ∀ x ∈ out, Con x := by
  intro x hx
  obtain ⟨e, he, rfl⟩ := List.mem_map.1 (h.vals.symm.subset hx)
  obtain ⟨v, n, rfl, _, hv⟩ := h.form e he
  exact hv
theorem MInv.ok {m : List (List G)} {clock : Nat} {out : List (List G)} (h : MInv m clock out) : okSt m clock = true := by
  have nb : ∀ l : List Nat, l.Nodup → nodupB l = true := by
    intro l hl
    induction l with
    | nil => rfl
    | cons a l ih =>
      obtain ⟨h1, h2⟩ := List.nodup_cons.1 hl
      simp only [nodupB, ih h2, Bool.and_true, Bool.not_eq_true']
      cases hc : l.any (Nat.beq a) with
      | false => rfl
      | true =>
        obtain ⟨x, hx, e⟩ := List.any_eq_true.1 hc
        rw [Nat.eq_of_beq_eq_true e] at h1
        exact (h1 hx).elim
  simp only [okSt, nb _ h.born, Bool.true_and, List.all_eq_true, Nat.blt_eq]
  intro e he
  obtain ⟨v, n, rfl, hn, _⟩ := h.form e he
  exact hn
theorem MInv.once {m : List (List G)} {clock : Nat} {out : List (List G)} (h : MInv m clock out) : (m.map valOf').Pairwise fun a b => keyOf a ≠ keyOf b :=
  (h.vals.pairwise_iff (fun h => Ne.symm h)).2 h.keys
theorem has_iff : ∀ {m : List (List G)} {k : List G}, (∀ e ∈ m, ∃ v n, e = [.l [keyOf v], .l [v], .i (n : Nat)]) → (mhas KContact m (keyOf k) = true ↔ ∃ v ∈ m.map valOf', keyOf v = keyOf k)
  | [], k, _ => by simp [mhas_nil]
  | e :: m, k, h => by
    obtain ⟨v, n, rfl⟩ := h e List.mem_cons_self
    rw [mhas_cons, Bool.or_eq_true, has_iff (fun e he => h e (List.mem_cons_of_mem _ he))]
    have e1 : rowEq KContact (keyOf k) (gi [G.l [keyOf v], .l [v], .i (n : Nat)] 0).row = rowEq KContact (keyOf k) (keyOf v) := rfl
    rw [e1, keyEq]
    constructor
    · rintro (h | ⟨w, hw, e⟩)
      · exact ⟨v, by simp [valOf', gi, G.row, G.rows], h.symm⟩
      · exact ⟨w, by simp at hw ⊢; exact .inr hw, e⟩
    · rintro ⟨w, hw, e⟩
      simp only [List.map_cons, List.mem_cons] at hw
      rcases hw with rfl | hw
      · exact .inl e.symm
      · exact .inr ⟨w, hw, e⟩
theorem get_of : ∀ {m : List (List G)} {k v z : List G}, (∀ e ∈ m, ∃ v n, e = [.l [keyOf v], .l [v], .i (n : Nat)]) → (m.map valOf').Pairwise (fun a b => keyOf a ≠ keyOf b) → v ∈ m.map valOf' → keyOf v = keyOf k → mget KContact m (keyOf k) z = v
  | [], _, _, _, _, _, hv, _ => by simp at hv
  | e :: m, k, v, z, h, hp, hv, hk => by
    obtain ⟨w, n, rfl⟩ := h e List.mem_cons_self
    rw [mget_cons]
    have e1 : rowEq KContact (keyOf k) (gi [G.l [keyOf w], .l [w], .i (n : Nat)] 0).row = rowEq KContact (keyOf k) (keyOf w) := rfl
    rw [e1]
    simp only [List.map_cons, List.mem_cons] at hv
    obtain ⟨h1, h2⟩ := List.pairwise_cons.1 hp
    by_cases hw : keyOf k = keyOf w
    · rw [keyEq.2 hw, cond_true]
      rcases hv with rfl | hv
      · rfl
      · exact (h1 v hv (by
          show keyOf w = keyOf v
          rw [← hw, hk])).elim
    · rw [keyEq_false.2 hw, cond_false]
      rcases hv with rfl | hv
      · exact (hw hk.symm).elim
      · exact get_of (fun e he => h e (List.mem_cons_of_mem _ he)) h2 hv hk
end
end Go.Proofs.SYtpfhjchbegdgdaaGreatDoor

namespace Go.Proofs.SYtpfhjchbegdgdaaGreatDoor
open Go Go.AL Go.Proofs
noncomputable section
theorem none_of {m : List (List G)} {k : List G} (h : mhas KContact m k = false) : mfind KContact k m 0 = none := by
  unfold mhas at h
  cases hf : mfind KContact k m 0 with
  | none => rfl
  | some p => rw [hf] at h; cases h
theorem MInv.put {m : List (List G)} {clock : Nat} {out : List (List G)} (h : MInv m clock out) {x : List G} (hx : Con x) (hn : ∀ y ∈ out, keyOf y ≠ keyOf x) :
    mput KContact m (keyOf x) x clock = m ++ [[.l [keyOf x], .l [x], .i (clock : Nat)]] ∧ mclk KContact m (keyOf x) clock = clock + 1 ∧ MInv (m ++ [[.l [keyOf x], .l [x], .i (clock : Nat)]]) (clock + 1) (out ++ [x]) := by
  have hf : ∀ e ∈ m, ∃ v n, e = [.l [keyOf v], .l [v], .i ((n : Nat) : Int)] := fun e he => let ⟨v, n, e1, _⟩ := h.form e he; ⟨v, n, e1⟩
  have hh : mhas KContact m (keyOf x) = false := by
    cases hc : mhas KContact m (keyOf x) with
    | false => rfl
    | true =>
      obtain ⟨v, hv, e⟩ := (has_iff hf).1 hc
      exact (hn v (h.vals.subset hv) e).elim
  refine ⟨by unfold mput; rw [none_of hh], by unfold mclk; rw [hh]; rfl, ?_⟩
  refine ⟨fun e he => ?_, ?_, ?_, ?_⟩
  · rcases List.mem_append.1 he with he | he
    · obtain ⟨v, n, e1, h1, h2⟩ := h.form e he
      exact ⟨v, n, e1, by omega, h2⟩
    · simp at he
      exact ⟨x, clock, he, by omega, hx⟩
  · rw [List.map_append]
    refine List.nodup_append.2 ⟨h.born, by simp, fun a ha b hb => ?_⟩
    obtain ⟨e, he, rfl⟩ := List.mem_map.1 ha
    obtain ⟨v, n, rfl, h1, _⟩ := h.form e he
    simp [bornG, gi, G.int] at hb ⊢
    omega
  · rw [List.map_append]
    exact List.Perm.append h.vals (List.Perm.refl _)
  · refine List.pairwise_append.2 ⟨h.keys, by simp, fun a ha b hb => ?_⟩
    simp at hb
    exact hb ▸ hn a ha
theorem mdel_cons (r : List G) (rs : List (List G)) (k : List G) : mdel KContact (r :: rs) k = bif rowEq KContact k (gi r 0).row then rs else r :: mdel KContact rs k := by
  unfold mdel
  simp only [mfind]
  cases rowEq KContact k (gi r 0).row with
  | true => rfl
  | false =>
    simp only [cond_false]
    rw [mfind_shift KContact k rs (0 + 1)]
    cases mfind KContact k rs 0 <;> rfl
theorem del_filter : ∀ {m : List (List G)} {k : List G}, (∀ e ∈ m, ∃ v n, e = [.l [keyOf v], .l [v], .i ((n : Nat) : Int)]) → (m.map valOf').Pairwise (fun a b => keyOf a ≠ keyOf b) →
    mdel KContact m (keyOf k) = m.filter fun e => !rowEq KContact (keyOf k) (keyOf (valOf' e))
  | [], _, _, _ => rfl
  | e :: m, k, h, hp => by
    obtain ⟨w, n, rfl⟩ := h e List.mem_cons_self
    obtain ⟨h1, h2⟩ := List.pairwise_cons.1 hp
    rw [mdel_cons]
    have e1 : rowEq KContact (keyOf k) (gi [G.l [keyOf w], .l [w], .i ((n : Nat) : Int)] 0).row = rowEq KContact (keyOf k) (keyOf w) := rfl
    have e2 : valOf' [G.l [keyOf w], .l [w], .i ((n : Nat) : Int)] = w := rfl
    rw [e1, List.filter_cons, e2]
    by_cases hw : keyOf k = keyOf w
    · rw [keyEq.2 hw]
      simp only [cond_true, Bool.not_true, Bool.false_eq_true, if_false]
      symm
      rw [List.filter_eq_self]
      intro e he
      rw [keyEq_false.2 (fun h3 => h1 (valOf' e) (List.mem_map.2 ⟨e, he, rfl⟩) (by rw [e2, ← hw, h3]))]
      rfl
    · rw [keyEq_false.2 hw]
      simp only [cond_false, Bool.not_false, if_true]
      rw [del_filter (fun e he => h e (List.mem_cons_of_mem _ he)) h2]
theorem MInv.del {m : List (List G)} {clock : Nat} {out : List (List G)} (h : MInv m clock out) (k : List G) :
    MInv (mdel KContact m (keyOf k)) clock (out.filter fun y => !rowEq KContact (keyOf k) (keyOf y)) := by
  have hf : ∀ e ∈ m, ∃ v n, e = [.l [keyOf v], .l [v], .i ((n : Nat) : Int)] := fun e he => let ⟨v, n, e1, _⟩ := h.form e he; ⟨v, n, e1⟩
  rw [del_filter hf h.once]
  refine ⟨fun e he => h.form e (List.mem_filter.1 he).1, ?_, ?_, h.keys.sublist List.filter_sublist⟩
  · exact h.born.sublist (List.filter_sublist.map _)
  · have e : (m.filter fun e => !rowEq KContact (keyOf k) (keyOf (valOf' e))).map valOf' = (m.map valOf').filter fun y => !rowEq KContact (keyOf k) (keyOf y) := by
      rw [List.filter_map]
      rfl
    rw [e]
    exact h.vals.filter _
end
end Go.Proofs.SYtpfhjchbegdgdaaGreatDoor

namespace Go.Proofs.SYtpfhjchbegdgdaaGreatDoor
open Go Go.AL Go.Proofs
noncomputable section
def changeM (mp : List (List G)) (clock : Nat) (k : Int) (w s : List G) : List G :=
  bif !(k == 1) && (!mhas KContact mp (keyOf w) || !rowEq KContact (gEta KContact (mget KContact mp (keyOf w) zC)) w) then [.l mp, .i (clock : Nat), .t false]
  else bif !(k == 2) && (mhas KContact mp (keyOf s) && ((k == 1) || !rowEq KContact (keyOf s) (keyOf w))) then [.l mp, .i (clock : Nat), .t false]
  else bif !(k == 2) then [.l (mput KContact (bif !(k == 1) then mdel KContact mp (keyOf w) else mp) (keyOf s) s clock), .i ((mclk KContact (bif !(k == 1) then mdel KContact mp (keyOf w) else mp) (keyOf s) clock : Nat) : Int), .t true]
  else [.l (bif !(k == 1) then mdel KContact mp (keyOf w) else mp), .i (clock : Nat), .t true]
theorem change_eq (mp : List (List G)) (clock : Nat) (n k : Int) (t m : Int) (b c : ByteArray) (sn hd : Int) (x y : ByteArray) (t2 m2 : Int) (b2 c2 : ByteArray) (sn2 hd2 : Int) (x2 y2 : ByteArray) :
    F_log_change [.l mp, .i (clock : Nat), .l [[.i n, .i k, .i t, .i m, .s b, .s c, .i sn, .i hd, .s x, .s y, .i t2, .i m2, .s b2, .s c2, .i sn2, .i hd2, .s x2, .s y2]]] = some (changeM mp clock k [.i t, .i m, .s b, .s c, .i sn, .i hd, .s x, .s y] [.i t2, .i m2, .s b2, .s c2, .i sn2, .i hd2, .s x2, .s y2]) := by
  have e1 : gEta KContact (keyOf [.i t, .i m, .s b, .s c, .i sn, .i hd, .s x, .s y]) = keyOf [.i t, .i m, .s b, .s c, .i sn, .i hd, .s x, .s y] := rfl
  have e2 : gEta KContact (keyOf [.i t2, .i m2, .s b2, .s c2, .i sn2, .i hd2, .s x2, .s y2]) = keyOf [.i t2, .i m2, .s b2, .s c2, .i sn2, .i hd2, .s x2, .s y2] := rfl
  unfold F_log_change changeM
  (dsimp +instances only [gi0,gis,row1,rows1,int1,str1,bool1])
  rw [callF_some (key_ok [.i t, .i m, .s b, .s c, .i sn, .i hd, .s x, .s y])]
  (dsimp +instances only [gi0,gis,row1,rows1,int1,str1,bool1])
  rw [callF_some (key_ok [.i t2, .i m2, .s b2, .s c2, .i sn2, .i hd2, .s x2, .s y2])]
  (dsimp +instances only [gi0,gis,row1,rows1,int1,str1,bool1])
  simp only [e1, e2, Int.toNat_natCast, bne]
  unfold zC
  generalize mhas KContact mp (keyOf [.i t2, .i m2, .s b2, .s c2, .i sn2, .i hd2, .s x2, .s y2]) = hs
  generalize mhas KContact mp (keyOf [.i t, .i m, .s b, .s c, .i sn, .i hd, .s x, .s y]) = hw
  generalize rowEq KContact (gEta KContact _) [.i t, .i m, .s b, .s c, .i sn, .i hd, .s x, .s y] = rw
  generalize rowEq KContact (keyOf [.i t2, .i m2, .s b2, .s c2, .i sn2, .i hd2, .s x2, .s y2]) (keyOf [.i t, .i m, .s b, .s c, .i sn, .i hd, .s x, .s y]) = rk
  cases (k == 1) <;> cases (k == 2) <;> cases hs <;> cases hw <;> cases rw <;> cases rk <;> rfl
end
end Go.Proofs.SYtpfhjchbegdgdaaGreatDoor

namespace Go.Proofs.SYtpfhjchbegdgdaaGreatDoor
open Go Go.AL Go.Proofs
noncomputable section
def leftOf' (out : List (List G)) (k : Int) (w : List G) : List (List G) := out.filter fun o => !(!(k == 1) && rowEq KContact o w)
def refStep (out : List (List G)) (k : Int) (w s : List G) : Option (List (List G)) :=
  bif (!(k == 1) && Nat.beq (leftOf' out k w).length out.length) || (leftOf' out k w).any (fun o => !(k == 2) && (ordC o s == 0)) then none else some (bif !(k == 2) then leftOf' out k w ++ [s] else leftOf' out k w)
theorem one_key {out : List (List G)} (h : out.Pairwise fun a b => keyOf a ≠ keyOf b) {x y : List G} (hx : x ∈ out) (hy : y ∈ out) (e : keyOf x = keyOf y) : x = y := by
  induction out with
  | nil => cases hx
  | cons a l ih =>
    obtain ⟨h1, h2⟩ := List.pairwise_cons.1 h
    rcases List.mem_cons.1 hx with ex | hx' <;> rcases List.mem_cons.1 hy with ey | hy'
    · rw [ex, ey]
    · subst ex
      exact (h1 y hy' e).elim
    · subst ey
      exact (h1 x hx' e.symm).elim
    · exact ih h2 hx' hy'
theorem con_self (r : List G) : rowEq KContact r r = true := rowEq_refl KContact r rfl
theorem MInv.has {m : List (List G)} {clock : Nat} {out : List (List G)} (h : MInv m clock out) (k : List G) : mhas KContact m (keyOf k) = true ↔ ∃ v ∈ out, keyOf v = keyOf k := by
  have hf : ∀ e ∈ m, ∃ v n, e = [.l [keyOf v], .l [v], .i ((n : Nat) : Int)] := fun e he => let ⟨v, n, e1, _⟩ := h.form e he; ⟨v, n, e1⟩
  rw [has_iff hf]
  constructor
  · rintro ⟨v, hv, e⟩
    exact ⟨v, h.vals.subset hv, e⟩
  · rintro ⟨v, hv, e⟩
    exact ⟨v, h.vals.symm.subset hv, e⟩
theorem MInv.found {m : List (List G)} {clock : Nat} {out : List (List G)} (h : MInv m clock out) {w : List G} (hw : Con w) :
    (!mhas KContact m (keyOf w) || !rowEq KContact (gEta KContact (mget KContact m (keyOf w) zC)) w) = true ↔ w ∉ out := by
  have hf : ∀ e ∈ m, ∃ v n, e = [.l [keyOf v], .l [v], .i ((n : Nat) : Int)] := fun e he => let ⟨v, n, e1, _⟩ := h.form e he; ⟨v, n, e1⟩
  constructor
  · intro hc hin
    have h1 : mhas KContact m (keyOf w) = true := (h.has w).2 ⟨w, hin, rfl⟩
    have h2 : mget KContact m (keyOf w) zC = w := get_of hf h.once (h.vals.symm.subset hin) rfl
    rw [h1, h2, hw.eta, con_self] at hc
    cases hc
  · intro hn
    cases h1 : mhas KContact m (keyOf w) with
    | false => rfl
    | true =>
      obtain ⟨v, hv, e⟩ := (h.has w).1 h1
      have h2 : mget KContact m (keyOf w) zC = v := get_of hf h.once (h.vals.symm.subset hv) e
      rw [h2, (h.con v hv).eta]
      cases h3 : rowEq KContact v w with
      | false => rfl
      | true => exact (hn (rowEq_con (h.con v hv) hw h3 ▸ hv)).elim
theorem any_key {l : List (List G)} {s : List G} : (l.any fun o => ordC o s == 0) = true ↔ ∃ o ∈ l, keyOf o = keyOf s := by
  rw [List.any_eq_true]
  constructor
  · rintro ⟨o, ho, e⟩
    exact ⟨o, ho, ordC_key.1 (by simpa using e)⟩
  · rintro ⟨o, ho, e⟩
    exact ⟨o, ho, by simpa using ordC_key.2 e⟩
theorem left_all (out : List (List G)) (w : List G) {k : Int} (hk : (k == 1) = true) : leftOf' out k w = out := by
  unfold leftOf'
  rw [hk]
  exact List.filter_eq_self.2 fun _ _ => rfl
theorem left_len {m : List (List G)} {clock : Nat} {out : List (List G)} (h : MInv m clock out) {w : List G} (hw : Con w) {k : Int} (hk : (k == 1) = false) : Nat.beq (leftOf' out k w).length out.length = true ↔ w ∉ out := by
  rw [nbeq_iff]
  unfold leftOf'
  rw [hk, List.length_filter_eq_length_iff]
  constructor
  · intro ha hin
    have := ha w hin
    rw [con_self] at this
    cases this
  · intro hn o ho
    cases h3 : rowEq KContact o w with
    | false => rfl
    | true => exact (hn (rowEq_con (h.con o ho) hw h3 ▸ ho)).elim
theorem left_key {m : List (List G)} {clock : Nat} {out : List (List G)} (h : MInv m clock out) {w : List G} (hw : Con w) (hin : w ∈ out) {k : Int} (hk : (k == 1) = false) :
    leftOf' out k w = out.filter fun y => !rowEq KContact (keyOf w) (keyOf y) := by
  unfold leftOf'
  rw [hk]
  refine List.filter_congr fun y hy => ?_
  show (!rowEq KContact y w) = _
  by_cases e : keyOf w = keyOf y
  · have := one_key h.keys hin hy e
    subst this
    rw [con_self, con_self]
  · rw [keyEq_false.2 e]
    cases h3 : rowEq KContact y w with
    | false => rfl
    | true => exact (e (by rw [rowEq_con (h.con y hy) hw h3])).elim
theorem step_agree {mp : List (List G)} {clock : Nat} {out : List (List G)} (h : MInv mp clock out) {k : Int} {w s : List G} (hw : Con w) (hs : Con s) :
    (refStep out k w s = none ∧ changeM mp clock k w s = [.l mp, .i (clock : Nat), .t false]) ∨
      ∃ out' mp' clock', refStep out k w s = some out' ∧ changeM mp clock k w s = [.l mp', .i ((clock' : Nat) : Int), .t true] ∧ MInv mp' clock' out' := by
  have hS := h.has s
  cases h1 : (k == 1) with
  | true =>
    have h2 : (k == 2) = false := by
      have : k = 1 := by simpa using h1
      subst this
      rfl
    have hl := left_all out w h1
    unfold refStep changeM
    rw [hl, h1, h2]
    simp only [Bool.not_true, Bool.not_false, Bool.false_and, Bool.true_and, Bool.false_or, Bool.true_or, Bool.and_true, cond_false, cond_true]
    cases hm : mhas KContact mp (keyOf s) with
    | true =>
      left
      have ha := any_key.2 (hS.1 hm)
      rw [ha]
      exact ⟨rfl, rfl⟩
    | false =>
      right
      have ha : (out.any fun o => ordC o s == 0) = false := Bool.eq_false_iff.2 fun hc => by
        rw [hS.2 (any_key.1 hc)] at hm
        cases hm
      rw [ha]
      obtain ⟨p1, p2, p3⟩ := h.put hs (fun y hy e => by
        rw [hS.2 ⟨y, hy, e⟩] at hm
        cases hm)
      exact ⟨_, _, _, rfl, by rw [p1, p2]; rfl, p3⟩
  | false =>
    by_cases hin : w ∈ out
    · have hf : (!mhas KContact mp (keyOf w) || !rowEq KContact (gEta KContact (mget KContact mp (keyOf w) zC)) w) = false := Bool.eq_false_iff.2 fun hc => (h.found hw).1 hc hin
      have hlen : Nat.beq (leftOf' out k w).length out.length = false := Bool.eq_false_iff.2 fun hc => (left_len h hw h1).1 hc hin
      have hl := left_key h hw hin h1
      have hd := h.del w
      rw [← hl] at hd
      unfold refStep changeM
      rw [hf, hlen, h1]
      simp only [Bool.not_false, Bool.and_false, Bool.true_and, Bool.false_or, cond_false, cond_true]
      cases h2 : (k == 2) with
      | true =>
        right
        have ha : ((leftOf' out k w).any fun o => !true && (ordC o s == 0)) = false := by
          rw [List.any_eq_false]
          intro x _
          simp
        rw [ha]
        exact ⟨_, _, _, rfl, rfl, hd⟩
      | false =>
        simp only [Bool.not_false, Bool.true_and, cond_true]
        by_cases hth : ∃ o ∈ leftOf' out k w, keyOf o = keyOf s
        · left
          rw [any_key.2 hth]
          obtain ⟨o, ho, e⟩ := hth
          rw [hl] at ho
          obtain ⟨ho1, ho2⟩ := List.mem_filter.1 ho
          have hm : mhas KContact mp (keyOf s) = true := hS.2 ⟨o, ho1, e⟩
          have hne : rowEq KContact (keyOf s) (keyOf w) = false := keyEq_false.2 fun e2 => by
            rw [keyEq.2 (e2.symm.trans e.symm)] at ho2
            cases ho2
          rw [hm, hne]
          exact ⟨rfl, rfl⟩
        · right
          have ha : ((leftOf' out k w).any fun o => ordC o s == 0) = false := Bool.eq_false_iff.2 fun hc => hth (any_key.1 hc)
          have hno : (mhas KContact mp (keyOf s) && !rowEq KContact (keyOf s) (keyOf w)) = false := by
            cases hm : mhas KContact mp (keyOf s) with
            | false => rfl
            | true =>
              cases hk : rowEq KContact (keyOf s) (keyOf w) with
              | true => rfl
              | false =>
                obtain ⟨v, hv, e⟩ := hS.1 hm
                refine (hth ⟨v, ?_, e⟩).elim
                rw [hl]
                refine List.mem_filter.2 ⟨hv, ?_⟩
                rw [keyEq_false.2 (fun e2 => keyEq_false.1 hk (by rw [← e, ← e2]))]
                rfl
          rw [ha, hno]
          obtain ⟨p1, p2, p3⟩ := hd.put hs (fun y hy e => hth ⟨y, hy, e⟩)
          exact ⟨_, _, _, rfl, by rw [p1, p2]; rfl, p3⟩
    · left
      have hf := (h.found hw).2 hin
      have hlen := (left_len h hw h1).2 hin
      unfold refStep changeM
      rw [hf, hlen, h1]
      exact ⟨rfl, rfl⟩
end
end Go.Proofs.SYtpfhjchbegdgdaaGreatDoor

namespace Go.Proofs.SYtpfhjchbegdgdaaGreatDoor
open Go Go.AL Go.Proofs
noncomputable section
theorem bytes_flip : ∀ a b : List UInt8, Lib.compareBytes b a = - Lib.compareBytes a b
  | [], [] => rfl
  | [], _ :: _ => rfl
  | _ :: _, [] => rfl
  | a :: xs, b :: ys => by
    simp only [Lib.compareBytes]
    have ih := bytes_flip xs ys
    by_cases h1 : a < b
    · have h2 : ¬ b < a := fun h => UInt8.lt_irrefl a (UInt8.lt_trans h1 h)
      simp [h1, h2]
    · by_cases h2 : b < a
      · simp [h1, h2]
      · simp [h1, h2, ih]
theorem bytes_lt_trans : ∀ {a b c : List UInt8}, Lib.compareBytes a b < 0 → Lib.compareBytes b c < 0 → Lib.compareBytes a c < 0
  | [], [], _, h, _ => by simp [Lib.compareBytes] at h
  | [], _ :: _, [], _, h => by simp [Lib.compareBytes] at h
  | [], _ :: _, _ :: _, _, _ => by simp [Lib.compareBytes]
  | _ :: _, [], _, h, _ => by simp [Lib.compareBytes] at h
  | _ :: _, _ :: _, [], _, h => by simp [Lib.compareBytes] at h
  | a :: xs, b :: ys, c :: zs, h1, h2 => by
    simp only [Lib.compareBytes] at h1 h2 ⊢
    by_cases hab : a < b
    · by_cases hbc : b < c
      · rw [if_pos (UInt8.lt_trans hab hbc)]
        omega
      · by_cases hcb : c < b
        · rw [if_neg hbc, if_pos hcb] at h2
          omega
        · have e : b = c := UInt8.le_antisymm (UInt8.not_lt.1 hcb) (UInt8.not_lt.1 hbc)
          subst e
          rw [if_pos hab]
          omega
    · by_cases hba : b < a
      · rw [if_neg hab, if_pos hba] at h1
        omega
      · have e : a = b := UInt8.le_antisymm (UInt8.not_lt.1 hba) (UInt8.not_lt.1 hab)
        subst e
        rw [if_neg (UInt8.lt_irrefl a), if_neg (UInt8.lt_irrefl a)] at h1
        by_cases hac : a < c
        · rw [if_pos hac]
          omega
        · by_cases hca : c < a
          · rw [if_neg hac, if_pos hca] at h2
            omega
          · rw [if_neg hac, if_neg hca] at h2 ⊢
            exact bytes_lt_trans h1 h2
structure Sgn {α : Type} (c : α → α → Int) : Prop where
  flip : ∀ a b, c b a = - c a b
  eq : ∀ a b, c a b = 0 → a = b
  tr : ∀ a b d, c a b < 0 → c b d < 0 → c a d < 0
theorem sgnI : Sgn cmpI := ⟨fun a b => by unfold cmpI; split <;> split <;> first | omega | (split <;> omega) | skip, fun a b h => cmpI_zero.1 h, fun a b d h1 h2 => by
  have g1 : a < b := by
    unfold cmpI at h1
    split at h1
    · assumption
    · split at h1 <;> omega
  have g2 : b < d := by
    unfold cmpI at h2
    split at h2
    · assumption
    · split at h2 <;> omega
  unfold cmpI
  rw [if_pos (by omega)]
  omega⟩
theorem sgnS : Sgn cmpS := ⟨fun a b => bytes_flip _ _, fun a b h => cmpS_zero.1 h, fun a b d h1 h2 => bytes_lt_trans h1 h2⟩
theorem ordC_flip (r s : List G) : ordC s r = - ordC r s := by
  unfold ordC or4
  rw [sgnI.flip (gi r 0).int, sgnS.flip (gi r 3).str, sgnS.flip (gi r 2).str, sgnI.flip (gi r 1).int]
  simp only [ne_eq, Int.neg_eq_zero]
  repeat' split
  all_goals rfl
theorem ordC_trans {r s u : List G} (h1 : ordC r s < 0) (h2 : ordC s u < 0) : ordC r u < 0 := by
  have step : ∀ {α : Type} {c : α → α → Int} (_ : Sgn c) (a b d : α) (x y z : Int), (if c a b ≠ 0 then c a b else x) < 0 → (if c b d ≠ 0 then c b d else y) < 0 → (x < 0 → y < 0 → z < 0) → (if c a d ≠ 0 then c a d else z) < 0 := by
    intro α c hc a b d x y z g1 g2 g3
    by_cases e1 : c a b = 0
    · have := hc.eq a b e1
      subst this
      rw [if_neg (by simpa using e1)] at g1
      by_cases e2 : c a d = 0
      · rw [if_neg (by simpa using e2)] at g2 ⊢
        exact g3 g1 g2
      · rw [if_pos e2] at g2 ⊢
        exact g2
    · rw [if_pos e1] at g1
      by_cases e2 : c b d = 0
      · have := hc.eq b d e2
        subst this
        rw [if_pos (by omega)]
        exact g1
      · rw [if_pos e2] at g2
        have := hc.tr a b d g1 g2
        rw [if_pos (by omega)]
        exact this
  unfold ordC or4 at *
  refine step sgnI _ _ _ _ _ _ h1 h2 (fun a1 a2 => ?_)
  refine step sgnS _ _ _ _ _ _ a1 a2 (fun b1 b2 => ?_)
  refine step sgnS _ _ _ _ _ _ b1 b2 (fun c1 c2 => ?_)
  exact sgnI.tr _ _ _ c1 c2
theorem linC : Lin (ltC ordC) (fun _ => True) := by
  have lt_iff : ∀ r s : List G, ltC ordC r s = decide (ordC r s < 0) := fun r s => by unfold ltC; rw [ltI_eq]
  refine ⟨fun a b c _ _ _ h1 h2 => ?_, fun a b _ _ h => ?_⟩
  · rw [lt_iff, decide_eq_false_iff_not] at *
    intro h3
    -- a not below b, b not below c, a below c
    have f1 := ordC_flip a b
    have f2 := ordC_flip b c
    by_cases e1 : ordC a b = 0
    · have k := ordC_key.1 e1
      have : ordC b c < 0 := by
        have e : ordC a c = ordC b c := by
          unfold keyOf at k
          simp only [List.cons.injEq, G.i.injEq, G.s.injEq, and_true] at k
          obtain ⟨k1, k2, k3, k4⟩ := k
          unfold ordC
          rw [k1, k2, k3, k4]
        rw [← e]
        exact h3
      omega
    · have : ordC b a < 0 := by omega
      have := ordC_trans this h3
      omega
  · rw [lt_iff, decide_eq_true_eq] at h
    rw [lt_iff, decide_eq_false_iff_not]
    have := ordC_flip a b
    omega
end
end Go.Proofs.SYtpfhjchbegdgdaaGreatDoor

namespace Go.Proofs.SYtpfhjchbegdgdaaGreatDoor
open Go Go.AL Go.Proofs
noncomputable section
theorem faultL_rising : ∀ {l : List (List G)} {y : List G}, faultL (some y) l = 0 → (y :: l).Pairwise fun a b => ordC a b < 0
  | [], y, _ => by simp
  | x :: q, y, h => by
    simp only [faultL] at h
    split at h
    · contradiction
    · split at h
      · cases h
      · rename_i h0
        have ih := faultL_rising h
        have hyx : ordC y x < 0 := by omega
        refine List.pairwise_cons.2 ⟨fun z hz => ?_, ih⟩
        rcases List.mem_cons.1 hz with rfl | hz
        · exact hyx
        · exact ordC_trans hyx ((List.pairwise_cons.1 ih).1 z hz)
theorem log_rising {l : List (List G)} (h : faultLog l = 0) : l.Pairwise fun a b => ordC a b < 0 := by
  unfold faultLog at h
  split at h
  · cases h
  · cases l with
    | nil => exact List.Pairwise.nil
    | cons x q =>
      simp only [faultL] at h
      split at h
      · contradiction
      · exact faultL_rising h
theorem log_keys {l : List (List G)} (h : faultLog l = 0) : l.Pairwise fun a b => keyOf a ≠ keyOf b :=
  List.Pairwise.imp (fun {a b} h e => by
    have := ordC_key.2 e
    omega) (log_rising h)
theorem build_runs (ch : List (List G)) : ∀ (q p m : List (List G)) (clock : Nat), (∀ z ∈ p ++ q, Con z) → ((p ++ q).Pairwise fun a b => keyOf a ≠ keyOf b) → MInv m clock p → p.length + q.length < 100000 →
    RetN st_log_Changed_9 [.l m, .i (clock : Nat), .l ch, .l (p ++ q), .i ((p.length + q.length : Nat) : Int), .i (p.length : Int)] (q.length + 1) fun c g => c = 0 ∧ ∃ m' clock', g = [.l m', .i ((clock' : Nat) : Int), .l ch] ∧ MInv m' clock' (p ++ q)
  | [], p, m, clock, hc, hk, hm, hl => by
    refine RetN.stop (x := 0) (d' := [.l m, .i (clock : Nat), .l ch]) (Ret.toEq ?_) ⟨rfl, m, clock, rfl, by simpa using hm⟩
    unfold st_log_Changed_9
    (dsimp +instances only [gi0,gis,row1,rows1,int1,str1,bool1])
    refine Ret.neg (by simp [ltI_eq]) (Ret.some ?_)
    simp
  | x :: q, p, m, clock, hc, hk, hm, hl => by
    have hx : Con x := hc x (by simp)
    have hn : ∀ y ∈ p, keyOf y ≠ keyOf x := fun y hy => (List.pairwise_append.1 hk).2.2 y hy x List.mem_cons_self
    obtain ⟨p1, p2, p3⟩ := hm.put hx hn
    have e : p ++ x :: q = (p ++ [x]) ++ q := by simp
    simp only [List.length_cons] at hl
    have step : st_log_Changed_9 [.l m, .i (clock : Nat), .l ch, .l (p ++ x :: q), .i ((p.length + (x :: q).length : Nat) : Int), .i (p.length : Int)] =
        some (none, [.l (m ++ [[.l [keyOf x], .l [x], .i (clock : Nat)]]), .i ((clock + 1 : Nat) : Int), .l ch, .l (p ++ x :: q), .i ((p.length + (x :: q).length : Nat) : Int), .i ((p.length : Int) + 1)]) := by
      refine Ret.toEq ?_
      unfold st_log_Changed_9
      (dsimp +instances only [gi0,gis,row1,rows1,int1,str1,bool1])
      have t : ((p.length : Int)).toNat = p.length := by simp
      have hlen : (p ++ x :: q).length = p.length + (q.length + 1) := by simp
      simp only [t, getD_at, hx.eta, hlen, List.length_cons]
      refine Ret.pos (by (first|rfl|assumption|(simp only [inI,sl]<;>omega))) (Ret.pos (by (first|rfl|assumption|(simp only [inI,sl]<;>omega))) ?_)
      refine Ret.call (Ret.eq (key_ok x)) ?_
      rintro _ rfl
      (dsimp +instances only [gi0,gis,row1,rows1,int1,str1,bool1])
      have e1 : gEta KContact (keyOf x) = keyOf x := rfl
      simp only [e1, Int.toNat_natCast, p1, p2]
      exact Ret.pos (by (first|rfl|assumption|(simp only [inI,sl]<;>omega))) (Ret.some rfl)
    have ih := build_runs ch q (p ++ [x]) _ (clock + 1) (by rw [← e]; exact hc) (by rw [← e]; exact hk) p3 (by simp; omega)
    rw [← e] at ih
    have e2 : (((p ++ [x]).length + q.length : Nat) : Int) = ((p.length + (x :: q).length : Nat) : Int) := by simp; omega
    have e3 : ((p ++ [x]).length : Int) = (p.length : Int) + 1 := by simp
    rw [e2, e3] at ih
    exact RetN.next step ih
end
end Go.Proofs.SYtpfhjchbegdgdaaGreatDoor

namespace Go.Proofs.SYtpfhjchbegdgdaaGreatDoor
open Go Go.AL Go.Proofs
noncomputable section
theorem putE (K : List Kd) (r s : List G) : putG K r 0 (gEta K s) = gEta K s := putG_all (gEta_length K s)
def ltc (r s : List G) : Bool := ltC ordC r s
def swp (rows : List (List G)) (i j : Nat) : List (List G) := (rows.set i (rows.getD j [])).set j (rows.getD i [])
theorem swp_length (rows : List (List G)) (i j : Nat) : (swp rows i j).length = rows.length := by simp [swp]
theorem getD_eq {rows : List (List G)} {i : Nat} (h : i < rows.length) : rows.getD i [] = rows[i] := by
  rw [List.getD_eq_getElem?_getD, List.getElem?_eq_getElem h]
  rfl
theorem swp_perm {rows : List (List G)} {i j : Nat} (hi : i < rows.length) (hj : j < rows.length) : (swp rows i j).Perm rows := by
  unfold swp
  rw [getD_eq hi, getD_eq hj]
  exact List.set_set_perm hi hj
theorem swp_at (rows : List (List G)) {i j k : Nat} (hi : i < rows.length) (hj : j < rows.length) : (swp rows i j).getD k [] = if k = j then rows.getD i [] else if k = i then rows.getD j [] else rows.getD k [] := by
  by_cases e1 : k = j
  · subst e1
    rw [if_pos rfl]
    unfold swp
    rw [List.getD_eq_getElem?_getD, List.getElem?_set_self (by simpa using hj)]
    rfl
  · rw [if_neg e1]
    by_cases e2 : k = i
    · subst e2
      rw [if_pos rfl]
      unfold swp
      rw [List.getD_eq_getElem?_getD, List.getElem?_set_ne (fun h => e1 h.symm), List.getElem?_set_self hi]
      rfl
    · rw [if_neg e2]
      unfold swp
      rw [List.getD_eq_getElem?_getD, List.getElem?_set_ne (fun h => e1 h.symm), List.getElem?_set_ne (fun h => e2 h.symm), ← List.getD_eq_getElem?_getD]
theorem st13_eq : st_slices_partitionCmpFunc_Contact_13 = st_slices_partitionCmpFunc_Contact_3 := rfl
theorem st15_eq : st_slices_partitionCmpFunc_Contact_15 = st_slices_partitionCmpFunc_Contact_5 := rfl
section part
variable {r : List (List G)} (hr : ∀ y ∈ r, Con y) (hl : r.length ≤ 1000)
include hr hl
theorem up_loop (i j : Nat) (hi : 1 ≤ i) (hij : i ≤ j + 1) (hj : j < r.length) : RetL st_slices_partitionCmpFunc_Contact_3 [.l r, .i 0, .i (i : Int), .i (j : Int)] fun c g => c = 0 ∧ ∃ i' : Nat, i ≤ i' ∧ i' ≤ j + 1 ∧
    (∀ k, i ≤ k → k < i' → ltc (r.getD k []) (r.getD 0 []) = true) ∧ (i' ≤ j → ltc (r.getD i' []) (r.getD 0 []) = false) ∧ g = [.l r, .i 0, .i (i' : Int), .i (j : Int)] := by
  refine RetL.inv (fun i' : Nat => [.l r, .i 0, .i (i' : Int), .i (j : Int)]) (fun i' => i ≤ i' ∧ i' ≤ j + 1 ∧ ∀ k, i ≤ k → k < i' → ltc (r.getD k []) (r.getD 0 []) = true) (fun i' => j + 1 - i')
    (fun i' ⟨h1, h2, h3⟩ => ?_) i ⟨Nat.le_refl _, hij, fun k hk hk' => by omega⟩ (by omega)
  unfold st_slices_partitionCmpFunc_Contact_3
  (dsimp +instances only [gi0,gis,row1,rows1,int1,str1,bool1])
  by_cases hle : i' ≤ j
  · have c1 : Con (r.getD i' []) := hr _ (getD_row (by omega))
    have c0 : Con (r.getD 0 []) := hr _ (getD_row (by omega))
    have hc := compare_eq c1 c0
    simp only [Nat.zero_add, Int.toNat_natCast, Int.toNat_zero, c1.eta, c0.eta]
    refine Ret.pos (by (first|rfl|assumption|(simp only [inI,sl]<;>omega))) (Ret.pos (by (first|rfl|assumption|(simp only [inI,sl]<;>omega))) (Ret.pos (by (first|rfl|assumption|(simp only [inI,sl]<;>omega))) (Ret.pos (by (first|rfl|assumption|(simp only [inI,sl]<;>omega))) (Ret.pos (by (first|rfl|assumption|(simp only [inI,sl]<;>omega))) (Ret.call (Ret.eq hc) ?_)))))
    rintro _ rfl
    refine Ret.test (fun hlt => ?_) fun hlt => ?_
    · refine Ret.pos (by (first|rfl|assumption|(simp only [inI,sl]<;>omega))) (Ret.pos (by (first|rfl|assumption|(simp only [inI,sl]<;>omega))) (Ret.some (.inl ⟨rfl, i' + 1, by simp [gi0, gis, int1, rows1], ⟨by omega, by omega, fun k hk hk' => ?_⟩, by omega⟩)))
      rcases Nat.lt_or_ge k i' with h | h
      · exact h3 k hk h
      · have : k = i' := by omega
        subst this
        exact hlt
    · refine Ret.pos (by (first|rfl|assumption|(simp only [inI,sl]<;>omega))) (Ret.some (.inr ⟨0, rfl, rfl, i', h1, h2, h3, fun _ => hlt, rfl⟩))
  · refine Ret.neg (by (first|rfl|assumption|(simp only [inI,sl]<;>omega))) (Ret.pos (by (first|rfl|assumption|(simp only [inI,sl]<;>omega))) (Ret.some (.inr ⟨0, rfl, rfl, i', h1, h2, h3, fun h => absurd h hle, rfl⟩)))
theorem down_loop (i j : Nat) (hi : 1 ≤ i) (hij : i ≤ j + 1) (hj : j < r.length) : RetL st_slices_partitionCmpFunc_Contact_5 [.l r, .i 0, .i (i : Int), .i (j : Int)] fun c g => c = 0 ∧ ∃ j' : Nat, j' ≤ j ∧ i ≤ j' + 1 ∧
    (∀ k, j' < k → k ≤ j → ltc (r.getD k []) (r.getD 0 []) = false) ∧ (i ≤ j' → ltc (r.getD j' []) (r.getD 0 []) = true) ∧ g = [.l r, .i 0, .i (i : Int), .i (j' : Int)] := by
  refine RetL.inv (fun j' : Nat => [.l r, .i 0, .i (i : Int), .i (j' : Int)]) (fun j' => j' ≤ j ∧ i ≤ j' + 1 ∧ ∀ k, j' < k → k ≤ j → ltc (r.getD k []) (r.getD 0 []) = false) (fun j' => j' + 1 - i)
    (fun j' ⟨h1, h2, h3⟩ => ?_) j ⟨Nat.le_refl _, hij, fun k hk hk' => by omega⟩ (by omega)
  unfold st_slices_partitionCmpFunc_Contact_5
  (dsimp +instances only [gi0,gis,row1,rows1,int1,str1,bool1])
  by_cases hle : i ≤ j'
  · have c1 : Con (r.getD j' []) := hr _ (getD_row (by omega))
    have c0 : Con (r.getD 0 []) := hr _ (getD_row (by omega))
    have hc := compare_eq c1 c0
    simp only [Nat.zero_add, Int.toNat_natCast, Int.toNat_zero, c1.eta, c0.eta]
    refine Ret.pos (by (first|rfl|assumption|(simp only [inI,sl]<;>omega))) (Ret.pos (by (first|rfl|assumption|(simp only [inI,sl]<;>omega))) (Ret.pos (by (first|rfl|assumption|(simp only [inI,sl]<;>omega))) (Ret.pos (by (first|rfl|assumption|(simp only [inI,sl]<;>omega))) (Ret.pos (by (first|rfl|assumption|(simp only [inI,sl]<;>omega))) (Ret.call (Ret.eq hc) ?_)))))
    rintro _ rfl
    refine Ret.test (fun hlt => ?_) fun hlt => ?_
    · have hlt : ltc (r.getD j' []) (r.getD 0 []) = false := by
        have h := hlt
        rw [Bool.not_eq_true'] at h
        exact h
      have e : ((j' : Int) - 1) = ((j' - 1 : Nat) : Int) := by omega
      refine Ret.pos (by (first|rfl|assumption|(simp only [inI,sl]<;>omega))) (Ret.pos (by (first|rfl|assumption|(simp only [inI,sl]<;>omega))) (Ret.some (.inl ⟨rfl, j' - 1, by simp only [gi0, gis, int1, rows1, e], ⟨by omega, by omega, fun k hk hk' => ?_⟩, by omega⟩)))
      rcases Nat.lt_or_ge j' k with h | h
      · exact h3 k h hk'
      · have : k = j' := by omega
        subst this
        exact hlt
    · have hlt : ltc (r.getD j' []) (r.getD 0 []) = true := by
        have h := hlt
        rw [Bool.not_eq_false'] at h
        exact h
      refine Ret.pos (by (first|rfl|assumption|(simp only [inI,sl]<;>omega))) (Ret.some (.inr ⟨0, rfl, rfl, j', h1, h2, h3, fun _ => hlt, rfl⟩))
  · refine Ret.neg (by (first|rfl|assumption|(simp only [inI,sl]<;>omega))) (Ret.pos (by (first|rfl|assumption|(simp only [inI,sl]<;>omega))) (Ret.some (.inr ⟨0, rfl, rfl, j', h1, h2, h3, fun h => absurd h hle, rfl⟩)))
end part
structure Part (rows r : List (List G)) (x : List G) (i j : Nat) : Prop where
  perm : r.Perm rows
  at0 : r.getD 0 [] = x
  i1 : 1 ≤ i
  ij : i ≤ j + 1
  jn : j < rows.length
  lo : ∀ k, 1 ≤ k → k < i → ltc (r.getD k []) x = true
  hi : ∀ k, j < k → k < rows.length → ltc (r.getD k []) x = false
theorem Part.len {rows r : List (List G)} {x : List G} {i j : Nat} (h : Part rows r x i j) : r.length = rows.length := h.perm.length_eq
theorem Part.step {rows r : List (List G)} {x : List G} {i j i' j' : Nat} (h : Part rows r x i j) (h1 : i ≤ i') (h2 : i' ≤ j + 1) (h3 : ∀ k, i ≤ k → k < i' → ltc (r.getD k []) (r.getD 0 []) = true)
    (g1 : j' ≤ j) (g2 : i' ≤ j' + 1) (g3 : ∀ k, j' < k → k ≤ j → ltc (r.getD k []) (r.getD 0 []) = false) : Part rows r x i' j' := by
  have h0 := h.at0
  rw [h0] at h3 g3
  refine ⟨h.perm, h0, by have := h.i1; omega, g2, by have := h.jn; omega, fun k hk hk' => ?_, fun k hk hk' => ?_⟩
  · rcases Nat.lt_or_ge k i with hlt | hge
    · exact h.lo k hk hlt
    · exact h3 k hge hk'
  · rcases Nat.lt_or_ge j k with hlt | hge
    · exact h.hi k hlt hk'
    · exact g3 k hk hge
theorem Part.swap {rows r : List (List G)} {x : List G} {i j : Nat} (h : Part rows r x i j) (hij : i ≤ j) (hi : ltc (r.getD i []) x = false) (hj : ltc (r.getD j []) x = true) : i < j ∧ Part rows (swp r i j) x (i + 1) (j - 1) := by
  have hlt : i < j := by
    rcases Nat.lt_or_ge i j with h1 | h1
    · exact h1
    · have : i = j := by omega
      rw [this, hj] at hi
      cases hi
  have hl := h.len
  have hjn := h.jn
  have hi1 := h.i1
  have at' : ∀ k, (swp r i j).getD k [] = if k = j then r.getD i [] else if k = i then r.getD j [] else r.getD k [] := fun k => swp_at r (by omega) (by omega)
  refine ⟨hlt, (swp_perm (by omega) (by omega)).trans h.perm, ?_, by omega, by omega, by omega, fun k hk hk' => ?_, fun k hk hk' => ?_⟩
  · rw [at', if_neg (by omega), if_neg (by omega)]
    exact h.at0
  · rw [at', if_neg (by omega)]
    by_cases e : k = i
    · rw [if_pos e]
      exact hj
    · rw [if_neg e]
      exact h.lo k hk (by omega)
  · rw [at']
    by_cases e : k = j
    · rw [if_pos e]
      exact hi
    · rw [if_neg e, if_neg (by omega)]
      exact h.hi k (by omega) hk'
theorem Part.last {rows r : List (List G)} {x : List G} {i j : Nat} (h : Part rows r x i j) (hji : j < i) : (swp r j 0).Perm rows ∧ (swp r j 0).getD j [] = x ∧ (∀ k, k < j → ltc ((swp r j 0).getD k []) x = true) ∧ ∀ k, j < k → k < rows.length → ltc ((swp r j 0).getD k []) x = false := by
  have hl := h.len
  have hjn := h.jn
  have hij := h.ij
  have at' : ∀ k, (swp r j 0).getD k [] = if k = 0 then r.getD j [] else if k = j then r.getD 0 [] else r.getD k [] := fun k => swp_at r (by omega) (by omega)
  refine ⟨(swp_perm (by omega) (by omega)).trans h.perm, ?_, fun k hk => ?_, fun k hk hk' => ?_⟩
  · rw [at']
    by_cases e : j = 0
    · subst e
      rw [if_pos rfl]
      exact h.at0
    · rw [if_neg e, if_pos rfl]
      exact h.at0
  · rw [at']
    by_cases e : k = 0
    · rw [if_pos e]
      exact h.lo j (by omega) (by omega)
    · rw [if_neg e, if_neg (by omega)]
      exact h.lo k (by omega) (by omega)
  · rw [at', if_neg (by omega), if_neg (by omega)]
    exact h.hi k hk hk'
end
end Go.Proofs.SYtpfhjchbegdgdaaGreatDoor

namespace Go.Proofs.SYtpfhjchbegdgdaaGreatDoor
open Go Go.AL Go.Proofs
noncomputable section
theorem putCon {s : List G} (h : Con s) (q : List G) : putG KContact q 0 s = s := by
  have e := putE KContact q s
  rw [h.eta] at e
  exact e
theorem Part.con {rows r : List (List G)} {x : List G} {i j : Nat} (h : Part rows r x i j) (hC : ∀ y ∈ rows, Con y) : ∀ y ∈ r, Con y := fun y hy => hC y (h.perm.subset hy)
theorem part_outer (rows : List (List G)) (hC : ∀ y ∈ rows, Con y) (hl : rows.length ≤ 1000) (x : List G) (r : List (List G)) (i j : Nat) (h : Part rows r x i j) :
    RetL st_slices_partitionCmpFunc_Contact_1013 [.l r, .i 0, .i (i : Int), .i (j : Int)] fun c g => c = 0 ∧ ∃ (r' : List (List G)) (i' j' : Nat), Part rows r' x i' j' ∧ j' < i' ∧ g = [.l r', .i 0, .i (j' : Int)] := by
  refine RetL.inv (fun s : List (List G) × Nat × Nat => [.l s.1, .i 0, .i (s.2.1 : Int), .i (s.2.2 : Int)]) (fun s => Part rows s.1 x s.2.1 s.2.2) (fun s => s.2.2 + 1 - s.2.1) (fun s h => ?_) (r, i, j) h (by have := h.jn; simp only; omega)
  obtain ⟨r, i, j⟩ := s
  have h : Part rows r x i j := h
  have hr := h.con hC
  have hlen := h.len
  have hjn := h.jn
  unfold st_slices_partitionCmpFunc_Contact_1013
  (dsimp +instances only [gi0,gis,row1,rows1,int1,str1,bool1])
  rw [st13_eq, st15_eq]
  refine Ret.loop (up_loop hr (by omega) i j h.i1 h.ij (by omega)) (by (first|rfl|assumption|(simp only [inI,sl]<;>omega))) ?_
  rintro _ _ ⟨rfl, i', h1, h2, h3, h4, rfl⟩
  (dsimp +instances only [gi0,gis,row1,rows1,int1,str1,bool1])
  refine Ret.loop (down_loop hr (by omega) i' j (by have := h.i1; omega) h2 (by omega)) (by (first|rfl|assumption|(simp only [inI,sl]<;>omega))) ?_
  rintro _ _ ⟨rfl, j', g1, g2, g3, g4, rfl⟩
  (dsimp +instances only [gi0,gis,row1,rows1,int1,str1,bool1])
  have hp := h.step h1 h2 h3 g1 g2 g3
  by_cases hlt : j' < i'
  · refine Ret.pos (by (first|rfl|assumption|(simp only [inI,sl]<;>omega))) (Ret.pos (by (first|rfl|assumption|(simp only [inI,sl]<;>omega))) (Ret.some (.inr ⟨0, rfl, rfl, r, i', j', hp, hlt, rfl⟩)))
  · have q1 := h4 (by omega)
    have q2 := g4 (by omega)
    rw [h.at0] at q1 q2
    obtain ⟨q3, q4⟩ := hp.swap (by omega) q1 q2
    have c1 : Con (r.getD i' []) := hr _ (getD_row (by omega))
    have c2 : Con (r.getD j' []) := hr _ (getD_row (by omega))
    have e : ((j' : Int) - 1) = ((j' - 1 : Nat) : Int) := by omega
    have e2 : (r.set i' (r.getD j' [])).set j' (r.getD i' []) = swp r i' j' := rfl
    have e3 := swp_length r i' j'
    simp only [Nat.zero_add, Int.toNat_natCast, c1.eta, c2.eta, putCon c1, putCon c2, List.length_set, e2, e3]
    refine Ret.neg (by (first|rfl|assumption|(simp only [inI,sl]<;>omega))) ?_
    (repeat(first|(refine Ret.pos ?_ ?_;(first|rfl|assumption|(simp only [inI,sl]<;>omega)))|(refine Ret.neg ?_ ?_;(first|rfl|assumption|(simp only [inI,sl]<;>omega)))))
    exact Ret.some (.inl ⟨rfl, (swp r i' j', i' + 1, j' - 1), by simp only [e]; rfl, q4, by simp only; omega⟩)
theorem part_ok (rows : List (List G)) (hC : ∀ y ∈ rows, Con y) (hl : rows.length ≤ 1000) (h2 : 2 ≤ rows.length) (p : Nat) (hp : p < rows.length) :
    Ret (F_slices_partitionCmpFunc_Contact [.l rows, .i 0, .i (rows.length : Int), .i (p : Int)]) fun g => ∃ (r : List (List G)) (mid : Nat) (b : Bool), g = [.l r, .i (mid : Int), .t b] ∧ r.Perm rows ∧ mid < rows.length ∧ r.getD mid [] = rows.getD p [] ∧
      (∀ k, k < mid → ltc (r.getD k []) (rows.getD p []) = true) ∧ ∀ k, mid < k → k < rows.length → ltc (r.getD k []) (rows.getD p []) = false := by
  have c1 : Con (rows.getD 0 []) := hC _ (getD_row (by omega))
  have c2 : Con (rows.getD p []) := hC _ (getD_row (by omega))
  have e2 : (rows.set 0 (rows.getD p [])).set p (rows.getD 0 []) = swp rows 0 p := rfl
  have e3 := swp_length rows 0 p
  have e4 : ((rows.length : Int) - 1) = ((rows.length - 1 : Nat) : Int) := by omega
  have start : Part rows (swp rows 0 p) (rows.getD p []) 1 (rows.length - 1) := by
    refine ⟨swp_perm (by omega) hp, ?_, by omega, by omega, by omega, fun k hk hk' => by omega, fun k hk hk' => by omega⟩
    rw [swp_at rows (by omega) hp]
    by_cases e : 0 = p
    · rw [if_pos e, e]
    · rw [if_neg e, if_pos rfl]
  have hr := start.con hC
  unfold F_slices_partitionCmpFunc_Contact
  (dsimp +instances only [gi0,gis,row1,rows1,int1,str1,bool1])
  simp only [Nat.zero_add, Int.toNat_natCast, Int.toNat_zero, c1.eta, c2.eta, putCon c1, putCon c2, List.length_set, e2, e3, e4]
  generalize swp rows 0 p = r at *
  generalize rows.getD p [] = x at *
  refine Ret.pos (by (first|rfl|assumption|(simp only [inI,sl]<;>omega))) (Ret.pos (by (first|rfl|assumption|(simp only [inI,sl]<;>omega))) (Ret.pos (by (first|rfl|assumption|(simp only [inI,sl]<;>omega))) (Ret.pos (by (first|rfl|assumption|(simp only [inI,sl]<;>omega))) (Ret.pos (by (first|rfl|assumption|(simp only [inI,sl]<;>omega))) (Ret.pos (by (first|rfl|assumption|(simp only [inI,sl]<;>omega))) (Ret.pos (by (first|rfl|assumption|(simp only [inI,sl]<;>omega))) (Ret.pos (by (first|rfl|assumption|(simp only [inI,sl]<;>omega))) (Ret.pos (by (first|rfl|assumption|(simp only [inI,sl]<;>omega))) (Ret.pos (by (first|rfl|assumption|(simp only [inI,sl]<;>omega))) ?_)))))))))
  refine Ret.loop (up_loop hr (by omega) 1 (rows.length - 1) (by omega) (by omega) (by omega)) (by (first|rfl|assumption|(simp only [inI,sl]<;>omega))) ?_
  rintro _ _ ⟨rfl, i', h1, h2, h3, h4, rfl⟩
  (dsimp +instances only [gi0,gis,row1,rows1,int1,str1,bool1])
  refine Ret.loop (down_loop hr (by omega) i' (rows.length - 1) (by omega) h2 (by omega)) (by (first|rfl|assumption|(simp only [inI,sl]<;>omega))) ?_
  rintro _ _ ⟨rfl, j', g1, g2, g3, g4, rfl⟩
  (dsimp +instances only [gi0,gis,row1,rows1,int1,str1,bool1])
  have hp := start.step h1 h2 h3 g1 g2 g3
  have fin : ∀ (r : List (List G)) (i' j' : Nat) (b : Bool), Part rows r x i' j' → j' < i' → ∃ (r' : List (List G)) (mid : Nat) (b' : Bool), [G.l (swp r j' 0), G.i (j' : Int), G.t b] = [G.l r', G.i (mid : Int), G.t b'] ∧ r'.Perm rows ∧ mid < rows.length ∧ r'.getD mid [] = x ∧
      (∀ k, k < mid → ltc (r'.getD k []) x = true) ∧ ∀ k, mid < k → k < rows.length → ltc (r'.getD k []) x = false := fun r i' j' b h hlt => by
    obtain ⟨a1, a2, a3, a4⟩ := h.last hlt
    exact ⟨swp r j' 0, j', b, rfl, a1, h.jn, a2, a3, a4⟩
  by_cases hlt : j' < i'
  · have d1 : Con (r.getD j' []) := hr _ (getD_row (by omega))
    have d0 : Con (r.getD 0 []) := hr _ (getD_row (by omega))
    have e5 : (r.set j' (r.getD 0 [])).set 0 (r.getD j' []) = swp r j' 0 := rfl
    simp only [Nat.zero_add, Int.toNat_natCast, Int.toNat_zero, d0.eta, d1.eta, putCon d0, putCon d1, List.length_set, e5]
    (repeat(first|(refine Ret.pos ?_ ?_;(first|rfl|assumption|(simp only [inI,sl]<;>omega)))|(refine Ret.neg ?_ ?_;(first|rfl|assumption|(simp only [inI,sl]<;>omega)))))
    exact Ret.some (fin r i' j' true hp hlt)
  · have q1 := h4 (by omega)
    have q2 := g4 (by omega)
    rw [start.at0] at q1 q2
    obtain ⟨q3, q4⟩ := hp.swap (by omega) q1 q2
    have d1 : Con (r.getD i' []) := hr _ (getD_row (by omega))
    have d2 : Con (r.getD j' []) := hr _ (getD_row (by omega))
    have e : ((j' : Int) - 1) = ((j' - 1 : Nat) : Int) := by omega
    have e6 : ((i' : Int) + 1) = ((i' + 1 : Nat) : Int) := by omega
    have e5 : (r.set i' (r.getD j' [])).set j' (r.getD i' []) = swp r i' j' := rfl
    have e7 := swp_length r i' j'
    simp only [Nat.zero_add, Int.toNat_natCast, Int.toNat_zero, d1.eta, d2.eta, putCon d1, putCon d2, List.length_set, e5, e7, e, e6]
    refine Ret.neg (by (first|rfl|assumption|(simp only [inI,sl]<;>omega))) ?_
    refine Ret.pos (by (first|rfl|assumption|(simp only [inI,sl]<;>omega))) (Ret.pos (by (first|rfl|assumption|(simp only [inI,sl]<;>omega))) (Ret.pos (by (first|rfl|assumption|(simp only [inI,sl]<;>omega))) (Ret.pos (by (first|rfl|assumption|(simp only [inI,sl]<;>omega))) (Ret.pos (by (first|rfl|assumption|(simp only [inI,sl]<;>omega))) (Ret.pos (by (first|rfl|assumption|(simp only [inI,sl]<;>omega))) (Ret.pos (by (first|rfl|assumption|(simp only [inI,sl]<;>omega))) (Ret.pos (by (first|rfl|assumption|(simp only [inI,sl]<;>omega))) (Ret.pos (by (first|rfl|assumption|(simp only [inI,sl]<;>omega))) (Ret.pos (by (first|rfl|assumption|(simp only [inI,sl]<;>omega))) ?_)))))))))
    refine Ret.loop (part_outer rows hC hl x (swp r i' j') (i' + 1) (j' - 1) q4) (by (first|rfl|assumption|(simp only [inI,sl]<;>omega))) ?_
    rintro _ _ ⟨rfl, r2, i2, j2, hp2, hlt2, rfl⟩
    (dsimp +instances only [gi0,gis,row1,rows1,int1,str1,bool1])
    have hr2 := hp2.con hC
    have hl2 := hp2.len
    have hj2 := hp2.jn
    have d1 : Con (r2.getD j2 []) := hr2 _ (getD_row (by omega))
    have d0 : Con (r2.getD 0 []) := hr2 _ (getD_row (by omega))
    have e8 : (r2.set j2 (r2.getD 0 [])).set 0 (r2.getD j2 []) = swp r2 j2 0 := rfl
    simp only [Nat.zero_add, Int.toNat_natCast, Int.toNat_zero, d0.eta, d1.eta, putCon d0, putCon d1, List.length_set, e8]
    (repeat(first|(refine Ret.pos ?_ ?_;(first|rfl|assumption|(simp only [inI,sl]<;>omega)))|(refine Ret.neg ?_ ?_;(first|rfl|assumption|(simp only [inI,sl]<;>omega)))))
    exact Ret.some (fin r2 i2 j2 false hp2 hlt2)
end
end Go.Proofs.SYtpfhjchbegdgdaaGreatDoor

namespace Go.Proofs.SYtpfhjchbegdgdaaGreatDoor
open Go Go.AL Go.Proofs
noncomputable section
def Apart (r : List (List G)) : Prop := ∀ i j, i < r.length → j < r.length → i ≠ j → ltc (r.getD i []) (r.getD j []) = false → ltc (r.getD j []) (r.getD i []) = true
theorem ltc_iff {r s : List G} : ltc r s = true ↔ ordC r s < 0 := by
  unfold ltc ltC
  rw [ltI_eq, decide_eq_true_eq]
theorem ltc_trans {a b d : List G} (h1 : ltc a b = true) (h2 : ltc b d = true) : ltc a d = true := ltc_iff.2 (ordC_trans (ltc_iff.1 h1) (ltc_iff.1 h2))
theorem ltc_asym {a b : List G} (h1 : ltc a b = true) : ltc b a = false := by
  cases h : ltc b a with
  | false => rfl
  | true =>
    have h1 := ltc_iff.1 h1
    have h2 := ltc_iff.1 h
    have := ordC_flip a b
    omega
theorem ltc_irrefl (a : List G) : ltc a a = false := by
  cases h : ltc a a with
  | false => rfl
  | true => rw [ltc_asym h] at h; cases h
theorem apart_of {l : List (List G)} (h : l.Pairwise fun a b => keyOf a ≠ keyOf b) : Apart l := by
  intro i j hi hj hij hf
  have hk : keyOf (l.getD i []) ≠ keyOf (l.getD j []) := by
    rw [getD_eq hi, getD_eq hj]
    rcases Nat.lt_or_ge i j with hlt | hge
    · exact List.pairwise_iff_getElem.1 h i j hi hj hlt
    · exact fun e => List.pairwise_iff_getElem.1 h j i hj hi (by omega) e.symm
  have h0 : ordC (l.getD i []) (l.getD j []) ≠ 0 := fun e => hk (ordC_key.1 e)
  have h1 : ¬ ordC (l.getD i []) (l.getD j []) < 0 := fun e => by
    rw [ltc_iff.2 e] at hf
    cases hf
  have := ordC_flip (l.getD i []) (l.getD j [])
  exact ltc_iff.2 (by omega)
section
variable {r : List (List G)} (hr : ∀ y ∈ r, Con y) (hl : r.length ≤ 1000) (ha : Apart r)
include hr hl ha
omit hl in
theorem order2_ok (sw a b : Nat) (hsw : sw ≤ 100) (hab : a ≠ b) (h1 : a < r.length) (h2 : b < r.length) : Ret (F_slices_order2CmpFunc_Contact [.i (sw : Int), .l r, .i (a : Int), .i (b : Int)]) fun g => ∃ sw' x y : Nat, g = [.i (sw' : Int), .i (x : Int), .i (y : Int)] ∧
    ((x = a ∧ y = b) ∨ (x = b ∧ y = a)) ∧ ltc (r.getD x []) (r.getD y []) = true ∧ sw' ≤ sw + 1 := by
  have c1 : Con (r.getD a []) := hr _ (getD_row h1)
  have c2 : Con (r.getD b []) := hr _ (getD_row h2)
  unfold F_slices_order2CmpFunc_Contact
  (dsimp +instances only [gi0,gis,row1,rows1,int1,str1,bool1])
  simp only [Int.toNat_natCast, c1.eta, c2.eta]
  refine Ret.pos (by (first|rfl|assumption|(simp only [inI,sl]<;>omega))) (Ret.pos (by (first|rfl|assumption|(simp only [inI,sl]<;>omega))) (Ret.call (Ret.eq (compare_eq c2 c1)) ?_))
  rintro _ rfl
  refine Ret.test (fun h => ?_) fun h => ?_
  · refine Ret.pos (by (first|rfl|assumption|(simp only [inI,sl]<;>omega))) (Ret.some ⟨sw + 1, b, a, rfl, .inr ⟨rfl, rfl⟩, h, Nat.le_refl _⟩)
  · exact Ret.some ⟨sw, a, b, rfl, .inl ⟨rfl, rfl⟩, ha b a h2 h1 (Ne.symm hab) h, by omega⟩
theorem median_ok (a b d : Nat) (hab : a ≠ b) (hbd : b ≠ d) (had : a ≠ d) (h1 : a < r.length) (h2 : b < r.length) (h3 : d < r.length) : Ret (F_slices_medianCmpFunc_Contact [.i 0, .l r, .i (a : Int), .i (b : Int), .i (d : Int)]) fun g => ∃ sw m x y : Nat, g = [.i (sw : Int), .i (m : Int)] ∧
    m < r.length ∧ x < r.length ∧ y < r.length ∧ ltc (r.getD x []) (r.getD m []) = true ∧ ltc (r.getD m []) (r.getD y []) = true ∧ sw ≤ 3 := by
  unfold F_slices_medianCmpFunc_Contact
  (dsimp +instances only [gi0,gis,row1,rows1,int1,str1,bool1])
  refine Ret.call (order2_ok hr ha 0 a b (by omega) hab h1 h2) ?_
  rintro _ ⟨s1, a1, b1, rfl, e1, l1, k1⟩
  (dsimp +instances only [gi0,gis,row1,rows1,int1,str1,bool1])
  have ha1 : a1 < r.length := by rcases e1 with ⟨rfl, rfl⟩ | ⟨rfl, rfl⟩ <;> assumption
  have hb1 : b1 < r.length := by rcases e1 with ⟨rfl, rfl⟩ | ⟨rfl, rfl⟩ <;> assumption
  have hb1d : b1 ≠ d := by rcases e1 with ⟨rfl, rfl⟩ | ⟨rfl, rfl⟩ <;> assumption
  have ha1d : a1 ≠ d := by rcases e1 with ⟨rfl, rfl⟩ | ⟨rfl, rfl⟩ <;> assumption
  have hab1 : a1 ≠ b1 := by rcases e1 with ⟨rfl, rfl⟩ | ⟨rfl, rfl⟩ <;> omega
  refine Ret.call (order2_ok hr ha s1 b1 d (by omega) hb1d hb1 h3) ?_
  rintro _ ⟨s2, b2, c2, rfl, e2, l2, k2⟩
  (dsimp +instances only [gi0,gis,row1,rows1,int1,str1,bool1])
  have hb2 : b2 < r.length := by rcases e2 with ⟨rfl, rfl⟩ | ⟨rfl, rfl⟩ <;> assumption
  have hc2 : c2 < r.length := by rcases e2 with ⟨rfl, rfl⟩ | ⟨rfl, rfl⟩ <;> assumption
  have hab2 : a1 ≠ b2 := by rcases e2 with ⟨rfl, rfl⟩ | ⟨rfl, rfl⟩ <;> assumption
  have lac : ltc (r.getD a1 []) (r.getD c2 []) = true := by
    rcases e2 with ⟨rfl, rfl⟩ | ⟨rfl, rfl⟩
    · exact ltc_trans l1 l2
    · exact l1
  refine Ret.call (order2_ok hr ha s2 a1 b2 (by omega) hab2 ha1 hb2) ?_
  rintro _ ⟨s3, a3, b3, rfl, e3, l3, k3⟩
  (dsimp +instances only [gi0,gis,row1,rows1,int1,str1,bool1])
  have ha3 : a3 < r.length := by rcases e3 with ⟨rfl, rfl⟩ | ⟨rfl, rfl⟩ <;> assumption
  have hb3 : b3 < r.length := by rcases e3 with ⟨rfl, rfl⟩ | ⟨rfl, rfl⟩ <;> assumption
  refine Ret.some ⟨s3, b3, a3, c2, rfl, hb3, ha3, hc2, l3, ?_, by omega⟩
  rcases e3 with ⟨rfl, rfl⟩ | ⟨rfl, rfl⟩
  · exact l2
  · exact lac
theorem pivot_ok (h8 : 8 ≤ r.length) (h50 : r.length < 50) : Ret (F_slices_choosePivotCmpFunc_Contact [.l r, .i 0, .i (r.length : Int)]) fun g => ∃ (m x y : Nat) (h : Int), g = [.i (m : Int), .i h] ∧ h ≠ 2 ∧
    m < r.length ∧ x < r.length ∧ y < r.length ∧ ltc (r.getD x []) (r.getD m []) = true ∧ ltc (r.getD m []) (r.getD y []) = true := by
  obtain ⟨q, hq, q1, q2⟩ : ∃ q : Nat, Int.tdiv (r.length : Int) 4 = q ∧ 4 * q ≤ r.length ∧ r.length < 4 * q + 4 := ⟨r.length / 4, by rw [Int.tdiv_eq_ediv_of_nonneg (by omega)]; omega, by omega, by omega⟩
  unfold F_slices_choosePivotCmpFunc_Contact
  (dsimp +instances only [gi0,gis,row1,rows1,int1,str1,bool1])
  simp only [Int.sub_zero, hq, Int.zero_add, Int.mul_one]
  have e2 : ((q : Int) * 2) = ((q * 2 : Nat) : Int) := by omega
  have e3 : ((q : Int) * 3) = ((q * 3 : Nat) : Int) := by omega
  simp only [e2, e3]
  refine Ret.pos (by (first|rfl|assumption|(simp only [inI,sl]<;>omega))) (Ret.pos (by (first|rfl|assumption|(simp only [inI,sl]<;>omega))) (Ret.pos (by (first|rfl|assumption|(simp only [inI,sl]<;>omega))) (Ret.pos (by (first|rfl|assumption|(simp only [inI,sl]<;>omega))) (Ret.pos (by (first|rfl|assumption|(simp only [inI,sl]<;>omega))) (Ret.pos (by (first|rfl|assumption|(simp only [inI,sl]<;>omega))) (Ret.pos (by (first|rfl|assumption|(simp only [inI,sl]<;>omega))) (Ret.pos (by (first|rfl|assumption|(simp only [inI,sl]<;>omega))) (Ret.pos (by (first|rfl|assumption|(simp only [inI,sl]<;>omega))) (Ret.pos (by (first|rfl|assumption|(simp only [inI,sl]<;>omega))) (Ret.pos (by (first|rfl|assumption|(simp only [inI,sl]<;>omega))) (Ret.neg (by (first|rfl|assumption|(simp only [inI,sl]<;>omega))) ?_)))))))))))
  refine Ret.call (median_ok hr hl ha q (q * 2) (q * 3) (by omega) (by omega) (by omega) (by omega) (by omega) (by omega)) ?_
  rintro _ ⟨sw, m, x, y, rfl, g1, g2, g3, g4, g5, g6⟩
  (dsimp +instances only [gi0,gis,row1,rows1,int1,str1,bool1])
  refine Ret.test (fun h => ?_) fun h => ?_
  · exact Ret.some ⟨m, x, y, 1, rfl, by omega, g1, g2, g3, g4, g5⟩
  · refine Ret.neg (by simp; omega) (Ret.some ⟨m, x, y, 0, rfl, by omega, g1, g2, g3, g4, g5⟩)
end
section
variable {r : List (List G)} (hr : ∀ y ∈ r, Con y) (hl : r.length < 50)
include hr hl
theorem scan_loop (h1 : 1 ≤ r.length) : RetL st_slices_partialInsertionSortCmpFunc_Contact_5 [.l r, .i 0, .i (r.length : Int), .i 1, .i 0] fun c g => c = 0 ∧ ∃ i : Nat, g = [.l r, .i 0, .i (r.length : Int), .i (i : Int), .i 0] ∧ i ≤ r.length ∧ ∀ k, 1 ≤ k → k < i → ltc (r.getD k []) (r.getD (k - 1) []) = false := by
  refine RetL.inv (fun i : Nat => [.l r, .i 0, .i (r.length : Int), .i (i : Int), .i 0]) (fun i => 1 ≤ i ∧ i ≤ r.length ∧ ∀ k, 1 ≤ k → k < i → ltc (r.getD k []) (r.getD (k - 1) []) = false) (fun i => r.length - i)
    (fun i ⟨g1, g2, g3⟩ => ?_) 1 ⟨Nat.le_refl _, h1, fun k hk hk' => by omega⟩ (by omega)
  unfold st_slices_partialInsertionSortCmpFunc_Contact_5
  (dsimp +instances only [gi0,gis,row1,rows1,int1,str1,bool1])
  by_cases hlt : i < r.length
  · have e : ((i : Int) - 1) = ((i - 1 : Nat) : Int) := by omega
    have c1 : Con (r.getD i []) := hr _ (getD_row hlt)
    have c0 : Con (r.getD (i - 1) []) := hr _ (getD_row (by omega))
    simp only [Nat.zero_add, e, Int.toNat_natCast, c1.eta, c0.eta]
    refine Ret.pos (by (first|rfl|assumption|(simp only [inI,sl]<;>omega))) (Ret.pos (by (first|rfl|assumption|(simp only [inI,sl]<;>omega))) (Ret.pos (by (first|rfl|assumption|(simp only [inI,sl]<;>omega))) (Ret.pos (by (first|rfl|assumption|(simp only [inI,sl]<;>omega))) (Ret.pos (by (first|rfl|assumption|(simp only [inI,sl]<;>omega))) (Ret.pos (by (first|rfl|assumption|(simp only [inI,sl]<;>omega))) (Ret.call (Ret.eq (compare_eq c1 c0)) ?_))))))
    rintro _ rfl
    refine Ret.test (fun h => ?_) fun h => ?_
    · have h : ltc (r.getD i []) (r.getD (i - 1) []) = false := by
        have h := h
        rw [Bool.not_eq_true'] at h
        exact h
      refine Ret.pos (by (first|rfl|assumption|(simp only [inI,sl]<;>omega))) (Ret.pos (by (first|rfl|assumption|(simp only [inI,sl]<;>omega))) (Ret.some (.inl ⟨rfl, i + 1, rfl, ⟨by omega, by omega, fun k hk hk' => ?_⟩, by omega⟩)))
      rcases Nat.lt_or_ge k i with h2 | h2
      · exact g3 k hk h2
      · have : k = i := by omega
        subst this
        exact h
    · exact Ret.pos (by (first|rfl|assumption|(simp only [inI,sl]<;>omega))) (Ret.some (.inr ⟨0, rfl, rfl, i, rfl, g2, g3⟩))
  · exact Ret.neg (by (first|rfl|assumption|(simp only [inI,sl]<;>omega))) (Ret.pos (by (first|rfl|assumption|(simp only [inI,sl]<;>omega))) (Ret.some (.inr ⟨0, rfl, rfl, i, rfl, g2, g3⟩)))
theorem partial_ok (h1 : 1 ≤ r.length) : Ret (F_slices_partialInsertionSortCmpFunc_Contact [.l r, .i 0, .i (r.length : Int)]) fun g => ∃ b, g = [.l r, .t b] ∧ (b = true → ∀ k, 1 ≤ k → k < r.length → ltc (r.getD k []) (r.getD (k - 1) []) = false) := by
  unfold F_slices_partialInsertionSortCmpFunc_Contact
  (dsimp +instances only [gi0,gis,row1,rows1,int1,str1,bool1])
  refine Ret.pos (by (first|rfl|assumption|(simp only [inI,sl]<;>omega))) ?_
  refine Ret.loop (P := fun c g => c = 0 ∧ ∃ b, g = [.l r, .t b] ∧ (b = true → ∀ k, 1 ≤ k → k < r.length → ltc (r.getD k []) (r.getD (k - 1) []) = false)) ?_ (by (first|rfl|assumption|(simp only [inI,sl]<;>omega))) ?_
  · have round : Ret (st_slices_partialInsertionSortCmpFunc_Contact_3 [.l r, .i 0, .i (r.length : Int), .i (0 + 1), .i 0]) fun o => o.1 = some 0 ∧ ∃ b, o.2 = [.l r, .t b] ∧ (b = true → ∀ k, 1 ≤ k → k < r.length → ltc (r.getD k []) (r.getD (k - 1) []) = false) := by
      unfold st_slices_partialInsertionSortCmpFunc_Contact_3
      (dsimp +instances only [gi0,gis,row1,rows1,int1,str1,bool1])
      refine Ret.pos (by (first|rfl|assumption|(simp only [inI,sl]<;>omega))) (Ret.loop (scan_loop hr hl h1) (by (first|rfl|assumption|(simp only [inI,sl]<;>omega))) ?_)
      rintro _ _ ⟨rfl, i, rfl, g1, g2⟩
      (dsimp +instances only [gi0,gis,row1,rows1,int1,str1,bool1])
      refine Ret.test (fun h => ?_) fun h => ?_
      · have e : i = r.length := by
          have h := h
          simp only [beq_iff_eq] at h
          omega
        subst e
        exact Ret.some ⟨rfl, true, rfl, fun _ => g2⟩
      · refine Ret.pos (by (first|rfl|assumption|(simp only [inI,sl]<;>omega))) (Ret.pos (by (first|rfl|assumption|(simp only [inI,sl]<;>omega))) (Ret.some ⟨rfl, false, rfl, fun h => by cases h⟩))
    obtain ⟨⟨o, g⟩, h, h2, b, h3, h4⟩ := round
    have h2 : o = some 0 := h2
    have h3 : g = [.l r, .t b] := h3
    subst h2 h3
    exact RetL.stop h ⟨rfl, b, rfl, h4⟩
  · rintro _ _ ⟨rfl, b, rfl, h⟩
    exact Ret.pos rfl (Ret.some ⟨b, rfl, h⟩)
end
theorem adj_lt : ∀ {l : List (List G)}, (∀ k, 1 ≤ k → k < l.length → ltc (l.getD (k - 1) []) (l.getD k []) = true) → l.Pairwise fun a b => ltc a b = true
  | [], _ => List.Pairwise.nil
  | [x], _ => by simp
  | x :: y :: l, h => by
    have h0 : ltc x y = true := h 1 (by omega) (by simp)
    have ih := adj_lt (l := y :: l) (fun k hk hk' => by
      have := h (k + 1) (by omega) (by simpa using hk')
      obtain ⟨k, rfl⟩ : ∃ j, k = j + 1 := ⟨k - 1, by omega⟩
      simpa using this)
    refine List.pairwise_cons.2 ⟨fun z hz => ?_, ih⟩
    rcases List.mem_cons.1 hz with rfl | hz
    · exact h0
    · exact ltc_trans h0 ((List.pairwise_cons.1 ih).1 z hz)
end
end Go.Proofs.SYtpfhjchbegdgdaaGreatDoor

namespace Go.Proofs.SYtpfhjchbegdgdaaGreatDoor
open Go Go.AL Go.Proofs
noncomputable section
theorem same_of {rows : List (List G)} (hk : rows.Pairwise fun a b => keyOf a ≠ keyOf b) : ∀ a ∈ rows, ∀ b ∈ rows, ltC ordC a b = false → ltC ordC b a = false → a = b := fun a ha b hb h1 h2 => by
  refine one_key hk ha hb (ordC_key.1 ?_)
  have f := ordC_flip a b
  unfold ltC at h1 h2
  rw [ltI_eq, decide_eq_false_iff_not] at h1 h2
  omega
theorem sort_parts {rows L R : List (List G)} {x : List G} (hk : rows.Pairwise fun a b => keyOf a ≠ keyOf b) (hp : (L ++ x :: R).Perm rows) (hL : ∀ y ∈ L, ltc y x = true) (hR : ∀ y ∈ R, ltc y x = false) :
    sortA (ltC ordC) L ++ x :: sortA (ltC ordC) R = sortA (ltC ordC) rows := by
  have pL := sortA_perm (lt := ltC ordC) L
  have pR := sortA_perm (lt := ltC ordC) R
  have p1 : (sortA (ltC ordC) L ++ x :: sortA (ltC ordC) R).Perm rows := (pL.append (pR.cons x)).trans hp
  have p2 := sortA_perm (lt := ltC ordC) rows
  refine sorted_unique (lt := ltC ordC) (p1.trans p2.symm) (fun a ha b hb => same_of hk a (p1.subset ha) b (p1.subset hb)) ?_ (sortA_sorted linC fun _ _ => trivial)
  refine List.pairwise_append.2 ⟨sortA_sorted linC fun _ _ => trivial, List.pairwise_cons.2 ⟨fun y hy => hR y (pR.subset hy), sortA_sorted linC fun _ _ => trivial⟩, fun a ha b hb => ?_⟩
  have h1 : ltc a x = true := hL a (pL.subset ha)
  rcases List.mem_cons.1 hb with rfl | hb
  · exact ltc_asym h1
  · have h2 : ltc b x = false := hR b (pR.subset hb)
    show ltc b a = false
    cases h : ltc b a with
    | false => rfl
    | true =>
      rw [ltc_trans h h1] at h2
      cases h2
theorem sort_sorted {rows : List (List G)} (hk : rows.Pairwise fun a b => keyOf a ≠ keyOf b) (h : ∀ k, 1 ≤ k → k < rows.length → ltc (rows.getD k []) (rows.getD (k - 1) []) = false) : sortA (ltC ordC) rows = rows := by
  refine sortA_id linC (fun _ _ => trivial) (same_of hk) ?_
  have ha := apart_of hk
  refine List.Pairwise.imp (fun {a b} h => ltc_asym h) (adj_lt fun k h1 h2 => ?_)
  exact ha k (k - 1) h2 (by omega) (by omega) (h k h1 h2)
theorem smallPdq (A M B : List (List G)) (hr : ∀ y ∈ M, Con y) (hn : A.length ≤ 1000) (hm : M.length ≤ 12) (a b v : Int) (ha : a = (A.length : Nat)) (hb : b = ((A.length + M.length : Nat) : Int)) :
    F_slices_pdqsortCmpFunc_Contact [.l (A ++ M ++ B), .i a, .i b, .i v] = some [.l (A ++ sortA (ltC ordC) M ++ B)] := by
  have hi : F_slices_insertionSortCmpFunc_Contact_2 [.l (A ++ M ++ B), .i a, .i b] = some [.l (A ++ sortA (ltC ordC) M ++ B)] := insR_eq cmpCompare A M B hr (by omega) a b ha hb
  refine Ret.toEq ?_
  unfold F_slices_pdqsortCmpFunc_Contact
  (dsimp +instances only [gi0,gis,row1,rows1,int1,str1,bool1])
  refine Ret.loop (P := fun x g => g = [.l (A ++ sortA (ltC ordC) M ++ B)]) (RetL.stop (x := 0) (Ret.toEq ?_) rfl) (by (first|rfl|assumption|(simp only [inI,sl]<;>omega))) ?_
  · unfold st_slices_pdqsortCmpFunc_Contact_2
    (dsimp +instances only [gi0,gis,row1,rows1,int1,str1,bool1])
    refine Ret.pos (by (first|rfl|assumption|(simp only [inI,sl]<;>omega))) (Ret.pos (by (first|rfl|assumption|(simp only [inI,sl]<;>omega))) ?_)
    refine Ret.callb (Ret.eq hi) (by (first|rfl|assumption|(simp only [inI,sl]<;>omega))) ?_
    rintro _ rfl
    exact Ret.some rfl
  · rintro _ _ rfl
    exact Ret.some rfl
def Near (rows : List (List G)) (v : Int) (g : List G) : Prop := ∃ (A M B : List (List G)) (wb wp : Bool), g = [.l (A ++ M ++ B), .i (A.length : Nat), .i ((A.length + M.length : Nat) : Int), .i v, .t wb, .t wp] ∧
  M.length ≤ 12 ∧ A.length ≤ 20 ∧ (∀ y ∈ M, Con y) ∧ A ++ sortA (ltC ordC) M ++ B = sortA (ltC ordC) rows
theorem last_round {rows : List (List G)} {v : Int} {g : List G} (h : Near rows v g) : st_slices_pdqsortCmpFunc_Contact_b_2 g = some (some 0, [.l (sortA (ltC ordC) rows)]) := by
  obtain ⟨A, M, B, wb, wp, rfl, h1, h2, h3, h4⟩ := h
  have hi : F_slices_insertionSortCmpFunc_Contact_2 [.l (A ++ M ++ B), .i (A.length : Nat), .i ((A.length + M.length : Nat) : Int)] = some [.l (sortA (ltC ordC) rows)] := by
    rw [← h4]
    exact insR_eq cmpCompare A M B h3 (by omega) _ _ rfl rfl
  refine Ret.toEq ?_
  unfold st_slices_pdqsortCmpFunc_Contact_b_2
  (dsimp +instances only [gi0,gis,row1,rows1,int1,str1,bool1])
  refine Ret.pos (by (first|rfl|assumption|(simp only [inI,sl]<;>omega))) (Ret.pos (by (first|rfl|assumption|(simp only [inI,sl]<;>omega))) ?_)
  refine Ret.callb (Ret.eq hi) (by (first|rfl|assumption|(simp only [inI,sl]<;>omega))) ?_
  rintro _ rfl
  exact Ret.some rfl
theorem near20 {rows : List (List G)} (hC : ∀ y ∈ rows, Con y) (hk : rows.Pairwise fun a b => keyOf a ≠ keyOf b) (h8 : 8 ≤ rows.length) (h14 : rows.length ≤ 14) (v len : Int) (hl : len = (rows.length : Int)) (m x y : Nat) (hm : m < rows.length) (hx : x < rows.length) (hy : y < rows.length)
    (h1 : ltc (rows.getD x []) (rows.getD m []) = true) (h2 : ltc (rows.getD m []) (rows.getD y []) = true) :
    Ret (tl_slices_pdqsortCmpFunc_Contact_b_20 [.l rows, .i 0, .i (rows.length : Int), .i v, .i len, .i (m : Int)]) fun o => ∃ k, o.1 = some k ∧ k = 0 ∧ Near rows v o.2 := by
  subst hl
  unfold tl_slices_pdqsortCmpFunc_Contact_b_20
  (dsimp +instances only [gi0,gis,row1,rows1,int1,str1,bool1])
  refine Ret.callb (part_ok rows hC (by omega) (by omega) m hm) (by (first|rfl|assumption|(simp only [inI,sl]<;>omega))) ?_
  rintro _ ⟨r, mid, b, rfl, p1, p2, p3, p4, p5⟩
  (dsimp +instances only [gi0,gis,row1,rows1,int1,str1,bool1])
  have hrl : r.length = rows.length := p1.length_eq
  have hrC : ∀ y ∈ r, Con y := fun y hy => hC y (p1.subset hy)
  generalize hp : rows.getD m [] = p at *
  -- the three parts
  obtain ⟨L, R, hr, hL, hLl⟩ : ∃ L R : List (List G), r = L ++ p :: R ∧ L = r.take mid ∧ L.length = mid := by
    refine ⟨r.take mid, r.drop (mid + 1), ?_, rfl, by rw [List.length_take]; omega⟩
    have e : r.drop mid = p :: r.drop (mid + 1) := by
      rw [List.drop_eq_getElem_cons (by omega), ← getD_eq (by omega : mid < r.length), p3]
    rw [← e, List.take_append_drop]
  have hRl : R.length + mid + 1 = rows.length := by
    have := congrArg List.length hr
    simp only [List.length_append, List.length_cons] at this
    omega
  have qL : ∀ y ∈ L, ltc y p = true := fun y hy => by
    obtain ⟨k, hk1, rfl⟩ := List.getElem_of_mem hy
    have e := p4 k (by omega)
    rw [hr, List.getD_eq_getElem?_getD, List.getElem?_append_left hk1, List.getElem?_eq_getElem hk1] at e
    exact e
  have qR : ∀ y ∈ R, ltc y p = false := fun y hy => by
    obtain ⟨k, hk1, rfl⟩ := List.getElem_of_mem hy
    have e := p5 (mid + 1 + k) (by omega) (by omega)
    rw [hr, List.getD_eq_getElem?_getD, List.getElem?_append_right (by omega), hLl, show mid + 1 + k - mid = k + 1 from by omega, List.getElem?_cons_succ, List.getElem?_eq_getElem hk1] at e
    exact e
  have mem : ∀ k, k < rows.length → rows.getD k [] ∈ L ++ p :: R := fun k hk' => by
    rw [← hr]
    exact p1.symm.subset (getD_row hk')
  have nL : L ≠ [] := fun e => by
    have h := mem x hx
    rw [e, List.nil_append] at h
    rcases List.mem_cons.1 h with h | h
    · rw [h, ltc_irrefl] at h1
      cases h1
    · rw [qR _ h] at h1
      cases h1
  have nR : R ≠ [] := fun e => by
    have h := mem y hy
    rw [e] at h
    rcases List.mem_append.1 h with h | h
    · rw [ltc_asym (qL _ h)] at h2
      cases h2
    · simp only [List.mem_singleton] at h
      rw [h, ltc_irrefl] at h2
      cases h2
  have lL : 1 ≤ L.length := List.length_pos_iff.2 nL
  have lR : 1 ≤ R.length := List.length_pos_iff.2 nR
  have cL : ∀ y ∈ L, Con y := fun y hy => hrC y (by rw [hr]; exact List.mem_append_left _ hy)
  have cR : ∀ y ∈ R, Con y := fun y hy => hrC y (by rw [hr]; exact List.mem_append_right _ (List.mem_cons_of_mem _ hy))
  have all := sort_parts hk (by rw [← hr]; exact p1) qL qR
  have e8 : Int.tdiv (rows.length : Int) 8 = 1 := by
    rw [Int.tdiv_eq_ediv_of_nonneg (by omega)]
    omega
  simp only [Int.sub_zero, e8]
  have sl1 := sortA_length (ltC ordC) L
  have sl2 := sortA_length (ltC ordC) R
  by_cases hlt : (mid : Int) < (rows.length : Int) - (mid : Int)
  · have hs : F_slices_pdqsortCmpFunc_Contact [.l r, .i 0, .i (mid : Int), .i v] = some [.l (sortA (ltC ordC) L ++ p :: R)] := by
      have := smallPdq [] L (p :: R) cL (by simp) (by omega) 0 (mid : Int) v rfl (by simp [hLl])
      rw [List.nil_append, List.nil_append, ← hr] at this
      exact this
    refine Ret.pos (by (first|rfl|assumption|(simp only [inI,sl]<;>omega))) (Ret.pos (by (first|rfl|assumption|(simp only [inI,sl]<;>omega))) (Ret.pos (by (first|rfl|assumption|(simp only [inI,sl]<;>omega))) (Ret.pos (by (first|rfl|assumption|(simp only [inI,sl]<;>omega))) ?_)))
    refine Ret.callb (Ret.eq hs) (by (first|rfl|assumption|(simp only [inI,sl]<;>omega))) ?_
    rintro _ rfl
    (dsimp +instances only [gi0,gis,row1,rows1,int1,str1,bool1])
    have hsl : (sortA (ltC ordC) L ++ p :: R).length = rows.length := by
      simp only [List.length_append, List.length_cons]
      omega
    refine Ret.pos (by (first|rfl|assumption|(simp only [inI,sl]<;>omega))) (Ret.pos (by rw [hsl]; simp) (Ret.some ⟨0, rfl, rfl, sortA (ltC ordC) L ++ [p], R, [], leI 1 (mid : Int), b, ?_, by omega, by simp; omega, cR, ?_⟩))
    · show [G.l (sortA (ltC ordC) L ++ p :: R), G.i ((mid : Int) + 1), G.i (rows.length : Int), G.i v, G.t (leI 1 (mid : Int)), G.t b] = _
      have e1 : sortA (ltC ordC) L ++ [p] ++ R ++ [] = sortA (ltC ordC) L ++ p :: R := by simp
      have e2 : (sortA (ltC ordC) L ++ [p]).length = mid + 1 := by simp; omega
      rw [e1, e2, show ((mid + 1 : Nat) : Int) = (mid : Int) + 1 from by omega, show ((mid + 1 + R.length : Nat) : Int) = (rows.length : Int) from by omega]
    · rw [← all]
      simp
  · have hs : F_slices_pdqsortCmpFunc_Contact [.l r, .i ((mid : Int) + 1), .i (rows.length : Int), .i v] = some [.l (L ++ [p] ++ sortA (ltC ordC) R ++ [])] := by
      have := smallPdq (L ++ [p]) R [] cR (by simp; omega) (by omega) ((mid : Int) + 1) (rows.length : Int) v (by simp [hLl]) (by simp; omega)
      rw [show L ++ [p] ++ R ++ [] = r from by rw [hr]; simp] at this
      exact this
    refine Ret.pos (by (first|rfl|assumption|(simp only [inI,sl]<;>omega))) (Ret.pos (by (first|rfl|assumption|(simp only [inI,sl]<;>omega))) (Ret.pos (by (first|rfl|assumption|(simp only [inI,sl]<;>omega))) (Ret.neg (by (first|rfl|assumption|(simp only [inI,sl]<;>omega))) (Ret.pos (by (first|rfl|assumption|(simp only [inI,sl]<;>omega))) ?_))))
    refine Ret.callb (Ret.eq hs) (by (first|rfl|assumption|(simp only [inI,sl]<;>omega))) ?_
    rintro _ rfl
    (dsimp +instances only [gi0,gis,row1,rows1,int1,str1,bool1])
    have hsl : (L ++ [p] ++ sortA (ltC ordC) R ++ []).length = rows.length := by
      simp only [List.length_append, List.length_cons, List.length_nil]
      omega
    refine Ret.pos (by rw [hsl]; simp) (Ret.some ⟨0, rfl, rfl, [], L, p :: sortA (ltC ordC) R, leI 1 ((rows.length : Int) - (mid : Int)), b, ?_, by omega, by simp, cL, ?_⟩)
    · show [G.l (L ++ [p] ++ sortA (ltC ordC) R ++ []), G.i 0, G.i (mid : Int), G.i v, G.t (leI 1 ((rows.length : Int) - (mid : Int))), G.t b] = _
      have e1 : [] ++ L ++ p :: sortA (ltC ordC) R = L ++ [p] ++ sortA (ltC ordC) R ++ [] := by simp
      rw [e1]
      simp [hLl]
    · rw [← all]
      simp
end
end Go.Proofs.SYtpfhjchbegdgdaaGreatDoor

namespace Go.Proofs.SYtpfhjchbegdgdaaGreatDoor
open Go Go.AL Go.Proofs
noncomputable section
section
variable {rows : List (List G)} (hC : ∀ y ∈ rows, Con y) (hk : rows.Pairwise fun a b => keyOf a ≠ keyOf b) (h8 : 8 ≤ rows.length) (h14 : rows.length ≤ 14)
include hC hk h8 h14
theorem near17 (v len : Int) (wb wp : Bool) (hl : len = (rows.length : Int)) (m x y : Nat) (hm : m < rows.length) (hx : x < rows.length) (hy : y < rows.length)
    (h1 : ltc (rows.getD x []) (rows.getD m []) = true) (h2 : ltc (rows.getD m []) (rows.getD y []) = true) :
    Ret (tl_slices_pdqsortCmpFunc_Contact_b_17 [.l rows, .i 0, .i (rows.length : Int), .i v, .t wb, .t wp, .i len, .i (m : Int)]) fun o => ∃ k, o.1 = some k ∧ k = 0 ∧ Near rows v o.2 := by
  unfold tl_slices_pdqsortCmpFunc_Contact_b_17
  (dsimp +instances only [gi0,gis,row1,rows1,int1,str1,bool1])
  refine Ret.neg (by (first|rfl|assumption|(simp only [inI,sl]<;>omega))) ?_
  refine Ret.tail (P := fun k g => k = 0 ∧ g = [.l rows, .i 0, .i (rows.length : Int), .i v, .i len, .i (m : Int)]) ?_ (by (first|rfl|assumption|(simp only [inI,sl]<;>omega))) ?_
  · unfold tl_slices_pdqsortCmpFunc_Contact_b_18
    (dsimp +instances only [gi0,gis,row1,rows1,int1,str1,bool1])
    exact Ret.neg rfl (Ret.pos (by (first|rfl|assumption|(simp only [inI,sl]<;>omega))) (Ret.some ⟨0, rfl, rfl, rfl⟩))
  rintro _ _ ⟨rfl, rfl⟩
  (dsimp +instances only [gi0,gis,row1,rows1,int1,str1,bool1])
  refine Ret.tail (P := fun k g => k = 0 ∧ Near rows v g) (near20 hC hk h8 h14 v len hl m x y hm hx hy h1 h2) (by (first|rfl|assumption|(simp only [inI,sl]<;>omega))) ?_
  rintro _ _ ⟨rfl, A, M, B, wb', wp', rfl, g⟩
  (dsimp +instances only [gi0,gis,row1,rows1,int1,str1,bool1])
  exact Ret.pos (by (first|rfl|assumption|(simp only [inI,sl]<;>omega))) (Ret.some ⟨0, rfl, rfl, A, M, B, wb', wp', rfl, g⟩)
theorem near15 (v len h : Int) (hl : len = (rows.length : Int)) (m x y : Nat) (hm : m < rows.length) (hx : x < rows.length) (hy : y < rows.length)
    (h1 : ltc (rows.getD x []) (rows.getD m []) = true) (h2 : ltc (rows.getD m []) (rows.getD y []) = true) :
    Ret (tl_slices_pdqsortCmpFunc_Contact_b_15 [.l rows, .i 0, .i (rows.length : Int), .i v, .t true, .t true, .i len, .i (m : Int), .i h]) fun o => ∃ k, o.1 = some k ∧ ((k = 0 ∧ o.2 = [.l (sortA (ltC ordC) rows)]) ∨ (k = 1 ∧ Near rows v o.2)) := by
  unfold tl_slices_pdqsortCmpFunc_Contact_b_15
  (dsimp +instances only [gi0,gis,row1,rows1,int1,str1,bool1])
  refine Ret.pos rfl (Ret.pos rfl ?_)
  refine Ret.tail (P := fun k g => (k = 0 ∧ g = [.l (sortA (ltC ordC) rows)]) ∨ (k = 1 ∧ g = [.l rows, .i 0, .i (rows.length : Int), .i v, .t true, .t true, .i len, .i (m : Int)])) ?_ (by (first|rfl|assumption|(simp only [inI,sl]<;>omega))) ?_
  · unfold tl_slices_pdqsortCmpFunc_Contact_b_16
    (dsimp +instances only [gi0,gis,row1,rows1,int1,str1,bool1])
    refine Ret.test (fun _ => ?_) fun _ => ?_
    · refine Ret.callb (partial_ok hC (by omega) (by omega)) (by (first|rfl|assumption|(simp only [inI,sl]<;>omega))) ?_
      rintro _ ⟨b, rfl, hb⟩
      (dsimp +instances only [gi0,gis,row1,rows1,int1,str1,bool1])
      cases b with
      | true =>
        refine Ret.pos rfl (Ret.some ⟨0, rfl, .inl ⟨rfl, ?_⟩⟩)
        show [G.l rows] = [G.l (sortA (ltC ordC) rows)]
        rw [sort_sorted hk (hb rfl)]
      | false => exact Ret.neg rfl (Ret.pos (by (first|rfl|assumption|(simp only [inI,sl]<;>omega))) (Ret.some ⟨1, rfl, .inr ⟨rfl, rfl⟩⟩))
    · exact Ret.pos (by (first|rfl|assumption|(simp only [inI,sl]<;>omega))) (Ret.some ⟨1, rfl, .inr ⟨rfl, rfl⟩⟩)
  rintro _ _ (⟨rfl, rfl⟩ | ⟨rfl, rfl⟩)
  · exact Ret.pos rfl (Ret.some ⟨0, rfl, .inl ⟨rfl, rfl⟩⟩)
  · (dsimp +instances only [gi0,gis,row1,rows1,int1,str1,bool1])
    refine Ret.neg rfl ?_
    refine Ret.tail (P := fun k g => k = 0 ∧ Near rows v g) (near17 hC hk h8 h14 v len true true hl m x y hm hx hy h1 h2) (by (first|rfl|assumption|(simp only [inI,sl]<;>omega))) ?_
    rintro _ _ ⟨rfl, A, M, B, wb', wp', rfl, g⟩
    (dsimp +instances only [gi0,gis,row1,rows1,int1,str1,bool1])
    exact Ret.pos (by (first|rfl|assumption|(simp only [inI,sl]<;>omega))) (Ret.some ⟨1, rfl, .inr ⟨rfl, A, M, B, wb', wp', rfl, g⟩⟩)
theorem first_round (h12 : 12 < rows.length) (v : Int) (hv : v ≠ 0) :
    Ret (st_slices_pdqsortCmpFunc_Contact_b_2 [.l rows, .i 0, .i (rows.length : Int), .i v, .t true, .t true]) fun o => (o.1 = some 0 ∧ o.2 = [.l (sortA (ltC ordC) rows)]) ∨ (o.1 = none ∧ Near rows v o.2) := by
  unfold st_slices_pdqsortCmpFunc_Contact_b_2
  (dsimp +instances only [gi0,gis,row1,rows1,int1,str1,bool1])
  simp only [Int.sub_zero]
  refine Ret.pos (by (first|rfl|assumption|(simp only [inI,sl]<;>omega))) (Ret.neg (by (first|rfl|assumption|(simp only [inI,sl]<;>omega))) (Ret.neg (bf_false hv) (Ret.neg rfl ?_)))
  refine Ret.callb (pivot_ok hC (by omega) (apart_of hk) h8 (by omega)) (by (first|rfl|assumption|(simp only [inI,sl]<;>omega))) ?_
  rintro _ ⟨m, x, y, h, rfl, hh, g1, g2, g3, g4, g5⟩
  (dsimp +instances only [gi0,gis,row1,rows1,int1,str1,bool1])
  refine Ret.neg (bf_false hh) ?_
  refine Ret.tail (P := fun k g => (k = 0 ∧ g = [.l (sortA (ltC ordC) rows)]) ∨ (k = 1 ∧ Near rows v g)) (near15 hC hk h8 h14 v (rows.length : Int) h rfl m x y g1 g2 g3 g4 g5) (by (first|rfl|assumption|(simp only [inI,sl]<;>omega))) ?_
  rintro _ _ (⟨rfl, rfl⟩ | ⟨rfl, A, M, B, wb', wp', rfl, g⟩)
  · exact Ret.pos rfl (Ret.some (.inl ⟨rfl, rfl⟩))
  · (dsimp +instances only [gi0,gis,row1,rows1,int1,str1,bool1])
    exact Ret.neg rfl (Ret.pos (by (first|rfl|assumption|(simp only [inI,sl]<;>omega))) (Ret.some (.inr ⟨rfl, A, M, B, wb', wp', rfl, g⟩)))
end
theorem bits14 : ((List.range 15).all fun n => match F_bits_Len [.i (IntKind.u64.wrap ((n : Nat) : Int))] with
  | some [.i v] => Nat.ble n 0 || !(v == 0)
  | _ => false) = true := by kernel_rfl
theorem r_bits14 (n : Nat) (h : n ≤ 14) : Ret (F_bits_Len [.i (IntKind.u64.wrap ((n : Nat) : Int))]) fun g => ∃ v, g = [.i v] ∧ (1 ≤ n → v ≠ 0) := by
  have h1 := List.all_eq_true.1 bits14 n (List.mem_range.2 (by omega))
  split at h1
  · rename_i v e
    refine ⟨_, e, v, rfl, fun hn hv => ?_⟩
    subst hv
    have h2 : Nat.ble n 0 = false := by
      cases hb : Nat.ble n 0 with
      | false => rfl
      | true =>
        have := Nat.le_of_ble_eq_true hb
        omega
    rw [h2] at h1
    cases h1
  · cases h1
theorem sort14 (rows : List (List G)) (hC : ∀ y ∈ rows, Con y) (hk : rows.Pairwise fun a b => keyOf a ≠ keyOf b) (hn : rows.length ≤ 14) : F_slices_SortFunc_Contact [.l rows] = some [.l (sortA (ltC ordC) rows)] := by
  refine Ret.toEq ?_
  unfold F_slices_SortFunc_Contact
  (dsimp +instances only [gi0,gis,row1,rows1,int1,str1,bool1])
  refine Ret.call (r_bits14 rows.length hn) ?_
  rintro _ ⟨v, rfl, hv⟩
  (dsimp +instances only [gi0,gis,row1,rows1,int1,str1,bool1])
  refine Ret.callb (P := fun g => g = [.l (sortA (ltC ordC) rows)]) ?_ (by (first|rfl|assumption|(simp only [inI,sl]<;>omega))) ?_
  · unfold F_slices_pdqsortCmpFunc_Contact_b
    (dsimp +instances only [gi0,gis,row1,rows1,int1,str1,bool1])
    refine Ret.loop (P := fun x g => g = [.l (sortA (ltC ordC) rows)]) ?_ (by (first|rfl|assumption|(simp only [inI,sl]<;>omega))) ?_
    · by_cases h12 : rows.length ≤ 12
      · refine RetL.stop (x := 0) (last_round (rows := rows) (v := v) ⟨[], rows, [], true, true, ?_, h12, by simp, hC, by simp⟩) rfl
        simp
      · obtain ⟨⟨o, g⟩, h, h2⟩ := first_round hC hk (by omega) hn (by omega) v (hv (by omega))
        rcases h2 with ⟨h2, h3⟩ | ⟨h2, h3⟩
        · have h2 : o = some 0 := h2
          have h3 : g = [.l (sortA (ltC ordC) rows)] := h3
          subst h2 h3
          exact RetL.stop h rfl
        · have h2 : o = none := h2
          subst h2
          exact (RetN.next h (RetN.stop (m := 0) (last_round h3) rfl)).to (by omega)
    · rintro _ _ rfl
      exact Ret.some rfl
  · rintro _ rfl
    exact Ret.some rfl
end
end Go.Proofs.SYtpfhjchbegdgdaaGreatDoor

namespace Go.Proofs.SYtpfhjchbegdgdaaGreatDoor
open Go Go.AL Go.Proofs
noncomputable section
def kOf (z : List G) : Int := (gi z 1).int
def wOf (z : List G) : List G := (z.drop 2).take 8
def sOf (z : List G) : List G := z.drop 10
theorem Chg.split {z : List G} (h : Chg Con z) : Con (wOf z) ∧ Con (sOf z) ∧ ∀ (mp : List (List G)) (clock : Nat), F_log_change [.l mp, .i (clock : Nat), .l [z]] = some (changeM mp clock (kOf z) (wOf z) (sOf z)) := by
  obtain ⟨n, k, w, s, rfl, _, _, hw, hs⟩ := h
  have hw' := hw
  have hs' := hs
  obtain ⟨t, m, b, c, sn, hd, x, y, rfl, _⟩ := hw
  obtain ⟨t2, m2, b2, c2, sn2, hd2, x2, y2, rfl, _⟩ := hs
  exact ⟨hw', hs', fun mp clock => change_eq mp clock n k t m b c sn hd x y t2 m2 b2 c2 sn2 hd2 x2 y2⟩
def chFold : List (List G) → Nat → List (List G) → List (List G) → List (List G) × List (List G)
  | [], _, out, ref => (out, ref)
  | z :: q, i, out, ref => match refStep out (kOf z) (wOf z) (sOf z) with
    | none => chFold q (i + 1) out (ref ++ [[.i (i : Nat)]])
    | some o => chFold q (i + 1) o ref
theorem refStep_some {out o : List (List G)} {k : Int} {w s : List G} (h : refStep out k w s = some o) : (∀ z ∈ o, z ∈ out ∨ z = s) ∧ o.length ≤ out.length + 1 := by
  unfold refStep at h
  have hl : (leftOf' out k w).length ≤ out.length := List.length_filter_le _ _
  have hm : ∀ z ∈ leftOf' out k w, z ∈ out := fun z hz => (List.mem_filter.1 hz).1
  generalize hc : ((!(k == 1) && Nat.beq (leftOf' out k w).length out.length) || (leftOf' out k w).any (fun o => !(k == 2) && (ordC o s == 0))) = cc at h
  cases cc with
  | true => cases h
  | false =>
    simp only [cond_false, Option.some.injEq] at h
    cases h2 : (k == 2) with
    | true =>
      rw [h2] at h
      simp only [Bool.not_true, cond_false] at h
      subst h
      exact ⟨fun z hz => .inl (hm z hz), by omega⟩
    | false =>
      rw [h2] at h
      simp only [Bool.not_false, cond_true] at h
      subst h
      refine ⟨fun z hz => ?_, by simp; omega⟩
      rcases List.mem_append.1 hz with hz | hz
      · exact .inl (hm z hz)
      · exact .inr (by simpa using hz)
theorem chFold_con : ∀ {q : List (List G)} {i : Nat} {out ref : List (List G)}, (∀ z ∈ q, Chg Con z) → (∀ z ∈ out, Con z) → (∀ z ∈ (chFold q i out ref).1, Con z) ∧ (chFold q i out ref).1.length ≤ out.length + q.length ∧ (chFold q i out ref).2.length ≤ ref.length + q.length
  | [], _, _, _, _, ho => ⟨ho, by simp [chFold], by simp [chFold]⟩
  | z :: q, i, out, ref, hq, ho => by
    have hq' : ∀ z ∈ q, Chg Con z := fun y hy => hq y (List.mem_cons_of_mem _ hy)
    simp only [chFold]
    cases h : refStep out (kOf z) (wOf z) (sOf z) with
    | none =>
      obtain ⟨h1, h2, h3⟩ := chFold_con (i := i + 1) (ref := ref ++ [[.i (i : Nat)]]) hq' ho
      refine ⟨h1, by simp; omega, ?_⟩
      simp at h3 ⊢
      omega
    | some o =>
      obtain ⟨g1, g2⟩ := refStep_some h
      have ho' : ∀ y ∈ o, Con y := fun y hy => (g1 y hy).elim (ho y) fun e => e ▸ (hq z List.mem_cons_self).split.2.1
      obtain ⟨h1, h2, h3⟩ := chFold_con (i := i + 1) (ref := ref) hq' ho'
      refine ⟨h1, ?_, ?_⟩
      · simp
        omega
      · simp
        omega
theorem round15 (m ref ch : List (List G)) (clock i : Nat) {x : List G} (hx : Chg Con x) (hi : i < ch.length) (hd : ch.getD i [] = x) (hl : ref.length < 100000) (hn : ch.length < 100000) {m' : List (List G)} {clock' : Nat} {b : Bool}
    (hc : changeM m clock (kOf x) (wOf x) (sOf x) = [.l m', .i (clock' : Nat), .t b]) :
    st_log_Changed_15 [.l m, .i (clock : Nat), .l ref, .l ch, .i (ch.length : Nat), .i (i : Nat)] = some (none, [.l m', .i (clock' : Nat), .l (bif b then ref else ref ++ [[.i (i : Nat)]]), .l ch, .i (ch.length : Nat), .i ((i : Int) + 1)]) := by
  refine Ret.toEq ?_
  unfold st_log_Changed_15
  (dsimp +instances only [gi0,gis,row1,rows1,int1,str1,bool1])
  simp only [Int.toNat_natCast, hd, hx.eta]
  refine Ret.pos (by (first|rfl|assumption|(simp only [inI,sl]<;>omega))) (Ret.pos (by (first|rfl|assumption|(simp only [inI,sl]<;>omega))) ?_)
  refine Ret.call (Ret.eq (hx.split.2.2 m clock)) ?_
  rintro _ rfl
  rw [hc]
  (dsimp +instances only [gi0,gis,row1,rows1,int1,str1,bool1])
  simp only [Int.toNat_natCast]
  cases b with
  | true =>
    (repeat(first|(refine Ret.pos ?_ ?_;(first|rfl|assumption|(simp only [inI,sl]<;>omega)))|(refine Ret.neg ?_ ?_;(first|rfl|assumption|(simp only [inI,sl]<;>omega)))))
    exact Ret.some rfl
  | false =>
    (repeat(first|(refine Ret.pos ?_ ?_;(first|rfl|assumption|(simp only [inI,sl]<;>omega)))|(refine Ret.neg ?_ ?_;(first|rfl|assumption|(simp only [inI,sl]<;>omega)))))
    exact Ret.some rfl
theorem chg_runs : ∀ (q p m ref out : List (List G)) (clock : Nat), MInv m clock out → (∀ z ∈ p ++ q, Chg Con z) → ref.length ≤ p.length → p.length + q.length < 90000 →
    RetN st_log_Changed_15 [.l m, .i (clock : Nat), .l ref, .l (p ++ q), .i ((p ++ q).length : Nat), .i (p.length : Nat)] (q.length + 1) fun c g => c = 0 ∧ ∃ m' clock', g = [.l m', .i ((clock' : Nat) : Int), .l (chFold q p.length out ref).2] ∧ MInv m' clock' (chFold q p.length out ref).1
  | [], p, m, ref, out, clock, hm, hc, hr, hl => by
    refine RetN.stop (x := 0) (d' := [.l m, .i (clock : Nat), .l ref]) (Ret.toEq ?_) ⟨rfl, m, clock, rfl, hm⟩
    unfold st_log_Changed_15
    (dsimp +instances only [gi0,gis,row1,rows1,int1,str1,bool1])
    simp only [Int.toNat_natCast]
    refine Ret.neg (by simp [ltI_eq]) (Ret.pos (by (first|rfl|assumption|(simp only [inI,sl]<;>omega))) (Ret.some rfl))
  | x :: q, p, m, ref, out, clock, hm, hc, hr, hl => by
    have hx : Chg Con x := hc x (by simp)
    have e : p ++ x :: q = (p ++ [x]) ++ q := by simp
    simp only [List.length_cons] at hl
    have hlen : (p ++ x :: q).length = p.length + (q.length + 1) := by simp
    have hd : (p ++ x :: q).getD p.length [] = x := getD_at p x q
    have e3 : ((p ++ [x]).length : Int) = (p.length : Int) + 1 := by simp
    rcases step_agree hm (k := kOf x) hx.split.1 hx.split.2.1 with ⟨h1, h2⟩ | ⟨out', m', clock', h1, h2, h3⟩
    · have st := round15 m ref (p ++ x :: q) clock p.length hx (by omega) hd (by omega) (by omega) h2
      simp only [cond_false] at st
      have ih := chg_runs q (p ++ [x]) m (ref ++ [[.i (p.length : Nat)]]) out clock hm (by rw [← e]; exact hc) (by simp; omega) (by simp; omega)
      rw [← e, e3] at ih
      have e4 : (p ++ [x]).length = p.length + 1 := by simp
      rw [e4] at ih
      have ef : chFold (x :: q) p.length out ref = chFold q (p.length + 1) out (ref ++ [[.i (p.length : Nat)]]) := by
        simp only [chFold, h1]
      rw [ef]
      exact RetN.next st ih
    · have st := round15 m ref (p ++ x :: q) clock p.length hx (by omega) hd (by omega) (by omega) h2
      simp only [cond_true] at st
      have ih := chg_runs q (p ++ [x]) m' ref out' clock' h3 (by rw [← e]; exact hc) (by simp; omega) (by simp; omega)
      rw [← e, e3] at ih
      have e4 : (p ++ [x]).length = p.length + 1 := by simp
      rw [e4] at ih
      have ef : chFold (x :: q) p.length out ref = chFold q (p.length + 1) out' ref := by
        simp only [chFold, h1]
      rw [ef]
      exact RetN.next st ih
theorem one_value {m : List (List G)} {clock : Nat} {out : List (List G)} (h : MInv m clock out) {p : List (List G)} (hp : p.Perm m) : (p.map valOf').Perm out := (hp.map valOf').trans h.vals
theorem sort_one {out r : List (List G)} (hk : out.Pairwise fun a b => keyOf a ≠ keyOf b) (hp : r.Perm out) : sortA (ltC ordC) r = sortA (ltC ordC) out := by
  symm
  refine sortA_unique linC hp.symm (fun _ _ => trivial) fun a ha b hb h1 h2 => ?_
  refine one_key hk ha hb (ordC_key.1 ?_)
  have f := ordC_flip a b
  unfold ltC at h1 h2
  rw [ltI_eq, decide_eq_false_iff_not] at h1 h2
  omega
theorem foldR_walk {st : List G → List G → Option (List G)} {adr : List G → Nat} {I : List (List G) → List G → Prop} {N : Nat} (hst : ∀ r p d, p.length < N → I p d → ∃ d', st r d = some d' ∧ adr d' = adr d ∧ I (p ++ [r]) d') :
    ∀ (q p : List (List G)) (d : List G), p.length + q.length ≤ N → I p d → ∃ d', foldR st adr q d = some d' ∧ adr d' = adr d ∧ I (p ++ q) d'
  | [], p, d, _, h => ⟨d, rfl, rfl, by simpa using h⟩
  | r :: q, p, d, hl, h => by
    simp only [List.length_cons] at hl
    obtain ⟨d1, h1, h2, h3⟩ := hst r p d (by omega) h
    obtain ⟨d2, h4, h5, h6⟩ := foldR_walk hst q (p ++ [r]) d1 (by simp; omega) h3
    refine ⟨d2, ?_, by rw [h5, h2], by simpa using h6⟩
    simp only [foldR, h1]
    rw [h2, show Nat.beq (adr d) (adr d) = true from Nat.beq_refl _]
    exact h4
theorem tail23 {m : List (List G)} {clock : Nat} {out : List (List G)} (h : MInv m clock out) (ref : List (List G)) (hl : out.length ≤ 14) :
    tl_log_Changed_23 [.l m, .i (clock : Nat), .l ref, .l []] = some (some 0, [.l (sortA (ltC ordC) out), .l ref, .i 0]) := by
  have hm : m.length = out.length := by rw [← h.vals.length_eq, List.length_map]
  unfold tl_log_Changed_23
  (dsimp +instances only [gi0,gis,row1,rows1,int1,str1,bool1])
  simp only [Int.toNat_natCast]
  refine rangeR_of h.ok fun b p hp => ⟨?_, ?_⟩
  · show rb_log_Changed_23 _ b = true
    unfold rb_log_Changed_23
    (dsimp +instances only [gi0,gis,row1,rows1,int1,str1,bool1])
    simp only [Nat.beq_refl, Bool.and_true]
  · have hpl : p.length = out.length := by rw [hp.length_eq, hm]
    have hst : ∀ (r : List G) (p' : List (List G)) (d : List G), p'.length < 14 → d = [.l ref, .l (p'.map fun r => gEta KContact (gi r 1).row), .i ((b : Nat) : Int)] →
        ∃ d', rs_log_Changed_23.st r d = some d' ∧ rs_log_Changed_23.adr d' = rs_log_Changed_23.adr d ∧ d' = [.l ref, .l ((p' ++ [r]).map fun r => gEta KContact (gi r 1).row), .i ((b : Nat) : Int)] := by
      rintro r p' _ hlt rfl
      refine ⟨[.l ref, .l ((p' ++ [r]).map fun r => gEta KContact (gi r 1).row), .i ((b : Nat) : Int)], Ret.toEq ?_, rfl, rfl⟩
      show Ret (sr_log_Changed_23 r _) _
      unfold sr_log_Changed_23
      (dsimp +instances only [gi0,gis,row1,rows1,int1,str1,bool1])
      simp only [Int.toNat_natCast]
      refine Ret.pos ?_ (Ret.pos ?_ (Ret.some ?_))
      · simp only [Nat.beq_refl, Bool.true_and, List.length_map, decide_eq_true_eq]
        omega
      · simp only [Nat.beq_refl, Bool.and_true]
      · rw [List.map_append]
        rfl
    obtain ⟨d', h1, _, h2⟩ := foldR_walk hst p [] [.l ref, .l [], .i ((b : Nat) : Int)] (by simp; omega) rfl
    subst h2
    refine ⟨_, h1, ?_⟩
    have hperm := one_value h hp
    have hcon : ∀ z ∈ p.map valOf', Con z := fun z hz => h.con z (hperm.subset hz)
    have hmap : (([] ++ p).map fun r => gEta KContact (gi r 1).row) = p.map valOf' := by
      rw [List.nil_append]
      refine List.map_congr_left fun r hr => ?_
      exact (hcon _ (List.mem_map.2 ⟨r, hr, rfl⟩)).eta
    rw [hmap]
    have hs := sort_one h.keys hperm
    have hkeys : (p.map valOf').Pairwise fun a b => keyOf a ≠ keyOf b := hperm.symm.pairwise h.keys fun h => h.symm
    refine Ret.toEq ?_
    unfold tr_log_Changed_23
    (dsimp +instances only [gi0,gis,row1,rows1,int1,str1,bool1])
    refine Ret.callb (Ret.eq (sort14 (p.map valOf') hcon hkeys (by simp; omega))) (by (first|rfl|assumption|(simp only [inI,sl]<;>omega))) ?_
    rintro _ rfl
    (dsimp +instances only [gi0,gis,row1,rows1,int1,str1,bool1])
    refine Ret.pos ?_ (Ret.some ?_)
    · simp only [sortA_length, Nat.beq_refl, Bool.and_true]
    · rw [hs]
theorem changed_ok (l ch : List (List G)) (hl : ∀ z ∈ l, Con z) (hc : ∀ z ∈ ch, Chg Con z) (h : l.length + ch.length ≤ 14) :
    F_log_Changed [.l l, .l ch] = some (bif faultLog l != 0 then [.l [], .l [], .i (faultLog l)] else bif faultCh ch != 0 then [.l [], .l [], .i (faultCh ch)] else [.l (sortA (ltC ordC) (chFold ch 0 l []).1), .l (chFold ch 0 l []).2, .i 0]) := by
  refine Ret.toEq ?_
  unfold F_log_Changed
  (dsimp +instances only [gi0,gis,row1,rows1,int1,str1,bool1])
  refine Ret.call (Ret.eq (checkLog_eq l hl (by omega))) ?_
  rintro _ rfl
  (dsimp +instances only [gi0,gis,row1,rows1,int1,str1,bool1])
  by_cases fl : faultLog l = 0
  · have z : (faultLog l != 0) = false := by simpa using fl
    simp only [z, cond_false]
    refine Ret.call (Ret.eq (checkCh_eq ch (by omega) hc)) ?_
    rintro _ rfl
    (dsimp +instances only [gi0,gis,row1,rows1,int1,str1,bool1])
    by_cases fc : faultCh ch = 0
    · have z : (faultCh ch != 0) = false := by simpa using fc
      simp only [z, cond_false]
      have hb := build_runs ch l [] [] 0 (by simpa using hl) (by simpa using log_keys fl) MInv.nil (by simp; omega)
      simp only [List.nil_append, List.length_nil, Nat.zero_add] at hb
      refine Ret.loop (hb.to (by omega)) rfl ?_
      rintro c g ⟨rfl, m, clock, rfl, hm⟩
      (dsimp +instances only [gi0,gis,row1,rows1,int1,str1,bool1])
      simp only [Int.toNat_natCast]
      have hr := chg_runs ch [] m [] l clock hm (by simpa using hc) (by simp) (by simp; omega)
      simp only [List.nil_append, List.length_nil] at hr
      refine Ret.loop (hr.to (by omega)) rfl ?_
      rintro c g ⟨rfl, m', clock', rfl, hm'⟩
      (dsimp +instances only [gi0,gis,row1,rows1,int1,str1,bool1])
      simp only [Int.toNat_natCast]
      obtain ⟨_, g2, _⟩ := chFold_con (i := 0) (ref := []) hc hl
      have hml : m'.length = (chFold ch 0 l []).1.length := by rw [← hm'.vals.length_eq, List.length_map]
      refine Ret.neg (by (first|rfl|assumption|(simp only [inI,sl]<;>omega))) ?_
      refine Ret.tail (P := fun x g => x = 0 ∧ g = [.l (sortA (ltC ordC) (chFold ch 0 l []).1), .l (chFold ch 0 l []).2, .i 0]) (Ret.mono (Ret.eq (tail23 hm' _ (by omega))) fun o ho => ⟨0, by rw [ho], rfl, by rw [ho]⟩) (by (first|rfl|assumption|(simp only [inI,sl]<;>omega))) ?_
      rintro _ _ ⟨rfl, rfl⟩
      (dsimp +instances only [gi0,gis,row1,rows1,int1,str1,bool1])
      exact Ret.pos (by (first|rfl|assumption|(simp only [inI,sl]<;>omega))) (Ret.some rfl)
    · have z : (faultCh ch != 0) = true := by simpa using fc
      simp only [z, cond_true]
      exact Ret.some rfl
  · have z : (faultLog l != 0) = true := by simpa using fl
    simp only [z, cond_true]
    exact Ret.some rfl
end
end Go.Proofs.SYtpfhjchbegdgdaaGreatDoor

namespace Go.Proofs.SYtpfhjchbegdgdaaGreatDoor
open Go Go.AL Go.Proofs
noncomputable section
def acc : List (List G) → List (List G) → List (List G)
  | [], _ => []
  | z :: q, out => match refStep out (kOf z) (wOf z) (sOf z) with
    | none => acc q out
    | some o => z :: acc q o
def refs : List (List G) → Nat → List (List G) → List (List G)
  | [], _, _ => []
  | z :: q, i, out => match refStep out (kOf z) (wOf z) (sOf z) with
    | none => [.i (i : Nat)] :: refs q (i + 1) out
    | some o => refs q (i + 1) o
theorem fold_refs : ∀ (q : List (List G)) (i : Nat) (out ref : List (List G)), (chFold q i out ref).2 = ref ++ refs q i out
  | [], _, _, _ => by simp [chFold, refs]
  | z :: q, i, out, ref => by
    simp only [chFold, refs]
    cases h : refStep out (kOf z) (wOf z) (sOf z) with
    | none => simp only [fold_refs q]; simp
    | some o => simp only [fold_refs q]
theorem fold_acc : ∀ (q : List (List G)) (i j : Nat) (out ref ref' : List (List G)), chFold (acc q out) j out ref' = ((chFold q i out ref).1, ref')
  | [], _, _, _, _, _ => by simp [chFold, acc]
  | z :: q, i, j, out, ref, ref' => by
    cases h : refStep out (kOf z) (wOf z) (sOf z) with
    | none => simp only [chFold, acc, h, fold_acc q (i + 1) j out (ref ++ [[.i (i : Nat)]]) ref']
    | some o => simp only [chFold, acc, h, fold_acc q (i + 1) (j + 1) o ref ref']
theorem acc_sub : ∀ (q out : List (List G)), (acc q out).Sublist q
  | [], _ => by simp [acc]
  | z :: q, out => by
    cases h : refStep out (kOf z) (wOf z) (sOf z) with
    | none => simp only [acc, h]; exact (acc_sub q out).cons z
    | some o => simp only [acc, h]; exact (acc_sub q o).cons_cons z
theorem refs_ge : ∀ (q : List (List G)) (i : Nat) (out : List (List G)), (∀ r ∈ refs q i out, ∃ k : Nat, r = [.i (k : Int)] ∧ i ≤ k)
  | [], _, _ => by simp [refs]
  | z :: q, i, out => by
    cases h : refStep out (kOf z) (wOf z) (sOf z) with
    | none =>
      simp only [refs, h]
      intro r hr
      rcases List.mem_cons.1 hr with rfl | hr
      · exact ⟨i, rfl, Nat.le_refl _⟩
      · obtain ⟨k, e, h1⟩ := refs_ge q (i + 1) out r hr
        exact ⟨k, e, by omega⟩
    | some o =>
      simp only [refs, h]
      intro r hr
      obtain ⟨k, e, h1⟩ := refs_ge q (i + 1) o r hr
      exact ⟨k, e, by omega⟩
/-! ### Without the refused ones they are right -/
theorem lastG_swap {p p' : Option Int} {n k : Int} {w s : List G} (h : f1 p n k w s = 0) (h' : lastG p' n = 0) : f1 p' n k w s = 0 := by
  have h0 := f1_zero h
  have e : f1 p' n k w s = f1 p n k w s := by
    unfold f1 f10 f14
    rw [h0, h']
  rw [e, h]
theorem firstF_all {f : Nat → Int} : ∀ {k i : Nat}, (∀ j, i ≤ j → j < i + k → f j = 0) → firstF f k i = 0
  | 0, _, _ => rfl
  | k + 1, i, h => by
    have z : (f i != 0) = false := by simpa using h i (Nat.le_refl _) (by omega)
    simp only [firstF, z, cond_false]
    exact firstF_all fun j h1 h2 => h j (by omega) (by omega)
theorem faultCh_sub {c d : List (List G)} (hs : d.Sublist c) (hr : ∀ z ∈ c, Chg Con z) (hl : c.length ≤ 1000) (h : faultCh c = 0) : faultCh d = 0 := by
  have rise := (rising_of hr hl h).sublist hs
  have hdl := hs.length_le
  have e1 : Nat.blt 1000 c.length = false := Bool.eq_false_iff.2 fun hh => by rw [Nat.blt_eq] at hh; omega
  have e2 : Nat.blt 1000 d.length = false := Bool.eq_false_iff.2 fun hh => by rw [Nat.blt_eq] at hh; omega
  unfold faultCh at h ⊢
  rw [e1] at h
  rw [e2]
  simp only [cond_false] at h ⊢
  refine firstF_all fun j _ hj => ?_
  have hj : j < d.length := by omega
  have hm : d.getD j [] ∈ c := hs.subset (getD_row hj)
  obtain ⟨i, hi, e⟩ := List.getElem_of_mem hm
  have hc := firstF_zero h i (by omega) (by omega)
  have ei : c.getD i [] = d.getD j [] := by rw [getD_eq hi, e]
  unfold fAt at hc ⊢
  rw [ei] at hc
  refine lastG_swap hc ?_
  cases j with
  | zero => rfl
  | succ j =>
    have h1 := List.pairwise_iff_getElem.1 rise j (j + 1) (by omega) hj (by omega)
    rw [← getD_eq (by omega : j < d.length), ← getD_eq hj] at h1
    unfold noOf at h1
    simp only [prevG, lastG, leI_eq]
    rw [decide_eq_false (by omega)]
    rfl
/-! ### The loop that leaves them out -/
theorem idx_runs : ∀ (q p : List (List G)) (k : Int), p.length + q.length < 100000 → (∀ r ∈ p, (gi r 0).int ≠ k) →
    RetN st_slices_Index_int_2 [.l (p ++ q), .i k, .i ((p ++ q).length : Nat), .i (p.length : Nat)] (q.length + 1) fun c g => (c = 0 ∧ (∃ r ∈ q, (gi r 0).int = k) ∧ ∃ n : Nat, g = [.i (n : Int)]) ∨ (c = 1 ∧ ∀ r ∈ q, (gi r 0).int ≠ k)
  | [], p, k, hl, hp => by
    refine RetN.stop (x := 1) (d' := []) (Ret.toEq ?_) (.inr ⟨rfl, by simp⟩)
    unfold st_slices_Index_int_2
    (dsimp +instances only [gi0,gis,row1,rows1,int1,str1,bool1])
    exact Ret.neg (by simp [ltI_eq]) (Ret.some rfl)
  | r :: q, p, k, hl, hp => by
    simp only [List.length_cons] at hl
    have hlen : (p ++ r :: q).length = p.length + (q.length + 1) := by simp
    have hd : (p ++ r :: q).getD p.length [] = r := by simp
    have e : p ++ r :: q = (p ++ [r]) ++ q := by simp
    by_cases hk : (gi r 0).int = k
    · refine RetN.stop (x := 0) (d' := [.i (p.length : Nat)]) (Ret.toEq ?_) (.inl ⟨rfl, ⟨r, List.mem_cons_self, hk⟩, _, rfl⟩)
      unfold st_slices_Index_int_2
      (dsimp +instances only [gi0,gis,row1,rows1,int1,str1,bool1])
      simp only [Int.toNat_natCast, hd]
      refine Ret.pos (by (first|rfl|assumption|(simp only [inI,sl]<;>omega))) (Ret.pos (by (first|rfl|assumption|(simp only [inI,sl]<;>omega))) (Ret.pos (bf_true hk.symm) (Ret.some rfl)))
    · have ih := idx_runs q (p ++ [r]) k (by simp; omega) (fun x hx => by
        rcases List.mem_append.1 hx with hx | hx
        · exact hp x hx
        · simp only [List.mem_singleton] at hx
          rw [hx]
          exact hk)
      rw [← e] at ih
      refine RetN.next (Ret.toEq ?_) (ih.mono ?_)
      · unfold st_slices_Index_int_2
        (dsimp +instances only [gi0,gis,row1,rows1,int1,str1,bool1])
        simp only [Int.toNat_natCast, hd]
        refine Ret.pos (by (first|rfl|assumption|(simp only [inI,sl]<;>omega))) (Ret.pos (by (first|rfl|assumption|(simp only [inI,sl]<;>omega))) (Ret.neg (bf_false (Ne.symm hk)) (Ret.pos (by (first|rfl|assumption|(simp only [inI,sl]<;>omega))) (Ret.some ?_))))
        simp
      · rintro c g (⟨rfl, ⟨x, hx, hx2⟩, n, rfl⟩ | ⟨rfl, h⟩)
        · exact .inl ⟨rfl, ⟨x, List.mem_cons_of_mem _ hx, hx2⟩, n, rfl⟩
        · refine .inr ⟨rfl, fun x hx => ?_⟩
          rcases List.mem_cons.1 hx with rfl | hx
          · exact hk
          · exact h x hx
theorem contains_int (n : List (List G)) (k : Int) (hl : n.length < 100000) : Ret (F_slices_Contains_int [.l n, .i k]) fun g => ∃ b, g = [.t b] ∧ (b = true ↔ ∃ r ∈ n, (gi r 0).int = k) := by
  unfold F_slices_Contains_int
  (dsimp +instances only [gi0,gis,row1,rows1,int1,str1,bool1])
  refine Ret.call (P := fun g => (∃ j : Nat, g = [.i (j : Int)] ∧ ∃ r ∈ n, (gi r 0).int = k) ∨ (g = [.i (-1)] ∧ ∀ r ∈ n, (gi r 0).int ≠ k)) ?_ ?_
  · unfold F_slices_Index_int
    (dsimp +instances only [gi0,gis,row1,rows1,int1,str1,bool1])
    have h := idx_runs n [] k (by simpa using hl) (by simp)
    simp only [List.nil_append, List.length_nil] at h
    refine Ret.loop (h.to (by omega)) rfl ?_
    rintro c g (⟨rfl, hx, j, rfl⟩ | ⟨rfl, hx⟩)
    · exact Ret.pos rfl (Ret.some (.inl ⟨j, rfl, hx⟩))
    · exact Ret.neg rfl (Ret.some (.inr ⟨rfl, hx⟩))
  · rintro g (⟨j, rfl, hx⟩ | ⟨rfl, hx⟩)
    · refine Ret.some ⟨_, rfl, ⟨fun _ => hx, fun _ => ?_⟩⟩
      simp only [gi0, int1, leI_eq, decide_eq_true_eq]
      omega
    · refine Ret.some ⟨_, rfl, ⟨fun h => by simp [gi0, int1, leI_eq] at h, fun ⟨r, h1, h2⟩ => (hx r h1 h2).elim⟩⟩
theorem left_runs (l y n : List (List G)) (e : Int) : ∀ (q p D out N0 : List (List G)), (∀ z ∈ p ++ q, Chg Con z) → p.length + q.length < 90000 → D.length ≤ p.length → (∀ r ∈ N0, (gi r 0).int < (p.length : Int)) → n = N0 ++ refs q p.length out → n.length < 100000 →
    RetN st_pilekeep2_ChangesCanGoBack_9 [.l D, .l l, .l y, .l n, .i e, .l (p ++ q), .i ((p ++ q).length : Nat), .i (p.length : Nat)] (q.length + 1) fun c g => c = 0 ∧ g = [.l (D ++ acc q out), .l l, .l y, .i e]
  | [], p, D, out, N0, hc, hl, hD, hN, hn, hnl => by
    refine RetN.stop (x := 0) (d' := [.l D, .l l, .l y, .i e]) (Ret.toEq ?_) ⟨rfl, by simp [acc]⟩
    unfold st_pilekeep2_ChangesCanGoBack_9
    (dsimp +instances only [gi0,gis,row1,rows1,int1,str1,bool1])
    exact Ret.neg (by simp [ltI_eq]) (Ret.pos (by (first|rfl|assumption|(simp only [inI,sl]<;>omega))) (Ret.some rfl))
  | z :: q, p, D, out, N0, hc, hl, hD, hN, hn, hnl => by
    simp only [List.length_cons] at hl
    have hz : Chg Con z := hc z (by simp)
    have hlen : (p ++ z :: q).length = p.length + (q.length + 1) := by simp
    have hd : (p ++ z :: q).getD p.length [] = z := by simp
    have e1 : p ++ z :: q = (p ++ [z]) ++ q := by simp
    have e2 : (p ++ [z]).length = p.length + 1 := by simp
    have e3 : ((p.length + 1 : Nat) : Int) = (p.length : Int) + 1 := by omega
    cases h : refStep out (kOf z) (wOf z) (sOf z) with
    | none =>
      have hn' : n = (N0 ++ [[.i (p.length : Nat)]]) ++ refs q (p.length + 1) out := by
        rw [hn]
        simp only [refs, h]
        simp
      have ih := left_runs l y n e q (p ++ [z]) D out (N0 ++ [[.i (p.length : Nat)]]) (by rw [← e1]; exact hc) (by simp; omega) (by simp; omega) (fun r hr => by
        rcases List.mem_append.1 hr with hr | hr
        · have := hN r hr
          simp
          omega
        · simp only [List.mem_singleton] at hr
          subst hr
          simp [gi0, int1]
          omega) (by rw [e2]; exact hn') hnl
      have ea : acc (z :: q) out = acc q out := by simp only [acc, h]
      rw [ea]
      rw [← e1, e2, e3] at ih
      refine RetN.next (Ret.toEq ?_) ih
      unfold st_pilekeep2_ChangesCanGoBack_9
      (dsimp +instances only [gi0,gis,row1,rows1,int1,str1,bool1])
      simp only [Int.toNat_natCast, hd, hz.eta]
      refine Ret.pos (by (first|rfl|assumption|(simp only [inI,sl]<;>omega))) (Ret.pos (by (first|rfl|assumption|(simp only [inI,sl]<;>omega))) ?_)
      refine Ret.call (contains_int n (p.length : Nat) hnl) ?_
      rintro _ ⟨b, rfl, hb⟩
      have hb : b = true := hb.2 ⟨[.i (p.length : Nat)], by rw [hn']; simp, rfl⟩
      subst hb
      refine Ret.neg rfl ?_
      (repeat(first|(refine Ret.pos ?_ ?_;(first|rfl|assumption|(simp only [inI,sl]<;>omega)))|(refine Ret.neg ?_ ?_;(first|rfl|assumption|(simp only [inI,sl]<;>omega)))))
      exact Ret.some rfl
    | some o =>
      have hn' : n = N0 ++ refs q (p.length + 1) o := by
        rw [hn]
        simp only [refs, h]
      have ih := left_runs l y n e q (p ++ [z]) (D ++ [z]) o N0 (by rw [← e1]; exact hc) (by simp; omega) (by simp; omega) (fun r hr => by
        have := hN r hr
        simp
        omega) (by rw [e2]; exact hn') hnl
      have ea : D ++ acc (z :: q) out = (D ++ [z]) ++ acc q o := by simp only [acc, h]; simp
      rw [ea]
      rw [← e1, e2, e3] at ih
      refine RetN.next (Ret.toEq ?_) ih
      unfold st_pilekeep2_ChangesCanGoBack_9
      (dsimp +instances only [gi0,gis,row1,rows1,int1,str1,bool1])
      simp only [Int.toNat_natCast, hd, hz.eta]
      refine Ret.pos (by (first|rfl|assumption|(simp only [inI,sl]<;>omega))) (Ret.pos (by (first|rfl|assumption|(simp only [inI,sl]<;>omega))) ?_)
      refine Ret.call (contains_int n (p.length : Nat) hnl) ?_
      rintro _ ⟨b, rfl, hb⟩
      have hb : b = false := Bool.eq_false_iff.2 fun ht => by
        obtain ⟨r, h1, h2⟩ := hb.1 ht
        rw [hn'] at h1
        rcases List.mem_append.1 h1 with h1 | h1
        · have := hN r h1
          omega
        · obtain ⟨k, rfl, h3⟩ := refs_ge q (p.length + 1) o r h1
          simp only [gi0, int1] at h2
          omega
      subst hb
      refine Ret.pos rfl ?_
      have hDl : (D ++ [z]).length = D.length + 1 := by simp
      refine Ret.pos (by simp; omega) (Ret.pos (by (first|rfl|assumption|(simp only [inI,sl]<;>omega))) (Ret.pos (by simp) (Ret.some rfl)))
end
end Go.Proofs.SYtpfhjchbegdgdaaGreatDoor

namespace Go.Proofs.SYtpfhjchbegdgdaaGreatDoor
open Go Go.AL Go.Proofs
noncomputable section
def newC : List G := [.i 345686399999, .i 1, .s (⟨#[98, 50, 48]⟩ : ByteArray), .s (⟨#[107, 49, 97, 98]⟩ : ByteArray), .i 0, .i 0, .s (⟨#[]⟩ : ByteArray), .s (⟨#[]⟩ : ByteArray)]
def chIn : List G := .i 1 :: .i 1 :: (zC ++ newC)
def chOut : List G := .i 2 :: .i 2 :: (newC ++ zC)
theorem newC_Con : Con newC := ⟨345686399999, 1, _, _, 0, 0, _, _, rfl, ⟨by omega, by omega⟩, ⟨by omega, by omega⟩, ⟨by omega, by omega⟩, ⟨by omega, by omega⟩, by simp [bands], by simp [calls], by simp [names], by simp [names]⟩
theorem chBoth : ∀ z ∈ [chIn, chOut], Chg Con z := fun z hz => by
  simp only [List.mem_cons, List.not_mem_nil, or_false] at hz
  rcases hz with rfl | rfl
  · exact ⟨1, 1, zC, newC, rfl, ⟨by omega, by omega⟩, ⟨by omega, by omega⟩, zC_ConM.to, newC_Con⟩
  · exact ⟨2, 2, newC, zC, rfl, ⟨by omega, by omega⟩, ⟨by omega, by omega⟩, newC_Con, zC_ConM.to⟩
theorem chBoth_right : faultCh [chIn, chOut] = 0 := by kernel_rfl
theorem in_out {l : List (List G)} (hC : ∀ z ∈ l, Con z) (hat : ∀ z ∈ l, (gi z 0).int ≠ 345686399999) : chFold [chIn, chOut] 0 l [] = (l, []) := by
  have hk : ∀ o ∈ l, ordC o newC ≠ 0 := fun o ho e => by
    have h := ordC_key.1 e
    unfold keyOf at h
    simp only [List.cons.injEq, G.i.injEq] at h
    exact hat o ho h.1
  have h1 : refStep l 1 zC newC = some (l ++ [newC]) := by
    unfold refStep
    rw [left_all l zC rfl]
    have : (l.any fun o => !((1 : Int) == 2) && (ordC o newC == 0)) = false := by
      rw [List.any_eq_false]
      intro o ho
      simpa using hk o ho
    rw [this]
    rfl
  have h2 : leftOf' (l ++ [newC]) 2 newC = l := by
    unfold leftOf'
    rw [List.filter_append]
    have a1 : l.filter (fun o => !(!((2 : Int) == 1) && rowEq KContact o newC)) = l := by
      rw [List.filter_eq_self]
      intro o ho
      cases hb : rowEq KContact o newC with
      | false => simp
      | true => exact (hat o ho (by rw [rowEq_con (hC o ho) newC_Con hb]; rfl)).elim
    have a2 : [newC].filter (fun o => !(!((2 : Int) == 1) && rowEq KContact o newC)) = [] := by
      simp [List.filter_cons, con_self]
    rw [a1, a2, List.append_nil]
  have h3 : refStep (l ++ [newC]) 2 newC zC = some l := by
    unfold refStep
    rw [h2]
    have b1 : Nat.beq l.length (l ++ [newC]).length = false := by
      cases hb : Nat.beq l.length (l ++ [newC]).length with
      | false => rfl
      | true =>
        have := Nat.eq_of_beq_eq_true hb
        simp at this
    have b2 : (l.any fun o => !((2 : Int) == 2) && (ordC o zC == 0)) = false := by
      rw [List.any_eq_false]
      intro o ho
      simp
    rw [b1, b2]
    rfl
  have k1 : refStep l (kOf chIn) (wOf chIn) (sOf chIn) = some (l ++ [newC]) := h1
  have k2 : refStep (l ++ [newC]) (kOf chOut) (wOf chOut) (sOf chOut) = some l := h3
  simp only [chFold, k1, k2]
theorem equal8 (a : List (List G)) (h : ∀ r ∈ a, Con r) (hn : a.length < 100000) : F_slices_Equal_Contact [.l a, .l a] = some [.t true] := by
  have := equalF_eq kds8 a a (fun r hr => (h r hr).row) (fun r hr => (h r hr).row) hn
  rw [eqlA_refl rfl] at this
  exact this
theorem changed0 (l ch : List (List G)) (hl : ∀ z ∈ l, Con z) (hc : ∀ z ∈ ch, Chg Con z) (h : l.length + ch.length ≤ 14) (h1 : faultLog l = 0) (h2 : faultCh ch = 0) :
    F_log_Changed [.l l, .l ch] = some [.l (sortA (ltC ordC) (chFold ch 0 l []).1), .l (chFold ch 0 l []).2, .i 0] := by
  have := changed_ok l ch hl hc h
  rw [h1, h2] at this
  exact this
theorem sort_log {l : List (List G)} (h : faultLog l = 0) : sortA (ltC ordC) l = l :=
  sortA_id linC (fun _ _ => trivial) (same_of (log_keys h)) (List.Pairwise.imp (fun {a b} h => ltc_asym (ltc_iff.2 h)) (log_rising h))
theorem changesCanGoBack_data (rows : List (List G)) : F_pilekeep2_ChangesCanGoBack [.l rows] = some [.t true] := by
  have hready : F_pilekeep2_ready [] = some [.t true] := rfl
  refine Ret.toEq ?_
  unfold F_pilekeep2_ChangesCanGoBack
  (dsimp +instances only [gi0,gis,row1,rows1,int1,str1,bool1])
  refine Ret.call (r_Range rows 0 0 8 (by omega) (by omega) (by omega) (by omega) (by omega)) ?_
  rintro _ ⟨v, rfl, hv0, hv1⟩
  (dsimp +instances only [gi0,gis,row1,rows1,int1,str1,bool1])
  refine Ret.call (r_Right rows _ v (by omega) (by omega) hv0 (by omega)) ?_
  rintro _ ⟨a1, l, rfl, ha0, ha1, hl, hll, hfl⟩
  (dsimp +instances only [gi0,gis,row1,rows1,int1,str1,bool1])
  have hC : ∀ z ∈ l, Con z := fun z hz => (hl z hz).to
  have hat : ∀ z ∈ l, (gi z 0).int ≠ 345686399999 := fun z hz => by
    obtain ⟨t, m, b, c, s, h, x, y, rfl, ht, _⟩ := hl z hz
    unfold tightT at ht
    simp only [gi0, int1]
    omega
  refine Ret.call (r_Changes rows l a1 (by omega) (by omega) hl (by omega)) ?_
  rintro _ ⟨a2, cs, rfl, _, _, hcs, hcl⟩
  (dsimp +instances only [gi0,gis,row1,rows1,int1,str1,bool1])
  have hc : ∀ z ∈ cs, Chg Con z := fun z hz => (hcs z hz).to fun _ h => h.to
  refine Ret.call (Ret.eq (faultCh_eq cs (by omega) hc)) ?_
  rintro _ rfl
  (dsimp +instances only [gi0,gis,row1,rows1,int1,str1,bool1])
  refine Ret.test (fun _ => ?_) fun hf => ?_
  · exact Ret.call (Ret.eq hready) fun _ h => by
      subst h
      exact Ret.some rfl
  have hf : faultCh cs = 0 := by simpa using hf
  have e1 := changed0 l cs hC hc (by omega) hfl hf
  have hd : ∀ z ∈ acc cs l, Chg Con z := fun z hz => hc z ((acc_sub cs l).subset hz)
  have hdl := (acc_sub cs l).length_le
  have e2 := changed0 l (acc cs l) hC hd (by omega) hfl (faultCh_sub (acc_sub cs l) hc (by omega) hf)
  rw [fold_acc cs 0 0 l [] []] at e2
  have e3 := changed0 l [chIn, chOut] hC chBoth (by simp; omega) hfl chBoth_right
  rw [in_out hC hat, sort_log hfl] at e3
  obtain ⟨o1, o2, o3⟩ := chFold_con (i := 0) (ref := []) hc hC
  have hy : ∀ z ∈ sortA (ltC ordC) (chFold cs 0 l []).1, Con z := sortA_all o1
  have hyl := sortA_length (ltC ordC) (chFold cs 0 l []).1
  have hn := fold_refs cs 0 l []
  generalize sortA (ltC ordC) (chFold cs 0 l []).1 = y at *
  generalize (chFold cs 0 l []).2 = n at *
  refine Ret.call (Ret.eq e1) ?_
  rintro _ rfl
  (dsimp +instances only [gi0,gis,row1,rows1,int1,str1,bool1])
  have lr := left_runs l y n 0 cs [] [] l [] (by simpa using hc) (by simp; omega) (by simp) (by simp) hn (by simp at o3; omega)
  simp only [List.nil_append, List.length_nil] at lr
  refine Ret.loop (lr.to (by omega)) rfl ?_
  rintro _ _ ⟨rfl, rfl⟩
  (dsimp +instances only [gi0,gis,row1,rows1,int1,str1,bool1])
  refine Ret.pos (by (first|rfl|assumption|(simp only [inI,sl]<;>omega))) ?_
  refine Ret.call (Ret.eq e2) ?_
  rintro _ rfl
  (dsimp +instances only [gi0,gis,row1,rows1,int1,str1,bool1])
  refine Ret.call (Ret.eq (errs_eq [0, 0] (by simp))) ?_
  rintro _ rfl
  refine Ret.neg rfl (Ret.neg rfl ?_)
  refine Ret.call (Ret.eq (equal8 y hy (by omega))) ?_
  rintro _ rfl
  refine Ret.neg rfl ?_
  refine Ret.call (Ret.eq e3) ?_
  rintro _ rfl
  refine Ret.pos rfl (Ret.pos rfl ?_)
  refine Ret.call (Ret.eq (equal8 l hC (by omega))) ?_
  rintro _ rfl
  refine Ret.pos rfl ?_
  exact Ret.call (Ret.eq hready) fun _ h => by
    subst h
    exact Ret.some rfl
end
end Go.Proofs.SYtpfhjchbegdgdaaGreatDoor
