/-
  What is proved here: what the methods of the stream give on data. No condition.
-/
import Derived.Test.YtpfhjchbegdgdaaGreatDoorML3
import Derived.Test.YtpfhjchbegdgdaaGreatDoorME
set_option linter.unusedSimpArgs false
set_option linter.unusedVariables false
namespace Go.Proofs.SYtpfhjchbegdgdaaGreatDoor
open Go Go.AL Go.Proofs

theorem r_Below (x n : Int) (h0 : 1 ≤ n) (h1 : n ≤ 1099511627776) : Ret (F_pilemake_Below [.i x, .i n]) fun g => ∃ v, g = [.i v] ∧ 0 ≤ v ∧ v < n := by
  unfold F_pilemake_Below
  (dsimp +instances only [gi0,gis,row1,rows1,int1,str1,bool1])
  have ha := Int.tmod_lt_of_pos x (by omega : 0 < n)
  have hb := Int.lt_tmod_of_pos x (by omega : 0 < n)
  (repeat(first|(refine Ret.pos ?_ ?_;(first|rfl|assumption|(simp only [inI,sl]<;>omega)))|(refine Ret.neg ?_ ?_;(first|rfl|assumption|(simp only [inI,sl]<;>omega)))))
  refine Ret.test (fun h => ?_) fun h => ?_
  · simp only [ltI_eq, decide_eq_true_eq] at h
    (repeat(first|(refine Ret.pos ?_ ?_;(first|rfl|assumption|(simp only [inI,sl]<;>omega)))|(refine Ret.neg ?_ ?_;(first|rfl|assumption|(simp only [inI,sl]<;>omega)))))
    exact Ret.some ⟨_, rfl, by omega, by omega⟩
  · simp only [ltI_eq, decide_eq_false_iff_not] at h
    exact Ret.some ⟨_, rfl, by omega, by omega⟩

/-- A number of the stream; how far it is then. -/
theorem r_Next (l : List (List G)) (a n : Int) (ha : 0 ≤ a) (ha1 : a ≤ 1000000) (h0 : 1 ≤ n) (h1 : n ≤ 1099511627776) :
    Ret (F_pilemake_Stream_Next [.l l, .i a, .i n]) fun g => ∃ v, g = [.l l, .i (a + 1), .i v] ∧ 0 ≤ v ∧ v < n := by
  unfold F_pilemake_Stream_Next
  (dsimp +instances only [gi0,gis,row1,rows1,int1,str1,bool1])
  have ea : a + 1 - 1 = a := by omega
  simp only [ea]
  by_cases hl : l.length = 0
  · (repeat(first|(refine Ret.pos ?_ ?_;(first|rfl|assumption|(simp only [inI,sl]<;>omega)))|(refine Ret.neg ?_ ?_;(first|rfl|assumption|(simp only [inI,sl]<;>omega)))))
    refine Ret.call (r_Below _ n h0 h1) ?_
    rintro _ ⟨v, rfl, h2, h3⟩
    (dsimp +instances only [gi0,gis,row1,rows1,int1,str1,bool1])
    exact Ret.some ⟨v, rfl, h2, h3⟩
  · have hp : (0 : Int) < (l.length : Int) := by omega
    have d0 : 0 ≤ Int.tdiv a l.length := Int.tdiv_nonneg ha (by omega)
    have d1 : Int.tdiv a l.length ≤ a := by
      rw [Int.tdiv_eq_ediv_of_nonneg ha]
      exact Int.ediv_le_self _ ha
    have m0 : 0 ≤ Int.tmod a l.length := by
      rw [Int.tmod_eq_emod_of_nonneg ha]
      exact Int.emod_nonneg _ (by omega)
    have m1 : Int.tmod a l.length < l.length := Int.tmod_lt_of_pos a hp
    have m2 : Int.tmod a l.length ≤ a := by
      rw [Int.tmod_eq_emod_of_nonneg ha]
      have := Int.mul_ediv_add_emod a l.length
      have h4 : 0 ≤ (l.length : Int) * (a / l.length) := Int.mul_nonneg (by omega) (Int.ediv_nonneg ha (by omega))
      omega
    generalize hq : Int.tdiv a l.length = q at *
    generalize hr : Int.tmod a l.length = r at *
    have p0 : 0 ≤ q * (7919 + r) := Int.mul_nonneg d0 (by omega)
    have p1 : q * (7919 + r) ≤ 1000000 * 2000000 := Int.mul_le_mul (by omega) (by omega) (by omega) (by omega)
    generalize hz : q * (7919 + r) = z at *
    (repeat(first|(refine Ret.pos ?_ ?_;(first|rfl|assumption|(simp only [inI,sl]<;>omega)))|(refine Ret.neg ?_ ?_;(first|rfl|assumption|(simp only [inI,sl]<;>omega)))))
    refine Ret.call (r_Below _ 1073741824 (by omega) (by omega)) ?_
    rintro _ ⟨u, rfl, h2, h3⟩
    (dsimp +instances only [gi0,gis,row1,rows1,int1,str1,bool1])
    (repeat(first|(refine Ret.pos ?_ ?_;(first|rfl|assumption|(simp only [inI,sl]<;>omega)))|(refine Ret.neg ?_ ?_;(first|rfl|assumption|(simp only [inI,sl]<;>omega)))))
    refine Ret.call (r_Below _ n h0 h1) ?_
    rintro _ ⟨v, rfl, h4, h5⟩
    (dsimp +instances only [gi0,gis,row1,rows1,int1,str1,bool1])
    exact Ret.some ⟨v, rfl, h4, h5⟩

theorem r_Range (l : List (List G)) (a lo hi : Int) (ha : 0 ≤ a) (ha1 : a ≤ 1000000) (h0 : lo ≤ hi) (h1 : -1000000000 ≤ lo) (h2 : hi ≤ 1000000000) :
    Ret (F_pilemake_Stream_Range [.l l, .i a, .i lo, .i hi]) fun g => ∃ v, g = [.l l, .i (a + 1), .i v] ∧ lo ≤ v ∧ v ≤ hi := by
  unfold F_pilemake_Stream_Range
  (dsimp +instances only [gi0,gis,row1,rows1,int1,str1,bool1])
  (repeat(first|(refine Ret.pos ?_ ?_;(first|rfl|assumption|(simp only [inI,sl]<;>omega)))|(refine Ret.neg ?_ ?_;(first|rfl|assumption|(simp only [inI,sl]<;>omega)))))
  refine Ret.call (r_Next l a _ ha ha1 (by omega) (by omega)) ?_
  rintro _ ⟨v, rfl, h3, h4⟩
  (dsimp +instances only [gi0,gis,row1,rows1,int1,str1,bool1])
  (repeat(first|(refine Ret.pos ?_ ?_;(first|rfl|assumption|(simp only [inI,sl]<;>omega)))|(refine Ret.neg ?_ ?_;(first|rfl|assumption|(simp only [inI,sl]<;>omega)))))
  exact Ret.some ⟨_, rfl, by omega, by omega⟩

theorem getD_mem' {l : List (List G)} {v : Int} (h0 : 0 ≤ v) (h1 : v < l.length) : l.getD v.toNat [] ∈ l := by
  have : v.toNat < l.length := by omega
  rw [List.getD_eq_getElem?_getD, List.getElem?_eq_getElem this]
  exact List.getElem_mem this

theorem r_Pick (P : Int → Prop) (l : List (List G)) (a : Int) (xs : List (List G)) (ha : 0 ≤ a) (ha1 : a ≤ 1000000) (h0 : 1 ≤ xs.length) (h1 : xs.length ≤ 1000000) (hP : ∀ x ∈ xs, P (gi x 0).int) :
    Ret (F_pilemake_Stream_Pick [.l l, .i a, .l xs]) fun g => ∃ v, g = [.l l, .i (a + 1), .i v] ∧ P v := by
  unfold F_pilemake_Stream_Pick
  (dsimp +instances only [gi0,gis,row1,rows1,int1,str1,bool1])
  refine Ret.call (r_Next l a _ ha ha1 (by omega) (by omega)) ?_
  rintro _ ⟨v, rfl, h3, h4⟩
  (dsimp +instances only [gi0,gis,row1,rows1,int1,str1,bool1])
  (repeat(first|(refine Ret.pos ?_ ?_;(first|rfl|assumption|(simp only [inI,sl]<;>omega)))|(refine Ret.neg ?_ ?_;(first|rfl|assumption|(simp only [inI,sl]<;>omega)))))
  exact Ret.some ⟨_, rfl, hP _ (getD_mem' h3 h4)⟩

theorem r_Some (P : ByteArray → Prop) (l : List (List G)) (a : Int) (xs : List (List G)) (ha : 0 ≤ a) (ha1 : a ≤ 1000000) (h0 : 1 ≤ xs.length) (h1 : xs.length ≤ 1000000) (hP : ∀ x ∈ xs, P (gi x 0).str) :
    Ret (F_pilemake_Stream_Some [.l l, .i a, .l xs]) fun g => ∃ v, g = [.l l, .i (a + 1), .s v] ∧ P v := by
  unfold F_pilemake_Stream_Some
  (dsimp +instances only [gi0,gis,row1,rows1,int1,str1,bool1])
  refine Ret.call (r_Next l a _ ha ha1 (by omega) (by omega)) ?_
  rintro _ ⟨v, rfl, h3, h4⟩
  (dsimp +instances only [gi0,gis,row1,rows1,int1,str1,bool1])
  (repeat(first|(refine Ret.pos ?_ ?_;(first|rfl|assumption|(simp only [inI,sl]<;>omega)))|(refine Ret.neg ?_ ?_;(first|rfl|assumption|(simp only [inI,sl]<;>omega)))))
  exact Ret.some ⟨_, rfl, hP _ (getD_mem' h3 h4)⟩

theorem r_Flip (l : List (List G)) (a n : Int) (ha : 0 ≤ a) (ha1 : a ≤ 1000000) (h0 : 1 ≤ n) (h1 : n ≤ 1000000) :
    Ret (F_pilemake_Stream_Flip [.l l, .i a, .i n]) fun g => ∃ b, g = [.l l, .i (a + 1), .t b] := by
  unfold F_pilemake_Stream_Flip
  (dsimp +instances only [gi0,gis,row1,rows1,int1,str1,bool1])
  refine Ret.call (r_Next l a _ ha ha1 (by omega) (by omega)) ?_
  rintro _ ⟨v, rfl, h3, h4⟩
  exact Ret.some ⟨_, rfl⟩

/-- A number that need not be between the bounds. -/
theorem r_Odd (l : List (List G)) (a lo hi : Int) (ha : 0 ≤ a) (ha1 : a ≤ 900000) (h0 : lo ≤ hi) (h1 : -1000000000 ≤ lo) (h2 : hi ≤ 1000000000) :
    Ret (F_pilemake_Stream_Odd [.l l, .i a, .i lo, .i hi]) fun g => ∃ v, g = [.l l, .i (a + 2), .i v] ∧ -1099511627776 ≤ v ∧ v ≤ 1099511627776 := by
  unfold F_pilemake_Stream_Odd
  (dsimp +instances only [gi0,gis,row1,rows1,int1,str1,bool1])
  have e2 : a + 1 + 1 = a + 2 := by omega
  refine Ret.call (r_Flip l a 12 ha (by omega) (by omega) (by omega)) ?_
  rintro _ ⟨b, rfl⟩
  (dsimp +instances only [gi0,gis,row1,rows1,int1,str1,bool1])
  cases b with
  | true =>
    (repeat(first|(refine Ret.pos ?_ ?_;(first|rfl|assumption|(simp only [inI,sl]<;>omega)))|(refine Ret.neg ?_ ?_;(first|rfl|assumption|(simp only [inI,sl]<;>omega)))))
    refine Ret.call (r_Pick (fun v => -1099511627776 ≤ v ∧ v ≤ 1099511627776) l (a + 1) _ (by omega) (by omega) (by simp) (by simp) ?_) ?_
    · intro x hx
      simp only [List.mem_cons, List.not_mem_nil, or_false] at hx
      rcases hx with rfl | rfl | rfl | rfl | rfl | rfl <;> (dsimp +instances only [gi0,gis,row1,rows1,int1,str1,bool1]) <;> omega
    · rintro _ ⟨v, rfl, h3, h4⟩
      (dsimp +instances only [gi0,gis,row1,rows1,int1,str1,bool1])
      exact Ret.some ⟨v, by rw [e2], h3, h4⟩
  | false =>
    (repeat(first|(refine Ret.pos ?_ ?_;(first|rfl|assumption|(simp only [inI,sl]<;>omega)))|(refine Ret.neg ?_ ?_;(first|rfl|assumption|(simp only [inI,sl]<;>omega)))))
    refine Ret.call (r_Range l (a + 1) lo hi (by omega) (by omega) h0 h1 h2) ?_
    rintro _ ⟨v, rfl, h3, h4⟩
    (dsimp +instances only [gi0,gis,row1,rows1,int1,str1,bool1])
    exact Ret.some ⟨v, by rw [e2], by omega, by omega⟩

end Go.Proofs.SYtpfhjchbegdgdaaGreatDoor

namespace Go.Proofs.SYtpfhjchbegdgdaaGreatDoor
open Go Go.AL Go.Proofs

noncomputable def inL (L : List ByteArray) (s : ByteArray) : Bool := L.any fun x => eqS x s
theorem inL_mem {L : List ByteArray} {s : ByteArray} (h : inL L s = true) : s ∈ L := by
  obtain ⟨x, hx, he⟩ := List.any_eq_true.1 h
  exact eqS_eq he ▸ hx

theorem r_PickB (lo hi : Int) (l : List (List G)) (a : Int) (xs : List (List G)) (ha : 0 ≤ a) (ha1 : a ≤ 1000000) (h0 : (Nat.ble 1 xs.length && Nat.ble xs.length 1000000) = true) (hP : (xs.all fun x => leI lo (gi x 0).int && leI (gi x 0).int hi) = true) :
    Ret (F_pilemake_Stream_Pick [.l l, .i a, .l xs]) fun g => ∃ v, g = [.l l, .i (a + 1), .i v] ∧ lo ≤ v ∧ v ≤ hi := by
  simp only [Bool.and_eq_true, Nat.ble_eq] at h0
  refine r_Pick (fun v => lo ≤ v ∧ v ≤ hi) l a xs ha ha1 h0.1 h0.2 fun x hx => ?_
  have := List.all_eq_true.1 hP x hx
  simpa only [leI_eq, Bool.and_eq_true, decide_eq_true_eq] using this
theorem r_SomeB (L : List ByteArray) (l : List (List G)) (a : Int) (xs : List (List G)) (ha : 0 ≤ a) (ha1 : a ≤ 1000000) (h0 : (Nat.ble 1 xs.length && Nat.ble xs.length 1000000) = true) (hP : (xs.all fun x => inL L (gi x 0).str) = true) :
    Ret (F_pilemake_Stream_Some [.l l, .i a, .l xs]) fun g => ∃ v, g = [.l l, .i (a + 1), .s v] ∧ v ∈ L := by
  simp only [Bool.and_eq_true, Nat.ble_eq] at h0
  exact r_Some (fun v => v ∈ L) l a xs ha ha1 h0.1 h0.2 fun x hx => inL_mem (List.all_eq_true.1 hP x hx)

noncomputable def calls : List ByteArray := [⟨#[]⟩, ⟨#[107, 49]⟩, ⟨#[75, 49, 65, 66]⟩, ⟨#[107, 49, 97, 98, 47]⟩, ⟨#[49, 97]⟩, ⟨#[107, 49, 97, 98, 47, 109, 109, 47, 112]⟩, ⟨#[107, 49, 97, 98]⟩, ⟨#[107, 49, 97, 97]⟩, ⟨#[107, 49, 97, 98, 47, 52]⟩,
  ⟨#[111, 104, 50, 97, 98, 99]⟩, ⟨#[111, 104, 50, 97, 98, 100]⟩, ⟨#[119, 49, 97, 119]⟩, ⟨#[110, 49, 109, 109]⟩, ⟨#[103, 51, 120, 121, 122, 47, 112]⟩]
noncomputable def bands : List ByteArray := [⟨#[]⟩, ⟨#[66]⟩, ⟨#[98, 50, 48]⟩, ⟨#[98, 52, 48]⟩]
noncomputable def names : List ByteArray := [⟨#[]⟩, ⟨#[65]⟩, ⟨#[49]⟩, ⟨#[102, 105, 110]⟩, ⟨#[117, 115, 97]⟩]

noncomputable def small (n : Int) : Prop := -2000000000000 ≤ n ∧ n ≤ 2000000000000
/-- A contact as the stream makes it. -/
noncomputable def Con (r : List G) : Prop := ∃ (t m : Int) (b c : ByteArray) (s h : Int) (x y : ByteArray), r = [.i t, .i m, .s b, .s c, .i s, .i h, .s x, .s y] ∧ small t ∧ small m ∧ small s ∧ small h ∧ b ∈ bands ∧ c ∈ calls ∧ x ∈ names ∧ y ∈ names

noncomputable def tight (n : Int) : Prop := -1900000000000 ≤ n ∧ n ≤ 1900000000000
/-- The same, with numbers that may be counted up. -/
noncomputable def ConT (r : List G) : Prop := ∃ (t m : Int) (b c : ByteArray) (s h : Int) (x y : ByteArray), r = [.i t, .i m, .s b, .s c, .i s, .i h, .s x, .s y] ∧ tight t ∧ tight m ∧ tight s ∧ tight h ∧ b ∈ bands ∧ c ∈ calls ∧ x ∈ names ∧ y ∈ names
theorem tight.to {n : Int} (h : tight n) : small n := ⟨by have := h.1; omega, by have := h.2; omega⟩
theorem ConT.to {r : List G} (h : ConT r) : Con r := by
  obtain ⟨t, m, b, c, s, h, x, y, e, h1, h2, h3, h4, h5⟩ := h
  exact ⟨t, m, b, c, s, h, x, y, e, h1.to, h2.to, h3.to, h4.to, h5⟩

theorem Con.eta {r : List G} (h : Con r) : gEta KContact r = r := by
  obtain ⟨t, m, b, c, s, h, x, y, rfl, _⟩ := h
  rfl

theorem r_ACall (l : List (List G)) (a : Int) (ha : 0 ≤ a) (ha1 : a ≤ 900000) : Ret (F_pilemake_Stream_ACall [.l l, .i a]) fun g => ∃ v, g = [.l l, .i (a + 2), .s v] ∧ v ∈ calls := by
  unfold F_pilemake_Stream_ACall
  (dsimp +instances only [gi0,gis,row1,rows1,int1,str1,bool1])
  have e2 : a + 1 + 1 = a + 2 := by omega
  refine Ret.call (r_Flip l a 60 ha (by omega) (by omega) (by omega)) ?_
  rintro _ ⟨b, rfl⟩
  (dsimp +instances only [gi0,gis,row1,rows1,int1,str1,bool1])
  cases b with
  | true =>
    (repeat(first|(refine Ret.pos ?_ ?_;(first|rfl|assumption|(simp only [inI,sl]<;>omega)))|(refine Ret.neg ?_ ?_;(first|rfl|assumption|(simp only [inI,sl]<;>omega)))))
    refine Ret.call (r_SomeB calls l (a + 1) _ (by omega) (by omega) (by kernel_rfl) (by kernel_rfl)) ?_
    rintro _ ⟨v, rfl, h⟩
    exact Ret.some ⟨v, by (dsimp +instances only [gi0,gis,row1,rows1,int1,str1,bool1]); rw [e2], h⟩
  | false =>
    (repeat(first|(refine Ret.pos ?_ ?_;(first|rfl|assumption|(simp only [inI,sl]<;>omega)))|(refine Ret.neg ?_ ?_;(first|rfl|assumption|(simp only [inI,sl]<;>omega)))))
    refine Ret.call (r_SomeB calls l (a + 1) _ (by omega) (by omega) (by kernel_rfl) (by kernel_rfl)) ?_
    rintro _ ⟨v, rfl, h⟩
    exact Ret.some ⟨v, by (dsimp +instances only [gi0,gis,row1,rows1,int1,str1,bool1]); rw [e2], h⟩

theorem r_SomeContact (l : List (List G)) (a t : Int) (ha : 0 ≤ a) (ha1 : a ≤ 800000) (ht : tight t) :
    Ret (F_pilemake_Stream_SomeContact [.l l, .i a, .i t]) fun g => ∃ b r, g = [.l l, .i b, .l [r]] ∧ a ≤ b ∧ b ≤ a + 20 ∧ ConT r := by
  unfold tight at ht
  unfold F_pilemake_Stream_SomeContact
  (dsimp +instances only [gi0,gis,row1,rows1,int1,str1,bool1])
  refine Ret.call (r_PickB 1 3 l a _ ha (by omega) (by kernel_rfl) (by kernel_rfl)) ?_
  rintro _ ⟨m, rfl, hm⟩
  (dsimp +instances only [gi0,gis,row1,rows1,int1,str1,bool1])
  refine Ret.call (r_SomeB bands l _ _ (by omega) (by omega) (by kernel_rfl) (by kernel_rfl)) ?_
  rintro _ ⟨bd, rfl, hb⟩
  (dsimp +instances only [gi0,gis,row1,rows1,int1,str1,bool1])
  refine Ret.call (r_ACall l _ (by omega) (by omega)) ?_
  rintro _ ⟨c, rfl, hc⟩
  (dsimp +instances only [gi0,gis,row1,rows1,int1,str1,bool1])
  refine Ret.call (r_PickB 0 7 l _ _ (by omega) (by omega) (by kernel_rfl) (by kernel_rfl)) ?_
  rintro _ ⟨s, rfl, hs⟩
  (dsimp +instances only [gi0,gis,row1,rows1,int1,str1,bool1])
  refine Ret.call (r_PickB 0 9 l _ _ (by omega) (by omega) (by kernel_rfl) (by kernel_rfl)) ?_
  rintro _ ⟨h, rfl, hh⟩
  (dsimp +instances only [gi0,gis,row1,rows1,int1,str1,bool1])
  refine Ret.call (r_SomeB names l _ _ (by omega) (by omega) (by kernel_rfl) (by kernel_rfl)) ?_
  rintro _ ⟨x, rfl, hx⟩
  (dsimp +instances only [gi0,gis,row1,rows1,int1,str1,bool1])
  refine Ret.call (r_SomeB names l _ _ (by omega) (by omega) (by kernel_rfl) (by kernel_rfl)) ?_
  rintro _ ⟨y, rfl, hy⟩
  (dsimp +instances only [gi0,gis,row1,rows1,int1,str1,bool1])
  refine Ret.call (r_Flip l _ 100 (by omega) (by omega) (by omega) (by omega)) ?_
  rintro _ ⟨f, rfl⟩
  (dsimp +instances only [gi0,gis,row1,rows1,int1,str1,bool1])
  cases f with
  | false =>
    (repeat(first|(refine Ret.pos ?_ ?_;(first|rfl|assumption|(simp only [inI,sl]<;>omega)))|(refine Ret.neg ?_ ?_;(first|rfl|assumption|(simp only [inI,sl]<;>omega)))))
    exact Ret.some ⟨_, _, rfl, by omega, by omega, t, m, bd, c, s, h, x, y, rfl, ht, ⟨by omega, by omega⟩, ⟨by omega, by omega⟩, ⟨by omega, by omega⟩, hb, hc, hx, hy⟩
  | true =>
    (repeat(first|(refine Ret.pos ?_ ?_;(first|rfl|assumption|(simp only [inI,sl]<;>omega)))|(refine Ret.neg ?_ ?_;(first|rfl|assumption|(simp only [inI,sl]<;>omega)))))
    refine Ret.call (r_Next l _ 4 (by omega) (by omega) (by omega) (by omega)) ?_
    rintro _ ⟨k, rfl, hk⟩
    (dsimp +instances only [gi0,gis,row1,rows1,int1,str1,bool1])
    by_cases k0 : k = 0
    · subst k0
      (repeat(first|(refine Ret.pos ?_ ?_;(first|rfl|assumption|(simp only [inI,sl]<;>omega)))|(refine Ret.neg ?_ ?_;(first|rfl|assumption|(simp only [inI,sl]<;>omega)))))
      refine Ret.call (r_Odd l _ 0 500 (by omega) (by omega) (by omega) (by omega) (by omega)) ?_
      rintro _ ⟨t', rfl, ht'⟩
      (dsimp +instances only [gi0,gis,row1,rows1,int1,str1,bool1])
      refine Ret.call (r_Odd l _ 1 3 (by omega) (by omega) (by omega) (by omega) (by omega)) ?_
      rintro _ ⟨m', rfl, hm'⟩
      (dsimp +instances only [gi0,gis,row1,rows1,int1,str1,bool1])
      exact Ret.some ⟨_, _, rfl, by omega, by omega, t', m', bd, c, s, h, x, y, rfl, ⟨by omega, by omega⟩, ⟨by omega, by omega⟩, ⟨by omega, by omega⟩, ⟨by omega, by omega⟩, hb, hc, hx, hy⟩
    · refine Ret.neg (by simpa using k0) ?_
      by_cases k1 : k = 1
      · subst k1
        (repeat(first|(refine Ret.pos ?_ ?_;(first|rfl|assumption|(simp only [inI,sl]<;>omega)))|(refine Ret.neg ?_ ?_;(first|rfl|assumption|(simp only [inI,sl]<;>omega)))))
        refine Ret.call (r_SomeB bands l _ _ (by omega) (by omega) (by kernel_rfl) (by kernel_rfl)) ?_
        rintro _ ⟨b', rfl, hb'⟩
        (dsimp +instances only [gi0,gis,row1,rows1,int1,str1,bool1])
        exact Ret.some ⟨_, _, rfl, by omega, by omega, t, m, b', c, s, h, x, y, rfl, ht, ⟨by omega, by omega⟩, ⟨by omega, by omega⟩, ⟨by omega, by omega⟩, hb', hc, hx, hy⟩
      · refine Ret.neg (by simpa using k1) ?_
        by_cases k2 : k = 2
        · subst k2
          (repeat(first|(refine Ret.pos ?_ ?_;(first|rfl|assumption|(simp only [inI,sl]<;>omega)))|(refine Ret.neg ?_ ?_;(first|rfl|assumption|(simp only [inI,sl]<;>omega)))))
          refine Ret.call (r_Odd l _ 0 99999 (by omega) (by omega) (by omega) (by omega) (by omega)) ?_
          rintro _ ⟨s', rfl, hs'⟩
          (dsimp +instances only [gi0,gis,row1,rows1,int1,str1,bool1])
          refine Ret.call (r_Odd l _ 0 99999 (by omega) (by omega) (by omega) (by omega) (by omega)) ?_
          rintro _ ⟨h', rfl, hh'⟩
          (dsimp +instances only [gi0,gis,row1,rows1,int1,str1,bool1])
          exact Ret.some ⟨_, _, rfl, by omega, by omega, t, m, bd, c, s', h', x, y, rfl, ht, ⟨by omega, by omega⟩, ⟨by omega, by omega⟩, ⟨by omega, by omega⟩, hb, hc, hx, hy⟩
        · refine Ret.neg (by simpa using k2) ?_
          refine Ret.call (r_SomeB names l _ _ (by omega) (by omega) (by kernel_rfl) (by kernel_rfl)) ?_
          rintro _ ⟨x', rfl, hx'⟩
          (dsimp +instances only [gi0,gis,row1,rows1,int1,str1,bool1])
          refine Ret.call (r_SomeB names l _ _ (by omega) (by omega) (by kernel_rfl) (by kernel_rfl)) ?_
          rintro _ ⟨y', rfl, hy'⟩
          (dsimp +instances only [gi0,gis,row1,rows1,int1,str1,bool1])
          exact Ret.some ⟨_, _, rfl, by omega, by omega, t, m, bd, c, s, h, x', y', rfl, ht, ⟨by omega, by omega⟩, ⟨by omega, by omega⟩, ⟨by omega, by omega⟩, hb, hc, hx', hy'⟩

end Go.Proofs.SYtpfhjchbegdgdaaGreatDoor

namespace Go.Proofs.SYtpfhjchbegdgdaaGreatDoor
open Go Go.AL Go.Proofs

noncomputable def cmpI (a b : Int) : Int := if a < b then -1 else if b < a then 1 else 0

theorem compareBytes_zero : ∀ {a b : List UInt8}, Lib.compareBytes a b = 0 → a = b
  | [], [], _ => rfl
  | [], _ :: _, h => by simp [Lib.compareBytes] at h
  | _ :: _, [], h => by simp [Lib.compareBytes] at h
  | x :: a, y :: b, h => by
    unfold Lib.compareBytes at h
    split at h
    · cases h
    · split at h
      · cases h
      · rename_i h1 h2
        rw [compareBytes_zero h, UInt8.le_antisymm (UInt8.not_lt.1 h2) (UInt8.not_lt.1 h1)]
theorem compareBytes_self : ∀ a : List UInt8, Lib.compareBytes a a = 0
  | [] => rfl
  | x :: a => by simp [Lib.compareBytes, compareBytes_self a]

theorem str_eq (a b : ByteArray) : (a.toList == b.toList) = decide (cmpS a b = 0) := by
  rw [ByteArray.toList_eq, ByteArray.toList_eq, Bool.eq_iff_iff, decide_eq_true_eq, beq_iff_eq]
  constructor
  · intro h
    unfold cmpS
    rw [h]
    exact compareBytes_self _
  · exact fun h => compareBytes_zero h

noncomputable def or4 (a b c d : Int) : Int := if a ≠ 0 then a else if b ≠ 0 then b else if c ≠ 0 then c else d
/-- How contacts are ordered. -/
noncomputable def ordC (r s : List G) : Int := or4 (cmpI (gi r 0).int (gi s 0).int) (cmpS (gi r 3).str (gi s 3).str) (cmpS (gi r 2).str (gi s 2).str) (cmpI (gi r 1).int (gi s 1).int)

theorem sign_eq (a b : Int) : F_pileref2_sign [.i (a - b)] = some [.i (cmpI a b)] := by
  refine Ret.toEq ?_
  unfold F_pileref2_sign cmpI
  (dsimp +instances only [gi0,gis,row1,rows1,int1,str1,bool1])
  by_cases h1 : a < b
  · (repeat(first|(refine Ret.pos ?_ ?_;(first|rfl|assumption|(simp only [inI,sl]<;>omega)))|(refine Ret.neg ?_ ?_;(first|rfl|assumption|(simp only [inI,sl]<;>omega)))))
    exact Ret.some (by simp [h1])
  · by_cases h2 : b < a
    · (repeat(first|(refine Ret.pos ?_ ?_;(first|rfl|assumption|(simp only [inI,sl]<;>omega)))|(refine Ret.neg ?_ ?_;(first|rfl|assumption|(simp only [inI,sl]<;>omega)))))
      exact Ret.some (by simp [h1, h2])
    · (repeat(first|(refine Ret.pos ?_ ?_;(first|rfl|assumption|(simp only [inI,sl]<;>omega)))|(refine Ret.neg ?_ ?_;(first|rfl|assumption|(simp only [inI,sl]<;>omega)))))
      exact Ret.some (by simp [h1, h2])

theorem order_eq {r s : List G} (hr : Con r) (hs : Con s) : F_pileref2_ContactOrder [.l [r], .l [s]] = some [.i (ordC r s)] := by
  obtain ⟨t, m, b, c, _, _, _, _, rfl, ht, hm, _⟩ := hr
  obtain ⟨t', m', b', c', _, _, _, _, rfl, ht', hm', _⟩ := hs
  unfold small at *
  refine Ret.toEq ?_
  unfold F_pileref2_ContactOrder ordC or4
  (dsimp +instances only [gi0,gis,row1,rows1,int1,str1,bool1])
  simp only [str_eq]
  by_cases e1 : t = t'
  · subst e1
    have z : cmpI t t = 0 := by simp [cmpI]
    simp only [z]
    (repeat(first|(refine Ret.pos ?_ ?_;(first|rfl|assumption|(simp only [inI,sl]<;>omega)))|(refine Ret.neg ?_ ?_;(first|rfl|assumption|(simp only [inI,sl]<;>omega)))))
    by_cases e2 : cmpS c c' = 0
    · simp only [e2]
      (repeat(first|(refine Ret.pos ?_ ?_;(first|rfl|assumption|(simp only [inI,sl]<;>omega)))|(refine Ret.neg ?_ ?_;(first|rfl|assumption|(simp only [inI,sl]<;>omega)))))
      by_cases e3 : cmpS b b' = 0
      · simp only [e3]
        (repeat(first|(refine Ret.pos ?_ ?_;(first|rfl|assumption|(simp only [inI,sl]<;>omega)))|(refine Ret.neg ?_ ?_;(first|rfl|assumption|(simp only [inI,sl]<;>omega)))))
        refine Ret.call (Ret.eq (sign_eq m m')) ?_
        rintro _ rfl
        (dsimp +instances only [gi0,gis,row1,rows1,int1,str1,bool1])
        exact Ret.some (by simp)
      · refine Ret.pos (by simpa using e3) (Ret.call (Ret.eq (rfl : F_strings_Compare [.s b, .s b'] = some [.i (cmpS b b')])) ?_)
        rintro _ rfl
        (dsimp +instances only [gi0,gis,row1,rows1,int1,str1,bool1])
        exact Ret.some (by simp [e3])
    · refine Ret.pos (by simpa using e2) (Ret.call (Ret.eq (rfl : F_strings_Compare [.s c, .s c'] = some [.i (cmpS c c')])) ?_)
      rintro _ rfl
      (dsimp +instances only [gi0,gis,row1,rows1,int1,str1,bool1])
      exact Ret.some (by simp [e2])
  · (repeat(first|(refine Ret.pos ?_ ?_;(first|rfl|assumption|(simp only [inI,sl]<;>omega)))|(refine Ret.neg ?_ ?_;(first|rfl|assumption|(simp only [inI,sl]<;>omega)))))
    refine Ret.call (Ret.eq (sign_eq t t')) ?_
    rintro _ rfl
    (dsimp +instances only [gi0,gis,row1,rows1,int1,str1,bool1])
    have z : cmpI t t' ≠ 0 := by
      unfold cmpI
      split
      · omega
      · split <;> omega
    exact Ret.some (by simp [z])

theorem cmpInt_eq (a b : Int) : F_cmp_Compare_int [.i a, .i b] = some [.i (cmpI a b)] := by
  refine Ret.toEq ?_
  unfold F_cmp_Compare_int F_cmp_isNaN_int cmpI
  (dsimp +instances only [gi0,gis,row1,rows1,int1,str1,bool1])
  simp only [bne_self_eq_false]
  refine Ret.call ⟨_, rfl, rfl⟩ ?_
  rintro _ rfl
  refine Ret.call ⟨_, rfl, rfl⟩ ?_
  rintro _ rfl
  (dsimp +instances only [gi0,gis,row1,rows1,int1,str1,bool1])
  (repeat(first|(refine Ret.pos ?_ ?_;(first|rfl|assumption|(simp only [inI,sl]<;>omega)))|(refine Ret.neg ?_ ?_;(first|rfl|assumption|(simp only [inI,sl]<;>omega)))))
  by_cases h1 : a < b
  · (repeat(first|(refine Ret.pos ?_ ?_;(first|rfl|assumption|(simp only [inI,sl]<;>omega)))|(refine Ret.neg ?_ ?_;(first|rfl|assumption|(simp only [inI,sl]<;>omega)))))
    exact Ret.some (by simp [h1])
  · by_cases h2 : b < a
    · (repeat(first|(refine Ret.pos ?_ ?_;(first|rfl|assumption|(simp only [inI,sl]<;>omega)))|(refine Ret.neg ?_ ?_;(first|rfl|assumption|(simp only [inI,sl]<;>omega)))))
      exact Ret.some (by simp [h1, h2])
    · (repeat(first|(refine Ret.pos ?_ ?_;(first|rfl|assumption|(simp only [inI,sl]<;>omega)))|(refine Ret.neg ?_ ?_;(first|rfl|assumption|(simp only [inI,sl]<;>omega)))))
      exact Ret.some (by simp [h1, h2])

noncomputable def orL : List (List G) → Int
  | [] => 0
  | x :: q => if (gi x 0).int ≠ 0 then (gi x 0).int else orL q

theorem or_runs : ∀ (q p : List (List G)), p.length + q.length < 100000 →
    RetN st_cmp_Or_int_3 [.i 0, .l (p ++ q), .i ((p.length + q.length : Nat) : Int), .i (p.length : Int)] (q.length + 1) fun c g => c ≤ 1 ∧ g = [.i (orL q)]
  | [], p, hl => by
    refine RetN.stop (x := 1) (Ret.toEq ?_) ⟨by omega, rfl⟩
    unfold st_cmp_Or_int_3
    (dsimp +instances only [gi0,gis,row1,rows1,int1,str1,bool1])
    (repeat(first|(refine Ret.pos ?_ ?_;(first|rfl|assumption|(simp only [inI,sl]<;>omega)))|(refine Ret.neg ?_ ?_;(first|rfl|assumption|(simp only [inI,sl]<;>omega)))))
    exact Ret.some rfl
  | y :: q, p, hl => by
    simp only [List.length_cons] at hl
    have g1 : (p ++ y :: q).getD (p.length : Int).toNat [] = y := getD_mid _ _ _ _ _ (by simp)
    have hlen : (p ++ y :: q).length = p.length + q.length + 1 := by simp; omega
    by_cases he : (gi y 0).int = 0
    · have ih := or_runs q (p ++ [y]) (by simp; omega)
      have e : orL (y :: q) = orL q := by simp [orL, he]
      rw [e]
      refine RetN.next (Ret.toEq ?_) ih
      unfold st_cmp_Or_int_3
      (dsimp +instances only [gi0,gis,row1,rows1,int1,str1,bool1])
      simp only [g1, hlen, List.length_cons]
      (repeat(first|(refine Ret.pos ?_ ?_;(first|rfl|assumption|(simp only [inI,sl]<;>omega)))|(refine Ret.neg ?_ ?_;(first|rfl|assumption|(simp only [inI,sl]<;>omega)))))
      refine Ret.some ?_
      simp
      omega
    · refine RetN.stop (x := 0) (Ret.toEq ?_) ⟨by omega, rfl⟩
      unfold st_cmp_Or_int_3
      (dsimp +instances only [gi0,gis,row1,rows1,int1,str1,bool1])
      simp only [g1, hlen, List.length_cons]
      (repeat(first|(refine Ret.pos ?_ ?_;(first|rfl|assumption|(simp only [inI,sl]<;>omega)))|(refine Ret.neg ?_ ?_;(first|rfl|assumption|(simp only [inI,sl]<;>omega)))))
      refine Ret.some ?_
      simp [orL, he]

theorem or_eq (a b c d : Int) : F_cmp_Or_int [.l [[.i a], [.i b], [.i c], [.i d]]] = some [.i (or4 a b c d)] := by
  refine Ret.toEq ?_
  unfold F_cmp_Or_int
  (dsimp +instances only [gi0,gis,row1,rows1,int1,str1,bool1])
  have h := or_runs [[.i a], [.i b], [.i c], [.i d]] [] (by simp)
  refine Ret.loop (h.to (by simp)) (by (first|rfl|assumption|(simp only [inI,sl]<;>omega))) ?_
  rintro x g ⟨hx, rfl⟩
  have e : orL [[.i a], [.i b], [.i c], [.i d]] = or4 a b c d := by
    simp only [orL, or4]
    (dsimp +instances only [gi0,gis,row1,rows1,int1,str1,bool1])
    by_cases h1 : a = 0 <;> by_cases h2 : b = 0 <;> by_cases h3 : c = 0 <;> by_cases h4 : d = 0 <;> simp [h1, h2, h3, h4]
  rw [e]
  (dsimp +instances only [gi0,gis,row1,rows1,int1,str1,bool1])
  exact Ret.test (fun _ => Ret.some rfl) fun _ => Ret.some rfl

theorem compare_eq {r s : List G} (hr : Con r) (hs : Con s) : F_log_Compare [.l [r], .l [s]] = some [.i (ordC r s)] := by
  obtain ⟨t, m, b, c, _, _, _, _, rfl, ht, hm, _⟩ := hr
  obtain ⟨t', m', b', c', _, _, _, _, rfl, ht', hm', _⟩ := hs
  refine Ret.toEq ?_
  unfold F_log_Compare
  (dsimp +instances only [gi0,gis,row1,rows1,int1,str1,bool1])
  refine Ret.call (Ret.eq (cmpInt_eq t t')) ?_
  rintro _ rfl
  refine Ret.call (Ret.eq (rfl : F_strings_Compare [.s c, .s c'] = some [.i (cmpS c c')])) ?_
  rintro _ rfl
  refine Ret.call (Ret.eq (rfl : F_strings_Compare [.s b, .s b'] = some [.i (cmpS b b')])) ?_
  rintro _ rfl
  refine Ret.call (Ret.eq (cmpInt_eq m m')) ?_
  rintro _ rfl
  (dsimp +instances only [gi0,gis,row1,rows1,int1,str1,bool1])
  refine Ret.call (Ret.eq (or_eq _ _ _ _)) ?_
  rintro _ rfl
  exact Ret.some rfl

theorem cmpOrder : Cmp KContact F_pileref2_ContactOrder Con ordC := ⟨fun _ _ hr hs => order_eq hr hs, fun _ h => h.eta⟩
theorem cmpCompare : Cmp KContact F_log_Compare Con ordC := ⟨fun _ _ hr hs => compare_eq hr hs, fun _ h => h.eta⟩

end Go.Proofs.SYtpfhjchbegdgdaaGreatDoor

namespace Go.Proofs.SYtpfhjchbegdgdaaGreatDoor
open Go Go.AL Go.Proofs

noncomputable def inB (v lo hi : Int) : Bool := leI lo v && leI v hi
theorem in_eq (v lo hi : Int) : F_pileref2_in [.i v, .i lo, .i hi] = some [.t (inB v lo hi)] := by
  unfold F_pileref2_in inB
  (dsimp +instances only [gi0,gis,row1,rows1,int1,str1,bool1])
  cases leI lo v <;> rfl
theorem outside_eq (v lo hi : Int) : F_kit_Outside [.i v, .i lo, .i hi] = some [.t (!inB v lo hi)] := by
  unfold F_kit_Outside inB
  (dsimp +instances only [gi0,gis,row1,rows1,int1,str1,bool1])
  have h1 : ltI v lo = !leI lo v := by rw [ltI_eq, leI_eq, Bool.eq_iff_iff]; simp
  have h2 : ltI hi v = !leI v hi := by rw [ltI_eq, leI_eq, Bool.eq_iff_iff]; simp
  rw [h1, h2]
  cases leI lo v <;> cases leI v hi <;> rfl

noncomputable def okKey (s : ByteArray) : Bool := inL [⟨#[98, 50, 48]⟩, ⟨#[98, 52, 48]⟩, ⟨#[102, 105, 110]⟩, ⟨#[117, 115, 97]⟩] s
noncomputable def okName (s : ByteArray) : Bool := inL [⟨#[]⟩] s || okKey s
noncomputable def okCall (s : ByteArray) : Bool := (gi ((F_call_Is [.s s]).getD []) 0).bool

theorem isKey_eq {s : ByteArray} (h : s ∈ bands ∨ s ∈ names) : F_kit_IsKey [.s s] = some [.t (okKey s)] := by
  simp only [bands, names, List.mem_cons, List.not_mem_nil, or_false] at h
  rcases h with (rfl | rfl | rfl | rfl) | (rfl | rfl | rfl | rfl | rfl) <;> kernel_rfl
theorem key_eq {s : ByteArray} (h : s ∈ bands ∨ s ∈ names) : F_pileref2_Key [.s s] = some [.t (okKey s)] := by
  simp only [bands, names, List.mem_cons, List.not_mem_nil, or_false] at h
  rcases h with (rfl | rfl | rfl | rfl) | (rfl | rfl | rfl | rfl | rfl) <;> kernel_rfl
theorem isName_eq {s : ByteArray} (h : s ∈ names) : F_kit_IsName [.s s] = some [.t (okName s)] := by
  simp only [names, List.mem_cons, List.not_mem_nil, or_false] at h
  rcases h with (rfl | rfl | rfl | rfl | rfl) <;> kernel_rfl
theorem isCall_eq {s : ByteArray} (h : s ∈ calls) : F_call_Is [.s s] = some [.t (okCall s)] := by
  simp only [calls, List.mem_cons, List.not_mem_nil, or_false] at h
  rcases h with (rfl | rfl | rfl | rfl | rfl | rfl | rfl | rfl | rfl | rfl | rfl | rfl | rfl | rfl) <;> kernel_rfl
theorem call_eq {s : ByteArray} (h : s ∈ calls) : F_pileref2_Call [.s s] = some [.t (okCall s)] := by
  simp only [calls, List.mem_cons, List.not_mem_nil, or_false] at h
  rcases h with (rfl | rfl | rfl | rfl | rfl | rfl | rfl | rfl | rfl | rfl | rfl | rfl | rfl | rfl) <;> kernel_rfl

/-- What is wrong with a contact. -/
noncomputable def faultC (r : List G) : Int :=
  bif !inB (gi r 0).int 0 345686399999 then 1 else bif !inB (gi r 1).int 1 3 then 4 else bif !okKey (gi r 2).str then 5 else bif !okCall (gi r 3).str then 3 else
  bif !inB (gi r 4).int 0 99999 then 1 else bif !inB (gi r 5).int 0 99999 then 1 else bif !okName (gi r 6).str then 5 else bif !okName (gi r 7).str then 5 else 0

theorem check_eq {r : List G} (hr : Con r) : F_log_CheckContact [.l [r]] = some [.i (faultC r)] := by
  obtain ⟨t, m, b, c, s, h, x, y, rfl, _, _, _, _, hb, hc, hx, hy⟩ := hr
  unfold F_log_CheckContact F_kit_IsMoment F_kit_IsMode faultC
  (dsimp +instances only [gi0,gis,row1,rows1,int1,str1,bool1])
  have kb := isKey_eq (.inl hb)
  have kx := isName_eq hx
  have ky := isName_eq hy
  have kc := isCall_eq hc
  rw [outside_eq t, outside_eq m]
  rw [kb, kc, outside_eq s, outside_eq h, kx, ky]
  generalize inB t 0 345686399999 = b1
  generalize inB m 1 3 = b2
  generalize okKey b = b3
  generalize okCall c = b4
  generalize inB s 0 99999 = b5
  generalize inB h 0 99999 = b6
  generalize okName x = b7
  generalize okName y = b8
  cases b1 <;> cases b2 <;> cases b3 <;> cases b4 <;> cases b5 <;> cases b6 <;> cases b7 <;> cases b8 <;> rfl

theorem empty_eq (s : ByteArray) : (s.toList == (⟨#[]⟩ : ByteArray).toList) = inL [⟨#[]⟩] s := by
  rw [ByteArray.toList_eq, ByteArray.toList_eq]
  simp only [inL, eqS, List.any_cons, List.any_nil, Bool.or_false]
  rw [Bool.eq_iff_iff]
  simp only [beq_iff_eq]
  exact eq_comm

theorem fault_eq {r : List G} (hr : Con r) : F_pileref2_ContactFault [.l [r]] = some [.i (faultC r)] := by
  obtain ⟨t, m, b, c, s, h, x, y, rfl, _, _, _, _, hb, hc, hx, hy⟩ := hr
  unfold F_pileref2_ContactFault F_pileref2_Moment faultC okName
  (dsimp +instances only [gi0,gis,row1,rows1,int1,str1,bool1])
  have kb := key_eq (.inl hb)
  have kx := key_eq (.inr hx)
  have ky := key_eq (.inr hy)
  have kc := call_eq hc
  have ex := empty_eq x
  have ey := empty_eq y
  generalize (⟨#[]⟩ : ByteArray) = z at ex ey ⊢
  simp only [in_eq, callF_some rfl, kb, kc, kx, ky]
  (dsimp +instances only [gi0,gis,row1,rows1,int1,str1,bool1])
  rw [ex, ey]
  generalize inB t 0 345686399999 = b1
  generalize inB m 1 3 = b2
  generalize okKey b = b3
  generalize okCall c = b4
  generalize inB s 0 99999 = b5
  generalize inB h 0 99999 = b6
  generalize okKey x = b7
  generalize okKey y = b8
  generalize inL [z] x = b9
  generalize inL [z] y = b10
  cases b1 <;> cases b2 <;> cases b3 <;> cases b4 <;> cases b5 <;> cases b6 <;> cases b7 <;> cases b8 <;> cases b9 <;> cases b10 <;> rfl

end Go.Proofs.SYtpfhjchbegdgdaaGreatDoor

namespace Go.Proofs.SYtpfhjchbegdgdaaGreatDoor
open Go Go.AL Go.Proofs

noncomputable def chk4 (K : List Kd) (C D : List G → Option (List G)) (d : List G) : Option (Option Nat × List G) :=
  (bif (ltI (gi d 3).int (gi d 2).int) then (bif ((nnI (gi d 3).int) && (ltI (gi d 3).int (((gi d 1).rows.length : Nat) : Int))) then (callF (C [.l [(gEta K ((gi d 1).rows.getD (((gi d 3).int).toNat) []))]]) fun g1 => (bif ((gi g1 0).int != 0) then some (some 0, [.i (gi g1 0).int]) else (bif (ltI 0 (gi d 3).int) then (bif (inI ((gi d 3).int - 1)) then (bif ((nnI ((gi d 3).int - 1)) && (ltI ((gi d 3).int - 1) (((gi d 0).rows.length : Nat) : Int))) then (callF (D [.l [(gEta K ((gi d 0).rows.getD (((gi d 3).int - 1).toNat) []))], .l [(gEta K ((gi d 1).rows.getD (((gi d 3).int).toNat) []))]]) fun g2 => (bif (leI 0 (gi g2 0).int) then some (some 0, [.i 7]) else (bif (inI ((gi d 3).int + 1)) then some (none, [.l (gi d 0).rows, .l (gi d 1).rows, .i (gi d 2).int, .i ((gi d 3).int + 1)]) else none))) else none) else none) else (bif (inI ((gi d 3).int + 1)) then some (none, [.l (gi d 0).rows, .l (gi d 1).rows, .i (gi d 2).int, .i ((gi d 3).int + 1)]) else none)))) else none) else some (some 1, []))
noncomputable def chkF (K : List Kd) (C D : List G → Option (List G)) (d : List G) : Option (List G) :=
  (bif (ltI 2000 (((gi d 0).rows.length : Nat) : Int)) then some [.i 2] else (loopB true (LRun (chk4 K C D) [.l (gi d 0).rows, .l (gi d 0).rows, .i (((gi d 0).rows.length : Nat) : Int), .i 0]) fun cg3 g3 => (bif Nat.beq cg3 0 then some [.i (gi g3 0).int] else some [.i 0])))

/-- What is wrong with a log, behind a contact. -/
noncomputable def faultL : Option (List G) → List (List G) → Int
  | _, [] => 0
  | none, x :: q => if faultC x ≠ 0 then faultC x else faultL (some x) q
  | some y, x :: q => if faultC x ≠ 0 then faultC x else if 0 ≤ ordC y x then 7 else faultL (some x) q
noncomputable def faultLog (l : List (List G)) : Int := if 2000 < l.length then 2 else faultL none l

section
variable {C D : List G → Option (List G)} (hC : ∀ r, Con r → C [.l [r]] = some [.i (faultC r)]) (hD : ∀ r s, Con r → Con s → D [.l [r], .l [s]] = some [.i (ordC r s)])
include hC hD

theorem chk4_runs : ∀ (q p : List (List G)), (∀ z ∈ p ++ q, Con z) → p.length + q.length < 100000 →
    RetN (chk4 KContact C D) [.l (p ++ q), .l (p ++ q), .i ((p.length + q.length : Nat) : Int), .i (p.length : Int)] (q.length + 1) fun c g => (c = 0 ∧ g = [.i (faultL p.getLast? q)]) ∨ c = 1 ∧ faultL p.getLast? q = 0
  | [], p, hQ, hl => by
    refine RetN.stop (x := 1) (d' := []) (Ret.toEq ?_) (.inr ⟨rfl, by unfold faultL; rfl⟩)
    unfold chk4
    (dsimp +instances only [gi0,gis,row1,rows1,int1,str1,bool1])
    (repeat(first|(refine Ret.pos ?_ ?_;(first|rfl|assumption|(simp only [inI,sl]<;>omega)))|(refine Ret.neg ?_ ?_;(first|rfl|assumption|(simp only [inI,sl]<;>omega)))))
    exact Ret.some rfl
  | x :: q, p, hQ, hl => by
    simp only [List.length_cons] at hl
    have hx : Con x := hQ x (by simp)
    have g1 : (p ++ x :: q).getD (p.length : Int).toNat [] = x := getD_mid _ _ _ _ _ (by simp)
    have hlen : (p ++ x :: q).length = p.length + q.length + 1 := by simp; omega
    by_cases hf : faultC x = 0
    · have ih := chk4_runs q (p ++ [x]) (by simpa using hQ) (by simp; omega)
      rw [List.getLast?_concat] at ih
      rcases List.eq_nil_or_concat p with rfl | ⟨p', y, rfl⟩
      · have e : faultL ([] : List (List G)).getLast? (x :: q) = faultL (some x) q := by simp [faultL, hf]
        rw [e]
        refine RetN.next (Ret.toEq ?_) ih
        unfold chk4
        (dsimp +instances only [gi0,gis,row1,rows1,int1,str1,bool1])
        simp only [g1, hlen, List.length_cons, hx.eta]
        (repeat(first|(refine Ret.pos ?_ ?_;(first|rfl|assumption|(simp only [inI,sl]<;>omega)))|(refine Ret.neg ?_ ?_;(first|rfl|assumption|(simp only [inI,sl]<;>omega)))))
        refine Ret.call (Ret.eq (hC x hx)) ?_
        rintro _ rfl
        (dsimp +instances only [gi0,gis,row1,rows1,int1,str1,bool1])
        simp only [hf]
        (repeat(first|(refine Ret.pos ?_ ?_;(first|rfl|assumption|(simp only [inI,sl]<;>omega)))|(refine Ret.neg ?_ ?_;(first|rfl|assumption|(simp only [inI,sl]<;>omega)))))
        refine Ret.some ?_
        simp
        omega
      · rw [List.concat_eq_append] at *
        have hy : Con y := hQ y (by simp)
        have g2 : ((p' ++ [y]) ++ x :: q).getD (((p' ++ [y]).length : Int) - 1).toNat [] = y := by
          have e : (p' ++ [y]) ++ x :: q = p' ++ y :: x :: q := by simp
          rw [e]; exact getD_mid _ _ _ _ _ (by simp)
        have hp : (p' ++ [y]).length = p'.length + 1 := by simp
        have hl0 : (p' ++ [y]).getLast? = some y := by simp
        rw [hl0]
        by_cases ho : 0 ≤ ordC y x
        · refine RetN.stop (x := 0) (d' := [.i 7]) (Ret.toEq ?_) (.inl ⟨rfl, by simp [faultL, hf, ho]⟩)
          unfold chk4
          (dsimp +instances only [gi0,gis,row1,rows1,int1,str1,bool1])
          simp only [g1, g2, hlen, List.length_cons, hx.eta, hy.eta]
          (repeat(first|(refine Ret.pos ?_ ?_;(first|rfl|assumption|(simp only [inI,sl]<;>omega)))|(refine Ret.neg ?_ ?_;(first|rfl|assumption|(simp only [inI,sl]<;>omega)))))
          refine Ret.call (Ret.eq (hC x hx)) ?_
          rintro _ rfl
          (dsimp +instances only [gi0,gis,row1,rows1,int1,str1,bool1])
          simp only [hf]
          (repeat(first|(refine Ret.pos ?_ ?_;(first|rfl|assumption|(simp only [inI,sl]<;>omega)))|(refine Ret.neg ?_ ?_;(first|rfl|assumption|(simp only [inI,sl]<;>omega)))))
          refine Ret.call (Ret.eq (hD y x hy hx)) ?_
          rintro _ rfl
          (dsimp +instances only [gi0,gis,row1,rows1,int1,str1,bool1])
          (repeat(first|(refine Ret.pos ?_ ?_;(first|rfl|assumption|(simp only [inI,sl]<;>omega)))|(refine Ret.neg ?_ ?_;(first|rfl|assumption|(simp only [inI,sl]<;>omega)))))
          exact Ret.some rfl
        · have e : faultL (some y) (x :: q) = faultL (some x) q := by simp [faultL, hf, ho]
          rw [e]
          refine RetN.next (Ret.toEq ?_) ih
          unfold chk4
          (dsimp +instances only [gi0,gis,row1,rows1,int1,str1,bool1])
          simp only [g1, g2, hlen, List.length_cons, hx.eta, hy.eta]
          (repeat(first|(refine Ret.pos ?_ ?_;(first|rfl|assumption|(simp only [inI,sl]<;>omega)))|(refine Ret.neg ?_ ?_;(first|rfl|assumption|(simp only [inI,sl]<;>omega)))))
          refine Ret.call (Ret.eq (hC x hx)) ?_
          rintro _ rfl
          (dsimp +instances only [gi0,gis,row1,rows1,int1,str1,bool1])
          simp only [hf]
          (repeat(first|(refine Ret.pos ?_ ?_;(first|rfl|assumption|(simp only [inI,sl]<;>omega)))|(refine Ret.neg ?_ ?_;(first|rfl|assumption|(simp only [inI,sl]<;>omega)))))
          refine Ret.call (Ret.eq (hD y x hy hx)) ?_
          rintro _ rfl
          (dsimp +instances only [gi0,gis,row1,rows1,int1,str1,bool1])
          (repeat(first|(refine Ret.pos ?_ ?_;(first|rfl|assumption|(simp only [inI,sl]<;>omega)))|(refine Ret.neg ?_ ?_;(first|rfl|assumption|(simp only [inI,sl]<;>omega)))))
          refine Ret.some ?_
          simp
          omega
    · refine RetN.stop (x := 0) (d' := [.i (faultC x)]) (Ret.toEq ?_) (.inl ⟨rfl, by cases hg : p.getLast? <;> simp [faultL, hf]⟩)
      unfold chk4
      (dsimp +instances only [gi0,gis,row1,rows1,int1,str1,bool1])
      simp only [g1, hlen, List.length_cons, hx.eta]
      (repeat(first|(refine Ret.pos ?_ ?_;(first|rfl|assumption|(simp only [inI,sl]<;>omega)))|(refine Ret.neg ?_ ?_;(first|rfl|assumption|(simp only [inI,sl]<;>omega)))))
      refine Ret.call (Ret.eq (hC x hx)) ?_
      rintro _ rfl
      (dsimp +instances only [gi0,gis,row1,rows1,int1,str1,bool1])
      refine Ret.pos (by simpa using hf) (Ret.some rfl)

theorem chkF_eq (l : List (List G)) (hl : ∀ z ∈ l, Con z) (hn : l.length < 100000) : chkF KContact C D [.l l] = some [.i (faultLog l)] := by
  refine Ret.toEq ?_
  unfold chkF faultLog
  (dsimp +instances only [gi0,gis,row1,rows1,int1,str1,bool1])
  by_cases h : 2000 < l.length
  · (repeat(first|(refine Ret.pos ?_ ?_;(first|rfl|assumption|(simp only [inI,sl]<;>omega)))|(refine Ret.neg ?_ ?_;(first|rfl|assumption|(simp only [inI,sl]<;>omega)))))
    exact Ret.some (by simp [h])
  · (repeat(first|(refine Ret.pos ?_ ?_;(first|rfl|assumption|(simp only [inI,sl]<;>omega)))|(refine Ret.neg ?_ ?_;(first|rfl|assumption|(simp only [inI,sl]<;>omega)))))
    have h1 := chk4_runs hC hD l [] (by simpa using hl) (by simpa using hn)
    have h0 : ((0 : Nat) : Int) = 0 := rfl
    simp only [List.nil_append, List.length_nil, Nat.zero_add, h0] at h1
    refine Ret.loop (h1.to (by omega)) (by (first|rfl|assumption|(simp only [inI,sl]<;>omega))) ?_
    rintro c g (⟨rfl, rfl⟩ | ⟨rfl, h2⟩)
    · (dsimp +instances only [gi0,gis,row1,rows1,int1,str1,bool1])
      (repeat(first|(refine Ret.pos ?_ ?_;(first|rfl|assumption|(simp only [inI,sl]<;>omega)))|(refine Ret.neg ?_ ?_;(first|rfl|assumption|(simp only [inI,sl]<;>omega)))))
      refine Ret.some ?_
      rw [if_neg h]
      rfl
    · (repeat(first|(refine Ret.pos ?_ ?_;(first|rfl|assumption|(simp only [inI,sl]<;>omega)))|(refine Ret.neg ?_ ?_;(first|rfl|assumption|(simp only [inI,sl]<;>omega)))))
      refine Ret.some ?_
      rw [if_neg h]
      exact congrArg (fun z => [G.i z]) h2.symm
end

theorem checkLog_eq (l : List (List G)) (hl : ∀ z ∈ l, Con z) (hn : l.length < 100000) : F_log_CheckLog [.l l] = some [.i (faultLog l)] :=
  chkF_eq (fun _ h => check_eq h) (fun _ _ h h' => compare_eq h h') l hl hn
theorem logFault_eq (l : List (List G)) (hl : ∀ z ∈ l, Con z) (hn : l.length < 100000) : F_pileref2_LogFault [.l l] = some [.i (faultLog l)] :=
  chkF_eq (fun _ h => fault_eq h) (fun _ _ h h' => order_eq h h') l hl hn

end Go.Proofs.SYtpfhjchbegdgdaaGreatDoor

namespace Go.Proofs.SYtpfhjchbegdgdaaGreatDoor
open Go Go.AL Go.Proofs

theorem loop_Contacts (l : List (List G)) (n : Nat) (hn : n ≤ 20) : ∀ (k i : Nat) (a t : Int) (acc : List (List G)), i + k = n → 0 ≤ a → a ≤ 700000 + 21 * i → -(1500000 * (i : Int)) ≤ t → t ≤ 1500000 * (i : Int) → (∀ z ∈ acc, ConT z) → acc.length = i →
    RetN st_pilemake_Stream_Contacts_4 [.l l, .i a, .l acc, .i t, .i (n : Int), .i (i : Int)] (k + 1) fun c g => c = 0 ∧ ∃ b rows, g = [.l l, .i b, .l rows] ∧ a ≤ b ∧ b ≤ a + 21 * k ∧ (∀ z ∈ rows, ConT z) ∧ rows.length = n
  | 0, i, a, t, acc, hi, ha, ha1, ht, ht1, hQ, hl => by
    refine RetN.stop (x := 0) (Ret.toEq ?_) ⟨rfl, a, acc, rfl, by omega, by omega, hQ, by omega⟩
    unfold st_pilemake_Stream_Contacts_4
    (dsimp +instances only [gi0,gis,row1,rows1,int1,str1,bool1])
    (repeat(first|(refine Ret.pos ?_ ?_;(first|rfl|assumption|(simp only [inI,sl]<;>omega)))|(refine Ret.neg ?_ ?_;(first|rfl|assumption|(simp only [inI,sl]<;>omega)))))
    exact Ret.some rfl
  | k + 1, i, a, t, acc, hi, ha, ha1, ht, ht1, hQ, hl => by
    have key : Ret (st_pilemake_Stream_Contacts_4 [.l l, .i a, .l acc, .i t, .i (n : Int), .i (i : Int)]) fun o => ∃ b r v, o = (none, [.l l, .i b, .l (acc ++ [r]), .i (t + v), .i (n : Int), .i ((i : Int) + 1)]) ∧ a ≤ b ∧ b ≤ a + 21 ∧ ConT r ∧ 0 ≤ v ∧ v ≤ 1500000 := by
      unfold st_pilemake_Stream_Contacts_4
      (dsimp +instances only [gi0,gis,row1,rows1,int1,str1,bool1])
      (repeat(first|(refine Ret.pos ?_ ?_;(first|rfl|assumption|(simp only [inI,sl]<;>omega)))|(refine Ret.neg ?_ ?_;(first|rfl|assumption|(simp only [inI,sl]<;>omega)))))
      refine Ret.call (r_PickB 0 1500000 l a _ ha (by omega) (by kernel_rfl) (by kernel_rfl)) ?_
      rintro _ ⟨v, rfl, hv0, hv1⟩
      (dsimp +instances only [gi0,gis,row1,rows1,int1,str1,bool1])
      (repeat(first|(refine Ret.pos ?_ ?_;(first|rfl|assumption|(simp only [inI,sl]<;>omega)))|(refine Ret.neg ?_ ?_;(first|rfl|assumption|(simp only [inI,sl]<;>omega)))))
      refine Ret.call (r_SomeContact l (a + 1) (t + v) (by omega) (by omega) ⟨by omega, by omega⟩) ?_
      rintro _ ⟨b, r, rfl, hb0, hb1, hr⟩
      (dsimp +instances only [gi0,gis,row1,rows1,int1,str1,bool1])
      simp only [hr.to.eta]
      (repeat(first|(refine Ret.pos ?_ ?_;(first|rfl|assumption|(simp only [inI,sl]<;>omega)))|(refine Ret.neg ?_ ?_;(first|rfl|assumption|(simp only [inI,sl]<;>omega)))))
      exact Ret.some ⟨b, r, v, rfl, by omega, by omega, hr, hv0, hv1⟩
    obtain ⟨_, h, b, r, v, rfl, h1, h2, h3, h4, h5⟩ := key
    have ih := loop_Contacts l n hn k (i + 1) b (t + v) (acc ++ [r]) (by omega) (by omega) (by omega) (by omega) (by omega) (by
      intro z hz
      rcases List.mem_append.1 hz with hz | hz
      · exact hQ z hz
      · simp at hz; exact hz ▸ h3) (by simp [hl])
    refine RetN.next h (ih.mono ?_)
    rintro c g ⟨rfl, b', rows, rfl, q1, q2, q3, q4⟩
    exact ⟨rfl, b', rows, rfl, by omega, by omega, q3, q4⟩

theorem sortOrder_eq (rows : List (List G)) (hr : ∀ y ∈ rows, Con y) (hn : rows.length ≤ 20) : F_slices_SortStableFunc_Contact [.l rows] = some [.l (sortA (ltC ordC) rows)] :=
  sortF_eq cmpOrder rows hr hn
noncomputable def sameC (r s : List G) : Bool := ordC r s == 0
theorem eqvOrder : Eqv KContact F_pilemake_Stream_Contacts_1 Con sameC := ⟨fun r s hr hs => by
  refine Ret.toEq ?_
  unfold F_pilemake_Stream_Contacts_1
  (dsimp +instances only [gi0,gis,row1,rows1,int1,str1,bool1])
  simp only [hr.eta, hs.eta]
  refine Ret.call (Ret.eq (order_eq hr hs)) ?_
  rintro _ rfl
  exact Ret.some rfl, fun _ h => h.eta⟩

noncomputable def zC : List G := [.i 0, .i 0, .s (⟨#[]⟩ : ByteArray), .s (⟨#[]⟩ : ByteArray), .i 0, .i 0, .s (⟨#[]⟩ : ByteArray), .s (⟨#[]⟩ : ByteArray)]

/-- A log as the stream makes it. -/
theorem r_Contacts (l : List (List G)) (a n : Int) (ha : 0 ≤ a) (ha1 : a ≤ 700000) (h0 : 0 ≤ n) (h1 : n ≤ 20) :
    Ret (F_pilemake_Stream_Contacts [.l l, .i a, .i n]) fun g => ∃ b rows, g = [.l l, .i b, .l rows] ∧ a ≤ b ∧ b ≤ a + 420 ∧ (∀ z ∈ rows, ConT z) ∧ (rows.length : Int) ≤ n := by
  obtain ⟨n, rfl⟩ := Int.eq_ofNat_of_zero_le h0
  unfold F_pilemake_Stream_Contacts
  (dsimp +instances only [gi0,gis,row1,rows1,int1,str1,bool1])
  have hl := loop_Contacts l n (by omega) n 0 a 0 [] (by omega) ha (by omega) (by omega) (by omega) (by simp) rfl
  refine Ret.loop (hl.to (by omega)) (by (first|rfl|assumption|(simp only [inI,sl]<;>omega))) ?_
  rintro c g ⟨rfl, b, rows, rfl, h2, h3, h4, h5⟩
  (dsimp +instances only [gi0,gis,row1,rows1,int1,str1,bool1])
  refine Ret.callb (Ret.eq (sortOrder_eq rows (fun z hz => (h4 z hz).to) (by omega))) (by (first|rfl|assumption|(simp only [inI,sl]<;>omega))) ?_
  rintro _ rfl
  (dsimp +instances only [gi0,gis,row1,rows1,int1,str1,bool1])
  have hs := sortA_all (lt := ltC ordC) h4
  have hsl := sortA_length (ltC ordC) rows
  refine Ret.callb (P := fun g => ∃ J, g = [.l (compact sameC (sortA (ltC ordC) rows) ++ J), .i ((compact sameC (sortA (ltC ordC) rows)).length : Int)] ∧ (compact sameC (sortA (ltC ordC) rows) ++ J).length = (sortA (ltC ordC) rows).length)
    (cmpfF_eq (Z := zC) eqvOrder (sortA (ltC ordC) rows) (fun z hz => (hs z hz).to) (by omega)) (by (first|rfl|assumption|(simp only [inI,sl]<;>omega))) ?_
  rintro _ ⟨J, rfl, hJ⟩
  (dsimp +instances only [gi0,gis,row1,rows1,int1,str1,bool1])
  have hle : (compact sameC (sortA (ltC ordC) rows)).length ≤ (sortA (ltC ordC) rows).length := compact_length _ _
  simp only [hJ]
  (repeat(first|(refine Ret.pos ?_ ?_;(first|rfl|assumption|(simp only [inI,sl]<;>omega)))|(refine Ret.neg ?_ ?_;(first|rfl|assumption|(simp only [inI,sl]<;>omega)))))
  refine Ret.some ⟨b, compact sameC (sortA (ltC ordC) rows), by simp, by omega, by omega, fun z hz => hs z (compact_mem hz), by omega⟩

end Go.Proofs.SYtpfhjchbegdgdaaGreatDoor

namespace Go.Proofs.SYtpfhjchbegdgdaaGreatDoor
open Go Go.AL Go.Proofs

theorem faultL_all : ∀ {l : List (List G)} {o : Option (List G)}, faultL o l = 0 → ∀ x ∈ l, faultC x = 0
  | [], _, _, x, hx => by cases hx
  | y :: l, none, h, x, hx => by
    simp only [faultL] at h
    by_cases hy : faultC y = 0
    · rw [if_neg (by simpa using hy)] at h
      rcases List.mem_cons.1 hx with rfl | hx
      · exact hy
      · exact faultL_all h x hx
    · rw [if_pos hy] at h
      exact (hy h).elim
  | y :: l, some z, h, x, hx => by
    simp only [faultL] at h
    by_cases hy : faultC y = 0
    · rw [if_neg (by simpa using hy)] at h
      split at h
      · cases h
      · rcases List.mem_cons.1 hx with rfl | hx
        · exact hy
        · exact faultL_all h x hx
    · rw [if_pos hy] at h
      exact (hy h).elim
theorem faultLog_all {l : List (List G)} (h : faultLog l = 0) : ∀ x ∈ l, faultC x = 0 := by
  unfold faultLog at h
  split at h
  · cases h
  · exact faultL_all h
theorem inB_iff {v lo hi : Int} (h : inB v lo hi = true) : lo ≤ v ∧ v ≤ hi := by
  simpa only [inB, leI_eq, Bool.and_eq_true, decide_eq_true_eq] using h
/-- A contact without a fault: its moment, its mode, its numbers. -/
theorem faultC_zero {x : List G} (h : faultC x = 0) : (0 ≤ (gi x 0).int ∧ (gi x 0).int ≤ 345686399999) ∧ (1 ≤ (gi x 1).int ∧ (gi x 1).int ≤ 3) ∧ (0 ≤ (gi x 4).int ∧ (gi x 4).int ≤ 99999) ∧ (0 ≤ (gi x 5).int ∧ (gi x 5).int ≤ 99999) := by
  unfold faultC at h
  cases h1 : inB (gi x 0).int 0 345686399999 with
  | false => rw [h1] at h; simp at h
  | true =>
  cases h2 : inB (gi x 1).int 1 3 with
  | false => rw [h1, h2] at h; simp at h
  | true =>
  cases h3 : okKey (gi x 2).str with
  | false => rw [h1, h2, h3] at h; simp at h
  | true =>
  cases h4 : okCall (gi x 3).str with
  | false => rw [h1, h2, h3, h4] at h; simp at h
  | true =>
  cases h5 : inB (gi x 4).int 0 99999 with
  | false => rw [h1, h2, h3, h4, h5] at h; simp at h
  | true =>
  cases h6 : inB (gi x 5).int 0 99999 with
  | false => rw [h1, h2, h3, h4, h5, h6] at h; simp at h
  | true => exact ⟨inB_iff h1, inB_iff h2, inB_iff h5, inB_iff h6⟩

/-- How often a number is there. -/
noncomputable def fOf (m : List (List G)) (n : Int) : Int := (gi (mget [.int .i64] m [.i n] [.i 0]) 0).int
theorem fOf_mput (m : List (List G)) (s v n : Int) (c : Nat) : fOf (mput [.int .i64] m [.i s] [.i v] c) n = if n = s then v else fOf m n := by
  unfold fOf
  rw [mget_mput]
  have e : rowEq [.int .i64] [.i n] [.i s] = decide (n = s) := by
    simp only [rowEq, gEq, List.headD_cons, Bool.and_true, int1]
    rw [Bool.eq_iff_iff]
    simp
  rw [e]
  by_cases h : n = s
  · simp [h, gi0, int1]
  · simp [h]

theorem count_ok (l : List (List G)) (hl : ∀ z ∈ l, 0 ≤ (gi z 4).int ∧ (gi z 4).int ≤ 99999) (hn : l.length < 90000) :
    RetL st_log_Serials_7 [.l [], .i 0, .i 0, .l l, .i (l.length : Int), .i 0] fun c g => c = 0 ∧ ∃ (m : List (List G)) (k : Nat) (top : Int), g = [.l m, .i (k : Int), .i top] ∧ 0 ≤ top ∧ top ≤ 99999 ∧ ∀ n, 0 ≤ fOf m n ∧ fOf m n ≤ 100000 := by
  have r := range_all (st := st_log_Serials_7) (σ := List (List G) × Nat × Int) (fun s i => [.l s.1, .i (s.2.1 : Int), .i s.2.2, .l l, .i (l.length : Int), .i (i : Int)]) l (fun s => (0, [.l s.1, .i (s.2.1 : Int), .i s.2.2]))
    (fun s i => (∀ n, 0 ≤ fOf s.1 n ∧ fOf s.1 n ≤ i) ∧ 0 ≤ s.2.2 ∧ s.2.2 ≤ 99999) ([], 0, 0) (by omega) ⟨fun n => ⟨by simp [fOf, mget_nil, gi0, int1], by simp [fOf, mget_nil, gi0, int1]⟩, by simp, by simp⟩
    (fun s i x hI hi hx hm ht => by
      obtain ⟨h1, h2⟩ := hl x hm
      obtain ⟨hf, ht0, ht1⟩ := hI
      obtain ⟨hs0, hs1⟩ := hf (gi x 4).int
      have e : (gi (mget [.int .i64] s.1 [.i (gi x 4).int] [.i 0]) 0).int = fOf s.1 (gi x 4).int := rfl
      unfold st_log_Serials_7
      (dsimp +instances only [gi0,gis,row1,rows1,int1,str1,bool1])
      simp only [Int.toNat_natCast, hx, e]
      (repeat(first|(refine Ret.pos ?_ ?_;(first|rfl|assumption|(simp only [inI,sl]<;>omega)))|(refine Ret.neg ?_ ?_;(first|rfl|assumption|(simp only [inI,sl]<;>omega)))))
      refine Ret.some ⟨(mput [.int .i64] s.1 [.i (gi x 4).int] [.i (fOf s.1 (gi x 4).int + 1)] s.2.1, mclk [.int .i64] s.1 [.i (gi x 4).int] s.2.1, if (gi x 4).int > s.2.2 then (gi x 4).int else s.2.2), rfl, ?_, ?_⟩
      · intro n
        rw [fOf_mput]
        have := hf n
        split <;> omega
      · simp only
        split <;> omega)
    (fun s hI => by
      unfold st_log_Serials_7
      (dsimp +instances only [gi0,gis,row1,rows1,int1,str1,bool1])
      simp only [Int.toNat_natCast]
      (repeat(first|(refine Ret.pos ?_ ?_;(first|rfl|assumption|(simp only [inI,sl]<;>omega)))|(refine Ret.neg ?_ ?_;(first|rfl|assumption|(simp only [inI,sl]<;>omega)))))
      exact Ret.some rfl)
  refine r.mono ?_
  rintro c g ⟨⟨m, k, top⟩, ⟨hf, h0, h1⟩, rfl, rfl⟩
  exact ⟨rfl, m, k, top, rfl, h0, h1, fun n => ⟨(hf n).1, by have h2 : fOf m n ≤ (l.length : Int) := (hf n).2; omega⟩⟩

/-- What one number does to the rows that are missing and to the numbers that were sent twice. -/
noncomputable def serStep (f : Int → Int) (s : List (List G) × List (List G)) (n : Int) : List (List G) × List (List G) :=
  if 1 < f n then (s.1, s.2 ++ [[.i n]])
  else if f n = 0 then
    match s.1.getLast? with
    | some r => if (gi r 1).int = n then (s.1.dropLast ++ [[.i (gi r 0).int, .i ((gi r 1).int + 1)]], s.2) else (s.1 ++ [[.i n, .i (n + 1)]], s.2)
    | none => (s.1 ++ [[.i n, .i (n + 1)]], s.2)
  else s
noncomputable def serL (f : Int → Int) : Nat → List (List G) × List (List G)
  | 0 => ([], [])
  | i + 1 => serStep f (serL f i) ((i : Int) + 1)

structure SerOK (s : List (List G) × List (List G)) (i : Nat) : Prop where
  l1 : s.1.length ≤ i
  l2 : s.2.length ≤ i
  r1 : ∀ r ∈ s.1, ∃ a b, r = [.i a, .i b] ∧ 0 ≤ b ∧ b ≤ i + 1
  r2 : ∀ r ∈ s.2, ∃ a, r = [.i a]

theorem serL_ok (f : Int → Int) : ∀ i, SerOK (serL f i) i
  | 0 => ⟨by simp [serL], by simp [serL], by simp [serL], by simp [serL]⟩
  | i + 1 => by
    obtain ⟨h1, h2, h3, h4⟩ := serL_ok f i
    have h3' : ∀ r ∈ (serL f i).1, ∃ a b, r = [.i a, .i b] ∧ 0 ≤ b ∧ b ≤ ((i + 1 : Nat) : Int) + 1 := fun r hr => by
      obtain ⟨a, b, e, q1, q2⟩ := h3 r hr
      exact ⟨a, b, e, q1, by omega⟩
    have h3n : ∀ r ∈ (serL f i).1 ++ [[.i ((i : Int) + 1), .i ((i : Int) + 1 + 1)]], ∃ a b, r = [.i a, .i b] ∧ 0 ≤ b ∧ b ≤ ((i + 1 : Nat) : Int) + 1 := fun r hr => by
      rcases List.mem_append.1 hr with hr | hr
      · exact h3' r hr
      · simp at hr
        exact ⟨_, _, hr, by omega, by omega⟩
    simp only [serL, serStep]
    split
    · refine ⟨by simp; omega, by simp; omega, h3', fun r hr => ?_⟩
      rcases List.mem_append.1 hr with hr | hr
      · exact h4 r hr
      · simp at hr
        exact ⟨_, hr⟩
    · split
      · split
        · rename_i r hr
          have hm := List.mem_of_getLast? hr
          obtain ⟨a, b, rfl, q1, q2⟩ := h3 r hm
          split
          · refine ⟨by simp; omega, by simp; omega, fun r hr => ?_, h4⟩
            rcases List.mem_append.1 hr with hr | hr
            · exact h3' r ((List.dropLast_sublist _).subset hr)
            · simp only [gi0, gis, int1, List.mem_singleton] at hr
              exact ⟨_, _, hr, by omega, by omega⟩
          · exact ⟨by simp; omega, by simp; omega, h3n, h4⟩
        · exact ⟨by simp; omega, by simp; omega, h3n, h4⟩
      · exact ⟨by omega, by omega, h3', h4⟩

theorem bf_false {a b : Int} (h : a ≠ b) : (a == b) = false := by simpa using h
theorem bf_true {a b : Int} (h : a = b) : (a == b) = true := by simpa using h

theorem tail22_set (m p tw : List (List G)) (k : Nat) (a b top n : Int) (hp : p.length < 200000) (h0 : 0 ≤ b) (h1 : b ≤ 200000) :
    Ret (tl_log_Serials_22 [.l m, .i (k : Int), .l (p ++ [[G.i a, G.i b]]), .l tw, .i top, .i n, .t true]) fun o => ∃ x, o.1 = some x ∧ o.2 = [.l m, .i (k : Int), .l (p ++ [[G.i a, G.i (b + 1)]]), .l tw, .i top, .i n] := by
  have hlen : (p ++ [[G.i a, G.i b]]).length = p.length + 1 := by simp
  have t0 : (((p.length + 1 : Nat) : Int) - 1).toNat = p.length := by omega
  have t1 : 0 + p.length = p.length := by omega
  have g1 : (p ++ [[G.i a, G.i b]]).getD p.length [] = [.i a, .i b] := getD_mid _ _ _ _ _ rfl
  have s1 : (p ++ [[G.i a, G.i b]]).set p.length [.i a, .i (b + 1)] = p ++ [[G.i a, G.i (b + 1)]] := set_mid _ _ _ _ _ rfl
  have hp2 : putG [.int .i64, .int .i64] [.i a, .i b] 1 [.i (b + 1)] = [.i a, .i (b + 1)] := rfl
  have hlen2 : (p ++ [[G.i a, G.i (b + 1)]]).length = p.length + 1 := by simp
  unfold tl_log_Serials_22
  (dsimp +instances only [gi0,gis,row1,rows1,int1,str1,bool1])
  simp only [hlen, Int.toNat_natCast, t0, t1, g1]
  (dsimp +instances only [gi0,gis,row1,rows1,int1,str1,bool1])
  simp only [hp2, s1, hlen2]
  (repeat(first|(refine Ret.pos ?_ ?_;(first|rfl|assumption|(simp only [inI,sl]<;>omega)))|(refine Ret.neg ?_ ?_;(first|rfl|assumption|(simp only [inI,sl]<;>omega)))))
  exact Ret.some ⟨0, rfl, rfl⟩
theorem tail22_app (m rows tw : List (List G)) (k : Nat) (top n : Int) (hp : rows.length < 200000) (h0 : 0 ≤ n) (h1 : n ≤ 200000) :
    Ret (tl_log_Serials_22 [.l m, .i (k : Int), .l rows, .l tw, .i top, .i n, .t false]) fun o => ∃ x, o.1 = some x ∧ o.2 = [.l m, .i (k : Int), .l (rows ++ [[.i n, .i (n + 1)]]), .l tw, .i top, .i n] := by
  unfold tl_log_Serials_22
  (dsimp +instances only [gi0,gis,row1,rows1,int1,str1,bool1])
  simp only [Int.toNat_natCast]
  (repeat(first|(refine Ret.pos ?_ ?_;(first|rfl|assumption|(simp only [inI,sl]<;>omega)))|(refine Ret.neg ?_ ?_;(first|rfl|assumption|(simp only [inI,sl]<;>omega)))))
  exact Ret.some ⟨0, rfl, rfl⟩

theorem serRound (m rows tw : List (List G)) (k i : Nat) (top n : Int) (hn : 0 ≤ n) (hn1 : n ≤ 100000) (ht : n ≤ top) (hf : 0 ≤ fOf m n) (hs : SerOK (rows, tw) i) (hi : i ≤ 100000) :
    Ret (st_log_Serials_15 [.l m, .i (k : Int), .l rows, .l tw, .i top, .i n]) fun o => o = (none, [.l m, .i (k : Int), .l (serStep (fOf m) (rows, tw) n).1, .l (serStep (fOf m) (rows, tw) n).2, .i top, .i (n + 1)]) := by
  obtain ⟨h1, h2, h3, h4⟩ := hs
  simp only at h1 h2 h3 h4
  have e : (gi (mget [.int .i64] m [.i n] [.i 0]) 0).int = fOf m n := rfl
  unfold st_log_Serials_15 serStep
  (dsimp +instances only [gi0,gis,row1,rows1,int1,str1,bool1])
  simp only [Int.toNat_natCast, e]
  refine Ret.pos (by (first|rfl|assumption|(simp only [inI,sl]<;>omega))) ?_
  by_cases c1 : 1 < fOf m n
  · rw [if_pos c1]
    (repeat(first|(refine Ret.pos ?_ ?_;(first|rfl|assumption|(simp only [inI,sl]<;>omega)))|(refine Ret.neg ?_ ?_;(first|rfl|assumption|(simp only [inI,sl]<;>omega)))))
    exact Ret.some rfl
  · rw [if_neg c1]
    refine Ret.neg (by (first|rfl|assumption|(simp only [inI,sl]<;>omega))) ?_
    by_cases c2 : fOf m n = 1
    · rw [if_neg (by omega)]
      rw [c2]
      (repeat(first|(refine Ret.pos ?_ ?_;(first|rfl|assumption|(simp only [inI,sl]<;>omega)))|(refine Ret.neg ?_ ?_;(first|rfl|assumption|(simp only [inI,sl]<;>omega)))))
      exact Ret.some rfl
    · have c0 : fOf m n = 0 := by omega
      rw [if_pos c0]
      refine Ret.neg (bf_false c2) ?_
      rcases List.eq_nil_or_concat rows with rfl | ⟨p, r, rfl⟩
      · (repeat(first|(refine Ret.pos ?_ ?_;(first|rfl|assumption|(simp only [inI,sl]<;>omega)))|(refine Ret.neg ?_ ?_;(first|rfl|assumption|(simp only [inI,sl]<;>omega)))))
        refine Ret.tail (P := fun _ g => g = _) (tail22_app m [] tw k top n (by simp) hn (by omega)) (by (first|rfl|assumption|(simp only [inI,sl]<;>omega))) ?_
        rintro _ _ rfl
        (dsimp +instances only [gi0,gis,row1,rows1,int1,str1,bool1])
        simp only [Int.toNat_natCast]
        (repeat(first|(refine Ret.pos ?_ ?_;(first|rfl|assumption|(simp only [inI,sl]<;>omega)))|(refine Ret.neg ?_ ?_;(first|rfl|assumption|(simp only [inI,sl]<;>omega)))))
        exact Ret.some rfl
      · rw [List.concat_eq_append] at *
        obtain ⟨a, b, rfl, q1, q2⟩ := h3 r (by simp)
        have hlen : (p ++ [[G.i a, G.i b]]).length = p.length + 1 := by simp
        have t0 : (((p.length + 1 : Nat) : Int) - 1).toNat = p.length := by omega
        have t1 : 0 + p.length = p.length := by omega
        have g1 : (p ++ [[G.i a, G.i b]]).getD p.length [] = [.i a, .i b] := getD_mid _ _ _ _ _ rfl
        have hl : (p ++ [[G.i a, G.i b]]).getLast? = some [.i a, .i b] := by simp
        have hd : (p ++ [[G.i a, G.i b]]).dropLast = p := by simp
        rw [hlen] at h1
        simp only [hlen, t0, t1, g1, hl, hd]
        (dsimp +instances only [gi0,gis,row1,rows1,int1,str1,bool1])
        refine Ret.pos (by (first|rfl|assumption|(simp only [inI,sl]<;>omega))) (Ret.pos (by (first|rfl|assumption|(simp only [inI,sl]<;>omega))) (Ret.pos (by (first|rfl|assumption|(simp only [inI,sl]<;>omega))) (Ret.pos (by (first|rfl|assumption|(simp only [inI,sl]<;>omega))) ?_)))
        by_cases c3 : b = n
        · rw [if_pos c3, bf_true c3]
          refine Ret.tail (P := fun _ g => g = _) (tail22_set m p tw k a b top n (by omega) q1 (by omega)) (by (first|rfl|assumption|(simp only [inI,sl]<;>omega))) ?_
          rintro _ _ rfl
          (dsimp +instances only [gi0,gis,row1,rows1,int1,str1,bool1])
          simp only [Int.toNat_natCast]
          (repeat(first|(refine Ret.pos ?_ ?_;(first|rfl|assumption|(simp only [inI,sl]<;>omega)))|(refine Ret.neg ?_ ?_;(first|rfl|assumption|(simp only [inI,sl]<;>omega)))))
          exact Ret.some rfl
        · rw [if_neg c3, bf_false c3]
          refine Ret.tail (P := fun _ g => g = _) (tail22_app m (p ++ [[G.i a, G.i b]]) tw k top n (by omega) hn (by omega)) (by (first|rfl|assumption|(simp only [inI,sl]<;>omega))) ?_
          rintro _ _ rfl
          (dsimp +instances only [gi0,gis,row1,rows1,int1,str1,bool1])
          simp only [Int.toNat_natCast]
          (repeat(first|(refine Ret.pos ?_ ?_;(first|rfl|assumption|(simp only [inI,sl]<;>omega)))|(refine Ret.neg ?_ ?_;(first|rfl|assumption|(simp only [inI,sl]<;>omega)))))
          exact Ret.some rfl

theorem ser_loop (m : List (List G)) (k : Nat) (top : Int) (h0 : 0 ≤ top) (h1 : top ≤ 99999) (hf : ∀ n, 0 ≤ fOf m n) :
    RetL st_log_Serials_15 [.l m, .i (k : Int), .l [], .l [], .i top, .i 1] fun c g => c = 0 ∧ g = [.l (serL (fOf m) top.toNat).1, .l (serL (fOf m) top.toNat).2] := by
  have r := count_runs (st := st_log_Serials_15) (σ := List (List G) × List (List G)) (fun s i => [.l m, .i (k : Int), .l s.1, .l s.2, .i top, .i ((i : Int) + 1)]) top.toNat (fun s => (0, [.l s.1, .l s.2])) (fun s i => s = serL (fOf m) i) (fun _ _ => False)
    (fun s i hs hi => by
      have hk := serL_ok (fOf m) i
      have hx : Ret (st_log_Serials_15 [.l m, .i (k : Int), .l s.1, .l s.2, .i top, .i ((i : Int) + 1)]) _ := serRound m s.1 s.2 k i top ((i : Int) + 1) (by omega) (by omega) (by omega) (hf _) (by rw [hs]; exact hk) (by omega)
      refine hx.mono ?_
      rintro _ rfl
      exact .inl ⟨serL (fOf m) (i + 1), by rw [hs]; rfl, rfl⟩)
    (fun s hs => by
      have e : ((top.toNat : Int) + 1) = top + 1 := by omega
      unfold st_log_Serials_15
      (dsimp +instances only [gi0,gis,row1,rows1,int1,str1,bool1])
      simp only [e]
      (repeat(first|(refine Ret.pos ?_ ?_;(first|rfl|assumption|(simp only [inI,sl]<;>omega)))|(refine Ret.neg ?_ ?_;(first|rfl|assumption|(simp only [inI,sl]<;>omega)))))
      exact Ret.some rfl)
    top.toNat ([], []) 0 (by omega) rfl
  refine (r.to (by omega)).mono ?_
  rintro c g (⟨s, rfl, rfl, rfl⟩ | h)
  · exact ⟨rfl, rfl⟩
  · exact h.elim
theorem RetL.det {st : List G → Option (Option Nat × List G)} {d : List G} {Q : Nat → List G → Prop} (h : RetL st d Q) : ∃ c g, Q c g ∧ RetL st d fun x y => x = c ∧ y = g := by
  obtain ⟨n, x, d', h1, h2, h3⟩ := h
  exact ⟨x, d', h3, n, x, d', h1, h2, rfl, rfl⟩

end Go.Proofs.SYtpfhjchbegdgdaaGreatDoor

namespace Go.Proofs.SYtpfhjchbegdgdaaGreatDoor
open Go Go.AL Go.Proofs

/-- A row of the kinds of a contact. -/
noncomputable def Row8 (r : List G) : Prop := ∃ (t m : Int) (b c : ByteArray) (s h : Int) (x y : ByteArray), r = [.i t, .i m, .s b, .s c, .i s, .i h, .s x, .s y]
theorem Con.row {r : List G} (h : Con r) : Row8 r := by
  obtain ⟨t, m, b, c, s, h, x, y, e, _⟩ := h
  exact ⟨t, m, b, c, s, h, x, y, e⟩
theorem Row8.eta {r : List G} (h : Row8 r) : gEta KContact r = r := by
  obtain ⟨t, m, b, c, s, h, x, y, rfl⟩ := h
  rfl
theorem Row8.put {r : List G} (h : Row8 r) (n : Int) : Row8 (putG KContact r 4 [.i n]) := by
  obtain ⟨t, m, b, c, s, h, x, y, rfl⟩ := h
  exact ⟨t, m, b, c, n, h, x, y, rfl⟩
theorem kds8 : Kds KContact Row8 := ⟨fun _ h => h.eta⟩

theorem renum_loop (l : List (List G)) (hC : ∀ z ∈ l, Con z) (hn : l.length < 90000) (from0 : Int) (h0 : 1 ≤ from0) (h1 : from0 ≤ 99999) :
    RetL st_log_Renumber_8 [.l l, .i from0, .i (l.length : Int), .i 0] fun c g => c = 0 ∧ ∃ rows, g = [.l rows] ∧ (∀ r ∈ rows, Row8 r) ∧ rows.length = l.length := by
  have r := count_runs (st := st_log_Renumber_8) (σ := List (List G)) (fun s i => [.l s, .i from0, .i (l.length : Int), .i (i : Int)]) l.length (fun s => (0, [.l s])) (fun s _ => s.length = l.length ∧ ∀ r ∈ s, Row8 r) (fun _ _ => False)
    (fun s i hs hi => by
      obtain ⟨hl, hr⟩ := hs
      unfold st_log_Renumber_8
      (dsimp +instances only [gi0,gis,row1,rows1,int1,str1,bool1])
      simp only [Int.toNat_natCast, Nat.zero_add]
      (repeat(first|(refine Ret.pos ?_ ?_;(first|rfl|assumption|(simp only [inI,sl]<;>omega)))|(refine Ret.neg ?_ ?_;(first|rfl|assumption|(simp only [inI,sl]<;>omega)))))
      refine Ret.some (.inl ⟨s.set i (putG KContact (s.getD i []) 4 [.i (from0 + i)]), rfl, by simp [hl], fun r hr' => ?_⟩)
      rcases List.mem_or_eq_of_mem_set hr' with h | rfl
      · exact hr r h
      · exact (hr _ (getD_row (by omega))).put _)
    (fun s hs => by
      unfold st_log_Renumber_8
      (dsimp +instances only [gi0,gis,row1,rows1,int1,str1,bool1])
      (repeat(first|(refine Ret.pos ?_ ?_;(first|rfl|assumption|(simp only [inI,sl]<;>omega)))|(refine Ret.neg ?_ ?_;(first|rfl|assumption|(simp only [inI,sl]<;>omega)))))
      exact Ret.some rfl)
    l.length l 0 (by omega) ⟨rfl, fun r hr => (hC r hr).row⟩
  refine (r.to (by omega)).mono ?_
  rintro c g (⟨s, ⟨h2, h3⟩, rfl, rfl⟩ | h)
  · exact ⟨rfl, s, rfl, h3, h2⟩
  · exact h.elim

/-! ### Duplicates -/

noncomputable def baseOf (s : ByteArray) : ByteArray := (gi ((F_call_BaseOf [.s s]).getD []) 0).str
theorem base_eq {s : ByteArray} (h : s ∈ calls) : F_call_BaseOf [.s s] = some [.s (baseOf s)] := by
  simp only [calls, List.mem_cons, List.not_mem_nil, or_false] at h
  rcases h with (rfl | rfl | rfl | rfl | rfl | rfl | rfl | rfl | rfl | rfl | rfl | rfl | rfl | rfl) <;> kernel_rfl
abbrev K3 : List Kd := [.str, .str, .int .i64]
/-- Who was worked, on which band, in which mode. -/
noncomputable def wk (y : List G) : List G := [.s (baseOf (gi y 3).str), .s (gi y 2).str, .i (gi y 1).int]
noncomputable def dupB (l : List (List G)) (i : Nat) : Bool := (l.take i).any fun y => rowEq K3 (wk (l.getD i [])) (wk y)
noncomputable def dupL (l : List (List G)) : Nat → List (List G)
  | 0 => []
  | i + 1 => dupL l i ++ bif dupB l i then [[.i (i : Int)]] else []
theorem dupL_length (l : List (List G)) : ∀ i, (dupL l i).length ≤ i
  | 0 => Nat.le_refl _
  | i + 1 => by
    have := dupL_length l i
    simp only [dupL, List.length_append]
    cases dupB l i <;> simp <;> omega
theorem dupL_row (l : List (List G)) : ∀ i, ∀ r ∈ dupL l i, ∃ a, r = [.i a]
  | 0, r, h => by cases h
  | i + 1, r, h => by
    simp only [dupL] at h
    rcases List.mem_append.1 h with h | h
    · exact dupL_row l i r h
    · cases hb : dupB l i with
      | true => rw [hb] at h; simp at h; exact ⟨_, h⟩
      | false => rw [hb] at h; simp at h

theorem dupes_ok (l : List (List G)) (hC : ∀ z ∈ l, Con z) (hn : l.length < 90000) : F_log_dupes [.l l] = some [.l (dupL l l.length)] := by
  refine Ret.toEq ?_
  unfold F_log_dupes
  (dsimp +instances only [gi0,gis,row1,rows1,int1,str1,bool1])
  have r := range_all (st := st_log_dupes_4) (σ := List (List G) × Nat × List (List G)) (fun s i => [.l s.1, .i (s.2.1 : Int), .l s.2.2, .l l, .i (l.length : Int), .i (i : Int)]) l (fun s => (0, [.l s.2.2]))
    (fun s i => (∀ key, (gi (mget K3 s.1 key [.t false]) 0).bool = (l.take i).any fun y => rowEq K3 key (wk y)) ∧ s.2.2 = dupL l i) ([], 0, []) (by omega) ⟨fun key => by simp [mget_nil]; rfl, rfl⟩
    (fun s i x hI hi hx hm ht => by
      obtain ⟨hs, hd⟩ := hI
      have hc : (gi x 3).str ∈ calls := by
        obtain ⟨t, m, b, c, s, h, x', y', rfl, _, _, _, _, _, hc, _⟩ := hC x hm
        exact hc
      have hl := dupL_length l i
      rw [← hd] at hl
      have hk : (gi (mget K3 s.1 [.s (baseOf (gi x 3).str), .s (gi x 2).str, .i (gi x 1).int] [.t false]) 0).bool = dupB l i := by
        rw [hs]
        unfold dupB
        rw [hx]
        rfl
      unfold st_log_dupes_4
      (dsimp +instances only [gi0,gis,row1,rows1,int1,str1,bool1])
      simp only [Int.toNat_natCast, hx]
      refine Ret.pos (by (first|rfl|assumption|(simp only [inI,sl]<;>omega))) (Ret.pos (by (first|rfl|assumption|(simp only [inI,sl]<;>omega))) ?_)
      refine Ret.call (Ret.eq (base_eq hc)) ?_
      rintro _ rfl
      (dsimp +instances only [gi0,gis,row1,rows1,int1,str1,bool1])
      have upd : ∀ key, (gi (mget K3 (mput K3 s.1 (wk x) [.t true] s.2.1) key [.t false]) 0).bool = (l.take (i + 1)).any fun y => rowEq K3 key (wk y) := fun key => by
        rw [mget_mput, ht, List.any_append, ← hs key]
        cases hk : rowEq K3 key (wk x) <;> simp [hk, gi0, bool1]
      refine Ret.test (fun h => ?_) fun h => ?_
      · have hb : dupB l i = true := hk ▸ h
        (repeat(first|(refine Ret.pos ?_ ?_;(first|rfl|assumption|(simp only [inI,sl]<;>omega)))|(refine Ret.neg ?_ ?_;(first|rfl|assumption|(simp only [inI,sl]<;>omega)))))
        exact Ret.some ⟨(mput K3 s.1 (wk x) [.t true] s.2.1, mclk K3 s.1 (wk x) s.2.1, s.2.2 ++ [[.i (i : Int)]]), rfl, upd, by simp only [dupL, hb, hd, cond_true]⟩
      · have hb : dupB l i = false := hk ▸ h
        (repeat(first|(refine Ret.pos ?_ ?_;(first|rfl|assumption|(simp only [inI,sl]<;>omega)))|(refine Ret.neg ?_ ?_;(first|rfl|assumption|(simp only [inI,sl]<;>omega)))))
        exact Ret.some ⟨(mput K3 s.1 (wk x) [.t true] s.2.1, mclk K3 s.1 (wk x) s.2.1, s.2.2), rfl, upd, by simp only [dupL, hb, hd, cond_false, List.append_nil]⟩)
    (fun s hI => by
      unfold st_log_dupes_4
      (dsimp +instances only [gi0,gis,row1,rows1,int1,str1,bool1])
      (repeat(first|(refine Ret.pos ?_ ?_;(first|rfl|assumption|(simp only [inI,sl]<;>omega)))|(refine Ret.neg ?_ ?_;(first|rfl|assumption|(simp only [inI,sl]<;>omega)))))
      exact Ret.some rfl)
  refine Ret.loop r rfl ?_
  rintro c g ⟨⟨m, k, out⟩, ⟨_, rfl⟩, rfl, rfl⟩
  (dsimp +instances only [gi0,gis,row1,rows1,int1,str1,bool1])
  (repeat(first|(refine Ret.pos ?_ ?_;(first|rfl|assumption|(simp only [inI,sl]<;>omega)))|(refine Ret.neg ?_ ?_;(first|rfl|assumption|(simp only [inI,sl]<;>omega)))))
  exact Ret.some rfl

end Go.Proofs.SYtpfhjchbegdgdaaGreatDoor

namespace Go.Proofs.SYtpfhjchbegdgdaaGreatDoor
open Go Go.AL Go.Proofs

theorem eta2 (a b : Int) (r : List G) : gEta [.int .i64, .int .i64] (.i a :: .i b :: r) = [.i a, .i b] := rfl

noncomputable def has (a b t : Int) : Bool := leI a t && ltI t b
theorem has_iff {a b t : Int} (h : has a b t = true) : a ≤ t ∧ t < b := by
  simpa only [has, leI_eq, ltI_eq, Bool.and_eq_true, decide_eq_true_eq] using h
noncomputable def okW (a b : Int) : Bool := inB a 0 b && leI b 345686400000
theorem okW_iff {a b : Int} (h : okW a b = true) : 0 ≤ a ∧ a ≤ b ∧ b ≤ 345686400000 := by
  simp only [okW, inB, leI_eq, Bool.and_eq_true, decide_eq_true_eq] at h
  exact ⟨h.1.1, h.1.2, h.2⟩
noncomputable def firstE : List Int → Int
  | [] => 0
  | x :: q => bif x != 0 then x else firstE q
theorem errs_runs : ∀ (q p : List (List G)) (xs : List Int), q = xs.map (fun x => [G.i x]) → p.length + q.length < 100000 →
    RetN st_pilekeep2_errs_2 [.l (p ++ q), .i ((p.length + q.length : Nat) : Int), .i (p.length : Int)] (q.length + 1) fun c g => (c = 0 ∧ g = [.i (firstE xs)]) ∨ c = 1 ∧ firstE xs = 0
  | [], p, xs, hq, hl => by
    have : xs = [] := by
      cases xs with
      | nil => rfl
      | cons x xs => simp at hq
    subst this
    refine RetN.stop (x := 1) (d' := []) (Ret.toEq ?_) (.inr ⟨rfl, rfl⟩)
    unfold st_pilekeep2_errs_2
    (dsimp +instances only [gi0,gis,row1,rows1,int1,str1,bool1])
    (repeat(first|(refine Ret.pos ?_ ?_;(first|rfl|assumption|(simp only [inI,sl]<;>omega)))|(refine Ret.neg ?_ ?_;(first|rfl|assumption|(simp only [inI,sl]<;>omega)))))
    exact Ret.some rfl
  | y :: q, p, xs, hq, hl => by
    match xs, hq with
    | x :: xs, hq2 =>
      have h := hq2
      simp only [List.map_cons, List.cons.injEq] at h
      obtain ⟨rfl, hq3⟩ := h
      simp only [List.length_cons] at hl
      have g1 : (p ++ [.i x] :: q).getD (p.length : Int).toNat [] = [.i x] := getD_mid _ _ _ _ _ (by simp)
      have hlen : (p ++ [.i x] :: q).length = p.length + q.length + 1 := by simp; omega
      by_cases hx : x = 0
      · have ih := errs_runs q (p ++ [[.i x]]) xs hq3 (by simp; omega)
        subst hx
        have e : firstE (0 :: xs) = firstE xs := rfl
        rw [e]
        refine RetN.next (Ret.toEq ?_) ih
        unfold st_pilekeep2_errs_2
        (dsimp +instances only [gi0,gis,row1,rows1,int1,str1,bool1])
        simp only [g1, hlen, List.length_cons]
        (dsimp +instances only [gi0,gis,row1,rows1,int1,str1,bool1])
        (repeat(first|(refine Ret.pos ?_ ?_;(first|rfl|assumption|(simp only [inI,sl]<;>omega)))|(refine Ret.neg ?_ ?_;(first|rfl|assumption|(simp only [inI,sl]<;>omega)))))
        refine Ret.some ?_
        simp
        omega
      · have hb : (x != 0) = true := by simpa using hx
        refine RetN.stop (x := 0) (d' := [.i x]) (Ret.toEq ?_) (.inl ⟨rfl, by simp only [firstE, hb, cond_true]⟩)
        unfold st_pilekeep2_errs_2
        (dsimp +instances only [gi0,gis,row1,rows1,int1,str1,bool1])
        simp only [g1, hlen, List.length_cons]
        (dsimp +instances only [gi0,gis,row1,rows1,int1,str1,bool1])
        refine Ret.pos (by (first|rfl|assumption|(simp only [inI,sl]<;>omega))) (Ret.pos (by (first|rfl|assumption|(simp only [inI,sl]<;>omega))) (Ret.pos hb (Ret.some rfl)))
theorem errs_eq (xs : List Int) (h : xs.length < 1000) : F_pilekeep2_errs [.l (xs.map fun x => [.i x])] = some [.i (firstE xs)] := by
  refine Ret.toEq ?_
  unfold F_pilekeep2_errs
  (dsimp +instances only [gi0,gis,row1,rows1,int1,str1,bool1])
  have h1 := errs_runs (xs.map fun x => [G.i x]) [] xs rfl (by simp; omega)
  have h0 : ((0 : Nat) : Int) = 0 := rfl
  simp only [List.nil_append, List.length_nil, Nat.zero_add, h0] at h1
  refine Ret.loop (h1.to (by simp; omega)) rfl ?_
  rintro c g (⟨rfl, rfl⟩ | ⟨rfl, h⟩)
  · exact Ret.some rfl
  · exact Ret.some (by rw [h])

/-! ### Pauses -/

noncomputable def put1 (least : Int) (s : List (List G) × Int) (to : Int) : List (List G) := if least ≤ to - s.2 then s.1 ++ [[.i s.2, .i to]] else s.1
noncomputable def pauseL (l : List (List G)) (a b least : Int) : Nat → List (List G) × Int
  | 0 => ([], a)
  | i + 1 => bif has a b (gi (l.getD i []) 0).int then (put1 least (pauseL l a b least i) (gi (l.getD i []) 0).int, (gi (l.getD i []) 0).int + 1) else pauseL l a b least i

structure PauseOK (s : List (List G) × Int) (i : Nat) : Prop where
  len : s.1.length ≤ i
  rows : ∀ r ∈ s.1, ∃ a b, r = [.i a, .i b]
  at0 : 0 ≤ s.2
  at1 : s.2 ≤ 345686400000

theorem put1_ok {least : Int} {s : List (List G) × Int} {i : Nat} (h : PauseOK s i) (to : Int) : (put1 least s to).length ≤ i + 1 ∧ ∀ r ∈ put1 least s to, ∃ a b, r = [.i a, .i b] := by
  obtain ⟨h1, h2, _, _⟩ := h
  unfold put1
  split
  · refine ⟨by simp; omega, fun r hr => ?_⟩
    rcases List.mem_append.1 hr with hr | hr
    · exact h2 r hr
    · simp at hr
      exact ⟨_, _, hr⟩
  · exact ⟨by omega, h2⟩
theorem pauseL_ok (l : List (List G)) (a b least : Int) (ha : 0 ≤ a) (ha1 : a ≤ b) (hb : b ≤ 345686400000) : ∀ i, PauseOK (pauseL l a b least i) i
  | 0 => ⟨by simp [pauseL], by simp [pauseL], by simpa [pauseL] using ha, by simp [pauseL]; omega⟩
  | i + 1 => by
    have ih := pauseL_ok l a b least ha ha1 hb i
    simp only [pauseL]
    cases hh : has a b (gi (l.getD i []) 0).int with
    | false => exact ⟨Nat.le_succ_of_le ih.len, ih.rows, ih.at0, ih.at1⟩
    | true =>
      obtain ⟨h1, h2⟩ := has_iff hh
      obtain ⟨g1, g2⟩ := put1_ok (least := least) ih (gi (l.getD i []) 0).int
      exact ⟨g1, g2, by simp only [cond_true]; omega, by simp only [cond_true]; omega⟩

noncomputable def pausesA (l : List (List G)) (a b least : Int) : List (List G) := put1 least (pauseL l a b least l.length) b

theorem pausesA_rows (l : List (List G)) (a b least : Int) (hw : okW a b = true) : (pausesA l a b least).length ≤ l.length + 1 ∧ ∀ r ∈ pausesA l a b least, ∃ a b, r = [.i a, .i b] := by
  obtain ⟨q0, q1, q2⟩ := okW_iff hw
  exact put1_ok (pauseL_ok l a b least q0 q1 q2 l.length) b

/-! ### Hours -/

noncomputable def hourAt (a t : Int) : Nat := (Int.tdiv (t - a) 3600000).toNat
noncomputable def hoursL (l : List (List G)) (a b : Int) (z : List (List G)) : Nat → List (List G)
  | 0 => z
  | i + 1 => bif has a b (gi (l.getD i []) 0).int then
      (hoursL l a b z i).set (hourAt a (gi (l.getD i []) 0).int) [.i ((gi ((hoursL l a b z i).getD (hourAt a (gi (l.getD i []) 0).int) []) 0).int + 1)] else hoursL l a b z i
noncomputable def hourN (a b : Int) : Int := Int.tdiv (b - a + 3600000 - 1) 3600000
noncomputable def zeros (a b : Int) : List (List G) := List.replicate (hourN a b).toNat [.i 0]

structure HourOK (s : List (List G)) (n i : Nat) : Prop where
  len : s.length = n
  rows : ∀ r ∈ s, ∃ v, r = [.i v] ∧ 0 ≤ v ∧ v ≤ i

theorem hourAt_lt {a b t : Int} (h1 : a ≤ t) (h2 : t < b) : 0 ≤ Int.tdiv (t - a) 3600000 ∧ Int.tdiv (t - a) 3600000 < hourN a b ∧ Int.tdiv (t - a) 3600000 ≤ t - a := by
  unfold hourN
  rw [Int.tdiv_eq_ediv_of_nonneg (by omega), Int.tdiv_eq_ediv_of_nonneg (by omega)]
  omega
theorem hourN_nonneg {a b : Int} (h : a ≤ b) : 0 ≤ hourN a b ∧ hourN a b ≤ b - a + 3600000 := by
  unfold hourN
  rw [Int.tdiv_eq_ediv_of_nonneg (by omega)]
  omega

theorem hoursL_ok (l : List (List G)) (a b : Int) (h : a ≤ b) : ∀ i, HourOK (hoursL l a b (zeros a b) i) (hourN a b).toNat i
  | 0 => ⟨by simp [hoursL, zeros], fun r hr => by
      simp only [hoursL, zeros, List.mem_replicate] at hr
      exact ⟨0, hr.2, by omega, by omega⟩⟩
  | i + 1 => by
    have ih := hoursL_ok l a b h i
    simp only [hoursL]
    cases hh : has a b (gi (l.getD i []) 0).int with
    | false => exact ⟨ih.len, fun r hr => by obtain ⟨v, e, q1, q2⟩ := ih.rows r hr; exact ⟨v, e, q1, by omega⟩⟩
    | true =>
      obtain ⟨h1, h2⟩ := has_iff hh
      obtain ⟨k1, k2, _⟩ := hourAt_lt h1 h2
      have hlt : hourAt a (gi (l.getD i []) 0).int < (hoursL l a b (zeros a b) i).length := by rw [ih.len]; unfold hourAt; omega
      refine ⟨by simpa using ih.len, fun r hr => ?_⟩
      rcases List.mem_or_eq_of_mem_set hr with hr | rfl
      · obtain ⟨v, e, q1, q2⟩ := ih.rows r hr
        exact ⟨v, e, q1, by omega⟩
      · obtain ⟨v, e, q1, q2⟩ := ih.rows _ (getD_row hlt)
        rw [e]
        exact ⟨v + 1, rfl, by omega, by omega⟩

noncomputable def hoursA (l : List (List G)) (a b : Int) : List G := if 1000 < hourN a b then [.l [], .i 2] else [.l (hoursL l a b (zeros a b) l.length), .i 0]

end Go.Proofs.SYtpfhjchbegdgdaaGreatDoor

namespace Go.Proofs.SYtpfhjchbegdgdaaGreatDoor
open Go Go.AL Go.Proofs

/-- Rounds that look for a right log. -/
theorem right_runs (l : List (List G)) (n : Int) (h0 : 0 ≤ n) (h1 : n ≤ 20) : ∀ (k i : Nat) (a : Int), i + k = 5 → 0 ≤ a → a ≤ 1000 + 420 * (i : Int) →
    RetN st_pilemake_Stream_RightContacts_2 [.l l, .i a, .i n, .i (i : Int)] (k + 1) fun c g => (c = 0 ∧ ∃ b rows, g = [.l l, .i b, .l rows] ∧ 0 ≤ b ∧ b ≤ 10000 ∧ (∀ z ∈ rows, ConT z) ∧ (rows.length : Int) ≤ n ∧ faultLog rows = 0) ∨ (c = 1 ∧ ∃ b, g = [.l l, .i b] ∧ 0 ≤ b ∧ b ≤ 10000)
  | 0, i, a, hi, ha, ha1 => by
    refine RetN.stop (x := 1) (Ret.toEq ?_) (.inr ⟨rfl, a, rfl, ha, by omega⟩)
    unfold st_pilemake_Stream_RightContacts_2
    (dsimp +instances only [gi0,gis,row1,rows1,int1,str1,bool1])
    (repeat(first|(refine Ret.pos ?_ ?_;(first|rfl|assumption|(simp only [inI,sl]<;>omega)))|(refine Ret.neg ?_ ?_;(first|rfl|assumption|(simp only [inI,sl]<;>omega)))))
    exact Ret.some rfl
  | k + 1, i, a, hi, ha, ha1 => by
    have key : Ret (st_pilemake_Stream_RightContacts_2 [.l l, .i a, .i n, .i (i : Int)]) fun o => (∃ b rows, o = (some 0, [.l l, .i b, .l rows]) ∧ 0 ≤ b ∧ b ≤ 10000 ∧ (∀ z ∈ rows, ConT z) ∧ (rows.length : Int) ≤ n ∧ faultLog rows = 0) ∨
        ∃ b, o = (none, [.l l, .i b, .i n, .i ((i + 1 : Nat) : Int)]) ∧ a ≤ b ∧ b ≤ a + 420 := by
      unfold st_pilemake_Stream_RightContacts_2
      (dsimp +instances only [gi0,gis,row1,rows1,int1,str1,bool1])
      (repeat(first|(refine Ret.pos ?_ ?_;(first|rfl|assumption|(simp only [inI,sl]<;>omega)))|(refine Ret.neg ?_ ?_;(first|rfl|assumption|(simp only [inI,sl]<;>omega)))))
      refine Ret.call (r_Contacts l a n ha (by omega) h0 h1) ?_
      rintro _ ⟨b, rows, rfl, g1, g2, g3, g4⟩
      (dsimp +instances only [gi0,gis,row1,rows1,int1,str1,bool1])
      refine Ret.call (Ret.eq (logFault_eq rows (fun z hz => (g3 z hz).to) (by omega))) ?_
      rintro _ rfl
      (dsimp +instances only [gi0,gis,row1,rows1,int1,str1,bool1])
      refine Ret.test (fun h => ?_) fun h => ?_
      · exact Ret.some (.inl ⟨b, rows, rfl, by omega, by omega, g3, g4, by simpa using h⟩)
      · (repeat(first|(refine Ret.pos ?_ ?_;(first|rfl|assumption|(simp only [inI,sl]<;>omega)))|(refine Ret.neg ?_ ?_;(first|rfl|assumption|(simp only [inI,sl]<;>omega)))))
        exact Ret.some (.inr ⟨b, by simp, g1, g2⟩)
    obtain ⟨_, h, ⟨b, rows, rfl, q1, q2, q3, q4, q5⟩ | ⟨b, rfl, q1, q2⟩⟩ := key
    · exact RetN.stop h (.inl ⟨rfl, b, rows, rfl, q1, q2, q3, q4, q5⟩)
    · exact RetN.next h (right_runs l n h0 h1 k (i + 1) b (by omega) (by omega) (by omega))

theorem r_Right (l : List (List G)) (a n : Int) (ha : 0 ≤ a) (ha1 : a ≤ 1000) (h0 : 0 ≤ n) (h1 : n ≤ 20) :
    Ret (F_pilemake_Stream_RightContacts [.l l, .i a, .i n]) fun g => ∃ b rows, g = [.l l, .i b, .l rows] ∧ 0 ≤ b ∧ b ≤ 10000 ∧ (∀ z ∈ rows, ConT z) ∧ (rows.length : Int) ≤ n ∧ faultLog rows = 0 := by
  unfold F_pilemake_Stream_RightContacts
  (dsimp +instances only [gi0,gis,row1,rows1,int1,str1,bool1])
  refine Ret.loop ((right_runs l n h0 h1 5 0 a rfl ha (by omega)).to (by omega)) rfl ?_
  rintro c g (⟨rfl, b, rows, rfl, q⟩ | ⟨rfl, b, rfl, q1, q2⟩)
  · exact Ret.pos rfl (Ret.some ⟨b, rows, rfl, q⟩)
  · exact Ret.neg rfl (Ret.some ⟨b, [], rfl, q1, q2, by simp, by simpa using h0, rfl⟩)

noncomputable def atL (l : List (List G)) (k : Nat) : Int := (gi (l.getD k []) 0).int

theorem ordC_at {r s : List G} (h : ordC r s < 0) : (gi r 0).int ≤ (gi s 0).int := by
  refine Int.not_lt.1 fun hlt => ?_
  have e : cmpI (gi r 0).int (gi s 0).int = 1 := by
    unfold cmpI
    rw [if_neg (by omega), if_pos hlt]
  unfold ordC or4 at h
  rw [e] at h
  simp at h

theorem faultL_at : ∀ {l : List (List G)} {y : List G}, faultL (some y) l = 0 → (y :: l).Pairwise fun a b => (gi a 0).int ≤ (gi b 0).int
  | [], y, _ => by simp
  | x :: q, y, h => by
    simp only [faultL] at h
    split at h
    · contradiction
    · split at h
      · cases h
      · have ih := faultL_at h
        have hyx : (gi y 0).int ≤ (gi x 0).int := ordC_at (by omega)
        refine List.pairwise_cons.2 ⟨fun z hz => ?_, ih⟩
        rcases List.mem_cons.1 hz with rfl | hz
        · exact hyx
        · exact Int.le_trans hyx ((List.pairwise_cons.1 ih).1 z hz)

theorem log_sorted {l : List (List G)} (h : faultLog l = 0) : l.Pairwise fun a b => (gi a 0).int ≤ (gi b 0).int := by
  unfold faultLog at h
  split at h
  · cases h
  · cases l with
    | nil => exact List.Pairwise.nil
    | cons x q =>
      simp only [faultL] at h
      split at h
      · contradiction
      · exact faultL_at h

theorem log_at {l : List (List G)} (h : faultLog l = 0) {k j : Nat} (hk : k ≤ j) (hj : j < l.length) : atL l k ≤ atL l j := by
  rcases Nat.lt_or_ge k j with hlt | hge
  · have h1 := List.pairwise_iff_getElem.1 (log_sorted h) k j (by omega) hj hlt
    unfold atL
    rw [List.getD_eq_getElem?_getD, List.getD_eq_getElem?_getD, List.getElem?_eq_getElem hj, List.getElem?_eq_getElem (by omega : k < l.length)]
    exact h1
  · have : k = j := by omega
    rw [this]
    exact Int.le_refl _

noncomputable def inW (w : List G) (t : Int) : Bool := leI (gi w 0).int t && ltI t (gi w 1).int

theorem put1_mem {least : Int} {s : List (List G) × Int} {to : Int} {w : List G} (h : w ∈ put1 least s to) : w ∈ s.1 ∨ w = [.i s.2, .i to] := by
  unfold put1 at h
  split at h
  · rcases List.mem_append.1 h with h | h
    · exact .inl h
    · exact .inr (by simpa using h)
  · exact .inl h

theorem put1_free {l : List (List G)} {least : Int} {s : List (List G) × Int} {to : Int} (h : ∀ w ∈ s.1, ∀ k, k < l.length → inW w (atL l k) = false) (hn : ∀ k, k < l.length → atL l k < s.2 ∨ to ≤ atL l k) :
    ∀ w ∈ put1 least s to, ∀ k, k < l.length → inW w (atL l k) = false := by
  intro w hw k hk
  rcases put1_mem hw with hw | rfl
  · exact h w hw k hk
  · rcases hn k hk with h1 | h1
    · simp [inW, gi0, gis, int1, leI_eq, ltI_eq]
      omega
    · simp [inW, gi0, gis, int1, leI_eq, ltI_eq]
      omega

theorem pauses_free {l : List (List G)} {a b least : Int} (hs : ∀ k j, k ≤ j → j < l.length → atL l k ≤ atL l j) : ∀ i, i ≤ l.length →
    (∀ w ∈ (pauseL l a b least i).1, ∀ k, k < l.length → inW w (atL l k) = false) ∧ a ≤ (pauseL l a b least i).2 ∧ ∀ k, k < i → atL l k < (pauseL l a b least i).2 ∨ b ≤ atL l k
  | 0, _ => ⟨by simp [pauseL], by simp [pauseL], by omega⟩
  | i + 1, hi => by
    obtain ⟨h1, h2, h3⟩ := pauses_free hs i (by omega) (a := a) (b := b) (least := least)
    simp only [pauseL]
    cases hh : has a b (gi (l.getD i []) 0).int with
    | false =>
      refine ⟨h1, h2, fun k hk => ?_⟩
      rcases Nat.lt_or_ge k i with hlt | hge
      · exact h3 k hlt
      · have e : k = i := by omega
        subst e
        by_cases hb : b ≤ atL l k
        · exact .inr hb
        · refine .inl ?_
          have : ¬ a ≤ atL l k := fun ha => by
            have : has a b (gi (l.getD k []) 0).int = true := by
              simp only [has, leI_eq, ltI_eq, Bool.and_eq_true, decide_eq_true_eq]
              exact ⟨ha, by unfold atL at hb; omega⟩
            rw [this] at hh
            cases hh
          simp only [cond_false]
          omega
    | true =>
      obtain ⟨g1, g2⟩ := has_iff hh
      have hi' : i < l.length := by omega
      simp only [cond_true]
      refine ⟨put1_free h1 fun k hk => ?_, by omega, fun k hk => ?_⟩
      · rcases Nat.lt_or_ge k i with hlt | hge
        · rcases h3 k hlt with h | h
          · exact .inl h
          · have := hs k i (by omega) hi'
            unfold atL at this h
            omega
        · exact .inr (hs i k hge hk)
      · refine .inl ?_
        have := hs k i (by omega) hi'
        unfold atL at *
        omega

theorem pausesA_free {l : List (List G)} {a b least : Int} (hs : ∀ k j, k ≤ j → j < l.length → atL l k ≤ atL l j) : ∀ w ∈ pausesA l a b least, ∀ k, k < l.length → inW w (atL l k) = false := by
  obtain ⟨h1, _, h3⟩ := pauses_free hs l.length (Nat.le_refl _) (a := a) (b := b) (least := least)
  exact put1_free h1 h3

/-! ### Hours: their sum -/

noncomputable def sumL : List (List G) → Int
  | [] => 0
  | r :: q => (gi r 0).int + sumL q
noncomputable def cntL (l : List (List G)) (a b : Int) : Nat → Int
  | 0 => 0
  | i + 1 => bif has a b (gi (l.getD i []) 0).int then cntL l a b i + 1 else cntL l a b i

theorem cntL_le (l : List (List G)) (a b : Int) : ∀ i, 0 ≤ cntL l a b i ∧ cntL l a b i ≤ i
  | 0 => ⟨by simp [cntL], by simp [cntL]⟩
  | i + 1 => by
    have ih := cntL_le l a b i
    simp only [cntL]
    cases has a b (gi (l.getD i []) 0).int <;> simp only [cond_true, cond_false] <;> omega

theorem sum_set (x : Int) : ∀ (l : List (List G)) (k : Nat), k < l.length → sumL (l.set k [.i x]) = sumL l + x - (gi (l.getD k []) 0).int
  | [], k, h => by simp at h
  | r :: q, 0, h => by
    simp only [List.set_cons_zero, sumL, List.getD_cons_zero, gi0, int1]
    omega
  | r :: q, k + 1, h => by
    simp only [List.length_cons] at h
    have := sum_set x q k (by omega)
    simp only [List.set_cons_succ, sumL, List.getD_cons_succ, this]
    omega
theorem sum_zero : ∀ n : Nat, sumL (List.replicate n [.i 0]) = 0
  | 0 => rfl
  | n + 1 => by
    simp only [List.replicate_succ, sumL, sum_zero n, gi0, int1]
    omega
theorem sum_append : ∀ p q : List (List G), sumL (p ++ q) = sumL p + sumL q
  | [], q => by simp [sumL]
  | r :: p, q => by
    simp only [List.cons_append, sumL, sum_append p q]
    omega

theorem hours_sum (l : List (List G)) (a b : Int) (h : a ≤ b) : ∀ i, sumL (hoursL l a b (zeros a b) i) = cntL l a b i
  | 0 => by simp only [hoursL, cntL, zeros, sum_zero]
  | i + 1 => by
    have ih := hours_sum l a b h i
    have ok := hoursL_ok l a b h i
    simp only [hoursL, cntL]
    cases hh : has a b (gi (l.getD i []) 0).int with
    | false => exact ih
    | true =>
      obtain ⟨h1, h2⟩ := has_iff hh
      obtain ⟨k1, k2, _⟩ := hourAt_lt h1 h2
      have hlt : hourAt a (gi (l.getD i []) 0).int < (hoursL l a b (zeros a b) i).length := by rw [ok.len]; unfold hourAt; omega
      simp only [cond_true]
      rw [sum_set _ _ _ hlt, ih]
      omega

/-! ### The law -/

end Go.Proofs.SYtpfhjchbegdgdaaGreatDoor

namespace Go.Proofs.SYtpfhjchbegdgdaaGreatDoor
open Go Go.AL Go.Proofs

/-! ### Counting -/

noncomputable def snt (l : List (List G)) (k : Nat) : Int := (gi (l.getD k []) 4).int
noncomputable def cntS (l : List (List G)) (n : Int) : Nat → Int
  | 0 => 0
  | i + 1 => if n = snt l i then cntS l n i + 1 else cntS l n i
noncomputable def topS (l : List (List G)) : Nat → Int
  | 0 => 0
  | i + 1 => if snt l i > topS l i then snt l i else topS l i

theorem cntS_le (l : List (List G)) (n : Int) : ∀ i, 0 ≤ cntS l n i ∧ cntS l n i ≤ i
  | 0 => ⟨by simp [cntS], by simp [cntS]⟩
  | i + 1 => by
    have ih := cntS_le l n i
    simp only [cntS]
    split <;> omega
theorem topS_ok {l : List (List G)} (hl : ∀ k, k < l.length → 0 ≤ snt l k ∧ snt l k ≤ 99999) : ∀ i, i ≤ l.length → 0 ≤ topS l i ∧ topS l i ≤ 99999
  | 0, _ => ⟨by simp [topS], by simp [topS]⟩
  | i + 1, h => by
    have ih := topS_ok hl i (by omega)
    have := hl i (by omega)
    simp only [topS]
    split <;> omega
theorem topS_ge (l : List (List G)) : ∀ i j, i ≤ j → topS l i ≤ topS l j
  | i, 0, h => by
    have : i = 0 := by omega
    rw [this]
    exact Int.le_refl _
  | i, j + 1, h => by
    rcases Nat.lt_or_ge i (j + 1) with hlt | hge
    · have ih := topS_ge l i j (by omega)
      simp only [topS]
      split <;> omega
    · have : i = j + 1 := by omega
      rw [this]
      exact Int.le_refl _
theorem snt_top (l : List (List G)) {k j : Nat} (h : k < j) : snt l k ≤ topS l j := by
  have h1 := topS_ge l (k + 1) j (by omega)
  have h2 : snt l k ≤ topS l (k + 1) := by
    simp only [topS]
    split <;> omega
  omega

theorem count2_ok (l : List (List G)) (hl : ∀ z ∈ l, 0 ≤ (gi z 4).int ∧ (gi z 4).int ≤ 99999) (hn : l.length < 90000) :
    RetL st_log_Serials_7 [.l [], .i 0, .i 0, .l l, .i (l.length : Int), .i 0] fun c g => c = 0 ∧ ∃ (m : List (List G)) (k : Nat), g = [.l m, .i (k : Int), .i (topS l l.length)] ∧ ∀ n, fOf m n = cntS l n l.length := by
  have r := range_all (st := st_log_Serials_7) (σ := List (List G) × Nat × Int) (fun s i => [.l s.1, .i (s.2.1 : Int), .i s.2.2, .l l, .i (l.length : Int), .i (i : Int)]) l (fun s => (0, [.l s.1, .i (s.2.1 : Int), .i s.2.2]))
    (fun s i => (∀ n, fOf s.1 n = cntS l n i) ∧ s.2.2 = topS l i) ([], 0, 0) (by omega) ⟨fun n => by simp [fOf, mget_nil, gi0, int1, cntS], by simp [topS]⟩
    (fun s i x hI hi hx hm ht => by
      obtain ⟨h1, h2⟩ := hl x hm
      obtain ⟨hf, ht0⟩ := hI
      have hs := cntS_le l (gi x 4).int i
      rw [← hf] at hs
      obtain ⟨hs0, hs1⟩ := hs
      have e : (gi (mget [.int .i64] s.1 [.i (gi x 4).int] [.i 0]) 0).int = fOf s.1 (gi x 4).int := rfl
      unfold st_log_Serials_7
      (dsimp +instances only [gi0,gis,row1,rows1,int1,str1,bool1])
      simp only [Int.toNat_natCast, hx, e]
      (repeat(first|(refine Ret.pos ?_ ?_;(first|rfl|assumption|(simp only [inI,sl]<;>omega)))|(refine Ret.neg ?_ ?_;(first|rfl|assumption|(simp only [inI,sl]<;>omega)))))
      refine Ret.some ⟨(mput [.int .i64] s.1 [.i (gi x 4).int] [.i (fOf s.1 (gi x 4).int + 1)] s.2.1, mclk [.int .i64] s.1 [.i (gi x 4).int] s.2.1, if (gi x 4).int > s.2.2 then (gi x 4).int else s.2.2), rfl, ?_, ?_⟩
      · intro n
        rw [fOf_mput]
        simp only [cntS, snt, hx, hf]
        split
        · rename_i hh
          rw [hh]
        · rfl
      · simp only [topS, snt, hx, ht0])
    (fun s hI => by
      unfold st_log_Serials_7
      (dsimp +instances only [gi0,gis,row1,rows1,int1,str1,bool1])
      simp only [Int.toNat_natCast]
      (repeat(first|(refine Ret.pos ?_ ?_;(first|rfl|assumption|(simp only [inI,sl]<;>omega)))|(refine Ret.neg ?_ ?_;(first|rfl|assumption|(simp only [inI,sl]<;>omega)))))
      exact Ret.some rfl)
  refine r.mono ?_
  rintro c g ⟨⟨m, k, top⟩, ⟨hf, h0⟩, rfl, rfl⟩
  have h0 : top = topS l l.length := h0
  subst h0
  exact ⟨rfl, m, k, rfl, hf⟩

theorem serials2_ok (l : List (List G)) (hC : ∀ z ∈ l, Con z) (hf : faultLog l = 0) (hn : l.length < 90000) :
    F_log_Serials [.l l] = some [.l (serL (fun n => cntS l n l.length) (topS l l.length).toNat).1, .l (serL (fun n => cntS l n l.length) (topS l l.length).toNat).2, .i 0] := by
  have hl : ∀ z ∈ l, 0 ≤ (gi z 4).int ∧ (gi z 4).int ≤ 99999 := fun z hz => (faultC_zero (faultLog_all hf z hz)).2.2.1
  have hl2 : ∀ k, k < l.length → 0 ≤ snt l k ∧ snt l k ≤ 99999 := fun k hk => hl _ (getD_row hk)
  obtain ⟨c, g, ⟨rfl, m, k, rfl, hm⟩, hr⟩ := RetL.det (count2_ok l hl hn)
  obtain ⟨h0, h1⟩ := topS_ok hl2 l.length (Nat.le_refl _)
  have e : fOf m = fun n => cntS l n l.length := funext hm
  rw [← e]
  have hk := serL_ok (fOf m) (topS l l.length).toNat
  refine Ret.toEq ?_
  unfold F_log_Serials
  (dsimp +instances only [gi0,gis,row1,rows1,int1,str1,bool1])
  refine Ret.call (Ret.eq (checkLog_eq l hC (by omega))) ?_
  rintro _ rfl
  (dsimp +instances only [gi0,gis,row1,rows1,int1,str1,bool1])
  rw [hf]
  refine Ret.neg rfl ?_
  refine Ret.loop hr rfl ?_
  rintro _ _ ⟨rfl, rfl⟩
  (dsimp +instances only [gi0,gis,row1,rows1,int1,str1,bool1])
  simp only [Int.toNat_natCast]
  refine Ret.loop (ser_loop m k (topS l l.length) h0 h1 fun n => by rw [hm]; exact (cntS_le l n _).1) rfl ?_
  rintro _ _ ⟨rfl, rfl⟩
  (dsimp +instances only [gi0,gis,row1,rows1,int1,str1,bool1])
  (repeat(first|(refine Ret.pos ?_ ?_;(first|rfl|assumption|(simp only [inI,sl]<;>omega)))|(refine Ret.neg ?_ ?_;(first|rfl|assumption|(simp only [inI,sl]<;>omega)))))
  exact Ret.some rfl

/-! ### What is missing, what is there -/

noncomputable def dN (f : Int → Int) : Nat → Int
  | 0 => 0
  | i + 1 => if f ((i : Int) + 1) = 0 then dN f i + 1 else dN f i
noncomputable def eN (f : Int → Int) : Nat → Int
  | 0 => 0
  | i + 1 => if f ((i : Int) + 1) = 0 then eN f i else eN f i + 1
theorem dN_eN (f : Int → Int) : ∀ i, dN f i + eN f i = i
  | 0 => rfl
  | i + 1 => by
    have ih := dN_eN f i
    simp only [dN, eN]
    split <;> omega
theorem dN_le (f : Int → Int) : ∀ i, 0 ≤ dN f i ∧ dN f i ≤ i
  | 0 => ⟨by simp [dN], by simp [dN]⟩
  | i + 1 => by
    have ih := dN_le f i
    simp only [dN]
    split <;> omega
theorem eN_congr {f g : Int → Int} (h : ∀ n, 1 ≤ n → g n = f n) : ∀ i, eN g i = eN f i
  | 0 => rfl
  | i + 1 => by
    simp only [eN, eN_congr h i, h ((i : Int) + 1) (by omega)]
theorem eN_step {f g : Int → Int} {s : Int} (h : ∀ n, n ≠ s → g n = f n) (hs : g s ≠ 0) (h0 : 0 < s) : ∀ T : Nat, eN g T = if s ≤ T ∧ f s = 0 then eN f T + 1 else eN f T
  | 0 => by
    rw [if_neg (by omega)]
    rfl
  | T + 1 => by
    have ih := eN_step h hs h0 T
    simp only [eN]
    by_cases e : (T : Int) + 1 = s
    · rw [e, if_neg hs, ih, if_neg (by omega)]
      by_cases hf : f s = 0
      · rw [if_pos hf, if_pos ⟨by omega, hf⟩]
      · rw [if_neg hf, if_neg (fun x => hf x.2)]
    · rw [h _ e, ih]
      by_cases hc : s ≤ (T : Int) ∧ f s = 0
      · have hc' : s ≤ ((T + 1 : Nat) : Int) ∧ f s = 0 := ⟨by have := hc.1; omega, hc.2⟩
        rw [if_pos hc, if_pos hc']
        split <;> rfl
      · have hc' : ¬ (s ≤ ((T + 1 : Nat) : Int) ∧ f s = 0) := fun x => hc ⟨by have := x.1; omega, x.2⟩
        rw [if_neg hc, if_neg hc']

noncomputable def sumW : List (List G) → Int
  | [] => 0
  | r :: q => ((gi r 1).int - (gi r 0).int) + sumW q
theorem sumW_append : ∀ p q : List (List G), sumW (p ++ q) = sumW p + sumW q
  | [], q => by simp [sumW]
  | r :: p, q => by
    simp only [List.cons_append, sumW, sumW_append p q]
    omega

structure SerQ (f : Int → Int) (s : List (List G) × List (List G)) (i : Nat) : Prop where
  pw : s.1.Pairwise fun r q => (gi r 1).int < (gi q 0).int
  lt : ∀ r ∈ s.1, ∃ a b, r = [.i a, .i b] ∧ 1 ≤ a ∧ a < b ∧ b ≤ (i : Int) + 1
  sum : sumW s.1 = dN f i
  tw : ∀ r ∈ s.2, ∃ n, r = [.i n] ∧ 1 < f n ∧ 1 ≤ n

theorem serQ (f : Int → Int) : ∀ i, SerQ f (serL f i) i
  | 0 => ⟨by simp [serL], by simp [serL], by simp [serL, sumW, dN], by simp [serL]⟩
  | i + 1 => by
    obtain ⟨h1, h2, h3, h4⟩ := serQ f i
    have hd : serL f (i + 1) = serStep f (serL f i) ((i : Int) + 1) := rfl
    rw [hd]
    clear hd
    generalize serL f i = s at h1 h2 h3 h4 ⊢
    have h2' : ∀ r ∈ s.1, ∃ a b, r = [.i a, .i b] ∧ 1 ≤ a ∧ a < b ∧ b ≤ ((i + 1 : Nat) : Int) + 1 := fun r hr => by
      obtain ⟨a, b, e, q0, q1, q2⟩ := h2 r hr
      exact ⟨a, b, e, q0, q1, by omega⟩
    have hnew : (∀ r ∈ s.1, (gi r 1).int < (i : Int) + 1) → f ((i : Int) + 1) = 0 → SerQ f (s.1 ++ [[.i ((i : Int) + 1), .i ((i : Int) + 1 + 1)]], s.2) (i + 1) := fun hb hf0 => by
      refine ⟨?_, fun r hr => ?_, ?_, h4⟩
      · refine List.pairwise_append.2 ⟨h1, by simp, fun r hr q hq => ?_⟩
        simp only [List.mem_singleton] at hq
        subst hq
        simpa [gi0, int1] using hb r hr
      · rcases List.mem_append.1 hr with hr | hr
        · exact h2' r hr
        · simp only [List.mem_singleton] at hr
          exact ⟨_, _, hr, by omega, by omega, by omega⟩
      · simp only [sumW_append, h3, sumW, gi0, gis, int1, dN, hf0, if_true]
        omega
    unfold serStep
    split
    · rename_i hgt
      refine ⟨h1, h2', by simp only [dN]; rw [if_neg (by omega)]; exact h3, fun r hr => ?_⟩
      rcases List.mem_append.1 hr with hr | hr
      · exact h4 r hr
      · simp only [List.mem_singleton] at hr
        exact ⟨_, hr, hgt, by omega⟩
    · split
      · rename_i hf0
        split
        · rename_i r hr
          have hp : s.1.dropLast ++ [r] = s.1 := by
            obtain ⟨ys, hy⟩ := List.getLast?_eq_some_iff.1 hr
            rw [hy, List.dropLast_concat]
          obtain ⟨a, b, rfl, q0, q1, q2⟩ := h2 r (List.mem_of_getLast? hr)
          rw [← hp] at h1 h3
          obtain ⟨g1, _, g3⟩ := List.pairwise_append.1 h1
          have g3 : ∀ x ∈ s.1.dropLast, (gi x 1).int < a := fun x hx => by simpa [gi0, int1] using g3 x hx _ List.mem_cons_self
          split
          · rename_i hb
            have hb : b = (i : Int) + 1 := by simpa [gi0, gis, int1] using hb
            refine ⟨?_, fun r hr => ?_, ?_, h4⟩
            · refine List.pairwise_append.2 ⟨g1, by simp, fun x hx q hq => ?_⟩
              simp only [List.mem_singleton] at hq
              subst hq
              simpa [gi0, int1] using g3 x hx
            · rcases List.mem_append.1 hr with hr | hr
              · exact h2' r ((List.dropLast_sublist _).subset hr)
              · simp only [List.mem_singleton, gi0, gis, int1] at hr
                exact ⟨_, _, hr, q0, by omega, by omega⟩
            · simp only [sumW_append, sumW, gi0, gis, int1] at h3
              simp only [sumW_append, sumW, gi0, gis, int1, dN, hf0, if_true]
              omega
          · rename_i hb
            have hb : b ≠ (i : Int) + 1 := by simpa [gi0, gis, int1] using hb
            refine hnew (fun x hx => ?_) hf0
            rw [← hp] at hx
            rcases List.mem_append.1 hx with hx | hx
            · have := g3 x hx
              omega
            · simp only [List.mem_singleton] at hx
              subst hx
              simp only [gi0, gis, int1]
              omega
        · rename_i hr
          have hp : s.1 = [] := List.getLast?_eq_none_iff.1 hr
          exact hnew (fun x hx => by rw [hp] at hx; cases hx) hf0
      · rename_i hf0
        exact ⟨h1, h2', by simp only [dN]; rw [if_neg hf0]; exact h3, h4⟩

end Go.Proofs.SYtpfhjchbegdgdaaGreatDoor

namespace Go.Proofs.SYtpfhjchbegdgdaaGreatDoor
open Go Go.AL Go.Proofs

/-! ### The map of numbers that were sent -/

theorem rowEqI (n s : Int) : rowEq [.int .i64] [.i n] [.i s] = decide (n = s) := by
  simp only [rowEq, gEq, List.headD_cons, Bool.and_true, int1]
  rw [Bool.eq_iff_iff]
  simp
theorem mput_length (ks : List Kd) (k v : List G) (c : Nat) : ∀ rows : List (List G), (mput ks rows k v c).length = bif mhas ks rows k then rows.length else rows.length + 1
  | [] => rfl
  | r :: rs => by
    rw [mput_cons, mhas_cons]
    cases rowEq ks k (gi r 0).row with
    | true => rfl
    | false =>
      simp only [cond_false, Bool.false_or, List.length_cons, mput_length ks k v c rs]
      cases mhas ks rs k <;> rfl

noncomputable def hasS (l : List (List G)) (i : Nat) (n : Int) : Bool := decide (0 < n) && decide (cntS l n i ≠ 0)
noncomputable def tOf (m : List (List G)) (n : Int) : Bool := (gi (mget [.int .i64] m [.i n] [.t false]) 0).bool

structure Sent (l : List (List G)) (T : Nat) (m : List (List G)) (i : Nat) : Prop where
  len : (m.length : Int) = eN (fun n => cntS l n i) T
  has : ∀ n, mhas [.int .i64] m [.i n] = hasS l i n
  val : ∀ n, tOf m n = hasS l i n

theorem eN_zero : ∀ T, eN (fun _ => 0) T = 0
  | 0 => rfl
  | T + 1 => by
    simp only [eN, if_true, eN_zero T]
theorem sent0 (l : List (List G)) (T : Nat) : Sent l T [] 0 := ⟨by simp only [cntS, eN_zero]; rfl, fun n => by simp [mhas_nil, hasS, cntS], fun n => by simp [tOf, mget_nil, hasS, cntS, gi0, bool1]⟩

theorem sent_no {l : List (List G)} {T : Nat} {m : List (List G)} {i : Nat} (h : Sent l T m i) (hs : snt l i ≤ 0) : Sent l T m (i + 1) := by
  have e : ∀ n, 1 ≤ n → cntS l n (i + 1) = cntS l n i := fun n hn => by
    simp only [cntS]
    rw [if_neg (by omega)]
  have e2 : ∀ n, hasS l (i + 1) n = hasS l i n := fun n => by
    unfold hasS
    by_cases hn : 1 ≤ n
    · rw [e n hn]
    · simp [show ¬ 0 < n from by omega]
  exact ⟨by rw [eN_congr e]; exact h.len, fun n => by rw [e2]; exact h.has n, fun n => by rw [e2]; exact h.val n⟩

theorem sent_put {l : List (List G)} {T : Nat} {m : List (List G)} {i : Nat} (c : Nat) (h : Sent l T m i) (hs : 0 < snt l i) (hT : snt l i ≤ T) : Sent l T (mput [.int .i64] m [.i (snt l i)] [.t true] c) (i + 1) := by
  have e : ∀ n, n ≠ snt l i → cntS l n (i + 1) = cntS l n i := fun n hn => by
    simp only [cntS]
    rw [if_neg hn]
  have es : cntS l (snt l i) (i + 1) ≠ 0 := by
    have := cntS_le l (snt l i) i
    simp only [cntS, if_true]
    omega
  have e2 : ∀ n, hasS l (i + 1) n = (decide (n = snt l i) || hasS l i n) := fun n => by
    by_cases hn : n = snt l i
    · subst hn
      simp [hasS, hs, es]
    · unfold hasS
      rw [e n hn]
      simp [hn]
  refine ⟨?_, fun n => ?_, fun n => ?_⟩
  · rw [mput_length, h.has, eN_step e es hs T]
    have hl := h.len
    by_cases hz : cntS l (snt l i) i = 0
    · have : hasS l i (snt l i) = false := by simp [hasS, hz]
      rw [this, if_pos ⟨hT, hz⟩]
      simp only [cond_false]
      omega
    · have : hasS l i (snt l i) = true := by simp [hasS, hz, hs]
      rw [this, if_neg (fun x => hz x.2)]
      exact hl
  · rw [mhas_mput, rowEqI, h.has, e2]
  · unfold tOf
    rw [mget_mput, rowEqI, e2]
    by_cases hn : n = snt l i
    · simp [hn, gi0, bool1]
    · simp only [hn, decide_false, cond_false, Bool.false_or]
      exact h.val n

theorem sent_loop (l R tw : List (List G)) (hn : l.length < 90000) (hl : ∀ k, k < l.length → 0 ≤ snt l k ∧ snt l k ≤ 99999) :
    RetL st_pilekeep2_NumbersAddUp_11 [.l [], .i 0, .l R, .l tw, .i 0, .i 0, .l l, .i (l.length : Int), .i 0] fun c g => c = 0 ∧ ∃ (m : List (List G)) (k : Nat), g = [.l m, .i (k : Int), .l R, .l tw, .i (topS l l.length), .i 0] ∧ Sent l (topS l l.length).toNat m l.length := by
  have hT := topS_ok hl l.length (Nat.le_refl _)
  have r := range_all (st := st_pilekeep2_NumbersAddUp_11) (σ := List (List G) × Nat × Int) (fun s i => [.l s.1, .i (s.2.1 : Int), .l R, .l tw, .i s.2.2, .i 0, .l l, .i (l.length : Int), .i (i : Int)]) l (fun s => (0, [.l s.1, .i (s.2.1 : Int), .l R, .l tw, .i s.2.2, .i 0]))
    (fun s i => Sent l (topS l l.length).toNat s.1 i ∧ s.2.2 = topS l i) ([], 0, 0) (by omega) ⟨sent0 l _, rfl⟩
    (fun s i x ⟨hS, ht0⟩ hi hx hm ht => by
      have hsx : snt l i = (gi x 4).int := by unfold snt; rw [hx]
      have htop := snt_top l (k := i) (j := l.length) hi
      unfold st_pilekeep2_NumbersAddUp_11
      (dsimp +instances only [gi0,gis,row1,rows1,int1,str1,bool1])
      simp only [Int.toNat_natCast, hx]
      refine Ret.pos (by (first|rfl|assumption|(simp only [inI,sl]<;>omega))) (Ret.pos (by (first|rfl|assumption|(simp only [inI,sl]<;>omega))) ?_)
      by_cases h0 : 0 < (gi x 4).int
      · (repeat(first|(refine Ret.pos ?_ ?_;(first|rfl|assumption|(simp only [inI,sl]<;>omega)))|(refine Ret.neg ?_ ?_;(first|rfl|assumption|(simp only [inI,sl]<;>omega)))))
        refine Ret.some ⟨(mput [.int .i64] s.1 [.i (gi x 4).int] [.t true] s.2.1, mclk [.int .i64] s.1 [.i (gi x 4).int] s.2.1, if (gi x 4).int > s.2.2 then (gi x 4).int else s.2.2), rfl, ?_, ?_⟩
        · have := sent_put s.2.1 hS (by omega) (by omega)
          rw [hsx] at this
          exact this
        · simp only [topS, hsx, ht0]
      · (repeat(first|(refine Ret.pos ?_ ?_;(first|rfl|assumption|(simp only [inI,sl]<;>omega)))|(refine Ret.neg ?_ ?_;(first|rfl|assumption|(simp only [inI,sl]<;>omega)))))
        refine Ret.some ⟨(s.1, s.2.1, if (gi x 4).int > s.2.2 then (gi x 4).int else s.2.2), rfl, ?_, ?_⟩
        · exact sent_no hS (by omega)
        · simp only [topS, hsx, ht0])
    (fun s hI => by
      unfold st_pilekeep2_NumbersAddUp_11
      (dsimp +instances only [gi0,gis,row1,rows1,int1,str1,bool1])
      simp only [Int.toNat_natCast]
      (repeat(first|(refine Ret.pos ?_ ?_;(first|rfl|assumption|(simp only [inI,sl]<;>omega)))|(refine Ret.neg ?_ ?_;(first|rfl|assumption|(simp only [inI,sl]<;>omega)))))
      exact Ret.some rfl)
  refine r.mono ?_
  rintro c g ⟨⟨m, k, top⟩, ⟨hS, h0⟩, rfl, rfl⟩
  have h0 : top = topS l l.length := h0
  subst h0
  exact ⟨rfl, m, k, rfl, hS⟩

theorem win_loop (m R tw : List (List G)) (k : Nat) (top : Int) (hn : R.length < 200000) (hp : R.Pairwise fun r q => (gi r 1).int < (gi q 0).int) (hr : ∀ r ∈ R, ∃ a b, r = [.i a, .i b] ∧ 1 ≤ a ∧ a < b ∧ b ≤ 200000) :
    RetL st_pilekeep2_NumbersAddUp_18 [.l m, .i (k : Int), .l R, .l tw, .i top, .i 0, .l R, .i (R.length : Int), .i 0] fun c g => c = 1 ∧ g = [.l m, .i (k : Int), .l tw, .i top, .i (sumW R)] := by
  have r := range_all (st := st_pilekeep2_NumbersAddUp_18) (σ := Int) (fun s i => [.l m, .i (k : Int), .l R, .l tw, .i top, .i s, .l R, .i (R.length : Int), .i (i : Int)]) R (fun s => (1, [.l m, .i (k : Int), .l tw, .i top, .i s]))
    (fun s i => s = sumW (R.take i) ∧ 0 ≤ s ∧ s ≤ 200000 * (i : Int)) 0 (by omega) ⟨rfl, by omega, by omega⟩
    (fun s i x ⟨hs, s0, s1⟩ hi hx hm ht => by
      obtain ⟨a, b, e, h1, h2, h3⟩ := hr x hm
      have hs' : s + (b - a) = sumW (R.take (i + 1)) := by
        rw [ht, sumW_append, ← hs, e]
        simp only [sumW, gi0, gis, int1]
        omega
      unfold st_pilekeep2_NumbersAddUp_18
      (dsimp +instances only [gi0,gis,row1,rows1,int1,str1,bool1])
      simp only [Int.toNat_natCast, hx, e]
      (dsimp +instances only [gi0,gis,row1,rows1,int1,str1,bool1])
      by_cases h0 : i = 0
      · subst h0
        (repeat(first|(refine Ret.pos ?_ ?_;(first|rfl|assumption|(simp only [inI,sl]<;>omega)))|(refine Ret.neg ?_ ?_;(first|rfl|assumption|(simp only [inI,sl]<;>omega)))))
        exact Ret.some ⟨s + (b - a), rfl, hs', by omega, by omega⟩
      · have hj : i - 1 < R.length := by omega
        have e1 : ((i : Int) - 1).toNat = i - 1 := by omega
        have hlt : (gi (R.getD (i - 1) []) 1).int < a := by
          have q := List.pairwise_iff_getElem.1 hp (i - 1) i hj hi (by omega)
          have q1 : R.getD (i - 1) [] = R[i - 1] := by rw [List.getD_eq_getElem?_getD, List.getElem?_eq_getElem hj]; rfl
          have q2 : R.getD i [] = R[i] := by rw [List.getD_eq_getElem?_getD, List.getElem?_eq_getElem hi]; rfl
          rw [← q1, ← q2, hx, e] at q
          exact q
        simp only [e1]
        (repeat(first|(refine Ret.pos ?_ ?_;(first|rfl|assumption|(simp only [inI,sl]<;>omega)))|(refine Ret.neg ?_ ?_;(first|rfl|assumption|(simp only [inI,sl]<;>omega)))))
        exact Ret.some ⟨s + (b - a), rfl, hs', by omega, by omega⟩)
    (fun s hI => by
      unfold st_pilekeep2_NumbersAddUp_18
      (dsimp +instances only [gi0,gis,row1,rows1,int1,str1,bool1])
      simp only [Int.toNat_natCast]
      (repeat(first|(refine Ret.pos ?_ ?_;(first|rfl|assumption|(simp only [inI,sl]<;>omega)))|(refine Ret.neg ?_ ?_;(first|rfl|assumption|(simp only [inI,sl]<;>omega)))))
      exact Ret.some rfl)
  refine r.mono ?_
  rintro c g ⟨s, ⟨hs, _, _⟩, rfl, rfl⟩
  rw [List.take_length] at hs
  exact ⟨rfl, by rw [hs]⟩

theorem twice_loop (m tw : List (List G)) (k : Nat) (top mis : Int) (hn : tw.length < 200000) (ht : ∀ r ∈ tw, ∃ n, r = [.i n] ∧ tOf m n = true) :
    RetL st_pilekeep2_NumbersAddUp_25 [.l m, .i (k : Int), .i top, .i mis, .l tw, .i (tw.length : Int), .i 0] fun c g => c = 1 ∧ g = [.l m, .i (k : Int), .i top, .i mis] := by
  have r := range_all (st := st_pilekeep2_NumbersAddUp_25) (σ := Unit) (fun _ i => [.l m, .i (k : Int), .i top, .i mis, .l tw, .i (tw.length : Int), .i (i : Int)]) tw (fun _ => (1, [.l m, .i (k : Int), .i top, .i mis]))
    (fun _ _ => True) () (by omega) trivial
    (fun s i x hs hi hx hm ht' => by
      obtain ⟨n, e, h1⟩ := ht x hm
      have h1 : (gi (mget [.int .i64] m [.i n] [.t false]) 0).bool = true := h1
      unfold st_pilekeep2_NumbersAddUp_25
      (dsimp +instances only [gi0,gis,row1,rows1,int1,str1,bool1])
      simp only [Int.toNat_natCast, hx, e]
      (dsimp +instances only [gi0,gis,row1,rows1,int1,str1,bool1])
      refine Ret.pos (by (first|rfl|assumption|(simp only [inI,sl]<;>omega))) (Ret.pos (by (first|rfl|assumption|(simp only [inI,sl]<;>omega))) (Ret.neg (by rw [h1]; rfl) ?_))
      (repeat(first|(refine Ret.pos ?_ ?_;(first|rfl|assumption|(simp only [inI,sl]<;>omega)))|(refine Ret.neg ?_ ?_;(first|rfl|assumption|(simp only [inI,sl]<;>omega)))))
      exact Ret.some ⟨(), rfl, trivial⟩)
    (fun s hI => by
      unfold st_pilekeep2_NumbersAddUp_25
      (dsimp +instances only [gi0,gis,row1,rows1,int1,str1,bool1])
      simp only [Int.toNat_natCast]
      (repeat(first|(refine Ret.pos ?_ ?_;(first|rfl|assumption|(simp only [inI,sl]<;>omega)))|(refine Ret.neg ?_ ?_;(first|rfl|assumption|(simp only [inI,sl]<;>omega)))))
      exact Ret.some rfl)
  refine r.mono ?_
  rintro c g ⟨s, _, rfl, rfl⟩
  exact ⟨rfl, rfl⟩

/-! ### Renumbered -/

noncomputable def put4 (r : List G) (n : Int) : List G := putG KContact r 4 [.i n]
noncomputable def renF : List (List G) → Int → List (List G)
  | [], _ => []
  | x :: q, n => put4 x n :: renF q (n + 1)
theorem renF_length : ∀ (l : List (List G)) (n : Int), (renF l n).length = l.length
  | [], _ => rfl
  | x :: q, n => by simp only [renF, List.length_cons, renF_length q]
theorem renF_append : ∀ (p q : List (List G)) (n : Int), renF (p ++ q) n = renF p n ++ renF q (n + p.length)
  | [], q, n => by simp [renF]
  | x :: p, q, n => by
    simp only [List.cons_append, renF, renF_append p q, List.length_cons]
    rw [show n + 1 + (p.length : Int) = n + ((p.length + 1 : Nat) : Int) from by omega]
theorem renF_getD : ∀ (l : List (List G)) (n : Int) (k : Nat), k < l.length → (renF l n).getD k [] = put4 (l.getD k []) (n + k)
  | [], _, _, h => by simp at h
  | x :: q, n, 0, _ => by simp [renF]
  | x :: q, n, k + 1, h => by
    simp only [List.length_cons] at h
    simp only [renF, List.getD_cons_succ]
    rw [renF_getD q (n + 1) k (by omega), show n + 1 + (k : Int) = n + ((k + 1 : Nat) : Int) from by omega]

theorem put4_con {r : List G} (h : Con r) {n : Int} (h0 : 0 ≤ n) (h1 : n ≤ 99999) : Con (put4 r n) ∧ (gi (put4 r n) 4).int = n ∧ (faultC r = 0 → faultC (put4 r n) = 0) := by
  obtain ⟨t, m, b, c, s, d, x, y, rfl, q1, q2, q3, q4⟩ := h
  have e : put4 [.i t, .i m, .s b, .s c, .i s, .i d, .s x, .s y] n = [.i t, .i m, .s b, .s c, .i n, .i d, .s x, .s y] := rfl
  rw [e]
  refine ⟨⟨t, m, b, c, n, d, x, y, rfl, q1, q2, ⟨by omega, by omega⟩, q4⟩, rfl, fun hf => ?_⟩
  have hn : inB n 0 99999 = true := by
    simp only [inB, leI_eq, Bool.and_eq_true, decide_eq_true_eq]
    exact ⟨h0, h1⟩
  have hs : inB s 0 99999 = true := by
    have := (faultC_zero hf).2.2.1
    simp only [inB, leI_eq, Bool.and_eq_true, decide_eq_true_eq]
    exact this
  have e2 : faultC [.i t, .i m, .s b, .s c, .i n, .i d, .s x, .s y] = faultC [.i t, .i m, .s b, .s c, .i s, .i d, .s x, .s y] := by
    unfold faultC
    dsimp +instances only [gi0, gis, int1, str1]
    rw [hn, hs]
  rw [e2, hf]

theorem put4_ord {r s : List G} (hr : Con r) (hs : Con s) (n m : Int) : ordC (put4 r n) (put4 s m) = ordC r s := by
  obtain ⟨t, m1, b, c, s1, d, x, y, rfl, _⟩ := hr
  obtain ⟨t2, m2, b2, c2, s2, d2, x2, y2, rfl, _⟩ := hs
  rfl

theorem renF_fault : ∀ (l : List (List G)) (o : Option (List G)) (k : Int) (n : Int), (∀ z ∈ l, Con z) → (∀ z, o = some z → Con z) → 0 ≤ n → n + l.length ≤ 99999 → faultL o l = 0 → faultL (o.map fun z => put4 z k) (renF l n) = 0
  | [], o, k, n, _, _, _, _, _ => by cases o <;> rfl
  | x :: q, none, k, n, hC, ho, h0, h1, h => by
    simp only [List.length_cons] at h1
    have hx := hC x List.mem_cons_self
    simp only [faultL] at h
    split at h
    · contradiction
    · rename_i hf
      have hf : faultC x = 0 := by simpa using hf
      obtain ⟨g1, g2, g3⟩ := put4_con hx h0 (by omega : n ≤ 99999)
      simp only [renF, Option.map_none, faultL, g3 hf]
      exact renF_fault q (some x) n (n + 1) (fun z hz => hC z (List.mem_cons_of_mem _ hz)) (fun z hz => by cases hz; exact hx) (by omega) (by omega) h
  | x :: q, some y, k, n, hC, ho, h0, h1, h => by
    simp only [List.length_cons] at h1
    have hx := hC x List.mem_cons_self
    simp only [faultL] at h
    split at h
    · contradiction
    · rename_i hf
      have hf : faultC x = 0 := by simpa using hf
      split at h
      · cases h
      · rename_i hy
        obtain ⟨g1, g2, g3⟩ := put4_con hx h0 (by omega : n ≤ 99999)
        simp only [renF, Option.map_some, faultL, g3 hf, put4_ord (ho y rfl) hx]
        rw [if_neg hy]
        exact renF_fault q (some x) n (n + 1) (fun z hz => hC z (List.mem_cons_of_mem _ hz)) (fun z hz => by cases hz; exact hx) (by omega) (by omega) h

theorem renum2_loop (l : List (List G)) (hn : l.length < 90000) :
    RetL st_log_Renumber_8 [.l l, .i 1, .i (l.length : Int), .i 0] fun c g => c = 0 ∧ g = [.l (renF l 1)] := by
  have r := count_runs (st := st_log_Renumber_8) (σ := List (List G)) (fun s i => [.l s, .i 1, .i (l.length : Int), .i (i : Int)]) l.length (fun s => (0, [.l s])) (fun s i => s = renF (l.take i) 1 ++ l.drop i) (fun _ _ => False)
    (fun s i hs hi => by
      have hA : (renF (l.take i) 1).length = i := by rw [renF_length, List.length_take]; omega
      have hd : l.drop i = l.getD i [] :: l.drop (i + 1) := by
        rw [List.drop_eq_getElem_cons hi, List.getD_eq_getElem?_getD, List.getElem?_eq_getElem hi]
        rfl
      have hlen : s.length = l.length := by
        rw [hs, List.length_append, hA, List.length_drop]
        omega
      have hget : s.getD i [] = l.getD i [] := by
        rw [hs, List.getD_eq_getElem?_getD, List.getElem?_append_right (by omega), hA, Nat.sub_self, hd]
        rfl
      have hset : s.set i (put4 (l.getD i []) (1 + (i : Int))) = renF (l.take (i + 1)) 1 ++ l.drop (i + 1) := by
        rw [take_row hi, renF_append, hs, hd, List.set_append_right _ _ (by omega), hA, Nat.sub_self, List.length_take, Nat.min_eq_left (by omega)]
        simp [renF]
      unfold st_log_Renumber_8
      (dsimp +instances only [gi0,gis,row1,rows1,int1,str1,bool1])
      simp only [Int.toNat_natCast, Nat.zero_add, hget]
      (repeat(first|(refine Ret.pos ?_ ?_;(first|rfl|assumption|(simp only [inI,sl]<;>omega)))|(refine Ret.neg ?_ ?_;(first|rfl|assumption|(simp only [inI,sl]<;>omega)))))
      exact Ret.some (.inl ⟨s.set i (put4 (l.getD i []) (1 + (i : Int))), rfl, hset⟩))
    (fun s hs => by
      unfold st_log_Renumber_8
      (dsimp +instances only [gi0,gis,row1,rows1,int1,str1,bool1])
      (repeat(first|(refine Ret.pos ?_ ?_;(first|rfl|assumption|(simp only [inI,sl]<;>omega)))|(refine Ret.neg ?_ ?_;(first|rfl|assumption|(simp only [inI,sl]<;>omega)))))
      exact Ret.some rfl)
    l.length l 0 (by omega) (by simp [renF])
  refine (r.to (by omega)).mono ?_
  rintro c g (⟨s, h2, rfl, rfl⟩ | h)
  · rw [List.take_length, List.drop_length, List.append_nil] at h2
    exact ⟨rfl, by rw [h2]⟩
  · exact h.elim

theorem clone2_ok (a : List (List G)) (h : a.length ≤ 1048576) : F_slices_Clone_Contact_f [.l a] = some [.l a] := by
  refine Ret.toEq ?_
  unfold F_slices_Clone_Contact_f
  (dsimp +instances only [gi0,gis,row1,rows1,int1,str1,bool1])
  refine Ret.test (fun h1 => ?_) fun h1 => ?_
  · unfold F_slices_Clone_Contact_f_0
    (dsimp +instances only [gi0,gis,row1,rows1,int1,str1,bool1])
    (repeat(first|(refine Ret.pos ?_ ?_;(first|rfl|assumption|(simp only [inI,sl]<;>omega)))|(refine Ret.neg ?_ ?_;(first|rfl|assumption|(simp only [inI,sl]<;>omega)))))
    exact Ret.some rfl
  · have : a = [] := by
      cases a with
      | nil => rfl
      | cons x a =>
        have h2 : Nat.blt 0 (x :: a).length = true := by rw [Nat.blt_eq]; simp
        rw [h2] at h1
        cases h1
    subst this
    exact Ret.some rfl

theorem renumber2_ok (l : List (List G)) (hC : ∀ z ∈ l, Con z) (hf : faultLog l = 0) (hn : l.length < 90000) : F_log_Renumber [.l l, .i 1] = some [.l (renF l 1), .i 0] := by
  have ho : inB 1 1 99999 = true := rfl
  refine Ret.toEq ?_
  unfold F_log_Renumber
  (dsimp +instances only [gi0,gis,row1,rows1,int1,str1,bool1])
  refine Ret.call (Ret.eq (checkLog_eq l hC (by omega))) ?_
  rintro _ rfl
  (dsimp +instances only [gi0,gis,row1,rows1,int1,str1,bool1])
  rw [hf]
  refine Ret.neg rfl ?_
  refine Ret.call (Ret.eq (outside_eq _ _ _)) ?_
  rintro _ rfl
  (dsimp +instances only [gi0,gis,row1,rows1,int1,str1,bool1])
  refine Ret.neg (by rw [ho]; rfl) ?_
  (repeat(first|(refine Ret.pos ?_ ?_;(first|rfl|assumption|(simp only [inI,sl]<;>omega)))|(refine Ret.neg ?_ ?_;(first|rfl|assumption|(simp only [inI,sl]<;>omega)))))
  refine Ret.call (Ret.eq (clone2_ok l (by omega))) ?_
  rintro _ rfl
  (dsimp +instances only [gi0,gis,row1,rows1,int1,str1,bool1])
  refine Ret.loop (renum2_loop l hn) (by (first|rfl|assumption|(simp only [inI,sl]<;>omega))) ?_
  rintro _ _ ⟨rfl, rfl⟩
  (dsimp +instances only [gi0,gis,row1,rows1,int1,str1,bool1])
  (repeat(first|(refine Ret.pos ?_ ?_;(first|rfl|assumption|(simp only [inI,sl]<;>omega)))|(refine Ret.neg ?_ ?_;(first|rfl|assumption|(simp only [inI,sl]<;>omega)))))
  exact Ret.some rfl

theorem cnt_ren {l : List (List G)} (hs : ∀ k, k < l.length → snt l k = 1 + (k : Int)) (n : Int) : ∀ i, i ≤ l.length → cntS l n i = if 1 ≤ n ∧ n ≤ (i : Int) then 1 else 0
  | 0, _ => by
    rw [if_neg (by omega)]
    rfl
  | i + 1, h => by
    simp only [cntS, hs i (by omega), cnt_ren hs n i (by omega)]
    by_cases e : n = 1 + (i : Int)
    · rw [if_pos e, if_neg (by omega), if_pos (by omega)]
      rfl
    · rw [if_neg e]
      by_cases e2 : 1 ≤ n ∧ n ≤ (i : Int)
      · rw [if_pos e2, if_pos (by omega)]
      · rw [if_neg e2, if_neg (by omega)]
theorem top_ren {l : List (List G)} (hs : ∀ k, k < l.length → snt l k = 1 + (k : Int)) : ∀ i, i ≤ l.length → topS l i = i
  | 0, _ => rfl
  | i + 1, h => by
    simp only [topS, hs i (by omega), top_ren hs i (by omega)]
    rw [if_pos (by omega)]
    omega
theorem ser_ren {f : Int → Int} {T : Nat} (h : ∀ n, 1 ≤ n → n ≤ (T : Int) → f n = 1) : ∀ i, i ≤ T → serL f i = ([], [])
  | 0, _ => rfl
  | i + 1, hi => by
    simp only [serL, ser_ren h i (by omega), serStep, h ((i : Int) + 1) (by omega) (by omega)]
    rfl

/-- Numbers that are missing and those that were sent are all up to the greatest one; renumbered, none is missing or twice. -/
theorem numbersAddUp_data (rows : List (List G)) : F_pilekeep2_NumbersAddUp [.l rows] = some [.t true] := by
  refine Ret.toEq ?_
  unfold F_pilekeep2_NumbersAddUp
  (dsimp +instances only [gi0,gis,row1,rows1,int1,str1,bool1])
  refine Ret.call (r_Range rows 0 0 12 (by omega) (by omega) (by omega) (by omega) (by omega)) ?_
  rintro _ ⟨v, rfl, hv0, hv1⟩
  (dsimp +instances only [gi0,gis,row1,rows1,int1,str1,bool1])
  refine Ret.call (r_Right rows _ v (by omega) (by omega) hv0 (by omega)) ?_
  rintro _ ⟨a1, l, rfl, ha0, ha1, hl, hll, hfl⟩
  (dsimp +instances only [gi0,gis,row1,rows1,int1,str1,bool1])
  have hC : ∀ z ∈ l, Con z := fun z hz => (hl z hz).to
  have hlen : l.length ≤ 20 := by omega
  have hS : ∀ k, k < l.length → 0 ≤ snt l k ∧ snt l k ≤ 99999 := fun k hk => (faultC_zero (faultLog_all hfl _ (getD_row hk))).2.2.1
  -- renumbered
  have hyl : (renF l 1).length = l.length := renF_length l 1
  have hyC : ∀ z ∈ renF l 1, Con z := fun z hz => by
    obtain ⟨k, hk, rfl⟩ := List.getElem_of_mem hz
    have e := renF_getD l 1 k (by omega)
    rw [List.getD_eq_getElem?_getD, List.getElem?_eq_getElem hk] at e
    have e : (renF l 1)[k] = put4 (l.getD k []) (1 + (k : Int)) := e
    rw [e]
    exact (put4_con (hC _ (getD_row (by omega))) (by omega) (by omega)).1
  have hyf : faultLog (renF l 1) = 0 := by
    have h := hfl
    unfold faultLog at h ⊢
    rw [if_neg (by omega)] at h ⊢
    exact renF_fault l none 0 1 hC (fun _ h => by cases h) (by omega) (by omega) h
  have hys : ∀ k, k < (renF l 1).length → snt (renF l 1) k = 1 + (k : Int) := fun k hk => by
    unfold snt
    rw [renF_getD l 1 k (by omega)]
    exact (put4_con (hC _ (getD_row (by omega))) (by omega) (by omega)).2.1
  have hy := serials2_ok (renF l 1) hyC hyf (by omega)
  rw [top_ren hys _ (Nat.le_refl _), Int.toNat_natCast, ser_ren (T := (renF l 1).length) (fun n h1 h2 => by
    show cntS (renF l 1) n (renF l 1).length = 1
    rw [cnt_ren hys n _ (Nat.le_refl _), if_pos ⟨h1, h2⟩]) _ (Nat.le_refl _)] at hy
  have hT := topS_ok hS l.length (Nat.le_refl _)
  have q := serQ (fun n => cntS l n l.length) (topS l l.length).toNat
  have ok := serL_ok (fun n => cntS l n l.length) (topS l l.length).toNat
  have hx := serials2_ok l hC hfl (by omega)
  generalize hs : serL (fun n => cntS l n l.length) (topS l l.length).toNat = s at q ok hx
  refine Ret.call (Ret.eq hx) ?_
  rintro _ rfl
  refine Ret.call (Ret.eq (renumber2_ok l hC hfl (by omega))) ?_
  rintro _ rfl
  (dsimp +instances only [gi0,gis,row1,rows1,int1,str1,bool1])
  refine Ret.call (Ret.eq hy) ?_
  rintro _ rfl
  (dsimp +instances only [gi0,gis,row1,rows1,int1,str1,bool1])
  refine Ret.call (Ret.eq (errs_eq [0, 0, 0] (by simp))) ?_
  rintro _ rfl
  refine Ret.neg rfl (Ret.pos rfl (Ret.neg rfl (Ret.neg (by simp [hyl]) ?_)))
  refine Ret.loop (sent_loop l s.1 s.2 (by omega) hS) rfl ?_
  rintro _ _ ⟨rfl, m, k, rfl, hm⟩
  (dsimp +instances only [gi0,gis,row1,rows1,int1,str1,bool1])
  try simp only [Int.toNat_natCast]
  refine Ret.loop (win_loop m s.1 s.2 k (topS l l.length) (by have := ok.l1; omega) q.pw fun r hr => ?_) rfl ?_
  · obtain ⟨a, b, e, h1, h2, h3⟩ := q.lt r hr
    exact ⟨a, b, e, h1, h2, by omega⟩
  rintro _ _ ⟨rfl, rfl⟩
  (dsimp +instances only [gi0,gis,row1,rows1,int1,str1,bool1])
  try simp only [Int.toNat_natCast]
  refine Ret.neg rfl ?_
  refine Ret.loop (twice_loop m s.2 k (topS l l.length) (sumW s.1) (by have := ok.l2; omega) fun r hr => ?_) rfl ?_
  · obtain ⟨n, e, h1, h2⟩ := q.tw r hr
    refine ⟨n, e, ?_⟩
    rw [hm.val n]
    simp only [hasS, Bool.and_eq_true, decide_eq_true_eq]
    exact ⟨by omega, by omega⟩
  rintro _ _ ⟨rfl, rfl⟩
  (dsimp +instances only [gi0,gis,row1,rows1,int1,str1,bool1])
  refine Ret.neg rfl ?_
  have hd := dN_eN (fun n => cntS l n l.length) (topS l l.length).toNat
  have hdl := dN_le (fun n => cntS l n l.length) (topS l l.length).toNat
  have hml := hm.len
  have hsum := q.sum
  have hmn : (m.length : Int) ≤ 99999 := by omega
  (repeat(first|(refine Ret.pos ?_ ?_;(first|rfl|assumption|(simp only [inI,sl]<;>omega)))|(refine Ret.neg ?_ ?_;(first|rfl|assumption|(simp only [inI,sl]<;>omega)))))
  exact Ret.call (Ret.eq (rfl : F_pilekeep2_ready [] = some [.t true])) fun _ h => by
    subst h
    exact Ret.some rfl

end Go.Proofs.SYtpfhjchbegdgdaaGreatDoor
