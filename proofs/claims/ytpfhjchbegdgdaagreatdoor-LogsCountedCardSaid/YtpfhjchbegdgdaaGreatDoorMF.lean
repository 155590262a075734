/-
  What is proved here: what the methods of the stream give on data. No condition.
-/
import Derived.Test.YtpfhjchbegdgdaaGreatDoorML4
import Derived.Test.YtpfhjchbegdgdaaGreatDoorME
set_option linter.unusedSimpArgs false
set_option linter.unusedVariables false
namespace Go.Proofs.SYtpfhjchbegdgdaaGreatDoor
open Go Go.AL Go.Proofs

theorem r_Below (x n : Int) (h0 : 1 ≤ n) (h1 : n ≤ 1099511627776) : Ret (F_pilemake_Below [.i x, .i n]) fun g => ∃ v, g = [.i v] ∧ 0 ≤ v ∧ v < n := by
  unfold F_pilemake_Below
  (dsimp +instances only [gi0,gis,row1,rows1,int1,str1,bool1])
  have ha := Int.tmod_lt_of_pos x (by omega : 0 < n)
  have hb := Int.lt_tmod_of_pos x (by omega : 0 < n)
  (repeat(first|(refine Ret.pos ?_ ?_;(first|rfl|assumption|(simp only [inI,sl]<;>omega)))|(refine Ret.neg ?_ ?_;(first|rfl|assumption|(simp only [inI,sl]<;>omega)))))
  refine Ret.test (fun h => ?_) fun h => ?_
  · simp only [ltI_eq, decide_eq_true_eq] at h
    (repeat(first|(refine Ret.pos ?_ ?_;(first|rfl|assumption|(simp only [inI,sl]<;>omega)))|(refine Ret.neg ?_ ?_;(first|rfl|assumption|(simp only [inI,sl]<;>omega)))))
    exact Ret.some ⟨_, rfl, by omega, by omega⟩
  · simp only [ltI_eq, decide_eq_false_iff_not] at h
    exact Ret.some ⟨_, rfl, by omega, by omega⟩

/-- A number of the stream; how far it is then. -/
theorem r_Next (l : List (List G)) (a n : Int) (ha : 0 ≤ a) (ha1 : a ≤ 1000000) (h0 : 1 ≤ n) (h1 : n ≤ 1099511627776) :
    Ret (F_pilemake_Stream_Next [.l l, .i a, .i n]) fun g => ∃ v, g = [.l l, .i (a + 1), .i v] ∧ 0 ≤ v ∧ v < n := by
  unfold F_pilemake_Stream_Next
  (dsimp +instances only [gi0,gis,row1,rows1,int1,str1,bool1])
  have ea : a + 1 - 1 = a := by omega
  simp only [ea]
  by_cases hl : l.length = 0
  · (repeat(first|(refine Ret.pos ?_ ?_;(first|rfl|assumption|(simp only [inI,sl]<;>omega)))|(refine Ret.neg ?_ ?_;(first|rfl|assumption|(simp only [inI,sl]<;>omega)))))
    refine Ret.call (r_Below _ n h0 h1) ?_
    rintro _ ⟨v, rfl, h2, h3⟩
    (dsimp +instances only [gi0,gis,row1,rows1,int1,str1,bool1])
    exact Ret.some ⟨v, rfl, h2, h3⟩
  · have hp : (0 : Int) < (l.length : Int) := by omega
    have d0 : 0 ≤ Int.tdiv a l.length := Int.tdiv_nonneg ha (by omega)
    have d1 : Int.tdiv a l.length ≤ a := by
      rw [Int.tdiv_eq_ediv_of_nonneg ha]
      exact Int.ediv_le_self _ ha
    have m0 : 0 ≤ Int.tmod a l.length := by
      rw [Int.tmod_eq_emod_of_nonneg ha]
      exact Int.emod_nonneg _ (by omega)
    have m1 : Int.tmod a l.length < l.length := Int.tmod_lt_of_pos a hp
    have m2 : Int.tmod a l.length ≤ a := by
      rw [Int.tmod_eq_emod_of_nonneg ha]
      have := Int.mul_ediv_add_emod a l.length
      have h4 : 0 ≤ (l.length : Int) * (a / l.length) := Int.mul_nonneg (by omega) (Int.ediv_nonneg ha (by omega))
      omega
    generalize hq : Int.tdiv a l.length = q at *
    generalize hr : Int.tmod a l.length = r at *
    have p0 : 0 ≤ q * (7919 + r) := Int.mul_nonneg d0 (by omega)
    have p1 : q * (7919 + r) ≤ 1000000 * 2000000 := Int.mul_le_mul (by omega) (by omega) (by omega) (by omega)
    generalize hz : q * (7919 + r) = z at *
    (repeat(first|(refine Ret.pos ?_ ?_;(first|rfl|assumption|(simp only [inI,sl]<;>omega)))|(refine Ret.neg ?_ ?_;(first|rfl|assumption|(simp only [inI,sl]<;>omega)))))
    refine Ret.call (r_Below _ 1073741824 (by omega) (by omega)) ?_
    rintro _ ⟨u, rfl, h2, h3⟩
    (dsimp +instances only [gi0,gis,row1,rows1,int1,str1,bool1])
    (repeat(first|(refine Ret.pos ?_ ?_;(first|rfl|assumption|(simp only [inI,sl]<;>omega)))|(refine Ret.neg ?_ ?_;(first|rfl|assumption|(simp only [inI,sl]<;>omega)))))
    refine Ret.call (r_Below _ n h0 h1) ?_
    rintro _ ⟨v, rfl, h4, h5⟩
    (dsimp +instances only [gi0,gis,row1,rows1,int1,str1,bool1])
    exact Ret.some ⟨v, rfl, h4, h5⟩

theorem r_Range (l : List (List G)) (a lo hi : Int) (ha : 0 ≤ a) (ha1 : a ≤ 1000000) (h0 : lo ≤ hi) (h1 : -1000000000 ≤ lo) (h2 : hi ≤ 1000000000) :
    Ret (F_pilemake_Stream_Range [.l l, .i a, .i lo, .i hi]) fun g => ∃ v, g = [.l l, .i (a + 1), .i v] ∧ lo ≤ v ∧ v ≤ hi := by
  unfold F_pilemake_Stream_Range
  (dsimp +instances only [gi0,gis,row1,rows1,int1,str1,bool1])
  (repeat(first|(refine Ret.pos ?_ ?_;(first|rfl|assumption|(simp only [inI,sl]<;>omega)))|(refine Ret.neg ?_ ?_;(first|rfl|assumption|(simp only [inI,sl]<;>omega)))))
  refine Ret.call (r_Next l a _ ha ha1 (by omega) (by omega)) ?_
  rintro _ ⟨v, rfl, h3, h4⟩
  (dsimp +instances only [gi0,gis,row1,rows1,int1,str1,bool1])
  (repeat(first|(refine Ret.pos ?_ ?_;(first|rfl|assumption|(simp only [inI,sl]<;>omega)))|(refine Ret.neg ?_ ?_;(first|rfl|assumption|(simp only [inI,sl]<;>omega)))))
  exact Ret.some ⟨_, rfl, by omega, by omega⟩

theorem getD_mem' {l : List (List G)} {v : Int} (h0 : 0 ≤ v) (h1 : v < l.length) : l.getD v.toNat [] ∈ l := by
  have : v.toNat < l.length := by omega
  rw [List.getD_eq_getElem?_getD, List.getElem?_eq_getElem this]
  exact List.getElem_mem this

theorem r_Pick (P : Int → Prop) (l : List (List G)) (a : Int) (xs : List (List G)) (ha : 0 ≤ a) (ha1 : a ≤ 1000000) (h0 : 1 ≤ xs.length) (h1 : xs.length ≤ 1000000) (hP : ∀ x ∈ xs, P (gi x 0).int) :
    Ret (F_pilemake_Stream_Pick [.l l, .i a, .l xs]) fun g => ∃ v, g = [.l l, .i (a + 1), .i v] ∧ P v := by
  unfold F_pilemake_Stream_Pick
  (dsimp +instances only [gi0,gis,row1,rows1,int1,str1,bool1])
  refine Ret.call (r_Next l a _ ha ha1 (by omega) (by omega)) ?_
  rintro _ ⟨v, rfl, h3, h4⟩
  (dsimp +instances only [gi0,gis,row1,rows1,int1,str1,bool1])
  (repeat(first|(refine Ret.pos ?_ ?_;(first|rfl|assumption|(simp only [inI,sl]<;>omega)))|(refine Ret.neg ?_ ?_;(first|rfl|assumption|(simp only [inI,sl]<;>omega)))))
  exact Ret.some ⟨_, rfl, hP _ (getD_mem' h3 h4)⟩

theorem r_Some (P : ByteArray → Prop) (l : List (List G)) (a : Int) (xs : List (List G)) (ha : 0 ≤ a) (ha1 : a ≤ 1000000) (h0 : 1 ≤ xs.length) (h1 : xs.length ≤ 1000000) (hP : ∀ x ∈ xs, P (gi x 0).str) :
    Ret (F_pilemake_Stream_Some [.l l, .i a, .l xs]) fun g => ∃ v, g = [.l l, .i (a + 1), .s v] ∧ P v := by
  unfold F_pilemake_Stream_Some
  (dsimp +instances only [gi0,gis,row1,rows1,int1,str1,bool1])
  refine Ret.call (r_Next l a _ ha ha1 (by omega) (by omega)) ?_
  rintro _ ⟨v, rfl, h3, h4⟩
  (dsimp +instances only [gi0,gis,row1,rows1,int1,str1,bool1])
  (repeat(first|(refine Ret.pos ?_ ?_;(first|rfl|assumption|(simp only [inI,sl]<;>omega)))|(refine Ret.neg ?_ ?_;(first|rfl|assumption|(simp only [inI,sl]<;>omega)))))
  exact Ret.some ⟨_, rfl, hP _ (getD_mem' h3 h4)⟩

theorem r_Flip (l : List (List G)) (a n : Int) (ha : 0 ≤ a) (ha1 : a ≤ 1000000) (h0 : 1 ≤ n) (h1 : n ≤ 1000000) :
    Ret (F_pilemake_Stream_Flip [.l l, .i a, .i n]) fun g => ∃ b, g = [.l l, .i (a + 1), .t b] := by
  unfold F_pilemake_Stream_Flip
  (dsimp +instances only [gi0,gis,row1,rows1,int1,str1,bool1])
  refine Ret.call (r_Next l a _ ha ha1 (by omega) (by omega)) ?_
  rintro _ ⟨v, rfl, h3, h4⟩
  exact Ret.some ⟨_, rfl⟩

/-- A number that need not be between the bounds. -/
theorem r_Odd (l : List (List G)) (a lo hi : Int) (ha : 0 ≤ a) (ha1 : a ≤ 900000) (h0 : lo ≤ hi) (h1 : -1000000000 ≤ lo) (h2 : hi ≤ 1000000000) :
    Ret (F_pilemake_Stream_Odd [.l l, .i a, .i lo, .i hi]) fun g => ∃ v, g = [.l l, .i (a + 2), .i v] ∧ -1099511627776 ≤ v ∧ v ≤ 1099511627776 := by
  unfold F_pilemake_Stream_Odd
  (dsimp +instances only [gi0,gis,row1,rows1,int1,str1,bool1])
  have e2 : a + 1 + 1 = a + 2 := by omega
  refine Ret.call (r_Flip l a 12 ha (by omega) (by omega) (by omega)) ?_
  rintro _ ⟨b, rfl⟩
  (dsimp +instances only [gi0,gis,row1,rows1,int1,str1,bool1])
  cases b with
  | true =>
    (repeat(first|(refine Ret.pos ?_ ?_;(first|rfl|assumption|(simp only [inI,sl]<;>omega)))|(refine Ret.neg ?_ ?_;(first|rfl|assumption|(simp only [inI,sl]<;>omega)))))
    refine Ret.call (r_Pick (fun v => -1099511627776 ≤ v ∧ v ≤ 1099511627776) l (a + 1) _ (by omega) (by omega) (by simp) (by simp) ?_) ?_
    · intro x hx
      simp only [List.mem_cons, List.not_mem_nil, or_false] at hx
      rcases hx with rfl | rfl | rfl | rfl | rfl | rfl <;> (dsimp +instances only [gi0,gis,row1,rows1,int1,str1,bool1]) <;> omega
    · rintro _ ⟨v, rfl, h3, h4⟩
      (dsimp +instances only [gi0,gis,row1,rows1,int1,str1,bool1])
      exact Ret.some ⟨v, by rw [e2], h3, h4⟩
  | false =>
    (repeat(first|(refine Ret.pos ?_ ?_;(first|rfl|assumption|(simp only [inI,sl]<;>omega)))|(refine Ret.neg ?_ ?_;(first|rfl|assumption|(simp only [inI,sl]<;>omega)))))
    refine Ret.call (r_Range l (a + 1) lo hi (by omega) (by omega) h0 h1 h2) ?_
    rintro _ ⟨v, rfl, h3, h4⟩
    (dsimp +instances only [gi0,gis,row1,rows1,int1,str1,bool1])
    exact Ret.some ⟨v, by rw [e2], by omega, by omega⟩

end Go.Proofs.SYtpfhjchbegdgdaaGreatDoor

namespace Go.Proofs.SYtpfhjchbegdgdaaGreatDoor
open Go Go.AL Go.Proofs

def inL (L : List ByteArray) (s : ByteArray) : Bool := L.any fun x => eqS x s
theorem inL_mem {L : List ByteArray} {s : ByteArray} (h : inL L s = true) : s ∈ L := by
  obtain ⟨x, hx, he⟩ := List.any_eq_true.1 h
  exact eqS_eq he ▸ hx

theorem r_PickB (lo hi : Int) (l : List (List G)) (a : Int) (xs : List (List G)) (ha : 0 ≤ a) (ha1 : a ≤ 1000000) (h0 : (Nat.ble 1 xs.length && Nat.ble xs.length 1000000) = true) (hP : (xs.all fun x => leI lo (gi x 0).int && leI (gi x 0).int hi) = true) :
    Ret (F_pilemake_Stream_Pick [.l l, .i a, .l xs]) fun g => ∃ v, g = [.l l, .i (a + 1), .i v] ∧ lo ≤ v ∧ v ≤ hi := by
  simp only [Bool.and_eq_true, Nat.ble_eq] at h0
  refine r_Pick (fun v => lo ≤ v ∧ v ≤ hi) l a xs ha ha1 h0.1 h0.2 fun x hx => ?_
  have := List.all_eq_true.1 hP x hx
  simpa only [leI_eq, Bool.and_eq_true, decide_eq_true_eq] using this
theorem r_SomeB (L : List ByteArray) (l : List (List G)) (a : Int) (xs : List (List G)) (ha : 0 ≤ a) (ha1 : a ≤ 1000000) (h0 : (Nat.ble 1 xs.length && Nat.ble xs.length 1000000) = true) (hP : (xs.all fun x => inL L (gi x 0).str) = true) :
    Ret (F_pilemake_Stream_Some [.l l, .i a, .l xs]) fun g => ∃ v, g = [.l l, .i (a + 1), .s v] ∧ v ∈ L := by
  simp only [Bool.and_eq_true, Nat.ble_eq] at h0
  exact r_Some (fun v => v ∈ L) l a xs ha ha1 h0.1 h0.2 fun x hx => inL_mem (List.all_eq_true.1 hP x hx)

def calls : List ByteArray := [⟨#[]⟩, ⟨#[107, 49]⟩, ⟨#[75, 49, 65, 66]⟩, ⟨#[107, 49, 97, 98, 47]⟩, ⟨#[49, 97]⟩, ⟨#[107, 49, 97, 98, 47, 109, 109, 47, 112]⟩, ⟨#[107, 49, 97, 98]⟩, ⟨#[107, 49, 97, 97]⟩, ⟨#[107, 49, 97, 98, 47, 52]⟩,
  ⟨#[111, 104, 50, 97, 98, 99]⟩, ⟨#[111, 104, 50, 97, 98, 100]⟩, ⟨#[119, 49, 97, 119]⟩, ⟨#[110, 49, 109, 109]⟩, ⟨#[103, 51, 120, 121, 122, 47, 112]⟩]
def bands : List ByteArray := [⟨#[]⟩, ⟨#[66]⟩, ⟨#[98, 50, 48]⟩, ⟨#[98, 52, 48]⟩]
def names : List ByteArray := [⟨#[]⟩, ⟨#[65]⟩, ⟨#[49]⟩, ⟨#[102, 105, 110]⟩, ⟨#[117, 115, 97]⟩]

def small (n : Int) : Prop := -2000000000000 ≤ n ∧ n ≤ 2000000000000
/-- A contact as the stream makes it. -/
def Con (r : List G) : Prop := ∃ (t m : Int) (b c : ByteArray) (s h : Int) (x y : ByteArray), r = [.i t, .i m, .s b, .s c, .i s, .i h, .s x, .s y] ∧ small t ∧ small m ∧ small s ∧ small h ∧ b ∈ bands ∧ c ∈ calls ∧ x ∈ names ∧ y ∈ names

def tight (n : Int) : Prop := -1900000000000 ≤ n ∧ n ≤ 1900000000000
/-- The same, with numbers that may be counted up. -/
def ConT (r : List G) : Prop := ∃ (t m : Int) (b c : ByteArray) (s h : Int) (x y : ByteArray), r = [.i t, .i m, .s b, .s c, .i s, .i h, .s x, .s y] ∧ tight t ∧ tight m ∧ tight s ∧ tight h ∧ b ∈ bands ∧ c ∈ calls ∧ x ∈ names ∧ y ∈ names
theorem tight.to {n : Int} (h : tight n) : small n := ⟨by have := h.1; omega, by have := h.2; omega⟩
theorem ConT.to {r : List G} (h : ConT r) : Con r := by
  obtain ⟨t, m, b, c, s, h, x, y, e, h1, h2, h3, h4, h5⟩ := h
  exact ⟨t, m, b, c, s, h, x, y, e, h1.to, h2.to, h3.to, h4.to, h5⟩

theorem Con.eta {r : List G} (h : Con r) : gEta KContact r = r := by
  obtain ⟨t, m, b, c, s, h, x, y, rfl, _⟩ := h
  rfl

theorem r_ACall (l : List (List G)) (a : Int) (ha : 0 ≤ a) (ha1 : a ≤ 900000) : Ret (F_pilemake_Stream_ACall [.l l, .i a]) fun g => ∃ v, g = [.l l, .i (a + 2), .s v] ∧ v ∈ calls := by
  unfold F_pilemake_Stream_ACall
  (dsimp +instances only [gi0,gis,row1,rows1,int1,str1,bool1])
  have e2 : a + 1 + 1 = a + 2 := by omega
  refine Ret.call (r_Flip l a 60 ha (by omega) (by omega) (by omega)) ?_
  rintro _ ⟨b, rfl⟩
  (dsimp +instances only [gi0,gis,row1,rows1,int1,str1,bool1])
  cases b with
  | true =>
    (repeat(first|(refine Ret.pos ?_ ?_;(first|rfl|assumption|(simp only [inI,sl]<;>omega)))|(refine Ret.neg ?_ ?_;(first|rfl|assumption|(simp only [inI,sl]<;>omega)))))
    refine Ret.call (r_SomeB calls l (a + 1) _ (by omega) (by omega) (by kernel_rfl) (by kernel_rfl)) ?_
    rintro _ ⟨v, rfl, h⟩
    exact Ret.some ⟨v, by (dsimp +instances only [gi0,gis,row1,rows1,int1,str1,bool1]); rw [e2], h⟩
  | false =>
    (repeat(first|(refine Ret.pos ?_ ?_;(first|rfl|assumption|(simp only [inI,sl]<;>omega)))|(refine Ret.neg ?_ ?_;(first|rfl|assumption|(simp only [inI,sl]<;>omega)))))
    refine Ret.call (r_SomeB calls l (a + 1) _ (by omega) (by omega) (by kernel_rfl) (by kernel_rfl)) ?_
    rintro _ ⟨v, rfl, h⟩
    exact Ret.some ⟨v, by (dsimp +instances only [gi0,gis,row1,rows1,int1,str1,bool1]); rw [e2], h⟩

theorem r_SomeContact (l : List (List G)) (a t : Int) (ha : 0 ≤ a) (ha1 : a ≤ 800000) (ht : tight t) :
    Ret (F_pilemake_Stream_SomeContact [.l l, .i a, .i t]) fun g => ∃ b r, g = [.l l, .i b, .l [r]] ∧ a ≤ b ∧ b ≤ a + 20 ∧ ConT r := by
  unfold tight at ht
  unfold F_pilemake_Stream_SomeContact
  (dsimp +instances only [gi0,gis,row1,rows1,int1,str1,bool1])
  refine Ret.call (r_PickB 1 3 l a _ ha (by omega) (by kernel_rfl) (by kernel_rfl)) ?_
  rintro _ ⟨m, rfl, hm⟩
  (dsimp +instances only [gi0,gis,row1,rows1,int1,str1,bool1])
  refine Ret.call (r_SomeB bands l _ _ (by omega) (by omega) (by kernel_rfl) (by kernel_rfl)) ?_
  rintro _ ⟨bd, rfl, hb⟩
  (dsimp +instances only [gi0,gis,row1,rows1,int1,str1,bool1])
  refine Ret.call (r_ACall l _ (by omega) (by omega)) ?_
  rintro _ ⟨c, rfl, hc⟩
  (dsimp +instances only [gi0,gis,row1,rows1,int1,str1,bool1])
  refine Ret.call (r_PickB 0 7 l _ _ (by omega) (by omega) (by kernel_rfl) (by kernel_rfl)) ?_
  rintro _ ⟨s, rfl, hs⟩
  (dsimp +instances only [gi0,gis,row1,rows1,int1,str1,bool1])
  refine Ret.call (r_PickB 0 9 l _ _ (by omega) (by omega) (by kernel_rfl) (by kernel_rfl)) ?_
  rintro _ ⟨h, rfl, hh⟩
  (dsimp +instances only [gi0,gis,row1,rows1,int1,str1,bool1])
  refine Ret.call (r_SomeB names l _ _ (by omega) (by omega) (by kernel_rfl) (by kernel_rfl)) ?_
  rintro _ ⟨x, rfl, hx⟩
  (dsimp +instances only [gi0,gis,row1,rows1,int1,str1,bool1])
  refine Ret.call (r_SomeB names l _ _ (by omega) (by omega) (by kernel_rfl) (by kernel_rfl)) ?_
  rintro _ ⟨y, rfl, hy⟩
  (dsimp +instances only [gi0,gis,row1,rows1,int1,str1,bool1])
  refine Ret.call (r_Flip l _ 100 (by omega) (by omega) (by omega) (by omega)) ?_
  rintro _ ⟨f, rfl⟩
  (dsimp +instances only [gi0,gis,row1,rows1,int1,str1,bool1])
  cases f with
  | false =>
    (repeat(first|(refine Ret.pos ?_ ?_;(first|rfl|assumption|(simp only [inI,sl]<;>omega)))|(refine Ret.neg ?_ ?_;(first|rfl|assumption|(simp only [inI,sl]<;>omega)))))
    exact Ret.some ⟨_, _, rfl, by omega, by omega, t, m, bd, c, s, h, x, y, rfl, ht, ⟨by omega, by omega⟩, ⟨by omega, by omega⟩, ⟨by omega, by omega⟩, hb, hc, hx, hy⟩
  | true =>
    (repeat(first|(refine Ret.pos ?_ ?_;(first|rfl|assumption|(simp only [inI,sl]<;>omega)))|(refine Ret.neg ?_ ?_;(first|rfl|assumption|(simp only [inI,sl]<;>omega)))))
    refine Ret.call (r_Next l _ 4 (by omega) (by omega) (by omega) (by omega)) ?_
    rintro _ ⟨k, rfl, hk⟩
    (dsimp +instances only [gi0,gis,row1,rows1,int1,str1,bool1])
    by_cases k0 : k = 0
    · subst k0
      (repeat(first|(refine Ret.pos ?_ ?_;(first|rfl|assumption|(simp only [inI,sl]<;>omega)))|(refine Ret.neg ?_ ?_;(first|rfl|assumption|(simp only [inI,sl]<;>omega)))))
      refine Ret.call (r_Odd l _ 0 500 (by omega) (by omega) (by omega) (by omega) (by omega)) ?_
      rintro _ ⟨t', rfl, ht'⟩
      (dsimp +instances only [gi0,gis,row1,rows1,int1,str1,bool1])
      refine Ret.call (r_Odd l _ 1 3 (by omega) (by omega) (by omega) (by omega) (by omega)) ?_
      rintro _ ⟨m', rfl, hm'⟩
      (dsimp +instances only [gi0,gis,row1,rows1,int1,str1,bool1])
      exact Ret.some ⟨_, _, rfl, by omega, by omega, t', m', bd, c, s, h, x, y, rfl, ⟨by omega, by omega⟩, ⟨by omega, by omega⟩, ⟨by omega, by omega⟩, ⟨by omega, by omega⟩, hb, hc, hx, hy⟩
    · refine Ret.neg (by simpa using k0) ?_
      by_cases k1 : k = 1
      · subst k1
        (repeat(first|(refine Ret.pos ?_ ?_;(first|rfl|assumption|(simp only [inI,sl]<;>omega)))|(refine Ret.neg ?_ ?_;(first|rfl|assumption|(simp only [inI,sl]<;>omega)))))
        refine Ret.call (r_SomeB bands l _ _ (by omega) (by omega) (by kernel_rfl) (by kernel_rfl)) ?_
        rintro _ ⟨b', rfl, hb'⟩
        (dsimp +instances only [gi0,gis,row1,rows1,int1,str1,bool1])
        exact Ret.some ⟨_, _, rfl, by omega, by omega, t, m, b', c, s, h, x, y, rfl, ht, ⟨by omega, by omega⟩, ⟨by omega, by omega⟩, ⟨by omega, by omega⟩, hb', hc, hx, hy⟩
      · refine Ret.neg (by simpa using k1) ?_
        by_cases k2 : k = 2
        · subst k2
          (repeat(first|(refine Ret.pos ?_ ?_;(first|rfl|assumption|(simp only [inI,sl]<;>omega)))|(refine Ret.neg ?_ ?_;(first|rfl|assumption|(simp only [inI,sl]<;>omega)))))
          refine Ret.call (r_Odd l _ 0 99999 (by omega) (by omega) (by omega) (by omega) (by omega)) ?_
          rintro _ ⟨s', rfl, hs'⟩
          (dsimp +instances only [gi0,gis,row1,rows1,int1,str1,bool1])
          refine Ret.call (r_Odd l _ 0 99999 (by omega) (by omega) (by omega) (by omega) (by omega)) ?_
          rintro _ ⟨h', rfl, hh'⟩
          (dsimp +instances only [gi0,gis,row1,rows1,int1,str1,bool1])
          exact Ret.some ⟨_, _, rfl, by omega, by omega, t, m, bd, c, s', h', x, y, rfl, ht, ⟨by omega, by omega⟩, ⟨by omega, by omega⟩, ⟨by omega, by omega⟩, hb, hc, hx, hy⟩
        · refine Ret.neg (by simpa using k2) ?_
          refine Ret.call (r_SomeB names l _ _ (by omega) (by omega) (by kernel_rfl) (by kernel_rfl)) ?_
          rintro _ ⟨x', rfl, hx'⟩
          (dsimp +instances only [gi0,gis,row1,rows1,int1,str1,bool1])
          refine Ret.call (r_SomeB names l _ _ (by omega) (by omega) (by kernel_rfl) (by kernel_rfl)) ?_
          rintro _ ⟨y', rfl, hy'⟩
          (dsimp +instances only [gi0,gis,row1,rows1,int1,str1,bool1])
          exact Ret.some ⟨_, _, rfl, by omega, by omega, t, m, bd, c, s, h, x', y', rfl, ht, ⟨by omega, by omega⟩, ⟨by omega, by omega⟩, ⟨by omega, by omega⟩, hb, hc, hx', hy'⟩

end Go.Proofs.SYtpfhjchbegdgdaaGreatDoor

namespace Go.Proofs.SYtpfhjchbegdgdaaGreatDoor
open Go Go.AL Go.Proofs

def cmpI (a b : Int) : Int := if a < b then -1 else if b < a then 1 else 0

theorem compareBytes_zero : ∀ {a b : List UInt8}, Lib.compareBytes a b = 0 → a = b
  | [], [], _ => rfl
  | [], _ :: _, h => by simp [Lib.compareBytes] at h
  | _ :: _, [], h => by simp [Lib.compareBytes] at h
  | x :: a, y :: b, h => by
    unfold Lib.compareBytes at h
    split at h
    · cases h
    · split at h
      · cases h
      · rename_i h1 h2
        rw [compareBytes_zero h, UInt8.le_antisymm (UInt8.not_lt.1 h2) (UInt8.not_lt.1 h1)]
theorem compareBytes_self : ∀ a : List UInt8, Lib.compareBytes a a = 0
  | [] => rfl
  | x :: a => by simp [Lib.compareBytes, compareBytes_self a]

theorem str_eq (a b : ByteArray) : (a.toList == b.toList) = decide (cmpS a b = 0) := by
  rw [ByteArray.toList_eq, ByteArray.toList_eq, Bool.eq_iff_iff, decide_eq_true_eq, beq_iff_eq]
  constructor
  · intro h
    unfold cmpS
    rw [h]
    exact compareBytes_self _
  · exact fun h => compareBytes_zero h

def or4 (a b c d : Int) : Int := if a ≠ 0 then a else if b ≠ 0 then b else if c ≠ 0 then c else d
/-- How contacts are ordered. -/
def ordC (r s : List G) : Int := or4 (cmpI (gi r 0).int (gi s 0).int) (cmpS (gi r 3).str (gi s 3).str) (cmpS (gi r 2).str (gi s 2).str) (cmpI (gi r 1).int (gi s 1).int)

theorem sign_eq (a b : Int) : F_pileref2_sign [.i (a - b)] = some [.i (cmpI a b)] := by
  refine Ret.toEq ?_
  unfold F_pileref2_sign cmpI
  (dsimp +instances only [gi0,gis,row1,rows1,int1,str1,bool1])
  by_cases h1 : a < b
  · (repeat(first|(refine Ret.pos ?_ ?_;(first|rfl|assumption|(simp only [inI,sl]<;>omega)))|(refine Ret.neg ?_ ?_;(first|rfl|assumption|(simp only [inI,sl]<;>omega)))))
    exact Ret.some (by simp [h1])
  · by_cases h2 : b < a
    · (repeat(first|(refine Ret.pos ?_ ?_;(first|rfl|assumption|(simp only [inI,sl]<;>omega)))|(refine Ret.neg ?_ ?_;(first|rfl|assumption|(simp only [inI,sl]<;>omega)))))
      exact Ret.some (by simp [h1, h2])
    · (repeat(first|(refine Ret.pos ?_ ?_;(first|rfl|assumption|(simp only [inI,sl]<;>omega)))|(refine Ret.neg ?_ ?_;(first|rfl|assumption|(simp only [inI,sl]<;>omega)))))
      exact Ret.some (by simp [h1, h2])

theorem order_eq {r s : List G} (hr : Con r) (hs : Con s) : F_pileref2_ContactOrder [.l [r], .l [s]] = some [.i (ordC r s)] := by
  obtain ⟨t, m, b, c, _, _, _, _, rfl, ht, hm, _⟩ := hr
  obtain ⟨t', m', b', c', _, _, _, _, rfl, ht', hm', _⟩ := hs
  unfold small at *
  refine Ret.toEq ?_
  unfold F_pileref2_ContactOrder ordC or4
  (dsimp +instances only [gi0,gis,row1,rows1,int1,str1,bool1])
  simp only [str_eq]
  by_cases e1 : t = t'
  · subst e1
    have z : cmpI t t = 0 := by simp [cmpI]
    simp only [z]
    (repeat(first|(refine Ret.pos ?_ ?_;(first|rfl|assumption|(simp only [inI,sl]<;>omega)))|(refine Ret.neg ?_ ?_;(first|rfl|assumption|(simp only [inI,sl]<;>omega)))))
    by_cases e2 : cmpS c c' = 0
    · simp only [e2]
      (repeat(first|(refine Ret.pos ?_ ?_;(first|rfl|assumption|(simp only [inI,sl]<;>omega)))|(refine Ret.neg ?_ ?_;(first|rfl|assumption|(simp only [inI,sl]<;>omega)))))
      by_cases e3 : cmpS b b' = 0
      · simp only [e3]
        (repeat(first|(refine Ret.pos ?_ ?_;(first|rfl|assumption|(simp only [inI,sl]<;>omega)))|(refine Ret.neg ?_ ?_;(first|rfl|assumption|(simp only [inI,sl]<;>omega)))))
        refine Ret.call (Ret.eq (sign_eq m m')) ?_
        rintro _ rfl
        (dsimp +instances only [gi0,gis,row1,rows1,int1,str1,bool1])
        exact Ret.some (by simp)
      · refine Ret.pos (by simpa using e3) (Ret.call (Ret.eq (rfl : F_strings_Compare [.s b, .s b'] = some [.i (cmpS b b')])) ?_)
        rintro _ rfl
        (dsimp +instances only [gi0,gis,row1,rows1,int1,str1,bool1])
        exact Ret.some (by simp [e3])
    · refine Ret.pos (by simpa using e2) (Ret.call (Ret.eq (rfl : F_strings_Compare [.s c, .s c'] = some [.i (cmpS c c')])) ?_)
      rintro _ rfl
      (dsimp +instances only [gi0,gis,row1,rows1,int1,str1,bool1])
      exact Ret.some (by simp [e2])
  · (repeat(first|(refine Ret.pos ?_ ?_;(first|rfl|assumption|(simp only [inI,sl]<;>omega)))|(refine Ret.neg ?_ ?_;(first|rfl|assumption|(simp only [inI,sl]<;>omega)))))
    refine Ret.call (Ret.eq (sign_eq t t')) ?_
    rintro _ rfl
    (dsimp +instances only [gi0,gis,row1,rows1,int1,str1,bool1])
    have z : cmpI t t' ≠ 0 := by
      unfold cmpI
      split
      · omega
      · split <;> omega
    exact Ret.some (by simp [z])

theorem cmpInt_eq (a b : Int) : F_cmp_Compare_int [.i a, .i b] = some [.i (cmpI a b)] := by
  refine Ret.toEq ?_
  unfold F_cmp_Compare_int F_cmp_isNaN_int cmpI
  (dsimp +instances only [gi0,gis,row1,rows1,int1,str1,bool1])
  simp only [bne_self_eq_false]
  refine Ret.call ⟨_, rfl, rfl⟩ ?_
  rintro _ rfl
  refine Ret.call ⟨_, rfl, rfl⟩ ?_
  rintro _ rfl
  (dsimp +instances only [gi0,gis,row1,rows1,int1,str1,bool1])
  (repeat(first|(refine Ret.pos ?_ ?_;(first|rfl|assumption|(simp only [inI,sl]<;>omega)))|(refine Ret.neg ?_ ?_;(first|rfl|assumption|(simp only [inI,sl]<;>omega)))))
  by_cases h1 : a < b
  · (repeat(first|(refine Ret.pos ?_ ?_;(first|rfl|assumption|(simp only [inI,sl]<;>omega)))|(refine Ret.neg ?_ ?_;(first|rfl|assumption|(simp only [inI,sl]<;>omega)))))
    exact Ret.some (by simp [h1])
  · by_cases h2 : b < a
    · (repeat(first|(refine Ret.pos ?_ ?_;(first|rfl|assumption|(simp only [inI,sl]<;>omega)))|(refine Ret.neg ?_ ?_;(first|rfl|assumption|(simp only [inI,sl]<;>omega)))))
      exact Ret.some (by simp [h1, h2])
    · (repeat(first|(refine Ret.pos ?_ ?_;(first|rfl|assumption|(simp only [inI,sl]<;>omega)))|(refine Ret.neg ?_ ?_;(first|rfl|assumption|(simp only [inI,sl]<;>omega)))))
      exact Ret.some (by simp [h1, h2])

def orL : List (List G) → Int
  | [] => 0
  | x :: q => if (gi x 0).int ≠ 0 then (gi x 0).int else orL q

theorem or_runs : ∀ (q p : List (List G)), p.length + q.length < 100000 →
    RetN st_cmp_Or_int_3 [.i 0, .l (p ++ q), .i ((p.length + q.length : Nat) : Int), .i (p.length : Int)] (q.length + 1) fun c g => c ≤ 1 ∧ g = [.i (orL q)]
  | [], p, hl => by
    refine RetN.stop (x := 1) (Ret.toEq ?_) ⟨by omega, rfl⟩
    unfold st_cmp_Or_int_3
    (dsimp +instances only [gi0,gis,row1,rows1,int1,str1,bool1])
    (repeat(first|(refine Ret.pos ?_ ?_;(first|rfl|assumption|(simp only [inI,sl]<;>omega)))|(refine Ret.neg ?_ ?_;(first|rfl|assumption|(simp only [inI,sl]<;>omega)))))
    exact Ret.some rfl
  | y :: q, p, hl => by
    simp only [List.length_cons] at hl
    have g1 : (p ++ y :: q).getD (p.length : Int).toNat [] = y := getD_mid _ _ _ _ _ (by simp)
    have hlen : (p ++ y :: q).length = p.length + q.length + 1 := by simp; omega
    by_cases he : (gi y 0).int = 0
    · have ih := or_runs q (p ++ [y]) (by simp; omega)
      have e : orL (y :: q) = orL q := by simp [orL, he]
      rw [e]
      refine RetN.next (Ret.toEq ?_) ih
      unfold st_cmp_Or_int_3
      (dsimp +instances only [gi0,gis,row1,rows1,int1,str1,bool1])
      simp only [g1, hlen, List.length_cons]
      (repeat(first|(refine Ret.pos ?_ ?_;(first|rfl|assumption|(simp only [inI,sl]<;>omega)))|(refine Ret.neg ?_ ?_;(first|rfl|assumption|(simp only [inI,sl]<;>omega)))))
      refine Ret.some ?_
      simp
      omega
    · refine RetN.stop (x := 0) (Ret.toEq ?_) ⟨by omega, rfl⟩
      unfold st_cmp_Or_int_3
      (dsimp +instances only [gi0,gis,row1,rows1,int1,str1,bool1])
      simp only [g1, hlen, List.length_cons]
      (repeat(first|(refine Ret.pos ?_ ?_;(first|rfl|assumption|(simp only [inI,sl]<;>omega)))|(refine Ret.neg ?_ ?_;(first|rfl|assumption|(simp only [inI,sl]<;>omega)))))
      refine Ret.some ?_
      simp [orL, he]

theorem or_eq (a b c d : Int) : F_cmp_Or_int [.l [[.i a], [.i b], [.i c], [.i d]]] = some [.i (or4 a b c d)] := by
  refine Ret.toEq ?_
  unfold F_cmp_Or_int
  (dsimp +instances only [gi0,gis,row1,rows1,int1,str1,bool1])
  have h := or_runs [[.i a], [.i b], [.i c], [.i d]] [] (by simp)
  refine Ret.loop (h.to (by simp)) (by (first|rfl|assumption|(simp only [inI,sl]<;>omega))) ?_
  rintro x g ⟨hx, rfl⟩
  have e : orL [[.i a], [.i b], [.i c], [.i d]] = or4 a b c d := by
    simp only [orL, or4]
    (dsimp +instances only [gi0,gis,row1,rows1,int1,str1,bool1])
    by_cases h1 : a = 0 <;> by_cases h2 : b = 0 <;> by_cases h3 : c = 0 <;> by_cases h4 : d = 0 <;> simp [h1, h2, h3, h4]
  rw [e]
  (dsimp +instances only [gi0,gis,row1,rows1,int1,str1,bool1])
  exact Ret.test (fun _ => Ret.some rfl) fun _ => Ret.some rfl

theorem compare_eq {r s : List G} (hr : Con r) (hs : Con s) : F_log_Compare [.l [r], .l [s]] = some [.i (ordC r s)] := by
  obtain ⟨t, m, b, c, _, _, _, _, rfl, ht, hm, _⟩ := hr
  obtain ⟨t', m', b', c', _, _, _, _, rfl, ht', hm', _⟩ := hs
  refine Ret.toEq ?_
  unfold F_log_Compare
  (dsimp +instances only [gi0,gis,row1,rows1,int1,str1,bool1])
  refine Ret.call (Ret.eq (cmpInt_eq t t')) ?_
  rintro _ rfl
  refine Ret.call (Ret.eq (rfl : F_strings_Compare [.s c, .s c'] = some [.i (cmpS c c')])) ?_
  rintro _ rfl
  refine Ret.call (Ret.eq (rfl : F_strings_Compare [.s b, .s b'] = some [.i (cmpS b b')])) ?_
  rintro _ rfl
  refine Ret.call (Ret.eq (cmpInt_eq m m')) ?_
  rintro _ rfl
  (dsimp +instances only [gi0,gis,row1,rows1,int1,str1,bool1])
  refine Ret.call (Ret.eq (or_eq _ _ _ _)) ?_
  rintro _ rfl
  exact Ret.some rfl

theorem cmpOrder : Cmp KContact F_pileref2_ContactOrder Con ordC := ⟨fun _ _ hr hs => order_eq hr hs, fun _ h => h.eta⟩
theorem cmpCompare : Cmp KContact F_log_Compare Con ordC := ⟨fun _ _ hr hs => compare_eq hr hs, fun _ h => h.eta⟩

end Go.Proofs.SYtpfhjchbegdgdaaGreatDoor

namespace Go.Proofs.SYtpfhjchbegdgdaaGreatDoor
open Go Go.AL Go.Proofs

def inB (v lo hi : Int) : Bool := leI lo v && leI v hi
theorem in_eq (v lo hi : Int) : F_pileref2_in [.i v, .i lo, .i hi] = some [.t (inB v lo hi)] := by
  unfold F_pileref2_in inB
  (dsimp +instances only [gi0,gis,row1,rows1,int1,str1,bool1])
  cases leI lo v <;> rfl
theorem outside_eq (v lo hi : Int) : F_kit_Outside [.i v, .i lo, .i hi] = some [.t (!inB v lo hi)] := by
  unfold F_kit_Outside inB
  (dsimp +instances only [gi0,gis,row1,rows1,int1,str1,bool1])
  have h1 : ltI v lo = !leI lo v := by rw [ltI_eq, leI_eq, Bool.eq_iff_iff]; simp
  have h2 : ltI hi v = !leI v hi := by rw [ltI_eq, leI_eq, Bool.eq_iff_iff]; simp
  rw [h1, h2]
  cases leI lo v <;> cases leI v hi <;> rfl

def okKey (s : ByteArray) : Bool := inL [⟨#[98, 50, 48]⟩, ⟨#[98, 52, 48]⟩, ⟨#[102, 105, 110]⟩, ⟨#[117, 115, 97]⟩] s
def okName (s : ByteArray) : Bool := inL [⟨#[]⟩] s || okKey s
def okCall (s : ByteArray) : Bool := (gi ((F_call_Is [.s s]).getD []) 0).bool

theorem isKey_eq {s : ByteArray} (h : s ∈ bands ∨ s ∈ names) : F_kit_IsKey [.s s] = some [.t (okKey s)] := by
  simp only [bands, names, List.mem_cons, List.not_mem_nil, or_false] at h
  rcases h with (rfl | rfl | rfl | rfl) | (rfl | rfl | rfl | rfl | rfl) <;> kernel_rfl
theorem key_eq {s : ByteArray} (h : s ∈ bands ∨ s ∈ names) : F_pileref2_Key [.s s] = some [.t (okKey s)] := by
  simp only [bands, names, List.mem_cons, List.not_mem_nil, or_false] at h
  rcases h with (rfl | rfl | rfl | rfl) | (rfl | rfl | rfl | rfl | rfl) <;> kernel_rfl
theorem isName_eq {s : ByteArray} (h : s ∈ names) : F_kit_IsName [.s s] = some [.t (okName s)] := by
  simp only [names, List.mem_cons, List.not_mem_nil, or_false] at h
  rcases h with (rfl | rfl | rfl | rfl | rfl) <;> kernel_rfl
theorem isCall_eq {s : ByteArray} (h : s ∈ calls) : F_call_Is [.s s] = some [.t (okCall s)] := by
  simp only [calls, List.mem_cons, List.not_mem_nil, or_false] at h
  rcases h with (rfl | rfl | rfl | rfl | rfl | rfl | rfl | rfl | rfl | rfl | rfl | rfl | rfl | rfl) <;> kernel_rfl
theorem call_eq {s : ByteArray} (h : s ∈ calls) : F_pileref2_Call [.s s] = some [.t (okCall s)] := by
  simp only [calls, List.mem_cons, List.not_mem_nil, or_false] at h
  rcases h with (rfl | rfl | rfl | rfl | rfl | rfl | rfl | rfl | rfl | rfl | rfl | rfl | rfl | rfl) <;> kernel_rfl

/-- What is wrong with a contact. -/
def faultC (r : List G) : Int :=
  bif !inB (gi r 0).int 0 345686399999 then 1 else bif !inB (gi r 1).int 1 3 then 4 else bif !okKey (gi r 2).str then 5 else bif !okCall (gi r 3).str then 3 else
  bif !inB (gi r 4).int 0 99999 then 1 else bif !inB (gi r 5).int 0 99999 then 1 else bif !okName (gi r 6).str then 5 else bif !okName (gi r 7).str then 5 else 0

theorem check_eq {r : List G} (hr : Con r) : F_log_CheckContact [.l [r]] = some [.i (faultC r)] := by
  obtain ⟨t, m, b, c, s, h, x, y, rfl, _, _, _, _, hb, hc, hx, hy⟩ := hr
  unfold F_log_CheckContact F_kit_IsMoment F_kit_IsMode faultC
  (dsimp +instances only [gi0,gis,row1,rows1,int1,str1,bool1])
  have kb := isKey_eq (.inl hb)
  have kx := isName_eq hx
  have ky := isName_eq hy
  have kc := isCall_eq hc
  rw [outside_eq t, outside_eq m]
  rw [kb, kc, outside_eq s, outside_eq h, kx, ky]
  generalize inB t 0 345686399999 = b1
  generalize inB m 1 3 = b2
  generalize okKey b = b3
  generalize okCall c = b4
  generalize inB s 0 99999 = b5
  generalize inB h 0 99999 = b6
  generalize okName x = b7
  generalize okName y = b8
  cases b1 <;> cases b2 <;> cases b3 <;> cases b4 <;> cases b5 <;> cases b6 <;> cases b7 <;> cases b8 <;> rfl

theorem empty_eq (s : ByteArray) : (s.toList == (⟨#[]⟩ : ByteArray).toList) = inL [⟨#[]⟩] s := by
  rw [ByteArray.toList_eq, ByteArray.toList_eq]
  simp only [inL, eqS, List.any_cons, List.any_nil, Bool.or_false]
  rw [Bool.eq_iff_iff]
  simp only [beq_iff_eq]
  exact eq_comm

theorem fault_eq {r : List G} (hr : Con r) : F_pileref2_ContactFault [.l [r]] = some [.i (faultC r)] := by
  obtain ⟨t, m, b, c, s, h, x, y, rfl, _, _, _, _, hb, hc, hx, hy⟩ := hr
  unfold F_pileref2_ContactFault F_pileref2_Moment faultC okName
  (dsimp +instances only [gi0,gis,row1,rows1,int1,str1,bool1])
  have kb := key_eq (.inl hb)
  have kx := key_eq (.inr hx)
  have ky := key_eq (.inr hy)
  have kc := call_eq hc
  have ex := empty_eq x
  have ey := empty_eq y
  generalize (⟨#[]⟩ : ByteArray) = z at ex ey ⊢
  simp only [in_eq, callF_some rfl, kb, kc, kx, ky]
  (dsimp +instances only [gi0,gis,row1,rows1,int1,str1,bool1])
  rw [ex, ey]
  generalize inB t 0 345686399999 = b1
  generalize inB m 1 3 = b2
  generalize okKey b = b3
  generalize okCall c = b4
  generalize inB s 0 99999 = b5
  generalize inB h 0 99999 = b6
  generalize okKey x = b7
  generalize okKey y = b8
  generalize inL [z] x = b9
  generalize inL [z] y = b10
  cases b1 <;> cases b2 <;> cases b3 <;> cases b4 <;> cases b5 <;> cases b6 <;> cases b7 <;> cases b8 <;> cases b9 <;> cases b10 <;> rfl

end Go.Proofs.SYtpfhjchbegdgdaaGreatDoor

namespace Go.Proofs.SYtpfhjchbegdgdaaGreatDoor
open Go Go.AL Go.Proofs

def chk4 (K : List Kd) (C D : List G → Option (List G)) (d : List G) : Option (Option Nat × List G) :=
  (bif (ltI (gi d 3).int (gi d 2).int) then (bif ((nnI (gi d 3).int) && (ltI (gi d 3).int (((gi d 1).rows.length : Nat) : Int))) then (callF (C [.l [(gEta K ((gi d 1).rows.getD (((gi d 3).int).toNat) []))]]) fun g1 => (bif ((gi g1 0).int != 0) then some (some 0, [.i (gi g1 0).int]) else (bif (ltI 0 (gi d 3).int) then (bif (inI ((gi d 3).int - 1)) then (bif ((nnI ((gi d 3).int - 1)) && (ltI ((gi d 3).int - 1) (((gi d 0).rows.length : Nat) : Int))) then (callF (D [.l [(gEta K ((gi d 0).rows.getD (((gi d 3).int - 1).toNat) []))], .l [(gEta K ((gi d 1).rows.getD (((gi d 3).int).toNat) []))]]) fun g2 => (bif (leI 0 (gi g2 0).int) then some (some 0, [.i 7]) else (bif (inI ((gi d 3).int + 1)) then some (none, [.l (gi d 0).rows, .l (gi d 1).rows, .i (gi d 2).int, .i ((gi d 3).int + 1)]) else none))) else none) else none) else (bif (inI ((gi d 3).int + 1)) then some (none, [.l (gi d 0).rows, .l (gi d 1).rows, .i (gi d 2).int, .i ((gi d 3).int + 1)]) else none)))) else none) else some (some 1, []))
def chkF (K : List Kd) (C D : List G → Option (List G)) (d : List G) : Option (List G) :=
  (bif (ltI 2000 (((gi d 0).rows.length : Nat) : Int)) then some [.i 2] else (loopB true (LRun (chk4 K C D) [.l (gi d 0).rows, .l (gi d 0).rows, .i (((gi d 0).rows.length : Nat) : Int), .i 0]) fun cg3 g3 => (bif Nat.beq cg3 0 then some [.i (gi g3 0).int] else some [.i 0])))

/-- What is wrong with a log, behind a contact. -/
def faultL : Option (List G) → List (List G) → Int
  | _, [] => 0
  | none, x :: q => if faultC x ≠ 0 then faultC x else faultL (some x) q
  | some y, x :: q => if faultC x ≠ 0 then faultC x else if 0 ≤ ordC y x then 7 else faultL (some x) q
def faultLog (l : List (List G)) : Int := if 2000 < l.length then 2 else faultL none l

section
variable {C D : List G → Option (List G)} (hC : ∀ r, Con r → C [.l [r]] = some [.i (faultC r)]) (hD : ∀ r s, Con r → Con s → D [.l [r], .l [s]] = some [.i (ordC r s)])
include hC hD

theorem chk4_runs : ∀ (q p : List (List G)), (∀ z ∈ p ++ q, Con z) → p.length + q.length < 100000 →
    RetN (chk4 KContact C D) [.l (p ++ q), .l (p ++ q), .i ((p.length + q.length : Nat) : Int), .i (p.length : Int)] (q.length + 1) fun c g => (c = 0 ∧ g = [.i (faultL p.getLast? q)]) ∨ c = 1 ∧ faultL p.getLast? q = 0
  | [], p, hQ, hl => by
    refine RetN.stop (x := 1) (d' := []) (Ret.toEq ?_) (.inr ⟨rfl, by unfold faultL; rfl⟩)
    unfold chk4
    (dsimp +instances only [gi0,gis,row1,rows1,int1,str1,bool1])
    (repeat(first|(refine Ret.pos ?_ ?_;(first|rfl|assumption|(simp only [inI,sl]<;>omega)))|(refine Ret.neg ?_ ?_;(first|rfl|assumption|(simp only [inI,sl]<;>omega)))))
    exact Ret.some rfl
  | x :: q, p, hQ, hl => by
    simp only [List.length_cons] at hl
    have hx : Con x := hQ x (by simp)
    have g1 : (p ++ x :: q).getD (p.length : Int).toNat [] = x := getD_mid _ _ _ _ _ (by simp)
    have hlen : (p ++ x :: q).length = p.length + q.length + 1 := by simp; omega
    by_cases hf : faultC x = 0
    · have ih := chk4_runs q (p ++ [x]) (by simpa using hQ) (by simp; omega)
      rw [List.getLast?_concat] at ih
      rcases List.eq_nil_or_concat p with rfl | ⟨p', y, rfl⟩
      · have e : faultL ([] : List (List G)).getLast? (x :: q) = faultL (some x) q := by simp [faultL, hf]
        rw [e]
        refine RetN.next (Ret.toEq ?_) ih
        unfold chk4
        (dsimp +instances only [gi0,gis,row1,rows1,int1,str1,bool1])
        simp only [g1, hlen, List.length_cons, hx.eta]
        (repeat(first|(refine Ret.pos ?_ ?_;(first|rfl|assumption|(simp only [inI,sl]<;>omega)))|(refine Ret.neg ?_ ?_;(first|rfl|assumption|(simp only [inI,sl]<;>omega)))))
        refine Ret.call (Ret.eq (hC x hx)) ?_
        rintro _ rfl
        (dsimp +instances only [gi0,gis,row1,rows1,int1,str1,bool1])
        simp only [hf]
        (repeat(first|(refine Ret.pos ?_ ?_;(first|rfl|assumption|(simp only [inI,sl]<;>omega)))|(refine Ret.neg ?_ ?_;(first|rfl|assumption|(simp only [inI,sl]<;>omega)))))
        refine Ret.some ?_
        simp
        omega
      · rw [List.concat_eq_append] at *
        have hy : Con y := hQ y (by simp)
        have g2 : ((p' ++ [y]) ++ x :: q).getD (((p' ++ [y]).length : Int) - 1).toNat [] = y := by
          have e : (p' ++ [y]) ++ x :: q = p' ++ y :: x :: q := by simp
          rw [e]; exact getD_mid _ _ _ _ _ (by simp)
        have hp : (p' ++ [y]).length = p'.length + 1 := by simp
        have hl0 : (p' ++ [y]).getLast? = some y := by simp
        rw [hl0]
        by_cases ho : 0 ≤ ordC y x
        · refine RetN.stop (x := 0) (d' := [.i 7]) (Ret.toEq ?_) (.inl ⟨rfl, by simp [faultL, hf, ho]⟩)
          unfold chk4
          (dsimp +instances only [gi0,gis,row1,rows1,int1,str1,bool1])
          simp only [g1, g2, hlen, List.length_cons, hx.eta, hy.eta]
          (repeat(first|(refine Ret.pos ?_ ?_;(first|rfl|assumption|(simp only [inI,sl]<;>omega)))|(refine Ret.neg ?_ ?_;(first|rfl|assumption|(simp only [inI,sl]<;>omega)))))
          refine Ret.call (Ret.eq (hC x hx)) ?_
          rintro _ rfl
          (dsimp +instances only [gi0,gis,row1,rows1,int1,str1,bool1])
          simp only [hf]
          (repeat(first|(refine Ret.pos ?_ ?_;(first|rfl|assumption|(simp only [inI,sl]<;>omega)))|(refine Ret.neg ?_ ?_;(first|rfl|assumption|(simp only [inI,sl]<;>omega)))))
          refine Ret.call (Ret.eq (hD y x hy hx)) ?_
          rintro _ rfl
          (dsimp +instances only [gi0,gis,row1,rows1,int1,str1,bool1])
          (repeat(first|(refine Ret.pos ?_ ?_;(first|rfl|assumption|(simp only [inI,sl]<;>omega)))|(refine Ret.neg ?_ ?_;(first|rfl|assumption|(simp only [inI,sl]<;>omega)))))
          exact Ret.some rfl
        · have e : faultL (some y) (x :: q) = faultL (some x) q := by simp [faultL, hf, ho]
          rw [e]
          refine RetN.next (Ret.toEq ?_) ih
          unfold chk4
          (dsimp +instances only [gi0,gis,row1,rows1,int1,str1,bool1])
          simp only [g1, g2, hlen, List.length_cons, hx.eta, hy.eta]
          (repeat(first|(refine Ret.pos ?_ ?_;(first|rfl|assumption|(simp only [inI,sl]<;>omega)))|(refine Ret.neg ?_ ?_;(first|rfl|assumption|(simp only [inI,sl]<;>omega)))))
          refine Ret.call (Ret.eq (hC x hx)) ?_
          rintro _ rfl
          (dsimp +instances only [gi0,gis,row1,rows1,int1,str1,bool1])
          simp only [hf]
          (repeat(first|(refine Ret.pos ?_ ?_;(first|rfl|assumption|(simp only [inI,sl]<;>omega)))|(refine Ret.neg ?_ ?_;(first|rfl|assumption|(simp only [inI,sl]<;>omega)))))
          refine Ret.call (Ret.eq (hD y x hy hx)) ?_
          rintro _ rfl
          (dsimp +instances only [gi0,gis,row1,rows1,int1,str1,bool1])
          (repeat(first|(refine Ret.pos ?_ ?_;(first|rfl|assumption|(simp only [inI,sl]<;>omega)))|(refine Ret.neg ?_ ?_;(first|rfl|assumption|(simp only [inI,sl]<;>omega)))))
          refine Ret.some ?_
          simp
          omega
    · refine RetN.stop (x := 0) (d' := [.i (faultC x)]) (Ret.toEq ?_) (.inl ⟨rfl, by cases hg : p.getLast? <;> simp [faultL, hf]⟩)
      unfold chk4
      (dsimp +instances only [gi0,gis,row1,rows1,int1,str1,bool1])
      simp only [g1, hlen, List.length_cons, hx.eta]
      (repeat(first|(refine Ret.pos ?_ ?_;(first|rfl|assumption|(simp only [inI,sl]<;>omega)))|(refine Ret.neg ?_ ?_;(first|rfl|assumption|(simp only [inI,sl]<;>omega)))))
      refine Ret.call (Ret.eq (hC x hx)) ?_
      rintro _ rfl
      (dsimp +instances only [gi0,gis,row1,rows1,int1,str1,bool1])
      refine Ret.pos (by simpa using hf) (Ret.some rfl)

theorem chkF_eq (l : List (List G)) (hl : ∀ z ∈ l, Con z) (hn : l.length < 100000) : chkF KContact C D [.l l] = some [.i (faultLog l)] := by
  refine Ret.toEq ?_
  unfold chkF faultLog
  (dsimp +instances only [gi0,gis,row1,rows1,int1,str1,bool1])
  by_cases h : 2000 < l.length
  · (repeat(first|(refine Ret.pos ?_ ?_;(first|rfl|assumption|(simp only [inI,sl]<;>omega)))|(refine Ret.neg ?_ ?_;(first|rfl|assumption|(simp only [inI,sl]<;>omega)))))
    exact Ret.some (by simp [h])
  · (repeat(first|(refine Ret.pos ?_ ?_;(first|rfl|assumption|(simp only [inI,sl]<;>omega)))|(refine Ret.neg ?_ ?_;(first|rfl|assumption|(simp only [inI,sl]<;>omega)))))
    have h1 := chk4_runs hC hD l [] (by simpa using hl) (by simpa using hn)
    have h0 : ((0 : Nat) : Int) = 0 := rfl
    simp only [List.nil_append, List.length_nil, Nat.zero_add, h0] at h1
    refine Ret.loop (h1.to (by omega)) (by (first|rfl|assumption|(simp only [inI,sl]<;>omega))) ?_
    rintro c g (⟨rfl, rfl⟩ | ⟨rfl, h2⟩)
    · (dsimp +instances only [gi0,gis,row1,rows1,int1,str1,bool1])
      (repeat(first|(refine Ret.pos ?_ ?_;(first|rfl|assumption|(simp only [inI,sl]<;>omega)))|(refine Ret.neg ?_ ?_;(first|rfl|assumption|(simp only [inI,sl]<;>omega)))))
      refine Ret.some ?_
      rw [if_neg h]
      rfl
    · (repeat(first|(refine Ret.pos ?_ ?_;(first|rfl|assumption|(simp only [inI,sl]<;>omega)))|(refine Ret.neg ?_ ?_;(first|rfl|assumption|(simp only [inI,sl]<;>omega)))))
      refine Ret.some ?_
      rw [if_neg h]
      exact congrArg (fun z => [G.i z]) h2.symm
end

theorem checkLog_eq (l : List (List G)) (hl : ∀ z ∈ l, Con z) (hn : l.length < 100000) : F_log_CheckLog [.l l] = some [.i (faultLog l)] :=
  chkF_eq (fun _ h => check_eq h) (fun _ _ h h' => compare_eq h h') l hl hn
theorem logFault_eq (l : List (List G)) (hl : ∀ z ∈ l, Con z) (hn : l.length < 100000) : F_pileref2_LogFault [.l l] = some [.i (faultLog l)] :=
  chkF_eq (fun _ h => fault_eq h) (fun _ _ h h' => order_eq h h') l hl hn

end Go.Proofs.SYtpfhjchbegdgdaaGreatDoor

namespace Go.Proofs.SYtpfhjchbegdgdaaGreatDoor
open Go Go.AL Go.Proofs

theorem loop_Contacts (l : List (List G)) (n : Nat) (hn : n ≤ 20) : ∀ (k i : Nat) (a t : Int) (acc : List (List G)), i + k = n → 0 ≤ a → a ≤ 700000 + 21 * i → -(1500000 * (i : Int)) ≤ t → t ≤ 1500000 * (i : Int) → (∀ z ∈ acc, ConT z) → acc.length = i →
    RetN st_pilemake_Stream_Contacts_4 [.l l, .i a, .l acc, .i t, .i (n : Int), .i (i : Int)] (k + 1) fun c g => c = 0 ∧ ∃ b rows, g = [.l l, .i b, .l rows] ∧ a ≤ b ∧ b ≤ a + 21 * k ∧ (∀ z ∈ rows, ConT z) ∧ rows.length = n
  | 0, i, a, t, acc, hi, ha, ha1, ht, ht1, hQ, hl => by
    refine RetN.stop (x := 0) (Ret.toEq ?_) ⟨rfl, a, acc, rfl, by omega, by omega, hQ, by omega⟩
    unfold st_pilemake_Stream_Contacts_4
    (dsimp +instances only [gi0,gis,row1,rows1,int1,str1,bool1])
    (repeat(first|(refine Ret.pos ?_ ?_;(first|rfl|assumption|(simp only [inI,sl]<;>omega)))|(refine Ret.neg ?_ ?_;(first|rfl|assumption|(simp only [inI,sl]<;>omega)))))
    exact Ret.some rfl
  | k + 1, i, a, t, acc, hi, ha, ha1, ht, ht1, hQ, hl => by
    have key : Ret (st_pilemake_Stream_Contacts_4 [.l l, .i a, .l acc, .i t, .i (n : Int), .i (i : Int)]) fun o => ∃ b r v, o = (none, [.l l, .i b, .l (acc ++ [r]), .i (t + v), .i (n : Int), .i ((i : Int) + 1)]) ∧ a ≤ b ∧ b ≤ a + 21 ∧ ConT r ∧ 0 ≤ v ∧ v ≤ 1500000 := by
      unfold st_pilemake_Stream_Contacts_4
      (dsimp +instances only [gi0,gis,row1,rows1,int1,str1,bool1])
      (repeat(first|(refine Ret.pos ?_ ?_;(first|rfl|assumption|(simp only [inI,sl]<;>omega)))|(refine Ret.neg ?_ ?_;(first|rfl|assumption|(simp only [inI,sl]<;>omega)))))
      refine Ret.call (r_PickB 0 1500000 l a _ ha (by omega) (by kernel_rfl) (by kernel_rfl)) ?_
      rintro _ ⟨v, rfl, hv0, hv1⟩
      (dsimp +instances only [gi0,gis,row1,rows1,int1,str1,bool1])
      (repeat(first|(refine Ret.pos ?_ ?_;(first|rfl|assumption|(simp only [inI,sl]<;>omega)))|(refine Ret.neg ?_ ?_;(first|rfl|assumption|(simp only [inI,sl]<;>omega)))))
      refine Ret.call (r_SomeContact l (a + 1) (t + v) (by omega) (by omega) ⟨by omega, by omega⟩) ?_
      rintro _ ⟨b, r, rfl, hb0, hb1, hr⟩
      (dsimp +instances only [gi0,gis,row1,rows1,int1,str1,bool1])
      simp only [hr.to.eta]
      (repeat(first|(refine Ret.pos ?_ ?_;(first|rfl|assumption|(simp only [inI,sl]<;>omega)))|(refine Ret.neg ?_ ?_;(first|rfl|assumption|(simp only [inI,sl]<;>omega)))))
      exact Ret.some ⟨b, r, v, rfl, by omega, by omega, hr, hv0, hv1⟩
    obtain ⟨_, h, b, r, v, rfl, h1, h2, h3, h4, h5⟩ := key
    have ih := loop_Contacts l n hn k (i + 1) b (t + v) (acc ++ [r]) (by omega) (by omega) (by omega) (by omega) (by omega) (by
      intro z hz
      rcases List.mem_append.1 hz with hz | hz
      · exact hQ z hz
      · simp at hz; exact hz ▸ h3) (by simp [hl])
    refine RetN.next h (ih.mono ?_)
    rintro c g ⟨rfl, b', rows, rfl, q1, q2, q3, q4⟩
    exact ⟨rfl, b', rows, rfl, by omega, by omega, q3, q4⟩

theorem sortOrder_eq (rows : List (List G)) (hr : ∀ y ∈ rows, Con y) (hn : rows.length ≤ 20) : F_slices_SortStableFunc_Contact [.l rows] = some [.l (sortA (ltC ordC) rows)] :=
  sortF_eq cmpOrder rows hr hn
theorem sortCompare_eq (rows : List (List G)) (hr : ∀ y ∈ rows, Con y) (hn : rows.length ≤ 20) : F_slices_SortStableFunc_Contact_2 [.l rows] = some [.l (sortA (ltC ordC) rows)] :=
  sortF_eq cmpCompare rows hr hn

def sameC (r s : List G) : Bool := ordC r s == 0
theorem eqvOrder : Eqv KContact F_pilemake_Stream_Contacts_1 Con sameC := ⟨fun r s hr hs => by
  refine Ret.toEq ?_
  unfold F_pilemake_Stream_Contacts_1
  (dsimp +instances only [gi0,gis,row1,rows1,int1,str1,bool1])
  simp only [hr.eta, hs.eta]
  refine Ret.call (Ret.eq (order_eq hr hs)) ?_
  rintro _ rfl
  exact Ret.some rfl, fun _ h => h.eta⟩

def zC : List G := [.i 0, .i 0, .s (⟨#[]⟩ : ByteArray), .s (⟨#[]⟩ : ByteArray), .i 0, .i 0, .s (⟨#[]⟩ : ByteArray), .s (⟨#[]⟩ : ByteArray)]

/-- A log as the stream makes it. -/
theorem r_Contacts (l : List (List G)) (a n : Int) (ha : 0 ≤ a) (ha1 : a ≤ 700000) (h0 : 0 ≤ n) (h1 : n ≤ 20) :
    Ret (F_pilemake_Stream_Contacts [.l l, .i a, .i n]) fun g => ∃ b rows, g = [.l l, .i b, .l rows] ∧ a ≤ b ∧ b ≤ a + 420 ∧ (∀ z ∈ rows, ConT z) ∧ (rows.length : Int) ≤ n := by
  obtain ⟨n, rfl⟩ := Int.eq_ofNat_of_zero_le h0
  unfold F_pilemake_Stream_Contacts
  (dsimp +instances only [gi0,gis,row1,rows1,int1,str1,bool1])
  have hl := loop_Contacts l n (by omega) n 0 a 0 [] (by omega) ha (by omega) (by omega) (by omega) (by simp) rfl
  refine Ret.loop (hl.to (by omega)) (by (first|rfl|assumption|(simp only [inI,sl]<;>omega))) ?_
  rintro c g ⟨rfl, b, rows, rfl, h2, h3, h4, h5⟩
  (dsimp +instances only [gi0,gis,row1,rows1,int1,str1,bool1])
  refine Ret.callb (Ret.eq (sortOrder_eq rows (fun z hz => (h4 z hz).to) (by omega))) (by (first|rfl|assumption|(simp only [inI,sl]<;>omega))) ?_
  rintro _ rfl
  (dsimp +instances only [gi0,gis,row1,rows1,int1,str1,bool1])
  have hs := sortA_all (lt := ltC ordC) h4
  have hsl := sortA_length (ltC ordC) rows
  refine Ret.callb (P := fun g => ∃ J, g = [.l (compact sameC (sortA (ltC ordC) rows) ++ J), .i ((compact sameC (sortA (ltC ordC) rows)).length : Int)] ∧ (compact sameC (sortA (ltC ordC) rows) ++ J).length = (sortA (ltC ordC) rows).length)
    (cmpfF_eq (Z := zC) eqvOrder (sortA (ltC ordC) rows) (fun z hz => (hs z hz).to) (by omega)) (by (first|rfl|assumption|(simp only [inI,sl]<;>omega))) ?_
  rintro _ ⟨J, rfl, hJ⟩
  (dsimp +instances only [gi0,gis,row1,rows1,int1,str1,bool1])
  have hle : (compact sameC (sortA (ltC ordC) rows)).length ≤ (sortA (ltC ordC) rows).length := compact_length _ _
  simp only [hJ]
  (repeat(first|(refine Ret.pos ?_ ?_;(first|rfl|assumption|(simp only [inI,sl]<;>omega)))|(refine Ret.neg ?_ ?_;(first|rfl|assumption|(simp only [inI,sl]<;>omega)))))
  refine Ret.some ⟨b, compact sameC (sortA (ltC ordC) rows), by simp, by omega, by omega, fun z hz => hs z (compact_mem hz), by omega⟩

end Go.Proofs.SYtpfhjchbegdgdaaGreatDoor

namespace Go.Proofs.SYtpfhjchbegdgdaaGreatDoor
open Go Go.AL Go.Proofs

theorem kdsC : Kds KContact Con := ⟨fun _ h => h.eta⟩

/-- Neighbours that are alike in their order. -/
def clash : List (List G) → Bool
  | [] => false
  | [_] => false
  | x :: y :: q => ordC x y == 0 || clash (y :: q)
/-- What a log gives that was put together: the rows, the fault. -/
def joined (m : List (List G)) : List G := bif clash m then [.l [], .i 13] else bif Nat.blt 2000 m.length then [.l [], .i 2] else [.l m, .i 0]

theorem clash_drop (m : List (List G)) (i : Nat) (h : i + 1 < m.length) : clash (m.drop i) = (ordC (m.getD i []) (m.getD (i + 1) []) == 0 || clash (m.drop (i + 1))) := by
  rw [List.drop_eq_getElem_cons (show i < m.length by omega), List.drop_eq_getElem_cons h]
  simp only [clash]
  rw [List.getD_eq_getElem?_getD, List.getD_eq_getElem?_getD, List.getElem?_eq_getElem h, List.getElem?_eq_getElem (show i < m.length by omega)]
  rfl
theorem clash_last (m : List (List G)) (i : Nat) (h : m.length ≤ i + 1) : clash (m.drop i) = false := by
  have : (m.drop i).length ≤ 1 := by simp; omega
  match hm : m.drop i, this with
  | [], _ => rfl
  | [_], _ => rfl

theorem getD_app {m J : List (List G)} {i : Nat} (h : i < m.length) : (m ++ J).getD i [] = m.getD i [] := by
  rw [List.getD_eq_getElem?_getD, List.getD_eq_getElem?_getD, List.getElem?_append_left h]
theorem getD_Con {m : List (List G)} {i : Nat} (hm : ∀ z ∈ m, Con z) (h : i < m.length) : Con (m.getD i []) := by
  rw [List.getD_eq_getElem?_getD, List.getElem?_eq_getElem h]
  exact hm _ (List.getElem_mem h)

theorem merge_runs (m J : List (List G)) (hm : ∀ z ∈ m, Con z) (hl : m.length < 100000) : ∀ (k i : Nat), i + k = m.length →
    RetN st_log_Merge_8 [.l (m ++ J), .i (m.length : Int), .i ((i : Int) + 1)] (k + 1) fun c g => (c = 0 ∧ g = [.l [], .i 13] ∧ clash (m.drop i) = true) ∨ c = 1 ∧ g = [.l (m ++ J), .i (m.length : Int)] ∧ clash (m.drop i) = false
  | 0, i, hi => by
    refine RetN.stop (x := 1) (Ret.toEq ?_) (.inr ⟨rfl, rfl, clash_last m i (by omega)⟩)
    unfold st_log_Merge_8
    (dsimp +instances only [gi0,gis,row1,rows1,int1,str1,bool1])
    simp only [Int.toNat_natCast]
    (repeat(first|(refine Ret.pos ?_ ?_;(first|rfl|assumption|(simp only [inI,sl]<;>omega)))|(refine Ret.neg ?_ ?_;(first|rfl|assumption|(simp only [inI,sl]<;>omega)))))
    exact Ret.some rfl
  | k + 1, i, hi => by
    by_cases he : i + 1 < m.length
    · have t0 : ((i : Int) + 1 - 1).toNat = i := by omega
      have t1 : ((i : Int) + 1).toNat = i + 1 := by omega
      have t2 : 0 + i = i := by omega
      have t3 : 0 + (i + 1) = i + 1 := by omega
      have hx := getD_Con hm (show i < m.length by omega)
      have hy := getD_Con hm he
      have key : Ret (st_log_Merge_8 [.l (m ++ J), .i (m.length : Int), .i ((i : Int) + 1)]) fun o => o = bif ordC (m.getD i []) (m.getD (i + 1) []) == 0 then (some 0, [.l [], .i 13]) else (none, [.l (m ++ J), .i (m.length : Int), .i ((i : Int) + 1 + 1)]) := by
        unfold st_log_Merge_8
        (dsimp +instances only [gi0,gis,row1,rows1,int1,str1,bool1])
        simp only [Int.toNat_natCast, t0, t1, t2, t3, getD_app he, getD_app (show i < m.length by omega), hx.eta, hy.eta]
        (repeat(first|(refine Ret.pos ?_ ?_;(first|rfl|assumption|(simp only [inI,sl]<;>omega)))|(refine Ret.neg ?_ ?_;(first|rfl|assumption|(simp only [inI,sl]<;>omega)))))
        refine Ret.call (Ret.eq (compare_eq hx hy)) ?_
        rintro _ rfl
        (dsimp +instances only [gi0,gis,row1,rows1,int1,str1,bool1])
        refine Ret.test (fun h => ?_) fun h => ?_
        · rw [h]
          exact Ret.some rfl
        · rw [h]
          (repeat(first|(refine Ret.pos ?_ ?_;(first|rfl|assumption|(simp only [inI,sl]<;>omega)))|(refine Ret.neg ?_ ?_;(first|rfl|assumption|(simp only [inI,sl]<;>omega)))))
          exact Ret.some rfl
      obtain ⟨o, h, rfl⟩ := key
      rw [clash_drop m i he]
      cases hc : ordC (m.getD i []) (m.getD (i + 1) []) == 0 with
      | true =>
        rw [hc] at h
        exact RetN.stop h (.inl ⟨rfl, rfl, rfl⟩)
      | false =>
        rw [hc] at h
        refine RetN.next h ((merge_runs m J hm hl k (i + 1) (by omega)).mono ?_)
        intro c g hcg
        simpa using hcg
    · have : RetN st_log_Merge_8 [.l (m ++ J), .i (m.length : Int), .i ((i : Int) + 1)] 1 fun c g => c = 1 ∧ g = [.l (m ++ J), .i (m.length : Int)] := by
        refine RetN.stop (x := 1) (Ret.toEq ?_) ⟨rfl, rfl⟩
        unfold st_log_Merge_8
        (dsimp +instances only [gi0,gis,row1,rows1,int1,str1,bool1])
        simp only [Int.toNat_natCast]
        (repeat(first|(refine Ret.pos ?_ ?_;(first|rfl|assumption|(simp only [inI,sl]<;>omega)))|(refine Ret.neg ?_ ?_;(first|rfl|assumption|(simp only [inI,sl]<;>omega)))))
        exact Ret.some rfl
      obtain ⟨n, c, g, h1, h2, h3, h4⟩ := this
      exact ⟨n, c, g, h1, by omega, .inr ⟨h3, h4, clash_last m i (by omega)⟩⟩

theorem logsOf_runs (m J : List (List G)) (hm : ∀ z ∈ m, Con z) (hl : m.length < 100000) : ∀ (k i : Nat), i + k = m.length →
    RetN st_pileref2_LogsOf_5 [.l (m ++ J), .i (m.length : Int), .i (m.length : Int), .i (i : Int)] (k + 1) fun c g => (c = 0 ∧ g = [.l [], .i 13] ∧ clash (m.drop (i - 1)) = true) ∨ c = 1 ∧ g = [.l (m ++ J), .i (m.length : Int)] ∧ clash (m.drop (i - 1)) = false
  | 0, i, hi => by
    refine RetN.stop (x := 1) (Ret.toEq ?_) (.inr ⟨rfl, rfl, clash_last m _ (by omega)⟩)
    unfold st_pileref2_LogsOf_5
    (dsimp +instances only [gi0,gis,row1,rows1,int1,str1,bool1])
    simp only [Int.toNat_natCast]
    (repeat(first|(refine Ret.pos ?_ ?_;(first|rfl|assumption|(simp only [inI,sl]<;>omega)))|(refine Ret.neg ?_ ?_;(first|rfl|assumption|(simp only [inI,sl]<;>omega)))))
    exact Ret.some rfl
  | k + 1, i, hi => by
    have ih := logsOf_runs m J hm hl k (i + 1) (by omega)
    rw [show i + 1 - 1 = i from by omega] at ih
    by_cases he : i = 0
    · subst he
      refine RetN.next (Ret.toEq ?_) ih
      unfold st_pileref2_LogsOf_5
      (dsimp +instances only [gi0,gis,row1,rows1,int1,str1,bool1])
      simp only [Int.toNat_natCast]
      (repeat(first|(refine Ret.pos ?_ ?_;(first|rfl|assumption|(simp only [inI,sl]<;>omega)))|(refine Ret.neg ?_ ?_;(first|rfl|assumption|(simp only [inI,sl]<;>omega)))))
      exact Ret.some rfl
    · obtain ⟨i, rfl⟩ : ∃ j, i = j + 1 := ⟨i - 1, by omega⟩
      have hlt : i + 1 < m.length := by omega
      have t0 : (((i + 1 : Nat) : Int) - 1).toNat = i := by omega
      have t1 : ((i + 1 : Nat) : Int).toNat = i + 1 := by omega
      have t2 : 0 + i = i := by omega
      have t3 : 0 + (i + 1) = i + 1 := by omega
      have hx := getD_Con hm (show i < m.length by omega)
      have hy := getD_Con hm hlt
      have key : Ret (st_pileref2_LogsOf_5 [.l (m ++ J), .i (m.length : Int), .i (m.length : Int), .i ((i + 1 : Nat) : Int)]) fun o => o = bif ordC (m.getD i []) (m.getD (i + 1) []) == 0 then (some 0, [.l [], .i 13]) else (none, [.l (m ++ J), .i (m.length : Int), .i (m.length : Int), .i ((i + 1 + 1 : Nat) : Int)]) := by
        unfold st_pileref2_LogsOf_5
        (dsimp +instances only [gi0,gis,row1,rows1,int1,str1,bool1])
        simp only [t0, t1, t2, t3, getD_app hlt, getD_app (show i < m.length by omega), hx.eta, hy.eta]
        (repeat(first|(refine Ret.pos ?_ ?_;(first|rfl|assumption|(simp only [inI,sl]<;>omega)))|(refine Ret.neg ?_ ?_;(first|rfl|assumption|(simp only [inI,sl]<;>omega)))))
        refine Ret.call (Ret.eq (order_eq hx hy)) ?_
        rintro _ rfl
        (dsimp +instances only [gi0,gis,row1,rows1,int1,str1,bool1])
        refine Ret.test (fun h => ?_) fun h => ?_
        · rw [h]
          exact Ret.some rfl
        · rw [h]
          (repeat(first|(refine Ret.pos ?_ ?_;(first|rfl|assumption|(simp only [inI,sl]<;>omega)))|(refine Ret.neg ?_ ?_;(first|rfl|assumption|(simp only [inI,sl]<;>omega)))))
          exact Ret.some rfl
      rw [show i + 1 - 1 = i from by omega, clash_drop m i hlt]
      obtain ⟨o, h, rfl⟩ := key
      cases hc : ordC (m.getD i []) (m.getD (i + 1) []) == 0 with
      | true =>
        rw [hc] at h
        exact RetN.stop h (.inl ⟨rfl, rfl, rfl⟩)
      | false =>
        rw [hc] at h
        refine RetN.next h (ih.mono ?_)
        intro c g hcg
        simpa using hcg

/-- The rows of two logs in one. -/
def mixed (a b : List (List G)) : List (List G) := compact (rowEq KContact) (sortA (ltC ordC) (a ++ b))
theorem mixed_Con {a b : List (List G)} (ha : ∀ z ∈ a, Con z) (hb : ∀ z ∈ b, Con z) : ∀ z ∈ mixed a b, Con z := fun z hz =>
  sortA_all (lt := ltC ordC) (l := a ++ b) (fun y hy => (List.mem_append.1 hy).elim (ha y) (hb y)) z (compact_mem hz)

theorem concat_eq (a b : List (List G)) (h : a.length + b.length ≤ 20) : F_slices_Concat_Contact_f [.l [[.l a], [.l b]]] = some [.l (a ++ b)] := by
  have h := concF_eq (K := KContact) (Z := zC) [a, b] (by simp [lenAll]; omega) (by simp)
  rw [show [a, b].flatten = a ++ b from by simp] at h
  exact h

theorem merge_ok (a b : List (List G)) (ha : ∀ z ∈ a, Con z) (hb : ∀ z ∈ b, Con z) (h : a.length + b.length ≤ 20) :
    F_log_Merge [.l a, .l b] = some (bif faultLog a != 0 then [.l [], .i (faultLog a)] else bif faultLog b != 0 then [.l [], .i (faultLog b)] else joined (mixed a b)) := by
  have hab : ∀ z ∈ a ++ b, Con z := fun y hy => (List.mem_append.1 hy).elim (ha y) (hb y)
  have hs := sortA_all (lt := ltC ordC) hab
  have hsl := sortA_length (ltC ordC) (a ++ b)
  have hc := mixed_Con ha hb
  have hle : (mixed a b).length ≤ (sortA (ltC ordC) (a ++ b)).length := compact_length _ _
  have hal : (a ++ b).length = a.length + b.length := List.length_append
  refine Ret.toEq ?_
  have both : F_log_checkBoth [.l a, .l b] = some [.i (bif faultLog a != 0 then faultLog a else faultLog b)] := by
    unfold F_log_checkBoth
    (dsimp +instances only [gi0,gis,row1,rows1,int1,str1,bool1])
    rw [checkLog_eq a ha (by omega), checkLog_eq b hb (by omega)]
    simp only [callF_some rfl]
    (dsimp +instances only [gi0,gis,row1,rows1,int1,str1,bool1])
    cases faultLog a != 0 <;> rfl
  unfold F_log_Merge
  (dsimp +instances only [gi0,gis,row1,rows1,int1,str1,bool1])
  refine Ret.call (Ret.eq both) ?_
  rintro _ rfl
  (dsimp +instances only [gi0,gis,row1,rows1,int1,str1,bool1])
  cases h1 : faultLog a != 0 with
  | true =>
    simp only [cond_true, h1]
    exact Ret.some rfl
  | false =>
    simp only [cond_false]
    cases h2 : faultLog b != 0 with
    | true => exact Ret.some rfl
    | false =>
      simp only [cond_false]
      refine Ret.call (Ret.eq (concat_eq a b h)) ?_
      rintro _ rfl
      (dsimp +instances only [gi0,gis,row1,rows1,int1,str1,bool1])
      refine Ret.callb (Ret.eq (sortCompare_eq _ hab (by omega))) (by (first|rfl|assumption|(simp only [inI,sl]<;>omega))) ?_
      rintro _ rfl
      (dsimp +instances only [gi0,gis,row1,rows1,int1,str1,bool1])
      refine Ret.callb (P := fun g => ∃ J, g = [.l (mixed a b ++ J), .i ((mixed a b).length : Int)] ∧ (mixed a b ++ J).length = (sortA (ltC ordC) (a ++ b)).length)
        (cmpcF_eq (Z := zC) kdsC _ hs (by omega)) (by rw [hsl]; simp) ?_
      rintro _ ⟨J, rfl, hJ⟩
      (dsimp +instances only [gi0,gis,row1,rows1,int1,str1,bool1])
      simp only [Int.toNat_natCast]
      refine Ret.loop ((merge_runs (mixed a b) J hc (by omega) (mixed a b).length 0 (by omega)).to (by omega)) rfl ?_
      rintro c g (⟨rfl, rfl, hcl⟩ | ⟨rfl, rfl, hcl⟩)
      · (dsimp +instances only [gi0,gis,row1,rows1,int1,str1,bool1])
        have hcl : clash (mixed a b) = true := hcl
        (repeat(first|(refine Ret.pos ?_ ?_;(first|rfl|assumption|(simp only [inI,sl]<;>omega)))|(refine Ret.neg ?_ ?_;(first|rfl|assumption|(simp only [inI,sl]<;>omega)))))
        exact Ret.some (by simp only [joined, hcl, cond_true])
      · (dsimp +instances only [gi0,gis,row1,rows1,int1,str1,bool1])
        have hcl : clash (mixed a b) = false := hcl
        simp only [Int.toNat_natCast]
        (repeat(first|(refine Ret.pos ?_ ?_;(first|rfl|assumption|(simp only [inI,sl]<;>omega)))|(refine Ret.neg ?_ ?_;(first|rfl|assumption|(simp only [inI,sl]<;>omega)))))
        exact Ret.some (by
          have : Nat.blt 2000 (mixed a b).length = false := Bool.eq_false_iff.2 fun hh => by rw [Nat.blt_eq] at hh; omega
          simp only [joined, hcl, this, cond_false]
          simp)

theorem logsOf_ok (a b : List (List G)) (ha : ∀ z ∈ a, Con z) (hb : ∀ z ∈ b, Con z) (h : a.length + b.length ≤ 20) : F_pileref2_LogsOf [.l a, .l b] = some (joined (mixed a b)) := by
  have hab : ∀ z ∈ a ++ b, Con z := fun y hy => (List.mem_append.1 hy).elim (ha y) (hb y)
  have hs := sortA_all (lt := ltC ordC) hab
  have hsl := sortA_length (ltC ordC) (a ++ b)
  have hc := mixed_Con ha hb
  have hle : (mixed a b).length ≤ (sortA (ltC ordC) (a ++ b)).length := compact_length _ _
  have hal : (a ++ b).length = a.length + b.length := List.length_append
  refine Ret.toEq ?_
  unfold F_pileref2_LogsOf
  (dsimp +instances only [gi0,gis,row1,rows1,int1,str1,bool1])
  refine Ret.call (Ret.eq (concat_eq a b h)) ?_
  rintro _ rfl
  (dsimp +instances only [gi0,gis,row1,rows1,int1,str1,bool1])
  refine Ret.callb (Ret.eq (sortOrder_eq _ hab (by omega))) (by (first|rfl|assumption|(simp only [inI,sl]<;>omega))) ?_
  rintro _ rfl
  (dsimp +instances only [gi0,gis,row1,rows1,int1,str1,bool1])
  refine Ret.callb (P := fun g => ∃ J, g = [.l (mixed a b ++ J), .i ((mixed a b).length : Int)] ∧ (mixed a b ++ J).length = (sortA (ltC ordC) (a ++ b)).length)
    (cmpcF_eq (Z := zC) kdsC _ hs (by omega)) (by rw [hsl]; simp) ?_
  rintro _ ⟨J, rfl, hJ⟩
  (dsimp +instances only [gi0,gis,row1,rows1,int1,str1,bool1])
  simp only [Int.toNat_natCast]
  refine Ret.loop ((logsOf_runs (mixed a b) J hc (by omega) (mixed a b).length 0 (by omega)).to (by omega)) rfl ?_
  rintro c g (⟨rfl, rfl, hcl⟩ | ⟨rfl, rfl, hcl⟩)
  · (dsimp +instances only [gi0,gis,row1,rows1,int1,str1,bool1])
    have hcl : clash (mixed a b) = true := hcl
    (repeat(first|(refine Ret.pos ?_ ?_;(first|rfl|assumption|(simp only [inI,sl]<;>omega)))|(refine Ret.neg ?_ ?_;(first|rfl|assumption|(simp only [inI,sl]<;>omega)))))
    exact Ret.some (by simp only [joined, hcl, cond_true])
  · (dsimp +instances only [gi0,gis,row1,rows1,int1,str1,bool1])
    have hcl : clash (mixed a b) = false := hcl
    simp only [Int.toNat_natCast]
    (repeat(first|(refine Ret.pos ?_ ?_;(first|rfl|assumption|(simp only [inI,sl]<;>omega)))|(refine Ret.neg ?_ ?_;(first|rfl|assumption|(simp only [inI,sl]<;>omega)))))
    exact Ret.some (by
      have : Nat.blt 2000 (mixed a b).length = false := Bool.eq_false_iff.2 fun hh => by rw [Nat.blt_eq] at hh; omega
      simp only [joined, hcl, this, cond_false]
      simp)

end Go.Proofs.SYtpfhjchbegdgdaaGreatDoor

namespace Go.Proofs.SYtpfhjchbegdgdaaGreatDoor
open Go Go.AL Go.Proofs

/-- The rows that are not among others. -/
def lacking (others l : List (List G)) : List (List G) := l.filter fun x => !others.any fun y => rowEq KContact x y
theorem lacking_Con {o l : List (List G)} (h : ∀ z ∈ l, Con z) : ∀ z ∈ lacking o l, Con z := fun z hz => h z (List.mem_filter.1 hz).1

theorem without_ok (l o : List (List G)) (hl : ∀ z ∈ l, Con z) (ho : ∀ z ∈ o, Con z) (h1 : l.length < 100000) (h2 : o.length < 100000) : F_log_Without [.l l, .l o] = some [.l (lacking o l)] := by
  refine Ret.toEq ?_
  unfold F_log_Without
  (dsimp +instances only [gi0,gis,row1,rows1,int1,str1,bool1])
  have r1 := range_all (st := st_log_Without_3) (σ := List (List G) × Nat) (fun s i => [.l s.1, .i (s.2 : Int), .l l, .l o, .i (o.length : Int), .i (i : Int)]) o (fun s => (0, [.l s.1, .i (s.2 : Int), .l l]))
    (fun s i => ∀ key, (gi (mget KContact s.1 key [.t false]) 0).bool = (o.take i).any fun y => rowEq KContact key y) ([], 0) (by omega) (fun key => by simp [mget_nil]; rfl)
    (fun s i x hI hi hx hm ht => by
      refine Ret.mono (P := fun a => a = (none, [.l (mput KContact s.1 x [.t true] s.2), .i ((mclk KContact s.1 x s.2 : Nat) : Int), .l l, .l o, .i (o.length : Int), .i ((i : Int) + 1)])) ?_ ?_
      · unfold st_log_Without_3
        (dsimp +instances only [gi0,gis,row1,rows1,int1,str1,bool1])
        simp only [Int.toNat_natCast, hx, (ho x hm).eta]
        (repeat(first|(refine Ret.pos ?_ ?_;(first|rfl|assumption|(simp only [inI,sl]<;>omega)))|(refine Ret.neg ?_ ?_;(first|rfl|assumption|(simp only [inI,sl]<;>omega)))))
        exact Ret.some rfl
      · rintro _ rfl
        refine ⟨(mput KContact s.1 x [.t true] s.2, mclk KContact s.1 x s.2), rfl, fun key => ?_⟩
        rw [mget_mput, ht, List.any_append, ← hI key]
        cases hk : rowEq KContact key x <;> simp [hk, gi0, bool1])
    (fun s hI => by
      unfold st_log_Without_3
      (dsimp +instances only [gi0,gis,row1,rows1,int1,str1,bool1])
      simp only [Int.toNat_natCast]
      (repeat(first|(refine Ret.pos ?_ ?_;(first|rfl|assumption|(simp only [inI,sl]<;>omega)))|(refine Ret.neg ?_ ?_;(first|rfl|assumption|(simp only [inI,sl]<;>omega)))))
      exact Ret.some rfl)
  refine Ret.loop r1 rfl ?_
  rintro c g ⟨⟨m, n⟩, hI, rfl, rfl⟩
  (dsimp +instances only [gi0,gis,row1,rows1,int1,str1,bool1])
  rw [List.take_length] at hI
  have r2 := range_all (st := st_log_Without_9) (σ := List (List G)) (fun s i => [.l m, .i (n : Int), .l s, .l l, .i (l.length : Int), .i (i : Int)]) l (fun s => (0, [.l s]))
    (fun s i => s = lacking o (l.take i)) [] (by omega) rfl
    (fun s i x hs hi hx hm ht => by
      have hlen : s.length ≤ i := by
        rw [hs]
        exact Nat.le_trans (List.length_filter_le _ _) (by simp; omega)
      have e : lacking o (l.take (i + 1)) = s ++ bif o.any (fun y => rowEq KContact x y) then [] else [x] := by
        rw [ht, hs]
        unfold lacking
        rw [List.filter_append]
        congr 1
        cases ha : o.any (fun y => rowEq KContact x y) <;> simp [ha]
      unfold st_log_Without_9
      (dsimp +instances only [gi0,gis,row1,rows1,int1,str1,bool1])
      simp only [Int.toNat_natCast, hx, (hl x hm).eta, hI x]
      refine Ret.pos (by (first|rfl|assumption|(simp only [inI,sl]<;>omega))) (Ret.pos (by (first|rfl|assumption|(simp only [inI,sl]<;>omega))) ?_)
      cases ha : o.any (fun y => rowEq KContact x y) with
      | false =>
        rw [ha] at e
        (repeat(first|(refine Ret.pos ?_ ?_;(first|rfl|assumption|(simp only [inI,sl]<;>omega)))|(refine Ret.neg ?_ ?_;(first|rfl|assumption|(simp only [inI,sl]<;>omega)))))
        exact Ret.some ⟨s ++ [x], rfl, e.symm⟩
      | true =>
        rw [ha] at e
        (repeat(first|(refine Ret.pos ?_ ?_;(first|rfl|assumption|(simp only [inI,sl]<;>omega)))|(refine Ret.neg ?_ ?_;(first|rfl|assumption|(simp only [inI,sl]<;>omega)))))
        exact Ret.some ⟨s, rfl, by rw [e]; simp⟩)
    (fun s hI => by
      unfold st_log_Without_9
      (dsimp +instances only [gi0,gis,row1,rows1,int1,str1,bool1])
      (repeat(first|(refine Ret.pos ?_ ?_;(first|rfl|assumption|(simp only [inI,sl]<;>omega)))|(refine Ret.neg ?_ ?_;(first|rfl|assumption|(simp only [inI,sl]<;>omega)))))
      exact Ret.some rfl)
  simp only [Int.toNat_natCast]
  refine Ret.loop r2 rfl ?_
  rintro c g ⟨s, rfl, rfl, rfl⟩
  (dsimp +instances only [gi0,gis,row1,rows1,int1,str1,bool1])
  rw [List.take_length]
  (repeat(first|(refine Ret.pos ?_ ?_;(first|rfl|assumption|(simp only [inI,sl]<;>omega)))|(refine Ret.neg ?_ ?_;(first|rfl|assumption|(simp only [inI,sl]<;>omega)))))
  exact Ret.some rfl

theorem both_eq (a b : List (List G)) (ha : ∀ z ∈ a, Con z) (hb : ∀ z ∈ b, Con z) (h1 : a.length < 100000) (h2 : b.length < 100000) : F_log_checkBoth [.l a, .l b] = some [.i (bif faultLog a != 0 then faultLog a else faultLog b)] := by
  unfold F_log_checkBoth
  (dsimp +instances only [gi0,gis,row1,rows1,int1,str1,bool1])
  rw [checkLog_eq a ha (by omega), checkLog_eq b hb (by omega)]
  simp only [callF_some rfl]
  (dsimp +instances only [gi0,gis,row1,rows1,int1,str1,bool1])
  cases faultLog a != 0 <;> rfl

theorem lacks_ok (a b : List (List G)) (ha : ∀ z ∈ a, Con z) (hb : ∀ z ∈ b, Con z) (h1 : a.length < 100000) (h2 : b.length < 100000) :
    F_log_Lacks [.l a, .l b] = some (bif faultLog a != 0 then [.l [], .i (faultLog a)] else bif faultLog b != 0 then [.l [], .i (faultLog b)] else [.l (lacking a b), .i 0]) := by
  refine Ret.toEq ?_
  unfold F_log_Lacks
  (dsimp +instances only [gi0,gis,row1,rows1,int1,str1,bool1])
  refine Ret.call (Ret.eq (both_eq a b ha hb h1 h2)) ?_
  rintro _ rfl
  (dsimp +instances only [gi0,gis,row1,rows1,int1,str1,bool1])
  cases h3 : faultLog a != 0 with
  | true =>
    simp only [cond_true, h3]
    exact Ret.some rfl
  | false =>
    simp only [cond_false]
    cases h4 : faultLog b != 0 with
    | true => exact Ret.some rfl
    | false =>
      simp only [cond_false]
      refine Ret.call (Ret.eq (without_ok b a hb ha h2 h1)) ?_
      rintro _ rfl
      exact Ret.some rfl

theorem prdLack (o : List (List G)) (ho : ∀ z ∈ o, Con z) (hn : o.length < 100000) : Prd KContact F_pileref2_LackingOf_1 (fun g => .l [[.l (gi g.row 0).rows]]) (.l [[.l o]]) Con (fun x => o.any fun y => rowEq KContact x y) := by
  refine ⟨fun r hr => ?_, fun _ h => h.eta, rfl⟩
  refine Ret.toEq ?_
  unfold F_pileref2_LackingOf_1
  (dsimp +instances only [gi0,gis,row1,rows1,int1,str1,bool1])
  rw [hr.eta]
  refine Ret.call (Ret.eq (containsF_eq kdsC r hr.eta o ho hn : F_slices_Contains_Contact [.l o, .l [r]] = _)) ?_
  rintro _ rfl
  exact Ret.some rfl

theorem cloneF_ok (a : List (List G)) (h : a.length ≤ 1048576) : F_slices_Clone_Contact_f [.l a] = some [.l a] := by
  refine Ret.toEq ?_
  unfold F_slices_Clone_Contact_f
  (dsimp +instances only [gi0,gis,row1,rows1,int1,str1,bool1])
  refine Ret.test (fun h1 => ?_) fun h1 => ?_
  · unfold F_slices_Clone_Contact_f_0
    (dsimp +instances only [gi0,gis,row1,rows1,int1,str1,bool1])
    (repeat(first|(refine Ret.pos ?_ ?_;(first|rfl|assumption|(simp only [inI,sl]<;>omega)))|(refine Ret.neg ?_ ?_;(first|rfl|assumption|(simp only [inI,sl]<;>omega)))))
    exact Ret.some rfl
  · have : a = [] := by
      cases a with
      | nil => rfl
      | cons x a =>
        have h2 : Nat.blt 0 (x :: a).length = true := by rw [Nat.blt_eq]; simp
        rw [h2] at h1
        cases h1
    subst this
    exact Ret.some rfl

theorem lackingOf_ok (a b : List (List G)) (ha : ∀ z ∈ a, Con z) (hb : ∀ z ∈ b, Con z) (h1 : a.length < 90000) (h2 : b.length < 90000) : F_pileref2_LackingOf [.l a, .l b] = some [.l (lacking a b)] := by
  refine Ret.toEq ?_
  unfold F_pileref2_LackingOf
  (dsimp +instances only [gi0,gis,row1,rows1,int1,str1,bool1])
  refine Ret.call (Ret.eq (cloneF_ok b (by omega))) ?_
  rintro _ rfl
  (dsimp +instances only [gi0,gis,row1,rows1,int1,str1,bool1])
  have hd := delfF_eq (Z := zC) (prdLack a ha (by omega)) b hb (by omega)
  refine Ret.callb (P := fun g => ∃ J, g = [.l (lacking a b ++ J), .i ((lacking a b).length : Int)] ∧ (lacking a b ++ J).length = b.length) hd (by (first|rfl|assumption|(simp only [inI,sl]<;>omega))) ?_
  rintro _ ⟨J, rfl, hJ⟩
  (dsimp +instances only [gi0,gis,row1,rows1,int1,str1,bool1])
  simp only [Int.toNat_natCast]
  have hle : (lacking a b).length ≤ (lacking a b ++ J).length := by simp
  (repeat(first|(refine Ret.pos ?_ ?_;(first|rfl|assumption|(simp only [inI,sl]<;>omega)))|(refine Ret.neg ?_ ?_;(first|rfl|assumption|(simp only [inI,sl]<;>omega)))))
  refine Ret.some ?_
  simp

theorem equal_refl (a : List (List G)) (ha : ∀ z ∈ a, Con z) (hn : a.length < 100000) : F_slices_Equal_Contact [.l a, .l a] = some [.t true] := by
  have h := equalF_eq kdsC a a ha ha hn
  rw [eqlA_refl rfl] at h
  exact h

theorem errs2 (x y : Int) : F_pilelaw2_errs [.l [[.i x], [.i y]]] = some [.i (bif x != 0 then x else y)] := by
  refine Ret.toEq ?_
  unfold F_pilelaw2_errs
  (dsimp +instances only [gi0,gis,row1,rows1,int1,str1,bool1])
  have key : RetN st_pilelaw2_errs_2 [.l [[.i x], [.i y]], .i 2, .i 0] 3 fun c g => (c = 0 ∧ g = [.i (bif x != 0 then x else y)]) ∨ c = 1 ∧ (bif x != 0 then x else y) = 0 := by
    by_cases hx : x = 0
    · subst hx
      refine RetN.next (d1 := [.l [[.i 0], [.i y]], .i 2, .i 1]) rfl ?_
      by_cases hy : y = 0
      · subst hy
        refine RetN.next (d1 := [.l [[.i 0], [.i 0]], .i 2, .i 2]) rfl ?_
        exact RetN.stop (x := 1) (d' := []) rfl (.inr ⟨rfl, rfl⟩)
      · refine RetN.stop (x := 0) (d' := [.i y]) (Ret.toEq ?_) (.inl ⟨rfl, rfl⟩)
        unfold st_pilelaw2_errs_2
        (dsimp +instances only [gi0,gis,row1,rows1,int1,str1,bool1])
        refine Ret.pos rfl (Ret.pos rfl (Ret.pos (show (y != 0) = true from by simpa using hy) (Ret.some rfl)))
    · have e : (bif x != 0 then x else y) = x := by
        have : (x != 0) = true := by simpa using hx
        rw [this]
        rfl
      rw [e]
      refine RetN.stop (x := 0) (d' := [.i x]) (Ret.toEq ?_) (.inl ⟨rfl, rfl⟩)
      unfold st_pilelaw2_errs_2
      (dsimp +instances only [gi0,gis,row1,rows1,int1,str1,bool1])
      refine Ret.pos rfl (Ret.pos rfl (Ret.pos (show (x != 0) = true from by simpa using hx) (Ret.some rfl)))
  refine Ret.loop (key.to (by omega)) rfl ?_
  rintro c g (⟨rfl, rfl⟩ | ⟨rfl, h⟩)
  · exact Ret.some rfl
  · exact Ret.some (by rw [h])

theorem logged_ok : F_pilelaw2_logged [] = some [.t true] := by kernel_rfl

end Go.Proofs.SYtpfhjchbegdgdaaGreatDoor

namespace Go.Proofs.SYtpfhjchbegdgdaaGreatDoor
open Go Go.AL Go.Proofs

theorem bne_self (x : Int) : (x == x) = true := by simp

theorem mergeTail_ok (t m : Int) (b c : ByteArray) (s h : Int) (x y : ByteArray) (p q : List (List G)) (hr : Con [.i t, .i m, .s b, .s c, .i s, .i h, .s x, .s y]) (hp : ∀ z ∈ p, Con z) (hq : ∀ z ∈ q, Con z) (hl : p.length + q.length ≤ 20) :
    Ret (tl_pilelaw2_LogsMerge_7 [.i t, .i m, .s b, .s c, .i s, .i h, .s x, .s y, .l p, .l q]) fun o => ∃ k, o.1 = some k ∧ o.2 = [.t true] := by
  have e : gEta KContact [.i t, .i m, .s b, .s c, .i s, .i h, .s x, .s y, .l p, .l q] = [.i t, .i m, .s b, .s c, .i s, .i h, .s x, .s y] := rfl
  have hmx := mixed_Con hp hq
  have hml : (mixed p q).length < 100000 := by
    have h1 : (mixed p q).length ≤ (sortA (ltC ordC) (p ++ q)).length := compact_length _ _
    have h2 := sortA_length (ltC ordC) (p ++ q)
    have h3 : (p ++ q).length = p.length + q.length := List.length_append
    omega
  have hll : (lacking p q).length < 100000 := by
    have : (lacking p q).length ≤ q.length := List.length_filter_le _ _
    omega
  unfold tl_pilelaw2_LogsMerge_7
  (dsimp +instances only [gi0,gis,row1,rows1,int1,str1,bool1])
  rw [e]
  refine Ret.call (Ret.eq (merge_ok p q hp hq hl)) ?_
  rintro _ rfl
  refine Ret.call (Ret.eq (lacks_ok p q hp hq (by omega) (by omega))) ?_
  rintro _ rfl
  refine Ret.call (Ret.eq (logFault_eq p hp (by omega))) ?_
  rintro _ rfl
  refine Ret.call (Ret.eq (logFault_eq q hq (by omega))) ?_
  rintro _ rfl
  (dsimp +instances only [gi0,gis,row1,rows1,int1,str1,bool1])
  refine Ret.call (Ret.eq (errs2 _ _)) ?_
  rintro _ rfl
  (dsimp +instances only [gi0,gis,row1,rows1,int1,str1,bool1])
  have none : ∀ v : Int, v ≠ 0 → Ret (callF (F_log_CheckContact [.l [[.i t, .i m, .s b, .s c, .i s, .i h, .s x, .s y]]]) fun g26 => (callF (F_pileref2_ContactFault [.l [[.i t, .i m, .s b, .s c, .i s, .i h, .s x, .s y]]]) fun g27 => (bif ((gi g26 0).int == (gi g27 0).int) then (callF (F_log_CheckLog [.l p]) fun g28 => (callF (F_pileref2_LogFault [.l p]) fun g29 => (bif ((gi g28 0).int == (gi g29 0).int) then (bif (v == v) then (callF (F_slices_Equal_Contact [.l [], .l []]) fun g30 => (bif (gi g30 0).bool then (bif (v == v) then (callF (F_slices_Equal_Contact [.l [], .l []]) fun g31 => (bif (gi g31 0).bool then (callF (F_pilelaw2_logged []) fun g32 => some (some 0, [.t (gi g32 0).bool])) else some (some 0, [.t false]))) else some (some 0, [.t false])) else some (some 0, [.t false]))) else some (some 0, [.t false])) else some (some 0, [.t false])))) else some (some 0, [.t false]))))
      (fun o : Option Nat × List G => ∃ k, o.1 = some k ∧ o.2 = [.t true]) := by
    intro v hv
    refine Ret.call (Ret.eq (check_eq hr)) ?_
    rintro _ rfl
    refine Ret.call (Ret.eq (fault_eq hr)) ?_
    rintro _ rfl
    (dsimp +instances only [gi0,gis,row1,rows1,int1,str1,bool1])
    refine Ret.pos (bne_self _) ?_
    refine Ret.call (Ret.eq (checkLog_eq p hp (by omega))) ?_
    rintro _ rfl
    refine Ret.call (Ret.eq (logFault_eq p hp (by omega))) ?_
    rintro _ rfl
    (dsimp +instances only [gi0,gis,row1,rows1,int1,str1,bool1])
    refine Ret.pos (bne_self _) (Ret.pos (bne_self _) ?_)
    refine Ret.call (Ret.eq (equal_refl [] (by simp) (by simp))) ?_
    rintro _ rfl
    refine Ret.pos rfl (Ret.pos (bne_self _) ?_)
    refine Ret.call (Ret.eq (equal_refl [] (by simp) (by simp))) ?_
    rintro _ rfl
    refine Ret.pos rfl ?_
    refine Ret.call (Ret.eq logged_ok) ?_
    rintro _ rfl
    exact Ret.some ⟨0, rfl, rfl⟩
  by_cases hfa : faultLog p = 0
  · by_cases hfb : faultLog q = 0
    · have z : ((0 : Int) != 0) = false := rfl
      rw [hfa, hfb]
      simp only [z, cond_false]
      refine Ret.pos rfl ?_
      refine Ret.call (Ret.eq (logsOf_ok p q hp hq hl)) ?_
      rintro _ rfl
      refine Ret.call (Ret.eq (lackingOf_ok p q hp hq (by omega) (by omega))) ?_
      rintro _ rfl
      refine Ret.call (Ret.eq (check_eq hr)) ?_
      rintro _ rfl
      refine Ret.call (Ret.eq (fault_eq hr)) ?_
      rintro _ rfl
      (dsimp +instances only [gi0,gis,row1,rows1,int1,str1,bool1])
      refine Ret.pos (bne_self _) ?_
      refine Ret.call (Ret.eq (checkLog_eq p hp (by omega))) ?_
      rintro _ rfl
      refine Ret.call (Ret.eq (logFault_eq p hp (by omega))) ?_
      rintro _ rfl
      (dsimp +instances only [gi0,gis,row1,rows1,int1,str1,bool1])
      refine Ret.pos (bne_self _) (Ret.pos (bne_self _) ?_)
      have hj : F_slices_Equal_Contact [.l (gi (joined (mixed p q)) 0).rows, .l (gi (joined (mixed p q)) 0).rows] = some [.t true] := by
        unfold joined
        cases clash (mixed p q) with
        | true => exact equal_refl [] (by simp) (by simp)
        | false =>
          cases Nat.blt 2000 (mixed p q).length with
          | true => exact equal_refl [] (by simp) (by simp)
          | false => exact equal_refl _ hmx hml
      refine Ret.call (Ret.eq hj) ?_
      rintro _ rfl
      refine Ret.pos rfl (Ret.pos rfl ?_)
      refine Ret.call (Ret.eq (equal_refl _ (lacking_Con hq) hll)) ?_
      rintro _ rfl
      refine Ret.pos rfl ?_
      refine Ret.call (Ret.eq logged_ok) ?_
      rintro _ rfl
      exact Ret.some ⟨0, rfl, rfl⟩
    · have z : (faultLog q != 0) = true := by simpa using hfb
      have z0 : ((0 : Int) != 0) = false := rfl
      rw [hfa]
      simp only [z, z0, cond_false, cond_true]
      refine Ret.neg (by simpa using hfb) ?_
      exact none _ hfb
  · have z : (faultLog p != 0) = true := by simpa using hfa
    simp only [z, cond_true]
    refine Ret.neg (by simpa using hfa) ?_
    exact none _ hfa

theorem upHeard {z : List G} (hz : ConT z) : ∃ n, (gi z 5).int = n ∧ tight n ∧ Con (putG KContact z 5 [.i (n + 1)]) := by
  obtain ⟨t, m, b, c, s, h, x, y, rfl, h1, h2, h3, h4, h5⟩ := hz
  refine ⟨h, rfl, h4, t, m, b, c, s, h + 1, x, y, rfl, h1.to, h2.to, h3.to, ?_, h5⟩
  unfold tight at h4
  unfold small
  omega

theorem mergeMid_ok (l : List (List G)) (a : Int) (t m : Int) (b c : ByteArray) (s h : Int) (x y : ByteArray) (p q : List (List G)) (f : Bool) (ha : 0 ≤ a) (ha1 : a ≤ 900000) (hp : ∀ z ∈ p, ConT z) (hq : ∀ z ∈ q, ConT z) (hl : p.length ≤ 10) (hl2 : q.length ≤ 10) (hf : f = true → 0 < p.length) :
    Ret (tl_pilelaw2_LogsMerge_4 [.l l, .i a, .i t, .i m, .s b, .s c, .i s, .i h, .s x, .s y, .l p, .l q, .t f]) fun o => ∃ k, o.1 = some k ∧ ∃ q', o.2 = [.i t, .i m, .s b, .s c, .i s, .i h, .s x, .s y, .l p, .l q'] ∧ (∀ z ∈ q', Con z) ∧ q'.length ≤ 10 := by
  unfold tl_pilelaw2_LogsMerge_4
  (dsimp +instances only [gi0,gis,row1,rows1,int1,str1,bool1])
  cases f with
  | false => exact Ret.neg rfl (Ret.some ⟨0, rfl, q, rfl, fun z hz => (hq z hz).to, hl2⟩)
  | true =>
    have hf := hf rfl
    refine Ret.pos rfl ?_
    refine Ret.call (r_Next l a _ ha (by omega) (by omega) (by omega)) ?_
    rintro _ ⟨v, rfl, hv0, hv1⟩
    (dsimp +instances only [gi0,gis,row1,rows1,int1,str1,bool1])
    (repeat(first|(refine Ret.pos ?_ ?_;(first|rfl|assumption|(simp only [inI,sl]<;>omega)))|(refine Ret.neg ?_ ?_;(first|rfl|assumption|(simp only [inI,sl]<;>omega)))))
    have hdl : (p.drop v.toNat).length = p.length - v.toNat := List.length_drop
    have hd : ∀ z ∈ p.drop v.toNat, ConT z := fun z hz => hp z (List.mem_of_mem_drop hz)
    refine Ret.call (Ret.eq (cloneF_ok (p.drop v.toNat) (by omega))) ?_
    rintro _ rfl
    (dsimp +instances only [gi0,gis,row1,rows1,int1,str1,bool1])
    refine Ret.call (r_Flip l _ 4 (by omega) (by omega) (by omega) (by omega)) ?_
    rintro _ ⟨b4, rfl⟩
    (dsimp +instances only [gi0,gis,row1,rows1,int1,str1,bool1])
    generalize p.drop v.toNat = w at hdl hd ⊢
    match w, hdl, hd with
    | [], hdl, _ => simp at hdl; omega
    | z :: w, hdl, hd =>
      obtain ⟨n, hn, ht, hC⟩ := upHeard (hd z List.mem_cons_self)
      unfold tight at ht
      have e0 : (z :: w).getD 0 [] = z := rfl
      simp only [e0, hn]
      cases b4 with
      | true =>
        refine Ret.pos rfl ?_
        (repeat(first|(refine Ret.pos ?_ ?_;(first|rfl|assumption|(simp only [inI,sl]<;>omega)))|(refine Ret.neg ?_ ?_;(first|rfl|assumption|(simp only [inI,sl]<;>omega)))))
        refine Ret.some ⟨0, rfl, putG KContact z 5 [.i (n + 1)] :: w, rfl, ?_, ?_⟩
        · intro y hy
          rcases List.mem_cons.1 hy with rfl | hy
          · exact hC
          · exact (hd y (List.mem_cons_of_mem _ hy)).to
        · simp at hdl ⊢
          omega
      | false =>
        refine Ret.neg rfl ?_
        (repeat(first|(refine Ret.pos ?_ ?_;(first|rfl|assumption|(simp only [inI,sl]<;>omega)))|(refine Ret.neg ?_ ?_;(first|rfl|assumption|(simp only [inI,sl]<;>omega)))))
        exact Ret.some ⟨0, rfl, z :: w, rfl, fun y hy => (hd y hy).to, by omega⟩

/-- The law of merged logs, whatever numbers the stream has. -/
theorem logsMerge_data (rows : List (List G)) : F_pilelaw2_LogsMerge [.l rows] = some [.t true] := by
  refine Ret.toEq ?_
  unfold F_pilelaw2_LogsMerge
  (dsimp +instances only [gi0,gis,row1,rows1,int1,str1,bool1])
  refine Ret.call (r_Range rows 0 0 100 (by omega) (by omega) (by omega) (by omega) (by omega)) ?_
  rintro _ ⟨v, rfl, hv0, hv1⟩
  (dsimp +instances only [gi0,gis,row1,rows1,int1,str1,bool1])
  refine Ret.call (r_SomeContact rows _ v (by omega) (by omega) ⟨by omega, by omega⟩) ?_
  rintro _ ⟨a1, r, rfl, ha0, ha1, hr⟩
  (dsimp +instances only [gi0,gis,row1,rows1,int1,str1,bool1])
  refine Ret.call (r_Range rows _ 0 10 (by omega) (by omega) (by omega) (by omega) (by omega)) ?_
  rintro _ ⟨n1, rfl, hn0, hn1⟩
  (dsimp +instances only [gi0,gis,row1,rows1,int1,str1,bool1])
  refine Ret.call (r_Contacts rows _ n1 (by omega) (by omega) hn0 (by omega)) ?_
  rintro _ ⟨a2, p, rfl, hb0, hb1, hp, hpl⟩
  (dsimp +instances only [gi0,gis,row1,rows1,int1,str1,bool1])
  refine Ret.call (r_Range rows _ 0 6 (by omega) (by omega) (by omega) (by omega) (by omega)) ?_
  rintro _ ⟨n2, rfl, hm0, hm1⟩
  (dsimp +instances only [gi0,gis,row1,rows1,int1,str1,bool1])
  refine Ret.call (r_Contacts rows _ n2 (by omega) (by omega) hm0 (by omega)) ?_
  rintro _ ⟨a3, q, rfl, hc0, hc1, hq, hql⟩
  (dsimp +instances only [gi0,gis,row1,rows1,int1,str1,bool1])
  obtain ⟨t, m, b, c, s, h, x, y, rfl, hr'⟩ := hr
  (dsimp +instances only [gi0,gis,row1,rows1,int1,str1,bool1])
  have hrC : Con [.i t, .i m, .s b, .s c, .i s, .i h, .s x, .s y] := ConT.to ⟨t, m, b, c, s, h, x, y, rfl, hr'⟩
  refine Ret.test (fun hlt => ?_) fun hlt => ?_
  · simp only [ltI_eq, decide_eq_true_eq] at hlt
    refine Ret.call (r_Flip rows a3 2 (by omega) (by omega) (by omega) (by omega)) ?_
    rintro _ ⟨f, rfl⟩
    (dsimp +instances only [gi0,gis,row1,rows1,int1,str1,bool1])
    refine Ret.tail (P := fun _ g => ∃ q', g = [.i t, .i m, .s b, .s c, .i s, .i h, .s x, .s y, .l p, .l q'] ∧ (∀ z ∈ q', Con z) ∧ q'.length ≤ 10) (mergeMid_ok rows (a3 + 1) t m b c s h x y p q f (by omega) (by omega) hp hq (by omega) (by omega) (fun _ => by omega)) rfl ?_
    rintro _ _ ⟨q', rfl, hq', hql'⟩
    (dsimp +instances only [gi0,gis,row1,rows1,int1,str1,bool1])
    refine Ret.tail (P := fun _ g => g = [.t true]) (mergeTail_ok t m b c s h x y p q' hrC (fun z hz => (hp z hz).to) hq' (by omega)) (by (first|rfl|assumption|(simp only [inI,sl]<;>omega))) ?_
    rintro _ _ rfl
    exact Ret.some rfl
  · refine Ret.tail (P := fun _ g => ∃ q', g = [.i t, .i m, .s b, .s c, .i s, .i h, .s x, .s y, .l p, .l q'] ∧ (∀ z ∈ q', Con z) ∧ q'.length ≤ 10) (mergeMid_ok rows a3 t m b c s h x y p q false (by omega) (by omega) hp hq (by omega) (by omega) (fun h => by cases h)) rfl ?_
    rintro _ _ ⟨q', rfl, hq', hql'⟩
    (dsimp +instances only [gi0,gis,row1,rows1,int1,str1,bool1])
    refine Ret.tail (P := fun _ g => g = [.t true]) (mergeTail_ok t m b c s h x y p q' hrC (fun z hz => (hp z hz).to) hq' (by omega)) (by (first|rfl|assumption|(simp only [inI,sl]<;>omega))) ?_
    rintro _ _ rfl
    exact Ret.some rfl

end Go.Proofs.SYtpfhjchbegdgdaaGreatDoor

namespace Go.Proofs.SYtpfhjchbegdgdaaGreatDoor
open Go Go.AL Go.Proofs

theorem faultL_all : ∀ {l : List (List G)} {o : Option (List G)}, faultL o l = 0 → ∀ x ∈ l, faultC x = 0
  | [], _, _, x, hx => by cases hx
  | y :: l, none, h, x, hx => by
    simp only [faultL] at h
    by_cases hy : faultC y = 0
    · rw [if_neg (by simpa using hy)] at h
      rcases List.mem_cons.1 hx with rfl | hx
      · exact hy
      · exact faultL_all h x hx
    · rw [if_pos hy] at h
      exact (hy h).elim
  | y :: l, some z, h, x, hx => by
    simp only [faultL] at h
    by_cases hy : faultC y = 0
    · rw [if_neg (by simpa using hy)] at h
      split at h
      · cases h
      · rcases List.mem_cons.1 hx with rfl | hx
        · exact hy
        · exact faultL_all h x hx
    · rw [if_pos hy] at h
      exact (hy h).elim
theorem faultLog_all {l : List (List G)} (h : faultLog l = 0) : ∀ x ∈ l, faultC x = 0 := by
  unfold faultLog at h
  split at h
  · cases h
  · exact faultL_all h
theorem inB_iff {v lo hi : Int} (h : inB v lo hi = true) : lo ≤ v ∧ v ≤ hi := by
  simpa only [inB, leI_eq, Bool.and_eq_true, decide_eq_true_eq] using h
/-- A contact without a fault: its moment, its mode, its numbers. -/
theorem faultC_zero {x : List G} (h : faultC x = 0) : (0 ≤ (gi x 0).int ∧ (gi x 0).int ≤ 345686399999) ∧ (1 ≤ (gi x 1).int ∧ (gi x 1).int ≤ 3) ∧ (0 ≤ (gi x 4).int ∧ (gi x 4).int ≤ 99999) ∧ (0 ≤ (gi x 5).int ∧ (gi x 5).int ≤ 99999) := by
  unfold faultC at h
  cases h1 : inB (gi x 0).int 0 345686399999 with
  | false => rw [h1] at h; simp at h
  | true =>
  cases h2 : inB (gi x 1).int 1 3 with
  | false => rw [h1, h2] at h; simp at h
  | true =>
  cases h3 : okKey (gi x 2).str with
  | false => rw [h1, h2, h3] at h; simp at h
  | true =>
  cases h4 : okCall (gi x 3).str with
  | false => rw [h1, h2, h3, h4] at h; simp at h
  | true =>
  cases h5 : inB (gi x 4).int 0 99999 with
  | false => rw [h1, h2, h3, h4, h5] at h; simp at h
  | true =>
  cases h6 : inB (gi x 5).int 0 99999 with
  | false => rw [h1, h2, h3, h4, h5, h6] at h; simp at h
  | true => exact ⟨inB_iff h1, inB_iff h2, inB_iff h5, inB_iff h6⟩

/-- How often a number is there. -/
def fOf (m : List (List G)) (n : Int) : Int := (gi (mget [.int .i64] m [.i n] [.i 0]) 0).int
theorem fOf_mput (m : List (List G)) (s v n : Int) (c : Nat) : fOf (mput [.int .i64] m [.i s] [.i v] c) n = if n = s then v else fOf m n := by
  unfold fOf
  rw [mget_mput]
  have e : rowEq [.int .i64] [.i n] [.i s] = decide (n = s) := by
    simp only [rowEq, gEq, List.headD_cons, Bool.and_true, int1]
    rw [Bool.eq_iff_iff]
    simp
  rw [e]
  by_cases h : n = s
  · simp [h, gi0, int1]
  · simp [h]

theorem count_ok (l : List (List G)) (hl : ∀ z ∈ l, 0 ≤ (gi z 4).int ∧ (gi z 4).int ≤ 99999) (hn : l.length < 90000) :
    RetL st_log_Serials_7 [.l [], .i 0, .i 0, .l l, .i (l.length : Int), .i 0] fun c g => c = 0 ∧ ∃ (m : List (List G)) (k : Nat) (top : Int), g = [.l m, .i (k : Int), .i top] ∧ 0 ≤ top ∧ top ≤ 99999 ∧ ∀ n, 0 ≤ fOf m n ∧ fOf m n ≤ 100000 := by
  have r := range_all (st := st_log_Serials_7) (σ := List (List G) × Nat × Int) (fun s i => [.l s.1, .i (s.2.1 : Int), .i s.2.2, .l l, .i (l.length : Int), .i (i : Int)]) l (fun s => (0, [.l s.1, .i (s.2.1 : Int), .i s.2.2]))
    (fun s i => (∀ n, 0 ≤ fOf s.1 n ∧ fOf s.1 n ≤ i) ∧ 0 ≤ s.2.2 ∧ s.2.2 ≤ 99999) ([], 0, 0) (by omega) ⟨fun n => ⟨by simp [fOf, mget_nil, gi0, int1], by simp [fOf, mget_nil, gi0, int1]⟩, by simp, by simp⟩
    (fun s i x hI hi hx hm ht => by
      obtain ⟨h1, h2⟩ := hl x hm
      obtain ⟨hf, ht0, ht1⟩ := hI
      obtain ⟨hs0, hs1⟩ := hf (gi x 4).int
      have e : (gi (mget [.int .i64] s.1 [.i (gi x 4).int] [.i 0]) 0).int = fOf s.1 (gi x 4).int := rfl
      unfold st_log_Serials_7
      (dsimp +instances only [gi0,gis,row1,rows1,int1,str1,bool1])
      simp only [Int.toNat_natCast, hx, e]
      (repeat(first|(refine Ret.pos ?_ ?_;(first|rfl|assumption|(simp only [inI,sl]<;>omega)))|(refine Ret.neg ?_ ?_;(first|rfl|assumption|(simp only [inI,sl]<;>omega)))))
      refine Ret.some ⟨(mput [.int .i64] s.1 [.i (gi x 4).int] [.i (fOf s.1 (gi x 4).int + 1)] s.2.1, mclk [.int .i64] s.1 [.i (gi x 4).int] s.2.1, if (gi x 4).int > s.2.2 then (gi x 4).int else s.2.2), rfl, ?_, ?_⟩
      · intro n
        rw [fOf_mput]
        have := hf n
        split <;> omega
      · simp only
        split <;> omega)
    (fun s hI => by
      unfold st_log_Serials_7
      (dsimp +instances only [gi0,gis,row1,rows1,int1,str1,bool1])
      simp only [Int.toNat_natCast]
      (repeat(first|(refine Ret.pos ?_ ?_;(first|rfl|assumption|(simp only [inI,sl]<;>omega)))|(refine Ret.neg ?_ ?_;(first|rfl|assumption|(simp only [inI,sl]<;>omega)))))
      exact Ret.some rfl)
  refine r.mono ?_
  rintro c g ⟨⟨m, k, top⟩, ⟨hf, h0, h1⟩, rfl, rfl⟩
  exact ⟨rfl, m, k, top, rfl, h0, h1, fun n => ⟨(hf n).1, by have h2 : fOf m n ≤ (l.length : Int) := (hf n).2; omega⟩⟩

/-- What one number does to the rows that are missing and to the numbers that were sent twice. -/
def serStep (f : Int → Int) (s : List (List G) × List (List G)) (n : Int) : List (List G) × List (List G) :=
  if 1 < f n then (s.1, s.2 ++ [[.i n]])
  else if f n = 0 then
    match s.1.getLast? with
    | some r => if (gi r 1).int = n then (s.1.dropLast ++ [[.i (gi r 0).int, .i ((gi r 1).int + 1)]], s.2) else (s.1 ++ [[.i n, .i (n + 1)]], s.2)
    | none => (s.1 ++ [[.i n, .i (n + 1)]], s.2)
  else s
def serL (f : Int → Int) : Nat → List (List G) × List (List G)
  | 0 => ([], [])
  | i + 1 => serStep f (serL f i) ((i : Int) + 1)

structure SerOK (s : List (List G) × List (List G)) (i : Nat) : Prop where
  l1 : s.1.length ≤ i
  l2 : s.2.length ≤ i
  r1 : ∀ r ∈ s.1, ∃ a b, r = [.i a, .i b] ∧ 0 ≤ b ∧ b ≤ i + 1
  r2 : ∀ r ∈ s.2, ∃ a, r = [.i a]

theorem serL_ok (f : Int → Int) : ∀ i, SerOK (serL f i) i
  | 0 => ⟨by simp [serL], by simp [serL], by simp [serL], by simp [serL]⟩
  | i + 1 => by
    obtain ⟨h1, h2, h3, h4⟩ := serL_ok f i
    have h3' : ∀ r ∈ (serL f i).1, ∃ a b, r = [.i a, .i b] ∧ 0 ≤ b ∧ b ≤ ((i + 1 : Nat) : Int) + 1 := fun r hr => by
      obtain ⟨a, b, e, q1, q2⟩ := h3 r hr
      exact ⟨a, b, e, q1, by omega⟩
    have h3n : ∀ r ∈ (serL f i).1 ++ [[.i ((i : Int) + 1), .i ((i : Int) + 1 + 1)]], ∃ a b, r = [.i a, .i b] ∧ 0 ≤ b ∧ b ≤ ((i + 1 : Nat) : Int) + 1 := fun r hr => by
      rcases List.mem_append.1 hr with hr | hr
      · exact h3' r hr
      · simp at hr
        exact ⟨_, _, hr, by omega, by omega⟩
    simp only [serL, serStep]
    split
    · refine ⟨by simp; omega, by simp; omega, h3', fun r hr => ?_⟩
      rcases List.mem_append.1 hr with hr | hr
      · exact h4 r hr
      · simp at hr
        exact ⟨_, hr⟩
    · split
      · split
        · rename_i r hr
          have hm := List.mem_of_getLast? hr
          obtain ⟨a, b, rfl, q1, q2⟩ := h3 r hm
          split
          · refine ⟨by simp; omega, by simp; omega, fun r hr => ?_, h4⟩
            rcases List.mem_append.1 hr with hr | hr
            · exact h3' r ((List.dropLast_sublist _).subset hr)
            · simp only [gi0, gis, int1, List.mem_singleton] at hr
              exact ⟨_, _, hr, by omega, by omega⟩
          · exact ⟨by simp; omega, by simp; omega, h3n, h4⟩
        · exact ⟨by simp; omega, by simp; omega, h3n, h4⟩
      · exact ⟨by omega, by omega, h3', h4⟩

theorem bf_false {a b : Int} (h : a ≠ b) : (a == b) = false := by simpa using h
theorem bf_true {a b : Int} (h : a = b) : (a == b) = true := by simpa using h

theorem tail22_set (m p tw : List (List G)) (k : Nat) (a b top n : Int) (hp : p.length < 200000) (h0 : 0 ≤ b) (h1 : b ≤ 200000) :
    Ret (tl_log_Serials_22 [.l m, .i (k : Int), .l (p ++ [[G.i a, G.i b]]), .l tw, .i top, .i n, .t true]) fun o => ∃ x, o.1 = some x ∧ o.2 = [.l m, .i (k : Int), .l (p ++ [[G.i a, G.i (b + 1)]]), .l tw, .i top, .i n] := by
  have hlen : (p ++ [[G.i a, G.i b]]).length = p.length + 1 := by simp
  have t0 : (((p.length + 1 : Nat) : Int) - 1).toNat = p.length := by omega
  have t1 : 0 + p.length = p.length := by omega
  have g1 : (p ++ [[G.i a, G.i b]]).getD p.length [] = [.i a, .i b] := getD_mid _ _ _ _ _ rfl
  have s1 : (p ++ [[G.i a, G.i b]]).set p.length [.i a, .i (b + 1)] = p ++ [[G.i a, G.i (b + 1)]] := set_mid _ _ _ _ _ rfl
  have hp2 : putG [.int .i64, .int .i64] [.i a, .i b] 1 [.i (b + 1)] = [.i a, .i (b + 1)] := rfl
  have hlen2 : (p ++ [[G.i a, G.i (b + 1)]]).length = p.length + 1 := by simp
  unfold tl_log_Serials_22
  (dsimp +instances only [gi0,gis,row1,rows1,int1,str1,bool1])
  simp only [hlen, Int.toNat_natCast, t0, t1, g1]
  (dsimp +instances only [gi0,gis,row1,rows1,int1,str1,bool1])
  simp only [hp2, s1, hlen2]
  (repeat(first|(refine Ret.pos ?_ ?_;(first|rfl|assumption|(simp only [inI,sl]<;>omega)))|(refine Ret.neg ?_ ?_;(first|rfl|assumption|(simp only [inI,sl]<;>omega)))))
  exact Ret.some ⟨0, rfl, rfl⟩
theorem tail22_app (m rows tw : List (List G)) (k : Nat) (top n : Int) (hp : rows.length < 200000) (h0 : 0 ≤ n) (h1 : n ≤ 200000) :
    Ret (tl_log_Serials_22 [.l m, .i (k : Int), .l rows, .l tw, .i top, .i n, .t false]) fun o => ∃ x, o.1 = some x ∧ o.2 = [.l m, .i (k : Int), .l (rows ++ [[.i n, .i (n + 1)]]), .l tw, .i top, .i n] := by
  unfold tl_log_Serials_22
  (dsimp +instances only [gi0,gis,row1,rows1,int1,str1,bool1])
  simp only [Int.toNat_natCast]
  (repeat(first|(refine Ret.pos ?_ ?_;(first|rfl|assumption|(simp only [inI,sl]<;>omega)))|(refine Ret.neg ?_ ?_;(first|rfl|assumption|(simp only [inI,sl]<;>omega)))))
  exact Ret.some ⟨0, rfl, rfl⟩

theorem serRound (m rows tw : List (List G)) (k i : Nat) (top n : Int) (hn : 0 ≤ n) (hn1 : n ≤ 100000) (ht : n ≤ top) (hf : 0 ≤ fOf m n) (hs : SerOK (rows, tw) i) (hi : i ≤ 100000) :
    Ret (st_log_Serials_15 [.l m, .i (k : Int), .l rows, .l tw, .i top, .i n]) fun o => o = (none, [.l m, .i (k : Int), .l (serStep (fOf m) (rows, tw) n).1, .l (serStep (fOf m) (rows, tw) n).2, .i top, .i (n + 1)]) := by
  obtain ⟨h1, h2, h3, h4⟩ := hs
  simp only at h1 h2 h3 h4
  have e : (gi (mget [.int .i64] m [.i n] [.i 0]) 0).int = fOf m n := rfl
  unfold st_log_Serials_15 serStep
  (dsimp +instances only [gi0,gis,row1,rows1,int1,str1,bool1])
  simp only [Int.toNat_natCast, e]
  refine Ret.pos (by (first|rfl|assumption|(simp only [inI,sl]<;>omega))) ?_
  by_cases c1 : 1 < fOf m n
  · rw [if_pos c1]
    (repeat(first|(refine Ret.pos ?_ ?_;(first|rfl|assumption|(simp only [inI,sl]<;>omega)))|(refine Ret.neg ?_ ?_;(first|rfl|assumption|(simp only [inI,sl]<;>omega)))))
    exact Ret.some rfl
  · rw [if_neg c1]
    refine Ret.neg (by (first|rfl|assumption|(simp only [inI,sl]<;>omega))) ?_
    by_cases c2 : fOf m n = 1
    · rw [if_neg (by omega)]
      rw [c2]
      (repeat(first|(refine Ret.pos ?_ ?_;(first|rfl|assumption|(simp only [inI,sl]<;>omega)))|(refine Ret.neg ?_ ?_;(first|rfl|assumption|(simp only [inI,sl]<;>omega)))))
      exact Ret.some rfl
    · have c0 : fOf m n = 0 := by omega
      rw [if_pos c0]
      refine Ret.neg (bf_false c2) ?_
      rcases List.eq_nil_or_concat rows with rfl | ⟨p, r, rfl⟩
      · (repeat(first|(refine Ret.pos ?_ ?_;(first|rfl|assumption|(simp only [inI,sl]<;>omega)))|(refine Ret.neg ?_ ?_;(first|rfl|assumption|(simp only [inI,sl]<;>omega)))))
        refine Ret.tail (P := fun _ g => g = _) (tail22_app m [] tw k top n (by simp) hn (by omega)) (by (first|rfl|assumption|(simp only [inI,sl]<;>omega))) ?_
        rintro _ _ rfl
        (dsimp +instances only [gi0,gis,row1,rows1,int1,str1,bool1])
        simp only [Int.toNat_natCast]
        (repeat(first|(refine Ret.pos ?_ ?_;(first|rfl|assumption|(simp only [inI,sl]<;>omega)))|(refine Ret.neg ?_ ?_;(first|rfl|assumption|(simp only [inI,sl]<;>omega)))))
        exact Ret.some rfl
      · rw [List.concat_eq_append] at *
        obtain ⟨a, b, rfl, q1, q2⟩ := h3 r (by simp)
        have hlen : (p ++ [[G.i a, G.i b]]).length = p.length + 1 := by simp
        have t0 : (((p.length + 1 : Nat) : Int) - 1).toNat = p.length := by omega
        have t1 : 0 + p.length = p.length := by omega
        have g1 : (p ++ [[G.i a, G.i b]]).getD p.length [] = [.i a, .i b] := getD_mid _ _ _ _ _ rfl
        have hl : (p ++ [[G.i a, G.i b]]).getLast? = some [.i a, .i b] := by simp
        have hd : (p ++ [[G.i a, G.i b]]).dropLast = p := by simp
        rw [hlen] at h1
        simp only [hlen, t0, t1, g1, hl, hd]
        (dsimp +instances only [gi0,gis,row1,rows1,int1,str1,bool1])
        refine Ret.pos (by (first|rfl|assumption|(simp only [inI,sl]<;>omega))) (Ret.pos (by (first|rfl|assumption|(simp only [inI,sl]<;>omega))) (Ret.pos (by (first|rfl|assumption|(simp only [inI,sl]<;>omega))) (Ret.pos (by (first|rfl|assumption|(simp only [inI,sl]<;>omega))) ?_)))
        by_cases c3 : b = n
        · rw [if_pos c3, bf_true c3]
          refine Ret.tail (P := fun _ g => g = _) (tail22_set m p tw k a b top n (by omega) q1 (by omega)) (by (first|rfl|assumption|(simp only [inI,sl]<;>omega))) ?_
          rintro _ _ rfl
          (dsimp +instances only [gi0,gis,row1,rows1,int1,str1,bool1])
          simp only [Int.toNat_natCast]
          (repeat(first|(refine Ret.pos ?_ ?_;(first|rfl|assumption|(simp only [inI,sl]<;>omega)))|(refine Ret.neg ?_ ?_;(first|rfl|assumption|(simp only [inI,sl]<;>omega)))))
          exact Ret.some rfl
        · rw [if_neg c3, bf_false c3]
          refine Ret.tail (P := fun _ g => g = _) (tail22_app m (p ++ [[G.i a, G.i b]]) tw k top n (by omega) hn (by omega)) (by (first|rfl|assumption|(simp only [inI,sl]<;>omega))) ?_
          rintro _ _ rfl
          (dsimp +instances only [gi0,gis,row1,rows1,int1,str1,bool1])
          simp only [Int.toNat_natCast]
          (repeat(first|(refine Ret.pos ?_ ?_;(first|rfl|assumption|(simp only [inI,sl]<;>omega)))|(refine Ret.neg ?_ ?_;(first|rfl|assumption|(simp only [inI,sl]<;>omega)))))
          exact Ret.some rfl

theorem tail18_set (m p tw : List (List G)) (k : Nat) (a b top n j : Int) (hj : j = p.length) (hp : p.length < 200000) (h0 : 0 ≤ b) (h1 : b ≤ 200000) :
    Ret (tl_pileref2_SerialsOf_18 [.l m, .i (k : Int), .l (p ++ [[G.i a, G.i b]]), .l tw, .i top, .i n, .i j, .t true]) fun o => ∃ x, o.1 = some x ∧ o.2 = [.l m, .i (k : Int), .l (p ++ [[G.i a, G.i (b + 1)]]), .l tw, .i top, .i n] := by
  subst hj
  have hlen : (p ++ [[G.i a, G.i b]]).length = p.length + 1 := by simp
  have t1 : 0 + p.length = p.length := by omega
  have g1 : (p ++ [[G.i a, G.i b]]).getD p.length [] = [.i a, .i b] := getD_mid _ _ _ _ _ rfl
  have s1 : (p ++ [[G.i a, G.i b]]).set p.length [.i a, .i (b + 1)] = p ++ [[G.i a, G.i (b + 1)]] := set_mid _ _ _ _ _ rfl
  have hp2 : putG [.int .i64, .int .i64] [.i a, .i b] 1 [.i (b + 1)] = [.i a, .i (b + 1)] := rfl
  have hlen2 : (p ++ [[G.i a, G.i (b + 1)]]).length = p.length + 1 := by simp
  unfold tl_pileref2_SerialsOf_18
  (dsimp +instances only [gi0,gis,row1,rows1,int1,str1,bool1])
  simp only [hlen, Int.toNat_natCast, t1, g1]
  (dsimp +instances only [gi0,gis,row1,rows1,int1,str1,bool1])
  simp only [hp2, s1, hlen2]
  (repeat(first|(refine Ret.pos ?_ ?_;(first|rfl|assumption|(simp only [inI,sl]<;>omega)))|(refine Ret.neg ?_ ?_;(first|rfl|assumption|(simp only [inI,sl]<;>omega)))))
  exact Ret.some ⟨0, rfl, rfl⟩
theorem tail18_app (m rows tw : List (List G)) (k : Nat) (top n j : Int) (hp : rows.length < 200000) (h0 : 0 ≤ n) (h1 : n ≤ 200000) (hf : fOf m n = 0) :
    Ret (tl_pileref2_SerialsOf_18 [.l m, .i (k : Int), .l rows, .l tw, .i top, .i n, .i j, .t false]) fun o => ∃ x, o.1 = some x ∧ o.2 = [.l m, .i (k : Int), .l (rows ++ [[.i n, .i (n + 1)]]), .l tw, .i top, .i n] := by
  have e : (gi (mget [.int .i64] m [.i n] [.i 0]) 0).int = fOf m n := rfl
  unfold tl_pileref2_SerialsOf_18
  (dsimp +instances only [gi0,gis,row1,rows1,int1,str1,bool1])
  simp only [Int.toNat_natCast, e, hf]
  (repeat(first|(refine Ret.pos ?_ ?_;(first|rfl|assumption|(simp only [inI,sl]<;>omega)))|(refine Ret.neg ?_ ?_;(first|rfl|assumption|(simp only [inI,sl]<;>omega)))))
  exact Ret.some ⟨0, rfl, rfl⟩
theorem tail18_no (m rows tw : List (List G)) (k : Nat) (top n j : Int) (hf : fOf m n ≠ 0) :
    Ret (tl_pileref2_SerialsOf_18 [.l m, .i (k : Int), .l rows, .l tw, .i top, .i n, .i j, .t false]) fun o => ∃ x, o.1 = some x ∧ o.2 = [.l m, .i (k : Int), .l rows, .l tw, .i top, .i n] := by
  have e : (gi (mget [.int .i64] m [.i n] [.i 0]) 0).int = fOf m n := rfl
  unfold tl_pileref2_SerialsOf_18
  (dsimp +instances only [gi0,gis,row1,rows1,int1,str1,bool1])
  simp only [Int.toNat_natCast, e]
  refine Ret.neg rfl (Ret.neg (bf_false hf) ?_)
  (repeat(first|(refine Ret.pos ?_ ?_;(first|rfl|assumption|(simp only [inI,sl]<;>omega)))|(refine Ret.neg ?_ ?_;(first|rfl|assumption|(simp only [inI,sl]<;>omega)))))
  exact Ret.some ⟨0, rfl, rfl⟩

theorem serRound' (m rows tw : List (List G)) (k i : Nat) (top n : Int) (hn : 0 ≤ n) (hn1 : n ≤ 100000) (ht : n ≤ top) (hf : 0 ≤ fOf m n) (hs : SerOK (rows, tw) i) (hi : i ≤ 100000) :
    Ret (st_pileref2_SerialsOf_12 [.l m, .i (k : Int), .l rows, .l tw, .i top, .i n]) fun o => o = (none, [.l m, .i (k : Int), .l (serStep (fOf m) (rows, tw) n).1, .l (serStep (fOf m) (rows, tw) n).2, .i top, .i (n + 1)]) := by
  obtain ⟨h1, h2, h3, h4⟩ := hs
  simp only at h1 h2 h3 h4
  have e : (gi (mget [.int .i64] m [.i n] [.i 0]) 0).int = fOf m n := rfl
  unfold st_pileref2_SerialsOf_12 serStep
  (dsimp +instances only [gi0,gis,row1,rows1,int1,str1,bool1])
  simp only [Int.toNat_natCast, e]
  refine Ret.pos (by (first|rfl|assumption|(simp only [inI,sl]<;>omega))) (Ret.pos (by (first|rfl|assumption|(simp only [inI,sl]<;>omega))) ?_)
  by_cases c1 : 1 < fOf m n
  · rw [if_pos c1]
    (repeat(first|(refine Ret.pos ?_ ?_;(first|rfl|assumption|(simp only [inI,sl]<;>omega)))|(refine Ret.neg ?_ ?_;(first|rfl|assumption|(simp only [inI,sl]<;>omega)))))
    exact Ret.some rfl
  · rw [if_neg c1]
    refine Ret.neg (by (first|rfl|assumption|(simp only [inI,sl]<;>omega))) ?_
    by_cases c0 : fOf m n = 0
    · rw [if_pos c0]
      refine Ret.pos (bf_true c0) ?_
      rcases List.eq_nil_or_concat rows with rfl | ⟨p, r, rfl⟩
      · refine Ret.neg rfl ?_
        refine Ret.tail (P := fun _ g => g = _) (tail18_app m [] tw k top n _ (by simp) hn (by omega) c0) (by (first|rfl|assumption|(simp only [inI,sl]<;>omega))) ?_
        rintro _ _ rfl
        (dsimp +instances only [gi0,gis,row1,rows1,int1,str1,bool1])
        simp only [Int.toNat_natCast]
        (repeat(first|(refine Ret.pos ?_ ?_;(first|rfl|assumption|(simp only [inI,sl]<;>omega)))|(refine Ret.neg ?_ ?_;(first|rfl|assumption|(simp only [inI,sl]<;>omega)))))
        exact Ret.some rfl
      · rw [List.concat_eq_append] at *
        obtain ⟨a, b, rfl, q1, q2⟩ := h3 r (by simp)
        have hlen : (p ++ [[G.i a, G.i b]]).length = p.length + 1 := by simp
        have t0 : (((p.length + 1 : Nat) : Int) - 1).toNat = p.length := by omega
        have t1 : 0 + p.length = p.length := by omega
        have g1 : (p ++ [[G.i a, G.i b]]).getD p.length [] = [.i a, .i b] := getD_mid _ _ _ _ _ rfl
        have hl : (p ++ [[G.i a, G.i b]]).getLast? = some [.i a, .i b] := by simp
        have hd : (p ++ [[G.i a, G.i b]]).dropLast = p := by simp
        rw [hlen] at h1
        simp only [hlen, t0, t1, g1, hl, hd]
        (dsimp +instances only [gi0,gis,row1,rows1,int1,str1,bool1])
        refine Ret.pos (by (first|rfl|assumption|(simp only [inI,sl]<;>omega))) (Ret.pos (by (first|rfl|assumption|(simp only [inI,sl]<;>omega))) (Ret.pos (by (first|rfl|assumption|(simp only [inI,sl]<;>omega))) ?_))
        by_cases c3 : b = n
        · rw [if_pos c3, bf_true c3]
          refine Ret.tail (P := fun _ g => g = _) (tail18_set m p tw k a b top n _ (by omega) (by omega) q1 (by omega)) (by (first|rfl|assumption|(simp only [inI,sl]<;>omega))) ?_
          rintro _ _ rfl
          (dsimp +instances only [gi0,gis,row1,rows1,int1,str1,bool1])
          simp only [Int.toNat_natCast]
          (repeat(first|(refine Ret.pos ?_ ?_;(first|rfl|assumption|(simp only [inI,sl]<;>omega)))|(refine Ret.neg ?_ ?_;(first|rfl|assumption|(simp only [inI,sl]<;>omega)))))
          exact Ret.some rfl
        · rw [if_neg c3, bf_false c3]
          refine Ret.tail (P := fun _ g => g = _) (tail18_app m (p ++ [[G.i a, G.i b]]) tw k top n _ (by omega) hn (by omega) c0) (by (first|rfl|assumption|(simp only [inI,sl]<;>omega))) ?_
          rintro _ _ rfl
          (dsimp +instances only [gi0,gis,row1,rows1,int1,str1,bool1])
          simp only [Int.toNat_natCast]
          (repeat(first|(refine Ret.pos ?_ ?_;(first|rfl|assumption|(simp only [inI,sl]<;>omega)))|(refine Ret.neg ?_ ?_;(first|rfl|assumption|(simp only [inI,sl]<;>omega)))))
          exact Ret.some rfl
    · rw [if_neg c0]
      refine Ret.neg (bf_false c0) ?_
      refine Ret.tail (P := fun _ g => g = _) (tail18_no m rows tw k top n _ c0) (by (first|rfl|assumption|(simp only [inI,sl]<;>omega))) ?_
      rintro _ _ rfl
      (dsimp +instances only [gi0,gis,row1,rows1,int1,str1,bool1])
      simp only [Int.toNat_natCast]
      (repeat(first|(refine Ret.pos ?_ ?_;(first|rfl|assumption|(simp only [inI,sl]<;>omega)))|(refine Ret.neg ?_ ?_;(first|rfl|assumption|(simp only [inI,sl]<;>omega)))))
      exact Ret.some rfl

theorem ser_loop (m : List (List G)) (k : Nat) (top : Int) (h0 : 0 ≤ top) (h1 : top ≤ 99999) (hf : ∀ n, 0 ≤ fOf m n) :
    RetL st_log_Serials_15 [.l m, .i (k : Int), .l [], .l [], .i top, .i 1] fun c g => c = 0 ∧ g = [.l (serL (fOf m) top.toNat).1, .l (serL (fOf m) top.toNat).2] := by
  have r := count_runs (st := st_log_Serials_15) (σ := List (List G) × List (List G)) (fun s i => [.l m, .i (k : Int), .l s.1, .l s.2, .i top, .i ((i : Int) + 1)]) top.toNat (fun s => (0, [.l s.1, .l s.2])) (fun s i => s = serL (fOf m) i) (fun _ _ => False)
    (fun s i hs hi => by
      have hk := serL_ok (fOf m) i
      have hx : Ret (st_log_Serials_15 [.l m, .i (k : Int), .l s.1, .l s.2, .i top, .i ((i : Int) + 1)]) _ := serRound m s.1 s.2 k i top ((i : Int) + 1) (by omega) (by omega) (by omega) (hf _) (by rw [hs]; exact hk) (by omega)
      refine hx.mono ?_
      rintro _ rfl
      exact .inl ⟨serL (fOf m) (i + 1), by rw [hs]; rfl, rfl⟩)
    (fun s hs => by
      have e : ((top.toNat : Int) + 1) = top + 1 := by omega
      unfold st_log_Serials_15
      (dsimp +instances only [gi0,gis,row1,rows1,int1,str1,bool1])
      simp only [e]
      (repeat(first|(refine Ret.pos ?_ ?_;(first|rfl|assumption|(simp only [inI,sl]<;>omega)))|(refine Ret.neg ?_ ?_;(first|rfl|assumption|(simp only [inI,sl]<;>omega)))))
      exact Ret.some rfl)
    top.toNat ([], []) 0 (by omega) rfl
  refine (r.to (by omega)).mono ?_
  rintro c g (⟨s, rfl, rfl, rfl⟩ | h)
  · exact ⟨rfl, rfl⟩
  · exact h.elim
theorem ser_loop' (m : List (List G)) (k : Nat) (top : Int) (h0 : 0 ≤ top) (h1 : top ≤ 99999) (hf : ∀ n, 0 ≤ fOf m n) :
    RetL st_pileref2_SerialsOf_12 [.l m, .i (k : Int), .l [], .l [], .i top, .i 1] fun c g => c = 0 ∧ g = [.l (serL (fOf m) top.toNat).1, .l (serL (fOf m) top.toNat).2] := by
  have r := count_runs (st := st_pileref2_SerialsOf_12) (σ := List (List G) × List (List G)) (fun s i => [.l m, .i (k : Int), .l s.1, .l s.2, .i top, .i ((i : Int) + 1)]) top.toNat (fun s => (0, [.l s.1, .l s.2])) (fun s i => s = serL (fOf m) i) (fun _ _ => False)
    (fun s i hs hi => by
      have hk := serL_ok (fOf m) i
      have hx : Ret (st_pileref2_SerialsOf_12 [.l m, .i (k : Int), .l s.1, .l s.2, .i top, .i ((i : Int) + 1)]) _ := serRound' m s.1 s.2 k i top ((i : Int) + 1) (by omega) (by omega) (by omega) (hf _) (by rw [hs]; exact hk) (by omega)
      refine hx.mono ?_
      rintro _ rfl
      exact .inl ⟨serL (fOf m) (i + 1), by rw [hs]; rfl, rfl⟩)
    (fun s hs => by
      have e : ((top.toNat : Int) + 1) = top + 1 := by omega
      unfold st_pileref2_SerialsOf_12
      (dsimp +instances only [gi0,gis,row1,rows1,int1,str1,bool1])
      simp only [e]
      (repeat(first|(refine Ret.pos ?_ ?_;(first|rfl|assumption|(simp only [inI,sl]<;>omega)))|(refine Ret.neg ?_ ?_;(first|rfl|assumption|(simp only [inI,sl]<;>omega)))))
      exact Ret.some rfl)
    top.toNat ([], []) 0 (by omega) rfl
  refine (r.to (by omega)).mono ?_
  rintro c g (⟨s, rfl, rfl, rfl⟩ | h)
  · exact ⟨rfl, rfl⟩
  · exact h.elim

theorem RetL.det {st : List G → Option (Option Nat × List G)} {d : List G} {Q : Nat → List G → Prop} (h : RetL st d Q) : ∃ c g, Q c g ∧ RetL st d fun x y => x = c ∧ y = g := by
  obtain ⟨n, x, d', h1, h2, h3⟩ := h
  exact ⟨x, d', h3, n, x, d', h1, h2, rfl, rfl⟩

/-- The numbers of a right log: what both say. -/
theorem serials_ok (l : List (List G)) (hC : ∀ z ∈ l, Con z) (hf : faultLog l = 0) (hn : l.length < 90000) : ∃ rows tw, (∀ r ∈ rows, ∃ a b, r = [.i a, .i b]) ∧ (∀ r ∈ tw, ∃ a, r = [.i a]) ∧ rows.length ≤ 99999 ∧ tw.length ≤ 99999 ∧
    F_log_Serials [.l l] = some [.l rows, .l tw, .i 0] ∧ F_pileref2_SerialsOf [.l l] = some [.l rows, .l tw] := by
  have hl : ∀ z ∈ l, 0 ≤ (gi z 4).int ∧ (gi z 4).int ≤ 99999 := fun z hz => (faultC_zero (faultLog_all hf z hz)).2.2.1
  obtain ⟨c, g, ⟨rfl, m, k, top, rfl, h0, h1, hm⟩, hr⟩ := RetL.det (count_ok l hl hn)
  have hr' : RetL st_pileref2_SerialsOf_4 _ _ := hr
  have hk := serL_ok (fOf m) top.toNat
  refine ⟨(serL (fOf m) top.toNat).1, (serL (fOf m) top.toNat).2, fun r hr => ?_, hk.r2, by have := hk.l1; omega, by have := hk.l2; omega, Ret.toEq ?_, Ret.toEq ?_⟩
  · obtain ⟨a, b, e, _⟩ := hk.r1 r hr
    exact ⟨a, b, e⟩
  · unfold F_log_Serials
    (dsimp +instances only [gi0,gis,row1,rows1,int1,str1,bool1])
    refine Ret.call (Ret.eq (checkLog_eq l hC (by omega))) ?_
    rintro _ rfl
    (dsimp +instances only [gi0,gis,row1,rows1,int1,str1,bool1])
    rw [hf]
    refine Ret.neg rfl ?_
    refine Ret.loop hr rfl ?_
    rintro _ _ ⟨rfl, rfl⟩
    (dsimp +instances only [gi0,gis,row1,rows1,int1,str1,bool1])
    simp only [Int.toNat_natCast]
    refine Ret.loop (ser_loop m k top h0 h1 fun n => (hm n).1) rfl ?_
    rintro _ _ ⟨rfl, rfl⟩
    (dsimp +instances only [gi0,gis,row1,rows1,int1,str1,bool1])
    (repeat(first|(refine Ret.pos ?_ ?_;(first|rfl|assumption|(simp only [inI,sl]<;>omega)))|(refine Ret.neg ?_ ?_;(first|rfl|assumption|(simp only [inI,sl]<;>omega)))))
    exact Ret.some rfl
  · unfold F_pileref2_SerialsOf
    (dsimp +instances only [gi0,gis,row1,rows1,int1,str1,bool1])
    refine Ret.loop hr' rfl ?_
    rintro _ _ ⟨rfl, rfl⟩
    (dsimp +instances only [gi0,gis,row1,rows1,int1,str1,bool1])
    simp only [Int.toNat_natCast]
    refine Ret.loop (ser_loop' m k top h0 h1 fun n => (hm n).1) rfl ?_
    rintro _ _ ⟨rfl, rfl⟩
    (dsimp +instances only [gi0,gis,row1,rows1,int1,str1,bool1])
    (repeat(first|(refine Ret.pos ?_ ?_;(first|rfl|assumption|(simp only [inI,sl]<;>omega)))|(refine Ret.neg ?_ ?_;(first|rfl|assumption|(simp only [inI,sl]<;>omega)))))
    exact Ret.some rfl

end Go.Proofs.SYtpfhjchbegdgdaaGreatDoor

namespace Go.Proofs.SYtpfhjchbegdgdaaGreatDoor
open Go Go.AL Go.Proofs

/-- A row of the kinds of a contact. -/
def Row8 (r : List G) : Prop := ∃ (t m : Int) (b c : ByteArray) (s h : Int) (x y : ByteArray), r = [.i t, .i m, .s b, .s c, .i s, .i h, .s x, .s y]
theorem Con.row {r : List G} (h : Con r) : Row8 r := by
  obtain ⟨t, m, b, c, s, h, x, y, e, _⟩ := h
  exact ⟨t, m, b, c, s, h, x, y, e⟩
theorem Row8.eta {r : List G} (h : Row8 r) : gEta KContact r = r := by
  obtain ⟨t, m, b, c, s, h, x, y, rfl⟩ := h
  rfl
theorem Row8.put {r : List G} (h : Row8 r) (n : Int) : Row8 (putG KContact r 4 [.i n]) := by
  obtain ⟨t, m, b, c, s, h, x, y, rfl⟩ := h
  exact ⟨t, m, b, c, n, h, x, y, rfl⟩
theorem kds8 : Kds KContact Row8 := ⟨fun _ h => h.eta⟩

theorem renum_loop (l : List (List G)) (hC : ∀ z ∈ l, Con z) (hn : l.length < 90000) (from0 : Int) (h0 : 1 ≤ from0) (h1 : from0 ≤ 99999) :
    RetL st_log_Renumber_8 [.l l, .i from0, .i (l.length : Int), .i 0] fun c g => c = 0 ∧ ∃ rows, g = [.l rows] ∧ (∀ r ∈ rows, Row8 r) ∧ rows.length = l.length := by
  have r := count_runs (st := st_log_Renumber_8) (σ := List (List G)) (fun s i => [.l s, .i from0, .i (l.length : Int), .i (i : Int)]) l.length (fun s => (0, [.l s])) (fun s _ => s.length = l.length ∧ ∀ r ∈ s, Row8 r) (fun _ _ => False)
    (fun s i hs hi => by
      obtain ⟨hl, hr⟩ := hs
      unfold st_log_Renumber_8
      (dsimp +instances only [gi0,gis,row1,rows1,int1,str1,bool1])
      simp only [Int.toNat_natCast, Nat.zero_add]
      (repeat(first|(refine Ret.pos ?_ ?_;(first|rfl|assumption|(simp only [inI,sl]<;>omega)))|(refine Ret.neg ?_ ?_;(first|rfl|assumption|(simp only [inI,sl]<;>omega)))))
      refine Ret.some (.inl ⟨s.set i (putG KContact (s.getD i []) 4 [.i (from0 + i)]), rfl, by simp [hl], fun r hr' => ?_⟩)
      rcases List.mem_or_eq_of_mem_set hr' with h | rfl
      · exact hr r h
      · exact (hr _ (getD_row (by omega))).put _)
    (fun s hs => by
      unfold st_log_Renumber_8
      (dsimp +instances only [gi0,gis,row1,rows1,int1,str1,bool1])
      (repeat(first|(refine Ret.pos ?_ ?_;(first|rfl|assumption|(simp only [inI,sl]<;>omega)))|(refine Ret.neg ?_ ?_;(first|rfl|assumption|(simp only [inI,sl]<;>omega)))))
      exact Ret.some rfl)
    l.length l 0 (by omega) ⟨rfl, fun r hr => (hC r hr).row⟩
  refine (r.to (by omega)).mono ?_
  rintro c g (⟨s, ⟨h2, h3⟩, rfl, rfl⟩ | h)
  · exact ⟨rfl, s, rfl, h3, h2⟩
  · exact h.elim

theorem renumber_ok (l : List (List G)) (hC : ∀ z ∈ l, Con z) (hf : faultLog l = 0) (hn : l.length < 90000) (from0 : Int) (h0 : -200000 ≤ from0) (h1 : from0 ≤ 200000) :
    ∃ rows e, (∀ r ∈ rows, Row8 r) ∧ rows.length < 100000 ∧ F_log_Renumber [.l l, .i from0] = some [.l rows, .i e] ∧ F_pileref2_RenumberOf [.l l, .i from0] = some [.l rows, .i e] := by
  cases ho : inB from0 1 99999 with
  | false =>
    refine ⟨[], 1, by simp, by simp, Ret.toEq ?_, Ret.toEq ?_⟩
    · unfold F_log_Renumber
      (dsimp +instances only [gi0,gis,row1,rows1,int1,str1,bool1])
      refine Ret.call (Ret.eq (checkLog_eq l hC (by omega))) ?_
      rintro _ rfl
      (dsimp +instances only [gi0,gis,row1,rows1,int1,str1,bool1])
      rw [hf]
      refine Ret.neg rfl ?_
      refine Ret.call (Ret.eq (outside_eq _ _ _)) ?_
      rintro _ rfl
      (dsimp +instances only [gi0,gis,row1,rows1,int1,str1,bool1])
      exact Ret.pos (by rw [ho]; rfl) (Ret.some rfl)
    · unfold F_pileref2_RenumberOf
      (dsimp +instances only [gi0,gis,row1,rows1,int1,str1,bool1])
      refine Ret.call (Ret.eq (in_eq _ _ _)) ?_
      rintro _ rfl
      (dsimp +instances only [gi0,gis,row1,rows1,int1,str1,bool1])
      exact Ret.pos (by rw [ho]; rfl) (Ret.some rfl)
  | true =>
    obtain ⟨q0, q1⟩ := inB_iff ho
    by_cases hx : 99999 < from0 + (l.length : Int) - 1
    · refine ⟨[], 1, by simp, by simp, Ret.toEq ?_, Ret.toEq ?_⟩
      · unfold F_log_Renumber
        (dsimp +instances only [gi0,gis,row1,rows1,int1,str1,bool1])
        refine Ret.call (Ret.eq (checkLog_eq l hC (by omega))) ?_
        rintro _ rfl
        (dsimp +instances only [gi0,gis,row1,rows1,int1,str1,bool1])
        rw [hf]
        refine Ret.neg rfl ?_
        refine Ret.call (Ret.eq (outside_eq _ _ _)) ?_
        rintro _ rfl
        (dsimp +instances only [gi0,gis,row1,rows1,int1,str1,bool1])
        refine Ret.neg (by rw [ho]; rfl) ?_
        (repeat(first|(refine Ret.pos ?_ ?_;(first|rfl|assumption|(simp only [inI,sl]<;>omega)))|(refine Ret.neg ?_ ?_;(first|rfl|assumption|(simp only [inI,sl]<;>omega)))))
        exact Ret.some rfl
      · unfold F_pileref2_RenumberOf
        (dsimp +instances only [gi0,gis,row1,rows1,int1,str1,bool1])
        refine Ret.call (Ret.eq (in_eq _ _ _)) ?_
        rintro _ rfl
        (dsimp +instances only [gi0,gis,row1,rows1,int1,str1,bool1])
        refine Ret.neg (by rw [ho]; rfl) ?_
        (repeat(first|(refine Ret.pos ?_ ?_;(first|rfl|assumption|(simp only [inI,sl]<;>omega)))|(refine Ret.neg ?_ ?_;(first|rfl|assumption|(simp only [inI,sl]<;>omega)))))
        exact Ret.some rfl
    · obtain ⟨c, g, ⟨rfl, rows, rfl, h2, h3⟩, hr⟩ := RetL.det (renum_loop l hC hn from0 q0 q1)
      have hr' : RetL st_pileref2_RenumberOf_5 _ _ := hr
      refine ⟨rows, 0, h2, by omega, Ret.toEq ?_, Ret.toEq ?_⟩
      · unfold F_log_Renumber
        (dsimp +instances only [gi0,gis,row1,rows1,int1,str1,bool1])
        refine Ret.call (Ret.eq (checkLog_eq l hC (by omega))) ?_
        rintro _ rfl
        (dsimp +instances only [gi0,gis,row1,rows1,int1,str1,bool1])
        rw [hf]
        refine Ret.neg rfl ?_
        refine Ret.call (Ret.eq (outside_eq _ _ _)) ?_
        rintro _ rfl
        (dsimp +instances only [gi0,gis,row1,rows1,int1,str1,bool1])
        refine Ret.neg (by rw [ho]; rfl) ?_
        (repeat(first|(refine Ret.pos ?_ ?_;(first|rfl|assumption|(simp only [inI,sl]<;>omega)))|(refine Ret.neg ?_ ?_;(first|rfl|assumption|(simp only [inI,sl]<;>omega)))))
        refine Ret.call (Ret.eq (cloneF_ok l (by omega))) ?_
        rintro _ rfl
        (dsimp +instances only [gi0,gis,row1,rows1,int1,str1,bool1])
        refine Ret.loop hr (by (first|rfl|assumption|(simp only [inI,sl]<;>omega))) ?_
        rintro _ _ ⟨rfl, rfl⟩
        (dsimp +instances only [gi0,gis,row1,rows1,int1,str1,bool1])
        (repeat(first|(refine Ret.pos ?_ ?_;(first|rfl|assumption|(simp only [inI,sl]<;>omega)))|(refine Ret.neg ?_ ?_;(first|rfl|assumption|(simp only [inI,sl]<;>omega)))))
        exact Ret.some rfl
      · unfold F_pileref2_RenumberOf
        (dsimp +instances only [gi0,gis,row1,rows1,int1,str1,bool1])
        refine Ret.call (Ret.eq (in_eq _ _ _)) ?_
        rintro _ rfl
        (dsimp +instances only [gi0,gis,row1,rows1,int1,str1,bool1])
        refine Ret.neg (by rw [ho]; rfl) ?_
        (repeat(first|(refine Ret.pos ?_ ?_;(first|rfl|assumption|(simp only [inI,sl]<;>omega)))|(refine Ret.neg ?_ ?_;(first|rfl|assumption|(simp only [inI,sl]<;>omega)))))
        refine Ret.call (Ret.eq (cloneF_ok l (by omega))) ?_
        rintro _ rfl
        (dsimp +instances only [gi0,gis,row1,rows1,int1,str1,bool1])
        refine Ret.loop hr' (by (first|rfl|assumption|(simp only [inI,sl]<;>omega))) ?_
        rintro _ _ ⟨rfl, rfl⟩
        (dsimp +instances only [gi0,gis,row1,rows1,int1,str1,bool1])
        (repeat(first|(refine Ret.pos ?_ ?_;(first|rfl|assumption|(simp only [inI,sl]<;>omega)))|(refine Ret.neg ?_ ?_;(first|rfl|assumption|(simp only [inI,sl]<;>omega)))))
        exact Ret.some rfl

/-! ### Duplicates -/

def baseOf (s : ByteArray) : ByteArray := (gi ((F_call_BaseOf [.s s]).getD []) 0).str
theorem base_eq {s : ByteArray} (h : s ∈ calls) : F_call_BaseOf [.s s] = some [.s (baseOf s)] := by
  simp only [calls, List.mem_cons, List.not_mem_nil, or_false] at h
  rcases h with (rfl | rfl | rfl | rfl | rfl | rfl | rfl | rfl | rfl | rfl | rfl | rfl | rfl | rfl) <;> kernel_rfl
theorem baseRef_eq {s : ByteArray} (h : s ∈ calls) : F_pileref2_BaseOf [.s s] = some [.s (baseOf s)] := by
  simp only [calls, List.mem_cons, List.not_mem_nil, or_false] at h
  rcases h with (rfl | rfl | rfl | rfl | rfl | rfl | rfl | rfl | rfl | rfl | rfl | rfl | rfl | rfl) <;> kernel_rfl

abbrev K3 : List Kd := [.str, .str, .int .i64]
/-- Who was worked, on which band, in which mode. -/
def wk (y : List G) : List G := [.s (baseOf (gi y 3).str), .s (gi y 2).str, .i (gi y 1).int]
def dupB (l : List (List G)) (i : Nat) : Bool := (l.take i).any fun y => rowEq K3 (wk (l.getD i [])) (wk y)
def dupL (l : List (List G)) : Nat → List (List G)
  | 0 => []
  | i + 1 => dupL l i ++ bif dupB l i then [[.i (i : Int)]] else []
theorem dupL_length (l : List (List G)) : ∀ i, (dupL l i).length ≤ i
  | 0 => Nat.le_refl _
  | i + 1 => by
    have := dupL_length l i
    simp only [dupL, List.length_append]
    cases dupB l i <;> simp <;> omega
theorem dupL_row (l : List (List G)) : ∀ i, ∀ r ∈ dupL l i, ∃ a, r = [.i a]
  | 0, r, h => by cases h
  | i + 1, r, h => by
    simp only [dupL] at h
    rcases List.mem_append.1 h with h | h
    · exact dupL_row l i r h
    · cases hb : dupB l i with
      | true => rw [hb] at h; simp at h; exact ⟨_, h⟩
      | false => rw [hb] at h; simp at h

theorem dupes_ok (l : List (List G)) (hC : ∀ z ∈ l, Con z) (hn : l.length < 90000) : F_log_dupes [.l l] = some [.l (dupL l l.length)] := by
  refine Ret.toEq ?_
  unfold F_log_dupes
  (dsimp +instances only [gi0,gis,row1,rows1,int1,str1,bool1])
  have r := range_all (st := st_log_dupes_4) (σ := List (List G) × Nat × List (List G)) (fun s i => [.l s.1, .i (s.2.1 : Int), .l s.2.2, .l l, .i (l.length : Int), .i (i : Int)]) l (fun s => (0, [.l s.2.2]))
    (fun s i => (∀ key, (gi (mget K3 s.1 key [.t false]) 0).bool = (l.take i).any fun y => rowEq K3 key (wk y)) ∧ s.2.2 = dupL l i) ([], 0, []) (by omega) ⟨fun key => by simp [mget_nil]; rfl, rfl⟩
    (fun s i x hI hi hx hm ht => by
      obtain ⟨hs, hd⟩ := hI
      have hc : (gi x 3).str ∈ calls := by
        obtain ⟨t, m, b, c, s, h, x', y', rfl, _, _, _, _, _, hc, _⟩ := hC x hm
        exact hc
      have hl := dupL_length l i
      rw [← hd] at hl
      have hk : (gi (mget K3 s.1 [.s (baseOf (gi x 3).str), .s (gi x 2).str, .i (gi x 1).int] [.t false]) 0).bool = dupB l i := by
        rw [hs]
        unfold dupB
        rw [hx]
        rfl
      unfold st_log_dupes_4
      (dsimp +instances only [gi0,gis,row1,rows1,int1,str1,bool1])
      simp only [Int.toNat_natCast, hx]
      refine Ret.pos (by (first|rfl|assumption|(simp only [inI,sl]<;>omega))) (Ret.pos (by (first|rfl|assumption|(simp only [inI,sl]<;>omega))) ?_)
      refine Ret.call (Ret.eq (base_eq hc)) ?_
      rintro _ rfl
      (dsimp +instances only [gi0,gis,row1,rows1,int1,str1,bool1])
      have upd : ∀ key, (gi (mget K3 (mput K3 s.1 (wk x) [.t true] s.2.1) key [.t false]) 0).bool = (l.take (i + 1)).any fun y => rowEq K3 key (wk y) := fun key => by
        rw [mget_mput, ht, List.any_append, ← hs key]
        cases hk : rowEq K3 key (wk x) <;> simp [hk, gi0, bool1]
      refine Ret.test (fun h => ?_) fun h => ?_
      · have hb : dupB l i = true := hk ▸ h
        (repeat(first|(refine Ret.pos ?_ ?_;(first|rfl|assumption|(simp only [inI,sl]<;>omega)))|(refine Ret.neg ?_ ?_;(first|rfl|assumption|(simp only [inI,sl]<;>omega)))))
        exact Ret.some ⟨(mput K3 s.1 (wk x) [.t true] s.2.1, mclk K3 s.1 (wk x) s.2.1, s.2.2 ++ [[.i (i : Int)]]), rfl, upd, by simp only [dupL, hb, hd, cond_true]⟩
      · have hb : dupB l i = false := hk ▸ h
        (repeat(first|(refine Ret.pos ?_ ?_;(first|rfl|assumption|(simp only [inI,sl]<;>omega)))|(refine Ret.neg ?_ ?_;(first|rfl|assumption|(simp only [inI,sl]<;>omega)))))
        exact Ret.some ⟨(mput K3 s.1 (wk x) [.t true] s.2.1, mclk K3 s.1 (wk x) s.2.1, s.2.2), rfl, upd, by simp only [dupL, hb, hd, cond_false, List.append_nil]⟩)
    (fun s hI => by
      unfold st_log_dupes_4
      (dsimp +instances only [gi0,gis,row1,rows1,int1,str1,bool1])
      (repeat(first|(refine Ret.pos ?_ ?_;(first|rfl|assumption|(simp only [inI,sl]<;>omega)))|(refine Ret.neg ?_ ?_;(first|rfl|assumption|(simp only [inI,sl]<;>omega)))))
      exact Ret.some rfl)
  refine Ret.loop r rfl ?_
  rintro c g ⟨⟨m, k, out⟩, ⟨_, rfl⟩, rfl, rfl⟩
  (dsimp +instances only [gi0,gis,row1,rows1,int1,str1,bool1])
  (repeat(first|(refine Ret.pos ?_ ?_;(first|rfl|assumption|(simp only [inI,sl]<;>omega)))|(refine Ret.neg ?_ ?_;(first|rfl|assumption|(simp only [inI,sl]<;>omega)))))
  exact Ret.some rfl

theorem sameW_eq {o c : List G} (ho : Con o) (hc : Con c) : F_pileref2_DupesOf_1 [.l [o], .l [c]] = some [.t (rowEq K3 (wk c) (wk o))] := by
  have h1 : (gi o 3).str ∈ calls := by
    obtain ⟨t, m, b, c, s, h, x', y', rfl, _, _, _, _, _, hc, _⟩ := ho
    exact hc
  have h2 : (gi c 3).str ∈ calls := by
    obtain ⟨t, m, b, c, s, h, x', y', rfl, _, _, _, _, _, hc, _⟩ := hc
    exact hc
  have e : rowEq K3 (wk c) (wk o) = ((baseOf (gi o 3).str).toList == (baseOf (gi c 3).str).toList && ((gi o 2).str.toList == (gi c 2).str.toList && ((gi o 1).int == (gi c 1).int && true))) := by
    rw [rowEq_symm]
    rfl
  unfold F_pileref2_DupesOf_1
  (dsimp +instances only [gi0,gis,row1,rows1,int1,str1,bool1])
  rw [baseRef_eq h1, baseRef_eq h2, e]
  simp only [callF_some rfl]
  (dsimp +instances only [gi0,gis,row1,rows1,int1,str1,bool1])
  cases (baseOf (gi o 3).str).toList == (baseOf (gi c 3).str).toList <;> cases (gi o 2).str.toList == (gi c 2).str.toList <;> cases (gi o 1).int == (gi c 1).int <;> rfl

theorem prdDup {c : List G} (hc : Con c) : Prd KContact F_pileref2_DupesOf_1 (fun g => .l [gEta KContact g.row]) (.l [c]) Con (fun o => rowEq K3 (wk c) (wk o)) :=
  ⟨fun _ ho => sameW_eq ho hc, fun _ h => h.eta, by rw [row1, hc.eta]⟩

theorem containsDup (l : List (List G)) {c : List G} (hl : ∀ z ∈ l, Con z) (hc : Con c) (hn : l.length < 100000) : F_slices_ContainsFunc_Contact [.l l, .l [c]] = some [.t (l.any fun o => rowEq K3 (wk c) (wk o))] := by
  refine Ret.toEq ?_
  unfold F_slices_ContainsFunc_Contact
  (dsimp +instances only [gi0,gis,row1,rows1,int1,str1,bool1])
  rw [hc.eta]
  refine Ret.call (P := fun g => g = [.i (gi g 0).int] ∧ leI 0 (gi g 0).int = l.any fun o => rowEq K3 (wk c) (wk o)) ?_ ?_
  · refine Ret.mono (indexfF_eq (Z := zC) (prdDup hc) l hl hn : Ret (F_slices_IndexFunc_Contact_2 [.l l, .l [c]]) _) ?_
    rintro g (⟨q1, x, q2, h1, h2, h3, rfl⟩ | ⟨h, rfl⟩)
    · refine ⟨rfl, ?_⟩
      rw [h1]
      simp [leI_eq, h3, gi0, int1]
    · refine ⟨rfl, ?_⟩
      have : (l.any fun o => rowEq K3 (wk c) (wk o)) = false := by
        rw [List.any_eq_false]
        intro y hy
        rw [h y hy]
        simp
      rw [this]
      rfl
  · rintro g ⟨_, h⟩
    rw [← h]
    exact Ret.some rfl

theorem dupesOf_ok (l : List (List G)) (hC : ∀ z ∈ l, Con z) (hn : l.length < 90000) : F_pileref2_DupesOf [.l l] = some [.l (dupL l l.length)] := by
  refine Ret.toEq ?_
  unfold F_pileref2_DupesOf
  (dsimp +instances only [gi0,gis,row1,rows1,int1,str1,bool1])
  have r := range_all (st := st_pileref2_DupesOf_3) (σ := List (List G)) (fun s i => [.l s, .l l, .l l, .i (l.length : Int), .i (i : Int)]) l (fun s => (0, [.l s]))
    (fun s i => s = dupL l i) [] (by omega) rfl
    (fun s i x hd hi hx hm ht => by
      have hl := dupL_length l i
      rw [← hd] at hl
      have hc := hC x hm
      unfold st_pileref2_DupesOf_3
      (dsimp +instances only [gi0,gis,row1,rows1,int1,str1,bool1])
      simp only [Int.toNat_natCast, hx, hc.eta]
      refine Ret.pos (by (first|rfl|assumption|(simp only [inI,sl]<;>omega))) (Ret.pos (by (first|rfl|assumption|(simp only [inI,sl]<;>omega))) (Ret.pos (by (first|rfl|assumption|(simp only [inI,sl]<;>omega))) ?_))
      refine Ret.call (Ret.eq (containsDup (l.take i) (fun z hz => hC z (List.mem_of_mem_take hz)) hc (by simp; omega))) ?_
      rintro _ rfl
      (dsimp +instances only [gi0,gis,row1,rows1,int1,str1,bool1])
      refine Ret.test (fun h => ?_) fun h => ?_
      · have hb : dupB l i = true := by unfold dupB; rw [hx]; exact h
        (repeat(first|(refine Ret.pos ?_ ?_;(first|rfl|assumption|(simp only [inI,sl]<;>omega)))|(refine Ret.neg ?_ ?_;(first|rfl|assumption|(simp only [inI,sl]<;>omega)))))
        exact Ret.some ⟨s ++ [[.i (i : Int)]], rfl, by simp only [dupL, hb, hd, cond_true]⟩
      · have hb : dupB l i = false := by unfold dupB; rw [hx]; exact h
        (repeat(first|(refine Ret.pos ?_ ?_;(first|rfl|assumption|(simp only [inI,sl]<;>omega)))|(refine Ret.neg ?_ ?_;(first|rfl|assumption|(simp only [inI,sl]<;>omega)))))
        exact Ret.some ⟨s, rfl, by simp only [dupL, hb, hd, cond_false, List.append_nil]⟩)
    (fun s hI => by
      unfold st_pileref2_DupesOf_3
      (dsimp +instances only [gi0,gis,row1,rows1,int1,str1,bool1])
      (repeat(first|(refine Ret.pos ?_ ?_;(first|rfl|assumption|(simp only [inI,sl]<;>omega)))|(refine Ret.neg ?_ ?_;(first|rfl|assumption|(simp only [inI,sl]<;>omega)))))
      exact Ret.some rfl)
  refine Ret.loop r rfl ?_
  rintro c g ⟨s, rfl, rfl, rfl⟩
  (dsimp +instances only [gi0,gis,row1,rows1,int1,str1,bool1])
  (repeat(first|(refine Ret.pos ?_ ?_;(first|rfl|assumption|(simp only [inI,sl]<;>omega)))|(refine Ret.neg ?_ ?_;(first|rfl|assumption|(simp only [inI,sl]<;>omega)))))
  exact Ret.some rfl

end Go.Proofs.SYtpfhjchbegdgdaaGreatDoor

namespace Go.Proofs.SYtpfhjchbegdgdaaGreatDoor
open Go Go.AL Go.Proofs

theorem eta2 (a b : Int) (r : List G) : gEta [.int .i64, .int .i64] (.i a :: .i b :: r) = [.i a, .i b] := rfl

def has (a b t : Int) : Bool := leI a t && ltI t b
theorem has_eq (a b t : Int) : F_kit_Has [.l [[.i a, .i b]], .i t] = some [.t (has a b t)] := by
  unfold F_kit_Has has
  (dsimp +instances only [gi0,gis,row1,rows1,int1,str1,bool1])
  cases leI a t <;> rfl
theorem has_iff {a b t : Int} (h : has a b t = true) : a ≤ t ∧ t < b := by
  simpa only [has, leI_eq, ltI_eq, Bool.and_eq_true, decide_eq_true_eq] using h
def okW (a b : Int) : Bool := inB a 0 b && leI b 345686400000
theorem isWindow_eq (a b : Int) : F_kit_IsWindow [.l [[.i a, .i b]]] = some [.t (okW a b)] := by
  unfold F_kit_IsWindow okW
  (dsimp +instances only [gi0,gis,row1,rows1,int1,str1,bool1])
  rw [outside_eq]
  simp only [callF_some rfl]
  (dsimp +instances only [gi0,gis,row1,rows1,int1,str1,bool1])
  cases inB a 0 b <;> rfl
theorem okW_iff {a b : Int} (h : okW a b = true) : 0 ≤ a ∧ a ≤ b ∧ b ≤ 345686400000 := by
  simp only [okW, inB, leI_eq, Bool.and_eq_true, decide_eq_true_eq] at h
  exact ⟨h.1.1, h.1.2, h.2⟩
theorem windowFault_eq (a b : Int) : F_pileref2_WindowFault [.l [[.i a, .i b]]] = some [.i (bif okW a b then 0 else 1)] := by
  have h2 : ltI 345686400000 b = !leI b 345686400000 := by rw [ltI_eq, leI_eq, Bool.eq_iff_iff]; simp
  unfold F_pileref2_WindowFault okW
  (dsimp +instances only [gi0,gis,row1,rows1,int1,str1,bool1])
  rw [in_eq, h2]
  simp only [callF_some rfl]
  (dsimp +instances only [gi0,gis,row1,rows1,int1,str1,bool1])
  cases inB a 0 b <;> cases leI b 345686400000 <;> rfl
theorem when_eq (b : Bool) (e : Int) : F_pilelaw2_when [.t b, .i e] = some [.i (bif b then e else 0)] := by
  unfold F_pilelaw2_when
  (dsimp +instances only [gi0,gis,row1,rows1,int1,str1,bool1])
  cases b <;> rfl

def firstE : List Int → Int
  | [] => 0
  | x :: q => bif x != 0 then x else firstE q
theorem errs_runs : ∀ (q p : List (List G)) (xs : List Int), q = xs.map (fun x => [G.i x]) → p.length + q.length < 100000 →
    RetN st_pilelaw2_errs_2 [.l (p ++ q), .i ((p.length + q.length : Nat) : Int), .i (p.length : Int)] (q.length + 1) fun c g => (c = 0 ∧ g = [.i (firstE xs)]) ∨ c = 1 ∧ firstE xs = 0
  | [], p, xs, hq, hl => by
    have : xs = [] := by
      cases xs with
      | nil => rfl
      | cons x xs => simp at hq
    subst this
    refine RetN.stop (x := 1) (d' := []) (Ret.toEq ?_) (.inr ⟨rfl, rfl⟩)
    unfold st_pilelaw2_errs_2
    (dsimp +instances only [gi0,gis,row1,rows1,int1,str1,bool1])
    (repeat(first|(refine Ret.pos ?_ ?_;(first|rfl|assumption|(simp only [inI,sl]<;>omega)))|(refine Ret.neg ?_ ?_;(first|rfl|assumption|(simp only [inI,sl]<;>omega)))))
    exact Ret.some rfl
  | y :: q, p, xs, hq, hl => by
    match xs, hq with
    | x :: xs, hq2 =>
      have h := hq2
      simp only [List.map_cons, List.cons.injEq] at h
      obtain ⟨rfl, hq3⟩ := h
      simp only [List.length_cons] at hl
      have g1 : (p ++ [.i x] :: q).getD (p.length : Int).toNat [] = [.i x] := getD_mid _ _ _ _ _ (by simp)
      have hlen : (p ++ [.i x] :: q).length = p.length + q.length + 1 := by simp; omega
      by_cases hx : x = 0
      · have ih := errs_runs q (p ++ [[.i x]]) xs hq3 (by simp; omega)
        subst hx
        have e : firstE (0 :: xs) = firstE xs := rfl
        rw [e]
        refine RetN.next (Ret.toEq ?_) ih
        unfold st_pilelaw2_errs_2
        (dsimp +instances only [gi0,gis,row1,rows1,int1,str1,bool1])
        simp only [g1, hlen, List.length_cons]
        (dsimp +instances only [gi0,gis,row1,rows1,int1,str1,bool1])
        (repeat(first|(refine Ret.pos ?_ ?_;(first|rfl|assumption|(simp only [inI,sl]<;>omega)))|(refine Ret.neg ?_ ?_;(first|rfl|assumption|(simp only [inI,sl]<;>omega)))))
        refine Ret.some ?_
        simp
        omega
      · have hb : (x != 0) = true := by simpa using hx
        refine RetN.stop (x := 0) (d' := [.i x]) (Ret.toEq ?_) (.inl ⟨rfl, by simp only [firstE, hb, cond_true]⟩)
        unfold st_pilelaw2_errs_2
        (dsimp +instances only [gi0,gis,row1,rows1,int1,str1,bool1])
        simp only [g1, hlen, List.length_cons]
        (dsimp +instances only [gi0,gis,row1,rows1,int1,str1,bool1])
        refine Ret.pos (by (first|rfl|assumption|(simp only [inI,sl]<;>omega))) (Ret.pos (by (first|rfl|assumption|(simp only [inI,sl]<;>omega))) (Ret.pos hb (Ret.some rfl)))
theorem errs_eq (xs : List Int) (h : xs.length < 1000) : F_pilelaw2_errs [.l (xs.map fun x => [.i x])] = some [.i (firstE xs)] := by
  refine Ret.toEq ?_
  unfold F_pilelaw2_errs
  (dsimp +instances only [gi0,gis,row1,rows1,int1,str1,bool1])
  have h1 := errs_runs (xs.map fun x => [G.i x]) [] xs rfl (by simp; omega)
  have h0 : ((0 : Nat) : Int) = 0 := rfl
  simp only [List.nil_append, List.length_nil, Nat.zero_add, h0] at h1
  refine Ret.loop (h1.to (by simp; omega)) rfl ?_
  rintro c g (⟨rfl, rfl⟩ | ⟨rfl, h⟩)
  · exact Ret.some rfl
  · exact Ret.some (by rw [h])

/-! ### Pauses -/

def put1 (least : Int) (s : List (List G) × Int) (to : Int) : List (List G) := if least ≤ to - s.2 then s.1 ++ [[.i s.2, .i to]] else s.1
def pauseL (l : List (List G)) (a b least : Int) : Nat → List (List G) × Int
  | 0 => ([], a)
  | i + 1 => bif has a b (gi (l.getD i []) 0).int then (put1 least (pauseL l a b least i) (gi (l.getD i []) 0).int, (gi (l.getD i []) 0).int + 1) else pauseL l a b least i

structure PauseOK (s : List (List G) × Int) (i : Nat) : Prop where
  len : s.1.length ≤ i
  rows : ∀ r ∈ s.1, ∃ a b, r = [.i a, .i b]
  at0 : 0 ≤ s.2
  at1 : s.2 ≤ 345686400000

theorem put1_ok {least : Int} {s : List (List G) × Int} {i : Nat} (h : PauseOK s i) (to : Int) : (put1 least s to).length ≤ i + 1 ∧ ∀ r ∈ put1 least s to, ∃ a b, r = [.i a, .i b] := by
  obtain ⟨h1, h2, _, _⟩ := h
  unfold put1
  split
  · refine ⟨by simp; omega, fun r hr => ?_⟩
    rcases List.mem_append.1 hr with hr | hr
    · exact h2 r hr
    · simp at hr
      exact ⟨_, _, hr⟩
  · exact ⟨by omega, h2⟩
theorem pauseL_ok (l : List (List G)) (a b least : Int) (ha : 0 ≤ a) (ha1 : a ≤ b) (hb : b ≤ 345686400000) : ∀ i, PauseOK (pauseL l a b least i) i
  | 0 => ⟨by simp [pauseL], by simp [pauseL], by simpa [pauseL] using ha, by simp [pauseL]; omega⟩
  | i + 1 => by
    have ih := pauseL_ok l a b least ha ha1 hb i
    simp only [pauseL]
    cases hh : has a b (gi (l.getD i []) 0).int with
    | false => exact ⟨Nat.le_succ_of_le ih.len, ih.rows, ih.at0, ih.at1⟩
    | true =>
      obtain ⟨h1, h2⟩ := has_iff hh
      obtain ⟨g1, g2⟩ := put1_ok (least := least) ih (gi (l.getD i []) 0).int
      exact ⟨g1, g2, by simp only [cond_true]; omega, by simp only [cond_true]; omega⟩

theorem pauses1_eq (rows : List (List G)) (to from0 least : Int) (h0 : 0 ≤ from0) (h1 : from0 ≤ 400000000000) (h2 : 0 ≤ to) (h3 : to ≤ 400000000000) (hl : rows.length ≤ 100000) :
    F_log_Pauses_1 [.l rows, .i to, .l [[.i from0]], .l [[.i least]]] = some [.l (put1 least (rows, from0) to)] := by
  refine Ret.toEq ?_
  unfold F_log_Pauses_1 put1
  (dsimp +instances only [gi0,gis,row1,rows1,int1,str1,bool1])
  by_cases hc : least ≤ to - from0
  · rw [if_pos hc]
    (repeat(first|(refine Ret.pos ?_ ?_;(first|rfl|assumption|(simp only [inI,sl]<;>omega)))|(refine Ret.neg ?_ ?_;(first|rfl|assumption|(simp only [inI,sl]<;>omega)))))
    exact Ret.some rfl
  · rw [if_neg hc]
    (repeat(first|(refine Ret.pos ?_ ?_;(first|rfl|assumption|(simp only [inI,sl]<;>omega)))|(refine Ret.neg ?_ ?_;(first|rfl|assumption|(simp only [inI,sl]<;>omega)))))
    exact Ret.some rfl
theorem pausesOf1_eq (rows : List (List G)) (to from0 least : Int) (h0 : 0 ≤ from0) (h1 : from0 ≤ 400000000000) (h2 : 0 ≤ to) (h3 : to ≤ 400000000000) (hl : rows.length ≤ 100000) (h4 : 1 ≤ least) :
    F_pileref2_PausesOf_1 [.l rows, .i to, .l [[.i from0]], .l [[.i least]]] = some [.l (put1 least (rows, from0) to)] := by
  refine Ret.toEq ?_
  unfold F_pileref2_PausesOf_1 put1
  (dsimp +instances only [gi0,gis,row1,rows1,int1,str1,bool1])
  by_cases hc : least ≤ to - from0
  · rw [if_pos hc]
    (repeat(first|(refine Ret.pos ?_ ?_;(first|rfl|assumption|(simp only [inI,sl]<;>omega)))|(refine Ret.neg ?_ ?_;(first|rfl|assumption|(simp only [inI,sl]<;>omega)))))
    exact Ret.some rfl
  · rw [if_neg hc]
    by_cases hd : from0 < to
    · (repeat(first|(refine Ret.pos ?_ ?_;(first|rfl|assumption|(simp only [inI,sl]<;>omega)))|(refine Ret.neg ?_ ?_;(first|rfl|assumption|(simp only [inI,sl]<;>omega)))))
      exact Ret.some rfl
    · (repeat(first|(refine Ret.pos ?_ ?_;(first|rfl|assumption|(simp only [inI,sl]<;>omega)))|(refine Ret.neg ?_ ?_;(first|rfl|assumption|(simp only [inI,sl]<;>omega)))))
      exact Ret.some rfl

theorem pauses_loop (l : List (List G)) (hn : l.length < 90000) (a b least : Int) (ha : 0 ≤ a) (ha1 : a ≤ b) (hb : b ≤ 345686400000) :
    RetL st_log_Pauses_10 [.i a, .i b, .l [], .i a, .i least, .l l, .i (l.length : Int), .i 0] fun c g => c = 0 ∧ g = [.i a, .i b, .l (pauseL l a b least l.length).1, .i (pauseL l a b least l.length).2, .i least] := by
  have r := range_all (st := st_log_Pauses_10) (σ := List (List G) × Int) (fun s i => [.i a, .i b, .l s.1, .i s.2, .i least, .l l, .i (l.length : Int), .i (i : Int)]) l (fun s => (0, [.i a, .i b, .l s.1, .i s.2, .i least]))
    (fun s i => s = pauseL l a b least i) ([], a) (by omega) rfl
    (fun s i x hs hi hx hm ht => by
      obtain ⟨k1, k2, k3, k4⟩ := pauseL_ok l a b least ha ha1 hb i
      rw [← hs] at k1 k2 k3 k4
      unfold st_log_Pauses_10
      (dsimp +instances only [gi0,gis,row1,rows1,int1,str1,bool1])
      simp only [Int.toNat_natCast, hx, eta2]
      refine Ret.pos (by (first|rfl|assumption|(simp only [inI,sl]<;>omega))) (Ret.pos (by (first|rfl|assumption|(simp only [inI,sl]<;>omega))) ?_)
      refine Ret.call (Ret.eq (has_eq a b _)) ?_
      rintro _ rfl
      (dsimp +instances only [gi0,gis,row1,rows1,int1,str1,bool1])
      refine Ret.test (fun h => ?_) fun h => ?_
      · obtain ⟨h1, h2⟩ := has_iff h
        refine Ret.callb (Ret.eq (pauses1_eq s.1 _ s.2 least k3 (by omega) (by omega) (by omega) (by omega))) (by (first|rfl|assumption|(simp only [inI,sl]<;>omega))) ?_
        rintro _ rfl
        (dsimp +instances only [gi0,gis,row1,rows1,int1,str1,bool1])
        (repeat(first|(refine Ret.pos ?_ ?_;(first|rfl|assumption|(simp only [inI,sl]<;>omega)))|(refine Ret.neg ?_ ?_;(first|rfl|assumption|(simp only [inI,sl]<;>omega)))))
        exact Ret.some ⟨(put1 least (s.1, s.2) (gi x 0).int, (gi x 0).int + 1), rfl, by simp only [pauseL, hx, h, hs, cond_true]⟩
      · (repeat(first|(refine Ret.pos ?_ ?_;(first|rfl|assumption|(simp only [inI,sl]<;>omega)))|(refine Ret.neg ?_ ?_;(first|rfl|assumption|(simp only [inI,sl]<;>omega)))))
        exact Ret.some ⟨s, rfl, by simp only [pauseL, hx, h, hs, cond_false]⟩)
    (fun s hI => by
      unfold st_log_Pauses_10
      (dsimp +instances only [gi0,gis,row1,rows1,int1,str1,bool1])
      (repeat(first|(refine Ret.pos ?_ ?_;(first|rfl|assumption|(simp only [inI,sl]<;>omega)))|(refine Ret.neg ?_ ?_;(first|rfl|assumption|(simp only [inI,sl]<;>omega)))))
      exact Ret.some rfl)
  refine r.mono ?_
  rintro c g ⟨s, rfl, rfl, rfl⟩
  exact ⟨rfl, rfl⟩
theorem pausesOf_loop (l : List (List G)) (hn : l.length < 90000) (a b least : Int) (ha : 0 ≤ a) (ha1 : a ≤ b) (hb : b ≤ 345686400000) (h4 : 1 ≤ least) :
    RetL st_pileref2_PausesOf_5 [.i a, .i b, .i a, .l [], .i least, .l l, .i (l.length : Int), .i 0] fun c g => c = 0 ∧ g = [.i a, .i b, .l (pauseL l a b least l.length).1, .i (pauseL l a b least l.length).2, .i least] := by
  have r := range_all (st := st_pileref2_PausesOf_5) (σ := List (List G) × Int) (fun s i => [.i a, .i b, .i s.2, .l s.1, .i least, .l l, .i (l.length : Int), .i (i : Int)]) l (fun s => (0, [.i a, .i b, .l s.1, .i s.2, .i least]))
    (fun s i => s = pauseL l a b least i) ([], a) (by omega) rfl
    (fun s i x hs hi hx hm ht => by
      obtain ⟨k1, k2, k3, k4⟩ := pauseL_ok l a b least ha ha1 hb i
      rw [← hs] at k1 k2 k3 k4
      unfold st_pileref2_PausesOf_5
      (dsimp +instances only [gi0,gis,row1,rows1,int1,str1,bool1])
      simp only [Int.toNat_natCast, hx]
      refine Ret.pos (by (first|rfl|assumption|(simp only [inI,sl]<;>omega))) (Ret.pos (by (first|rfl|assumption|(simp only [inI,sl]<;>omega))) ?_)
      by_cases h1 : a ≤ (gi x 0).int
      · by_cases h2 : (gi x 0).int < b
        · have h : has a b (gi x 0).int = true := by simp [has, leI_eq, ltI_eq, h1, h2]
          refine Ret.pos (by (first|rfl|assumption|(simp only [inI,sl]<;>omega))) (Ret.pos (by (first|rfl|assumption|(simp only [inI,sl]<;>omega))) ?_)
          refine Ret.callb (Ret.eq (pausesOf1_eq s.1 _ s.2 least k3 (by omega) (by omega) (by omega) (by omega) h4)) (by (first|rfl|assumption|(simp only [inI,sl]<;>omega))) ?_
          rintro _ rfl
          (dsimp +instances only [gi0,gis,row1,rows1,int1,str1,bool1])
          (repeat(first|(refine Ret.pos ?_ ?_;(first|rfl|assumption|(simp only [inI,sl]<;>omega)))|(refine Ret.neg ?_ ?_;(first|rfl|assumption|(simp only [inI,sl]<;>omega)))))
          exact Ret.some ⟨(put1 least (s.1, s.2) (gi x 0).int, (gi x 0).int + 1), rfl, by simp only [pauseL, hx, h, hs, cond_true]⟩
        · have h : has a b (gi x 0).int = false := by simp [has, leI_eq, ltI_eq, h2]
          refine Ret.pos (by (first|rfl|assumption|(simp only [inI,sl]<;>omega))) (Ret.neg (by (first|rfl|assumption|(simp only [inI,sl]<;>omega))) ?_)
          (repeat(first|(refine Ret.pos ?_ ?_;(first|rfl|assumption|(simp only [inI,sl]<;>omega)))|(refine Ret.neg ?_ ?_;(first|rfl|assumption|(simp only [inI,sl]<;>omega)))))
          exact Ret.some ⟨s, rfl, by simp only [pauseL, hx, h, hs, cond_false]⟩
      · have h : has a b (gi x 0).int = false := by simp [has, leI_eq, ltI_eq, h1]
        refine Ret.neg (by (first|rfl|assumption|(simp only [inI,sl]<;>omega))) ?_
        (repeat(first|(refine Ret.pos ?_ ?_;(first|rfl|assumption|(simp only [inI,sl]<;>omega)))|(refine Ret.neg ?_ ?_;(first|rfl|assumption|(simp only [inI,sl]<;>omega)))))
        exact Ret.some ⟨s, rfl, by simp only [pauseL, hx, h, hs, cond_false]⟩)
    (fun s hI => by
      unfold st_pileref2_PausesOf_5
      (dsimp +instances only [gi0,gis,row1,rows1,int1,str1,bool1])
      (repeat(first|(refine Ret.pos ?_ ?_;(first|rfl|assumption|(simp only [inI,sl]<;>omega)))|(refine Ret.neg ?_ ?_;(first|rfl|assumption|(simp only [inI,sl]<;>omega)))))
      exact Ret.some rfl)
  refine r.mono ?_
  rintro c g ⟨s, rfl, rfl, rfl⟩
  exact ⟨rfl, rfl⟩

def pausesA (l : List (List G)) (a b least : Int) : List (List G) := put1 least (pauseL l a b least l.length) b

theorem pauses_ok (l : List (List G)) (hC : ∀ z ∈ l, Con z) (hn : l.length < 90000) (a b least : Int) (hl0 : -1000000000 ≤ least) (hl1 : least ≤ 1000000000) :
    F_log_Pauses [.l l, .l [[.i a, .i b]], .i least] = some (bif faultLog l != 0 then [.l [], .i (faultLog l)] else bif okW a b && inB least 1 86400000 then [.l (pausesA l a b least), .i 0] else [.l [], .i 1]) := by
  refine Ret.toEq ?_
  unfold F_log_Pauses
  (dsimp +instances only [gi0,gis,row1,rows1,int1,str1,bool1])
  simp only [eta2]
  refine Ret.call (Ret.eq (checkLog_eq l hC (by omega))) ?_
  rintro _ rfl
  (dsimp +instances only [gi0,gis,row1,rows1,int1,str1,bool1])
  refine Ret.test (fun h => ?_) fun h => ?_
  · rw [h]
    exact Ret.some rfl
  · rw [h]
    refine Ret.call (Ret.eq (isWindow_eq a b)) ?_
    rintro _ rfl
    (dsimp +instances only [gi0,gis,row1,rows1,int1,str1,bool1])
    cases hw : okW a b with
    | false => exact Ret.pos rfl (Ret.some rfl)
    | true =>
      obtain ⟨q0, q1, q2⟩ := okW_iff hw
      refine Ret.neg rfl ?_
      refine Ret.call (Ret.eq (outside_eq _ _ _)) ?_
      rintro _ rfl
      (dsimp +instances only [gi0,gis,row1,rows1,int1,str1,bool1])
      cases hl : inB least 1 86400000 with
      | false => exact Ret.pos rfl (Ret.some rfl)
      | true =>
        refine Ret.neg rfl ?_
        obtain ⟨k1, k2, k3, k4⟩ := pauseL_ok l a b least q0 q1 q2 l.length
        refine Ret.loop (pauses_loop l hn a b least q0 q1 q2) rfl ?_
        rintro _ _ ⟨rfl, rfl⟩
        (dsimp +instances only [gi0,gis,row1,rows1,int1,str1,bool1])
        refine Ret.callb (Ret.eq (pauses1_eq _ _ _ least k3 (by omega) (by omega) (by omega) (by omega))) (by (first|rfl|assumption|(simp only [inI,sl]<;>omega))) ?_
        rintro _ rfl
        (dsimp +instances only [gi0,gis,row1,rows1,int1,str1,bool1])
        (repeat(first|(refine Ret.pos ?_ ?_;(first|rfl|assumption|(simp only [inI,sl]<;>omega)))|(refine Ret.neg ?_ ?_;(first|rfl|assumption|(simp only [inI,sl]<;>omega)))))
        exact Ret.some rfl
theorem pausesOf_ok (l : List (List G)) (hn : l.length < 90000) (a b least : Int) (hw : okW a b = true) (hl : inB least 1 86400000 = true) :
    F_pileref2_PausesOf [.l l, .l [[.i a, .i b]], .i least] = some [.l (pausesA l a b least)] := by
  obtain ⟨q0, q1, q2⟩ := okW_iff hw
  obtain ⟨p0, p1⟩ := inB_iff hl
  refine Ret.toEq ?_
  unfold F_pileref2_PausesOf
  (dsimp +instances only [gi0,gis,row1,rows1,int1,str1,bool1])
  obtain ⟨k1, k2, k3, k4⟩ := pauseL_ok l a b least q0 q1 q2 l.length
  refine Ret.loop (pausesOf_loop l hn a b least q0 q1 q2 p0) rfl ?_
  rintro _ _ ⟨rfl, rfl⟩
  (dsimp +instances only [gi0,gis,row1,rows1,int1,str1,bool1])
  refine Ret.callb (Ret.eq (pausesOf1_eq _ _ _ least k3 (by omega) (by omega) (by omega) (by omega) p0)) (by (first|rfl|assumption|(simp only [inI,sl]<;>omega))) ?_
  rintro _ rfl
  (dsimp +instances only [gi0,gis,row1,rows1,int1,str1,bool1])
  (repeat(first|(refine Ret.pos ?_ ?_;(first|rfl|assumption|(simp only [inI,sl]<;>omega)))|(refine Ret.neg ?_ ?_;(first|rfl|assumption|(simp only [inI,sl]<;>omega)))))
  exact Ret.some rfl
theorem pausesA_rows (l : List (List G)) (a b least : Int) (hw : okW a b = true) : (pausesA l a b least).length ≤ l.length + 1 ∧ ∀ r ∈ pausesA l a b least, ∃ a b, r = [.i a, .i b] := by
  obtain ⟨q0, q1, q2⟩ := okW_iff hw
  exact put1_ok (pauseL_ok l a b least q0 q1 q2 l.length) b

/-! ### Hours -/

def hourAt (a t : Int) : Nat := (Int.tdiv (t - a) 3600000).toNat
def hoursL (l : List (List G)) (a b : Int) (z : List (List G)) : Nat → List (List G)
  | 0 => z
  | i + 1 => bif has a b (gi (l.getD i []) 0).int then
      (hoursL l a b z i).set (hourAt a (gi (l.getD i []) 0).int) [.i ((gi ((hoursL l a b z i).getD (hourAt a (gi (l.getD i []) 0).int) []) 0).int + 1)] else hoursL l a b z i
def hourN (a b : Int) : Int := Int.tdiv (b - a + 3600000 - 1) 3600000
def zeros (a b : Int) : List (List G) := List.replicate (hourN a b).toNat [.i 0]

structure HourOK (s : List (List G)) (n i : Nat) : Prop where
  len : s.length = n
  rows : ∀ r ∈ s, ∃ v, r = [.i v] ∧ 0 ≤ v ∧ v ≤ i

theorem hourAt_lt {a b t : Int} (h1 : a ≤ t) (h2 : t < b) : 0 ≤ Int.tdiv (t - a) 3600000 ∧ Int.tdiv (t - a) 3600000 < hourN a b ∧ Int.tdiv (t - a) 3600000 ≤ t - a := by
  unfold hourN
  rw [Int.tdiv_eq_ediv_of_nonneg (by omega), Int.tdiv_eq_ediv_of_nonneg (by omega)]
  omega
theorem hourN_nonneg {a b : Int} (h : a ≤ b) : 0 ≤ hourN a b ∧ hourN a b ≤ b - a + 3600000 := by
  unfold hourN
  rw [Int.tdiv_eq_ediv_of_nonneg (by omega)]
  omega

theorem hoursL_ok (l : List (List G)) (a b : Int) (h : a ≤ b) : ∀ i, HourOK (hoursL l a b (zeros a b) i) (hourN a b).toNat i
  | 0 => ⟨by simp [hoursL, zeros], fun r hr => by
      simp only [hoursL, zeros, List.mem_replicate] at hr
      exact ⟨0, hr.2, by omega, by omega⟩⟩
  | i + 1 => by
    have ih := hoursL_ok l a b h i
    simp only [hoursL]
    cases hh : has a b (gi (l.getD i []) 0).int with
    | false => exact ⟨ih.len, fun r hr => by obtain ⟨v, e, q1, q2⟩ := ih.rows r hr; exact ⟨v, e, q1, by omega⟩⟩
    | true =>
      obtain ⟨h1, h2⟩ := has_iff hh
      obtain ⟨k1, k2, _⟩ := hourAt_lt h1 h2
      have hlt : hourAt a (gi (l.getD i []) 0).int < (hoursL l a b (zeros a b) i).length := by rw [ih.len]; unfold hourAt; omega
      refine ⟨by simpa using ih.len, fun r hr => ?_⟩
      rcases List.mem_or_eq_of_mem_set hr with hr | rfl
      · obtain ⟨v, e, q1, q2⟩ := ih.rows r hr
        exact ⟨v, e, q1, by omega⟩
      · obtain ⟨v, e, q1, q2⟩ := ih.rows _ (getD_row hlt)
        rw [e]
        exact ⟨v + 1, rfl, by omega, by omega⟩

theorem hours_loop (l : List (List G)) (hn : l.length < 90000) (a b : Int) (ha : 0 ≤ a) (ha1 : a ≤ b) (hb : b ≤ 345686400000) :
    RetL st_log_Hours_11 [.i a, .i b, .l (zeros a b), .l l, .i (l.length : Int), .i 0] fun c g => c = 0 ∧ g = [.l (hoursL l a b (zeros a b) l.length)] := by
  have r := range_all (st := st_log_Hours_11) (σ := List (List G)) (fun s i => [.i a, .i b, .l s, .l l, .i (l.length : Int), .i (i : Int)]) l (fun s => (0, [.l s]))
    (fun s i => s = hoursL l a b (zeros a b) i) (zeros a b) (by omega) rfl
    (fun s i x hs hi hx hm ht => by
      obtain ⟨k1, k2⟩ := hoursL_ok l a b ha1 i
      rw [← hs] at k1 k2
      unfold st_log_Hours_11
      (dsimp +instances only [gi0,gis,row1,rows1,int1,str1,bool1])
      simp only [Int.toNat_natCast, hx, eta2]
      refine Ret.pos (by (first|rfl|assumption|(simp only [inI,sl]<;>omega))) (Ret.pos (by (first|rfl|assumption|(simp only [inI,sl]<;>omega))) ?_)
      refine Ret.call (Ret.eq (has_eq a b _)) ?_
      rintro _ rfl
      (dsimp +instances only [gi0,gis,row1,rows1,int1,str1,bool1])
      refine Ret.test (fun h => ?_) fun h => ?_
      · obtain ⟨h1, h2⟩ := has_iff h
        obtain ⟨q1, q2, q3⟩ := hourAt_lt h1 h2
        have hlt : hourAt a (gi x 0).int < s.length := by rw [k1]; unfold hourAt; omega
        obtain ⟨v, e, q4, q5⟩ := k2 _ (getD_row hlt)
        have hv : (gi (s.getD (hourAt a (gi x 0).int) []) 0).int = v := by rw [e]; rfl
        have hput : putG [.int .i64] (s.getD (hourAt a (gi x 0).int) []) 0 [.i (v + 1)] = [.i (v + 1)] := putG_all rfl
        have hfold : (Int.tdiv ((gi x 0).int - a) 3600000).toNat = hourAt a (gi x 0).int := rfl
        simp only [Nat.zero_add, hfold, hv, hput]
        generalize hq : Int.tdiv ((gi x 0).int - a) 3600000 = q at *
        have hqn : hourAt a (gi x 0).int = q.toNat := by unfold hourAt; rw [hq]
        (repeat(first|(refine Ret.pos ?_ ?_;(first|rfl|assumption|(simp only [inI,sl]<;>omega)))|(refine Ret.neg ?_ ?_;(first|rfl|assumption|(simp only [inI,sl]<;>omega)))))
        refine Ret.some ⟨s.set (hourAt a (gi x 0).int) [.i (v + 1)], rfl, ?_⟩
        simp only [hoursL, hx, h, cond_true, ← hs, hv]
      · (repeat(first|(refine Ret.pos ?_ ?_;(first|rfl|assumption|(simp only [inI,sl]<;>omega)))|(refine Ret.neg ?_ ?_;(first|rfl|assumption|(simp only [inI,sl]<;>omega)))))
        exact Ret.some ⟨s, rfl, by simp only [hoursL, hx, h, hs, cond_false]⟩)
    (fun s hI => by
      unfold st_log_Hours_11
      (dsimp +instances only [gi0,gis,row1,rows1,int1,str1,bool1])
      (repeat(first|(refine Ret.pos ?_ ?_;(first|rfl|assumption|(simp only [inI,sl]<;>omega)))|(refine Ret.neg ?_ ?_;(first|rfl|assumption|(simp only [inI,sl]<;>omega)))))
      exact Ret.some rfl)
  refine r.mono ?_
  rintro c g ⟨s, rfl, rfl, rfl⟩
  exact ⟨rfl, rfl⟩

theorem tail9_ok (l s : List (List G)) (a b n i : Int) (x : List G) (f : Bool) (v : Int) (ha : 0 ≤ a) (ha1 : a ≤ b) (hb : b ≤ 345686400000) (hf : f = true → a ≤ (gi x 0).int ∧ (gi x 0).int < b ∧ s.length = (hourN a b).toNat ∧ s.getD (hourAt a (gi x 0).int) [] = [.i v] ∧ 0 ≤ v ∧ v ≤ 100000) :
    Ret (tl_pileref2_HoursOf_9 [.i a, .i b, .l s, .i (gi x 0).int, .i (gi x 1).int, .s (gi x 2).str, .s (gi x 3).str, .i (gi x 4).int, .i (gi x 5).int, .s (gi x 6).str, .s (gi x 7).str, .l l, .i n, .i i, .t f]) fun o => ∃ k, o.1 = some k ∧
      o.2 = [.i a, .i b, .l (bif f then s.set (hourAt a (gi x 0).int) [.i (v + 1)] else s), .l l, .i n, .i i] := by
  unfold tl_pileref2_HoursOf_9
  (dsimp +instances only [gi0,gis,row1,rows1,int1,str1,bool1])
  cases f with
  | false =>
    refine Ret.neg rfl ?_
    (repeat(first|(refine Ret.pos ?_ ?_;(first|rfl|assumption|(simp only [inI,sl]<;>omega)))|(refine Ret.neg ?_ ?_;(first|rfl|assumption|(simp only [inI,sl]<;>omega)))))
    exact Ret.some ⟨0, rfl, rfl⟩
  | true =>
    obtain ⟨h1, h2, h3, e, q4, q5⟩ := hf rfl
    obtain ⟨q1, q2, q3⟩ := hourAt_lt h1 h2
    have hlt : hourAt a (gi x 0).int < s.length := by rw [h3]; unfold hourAt; omega
    have hv : (gi (s.getD (hourAt a (gi x 0).int) []) 0).int = v := by rw [e]; rfl
    have hput : putG [.int .i64] (s.getD (hourAt a (gi x 0).int) []) 0 [.i (v + 1)] = [.i (v + 1)] := putG_all rfl
    have hfold : (Int.tdiv ((gi x 0).int - a) 3600000).toNat = hourAt a (gi x 0).int := rfl
    simp only [Nat.zero_add, hfold, hv, hput]
    generalize hq : Int.tdiv ((gi x 0).int - a) 3600000 = q at *
    have hqn : hourAt a (gi x 0).int = q.toNat := by unfold hourAt; rw [hq]
    refine Ret.pos rfl ?_
    (repeat(first|(refine Ret.pos ?_ ?_;(first|rfl|assumption|(simp only [inI,sl]<;>omega)))|(refine Ret.neg ?_ ?_;(first|rfl|assumption|(simp only [inI,sl]<;>omega)))))
    exact Ret.some ⟨0, rfl, rfl⟩

theorem hoursOf_loop (l : List (List G)) (hn : l.length < 90000) (a b : Int) (ha : 0 ≤ a) (ha1 : a ≤ b) (hb : b ≤ 345686400000) :
    RetL st_pileref2_HoursOf_6 [.i a, .i b, .l (zeros a b), .l l, .i (l.length : Int), .i 0] fun c g => c = 0 ∧ g = [.l (hoursL l a b (zeros a b) l.length)] := by
  have r := range_all (st := st_pileref2_HoursOf_6) (σ := List (List G)) (fun s i => [.i a, .i b, .l s, .l l, .i (l.length : Int), .i (i : Int)]) l (fun s => (0, [.l s]))
    (fun s i => s = hoursL l a b (zeros a b) i) (zeros a b) (by omega) rfl
    (fun s i x hs hi hx hm ht => by
      obtain ⟨k1, k2⟩ := hoursL_ok l a b ha1 i
      rw [← hs] at k1 k2
      have row : ∀ f : Bool, (f = has a b (gi x 0).int) → Ret (loopB ((Nat.beq s.length s.length) && true) (cutR (tl_pileref2_HoursOf_9 [.i a, .i b, .l s, .i (gi x 0).int, .i (gi x 1).int, .s (gi x 2).str, .s (gi x 3).str, .i (gi x 4).int, .i (gi x 5).int, .s (gi x 6).str, .s (gi x 7).str, .l l, .i (l.length : Int), .i (i : Int), .t f])) fun cg1 g1 =>
          (bif (inI ((gi g1 5).int + 1)) then (bif ((Nat.beq (gi g1 2).rows.length (gi g1 2).rows.length) && true) then some ((none : Option Nat), [G.i (gi g1 0).int, .i (gi g1 1).int, .l (gi g1 2).rows, .l (gi g1 3).rows, .i (gi g1 4).int, .i ((gi g1 5).int + 1)]) else none) else none))
          fun o => ∃ s', o = (none, [.i a, .i b, .l s', .l l, .i (l.length : Int), .i ((i + 1 : Nat) : Int)]) ∧ s' = hoursL l a b (zeros a b) (i + 1) := by
        intro f hf
        have hex : ∃ v, f = true → a ≤ (gi x 0).int ∧ (gi x 0).int < b ∧ s.length = (hourN a b).toNat ∧ s.getD (hourAt a (gi x 0).int) [] = [.i v] ∧ 0 ≤ v ∧ v ≤ 100000 := by
          cases f with
          | false => exact ⟨0, fun h => by cases h⟩
          | true =>
            obtain ⟨h1, h2⟩ := has_iff hf.symm
            obtain ⟨q1, q2, q3⟩ := hourAt_lt h1 h2
            have hlt : hourAt a (gi x 0).int < s.length := by rw [k1]; unfold hourAt; omega
            obtain ⟨v, e, q4, q5⟩ := k2 _ (getD_row hlt)
            exact ⟨v, fun _ => ⟨h1, h2, k1, e, q4, by omega⟩⟩
        obtain ⟨v, hv⟩ := hex
        refine Ret.tail (P := fun _ g => g = _) (tail9_ok l s a b _ _ x f v ha ha1 hb hv) (by (first|rfl|assumption|(simp only [inI,sl]<;>omega))) ?_
        rintro _ _ rfl
        (dsimp +instances only [gi0,gis,row1,rows1,int1,str1,bool1])
        (repeat(first|(refine Ret.pos ?_ ?_;(first|rfl|assumption|(simp only [inI,sl]<;>omega)))|(refine Ret.neg ?_ ?_;(first|rfl|assumption|(simp only [inI,sl]<;>omega)))))
        refine Ret.some ⟨_, rfl, ?_⟩
        cases f with
        | false => simp only [hoursL, hx, ← hf, cond_false, ← hs]
        | true =>
          obtain ⟨_, _, _, e, _, _⟩ := hv rfl
          simp only [hoursL, hx, ← hf, cond_true, ← hs, e, gi0, int1]
      unfold st_pileref2_HoursOf_6
      (dsimp +instances only [gi0,gis,row1,rows1,int1,str1,bool1])
      simp only [Int.toNat_natCast, hx]
      refine Ret.pos (by (first|rfl|assumption|(simp only [inI,sl]<;>omega))) (Ret.pos (by (first|rfl|assumption|(simp only [inI,sl]<;>omega))) ?_)
      by_cases h1 : a ≤ (gi x 0).int
      · refine Ret.pos (by (first|rfl|assumption|(simp only [inI,sl]<;>omega))) ?_
        exact row _ (by simp [has, leI_eq, h1])
      · refine Ret.neg (by (first|rfl|assumption|(simp only [inI,sl]<;>omega))) ?_
        exact row _ (by simp [has, leI_eq, h1]))
    (fun s hI => by
      unfold st_pileref2_HoursOf_6
      (dsimp +instances only [gi0,gis,row1,rows1,int1,str1,bool1])
      (repeat(first|(refine Ret.pos ?_ ?_;(first|rfl|assumption|(simp only [inI,sl]<;>omega)))|(refine Ret.neg ?_ ?_;(first|rfl|assumption|(simp only [inI,sl]<;>omega)))))
      exact Ret.some rfl)
  refine r.mono ?_
  rintro c g ⟨s, rfl, rfl, rfl⟩
  exact ⟨rfl, rfl⟩

def hoursA (l : List (List G)) (a b : Int) : List G := if 1000 < hourN a b then [.l [], .i 2] else [.l (hoursL l a b (zeros a b) l.length), .i 0]

theorem hours_ok (l : List (List G)) (hC : ∀ z ∈ l, Con z) (hn : l.length < 90000) (a b : Int) (hw0 : okW a b = true) (hf : faultLog l = 0) : F_log_Hours [.l l, .l [[.i a, .i b]]] = some (hoursA l a b) := by
  obtain ⟨q0, q1, q2⟩ := okW_iff hw0
  obtain ⟨k0, k1⟩ := hourN_nonneg q1
  refine Ret.toEq ?_
  unfold F_log_Hours hoursA
  (dsimp +instances only [gi0,gis,row1,rows1,int1,str1,bool1])
  simp only [eta2]
  refine Ret.call (Ret.eq (checkLog_eq l hC (by omega))) ?_
  rintro _ rfl
  (dsimp +instances only [gi0,gis,row1,rows1,int1,str1,bool1])
  rw [hf]
  refine Ret.neg rfl ?_
  refine Ret.call (Ret.eq (isWindow_eq a b)) ?_
  rintro _ rfl
  (dsimp +instances only [gi0,gis,row1,rows1,int1,str1,bool1])
  refine Ret.neg (by rw [hw0]; rfl) ?_
  have hz : List.replicate (Int.tdiv (b - a + 3600000 - 1) 3600000).toNat [G.i 0] = zeros a b := rfl
  have hfold : Int.tdiv (b - a + 3600000 - 1) 3600000 = hourN a b := rfl
  simp only [hz, hfold]
  by_cases hc : 1000 < hourN a b
  · rw [if_pos hc]
    (repeat(first|(refine Ret.pos ?_ ?_;(first|rfl|assumption|(simp only [inI,sl]<;>omega)))|(refine Ret.neg ?_ ?_;(first|rfl|assumption|(simp only [inI,sl]<;>omega)))))
    exact Ret.some rfl
  · rw [if_neg hc]
    have hzl : (zeros a b).length = (hourN a b).toNat := by simp [zeros]
    (repeat(first|(refine Ret.pos ?_ ?_;(first|rfl|assumption|(simp only [inI,sl]<;>omega)))|(refine Ret.neg ?_ ?_;(first|rfl|assumption|(simp only [inI,sl]<;>omega)))))
    refine Ret.loop (hours_loop l hn a b q0 q1 q2) (by rw [List.length_replicate]; simp) ?_
    rintro _ _ ⟨rfl, rfl⟩
    (dsimp +instances only [gi0,gis,row1,rows1,int1,str1,bool1])
    (repeat(first|(refine Ret.pos ?_ ?_;(first|rfl|assumption|(simp only [inI,sl]<;>omega)))|(refine Ret.neg ?_ ?_;(first|rfl|assumption|(simp only [inI,sl]<;>omega)))))
    exact Ret.some rfl
theorem hoursOf_ok (l : List (List G)) (hn : l.length < 90000) (a b : Int) (hw0 : okW a b = true) : F_pileref2_HoursOf [.l l, .l [[.i a, .i b]]] = some (hoursA l a b) := by
  obtain ⟨q0, q1, q2⟩ := okW_iff hw0
  obtain ⟨k0, k1⟩ := hourN_nonneg q1
  refine Ret.toEq ?_
  unfold F_pileref2_HoursOf hoursA
  (dsimp +instances only [gi0,gis,row1,rows1,int1,str1,bool1])
  have hz : List.replicate (Int.tdiv (b - a + 3600000 - 1) 3600000).toNat [G.i 0] = zeros a b := rfl
  have hfold : Int.tdiv (b - a + 3600000 - 1) 3600000 = hourN a b := rfl
  simp only [hz, hfold]
  by_cases hc : 1000 < hourN a b
  · rw [if_pos hc]
    (repeat(first|(refine Ret.pos ?_ ?_;(first|rfl|assumption|(simp only [inI,sl]<;>omega)))|(refine Ret.neg ?_ ?_;(first|rfl|assumption|(simp only [inI,sl]<;>omega)))))
    exact Ret.some rfl
  · rw [if_neg hc]
    have hzl : (zeros a b).length = (hourN a b).toNat := by simp [zeros]
    (repeat(first|(refine Ret.pos ?_ ?_;(first|rfl|assumption|(simp only [inI,sl]<;>omega)))|(refine Ret.neg ?_ ?_;(first|rfl|assumption|(simp only [inI,sl]<;>omega)))))
    refine Ret.loop (hoursOf_loop l hn a b q0 q1 q2) (by rw [List.length_replicate]; simp) ?_
    rintro _ _ ⟨rfl, rfl⟩
    (dsimp +instances only [gi0,gis,row1,rows1,int1,str1,bool1])
    (repeat(first|(refine Ret.pos ?_ ?_;(first|rfl|assumption|(simp only [inI,sl]<;>omega)))|(refine Ret.neg ?_ ?_;(first|rfl|assumption|(simp only [inI,sl]<;>omega)))))
    exact Ret.some rfl
theorem hours_bad (l : List (List G)) (hC : ∀ z ∈ l, Con z) (hn : l.length < 90000) (a b : Int) (h : faultLog l ≠ 0 ∨ okW a b = false) : F_log_Hours [.l l, .l [[.i a, .i b]]] = some (bif faultLog l != 0 then [.l [], .i (faultLog l)] else [.l [], .i 1]) := by
  refine Ret.toEq ?_
  unfold F_log_Hours
  (dsimp +instances only [gi0,gis,row1,rows1,int1,str1,bool1])
  simp only [eta2]
  refine Ret.call (Ret.eq (checkLog_eq l hC (by omega))) ?_
  rintro _ rfl
  (dsimp +instances only [gi0,gis,row1,rows1,int1,str1,bool1])
  refine Ret.test (fun hx => ?_) fun hx => ?_
  · rw [hx]
    exact Ret.some rfl
  · rw [hx]
    have hw : okW a b = false := by
      rcases h with h | h
      · have : (faultLog l != 0) = true := by simpa using h
        rw [this] at hx
        cases hx
      · exact h
    refine Ret.call (Ret.eq (isWindow_eq a b)) ?_
    rintro _ rfl
    (dsimp +instances only [gi0,gis,row1,rows1,int1,str1,bool1])
    exact Ret.pos (by rw [hw]; rfl) (Ret.some rfl)

end Go.Proofs.SYtpfhjchbegdgdaaGreatDoor

namespace Go.Proofs.SYtpfhjchbegdgdaaGreatDoor
open Go Go.AL Go.Proofs

theorem equalInt_refl (a : List (List G)) (hn : a.length < 100000) : F_slices_Equal_int [.l a, .l a] = some [.t true] := by
  refine Ret.toEq ?_
  unfold F_slices_Equal_int
  (dsimp +instances only [gi0,gis,row1,rows1,int1,str1,bool1])
  refine Ret.neg (by simp) ?_
  have r := range_all (st := st_slices_Equal_int_4) (σ := Unit) (fun _ i => [.l a, .l a, .i (a.length : Int), .i (i : Int)]) a (fun _ => (1, [])) (fun _ _ => True) () (by omega) trivial
    (fun s i x hI hi hx hm ht => by
      unfold st_slices_Equal_int_4
      (dsimp +instances only [gi0,gis,row1,rows1,int1,str1,bool1])
      simp only [Int.toNat_natCast, hx, bne_self_eq_false]
      (repeat(first|(refine Ret.pos ?_ ?_;(first|rfl|assumption|(simp only [inI,sl]<;>omega)))|(refine Ret.neg ?_ ?_;(first|rfl|assumption|(simp only [inI,sl]<;>omega)))))
      exact Ret.some ⟨(), rfl, trivial⟩)
    (fun s hI => by
      unfold st_slices_Equal_int_4
      (dsimp +instances only [gi0,gis,row1,rows1,int1,str1,bool1])
      (repeat(first|(refine Ret.pos ?_ ?_;(first|rfl|assumption|(simp only [inI,sl]<;>omega)))|(refine Ret.neg ?_ ?_;(first|rfl|assumption|(simp only [inI,sl]<;>omega)))))
      exact Ret.some rfl)
  refine Ret.loop r rfl ?_
  rintro c g ⟨_, _, rfl, rfl⟩
  exact Ret.some rfl

def Two (r : List G) : Prop := ∃ a b, r = [.i a, .i b]
theorem kdsTwo : Kds [.int .i64, .int .i64] Two := ⟨fun r ⟨a, b, h⟩ => by subst h; rfl⟩
theorem equalRow_refl (a : List (List G)) (h : ∀ r ∈ a, Two r) (hn : a.length < 100000) : F_slices_Equal_Row [.l a, .l a] = some [.t true] := by
  have := equalF_eq kdsTwo a a h h hn
  rw [eqlA_refl rfl] at this
  exact this
theorem equalWindow_refl (a : List (List G)) (h : ∀ r ∈ a, Two r) (hn : a.length < 100000) : F_slices_Equal_Window [.l a, .l a] = some [.t true] := by
  have := equalF_eq kdsTwo a a h h hn
  rw [eqlA_refl rfl] at this
  exact this
theorem equal8_refl (a : List (List G)) (h : ∀ r ∈ a, Row8 r) (hn : a.length < 100000) : F_slices_Equal_Contact [.l a, .l a] = some [.t true] := by
  have := equalF_eq kds8 a a h h hn
  rw [eqlA_refl rfl] at this
  exact this

/-- What the functions hand back is of its kinds. -/
structure Kinds (R T N D P O : List (List G)) : Prop where
  r : ∀ x ∈ R, Two x
  rl : R.length < 100000
  t : T.length < 100000
  n : ∀ x ∈ N, Row8 x
  nl : N.length < 100000
  d : D.length < 90000
  p : ∀ x ∈ P, Two x
  pl : P.length < 100000
  o : O.length < 90000

theorem w25 {R T N D P O : List (List G)} (e f h i : Int) (K : Kinds R T N D P O) :
    Ret (tl_pilelaw2_LogsCounted_25 [.l R, .l T, .i e, .l N, .i f, .l D, .i e, .l P, .i h, .l O, .i i, .i e, .i f, .i h, .i i, .l R, .l T, .l D, .l O, .l N, .l P]) fun o => ∃ k, o.1 = some k ∧ o.2 = [.t true] := by
  unfold tl_pilelaw2_LogsCounted_25
  (dsimp +instances only [gi0,gis,row1,rows1,int1,str1,bool1])
  refine Ret.pos (bne_self _) ?_
  refine Ret.call (Ret.eq (equalRow_refl R K.r K.rl)) ?_
  rintro _ rfl
  refine Ret.pos rfl ?_
  refine Ret.call (Ret.eq (equalInt_refl T K.t)) ?_
  rintro _ rfl
  refine Ret.pos rfl (Ret.pos (bne_self _) ?_)
  refine Ret.call (Ret.eq (equal8_refl N K.n K.nl)) ?_
  rintro _ rfl
  refine Ret.pos rfl (Ret.pos (bne_self _) ?_)
  refine Ret.call (Ret.eq (equalInt_refl D (Nat.lt_trans K.d (by omega)))) ?_
  rintro _ rfl
  refine Ret.pos rfl (Ret.pos (bne_self _) ?_)
  refine Ret.call (Ret.eq (equalWindow_refl P K.p K.pl)) ?_
  rintro _ rfl
  refine Ret.pos rfl (Ret.pos (bne_self _) ?_)
  refine Ret.call (Ret.eq (equalInt_refl O (Nat.lt_trans K.o (by omega)))) ?_
  rintro _ rfl
  refine Ret.pos rfl ?_
  refine Ret.call (Ret.eq logged_ok) ?_
  rintro _ rfl
  exact Ret.some ⟨0, rfl, rfl⟩

theorem w23 {R T N D P O l : List (List G)} (a b e f h i three : Int) (wo : List (List G)) (K : Kinds R T N D P O)
    (H : (three = 0 ∧ F_pileref2_HoursOf [.l l, .l [[.i a, .i b]]] = some [.l O, .i i]) ∨ (three ≠ 0 ∧ wo = O ∧ three = i)) :
    Ret (tl_pilelaw2_LogsCounted_23 [.i a, .i b, .l l, .l R, .l T, .i e, .l N, .i f, .l D, .i e, .l P, .i h, .l O, .i i, .i e, .i f, .i h, .i three, .l R, .l T, .l D, .l wo, .l N, .l P]) fun o => ∃ k, o.1 = some k ∧ o.2 = [.t true] := by
  unfold tl_pilelaw2_LogsCounted_23
  (dsimp +instances only [gi0,gis,row1,rows1,int1,str1,bool1])
  simp only [eta2]
  rcases H with ⟨rfl, hh⟩ | ⟨hne, rfl, rfl⟩
  · refine Ret.pos rfl ?_
    refine Ret.call (Ret.eq hh) ?_
    rintro _ rfl
    (dsimp +instances only [gi0,gis,row1,rows1,int1,str1,bool1])
    refine Ret.tail (P := fun _ g => g = [.t true]) (w25 e f h i K) rfl ?_
    rintro _ _ rfl
    exact Ret.some ⟨0, rfl, rfl⟩
  · refine Ret.neg (bf_false hne) ?_
    refine Ret.tail (P := fun _ g => g = [.t true]) (w25 e f h three K) rfl ?_
    rintro _ _ rfl
    exact Ret.some ⟨0, rfl, rfl⟩

theorem w20 {R T N D P O l : List (List G)} (a b least e f two i three : Int) (wo : List (List G)) (K : Kinds R T N D P O)
    (H : (three = 0 ∧ F_pileref2_HoursOf [.l l, .l [[.i a, .i b]]] = some [.l O, .i i]) ∨ (three ≠ 0 ∧ wo = O ∧ three = i))
    (H2 : (two = 0 ∧ F_pileref2_PausesOf [.l l, .l [[.i a, .i b]], .i least] = some [.l P]) ∨ (two ≠ 0 ∧ P = [])) :
    Ret (tl_pilelaw2_LogsCounted_20 [.i a, .i b, .l l, .i least, .l R, .l T, .i e, .l N, .i f, .l D, .i e, .l P, .i two, .l O, .i i, .i e, .i f, .i two, .i three, .l R, .l T, .l D, .l wo, .l N]) fun o => ∃ k, o.1 = some k ∧ o.2 = [.t true] := by
  unfold tl_pilelaw2_LogsCounted_20
  (dsimp +instances only [gi0,gis,row1,rows1,int1,str1,bool1])
  simp only [eta2]
  rcases H2 with ⟨rfl, hh⟩ | ⟨hne, rfl⟩
  · refine Ret.pos rfl ?_
    refine Ret.call (Ret.eq hh) ?_
    rintro _ rfl
    (dsimp +instances only [gi0,gis,row1,rows1,int1,str1,bool1])
    refine Ret.tail (P := fun _ g => g = [.t true]) (w23 a b e f 0 i three wo K H) rfl ?_
    rintro _ _ rfl
    exact Ret.some ⟨0, rfl, rfl⟩
  · refine Ret.neg (bf_false hne) ?_
    refine Ret.tail (P := fun _ g => g = [.t true]) (w23 a b e f two i three wo K H) rfl ?_
    rintro _ _ rfl
    exact Ret.some ⟨0, rfl, rfl⟩

theorem w13 {R T N D P O l : List (List G)} (a b from0 least e f two i three : Int) (K : Kinds R T N D P O)
    (H : (three = 0 ∧ F_pileref2_HoursOf [.l l, .l [[.i a, .i b]]] = some [.l O, .i i]) ∨ (three ≠ 0 ∧ [] = O ∧ three = i))
    (H2 : (two = 0 ∧ F_pileref2_PausesOf [.l l, .l [[.i a, .i b]], .i least] = some [.l P]) ∨ (two ≠ 0 ∧ P = []))
    (H3 : (e = 0 ∧ F_pileref2_SerialsOf [.l l] = some [.l R, .l T] ∧ F_pileref2_DupesOf [.l l] = some [.l D] ∧ F_pileref2_RenumberOf [.l l, .i from0] = some [.l N, .i f]) ∨ (e ≠ 0 ∧ R = [] ∧ T = [] ∧ D = [] ∧ N = [] ∧ f = e)) :
    Ret (tl_pilelaw2_LogsCounted_13 [.i a, .i b, .l l, .i from0, .i least, .l R, .l T, .i e, .l N, .i f, .l D, .i e, .l P, .i two, .l O, .i i, .i e, .i e, .i two, .i three]) fun o => ∃ k, o.1 = some k ∧ o.2 = [.t true] := by
  unfold tl_pilelaw2_LogsCounted_13
  (dsimp +instances only [gi0,gis,row1,rows1,int1,str1,bool1])
  rcases H3 with ⟨rfl, h1, h2, h3⟩ | ⟨hne, rfl, rfl, rfl, rfl, rfl⟩
  · refine Ret.pos rfl ?_
    refine Ret.call (Ret.eq h1) ?_
    rintro _ rfl
    refine Ret.call (Ret.eq h2) ?_
    rintro _ rfl
    refine Ret.call (Ret.eq h3) ?_
    rintro _ rfl
    (dsimp +instances only [gi0,gis,row1,rows1,int1,str1,bool1])
    refine Ret.tail (P := fun _ g => g = [.t true]) (w20 a b least 0 f two i three [] K H H2) rfl ?_
    rintro _ _ rfl
    exact Ret.some ⟨0, rfl, rfl⟩
  · refine Ret.neg (bf_false hne) ?_
    refine Ret.tail (P := fun _ g => g = [.t true]) (w20 a b least f f two i three [] K H H2) rfl ?_
    rintro _ _ rfl
    exact Ret.some ⟨0, rfl, rfl⟩

def wf (a b : Int) : Int := bif okW a b then 0 else 1
def lf (least : Int) : Int := bif inB least 1 86400000 then 0 else 1

theorem countedTail (a b from0 least : Int) (l : List (List G)) (hC : ∀ z ∈ l, Con z) (hn : l.length ≤ 20) (hf0 : -200000 ≤ from0) (hf1 : from0 ≤ 200000) (hl0 : -1000000000 ≤ least) (hl1 : least ≤ 1000000000) :
    Ret (tl_pilelaw2_LogsCounted_6 [.i a, .i b, .l l, .i from0, .i least]) fun o => ∃ k, o.1 = some k ∧ o.2 = [.t true] := by
  -- what each function hands back
  have fields : ∃ (R T N D P O : List (List G)) (f two i three : Int), Kinds R T N D P O ∧ two = firstE [faultLog l, wf a b, lf least] ∧ three = firstE [faultLog l, wf a b] ∧
      F_log_Serials [.l l] = some [.l R, .l T, .i (faultLog l)] ∧ F_log_Renumber [.l l, .i from0] = some [.l N, .i f] ∧ F_log_Dupes [.l l] = some [.l D, .i (faultLog l)] ∧
      F_log_Pauses [.l l, .l [[.i a, .i b]], .i least] = some [.l P, .i two] ∧ F_log_Hours [.l l, .l [[.i a, .i b]]] = some [.l O, .i i] ∧
      ((three = 0 ∧ F_pileref2_HoursOf [.l l, .l [[.i a, .i b]]] = some [.l O, .i i]) ∨ (three ≠ 0 ∧ [] = O ∧ three = i)) ∧
      ((two = 0 ∧ F_pileref2_PausesOf [.l l, .l [[.i a, .i b]], .i least] = some [.l P]) ∨ (two ≠ 0 ∧ P = [])) ∧
      ((faultLog l = 0 ∧ F_pileref2_SerialsOf [.l l] = some [.l R, .l T] ∧ F_pileref2_DupesOf [.l l] = some [.l D] ∧ F_pileref2_RenumberOf [.l l, .i from0] = some [.l N, .i f]) ∨ (faultLog l ≠ 0 ∧ R = [] ∧ T = [] ∧ D = [] ∧ N = [] ∧ f = faultLog l)) := by
    by_cases hfl : faultLog l = 0
    · obtain ⟨R, T, r1, r2, r3, r4, r5, r6⟩ := serials_ok l hC hfl (by omega)
      obtain ⟨N, f, n1, n2, n3, n4⟩ := renumber_ok l hC hfl (by omega) from0 hf0 hf1
      have hD : F_log_Dupes [.l l] = some [.l (dupL l l.length), .i 0] := by
        refine Ret.toEq ?_
        unfold F_log_Dupes
        (dsimp +instances only [gi0,gis,row1,rows1,int1,str1,bool1])
        refine Ret.call (Ret.eq (checkLog_eq l hC (by omega))) ?_
        rintro _ rfl
        (dsimp +instances only [gi0,gis,row1,rows1,int1,str1,bool1])
        rw [hfl]
        refine Ret.neg rfl ?_
        refine Ret.call (Ret.eq (dupes_ok l hC (by omega))) ?_
        rintro _ rfl
        exact Ret.some rfl
      have hdl := dupL_length l l.length
      have hP := pauses_ok l hC (by omega) a b least hl0 hl1
      have z : ((0 : Int) != 0) = false := rfl
      rw [hfl] at hP ⊢
      simp only [z, cond_false] at hP
      cases hw : okW a b with
      | false =>
        have hO := hours_bad l hC (by omega) a b (.inr hw)
        rw [hfl] at hO
        simp only [z, cond_false] at hO
        rw [hw] at hP
        simp only [Bool.false_and, cond_false] at hP
        refine ⟨R, T, N, dupL l l.length, [], [], f, 1, 1, 1, ⟨r1, by omega, by omega, n1, n2, by omega, by simp, by simp, by simp⟩, ?_, ?_, r5, n3, hD, hP, hO, .inr ⟨by omega, rfl, rfl⟩, .inr ⟨by omega, rfl⟩, .inl ⟨rfl, r6, dupesOf_ok l hC (by omega), n4⟩⟩
        · simp only [firstE, wf, hw, z, cond_false]; rfl
        · simp only [firstE, wf, hw, z, cond_false]; rfl
      | true =>
        obtain ⟨p1, p2⟩ := pausesA_rows l a b least hw
        obtain ⟨q0, q1, q2⟩ := okW_iff hw
        have hOa : ∃ O i, hoursA l a b = [.l O, .i i] ∧ O.length ≤ 1000 := by
          obtain ⟨k0, k1⟩ := hourN_nonneg q1
          unfold hoursA
          split
          · exact ⟨[], 2, rfl, by simp⟩
          · refine ⟨_, 0, rfl, ?_⟩
            rw [(hoursL_ok l a b q1 l.length).len]
            omega
        obtain ⟨O, i, ho, hol⟩ := hOa
        have hO := hours_ok l hC (by omega) a b hw hfl
        have hO2 := hoursOf_ok l (by omega) a b hw
        rw [ho] at hO hO2
        rw [hw] at hP
        simp only [Bool.true_and] at hP
        cases hl : inB least 1 86400000 with
        | false =>
          rw [hl] at hP
          simp only [cond_false] at hP
          refine ⟨R, T, N, dupL l l.length, [], O, f, 1, i, 0, ⟨r1, by omega, by omega, n1, n2, by omega, by simp, by simp, by omega⟩, ?_, ?_, r5, n3, hD, hP, hO, .inl ⟨rfl, hO2⟩, .inr ⟨by omega, rfl⟩, .inl ⟨rfl, r6, dupesOf_ok l hC (by omega), n4⟩⟩
          · simp only [firstE, wf, lf, hw, hl, z, cond_false, cond_true]; rfl
          · simp only [firstE, wf, hw, z, cond_false, cond_true]
        | true =>
          rw [hl] at hP
          simp only [cond_true] at hP
          refine ⟨R, T, N, dupL l l.length, pausesA l a b least, O, f, 0, i, 0, ⟨r1, by omega, by omega, n1, n2, by omega, p2, by omega, by omega⟩, ?_, ?_, r5, n3, hD, hP, hO, .inl ⟨rfl, hO2⟩, .inl ⟨rfl, pausesOf_ok l (by omega) a b least hw hl⟩, .inl ⟨rfl, r6, dupesOf_ok l hC (by omega), n4⟩⟩
          · simp only [firstE, wf, lf, hw, hl, z, cond_false, cond_true]
          · simp only [firstE, wf, hw, z, cond_false, cond_true]
    · have hb : (faultLog l != 0) = true := by simpa using hfl
      have chk := checkLog_eq l hC (by omega)
      have hS : F_log_Serials [.l l] = some [.l [], .l [], .i (faultLog l)] := by
        refine Ret.toEq ?_
        unfold F_log_Serials
        (dsimp +instances only [gi0,gis,row1,rows1,int1,str1,bool1])
        refine Ret.call (Ret.eq chk) ?_
        rintro _ rfl
        exact Ret.pos hb (Ret.some rfl)
      have hR : F_log_Renumber [.l l, .i from0] = some [.l [], .i (faultLog l)] := by
        refine Ret.toEq ?_
        unfold F_log_Renumber
        (dsimp +instances only [gi0,gis,row1,rows1,int1,str1,bool1])
        refine Ret.call (Ret.eq chk) ?_
        rintro _ rfl
        exact Ret.pos hb (Ret.some rfl)
      have hD : F_log_Dupes [.l l] = some [.l [], .i (faultLog l)] := by
        refine Ret.toEq ?_
        unfold F_log_Dupes
        (dsimp +instances only [gi0,gis,row1,rows1,int1,str1,bool1])
        refine Ret.call (Ret.eq chk) ?_
        rintro _ rfl
        exact Ret.pos hb (Ret.some rfl)
      have hP := pauses_ok l hC (by omega) a b least hl0 hl1
      have hO := hours_bad l hC (by omega) a b (.inl hfl)
      rw [hb] at hP hO
      simp only [cond_true] at hP hO
      refine ⟨[], [], [], [], [], [], faultLog l, faultLog l, faultLog l, faultLog l, ⟨by simp, by simp, by simp, by simp, by simp, by simp, by simp, by simp, by simp⟩, ?_, ?_, hS, hR, hD, hP, hO, .inr ⟨hfl, rfl, rfl⟩, .inr ⟨hfl, rfl⟩, .inr ⟨hfl, rfl, rfl, rfl, rfl, rfl⟩⟩
      · simp only [firstE, hb, cond_true]
      · simp only [firstE, hb, cond_true]
  obtain ⟨R, T, N, D, P, O, f, two, i, three, K, e2, e3, hS, hR, hD, hP, hO, H, H2, H3⟩ := fields
  have main := w13 a b from0 least (faultLog l) f two i three K H H2 H3
  unfold tl_pilelaw2_LogsCounted_6
  (dsimp +instances only [gi0,gis,row1,rows1,int1,str1,bool1])
  simp only [eta2]
  refine Ret.call (Ret.eq hS) ?_
  rintro _ rfl
  refine Ret.call (Ret.eq hR) ?_
  rintro _ rfl
  refine Ret.call (Ret.eq hD) ?_
  rintro _ rfl
  refine Ret.call (Ret.eq hP) ?_
  rintro _ rfl
  refine Ret.call (Ret.eq hO) ?_
  rintro _ rfl
  refine Ret.call (Ret.eq (logFault_eq l hC (by omega))) ?_
  rintro _ rfl
  refine Ret.call (Ret.eq (windowFault_eq a b)) ?_
  rintro _ rfl
  (dsimp +instances only [gi0,gis,row1,rows1,int1,str1,bool1])
  have hthree : F_pilelaw2_errs [.l [[.i (faultLog l)], [.i (bif okW a b then 0 else 1)]]] = some [.i three] := by
    rw [e3]
    exact errs_eq [faultLog l, wf a b] (by simp)
  refine Ret.test (fun hlt => ?_) fun hlt => ?_
  · have hl : lf least = 1 := by
      simp only [ltI_eq, decide_eq_true_eq] at hlt
      have : inB least 1 86400000 = false := by simp [inB, leI_eq]; omega
      simp [lf, this]
    refine Ret.call (Ret.eq (when_eq true 1)) ?_
    rintro _ rfl
    (dsimp +instances only [gi0,gis,row1,rows1,int1,str1,bool1])
    have htwo : F_pilelaw2_errs [.l [[.i (faultLog l)], [.i (bif okW a b then 0 else 1)], [.i (bif true then 1 else 0)]]] = some [.i two] := by
      rw [e2, hl]
      exact errs_eq [faultLog l, wf a b, 1] (by simp)
    refine Ret.call (Ret.eq htwo) ?_
    rintro _ rfl
    refine Ret.call (Ret.eq (windowFault_eq a b)) ?_
    rintro _ rfl
    (dsimp +instances only [gi0,gis,row1,rows1,int1,str1,bool1])
    refine Ret.call (Ret.eq hthree) ?_
    rintro _ rfl
    (dsimp +instances only [gi0,gis,row1,rows1,int1,str1,bool1])
    refine Ret.tail (P := fun _ g => g = [.t true]) main rfl ?_
    rintro _ _ rfl
    exact Ret.some ⟨0, rfl, rfl⟩
  · have hl : (bif ltI 86400000 least then (1 : Int) else 0) = lf least := by
      simp only [ltI_eq, decide_eq_false_iff_not] at hlt
      by_cases hg : 86400000 < least
      · have : inB least 1 86400000 = false := by simp [inB, leI_eq]; omega
        simp [lf, this, ltI_eq, hg]
      · have : inB least 1 86400000 = true := by simp [inB, leI_eq]; omega
        simp [lf, this, ltI_eq, hg]
    refine Ret.call (Ret.eq (when_eq _ 1)) ?_
    rintro _ rfl
    (dsimp +instances only [gi0,gis,row1,rows1,int1,str1,bool1])
    have htwo : F_pilelaw2_errs [.l [[.i (faultLog l)], [.i (bif okW a b then 0 else 1)], [.i (bif ltI 86400000 least then 1 else 0)]]] = some [.i two] := by
      rw [e2, ← hl]
      exact errs_eq [faultLog l, wf a b, (bif ltI 86400000 least then 1 else 0)] (by simp)
    refine Ret.call (Ret.eq htwo) ?_
    rintro _ rfl
    refine Ret.call (Ret.eq (windowFault_eq a b)) ?_
    rintro _ rfl
    (dsimp +instances only [gi0,gis,row1,rows1,int1,str1,bool1])
    refine Ret.call (Ret.eq hthree) ?_
    rintro _ rfl
    (dsimp +instances only [gi0,gis,row1,rows1,int1,str1,bool1])
    refine Ret.tail (P := fun _ g => g = [.t true]) main rfl ?_
    rintro _ _ rfl
    exact Ret.some ⟨0, rfl, rfl⟩

/-- The law of counted logs, whatever numbers the stream has. -/
theorem logsCounted_data (rows : List (List G)) : F_pilelaw2_LogsCounted [.l rows] = some [.t true] := by
  refine Ret.toEq ?_
  unfold F_pilelaw2_LogsCounted
  (dsimp +instances only [gi0,gis,row1,rows1,int1,str1,bool1])
  refine Ret.call (r_Range rows 0 0 12 (by omega) (by omega) (by omega) (by omega) (by omega)) ?_
  rintro _ ⟨v, rfl, hv0, hv1⟩
  (dsimp +instances only [gi0,gis,row1,rows1,int1,str1,bool1])
  refine Ret.call (r_Contacts rows _ v (by omega) (by omega) hv0 (by omega)) ?_
  rintro _ ⟨a1, l, rfl, ha0, ha1, hl, hll⟩
  (dsimp +instances only [gi0,gis,row1,rows1,int1,str1,bool1])
  have hC : ∀ z ∈ l, Con z := fun z hz => (hl z hz).to
  refine Ret.call (r_PickB (-200000) 200000 rows _ _ (by omega) (by omega) (by kernel_rfl) (by kernel_rfl)) ?_
  rintro _ ⟨from0, rfl, hf0, hf1⟩
  (dsimp +instances only [gi0,gis,row1,rows1,int1,str1,bool1])
  refine Ret.call (r_PickB (-1000000000) 1000000000 rows _ _ (by omega) (by omega) (by kernel_rfl) (by kernel_rfl)) ?_
  rintro _ ⟨least, rfl, hm0, hm1⟩
  (dsimp +instances only [gi0,gis,row1,rows1,int1,str1,bool1])
  refine Ret.call (r_PickB (-1) 40000 rows _ _ (by omega) (by omega) (by kernel_rfl) (by kernel_rfl)) ?_
  rintro _ ⟨a, rfl, hp0, hp1⟩
  (dsimp +instances only [gi0,gis,row1,rows1,int1,str1,bool1])
  refine Ret.call (r_PickB 0 345686400001 rows _ _ (by omega) (by omega) (by kernel_rfl) (by kernel_rfl)) ?_
  rintro _ ⟨b, rfl, hq0, hq1⟩
  (dsimp +instances only [gi0,gis,row1,rows1,int1,str1,bool1])
  refine Ret.call (r_Flip rows _ 4 (by omega) (by omega) (by omega) (by omega)) ?_
  rintro _ ⟨fl, rfl⟩
  (dsimp +instances only [gi0,gis,row1,rows1,int1,str1,bool1])
  cases fl with
  | true =>
    refine Ret.pos rfl ?_
    refine Ret.call (r_PickB 1000 1001 rows _ _ (by omega) (by omega) (by kernel_rfl) (by kernel_rfl)) ?_
    rintro _ ⟨k, rfl, hk0, hk1⟩
    (dsimp +instances only [gi0,gis,row1,rows1,int1,str1,bool1])
    refine Ret.pos (by (first|rfl|assumption|(simp only [inI,sl]<;>omega))) (Ret.pos (by (first|rfl|assumption|(simp only [inI,sl]<;>omega))) ?_)
    refine Ret.call (r_PickB (-1) 1 rows _ _ (by omega) (by omega) (by kernel_rfl) (by kernel_rfl)) ?_
    rintro _ ⟨j, rfl, hj0, hj1⟩
    (dsimp +instances only [gi0,gis,row1,rows1,int1,str1,bool1])
    refine Ret.pos (by (first|rfl|assumption|(simp only [inI,sl]<;>omega))) ?_
    refine Ret.tail (P := fun _ g => g = [.t true]) (countedTail a _ from0 least l hC (by omega) hf0 hf1 hm0 hm1) rfl ?_
    rintro _ _ rfl
    exact Ret.some rfl
  | false =>
    refine Ret.neg rfl ?_
    refine Ret.tail (P := fun _ g => g = [.t true]) (countedTail a b from0 least l hC (by omega) hf0 hf1 hm0 hm1) rfl ?_
    rintro _ _ rfl
    exact Ret.some rfl

end Go.Proofs.SYtpfhjchbegdgdaaGreatDoor
