/-
 What is proved here: what the methods of the stream give on data. No condition.
-/
import Derived.Test.YtooejlhignkdgaaGreatDoorML4
import Derived.Test.YtooejlhignkdgaaGreatDoorME
set_option linter.all false
namespace Go.Proofs.SYtooejlhignkdgaaGreatDoor
open Go Go.AL Go.Proofs
noncomputable section
theorem r_Below (x n : Int) (h0 : 1 ≤ n) (h1 : n ≤ 1099511627776) : Ret (F_pilemake_Below [.i x, .i n]) fun g => ∃ v, g = [.i v] ∧ 0 ≤ v ∧ v < n := by
 unfold F_pilemake_Below
 (dsimp +instances only [Aa,Ab,Ac,Ad,Ae,Af,Ag])
 have ha := Int.tmod_lt_of_pos x (by omega : 0 < n)
 have hb := Int.lt_tmod_of_pos x (by omega : 0 < n)
 (repeat first|refine Ret.p ?_|refine Ret.n ?_)
 refine Ret.test (fun h => ?_) fun h => ?_
 ·simp only [ltI_eq, decide_eq_true_eq] at h
  (repeat first|refine Ret.p ?_|refine Ret.n ?_)
  exact Ret.some ⟨_, rfl, by omega, by omega⟩
 ·simp only [ltI_eq, decide_eq_false_iff_not] at h
  exact Ret.some ⟨_, rfl, by omega, by omega⟩
theorem r_Next (l : List (List G)) (a n : Int) (ha : 0 ≤ a) (ha1 : a ≤ 1000000) (h0 : 1 ≤ n) (h1 : n ≤ 1099511627776) :
  Ret (F_mk_Next [.l l, .i a, .i n]) fun g => ∃ v, g = [.l l, .i (a + 1), .i v] ∧ 0 ≤ v ∧ v < n := by
 unfold F_mk_Next
 (dsimp +instances only [Aa,Ab,Ac,Ad,Ae,Af,Ag])
 have ea : a + 1 - 1 = a := by omega
 simp only [ea]
 by_cases hl : l.length = 0
 ·(repeat first|refine Ret.p ?_|refine Ret.n ?_)
  refine Ret.call (r_Below _ n h0 h1) ?_
  rintro _ ⟨v, rfl, h2, h3⟩
  (dsimp +instances only [Aa,Ab,Ac,Ad,Ae,Af,Ag])
  exact Ret.some ⟨v, rfl, h2, h3⟩
 ·have hp : (0 : Int) < (l.length : Int) := by omega
  have d0 : 0 ≤ Int.tdiv a l.length := Int.tdiv_nonneg ha (by omega)
  have d1 : Int.tdiv a l.length ≤ a := by
   rw [Int.tdiv_eq_ediv_of_nonneg ha]
   exact Int.ediv_le_self _ ha
  have m0 : 0 ≤ Int.tmod a l.length := by
   rw [Int.tmod_eq_emod_of_nonneg ha]
   exact Int.emod_nonneg _ (by omega)
  have m1 : Int.tmod a l.length < l.length := Int.tmod_lt_of_pos a hp
  have m2 : Int.tmod a l.length ≤ a := by
   rw [Int.tmod_eq_emod_of_nonneg ha]
   have := Int.mul_ediv_add_emod a l.length
   have h4 : 0 ≤ (l.length : Int) * (a / l.length) := Int.mul_nonneg (by omega) (Int.ediv_nonneg ha (by omega))
   omega
  generalize hq : Int.tdiv a l.length = q at *
  generalize hr : Int.tmod a l.length = r at *
  have p0 : 0 ≤ q * (7919 + r) := Int.mul_nonneg d0 (by omega)
  have p1 : q * (7919 + r) ≤ 1000000 * 2000000 := Int.mul_le_mul (by omega) (by omega) (by omega) (by omega)
  generalize hz : q * (7919 + r) = z at *
  (repeat first|refine Ret.p ?_|refine Ret.n ?_)
  refine Ret.call (r_Below _ 1073741824 (by omega) (by omega)) ?_
  rintro _ ⟨u, rfl, h2, h3⟩
  (dsimp +instances only [Aa,Ab,Ac,Ad,Ae,Af,Ag])
  (repeat first|refine Ret.p ?_|refine Ret.n ?_)
  refine Ret.call (r_Below _ n h0 h1) ?_
  rintro _ ⟨v, rfl, h4, h5⟩
  (dsimp +instances only [Aa,Ab,Ac,Ad,Ae,Af,Ag])
  exact Ret.some ⟨v, rfl, h4, h5⟩
theorem r_Range (l : List (List G)) (a lo hi : Int) (ha : 0 ≤ a) (ha1 : a ≤ 1000000) (h0 : lo ≤ hi) (h1 : -1000000000 ≤ lo) (h2 : hi ≤ 1000000000) :
  Ret (F_mk_Range [.l l, .i a, .i lo, .i hi]) fun g => ∃ v, g = [.l l, .i (a + 1), .i v] ∧ lo ≤ v ∧ v ≤ hi := by
 unfold F_mk_Range
 (dsimp +instances only [Aa,Ab,Ac,Ad,Ae,Af,Ag])
 (repeat first|refine Ret.p ?_|refine Ret.n ?_)
 refine Ret.call (r_Next l a _ ha ha1 (by omega) (by omega)) ?_
 rintro _ ⟨v, rfl, h3, h4⟩
 (dsimp +instances only [Aa,Ab,Ac,Ad,Ae,Af,Ag])
 (repeat first|refine Ret.p ?_|refine Ret.n ?_)
 exact Ret.some ⟨_, rfl, by omega, by omega⟩
theorem getD_mem' {l : List (List G)} {v : Int} (h0 : 0 ≤ v) (h1 : v < l.length) : l.getD v.toNat [] ∈ l := by
 have : v.toNat < l.length := by omega
 rw [List.getD_eq_getElem?_getD, List.getElem?_eq_getElem this]
 exact List.getElem_mem this
theorem r_Pick (P : Int → Prop) (l : List (List G)) (a : Int) (xs : List (List G)) (ha : 0 ≤ a) (ha1 : a ≤ 1000000) (h0 : 1 ≤ xs.length) (h1 : xs.length ≤ 1000000) (hP : ∀ x ∈ xs, P (gi x 0).int) :
  Ret (F_mk_Pick [.l l, .i a, .l xs]) fun g => ∃ v, g = [.l l, .i (a + 1), .i v] ∧ P v := by
 unfold F_mk_Pick
 (dsimp +instances only [Aa,Ab,Ac,Ad,Ae,Af,Ag])
 refine Ret.call (r_Next l a _ ha ha1 (by omega) (by omega)) ?_
 rintro _ ⟨v, rfl, h3, h4⟩
 (dsimp +instances only [Aa,Ab,Ac,Ad,Ae,Af,Ag])
 (repeat first|refine Ret.p ?_|refine Ret.n ?_)
 exact Ret.some ⟨_, rfl, hP _ (getD_mem' h3 h4)⟩
theorem r_Some (P : ByteArray → Prop) (l : List (List G)) (a : Int) (xs : List (List G)) (ha : 0 ≤ a) (ha1 : a ≤ 1000000) (h0 : 1 ≤ xs.length) (h1 : xs.length ≤ 1000000) (hP : ∀ x ∈ xs, P (gi x 0).str) :
  Ret (F_mk_Some [.l l, .i a, .l xs]) fun g => ∃ v, g = [.l l, .i (a + 1), .s v] ∧ P v := by
 unfold F_mk_Some
 (dsimp +instances only [Aa,Ab,Ac,Ad,Ae,Af,Ag])
 refine Ret.call (r_Next l a _ ha ha1 (by omega) (by omega)) ?_
 rintro _ ⟨v, rfl, h3, h4⟩
 (dsimp +instances only [Aa,Ab,Ac,Ad,Ae,Af,Ag])
 (repeat first|refine Ret.p ?_|refine Ret.n ?_)
 exact Ret.some ⟨_, rfl, hP _ (getD_mem' h3 h4)⟩
theorem r_Flip (l : List (List G)) (a n : Int) (ha : 0 ≤ a) (ha1 : a ≤ 1000000) (h0 : 1 ≤ n) (h1 : n ≤ 1000000) :
  Ret (F_mk_Flip [.l l, .i a, .i n]) fun g => ∃ b, g = [.l l, .i (a + 1), .t b] := by
 unfold F_mk_Flip
 (dsimp +instances only [Aa,Ab,Ac,Ad,Ae,Af,Ag])
 refine Ret.call (r_Next l a _ ha ha1 (by omega) (by omega)) ?_
 rintro _ ⟨v, rfl, h3, h4⟩
 exact Ret.some ⟨_, rfl⟩
theorem r_Odd (l : List (List G)) (a lo hi : Int) (ha : 0 ≤ a) (ha1 : a ≤ 900000) (h0 : lo ≤ hi) (h1 : -1000000000 ≤ lo) (h2 : hi ≤ 1000000000) :
  Ret (F_mk_Odd [.l l, .i a, .i lo, .i hi]) fun g => ∃ v, g = [.l l, .i (a + 2), .i v] ∧ -1099511627776 ≤ v ∧ (v ≤ 1000000001 ∨ v = 1099511627776) := by
 unfold F_mk_Odd
 (dsimp +instances only [Aa,Ab,Ac,Ad,Ae,Af,Ag])
 have e2 : a + 1 + 1 = a + 2 := by omega
 refine Ret.call (r_Flip l a 12 ha (by omega) (by omega) (by omega)) ?_
 rintro _ ⟨b, rfl⟩
 (dsimp +instances only [Aa,Ab,Ac,Ad,Ae,Af,Ag])
 cases b with
 | true =>
  (repeat first|refine Ret.p ?_|refine Ret.n ?_)
  refine Ret.call (r_Pick (fun v => -1099511627776 ≤ v ∧ (v ≤ 1000000001 ∨ v = 1099511627776)) l (a + 1) _ (by omega) (by omega) (by simp) (by simp) ?_) ?_
  ·intro x hx
   simp only [List.mem_cons, List.not_mem_nil, or_false] at hx
   rcases hx with rfl | rfl | rfl | rfl | rfl | rfl <;> (dsimp +instances only [Aa,Ab,Ac,Ad,Ae,Af,Ag]) <;> omega
  ·rintro _ ⟨v, rfl, h3, h4⟩
   (dsimp +instances only [Aa,Ab,Ac,Ad,Ae,Af,Ag])
   exact Ret.some ⟨v, by rw [e2], h3, h4⟩
 | false =>
  (repeat first|refine Ret.p ?_|refine Ret.n ?_)
  refine Ret.call (r_Range l (a + 1) lo hi (by omega) (by omega) h0 h1 h2) ?_
  rintro _ ⟨v, rfl, h3, h4⟩
  (dsimp +instances only [Aa,Ab,Ac,Ad,Ae,Af,Ag])
  exact Ret.some ⟨v, by rw [e2], by omega, by omega⟩
def inL (L : List ByteArray) (s : ByteArray) : Bool := L.any fun x => eqS x s
theorem inL_mem {L : List ByteArray} {s : ByteArray} (h : inL L s = true) : s ∈ L := by
 obtain ⟨x, hx, he⟩ := List.any_eq_true.1 h
 exact eqS_eq he ▸ hx
theorem r_PickB (lo hi : Int) (l : List (List G)) (a : Int) (xs : List (List G)) (ha : 0 ≤ a) (ha1 : a ≤ 1000000) (h0 : (Nat.ble 1 xs.length && Nat.ble xs.length 1000000) = true) (hP : (xs.all fun x => leI lo (gi x 0).int && leI (gi x 0).int hi) = true) :
  Ret (F_mk_Pick [.l l, .i a, .l xs]) fun g => ∃ v, g = [.l l, .i (a + 1), .i v] ∧ lo ≤ v ∧ v ≤ hi := by
 simp only [Bool.and_eq_true, Nat.ble_eq] at h0
 refine r_Pick (fun v => lo ≤ v ∧ v ≤ hi) l a xs ha ha1 h0.1 h0.2 fun x hx => ?_
 have := List.all_eq_true.1 hP x hx
 simpa only [leI_eq, Bool.and_eq_true, decide_eq_true_eq] using this
theorem r_SomeB (L : List ByteArray) (l : List (List G)) (a : Int) (xs : List (List G)) (ha : 0 ≤ a) (ha1 : a ≤ 1000000) (h0 : (Nat.ble 1 xs.length && Nat.ble xs.length 1000000) = true) (hP : (xs.all fun x => inL L (gi x 0).str) = true) :
  Ret (F_mk_Some [.l l, .i a, .l xs]) fun g => ∃ v, g = [.l l, .i (a + 1), .s v] ∧ v ∈ L := by
 simp only [Bool.and_eq_true, Nat.ble_eq] at h0
 exact r_Some (fun v => v ∈ L) l a xs ha ha1 h0.1 h0.2 fun x hx => inL_mem (List.all_eq_true.1 hP x hx)
def calls : List ByteArray := [⟨#[]⟩, ⟨#[107, 49]⟩, ⟨#[75, 49, 65, 66]⟩, ⟨#[107, 49, 97, 98, 47]⟩, ⟨#[49, 97]⟩, ⟨#[107, 49, 97, 98, 47, 109, 109, 47, 112]⟩, ⟨#[107, 49, 97, 98]⟩, ⟨#[107, 49, 97, 97]⟩, ⟨#[107, 49, 97, 98, 47, 52]⟩,
 ⟨#[111, 104, 50, 97, 98, 99]⟩, ⟨#[111, 104, 50, 97, 98, 100]⟩, ⟨#[119, 49, 97, 119]⟩, ⟨#[110, 49, 109, 109]⟩, ⟨#[103, 51, 120, 121, 122, 47, 112]⟩]
def bands : List ByteArray := [⟨#[]⟩, ⟨#[66]⟩, ⟨#[98, 50, 48]⟩, ⟨#[98, 52, 48]⟩]
def names : List ByteArray := [⟨#[]⟩, ⟨#[65]⟩, ⟨#[49]⟩, ⟨#[102, 105, 110]⟩, ⟨#[117, 115, 97]⟩]
def small (n : Int) : Prop := -2000000000000 ≤ n ∧ n ≤ 2000000000000
def Con (r : List G) : Prop := ∃ (t m : Int) (b c : ByteArray) (s h : Int) (x y : ByteArray), r = [.i t, .i m, .s b, .s c, .i s, .i h, .s x, .s y] ∧ small t ∧ small m ∧ small s ∧ small h ∧ b ∈ bands ∧ c ∈ calls ∧ x ∈ names ∧ y ∈ names
def tight (n : Int) : Prop := -1900000000000 ≤ n ∧ n ≤ 1900000000000
def tightT (n : Int) : Prop := -1900000000000 ≤ n ∧ (n ≤ 1100000000 ∨ (345686399999 < n ∧ n ≤ 1900000000000))
def ConT (r : List G) : Prop := ∃ (t m : Int) (b c : ByteArray) (s h : Int) (x y : ByteArray), r = [.i t, .i m, .s b, .s c, .i s, .i h, .s x, .s y] ∧ tightT t ∧ tight m ∧ tight s ∧ tight h ∧ b ∈ bands ∧ c ∈ calls ∧ x ∈ names ∧ y ∈ names
theorem tight.to {n : Int} (h : tight n) : small n := ⟨by have := h.1; omega, by have := h.2; omega⟩
theorem tightT.to {n : Int} (h : tightT n) : small n := by
 unfold tightT at h
 exact ⟨by omega, by omega⟩
theorem ConT.to {r : List G} (h : ConT r) : Con r := by
 obtain ⟨t, m, b, c, s, h, x, y, e, h1, h2, h3, h4, h5⟩ := h
 exact ⟨t, m, b, c, s, h, x, y, e, h1.to, h2.to, h3.to, h4.to, h5⟩
theorem Con.eta {r : List G} (h : Con r) : gEta [.int .i64, .int .i64, .str, .str, .int .i64, .int .i64, .str, .str] r = r := by
 obtain ⟨t, m, b, c, s, h, x, y, rfl, _⟩ := h
 rfl
theorem r_ACall (l : List (List G)) (a : Int) (ha : 0 ≤ a) (ha1 : a ≤ 900000) : Ret (F_mk_ACall [.l l, .i a]) fun g => ∃ v, g = [.l l, .i (a + 2), .s v] ∧ v ∈ calls := by
 unfold F_mk_ACall
 (dsimp +instances only [Aa,Ab,Ac,Ad,Ae,Af,Ag])
 have e2 : a + 1 + 1 = a + 2 := by omega
 refine Ret.call (r_Flip l a 60 ha (by omega) (by omega) (by omega)) ?_
 rintro _ ⟨b, rfl⟩
 (dsimp +instances only [Aa,Ab,Ac,Ad,Ae,Af,Ag])
 cases b with
 | true =>
  (repeat first|refine Ret.p ?_|refine Ret.n ?_)
  refine Ret.call (r_SomeB calls l (a + 1) _ (by omega) (by omega) (by kernel_rfl) (by kernel_rfl)) ?_
  rintro _ ⟨v, rfl, h⟩
  exact Ret.some ⟨v, by (dsimp +instances only [Aa,Ab,Ac,Ad,Ae,Af,Ag]); rw [e2], h⟩
 | false =>
  (repeat first|refine Ret.p ?_|refine Ret.n ?_)
  refine Ret.call (r_SomeB calls l (a + 1) _ (by omega) (by omega) (by kernel_rfl) (by kernel_rfl)) ?_
  rintro _ ⟨v, rfl, h⟩
  exact Ret.some ⟨v, by (dsimp +instances only [Aa,Ab,Ac,Ad,Ae,Af,Ag]); rw [e2], h⟩
theorem r_SomeContact (l : List (List G)) (a t : Int) (ha : 0 ≤ a) (ha1 : a ≤ 800000) (ht : tightT t) :
  Ret (F_mk_SomeContact [.l l, .i a, .i t]) fun g => ∃ b r, g = [.l l, .i b, .l [r]] ∧ a ≤ b ∧ b ≤ a + 20 ∧ ConT r := by
 unfold tightT at ht
 unfold F_mk_SomeContact
 (dsimp +instances only [Aa,Ab,Ac,Ad,Ae,Af,Ag])
 refine Ret.call (r_PickB 1 3 l a _ ha (by omega) (by kernel_rfl) (by kernel_rfl)) ?_
 rintro _ ⟨m, rfl, hm⟩
 (dsimp +instances only [Aa,Ab,Ac,Ad,Ae,Af,Ag])
 refine Ret.call (r_SomeB bands l _ _ (by omega) (by omega) (by kernel_rfl) (by kernel_rfl)) ?_
 rintro _ ⟨bd, rfl, hb⟩
 (dsimp +instances only [Aa,Ab,Ac,Ad,Ae,Af,Ag])
 refine Ret.call (r_ACall l _ (by omega) (by omega)) ?_
 rintro _ ⟨c, rfl, hc⟩
 (dsimp +instances only [Aa,Ab,Ac,Ad,Ae,Af,Ag])
 refine Ret.call (r_PickB 0 7 l _ _ (by omega) (by omega) (by kernel_rfl) (by kernel_rfl)) ?_
 rintro _ ⟨s, rfl, hs⟩
 (dsimp +instances only [Aa,Ab,Ac,Ad,Ae,Af,Ag])
 refine Ret.call (r_PickB 0 9 l _ _ (by omega) (by omega) (by kernel_rfl) (by kernel_rfl)) ?_
 rintro _ ⟨h, rfl, hh⟩
 (dsimp +instances only [Aa,Ab,Ac,Ad,Ae,Af,Ag])
 refine Ret.call (r_SomeB names l _ _ (by omega) (by omega) (by kernel_rfl) (by kernel_rfl)) ?_
 rintro _ ⟨x, rfl, hx⟩
 (dsimp +instances only [Aa,Ab,Ac,Ad,Ae,Af,Ag])
 refine Ret.call (r_SomeB names l _ _ (by omega) (by omega) (by kernel_rfl) (by kernel_rfl)) ?_
 rintro _ ⟨y, rfl, hy⟩
 (dsimp +instances only [Aa,Ab,Ac,Ad,Ae,Af,Ag])
 refine Ret.call (r_Flip l _ 100 (by omega) (by omega) (by omega) (by omega)) ?_
 rintro _ ⟨f, rfl⟩
 (dsimp +instances only [Aa,Ab,Ac,Ad,Ae,Af,Ag])
 cases f with
 | false =>
  (repeat first|refine Ret.p ?_|refine Ret.n ?_)
  exact Ret.some ⟨_, _, rfl, by omega, by omega, t, m, bd, c, s, h, x, y, rfl, ht, ⟨by omega, by omega⟩, ⟨by omega, by omega⟩, ⟨by omega, by omega⟩, hb, hc, hx, hy⟩
 | true =>
  (repeat first|refine Ret.p ?_|refine Ret.n ?_)
  refine Ret.call (r_Next l _ 4 (by omega) (by omega) (by omega) (by omega)) ?_
  rintro _ ⟨k, rfl, hk⟩
  (dsimp +instances only [Aa,Ab,Ac,Ad,Ae,Af,Ag])
  by_cases k0 : k = 0
  ·subst k0
   (repeat first|refine Ret.p ?_|refine Ret.n ?_)
   refine Ret.call (r_Odd l _ 0 500 (by omega) (by omega) (by omega) (by omega) (by omega)) ?_
   rintro _ ⟨t', rfl, ht'⟩
   (dsimp +instances only [Aa,Ab,Ac,Ad,Ae,Af,Ag])
   refine Ret.call (r_Odd l _ 1 3 (by omega) (by omega) (by omega) (by omega) (by omega)) ?_
   rintro _ ⟨m', rfl, hm'⟩
   (dsimp +instances only [Aa,Ab,Ac,Ad,Ae,Af,Ag])
   exact Ret.some ⟨_, _, rfl, by omega, by omega, t', m', bd, c, s, h, x, y, rfl, ⟨by omega, by omega⟩, ⟨by omega, by omega⟩, ⟨by omega, by omega⟩, ⟨by omega, by omega⟩, hb, hc, hx, hy⟩
  ·refine Ret.neg (by simpa using k0) ?_
   by_cases k1 : k = 1
   ·subst k1
    (repeat first|refine Ret.p ?_|refine Ret.n ?_)
    refine Ret.call (r_SomeB bands l _ _ (by omega) (by omega) (by kernel_rfl) (by kernel_rfl)) ?_
    rintro _ ⟨b', rfl, hb'⟩
    (dsimp +instances only [Aa,Ab,Ac,Ad,Ae,Af,Ag])
    exact Ret.some ⟨_, _, rfl, by omega, by omega, t, m, b', c, s, h, x, y, rfl, ht, ⟨by omega, by omega⟩, ⟨by omega, by omega⟩, ⟨by omega, by omega⟩, hb', hc, hx, hy⟩
   ·refine Ret.neg (by simpa using k1) ?_
    by_cases k2 : k = 2
    ·subst k2
     (repeat first|refine Ret.p ?_|refine Ret.n ?_)
     refine Ret.call (r_Odd l _ 0 99999 (by omega) (by omega) (by omega) (by omega) (by omega)) ?_
     rintro _ ⟨s', rfl, hs'⟩
     (dsimp +instances only [Aa,Ab,Ac,Ad,Ae,Af,Ag])
     refine Ret.call (r_Odd l _ 0 99999 (by omega) (by omega) (by omega) (by omega) (by omega)) ?_
     rintro _ ⟨h', rfl, hh'⟩
     (dsimp +instances only [Aa,Ab,Ac,Ad,Ae,Af,Ag])
     exact Ret.some ⟨_, _, rfl, by omega, by omega, t, m, bd, c, s', h', x, y, rfl, ht, ⟨by omega, by omega⟩, ⟨by omega, by omega⟩, ⟨by omega, by omega⟩, hb, hc, hx, hy⟩
    ·refine Ret.neg (by simpa using k2) ?_
     refine Ret.call (r_SomeB names l _ _ (by omega) (by omega) (by kernel_rfl) (by kernel_rfl)) ?_
     rintro _ ⟨x', rfl, hx'⟩
     (dsimp +instances only [Aa,Ab,Ac,Ad,Ae,Af,Ag])
     refine Ret.call (r_SomeB names l _ _ (by omega) (by omega) (by kernel_rfl) (by kernel_rfl)) ?_
     rintro _ ⟨y', rfl, hy'⟩
     (dsimp +instances only [Aa,Ab,Ac,Ad,Ae,Af,Ag])
     exact Ret.some ⟨_, _, rfl, by omega, by omega, t, m, bd, c, s, h, x', y', rfl, ht, ⟨by omega, by omega⟩, ⟨by omega, by omega⟩, ⟨by omega, by omega⟩, hb, hc, hx', hy'⟩
def cmpI (a b : Int) : Int := if a < b then -1 else if b < a then 1 else 0
theorem compareBytes_zero : ∀ {a b : List UInt8}, Lib.compareBytes a b = 0 → a = b
 | [], [], _ => rfl
 | [], _ :: _, h => by simp [Lib.compareBytes] at h
 | _ :: _, [], h => by simp [Lib.compareBytes] at h
 | x :: a, y :: b, h => by
  unfold Lib.compareBytes at h
  split at h
  ·cases h
  ·split at h
   ·cases h
   ·rename_i h1 h2
    rw [compareBytes_zero h, UInt8.le_antisymm (UInt8.not_lt.1 h2) (UInt8.not_lt.1 h1)]
theorem compareBytes_self : ∀ a : List UInt8, Lib.compareBytes a a = 0
 | [] => rfl
 | x :: a => by simp [Lib.compareBytes, compareBytes_self a]
theorem str_eq (a b : ByteArray) : (a.toList == b.toList) = decide (cmpS a b = 0) := by
 rw [ByteArray.toList_eq, ByteArray.toList_eq, Bool.eq_iff_iff, decide_eq_true_eq, beq_iff_eq]
 constructor
 ·intro h
  unfold cmpS
  rw [h]
  exact compareBytes_self _
 ·exact fun h => compareBytes_zero h
def or4 (a b c d : Int) : Int := if a ≠ 0 then a else if b ≠ 0 then b else if c ≠ 0 then c else d
def ordC (r s : List G) : Int := or4 (cmpI (gi r 0).int (gi s 0).int) (cmpS (gi r 3).str (gi s 3).str) (cmpS (gi r 2).str (gi s 2).str) (cmpI (gi r 1).int (gi s 1).int)
theorem sign_eq (a b : Int) : F_r2_sign [.i (a - b)] = some [.i (cmpI a b)] := by
 refine Ret.toEq ?_
 unfold F_r2_sign cmpI
 (dsimp +instances only [Aa,Ab,Ac,Ad,Ae,Af,Ag])
 by_cases h1 : a < b
 ·(repeat first|refine Ret.p ?_|refine Ret.n ?_)
  exact Ret.some (by simp [h1])
 ·by_cases h2 : b < a
  ·(repeat first|refine Ret.p ?_|refine Ret.n ?_)
   exact Ret.some (by simp [h1, h2])
  ·(repeat first|refine Ret.p ?_|refine Ret.n ?_)
   exact Ret.some (by simp [h1, h2])
theorem order_eq {r s : List G} (hr : Con r) (hs : Con s) : F_r2_ContactOrder [.l [r], .l [s]] = some [.i (ordC r s)] := by
 obtain ⟨t, m, b, c, _, _, _, _, rfl, ht, hm, _⟩ := hr
 obtain ⟨t', m', b', c', _, _, _, _, rfl, ht', hm', _⟩ := hs
 unfold small at *
 refine Ret.toEq ?_
 unfold F_r2_ContactOrder ordC or4
 (dsimp +instances only [Aa,Ab,Ac,Ad,Ae,Af,Ag])
 simp only [str_eq]
 by_cases e1 : t = t'
 ·subst e1
  have z : cmpI t t = 0 := by simp [cmpI]
  simp only [z]
  (repeat first|refine Ret.p ?_|refine Ret.n ?_)
  by_cases e2 : cmpS c c' = 0
  ·simp only [e2]
   (repeat first|refine Ret.p ?_|refine Ret.n ?_)
   by_cases e3 : cmpS b b' = 0
   ·simp only [e3]
    (repeat first|refine Ret.p ?_|refine Ret.n ?_)
    refine Ret.cE (sign_eq m m') ?_
    (dsimp +instances only [Aa,Ab,Ac,Ad,Ae,Af,Ag])
    exact Ret.some (by simp)
   ·refine Ret.pos (by simpa using e3) (Ret.call (Ret.eq (rfl : F_strings_Compare [.s b, .s b'] = some [.i (cmpS b b')])) ?_)
    rintro _ rfl
    (dsimp +instances only [Aa,Ab,Ac,Ad,Ae,Af,Ag])
    exact Ret.some (by simp [e3])
  ·refine Ret.pos (by simpa using e2) (Ret.call (Ret.eq (rfl : F_strings_Compare [.s c, .s c'] = some [.i (cmpS c c')])) ?_)
   rintro _ rfl
   (dsimp +instances only [Aa,Ab,Ac,Ad,Ae,Af,Ag])
   exact Ret.some (by simp [e2])
 ·(repeat first|refine Ret.p ?_|refine Ret.n ?_)
  refine Ret.cE (sign_eq t t') ?_
  (dsimp +instances only [Aa,Ab,Ac,Ad,Ae,Af,Ag])
  have z : cmpI t t' ≠ 0 := by
   unfold cmpI
   split
   ·omega
   ·split <;> omega
  exact Ret.some (by simp [z])
theorem cmpInt_eq (a b : Int) : F_cmp_Compare_int [.i a, .i b] = some [.i (cmpI a b)] := by
 refine Ret.toEq ?_
 unfold F_cmp_Compare_int F_cmp_isNaN_int cmpI
 (dsimp +instances only [Aa,Ab,Ac,Ad,Ae,Af,Ag])
 simp only [bne_self_eq_false]
 refine Ret.call ⟨_, rfl, rfl⟩ ?_
 rintro _ rfl
 refine Ret.call ⟨_, rfl, rfl⟩ ?_
 rintro _ rfl
 (dsimp +instances only [Aa,Ab,Ac,Ad,Ae,Af,Ag])
 (repeat first|refine Ret.p ?_|refine Ret.n ?_)
 by_cases h1 : a < b
 ·(repeat first|refine Ret.p ?_|refine Ret.n ?_)
  exact Ret.some (by simp [h1])
 ·by_cases h2 : b < a
  ·(repeat first|refine Ret.p ?_|refine Ret.n ?_)
   exact Ret.some (by simp [h1, h2])
  ·(repeat first|refine Ret.p ?_|refine Ret.n ?_)
   exact Ret.some (by simp [h1, h2])
def orL : List (List G) → Int
 | [] => 0
 | x :: q => if (gi x 0).int ≠ 0 then (gi x 0).int else orL q
theorem or_runs : ∀ (q p : List (List G)), p.length + q.length < 100000 →
  RetN st_cmp_Or_int_3 [.i 0, .l (p ++ q), .i ((p.length + q.length : Nat) : Int), .i (p.length : Int)] (q.length + 1) fun c g => c ≤ 1 ∧ g = [.i (orL q)]
 | [], p, hl => by
  refine RetN.stop (x := 1) (Ret.toEq ?_) ⟨by omega, rfl⟩
  unfold st_cmp_Or_int_3
  (dsimp +instances only [Aa,Ab,Ac,Ad,Ae,Af,Ag])
  (repeat first|refine Ret.p ?_|refine Ret.n ?_)
  exact Ret.some rfl
 | y :: q, p, hl => by
  simp only [List.length_cons] at hl
  have g1 : (p ++ y :: q).getD (p.length : Int).toNat [] = y := getD_mid _ _ _ _ _ (by simp)
  have hlen : (p ++ y :: q).length = p.length + q.length + 1 := by simp; omega
  by_cases he : (gi y 0).int = 0
  ·have ih := or_runs q (p ++ [y]) (by simp; omega)
   have e : orL (y :: q) = orL q := by simp [orL, he]
   rw [e]
   refine RetN.next (Ret.toEq ?_) ih
   unfold st_cmp_Or_int_3
   (dsimp +instances only [Aa,Ab,Ac,Ad,Ae,Af,Ag])
   simp only [g1, hlen, List.length_cons]
   (repeat first|refine Ret.p ?_|refine Ret.n ?_)
   refine Ret.some ?_
   simp
   omega
  ·refine RetN.stop (x := 0) (Ret.toEq ?_) ⟨by omega, rfl⟩
   unfold st_cmp_Or_int_3
   (dsimp +instances only [Aa,Ab,Ac,Ad,Ae,Af,Ag])
   simp only [g1, hlen, List.length_cons]
   (repeat first|refine Ret.p ?_|refine Ret.n ?_)
   refine Ret.some ?_
   simp [orL, he]
theorem or_eq (a b c d : Int) : F_cmp_Or_int [.l [[.i a], [.i b], [.i c], [.i d]]] = some [.i (or4 a b c d)] := by
 refine Ret.toEq ?_
 unfold F_cmp_Or_int
 (dsimp +instances only [Aa,Ab,Ac,Ad,Ae,Af,Ag])
 have h := or_runs [[.i a], [.i b], [.i c], [.i d]] [] (by simp)
 refine Ret.loop (h.to (by simp)) (by (first|rfl|assumption|(simp only [inI,sl]<;>omega))) ?_
 rintro x g ⟨hx, rfl⟩
 have e : orL [[.i a], [.i b], [.i c], [.i d]] = or4 a b c d := by
  simp only [orL, or4]
  (dsimp +instances only [Aa,Ab,Ac,Ad,Ae,Af,Ag])
  by_cases h1 : a = 0 <;> by_cases h2 : b = 0 <;> by_cases h3 : c = 0 <;> by_cases h4 : d = 0 <;> simp [h1, h2, h3, h4]
 rw [e]
 (dsimp +instances only [Aa,Ab,Ac,Ad,Ae,Af,Ag])
 exact Ret.test (fun _ => Ret.some rfl) fun _ => Ret.some rfl
theorem compare_eq {r s : List G} (hr : Con r) (hs : Con s) : F_log_Compare [.l [r], .l [s]] = some [.i (ordC r s)] := by
 obtain ⟨t, m, b, c, _, _, _, _, rfl, ht, hm, _⟩ := hr
 obtain ⟨t', m', b', c', _, _, _, _, rfl, ht', hm', _⟩ := hs
 refine Ret.toEq ?_
 unfold F_log_Compare
 (dsimp +instances only [Aa,Ab,Ac,Ad,Ae,Af,Ag])
 refine Ret.cE (cmpInt_eq t t') ?_
 refine Ret.cE (rfl : F_strings_Compare [.s c, .s c'] = some [.i (cmpS c c')]) ?_
 refine Ret.cE (rfl : F_strings_Compare [.s b, .s b'] = some [.i (cmpS b b')]) ?_
 refine Ret.cE (cmpInt_eq m m') ?_
 (dsimp +instances only [Aa,Ab,Ac,Ad,Ae,Af,Ag])
 refine Ret.cE (or_eq _ _ _ _) ?_
 exact Ret.some rfl
theorem cmpOrder : Cmp [.int .i64, .int .i64, .str, .str, .int .i64, .int .i64, .str, .str] F_r2_ContactOrder Con ordC := ⟨fun _ _ hr hs => order_eq hr hs, fun _ h => h.eta⟩
theorem cmpCompare : Cmp [.int .i64, .int .i64, .str, .str, .int .i64, .int .i64, .str, .str] F_log_Compare Con ordC := ⟨fun _ _ hr hs => compare_eq hr hs, fun _ h => h.eta⟩
def inB (v lo hi : Int) : Bool := leI lo v && leI v hi
theorem in_eq (v lo hi : Int) : F_r2_in [.i v, .i lo, .i hi] = some [.t (inB v lo hi)] := by
 unfold F_r2_in inB
 (dsimp +instances only [Aa,Ab,Ac,Ad,Ae,Af,Ag])
 cases leI lo v <;> rfl
theorem outside_eq (v lo hi : Int) : F_kit_Outside [.i v, .i lo, .i hi] = some [.t (!inB v lo hi)] := by
 unfold F_kit_Outside inB
 (dsimp +instances only [Aa,Ab,Ac,Ad,Ae,Af,Ag])
 have h1 : ltI v lo = !leI lo v := by rw [ltI_eq, leI_eq, Bool.eq_iff_iff]; simp
 have h2 : ltI hi v = !leI v hi := by rw [ltI_eq, leI_eq, Bool.eq_iff_iff]; simp
 rw [h1, h2]
 cases leI lo v <;> cases leI v hi <;> rfl
def okKey (s : ByteArray) : Bool := inL [⟨#[98, 50, 48]⟩, ⟨#[98, 52, 48]⟩, ⟨#[102, 105, 110]⟩, ⟨#[117, 115, 97]⟩] s
def okName (s : ByteArray) : Bool := inL [⟨#[]⟩] s || okKey s
def okCall (s : ByteArray) : Bool := (gi ((F_call_Is [.s s]).getD []) 0).bool
theorem isKey_eq {s : ByteArray} (h : s ∈ bands ∨ s ∈ names) : F_kit_IsKey [.s s] = some [.t (okKey s)] := by
 simp only [bands, names, List.mem_cons, List.not_mem_nil, or_false] at h
 rcases h with (rfl | rfl | rfl | rfl) | (rfl | rfl | rfl | rfl | rfl) <;> kernel_rfl
theorem key_eq {s : ByteArray} (h : s ∈ bands ∨ s ∈ names) : F_r2_Key [.s s] = some [.t (okKey s)] := by
 simp only [bands, names, List.mem_cons, List.not_mem_nil, or_false] at h
 rcases h with (rfl | rfl | rfl | rfl) | (rfl | rfl | rfl | rfl | rfl) <;> kernel_rfl
theorem isName_eq {s : ByteArray} (h : s ∈ names) : F_kit_IsName [.s s] = some [.t (okName s)] := by
 simp only [names, List.mem_cons, List.not_mem_nil, or_false] at h
 rcases h with (rfl | rfl | rfl | rfl | rfl) <;> kernel_rfl
theorem isCall_eq {s : ByteArray} (h : s ∈ calls) : F_call_Is [.s s] = some [.t (okCall s)] := by
 simp only [calls, List.mem_cons, List.not_mem_nil, or_false] at h
 rcases h with (rfl | rfl | rfl | rfl | rfl | rfl | rfl | rfl | rfl | rfl | rfl | rfl | rfl | rfl) <;> kernel_rfl
theorem call_eq {s : ByteArray} (h : s ∈ calls) : F_r2_Call [.s s] = some [.t (okCall s)] := by
 simp only [calls, List.mem_cons, List.not_mem_nil, or_false] at h
 rcases h with (rfl | rfl | rfl | rfl | rfl | rfl | rfl | rfl | rfl | rfl | rfl | rfl | rfl | rfl) <;> kernel_rfl
def faultC (r : List G) : Int :=
 bif !inB (gi r 0).int 0 345686399999 then 1 else bif !inB (gi r 1).int 1 3 then 4 else bif !okKey (gi r 2).str then 5 else bif !okCall (gi r 3).str then 3 else
 bif !inB (gi r 4).int 0 99999 then 1 else bif !inB (gi r 5).int 0 99999 then 1 else bif !okName (gi r 6).str then 5 else bif !okName (gi r 7).str then 5 else 0
theorem check_eq {r : List G} (hr : Con r) : F_log_CheckContact [.l [r]] = some [.i (faultC r)] := by
 obtain ⟨t, m, b, c, s, h, x, y, rfl, _, _, _, _, hb, hc, hx, hy⟩ := hr
 unfold F_log_CheckContact F_kit_IsMoment F_kit_IsMode faultC
 (dsimp +instances only [Aa,Ab,Ac,Ad,Ae,Af,Ag])
 have kb := isKey_eq (.inl hb)
 have kx := isName_eq hx
 have ky := isName_eq hy
 have kc := isCall_eq hc
 rw [outside_eq t, outside_eq m]
 rw [kb, kc, outside_eq s, outside_eq h, kx, ky]
 generalize inB t 0 345686399999 = b1
 generalize inB m 1 3 = b2
 generalize okKey b = b3
 generalize okCall c = b4
 generalize inB s 0 99999 = b5
 generalize inB h 0 99999 = b6
 generalize okName x = b7
 generalize okName y = b8
 cases b1 <;> cases b2 <;> cases b3 <;> cases b4 <;> cases b5 <;> cases b6 <;> cases b7 <;> cases b8 <;> rfl
theorem empty_eq (s : ByteArray) : (s.toList == (⟨#[]⟩ : ByteArray).toList) = inL [⟨#[]⟩] s := by
 rw [ByteArray.toList_eq, ByteArray.toList_eq]
 simp only [inL, eqS, List.any_cons, List.any_nil, Bool.or_false]
 rw [Bool.eq_iff_iff]
 simp only [beq_iff_eq]
 exact eq_comm
theorem fault_eq {r : List G} (hr : Con r) : F_r2_ContactFault [.l [r]] = some [.i (faultC r)] := by
 obtain ⟨t, m, b, c, s, h, x, y, rfl, _, _, _, _, hb, hc, hx, hy⟩ := hr
 unfold F_r2_ContactFault F_r2_Moment faultC okName
 (dsimp +instances only [Aa,Ab,Ac,Ad,Ae,Af,Ag])
 have kb := key_eq (.inl hb)
 have kx := key_eq (.inr hx)
 have ky := key_eq (.inr hy)
 have kc := call_eq hc
 have ex := empty_eq x
 have ey := empty_eq y
 generalize (⟨#[]⟩ : ByteArray) = z at ex ey ⊢
 simp only [in_eq, callF_some rfl, kb, kc, kx, ky]
 (dsimp +instances only [Aa,Ab,Ac,Ad,Ae,Af,Ag])
 rw [ex, ey]
 generalize inB t 0 345686399999 = b1
 generalize inB m 1 3 = b2
 generalize okKey b = b3
 generalize okCall c = b4
 generalize inB s 0 99999 = b5
 generalize inB h 0 99999 = b6
 generalize okKey x = b7
 generalize okKey y = b8
 generalize inL [z] x = b9
 generalize inL [z] y = b10
 cases b1 <;> cases b2 <;> cases b3 <;> cases b4 <;> cases b5 <;> cases b6 <;> cases b7 <;> cases b8 <;> cases b9 <;> cases b10 <;> rfl
def chk4 (K : List Kd) (C D : List G → Option (List G)) (d : List G) : Option (Option Nat × List G) :=
 (bif (ltI (gi d 3).int (gi d 2).int) then (bif ((nnI (gi d 3).int) && (ltI (gi d 3).int (((gi d 1).rows.length : Nat) : Int))) then (callF (C [.l [(gEta K ((gi d 1).rows.getD (((gi d 3).int).toNat) []))]]) fun g1 => (bif ((gi g1 0).int != 0) then some (some 0, [.i (gi g1 0).int]) else (bif (ltI 0 (gi d 3).int) then (bif (inI ((gi d 3).int - 1)) then (bif ((nnI ((gi d 3).int - 1)) && (ltI ((gi d 3).int - 1) (((gi d 0).rows.length : Nat) : Int))) then (callF (D [.l [(gEta K ((gi d 0).rows.getD (((gi d 3).int - 1).toNat) []))], .l [(gEta K ((gi d 1).rows.getD (((gi d 3).int).toNat) []))]]) fun g2 => (bif (leI 0 (gi g2 0).int) then some (some 0, [.i 7]) else (bif (inI ((gi d 3).int + 1)) then some (none, [.l (gi d 0).rows, .l (gi d 1).rows, .i (gi d 2).int, .i ((gi d 3).int + 1)]) else none))) else none) else none) else (bif (inI ((gi d 3).int + 1)) then some (none, [.l (gi d 0).rows, .l (gi d 1).rows, .i (gi d 2).int, .i ((gi d 3).int + 1)]) else none)))) else none) else some (some 1, []))
def chkF (K : List Kd) (C D : List G → Option (List G)) (d : List G) : Option (List G) :=
 (bif (ltI 2000 (((gi d 0).rows.length : Nat) : Int)) then some [.i 2] else (loopB true (LRun (chk4 K C D) [.l (gi d 0).rows, .l (gi d 0).rows, .i (((gi d 0).rows.length : Nat) : Int), .i 0]) fun cg3 g3 => (bif Nat.beq cg3 0 then some [.i (gi g3 0).int] else some [.i 0])))
def faultL : Option (List G) → List (List G) → Int
 | _, [] => 0
 | none, x :: q => if faultC x ≠ 0 then faultC x else faultL (some x) q
 | some y, x :: q => if faultC x ≠ 0 then faultC x else if 0 ≤ ordC y x then 7 else faultL (some x) q
def faultLog (l : List (List G)) : Int := if 2000 < l.length then 2 else faultL none l
section
variable {C D : List G → Option (List G)} (hC : ∀ r, Con r → C [.l [r]] = some [.i (faultC r)]) (hD : ∀ r s, Con r → Con s → D [.l [r], .l [s]] = some [.i (ordC r s)])
include hC hD
theorem chk4_runs : ∀ (q p : List (List G)), (∀ z ∈ p ++ q, Con z) → p.length + q.length < 100000 →
  RetN (chk4 [.int .i64, .int .i64, .str, .str, .int .i64, .int .i64, .str, .str] C D) [.l (p ++ q), .l (p ++ q), .i ((p.length + q.length : Nat) : Int), .i (p.length : Int)] (q.length + 1) fun c g => (c = 0 ∧ g = [.i (faultL p.getLast? q)]) ∨ c = 1 ∧ faultL p.getLast? q = 0
 | [], p, hQ, hl => by
  refine RetN.stop (x := 1) (d' := []) (Ret.toEq ?_) (.inr ⟨rfl, by unfold faultL; rfl⟩)
  unfold chk4
  (dsimp +instances only [Aa,Ab,Ac,Ad,Ae,Af,Ag])
  (repeat first|refine Ret.p ?_|refine Ret.n ?_)
  exact Ret.some rfl
 | x :: q, p, hQ, hl => by
  simp only [List.length_cons] at hl
  have hx : Con x := hQ x (by simp)
  have g1 : (p ++ x :: q).getD (p.length : Int).toNat [] = x := getD_mid _ _ _ _ _ (by simp)
  have hlen : (p ++ x :: q).length = p.length + q.length + 1 := by simp; omega
  by_cases hf : faultC x = 0
  ·have ih := chk4_runs q (p ++ [x]) (by simpa using hQ) (by simp; omega)
   rw [List.getLast?_concat] at ih
   rcases List.eq_nil_or_concat p with rfl | ⟨p', y, rfl⟩
   ·have e : faultL ([] : List (List G)).getLast? (x :: q) = faultL (some x) q := by simp [faultL, hf]
    rw [e]
    refine RetN.next (Ret.toEq ?_) ih
    unfold chk4
    (dsimp +instances only [Aa,Ab,Ac,Ad,Ae,Af,Ag])
    simp only [g1, hlen, List.length_cons, hx.eta]
    (repeat first|refine Ret.p ?_|refine Ret.n ?_)
    refine Ret.cE (hC x hx) ?_
    (dsimp +instances only [Aa,Ab,Ac,Ad,Ae,Af,Ag])
    simp only [hf]
    (repeat first|refine Ret.p ?_|refine Ret.n ?_)
    refine Ret.some ?_
    simp
    omega
   ·rw [List.concat_eq_append] at *
    have hy : Con y := hQ y (by simp)
    have g2 : ((p' ++ [y]) ++ x :: q).getD (((p' ++ [y]).length : Int) - 1).toNat [] = y := by
     have e : (p' ++ [y]) ++ x :: q = p' ++ y :: x :: q := by simp
     rw [e]; exact getD_mid _ _ _ _ _ (by simp)
    have hp : (p' ++ [y]).length = p'.length + 1 := by simp
    have hl0 : (p' ++ [y]).getLast? = some y := by simp
    rw [hl0]
    by_cases ho : 0 ≤ ordC y x
    ·refine RetN.stop (x := 0) (d' := [.i 7]) (Ret.toEq ?_) (.inl ⟨rfl, by simp [faultL, hf, ho]⟩)
     unfold chk4
     (dsimp +instances only [Aa,Ab,Ac,Ad,Ae,Af,Ag])
     simp only [g1, g2, hlen, List.length_cons, hx.eta, hy.eta]
     (repeat first|refine Ret.p ?_|refine Ret.n ?_)
     refine Ret.cE (hC x hx) ?_
     (dsimp +instances only [Aa,Ab,Ac,Ad,Ae,Af,Ag])
     simp only [hf]
     (repeat first|refine Ret.p ?_|refine Ret.n ?_)
     refine Ret.cE (hD y x hy hx) ?_
     (dsimp +instances only [Aa,Ab,Ac,Ad,Ae,Af,Ag])
     (repeat first|refine Ret.p ?_|refine Ret.n ?_)
     exact Ret.some rfl
    ·have e : faultL (some y) (x :: q) = faultL (some x) q := by simp [faultL, hf, ho]
     rw [e]
     refine RetN.next (Ret.toEq ?_) ih
     unfold chk4
     (dsimp +instances only [Aa,Ab,Ac,Ad,Ae,Af,Ag])
     simp only [g1, g2, hlen, List.length_cons, hx.eta, hy.eta]
     (repeat first|refine Ret.p ?_|refine Ret.n ?_)
     refine Ret.cE (hC x hx) ?_
     (dsimp +instances only [Aa,Ab,Ac,Ad,Ae,Af,Ag])
     simp only [hf]
     (repeat first|refine Ret.p ?_|refine Ret.n ?_)
     refine Ret.cE (hD y x hy hx) ?_
     (dsimp +instances only [Aa,Ab,Ac,Ad,Ae,Af,Ag])
     (repeat first|refine Ret.p ?_|refine Ret.n ?_)
     refine Ret.some ?_
     simp
     omega
  ·refine RetN.stop (x := 0) (d' := [.i (faultC x)]) (Ret.toEq ?_) (.inl ⟨rfl, by cases hg : p.getLast? <;> simp [faultL, hf]⟩)
   unfold chk4
   (dsimp +instances only [Aa,Ab,Ac,Ad,Ae,Af,Ag])
   simp only [g1, hlen, List.length_cons, hx.eta]
   (repeat first|refine Ret.p ?_|refine Ret.n ?_)
   refine Ret.cE (hC x hx) ?_
   (dsimp +instances only [Aa,Ab,Ac,Ad,Ae,Af,Ag])
   refine Ret.pos (by simpa using hf) (Ret.some rfl)
theorem chkF_eq (l : List (List G)) (hl : ∀ z ∈ l, Con z) (hn : l.length < 100000) : chkF [.int .i64, .int .i64, .str, .str, .int .i64, .int .i64, .str, .str] C D [.l l] = some [.i (faultLog l)] := by
 refine Ret.toEq ?_
 unfold chkF faultLog
 (dsimp +instances only [Aa,Ab,Ac,Ad,Ae,Af,Ag])
 by_cases h : 2000 < l.length
 ·(repeat first|refine Ret.p ?_|refine Ret.n ?_)
  exact Ret.some (by simp [h])
 ·(repeat first|refine Ret.p ?_|refine Ret.n ?_)
  have h1 := chk4_runs hC hD l [] (by simpa using hl) (by simpa using hn)
  have h0 : ((0 : Nat) : Int) = 0 := rfl
  simp only [List.nil_append, List.length_nil, Nat.zero_add, h0] at h1
  refine Ret.loop (h1.to (by omega)) (by (first|rfl|assumption|(simp only [inI,sl]<;>omega))) ?_
  rintro c g (⟨rfl, rfl⟩ | ⟨rfl, h2⟩)
  ·(dsimp +instances only [Aa,Ab,Ac,Ad,Ae,Af,Ag])
   (repeat first|refine Ret.p ?_|refine Ret.n ?_)
   refine Ret.some ?_
   rw [if_neg h]
   rfl
  ·(repeat first|refine Ret.p ?_|refine Ret.n ?_)
   refine Ret.some ?_
   rw [if_neg h]
   exact congrArg (fun z => [G.i z]) h2.symm
end
theorem checkLog_eq (l : List (List G)) (hl : ∀ z ∈ l, Con z) (hn : l.length < 100000) : F_log_CheckLog [.l l] = some [.i (faultLog l)] :=
 chkF_eq (fun _ h => check_eq h) (fun _ _ h h' => compare_eq h h') l hl hn
theorem logFault_eq (l : List (List G)) (hl : ∀ z ∈ l, Con z) (hn : l.length < 100000) : F_r2_LogFault [.l l] = some [.i (faultLog l)] :=
 chkF_eq (fun _ h => fault_eq h) (fun _ _ h h' => order_eq h h') l hl hn
theorem loop_Contacts (l : List (List G)) (n : Nat) (hn : n ≤ 20) : ∀ (k i : Nat) (a t : Int) (acc : List (List G)), i + k = n → 0 ≤ a → a ≤ 700000 + 21 * i → -(1500000 * (i : Int)) ≤ t → t ≤ 1500000 * (i : Int) → (∀ z ∈ acc, ConT z) → acc.length = i →
  RetN st_mk_Contacts_f_4 [.l l, .i a, .l acc, .i t, .i (n : Int), .i (i : Int)] (k + 1) fun c g => c = 0 ∧ ∃ b rows, g = [.l l, .i b, .l rows] ∧ a ≤ b ∧ b ≤ a + 21 * k ∧ (∀ z ∈ rows, ConT z) ∧ rows.length = n
 | 0, i, a, t, acc, hi, ha, ha1, ht, ht1, hQ, hl => by
  refine RetN.stop (x := 0) (Ret.toEq ?_) ⟨rfl, a, acc, rfl, by omega, by omega, hQ, by omega⟩
  unfold st_mk_Contacts_f_4
  (dsimp +instances only [Aa,Ab,Ac,Ad,Ae,Af,Ag])
  (repeat first|refine Ret.p ?_|refine Ret.n ?_)
  exact Ret.some rfl
 | k + 1, i, a, t, acc, hi, ha, ha1, ht, ht1, hQ, hl => by
  have key : Ret (st_mk_Contacts_f_4 [.l l, .i a, .l acc, .i t, .i (n : Int), .i (i : Int)]) fun o => ∃ b r v, o = (none, [.l l, .i b, .l (acc ++ [r]), .i (t + v), .i (n : Int), .i ((i : Int) + 1)]) ∧ a ≤ b ∧ b ≤ a + 21 ∧ ConT r ∧ 0 ≤ v ∧ v ≤ 1500000 := by
   unfold st_mk_Contacts_f_4
   (dsimp +instances only [Aa,Ab,Ac,Ad,Ae,Af,Ag])
   (repeat first|refine Ret.p ?_|refine Ret.n ?_)
   refine Ret.call (r_PickB 0 1500000 l a _ ha (by omega) (by kernel_rfl) (by kernel_rfl)) ?_
   rintro _ ⟨v, rfl, hv0, hv1⟩
   (dsimp +instances only [Aa,Ab,Ac,Ad,Ae,Af,Ag])
   (repeat first|refine Ret.p ?_|refine Ret.n ?_)
   refine Ret.call (r_SomeContact l (a + 1) (t + v) (by omega) (by omega) ⟨by omega, by omega⟩) ?_
   rintro _ ⟨b, r, rfl, hb0, hb1, hr⟩
   (dsimp +instances only [Aa,Ab,Ac,Ad,Ae,Af,Ag])
   simp only [hr.to.eta]
   (repeat first|refine Ret.p ?_|refine Ret.n ?_)
   exact Ret.some ⟨b, r, v, rfl, by omega, by omega, hr, hv0, hv1⟩
  obtain ⟨_, h, b, r, v, rfl, h1, h2, h3, h4, h5⟩ := key
  have ih := loop_Contacts l n hn k (i + 1) b (t + v) (acc ++ [r]) (by omega) (by omega) (by omega) (by omega) (by omega) (by
   intro z hz
   rcases List.mem_append.1 hz with hz | hz
   ·exact hQ z hz
   ·simp at hz; exact hz ▸ h3) (by simp [hl])
  refine RetN.next h (ih.mono ?_)
  rintro c g ⟨rfl, b', rows, rfl, q1, q2, q3, q4⟩
  exact ⟨rfl, b', rows, rfl, by omega, by omega, q3, q4⟩
theorem sortOrder_eq (rows : List (List G)) (hr : ∀ y ∈ rows, Con y) (hn : rows.length ≤ 20) : F_srtS_Contact [.l rows] = some [.l (sortA (ltC ordC) rows)] :=
 sortF_eq cmpOrder rows hr hn
theorem sortCompare_eq (rows : List (List G)) (hr : ∀ y ∈ rows, Con y) (hn : rows.length ≤ 20) : F_srtS_Contact_2 [.l rows] = some [.l (sortA (ltC ordC) rows)] :=
 sortF_eq cmpCompare rows hr hn
def sameC (r s : List G) : Bool := ordC r s == 0
theorem eqvOrder : Eqv [.int .i64, .int .i64, .str, .str, .int .i64, .int .i64, .str, .str] F_mk_Contacts_1 Con sameC := ⟨fun r s hr hs => by
 refine Ret.toEq ?_
 unfold F_mk_Contacts_1
 (dsimp +instances only [Aa,Ab,Ac,Ad,Ae,Af,Ag])
 simp only [hr.eta, hs.eta]
 refine Ret.cE (order_eq hr hs) ?_
 exact Ret.some rfl, fun _ h => h.eta⟩
def zC : List G := [.i 0, .i 0, .s (⟨#[]⟩ : ByteArray), .s (⟨#[]⟩ : ByteArray), .i 0, .i 0, .s (⟨#[]⟩ : ByteArray), .s (⟨#[]⟩ : ByteArray)]
theorem r_Contacts (l : List (List G)) (a n : Int) (ha : 0 ≤ a) (ha1 : a ≤ 700000) (h0 : 0 ≤ n) (h1 : n ≤ 20) :
  Ret (F_mk_Contacts_f [.l l, .i a, .i n]) fun g => ∃ b rows, g = [.l l, .i b, .l rows] ∧ a ≤ b ∧ b ≤ a + 420 ∧ (∀ z ∈ rows, ConT z) ∧ (rows.length : Int) ≤ n := by
 obtain ⟨n, rfl⟩ := Int.eq_ofNat_of_zero_le h0
 unfold F_mk_Contacts_f
 (dsimp +instances only [Aa,Ab,Ac,Ad,Ae,Af,Ag])
 have hl := loop_Contacts l n (by omega) n 0 a 0 [] (by omega) ha (by omega) (by omega) (by omega) (by simp) rfl
 refine Ret.loop (hl.to (by omega)) (by (first|rfl|assumption|(simp only [inI,sl]<;>omega))) ?_
 rintro c g ⟨rfl, b, rows, rfl, h2, h3, h4, h5⟩
 (dsimp +instances only [Aa,Ab,Ac,Ad,Ae,Af,Ag])
 refine Ret.callb (Ret.eq (sortOrder_eq rows (fun z hz => (h4 z hz).to) (by omega))) (by (first|rfl|assumption|(simp only [inI,sl]<;>omega))) ?_
 rintro _ rfl
 (dsimp +instances only [Aa,Ab,Ac,Ad,Ae,Af,Ag])
 have hs := sortA_all (lt := ltC ordC) h4
 have hsl := sortA_length (ltC ordC) rows
 refine Ret.callb (P := fun g => ∃ J, g = [.l (compact sameC (sortA (ltC ordC) rows) ++ J), .i ((compact sameC (sortA (ltC ordC) rows)).length : Int)] ∧ (compact sameC (sortA (ltC ordC) rows) ++ J).length = (sortA (ltC ordC) rows).length)
  (cmpfF_eq (Z := zC) eqvOrder (sortA (ltC ordC) rows) (fun z hz => (hs z hz).to) (by omega)) (by (first|rfl|assumption|(simp only [inI,sl]<;>omega))) ?_
 rintro _ ⟨J, rfl, hJ⟩
 (dsimp +instances only [Aa,Ab,Ac,Ad,Ae,Af,Ag])
 have hle : (compact sameC (sortA (ltC ordC) rows)).length ≤ (sortA (ltC ordC) rows).length := compact_length _ _
 refine Ret.pos (by simp) ?_
 refine Ret.some ⟨b, compact sameC (sortA (ltC ordC) rows), by simp, by omega, by omega, fun z hz => hs z (compact_mem hz), by omega⟩
theorem faultL_all : ∀ {l : List (List G)} {o : Option (List G)}, faultL o l = 0 → ∀ x ∈ l, faultC x = 0
 | [], _, _, x, hx => by cases hx
 | y :: l, none, h, x, hx => by
  simp only [faultL] at h
  by_cases hy : faultC y = 0
  ·rw [if_neg (by simpa using hy)] at h
   rcases List.mem_cons.1 hx with rfl | hx
   ·exact hy
   ·exact faultL_all h x hx
  ·rw [if_pos hy] at h
   exact (hy h).elim
 | y :: l, some z, h, x, hx => by
  simp only [faultL] at h
  by_cases hy : faultC y = 0
  ·rw [if_neg (by simpa using hy)] at h
   split at h
   ·cases h
   ·rcases List.mem_cons.1 hx with rfl | hx
    ·exact hy
    ·exact faultL_all h x hx
  ·rw [if_pos hy] at h
   exact (hy h).elim
theorem faultLog_all {l : List (List G)} (h : faultLog l = 0) : ∀ x ∈ l, faultC x = 0 := by
 unfold faultLog at h
 split at h
 ·cases h
 ·exact faultL_all h
structure SerOK (s : List (List G) × List (List G)) (i : Nat) : Prop where
 l1 : s.1.length ≤ i
 l2 : s.2.length ≤ i
 r1 : ∀ r ∈ s.1, ∃ a b, r = [.i a, .i b] ∧ 0 ≤ b ∧ b ≤ i + 1
 r2 : ∀ r ∈ s.2, ∃ a, r = [.i a]
/-! ### Hours: their sum -/
/-! ### The law -/
theorem bytes_flip' : ∀ a b : List UInt8, Lib.compareBytes b a = - Lib.compareBytes a b
 | [], [] => rfl
 | [], _ :: _ => rfl
 | _ :: _, [] => rfl
 | a :: xs, b :: ys => by
  simp only [Lib.compareBytes]
  have ih := bytes_flip' xs ys
  by_cases h1 : a < b
  ·have h2 : ¬ b < a := fun h => UInt8.lt_irrefl a (UInt8.lt_trans h1 h)
   simp [h1, h2]
  ·by_cases h2 : b < a
   ·simp [h1, h2]
   ·simp [h1, h2, ih]
theorem bytes_lt_trans' : ∀ {a b c : List UInt8}, Lib.compareBytes a b < 0 → Lib.compareBytes b c < 0 → Lib.compareBytes a c < 0
 | [], [], _, h, _ => by simp [Lib.compareBytes] at h
 | [], _ :: _, [], _, h => by simp [Lib.compareBytes] at h
 | [], _ :: _, _ :: _, _, _ => by simp [Lib.compareBytes]
 | _ :: _, [], _, h, _ => by simp [Lib.compareBytes] at h
 | _ :: _, _ :: _, [], _, h => by simp [Lib.compareBytes] at h
 | a :: xs, b :: ys, c :: zs, h1, h2 => by
  simp only [Lib.compareBytes] at h1 h2 ⊢
  by_cases hab : a < b
  ·by_cases hbc : b < c
   ·rw [if_pos (UInt8.lt_trans hab hbc)]
    omega
   ·by_cases hcb : c < b
    ·rw [if_neg hbc, if_pos hcb] at h2
     omega
    ·have e : b = c := UInt8.le_antisymm (UInt8.not_lt.1 hcb) (UInt8.not_lt.1 hbc)
     subst e
     rw [if_pos hab]
     omega
  ·by_cases hba : b < a
   ·rw [if_neg hab, if_pos hba] at h1
    omega
   ·have e : a = b := UInt8.le_antisymm (UInt8.not_lt.1 hba) (UInt8.not_lt.1 hab)
    subst e
    rw [if_neg (UInt8.lt_irrefl a), if_neg (UInt8.lt_irrefl a)] at h1
    by_cases hac : a < c
    ·rw [if_pos hac]
     omega
    ·by_cases hca : c < a
     ·rw [if_neg hac, if_pos hca] at h2
      omega
     ·rw [if_neg hac, if_neg hca] at h2 ⊢
      exact bytes_lt_trans' h1 h2
theorem str_ext {a b : ByteArray} (h : (a.toList == b.toList) = true) : a = b := by
 rw [ByteArray.toList_eq, ByteArray.toList_eq, beq_iff_eq] at h
 exact ByteArray.ext (Array.toList_inj.1 h)
theorem cmpS_z {a b : ByteArray} : cmpS a b = 0 ↔ a = b := by
 have h := str_eq a b
 constructor
 ·intro e
  rw [decide_eq_true (p := cmpS a b = 0) e] at h
  exact str_ext h
 ·rintro rfl
  have h2 : (a.toList == a.toList) = true := by simp
  rw [h2] at h
  exact of_decide_eq_true h.symm
theorem cmpI_z {a b : Int} : cmpI a b = 0 ↔ a = b := by
 unfold cmpI
 constructor
 ·intro h
  split at h
  ·omega
  ·split at h <;> omega
 ·rintro rfl
  simp
theorem cmpI_lt {a b : Int} : cmpI a b < 0 ↔ a < b := by
 unfold cmpI
 constructor
 ·intro h
  split at h
  ·assumption
  ·split at h <;> omega
 ·intro h
  rw [if_pos h]
  omega
structure Ordr {α : Type} (c : α → α → Int) : Prop where
 flip : ∀ a b, c b a = - c a b
 eq : ∀ a b, c a b = 0 → a = b
 tr : ∀ a b d, c a b < 0 → c b d < 0 → c a d < 0
theorem ordrI : Ordr cmpI := ⟨fun a b => by unfold cmpI; split <;> split <;> first | omega | (split <;> omega) | skip, fun a b h => cmpI_z.1 h, fun a b d h1 h2 => cmpI_lt.2 (Int.lt_trans (cmpI_lt.1 h1) (cmpI_lt.1 h2))⟩
theorem ordrS : Ordr cmpS := ⟨fun a b => bytes_flip' _ _, fun a b h => cmpS_z.1 h, fun a b d h1 h2 => bytes_lt_trans' h1 h2⟩
theorem Ordr.le {α : Type} {c : α → α → Int} (h : Ordr c) (a b d : α) (h1 : c a b ≤ 0) (h2 : c b d ≤ 0) : c a d ≤ 0 := by
 by_cases e1 : c a b = 0
 ·rw [h.eq a b e1]
  exact h2
 ·by_cases e2 : c b d = 0
  ·rw [← h.eq b d e2]
   exact h1
  ·have := h.tr a b d (by omega) (by omega)
   omega
theorem Ordr.refl {α : Type} {c : α → α → Int} (h : Ordr c) (a : α) : c a a = 0 := by
 have := h.flip a a
 omega
def or2 (a b : Int) : Int := if a ≠ 0 then a else b
theorem or2_le {α : Type} {c : α → α → Int} (h : Ordr c) (a b d : α) (x y z : Int) (h1 : or2 (c a b) x ≤ 0) (h2 : or2 (c b d) y ≤ 0) (h3 : x ≤ 0 → y ≤ 0 → z ≤ 0) : or2 (c a d) z ≤ 0 := by
 unfold or2 at *
 by_cases e1 : c a b = 0
 ·have e := h.eq a b e1
  subst e
  rw [if_neg (by simpa using e1)] at h1
  by_cases e2 : c a d = 0
  ·rw [if_neg (by simpa using e2)] at h2 ⊢
   exact h3 h1 h2
  ·rw [if_pos e2] at h2 ⊢
   exact h2
 ·rw [if_pos e1] at h1
  by_cases e2 : c b d = 0
  ·have e := h.eq b d e2
   subst e
   rw [if_pos e1]
   exact h1
  ·rw [if_pos e2] at h2
   have := h.tr a b d (by omega) (by omega)
   rw [if_pos (by omega)]
   omega
theorem or2_lt {α : Type} {c : α → α → Int} (h : Ordr c) (a b d : α) (x y z : Int) (h1 : or2 (c a b) x < 0) (h2 : or2 (c b d) y < 0) (h3 : x < 0 → y < 0 → z < 0) : or2 (c a d) z < 0 := by
 unfold or2 at *
 by_cases e1 : c a b = 0
 ·have e := h.eq a b e1
  subst e
  rw [if_neg (by simpa using e1)] at h1
  by_cases e2 : c a d = 0
  ·rw [if_neg (by simpa using e2)] at h2 ⊢
   exact h3 h1 h2
  ·rw [if_pos e2] at h2 ⊢
   exact h2
 ·rw [if_pos e1] at h1
  by_cases e2 : c b d = 0
  ·have e := h.eq b d e2
   subst e
   rw [if_pos e1]
   exact h1
  ·rw [if_pos e2] at h2
   have := h.tr a b d (by omega) (by omega)
   rw [if_pos (by omega)]
   omega
theorem or2_flip {a b a' b' : Int} (h1 : a' = - a) (h2 : b' = - b) : or2 a' b' = - or2 a b := by
 unfold or2
 subst h1 h2
 by_cases e : a = 0
 ·subst e
  simp
 ·rw [if_pos e, if_pos (by omega)]
theorem lin_of {c : List G → List G → Int} (hf : ∀ a b, c b a = - c a b) (ht : ∀ a b d, c a b ≤ 0 → c b d ≤ 0 → c a d ≤ 0) : Lin (ltC c) (fun _ => True) := by
 have lt : ∀ r s, ltC c r s = decide (c r s < 0) := fun r s => by unfold ltC; rw [ltI_eq]
 refine ⟨fun a b d _ _ _ h1 h2 => ?_, fun a b _ _ h => ?_⟩
 ·rw [lt, decide_eq_false_iff_not] at *
  have := ht d b a (by have := hf d b; omega) (by have := hf b a; omega)
  have := hf a d
  omega
 ·rw [lt, decide_eq_true_eq] at h
  rw [lt, decide_eq_false_iff_not]
  have := hf a b
  omega
/-! ### Lists that are checked row by row -/
def cats : List ByteArray := [⟨#[97, 108, 108]⟩, ⟨#[99, 111, 100, 101]⟩, ⟨#[65]⟩]
def locs : List ByteArray := [⟨#[]⟩, ⟨#[107, 112, 50, 48, 108, 102]⟩, ⟨#[107, 112, 50, 48]⟩]
def Ent (r : List G) : Prop := ∃ (c k : ByteArray) (p : Int) (q : ByteArray), r = [.s c, .s k, .i p, .s q] ∧ c ∈ calls ∧ k ∈ cats ∧ -1099511627776 ≤ p ∧ p ≤ 1099511627776 ∧ q ∈ locs
theorem Ent.eta {r : List G} (h : Ent r) : gEta [.str, .str, .int .i64, .str] r = r := by
 obtain ⟨c, k, p, q, rfl, _⟩ := h
 rfl
def two : List (List G) := [[.s (⟨#[97, 108, 108]⟩ : ByteArray)], [.s (⟨#[99, 111, 100, 101]⟩ : ByteArray)]]
/-! ### What is wrong with entrants -/
theorem ordC_fl (r s : List G) : ordC s r = - ordC r s := or2_flip (ordrI.flip _ _) (or2_flip (ordrS.flip _ _) (or2_flip (ordrS.flip _ _) (ordrI.flip _ _)))
theorem ordC_le {a b d : List G} (h1 : ordC a b ≤ 0) (h2 : ordC b d ≤ 0) : ordC a d ≤ 0 :=
 or2_le ordrI _ _ _ _ _ _ h1 h2 fun g1 g2 => or2_le ordrS _ _ _ _ _ _ g1 g2 fun k1 k2 => or2_le ordrS _ _ _ _ _ _ k1 k2 fun m1 m2 => ordrI.le _ _ _ m1 m2
def SP (R R' : List (List G)) (a b : Nat) : Prop :=
 R'.length = R.length ∧ R'.Perm R ∧ (∀ k, k < a ∨ b ≤ k → R'.getD k [] = R.getD k []) ∧ ∀ k, a ≤ k → k < b → ∃ k', a ≤ k' ∧ k' < b ∧ R'.getD k [] = R.getD k' []
theorem SP.refl (R : List (List G)) (a b : Nat) : SP R R a b := ⟨rfl, List.Perm.refl _, fun _ _ => rfl, fun k h1 h2 => ⟨k, h1, h2, rfl⟩⟩
theorem SP.trans {R S T : List (List G)} {a b : Nat} (h : SP R S a b) (h' : SP S T a b) : SP R T a b :=
 ⟨h'.1.trans h.1, h'.2.1.trans h.2.1, fun k hk => (h'.2.2.1 k hk).trans (h.2.2.1 k hk), fun k h1 h2 => by
  obtain ⟨k', q1, q2, q3⟩ := h'.2.2.2 k h1 h2
  obtain ⟨k'', p1, p2, p3⟩ := h.2.2.2 k' q1 q2
  exact ⟨k'', p1, p2, q3.trans p3⟩⟩
def Srt (R : List (List G)) (a b : Nat) : Prop := ∀ i j, a ≤ i → i < j → j < b → ordC (R.getD i []) (R.getD j []) ≤ 0
def Below (R : List (List G)) (a b c d : Nat) : Prop := ∀ i j, a ≤ i → i < b → c ≤ j → j < d → ordC (R.getD i []) (R.getD j []) ≤ 0
theorem Srt.join {R : List (List G)} {a c b : Nat} (h1 : Srt R a c) (h2 : Srt R c b) (h : Below R a c c b) : Srt R a b := fun i j hi hij hj => by
 by_cases k1 : j < c
 ·exact h1 i j hi hij k1
 ·by_cases k2 : c ≤ i
  ·exact h2 i j k2 hij hj
  ·exact h i j hi (by omega) (by omega) hj
/-! ### Blocks that change places -/
def xrI (a b n k : Nat) : Nat := if a ≤ k ∧ k < a + n then k - a + b else if b ≤ k ∧ k < b + n then k - b + a else k
def XR (R R' : List (List G)) (a b n : Nat) : Prop := R'.length = R.length ∧ R'.Perm R ∧ ∀ k, R'.getD k [] = R.getD (xrI a b n k) []
def rtI (a m b k : Nat) : Nat := if a ≤ k ∧ k < a + (b - m) then k + (m - a) else if a + (b - m) ≤ k ∧ k < b then k - (b - m) else k
def RT (R R' : List (List G)) (a m b : Nat) : Prop := R'.length = R.length ∧ R'.Perm R ∧ ∀ k, R'.getD k [] = R.getD (rtI a m b k) []
theorem RT.left {R S T : List (List G)} {m i j : Nat} (h1 : j < i) (h2 : i ≤ m) (h : XR R S (m - i) m j) (h' : RT S T (m - (i - j)) m (m + j)) : RT R T (m - i) m (m + j) :=
 ⟨h'.1.trans h.1, h'.2.1.trans h.2.1, fun k => by
  rw [h'.2.2, h.2.2]
  congr 1
  unfold rtI xrI
  repeat' split
  all_goals omega⟩
theorem RT.right {R S T : List (List G)} {m i j : Nat} (h1 : i < j) (h2 : i ≤ m) (h : XR R S (m - i) (m + j - i) i) (h' : RT S T (m - i) m (m + (j - i))) : RT R T (m - i) m (m + j) :=
 ⟨h'.1.trans h.1, h'.2.1.trans h.2.1, fun k => by
  rw [h'.2.2, h.2.2]
  congr 1
  unfold rtI xrI
  repeat' split
  all_goals omega⟩
theorem RT.same {R S : List (List G)} {m i : Nat} (h2 : i ≤ m) (h : XR R S (m - i) m i) : RT R S (m - i) m (m + i) :=
 ⟨h.1, h.2.1, fun k => by
  rw [h.2.2]
  congr 1
  unfold rtI xrI
  repeat' split
  all_goals omega⟩
def byL (l : List UInt8) : ByteArray := ⟨l.toArray⟩
theorem byL_data (l : List UInt8) : (byL l).data.toList = l := by simp [byL]
theorem byL_list (l : List UInt8) : (byL l).toList = l := by rw [Lib.toList_data, byL_data]
theorem byL_size (l : List UInt8) : (byL l).size = l.length := by rw [Lib.size_eq, byL_data]
theorem byL_of (b : ByteArray) : byL b.data.toList = b := mk_list b
theorem byL_inj {a b : ByteArray} (h : a.data.toList = b.data.toList) : a = b := by rw [← byL_of a, h, byL_of]
theorem byL_append (a b : List UInt8) : byL a ++ byL b = byL (a ++ b) := byL_inj (by simp [byL])
theorem byL_nil : byL [] = (⟨#[]⟩ : ByteArray) := rfl
theorem itoa_byL (n : Int) : itoaZ n = byL (Lib.itoa n) := rfl
/-! ### Join -/
theorem strs_map (ws : List ByteArray) : (strsOf (ws.map fun w => [G.s w])).map (·.data.toList) = ws.map (·.data.toList) := by
 unfold strsOf
 rw [List.map_map, List.map_map]
 rfl
theorem joinKit (ws : List ByteArray) (hn : ws.length ≤ 1000) (hl : (lineL (ws.map (·.data.toList))).length ≤ 1000000) : F_kit_Join [.l (ws.map fun w => [.s w])] = some [.s (byL (lineL (ws.map (·.data.toList))))] := by
 have e : joinB (ws.map fun w => [G.s w]) (⟨#[32]⟩ : ByteArray) = byL (Lib.join (ws.map (·.data.toList)) [32]) := by
  unfold joinB
  rw [strs_map]
  rfl
 have hl' : (Lib.join (ws.map (·.data.toList)) [32]).length + 1 ≤ 1000000 := by
  simpa [lineL] using hl
 have hj : F_strings_Join [.l (ws.map fun w => [.s w]), .s (⟨#[32]⟩ : ByteArray)] = some [.s (byL (Lib.join (ws.map (·.data.toList)) [32]))] := by
  refine Ret.toEq ?_
  unfold F_strings_Join joinF
  (dsimp +instances only [Aa,Ab,Ac,Ad,Ae,Af,Ag])
  rw [e, byL_size]
  refine Ret.pos ?_ (Ret.some rfl)
  rw [List.length_map, Bool.and_eq_true, Nat.ble_eq, Nat.ble_eq]
  omega
 refine Ret.toEq ?_
 unfold F_kit_Join
 (dsimp +instances only [Aa,Ab,Ac,Ad,Ae,Af,Ag])
 refine Ret.cE hj ?_
 (dsimp +instances only [Aa,Ab,Ac,Ad,Ae,Af,Ag])
 refine Ret.pos (by rw [byL_size, Nat.ble_eq]; omega) (Ret.some ?_)
 rw [show (⟨#[10]⟩ : ByteArray) = byL [10] from rfl, byL_append]
 rfl
/-! ### Split -/
theorem splitLib (c : UInt8) (x : List UInt8) (xs : List (List UInt8)) (h : ∀ y ∈ x :: xs, c ∉ y) (hl : (Lib.join (x :: xs) [c]).length ≤ 1000000) :
  F_strings_Split [.s (byL (Lib.join (x :: xs) [c])), .s (⟨#[c]⟩ : ByteArray)] = some [.l ((x :: xs).map fun y => [G.s (byL y)])] := by
 refine Ret.toEq ?_
 unfold F_strings_Split
 (dsimp +instances only [Aa,Ab,Ac,Ad,Ae,Af,Ag])
 have hs : F_strings_genSplit [.s (byL (Lib.join (x :: xs) [c])), .s (⟨#[c]⟩ : ByteArray), .i 0, .i (-1)] = some [.l ((x :: xs).map fun y => [G.s (byL y)])] := by
  refine Ret.toEq ?_
  unfold F_strings_genSplit splitF
  (dsimp +instances only [Aa,Ab,Ac,Ad,Ae,Af,Ag])
  refine Ret.pos ?_ (Ret.some ?_)
  ·rw [byL_size, Bool.and_eq_true, Bool.and_eq_true, Bool.and_eq_true]
   exact ⟨rfl, rfl, rfl, by rw [Nat.blt_eq]; omega⟩
  ·rw [splitG_join (byL_data _) h]
   rfl
 refine Ret.cE hs ?_
 exact Ret.some rfl
theorem cutEnd (b : List UInt8) (hl : b.length ≤ 1000000) : F_strings_CutSuffix [.s (byL (b ++ [10])), .s (⟨#[10]⟩ : ByteArray)] = some [.s (byL b), .t true] := by
 have hz : (byL (b ++ [10])).size = b.length + 1 := by rw [byL_size]; simp
 have h1 : (⟨#[10]⟩ : ByteArray).size = 1 := rfl
 have hsuf : F_stringslite_HasSuffix [.s (byL (b ++ [10])), .s (⟨#[10]⟩ : ByteArray)] = some [.t true] := by
  refine Ret.toEq ?_
  unfold F_stringslite_HasSuffix
  (dsimp +instances only [Aa,Ab,Ac,Ad,Ae,Af,Ag])
  rw [hz, h1]
  refine Ret.pos (by rw [leI_eq, decide_eq_true_eq]; omega) (Ret.p (Ret.pos (by rw [Bool.and_eq_true, nnI_eq, leI_eq, decide_eq_true_eq, decide_eq_true_eq]; omega) (Ret.some ?_)))
  have : ((byL (b ++ [10])).extract (((b.length + 1 : Nat) : Int) - ((1 : Nat) : Int)).toNat (b.length + 1)).toList = [10] := by
   rw [Lib.toList_data, ← hz, Lib.extract_to_end, byL_data, show (((byL (b ++ [10])).size : Int) - ((1 : Nat) : Int)).toNat = b.length from by rw [hz]; omega]
   simp
  rw [this, Lib.toList_data]
  rfl
 refine Ret.toEq ?_
 unfold F_strings_CutSuffix
 (dsimp +instances only [Aa,Ab,Ac,Ad,Ae,Af,Ag])
 refine Ret.call (P := fun g => g = [.s (byL b), .t true]) ?_ ?_
 ·unfold F_stringslite_CutSuffix
  (dsimp +instances only [Aa,Ab,Ac,Ad,Ae,Af,Ag])
  refine Ret.cE hsuf ?_
  (dsimp +instances only [Aa,Ab,Ac,Ad,Ae,Af,Ag])
  rw [hz, h1]
  refine Ret.neg rfl (Ret.p (Ret.pos (by rw [Bool.and_eq_true, nnI_eq, leI_eq, decide_eq_true_eq, decide_eq_true_eq]; omega) (Ret.some ?_)))
  have : (byL (b ++ [10])).extract 0 (((b.length + 1 : Nat) : Int) - ((1 : Nat) : Int)).toNat = byL b := byL_inj (by
   rw [Lib.extract_data, byL_data, byL_data, show (((b.length + 1 : Nat) : Int) - ((1 : Nat) : Int)).toNat = b.length from by omega]
   simp)
  rw [this]
 ·rintro _ rfl
  exact Ret.some rfl
/-! ### Lines and words -/
theorem linesKit (ls : List (List (List UInt8))) (h : ∀ ws ∈ ls, ∀ w ∈ ws, Word w) (hl : (textL ls).length ≤ 1000000) : F_kit_Lines [.s (byL (textL ls))] = some [.l (ls.map fun ws => [G.s (byL (Lib.join ws [32]))]), .t true] := by
 refine Ret.toEq ?_
 unfold F_kit_Lines
 (dsimp +instances only [Aa,Ab,Ac,Ad,Ae,Af,Ag])
 rw [byL_list]
 cases ls with
 | nil => exact Ret.pos (by rw [Lib.toList_data]; rfl) (Ret.some rfl)
 | cons ws ls =>
  rw [text_body] at hl ⊢
  generalize hb : Lib.join ((ws :: ls).map fun w => Lib.join w [32]) [10] = body at hl ⊢
  have hl' : body.length + 1 ≤ 1000000 := by simpa using hl
  refine Ret.neg ?_ ?_
  ·rw [Lib.toList_data, beq_eq_false_iff_ne]
   simp
  refine Ret.cE (cutEnd body (by omega)) ?_
  (dsimp +instances only [Aa,Ab,Ac,Ad,Ae,Af,Ag])
  have hs : F_strings_Split [.s (byL body), .s (⟨#[10]⟩ : ByteArray)] = some [.l (((ws :: ls).map fun w => Lib.join w [32]).map fun y => [G.s (byL y)])] := by
   rw [← hb]
   refine splitLib 10 _ _ (fun y hy => ?_) (by
    have : (Lib.join ((ws :: ls).map fun w => Lib.join w [32]) [10]).length ≤ 1000000 := by rw [hb]; omega
    exact this)
   rw [← List.map_cons (f := fun w => Lib.join w [32])] at hy
   obtain ⟨w, hw, rfl⟩ := List.mem_map.1 hy
   exact line_nl fun z hz => h w hw z hz
  refine Ret.cE hs ?_
  refine Ret.some ?_
  rw [List.map_map]
  rfl
theorem wordsKit (ws : List (List UInt8)) (h0 : ws ≠ []) (h : ∀ w ∈ ws, Word w) (hn : ws.length ≤ 1000) (hl : (Lib.join ws [32]).length ≤ 1000000) :
  F_kit_Words [.s (byL (Lib.join ws [32]))] = some [.l (ws.map fun w => [G.s (byL w)]), .t true] := by
 refine Ret.toEq ?_
 unfold F_kit_Words
 (dsimp +instances only [Aa,Ab,Ac,Ad,Ae,Af,Ag])
 have hs : F_strings_Split [.s (byL (Lib.join ws [32])), .s (⟨#[32]⟩ : ByteArray)] = some [.l (ws.map fun w => [G.s (byL w)])] := by
  cases ws with
  | nil => exact (h0 rfl).elim
  | cons x xs => exact splitLib 32 x xs (fun y hy => (h y hy).nb) hl
 refine Ret.cE hs ?_
 (dsimp +instances only [Aa,Ab,Ac,Ad,Ae,Af,Ag])
 generalize hr : (ws.map fun w => [G.s (byL w)]) = rows
 have hlen : rows.length = ws.length := by rw [← hr, List.length_map]
 have hrow : ∀ r ∈ rows, ∃ w, Word w ∧ r = [G.s (byL w)] := fun r hr' => by
  rw [← hr] at hr'
  obtain ⟨w, hw, rfl⟩ := List.mem_map.1 hr'
  exact ⟨w, h w hw, rfl⟩
 have r := range_all (st := st_kit_Words_3) (σ := Unit) (fun _ i => [.l rows, .l rows, .i (rows.length : Int), .i (i : Int)]) rows (fun _ => (1, [.l rows])) (fun _ _ => True) () (by omega) trivial
  (fun _ i x _ hi hx hm _ => by
   obtain ⟨w, hw, rfl⟩ := hrow x hm
   unfold st_kit_Words_3
   (dsimp +instances only [Aa,Ab,Ac,Ad,Ae,Af,Ag])
   simp only [Int.toNat_natCast, hx]
   refine Ret.p (Ret.p (Ret.neg ?_ (Ret.p (Ret.some ⟨(), rfl, trivial⟩))))
   rw [show (gi [G.s (byL w)] 0).str = byL w from rfl, byL_list, Lib.toList_data, beq_eq_false_iff_ne]
   exact hw.1)
  (fun _ _ => by
   unfold st_kit_Words_3
   (dsimp +instances only [Aa,Ab,Ac,Ad,Ae,Af,Ag])
   (repeat first|refine Ret.p ?_|refine Ret.n ?_)
   exact Ret.some rfl)
 refine Ret.loop r (by simp) ?_
 rintro _ _ ⟨_, _, rfl, rfl⟩
 (dsimp +instances only [Aa,Ab,Ac,Ad,Ae,Af,Ag])
 exact Ret.neg rfl (Ret.some rfl)
/-! ### Numbers -/
theorem trimDec (u : Nat) (hl : (Lib.decDigits u).length ≤ 1000) : F_strings_Trim [.s (byL (Lib.decDigits u)), .s (⟨#[48, 49, 50, 51, 52, 53, 54, 55, 56, 57]⟩ : ByteArray)] = some [.s (⟨#[]⟩ : ByteArray)] := by
 refine Ret.toEq ?_
 unfold F_strings_Trim
 (dsimp +instances only [Aa,Ab,Ac,Ad,Ae,Af,Ag])
 have h0 : 0 < (Lib.decDigits u).length := List.length_pos_iff.2 (dec_ne u)
 refine Ret.pos ?_ (Ret.some ?_)
 ·rw [byL_size]
  simp only [Bool.and_eq_true, Nat.ble_eq, Nat.blt_eq]
  exact ⟨rfl, by decide, by decide, by omega, by omega⟩
 ·unfold trimB
  rw [byL_data, trimS_all fun b hb => ?_]
  have := dec_mem u b hb
  exact digit_of this.1 this.2
theorem atoiDec (u : Nat) (hl : (Lib.decDigits u).length ≤ 18) : F_strconv_Atoi [.s (byL (Lib.decDigits u))] = some [.i (u : Int)] := by
 refine Ret.toEq ?_
 unfold F_strconv_Atoi atoiF
 (dsimp +instances only [Aa,Ab,Ac,Ad,Ae,Af,Ag])
 refine Ret.pos (by rw [byL_size, Nat.ble_eq]; exact hl) ?_
 rw [byL_data, atoi_dec]
 exact Ret.some rfl
theorem cutMinus (u : Nat) (hl : (Lib.decDigits u).length ≤ 1000) : F_strings_CutPrefix [.s (byL (Lib.decDigits u)), .s (⟨#[45]⟩ : ByteArray)] = some [.s (byL (Lib.decDigits u)), .t false] := by
 have h0 : 0 < (Lib.decDigits u).length := List.length_pos_iff.2 (dec_ne u)
 have h1 : (⟨#[45]⟩ : ByteArray).size = 1 := rfl
 have hp : F_stringslite_HasPrefix [.s (byL (Lib.decDigits u)), .s (⟨#[45]⟩ : ByteArray)] = some [.t false] := by
  refine Ret.toEq ?_
  unfold F_stringslite_HasPrefix
  (dsimp +instances only [Aa,Ab,Ac,Ad,Ae,Af,Ag])
  rw [byL_size, h1]
  refine Ret.pos (by rw [leI_eq, decide_eq_true_eq]; omega) (Ret.pos (by rw [Bool.and_eq_true, nnI_eq, leI_eq, decide_eq_true_eq, decide_eq_true_eq]; omega) (Ret.some ?_))
  rw [Lib.toList_data, Lib.extract_data, byL_data, Lib.toList_data]
  have : (List.take (1 - 0) (List.drop 0 (Lib.decDigits u)) == (⟨#[45]⟩ : ByteArray).data.toList) = false := by
   rw [beq_eq_false_iff_ne]
   intro e
   cases hd : Lib.decDigits u with
   | nil => exact dec_ne u hd
   | cons b r =>
    rw [hd] at e
    have hb := dec_mem u b (by rw [hd]; exact List.mem_cons_self)
    simp at e
    rw [e] at hb
    simp at hb
  rw [this]
 refine Ret.toEq ?_
 unfold F_strings_CutPrefix
 (dsimp +instances only [Aa,Ab,Ac,Ad,Ae,Af,Ag])
 refine Ret.call (P := fun g => g = [.s (byL (Lib.decDigits u)), .t false]) ?_ ?_
 ·unfold F_stringslite_CutPrefix
  (dsimp +instances only [Aa,Ab,Ac,Ad,Ae,Af,Ag])
  refine Ret.cE hp ?_
  exact Ret.pos rfl (Ret.some rfl)
 ·rintro _ rfl
  exact Ret.some rfl
theorem cutMinusNeg (u : Nat) (hl : (Lib.decDigits u).length ≤ 1000) : F_strings_CutPrefix [.s (byL (45 :: Lib.decDigits u)), .s (⟨#[45]⟩ : ByteArray)] = some [.s (byL (Lib.decDigits u)), .t true] := by
 have h1 : (⟨#[45]⟩ : ByteArray).size = 1 := rfl
 have hp : F_stringslite_HasPrefix [.s (byL (45 :: Lib.decDigits u)), .s (⟨#[45]⟩ : ByteArray)] = some [.t true] := by
  refine Ret.toEq ?_
  unfold F_stringslite_HasPrefix
  (dsimp +instances only [Aa,Ab,Ac,Ad,Ae,Af,Ag])
  rw [byL_size, h1, List.length_cons]
  refine Ret.pos (by rw [leI_eq, decide_eq_true_eq]; omega) (Ret.pos (by rw [Bool.and_eq_true, nnI_eq, leI_eq, decide_eq_true_eq, decide_eq_true_eq]; omega) (Ret.some ?_))
  rw [Lib.toList_data, Lib.extract_data, byL_data, Lib.toList_data]
  rfl
 refine Ret.toEq ?_
 unfold F_strings_CutPrefix
 (dsimp +instances only [Aa,Ab,Ac,Ad,Ae,Af,Ag])
 refine Ret.call (P := fun g => g = [.s (byL (Lib.decDigits u)), .t true]) ?_ ?_
 ·unfold F_stringslite_CutPrefix
  (dsimp +instances only [Aa,Ab,Ac,Ad,Ae,Af,Ag])
  refine Ret.cE hp ?_
  (dsimp +instances only [Aa,Ab,Ac,Ad,Ae,Af,Ag])
  refine Ret.neg rfl (Ret.pos (by rw [byL_size, h1, List.length_cons, Bool.and_eq_true, nnI_eq, leI_eq, decide_eq_true_eq, decide_eq_true_eq]; omega) (Ret.some ?_))
  have : (byL (45 :: Lib.decDigits u)).extract (⟨#[45]⟩ : ByteArray).size (byL (45 :: Lib.decDigits u)).size = byL (Lib.decDigits u) := byL_inj (by
   rw [Lib.extract_to_end, byL_data, byL_data, h1]
   rfl)
  rw [this]
 ·rintro _ rfl
  exact Ret.some rfl
theorem numberKit (n : Int) (h1 : -1000000000000000 < n) (h2 : n < 1000000000000000) : F_kit_Number [.s (itoaZ n), .i 15] = some [.i n, .t true] := by
 refine Ret.toEq ?_
 have key : ∀ (u : Nat) (neg : Bool), u < 1000000000000000 → (neg = true → u ≠ 0) → ∀ s : ByteArray, F_strings_CutPrefix [.s s, .s (⟨#[45]⟩ : ByteArray)] = some [.s (byL (Lib.decDigits u)), .t neg] →
   Ret (F_kit_Number [.s s, .i 15]) fun g => g = [.i (bif neg then 0 - (u : Int) else (u : Int)), .t true] := by
  intro u neg hu hneg s hs
  have hlen : (Lib.decDigits u).length ≤ 15 := dec_length 14 u (by simpa using hu)
  have h0 : 0 < (Lib.decDigits u).length := List.length_pos_iff.2 (dec_ne u)
  unfold F_kit_Number
  (dsimp +instances only [Aa,Ab,Ac,Ad,Ae,Af,Ag])
  refine Ret.cE hs ?_
  (dsimp +instances only [Aa,Ab,Ac,Ad,Ae,Af,Ag])
  refine Ret.neg ?_ (Ret.neg ?_ ?_)
  ·rw [byL_list, Lib.toList_data, beq_eq_false_iff_ne]
   exact dec_ne u
  ·rw [byL_size, ltI_eq, decide_eq_false_iff_not]
   omega
  refine Ret.cE (trimDec u (by omega)) ?_
  (dsimp +instances only [Aa,Ab,Ac,Ad,Ae,Af,Ag])
  refine Ret.neg (by simp) (Ret.pos (by rw [byL_size, ltI_eq, decide_eq_true_eq]; omega) ?_)
  have fin : ∀ g : List G, g = [.i (u : Int)] → Ret (bif neg then (bif inI (0 - (gi g 0).int) then some [G.i (0 - (gi g 0).int), G.t true] else none) else some [G.i (gi g 0).int, G.t true]) fun g => g = [.i (bif neg then 0 - (u : Int) else (u : Int)), .t true] := by
   rintro _ rfl
   cases neg with
   | true =>
    show Ret (bif inI (0 - (u : Int)) then _ else none) _
    exact Ret.p (Ret.some rfl)
   | false => exact Ret.some rfl
  refine Ret.test (fun hz => ?_) fun _ => ?_
  ·have hu0 : u = 0 := by
    refine dec_head u ?_
    rw [byL_data, beq_iff_eq] at hz
    cases hd : Lib.decDigits u with
    | nil => exact (dec_ne u hd).elim
    | cons b r =>
     rw [hd] at hz
     have : b.toNat = 48 := by
      have : ((b.toNat : Nat) : Int) = 48 := hz
      omega
     have : b = 48 := UInt8.toNat_inj.1 this
     rw [this]
     rfl
   subst hu0
   have hn : neg = false := by
    cases neg with
    | true => exact (hneg rfl rfl).elim
    | false => rfl
   subst hn
   refine Ret.neg (by rw [byL_size, ltI_eq, decide_eq_false_iff_not, dec_small (by omega)]; simp) (Ret.neg rfl ?_)
   exact Ret.call (Ret.eq (atoiDec 0 (by omega))) fin
  ·exact Ret.call (Ret.eq (atoiDec u (by omega))) fin
 rw [itoa_byL]
 by_cases hn : n < 0
 ·obtain ⟨u, rfl⟩ : ∃ u : Nat, n = -(u : Int) := ⟨n.natAbs, by omega⟩
  have e : Lib.itoa (-(u : Int)) = 45 :: Lib.decDigits u := by
   unfold Lib.itoa
   rw [if_pos hn]
   simp
  rw [e]
  refine (key u true (by omega) (fun _ => by omega) _ (cutMinusNeg u (by have := dec_length 14 u (by simp; omega); omega))).mono ?_
  rintro _ rfl
  simp
 ·obtain ⟨u, rfl⟩ : ∃ u : Nat, n = u := ⟨n.toNat, by omega⟩
  have e : Lib.itoa (u : Int) = Lib.decDigits u := by
   unfold Lib.itoa
   rw [if_neg hn]
   simp
  rw [e]
  exact key u false (by omega) (fun h => by cases h) _ (cutMinus u (by have := dec_length 14 u (by simp; omega); omega))
theorem writeB (a b : ByteArray) (h : a.size + b.size ≤ 1000000) : F_strings_Builder_WriteString [.s a, .s b] = some [.s (a ++ b), .i (b.size : Nat)] := by
 refine Ret.toEq ?_
 unfold F_strings_Builder_WriteString bldWF
 (dsimp +instances only [Aa,Ab,Ac,Ad,Ae,Af,Ag])
 exact Ret.pos (by rw [Nat.ble_eq]; omega) (Ret.some rfl)
theorem lenB (a : ByteArray) : F_strings_Builder_Len [.s a] = some [.s a, .i (a.size : Nat)] := rfl
theorem stringB (a : ByteArray) : F_strings_Builder_String [.s a] = some [.s a, .s a] := rfl
theorem itoaA (n : Int) (h1 : -9223372036854775808 ≤ n) (h2 : n ≤ 9223372036854775807) : F_strconv_Itoa [.i n] = some [.s (itoaZ n)] := by
 refine Ret.toEq ?_
 unfold F_strconv_Itoa
 (dsimp +instances only [Aa,Ab,Ac,Ad,Ae,Af,Ag])
 exact Ret.pos (by rw [Bool.and_eq_true, leI_eq, leI_eq, decide_eq_true_eq, decide_eq_true_eq]; exact ⟨h1, h2⟩) (Ret.some rfl)
def wordB (s : ByteArray) : Bool := Nat.ble 1 s.data.toList.length && (Nat.ble s.data.toList.length 20 && s.data.toList.all fun b => !(b == 32) && !(b == 10))
theorem wordB_iff {s : ByteArray} (h : wordB s = true) : Word s.data.toList ∧ s.data.toList.length ≤ 20 := by
 unfold wordB at h
 simp only [Bool.and_eq_true, Nat.ble_eq] at h
 obtain ⟨h1, h2, h3⟩ := h
 refine ⟨⟨fun e => by rw [e] at h1; simp at h1, fun b hb => ?_⟩, h2⟩
 have := List.all_eq_true.1 h3 b hb
 simpa using this
theorem calls_words : (calls.all fun s => !okCall s || wordB s) = true := by kernel_rfl
theorem call_word {s : ByteArray} (h : s ∈ calls) (hok : okCall s = true) : Word s.data.toList ∧ s.data.toList.length ≤ 20 := by
 have := List.all_eq_true.1 calls_words s h
 rw [hok] at this
 exact wordB_iff (by simpa using this)
theorem bands_words : (bands.all fun s => !okKey s || wordB s) = true := by kernel_rfl
theorem band_word {s : ByteArray} (h : s ∈ bands) (hok : okKey s = true) : Word s.data.toList ∧ s.data.toList.length ≤ 20 := by
 have := List.all_eq_true.1 bands_words s h
 rw [hok] at this
 exact wordB_iff (by simpa using this)
theorem names_words : (names.all fun s => !okName s || ((s.data.toList.isEmpty || wordB s) && !(s.data.toList == [45]))) = true := by kernel_rfl
def dashL (l : List UInt8) : List UInt8 := match l with | [] => [45] | b :: r => b :: r
def DashOK (s : ByteArray) : Prop := Word (dashL s.data.toList) ∧ (dashL s.data.toList).length ≤ 20 ∧ s.data.toList ≠ [45]
theorem name_word {s : ByteArray} (h : s ∈ names) (hok : okName s = true) : DashOK s := by
 have := List.all_eq_true.1 names_words s h
 rw [hok] at this
 simp only [Bool.not_true, Bool.false_or, Bool.and_eq_true, Bool.or_eq_true] at this
 obtain ⟨h1, h2⟩ := this
 refine ⟨?_, ?_, by simpa using h2⟩
 ·cases hd : s.data.toList with
  | nil => exact ⟨by simp [dashL], by simp [dashL]⟩
  | cons b r =>
   rcases h1 with h1 | h1
   ·rw [hd] at h1; simp at h1
   ·have := (wordB_iff h1).1
    rw [hd] at this
    exact this
 ·cases hd : s.data.toList with
  | nil => simp [dashL]
  | cons b r =>
   rcases h1 with h1 | h1
   ·rw [hd] at h1; simp at h1
   ·have := (wordB_iff h1).2
    rw [hd] at this
    exact this
theorem dashKit (s : ByteArray) : F_kit_Dash [.s s] = some [.s (byL (dashL s.data.toList))] := by
 refine Ret.toEq ?_
 unfold F_kit_Dash
 (dsimp +instances only [Aa,Ab,Ac,Ad,Ae,Af,Ag])
 rw [Lib.toList_data, Lib.toList_data]
 cases hd : s.data.toList with
 | nil => exact Ret.pos rfl (Ret.some rfl)
 | cons b r =>
  refine Ret.neg rfl (Ret.some ?_)
  show [G.s s] = [G.s (byL (b :: r))]
  rw [← hd, byL_of]
theorem undashKit {s : ByteArray} (h : DashOK s) : F_kit_Undash [.s (byL (dashL s.data.toList))] = some [.s s] := by
 refine Ret.toEq ?_
 unfold F_kit_Undash
 (dsimp +instances only [Aa,Ab,Ac,Ad,Ae,Af,Ag])
 rw [byL_list, Lib.toList_data]
 cases hd : s.data.toList with
 | nil =>
  refine Ret.pos rfl (Ret.some ?_)
  rw [← byL_of s, hd]
  rfl
 | cons b r =>
  refine Ret.neg ?_ (Ret.some ?_)
  ·rw [beq_eq_false_iff_ne]
   intro e
   exact h.2.2 (by rw [hd]; exact e)
  ·show [G.s (byL (b :: r))] = _
   rw [← hd, byL_of]
def ConW (r : List G) : Prop := ∃ (t m : Int) (b c : ByteArray) (s h : Int) (x y : ByteArray), r = [.i t, .i m, .s b, .s c, .i s, .i h, .s x, .s y] ∧ (0 ≤ t ∧ t ≤ 345686399999) ∧ (m = 1 ∨ m = 2 ∨ m = 3) ∧ (Word b.data.toList ∧ b.data.toList.length ≤ 20) ∧
 (Word c.data.toList ∧ c.data.toList.length ≤ 20) ∧ (0 ≤ s ∧ s ≤ 99999) ∧ (0 ≤ h ∧ h ≤ 99999) ∧ DashOK x ∧ DashOK y
theorem conW_of {r : List G} (h : Con r) (hf : faultC r = 0) : ConW r := by
 obtain ⟨t, m, b, c, s, h, x, y, rfl, _, _, _, _, hb, hc, hx, hy⟩ := h
 have e : faultC [.i t, .i m, .s b, .s c, .i s, .i h, .s x, .s y] = bif !inB t 0 345686399999 then 1 else bif !inB m 1 3 then 4 else bif !okKey b then 5 else bif !okCall c then 3 else
  bif !inB s 0 99999 then 1 else bif !inB h 0 99999 then 1 else bif !okName x then 5 else bif !okName y then 5 else 0 := rfl
 rw [e] at hf
 cases h1 : inB t 0 345686399999 with
 | false => rw [h1] at hf; cases hf
 | true =>
 cases h2 : inB m 1 3 with
 | false => rw [h1, h2] at hf; cases hf
 | true =>
 cases h3 : okKey b with
 | false => rw [h1, h2, h3] at hf; cases hf
 | true =>
 cases h4 : okCall c with
 | false => rw [h1, h2, h3, h4] at hf; cases hf
 | true =>
 cases h5 : inB s 0 99999 with
 | false => rw [h1, h2, h3, h4, h5] at hf; cases hf
 | true =>
 cases h6 : inB h 0 99999 with
 | false => rw [h1, h2, h3, h4, h5, h6] at hf; cases hf
 | true =>
 cases h7 : okName x with
 | false => rw [h1, h2, h3, h4, h5, h6, h7] at hf; cases hf
 | true =>
 cases h8 : okName y with
 | false => rw [h1, h2, h3, h4, h5, h6, h7, h8] at hf; cases hf
 | true =>
 have two : ∀ {a u v : Int}, inB a u v = true → u ≤ a ∧ a ≤ v := fun h => by simpa [inB, leI_eq] using h
 have := two h2
 exact ⟨t, m, b, c, s, h, x, y, rfl, two h1, by omega, band_word hb h3, call_word hc h4, two h5, two h6, name_word hx h7, name_word hy h8⟩
theorem len_itoa {n : Int} (h0 : 0 ≤ n) (h1 : n ≤ 345686399999) : (Lib.itoa n).length ≤ 15 := by
 unfold Lib.itoa
 rw [if_neg (by omega)]
 exact dec_length 14 _ (by simp; omega)
def isDb (b : UInt8) : Bool := Nat.ble 48 b.toNat && Nat.ble b.toNat 57
def digB : ByteArray := ⟨#[48, 49, 50, 51, 52, 53, 54, 55, 56, 57]⟩
/-! ### Where the last digit is -/
theorem all_bytes (p : UInt8 → Bool) (h : ((List.range 256).all fun n => p (UInt8.ofNat n)) = true) (b : UInt8) : p b = true := by
 have := List.all_eq_true.1 h b.toNat (List.mem_range.2 (UInt8.toNat_lt b))
 rwa [UInt8.ofNat_toNat] at this
theorem dig_has (b : UInt8) : digB.data.toList.contains b = isDb b := by
 have := all_bytes (fun b => digB.data.toList.contains b == isDb b) (by kernel_rfl) b
 simpa using this
theorem dw_nil {p : UInt8 → Bool} : ∀ {l : List UInt8}, l.dropWhile p = [] → ∀ b ∈ l, p b = true
 | [], _, b, hb => by cases hb
 | x :: l, h, b, hb => by
  rw [List.dropWhile_cons] at h
  split at h
  ·rename_i hx
   rcases List.mem_cons.1 hb with rfl | hb
   ·exact hx
   ·exact dw_nil h b hb
  ·cases h
theorem trimS_nil {l cs : List UInt8} : Lib.trimS l cs = [] ↔ ∀ b ∈ l, cs.contains b = true := by
 refine ⟨fun h => ?_, trimS_all⟩
 unfold Lib.trimS Lib.trimLeftS at h
 have h1 : ∀ b ∈ Lib.trimRightS l cs, cs.contains b = true := dw_nil h
 unfold Lib.trimRightS at h1
 cases hd : l.reverse.dropWhile (cs.contains ·) with
 | nil => exact fun b hb => dw_nil hd b (List.mem_reverse.2 hb)
 | cons x r =>
  have hx := h1 x (by rw [hd]; simp)
  have := List.head_dropWhile_not (p := (cs.contains ·)) (l := l.reverse) (by rw [hd]; simp)
  simp only [hd, List.head_cons] at this
  rw [hx] at this
  cases this
/-! ### Numbers -/
theorem isDig_eq (b : UInt8) : isDig b = isDb b := rfl
theorem digTrim (s : ByteArray) (h0 : 0 < s.size) (hs : s.size ≤ 900000) : Ret (F_strings_Trim [.s s, .s digB]) fun g => ∃ t, g = [.s t] ∧ (t.toList == (⟨#[]⟩ : ByteArray).toList) = s.data.toList.all isDig := by
 unfold F_strings_Trim
 (dsimp +instances only [Aa,Ab,Ac,Ad,Ae,Af,Ag])
 refine Ret.pos ?_ (Ret.some ⟨_, rfl, ?_⟩)
 ·simp only [Bool.and_eq_true, Nat.ble_eq, Nat.blt_eq]
  exact ⟨by rfl, by decide, by decide, by omega, by omega⟩
 ·have e : (trimB s digB).toList = Lib.trimS s.data.toList digB.data.toList := by rw [Lib.toList_data]; simp [trimB]
  rw [e, Lib.toList_data, Bool.eq_iff_iff, beq_iff_eq]
  show Lib.trimS s.data.toList digB.data.toList = [] ↔ _
  rw [trimS_nil, List.all_eq_true]
  exact ⟨fun h b hb => by rw [isDig_eq, ← dig_has]; exact h b hb, fun h b hb => by rw [dig_has, ← isDig_eq]; exact h b hb⟩
/-! ### Words -/
def rowsI (V : List Int) : List (List G) := V.map fun n => [G.i n]
theorem rowsI_len (V : List Int) : (rowsI V).length = V.length := by simp [rowsI]
theorem rowsI_snoc (V : List Int) (n : Int) : rowsI V ++ [[G.i n]] = rowsI (V ++ [n]) := by simp [rowsI]
def pad2 (n : Nat) : List UInt8 := [UInt8.ofNat (48 + n / 10), UInt8.ofNat (48 + n % 10)]
theorem pad2_nat {n : Nat} (h : n < 100) : ∀ b ∈ pad2 n, 48 ≤ b.toNat ∧ b.toNat ≤ 57 := by
 intro b hb
 simp only [pad2, List.mem_cons, List.not_mem_nil, or_false] at hb
 rcases hb with rfl | rfl
 ·rw [digit_nat (show n / 10 < 10 by omega)]
  omega
 ·rw [digit_nat (show n % 10 < 10 by omega)]
  omega
theorem pad2_dig {n : Nat} (h : n < 100) : (pad2 n).all isDig = true := by
 rw [List.all_eq_true]
 intro b hb
 have := pad2_nat h b hb
 unfold isDig
 rw [Bool.and_eq_true, Nat.ble_eq, Nat.ble_eq]
 exact this
theorem pad2_val {n : Nat} (h : n < 100) : valL (pad2 n) = n := by
 have e : valL (pad2 n) = (0 * 10 + digVal (UInt8.ofNat (48 + n / 10))) * 10 + digVal (UInt8.ofNat (48 + n % 10)) := rfl
 rw [e]
 unfold digVal
 rw [digit_nat (show n / 10 < 10 by omega), digit_nat (show n % 10 < 10 by omega)]
 omega
theorem itoa_nat (n : Nat) : Lib.itoa (n : Int) = Lib.decDigits n := by
 unfold Lib.itoa
 rw [if_neg (by omega)]
 simp
theorem rep0 : F_strings_Repeat [.s (⟨#[48]⟩ : ByteArray), .i 0] = some [.s (byL [])] := by kernel_rfl
theorem rep1 : F_strings_Repeat [.s (⟨#[48]⟩ : ByteArray), .i 1] = some [.s (byL [48])] := by kernel_rfl
theorem padded2 {n : Nat} (h : n < 100) : F_log_padded [.i (n : Int), .i 2] = some [.s (byL (pad2 n))] := by
 refine Ret.toEq ?_
 unfold F_log_padded
 (dsimp +instances only [Aa,Ab,Ac,Ad,Ae,Af,Ag])
 refine Ret.cE (itoaA n (by omega) (by omega)) ?_
 (dsimp +instances only [Aa,Ab,Ac,Ad,Ae,Af,Ag])
 rw [itoa_byL, byL_size, itoa_nat]
 by_cases h1 : n < 10
 ·rw [dec_small h1]
  refine Ret.pos rfl ?_
  refine Ret.cE rep1 ?_
  refine Ret.pos rfl (Ret.some ?_)
  show [G.s (byL [48] ++ byL [UInt8.ofNat (48 + n)])] = _
  rw [byL_append]
  unfold pad2
  rw [show n / 10 = 0 by omega, show n % 10 = n by omega]
  rfl
 ·rw [dec_big (by omega), dec_small (show n / 10 < 10 by omega)]
  refine Ret.pos rfl ?_
  refine Ret.cE rep0 ?_
  refine Ret.pos rfl (Ret.some ?_)
  show [G.s (byL [] ++ byL [UInt8.ofNat (48 + n / 10), UInt8.ofNat (48 + n % 10)])] = _
  rw [byL_append]
  rfl
def yearW : List UInt8 := [50, 48, 50, 52]
theorem paddedYear : F_log_padded [.i 2024, .i 4] = some [.s (byL yearW)] := by
 have e : Lib.itoa 2024 = yearW := by
  rw [show (2024 : Int) = ((2024 : Nat) : Int) from rfl, itoa_nat, dec_big (by omega), dec_big (by omega), dec_big (by omega), dec_small (by omega)]
  rfl
 refine Ret.toEq ?_
 unfold F_log_padded
 (dsimp +instances only [Aa,Ab,Ac,Ad,Ae,Af,Ag])
 refine Ret.cE (itoaA 2024 (by omega) (by omega)) ?_
 (dsimp +instances only [Aa,Ab,Ac,Ad,Ae,Af,Ag])
 rw [itoa_byL, e, byL_size]
 refine Ret.pos rfl ?_
 refine Ret.cE rep0 ?_
 exact Ret.pos rfl (Ret.some rfl)
theorem january : F_log_daysOf [.i 2024, .i 1] = some [.i 31] := by kernel_rfl
theorem dateOf_ok {d : Nat} (h : d < 31) : F_log_dateOf [.i (d : Int)] = some [.i 2024, .i 1, .i ((d + 1 : Nat) : Int)] := by
 refine Ret.toEq ?_
 unfold F_log_dateOf
 (dsimp +instances only [Aa,Ab,Ac,Ad,Ae,Af,Ag])
 have r : RetN st_log_dateOf_2 [.i (d : Int), .i 2024, .i 1] 1 fun c g => c = 0 ∧ g = [.i (d : Int), .i 2024, .i 1] := by
  refine RetN.stop (x := 0) (Ret.toEq ?_) ⟨rfl, rfl⟩
  unfold st_log_dateOf_2
  (dsimp +instances only [Aa,Ab,Ac,Ad,Ae,Af,Ag])
  refine Ret.cE january ?_
  exact Ret.neg (by (dsimp +instances only [Aa,Ab,Ac,Ad,Ae,Af,Ag]); rw [leI_eq, decide_eq_false_iff_not]; omega) (Ret.some rfl)
 refine Ret.loop (r.to (by omega)) rfl ?_
 rintro _ _ ⟨rfl, rfl⟩
 (dsimp +instances only [Aa,Ab,Ac,Ad,Ae,Af,Ag])
 exact Ret.pos (inI_iff.2 ⟨by omega, by omega⟩) (Ret.some rfl)
def dateW (d : Nat) : List UInt8 := yearW ++ 45 :: (pad2 1 ++ 45 :: pad2 (d + 1))
def timeW (s : Nat) : List UInt8 := pad2 (s / 3600) ++ (pad2 (s / 60 % 60) ++ pad2 (s % 60))
theorem momentT {t : Nat} (h : t ≤ 1300000000) : F_log_momentText [.i (t : Int)] = some [.s (byL (dateW (t / 86400000))), .s (byL (timeW (t % 86400000 / 1000)))] := by
 have e1 : Int.tdiv (t : Int) 86400000 = ((t / 86400000 : Nat) : Int) := by
  rw [Int.tdiv_eq_ediv_of_nonneg (by omega)]
  omega
 have e2 : Int.tdiv (Int.tmod (t : Int) 86400000) 1000 = ((t % 86400000 / 1000 : Nat) : Int) := by
  rw [Int.tmod_eq_emod_of_nonneg (by omega), Int.tdiv_eq_ediv_of_nonneg (by omega)]
  omega
 refine Ret.toEq ?_
 unfold F_log_momentText
 (dsimp +instances only [Aa,Ab,Ac,Ad,Ae,Af,Ag])
 rw [e1, e2]
 have hd : t / 86400000 < 31 := by omega
 have hs : t % 86400000 / 1000 < 86400 := by omega
 generalize t / 86400000 = d at *
 generalize t % 86400000 / 1000 = s at *
 have e3 : Int.tdiv (s : Int) 3600 = ((s / 3600 : Nat) : Int) := by
  rw [Int.tdiv_eq_ediv_of_nonneg (by omega)]
  omega
 have e4 : Int.tmod (Int.tdiv (s : Int) 60) 60 = ((s / 60 % 60 : Nat) : Int) := by
  rw [Int.tdiv_eq_ediv_of_nonneg (by omega), Int.tmod_eq_emod_of_nonneg (by omega)]
  omega
 have e5 : Int.tmod (s : Int) 60 = ((s % 60 : Nat) : Int) := by
  rw [Int.tmod_eq_emod_of_nonneg (by omega)]
  omega
 have e6 : inI (Int.tdiv (s : Int) 60) = true := by
  rw [Int.tdiv_eq_ediv_of_nonneg (by omega)]
  exact inI_iff.2 ⟨by omega, by omega⟩
 have one : (⟨#[45]⟩ : ByteArray) = byL [45] := rfl
 refine Ret.pos (inI_iff.2 ⟨by omega, by omega⟩) ?_
 refine Ret.cE (dateOf_ok hd) ?_
 (dsimp +instances only [Aa,Ab,Ac,Ad,Ae,Af,Ag])
 refine Ret.pos (inI_iff.2 ⟨by omega, by omega⟩) ?_
 refine Ret.cE paddedYear ?_
 (dsimp +instances only [Aa,Ab,Ac,Ad,Ae,Af,Ag])
 rw [one]
 refine Ret.pos (by rw [byL_size]; rfl) ?_
 refine Ret.cE (padded2 (n := 1) (by omega)) ?_
 (dsimp +instances only [Aa,Ab,Ac,Ad,Ae,Af,Ag])
 rw [byL_append]
 refine Ret.pos (by rw [byL_size, byL_size]; rfl) ?_
 rw [byL_append, byL_size]
 refine Ret.pos (by rfl) ?_
 refine Ret.cE (padded2 (n := d + 1) (by omega)) ?_
 (dsimp +instances only [Aa,Ab,Ac,Ad,Ae,Af,Ag])
 rw [byL_append, byL_size, byL_size]
 refine Ret.pos (by rfl) ?_
 rw [e3]
 refine Ret.pos (inI_iff.2 ⟨by omega, by omega⟩) ?_
 refine Ret.cE (padded2 (n := s / 3600) (by omega)) ?_
 (dsimp +instances only [Aa,Ab,Ac,Ad,Ae,Af,Ag])
 refine Ret.pos e6 ?_
 rw [e4]
 refine Ret.cE (padded2 (n := s / 60 % 60) (by omega)) ?_
 (dsimp +instances only [Aa,Ab,Ac,Ad,Ae,Af,Ag])
 refine Ret.pos (by rw [byL_size, byL_size]; rfl) ?_
 rw [e5]
 refine Ret.cE (padded2 (n := s % 60) (by omega)) ?_
 (dsimp +instances only [Aa,Ab,Ac,Ad,Ae,Af,Ag])
 rw [byL_append, byL_size, byL_size]
 refine Ret.pos (by rfl) (Ret.some ?_)
 rw [byL_append, byL_append]
 unfold dateW timeW
 simp only [List.append_assoc, List.cons_append, List.nil_append]
/-! ### Read again -/
theorem digits_ok (l : List UInt8) (m : Int) (hl : ((l.length : Nat) : Int) = m) (h0 : l ≠ []) (h1 : l.length ≤ 15) (h : l.all isDig = true) : F_log_digits [.s (byL l), .i m] = some [.i (valL l : Int), .t true] := by
 refine Ret.toEq ?_
 unfold F_log_digits
 (dsimp +instances only [Aa,Ab,Ac,Ad,Ae,Af,Ag])
 have hp : 0 < l.length := List.length_pos_iff.2 h0
 refine Ret.neg (by rw [byL_size, hl]; simp) ?_
 refine Ret.call (digTrim (byL l) (by rw [byL_size]; omega) (by rw [byL_size]; omega)) ?_
 rintro _ ⟨u, rfl, hu⟩
 rw [byL_data, h] at hu
 (dsimp +instances only [Aa,Ab,Ac,Ad,Ae,Af,Ag])
 rw [hu]
 refine Ret.neg rfl ?_
 have hat : F_strconv_Atoi [.s (byL l)] = some [.i (valL l : Int)] := by
  refine Ret.toEq ?_
  unfold F_strconv_Atoi atoiF
  (dsimp +instances only [Aa,Ab,Ac,Ad,Ae,Af,Ag])
  refine Ret.pos (by rw [byL_size, Nat.ble_eq]; omega) ?_
  rw [byL_data, atoi_digits h0 h]
  exact Ret.some rfl
 refine Ret.cE hat ?_
 exact Ret.some rfl
theorem lastDate : F_log_dateOf [.i 4000] = some [.i 2034, .i 12, .i 14] := by kernel_rfl
theorem dayOf_ok {d : Nat} (h : d < 31) : F_log_dayOf [.i 2024, .i 1, .i ((d + 1 : Nat) : Int)] = some [.i (d : Int), .t true] := by
 refine Ret.toEq ?_
 unfold F_log_dayOf
 (dsimp +instances only [Aa,Ab,Ac,Ad,Ae,Af,Ag])
 refine Ret.cE lastDate ?_
 (dsimp +instances only [Aa,Ab,Ac,Ad,Ae,Af,Ag])
 refine Ret.cE (outside_eq 2024 2024 2034) ?_
 refine Ret.neg rfl ?_
 refine Ret.cE (outside_eq 1 1 12) ?_
 refine Ret.neg rfl ?_
 refine Ret.cE january ?_
 (dsimp +instances only [Aa,Ab,Ac,Ad,Ae,Af,Ag])
 refine Ret.cE (outside_eq _ 1 31) ?_
 (dsimp +instances only [Aa,Ab,Ac,Ad,Ae,Af,Ag])
 have e : inB ((d + 1 : Nat) : Int) 1 31 = true := by
  unfold inB
  rw [Bool.and_eq_true, leI_eq, leI_eq, decide_eq_true_eq, decide_eq_true_eq]
  omega
 rw [e]
 refine Ret.neg rfl (Ret.pos (inI_iff.2 ⟨by omega, by omega⟩) ?_)
 have e2 : ((d + 1 : Nat) : Int) - 1 = (d : Int) := by omega
 rw [e2]
 have r : RetN st_log_dayOf_6 [.i 2024, .i 1, .i (d : Int), .i 2024, .i 1] 1 fun c g => c = 0 ∧ g = [.i (d : Int)] := by
  refine RetN.stop (x := 0) (Ret.toEq ?_) ⟨rfl, rfl⟩
  unfold st_log_dayOf_6
  (dsimp +instances only [Aa,Ab,Ac,Ad,Ae,Af,Ag])
  exact Ret.neg rfl (Ret.neg rfl (Ret.some rfl))
 refine Ret.loop (r.to (by omega)) rfl ?_
 rintro _ _ ⟨rfl, rfl⟩
 (dsimp +instances only [Aa,Ab,Ac,Ad,Ae,Af,Ag])
 refine Ret.some ?_
 rw [show leI (d : Int) 4000 = true by rw [leI_eq, decide_eq_true_eq]; omega]
theorem readM {d s : Nat} (hd : d < 31) (hs : s < 86400) : F_log_readMoment [.s (byL (dateW d)), .s (byL (timeW s))] = some [.i ((d * 86400000 + s * 1000 : Nat) : Int), .t true] := by
 refine Ret.toEq ?_
 unfold F_log_readMoment
 (dsimp +instances only [Aa,Ab,Ac,Ad,Ae,Af,Ag])
 have hj : dateW d = Lib.join [yearW, pad2 1, pad2 (d + 1)] [45] := by
  rw [join_two, join_two, Lib.join_one]
  rfl
 have no45 : ∀ n, n < 100 → (45 : UInt8) ∉ pad2 n := fun n hn hm => by
  have := pad2_nat hn 45 hm
  have e : (45 : UInt8).toNat = 45 := rfl
  omega
 rw [hj]
 refine Ret.call (Ret.eq (splitLib 45 yearW [pad2 1, pad2 (d + 1)] (fun y hy => by
  simp only [List.mem_cons, List.not_mem_nil, or_false] at hy
  rcases hy with rfl | rfl | rfl
  ·decide
  ·exact no45 1 (by omega)
  ·exact no45 (d + 1) (by omega)) (by rw [join_two, join_two, Lib.join_one]; simp [yearW, pad2]))) ?_
 rintro _ rfl
 (dsimp +instances only [Aa,Ab,Ac,Ad,Ae,Af,Ag])
 have h6 : (byL (timeW s)).size = 6 := by
  rw [byL_size]
  rfl
 rw [h6]
 have x1 : (byL (timeW s)).extract 0 2 = byL (pad2 (s / 3600)) := byL_inj (by rw [Lib.extract_data, byL_data, byL_data]; rfl)
 have x2 : (byL (timeW s)).extract 2 4 = byL (pad2 (s / 60 % 60)) := byL_inj (by rw [Lib.extract_data, byL_data, byL_data]; rfl)
 have x3 : (byL (timeW s)).extract 4 6 = byL (pad2 (s % 60)) := byL_inj (by rw [Lib.extract_data, byL_data, byL_data]; rfl)
 rw [x1, x2, x3]
 refine Ret.neg rfl (Ret.neg rfl (Ret.pos rfl (Ret.pos rfl (Ret.pos rfl (Ret.pos rfl (Ret.pos rfl (Ret.pos rfl ?_)))))))
 show Ret (loopB true (LRun st_log_readMoment_6 [.l [], .l [[.s (byL yearW)], [.s (byL (pad2 1))], [.s (byL (pad2 (d + 1)))], [.s (byL (pad2 (s / 3600)))], [.s (byL (pad2 (s / 60 % 60)))], [.s (byL (pad2 (s % 60)))]], .i 6, .i 0]) _) _
 have dy : F_log_digits [.s (byL yearW), .i 4] = some [.i 2024, .t true] := digits_ok yearW 4 rfl (by decide) (by decide) (by kernel_rfl)
 have dp : ∀ n : Nat, n < 100 → F_log_digits [.s (byL (pad2 n)), .i 2] = some [.i (n : Int), .t true] := fun n hn => by
  have := digits_ok (pad2 n) 2 rfl (by simp [pad2]) (by simp [pad2]) (pad2_dig hn)
  rw [pad2_val hn] at this
  exact this
 have d1 := dp 1 (by omega)
 have d2 := dp (d + 1) (by omega)
 have d3 := dp (s / 3600) (by omega)
 have d4 := dp (s / 60 % 60) (by omega)
 have d5 := dp (s % 60) (by omega)
 generalize hR : [[G.s (byL yearW)], [G.s (byL (pad2 1))], [G.s (byL (pad2 (d + 1)))], [G.s (byL (pad2 (s / 3600)))], [G.s (byL (pad2 (s / 60 % 60)))], [G.s (byL (pad2 (s % 60)))]] = R
 generalize hV : [(2024 : Int), 1, ((d + 1 : Nat) : Int), ((s / 3600 : Nat) : Int), ((s / 60 % 60 : Nat) : Int), ((s % 60 : Nat) : Int)] = V
 have hRl : R.length = 6 := by rw [← hR]; rfl
 have hVl : V.length = 6 := by rw [← hV]; rfl
 refine Ret.loop (P := fun c g => c = 1 ∧ g = [.l (rowsI V)]) ?_ rfl ?_
 ·refine ((count_runs (σ := Unit) (fun _ i => [.l (rowsI (V.take i)), .l R, .i 6, .i (i : Int)]) 6 (fun _ => (1, [.l (rowsI V)])) (fun _ _ => True) (fun _ _ => False) ?_ ?_ 6 () 0 (by omega) trivial).to (by omega)).mono ?_
  ·rintro _ i _ hi
   have ht : V.take (i + 1) = V.take i ++ [V.getD i 0] := by
    rw [List.take_add_one, List.getD_eq_getElem?_getD, List.getElem?_eq_getElem (by omega)]
    rfl
   have hl1 : (rowsI (V.take i)).length = i := by rw [rowsI_len, List.length_take]; omega
   unfold st_log_readMoment_6
   (dsimp +instances only [Aa,Ab,Ac,Ad,Ae,Af,Ag])
   rw [hRl]
   refine Ret.p (Ret.p ?_)
   have step : ∀ v, v = V.getD i 0 → Ret (bif (Nat.beq (rowsI (V.take i)).length (rowsI (V.take i)).length && decide ((rowsI (V.take i)).length + 1 ≤ 1048576)) then (bif inI ((i : Int) + 1) then (bif (Nat.beq (rowsI (V.take i) ++ [[G.i v]]).length (rowsI (V.take i) ++ [[G.i v]]).length && true) then some ((none : Option Nat), [G.l (rowsI (V.take i) ++ [[G.i v]]), G.l R, G.i 6, G.i ((i : Int) + 1)]) else none) else none) else none) fun o => o = (none, [.l (rowsI (V.take (i + 1))), .l R, .i 6, .i ((i + 1 : Nat) : Int)]) := fun v hv => by
    refine Ret.p (Ret.p (Ret.pos (by simp) (Ret.some ?_)))
    rw [ht, rowsI_snoc, hv]
    rfl
   by_cases h0 : i = 0
   ·subst h0
    refine Ret.pos rfl ?_
    rw [← hR]
    refine Ret.cE dy ?_
    refine Ret.neg rfl ?_
    rw [hR]
    obtain ⟨o, ho, rfl⟩ := step 2024 (by rw [← hV]; rfl)
    exact ⟨_, ho, .inl ⟨(), rfl, trivial⟩⟩
   ·refine Ret.neg (by rw [beq_eq_false_iff_ne]; omega) ?_
    have fin : ∀ (n : Nat), F_log_digits [.s (gi (R.getD i []) 0).str, .i 2] = some [.i (n : Int), .t true] → (n : Int) = V.getD i 0 → Ret (callF (F_log_digits [.s (gi (R.getD i []) 0).str, .i 2]) fun g3 => bif !(gi g3 1).bool then some (some 0, [G.i 0, G.t false]) else (bif (Nat.beq (rowsI (V.take i)).length (rowsI (V.take i)).length && decide ((rowsI (V.take i)).length + 1 ≤ 1048576)) then (bif inI ((i : Int) + 1) then (bif (Nat.beq (rowsI (V.take i) ++ [[G.i (gi g3 0).int]]).length (rowsI (V.take i) ++ [[G.i (gi g3 0).int]]).length && true) then some ((none : Option Nat), [G.l (rowsI (V.take i) ++ [[G.i (gi g3 0).int]]), G.l R, G.i 6, G.i ((i : Int) + 1)]) else none) else none) else none)) fun o => o = (none, [.l (rowsI (V.take (i + 1))), .l R, .i 6, .i ((i + 1 : Nat) : Int)]) := fun n h1 h2 => by
     refine Ret.cE h1 ?_
     exact Ret.neg rfl (step n h2)
    have go : Ret (callF (F_log_digits [.s (gi (R.getD i []) 0).str, .i 2]) fun g3 => bif !(gi g3 1).bool then some (some 0, [G.i 0, G.t false]) else (bif (Nat.beq (rowsI (V.take i)).length (rowsI (V.take i)).length && decide ((rowsI (V.take i)).length + 1 ≤ 1048576)) then (bif inI ((i : Int) + 1) then (bif (Nat.beq (rowsI (V.take i) ++ [[G.i (gi g3 0).int]]).length (rowsI (V.take i) ++ [[G.i (gi g3 0).int]]).length && true) then some ((none : Option Nat), [G.l (rowsI (V.take i) ++ [[G.i (gi g3 0).int]]), G.l R, G.i 6, G.i ((i : Int) + 1)]) else none) else none) else none)) fun o => o = (none, [.l (rowsI (V.take (i + 1))), .l R, .i 6, .i ((i + 1 : Nat) : Int)]) := by
     have : i = 1 ∨ i = 2 ∨ i = 3 ∨ i = 4 ∨ i = 5 := by omega
     rcases this with rfl | rfl | rfl | rfl | rfl
     ·exact fin 1 (by rw [← hR]; exact d1) (by rw [← hV]; rfl)
     ·exact fin (d + 1) (by rw [← hR]; exact d2) (by rw [← hV]; rfl)
     ·exact fin (s / 3600) (by rw [← hR]; exact d3) (by rw [← hV]; rfl)
     ·exact fin (s / 60 % 60) (by rw [← hR]; exact d4) (by rw [← hV]; rfl)
     ·exact fin (s % 60) (by rw [← hR]; exact d5) (by rw [← hV]; rfl)
    obtain ⟨o, ho, rfl⟩ := go
    exact ⟨_, ho, .inl ⟨(), rfl, trivial⟩⟩
  ·rintro _ _
   unfold st_log_readMoment_6
   (dsimp +instances only [Aa,Ab,Ac,Ad,Ae,Af,Ag])
   refine Ret.n (Ret.pos (by simp) (Ret.some ?_))
   rw [show V.take 6 = V from List.take_of_length_le (by omega)]
  ·rintro c g (⟨_, _, rfl, rfl⟩ | h)
   ·exact ⟨rfl, rfl⟩
   ·exact h.elim
 ·rintro _ _ ⟨rfl, rfl⟩
  refine Ret.neg rfl ?_
  (dsimp +instances only [Aa,Ab,Ac,Ad,Ae,Af,Ag])
  rw [rowsI_len, hVl]
  have v : ∀ i, i < 6 → (gi ((rowsI V).getD i []) 0).int = V.getD i 0 := fun i hi => by
   unfold rowsI
   rw [List.getD_eq_getElem?_getD, List.getD_eq_getElem?_getD, List.getElem?_map, List.getElem?_eq_getElem (by omega)]
   rfl
  rw [v 0 (by omega), v 1 (by omega), v 2 (by omega), v 3 (by omega), v 4 (by omega), v 5 (by omega), ← hV]
  show Ret (bif _ then _ else none) _
  refine Ret.pos rfl (Ret.pos rfl (Ret.pos rfl (Ret.pos rfl (Ret.pos rfl (Ret.pos rfl ?_)))))
  refine Ret.cE (dayOf_ok hd) ?_
  refine Ret.neg rfl (Ret.pos rfl (Ret.pos rfl ?_))
  have b1 : s / 3600 < 24 := by omega
  have b2 : s / 60 % 60 < 60 := by omega
  have b3 : s % 60 < 60 := by omega
  have b4 : s / 3600 * 3600 + s / 60 % 60 * 60 + s % 60 = s := by omega
  simp only [List.getD_cons_succ, List.getD_cons_zero]
  clear d1 d2 d3 d4 d5 dp dy x1 x2 x3 h6 hj no45 v hR hV hRl hVl
  generalize s / 3600 = h at *
  generalize s / 60 % 60 = m at *
  generalize s % 60 = q at *
  (dsimp +instances only [Aa,Ab,Ac,Ad,Ae,Af,Ag])
  (repeat first|refine Ret.p ?_|refine Ret.n ?_)
  have e : ((d : Int) * 86400000 + ((((h : Int) * 60 + (m : Int)) * 60 + (q : Int)) * 1000)) = ((d * 86400000 + s * 1000 : Nat) : Int) := by omega
  rw [← e]
  exact Ret.some rfl
theorem ordC_tr2 (a b d : List G) (h1 : ordC a b < 0) (h2 : ordC b d < 0) : ordC a d < 0 :=
 or2_lt ordrI _ _ _ _ _ _ h1 h2 fun g1 g2 => or2_lt ordrS _ _ _ _ _ _ g1 g2 fun k1 k2 => or2_lt ordrS _ _ _ _ _ _ k1 k2 fun m1 m2 => ordrI.tr _ _ _ m1 m2
theorem faultL_up2 : ∀ {l : List (List G)} {y : List G}, faultL (some y) l = 0 → (y :: l).Pairwise fun a b => ordC a b < 0
 | [], y, _ => by simp
 | x :: q, y, h => by
  simp only [faultL] at h
  split at h
  ·contradiction
  ·split at h
   ·cases h
   ·rename_i h0
    have ih := faultL_up2 h
    have hyx : ordC y x < 0 := by omega
    refine List.pairwise_cons.2 ⟨fun z hz => ?_, ih⟩
    rcases List.mem_cons.1 hz with rfl | hz
    ·exact hyx
    ·exact ordC_tr2 _ _ _ hyx ((List.pairwise_cons.1 ih).1 z hz)
theorem log_up2 {l : List (List G)} (h : faultLog l = 0) : l.Pairwise fun a b => ordC a b < 0 := by
 unfold faultLog at h
 split at h
 ·cases h
 ·cases l with
  | nil => exact List.Pairwise.nil
  | cons x q =>
   simp only [faultL] at h
   split at h
   ·contradiction
   ·exact faultL_up2 h
theorem log_tie {x : List (List G)} (h : x.Pairwise fun a b => ordC a b < 0) : ∀ a ∈ x, ∀ b ∈ x, ordC a b = 0 → a = b := by
 intro a ha b hb e
 obtain ⟨i, hi, rfl⟩ := List.getElem_of_mem ha
 obtain ⟨j, hj, rfl⟩ := List.getElem_of_mem hb
 have hp := List.pairwise_iff_getElem.1 h
 by_cases k1 : i < j
 ·have := hp i j hi hj k1
  omega
 ·by_cases k2 : j < i
  ·have := hp j i hj hi k2
   have := ordC_fl x[i] x[j]
   omega
  ·have : i = j := by omega
   subst this
   rfl
theorem linCt : Lin (ltC ordC) (fun _ => True) := lin_of (fun a b => ordC_fl a b) fun _ _ _ h1 h2 => ordC_le h1 h2
theorem sort_log {x : List (List G)} (h : faultLog x = 0) : sortA (ltC ordC) x = x := by
 have hp := log_up2 h
 refine sortA_id linCt (fun _ _ => trivial) (fun a ha b hb h1 h2 => ?_) (hp.imp fun {a b} h => ?_)
 ·unfold ltC at h1 h2
  rw [ltI_eq, decide_eq_false_iff_not] at h1 h2
  have := ordC_fl a b
  exact log_tie hp a ha b hb (by omega)
 ·unfold ltC
  rw [ltI_eq, decide_eq_false_iff_not]
  have := ordC_fl a b
  omega
/-! ### Right logs in new memory -/
theorem rightF_runs (l : List (List G)) (n : Int) (h0 : 0 ≤ n) (h1 : n ≤ 20) : ∀ (k i : Nat) (a : Int), i + k = 5 → 0 ≤ a → a ≤ 5000 + 420 * (i : Int) →
  RetN st_mk_RightContacts_f_2 [.l l, .i a, .i n, .i (i : Int)] (k + 1) fun c g => (c = 0 ∧ ∃ b rows, g = [.l l, .i b, .l rows] ∧ 0 ≤ b ∧ b ≤ 10000 ∧ (∀ z ∈ rows, ConT z) ∧ (rows.length : Int) ≤ n ∧ faultLog rows = 0) ∨ (c = 1 ∧ ∃ b, g = [.l l, .i b] ∧ 0 ≤ b ∧ b ≤ 10000)
 | 0, i, a, hi, ha, ha1 => by
  refine RetN.stop (x := 1) (Ret.toEq ?_) (.inr ⟨rfl, a, rfl, ha, by omega⟩)
  unfold st_mk_RightContacts_f_2
  (dsimp +instances only [Aa,Ab,Ac,Ad,Ae,Af,Ag])
  (repeat first|refine Ret.p ?_|refine Ret.n ?_)
  exact Ret.some rfl
 | k + 1, i, a, hi, ha, ha1 => by
  have key : Ret (st_mk_RightContacts_f_2 [.l l, .i a, .i n, .i (i : Int)]) fun o => (∃ b rows, o = (some 0, [.l l, .i b, .l rows]) ∧ 0 ≤ b ∧ b ≤ 10000 ∧ (∀ z ∈ rows, ConT z) ∧ (rows.length : Int) ≤ n ∧ faultLog rows = 0) ∨
    ∃ b, o = (none, [.l l, .i b, .i n, .i ((i + 1 : Nat) : Int)]) ∧ a ≤ b ∧ b ≤ a + 420 := by
   unfold st_mk_RightContacts_f_2
   (dsimp +instances only [Aa,Ab,Ac,Ad,Ae,Af,Ag])
   (repeat first|refine Ret.p ?_|refine Ret.n ?_)
   refine Ret.call (r_Contacts l a n ha (by omega) h0 h1) ?_
   rintro _ ⟨b, rows, rfl, g1, g2, g3, g4⟩
   (dsimp +instances only [Aa,Ab,Ac,Ad,Ae,Af,Ag])
   refine Ret.callb (Ret.eq (logFault_eq rows (fun z hz => (g3 z hz).to) (by omega))) (by simp) ?_
   rintro _ rfl
   (dsimp +instances only [Aa,Ab,Ac,Ad,Ae,Af,Ag])
   refine Ret.test (fun h => ?_) fun h => ?_
   ·exact Ret.pos (by simp) (Ret.some (.inl ⟨b, rows, rfl, by omega, by omega, g3, g4, by simpa using h⟩))
   ·(repeat first|refine Ret.p ?_|refine Ret.n ?_)
    exact Ret.some (.inr ⟨b, by simp, g1, g2⟩)
  obtain ⟨_, h, ⟨b, rows, rfl, q1, q2, q3, q4, q5⟩ | ⟨b, rfl, q1, q2⟩⟩ := key
  ·exact RetN.stop h (.inl ⟨rfl, b, rows, rfl, q1, q2, q3, q4, q5⟩)
  ·exact RetN.next h (rightF_runs l n h0 h1 k (i + 1) b (by omega) (by omega) (by omega))
theorem r_RightF (l : List (List G)) (a n : Int) (ha : 0 ≤ a) (ha1 : a ≤ 5000) (h0 : 0 ≤ n) (h1 : n ≤ 20) :
  Ret (F_mk_RightContacts_f [.l l, .i a, .i n]) fun g => ∃ b rows, g = [.l l, .i b, .l rows] ∧ 0 ≤ b ∧ b ≤ 10000 ∧ (∀ z ∈ rows, ConT z) ∧ (rows.length : Int) ≤ n ∧ faultLog rows = 0 := by
 unfold F_mk_RightContacts_f
 (dsimp +instances only [Aa,Ab,Ac,Ad,Ae,Af,Ag])
 refine Ret.loop ((rightF_runs l n h0 h1 5 0 a rfl ha (by omega)).to (by omega)) rfl ?_
 rintro c g (⟨rfl, b, rows, rfl, q⟩ | ⟨rfl, b, rfl, q1, q2⟩)
 ·exact Ret.pos rfl (Ret.pos (by simp) (Ret.some ⟨b, rows, rfl, q⟩))
 ·exact Ret.neg rfl (Ret.some ⟨b, [], rfl, q1, q2, by simp, by simpa using h0, rfl⟩)
/-! ### Whole seconds -/
def Sec (r : List G) : Prop := Con r ∧ ∃ q : Nat, (gi r 0).int = ((1000 * q : Nat) : Int) ∧ 1000 * q ≤ 1200000000
def Near (r : List G) : Prop := Con r ∧ 0 ≤ (gi r 0).int ∧ (gi r 0).int ≤ 1100000000
theorem near_of {r : List G} (h : ConT r) (hf : faultC r = 0) : Near r := by
 have hc := h.to
 obtain ⟨t, m, b, c, s, u, x, y, rfl, ht, _⟩ := h
 refine ⟨hc, ?_⟩
 have e : faultC [.i t, .i m, .s b, .s c, .i s, .i u, .s x, .s y] = bif !inB t 0 345686399999 then 1 else bif !inB m 1 3 then 4 else bif !okKey b then 5 else bif !okCall c then 3 else
  bif !inB s 0 99999 then 1 else bif !inB u 0 99999 then 1 else bif !okName x then 5 else bif !okName y then 5 else 0 := rfl
 rw [e] at hf
 cases h1 : inB t 0 345686399999 with
 | false => rw [h1] at hf; cases hf
 | true =>
  have h2 : 0 ≤ t ∧ t ≤ 345686399999 := by simpa [inB, leI_eq] using h1
  unfold tightT at ht
  show 0 ≤ t ∧ t ≤ 1100000000
  omega
theorem putC {t m : Int} {b c : ByteArray} {s h : Int} {x y : ByteArray} (v : Int) : putG [.int .i64, .int .i64, .str, .str, .int .i64, .int .i64, .str, .str] [.i t, .i m, .s b, .s c, .i s, .i h, .s x, .s y] 0 [.i v] = [.i v, .i m, .s b, .s c, .i s, .i h, .s x, .s y] := rfl
def bandsT : List (List G) := [[.s (⟨#[98, 52, 48]⟩ : ByteArray), .i 7000000, .i 7300000], [.s (⟨#[98, 50, 48]⟩ : ByteArray), .i 14000000, .i 14350000]]
theorem seconds (x : List (List G)) (hx : ∀ z ∈ x, Near z) (hn : x.length ≤ 20) : RetL st_k2_TravelKeepsSeconds_5 [.l x, .l bandsT, .i (x.length : Int), .i 0] fun c g => c = 0 ∧ ∃ y : List (List G), g = [.l y, .l bandsT] ∧ y.length = x.length ∧ ∀ z ∈ y, Sec z := by
 refine ((count_runs (σ := List (List G)) (fun y i => [.l y, .l bandsT, .i (x.length : Int), .i (i : Int)]) x.length (fun y => (0, [.l y, .l bandsT]))
  (fun y i => y.length = x.length ∧ (∀ j, j < i → j < x.length → Sec (y.getD j [])) ∧ ∀ j, i ≤ j → j < x.length → Near (y.getD j [])) (fun _ _ => False) ?_ ?_ x.length x 0 (by omega)
  ⟨rfl, fun j h => by omega, fun j _ hj => ?_⟩).to (by omega)).mono ?_
 ·rintro y i ⟨hl, h1, h2⟩ hi
  have hN := h2 i (Nat.le_refl i) hi
  have hset : ∀ (r : List G) (j : Nat), j < x.length → (y.set i r).getD j [] = if i = j then r else y.getD j [] := fun r j hj => by
   rw [List.getD_eq_getElem?_getD, List.getElem?_set, List.getD_eq_getElem?_getD]
   by_cases e : i = j
   ·rw [if_pos e, if_pos (by omega), if_pos e]
    rfl
   ·rw [if_neg e, if_neg e]
  obtain ⟨⟨t, m, b, c, s, u, w, v, hr, k1, k2, k3, k4, hb, hc, hw, hv⟩, ht0, ht1⟩ := hN
  rw [hr] at ht0 ht1
  have ht0 : 0 ≤ t := ht0
  have ht1 : t ≤ 1100000000 := ht1
  obtain ⟨t, rfl⟩ := Int.eq_ofNat_of_zero_le ht0
  have e1 : Int.tdiv (t : Int) 1000 = ((t / 1000 : Nat) : Int) := by
   rw [Int.tdiv_eq_ediv_of_nonneg (by omega)]
   omega
  have e2 : (1000 : Int) * (((t / 1000 : Nat) : Int) + (i : Int)) = ((1000 * (t / 1000 + i) : Nat) : Int) := by omega
  have hq : 1000 * (t / 1000 + i) ≤ 1200000000 := by omega
  unfold st_k2_TravelKeepsSeconds_5
  (dsimp +instances only [Aa,Ab,Ac,Ad,Ae,Af,Ag])
  simp only [Int.toNat_natCast, Nat.zero_add, hr, hl]
  (dsimp +instances only [Aa,Ab,Ac,Ad,Ae,Af,Ag])
  rw [e1, putC, e2]
  have hS : Sec [.i ((1000 * (t / 1000 + i) : Nat) : Int), .i m, .s b, .s c, .i s, .i u, .s w, .s v] := ⟨⟨_, _, _, _, _, _, _, _, rfl, ⟨by omega, by omega⟩, k2, k3, k4, hb, hc, hw, hv⟩, t / 1000 + i, rfl, hq⟩
  generalize [G.i ((1000 * (t / 1000 + i) : Nat) : Int), G.i m, G.s b, G.s c, G.i s, G.i u, G.s w, G.s v] = r at hS
  have hlen : (y.set i r).length = x.length := by rw [List.length_set, hl]
  refine Ret.p (Ret.p (Ret.pos (by simpa using hi) (Ret.pos (inI_iff.2 ⟨by omega, by omega⟩) (Ret.pos (inI_iff.2 ⟨by omega, by omega⟩) (Ret.pos (inI_iff.2 ⟨by omega, by omega⟩) (Ret.p (Ret.pos (by simpa using hi) (Ret.p (Ret.pos (by simp [hl]) (Ret.some (.inl ⟨y.set i r, rfl, hlen, ?_, ?_⟩)))))))))))
  ·intro j hj hj2
   rw [hset r j hj2]
   by_cases e : i = j
   ·rw [if_pos e]
    exact hS
   ·rw [if_neg e]
    exact h1 j (by omega) hj2
  ·intro j hj hj2
   rw [hset r j hj2, if_neg (by omega)]
   exact h2 j (by omega) hj2
 ·rintro y ⟨hl, h1, h2⟩
  unfold st_k2_TravelKeepsSeconds_5
  (dsimp +instances only [Aa,Ab,Ac,Ad,Ae,Af,Ag])
  exact Ret.n (Ret.pos (by simp) (Ret.some rfl))
 ·rw [List.getD_eq_getElem?_getD, List.getElem?_eq_getElem hj]
  exact hx _ (List.getElem_mem hj)
 ·rintro c g (⟨y, ⟨hl, h1, _⟩, rfl, rfl⟩ | h)
  ·refine ⟨rfl, y, rfl, hl, fun z hz => ?_⟩
   obtain ⟨j, hj, rfl⟩ := List.getElem_of_mem hz
   have := h1 j (by omega) (by omega)
   rwa [List.getD_eq_getElem?_getD, List.getElem?_eq_getElem hj] at this
  ·exact h.elim
/-! ### The words of a line -/
def qsoL : List UInt8 := [81, 83, 79, 58]
def callL : List UInt8 := [67, 65, 76, 76, 58]
def endL : List UInt8 := [69, 78, 68]
def signB : ByteArray := ⟨#[111, 104, 50, 97, 98, 99]⟩
def b20B : ByteArray := ⟨#[98, 50, 48]⟩
def b40B : ByteArray := ⟨#[98, 52, 48]⟩
def modeQ (m : Int) : ByteArray := if m = 1 then ⟨#[67, 87]⟩ else if m = 2 then ⟨#[80, 72]⟩ else ⟨#[82, 89]⟩
def modeRowsQ : List (List G) := [[.s (⟨#[]⟩ : ByteArray)], [.s (⟨#[67, 87]⟩ : ByteArray)], [.s (⟨#[80, 72]⟩ : ByteArray)], [.s (⟨#[82, 89]⟩ : ByteArray)]]
theorem modeWordsQ : F_log_modeWords [] = some [.l modeRowsQ] := rfl
theorem modeQ_at {m : Int} (h : m = 1 ∨ m = 2 ∨ m = 3) : (gi (modeRowsQ.getD m.toNat []) 0).str = modeQ m := by
 rcases h with rfl | rfl | rfl <;> rfl
theorem modeQ_ix {m : Int} (h : m = 1 ∨ m = 2 ∨ m = 3) : F_sl_Index_string [.l modeRowsQ, .s (modeQ m)] = some [.i m] := by
 rcases h with rfl | rfl | rfl
 ·show F_sl_Index_string [.l modeRowsQ, .s (⟨#[67, 87]⟩ : ByteArray)] = some [.i 1]
  kernel_rfl
 ·show F_sl_Index_string [.l modeRowsQ, .s (⟨#[80, 72]⟩ : ByteArray)] = some [.i 2]
  kernel_rfl
 ·show F_sl_Index_string [.l modeRowsQ, .s (⟨#[82, 89]⟩ : ByteArray)] = some [.i 3]
  kernel_rfl
theorem modeQ_word {m : Int} (h : m = 1 ∨ m = 2 ∨ m = 3) : Word (modeQ m).data.toList ∧ (modeQ m).data.toList.length ≤ 20 := by
 rcases h with rfl | rfl | rfl
 ·exact wordB_iff (show wordB (⟨#[67, 87]⟩ : ByteArray) = true from by kernel_rfl)
 ·exact wordB_iff (show wordB (⟨#[80, 72]⟩ : ByteArray) = true from by kernel_rfl)
 ·exact wordB_iff (show wordB (⟨#[82, 89]⟩ : ByteArray) = true from by kernel_rfl)
theorem pad2_word {n : Nat} (h : n < 100) : ∀ b ∈ pad2 n, b ≠ 32 ∧ b ≠ 10 := fun b hb => by
 have := pad2_nat h b hb
 constructor <;> (intro e; rw [e] at this; simp at this)
theorem date_word {d : Nat} (h : d < 31) : Word (dateW d) ∧ (dateW d).length ≤ 20 := by
 refine ⟨⟨by simp [dateW, yearW], fun b hb => ?_⟩, by simp [dateW, yearW, pad2]⟩
 unfold dateW at hb
 rw [List.mem_append] at hb
 rcases hb with hb | hb
 ·revert b
  decide
 ·rcases List.mem_cons.1 hb with rfl | hb
  ·decide
  ·rcases List.mem_append.1 hb with hb | hb
   ·exact pad2_word (by omega) b hb
   ·rcases List.mem_cons.1 hb with rfl | hb
    ·decide
    ·exact pad2_word (by omega) b hb
theorem time_word {s : Nat} (h : s < 86400) : Word (timeW s) ∧ (timeW s).length ≤ 20 := by
 refine ⟨⟨by simp [timeW, pad2], fun b hb => ?_⟩, by simp [timeW, pad2]⟩
 unfold timeW at hb
 rcases List.mem_append.1 hb with hb | hb
 ·exact pad2_word (by omega) b hb
 ·rcases List.mem_append.1 hb with hb | hb
  ·exact pad2_word (by omega) b hb
  ·exact pad2_word (by omega) b hb
def serW (n : Int) : List UInt8 := if n = 0 then [45] else Lib.itoa n
theorem ser_word {n : Int} (h0 : 0 ≤ n) (h1 : n ≤ 99999) : Word (serW n) ∧ (serW n).length ≤ 20 := by
 unfold serW
 split
 ·exact ⟨⟨by simp, fun b hb => by rw [List.mem_singleton.1 hb]; decide⟩, by simp⟩
 ·have := len_itoa h0 (by omega)
  exact ⟨itoa_word n, by omega⟩
theorem serText {n : Int} (h0 : 0 ≤ n) (h1 : n ≤ 99999) : F_log_serialText [.i n] = some [.s (byL (serW n))] := by
 refine Ret.toEq ?_
 unfold F_log_serialText serW
 (dsimp +instances only [Aa,Ab,Ac,Ad,Ae,Af,Ag])
 refine Ret.test (fun h => ?_) fun h => ?_
 ·rw [if_pos (by simpa using h)]
  exact Ret.some rfl
 ·rw [if_neg (by simpa using h)]
  refine Ret.cE (itoaA n (by omega) (by omega)) ?_
  exact Ret.some rfl
theorem serRead {n : Int} (h0 : 0 ≤ n) (h1 : n ≤ 99999) : F_log_readSerial [.s (byL (serW n))] = some [.i n, .t true] := by
 refine Ret.toEq ?_
 unfold F_log_readSerial serW
 (dsimp +instances only [Aa,Ab,Ac,Ad,Ae,Af,Ag])
 rw [byL_list, Lib.toList_data]
 by_cases hn : n = 0
 ·rw [if_pos hn, hn]
  exact Ret.pos rfl (Ret.some rfl)
 ·rw [if_neg hn]
  have hne : (Lib.itoa n == [45]) = false := by
   rw [beq_eq_false_iff_ne]
   intro e
   unfold Lib.itoa at e
   rw [if_neg (by omega)] at e
   have := dec_mem _ 45 (by rw [e]; simp)
   have e45 : (45 : UInt8).toNat = 45 := rfl
   omega
  refine Ret.neg hne ?_
  refine Ret.cE (numberKit n (by omega) (by omega)) ?_
  refine Ret.pos rfl (Ret.some ?_)
  have : (n != 0) = true := by simpa using hn
  (dsimp +instances only [Aa,Ab,Ac,Ad,Ae,Af,Ag])
  rw [this]
def ConX (r : List G) : Prop := ∃ (q : Nat) (m : Int) (b c : ByteArray) (s h : Int) (x y : ByteArray), r = [.i ((1000 * q : Nat) : Int), .i m, .s b, .s c, .i s, .i h, .s x, .s y] ∧ 1000 * q ≤ 1200000000 ∧ (m = 1 ∨ m = 2 ∨ m = 3) ∧ (b = b40B ∨ b = b20B) ∧
 (Word c.data.toList ∧ c.data.toList.length ≤ 20) ∧ (0 ≤ s ∧ s ≤ 99999) ∧ (0 ≤ h ∧ h ≤ 99999) ∧ DashOK x ∧ DashOK y
theorem band_two {b : ByteArray} (h : b ∈ bands) (hok : okKey b = true) : b = b40B ∨ b = b20B := by
 simp only [bands, List.mem_cons, List.not_mem_nil, or_false] at h
 rcases h with rfl | rfl | rfl | rfl
 ·rw [show okKey (⟨#[]⟩ : ByteArray) = false from by kernel_rfl] at hok
  cases hok
 ·rw [show okKey (⟨#[66]⟩ : ByteArray) = false from by kernel_rfl] at hok
  cases hok
 ·exact .inr rfl
 ·exact .inl rfl
theorem okKey_of {r : List G} (hf : faultC r = 0) : okKey (gi r 2).str = true := by
 unfold faultC at hf
 cases h1 : inB (gi r 0).int 0 345686399999 with
 | false => rw [h1] at hf; cases hf
 | true =>
 cases h2 : inB (gi r 1).int 1 3 with
 | false => rw [h1, h2] at hf; cases hf
 | true =>
 cases h3 : okKey (gi r 2).str with
 | false => rw [h1, h2, h3] at hf; cases hf
 | true => rfl
theorem conX_of {r : List G} (h : Sec r) (hf : faultC r = 0) : ConX r := by
 obtain ⟨hC, q, hq, hq1⟩ := h
 have hk := okKey_of hf
 obtain ⟨t, m, b, c, s, h, x, y, e, ht, hm, hb, hc, hs, hh, hx, hy⟩ := conW_of hC hf
 obtain ⟨t', m', b', c', s', h', x', y', e', _, _, _, _, hb', _⟩ := hC
 rw [e] at e' hk hq
 cases e'
 have hq : t = ((1000 * q : Nat) : Int) := hq
 subst hq
 exact ⟨q, m, b, c, s, h, x, y, e, hq1, hm, band_two hb' hk, hc, hs, hh, hx, hy⟩
def khz (b : ByteArray) : Int := if eqS b b40B then 7000 else 14000
theorem khz_ok {b : ByteArray} (h : b = b40B ∨ b = b20B) : 0 ≤ khz b ∧ khz b ≤ 14000 := by
 unfold khz
 split <;> omega
def secOf (r : List G) : Nat := (gi r 0).int.toNat
def wordsQ (r : List G) : List (List UInt8) :=
 [qsoL, Lib.itoa (khz (gi r 2).str), (modeQ (gi r 1).int).data.toList, dateW (secOf r / 86400000), timeW (secOf r % 86400000 / 1000), (gi r 3).str.data.toList, serW (gi r 4).int, dashL (gi r 6).str.data.toList, serW (gi r 5).int, dashL (gi r 7).str.data.toList]
theorem wordsQ_eq {q : Nat} {m : Int} {b c : ByteArray} {s h : Int} {x y : ByteArray} : wordsQ [.i ((1000 * q : Nat) : Int), .i m, .s b, .s c, .i s, .i h, .s x, .s y] =
  [qsoL, Lib.itoa (khz b), (modeQ m).data.toList, dateW (1000 * q / 86400000), timeW (1000 * q % 86400000 / 1000), c.data.toList, serW s, dashL x.data.toList, serW h, dashL y.data.toList] := by
 have e : secOf [.i ((1000 * q : Nat) : Int), .i m, .s b, .s c, .i s, .i h, .s x, .s y] = 1000 * q := Int.toNat_natCast _
 unfold wordsQ
 rw [e]
 rfl
theorem wordsQ_word {r : List G} (hr : ConX r) : ∀ w ∈ wordsQ r, Word w ∧ w.length ≤ 20 := by
 obtain ⟨q, m, b, c, s, h, x, y, rfl, hq, hm, hb, hc, hs, hh, hx, hy⟩ := hr
 rw [wordsQ_eq]
 have hk := khz_ok hb
 intro w hw
 simp only [List.mem_cons, List.not_mem_nil, or_false] at hw
 rcases hw with rfl | rfl | rfl | rfl | rfl | rfl | rfl | rfl | rfl | rfl
 ·exact ⟨⟨by decide, by decide⟩, by decide⟩
 ·have := len_itoa hk.1 (by omega)
  exact ⟨itoa_word _, by omega⟩
 ·exact modeQ_word hm
 ·exact date_word (by omega)
 ·exact time_word (by omega)
 ·exact hc
 ·exact ser_word hs.1 hs.2
 ·exact ⟨hx.1, hx.2.1⟩
 ·exact ser_word hh.1 hh.2
 ·exact ⟨hy.1, hy.2.1⟩
theorem lineW_len : ∀ {W : List (List UInt8)}, (∀ w ∈ W, w.length ≤ 20) → (lineL W).length ≤ 21 * W.length + 1
 | [], _ => by
  unfold lineL
  simp [Lib.join]
 | [x], h => by
  have := h x List.mem_cons_self
  unfold lineL
  rw [Lib.join_one]
  simp
  omega
 | x :: y :: W, h => by
  have ih := lineW_len (W := y :: W) fun w hw => h w (List.mem_cons_of_mem x hw)
  have := h x List.mem_cons_self
  unfold lineL at ih ⊢
  rw [join_two]
  simp only [List.length_append, List.length_cons, List.length_nil] at ih ⊢
  omega
theorem wordsQ_len {r : List G} (hr : ConX r) : (lineL (wordsQ r)).length ≤ 211 := lineW_len (W := wordsQ r) fun w hw => (wordsQ_word hr w hw).2
def linesQ (x : List (List G)) : List (List (List UInt8)) := [callL, signB.data.toList] :: x.map wordsQ
theorem linesQ_snoc (x : List (List G)) (z : List G) : linesQ (x ++ [z]) = linesQ x ++ [wordsQ z] := by simp [linesQ]
theorem linesQ_len {x : List (List G)} (hx : ∀ z ∈ x, ConX z) : (textL (linesQ x)).length ≤ 211 * x.length + 50 := by
 have h : ∀ {y : List (List G)}, (∀ z ∈ y, ConX z) → (textL (y.map wordsQ)).length ≤ 211 * y.length := by
  intro y
  induction y with
  | nil => intro _; simp [textL]
  | cons z y ih =>
   intro h
   have := wordsQ_len (h z List.mem_cons_self)
   have := ih fun w hw => h w (List.mem_cons_of_mem z hw)
   have e : textL ((z :: y).map wordsQ) = lineL (wordsQ z) ++ textL (y.map wordsQ) := rfl
   rw [e, List.length_append, List.length_cons, Nat.mul_succ]
   omega
 have e : textL (linesQ x) = lineL [callL, signB.data.toList] ++ textL (x.map wordsQ) := rfl
 have e2 : (lineL [callL, signB.data.toList]).length = 13 := by
  unfold lineL
  rw [join_two, Lib.join_one]
  rfl
 rw [e, List.length_append, e2]
 have := h hx
 omega
theorem bandAt_ok {r : List G} (hr : ConX r) : ∃ k : Nat, k < 2 ∧ F_sl_IndexFunc_Band_2 [.l bandsT, .l [r]] = some [.i (k : Int)] ∧ Int.tdiv (gi (bandsT.getD k []) 1).int 1000 = khz (gi r 2).str := by
 obtain ⟨q, m, b, c, s, h, x, y, rfl, _, _, hb, _⟩ := hr
 generalize ((1000 * q : Nat) : Int) = t
 rcases hb with rfl | rfl
 ·exact ⟨0, by omega, (by
   show F_sl_IndexFunc_Band_2 [.l bandsT, .l [[.i t, .i m, .s (⟨#[98, 52, 48]⟩ : ByteArray), .s c, .i s, .i h, .s x, .s y]]] = some [.i 0]
   kernel_rfl), by
   show Int.tdiv 7000000 1000 = khz b40B
   kernel_rfl⟩
 ·exact ⟨1, by omega, (by
   show F_sl_IndexFunc_Band_2 [.l bandsT, .l [[.i t, .i m, .s (⟨#[98, 50, 48]⟩ : ByteArray), .s c, .i s, .i h, .s x, .s y]]] = some [.i 1]
   kernel_rfl), by
   show Int.tdiv 14000000 1000 = khz b20B
   kernel_rfl⟩
theorem bandsT_ok : F_log_CheckBands [.l bandsT] = some [.i 0] := by kernel_rfl
theorem sign_is : F_call_Is [.s signB] = some [.t true] := by kernel_rfl
theorem exportQ (x : List (List G)) (hx : ∀ z ∈ x, Sec z) (hf : faultLog x = 0) (hn : x.length ≤ 20) : F_log_Export [.l bandsT, .s signB, .l x] = some [.s (byL (textL (linesQ x ++ [[endL]]))), .i 0] := by
 have hX : ∀ z ∈ x, ConX z := fun z hz => conX_of (hx z hz) (faultLog_all hf z hz)
 refine Ret.toEq ?_
 unfold F_log_Export
 (dsimp +instances only [Aa,Ab,Ac,Ad,Ae,Af,Ag])
 refine Ret.cE bandsT_ok ?_
 refine Ret.neg rfl ?_
 refine Ret.cE sign_is ?_
 refine Ret.neg rfl ?_
 refine Ret.cE (checkLog_eq x (fun z hz => (hx z hz).1) (by omega)) ?_
 (dsimp +instances only [Aa,Ab,Ac,Ad,Ae,Af,Ag])
 rw [hf]
 refine Ret.neg rfl ?_
 have hc : (lineL ([(⟨#[67, 65, 76, 76, 58]⟩ : ByteArray), signB].map (·.data.toList))).length ≤ 1000000 := by
  show (lineL [callL, signB.data.toList]).length ≤ 1000000
  unfold lineL
  rw [join_two, Lib.join_one]
  decide
 refine Ret.cE (joinKit [(⟨#[67, 65, 76, 76, 58]⟩ : ByteArray), signB] (by simp) hc) ?_
 (dsimp +instances only [Aa,Ab,Ac,Ad,Ae,Af,Ag])
 have e0 : textL (linesQ []) = lineL [callL, signB.data.toList] := by
  show lineL [callL, signB.data.toList] ++ [] = _
  simp
 have ew : F_strings_Builder_WriteString [.s (⟨#[]⟩ : ByteArray), .s (byL (lineL ([(⟨#[67, 65, 76, 76, 58]⟩ : ByteArray), signB].map (·.data.toList))))] = some [.s (byL (textL (linesQ []))), .i ((lineL [callL, signB.data.toList]).length : Nat)] := by
  have := writeB (⟨#[]⟩ : ByteArray) (byL (lineL [callL, signB.data.toList])) (by
   rw [byL_size]
   have : (⟨#[]⟩ : ByteArray).size = 0 := rfl
   have := hc
   have : (lineL [callL, signB.data.toList]).length ≤ 1000000 := hc
   omega)
  rw [byL_size] at this
  rw [e0]
  rw [show (⟨#[]⟩ : ByteArray) ++ byL (lineL [callL, signB.data.toList]) = byL (lineL [callL, signB.data.toList]) from by rw [← byL_nil, byL_append]; rfl] at this
  exact this
 refine Ret.cE ew ?_
 (dsimp +instances only [Aa,Ab,Ac,Ad,Ae,Af,Ag])
 have r := range_all (st := st_log_Export_12) (σ := Unit) (fun _ i => [.s (byL (textL (linesQ (x.take i)))), .l bandsT, .l x, .i (x.length : Int), .i (i : Int)]) x (fun _ => (1, [.s (byL (textL (linesQ x)))])) (fun _ _ => True) () (by omega) trivial
  (fun _ i z _ hi hz hm ht => by
   have hl := wordsQ_len (hX z hm)
   have ht1 := linesQ_len (x := x.take i) fun w hw => hX w (List.mem_of_mem_take hw)
   have ht2 : (x.take i).length ≤ 20 := by rw [List.length_take]; omega
   have hX' := hX z hm
   obtain ⟨k, hk, hb1, hb2⟩ := bandAt_ok hX'
   have hkb : Int.tdiv (gi (bandsT.getD k []) 1).int 1000 = khz (gi z 2).str := hb2
   obtain ⟨q, m, b, c, s, h, u, y, rfl, hq, hmm, hb, hc', hs, hh, hu, hy⟩ := hX'
   have hkz := khz_ok hb
   unfold st_log_Export_12
   (dsimp +instances only [Aa,Ab,Ac,Ad,Ae,Af,Ag])
   simp only [Int.toNat_natCast, hz]
   refine Ret.p (Ret.p ?_)
   refine Ret.cE (show F_sl_IndexFunc_Band_2 [.l bandsT, .l [gEta [.int .i64, .int .i64, .str, .str, .int .i64, .int .i64, .str, .str] [.i ((1000 * q : Nat) : Int), .i m, .s b, .s c, .i s, .i h, .s u, .s y]]] = some [.i (k : Int)] from hb1) ?_
   (dsimp +instances only [Aa,Ab,Ac,Ad,Ae,Af,Ag])
   refine Ret.neg (by rw [ltI_eq, decide_eq_false_iff_not]; omega) ?_
   refine Ret.cE (momentT (t := 1000 * q) (by omega)) ?_
   (dsimp +instances only [Aa,Ab,Ac,Ad,Ae,Af,Ag])
   refine Ret.pos (by rw [show bandsT.length = 2 from rfl, Bool.and_eq_true, nnI_eq, ltI_eq, decide_eq_true_eq, decide_eq_true_eq]; omega) ?_
   simp only [Int.toNat_natCast]
   rw [hkb]
   have ekz : khz (gi [G.i ((1000 * q : Nat) : Int), G.i m, G.s b, G.s c, G.i s, G.i h, G.s u, G.s y] 2).str = khz b := rfl
   rw [ekz]
   refine Ret.pos (inI_iff.2 ⟨by omega, by omega⟩) ?_
   refine Ret.cE (itoaA (khz b) (by omega) (by omega)) ?_
   refine Ret.cE modeWordsQ ?_
   (dsimp +instances only [Aa,Ab,Ac,Ad,Ae,Af,Ag])
   refine Ret.pos (by rw [show modeRowsQ.length = 4 from rfl, Bool.and_eq_true, nnI_eq, ltI_eq, decide_eq_true_eq, decide_eq_true_eq]; omega) ?_
   refine Ret.cE (serText hs.1 hs.2) ?_
   refine Ret.cE (dashKit u) ?_
   refine Ret.cE (serText hh.1 hh.2) ?_
   refine Ret.cE (dashKit y) ?_
   (dsimp +instances only [Aa,Ab,Ac,Ad,Ae,Af,Ag])
   rw [modeQ_at hmm]
   have e : [(⟨#[81, 83, 79, 58]⟩ : ByteArray), itoaZ (khz b), modeQ m, byL (dateW (1000 * q / 86400000)), byL (timeW (1000 * q % 86400000 / 1000)), c, byL (serW s), byL (dashL u.data.toList), byL (serW h), byL (dashL y.data.toList)].map (·.data.toList) = wordsQ [.i ((1000 * q : Nat) : Int), .i m, .s b, .s c, .i s, .i h, .s u, .s y] := by
    rw [wordsQ_eq]
    simp only [List.map_cons, List.map_nil, itoa_byL, byL_data]
    rfl
   refine Ret.cE (joinKit [(⟨#[81, 83, 79, 58]⟩ : ByteArray), itoaZ (khz b), modeQ m, byL (dateW (1000 * q / 86400000)), byL (timeW (1000 * q % 86400000 / 1000)), c, byL (serW s), byL (dashL u.data.toList), byL (serW h), byL (dashL y.data.toList)] (by simp) (by rw [e]; omega)) ?_
   (dsimp +instances only [Aa,Ab,Ac,Ad,Ae,Af,Ag])
   rw [e]
   refine Ret.cE (writeB _ _ (by rw [byL_size, byL_size]; omega)) ?_
   (dsimp +instances only [Aa,Ab,Ac,Ad,Ae,Af,Ag])
   refine Ret.p (Ret.some ⟨(), ?_, trivial⟩)
   rw [ht, linesQ_snoc, textL_snoc, ← byL_append]
   rfl)
  (fun _ _ => by
   unfold st_log_Export_12
   (dsimp +instances only [Aa,Ab,Ac,Ad,Ae,Af,Ag])
   rw [List.take_length]
   exact Ret.n (Ret.some rfl))
 refine Ret.loop r (by simp) ?_
 rintro _ _ ⟨_, _, rfl, rfl⟩
 refine Ret.neg rfl ?_
 (dsimp +instances only [Aa,Ab,Ac,Ad,Ae,Af,Ag])
 have hl := linesQ_len hX
 have ee : (⟨#[69, 78, 68, 10]⟩ : ByteArray) = byL (lineL [endL]) := by
  unfold lineL
  rw [Lib.join_one]
  rfl
 rw [ee]
 have el : (lineL [endL]).length = 4 := by
  unfold lineL
  rw [Lib.join_one]
  rfl
 refine Ret.cE (writeB _ _ (by rw [byL_size, byL_size, el]; omega)) ?_
 (dsimp +instances only [Aa,Ab,Ac,Ad,Ae,Af,Ag])
 refine Ret.cE (lenB _) ?_
 (dsimp +instances only [Aa,Ab,Ac,Ad,Ae,Af,Ag])
 refine Ret.neg (by rw [byL_append, byL_size, List.length_append, el, ltI_eq, decide_eq_false_iff_not]; omega) ?_
 refine Ret.cE (stringB _) ?_
 refine Ret.some ?_
 (dsimp +instances only [Aa,Ab,Ac,Ad,Ae,Af,Ag])
 rw [byL_append, textL_snoc]
theorem at40 : F_log_At [.l bandsT, .i 7000000] = some [.i 0] := by kernel_rfl
theorem at20 : F_log_At [.l bandsT, .i 14000000] = some [.i 1] := by kernel_rfl
theorem khzAt {b : ByteArray} (h : b = b40B ∨ b = b20B) : ∃ k : Nat, k < 2 ∧ F_log_At [.l bandsT, .i (khz b * 1000)] = some [.i (k : Int)] ∧ (gi (bandsT.getD k []) 0).str = b := by
 rcases h with rfl | rfl
 ·rw [show khz b40B = 7000 from by kernel_rfl]
  exact ⟨0, by omega, at40, rfl⟩
 ·rw [show khz b20B = 14000 from by kernel_rfl]
  exact ⟨1, by omega, at20, rfl⟩
theorem undDash {s : ByteArray} (h : DashOK s) : F_kit_Undash [.s (byL (dashL s.data.toList))] = some [.s s] := undashKit h
theorem contactQ {r : List G} (hr : ConX r) (acc : List (List G)) (hn : acc.length ≤ 1000) :
  F_log_importer_contact [.l bandsT, .s signB, .t true, .t false, .l acc, .l ((wordsQ r).map fun w => [G.s (byL w)])] = some [.l bandsT, .s signB, .t true, .t false, .l (acc ++ [r]), .i 0] := by
 obtain ⟨q, m, b, c, s, h, x, y, rfl, hq, hm, hb, hc, hs, hh, hx, hy⟩ := hr
 obtain ⟨k, hk, ha, hbk⟩ := khzAt hb
 have hkz := khz_ok hb
 rw [wordsQ_eq]
 simp only [List.map_cons, List.map_nil]
 rw [byL_of (modeQ m), byL_of c]
 refine Ret.toEq ?_
 unfold F_log_importer_contact
 (dsimp +instances only [Aa,Ab,Ac,Ad,Ae,Af,Ag])
 have hq0 : (!((byL qsoL).toList == (⟨#[81, 83, 79, 58]⟩ : ByteArray).toList)) = false := by
  rw [byL_list, Lib.toList_data]
  rfl
 refine Ret.neg rfl (Ret.pos rfl (Ret.neg hq0 (Ret.pos rfl ?_)))
 refine Ret.cE (show F_kit_Number [.s (byL (Lib.itoa (khz b))), .i 15] = some [.i (khz b), .t true] from numberKit (khz b) (by omega) (by omega)) ?_
 refine Ret.cE modeWordsQ ?_
 refine Ret.pos rfl ?_
 refine Ret.cE (modeQ_ix hm) ?_
 refine Ret.pos rfl (Ret.pos rfl ?_)
 refine Ret.cE (readM (d := 1000 * q / 86400000) (s := 1000 * q % 86400000 / 1000) (by omega) (by omega)) ?_
 refine Ret.pos rfl ?_
 refine Ret.cE (serRead hs.1 hs.2) ?_
 refine Ret.pos rfl ?_
 refine Ret.cE (serRead hh.1 hh.2) ?_
 refine Ret.neg rfl (Ret.neg rfl (Ret.neg rfl (Ret.neg rfl ?_)))
 (dsimp +instances only [Aa,Ab,Ac,Ad,Ae,Af,Ag])
 refine Ret.neg (by rw [ltI_eq, decide_eq_false_iff_not]; omega) (Ret.pos (by rw [leI_eq, decide_eq_true_eq]; omega) (Ret.pos (inI_iff.2 ⟨by omega, by omega⟩) ?_))
 refine Ret.cE ha ?_
 (dsimp +instances only [Aa,Ab,Ac,Ad,Ae,Af,Ag])
 refine Ret.neg (by rw [ltI_eq, decide_eq_false_iff_not]; omega) (Ret.pos (by rw [show bandsT.length = 2 from rfl, Bool.and_eq_true, nnI_eq, ltI_eq, decide_eq_true_eq, decide_eq_true_eq]; omega) (Ret.pos rfl (Ret.pos rfl ?_)))
 refine Ret.cE (undDash hx) ?_
 refine Ret.pos rfl ?_
 refine Ret.cE (undDash hy) ?_
 (dsimp +instances only [Aa,Ab,Ac,Ad,Ae,Af,Ag])
 rw [Int.toNat_natCast, hbk]
 have e : 1000 * q / 86400000 * 86400000 + 1000 * q % 86400000 / 1000 * 1000 = 1000 * q := by omega
 rw [e]
 exact Ret.p (Ret.pos (by simp) (Ret.some rfl))
theorem lineQ {r : List G} (hr : ConX r) (acc : List (List G)) (hn : acc.length ≤ 1000) :
  F_log_importer_line [.l bandsT, .s signB, .t true, .t false, .l acc, .s (byL (Lib.join (wordsQ r) [32]))] = some [.l bandsT, .s signB, .t true, .t false, .l (acc ++ [r]), .i 0] := by
 have hW : ∀ w ∈ wordsQ r, Word w := fun w hw => (wordsQ_word hr w hw).1
 have hl := wordsQ_len hr
 have hl2 : (Lib.join (wordsQ r) [32]).length + 1 ≤ 211 := by simpa [lineL] using hl
 have hne : wordsQ r ≠ [] := by simp [wordsQ]
 have hj : ∃ tl, Lib.join (wordsQ r) [32] = 81 :: tl := by
  unfold wordsQ
  rw [join_two]
  exact ⟨_, rfl⟩
 have hk := contactQ hr acc hn
 have hwk := wordsKit (wordsQ r) hne hW (by simp [wordsQ]) (by omega)
 obtain ⟨tl, htl⟩ := hj
 have hlen : (wordsQ r).length = 10 := by simp [wordsQ]
 refine Ret.toEq ?_
 unfold F_log_importer_line
 (dsimp +instances only [Aa,Ab,Ac,Ad,Ae,Af,Ag])
 rw [byL_list, Lib.toList_data]
 refine Ret.neg (by rw [htl]; rfl) ?_
 refine Ret.cE hwk ?_
 refine Ret.neg rfl (Ret.neg rfl (Ret.neg rfl ?_))
 have hend : (Lib.join (wordsQ r) [32] == (⟨#[69, 78, 68]⟩ : ByteArray).toList) = false := by
  rw [htl, Lib.toList_data]
  rfl
 refine Ret.neg hend ?_
 refine Ret.callb (Ret.eq hk) (by simp) ?_
 rintro _ rfl
 exact Ret.pos (by simp) (Ret.some rfl)
theorem lineHead (acc : List (List G)) : F_log_importer_line [.l bandsT, .s (⟨#[]⟩ : ByteArray), .t false, .t false, .l acc, .s (byL (Lib.join [callL, signB.data.toList] [32]))] = some [.l bandsT, .s signB, .t true, .t false, .l acc, .i 0] := by
 have hW : ∀ w ∈ [callL, signB.data.toList], Word w := fun w hw => by
  simp only [List.mem_cons, List.not_mem_nil, or_false] at hw
  rcases hw with rfl | rfl
  ·exact ⟨by decide, by decide⟩
  ·exact ⟨by decide, by decide⟩
 have hj : Lib.join [callL, signB.data.toList] [32] = [67, 65, 76, 76, 58, 32, 111, 104, 50, 97, 98, 99] := by
  rw [join_two, Lib.join_one]
  rfl
 have hwk := wordsKit [callL, signB.data.toList] (by simp) hW (by simp) (by rw [hj]; simp)
 refine Ret.toEq ?_
 unfold F_log_importer_line
 (dsimp +instances only [Aa,Ab,Ac,Ad,Ae,Af,Ag])
 rw [byL_list, Lib.toList_data]
 refine Ret.neg (by rw [hj]; rfl) ?_
 refine Ret.cE hwk ?_
 refine Ret.neg rfl (Ret.neg rfl (Ret.pos rfl (Ret.neg rfl (Ret.pos rfl (Ret.neg ?_ (Ret.pos rfl (Ret.pos (by simp) (Ret.some ?_))))))))
 ·show (!((byL callL).toList == (⟨#[67, 65, 76, 76, 58]⟩ : ByteArray).toList)) = false
  rw [byL_list, Lib.toList_data]
  rfl
 ·show [G.l bandsT, G.s (byL signB.data.toList), G.t true, G.t false, G.l acc, G.i 0] = _
  rw [byL_of]
theorem lineEnd (acc : List (List G)) : F_log_importer_line [.l bandsT, .s signB, .t true, .t false, .l acc, .s (byL (Lib.join [endL] [32]))] = some [.l bandsT, .s signB, .t true, .t true, .l acc, .i 0] := by
 have hW : ∀ w ∈ [endL], Word w := fun w hw => by
  rw [List.mem_singleton.1 hw]
  exact ⟨by decide, by decide⟩
 have hj : Lib.join [endL] [32] = [69, 78, 68] := Lib.join_one _ _
 have hwk := wordsKit [endL] (by simp) hW (by simp) (by rw [hj]; simp)
 refine Ret.toEq ?_
 unfold F_log_importer_line
 (dsimp +instances only [Aa,Ab,Ac,Ad,Ae,Af,Ag])
 rw [byL_list, Lib.toList_data]
 refine Ret.neg (by rw [hj]; rfl) ?_
 refine Ret.cE hwk ?_
 refine Ret.neg rfl (Ret.neg rfl (Ret.neg rfl (Ret.pos ?_ (Ret.pos (by simp) (Ret.some rfl)))))
 show (Lib.join [endL] [32] == (⟨#[69, 78, 68]⟩ : ByteArray).toList) = true
 rw [hj, Lib.toList_data]
 rfl
theorem importQ (x : List (List G)) (hx : ∀ z ∈ x, Sec z) (hf : faultLog x = 0) (hn : x.length ≤ 20) : F_log_Import [.l bandsT, .s (byL (textL (linesQ x ++ [[endL]])))] = some [.s signB, .l x, .i 0, .i 0] := by
 have hX : ∀ z ∈ x, ConX z := fun z hz => conX_of (hx z hz) (faultLog_all hf z hz)
 have hC : ∀ z ∈ x, Con z := fun z hz => (hx z hz).1
 have hl := linesQ_len hX
 have el : (lineL [endL]).length = 4 := by
  unfold lineL
  rw [Lib.join_one]
  rfl
 have hlen : (textL (linesQ x ++ [[endL]])).length ≤ 5000 := by
  rw [textL_snoc, List.length_append, el]
  omega
 refine Ret.toEq ?_
 unfold F_log_Import
 (dsimp +instances only [Aa,Ab,Ac,Ad,Ae,Af,Ag])
 refine Ret.cE bandsT_ok ?_
 refine Ret.neg rfl (Ret.neg (by rw [byL_size, ltI_eq, decide_eq_false_iff_not]; omega) ?_)
 refine Ret.call (Ret.eq (linesKit (linesQ x ++ [[endL]]) (fun ws hws w hw => by
  rcases List.mem_append.1 hws with h | h
  ·rcases List.mem_cons.1 h with rfl | h
   ·simp only [List.mem_cons, List.not_mem_nil, or_false] at hw
    rcases hw with rfl | rfl
    ·exact ⟨by decide, by decide⟩
    ·exact ⟨by decide, by decide⟩
   ·obtain ⟨z, hz, rfl⟩ := List.mem_map.1 h
    exact (wordsQ_word (hX z hz) w hw).1
  ·rw [List.mem_singleton.1 h] at hw
   rw [List.mem_singleton.1 hw]
   exact ⟨by decide, by decide⟩) (by omega))) ?_
 rintro _ rfl
 (dsimp +instances only [Aa,Ab,Ac,Ad,Ae,Af,Ag])
 generalize hR : (linesQ x ++ [[endL]]).map (fun ws => [G.s (byL (Lib.join ws [32]))]) = R
 have hRl : R.length = x.length + 2 := by rw [← hR]; simp [linesQ]
 have r0 : R.getD 0 [] = [G.s (byL (Lib.join [callL, signB.data.toList] [32]))] := by rw [← hR]; rfl
 have rmid : ∀ i (hi : i < x.length), R.getD (i + 1) [] = [G.s (byL (Lib.join (wordsQ x[i]) [32]))] := fun i hi => by
  rw [← hR, List.getD_eq_getElem?_getD, List.getElem?_map]
  have : (linesQ x ++ [[endL]])[i + 1]? = some (wordsQ x[i]) := by
   unfold linesQ
   rw [List.cons_append, List.getElem?_cons_succ, List.getElem?_append_left (by simpa using hi), List.getElem?_map, List.getElem?_eq_getElem hi]
   rfl
  rw [this]
  rfl
 have rend : R.getD (x.length + 1) [] = [G.s (byL (Lib.join [endL] [32]))] := by
  rw [← hR, List.getD_eq_getElem?_getD, List.getElem?_map]
  have : (linesQ x ++ [[endL]])[x.length + 1]? = some [endL] := by
   unfold linesQ
   rw [List.cons_append, List.getElem?_cons_succ, List.getElem?_append_right (by simp)]
   simp
  rw [this]
  rfl
 refine Ret.loop (P := fun c g => c = 1 ∧ g = [.l bandsT, .s signB, .t true, .t true, .l x, .l R]) ?_ (by simp) ?_
 ·refine ((count_runs (σ := Unit) (fun _ i => [.l bandsT, .s (if i = 0 then (⟨#[]⟩ : ByteArray) else signB), .t (Nat.blt 0 i), .t (Nat.blt (x.length + 1) i), .l (x.take (i - 1)), .l R, .t true, .l R, .i (R.length : Int), .i (i : Int)]) R.length
   (fun _ => (1, [.l bandsT, .s signB, .t true, .t true, .l x, .l R])) (fun _ _ => True) (fun _ _ => False) ?_ ?_ R.length () 0 (by omega) trivial).to (by omega)).mono ?_
  ·rintro _ i _ hi
   have fin : ∀ (sg : ByteArray) (b e : Bool) (acc acc' : List (List G)) (b' e' : Bool) (sg' : ByteArray), acc'.length ≤ 1000 → F_log_importer_line [.l bandsT, .s sg, .t b, .t e, .l acc, .s (gi (R.getD i []) 0).str] = some [.l bandsT, .s sg', .t b', .t e', .l acc', .i 0] →
     acc.length ≤ 1000 → Ret (st_log_Import_9 [.l bandsT, .s sg, .t b, .t e, .l acc, .l R, .t true, .l R, .i (R.length : Int), .i (i : Int)]) fun o => o = (none, [.l bandsT, .s sg', .t b', .t e', .l acc', .l R, .t true, .l R, .i (R.length : Int), .i ((i : Int) + 1)]) := fun sg b e acc acc' b' e' sg' h1 h2 h3 => by
    unfold st_log_Import_9
    (dsimp +instances only [Aa,Ab,Ac,Ad,Ae,Af,Ag])
    refine Ret.p (Ret.p ?_)
    simp only [Int.toNat_natCast]
    refine Ret.callb (Ret.eq h2) (by simp) ?_
    rintro _ rfl
    refine Ret.neg rfl (Ret.neg rfl (Ret.p (Ret.pos (by simp) (Ret.some rfl))))
   by_cases h0 : i = 0
   ·subst h0
    obtain ⟨o, ho, rfl⟩ := fin (⟨#[]⟩ : ByteArray) false false [] [] true false signB (by simp) (by rw [r0]; exact lineHead []) (by simp)
    exact ⟨_, ho, .inl ⟨(), rfl, trivial⟩⟩
   ·by_cases h1 : i = x.length + 1
    ·subst h1
     have e1 : Nat.blt (x.length + 1) (x.length + 1) = false := by rw [Bool.eq_false_iff, ne_eq, Nat.blt_eq]; omega
     have e2 : x.take (x.length + 1 - 1) = x := List.take_of_length_le (by omega)
     have e3 : x.take (x.length + 1 + 1 - 1) = x := List.take_of_length_le (by omega)
     have e4 : Nat.blt (x.length + 1) (x.length + 1 + 1) = true := by rw [Nat.blt_eq]; omega
     obtain ⟨o, ho, rfl⟩ := fin signB true false x x true true signB (by omega) (by rw [rend]; exact lineEnd x) (by omega)
     refine ⟨_, ?_, .inl ⟨(), rfl, trivial⟩⟩
     rw [e1, e2, e3, e4]
     exact ho
    ·have hi2 : i - 1 < x.length := by omega
     obtain ⟨j, rfl⟩ : ∃ j, i = j + 1 := ⟨i - 1, by omega⟩
     have hj : j < x.length := by omega
     have e1 : Nat.blt (x.length + 1) (j + 1) = false := by rw [Bool.eq_false_iff, ne_eq, Nat.blt_eq]; omega
     have e4 : Nat.blt (x.length + 1) (j + 1 + 1) = false := by rw [Bool.eq_false_iff, ne_eq, Nat.blt_eq]; omega
     have e2 : x.take (j + 1 - 1) = x.take j := rfl
     have e3 : x.take (j + 1 + 1 - 1) = x.take j ++ [x[j]] := by
      show x.take (j + 1) = _
      rw [List.take_add_one, List.getElem?_eq_getElem hj]
      rfl
     have l1 : (x.take j).length ≤ 20 := by rw [List.length_take]; omega
     obtain ⟨o, ho, rfl⟩ := fin signB true false (x.take j) (x.take j ++ [x[j]]) true false signB (by simp; omega) (by rw [rmid j hj]; exact lineQ (hX _ (List.getElem_mem hj)) (x.take j) (by omega)) (by omega)
     refine ⟨_, ?_, .inl ⟨(), rfl, trivial⟩⟩
     rw [e1, e2, e3, e4]
     exact ho
  ·rintro _ _
   have e1 : (if R.length = 0 then (⟨#[]⟩ : ByteArray) else signB) = signB := if_neg (by omega)
   have e2 : Nat.blt 0 R.length = true := by rw [Nat.blt_eq]; omega
   have e3 : Nat.blt (x.length + 1) R.length = true := by rw [Nat.blt_eq]; omega
   have e4 : x.take (R.length - 1) = x := List.take_of_length_le (by omega)
   rw [e1, e2, e3, e4]
   unfold st_log_Import_9
   (dsimp +instances only [Aa,Ab,Ac,Ad,Ae,Af,Ag])
   exact Ret.n (Ret.pos (by simp) (Ret.some rfl))
  ·rintro c g (⟨_, _, rfl, rfl⟩ | h)
   ·exact ⟨rfl, rfl⟩
   ·exact h.elim
 ·rintro _ _ ⟨rfl, rfl⟩
  refine Ret.neg rfl (Ret.neg rfl ?_)
  refine Ret.cE sign_is ?_
  refine Ret.neg rfl ?_
  refine Ret.callb (Ret.eq (sortCompare_eq x hC (by omega))) (by simp) ?_
  rintro _ rfl
  rw [sort_log hf]
  (dsimp +instances only [Aa,Ab,Ac,Ad,Ae,Af,Ag])
  have hp := List.pairwise_iff_getElem.1 (log_up2 hf)
  refine Ret.loop (P := fun c g => c = 1 ∧ g = [.l bandsT, .s signB, .t true, .t true, .l x]) ?_ (by simp) ?_
  ·by_cases hx0 : x.length = 0
   ·refine (RetN.stop (x := 1) (m := 0) (d' := [.l bandsT, .s signB, .t true, .t true, .l x]) (Ret.toEq ?_) ⟨rfl, rfl⟩).to (by omega)
    unfold st_log_Import_23
    (dsimp +instances only [Aa,Ab,Ac,Ad,Ae,Af,Ag])
    exact Ret.neg (by rw [ltI_eq, decide_eq_false_iff_not]; omega) (Ret.pos (by simp) (Ret.some rfl))
   refine ((count_runs (σ := Unit) (fun _ i => [.l bandsT, .s signB, .t true, .t true, .l x, .i ((i + 1 : Nat) : Int)]) (x.length - 1)
    (fun _ => (1, [.l bandsT, .s signB, .t true, .t true, .l x])) (fun _ _ => True) (fun _ _ => False) ?_ ?_ (x.length - 1) () 0 (by omega) trivial).to (by omega)).mono ?_
   ·rintro _ i _ hi
    have hz : x.getD (0 + (((i + 1 : Nat) : Int) - 1).toNat) [] = x[i] := by
     rw [show 0 + (((i + 1 : Nat) : Int) - 1).toNat = i by omega, List.getD_eq_getElem?_getD, List.getElem?_eq_getElem (by omega)]
     rfl
    have hz2 : x.getD (0 + (((i + 1 : Nat) : Int)).toNat) [] = x[i + 1] := by
     rw [show 0 + (((i + 1 : Nat) : Int)).toNat = i + 1 by omega, List.getD_eq_getElem?_getD, List.getElem?_eq_getElem (by omega)]
     rfl
    have h1 := hp i (i + 1) (by omega) (by omega) (by omega)
    have c1 := hC x[i] (List.getElem_mem (by omega))
    have c2 := hC x[i + 1] (List.getElem_mem (by omega))
    unfold st_log_Import_23
    (dsimp +instances only [Aa,Ab,Ac,Ad,Ae,Af,Ag])
    rw [hz, hz2, c1.eta, c2.eta]
    refine Ret.pos (by rw [ltI_eq, decide_eq_true_eq]; omega) (Ret.pos (inI_iff.2 ⟨by omega, by omega⟩) (Ret.pos (by rw [Bool.and_eq_true, nnI_eq, ltI_eq, decide_eq_true_eq, decide_eq_true_eq]; omega) (Ret.pos (by rw [decide_eq_true_eq]; omega) (Ret.pos (by rw [Bool.and_eq_true, nnI_eq, ltI_eq, decide_eq_true_eq, decide_eq_true_eq]; omega) (Ret.pos (by rw [decide_eq_true_eq]; omega) ?_)))))
    refine Ret.cE (compare_eq c1 c2) ?_
    (dsimp +instances only [Aa,Ab,Ac,Ad,Ae,Af,Ag])
    refine Ret.neg (by rw [beq_eq_false_iff_ne]; omega) (Ret.pos (inI_iff.2 ⟨by omega, by omega⟩) (Ret.pos (by simp) (Ret.some (.inl ⟨(), rfl, trivial⟩))))
   ·rintro _ _
    unfold st_log_Import_23
    (dsimp +instances only [Aa,Ab,Ac,Ad,Ae,Af,Ag])
    exact Ret.neg (by rw [ltI_eq, decide_eq_false_iff_not]; omega) (Ret.pos (by simp) (Ret.some rfl))
   ·rintro c g (⟨_, _, rfl, rfl⟩ | h)
    ·exact ⟨rfl, rfl⟩
    ·exact h.elim
  ·rintro _ _ ⟨rfl, rfl⟩
   refine Ret.neg rfl ?_
   (dsimp +instances only [Aa,Ab,Ac,Ad,Ae,Af,Ag])
   refine Ret.callb (Ret.eq (checkLog_eq x hC (by omega))) (by simp) ?_
   rintro _ rfl
   (dsimp +instances only [Aa,Ab,Ac,Ad,Ae,Af,Ag])
   rw [hf]
   exact Ret.neg rfl (Ret.pos (by simp) (Ret.some rfl))
theorem kdsCq : Kds [.int .i64, .int .i64, .str, .str, .int .i64, .int .i64, .str, .str] Con := ⟨fun _ h => h.eta⟩
theorem equalQc (a : List (List G)) (ha : ∀ z ∈ a, Con z) (hn : a.length < 100000) : F_sl_Equal_Contact [.l a, .l a] = some [.t true] := by
 have h := equalF_eq kdsCq a a ha ha hn
 rw [eqlA_refl (by rfl)] at h
 exact h
theorem errs_two : F_k2_errs [.l [[.i 0], [.i 0]]] = some [.i 0] := by kernel_rfl
theorem travelKeepsSeconds_data (rows : List (List G)) : F_k2_TravelKeepsSeconds [.l rows] = some [.t true] := by
 refine Ret.toEq ?_
 unfold F_k2_TravelKeepsSeconds
 (dsimp +instances only [Aa,Ab,Ac,Ad,Ae,Af,Ag])
 refine Ret.call (r_Range rows 0 0 8 (by omega) (by omega) (by omega) (by omega) (by omega)) ?_
 rintro _ ⟨n, rfl, hn0, hn1⟩
 (dsimp +instances only [Aa,Ab,Ac,Ad,Ae,Af,Ag])
 refine Ret.call (r_RightF rows _ n (by omega) (by omega) hn0 (by omega)) ?_
 rintro _ ⟨p1, x, rfl, hp1, hp1', hxT, hxl, hf0⟩
 (dsimp +instances only [Aa,Ab,Ac,Ad,Ae,Af,Ag])
 have hN : ∀ z ∈ x, Near z := fun z hz => near_of (hxT z hz) (faultLog_all hf0 z hz)
 refine Ret.loop (seconds x hN (by omega)) (by simp) ?_
 rintro _ _ ⟨rfl, y, rfl, hyl, hy⟩
 (dsimp +instances only [Aa,Ab,Ac,Ad,Ae,Af,Ag])
 have hC : ∀ z ∈ y, Con z := fun z hz => (hy z hz).1
 refine Ret.callb (Ret.eq (logFault_eq y hC (by omega))) (by simp) ?_
 rintro _ rfl
 (dsimp +instances only [Aa,Ab,Ac,Ad,Ae,Af,Ag])
 by_cases hf : faultLog y = 0
 ·rw [hf]
  refine Ret.neg rfl ?_
  refine Ret.callb (Ret.eq (exportQ y hy hf (by omega))) (by simp) ?_
  rintro _ rfl
  refine Ret.cE (importQ y hy hf (by omega)) ?_
  refine Ret.cE errs_two ?_
  refine Ret.pos rfl (Ret.pos (by (dsimp +instances only [Aa,Ab,Ac,Ad,Ae,Af,Ag]); exact beq_self_eq_true _) ?_)
  refine Ret.callb (Ret.eq (equalQc y hC (by omega))) (by simp) ?_
  rintro _ rfl
  refine Ret.pos rfl ?_
  refine Ret.cE (rfl : F_k2_ready [] = some [.t true]) ?_
  exact Ret.some rfl
 ·refine Ret.pos (by simpa using hf) ?_
  refine Ret.cE (rfl : F_k2_ready [] = some [.t true]) ?_
  exact Ret.some rfl
end
end Go.Proofs.SYtooejlhignkdgaaGreatDoor
