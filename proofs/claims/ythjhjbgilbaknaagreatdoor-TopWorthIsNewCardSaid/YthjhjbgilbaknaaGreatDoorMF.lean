/-
 What is proved here: what the methods of the stream give on data. No condition.
-/
import Derived.Test.YthjhjbgilbaknaaGreatDoorML4
import Derived.Test.YthjhjbgilbaknaaGreatDoorME
set_option linter.unusedSimpArgs false
set_option linter.unusedVariables false
set_option linter.unusedSectionVars false
namespace Go.Proofs.SYthjhjbgilbaknaaGreatDoor
open Go Go.AL Go.Proofs
noncomputable section
theorem r_Below (x n : Int) (h0 : 1 ≤ n) (h1 : n ≤ 1099511627776) : Ret (F_pilemake_Below [.i x, .i n]) fun g => ∃ v, g = [.i v] ∧ 0 ≤ v ∧ v < n := by
 unfold F_pilemake_Below
 (dsimp +instances only [Aa,Ab,Ac,Ad,Ae,Af,Ag])
 have ha := Int.tmod_lt_of_pos x (by omega : 0 < n)
 have hb := Int.lt_tmod_of_pos x (by omega : 0 < n)
 (repeat first|refine Ret.p ?_|refine Ret.n ?_)
 refine Ret.test (fun h => ?_) fun h => ?_
 ·simp only [ltI_eq, decide_eq_true_eq] at h
  (repeat first|refine Ret.p ?_|refine Ret.n ?_)
  exact Ret.some ⟨_, rfl, by omega, by omega⟩
 ·simp only [ltI_eq, decide_eq_false_iff_not] at h
  exact Ret.some ⟨_, rfl, by omega, by omega⟩
theorem r_Next (l : List (List G)) (a n : Int) (ha : 0 ≤ a) (ha1 : a ≤ 1000000) (h0 : 1 ≤ n) (h1 : n ≤ 1099511627776) :
  Ret (F_mk_Next [.l l, .i a, .i n]) fun g => ∃ v, g = [.l l, .i (a + 1), .i v] ∧ 0 ≤ v ∧ v < n := by
 unfold F_mk_Next
 (dsimp +instances only [Aa,Ab,Ac,Ad,Ae,Af,Ag])
 have ea : a + 1 - 1 = a := by omega
 simp only [ea]
 by_cases hl : l.length = 0
 ·(repeat first|refine Ret.p ?_|refine Ret.n ?_)
  refine Ret.call (r_Below _ n h0 h1) ?_
  rintro _ ⟨v, rfl, h2, h3⟩
  (dsimp +instances only [Aa,Ab,Ac,Ad,Ae,Af,Ag])
  exact Ret.some ⟨v, rfl, h2, h3⟩
 ·have hp : (0 : Int) < (l.length : Int) := by omega
  have d0 : 0 ≤ Int.tdiv a l.length := Int.tdiv_nonneg ha (by omega)
  have d1 : Int.tdiv a l.length ≤ a := by
   rw [Int.tdiv_eq_ediv_of_nonneg ha]
   exact Int.ediv_le_self _ ha
  have m0 : 0 ≤ Int.tmod a l.length := by
   rw [Int.tmod_eq_emod_of_nonneg ha]
   exact Int.emod_nonneg _ (by omega)
  have m1 : Int.tmod a l.length < l.length := Int.tmod_lt_of_pos a hp
  have m2 : Int.tmod a l.length ≤ a := by
   rw [Int.tmod_eq_emod_of_nonneg ha]
   have := Int.mul_ediv_add_emod a l.length
   have h4 : 0 ≤ (l.length : Int) * (a / l.length) := Int.mul_nonneg (by omega) (Int.ediv_nonneg ha (by omega))
   omega
  generalize hq : Int.tdiv a l.length = q at *
  generalize hr : Int.tmod a l.length = r at *
  have p0 : 0 ≤ q * (7919 + r) := Int.mul_nonneg d0 (by omega)
  have p1 : q * (7919 + r) ≤ 1000000 * 2000000 := Int.mul_le_mul (by omega) (by omega) (by omega) (by omega)
  generalize hz : q * (7919 + r) = z at *
  (repeat first|refine Ret.p ?_|refine Ret.n ?_)
  refine Ret.call (r_Below _ 1073741824 (by omega) (by omega)) ?_
  rintro _ ⟨u, rfl, h2, h3⟩
  (dsimp +instances only [Aa,Ab,Ac,Ad,Ae,Af,Ag])
  (repeat first|refine Ret.p ?_|refine Ret.n ?_)
  refine Ret.call (r_Below _ n h0 h1) ?_
  rintro _ ⟨v, rfl, h4, h5⟩
  (dsimp +instances only [Aa,Ab,Ac,Ad,Ae,Af,Ag])
  exact Ret.some ⟨v, rfl, h4, h5⟩
theorem r_Range (l : List (List G)) (a lo hi : Int) (ha : 0 ≤ a) (ha1 : a ≤ 1000000) (h0 : lo ≤ hi) (h1 : -1000000000 ≤ lo) (h2 : hi ≤ 1000000000) :
  Ret (F_mk_Range [.l l, .i a, .i lo, .i hi]) fun g => ∃ v, g = [.l l, .i (a + 1), .i v] ∧ lo ≤ v ∧ v ≤ hi := by
 unfold F_mk_Range
 (dsimp +instances only [Aa,Ab,Ac,Ad,Ae,Af,Ag])
 (repeat first|refine Ret.p ?_|refine Ret.n ?_)
 refine Ret.call (r_Next l a _ ha ha1 (by omega) (by omega)) ?_
 rintro _ ⟨v, rfl, h3, h4⟩
 (dsimp +instances only [Aa,Ab,Ac,Ad,Ae,Af,Ag])
 (repeat first|refine Ret.p ?_|refine Ret.n ?_)
 exact Ret.some ⟨_, rfl, by omega, by omega⟩
theorem getD_mem' {l : List (List G)} {v : Int} (h0 : 0 ≤ v) (h1 : v < l.length) : l.getD v.toNat [] ∈ l := by
 have : v.toNat < l.length := by omega
 rw [List.getD_eq_getElem?_getD, List.getElem?_eq_getElem this]
 exact List.getElem_mem this
theorem r_Pick (P : Int → Prop) (l : List (List G)) (a : Int) (xs : List (List G)) (ha : 0 ≤ a) (ha1 : a ≤ 1000000) (h0 : 1 ≤ xs.length) (h1 : xs.length ≤ 1000000) (hP : ∀ x ∈ xs, P (gi x 0).int) :
  Ret (F_mk_Pick [.l l, .i a, .l xs]) fun g => ∃ v, g = [.l l, .i (a + 1), .i v] ∧ P v := by
 unfold F_mk_Pick
 (dsimp +instances only [Aa,Ab,Ac,Ad,Ae,Af,Ag])
 refine Ret.call (r_Next l a _ ha ha1 (by omega) (by omega)) ?_
 rintro _ ⟨v, rfl, h3, h4⟩
 (dsimp +instances only [Aa,Ab,Ac,Ad,Ae,Af,Ag])
 (repeat first|refine Ret.p ?_|refine Ret.n ?_)
 exact Ret.some ⟨_, rfl, hP _ (getD_mem' h3 h4)⟩
theorem r_Some (P : ByteArray → Prop) (l : List (List G)) (a : Int) (xs : List (List G)) (ha : 0 ≤ a) (ha1 : a ≤ 1000000) (h0 : 1 ≤ xs.length) (h1 : xs.length ≤ 1000000) (hP : ∀ x ∈ xs, P (gi x 0).str) :
  Ret (F_mk_Some [.l l, .i a, .l xs]) fun g => ∃ v, g = [.l l, .i (a + 1), .s v] ∧ P v := by
 unfold F_mk_Some
 (dsimp +instances only [Aa,Ab,Ac,Ad,Ae,Af,Ag])
 refine Ret.call (r_Next l a _ ha ha1 (by omega) (by omega)) ?_
 rintro _ ⟨v, rfl, h3, h4⟩
 (dsimp +instances only [Aa,Ab,Ac,Ad,Ae,Af,Ag])
 (repeat first|refine Ret.p ?_|refine Ret.n ?_)
 exact Ret.some ⟨_, rfl, hP _ (getD_mem' h3 h4)⟩
theorem r_Flip (l : List (List G)) (a n : Int) (ha : 0 ≤ a) (ha1 : a ≤ 1000000) (h0 : 1 ≤ n) (h1 : n ≤ 1000000) :
  Ret (F_mk_Flip [.l l, .i a, .i n]) fun g => ∃ b, g = [.l l, .i (a + 1), .t b] := by
 unfold F_mk_Flip
 (dsimp +instances only [Aa,Ab,Ac,Ad,Ae,Af,Ag])
 refine Ret.call (r_Next l a _ ha ha1 (by omega) (by omega)) ?_
 rintro _ ⟨v, rfl, h3, h4⟩
 exact Ret.some ⟨_, rfl⟩
theorem r_Odd (l : List (List G)) (a lo hi : Int) (ha : 0 ≤ a) (ha1 : a ≤ 900000) (h0 : lo ≤ hi) (h1 : -1000000000 ≤ lo) (h2 : hi ≤ 1000000000) :
  Ret (F_mk_Odd [.l l, .i a, .i lo, .i hi]) fun g => ∃ v, g = [.l l, .i (a + 2), .i v] ∧ -1099511627776 ≤ v ∧ (v ≤ 1000000001 ∨ v = 1099511627776) := by
 unfold F_mk_Odd
 (dsimp +instances only [Aa,Ab,Ac,Ad,Ae,Af,Ag])
 have e2 : a + 1 + 1 = a + 2 := by omega
 refine Ret.call (r_Flip l a 12 ha (by omega) (by omega) (by omega)) ?_
 rintro _ ⟨b, rfl⟩
 (dsimp +instances only [Aa,Ab,Ac,Ad,Ae,Af,Ag])
 cases b with
 | true =>
  (repeat first|refine Ret.p ?_|refine Ret.n ?_)
  refine Ret.call (r_Pick (fun v => -1099511627776 ≤ v ∧ (v ≤ 1000000001 ∨ v = 1099511627776)) l (a + 1) _ (by omega) (by omega) (by simp) (by simp) ?_) ?_
  ·intro x hx
   simp only [List.mem_cons, List.not_mem_nil, or_false] at hx
   rcases hx with rfl | rfl | rfl | rfl | rfl | rfl <;> (dsimp +instances only [Aa,Ab,Ac,Ad,Ae,Af,Ag]) <;> omega
  ·rintro _ ⟨v, rfl, h3, h4⟩
   (dsimp +instances only [Aa,Ab,Ac,Ad,Ae,Af,Ag])
   exact Ret.some ⟨v, by rw [e2], h3, h4⟩
 | false =>
  (repeat first|refine Ret.p ?_|refine Ret.n ?_)
  refine Ret.call (r_Range l (a + 1) lo hi (by omega) (by omega) h0 h1 h2) ?_
  rintro _ ⟨v, rfl, h3, h4⟩
  (dsimp +instances only [Aa,Ab,Ac,Ad,Ae,Af,Ag])
  exact Ret.some ⟨v, by rw [e2], by omega, by omega⟩
def inL (L : List ByteArray) (s : ByteArray) : Bool := L.any fun x => eqS x s
theorem inL_mem {L : List ByteArray} {s : ByteArray} (h : inL L s = true) : s ∈ L := by
 obtain ⟨x, hx, he⟩ := List.any_eq_true.1 h
 exact eqS_eq he ▸ hx
theorem r_PickB (lo hi : Int) (l : List (List G)) (a : Int) (xs : List (List G)) (ha : 0 ≤ a) (ha1 : a ≤ 1000000) (h0 : (Nat.ble 1 xs.length && Nat.ble xs.length 1000000) = true) (hP : (xs.all fun x => leI lo (gi x 0).int && leI (gi x 0).int hi) = true) :
  Ret (F_mk_Pick [.l l, .i a, .l xs]) fun g => ∃ v, g = [.l l, .i (a + 1), .i v] ∧ lo ≤ v ∧ v ≤ hi := by
 simp only [Bool.and_eq_true, Nat.ble_eq] at h0
 refine r_Pick (fun v => lo ≤ v ∧ v ≤ hi) l a xs ha ha1 h0.1 h0.2 fun x hx => ?_
 have := List.all_eq_true.1 hP x hx
 simpa only [leI_eq, Bool.and_eq_true, decide_eq_true_eq] using this
theorem r_SomeB (L : List ByteArray) (l : List (List G)) (a : Int) (xs : List (List G)) (ha : 0 ≤ a) (ha1 : a ≤ 1000000) (h0 : (Nat.ble 1 xs.length && Nat.ble xs.length 1000000) = true) (hP : (xs.all fun x => inL L (gi x 0).str) = true) :
  Ret (F_mk_Some [.l l, .i a, .l xs]) fun g => ∃ v, g = [.l l, .i (a + 1), .s v] ∧ v ∈ L := by
 simp only [Bool.and_eq_true, Nat.ble_eq] at h0
 exact r_Some (fun v => v ∈ L) l a xs ha ha1 h0.1 h0.2 fun x hx => inL_mem (List.all_eq_true.1 hP x hx)
def calls : List ByteArray := [⟨#[]⟩, ⟨#[107, 49]⟩, ⟨#[75, 49, 65, 66]⟩, ⟨#[107, 49, 97, 98, 47]⟩, ⟨#[49, 97]⟩, ⟨#[107, 49, 97, 98, 47, 109, 109, 47, 112]⟩, ⟨#[107, 49, 97, 98]⟩, ⟨#[107, 49, 97, 97]⟩, ⟨#[107, 49, 97, 98, 47, 52]⟩,
 ⟨#[111, 104, 50, 97, 98, 99]⟩, ⟨#[111, 104, 50, 97, 98, 100]⟩, ⟨#[119, 49, 97, 119]⟩, ⟨#[110, 49, 109, 109]⟩, ⟨#[103, 51, 120, 121, 122, 47, 112]⟩]
def bands : List ByteArray := [⟨#[]⟩, ⟨#[66]⟩, ⟨#[98, 50, 48]⟩, ⟨#[98, 52, 48]⟩, ⟨#[98, 49, 54, 48]⟩, ⟨#[98, 51, 48]⟩]
def names : List ByteArray := [⟨#[]⟩, ⟨#[65]⟩, ⟨#[49]⟩, ⟨#[102, 105, 110]⟩, ⟨#[117, 115, 97]⟩]
def small (n : Int) : Prop := -2000000000000 ≤ n ∧ n ≤ 2000000000000
def Con (r : List G) : Prop := ∃ (t m : Int) (b c : ByteArray) (s h : Int) (x y : ByteArray), r = [.i t, .i m, .s b, .s c, .i s, .i h, .s x, .s y] ∧ small t ∧ small m ∧ small s ∧ small h ∧ b ∈ bands ∧ c ∈ calls ∧ x ∈ names ∧ y ∈ names
def tight (n : Int) : Prop := -1900000000000 ≤ n ∧ n ≤ 1900000000000
def tightT (n : Int) : Prop := -1900000000000 ≤ n ∧ (n ≤ 345000000000 ∨ (345686399999 < n ∧ n ≤ 1900000000000))
def ConT (r : List G) : Prop := ∃ (t m : Int) (b c : ByteArray) (s h : Int) (x y : ByteArray), r = [.i t, .i m, .s b, .s c, .i s, .i h, .s x, .s y] ∧ tightT t ∧ tight m ∧ tight s ∧ tight h ∧ b ∈ bands ∧ c ∈ calls ∧ x ∈ names ∧ y ∈ names
theorem tight.to {n : Int} (h : tight n) : small n := ⟨by have := h.1; omega, by have := h.2; omega⟩
theorem tightT.to {n : Int} (h : tightT n) : small n := by
 unfold tightT at h
 exact ⟨by omega, by omega⟩
theorem ConT.to {r : List G} (h : ConT r) : Con r := by
 obtain ⟨t, m, b, c, s, h, x, y, e, h1, h2, h3, h4, h5⟩ := h
 exact ⟨t, m, b, c, s, h, x, y, e, h1.to, h2.to, h3.to, h4.to, h5⟩
theorem Con.eta {r : List G} (h : Con r) : gEta [.int .i64, .int .i64, .str, .str, .int .i64, .int .i64, .str, .str] r = r := by
 obtain ⟨t, m, b, c, s, h, x, y, rfl, _⟩ := h
 rfl
theorem r_ACall (l : List (List G)) (a : Int) (ha : 0 ≤ a) (ha1 : a ≤ 900000) : Ret (F_mk_ACall [.l l, .i a]) fun g => ∃ v, g = [.l l, .i (a + 2), .s v] ∧ v ∈ calls := by
 unfold F_mk_ACall
 (dsimp +instances only [Aa,Ab,Ac,Ad,Ae,Af,Ag])
 have e2 : a + 1 + 1 = a + 2 := by omega
 refine Ret.call (r_Flip l a 60 ha (by omega) (by omega) (by omega)) ?_
 rintro _ ⟨b, rfl⟩
 (dsimp +instances only [Aa,Ab,Ac,Ad,Ae,Af,Ag])
 cases b with
 | true =>
  (repeat first|refine Ret.p ?_|refine Ret.n ?_)
  refine Ret.call (r_SomeB calls l (a + 1) _ (by omega) (by omega) (by kernel_rfl) (by kernel_rfl)) ?_
  rintro _ ⟨v, rfl, h⟩
  exact Ret.some ⟨v, by (dsimp +instances only [Aa,Ab,Ac,Ad,Ae,Af,Ag]); rw [e2], h⟩
 | false =>
  (repeat first|refine Ret.p ?_|refine Ret.n ?_)
  refine Ret.call (r_SomeB calls l (a + 1) _ (by omega) (by omega) (by kernel_rfl) (by kernel_rfl)) ?_
  rintro _ ⟨v, rfl, h⟩
  exact Ret.some ⟨v, by (dsimp +instances only [Aa,Ab,Ac,Ad,Ae,Af,Ag]); rw [e2], h⟩
theorem r_SomeContact (l : List (List G)) (a t : Int) (ha : 0 ≤ a) (ha1 : a ≤ 800000) (ht : tightT t) :
  Ret (F_mk_SomeContact [.l l, .i a, .i t]) fun g => ∃ b r, g = [.l l, .i b, .l [r]] ∧ a ≤ b ∧ b ≤ a + 20 ∧ ConT r := by
 unfold tightT at ht
 unfold F_mk_SomeContact
 (dsimp +instances only [Aa,Ab,Ac,Ad,Ae,Af,Ag])
 refine Ret.call (r_PickB 1 3 l a _ ha (by omega) (by kernel_rfl) (by kernel_rfl)) ?_
 rintro _ ⟨m, rfl, hm⟩
 (dsimp +instances only [Aa,Ab,Ac,Ad,Ae,Af,Ag])
 refine Ret.call (r_SomeB bands l _ _ (by omega) (by omega) (by kernel_rfl) (by kernel_rfl)) ?_
 rintro _ ⟨bd, rfl, hb⟩
 (dsimp +instances only [Aa,Ab,Ac,Ad,Ae,Af,Ag])
 refine Ret.call (r_ACall l _ (by omega) (by omega)) ?_
 rintro _ ⟨c, rfl, hc⟩
 (dsimp +instances only [Aa,Ab,Ac,Ad,Ae,Af,Ag])
 refine Ret.call (r_PickB 0 7 l _ _ (by omega) (by omega) (by kernel_rfl) (by kernel_rfl)) ?_
 rintro _ ⟨s, rfl, hs⟩
 (dsimp +instances only [Aa,Ab,Ac,Ad,Ae,Af,Ag])
 refine Ret.call (r_PickB 0 9 l _ _ (by omega) (by omega) (by kernel_rfl) (by kernel_rfl)) ?_
 rintro _ ⟨h, rfl, hh⟩
 (dsimp +instances only [Aa,Ab,Ac,Ad,Ae,Af,Ag])
 refine Ret.call (r_SomeB names l _ _ (by omega) (by omega) (by kernel_rfl) (by kernel_rfl)) ?_
 rintro _ ⟨x, rfl, hx⟩
 (dsimp +instances only [Aa,Ab,Ac,Ad,Ae,Af,Ag])
 refine Ret.call (r_SomeB names l _ _ (by omega) (by omega) (by kernel_rfl) (by kernel_rfl)) ?_
 rintro _ ⟨y, rfl, hy⟩
 (dsimp +instances only [Aa,Ab,Ac,Ad,Ae,Af,Ag])
 refine Ret.call (r_Flip l _ 100 (by omega) (by omega) (by omega) (by omega)) ?_
 rintro _ ⟨f, rfl⟩
 (dsimp +instances only [Aa,Ab,Ac,Ad,Ae,Af,Ag])
 cases f with
 | false =>
  (repeat first|refine Ret.p ?_|refine Ret.n ?_)
  exact Ret.some ⟨_, _, rfl, by omega, by omega, t, m, bd, c, s, h, x, y, rfl, ht, ⟨by omega, by omega⟩, ⟨by omega, by omega⟩, ⟨by omega, by omega⟩, hb, hc, hx, hy⟩
 | true =>
  (repeat first|refine Ret.p ?_|refine Ret.n ?_)
  refine Ret.call (r_Next l _ 4 (by omega) (by omega) (by omega) (by omega)) ?_
  rintro _ ⟨k, rfl, hk⟩
  (dsimp +instances only [Aa,Ab,Ac,Ad,Ae,Af,Ag])
  by_cases k0 : k = 0
  ·subst k0
   (repeat first|refine Ret.p ?_|refine Ret.n ?_)
   refine Ret.call (r_Odd l _ 0 500 (by omega) (by omega) (by omega) (by omega) (by omega)) ?_
   rintro _ ⟨t', rfl, ht'⟩
   (dsimp +instances only [Aa,Ab,Ac,Ad,Ae,Af,Ag])
   refine Ret.call (r_Odd l _ 1 3 (by omega) (by omega) (by omega) (by omega) (by omega)) ?_
   rintro _ ⟨m', rfl, hm'⟩
   (dsimp +instances only [Aa,Ab,Ac,Ad,Ae,Af,Ag])
   exact Ret.some ⟨_, _, rfl, by omega, by omega, t', m', bd, c, s, h, x, y, rfl, ⟨by omega, by omega⟩, ⟨by omega, by omega⟩, ⟨by omega, by omega⟩, ⟨by omega, by omega⟩, hb, hc, hx, hy⟩
  ·refine Ret.neg (by simpa using k0) ?_
   by_cases k1 : k = 1
   ·subst k1
    (repeat first|refine Ret.p ?_|refine Ret.n ?_)
    refine Ret.call (r_SomeB bands l _ _ (by omega) (by omega) (by kernel_rfl) (by kernel_rfl)) ?_
    rintro _ ⟨b', rfl, hb'⟩
    (dsimp +instances only [Aa,Ab,Ac,Ad,Ae,Af,Ag])
    exact Ret.some ⟨_, _, rfl, by omega, by omega, t, m, b', c, s, h, x, y, rfl, ht, ⟨by omega, by omega⟩, ⟨by omega, by omega⟩, ⟨by omega, by omega⟩, hb', hc, hx, hy⟩
   ·refine Ret.neg (by simpa using k1) ?_
    by_cases k2 : k = 2
    ·subst k2
     (repeat first|refine Ret.p ?_|refine Ret.n ?_)
     refine Ret.call (r_Odd l _ 0 99999 (by omega) (by omega) (by omega) (by omega) (by omega)) ?_
     rintro _ ⟨s', rfl, hs'⟩
     (dsimp +instances only [Aa,Ab,Ac,Ad,Ae,Af,Ag])
     refine Ret.call (r_Odd l _ 0 99999 (by omega) (by omega) (by omega) (by omega) (by omega)) ?_
     rintro _ ⟨h', rfl, hh'⟩
     (dsimp +instances only [Aa,Ab,Ac,Ad,Ae,Af,Ag])
     exact Ret.some ⟨_, _, rfl, by omega, by omega, t, m, bd, c, s', h', x, y, rfl, ht, ⟨by omega, by omega⟩, ⟨by omega, by omega⟩, ⟨by omega, by omega⟩, hb, hc, hx, hy⟩
    ·refine Ret.neg (by simpa using k2) ?_
     refine Ret.call (r_SomeB names l _ _ (by omega) (by omega) (by kernel_rfl) (by kernel_rfl)) ?_
     rintro _ ⟨x', rfl, hx'⟩
     (dsimp +instances only [Aa,Ab,Ac,Ad,Ae,Af,Ag])
     refine Ret.call (r_SomeB names l _ _ (by omega) (by omega) (by kernel_rfl) (by kernel_rfl)) ?_
     rintro _ ⟨y', rfl, hy'⟩
     (dsimp +instances only [Aa,Ab,Ac,Ad,Ae,Af,Ag])
     exact Ret.some ⟨_, _, rfl, by omega, by omega, t, m, bd, c, s, h, x', y', rfl, ht, ⟨by omega, by omega⟩, ⟨by omega, by omega⟩, ⟨by omega, by omega⟩, hb, hc, hx', hy'⟩
def cmpI (a b : Int) : Int := if a < b then -1 else if b < a then 1 else 0
theorem compareBytes_zero : ∀ {a b : List UInt8}, Lib.compareBytes a b = 0 → a = b
 | [], [], _ => rfl
 | [], _ :: _, h => by simp [Lib.compareBytes] at h
 | _ :: _, [], h => by simp [Lib.compareBytes] at h
 | x :: a, y :: b, h => by
  unfold Lib.compareBytes at h
  split at h
  ·cases h
  ·split at h
   ·cases h
   ·rename_i h1 h2
    rw [compareBytes_zero h, UInt8.le_antisymm (UInt8.not_lt.1 h2) (UInt8.not_lt.1 h1)]
theorem compareBytes_self : ∀ a : List UInt8, Lib.compareBytes a a = 0
 | [] => rfl
 | x :: a => by simp [Lib.compareBytes, compareBytes_self a]
theorem str_eq (a b : ByteArray) : (a.toList == b.toList) = decide (cmpS a b = 0) := by
 rw [ByteArray.toList_eq, ByteArray.toList_eq, Bool.eq_iff_iff, decide_eq_true_eq, beq_iff_eq]
 constructor
 ·intro h
  unfold cmpS
  rw [h]
  exact compareBytes_self _
 ·exact fun h => compareBytes_zero h
def or4 (a b c d : Int) : Int := if a ≠ 0 then a else if b ≠ 0 then b else if c ≠ 0 then c else d
def ordC (r s : List G) : Int := or4 (cmpI (gi r 0).int (gi s 0).int) (cmpS (gi r 3).str (gi s 3).str) (cmpS (gi r 2).str (gi s 2).str) (cmpI (gi r 1).int (gi s 1).int)
theorem sign_eq (a b : Int) : F_r2_sign [.i (a - b)] = some [.i (cmpI a b)] := by
 refine Ret.toEq ?_
 unfold F_r2_sign cmpI
 (dsimp +instances only [Aa,Ab,Ac,Ad,Ae,Af,Ag])
 by_cases h1 : a < b
 ·(repeat first|refine Ret.p ?_|refine Ret.n ?_)
  exact Ret.some (by simp [h1])
 ·by_cases h2 : b < a
  ·(repeat first|refine Ret.p ?_|refine Ret.n ?_)
   exact Ret.some (by simp [h1, h2])
  ·(repeat first|refine Ret.p ?_|refine Ret.n ?_)
   exact Ret.some (by simp [h1, h2])
theorem order_eq {r s : List G} (hr : Con r) (hs : Con s) : F_r2_ContactOrder [.l [r], .l [s]] = some [.i (ordC r s)] := by
 obtain ⟨t, m, b, c, _, _, _, _, rfl, ht, hm, _⟩ := hr
 obtain ⟨t', m', b', c', _, _, _, _, rfl, ht', hm', _⟩ := hs
 unfold small at *
 refine Ret.toEq ?_
 unfold F_r2_ContactOrder ordC or4
 (dsimp +instances only [Aa,Ab,Ac,Ad,Ae,Af,Ag])
 simp only [str_eq]
 by_cases e1 : t = t'
 ·subst e1
  have z : cmpI t t = 0 := by simp [cmpI]
  simp only [z]
  (repeat first|refine Ret.p ?_|refine Ret.n ?_)
  by_cases e2 : cmpS c c' = 0
  ·simp only [e2]
   (repeat first|refine Ret.p ?_|refine Ret.n ?_)
   by_cases e3 : cmpS b b' = 0
   ·simp only [e3]
    (repeat first|refine Ret.p ?_|refine Ret.n ?_)
    refine Ret.cE (sign_eq m m') ?_
    (dsimp +instances only [Aa,Ab,Ac,Ad,Ae,Af,Ag])
    exact Ret.some (by simp)
   ·refine Ret.pos (by simpa using e3) (Ret.call (Ret.eq (rfl : F_strings_Compare [.s b, .s b'] = some [.i (cmpS b b')])) ?_)
    rintro _ rfl
    (dsimp +instances only [Aa,Ab,Ac,Ad,Ae,Af,Ag])
    exact Ret.some (by simp [e3])
  ·refine Ret.pos (by simpa using e2) (Ret.call (Ret.eq (rfl : F_strings_Compare [.s c, .s c'] = some [.i (cmpS c c')])) ?_)
   rintro _ rfl
   (dsimp +instances only [Aa,Ab,Ac,Ad,Ae,Af,Ag])
   exact Ret.some (by simp [e2])
 ·(repeat first|refine Ret.p ?_|refine Ret.n ?_)
  refine Ret.cE (sign_eq t t') ?_
  (dsimp +instances only [Aa,Ab,Ac,Ad,Ae,Af,Ag])
  have z : cmpI t t' ≠ 0 := by
   unfold cmpI
   split
   ·omega
   ·split <;> omega
  exact Ret.some (by simp [z])
theorem cmpInt_eq (a b : Int) : F_cmp_Compare_int [.i a, .i b] = some [.i (cmpI a b)] := by
 refine Ret.toEq ?_
 unfold F_cmp_Compare_int F_cmp_isNaN_int cmpI
 (dsimp +instances only [Aa,Ab,Ac,Ad,Ae,Af,Ag])
 simp only [bne_self_eq_false]
 refine Ret.call ⟨_, rfl, rfl⟩ ?_
 rintro _ rfl
 refine Ret.call ⟨_, rfl, rfl⟩ ?_
 rintro _ rfl
 (dsimp +instances only [Aa,Ab,Ac,Ad,Ae,Af,Ag])
 (repeat first|refine Ret.p ?_|refine Ret.n ?_)
 by_cases h1 : a < b
 ·(repeat first|refine Ret.p ?_|refine Ret.n ?_)
  exact Ret.some (by simp [h1])
 ·by_cases h2 : b < a
  ·(repeat first|refine Ret.p ?_|refine Ret.n ?_)
   exact Ret.some (by simp [h1, h2])
  ·(repeat first|refine Ret.p ?_|refine Ret.n ?_)
   exact Ret.some (by simp [h1, h2])
def orL : List (List G) → Int
 | [] => 0
 | x :: q => if (gi x 0).int ≠ 0 then (gi x 0).int else orL q
theorem or_runs : ∀ (q p : List (List G)), p.length + q.length < 100000 →
  RetN st_cmp_Or_int_3 [.i 0, .l (p ++ q), .i ((p.length + q.length : Nat) : Int), .i (p.length : Int)] (q.length + 1) fun c g => c ≤ 1 ∧ g = [.i (orL q)]
 | [], p, hl => by
  refine RetN.stop (x := 1) (Ret.toEq ?_) ⟨by omega, rfl⟩
  unfold st_cmp_Or_int_3
  (dsimp +instances only [Aa,Ab,Ac,Ad,Ae,Af,Ag])
  (repeat first|refine Ret.p ?_|refine Ret.n ?_)
  exact Ret.some rfl
 | y :: q, p, hl => by
  simp only [List.length_cons] at hl
  have g1 : (p ++ y :: q).getD (p.length : Int).toNat [] = y := getD_mid _ _ _ _ _ (by simp)
  have hlen : (p ++ y :: q).length = p.length + q.length + 1 := by simp; omega
  by_cases he : (gi y 0).int = 0
  ·have ih := or_runs q (p ++ [y]) (by simp; omega)
   have e : orL (y :: q) = orL q := by simp [orL, he]
   rw [e]
   refine RetN.next (Ret.toEq ?_) ih
   unfold st_cmp_Or_int_3
   (dsimp +instances only [Aa,Ab,Ac,Ad,Ae,Af,Ag])
   simp only [g1, hlen, List.length_cons]
   (repeat first|refine Ret.p ?_|refine Ret.n ?_)
   refine Ret.some ?_
   simp
   omega
  ·refine RetN.stop (x := 0) (Ret.toEq ?_) ⟨by omega, rfl⟩
   unfold st_cmp_Or_int_3
   (dsimp +instances only [Aa,Ab,Ac,Ad,Ae,Af,Ag])
   simp only [g1, hlen, List.length_cons]
   (repeat first|refine Ret.p ?_|refine Ret.n ?_)
   refine Ret.some ?_
   simp [orL, he]
theorem or_eq (a b c d : Int) : F_cmp_Or_int [.l [[.i a], [.i b], [.i c], [.i d]]] = some [.i (or4 a b c d)] := by
 refine Ret.toEq ?_
 unfold F_cmp_Or_int
 (dsimp +instances only [Aa,Ab,Ac,Ad,Ae,Af,Ag])
 have h := or_runs [[.i a], [.i b], [.i c], [.i d]] [] (by simp)
 refine Ret.loop (h.to (by simp)) (by (first|rfl|assumption|(simp only [inI,sl]<;>omega))) ?_
 rintro x g ⟨hx, rfl⟩
 have e : orL [[.i a], [.i b], [.i c], [.i d]] = or4 a b c d := by
  simp only [orL, or4]
  (dsimp +instances only [Aa,Ab,Ac,Ad,Ae,Af,Ag])
  by_cases h1 : a = 0 <;> by_cases h2 : b = 0 <;> by_cases h3 : c = 0 <;> by_cases h4 : d = 0 <;> simp [h1, h2, h3, h4]
 rw [e]
 (dsimp +instances only [Aa,Ab,Ac,Ad,Ae,Af,Ag])
 exact Ret.test (fun _ => Ret.some rfl) fun _ => Ret.some rfl
theorem compare_eq {r s : List G} (hr : Con r) (hs : Con s) : F_log_Compare [.l [r], .l [s]] = some [.i (ordC r s)] := by
 obtain ⟨t, m, b, c, _, _, _, _, rfl, ht, hm, _⟩ := hr
 obtain ⟨t', m', b', c', _, _, _, _, rfl, ht', hm', _⟩ := hs
 refine Ret.toEq ?_
 unfold F_log_Compare
 (dsimp +instances only [Aa,Ab,Ac,Ad,Ae,Af,Ag])
 refine Ret.cE (cmpInt_eq t t') ?_
 refine Ret.cE (rfl : F_strings_Compare [.s c, .s c'] = some [.i (cmpS c c')]) ?_
 refine Ret.cE (rfl : F_strings_Compare [.s b, .s b'] = some [.i (cmpS b b')]) ?_
 refine Ret.cE (cmpInt_eq m m') ?_
 (dsimp +instances only [Aa,Ab,Ac,Ad,Ae,Af,Ag])
 refine Ret.cE (or_eq _ _ _ _) ?_
 exact Ret.some rfl
theorem cmpOrder : Cmp [.int .i64, .int .i64, .str, .str, .int .i64, .int .i64, .str, .str] F_r2_ContactOrder Con ordC := ⟨fun _ _ hr hs => order_eq hr hs, fun _ h => h.eta⟩
def inB (v lo hi : Int) : Bool := leI lo v && leI v hi
theorem in_eq (v lo hi : Int) : F_r2_in [.i v, .i lo, .i hi] = some [.t (inB v lo hi)] := by
 unfold F_r2_in inB
 (dsimp +instances only [Aa,Ab,Ac,Ad,Ae,Af,Ag])
 cases leI lo v <;> rfl
theorem outside_eq (v lo hi : Int) : F_kit_Outside [.i v, .i lo, .i hi] = some [.t (!inB v lo hi)] := by
 unfold F_kit_Outside inB
 (dsimp +instances only [Aa,Ab,Ac,Ad,Ae,Af,Ag])
 have h1 : ltI v lo = !leI lo v := by rw [ltI_eq, leI_eq, Bool.eq_iff_iff]; simp
 have h2 : ltI hi v = !leI v hi := by rw [ltI_eq, leI_eq, Bool.eq_iff_iff]; simp
 rw [h1, h2]
 cases leI lo v <;> cases leI v hi <;> rfl
def okKey (s : ByteArray) : Bool := inL [⟨#[98, 50, 48]⟩, ⟨#[98, 52, 48]⟩, ⟨#[98, 49, 54, 48]⟩, ⟨#[98, 51, 48]⟩, ⟨#[102, 105, 110]⟩, ⟨#[117, 115, 97]⟩] s
def okName (s : ByteArray) : Bool := inL [⟨#[]⟩] s || okKey s
def okCall (s : ByteArray) : Bool := (gi ((F_call_Is [.s s]).getD []) 0).bool
theorem isKey_eq {s : ByteArray} (h : s ∈ bands ∨ s ∈ names) : F_kit_IsKey [.s s] = some [.t (okKey s)] := by
 simp only [bands, names, List.mem_cons, List.not_mem_nil, or_false] at h
 rcases h with (rfl | rfl | rfl | rfl | rfl | rfl) | (rfl | rfl | rfl | rfl | rfl) <;> kernel_rfl
theorem key_eq {s : ByteArray} (h : s ∈ bands ∨ s ∈ names) : F_r2_Key [.s s] = some [.t (okKey s)] := by
 simp only [bands, names, List.mem_cons, List.not_mem_nil, or_false] at h
 rcases h with (rfl | rfl | rfl | rfl | rfl | rfl) | (rfl | rfl | rfl | rfl | rfl) <;> kernel_rfl
theorem isName_eq {s : ByteArray} (h : s ∈ names) : F_kit_IsName [.s s] = some [.t (okName s)] := by
 simp only [names, List.mem_cons, List.not_mem_nil, or_false] at h
 rcases h with (rfl | rfl | rfl | rfl | rfl) <;> kernel_rfl
theorem isCall_eq {s : ByteArray} (h : s ∈ calls) : F_call_Is [.s s] = some [.t (okCall s)] := by
 simp only [calls, List.mem_cons, List.not_mem_nil, or_false] at h
 rcases h with (rfl | rfl | rfl | rfl | rfl | rfl | rfl | rfl | rfl | rfl | rfl | rfl | rfl | rfl) <;> kernel_rfl
theorem call_eq {s : ByteArray} (h : s ∈ calls) : F_r2_Call [.s s] = some [.t (okCall s)] := by
 simp only [calls, List.mem_cons, List.not_mem_nil, or_false] at h
 rcases h with (rfl | rfl | rfl | rfl | rfl | rfl | rfl | rfl | rfl | rfl | rfl | rfl | rfl | rfl) <;> kernel_rfl
def faultC (r : List G) : Int :=
 bif !inB (gi r 0).int 0 345686399999 then 1 else bif !inB (gi r 1).int 1 3 then 4 else bif !okKey (gi r 2).str then 5 else bif !okCall (gi r 3).str then 3 else
 bif !inB (gi r 4).int 0 99999 then 1 else bif !inB (gi r 5).int 0 99999 then 1 else bif !okName (gi r 6).str then 5 else bif !okName (gi r 7).str then 5 else 0
theorem check_eq {r : List G} (hr : Con r) : F_log_CheckContact [.l [r]] = some [.i (faultC r)] := by
 obtain ⟨t, m, b, c, s, h, x, y, rfl, _, _, _, _, hb, hc, hx, hy⟩ := hr
 unfold F_log_CheckContact F_kit_IsMoment F_kit_IsMode faultC
 (dsimp +instances only [Aa,Ab,Ac,Ad,Ae,Af,Ag])
 have kb := isKey_eq (.inl hb)
 have kx := isName_eq hx
 have ky := isName_eq hy
 have kc := isCall_eq hc
 rw [outside_eq t, outside_eq m]
 rw [kb, kc, outside_eq s, outside_eq h, kx, ky]
 generalize inB t 0 345686399999 = b1
 generalize inB m 1 3 = b2
 generalize okKey b = b3
 generalize okCall c = b4
 generalize inB s 0 99999 = b5
 generalize inB h 0 99999 = b6
 generalize okName x = b7
 generalize okName y = b8
 cases b1 <;> cases b2 <;> cases b3 <;> cases b4 <;> cases b5 <;> cases b6 <;> cases b7 <;> cases b8 <;> rfl
theorem empty_eq (s : ByteArray) : (s.toList == (⟨#[]⟩ : ByteArray).toList) = inL [⟨#[]⟩] s := by
 rw [ByteArray.toList_eq, ByteArray.toList_eq]
 simp only [inL, eqS, List.any_cons, List.any_nil, Bool.or_false]
 rw [Bool.eq_iff_iff]
 simp only [beq_iff_eq]
 exact eq_comm
theorem fault_eq {r : List G} (hr : Con r) : F_r2_ContactFault [.l [r]] = some [.i (faultC r)] := by
 obtain ⟨t, m, b, c, s, h, x, y, rfl, _, _, _, _, hb, hc, hx, hy⟩ := hr
 unfold F_r2_ContactFault F_r2_Moment faultC okName
 (dsimp +instances only [Aa,Ab,Ac,Ad,Ae,Af,Ag])
 have kb := key_eq (.inl hb)
 have kx := key_eq (.inr hx)
 have ky := key_eq (.inr hy)
 have kc := call_eq hc
 have ex := empty_eq x
 have ey := empty_eq y
 generalize (⟨#[]⟩ : ByteArray) = z at ex ey ⊢
 simp only [in_eq, callF_some rfl, kb, kc, kx, ky]
 (dsimp +instances only [Aa,Ab,Ac,Ad,Ae,Af,Ag])
 rw [ex, ey]
 generalize inB t 0 345686399999 = b1
 generalize inB m 1 3 = b2
 generalize okKey b = b3
 generalize okCall c = b4
 generalize inB s 0 99999 = b5
 generalize inB h 0 99999 = b6
 generalize okKey x = b7
 generalize okKey y = b8
 generalize inL [z] x = b9
 generalize inL [z] y = b10
 cases b1 <;> cases b2 <;> cases b3 <;> cases b4 <;> cases b5 <;> cases b6 <;> cases b7 <;> cases b8 <;> cases b9 <;> cases b10 <;> rfl
def chk4 (K : List Kd) (C D : List G → Option (List G)) (d : List G) : Option (Option Nat × List G) :=
 (bif (ltI (gi d 3).int (gi d 2).int) then (bif ((nnI (gi d 3).int) && (ltI (gi d 3).int (((gi d 1).rows.length : Nat) : Int))) then (callF (C [.l [(gEta K ((gi d 1).rows.getD (((gi d 3).int).toNat) []))]]) fun g1 => (bif ((gi g1 0).int != 0) then some (some 0, [.i (gi g1 0).int]) else (bif (ltI 0 (gi d 3).int) then (bif (inI ((gi d 3).int - 1)) then (bif ((nnI ((gi d 3).int - 1)) && (ltI ((gi d 3).int - 1) (((gi d 0).rows.length : Nat) : Int))) then (callF (D [.l [(gEta K ((gi d 0).rows.getD (((gi d 3).int - 1).toNat) []))], .l [(gEta K ((gi d 1).rows.getD (((gi d 3).int).toNat) []))]]) fun g2 => (bif (leI 0 (gi g2 0).int) then some (some 0, [.i 7]) else (bif (inI ((gi d 3).int + 1)) then some (none, [.l (gi d 0).rows, .l (gi d 1).rows, .i (gi d 2).int, .i ((gi d 3).int + 1)]) else none))) else none) else none) else (bif (inI ((gi d 3).int + 1)) then some (none, [.l (gi d 0).rows, .l (gi d 1).rows, .i (gi d 2).int, .i ((gi d 3).int + 1)]) else none)))) else none) else some (some 1, []))
def chkF (K : List Kd) (C D : List G → Option (List G)) (d : List G) : Option (List G) :=
 (bif (ltI 2000 (((gi d 0).rows.length : Nat) : Int)) then some [.i 2] else (loopB true (LRun (chk4 K C D) [.l (gi d 0).rows, .l (gi d 0).rows, .i (((gi d 0).rows.length : Nat) : Int), .i 0]) fun cg3 g3 => (bif Nat.beq cg3 0 then some [.i (gi g3 0).int] else some [.i 0])))
def faultL : Option (List G) → List (List G) → Int
 | _, [] => 0
 | none, x :: q => if faultC x ≠ 0 then faultC x else faultL (some x) q
 | some y, x :: q => if faultC x ≠ 0 then faultC x else if 0 ≤ ordC y x then 7 else faultL (some x) q
def faultLog (l : List (List G)) : Int := if 2000 < l.length then 2 else faultL none l
section
variable {C D : List G → Option (List G)} (hC : ∀ r, Con r → C [.l [r]] = some [.i (faultC r)]) (hD : ∀ r s, Con r → Con s → D [.l [r], .l [s]] = some [.i (ordC r s)])
include hC hD
theorem chk4_runs : ∀ (q p : List (List G)), (∀ z ∈ p ++ q, Con z) → p.length + q.length < 100000 →
  RetN (chk4 [.int .i64, .int .i64, .str, .str, .int .i64, .int .i64, .str, .str] C D) [.l (p ++ q), .l (p ++ q), .i ((p.length + q.length : Nat) : Int), .i (p.length : Int)] (q.length + 1) fun c g => (c = 0 ∧ g = [.i (faultL p.getLast? q)]) ∨ c = 1 ∧ faultL p.getLast? q = 0
 | [], p, hQ, hl => by
  refine RetN.stop (x := 1) (d' := []) (Ret.toEq ?_) (.inr ⟨rfl, by unfold faultL; rfl⟩)
  unfold chk4
  (dsimp +instances only [Aa,Ab,Ac,Ad,Ae,Af,Ag])
  (repeat first|refine Ret.p ?_|refine Ret.n ?_)
  exact Ret.some rfl
 | x :: q, p, hQ, hl => by
  simp only [List.length_cons] at hl
  have hx : Con x := hQ x (by simp)
  have g1 : (p ++ x :: q).getD (p.length : Int).toNat [] = x := getD_mid _ _ _ _ _ (by simp)
  have hlen : (p ++ x :: q).length = p.length + q.length + 1 := by simp; omega
  by_cases hf : faultC x = 0
  ·have ih := chk4_runs q (p ++ [x]) (by simpa using hQ) (by simp; omega)
   rw [List.getLast?_concat] at ih
   rcases List.eq_nil_or_concat p with rfl | ⟨p', y, rfl⟩
   ·have e : faultL ([] : List (List G)).getLast? (x :: q) = faultL (some x) q := by simp [faultL, hf]
    rw [e]
    refine RetN.next (Ret.toEq ?_) ih
    unfold chk4
    (dsimp +instances only [Aa,Ab,Ac,Ad,Ae,Af,Ag])
    simp only [g1, hlen, List.length_cons, hx.eta]
    (repeat first|refine Ret.p ?_|refine Ret.n ?_)
    refine Ret.cE (hC x hx) ?_
    (dsimp +instances only [Aa,Ab,Ac,Ad,Ae,Af,Ag])
    simp only [hf]
    (repeat first|refine Ret.p ?_|refine Ret.n ?_)
    refine Ret.some ?_
    simp
    omega
   ·rw [List.concat_eq_append] at *
    have hy : Con y := hQ y (by simp)
    have g2 : ((p' ++ [y]) ++ x :: q).getD (((p' ++ [y]).length : Int) - 1).toNat [] = y := by
     have e : (p' ++ [y]) ++ x :: q = p' ++ y :: x :: q := by simp
     rw [e]; exact getD_mid _ _ _ _ _ (by simp)
    have hp : (p' ++ [y]).length = p'.length + 1 := by simp
    have hl0 : (p' ++ [y]).getLast? = some y := by simp
    rw [hl0]
    by_cases ho : 0 ≤ ordC y x
    ·refine RetN.stop (x := 0) (d' := [.i 7]) (Ret.toEq ?_) (.inl ⟨rfl, by simp [faultL, hf, ho]⟩)
     unfold chk4
     (dsimp +instances only [Aa,Ab,Ac,Ad,Ae,Af,Ag])
     simp only [g1, g2, hlen, List.length_cons, hx.eta, hy.eta]
     (repeat first|refine Ret.p ?_|refine Ret.n ?_)
     refine Ret.cE (hC x hx) ?_
     (dsimp +instances only [Aa,Ab,Ac,Ad,Ae,Af,Ag])
     simp only [hf]
     (repeat first|refine Ret.p ?_|refine Ret.n ?_)
     refine Ret.cE (hD y x hy hx) ?_
     (dsimp +instances only [Aa,Ab,Ac,Ad,Ae,Af,Ag])
     (repeat first|refine Ret.p ?_|refine Ret.n ?_)
     exact Ret.some rfl
    ·have e : faultL (some y) (x :: q) = faultL (some x) q := by simp [faultL, hf, ho]
     rw [e]
     refine RetN.next (Ret.toEq ?_) ih
     unfold chk4
     (dsimp +instances only [Aa,Ab,Ac,Ad,Ae,Af,Ag])
     simp only [g1, g2, hlen, List.length_cons, hx.eta, hy.eta]
     (repeat first|refine Ret.p ?_|refine Ret.n ?_)
     refine Ret.cE (hC x hx) ?_
     (dsimp +instances only [Aa,Ab,Ac,Ad,Ae,Af,Ag])
     simp only [hf]
     (repeat first|refine Ret.p ?_|refine Ret.n ?_)
     refine Ret.cE (hD y x hy hx) ?_
     (dsimp +instances only [Aa,Ab,Ac,Ad,Ae,Af,Ag])
     (repeat first|refine Ret.p ?_|refine Ret.n ?_)
     refine Ret.some ?_
     simp
     omega
  ·refine RetN.stop (x := 0) (d' := [.i (faultC x)]) (Ret.toEq ?_) (.inl ⟨rfl, by cases hg : p.getLast? <;> simp [faultL, hf]⟩)
   unfold chk4
   (dsimp +instances only [Aa,Ab,Ac,Ad,Ae,Af,Ag])
   simp only [g1, hlen, List.length_cons, hx.eta]
   (repeat first|refine Ret.p ?_|refine Ret.n ?_)
   refine Ret.cE (hC x hx) ?_
   (dsimp +instances only [Aa,Ab,Ac,Ad,Ae,Af,Ag])
   refine Ret.pos (by simpa using hf) (Ret.some rfl)
theorem chkF_eq (l : List (List G)) (hl : ∀ z ∈ l, Con z) (hn : l.length < 100000) : chkF [.int .i64, .int .i64, .str, .str, .int .i64, .int .i64, .str, .str] C D [.l l] = some [.i (faultLog l)] := by
 refine Ret.toEq ?_
 unfold chkF faultLog
 (dsimp +instances only [Aa,Ab,Ac,Ad,Ae,Af,Ag])
 by_cases h : 2000 < l.length
 ·(repeat first|refine Ret.p ?_|refine Ret.n ?_)
  exact Ret.some (by simp [h])
 ·(repeat first|refine Ret.p ?_|refine Ret.n ?_)
  have h1 := chk4_runs hC hD l [] (by simpa using hl) (by simpa using hn)
  have h0 : ((0 : Nat) : Int) = 0 := rfl
  simp only [List.nil_append, List.length_nil, Nat.zero_add, h0] at h1
  refine Ret.loop (h1.to (by omega)) (by (first|rfl|assumption|(simp only [inI,sl]<;>omega))) ?_
  rintro c g (⟨rfl, rfl⟩ | ⟨rfl, h2⟩)
  ·(dsimp +instances only [Aa,Ab,Ac,Ad,Ae,Af,Ag])
   (repeat first|refine Ret.p ?_|refine Ret.n ?_)
   refine Ret.some ?_
   rw [if_neg h]
   rfl
  ·(repeat first|refine Ret.p ?_|refine Ret.n ?_)
   refine Ret.some ?_
   rw [if_neg h]
   exact congrArg (fun z => [G.i z]) h2.symm
end
theorem checkLog_eq (l : List (List G)) (hl : ∀ z ∈ l, Con z) (hn : l.length < 100000) : F_log_CheckLog [.l l] = some [.i (faultLog l)] :=
 chkF_eq (fun _ h => check_eq h) (fun _ _ h h' => compare_eq h h') l hl hn
theorem logFault_eq (l : List (List G)) (hl : ∀ z ∈ l, Con z) (hn : l.length < 100000) : F_r2_LogFault [.l l] = some [.i (faultLog l)] :=
 chkF_eq (fun _ h => fault_eq h) (fun _ _ h h' => order_eq h h') l hl hn
theorem loop_Contacts (l : List (List G)) (n : Nat) (hn : n ≤ 20) : ∀ (k i : Nat) (a t : Int) (acc : List (List G)), i + k = n → 0 ≤ a → a ≤ 700000 + 21 * i → -(1500000 * (i : Int)) ≤ t → t ≤ 1500000 * (i : Int) → (∀ z ∈ acc, ConT z) → acc.length = i →
  RetN st_mk_Contacts_4 [.l l, .i a, .l acc, .i t, .i (n : Int), .i (i : Int)] (k + 1) fun c g => c = 0 ∧ ∃ b rows, g = [.l l, .i b, .l rows] ∧ a ≤ b ∧ b ≤ a + 21 * k ∧ (∀ z ∈ rows, ConT z) ∧ rows.length = n
 | 0, i, a, t, acc, hi, ha, ha1, ht, ht1, hQ, hl => by
  refine RetN.stop (x := 0) (Ret.toEq ?_) ⟨rfl, a, acc, rfl, by omega, by omega, hQ, by omega⟩
  unfold st_mk_Contacts_4
  (dsimp +instances only [Aa,Ab,Ac,Ad,Ae,Af,Ag])
  (repeat first|refine Ret.p ?_|refine Ret.n ?_)
  exact Ret.some rfl
 | k + 1, i, a, t, acc, hi, ha, ha1, ht, ht1, hQ, hl => by
  have key : Ret (st_mk_Contacts_4 [.l l, .i a, .l acc, .i t, .i (n : Int), .i (i : Int)]) fun o => ∃ b r v, o = (none, [.l l, .i b, .l (acc ++ [r]), .i (t + v), .i (n : Int), .i ((i : Int) + 1)]) ∧ a ≤ b ∧ b ≤ a + 21 ∧ ConT r ∧ 0 ≤ v ∧ v ≤ 1500000 := by
   unfold st_mk_Contacts_4
   (dsimp +instances only [Aa,Ab,Ac,Ad,Ae,Af,Ag])
   (repeat first|refine Ret.p ?_|refine Ret.n ?_)
   refine Ret.call (r_PickB 0 1500000 l a _ ha (by omega) (by kernel_rfl) (by kernel_rfl)) ?_
   rintro _ ⟨v, rfl, hv0, hv1⟩
   (dsimp +instances only [Aa,Ab,Ac,Ad,Ae,Af,Ag])
   (repeat first|refine Ret.p ?_|refine Ret.n ?_)
   refine Ret.call (r_SomeContact l (a + 1) (t + v) (by omega) (by omega) ⟨by omega, by omega⟩) ?_
   rintro _ ⟨b, r, rfl, hb0, hb1, hr⟩
   (dsimp +instances only [Aa,Ab,Ac,Ad,Ae,Af,Ag])
   simp only [hr.to.eta]
   (repeat first|refine Ret.p ?_|refine Ret.n ?_)
   exact Ret.some ⟨b, r, v, rfl, by omega, by omega, hr, hv0, hv1⟩
  obtain ⟨_, h, b, r, v, rfl, h1, h2, h3, h4, h5⟩ := key
  have ih := loop_Contacts l n hn k (i + 1) b (t + v) (acc ++ [r]) (by omega) (by omega) (by omega) (by omega) (by omega) (by
   intro z hz
   rcases List.mem_append.1 hz with hz | hz
   ·exact hQ z hz
   ·simp at hz; exact hz ▸ h3) (by simp [hl])
  refine RetN.next h (ih.mono ?_)
  rintro c g ⟨rfl, b', rows, rfl, q1, q2, q3, q4⟩
  exact ⟨rfl, b', rows, rfl, by omega, by omega, q3, q4⟩
theorem sortOrder_eq (rows : List (List G)) (hr : ∀ y ∈ rows, Con y) (hn : rows.length ≤ 20) : F_srtS_Contact [.l rows] = some [.l (sortA (ltC ordC) rows)] :=
 sortF_eq cmpOrder rows hr hn
def sameC (r s : List G) : Bool := ordC r s == 0
theorem eqvOrder : Eqv [.int .i64, .int .i64, .str, .str, .int .i64, .int .i64, .str, .str] F_mk_Contacts_1 Con sameC := ⟨fun r s hr hs => by
 refine Ret.toEq ?_
 unfold F_mk_Contacts_1
 (dsimp +instances only [Aa,Ab,Ac,Ad,Ae,Af,Ag])
 simp only [hr.eta, hs.eta]
 refine Ret.cE (order_eq hr hs) ?_
 exact Ret.some rfl, fun _ h => h.eta⟩
def zC : List G := [.i 0, .i 0, .s (⟨#[]⟩ : ByteArray), .s (⟨#[]⟩ : ByteArray), .i 0, .i 0, .s (⟨#[]⟩ : ByteArray), .s (⟨#[]⟩ : ByteArray)]
theorem r_Contacts (l : List (List G)) (a n : Int) (ha : 0 ≤ a) (ha1 : a ≤ 700000) (h0 : 0 ≤ n) (h1 : n ≤ 20) :
  Ret (F_mk_Contacts [.l l, .i a, .i n]) fun g => ∃ b rows, g = [.l l, .i b, .l rows] ∧ a ≤ b ∧ b ≤ a + 420 ∧ (∀ z ∈ rows, ConT z) ∧ (rows.length : Int) ≤ n := by
 obtain ⟨n, rfl⟩ := Int.eq_ofNat_of_zero_le h0
 unfold F_mk_Contacts
 (dsimp +instances only [Aa,Ab,Ac,Ad,Ae,Af,Ag])
 have hl := loop_Contacts l n (by omega) n 0 a 0 [] (by omega) ha (by omega) (by omega) (by omega) (by simp) rfl
 refine Ret.loop (hl.to (by omega)) (by (first|rfl|assumption|(simp only [inI,sl]<;>omega))) ?_
 rintro c g ⟨rfl, b, rows, rfl, h2, h3, h4, h5⟩
 (dsimp +instances only [Aa,Ab,Ac,Ad,Ae,Af,Ag])
 refine Ret.callb (Ret.eq (sortOrder_eq rows (fun z hz => (h4 z hz).to) (by omega))) (by (first|rfl|assumption|(simp only [inI,sl]<;>omega))) ?_
 rintro _ rfl
 (dsimp +instances only [Aa,Ab,Ac,Ad,Ae,Af,Ag])
 have hs := sortA_all (lt := ltC ordC) h4
 have hsl := sortA_length (ltC ordC) rows
 refine Ret.callb (P := fun g => ∃ J, g = [.l (compact sameC (sortA (ltC ordC) rows) ++ J), .i ((compact sameC (sortA (ltC ordC) rows)).length : Int)] ∧ (compact sameC (sortA (ltC ordC) rows) ++ J).length = (sortA (ltC ordC) rows).length)
  (cmpfF_eq (Z := zC) eqvOrder (sortA (ltC ordC) rows) (fun z hz => (hs z hz).to) (by omega)) (by (first|rfl|assumption|(simp only [inI,sl]<;>omega))) ?_
 rintro _ ⟨J, rfl, hJ⟩
 (dsimp +instances only [Aa,Ab,Ac,Ad,Ae,Af,Ag])
 have hle : (compact sameC (sortA (ltC ordC) rows)).length ≤ (sortA (ltC ordC) rows).length := compact_length _ _
 simp only [hJ]
 (repeat first|refine Ret.p ?_|refine Ret.n ?_)
 refine Ret.some ⟨b, compact sameC (sortA (ltC ordC) rows), by simp, by omega, by omega, fun z hz => hs z (compact_mem hz), by omega⟩
theorem cloneF_ok (a : List (List G)) (h : a.length ≤ 1048576) : F_sl_Clone_Contact_f [.l a] = some [.l a] := by
 refine Ret.toEq ?_
 unfold F_sl_Clone_Contact_f
 (dsimp +instances only [Aa,Ab,Ac,Ad,Ae,Af,Ag])
 refine Ret.test (fun h1 => ?_) fun h1 => ?_
 ·unfold F_sl_Clone_Contact_f_0
  (dsimp +instances only [Aa,Ab,Ac,Ad,Ae,Af,Ag])
  (repeat first|refine Ret.p ?_|refine Ret.n ?_)
  exact Ret.some rfl
 ·have : a = [] := by
   cases a with
   | nil => rfl
   | cons x a =>
    have h2 : Nat.blt 0 (x :: a).length = true := by rw [Nat.blt_eq]; simp
    rw [h2] at h1
    cases h1
  subst this
  exact Ret.some rfl
theorem faultL_all : ∀ {l : List (List G)} {o : Option (List G)}, faultL o l = 0 → ∀ x ∈ l, faultC x = 0
 | [], _, _, x, hx => by cases hx
 | y :: l, none, h, x, hx => by
  simp only [faultL] at h
  by_cases hy : faultC y = 0
  ·rw [if_neg (by simpa using hy)] at h
   rcases List.mem_cons.1 hx with rfl | hx
   ·exact hy
   ·exact faultL_all h x hx
  ·rw [if_pos hy] at h
   exact (hy h).elim
 | y :: l, some z, h, x, hx => by
  simp only [faultL] at h
  by_cases hy : faultC y = 0
  ·rw [if_neg (by simpa using hy)] at h
   split at h
   ·cases h
   ·rcases List.mem_cons.1 hx with rfl | hx
    ·exact hy
    ·exact faultL_all h x hx
  ·rw [if_pos hy] at h
   exact (hy h).elim
theorem faultLog_all {l : List (List G)} (h : faultLog l = 0) : ∀ x ∈ l, faultC x = 0 := by
 unfold faultLog at h
 split at h
 ·cases h
 ·exact faultL_all h
structure SerOK (s : List (List G) × List (List G)) (i : Nat) : Prop where
 l1 : s.1.length ≤ i
 l2 : s.2.length ≤ i
 r1 : ∀ r ∈ s.1, ∃ a b, r = [.i a, .i b] ∧ 0 ≤ b ∧ b ≤ i + 1
 r2 : ∀ r ∈ s.2, ∃ a, r = [.i a]
theorem bytes_flip' : ∀ a b : List UInt8, Lib.compareBytes b a = - Lib.compareBytes a b
 | [], [] => rfl
 | [], _ :: _ => rfl
 | _ :: _, [] => rfl
 | a :: xs, b :: ys => by
  simp only [Lib.compareBytes]
  have ih := bytes_flip' xs ys
  by_cases h1 : a < b
  ·have h2 : ¬ b < a := fun h => UInt8.lt_irrefl a (UInt8.lt_trans h1 h)
   simp [h1, h2]
  ·by_cases h2 : b < a
   ·simp [h1, h2]
   ·simp [h1, h2, ih]
theorem bytes_lt_trans' : ∀ {a b c : List UInt8}, Lib.compareBytes a b < 0 → Lib.compareBytes b c < 0 → Lib.compareBytes a c < 0
 | [], [], _, h, _ => by simp [Lib.compareBytes] at h
 | [], _ :: _, [], _, h => by simp [Lib.compareBytes] at h
 | [], _ :: _, _ :: _, _, _ => by simp [Lib.compareBytes]
 | _ :: _, [], _, h, _ => by simp [Lib.compareBytes] at h
 | _ :: _, _ :: _, [], _, h => by simp [Lib.compareBytes] at h
 | a :: xs, b :: ys, c :: zs, h1, h2 => by
  simp only [Lib.compareBytes] at h1 h2 ⊢
  by_cases hab : a < b
  ·by_cases hbc : b < c
   ·rw [if_pos (UInt8.lt_trans hab hbc)]
    omega
   ·by_cases hcb : c < b
    ·rw [if_neg hbc, if_pos hcb] at h2
     omega
    ·have e : b = c := UInt8.le_antisymm (UInt8.not_lt.1 hcb) (UInt8.not_lt.1 hbc)
     subst e
     rw [if_pos hab]
     omega
  ·by_cases hba : b < a
   ·rw [if_neg hab, if_pos hba] at h1
    omega
   ·have e : a = b := UInt8.le_antisymm (UInt8.not_lt.1 hba) (UInt8.not_lt.1 hab)
    subst e
    rw [if_neg (UInt8.lt_irrefl a), if_neg (UInt8.lt_irrefl a)] at h1
    by_cases hac : a < c
    ·rw [if_pos hac]
     omega
    ·by_cases hca : c < a
     ·rw [if_neg hac, if_pos hca] at h2
      omega
     ·rw [if_neg hac, if_neg hca] at h2 ⊢
      exact bytes_lt_trans' h1 h2
theorem str_ext {a b : ByteArray} (h : (a.toList == b.toList) = true) : a = b := by
 rw [ByteArray.toList_eq, ByteArray.toList_eq, beq_iff_eq] at h
 exact ByteArray.ext (Array.toList_inj.1 h)
theorem cmpS_z {a b : ByteArray} : cmpS a b = 0 ↔ a = b := by
 have h := str_eq a b
 constructor
 ·intro e
  rw [decide_eq_true (p := cmpS a b = 0) e] at h
  exact str_ext h
 ·rintro rfl
  have h2 : (a.toList == a.toList) = true := by simp
  rw [h2] at h
  exact of_decide_eq_true h.symm
theorem cmpI_z {a b : Int} : cmpI a b = 0 ↔ a = b := by
 unfold cmpI
 constructor
 ·intro h
  split at h
  ·omega
  ·split at h <;> omega
 ·rintro rfl
  simp
theorem cmpI_lt {a b : Int} : cmpI a b < 0 ↔ a < b := by
 unfold cmpI
 constructor
 ·intro h
  split at h
  ·assumption
  ·split at h <;> omega
 ·intro h
  rw [if_pos h]
  omega
structure Ordr {α : Type} (c : α → α → Int) : Prop where
 flip : ∀ a b, c b a = - c a b
 eq : ∀ a b, c a b = 0 → a = b
 tr : ∀ a b d, c a b < 0 → c b d < 0 → c a d < 0
theorem ordrI : Ordr cmpI := ⟨fun a b => by unfold cmpI; split <;> split <;> first | omega | (split <;> omega) | skip, fun a b h => cmpI_z.1 h, fun a b d h1 h2 => cmpI_lt.2 (Int.lt_trans (cmpI_lt.1 h1) (cmpI_lt.1 h2))⟩
theorem ordrS : Ordr cmpS := ⟨fun a b => bytes_flip' _ _, fun a b h => cmpS_z.1 h, fun a b d h1 h2 => bytes_lt_trans' h1 h2⟩
theorem Ordr.refl {α : Type} {c : α → α → Int} (h : Ordr c) (a : α) : c a a = 0 := by
 have := h.flip a a
 omega
def or2 (a b : Int) : Int := if a ≠ 0 then a else b
theorem or2_lt {α : Type} {c : α → α → Int} (h : Ordr c) (a b d : α) (x y z : Int) (h1 : or2 (c a b) x < 0) (h2 : or2 (c b d) y < 0) (h3 : x < 0 → y < 0 → z < 0) : or2 (c a d) z < 0 := by
 unfold or2 at *
 by_cases e1 : c a b = 0
 ·have e := h.eq a b e1
  subst e
  rw [if_neg (by simpa using e1)] at h1
  by_cases e2 : c a d = 0
  ·rw [if_neg (by simpa using e2)] at h2 ⊢
   exact h3 h1 h2
  ·rw [if_pos e2] at h2 ⊢
   exact h2
 ·rw [if_pos e1] at h1
  by_cases e2 : c b d = 0
  ·have e := h.eq b d e2
   subst e
   rw [if_pos e1]
   exact h1
  ·rw [if_pos e2] at h2
   have := h.tr a b d (by omega) (by omega)
   rw [if_pos (by omega)]
   omega
/-! ### Lists that are checked row by row -/
def fw (step : Nat → Int) : Nat → Int
 | 0 => 0
 | i + 1 => if fw step i ≠ 0 then fw step i else step i
theorem fw_stays {step : Nat → Int} {i : Nat} (h : fw step i ≠ 0) : ∀ k, fw step (i + k) = fw step i
 | 0 => rfl
 | k + 1 => by
  have ih := fw_stays h k
  show (if fw step (i + k) ≠ 0 then fw step (i + k) else step (i + k)) = fw step i
  rw [ih, if_pos h]
theorem fw_zero {step : Nat → Int} : ∀ {n : Nat}, fw step n = 0 → ∀ i, i < n → step i = 0
 | 0, _, i, hi => by omega
 | n + 1, h, i, hi => by
  have h0 : fw step n = 0 := by
   refine Decidable.byContradiction fun hn => hn ?_
   have := fw_stays hn 1
   rw [← this]
   exact h
  have h' : (if fw step n ≠ 0 then fw step n else step n) = 0 := h
  rw [if_neg (by simpa using h0)] at h'
  rcases Nat.lt_or_ge i n with hlt | hge
  ·exact fw_zero h0 i hlt
  ·have : i = n := by omega
   rw [this]
   exact h'
theorem fw_loop {st : List G → Option (Option Nat × List G)} (mk : Nat → List G) (n : Nat) (step : Nat → Int) (gn : List G) (hn : n < 999999)
  (hstep : ∀ i, i < n → Ret (st (mk i)) fun o => (step i = 0 ∧ o = (none, mk (i + 1))) ∨ (step i ≠ 0 ∧ o = (some 0, [.i (step i)])))
  (hfin : Ret (st (mk n)) fun o => o = (some 1, gn)) :
  RetL st (mk 0) fun c g => (c = 1 ∧ fw step n = 0 ∧ g = gn) ∨ (c = 0 ∧ g = [.i (fw step n)] ∧ fw step n ≠ 0) := by
 refine ((count_runs (σ := Unit) (fun _ i => mk i) n (fun _ => (1, gn)) (fun _ i => fw step i = 0) (fun c g => c = 0 ∧ g = [.i (fw step n)] ∧ fw step n ≠ 0) ?_ (fun _ _ => hfin) n () 0 (by omega) rfl).to (by omega)).mono ?_
 ·rintro _ i hI hi
  refine (hstep i hi).mono ?_
  rintro _ (⟨h0, rfl⟩ | ⟨h1, rfl⟩)
  ·refine .inl ⟨(), rfl, ?_⟩
   show (if fw step i ≠ 0 then fw step i else step i) = 0
   rw [if_neg (by simpa using hI)]
   exact h0
  ·have e : fw step (i + 1) = step i := by
    show (if fw step i ≠ 0 then fw step i else step i) = step i
    rw [if_neg (by simpa using hI)]
   have e2 : fw step n = step i := by
    have := fw_stays (step := step) (i := i + 1) (by rw [e]; exact h1) (n - (i + 1))
    rw [show i + 1 + (n - (i + 1)) = n by omega, e] at this
    exact this
   exact .inr ⟨0, _, rfl, rfl, by rw [e2], by rw [e2]; exact h1⟩
 ·rintro c g (⟨_, h, rfl, rfl⟩ | h)
  ·exact .inl ⟨rfl, h, rfl⟩
  ·exact .inr h
def cats : List ByteArray := [⟨#[97, 108, 108]⟩, ⟨#[99, 111, 100, 101]⟩, ⟨#[65]⟩]
def locs : List ByteArray := [⟨#[]⟩, ⟨#[107, 112, 50, 48, 108, 102]⟩, ⟨#[107, 112, 50, 48]⟩]
def Ent (r : List G) : Prop := ∃ (c k : ByteArray) (p : Int) (q : ByteArray), r = [.s c, .s k, .i p, .s q] ∧ c ∈ calls ∧ k ∈ cats ∧ -1099511627776 ≤ p ∧ p ≤ 1099511627776 ∧ q ∈ locs
theorem Ent.eta {r : List G} (h : Ent r) : gEta [.str, .str, .int .i64, .str] r = r := by
 obtain ⟨c, k, p, q, rfl, _⟩ := h
 rfl
/-! ### What is wrong with entrants -/
theorem less_eq : ∀ a b : List UInt8, Op.bytesLess a b = decide (Lib.compareBytes a b < 0)
 | [], [] => rfl
 | _ :: _, [] => rfl
 | [], _ :: _ => rfl
 | a :: x, b :: y => by
  simp only [Op.bytesLess, Lib.compareBytes, less_eq x y]
  by_cases h1 : a < b
  ·simp [h1]
  ·by_cases h2 : b < a
   ·have h3 : a ≠ b := fun h => by
     subst h
     exact h1 h2
    simp [h1, h2, h3]
   ·have h3 : a = b := UInt8.le_antisymm (UInt8.not_lt.1 h2) (UInt8.not_lt.1 h1)
    subst h3
    simp [h1]
theorem two_step (a b c d x y : ByteArray) (i : Nat) (v : Int) (h : F_cmp_Compare_string [.s x, .s y] = some [.i v]) (hi : i < 2) (hx : ([[.s a], [.s b]] : List (List G)).getD i [] = [.s x]) (hy : ([[.s c], [.s d]] : List (List G)).getD i [] = [.s y]) :
  st_sl_Compare_string_2 [.l [[.s a], [.s b]], .l [[.s c], [.s d]], .l [[.s a], [.s b]], .i 2, .i (i : Int)] = some (if v = 0 then (none, [.l [[.s a], [.s b]], .l [[.s c], [.s d]], .l [[.s a], [.s b]], .i 2, .i ((i : Int) + 1)]) else (some 0, [.i v])) := by
 refine Ret.toEq ?_
 unfold st_sl_Compare_string_2
 (dsimp +instances only [Aa,Ab,Ac,Ad,Ae,Af,Ag])
 simp only [Int.toNat_natCast, hx, hy]
 (dsimp +instances only [Aa,Ab,Ac,Ad,Ae,Af,Ag])
 refine Ret.p (Ret.p (Ret.n (Ret.p ?_)))
 refine Ret.cE h ?_
 (dsimp +instances only [Aa,Ab,Ac,Ad,Ae,Af,Ag])
 by_cases e : v = 0
 ·subst e
  refine Ret.neg rfl (Ret.p (Ret.some rfl))
 ·rw [if_neg e]
  exact Ret.pos (by simpa using e) (Ret.some rfl)
def Row8 (r : List G) : Prop := ∃ (t m : Int) (b c : ByteArray) (s h : Int) (x y : ByteArray), r = [.i t, .i m, .s b, .s c, .i s, .i h, .s x, .s y]
theorem Con.row {r : List G} (h : Con r) : Row8 r := by
 obtain ⟨t, m, b, c, s, h, x, y, e, _⟩ := h
 exact ⟨t, m, b, c, s, h, x, y, e⟩
theorem Row8.eta {r : List G} (h : Row8 r) : gEta [.int .i64, .int .i64, .str, .str, .int .i64, .int .i64, .str, .str] r = r := by
 obtain ⟨t, m, b, c, s, h, x, y, rfl⟩ := h
 rfl
theorem Row8.put {r : List G} (h : Row8 r) (n : Int) : Row8 (putG [.int .i64, .int .i64, .str, .str, .int .i64, .int .i64, .str, .str] r 4 [.i n]) := by
 obtain ⟨t, m, b, c, s, h, x, y, rfl⟩ := h
 exact ⟨t, m, b, c, n, h, x, y, rfl⟩
/-! ### Duplicates -/
def baseOf (s : ByteArray) : ByteArray := (gi ((F_call_BaseOf [.s s]).getD []) 0).str
theorem base_eq {s : ByteArray} (h : s ∈ calls) : F_call_BaseOf [.s s] = some [.s (baseOf s)] := by
 simp only [calls, List.mem_cons, List.not_mem_nil, or_false] at h
 rcases h with (rfl | rfl | rfl | rfl | rfl | rfl | rfl | rfl | rfl | rfl | rfl | rfl | rfl | rfl) <;> kernel_rfl
abbrev K3 : List Kd := [.str, .str, .int .i64]
def wk (y : List G) : List G := [.s (baseOf (gi y 3).str), .s (gi y 2).str, .i (gi y 1).int]
def dupB (l : List (List G)) (i : Nat) : Bool := (l.take i).any fun y => rowEq K3 (wk (l.getD i [])) (wk y)
def dupL (l : List (List G)) : Nat → List (List G)
 | 0 => []
 | i + 1 => dupL l i ++ bif dupB l i then [[.i (i : Int)]] else []
theorem dupL_length (l : List (List G)) : ∀ i, (dupL l i).length ≤ i
 | 0 => Nat.le_refl _
 | i + 1 => by
  have := dupL_length l i
  simp only [dupL, List.length_append]
  cases dupB l i <;> simp <;> omega
theorem dupes_ok (l : List (List G)) (hC : ∀ z ∈ l, Con z) (hn : l.length < 90000) : F_log_dupes [.l l] = some [.l (dupL l l.length)] := by
 refine Ret.toEq ?_
 unfold F_log_dupes
 (dsimp +instances only [Aa,Ab,Ac,Ad,Ae,Af,Ag])
 have r := range_all (st := st_log_dupes_4) (σ := List (List G) × Nat × List (List G)) (fun s i => [.l s.1, .i (s.2.1 : Int), .l s.2.2, .l l, .i (l.length : Int), .i (i : Int)]) l (fun s => (0, [.l s.2.2]))
  (fun s i => (∀ key, (gi (mget K3 s.1 key [.t false]) 0).bool = (l.take i).any fun y => rowEq K3 key (wk y)) ∧ s.2.2 = dupL l i) ([], 0, []) (by omega) ⟨fun key => by simp [mget_nil]; rfl, rfl⟩
  (fun s i x hI hi hx hm ht => by
   obtain ⟨hs, hd⟩ := hI
   have hc : (gi x 3).str ∈ calls := by
    obtain ⟨t, m, b, c, s, h, x', y', rfl, _, _, _, _, _, hc, _⟩ := hC x hm
    exact hc
   have hl := dupL_length l i
   rw [← hd] at hl
   have hk : (gi (mget K3 s.1 [.s (baseOf (gi x 3).str), .s (gi x 2).str, .i (gi x 1).int] [.t false]) 0).bool = dupB l i := by
    rw [hs]
    unfold dupB
    rw [hx]
    rfl
   unfold st_log_dupes_4
   (dsimp +instances only [Aa,Ab,Ac,Ad,Ae,Af,Ag])
   simp only [Int.toNat_natCast, hx]
   refine Ret.p (Ret.p ?_)
   refine Ret.cE (base_eq hc) ?_
   (dsimp +instances only [Aa,Ab,Ac,Ad,Ae,Af,Ag])
   have upd : ∀ key, (gi (mget K3 (mput K3 s.1 (wk x) [.t true] s.2.1) key [.t false]) 0).bool = (l.take (i + 1)).any fun y => rowEq K3 key (wk y) := fun key => by
    rw [mget_mput, ht, List.any_append, ← hs key]
    cases hk : rowEq K3 key (wk x) <;> simp [hk, Aa, Ag]
   refine Ret.test (fun h => ?_) fun h => ?_
   ·have hb : dupB l i = true := hk ▸ h
    (repeat first|refine Ret.p ?_|refine Ret.n ?_)
    exact Ret.some ⟨(mput K3 s.1 (wk x) [.t true] s.2.1, mclk K3 s.1 (wk x) s.2.1, s.2.2 ++ [[.i (i : Int)]]), rfl, upd, by simp only [dupL, hb, hd, cond_true]⟩
   ·have hb : dupB l i = false := hk ▸ h
    (repeat first|refine Ret.p ?_|refine Ret.n ?_)
    exact Ret.some ⟨(mput K3 s.1 (wk x) [.t true] s.2.1, mclk K3 s.1 (wk x) s.2.1, s.2.2), rfl, upd, by simp only [dupL, hb, hd, cond_false, List.append_nil]⟩)
  (fun s hI => by
   unfold st_log_dupes_4
   (dsimp +instances only [Aa,Ab,Ac,Ad,Ae,Af,Ag])
   (repeat first|refine Ret.p ?_|refine Ret.n ?_)
   exact Ret.some rfl)
 refine Ret.loop r rfl ?_
 rintro c g ⟨⟨m, k, out⟩, ⟨_, rfl⟩, rfl, rfl⟩
 (dsimp +instances only [Aa,Ab,Ac,Ad,Ae,Af,Ag])
 (repeat first|refine Ret.p ?_|refine Ret.n ?_)
 exact Ret.some rfl
def firstE : List Int → Int
 | [] => 0
 | x :: q => bif x != 0 then x else firstE q
/-! ### Pauses -/
structure PauseOK (s : List (List G) × Int) (i : Nat) : Prop where
 len : s.1.length ≤ i
 rows : ∀ r ∈ s.1, ∃ a b, r = [.i a, .i b]
 at0 : 0 ≤ s.2
 at1 : s.2 ≤ 345686400000
/-! ### Hours -/
structure HourOK (s : List (List G)) (n i : Nat) : Prop where
 len : s.length = n
 rows : ∀ r ∈ s, ∃ v, r = [.i v] ∧ 0 ≤ v ∧ v ≤ i
theorem right_runs (l : List (List G)) (n : Int) (h0 : 0 ≤ n) (h1 : n ≤ 20) : ∀ (k i : Nat) (a : Int), i + k = 5 → 0 ≤ a → a ≤ 5000 + 420 * (i : Int) →
  RetN st_mk_RightContacts_2 [.l l, .i a, .i n, .i (i : Int)] (k + 1) fun c g => (c = 0 ∧ ∃ b rows, g = [.l l, .i b, .l rows] ∧ 0 ≤ b ∧ b ≤ 10000 ∧ (∀ z ∈ rows, ConT z) ∧ (rows.length : Int) ≤ n ∧ faultLog rows = 0) ∨ (c = 1 ∧ ∃ b, g = [.l l, .i b] ∧ 0 ≤ b ∧ b ≤ 10000)
 | 0, i, a, hi, ha, ha1 => by
  refine RetN.stop (x := 1) (Ret.toEq ?_) (.inr ⟨rfl, a, rfl, ha, by omega⟩)
  unfold st_mk_RightContacts_2
  (dsimp +instances only [Aa,Ab,Ac,Ad,Ae,Af,Ag])
  (repeat first|refine Ret.p ?_|refine Ret.n ?_)
  exact Ret.some rfl
 | k + 1, i, a, hi, ha, ha1 => by
  have key : Ret (st_mk_RightContacts_2 [.l l, .i a, .i n, .i (i : Int)]) fun o => (∃ b rows, o = (some 0, [.l l, .i b, .l rows]) ∧ 0 ≤ b ∧ b ≤ 10000 ∧ (∀ z ∈ rows, ConT z) ∧ (rows.length : Int) ≤ n ∧ faultLog rows = 0) ∨
    ∃ b, o = (none, [.l l, .i b, .i n, .i ((i + 1 : Nat) : Int)]) ∧ a ≤ b ∧ b ≤ a + 420 := by
   unfold st_mk_RightContacts_2
   (dsimp +instances only [Aa,Ab,Ac,Ad,Ae,Af,Ag])
   (repeat first|refine Ret.p ?_|refine Ret.n ?_)
   refine Ret.call (r_Contacts l a n ha (by omega) h0 h1) ?_
   rintro _ ⟨b, rows, rfl, g1, g2, g3, g4⟩
   (dsimp +instances only [Aa,Ab,Ac,Ad,Ae,Af,Ag])
   refine Ret.cE (logFault_eq rows (fun z hz => (g3 z hz).to) (by omega)) ?_
   (dsimp +instances only [Aa,Ab,Ac,Ad,Ae,Af,Ag])
   refine Ret.test (fun h => ?_) fun h => ?_
   ·exact Ret.some (.inl ⟨b, rows, rfl, by omega, by omega, g3, g4, by simpa using h⟩)
   ·(repeat first|refine Ret.p ?_|refine Ret.n ?_)
    exact Ret.some (.inr ⟨b, by simp, g1, g2⟩)
  obtain ⟨_, h, ⟨b, rows, rfl, q1, q2, q3, q4, q5⟩ | ⟨b, rfl, q1, q2⟩⟩ := key
  ·exact RetN.stop h (.inl ⟨rfl, b, rows, rfl, q1, q2, q3, q4, q5⟩)
  ·exact RetN.next h (right_runs l n h0 h1 k (i + 1) b (by omega) (by omega) (by omega))
theorem r_Right (l : List (List G)) (a n : Int) (ha : 0 ≤ a) (ha1 : a ≤ 5000) (h0 : 0 ≤ n) (h1 : n ≤ 20) :
  Ret (F_mk_RightContacts [.l l, .i a, .i n]) fun g => ∃ b rows, g = [.l l, .i b, .l rows] ∧ 0 ≤ b ∧ b ≤ 10000 ∧ (∀ z ∈ rows, ConT z) ∧ (rows.length : Int) ≤ n ∧ faultLog rows = 0 := by
 unfold F_mk_RightContacts
 (dsimp +instances only [Aa,Ab,Ac,Ad,Ae,Af,Ag])
 refine Ret.loop ((right_runs l n h0 h1 5 0 a rfl ha (by omega)).to (by omega)) rfl ?_
 rintro c g (⟨rfl, b, rows, rfl, q⟩ | ⟨rfl, b, rfl, q1, q2⟩)
 ·exact Ret.pos rfl (Ret.some ⟨b, rows, rfl, q⟩)
 ·exact Ret.neg rfl (Ret.some ⟨b, [], rfl, q1, q2, by simp, by simpa using h0, rfl⟩)
/-! ### Hours: their sum -/
/-! ### The law -/
def b40 (n : Int) : Prop := -1099511627776 ≤ n ∧ n ≤ 1099511627776
theorem r_RangeX (l : List (List G)) (a lo hi : Int) (ha : 0 ≤ a) (ha1 : a ≤ 1000000) (h0 : lo ≤ hi) (h1 : -1000 ≤ lo) (h2 : hi ≤ 400000000000) :
  Ret (F_mk_Range [.l l, .i a, .i lo, .i hi]) fun g => ∃ v, g = [.l l, .i (a + 1), .i v] ∧ lo ≤ v ∧ v ≤ hi := by
 unfold F_mk_Range
 (dsimp +instances only [Aa,Ab,Ac,Ad,Ae,Af,Ag])
 (repeat first|refine Ret.p ?_|refine Ret.n ?_)
 refine Ret.call (r_Next l a _ ha ha1 (by omega) (by omega)) ?_
 rintro _ ⟨v, rfl, h3, h4⟩
 (dsimp +instances only [Aa,Ab,Ac,Ad,Ae,Af,Ag])
 (repeat first|refine Ret.p ?_|refine Ret.n ?_)
 exact Ret.some ⟨_, rfl, by omega, by omega⟩
theorem r_OddX (l : List (List G)) (a lo hi : Int) (ha : 0 ≤ a) (ha1 : a ≤ 900000) (h0 : lo ≤ hi) (h1 : -1000 ≤ lo) (h2 : hi ≤ 400000000000) :
  Ret (F_mk_Odd [.l l, .i a, .i lo, .i hi]) fun g => ∃ v, g = [.l l, .i (a + 2), .i v] ∧ b40 v := by
 unfold F_mk_Odd
 (dsimp +instances only [Aa,Ab,Ac,Ad,Ae,Af,Ag])
 have e2 : a + 1 + 1 = a + 2 := by omega
 refine Ret.call (r_Flip l a 12 ha (by omega) (by omega) (by omega)) ?_
 rintro _ ⟨b, rfl⟩
 (dsimp +instances only [Aa,Ab,Ac,Ad,Ae,Af,Ag])
 cases b with
 | true =>
  (repeat first|refine Ret.p ?_|refine Ret.n ?_)
  refine Ret.call (r_Pick b40 l (a + 1) _ (by omega) (by omega) (by simp) (by simp) ?_) ?_
  ·intro x hx
   unfold b40
   simp only [List.mem_cons, List.not_mem_nil, or_false] at hx
   rcases hx with rfl | rfl | rfl | rfl | rfl | rfl <;> (dsimp +instances only [Aa,Ab,Ac,Ad,Ae,Af,Ag]) <;> omega
  ·rintro _ ⟨v, rfl, h3⟩
   (dsimp +instances only [Aa,Ab,Ac,Ad,Ae,Af,Ag])
   exact Ret.some ⟨v, by rw [e2], h3⟩
 | false =>
  (repeat first|refine Ret.p ?_|refine Ret.n ?_)
  refine Ret.call (r_RangeX l (a + 1) lo hi (by omega) (by omega) h0 h1 h2) ?_
  rintro _ ⟨v, rfl, h3, h4⟩
  (dsimp +instances only [Aa,Ab,Ac,Ad,Ae,Af,Ag])
  exact Ret.some ⟨v, by rw [e2], by omega, by omega⟩
def classes : List ByteArray := [⟨#[102, 117, 108, 108]⟩, ⟨#[115, 109, 97, 108, 108]⟩, ⟨#[]⟩, ⟨#[65]⟩, ⟨#[110, 111, 110, 101]⟩]
def Mod (r : List G) : Prop := ∃ m : Int, r = [.i m] ∧ 0 ≤ m ∧ m ≤ 4
def Seg (r : List G) : Prop := ∃ (c : ByteArray) (lo hi : Int) (ms : List (List G)) (f t : Int), r = [.s c, .i lo, .i hi, .l ms, .i f, .i t] ∧ c ∈ classes ∧ b40 lo ∧ b40 hi ∧ (∀ z ∈ ms, Mod z) ∧ ms.length ≤ 4 ∧ b40 f ∧ b40 t
theorem Seg.eta {r : List G} (h : Seg r) : gEta KSegment r = r := by
 obtain ⟨c, lo, hi, ms, f, t, rfl, _⟩ := h
 rfl
/-! ### How the stream compares -/
def cmpLI : List Int → List Int → Int
 | x :: xs, y :: ys => or2 (cmpI x y) (cmpLI xs ys)
 | _, _ => 0
theorem cmpInts_eq (xs ys : List Int) (hl : ys.length = xs.length) (hn : xs.length ≤ 100) : F_sl_Compare_int [.l (xs.map fun n => [.i n]), .l (ys.map fun n => [.i n])] = some [.i (cmpLI xs ys)] := by
 refine Ret.toEq ?_
 unfold F_sl_Compare_int
 (dsimp +instances only [Aa,Ab,Ac,Ad,Ae,Af,Ag])
 have r := count_runs (st := st_sl_Compare_int_2) (σ := Unit) (fun _ i => [.l (xs.map fun n => [.i n]), .l (ys.map fun n => [.i n]), .l (xs.map fun n => [.i n]), .i ((xs.map fun n => [G.i n]).length : Int), .i (i : Int)]) xs.length
  (fun _ => (1, [.l (xs.map fun n => [.i n]), .l (ys.map fun n => [.i n])])) (fun _ i => cmpLI (xs.drop i) (ys.drop i) = cmpLI xs ys) (fun c g => c = 0 ∧ g = [.i (cmpLI xs ys)])
  (fun _ i hI hi => by
   have hy : i < ys.length := by omega
   have ex : (xs.map fun n => [G.i n]).getD i [] = [.i (xs[i])] := by simp [List.getD_eq_getElem?_getD, hi]
   have ey : (ys.map fun n => [G.i n]).getD i [] = [.i (ys[i])] := by simp [List.getD_eq_getElem?_getD, hy]
   unfold st_sl_Compare_int_2
   (dsimp +instances only [Aa,Ab,Ac,Ad,Ae,Af,Ag])
   simp only [Int.toNat_natCast, ex, ey, List.length_map]
   (dsimp +instances only [Aa,Ab,Ac,Ad,Ae,Af,Ag])
   refine Ret.p (Ret.p (Ret.n (Ret.p ?_)))
   refine Ret.cE (cmpInt_eq _ _) ?_
   (dsimp +instances only [Aa,Ab,Ac,Ad,Ae,Af,Ag])
   rw [List.drop_eq_getElem_cons hi, List.drop_eq_getElem_cons hy] at hI
   have hI : or2 (cmpI xs[i] ys[i]) (cmpLI (xs.drop (i + 1)) (ys.drop (i + 1))) = cmpLI xs ys := hI
   unfold or2 at hI
   by_cases e : cmpI xs[i] ys[i] = 0
   ·rw [if_neg (by simpa using e)] at hI
    refine Ret.neg (by simpa using e) (Ret.p (Ret.some (.inl ⟨(), ?_, hI⟩)))
    simp
   ·rw [if_pos e] at hI
    exact Ret.pos (by simpa using e) (Ret.some (.inr ⟨0, _, rfl, rfl, by rw [hI]⟩)))
  (fun _ hI => by
   unfold st_sl_Compare_int_2
   (dsimp +instances only [Aa,Ab,Ac,Ad,Ae,Af,Ag])
   simp only [List.length_map]
   (repeat first|refine Ret.p ?_|refine Ret.n ?_)
   exact Ret.some rfl) xs.length () 0 (by omega) rfl
 refine Ret.loop (r.to (by omega)) rfl ?_
 rintro _ _ (⟨_, h, rfl, rfl⟩ | ⟨rfl, rfl⟩)
 ·(dsimp +instances only [Aa,Ab,Ac,Ad,Ae,Af,Ag])
  simp only [List.length_map]
  refine Ret.neg rfl (Ret.n (Ret.some ?_))
  have h : cmpLI (xs.drop xs.length) (ys.drop xs.length) = cmpLI xs ys := h
  rw [List.drop_length, List.drop_eq_nil_of_le (by omega)] at h
  rw [← h]
  rfl
 ·(dsimp +instances only [Aa,Ab,Ac,Ad,Ae,Af,Ag])
  exact Ret.pos rfl (Ret.some rfl)
theorem cmp2_eq (a b a' b' : Int) : F_sl_Compare_int [.l [[.i a], [.i b]], .l [[.i a'], [.i b']]] = some [.i (or2 (cmpI a a') (cmpI b b'))] := by
 refine (cmpInts_eq [a, b] [a', b'] rfl (by simp)).trans ?_
 have e : or2 (cmpI b b') 0 = cmpI b b' := by
  unfold or2
  split
  ·rfl
  ·rename_i h
   have h : cmpI b b' = 0 := Decidable.byContradiction fun h' => h h'
   rw [h]
 show some [G.i (or2 (cmpI a a') (or2 (cmpI b b') 0))] = _
 rw [e]
/-! ### Bands -/
def b50 (n : Int) : Prop := -2000000000000000 ≤ n ∧ n ≤ 2000000000000000
def bkeys : List ByteArray := [⟨#[98, 49, 54, 48]⟩, ⟨#[98, 52, 48]⟩, ⟨#[98, 51, 48]⟩, ⟨#[98, 50, 48]⟩, ⟨#[]⟩]
def okB (s : ByteArray) : Bool := inL [⟨#[98, 49, 54, 48]⟩, ⟨#[98, 52, 48]⟩, ⟨#[98, 51, 48]⟩, ⟨#[98, 50, 48]⟩] s
theorem isKeyB {s : ByteArray} (h : s ∈ bkeys) : F_kit_IsKey [.s s] = some [.t (okB s)] := by
 simp only [bkeys, List.mem_cons, List.not_mem_nil, or_false] at h
 rcases h with (rfl | rfl | rfl | rfl | rfl) <;> kernel_rfl
theorem okB_ne {s : ByteArray} (h : okB s = true) : s ≠ (⟨#[]⟩ : ByteArray) := by
 rintro rfl
 exact absurd h (by decide)
def Bnd (r : List G) : Prop := ∃ (k : ByteArray) (lo hi : Int), r = [.s k, .i lo, .i hi] ∧ k ∈ bkeys ∧ b50 lo ∧ b50 hi
theorem Bnd.eta {r : List G} (h : Bnd r) : gEta KBand r = r := by
 obtain ⟨k, lo, hi, rfl, _⟩ := h
 rfl
def fourB : List (List G) := [[.s (⟨#[98, 49, 54, 48]⟩ : ByteArray), .i 1800000, .i 2000000], [.s (⟨#[98, 52, 48]⟩ : ByteArray), .i 7000000, .i 7300000], [.s (⟨#[98, 51, 48]⟩ : ByteArray), .i 7300000, .i 10150000], [.s (⟨#[98, 50, 48]⟩ : ByteArray), .i 14000000, .i 14350000]]
def keepB (f : Bool) (i : Nat) : List (List G) := bif f then [] else [fourB.getD i []]
def selB (f0 f1 f2 f3 : Bool) : List (List G) := ((([] ++ keepB f0 0) ++ keepB f1 1) ++ keepB f2 2) ++ keepB f3 3
theorem right_step (l : List (List G)) (a : Int) (out : List (List G)) (i : Nat) (ha : 0 ≤ a) (ha1 : a ≤ 900000) (hi : i < 4) (ho : out.length ≤ 100) :
  Ret (st_mk_RightBands_3 [.l l, .i a, .l out, .l fourB, .i 4, .i (i : Int)]) fun o => ∃ f, o = (none, [.l l, .i (a + 1), .l (out ++ keepB f i), .l fourB, .i 4, .i ((i + 1 : Nat) : Int)]) := by
 have h4 : fourB.length = 4 := rfl
 have he : gEta KBand (fourB.getD i []) = fourB.getD i [] := by
  have : i = 0 ∨ i = 1 ∨ i = 2 ∨ i = 3 := by omega
  rcases this with rfl | rfl | rfl | rfl <;> rfl
 unfold st_mk_RightBands_3
 (dsimp +instances only [Aa,Ab,Ac,Ad,Ae,Af,Ag])
 refine Ret.p (Ret.pos (by rw [h4]; (first|rfl|assumption|(simp only [inI,sl]<;>omega))) ?_)
 refine Ret.call (r_Flip l a 8 ha (by omega) (by omega) (by omega)) ?_
 rintro _ ⟨f, rfl⟩
 (dsimp +instances only [Aa,Ab,Ac,Ad,Ae,Af,Ag])
 simp only [Int.toNat_natCast, he]
 cases f with
 | false =>
  (repeat first|refine Ret.p ?_|refine Ret.n ?_)
  exact Ret.some ⟨false, by simp [keepB]⟩
 | true =>
  (repeat first|refine Ret.p ?_|refine Ret.n ?_)
  exact Ret.some ⟨true, by simp [keepB]⟩
theorem r_RightBands (l : List (List G)) (a : Int) (ha : 0 ≤ a) (ha1 : a ≤ 800000) :
  Ret (F_mk_RightBands [.l l, .i a]) fun g => ∃ f0 f1 f2 f3, g = [.l l, .i (a + 4), .l (selB f0 f1 f2 f3)] := by
 have hk : ∀ f i, (keepB f i).length ≤ 1 := by
  intro f i
  cases f <;> simp [keepB]
 obtain ⟨_, s0, f0, rfl⟩ := right_step l a [] 0 ha (by omega) (by omega) (by simp)
 obtain ⟨_, s1, f1, rfl⟩ := right_step l (a + 1) ([] ++ keepB f0 0) 1 (by omega) (by omega) (by omega) (by have := hk f0 0; simp; omega)
 obtain ⟨_, s2, f2, rfl⟩ := right_step l (a + 1 + 1) (([] ++ keepB f0 0) ++ keepB f1 1) 2 (by omega) (by omega) (by omega) (by have := hk f0 0; have := hk f1 1; simp; omega)
 obtain ⟨_, s3, f3, rfl⟩ := right_step l (a + 1 + 1 + 1) ((([] ++ keepB f0 0) ++ keepB f1 1) ++ keepB f2 2) 3 (by omega) (by omega) (by omega) (by have := hk f0 0; have := hk f1 1; have := hk f2 2; simp; omega)
 have s4 : st_mk_RightBands_3 [.l l, .i (a + 1 + 1 + 1 + 1), .l (selB f0 f1 f2 f3), .l fourB, .i 4, .i ((3 + 1 : Nat) : Int)] = some (some 0, [.l l, .i (a + 1 + 1 + 1 + 1), .l (selB f0 f1 f2 f3)]) := by
  refine Ret.toEq ?_
  unfold st_mk_RightBands_3
  (dsimp +instances only [Aa,Ab,Ac,Ad,Ae,Af,Ag])
  (repeat first|refine Ret.p ?_|refine Ret.n ?_)
  exact Ret.some rfl
 unfold F_mk_RightBands
 (dsimp +instances only [Aa,Ab,Ac,Ad,Ae,Af,Ag])
 refine Ret.loop (P := fun c g => c = 0 ∧ g = [.l l, .i (a + 1 + 1 + 1 + 1), .l (selB f0 f1 f2 f3)]) ((RetN.next s0 (RetN.next s1 (RetN.next s2 (RetN.next s3 (RetN.stop (m := 1) s4 ⟨rfl, rfl⟩))))).to (by omega)) rfl ?_
 rintro _ _ ⟨rfl, rfl⟩
 (dsimp +instances only [Aa,Ab,Ac,Ad,Ae,Af,Ag])
 (repeat first|refine Ret.p ?_|refine Ret.n ?_)
 exact Ret.some ⟨f0, f1, f2, f3, by rw [show a + 1 + 1 + 1 + 1 = a + 4 from by omega]⟩
theorem selB_Bnd (f0 f1 f2 f3 : Bool) : ∀ z ∈ selB f0 f1 f2 f3, Bnd z := by
 have hk : ∀ f i, i < 4 → ∀ z ∈ keepB f i, Bnd z := by
  intro f i hi z hz
  have h4 : i = 0 ∨ i = 1 ∨ i = 2 ∨ i = 3 := by omega
  cases f with
  | true => simp [keepB] at hz
  | false =>
   simp only [keepB, cond_false, List.mem_singleton] at hz
   subst hz
   rcases h4 with rfl | rfl | rfl | rfl <;> exact ⟨_, _, _, rfl, by simp [bkeys], by unfold b50; omega, by unfold b50; omega⟩
 intro z hz
 unfold selB at hz
 simp only [List.nil_append, List.mem_append] at hz
 rcases hz with ((hz | hz) | hz) | hz
 ·exact hk _ _ (by omega) z hz
 ·exact hk _ _ (by omega) z hz
 ·exact hk _ _ (by omega) z hz
 ·exact hk _ _ (by omega) z hz
theorem selB_length (f0 f1 f2 f3 : Bool) : (selB f0 f1 f2 f3).length ≤ 4 := by
 cases f0 <;> cases f1 <;> cases f2 <;> cases f3 <;> simp [selB, keepB]
/-! ### Spots -/
def Spt (r : List G) : Prop := ∃ (t h : Int) (c y : ByteArray), r = [.i t, .i h, .s c, .s y] ∧ b50 t ∧ b50 h ∧ c ∈ calls ∧ y ∈ calls
theorem Spt.eta {r : List G} (h : Spt r) : gEta KSpot r = r := by
 obtain ⟨t, h, c, y, rfl, _⟩ := h
 rfl
theorem kdsT : Kds KSpot Spt := ⟨fun _ h => h.eta⟩
def zT : List G := [.i 0, .i 0, .s (⟨#[]⟩ : ByteArray), .s (⟨#[]⟩ : ByteArray)]
def ordT (r s : List G) : Int := or2 (cmpI (gi r 0).int (gi s 0).int) (or2 (cmpI (gi r 1).int (gi s 1).int) (or2 (cmpS (gi r 2).str (gi s 2).str) (cmpS (gi r 3).str (gi s 3).str)))
theorem or2_z {a b : Int} (h : or2 a b = 0) : a = 0 ∧ b = 0 := by
 unfold or2 at h
 split at h
 ·rename_i h1
  exact (h1 h).elim
 ·rename_i h1
  exact ⟨by simpa using h1, h⟩
theorem cmpBytes_v : ∀ a b : List UInt8, Lib.compareBytes a b = -1 ∨ Lib.compareBytes a b = 0 ∨ Lib.compareBytes a b = 1
 | [], [] => .inr (.inl rfl)
 | [], _ :: _ => .inl rfl
 | _ :: _, [] => .inr (.inr rfl)
 | a :: u, b :: v => by
  simp only [Lib.compareBytes]
  split
  ·exact .inl rfl
  ·split
   ·exact .inr (.inr rfl)
   ·exact cmpBytes_v u v
theorem cmpStrX (a b : ByteArray) : F_cmp_Compare_string [.s a, .s b] = some [.i (cmpS a b)] := by
 have hn : ∀ x : ByteArray, F_cmp_isNaN_string [.s x] = some [.t false] := fun x => by
  show some [G.t (!(x.toList == x.toList))] = _
  simp
 have hL : Op.bytesLess a.toList b.toList = decide (cmpS a b < 0) := by
  rw [less_eq, ByteArray.toList_eq, ByteArray.toList_eq]
  rfl
 unfold F_cmp_Compare_string
 (dsimp +instances only [Aa,Ab,Ac,Ad,Ae,Af,Ag])
 rw [hn a, hn b]
 simp only [str_eq, hL]
 show (bif decide (cmpS a b < 0) then some [G.i (-1)] else bif !(decide (cmpS a b < 0) || decide (cmpS a b = 0)) then some [G.i 1] else some [G.i 0]) = some [.i (cmpS a b)]
 have hv : cmpS a b = -1 ∨ cmpS a b = 0 ∨ cmpS a b = 1 := cmpBytes_v _ _
 rcases hv with h | h | h <;> rw [h] <;> rfl
theorem cmpTwoX (a b c d : ByteArray) : F_sl_Compare_string [.l [[.s a], [.s b]], .l [[.s c], [.s d]]] = some [.i (or2 (cmpS a c) (cmpS b d))] := by
 have s0 := two_step a b c d a c 0 _ (cmpStrX a c) (by omega) rfl rfl
 have s1 := two_step a b c d b d 1 _ (cmpStrX b d) (by omega) rfl rfl
 refine Ret.toEq ?_
 unfold F_sl_Compare_string or2
 (dsimp +instances only [Aa,Ab,Ac,Ad,Ae,Af,Ag])
 by_cases e1 : cmpS a c = 0
 ·rw [if_pos e1] at s0
  rw [if_neg (by simpa using e1)]
  by_cases e2 : cmpS b d = 0
  ·rw [if_pos e2] at s1
   refine Ret.loop (P := fun k g => k = 1 ∧ g = [.l [[.s a], [.s b]], .l [[.s c], [.s d]]]) (RetN.to (m := 3) (RetN.next s0 (RetN.next s1 (RetN.stop (x := 1) (Ret.toEq ?_) ⟨rfl, rfl⟩))) (by omega)) rfl ?_
   ·unfold st_sl_Compare_string_2
    (dsimp +instances only [Aa,Ab,Ac,Ad,Ae,Af,Ag])
    refine Ret.neg rfl (Ret.some rfl)
   ·rintro _ _ ⟨rfl, rfl⟩
    exact Ret.some (by rw [e2])
  ·rw [if_neg e2] at s1
   refine Ret.loop (P := fun k g => k = 0 ∧ g = [.i (cmpS b d)]) (RetN.to (m := 3) (RetN.next s0 (RetN.stop s1 ⟨rfl, rfl⟩)) (by omega)) rfl ?_
   rintro _ _ ⟨rfl, rfl⟩
   exact Ret.some rfl
 ·rw [if_neg e1] at s0
  rw [if_pos e1]
  refine Ret.loop (P := fun k g => k = 0 ∧ g = [.i (cmpS a c)]) (RetN.to (m := 3) (RetN.stop s0 ⟨rfl, rfl⟩) (by omega)) rfl ?_
  rintro _ _ ⟨rfl, rfl⟩
  exact Ret.some rfl
theorem spotOrder_eq (r s : List G) : F_r2_SpotOrder [.l [r], .l [s]] = some [.i (ordT r s)] := by
 refine Ret.toEq ?_
 unfold F_r2_SpotOrder
 (dsimp +instances only [Aa,Ab,Ac,Ad,Ae,Af,Ag])
 refine Ret.cE (cmp2_eq _ _ _ _) ?_
 (dsimp +instances only [Aa,Ab,Ac,Ad,Ae,Af,Ag])
 unfold ordT
 refine Ret.test (fun h => ?_) fun h => ?_
 ·have h : or2 (cmpI (gi r 0).int (gi s 0).int) (cmpI (gi r 1).int (gi s 1).int) ≠ 0 := by simpa using h
  refine Ret.some ?_
  unfold or2 at h ⊢
  by_cases h1 : cmpI (gi r 0).int (gi s 0).int = 0
  ·rw [if_neg (by simpa using h1)] at h
   simp [h1, h]
  ·simp [h1]
 ·have h : or2 (cmpI (gi r 0).int (gi s 0).int) (cmpI (gi r 1).int (gi s 1).int) = 0 := by simpa using h
  obtain ⟨h1, h2⟩ := or2_z h
  refine Ret.cE (cmpTwoX _ _ _ _) ?_
  refine Ret.some ?_
  rw [h1, h2]
  simp [or2, gi, G.int]
theorem or_fourT (a b c d : Int) : F_cmp_Or_int [.l [[.i a], [.i b], [.i c], [.i d]]] = some [.i (or2 a (or2 b (or2 c d)))] := by
 refine Ret.toEq ?_
 unfold F_cmp_Or_int
 (dsimp +instances only [Aa,Ab,Ac,Ad,Ae,Af,Ag])
 have h := or_runs [[.i a], [.i b], [.i c], [.i d]] [] (by simp)
 refine Ret.loop (h.to (by simp)) (by (first|rfl|assumption|(simp only [inI,sl]<;>omega))) ?_
 rintro x g ⟨hx, rfl⟩
 have q : orL [[.i a], [.i b], [.i c], [.i d]] = or2 a (or2 b (or2 c d)) := by
  simp only [orL, or2]
  (dsimp +instances only [Aa,Ab,Ac,Ad,Ae,Af,Ag])
  by_cases h1 : a = 0 <;> by_cases h2 : b = 0 <;> by_cases h3 : c = 0 <;> by_cases h4 : d = 0 <;> simp [h1, h2, h3, h4]
 rw [q]
 (dsimp +instances only [Aa,Ab,Ac,Ad,Ae,Af,Ag])
 exact Ret.test (fun _ => Ret.some rfl) fun _ => Ret.some rfl
theorem compareSpots_eq (r s : List G) : F_band_compareSpots [.l [r], .l [s]] = some [.i (ordT r s)] := by
 refine Ret.toEq ?_
 unfold F_band_compareSpots ordT
 (dsimp +instances only [Aa,Ab,Ac,Ad,Ae,Af,Ag])
 refine Ret.cE (cmpInt_eq _ _) ?_
 refine Ret.cE (cmpInt_eq _ _) ?_
 refine Ret.cE (rfl : F_strings_Compare [.s (gi r 2).str, .s (gi s 2).str] = some [.i (cmpS (gi r 2).str (gi s 2).str)]) ?_
 refine Ret.cE (rfl : F_strings_Compare [.s (gi r 3).str, .s (gi s 3).str] = some [.i (cmpS (gi r 3).str (gi s 3).str)]) ?_
 (dsimp +instances only [Aa,Ab,Ac,Ad,Ae,Af,Ag])
 refine Ret.cE (or_fourT _ _ _ _) ?_
 exact Ret.some rfl
theorem cmpSpots : Cmp KSpot F_r2_SpotOrder Spt ordT := ⟨fun _ _ _ _ => spotOrder_eq _ _, fun _ h => h.eta⟩
theorem sortSpots_eq (rows : List (List G)) (hr : ∀ y ∈ rows, Spt y) (hn : rows.length ≤ 20) : F_srtS_Spot [.l rows] = some [.l (sortA (ltC ordT) rows)] :=
 sortF_eq cmpSpots rows hr hn
theorem loop_Spots (l : List (List G)) (n : Nat) (hn : n ≤ 20) : ∀ (k i : Nat) (a t : Int) (acc : List (List G)), i + k = n → 0 ≤ a → a ≤ 800000 → 0 ≤ t → t ≤ 20 * (i : Int) → a + 20 * (k : Int) ≤ 800000 → (∀ z ∈ acc, Spt z) → acc.length = i →
  RetN st_mk_Spots_4 [.l l, .i a, .l acc, .i t, .i (n : Int), .i (i : Int)] (k + 1) fun c g => c = 0 ∧ ∃ b rows, g = [.l l, .i b, .l rows] ∧ a ≤ b ∧ b ≤ a + 20 * k ∧ (∀ z ∈ rows, Spt z) ∧ rows.length = n
 | 0, i, a, t, acc, hi, ha, ha1, ht, ht1, hb, hQ, hl => by
  refine RetN.stop (x := 0) (Ret.toEq ?_) ⟨rfl, a, acc, rfl, by omega, by omega, hQ, by omega⟩
  unfold st_mk_Spots_4
  (dsimp +instances only [Aa,Ab,Ac,Ad,Ae,Af,Ag])
  (repeat first|refine Ret.p ?_|refine Ret.n ?_)
  exact Ret.some rfl
 | k + 1, i, a, t, acc, hi, ha, ha1, ht, ht1, hb, hQ, hl => by
  have key : Ret (st_mk_Spots_4 [.l l, .i a, .l acc, .i t, .i (n : Int), .i (i : Int)]) fun o => ∃ b r v, o = (none, [.l l, .i b, .l (acc ++ [r]), .i (t + v), .i (n : Int), .i ((i : Int) + 1)]) ∧ a ≤ b ∧ b ≤ a + 20 ∧ Spt r ∧ 0 ≤ v ∧ v ≤ 20 := by
   unfold st_mk_Spots_4
   (dsimp +instances only [Aa,Ab,Ac,Ad,Ae,Af,Ag])
   refine Ret.p ?_
   refine Ret.call (r_PickB 0 20 l a _ ha (by omega) (by kernel_rfl) (by kernel_rfl)) ?_
   rintro _ ⟨v, rfl, hv0, hv1⟩
   (dsimp +instances only [Aa,Ab,Ac,Ad,Ae,Af,Ag])
   refine Ret.p ?_
   refine Ret.call (r_PickB 0 20000000 l _ _ (by omega) (by omega) (by kernel_rfl) (by kernel_rfl)) ?_
   rintro _ ⟨h, rfl, hh0, hh1⟩
   (dsimp +instances only [Aa,Ab,Ac,Ad,Ae,Af,Ag])
   refine Ret.call (r_ACall l _ (by omega) (by omega)) ?_
   rintro _ ⟨c, rfl, hc⟩
   (dsimp +instances only [Aa,Ab,Ac,Ad,Ae,Af,Ag])
   refine Ret.call (r_SomeB calls l _ _ (by omega) (by omega) (by kernel_rfl) (by kernel_rfl)) ?_
   rintro _ ⟨y, rfl, hy⟩
   (dsimp +instances only [Aa,Ab,Ac,Ad,Ae,Af,Ag])
   refine Ret.call (r_Flip l _ 80 (by omega) (by omega) (by omega) (by omega)) ?_
   rintro _ ⟨f, rfl⟩
   (dsimp +instances only [Aa,Ab,Ac,Ad,Ae,Af,Ag])
   cases f with
   | false =>
    (repeat first|refine Ret.p ?_|refine Ret.n ?_)
    exact Ret.some ⟨_, _, v, rfl, by omega, by omega, ⟨_, _, _, _, rfl, by unfold b50; omega, by unfold b50; omega, hc, hy⟩, hv0, hv1⟩
   | true =>
    refine Ret.pos rfl ?_
    refine Ret.call (r_OddX l _ 0 100 (by omega) (by omega) (by omega) (by omega) (by omega)) ?_
    rintro _ ⟨t', rfl, ht'⟩
    (dsimp +instances only [Aa,Ab,Ac,Ad,Ae,Af,Ag])
    refine Ret.call (r_OddX l _ 0 30000000000 (by omega) (by omega) (by omega) (by omega) (by omega)) ?_
    rintro _ ⟨h', rfl, hh'⟩
    (dsimp +instances only [Aa,Ab,Ac,Ad,Ae,Af,Ag])
    refine Ret.call (r_SomeB calls l _ _ (by omega) (by omega) (by kernel_rfl) (by kernel_rfl)) ?_
    rintro _ ⟨y', rfl, hy'⟩
    (dsimp +instances only [Aa,Ab,Ac,Ad,Ae,Af,Ag])
    (repeat first|refine Ret.p ?_|refine Ret.n ?_)
    unfold b40 at ht' hh'
    exact Ret.some ⟨_, _, v, rfl, by omega, by omega, ⟨_, _, _, _, rfl, by unfold b50; omega, by unfold b50; omega, hc, hy'⟩, hv0, hv1⟩
  obtain ⟨_, h, b, r, v, rfl, h1, h2, h3, h4, h5⟩ := key
  have ih := loop_Spots l n hn k (i + 1) b (t + v) (acc ++ [r]) (by omega) (by omega) (by omega) (by omega) (by omega) (by omega) (by
   intro z hz
   rcases List.mem_append.1 hz with hz | hz
   ·exact hQ z hz
   ·simp at hz; exact hz ▸ h3) (by simp [hl])
  refine RetN.next h (ih.mono ?_)
  rintro c g ⟨rfl, b', rows, rfl, q1, q2, q3, q4⟩
  exact ⟨rfl, b', rows, rfl, by omega, by omega, q3, q4⟩
theorem r_Spots (l : List (List G)) (a n : Int) (ha : 0 ≤ a) (ha1 : a ≤ 700000) (h0 : 0 ≤ n) (h1 : n ≤ 20) :
  Ret (F_mk_Spots [.l l, .i a, .i n]) fun g => ∃ b rows, g = [.l l, .i b, .l rows] ∧ a ≤ b ∧ b ≤ a + 400 ∧ (∀ z ∈ rows, Spt z) ∧ (rows.length : Int) ≤ n := by
 obtain ⟨n, rfl⟩ := Int.eq_ofNat_of_zero_le h0
 unfold F_mk_Spots
 (dsimp +instances only [Aa,Ab,Ac,Ad,Ae,Af,Ag])
 refine Ret.loop ((loop_Spots l n (by omega) n 0 a 0 [] (by omega) ha (by omega) (by omega) (by omega) (by omega) (by simp) rfl).to (by omega)) rfl ?_
 rintro c g ⟨rfl, b, rows, rfl, q1, q2, q3, q4⟩
 (dsimp +instances only [Aa,Ab,Ac,Ad,Ae,Af,Ag])
 have hs := sortA_all (lt := ltC ordT) q3
 have hsl := sortA_length (ltC ordT) rows
 refine Ret.callb (Ret.eq (sortSpots_eq rows q3 (by omega))) (by (first|rfl|assumption|(simp only [inI,sl]<;>omega))) ?_
 rintro _ rfl
 (dsimp +instances only [Aa,Ab,Ac,Ad,Ae,Af,Ag])
 refine Ret.callb (P := fun g => ∃ J, g = [.l (compact (rowEq KSpot) (sortA (ltC ordT) rows) ++ J), .i ((compact (rowEq KSpot) (sortA (ltC ordT) rows)).length : Int)] ∧ (compact (rowEq KSpot) (sortA (ltC ordT) rows) ++ J).length = (sortA (ltC ordT) rows).length)
  (cmpcF_eq (Z := zT) kdsT _ hs (by omega)) (by rw [hsl]; simp) ?_
 rintro _ ⟨J, rfl, hJ⟩
 have hle : (compact (rowEq KSpot) (sortA (ltC ordT) rows)).length ≤ (sortA (ltC ordT) rows).length := compact_length _ _
 (dsimp +instances only [Aa,Ab,Ac,Ad,Ae,Af,Ag])
 simp only [Int.toNat_natCast]
 refine Ret.pos (by simp [Nat.ble_eq]) (Ret.some ?_)
 exact ⟨b, compact (rowEq KSpot) (sortA (ltC ordT) rows), by simp, by omega, by omega, fun z hz => hs z (compact_mem hz), by omega⟩
theorem momentY (t : Int) : F_r2_Moment [.i t] = some [.t (inB t 0 345686399999)] := by
 unfold F_r2_Moment
 (dsimp +instances only [Aa,Ab,Ac,Ad,Ae,Af,Ag])
 rw [in_eq]
 rfl
theorem isMomentY (t : Int) : F_kit_IsMoment [.i t] = some [.t (inB t 0 345686399999)] := by
 unfold F_kit_IsMoment
 (dsimp +instances only [Aa,Ab,Ac,Ad,Ae,Af,Ag])
 rw [outside_eq]
 show some [G.t (!(!inB t 0 345686399999))] = _
 rw [Bool.not_not]
/-! ### Spots -/
def faultT1 (x : List G) : Int :=
 bif !inB (gi x 0).int 0 345686399999 then 1 else bif !inB (gi x 1).int 0 30000000000 then 1 else bif !okCall (gi x 2).str then 3 else bif !okCall (gi x 3).str then 3 else 0
def stepT (rows : List (List G)) (i : Nat) : Int :=
 if faultT1 (rows.getD i []) ≠ 0 then faultT1 (rows.getD i []) else if 0 < i ∧ 0 ≤ ordT (rows.getD (i - 1) []) (rows.getD i []) then 7 else 0
def faultSpots (rows : List (List G)) : Int := if 2000 < rows.length then 2 else fw (stepT rows) rows.length
theorem spotsFault_step (rows : List (List G)) (hr : ∀ z ∈ rows, Spt z) (hn : rows.length ≤ 3000) (i : Nat) (hi : i < rows.length) :
  Ret (st_r2_SpotsFault_4 [.l rows, .l rows, .i (rows.length : Int), .i (i : Int)]) fun o => (stepT rows i = 0 ∧ o = (none, [.l rows, .l rows, .i (rows.length : Int), .i ((i + 1 : Nat) : Int)])) ∨ (stepT rows i ≠ 0 ∧ o = (some 0, [.i (stepT rows i)])) := by
 obtain ⟨t, h, c, y, hx, ht, hh, hc, hy⟩ := hr _ (getD_row hi)
 have hC : Spt (rows.getD i []) := hr _ (getD_row hi)
 have ef : faultT1 (rows.getD i []) = bif !inB t 0 345686399999 then 1 else bif !inB h 0 30000000000 then 1 else bif !okCall c then 3 else bif !okCall y then 3 else 0 := by
  rw [hx]
  rfl
 unfold st_r2_SpotsFault_4
 (dsimp +instances only [Aa,Ab,Ac,Ad,Ae,Af,Ag])
 simp only [Int.toNat_natCast, hC.eta]
 have f0 : (gi (rows.getD i []) 0).int = t := by rw [hx]; rfl
 have f1 : (gi (rows.getD i []) 1).int = h := by rw [hx]; rfl
 have f2 : (gi (rows.getD i []) 2).str = c := by rw [hx]; rfl
 have f3 : (gi (rows.getD i []) 3).str = y := by rw [hx]; rfl
 simp only [f0, f1, f2, f3]
 refine Ret.p (Ret.p ?_)
 refine Ret.cE (momentY t) ?_
 (dsimp +instances only [Aa,Ab,Ac,Ad,Ae,Af,Ag])
 refine Ret.test (fun h => ?_) fun h10 => ?_
 ·have e : stepT rows i = 1 := by
   unfold stepT
   rw [ef, h]
   rfl
  rw [e]
  exact Ret.some (.inr ⟨by omega, rfl⟩)
 rw [h10, cond_false] at ef
 refine Ret.cE (in_eq h 0 30000000000) ?_
 (dsimp +instances only [Aa,Ab,Ac,Ad,Ae,Af,Ag])
 refine Ret.test (fun h => ?_) fun h11 => ?_
 ·have e : stepT rows i = 1 := by
   unfold stepT
   rw [ef, h]
   rfl
  rw [e]
  exact Ret.some (.inr ⟨by omega, rfl⟩)
 rw [h11, cond_false] at ef
 refine Ret.cE (call_eq hc) ?_
 (dsimp +instances only [Aa,Ab,Ac,Ad,Ae,Af,Ag])
 refine Ret.test (fun h => ?_) fun h12 => ?_
 ·have e : stepT rows i = 3 := by
   unfold stepT
   rw [ef, h]
   rfl
  rw [e]
  exact Ret.some (.inr ⟨by omega, rfl⟩)
 rw [h12, cond_false] at ef
 refine Ret.cE (call_eq hy) ?_
 (dsimp +instances only [Aa,Ab,Ac,Ad,Ae,Af,Ag])
 refine Ret.test (fun h => ?_) fun h13 => ?_
 ·have e : stepT rows i = 3 := by
   unfold stepT
   rw [ef, h]
   rfl
  rw [e]
  exact Ret.some (.inr ⟨by omega, rfl⟩)
 rw [h13, cond_false] at ef
 have e : stepT rows i = if 0 < i ∧ 0 ≤ ordT (rows.getD (i - 1) []) (rows.getD i []) then 7 else 0 := by
  unfold stepT
  rw [ef, if_neg (by simp)]
 refine Ret.test (fun h => ?_) fun h => ?_
 ·simp only [ltI_eq, decide_eq_true_eq] at h
  have ei : ((i : Int) - 1).toNat = i - 1 := by omega
  have hy : Spt (rows.getD (i - 1) []) := hr _ (getD_row (by omega))
  simp only [ei, hy.eta]
  refine Ret.p (Ret.p ?_)
  refine Ret.cE (spotOrder_eq _ _) ?_
  (dsimp +instances only [Aa,Ab,Ac,Ad,Ae,Af,Ag])
  refine Ret.test (fun h7 => ?_) fun h7 => ?_
  ·simp only [leI_eq, decide_eq_true_eq] at h7
   rw [if_pos ⟨by omega, h7⟩] at e
   rw [e]
   exact Ret.some (.inr ⟨by omega, rfl⟩)
  ·simp only [leI_eq, decide_eq_false_iff_not] at h7
   rw [if_neg (fun h' => h7 h'.2)] at e
   refine Ret.p (Ret.some (.inl ⟨e, rfl⟩))
 ·simp only [ltI_eq, decide_eq_false_iff_not] at h
  rw [if_neg (by omega)] at e
  refine Ret.p (Ret.some (.inl ⟨e, rfl⟩))
theorem checkSpots_step (rows : List (List G)) (hr : ∀ z ∈ rows, Spt z) (hn : rows.length ≤ 3000) (i : Nat) (hi : i < rows.length) :
  Ret (st_band_CheckSpots_4 [.l rows, .l rows, .i (rows.length : Int), .i (i : Int)]) fun o => (stepT rows i = 0 ∧ o = (none, [.l rows, .l rows, .i (rows.length : Int), .i ((i + 1 : Nat) : Int)])) ∨ (stepT rows i ≠ 0 ∧ o = (some 0, [.i (stepT rows i)])) := by
 obtain ⟨t, h, c, y, hx, ht, hh, hc, hy⟩ := hr _ (getD_row hi)
 have hC : Spt (rows.getD i []) := hr _ (getD_row hi)
 have ef : faultT1 (rows.getD i []) = bif !inB t 0 345686399999 then 1 else bif !inB h 0 30000000000 then 1 else bif !okCall c then 3 else bif !okCall y then 3 else 0 := by
  rw [hx]
  rfl
 unfold st_band_CheckSpots_4
 (dsimp +instances only [Aa,Ab,Ac,Ad,Ae,Af,Ag])
 simp only [Int.toNat_natCast, hC.eta]
 have f0 : (gi (rows.getD i []) 0).int = t := by rw [hx]; rfl
 have f1 : (gi (rows.getD i []) 1).int = h := by rw [hx]; rfl
 have f2 : (gi (rows.getD i []) 2).str = c := by rw [hx]; rfl
 have f3 : (gi (rows.getD i []) 3).str = y := by rw [hx]; rfl
 simp only [f0, f1, f2, f3]
 refine Ret.p (Ret.p ?_)
 refine Ret.cE (isMomentY t) ?_
 (dsimp +instances only [Aa,Ab,Ac,Ad,Ae,Af,Ag])
 refine Ret.test (fun h => ?_) fun h10 => ?_
 ·have e : stepT rows i = 1 := by
   unfold stepT
   rw [ef, h]
   rfl
  rw [e]
  exact Ret.some (.inr ⟨by omega, rfl⟩)
 rw [h10, cond_false] at ef
 refine Ret.cE (outside_eq h 0 30000000000) ?_
 (dsimp +instances only [Aa,Ab,Ac,Ad,Ae,Af,Ag])
 refine Ret.test (fun h => ?_) fun h11 => ?_
 ·have e : stepT rows i = 1 := by
   unfold stepT
   rw [ef, h]
   rfl
  rw [e]
  exact Ret.some (.inr ⟨by omega, rfl⟩)
 rw [h11, cond_false] at ef
 refine Ret.cE (isCall_eq hc) ?_
 (dsimp +instances only [Aa,Ab,Ac,Ad,Ae,Af,Ag])
 refine Ret.test (fun h => ?_) fun h12 => ?_
 ·have e : stepT rows i = 3 := by
   unfold stepT
   rw [ef, h]
   rfl
  rw [e]
  exact Ret.some (.inr ⟨by omega, rfl⟩)
 rw [h12, cond_false] at ef
 refine Ret.cE (isCall_eq hy) ?_
 (dsimp +instances only [Aa,Ab,Ac,Ad,Ae,Af,Ag])
 refine Ret.test (fun h => ?_) fun h13 => ?_
 ·have e : stepT rows i = 3 := by
   unfold stepT
   rw [ef, h]
   rfl
  rw [e]
  exact Ret.some (.inr ⟨by omega, rfl⟩)
 rw [h13, cond_false] at ef
 have e : stepT rows i = if 0 < i ∧ 0 ≤ ordT (rows.getD (i - 1) []) (rows.getD i []) then 7 else 0 := by
  unfold stepT
  rw [ef, if_neg (by simp)]
 refine Ret.test (fun h => ?_) fun h => ?_
 ·simp only [ltI_eq, decide_eq_true_eq] at h
  have ei : ((i : Int) - 1).toNat = i - 1 := by omega
  have hy : Spt (rows.getD (i - 1) []) := hr _ (getD_row (by omega))
  simp only [ei, hy.eta]
  refine Ret.p (Ret.p ?_)
  refine Ret.cE (compareSpots_eq _ _) ?_
  (dsimp +instances only [Aa,Ab,Ac,Ad,Ae,Af,Ag])
  refine Ret.test (fun h7 => ?_) fun h7 => ?_
  ·simp only [leI_eq, decide_eq_true_eq] at h7
   rw [if_pos ⟨by omega, h7⟩] at e
   rw [e]
   exact Ret.some (.inr ⟨by omega, rfl⟩)
  ·simp only [leI_eq, decide_eq_false_iff_not] at h7
   rw [if_neg (fun h' => h7 h'.2)] at e
   refine Ret.p (Ret.some (.inl ⟨e, rfl⟩))
 ·simp only [ltI_eq, decide_eq_false_iff_not] at h
  rw [if_neg (by omega)] at e
  refine Ret.p (Ret.some (.inl ⟨e, rfl⟩))
theorem spotsFault_ok (rows : List (List G)) (hr : ∀ z ∈ rows, Spt z) : F_r2_SpotsFault [.l rows] = some [.i (faultSpots rows)] := by
 refine Ret.toEq ?_
 unfold F_r2_SpotsFault faultSpots
 (dsimp +instances only [Aa,Ab,Ac,Ad,Ae,Af,Ag])
 by_cases hn : 2000 < rows.length
 ·refine Ret.p ?_
  rw [if_pos hn]
  exact Ret.some rfl
 ·refine Ret.n ?_
  rw [if_neg hn]
  refine Ret.loop (fw_loop (fun i => [.l rows, .l rows, .i (rows.length : Int), .i (i : Int)]) rows.length (stepT rows) [] (by omega) (spotsFault_step rows hr (by omega)) ?_) rfl ?_
  ·unfold st_r2_SpotsFault_4
   (dsimp +instances only [Aa,Ab,Ac,Ad,Ae,Af,Ag])
   (repeat first|refine Ret.p ?_|refine Ret.n ?_)
   exact Ret.some rfl
  ·rintro _ _ (⟨rfl, h, rfl⟩ | ⟨rfl, rfl, _⟩)
   ·rw [h]
    exact Ret.some rfl
   ·exact Ret.some rfl
theorem checkSpots_ok (rows : List (List G)) (hr : ∀ z ∈ rows, Spt z) : F_band_CheckSpots [.l rows] = some [.i (faultSpots rows)] := by
 refine Ret.toEq ?_
 unfold F_band_CheckSpots faultSpots
 (dsimp +instances only [Aa,Ab,Ac,Ad,Ae,Af,Ag])
 by_cases hn : 2000 < rows.length
 ·refine Ret.p ?_
  rw [if_pos hn]
  exact Ret.some rfl
 ·refine Ret.n ?_
  rw [if_neg hn]
  refine Ret.loop (fw_loop (fun i => [.l rows, .l rows, .i (rows.length : Int), .i (i : Int)]) rows.length (stepT rows) [] (by omega) (checkSpots_step rows hr (by omega)) ?_) rfl ?_
  ·unfold st_band_CheckSpots_4
   (dsimp +instances only [Aa,Ab,Ac,Ad,Ae,Af,Ag])
   (repeat first|refine Ret.p ?_|refine Ret.n ?_)
   exact Ret.some rfl
  ·rintro _ _ (⟨rfl, h, rfl⟩ | ⟨rfl, rfl, _⟩)
   ·rw [h]
    exact Ret.some rfl
   ·exact Ret.some rfl
/-! ### Bands -/
def faultBn1 (x : List G) : Int :=
 bif !okB (gi x 0).str then 5 else bif !inB (gi x 1).int 0 30000000000 then 1 else bif !inB (gi x 2).int ((gi x 1).int + 1) 30000000000 then 1 else bif (Int.tmod (gi x 1).int 1000 != 0) then 1 else bif (Int.tmod (gi x 2).int 1000 != 0) then 1 else 0
def stepBn (rows : List (List G)) (i : Nat) : Int :=
 if faultBn1 (rows.getD i []) ≠ 0 then faultBn1 (rows.getD i []) else if 0 < i ∧ (gi (rows.getD i []) 1).int < (gi (rows.getD (i - 1) []) 2).int then 7 else 0
def twiceB (rows : List (List G)) (i : Nat) : Int := bif (rows.take i).any (fun o => (gi o 0).str.toList == (gi (rows.getD i []) 0).str.toList) then 6 else 0
def faultBands (rows : List (List G)) : Int := if 30 < rows.length then 2 else if fw (stepBn rows) rows.length ≠ 0 then fw (stepBn rows) rows.length else fw (twiceB rows) rows.length
theorem checkBands_step (rows : List (List G)) (hr : ∀ z ∈ rows, Bnd z) (hn : rows.length ≤ 3000) (i : Nat) (hi : i < rows.length) :
  Ret (st_log_CheckBands_4 [.l rows, .l rows, .i (rows.length : Int), .i (i : Int)]) fun o => (stepBn rows i = 0 ∧ o = (none, [.l rows, .l rows, .i (rows.length : Int), .i ((i + 1 : Nat) : Int)])) ∨ (stepBn rows i ≠ 0 ∧ o = (some 0, [.i (stepBn rows i)])) := by
 obtain ⟨k, lo, hi2, hx, hk, hlo, hhi⟩ := hr _ (getD_row hi)
 have hC : Bnd (rows.getD i []) := hr _ (getD_row hi)
 have ef : faultBn1 (rows.getD i []) = bif !okB k then 5 else bif !inB lo 0 30000000000 then 1 else bif !inB hi2 (lo + 1) 30000000000 then 1 else bif (Int.tmod lo 1000 != 0) then 1 else bif (Int.tmod hi2 1000 != 0) then 1 else 0 := by
  rw [hx]
  rfl
 unfold st_log_CheckBands_4
 (dsimp +instances only [Aa,Ab,Ac,Ad,Ae,Af,Ag])
 simp only [Int.toNat_natCast, hC.eta]
 have f0 : (gi (rows.getD i []) 0).str = k := by rw [hx]; rfl
 have f1 : (gi (rows.getD i []) 1).int = lo := by rw [hx]; rfl
 have f2 : (gi (rows.getD i []) 2).int = hi2 := by rw [hx]; rfl
 simp only [f0, f1, f2]
 refine Ret.p (Ret.p ?_)
 refine Ret.cE (isKeyB hk) ?_
 (dsimp +instances only [Aa,Ab,Ac,Ad,Ae,Af,Ag])
 refine Ret.test (fun h => ?_) fun h10 => ?_
 ·have e : stepBn rows i = 5 := by
   unfold stepBn
   rw [ef, h]
   rfl
  rw [e]
  exact Ret.some (.inr ⟨by omega, rfl⟩)
 rw [h10, cond_false] at ef
 refine Ret.cE (outside_eq lo 0 30000000000) ?_
 (dsimp +instances only [Aa,Ab,Ac,Ad,Ae,Af,Ag])
 refine Ret.test (fun h => ?_) fun h11 => ?_
 ·have e : stepBn rows i = 1 := by
   unfold stepBn
   rw [ef, h]
   rfl
  rw [e]
  exact Ret.some (.inr ⟨by omega, rfl⟩)
 rw [h11, cond_false] at ef
 have bad : ((!inB hi2 (lo + 1) 30000000000) = true ∨ (Int.tmod lo 1000 != 0) = true ∨ (Int.tmod hi2 1000 != 0) = true) → stepBn rows i = 1 := by
  intro h
  unfold stepBn
  rw [ef]
  rcases h with h | h | h
  ·rw [h]
   rfl
  ·rw [h]
   cases !inB hi2 (lo + 1) 30000000000 <;> rfl
  ·rw [h]
   cases !inB hi2 (lo + 1) 30000000000 <;> cases (Int.tmod lo 1000 != 0) <;> rfl
 have out : stepBn rows i = 1 → Ret (some (some 0, [G.i 1]) : Option (Option Nat × List G)) (fun o => (stepBn rows i = 0 ∧ o = (none, [.l rows, .l rows, .i (rows.length : Int), .i ((i + 1 : Nat) : Int)])) ∨ (stepBn rows i ≠ 0 ∧ o = (some 0, [.i (stepBn rows i)]))) := by
  intro e
  rw [e]
  exact Ret.some (.inr ⟨by omega, rfl⟩)
 have hlo0 : 0 ≤ lo := by
  have h := h11
  simp only [inB, leI_eq, Bool.not_eq_false', Bool.and_eq_true, decide_eq_true_eq] at h
  exact h.1
 refine Ret.cE (outside_eq hi2 0 30000000000) ?_
 (dsimp +instances only [Aa,Ab,Ac,Ad,Ae,Af,Ag])
 refine Ret.test (fun h => out (bad (.inl ?_))) fun h12 => ?_
 ·simp only [inB, leI_eq, Bool.not_eq_true', Bool.and_eq_false_iff, decide_eq_false_iff_not] at h ⊢
  omega
 refine Ret.test (fun h => out (bad (.inr (.inl h)))) fun h13 => ?_
 refine Ret.test (fun h => out (bad (.inr (.inr h)))) fun h14 => ?_
 refine Ret.test (fun h => out (bad (.inl ?_))) fun h15 => ?_
 ·simp only [inB, leI_eq, Bool.not_eq_true', Bool.and_eq_false_iff, decide_eq_false_iff_not, decide_eq_true_eq] at h ⊢
  omega
 have h16 : (!inB hi2 (lo + 1) 30000000000) = false := by
  simp only [inB, leI_eq, Bool.not_eq_false', Bool.and_eq_true, decide_eq_true_eq, decide_eq_false_iff_not] at h12 h15 ⊢
  omega
 rw [h16, cond_false, h13, cond_false, h14, cond_false] at ef
 have e : stepBn rows i = if 0 < i ∧ lo < (gi (rows.getD (i - 1) []) 2).int then 7 else 0 := by
  unfold stepBn
  rw [ef, if_neg (by simp), f1]
 refine Ret.test (fun h => ?_) fun h => ?_
 ·simp only [ltI_eq, decide_eq_true_eq] at h
  have ei : ((i : Int) - 1).toNat = i - 1 := by omega
  simp only [ei]
  refine Ret.p (Ret.p ?_)
  refine Ret.test (fun h7 => ?_) fun h7 => ?_
  ·simp only [ltI_eq, decide_eq_true_eq] at h7
   rw [if_pos ⟨by omega, h7⟩] at e
   rw [e]
   exact Ret.some (.inr ⟨by omega, rfl⟩)
  ·simp only [ltI_eq, decide_eq_false_iff_not] at h7
   rw [if_neg (fun h' => h7 h'.2)] at e
   refine Ret.p (Ret.some (.inl ⟨e, rfl⟩))
 ·simp only [ltI_eq, decide_eq_false_iff_not] at h
  rw [if_neg (by omega)] at e
  refine Ret.p (Ret.some (.inl ⟨e, rfl⟩))
theorem prdTwice {c : List G} (hc : Bnd c) : Prd KBand F_log_CheckBands_1 (fun g => .l [gEta KBand g.row]) (.l [c]) Bnd (fun o => (gi o 0).str.toList == (gi c 0).str.toList) :=
 ⟨fun r hr => by
  refine Ret.toEq ?_
  unfold F_log_CheckBands_1
  (dsimp +instances only [Aa,Ab,Ac,Ad,Ae,Af,Ag])
  exact Ret.some rfl, fun _ h => h.eta, by rw [Ac, hc.eta]⟩
def zBand : List G := [.s (⟨#[]⟩ : ByteArray), .i 0, .i 0]
theorem any_index {p : List G → Bool} {rows : List (List G)} {g : List G} (h : (∃ q1 x q2, rows = q1 ++ x :: q2 ∧ (∀ y ∈ q1, p y = false) ∧ p x = true ∧ g = [.i (q1.length : Int)]) ∨ (∀ y ∈ rows, p y = false) ∧ g = [.i (-1)]) : g = [.i (gi g 0).int] ∧ leI 0 (gi g 0).int = rows.any p := by
 rcases h with ⟨q1, x, q2, h1, h2, h3, rfl⟩ | ⟨h, rfl⟩
 ·refine ⟨rfl, ?_⟩
  rw [h1]
  simp [leI_eq, h3, Aa, Ae]
 ·refine ⟨rfl, ?_⟩
  have : rows.any p = false := by
   rw [List.any_eq_false]
   intro y hy
   rw [h y hy]
   simp
  rw [this]
  rfl
theorem containsTwice (l : List (List G)) {c : List G} (hl : ∀ z ∈ l, Bnd z) (hc : Bnd c) (hn : l.length < 100000) : F_sl_ContainsFunc_Band [.l l, .l [c]] = some [.t (l.any fun o => (gi o 0).str.toList == (gi c 0).str.toList)] := by
 refine Ret.toEq ?_
 unfold F_sl_ContainsFunc_Band
 (dsimp +instances only [Aa,Ab,Ac,Ad,Ae,Af,Ag])
 rw [hc.eta]
 refine Ret.call (P := fun g => g = [.i (gi g 0).int] ∧ leI 0 (gi g 0).int = l.any fun o => (gi o 0).str.toList == (gi c 0).str.toList) ?_ ?_
 ·exact Ret.mono (indexfF_eq (Z := zBand) (prdTwice hc) l hl hn : Ret (F_sl_IndexFunc_Band [.l l, .l [c]]) _) fun g h => any_index h
 ·rintro g ⟨_, h⟩
  rw [← h]
  exact Ret.some rfl
theorem checkTwice_step (rows : List (List G)) (hr : ∀ z ∈ rows, Bnd z) (hn : rows.length ≤ 3000) (i : Nat) (hi : i < rows.length) :
  Ret (st_log_CheckBands_14 [.l rows, .l rows, .i (rows.length : Int), .i (i : Int)]) fun o => (twiceB rows i = 0 ∧ o = (none, [.l rows, .l rows, .i (rows.length : Int), .i ((i + 1 : Nat) : Int)])) ∨ (twiceB rows i ≠ 0 ∧ o = (some 0, [.i (twiceB rows i)])) := by
 have hC : Bnd (rows.getD i []) := hr _ (getD_row hi)
 have hT : ∀ z ∈ rows.take i, Bnd z := fun z hz => hr z (List.mem_of_mem_take hz)
 have hl : (rows.take i).length ≤ 3000 := by rw [List.length_take]; omega
 unfold st_log_CheckBands_14
 (dsimp +instances only [Aa,Ab,Ac,Ad,Ae,Af,Ag])
 simp only [Int.toNat_natCast, hC.eta]
 refine Ret.p (Ret.p (Ret.p ?_))
 refine Ret.cE (containsTwice (rows.take i) hT hC (by omega)) ?_
 (dsimp +instances only [Aa,Ab,Ac,Ad,Ae,Af,Ag])
 have e : twiceB rows i = bif (rows.take i).any (fun o => (gi o 0).str.toList == (gi (rows.getD i []) 0).str.toList) then 6 else 0 := rfl
 refine Ret.test (fun h => ?_) fun h => ?_
 ·rw [h, cond_true] at e
  rw [e]
  exact Ret.some (.inr ⟨by omega, rfl⟩)
 ·rw [h, cond_false] at e
  refine Ret.p (Ret.some (.inl ⟨e, rfl⟩))
theorem checkBands_ok (rows : List (List G)) (hr : ∀ z ∈ rows, Bnd z) : F_log_CheckBands [.l rows] = some [.i (faultBands rows)] := by
 refine Ret.toEq ?_
 unfold F_log_CheckBands faultBands
 (dsimp +instances only [Aa,Ab,Ac,Ad,Ae,Af,Ag])
 by_cases hn : 30 < rows.length
 ·refine Ret.p ?_
  rw [if_pos hn]
  exact Ret.some rfl
 ·refine Ret.n ?_
  rw [if_neg hn]
  refine Ret.loop (fw_loop (fun i => [.l rows, .l rows, .i (rows.length : Int), .i (i : Int)]) rows.length (stepBn rows) [.l rows] (by omega) (checkBands_step rows hr (by omega)) ?_) rfl ?_
  ·unfold st_log_CheckBands_4
   (dsimp +instances only [Aa,Ab,Ac,Ad,Ae,Af,Ag])
   (repeat first|refine Ret.p ?_|refine Ret.n ?_)
   exact Ret.some rfl
  ·rintro _ _ (⟨rfl, h, rfl⟩ | ⟨rfl, rfl, hne⟩)
   ·rw [if_neg (by rw [h]; simp)]
    (dsimp +instances only [Aa,Ab,Ac,Ad,Ae,Af,Ag])
    refine Ret.neg rfl ?_
    refine Ret.loop (fw_loop (fun i => [.l rows, .l rows, .i (rows.length : Int), .i (i : Int)]) rows.length (twiceB rows) [] (by omega) (checkTwice_step rows hr (by omega)) ?_) rfl ?_
    ·unfold st_log_CheckBands_14
     (dsimp +instances only [Aa,Ab,Ac,Ad,Ae,Af,Ag])
     (repeat first|refine Ret.p ?_|refine Ret.n ?_)
     exact Ret.some rfl
    ·rintro _ _ (⟨rfl, h, rfl⟩ | ⟨rfl, rfl, _⟩)
     ·rw [h]
      exact Ret.some rfl
     ·exact Ret.some rfl
   ·rw [if_pos hne]
    exact Ret.some rfl
/-! ### Reversing -/
theorem revT_runs : ∀ (n : Nat) (mid p q : List (List G)), mid.length ≤ n → (∀ z ∈ mid, Spt z) → p.length + mid.length + q.length < 100000 →
  RetN st_sl_Reverse_Spot_1 [.l (p ++ mid ++ q), .i (p.length : Int), .i ((p.length : Int) + (mid.length : Int) - 1)] (n + 1) fun c g => c = 0 ∧ g = [.l (p ++ mid.reverse ++ q)]
 | n, [], p, q, _, _, hl => by
  refine RetN.stop (x := 0) (Ret.toEq ?_) ⟨rfl, rfl⟩
  unfold st_sl_Reverse_Spot_1
  (dsimp +instances only [Aa,Ab,Ac,Ad,Ae,Af,Ag])
  refine Ret.neg (by simp only [List.length_nil, ltI_eq, decide_eq_false_iff_not]; omega) ?_
  exact Ret.some (by simp)
 | n, [x], p, q, _, _, hl => by
  refine RetN.stop (x := 0) (Ret.toEq ?_) ⟨rfl, rfl⟩
  unfold st_sl_Reverse_Spot_1
  (dsimp +instances only [Aa,Ab,Ac,Ad,Ae,Af,Ag])
  refine Ret.neg (by simp only [List.length_cons, List.length_nil, ltI_eq, decide_eq_false_iff_not]; omega) ?_
  exact Ret.some (by simp)
 | 0, x :: y0 :: m0, p, q, h, _, _ => by simp at h
 | n + 1, x :: y0 :: m0, p, q, h, hQ, hl => by
  obtain ⟨m, y, e⟩ : ∃ m y, y0 :: m0 = m ++ [y] := ⟨(y0 :: m0).dropLast, (y0 :: m0).getLast (by simp), (List.dropLast_concat_getLast (by simp)).symm⟩
  rw [e] at h hQ hl ⊢
  have hx : Spt x := hQ x (by simp)
  have hy : Spt y := hQ y (by simp)
  simp only [List.length_cons, List.length_append, List.length_nil] at h hl ⊢
  have ih := revT_runs n m (p ++ [y]) (x :: q) (by omega) (fun z hz => hQ z (by simp [hz])) (by simp; omega)
  have e1 : p ++ x :: (m ++ [y]) ++ q = p ++ x :: (m ++ y :: q) := by simp
  have e2 : p ++ x :: (m ++ y :: q) = (p ++ x :: m) ++ y :: q := by simp
  have ji : ((p.length : Int) + ((m.length + (0 + 1) + 1 : Nat) : Int) - 1).toNat = (p ++ x :: m).length := by simp; omega
  have g1 : (p ++ x :: (m ++ y :: q)).getD p.length [] = x := getD_mid _ _ _ _ _ rfl
  have g2 : (p ++ x :: (m ++ y :: q)).getD (p ++ x :: m).length [] = y := by rw [e2]; exact getD_mid _ _ _ _ _ rfl
  have s1 : (p ++ x :: (m ++ y :: q)).set p.length y = p ++ y :: (m ++ y :: q) := set_mid _ _ _ _ _ rfl
  have e3 : p ++ y :: (m ++ y :: q) = (p ++ y :: m) ++ y :: q := by simp
  have ll : (p ++ x :: m).length = (p ++ y :: m).length := by simp
  have s2 : (p ++ y :: (m ++ y :: q)).set (p ++ x :: m).length x = (p ++ y :: m) ++ x :: q := by rw [e3, ll]; exact set_mid _ _ _ _ _ rfl
  have g3 : (p ++ y :: (m ++ y :: q)).getD (p ++ x :: m).length [] = y := by rw [e3, ll]; exact getD_mid _ _ _ _ _ rfl
  have n1 : (p ++ x :: (m ++ y :: q)).length = p.length + m.length + q.length + 2 := by simp; omega
  have n2 : (p ++ y :: (m ++ y :: q)).length = p.length + m.length + q.length + 2 := by simp; omega
  have n3 : ((p ++ y :: m) ++ x :: q).length = p.length + m.length + q.length + 2 := by simp; omega
  have n4 : (p ++ x :: m).length = p.length + m.length + 1 := by simp; omega
  have kx : x.length = KSpot.length := by rw [← hx.eta, gEta_length]
  have ky : y.length = KSpot.length := by rw [← hy.eta, gEta_length]
  refine RetN.next (d1 := [.l ((p ++ [y]) ++ m ++ (x :: q)), .i (((p ++ [y]).length : Nat) : Int), .i ((((p ++ [y]).length : Nat) : Int) + (m.length : Int) - 1)]) (Ret.toEq ?_) (ih.mono ?_)
  ·rw [e1]
   unfold st_sl_Reverse_Spot_1
   (dsimp +instances only [Aa,Ab,Ac,Ad,Ae,Af,Ag])
   simp only [Nat.zero_add, Int.toNat_natCast, ji, g1, g2, hx.eta, hy.eta, putG_all kx, putG_all ky, s1, g3, s2, n1, n2, n3]
   (repeat first|refine Ret.p ?_|refine Ret.n ?_)
   refine Ret.some ?_
   rw [show p ++ [y] ++ m ++ x :: q = p ++ y :: m ++ x :: q from by simp, show (((p ++ [y]).length : Nat) : Int) = (p.length : Int) + 1 from by simp, show (p.length : Int) + 1 + (m.length : Int) - 1 = (p.length : Int) + ((m.length + (0 + 1) + 1 : Nat) : Int) - 1 - 1 from by omega]
  ·rintro c g ⟨rfl, rfl⟩
   exact ⟨rfl, by simp⟩
theorem revT_eq (rows : List (List G)) (hr : ∀ z ∈ rows, Spt z) (hn : rows.length < 90000) : F_sl_Reverse_Spot [.l rows] = some [.l rows.reverse] := by
 refine Ret.toEq ?_
 unfold F_sl_Reverse_Spot
 (dsimp +instances only [Aa,Ab,Ac,Ad,Ae,Af,Ag])
 refine Ret.p ?_
 have h := revT_runs rows.length rows [] [] (Nat.le_refl _) hr (by simp; omega)
 simp only [List.nil_append, List.append_nil, List.length_nil] at h
 have e : ((0 : Nat) : Int) + (rows.length : Int) - 1 = (rows.length : Int) - 1 := by omega
 rw [e] at h
 refine Ret.loop (h.to (by omega)) (by (first|rfl|assumption|(simp only [inI,sl]<;>omega))) ?_
 rintro _ _ ⟨rfl, rfl⟩
 (dsimp +instances only [Aa,Ab,Ac,Ad,Ae,Af,Ag])
 (repeat first|refine Ret.p ?_|refine Ret.n ?_)
 exact Ret.some rfl
def Int1 (r : List G) : Prop := ∃ n : Int, r = [.i n]
theorem revI_runs : ∀ (n : Nat) (mid p q : List (List G)), mid.length ≤ n → (∀ z ∈ mid, Int1 z) → p.length + mid.length + q.length < 100000 →
  RetN st_sl_Reverse_int_1 [.l (p ++ mid ++ q), .i (p.length : Int), .i ((p.length : Int) + (mid.length : Int) - 1)] (n + 1) fun c g => c = 0 ∧ g = [.l (p ++ mid.reverse ++ q)]
 | n, [], p, q, _, _, hl => by
  refine RetN.stop (x := 0) (Ret.toEq ?_) ⟨rfl, rfl⟩
  unfold st_sl_Reverse_int_1
  (dsimp +instances only [Aa,Ab,Ac,Ad,Ae,Af,Ag])
  refine Ret.neg (by simp only [List.length_nil, ltI_eq, decide_eq_false_iff_not]; omega) ?_
  exact Ret.some (by simp)
 | n, [x], p, q, _, _, hl => by
  refine RetN.stop (x := 0) (Ret.toEq ?_) ⟨rfl, rfl⟩
  unfold st_sl_Reverse_int_1
  (dsimp +instances only [Aa,Ab,Ac,Ad,Ae,Af,Ag])
  refine Ret.neg (by simp only [List.length_cons, List.length_nil, ltI_eq, decide_eq_false_iff_not]; omega) ?_
  exact Ret.some (by simp)
 | 0, x :: y0 :: m0, p, q, h, _, _ => by simp at h
 | n + 1, x :: y0 :: m0, p, q, h, hQ, hl => by
  obtain ⟨m, y, e⟩ : ∃ m y, y0 :: m0 = m ++ [y] := ⟨(y0 :: m0).dropLast, (y0 :: m0).getLast (by simp), (List.dropLast_concat_getLast (by simp)).symm⟩
  rw [e] at h hQ hl ⊢
  have hx : Int1 x := hQ x (by simp)
  have hy : Int1 y := hQ y (by simp)
  simp only [List.length_cons, List.length_append, List.length_nil] at h hl ⊢
  have ih := revI_runs n m (p ++ [y]) (x :: q) (by omega) (fun z hz => hQ z (by simp [hz])) (by simp; omega)
  have e1 : p ++ x :: (m ++ [y]) ++ q = p ++ x :: (m ++ y :: q) := by simp
  have e2 : p ++ x :: (m ++ y :: q) = (p ++ x :: m) ++ y :: q := by simp
  have ji : ((p.length : Int) + ((m.length + (0 + 1) + 1 : Nat) : Int) - 1).toNat = (p ++ x :: m).length := by simp; omega
  have g1 : (p ++ x :: (m ++ y :: q)).getD p.length [] = x := getD_mid _ _ _ _ _ rfl
  have g2 : (p ++ x :: (m ++ y :: q)).getD (p ++ x :: m).length [] = y := by rw [e2]; exact getD_mid _ _ _ _ _ rfl
  have s1 : (p ++ x :: (m ++ y :: q)).set p.length y = p ++ y :: (m ++ y :: q) := set_mid _ _ _ _ _ rfl
  have e3 : p ++ y :: (m ++ y :: q) = (p ++ y :: m) ++ y :: q := by simp
  have ll : (p ++ x :: m).length = (p ++ y :: m).length := by simp
  have s2 : (p ++ y :: (m ++ y :: q)).set (p ++ x :: m).length x = (p ++ y :: m) ++ x :: q := by rw [e3, ll]; exact set_mid _ _ _ _ _ rfl
  have g3 : (p ++ y :: (m ++ y :: q)).getD (p ++ x :: m).length [] = y := by rw [e3, ll]; exact getD_mid _ _ _ _ _ rfl
  have n1 : (p ++ x :: (m ++ y :: q)).length = p.length + m.length + q.length + 2 := by simp; omega
  have n2 : (p ++ y :: (m ++ y :: q)).length = p.length + m.length + q.length + 2 := by simp; omega
  have n3 : ((p ++ y :: m) ++ x :: q).length = p.length + m.length + q.length + 2 := by simp; omega
  have n4 : (p ++ x :: m).length = p.length + m.length + 1 := by simp; omega
  obtain ⟨vx, ex⟩ := hx
  obtain ⟨vy, ey⟩ := hy
  have i1 : (gi x 0).int = vx := by rw [ex]; rfl
  have i2 : (gi y 0).int = vy := by rw [ey]; rfl
  have q1 : putG [Kd.int .i64] x 0 [.i vy] = y := by rw [ex, ey]; rfl
  have q2 : putG [Kd.int .i64] y 0 [.i vx] = x := by rw [ex, ey]; rfl
  refine RetN.next (d1 := [.l ((p ++ [y]) ++ m ++ (x :: q)), .i (((p ++ [y]).length : Nat) : Int), .i ((((p ++ [y]).length : Nat) : Int) + (m.length : Int) - 1)]) (Ret.toEq ?_) (ih.mono ?_)
  ·rw [e1]
   unfold st_sl_Reverse_int_1
   (dsimp +instances only [Aa,Ab,Ac,Ad,Ae,Af,Ag])
   simp only [Nat.zero_add, Int.toNat_natCast, ji, g1, g2, i1, i2, q1, q2, s1, g3, s2, n1, n2, n3]
   (repeat first|refine Ret.p ?_|refine Ret.n ?_)
   refine Ret.some ?_
   rw [show p ++ [y] ++ m ++ x :: q = p ++ y :: m ++ x :: q from by simp, show (((p ++ [y]).length : Nat) : Int) = (p.length : Int) + 1 from by simp, show (p.length : Int) + 1 + (m.length : Int) - 1 = (p.length : Int) + ((m.length + (0 + 1) + 1 : Nat) : Int) - 1 - 1 from by omega]
  ·rintro c g ⟨rfl, rfl⟩
   exact ⟨rfl, by simp⟩
theorem revI_eq (rows : List (List G)) (hr : ∀ z ∈ rows, Int1 z) (hn : rows.length < 90000) : F_sl_Reverse_int [.l rows] = some [.l rows.reverse] := by
 refine Ret.toEq ?_
 unfold F_sl_Reverse_int
 (dsimp +instances only [Aa,Ab,Ac,Ad,Ae,Af,Ag])
 refine Ret.p ?_
 have h := revI_runs rows.length rows [] [] (Nat.le_refl _) hr (by simp; omega)
 simp only [List.nil_append, List.append_nil, List.length_nil] at h
 have e : ((0 : Nat) : Int) + (rows.length : Int) - 1 = (rows.length : Int) - 1 := by omega
 rw [e] at h
 refine Ret.loop (h.to (by omega)) (by (first|rfl|assumption|(simp only [inI,sl]<;>omega))) ?_
 rintro _ _ ⟨rfl, rfl⟩
 (dsimp +instances only [Aa,Ab,Ac,Ad,Ae,Af,Ag])
 (repeat first|refine Ret.p ?_|refine Ret.n ?_)
 exact Ret.some rfl
/-! ### On which band -/
def inBand (h : Int) (o : List G) : Bool := leI (gi o 1).int h && ltI h (gi o 2).int
def bix (p : List G → Bool) : List (List G) → Int
 | [] => -1
 | x :: r => bif p x then 0 else bif ltI (bix p r) 0 then -1 else bix p r + 1
def bkey (p : List G → Bool) : List (List G) → ByteArray
 | [] => ⟨#[]⟩
 | x :: r => bif p x then (gi x 0).str else bkey p r
theorem bix_none {p : List G → Bool} : ∀ {rows : List (List G)}, (∀ y ∈ rows, p y = false) → bix p rows = -1
 | [], _ => rfl
 | x :: r, h => by
  simp only [bix, h x List.mem_cons_self, bix_none fun y hy => h y (List.mem_cons_of_mem _ hy), cond_false]
  rfl
theorem bix_some {p : List G → Bool} {x : List G} {q2 : List (List G)} (hx : p x = true) : ∀ {q1 : List (List G)}, (∀ y ∈ q1, p y = false) → bix p (q1 ++ x :: q2) = (q1.length : Int)
 | [], _ => by simp only [List.nil_append, bix, hx, cond_true]; rfl
 | y :: q1, h => by
  have e : ltI (q1.length : Int) 0 = false := by simp [ltI_eq]
  simp only [List.cons_append, bix, h y List.mem_cons_self, bix_some hx (q1 := q1) fun y hy => h y (List.mem_cons_of_mem _ hy), cond_false, e, List.length_cons]
  omega
theorem bix_at {p : List G → Bool} : ∀ (rows : List (List G)), (bix p rows = -1 ∧ bkey p rows = ⟨#[]⟩) ∨ ∃ i : Nat, bix p rows = (i : Int) ∧ i < rows.length ∧ bkey p rows = (gi (rows.getD i []) 0).str ∧ p (rows.getD i []) = true
 | [] => .inl ⟨rfl, rfl⟩
 | x :: r => by
  cases hx : p x with
  | true => exact .inr ⟨0, by simp [bix, hx], by simp, by simp [bkey, hx], by simpa using hx⟩
  | false =>
   rcases bix_at (p := p) r with ⟨h1, h2⟩ | ⟨i, h1, h2, h3, h4⟩
   ·exact .inl ⟨by simp only [bix, hx, h1, cond_false]; rfl, by simp only [bkey, hx, h2, cond_false]⟩
   ·have e : ltI (i : Int) 0 = false := by simp [ltI_eq]
    exact .inr ⟨i + 1, by simp only [bix, hx, h1, cond_false, e]; omega, by simp; omega, by simp only [bkey, hx, h3, cond_false]; simp, by simpa using h4⟩
theorem prdBand (h : Int) : Prd KBand F_log_At_1 (fun g => .l [[.i (gi g.row 0).int]]) (.l [[.i h]]) Bnd (inBand h) :=
 ⟨fun r hr => by
  refine Ret.toEq ?_
  unfold F_log_At_1 inBand
  (dsimp +instances only [Aa,Ab,Ac,Ad,Ae,Af,Ag])
  cases leI (gi r 1).int h <;> exact Ret.some rfl, fun _ h => h.eta, rfl⟩
theorem at_ok (b : List (List G)) (h : Int) (hb : ∀ z ∈ b, Bnd z) (hn : b.length < 100000) : F_log_At [.l b, .i h] = some [.i (bix (inBand h) b)] := by
 refine Ret.toEq ?_
 unfold F_log_At
 (dsimp +instances only [Aa,Ab,Ac,Ad,Ae,Af,Ag])
 refine Ret.call (P := fun g => g = [.i (bix (inBand h) b)]) ?_ ?_
 ·refine Ret.mono (indexfF_eq (Z := zBand) (prdBand h) b hb hn : Ret (F_sl_IndexFunc_Band_2 [.l b, .l [[.i h]]]) _) ?_
  rintro g (⟨q1, x, q2, h1, h2, h3, rfl⟩ | ⟨h1, rfl⟩)
  ·rw [h1, bix_some h3 h2]
  ·rw [bix_none h1]
 ·rintro _ rfl
  exact Ret.some rfl
def Own (b : List (List G)) : Prop := (∀ z ∈ b, (gi z 0).str ≠ (⟨#[]⟩ : ByteArray)) ∧ ∀ i j, i < b.length → j < b.length → (gi (b.getD i []) 0).str = (gi (b.getD j []) 0).str → i = j
theorem own_of_fault {b : List (List G)} (h : faultBands b = 0) : Own b := by
 unfold faultBands at h
 split at h
 ·omega
 split at h
 ·rename_i h1 h2
  exact (h2 h).elim
 rename_i h1 h2
 have h2 : fw (stepBn b) b.length = 0 := by simpa using h2
 have z1 := fw_zero h2
 have z2 := fw_zero h
 have key : ∀ i j, i < j → j < b.length → (gi (b.getD i []) 0).str = (gi (b.getD j []) 0).str → False := by
  intro i j hij hj e
  have h := z2 j hj
  unfold twiceB at h
  have hm : b.getD i [] ∈ b.take j := by
   have : (b.take j).getD i [] = b.getD i [] := by simp [List.getD_eq_getElem?_getD, List.getElem?_take, hij]
   rw [← this]
   exact getD_row (by rw [List.length_take]; omega)
  have : (b.take j).any (fun o => (gi o 0).str.toList == (gi (b.getD j []) 0).str.toList) = true := List.any_eq_true.2 ⟨_, hm, by rw [e]; simp⟩
  rw [this] at h
  simp at h
 refine ⟨fun z hz => ?_, fun i j hi hj e => ?_⟩
 ·obtain ⟨i, hi, rfl⟩ := List.mem_iff_getElem.1 hz
  have h := z1 i hi
  have e : b.getD i [] = b[i] := by simp [List.getD_eq_getElem?_getD, hi]
  unfold stepBn at h
  rw [e] at h
  refine okB_ne (s := (gi b[i] 0).str) (Decidable.byContradiction fun hn => ?_)
  have hn : okB (gi b[i] 0).str = false := by simpa using hn
  have : faultBn1 b[i] = 5 := by
   unfold faultBn1
   rw [hn]
   rfl
  rw [this] at h
  simp at h
 ·rcases Nat.lt_trichotomy i j with h | h | h
  ·exact (key i j h hj e).elim
  ·exact h
  ·exact (key j i h hi e.symm).elim
/-! ### Who is heard -/
def cntS (b : List (List G)) (life at_ : Int) (o : List G) : Bool := ltI (at_ - life) (gi o 0).int && (leI (gi o 0).int at_ && leI 0 (bix (inBand (gi o 1).int) b))
def sameS (b : List (List G)) (o s : List G) : Bool := ((gi o 2).str.toList == (gi s 2).str.toList) && (bix (inBand (gi o 1).int) b == bix (inBand (gi s 1).int) b)
def lateS (b : List (List G)) (life at_ : Int) (s : List G) (t : List (List G)) : Bool := t.any fun o => cntS b life at_ o && sameS b o s
def hsL (b : List (List G)) (life at_ : Int) : List (List G) → List (List G)
 | [] => []
 | s :: t => bif cntS b life at_ s && !lateS b life at_ s t then s :: hsL b life at_ t else hsL b life at_ t
def ixL (b : List (List G)) (l : List (List G)) : List (List G) := l.map fun s => [.i (bix (inBand (gi s 1).int) b)]
theorem hsL_mem {b : List (List G)} {life at_ : Int} : ∀ {l : List (List G)} {z : List G}, z ∈ hsL b life at_ l → z ∈ l ∧ cntS b life at_ z = true
 | [], z, h => by simp [hsL] at h
 | s :: t, z, h => by
  simp only [hsL] at h
  cases hc : cntS b life at_ s && !lateS b life at_ s t with
  | true =>
   rw [hc] at h
   rcases List.mem_cons.1 h with rfl | h
   ·simp only [Bool.and_eq_true] at hc
    exact ⟨List.mem_cons_self, hc.1⟩
   ·exact ⟨List.mem_cons_of_mem _ (hsL_mem h).1, (hsL_mem h).2⟩
  | false =>
   rw [hc] at h
   exact ⟨List.mem_cons_of_mem _ (hsL_mem h).1, (hsL_mem h).2⟩
theorem hsL_length {b : List (List G)} {life at_ : Int} : ∀ (l : List (List G)), (hsL b life at_ l).length ≤ l.length
 | [] => Nat.le_refl _
 | s :: t => by
  have := hsL_length (b := b) (life := life) (at_ := at_) t
  simp only [hsL]
  cases cntS b life at_ s && !lateS b life at_ s t <;> simp <;> omega
theorem foldB_suffix {st : Int → List G → List G → Option (List G)} {rows : List (List G)} (I : List (List G) → List G → Prop) (hst : ∀ (n : Int) (r : List G) (t : List (List G)) (d : List G), r ∈ rows → t.length < rows.length → I t d → Ret (st n r d) (I (r :: t))) :
  ∀ (n : Nat) (d : List G), n ≤ rows.length → I (rows.drop n) d → Ret (foldB st rows n d) (I rows)
 | 0, d, _, h => by
  exact Ret.some h
 | n + 1, d, hn, h => by
  have ed : rows.drop n = rows.getD n [] :: rows.drop (n + 1) := by
   rw [List.drop_eq_getElem_cons (by omega), List.getD_eq_getElem?_getD, List.getElem?_eq_getElem (by omega)]
   rfl
  obtain ⟨d', h1, h2⟩ := hst (n : Int) (rows.getD n []) (rows.drop (n + 1)) d (getD_row (by omega)) (by rw [List.length_drop]; omega) h
  simp only [foldB, h1]
  exact foldB_suffix I hst n d' (by omega) (by rw [ed]; exact h2)
def KSeen : List Kd := [.str, .int .i64]
theorem heard_ok (b l : List (List G)) (life at_ : Int) (hb : ∀ z ∈ b, Bnd z) (hbn : b.length ≤ 1000) (hl : ∀ z ∈ l, Spt z) (hn : l.length ≤ 2000) (h1 : b50 life) (h2 : b50 at_) :
  F_band_heard [.l b, .l l, .i life, .i at_] = some [.l (hsL b life at_ l), .l (ixL b (hsL b life at_ l))] := by
 unfold b50 at h1 h2
 refine Ret.toEq ?_
 unfold F_band_heard
 (dsimp +instances only [Aa,Ab,Ac,Ad,Ae,Af,Ag])
 have key : Ret (tl_band_heard_2 [.l b, .i life, .i at_, .l [], .l [], .l [], .i 0, .l l]) fun o => ∃ x, o.1 = some x ∧ o.2 = [.l (hsL b life at_ l), .l (ixL b (hsL b life at_ l))] := by
  unfold tl_band_heard_2 backR
  have hI := foldB_suffix (st := br_band_heard_2) (rows := l) (fun t d => ∃ seen clk, d = [.l b, .i life, .i at_, .l (hsL b life at_ t).reverse, .l (ixL b (hsL b life at_ t)).reverse, .l seen, .i clk] ∧
    ∀ k, (gi (mget KSeen seen k [.t false]) 0).bool = t.any fun o => cntS b life at_ o && rowEq KSeen k [.s (gi o 2).str, .i (bix (inBand (gi o 1).int) b)]) (fun n r t d hr ht hd => by
   obtain ⟨seen, clk, rfl, hs⟩ := hd
   obtain ⟨t0, h0, c0, y0, rfl, ht0, hh0, _⟩ := hl r hr
   unfold b50 at ht0 hh0
   have hlen := hsL_length (b := b) (life := life) (at_ := at_) t
   have hsk : (gi (mget KSeen seen [.s c0, .i (bix (inBand h0) b)] [.t false]) 0).bool = lateS b life at_ [.i t0, .i h0, .s c0, .s y0] t := by
    rw [hs]
    unfold lateS
    congr 1
    funext o
    congr 1
    show ((c0.toList == (gi o 2).str.toList) && ((bix (inBand h0) b == bix (inBand (gi o 1).int) b) && true)) = (((gi o 2).str.toList == c0.toList) && (bix (inBand (gi o 1).int) b == bix (inBand h0) b))
    rw [Bool.and_true, beq_swap c0.toList, beq_swap (bix (inBand h0) b)]
   have ec : cntS b life at_ [.i t0, .i h0, .s c0, .s y0] = (ltI (at_ - life) t0 && (leI t0 at_ && leI 0 (bix (inBand h0) b))) := rfl
   have no : (cntS b life at_ [.i t0, .i h0, .s c0, .s y0] && !lateS b life at_ [.i t0, .i h0, .s c0, .s y0] t) = false → cntS b life at_ [.i t0, .i h0, .s c0, .s y0] = false ∨ lateS b life at_ [.i t0, .i h0, .s c0, .s y0] t = true := by
    intro h
    cases h1 : cntS b life at_ [.i t0, .i h0, .s c0, .s y0] with
    | false => exact .inl rfl
    | true =>
     rw [h1] at h
     right
     simpa using h
   have skip : (cntS b life at_ [.i t0, .i h0, .s c0, .s y0] = false ∨ lateS b life at_ [.i t0, .i h0, .s c0, .s y0] t = true) → ∃ seen' clk', [G.l b, .i life, .i at_, .l (hsL b life at_ t).reverse, .l (ixL b (hsL b life at_ t)).reverse, .l seen, .i ((clk.toNat : Nat) : Int)] =
     [.l b, .i life, .i at_, .l (hsL b life at_ ([.i t0, .i h0, .s c0, .s y0] :: t)).reverse, .l (ixL b (hsL b life at_ ([.i t0, .i h0, .s c0, .s y0] :: t))).reverse, .l seen', .i clk'] ∧
     ∀ k, (gi (mget KSeen seen' k [.t false]) 0).bool = ([.i t0, .i h0, .s c0, .s y0] :: t).any fun o => cntS b life at_ o && rowEq KSeen k [.s (gi o 2).str, .i (bix (inBand (gi o 1).int) b)] := by
    intro h
    have e1 : hsL b life at_ ([.i t0, .i h0, .s c0, .s y0] :: t) = hsL b life at_ t := by
     simp only [hsL]
     rcases h with h | h <;> rw [h]
     ·rfl
     ·simp
    refine ⟨seen, _, by rw [e1], fun k => ?_⟩
    rw [hs, List.any_cons]
    rcases h with h | h
    ·rw [h]
     simp
    ·cases hc : cntS b life at_ [.i t0, .i h0, .s c0, .s y0] with
     | false => simp
     | true =>
      have e2 : ([G.s (gi [G.i t0, .i h0, .s c0, .s y0] 2).str, .i (bix (inBand (gi [G.i t0, .i h0, .s c0, .s y0] 1).int) b)] : List G) = [.s c0, .i (bix (inBand h0) b)] := rfl
      rw [e2, Bool.true_and]
      cases hk : rowEq KSeen k [.s c0, .i (bix (inBand h0) b)] with
      | false => simp
      | true =>
       rw [Bool.true_or]
       rw [← hsk, hs] at h
       rw [List.any_eq_true] at h ⊢
       obtain ⟨o, ho, h⟩ := h
       refine ⟨o, ho, ?_⟩
       rw [← h, rowEq_congr hk]
   unfold br_band_heard_2
   (dsimp +instances only [Aa,Ab,Ac,Ad,Ae,Af,Ag])
   refine Ret.cE (at_ok b h0 hb (by omega)) ?_
   (dsimp +instances only [Aa,Ab,Ac,Ad,Ae,Af,Ag])
   refine Ret.p ?_
   refine Ret.test (fun q1 => ?_) fun q1 => ?_
   ·(repeat first|refine Ret.p ?_|refine Ret.n ?_)
    refine Ret.some (skip (.inl ?_))
    rw [ec]
    simp only [leI_eq, ltI_eq, decide_eq_true_eq] at q1 ⊢
    simp only [Bool.and_eq_false_iff, decide_eq_false_iff_not]
    omega
   refine Ret.test (fun q2 => ?_) fun q2 => ?_
   ·(repeat first|refine Ret.p ?_|refine Ret.n ?_)
    refine Ret.some (skip (.inl ?_))
    rw [ec]
    simp only [leI_eq, ltI_eq, decide_eq_true_eq] at q2 ⊢
    simp only [Bool.and_eq_false_iff, decide_eq_false_iff_not]
    omega
   refine Ret.test (fun q3 => ?_) fun q3 => ?_
   ·(repeat first|refine Ret.p ?_|refine Ret.n ?_)
    refine Ret.some (skip (.inl ?_))
    rw [ec]
    simp only [leI_eq, ltI_eq, decide_eq_true_eq] at q3 ⊢
    simp only [Bool.and_eq_false_iff, decide_eq_false_iff_not]
    omega
   have hc : cntS b life at_ [.i t0, .i h0, .s c0, .s y0] = true := by
    rw [ec]
    simp only [leI_eq, ltI_eq, decide_eq_false_iff_not] at q1 q2 q3 ⊢
    simp only [Bool.and_eq_true, decide_eq_true_eq]
    omega
   refine Ret.test (fun q4 => ?_) fun q4 => ?_
   ·have q4 : (gi (mget KSeen seen [.s c0, .i (bix (inBand h0) b)] [.t false]) 0).bool = true := q4
    (repeat first|refine Ret.p ?_|refine Ret.n ?_)
    exact Ret.some (skip (.inr (by rw [← hsk]; exact q4)))
   ·have q4 : (gi (mget KSeen seen [.s c0, .i (bix (inBand h0) b)] [.t false]) 0).bool = false := q4
    rw [hsk] at q4
    have e1 : hsL b life at_ ([.i t0, .i h0, .s c0, .s y0] :: t) = [.i t0, .i h0, .s c0, .s y0] :: hsL b life at_ t := by
     simp only [hsL, hc, q4]
     rfl
    have hlx : (ixL b (hsL b life at_ t)).length = (hsL b life at_ t).length := by simp [ixL]
    simp only [List.length_append, List.length_reverse, List.length_cons, List.length_nil, hlx]
    (repeat first|refine Ret.p ?_|refine Ret.n ?_)
    refine Ret.some ?_
    refine ⟨mput KSeen seen [.s c0, .i (bix (inBand h0) b)] [.t true] clk.toNat, ((mclk KSeen seen [.s c0, .i (bix (inBand h0) b)] clk.toNat : Nat) : Int), ?_, fun k => ?_⟩
    ·rw [e1]
     simp only [ixL, List.map_cons, List.reverse_cons]
     rfl
    ·rw [mget_mput, List.any_cons, hc, Bool.true_and]
     have e2 : ([G.s (gi [G.i t0, .i h0, .s c0, .s y0] 2).str, .i (bix (inBand (gi [G.i t0, .i h0, .s c0, .s y0] 1).int) b)] : List G) = [.s c0, .i (bix (inBand h0) b)] := rfl
     rw [e2, ← hs]
     cases hk : rowEq KSeen k [.s c0, .i (bix (inBand h0) b)] <;> rfl) l.length
  have hI0 : ∃ seen clk, [G.l b, .i life, .i at_, .l [], .l [], .l [], .i ((0 : Nat) : Int)] = [.l b, .i life, .i at_, .l (hsL b life at_ (l.drop l.length)).reverse, .l (ixL b (hsL b life at_ (l.drop l.length))).reverse, .l seen, .i clk] ∧
    ∀ k, (gi (mget KSeen seen k [.t false]) 0).bool = (l.drop l.length).any fun o => cntS b life at_ o && rowEq KSeen k [.s (gi o 2).str, .i (bix (inBand (gi o 1).int) b)] := by
   rw [List.drop_length]
   exact ⟨[], _, rfl, fun k => rfl⟩
  obtain ⟨_, hf, seen, clk, rfl, _⟩ := hI _ (Nat.le_refl _) hI0
  refine Ret.pos (show (Nat.ble l.length 1048576 && bd_band_heard_2 [.l b, .i life, .i at_, .l [], .l [], .l [], .i 0, .l l]) = true by
   have e : bd_band_heard_2 [.l b, .i life, .i at_, .l [], .l [], .l [], .i 0, .l l] = true := rfl
   rw [e, Bool.and_true, Nat.ble_eq]
   omega) ?_
  have hf : foldB bs_band_heard_2.st l l.length (bs_band_heard_2.init [.l b, .i life, .i at_, .l [], .l [], .l [], .i 0, .l l]) = some [.l b, .i life, .i at_, .l (hsL b life at_ l).reverse, .l (ixL b (hsL b life at_ l)).reverse, .l seen, .i clk] := hf
  have hlen := hsL_length (b := b) (life := life) (at_ := at_) l
  have hlx : (ixL b (hsL b life at_ l)).length = (hsL b life at_ l).length := by simp [ixL]
  show Ret ((foldB bs_band_heard_2.st l l.length (bs_band_heard_2.init [.l b, .i life, .i at_, .l [], .l [], .l [], .i 0, .l l])).bind tr_band_heard_2) _
  rw [hf]
  show Ret (tr_band_heard_2 [.l b, .i life, .i at_, .l (hsL b life at_ l).reverse, .l (ixL b (hsL b life at_ l)).reverse, .l seen, .i clk]) _
  unfold tr_band_heard_2
  (dsimp +instances only [Aa,Ab,Ac,Ad,Ae,Af,Ag])
  refine Ret.callb (Ret.eq (revT_eq _ (fun z hz => hl z (hsL_mem (List.mem_reverse.1 hz)).1) (by simp; omega))) (by (first|rfl|assumption|(simp only [inI,sl]<;>omega))) ?_
  rintro _ rfl
  (dsimp +instances only [Aa,Ab,Ac,Ad,Ae,Af,Ag])
  refine Ret.callb (Ret.eq (revI_eq _ (fun z hz => by
   obtain ⟨s, _, rfl⟩ := List.mem_map.1 (List.mem_reverse.1 hz)
   exact ⟨_, rfl⟩) (by simp [hlx]; omega))) (by (first|rfl|assumption|(simp only [inI,sl]<;>omega))) ?_
  rintro _ rfl
  (dsimp +instances only [Aa,Ab,Ac,Ad,Ae,Af,Ag])
  simp only [List.reverse_reverse, List.length_reverse, hlx]
  (repeat first|refine Ret.p ?_|refine Ret.n ?_)
  refine Ret.some ?_
  exact ⟨0, rfl, rfl⟩
 refine Ret.tail (P := fun _ g => g = [.l (hsL b life at_ l), .l (ixL b (hsL b life at_ l))]) key rfl ?_
 rintro _ _ rfl
 (dsimp +instances only [Aa,Ab,Ac,Ad,Ae,Af,Ag])
 (repeat first|refine Ret.p ?_|refine Ret.n ?_)
 exact Ret.some rfl
end
end Go.Proofs.SYthjhjbgilbaknaaGreatDoor
