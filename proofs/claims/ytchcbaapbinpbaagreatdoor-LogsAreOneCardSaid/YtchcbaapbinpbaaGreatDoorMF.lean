/-
 What is proved here: what the methods of the stream give on data. No condition.
-/
import Derived.Test.YtchcbaapbinpbaaGreatDoorML4
import Derived.Test.YtchcbaapbinpbaaGreatDoorME
set_option linter.all false
namespace Go.Proofs.SYtchcbaapbinpbaaGreatDoor
open Go Go.AL Go.Proofs
noncomputable section
theorem r_Below (x n : Int) (h0 : 1 ≤ n) (h1 : n ≤ 1099511627776) : Ret (F_pilemake_Below [.i x, .i n]) fun g => ∃ v, g = [.i v] ∧ 0 ≤ v ∧ v < n := by
 unfold F_pilemake_Below
 (dsimp +instances only [Aa,Ab,Ac,Ad,Ae,Af,Ag])
 have ha := Int.tmod_lt_of_pos x (by omega : 0 < n)
 have hb := Int.lt_tmod_of_pos x (by omega : 0 < n)
 (repeat first|refine Ret.p ?_|refine Ret.n ?_)
 refine Ret.test (fun h => ?_) fun h => ?_
 ·simp only [ltI_eq, decide_eq_true_eq] at h
  (repeat first|refine Ret.p ?_|refine Ret.n ?_)
  exact Ret.some ⟨_, rfl, by omega, by omega⟩
 ·simp only [ltI_eq, decide_eq_false_iff_not] at h
  exact Ret.some ⟨_, rfl, by omega, by omega⟩
theorem r_Next (l : List (List G)) (a n : Int) (ha : 0 ≤ a) (ha1 : a ≤ 1000000) (h0 : 1 ≤ n) (h1 : n ≤ 1099511627776) :
  Ret (F_mk_Next [.l l, .i a, .i n]) fun g => ∃ v, g = [.l l, .i (a + 1), .i v] ∧ 0 ≤ v ∧ v < n := by
 unfold F_mk_Next
 (dsimp +instances only [Aa,Ab,Ac,Ad,Ae,Af,Ag])
 have ea : a + 1 - 1 = a := by omega
 simp only [ea]
 by_cases hl : l.length = 0
 ·(repeat first|refine Ret.p ?_|refine Ret.n ?_)
  refine Ret.call (r_Below _ n h0 h1) ?_
  rintro _ ⟨v, rfl, h2, h3⟩
  (dsimp +instances only [Aa,Ab,Ac,Ad,Ae,Af,Ag])
  exact Ret.some ⟨v, rfl, h2, h3⟩
 ·have hp : (0 : Int) < (l.length : Int) := by omega
  have d0 : 0 ≤ Int.tdiv a l.length := Int.tdiv_nonneg ha (by omega)
  have d1 : Int.tdiv a l.length ≤ a := by
   rw [Int.tdiv_eq_ediv_of_nonneg ha]
   exact Int.ediv_le_self _ ha
  have m0 : 0 ≤ Int.tmod a l.length := by
   rw [Int.tmod_eq_emod_of_nonneg ha]
   exact Int.emod_nonneg _ (by omega)
  have m1 : Int.tmod a l.length < l.length := Int.tmod_lt_of_pos a hp
  have m2 : Int.tmod a l.length ≤ a := by
   rw [Int.tmod_eq_emod_of_nonneg ha]
   have := Int.mul_ediv_add_emod a l.length
   have h4 : 0 ≤ (l.length : Int) * (a / l.length) := Int.mul_nonneg (by omega) (Int.ediv_nonneg ha (by omega))
   omega
  generalize hq : Int.tdiv a l.length = q at *
  generalize hr : Int.tmod a l.length = r at *
  have p0 : 0 ≤ q * (7919 + r) := Int.mul_nonneg d0 (by omega)
  have p1 : q * (7919 + r) ≤ 1000000 * 2000000 := Int.mul_le_mul (by omega) (by omega) (by omega) (by omega)
  generalize hz : q * (7919 + r) = z at *
  (repeat first|refine Ret.p ?_|refine Ret.n ?_)
  refine Ret.call (r_Below _ 1073741824 (by omega) (by omega)) ?_
  rintro _ ⟨u, rfl, h2, h3⟩
  (dsimp +instances only [Aa,Ab,Ac,Ad,Ae,Af,Ag])
  (repeat first|refine Ret.p ?_|refine Ret.n ?_)
  refine Ret.call (r_Below _ n h0 h1) ?_
  rintro _ ⟨v, rfl, h4, h5⟩
  (dsimp +instances only [Aa,Ab,Ac,Ad,Ae,Af,Ag])
  exact Ret.some ⟨v, rfl, h4, h5⟩
theorem r_Range (l : List (List G)) (a lo hi : Int) (ha : 0 ≤ a) (ha1 : a ≤ 1000000) (h0 : lo ≤ hi) (h1 : -1000000000 ≤ lo) (h2 : hi ≤ 1000000000) :
  Ret (F_mk_Range [.l l, .i a, .i lo, .i hi]) fun g => ∃ v, g = [.l l, .i (a + 1), .i v] ∧ lo ≤ v ∧ v ≤ hi := by
 unfold F_mk_Range
 (dsimp +instances only [Aa,Ab,Ac,Ad,Ae,Af,Ag])
 (repeat first|refine Ret.p ?_|refine Ret.n ?_)
 refine Ret.call (r_Next l a _ ha ha1 (by omega) (by omega)) ?_
 rintro _ ⟨v, rfl, h3, h4⟩
 (dsimp +instances only [Aa,Ab,Ac,Ad,Ae,Af,Ag])
 (repeat first|refine Ret.p ?_|refine Ret.n ?_)
 exact Ret.some ⟨_, rfl, by omega, by omega⟩
theorem getD_mem' {l : List (List G)} {v : Int} (h0 : 0 ≤ v) (h1 : v < l.length) : l.getD v.toNat [] ∈ l := by
 have : v.toNat < l.length := by omega
 rw [List.getD_eq_getElem?_getD, List.getElem?_eq_getElem this]
 exact List.getElem_mem this
theorem r_Pick (P : Int → Prop) (l : List (List G)) (a : Int) (xs : List (List G)) (ha : 0 ≤ a) (ha1 : a ≤ 1000000) (h0 : 1 ≤ xs.length) (h1 : xs.length ≤ 1000000) (hP : ∀ x ∈ xs, P (gi x 0).int) :
  Ret (F_mk_Pick [.l l, .i a, .l xs]) fun g => ∃ v, g = [.l l, .i (a + 1), .i v] ∧ P v := by
 unfold F_mk_Pick
 (dsimp +instances only [Aa,Ab,Ac,Ad,Ae,Af,Ag])
 refine Ret.call (r_Next l a _ ha ha1 (by omega) (by omega)) ?_
 rintro _ ⟨v, rfl, h3, h4⟩
 (dsimp +instances only [Aa,Ab,Ac,Ad,Ae,Af,Ag])
 (repeat first|refine Ret.p ?_|refine Ret.n ?_)
 exact Ret.some ⟨_, rfl, hP _ (getD_mem' h3 h4)⟩
theorem r_Some (P : ByteArray → Prop) (l : List (List G)) (a : Int) (xs : List (List G)) (ha : 0 ≤ a) (ha1 : a ≤ 1000000) (h0 : 1 ≤ xs.length) (h1 : xs.length ≤ 1000000) (hP : ∀ x ∈ xs, P (gi x 0).str) :
  Ret (F_mk_Some [.l l, .i a, .l xs]) fun g => ∃ v, g = [.l l, .i (a + 1), .s v] ∧ P v := by
 unfold F_mk_Some
 (dsimp +instances only [Aa,Ab,Ac,Ad,Ae,Af,Ag])
 refine Ret.call (r_Next l a _ ha ha1 (by omega) (by omega)) ?_
 rintro _ ⟨v, rfl, h3, h4⟩
 (dsimp +instances only [Aa,Ab,Ac,Ad,Ae,Af,Ag])
 (repeat first|refine Ret.p ?_|refine Ret.n ?_)
 exact Ret.some ⟨_, rfl, hP _ (getD_mem' h3 h4)⟩
theorem r_Flip (l : List (List G)) (a n : Int) (ha : 0 ≤ a) (ha1 : a ≤ 1000000) (h0 : 1 ≤ n) (h1 : n ≤ 1000000) :
  Ret (F_mk_Flip [.l l, .i a, .i n]) fun g => ∃ b, g = [.l l, .i (a + 1), .t b] := by
 unfold F_mk_Flip
 (dsimp +instances only [Aa,Ab,Ac,Ad,Ae,Af,Ag])
 refine Ret.call (r_Next l a _ ha ha1 (by omega) (by omega)) ?_
 rintro _ ⟨v, rfl, h3, h4⟩
 exact Ret.some ⟨_, rfl⟩
theorem r_Odd (l : List (List G)) (a lo hi : Int) (ha : 0 ≤ a) (ha1 : a ≤ 900000) (h0 : lo ≤ hi) (h1 : -1000000000 ≤ lo) (h2 : hi ≤ 1000000000) :
  Ret (F_mk_Odd [.l l, .i a, .i lo, .i hi]) fun g => ∃ v, g = [.l l, .i (a + 2), .i v] ∧ -1099511627776 ≤ v ∧ (v ≤ 1000000001 ∨ v = 1099511627776) := by
 unfold F_mk_Odd
 (dsimp +instances only [Aa,Ab,Ac,Ad,Ae,Af,Ag])
 have e2 : a + 1 + 1 = a + 2 := by omega
 refine Ret.call (r_Flip l a 12 ha (by omega) (by omega) (by omega)) ?_
 rintro _ ⟨b, rfl⟩
 (dsimp +instances only [Aa,Ab,Ac,Ad,Ae,Af,Ag])
 cases b with
 | true =>
  (repeat first|refine Ret.p ?_|refine Ret.n ?_)
  refine Ret.call (r_Pick (fun v => -1099511627776 ≤ v ∧ (v ≤ 1000000001 ∨ v = 1099511627776)) l (a + 1) _ (by omega) (by omega) (by simp) (by simp) ?_) ?_
  ·intro x hx
   simp only [List.mem_cons, List.not_mem_nil, or_false] at hx
   rcases hx with rfl | rfl | rfl | rfl | rfl | rfl <;> (dsimp +instances only [Aa,Ab,Ac,Ad,Ae,Af,Ag]) <;> omega
  ·rintro _ ⟨v, rfl, h3, h4⟩
   (dsimp +instances only [Aa,Ab,Ac,Ad,Ae,Af,Ag])
   exact Ret.some ⟨v, by rw [e2], h3, h4⟩
 | false =>
  (repeat first|refine Ret.p ?_|refine Ret.n ?_)
  refine Ret.call (r_Range l (a + 1) lo hi (by omega) (by omega) h0 h1 h2) ?_
  rintro _ ⟨v, rfl, h3, h4⟩
  (dsimp +instances only [Aa,Ab,Ac,Ad,Ae,Af,Ag])
  exact Ret.some ⟨v, by rw [e2], by omega, by omega⟩
def inL (L : List ByteArray) (s : ByteArray) : Bool := L.any fun x => eqS x s
theorem inL_mem {L : List ByteArray} {s : ByteArray} (h : inL L s = true) : s ∈ L := by
 obtain ⟨x, hx, he⟩ := List.any_eq_true.1 h
 exact eqS_eq he ▸ hx
theorem r_PickB (lo hi : Int) (l : List (List G)) (a : Int) (xs : List (List G)) (ha : 0 ≤ a) (ha1 : a ≤ 1000000) (h0 : (Nat.ble 1 xs.length && Nat.ble xs.length 1000000) = true) (hP : (xs.all fun x => leI lo (gi x 0).int && leI (gi x 0).int hi) = true) :
  Ret (F_mk_Pick [.l l, .i a, .l xs]) fun g => ∃ v, g = [.l l, .i (a + 1), .i v] ∧ lo ≤ v ∧ v ≤ hi := by
 simp only [Bool.and_eq_true, Nat.ble_eq] at h0
 refine r_Pick (fun v => lo ≤ v ∧ v ≤ hi) l a xs ha ha1 h0.1 h0.2 fun x hx => ?_
 have := List.all_eq_true.1 hP x hx
 simpa only [leI_eq, Bool.and_eq_true, decide_eq_true_eq] using this
theorem r_SomeB (L : List ByteArray) (l : List (List G)) (a : Int) (xs : List (List G)) (ha : 0 ≤ a) (ha1 : a ≤ 1000000) (h0 : (Nat.ble 1 xs.length && Nat.ble xs.length 1000000) = true) (hP : (xs.all fun x => inL L (gi x 0).str) = true) :
  Ret (F_mk_Some [.l l, .i a, .l xs]) fun g => ∃ v, g = [.l l, .i (a + 1), .s v] ∧ v ∈ L := by
 simp only [Bool.and_eq_true, Nat.ble_eq] at h0
 exact r_Some (fun v => v ∈ L) l a xs ha ha1 h0.1 h0.2 fun x hx => inL_mem (List.all_eq_true.1 hP x hx)
def calls : List ByteArray := [⟨#[]⟩, ⟨#[107, 49]⟩, ⟨#[75, 49, 65, 66]⟩, ⟨#[107, 49, 97, 98, 47]⟩, ⟨#[49, 97]⟩, ⟨#[107, 49, 97, 98, 47, 109, 109, 47, 112]⟩, ⟨#[107, 49, 97, 98]⟩, ⟨#[107, 49, 97, 97]⟩, ⟨#[107, 49, 97, 98, 47, 52]⟩,
 ⟨#[111, 104, 50, 97, 98, 99]⟩, ⟨#[111, 104, 50, 97, 98, 100]⟩, ⟨#[119, 49, 97, 119]⟩, ⟨#[110, 49, 109, 109]⟩, ⟨#[103, 51, 120, 121, 122, 47, 112]⟩]
def bands : List ByteArray := [⟨#[]⟩, ⟨#[66]⟩, ⟨#[98, 50, 48]⟩, ⟨#[98, 52, 48]⟩]
def names : List ByteArray := [⟨#[]⟩, ⟨#[65]⟩, ⟨#[49]⟩, ⟨#[102, 105, 110]⟩, ⟨#[117, 115, 97]⟩]
def small (n : Int) : Prop := -2000000000000 ≤ n ∧ n ≤ 2000000000000
def Con (r : List G) : Prop := ∃ (t m : Int) (b c : ByteArray) (s h : Int) (x y : ByteArray), r = [.i t, .i m, .s b, .s c, .i s, .i h, .s x, .s y] ∧ small t ∧ small m ∧ small s ∧ small h ∧ b ∈ bands ∧ c ∈ calls ∧ x ∈ names ∧ y ∈ names
def tight (n : Int) : Prop := -1900000000000 ≤ n ∧ n ≤ 1900000000000
def tightT (n : Int) : Prop := -1900000000000 ≤ n ∧ (n ≤ 345000000000 ∨ (345686399999 < n ∧ n ≤ 1900000000000))
def ConT (r : List G) : Prop := ∃ (t m : Int) (b c : ByteArray) (s h : Int) (x y : ByteArray), r = [.i t, .i m, .s b, .s c, .i s, .i h, .s x, .s y] ∧ tightT t ∧ tight m ∧ tight s ∧ tight h ∧ b ∈ bands ∧ c ∈ calls ∧ x ∈ names ∧ y ∈ names
theorem tight.to {n : Int} (h : tight n) : small n := ⟨by have := h.1; omega, by have := h.2; omega⟩
theorem tightT.to {n : Int} (h : tightT n) : small n := by
 unfold tightT at h
 exact ⟨by omega, by omega⟩
theorem ConT.to {r : List G} (h : ConT r) : Con r := by
 obtain ⟨t, m, b, c, s, h, x, y, e, h1, h2, h3, h4, h5⟩ := h
 exact ⟨t, m, b, c, s, h, x, y, e, h1.to, h2.to, h3.to, h4.to, h5⟩
theorem Con.eta {r : List G} (h : Con r) : gEta [.int .i64, .int .i64, .str, .str, .int .i64, .int .i64, .str, .str] r = r := by
 obtain ⟨t, m, b, c, s, h, x, y, rfl, _⟩ := h
 rfl
theorem r_ACall (l : List (List G)) (a : Int) (ha : 0 ≤ a) (ha1 : a ≤ 900000) : Ret (F_mk_ACall [.l l, .i a]) fun g => ∃ v, g = [.l l, .i (a + 2), .s v] ∧ v ∈ calls := by
 unfold F_mk_ACall
 (dsimp +instances only [Aa,Ab,Ac,Ad,Ae,Af,Ag])
 have e2 : a + 1 + 1 = a + 2 := by omega
 refine Ret.call (r_Flip l a 60 ha (by omega) (by omega) (by omega)) ?_
 rintro _ ⟨b, rfl⟩
 (dsimp +instances only [Aa,Ab,Ac,Ad,Ae,Af,Ag])
 cases b with
 | true =>
  (repeat first|refine Ret.p ?_|refine Ret.n ?_)
  refine Ret.call (r_SomeB calls l (a + 1) _ (by omega) (by omega) (by kernel_rfl) (by kernel_rfl)) ?_
  rintro _ ⟨v, rfl, h⟩
  exact Ret.some ⟨v, by (dsimp +instances only [Aa,Ab,Ac,Ad,Ae,Af,Ag]); rw [e2], h⟩
 | false =>
  (repeat first|refine Ret.p ?_|refine Ret.n ?_)
  refine Ret.call (r_SomeB calls l (a + 1) _ (by omega) (by omega) (by kernel_rfl) (by kernel_rfl)) ?_
  rintro _ ⟨v, rfl, h⟩
  exact Ret.some ⟨v, by (dsimp +instances only [Aa,Ab,Ac,Ad,Ae,Af,Ag]); rw [e2], h⟩
theorem r_SomeContact (l : List (List G)) (a t : Int) (ha : 0 ≤ a) (ha1 : a ≤ 800000) (ht : tightT t) :
  Ret (F_mk_SomeContact [.l l, .i a, .i t]) fun g => ∃ b r, g = [.l l, .i b, .l [r]] ∧ a ≤ b ∧ b ≤ a + 20 ∧ ConT r := by
 unfold tightT at ht
 unfold F_mk_SomeContact
 (dsimp +instances only [Aa,Ab,Ac,Ad,Ae,Af,Ag])
 refine Ret.call (r_PickB 1 3 l a _ ha (by omega) (by kernel_rfl) (by kernel_rfl)) ?_
 rintro _ ⟨m, rfl, hm⟩
 (dsimp +instances only [Aa,Ab,Ac,Ad,Ae,Af,Ag])
 refine Ret.call (r_SomeB bands l _ _ (by omega) (by omega) (by kernel_rfl) (by kernel_rfl)) ?_
 rintro _ ⟨bd, rfl, hb⟩
 (dsimp +instances only [Aa,Ab,Ac,Ad,Ae,Af,Ag])
 refine Ret.call (r_ACall l _ (by omega) (by omega)) ?_
 rintro _ ⟨c, rfl, hc⟩
 (dsimp +instances only [Aa,Ab,Ac,Ad,Ae,Af,Ag])
 refine Ret.call (r_PickB 0 7 l _ _ (by omega) (by omega) (by kernel_rfl) (by kernel_rfl)) ?_
 rintro _ ⟨s, rfl, hs⟩
 (dsimp +instances only [Aa,Ab,Ac,Ad,Ae,Af,Ag])
 refine Ret.call (r_PickB 0 9 l _ _ (by omega) (by omega) (by kernel_rfl) (by kernel_rfl)) ?_
 rintro _ ⟨h, rfl, hh⟩
 (dsimp +instances only [Aa,Ab,Ac,Ad,Ae,Af,Ag])
 refine Ret.call (r_SomeB names l _ _ (by omega) (by omega) (by kernel_rfl) (by kernel_rfl)) ?_
 rintro _ ⟨x, rfl, hx⟩
 (dsimp +instances only [Aa,Ab,Ac,Ad,Ae,Af,Ag])
 refine Ret.call (r_SomeB names l _ _ (by omega) (by omega) (by kernel_rfl) (by kernel_rfl)) ?_
 rintro _ ⟨y, rfl, hy⟩
 (dsimp +instances only [Aa,Ab,Ac,Ad,Ae,Af,Ag])
 refine Ret.call (r_Flip l _ 100 (by omega) (by omega) (by omega) (by omega)) ?_
 rintro _ ⟨f, rfl⟩
 (dsimp +instances only [Aa,Ab,Ac,Ad,Ae,Af,Ag])
 cases f with
 | false =>
  (repeat first|refine Ret.p ?_|refine Ret.n ?_)
  exact Ret.some ⟨_, _, rfl, by omega, by omega, t, m, bd, c, s, h, x, y, rfl, ht, ⟨by omega, by omega⟩, ⟨by omega, by omega⟩, ⟨by omega, by omega⟩, hb, hc, hx, hy⟩
 | true =>
  (repeat first|refine Ret.p ?_|refine Ret.n ?_)
  refine Ret.call (r_Next l _ 4 (by omega) (by omega) (by omega) (by omega)) ?_
  rintro _ ⟨k, rfl, hk⟩
  (dsimp +instances only [Aa,Ab,Ac,Ad,Ae,Af,Ag])
  by_cases k0 : k = 0
  ·subst k0
   (repeat first|refine Ret.p ?_|refine Ret.n ?_)
   refine Ret.call (r_Odd l _ 0 500 (by omega) (by omega) (by omega) (by omega) (by omega)) ?_
   rintro _ ⟨t', rfl, ht'⟩
   (dsimp +instances only [Aa,Ab,Ac,Ad,Ae,Af,Ag])
   refine Ret.call (r_Odd l _ 1 3 (by omega) (by omega) (by omega) (by omega) (by omega)) ?_
   rintro _ ⟨m', rfl, hm'⟩
   (dsimp +instances only [Aa,Ab,Ac,Ad,Ae,Af,Ag])
   exact Ret.some ⟨_, _, rfl, by omega, by omega, t', m', bd, c, s, h, x, y, rfl, ⟨by omega, by omega⟩, ⟨by omega, by omega⟩, ⟨by omega, by omega⟩, ⟨by omega, by omega⟩, hb, hc, hx, hy⟩
  ·refine Ret.neg (by simpa using k0) ?_
   by_cases k1 : k = 1
   ·subst k1
    (repeat first|refine Ret.p ?_|refine Ret.n ?_)
    refine Ret.call (r_SomeB bands l _ _ (by omega) (by omega) (by kernel_rfl) (by kernel_rfl)) ?_
    rintro _ ⟨b', rfl, hb'⟩
    (dsimp +instances only [Aa,Ab,Ac,Ad,Ae,Af,Ag])
    exact Ret.some ⟨_, _, rfl, by omega, by omega, t, m, b', c, s, h, x, y, rfl, ht, ⟨by omega, by omega⟩, ⟨by omega, by omega⟩, ⟨by omega, by omega⟩, hb', hc, hx, hy⟩
   ·refine Ret.neg (by simpa using k1) ?_
    by_cases k2 : k = 2
    ·subst k2
     (repeat first|refine Ret.p ?_|refine Ret.n ?_)
     refine Ret.call (r_Odd l _ 0 99999 (by omega) (by omega) (by omega) (by omega) (by omega)) ?_
     rintro _ ⟨s', rfl, hs'⟩
     (dsimp +instances only [Aa,Ab,Ac,Ad,Ae,Af,Ag])
     refine Ret.call (r_Odd l _ 0 99999 (by omega) (by omega) (by omega) (by omega) (by omega)) ?_
     rintro _ ⟨h', rfl, hh'⟩
     (dsimp +instances only [Aa,Ab,Ac,Ad,Ae,Af,Ag])
     exact Ret.some ⟨_, _, rfl, by omega, by omega, t, m, bd, c, s', h', x, y, rfl, ht, ⟨by omega, by omega⟩, ⟨by omega, by omega⟩, ⟨by omega, by omega⟩, hb, hc, hx, hy⟩
    ·refine Ret.neg (by simpa using k2) ?_
     refine Ret.call (r_SomeB names l _ _ (by omega) (by omega) (by kernel_rfl) (by kernel_rfl)) ?_
     rintro _ ⟨x', rfl, hx'⟩
     (dsimp +instances only [Aa,Ab,Ac,Ad,Ae,Af,Ag])
     refine Ret.call (r_SomeB names l _ _ (by omega) (by omega) (by kernel_rfl) (by kernel_rfl)) ?_
     rintro _ ⟨y', rfl, hy'⟩
     (dsimp +instances only [Aa,Ab,Ac,Ad,Ae,Af,Ag])
     exact Ret.some ⟨_, _, rfl, by omega, by omega, t, m, bd, c, s, h, x', y', rfl, ht, ⟨by omega, by omega⟩, ⟨by omega, by omega⟩, ⟨by omega, by omega⟩, hb, hc, hx', hy'⟩
def cmpI (a b : Int) : Int := if a < b then -1 else if b < a then 1 else 0
theorem compareBytes_zero : ∀ {a b : List UInt8}, Lib.compareBytes a b = 0 → a = b
 | [], [], _ => rfl
 | [], _ :: _, h => by simp [Lib.compareBytes] at h
 | _ :: _, [], h => by simp [Lib.compareBytes] at h
 | x :: a, y :: b, h => by
  unfold Lib.compareBytes at h
  split at h
  ·cases h
  ·split at h
   ·cases h
   ·rename_i h1 h2
    rw [compareBytes_zero h, UInt8.le_antisymm (UInt8.not_lt.1 h2) (UInt8.not_lt.1 h1)]
theorem compareBytes_self : ∀ a : List UInt8, Lib.compareBytes a a = 0
 | [] => rfl
 | x :: a => by simp [Lib.compareBytes, compareBytes_self a]
theorem str_eq (a b : ByteArray) : (a.toList == b.toList) = decide (cmpS a b = 0) := by
 rw [ByteArray.toList_eq, ByteArray.toList_eq, Bool.eq_iff_iff, decide_eq_true_eq, beq_iff_eq]
 constructor
 ·intro h
  unfold cmpS
  rw [h]
  exact compareBytes_self _
 ·exact fun h => compareBytes_zero h
def or4 (a b c d : Int) : Int := if a ≠ 0 then a else if b ≠ 0 then b else if c ≠ 0 then c else d
def ordC (r s : List G) : Int := or4 (cmpI (gi r 0).int (gi s 0).int) (cmpS (gi r 3).str (gi s 3).str) (cmpS (gi r 2).str (gi s 2).str) (cmpI (gi r 1).int (gi s 1).int)
theorem sign_eq (a b : Int) : F_r2_sign [.i (a - b)] = some [.i (cmpI a b)] := by
 refine Ret.toEq ?_
 unfold F_r2_sign cmpI
 (dsimp +instances only [Aa,Ab,Ac,Ad,Ae,Af,Ag])
 by_cases h1 : a < b
 ·(repeat first|refine Ret.p ?_|refine Ret.n ?_)
  exact Ret.some (by simp [h1])
 ·by_cases h2 : b < a
  ·(repeat first|refine Ret.p ?_|refine Ret.n ?_)
   exact Ret.some (by simp [h1, h2])
  ·(repeat first|refine Ret.p ?_|refine Ret.n ?_)
   exact Ret.some (by simp [h1, h2])
theorem order_eq {r s : List G} (hr : Con r) (hs : Con s) : F_r2_ContactOrder [.l [r], .l [s]] = some [.i (ordC r s)] := by
 obtain ⟨t, m, b, c, _, _, _, _, rfl, ht, hm, _⟩ := hr
 obtain ⟨t', m', b', c', _, _, _, _, rfl, ht', hm', _⟩ := hs
 unfold small at *
 refine Ret.toEq ?_
 unfold F_r2_ContactOrder ordC or4
 (dsimp +instances only [Aa,Ab,Ac,Ad,Ae,Af,Ag])
 simp only [str_eq]
 by_cases e1 : t = t'
 ·subst e1
  have z : cmpI t t = 0 := by simp [cmpI]
  simp only [z]
  (repeat first|refine Ret.p ?_|refine Ret.n ?_)
  by_cases e2 : cmpS c c' = 0
  ·simp only [e2]
   (repeat first|refine Ret.p ?_|refine Ret.n ?_)
   by_cases e3 : cmpS b b' = 0
   ·simp only [e3]
    (repeat first|refine Ret.p ?_|refine Ret.n ?_)
    refine Ret.cE (sign_eq m m') ?_
    (dsimp +instances only [Aa,Ab,Ac,Ad,Ae,Af,Ag])
    exact Ret.some (by simp)
   ·refine Ret.pos (by simpa using e3) (Ret.call (Ret.eq (rfl : F_strings_Compare [.s b, .s b'] = some [.i (cmpS b b')])) ?_)
    rintro _ rfl
    (dsimp +instances only [Aa,Ab,Ac,Ad,Ae,Af,Ag])
    exact Ret.some (by simp [e3])
  ·refine Ret.pos (by simpa using e2) (Ret.call (Ret.eq (rfl : F_strings_Compare [.s c, .s c'] = some [.i (cmpS c c')])) ?_)
   rintro _ rfl
   (dsimp +instances only [Aa,Ab,Ac,Ad,Ae,Af,Ag])
   exact Ret.some (by simp [e2])
 ·(repeat first|refine Ret.p ?_|refine Ret.n ?_)
  refine Ret.cE (sign_eq t t') ?_
  (dsimp +instances only [Aa,Ab,Ac,Ad,Ae,Af,Ag])
  have z : cmpI t t' ≠ 0 := by
   unfold cmpI
   split
   ·omega
   ·split <;> omega
  exact Ret.some (by simp [z])
theorem cmpInt_eq (a b : Int) : F_cmp_Compare_int [.i a, .i b] = some [.i (cmpI a b)] := by
 refine Ret.toEq ?_
 unfold F_cmp_Compare_int F_cmp_isNaN_int cmpI
 (dsimp +instances only [Aa,Ab,Ac,Ad,Ae,Af,Ag])
 simp only [bne_self_eq_false]
 refine Ret.call ⟨_, rfl, rfl⟩ ?_
 rintro _ rfl
 refine Ret.call ⟨_, rfl, rfl⟩ ?_
 rintro _ rfl
 (dsimp +instances only [Aa,Ab,Ac,Ad,Ae,Af,Ag])
 (repeat first|refine Ret.p ?_|refine Ret.n ?_)
 by_cases h1 : a < b
 ·(repeat first|refine Ret.p ?_|refine Ret.n ?_)
  exact Ret.some (by simp [h1])
 ·by_cases h2 : b < a
  ·(repeat first|refine Ret.p ?_|refine Ret.n ?_)
   exact Ret.some (by simp [h1, h2])
  ·(repeat first|refine Ret.p ?_|refine Ret.n ?_)
   exact Ret.some (by simp [h1, h2])
def orL : List (List G) → Int
 | [] => 0
 | x :: q => if (gi x 0).int ≠ 0 then (gi x 0).int else orL q
theorem or_runs : ∀ (q p : List (List G)), p.length + q.length < 100000 →
  RetN st_cmp_Or_int_3 [.i 0, .l (p ++ q), .i ((p.length + q.length : Nat) : Int), .i (p.length : Int)] (q.length + 1) fun c g => c ≤ 1 ∧ g = [.i (orL q)]
 | [], p, hl => by
  refine RetN.stop (x := 1) (Ret.toEq ?_) ⟨by omega, rfl⟩
  unfold st_cmp_Or_int_3
  (dsimp +instances only [Aa,Ab,Ac,Ad,Ae,Af,Ag])
  (repeat first|refine Ret.p ?_|refine Ret.n ?_)
  exact Ret.some rfl
 | y :: q, p, hl => by
  simp only [List.length_cons] at hl
  have g1 : (p ++ y :: q).getD (p.length : Int).toNat [] = y := getD_mid _ _ _ _ _ (by simp)
  have hlen : (p ++ y :: q).length = p.length + q.length + 1 := by simp; omega
  by_cases he : (gi y 0).int = 0
  ·have ih := or_runs q (p ++ [y]) (by simp; omega)
   have e : orL (y :: q) = orL q := by simp [orL, he]
   rw [e]
   refine RetN.next (Ret.toEq ?_) ih
   unfold st_cmp_Or_int_3
   (dsimp +instances only [Aa,Ab,Ac,Ad,Ae,Af,Ag])
   simp only [g1, hlen, List.length_cons]
   (repeat first|refine Ret.p ?_|refine Ret.n ?_)
   refine Ret.some ?_
   simp
   omega
  ·refine RetN.stop (x := 0) (Ret.toEq ?_) ⟨by omega, rfl⟩
   unfold st_cmp_Or_int_3
   (dsimp +instances only [Aa,Ab,Ac,Ad,Ae,Af,Ag])
   simp only [g1, hlen, List.length_cons]
   (repeat first|refine Ret.p ?_|refine Ret.n ?_)
   refine Ret.some ?_
   simp [orL, he]
theorem or_eq (a b c d : Int) : F_cmp_Or_int [.l [[.i a], [.i b], [.i c], [.i d]]] = some [.i (or4 a b c d)] := by
 refine Ret.toEq ?_
 unfold F_cmp_Or_int
 (dsimp +instances only [Aa,Ab,Ac,Ad,Ae,Af,Ag])
 have h := or_runs [[.i a], [.i b], [.i c], [.i d]] [] (by simp)
 refine Ret.loop (h.to (by simp)) (by (first|rfl|assumption|(simp only [inI,sl]<;>omega))) ?_
 rintro x g ⟨hx, rfl⟩
 have e : orL [[.i a], [.i b], [.i c], [.i d]] = or4 a b c d := by
  simp only [orL, or4]
  (dsimp +instances only [Aa,Ab,Ac,Ad,Ae,Af,Ag])
  by_cases h1 : a = 0 <;> by_cases h2 : b = 0 <;> by_cases h3 : c = 0 <;> by_cases h4 : d = 0 <;> simp [h1, h2, h3, h4]
 rw [e]
 (dsimp +instances only [Aa,Ab,Ac,Ad,Ae,Af,Ag])
 exact Ret.test (fun _ => Ret.some rfl) fun _ => Ret.some rfl
theorem compare_eq {r s : List G} (hr : Con r) (hs : Con s) : F_log_Compare [.l [r], .l [s]] = some [.i (ordC r s)] := by
 obtain ⟨t, m, b, c, _, _, _, _, rfl, ht, hm, _⟩ := hr
 obtain ⟨t', m', b', c', _, _, _, _, rfl, ht', hm', _⟩ := hs
 refine Ret.toEq ?_
 unfold F_log_Compare
 (dsimp +instances only [Aa,Ab,Ac,Ad,Ae,Af,Ag])
 refine Ret.cE (cmpInt_eq t t') ?_
 refine Ret.cE (rfl : F_strings_Compare [.s c, .s c'] = some [.i (cmpS c c')]) ?_
 refine Ret.cE (rfl : F_strings_Compare [.s b, .s b'] = some [.i (cmpS b b')]) ?_
 refine Ret.cE (cmpInt_eq m m') ?_
 (dsimp +instances only [Aa,Ab,Ac,Ad,Ae,Af,Ag])
 refine Ret.cE (or_eq _ _ _ _) ?_
 exact Ret.some rfl
theorem cmpOrder : Cmp [.int .i64, .int .i64, .str, .str, .int .i64, .int .i64, .str, .str] F_r2_ContactOrder Con ordC := ⟨fun _ _ hr hs => order_eq hr hs, fun _ h => h.eta⟩
theorem cmpCompare : Cmp [.int .i64, .int .i64, .str, .str, .int .i64, .int .i64, .str, .str] F_log_Compare Con ordC := ⟨fun _ _ hr hs => compare_eq hr hs, fun _ h => h.eta⟩
def inB (v lo hi : Int) : Bool := leI lo v && leI v hi
theorem in_eq (v lo hi : Int) : F_r2_in [.i v, .i lo, .i hi] = some [.t (inB v lo hi)] := by
 unfold F_r2_in inB
 (dsimp +instances only [Aa,Ab,Ac,Ad,Ae,Af,Ag])
 cases leI lo v <;> rfl
theorem outside_eq (v lo hi : Int) : F_kit_Outside [.i v, .i lo, .i hi] = some [.t (!inB v lo hi)] := by
 unfold F_kit_Outside inB
 (dsimp +instances only [Aa,Ab,Ac,Ad,Ae,Af,Ag])
 have h1 : ltI v lo = !leI lo v := by rw [ltI_eq, leI_eq, Bool.eq_iff_iff]; simp
 have h2 : ltI hi v = !leI v hi := by rw [ltI_eq, leI_eq, Bool.eq_iff_iff]; simp
 rw [h1, h2]
 cases leI lo v <;> cases leI v hi <;> rfl
def okKey (s : ByteArray) : Bool := inL [⟨#[98, 50, 48]⟩, ⟨#[98, 52, 48]⟩, ⟨#[102, 105, 110]⟩, ⟨#[117, 115, 97]⟩] s
def okName (s : ByteArray) : Bool := inL [⟨#[]⟩] s || okKey s
def okCall (s : ByteArray) : Bool := (gi ((F_call_Is [.s s]).getD []) 0).bool
theorem isKey_eq {s : ByteArray} (h : s ∈ bands ∨ s ∈ names) : F_kit_IsKey [.s s] = some [.t (okKey s)] := by
 simp only [bands, names, List.mem_cons, List.not_mem_nil, or_false] at h
 rcases h with (rfl | rfl | rfl | rfl) | (rfl | rfl | rfl | rfl | rfl) <;> kernel_rfl
theorem key_eq {s : ByteArray} (h : s ∈ bands ∨ s ∈ names) : F_r2_Key [.s s] = some [.t (okKey s)] := by
 simp only [bands, names, List.mem_cons, List.not_mem_nil, or_false] at h
 rcases h with (rfl | rfl | rfl | rfl) | (rfl | rfl | rfl | rfl | rfl) <;> kernel_rfl
theorem isName_eq {s : ByteArray} (h : s ∈ names) : F_kit_IsName [.s s] = some [.t (okName s)] := by
 simp only [names, List.mem_cons, List.not_mem_nil, or_false] at h
 rcases h with (rfl | rfl | rfl | rfl | rfl) <;> kernel_rfl
theorem isCall_eq {s : ByteArray} (h : s ∈ calls) : F_call_Is [.s s] = some [.t (okCall s)] := by
 simp only [calls, List.mem_cons, List.not_mem_nil, or_false] at h
 rcases h with (rfl | rfl | rfl | rfl | rfl | rfl | rfl | rfl | rfl | rfl | rfl | rfl | rfl | rfl) <;> kernel_rfl
theorem call_eq {s : ByteArray} (h : s ∈ calls) : F_r2_Call [.s s] = some [.t (okCall s)] := by
 simp only [calls, List.mem_cons, List.not_mem_nil, or_false] at h
 rcases h with (rfl | rfl | rfl | rfl | rfl | rfl | rfl | rfl | rfl | rfl | rfl | rfl | rfl | rfl) <;> kernel_rfl
def faultC (r : List G) : Int :=
 bif !inB (gi r 0).int 0 345686399999 then 1 else bif !inB (gi r 1).int 1 3 then 4 else bif !okKey (gi r 2).str then 5 else bif !okCall (gi r 3).str then 3 else
 bif !inB (gi r 4).int 0 99999 then 1 else bif !inB (gi r 5).int 0 99999 then 1 else bif !okName (gi r 6).str then 5 else bif !okName (gi r 7).str then 5 else 0
theorem check_eq {r : List G} (hr : Con r) : F_log_CheckContact [.l [r]] = some [.i (faultC r)] := by
 obtain ⟨t, m, b, c, s, h, x, y, rfl, _, _, _, _, hb, hc, hx, hy⟩ := hr
 unfold F_log_CheckContact F_kit_IsMoment F_kit_IsMode faultC
 (dsimp +instances only [Aa,Ab,Ac,Ad,Ae,Af,Ag])
 have kb := isKey_eq (.inl hb)
 have kx := isName_eq hx
 have ky := isName_eq hy
 have kc := isCall_eq hc
 rw [outside_eq t, outside_eq m]
 rw [kb, kc, outside_eq s, outside_eq h, kx, ky]
 generalize inB t 0 345686399999 = b1
 generalize inB m 1 3 = b2
 generalize okKey b = b3
 generalize okCall c = b4
 generalize inB s 0 99999 = b5
 generalize inB h 0 99999 = b6
 generalize okName x = b7
 generalize okName y = b8
 cases b1 <;> cases b2 <;> cases b3 <;> cases b4 <;> cases b5 <;> cases b6 <;> cases b7 <;> cases b8 <;> rfl
theorem empty_eq (s : ByteArray) : (s.toList == (⟨#[]⟩ : ByteArray).toList) = inL [⟨#[]⟩] s := by
 rw [ByteArray.toList_eq, ByteArray.toList_eq]
 simp only [inL, eqS, List.any_cons, List.any_nil, Bool.or_false]
 rw [Bool.eq_iff_iff]
 simp only [beq_iff_eq]
 exact eq_comm
theorem fault_eq {r : List G} (hr : Con r) : F_r2_ContactFault [.l [r]] = some [.i (faultC r)] := by
 obtain ⟨t, m, b, c, s, h, x, y, rfl, _, _, _, _, hb, hc, hx, hy⟩ := hr
 unfold F_r2_ContactFault F_r2_Moment faultC okName
 (dsimp +instances only [Aa,Ab,Ac,Ad,Ae,Af,Ag])
 have kb := key_eq (.inl hb)
 have kx := key_eq (.inr hx)
 have ky := key_eq (.inr hy)
 have kc := call_eq hc
 have ex := empty_eq x
 have ey := empty_eq y
 generalize (⟨#[]⟩ : ByteArray) = z at ex ey ⊢
 simp only [in_eq, callF_some rfl, kb, kc, kx, ky]
 (dsimp +instances only [Aa,Ab,Ac,Ad,Ae,Af,Ag])
 rw [ex, ey]
 generalize inB t 0 345686399999 = b1
 generalize inB m 1 3 = b2
 generalize okKey b = b3
 generalize okCall c = b4
 generalize inB s 0 99999 = b5
 generalize inB h 0 99999 = b6
 generalize okKey x = b7
 generalize okKey y = b8
 generalize inL [z] x = b9
 generalize inL [z] y = b10
 cases b1 <;> cases b2 <;> cases b3 <;> cases b4 <;> cases b5 <;> cases b6 <;> cases b7 <;> cases b8 <;> cases b9 <;> cases b10 <;> rfl
def chk4 (K : List Kd) (C D : List G → Option (List G)) (d : List G) : Option (Option Nat × List G) :=
 (bif (ltI (gi d 3).int (gi d 2).int) then (bif ((nnI (gi d 3).int) && (ltI (gi d 3).int (((gi d 1).rows.length : Nat) : Int))) then (callF (C [.l [(gEta K ((gi d 1).rows.getD (((gi d 3).int).toNat) []))]]) fun g1 => (bif ((gi g1 0).int != 0) then some (some 0, [.i (gi g1 0).int]) else (bif (ltI 0 (gi d 3).int) then (bif (inI ((gi d 3).int - 1)) then (bif ((nnI ((gi d 3).int - 1)) && (ltI ((gi d 3).int - 1) (((gi d 0).rows.length : Nat) : Int))) then (callF (D [.l [(gEta K ((gi d 0).rows.getD (((gi d 3).int - 1).toNat) []))], .l [(gEta K ((gi d 1).rows.getD (((gi d 3).int).toNat) []))]]) fun g2 => (bif (leI 0 (gi g2 0).int) then some (some 0, [.i 7]) else (bif (inI ((gi d 3).int + 1)) then some (none, [.l (gi d 0).rows, .l (gi d 1).rows, .i (gi d 2).int, .i ((gi d 3).int + 1)]) else none))) else none) else none) else (bif (inI ((gi d 3).int + 1)) then some (none, [.l (gi d 0).rows, .l (gi d 1).rows, .i (gi d 2).int, .i ((gi d 3).int + 1)]) else none)))) else none) else some (some 1, []))
def chkF (K : List Kd) (C D : List G → Option (List G)) (d : List G) : Option (List G) :=
 (bif (ltI 2000 (((gi d 0).rows.length : Nat) : Int)) then some [.i 2] else (loopB true (LRun (chk4 K C D) [.l (gi d 0).rows, .l (gi d 0).rows, .i (((gi d 0).rows.length : Nat) : Int), .i 0]) fun cg3 g3 => (bif Nat.beq cg3 0 then some [.i (gi g3 0).int] else some [.i 0])))
def faultL : Option (List G) → List (List G) → Int
 | _, [] => 0
 | none, x :: q => if faultC x ≠ 0 then faultC x else faultL (some x) q
 | some y, x :: q => if faultC x ≠ 0 then faultC x else if 0 ≤ ordC y x then 7 else faultL (some x) q
def faultLog (l : List (List G)) : Int := if 2000 < l.length then 2 else faultL none l
section
variable {C D : List G → Option (List G)} (hC : ∀ r, Con r → C [.l [r]] = some [.i (faultC r)]) (hD : ∀ r s, Con r → Con s → D [.l [r], .l [s]] = some [.i (ordC r s)])
include hC hD
theorem chk4_runs : ∀ (q p : List (List G)), (∀ z ∈ p ++ q, Con z) → p.length + q.length < 100000 →
  RetN (chk4 [.int .i64, .int .i64, .str, .str, .int .i64, .int .i64, .str, .str] C D) [.l (p ++ q), .l (p ++ q), .i ((p.length + q.length : Nat) : Int), .i (p.length : Int)] (q.length + 1) fun c g => (c = 0 ∧ g = [.i (faultL p.getLast? q)]) ∨ c = 1 ∧ faultL p.getLast? q = 0
 | [], p, hQ, hl => by
  refine RetN.stop (x := 1) (d' := []) (Ret.toEq ?_) (.inr ⟨rfl, by unfold faultL; rfl⟩)
  unfold chk4
  (dsimp +instances only [Aa,Ab,Ac,Ad,Ae,Af,Ag])
  (repeat first|refine Ret.p ?_|refine Ret.n ?_)
  exact Ret.some rfl
 | x :: q, p, hQ, hl => by
  simp only [List.length_cons] at hl
  have hx : Con x := hQ x (by simp)
  have g1 : (p ++ x :: q).getD (p.length : Int).toNat [] = x := getD_mid _ _ _ _ _ (by simp)
  have hlen : (p ++ x :: q).length = p.length + q.length + 1 := by simp; omega
  by_cases hf : faultC x = 0
  ·have ih := chk4_runs q (p ++ [x]) (by simpa using hQ) (by simp; omega)
   rw [List.getLast?_concat] at ih
   rcases List.eq_nil_or_concat p with rfl | ⟨p', y, rfl⟩
   ·have e : faultL ([] : List (List G)).getLast? (x :: q) = faultL (some x) q := by simp [faultL, hf]
    rw [e]
    refine RetN.next (Ret.toEq ?_) ih
    unfold chk4
    (dsimp +instances only [Aa,Ab,Ac,Ad,Ae,Af,Ag])
    simp only [g1, hlen, List.length_cons, hx.eta]
    (repeat first|refine Ret.p ?_|refine Ret.n ?_)
    refine Ret.cE (hC x hx) ?_
    (dsimp +instances only [Aa,Ab,Ac,Ad,Ae,Af,Ag])
    simp only [hf]
    (repeat first|refine Ret.p ?_|refine Ret.n ?_)
    refine Ret.some ?_
    simp
    omega
   ·rw [List.concat_eq_append] at *
    have hy : Con y := hQ y (by simp)
    have g2 : ((p' ++ [y]) ++ x :: q).getD (((p' ++ [y]).length : Int) - 1).toNat [] = y := by
     have e : (p' ++ [y]) ++ x :: q = p' ++ y :: x :: q := by simp
     rw [e]; exact getD_mid _ _ _ _ _ (by simp)
    have hp : (p' ++ [y]).length = p'.length + 1 := by simp
    have hl0 : (p' ++ [y]).getLast? = some y := by simp
    rw [hl0]
    by_cases ho : 0 ≤ ordC y x
    ·refine RetN.stop (x := 0) (d' := [.i 7]) (Ret.toEq ?_) (.inl ⟨rfl, by simp [faultL, hf, ho]⟩)
     unfold chk4
     (dsimp +instances only [Aa,Ab,Ac,Ad,Ae,Af,Ag])
     simp only [g1, g2, hlen, List.length_cons, hx.eta, hy.eta]
     (repeat first|refine Ret.p ?_|refine Ret.n ?_)
     refine Ret.cE (hC x hx) ?_
     (dsimp +instances only [Aa,Ab,Ac,Ad,Ae,Af,Ag])
     simp only [hf]
     (repeat first|refine Ret.p ?_|refine Ret.n ?_)
     refine Ret.cE (hD y x hy hx) ?_
     (dsimp +instances only [Aa,Ab,Ac,Ad,Ae,Af,Ag])
     (repeat first|refine Ret.p ?_|refine Ret.n ?_)
     exact Ret.some rfl
    ·have e : faultL (some y) (x :: q) = faultL (some x) q := by simp [faultL, hf, ho]
     rw [e]
     refine RetN.next (Ret.toEq ?_) ih
     unfold chk4
     (dsimp +instances only [Aa,Ab,Ac,Ad,Ae,Af,Ag])
     simp only [g1, g2, hlen, List.length_cons, hx.eta, hy.eta]
     (repeat first|refine Ret.p ?_|refine Ret.n ?_)
     refine Ret.cE (hC x hx) ?_
     (dsimp +instances only [Aa,Ab,Ac,Ad,Ae,Af,Ag])
     simp only [hf]
     (repeat first|refine Ret.p ?_|refine Ret.n ?_)
     refine Ret.cE (hD y x hy hx) ?_
     (dsimp +instances only [Aa,Ab,Ac,Ad,Ae,Af,Ag])
     (repeat first|refine Ret.p ?_|refine Ret.n ?_)
     refine Ret.some ?_
     simp
     omega
  ·refine RetN.stop (x := 0) (d' := [.i (faultC x)]) (Ret.toEq ?_) (.inl ⟨rfl, by cases hg : p.getLast? <;> simp [faultL, hf]⟩)
   unfold chk4
   (dsimp +instances only [Aa,Ab,Ac,Ad,Ae,Af,Ag])
   simp only [g1, hlen, List.length_cons, hx.eta]
   (repeat first|refine Ret.p ?_|refine Ret.n ?_)
   refine Ret.cE (hC x hx) ?_
   (dsimp +instances only [Aa,Ab,Ac,Ad,Ae,Af,Ag])
   refine Ret.pos (by simpa using hf) (Ret.some rfl)
theorem chkF_eq (l : List (List G)) (hl : ∀ z ∈ l, Con z) (hn : l.length < 100000) : chkF [.int .i64, .int .i64, .str, .str, .int .i64, .int .i64, .str, .str] C D [.l l] = some [.i (faultLog l)] := by
 refine Ret.toEq ?_
 unfold chkF faultLog
 (dsimp +instances only [Aa,Ab,Ac,Ad,Ae,Af,Ag])
 by_cases h : 2000 < l.length
 ·(repeat first|refine Ret.p ?_|refine Ret.n ?_)
  exact Ret.some (by simp [h])
 ·(repeat first|refine Ret.p ?_|refine Ret.n ?_)
  have h1 := chk4_runs hC hD l [] (by simpa using hl) (by simpa using hn)
  have h0 : ((0 : Nat) : Int) = 0 := rfl
  simp only [List.nil_append, List.length_nil, Nat.zero_add, h0] at h1
  refine Ret.loop (h1.to (by omega)) (by (first|rfl|assumption|(simp only [inI,sl]<;>omega))) ?_
  rintro c g (⟨rfl, rfl⟩ | ⟨rfl, h2⟩)
  ·(dsimp +instances only [Aa,Ab,Ac,Ad,Ae,Af,Ag])
   (repeat first|refine Ret.p ?_|refine Ret.n ?_)
   refine Ret.some ?_
   rw [if_neg h]
   rfl
  ·(repeat first|refine Ret.p ?_|refine Ret.n ?_)
   refine Ret.some ?_
   rw [if_neg h]
   exact congrArg (fun z => [G.i z]) h2.symm
end
theorem checkLog_eq (l : List (List G)) (hl : ∀ z ∈ l, Con z) (hn : l.length < 100000) : F_log_CheckLog [.l l] = some [.i (faultLog l)] :=
 chkF_eq (fun _ h => check_eq h) (fun _ _ h h' => compare_eq h h') l hl hn
theorem logFault_eq (l : List (List G)) (hl : ∀ z ∈ l, Con z) (hn : l.length < 100000) : F_r2_LogFault [.l l] = some [.i (faultLog l)] :=
 chkF_eq (fun _ h => fault_eq h) (fun _ _ h h' => order_eq h h') l hl hn
theorem loop_Contacts (l : List (List G)) (n : Nat) (hn : n ≤ 20) : ∀ (k i : Nat) (a t : Int) (acc : List (List G)), i + k = n → 0 ≤ a → a ≤ 700000 + 21 * i → -(1500000 * (i : Int)) ≤ t → t ≤ 1500000 * (i : Int) → (∀ z ∈ acc, ConT z) → acc.length = i →
  RetN st_mk_Contacts_4 [.l l, .i a, .l acc, .i t, .i (n : Int), .i (i : Int)] (k + 1) fun c g => c = 0 ∧ ∃ b rows, g = [.l l, .i b, .l rows] ∧ a ≤ b ∧ b ≤ a + 21 * k ∧ (∀ z ∈ rows, ConT z) ∧ rows.length = n
 | 0, i, a, t, acc, hi, ha, ha1, ht, ht1, hQ, hl => by
  refine RetN.stop (x := 0) (Ret.toEq ?_) ⟨rfl, a, acc, rfl, by omega, by omega, hQ, by omega⟩
  unfold st_mk_Contacts_4
  (dsimp +instances only [Aa,Ab,Ac,Ad,Ae,Af,Ag])
  (repeat first|refine Ret.p ?_|refine Ret.n ?_)
  exact Ret.some rfl
 | k + 1, i, a, t, acc, hi, ha, ha1, ht, ht1, hQ, hl => by
  have key : Ret (st_mk_Contacts_4 [.l l, .i a, .l acc, .i t, .i (n : Int), .i (i : Int)]) fun o => ∃ b r v, o = (none, [.l l, .i b, .l (acc ++ [r]), .i (t + v), .i (n : Int), .i ((i : Int) + 1)]) ∧ a ≤ b ∧ b ≤ a + 21 ∧ ConT r ∧ 0 ≤ v ∧ v ≤ 1500000 := by
   unfold st_mk_Contacts_4
   (dsimp +instances only [Aa,Ab,Ac,Ad,Ae,Af,Ag])
   (repeat first|refine Ret.p ?_|refine Ret.n ?_)
   refine Ret.call (r_PickB 0 1500000 l a _ ha (by omega) (by kernel_rfl) (by kernel_rfl)) ?_
   rintro _ ⟨v, rfl, hv0, hv1⟩
   (dsimp +instances only [Aa,Ab,Ac,Ad,Ae,Af,Ag])
   (repeat first|refine Ret.p ?_|refine Ret.n ?_)
   refine Ret.call (r_SomeContact l (a + 1) (t + v) (by omega) (by omega) ⟨by omega, by omega⟩) ?_
   rintro _ ⟨b, r, rfl, hb0, hb1, hr⟩
   (dsimp +instances only [Aa,Ab,Ac,Ad,Ae,Af,Ag])
   simp only [hr.to.eta]
   (repeat first|refine Ret.p ?_|refine Ret.n ?_)
   exact Ret.some ⟨b, r, v, rfl, by omega, by omega, hr, hv0, hv1⟩
  obtain ⟨_, h, b, r, v, rfl, h1, h2, h3, h4, h5⟩ := key
  have ih := loop_Contacts l n hn k (i + 1) b (t + v) (acc ++ [r]) (by omega) (by omega) (by omega) (by omega) (by omega) (by
   intro z hz
   rcases List.mem_append.1 hz with hz | hz
   ·exact hQ z hz
   ·simp at hz; exact hz ▸ h3) (by simp [hl])
  refine RetN.next h (ih.mono ?_)
  rintro c g ⟨rfl, b', rows, rfl, q1, q2, q3, q4⟩
  exact ⟨rfl, b', rows, rfl, by omega, by omega, q3, q4⟩
theorem sortOrder_eq (rows : List (List G)) (hr : ∀ y ∈ rows, Con y) (hn : rows.length ≤ 20) : F_srtS_Contact [.l rows] = some [.l (sortA (ltC ordC) rows)] :=
 sortF_eq cmpOrder rows hr hn
def sameC (r s : List G) : Bool := ordC r s == 0
theorem eqvOrder : Eqv [.int .i64, .int .i64, .str, .str, .int .i64, .int .i64, .str, .str] F_mk_Contacts_1 Con sameC := ⟨fun r s hr hs => by
 refine Ret.toEq ?_
 unfold F_mk_Contacts_1
 (dsimp +instances only [Aa,Ab,Ac,Ad,Ae,Af,Ag])
 simp only [hr.eta, hs.eta]
 refine Ret.cE (order_eq hr hs) ?_
 exact Ret.some rfl, fun _ h => h.eta⟩
def zC : List G := [.i 0, .i 0, .s (⟨#[]⟩ : ByteArray), .s (⟨#[]⟩ : ByteArray), .i 0, .i 0, .s (⟨#[]⟩ : ByteArray), .s (⟨#[]⟩ : ByteArray)]
theorem r_Contacts (l : List (List G)) (a n : Int) (ha : 0 ≤ a) (ha1 : a ≤ 700000) (h0 : 0 ≤ n) (h1 : n ≤ 20) :
  Ret (F_mk_Contacts [.l l, .i a, .i n]) fun g => ∃ b rows, g = [.l l, .i b, .l rows] ∧ a ≤ b ∧ b ≤ a + 420 ∧ (∀ z ∈ rows, ConT z) ∧ (rows.length : Int) ≤ n := by
 obtain ⟨n, rfl⟩ := Int.eq_ofNat_of_zero_le h0
 unfold F_mk_Contacts
 (dsimp +instances only [Aa,Ab,Ac,Ad,Ae,Af,Ag])
 have hl := loop_Contacts l n (by omega) n 0 a 0 [] (by omega) ha (by omega) (by omega) (by omega) (by simp) rfl
 refine Ret.loop (hl.to (by omega)) (by (first|rfl|assumption|(simp only [inI,sl]<;>omega))) ?_
 rintro c g ⟨rfl, b, rows, rfl, h2, h3, h4, h5⟩
 (dsimp +instances only [Aa,Ab,Ac,Ad,Ae,Af,Ag])
 refine Ret.callb (Ret.eq (sortOrder_eq rows (fun z hz => (h4 z hz).to) (by omega))) (by (first|rfl|assumption|(simp only [inI,sl]<;>omega))) ?_
 rintro _ rfl
 (dsimp +instances only [Aa,Ab,Ac,Ad,Ae,Af,Ag])
 have hs := sortA_all (lt := ltC ordC) h4
 have hsl := sortA_length (ltC ordC) rows
 refine Ret.callb (P := fun g => ∃ J, g = [.l (compact sameC (sortA (ltC ordC) rows) ++ J), .i ((compact sameC (sortA (ltC ordC) rows)).length : Int)] ∧ (compact sameC (sortA (ltC ordC) rows) ++ J).length = (sortA (ltC ordC) rows).length)
  (cmpfF_eq (Z := zC) eqvOrder (sortA (ltC ordC) rows) (fun z hz => (hs z hz).to) (by omega)) (by (first|rfl|assumption|(simp only [inI,sl]<;>omega))) ?_
 rintro _ ⟨J, rfl, hJ⟩
 (dsimp +instances only [Aa,Ab,Ac,Ad,Ae,Af,Ag])
 have hle : (compact sameC (sortA (ltC ordC) rows)).length ≤ (sortA (ltC ordC) rows).length := compact_length _ _
 simp only [hJ]
 (repeat first|refine Ret.p ?_|refine Ret.n ?_)
 refine Ret.some ⟨b, compact sameC (sortA (ltC ordC) rows), by simp, by omega, by omega, fun z hz => hs z (compact_mem hz), by omega⟩
theorem kdsC : Kds [.int .i64, .int .i64, .str, .str, .int .i64, .int .i64, .str, .str] Con := ⟨fun _ h => h.eta⟩
def clash : List (List G) → Bool
 | [] => false
 | [_] => false
 | x :: y :: q => ordC x y == 0 || clash (y :: q)
def joined (m : List (List G)) : List G := bif clash m then [.l [], .i 13] else bif Nat.blt 2000 m.length then [.l [], .i 2] else [.l m, .i 0]
theorem clash_drop (m : List (List G)) (i : Nat) (h : i + 1 < m.length) : clash (m.drop i) = (ordC (m.getD i []) (m.getD (i + 1) []) == 0 || clash (m.drop (i + 1))) := by
 rw [List.drop_eq_getElem_cons (show i < m.length by omega), List.drop_eq_getElem_cons h]
 simp only [clash]
 rw [List.getD_eq_getElem?_getD, List.getD_eq_getElem?_getD, List.getElem?_eq_getElem h, List.getElem?_eq_getElem (show i < m.length by omega)]
 rfl
theorem clash_last (m : List (List G)) (i : Nat) (h : m.length ≤ i + 1) : clash (m.drop i) = false := by
 have : (m.drop i).length ≤ 1 := by simp; omega
 match hm : m.drop i, this with
 | [], _ => rfl
 | [_], _ => rfl
theorem getD_app {m J : List (List G)} {i : Nat} (h : i < m.length) : (m ++ J).getD i [] = m.getD i [] := by
 rw [List.getD_eq_getElem?_getD, List.getD_eq_getElem?_getD, List.getElem?_append_left h]
theorem getD_Con {m : List (List G)} {i : Nat} (hm : ∀ z ∈ m, Con z) (h : i < m.length) : Con (m.getD i []) := by
 rw [List.getD_eq_getElem?_getD, List.getElem?_eq_getElem h]
 exact hm _ (List.getElem_mem h)
theorem merge_runs (m J : List (List G)) (hm : ∀ z ∈ m, Con z) (hl : m.length < 100000) : ∀ (k i : Nat), i + k = m.length →
  RetN st_log_Merge_8 [.l (m ++ J), .i (m.length : Int), .i ((i : Int) + 1)] (k + 1) fun c g => (c = 0 ∧ g = [.l [], .i 13] ∧ clash (m.drop i) = true) ∨ c = 1 ∧ g = [.l (m ++ J), .i (m.length : Int)] ∧ clash (m.drop i) = false
 | 0, i, hi => by
  refine RetN.stop (x := 1) (Ret.toEq ?_) (.inr ⟨rfl, rfl, clash_last m i (by omega)⟩)
  unfold st_log_Merge_8
  (dsimp +instances only [Aa,Ab,Ac,Ad,Ae,Af,Ag])
  simp only [Int.toNat_natCast]
  (repeat first|refine Ret.p ?_|refine Ret.n ?_)
  exact Ret.some rfl
 | k + 1, i, hi => by
  by_cases he : i + 1 < m.length
  ·have t0 : ((i : Int) + 1 - 1).toNat = i := by omega
   have t1 : ((i : Int) + 1).toNat = i + 1 := by omega
   have t2 : 0 + i = i := by omega
   have t3 : 0 + (i + 1) = i + 1 := by omega
   have hx := getD_Con hm (show i < m.length by omega)
   have hy := getD_Con hm he
   have key : Ret (st_log_Merge_8 [.l (m ++ J), .i (m.length : Int), .i ((i : Int) + 1)]) fun o => o = bif ordC (m.getD i []) (m.getD (i + 1) []) == 0 then (some 0, [.l [], .i 13]) else (none, [.l (m ++ J), .i (m.length : Int), .i ((i : Int) + 1 + 1)]) := by
    unfold st_log_Merge_8
    (dsimp +instances only [Aa,Ab,Ac,Ad,Ae,Af,Ag])
    simp only [Int.toNat_natCast, t0, t1, t2, t3, getD_app he, getD_app (show i < m.length by omega), hx.eta, hy.eta]
    (repeat first|refine Ret.p ?_|refine Ret.n ?_)
    refine Ret.cE (compare_eq hx hy) ?_
    (dsimp +instances only [Aa,Ab,Ac,Ad,Ae,Af,Ag])
    refine Ret.test (fun h => ?_) fun h => ?_
    ·rw [h]
     exact Ret.some rfl
    ·rw [h]
     (repeat first|refine Ret.p ?_|refine Ret.n ?_)
     exact Ret.some rfl
   obtain ⟨o, h, rfl⟩ := key
   rw [clash_drop m i he]
   cases hc : ordC (m.getD i []) (m.getD (i + 1) []) == 0 with
   | true =>
    rw [hc] at h
    exact RetN.stop h (.inl ⟨rfl, rfl, rfl⟩)
   | false =>
    rw [hc] at h
    refine RetN.next h ((merge_runs m J hm hl k (i + 1) (by omega)).mono ?_)
    intro c g hcg
    simpa using hcg
  ·have : RetN st_log_Merge_8 [.l (m ++ J), .i (m.length : Int), .i ((i : Int) + 1)] 1 fun c g => c = 1 ∧ g = [.l (m ++ J), .i (m.length : Int)] := by
    refine RetN.stop (x := 1) (Ret.toEq ?_) ⟨rfl, rfl⟩
    unfold st_log_Merge_8
    (dsimp +instances only [Aa,Ab,Ac,Ad,Ae,Af,Ag])
    simp only [Int.toNat_natCast]
    (repeat first|refine Ret.p ?_|refine Ret.n ?_)
    exact Ret.some rfl
   obtain ⟨n, c, g, h1, h2, h3, h4⟩ := this
   exact ⟨n, c, g, h1, by omega, .inr ⟨h3, h4, clash_last m i (by omega)⟩⟩
def mixed (a b : List (List G)) : List (List G) := compact (rowEq [.int .i64, .int .i64, .str, .str, .int .i64, .int .i64, .str, .str]) (sortA (ltC ordC) (a ++ b))
def lacking (others l : List (List G)) : List (List G) := l.filter fun x => !others.any fun y => rowEq [.int .i64, .int .i64, .str, .str, .int .i64, .int .i64, .str, .str] x y
theorem without_ok (l o : List (List G)) (hl : ∀ z ∈ l, Con z) (ho : ∀ z ∈ o, Con z) (h1 : l.length < 100000) (h2 : o.length < 100000) : F_log_Without [.l l, .l o] = some [.l (lacking o l)] := by
 refine Ret.toEq ?_
 unfold F_log_Without
 (dsimp +instances only [Aa,Ab,Ac,Ad,Ae,Af,Ag])
 have r1 := range_all (st := st_log_Without_3) (σ := List (List G) × Nat) (fun s i => [.l s.1, .i (s.2 : Int), .l l, .l o, .i (o.length : Int), .i (i : Int)]) o (fun s => (0, [.l s.1, .i (s.2 : Int), .l l]))
  (fun s i => ∀ key, (gi (mget [.int .i64, .int .i64, .str, .str, .int .i64, .int .i64, .str, .str] s.1 key [.t false]) 0).bool = (o.take i).any fun y => rowEq [.int .i64, .int .i64, .str, .str, .int .i64, .int .i64, .str, .str] key y) ([], 0) (by omega) (fun key => by simp [mget_nil]; rfl)
  (fun s i x hI hi hx hm ht => by
   refine Ret.mono (P := fun a => a = (none, [.l (mput [.int .i64, .int .i64, .str, .str, .int .i64, .int .i64, .str, .str] s.1 x [.t true] s.2), .i ((mclk [.int .i64, .int .i64, .str, .str, .int .i64, .int .i64, .str, .str] s.1 x s.2 : Nat) : Int), .l l, .l o, .i (o.length : Int), .i ((i : Int) + 1)])) ?_ ?_
   ·unfold st_log_Without_3
    (dsimp +instances only [Aa,Ab,Ac,Ad,Ae,Af,Ag])
    simp only [Int.toNat_natCast, hx, (ho x hm).eta]
    (repeat first|refine Ret.p ?_|refine Ret.n ?_)
    exact Ret.some rfl
   ·rintro _ rfl
    refine ⟨(mput [.int .i64, .int .i64, .str, .str, .int .i64, .int .i64, .str, .str] s.1 x [.t true] s.2, mclk [.int .i64, .int .i64, .str, .str, .int .i64, .int .i64, .str, .str] s.1 x s.2), rfl, fun key => ?_⟩
    rw [mget_mput, ht, List.any_append, ← hI key]
    cases hk : rowEq [.int .i64, .int .i64, .str, .str, .int .i64, .int .i64, .str, .str] key x <;> simp [hk, Aa, Ag])
  (fun s hI => by
   unfold st_log_Without_3
   (dsimp +instances only [Aa,Ab,Ac,Ad,Ae,Af,Ag])
   simp only [Int.toNat_natCast]
   (repeat first|refine Ret.p ?_|refine Ret.n ?_)
   exact Ret.some rfl)
 refine Ret.loop r1 rfl ?_
 rintro c g ⟨⟨m, n⟩, hI, rfl, rfl⟩
 (dsimp +instances only [Aa,Ab,Ac,Ad,Ae,Af,Ag])
 rw [List.take_length] at hI
 have r2 := range_all (st := st_log_Without_9) (σ := List (List G)) (fun s i => [.l m, .i (n : Int), .l s, .l l, .i (l.length : Int), .i (i : Int)]) l (fun s => (0, [.l s]))
  (fun s i => s = lacking o (l.take i)) [] (by omega) rfl
  (fun s i x hs hi hx hm ht => by
   have hlen : s.length ≤ i := by
    rw [hs]
    exact Nat.le_trans (List.length_filter_le _ _) (by simp; omega)
   have e : lacking o (l.take (i + 1)) = s ++ bif o.any (fun y => rowEq [.int .i64, .int .i64, .str, .str, .int .i64, .int .i64, .str, .str] x y) then [] else [x] := by
    rw [ht, hs]
    unfold lacking
    rw [List.filter_append]
    congr 1
    cases ha : o.any (fun y => rowEq [.int .i64, .int .i64, .str, .str, .int .i64, .int .i64, .str, .str] x y) <;> simp [ha]
   unfold st_log_Without_9
   (dsimp +instances only [Aa,Ab,Ac,Ad,Ae,Af,Ag])
   simp only [Int.toNat_natCast, hx, (hl x hm).eta, hI x]
   refine Ret.p (Ret.p ?_)
   cases ha : o.any (fun y => rowEq [.int .i64, .int .i64, .str, .str, .int .i64, .int .i64, .str, .str] x y) with
   | false =>
    rw [ha] at e
    (repeat first|refine Ret.p ?_|refine Ret.n ?_)
    exact Ret.some ⟨s ++ [x], rfl, e.symm⟩
   | true =>
    rw [ha] at e
    (repeat first|refine Ret.p ?_|refine Ret.n ?_)
    exact Ret.some ⟨s, rfl, by rw [e]; simp⟩)
  (fun s hI => by
   unfold st_log_Without_9
   (dsimp +instances only [Aa,Ab,Ac,Ad,Ae,Af,Ag])
   (repeat first|refine Ret.p ?_|refine Ret.n ?_)
   exact Ret.some rfl)
 simp only [Int.toNat_natCast]
 refine Ret.loop r2 rfl ?_
 rintro c g ⟨s, rfl, rfl, rfl⟩
 (dsimp +instances only [Aa,Ab,Ac,Ad,Ae,Af,Ag])
 rw [List.take_length]
 (repeat first|refine Ret.p ?_|refine Ret.n ?_)
 exact Ret.some rfl
theorem both_eq (a b : List (List G)) (ha : ∀ z ∈ a, Con z) (hb : ∀ z ∈ b, Con z) (h1 : a.length < 100000) (h2 : b.length < 100000) : F_log_checkBoth [.l a, .l b] = some [.i (bif faultLog a != 0 then faultLog a else faultLog b)] := by
 unfold F_log_checkBoth
 (dsimp +instances only [Aa,Ab,Ac,Ad,Ae,Af,Ag])
 rw [checkLog_eq a ha (by omega), checkLog_eq b hb (by omega)]
 simp only [callF_some rfl]
 (dsimp +instances only [Aa,Ab,Ac,Ad,Ae,Af,Ag])
 cases faultLog a != 0 <;> rfl
theorem lacks_ok (a b : List (List G)) (ha : ∀ z ∈ a, Con z) (hb : ∀ z ∈ b, Con z) (h1 : a.length < 100000) (h2 : b.length < 100000) :
  F_log_Lacks [.l a, .l b] = some (bif faultLog a != 0 then [.l [], .i (faultLog a)] else bif faultLog b != 0 then [.l [], .i (faultLog b)] else [.l (lacking a b), .i 0]) := by
 refine Ret.toEq ?_
 unfold F_log_Lacks
 (dsimp +instances only [Aa,Ab,Ac,Ad,Ae,Af,Ag])
 refine Ret.cE (both_eq a b ha hb h1 h2) ?_
 (dsimp +instances only [Aa,Ab,Ac,Ad,Ae,Af,Ag])
 cases h3 : faultLog a != 0 with
 | true =>
  simp only [cond_true, h3]
  exact Ret.some rfl
 | false =>
  simp only [cond_false]
  cases h4 : faultLog b != 0 with
  | true => exact Ret.some rfl
  | false =>
   simp only [cond_false]
   refine Ret.cE (without_ok b a hb ha h2 h1) ?_
   exact Ret.some rfl
theorem equal_refl (a : List (List G)) (ha : ∀ z ∈ a, Con z) (hn : a.length < 100000) : F_sl_Equal_Contact [.l a, .l a] = some [.t true] := by
 have h := equalF_eq kdsC a a ha ha hn
 rw [eqlA_refl rfl] at h
 exact h
theorem bytes_flip' : ∀ a b : List UInt8, Lib.compareBytes b a = - Lib.compareBytes a b
 | [], [] => rfl
 | [], _ :: _ => rfl
 | _ :: _, [] => rfl
 | a :: xs, b :: ys => by
  simp only [Lib.compareBytes]
  have ih := bytes_flip' xs ys
  by_cases h1 : a < b
  ·have h2 : ¬ b < a := fun h => UInt8.lt_irrefl a (UInt8.lt_trans h1 h)
   simp [h1, h2]
  ·by_cases h2 : b < a
   ·simp [h1, h2]
   ·simp [h1, h2, ih]
theorem bytes_lt_trans' : ∀ {a b c : List UInt8}, Lib.compareBytes a b < 0 → Lib.compareBytes b c < 0 → Lib.compareBytes a c < 0
 | [], [], _, h, _ => by simp [Lib.compareBytes] at h
 | [], _ :: _, [], _, h => by simp [Lib.compareBytes] at h
 | [], _ :: _, _ :: _, _, _ => by simp [Lib.compareBytes]
 | _ :: _, [], _, h, _ => by simp [Lib.compareBytes] at h
 | _ :: _, _ :: _, [], _, h => by simp [Lib.compareBytes] at h
 | a :: xs, b :: ys, c :: zs, h1, h2 => by
  simp only [Lib.compareBytes] at h1 h2 ⊢
  by_cases hab : a < b
  ·by_cases hbc : b < c
   ·rw [if_pos (UInt8.lt_trans hab hbc)]
    omega
   ·by_cases hcb : c < b
    ·rw [if_neg hbc, if_pos hcb] at h2
     omega
    ·have e : b = c := UInt8.le_antisymm (UInt8.not_lt.1 hcb) (UInt8.not_lt.1 hbc)
     subst e
     rw [if_pos hab]
     omega
  ·by_cases hba : b < a
   ·rw [if_neg hab, if_pos hba] at h1
    omega
   ·have e : a = b := UInt8.le_antisymm (UInt8.not_lt.1 hba) (UInt8.not_lt.1 hab)
    subst e
    rw [if_neg (UInt8.lt_irrefl a), if_neg (UInt8.lt_irrefl a)] at h1
    by_cases hac : a < c
    ·rw [if_pos hac]
     omega
    ·by_cases hca : c < a
     ·rw [if_neg hac, if_pos hca] at h2
      omega
     ·rw [if_neg hac, if_neg hca] at h2 ⊢
      exact bytes_lt_trans' h1 h2
theorem str_ext {a b : ByteArray} (h : (a.toList == b.toList) = true) : a = b := by
 rw [ByteArray.toList_eq, ByteArray.toList_eq, beq_iff_eq] at h
 exact ByteArray.ext (Array.toList_inj.1 h)
theorem cmpS_z {a b : ByteArray} : cmpS a b = 0 ↔ a = b := by
 have h := str_eq a b
 constructor
 ·intro e
  rw [decide_eq_true (p := cmpS a b = 0) e] at h
  exact str_ext h
 ·rintro rfl
  have h2 : (a.toList == a.toList) = true := by simp
  rw [h2] at h
  exact of_decide_eq_true h.symm
theorem cmpI_z {a b : Int} : cmpI a b = 0 ↔ a = b := by
 unfold cmpI
 constructor
 ·intro h
  split at h
  ·omega
  ·split at h <;> omega
 ·rintro rfl
  simp
theorem cmpI_lt {a b : Int} : cmpI a b < 0 ↔ a < b := by
 unfold cmpI
 constructor
 ·intro h
  split at h
  ·assumption
  ·split at h <;> omega
 ·intro h
  rw [if_pos h]
  omega
structure Ordr {α : Type} (c : α → α → Int) : Prop where
 flip : ∀ a b, c b a = - c a b
 eq : ∀ a b, c a b = 0 → a = b
 tr : ∀ a b d, c a b < 0 → c b d < 0 → c a d < 0
theorem ordrI : Ordr cmpI := ⟨fun a b => by unfold cmpI; split <;> split <;> first | omega | (split <;> omega) | skip, fun a b h => cmpI_z.1 h, fun a b d h1 h2 => cmpI_lt.2 (Int.lt_trans (cmpI_lt.1 h1) (cmpI_lt.1 h2))⟩
theorem ordrS : Ordr cmpS := ⟨fun a b => bytes_flip' _ _, fun a b h => cmpS_z.1 h, fun a b d h1 h2 => bytes_lt_trans' h1 h2⟩
theorem Ordr.le {α : Type} {c : α → α → Int} (h : Ordr c) (a b d : α) (h1 : c a b ≤ 0) (h2 : c b d ≤ 0) : c a d ≤ 0 := by
 by_cases e1 : c a b = 0
 ·rw [h.eq a b e1]
  exact h2
 ·by_cases e2 : c b d = 0
  ·rw [← h.eq b d e2]
   exact h1
  ·have := h.tr a b d (by omega) (by omega)
   omega
theorem Ordr.refl {α : Type} {c : α → α → Int} (h : Ordr c) (a : α) : c a a = 0 := by
 have := h.flip a a
 omega
def or2 (a b : Int) : Int := if a ≠ 0 then a else b
theorem or2_le {α : Type} {c : α → α → Int} (h : Ordr c) (a b d : α) (x y z : Int) (h1 : or2 (c a b) x ≤ 0) (h2 : or2 (c b d) y ≤ 0) (h3 : x ≤ 0 → y ≤ 0 → z ≤ 0) : or2 (c a d) z ≤ 0 := by
 unfold or2 at *
 by_cases e1 : c a b = 0
 ·have e := h.eq a b e1
  subst e
  rw [if_neg (by simpa using e1)] at h1
  by_cases e2 : c a d = 0
  ·rw [if_neg (by simpa using e2)] at h2 ⊢
   exact h3 h1 h2
  ·rw [if_pos e2] at h2 ⊢
   exact h2
 ·rw [if_pos e1] at h1
  by_cases e2 : c b d = 0
  ·have e := h.eq b d e2
   subst e
   rw [if_pos e1]
   exact h1
  ·rw [if_pos e2] at h2
   have := h.tr a b d (by omega) (by omega)
   rw [if_pos (by omega)]
   omega
theorem or2_lt {α : Type} {c : α → α → Int} (h : Ordr c) (a b d : α) (x y z : Int) (h1 : or2 (c a b) x < 0) (h2 : or2 (c b d) y < 0) (h3 : x < 0 → y < 0 → z < 0) : or2 (c a d) z < 0 := by
 unfold or2 at *
 by_cases e1 : c a b = 0
 ·have e := h.eq a b e1
  subst e
  rw [if_neg (by simpa using e1)] at h1
  by_cases e2 : c a d = 0
  ·rw [if_neg (by simpa using e2)] at h2 ⊢
   exact h3 h1 h2
  ·rw [if_pos e2] at h2 ⊢
   exact h2
 ·rw [if_pos e1] at h1
  by_cases e2 : c b d = 0
  ·have e := h.eq b d e2
   subst e
   rw [if_pos e1]
   exact h1
  ·rw [if_pos e2] at h2
   have := h.tr a b d (by omega) (by omega)
   rw [if_pos (by omega)]
   omega
theorem or2_flip {a b a' b' : Int} (h1 : a' = - a) (h2 : b' = - b) : or2 a' b' = - or2 a b := by
 unfold or2
 subst h1 h2
 by_cases e : a = 0
 ·subst e
  simp
 ·rw [if_pos e, if_pos (by omega)]
theorem lin_of {c : List G → List G → Int} (hf : ∀ a b, c b a = - c a b) (ht : ∀ a b d, c a b ≤ 0 → c b d ≤ 0 → c a d ≤ 0) : Lin (ltC c) (fun _ => True) := by
 have lt : ∀ r s, ltC c r s = decide (c r s < 0) := fun r s => by unfold ltC; rw [ltI_eq]
 refine ⟨fun a b d _ _ _ h1 h2 => ?_, fun a b _ _ h => ?_⟩
 ·rw [lt, decide_eq_false_iff_not] at *
  have := ht d b a (by have := hf d b; omega) (by have := hf b a; omega)
  have := hf a d
  omega
 ·rw [lt, decide_eq_true_eq] at h
  rw [lt, decide_eq_false_iff_not]
  have := hf a b
  omega
/-! ### Lists that are checked row by row -/
def cats : List ByteArray := [⟨#[97, 108, 108]⟩, ⟨#[99, 111, 100, 101]⟩, ⟨#[65]⟩]
def locs : List ByteArray := [⟨#[]⟩, ⟨#[107, 112, 50, 48, 108, 102]⟩, ⟨#[107, 112, 50, 48]⟩]
def Ent (r : List G) : Prop := ∃ (c k : ByteArray) (p : Int) (q : ByteArray), r = [.s c, .s k, .i p, .s q] ∧ c ∈ calls ∧ k ∈ cats ∧ -1099511627776 ≤ p ∧ p ≤ 1099511627776 ∧ q ∈ locs
theorem Ent.eta {r : List G} (h : Ent r) : gEta [.str, .str, .int .i64, .str] r = r := by
 obtain ⟨c, k, p, q, rfl, _⟩ := h
 rfl
def two : List (List G) := [[.s (⟨#[97, 108, 108]⟩ : ByteArray)], [.s (⟨#[99, 111, 100, 101]⟩ : ByteArray)]]
/-! ### What is wrong with entrants -/
theorem faultL_all : ∀ {l : List (List G)} {o : Option (List G)}, faultL o l = 0 → ∀ x ∈ l, faultC x = 0
 | [], _, _, x, hx => by cases hx
 | y :: l, none, h, x, hx => by
  simp only [faultL] at h
  by_cases hy : faultC y = 0
  ·rw [if_neg (by simpa using hy)] at h
   rcases List.mem_cons.1 hx with rfl | hx
   ·exact hy
   ·exact faultL_all h x hx
  ·rw [if_pos hy] at h
   exact (hy h).elim
 | y :: l, some z, h, x, hx => by
  simp only [faultL] at h
  by_cases hy : faultC y = 0
  ·rw [if_neg (by simpa using hy)] at h
   split at h
   ·cases h
   ·rcases List.mem_cons.1 hx with rfl | hx
    ·exact hy
    ·exact faultL_all h x hx
  ·rw [if_pos hy] at h
   exact (hy h).elim
theorem faultLog_all {l : List (List G)} (h : faultLog l = 0) : ∀ x ∈ l, faultC x = 0 := by
 unfold faultLog at h
 split at h
 ·cases h
 ·exact faultL_all h
structure SerOK (s : List (List G) × List (List G)) (i : Nat) : Prop where
 l1 : s.1.length ≤ i
 l2 : s.2.length ≤ i
 r1 : ∀ r ∈ s.1, ∃ a b, r = [.i a, .i b] ∧ 0 ≤ b ∧ b ≤ i + 1
 r2 : ∀ r ∈ s.2, ∃ a, r = [.i a]
def Row8 (r : List G) : Prop := ∃ (t m : Int) (b c : ByteArray) (s h : Int) (x y : ByteArray), r = [.i t, .i m, .s b, .s c, .i s, .i h, .s x, .s y]
theorem Con.row {r : List G} (h : Con r) : Row8 r := by
 obtain ⟨t, m, b, c, s, h, x, y, e, _⟩ := h
 exact ⟨t, m, b, c, s, h, x, y, e⟩
theorem Row8.eta {r : List G} (h : Row8 r) : gEta [.int .i64, .int .i64, .str, .str, .int .i64, .int .i64, .str, .str] r = r := by
 obtain ⟨t, m, b, c, s, h, x, y, rfl⟩ := h
 rfl
theorem Row8.put {r : List G} (h : Row8 r) (n : Int) : Row8 (putG [.int .i64, .int .i64, .str, .str, .int .i64, .int .i64, .str, .str] r 4 [.i n]) := by
 obtain ⟨t, m, b, c, s, h, x, y, rfl⟩ := h
 exact ⟨t, m, b, c, n, h, x, y, rfl⟩
/-! ### Duplicates -/
def has (a b t : Int) : Bool := leI a t && ltI t b
/-! ### Pauses -/
structure PauseOK (s : List (List G) × Int) (i : Nat) : Prop where
 len : s.1.length ≤ i
 rows : ∀ r ∈ s.1, ∃ a b, r = [.i a, .i b]
 at0 : 0 ≤ s.2
 at1 : s.2 ≤ 345686400000
/-! ### Hours -/
structure HourOK (s : List (List G)) (n i : Nat) : Prop where
 len : s.length = n
 rows : ∀ r ∈ s, ∃ v, r = [.i v] ∧ 0 ≤ v ∧ v ≤ i
theorem right_runs (l : List (List G)) (n : Int) (h0 : 0 ≤ n) (h1 : n ≤ 20) : ∀ (k i : Nat) (a : Int), i + k = 5 → 0 ≤ a → a ≤ 5000 + 420 * (i : Int) →
  RetN st_mk_RightContacts_2 [.l l, .i a, .i n, .i (i : Int)] (k + 1) fun c g => (c = 0 ∧ ∃ b rows, g = [.l l, .i b, .l rows] ∧ 0 ≤ b ∧ b ≤ 10000 ∧ (∀ z ∈ rows, ConT z) ∧ (rows.length : Int) ≤ n ∧ faultLog rows = 0) ∨ (c = 1 ∧ ∃ b, g = [.l l, .i b] ∧ 0 ≤ b ∧ b ≤ 10000)
 | 0, i, a, hi, ha, ha1 => by
  refine RetN.stop (x := 1) (Ret.toEq ?_) (.inr ⟨rfl, a, rfl, ha, by omega⟩)
  unfold st_mk_RightContacts_2
  (dsimp +instances only [Aa,Ab,Ac,Ad,Ae,Af,Ag])
  (repeat first|refine Ret.p ?_|refine Ret.n ?_)
  exact Ret.some rfl
 | k + 1, i, a, hi, ha, ha1 => by
  have key : Ret (st_mk_RightContacts_2 [.l l, .i a, .i n, .i (i : Int)]) fun o => (∃ b rows, o = (some 0, [.l l, .i b, .l rows]) ∧ 0 ≤ b ∧ b ≤ 10000 ∧ (∀ z ∈ rows, ConT z) ∧ (rows.length : Int) ≤ n ∧ faultLog rows = 0) ∨
    ∃ b, o = (none, [.l l, .i b, .i n, .i ((i + 1 : Nat) : Int)]) ∧ a ≤ b ∧ b ≤ a + 420 := by
   unfold st_mk_RightContacts_2
   (dsimp +instances only [Aa,Ab,Ac,Ad,Ae,Af,Ag])
   (repeat first|refine Ret.p ?_|refine Ret.n ?_)
   refine Ret.call (r_Contacts l a n ha (by omega) h0 h1) ?_
   rintro _ ⟨b, rows, rfl, g1, g2, g3, g4⟩
   (dsimp +instances only [Aa,Ab,Ac,Ad,Ae,Af,Ag])
   refine Ret.cE (logFault_eq rows (fun z hz => (g3 z hz).to) (by omega)) ?_
   (dsimp +instances only [Aa,Ab,Ac,Ad,Ae,Af,Ag])
   refine Ret.test (fun h => ?_) fun h => ?_
   ·exact Ret.some (.inl ⟨b, rows, rfl, by omega, by omega, g3, g4, by simpa using h⟩)
   ·(repeat first|refine Ret.p ?_|refine Ret.n ?_)
    exact Ret.some (.inr ⟨b, by simp, g1, g2⟩)
  obtain ⟨_, h, ⟨b, rows, rfl, q1, q2, q3, q4, q5⟩ | ⟨b, rfl, q1, q2⟩⟩ := key
  ·exact RetN.stop h (.inl ⟨rfl, b, rows, rfl, q1, q2, q3, q4, q5⟩)
  ·exact RetN.next h (right_runs l n h0 h1 k (i + 1) b (by omega) (by omega) (by omega))
theorem r_Right (l : List (List G)) (a n : Int) (ha : 0 ≤ a) (ha1 : a ≤ 5000) (h0 : 0 ≤ n) (h1 : n ≤ 20) :
  Ret (F_mk_RightContacts [.l l, .i a, .i n]) fun g => ∃ b rows, g = [.l l, .i b, .l rows] ∧ 0 ≤ b ∧ b ≤ 10000 ∧ (∀ z ∈ rows, ConT z) ∧ (rows.length : Int) ≤ n ∧ faultLog rows = 0 := by
 unfold F_mk_RightContacts
 (dsimp +instances only [Aa,Ab,Ac,Ad,Ae,Af,Ag])
 refine Ret.loop ((right_runs l n h0 h1 5 0 a rfl ha (by omega)).to (by omega)) rfl ?_
 rintro c g (⟨rfl, b, rows, rfl, q⟩ | ⟨rfl, b, rfl, q1, q2⟩)
 ·exact Ret.pos rfl (Ret.some ⟨b, rows, rfl, q⟩)
 ·exact Ret.neg rfl (Ret.some ⟨b, [], rfl, q1, q2, by simp, by simpa using h0, rfl⟩)
/-! ### Hours: their sum -/
/-! ### The law -/
theorem putE (K : List Kd) (r s : List G) : putG K r 0 (gEta K s) = gEta K s := putG_all (gEta_length K s)
def ltc (r s : List G) : Bool := ltC ordC r s
def swp (rows : List (List G)) (i j : Nat) : List (List G) := (rows.set i (rows.getD j [])).set j (rows.getD i [])
theorem swp_length (rows : List (List G)) (i j : Nat) : (swp rows i j).length = rows.length := by simp [swp]
theorem getD_eq {rows : List (List G)} {i : Nat} (h : i < rows.length) : rows.getD i [] = rows[i] := by
 rw [List.getD_eq_getElem?_getD, List.getElem?_eq_getElem h]
 rfl
theorem swp_perm {rows : List (List G)} {i j : Nat} (hi : i < rows.length) (hj : j < rows.length) : (swp rows i j).Perm rows := by
 unfold swp
 rw [getD_eq hi, getD_eq hj]
 exact List.set_set_perm hi hj
theorem swp_at (rows : List (List G)) {i j k : Nat} (hi : i < rows.length) (hj : j < rows.length) : (swp rows i j).getD k [] = if k = j then rows.getD i [] else if k = i then rows.getD j [] else rows.getD k [] := by
 by_cases e1 : k = j
 ·subst e1
  rw [if_pos rfl]
  unfold swp
  rw [List.getD_eq_getElem?_getD, List.getElem?_set_self (by simpa using hj)]
  rfl
 ·rw [if_neg e1]
  by_cases e2 : k = i
  ·subst e2
   rw [if_pos rfl]
   unfold swp
   rw [List.getD_eq_getElem?_getD, List.getElem?_set_ne (fun h => e1 h.symm), List.getElem?_set_self hi]
   rfl
  ·rw [if_neg e2]
   unfold swp
   rw [List.getD_eq_getElem?_getD, List.getElem?_set_ne (fun h => e1 h.symm), List.getElem?_set_ne (fun h => e2 h.symm), ← List.getD_eq_getElem?_getD]
section part
variable {r : List (List G)} (hr : ∀ y ∈ r, Con y) (hl : r.length ≤ 1000)
include hr hl
end part
structure Part (rows r : List (List G)) (x : List G) (i j : Nat) : Prop where
 perm : r.Perm rows
 at0 : r.getD 0 [] = x
 i1 : 1 ≤ i
 ij : i ≤ j + 1
 jn : j < rows.length
 lo : ∀ k, 1 ≤ k → k < i → ltc (r.getD k []) x = true
 hi : ∀ k, j < k → k < rows.length → ltc (r.getD k []) x = false
theorem Part.len {rows r : List (List G)} {x : List G} {i j : Nat} (h : Part rows r x i j) : r.length = rows.length := h.perm.length_eq
theorem Part.step {rows r : List (List G)} {x : List G} {i j i' j' : Nat} (h : Part rows r x i j) (h1 : i ≤ i') (h2 : i' ≤ j + 1) (h3 : ∀ k, i ≤ k → k < i' → ltc (r.getD k []) (r.getD 0 []) = true)
  (g1 : j' ≤ j) (g2 : i' ≤ j' + 1) (g3 : ∀ k, j' < k → k ≤ j → ltc (r.getD k []) (r.getD 0 []) = false) : Part rows r x i' j' := by
 have h0 := h.at0
 rw [h0] at h3 g3
 refine ⟨h.perm, h0, by have := h.i1; omega, g2, by have := h.jn; omega, fun k hk hk' => ?_, fun k hk hk' => ?_⟩
 ·rcases Nat.lt_or_ge k i with hlt | hge
  ·exact h.lo k hk hlt
  ·exact h3 k hge hk'
 ·rcases Nat.lt_or_ge j k with hlt | hge
  ·exact h.hi k hlt hk'
  ·exact g3 k hk hge
theorem Part.swap {rows r : List (List G)} {x : List G} {i j : Nat} (h : Part rows r x i j) (hij : i ≤ j) (hi : ltc (r.getD i []) x = false) (hj : ltc (r.getD j []) x = true) : i < j ∧ Part rows (swp r i j) x (i + 1) (j - 1) := by
 have hlt : i < j := by
  rcases Nat.lt_or_ge i j with h1 | h1
  ·exact h1
  ·have : i = j := by omega
   rw [this, hj] at hi
   cases hi
 have hl := h.len
 have hjn := h.jn
 have hi1 := h.i1
 have at' : ∀ k, (swp r i j).getD k [] = if k = j then r.getD i [] else if k = i then r.getD j [] else r.getD k [] := fun k => swp_at r (by omega) (by omega)
 refine ⟨hlt, (swp_perm (by omega) (by omega)).trans h.perm, ?_, by omega, by omega, by omega, fun k hk hk' => ?_, fun k hk hk' => ?_⟩
 ·rw [at', if_neg (by omega), if_neg (by omega)]
  exact h.at0
 ·rw [at', if_neg (by omega)]
  by_cases e : k = i
  ·rw [if_pos e]
   exact hj
  ·rw [if_neg e]
   exact h.lo k hk (by omega)
 ·rw [at']
  by_cases e : k = j
  ·rw [if_pos e]
   exact hi
  ·rw [if_neg e, if_neg (by omega)]
   exact h.hi k (by omega) hk'
theorem Part.last {rows r : List (List G)} {x : List G} {i j : Nat} (h : Part rows r x i j) (hji : j < i) : (swp r j 0).Perm rows ∧ (swp r j 0).getD j [] = x ∧ (∀ k, k < j → ltc ((swp r j 0).getD k []) x = true) ∧ ∀ k, j < k → k < rows.length → ltc ((swp r j 0).getD k []) x = false := by
 have hl := h.len
 have hjn := h.jn
 have hij := h.ij
 have at' : ∀ k, (swp r j 0).getD k [] = if k = 0 then r.getD j [] else if k = j then r.getD 0 [] else r.getD k [] := fun k => swp_at r (by omega) (by omega)
 refine ⟨(swp_perm (by omega) (by omega)).trans h.perm, ?_, fun k hk => ?_, fun k hk hk' => ?_⟩
 ·rw [at']
  by_cases e : j = 0
  ·subst e
   rw [if_pos rfl]
   exact h.at0
  ·rw [if_neg e, if_pos rfl]
   exact h.at0
 ·rw [at']
  by_cases e : k = 0
  ·rw [if_pos e]
   exact h.lo j (by omega) (by omega)
  ·rw [if_neg e, if_neg (by omega)]
   exact h.lo k (by omega) (by omega)
 ·rw [at', if_neg (by omega), if_neg (by omega)]
  exact h.hi k hk hk'
theorem putCon {s : List G} (h : Con s) (q : List G) : putG [.int .i64, .int .i64, .str, .str, .int .i64, .int .i64, .str, .str] q 0 s = s := by
 have e := putE [.int .i64, .int .i64, .str, .str, .int .i64, .int .i64, .str, .str] q s
 rw [h.eta] at e
 exact e
theorem Part.con {rows r : List (List G)} {x : List G} {i j : Nat} (h : Part rows r x i j) (hC : ∀ y ∈ rows, Con y) : ∀ y ∈ r, Con y := fun y hy => hC y (h.perm.subset hy)
def byL (l : List UInt8) : ByteArray := ⟨l.toArray⟩
theorem byL_data (l : List UInt8) : (byL l).data.toList = l := by simp [byL]
theorem byL_list (l : List UInt8) : (byL l).toList = l := by rw [Lib.toList_data, byL_data]
theorem byL_size (l : List UInt8) : (byL l).size = l.length := by rw [Lib.size_eq, byL_data]
theorem byL_of (b : ByteArray) : byL b.data.toList = b := mk_list b
theorem byL_inj {a b : ByteArray} (h : a.data.toList = b.data.toList) : a = b := by rw [← byL_of a, h, byL_of]
theorem byL_append (a b : List UInt8) : byL a ++ byL b = byL (a ++ b) := byL_inj (by simp [byL])
theorem itoa_byL (n : Int) : itoaZ n = byL (Lib.itoa n) := rfl
/-! ### Join -/
theorem strs_map (ws : List ByteArray) : (strsOf (ws.map fun w => [G.s w])).map (·.data.toList) = ws.map (·.data.toList) := by
 unfold strsOf
 rw [List.map_map, List.map_map]
 rfl
theorem joinKit (ws : List ByteArray) (hn : ws.length ≤ 1000) (hl : (lineL (ws.map (·.data.toList))).length ≤ 1000000) : F_kit_Join [.l (ws.map fun w => [.s w])] = some [.s (byL (lineL (ws.map (·.data.toList))))] := by
 have e : joinB (ws.map fun w => [G.s w]) (⟨#[32]⟩ : ByteArray) = byL (Lib.join (ws.map (·.data.toList)) [32]) := by
  unfold joinB
  rw [strs_map]
  rfl
 have hl' : (Lib.join (ws.map (·.data.toList)) [32]).length + 1 ≤ 1000000 := by
  simpa [lineL] using hl
 have hj : F_strings_Join [.l (ws.map fun w => [.s w]), .s (⟨#[32]⟩ : ByteArray)] = some [.s (byL (Lib.join (ws.map (·.data.toList)) [32]))] := by
  refine Ret.toEq ?_
  unfold F_strings_Join joinF
  (dsimp +instances only [Aa,Ab,Ac,Ad,Ae,Af,Ag])
  rw [e, byL_size]
  refine Ret.pos ?_ (Ret.some rfl)
  rw [List.length_map, Bool.and_eq_true, Nat.ble_eq, Nat.ble_eq]
  omega
 refine Ret.toEq ?_
 unfold F_kit_Join
 (dsimp +instances only [Aa,Ab,Ac,Ad,Ae,Af,Ag])
 refine Ret.cE hj ?_
 (dsimp +instances only [Aa,Ab,Ac,Ad,Ae,Af,Ag])
 refine Ret.pos (by rw [byL_size, Nat.ble_eq]; omega) (Ret.some ?_)
 rw [show (⟨#[10]⟩ : ByteArray) = byL [10] from rfl, byL_append]
 rfl
/-! ### Split -/
theorem splitLib (c : UInt8) (x : List UInt8) (xs : List (List UInt8)) (h : ∀ y ∈ x :: xs, c ∉ y) (hl : (Lib.join (x :: xs) [c]).length ≤ 1000000) :
  F_strings_Split [.s (byL (Lib.join (x :: xs) [c])), .s (⟨#[c]⟩ : ByteArray)] = some [.l ((x :: xs).map fun y => [G.s (byL y)])] := by
 refine Ret.toEq ?_
 unfold F_strings_Split
 (dsimp +instances only [Aa,Ab,Ac,Ad,Ae,Af,Ag])
 have hs : F_strings_genSplit [.s (byL (Lib.join (x :: xs) [c])), .s (⟨#[c]⟩ : ByteArray), .i 0, .i (-1)] = some [.l ((x :: xs).map fun y => [G.s (byL y)])] := by
  refine Ret.toEq ?_
  unfold F_strings_genSplit splitF
  (dsimp +instances only [Aa,Ab,Ac,Ad,Ae,Af,Ag])
  refine Ret.pos ?_ (Ret.some ?_)
  ·rw [byL_size, Bool.and_eq_true, Bool.and_eq_true, Bool.and_eq_true]
   exact ⟨rfl, rfl, rfl, by rw [Nat.blt_eq]; omega⟩
  ·rw [splitG_join (byL_data _) h]
   rfl
 refine Ret.cE hs ?_
 exact Ret.some rfl
theorem cutEnd (b : List UInt8) (hl : b.length ≤ 1000000) : F_strings_CutSuffix [.s (byL (b ++ [10])), .s (⟨#[10]⟩ : ByteArray)] = some [.s (byL b), .t true] := by
 have hz : (byL (b ++ [10])).size = b.length + 1 := by rw [byL_size]; simp
 have h1 : (⟨#[10]⟩ : ByteArray).size = 1 := rfl
 have hsuf : F_stringslite_HasSuffix [.s (byL (b ++ [10])), .s (⟨#[10]⟩ : ByteArray)] = some [.t true] := by
  refine Ret.toEq ?_
  unfold F_stringslite_HasSuffix
  (dsimp +instances only [Aa,Ab,Ac,Ad,Ae,Af,Ag])
  rw [hz, h1]
  refine Ret.pos (by rw [leI_eq, decide_eq_true_eq]; omega) (Ret.p (Ret.pos (by rw [Bool.and_eq_true, nnI_eq, leI_eq, decide_eq_true_eq, decide_eq_true_eq]; omega) (Ret.some ?_)))
  have : ((byL (b ++ [10])).extract (((b.length + 1 : Nat) : Int) - ((1 : Nat) : Int)).toNat (b.length + 1)).toList = [10] := by
   rw [Lib.toList_data, ← hz, Lib.extract_to_end, byL_data, show (((byL (b ++ [10])).size : Int) - ((1 : Nat) : Int)).toNat = b.length from by rw [hz]; omega]
   simp
  rw [this, Lib.toList_data]
  rfl
 refine Ret.toEq ?_
 unfold F_strings_CutSuffix
 (dsimp +instances only [Aa,Ab,Ac,Ad,Ae,Af,Ag])
 refine Ret.call (P := fun g => g = [.s (byL b), .t true]) ?_ ?_
 ·unfold F_stringslite_CutSuffix
  (dsimp +instances only [Aa,Ab,Ac,Ad,Ae,Af,Ag])
  refine Ret.cE hsuf ?_
  (dsimp +instances only [Aa,Ab,Ac,Ad,Ae,Af,Ag])
  rw [hz, h1]
  refine Ret.neg rfl (Ret.p (Ret.pos (by rw [Bool.and_eq_true, nnI_eq, leI_eq, decide_eq_true_eq, decide_eq_true_eq]; omega) (Ret.some ?_)))
  have : (byL (b ++ [10])).extract 0 (((b.length + 1 : Nat) : Int) - ((1 : Nat) : Int)).toNat = byL b := byL_inj (by
   rw [Lib.extract_data, byL_data, byL_data, show (((b.length + 1 : Nat) : Int) - ((1 : Nat) : Int)).toNat = b.length from by omega]
   simp)
  rw [this]
 ·rintro _ rfl
  exact Ret.some rfl
/-! ### Lines and words -/
theorem linesKit (ls : List (List (List UInt8))) (h : ∀ ws ∈ ls, ∀ w ∈ ws, Word w) (hl : (textL ls).length ≤ 1000000) : F_kit_Lines [.s (byL (textL ls))] = some [.l (ls.map fun ws => [G.s (byL (Lib.join ws [32]))]), .t true] := by
 refine Ret.toEq ?_
 unfold F_kit_Lines
 (dsimp +instances only [Aa,Ab,Ac,Ad,Ae,Af,Ag])
 rw [byL_list]
 cases ls with
 | nil => exact Ret.pos (by rw [Lib.toList_data]; rfl) (Ret.some rfl)
 | cons ws ls =>
  rw [text_body] at hl ⊢
  generalize hb : Lib.join ((ws :: ls).map fun w => Lib.join w [32]) [10] = body at hl ⊢
  have hl' : body.length + 1 ≤ 1000000 := by simpa using hl
  refine Ret.neg ?_ ?_
  ·rw [Lib.toList_data, beq_eq_false_iff_ne]
   simp
  refine Ret.cE (cutEnd body (by omega)) ?_
  (dsimp +instances only [Aa,Ab,Ac,Ad,Ae,Af,Ag])
  have hs : F_strings_Split [.s (byL body), .s (⟨#[10]⟩ : ByteArray)] = some [.l (((ws :: ls).map fun w => Lib.join w [32]).map fun y => [G.s (byL y)])] := by
   rw [← hb]
   refine splitLib 10 _ _ (fun y hy => ?_) (by
    have : (Lib.join ((ws :: ls).map fun w => Lib.join w [32]) [10]).length ≤ 1000000 := by rw [hb]; omega
    exact this)
   rw [← List.map_cons (f := fun w => Lib.join w [32])] at hy
   obtain ⟨w, hw, rfl⟩ := List.mem_map.1 hy
   exact line_nl fun z hz => h w hw z hz
  refine Ret.cE hs ?_
  refine Ret.some ?_
  rw [List.map_map]
  rfl
theorem wordsKit (ws : List (List UInt8)) (h0 : ws ≠ []) (h : ∀ w ∈ ws, Word w) (hn : ws.length ≤ 1000) (hl : (Lib.join ws [32]).length ≤ 1000000) :
  F_kit_Words [.s (byL (Lib.join ws [32]))] = some [.l (ws.map fun w => [G.s (byL w)]), .t true] := by
 refine Ret.toEq ?_
 unfold F_kit_Words
 (dsimp +instances only [Aa,Ab,Ac,Ad,Ae,Af,Ag])
 have hs : F_strings_Split [.s (byL (Lib.join ws [32])), .s (⟨#[32]⟩ : ByteArray)] = some [.l (ws.map fun w => [G.s (byL w)])] := by
  cases ws with
  | nil => exact (h0 rfl).elim
  | cons x xs => exact splitLib 32 x xs (fun y hy => (h y hy).nb) hl
 refine Ret.cE hs ?_
 (dsimp +instances only [Aa,Ab,Ac,Ad,Ae,Af,Ag])
 generalize hr : (ws.map fun w => [G.s (byL w)]) = rows
 have hlen : rows.length = ws.length := by rw [← hr, List.length_map]
 have hrow : ∀ r ∈ rows, ∃ w, Word w ∧ r = [G.s (byL w)] := fun r hr' => by
  rw [← hr] at hr'
  obtain ⟨w, hw, rfl⟩ := List.mem_map.1 hr'
  exact ⟨w, h w hw, rfl⟩
 have r := range_all (st := st_kit_Words_3) (σ := Unit) (fun _ i => [.l rows, .l rows, .i (rows.length : Int), .i (i : Int)]) rows (fun _ => (1, [.l rows])) (fun _ _ => True) () (by omega) trivial
  (fun _ i x _ hi hx hm _ => by
   obtain ⟨w, hw, rfl⟩ := hrow x hm
   unfold st_kit_Words_3
   (dsimp +instances only [Aa,Ab,Ac,Ad,Ae,Af,Ag])
   simp only [Int.toNat_natCast, hx]
   refine Ret.p (Ret.p (Ret.neg ?_ (Ret.p (Ret.some ⟨(), rfl, trivial⟩))))
   rw [show (gi [G.s (byL w)] 0).str = byL w from rfl, byL_list, Lib.toList_data, beq_eq_false_iff_ne]
   exact hw.1)
  (fun _ _ => by
   unfold st_kit_Words_3
   (dsimp +instances only [Aa,Ab,Ac,Ad,Ae,Af,Ag])
   (repeat first|refine Ret.p ?_|refine Ret.n ?_)
   exact Ret.some rfl)
 refine Ret.loop r (by simp) ?_
 rintro _ _ ⟨_, _, rfl, rfl⟩
 (dsimp +instances only [Aa,Ab,Ac,Ad,Ae,Af,Ag])
 exact Ret.neg rfl (Ret.some rfl)
/-! ### Numbers -/
theorem trimDec (u : Nat) (hl : (Lib.decDigits u).length ≤ 1000) : F_strings_Trim [.s (byL (Lib.decDigits u)), .s (⟨#[48, 49, 50, 51, 52, 53, 54, 55, 56, 57]⟩ : ByteArray)] = some [.s (⟨#[]⟩ : ByteArray)] := by
 refine Ret.toEq ?_
 unfold F_strings_Trim
 (dsimp +instances only [Aa,Ab,Ac,Ad,Ae,Af,Ag])
 have h0 : 0 < (Lib.decDigits u).length := List.length_pos_iff.2 (dec_ne u)
 refine Ret.pos ?_ (Ret.some ?_)
 ·rw [byL_size]
  simp only [Bool.and_eq_true, Nat.ble_eq, Nat.blt_eq]
  exact ⟨rfl, by decide, by decide, by omega, by omega⟩
 ·unfold trimB
  rw [byL_data, trimS_all fun b hb => ?_]
  have := dec_mem u b hb
  exact digit_of this.1 this.2
theorem atoiDec (u : Nat) (hl : (Lib.decDigits u).length ≤ 18) : F_strconv_Atoi [.s (byL (Lib.decDigits u))] = some [.i (u : Int)] := by
 refine Ret.toEq ?_
 unfold F_strconv_Atoi atoiF
 (dsimp +instances only [Aa,Ab,Ac,Ad,Ae,Af,Ag])
 refine Ret.pos (by rw [byL_size, Nat.ble_eq]; exact hl) ?_
 rw [byL_data, atoi_dec]
 exact Ret.some rfl
theorem cutMinus (u : Nat) (hl : (Lib.decDigits u).length ≤ 1000) : F_strings_CutPrefix [.s (byL (Lib.decDigits u)), .s (⟨#[45]⟩ : ByteArray)] = some [.s (byL (Lib.decDigits u)), .t false] := by
 have h0 : 0 < (Lib.decDigits u).length := List.length_pos_iff.2 (dec_ne u)
 have h1 : (⟨#[45]⟩ : ByteArray).size = 1 := rfl
 have hp : F_stringslite_HasPrefix [.s (byL (Lib.decDigits u)), .s (⟨#[45]⟩ : ByteArray)] = some [.t false] := by
  refine Ret.toEq ?_
  unfold F_stringslite_HasPrefix
  (dsimp +instances only [Aa,Ab,Ac,Ad,Ae,Af,Ag])
  rw [byL_size, h1]
  refine Ret.pos (by rw [leI_eq, decide_eq_true_eq]; omega) (Ret.pos (by rw [Bool.and_eq_true, nnI_eq, leI_eq, decide_eq_true_eq, decide_eq_true_eq]; omega) (Ret.some ?_))
  rw [Lib.toList_data, Lib.extract_data, byL_data, Lib.toList_data]
  have : (List.take (1 - 0) (List.drop 0 (Lib.decDigits u)) == (⟨#[45]⟩ : ByteArray).data.toList) = false := by
   rw [beq_eq_false_iff_ne]
   intro e
   cases hd : Lib.decDigits u with
   | nil => exact dec_ne u hd
   | cons b r =>
    rw [hd] at e
    have hb := dec_mem u b (by rw [hd]; exact List.mem_cons_self)
    simp at e
    rw [e] at hb
    simp at hb
  rw [this]
 refine Ret.toEq ?_
 unfold F_strings_CutPrefix
 (dsimp +instances only [Aa,Ab,Ac,Ad,Ae,Af,Ag])
 refine Ret.call (P := fun g => g = [.s (byL (Lib.decDigits u)), .t false]) ?_ ?_
 ·unfold F_stringslite_CutPrefix
  (dsimp +instances only [Aa,Ab,Ac,Ad,Ae,Af,Ag])
  refine Ret.cE hp ?_
  exact Ret.pos rfl (Ret.some rfl)
 ·rintro _ rfl
  exact Ret.some rfl
theorem cutMinusNeg (u : Nat) (hl : (Lib.decDigits u).length ≤ 1000) : F_strings_CutPrefix [.s (byL (45 :: Lib.decDigits u)), .s (⟨#[45]⟩ : ByteArray)] = some [.s (byL (Lib.decDigits u)), .t true] := by
 have h1 : (⟨#[45]⟩ : ByteArray).size = 1 := rfl
 have hp : F_stringslite_HasPrefix [.s (byL (45 :: Lib.decDigits u)), .s (⟨#[45]⟩ : ByteArray)] = some [.t true] := by
  refine Ret.toEq ?_
  unfold F_stringslite_HasPrefix
  (dsimp +instances only [Aa,Ab,Ac,Ad,Ae,Af,Ag])
  rw [byL_size, h1, List.length_cons]
  refine Ret.pos (by rw [leI_eq, decide_eq_true_eq]; omega) (Ret.pos (by rw [Bool.and_eq_true, nnI_eq, leI_eq, decide_eq_true_eq, decide_eq_true_eq]; omega) (Ret.some ?_))
  rw [Lib.toList_data, Lib.extract_data, byL_data, Lib.toList_data]
  rfl
 refine Ret.toEq ?_
 unfold F_strings_CutPrefix
 (dsimp +instances only [Aa,Ab,Ac,Ad,Ae,Af,Ag])
 refine Ret.call (P := fun g => g = [.s (byL (Lib.decDigits u)), .t true]) ?_ ?_
 ·unfold F_stringslite_CutPrefix
  (dsimp +instances only [Aa,Ab,Ac,Ad,Ae,Af,Ag])
  refine Ret.cE hp ?_
  (dsimp +instances only [Aa,Ab,Ac,Ad,Ae,Af,Ag])
  refine Ret.neg rfl (Ret.pos (by rw [byL_size, h1, List.length_cons, Bool.and_eq_true, nnI_eq, leI_eq, decide_eq_true_eq, decide_eq_true_eq]; omega) (Ret.some ?_))
  have : (byL (45 :: Lib.decDigits u)).extract (⟨#[45]⟩ : ByteArray).size (byL (45 :: Lib.decDigits u)).size = byL (Lib.decDigits u) := byL_inj (by
   rw [Lib.extract_to_end, byL_data, byL_data, h1]
   rfl)
  rw [this]
 ·rintro _ rfl
  exact Ret.some rfl
theorem numberKit (n : Int) (h1 : -1000000000000000 < n) (h2 : n < 1000000000000000) : F_kit_Number [.s (itoaZ n), .i 15] = some [.i n, .t true] := by
 refine Ret.toEq ?_
 have key : ∀ (u : Nat) (neg : Bool), u < 1000000000000000 → (neg = true → u ≠ 0) → ∀ s : ByteArray, F_strings_CutPrefix [.s s, .s (⟨#[45]⟩ : ByteArray)] = some [.s (byL (Lib.decDigits u)), .t neg] →
   Ret (F_kit_Number [.s s, .i 15]) fun g => g = [.i (bif neg then 0 - (u : Int) else (u : Int)), .t true] := by
  intro u neg hu hneg s hs
  have hlen : (Lib.decDigits u).length ≤ 15 := dec_length 14 u (by simpa using hu)
  have h0 : 0 < (Lib.decDigits u).length := List.length_pos_iff.2 (dec_ne u)
  unfold F_kit_Number
  (dsimp +instances only [Aa,Ab,Ac,Ad,Ae,Af,Ag])
  refine Ret.cE hs ?_
  (dsimp +instances only [Aa,Ab,Ac,Ad,Ae,Af,Ag])
  refine Ret.neg ?_ (Ret.neg ?_ ?_)
  ·rw [byL_list, Lib.toList_data, beq_eq_false_iff_ne]
   exact dec_ne u
  ·rw [byL_size, ltI_eq, decide_eq_false_iff_not]
   omega
  refine Ret.cE (trimDec u (by omega)) ?_
  (dsimp +instances only [Aa,Ab,Ac,Ad,Ae,Af,Ag])
  refine Ret.neg (by simp) (Ret.pos (by rw [byL_size, ltI_eq, decide_eq_true_eq]; omega) ?_)
  have fin : ∀ g : List G, g = [.i (u : Int)] → Ret (bif neg then (bif inI (0 - (gi g 0).int) then some [G.i (0 - (gi g 0).int), G.t true] else none) else some [G.i (gi g 0).int, G.t true]) fun g => g = [.i (bif neg then 0 - (u : Int) else (u : Int)), .t true] := by
   rintro _ rfl
   cases neg with
   | true =>
    show Ret (bif inI (0 - (u : Int)) then _ else none) _
    exact Ret.p (Ret.some rfl)
   | false => exact Ret.some rfl
  refine Ret.test (fun hz => ?_) fun _ => ?_
  ·have hu0 : u = 0 := by
    refine dec_head u ?_
    rw [byL_data, beq_iff_eq] at hz
    cases hd : Lib.decDigits u with
    | nil => exact (dec_ne u hd).elim
    | cons b r =>
     rw [hd] at hz
     have : b.toNat = 48 := by
      have : ((b.toNat : Nat) : Int) = 48 := hz
      omega
     have : b = 48 := UInt8.toNat_inj.1 this
     rw [this]
     rfl
   subst hu0
   have hn : neg = false := by
    cases neg with
    | true => exact (hneg rfl rfl).elim
    | false => rfl
   subst hn
   refine Ret.neg (by rw [byL_size, ltI_eq, decide_eq_false_iff_not, dec_small (by omega)]; simp) (Ret.neg rfl ?_)
   exact Ret.call (Ret.eq (atoiDec 0 (by omega))) fin
  ·exact Ret.call (Ret.eq (atoiDec u (by omega))) fin
 rw [itoa_byL]
 by_cases hn : n < 0
 ·obtain ⟨u, rfl⟩ : ∃ u : Nat, n = -(u : Int) := ⟨n.natAbs, by omega⟩
  have e : Lib.itoa (-(u : Int)) = 45 :: Lib.decDigits u := by
   unfold Lib.itoa
   rw [if_pos hn]
   simp
  rw [e]
  refine (key u true (by omega) (fun _ => by omega) _ (cutMinusNeg u (by have := dec_length 14 u (by simp; omega); omega))).mono ?_
  rintro _ rfl
  simp
 ·obtain ⟨u, rfl⟩ : ∃ u : Nat, n = u := ⟨n.toNat, by omega⟩
  have e : Lib.itoa (u : Int) = Lib.decDigits u := by
   unfold Lib.itoa
   rw [if_neg hn]
   simp
  rw [e]
  exact key u false (by omega) (fun h => by cases h) _ (cutMinus u (by have := dec_length 14 u (by simp; omega); omega))
theorem numbersKit (ns : List Int) (h : ∀ n ∈ ns, -1000000000000000 < n ∧ n < 1000000000000000) (hn : ns.length ≤ 1000) : F_kit_Numbers [.l (ns.map fun n => [G.s (itoaZ n)])] = some [.l (ns.map fun n => [G.i n]), .t true] := by
 refine Ret.toEq ?_
 unfold F_kit_Numbers
 (dsimp +instances only [Aa,Ab,Ac,Ad,Ae,Af,Ag])
 generalize hr : (ns.map fun n => [G.s (itoaZ n)]) = rows
 have hlen : rows.length = ns.length := by rw [← hr, List.length_map]
 have hrow : ∀ i, rows.getD i [] = (match ns[i]? with | some n => [G.s (itoaZ n)] | none => []) := fun i => by
  rw [← hr, List.getD_eq_getElem?_getD, List.getElem?_map]
  cases ns[i]? <;> rfl
 have r := range_all (st := st_kit_Numbers_3) (σ := List (List G)) (fun s i => [.l s, .l rows, .i (rows.length : Int), .i (i : Int)]) rows (fun s => (1, [.l s])) (fun s i => s = (ns.take i).map fun n => [G.i n]) [] (by omega) rfl
  (fun s i x hI hi hx hm _ => by
   subst hI
   have hi' : i < ns.length := by omega
   have hg : ns[i]? = some ns[i] := List.getElem?_eq_getElem hi'
   have hx' : x = [G.s (itoaZ ns[i])] := by rw [← hx, hrow, hg]
   subst hx'
   have hb := h _ (List.getElem_mem hi')
   have ht : ns.take (i + 1) = ns.take i ++ [ns[i]] := by rw [List.take_add_one, hg]; rfl
   unfold st_kit_Numbers_3
   (dsimp +instances only [Aa,Ab,Ac,Ad,Ae,Af,Ag])
   simp only [Int.toNat_natCast, hx]
   refine Ret.p (Ret.p ?_)
   refine Ret.cE (numberKit ns[i] hb.1 hb.2) ?_
   (dsimp +instances only [Aa,Ab,Ac,Ad,Ae,Af,Ag])
   refine Ret.neg rfl (Ret.pos (by simp; omega) (Ret.p (Ret.pos (by simp) (Ret.some ⟨_, rfl, ?_⟩))))
   rw [ht, List.map_append]
   rfl)
  (fun s _ => by
   unfold st_kit_Numbers_3
   (dsimp +instances only [Aa,Ab,Ac,Ad,Ae,Af,Ag])
   (repeat first|refine Ret.p ?_|refine Ret.n ?_)
   exact Ret.some rfl)
 refine Ret.loop r (by simp) ?_
 rintro _ _ ⟨s, hs, rfl, rfl⟩
 subst hs
 (dsimp +instances only [Aa,Ab,Ac,Ad,Ae,Af,Ag])
 refine Ret.neg rfl (Ret.pos (by simp) (Ret.some ?_))
 rw [hlen, List.take_length]
theorem writeB (a b : ByteArray) (h : a.size + b.size ≤ 1000000) : F_strings_Builder_WriteString [.s a, .s b] = some [.s (a ++ b), .i (b.size : Nat)] := by
 refine Ret.toEq ?_
 unfold F_strings_Builder_WriteString bldWF
 (dsimp +instances only [Aa,Ab,Ac,Ad,Ae,Af,Ag])
 exact Ret.pos (by rw [Nat.ble_eq]; omega) (Ret.some rfl)
theorem lenB (a : ByteArray) : F_strings_Builder_Len [.s a] = some [.s a, .i (a.size : Nat)] := rfl
theorem stringB (a : ByteArray) : F_strings_Builder_String [.s a] = some [.s a, .s a] := rfl
theorem itoaA (n : Int) (h1 : -9223372036854775808 ≤ n) (h2 : n ≤ 9223372036854775807) : F_strconv_Itoa [.i n] = some [.s (itoaZ n)] := by
 refine Ret.toEq ?_
 unfold F_strconv_Itoa
 (dsimp +instances only [Aa,Ab,Ac,Ad,Ae,Af,Ag])
 exact Ret.pos (by rw [Bool.and_eq_true, leI_eq, leI_eq, decide_eq_true_eq, decide_eq_true_eq]; exact ⟨h1, h2⟩) (Ret.some rfl)
def wordB (s : ByteArray) : Bool := Nat.ble 1 s.data.toList.length && (Nat.ble s.data.toList.length 20 && s.data.toList.all fun b => !(b == 32) && !(b == 10))
theorem wordB_iff {s : ByteArray} (h : wordB s = true) : Word s.data.toList ∧ s.data.toList.length ≤ 20 := by
 unfold wordB at h
 simp only [Bool.and_eq_true, Nat.ble_eq] at h
 obtain ⟨h1, h2, h3⟩ := h
 refine ⟨⟨fun e => by rw [e] at h1; simp at h1, fun b hb => ?_⟩, h2⟩
 have := List.all_eq_true.1 h3 b hb
 simpa using this
theorem calls_words : (calls.all fun s => !okCall s || wordB s) = true := by kernel_rfl
theorem call_word {s : ByteArray} (h : s ∈ calls) (hok : okCall s = true) : Word s.data.toList ∧ s.data.toList.length ≤ 20 := by
 have := List.all_eq_true.1 calls_words s h
 rw [hok] at this
 exact wordB_iff (by simpa using this)
theorem bands_words : (bands.all fun s => !okKey s || wordB s) = true := by kernel_rfl
theorem band_word {s : ByteArray} (h : s ∈ bands) (hok : okKey s = true) : Word s.data.toList ∧ s.data.toList.length ≤ 20 := by
 have := List.all_eq_true.1 bands_words s h
 rw [hok] at this
 exact wordB_iff (by simpa using this)
theorem names_words : (names.all fun s => !okName s || ((s.data.toList.isEmpty || wordB s) && !(s.data.toList == [45]))) = true := by kernel_rfl
def dashL (l : List UInt8) : List UInt8 := match l with | [] => [45] | b :: r => b :: r
def DashOK (s : ByteArray) : Prop := Word (dashL s.data.toList) ∧ (dashL s.data.toList).length ≤ 20 ∧ s.data.toList ≠ [45]
theorem name_word {s : ByteArray} (h : s ∈ names) (hok : okName s = true) : DashOK s := by
 have := List.all_eq_true.1 names_words s h
 rw [hok] at this
 simp only [Bool.not_true, Bool.false_or, Bool.and_eq_true, Bool.or_eq_true] at this
 obtain ⟨h1, h2⟩ := this
 refine ⟨?_, ?_, by simpa using h2⟩
 ·cases hd : s.data.toList with
  | nil => exact ⟨by simp [dashL], by simp [dashL]⟩
  | cons b r =>
   rcases h1 with h1 | h1
   ·rw [hd] at h1; simp at h1
   ·have := (wordB_iff h1).1
    rw [hd] at this
    exact this
 ·cases hd : s.data.toList with
  | nil => simp [dashL]
  | cons b r =>
   rcases h1 with h1 | h1
   ·rw [hd] at h1; simp at h1
   ·have := (wordB_iff h1).2
    rw [hd] at this
    exact this
theorem dashKit (s : ByteArray) : F_kit_Dash [.s s] = some [.s (byL (dashL s.data.toList))] := by
 refine Ret.toEq ?_
 unfold F_kit_Dash
 (dsimp +instances only [Aa,Ab,Ac,Ad,Ae,Af,Ag])
 rw [Lib.toList_data, Lib.toList_data]
 cases hd : s.data.toList with
 | nil => exact Ret.pos rfl (Ret.some rfl)
 | cons b r =>
  refine Ret.neg rfl (Ret.some ?_)
  show [G.s s] = [G.s (byL (b :: r))]
  rw [← hd, byL_of]
theorem undashKit {s : ByteArray} (h : DashOK s) : F_kit_Undash [.s (byL (dashL s.data.toList))] = some [.s s] := by
 refine Ret.toEq ?_
 unfold F_kit_Undash
 (dsimp +instances only [Aa,Ab,Ac,Ad,Ae,Af,Ag])
 rw [byL_list, Lib.toList_data]
 cases hd : s.data.toList with
 | nil =>
  refine Ret.pos rfl (Ret.some ?_)
  rw [← byL_of s, hd]
  rfl
 | cons b r =>
  refine Ret.neg ?_ (Ret.some ?_)
  ·rw [beq_eq_false_iff_ne]
   intro e
   exact h.2.2 (by rw [hd]; exact e)
  ·show [G.s (byL (b :: r))] = _
   rw [← hd, byL_of]
def modeW (m : Int) : ByteArray := if m = 1 then ⟨#[99, 111, 100, 101]⟩ else if m = 2 then ⟨#[118, 111, 105, 99, 101]⟩ else ⟨#[100, 97, 116, 97]⟩
def modeRows : List (List G) := [[.s (⟨#[]⟩ : ByteArray)], [.s (⟨#[99, 111, 100, 101]⟩ : ByteArray)], [.s (⟨#[118, 111, 105, 99, 101]⟩ : ByteArray)], [.s (⟨#[100, 97, 116, 97]⟩ : ByteArray)]]
theorem modeWords_eq : F_kit_ModeWords [] = some [.l modeRows] := rfl
theorem mode_at {m : Int} (h : m = 1 ∨ m = 2 ∨ m = 3) : (gi (modeRows.getD m.toNat []) 0).str = modeW m := by
 rcases h with rfl | rfl | rfl <;> rfl
theorem mode_ix {m : Int} (h : m = 1 ∨ m = 2 ∨ m = 3) : F_sl_Index_string [.l modeRows, .s (modeW m)] = some [.i m] := by
 rcases h with rfl | rfl | rfl
 ·show F_sl_Index_string [.l modeRows, .s (⟨#[99, 111, 100, 101]⟩ : ByteArray)] = some [.i 1]
  kernel_rfl
 ·show F_sl_Index_string [.l modeRows, .s (⟨#[118, 111, 105, 99, 101]⟩ : ByteArray)] = some [.i 2]
  kernel_rfl
 ·show F_sl_Index_string [.l modeRows, .s (⟨#[100, 97, 116, 97]⟩ : ByteArray)] = some [.i 3]
  kernel_rfl
theorem mode_word {m : Int} (h : m = 1 ∨ m = 2 ∨ m = 3) : Word (modeW m).data.toList ∧ (modeW m).data.toList.length ≤ 20 := by
 rcases h with rfl | rfl | rfl
 ·exact wordB_iff (show wordB (⟨#[99, 111, 100, 101]⟩ : ByteArray) = true from by kernel_rfl)
 ·exact wordB_iff (show wordB (⟨#[118, 111, 105, 99, 101]⟩ : ByteArray) = true from by kernel_rfl)
 ·exact wordB_iff (show wordB (⟨#[100, 97, 116, 97]⟩ : ByteArray) = true from by kernel_rfl)
def ConW (r : List G) : Prop := ∃ (t m : Int) (b c : ByteArray) (s h : Int) (x y : ByteArray), r = [.i t, .i m, .s b, .s c, .i s, .i h, .s x, .s y] ∧ (0 ≤ t ∧ t ≤ 345686399999) ∧ (m = 1 ∨ m = 2 ∨ m = 3) ∧ (Word b.data.toList ∧ b.data.toList.length ≤ 20) ∧
 (Word c.data.toList ∧ c.data.toList.length ≤ 20) ∧ (0 ≤ s ∧ s ≤ 99999) ∧ (0 ≤ h ∧ h ≤ 99999) ∧ DashOK x ∧ DashOK y
theorem conW_of {r : List G} (h : Con r) (hf : faultC r = 0) : ConW r := by
 obtain ⟨t, m, b, c, s, h, x, y, rfl, _, _, _, _, hb, hc, hx, hy⟩ := h
 have e : faultC [.i t, .i m, .s b, .s c, .i s, .i h, .s x, .s y] = bif !inB t 0 345686399999 then 1 else bif !inB m 1 3 then 4 else bif !okKey b then 5 else bif !okCall c then 3 else
  bif !inB s 0 99999 then 1 else bif !inB h 0 99999 then 1 else bif !okName x then 5 else bif !okName y then 5 else 0 := rfl
 rw [e] at hf
 cases h1 : inB t 0 345686399999 with
 | false => rw [h1] at hf; cases hf
 | true =>
 cases h2 : inB m 1 3 with
 | false => rw [h1, h2] at hf; cases hf
 | true =>
 cases h3 : okKey b with
 | false => rw [h1, h2, h3] at hf; cases hf
 | true =>
 cases h4 : okCall c with
 | false => rw [h1, h2, h3, h4] at hf; cases hf
 | true =>
 cases h5 : inB s 0 99999 with
 | false => rw [h1, h2, h3, h4, h5] at hf; cases hf
 | true =>
 cases h6 : inB h 0 99999 with
 | false => rw [h1, h2, h3, h4, h5, h6] at hf; cases hf
 | true =>
 cases h7 : okName x with
 | false => rw [h1, h2, h3, h4, h5, h6, h7] at hf; cases hf
 | true =>
 cases h8 : okName y with
 | false => rw [h1, h2, h3, h4, h5, h6, h7, h8] at hf; cases hf
 | true =>
 have two : ∀ {a u v : Int}, inB a u v = true → u ≤ a ∧ a ≤ v := fun h => by simpa [inB, leI_eq] using h
 have := two h2
 exact ⟨t, m, b, c, s, h, x, y, rfl, two h1, by omega, band_word hb h3, call_word hc h4, two h5, two h6, name_word hx h7, name_word hy h8⟩
def wordsC (r : List G) : List (List UInt8) :=
 [Lib.itoa (gi r 0).int, (modeW (gi r 1).int).data.toList, (gi r 2).str.data.toList, (gi r 3).str.data.toList, Lib.itoa (gi r 4).int, dashL (gi r 6).str.data.toList, Lib.itoa (gi r 5).int, dashL (gi r 7).str.data.toList]
theorem len_itoa {n : Int} (h0 : 0 ≤ n) (h1 : n ≤ 345686399999) : (Lib.itoa n).length ≤ 15 := by
 unfold Lib.itoa
 rw [if_neg (by omega)]
 exact dec_length 14 _ (by simp; omega)
theorem wordsC_word {r : List G} (h : ConW r) : ∀ w ∈ wordsC r, Word w := by
 obtain ⟨t, m, b, c, s, h, x, y, rfl, _, hm, hb, hc, _, _, hx, hy⟩ := h
 intro w hw
 have hw : w ∈ [Lib.itoa t, (modeW m).data.toList, b.data.toList, c.data.toList, Lib.itoa s, dashL x.data.toList, Lib.itoa h, dashL y.data.toList] := hw
 simp only [List.mem_cons, List.not_mem_nil, or_false] at hw
 rcases hw with rfl | rfl | rfl | rfl | rfl | rfl | rfl | rfl
 ·exact itoa_word t
 ·exact (mode_word hm).1
 ·exact hb.1
 ·exact hc.1
 ·exact itoa_word s
 ·exact hx.1
 ·exact itoa_word h
 ·exact hy.1
theorem wordsC_len {r : List G} (h : ConW r) : (lineL (wordsC r)).length ≤ 160 := by
 obtain ⟨t, m, b, c, s, h, x, y, rfl, ht, hm, hb, hc, hs, hh, hx, hy⟩ := h
 have h1 := len_itoa ht.1 ht.2
 have h2 := len_itoa hs.1 (by omega)
 have h3 := len_itoa hh.1 (by omega)
 have e : wordsC [.i t, .i m, .s b, .s c, .i s, .i h, .s x, .s y] = [Lib.itoa t, (modeW m).data.toList, b.data.toList, c.data.toList, Lib.itoa s, dashL x.data.toList, Lib.itoa h, dashL y.data.toList] := rfl
 rw [e]
 unfold lineL
 rw [join_two, join_two, join_two, join_two, join_two, join_two, join_two, Lib.join_one]
 simp only [List.length_append, List.length_cons, List.length_nil]
 have := hb.2
 have := hc.2
 have := (mode_word hm).2
 have := hx.2.1
 have := hy.2.1
 omega
theorem lineC {r : List G} (h : ConW r) : F_log_Line [.l [r]] = some [.s (byL (lineL (wordsC r)))] := by
 have hl := wordsC_len h
 obtain ⟨t, m, b, c, s, h, x, y, rfl, ht, hm, hb, hc, hs, hh, hx, hy⟩ := h
 refine Ret.toEq ?_
 unfold F_log_Line
 (dsimp +instances only [Aa,Ab,Ac,Ad,Ae,Af,Ag])
 refine Ret.cE (itoaA t (by omega) (by omega)) ?_
 refine Ret.cE modeWords_eq ?_
 (dsimp +instances only [Aa,Ab,Ac,Ad,Ae,Af,Ag])
 refine Ret.pos ?_ ?_
 ·rw [show modeRows.length = 4 from rfl, Bool.and_eq_true, nnI_eq, ltI_eq, decide_eq_true_eq, decide_eq_true_eq]
  omega
 refine Ret.cE (itoaA s (by omega) (by omega)) ?_
 refine Ret.cE (dashKit x) ?_
 refine Ret.cE (itoaA h (by omega) (by omega)) ?_
 refine Ret.cE (dashKit y) ?_
 (dsimp +instances only [Aa,Ab,Ac,Ad,Ae,Af,Ag])
 rw [mode_at hm]
 have e : [itoaZ t, modeW m, b, c, itoaZ s, byL (dashL x.data.toList), itoaZ h, byL (dashL y.data.toList)].map (·.data.toList) = wordsC [.i t, .i m, .s b, .s c, .i s, .i h, .s x, .s y] := by
  simp only [List.map_cons, List.map_nil, byL_data, itoa_byL]
  rfl
 refine Ret.cE (joinKit [itoaZ t, modeW m, b, c, itoaZ s, byL (dashL x.data.toList), itoaZ h, byL (dashL y.data.toList)] (by simp) (by rw [e]; omega)) ?_
 refine Ret.some ?_
 rw [e]
 rfl
theorem readC {r : List G} (h : ConW r) : F_log_ReadWords [.l ((wordsC r).map fun w => [G.s (byL w)])] = some [.l [r], .t true] := by
 obtain ⟨t, m, b, c, s, h, x, y, rfl, ht, hm, hb, hc, hs, hh, hx, hy⟩ := h
 have e : (wordsC [.i t, .i m, .s b, .s c, .i s, .i h, .s x, .s y]).map (fun w => [G.s (byL w)]) = [[.s (itoaZ t)], [.s (modeW m)], [.s b], [.s c], [.s (itoaZ s)], [.s (byL (dashL x.data.toList))], [.s (itoaZ h)], [.s (byL (dashL y.data.toList))]] := by
  show [[G.s (byL (Lib.itoa t))], [G.s (byL (modeW m).data.toList)], [G.s (byL b.data.toList)], [G.s (byL c.data.toList)], [G.s (byL (Lib.itoa s))], [G.s (byL (dashL x.data.toList))], [G.s (byL (Lib.itoa h))], [G.s (byL (dashL y.data.toList))]] = _
  rw [byL_of, byL_of, byL_of]
  rfl
 rw [e]
 refine Ret.toEq ?_
 unfold F_log_ReadWords
 (dsimp +instances only [Aa,Ab,Ac,Ad,Ae,Af,Ag])
 refine Ret.neg rfl ?_
 refine Ret.cE modeWords_eq ?_
 refine Ret.pos rfl ?_
 refine Ret.cE (mode_ix hm) ?_
 refine Ret.pos rfl (Ret.pos rfl (Ret.pos rfl ?_))
 refine Ret.call (Ret.eq (numbersKit [t, s, h] (fun n hn => by
  simp only [List.mem_cons, List.not_mem_nil, or_false] at hn
  rcases hn with rfl | rfl | rfl <;> omega) (by simp))) ?_
 rintro _ rfl
 (dsimp +instances only [Aa,Ab,Ac,Ad,Ae,Af,Ag])
 refine Ret.neg rfl (Ret.neg (by rw [ltI_eq, decide_eq_false_iff_not]; omega) ?_)
 refine Ret.pos rfl (Ret.pos rfl (Ret.pos rfl (Ret.pos rfl (Ret.pos rfl ?_))))
 refine Ret.cE (undashKit hx) ?_
 refine Ret.pos rfl (Ret.pos rfl ?_)
 refine Ret.cE (undashKit hy) ?_
 exact Ret.some rfl
theorem ordC_fl (r s : List G) : ordC s r = - ordC r s := or2_flip (ordrI.flip _ _) (or2_flip (ordrS.flip _ _) (or2_flip (ordrS.flip _ _) (ordrI.flip _ _)))
theorem ordC_le {a b d : List G} (h1 : ordC a b ≤ 0) (h2 : ordC b d ≤ 0) : ordC a d ≤ 0 :=
 or2_le ordrI _ _ _ _ _ _ h1 h2 fun g1 g2 => or2_le ordrS _ _ _ _ _ _ g1 g2 fun k1 k2 => or2_le ordrS _ _ _ _ _ _ k1 k2 fun m1 m2 => ordrI.le _ _ _ m1 m2
def SP (R R' : List (List G)) (a b : Nat) : Prop :=
 R'.length = R.length ∧ R'.Perm R ∧ (∀ k, k < a ∨ b ≤ k → R'.getD k [] = R.getD k []) ∧ ∀ k, a ≤ k → k < b → ∃ k', a ≤ k' ∧ k' < b ∧ R'.getD k [] = R.getD k' []
theorem SP.refl (R : List (List G)) (a b : Nat) : SP R R a b := ⟨rfl, List.Perm.refl _, fun _ _ => rfl, fun k h1 h2 => ⟨k, h1, h2, rfl⟩⟩
theorem SP.trans {R S T : List (List G)} {a b : Nat} (h : SP R S a b) (h' : SP S T a b) : SP R T a b :=
 ⟨h'.1.trans h.1, h'.2.1.trans h.2.1, fun k hk => (h'.2.2.1 k hk).trans (h.2.2.1 k hk), fun k h1 h2 => by
  obtain ⟨k', q1, q2, q3⟩ := h'.2.2.2 k h1 h2
  obtain ⟨k'', p1, p2, p3⟩ := h.2.2.2 k' q1 q2
  exact ⟨k'', p1, p2, q3.trans p3⟩⟩
theorem SP.wide {R S : List (List G)} {a b a' b' : Nat} (h : SP R S a' b') (h1 : a ≤ a') (h2 : b' ≤ b) : SP R S a b :=
 ⟨h.1, h.2.1, fun k hk => h.2.2.1 k (by omega), fun k k1 k2 => by
  by_cases hk : a' ≤ k ∧ k < b'
  ·obtain ⟨k', q1, q2, q3⟩ := h.2.2.2 k hk.1 hk.2
   exact ⟨k', by omega, by omega, q3⟩
  ·exact ⟨k, k1, k2, h.2.2.1 k (by omega)⟩⟩
theorem SP.con {R S : List (List G)} {a b : Nat} (h : SP R S a b) (hC : ∀ z ∈ R, Con z) : ∀ z ∈ S, Con z := fun z hz => hC z (h.2.1.subset hz)
def Srt (R : List (List G)) (a b : Nat) : Prop := ∀ i j, a ≤ i → i < j → j < b → ordC (R.getD i []) (R.getD j []) ≤ 0
def Below (R : List (List G)) (a b c d : Nat) : Prop := ∀ i j, a ≤ i → i < b → c ≤ j → j < d → ordC (R.getD i []) (R.getD j []) ≤ 0
theorem Srt.join {R : List (List G)} {a c b : Nat} (h1 : Srt R a c) (h2 : Srt R c b) (h : Below R a c c b) : Srt R a b := fun i j hi hij hj => by
 by_cases k1 : j < c
 ·exact h1 i j hi hij k1
 ·by_cases k2 : c ≤ i
  ·exact h2 i j k2 hij hj
  ·exact h i j hi (by omega) (by omega) hj
theorem Srt.keep {R S : List (List G)} {a b c d : Nat} (h : SP R S a b) (hs : Srt R c d) (hd : d ≤ a ∨ b ≤ c) : Srt S c d := fun i j hi hij hj => by
 rw [h.2.2.1 i (by omega), h.2.2.1 j (by omega)]
 exact hs i j hi hij hj
theorem Below.keepL {R S : List (List G)} {a b c d : Nat} (h : SP R S a b) (hs : Below R a b c d) (hd : b ≤ c) : Below S a b c d := fun i j hi hi' hj hj' => by
 obtain ⟨k, q1, q2, q3⟩ := h.2.2.2 i hi hi'
 rw [q3, h.2.2.1 j (by omega)]
 exact hs k j q1 q2 hj hj'
theorem Below.keepR {R S : List (List G)} {a b c d : Nat} (h : SP R S c d) (hs : Below R a b c d) (hd : b ≤ c) : Below S a b c d := fun i j hi hi' hj hj' => by
 obtain ⟨k, q1, q2, q3⟩ := h.2.2.2 j hj hj'
 rw [q3, h.2.2.1 i (by omega)]
 exact hs i k hi hi' q1 q2
/-! ### Blocks that change places -/
def xrI (a b n k : Nat) : Nat := if a ≤ k ∧ k < a + n then k - a + b else if b ≤ k ∧ k < b + n then k - b + a else k
def XR (R R' : List (List G)) (a b n : Nat) : Prop := R'.length = R.length ∧ R'.Perm R ∧ ∀ k, R'.getD k [] = R.getD (xrI a b n k) []
theorem XR.zero (R : List (List G)) (a b : Nat) : XR R R a b 0 := ⟨rfl, List.Perm.refl _, fun k => by
 have : xrI a b 0 k = k := by unfold xrI; split <;> (try split) <;> omega
 rw [this]⟩
theorem XR.step {R R' : List (List G)} {a b i n : Nat} (h : XR R R' a b i) (h1 : a + n ≤ b) (h2 : b + n ≤ R.length) (hi : i < n) : XR R (swp R' (a + i) (b + i)) a b (i + 1) := by
 refine ⟨(swp_length _ _ _).trans h.1, (swp_perm (by rw [h.1]; omega) (by rw [h.1]; omega)).trans h.2.1, fun k => ?_⟩
 rw [swp_at R' (by rw [h.1]; omega) (by rw [h.1]; omega), h.2.2, h.2.2, h.2.2]
 have e1 : xrI a b i (a + i) = a + i := by unfold xrI; split <;> (try split) <;> omega
 have e2 : xrI a b i (b + i) = b + i := by unfold xrI; split <;> (try split) <;> omega
 rw [e1, e2]
 split
 ·rename_i hk
  have : xrI a b (i + 1) k = a + i := by unfold xrI; split <;> (try split) <;> omega
  rw [this]
 ·split
  ·rename_i hk
   have : xrI a b (i + 1) k = b + i := by unfold xrI; split <;> (try split) <;> omega
   rw [this]
  ·have : xrI a b (i + 1) k = xrI a b i k := by unfold xrI; split <;> split <;> (try split) <;> (try split) <;> omega
   rw [this]
def rtI (a m b k : Nat) : Nat := if a ≤ k ∧ k < a + (b - m) then k + (m - a) else if a + (b - m) ≤ k ∧ k < b then k - (b - m) else k
def RT (R R' : List (List G)) (a m b : Nat) : Prop := R'.length = R.length ∧ R'.Perm R ∧ ∀ k, R'.getD k [] = R.getD (rtI a m b k) []
theorem RT.left {R S T : List (List G)} {m i j : Nat} (h1 : j < i) (h2 : i ≤ m) (h : XR R S (m - i) m j) (h' : RT S T (m - (i - j)) m (m + j)) : RT R T (m - i) m (m + j) :=
 ⟨h'.1.trans h.1, h'.2.1.trans h.2.1, fun k => by
  rw [h'.2.2, h.2.2]
  congr 1
  unfold rtI xrI
  repeat' split
  all_goals omega⟩
theorem RT.right {R S T : List (List G)} {m i j : Nat} (h1 : i < j) (h2 : i ≤ m) (h : XR R S (m - i) (m + j - i) i) (h' : RT S T (m - i) m (m + (j - i))) : RT R T (m - i) m (m + j) :=
 ⟨h'.1.trans h.1, h'.2.1.trans h.2.1, fun k => by
  rw [h'.2.2, h.2.2]
  congr 1
  unfold rtI xrI
  repeat' split
  all_goals omega⟩
theorem RT.same {R S : List (List G)} {m i : Nat} (h2 : i ≤ m) (h : XR R S (m - i) m i) : RT R S (m - i) m (m + i) :=
 ⟨h.1, h.2.1, fun k => by
  rw [h.2.2]
  congr 1
  unfold rtI xrI
  repeat' split
  all_goals omega⟩
theorem rtI_in {a m b k : Nat} (h1 : a ≤ m) (h2 : m ≤ b) (hk : a ≤ k) (hk' : k < b) : a ≤ rtI a m b k ∧ rtI a m b k < b := by
 unfold rtI
 repeat' split
 all_goals omega
theorem rtI_out {a m b k : Nat} (h1 : a ≤ m) (h2 : m ≤ b) (hk : k < a ∨ b ≤ k) : rtI a m b k = k := by
 unfold rtI
 repeat' split
 all_goals omega
theorem RT.sp {R S : List (List G)} {a m b : Nat} (h : RT R S a m b) (h1 : a ≤ m) (h2 : m ≤ b) : SP R S a b :=
 ⟨h.1, h.2.1, fun k hk => by rw [h.2.2, rtI_out h1 h2 hk], fun k hk hk' => ⟨rtI a m b k, (rtI_in h1 h2 hk hk').1, (rtI_in h1 h2 hk hk').2, h.2.2 k⟩⟩
theorem cut_turn {R S : List (List G)} {a s m e b : Nat} (h : RT R S s m e) (h1 : a ≤ s) (h2 : s ≤ m) (h3 : m ≤ e) (h4 : e ≤ b) (hA : Srt R a m) (hB : Srt R m b) (p1 : Below R a s e b) (p2 : Below R m e s m) :
    Srt S a s ∧ Srt S s (s + (e - m)) ∧ Srt S (s + (e - m)) e ∧ Srt S e b ∧ Below S a (s + (e - m)) (s + (e - m)) b := by
  have at' : ∀ k, S.getD k [] = R.getD (rtI s m e k) [] := h.2.2
  have low : ∀ k, k < s → rtI s m e k = k := fun k hk => by unfold rtI; repeat' split
                                                            all_goals omega
  have up : ∀ k, s ≤ k → k < s + (e - m) → rtI s m e k = k + (m - s) := fun k hk hk' => by unfold rtI; repeat' split
                                                                                           all_goals omega
  have dn : ∀ k, s + (e - m) ≤ k → k < e → rtI s m e k = k - (e - m) := fun k hk hk' => by unfold rtI; repeat' split
                                                                                           all_goals omega
  have hi : ∀ k, e ≤ k → rtI s m e k = k := fun k hk => by unfold rtI; repeat' split
                                                           all_goals omega
  refine ⟨fun i j hi' hij hj => ?_, fun i j hi' hij hj => ?_, fun i j hi' hij hj => ?_, fun i j hi' hij hj => ?_, fun i j hi1 hi2 hj1 hj2 => ?_⟩
  · rw [at', at', low i (by omega), low j hj]
    exact hA i j hi' hij (by omega)
  · rw [at', at', up i hi' (by omega), up j (by omega) hj]
    exact hB _ _ (by omega) (by omega) (by omega)
  · rw [at', at', dn i hi' (by omega), dn j (by omega) hj]
    exact hA _ _ (by omega) (by omega) (by omega)
  · rw [at', at', hi i hi', hi j (by omega)]
    exact hB i j (by omega) hij hj
  · rw [at', at']
    by_cases k1 : i < s
    · rw [low i k1]
      by_cases k2 : j < e
      · rw [dn j hj1 k2]
        exact hA _ _ hi1 (by omega) (by omega)
      · rw [hi j (by omega)]
        exact p1 _ _ hi1 k1 (by omega) hj2
    · rw [up i (by omega) hi2]
      by_cases k2 : j < e
      · rw [dn j hj1 k2]
        exact p2 _ _ (by omega) (by omega) (by omega) (by omega)
      · rw [hi j (by omega)]
        exact hB _ _ (by omega) (by omega) hj2
theorem cut_below {R : List (List G)} {a s e b m : Nat} (hA : Srt R a m) (hB : Srt R m b) (h2 : s ≤ m) (h3 : m ≤ e) (h : a < s → e < b → ordC (R.getD (s - 1) []) (R.getD e []) ≤ 0) : Below R a s e b := fun i j hi hi' hj hj' => by
 have h0 := h (by omega) (by omega)
 have g1 : ordC (R.getD i []) (R.getD (s - 1) []) ≤ 0 := by
  by_cases k : i = s - 1
  ·rw [k]
   have := ordC_fl (R.getD (s - 1) []) (R.getD (s - 1) [])
   omega
  ·exact hA _ _ hi (by omega) (by omega)
 have g2 : ordC (R.getD e []) (R.getD j []) ≤ 0 := by
  by_cases k : j = e
  ·rw [k]
   have := ordC_fl (R.getD e []) (R.getD e [])
   omega
  ·exact hB _ _ (by omega) (by omega) (by omega)
 exact ordC_le (ordC_le g1 h0) g2
theorem cut_above {R : List (List G)} {a s e b m : Nat} (hA : Srt R a m) (hB : Srt R m b) (h1 : a ≤ s) (h4 : e ≤ b) (h : s < m → m < e → ordC (R.getD (e - 1) []) (R.getD s []) ≤ 0) : Below R m e s m := fun i j hi hi' hj hj' => by
 have h0 := h (by omega) (by omega)
 have g1 : ordC (R.getD i []) (R.getD (e - 1) []) ≤ 0 := by
  by_cases k : i = e - 1
  ·rw [k]
   have := ordC_fl (R.getD (e - 1) []) (R.getD (e - 1) [])
   omega
  ·exact hB _ _ hi (by omega) (by omega)
 have g2 : ordC (R.getD s []) (R.getD j []) ≤ 0 := by
  by_cases k : j = s
  ·rw [k]
   have := ordC_fl (R.getD s []) (R.getD s [])
   omega
  ·exact hA _ _ (by omega) (by omega) (by omega)
 exact ordC_le (ordC_le g1 h0) g2
theorem half_ok (n : Nat) (h : n < 1000000) : shrI .u64 (IntKind.u64.wrap (n : Int)) 1 = ((n / 2 : Nat) : Int) := by
 have e : IntKind.u64.wrap (n : Int) = n := by
  unfold IntKind.wrap
  simp only [IntKind.bits, IntKind.signed, Bool.false_and]
  rw [if_neg (by simp)]
  exact Int.emod_eq_of_lt (by omega) (by omega)
 rw [e]
 show (n : Int).fdiv (2 ^ min (1 : Int).toNat 64) = _
 rw [show ((2 : Int) ^ min (1 : Int).toNat 64) = 2 from rfl]
 rw [Int.fdiv_eq_ediv_of_nonneg _ (by omega)]
 omega
theorem XR.con {R S : List (List G)} {a b n : Nat} (h : XR R S a b n) (hC : ∀ z ∈ R, Con z) : ∀ z ∈ S, Con z := fun z hz => hC z (h.2.1.subset hz)
theorem RT.con {R S : List (List G)} {a b n : Nat} (h : RT R S a b n) (hC : ∀ z ∈ R, Con z) : ∀ z ∈ S, Con z := fun z hz => hC z (h.2.1.subset hz)
theorem swapRange_ok (R : List (List G)) (a b n : Nat) (hC : ∀ z ∈ R, Con z) (hl : R.length ≤ 1000) (h1 : a + n ≤ b) (h2 : b + n ≤ R.length) :
  Ret (F_sl_swapRangeCmpFunc_Contact [.l R, .i (a : Int), .i (b : Int), .i (n : Int)]) fun g => ∃ S, g = [.l S] ∧ XR R S a b n := by
 unfold F_sl_swapRangeCmpFunc_Contact
 (dsimp +instances only [Aa,Ab,Ac,Ad,Ae,Af,Ag])
 refine Ret.loop (P := fun c g => ∃ S, g = [.l S] ∧ XR R S a b n) ?_ (by simp) ?_
 ·refine RetL.inv (fun s : List (List G) × Nat => [.l s.1, .i (a : Int), .i (b : Int), .i (n : Int), .i (s.2 : Int)]) (fun s => s.2 ≤ n ∧ XR R s.1 a b s.2) (fun s => n - s.2) (fun s h => ?_) (R, 0) ⟨Nat.zero_le _, XR.zero R a b⟩ (by simp; omega)
  obtain ⟨S, i⟩ := s
  obtain ⟨hi, hX⟩ := h
  simp only at hi hX
  have hS := hX.con hC
  have hsl : S.length = R.length := hX.1
  unfold st_sl_swapRangeCmpFunc_Contact_1
  (dsimp +instances only [Aa,Ab,Ac,Ad,Ae,Af,Ag])
  by_cases hlt : i < n
  ·have c1 : Con (S.getD (a + i) []) := hS _ (getD_row (by omega))
   have c2 : Con (S.getD (b + i) []) := hS _ (getD_row (by omega))
   have e1 : (0 + ((a : Int) + (i : Int)).toNat) = a + i := by omega
   have e2 : (0 + ((b : Int) + (i : Int)).toNat) = b + i := by omega
   simp only [e1, e2, c1.eta, c2.eta, putCon c1, putCon c2, List.length_set]
   (repeat first|refine Ret.p ?_|refine Ret.n ?_)
   refine Ret.some (.inl ⟨rfl, (swp S (a + i) (b + i), i + 1), ?_, ⟨by simp only; omega, hX.step h1 h2 hlt⟩, by simp only; omega⟩)
   simp only [swp]
   congr 5
  ·refine Ret.n (Ret.some (.inr ⟨0, rfl, S, rfl, ?_⟩))
   have : i = n := by omega
   rw [← this]
   exact hX
 ·rintro c _ ⟨S, rfl, h⟩
  exact Ret.some ⟨S, rfl, h⟩
theorem rotate_ok (R : List (List G)) (a m b : Nat) (hC : ∀ z ∈ R, Con z) (hl : R.length ≤ 1000) (h1 : a < m) (h2 : m < b) (h3 : b ≤ R.length) :
  Ret (F_sl_rotateCmpFunc_Contact [.l R, .i (a : Int), .i (m : Int), .i (b : Int)]) fun g => ∃ S, g = [.l S] ∧ RT R S a m b := by
 unfold F_sl_rotateCmpFunc_Contact
 (dsimp +instances only [Aa,Ab,Ac,Ad,Ae,Af,Ag])
 refine Ret.p (Ret.p ?_)
 refine Ret.loop (P := fun c g => ∃ (S : List (List G)) (i : Nat), g = [.l S, .i (m : Int), .i (i : Int)] ∧ 0 < i ∧ i ≤ m ∧ m + i ≤ R.length ∧ S.length = R.length ∧ S.Perm R ∧ ∀ T, RT S T (m - i) m (m + i) → RT R T a m b) ?_ (by simp) ?_
 ·have e1 : ((m : Int) - (a : Int)) = ((m - a : Nat) : Int) := by omega
  have e2 : ((b : Int) - (m : Int)) = ((b - m : Nat) : Int) := by omega
  rw [e1, e2]
  refine RetL.inv (fun s : List (List G) × Nat × Nat => [.l s.1, .i (m : Int), .i (s.2.1 : Int), .i (s.2.2 : Int)])
   (fun s => 0 < s.2.1 ∧ 0 < s.2.2 ∧ s.2.1 ≤ m ∧ m + s.2.2 ≤ R.length ∧ s.1.length = R.length ∧ s.1.Perm R ∧ ∀ T, RT s.1 T (m - s.2.1) m (m + s.2.2) → RT R T a m b) (fun s => s.2.1 + s.2.2) (fun s h => ?_) (R, m - a, b - m)
   ⟨by simp only; omega, by simp only; omega, by simp only; omega, by simp only; omega, rfl, List.Perm.refl _, fun T hT => by
    simp only at hT
    rwa [show m - (m - a) = a by omega, show m + (b - m) = b by omega] at hT⟩ (by simp only; omega)
  obtain ⟨S, i, j⟩ := s
  obtain ⟨hi, hj, him, hjl, hsl, hsp, hT⟩ := h
  simp only at hi hj him hjl hsl hsp hT
  have hS : ∀ z ∈ S, Con z := fun z hz => hC z (hsp.subset hz)
  unfold st_sl_rotateCmpFunc_Contact_2
  (dsimp +instances only [Aa,Ab,Ac,Ad,Ae,Af,Ag])
  by_cases he : i = j
  ·subst he
   refine Ret.neg (by simp) (Ret.pos (by simp) (Ret.some (.inr ⟨0, rfl, S, i, rfl, hi, him, hjl, hsl, hsp, hT⟩)))
  ·refine Ret.pos (by simp only [bne_iff_ne, ne_eq]; omega) ?_
   by_cases hlt : j < i
   ·refine Ret.p (Ret.p ?_)
    have e3 : ((m : Int) - (i : Int)) = ((m - i : Nat) : Int) := by omega
    rw [e3]
    refine Ret.callb (swapRange_ok S (m - i) m j hS (by omega) (by omega) (by omega)) (by simp) ?_
    rintro _ ⟨S', rfl, hX⟩
    (dsimp +instances only [Aa,Ab,Ac,Ad,Ae,Af,Ag])
    refine Ret.p (Ret.pos (by rw [hX.1]; simp) (Ret.some (.inl ⟨rfl, (S', i - j, j), ?_, ⟨by simp only; omega, hj, by simp only; omega, hjl, hX.1.trans hsl, hX.2.1.trans hsp, fun T h => ?_⟩, by simp only; omega⟩)))
    ·show [_, _, G.i ((i : Int) - (j : Int)), _] = [_, _, G.i ((i - j : Nat) : Int), _]
     rw [show ((i - j : Nat) : Int) = (i : Int) - (j : Int) by omega]
    ·exact hT T (RT.left hlt him hX h)
   ·refine Ret.n (Ret.p (Ret.p (Ret.p ?_)))
    have e3 : ((m : Int) - (i : Int)) = ((m - i : Nat) : Int) := by omega
    have e4 : ((m : Int) + (j : Int) - (i : Int)) = ((m + j - i : Nat) : Int) := by omega
    rw [e3, e4]
    refine Ret.callb (swapRange_ok S (m - i) (m + j - i) i hS (by omega) (by omega) (by omega)) (by simp) ?_
    rintro _ ⟨S', rfl, hX⟩
    (dsimp +instances only [Aa,Ab,Ac,Ad,Ae,Af,Ag])
    refine Ret.p (Ret.pos (by rw [hX.1]; simp) (Ret.some (.inl ⟨rfl, (S', i, j - i), ?_, ⟨hi, by simp only; omega, him, by simp only; omega, hX.1.trans hsl, hX.2.1.trans hsp, fun T h => ?_⟩, by simp only; omega⟩)))
    ·show [_, _, _, G.i ((j : Int) - (i : Int))] = [_, _, _, G.i ((j - i : Nat) : Int)]
     rw [show ((j - i : Nat) : Int) = (j : Int) - (i : Int) by omega]
    ·exact hT T (RT.right (by omega) him hX h)
 ·rintro c _ ⟨S, i, rfl, hi, him, hjl, hsl, hsp, hT⟩
  have hS : ∀ z ∈ S, Con z := fun z hz => hC z (hsp.subset hz)
  (dsimp +instances only [Aa,Ab,Ac,Ad,Ae,Af,Ag])
  have e3 : ((m : Int) - (i : Int)) = ((m - i : Nat) : Int) := by omega
  refine Ret.p ?_
  rw [e3]
  refine Ret.callb (swapRange_ok S (m - i) m i hS (by omega) (by omega) (by omega)) (by simp) ?_
  rintro _ ⟨S', rfl, hX⟩
  exact Ret.some ⟨S', rfl, hT S' (RT.same him hX)⟩
variable {FR : List G → Option (List G)}
theorem half2 (i j : Nat) (h : i + j < 1000000) : shrI .u64 (IntKind.u64.wrap ((i : Int) + (j : Int))) 1 = (((i + j) / 2 : Nat) : Int) := by
 rw [← Int.natCast_add]
 exact half_ok _ h
theorem find3 (R : List (List G)) (a m b : Nat) (hC : ∀ z ∈ R, Con z) (hl : R.length ≤ 1000) (ha : a < R.length) (hm : m ≤ b) (hb : b ≤ R.length) : RetL (st_sl_symMergeCmpFunc_Contact_3 FR) [.l R, .i (a : Int), .i (m : Int), .i (b : Int)] fun c g =>
  c = 0 ∧ ∃ i : Nat, m ≤ i ∧ i ≤ b ∧ g = [.l R, .i (a : Int), .i (i : Int)] ∧ (m < i → ordC (R.getD (i - 1) []) (R.getD a []) < 0) ∧ (i < b → 0 ≤ ordC (R.getD i []) (R.getD a [])) := by
 refine RetL.inv (fun s : Nat × Nat => [.l R, .i (a : Int), .i (s.1 : Int), .i (s.2 : Int)]) (fun s => m ≤ s.1 ∧ s.1 ≤ s.2 ∧ s.2 ≤ b ∧ (m < s.1 → ordC (R.getD (s.1 - 1) []) (R.getD a []) < 0) ∧ (s.2 < b → 0 ≤ ordC (R.getD s.2 []) (R.getD a []))) (fun s => s.2 - s.1)
  (fun s h => ?_) (m, b) ⟨Nat.le_refl _, hm, Nat.le_refl _, fun h => by simp only at h; omega, fun h => by simp only at h; omega⟩ (by simp only; omega)
 obtain ⟨i, j⟩ := s
 obtain ⟨h1, h2, h3, h4, h5⟩ := h
 simp only at h1 h2 h3 h4 h5
 unfold st_sl_symMergeCmpFunc_Contact_3
 (dsimp +instances only [Aa,Ab,Ac,Ad,Ae,Af,Ag])
 have hh := half2 i j (by omega)
 simp only [hh, Nat.zero_add, Int.toNat_natCast]
 by_cases hlt : i < j
 ·have c1 : Con (R.getD ((i + j) / 2) []) := hC _ (getD_row (by omega))
  have c2 : Con (R.getD a []) := hC _ (getD_row ha)
  simp only [c1.eta, c2.eta]
  refine Ret.p (Ret.p (Ret.p (Ret.p (Ret.p (Ret.p (Ret.p ?_))))))
  refine Ret.cE (compare_eq c1 c2) ?_
  (dsimp +instances only [Aa,Ab,Ac,Ad,Ae,Af,Ag])
  refine Ret.test (fun ht => ?_) fun ht => ?_
  ·refine Ret.p (Ret.p (Ret.some (.inl ⟨rfl, ((i + j) / 2 + 1, j), rfl, ⟨by simp only; omega, by simp only; omega, h3, fun _ => ?_, h5⟩, by simp only; omega⟩)))
   have : ordC (R.getD ((i + j) / 2) []) (R.getD a []) < 0 := by simpa [ltI_eq] using ht
   simpa using this
  ·refine Ret.p (Ret.some (.inl ⟨rfl, (i, (i + j) / 2), rfl, ⟨h1, by simp only; omega, by simp only; omega, h4, fun _ => ?_⟩, by simp only; omega⟩))
   have : ¬ ordC (R.getD ((i + j) / 2) []) (R.getD a []) < 0 := by simpa [ltI_eq] using ht
   simp only
   omega
 ·have : i = j := by omega
  subst this
  exact Ret.n (Ret.p (Ret.some (.inr ⟨0, rfl, rfl, i, h1, h3, rfl, h4, h5⟩)))
theorem find15 (R : List (List G)) (a m : Nat) (hC : ∀ z ∈ R, Con z) (hl : R.length ≤ 1000) (ha : a ≤ m) (hm : m < R.length) : RetL (st_sl_symMergeCmpFunc_Contact_15 FR) [.l R, .i (m : Int), .i (a : Int), .i (m : Int)] fun c g =>
  c = 0 ∧ ∃ i : Nat, a ≤ i ∧ i ≤ m ∧ g = [.l R, .i (m : Int), .i (i : Int)] ∧ (a < i → 0 ≤ ordC (R.getD m []) (R.getD (i - 1) [])) ∧ (i < m → ordC (R.getD m []) (R.getD i []) < 0) := by
 refine RetL.inv (fun s : Nat × Nat => [.l R, .i (m : Int), .i (s.1 : Int), .i (s.2 : Int)]) (fun s => a ≤ s.1 ∧ s.1 ≤ s.2 ∧ s.2 ≤ m ∧ (a < s.1 → 0 ≤ ordC (R.getD m []) (R.getD (s.1 - 1) [])) ∧ (s.2 < m → ordC (R.getD m []) (R.getD s.2 []) < 0)) (fun s => s.2 - s.1)
  (fun s h => ?_) (a, m) ⟨Nat.le_refl _, ha, Nat.le_refl _, fun h => by simp only at h; omega, fun h => by simp only at h; omega⟩ (by simp only; omega)
 obtain ⟨i, j⟩ := s
 obtain ⟨h1, h2, h3, h4, h5⟩ := h
 simp only at h1 h2 h3 h4 h5
 unfold st_sl_symMergeCmpFunc_Contact_15
 (dsimp +instances only [Aa,Ab,Ac,Ad,Ae,Af,Ag])
 have hh := half2 i j (by omega)
 simp only [hh, Nat.zero_add, Int.toNat_natCast]
 by_cases hlt : i < j
 ·have c1 : Con (R.getD ((i + j) / 2) []) := hC _ (getD_row (by omega))
  have c2 : Con (R.getD m []) := hC _ (getD_row hm)
  simp only [c1.eta, c2.eta]
  refine Ret.p (Ret.p (Ret.p (Ret.p (Ret.p (Ret.p (Ret.p ?_))))))
  refine Ret.cE (compare_eq c2 c1) ?_
  (dsimp +instances only [Aa,Ab,Ac,Ad,Ae,Af,Ag])
  refine Ret.test (fun ht => ?_) fun ht => ?_
  ·refine Ret.p (Ret.p (Ret.some (.inl ⟨rfl, ((i + j) / 2 + 1, j), rfl, ⟨by simp only; omega, by simp only; omega, h3, fun _ => ?_, h5⟩, by simp only; omega⟩)))
   have : ¬ ordC (R.getD m []) (R.getD ((i + j) / 2) []) < 0 := by simpa [ltI_eq] using ht
   simp only [Nat.add_sub_cancel]
   omega
  ·refine Ret.p (Ret.some (.inl ⟨rfl, (i, (i + j) / 2), rfl, ⟨h1, by simp only; omega, by simp only; omega, h4, fun _ => ?_⟩, by simp only; omega⟩))
   simpa [ltI_eq] using ht
 ·have : i = j := by omega
  subst this
  exact Ret.n (Ret.p (Ret.some (.inr ⟨0, rfl, rfl, i, h1, h3, rfl, h4, h5⟩)))
theorem find33 (R : List (List G)) (a m b mid n lo hi : Nat) (hC : ∀ z ∈ R, Con z) (hl : R.length ≤ 1000) (h : lo ≤ hi) (hp : hi ≤ n) (hn : ∀ c, lo ≤ c → c < hi → c < R.length ∧ n - 1 - c < R.length) (hn1 : n < 10000) :
  RetL (st_sl_symMergeCmpFunc_Contact_33 FR) [.l R, .i (a : Int), .i (m : Int), .i (b : Int), .i (mid : Int), .i (n : Int), .i (lo : Int), .i (hi : Int), .i (((n : Int) - 1))] fun c g =>
  c = 0 ∧ ∃ s : Nat, lo ≤ s ∧ s ≤ hi ∧ g = [.l R, .i (a : Int), .i (m : Int), .i (b : Int), .i (mid : Int), .i (n : Int), .i (s : Int)] ∧ (lo < s → 0 ≤ ordC (R.getD (n - s) []) (R.getD (s - 1) [])) ∧ (s < hi → ordC (R.getD (n - 1 - s) []) (R.getD s []) < 0) := by
 refine RetL.inv (fun s : Nat × Nat => [.l R, .i (a : Int), .i (m : Int), .i (b : Int), .i (mid : Int), .i (n : Int), .i (s.1 : Int), .i (s.2 : Int), .i ((n : Int) - 1)])
  (fun s => lo ≤ s.1 ∧ s.1 ≤ s.2 ∧ s.2 ≤ hi ∧ (lo < s.1 → 0 ≤ ordC (R.getD (n - s.1) []) (R.getD (s.1 - 1) [])) ∧ (s.2 < hi → ordC (R.getD (n - 1 - s.2) []) (R.getD s.2 []) < 0)) (fun s => s.2 - s.1)
  (fun s h => ?_) (lo, hi) ⟨Nat.le_refl _, h, Nat.le_refl _, fun h => by simp only at h; omega, fun h => by simp only at h; omega⟩ (by simp only; omega)
 obtain ⟨i, j⟩ := s
 obtain ⟨h1, h2, h3, h4, h5⟩ := h
 simp only at h1 h2 h3 h4 h5
 unfold st_sl_symMergeCmpFunc_Contact_33
 (dsimp +instances only [Aa,Ab,Ac,Ad,Ae,Af,Ag])
 have hh := half2 i j (by omega)
 simp only [hh, Nat.zero_add, Int.toNat_natCast]
 by_cases hlt : i < j
 ·obtain ⟨r1, r2⟩ := hn ((i + j) / 2) (by omega) (by omega)
  have ep : ((n : Int) - 1 - (((i + j) / 2 : Nat) : Int)) = ((n - 1 - (i + j) / 2 : Nat) : Int) := by omega
  have c1 : Con (R.getD ((i + j) / 2) []) := hC _ (getD_row r1)
  have c2 : Con (R.getD (n - 1 - (i + j) / 2) []) := hC _ (getD_row r2)
  simp only [ep, Int.toNat_natCast, c1.eta, c2.eta]
  refine Ret.p (Ret.p (Ret.p (Ret.p (Ret.p (Ret.p (Ret.p (Ret.p ?_)))))))
  refine Ret.cE (compare_eq c2 c1) ?_
  (dsimp +instances only [Aa,Ab,Ac,Ad,Ae,Af,Ag])
  refine Ret.test (fun ht => ?_) fun ht => ?_
  ·refine Ret.p (Ret.p (Ret.some (.inl ⟨rfl, ((i + j) / 2 + 1, j), rfl, ⟨by simp only; omega, by simp only; omega, h3, fun _ => ?_, h5⟩, by simp only; omega⟩)))
   have : ¬ ordC (R.getD (n - 1 - (i + j) / 2) []) (R.getD ((i + j) / 2) []) < 0 := by simpa [ltI_eq] using ht
   simp only [Nat.add_sub_cancel]
   rw [show n - ((i + j) / 2 + 1) = n - 1 - (i + j) / 2 by omega]
   omega
  ·refine Ret.p (Ret.some (.inl ⟨rfl, (i, (i + j) / 2), rfl, ⟨h1, by simp only; omega, by simp only; omega, h4, fun _ => ?_⟩, by simp only; omega⟩))
   simpa [ltI_eq] using ht
 ·have : i = j := by omega
  subst this
  exact Ret.n (Ret.p (Ret.some (.inr ⟨0, rfl, rfl, i, h1, h3, rfl, h4, h5⟩)))
theorem up9 (R : List (List G)) (a i : Nat) (hC : ∀ z ∈ R, Con z) (hl : R.length ≤ 1000) (h1 : a + 1 ≤ i) (h2 : i ≤ R.length) :
    RetL (st_sl_symMergeCmpFunc_Contact_9 FR) [.l R, .i (i : Int), .i (a : Int)] fun c g => c = 0 ∧ ∃ S, g = [.l S] ∧ RT R S a (a + 1) i := by
  refine RetL.inv (fun s : List (List G) × Nat => [.l s.1, .i (i : Int), .i (s.2 : Int)]) (fun s => a ≤ s.2 ∧ s.2 + 1 ≤ i ∧ RT R s.1 a (a + 1) (s.2 + 1)) (fun s => i - s.2) (fun s h => ?_) (R, a)
    ⟨Nat.le_refl _, h1, rfl, List.Perm.refl _, fun k => by
      have : rtI a (a + 1) (a + 1) k = k := by unfold rtI; repeat' split
                                               all_goals omega
      rw [this]⟩ (by simp only; omega)
  obtain ⟨S, k⟩ := s
  obtain ⟨hk, hki, hX⟩ := h
  simp only at hk hki hX
  have hS := hX.con hC
  have hsl : S.length = R.length := hX.1
  unfold st_sl_symMergeCmpFunc_Contact_9
  (dsimp +instances only [Aa,Ab,Ac,Ad,Ae,Af,Ag])
  by_cases hlt : k + 1 < i
  · have c1 : Con (S.getD k []) := hS _ (getD_row (by omega))
    have c2 : Con (S.getD (k + 1) []) := hS _ (getD_row (by omega))
    have e2 : (0 + ((k : Int) + 1).toNat) = k + 1 := by omega
    simp only [e2, Nat.zero_add, Int.toNat_natCast, c1.eta, c2.eta, putCon c1, putCon c2, List.length_set]
    refine Ret.p (Ret.p ?_)
    (repeat first|refine Ret.p ?_|refine Ret.n ?_)
    refine Ret.some (.inl ⟨rfl, (swp S k (k + 1), k + 1), ?_, ⟨by simp only; omega, by simp only; omega, ?_⟩, by simp only; omega⟩)
    · simp only [swp]
      congr 5
    · refine ⟨(swp_length _ _ _).trans hX.1, (swp_perm (by omega) (by omega)).trans hX.2.1, fun t => ?_⟩
      rw [swp_at S (by omega) (by omega), hX.2.2, hX.2.2, hX.2.2]
      split
      · congr 1
        unfold rtI
        repeat' split
        all_goals omega
      · split
        · congr 1
          unfold rtI
          repeat' split
          all_goals omega
        · congr 1
          unfold rtI
          repeat' split
          all_goals omega
  · have : i = k + 1 := by omega
    subst this
    exact Ret.p (Ret.n (Ret.some (.inr ⟨0, rfl, rfl, S, rfl, hX⟩)))
theorem down21 (R : List (List G)) (i m : Nat) (hC : ∀ z ∈ R, Con z) (hl : R.length ≤ 1000) (h1 : i ≤ m) (h2 : m < R.length) :
    RetL (st_sl_symMergeCmpFunc_Contact_21 FR) [.l R, .i (i : Int), .i (m : Int)] fun c g => c = 0 ∧ ∃ S, g = [.l S] ∧ RT R S i m (m + 1) := by
  refine RetL.inv (fun s : List (List G) × Nat => [.l s.1, .i (i : Int), .i (s.2 : Int)]) (fun s => i ≤ s.2 ∧ s.2 ≤ m ∧ RT R s.1 s.2 m (m + 1)) (fun s => s.2 - i) (fun s h => ?_) (R, m)
    ⟨h1, Nat.le_refl _, rfl, List.Perm.refl _, fun k => by
      have : rtI m m (m + 1) k = k := by unfold rtI; repeat' split
                                         all_goals omega
      rw [this]⟩ (by simp only; omega)
  obtain ⟨S, k⟩ := s
  obtain ⟨hk, hki, hX⟩ := h
  simp only at hk hki hX
  have hS := hX.con hC
  have hsl : S.length = R.length := hX.1
  unfold st_sl_symMergeCmpFunc_Contact_21
  (dsimp +instances only [Aa,Ab,Ac,Ad,Ae,Af,Ag])
  by_cases hlt : i < k
  · have c1 : Con (S.getD k []) := hS _ (getD_row (by omega))
    have c2 : Con (S.getD (k - 1) []) := hS _ (getD_row (by omega))
    have e2 : ((k : Int) - 1).toNat = k - 1 := by omega
    simp only [e2, Nat.zero_add, Int.toNat_natCast, c1.eta, c2.eta, putCon c1, putCon c2, List.length_set]
    (repeat first|refine Ret.p ?_|refine Ret.n ?_)
    refine Ret.some (.inl ⟨rfl, (swp S k (k - 1), k - 1), ?_, ⟨by simp only; omega, by simp only; omega, ?_⟩, by simp only; omega⟩)
    · simp only [swp]
      rw [show ((k - 1 : Nat) : Int) = (k : Int) - 1 by omega]
    · refine ⟨(swp_length _ _ _).trans hX.1, (swp_perm (by omega) (by omega)).trans hX.2.1, fun t => ?_⟩
      rw [swp_at S (by omega) (by omega), hX.2.2, hX.2.2, hX.2.2]
      split
      · congr 1
        unfold rtI
        repeat' split
        all_goals omega
      · split
        · congr 1
          unfold rtI
          repeat' split
          all_goals omega
        · congr 1
          unfold rtI
          repeat' split
          all_goals omega
  · have : i = k := by omega
    subst this
    exact Ret.n (Ret.some (.inr ⟨0, rfl, rfl, S, rfl, hX⟩))
theorem RT.same2 (R : List (List G)) {s m e : Nat} (h : s = m ∨ m = e) (h1 : s ≤ m) (h2 : m ≤ e) : RT R R s m e := ⟨rfl, List.Perm.refl _, fun k => by
  have : rtI s m e k = k := by unfold rtI; repeat' split
                               all_goals omega
  rw [this]⟩
theorem turn_hi {R S : List (List G)} {s m e b : Nat} (h : RT R S s m e) (h2 : s ≤ m) (h3 : m ≤ e) (p : Below R s m e b) : Below S (s + (e - m)) e e b := fun i j hi hi' hj hj' => by
  rw [h.2.2, h.2.2, rtI_out h2 h3 (.inr hj)]
  have : rtI s m e i = i - (e - m) := by unfold rtI; repeat' split
                                         all_goals omega
  rw [this]
  exact p _ _ (by omega) (by omega) hj hj'
theorem turn_lo {R S : List (List G)} {a s m e : Nat} (h : RT R S s m e) (h2 : s ≤ m) (h3 : m ≤ e) (p : Below R a s m e) : Below S a s s (s + (e - m)) := fun i j hi hi' hj hj' => by
  rw [h.2.2, h.2.2, rtI_out h2 h3 (.inl hi')]
  have : rtI s m e j = j + (m - s) := by unfold rtI; repeat' split
                                         all_goals omega
  rw [this]
  exact p _ _ hi hi' (by omega) (by omega)
theorem sym_ok : ∀ (N : Nat) (R : List (List G)) (a m b : Nat), (∀ z ∈ R, Con z) → R.length ≤ 1000 → a < m → m < b → b ≤ R.length → b - a < N → Srt R a m → Srt R m b →
  Ret (F_sl_symMergeCmpFunc_Contact_n N [.l R, .i (a : Int), .i (m : Int), .i (b : Int)]) fun g => ∃ S, g = [.l S] ∧ SP R S a b ∧ Srt S a b
 | 0, R, a, m, b, _, _, _, _, _, h, _, _ => by omega
 | N + 1, R, a, m, b, hC, hl, h1, h2, h3, hN, hA, hB => by
  have ih := sym_ok N
  show Ret (F_sl_symMergeCmpFunc_Contact_r (F_sl_symMergeCmpFunc_Contact_n N) [.l R, .i (a : Int), .i (m : Int), .i (b : Int)]) _
  unfold F_sl_symMergeCmpFunc_Contact_r
  (dsimp +instances only [Aa,Ab,Ac,Ad,Ae,Af,Ag])
  refine Ret.p ?_
  by_cases k1 : m = a + 1
  ·refine Ret.pos (by simp only [beq_iff_eq]; omega) ?_
   refine Ret.loop (find3 R a m b hC hl (by omega) (by omega) h3) (by simp) ?_
   rintro _ _ ⟨rfl, i, i1, i2, rfl, q1, q2⟩
   (dsimp +instances only [Aa,Ab,Ac,Ad,Ae,Af,Ag])
   refine Ret.loop (up9 R a i hC hl (by omega) (by omega)) (by simp) ?_
   rintro _ _ ⟨rfl, S, rfl, hX⟩
   rw [← k1] at hX
   refine Ret.some ⟨S, rfl, (hX.sp (by omega) (by omega)).wide (Nat.le_refl _) i2, ?_⟩
   obtain ⟨c1, c2, c3, c4, c5⟩ := cut_turn hX (Nat.le_refl a) (by omega) i1 i2 hA hB (fun i' j hi hi' _ _ => by omega) (cut_above hA hB (Nat.le_refl a) i2 fun _ hm => Int.le_of_lt (q1 hm))
   have c6 := turn_hi hX (by omega) i1 (b := b) (cut_below hA hB (Nat.le_refl m) i1 fun _ hb => by
    have := q2 hb
    have := ordC_fl (R.getD i []) (R.getD a [])
    rw [show m - 1 = a by omega]
    omega)
   exact c2.join (c3.join c4 c6) c5
  refine Ret.neg (by simp only [beq_eq_false_iff_ne]; omega) (Ret.p ?_)
  by_cases k2 : b = m + 1
  ·refine Ret.pos (by simp only [beq_iff_eq]; omega) ?_
   refine Ret.loop (find15 R a m hC hl (by omega) (by omega)) (by simp) ?_
   rintro _ _ ⟨rfl, i, i1, i2, rfl, q1, q2⟩
   (dsimp +instances only [Aa,Ab,Ac,Ad,Ae,Af,Ag])
   refine Ret.loop (down21 R i m hC hl i2 (by omega)) (by simp) ?_
   rintro _ _ ⟨rfl, S, rfl, hX⟩
   rw [← k2] at hX
   refine Ret.some ⟨S, rfl, (hX.sp (by omega) (by omega)).wide i1 (Nat.le_refl _), ?_⟩
   obtain ⟨c1, c2, c3, c4, c5⟩ := cut_turn hX i1 i2 (by omega) (Nat.le_refl b) hA hB (fun i' j _ _ hj hj' => by omega) (cut_above hA hB i1 (Nat.le_refl b) fun hm _ => by
    rw [show b - 1 = m by omega]
    exact Int.le_of_lt (q2 hm))
   have c6 := turn_lo hX i2 (by omega) (a := a) (cut_below hA hB i2 (Nat.le_refl m) fun ha _ => by
    have := q1 ha
    have := ordC_fl (R.getD m []) (R.getD (i - 1) [])
    omega)
   exact (c1.join c2 c6).join c3 c5
  refine Ret.neg (by simp only [beq_eq_false_iff_ne]; omega) ?_
  obtain ⟨mid, hmid⟩ : ∃ mid, mid = (a + b) / 2 := ⟨_, rfl⟩
  have hh := half2 a b (by omega)
  rw [← hmid] at hh
  have en : (mid : Int) + (m : Int) = ((mid + m : Nat) : Int) := by omega
  simp only [hh, en]
  refine Ret.p (Ret.p (Ret.p ?_))
  -- what stands behind the search
  have rest : ∀ s : Nat, a ≤ s → s ≤ m → m ≤ mid + m - s → mid + m - s ≤ b → Below R a s (mid + m - s) b → Below R m (mid + m - s) s m →
    (∀ (X : List (List G) → Option (List G)), (∀ S, RT R S s m (mid + m - s) → Ret (X S) fun g => ∃ S, g = [.l S] ∧ SP R S a b ∧ Srt S a b) → Ret (bif ltI (s : Int) (m : Int) then (bif ltI (m : Int) (((mid + m : Nat) : Int) - (s : Int)) then
     (callB ((Nat.beq R.length R.length && true) && (F_sl_rotateCmpFunc_Contact [.l R, .i (s : Int), .i (m : Int), .i (((mid + m : Nat) : Int) - (s : Int))]).isSome) (F_sl_rotateCmpFunc_Contact [.l R, .i (s : Int), .i (m : Int), .i (((mid + m : Nat) : Int) - (s : Int))]) fun g => X (gi g 0).rows)
     else X R) else X R) fun g => ∃ S, g = [.l S] ∧ SP R S a b ∧ Srt S a b) := by
   intro s s1 s2 s3 s4 p1 p2 X hX
   have ee : ((mid + m : Nat) : Int) - (s : Int) = ((mid + m - s : Nat) : Int) := by omega
   by_cases hs : s < m
   ·refine Ret.p ?_
    rw [ee]
    by_cases hm : m < mid + m - s
    ·refine Ret.p (Ret.callb (rotate_ok R s m (mid + m - s) hC hl hs hm (by omega)) (by simp) ?_)
     rintro _ ⟨S, rfl, hS⟩
     exact hX S hS
    ·exact Ret.n (hX R (RT.same2 R (.inr (by omega)) s2 s3))
   ·exact Ret.n (hX R (RT.same2 R (.inl (by omega)) s2 s3))
  have tailY : ∀ (s : Nat) (S : List (List G)), s ≤ mid + m → SP R S a b → mid ≤ mid + m - s → mid + m - s ≤ b → a ≤ mid → Srt S a mid → Srt S mid (mid + m - s) → Srt S (mid + m - s) b → Below S a mid mid b →
    Ret (bif ltI (mid : Int) (((mid + m : Nat) : Int) - (s : Int)) then (bif ltI (((mid + m : Nat) : Int) - (s : Int)) (b : Int) then
     (callB ((Nat.beq R.length S.length && true) && (F_sl_symMergeCmpFunc_Contact_n N [.l S, .i (mid : Int), .i (((mid + m : Nat) : Int) - (s : Int)), .i (b : Int)]).isSome) (F_sl_symMergeCmpFunc_Contact_n N [.l S, .i (mid : Int), .i (((mid + m : Nat) : Int) - (s : Int)), .i (b : Int)]) fun g => some [G.l (gi g 0).rows])
     else some [.l S]) else some [.l S]) fun g => ∃ S, g = [.l S] ∧ SP R S a b ∧ Srt S a b := by
   intro s S s0 hS t1 t2 t3 c1 c2 c3 c4
   have ee : ((mid + m : Nat) : Int) - (s : Int) = ((mid + m - s : Nat) : Int) := by omega
   rw [ee]
   have hlS : S.length = R.length := hS.1
   by_cases q1 : mid < mid + m - s
   ·by_cases q2 : mid + m - s < b
    ·refine Ret.p (Ret.p (Ret.callb (ih S mid (mid + m - s) b (hS.con hC) (by omega) q1 q2 (by omega) (by omega) c2 c3) (by rw [hlS]; simp) ?_))
     rintro _ ⟨T, rfl, d1, d2⟩
     exact Ret.some ⟨T, rfl, hS.trans (d1.wide t3 (Nat.le_refl _)), (c1.keep d1 (.inl (Nat.le_refl _))).join d2 (c4.keepR d1 (Nat.le_refl _))⟩
    ·have e2 : mid + m - s = b := by omega
     refine Ret.p (Ret.n (Ret.some ⟨S, rfl, hS, c1.join ?_ c4⟩))
     rw [← e2] at c4 ⊢
     exact c2
   ·have e2 : mid + m - s = mid := by omega
    refine Ret.n (Ret.some ⟨S, rfl, hS, c1.join ?_ c4⟩)
    rw [e2] at c3
    exact c3
  have tailX : ∀ (s : Nat) (S : List (List G)), a ≤ s → s ≤ m → s ≤ mid → m ≤ mid + m - s → mid + m - s ≤ b → Below R a s (mid + m - s) b → Below R m (mid + m - s) s m → RT R S s m (mid + m - s) →
    Ret (bif ltI (a : Int) (s : Int) then (bif ltI (s : Int) (mid : Int) then
     (callB ((Nat.beq R.length S.length && true) && (F_sl_symMergeCmpFunc_Contact_n N [.l S, .i (a : Int), .i (s : Int), .i (mid : Int)]).isSome) (F_sl_symMergeCmpFunc_Contact_n N [.l S, .i (a : Int), .i (s : Int), .i (mid : Int)]) fun g =>
      (bif ltI (mid : Int) (((mid + m : Nat) : Int) - (s : Int)) then (bif ltI (((mid + m : Nat) : Int) - (s : Int)) (b : Int) then
       (callB ((Nat.beq R.length (gi g 0).rows.length && true) && (F_sl_symMergeCmpFunc_Contact_n N [.l (gi g 0).rows, .i (mid : Int), .i (((mid + m : Nat) : Int) - (s : Int)), .i (b : Int)]).isSome) (F_sl_symMergeCmpFunc_Contact_n N [.l (gi g 0).rows, .i (mid : Int), .i (((mid + m : Nat) : Int) - (s : Int)), .i (b : Int)]) fun g => some [G.l (gi g 0).rows])
       else some [.l (gi g 0).rows]) else some [.l (gi g 0).rows]))
     else (bif ltI (mid : Int) (((mid + m : Nat) : Int) - (s : Int)) then (bif ltI (((mid + m : Nat) : Int) - (s : Int)) (b : Int) then
       (callB ((Nat.beq R.length S.length && true) && (F_sl_symMergeCmpFunc_Contact_n N [.l S, .i (mid : Int), .i (((mid + m : Nat) : Int) - (s : Int)), .i (b : Int)]).isSome) (F_sl_symMergeCmpFunc_Contact_n N [.l S, .i (mid : Int), .i (((mid + m : Nat) : Int) - (s : Int)), .i (b : Int)]) fun g => some [G.l (gi g 0).rows])
       else some [.l S]) else some [.l S]))
     else (bif ltI (mid : Int) (((mid + m : Nat) : Int) - (s : Int)) then (bif ltI (((mid + m : Nat) : Int) - (s : Int)) (b : Int) then
       (callB ((Nat.beq R.length S.length && true) && (F_sl_symMergeCmpFunc_Contact_n N [.l S, .i (mid : Int), .i (((mid + m : Nat) : Int) - (s : Int)), .i (b : Int)]).isSome) (F_sl_symMergeCmpFunc_Contact_n N [.l S, .i (mid : Int), .i (((mid + m : Nat) : Int) - (s : Int)), .i (b : Int)]) fun g => some [G.l (gi g 0).rows])
       else some [.l S]) else some [.l S])) fun g => ∃ S, g = [.l S] ∧ SP R S a b ∧ Srt S a b := by
   intro s S s1 s2 s3 s4 s5 p1 p2 hX
   have hS : SP R S a b := (hX.sp s2 s4).wide s1 s5
   have hlS : S.length = R.length := hS.1
   obtain ⟨c1, c2, c3, c4, c5⟩ := cut_turn hX s1 s2 s4 s5 hA hB p1 p2
   have em : s + (mid + m - s - m) = mid := by omega
   rw [em] at c2 c3 c5
   by_cases q1 : a < s
   ·by_cases q2 : s < mid
    ·refine Ret.p (Ret.p (Ret.callb (ih S a s mid (hS.con hC) (by omega) q1 q2 (by omega) (by omega) c1 c2) (by rw [hlS]; simp) ?_))
     rintro _ ⟨T, rfl, d1, d2⟩
     (dsimp +instances only [Aa,Ab,Ac,Ad,Ae,Af,Ag])
     exact tailY s T (by omega) (hS.trans (d1.wide (Nat.le_refl _) (by omega))) (by omega) s5 (by omega) d2 (c3.keep d1 (.inr (Nat.le_refl _))) (c4.keep d1 (.inr (by omega))) (c5.keepL d1 (Nat.le_refl _))
    ·have e2 : s = mid := by omega
     refine Ret.p (Ret.n (tailY s S (by omega) hS (by omega) s5 (by omega) ?_ c3 c4 c5))
     rw [← e2]
     exact c1
   ·have e2 : s = a := by omega
    refine Ret.n (tailY s S (by omega) hS (by omega) s5 (by omega) ?_ c3 c4 c5)
    rw [← e2]
    exact c2
  by_cases hm : mid < m
  ·refine Ret.p ?_
   have el : ((mid + m : Nat) : Int) - (b : Int) = ((mid + m - b : Nat) : Int) := by omega
   rw [el]
   refine Ret.p (Ret.p ?_)
   refine Ret.loop (find33 R a m b mid (mid + m) (mid + m - b) mid hC hl (by omega) (by omega) (fun c hc hc' => ⟨by omega, by omega⟩) (by omega)) (by simp) ?_
   rintro _ _ ⟨rfl, s, i1, i2, rfl, q1, q2⟩
   (dsimp +instances only [Aa,Ab,Ac,Ad,Ae,Af,Ag])
   have p1 : Below R a s (mid + m - s) b := cut_below hA hB (by omega) (by omega) fun _ he => by
    have := q1 (by omega)
    have := ordC_fl (R.getD (mid + m - s) []) (R.getD (s - 1) [])
    omega
   have p2 : Below R m (mid + m - s) s m := cut_above hA hB (by omega) (by omega) fun _ he => by
    have := q2 (by omega)
    rw [show mid + m - s - 1 = mid + m - 1 - s by omega]
    omega
   refine Ret.p ?_
   exact rest s (by omega) (by omega) (by omega) (by omega) p1 p2 _ fun S hS => tailX s S (by omega) (by omega) (by omega) (by omega) (by omega) p1 p2 hS
  ·refine Ret.n ?_
   refine Ret.p ?_
   refine Ret.loop (find33 R a m b mid (mid + m) a m hC hl (by omega) (by omega) (fun c hc hc' => ⟨by omega, by omega⟩) (by omega)) (by simp) ?_
   rintro _ _ ⟨rfl, s, i1, i2, rfl, q1, q2⟩
   (dsimp +instances only [Aa,Ab,Ac,Ad,Ae,Af,Ag])
   have p1 : Below R a s (mid + m - s) b := cut_below hA hB (by omega) (by omega) fun ha he => by
    have := q1 ha
    have := ordC_fl (R.getD (mid + m - s) []) (R.getD (s - 1) [])
    omega
   have p2 : Below R m (mid + m - s) s m := cut_above hA hB (by omega) (by omega) fun hs he => by
    have := q2 hs
    rw [show mid + m - s - 1 = mid + m - 1 - s by omega]
    omega
   refine Ret.p ?_
   exact rest s (by omega) (by omega) (by omega) (by omega) p1 p2 _ fun S hS => tailX s S (by omega) (by omega) (by omega) (by omega) (by omega) p1 p2 hS
theorem linO : Lin (ltC ordC) (fun _ => True) := lin_of (fun a b => ordC_fl a b) fun _ _ _ h1 h2 => ordC_le h1 h2
theorem not_lt {a b : List G} (h : ltC ordC b a = false) : ordC a b ≤ 0 := by
 unfold ltC at h
 rw [ltI_eq, decide_eq_false_iff_not] at h
 have := ordC_fl a b
 omega
theorem lt_not {a b : List G} (h : ordC a b ≤ 0) : ltC ordC b a = false := by
 unfold ltC
 rw [ltI_eq, decide_eq_false_iff_not]
 have := ordC_fl a b
 omega
theorem sortA_up (l : List (List G)) : (sortA (ltC ordC) l).Pairwise fun a b => ordC a b ≤ 0 := (sortA_sorted linO (l := l) fun _ _ => trivial).imp fun h => not_lt h
theorem srt_left {X Y : List (List G)} (h : X.Pairwise fun a b => ordC a b ≤ 0) : Srt (X ++ Y) 0 X.length := fun i j _ hij hj => by
 have := List.pairwise_iff_getElem.1 h i j (by omega) hj hij
 simpa [List.getD_eq_getElem?_getD, List.getElem?_append_left hj, List.getElem?_append_left (show i < X.length by omega), hj, show i < X.length by omega] using this
theorem srt_right {X Y : List (List G)} (h : Y.Pairwise fun a b => ordC a b ≤ 0) : Srt (X ++ Y) X.length (X.length + Y.length) := fun i j hi hij hj => by
 have := List.pairwise_iff_getElem.1 h (i - X.length) (j - X.length) (by omega) (by omega) (by omega)
 simpa [List.getD_eq_getElem?_getD, List.getElem?_append_right hi, List.getElem?_append_right (show X.length ≤ j by omega), show i - X.length < Y.length by omega, show j - X.length < Y.length by omega] using this
theorem srt_pw {S : List (List G)} (h : Srt S 0 S.length) : S.Pairwise fun a b => ltC ordC b a = false := List.pairwise_iff_getElem.2 fun i j hi hj hij => by
 have := h i j (Nat.zero_le _) hij hj
 simp only [List.getD_eq_getElem?_getD, List.getElem?_eq_getElem hi, List.getElem?_eq_getElem hj, Option.getD_some] at this
 exact lt_not this
theorem insC (A M B : List (List G)) (hr : ∀ y ∈ M, Con y) (hn : A.length + M.length < 100000) (a b : Int) (ha : a = (A.length : Nat)) (hb : b = ((A.length + M.length : Nat) : Int)) :
  F_insS_Contact_2 [.l (A ++ M ++ B), .i a, .i b] = some [.l (A ++ sortA (ltC ordC) M ++ B)] := insR_eq cmpCompare A M B hr hn a b ha hb
theorem stable_up (rows : List (List G)) (hC : ∀ z ∈ rows, Con z) (hn : rows.length ≤ 39) : Ret (F_stbS_Contact_2 [.l rows, .i (rows.length : Int)]) fun g => ∃ S, g = [.l S] ∧ S.Perm rows ∧ S.Pairwise fun a b => ltC ordC b a = false := by
 unfold F_stbS_Contact_2
 (dsimp +instances only [Aa,Ab,Ac,Ad,Ae,Af,Ag])
 by_cases h20 : rows.length < 20
 ·refine Ret.loop (P := fun c g => g = [.l rows, .i (rows.length : Int), .i 20, .i 0]) ?_ (by simp) ?_
  ·refine RetL.stop (x := 0) (Ret.toEq ?_) rfl
   unfold st_stbS_Contact_2_2
   (dsimp +instances only [Aa,Ab,Ac,Ad,Ae,Af,Ag])
   exact Ret.n (Ret.pos (by simp) (Ret.some rfl))
  ·rintro c _ rfl
   (dsimp +instances only [Aa,Ab,Ac,Ad,Ae,Af,Ag])
   have e := insC [] rows [] hC (by simp; omega) 0 (rows.length : Int) rfl (by simp)
   simp only [List.nil_append, List.append_nil] at e
   refine Ret.callb (Ret.eq e) (by simp) ?_
   rintro _ rfl
   (dsimp +instances only [Aa,Ab,Ac,Ad,Ae,Af,Ag])
   refine Ret.loop (P := fun c g => g = [.l (sortA (ltC ordC) rows)]) ?_ (by simp [sortA_length]) ?_
   ·refine RetL.stop (x := 0) (Ret.toEq ?_) rfl
    unfold st_stbS_Contact_2_7
    (dsimp +instances only [Aa,Ab,Ac,Ad,Ae,Af,Ag])
    exact Ret.n (Ret.some rfl)
   ·rintro c _ rfl
    exact Ret.some ⟨_, rfl, sortA_perm _, sortA_sorted linO fun _ _ => trivial⟩
 ·have hA : (rows.take 20).length = 20 := by rw [List.length_take]; omega
  have hB : (rows.drop 20).length = rows.length - 20 := List.length_drop
  have hAB : rows.take 20 ++ rows.drop 20 = rows := List.take_append_drop 20 rows
  generalize hAe : rows.take 20 = A at hA hAB
  generalize hBe : rows.drop 20 = B at hB hAB
  have hCA : ∀ z ∈ A, Con z := fun z hz => hC z (by rw [← hAB]; exact List.mem_append_left _ hz)
  have hCB : ∀ z ∈ B, Con z := fun z hz => hC z (by rw [← hAB]; exact List.mem_append_right _ hz)
  have lA : (sortA (ltC ordC) A).length = 20 := by rw [sortA_length, hA]
  have lB : (sortA (ltC ordC) B).length = rows.length - 20 := by rw [sortA_length, hB]
  have i1 := insC [] A B hCA (by simp; omega) 0 20 rfl (by simp [hA])
  simp only [List.nil_append] at i1
  have i2 := insC (sortA (ltC ordC) A) B [] hCB (by omega) 20 (rows.length : Int) (by rw [lA]; rfl) (by rw [lA, hB]; omega)
  simp only [List.append_nil] at i2
  have lS : (sortA (ltC ordC) A ++ sortA (ltC ordC) B).length = rows.length := by rw [List.length_append, lA, lB]; omega
  have l1 : (sortA (ltC ordC) A ++ B).length = rows.length := by rw [List.length_append, lA, hB]; omega
  refine Ret.loop (P := fun c g => g = [.l (sortA (ltC ordC) A ++ B), .i (rows.length : Int), .i 20, .i 20]) ?_ (by simp) ?_
  ·refine RetN.to (m := 2) (RetN.next (d1 := [.l (sortA (ltC ordC) A ++ B), .i (rows.length : Int), .i 20, .i 20, .i 40]) (Ret.toEq ?_) (RetN.stop (x := 0) (Ret.toEq ?_) rfl)) (by omega)
   ·unfold st_stbS_Contact_2_2
    (dsimp +instances only [Aa,Ab,Ac,Ad,Ae,Af,Ag])
    refine Ret.p ?_
    rw [← hAB]
    refine Ret.callb (Ret.eq i1) (by simp) ?_
    rintro _ rfl
    (dsimp +instances only [Aa,Ab,Ac,Ad,Ae,Af,Ag])
    refine Ret.pos rfl (Ret.pos ?_ (Ret.some rfl))
    rw [List.length_append, List.length_append, lA, hA]
    simp
   ·unfold st_stbS_Contact_2_2
    (dsimp +instances only [Aa,Ab,Ac,Ad,Ae,Af,Ag])
    exact Ret.n (Ret.pos (by simp) (Ret.some rfl))
  ·rintro c _ rfl
   (dsimp +instances only [Aa,Ab,Ac,Ad,Ae,Af,Ag])
   refine Ret.callb (Ret.eq i2) (by simp) ?_
   rintro _ rfl
   (dsimp +instances only [Aa,Ab,Ac,Ad,Ae,Af,Ag])
   have hCS : ∀ z ∈ sortA (ltC ordC) A ++ sortA (ltC ordC) B, Con z := fun z hz => (List.mem_append.1 hz).elim (sortA_all (lt := ltC ordC) hCA z) (sortA_all (lt := ltC ordC) hCB z)
   have pS : (sortA (ltC ordC) A ++ sortA (ltC ordC) B).Perm rows := by
    rw [← hAB]
    exact (sortA_perm A).append (sortA_perm B)
   generalize hS : sortA (ltC ordC) A ++ sortA (ltC ordC) B = S at lS hCS pS
   have s1 : Srt S 0 20 := by rw [← hS, ← lA]; exact srt_left (sortA_up A)
   have s2 : Srt S 20 rows.length := by
    have := srt_right (X := sortA (ltC ordC) A) (sortA_up B)
    rw [hS, lA, lB] at this
    rwa [show 20 + (rows.length - 20) = rows.length by omega] at this
   refine Ret.loop (P := fun c g => ∃ T, g = [.l T] ∧ T.Perm rows ∧ T.Pairwise fun a b => ltC ordC b a = false) ?_ (by rw [l1, lS]; simp) ?_
   ·by_cases h0 : rows.length = 20
    ·refine RetL.stop (x := 0) (d' := [.l S]) (Ret.toEq ?_) ⟨S, rfl, pS, ?_⟩
     ·unfold st_stbS_Contact_2_7
      (dsimp +instances only [Aa,Ab,Ac,Ad,Ae,Af,Ag])
      exact Ret.n (Ret.some rfl)
     ·refine srt_pw ?_
      rw [lS, h0]
      exact s1
    ·have key : Ret (st_stbS_Contact_2_7 [.l S, .i (rows.length : Int), .i 20]) fun o => ∃ T, o = (none, [.l T, .i (rows.length : Int), .i 40]) ∧ T.Perm rows ∧ T.Pairwise fun a b => ltC ordC b a = false := by
      unfold st_stbS_Contact_2_7
      (dsimp +instances only [Aa,Ab,Ac,Ad,Ae,Af,Ag])
      refine Ret.p (Ret.pos rfl ?_)
      refine Ret.loop (P := fun c g => g = [.l S, .i (rows.length : Int), .i 20, .i 0]) ?_ (by simp) ?_
      ·refine RetL.stop (x := 0) (Ret.toEq ?_) rfl
       unfold st_stbS_Contact_2_9
       (dsimp +instances only [Aa,Ab,Ac,Ad,Ae,Af,Ag])
       exact Ret.n (Ret.pos (by simp) (Ret.some rfl))
      ·rintro c _ rfl
       (dsimp +instances only [Aa,Ab,Ac,Ad,Ae,Af,Ag])
       refine Ret.pos rfl (Ret.p ?_)
       have h := sym_ok 40 S 0 20 rows.length hCS (by omega) (by omega) (by omega) (by omega) (by omega) s1 s2
       have h : Ret (F_sl_symMergeCmpFunc_Contact [.l S, .i 0, .i (0 + 20), .i (rows.length : Int)]) _ := h
       refine Ret.callb h (by simp) ?_
       rintro _ ⟨T, rfl, d1, d2⟩
       (dsimp +instances only [Aa,Ab,Ac,Ad,Ae,Af,Ag])
       refine Ret.pos rfl (Ret.pos (by rw [d1.1]; simp) (Ret.some ⟨T, rfl, d1.2.1.trans pS, srt_pw ?_⟩))
       rw [d1.1, lS]
       exact d2
     obtain ⟨o, ho, T, rfl, q1, q2⟩ := key
     refine RetN.to (m := 2) (RetN.next ho (RetN.stop (x := 0) (d' := [.l T]) (Ret.toEq ?_) ⟨T, rfl, q1, q2⟩)) (by omega)
     unfold st_stbS_Contact_2_7
     (dsimp +instances only [Aa,Ab,Ac,Ad,Ae,Af,Ag])
     exact Ret.n (Ret.some rfl)
   ·rintro c _ ⟨T, rfl, q1, q2⟩
    exact Ret.some ⟨T, rfl, q1, q2⟩
theorem sort39 (rows : List (List G)) (hC : ∀ z ∈ rows, Con z) (hn : rows.length ≤ 39) (ht : ∀ a ∈ rows, ∀ b ∈ rows, ordC a b = 0 → a = b) : F_srtS_Contact_2 [.l rows] = some [.l (sortA (ltC ordC) rows)] := by
 refine Ret.toEq ?_
 unfold F_srtS_Contact_2
 (dsimp +instances only [Aa,Ab,Ac,Ad,Ae,Af,Ag])
 refine Ret.callb (stable_up rows hC hn) (by simp) ?_
 rintro _ ⟨S, rfl, h1, h2⟩
 refine Ret.some ?_
 have : S = sortA (ltC ordC) rows := sorted_unique (h1.trans (sortA_perm rows).symm) (fun a ha b hb q1 q2 => ht a (h1.subset ha) b (h1.subset hb) (by
  have := not_lt q1
  have := not_lt q2
  have := ordC_fl a b
  omega)) h2 (sortA_sorted linO fun _ _ => trivial)
 exact congrArg (fun z => [G.l z]) this
theorem ordC_tr2 (a b d : List G) (h1 : ordC a b < 0) (h2 : ordC b d < 0) : ordC a d < 0 :=
 or2_lt ordrI _ _ _ _ _ _ h1 h2 fun g1 g2 => or2_lt ordrS _ _ _ _ _ _ g1 g2 fun k1 k2 => or2_lt ordrS _ _ _ _ _ _ k1 k2 fun m1 m2 => ordrI.tr _ _ _ m1 m2
theorem faultL_up2 : ∀ {l : List (List G)} {y : List G}, faultL (some y) l = 0 → (y :: l).Pairwise fun a b => ordC a b < 0
 | [], y, _ => by simp
 | x :: q, y, h => by
  simp only [faultL] at h
  split at h
  ·contradiction
  ·split at h
   ·cases h
   ·rename_i h0
    have ih := faultL_up2 h
    have hyx : ordC y x < 0 := by omega
    refine List.pairwise_cons.2 ⟨fun z hz => ?_, ih⟩
    rcases List.mem_cons.1 hz with rfl | hz
    ·exact hyx
    ·exact ordC_tr2 _ _ _ hyx ((List.pairwise_cons.1 ih).1 z hz)
theorem log_up2 {l : List (List G)} (h : faultLog l = 0) : l.Pairwise fun a b => ordC a b < 0 := by
 unfold faultLog at h
 split at h
 ·cases h
 ·cases l with
  | nil => exact List.Pairwise.nil
  | cons x q =>
   simp only [faultL] at h
   split at h
   ·contradiction
   ·exact faultL_up2 h
theorem faultL_of2 : ∀ {l : List (List G)} {y : List G}, (∀ x ∈ l, faultC x = 0) → (y :: l).Pairwise (fun a b => ordC a b < 0) → faultL (some y) l = 0
 | [], _, _, _ => rfl
 | x :: q, y, h0, h => by
  obtain ⟨h1, h2⟩ := List.pairwise_cons.1 h
  have hx := h1 x List.mem_cons_self
  simp only [faultL]
  rw [if_neg (by simpa using h0 x List.mem_cons_self), if_neg (by omega)]
  exact faultL_of2 (fun z hz => h0 z (List.mem_cons_of_mem _ hz)) h2
theorem log_of2 {l : List (List G)} (h0 : ∀ x ∈ l, faultC x = 0) (h : l.Pairwise (fun a b => ordC a b < 0)) (hn : l.length ≤ 2000) : faultLog l = 0 := by
 unfold faultLog
 rw [if_neg (by omega)]
 cases l with
 | nil => rfl
 | cons x q =>
  simp only [faultL]
  rw [if_neg (by simpa using h0 x List.mem_cons_self)]
  exact faultL_of2 (fun z hz => h0 z (List.mem_cons_of_mem _ hz)) h
theorem partsC (l rows : List (List G)) (a : Int) (ha : 0 ≤ a) (ha1 : a ≤ 100000) (hr : ∀ z ∈ rows, Con z) (hn : rows.length ≤ 1000) :
  Ret (F_k2_parts_Contact [.l l, .i a, .l rows]) fun g => ∃ b p q, g = [.l l, .i b, .l p, .l q] ∧ a ≤ b ∧ b ≤ a + 1000 ∧ p.Sublist rows ∧ q.Sublist rows ∧ ∀ z ∈ rows, z ∈ p ∨ z ∈ q := by
 unfold F_k2_parts_Contact
 (dsimp +instances only [Aa,Ab,Ac,Ad,Ae,Af,Ag])
 have r := range_all (st := st_k2_parts_Contact_3) (σ := Int × List (List G) × List (List G)) (fun s i => [.l l, .i s.1, .l s.2.1, .l s.2.2, .l rows, .i (rows.length : Int), .i (i : Int)]) rows (fun s => (0, [.l l, .i s.1, .l s.2.1, .l s.2.2]))
  (fun s i => (a ≤ s.1 ∧ s.1 ≤ a + i) ∧ s.2.1.Sublist (rows.take i) ∧ s.2.2.Sublist (rows.take i) ∧ ∀ z ∈ rows.take i, z ∈ s.2.1 ∨ z ∈ s.2.2) (a, [], []) (by omega) ⟨⟨by simp, by simp⟩, by simp, by simp, by simp⟩
  (fun s i x hI hi hx hm ht => by
   obtain ⟨⟨h1, h2⟩, hp, hq, hz⟩ := hI
   have hc := hr x hm
   have lp := hp.length_le
   have lq := hq.length_le
   simp only [List.length_take] at lp lq
   have up : ∀ {u : List (List G)}, u.Sublist (rows.take i) → (u ++ [x]).Sublist (rows.take (i + 1)) := fun h => by
    rw [ht]
    exact h.append (List.Sublist.refl _)
   have up0 : ∀ {u : List (List G)}, u.Sublist (rows.take i) → u.Sublist (rows.take (i + 1)) := fun h => by
    rw [ht]
    exact h.trans (List.sublist_append_left _ _)
   unfold st_k2_parts_Contact_3
   (dsimp +instances only [Aa,Ab,Ac,Ad,Ae,Af,Ag])
   simp only [Int.toNat_natCast, hx, hc.eta]
   refine Ret.p (Ret.p ?_)
   refine Ret.call (r_Next l s.1 3 (by omega) (by omega) (by omega) (by omega)) ?_
   rintro _ ⟨v, rfl, hv0, hv1⟩
   (dsimp +instances only [Aa,Ab,Ac,Ad,Ae,Af,Ag])
   refine Ret.test (fun _ => ?_) fun _ => ?_
   ·(repeat first|refine Ret.p ?_|refine Ret.n ?_)
    refine Ret.some ⟨(s.1 + 1, s.2.1 ++ [x], s.2.2), rfl, ⟨by simp only; omega, by simp only; omega⟩, up hp, up0 hq, fun z hz' => ?_⟩
    rw [ht] at hz'
    rcases List.mem_append.1 hz' with h | h
    ·exact (hz z h).imp (fun h => List.mem_append_left _ h) id
    ·exact .inl (List.mem_append_right _ h)
   ·refine Ret.test (fun _ => ?_) fun _ => ?_
    ·(repeat first|refine Ret.p ?_|refine Ret.n ?_)
     refine Ret.some ⟨(s.1 + 1, s.2.1, s.2.2 ++ [x]), rfl, ⟨by simp only; omega, by simp only; omega⟩, up0 hp, up hq, fun z hz' => ?_⟩
     rw [ht] at hz'
     rcases List.mem_append.1 hz' with h | h
     ·exact (hz z h).imp id (fun h => List.mem_append_left _ h)
     ·exact .inr (List.mem_append_right _ h)
    ·(repeat first|refine Ret.p ?_|refine Ret.n ?_)
     refine Ret.some ⟨(s.1 + 1, s.2.1 ++ [x], s.2.2 ++ [x]), rfl, ⟨by simp only; omega, by simp only; omega⟩, up hp, up hq, fun z hz' => ?_⟩
     rw [ht] at hz'
     rcases List.mem_append.1 hz' with h | h
     ·exact (hz z h).imp (fun h => List.mem_append_left _ h) (fun h => List.mem_append_left _ h)
     ·exact .inl (List.mem_append_right _ h))
  (fun s hI => by
   unfold st_k2_parts_Contact_3
   (dsimp +instances only [Aa,Ab,Ac,Ad,Ae,Af,Ag])
   (repeat first|refine Ret.p ?_|refine Ret.n ?_)
   exact Ret.some rfl)
 refine Ret.loop r (by simp) ?_
 rintro _ _ ⟨s, ⟨⟨h1, h2⟩, hp, hq, hz⟩, rfl, rfl⟩
 (dsimp +instances only [Aa,Ab,Ac,Ad,Ae,Af,Ag])
 rw [List.take_length] at hp hq hz
 refine Ret.pos (by simp) (Ret.some ⟨s.1, s.2.1, s.2.2, rfl, h1, by omega, hp, hq, hz⟩)
theorem textL_len {B : Nat} {f : List G → List (List UInt8)} : ∀ {x : List (List G)}, (∀ z ∈ x, (lineL (f z)).length ≤ B) → (textL (x.map f)).length ≤ B * x.length
 | [], _ => by simp [textL]
 | z :: x, h => by
  have ih := textL_len (x := x) fun y hy => h y (List.mem_cons_of_mem z hy)
  have := h z List.mem_cons_self
  have e : textL ((z :: x).map f) = lineL (f z) ++ textL (x.map f) := rfl
  rw [e, List.length_append, List.length_cons, Nat.mul_succ]
  omega
/-! ### Two parts merged -/
theorem rowEq_conE {a b : List G} (ha : Con a) (hb : Con b) (h : rowEq [.int .i64, .int .i64, .str, .str, .int .i64, .int .i64, .str, .str] a b = true) : a = b := by
 obtain ⟨t, m, c, d, s, u, x, y, rfl, _⟩ := ha
 obtain ⟨t', m', c', d', s', u', x', y', rfl, _⟩ := hb
 have e : rowEq [.int .i64, .int .i64, .str, .str, .int .i64, .int .i64, .str, .str] [.i t, .i m, .s c, .s d, .i s, .i u, .s x, .s y] [.i t', .i m', .s c', .s d', .i s', .i u', .s x', .s y'] = ((t == t') && ((m == m') && ((c.toList == c'.toList) && ((d.toList == d'.toList) && ((s == s') && ((u == u') && ((x.toList == x'.toList) && ((y.toList == y'.toList) && true)))))))) := rfl
 rw [e] at h
 simp only [Bool.and_eq_true, beq_iff_eq, Bool.and_true] at h
 obtain ⟨h1, h2, h3, h4, h5, h6, h7, h8⟩ := h
 have e3 : c = c' := str_ext (by simpa using h3)
 have e4 : d = d' := str_ext (by simpa using h4)
 have e7 : x = x' := str_ext (by simpa using h7)
 have e8 : y = y' := str_ext (by simpa using h8)
 rw [h1, h2, e3, e4, h5, h6, e7, e8]
theorem ordC_irr (a : List G) : ¬ ordC a a < 0 := fun h => by
 have := ordC_fl a a
 omega
theorem rise_tie {x : List (List G)} (h : x.Pairwise fun a b => ordC a b < 0) : ∀ a ∈ x, ∀ b ∈ x, ordC a b = 0 → a = b := by
 intro a ha b hb e
 obtain ⟨i, hi, rfl⟩ := List.getElem_of_mem ha
 obtain ⟨j, hj, rfl⟩ := List.getElem_of_mem hb
 have hp := List.pairwise_iff_getElem.1 h
 by_cases k1 : i < j
 ·have := hp i j hi hj k1
  omega
 ·by_cases k2 : j < i
  ·have := hp j i hj hi k2
   have := ordC_fl x[i] x[j]
   omega
  ·have : i = j := by omega
   subst this
   rfl
theorem mixed_parts {x p q : List (List G)} (hx : ∀ z ∈ x, Con z) (hs : x.Pairwise fun a b => ordC a b < 0) (hp : ∀ z ∈ p, z ∈ x) (hq : ∀ z ∈ q, z ∈ x) (hz : ∀ z ∈ x, z ∈ p ∨ z ∈ q) : mixed p q = x := by
 have hpq : ∀ z ∈ p ++ q, z ∈ x := fun z h => (List.mem_append.1 h).elim (hp z) (hq z)
 have hS : ∀ z ∈ sortA (ltC ordC) (p ++ q), z ∈ x := sortA_all (lt := ltC ordC) hpq
 have he : ∀ a ∈ sortA (ltC ordC) (p ++ q), ∀ b ∈ sortA (ltC ordC) (p ++ q), rowEq [.int .i64, .int .i64, .str, .str, .int .i64, .int .i64, .str, .str] a b = true → a = b := fun a ha b hb h => rowEq_conE (hx a (hS a ha)) (hx b (hS b hb)) h
 refine rising_unique (R := fun a b => ordC a b < 0) ordC_irr ordC_tr2 (compact_rising ordC_tr2 (fun z _ => rowEq_refl [.int .i64, .int .i64, .str, .str, .int .i64, .int .i64, .str, .str] z rfl) (fun _ _ _ h1 h2 => rowEq_trans h1 h2) he ?_) hs fun z => ?_
 ·refine List.Pairwise.imp_of_mem ?_ (sortA_up (p ++ q))
  intro a b ha hb h
  by_cases h0 : ordC a b = 0
  ·exact .inl (rise_tie hs a (hS a ha) b (hS b hb) h0)
  ·exact .inr (by omega)
 ·show z ∈ compact (rowEq [.int .i64, .int .i64, .str, .str, .int .i64, .int .i64, .str, .str]) (sortA (ltC ordC) (p ++ q)) ↔ z ∈ x
  rw [compact_iff he, (sortA_perm (lt := ltC ordC) (p ++ q)).mem_iff, List.mem_append]
  exact ⟨fun h => h.elim (hp z) (hq z), hz z⟩
theorem part_log {x p : List (List G)} (hn : x.length ≤ 1000) (h : faultLog x = 0) (hp : p.Sublist x) : faultLog p = 0 := by
 have := hp.length_le
 exact log_of2 (fun z hz => faultLog_all h z (hp.subset hz)) ((log_up2 h).sublist hp) (by omega)
theorem concat40 (a b : List (List G)) (h : a.length + b.length ≤ 1000) : F_sl_Concat_Contact_f [.l [[.l a], [.l b]]] = some [.l (a ++ b)] := by
 have h := concF_eq (K := [.int .i64, .int .i64, .str, .str, .int .i64, .int .i64, .str, .str]) (Z := zC) [a, b] (by simp [lenAll]; omega) (by simp)
 rw [show [a, b].flatten = a ++ b from by simp] at h
 exact h
theorem rise_clash {x : List (List G)} (h : x.Pairwise fun a b => ordC a b < 0) : clash x = false := by
 have key : ∀ k i, i + k = x.length → clash (x.drop i) = false := by
  intro k
  induction k with
  | zero => exact fun i hi => clash_last x i (by omega)
  | succ k ih =>
   intro i hi
   by_cases h1 : i + 1 < x.length
   ·rw [clash_drop x i h1, ih (i + 1) (by omega), Bool.or_false, beq_eq_false_iff_ne]
    have := adj_of_pairwise h (i + 1) (by omega) h1
    simp only [Nat.add_sub_cancel] at this
    omega
   ·exact clash_last x i (by omega)
 have := key x.length 0 (by omega)
 simpa using this
theorem mergeLog {x p q : List (List G)} (hx : ∀ z ∈ x, Con z) (hf : faultLog x = 0) (hp : p.Sublist x) (hq : q.Sublist x) (hz : ∀ z ∈ x, z ∈ p ∨ z ∈ q) (hn : x.length ≤ 19) : F_log_Merge [.l p, .l q] = some [.l x, .i 0] := by
 have lp := hp.length_le
 have lq := hq.length_le
 have hs := log_up2 hf
 have hP : ∀ z ∈ p, Con z := fun z hz => hx z (hp.subset hz)
 have hQ : ∀ z ∈ q, Con z := fun z hz => hx z (hq.subset hz)
 have hpq : ∀ z ∈ p ++ q, z ∈ x := fun z h => (List.mem_append.1 h).elim (fun h => hp.subset h) fun h => hq.subset h
 have hab : ∀ z ∈ p ++ q, Con z := fun z h => hx z (hpq z h)
 have hS := sortA_all (lt := ltC ordC) hab
 have hsl := sortA_length (ltC ordC) (p ++ q)
 have hal : (p ++ q).length = p.length + q.length := List.length_append
 have hm : mixed p q = x := mixed_parts hx hs (fun z h => hp.subset h) (fun z h => hq.subset h) hz
 refine Ret.toEq ?_
 unfold F_log_Merge
 (dsimp +instances only [Aa,Ab,Ac,Ad,Ae,Af,Ag])
 refine Ret.cE (both_eq p q hP hQ (by omega) (by omega)) ?_
 (dsimp +instances only [Aa,Ab,Ac,Ad,Ae,Af,Ag])
 rw [part_log (by omega) hf hp, part_log (by omega) hf hq]
 refine Ret.neg rfl ?_
 refine Ret.cE (concat40 p q (by omega)) ?_
 (dsimp +instances only [Aa,Ab,Ac,Ad,Ae,Af,Ag])
 refine Ret.callb (Ret.eq (sort39 _ hab (by omega) fun a ha b hb e => rise_tie hs a (hpq a ha) b (hpq b hb) e)) (by simp) ?_
 rintro _ rfl
 (dsimp +instances only [Aa,Ab,Ac,Ad,Ae,Af,Ag])
 refine Ret.callb (P := fun g => ∃ J, g = [.l (mixed p q ++ J), .i ((mixed p q).length : Int)] ∧ (mixed p q ++ J).length = (sortA (ltC ordC) (p ++ q)).length)
  (cmpcF_eq (Z := zC) kdsC _ hS (by omega)) (by rw [hsl]; simp) ?_
 rw [hm]
 rintro _ ⟨J, rfl, hJ⟩
 (dsimp +instances only [Aa,Ab,Ac,Ad,Ae,Af,Ag])
 simp only [Int.toNat_natCast]
 refine Ret.loop ((merge_runs x J hx (by omega) x.length 0 (by omega)).to (by omega)) rfl ?_
 rintro c g (⟨rfl, rfl, hcl⟩ | ⟨rfl, rfl, hcl⟩)
 ·have hcl : clash x = true := hcl
  rw [rise_clash hs] at hcl
  cases hcl
 ·(dsimp +instances only [Aa,Ab,Ac,Ad,Ae,Af,Ag])
  simp only [Int.toNat_natCast]
  (repeat first|refine Ret.p ?_|refine Ret.n ?_)
  exact Ret.some (by simp)
/-! ### What is lacking -/
theorem lack_none {x p : List (List G)} (h : ∀ z ∈ p, z ∈ x) : lacking x p = [] := by
 unfold lacking
 rw [List.filter_eq_nil_iff]
 intro z hz
 have : (x.any fun y => rowEq [.int .i64, .int .i64, .str, .str, .int .i64, .int .i64, .str, .str] z y) = true := List.any_eq_true.2 ⟨z, h z hz, rowEq_refl [.int .i64, .int .i64, .str, .str, .int .i64, .int .i64, .str, .str] z rfl⟩
 simp [this]
theorem filter_len (p : List G → Bool) : ∀ l : List (List G), (l.filter p).length + (l.filter fun z => !p z).length = l.length
 | [] => rfl
 | z :: l => by
  have ih := filter_len p l
  simp only [List.filter_cons]
  cases p z with
  | true => simp; omega
  | false => simp; omega
theorem lack_more {x p q : List (List G)} (hx : ∀ z ∈ x, Con z) (hs : x.Pairwise fun a b => ordC a b < 0) (hp : p.Sublist x) (hq : q.Sublist x) (hz : ∀ z ∈ x, z ∈ p ∨ z ∈ q) : p.length + (lacking p q).length = x.length := by
 have hin : ∀ z ∈ x, ((p.any fun y => rowEq [.int .i64, .int .i64, .str, .str, .int .i64, .int .i64, .str, .str] z y) = true ↔ z ∈ p) := fun z hzx => by
  rw [List.any_eq_true]
  exact ⟨fun ⟨y, hy, e⟩ => by rw [rowEq_conE (hx z hzx) (hx y (hp.subset hy)) e]; exact hy, fun h => ⟨z, h, rowEq_refl [.int .i64, .int .i64, .str, .str, .int .i64, .int .i64, .str, .str] z rfl⟩⟩
 have e1 : x.filter (fun z => p.any fun y => rowEq [.int .i64, .int .i64, .str, .str, .int .i64, .int .i64, .str, .str] z y) = p := rising_unique (R := fun a b => ordC a b < 0) ordC_irr ordC_tr2 (hs.sublist List.filter_sublist) (hs.sublist hp) fun z => by
  rw [List.mem_filter]
  exact ⟨fun ⟨h1, h2⟩ => (hin z h1).1 h2, fun h => ⟨hp.subset h, (hin z (hp.subset h)).2 h⟩⟩
 have e2 : x.filter (fun z => !p.any fun y => rowEq [.int .i64, .int .i64, .str, .str, .int .i64, .int .i64, .str, .str] z y) = lacking p q := rising_unique (R := fun a b => ordC a b < 0) ordC_irr ordC_tr2 (hs.sublist List.filter_sublist) ((hs.sublist hq).sublist List.filter_sublist) fun z => by
  unfold lacking
  rw [List.mem_filter, List.mem_filter]
  constructor
  ·rintro ⟨h1, h2⟩
   refine ⟨(hz z h1).resolve_left fun h => ?_, h2⟩
   rw [(hin z h1).2 h] at h2
   cases h2
  ·rintro ⟨h1, h2⟩
   exact ⟨hq.subset h1, h2⟩
 have := filter_len (fun z => p.any fun y => rowEq [.int .i64, .int .i64, .str, .str, .int .i64, .int .i64, .str, .str] z y) x
 rw [e1, e2] at this
 exact this
/-! ### Texts of logs -/
theorem textLog (x : List (List G)) (hx : ∀ z ∈ x, Con z) (hf : faultLog x = 0) (hn : x.length ≤ 20) : F_log_Text [.l x] = some [.s (byL (textL (x.map wordsC))), .i 0] := by
 have hW : ∀ z ∈ x, ConW z := fun z hz => conW_of (hx z hz) (faultLog_all hf z hz)
 refine Ret.toEq ?_
 unfold F_log_Text
 (dsimp +instances only [Aa,Ab,Ac,Ad,Ae,Af,Ag])
 refine Ret.cE (checkLog_eq x hx (by omega)) ?_
 (dsimp +instances only [Aa,Ab,Ac,Ad,Ae,Af,Ag])
 rw [hf]
 refine Ret.neg rfl ?_
 have r := range_all (st := st_log_Text_6) (σ := Unit) (fun _ i => [.s (byL (textL ((x.take i).map wordsC))), .l x, .i (x.length : Int), .i (i : Int)]) x (fun _ => (0, [.s (byL (textL (x.map wordsC)))])) (fun _ _ => True) () (by omega) trivial
  (fun _ i z _ hi hz hm ht => by
   have hl := wordsC_len (hW _ hm)
   have ht1 : (textL ((x.take i).map wordsC)).length ≤ 160 * (x.take i).length := textL_len fun w hw => wordsC_len (hW w (List.mem_of_mem_take hw))
   have ht2 : (x.take i).length ≤ 20 := by rw [List.length_take]; omega
   unfold st_log_Text_6
   (dsimp +instances only [Aa,Ab,Ac,Ad,Ae,Af,Ag])
   simp only [Int.toNat_natCast, hz, (hx z hm).eta]
   refine Ret.p (Ret.p ?_)
   refine Ret.cE (lineC (hW z hm)) ?_
   (dsimp +instances only [Aa,Ab,Ac,Ad,Ae,Af,Ag])
   refine Ret.cE (writeB _ _ (by rw [byL_size, byL_size]; omega)) ?_
   (dsimp +instances only [Aa,Ab,Ac,Ad,Ae,Af,Ag])
   refine Ret.p (Ret.some ⟨(), ?_, trivial⟩)
   rw [ht, List.map_append, show [z].map wordsC = [wordsC z] from rfl, textL_snoc, ← byL_append]
   rfl)
  (fun _ _ => by
   unfold st_log_Text_6
   (dsimp +instances only [Aa,Ab,Ac,Ad,Ae,Af,Ag])
   rw [List.take_length]
   exact Ret.n (Ret.some rfl))
 refine Ret.loop r (by simp) ?_
 rintro _ _ ⟨_, _, rfl, rfl⟩
 (dsimp +instances only [Aa,Ab,Ac,Ad,Ae,Af,Ag])
 have hl : (textL (x.map wordsC)).length ≤ 160 * x.length := textL_len fun w hw => wordsC_len (hW w hw)
 refine Ret.cE (lenB _) ?_
 (dsimp +instances only [Aa,Ab,Ac,Ad,Ae,Af,Ag])
 refine Ret.neg (by rw [byL_size, ltI_eq, decide_eq_false_iff_not]; omega) ?_
 refine Ret.cE (stringB _) ?_
 exact Ret.some rfl
theorem readLog (x : List (List G)) (hx : ∀ z ∈ x, Con z) (hf : faultLog x = 0) (hn : x.length ≤ 20) : F_log_Read [.s (byL (textL (x.map wordsC)))] = some [.l x, .i 0, .i 0] := by
 have hW : ∀ z ∈ x, ConW z := fun z hz => conW_of (hx z hz) (faultLog_all hf z hz)
 have hl : (textL (x.map wordsC)).length ≤ 160 * x.length := textL_len fun w hw => wordsC_len (hW w hw)
 refine Ret.toEq ?_
 unfold F_log_Read
 (dsimp +instances only [Aa,Ab,Ac,Ad,Ae,Af,Ag])
 refine Ret.neg (by rw [byL_size, ltI_eq, decide_eq_false_iff_not]; omega) ?_
 refine Ret.call (Ret.eq (linesKit (x.map wordsC) (fun ws hws => by
  obtain ⟨z, hz, rfl⟩ := List.mem_map.1 hws
  exact wordsC_word (hW z hz)) (by omega))) ?_
 rintro _ rfl
 (dsimp +instances only [Aa,Ab,Ac,Ad,Ae,Af,Ag])
 rw [List.map_map]
 generalize hr : x.map ((fun ws => [G.s (byL (Lib.join ws [32]))]) ∘ wordsC) = rows
 have hlen : rows.length = x.length := by rw [← hr, List.length_map]
 have hrow : ∀ i (hi : i < x.length), rows.getD i [] = [G.s (byL (Lib.join (wordsC x[i]) [32]))] := fun i hi => by
  rw [← hr, List.getD_eq_getElem?_getD, List.getElem?_map, List.getElem?_eq_getElem hi]
  rfl
 have r := range_all (st := st_log_Read_6) (σ := Unit) (fun _ i => [.l (x.take i), .l rows, .t true, .l rows, .i (rows.length : Int), .i (i : Int)]) rows (fun _ => (1, [.l x])) (fun _ _ => True) () (by omega) trivial
  (fun _ i z _ hi hz hm _ => by
   have hi' : i < x.length := by omega
   have hm' : x[i] ∈ x := List.getElem_mem hi'
   have ht : x.take (i + 1) = x.take i ++ [x[i]] := by rw [List.take_add_one, List.getElem?_eq_getElem hi']; rfl
   have ht2 : (x.take i).length ≤ 20 := by rw [List.length_take]; omega
   have hll := wordsC_len (hW _ hm')
   unfold st_log_Read_6
   (dsimp +instances only [Aa,Ab,Ac,Ad,Ae,Af,Ag])
   simp only [Int.toNat_natCast, hrow i hi']
   refine Ret.p (Ret.p ?_)
   refine Ret.call (Ret.eq (wordsKit (wordsC x[i]) (by simp [wordsC]) (wordsC_word (hW _ hm')) (by simp [wordsC]) (by
    unfold lineL at hll
    rw [List.length_append] at hll
    omega))) ?_
   rintro _ rfl
   (dsimp +instances only [Aa,Ab,Ac,Ad,Ae,Af,Ag])
   refine Ret.neg rfl (Ret.neg rfl ?_)
   refine Ret.cE (readC (hW _ hm')) ?_
   (dsimp +instances only [Aa,Ab,Ac,Ad,Ae,Af,Ag])
   refine Ret.neg rfl (Ret.pos (by simp; omega) (Ret.p (Ret.pos (by simp) (Ret.some ⟨(), ?_, trivial⟩))))
   rw [ht, (hx _ hm').eta]
   rfl)
  (fun _ _ => by
   unfold st_log_Read_6
   (dsimp +instances only [Aa,Ab,Ac,Ad,Ae,Af,Ag])
   rw [hlen, List.take_length]
   exact Ret.n (Ret.pos (by simp) (Ret.some rfl)))
 refine Ret.loop r (by simp) ?_
 rintro _ _ ⟨_, _, rfl, rfl⟩
 (dsimp +instances only [Aa,Ab,Ac,Ad,Ae,Af,Ag])
 refine Ret.neg rfl ?_
 refine Ret.callb (Ret.eq (checkLog_eq x hx (by omega))) (by simp) ?_
 rintro _ rfl
 (dsimp +instances only [Aa,Ab,Ac,Ad,Ae,Af,Ag])
 rw [hf]
 exact Ret.neg rfl (Ret.pos (by simp) (Ret.some rfl))
theorem errs_six : F_k2_errs [.l [[.i 0], [.i 0], [.i 0], [.i 0], [.i 0], [.i 0]]] = some [.i 0] := by kernel_rfl
theorem logsAreOne_data (rows : List (List G)) : F_k2_LogsAreOne [.l rows] = some [.t true] := by
 refine Ret.toEq ?_
 unfold F_k2_LogsAreOne
 (dsimp +instances only [Aa,Ab,Ac,Ad,Ae,Af,Ag])
 refine Ret.call (r_Range rows 0 0 12 (by omega) (by omega) (by omega) (by omega) (by omega)) ?_
 rintro _ ⟨n, rfl, hn0, hn1⟩
 (dsimp +instances only [Aa,Ab,Ac,Ad,Ae,Af,Ag])
 refine Ret.call (r_Right rows _ n (by omega) (by omega) hn0 (by omega)) ?_
 rintro _ ⟨p1, x, rfl, hp1, hp1', hxT, hxl, hf⟩
 (dsimp +instances only [Aa,Ab,Ac,Ad,Ae,Af,Ag])
 have hx : ∀ z ∈ x, Con z := fun z hz => (hxT z hz).to
 refine Ret.call (partsC rows x p1 (by omega) (by omega) hx (by omega)) ?_
 rintro _ ⟨p2, p, q, rfl, _, _, hp, hq, hpq⟩
 (dsimp +instances only [Aa,Ab,Ac,Ad,Ae,Af,Ag])
 have lp := hp.length_le
 have lq := hq.length_le
 have hP : ∀ z ∈ p, Con z := fun z hz => hx z (hp.subset hz)
 have hQ : ∀ z ∈ q, Con z := fun z hz => hx z (hq.subset hz)
 have fp := part_log (by omega) hf hp
 have fq := part_log (by omega) hf hq
 have hs := log_up2 hf
 have none_ : F_log_Lacks [.l x, .l p] = some [.l [], .i 0] := by
  rw [lacks_ok x p hx hP (by omega) (by omega), hf, fp, lack_none fun z h => hp.subset h]
  rfl
 have more_ : F_log_Lacks [.l p, .l q] = some [.l (lacking p q), .i 0] := by
  rw [lacks_ok p q hP hQ (by omega) (by omega), fp, fq]
  rfl
 refine Ret.cE (mergeLog hx hf hp hq hpq (by omega)) ?_
 refine Ret.cE (mergeLog hx hf hq hp (fun z hz => (hpq z hz).symm) (by omega)) ?_
 refine Ret.cE none_ ?_
 (dsimp +instances only [Aa,Ab,Ac,Ad,Ae,Af,Ag])
 refine Ret.cE (textLog x hx hf (by omega)) ?_
 (dsimp +instances only [Aa,Ab,Ac,Ad,Ae,Af,Ag])
 refine Ret.cE (readLog x hx hf (by omega)) ?_
 refine Ret.cE more_ ?_
 (dsimp +instances only [Aa,Ab,Ac,Ad,Ae,Af,Ag])
 refine Ret.cE errs_six ?_
 refine Ret.pos rfl ?_
 have eq := equal_refl x hx (by omega)
 refine Ret.cE eq ?_
 refine Ret.pos rfl ?_
 refine Ret.cE eq ?_
 refine Ret.pos rfl (Ret.pos rfl ?_)
 refine Ret.cE eq ?_
 have hm := lack_more hx hs hp hq hpq
 refine Ret.pos rfl (Ret.p (Ret.pos (by simp only [beq_iff_eq]; omega) ?_))
 refine Ret.cE (rfl : F_k2_ready [] = some [.t true]) ?_
 exact Ret.some rfl
end
end Go.Proofs.SYtchcbaapbinpbaaGreatDoor
