/-
 What is proved here: what the methods of the stream give on data. No condition.
-/
import Derived.Test.YtmohppjkkpaaoaaGreatDoorML3
import Derived.Test.YtmohppjkkpaaoaaGreatDoorME
set_option linter.all false
namespace Go.Proofs.SYtmohppjkkpaaoaaGreatDoor
open Go Go.AL Go.Proofs
noncomputable section
theorem r_Below (x n : Int) (h0 : 1 ≤ n) (h1 : n ≤ 1099511627776) : Ret (F_pilemake_Below [.i x, .i n]) fun g => ∃ v, g = [.i v] ∧ 0 ≤ v ∧ v < n := by
 unfold F_pilemake_Below
 (dsimp +instances only [Aa,Ab,Ac,Ad,Ae,Af,Ag])
 have ha := Int.tmod_lt_of_pos x (by omega : 0 < n)
 have hb := Int.lt_tmod_of_pos x (by omega : 0 < n)
 (repeat first|refine Ret.p ?_|refine Ret.n ?_)
 refine Ret.test (fun h => ?_) fun h => ?_
 ·simp only [ltI_eq, decide_eq_true_eq] at h
  (repeat first|refine Ret.p ?_|refine Ret.n ?_)
  exact Ret.some ⟨_, rfl, by omega, by omega⟩
 ·simp only [ltI_eq, decide_eq_false_iff_not] at h
  exact Ret.some ⟨_, rfl, by omega, by omega⟩
theorem r_Next (l : List (List G)) (a n : Int) (ha : 0 ≤ a) (ha1 : a ≤ 1000000) (h0 : 1 ≤ n) (h1 : n ≤ 1099511627776) :
  Ret (F_mk_Next [.l l, .i a, .i n]) fun g => ∃ v, g = [.l l, .i (a + 1), .i v] ∧ 0 ≤ v ∧ v < n := by
 unfold F_mk_Next
 (dsimp +instances only [Aa,Ab,Ac,Ad,Ae,Af,Ag])
 have ea : a + 1 - 1 = a := by omega
 simp only [ea]
 by_cases hl : l.length = 0
 ·(repeat first|refine Ret.p ?_|refine Ret.n ?_)
  refine Ret.call (r_Below _ n h0 h1) ?_
  rintro _ ⟨v, rfl, h2, h3⟩
  (dsimp +instances only [Aa,Ab,Ac,Ad,Ae,Af,Ag])
  exact Ret.some ⟨v, rfl, h2, h3⟩
 ·have hp : (0 : Int) < (l.length : Int) := by omega
  have d0 : 0 ≤ Int.tdiv a l.length := Int.tdiv_nonneg ha (by omega)
  have d1 : Int.tdiv a l.length ≤ a := by
   rw [Int.tdiv_eq_ediv_of_nonneg ha]
   exact Int.ediv_le_self _ ha
  have m0 : 0 ≤ Int.tmod a l.length := by
   rw [Int.tmod_eq_emod_of_nonneg ha]
   exact Int.emod_nonneg _ (by omega)
  have m1 : Int.tmod a l.length < l.length := Int.tmod_lt_of_pos a hp
  have m2 : Int.tmod a l.length ≤ a := by
   rw [Int.tmod_eq_emod_of_nonneg ha]
   have := Int.mul_ediv_add_emod a l.length
   have h4 : 0 ≤ (l.length : Int) * (a / l.length) := Int.mul_nonneg (by omega) (Int.ediv_nonneg ha (by omega))
   omega
  generalize hq : Int.tdiv a l.length = q at *
  generalize hr : Int.tmod a l.length = r at *
  have p0 : 0 ≤ q * (7919 + r) := Int.mul_nonneg d0 (by omega)
  have p1 : q * (7919 + r) ≤ 1000000 * 2000000 := Int.mul_le_mul (by omega) (by omega) (by omega) (by omega)
  generalize hz : q * (7919 + r) = z at *
  (repeat first|refine Ret.p ?_|refine Ret.n ?_)
  refine Ret.call (r_Below _ 1073741824 (by omega) (by omega)) ?_
  rintro _ ⟨u, rfl, h2, h3⟩
  (dsimp +instances only [Aa,Ab,Ac,Ad,Ae,Af,Ag])
  (repeat first|refine Ret.p ?_|refine Ret.n ?_)
  refine Ret.call (r_Below _ n h0 h1) ?_
  rintro _ ⟨v, rfl, h4, h5⟩
  (dsimp +instances only [Aa,Ab,Ac,Ad,Ae,Af,Ag])
  exact Ret.some ⟨v, rfl, h4, h5⟩
theorem r_Range (l : List (List G)) (a lo hi : Int) (ha : 0 ≤ a) (ha1 : a ≤ 1000000) (h0 : lo ≤ hi) (h1 : -1000000000 ≤ lo) (h2 : hi ≤ 1000000000) :
  Ret (F_mk_Range [.l l, .i a, .i lo, .i hi]) fun g => ∃ v, g = [.l l, .i (a + 1), .i v] ∧ lo ≤ v ∧ v ≤ hi := by
 unfold F_mk_Range
 (dsimp +instances only [Aa,Ab,Ac,Ad,Ae,Af,Ag])
 (repeat first|refine Ret.p ?_|refine Ret.n ?_)
 refine Ret.call (r_Next l a _ ha ha1 (by omega) (by omega)) ?_
 rintro _ ⟨v, rfl, h3, h4⟩
 (dsimp +instances only [Aa,Ab,Ac,Ad,Ae,Af,Ag])
 (repeat first|refine Ret.p ?_|refine Ret.n ?_)
 exact Ret.some ⟨_, rfl, by omega, by omega⟩
theorem getD_mem' {l : List (List G)} {v : Int} (h0 : 0 ≤ v) (h1 : v < l.length) : l.getD v.toNat [] ∈ l := by
 have : v.toNat < l.length := by omega
 rw [List.getD_eq_getElem?_getD, List.getElem?_eq_getElem this]
 exact List.getElem_mem this
theorem r_Pick (P : Int → Prop) (l : List (List G)) (a : Int) (xs : List (List G)) (ha : 0 ≤ a) (ha1 : a ≤ 1000000) (h0 : 1 ≤ xs.length) (h1 : xs.length ≤ 1000000) (hP : ∀ x ∈ xs, P (gi x 0).int) :
  Ret (F_mk_Pick [.l l, .i a, .l xs]) fun g => ∃ v, g = [.l l, .i (a + 1), .i v] ∧ P v := by
 unfold F_mk_Pick
 (dsimp +instances only [Aa,Ab,Ac,Ad,Ae,Af,Ag])
 refine Ret.call (r_Next l a _ ha ha1 (by omega) (by omega)) ?_
 rintro _ ⟨v, rfl, h3, h4⟩
 (dsimp +instances only [Aa,Ab,Ac,Ad,Ae,Af,Ag])
 (repeat first|refine Ret.p ?_|refine Ret.n ?_)
 exact Ret.some ⟨_, rfl, hP _ (getD_mem' h3 h4)⟩
theorem r_Some (P : ByteArray → Prop) (l : List (List G)) (a : Int) (xs : List (List G)) (ha : 0 ≤ a) (ha1 : a ≤ 1000000) (h0 : 1 ≤ xs.length) (h1 : xs.length ≤ 1000000) (hP : ∀ x ∈ xs, P (gi x 0).str) :
  Ret (F_mk_Some [.l l, .i a, .l xs]) fun g => ∃ v, g = [.l l, .i (a + 1), .s v] ∧ P v := by
 unfold F_mk_Some
 (dsimp +instances only [Aa,Ab,Ac,Ad,Ae,Af,Ag])
 refine Ret.call (r_Next l a _ ha ha1 (by omega) (by omega)) ?_
 rintro _ ⟨v, rfl, h3, h4⟩
 (dsimp +instances only [Aa,Ab,Ac,Ad,Ae,Af,Ag])
 (repeat first|refine Ret.p ?_|refine Ret.n ?_)
 exact Ret.some ⟨_, rfl, hP _ (getD_mem' h3 h4)⟩
theorem r_Flip (l : List (List G)) (a n : Int) (ha : 0 ≤ a) (ha1 : a ≤ 1000000) (h0 : 1 ≤ n) (h1 : n ≤ 1000000) :
  Ret (F_mk_Flip [.l l, .i a, .i n]) fun g => ∃ b, g = [.l l, .i (a + 1), .t b] := by
 unfold F_mk_Flip
 (dsimp +instances only [Aa,Ab,Ac,Ad,Ae,Af,Ag])
 refine Ret.call (r_Next l a _ ha ha1 (by omega) (by omega)) ?_
 rintro _ ⟨v, rfl, h3, h4⟩
 exact Ret.some ⟨_, rfl⟩
theorem r_Odd (l : List (List G)) (a lo hi : Int) (ha : 0 ≤ a) (ha1 : a ≤ 900000) (h0 : lo ≤ hi) (h1 : -1000000000 ≤ lo) (h2 : hi ≤ 1000000000) :
  Ret (F_mk_Odd [.l l, .i a, .i lo, .i hi]) fun g => ∃ v, g = [.l l, .i (a + 2), .i v] ∧ -1099511627776 ≤ v ∧ (v ≤ 1000000001 ∨ v = 1099511627776) := by
 unfold F_mk_Odd
 (dsimp +instances only [Aa,Ab,Ac,Ad,Ae,Af,Ag])
 have e2 : a + 1 + 1 = a + 2 := by omega
 refine Ret.call (r_Flip l a 12 ha (by omega) (by omega) (by omega)) ?_
 rintro _ ⟨b, rfl⟩
 (dsimp +instances only [Aa,Ab,Ac,Ad,Ae,Af,Ag])
 cases b with
 | true =>
  (repeat first|refine Ret.p ?_|refine Ret.n ?_)
  refine Ret.call (r_Pick (fun v => -1099511627776 ≤ v ∧ (v ≤ 1000000001 ∨ v = 1099511627776)) l (a + 1) _ (by omega) (by omega) (by simp) (by simp) ?_) ?_
  ·intro x hx
   simp only [List.mem_cons, List.not_mem_nil, or_false] at hx
   rcases hx with rfl | rfl | rfl | rfl | rfl | rfl <;> (dsimp +instances only [Aa,Ab,Ac,Ad,Ae,Af,Ag]) <;> omega
  ·rintro _ ⟨v, rfl, h3, h4⟩
   (dsimp +instances only [Aa,Ab,Ac,Ad,Ae,Af,Ag])
   exact Ret.some ⟨v, by rw [e2], h3, h4⟩
 | false =>
  (repeat first|refine Ret.p ?_|refine Ret.n ?_)
  refine Ret.call (r_Range l (a + 1) lo hi (by omega) (by omega) h0 h1 h2) ?_
  rintro _ ⟨v, rfl, h3, h4⟩
  (dsimp +instances only [Aa,Ab,Ac,Ad,Ae,Af,Ag])
  exact Ret.some ⟨v, by rw [e2], by omega, by omega⟩
def inL (L : List ByteArray) (s : ByteArray) : Bool := L.any fun x => eqS x s
theorem inL_mem {L : List ByteArray} {s : ByteArray} (h : inL L s = true) : s ∈ L := by
 obtain ⟨x, hx, he⟩ := List.any_eq_true.1 h
 exact eqS_eq he ▸ hx
theorem r_PickB (lo hi : Int) (l : List (List G)) (a : Int) (xs : List (List G)) (ha : 0 ≤ a) (ha1 : a ≤ 1000000) (h0 : (Nat.ble 1 xs.length && Nat.ble xs.length 1000000) = true) (hP : (xs.all fun x => leI lo (gi x 0).int && leI (gi x 0).int hi) = true) :
  Ret (F_mk_Pick [.l l, .i a, .l xs]) fun g => ∃ v, g = [.l l, .i (a + 1), .i v] ∧ lo ≤ v ∧ v ≤ hi := by
 simp only [Bool.and_eq_true, Nat.ble_eq] at h0
 refine r_Pick (fun v => lo ≤ v ∧ v ≤ hi) l a xs ha ha1 h0.1 h0.2 fun x hx => ?_
 have := List.all_eq_true.1 hP x hx
 simpa only [leI_eq, Bool.and_eq_true, decide_eq_true_eq] using this
theorem r_SomeB (L : List ByteArray) (l : List (List G)) (a : Int) (xs : List (List G)) (ha : 0 ≤ a) (ha1 : a ≤ 1000000) (h0 : (Nat.ble 1 xs.length && Nat.ble xs.length 1000000) = true) (hP : (xs.all fun x => inL L (gi x 0).str) = true) :
  Ret (F_mk_Some [.l l, .i a, .l xs]) fun g => ∃ v, g = [.l l, .i (a + 1), .s v] ∧ v ∈ L := by
 simp only [Bool.and_eq_true, Nat.ble_eq] at h0
 exact r_Some (fun v => v ∈ L) l a xs ha ha1 h0.1 h0.2 fun x hx => inL_mem (List.all_eq_true.1 hP x hx)
def calls : List ByteArray := [⟨#[]⟩, ⟨#[107, 49]⟩, ⟨#[75, 49, 65, 66]⟩, ⟨#[107, 49, 97, 98, 47]⟩, ⟨#[49, 97]⟩, ⟨#[107, 49, 97, 98, 47, 109, 109, 47, 112]⟩, ⟨#[107, 49, 97, 98]⟩, ⟨#[107, 49, 97, 97]⟩, ⟨#[107, 49, 97, 98, 47, 52]⟩,
 ⟨#[111, 104, 50, 97, 98, 99]⟩, ⟨#[111, 104, 50, 97, 98, 100]⟩, ⟨#[119, 49, 97, 119]⟩, ⟨#[110, 49, 109, 109]⟩, ⟨#[103, 51, 120, 121, 122, 47, 112]⟩]
def bands : List ByteArray := [⟨#[]⟩, ⟨#[66]⟩, ⟨#[98, 50, 48]⟩, ⟨#[98, 52, 48]⟩]
def names : List ByteArray := [⟨#[]⟩, ⟨#[65]⟩, ⟨#[49]⟩, ⟨#[102, 105, 110]⟩, ⟨#[117, 115, 97]⟩]
def small (n : Int) : Prop := -2000000000000 ≤ n ∧ n ≤ 2000000000000
def Con (r : List G) : Prop := ∃ (t m : Int) (b c : ByteArray) (s h : Int) (x y : ByteArray), r = [.i t, .i m, .s b, .s c, .i s, .i h, .s x, .s y] ∧ small t ∧ small m ∧ small s ∧ small h ∧ b ∈ bands ∧ c ∈ calls ∧ x ∈ names ∧ y ∈ names
def tight (n : Int) : Prop := -1900000000000 ≤ n ∧ n ≤ 1900000000000
def tightT (n : Int) : Prop := -1900000000000 ≤ n ∧ (n ≤ 345000000000 ∨ (345686399999 < n ∧ n ≤ 1900000000000))
def ConT (r : List G) : Prop := ∃ (t m : Int) (b c : ByteArray) (s h : Int) (x y : ByteArray), r = [.i t, .i m, .s b, .s c, .i s, .i h, .s x, .s y] ∧ tightT t ∧ tight m ∧ tight s ∧ tight h ∧ b ∈ bands ∧ c ∈ calls ∧ x ∈ names ∧ y ∈ names
theorem tight.to {n : Int} (h : tight n) : small n := ⟨by have := h.1; omega, by have := h.2; omega⟩
theorem tightT.to {n : Int} (h : tightT n) : small n := by
 unfold tightT at h
 exact ⟨by omega, by omega⟩
theorem ConT.to {r : List G} (h : ConT r) : Con r := by
 obtain ⟨t, m, b, c, s, h, x, y, e, h1, h2, h3, h4, h5⟩ := h
 exact ⟨t, m, b, c, s, h, x, y, e, h1.to, h2.to, h3.to, h4.to, h5⟩
theorem Con.eta {r : List G} (h : Con r) : gEta [.int .i64, .int .i64, .str, .str, .int .i64, .int .i64, .str, .str] r = r := by
 obtain ⟨t, m, b, c, s, h, x, y, rfl, _⟩ := h
 rfl
theorem r_ACall (l : List (List G)) (a : Int) (ha : 0 ≤ a) (ha1 : a ≤ 900000) : Ret (F_mk_ACall [.l l, .i a]) fun g => ∃ v, g = [.l l, .i (a + 2), .s v] ∧ v ∈ calls := by
 unfold F_mk_ACall
 (dsimp +instances only [Aa,Ab,Ac,Ad,Ae,Af,Ag])
 have e2 : a + 1 + 1 = a + 2 := by omega
 refine Ret.call (r_Flip l a 60 ha (by omega) (by omega) (by omega)) ?_
 rintro _ ⟨b, rfl⟩
 (dsimp +instances only [Aa,Ab,Ac,Ad,Ae,Af,Ag])
 cases b with
 | true =>
  (repeat first|refine Ret.p ?_|refine Ret.n ?_)
  refine Ret.call (r_SomeB calls l (a + 1) _ (by omega) (by omega) (by kernel_rfl) (by kernel_rfl)) ?_
  rintro _ ⟨v, rfl, h⟩
  exact Ret.some ⟨v, by (dsimp +instances only [Aa,Ab,Ac,Ad,Ae,Af,Ag]); rw [e2], h⟩
 | false =>
  (repeat first|refine Ret.p ?_|refine Ret.n ?_)
  refine Ret.call (r_SomeB calls l (a + 1) _ (by omega) (by omega) (by kernel_rfl) (by kernel_rfl)) ?_
  rintro _ ⟨v, rfl, h⟩
  exact Ret.some ⟨v, by (dsimp +instances only [Aa,Ab,Ac,Ad,Ae,Af,Ag]); rw [e2], h⟩
def cmpI (a b : Int) : Int := if a < b then -1 else if b < a then 1 else 0
theorem compareBytes_zero : ∀ {a b : List UInt8}, Lib.compareBytes a b = 0 → a = b
 | [], [], _ => rfl
 | [], _ :: _, h => by simp [Lib.compareBytes] at h
 | _ :: _, [], h => by simp [Lib.compareBytes] at h
 | x :: a, y :: b, h => by
  unfold Lib.compareBytes at h
  split at h
  ·cases h
  ·split at h
   ·cases h
   ·rename_i h1 h2
    rw [compareBytes_zero h, UInt8.le_antisymm (UInt8.not_lt.1 h2) (UInt8.not_lt.1 h1)]
theorem compareBytes_self : ∀ a : List UInt8, Lib.compareBytes a a = 0
 | [] => rfl
 | x :: a => by simp [Lib.compareBytes, compareBytes_self a]
theorem str_eq (a b : ByteArray) : (a.toList == b.toList) = decide (cmpS a b = 0) := by
 rw [ByteArray.toList_eq, ByteArray.toList_eq, Bool.eq_iff_iff, decide_eq_true_eq, beq_iff_eq]
 constructor
 ·intro h
  unfold cmpS
  rw [h]
  exact compareBytes_self _
 ·exact fun h => compareBytes_zero h
def or4 (a b c d : Int) : Int := if a ≠ 0 then a else if b ≠ 0 then b else if c ≠ 0 then c else d
def ordC (r s : List G) : Int := or4 (cmpI (gi r 0).int (gi s 0).int) (cmpS (gi r 3).str (gi s 3).str) (cmpS (gi r 2).str (gi s 2).str) (cmpI (gi r 1).int (gi s 1).int)
theorem cmpInt_eq (a b : Int) : F_cmp_Compare_int [.i a, .i b] = some [.i (cmpI a b)] := by
 refine Ret.toEq ?_
 unfold F_cmp_Compare_int F_cmp_isNaN_int cmpI
 (dsimp +instances only [Aa,Ab,Ac,Ad,Ae,Af,Ag])
 simp only [bne_self_eq_false]
 refine Ret.call ⟨_, rfl, rfl⟩ ?_
 rintro _ rfl
 refine Ret.call ⟨_, rfl, rfl⟩ ?_
 rintro _ rfl
 (dsimp +instances only [Aa,Ab,Ac,Ad,Ae,Af,Ag])
 (repeat first|refine Ret.p ?_|refine Ret.n ?_)
 by_cases h1 : a < b
 ·(repeat first|refine Ret.p ?_|refine Ret.n ?_)
  exact Ret.some (by simp [h1])
 ·by_cases h2 : b < a
  ·(repeat first|refine Ret.p ?_|refine Ret.n ?_)
   exact Ret.some (by simp [h1, h2])
  ·(repeat first|refine Ret.p ?_|refine Ret.n ?_)
   exact Ret.some (by simp [h1, h2])
def orL : List (List G) → Int
 | [] => 0
 | x :: q => if (gi x 0).int ≠ 0 then (gi x 0).int else orL q
theorem or_runs : ∀ (q p : List (List G)), p.length + q.length < 100000 →
  RetN st_cmp_Or_int_3 [.i 0, .l (p ++ q), .i ((p.length + q.length : Nat) : Int), .i (p.length : Int)] (q.length + 1) fun c g => c ≤ 1 ∧ g = [.i (orL q)]
 | [], p, hl => by
  refine RetN.stop (x := 1) (Ret.toEq ?_) ⟨by omega, rfl⟩
  unfold st_cmp_Or_int_3
  (dsimp +instances only [Aa,Ab,Ac,Ad,Ae,Af,Ag])
  (repeat first|refine Ret.p ?_|refine Ret.n ?_)
  exact Ret.some rfl
 | y :: q, p, hl => by
  simp only [List.length_cons] at hl
  have g1 : (p ++ y :: q).getD (p.length : Int).toNat [] = y := getD_mid _ _ _ _ _ (by simp)
  have hlen : (p ++ y :: q).length = p.length + q.length + 1 := by simp; omega
  by_cases he : (gi y 0).int = 0
  ·have ih := or_runs q (p ++ [y]) (by simp; omega)
   have e : orL (y :: q) = orL q := by simp [orL, he]
   rw [e]
   refine RetN.next (Ret.toEq ?_) ih
   unfold st_cmp_Or_int_3
   (dsimp +instances only [Aa,Ab,Ac,Ad,Ae,Af,Ag])
   simp only [g1, hlen, List.length_cons]
   (repeat first|refine Ret.p ?_|refine Ret.n ?_)
   refine Ret.some ?_
   simp
   omega
  ·refine RetN.stop (x := 0) (Ret.toEq ?_) ⟨by omega, rfl⟩
   unfold st_cmp_Or_int_3
   (dsimp +instances only [Aa,Ab,Ac,Ad,Ae,Af,Ag])
   simp only [g1, hlen, List.length_cons]
   (repeat first|refine Ret.p ?_|refine Ret.n ?_)
   refine Ret.some ?_
   simp [orL, he]
def inB (v lo hi : Int) : Bool := leI lo v && leI v hi
theorem in_eq (v lo hi : Int) : F_r2_in [.i v, .i lo, .i hi] = some [.t (inB v lo hi)] := by
 unfold F_r2_in inB
 (dsimp +instances only [Aa,Ab,Ac,Ad,Ae,Af,Ag])
 cases leI lo v <;> rfl
theorem outside_eq (v lo hi : Int) : F_kit_Outside [.i v, .i lo, .i hi] = some [.t (!inB v lo hi)] := by
 unfold F_kit_Outside inB
 (dsimp +instances only [Aa,Ab,Ac,Ad,Ae,Af,Ag])
 have h1 : ltI v lo = !leI lo v := by rw [ltI_eq, leI_eq, Bool.eq_iff_iff]; simp
 have h2 : ltI hi v = !leI v hi := by rw [ltI_eq, leI_eq, Bool.eq_iff_iff]; simp
 rw [h1, h2]
 cases leI lo v <;> cases leI v hi <;> rfl
def okKey (s : ByteArray) : Bool := inL [⟨#[98, 50, 48]⟩, ⟨#[98, 52, 48]⟩, ⟨#[102, 105, 110]⟩, ⟨#[117, 115, 97]⟩] s
def okCall (s : ByteArray) : Bool := (gi ((F_call_Is [.s s]).getD []) 0).bool
theorem isKey_eq {s : ByteArray} (h : s ∈ bands ∨ s ∈ names) : F_kit_IsKey [.s s] = some [.t (okKey s)] := by
 simp only [bands, names, List.mem_cons, List.not_mem_nil, or_false] at h
 rcases h with (rfl | rfl | rfl | rfl) | (rfl | rfl | rfl | rfl | rfl) <;> kernel_rfl
theorem key_eq {s : ByteArray} (h : s ∈ bands ∨ s ∈ names) : F_r2_Key [.s s] = some [.t (okKey s)] := by
 simp only [bands, names, List.mem_cons, List.not_mem_nil, or_false] at h
 rcases h with (rfl | rfl | rfl | rfl) | (rfl | rfl | rfl | rfl | rfl) <;> kernel_rfl
theorem isCall_eq {s : ByteArray} (h : s ∈ calls) : F_call_Is [.s s] = some [.t (okCall s)] := by
 simp only [calls, List.mem_cons, List.not_mem_nil, or_false] at h
 rcases h with (rfl | rfl | rfl | rfl | rfl | rfl | rfl | rfl | rfl | rfl | rfl | rfl | rfl | rfl) <;> kernel_rfl
theorem call_eq {s : ByteArray} (h : s ∈ calls) : F_r2_Call [.s s] = some [.t (okCall s)] := by
 simp only [calls, List.mem_cons, List.not_mem_nil, or_false] at h
 rcases h with (rfl | rfl | rfl | rfl | rfl | rfl | rfl | rfl | rfl | rfl | rfl | rfl | rfl | rfl) <;> kernel_rfl
end
end Go.Proofs.SYtmohppjkkpaaoaaGreatDoor

namespace Go.Proofs.SYtmohppjkkpaaoaaGreatDoor
open Go Go.AL Go.Proofs
noncomputable section
theorem bytes_flip' : ∀ a b : List UInt8, Lib.compareBytes b a = - Lib.compareBytes a b
 | [], [] => rfl
 | [], _ :: _ => rfl
 | _ :: _, [] => rfl
 | a :: xs, b :: ys => by
  simp only [Lib.compareBytes]
  have ih := bytes_flip' xs ys
  by_cases h1 : a < b
  ·have h2 : ¬ b < a := fun h => UInt8.lt_irrefl a (UInt8.lt_trans h1 h)
   simp [h1, h2]
  ·by_cases h2 : b < a
   ·simp [h1, h2]
   ·simp [h1, h2, ih]
theorem bytes_lt_trans' : ∀ {a b c : List UInt8}, Lib.compareBytes a b < 0 → Lib.compareBytes b c < 0 → Lib.compareBytes a c < 0
 | [], [], _, h, _ => by simp [Lib.compareBytes] at h
 | [], _ :: _, [], _, h => by simp [Lib.compareBytes] at h
 | [], _ :: _, _ :: _, _, _ => by simp [Lib.compareBytes]
 | _ :: _, [], _, h, _ => by simp [Lib.compareBytes] at h
 | _ :: _, _ :: _, [], _, h => by simp [Lib.compareBytes] at h
 | a :: xs, b :: ys, c :: zs, h1, h2 => by
  simp only [Lib.compareBytes] at h1 h2 ⊢
  by_cases hab : a < b
  ·by_cases hbc : b < c
   ·rw [if_pos (UInt8.lt_trans hab hbc)]
    omega
   ·by_cases hcb : c < b
    ·rw [if_neg hbc, if_pos hcb] at h2
     omega
    ·have e : b = c := UInt8.le_antisymm (UInt8.not_lt.1 hcb) (UInt8.not_lt.1 hbc)
     subst e
     rw [if_pos hab]
     omega
  ·by_cases hba : b < a
   ·rw [if_neg hab, if_pos hba] at h1
    omega
   ·have e : a = b := UInt8.le_antisymm (UInt8.not_lt.1 hba) (UInt8.not_lt.1 hab)
    subst e
    rw [if_neg (UInt8.lt_irrefl a), if_neg (UInt8.lt_irrefl a)] at h1
    by_cases hac : a < c
    ·rw [if_pos hac]
     omega
    ·by_cases hca : c < a
     ·rw [if_neg hac, if_pos hca] at h2
      omega
     ·rw [if_neg hac, if_neg hca] at h2 ⊢
      exact bytes_lt_trans' h1 h2
theorem str_ext {a b : ByteArray} (h : (a.toList == b.toList) = true) : a = b := by
 rw [ByteArray.toList_eq, ByteArray.toList_eq, beq_iff_eq] at h
 exact ByteArray.ext (Array.toList_inj.1 h)
theorem cmpS_z {a b : ByteArray} : cmpS a b = 0 ↔ a = b := by
 have h := str_eq a b
 constructor
 ·intro e
  rw [decide_eq_true (p := cmpS a b = 0) e] at h
  exact str_ext h
 ·rintro rfl
  have h2 : (a.toList == a.toList) = true := by simp
  rw [h2] at h
  exact of_decide_eq_true h.symm
theorem cmpI_z {a b : Int} : cmpI a b = 0 ↔ a = b := by
 unfold cmpI
 constructor
 ·intro h
  split at h
  ·omega
  ·split at h <;> omega
 ·rintro rfl
  simp
theorem cmpI_lt {a b : Int} : cmpI a b < 0 ↔ a < b := by
 unfold cmpI
 constructor
 ·intro h
  split at h
  ·assumption
  ·split at h <;> omega
 ·intro h
  rw [if_pos h]
  omega
structure Ordr {α : Type} (c : α → α → Int) : Prop where
 flip : ∀ a b, c b a = - c a b
 eq : ∀ a b, c a b = 0 → a = b
 tr : ∀ a b d, c a b < 0 → c b d < 0 → c a d < 0
theorem ordrI : Ordr cmpI := ⟨fun a b => by unfold cmpI; split <;> split <;> first | omega | (split <;> omega) | skip, fun a b h => cmpI_z.1 h, fun a b d h1 h2 => cmpI_lt.2 (Int.lt_trans (cmpI_lt.1 h1) (cmpI_lt.1 h2))⟩
theorem ordrS : Ordr cmpS := ⟨fun a b => bytes_flip' _ _, fun a b h => cmpS_z.1 h, fun a b d h1 h2 => bytes_lt_trans' h1 h2⟩
def or2 (a b : Int) : Int := if a ≠ 0 then a else b
theorem or2_lt {α : Type} {c : α → α → Int} (h : Ordr c) (a b d : α) (x y z : Int) (h1 : or2 (c a b) x < 0) (h2 : or2 (c b d) y < 0) (h3 : x < 0 → y < 0 → z < 0) : or2 (c a d) z < 0 := by
 unfold or2 at *
 by_cases e1 : c a b = 0
 ·have e := h.eq a b e1
  subst e
  rw [if_neg (by simpa using e1)] at h1
  by_cases e2 : c a d = 0
  ·rw [if_neg (by simpa using e2)] at h2 ⊢
   exact h3 h1 h2
  ·rw [if_pos e2] at h2 ⊢
   exact h2
 ·rw [if_pos e1] at h1
  by_cases e2 : c b d = 0
  ·have e := h.eq b d e2
   subst e
   rw [if_pos e1]
   exact h1
  ·rw [if_pos e2] at h2
   have := h.tr a b d (by omega) (by omega)
   rw [if_pos (by omega)]
   omega
/-! ### Lists that are checked row by row -/
def fw (step : Nat → Int) : Nat → Int
 | 0 => 0
 | i + 1 => if fw step i ≠ 0 then fw step i else step i
theorem fw_stays {step : Nat → Int} {i : Nat} (h : fw step i ≠ 0) : ∀ k, fw step (i + k) = fw step i
 | 0 => rfl
 | k + 1 => by
  have ih := fw_stays h k
  show (if fw step (i + k) ≠ 0 then fw step (i + k) else step (i + k)) = fw step i
  rw [ih, if_pos h]
theorem fw_zero {step : Nat → Int} : ∀ {n : Nat}, fw step n = 0 → ∀ i, i < n → step i = 0
 | 0, _, i, hi => by omega
 | n + 1, h, i, hi => by
  have h0 : fw step n = 0 := by
   refine Decidable.byContradiction fun hn => hn ?_
   have := fw_stays hn 1
   rw [← this]
   exact h
  have h' : (if fw step n ≠ 0 then fw step n else step n) = 0 := h
  rw [if_neg (by simpa using h0)] at h'
  rcases Nat.lt_or_ge i n with hlt | hge
  ·exact fw_zero h0 i hlt
  ·have : i = n := by omega
   rw [this]
   exact h'
theorem fw_loop {st : List G → Option (Option Nat × List G)} (mk : Nat → List G) (n : Nat) (step : Nat → Int) (gn : List G) (hn : n < 999999)
  (hstep : ∀ i, i < n → Ret (st (mk i)) fun o => (step i = 0 ∧ o = (none, mk (i + 1))) ∨ (step i ≠ 0 ∧ o = (some 0, [.i (step i)])))
  (hfin : Ret (st (mk n)) fun o => o = (some 1, gn)) :
  RetL st (mk 0) fun c g => (c = 1 ∧ fw step n = 0 ∧ g = gn) ∨ (c = 0 ∧ g = [.i (fw step n)] ∧ fw step n ≠ 0) := by
 refine ((count_runs (σ := Unit) (fun _ i => mk i) n (fun _ => (1, gn)) (fun _ i => fw step i = 0) (fun c g => c = 0 ∧ g = [.i (fw step n)] ∧ fw step n ≠ 0) ?_ (fun _ _ => hfin) n () 0 (by omega) rfl).to (by omega)).mono ?_
 ·rintro _ i hI hi
  refine (hstep i hi).mono ?_
  rintro _ (⟨h0, rfl⟩ | ⟨h1, rfl⟩)
  ·refine .inl ⟨(), rfl, ?_⟩
   show (if fw step i ≠ 0 then fw step i else step i) = 0
   rw [if_neg (by simpa using hI)]
   exact h0
  ·have e : fw step (i + 1) = step i := by
    show (if fw step i ≠ 0 then fw step i else step i) = step i
    rw [if_neg (by simpa using hI)]
   have e2 : fw step n = step i := by
    have := fw_stays (step := step) (i := i + 1) (by rw [e]; exact h1) (n - (i + 1))
    rw [show i + 1 + (n - (i + 1)) = n by omega, e] at this
    exact this
   exact .inr ⟨0, _, rfl, rfl, by rw [e2], by rw [e2]; exact h1⟩
 ·rintro c g (⟨_, h, rfl, rfl⟩ | h)
  ·exact .inl ⟨rfl, h, rfl⟩
  ·exact .inr h
def cats : List ByteArray := [⟨#[97, 108, 108]⟩, ⟨#[99, 111, 100, 101]⟩, ⟨#[65]⟩]
def locs : List ByteArray := [⟨#[]⟩, ⟨#[107, 112, 50, 48, 108, 102]⟩, ⟨#[107, 112, 50, 48]⟩]
def Ent (r : List G) : Prop := ∃ (c k : ByteArray) (p : Int) (q : ByteArray), r = [.s c, .s k, .i p, .s q] ∧ c ∈ calls ∧ k ∈ cats ∧ -1099511627776 ≤ p ∧ p ≤ 1099511627776 ∧ q ∈ locs
theorem Ent.eta {r : List G} (h : Ent r) : gEta [.str, .str, .int .i64, .str] r = r := by
 obtain ⟨c, k, p, q, rfl, _⟩ := h
 rfl
def two : List (List G) := [[.s (⟨#[97, 108, 108]⟩ : ByteArray)], [.s (⟨#[99, 111, 100, 101]⟩ : ByteArray)]]
/-! ### What is wrong with entrants -/
def Crd (r : List G) : Prop := ∃ (t k m : Int) (c b : ByteArray), r = [.i t, .i k, .i m, .s c, .s b] ∧ small t ∧ small k ∧ small m ∧ c ∈ calls ∧ b ∈ bands
theorem Crd.eta {r : List G} (h : Crd r) : gEta KCard r = r := by
 obtain ⟨t, k, m, c, b, rfl, _⟩ := h
 rfl
theorem kdsK : Kds KCard Crd := ⟨fun _ h => h.eta⟩
def ordK (r s : List G) : Int := or2 (cmpI (gi r 0).int (gi s 0).int) (or2 (cmpS (gi r 3).str (gi s 3).str) (or2 (cmpS (gi r 4).str (gi s 4).str) (or2 (cmpI (gi r 2).int (gi s 2).int) (cmpI (gi r 1).int (gi s 1).int))))
theorem ordK_lt (a b d : List G) (h1 : ordK a b < 0) (h2 : ordK b d < 0) : ordK a d < 0 :=
 or2_lt ordrI _ _ _ _ _ _ h1 h2 fun g1 g2 => or2_lt ordrS _ _ _ _ _ _ g1 g2 fun k1 k2 => or2_lt ordrS _ _ _ _ _ _ k1 k2 fun m1 m2 => or2_lt ordrI _ _ _ _ _ _ m1 m2 fun n1 n2 => ordrI.tr _ _ _ n1 n2
theorem sign_ok (a b : Int) : F_r2_sign [.i (a - b)] = some [.i (cmpI a b)] := by
 refine Ret.toEq ?_
 unfold F_r2_sign cmpI
 (dsimp +instances only [Aa,Ab,Ac,Ad,Ae,Af,Ag])
 by_cases h1 : a < b
 ·(repeat first|refine Ret.p ?_|refine Ret.n ?_)
  exact Ret.some (by simp [h1])
 ·by_cases h2 : b < a
  ·(repeat first|refine Ret.p ?_|refine Ret.n ?_)
   exact Ret.some (by simp [h1, h2])
  ·(repeat first|refine Ret.p ?_|refine Ret.n ?_)
   exact Ret.some (by simp [h1, h2])
theorem cardOrder_eq {r s : List G} (hr : Crd r) (hs : Crd s) : F_r2_CardOrder [.l [r], .l [s]] = some [.i (ordK r s)] := by
 obtain ⟨t, k, m, c, b, rfl, ht, hk, hm, _⟩ := hr
 obtain ⟨t', k', m', c', b', rfl, ht', hk', hm', _⟩ := hs
 unfold small at *
 refine Ret.toEq ?_
 unfold F_r2_CardOrder
 (dsimp +instances only [Aa,Ab,Ac,Ad,Ae,Af,Ag])
 have eo : ordK [.i t, .i k, .i m, .s c, .s b] [.i t', .i k', .i m', .s c', .s b'] = or2 (cmpI t t') (or2 (cmpS c c') (or2 (cmpS b b') (or2 (cmpI m m') (cmpI k k')))) := rfl
 rw [eo]
 simp only [str_eq]
 unfold or2
 by_cases e1 : t = t'
 ·subst e1
  have z : cmpI t t = 0 := cmpI_z.2 rfl
  simp only [z]
  refine Ret.neg (by simp) ?_
  by_cases e2 : cmpS c c' = 0
  ·simp only [e2]
   refine Ret.neg (by simp) ?_
   by_cases e3 : cmpS b b' = 0
   ·simp only [e3]
    refine Ret.neg (by simp) ?_
    by_cases e4 : m = m'
    ·subst e4
     have z : cmpI m m = 0 := cmpI_z.2 rfl
     simp only [z]
     refine Ret.neg (by simp) ?_
     refine Ret.p ?_
     refine Ret.cE (sign_ok k k') ?_
     exact Ret.some (by simp [gi, G.int])
    ·have z : ¬ cmpI m m' = 0 := fun h => e4 (cmpI_z.1 h)
     refine Ret.pos (by simpa using e4) ?_
     refine Ret.p ?_
     refine Ret.cE (sign_ok m m') ?_
     exact Ret.some (by simp [gi, G.int, z])
   ·refine Ret.pos (by simpa using e3) (Ret.call (Ret.eq (rfl : F_strings_Compare [.s b, .s b'] = some [.i (cmpS b b')])) ?_)
    rintro _ rfl
    exact Ret.some (by simp [gi, G.int, G.str, e3])
  ·refine Ret.pos (by simpa using e2) (Ret.call (Ret.eq (rfl : F_strings_Compare [.s c, .s c'] = some [.i (cmpS c c')])) ?_)
   rintro _ rfl
   exact Ret.some (by simp [gi, G.int, G.str, e2])
 ·have z : ¬ cmpI t t' = 0 := fun h => e1 (cmpI_z.1 h)
  refine Ret.pos (by simpa using e1) ?_
  refine Ret.p ?_
  refine Ret.cE (sign_ok t t') ?_
  exact Ret.some (by simp [gi, G.int, z])
theorem or_five (a b c d e : Int) : F_cmp_Or_int [.l [[.i a], [.i b], [.i c], [.i d], [.i e]]] = some [.i (or2 a (or2 b (or2 c (or2 d e))))] := by
 refine Ret.toEq ?_
 unfold F_cmp_Or_int
 (dsimp +instances only [Aa,Ab,Ac,Ad,Ae,Af,Ag])
 have h := or_runs [[.i a], [.i b], [.i c], [.i d], [.i e]] [] (by simp)
 refine Ret.loop (h.to (by simp)) (by (first|rfl|assumption|(simp only [inI,sl]<;>omega))) ?_
 rintro x g ⟨hx, rfl⟩
 have q : orL [[.i a], [.i b], [.i c], [.i d], [.i e]] = or2 a (or2 b (or2 c (or2 d e))) := by
  simp only [orL, or2]
  (dsimp +instances only [Aa,Ab,Ac,Ad,Ae,Af,Ag])
  by_cases h1 : a = 0 <;> by_cases h2 : b = 0 <;> by_cases h3 : c = 0 <;> by_cases h4 : d = 0 <;> by_cases h5 : e = 0 <;> simp [h1, h2, h3, h4, h5]
 rw [q]
 (dsimp +instances only [Aa,Ab,Ac,Ad,Ae,Af,Ag])
 exact Ret.test (fun _ => Ret.some rfl) fun _ => Ret.some rfl
theorem compareCards_eq (r s : List G) : F_club_compareCards [.l [r], .l [s]] = some [.i (ordK r s)] := by
 refine Ret.toEq ?_
 unfold F_club_compareCards ordK
 (dsimp +instances only [Aa,Ab,Ac,Ad,Ae,Af,Ag])
 refine Ret.cE (cmpInt_eq _ _) ?_
 refine Ret.cE (rfl : F_strings_Compare [.s (gi r 3).str, .s (gi s 3).str] = some [.i (cmpS (gi r 3).str (gi s 3).str)]) ?_
 refine Ret.cE (rfl : F_strings_Compare [.s (gi r 4).str, .s (gi s 4).str] = some [.i (cmpS (gi r 4).str (gi s 4).str)]) ?_
 refine Ret.cE (cmpInt_eq _ _) ?_
 refine Ret.cE (cmpInt_eq _ _) ?_
 (dsimp +instances only [Aa,Ab,Ac,Ad,Ae,Af,Ag])
 refine Ret.cE (or_five _ _ _ _ _) ?_
 exact Ret.some rfl
theorem cmpCardOrder : Cmp KCard F_r2_CardOrder Crd ordK := ⟨fun _ _ hr hs => cardOrder_eq hr hs, fun _ h => h.eta⟩
def zK : List G := [.i 0, .i 0, .i 0, .s (⟨#[]⟩ : ByteArray), .s (⟨#[]⟩ : ByteArray)]
theorem loop_Cards (l : List (List G)) (n : Nat) (hn : n ≤ 20) : ∀ (k i : Nat) (a t : Int) (acc : List (List G)), i + k = n → 0 ≤ a → a ≤ 800000 → 0 ≤ t → t ≤ 20 * (i : Int) → a + 20 * (k : Int) ≤ 800000 → (∀ z ∈ acc, Crd z) → acc.length = i →
  RetN st_mk_Cards_4 [.l l, .i a, .l acc, .i t, .i (n : Int), .i (i : Int)] (k + 1) fun c g => c = 0 ∧ ∃ b rows, g = [.l l, .i b, .l rows] ∧ a ≤ b ∧ b ≤ a + 20 * k ∧ (∀ z ∈ rows, Crd z) ∧ rows.length = n
 | 0, i, a, t, acc, hi, ha, ha1, ht, ht1, hb, hQ, hl => by
  refine RetN.stop (x := 0) (Ret.toEq ?_) ⟨rfl, a, acc, rfl, by omega, by omega, hQ, by omega⟩
  unfold st_mk_Cards_4
  (dsimp +instances only [Aa,Ab,Ac,Ad,Ae,Af,Ag])
  (repeat first|refine Ret.p ?_|refine Ret.n ?_)
  exact Ret.some rfl
 | k + 1, i, a, t, acc, hi, ha, ha1, ht, ht1, hb, hQ, hl => by
  have key : Ret (st_mk_Cards_4 [.l l, .i a, .l acc, .i t, .i (n : Int), .i (i : Int)]) fun o => ∃ b r v, o = (none, [.l l, .i b, .l (acc ++ [r]), .i (t + v), .i (n : Int), .i ((i : Int) + 1)]) ∧ a ≤ b ∧ b ≤ a + 20 ∧ Crd r ∧ 0 ≤ v ∧ v ≤ 20 := by
   unfold st_mk_Cards_4
   (dsimp +instances only [Aa,Ab,Ac,Ad,Ae,Af,Ag])
   refine Ret.p ?_
   refine Ret.call (r_PickB 0 20 l a _ ha (by omega) (by kernel_rfl) (by kernel_rfl)) ?_
   rintro _ ⟨v, rfl, hv0, hv1⟩
   (dsimp +instances only [Aa,Ab,Ac,Ad,Ae,Af,Ag])
   refine Ret.p ?_
   refine Ret.call (r_PickB 1 3 l _ _ (by omega) (by omega) (by kernel_rfl) (by kernel_rfl)) ?_
   rintro _ ⟨kd, rfl, hk0, hk1⟩
   (dsimp +instances only [Aa,Ab,Ac,Ad,Ae,Af,Ag])
   refine Ret.call (r_PickB 1 3 l _ _ (by omega) (by omega) (by kernel_rfl) (by kernel_rfl)) ?_
   rintro _ ⟨m, rfl, hm0, hm1⟩
   (dsimp +instances only [Aa,Ab,Ac,Ad,Ae,Af,Ag])
   refine Ret.call (r_ACall l _ (by omega) (by omega)) ?_
   rintro _ ⟨c, rfl, hc⟩
   (dsimp +instances only [Aa,Ab,Ac,Ad,Ae,Af,Ag])
   refine Ret.call (r_SomeB bands l _ _ (by omega) (by omega) (by kernel_rfl) (by kernel_rfl)) ?_
   rintro _ ⟨bd, rfl, hbd⟩
   (dsimp +instances only [Aa,Ab,Ac,Ad,Ae,Af,Ag])
   refine Ret.call (r_Flip l _ 100 (by omega) (by omega) (by omega) (by omega)) ?_
   rintro _ ⟨f, rfl⟩
   (dsimp +instances only [Aa,Ab,Ac,Ad,Ae,Af,Ag])
   cases f with
   | false =>
    (repeat first|refine Ret.p ?_|refine Ret.n ?_)
    exact Ret.some ⟨_, _, v, rfl, by omega, by omega, ⟨_, _, _, _, _, rfl, ⟨by omega, by omega⟩, ⟨by omega, by omega⟩, ⟨by omega, by omega⟩, hc, hbd⟩, hv0, hv1⟩
   | true =>
    refine Ret.pos rfl ?_
    refine Ret.call (r_Odd l _ 0 50 (by omega) (by omega) (by omega) (by omega) (by omega)) ?_
    rintro _ ⟨t', rfl, ht'⟩
    (dsimp +instances only [Aa,Ab,Ac,Ad,Ae,Af,Ag])
    refine Ret.call (r_Odd l _ 1 3 (by omega) (by omega) (by omega) (by omega) (by omega)) ?_
    rintro _ ⟨k', rfl, hk'⟩
    (dsimp +instances only [Aa,Ab,Ac,Ad,Ae,Af,Ag])
    refine Ret.call (r_Odd l _ 1 3 (by omega) (by omega) (by omega) (by omega) (by omega)) ?_
    rintro _ ⟨m', rfl, hm'⟩
    (dsimp +instances only [Aa,Ab,Ac,Ad,Ae,Af,Ag])
    refine Ret.call (r_SomeB bands l _ _ (by omega) (by omega) (by kernel_rfl) (by kernel_rfl)) ?_
    rintro _ ⟨b', rfl, hb'⟩
    (dsimp +instances only [Aa,Ab,Ac,Ad,Ae,Af,Ag])
    (repeat first|refine Ret.p ?_|refine Ret.n ?_)
    exact Ret.some ⟨_, _, v, rfl, by omega, by omega, ⟨_, _, _, _, _, rfl, ⟨by omega, by omega⟩, ⟨by omega, by omega⟩, ⟨by omega, by omega⟩, hc, hb'⟩, hv0, hv1⟩
  obtain ⟨_, h, b, r, v, rfl, h1, h2, h3, h4, h5⟩ := key
  have ih := loop_Cards l n hn k (i + 1) b (t + v) (acc ++ [r]) (by omega) (by omega) (by omega) (by omega) (by omega) (by omega) (by
   intro z hz
   rcases List.mem_append.1 hz with hz | hz
   ·exact hQ z hz
   ·simp at hz; exact hz ▸ h3) (by simp [hl])
  refine RetN.next h (ih.mono ?_)
  rintro c g ⟨rfl, b', rows, rfl, q1, q2, q3, q4⟩
  exact ⟨rfl, b', rows, rfl, by omega, by omega, q3, q4⟩
theorem sortCardOrder_eq (rows : List (List G)) (hr : ∀ y ∈ rows, Crd y) (hn : rows.length ≤ 20) : F_srtS_Card [.l rows] = some [.l (sortA (ltC ordK) rows)] :=
 sortF_eq cmpCardOrder rows hr hn
theorem r_Cards (l : List (List G)) (a n : Int) (ha : 0 ≤ a) (ha1 : a ≤ 700000) (h0 : 0 ≤ n) (h1 : n ≤ 20) :
  Ret (F_mk_Cards [.l l, .i a, .i n]) fun g => ∃ b rows, g = [.l l, .i b, .l rows] ∧ a ≤ b ∧ b ≤ a + 400 ∧ (∀ z ∈ rows, Crd z) ∧ (rows.length : Int) ≤ n := by
 obtain ⟨n, rfl⟩ := Int.eq_ofNat_of_zero_le h0
 unfold F_mk_Cards
 (dsimp +instances only [Aa,Ab,Ac,Ad,Ae,Af,Ag])
 refine Ret.loop ((loop_Cards l n (by omega) n 0 a 0 [] (by omega) ha (by omega) (by omega) (by omega) (by omega) (by simp) rfl).to (by omega)) rfl ?_
 rintro c g ⟨rfl, b, rows, rfl, q1, q2, q3, q4⟩
 (dsimp +instances only [Aa,Ab,Ac,Ad,Ae,Af,Ag])
 have hs := sortA_all (lt := ltC ordK) q3
 have hsl := sortA_length (ltC ordK) rows
 refine Ret.callb (Ret.eq (sortCardOrder_eq rows q3 (by omega))) (by (first|rfl|assumption|(simp only [inI,sl]<;>omega))) ?_
 rintro _ rfl
 (dsimp +instances only [Aa,Ab,Ac,Ad,Ae,Af,Ag])
 refine Ret.callb (P := fun g => ∃ J, g = [.l (compact (rowEq KCard) (sortA (ltC ordK) rows) ++ J), .i ((compact (rowEq KCard) (sortA (ltC ordK) rows)).length : Int)] ∧ (compact (rowEq KCard) (sortA (ltC ordK) rows) ++ J).length = (sortA (ltC ordK) rows).length)
  (cmpcF_eq (Z := zK) kdsK _ hs (by omega)) (by rw [hsl]; simp) ?_
 rintro _ ⟨J, rfl, hJ⟩
 have hle : (compact (rowEq KCard) (sortA (ltC ordK) rows)).length ≤ (sortA (ltC ordK) rows).length := compact_length _ _
 (dsimp +instances only [Aa,Ab,Ac,Ad,Ae,Af,Ag])
 simp only [Int.toNat_natCast]
 refine Ret.pos (by simp [Nat.ble_eq]) (Ret.some ?_)
 exact ⟨b, compact (rowEq KCard) (sortA (ltC ordK) rows), by simp, by omega, by omega, fun z hz => hs z (compact_mem hz), by omega⟩
/-! ### What is wrong with cards -/
def faultK1 (x : List G) : Int :=
 bif !inB (gi x 0).int 0 345686399999 then 1 else bif !inB (gi x 1).int 1 3 then 4 else bif !inB (gi x 2).int 1 3 then 4 else bif !okCall (gi x 3).str then 3 else bif !okKey (gi x 4).str then 5 else 0
def stepK (rows : List (List G)) (i : Nat) : Int :=
 if faultK1 (rows.getD i []) ≠ 0 then faultK1 (rows.getD i []) else if 0 < i ∧ 0 ≤ ordK (rows.getD (i - 1) []) (rows.getD i []) then 7 else 0
def faultCards (rows : List (List G)) : Int := if 3000 < rows.length then 2 else fw (stepK rows) rows.length
theorem moment_ok (t : Int) : F_r2_Moment [.i t] = some [.t (inB t 0 345686399999)] := by
 unfold F_r2_Moment
 (dsimp +instances only [Aa,Ab,Ac,Ad,Ae,Af,Ag])
 rw [in_eq]
 rfl
theorem isMoment_ok (t : Int) : F_kit_IsMoment [.i t] = some [.t (inB t 0 345686399999)] := by
 unfold F_kit_IsMoment
 (dsimp +instances only [Aa,Ab,Ac,Ad,Ae,Af,Ag])
 rw [outside_eq]
 show some [G.t (!(!inB t 0 345686399999))] = _
 rw [Bool.not_not]
theorem isMode_ok (t : Int) : F_kit_IsMode [.i t] = some [.t (inB t 1 3)] := by
 unfold F_kit_IsMode
 (dsimp +instances only [Aa,Ab,Ac,Ad,Ae,Af,Ag])
 rw [outside_eq]
 show some [G.t (!(!inB t 1 3))] = _
 rw [Bool.not_not]
theorem cardsFault_step (rows : List (List G)) (hr : ∀ z ∈ rows, Crd z) (hn : rows.length ≤ 3000) (i : Nat) (hi : i < rows.length) :
  Ret (st_r2_CardsFault_4 [.l rows, .l rows, .i (rows.length : Int), .i (i : Int)]) fun o => (stepK rows i = 0 ∧ o = (none, [.l rows, .l rows, .i (rows.length : Int), .i ((i + 1 : Nat) : Int)])) ∨ (stepK rows i ≠ 0 ∧ o = (some 0, [.i (stepK rows i)])) := by
 obtain ⟨t, k, m, c, b, hx, ht, hk, hm, hc, hb⟩ := hr _ (getD_row hi)
 have hC : Crd (rows.getD i []) := hr _ (getD_row hi)
 have ef : faultK1 (rows.getD i []) = bif !inB t 0 345686399999 then 1 else bif !inB k 1 3 then 4 else bif !inB m 1 3 then 4 else bif !okCall c then 3 else bif !okKey b then 5 else 0 := by
  rw [hx]
  rfl
 unfold st_r2_CardsFault_4
 (dsimp +instances only [Aa,Ab,Ac,Ad,Ae,Af,Ag])
 simp only [Int.toNat_natCast, hC.eta]
 have f0 : (gi (rows.getD i []) 0).int = t := by rw [hx]; rfl
 have f1 : (gi (rows.getD i []) 1).int = k := by rw [hx]; rfl
 have f2 : (gi (rows.getD i []) 2).int = m := by rw [hx]; rfl
 have f3 : (gi (rows.getD i []) 3).str = c := by rw [hx]; rfl
 have f4 : (gi (rows.getD i []) 4).str = b := by rw [hx]; rfl
 simp only [f0, f1, f2, f3, f4]
 refine Ret.p (Ret.p ?_)
 refine Ret.cE (moment_ok t) ?_
 (dsimp +instances only [Aa,Ab,Ac,Ad,Ae,Af,Ag])
 refine Ret.test (fun h => ?_) fun h0 => ?_
 ·have e : stepK rows i = 1 := by
   unfold stepK
   rw [ef, h]
   rfl
  rw [e]
  exact Ret.some (.inr ⟨by omega, rfl⟩)
 rw [h0, cond_false] at ef
 refine Ret.cE (in_eq k 1 3) ?_
 (dsimp +instances only [Aa,Ab,Ac,Ad,Ae,Af,Ag])
 refine Ret.test (fun h => ?_) fun h1 => ?_
 ·have e : stepK rows i = 4 := by
   unfold stepK
   rw [ef, h]
   rfl
  rw [e]
  exact Ret.some (.inr ⟨by omega, rfl⟩)
 rw [h1, cond_false] at ef
 refine Ret.cE (in_eq m 1 3) ?_
 (dsimp +instances only [Aa,Ab,Ac,Ad,Ae,Af,Ag])
 refine Ret.test (fun h => ?_) fun h2 => ?_
 ·have e : stepK rows i = 4 := by
   unfold stepK
   rw [ef, h]
   rfl
  rw [e]
  exact Ret.some (.inr ⟨by omega, rfl⟩)
 rw [h2, cond_false] at ef
 refine Ret.cE (call_eq hc) ?_
 (dsimp +instances only [Aa,Ab,Ac,Ad,Ae,Af,Ag])
 refine Ret.test (fun h => ?_) fun h3 => ?_
 ·have e : stepK rows i = 3 := by
   unfold stepK
   rw [ef, h]
   rfl
  rw [e]
  exact Ret.some (.inr ⟨by omega, rfl⟩)
 rw [h3, cond_false] at ef
 refine Ret.cE (key_eq (.inl hb)) ?_
 (dsimp +instances only [Aa,Ab,Ac,Ad,Ae,Af,Ag])
 refine Ret.test (fun h => ?_) fun h4 => ?_
 ·have e : stepK rows i = 5 := by
   unfold stepK
   rw [ef, h]
   rfl
  rw [e]
  exact Ret.some (.inr ⟨by omega, rfl⟩)
 rw [h4, cond_false] at ef
 have e : stepK rows i = if 0 < i ∧ 0 ≤ ordK (rows.getD (i - 1) []) (rows.getD i []) then 7 else 0 := by
  unfold stepK
  rw [ef, if_neg (by simp)]
 refine Ret.test (fun h => ?_) fun h => ?_
 ·simp only [ltI_eq, decide_eq_true_eq] at h
  have ei : ((i : Int) - 1).toNat = i - 1 := by omega
  have hy : Crd (rows.getD (i - 1) []) := hr _ (getD_row (by omega))
  simp only [ei, hy.eta]
  refine Ret.p (Ret.p ?_)
  refine Ret.cE (cardOrder_eq hy hC) ?_
  (dsimp +instances only [Aa,Ab,Ac,Ad,Ae,Af,Ag])
  refine Ret.test (fun h7 => ?_) fun h7 => ?_
  ·simp only [leI_eq, decide_eq_true_eq] at h7
   rw [if_pos ⟨by omega, h7⟩] at e
   rw [e]
   exact Ret.some (.inr ⟨by omega, rfl⟩)
  ·simp only [leI_eq, decide_eq_false_iff_not] at h7
   rw [if_neg (fun h' => h7 h'.2)] at e
   refine Ret.p (Ret.some (.inl ⟨e, rfl⟩))
 ·simp only [ltI_eq, decide_eq_false_iff_not] at h
  rw [if_neg (by omega)] at e
  refine Ret.p (Ret.some (.inl ⟨e, rfl⟩))
theorem cardsFault_ok (rows : List (List G)) (hr : ∀ z ∈ rows, Crd z) : F_r2_CardsFault [.l rows] = some [.i (faultCards rows)] := by
 refine Ret.toEq ?_
 unfold F_r2_CardsFault faultCards
 (dsimp +instances only [Aa,Ab,Ac,Ad,Ae,Af,Ag])
 by_cases hn : 3000 < rows.length
 ·refine Ret.p ?_
  rw [if_pos hn]
  exact Ret.some rfl
 ·refine Ret.n ?_
  rw [if_neg hn]
  refine Ret.loop (fw_loop (fun i => [.l rows, .l rows, .i (rows.length : Int), .i (i : Int)]) rows.length (stepK rows) [] (by omega) (cardsFault_step rows hr (by omega)) ?_) rfl ?_
  ·unfold st_r2_CardsFault_4
   (dsimp +instances only [Aa,Ab,Ac,Ad,Ae,Af,Ag])
   (repeat first|refine Ret.p ?_|refine Ret.n ?_)
   exact Ret.some rfl
  ·rintro _ _ (⟨rfl, h, rfl⟩ | ⟨rfl, rfl, _⟩)
   ·rw [h]
    exact Ret.some rfl
   ·exact Ret.some rfl
theorem checkCards_step (rows : List (List G)) (hr : ∀ z ∈ rows, Crd z) (hn : rows.length ≤ 3000) (i : Nat) (hi : i < rows.length) :
  Ret (st_club_CheckCards_4 [.l rows, .l rows, .i (rows.length : Int), .i (i : Int)]) fun o => (stepK rows i = 0 ∧ o = (none, [.l rows, .l rows, .i (rows.length : Int), .i ((i + 1 : Nat) : Int)])) ∨ (stepK rows i ≠ 0 ∧ o = (some 0, [.i (stepK rows i)])) := by
 obtain ⟨t, k, m, c, b, hx, ht, hk, hm, hc, hb⟩ := hr _ (getD_row hi)
 have hC : Crd (rows.getD i []) := hr _ (getD_row hi)
 have ef : faultK1 (rows.getD i []) = bif !inB t 0 345686399999 then 1 else bif !inB k 1 3 then 4 else bif !inB m 1 3 then 4 else bif !okCall c then 3 else bif !okKey b then 5 else 0 := by
  rw [hx]
  rfl
 unfold st_club_CheckCards_4
 (dsimp +instances only [Aa,Ab,Ac,Ad,Ae,Af,Ag])
 simp only [Int.toNat_natCast, hC.eta]
 have f0 : (gi (rows.getD i []) 0).int = t := by rw [hx]; rfl
 have f1 : (gi (rows.getD i []) 1).int = k := by rw [hx]; rfl
 have f2 : (gi (rows.getD i []) 2).int = m := by rw [hx]; rfl
 have f3 : (gi (rows.getD i []) 3).str = c := by rw [hx]; rfl
 have f4 : (gi (rows.getD i []) 4).str = b := by rw [hx]; rfl
 simp only [f0, f1, f2, f3, f4]
 refine Ret.p (Ret.p ?_)
 refine Ret.cE (isMoment_ok t) ?_
 (dsimp +instances only [Aa,Ab,Ac,Ad,Ae,Af,Ag])
 refine Ret.test (fun h => ?_) fun h0 => ?_
 ·have e : stepK rows i = 1 := by
   unfold stepK
   rw [ef, h]
   rfl
  rw [e]
  exact Ret.some (.inr ⟨by omega, rfl⟩)
 rw [h0, cond_false] at ef
 refine Ret.cE (outside_eq k 1 3) ?_
 (dsimp +instances only [Aa,Ab,Ac,Ad,Ae,Af,Ag])
 refine Ret.test (fun h => ?_) fun h1 => ?_
 ·have e : stepK rows i = 4 := by
   unfold stepK
   rw [ef, h]
   rfl
  rw [e]
  exact Ret.some (.inr ⟨by omega, rfl⟩)
 rw [h1, cond_false] at ef
 refine Ret.cE (isMode_ok m) ?_
 (dsimp +instances only [Aa,Ab,Ac,Ad,Ae,Af,Ag])
 refine Ret.test (fun h => ?_) fun h2 => ?_
 ·have e : stepK rows i = 4 := by
   unfold stepK
   rw [ef, h]
   rfl
  rw [e]
  exact Ret.some (.inr ⟨by omega, rfl⟩)
 rw [h2, cond_false] at ef
 refine Ret.cE (isCall_eq hc) ?_
 (dsimp +instances only [Aa,Ab,Ac,Ad,Ae,Af,Ag])
 refine Ret.test (fun h => ?_) fun h3 => ?_
 ·have e : stepK rows i = 3 := by
   unfold stepK
   rw [ef, h]
   rfl
  rw [e]
  exact Ret.some (.inr ⟨by omega, rfl⟩)
 rw [h3, cond_false] at ef
 refine Ret.cE (isKey_eq (.inl hb)) ?_
 (dsimp +instances only [Aa,Ab,Ac,Ad,Ae,Af,Ag])
 refine Ret.test (fun h => ?_) fun h4 => ?_
 ·have e : stepK rows i = 5 := by
   unfold stepK
   rw [ef, h]
   rfl
  rw [e]
  exact Ret.some (.inr ⟨by omega, rfl⟩)
 rw [h4, cond_false] at ef
 have e : stepK rows i = if 0 < i ∧ 0 ≤ ordK (rows.getD (i - 1) []) (rows.getD i []) then 7 else 0 := by
  unfold stepK
  rw [ef, if_neg (by simp)]
 refine Ret.test (fun h => ?_) fun h => ?_
 ·simp only [ltI_eq, decide_eq_true_eq] at h
  have ei : ((i : Int) - 1).toNat = i - 1 := by omega
  have hy : Crd (rows.getD (i - 1) []) := hr _ (getD_row (by omega))
  simp only [ei, hy.eta]
  refine Ret.p (Ret.p ?_)
  refine Ret.cE (compareCards_eq _ _) ?_
  (dsimp +instances only [Aa,Ab,Ac,Ad,Ae,Af,Ag])
  refine Ret.test (fun h7 => ?_) fun h7 => ?_
  ·simp only [leI_eq, decide_eq_true_eq] at h7
   rw [if_pos ⟨by omega, h7⟩] at e
   rw [e]
   exact Ret.some (.inr ⟨by omega, rfl⟩)
  ·simp only [leI_eq, decide_eq_false_iff_not] at h7
   rw [if_neg (fun h' => h7 h'.2)] at e
   refine Ret.p (Ret.some (.inl ⟨e, rfl⟩))
 ·simp only [ltI_eq, decide_eq_false_iff_not] at h
  rw [if_neg (by omega)] at e
  refine Ret.p (Ret.some (.inl ⟨e, rfl⟩))
theorem checkCards_ok (rows : List (List G)) (hr : ∀ z ∈ rows, Crd z) : F_club_CheckCards [.l rows] = some [.i (faultCards rows)] := by
 refine Ret.toEq ?_
 unfold F_club_CheckCards faultCards
 (dsimp +instances only [Aa,Ab,Ac,Ad,Ae,Af,Ag])
 by_cases hn : 3000 < rows.length
 ·refine Ret.p ?_
  rw [if_pos hn]
  exact Ret.some rfl
 ·refine Ret.n ?_
  rw [if_neg hn]
  refine Ret.loop (fw_loop (fun i => [.l rows, .l rows, .i (rows.length : Int), .i (i : Int)]) rows.length (stepK rows) [] (by omega) (checkCards_step rows hr (by omega)) ?_) rfl ?_
  ·unfold st_club_CheckCards_4
   (dsimp +instances only [Aa,Ab,Ac,Ad,Ae,Af,Ag])
   (repeat first|refine Ret.p ?_|refine Ret.n ?_)
   exact Ret.some rfl
  ·rintro _ _ (⟨rfl, h, rfl⟩ | ⟨rfl, rfl, _⟩)
   ·rw [h]
    exact Ret.some rfl
   ·exact Ret.some rfl
/-! ### Cards that are right rise -/
theorem right_rise {l : List (List G)} (hn : l.length ≤ 3000) (h : faultCards l = 0) : (l.Pairwise fun a b => ordK a b < 0) ∧ ∀ z ∈ l, faultK1 z = 0 := by
 unfold faultCards at h
 rw [if_neg (by omega)] at h
 have h1 := fw_zero h
 have h2 : ∀ i, i < l.length → faultK1 (l.getD i []) = 0 := fun i hi => by
  refine Decidable.byContradiction fun hne => hne ?_
  have := h1 i hi
  unfold stepK at this
  rw [if_pos hne] at this
  exact this
 refine ⟨pairwise_of_adj ordK_lt fun k hk hk' => ?_, fun z hz => ?_⟩
 ·have := h1 k hk'
  unfold stepK at this
  rw [if_neg (by simpa using h2 k hk')] at this
  refine Int.not_le.1 fun hle => ?_
  rw [if_pos ⟨by omega, hle⟩] at this
  cases this
 ·obtain ⟨i, hi, rfl⟩ := List.getElem_of_mem hz
  have := h2 i hi
  rwa [List.getD_eq_getElem?_getD, List.getElem?_eq_getElem hi] at this
theorem r_RightCards (l : List (List G)) (a n : Int) (ha : 0 ≤ a) (ha1 : a ≤ 100000) (h0 : 0 ≤ n) (hn1 : n ≤ 20) :
  Ret (F_mk_RightCards [.l l, .i a, .i n]) fun g => ∃ b rows, g = [.l l, .i b, .l rows] ∧ a ≤ b ∧ b ≤ a + 2000 ∧ (∀ z ∈ rows, Crd z) ∧ rows.length ≤ 20 ∧ faultCards rows = 0 := by
 unfold F_mk_RightCards
 (dsimp +instances only [Aa,Ab,Ac,Ad,Ae,Af,Ag])
 have loop : ∀ (k i : Nat) (c : Int), i + k = 5 → a ≤ c → c ≤ a + 400 * i → RetN st_mk_RightCards_2 [.l l, .i c, .i n, .i (i : Int)] (k + 1) fun x g => (x = 0 ∧ ∃ b rows, g = [.l l, .i b, .l rows] ∧ a ≤ b ∧ b ≤ a + 2000 ∧ (∀ z ∈ rows, Crd z) ∧ rows.length ≤ 20 ∧ faultCards rows = 0) ∨
   x = 1 ∧ ∃ b, g = [.l l, .i b] ∧ a ≤ b ∧ b ≤ a + 2000 := by
  intro k
  induction k with
  | zero =>
   intro i c hi h1 h2
   refine RetN.stop (x := 1) (Ret.toEq ?_) (.inr ⟨rfl, c, rfl, h1, by omega⟩)
   unfold st_mk_RightCards_2
   (dsimp +instances only [Aa,Ab,Ac,Ad,Ae,Af,Ag])
   exact Ret.n (Ret.some rfl)
  | succ k ih =>
   intro i c hi h1 h2
   have key : Ret (st_mk_RightCards_2 [.l l, .i c, .i n, .i (i : Int)]) fun o => (∃ b rows, o = (some 0, [.l l, .i b, .l rows]) ∧ a ≤ b ∧ b ≤ a + 2000 ∧ (∀ z ∈ rows, Crd z) ∧ rows.length ≤ 20 ∧ faultCards rows = 0) ∨
     ∃ b, o = (none, [.l l, .i b, .i n, .i ((i + 1 : Nat) : Int)]) ∧ c ≤ b ∧ b ≤ c + 400 := by
    unfold st_mk_RightCards_2
    (dsimp +instances only [Aa,Ab,Ac,Ad,Ae,Af,Ag])
    refine Ret.p ?_
    refine Ret.call (r_Cards l c n (by omega) (by omega) h0 hn1) ?_
    rintro _ ⟨b, rows, rfl, q1, q2, q3, q4⟩
    (dsimp +instances only [Aa,Ab,Ac,Ad,Ae,Af,Ag])
    refine Ret.cE (cardsFault_ok rows q3) ?_
    (dsimp +instances only [Aa,Ab,Ac,Ad,Ae,Af,Ag])
    refine Ret.test (fun h => ?_) fun h => ?_
    ·exact Ret.some (.inl ⟨b, rows, rfl, by omega, by omega, q3, by omega, by simpa using h⟩)
    ·refine Ret.p (Ret.some (.inr ⟨b, rfl, by omega, by omega⟩))
   obtain ⟨o, h, ⟨b, rows, rfl, q⟩ | ⟨b, rfl, q1, q2⟩⟩ := key
   ·exact RetN.stop h (.inl ⟨rfl, b, rows, rfl, q⟩)
   ·exact RetN.next h (ih (i + 1) b (by omega) (by omega) (by omega))
 refine Ret.loop ((loop 5 0 a rfl (by omega) (by omega)).to (by omega)) rfl ?_
 rintro c g (⟨rfl, b, rows, rfl, q⟩ | ⟨rfl, b, rfl, q1, q2⟩)
 ·exact Ret.some ⟨b, rows, rfl, q⟩
 ·exact Ret.some ⟨b, [], rfl, q1, q2, by simp, by simp, rfl⟩
/-! ### Two parts of a list -/
/-! ### What is confirmed stays so -/
/-! ### Whoever is owed something is confirmed -/
def byL (l : List UInt8) : ByteArray := ⟨l.toArray⟩
theorem byL_data (l : List UInt8) : (byL l).data.toList = l := by simp [byL]
theorem byL_list (l : List UInt8) : (byL l).toList = l := by rw [Lib.toList_data, byL_data]
theorem byL_size (l : List UInt8) : (byL l).size = l.length := by rw [Lib.size_eq, byL_data]
theorem byL_of (b : ByteArray) : byL b.data.toList = b := mk_list b
theorem byL_inj {a b : ByteArray} (h : a.data.toList = b.data.toList) : a = b := by rw [← byL_of a, h, byL_of]
theorem byL_append (a b : List UInt8) : byL a ++ byL b = byL (a ++ b) := byL_inj (by simp [byL])
theorem itoa_byL (n : Int) : itoaZ n = byL (Lib.itoa n) := rfl
/-! ### Join -/
theorem strs_map (ws : List ByteArray) : (strsOf (ws.map fun w => [G.s w])).map (·.data.toList) = ws.map (·.data.toList) := by
 unfold strsOf
 rw [List.map_map, List.map_map]
 rfl
theorem joinKit (ws : List ByteArray) (hn : ws.length ≤ 1000) (hl : (lineL (ws.map (·.data.toList))).length ≤ 1000000) : F_kit_Join [.l (ws.map fun w => [.s w])] = some [.s (byL (lineL (ws.map (·.data.toList))))] := by
 have e : joinB (ws.map fun w => [G.s w]) (⟨#[32]⟩ : ByteArray) = byL (Lib.join (ws.map (·.data.toList)) [32]) := by
  unfold joinB
  rw [strs_map]
  rfl
 have hl' : (Lib.join (ws.map (·.data.toList)) [32]).length + 1 ≤ 1000000 := by
  simpa [lineL] using hl
 have hj : F_strings_Join [.l (ws.map fun w => [.s w]), .s (⟨#[32]⟩ : ByteArray)] = some [.s (byL (Lib.join (ws.map (·.data.toList)) [32]))] := by
  refine Ret.toEq ?_
  unfold F_strings_Join joinF
  (dsimp +instances only [Aa,Ab,Ac,Ad,Ae,Af,Ag])
  rw [e, byL_size]
  refine Ret.pos ?_ (Ret.some rfl)
  rw [List.length_map, Bool.and_eq_true, Nat.ble_eq, Nat.ble_eq]
  omega
 refine Ret.toEq ?_
 unfold F_kit_Join
 (dsimp +instances only [Aa,Ab,Ac,Ad,Ae,Af,Ag])
 refine Ret.cE hj ?_
 (dsimp +instances only [Aa,Ab,Ac,Ad,Ae,Af,Ag])
 refine Ret.pos (by rw [byL_size, Nat.ble_eq]; omega) (Ret.some ?_)
 rw [show (⟨#[10]⟩ : ByteArray) = byL [10] from rfl, byL_append]
 rfl
/-! ### Split -/
theorem splitLib (c : UInt8) (x : List UInt8) (xs : List (List UInt8)) (h : ∀ y ∈ x :: xs, c ∉ y) (hl : (Lib.join (x :: xs) [c]).length ≤ 1000000) :
  F_strings_Split [.s (byL (Lib.join (x :: xs) [c])), .s (⟨#[c]⟩ : ByteArray)] = some [.l ((x :: xs).map fun y => [G.s (byL y)])] := by
 refine Ret.toEq ?_
 unfold F_strings_Split
 (dsimp +instances only [Aa,Ab,Ac,Ad,Ae,Af,Ag])
 have hs : F_strings_genSplit [.s (byL (Lib.join (x :: xs) [c])), .s (⟨#[c]⟩ : ByteArray), .i 0, .i (-1)] = some [.l ((x :: xs).map fun y => [G.s (byL y)])] := by
  refine Ret.toEq ?_
  unfold F_strings_genSplit splitF
  (dsimp +instances only [Aa,Ab,Ac,Ad,Ae,Af,Ag])
  refine Ret.pos ?_ (Ret.some ?_)
  ·rw [byL_size, Bool.and_eq_true, Bool.and_eq_true, Bool.and_eq_true]
   exact ⟨rfl, rfl, rfl, by rw [Nat.blt_eq]; omega⟩
  ·rw [splitG_join (byL_data _) h]
   rfl
 refine Ret.cE hs ?_
 exact Ret.some rfl
/-! ### Lines and words -/
/-! ### Numbers -/
theorem writeB (a b : ByteArray) (h : a.size + b.size ≤ 1000000) : F_strings_Builder_WriteString [.s a, .s b] = some [.s (a ++ b), .i (b.size : Nat)] := by
 refine Ret.toEq ?_
 unfold F_strings_Builder_WriteString bldWF
 (dsimp +instances only [Aa,Ab,Ac,Ad,Ae,Af,Ag])
 exact Ret.pos (by rw [Nat.ble_eq]; omega) (Ret.some rfl)
theorem lenB (a : ByteArray) : F_strings_Builder_Len [.s a] = some [.s a, .i (a.size : Nat)] := rfl
theorem stringB (a : ByteArray) : F_strings_Builder_String [.s a] = some [.s a, .s a] := rfl
theorem itoaA (n : Int) (h1 : -9223372036854775808 ≤ n) (h2 : n ≤ 9223372036854775807) : F_strconv_Itoa [.i n] = some [.s (itoaZ n)] := by
 refine Ret.toEq ?_
 unfold F_strconv_Itoa
 (dsimp +instances only [Aa,Ab,Ac,Ad,Ae,Af,Ag])
 exact Ret.pos (by rw [Bool.and_eq_true, leI_eq, leI_eq, decide_eq_true_eq, decide_eq_true_eq]; exact ⟨h1, h2⟩) (Ret.some rfl)
def wordB (s : ByteArray) : Bool := Nat.ble 1 s.data.toList.length && (Nat.ble s.data.toList.length 20 && s.data.toList.all fun b => !(b == 32) && !(b == 10))
theorem wordB_iff {s : ByteArray} (h : wordB s = true) : Word s.data.toList ∧ s.data.toList.length ≤ 20 := by
 unfold wordB at h
 simp only [Bool.and_eq_true, Nat.ble_eq] at h
 obtain ⟨h1, h2, h3⟩ := h
 refine ⟨⟨fun e => by rw [e] at h1; simp at h1, fun b hb => ?_⟩, h2⟩
 have := List.all_eq_true.1 h3 b hb
 simpa using this
theorem calls_words : (calls.all fun s => !okCall s || wordB s) = true := by kernel_rfl
theorem call_word {s : ByteArray} (h : s ∈ calls) (hok : okCall s = true) : Word s.data.toList ∧ s.data.toList.length ≤ 20 := by
 have := List.all_eq_true.1 calls_words s h
 rw [hok] at this
 exact wordB_iff (by simpa using this)
theorem bands_words : (bands.all fun s => !okKey s || wordB s) = true := by kernel_rfl
theorem band_word {s : ByteArray} (h : s ∈ bands) (hok : okKey s = true) : Word s.data.toList ∧ s.data.toList.length ≤ 20 := by
 have := List.all_eq_true.1 bands_words s h
 rw [hok] at this
 exact wordB_iff (by simpa using this)
def modeW (m : Int) : ByteArray := if m = 1 then ⟨#[99, 111, 100, 101]⟩ else if m = 2 then ⟨#[118, 111, 105, 99, 101]⟩ else ⟨#[100, 97, 116, 97]⟩
def modeRows : List (List G) := [[.s (⟨#[]⟩ : ByteArray)], [.s (⟨#[99, 111, 100, 101]⟩ : ByteArray)], [.s (⟨#[118, 111, 105, 99, 101]⟩ : ByteArray)], [.s (⟨#[100, 97, 116, 97]⟩ : ByteArray)]]
theorem modeWords_eq : F_kit_ModeWords [] = some [.l modeRows] := rfl
theorem mode_at {m : Int} (h : m = 1 ∨ m = 2 ∨ m = 3) : (gi (modeRows.getD m.toNat []) 0).str = modeW m := by
 rcases h with rfl | rfl | rfl <;> rfl
theorem mode_word {m : Int} (h : m = 1 ∨ m = 2 ∨ m = 3) : Word (modeW m).data.toList ∧ (modeW m).data.toList.length ≤ 20 := by
 rcases h with rfl | rfl | rfl
 ·exact wordB_iff (show wordB (⟨#[99, 111, 100, 101]⟩ : ByteArray) = true from by kernel_rfl)
 ·exact wordB_iff (show wordB (⟨#[118, 111, 105, 99, 101]⟩ : ByteArray) = true from by kernel_rfl)
 ·exact wordB_iff (show wordB (⟨#[100, 97, 116, 97]⟩ : ByteArray) = true from by kernel_rfl)
theorem len_itoa {n : Int} (h0 : 0 ≤ n) (h1 : n ≤ 345686399999) : (Lib.itoa n).length ≤ 15 := by
 unfold Lib.itoa
 rw [if_neg (by omega)]
 exact dec_length 14 _ (by simp; omega)
def isLb (b : UInt8) : Bool := Nat.ble 97 b.toNat && Nat.ble b.toNat 122
def isDb (b : UInt8) : Bool := Nat.ble 48 b.toNat && Nat.ble b.toNat 57
def plainL (l : List UInt8) : Bool := l.all fun b => isLb b || isDb b
def lettersL (l : List UInt8) : Nat := (l.filter isLb).length
def digB : ByteArray := ⟨#[48, 49, 50, 51, 52, 53, 54, 55, 56, 57]⟩
theorem isLetter_ok (b : UInt8) : F_call_isLetter [.i ((b.toNat : Nat) : Int)] = some [.t (isLb b)] := by
 refine Ret.toEq ?_
 unfold F_call_isLetter isLb
 (dsimp +instances only [Aa,Ab,Ac,Ad,Ae,Af,Ag])
 refine Ret.test (fun h => Ret.some ?_) fun h => Ret.some ?_
 ·rw [leI_eq, decide_eq_true_eq] at h
  rw [show Nat.ble 97 b.toNat = true by rw [Nat.ble_eq]; omega, leI_eq, Bool.true_and, Bool.eq_iff_iff.2 (by rw [decide_eq_true_eq, Nat.ble_eq]; omega : decide ((b.toNat : Int) ≤ 122) = true ↔ Nat.ble b.toNat 122 = true)]
 ·rw [leI_eq, decide_eq_false_iff_not] at h
  rw [show Nat.ble 97 b.toNat = false by rw [Bool.eq_false_iff, ne_eq, Nat.ble_eq]; omega]
  rfl
theorem isDigit_ok (b : UInt8) : F_call_isDigit [.i ((b.toNat : Nat) : Int)] = some [.t (isDb b)] := by
 refine Ret.toEq ?_
 unfold F_call_isDigit isDb
 (dsimp +instances only [Aa,Ab,Ac,Ad,Ae,Af,Ag])
 refine Ret.test (fun h => Ret.some ?_) fun h => Ret.some ?_
 ·rw [leI_eq, decide_eq_true_eq] at h
  rw [show Nat.ble 48 b.toNat = true by rw [Nat.ble_eq]; omega, leI_eq, Bool.true_and, Bool.eq_iff_iff.2 (by rw [decide_eq_true_eq, Nat.ble_eq]; omega : decide ((b.toNat : Int) ≤ 57) = true ↔ Nat.ble b.toNat 57 = true)]
 ·rw [leI_eq, decide_eq_false_iff_not] at h
  rw [show Nat.ble 48 b.toNat = false by rw [Bool.eq_false_iff, ne_eq, Nat.ble_eq]; omega]
  rfl
theorem plain_snoc (l : List UInt8) (b : UInt8) : plainL (l ++ [b]) = (plainL l && (isLb b || isDb b)) := by simp [plainL]
theorem letters_snoc (l : List UInt8) (b : UInt8) : lettersL (l ++ [b]) = lettersL l + if isLb b then 1 else 0 := by
 unfold lettersL
 rw [List.filter_append, List.length_append, List.filter_cons]
 cases isLb b <;> rfl
theorem letters_le (l : List UInt8) : lettersL l ≤ l.length := List.length_filter_le _ _
theorem plain_take {l : List UInt8} (h : plainL l = true) (i : Nat) : plainL (l.take i) = true := List.all_eq_true.2 fun b hb => List.all_eq_true.1 h b (List.mem_of_mem_take hb)
theorem isPlain_ok (s : ByteArray) (hs : s.size ≤ 900000) : F_call_isPlain [.s s] = some [.i (bif plainL s.data.toList then (lettersL s.data.toList : Int) else 0), .t (plainL s.data.toList)] := by
 refine Ret.toEq ?_
 unfold F_call_isPlain
 (dsimp +instances only [Aa,Ab,Ac,Ad,Ae,Af,Ag])
 have hz := Lib.size_eq s
 refine Ret.loop (P := fun c g => (c = 1 ∧ plainL s.data.toList = true ∧ g = [.i (lettersL s.data.toList : Int)]) ∨ (c = 0 ∧ plainL s.data.toList = false ∧ g = [.i 0, .t false])) ?_ rfl ?_
 ·refine ((count_runs (σ := Unit) (fun _ i => [.s s, .i ((lettersL (s.data.toList.take i) : Nat) : Int), .i ((s.size : Nat) : Int), .i (i : Int)]) s.size (fun _ => (1, [.i (lettersL s.data.toList : Int)])) (fun _ i => plainL (s.data.toList.take i) = true)
   (fun c g => c = 0 ∧ plainL s.data.toList = false ∧ g = [.i 0, .t false]) ?_ ?_ s.size () 0 (by omega) rfl).to (by omega)).mono ?_
  ·rintro _ i hp hi
   have hi' : i < s.data.toList.length := by omega
   have hg : s.data.toList.getD i 0 = s.data.toList[i] := by rw [List.getD_eq_getElem?_getD, List.getElem?_eq_getElem hi']; rfl
   have ht : s.data.toList.take (i + 1) = s.data.toList.take i ++ [s.data.toList[i]] := by rw [List.take_add_one, List.getElem?_eq_getElem hi']; rfl
   have hle := letters_le (s.data.toList.take i)
   rw [List.length_take] at hle
   unfold st_call_isPlain_2
   (dsimp +instances only [Aa,Ab,Ac,Ad,Ae,Af,Ag])
   simp only [Int.toNat_natCast, hg]
   generalize hb : s.data.toList[i] = b at ht
   refine Ret.p (Ret.p ?_)
   refine Ret.cE (isLetter_ok b) ?_
   refine Ret.test (fun hl => ?_) fun hl => ?_
   ·have hl : isLb b = true := hl
    refine Ret.p (Ret.p (Ret.some (.inl ⟨(), ?_, ?_⟩)))
    ·rw [ht, letters_snoc, hl]
     rfl
    ·rw [ht, plain_snoc, hp, hl]
     rfl
   ·have hl : isLb b = false := hl
    refine Ret.p ?_
    refine Ret.cE (isDigit_ok b) ?_
    refine Ret.test (fun hd => ?_) fun hd => ?_
    ·refine Ret.some (.inr ⟨0, _, rfl, rfl, ?_, rfl⟩)
     have hd : (!isDb b) = true := hd
     have hd : isDb b = false := by simpa using hd
     cases hq : plainL s.data.toList with
     | false => rfl
     | true =>
      have := plain_take hq (i + 1)
      rw [ht, plain_snoc, hl, hd] at this
      simp at this
    ·have hd : (!isDb b) = false := hd
     have hd : isDb b = true := by simpa using hd
     refine Ret.p (Ret.some (.inl ⟨(), ?_, ?_⟩))
     ·rw [ht, letters_snoc, hl]
      rfl
     ·rw [ht, plain_snoc, hp, hl, hd]
      rfl
  ·rintro _ hp
   unfold st_call_isPlain_2
   (dsimp +instances only [Aa,Ab,Ac,Ad,Ae,Af,Ag])
   refine Ret.n (Ret.some ?_)
   rw [hz, List.take_length]
  ·rintro c g (⟨_, hp, rfl, rfl⟩ | h)
   ·rw [hz, List.take_length] at hp
    exact .inl ⟨rfl, hp, rfl⟩
   ·exact .inr h
 ·rintro c g (⟨rfl, hp, rfl⟩ | ⟨rfl, hp, rfl⟩)
  ·rw [hp]
   exact Ret.neg rfl (Ret.some rfl)
  ·rw [hp]
   exact Ret.pos rfl (Ret.some rfl)
/-! ### Where the last digit is -/
theorem wrap32 {n : Nat} (h : n < 128) : IntKind.i32.wrap ((n : Nat) : Int) = n := by
 have e : ((n : Nat) : Int) % 4294967296 = n := Int.emod_eq_of_lt (by omega) (by omega)
 have e2 : IntKind.i32.wrap ((n : Nat) : Int) = if (true && decide (((n : Nat) : Int) % 4294967296 ≥ 2147483648)) = true then ((n : Nat) : Int) % 4294967296 - 4294967296 else ((n : Nat) : Int) % 4294967296 := rfl
 rw [e2, e, if_neg (by simp; omega)]
theorem ascii_get {s : ByteArray} (h : asciiB s = true) {i : Nat} (hi : i < s.size) : (s.data.toList.getD i 0).toNat < 128 := by
 have hz := Lib.size_eq s
 have hi' : i < s.data.toList.length := by omega
 rw [List.getD_eq_getElem?_getD, List.getElem?_eq_getElem hi']
 exact asciiB_at h i _ (List.getElem?_eq_getElem hi')
theorem rune_ok (s : ByteArray) (r : Nat) (h : r < 128) : ∃ k, F_strings_IndexRune [.s s, .i ((r : Nat) : Int)] = some [.i k] := by
 refine ⟨Lib.indexByte s.data.toList ((r : Nat) : Int).toNat.toUInt8, Ret.toEq ?_⟩
 unfold F_strings_IndexRune runeF
 (dsimp +instances only [Aa,Ab,Ac,Ad,Ae,Af,Ag])
 refine Ret.pos ?_ (Ret.some rfl)
 rw [Bool.and_eq_true, leI_eq, ltI_eq, decide_eq_true_eq, decide_eq_true_eq]
 omega
theorem lastRune_ok (s : ByteArray) (h : asciiB s = true) (h0 : 0 < s.size) (h1 : s.size ≤ 900000) : ∃ r : Nat, r < 128 ∧ F_utf8_DecodeLastRuneInString [.s s] = some [.i (r : Int), .i 1] := by
 have e : (((s.size : Nat) : Int) - 1).toNat = s.size - 1 := by omega
 have hr := ascii_get h (show s.size - 1 < s.size by omega)
 refine ⟨(s.data.toList.getD (s.size - 1) 0).toNat, hr, Ret.toEq ?_⟩
 unfold F_utf8_DecodeLastRuneInString
 (dsimp +instances only [Aa,Ab,Ac,Ad,Ae,Af,Ag])
 rw [e, wrap32 hr]
 refine Ret.neg (by simp only [beq_eq_false_iff_ne]; omega) (Ret.p (Ret.p (Ret.pos (by rw [ltI_eq, decide_eq_true_eq]; omega) (Ret.some rfl))))
theorem ascii_front {s : ByteArray} (h : asciiB s = true) (i : Nat) : asciiB (s.extract 0 i) = true := List.all_eq_true.2 fun b hb => by
 rw [Lib.extract_data] at hb
 exact List.all_eq_true.1 h b (List.mem_of_mem_drop (List.mem_of_mem_take hb))
theorem ascii_back {s : ByteArray} (h : asciiB s = true) (i : Nat) : asciiB (s.extract i s.size) = true := List.all_eq_true.2 fun b hb => by
 rw [Lib.extract_to_end] at hb
 exact List.all_eq_true.1 h b (List.mem_of_mem_drop hb)
theorem lastAny_ok (s : ByteArray) (h : asciiB s = true) (hs : s.size ≤ 900000) : ∃ k : Int, F_strings_LastIndexAny [.s s, .s digB] = some [.i k] ∧ -1 ≤ k ∧ k < (s.size : Nat) := by
 have key : Ret (F_strings_LastIndexAny [.s s, .s digB]) fun g => ∃ k : Int, g = [.i k] ∧ -1 ≤ k ∧ k < (s.size : Nat) := by
  unfold F_strings_LastIndexAny
  (dsimp +instances only [Aa,Ab,Ac,Ad,Ae,Af,Ag])
  refine Ret.neg (by rw [Lib.toList_data, Lib.toList_data]; rfl) ?_
  refine Ret.test (fun h1 => ?_) fun h1 => ?_
  ·have h1 : s.size = 1 := by simp only [beq_iff_eq] at h1; omega
   have hr := ascii_get h (show 0 < s.size by omega)
   rw [wrap32 hr]
   refine Ret.p (Ret.neg (by rw [leI_eq, decide_eq_false_iff_not]; omega) ?_)
   obtain ⟨k, hk⟩ := rune_ok digB _ hr
   refine Ret.cE hk ?_
   exact Ret.test (fun _ => Ret.some ⟨0, rfl, by omega, by omega⟩) fun _ => Ret.some ⟨-1, rfl, by omega, by omega⟩
  ·refine Ret.call (Ret.eq (rfl : F_strings_shouldUseASCIISet [.i ((s.size : Nat) : Int)] = some [.t (ltI 8 ((s.size : Nat) : Int))])) ?_
   rintro _ rfl
   (dsimp +instances only [Aa,Ab,Ac,Ad,Ae,Af,Ag])
   refine Ret.test (fun h8 => ?_) fun h8 => ?_
   ·rw [ltI_eq, decide_eq_true_eq] at h8
    have hm : F_strings_makeASCIISet [.s digB] = some [.l [setRow digB], .t true] := by
     refine Ret.toEq ?_
     unfold F_strings_makeASCIISet mksetF
     (dsimp +instances only [Aa,Ab,Ac,Ad,Ae,Af,Ag])
     exact Ret.pos rfl (Ret.some rfl)
    refine Ret.cE hm ?_
    refine Ret.pos rfl (Ret.p ?_)
    (dsimp +instances only [Aa,Ab,Ac,Ad,Ae,Af,Ag])
    generalize hR : gEta K256 (setRow digB) = row
    refine Ret.loop (P := fun c g => (c = 1 ∧ g = []) ∨ (c = 0 ∧ ∃ k : Nat, k < s.size ∧ g = [.i (k : Int)])) ?_ rfl ?_
    ·have e1 : ((s.size : Nat) : Int) - 1 = ((s.size : Nat) : Int) - 1 := rfl
     refine RetL.inv (fun t : List G × Nat => [.s s, .l [t.1], .i ((t.2 : Int) - 1)]) (fun t => t.2 ≤ s.size) (fun t => t.2) (fun t ht => ?_) (row, s.size) (Nat.le_refl _) (by simp only; omega)
     obtain ⟨row, i⟩ := t
     simp only at ht
     unfold st_strings_LastIndexAny_14
     (dsimp +instances only [Aa,Ab,Ac,Ad,Ae,Af,Ag])
     by_cases h0 : i = 0
     ·subst h0
      exact Ret.neg (by rw [leI_eq, decide_eq_false_iff_not]; simp) (Ret.some (.inr ⟨1, rfl, .inl ⟨rfl, rfl⟩⟩))
     ·have e2 : ((i : Int) - 1).toNat = i - 1 := by omega
      rw [e2]
      refine Ret.p (Ret.p ?_)
      have hr := ascii_get h (show i - 1 < s.size by omega)
      have hc : Ret (F_strings_asciiSet_contains [.l [gEta K256 row], .i (((s.data.toList.getD (i - 1) 0).toNat : Nat) : Int)]) fun g => ∃ b, g = [.t b] := by
       unfold F_strings_asciiSet_contains
       refine Ret.pos ?_ (Ret.some ⟨_, rfl⟩)
       rw [Bool.and_eq_true, nnI_eq, ltI_eq, decide_eq_true_eq, decide_eq_true_eq]
       show 0 ≤ (((s.data.toList.getD (i - 1) 0).toNat : Nat) : Int) ∧ (((s.data.toList.getD (i - 1) 0).toNat : Nat) : Int) < 256
       omega
      refine Ret.call hc ?_
      rintro _ ⟨b, rfl⟩
      refine Ret.test (fun _ => Ret.some (.inr ⟨0, rfl, .inr ⟨rfl, i - 1, by omega, ?_⟩⟩)) fun _ => Ret.p (Ret.some (.inl ⟨rfl, (gEta K256 row, i - 1), ?_, by simp only; omega, by simp only; omega⟩))
      ·rw [show ((i : Int) - 1) = ((i - 1 : Nat) : Int) by omega]
      ·simp only
       rw [show ((i : Int) - 1) = ((i - 1 : Nat) : Int) by omega]
    ·rintro c g (⟨rfl, rfl⟩ | ⟨rfl, k, hk, rfl⟩)
     ·exact Ret.neg rfl (Ret.some ⟨-1, rfl, by omega, by omega⟩)
     ·exact Ret.pos rfl (Ret.some ⟨k, rfl, by omega, by omega⟩)
   ·refine Ret.neg rfl ?_
    refine Ret.loop (P := fun c g => (c = 1 ∧ g = []) ∨ (c = 0 ∧ ∃ k : Nat, k < s.size ∧ g = [.i (k : Int)])) ?_ rfl ?_
    ·refine RetL.inv (fun i : Nat => [.s s, .s digB, .i (i : Int)]) (fun i => i ≤ s.size) (fun i => i) (fun i hi => ?_) s.size (Nat.le_refl _) (by omega)
     unfold st_strings_LastIndexAny_31
     (dsimp +instances only [Aa,Ab,Ac,Ad,Ae,Af,Ag])
     by_cases h0 : i = 0
     ·subst h0
      exact Ret.neg rfl (Ret.some (.inr ⟨1, rfl, .inl ⟨rfl, rfl⟩⟩))
     ·rw [Int.toNat_natCast]
      refine Ret.p (Ret.p ?_)
      have hz : (s.extract 0 i).size = i := by rw [ByteArray.size_extract]; omega
      obtain ⟨r, hr, he⟩ := lastRune_ok (s.extract 0 i) (ascii_front h i) (by omega) (by omega)
      refine Ret.cE he ?_
      (dsimp +instances only [Aa,Ab,Ac,Ad,Ae,Af,Ag])
      refine Ret.p ?_
      obtain ⟨k, hk⟩ := rune_ok digB r hr
      refine Ret.cE hk ?_
      refine Ret.test (fun _ => Ret.some (.inr ⟨0, rfl, .inr ⟨rfl, i - 1, by omega, ?_⟩⟩)) fun _ => Ret.some (.inl ⟨rfl, i - 1, ?_, by omega, by omega⟩)
      ·rw [show ((i : Int) - 1) = ((i - 1 : Nat) : Int) by omega]
      ·rw [show ((i : Int) - 1) = ((i - 1 : Nat) : Int) by omega]
    ·rintro c g (⟨rfl, rfl⟩ | ⟨rfl, k, hk, rfl⟩)
     ·exact Ret.neg rfl (Ret.some ⟨-1, rfl, by omega, by omega⟩)
     ·exact Ret.pos rfl (Ret.some ⟨k, rfl, by omega, by omega⟩)
 obtain ⟨g, hg, k, rfl, h1, h2⟩ := key
 exact ⟨k, hg, h1, h2⟩
def lastK (s : ByteArray) : Int := (gi ((F_strings_LastIndexAny [.s s, .s digB]).getD []) 0).int
theorem lastK_eq {s : ByteArray} (h : asciiB s = true) (hs : s.size ≤ 900000) : F_strings_LastIndexAny [.s s, .s digB] = some [.i (lastK s)] ∧ -1 ≤ lastK s ∧ lastK s < (s.size : Nat) := by
 obtain ⟨k, h1, h2, h3⟩ := lastAny_ok s h hs
 have e : lastK s = k := by unfold lastK; rw [h1]; rfl
 rw [e]
 exact ⟨h1, h2, h3⟩
def baseP (s : ByteArray) : Prop := plainL s.data.toList = true ∧ s.size ≤ 10 ∧ 1 ≤ lastK s ∧ lastK s ≤ 3 ∧ 1 ≤ ((s.size : Nat) : Int) - lastK s - 1 ∧ ((s.size : Nat) : Int) - lastK s - 1 ≤ 4 ∧ 0 < lettersL (s.data.toList.take (lastK s).toNat)
open Classical in
def baseC (s : ByteArray) : Bool := decide (baseP s)
def beginC (s : ByteArray) : Bool := plainL s.data.toList && (Nat.blt 0 (lettersL s.data.toList) && Nat.ble s.size 4)
def tailC (s : ByteArray) : Bool := s.data.toList == [112] || (s.data.toList == [109] || (s.data.toList == [109, 109] || (s.data.toList == [97, 109] || ((Nat.beq s.size 1 && isDb (s.data.toList.getD 0 0)) || beginC s))))
open Classical in
theorem baseC_t {s : ByteArray} (h : baseP s) : baseC s = true := decide_eq_true h
open Classical in
theorem baseC_f {s : ByteArray} (h : ¬ baseP s) : baseC s = false := decide_eq_false h
open Classical in
theorem baseC_iff {s : ByteArray} : baseC s = true ↔ baseP s := decide_eq_true_iff
theorem split_ok (s : ByteArray) (h : asciiB s = true) (hs : s.size ≤ 900000) : Ret (F_call_split [.s s]) fun g => ∃ i, g = [.i i, .t (baseC s)] ∧ (baseC s = true → i = lastK s) := by
 obtain ⟨k1, k2, k3⟩ := lastK_eq h hs
 have no : ¬ baseP s → ∀ (i : Int), ∃ i', [G.i i, G.t false] = [G.i i', G.t (baseC s)] ∧ (baseC s = true → i' = lastK s) := fun hn i => ⟨i, by rw [baseC_f hn], fun hb => (hn (baseC_iff.1 hb)).elim⟩
 unfold F_call_split
 (dsimp +instances only [Aa,Ab,Ac,Ad,Ae,Af,Ag])
 refine Ret.cE (isPlain_ok s hs) ?_
 (dsimp +instances only [Aa,Ab,Ac,Ad,Ae,Af,Ag])
 refine Ret.test (fun hp => Ret.some (no (fun hb => ?_) 0)) fun hp => ?_
 ·rw [hb.1] at hp
  cases hp
 have hp : plainL s.data.toList = true := by simpa using hp
 refine Ret.test (fun h10 => Ret.some (no (fun hb => ?_) 0)) fun h10 => ?_
 ·rw [ltI_eq, decide_eq_true_eq] at h10
  have := hb.2.1
  omega
 rw [ltI_eq, decide_eq_false_iff_not] at h10
 refine Ret.cE k1 ?_
 (dsimp +instances only [Aa,Ab,Ac,Ad,Ae,Af,Ag])
 refine Ret.test (fun g1 => Ret.some (no (fun hb => ?_) 0)) fun g1 => ?_
 ·rw [ltI_eq, decide_eq_true_eq] at g1
  have := hb.2.2.1
  omega
 rw [ltI_eq, decide_eq_false_iff_not] at g1
 refine Ret.test (fun g2 => Ret.some (no (fun hb => ?_) 0)) fun g2 => ?_
 ·rw [ltI_eq, decide_eq_true_eq] at g2
  have := hb.2.2.2.1
  omega
 rw [ltI_eq, decide_eq_false_iff_not] at g2
 refine Ret.p (Ret.p (Ret.test (fun g3 => Ret.some (no (fun hb => ?_) 0)) fun g3 => ?_))
 ·rw [ltI_eq, decide_eq_true_eq] at g3
  have := hb.2.2.2.2.1
  omega
 rw [ltI_eq, decide_eq_false_iff_not] at g3
 refine Ret.p (Ret.p (Ret.test (fun g4 => Ret.some (no (fun hb => ?_) 0)) fun g4 => ?_))
 ·rw [ltI_eq, decide_eq_true_eq] at g4
  have := hb.2.2.2.2.2.1
  omega
 rw [ltI_eq, decide_eq_false_iff_not] at g4
 refine Ret.p ?_
 have hz : (s.extract 0 (lastK s).toNat).size ≤ 900000 := by rw [ByteArray.size_extract]; omega
 refine Ret.cE (isPlain_ok _ hz) ?_
 have ed : (s.extract 0 (lastK s).toNat).data.toList = s.data.toList.take (lastK s).toNat := by rw [Lib.extract_data]; simp
 rw [ed, plain_take hp]
 refine Ret.some ⟨lastK s, ?_, fun _ => rfl⟩
 show [G.i (lastK s), G.t (ltI 0 ((lettersL (s.data.toList.take (lastK s).toNat) : Nat) : Int))] = _
 by_cases hl : 0 < lettersL (s.data.toList.take (lastK s).toNat)
 ·rw [baseC_t ⟨hp, by omega, by omega, by omega, by omega, by omega, hl⟩, ltI_eq, decide_eq_true (by omega)]
 ·rw [baseC_f (fun hb => hl hb.2.2.2.2.2.2), ltI_eq, decide_eq_false (by omega)]
theorem based_ok (s : ByteArray) (h : asciiB s = true) (hs : s.size ≤ 900000) : Ret (F_call_based [.s s]) fun g => ∃ row, g = [.l [row], .t (baseC s)] := by
 obtain ⟨_, k2, k3⟩ := lastK_eq h hs
 unfold F_call_based
 (dsimp +instances only [Aa,Ab,Ac,Ad,Ae,Af,Ag])
 refine Ret.call (split_ok s h hs) ?_
 rintro _ ⟨i, rfl, hi⟩
 (dsimp +instances only [Aa,Ab,Ac,Ad,Ae,Af,Ag])
 refine Ret.test (fun hb => ?_) fun hb => ?_
 ·have hb : baseC s = false := by simpa using hb
  rw [hb]
  exact Ret.some ⟨_, rfl⟩
 ·have hb : baseC s = true := by simpa using hb
  rw [hi hb, hb]
  have hB := baseC_iff.1 hb
  have := hB.2.2.1
  exact Ret.p (Ret.p (Ret.p (Ret.p (Ret.some ⟨_, rfl⟩))))
theorem isBegin_ok (s : ByteArray) (hs : s.size ≤ 900000) : F_call_isBegin [.s s] = some [.t (beginC s)] := by
 refine Ret.toEq ?_
 unfold F_call_isBegin beginC
 (dsimp +instances only [Aa,Ab,Ac,Ad,Ae,Af,Ag])
 refine Ret.cE (isPlain_ok s hs) ?_
 (dsimp +instances only [Aa,Ab,Ac,Ad,Ae,Af,Ag])
 cases hp : plainL s.data.toList with
 | false => exact Ret.neg rfl (Ret.some rfl)
 | true =>
  refine Ret.pos rfl ?_
  simp only [cond_true, Bool.true_and]
  refine Ret.test (fun hl => ?_) fun hl => ?_
  ·rw [ltI_eq, decide_eq_true_eq] at hl
   rw [show Nat.blt 0 (lettersL s.data.toList) = true by rw [Nat.blt_eq]; omega, Bool.true_and]
   refine Ret.some ?_
   rw [leI_eq, Bool.eq_iff_iff.2 (by rw [decide_eq_true_eq, Nat.ble_eq]; omega : decide (((s.size : Nat) : Int) ≤ 4) = true ↔ Nat.ble s.size 4 = true)]
  ·rw [ltI_eq, decide_eq_false_iff_not] at hl
   rw [show Nat.blt 0 (lettersL s.data.toList) = false by rw [Bool.eq_false_iff, ne_eq, Nat.blt_eq]; omega]
   exact Ret.some rfl
theorem tail_ok (s : ByteArray) (hs : s.size ≤ 900000) : Ret (F_call_tail [.s s]) fun g => ∃ i a, g = [.i i, .s a, .t (tailC s)] := by
 unfold F_call_tail tailC
 (dsimp +instances only [Aa,Ab,Ac,Ad,Ae,Af,Ag])
 simp only [Lib.toList_data]
 have fin : ∀ (i : Int) (a : ByteArray) {b c : Bool}, b = c → Ret (some [G.i i, G.s a, G.t b]) fun g => ∃ i a, g = [.i i, .s a, .t c] := fun i a b c e => Ret.some ⟨i, a, by rw [e]⟩
 refine Ret.test (fun g1 => fin _ _ (by rw [g1]; rfl)) fun g1 => ?_
 refine Ret.test (fun g2 => fin _ _ (by rw [g2]; simp)) fun g2 => ?_
 refine Ret.test (fun g3 => fin _ _ (by rw [g3]; simp)) fun g3 => ?_
 refine Ret.test (fun g4 => fin _ _ (by rw [g4]; simp)) fun g4 => ?_
 rw [g1, g2, g3, g4]
 simp only [Bool.false_or]
 refine Ret.test (fun g5 => ?_) fun g5 => ?_
 ·have g5 : s.size = 1 := by simp only [beq_iff_eq] at g5; omega
  refine Ret.p ?_
  refine Ret.cE (isDigit_ok (s.data.toList.getD 0 0)) ?_
  rw [show Nat.beq s.size 1 = true by rw [g5]; rfl, Bool.true_and]
  refine Ret.test (fun g6 => ?_) fun g6 => ?_
  ·have g6 : isDb (s.data.toList.getD 0 0) = true := g6
   exact fin _ _ (by rw [g6]; rfl)
  ·have g6 : isDb (s.data.toList.getD 0 0) = false := g6
   refine Ret.cE (isBegin_ok s hs) ?_
   exact fin _ _ (by rw [g6]; rfl)
 ·have g5 : s.size ≠ 1 := by simp only [beq_eq_false_iff_ne, ne_eq] at g5; omega
  rw [show Nat.beq s.size 1 = false by rw [Bool.eq_false_iff, ne_eq, Nat.beq_eq]; exact g5, Bool.false_and, Bool.false_or]
  refine Ret.cE (isBegin_ok s hs) ?_
  exact fin _ _ rfl
/-! ### Cut at a stroke -/
def slB : ByteArray := ⟨#[47]⟩
def cutI (s : ByteArray) : Int := Lib.index s.data.toList [47]
def cutA (s : ByteArray) : ByteArray := if 0 ≤ cutI s then s.extract 0 (cutI s).toNat else s
def cutB (s : ByteArray) : ByteArray := if 0 ≤ cutI s then s.extract ((cutI s) + 1).toNat s.size else ⟨#[]⟩
theorem cutI_le (s : ByteArray) : 0 ≤ cutI s → cutI s < (s.size : Nat) := by
 intro h
 unfold cutI at *
 rw [Lib.index_one] at *
 obtain ⟨o, ho⟩ : ∃ o : Nat, Lib.indexByte s.data.toList 47 = o := ⟨(Lib.indexByte s.data.toList 47).toNat, by omega⟩
 have := (Lib.indexByte_some ho).1
 have := (List.getElem?_eq_some_iff.1 this).1
 rw [ho, Lib.size_eq]
 omega
theorem cut_ok (s : ByteArray) (hs : s.size ≤ 900000) : F_strings_Cut [.s s, .s slB] = some [.s (cutA s), .s (cutB s), .t (leI 0 (cutI s))] := by
 refine Ret.toEq ?_
 unfold F_strings_Cut
 (dsimp +instances only [Aa,Ab,Ac,Ad,Ae,Af,Ag])
 refine Ret.call (P := fun g => g = [.s (cutA s), .s (cutB s), .t (leI 0 (cutI s))]) ?_ ?_
 ·unfold F_stringslite_Cut
  (dsimp +instances only [Aa,Ab,Ac,Ad,Ae,Af,Ag])
  have hi : F_stringslite_Index [.s s, .s slB] = some [.i (cutI s)] := by
   refine Ret.toEq ?_
   unfold F_stringslite_Index idx1F
   (dsimp +instances only [Aa,Ab,Ac,Ad,Ae,Af,Ag])
   exact Ret.pos rfl (Ret.some rfl)
  refine Ret.cE hi ?_
  (dsimp +instances only [Aa,Ab,Ac,Ad,Ae,Af,Ag])
  have h1 : (slB.size : Nat) = 1 := rfl
  rw [h1]
  refine Ret.test (fun hc => ?_) fun hc => ?_
  ·have hc' : 0 ≤ cutI s := by rw [leI_eq, decide_eq_true_eq] at hc; exact hc
   have := cutI_le s hc'
   rw [hc]
   refine Ret.p (Ret.p (Ret.p (Ret.some ?_)))
   unfold cutA cutB
   rw [if_pos hc', if_pos hc']
   rfl
  ·have hc' : ¬ 0 ≤ cutI s := by rw [leI_eq, decide_eq_false_iff_not] at hc; exact hc
   rw [hc]
   refine Ret.some ?_
   unfold cutA cutB
   rw [if_neg hc', if_neg hc']
 ·rintro _ rfl
  exact Ret.some rfl
theorem cutA_le (s : ByteArray) : (cutA s).size ≤ s.size := by
 unfold cutA
 split
 ·rw [ByteArray.size_extract]; omega
 ·omega
theorem cutB_le (s : ByteArray) : (cutB s).size ≤ s.size := by
 unfold cutB
 split
 ·rw [ByteArray.size_extract]; omega
 ·exact Nat.zero_le _
theorem cutA_ascii {s : ByteArray} (h : asciiB s = true) : asciiB (cutA s) = true := by
 unfold cutA
 split
 ·exact ascii_front h _
 ·exact h
theorem cutB_ascii {s : ByteArray} (h : asciiB s = true) : asciiB (cutB s) = true := by
 unfold cutB
 split
 ·exact ascii_back h _
 ·rfl
theorem stroke_no {s : ByteArray} (h : 0 ≤ cutI s) : baseC s = false := baseC_f fun hb => by
 have hp := hb.1
 have hm : (47 : UInt8) ∉ s.data.toList := fun hm => by
  have := List.all_eq_true.1 hp _ hm
  revert this
  decide
 unfold cutI at h
 rw [Lib.index_one, indexByte_miss hm] at h
 omega
def isCallC (s : ByteArray) : Bool := Nat.ble s.size 14 && (baseC s || (leI 0 (cutI s) && ((baseC (cutB s) && beginC (cutA s)) || (baseC (cutA s) && tailC (cutB s)))))
theorem callIs_any (s : ByteArray) (h : asciiB s = true) (hs : s.size ≤ 900000) : F_call_Is [.s s] = some [.t (isCallC s)] := by
 refine Ret.toEq ?_
 unfold F_call_Is
 (dsimp +instances only [Aa,Ab,Ac,Ad,Ae,Af,Ag])
 refine Ret.call (P := fun g => ∃ row, g = [.l [row], .t (isCallC s)]) ?_ ?_
 ·unfold F_call_Parts isCallC
  (dsimp +instances only [Aa,Ab,Ac,Ad,Ae,Af,Ag])
  have fin : ∀ (row : List G) {b c : Bool}, b = c → Ret (some [G.l [row], G.t b]) fun g => ∃ row, g = [.l [row], .t c] := fun row b c e => Ret.some ⟨row, by rw [e]⟩
  refine Ret.test (fun g0 => ?_) fun g0 => ?_
  ·rw [ltI_eq, decide_eq_true_eq] at g0
   exact fin _ (by rw [show Nat.ble s.size 14 = false by rw [Bool.eq_false_iff, ne_eq, Nat.ble_eq]; omega]; rfl)
  rw [ltI_eq, decide_eq_false_iff_not] at g0
  rw [show Nat.ble s.size 14 = true by rw [Nat.ble_eq]; omega, Bool.true_and]
  refine Ret.call (based_ok s h hs) ?_
  rintro _ ⟨row, rfl⟩
  (dsimp +instances only [Aa,Ab,Ac,Ad,Ae,Af,Ag])
  refine Ret.test (fun g1 => fin _ (by rw [g1]; rfl)) fun g1 => ?_
  rw [g1, Bool.false_or]
  refine Ret.cE (cut_ok s hs) ?_
  (dsimp +instances only [Aa,Ab,Ac,Ad,Ae,Af,Ag])
  refine Ret.test (fun g2 => ?_) fun g2 => ?_
  ·have g2 : leI 0 (cutI s) = false := by simpa using g2
   exact fin _ (by rw [g2]; rfl)
  have g2 : leI 0 (cutI s) = true := by simpa using g2
  rw [g2, Bool.true_and]
  have hA := cutA_le s
  have hB := cutB_le s
  have aA := cutA_ascii h
  have aB := cutB_ascii h
  have rest : Ret (callF (F_call_based [G.s (cutA s)]) fun g7 => callF (F_call_tail [G.s (cutB s)]) fun g8 => bif !(gi g7 1).bool then some [G.l [[G.s (⟨#[]⟩ : ByteArray), G.s (⟨#[]⟩ : ByteArray), G.s (⟨#[]⟩ : ByteArray), G.i 0, G.s (⟨#[]⟩ : ByteArray)]], G.t false] else
    bif !(gi g8 2).bool then some [G.l [[G.s (⟨#[]⟩ : ByteArray), G.s (⟨#[]⟩ : ByteArray), G.s (⟨#[]⟩ : ByteArray), G.i 0, G.s (⟨#[]⟩ : ByteArray)]], G.t false] else some [G.l [[G.s (gi (gi g7 0).row 0).str, G.s (gi (gi g7 0).row 1).str, G.s (gi (gi g7 0).row 2).str, G.i (gi g8 0).int, G.s (gi g8 1).str]], G.t true])
    fun g => ∃ row, g = [G.l [row], G.t (baseC (cutA s) && tailC (cutB s))] := by
   refine Ret.call (based_ok _ aA (by omega)) ?_
   rintro _ ⟨row, rfl⟩
   refine Ret.call (tail_ok _ (by omega)) ?_
   rintro _ ⟨i, a, rfl⟩
   (dsimp +instances only [Aa,Ab,Ac,Ad,Ae,Af,Ag])
   refine Ret.test (fun g3 => ?_) fun g3 => ?_
   ·have g3 : baseC (cutA s) = false := by simpa using g3
    exact fin _ (by rw [g3]; rfl)
   have g3 : baseC (cutA s) = true := by simpa using g3
   rw [g3, Bool.true_and]
   refine Ret.test (fun g4 => ?_) fun g4 => ?_
   ·have g4 : tailC (cutB s) = false := by simpa using g4
    exact fin _ (by rw [g4])
   ·have g4 : tailC (cutB s) = true := by simpa using g4
    exact fin _ (by rw [g4])
  refine Ret.call (based_ok _ aB (by omega)) ?_
  rintro _ ⟨row, rfl⟩
  (dsimp +instances only [Aa,Ab,Ac,Ad,Ae,Af,Ag])
  refine Ret.test (fun g3 => ?_) fun g3 => ?_
  ·rw [g3, Bool.true_and]
   refine Ret.cE (isBegin_ok (cutA s) (by omega)) ?_
   refine Ret.test (fun g4 => ?_) fun g4 => ?_
   ·have g4 : beginC (cutA s) = true := g4
    exact fin _ (by rw [g4]; rfl)
   ·have g4 : beginC (cutA s) = false := g4
    rw [g4, Bool.false_or]
    exact rest
  ·rw [g3, Bool.false_and, Bool.false_or]
   exact rest
 ·rintro _ ⟨row, rfl⟩
  exact Ret.some rfl
def smaB : ByteArray := ⟨#[97, 98, 99, 100, 101, 102, 103, 104, 105, 106, 107, 108, 109, 110, 111, 112, 113, 114, 115, 116, 117, 118, 119, 120, 121, 122]⟩
def smdB : ByteArray := ⟨#[97, 98, 99, 100, 101, 102, 103, 104, 105, 106, 107, 108, 109, 110, 111, 112, 113, 114, 115, 116, 117, 118, 119, 120, 121, 122, 48, 49, 50, 51, 52, 53, 54, 55, 56, 57]⟩
theorem all_bytes (p : UInt8 → Bool) (h : ((List.range 256).all fun n => p (UInt8.ofNat n)) = true) (b : UInt8) : p b = true := by
 have := List.all_eq_true.1 h b.toNat (List.mem_range.2 (UInt8.toNat_lt b))
 rwa [UInt8.ofNat_toNat] at this
theorem sma_has (b : UInt8) : smaB.data.toList.contains b = isLb b := by
 have := all_bytes (fun b => smaB.data.toList.contains b == isLb b) (by kernel_rfl) b
 simpa using this
theorem smd_has (b : UInt8) : smdB.data.toList.contains b = (isLb b || isDb b) := by
 have := all_bytes (fun b => smdB.data.toList.contains b == (isLb b || isDb b)) (by kernel_rfl) b
 simpa using this
theorem dig_has (b : UInt8) : digB.data.toList.contains b = isDb b := by
 have := all_bytes (fun b => digB.data.toList.contains b == isDb b) (by kernel_rfl) b
 simpa using this
theorem dw_nil {p : UInt8 → Bool} : ∀ {l : List UInt8}, l.dropWhile p = [] → ∀ b ∈ l, p b = true
 | [], _, b, hb => by cases hb
 | x :: l, h, b, hb => by
  rw [List.dropWhile_cons] at h
  split at h
  ·rename_i hx
   rcases List.mem_cons.1 hb with rfl | hb
   ·exact hx
   ·exact dw_nil h b hb
  ·cases h
theorem trimS_nil {l cs : List UInt8} : Lib.trimS l cs = [] ↔ ∀ b ∈ l, cs.contains b = true := by
 refine ⟨fun h => ?_, trimS_all⟩
 unfold Lib.trimS Lib.trimLeftS at h
 have h1 : ∀ b ∈ Lib.trimRightS l cs, cs.contains b = true := dw_nil h
 unfold Lib.trimRightS at h1
 cases hd : l.reverse.dropWhile (cs.contains ·) with
 | nil => exact fun b hb => dw_nil hd b (List.mem_reverse.2 hb)
 | cons x r =>
  have hx := h1 x (by rw [hd]; simp)
  have := List.head_dropWhile_not (p := (cs.contains ·)) (l := l.reverse) (by rw [hd]; simp)
  simp only [hd, List.head_cons] at this
  rw [hx] at this
  cases this
theorem any_iff (cs : List UInt8) : ∀ l : List UInt8, Lib.containsAny l cs = l.any (cs.contains ·)
 | [] => rfl
 | b :: l => by
  have ih := any_iff cs l
  have hge := Lib.indexAny_ge cs l
  unfold Lib.containsAny at ih ⊢
  unfold Lib.indexAny
  rw [List.any_cons, ← ih]
  cases hc : cs.contains b with
  | true => simp
  | false =>
   rw [if_neg (by simp)]
   by_cases h0 : Lib.indexAny l cs = -1
   ·rw [h0]; simp
   ·rw [if_neg (by simpa using h0)]
    simp only [Bool.false_or]
    exact decide_eq_decide.2 ⟨fun _ => by omega, fun _ => by omega⟩
theorem any_letters (l : List UInt8) : l.any isLb = Nat.blt 0 (lettersL l) := by
 rw [Bool.eq_iff_iff, List.any_eq_true, Nat.blt_eq]
 unfold lettersL
 rw [List.length_pos_iff_exists_mem]
 simp only [List.mem_filter]
theorem in_ok (a u v : Int) : F_r1_in [.i a, .i u, .i v] = some [.t (leI u a && leI a v)] := by
 refine Ret.toEq ?_
 unfold F_r1_in
 (dsimp +instances only [Aa,Ab,Ac,Ad,Ae,Af,Ag])
 exact Ret.test (fun h => Ret.some (by rw [h, Bool.true_and])) fun h => Ret.some (by rw [h, Bool.false_and])
theorem hasAny_ok (s : ByteArray) (h : asciiB s = true) (hs : s.size ≤ 900000) : F_strings_ContainsAny [.s s, .s smaB] = some [.t (Nat.blt 0 (lettersL s.data.toList))] := by
 refine Ret.toEq ?_
 unfold F_strings_ContainsAny any1F
 (dsimp +instances only [Aa,Ab,Ac,Ad,Ae,Af,Ag])
 refine Ret.pos ?_ (Ret.some ?_)
 ·rw [h, Bool.true_and, Bool.and_eq_true, Bool.and_eq_true]
  exact ⟨rfl, by rw [Nat.blt_eq]; omega, rfl⟩
 ·rw [any_iff, ← any_letters]
  congr 3
  funext b
  exact sma_has b
theorem trimP_ok (s : ByteArray) (h0 : 0 < s.size) (hs : s.size ≤ 900000) : Ret (F_strings_Trim [.s s, .s smdB]) fun g => ∃ t, g = [.s t] ∧ (t.toList == (⟨#[]⟩ : ByteArray).toList) = plainL s.data.toList := by
 unfold F_strings_Trim
 (dsimp +instances only [Aa,Ab,Ac,Ad,Ae,Af,Ag])
 refine Ret.pos ?_ (Ret.some ⟨_, rfl, ?_⟩)
 ·simp only [Bool.and_eq_true, Nat.ble_eq, Nat.blt_eq]
  exact ⟨by rfl, by decide, by decide, by omega, by omega⟩
 ·have e : (trimB s smdB).toList = Lib.trimS s.data.toList smdB.data.toList := by rw [Lib.toList_data]; simp [trimB]
  rw [e, Lib.toList_data, Bool.eq_iff_iff, beq_iff_eq]
  show Lib.trimS s.data.toList smdB.data.toList = [] ↔ _
  rw [trimS_nil]
  unfold plainL
  rw [List.all_eq_true]
  exact ⟨fun h b hb => by rw [← smd_has]; exact h b hb, fun h b hb => by rw [smd_has]; exact h b hb⟩
theorem plain_ok (s : ByteArray) (h : asciiB s = true) (hs : s.size ≤ 900000) (lo hi : Int) (hlo : 1 ≤ lo) : F_r1_plain [.s s, .i lo, .i hi] = some [.t ((leI lo ((s.size : Nat) : Int) && leI ((s.size : Nat) : Int) hi) && (plainL s.data.toList && Nat.blt 0 (lettersL s.data.toList)))] := by
 refine Ret.toEq ?_
 unfold F_r1_plain
 (dsimp +instances only [Aa,Ab,Ac,Ad,Ae,Af,Ag])
 refine Ret.cE (in_ok _ _ _) ?_
 (dsimp +instances only [Aa,Ab,Ac,Ad,Ae,Af,Ag])
 refine Ret.test (fun g1 => ?_) fun g1 => Ret.some (by rw [g1, Bool.false_and])
 rw [g1, Bool.true_and]
 rw [Bool.and_eq_true, leI_eq, decide_eq_true_eq] at g1
 refine Ret.call (trimP_ok s (by omega) hs) ?_
 rintro _ ⟨t, rfl, ht⟩
 (dsimp +instances only [Aa,Ab,Ac,Ad,Ae,Af,Ag])
 rw [ht]
 refine Ret.test (fun g2 => ?_) fun g2 => Ret.some (by rw [g2, Bool.false_and])
 rw [g2, Bool.true_and]
 refine Ret.cE (hasAny_ok s h hs) ?_
 exact Ret.some rfl
theorem begin_ok (s : ByteArray) (h : asciiB s = true) (hs : s.size ≤ 900000) : F_r1_begin [.s s] = some [.t (beginC s)] := by
 refine Ret.toEq ?_
 unfold F_r1_begin
 (dsimp +instances only [Aa,Ab,Ac,Ad,Ae,Af,Ag])
 refine Ret.cE (plain_ok s h hs 1 4 (by omega)) ?_
 have e : ((leI 1 ((s.size : Nat) : Int) && leI ((s.size : Nat) : Int) 4) && (plainL s.data.toList && Nat.blt 0 (lettersL s.data.toList))) = beginC s := by
  unfold beginC
  have hl := letters_le s.data.toList
  have hz := Lib.size_eq s
  rw [Bool.eq_iff_iff]
  simp only [Bool.and_eq_true, leI_eq, decide_eq_true_eq, Nat.blt_eq, Nat.ble_eq]
  constructor
  ·rintro ⟨⟨a, b⟩, c, d⟩
   exact ⟨c, d, by omega⟩
  ·rintro ⟨a, b, c⟩
   exact ⟨⟨by omega, by omega⟩, a, b⟩
 (dsimp +instances only [Aa,Ab,Ac,Ad,Ae,Af,Ag])
 rw [e]
 exact Ret.some rfl
theorem letters_take (l : List UInt8) (i : Nat) : lettersL (l.take i) ≤ lettersL l := (List.Sublist.filter isLb (List.take_sublist i l)).length_le
theorem baseAt_ok (s : ByteArray) (h : asciiB s = true) (hs : s.size ≤ 900000) : Ret (F_r1_baseAt [.s s]) fun g => ∃ i, g = [.i i] ∧ ltI i 0 = !baseC s ∧ leI 0 i = baseC s ∧ (baseC s = true → i = lastK s) := by
 obtain ⟨k1, k2, k3⟩ := lastK_eq h hs
 have no : ¬ baseP s → ∃ i, [G.i (-1)] = [G.i i] ∧ ltI i 0 = !baseC s ∧ leI 0 i = baseC s ∧ (baseC s = true → i = lastK s) := fun hn => ⟨-1, rfl, by rw [baseC_f hn]; rfl, by rw [baseC_f hn]; rfl, fun hb => (hn (baseC_iff.1 hb)).elim⟩
 unfold F_r1_baseAt
 (dsimp +instances only [Aa,Ab,Ac,Ad,Ae,Af,Ag])
 refine Ret.cE k1 ?_
 refine Ret.cE (plain_ok s h hs 3 10 (by omega)) ?_
 (dsimp +instances only [Aa,Ab,Ac,Ad,Ae,Af,Ag])
 refine Ret.test (fun g1 => Ret.some (no fun hb => ?_)) fun g1 => ?_
 ·have hlt := letters_take s.data.toList (lastK s).toNat
  have : ((leI 3 ((s.size : Nat) : Int) && leI ((s.size : Nat) : Int) 10) && (plainL s.data.toList && Nat.blt 0 (lettersL s.data.toList))) = true := by
   simp only [Bool.and_eq_true, leI_eq, decide_eq_true_eq, Nat.blt_eq]
   obtain ⟨b1, b2, b3, b4, b5, b6, b7⟩ := hb
   exact ⟨⟨by omega, by omega⟩, b1, by omega⟩
  rw [this] at g1
  cases g1
 have g1 : ((leI 3 ((s.size : Nat) : Int) && leI ((s.size : Nat) : Int) 10) && (plainL s.data.toList && Nat.blt 0 (lettersL s.data.toList))) = true := by simpa using g1
 simp only [Bool.and_eq_true, leI_eq, decide_eq_true_eq] at g1
 obtain ⟨⟨s1, s2⟩, hp, _⟩ := g1
 refine Ret.cE (in_ok _ _ _) ?_
 (dsimp +instances only [Aa,Ab,Ac,Ad,Ae,Af,Ag])
 refine Ret.test (fun g2 => Ret.some (no fun hb => ?_)) fun g2 => ?_
 ·have : (leI 1 (lastK s) && leI (lastK s) 3) = true := by
   simp only [Bool.and_eq_true, leI_eq, decide_eq_true_eq]
   exact ⟨hb.2.2.1, hb.2.2.2.1⟩
  rw [this] at g2
  cases g2
 have g2 : (leI 1 (lastK s) && leI (lastK s) 3) = true := by simpa using g2
 simp only [Bool.and_eq_true, leI_eq, decide_eq_true_eq] at g2
 refine Ret.p (Ret.p ?_)
 refine Ret.cE (in_ok _ _ _) ?_
 (dsimp +instances only [Aa,Ab,Ac,Ad,Ae,Af,Ag])
 refine Ret.test (fun g3 => Ret.some (no fun hb => ?_)) fun g3 => ?_
 ·have : (leI 1 (((s.size : Nat) : Int) - 1 - lastK s) && leI (((s.size : Nat) : Int) - 1 - lastK s) 4) = true := by
   simp only [Bool.and_eq_true, leI_eq, decide_eq_true_eq]
   have := hb.2.2.2.2.1
   have := hb.2.2.2.2.2.1
   omega
  rw [this] at g3
  cases g3
 have g3 : (leI 1 (((s.size : Nat) : Int) - 1 - lastK s) && leI (((s.size : Nat) : Int) - 1 - lastK s) 4) = true := by simpa using g3
 simp only [Bool.and_eq_true, leI_eq, decide_eq_true_eq] at g3
 refine Ret.p ?_
 have hz : (s.extract 0 (lastK s).toNat).size ≤ 900000 := by rw [ByteArray.size_extract]; omega
 refine Ret.cE (hasAny_ok _ (ascii_front h _) hz) ?_
 (dsimp +instances only [Aa,Ab,Ac,Ad,Ae,Af,Ag])
 have ed : (s.extract 0 (lastK s).toNat).data.toList = s.data.toList.take (lastK s).toNat := by rw [Lib.extract_data]; simp
 rw [ed]
 refine Ret.test (fun g4 => Ret.some (no fun hb => ?_)) fun g4 => ?_
 ·rw [show Nat.blt 0 (lettersL (s.data.toList.take (lastK s).toNat)) = true by rw [Nat.blt_eq]; exact hb.2.2.2.2.2.2] at g4
  cases g4
 ·have g4 : Nat.blt 0 (lettersL (s.data.toList.take (lastK s).toNat)) = true := by simpa using g4
  rw [Nat.blt_eq] at g4
  have hb : baseC s = true := baseC_t ⟨hp, by omega, by omega, by omega, by omega, by omega, g4⟩
  refine Ret.some ⟨lastK s, rfl, ?_, ?_, fun _ => rfl⟩
  ·rw [hb, ltI_eq, decide_eq_false (by omega)]
   rfl
  ·rw [hb, leI_eq, decide_eq_true (by omega)]
theorem partsBase_ok (s : ByteArray) (h : asciiB s = true) (hs : s.size ≤ 900000) (hb : baseC s = true) : Ret (F_r1_PartsOf_1 [.s s]) fun g => ∃ row, g = [.l [row]] := by
 obtain ⟨_, k2, k3⟩ := lastK_eq h hs
 unfold F_r1_PartsOf_1
 (dsimp +instances only [Aa,Ab,Ac,Ad,Ae,Af,Ag])
 refine Ret.call (baseAt_ok s h hs) ?_
 rintro _ ⟨i, rfl, _, _, hi⟩
 (dsimp +instances only [Aa,Ab,Ac,Ad,Ae,Af,Ag])
 rw [hi hb]
 exact Ret.p (Ret.p (Ret.p (Ret.p (Ret.some ⟨_, rfl⟩))))
theorem contDig_ok (s : ByteArray) (h : s.size = 1) : F_strings_Contains [.s digB, .s s] = some [.t (isDb (s.data.toList.getD 0 0))] := by
 obtain ⟨c, rfl⟩ := Lib.one_byte s h
 refine Ret.toEq ?_
 unfold F_strings_Contains has1F
 (dsimp +instances only [Aa,Ab,Ac,Ad,Ae,Af,Ag])
 refine Ret.pos rfl (Ret.some ?_)
 show [G.t (leI 0 (Lib.index digB.data.toList [c]))] = [G.t (isDb c)]
 have := all_bytes (fun c => leI 0 (Lib.index digB.data.toList [c]) == isDb c) (by kernel_rfl) c
 rw [show leI 0 (Lib.index digB.data.toList [c]) = isDb c by simpa using this]
theorem callRef_any (s : ByteArray) (h : asciiB s = true) (hs : s.size ≤ 900000) : F_r2_Call [.s s] = some [.t (isCallC s)] := by
 refine Ret.toEq ?_
 unfold F_r2_Call
 (dsimp +instances only [Aa,Ab,Ac,Ad,Ae,Af,Ag])
 refine Ret.call (P := fun g => ∃ row, g = [.l [row], .t (isCallC s)]) ?_ ?_
 rotate_left
 ·rintro _ ⟨row, rfl⟩
  exact Ret.some rfl
 have fin : ∀ (row : List G) {b c : Bool}, b = c → Ret (some [G.l [row], G.t b]) fun g => ∃ row, g = [.l [row], .t c] := fun row b c e => Ret.some ⟨row, by rw [e]⟩
 have hA := cutA_le s
 have hB := cutB_le s
 have aA := cutA_ascii h
 have aB := cutB_ascii h
 unfold F_r1_PartsOf isCallC
 (dsimp +instances only [Aa,Ab,Ac,Ad,Ae,Af,Ag])
 refine Ret.cE (cut_ok s hs) ?_
 (dsimp +instances only [Aa,Ab,Ac,Ad,Ae,Af,Ag])
 refine Ret.test (fun g0 => ?_) fun g0 => ?_
 ·rw [ltI_eq, decide_eq_true_eq] at g0
  exact fin _ (by rw [show Nat.ble s.size 14 = false by rw [Bool.eq_false_iff, ne_eq, Nat.ble_eq]; omega]; rfl)
 rw [ltI_eq, decide_eq_false_iff_not] at g0
 rw [show Nat.ble s.size 14 = true by rw [Nat.ble_eq]; omega, Bool.true_and]
 refine Ret.test (fun g1 => ?_) fun g1 => ?_
 ·have g1 : leI 0 (cutI s) = false := by simpa using g1
  have hc : ¬ 0 ≤ cutI s := by rw [leI_eq, decide_eq_false_iff_not] at g1; exact g1
  have ea : cutA s = s := by unfold cutA; rw [if_neg hc]
  rw [g1, Bool.false_and, Bool.or_false, ea]
  refine Ret.call (baseAt_ok s h hs) ?_
  rintro _ ⟨i, rfl, e1, _, _⟩
  (dsimp +instances only [Aa,Ab,Ac,Ad,Ae,Af,Ag])
  rw [e1]
  refine Ret.test (fun g2 => ?_) fun g2 => ?_
  ·have g2 : baseC s = false := by simpa using g2
   exact fin _ (by rw [g2])
  ·have g2 : baseC s = true := by simpa using g2
   refine Ret.call (partsBase_ok s h hs g2) ?_
   rintro _ ⟨row, rfl⟩
   exact fin _ (by rw [g2])
 have g1 : leI 0 (cutI s) = true := by simpa using g1
 have hc : 0 ≤ cutI s := by rw [leI_eq, decide_eq_true_eq] at g1; exact g1
 rw [stroke_no hc, g1, Bool.false_or, Bool.true_and]
 refine Ret.call (baseAt_ok (cutB s) aB (by omega)) ?_
 rintro _ ⟨i, rfl, _, e2, _⟩
 (dsimp +instances only [Aa,Ab,Ac,Ad,Ae,Af,Ag])
 rw [e2]
 refine Ret.test (fun g2 => ?_) fun g2 => ?_
 ·rw [g2, Bool.true_and]
  refine Ret.cE (begin_ok (cutA s) aA (by omega)) ?_
  (dsimp +instances only [Aa,Ab,Ac,Ad,Ae,Af,Ag])
  refine Ret.test (fun g3 => ?_) fun g3 => ?_
  ·refine Ret.call (partsBase_ok (cutB s) aB (by omega) g2) ?_
   rintro _ ⟨row, rfl⟩
   exact fin _ (by rw [g3]; rfl)
  rw [g3, Bool.false_or]
  refine Ret.call (baseAt_ok (cutA s) aA (by omega)) ?_
  rintro _ ⟨i', rfl, e3, _, _⟩
  (dsimp +instances only [Aa,Ab,Ac,Ad,Ae,Af,Ag])
  rw [e3]
  refine Ret.test (fun g4 => ?_) fun g4 => ?_
  ·have g4 : baseC (cutA s) = false := by simpa using g4
   exact fin _ (by rw [g4]; rfl)
  have hbA : baseC (cutA s) = true := by simpa using g4
  rw [hbA, Bool.true_and]
  refine Ret.call (partsBase_ok (cutA s) aA (by omega) hbA) ?_
  rintro _ ⟨row, rfl⟩
  (dsimp +instances only [Aa,Ab,Ac,Ad,Ae,Af,Ag])
  simp only [Lib.toList_data]
  refine Ret.test (fun c1 => fin _ (by unfold tailC; rw [show ((cutB s).data.toList == [112]) = true from c1]; rfl)) fun c1 => ?_
  refine Ret.test (fun c2 => fin _ (by unfold tailC; rw [show ((cutB s).data.toList == [109]) = true from c2]; simp)) fun c2 => ?_
  refine Ret.test (fun c3 => fin _ (by unfold tailC; rw [show ((cutB s).data.toList == [109, 109]) = true from c3]; simp)) fun c3 => ?_
  refine Ret.test (fun c4 => fin _ (by unfold tailC; rw [show ((cutB s).data.toList == [97, 109]) = true from c4]; simp)) fun c4 => ?_
  have et : tailC (cutB s) = ((Nat.beq (cutB s).size 1 && isDb ((cutB s).data.toList.getD 0 0)) || beginC (cutB s)) := by
   unfold tailC
   rw [show ((cutB s).data.toList == [112]) = false from c1, show ((cutB s).data.toList == [109]) = false from c2, show ((cutB s).data.toList == [109, 109]) = false from c3, show ((cutB s).data.toList == [97, 109]) = false from c4]
   simp only [Bool.false_or]
  rw [et]
  refine Ret.test (fun c5 => ?_) fun c5 => ?_
  ·have c5 : (cutB s).size = 1 := by simp only [beq_iff_eq] at c5; omega
   rw [show Nat.beq (cutB s).size 1 = true by rw [c5]; rfl, Bool.true_and]
   refine Ret.cE (contDig_ok (cutB s) c5) ?_
   (dsimp +instances only [Aa,Ab,Ac,Ad,Ae,Af,Ag])
   refine Ret.test (fun c6 => fin _ (by rw [c6]; rfl)) fun c6 => ?_
   rw [c6, Bool.false_or]
   refine Ret.cE (begin_ok (cutB s) aB (by omega)) ?_
   (dsimp +instances only [Aa,Ab,Ac,Ad,Ae,Af,Ag])
   exact Ret.test (fun c7 => fin _ (by rw [c7])) fun c7 => fin _ (by rw [c7])
  ·have c5 : (cutB s).size ≠ 1 := by simp only [beq_eq_false_iff_ne, ne_eq] at c5; omega
   rw [show Nat.beq (cutB s).size 1 = false by rw [Bool.eq_false_iff, ne_eq, Nat.beq_eq]; exact c5, Bool.false_and, Bool.false_or]
   refine Ret.cE (begin_ok (cutB s) aB (by omega)) ?_
   (dsimp +instances only [Aa,Ab,Ac,Ad,Ae,Af,Ag])
   exact Ret.test (fun c7 => fin _ (by rw [c7])) fun c7 => fin _ (by rw [c7])
 ·rw [g2, Bool.false_and, Bool.false_or]
  refine Ret.call (baseAt_ok (cutA s) aA (by omega)) ?_
  rintro _ ⟨i', rfl, e3, _, _⟩
  (dsimp +instances only [Aa,Ab,Ac,Ad,Ae,Af,Ag])
  rw [e3]
  refine Ret.test (fun g4 => ?_) fun g4 => ?_
  ·have g4 : baseC (cutA s) = false := by simpa using g4
   exact fin _ (by rw [g4]; rfl)
  have hbA : baseC (cutA s) = true := by simpa using g4
  rw [hbA, Bool.true_and]
  refine Ret.call (partsBase_ok (cutA s) aA (by omega) hbA) ?_
  rintro _ ⟨row, rfl⟩
  (dsimp +instances only [Aa,Ab,Ac,Ad,Ae,Af,Ag])
  simp only [Lib.toList_data]
  refine Ret.test (fun c1 => fin _ (by unfold tailC; rw [show ((cutB s).data.toList == [112]) = true from c1]; rfl)) fun c1 => ?_
  refine Ret.test (fun c2 => fin _ (by unfold tailC; rw [show ((cutB s).data.toList == [109]) = true from c2]; simp)) fun c2 => ?_
  refine Ret.test (fun c3 => fin _ (by unfold tailC; rw [show ((cutB s).data.toList == [109, 109]) = true from c3]; simp)) fun c3 => ?_
  refine Ret.test (fun c4 => fin _ (by unfold tailC; rw [show ((cutB s).data.toList == [97, 109]) = true from c4]; simp)) fun c4 => ?_
  have et : tailC (cutB s) = ((Nat.beq (cutB s).size 1 && isDb ((cutB s).data.toList.getD 0 0)) || beginC (cutB s)) := by
   unfold tailC
   rw [show ((cutB s).data.toList == [112]) = false from c1, show ((cutB s).data.toList == [109]) = false from c2, show ((cutB s).data.toList == [109, 109]) = false from c3, show ((cutB s).data.toList == [97, 109]) = false from c4]
   simp only [Bool.false_or]
  rw [et]
  refine Ret.test (fun c5 => ?_) fun c5 => ?_
  ·have c5 : (cutB s).size = 1 := by simp only [beq_iff_eq] at c5; omega
   rw [show Nat.beq (cutB s).size 1 = true by rw [c5]; rfl, Bool.true_and]
   refine Ret.cE (contDig_ok (cutB s) c5) ?_
   (dsimp +instances only [Aa,Ab,Ac,Ad,Ae,Af,Ag])
   refine Ret.test (fun c6 => fin _ (by rw [c6]; rfl)) fun c6 => ?_
   rw [c6, Bool.false_or]
   refine Ret.cE (begin_ok (cutB s) aB (by omega)) ?_
   (dsimp +instances only [Aa,Ab,Ac,Ad,Ae,Af,Ag])
   exact Ret.test (fun c7 => fin _ (by rw [c7])) fun c7 => fin _ (by rw [c7])
  ·have c5 : (cutB s).size ≠ 1 := by simp only [beq_eq_false_iff_ne, ne_eq] at c5; omega
   rw [show Nat.beq (cutB s).size 1 = false by rw [Bool.eq_false_iff, ne_eq, Nat.beq_eq]; exact c5, Bool.false_and, Bool.false_or]
   refine Ret.cE (begin_ok (cutB s) aB (by omega)) ?_
   (dsimp +instances only [Aa,Ab,Ac,Ad,Ae,Af,Ag])
   exact Ret.test (fun c7 => fin _ (by rw [c7])) fun c7 => fin _ (by rw [c7])
theorem splitAny (s : ByteArray) (c : UInt8) (hs : s.size ≤ 900000) : F_strings_Split [.s s, .s (⟨#[c]⟩ : ByteArray)] = some [.l ((piecesL c s.data.toList).map fun y => [G.s (byL y)])] := by
 have hj := pieces_join c s.data.toList
 have hf := pieces_free c s.data.toList
 cases hp : piecesL c s.data.toList with
 | nil => exact (pieces_ne c _ hp).elim
 | cons x xs =>
  rw [hp] at hj hf
  have := splitLib c x xs hf (by rw [hj, ← Lib.size_eq]; omega)
  rw [hj, byL_of] at this
  exact this
/-! ### Numbers -/
theorem isDig_eq (b : UInt8) : isDig b = isDb b := rfl
theorem digTrim (s : ByteArray) (h0 : 0 < s.size) (hs : s.size ≤ 900000) : Ret (F_strings_Trim [.s s, .s digB]) fun g => ∃ t, g = [.s t] ∧ (t.toList == (⟨#[]⟩ : ByteArray).toList) = s.data.toList.all isDig := by
 unfold F_strings_Trim
 (dsimp +instances only [Aa,Ab,Ac,Ad,Ae,Af,Ag])
 refine Ret.pos ?_ (Ret.some ⟨_, rfl, ?_⟩)
 ·simp only [Bool.and_eq_true, Nat.ble_eq, Nat.blt_eq]
  exact ⟨by rfl, by decide, by decide, by omega, by omega⟩
 ·have e : (trimB s digB).toList = Lib.trimS s.data.toList digB.data.toList := by rw [Lib.toList_data]; simp [trimB]
  rw [e, Lib.toList_data, Bool.eq_iff_iff, beq_iff_eq]
  show Lib.trimS s.data.toList digB.data.toList = [] ↔ _
  rw [trimS_nil, List.all_eq_true]
  exact ⟨fun h b hb => by rw [isDig_eq, ← dig_has]; exact h b hb, fun h b hb => by rw [dig_has, ← isDig_eq]; exact h b hb⟩
def negW (l : List UInt8) : Bool := match l with | 45 :: _ => true | _ => false
def absW (l : List UInt8) : List UInt8 := match l with | 45 :: t => t | t => t
theorem num_eq (most : Nat) (l : List UInt8) : numL most l = if absW l ≠ [] ∧ (absW l).length ≤ most ∧ (absW l).all isDig = true ∧ ((absW l).head? ≠ some 48 ∨ (absW l = [48] ∧ negW l = false)) then some (bif negW l then -(valL (absW l) : Int) else (valL (absW l) : Int)) else none := by
 unfold numL
 split
 ·rename_i t
  have e1 : absW (45 :: t) = t := rfl
  have e2 : negW (45 :: t) = true := rfl
  rw [e1, e2]
  simp
 ·rename_i h
  have e1 : absW l = l := by
   unfold absW
   split
   ·exact (h _ rfl).elim
   ·rfl
  have e2 : negW l = false := by
   unfold negW
   split
   ·exact (h _ rfl).elim
   ·rfl
  rw [e1, e2]
  simp
theorem abs_le (l : List UInt8) : (absW l).length ≤ l.length := by
 unfold absW
 split
 ·simp
 ·exact Nat.le_refl _
theorem hasMinus (s : ByteArray) (hs : s.size ≤ 900000) : F_stringslite_HasPrefix [.s s, .s (⟨#[45]⟩ : ByteArray)] = some [.t (negW s.data.toList)] := by
 refine Ret.toEq ?_
 unfold F_stringslite_HasPrefix
 (dsimp +instances only [Aa,Ab,Ac,Ad,Ae,Af,Ag])
 have h1 : (⟨#[45]⟩ : ByteArray).size = 1 := rfl
 have hz := Lib.size_eq s
 rw [h1]
 cases hl : s.data.toList with
 | nil =>
  rw [hl] at hz
  simp only [List.length_nil] at hz
  refine Ret.neg (by rw [leI_eq, decide_eq_false_iff_not]; omega) (Ret.some ?_)
  rfl
 | cons b r =>
  rw [hl] at hz
  simp only [List.length_cons] at hz
  refine Ret.pos (by rw [leI_eq, decide_eq_true_eq]; omega) (Ret.pos (by rw [Bool.and_eq_true, nnI_eq, leI_eq, decide_eq_true_eq, decide_eq_true_eq]; omega) (Ret.some ?_))
  rw [Lib.toList_data, Lib.extract_data, Lib.toList_data, hl]
  show [G.t ([b] == [45])] = [G.t (negW (b :: r))]
  by_cases hb : b = 45
  ·subst hb
   rfl
  ·have e2 : negW (b :: r) = false := by
    unfold negW
    split
    ·rename_i h
     cases h
     exact (hb rfl).elim
    ·rfl
   rw [e2, show ([b] == [45]) = false by simpa using hb]
theorem absB (s : ByteArray) : (bif negW s.data.toList then s.extract 1 s.size else s) = byL (absW s.data.toList) := by
 cases hl : s.data.toList with
 | nil =>
  show s = byL []
  rw [← byL_of s, hl]
 | cons b r =>
  by_cases hb : b = 45
  ·subst hb
   show s.extract 1 s.size = byL r
   refine byL_inj ?_
   rw [Lib.extract_to_end, hl, byL_data]
   rfl
  ·have e1 : absW (b :: r) = b :: r := by
    unfold absW
    split
    ·rename_i h
     cases h
     exact (hb rfl).elim
    ·rfl
   have e2 : negW (b :: r) = false := by
    unfold negW
    split
    ·rename_i h
     cases h
     exact (hb rfl).elim
    ·rfl
   rw [e1, e2, ← hl, byL_of]
   rfl
theorem cutMinusAny (s : ByteArray) (hs : s.size ≤ 900000) : F_strings_CutPrefix [.s s, .s (⟨#[45]⟩ : ByteArray)] = some [.s (byL (absW s.data.toList)), .t (negW s.data.toList)] := by
 refine Ret.toEq ?_
 unfold F_strings_CutPrefix
 (dsimp +instances only [Aa,Ab,Ac,Ad,Ae,Af,Ag])
 refine Ret.call (P := fun g => g = [.s (byL (absW s.data.toList)), .t (negW s.data.toList)]) ?_ ?_
 ·unfold F_stringslite_CutPrefix
  (dsimp +instances only [Aa,Ab,Ac,Ad,Ae,Af,Ag])
  refine Ret.cE (hasMinus s hs) ?_
  (dsimp +instances only [Aa,Ab,Ac,Ad,Ae,Af,Ag])
  have h1 : (⟨#[45]⟩ : ByteArray).size = 1 := rfl
  rw [h1]
  have ha := absB s
  cases hn : negW s.data.toList with
  | false =>
   rw [hn] at ha
   refine Ret.pos rfl (Ret.some ?_)
   rw [← ha]
   rfl
  | true =>
   rw [hn] at ha
   have hz := Lib.size_eq s
   have h2 : 0 < s.size := by
    cases hl : s.data.toList with
    | nil => rw [hl] at hn; cases hn
    | cons b r => rw [hl] at hz; simp only [List.length_cons] at hz; omega
   refine Ret.neg rfl (Ret.pos (by rw [Bool.and_eq_true, nnI_eq, leI_eq, decide_eq_true_eq, decide_eq_true_eq]; omega) (Ret.some ?_))
   rw [← ha]
   rfl
 ·rintro _ rfl
  exact Ret.some rfl
theorem numKit (s : ByteArray) (hs : s.size ≤ 900000) : Ret (F_kit_Number [.s s, .i 15]) fun g => ∃ n, g = [.i n, .t (numL 15 s.data.toList).isSome] ∧ ∀ v, numL 15 s.data.toList = some v → n = v := by
 have hal := abs_le s.data.toList
 have hz := Lib.size_eq s
 rw [num_eq]
 generalize hn : negW s.data.toList = neg
 generalize ht : absW s.data.toList = t at hal
 have no : ∀ {p : Prop} [Decidable p] (v : Int), ¬ p → Ret (some [G.i 0, G.t false]) fun g => ∃ n, g = [.i n, .t (if p then some v else none).isSome] ∧ ∀ w, (if p then some v else none) = some w → n = w := fun v hp => by
  rw [if_neg hp]
  exact Ret.some ⟨0, rfl, fun w hw => by cases hw⟩
 have ct := cutMinusAny s hs
 rw [hn, ht] at ct
 unfold F_kit_Number
 (dsimp +instances only [Aa,Ab,Ac,Ad,Ae,Af,Ag])
 refine Ret.cE ct ?_
 (dsimp +instances only [Aa,Ab,Ac,Ad,Ae,Af,Ag])
 rw [byL_list, Lib.toList_data, byL_size, byL_data]
 refine Ret.test (fun g1 => no _ fun h => h.1 (by simpa using g1)) fun g1 => ?_
 have g1 : t ≠ [] := by simpa using g1
 have hp : 0 < t.length := List.length_pos_iff.2 g1
 refine Ret.test (fun g2 => no _ fun h => by rw [ltI_eq, decide_eq_true_eq] at g2; have := h.2.1; omega) fun g2 => ?_
 rw [ltI_eq, decide_eq_false_iff_not] at g2
 have g2 : t.length ≤ 15 := by omega
 refine Ret.call (digTrim (byL t) (by rw [byL_size]; omega) (by rw [byL_size]; omega)) ?_
 rintro _ ⟨u, rfl, hu⟩
 rw [byL_data] at hu
 have hu : (u.toList == []) = t.all isDig := by rw [Lib.toList_data (⟨#[]⟩ : ByteArray)] at hu; exact hu
 (dsimp +instances only [Aa,Ab,Ac,Ad,Ae,Af,Ag])
 rw [hu]
 refine Ret.test (fun g3 => no _ fun h => by rw [h.2.2.1] at g3; cases g3) fun g3 => ?_
 have g3 : t.all isDig = true := by simpa using g3
 refine Ret.p ?_
 have hat : F_strconv_Atoi [.s (byL t)] = some [.i (valL t : Int)] := by
  refine Ret.toEq ?_
  unfold F_strconv_Atoi atoiF
  (dsimp +instances only [Aa,Ab,Ac,Ad,Ae,Af,Ag])
  refine Ret.pos (by rw [byL_size, Nat.ble_eq]; omega) ?_
  rw [byL_data, atoi_digits g1 g3]
  exact Ret.some rfl
 have hv := val_lt 15 t g3 g2
 have fin : ∀ {p : Prop} [Decidable p], p → Ret (bif neg then (bif inI (0 - (valL t : Int)) then some [G.i (0 - (valL t : Int)), G.t true] else none) else some [G.i (valL t : Int), G.t true]) fun g => ∃ n, g = [.i n, .t (if p then some (bif neg then -(valL t : Int) else (valL t : Int)) else none).isSome] ∧ ∀ w, (if p then some (bif neg then -(valL t : Int) else (valL t : Int)) else none) = some w → n = w := fun hp => by
  rw [if_pos hp]
  cases neg with
  | true => exact Ret.pos rfl (Ret.pos (by simp only [inI, sl]; omega) (Ret.some ⟨_, rfl, fun w hw => by cases hw; simp⟩))
  | false => exact Ret.neg rfl (Ret.some ⟨_, rfl, fun w hw => by cases hw; rfl⟩)
 have hhead : ((((t.getD 0 0).toNat : Nat) : Int) == 48) = (t.head? == some 48) := by
  cases t with
  | nil => exact (g1 rfl).elim
  | cons b r =>
   show (((b.toNat : Nat) : Int) == 48) = (some b == some 48)
   rw [Bool.eq_iff_iff, beq_iff_eq, beq_iff_eq]
   constructor
   ·intro e
    rw [show b = 48 from UInt8.toNat_inj.1 (by show b.toNat = 48; omega)]
   ·intro e
    cases e
    rfl
 rw [hhead]
 refine Ret.test (fun g4 => ?_) fun g4 => ?_
 ·have g4 : t.head? = some 48 := by simpa using g4
  refine Ret.test (fun g5 => no _ fun h => ?_) fun g5 => ?_
  ·rw [ltI_eq, decide_eq_true_eq] at g5
   rcases h.2.2.2 with h4 | ⟨h4, _⟩
   ·exact h4 g4
   ·rw [h4] at g5
    simp at g5
  ·rw [ltI_eq, decide_eq_false_iff_not] at g5
   refine Ret.test (fun g6 => no _ fun h => ?_) fun g6 => ?_
   ·rcases h.2.2.2 with h4 | ⟨_, h4⟩
    ·exact h4 g4
    ·rw [h4] at g6
     cases g6
   ·refine Ret.call (Ret.eq hat) ?_
    rintro _ rfl
    have ht1 : t = [48] := by
     cases t with
     | nil => exact (g1 rfl).elim
     | cons b r =>
      have : r = [] := List.eq_nil_of_length_eq_zero (by simp at g5; omega)
      subst this
      simpa using g4
    exact fin ⟨g1, g2, g3, .inr ⟨ht1, g6⟩⟩
 ·have g4 : t.head? ≠ some 48 := by simpa using g4
  refine Ret.cE hat ?_
  exact fin ⟨g1, g2, g3, .inl g4⟩
theorem only_ok (s set : ByteArray) (p : UInt8 → Bool) (hset : ∀ b : UInt8, ltI (Lib.indexByte set.data.toList b) 0 = !p b) (hs : s.size ≤ 900000) : F_r2_only [.s s, .s set] = some [.t (s.data.toList.all p)] := by
 refine Ret.toEq ?_
 unfold F_r2_only
 (dsimp +instances only [Aa,Ab,Ac,Ad,Ae,Af,Ag])
 have hz := Lib.size_eq s
 refine Ret.loop (P := fun c g => (c = 1 ∧ s.data.toList.all p = true ∧ g = []) ∨ (c = 0 ∧ s.data.toList.all p = false ∧ g = [.t false])) ?_ rfl ?_
 ·refine ((count_runs (σ := Unit) (fun _ i => [.s s, .s set, .i ((s.size : Nat) : Int), .i (i : Int)]) s.size (fun _ => (1, [])) (fun _ i => (s.data.toList.take i).all p = true)
   (fun c g => c = 0 ∧ s.data.toList.all p = false ∧ g = [.t false]) ?_ ?_ s.size () 0 (by omega) rfl).to (by omega)).mono ?_
  ·rintro _ i hp hi
   have hi' : i < s.data.toList.length := by omega
   have hg : s.data.toList.getD i 0 = s.data.toList[i] := by rw [List.getD_eq_getElem?_getD, List.getElem?_eq_getElem hi']; rfl
   have ht : s.data.toList.take (i + 1) = s.data.toList.take i ++ [s.data.toList[i]] := by rw [List.take_add_one, List.getElem?_eq_getElem hi']; rfl
   have hm : s.data.toList[i] ∈ s.data.toList := List.getElem_mem hi'
   unfold st_r2_only_2
   (dsimp +instances only [Aa,Ab,Ac,Ad,Ae,Af,Ag])
   simp only [Int.toNat_natCast, hg]
   generalize hb : s.data.toList[i] = b at ht hm
   refine Ret.p (Ret.p ?_)
   have hx : F_strings_IndexByte [.s set, .i ((b.toNat : Nat) : Int)] = some [.i (Lib.indexByte set.data.toList b)] := by
    show some [G.i (Lib.indexByte set.data.toList ((b.toNat : Nat) : Int).toNat.toUInt8)] = _
    rw [Int.toNat_natCast, show b.toNat.toUInt8 = b from UInt8.ofNat_toNat]
   refine Ret.cE hx ?_
   (dsimp +instances only [Aa,Ab,Ac,Ad,Ae,Af,Ag])
   rw [hset]
   refine Ret.test (fun hl => ?_) fun hl => ?_
   ·have hl : p b = false := by simpa using hl
    refine Ret.some (.inr ⟨0, _, rfl, rfl, ?_, rfl⟩)
    cases hq : s.data.toList.all p with
    | false => rfl
    | true => rw [List.all_eq_true.1 hq b hm] at hl; cases hl
   ·have hl : p b = true := by simpa using hl
    refine Ret.p (Ret.some (.inl ⟨(), rfl, ?_⟩))
    rw [ht, List.all_append, hp]
    simp [hl]
  ·rintro _ hp
   unfold st_r2_only_2
   (dsimp +instances only [Aa,Ab,Ac,Ad,Ae,Af,Ag])
   exact Ret.n (Ret.some rfl)
  ·rintro c g (⟨_, hp, rfl, rfl⟩ | h)
   ·rw [hz, List.take_length] at hp
    exact .inl ⟨rfl, hp, rfl⟩
   ·exact .inr h
 ·rintro c g (⟨rfl, hp, rfl⟩ | ⟨rfl, hp, rfl⟩)
  ·rw [hp]
   exact Ret.neg rfl (Ret.some rfl)
  ·rw [hp]
   exact Ret.pos rfl (Ret.some rfl)
theorem dig_ix (b : UInt8) : ltI (Lib.indexByte digB.data.toList b) 0 = !isDig b := by
 have := all_bytes (fun b => ltI (Lib.indexByte digB.data.toList b) 0 == !isDig b) (by kernel_rfl) b
 simpa using this
theorem trimMinus (s : ByteArray) (hs : s.size ≤ 900000) : F_strings_TrimPrefix [.s s, .s (⟨#[45]⟩ : ByteArray)] = some [.s (byL (absW s.data.toList))] := by
 refine Ret.toEq ?_
 unfold F_strings_TrimPrefix
 (dsimp +instances only [Aa,Ab,Ac,Ad,Ae,Af,Ag])
 refine Ret.call (P := fun g => g = [.s (byL (absW s.data.toList))]) ?_ ?_
 ·unfold F_stringslite_TrimPrefix
  (dsimp +instances only [Aa,Ab,Ac,Ad,Ae,Af,Ag])
  refine Ret.cE (hasMinus s hs) ?_
  (dsimp +instances only [Aa,Ab,Ac,Ad,Ae,Af,Ag])
  have h1 : (⟨#[45]⟩ : ByteArray).size = 1 := rfl
  rw [h1]
  have ha := absB s
  cases hn : negW s.data.toList with
  | false =>
   rw [hn] at ha
   refine Ret.neg rfl (Ret.some ?_)
   rw [← ha]
   rfl
  | true =>
   rw [hn] at ha
   have hz := Lib.size_eq s
   have h2 : 0 < s.size := by
    cases hl : s.data.toList with
    | nil => rw [hl] at hn; cases hn
    | cons b r => rw [hl] at hz; simp only [List.length_cons] at hz; omega
   refine Ret.pos rfl (Ret.pos (by rw [Bool.and_eq_true, nnI_eq, leI_eq, decide_eq_true_eq, decide_eq_true_eq]; omega) (Ret.some ?_))
   rw [← ha]
   rfl
 ·rintro _ rfl
  exact Ret.some rfl
theorem neg_split (l : List UInt8) : l = bif negW l then 45 :: absW l else absW l := by
 unfold negW absW
 split
 ·rfl
 ·rfl
theorem itoa_abs (t : List UInt8) (neg : Bool) (h0 : t ≠ []) (h : t.all isDig = true) :
  (Lib.itoa (bif neg then -(valL t : Int) else (valL t : Int)) == (bif neg then 45 :: t else t)) = decide (t.head? ≠ some 48 ∨ (t = [48] ∧ neg = false)) := by
 have hc := canon t.length t rfl h0 h
 have hd : Lib.decDigits (valL t) = t → t.head? = some 48 → t = [48] := fun e hh => by
  have := dec_head (valL t) (by rw [e]; exact hh)
  rw [this, dec_small (by omega)] at e
  exact e.symm
 rw [Bool.eq_iff_iff, beq_iff_eq, decide_eq_true_eq]
 cases neg with
 | false =>
  have e : Lib.itoa (bif false then -(valL t : Int) else (valL t : Int)) = Lib.decDigits (valL t) := by
   show Lib.itoa (valL t : Int) = _
   unfold Lib.itoa
   rw [if_neg (by omega)]
   simp
  rw [e]
  constructor
  ·intro e1
   by_cases hh : t.head? = some 48
   ·exact .inr ⟨hd e1 hh, rfl⟩
   ·exact .inl hh
  ·rintro (hh | ⟨hh, _⟩)
   ·exact hc (.inl hh)
   ·exact hc (.inr hh)
 | true =>
  show Lib.itoa (-(valL t : Int)) = 45 :: t ↔ _
  by_cases hv : valL t = 0
  ·rw [hv]
   have e : Lib.itoa (-((0 : Nat) : Int)) = [48] := by
    unfold Lib.itoa
    rw [if_neg (by omega), show (-((0 : Nat) : Int)).toNat = 0 from rfl, dec_small (by omega)]
    rfl
   rw [e]
   constructor
   ·intro e1
    simp at e1
   ·rintro (hh | ⟨_, hh⟩)
    ·have := hc (.inl hh)
     rw [hv, dec_small (by omega)] at this
     exact (hh (by rw [← this]; rfl)).elim
    ·cases hh
  ·have e : Lib.itoa (-(valL t : Int)) = 45 :: Lib.decDigits (valL t) := by
    unfold Lib.itoa
    rw [if_pos (by omega)]
    simp
   rw [e]
   constructor
   ·intro e1
    have e1 : Lib.decDigits (valL t) = t := by simpa using e1
    refine .inl fun hh => ?_
    have := dec_head (valL t) (by rw [e1]; exact hh)
    exact hv this
   ·rintro (hh | ⟨_, hh⟩)
    ·rw [hc (.inl hh)]
    ·cases hh
theorem numRef (s : ByteArray) (hs : s.size ≤ 900000) : Ret (F_r2_Number [.s s, .i 15]) fun g => ∃ n, g = [.i n, .t (numL 15 s.data.toList).isSome] ∧ ∀ v, numL 15 s.data.toList = some v → n = v := by
 have hal := abs_le s.data.toList
 have hz := Lib.size_eq s
 have hsp := neg_split s.data.toList
 have tm := trimMinus s hs
 rw [num_eq]
 generalize hn : negW s.data.toList = neg at hsp
 generalize ht : absW s.data.toList = t at hal hsp tm
 have no : ∀ {p : Prop} [Decidable p] (v : Int), ¬ p → Ret (some [G.i 0, G.t false]) fun g => ∃ n, g = [.i n, .t (if p then some v else none).isSome] ∧ ∀ w, (if p then some v else none) = some w → n = w := fun v hp => by
  rw [if_neg hp]
  exact Ret.some ⟨0, rfl, fun w hw => by cases hw⟩
 unfold F_r2_Number
 (dsimp +instances only [Aa,Ab,Ac,Ad,Ae,Af,Ag])
 refine Ret.cE tm ?_
 (dsimp +instances only [Aa,Ab,Ac,Ad,Ae,Af,Ag])
 rw [byL_list, byL_size]
 refine Ret.test (fun g1 => no _ fun h => h.1 (by rw [Lib.toList_data] at g1; simpa using g1)) fun g1 => ?_
 have g1 : t ≠ [] := by rw [Lib.toList_data] at g1; simpa using g1
 refine Ret.test (fun g2 => no _ fun h => by rw [ltI_eq, decide_eq_true_eq] at g2; have := h.2.1; omega) fun g2 => ?_
 rw [ltI_eq, decide_eq_false_iff_not] at g2
 have g2 : t.length ≤ 15 := by omega
 refine Ret.cE (only_ok (byL t) digB isDig dig_ix (by rw [byL_size]; omega)) ?_
 (dsimp +instances only [Aa,Ab,Ac,Ad,Ae,Af,Ag])
 rw [byL_data]
 refine Ret.test (fun g3 => no _ fun h => by rw [h.2.2.1] at g3; cases g3) fun g3 => ?_
 have g3 : t.all isDig = true := by simpa using g3
 have hl : s.data.toList.length ≤ 16 := by
  rw [hsp]
  cases neg with
  | true => show (45 :: t).length ≤ 16; simp only [List.length_cons]; omega
  | false => show t.length ≤ 16; omega
 have hv := val_lt 15 t g3 g2
 have hat : F_strconv_Atoi [.s s] = some [.i (bif neg then -(valL t : Int) else (valL t : Int))] := by
  refine Ret.toEq ?_
  unfold F_strconv_Atoi atoiF
  (dsimp +instances only [Aa,Ab,Ac,Ad,Ae,Af,Ag])
  refine Ret.pos (by rw [Nat.ble_eq]; omega) ?_
  rw [hsp]
  cases neg with
  | true =>
   show Ret ((Lib.atoi (45 :: t)).map fun n => [G.i n]) _
   rw [atoi_minus g1 g3]
   exact Ret.some rfl
  | false =>
   show Ret ((Lib.atoi t).map fun n => [G.i n]) _
   rw [atoi_digits g1 g3]
   exact Ret.some rfl
 refine Ret.cE hat ?_
 (dsimp +instances only [Aa,Ab,Ac,Ad,Ae,Af,Ag])
 have hb : -9223372036854775808 ≤ (bif neg then -(valL t : Int) else (valL t : Int)) ∧ (bif neg then -(valL t : Int) else (valL t : Int)) ≤ 9223372036854775807 := by
  cases neg with
  | true => show -9223372036854775808 ≤ -(valL t : Int) ∧ -(valL t : Int) ≤ 9223372036854775807; omega
  | false => show -9223372036854775808 ≤ (valL t : Int) ∧ (valL t : Int) ≤ 9223372036854775807; omega
 refine Ret.cE (itoaA _ hb.1 hb.2) ?_
 refine Ret.some ⟨(bif neg then -(valL t : Int) else (valL t : Int)), ?_, ?_⟩
 ·(dsimp +instances only [Aa,Ab,Ac,Ad,Ae,Af,Ag])
  rw [itoa_byL, byL_list, Lib.toList_data, hsp, itoa_abs t neg g1 g3]
  congr 3
  by_cases hh : t.head? ≠ some 48 ∨ (t = [48] ∧ neg = false)
  ·rw [if_pos ⟨g1, g2, g3, hh⟩, decide_eq_true hh]
   rfl
  ·rw [if_neg (fun h => hh h.2.2.2), decide_eq_false hh]
   rfl
 ·intro v hv
  split at hv
  ·cases hv
   rfl
  ·cases hv
/-! ### Words -/
def wordsOk (W : List (List UInt8)) : Bool := W.all fun y => !y.isEmpty
def rowsW (W : List (List UInt8)) : List (List G) := W.map fun y => [G.s (byL y)]
theorem rowsW_len (W : List (List UInt8)) : (rowsW W).length = W.length := by simp [rowsW]
theorem rowsW_at (W : List (List UInt8)) (i : Nat) (hi : i < W.length) : (rowsW W).getD i [] = [G.s (byL W[i])] := by
 unfold rowsW
 rw [List.getD_eq_getElem?_getD, List.getElem?_map, List.getElem?_eq_getElem hi]
 rfl
theorem emptyL_eq (y : List UInt8) : ((byL y).toList == (⟨#[]⟩ : ByteArray).toList) = y.isEmpty := by
 rw [byL_list, Lib.toList_data]
 cases y <;> rfl
theorem pieces_len (c : UInt8) (l : List UInt8) : (piecesL c l).length ≤ l.length + 1 := pieces_length c l
theorem wordsAny (s : ByteArray) (hs : s.size ≤ 900000) : F_kit_Words [.s s] = some (bif wordsOk (piecesL 32 s.data.toList) then [.l (rowsW (piecesL 32 s.data.toList)), .t true] else [.l [], .t false]) := by
 refine Ret.toEq ?_
 have hw := pieces_len 32 s.data.toList
 have hz := Lib.size_eq s
 unfold F_kit_Words
 (dsimp +instances only [Aa,Ab,Ac,Ad,Ae,Af,Ag])
 refine Ret.cE (splitAny s 32 hs) ?_
 generalize piecesL 32 s.data.toList = W at hw
 show Ret (loopB true (LRun st_kit_Words_3 [.l (rowsW W), .l (rowsW W), .i (((rowsW W).length : Nat) : Int), .i 0]) _) _
 rw [rowsW_len]
 refine Ret.loop (P := fun c g => (c = 1 ∧ wordsOk W = true ∧ g = [.l (rowsW W)]) ∨ (c = 0 ∧ wordsOk W = false ∧ g = [.l [], .t false])) ?_ rfl ?_
 ·refine ((count_runs (σ := Unit) (fun _ i => [.l (rowsW W), .l (rowsW W), .i ((W.length : Nat) : Int), .i (i : Int)]) W.length (fun _ => (1, [.l (rowsW W)])) (fun _ i => wordsOk (W.take i) = true)
   (fun c g => c = 0 ∧ wordsOk W = false ∧ g = [.l [], .t false]) ?_ ?_ W.length () 0 (by omega) rfl).to (by omega)).mono ?_
  ·rintro _ i hp hi
   have ht : W.take (i + 1) = W.take i ++ [W[i]] := by rw [List.take_add_one, List.getElem?_eq_getElem hi]; rfl
   have hm : W[i] ∈ W := List.getElem_mem hi
   have hg := rowsW_at W i hi
   generalize W[i] = y at ht hm hg
   unfold st_kit_Words_3
   (dsimp +instances only [Aa,Ab,Ac,Ad,Ae,Af,Ag])
   rw [rowsW_len]
   refine Ret.p (Ret.p ?_)
   simp only [Int.toNat_natCast, hg]
   (dsimp +instances only [Aa,Ab,Ac,Ad,Ae,Af,Ag])
   rw [emptyL_eq]
   refine Ret.test (fun hl => ?_) fun hl => ?_
   ·refine Ret.some (.inr ⟨0, _, rfl, rfl, ?_, rfl⟩)
    cases hq : wordsOk W with
    | false => rfl
    | true =>
     have := List.all_eq_true.1 hq y hm
     rw [hl] at this
     cases this
   ·refine Ret.p (Ret.some (.inl ⟨(), rfl, ?_⟩))
    unfold wordsOk at hp ⊢
    rw [ht, List.all_append, hp]
    simp [hl]
  ·rintro _ hp
   unfold st_kit_Words_3
   (dsimp +instances only [Aa,Ab,Ac,Ad,Ae,Af,Ag])
   exact Ret.n (Ret.some rfl)
  ·rintro c g (⟨_, hp, rfl, rfl⟩ | h)
   ·rw [List.take_length] at hp
    exact .inl ⟨rfl, hp, rfl⟩
   ·exact .inr h
 ·rintro c g (⟨rfl, hp, rfl⟩ | ⟨rfl, hp, rfl⟩)
  ·rw [hp]
   exact Ret.neg rfl (Ret.some rfl)
  ·rw [hp]
   exact Ret.pos rfl (Ret.some rfl)
theorem hasEmpty (W : List (List UInt8)) (hw : W.length ≤ 900001) : F_sl_Contains_string [.l (rowsW W), .s (⟨#[]⟩ : ByteArray)] = some [.t (!wordsOk W)] := by
 refine Ret.toEq ?_
 unfold F_sl_Contains_string
 (dsimp +instances only [Aa,Ab,Ac,Ad,Ae,Af,Ag])
 refine Ret.call (P := fun g => ∃ k : Int, g = [.i k] ∧ leI 0 k = !wordsOk W) ?_ ?_
 ·unfold F_sl_Index_string
  (dsimp +instances only [Aa,Ab,Ac,Ad,Ae,Af,Ag])
  rw [rowsW_len]
  refine Ret.loop (P := fun c g => (c = 1 ∧ wordsOk W = true ∧ g = []) ∨ (c = 0 ∧ wordsOk W = false ∧ ∃ i : Nat, g = [.i (i : Int)])) ?_ rfl ?_
  ·refine ((count_runs (σ := Unit) (fun _ i => [.l (rowsW W), .s (⟨#[]⟩ : ByteArray), .i ((W.length : Nat) : Int), .i (i : Int)]) W.length (fun _ => (1, [])) (fun _ i => wordsOk (W.take i) = true)
    (fun c g => c = 0 ∧ wordsOk W = false ∧ ∃ i : Nat, g = [.i (i : Int)]) ?_ ?_ W.length () 0 (by omega) rfl).to (by omega)).mono ?_
   ·rintro _ i hp hi
    have ht : W.take (i + 1) = W.take i ++ [W[i]] := by rw [List.take_add_one, List.getElem?_eq_getElem hi]; rfl
    have hm : W[i] ∈ W := List.getElem_mem hi
    have hg := rowsW_at W i hi
    generalize W[i] = y at ht hm hg
    unfold st_sl_Index_string_2
    (dsimp +instances only [Aa,Ab,Ac,Ad,Ae,Af,Ag])
    rw [rowsW_len]
    refine Ret.p (Ret.p ?_)
    simp only [Int.toNat_natCast, hg]
    (dsimp +instances only [Aa,Ab,Ac,Ad,Ae,Af,Ag])
    have he : ((⟨#[]⟩ : ByteArray).toList == (byL y).toList) = y.isEmpty := by
     rw [← emptyL_eq, Bool.eq_iff_iff, beq_iff_eq, beq_iff_eq]
     exact eq_comm
    rw [he]
    refine Ret.test (fun hl => ?_) fun hl => ?_
    ·refine Ret.some (.inr ⟨0, _, rfl, rfl, ?_, i, rfl⟩)
     cases hq : wordsOk W with
     | false => rfl
     | true =>
      have := List.all_eq_true.1 hq y hm
      rw [hl] at this
      cases this
    ·refine Ret.p (Ret.some (.inl ⟨(), rfl, ?_⟩))
     unfold wordsOk at hp ⊢
     rw [ht, List.all_append, hp]
     simp [hl]
   ·rintro _ hp
    unfold st_sl_Index_string_2
    (dsimp +instances only [Aa,Ab,Ac,Ad,Ae,Af,Ag])
    exact Ret.n (Ret.some rfl)
   ·rintro c g (⟨_, hp, rfl, rfl⟩ | h)
    ·rw [List.take_length] at hp
     exact .inl ⟨rfl, hp, rfl⟩
    ·exact .inr h
  ·rintro c g (⟨rfl, hp, rfl⟩ | ⟨rfl, hp, i, rfl⟩)
   ·rw [hp]
    exact Ret.neg rfl (Ret.some ⟨-1, rfl, rfl⟩)
   ·rw [hp]
    exact Ret.pos rfl (Ret.some ⟨(i : Int), rfl, by rw [leI_eq, decide_eq_true (by omega)]; rfl⟩)
 ·rintro _ ⟨k, rfl, hk⟩
  refine Ret.some ?_
  (dsimp +instances only [Aa,Ab,Ac,Ad,Ae,Af,Ag])
  rw [hk]
theorem wordsPlain (s : ByteArray) (hs : s.size ≤ 900000) : F_r2_Words [.s s] = some [.l (rowsW (piecesL 32 s.data.toList)), .t (wordsOk (piecesL 32 s.data.toList))] := by
 refine Ret.toEq ?_
 have hw := pieces_len 32 s.data.toList
 have hz := Lib.size_eq s
 unfold F_r2_Words
 (dsimp +instances only [Aa,Ab,Ac,Ad,Ae,Af,Ag])
 refine Ret.cE (splitAny s 32 hs) ?_
 (dsimp +instances only [Aa,Ab,Ac,Ad,Ae,Af,Ag])
 refine Ret.cE (hasEmpty _ (by omega)) ?_
 refine Ret.some ?_
 (dsimp +instances only [Aa,Ab,Ac,Ad,Ae,Af,Ag])
 simp only [Bool.not_not]
 rfl
def okN (W : List (List UInt8)) : Bool := W.all fun y => (numL 15 y).isSome
def valN (W : List (List UInt8)) : List Int := W.map fun y => (numL 15 y).getD 0
def rowsI (V : List Int) : List (List G) := V.map fun n => [G.i n]
theorem rowsI_len (V : List Int) : (rowsI V).length = V.length := by simp [rowsI]
theorem rowsI_snoc (V : List Int) (n : Int) : rowsI V ++ [[G.i n]] = rowsI (V ++ [n]) := by simp [rowsI]
theorem numsAny (W : List (List UInt8)) (hw : W.length ≤ 900000) (hy : ∀ y ∈ W, y.length ≤ 900000) : F_kit_Numbers [.l (rowsW W)] = some (bif okN W then [.l (rowsI (valN W)), .t true] else [.l [], .t false]) := by
 refine Ret.toEq ?_
 unfold F_kit_Numbers
 (dsimp +instances only [Aa,Ab,Ac,Ad,Ae,Af,Ag])
 rw [rowsW_len]
 refine Ret.loop (P := fun c g => (c = 1 ∧ okN W = true ∧ g = [.l (rowsI (valN W))]) ∨ (c = 0 ∧ okN W = false ∧ g = [.l [], .t false])) ?_ rfl ?_
 ·refine ((count_runs (σ := Unit) (fun _ i => [.l (rowsI (valN (W.take i))), .l (rowsW W), .i ((W.length : Nat) : Int), .i (i : Int)]) W.length (fun _ => (1, [.l (rowsI (valN W))])) (fun _ i => okN (W.take i) = true)
   (fun c g => c = 0 ∧ okN W = false ∧ g = [.l [], .t false]) ?_ ?_ W.length () 0 (by omega) rfl).to (by omega)).mono ?_
  ·rintro _ i hp hi
   have ht : W.take (i + 1) = W.take i ++ [W[i]] := by rw [List.take_add_one, List.getElem?_eq_getElem hi]; rfl
   have hm : W[i] ∈ W := List.getElem_mem hi
   have hg := rowsW_at W i hi
   have hl1 : (rowsI (valN (W.take i))).length = i := by rw [rowsI_len]; simp [valN]; omega
   have hv : valN (W.take (i + 1)) = valN (W.take i) ++ [(numL 15 W[i]).getD 0] := by rw [ht]; unfold valN; rw [List.map_append]; rfl
   generalize W[i] = y at ht hm hg hv
   unfold st_kit_Numbers_3
   (dsimp +instances only [Aa,Ab,Ac,Ad,Ae,Af,Ag])
   rw [rowsW_len]
   refine Ret.p (Ret.p ?_)
   simp only [Int.toNat_natCast, hg]
   (dsimp +instances only [Aa,Ab,Ac,Ad,Ae,Af,Ag])
   have hn := numKit (byL y) (by rw [byL_size]; exact hy y hm)
   rw [byL_data] at hn
   refine Ret.call hn ?_
   rintro _ ⟨n, rfl, hn⟩
   (dsimp +instances only [Aa,Ab,Ac,Ad,Ae,Af,Ag])
   refine Ret.test (fun hl => ?_) fun hl => ?_
   ·refine Ret.some (.inr ⟨0, _, rfl, rfl, ?_, rfl⟩)
    cases hq : okN W with
    | false => rfl
    | true =>
     have := List.all_eq_true.1 hq y hm
     rw [this] at hl
     cases hl
   ·have hl : (numL 15 y).isSome = true := by simpa using hl
    obtain ⟨v, he⟩ := Option.isSome_iff_exists.1 hl
    have := hn v he
    subst this
    refine Ret.p (Ret.p ?_)
    refine Ret.p (Ret.some (.inl ⟨(), ?_, ?_⟩))
    ·rw [rowsI_snoc, hv, he]
     rfl
    ·unfold okN at hp ⊢
     rw [ht, List.all_append, hp]
     simp [hl]
  ·rintro _ hp
   unfold st_kit_Numbers_3
   (dsimp +instances only [Aa,Ab,Ac,Ad,Ae,Af,Ag])
   refine Ret.n (Ret.p (Ret.some ?_))
   rw [List.take_length]
  ·rintro c g (⟨_, hp, rfl, rfl⟩ | h)
   ·rw [List.take_length] at hp
    exact .inl ⟨rfl, hp, rfl⟩
   ·exact .inr h
 ·rintro c g (⟨rfl, hp, rfl⟩ | ⟨rfl, hp, rfl⟩)
  ·rw [hp]
   exact Ret.neg rfl (Ret.p (Ret.some rfl))
  ·rw [hp]
   exact Ret.pos rfl (Ret.some rfl)
def txtL (L : List (List UInt8)) (z : List UInt8) : List UInt8 := L.flatMap (fun p => p ++ [10]) ++ z
theorem txtL_cons (p : List UInt8) (L : List (List UInt8)) (z : List UInt8) : txtL (p :: L) z = p ++ 10 :: txtL L z := by simp [txtL]
theorem txt_join : ∀ (L : List (List UInt8)) (z : List UInt8), Lib.join (L ++ [z]) [10] = txtL L z
 | [], z => by
  rw [List.nil_append, Lib.join_one]
  rfl
 | p :: L, z => by
  have ih := txt_join L z
  rw [txtL_cons, ← ih]
  cases hq : L ++ [z] with
  | nil => simp at hq
  | cons x r =>
   rw [List.cons_append, hq, join_two]
   rfl
theorem txt_snoc : ∀ (L : List (List UInt8)) (p z : List UInt8), txtL (L ++ [p]) z = txtL L p ++ 10 :: z := fun L p z => by simp [txtL]
theorem txt_of (l : List UInt8) : ∃ L z, l = txtL L z ∧ (∀ p ∈ L, 10 ∉ p) ∧ 10 ∉ z ∧ L.length ≤ l.length := by
 have hj := pieces_join 10 l
 have hf := pieces_free 10 l
 have hl := pieces_length 10 l
 rcases List.eq_nil_or_concat (piecesL 10 l) with e | ⟨L, z, e⟩
 ·exact (pieces_ne 10 l e).elim
 ·rw [List.concat_eq_append] at e
  rw [e] at hj hf hl
  rw [txt_join] at hj
  refine ⟨L, z, hj.symm, fun p hp => hf p (List.mem_append_left _ hp), hf z (by simp), ?_⟩
  simp at hl
  exact hl
theorem txt_len_le : ∀ (L : List (List UInt8)) (z : List UInt8), (∀ p ∈ L, p.length ≤ (txtL L z).length) ∧ z.length ≤ (txtL L z).length
 | [], z => by simp [txtL]
 | p :: L, z => by
  have ih := txt_len_le L z
  rw [txtL_cons]
  simp only [List.length_append, List.length_cons, List.mem_cons, forall_eq_or_imp]
  refine ⟨⟨by omega, fun q hq => ?_⟩, by omega⟩
  have := ih.1 q hq
  omega
theorem hasNL (b : List UInt8) (c : UInt8) (hb : b.length ≤ 900000) : F_stringslite_HasSuffix [.s (byL (b ++ [c])), .s (⟨#[10]⟩ : ByteArray)] = some [.t (c == 10)] := by
 refine Ret.toEq ?_
 unfold F_stringslite_HasSuffix
 (dsimp +instances only [Aa,Ab,Ac,Ad,Ae,Af,Ag])
 have h1 : (⟨#[10]⟩ : ByteArray).size = 1 := rfl
 rw [h1, byL_size, List.length_append, List.length_singleton]
 refine Ret.p (Ret.p (Ret.p (Ret.some ?_)))
 have e : ((((b.length + 1 : Nat) : Int) - ((1 : Nat) : Int)).toNat) = b.length := by omega
 rw [e]
 have h2 : (((byL (b ++ [c])).extract b.length (b.length + 1)).toList == (⟨#[10]⟩ : ByteArray).toList) = (c == 10) := by
  rw [Lib.toList_data, Lib.extract_data, Lib.toList_data, byL_data]
  simp
 rw [h2]
theorem cutNL (b : List UInt8) (c : UInt8) (hb : b.length ≤ 900000) : F_strings_CutSuffix [.s (byL (b ++ [c])), .s (⟨#[10]⟩ : ByteArray)] = some [.s (byL (bif c == 10 then b else b ++ [c])), .t (c == 10)] := by
 refine Ret.toEq ?_
 unfold F_strings_CutSuffix
 (dsimp +instances only [Aa,Ab,Ac,Ad,Ae,Af,Ag])
 refine Ret.call (P := fun g => g = [.s (byL (bif c == 10 then b else b ++ [c])), .t (c == 10)]) ?_ ?_
 ·unfold F_stringslite_CutSuffix
  (dsimp +instances only [Aa,Ab,Ac,Ad,Ae,Af,Ag])
  refine Ret.cE (hasNL b c hb) ?_
  (dsimp +instances only [Aa,Ab,Ac,Ad,Ae,Af,Ag])
  cases hc : (c == 10) with
  | false => exact Ret.pos rfl (Ret.some rfl)
  | true =>
   have h1 : (⟨#[10]⟩ : ByteArray).size = 1 := rfl
   rw [h1, byL_size, List.length_append, List.length_singleton]
   refine Ret.neg rfl (Ret.p (Ret.p (Ret.some ?_)))
   have e : ((((b.length + 1 : Nat) : Int) - ((1 : Nat) : Int)).toNat) = b.length := by omega
   rw [e]
   have h2 : (byL (b ++ [c])).extract 0 b.length = byL b := by
    refine byL_inj ?_
    rw [Lib.extract_data, byL_data, byL_data]
    simp
   rw [h2]
   rfl
 ·rintro _ rfl
  exact Ret.some rfl
def seenL (L : List (List UInt8)) (z : List UInt8) : List (List UInt8) := bif z.isEmpty then L else L ++ [z]
theorem split_rows (x : List UInt8) (xs : List (List UInt8)) (h : ∀ y ∈ x :: xs, (10 : UInt8) ∉ y) (hl : (Lib.join (x :: xs) [10]).length ≤ 900000) : F_strings_Split [.s (byL (Lib.join (x :: xs) [10])), .s (⟨#[10]⟩ : ByteArray)] = some [.l (rowsW (x :: xs))] := splitLib 10 x xs h (by omega)
theorem linesAny (L : List (List UInt8)) (z : List UInt8) (hL : ∀ p ∈ L, (10 : UInt8) ∉ p) (hz : (10 : UInt8) ∉ z) (hl : (txtL L z).length ≤ 900000) : F_kit_Lines [.s (byL (txtL L z))] = some [.l (rowsW (seenL L z)), .t z.isEmpty] := by
 refine Ret.toEq ?_
 unfold F_kit_Lines
 (dsimp +instances only [Aa,Ab,Ac,Ad,Ae,Af,Ag])
 rw [emptyL_eq]
 rcases List.eq_nil_or_concat z with rfl | ⟨z', c, e⟩
 ·rcases List.eq_nil_or_concat L with rfl | ⟨L', p, e⟩
  ·exact Ret.pos rfl (Ret.some rfl)
  ·rw [List.concat_eq_append] at e
   have ht : txtL L [] = txtL L' p ++ [10] := by rw [e, txt_snoc]
   have hlen : (txtL L' p).length ≤ 900000 := by rw [ht] at hl; simp at hl; omega
   refine Ret.neg (by rw [ht]; simp) ?_
   rw [ht]
   refine Ret.cE (cutNL _ _ hlen) ?_
   (dsimp +instances only [Aa,Ab,Ac,Ad,Ae,Af,Ag])
   show Ret (callF (F_strings_Split [.s (byL (txtL L' p)), _]) _) _
   rw [← txt_join] at hlen ⊢
   cases hq : L' ++ [p] with
   | nil => simp at hq
   | cons x xs =>
    rw [hq] at hlen
    refine Ret.cE (split_rows x xs (by rw [← hq, ← e]; exact hL) hlen) ?_
    refine Ret.some ?_
    rw [← hq, ← e]
    rfl
 ·rw [List.concat_eq_append] at e
  have hc : (c == 10) = false := by
   rw [beq_eq_false_iff_ne]
   rintro rfl
   rw [e] at hz
   simp at hz
  have ht : txtL L z = txtL L z' ++ [c] := by rw [e]; simp [txtL]
  have hne : z.isEmpty = false := by rw [e]; simp
  have hlen : (txtL L z').length ≤ 900000 := by rw [ht] at hl; simp at hl; omega
  refine Ret.neg (by rw [ht]; simp) ?_
  rw [ht]
  refine Ret.cE (cutNL _ _ hlen) ?_
  (dsimp +instances only [Aa,Ab,Ac,Ad,Ae,Af,Ag])
  rw [hc, ← ht, hne]
  show Ret (callF (F_strings_Split [.s (byL (txtL L z)), _]) _) _
  rw [← txt_join] at hl ⊢
  cases hq : L ++ [z] with
  | nil => simp at hq
  | cons x xs =>
   rw [hq] at hl
   refine Ret.call (Ret.eq (split_rows x xs ?_ hl)) ?_
   ·rw [← hq]
    intro y hy
    rcases List.mem_append.1 hy with hy | hy
    ·exact hL y hy
    ·rw [List.mem_singleton.1 hy]
     exact hz
   ·rintro _ rfl
    refine Ret.some ?_
    unfold seenL
    rw [← hq, hne]
    rfl
theorem cutHit (p r : List UInt8) (hp : (10 : UInt8) ∉ p) (hl : (p ++ 10 :: r).length ≤ 900000) : F_strings_Cut [.s (byL (p ++ 10 :: r)), .s (⟨#[10]⟩ : ByteArray)] = some [.s (byL p), .s (byL r), .t true] := by
 refine Ret.toEq ?_
 unfold F_strings_Cut
 (dsimp +instances only [Aa,Ab,Ac,Ad,Ae,Af,Ag])
 refine Ret.call (P := fun g => g = [.s (byL p), .s (byL r), .t true]) ?_ ?_
 ·unfold F_stringslite_Cut
  (dsimp +instances only [Aa,Ab,Ac,Ad,Ae,Af,Ag])
  have hx : F_stringslite_Index [.s (byL (p ++ 10 :: r)), .s (⟨#[10]⟩ : ByteArray)] = some [.i ((p.length : Nat) : Int)] := by
   show some [G.i (Lib.index (byL (p ++ 10 :: r)).data.toList [10])] = _
   rw [Lib.index_one, byL_data, indexByte_hit r hp]
  refine Ret.cE hx ?_
  (dsimp +instances only [Aa,Ab,Ac,Ad,Ae,Af,Ag])
  have h1 : (⟨#[10]⟩ : ByteArray).size = 1 := rfl
  rw [h1, byL_size]
  simp only [List.length_append, List.length_cons] at hl ⊢
  refine Ret.p (Ret.p (Ret.p (Ret.p (Ret.some ?_))))
  have e1 : (byL (p ++ 10 :: r)).extract 0 (((p.length : Nat) : Int).toNat) = byL p := by
   refine byL_inj ?_
   rw [Lib.extract_data, byL_data, byL_data]
   simp
  have e2 : (byL (p ++ 10 :: r)).extract ((((p.length : Nat) : Int) + ((1 : Nat) : Int)).toNat) (p.length + (r.length + 1)) = byL r := by
   refine byL_inj ?_
   rw [Lib.extract_data, byL_data, byL_data]
   have e : ((((p.length : Nat) : Int) + ((1 : Nat) : Int)).toNat) = p.length + 1 := by omega
   rw [e]
   have h3 : p.length + (r.length + 1) - (p.length + 1) = r.length := by omega
   simp [List.drop_append, h3, List.drop_eq_nil_of_le (Nat.le_succ p.length)]
  rw [e1, e2]
 ·rintro _ rfl
  exact Ret.some rfl
theorem cutMiss (z : List UInt8) (hz : (10 : UInt8) ∉ z) : F_strings_Cut [.s (byL z), .s (⟨#[10]⟩ : ByteArray)] = some [.s (byL z), .s (⟨#[]⟩ : ByteArray), .t false] := by
 refine Ret.toEq ?_
 unfold F_strings_Cut
 (dsimp +instances only [Aa,Ab,Ac,Ad,Ae,Af,Ag])
 refine Ret.call (P := fun g => g = [.s (byL z), .s (⟨#[]⟩ : ByteArray), .t false]) ?_ ?_
 ·unfold F_stringslite_Cut
  (dsimp +instances only [Aa,Ab,Ac,Ad,Ae,Af,Ag])
  have hx : F_stringslite_Index [.s (byL z), .s (⟨#[10]⟩ : ByteArray)] = some [.i (-1)] := by
   show some [G.i (Lib.index (byL z).data.toList [10])] = _
   rw [Lib.index_one, byL_data, indexByte_miss hz]
  refine Ret.cE hx ?_
  exact Ret.neg rfl (Ret.some rfl)
 ·rintro _ rfl
  exact Ret.some rfl
def keyB (b : UInt8) : Bool := (isLb b || isDb b) || (b == 45 || b == 95)
def smkB : ByteArray := ⟨#[97, 98, 99, 100, 101, 102, 103, 104, 105, 106, 107, 108, 109, 110, 111, 112, 113, 114, 115, 116, 117, 118, 119, 120, 121, 122, 48, 49, 50, 51, 52, 53, 54, 55, 56, 57, 45, 95]⟩
def keyC (s : ByteArray) : Bool := (Nat.ble 1 s.size && Nat.ble s.size 40) && (isLb (s.data.toList.getD 0 0) && s.data.toList.all keyB)
def nameC (s : ByteArray) : Bool := Nat.beq s.size 0 || keyC s
theorem sma_ix (b : UInt8) : ltI (Lib.indexByte smaB.data.toList b) 0 = !isLb b := by
 have := all_bytes (fun b => ltI (Lib.indexByte smaB.data.toList b) 0 == !isLb b) (by kernel_rfl) b
 simpa using this
theorem sma_le (b : UInt8) : leI 0 (Lib.indexByte smaB.data.toList b) = isLb b := by
 have := all_bytes (fun b => leI 0 (Lib.indexByte smaB.data.toList b) == isLb b) (by kernel_rfl) b
 simpa using this
theorem smk_ix (b : UInt8) : ltI (Lib.indexByte smkB.data.toList b) 0 = !keyB b := by
 have := all_bytes (fun b => ltI (Lib.indexByte smkB.data.toList b) 0 == !keyB b) (by kernel_rfl) b
 simpa using this
theorem smk_has (b : UInt8) : smkB.data.toList.contains b = keyB b := by
 have := all_bytes (fun b => smkB.data.toList.contains b == keyB b) (by kernel_rfl) b
 simpa using this
theorem trimK (s : ByteArray) (h0 : 0 < s.size) (hs : s.size ≤ 900000) : Ret (F_strings_Trim [.s s, .s smkB]) fun g => ∃ t, g = [.s t] ∧ (t.toList == (⟨#[]⟩ : ByteArray).toList) = s.data.toList.all keyB := by
 unfold F_strings_Trim
 (dsimp +instances only [Aa,Ab,Ac,Ad,Ae,Af,Ag])
 refine Ret.pos ?_ (Ret.some ⟨_, rfl, ?_⟩)
 ·simp only [Bool.and_eq_true, Nat.ble_eq, Nat.blt_eq]
  exact ⟨by rfl, by decide, by decide, by omega, by omega⟩
 ·have e : (trimB s smkB).toList = Lib.trimS s.data.toList smkB.data.toList := by rw [Lib.toList_data]; simp [trimB]
  rw [e, Lib.toList_data, Bool.eq_iff_iff, beq_iff_eq]
  show Lib.trimS s.data.toList smkB.data.toList = [] ↔ _
  rw [trimS_nil, List.all_eq_true]
  exact ⟨fun h b hb => by rw [← smk_has]; exact h b hb, fun h b hb => by rw [smk_has]; exact h b hb⟩
theorem byteAt (set : ByteArray) (b : UInt8) : F_strings_IndexByte [.s set, .i ((b.toNat : Nat) : Int)] = some [.i (Lib.indexByte set.data.toList b)] := by
 show some [G.i (Lib.indexByte set.data.toList ((b.toNat : Nat) : Int).toNat.toUInt8)] = _
 rw [Int.toNat_natCast, show b.toNat.toUInt8 = b from UInt8.ofNat_toNat]
theorem size0 (s : ByteArray) : (s.toList == (⟨#[]⟩ : ByteArray).toList) = Nat.beq s.size 0 := by
 rw [← byL_of s, emptyL_eq, byL_size]
 cases s.data.toList <;> rfl
theorem isKeyAny (s : ByteArray) (hs : s.size ≤ 900000) : F_kit_IsKey [.s s] = some [.t (keyC s)] := by
 refine Ret.toEq ?_
 unfold F_kit_IsKey keyC
 (dsimp +instances only [Aa,Ab,Ac,Ad,Ae,Af,Ag])
 rw [size0]
 refine Ret.test (fun h0 => ?_) fun h0 => ?_
 ·have h0 : s.size ≠ 0 := fun e => by rw [e] at h0; cases h0
  rw [show Nat.ble 1 s.size = true by rw [Nat.ble_eq]; omega, Bool.true_and]
  refine Ret.test (fun h1 => ?_) fun h1 => ?_
  ·rw [leI_eq, decide_eq_true_eq] at h1
   rw [show Nat.ble s.size 40 = true by rw [Nat.ble_eq]; omega, Bool.true_and]
   refine Ret.p ?_
   refine Ret.cE (byteAt smaB _) ?_
   (dsimp +instances only [Aa,Ab,Ac,Ad,Ae,Af,Ag])
   rw [sma_le]
   refine Ret.test (fun h2 => ?_) fun h2 => ?_
   ·rw [h2, Bool.true_and]
    refine Ret.call (trimK s (by omega) hs) ?_
    rintro _ ⟨t, rfl, ht⟩
    (dsimp +instances only [Aa,Ab,Ac,Ad,Ae,Af,Ag])
    rw [ht]
    exact Ret.some rfl
   ·rw [h2, Bool.false_and]
    exact Ret.some rfl
  ·rw [leI_eq, decide_eq_false_iff_not] at h1
   rw [show Nat.ble s.size 40 = false by rw [Bool.eq_false_iff, ne_eq, Nat.ble_eq]; omega, Bool.false_and]
   exact Ret.some rfl
 ·have h0 : s.size = 0 := by
   cases hq : s.size with
   | zero => rfl
   | succ n => rw [hq] at h0; cases h0
  rw [h0]
  exact Ret.some rfl
theorem keyAny (s : ByteArray) (hs : s.size ≤ 900000) : F_r2_Key [.s s] = some [.t (keyC s)] := by
 refine Ret.toEq ?_
 unfold F_r2_Key keyC
 (dsimp +instances only [Aa,Ab,Ac,Ad,Ae,Af,Ag])
 refine Ret.cE (in_eq _ 1 40) ?_
 (dsimp +instances only [Aa,Ab,Ac,Ad,Ae,Af,Ag])
 have hz := Lib.size_eq s
 have e : inB ((s.size : Nat) : Int) 1 40 = (Nat.ble 1 s.size && Nat.ble s.size 40) := by
  unfold inB
  rw [Bool.eq_iff_iff]
  simp only [Bool.and_eq_true, leI_eq, decide_eq_true_eq, Nat.ble_eq]
  omega
 rw [e]
 refine Ret.test (fun h1 => ?_) fun h1 => ?_
 ·rw [h1, Bool.true_and]
  simp only [Bool.and_eq_true, Nat.ble_eq] at h1
  have h2 : (s.extract 0 1).data.toList = [s.data.toList.getD 0 0] := by
   rw [Lib.extract_data]
   cases hq : s.data.toList with
   | nil =>
    rw [hq] at hz
    have hz : s.size = 0 := hz
    omega
   | cons b r => simp
  refine Ret.p ?_
  refine Ret.cE (only_ok (s.extract 0 1) smaB isLb sma_ix (by rw [ByteArray.size_extract]; omega)) ?_
  (dsimp +instances only [Aa,Ab,Ac,Ad,Ae,Af,Ag])
  rw [h2, List.all_cons, List.all_nil, Bool.and_true]
  refine Ret.test (fun h3 => ?_) fun h3 => ?_
  ·rw [h3, Bool.true_and]
   refine Ret.cE (only_ok s smkB keyB smk_ix hs) ?_
   exact Ret.some rfl
  ·rw [h3, Bool.false_and]
   exact Ret.some rfl
 ·rw [h1, Bool.false_and]
  exact Ret.some rfl
def smallA (n : Int) : Prop := -1000000000000000 ≤ n ∧ n ≤ 1000000000000000
def StrA (s : ByteArray) : Prop := asciiB s = true ∧ s.size ≤ 900000
def ConA (r : List G) : Prop := ∃ (t m : Int) (b c : ByteArray) (s h : Int) (x y : ByteArray), r = [.i t, .i m, .s b, .s c, .i s, .i h, .s x, .s y] ∧ smallA t ∧ smallA m ∧ StrA b ∧ StrA c ∧ StrA x ∧ StrA y
theorem ConA.eta {r : List G} (h : ConA r) : gEta [.int .i64, .int .i64, .str, .str, .int .i64, .int .i64, .str, .str] r = r := by
 obtain ⟨t, m, b, c, s, h, x, y, rfl, _⟩ := h
 rfl
def faultCA (r : List G) : Int :=
 bif !inB (gi r 0).int 0 345686399999 then 1 else bif !inB (gi r 1).int 1 3 then 4 else bif !keyC (gi r 2).str then 5 else bif !isCallC (gi r 3).str then 3 else
 bif !inB (gi r 4).int 0 99999 then 1 else bif !inB (gi r 5).int 0 99999 then 1 else bif !nameC (gi r 6).str then 5 else bif !nameC (gi r 7).str then 5 else 0
section
variable {C D : List G → Option (List G)} (hC : ∀ r, ConA r → C [.l [r]] = some [.i (faultCA r)]) (hD : ∀ r s, ConA r → ConA s → D [.l [r], .l [s]] = some [.i (ordC r s)])
include hC hD
end
theorem rowsW_get (W : List (List UInt8)) (i : Nat) (hi : i < W.length) : gi ((rowsW W).getD i []) 0 = .s (byL (W.getD i [])) := by
 rw [rowsW_at W i hi, List.getD_eq_getElem?_getD, List.getElem?_eq_getElem hi]
 rfl
theorem rowsI_get (V : List Int) (i : Nat) (hi : i < V.length) : gi ((rowsI V).getD i []) 0 = .i (V.getD i 0) := by
 unfold rowsI
 rw [List.getD_eq_getElem?_getD, List.getD_eq_getElem?_getD, List.getElem?_map, List.getElem?_eq_getElem hi]
 rfl
theorem piece_le {c : UInt8} {l p : List UInt8} (hp : p ∈ piecesL c l) : p.length ≤ l.length := by
 have hj := pieces_join c l
 rw [← hj]
 clear hj
 generalize piecesL c l = W at hp
 induction W with
 | nil => cases hp
 | cons x xs ih =>
  cases xs with
  | nil =>
   rw [Lib.join_one, List.mem_singleton.1 hp]
   exact Nat.le_refl _
  | cons y ys =>
   rw [join_two, List.length_append, List.length_append]
   rcases List.mem_cons.1 hp with rfl | hp
   ·omega
   ·have := ih hp
    omega
theorem getD_mem {W : List (List UInt8)} {i : Nat} {b : UInt8} (h : b ∈ W.getD i []) : ∃ y ∈ W, b ∈ y := by
 rw [List.getD_eq_getElem?_getD] at h
 cases hq : W[i]? with
 | none => rw [hq] at h; cases h
 | some y =>
  rw [hq] at h
  exact ⟨y, List.mem_of_getElem? hq, h⟩
theorem getD_le {W : List (List UInt8)} {i n : Nat} (h : ∀ y ∈ W, y.length ≤ n) : (W.getD i []).length ≤ n := by
 rw [List.getD_eq_getElem?_getD]
 cases hq : W[i]? with
 | none => exact Nat.zero_le _
 | some y => exact h y (List.mem_of_getElem? hq)
theorem num_small {w : List UInt8} : smallA ((numL 15 w).getD 0) := by
 rw [num_eq]
 unfold smallA
 split
 ·rename_i h
  have hv := val_lt 15 _ h.2.2.1 h.2.1
  show -1000000000000000 ≤ (bif negW w then -(valL (absW w) : Int) else (valL (absW w) : Int)) ∧ (bif negW w then -(valL (absW w) : Int) else (valL (absW w) : Int)) ≤ 1000000000000000
  cases negW w with
  | true =>
   show -1000000000000000 ≤ -(valL (absW w) : Int) ∧ -(valL (absW w) : Int) ≤ 1000000000000000
   omega
  | false =>
   show -1000000000000000 ≤ (valL (absW w) : Int) ∧ (valL (absW w) : Int) ≤ 1000000000000000
   omega
 ·show -1000000000000000 ≤ (0 : Int) ∧ (0 : Int) ≤ 1000000000000000
  omega
def ixL (W : List (List UInt8)) (y : List UInt8) : Int := if y ∈ W then ((W.idxOf y : Nat) : Int) else -1
theorem ix_small (W : List (List UInt8)) (y : List UInt8) (hw : W.length ≤ 100) : smallA (ixL W y) ∧ ixL W y < W.length := by
 unfold ixL smallA
 split
 ·rename_i h
  have := List.idxOf_lt_length_iff.2 h
  omega
 ·omega
theorem indexAny (W : List (List UInt8)) (y : List UInt8) (hw : W.length ≤ 900001) : F_sl_Index_string [.l (rowsW W), .s (byL y)] = some [.i (ixL W y)] := by
 refine Ret.toEq ?_
 unfold F_sl_Index_string
 (dsimp +instances only [Aa,Ab,Ac,Ad,Ae,Af,Ag])
 rw [rowsW_len]
 refine Ret.loop (P := fun c g => (c = 1 ∧ ixL W y = -1 ∧ g = []) ∨ (c = 0 ∧ g = [.i (ixL W y)])) ?_ rfl ?_
 ·refine ((count_runs (σ := Unit) (fun _ i => [.l (rowsW W), .s (byL y), .i ((W.length : Nat) : Int), .i (i : Int)]) W.length (fun _ => (1, [])) (fun _ i => y ∉ W.take i)
   (fun c g => c = 0 ∧ g = [.i (ixL W y)]) ?_ ?_ W.length () 0 (by omega) (by simp)).to (by omega)).mono ?_
  ·rintro _ i hp hi
   have ht : W.take (i + 1) = W.take i ++ [W[i]] := by rw [List.take_add_one, List.getElem?_eq_getElem hi]; rfl
   have hm : W[i] ∈ W := List.getElem_mem hi
   have hg := rowsW_at W i hi
   have hix : W[i] = y → ixL W y = (i : Int) := fun e => by
    unfold ixL
    rw [if_pos (e ▸ hm)]
    congr 1
    have hsplit : W = W.take i ++ W.drop i := (List.take_append_drop i W).symm
    rw [hsplit, List.idxOf_append, if_neg hp, List.drop_eq_getElem_cons hi, e, List.idxOf_cons_self, List.length_take]
    omega
   generalize W[i] = w at ht hm hg hix
   unfold st_sl_Index_string_2
   (dsimp +instances only [Aa,Ab,Ac,Ad,Ae,Af,Ag])
   rw [rowsW_len]
   refine Ret.p (Ret.p ?_)
   simp only [Int.toNat_natCast, hg]
   (dsimp +instances only [Aa,Ab,Ac,Ad,Ae,Af,Ag])
   rw [byL_list, byL_list]
   refine Ret.test (fun hl => ?_) fun hl => ?_
   ·have hl : y = w := by simpa using hl
    exact Ret.some (.inr ⟨0, _, rfl, rfl, by rw [hix hl.symm]⟩)
   ·have hl : y ≠ w := by simpa using hl
    refine Ret.p (Ret.some (.inl ⟨(), rfl, ?_⟩))
    rw [ht]
    intro hm2
    rcases List.mem_append.1 hm2 with h | h
    ·exact hp h
    ·exact hl (List.mem_singleton.1 h)
  ·rintro _ hp
   unfold st_sl_Index_string_2
   (dsimp +instances only [Aa,Ab,Ac,Ad,Ae,Af,Ag])
   exact Ret.n (Ret.some rfl)
  ·rintro c g (⟨_, hp, rfl, rfl⟩ | h)
   ·rw [List.take_length] at hp
    refine .inl ⟨rfl, ?_, rfl⟩
    unfold ixL
    rw [if_neg hp]
   ·exact .inr h
 ·rintro c g (⟨rfl, hp, rfl⟩ | ⟨rfl, rfl⟩)
  ·rw [hp]
   exact Ret.neg rfl (Ret.some rfl)
  ·exact Ret.pos rfl (Ret.some rfl)
def CrdA (r : List G) : Prop := ∃ (t k m : Int) (c b : ByteArray), r = [.i t, .i k, .i m, .s c, .s b] ∧ smallA t ∧ smallA k ∧ smallA m ∧ StrA c ∧ StrA b
theorem CrdA.eta {r : List G} (h : CrdA r) : gEta KCard r = r := by
 obtain ⟨t, k, m, c, b, rfl, _⟩ := h
 rfl
theorem cardOrder_eqA {r s : List G} (hr : CrdA r) (hs : CrdA s) : F_r2_CardOrder [.l [r], .l [s]] = some [.i (ordK r s)] := by
 obtain ⟨t, k, m, c, b, rfl, ht, hk, hm, _⟩ := hr
 obtain ⟨t', k', m', c', b', rfl, ht', hk', hm', _⟩ := hs
 unfold smallA at *
 refine Ret.toEq ?_
 unfold F_r2_CardOrder
 (dsimp +instances only [Aa,Ab,Ac,Ad,Ae,Af,Ag])
 have eo : ordK [.i t, .i k, .i m, .s c, .s b] [.i t', .i k', .i m', .s c', .s b'] = or2 (cmpI t t') (or2 (cmpS c c') (or2 (cmpS b b') (or2 (cmpI m m') (cmpI k k')))) := rfl
 rw [eo]
 simp only [str_eq]
 unfold or2
 by_cases e1 : t = t'
 ·subst e1
  have z : cmpI t t = 0 := cmpI_z.2 rfl
  simp only [z]
  refine Ret.neg (by simp) ?_
  by_cases e2 : cmpS c c' = 0
  ·simp only [e2]
   refine Ret.neg (by simp) ?_
   by_cases e3 : cmpS b b' = 0
   ·simp only [e3]
    refine Ret.neg (by simp) ?_
    by_cases e4 : m = m'
    ·subst e4
     have z : cmpI m m = 0 := cmpI_z.2 rfl
     simp only [z]
     refine Ret.neg (by simp) ?_
     refine Ret.p ?_
     refine Ret.cE (sign_ok k k') ?_
     exact Ret.some (by simp [gi, G.int])
    ·have z : ¬ cmpI m m' = 0 := fun h => e4 (cmpI_z.1 h)
     refine Ret.pos (by simpa using e4) ?_
     refine Ret.p ?_
     refine Ret.cE (sign_ok m m') ?_
     exact Ret.some (by simp [gi, G.int, z])
   ·refine Ret.pos (by simpa using e3) (Ret.call (Ret.eq (rfl : F_strings_Compare [.s b, .s b'] = some [.i (cmpS b b')])) ?_)
    rintro _ rfl
    exact Ret.some (by simp [gi, G.int, G.str, e3])
  ·refine Ret.pos (by simpa using e2) (Ret.call (Ret.eq (rfl : F_strings_Compare [.s c, .s c'] = some [.i (cmpS c c')])) ?_)
   rintro _ rfl
   exact Ret.some (by simp [gi, G.int, G.str, e2])
 ·have z : ¬ cmpI t t' = 0 := fun h => e1 (cmpI_z.1 h)
  refine Ret.pos (by simpa using e1) ?_
  refine Ret.p ?_
  refine Ret.cE (sign_ok t t') ?_
  exact Ret.some (by simp [gi, G.int, z])
def faultK1A (x : List G) : Int :=
 bif !inB (gi x 0).int 0 345686399999 then 1 else bif !inB (gi x 1).int 1 3 then 4 else bif !inB (gi x 2).int 1 3 then 4 else bif !isCallC (gi x 3).str then 3 else bif !keyC (gi x 4).str then 5 else 0
def stepKA (rows : List (List G)) (i : Nat) : Int :=
 if faultK1A (rows.getD i []) ≠ 0 then faultK1A (rows.getD i []) else if 0 < i ∧ 0 ≤ ordK (rows.getD (i - 1) []) (rows.getD i []) then 7 else 0
def faultCardsA (rows : List (List G)) : Int := if 3000 < rows.length then 2 else fw (stepKA rows) rows.length
theorem cardsFault_stepA (rows : List (List G)) (hr : ∀ z ∈ rows, CrdA z) (hn : rows.length ≤ 3000) (i : Nat) (hi : i < rows.length) :
  Ret (st_r2_CardsFault_4 [.l rows, .l rows, .i (rows.length : Int), .i (i : Int)]) fun o => (stepKA rows i = 0 ∧ o = (none, [.l rows, .l rows, .i (rows.length : Int), .i ((i + 1 : Nat) : Int)])) ∨ (stepKA rows i ≠ 0 ∧ o = (some 0, [.i (stepKA rows i)])) := by
 obtain ⟨t, k, m, c, b, hx, ht, hk, hm, hc, hb⟩ := hr _ (getD_row hi)
 have hC : CrdA (rows.getD i []) := hr _ (getD_row hi)
 have ef : faultK1A (rows.getD i []) = bif !inB t 0 345686399999 then 1 else bif !inB k 1 3 then 4 else bif !inB m 1 3 then 4 else bif !isCallC c then 3 else bif !keyC b then 5 else 0 := by
  rw [hx]
  rfl
 unfold st_r2_CardsFault_4
 (dsimp +instances only [Aa,Ab,Ac,Ad,Ae,Af,Ag])
 simp only [Int.toNat_natCast, hC.eta]
 have f0 : (gi (rows.getD i []) 0).int = t := by rw [hx]; rfl
 have f1 : (gi (rows.getD i []) 1).int = k := by rw [hx]; rfl
 have f2 : (gi (rows.getD i []) 2).int = m := by rw [hx]; rfl
 have f3 : (gi (rows.getD i []) 3).str = c := by rw [hx]; rfl
 have f4 : (gi (rows.getD i []) 4).str = b := by rw [hx]; rfl
 simp only [f0, f1, f2, f3, f4]
 refine Ret.p (Ret.p ?_)
 refine Ret.cE (moment_ok t) ?_
 (dsimp +instances only [Aa,Ab,Ac,Ad,Ae,Af,Ag])
 refine Ret.test (fun h => ?_) fun h0 => ?_
 ·have e : stepKA rows i = 1 := by
   unfold stepKA
   rw [ef, h]
   rfl
  rw [e]
  exact Ret.some (.inr ⟨by omega, rfl⟩)
 rw [h0, cond_false] at ef
 refine Ret.cE (in_eq k 1 3) ?_
 (dsimp +instances only [Aa,Ab,Ac,Ad,Ae,Af,Ag])
 refine Ret.test (fun h => ?_) fun h1 => ?_
 ·have e : stepKA rows i = 4 := by
   unfold stepKA
   rw [ef, h]
   rfl
  rw [e]
  exact Ret.some (.inr ⟨by omega, rfl⟩)
 rw [h1, cond_false] at ef
 refine Ret.cE (in_eq m 1 3) ?_
 (dsimp +instances only [Aa,Ab,Ac,Ad,Ae,Af,Ag])
 refine Ret.test (fun h => ?_) fun h2 => ?_
 ·have e : stepKA rows i = 4 := by
   unfold stepKA
   rw [ef, h]
   rfl
  rw [e]
  exact Ret.some (.inr ⟨by omega, rfl⟩)
 rw [h2, cond_false] at ef
 refine Ret.cE (callRef_any c hc.1 hc.2) ?_
 (dsimp +instances only [Aa,Ab,Ac,Ad,Ae,Af,Ag])
 refine Ret.test (fun h => ?_) fun h3 => ?_
 ·have e : stepKA rows i = 3 := by
   unfold stepKA
   rw [ef, h]
   rfl
  rw [e]
  exact Ret.some (.inr ⟨by omega, rfl⟩)
 rw [h3, cond_false] at ef
 refine Ret.cE (keyAny b hb.2) ?_
 (dsimp +instances only [Aa,Ab,Ac,Ad,Ae,Af,Ag])
 refine Ret.test (fun h => ?_) fun h4 => ?_
 ·have e : stepKA rows i = 5 := by
   unfold stepKA
   rw [ef, h]
   rfl
  rw [e]
  exact Ret.some (.inr ⟨by omega, rfl⟩)
 rw [h4, cond_false] at ef
 have e : stepKA rows i = if 0 < i ∧ 0 ≤ ordK (rows.getD (i - 1) []) (rows.getD i []) then 7 else 0 := by
  unfold stepKA
  rw [ef, if_neg (by simp)]
 refine Ret.test (fun h => ?_) fun h => ?_
 ·simp only [ltI_eq, decide_eq_true_eq] at h
  have ei : ((i : Int) - 1).toNat = i - 1 := by omega
  have hy : CrdA (rows.getD (i - 1) []) := hr _ (getD_row (by omega))
  simp only [ei, hy.eta]
  refine Ret.p (Ret.p ?_)
  refine Ret.cE (cardOrder_eqA hy hC) ?_
  (dsimp +instances only [Aa,Ab,Ac,Ad,Ae,Af,Ag])
  refine Ret.test (fun h7 => ?_) fun h7 => ?_
  ·simp only [leI_eq, decide_eq_true_eq] at h7
   rw [if_pos ⟨by omega, h7⟩] at e
   rw [e]
   exact Ret.some (.inr ⟨by omega, rfl⟩)
  ·simp only [leI_eq, decide_eq_false_iff_not] at h7
   rw [if_neg (fun h' => h7 h'.2)] at e
   refine Ret.p (Ret.some (.inl ⟨e, rfl⟩))
 ·simp only [ltI_eq, decide_eq_false_iff_not] at h
  rw [if_neg (by omega)] at e
  refine Ret.p (Ret.some (.inl ⟨e, rfl⟩))
theorem cardsFault_okA (rows : List (List G)) (hr : ∀ z ∈ rows, CrdA z) : F_r2_CardsFault [.l rows] = some [.i (faultCardsA rows)] := by
 refine Ret.toEq ?_
 unfold F_r2_CardsFault faultCardsA
 (dsimp +instances only [Aa,Ab,Ac,Ad,Ae,Af,Ag])
 by_cases hn : 3000 < rows.length
 ·refine Ret.p ?_
  rw [if_pos hn]
  exact Ret.some rfl
 ·refine Ret.n ?_
  rw [if_neg hn]
  refine Ret.loop (fw_loop (fun i => [.l rows, .l rows, .i (rows.length : Int), .i (i : Int)]) rows.length (stepKA rows) [] (by omega) (cardsFault_stepA rows hr (by omega)) ?_) rfl ?_
  ·unfold st_r2_CardsFault_4
   (dsimp +instances only [Aa,Ab,Ac,Ad,Ae,Af,Ag])
   (repeat first|refine Ret.p ?_|refine Ret.n ?_)
   exact Ret.some rfl
  ·rintro _ _ (⟨rfl, h, rfl⟩ | ⟨rfl, rfl, _⟩)
   ·rw [h]
    exact Ret.some rfl
   ·exact Ret.some rfl
theorem checkCards_stepA (rows : List (List G)) (hr : ∀ z ∈ rows, CrdA z) (hn : rows.length ≤ 3000) (i : Nat) (hi : i < rows.length) :
  Ret (st_club_CheckCards_4 [.l rows, .l rows, .i (rows.length : Int), .i (i : Int)]) fun o => (stepKA rows i = 0 ∧ o = (none, [.l rows, .l rows, .i (rows.length : Int), .i ((i + 1 : Nat) : Int)])) ∨ (stepKA rows i ≠ 0 ∧ o = (some 0, [.i (stepKA rows i)])) := by
 obtain ⟨t, k, m, c, b, hx, ht, hk, hm, hc, hb⟩ := hr _ (getD_row hi)
 have hC : CrdA (rows.getD i []) := hr _ (getD_row hi)
 have ef : faultK1A (rows.getD i []) = bif !inB t 0 345686399999 then 1 else bif !inB k 1 3 then 4 else bif !inB m 1 3 then 4 else bif !isCallC c then 3 else bif !keyC b then 5 else 0 := by
  rw [hx]
  rfl
 unfold st_club_CheckCards_4
 (dsimp +instances only [Aa,Ab,Ac,Ad,Ae,Af,Ag])
 simp only [Int.toNat_natCast, hC.eta]
 have f0 : (gi (rows.getD i []) 0).int = t := by rw [hx]; rfl
 have f1 : (gi (rows.getD i []) 1).int = k := by rw [hx]; rfl
 have f2 : (gi (rows.getD i []) 2).int = m := by rw [hx]; rfl
 have f3 : (gi (rows.getD i []) 3).str = c := by rw [hx]; rfl
 have f4 : (gi (rows.getD i []) 4).str = b := by rw [hx]; rfl
 simp only [f0, f1, f2, f3, f4]
 refine Ret.p (Ret.p ?_)
 refine Ret.cE (isMoment_ok t) ?_
 (dsimp +instances only [Aa,Ab,Ac,Ad,Ae,Af,Ag])
 refine Ret.test (fun h => ?_) fun h0 => ?_
 ·have e : stepKA rows i = 1 := by
   unfold stepKA
   rw [ef, h]
   rfl
  rw [e]
  exact Ret.some (.inr ⟨by omega, rfl⟩)
 rw [h0, cond_false] at ef
 refine Ret.cE (outside_eq k 1 3) ?_
 (dsimp +instances only [Aa,Ab,Ac,Ad,Ae,Af,Ag])
 refine Ret.test (fun h => ?_) fun h1 => ?_
 ·have e : stepKA rows i = 4 := by
   unfold stepKA
   rw [ef, h]
   rfl
  rw [e]
  exact Ret.some (.inr ⟨by omega, rfl⟩)
 rw [h1, cond_false] at ef
 refine Ret.cE (isMode_ok m) ?_
 (dsimp +instances only [Aa,Ab,Ac,Ad,Ae,Af,Ag])
 refine Ret.test (fun h => ?_) fun h2 => ?_
 ·have e : stepKA rows i = 4 := by
   unfold stepKA
   rw [ef, h]
   rfl
  rw [e]
  exact Ret.some (.inr ⟨by omega, rfl⟩)
 rw [h2, cond_false] at ef
 refine Ret.cE (callIs_any c hc.1 hc.2) ?_
 (dsimp +instances only [Aa,Ab,Ac,Ad,Ae,Af,Ag])
 refine Ret.test (fun h => ?_) fun h3 => ?_
 ·have e : stepKA rows i = 3 := by
   unfold stepKA
   rw [ef, h]
   rfl
  rw [e]
  exact Ret.some (.inr ⟨by omega, rfl⟩)
 rw [h3, cond_false] at ef
 refine Ret.cE (isKeyAny b hb.2) ?_
 (dsimp +instances only [Aa,Ab,Ac,Ad,Ae,Af,Ag])
 refine Ret.test (fun h => ?_) fun h4 => ?_
 ·have e : stepKA rows i = 5 := by
   unfold stepKA
   rw [ef, h]
   rfl
  rw [e]
  exact Ret.some (.inr ⟨by omega, rfl⟩)
 rw [h4, cond_false] at ef
 have e : stepKA rows i = if 0 < i ∧ 0 ≤ ordK (rows.getD (i - 1) []) (rows.getD i []) then 7 else 0 := by
  unfold stepKA
  rw [ef, if_neg (by simp)]
 refine Ret.test (fun h => ?_) fun h => ?_
 ·simp only [ltI_eq, decide_eq_true_eq] at h
  have ei : ((i : Int) - 1).toNat = i - 1 := by omega
  have hy : CrdA (rows.getD (i - 1) []) := hr _ (getD_row (by omega))
  simp only [ei, hy.eta]
  refine Ret.p (Ret.p ?_)
  refine Ret.cE (compareCards_eq _ _) ?_
  (dsimp +instances only [Aa,Ab,Ac,Ad,Ae,Af,Ag])
  refine Ret.test (fun h7 => ?_) fun h7 => ?_
  ·simp only [leI_eq, decide_eq_true_eq] at h7
   rw [if_pos ⟨by omega, h7⟩] at e
   rw [e]
   exact Ret.some (.inr ⟨by omega, rfl⟩)
  ·simp only [leI_eq, decide_eq_false_iff_not] at h7
   rw [if_neg (fun h' => h7 h'.2)] at e
   refine Ret.p (Ret.some (.inl ⟨e, rfl⟩))
 ·simp only [ltI_eq, decide_eq_false_iff_not] at h
  rw [if_neg (by omega)] at e
  refine Ret.p (Ret.some (.inl ⟨e, rfl⟩))
theorem checkCards_okA (rows : List (List G)) (hr : ∀ z ∈ rows, CrdA z) : F_club_CheckCards [.l rows] = some [.i (faultCardsA rows)] := by
 refine Ret.toEq ?_
 unfold F_club_CheckCards faultCardsA
 (dsimp +instances only [Aa,Ab,Ac,Ad,Ae,Af,Ag])
 by_cases hn : 3000 < rows.length
 ·refine Ret.p ?_
  rw [if_pos hn]
  exact Ret.some rfl
 ·refine Ret.n ?_
  rw [if_neg hn]
  refine Ret.loop (fw_loop (fun i => [.l rows, .l rows, .i (rows.length : Int), .i (i : Int)]) rows.length (stepKA rows) [] (by omega) (checkCards_stepA rows hr (by omega)) ?_) rfl ?_
  ·unfold st_club_CheckCards_4
   (dsimp +instances only [Aa,Ab,Ac,Ad,Ae,Af,Ag])
   (repeat first|refine Ret.p ?_|refine Ret.n ?_)
   exact Ret.some rfl
  ·rintro _ _ (⟨rfl, h, rfl⟩ | ⟨rfl, rfl, _⟩)
   ·rw [h]
    exact Ret.some rfl
   ·exact Ret.some rfl
def modeL : List (List UInt8) := [[], [99, 111, 100, 101], [118, 111, 105, 99, 101], [100, 97, 116, 97]]
def kindL : List (List UInt8) := [[], [115, 101, 110, 116], [99, 97, 109, 101], [114, 101, 116, 117, 114, 110, 101, 100]]
theorem kindKit : F_club_kindWords [] = some [.l (rowsW kindL)] := rfl
theorem kindRef : F_r2_cardWords [] = some [.l (rowsW kindL)] := rfl
theorem modeKit : F_kit_ModeWords [] = some [.l (rowsW modeL)] := rfl
theorem modeRef : F_r2_plainModes [] = some [.l (rowsW modeL)] := rfl
def crdOk (W : List (List UInt8)) : Bool := W.length == 5 && (okN [W.getD 0 []] && (ltI 0 (ixL kindL (W.getD 1 [])) && ltI 0 (ixL modeL (W.getD 4 []))))
def crdW (W : List (List UInt8)) : List G := [.i ((numL 15 (W.getD 0 [])).getD 0), .i (ixL kindL (W.getD 1 [])), .i (ixL modeL (W.getD 4 [])), .s (byL (W.getD 2 [])), .s (byL (W.getD 3 []))]
theorem not5 {W : List (List UInt8)} (h : (((W.length : Nat) : Int) != 5) = true) : (W.length == 5) = false := by
 rw [beq_eq_false_iff_ne]
 intro e
 rw [e] at h
 cases h
theorem is5 {W : List (List UInt8)} (h : (((W.length : Nat) : Int) != 5) = false) : W.length = 5 := by
 have : ((W.length : Nat) : Int) = 5 := by simpa using h
 omega
theorem lt1 (n : Int) : ltI n 1 = !ltI 0 n := by
 rw [ltI_eq, ltI_eq, Bool.eq_iff_iff, Bool.not_eq_true', decide_eq_true_eq, decide_eq_false_iff_not]
 omega
def goodP (p : List UInt8) : Bool := wordsOk (piecesL 32 p) && crdOk (piecesL 32 p)
def spotP (p : List UInt8) : List G := crdW (piecesL 32 p)
theorem readLineAny (p : List UInt8) (hp : p.length ≤ 900000) : Ret (F_club_readLine [.s (byL p)]) fun g => ∃ row, g = [.l [row], .t (goodP p)] ∧ (goodP p = true → row = spotP p) := by
 have hw := wordsAny (byL p) (by rw [byL_size]; exact hp)
 rw [byL_data] at hw
 have hle : ∀ y ∈ piecesL 32 p, y.length ≤ p.length := fun y hy => piece_le hy
 unfold F_club_readLine
 (dsimp +instances only [Aa,Ab,Ac,Ad,Ae,Af,Ag])
 refine Ret.cE hw ?_
 unfold goodP spotP
 generalize piecesL 32 p = W at hle
 cases h1 : wordsOk W with
 | false => exact Ret.pos rfl (Ret.some ⟨_, rfl, fun h => by cases h⟩)
 | true =>
 rw [Bool.true_and]
 refine Ret.neg rfl ?_
 simp only [cond_true]
 (dsimp +instances only [Aa,Ab,Ac,Ad,Ae,Af,Ag])
 rw [rowsW_len]
 unfold crdOk
 refine Ret.test (fun h => ?_) fun h => ?_
 ·rw [not5 h]
  exact Ret.some ⟨_, rfl, fun h => by cases h⟩
 have h5 := is5 h
 rw [h5, rowsW_get W 0 (by omega)]
 refine Ret.pos rfl ?_
 refine Ret.call (Ret.eq (numsAny [W.getD 0 []] (by simp) fun y hy => by
  rw [List.mem_singleton.1 hy]
  exact getD_le fun y hy => Nat.le_trans (hle y hy) hp)) ?_
 rintro _ rfl
 refine Ret.cE kindKit ?_
 rw [rowsW_get W 1 (by omega)]
 refine Ret.pos rfl ?_
 refine Ret.cE (indexAny kindL (W.getD 1 []) (by decide)) ?_
 refine Ret.cE modeKit ?_
 rw [rowsW_get W 4 (by omega)]
 refine Ret.pos rfl ?_
 refine Ret.cE (indexAny modeL (W.getD 4 []) (by decide)) ?_
 cases h3 : okN [W.getD 0 []] with
 | false => exact Ret.pos rfl (Ret.some ⟨_, rfl, fun h => by cases h⟩)
 | true =>
  refine Ret.neg rfl ?_
  simp only [cond_true]
  (dsimp +instances only [Aa,Ab,Ac,Ad,Ae,Af,Ag])
  rw [lt1, lt1]
  cases h6 : ltI 0 (ixL kindL (W.getD 1 [])) with
  | false => exact Ret.pos rfl (Ret.some ⟨_, rfl, fun h => by cases h⟩)
  | true =>
   refine Ret.neg rfl ?_
   cases h7 : ltI 0 (ixL modeL (W.getD 4 [])) with
   | false => exact Ret.pos rfl (Ret.some ⟨_, rfl, fun h => by cases h⟩)
   | true =>
    refine Ret.neg rfl ?_
    have hV : (valN [W.getD 0 []]).length = 1 := by simp [valN]
    rw [rowsI_len, hV, rowsW_get W 2 (by omega), rowsW_get W 3 (by omega), rowsI_get _ 0 (by omega)]
    exact Ret.pos rfl (Ret.pos rfl (Ret.pos rfl (Ret.some ⟨_, rfl, fun _ => rfl⟩)))
theorem readPlain (rows : List (List G)) (p : List UInt8) (hr : rows.length ≤ 900000) (hp : p.length ≤ 900000) : Ret (F_r2_CardsRead_1 [.l rows, .s (byL p)]) fun g => ∃ rows', g = [.l rows', .t (goodP p)] ∧ rows'.length ≤ rows.length + 1 ∧ (goodP p = true → rows' = rows ++ [spotP p]) := by
 have hw := wordsPlain (byL p) (by rw [byL_size]; exact hp)
 rw [byL_data] at hw
 have hle : ∀ y ∈ piecesL 32 p, y.length ≤ p.length := fun y hy => piece_le hy
 unfold F_r2_CardsRead_1
 (dsimp +instances only [Aa,Ab,Ac,Ad,Ae,Af,Ag])
 refine Ret.cE hw ?_
 (dsimp +instances only [Aa,Ab,Ac,Ad,Ae,Af,Ag])
 rw [rowsW_len]
 unfold goodP spotP
 generalize piecesL 32 p = W at hle
 refine Ret.test (fun h1 => ?_) fun h1 => ?_
 ·have h1 : wordsOk W = false := by simpa using h1
  rw [h1]
  exact Ret.p (Ret.some ⟨rows, rfl, by omega, fun h => by cases h⟩)
 have h1 : wordsOk W = true := by simpa using h1
 rw [h1, Bool.true_and]
 unfold crdOk
 refine Ret.test (fun h => ?_) fun h => ?_
 ·rw [not5 h]
  exact Ret.p (Ret.some ⟨rows, rfl, by omega, fun h => by cases h⟩)
 have h5 := is5 h
 rw [h5, rowsW_get W 0 (by omega)]
 refine Ret.pos rfl ?_
 have hn := numRef (byL (W.getD 0 [])) (by rw [byL_size]; exact getD_le fun y hy => Nat.le_trans (hle y hy) hp)
 rw [byL_data] at hn
 refine Ret.call hn ?_
 rintro _ ⟨n, rfl, hn⟩
 refine Ret.cE kindRef ?_
 rw [rowsW_get W 1 (by omega)]
 refine Ret.pos rfl ?_
 refine Ret.cE (indexAny kindL (W.getD 1 []) (by decide)) ?_
 rw [rowsW_get W 2 (by omega), rowsW_get W 3 (by omega)]
 refine Ret.pos rfl (Ret.pos rfl ?_)
 refine Ret.cE modeRef ?_
 rw [rowsW_get W 4 (by omega)]
 refine Ret.pos rfl ?_
 refine Ret.cE (indexAny modeL (W.getD 4 []) (by decide)) ?_
 (dsimp +instances only [Aa,Ab,Ac,Ad,Ae,Af,Ag])
 have ho : okN [W.getD 0 []] = (numL 15 (W.getD 0 [])).isSome := by simp [okN]
 rw [ho]
 refine Ret.p ?_
 refine Ret.test (fun h3 => ?_) fun h3 => ?_
 ·obtain ⟨v, hv⟩ := Option.isSome_iff_exists.1 (show (numL 15 (W.getD 0 [])).isSome = true from h3)
  have := hn v hv
  subst this
  rw [show (numL 15 (W.getD 0 [])).isSome = true from h3, Bool.true_and]
  refine Ret.test (fun h6 => ?_) fun h6 => ?_
  ·have h6 : ltI 0 (ixL kindL (W.getD 1 [])) = true := h6
   rw [h6, Bool.true_and]
   refine Ret.pos (by simp) (Ret.some ⟨_, rfl, by simp, fun h => ?_⟩)
   unfold crdW
   rw [hv]
   rfl
  ·have h6 : ltI 0 (ixL kindL (W.getD 1 [])) = false := h6
   rw [h6, Bool.false_and]
   exact Ret.pos (by simp) (Ret.some ⟨_, rfl, by simp, fun h => by cases h⟩)
 ·have h3 : (numL 15 (W.getD 0 [])).isSome = false := h3
  rw [h3, Bool.false_and]
  exact Ret.pos (by simp) (Ret.some ⟨_, rfl, by simp, fun h => by cases h⟩)
def badAt (L : List (List UInt8)) : Nat := L.findIdx fun p => !goodP p
theorem badAt_here {L : List (List UInt8)} {i : Nat} (hi : i < L.length) (h : (L.take i).all goodP = true) (hb : goodP L[i] = false) : badAt L = i := by
 unfold badAt
 rw [List.findIdx_eq hi]
 refine ⟨by rw [hb]; rfl, fun j hj => ?_⟩
 have hj' : j < (L.take i).length := by rw [List.length_take]; omega
 have := List.all_eq_true.1 h (L.take i)[j] (List.getElem_mem hj')
 rw [List.getElem_take] at this
 rw [this]
 rfl
theorem badAt_none {L : List (List UInt8)} (h : L.all goodP = true) : badAt L = L.length := by
 unfold badAt
 rw [List.findIdx_eq_length]
 intro p hp
 rw [List.all_eq_true.1 h p hp]
 rfl
theorem txt_drop : ∀ (L : List (List UInt8)) (z : List UInt8) (i : Nat), (txtL (L.drop i) z).length ≤ (txtL L z).length
 | [], z, i => by simp
 | p :: L, z, 0 => Nat.le_refl _
 | p :: L, z, i + 1 => by
  have := txt_drop L z i
  rw [txtL_cons, List.drop_succ_cons, List.length_append, List.length_cons]
  omega
theorem linesPlain (L : List (List UInt8)) (z : List UInt8) (hL : ∀ p ∈ L, (10 : UInt8) ∉ p) (hz : (10 : UInt8) ∉ z) (hl : (txtL L z).length ≤ 900000) (hn : L.length ≤ 900000) :
  Ret (F_r2_Lines [.l [], .s (byL (txtL L z))]) fun g => ∃ (rows : List (List G)) (k : Int), g = [.l rows, .i k, .t (L.all goodP && z.isEmpty)] ∧ ((L.all goodP && z.isEmpty) = true → rows = L.map spotP) ∧ ((L.all goodP && z.isEmpty) = false → k = (badAt L : Int)) := by
 unfold F_r2_Lines
 (dsimp +instances only [Aa,Ab,Ac,Ad,Ae,Af,Ag])
 refine Ret.loop (P := fun c g => (c = 1 ∧ (L.all goodP && z.isEmpty) = true ∧ g = [.l (L.map spotP)]) ∨ (c = 0 ∧ (L.all goodP && z.isEmpty) = false ∧ ∃ rows : List (List G), g = [.l rows, .i (badAt L : Int), .t false])) ?_ rfl ?_
 ·refine ((count_runs (σ := Unit) (fun _ i => [.l ((L.take i).map spotP), .s (byL (txtL (L.drop i) z)), .i (i : Int)]) L.length
   (fun _ => bif z.isEmpty then (1, [.l (L.map spotP)]) else (0, [.l (L.map spotP), .i (L.length : Int), .t false]))
   (fun _ i => (L.take i).all goodP = true)
   (fun c g => c = 0 ∧ (L.all goodP && z.isEmpty) = false ∧ ∃ rows : List (List G), g = [.l rows, .i (badAt L : Int), .t false]) ?_ ?_ L.length () 0 (by omega) rfl).to (by omega)).mono ?_
  ·rintro _ i hp hi
   have ht : L.take (i + 1) = L.take i ++ [L[i]] := by rw [List.take_add_one, List.getElem?_eq_getElem hi]; rfl
   have hd : L.drop i = L[i] :: L.drop (i + 1) := List.drop_eq_getElem_cons hi
   have hm : L[i] ∈ L := List.getElem_mem hi
   have hb := fun h => badAt_here hi hp h
   have hlen : (txtL (L.drop i) z).length ≤ 900000 := Nat.le_trans (txt_drop L z i) hl
   rw [hd, txtL_cons] at hlen
   generalize L[i] = p at ht hd hm hb hlen
   unfold st_r2_Lines_2
   (dsimp +instances only [Aa,Ab,Ac,Ad,Ae,Af,Ag])
   rw [hd, emptyL_eq, txtL_cons]
   refine Ret.pos (by simp) ?_
   refine Ret.cE (cutHit p _ (hL p hm) hlen) ?_
   (dsimp +instances only [Aa,Ab,Ac,Ad,Ae,Af,Ag])
   refine Ret.neg rfl ?_
   have hpl : p.length ≤ 900000 := by simp at hlen; omega
   have hml : ((L.take i).map spotP).length = i := by simp; omega
   refine Ret.callb (readPlain ((L.take i).map spotP) p (by omega) hpl) (by simp) ?_
   rintro _ ⟨rows', rfl, hr1, hr2⟩
   (dsimp +instances only [Aa,Ab,Ac,Ad,Ae,Af,Ag])
   refine Ret.test (fun hg => ?_) fun hg => ?_
   ·have hg : goodP p = false := by simpa using hg
    refine Ret.pos (by simp) (Ret.some (.inr ⟨0, _, rfl, rfl, ?_, rows', ?_⟩))
    ·cases hq : L.all goodP with
     | false => rfl
     | true => rw [List.all_eq_true.1 hq p hm] at hg; cases hg
    ·rw [hb hg]
   ·have hg : goodP p = true := by simpa using hg
    refine Ret.p (Ret.pos (by simp) (Ret.some (.inl ⟨(), ?_, ?_⟩)))
    ·rw [hr2 hg, ht]
     simp
    ·rw [ht, List.all_append, hp]
     simp [hg]
  ·rintro _ hp
   rw [List.take_length] at hp
   unfold st_r2_Lines_2
   (dsimp +instances only [Aa,Ab,Ac,Ad,Ae,Af,Ag])
   rw [List.take_length, List.drop_length, emptyL_eq]
   show Ret (bif !z.isEmpty then callF (F_strings_Cut [.s (byL z), _]) _ else _) _
   cases he : z.isEmpty with
   | true => exact Ret.neg rfl (Ret.pos (by simp) (Ret.some rfl))
   | false =>
    refine Ret.pos rfl ?_
    refine Ret.cE (cutMiss z hz) ?_
    exact Ret.pos rfl (Ret.pos (by simp) (Ret.some rfl))
  ·rintro c g (⟨_, hp, hc, hg⟩ | h)
   ·rw [List.take_length] at hp
    cases he : z.isEmpty with
    | true =>
     rw [he] at hc hg
     exact .inl ⟨hc, by rw [hp]; rfl, hg⟩
    | false =>
     rw [he] at hc hg
     exact .inr ⟨hc, by rw [Bool.and_false], _, by rw [badAt_none hp]; exact hg⟩
   ·exact .inr h
 ·rintro c g (⟨rfl, hp, rfl⟩ | ⟨rfl, hp, rows, rfl⟩)
  ·rw [hp]
   exact Ret.neg rfl (Ret.pos (by simp) (Ret.some ⟨_, 0, rfl, (fun _ => rfl), (fun h => by cases h)⟩))
  ·rw [hp]
   exact Ret.pos rfl (Ret.pos (by simp) (Ret.some ⟨rows, (badAt L : Int), rfl, (fun h => by cases h), (fun _ => rfl)⟩))
theorem seen_len (L : List (List UInt8)) (z : List UInt8) : (seenL L z).length = bif z.isEmpty then L.length else L.length + 1 := by
 unfold seenL
 cases z.isEmpty <;> simp
theorem seen_bad {L : List (List UInt8)} {z : List UInt8} {i : Nat} (hi : i < (seenL L z).length) (hp : ((seenL L z).take i).all goodP = true)
  (h : goodP (seenL L z)[i] = false ∨ (z.isEmpty = false ∧ i + 1 = (seenL L z).length)) : badAt L = i ∧ (L.all goodP && z.isEmpty) = false := by
 by_cases hiL : i < L.length
 ·have e1 : (seenL L z)[i] = L[i] := by
   have : (seenL L z)[i]? = L[i]? := by
    unfold seenL
    cases z.isEmpty with
    | true => rfl
    | false => exact List.getElem?_append_left hiL
   rw [List.getElem?_eq_getElem hi, List.getElem?_eq_getElem hiL] at this
   exact Option.some.inj this
  have e2 : (seenL L z).take i = L.take i := by
   unfold seenL
   cases z.isEmpty with
   | true => rfl
   | false => exact List.take_append_of_le_length (by omega)
  rw [e1] at h
  rw [e2] at hp
  have hb : goodP L[i] = false := by
   rcases h with h | ⟨h1, h2⟩
   ·exact h
   ·rw [seen_len, h1] at h2
    have h2 : i + 1 = L.length + 1 := h2
    omega
  refine ⟨badAt_here hiL hp hb, ?_⟩
  cases hq : L.all goodP with
  | false => rfl
  | true =>
   rw [List.all_eq_true.1 hq _ (List.getElem_mem hiL)] at hb
   cases hb
 ·have hz : z.isEmpty = false := by
   cases hz : z.isEmpty with
   | false => rfl
   | true =>
    rw [seen_len, hz] at hi
    exact (hiL hi).elim
  have e2 : i = L.length := by
   rw [seen_len, hz] at hi
   have hi : i < L.length + 1 := hi
   omega
  have e3 : (seenL L z).take i = L := by
   unfold seenL
   rw [hz, e2]
   simp
  rw [e3] at hp
  exact ⟨by rw [badAt_none hp, e2], by rw [hz, Bool.and_false]⟩
theorem readCardsAny (L : List (List UInt8)) (z : List UInt8) (hL : ∀ p ∈ L, (10 : UInt8) ∉ p) (hz : (10 : UInt8) ∉ z) (hl : (txtL L z).length ≤ 200000) (hn : L.length ≤ 200000) (e : Int) (he : F_club_CheckCards [.l (L.map spotP)] = some [.i e]) :
  F_club_Read [.s (byL (txtL L z))] = some (bif L.all goodP && z.isEmpty then (bif e != 0 then [.l [], .i 0, .i e] else [.l (L.map spotP), .i 0, .i 0]) else [.l [], .i (badAt L : Int), .i 9]) := by
 have hle := txt_len_le L z
 have hsl := seen_len L z
 have hnn : (seenL L z).length ≤ 200001 := by
  rw [hsl]
  cases z.isEmpty
  ·show L.length + 1 ≤ 200001
   omega
  ·show L.length ≤ 200001
   omega
 have hseen : ∀ p ∈ seenL L z, p.length ≤ 200000 := by
  intro p hp
  unfold seenL at hp
  have h1 : p ∈ L → p.length ≤ 200000 := fun h => Nat.le_trans (hle.1 p h) hl
  cases hze : z.isEmpty with
  | true => rw [hze] at hp; exact h1 hp
  | false =>
   rw [hze] at hp
   rcases List.mem_append.1 hp with hp | hp
   ·exact h1 hp
   ·rw [List.mem_singleton.1 hp]
    exact Nat.le_trans hle.2 hl
 refine Ret.toEq ?_
 unfold F_club_Read
 (dsimp +instances only [Aa,Ab,Ac,Ad,Ae,Af,Ag])
 refine Ret.neg (by rw [byL_size, ltI_eq, decide_eq_false_iff_not]; omega) ?_
 refine Ret.cE (linesAny L z hL hz (by omega)) ?_
 (dsimp +instances only [Aa,Ab,Ac,Ad,Ae,Af,Ag])
 rw [rowsW_len]
 refine Ret.loop (P := fun c g => (c = 1 ∧ (L.all goodP && z.isEmpty) = true ∧ g = [.l (L.map spotP)]) ∨ (c = 0 ∧ (L.all goodP && z.isEmpty) = false ∧ g = [.l [], .i (badAt L : Int), .i 9])) ?_ rfl ?_
 ·have hI : z.isEmpty = false → 0 < (seenL L z).length := fun h => by rw [hsl, h]; exact Nat.succ_pos _
  have hfinal : (seenL L z).all goodP = true → (z.isEmpty = false → (seenL L z).length < (seenL L z).length) → (L.all goodP && z.isEmpty) = true ∧ seenL L z = L := fun h1 h2 => by
   cases hze : z.isEmpty with
   | false => exact absurd (h2 hze) (Nat.lt_irrefl _)
   | true =>
    have e1 : seenL L z = L := by unfold seenL; rw [hze]; rfl
    rw [e1] at h1
    exact ⟨by rw [h1]; rfl, e1⟩
  have hbad := @seen_bad L z
  generalize seenL L z = S at *
  refine ((count_runs (σ := Unit) (fun _ i => [.l ((S.take i).map spotP), .l (rowsW S), .t z.isEmpty, .l (rowsW S), .i (S.length : Int), .i (i : Int)]) S.length
   (fun _ => (1, [.l (S.map spotP)]))
   (fun _ i => (S.take i).all goodP = true ∧ (z.isEmpty = false → i < S.length))
   (fun c g => c = 0 ∧ (L.all goodP && z.isEmpty) = false ∧ g = [.l [], .i (badAt L : Int), .i 9]) ?_ ?_ S.length () 0 (by omega) ⟨rfl, hI⟩).to (by omega)).mono ?_
  ·rintro _ i ⟨hp, hlast⟩ hi
   have ht : S.take (i + 1) = S.take i ++ [S[i]] := by rw [List.take_add_one, List.getElem?_eq_getElem hi]; rfl
   have hm : S[i] ∈ S := List.getElem_mem hi
   have hb := hbad hi hp
   have hg := rowsW_at S i hi
   generalize S[i] = p at ht hm hb hg
   have hpl := hseen p hm
   have hpl : p.length ≤ 900000 := by omega
   have hml : ((S.take i).map spotP).length = i := by simp; omega
   have err : badAt L = i ∧ (L.all goodP && z.isEmpty) = false → ∀ {Q : Option Nat × List G → Prop}, (∀ c g, (c = 0 ∧ (L.all goodP && z.isEmpty) = false ∧ g = [.l [], .i (badAt L : Int), .i 9]) → Q (some c, g)) → Ret (some (some 0, [G.l [], G.i (i : Int), G.i 9])) Q := fun h Q hQ =>
    Ret.some (hQ 0 _ ⟨rfl, h.2, by rw [h.1]⟩)
   have hrl := readLineAny p hpl
   unfold st_club_Read_6
   (dsimp +instances only [Aa,Ab,Ac,Ad,Ae,Af,Ag])
   rw [rowsW_len]
   refine Ret.p (Ret.p ?_)
   simp only [Int.toNat_natCast, hg]
   (dsimp +instances only [Aa,Ab,Ac,Ad,Ae,Af,Ag])
   refine Ret.call hrl ?_
   rintro _ ⟨row, rfl, hrow⟩
   cases h3 : goodP p with
   | false => exact Ret.pos rfl (err (hb (.inl h3)) fun c g h => .inr ⟨c, g, rfl, h⟩)
   | true =>
    refine Ret.neg rfl ?_
    have step : (z.isEmpty = false → i + 1 < S.length) → ((S.take i).map spotP ++ [gEta KCard row]) = (S.take (i + 1)).map spotP ∧ ((S.take (i + 1)).all goodP = true ∧ (z.isEmpty = false → i + 1 < S.length)) := fun h2 => by
     refine ⟨?_, ?_, h2⟩
     ·rw [ht, List.map_append, List.map_singleton, hrow h3]
      rfl
     ·rw [ht, List.all_append, hp, List.all_cons, h3]
      rfl
    cases hze : z.isEmpty with
    | true =>
     obtain ⟨s1, s2⟩ := step (fun h => by rw [hze] at h; cases h)
     refine Ret.neg rfl (Ret.p (Ret.p (Ret.pos (by simp) (Ret.some (.inl ⟨(), ?_, ?_⟩)))))
     ·(dsimp +instances only [Aa,Ab,Ac,Ad,Ae,Af,Ag])
      rw [s1]
      rfl
     ·rw [hze] at s2
      exact s2
    | false =>
     refine Ret.pos rfl (Ret.p ?_)
     cases h4 : ((i : Int) == (S.length : Int) - 1) with
     | true =>
      have h4 : (i : Int) = (S.length : Int) - 1 := by simpa using h4
      exact Ret.pos rfl (err (hb (.inr ⟨hze, by omega⟩)) fun c g h => .inr ⟨c, g, rfl, by rw [hze] at h; exact h⟩)
     | false =>
      have h4 : (i : Int) ≠ (S.length : Int) - 1 := by simpa using h4
      obtain ⟨s1, s2⟩ := step (fun _ => by omega)
      refine Ret.neg rfl (Ret.p (Ret.p (Ret.pos (by simp) (Ret.some (.inl ⟨(), ?_, ?_⟩)))))
      ·(dsimp +instances only [Aa,Ab,Ac,Ad,Ae,Af,Ag])
       rw [s1]
       rfl
      ·rw [hze] at s2
       exact s2
  ·rintro _ ⟨hp, hlast⟩
   unfold st_club_Read_6
   (dsimp +instances only [Aa,Ab,Ac,Ad,Ae,Af,Ag])
   rw [rowsW_len, List.take_length]
   exact Ret.n (Ret.pos (by simp) (Ret.some rfl))
  ·rintro c g (⟨_, ⟨hp, hlast⟩, rfl, rfl⟩ | h)
   ·rw [List.take_length] at hp
    have h := hfinal hp hlast
    exact .inl ⟨rfl, h.1, by rw [h.2]⟩
   ·exact .inr h
 ·rintro c g (⟨rfl, hp, rfl⟩ | ⟨rfl, hp, rfl⟩)
  ·rw [hp]
   (dsimp +instances only [Aa,Ab,Ac,Ad,Ae,Af,Ag])
   refine Ret.neg rfl ?_
   refine Ret.callb (Ret.eq he) (by simp) ?_
   rintro _ rfl
   (dsimp +instances only [Aa,Ab,Ac,Ad,Ae,Af,Ag])
   cases hq : (e != 0) with
   | true => exact Ret.pos rfl (Ret.some rfl)
   | false => exact Ret.neg rfl (Ret.pos (by simp) (Ret.some rfl))
  ·rw [hp]
   exact Ret.pos rfl (Ret.some rfl)
theorem joinAny (ws : List ByteArray) (hn : ws.length ≤ 1000) (hl : (lineL (ws.map (·.data.toList))).length ≤ 1000000) : F_strings_Join [.l (ws.map fun w => [.s w]), .s (⟨#[32]⟩ : ByteArray)] = some [.s (byL (Lib.join (ws.map (·.data.toList)) [32]))] := by
 have e : joinB (ws.map fun w => [G.s w]) (⟨#[32]⟩ : ByteArray) = byL (Lib.join (ws.map (·.data.toList)) [32]) := by
  unfold joinB
  rw [strs_map]
  rfl
 have hl' : (Lib.join (ws.map (·.data.toList)) [32]).length + 1 ≤ 1000000 := by
  simpa [lineL] using hl
 refine Ret.toEq ?_
 unfold F_strings_Join joinF
 (dsimp +instances only [Aa,Ab,Ac,Ad,Ae,Af,Ag])
 rw [e, byL_size]
 refine Ret.pos ?_ (Ret.some rfl)
 rw [List.length_map, Bool.and_eq_true, Nat.ble_eq, Nat.ble_eq]
 omega
theorem ascii_app {a b : ByteArray} (ha : asciiB a = true) (hb : asciiB b = true) : asciiB (a ++ b) = true := by
 unfold asciiB at *
 rw [show (a ++ b).data.toList = a.data.toList ++ b.data.toList by simp, List.all_append, ha, hb]
 rfl
theorem rune_ascii (b : UInt8) (h : b.toNat < 128) : (Utf8.encode (IntKind.i32.wrap (b.toNat : Int))).data.toList = [b] := by
 have := all_bytes (fun b => !(Nat.blt b.toNat 128) || (Utf8.encode (IntKind.i32.wrap (b.toNat : Int))).data.toList == [b]) (by kernel_rfl) b
 have h' : Nat.blt b.toNat 128 = true := by rw [Nat.blt_eq]; exact h
 rw [h'] at this
 simpa using this
theorem r_Changed (l : List (List G)) (a : Int) (t w : ByteArray) (ha : 0 ≤ a) (ha1 : a ≤ 900000) (ht : asciiB t = true) (hw : asciiB w = true) (ht1 : t.size ≤ 900000) (hw0 : 0 < w.size) (hw1 : w.size ≤ 100) :
  Ret (F_mk_Changed [.l l, .i a, .s t, .s w]) fun g => ∃ b t', g = [.l l, .i b, .s t'] ∧ a ≤ b ∧ b ≤ a + 3 ∧ asciiB t' = true ∧ t'.size ≤ t.size + 100 := by
 unfold F_mk_Changed
 (dsimp +instances only [Aa,Ab,Ac,Ad,Ae,Af,Ag])
 have e0 : ∀ s : ByteArray, (s.toList == (⟨#[]⟩ : ByteArray).toList) = Nat.beq s.size 0 := fun s => by
  rw [← byL_of s, emptyL_eq, byL_size]
  cases s.data.toList <;> rfl
 rw [e0, e0]
 refine Ret.test (fun h0 => Ret.some ⟨a, w, rfl, by omega, by omega, hw, by omega⟩) fun h0 => ?_
 have h0 : 0 < t.size := by
  rcases Nat.eq_zero_or_pos t.size with h | h
  ·rw [h] at h0; cases h0
  ·exact h
 refine Ret.neg (by cases hq : w.size with
  | zero => omega
  | succ n => rfl) ?_
 refine Ret.call (r_Next l a _ (by omega) (by omega) (by omega) (by omega)) ?_
 rintro _ ⟨i, rfl, hi0, hi1⟩
 (dsimp +instances only [Aa,Ab,Ac,Ad,Ae,Af,Ag])
 refine Ret.call (r_Next l _ _ (by omega) (by omega) (by omega) (by omega)) ?_
 rintro _ ⟨j, rfl, hj0, hj1⟩
 (dsimp +instances only [Aa,Ab,Ac,Ad,Ae,Af,Ag])
 refine Ret.p ?_
 refine Ret.call (r_Next l _ 3 (by omega) (by omega) (by omega) (by omega)) ?_
 rintro _ ⟨k, rfl, hk0, hk1⟩
 (dsimp +instances only [Aa,Ab,Ac,Ad,Ae,Af,Ag])
 obtain ⟨i, rfl⟩ := Int.eq_ofNat_of_zero_le hi0
 obtain ⟨j, rfl⟩ := Int.eq_ofNat_of_zero_le hj0
 simp only [Int.toNat_natCast, Int.ofNat_eq_natCast] at *
 have hc := ascii_get hw (i := j) (by omega)
 have hr := rune_ascii _ hc
 generalize hu : Utf8.encode (IntKind.i32.wrap ((w.data.toList.getD j 0).toNat : Int)) = u at hr
 have hua : asciiB u = true := by
  unfold asciiB
  rw [hr]
  simp only [List.all_cons, List.all_nil, Bool.and_true, Nat.blt_eq]
  exact hc
 have hus : u.size = 1 := by rw [Lib.size_eq, hr]; rfl
 have e1 : ((i : Int) + 1).toNat = i + 1 := by omega
 rw [e1]
 have s1 : (t.extract 0 i).size = i := by rw [ByteArray.size_extract]; omega
 have s2 : (t.extract i t.size).size = t.size - i := by rw [ByteArray.size_extract]; omega
 have s3 : (t.extract (i + 1) t.size).size = t.size - (i + 1) := by rw [ByteArray.size_extract]; omega
 have a1 := ascii_front ht i
 have a2 := ascii_back ht i
 have a3 := ascii_back ht (i + 1)
 simp only [ByteArray.size_append, s1, s2, s3, hus]
 refine Ret.test (fun _ => ?_) fun _ => ?_
 ·refine Ret.p (Ret.pos (by rw [Nat.ble_eq]; omega) (Ret.p (Ret.p (Ret.pos (by rw [Nat.ble_eq]; omega) (Ret.some ⟨_, _, rfl, by omega, by omega, ascii_app (ascii_app a1 hua) a3, ?_⟩)))))
  simp only [ByteArray.size_append, s1, s3, hus]
  omega
 refine Ret.test (fun _ => ?_) fun _ => ?_
 ·refine Ret.p (Ret.pos (by rw [Nat.ble_eq]; omega) (Ret.p (Ret.pos (by rw [Nat.ble_eq]; omega) (Ret.some ⟨_, _, rfl, by omega, by omega, ascii_app (ascii_app a1 hua) a2, ?_⟩))))
  simp only [ByteArray.size_append, s1, s2, hus]
  omega
 ·clear hu hr hua hc h0
  have hi2 : i < t.size := by omega
  refine Ret.pos (by rw [Bool.and_eq_true, nnI_eq, leI_eq, decide_eq_true_eq, decide_eq_true_eq]; omega) ?_
  refine Ret.pos (inI_iff.2 ⟨by omega, by omega⟩) ?_
  refine Ret.pos (by rw [Bool.and_eq_true, nnI_eq, leI_eq, decide_eq_true_eq, decide_eq_true_eq]; omega) ?_
  refine Ret.pos (by rw [Nat.ble_eq]; omega) ?_
  refine Ret.some ⟨_, _, rfl, by omega, by omega, ascii_app a1 a3, ?_⟩
  simp only [ByteArray.size_append, s1, s3]
  omega
def AscL (l : List UInt8) : Prop := ∀ b ∈ l, b.toNat < 128
theorem ascL_byL {l : List UInt8} (h : AscL l) : asciiB (byL l) = true := by
 unfold asciiB
 rw [byL_data, List.all_eq_true]
 exact fun b hb => by rw [Nat.blt_eq]; exact h b hb
theorem ascL_itoa {n : Int} (h : 0 ≤ n) : AscL (Lib.itoa n) := fun b hb => by
 unfold Lib.itoa at hb
 rw [if_neg (by omega)] at hb
 have := dec_mem _ b hb
 omega
theorem ascii_sub {s : ByteArray} (h : asciiB s = true) {w : List UInt8} (hw : ∀ b ∈ w, b ∈ s.data.toList) : asciiB (byL w) = true := by
 unfold asciiB at h ⊢
 rw [byL_data, List.all_eq_true]
 exact fun b hb => List.all_eq_true.1 h b (hw b hb)
theorem txt_mem : ∀ (L : List (List UInt8)) (z : List UInt8), ∀ p ∈ L, ∀ b ∈ p, b ∈ txtL L z
 | q :: L, z, p, hp, b, hb => by
  rw [txtL_cons]
  rcases List.mem_cons.1 hp with rfl | hp
  ·exact List.mem_append_left _ hb
  ·exact List.mem_append_right _ (List.mem_cons_of_mem _ (txt_mem L z p hp b hb))
theorem crdP_A {s : ByteArray} (h : asciiB s = true) {p : List UInt8} (hp : ∀ b ∈ p, b ∈ s.data.toList) (hl : p.length ≤ 200000) : CrdA (spotP p) := by
 have hw : ∀ i, StrA (byL ((piecesL 32 p).getD i [])) := fun i => by
  refine ⟨ascii_sub h fun b hb => ?_, ?_⟩
  ·obtain ⟨y, hy, hb⟩ := getD_mem hb
   exact hp b (pieces_mem hy b hb)
  ·rw [byL_size]
   have := getD_le (W := piecesL 32 p) (i := i) fun y hy => piece_le hy
   omega
 exact ⟨_, _, _, _, _, rfl, num_small, (ix_small _ _ (by decide)).1, (ix_small _ _ (by decide)).1, hw 2, hw 3⟩
theorem both {s : ByteArray} (ha : asciiB s = true) {L : List (List UInt8)} {z : List UInt8} (ht : s.data.toList = txtL L z) (hL : ∀ p ∈ L, (10 : UInt8) ∉ p) (hz : (10 : UInt8) ∉ z) (hl : (txtL L z).length ≤ 200000) (hn : L.length ≤ 200000)
  (hsp : ∀ r ∈ L.map spotP, CrdA r) (e : Int) (hc : F_club_CheckCards [.l (L.map spotP)] = some [.i e]) (hf : F_r2_CardsFault [.l (L.map spotP)] = some [.i e]) (he : e = 0 → (L.map spotP).length ≤ 3000) :
  ∃ (rows : List (List G)) (k e : Int), (∀ z ∈ rows, CrdA z) ∧ rows.length ≤ 3000 ∧ F_club_Read [.s s] = some [.l rows, .i k, .i e] ∧ F_r2_CardsRead [.s s] = some [.l rows, .i k, .i e] := by
 have hz' := Lib.size_eq s
 rw [ht] at hz'
 have h1 := readCardsAny L z hL hz hl hn _ hc
 have hb : byL (txtL L z) = s := by rw [← ht]; exact byL_of s
 rw [hb] at h1
 have h2 : F_r2_CardsRead [.s s] = some (bif L.all goodP && z.isEmpty then (bif e != 0 then [.l [], .i 0, .i e] else [.l (L.map spotP), .i 0, .i 0]) else [.l [], .i (badAt L : Int), .i 9]) := by
  refine Ret.toEq ?_
  unfold F_r2_CardsRead
  (dsimp +instances only [Aa,Ab,Ac,Ad,Ae,Af,Ag])
  refine Ret.neg (by rw [ltI_eq, decide_eq_false_iff_not]; omega) ?_
  have h3 := linesPlain L z hL hz (by omega) (by omega)
  rw [hb] at h3
  refine Ret.call h3 ?_
  rintro _ ⟨rows, k, rfl, h4, h5⟩
  (dsimp +instances only [Aa,Ab,Ac,Ad,Ae,Af,Ag])
  cases hok : (L.all goodP && z.isEmpty) with
  | false =>
   rw [h5 hok]
   exact Ret.pos rfl (Ret.some rfl)
  | true =>
   have h4 := h4 hok
   subst h4
   refine Ret.neg rfl ?_
   refine Ret.callb (Ret.eq hf) (by simp) ?_
   rintro _ rfl
   (dsimp +instances only [Aa,Ab,Ac,Ad,Ae,Af,Ag])
   cases hq : (e != 0) with
   | true => exact Ret.pos rfl (Ret.some rfl)
   | false => exact Ret.neg rfl (Ret.pos (by simp) (Ret.some rfl))
 cases hok : (L.all goodP && z.isEmpty) with
 | false =>
  rw [hok] at h1 h2
  exact ⟨[], _, 9, (fun z hz => by cases hz), Nat.zero_le _, h1, h2⟩
 | true =>
  rw [hok] at h1 h2
  cases hq : (e != 0) with
  | true =>
   rw [hq] at h1 h2
   exact ⟨[], 0, _, (fun z hz => by cases hz), Nat.zero_le _, h1, h2⟩
  | false =>
   rw [hq] at h1 h2
   exact ⟨L.map spotP, 0, 0, hsp, he (by simpa using hq), h1, h2⟩
theorem readBothK (s : ByteArray) (ha : asciiB s = true) : ∃ (rows : List (List G)) (k e : Int), (∀ z ∈ rows, CrdA z) ∧ rows.length ≤ 3000 ∧ F_club_Read [.s s] = some [.l rows, .i k, .i e] ∧ F_r2_CardsRead [.s s] = some [.l rows, .i k, .i e] := by
 by_cases hs : 200000 < s.size
 ·refine ⟨[], 0, 2, (fun z hz => by cases hz), Nat.zero_le _, ?_, ?_⟩
  ·refine Ret.toEq ?_
   unfold F_club_Read
   (dsimp +instances only [Aa,Ab,Ac,Ad,Ae,Af,Ag])
   exact Ret.pos (by rw [ltI_eq, decide_eq_true_eq]; omega) (Ret.some rfl)
  ·refine Ret.toEq ?_
   unfold F_r2_CardsRead
   (dsimp +instances only [Aa,Ab,Ac,Ad,Ae,Af,Ag])
   exact Ret.pos (by rw [ltI_eq, decide_eq_true_eq]; omega) (Ret.some rfl)
 obtain ⟨L, z, ht, hL, hz, hn⟩ := txt_of s.data.toList
 have hz' := Lib.size_eq s
 have hl : (txtL L z).length ≤ 200000 := by rw [← ht]; omega
 have hle := txt_len_le L z
 have hsp : ∀ r ∈ L.map spotP, CrdA r := fun r hr => by
  obtain ⟨p, hp, rfl⟩ := List.mem_map.1 hr
  exact crdP_A ha (fun b hb => by rw [ht]; exact txt_mem L z p hp b hb) (Nat.le_trans (hle.1 p hp) hl)
 by_cases hbig : 3000 < L.length
 ·have hc : F_club_CheckCards [.l (L.map spotP)] = some [.i 2] := by
   refine Ret.toEq ?_
   unfold F_club_CheckCards
   (dsimp +instances only [Aa,Ab,Ac,Ad,Ae,Af,Ag])
   exact Ret.pos (by rw [List.length_map, ltI_eq, decide_eq_true_eq]; omega) (Ret.some rfl)
  have hf : F_r2_CardsFault [.l (L.map spotP)] = some [.i 2] := by
   refine Ret.toEq ?_
   unfold F_r2_CardsFault
   (dsimp +instances only [Aa,Ab,Ac,Ad,Ae,Af,Ag])
   exact Ret.pos (by rw [List.length_map, ltI_eq, decide_eq_true_eq]; omega) (Ret.some rfl)
  exact both ha ht hL hz hl (by omega) hsp 2 hc hf (fun h => by cases h)
 ·exact both ha ht hL hz hl (by omega) hsp _ (checkCards_okA _ hsp) (cardsFault_okA _ hsp) (fun _ => by rw [List.length_map]; omega)
/-! ### What is written -/
theorem textB_len {B : Nat} {f : List G → List (List UInt8)} : ∀ {x : List (List G)}, (∀ z ∈ x, (lineL (f z)).length ≤ B) → (textL (x.map f)).length ≤ B * x.length
 | [], _ => by simp [textL]
 | z :: x, h => by
  have ih := textB_len (x := x) fun y hy => h y (List.mem_cons_of_mem z hy)
  have := h z List.mem_cons_self
  have e : textL ((z :: x).map f) = lineL (f z) ++ textL (x.map f) := rfl
  rw [e, List.length_append, List.length_cons, Nat.mul_succ]
  omega
def kindW (k : Int) : ByteArray := if k = 1 then ⟨#[115, 101, 110, 116]⟩ else if k = 2 then ⟨#[99, 97, 109, 101]⟩ else ⟨#[114, 101, 116, 117, 114, 110, 101, 100]⟩
theorem kind_at {k : Int} (h : k = 1 ∨ k = 2 ∨ k = 3) : (gi ((rowsW kindL).getD k.toNat []) 0).str = kindW k := by
 rcases h with rfl | rfl | rfl <;> rfl
theorem kind_word {k : Int} (h : k = 1 ∨ k = 2 ∨ k = 3) : (kindW k).data.toList.length ≤ 20 ∧ asciiB (kindW k) = true := by
 rcases h with rfl | rfl | rfl
 ·exact ⟨by show [115, 101, 110, 116].length ≤ 20; simp, show asciiB (⟨#[115, 101, 110, 116]⟩ : ByteArray) = true from by kernel_rfl⟩
 ·exact ⟨by show [99, 97, 109, 101].length ≤ 20; simp, show asciiB (⟨#[99, 97, 109, 101]⟩ : ByteArray) = true from by kernel_rfl⟩
 ·exact ⟨by show [114, 101, 116, 117, 114, 110, 101, 100].length ≤ 20; simp, show asciiB (⟨#[114, 101, 116, 117, 114, 110, 101, 100]⟩ : ByteArray) = true from by kernel_rfl⟩
theorem mode_asc {m : Int} (h : m = 1 ∨ m = 2 ∨ m = 3) : asciiB (modeW m) = true := by
 rcases h with rfl | rfl | rfl
 ·exact (show asciiB (⟨#[99, 111, 100, 101]⟩ : ByteArray) = true from by kernel_rfl)
 ·exact (show asciiB (⟨#[118, 111, 105, 99, 101]⟩ : ByteArray) = true from by kernel_rfl)
 ·exact (show asciiB (⟨#[100, 97, 116, 97]⟩ : ByteArray) = true from by kernel_rfl)
def CrdW (r : List G) : Prop := ∃ (t k m : Int) (c b : ByteArray), r = [.i t, .i k, .i m, .s c, .s b] ∧ (0 ≤ t ∧ t ≤ 345686399999) ∧ (k = 1 ∨ k = 2 ∨ k = 3) ∧ (m = 1 ∨ m = 2 ∨ m = 3) ∧ (c.data.toList.length ≤ 20 ∧ asciiB c = true) ∧ (b.data.toList.length ≤ 20 ∧ asciiB b = true)
theorem bands_asc : (bands.all asciiB) = true := by kernel_rfl
theorem calls_asc : (calls.all asciiB) = true := by kernel_rfl
theorem crdW_of {r : List G} (h : Crd r) (hf : faultK1 r = 0) : CrdW r := by
 obtain ⟨t, k, m, c, b, rfl, _, _, _, hc, hb⟩ := h
 have e : faultK1 [.i t, .i k, .i m, .s c, .s b] = bif !inB t 0 345686399999 then 1 else bif !inB k 1 3 then 4 else bif !inB m 1 3 then 4 else bif !okCall c then 3 else bif !okKey b then 5 else 0 := rfl
 rw [e] at hf
 cases h1 : inB t 0 345686399999 with
 | false => rw [h1] at hf; cases hf
 | true =>
 cases h2 : inB k 1 3 with
 | false => rw [h1, h2] at hf; cases hf
 | true =>
 cases h3 : inB m 1 3 with
 | false => rw [h1, h2, h3] at hf; cases hf
 | true =>
 cases h4 : okCall c with
 | false => rw [h1, h2, h3, h4] at hf; cases hf
 | true =>
 cases h5 : okKey b with
 | false => rw [h1, h2, h3, h4, h5] at hf; cases hf
 | true =>
 have two : ∀ {a u v : Int}, inB a u v = true → u ≤ a ∧ a ≤ v := fun h => by simpa [inB, leI_eq] using h
 have q2 := two h2
 have q3 := two h3
 exact ⟨t, k, m, c, b, rfl, two h1, by omega, by omega, ⟨(call_word hc h4).2, List.all_eq_true.1 calls_asc c hc⟩, ⟨(band_word hb h5).2, List.all_eq_true.1 bands_asc b hb⟩⟩
def wordsK (r : List G) : List (List UInt8) :=
 [Lib.itoa (gi r 0).int, (kindW (gi r 1).int).data.toList, (gi r 3).str.data.toList, (gi r 4).str.data.toList, (modeW (gi r 2).int).data.toList]
theorem wordsK_len {r : List G} (h : CrdW r) : (lineL (wordsK r)).length ≤ 160 := by
 obtain ⟨t, k, m, c, b, rfl, ht, hk, hm, hc, hb⟩ := h
 have h1 := len_itoa ht.1 ht.2
 have e : wordsK [.i t, .i k, .i m, .s c, .s b] = [Lib.itoa t, (kindW k).data.toList, c.data.toList, b.data.toList, (modeW m).data.toList] := rfl
 rw [e]
 unfold lineL
 rw [join_two, join_two, join_two, join_two, Lib.join_one]
 simp only [List.length_append, List.length_cons, List.length_nil]
 have := hb.1
 have := hc.1
 have := (mode_word hm).2
 have := (kind_word hk).1
 omega
theorem CrdW.eta {r : List G} (h : CrdW r) : gEta KCard r = r := by
 obtain ⟨t, k, m, c, b, rfl, _⟩ := h
 rfl
theorem textK (x : List (List G)) (hx : ∀ z ∈ x, Crd z) (hf : faultCards x = 0) (hn : x.length ≤ 20) : F_club_Text [.l x] = some [.s (byL (textL (x.map wordsK))), .i 0] := by
 have hW : ∀ z ∈ x, CrdW z := fun z hz => crdW_of (hx z hz) ((right_rise (by omega) hf).2 z hz)
 refine Ret.toEq ?_
 unfold F_club_Text
 (dsimp +instances only [Aa,Ab,Ac,Ad,Ae,Af,Ag])
 refine Ret.cE (checkCards_ok x hx) ?_
 (dsimp +instances only [Aa,Ab,Ac,Ad,Ae,Af,Ag])
 rw [hf]
 refine Ret.neg rfl ?_
 have r := range_all (st := st_club_Text_6) (σ := Unit) (fun _ i => [.s (byL (textL ((x.take i).map wordsK))), .l x, .i (x.length : Int), .i (i : Int)]) x (fun _ => (0, [.s (byL (textL (x.map wordsK)))])) (fun _ _ => True) () (by omega) trivial
  (fun _ i z _ hi hz hm ht => by
   have hl := wordsK_len (hW _ hm)
   have ht1 : (textL ((x.take i).map wordsK)).length ≤ 160 * (x.take i).length := textB_len fun w hw => wordsK_len (hW w (List.mem_of_mem_take hw))
   have ht2 : (x.take i).length ≤ 20 := by rw [List.length_take]; omega
   obtain ⟨t, k, m, c, b, rfl, h1, hk, hmm, hc, hb⟩ := hW z hm
   unfold st_club_Text_6
   (dsimp +instances only [Aa,Ab,Ac,Ad,Ae,Af,Ag])
   simp only [Int.toNat_natCast, hz]
   refine Ret.p (Ret.p ?_)
   (dsimp +instances only [Aa,Ab,Ac,Ad,Ae,Af,Ag])
   refine Ret.cE (itoaA t (by omega) (by omega)) ?_
   refine Ret.cE kindKit ?_
   (dsimp +instances only [Aa,Ab,Ac,Ad,Ae,Af,Ag])
   refine Ret.pos ?_ ?_
   ·rw [show (rowsW kindL).length = 4 from rfl, Bool.and_eq_true, nnI_eq, ltI_eq, decide_eq_true_eq, decide_eq_true_eq]
    omega
   refine Ret.cE modeWords_eq ?_
   (dsimp +instances only [Aa,Ab,Ac,Ad,Ae,Af,Ag])
   refine Ret.pos ?_ ?_
   ·rw [show modeRows.length = 4 from rfl, Bool.and_eq_true, nnI_eq, ltI_eq, decide_eq_true_eq, decide_eq_true_eq]
    omega
   rw [mode_at hmm, kind_at hk]
   have e : [itoaZ t, kindW k, c, b, modeW m].map (·.data.toList) = wordsK [.i t, .i k, .i m, .s c, .s b] := by
    simp only [List.map_cons, List.map_nil, itoa_byL, byL_data]
    rfl
   refine Ret.cE (joinKit [itoaZ t, kindW k, c, b, modeW m] (by simp) (by rw [e]; omega)) ?_
   (dsimp +instances only [Aa,Ab,Ac,Ad,Ae,Af,Ag])
   rw [e]
   refine Ret.cE (writeB _ _ (by rw [byL_size, byL_size]; omega)) ?_
   (dsimp +instances only [Aa,Ab,Ac,Ad,Ae,Af,Ag])
   refine Ret.p (Ret.some ⟨(), ?_, trivial⟩)
   rw [ht, List.map_append, show [[G.i t, G.i k, G.i m, G.s c, G.s b]].map wordsK = [wordsK [G.i t, G.i k, G.i m, G.s c, G.s b]] from rfl, textL_snoc, ← byL_append]
   rfl)
  (fun _ _ => by
   unfold st_club_Text_6
   (dsimp +instances only [Aa,Ab,Ac,Ad,Ae,Af,Ag])
   rw [List.take_length]
   exact Ret.n (Ret.some rfl))
 refine Ret.loop r (by simp) ?_
 rintro _ _ ⟨_, _, rfl, rfl⟩
 (dsimp +instances only [Aa,Ab,Ac,Ad,Ae,Af,Ag])
 have hl : (textL (x.map wordsK)).length ≤ 160 * x.length := textB_len fun w hw => wordsK_len (hW w hw)
 refine Ret.cE (lenB _) ?_
 (dsimp +instances only [Aa,Ab,Ac,Ad,Ae,Af,Ag])
 refine Ret.neg (by rw [byL_size, ltI_eq, decide_eq_false_iff_not]; omega) ?_
 refine Ret.cE (stringB _) ?_
 exact Ret.some rfl
theorem linesK (x : List (List G)) (hx : ∀ z ∈ x, Crd z) (hf : faultCards x = 0) (hn : x.length ≤ 20) : F_r2_CardLines [.l x] = some [.s (byL (textL (x.map wordsK)))] := by
 have hW : ∀ z ∈ x, CrdW z := fun z hz => crdW_of (hx z hz) ((right_rise (by omega) hf).2 z hz)
 refine Ret.toEq ?_
 unfold F_r2_CardLines
 (dsimp +instances only [Aa,Ab,Ac,Ad,Ae,Af,Ag])
 have r := range_all (st := st_r2_CardLines_3) (σ := Unit) (fun _ i => [.s (byL (textL ((x.take i).map wordsK))), .l x, .i (x.length : Int), .i (i : Int)]) x (fun _ => (0, [.s (byL (textL (x.map wordsK)))])) (fun _ _ => True) () (by omega) trivial
  (fun _ i z _ hi hz hm ht => by
   have hl := wordsK_len (hW _ hm)
   have hl2 : (Lib.join (wordsK z) [32]).length + 1 ≤ 160 := by simpa [lineL] using hl
   have ht1 : (textL ((x.take i).map wordsK)).length ≤ 160 * (x.take i).length := textB_len fun w hw => wordsK_len (hW w (List.mem_of_mem_take hw))
   have ht2 : (x.take i).length ≤ 20 := by rw [List.length_take]; omega
   have h10 : (⟨#[10]⟩ : ByteArray).size = 1 := rfl
   obtain ⟨t, k, m, c, b, rfl, h1, hk, hmm, hc, hb⟩ := hW z hm
   unfold st_r2_CardLines_3
   (dsimp +instances only [Aa,Ab,Ac,Ad,Ae,Af,Ag])
   simp only [Int.toNat_natCast, hz]
   refine Ret.p (Ret.p ?_)
   (dsimp +instances only [Aa,Ab,Ac,Ad,Ae,Af,Ag])
   refine Ret.cE (itoaA t (by omega) (by omega)) ?_
   refine Ret.cE kindRef ?_
   (dsimp +instances only [Aa,Ab,Ac,Ad,Ae,Af,Ag])
   refine Ret.pos ?_ ?_
   ·rw [show (rowsW kindL).length = 4 from rfl, Bool.and_eq_true, nnI_eq, ltI_eq, decide_eq_true_eq, decide_eq_true_eq]
    omega
   refine Ret.cE (show F_r2_plainModes [] = some [.l modeRows] from rfl) ?_
   (dsimp +instances only [Aa,Ab,Ac,Ad,Ae,Af,Ag])
   refine Ret.pos ?_ ?_
   ·rw [show modeRows.length = 4 from rfl, Bool.and_eq_true, nnI_eq, ltI_eq, decide_eq_true_eq, decide_eq_true_eq]
    omega
   rw [mode_at hmm, kind_at hk]
   have e : [itoaZ t, kindW k, c, b, modeW m].map (·.data.toList) = wordsK [.i t, .i k, .i m, .s c, .s b] := by
    simp only [List.map_cons, List.map_nil, itoa_byL, byL_data]
    rfl
   refine Ret.cE (joinAny [itoaZ t, kindW k, c, b, modeW m] (by simp) (by rw [e]; omega)) ?_
   (dsimp +instances only [Aa,Ab,Ac,Ad,Ae,Af,Ag])
   rw [e]
   simp only [ByteArray.size_append, byL_size, h10]
   refine Ret.pos (by rw [Nat.ble_eq]; omega) (Ret.pos (by rw [Nat.ble_eq]; omega) (Ret.p (Ret.some ⟨(), ?_, trivial⟩)))
   rw [ht, List.map_append, show [[G.i t, G.i k, G.i m, G.s c, G.s b]].map wordsK = [wordsK [G.i t, G.i k, G.i m, G.s c, G.s b]] from rfl, textL_snoc, ← byL_append]
   unfold lineL
   rw [← byL_append]
   rfl)
  (fun _ _ => by
   unfold st_r2_CardLines_3
   (dsimp +instances only [Aa,Ab,Ac,Ad,Ae,Af,Ag])
   rw [List.take_length]
   exact Ret.n (Ret.some rfl))
 refine Ret.loop r (by simp) ?_
 rintro _ _ ⟨_, _, rfl, rfl⟩
 exact Ret.some rfl
theorem ascL_of {s : ByteArray} (h : asciiB s = true) : AscL s.data.toList := fun b hb => by
 have := List.all_eq_true.1 h b hb
 simpa [Nat.blt_eq] using this
theorem ascL_joinW : ∀ (x : List UInt8) (xs : List (List UInt8)), (∀ w ∈ x :: xs, AscL w) → AscL (Lib.join (x :: xs) [32])
 | x, [], h => by
  rw [Lib.join_one]
  exact h x List.mem_cons_self
 | x, y :: ys, h => by
  have ih := ascL_joinW y ys fun w hw => h w (List.mem_cons_of_mem x hw)
  rw [join_two]
  intro b hb
  rcases List.mem_append.1 hb with hb | hb
  ·exact h x List.mem_cons_self b hb
  ·rcases List.mem_cons.1 hb with rfl | hb
   ·decide
   ·exact ih b hb
theorem ascL_lineW {x : List UInt8} {xs : List (List UInt8)} (h : ∀ w ∈ x :: xs, AscL w) : AscL (lineL (x :: xs)) := by
 intro b hb
 unfold lineL at hb
 rcases List.mem_append.1 hb with hb | hb
 ·exact ascL_joinW x xs h b hb
 ·rw [List.mem_singleton.1 hb]
  decide
theorem ascL_lineK {r : List G} (h : CrdW r) : AscL (lineL (wordsK r)) := by
 obtain ⟨t, k, m, c, b, rfl, ht, hk, hm, hc, hb⟩ := h
 refine ascL_lineW (x := Lib.itoa t) (xs := [(kindW k).data.toList, c.data.toList, b.data.toList, (modeW m).data.toList]) fun w hw => ?_
 simp only [List.mem_cons, List.not_mem_nil, or_false] at hw
 rcases hw with rfl | rfl | rfl | rfl | rfl
 ·exact ascL_itoa ht.1
 ·exact ascL_of (kind_word hk).2
 ·exact ascL_of hc.2
 ·exact ascL_of hb.2
 ·exact ascL_of (mode_asc hm)
theorem ascL_textK {x : List (List G)} (hW : ∀ z ∈ x, CrdW z) : AscL (textL (x.map wordsK)) := by
 intro b hb
 unfold textL at hb
 rw [List.map_map, List.mem_flatten] at hb
 obtain ⟨l, hl, hb⟩ := hb
 obtain ⟨z, hz, rfl⟩ := List.mem_map.1 hl
 exact ascL_lineK (hW z hz) b hb
theorem r_CardText (l : List (List G)) (a : Int) (ha : 0 ≤ a) (ha1 : a ≤ 4000) :
  Ret (F_mk_CardText [.l l, .i a]) fun g => ∃ b s, g = [.l l, .i b, .s s] ∧ asciiB s = true := by
 unfold F_mk_CardText
 (dsimp +instances only [Aa,Ab,Ac,Ad,Ae,Af,Ag])
 refine Ret.call (r_Range l a 0 4 (by omega) (by omega) (by omega) (by omega) (by omega)) ?_
 rintro _ ⟨n, rfl, hn0, hn1⟩
 (dsimp +instances only [Aa,Ab,Ac,Ad,Ae,Af,Ag])
 refine Ret.call (r_RightCards l _ n (by omega) (by omega) hn0 (by omega)) ?_
 rintro _ ⟨p1, x, rfl, hp1, hp1', hx, hxl, hf⟩
 (dsimp +instances only [Aa,Ab,Ac,Ad,Ae,Af,Ag])
 have hW : ∀ z ∈ x, CrdW z := fun z hz => crdW_of (hx z hz) ((right_rise (by omega) hf).2 z hz)
 have hl : (textL (x.map wordsK)).length ≤ 160 * x.length := textB_len fun w hw => wordsK_len (hW w hw)
 refine Ret.cE (linesK x hx hf (by omega)) ?_
 (dsimp +instances only [Aa,Ab,Ac,Ad,Ae,Af,Ag])
 refine Ret.call (r_PickB 0 2 l p1 _ (by omega) (by omega) (by rfl) (by rfl)) ?_
 rintro _ ⟨m, rfl, hm0, hm1⟩
 (dsimp +instances only [Aa,Ab,Ac,Ad,Ae,Af,Ag])
 obtain ⟨m, rfl⟩ := Int.eq_ofNat_of_zero_le hm0
 have hA := ascL_byL (ascL_textK hW)
 refine Ret.loop (P := fun c g => c = 0 ∧ ∃ (b : Int) (s : ByteArray), g = [.l l, .i b, .s s] ∧ asciiB s = true) ?_ rfl ?_
 ·refine ((count_runs (σ := Int × ByteArray) (fun q i => [.l l, .i q.1, .s q.2, .i (m : Int), .i (i : Int)]) m (fun q => (0, [.l l, .i q.1, .s q.2])) (fun q i => 0 ≤ q.1 ∧ q.1 ≤ 100000 + 3 * i ∧ asciiB q.2 = true ∧ q.2.size ≤ 4000 + 100 * i)
   (fun c g => False) ?_ ?_ m (p1 + 1, byL (textL (x.map wordsK))) 0 (by omega) ⟨by simp only; omega, by simp only; omega, hA, by rw [byL_size]; omega⟩).to (by omega)).mono ?_
  ·rintro ⟨b, s⟩ i ⟨h1, h2, h3, h4⟩ hi
   simp only at h1 h2 h3 h4
   unfold st_mk_CardText_3
   (dsimp +instances only [Aa,Ab,Ac,Ad,Ae,Af,Ag])
   refine Ret.p ?_
   refine Ret.call (r_Changed l b s _ h1 (by omega) h3 (by rfl) (by omega) (by decide) (by decide)) ?_
   rintro _ ⟨b', s', rfl, h5, h6, h7, h8⟩
   (dsimp +instances only [Aa,Ab,Ac,Ad,Ae,Af,Ag])
   refine Ret.pos (inI_iff.2 ⟨by omega, by omega⟩) (Ret.some (.inl ⟨(b', s'), rfl, ?_⟩))
   exact ⟨by simp only; omega, by simp only; omega, h7, by simp only; omega⟩
  ·rintro ⟨b, s⟩ _
   unfold st_mk_CardText_3
   (dsimp +instances only [Aa,Ab,Ac,Ad,Ae,Af,Ag])
   exact Ret.n (Ret.some rfl)
  ·rintro c g (⟨⟨b, s⟩, h, rfl, rfl⟩ | h)
   ·exact ⟨rfl, b, s, rfl, h.2.2.1⟩
   ·exact h.elim
 ·rintro c g ⟨rfl, b, s, rfl, hs⟩
  exact Ret.some ⟨b, s, rfl, hs⟩
theorem joinedClubK : F_l2_joinedClub [] = some [.t true] := by kernel_rfl
theorem kdsCrdA : Kds KCard CrdA := ⟨fun _ h => h.eta⟩
theorem equalK_refl (a : List (List G)) (ha : ∀ z ∈ a, CrdA z) (hn : a.length < 100000) : F_sl_Equal_Card [.l a, .l a] = some [.t true] := by
 have h := equalF_eq kdsCrdA a a ha ha hn
 rw [eqlA_refl (by rfl)] at h
 exact h
theorem cardTexts_data (rows : List (List G)) : F_l2_CardTexts [.l rows] = some [.t true] := by
 refine Ret.toEq ?_
 unfold F_l2_CardTexts
 (dsimp +instances only [Aa,Ab,Ac,Ad,Ae,Af,Ag])
 refine Ret.call (r_Range rows 0 0 6 (by omega) (by omega) (by omega) (by omega) (by omega)) ?_
 rintro _ ⟨n, rfl, hn0, hn1⟩
 (dsimp +instances only [Aa,Ab,Ac,Ad,Ae,Af,Ag])
 refine Ret.call (r_Cards rows _ n (by omega) (by omega) hn0 (by omega)) ?_
 rintro _ ⟨p1, x, rfl, hp1, hp1', hx, hxl⟩
 (dsimp +instances only [Aa,Ab,Ac,Ad,Ae,Af,Ag])
 refine Ret.call (r_CardText rows p1 (by omega) (by omega)) ?_
 rintro _ ⟨p2, s, rfl, hs⟩
 (dsimp +instances only [Aa,Ab,Ac,Ad,Ae,Af,Ag])
 obtain ⟨R, k, e, hR, hRl, h1, h2⟩ := readBothK s hs
 have eq := equalK_refl R hR (by omega)
 by_cases hf : faultCards x = 0
 ·refine Ret.call (Ret.eq (textK x hx hf (by omega))) ?_
  rintro _ rfl
  refine Ret.cE (cardsFault_ok x hx) ?_
  (dsimp +instances only [Aa,Ab,Ac,Ad,Ae,Af,Ag])
  rw [hf]
  refine Ret.pos rfl ?_
  refine Ret.cE (linesK x hx hf (by omega)) ?_
  refine Ret.cE h1 ?_
  refine Ret.cE h2 ?_
  (dsimp +instances only [Aa,Ab,Ac,Ad,Ae,Af,Ag])
  refine Ret.pos rfl (Ret.pos (by simp) ?_)
  refine Ret.cE eq ?_
  refine Ret.pos rfl (Ret.pos (by simp) (Ret.pos (by simp) ?_))
  refine Ret.cE joinedClubK ?_
  exact Ret.some rfl
 ·have tx : F_club_Text [.l x] = some [.s (⟨#[]⟩ : ByteArray), .i (faultCards x)] := by
   refine Ret.toEq ?_
   unfold F_club_Text
   (dsimp +instances only [Aa,Ab,Ac,Ad,Ae,Af,Ag])
   refine Ret.cE (checkCards_ok x hx) ?_
   (dsimp +instances only [Aa,Ab,Ac,Ad,Ae,Af,Ag])
   exact Ret.pos (by simpa using hf) (Ret.some rfl)
  refine Ret.cE tx ?_
  refine Ret.cE (cardsFault_ok x hx) ?_
  (dsimp +instances only [Aa,Ab,Ac,Ad,Ae,Af,Ag])
  refine Ret.neg (by simpa using hf) ?_
  refine Ret.cE h1 ?_
  refine Ret.cE h2 ?_
  (dsimp +instances only [Aa,Ab,Ac,Ad,Ae,Af,Ag])
  refine Ret.pos (by simp) (Ret.pos (by simp) ?_)
  refine Ret.cE eq ?_
  refine Ret.pos rfl (Ret.pos (by simp) (Ret.pos (by simp) ?_))
  refine Ret.cE joinedClubK ?_
  exact Ret.some rfl
end
end Go.Proofs.SYtmohppjkkpaaoaaGreatDoor
