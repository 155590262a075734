/-
 What is proved here: what the methods of the stream give on data. No condition.
-/
import Derived.Test.YtchcbaapbinpbaaGreatDoorML3
import Derived.Test.YtchcbaapbinpbaaGreatDoorME
set_option linter.all false
namespace Go.Proofs.SYtchcbaapbinpbaaGreatDoor
open Go Go.AL Go.Proofs
noncomputable section
theorem r_Below (x n : Int) (h0 : 1 ≤ n) (h1 : n ≤ 1099511627776) : Ret (F_pilemake_Below [.i x, .i n]) fun g => ∃ v, g = [.i v] ∧ 0 ≤ v ∧ v < n := by
 unfold F_pilemake_Below
 (dsimp +instances only [Aa,Ab,Ac,Ad,Ae,Af,Ag])
 have ha := Int.tmod_lt_of_pos x (by omega : 0 < n)
 have hb := Int.lt_tmod_of_pos x (by omega : 0 < n)
 (repeat first|refine Ret.p ?_|refine Ret.n ?_)
 refine Ret.test (fun h => ?_) fun h => ?_
 ·simp only [ltI_eq, decide_eq_true_eq] at h
  (repeat first|refine Ret.p ?_|refine Ret.n ?_)
  exact Ret.some ⟨_, rfl, by omega, by omega⟩
 ·simp only [ltI_eq, decide_eq_false_iff_not] at h
  exact Ret.some ⟨_, rfl, by omega, by omega⟩
theorem r_Next (l : List (List G)) (a n : Int) (ha : 0 ≤ a) (ha1 : a ≤ 1000000) (h0 : 1 ≤ n) (h1 : n ≤ 1099511627776) :
  Ret (F_mk_Next [.l l, .i a, .i n]) fun g => ∃ v, g = [.l l, .i (a + 1), .i v] ∧ 0 ≤ v ∧ v < n := by
 unfold F_mk_Next
 (dsimp +instances only [Aa,Ab,Ac,Ad,Ae,Af,Ag])
 have ea : a + 1 - 1 = a := by omega
 simp only [ea]
 by_cases hl : l.length = 0
 ·(repeat first|refine Ret.p ?_|refine Ret.n ?_)
  refine Ret.call (r_Below _ n h0 h1) ?_
  rintro _ ⟨v, rfl, h2, h3⟩
  (dsimp +instances only [Aa,Ab,Ac,Ad,Ae,Af,Ag])
  exact Ret.some ⟨v, rfl, h2, h3⟩
 ·have hp : (0 : Int) < (l.length : Int) := by omega
  have d0 : 0 ≤ Int.tdiv a l.length := Int.tdiv_nonneg ha (by omega)
  have d1 : Int.tdiv a l.length ≤ a := by
   rw [Int.tdiv_eq_ediv_of_nonneg ha]
   exact Int.ediv_le_self _ ha
  have m0 : 0 ≤ Int.tmod a l.length := by
   rw [Int.tmod_eq_emod_of_nonneg ha]
   exact Int.emod_nonneg _ (by omega)
  have m1 : Int.tmod a l.length < l.length := Int.tmod_lt_of_pos a hp
  have m2 : Int.tmod a l.length ≤ a := by
   rw [Int.tmod_eq_emod_of_nonneg ha]
   have := Int.mul_ediv_add_emod a l.length
   have h4 : 0 ≤ (l.length : Int) * (a / l.length) := Int.mul_nonneg (by omega) (Int.ediv_nonneg ha (by omega))
   omega
  generalize hq : Int.tdiv a l.length = q at *
  generalize hr : Int.tmod a l.length = r at *
  have p0 : 0 ≤ q * (7919 + r) := Int.mul_nonneg d0 (by omega)
  have p1 : q * (7919 + r) ≤ 1000000 * 2000000 := Int.mul_le_mul (by omega) (by omega) (by omega) (by omega)
  generalize hz : q * (7919 + r) = z at *
  (repeat first|refine Ret.p ?_|refine Ret.n ?_)
  refine Ret.call (r_Below _ 1073741824 (by omega) (by omega)) ?_
  rintro _ ⟨u, rfl, h2, h3⟩
  (dsimp +instances only [Aa,Ab,Ac,Ad,Ae,Af,Ag])
  (repeat first|refine Ret.p ?_|refine Ret.n ?_)
  refine Ret.call (r_Below _ n h0 h1) ?_
  rintro _ ⟨v, rfl, h4, h5⟩
  (dsimp +instances only [Aa,Ab,Ac,Ad,Ae,Af,Ag])
  exact Ret.some ⟨v, rfl, h4, h5⟩
theorem r_Range (l : List (List G)) (a lo hi : Int) (ha : 0 ≤ a) (ha1 : a ≤ 1000000) (h0 : lo ≤ hi) (h1 : -1000000000 ≤ lo) (h2 : hi ≤ 1000000000) :
  Ret (F_mk_Range [.l l, .i a, .i lo, .i hi]) fun g => ∃ v, g = [.l l, .i (a + 1), .i v] ∧ lo ≤ v ∧ v ≤ hi := by
 unfold F_mk_Range
 (dsimp +instances only [Aa,Ab,Ac,Ad,Ae,Af,Ag])
 (repeat first|refine Ret.p ?_|refine Ret.n ?_)
 refine Ret.call (r_Next l a _ ha ha1 (by omega) (by omega)) ?_
 rintro _ ⟨v, rfl, h3, h4⟩
 (dsimp +instances only [Aa,Ab,Ac,Ad,Ae,Af,Ag])
 (repeat first|refine Ret.p ?_|refine Ret.n ?_)
 exact Ret.some ⟨_, rfl, by omega, by omega⟩
theorem getD_mem' {l : List (List G)} {v : Int} (h0 : 0 ≤ v) (h1 : v < l.length) : l.getD v.toNat [] ∈ l := by
 have : v.toNat < l.length := by omega
 rw [List.getD_eq_getElem?_getD, List.getElem?_eq_getElem this]
 exact List.getElem_mem this
theorem r_Pick (P : Int → Prop) (l : List (List G)) (a : Int) (xs : List (List G)) (ha : 0 ≤ a) (ha1 : a ≤ 1000000) (h0 : 1 ≤ xs.length) (h1 : xs.length ≤ 1000000) (hP : ∀ x ∈ xs, P (gi x 0).int) :
  Ret (F_mk_Pick [.l l, .i a, .l xs]) fun g => ∃ v, g = [.l l, .i (a + 1), .i v] ∧ P v := by
 unfold F_mk_Pick
 (dsimp +instances only [Aa,Ab,Ac,Ad,Ae,Af,Ag])
 refine Ret.call (r_Next l a _ ha ha1 (by omega) (by omega)) ?_
 rintro _ ⟨v, rfl, h3, h4⟩
 (dsimp +instances only [Aa,Ab,Ac,Ad,Ae,Af,Ag])
 (repeat first|refine Ret.p ?_|refine Ret.n ?_)
 exact Ret.some ⟨_, rfl, hP _ (getD_mem' h3 h4)⟩
theorem r_Some (P : ByteArray → Prop) (l : List (List G)) (a : Int) (xs : List (List G)) (ha : 0 ≤ a) (ha1 : a ≤ 1000000) (h0 : 1 ≤ xs.length) (h1 : xs.length ≤ 1000000) (hP : ∀ x ∈ xs, P (gi x 0).str) :
  Ret (F_mk_Some [.l l, .i a, .l xs]) fun g => ∃ v, g = [.l l, .i (a + 1), .s v] ∧ P v := by
 unfold F_mk_Some
 (dsimp +instances only [Aa,Ab,Ac,Ad,Ae,Af,Ag])
 refine Ret.call (r_Next l a _ ha ha1 (by omega) (by omega)) ?_
 rintro _ ⟨v, rfl, h3, h4⟩
 (dsimp +instances only [Aa,Ab,Ac,Ad,Ae,Af,Ag])
 (repeat first|refine Ret.p ?_|refine Ret.n ?_)
 exact Ret.some ⟨_, rfl, hP _ (getD_mem' h3 h4)⟩
theorem r_Flip (l : List (List G)) (a n : Int) (ha : 0 ≤ a) (ha1 : a ≤ 1000000) (h0 : 1 ≤ n) (h1 : n ≤ 1000000) :
  Ret (F_mk_Flip [.l l, .i a, .i n]) fun g => ∃ b, g = [.l l, .i (a + 1), .t b] := by
 unfold F_mk_Flip
 (dsimp +instances only [Aa,Ab,Ac,Ad,Ae,Af,Ag])
 refine Ret.call (r_Next l a _ ha ha1 (by omega) (by omega)) ?_
 rintro _ ⟨v, rfl, h3, h4⟩
 exact Ret.some ⟨_, rfl⟩
def inL (L : List ByteArray) (s : ByteArray) : Bool := L.any fun x => eqS x s
theorem inL_mem {L : List ByteArray} {s : ByteArray} (h : inL L s = true) : s ∈ L := by
 obtain ⟨x, hx, he⟩ := List.any_eq_true.1 h
 exact eqS_eq he ▸ hx
theorem r_PickB (lo hi : Int) (l : List (List G)) (a : Int) (xs : List (List G)) (ha : 0 ≤ a) (ha1 : a ≤ 1000000) (h0 : (Nat.ble 1 xs.length && Nat.ble xs.length 1000000) = true) (hP : (xs.all fun x => leI lo (gi x 0).int && leI (gi x 0).int hi) = true) :
  Ret (F_mk_Pick [.l l, .i a, .l xs]) fun g => ∃ v, g = [.l l, .i (a + 1), .i v] ∧ lo ≤ v ∧ v ≤ hi := by
 simp only [Bool.and_eq_true, Nat.ble_eq] at h0
 refine r_Pick (fun v => lo ≤ v ∧ v ≤ hi) l a xs ha ha1 h0.1 h0.2 fun x hx => ?_
 have := List.all_eq_true.1 hP x hx
 simpa only [leI_eq, Bool.and_eq_true, decide_eq_true_eq] using this
theorem r_SomeB (L : List ByteArray) (l : List (List G)) (a : Int) (xs : List (List G)) (ha : 0 ≤ a) (ha1 : a ≤ 1000000) (h0 : (Nat.ble 1 xs.length && Nat.ble xs.length 1000000) = true) (hP : (xs.all fun x => inL L (gi x 0).str) = true) :
  Ret (F_mk_Some [.l l, .i a, .l xs]) fun g => ∃ v, g = [.l l, .i (a + 1), .s v] ∧ v ∈ L := by
 simp only [Bool.and_eq_true, Nat.ble_eq] at h0
 exact r_Some (fun v => v ∈ L) l a xs ha ha1 h0.1 h0.2 fun x hx => inL_mem (List.all_eq_true.1 hP x hx)
def calls : List ByteArray := [⟨#[]⟩, ⟨#[107, 49]⟩, ⟨#[75, 49, 65, 66]⟩, ⟨#[107, 49, 97, 98, 47]⟩, ⟨#[49, 97]⟩, ⟨#[107, 49, 97, 98, 47, 109, 109, 47, 112]⟩, ⟨#[107, 49, 97, 98]⟩, ⟨#[107, 49, 97, 97]⟩, ⟨#[107, 49, 97, 98, 47, 52]⟩,
 ⟨#[111, 104, 50, 97, 98, 99]⟩, ⟨#[111, 104, 50, 97, 98, 100]⟩, ⟨#[119, 49, 97, 119]⟩, ⟨#[110, 49, 109, 109]⟩, ⟨#[103, 51, 120, 121, 122, 47, 112]⟩]
def bands : List ByteArray := [⟨#[]⟩, ⟨#[66]⟩, ⟨#[98, 50, 48]⟩, ⟨#[98, 52, 48]⟩]
def names : List ByteArray := [⟨#[]⟩, ⟨#[65]⟩, ⟨#[49]⟩, ⟨#[102, 105, 110]⟩, ⟨#[117, 115, 97]⟩]
def small (n : Int) : Prop := -2000000000000 ≤ n ∧ n ≤ 2000000000000
def Con (r : List G) : Prop := ∃ (t m : Int) (b c : ByteArray) (s h : Int) (x y : ByteArray), r = [.i t, .i m, .s b, .s c, .i s, .i h, .s x, .s y] ∧ small t ∧ small m ∧ small s ∧ small h ∧ b ∈ bands ∧ c ∈ calls ∧ x ∈ names ∧ y ∈ names
def tight (n : Int) : Prop := -1900000000000 ≤ n ∧ n ≤ 1900000000000
def tightT (n : Int) : Prop := -1900000000000 ≤ n ∧ (n ≤ 345000000000 ∨ (345686399999 < n ∧ n ≤ 1900000000000))
def ConT (r : List G) : Prop := ∃ (t m : Int) (b c : ByteArray) (s h : Int) (x y : ByteArray), r = [.i t, .i m, .s b, .s c, .i s, .i h, .s x, .s y] ∧ tightT t ∧ tight m ∧ tight s ∧ tight h ∧ b ∈ bands ∧ c ∈ calls ∧ x ∈ names ∧ y ∈ names
theorem tight.to {n : Int} (h : tight n) : small n := ⟨by have := h.1; omega, by have := h.2; omega⟩
theorem tightT.to {n : Int} (h : tightT n) : small n := by
 unfold tightT at h
 exact ⟨by omega, by omega⟩
theorem ConT.to {r : List G} (h : ConT r) : Con r := by
 obtain ⟨t, m, b, c, s, h, x, y, e, h1, h2, h3, h4, h5⟩ := h
 exact ⟨t, m, b, c, s, h, x, y, e, h1.to, h2.to, h3.to, h4.to, h5⟩
theorem Con.eta {r : List G} (h : Con r) : gEta [.int .i64, .int .i64, .str, .str, .int .i64, .int .i64, .str, .str] r = r := by
 obtain ⟨t, m, b, c, s, h, x, y, rfl, _⟩ := h
 rfl
theorem r_ACall (l : List (List G)) (a : Int) (ha : 0 ≤ a) (ha1 : a ≤ 900000) : Ret (F_mk_ACall [.l l, .i a]) fun g => ∃ v, g = [.l l, .i (a + 2), .s v] ∧ v ∈ calls := by
 unfold F_mk_ACall
 (dsimp +instances only [Aa,Ab,Ac,Ad,Ae,Af,Ag])
 have e2 : a + 1 + 1 = a + 2 := by omega
 refine Ret.call (r_Flip l a 60 ha (by omega) (by omega) (by omega)) ?_
 rintro _ ⟨b, rfl⟩
 (dsimp +instances only [Aa,Ab,Ac,Ad,Ae,Af,Ag])
 cases b with
 | true =>
  (repeat first|refine Ret.p ?_|refine Ret.n ?_)
  refine Ret.call (r_SomeB calls l (a + 1) _ (by omega) (by omega) (by kernel_rfl) (by kernel_rfl)) ?_
  rintro _ ⟨v, rfl, h⟩
  exact Ret.some ⟨v, by (dsimp +instances only [Aa,Ab,Ac,Ad,Ae,Af,Ag]); rw [e2], h⟩
 | false =>
  (repeat first|refine Ret.p ?_|refine Ret.n ?_)
  refine Ret.call (r_SomeB calls l (a + 1) _ (by omega) (by omega) (by kernel_rfl) (by kernel_rfl)) ?_
  rintro _ ⟨v, rfl, h⟩
  exact Ret.some ⟨v, by (dsimp +instances only [Aa,Ab,Ac,Ad,Ae,Af,Ag]); rw [e2], h⟩
def cmpI (a b : Int) : Int := if a < b then -1 else if b < a then 1 else 0
theorem compareBytes_zero : ∀ {a b : List UInt8}, Lib.compareBytes a b = 0 → a = b
 | [], [], _ => rfl
 | [], _ :: _, h => by simp [Lib.compareBytes] at h
 | _ :: _, [], h => by simp [Lib.compareBytes] at h
 | x :: a, y :: b, h => by
  unfold Lib.compareBytes at h
  split at h
  ·cases h
  ·split at h
   ·cases h
   ·rename_i h1 h2
    rw [compareBytes_zero h, UInt8.le_antisymm (UInt8.not_lt.1 h2) (UInt8.not_lt.1 h1)]
theorem compareBytes_self : ∀ a : List UInt8, Lib.compareBytes a a = 0
 | [] => rfl
 | x :: a => by simp [Lib.compareBytes, compareBytes_self a]
theorem str_eq (a b : ByteArray) : (a.toList == b.toList) = decide (cmpS a b = 0) := by
 rw [ByteArray.toList_eq, ByteArray.toList_eq, Bool.eq_iff_iff, decide_eq_true_eq, beq_iff_eq]
 constructor
 ·intro h
  unfold cmpS
  rw [h]
  exact compareBytes_self _
 ·exact fun h => compareBytes_zero h
theorem cmpInt_eq (a b : Int) : F_cmp_Compare_int [.i a, .i b] = some [.i (cmpI a b)] := by
 refine Ret.toEq ?_
 unfold F_cmp_Compare_int F_cmp_isNaN_int cmpI
 (dsimp +instances only [Aa,Ab,Ac,Ad,Ae,Af,Ag])
 simp only [bne_self_eq_false]
 refine Ret.call ⟨_, rfl, rfl⟩ ?_
 rintro _ rfl
 refine Ret.call ⟨_, rfl, rfl⟩ ?_
 rintro _ rfl
 (dsimp +instances only [Aa,Ab,Ac,Ad,Ae,Af,Ag])
 (repeat first|refine Ret.p ?_|refine Ret.n ?_)
 by_cases h1 : a < b
 ·(repeat first|refine Ret.p ?_|refine Ret.n ?_)
  exact Ret.some (by simp [h1])
 ·by_cases h2 : b < a
  ·(repeat first|refine Ret.p ?_|refine Ret.n ?_)
   exact Ret.some (by simp [h1, h2])
  ·(repeat first|refine Ret.p ?_|refine Ret.n ?_)
   exact Ret.some (by simp [h1, h2])
def orL : List (List G) → Int
 | [] => 0
 | x :: q => if (gi x 0).int ≠ 0 then (gi x 0).int else orL q
theorem or_runs : ∀ (q p : List (List G)), p.length + q.length < 100000 →
  RetN st_cmp_Or_int_3 [.i 0, .l (p ++ q), .i ((p.length + q.length : Nat) : Int), .i (p.length : Int)] (q.length + 1) fun c g => c ≤ 1 ∧ g = [.i (orL q)]
 | [], p, hl => by
  refine RetN.stop (x := 1) (Ret.toEq ?_) ⟨by omega, rfl⟩
  unfold st_cmp_Or_int_3
  (dsimp +instances only [Aa,Ab,Ac,Ad,Ae,Af,Ag])
  (repeat first|refine Ret.p ?_|refine Ret.n ?_)
  exact Ret.some rfl
 | y :: q, p, hl => by
  simp only [List.length_cons] at hl
  have g1 : (p ++ y :: q).getD (p.length : Int).toNat [] = y := getD_mid _ _ _ _ _ (by simp)
  have hlen : (p ++ y :: q).length = p.length + q.length + 1 := by simp; omega
  by_cases he : (gi y 0).int = 0
  ·have ih := or_runs q (p ++ [y]) (by simp; omega)
   have e : orL (y :: q) = orL q := by simp [orL, he]
   rw [e]
   refine RetN.next (Ret.toEq ?_) ih
   unfold st_cmp_Or_int_3
   (dsimp +instances only [Aa,Ab,Ac,Ad,Ae,Af,Ag])
   simp only [g1, hlen, List.length_cons]
   (repeat first|refine Ret.p ?_|refine Ret.n ?_)
   refine Ret.some ?_
   simp
   omega
  ·refine RetN.stop (x := 0) (Ret.toEq ?_) ⟨by omega, rfl⟩
   unfold st_cmp_Or_int_3
   (dsimp +instances only [Aa,Ab,Ac,Ad,Ae,Af,Ag])
   simp only [g1, hlen, List.length_cons]
   (repeat first|refine Ret.p ?_|refine Ret.n ?_)
   refine Ret.some ?_
   simp [orL, he]
def inB (v lo hi : Int) : Bool := leI lo v && leI v hi
theorem in_eq (v lo hi : Int) : F_r2_in [.i v, .i lo, .i hi] = some [.t (inB v lo hi)] := by
 unfold F_r2_in inB
 (dsimp +instances only [Aa,Ab,Ac,Ad,Ae,Af,Ag])
 cases leI lo v <;> rfl
theorem outside_eq (v lo hi : Int) : F_kit_Outside [.i v, .i lo, .i hi] = some [.t (!inB v lo hi)] := by
 unfold F_kit_Outside inB
 (dsimp +instances only [Aa,Ab,Ac,Ad,Ae,Af,Ag])
 have h1 : ltI v lo = !leI lo v := by rw [ltI_eq, leI_eq, Bool.eq_iff_iff]; simp
 have h2 : ltI hi v = !leI v hi := by rw [ltI_eq, leI_eq, Bool.eq_iff_iff]; simp
 rw [h1, h2]
 cases leI lo v <;> cases leI v hi <;> rfl
def okCall (s : ByteArray) : Bool := (gi ((F_call_Is [.s s]).getD []) 0).bool
theorem isCall_eq {s : ByteArray} (h : s ∈ calls) : F_call_Is [.s s] = some [.t (okCall s)] := by
 simp only [calls, List.mem_cons, List.not_mem_nil, or_false] at h
 rcases h with (rfl | rfl | rfl | rfl | rfl | rfl | rfl | rfl | rfl | rfl | rfl | rfl | rfl | rfl) <;> kernel_rfl
theorem call_eq {s : ByteArray} (h : s ∈ calls) : F_r2_Call [.s s] = some [.t (okCall s)] := by
 simp only [calls, List.mem_cons, List.not_mem_nil, or_false] at h
 rcases h with (rfl | rfl | rfl | rfl | rfl | rfl | rfl | rfl | rfl | rfl | rfl | rfl | rfl | rfl) <;> kernel_rfl
theorem bytes_flip' : ∀ a b : List UInt8, Lib.compareBytes b a = - Lib.compareBytes a b
 | [], [] => rfl
 | [], _ :: _ => rfl
 | _ :: _, [] => rfl
 | a :: xs, b :: ys => by
  simp only [Lib.compareBytes]
  have ih := bytes_flip' xs ys
  by_cases h1 : a < b
  ·have h2 : ¬ b < a := fun h => UInt8.lt_irrefl a (UInt8.lt_trans h1 h)
   simp [h1, h2]
  ·by_cases h2 : b < a
   ·simp [h1, h2]
   ·simp [h1, h2, ih]
theorem bytes_lt_trans' : ∀ {a b c : List UInt8}, Lib.compareBytes a b < 0 → Lib.compareBytes b c < 0 → Lib.compareBytes a c < 0
 | [], [], _, h, _ => by simp [Lib.compareBytes] at h
 | [], _ :: _, [], _, h => by simp [Lib.compareBytes] at h
 | [], _ :: _, _ :: _, _, _ => by simp [Lib.compareBytes]
 | _ :: _, [], _, h, _ => by simp [Lib.compareBytes] at h
 | _ :: _, _ :: _, [], _, h => by simp [Lib.compareBytes] at h
 | a :: xs, b :: ys, c :: zs, h1, h2 => by
  simp only [Lib.compareBytes] at h1 h2 ⊢
  by_cases hab : a < b
  ·by_cases hbc : b < c
   ·rw [if_pos (UInt8.lt_trans hab hbc)]
    omega
   ·by_cases hcb : c < b
    ·rw [if_neg hbc, if_pos hcb] at h2
     omega
    ·have e : b = c := UInt8.le_antisymm (UInt8.not_lt.1 hcb) (UInt8.not_lt.1 hbc)
     subst e
     rw [if_pos hab]
     omega
  ·by_cases hba : b < a
   ·rw [if_neg hab, if_pos hba] at h1
    omega
   ·have e : a = b := UInt8.le_antisymm (UInt8.not_lt.1 hba) (UInt8.not_lt.1 hab)
    subst e
    rw [if_neg (UInt8.lt_irrefl a), if_neg (UInt8.lt_irrefl a)] at h1
    by_cases hac : a < c
    ·rw [if_pos hac]
     omega
    ·by_cases hca : c < a
     ·rw [if_neg hac, if_pos hca] at h2
      omega
     ·rw [if_neg hac, if_neg hca] at h2 ⊢
      exact bytes_lt_trans' h1 h2
theorem str_ext {a b : ByteArray} (h : (a.toList == b.toList) = true) : a = b := by
 rw [ByteArray.toList_eq, ByteArray.toList_eq, beq_iff_eq] at h
 exact ByteArray.ext (Array.toList_inj.1 h)
theorem cmpS_z {a b : ByteArray} : cmpS a b = 0 ↔ a = b := by
 have h := str_eq a b
 constructor
 ·intro e
  rw [decide_eq_true (p := cmpS a b = 0) e] at h
  exact str_ext h
 ·rintro rfl
  have h2 : (a.toList == a.toList) = true := by simp
  rw [h2] at h
  exact of_decide_eq_true h.symm
theorem cmpI_z {a b : Int} : cmpI a b = 0 ↔ a = b := by
 unfold cmpI
 constructor
 ·intro h
  split at h
  ·omega
  ·split at h <;> omega
 ·rintro rfl
  simp
theorem cmpI_lt {a b : Int} : cmpI a b < 0 ↔ a < b := by
 unfold cmpI
 constructor
 ·intro h
  split at h
  ·assumption
  ·split at h <;> omega
 ·intro h
  rw [if_pos h]
  omega
structure Ordr {α : Type} (c : α → α → Int) : Prop where
 flip : ∀ a b, c b a = - c a b
 eq : ∀ a b, c a b = 0 → a = b
 tr : ∀ a b d, c a b < 0 → c b d < 0 → c a d < 0
theorem ordrI : Ordr cmpI := ⟨fun a b => by unfold cmpI; split <;> split <;> first | omega | (split <;> omega) | skip, fun a b h => cmpI_z.1 h, fun a b d h1 h2 => cmpI_lt.2 (Int.lt_trans (cmpI_lt.1 h1) (cmpI_lt.1 h2))⟩
theorem ordrS : Ordr cmpS := ⟨fun a b => bytes_flip' _ _, fun a b h => cmpS_z.1 h, fun a b d h1 h2 => bytes_lt_trans' h1 h2⟩
theorem Ordr.le {α : Type} {c : α → α → Int} (h : Ordr c) (a b d : α) (h1 : c a b ≤ 0) (h2 : c b d ≤ 0) : c a d ≤ 0 := by
 by_cases e1 : c a b = 0
 ·rw [h.eq a b e1]
  exact h2
 ·by_cases e2 : c b d = 0
  ·rw [← h.eq b d e2]
   exact h1
  ·have := h.tr a b d (by omega) (by omega)
   omega
theorem Ordr.refl {α : Type} {c : α → α → Int} (h : Ordr c) (a : α) : c a a = 0 := by
 have := h.flip a a
 omega
def or2 (a b : Int) : Int := if a ≠ 0 then a else b
theorem or2_le {α : Type} {c : α → α → Int} (h : Ordr c) (a b d : α) (x y z : Int) (h1 : or2 (c a b) x ≤ 0) (h2 : or2 (c b d) y ≤ 0) (h3 : x ≤ 0 → y ≤ 0 → z ≤ 0) : or2 (c a d) z ≤ 0 := by
 unfold or2 at *
 by_cases e1 : c a b = 0
 ·have e := h.eq a b e1
  subst e
  rw [if_neg (by simpa using e1)] at h1
  by_cases e2 : c a d = 0
  ·rw [if_neg (by simpa using e2)] at h2 ⊢
   exact h3 h1 h2
  ·rw [if_pos e2] at h2 ⊢
   exact h2
 ·rw [if_pos e1] at h1
  by_cases e2 : c b d = 0
  ·have e := h.eq b d e2
   subst e
   rw [if_pos e1]
   exact h1
  ·rw [if_pos e2] at h2
   have := h.tr a b d (by omega) (by omega)
   rw [if_pos (by omega)]
   omega
theorem or2_lt {α : Type} {c : α → α → Int} (h : Ordr c) (a b d : α) (x y z : Int) (h1 : or2 (c a b) x < 0) (h2 : or2 (c b d) y < 0) (h3 : x < 0 → y < 0 → z < 0) : or2 (c a d) z < 0 := by
 unfold or2 at *
 by_cases e1 : c a b = 0
 ·have e := h.eq a b e1
  subst e
  rw [if_neg (by simpa using e1)] at h1
  by_cases e2 : c a d = 0
  ·rw [if_neg (by simpa using e2)] at h2 ⊢
   exact h3 h1 h2
  ·rw [if_pos e2] at h2 ⊢
   exact h2
 ·rw [if_pos e1] at h1
  by_cases e2 : c b d = 0
  ·have e := h.eq b d e2
   subst e
   rw [if_pos e1]
   exact h1
  ·rw [if_pos e2] at h2
   have := h.tr a b d (by omega) (by omega)
   rw [if_pos (by omega)]
   omega
theorem or2_flip {a b a' b' : Int} (h1 : a' = - a) (h2 : b' = - b) : or2 a' b' = - or2 a b := by
 unfold or2
 subst h1 h2
 by_cases e : a = 0
 ·subst e
  simp
 ·rw [if_pos e, if_pos (by omega)]
theorem lin_of {c : List G → List G → Int} (hf : ∀ a b, c b a = - c a b) (ht : ∀ a b d, c a b ≤ 0 → c b d ≤ 0 → c a d ≤ 0) : Lin (ltC c) (fun _ => True) := by
 have lt : ∀ r s, ltC c r s = decide (c r s < 0) := fun r s => by unfold ltC; rw [ltI_eq]
 refine ⟨fun a b d _ _ _ h1 h2 => ?_, fun a b _ _ h => ?_⟩
 ·rw [lt, decide_eq_false_iff_not] at *
  have := ht d b a (by have := hf d b; omega) (by have := hf b a; omega)
  have := hf a d
  omega
 ·rw [lt, decide_eq_true_eq] at h
  rw [lt, decide_eq_false_iff_not]
  have := hf a b
  omega
/-! ### Lists that are checked row by row -/
def fw (step : Nat → Int) : Nat → Int
 | 0 => 0
 | i + 1 => if fw step i ≠ 0 then fw step i else step i
theorem fw_stays {step : Nat → Int} {i : Nat} (h : fw step i ≠ 0) : ∀ k, fw step (i + k) = fw step i
 | 0 => rfl
 | k + 1 => by
  have ih := fw_stays h k
  show (if fw step (i + k) ≠ 0 then fw step (i + k) else step (i + k)) = fw step i
  rw [ih, if_pos h]
theorem fw_zero {step : Nat → Int} : ∀ {n : Nat}, fw step n = 0 → ∀ i, i < n → step i = 0
 | 0, _, i, hi => by omega
 | n + 1, h, i, hi => by
  have h0 : fw step n = 0 := by
   refine Decidable.byContradiction fun hn => hn ?_
   have := fw_stays hn 1
   rw [← this]
   exact h
  have h' : (if fw step n ≠ 0 then fw step n else step n) = 0 := h
  rw [if_neg (by simpa using h0)] at h'
  rcases Nat.lt_or_ge i n with hlt | hge
  ·exact fw_zero h0 i hlt
  ·have : i = n := by omega
   rw [this]
   exact h'
theorem fw_loop {st : List G → Option (Option Nat × List G)} (mk : Nat → List G) (n : Nat) (step : Nat → Int) (gn : List G) (hn : n < 999999)
  (hstep : ∀ i, i < n → Ret (st (mk i)) fun o => (step i = 0 ∧ o = (none, mk (i + 1))) ∨ (step i ≠ 0 ∧ o = (some 0, [.i (step i)])))
  (hfin : Ret (st (mk n)) fun o => o = (some 1, gn)) :
  RetL st (mk 0) fun c g => (c = 1 ∧ fw step n = 0 ∧ g = gn) ∨ (c = 0 ∧ g = [.i (fw step n)] ∧ fw step n ≠ 0) := by
 refine ((count_runs (σ := Unit) (fun _ i => mk i) n (fun _ => (1, gn)) (fun _ i => fw step i = 0) (fun c g => c = 0 ∧ g = [.i (fw step n)] ∧ fw step n ≠ 0) ?_ (fun _ _ => hfin) n () 0 (by omega) rfl).to (by omega)).mono ?_
 ·rintro _ i hI hi
  refine (hstep i hi).mono ?_
  rintro _ (⟨h0, rfl⟩ | ⟨h1, rfl⟩)
  ·refine .inl ⟨(), rfl, ?_⟩
   show (if fw step i ≠ 0 then fw step i else step i) = 0
   rw [if_neg (by simpa using hI)]
   exact h0
  ·have e : fw step (i + 1) = step i := by
    show (if fw step i ≠ 0 then fw step i else step i) = step i
    rw [if_neg (by simpa using hI)]
   have e2 : fw step n = step i := by
    have := fw_stays (step := step) (i := i + 1) (by rw [e]; exact h1) (n - (i + 1))
    rw [show i + 1 + (n - (i + 1)) = n by omega, e] at this
    exact this
   exact .inr ⟨0, _, rfl, rfl, by rw [e2], by rw [e2]; exact h1⟩
 ·rintro c g (⟨_, h, rfl, rfl⟩ | h)
  ·exact .inl ⟨rfl, h, rfl⟩
  ·exact .inr h
def cats : List ByteArray := [⟨#[97, 108, 108]⟩, ⟨#[99, 111, 100, 101]⟩, ⟨#[65]⟩]
def locs : List ByteArray := [⟨#[]⟩, ⟨#[107, 112, 50, 48, 108, 102]⟩, ⟨#[107, 112, 50, 48]⟩]
def Ent (r : List G) : Prop := ∃ (c k : ByteArray) (p : Int) (q : ByteArray), r = [.s c, .s k, .i p, .s q] ∧ c ∈ calls ∧ k ∈ cats ∧ -1099511627776 ≤ p ∧ p ≤ 1099511627776 ∧ q ∈ locs
theorem Ent.eta {r : List G} (h : Ent r) : gEta [.str, .str, .int .i64, .str] r = r := by
 obtain ⟨c, k, p, q, rfl, _⟩ := h
 rfl
/-! ### What is wrong with entrants -/
theorem less_eq : ∀ a b : List UInt8, Op.bytesLess a b = decide (Lib.compareBytes a b < 0)
 | [], [] => rfl
 | _ :: _, [] => rfl
 | [], _ :: _ => rfl
 | a :: x, b :: y => by
  simp only [Op.bytesLess, Lib.compareBytes, less_eq x y]
  by_cases h1 : a < b
  ·simp [h1]
  ·by_cases h2 : b < a
   ·have h3 : a ≠ b := fun h => by
     subst h
     exact h1 h2
    simp [h1, h2, h3]
   ·have h3 : a = b := UInt8.le_antisymm (UInt8.not_lt.1 h2) (UInt8.not_lt.1 h1)
    subst h3
    simp [h1]
theorem two_step (a b c d x y : ByteArray) (i : Nat) (v : Int) (h : F_cmp_Compare_string [.s x, .s y] = some [.i v]) (hi : i < 2) (hx : ([[.s a], [.s b]] : List (List G)).getD i [] = [.s x]) (hy : ([[.s c], [.s d]] : List (List G)).getD i [] = [.s y]) :
  st_sl_Compare_string_2 [.l [[.s a], [.s b]], .l [[.s c], [.s d]], .l [[.s a], [.s b]], .i 2, .i (i : Int)] = some (if v = 0 then (none, [.l [[.s a], [.s b]], .l [[.s c], [.s d]], .l [[.s a], [.s b]], .i 2, .i ((i : Int) + 1)]) else (some 0, [.i v])) := by
 refine Ret.toEq ?_
 unfold st_sl_Compare_string_2
 (dsimp +instances only [Aa,Ab,Ac,Ad,Ae,Af,Ag])
 simp only [Int.toNat_natCast, hx, hy]
 (dsimp +instances only [Aa,Ab,Ac,Ad,Ae,Af,Ag])
 refine Ret.p (Ret.p (Ret.n (Ret.p ?_)))
 refine Ret.cE h ?_
 (dsimp +instances only [Aa,Ab,Ac,Ad,Ae,Af,Ag])
 by_cases e : v = 0
 ·subst e
  refine Ret.neg rfl (Ret.p (Ret.some rfl))
 ·rw [if_neg e]
  exact Ret.pos (by simpa using e) (Ret.some rfl)
def b40 (n : Int) : Prop := -1099511627776 ≤ n ∧ n ≤ 1099511627776
theorem r_RangeX (l : List (List G)) (a lo hi : Int) (ha : 0 ≤ a) (ha1 : a ≤ 1000000) (h0 : lo ≤ hi) (h1 : -1000 ≤ lo) (h2 : hi ≤ 400000000000) :
  Ret (F_mk_Range [.l l, .i a, .i lo, .i hi]) fun g => ∃ v, g = [.l l, .i (a + 1), .i v] ∧ lo ≤ v ∧ v ≤ hi := by
 unfold F_mk_Range
 (dsimp +instances only [Aa,Ab,Ac,Ad,Ae,Af,Ag])
 (repeat first|refine Ret.p ?_|refine Ret.n ?_)
 refine Ret.call (r_Next l a _ ha ha1 (by omega) (by omega)) ?_
 rintro _ ⟨v, rfl, h3, h4⟩
 (dsimp +instances only [Aa,Ab,Ac,Ad,Ae,Af,Ag])
 (repeat first|refine Ret.p ?_|refine Ret.n ?_)
 exact Ret.some ⟨_, rfl, by omega, by omega⟩
theorem r_OddX (l : List (List G)) (a lo hi : Int) (ha : 0 ≤ a) (ha1 : a ≤ 900000) (h0 : lo ≤ hi) (h1 : -1000 ≤ lo) (h2 : hi ≤ 400000000000) :
  Ret (F_mk_Odd [.l l, .i a, .i lo, .i hi]) fun g => ∃ v, g = [.l l, .i (a + 2), .i v] ∧ b40 v := by
 unfold F_mk_Odd
 (dsimp +instances only [Aa,Ab,Ac,Ad,Ae,Af,Ag])
 have e2 : a + 1 + 1 = a + 2 := by omega
 refine Ret.call (r_Flip l a 12 ha (by omega) (by omega) (by omega)) ?_
 rintro _ ⟨b, rfl⟩
 (dsimp +instances only [Aa,Ab,Ac,Ad,Ae,Af,Ag])
 cases b with
 | true =>
  (repeat first|refine Ret.p ?_|refine Ret.n ?_)
  refine Ret.call (r_Pick b40 l (a + 1) _ (by omega) (by omega) (by simp) (by simp) ?_) ?_
  ·intro x hx
   unfold b40
   simp only [List.mem_cons, List.not_mem_nil, or_false] at hx
   rcases hx with rfl | rfl | rfl | rfl | rfl | rfl <;> (dsimp +instances only [Aa,Ab,Ac,Ad,Ae,Af,Ag]) <;> omega
  ·rintro _ ⟨v, rfl, h3⟩
   (dsimp +instances only [Aa,Ab,Ac,Ad,Ae,Af,Ag])
   exact Ret.some ⟨v, by rw [e2], h3⟩
 | false =>
  (repeat first|refine Ret.p ?_|refine Ret.n ?_)
  refine Ret.call (r_RangeX l (a + 1) lo hi (by omega) (by omega) h0 h1 h2) ?_
  rintro _ ⟨v, rfl, h3, h4⟩
  (dsimp +instances only [Aa,Ab,Ac,Ad,Ae,Af,Ag])
  exact Ret.some ⟨v, by rw [e2], by omega, by omega⟩
def classes : List ByteArray := [⟨#[102, 117, 108, 108]⟩, ⟨#[115, 109, 97, 108, 108]⟩, ⟨#[]⟩, ⟨#[65]⟩, ⟨#[110, 111, 110, 101]⟩]
def Mod (r : List G) : Prop := ∃ m : Int, r = [.i m] ∧ 0 ≤ m ∧ m ≤ 4
def Seg (r : List G) : Prop := ∃ (c : ByteArray) (lo hi : Int) (ms : List (List G)) (f t : Int), r = [.s c, .i lo, .i hi, .l ms, .i f, .i t] ∧ c ∈ classes ∧ b40 lo ∧ b40 hi ∧ (∀ z ∈ ms, Mod z) ∧ ms.length ≤ 4 ∧ b40 f ∧ b40 t
theorem Seg.eta {r : List G} (h : Seg r) : gEta KSegment r = r := by
 obtain ⟨c, lo, hi, ms, f, t, rfl, _⟩ := h
 rfl
/-! ### How the stream compares -/
def cmpLI : List Int → List Int → Int
 | x :: xs, y :: ys => or2 (cmpI x y) (cmpLI xs ys)
 | _, _ => 0
theorem cmpInts_eq (xs ys : List Int) (hl : ys.length = xs.length) (hn : xs.length ≤ 100) : F_sl_Compare_int [.l (xs.map fun n => [.i n]), .l (ys.map fun n => [.i n])] = some [.i (cmpLI xs ys)] := by
 refine Ret.toEq ?_
 unfold F_sl_Compare_int
 (dsimp +instances only [Aa,Ab,Ac,Ad,Ae,Af,Ag])
 have r := count_runs (st := st_sl_Compare_int_2) (σ := Unit) (fun _ i => [.l (xs.map fun n => [.i n]), .l (ys.map fun n => [.i n]), .l (xs.map fun n => [.i n]), .i ((xs.map fun n => [G.i n]).length : Int), .i (i : Int)]) xs.length
  (fun _ => (1, [.l (xs.map fun n => [.i n]), .l (ys.map fun n => [.i n])])) (fun _ i => cmpLI (xs.drop i) (ys.drop i) = cmpLI xs ys) (fun c g => c = 0 ∧ g = [.i (cmpLI xs ys)])
  (fun _ i hI hi => by
   have hy : i < ys.length := by omega
   have ex : (xs.map fun n => [G.i n]).getD i [] = [.i (xs[i])] := by simp [List.getD_eq_getElem?_getD, hi]
   have ey : (ys.map fun n => [G.i n]).getD i [] = [.i (ys[i])] := by simp [List.getD_eq_getElem?_getD, hy]
   unfold st_sl_Compare_int_2
   (dsimp +instances only [Aa,Ab,Ac,Ad,Ae,Af,Ag])
   simp only [Int.toNat_natCast, ex, ey, List.length_map]
   (dsimp +instances only [Aa,Ab,Ac,Ad,Ae,Af,Ag])
   refine Ret.p (Ret.p (Ret.n (Ret.p ?_)))
   refine Ret.cE (cmpInt_eq _ _) ?_
   (dsimp +instances only [Aa,Ab,Ac,Ad,Ae,Af,Ag])
   rw [List.drop_eq_getElem_cons hi, List.drop_eq_getElem_cons hy] at hI
   have hI : or2 (cmpI xs[i] ys[i]) (cmpLI (xs.drop (i + 1)) (ys.drop (i + 1))) = cmpLI xs ys := hI
   unfold or2 at hI
   by_cases e : cmpI xs[i] ys[i] = 0
   ·rw [if_neg (by simpa using e)] at hI
    refine Ret.neg (by simpa using e) (Ret.p (Ret.some (.inl ⟨(), ?_, hI⟩)))
    simp
   ·rw [if_pos e] at hI
    exact Ret.pos (by simpa using e) (Ret.some (.inr ⟨0, _, rfl, rfl, by rw [hI]⟩)))
  (fun _ hI => by
   unfold st_sl_Compare_int_2
   (dsimp +instances only [Aa,Ab,Ac,Ad,Ae,Af,Ag])
   simp only [List.length_map]
   (repeat first|refine Ret.p ?_|refine Ret.n ?_)
   exact Ret.some rfl) xs.length () 0 (by omega) rfl
 refine Ret.loop (r.to (by omega)) rfl ?_
 rintro _ _ (⟨_, h, rfl, rfl⟩ | ⟨rfl, rfl⟩)
 ·(dsimp +instances only [Aa,Ab,Ac,Ad,Ae,Af,Ag])
  simp only [List.length_map]
  refine Ret.neg rfl (Ret.n (Ret.some ?_))
  have h : cmpLI (xs.drop xs.length) (ys.drop xs.length) = cmpLI xs ys := h
  rw [List.drop_length, List.drop_eq_nil_of_le (by omega)] at h
  rw [← h]
  rfl
 ·(dsimp +instances only [Aa,Ab,Ac,Ad,Ae,Af,Ag])
  exact Ret.pos rfl (Ret.some rfl)
theorem cmp2_eq (a b a' b' : Int) : F_sl_Compare_int [.l [[.i a], [.i b]], .l [[.i a'], [.i b']]] = some [.i (or2 (cmpI a a') (cmpI b b'))] := by
 refine (cmpInts_eq [a, b] [a', b'] rfl (by simp)).trans ?_
 have e : or2 (cmpI b b') 0 = cmpI b b' := by
  unfold or2
  split
  ·rfl
  ·rename_i h
   have h : cmpI b b' = 0 := Decidable.byContradiction fun h' => h h'
   rw [h]
 show some [G.i (or2 (cmpI a a') (or2 (cmpI b b') 0))] = _
 rw [e]
/-! ### Bands -/
def b50 (n : Int) : Prop := -2000000000000000 ≤ n ∧ n ≤ 2000000000000000
def bkeys : List ByteArray := [⟨#[98, 49, 54, 48]⟩, ⟨#[98, 52, 48]⟩, ⟨#[98, 51, 48]⟩, ⟨#[98, 50, 48]⟩, ⟨#[]⟩]
def Bnd (r : List G) : Prop := ∃ (k : ByteArray) (lo hi : Int), r = [.s k, .i lo, .i hi] ∧ k ∈ bkeys ∧ b50 lo ∧ b50 hi
theorem Bnd.eta {r : List G} (h : Bnd r) : gEta [.str, .int .i64, .int .i64] r = r := by
 obtain ⟨k, lo, hi, rfl, _⟩ := h
 rfl
/-! ### Spots -/
def Spt (r : List G) : Prop := ∃ (t h : Int) (c y : ByteArray), r = [.i t, .i h, .s c, .s y] ∧ b50 t ∧ b50 h ∧ c ∈ calls ∧ y ∈ calls
theorem Spt.eta {r : List G} (h : Spt r) : gEta KSpot r = r := by
 obtain ⟨t, h, c, y, rfl, _⟩ := h
 rfl
theorem kdsT : Kds KSpot Spt := ⟨fun _ h => h.eta⟩
def zT : List G := [.i 0, .i 0, .s (⟨#[]⟩ : ByteArray), .s (⟨#[]⟩ : ByteArray)]
def ordT (r s : List G) : Int := or2 (cmpI (gi r 0).int (gi s 0).int) (or2 (cmpI (gi r 1).int (gi s 1).int) (or2 (cmpS (gi r 2).str (gi s 2).str) (cmpS (gi r 3).str (gi s 3).str)))
theorem ordT_flip (r s : List G) : ordT s r = - ordT r s := or2_flip (ordrI.flip _ _) (or2_flip (ordrI.flip _ _) (or2_flip (ordrS.flip _ _) (ordrS.flip _ _)))
theorem ordT_le (a b d : List G) (h1 : ordT a b ≤ 0) (h2 : ordT b d ≤ 0) : ordT a d ≤ 0 :=
 or2_le ordrI _ _ _ _ _ _ h1 h2 fun g1 g2 => or2_le ordrI _ _ _ _ _ _ g1 g2 fun k1 k2 => or2_le ordrS _ _ _ _ _ _ k1 k2 fun m1 m2 => ordrS.le _ _ _ m1 m2
theorem ordT_lt (a b d : List G) (h1 : ordT a b < 0) (h2 : ordT b d < 0) : ordT a d < 0 :=
 or2_lt ordrI _ _ _ _ _ _ h1 h2 fun g1 g2 => or2_lt ordrI _ _ _ _ _ _ g1 g2 fun k1 k2 => or2_lt ordrS _ _ _ _ _ _ k1 k2 fun m1 m2 => ordrS.tr _ _ _ m1 m2
theorem linT : Lin (ltC ordT) (fun _ => True) := lin_of (fun a b => ordT_flip a b) ordT_le
theorem or2_z {a b : Int} (h : or2 a b = 0) : a = 0 ∧ b = 0 := by
 unfold or2 at h
 split at h
 ·rename_i h1
  exact (h1 h).elim
 ·rename_i h1
  exact ⟨by simpa using h1, h⟩
theorem ordT_zero {r s : List G} (hr : Spt r) (hs : Spt s) (h : ordT r s = 0) : r = s := by
 obtain ⟨t, k, c, b, rfl, _⟩ := hr
 obtain ⟨t', k', c', b', rfl, _⟩ := hs
 have e : ordT [.i t, .i k, .s c, .s b] [.i t', .i k', .s c', .s b'] = or2 (cmpI t t') (or2 (cmpI k k') (or2 (cmpS c c') (cmpS b b'))) := rfl
 rw [e] at h
 obtain ⟨h1, h⟩ := or2_z h
 obtain ⟨h2, h⟩ := or2_z h
 obtain ⟨h3, h4⟩ := or2_z h
 rw [cmpI_z.1 h1, cmpI_z.1 h2, cmpS_z.1 h3, cmpS_z.1 h4]
theorem cmpBytes_v : ∀ a b : List UInt8, Lib.compareBytes a b = -1 ∨ Lib.compareBytes a b = 0 ∨ Lib.compareBytes a b = 1
 | [], [] => .inr (.inl rfl)
 | [], _ :: _ => .inl rfl
 | _ :: _, [] => .inr (.inr rfl)
 | a :: u, b :: v => by
  simp only [Lib.compareBytes]
  split
  ·exact .inl rfl
  ·split
   ·exact .inr (.inr rfl)
   ·exact cmpBytes_v u v
theorem cmpStrX (a b : ByteArray) : F_cmp_Compare_string [.s a, .s b] = some [.i (cmpS a b)] := by
 have hn : ∀ x : ByteArray, F_cmp_isNaN_string [.s x] = some [.t false] := fun x => by
  show some [G.t (!(x.toList == x.toList))] = _
  simp
 have hL : Op.bytesLess a.toList b.toList = decide (cmpS a b < 0) := by
  rw [less_eq, ByteArray.toList_eq, ByteArray.toList_eq]
  rfl
 unfold F_cmp_Compare_string
 (dsimp +instances only [Aa,Ab,Ac,Ad,Ae,Af,Ag])
 rw [hn a, hn b]
 simp only [str_eq, hL]
 show (bif decide (cmpS a b < 0) then some [G.i (-1)] else bif !(decide (cmpS a b < 0) || decide (cmpS a b = 0)) then some [G.i 1] else some [G.i 0]) = some [.i (cmpS a b)]
 have hv : cmpS a b = -1 ∨ cmpS a b = 0 ∨ cmpS a b = 1 := cmpBytes_v _ _
 rcases hv with h | h | h <;> rw [h] <;> rfl
theorem cmpTwoX (a b c d : ByteArray) : F_sl_Compare_string [.l [[.s a], [.s b]], .l [[.s c], [.s d]]] = some [.i (or2 (cmpS a c) (cmpS b d))] := by
 have s0 := two_step a b c d a c 0 _ (cmpStrX a c) (by omega) rfl rfl
 have s1 := two_step a b c d b d 1 _ (cmpStrX b d) (by omega) rfl rfl
 refine Ret.toEq ?_
 unfold F_sl_Compare_string or2
 (dsimp +instances only [Aa,Ab,Ac,Ad,Ae,Af,Ag])
 by_cases e1 : cmpS a c = 0
 ·rw [if_pos e1] at s0
  rw [if_neg (by simpa using e1)]
  by_cases e2 : cmpS b d = 0
  ·rw [if_pos e2] at s1
   refine Ret.loop (P := fun k g => k = 1 ∧ g = [.l [[.s a], [.s b]], .l [[.s c], [.s d]]]) (RetN.to (m := 3) (RetN.next s0 (RetN.next s1 (RetN.stop (x := 1) (Ret.toEq ?_) ⟨rfl, rfl⟩))) (by omega)) rfl ?_
   ·unfold st_sl_Compare_string_2
    (dsimp +instances only [Aa,Ab,Ac,Ad,Ae,Af,Ag])
    refine Ret.neg rfl (Ret.some rfl)
   ·rintro _ _ ⟨rfl, rfl⟩
    exact Ret.some (by rw [e2])
  ·rw [if_neg e2] at s1
   refine Ret.loop (P := fun k g => k = 0 ∧ g = [.i (cmpS b d)]) (RetN.to (m := 3) (RetN.next s0 (RetN.stop s1 ⟨rfl, rfl⟩)) (by omega)) rfl ?_
   rintro _ _ ⟨rfl, rfl⟩
   exact Ret.some rfl
 ·rw [if_neg e1] at s0
  rw [if_pos e1]
  refine Ret.loop (P := fun k g => k = 0 ∧ g = [.i (cmpS a c)]) (RetN.to (m := 3) (RetN.stop s0 ⟨rfl, rfl⟩) (by omega)) rfl ?_
  rintro _ _ ⟨rfl, rfl⟩
  exact Ret.some rfl
theorem spotOrder_eq (r s : List G) : F_r2_SpotOrder [.l [r], .l [s]] = some [.i (ordT r s)] := by
 refine Ret.toEq ?_
 unfold F_r2_SpotOrder
 (dsimp +instances only [Aa,Ab,Ac,Ad,Ae,Af,Ag])
 refine Ret.cE (cmp2_eq _ _ _ _) ?_
 (dsimp +instances only [Aa,Ab,Ac,Ad,Ae,Af,Ag])
 unfold ordT
 refine Ret.test (fun h => ?_) fun h => ?_
 ·have h : or2 (cmpI (gi r 0).int (gi s 0).int) (cmpI (gi r 1).int (gi s 1).int) ≠ 0 := by simpa using h
  refine Ret.some ?_
  unfold or2 at h ⊢
  by_cases h1 : cmpI (gi r 0).int (gi s 0).int = 0
  ·rw [if_neg (by simpa using h1)] at h
   simp [h1, h]
  ·simp [h1]
 ·have h : or2 (cmpI (gi r 0).int (gi s 0).int) (cmpI (gi r 1).int (gi s 1).int) = 0 := by simpa using h
  obtain ⟨h1, h2⟩ := or2_z h
  refine Ret.cE (cmpTwoX _ _ _ _) ?_
  refine Ret.some ?_
  rw [h1, h2]
  simp [or2, gi, G.int]
theorem or_fourT (a b c d : Int) : F_cmp_Or_int [.l [[.i a], [.i b], [.i c], [.i d]]] = some [.i (or2 a (or2 b (or2 c d)))] := by
 refine Ret.toEq ?_
 unfold F_cmp_Or_int
 (dsimp +instances only [Aa,Ab,Ac,Ad,Ae,Af,Ag])
 have h := or_runs [[.i a], [.i b], [.i c], [.i d]] [] (by simp)
 refine Ret.loop (h.to (by simp)) (by (first|rfl|assumption|(simp only [inI,sl]<;>omega))) ?_
 rintro x g ⟨hx, rfl⟩
 have q : orL [[.i a], [.i b], [.i c], [.i d]] = or2 a (or2 b (or2 c d)) := by
  simp only [orL, or2]
  (dsimp +instances only [Aa,Ab,Ac,Ad,Ae,Af,Ag])
  by_cases h1 : a = 0 <;> by_cases h2 : b = 0 <;> by_cases h3 : c = 0 <;> by_cases h4 : d = 0 <;> simp [h1, h2, h3, h4]
 rw [q]
 (dsimp +instances only [Aa,Ab,Ac,Ad,Ae,Af,Ag])
 exact Ret.test (fun _ => Ret.some rfl) fun _ => Ret.some rfl
theorem compareSpots_eq (r s : List G) : F_band_compareSpots [.l [r], .l [s]] = some [.i (ordT r s)] := by
 refine Ret.toEq ?_
 unfold F_band_compareSpots ordT
 (dsimp +instances only [Aa,Ab,Ac,Ad,Ae,Af,Ag])
 refine Ret.cE (cmpInt_eq _ _) ?_
 refine Ret.cE (cmpInt_eq _ _) ?_
 refine Ret.cE (rfl : F_strings_Compare [.s (gi r 2).str, .s (gi s 2).str] = some [.i (cmpS (gi r 2).str (gi s 2).str)]) ?_
 refine Ret.cE (rfl : F_strings_Compare [.s (gi r 3).str, .s (gi s 3).str] = some [.i (cmpS (gi r 3).str (gi s 3).str)]) ?_
 (dsimp +instances only [Aa,Ab,Ac,Ad,Ae,Af,Ag])
 refine Ret.cE (or_fourT _ _ _ _) ?_
 exact Ret.some rfl
theorem cmpSpots : Cmp KSpot F_r2_SpotOrder Spt ordT := ⟨fun _ _ _ _ => spotOrder_eq _ _, fun _ h => h.eta⟩
theorem sortSpots_eq (rows : List (List G)) (hr : ∀ y ∈ rows, Spt y) (hn : rows.length ≤ 20) : F_srtS_Spot [.l rows] = some [.l (sortA (ltC ordT) rows)] :=
 sortF_eq cmpSpots rows hr hn
theorem loop_Spots (l : List (List G)) (n : Nat) (hn : n ≤ 20) : ∀ (k i : Nat) (a t : Int) (acc : List (List G)), i + k = n → 0 ≤ a → a ≤ 800000 → 0 ≤ t → t ≤ 20 * (i : Int) → a + 20 * (k : Int) ≤ 800000 → (∀ z ∈ acc, Spt z) → acc.length = i →
  RetN st_mk_Spots_4 [.l l, .i a, .l acc, .i t, .i (n : Int), .i (i : Int)] (k + 1) fun c g => c = 0 ∧ ∃ b rows, g = [.l l, .i b, .l rows] ∧ a ≤ b ∧ b ≤ a + 20 * k ∧ (∀ z ∈ rows, Spt z) ∧ rows.length = n
 | 0, i, a, t, acc, hi, ha, ha1, ht, ht1, hb, hQ, hl => by
  refine RetN.stop (x := 0) (Ret.toEq ?_) ⟨rfl, a, acc, rfl, by omega, by omega, hQ, by omega⟩
  unfold st_mk_Spots_4
  (dsimp +instances only [Aa,Ab,Ac,Ad,Ae,Af,Ag])
  (repeat first|refine Ret.p ?_|refine Ret.n ?_)
  exact Ret.some rfl
 | k + 1, i, a, t, acc, hi, ha, ha1, ht, ht1, hb, hQ, hl => by
  have key : Ret (st_mk_Spots_4 [.l l, .i a, .l acc, .i t, .i (n : Int), .i (i : Int)]) fun o => ∃ b r v, o = (none, [.l l, .i b, .l (acc ++ [r]), .i (t + v), .i (n : Int), .i ((i : Int) + 1)]) ∧ a ≤ b ∧ b ≤ a + 20 ∧ Spt r ∧ 0 ≤ v ∧ v ≤ 20 := by
   unfold st_mk_Spots_4
   (dsimp +instances only [Aa,Ab,Ac,Ad,Ae,Af,Ag])
   refine Ret.p ?_
   refine Ret.call (r_PickB 0 20 l a _ ha (by omega) (by kernel_rfl) (by kernel_rfl)) ?_
   rintro _ ⟨v, rfl, hv0, hv1⟩
   (dsimp +instances only [Aa,Ab,Ac,Ad,Ae,Af,Ag])
   refine Ret.p ?_
   refine Ret.call (r_PickB 0 20000000 l _ _ (by omega) (by omega) (by kernel_rfl) (by kernel_rfl)) ?_
   rintro _ ⟨h, rfl, hh0, hh1⟩
   (dsimp +instances only [Aa,Ab,Ac,Ad,Ae,Af,Ag])
   refine Ret.call (r_ACall l _ (by omega) (by omega)) ?_
   rintro _ ⟨c, rfl, hc⟩
   (dsimp +instances only [Aa,Ab,Ac,Ad,Ae,Af,Ag])
   refine Ret.call (r_SomeB calls l _ _ (by omega) (by omega) (by kernel_rfl) (by kernel_rfl)) ?_
   rintro _ ⟨y, rfl, hy⟩
   (dsimp +instances only [Aa,Ab,Ac,Ad,Ae,Af,Ag])
   refine Ret.call (r_Flip l _ 80 (by omega) (by omega) (by omega) (by omega)) ?_
   rintro _ ⟨f, rfl⟩
   (dsimp +instances only [Aa,Ab,Ac,Ad,Ae,Af,Ag])
   cases f with
   | false =>
    (repeat first|refine Ret.p ?_|refine Ret.n ?_)
    exact Ret.some ⟨_, _, v, rfl, by omega, by omega, ⟨_, _, _, _, rfl, by unfold b50; omega, by unfold b50; omega, hc, hy⟩, hv0, hv1⟩
   | true =>
    refine Ret.pos rfl ?_
    refine Ret.call (r_OddX l _ 0 100 (by omega) (by omega) (by omega) (by omega) (by omega)) ?_
    rintro _ ⟨t', rfl, ht'⟩
    (dsimp +instances only [Aa,Ab,Ac,Ad,Ae,Af,Ag])
    refine Ret.call (r_OddX l _ 0 30000000000 (by omega) (by omega) (by omega) (by omega) (by omega)) ?_
    rintro _ ⟨h', rfl, hh'⟩
    (dsimp +instances only [Aa,Ab,Ac,Ad,Ae,Af,Ag])
    refine Ret.call (r_SomeB calls l _ _ (by omega) (by omega) (by kernel_rfl) (by kernel_rfl)) ?_
    rintro _ ⟨y', rfl, hy'⟩
    (dsimp +instances only [Aa,Ab,Ac,Ad,Ae,Af,Ag])
    (repeat first|refine Ret.p ?_|refine Ret.n ?_)
    unfold b40 at ht' hh'
    exact Ret.some ⟨_, _, v, rfl, by omega, by omega, ⟨_, _, _, _, rfl, by unfold b50; omega, by unfold b50; omega, hc, hy'⟩, hv0, hv1⟩
  obtain ⟨_, h, b, r, v, rfl, h1, h2, h3, h4, h5⟩ := key
  have ih := loop_Spots l n hn k (i + 1) b (t + v) (acc ++ [r]) (by omega) (by omega) (by omega) (by omega) (by omega) (by omega) (by
   intro z hz
   rcases List.mem_append.1 hz with hz | hz
   ·exact hQ z hz
   ·simp at hz; exact hz ▸ h3) (by simp [hl])
  refine RetN.next h (ih.mono ?_)
  rintro c g ⟨rfl, b', rows, rfl, q1, q2, q3, q4⟩
  exact ⟨rfl, b', rows, rfl, by omega, by omega, q3, q4⟩
theorem r_Spots (l : List (List G)) (a n : Int) (ha : 0 ≤ a) (ha1 : a ≤ 700000) (h0 : 0 ≤ n) (h1 : n ≤ 20) :
  Ret (F_mk_Spots [.l l, .i a, .i n]) fun g => ∃ b rows, g = [.l l, .i b, .l rows] ∧ a ≤ b ∧ b ≤ a + 400 ∧ (∀ z ∈ rows, Spt z) ∧ (rows.length : Int) ≤ n := by
 obtain ⟨n, rfl⟩ := Int.eq_ofNat_of_zero_le h0
 unfold F_mk_Spots
 (dsimp +instances only [Aa,Ab,Ac,Ad,Ae,Af,Ag])
 refine Ret.loop ((loop_Spots l n (by omega) n 0 a 0 [] (by omega) ha (by omega) (by omega) (by omega) (by omega) (by simp) rfl).to (by omega)) rfl ?_
 rintro c g ⟨rfl, b, rows, rfl, q1, q2, q3, q4⟩
 (dsimp +instances only [Aa,Ab,Ac,Ad,Ae,Af,Ag])
 have hs := sortA_all (lt := ltC ordT) q3
 have hsl := sortA_length (ltC ordT) rows
 refine Ret.callb (Ret.eq (sortSpots_eq rows q3 (by omega))) (by (first|rfl|assumption|(simp only [inI,sl]<;>omega))) ?_
 rintro _ rfl
 (dsimp +instances only [Aa,Ab,Ac,Ad,Ae,Af,Ag])
 refine Ret.callb (P := fun g => ∃ J, g = [.l (compact (rowEq KSpot) (sortA (ltC ordT) rows) ++ J), .i ((compact (rowEq KSpot) (sortA (ltC ordT) rows)).length : Int)] ∧ (compact (rowEq KSpot) (sortA (ltC ordT) rows) ++ J).length = (sortA (ltC ordT) rows).length)
  (cmpcF_eq (Z := zT) kdsT _ hs (by omega)) (by rw [hsl]; simp) ?_
 rintro _ ⟨J, rfl, hJ⟩
 have hle : (compact (rowEq KSpot) (sortA (ltC ordT) rows)).length ≤ (sortA (ltC ordT) rows).length := compact_length _ _
 (dsimp +instances only [Aa,Ab,Ac,Ad,Ae,Af,Ag])
 simp only [Int.toNat_natCast]
 refine Ret.pos (by simp [Nat.ble_eq]) (Ret.some ?_)
 exact ⟨b, compact (rowEq KSpot) (sortA (ltC ordT) rows), by simp, by omega, by omega, fun z hz => hs z (compact_mem hz), by omega⟩
theorem momentY (t : Int) : F_r2_Moment [.i t] = some [.t (inB t 0 345686399999)] := by
 unfold F_r2_Moment
 (dsimp +instances only [Aa,Ab,Ac,Ad,Ae,Af,Ag])
 rw [in_eq]
 rfl
theorem isMomentY (t : Int) : F_kit_IsMoment [.i t] = some [.t (inB t 0 345686399999)] := by
 unfold F_kit_IsMoment
 (dsimp +instances only [Aa,Ab,Ac,Ad,Ae,Af,Ag])
 rw [outside_eq]
 show some [G.t (!(!inB t 0 345686399999))] = _
 rw [Bool.not_not]
/-! ### Spots -/
def faultT1 (x : List G) : Int :=
 bif !inB (gi x 0).int 0 345686399999 then 1 else bif !inB (gi x 1).int 0 30000000000 then 1 else bif !okCall (gi x 2).str then 3 else bif !okCall (gi x 3).str then 3 else 0
def stepT (rows : List (List G)) (i : Nat) : Int :=
 if faultT1 (rows.getD i []) ≠ 0 then faultT1 (rows.getD i []) else if 0 < i ∧ 0 ≤ ordT (rows.getD (i - 1) []) (rows.getD i []) then 7 else 0
def faultSpots (rows : List (List G)) : Int := if 2000 < rows.length then 2 else fw (stepT rows) rows.length
theorem spotsFault_step (rows : List (List G)) (hr : ∀ z ∈ rows, Spt z) (hn : rows.length ≤ 3000) (i : Nat) (hi : i < rows.length) :
  Ret (st_r2_SpotsFault_4 [.l rows, .l rows, .i (rows.length : Int), .i (i : Int)]) fun o => (stepT rows i = 0 ∧ o = (none, [.l rows, .l rows, .i (rows.length : Int), .i ((i + 1 : Nat) : Int)])) ∨ (stepT rows i ≠ 0 ∧ o = (some 0, [.i (stepT rows i)])) := by
 obtain ⟨t, h, c, y, hx, ht, hh, hc, hy⟩ := hr _ (getD_row hi)
 have hC : Spt (rows.getD i []) := hr _ (getD_row hi)
 have ef : faultT1 (rows.getD i []) = bif !inB t 0 345686399999 then 1 else bif !inB h 0 30000000000 then 1 else bif !okCall c then 3 else bif !okCall y then 3 else 0 := by
  rw [hx]
  rfl
 unfold st_r2_SpotsFault_4
 (dsimp +instances only [Aa,Ab,Ac,Ad,Ae,Af,Ag])
 simp only [Int.toNat_natCast, hC.eta]
 have f0 : (gi (rows.getD i []) 0).int = t := by rw [hx]; rfl
 have f1 : (gi (rows.getD i []) 1).int = h := by rw [hx]; rfl
 have f2 : (gi (rows.getD i []) 2).str = c := by rw [hx]; rfl
 have f3 : (gi (rows.getD i []) 3).str = y := by rw [hx]; rfl
 simp only [f0, f1, f2, f3]
 refine Ret.p (Ret.p ?_)
 refine Ret.cE (momentY t) ?_
 (dsimp +instances only [Aa,Ab,Ac,Ad,Ae,Af,Ag])
 refine Ret.test (fun h => ?_) fun h10 => ?_
 ·have e : stepT rows i = 1 := by
   unfold stepT
   rw [ef, h]
   rfl
  rw [e]
  exact Ret.some (.inr ⟨by omega, rfl⟩)
 rw [h10, cond_false] at ef
 refine Ret.cE (in_eq h 0 30000000000) ?_
 (dsimp +instances only [Aa,Ab,Ac,Ad,Ae,Af,Ag])
 refine Ret.test (fun h => ?_) fun h11 => ?_
 ·have e : stepT rows i = 1 := by
   unfold stepT
   rw [ef, h]
   rfl
  rw [e]
  exact Ret.some (.inr ⟨by omega, rfl⟩)
 rw [h11, cond_false] at ef
 refine Ret.cE (call_eq hc) ?_
 (dsimp +instances only [Aa,Ab,Ac,Ad,Ae,Af,Ag])
 refine Ret.test (fun h => ?_) fun h12 => ?_
 ·have e : stepT rows i = 3 := by
   unfold stepT
   rw [ef, h]
   rfl
  rw [e]
  exact Ret.some (.inr ⟨by omega, rfl⟩)
 rw [h12, cond_false] at ef
 refine Ret.cE (call_eq hy) ?_
 (dsimp +instances only [Aa,Ab,Ac,Ad,Ae,Af,Ag])
 refine Ret.test (fun h => ?_) fun h13 => ?_
 ·have e : stepT rows i = 3 := by
   unfold stepT
   rw [ef, h]
   rfl
  rw [e]
  exact Ret.some (.inr ⟨by omega, rfl⟩)
 rw [h13, cond_false] at ef
 have e : stepT rows i = if 0 < i ∧ 0 ≤ ordT (rows.getD (i - 1) []) (rows.getD i []) then 7 else 0 := by
  unfold stepT
  rw [ef, if_neg (by simp)]
 refine Ret.test (fun h => ?_) fun h => ?_
 ·simp only [ltI_eq, decide_eq_true_eq] at h
  have ei : ((i : Int) - 1).toNat = i - 1 := by omega
  have hy : Spt (rows.getD (i - 1) []) := hr _ (getD_row (by omega))
  simp only [ei, hy.eta]
  refine Ret.p (Ret.p ?_)
  refine Ret.cE (spotOrder_eq _ _) ?_
  (dsimp +instances only [Aa,Ab,Ac,Ad,Ae,Af,Ag])
  refine Ret.test (fun h7 => ?_) fun h7 => ?_
  ·simp only [leI_eq, decide_eq_true_eq] at h7
   rw [if_pos ⟨by omega, h7⟩] at e
   rw [e]
   exact Ret.some (.inr ⟨by omega, rfl⟩)
  ·simp only [leI_eq, decide_eq_false_iff_not] at h7
   rw [if_neg (fun h' => h7 h'.2)] at e
   refine Ret.p (Ret.some (.inl ⟨e, rfl⟩))
 ·simp only [ltI_eq, decide_eq_false_iff_not] at h
  rw [if_neg (by omega)] at e
  refine Ret.p (Ret.some (.inl ⟨e, rfl⟩))
theorem checkSpots_step (rows : List (List G)) (hr : ∀ z ∈ rows, Spt z) (hn : rows.length ≤ 3000) (i : Nat) (hi : i < rows.length) :
  Ret (st_band_CheckSpots_4 [.l rows, .l rows, .i (rows.length : Int), .i (i : Int)]) fun o => (stepT rows i = 0 ∧ o = (none, [.l rows, .l rows, .i (rows.length : Int), .i ((i + 1 : Nat) : Int)])) ∨ (stepT rows i ≠ 0 ∧ o = (some 0, [.i (stepT rows i)])) := by
 obtain ⟨t, h, c, y, hx, ht, hh, hc, hy⟩ := hr _ (getD_row hi)
 have hC : Spt (rows.getD i []) := hr _ (getD_row hi)
 have ef : faultT1 (rows.getD i []) = bif !inB t 0 345686399999 then 1 else bif !inB h 0 30000000000 then 1 else bif !okCall c then 3 else bif !okCall y then 3 else 0 := by
  rw [hx]
  rfl
 unfold st_band_CheckSpots_4
 (dsimp +instances only [Aa,Ab,Ac,Ad,Ae,Af,Ag])
 simp only [Int.toNat_natCast, hC.eta]
 have f0 : (gi (rows.getD i []) 0).int = t := by rw [hx]; rfl
 have f1 : (gi (rows.getD i []) 1).int = h := by rw [hx]; rfl
 have f2 : (gi (rows.getD i []) 2).str = c := by rw [hx]; rfl
 have f3 : (gi (rows.getD i []) 3).str = y := by rw [hx]; rfl
 simp only [f0, f1, f2, f3]
 refine Ret.p (Ret.p ?_)
 refine Ret.cE (isMomentY t) ?_
 (dsimp +instances only [Aa,Ab,Ac,Ad,Ae,Af,Ag])
 refine Ret.test (fun h => ?_) fun h10 => ?_
 ·have e : stepT rows i = 1 := by
   unfold stepT
   rw [ef, h]
   rfl
  rw [e]
  exact Ret.some (.inr ⟨by omega, rfl⟩)
 rw [h10, cond_false] at ef
 refine Ret.cE (outside_eq h 0 30000000000) ?_
 (dsimp +instances only [Aa,Ab,Ac,Ad,Ae,Af,Ag])
 refine Ret.test (fun h => ?_) fun h11 => ?_
 ·have e : stepT rows i = 1 := by
   unfold stepT
   rw [ef, h]
   rfl
  rw [e]
  exact Ret.some (.inr ⟨by omega, rfl⟩)
 rw [h11, cond_false] at ef
 refine Ret.cE (isCall_eq hc) ?_
 (dsimp +instances only [Aa,Ab,Ac,Ad,Ae,Af,Ag])
 refine Ret.test (fun h => ?_) fun h12 => ?_
 ·have e : stepT rows i = 3 := by
   unfold stepT
   rw [ef, h]
   rfl
  rw [e]
  exact Ret.some (.inr ⟨by omega, rfl⟩)
 rw [h12, cond_false] at ef
 refine Ret.cE (isCall_eq hy) ?_
 (dsimp +instances only [Aa,Ab,Ac,Ad,Ae,Af,Ag])
 refine Ret.test (fun h => ?_) fun h13 => ?_
 ·have e : stepT rows i = 3 := by
   unfold stepT
   rw [ef, h]
   rfl
  rw [e]
  exact Ret.some (.inr ⟨by omega, rfl⟩)
 rw [h13, cond_false] at ef
 have e : stepT rows i = if 0 < i ∧ 0 ≤ ordT (rows.getD (i - 1) []) (rows.getD i []) then 7 else 0 := by
  unfold stepT
  rw [ef, if_neg (by simp)]
 refine Ret.test (fun h => ?_) fun h => ?_
 ·simp only [ltI_eq, decide_eq_true_eq] at h
  have ei : ((i : Int) - 1).toNat = i - 1 := by omega
  have hy : Spt (rows.getD (i - 1) []) := hr _ (getD_row (by omega))
  simp only [ei, hy.eta]
  refine Ret.p (Ret.p ?_)
  refine Ret.cE (compareSpots_eq _ _) ?_
  (dsimp +instances only [Aa,Ab,Ac,Ad,Ae,Af,Ag])
  refine Ret.test (fun h7 => ?_) fun h7 => ?_
  ·simp only [leI_eq, decide_eq_true_eq] at h7
   rw [if_pos ⟨by omega, h7⟩] at e
   rw [e]
   exact Ret.some (.inr ⟨by omega, rfl⟩)
  ·simp only [leI_eq, decide_eq_false_iff_not] at h7
   rw [if_neg (fun h' => h7 h'.2)] at e
   refine Ret.p (Ret.some (.inl ⟨e, rfl⟩))
 ·simp only [ltI_eq, decide_eq_false_iff_not] at h
  rw [if_neg (by omega)] at e
  refine Ret.p (Ret.some (.inl ⟨e, rfl⟩))
theorem spotsFault_ok (rows : List (List G)) (hr : ∀ z ∈ rows, Spt z) : F_r2_SpotsFault [.l rows] = some [.i (faultSpots rows)] := by
 refine Ret.toEq ?_
 unfold F_r2_SpotsFault faultSpots
 (dsimp +instances only [Aa,Ab,Ac,Ad,Ae,Af,Ag])
 by_cases hn : 2000 < rows.length
 ·refine Ret.p ?_
  rw [if_pos hn]
  exact Ret.some rfl
 ·refine Ret.n ?_
  rw [if_neg hn]
  refine Ret.loop (fw_loop (fun i => [.l rows, .l rows, .i (rows.length : Int), .i (i : Int)]) rows.length (stepT rows) [] (by omega) (spotsFault_step rows hr (by omega)) ?_) rfl ?_
  ·unfold st_r2_SpotsFault_4
   (dsimp +instances only [Aa,Ab,Ac,Ad,Ae,Af,Ag])
   (repeat first|refine Ret.p ?_|refine Ret.n ?_)
   exact Ret.some rfl
  ·rintro _ _ (⟨rfl, h, rfl⟩ | ⟨rfl, rfl, _⟩)
   ·rw [h]
    exact Ret.some rfl
   ·exact Ret.some rfl
theorem checkSpots_ok (rows : List (List G)) (hr : ∀ z ∈ rows, Spt z) : F_band_CheckSpots [.l rows] = some [.i (faultSpots rows)] := by
 refine Ret.toEq ?_
 unfold F_band_CheckSpots faultSpots
 (dsimp +instances only [Aa,Ab,Ac,Ad,Ae,Af,Ag])
 by_cases hn : 2000 < rows.length
 ·refine Ret.p ?_
  rw [if_pos hn]
  exact Ret.some rfl
 ·refine Ret.n ?_
  rw [if_neg hn]
  refine Ret.loop (fw_loop (fun i => [.l rows, .l rows, .i (rows.length : Int), .i (i : Int)]) rows.length (stepT rows) [] (by omega) (checkSpots_step rows hr (by omega)) ?_) rfl ?_
  ·unfold st_band_CheckSpots_4
   (dsimp +instances only [Aa,Ab,Ac,Ad,Ae,Af,Ag])
   (repeat first|refine Ret.p ?_|refine Ret.n ?_)
   exact Ret.some rfl
  ·rintro _ _ (⟨rfl, h, rfl⟩ | ⟨rfl, rfl, _⟩)
   ·rw [h]
    exact Ret.some rfl
   ·exact Ret.some rfl
/-! ### Bands -/
section
variable {b : List (List G)} {life at_ : Int}
end
/-! ### What is asked for -/
/-! ### Two lists in one -/
theorem apartT {rows : List (List G)} (hr : ∀ y ∈ rows, Spt y) : ∀ a ∈ rows, ∀ b ∈ rows, ltC ordT a b = false → ltC ordT b a = false → a = b := by
 intro a ha b hb h1 h2
 refine ordT_zero (hr a ha) (hr b hb) ?_
 unfold ltC at h1 h2
 rw [ltI_eq, decide_eq_false_iff_not] at h1 h2
 have := ordT_flip a b
 omega
theorem sortT1 (rows : List (List G)) (hr : ∀ y ∈ rows, Spt y) (hn : rows.length < 100000) : F_sl_SortFunc_Spot [.l rows] = some [.l (sortA (ltC ordT) rows)] :=
 sortG_eq (C := F_band_compareSpots) (Q := Spt) (fun r s _ _ => ⟨_, compareSpots_eq r s, Iff.rfl⟩) (linT.mono fun _ _ => trivial) rows hr hn (apartT hr)
theorem concatT_eq (a b : List (List G)) (h : a.length + b.length ≤ 1000) : F_sl_Concat_Spot_f [.l [[.l a], [.l b]]] = some [.l (a ++ b)] := by
 have h := concF_eq (K := KSpot) (Z := zT) [a, b] (by simp [lenAll]; omega) (by simp)
 rw [show [a, b].flatten = a ++ b from by simp] at h
 exact h
def mixT (a b : List (List G)) : List (List G) := compact (rowEq KSpot) (sortA (ltC ordT) (a ++ b))
theorem mixT_length (a b : List (List G)) : (mixT a b).length ≤ a.length + b.length := by
 have h1 := compact_length (rowEq KSpot) (sortA (ltC ordT) (a ++ b))
 have h2 := sortA_length (ltC ordT) (a ++ b)
 have h3 : (a ++ b).length = a.length + b.length := List.length_append
 unfold mixT
 omega
theorem mergeTailT {a b : List (List G)} (ha : ∀ z ∈ a, Spt z) (hb : ∀ z ∈ b, Spt z) (h : a.length + b.length ≤ 1000) {t : Option (List G)} (ht : t = some [.l (sortA (ltC ordT) (a ++ b))]) :
  Ret (callB (((Nat.beq (a ++ b).length (a ++ b).length) && true) && t.isSome) t fun g4 => (callB (((Nat.beq (a ++ b).length (gi g4 0).rows.length) && true) && (F_sl_Compact_Spot [G.l (gi g4 0).rows]).isSome) (F_sl_Compact_Spot [G.l (gi g4 0).rows]) fun g5 =>
   (bif (ltI 2000 (((gi g5 1).int.toNat : Nat) : Int)) then some [G.l [], G.i 2] else (bif ((Nat.ble (gi g5 1).int.toNat (gi g5 0).rows.length) && true) then some [G.l ((gi g5 0).rows.take ((gi g5 1).int.toNat)), G.i 0] else none)))) fun g => g = [G.l (mixT a b), G.i 0] := by
 have hab : ∀ z ∈ a ++ b, Spt z := fun y hy => (List.mem_append.1 hy).elim (ha y) (hb y)
 have hs := sortA_all (lt := ltC ordT) hab
 have hsl := sortA_length (ltC ordT) (a ++ b)
 have hal : (a ++ b).length = a.length + b.length := List.length_append
 have hml := mixT_length a b
 refine Ret.callb (Ret.eq ht) (by (first|rfl|assumption|(simp only [inI,sl]<;>omega))) ?_
 rintro _ rfl
 (dsimp +instances only [Aa,Ab,Ac,Ad,Ae,Af,Ag])
 refine Ret.callb (P := fun g => ∃ J, g = [.l (mixT a b ++ J), .i ((mixT a b).length : Int)] ∧ (mixT a b ++ J).length = (sortA (ltC ordT) (a ++ b)).length)
  (cmpcF_eq (Z := zT) kdsT _ hs (by omega)) (by rw [hsl]; simp) ?_
 rintro _ ⟨J, rfl, hJ⟩
 (dsimp +instances only [Aa,Ab,Ac,Ad,Ae,Af,Ag])
 simp only [Int.toNat_natCast]
 refine Ret.n (Ret.pos (by simp [Nat.ble_eq]) (Ret.some ?_))
 simp
theorem mergeSpots_ok (a b : List (List G)) (ha : ∀ z ∈ a, Spt z) (hb : ∀ z ∈ b, Spt z) (h : a.length + b.length ≤ 1000) :
  F_band_Merge [.l a, .l b] = some (bif faultSpots a != 0 then [.l [], .i (faultSpots a)] else bif faultSpots b != 0 then [.l [], .i (faultSpots b)] else [.l (mixT a b), .i 0]) := by
 refine Ret.toEq ?_
 unfold F_band_Merge
 (dsimp +instances only [Aa,Ab,Ac,Ad,Ae,Af,Ag])
 have s0 : Ret (st_band_Merge_2 [.l a, .l b, .l [[.l a], [.l b]], .i 2, .i 0]) fun o => o = bif faultSpots a != 0 then (some 0, [.l [], .i (faultSpots a)]) else (none, [.l a, .l b, .l [[.l a], [.l b]], .i 2, .i 1]) := by
  unfold st_band_Merge_2
  (dsimp +instances only [Aa,Ab,Ac,Ad,Ae,Af,Ag])
  refine Ret.pos rfl (Ret.pos rfl ?_)
  refine Ret.cE (checkSpots_ok a ha) ?_
  (dsimp +instances only [Aa,Ab,Ac,Ad,Ae,Af,Ag])
  cases hf : faultSpots a != 0 <;> exact Ret.some rfl
 have s1 : Ret (st_band_Merge_2 [.l a, .l b, .l [[.l a], [.l b]], .i 2, .i 1]) fun o => o = bif faultSpots b != 0 then (some 0, [.l [], .i (faultSpots b)]) else (none, [.l a, .l b, .l [[.l a], [.l b]], .i 2, .i 2]) := by
  unfold st_band_Merge_2
  (dsimp +instances only [Aa,Ab,Ac,Ad,Ae,Af,Ag])
  refine Ret.pos rfl (Ret.pos rfl ?_)
  refine Ret.cE (checkSpots_ok b hb) ?_
  (dsimp +instances only [Aa,Ab,Ac,Ad,Ae,Af,Ag])
  cases hf : faultSpots b != 0 <;> exact Ret.some rfl
 have s2 : Ret (st_band_Merge_2 [.l a, .l b, .l [[.l a], [.l b]], .i 2, .i 2]) fun o => o = (some 1, [.l a, .l b]) := by
  unfold st_band_Merge_2
  (dsimp +instances only [Aa,Ab,Ac,Ad,Ae,Af,Ag])
  exact Ret.neg rfl (Ret.some rfl)
 obtain ⟨_, s0, rfl⟩ := s0
 obtain ⟨_, s1, rfl⟩ := s1
 obtain ⟨_, s2, rfl⟩ := s2
 cases h1 : faultSpots a != 0 with
 | true =>
  rw [h1] at s0
  refine Ret.loop (P := fun c g => c = 0 ∧ g = [.l [], .i (faultSpots a)]) (RetL.stop s0 ⟨rfl, rfl⟩) rfl ?_
  rintro _ _ ⟨rfl, rfl⟩
  exact Ret.some rfl
 | false =>
  rw [h1] at s0
  simp only [cond_false]
  cases h2 : faultSpots b != 0 with
  | true =>
   rw [h2] at s1
   refine Ret.loop (P := fun c g => c = 0 ∧ g = [.l [], .i (faultSpots b)]) ((RetN.next s0 (RetN.stop (m := 1) s1 ⟨rfl, rfl⟩)).to (by omega)) rfl ?_
   rintro _ _ ⟨rfl, rfl⟩
   exact Ret.some rfl
  | false =>
   rw [h2] at s1
   refine Ret.loop (P := fun c g => c = 1 ∧ g = [.l a, .l b]) ((RetN.next s0 (RetN.next s1 (RetN.stop (m := 1) s2 ⟨rfl, rfl⟩))).to (by omega)) rfl ?_
   rintro _ _ ⟨rfl, rfl⟩
   (dsimp +instances only [Aa,Ab,Ac,Ad,Ae,Af,Ag])
   refine Ret.neg rfl ?_
   refine Ret.cE (concatT_eq a b h) ?_
   (dsimp +instances only [Aa,Ab,Ac,Ad,Ae,Af,Ag])
   have hab : ∀ z ∈ a ++ b, Spt z := fun y hy => (List.mem_append.1 hy).elim (ha y) (hb y)
   exact mergeTailT ha hb h (sortT1 _ hab (by simp; omega))
section
variable {b x : List (List G)} {life at_ : Int}
end
theorem equalT_refl (a : List (List G)) (ha : ∀ z ∈ a, Spt z) (hn : a.length < 100000) : F_sl_Equal_Spot [.l a, .l a] = some [.t true] := by
 have h := equalF_eq kdsT a a ha ha hn
 rw [eqlA_refl (by rfl)] at h
 exact h
/-! ### Spots that are right -/
theorem right_spots (l : List (List G)) (a n : Int) (ha : 0 ≤ a) (ha1 : a ≤ 100000) (h0 : 0 ≤ n) (h1 : n ≤ 20) :
  Ret (F_mk_RightSpots [.l l, .i a, .i n]) fun g => ∃ b rows, g = [.l l, .i b, .l rows] ∧ a ≤ b ∧ b ≤ a + 2000 ∧ (∀ z ∈ rows, Spt z) ∧ (rows.length : Int) ≤ n ∧ faultSpots rows = 0 := by
 unfold F_mk_RightSpots
 (dsimp +instances only [Aa,Ab,Ac,Ad,Ae,Af,Ag])
 have key : ∀ (k i : Nat) (c : Int), i + k = 5 → a ≤ c → c ≤ a + 400 * (i : Int) → RetN st_mk_RightSpots_2 [.l l, .i c, .i n, .i (i : Int)] (k + 1) fun x g =>
   (x = 0 ∧ ∃ b rows, g = [.l l, .i b, .l rows] ∧ a ≤ b ∧ b ≤ a + 2000 ∧ (∀ z ∈ rows, Spt z) ∧ (rows.length : Int) ≤ n ∧ faultSpots rows = 0) ∨ (x = 1 ∧ ∃ b, g = [.l l, .i b] ∧ a ≤ b ∧ b ≤ a + 2000) := by
  intro k
  induction k with
  | zero =>
   intro i c hi hc hc1
   refine RetN.stop (x := 1) (Ret.toEq ?_) (.inr ⟨rfl, c, rfl, hc, by omega⟩)
   unfold st_mk_RightSpots_2
   (dsimp +instances only [Aa,Ab,Ac,Ad,Ae,Af,Ag])
   exact Ret.n (Ret.some rfl)
  | succ k ih =>
   intro i c hi hc hc1
   have st : Ret (st_mk_RightSpots_2 [.l l, .i c, .i n, .i (i : Int)]) fun o => (∃ b rows, o = (some 0, [.l l, .i b, .l rows]) ∧ a ≤ b ∧ b ≤ a + 2000 ∧ (∀ z ∈ rows, Spt z) ∧ (rows.length : Int) ≤ n ∧ faultSpots rows = 0) ∨
     ∃ b : Int, o = (none, [.l l, .i b, .i n, .i ((i + 1 : Nat) : Int)]) ∧ c ≤ b ∧ b ≤ c + 400 := by
    unfold st_mk_RightSpots_2
    (dsimp +instances only [Aa,Ab,Ac,Ad,Ae,Af,Ag])
    refine Ret.p ?_
    refine Ret.call (r_Spots l c n (by omega) (by omega) h0 h1) ?_
    rintro _ ⟨b, rows, rfl, q1, q2, q3, q4⟩
    (dsimp +instances only [Aa,Ab,Ac,Ad,Ae,Af,Ag])
    refine Ret.cE (spotsFault_ok rows q3) ?_
    (dsimp +instances only [Aa,Ab,Ac,Ad,Ae,Af,Ag])
    refine Ret.test (fun h => ?_) fun h => ?_
    ·exact Ret.some (.inl ⟨b, rows, rfl, by omega, by omega, q3, q4, by simpa using h⟩)
    ·(repeat first|refine Ret.p ?_|refine Ret.n ?_)
     exact Ret.some (.inr ⟨b, by simp, q1, q2⟩)
   obtain ⟨_, h, ⟨b, rows, rfl, q⟩ | ⟨b, rfl, q1, q2⟩⟩ := st
   ·exact RetN.stop h (.inl ⟨rfl, b, rows, rfl, q⟩)
   ·exact RetN.next h (ih (i + 1) b (by omega) (by omega) (by omega))
 refine Ret.loop ((key 5 0 a (by omega) (by omega) (by omega)).to (by omega)) rfl ?_
 rintro x g (⟨rfl, b, rows, rfl, q1, q2, q3, q4, q5⟩ | ⟨rfl, b, rfl, q1, q2⟩)
 ·refine Ret.pos rfl (Ret.some ⟨b, rows, rfl, q1, q2, q3, q4, q5⟩)
 ·refine Ret.neg rfl (Ret.some ⟨b, [], rfl, q1, q2, by simp, by simpa using h0, rfl⟩)
theorem rising_of {x : List (List G)} (h : faultSpots x = 0) : x.Pairwise fun r s => ordT r s < 0 := by
 unfold faultSpots at h
 split at h
 ·omega
 have z := fw_zero h
 refine pairwise_of_adj (fun a b c => ordT_lt a b c) fun k hk hl => ?_
 have h := z k hl
 unfold stepT at h
 split at h
 ·rename_i h1
  exact (h1 h).elim
 ·split at h
  ·omega
  ·rename_i h1 h2
   omega
/-! ### Nothing changes -/
def byL (l : List UInt8) : ByteArray := ⟨l.toArray⟩
theorem byL_data (l : List UInt8) : (byL l).data.toList = l := by simp [byL]
theorem byL_list (l : List UInt8) : (byL l).toList = l := by rw [Lib.toList_data, byL_data]
theorem byL_size (l : List UInt8) : (byL l).size = l.length := by rw [Lib.size_eq, byL_data]
theorem byL_of (b : ByteArray) : byL b.data.toList = b := mk_list b
theorem byL_inj {a b : ByteArray} (h : a.data.toList = b.data.toList) : a = b := by rw [← byL_of a, h, byL_of]
theorem byL_append (a b : List UInt8) : byL a ++ byL b = byL (a ++ b) := byL_inj (by simp [byL])
theorem itoa_byL (n : Int) : itoaZ n = byL (Lib.itoa n) := rfl
/-! ### Join -/
theorem strs_map (ws : List ByteArray) : (strsOf (ws.map fun w => [G.s w])).map (·.data.toList) = ws.map (·.data.toList) := by
 unfold strsOf
 rw [List.map_map, List.map_map]
 rfl
theorem joinKit (ws : List ByteArray) (hn : ws.length ≤ 1000) (hl : (lineL (ws.map (·.data.toList))).length ≤ 1000000) : F_kit_Join [.l (ws.map fun w => [.s w])] = some [.s (byL (lineL (ws.map (·.data.toList))))] := by
 have e : joinB (ws.map fun w => [G.s w]) (⟨#[32]⟩ : ByteArray) = byL (Lib.join (ws.map (·.data.toList)) [32]) := by
  unfold joinB
  rw [strs_map]
  rfl
 have hl' : (Lib.join (ws.map (·.data.toList)) [32]).length + 1 ≤ 1000000 := by
  simpa [lineL] using hl
 have hj : F_strings_Join [.l (ws.map fun w => [.s w]), .s (⟨#[32]⟩ : ByteArray)] = some [.s (byL (Lib.join (ws.map (·.data.toList)) [32]))] := by
  refine Ret.toEq ?_
  unfold F_strings_Join joinF
  (dsimp +instances only [Aa,Ab,Ac,Ad,Ae,Af,Ag])
  rw [e, byL_size]
  refine Ret.pos ?_ (Ret.some rfl)
  rw [List.length_map, Bool.and_eq_true, Nat.ble_eq, Nat.ble_eq]
  omega
 refine Ret.toEq ?_
 unfold F_kit_Join
 (dsimp +instances only [Aa,Ab,Ac,Ad,Ae,Af,Ag])
 refine Ret.cE hj ?_
 (dsimp +instances only [Aa,Ab,Ac,Ad,Ae,Af,Ag])
 refine Ret.pos (by rw [byL_size, Nat.ble_eq]; omega) (Ret.some ?_)
 rw [show (⟨#[10]⟩ : ByteArray) = byL [10] from rfl, byL_append]
 rfl
/-! ### Split -/
theorem splitLib (c : UInt8) (x : List UInt8) (xs : List (List UInt8)) (h : ∀ y ∈ x :: xs, c ∉ y) (hl : (Lib.join (x :: xs) [c]).length ≤ 1000000) :
  F_strings_Split [.s (byL (Lib.join (x :: xs) [c])), .s (⟨#[c]⟩ : ByteArray)] = some [.l ((x :: xs).map fun y => [G.s (byL y)])] := by
 refine Ret.toEq ?_
 unfold F_strings_Split
 (dsimp +instances only [Aa,Ab,Ac,Ad,Ae,Af,Ag])
 have hs : F_strings_genSplit [.s (byL (Lib.join (x :: xs) [c])), .s (⟨#[c]⟩ : ByteArray), .i 0, .i (-1)] = some [.l ((x :: xs).map fun y => [G.s (byL y)])] := by
  refine Ret.toEq ?_
  unfold F_strings_genSplit splitF
  (dsimp +instances only [Aa,Ab,Ac,Ad,Ae,Af,Ag])
  refine Ret.pos ?_ (Ret.some ?_)
  ·rw [byL_size, Bool.and_eq_true, Bool.and_eq_true, Bool.and_eq_true]
   exact ⟨rfl, rfl, rfl, by rw [Nat.blt_eq]; omega⟩
  ·rw [splitG_join (byL_data _) h]
   rfl
 refine Ret.cE hs ?_
 exact Ret.some rfl
theorem cutEnd (b : List UInt8) (hl : b.length ≤ 1000000) : F_strings_CutSuffix [.s (byL (b ++ [10])), .s (⟨#[10]⟩ : ByteArray)] = some [.s (byL b), .t true] := by
 have hz : (byL (b ++ [10])).size = b.length + 1 := by rw [byL_size]; simp
 have h1 : (⟨#[10]⟩ : ByteArray).size = 1 := rfl
 have hsuf : F_stringslite_HasSuffix [.s (byL (b ++ [10])), .s (⟨#[10]⟩ : ByteArray)] = some [.t true] := by
  refine Ret.toEq ?_
  unfold F_stringslite_HasSuffix
  (dsimp +instances only [Aa,Ab,Ac,Ad,Ae,Af,Ag])
  rw [hz, h1]
  refine Ret.pos (by rw [leI_eq, decide_eq_true_eq]; omega) (Ret.p (Ret.pos (by rw [Bool.and_eq_true, nnI_eq, leI_eq, decide_eq_true_eq, decide_eq_true_eq]; omega) (Ret.some ?_)))
  have : ((byL (b ++ [10])).extract (((b.length + 1 : Nat) : Int) - ((1 : Nat) : Int)).toNat (b.length + 1)).toList = [10] := by
   rw [Lib.toList_data, ← hz, Lib.extract_to_end, byL_data, show (((byL (b ++ [10])).size : Int) - ((1 : Nat) : Int)).toNat = b.length from by rw [hz]; omega]
   simp
  rw [this, Lib.toList_data]
  rfl
 refine Ret.toEq ?_
 unfold F_strings_CutSuffix
 (dsimp +instances only [Aa,Ab,Ac,Ad,Ae,Af,Ag])
 refine Ret.call (P := fun g => g = [.s (byL b), .t true]) ?_ ?_
 ·unfold F_stringslite_CutSuffix
  (dsimp +instances only [Aa,Ab,Ac,Ad,Ae,Af,Ag])
  refine Ret.cE hsuf ?_
  (dsimp +instances only [Aa,Ab,Ac,Ad,Ae,Af,Ag])
  rw [hz, h1]
  refine Ret.neg rfl (Ret.p (Ret.pos (by rw [Bool.and_eq_true, nnI_eq, leI_eq, decide_eq_true_eq, decide_eq_true_eq]; omega) (Ret.some ?_)))
  have : (byL (b ++ [10])).extract 0 (((b.length + 1 : Nat) : Int) - ((1 : Nat) : Int)).toNat = byL b := byL_inj (by
   rw [Lib.extract_data, byL_data, byL_data, show (((b.length + 1 : Nat) : Int) - ((1 : Nat) : Int)).toNat = b.length from by omega]
   simp)
  rw [this]
 ·rintro _ rfl
  exact Ret.some rfl
/-! ### Lines and words -/
theorem linesKit (ls : List (List (List UInt8))) (h : ∀ ws ∈ ls, ∀ w ∈ ws, Word w) (hl : (textL ls).length ≤ 1000000) : F_kit_Lines [.s (byL (textL ls))] = some [.l (ls.map fun ws => [G.s (byL (Lib.join ws [32]))]), .t true] := by
 refine Ret.toEq ?_
 unfold F_kit_Lines
 (dsimp +instances only [Aa,Ab,Ac,Ad,Ae,Af,Ag])
 rw [byL_list]
 cases ls with
 | nil => exact Ret.pos (by rw [Lib.toList_data]; rfl) (Ret.some rfl)
 | cons ws ls =>
  rw [text_body] at hl ⊢
  generalize hb : Lib.join ((ws :: ls).map fun w => Lib.join w [32]) [10] = body at hl ⊢
  have hl' : body.length + 1 ≤ 1000000 := by simpa using hl
  refine Ret.neg ?_ ?_
  ·rw [Lib.toList_data, beq_eq_false_iff_ne]
   simp
  refine Ret.cE (cutEnd body (by omega)) ?_
  (dsimp +instances only [Aa,Ab,Ac,Ad,Ae,Af,Ag])
  have hs : F_strings_Split [.s (byL body), .s (⟨#[10]⟩ : ByteArray)] = some [.l (((ws :: ls).map fun w => Lib.join w [32]).map fun y => [G.s (byL y)])] := by
   rw [← hb]
   refine splitLib 10 _ _ (fun y hy => ?_) (by
    have : (Lib.join ((ws :: ls).map fun w => Lib.join w [32]) [10]).length ≤ 1000000 := by rw [hb]; omega
    exact this)
   rw [← List.map_cons (f := fun w => Lib.join w [32])] at hy
   obtain ⟨w, hw, rfl⟩ := List.mem_map.1 hy
   exact line_nl fun z hz => h w hw z hz
  refine Ret.cE hs ?_
  refine Ret.some ?_
  rw [List.map_map]
  rfl
theorem wordsKit (ws : List (List UInt8)) (h0 : ws ≠ []) (h : ∀ w ∈ ws, Word w) (hn : ws.length ≤ 1000) (hl : (Lib.join ws [32]).length ≤ 1000000) :
  F_kit_Words [.s (byL (Lib.join ws [32]))] = some [.l (ws.map fun w => [G.s (byL w)]), .t true] := by
 refine Ret.toEq ?_
 unfold F_kit_Words
 (dsimp +instances only [Aa,Ab,Ac,Ad,Ae,Af,Ag])
 have hs : F_strings_Split [.s (byL (Lib.join ws [32])), .s (⟨#[32]⟩ : ByteArray)] = some [.l (ws.map fun w => [G.s (byL w)])] := by
  cases ws with
  | nil => exact (h0 rfl).elim
  | cons x xs => exact splitLib 32 x xs (fun y hy => (h y hy).nb) hl
 refine Ret.cE hs ?_
 (dsimp +instances only [Aa,Ab,Ac,Ad,Ae,Af,Ag])
 generalize hr : (ws.map fun w => [G.s (byL w)]) = rows
 have hlen : rows.length = ws.length := by rw [← hr, List.length_map]
 have hrow : ∀ r ∈ rows, ∃ w, Word w ∧ r = [G.s (byL w)] := fun r hr' => by
  rw [← hr] at hr'
  obtain ⟨w, hw, rfl⟩ := List.mem_map.1 hr'
  exact ⟨w, h w hw, rfl⟩
 have r := range_all (st := st_kit_Words_3) (σ := Unit) (fun _ i => [.l rows, .l rows, .i (rows.length : Int), .i (i : Int)]) rows (fun _ => (1, [.l rows])) (fun _ _ => True) () (by omega) trivial
  (fun _ i x _ hi hx hm _ => by
   obtain ⟨w, hw, rfl⟩ := hrow x hm
   unfold st_kit_Words_3
   (dsimp +instances only [Aa,Ab,Ac,Ad,Ae,Af,Ag])
   simp only [Int.toNat_natCast, hx]
   refine Ret.p (Ret.p (Ret.neg ?_ (Ret.p (Ret.some ⟨(), rfl, trivial⟩))))
   rw [show (gi [G.s (byL w)] 0).str = byL w from rfl, byL_list, Lib.toList_data, beq_eq_false_iff_ne]
   exact hw.1)
  (fun _ _ => by
   unfold st_kit_Words_3
   (dsimp +instances only [Aa,Ab,Ac,Ad,Ae,Af,Ag])
   (repeat first|refine Ret.p ?_|refine Ret.n ?_)
   exact Ret.some rfl)
 refine Ret.loop r (by simp) ?_
 rintro _ _ ⟨_, _, rfl, rfl⟩
 (dsimp +instances only [Aa,Ab,Ac,Ad,Ae,Af,Ag])
 exact Ret.neg rfl (Ret.some rfl)
/-! ### Numbers -/
theorem trimDec (u : Nat) (hl : (Lib.decDigits u).length ≤ 1000) : F_strings_Trim [.s (byL (Lib.decDigits u)), .s (⟨#[48, 49, 50, 51, 52, 53, 54, 55, 56, 57]⟩ : ByteArray)] = some [.s (⟨#[]⟩ : ByteArray)] := by
 refine Ret.toEq ?_
 unfold F_strings_Trim
 (dsimp +instances only [Aa,Ab,Ac,Ad,Ae,Af,Ag])
 have h0 : 0 < (Lib.decDigits u).length := List.length_pos_iff.2 (dec_ne u)
 refine Ret.pos ?_ (Ret.some ?_)
 ·rw [byL_size]
  simp only [Bool.and_eq_true, Nat.ble_eq, Nat.blt_eq]
  exact ⟨rfl, by decide, by decide, by omega, by omega⟩
 ·unfold trimB
  rw [byL_data, trimS_all fun b hb => ?_]
  have := dec_mem u b hb
  exact digit_of this.1 this.2
theorem atoiDec (u : Nat) (hl : (Lib.decDigits u).length ≤ 18) : F_strconv_Atoi [.s (byL (Lib.decDigits u))] = some [.i (u : Int)] := by
 refine Ret.toEq ?_
 unfold F_strconv_Atoi atoiF
 (dsimp +instances only [Aa,Ab,Ac,Ad,Ae,Af,Ag])
 refine Ret.pos (by rw [byL_size, Nat.ble_eq]; exact hl) ?_
 rw [byL_data, atoi_dec]
 exact Ret.some rfl
theorem cutMinus (u : Nat) (hl : (Lib.decDigits u).length ≤ 1000) : F_strings_CutPrefix [.s (byL (Lib.decDigits u)), .s (⟨#[45]⟩ : ByteArray)] = some [.s (byL (Lib.decDigits u)), .t false] := by
 have h0 : 0 < (Lib.decDigits u).length := List.length_pos_iff.2 (dec_ne u)
 have h1 : (⟨#[45]⟩ : ByteArray).size = 1 := rfl
 have hp : F_stringslite_HasPrefix [.s (byL (Lib.decDigits u)), .s (⟨#[45]⟩ : ByteArray)] = some [.t false] := by
  refine Ret.toEq ?_
  unfold F_stringslite_HasPrefix
  (dsimp +instances only [Aa,Ab,Ac,Ad,Ae,Af,Ag])
  rw [byL_size, h1]
  refine Ret.pos (by rw [leI_eq, decide_eq_true_eq]; omega) (Ret.pos (by rw [Bool.and_eq_true, nnI_eq, leI_eq, decide_eq_true_eq, decide_eq_true_eq]; omega) (Ret.some ?_))
  rw [Lib.toList_data, Lib.extract_data, byL_data, Lib.toList_data]
  have : (List.take (1 - 0) (List.drop 0 (Lib.decDigits u)) == (⟨#[45]⟩ : ByteArray).data.toList) = false := by
   rw [beq_eq_false_iff_ne]
   intro e
   cases hd : Lib.decDigits u with
   | nil => exact dec_ne u hd
   | cons b r =>
    rw [hd] at e
    have hb := dec_mem u b (by rw [hd]; exact List.mem_cons_self)
    simp at e
    rw [e] at hb
    simp at hb
  rw [this]
 refine Ret.toEq ?_
 unfold F_strings_CutPrefix
 (dsimp +instances only [Aa,Ab,Ac,Ad,Ae,Af,Ag])
 refine Ret.call (P := fun g => g = [.s (byL (Lib.decDigits u)), .t false]) ?_ ?_
 ·unfold F_stringslite_CutPrefix
  (dsimp +instances only [Aa,Ab,Ac,Ad,Ae,Af,Ag])
  refine Ret.cE hp ?_
  exact Ret.pos rfl (Ret.some rfl)
 ·rintro _ rfl
  exact Ret.some rfl
theorem cutMinusNeg (u : Nat) (hl : (Lib.decDigits u).length ≤ 1000) : F_strings_CutPrefix [.s (byL (45 :: Lib.decDigits u)), .s (⟨#[45]⟩ : ByteArray)] = some [.s (byL (Lib.decDigits u)), .t true] := by
 have h1 : (⟨#[45]⟩ : ByteArray).size = 1 := rfl
 have hp : F_stringslite_HasPrefix [.s (byL (45 :: Lib.decDigits u)), .s (⟨#[45]⟩ : ByteArray)] = some [.t true] := by
  refine Ret.toEq ?_
  unfold F_stringslite_HasPrefix
  (dsimp +instances only [Aa,Ab,Ac,Ad,Ae,Af,Ag])
  rw [byL_size, h1, List.length_cons]
  refine Ret.pos (by rw [leI_eq, decide_eq_true_eq]; omega) (Ret.pos (by rw [Bool.and_eq_true, nnI_eq, leI_eq, decide_eq_true_eq, decide_eq_true_eq]; omega) (Ret.some ?_))
  rw [Lib.toList_data, Lib.extract_data, byL_data, Lib.toList_data]
  rfl
 refine Ret.toEq ?_
 unfold F_strings_CutPrefix
 (dsimp +instances only [Aa,Ab,Ac,Ad,Ae,Af,Ag])
 refine Ret.call (P := fun g => g = [.s (byL (Lib.decDigits u)), .t true]) ?_ ?_
 ·unfold F_stringslite_CutPrefix
  (dsimp +instances only [Aa,Ab,Ac,Ad,Ae,Af,Ag])
  refine Ret.cE hp ?_
  (dsimp +instances only [Aa,Ab,Ac,Ad,Ae,Af,Ag])
  refine Ret.neg rfl (Ret.pos (by rw [byL_size, h1, List.length_cons, Bool.and_eq_true, nnI_eq, leI_eq, decide_eq_true_eq, decide_eq_true_eq]; omega) (Ret.some ?_))
  have : (byL (45 :: Lib.decDigits u)).extract (⟨#[45]⟩ : ByteArray).size (byL (45 :: Lib.decDigits u)).size = byL (Lib.decDigits u) := byL_inj (by
   rw [Lib.extract_to_end, byL_data, byL_data, h1]
   rfl)
  rw [this]
 ·rintro _ rfl
  exact Ret.some rfl
theorem numberKit (n : Int) (h1 : -1000000000000000 < n) (h2 : n < 1000000000000000) : F_kit_Number [.s (itoaZ n), .i 15] = some [.i n, .t true] := by
 refine Ret.toEq ?_
 have key : ∀ (u : Nat) (neg : Bool), u < 1000000000000000 → (neg = true → u ≠ 0) → ∀ s : ByteArray, F_strings_CutPrefix [.s s, .s (⟨#[45]⟩ : ByteArray)] = some [.s (byL (Lib.decDigits u)), .t neg] →
   Ret (F_kit_Number [.s s, .i 15]) fun g => g = [.i (bif neg then 0 - (u : Int) else (u : Int)), .t true] := by
  intro u neg hu hneg s hs
  have hlen : (Lib.decDigits u).length ≤ 15 := dec_length 14 u (by simpa using hu)
  have h0 : 0 < (Lib.decDigits u).length := List.length_pos_iff.2 (dec_ne u)
  unfold F_kit_Number
  (dsimp +instances only [Aa,Ab,Ac,Ad,Ae,Af,Ag])
  refine Ret.cE hs ?_
  (dsimp +instances only [Aa,Ab,Ac,Ad,Ae,Af,Ag])
  refine Ret.neg ?_ (Ret.neg ?_ ?_)
  ·rw [byL_list, Lib.toList_data, beq_eq_false_iff_ne]
   exact dec_ne u
  ·rw [byL_size, ltI_eq, decide_eq_false_iff_not]
   omega
  refine Ret.cE (trimDec u (by omega)) ?_
  (dsimp +instances only [Aa,Ab,Ac,Ad,Ae,Af,Ag])
  refine Ret.neg (by simp) (Ret.pos (by rw [byL_size, ltI_eq, decide_eq_true_eq]; omega) ?_)
  have fin : ∀ g : List G, g = [.i (u : Int)] → Ret (bif neg then (bif inI (0 - (gi g 0).int) then some [G.i (0 - (gi g 0).int), G.t true] else none) else some [G.i (gi g 0).int, G.t true]) fun g => g = [.i (bif neg then 0 - (u : Int) else (u : Int)), .t true] := by
   rintro _ rfl
   cases neg with
   | true =>
    show Ret (bif inI (0 - (u : Int)) then _ else none) _
    exact Ret.p (Ret.some rfl)
   | false => exact Ret.some rfl
  refine Ret.test (fun hz => ?_) fun _ => ?_
  ·have hu0 : u = 0 := by
    refine dec_head u ?_
    rw [byL_data, beq_iff_eq] at hz
    cases hd : Lib.decDigits u with
    | nil => exact (dec_ne u hd).elim
    | cons b r =>
     rw [hd] at hz
     have : b.toNat = 48 := by
      have : ((b.toNat : Nat) : Int) = 48 := hz
      omega
     have : b = 48 := UInt8.toNat_inj.1 this
     rw [this]
     rfl
   subst hu0
   have hn : neg = false := by
    cases neg with
    | true => exact (hneg rfl rfl).elim
    | false => rfl
   subst hn
   refine Ret.neg (by rw [byL_size, ltI_eq, decide_eq_false_iff_not, dec_small (by omega)]; simp) (Ret.neg rfl ?_)
   exact Ret.call (Ret.eq (atoiDec 0 (by omega))) fin
  ·exact Ret.call (Ret.eq (atoiDec u (by omega))) fin
 rw [itoa_byL]
 by_cases hn : n < 0
 ·obtain ⟨u, rfl⟩ : ∃ u : Nat, n = -(u : Int) := ⟨n.natAbs, by omega⟩
  have e : Lib.itoa (-(u : Int)) = 45 :: Lib.decDigits u := by
   unfold Lib.itoa
   rw [if_pos hn]
   simp
  rw [e]
  refine (key u true (by omega) (fun _ => by omega) _ (cutMinusNeg u (by have := dec_length 14 u (by simp; omega); omega))).mono ?_
  rintro _ rfl
  simp
 ·obtain ⟨u, rfl⟩ : ∃ u : Nat, n = u := ⟨n.toNat, by omega⟩
  have e : Lib.itoa (u : Int) = Lib.decDigits u := by
   unfold Lib.itoa
   rw [if_neg hn]
   simp
  rw [e]
  exact key u false (by omega) (fun h => by cases h) _ (cutMinus u (by have := dec_length 14 u (by simp; omega); omega))
theorem numbersKit (ns : List Int) (h : ∀ n ∈ ns, -1000000000000000 < n ∧ n < 1000000000000000) (hn : ns.length ≤ 1000) : F_kit_Numbers [.l (ns.map fun n => [G.s (itoaZ n)])] = some [.l (ns.map fun n => [G.i n]), .t true] := by
 refine Ret.toEq ?_
 unfold F_kit_Numbers
 (dsimp +instances only [Aa,Ab,Ac,Ad,Ae,Af,Ag])
 generalize hr : (ns.map fun n => [G.s (itoaZ n)]) = rows
 have hlen : rows.length = ns.length := by rw [← hr, List.length_map]
 have hrow : ∀ i, rows.getD i [] = (match ns[i]? with | some n => [G.s (itoaZ n)] | none => []) := fun i => by
  rw [← hr, List.getD_eq_getElem?_getD, List.getElem?_map]
  cases ns[i]? <;> rfl
 have r := range_all (st := st_kit_Numbers_3) (σ := List (List G)) (fun s i => [.l s, .l rows, .i (rows.length : Int), .i (i : Int)]) rows (fun s => (1, [.l s])) (fun s i => s = (ns.take i).map fun n => [G.i n]) [] (by omega) rfl
  (fun s i x hI hi hx hm _ => by
   subst hI
   have hi' : i < ns.length := by omega
   have hg : ns[i]? = some ns[i] := List.getElem?_eq_getElem hi'
   have hx' : x = [G.s (itoaZ ns[i])] := by rw [← hx, hrow, hg]
   subst hx'
   have hb := h _ (List.getElem_mem hi')
   have ht : ns.take (i + 1) = ns.take i ++ [ns[i]] := by rw [List.take_add_one, hg]; rfl
   unfold st_kit_Numbers_3
   (dsimp +instances only [Aa,Ab,Ac,Ad,Ae,Af,Ag])
   simp only [Int.toNat_natCast, hx]
   refine Ret.p (Ret.p ?_)
   refine Ret.cE (numberKit ns[i] hb.1 hb.2) ?_
   (dsimp +instances only [Aa,Ab,Ac,Ad,Ae,Af,Ag])
   refine Ret.neg rfl (Ret.pos (by simp; omega) (Ret.p (Ret.pos (by simp) (Ret.some ⟨_, rfl, ?_⟩))))
   rw [ht, List.map_append]
   rfl)
  (fun s _ => by
   unfold st_kit_Numbers_3
   (dsimp +instances only [Aa,Ab,Ac,Ad,Ae,Af,Ag])
   (repeat first|refine Ret.p ?_|refine Ret.n ?_)
   exact Ret.some rfl)
 refine Ret.loop r (by simp) ?_
 rintro _ _ ⟨s, hs, rfl, rfl⟩
 subst hs
 (dsimp +instances only [Aa,Ab,Ac,Ad,Ae,Af,Ag])
 refine Ret.neg rfl (Ret.pos (by simp) (Ret.some ?_))
 rw [hlen, List.take_length]
theorem writeB (a b : ByteArray) (h : a.size + b.size ≤ 1000000) : F_strings_Builder_WriteString [.s a, .s b] = some [.s (a ++ b), .i (b.size : Nat)] := by
 refine Ret.toEq ?_
 unfold F_strings_Builder_WriteString bldWF
 (dsimp +instances only [Aa,Ab,Ac,Ad,Ae,Af,Ag])
 exact Ret.pos (by rw [Nat.ble_eq]; omega) (Ret.some rfl)
theorem lenB (a : ByteArray) : F_strings_Builder_Len [.s a] = some [.s a, .i (a.size : Nat)] := rfl
theorem stringB (a : ByteArray) : F_strings_Builder_String [.s a] = some [.s a, .s a] := rfl
theorem itoaA (n : Int) (h1 : -9223372036854775808 ≤ n) (h2 : n ≤ 9223372036854775807) : F_strconv_Itoa [.i n] = some [.s (itoaZ n)] := by
 refine Ret.toEq ?_
 unfold F_strconv_Itoa
 (dsimp +instances only [Aa,Ab,Ac,Ad,Ae,Af,Ag])
 exact Ret.pos (by rw [Bool.and_eq_true, leI_eq, leI_eq, decide_eq_true_eq, decide_eq_true_eq]; exact ⟨h1, h2⟩) (Ret.some rfl)
/-! ### Two parts of a list of spots -/
theorem fw_allT {step : Nat → Int} : ∀ {n : Nat}, (∀ i, i < n → step i = 0) → fw step n = 0
 | 0, _ => rfl
 | n + 1, h => by
  show (if fw step n ≠ 0 then fw step n else step n) = 0
  rw [fw_allT fun i hi => h i (by omega)]
  simpa using h n (by omega)
theorem right_riseT {l : List (List G)} (hn : l.length ≤ 2000) (h : faultSpots l = 0) : (l.Pairwise fun a b => ordT a b < 0) ∧ ∀ z ∈ l, faultT1 z = 0 := by
 refine ⟨rising_of h, fun z hz => ?_⟩
 unfold faultSpots at h
 rw [if_neg (by omega)] at h
 have h1 := fw_zero h
 obtain ⟨i, hi, rfl⟩ := List.getElem_of_mem hz
 have e : l.getD i [] = l[i] := by rw [List.getD_eq_getElem?_getD, List.getElem?_eq_getElem hi]; rfl
 refine Decidable.byContradiction fun hne => ?_
 have := h1 i hi
 unfold stepT at this
 rw [e, if_pos hne] at this
 exact hne this
theorem rise_rightT {l : List (List G)} (hn : l.length ≤ 2000) (h1 : l.Pairwise fun a b => ordT a b < 0) (h2 : ∀ z ∈ l, faultT1 z = 0) : faultSpots l = 0 := by
 unfold faultSpots
 rw [if_neg (by omega)]
 refine fw_allT fun i hi => ?_
 unfold stepT
 rw [if_neg (by simpa using h2 _ (getD_row hi))]
 by_cases h0 : 0 < i
 ·have := adj_of_pairwise h1 i (by omega) hi
  rw [if_neg (fun h => by omega)]
 ·rw [if_neg (fun h => h0 h.1)]
theorem partsT (l rows : List (List G)) (a : Int) (ha : 0 ≤ a) (ha1 : a ≤ 100000) (hr : ∀ z ∈ rows, Spt z) (hn : rows.length ≤ 1000) :
  Ret (F_k2_parts_Spot [.l l, .i a, .l rows]) fun g => ∃ b p q, g = [.l l, .i b, .l p, .l q] ∧ a ≤ b ∧ b ≤ a + 1000 ∧ p.Sublist rows ∧ q.Sublist rows ∧ ∀ z ∈ rows, z ∈ p ∨ z ∈ q := by
 unfold F_k2_parts_Spot
 (dsimp +instances only [Aa,Ab,Ac,Ad,Ae,Af,Ag])
 have r := range_all (st := st_k2_parts_Spot_3) (σ := Int × List (List G) × List (List G)) (fun s i => [.l l, .i s.1, .l s.2.1, .l s.2.2, .l rows, .i (rows.length : Int), .i (i : Int)]) rows (fun s => (0, [.l l, .i s.1, .l s.2.1, .l s.2.2]))
  (fun s i => (a ≤ s.1 ∧ s.1 ≤ a + i) ∧ s.2.1.Sublist (rows.take i) ∧ s.2.2.Sublist (rows.take i) ∧ ∀ z ∈ rows.take i, z ∈ s.2.1 ∨ z ∈ s.2.2) (a, [], []) (by omega) ⟨⟨by simp, by simp⟩, by simp, by simp, by simp⟩
  (fun s i x hI hi hx hm ht => by
   obtain ⟨⟨h1, h2⟩, hp, hq, hz⟩ := hI
   have hc := hr x hm
   have lp := hp.length_le
   have lq := hq.length_le
   simp only [List.length_take] at lp lq
   have up : ∀ {u : List (List G)}, u.Sublist (rows.take i) → (u ++ [x]).Sublist (rows.take (i + 1)) := fun h => by
    rw [ht]
    exact h.append (List.Sublist.refl _)
   have up0 : ∀ {u : List (List G)}, u.Sublist (rows.take i) → u.Sublist (rows.take (i + 1)) := fun h => by
    rw [ht]
    exact h.trans (List.sublist_append_left _ _)
   unfold st_k2_parts_Spot_3
   (dsimp +instances only [Aa,Ab,Ac,Ad,Ae,Af,Ag])
   simp only [Int.toNat_natCast, hx, hc.eta]
   refine Ret.p (Ret.p ?_)
   refine Ret.call (r_Next l s.1 3 (by omega) (by omega) (by omega) (by omega)) ?_
   rintro _ ⟨v, rfl, hv0, hv1⟩
   (dsimp +instances only [Aa,Ab,Ac,Ad,Ae,Af,Ag])
   refine Ret.test (fun _ => ?_) fun _ => ?_
   ·(repeat first|refine Ret.p ?_|refine Ret.n ?_)
    refine Ret.some ⟨(s.1 + 1, s.2.1 ++ [x], s.2.2), rfl, ⟨by simp only; omega, by simp only; omega⟩, up hp, up0 hq, fun z hz' => ?_⟩
    rw [ht] at hz'
    rcases List.mem_append.1 hz' with h | h
    ·exact (hz z h).imp (fun h => List.mem_append_left _ h) id
    ·exact .inl (List.mem_append_right _ h)
   ·refine Ret.test (fun _ => ?_) fun _ => ?_
    ·(repeat first|refine Ret.p ?_|refine Ret.n ?_)
     refine Ret.some ⟨(s.1 + 1, s.2.1, s.2.2 ++ [x]), rfl, ⟨by simp only; omega, by simp only; omega⟩, up0 hp, up hq, fun z hz' => ?_⟩
     rw [ht] at hz'
     rcases List.mem_append.1 hz' with h | h
     ·exact (hz z h).imp id (fun h => List.mem_append_left _ h)
     ·exact .inr (List.mem_append_right _ h)
    ·(repeat first|refine Ret.p ?_|refine Ret.n ?_)
     refine Ret.some ⟨(s.1 + 1, s.2.1 ++ [x], s.2.2 ++ [x]), rfl, ⟨by simp only; omega, by simp only; omega⟩, up hp, up hq, fun z hz' => ?_⟩
     rw [ht] at hz'
     rcases List.mem_append.1 hz' with h | h
     ·exact (hz z h).imp (fun h => List.mem_append_left _ h) (fun h => List.mem_append_left _ h)
     ·exact .inl (List.mem_append_right _ h))
  (fun s hI => by
   unfold st_k2_parts_Spot_3
   (dsimp +instances only [Aa,Ab,Ac,Ad,Ae,Af,Ag])
   (repeat first|refine Ret.p ?_|refine Ret.n ?_)
   exact Ret.some rfl)
 refine Ret.loop r (by simp) ?_
 rintro _ _ ⟨s, ⟨⟨h1, h2⟩, hp, hq, hz⟩, rfl, rfl⟩
 (dsimp +instances only [Aa,Ab,Ac,Ad,Ae,Af,Ag])
 rw [List.take_length] at hp hq hz
 refine Ret.pos (by simp) (Ret.some ⟨s.1, s.2.1, s.2.2, rfl, h1, by omega, hp, hq, hz⟩)
theorem rowEq_spt {a b : List G} (ha : Spt a) (hb : Spt b) (h : rowEq KSpot a b = true) : a = b := by
 obtain ⟨t, k, c, s, rfl, _⟩ := ha
 obtain ⟨t', k', c', s', rfl, _⟩ := hb
 have e : rowEq KSpot [.i t, .i k, .s c, .s s] [.i t', .i k', .s c', .s s'] = ((t == t') && ((k == k') && ((c.toList == c'.toList) && ((s.toList == s'.toList) && true)))) := rfl
 rw [e] at h
 simp only [Bool.and_eq_true, beq_iff_eq, Bool.and_true] at h
 obtain ⟨h1, h2, h4, h5⟩ := h
 have e4 : c = c' := str_ext (by simpa using h4)
 have e5 : s = s' := str_ext (by simpa using h5)
 rw [h1, h2, e4, e5]
theorem ordT_irr (a : List G) : ¬ ordT a a < 0 := fun h => by
 have := ordT_flip a a
 omega
theorem mixT_parts {x p q : List (List G)} (hx : ∀ z ∈ x, Spt z) (hs : x.Pairwise fun a b => ordT a b < 0) (hp : ∀ z ∈ p, z ∈ x) (hq : ∀ z ∈ q, z ∈ x) (hz : ∀ z ∈ x, z ∈ p ∨ z ∈ q) : mixT p q = x := by
 have hpq : ∀ z ∈ p ++ q, Spt z := fun z h => (List.mem_append.1 h).elim (fun h => hx z (hp z h)) fun h => hx z (hq z h)
 have hS := sortA_all (lt := ltC ordT) hpq
 have he : ∀ a ∈ sortA (ltC ordT) (p ++ q), ∀ b ∈ sortA (ltC ordT) (p ++ q), rowEq KSpot a b = true → a = b := fun a ha b hb h => rowEq_spt (hS a ha) (hS b hb) h
 refine rising_unique (R := fun a b => ordT a b < 0) ordT_irr ordT_lt (compact_rising ordT_lt (fun z _ => rowEq_refl KSpot z rfl) (fun _ _ _ h1 h2 => rowEq_trans h1 h2) he ?_) hs fun z => ?_
 ·refine List.Pairwise.imp_of_mem ?_ (sortA_sorted linT (l := p ++ q) fun _ _ => trivial)
  intro a b ha hb h
  unfold ltC at h
  rw [ltI_eq, decide_eq_false_iff_not] at h
  have := ordT_flip a b
  by_cases h0 : ordT a b = 0
  ·exact .inl (ordT_zero (hS a ha) (hS b hb) h0)
  ·exact .inr (by omega)
 ·show z ∈ compact (rowEq KSpot) (sortA (ltC ordT) (p ++ q)) ↔ z ∈ x
  rw [compact_iff he, (sortA_perm (lt := ltC ordT) (p ++ q)).mem_iff, List.mem_append]
  exact ⟨fun h => h.elim (hp z) (hq z), hz z⟩
theorem part_rightT {x p : List (List G)} (hn : x.length ≤ 1000) (h : faultSpots x = 0) (hp : p.Sublist x) : faultSpots p = 0 := by
 obtain ⟨h1, h2⟩ := right_riseT (by omega) h
 have := hp.length_le
 exact rise_rightT (by omega) (h1.sublist hp) fun z hz => h2 z (hp.subset hz)
/-! ### The text of spots -/
def wordB (s : ByteArray) : Bool := Nat.ble 1 s.data.toList.length && (Nat.ble s.data.toList.length 20 && s.data.toList.all fun b => !(b == 32) && !(b == 10))
theorem wordB_iff {s : ByteArray} (h : wordB s = true) : Word s.data.toList ∧ s.data.toList.length ≤ 20 := by
 unfold wordB at h
 simp only [Bool.and_eq_true, Nat.ble_eq] at h
 obtain ⟨h1, h2, h3⟩ := h
 refine ⟨⟨fun e => by rw [e] at h1; simp at h1, fun b hb => ?_⟩, h2⟩
 have := List.all_eq_true.1 h3 b hb
 simpa using this
theorem calls_words : (calls.all fun s => !okCall s || wordB s) = true := by kernel_rfl
theorem call_word {s : ByteArray} (h : s ∈ calls) (hok : okCall s = true) : Word s.data.toList ∧ s.data.toList.length ≤ 20 := by
 have := List.all_eq_true.1 calls_words s h
 rw [hok] at this
 exact wordB_iff (by simpa using this)
def wordsT (r : List G) : List (List UInt8) := [Lib.itoa (gi r 0).int, Lib.itoa (gi r 1).int, (gi r 2).str.data.toList, (gi r 3).str.data.toList]
def SptW (r : List G) : Prop := ∃ (t h : Int) (c y : ByteArray), r = [.i t, .i h, .s c, .s y] ∧ (0 ≤ t ∧ t ≤ 345686399999) ∧ (0 ≤ h ∧ h ≤ 30000000000) ∧ (Word c.data.toList ∧ c.data.toList.length ≤ 20) ∧ Word y.data.toList ∧ y.data.toList.length ≤ 20
theorem sptW_of {r : List G} (h : Spt r) (hf : faultT1 r = 0) : SptW r := by
 obtain ⟨t, k, c, y, rfl, _, _, hc, hy⟩ := h
 unfold faultT1 at hf
 cases h1 : inB t 0 345686399999 with
 | false => rw [show (gi [G.i t, G.i k, G.s c, G.s y] 0).int = t from rfl, h1] at hf; cases hf
 | true =>
  rw [show (gi [G.i t, G.i k, G.s c, G.s y] 0).int = t from rfl, h1] at hf
  cases h2 : inB k 0 30000000000 with
  | false => rw [show (gi [G.i t, G.i k, G.s c, G.s y] 1).int = k from rfl, h2] at hf; cases hf
  | true =>
   rw [show (gi [G.i t, G.i k, G.s c, G.s y] 1).int = k from rfl, h2] at hf
   cases h3 : okCall c with
   | false => rw [show (gi [G.i t, G.i k, G.s c, G.s y] 2).str = c from rfl, h3] at hf; cases hf
   | true =>
    rw [show (gi [G.i t, G.i k, G.s c, G.s y] 2).str = c from rfl, h3] at hf
    cases h4 : okCall y with
    | false => rw [show (gi [G.i t, G.i k, G.s c, G.s y] 3).str = y from rfl, h4] at hf; cases hf
    | true =>
     refine ⟨t, k, c, y, rfl, ?_, ?_, call_word hc h3, call_word hy h4⟩
     ·simpa [inB, leI_eq] using h1
     ·simpa [inB, leI_eq] using h2
theorem len_itoa {n : Int} (h0 : 0 ≤ n) (h1 : n ≤ 345686399999) : (Lib.itoa n).length ≤ 15 := by
 unfold Lib.itoa
 rw [if_neg (by omega)]
 exact dec_length 14 _ (by simp; omega)
theorem wordsT_word {r : List G} (h : SptW r) : ∀ w ∈ wordsT r, Word w := by
 obtain ⟨t, k, c, y, rfl, _, _, hc, hy⟩ := h
 intro w hw
 have hw : w ∈ [Lib.itoa t, Lib.itoa k, c.data.toList, y.data.toList] := hw
 simp only [List.mem_cons, List.not_mem_nil, or_false] at hw
 rcases hw with rfl | rfl | rfl | rfl
 ·exact itoa_word t
 ·exact itoa_word k
 ·exact hc.1
 ·exact hy.1
theorem wordsT_len {r : List G} (h : SptW r) : (lineL (wordsT r)).length ≤ 100 := by
 obtain ⟨t, k, c, y, rfl, ht, hk, hc, hy⟩ := h
 have h1 := len_itoa ht.1 ht.2
 have h2 := len_itoa hk.1 (by omega)
 have e : wordsT [.i t, .i k, .s c, .s y] = [Lib.itoa t, Lib.itoa k, c.data.toList, y.data.toList] := rfl
 rw [e]
 unfold lineL
 rw [join_two, join_two, join_two, Lib.join_one]
 simp only [List.length_append, List.length_cons, List.length_nil]
 have := hc.2
 have := hy.2
 omega
theorem textL_len {f : List G → List (List UInt8)} : ∀ {x : List (List G)}, (∀ z ∈ x, (lineL (f z)).length ≤ 100) → (textL (x.map f)).length ≤ 100 * x.length
 | [], _ => by simp [textL]
 | z :: x, h => by
  have ih := textL_len (x := x) fun y hy => h y (List.mem_cons_of_mem z hy)
  have := h z List.mem_cons_self
  have e : textL ((z :: x).map f) = lineL (f z) ++ textL (x.map f) := rfl
  rw [e, List.length_append, List.length_cons]
  omega
theorem textT (x : List (List G)) (hx : ∀ z ∈ x, Spt z) (hf : faultSpots x = 0) (hn : x.length ≤ 20) : F_band_Text [.l x] = some [.s (byL (textL (x.map wordsT))), .i 0] := by
 obtain ⟨_, hf1⟩ := right_riseT (by omega) hf
 have hW : ∀ z ∈ x, SptW z := fun z hz => sptW_of (hx z hz) (hf1 z hz)
 refine Ret.toEq ?_
 unfold F_band_Text
 (dsimp +instances only [Aa,Ab,Ac,Ad,Ae,Af,Ag])
 refine Ret.cE (checkSpots_ok x hx) ?_
 (dsimp +instances only [Aa,Ab,Ac,Ad,Ae,Af,Ag])
 rw [hf]
 refine Ret.neg rfl ?_
 have r := range_all (st := st_band_Text_6) (σ := Unit) (fun _ i => [.s (byL (textL ((x.take i).map wordsT))), .l x, .i (x.length : Int), .i (i : Int)]) x (fun _ => (0, [.s (byL (textL (x.map wordsT)))])) (fun _ _ => True) () (by omega) trivial
  (fun _ i z _ hi hz hm ht => by
   obtain ⟨t, k, c, y, rfl, h1, h2, h3, h4⟩ := hW z hm
   have hl := wordsT_len (hW _ hm)
   have ht1 : (textL ((x.take i).map wordsT)).length ≤ 100 * (x.take i).length := textL_len fun w hw => wordsT_len (hW w (List.mem_of_mem_take hw))
   have ht2 : (x.take i).length ≤ 20 := by rw [List.length_take]; omega
   unfold st_band_Text_6
   (dsimp +instances only [Aa,Ab,Ac,Ad,Ae,Af,Ag])
   simp only [Int.toNat_natCast, hz]
   refine Ret.p (Ret.p ?_)
   refine Ret.cE (itoaA t (by omega) (by omega)) ?_
   (dsimp +instances only [Aa,Ab,Ac,Ad,Ae,Af,Ag])
   refine Ret.cE (itoaA k (by omega) (by omega)) ?_
   (dsimp +instances only [Aa,Ab,Ac,Ad,Ae,Af,Ag])
   refine Ret.call (Ret.eq (joinKit [itoaZ t, itoaZ k, c, y] (by simp) (by
    have e : [itoaZ t, itoaZ k, c, y].map (·.data.toList) = wordsT [.i t, .i k, .s c, .s y] := rfl
    rw [e]
    omega))) ?_
   rintro _ rfl
   (dsimp +instances only [Aa,Ab,Ac,Ad,Ae,Af,Ag])
   refine Ret.call (Ret.eq (writeB _ _ (by
    have e : [itoaZ t, itoaZ k, c, y].map (·.data.toList) = wordsT [.i t, .i k, .s c, .s y] := rfl
    rw [byL_size, byL_size, e]
    omega))) ?_
   rintro _ rfl
   (dsimp +instances only [Aa,Ab,Ac,Ad,Ae,Af,Ag])
   refine Ret.p (Ret.some ⟨(), ?_, trivial⟩)
   rw [ht, List.map_append, show [[G.i t, G.i k, G.s c, G.s y]].map wordsT = [wordsT [G.i t, G.i k, G.s c, G.s y]] from rfl, textL_snoc, ← byL_append]
   rfl)
  (fun _ _ => by
   unfold st_band_Text_6
   (dsimp +instances only [Aa,Ab,Ac,Ad,Ae,Af,Ag])
   rw [List.take_length]
   exact Ret.n (Ret.some rfl))
 refine Ret.loop r (by simp) ?_
 rintro _ _ ⟨_, _, rfl, rfl⟩
 (dsimp +instances only [Aa,Ab,Ac,Ad,Ae,Af,Ag])
 have hl : (textL (x.map wordsT)).length ≤ 100 * x.length := textL_len fun w hw => wordsT_len (hW w hw)
 refine Ret.cE (lenB _) ?_
 (dsimp +instances only [Aa,Ab,Ac,Ad,Ae,Af,Ag])
 refine Ret.neg (by rw [byL_size, ltI_eq, decide_eq_false_iff_not]; omega) ?_
 refine Ret.cE (stringB _) ?_
 exact Ret.some rfl
theorem readT (x : List (List G)) (hx : ∀ z ∈ x, Spt z) (hf : faultSpots x = 0) (hn : x.length ≤ 20) : F_band_Read [.s (byL (textL (x.map wordsT)))] = some [.l x, .i 0, .i 0] := by
 obtain ⟨_, hf1⟩ := right_riseT (by omega) hf
 have hW : ∀ z ∈ x, SptW z := fun z hz => sptW_of (hx z hz) (hf1 z hz)
 have hl : (textL (x.map wordsT)).length ≤ 100 * x.length := textL_len fun w hw => wordsT_len (hW w hw)
 refine Ret.toEq ?_
 unfold F_band_Read
 (dsimp +instances only [Aa,Ab,Ac,Ad,Ae,Af,Ag])
 refine Ret.neg (by rw [byL_size, ltI_eq, decide_eq_false_iff_not]; omega) ?_
 refine Ret.call (Ret.eq (linesKit (x.map wordsT) (fun ws hws => by
  obtain ⟨z, hz, rfl⟩ := List.mem_map.1 hws
  exact wordsT_word (hW z hz)) (by omega))) ?_
 rintro _ rfl
 (dsimp +instances only [Aa,Ab,Ac,Ad,Ae,Af,Ag])
 rw [List.map_map]
 generalize hr : x.map ((fun ws => [G.s (byL (Lib.join ws [32]))]) ∘ wordsT) = rows
 have hlen : rows.length = x.length := by rw [← hr, List.length_map]
 have hrow : ∀ i (hi : i < x.length), rows.getD i [] = [G.s (byL (Lib.join (wordsT x[i]) [32]))] := fun i hi => by
  rw [← hr, List.getD_eq_getElem?_getD, List.getElem?_map, List.getElem?_eq_getElem hi]
  rfl
 have r := range_all (st := st_band_Read_6) (σ := Unit) (fun _ i => [.l (x.take i), .l rows, .t true, .l rows, .i (rows.length : Int), .i (i : Int)]) rows (fun _ => (1, [.l x])) (fun _ _ => True) () (by omega) trivial
  (fun _ i z _ hi hz hm _ => by
   have hi' : i < x.length := by omega
   have hm' : x[i] ∈ x := List.getElem_mem hi'
   have ht : x.take (i + 1) = x.take i ++ [x[i]] := by rw [List.take_add_one, List.getElem?_eq_getElem hi']; rfl
   have hz' := hrow i hi'
   have hWi := hW _ hm'
   have hll := wordsT_len hWi
   have hww := wordsT_word hWi
   obtain ⟨t, k, c, y, he, h1, h2, h3, h4⟩ := hWi
   rw [he] at hz' hll hww ht
   have ht2 : (x.take i).length ≤ 20 := by rw [List.length_take]; omega
   unfold st_band_Read_6
   (dsimp +instances only [Aa,Ab,Ac,Ad,Ae,Af,Ag])
   simp only [Int.toNat_natCast, hz']
   refine Ret.p (Ret.p ?_)
   refine Ret.call (Ret.eq (wordsKit (wordsT [.i t, .i k, .s c, .s y]) (by simp [wordsT]) hww (by simp [wordsT]) (by
    unfold lineL at hll
    rw [List.length_append] at hll
    omega))) ?_
   rintro _ rfl
   (dsimp +instances only [Aa,Ab,Ac,Ad,Ae,Af,Ag])
   refine Ret.neg rfl (Ret.neg rfl (Ret.neg rfl ?_))
   refine Ret.tail (P := fun x' g => x' = 1 ∧ g = [.l (x.take i), .l rows, .t true, .i (i : Int), .l ((wordsT [.i t, .i k, .s c, .s y]).map fun w => [G.s (byL w)]), .l rows, .i (rows.length : Int), .i (i : Int)]) ?_ (by (first|rfl|assumption|(simp only [inI,sl]<;>omega))) ?_
   ·unfold tl_band_Read_10
    (dsimp +instances only [Aa,Ab,Ac,Ad,Ae,Af,Ag])
    exact Ret.neg rfl (Ret.pos (by simp) (Ret.some ⟨1, rfl, rfl, rfl⟩))
   rintro _ _ ⟨rfl, rfl⟩
   (dsimp +instances only [Aa,Ab,Ac,Ad,Ae,Af,Ag])
   refine Ret.neg rfl (Ret.pos rfl ?_)
   refine Ret.call (Ret.eq (numbersKit [t, k] (fun n hn => by
    simp only [List.mem_cons, List.not_mem_nil, or_false] at hn
    rcases hn with rfl | rfl <;> omega) (by simp))) ?_
   rintro _ rfl
   (dsimp +instances only [Aa,Ab,Ac,Ad,Ae,Af,Ag])
   refine Ret.neg rfl (Ret.pos rfl (Ret.pos rfl (Ret.pos rfl (Ret.pos rfl (Ret.pos (by simp; omega) (Ret.p (Ret.pos (by simp) (Ret.some ⟨(), ?_, trivial⟩))))))))
   rw [ht, ← byL_of c, ← byL_of y]
   rfl)
  (fun _ _ => by
   unfold st_band_Read_6
   (dsimp +instances only [Aa,Ab,Ac,Ad,Ae,Af,Ag])
   rw [hlen, List.take_length]
   exact Ret.n (Ret.pos (by simp) (Ret.some rfl)))
 refine Ret.loop r (by simp) ?_
 rintro _ _ ⟨_, _, rfl, rfl⟩
 (dsimp +instances only [Aa,Ab,Ac,Ad,Ae,Af,Ag])
 refine Ret.neg rfl ?_
 refine Ret.callb (Ret.eq (checkSpots_ok x hx)) (by simp) ?_
 rintro _ rfl
 (dsimp +instances only [Aa,Ab,Ac,Ad,Ae,Af,Ag])
 rw [hf]
 exact Ret.neg rfl (Ret.pos (by simp) (Ret.some rfl))
theorem errs_four : F_k2_errs [.l [[.i 0], [.i 0], [.i 0], [.i 0]]] = some [.i 0] := by kernel_rfl
theorem spotsAgree_data (rows : List (List G)) : F_k2_SpotsAgree [.l rows] = some [.t true] := by
 refine Ret.toEq ?_
 unfold F_k2_SpotsAgree
 (dsimp +instances only [Aa,Ab,Ac,Ad,Ae,Af,Ag])
 refine Ret.call (r_Range rows 0 0 12 (by omega) (by omega) (by omega) (by omega) (by omega)) ?_
 rintro _ ⟨n, rfl, hn0, hn1⟩
 (dsimp +instances only [Aa,Ab,Ac,Ad,Ae,Af,Ag])
 refine Ret.call (right_spots rows _ n (by omega) (by omega) hn0 (by omega)) ?_
 rintro _ ⟨p1, x, rfl, hp1, hp1', hx, hxl, hf⟩
 (dsimp +instances only [Aa,Ab,Ac,Ad,Ae,Af,Ag])
 refine Ret.call (partsT rows x p1 (by omega) (by omega) hx (by omega)) ?_
 rintro _ ⟨p2, p, q, rfl, _, _, hp, hq, hpq⟩
 (dsimp +instances only [Aa,Ab,Ac,Ad,Ae,Af,Ag])
 have lp := hp.length_le
 have lq := hq.length_le
 have hS := (right_riseT (by omega) hf).1
 have hP : ∀ z ∈ p, Spt z := fun z hz => hx z (hp.subset hz)
 have hQ : ∀ z ∈ q, Spt z := fun z hz => hx z (hq.subset hz)
 have m1 : F_band_Merge [.l p, .l q] = some [.l x, .i 0] := by
  have := mergeSpots_ok p q hP hQ (by omega)
  rw [part_rightT (by omega) hf hp, part_rightT (by omega) hf hq, mixT_parts hx hS (fun z h => hp.subset h) (fun z h => hq.subset h) hpq] at this
  exact this
 have m2 : F_band_Merge [.l q, .l p] = some [.l x, .i 0] := by
  have := mergeSpots_ok q p hQ hP (by omega)
  rw [part_rightT (by omega) hf hp, part_rightT (by omega) hf hq, mixT_parts hx hS (fun z h => hq.subset h) (fun z h => hp.subset h) fun z hz => (hpq z hz).symm] at this
  exact this
 refine Ret.cE m1 ?_
 refine Ret.cE m2 ?_
 (dsimp +instances only [Aa,Ab,Ac,Ad,Ae,Af,Ag])
 refine Ret.cE (textT x hx hf (by omega)) ?_
 (dsimp +instances only [Aa,Ab,Ac,Ad,Ae,Af,Ag])
 refine Ret.cE (readT x hx hf (by omega)) ?_
 (dsimp +instances only [Aa,Ab,Ac,Ad,Ae,Af,Ag])
 refine Ret.cE errs_four ?_
 refine Ret.pos rfl ?_
 have eq := equalT_refl x hx (by omega)
 refine Ret.cE eq ?_
 refine Ret.pos rfl ?_
 refine Ret.cE eq ?_
 refine Ret.pos rfl ?_
 refine Ret.cE eq ?_
 refine Ret.pos rfl ?_
 refine Ret.cE (rfl : F_k2_ready [] = some [.t true]) ?_
 exact Ret.some rfl
end
end Go.Proofs.SYtchcbaapbinpbaaGreatDoor
