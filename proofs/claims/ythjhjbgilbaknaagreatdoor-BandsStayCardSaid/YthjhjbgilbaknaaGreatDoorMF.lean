/-
 What is proved here: what the methods of the stream give on data. No condition.
-/
import Derived.Test.YthjhjbgilbaknaaGreatDoorML5
import Derived.Test.YthjhjbgilbaknaaGreatDoorME
set_option linter.unusedSimpArgs false
set_option linter.unusedVariables false
set_option linter.unusedSectionVars false
namespace Go.Proofs.SYthjhjbgilbaknaaGreatDoor
open Go Go.AL Go.Proofs
noncomputable section
theorem r_Below (x n : Int) (h0 : 1 ≤ n) (h1 : n ≤ 1099511627776) : Ret (F_pilemake_Below [.i x, .i n]) fun g => ∃ v, g = [.i v] ∧ 0 ≤ v ∧ v < n := by
 unfold F_pilemake_Below
 (dsimp +instances only [Aa,Ab,Ac,Ad,Ae,Af,Ag])
 have ha := Int.tmod_lt_of_pos x (by omega : 0 < n)
 have hb := Int.lt_tmod_of_pos x (by omega : 0 < n)
 (repeat first|refine Ret.p ?_|refine Ret.n ?_)
 refine Ret.test (fun h => ?_) fun h => ?_
 ·simp only [ltI_eq, decide_eq_true_eq] at h
  (repeat first|refine Ret.p ?_|refine Ret.n ?_)
  exact Ret.some ⟨_, rfl, by omega, by omega⟩
 ·simp only [ltI_eq, decide_eq_false_iff_not] at h
  exact Ret.some ⟨_, rfl, by omega, by omega⟩
theorem r_Next (l : List (List G)) (a n : Int) (ha : 0 ≤ a) (ha1 : a ≤ 1000000) (h0 : 1 ≤ n) (h1 : n ≤ 1099511627776) :
  Ret (F_mk_Next [.l l, .i a, .i n]) fun g => ∃ v, g = [.l l, .i (a + 1), .i v] ∧ 0 ≤ v ∧ v < n := by
 unfold F_mk_Next
 (dsimp +instances only [Aa,Ab,Ac,Ad,Ae,Af,Ag])
 have ea : a + 1 - 1 = a := by omega
 simp only [ea]
 by_cases hl : l.length = 0
 ·(repeat first|refine Ret.p ?_|refine Ret.n ?_)
  refine Ret.call (r_Below _ n h0 h1) ?_
  rintro _ ⟨v, rfl, h2, h3⟩
  (dsimp +instances only [Aa,Ab,Ac,Ad,Ae,Af,Ag])
  exact Ret.some ⟨v, rfl, h2, h3⟩
 ·have hp : (0 : Int) < (l.length : Int) := by omega
  have d0 : 0 ≤ Int.tdiv a l.length := Int.tdiv_nonneg ha (by omega)
  have d1 : Int.tdiv a l.length ≤ a := by
   rw [Int.tdiv_eq_ediv_of_nonneg ha]
   exact Int.ediv_le_self _ ha
  have m0 : 0 ≤ Int.tmod a l.length := by
   rw [Int.tmod_eq_emod_of_nonneg ha]
   exact Int.emod_nonneg _ (by omega)
  have m1 : Int.tmod a l.length < l.length := Int.tmod_lt_of_pos a hp
  have m2 : Int.tmod a l.length ≤ a := by
   rw [Int.tmod_eq_emod_of_nonneg ha]
   have := Int.mul_ediv_add_emod a l.length
   have h4 : 0 ≤ (l.length : Int) * (a / l.length) := Int.mul_nonneg (by omega) (Int.ediv_nonneg ha (by omega))
   omega
  generalize hq : Int.tdiv a l.length = q at *
  generalize hr : Int.tmod a l.length = r at *
  have p0 : 0 ≤ q * (7919 + r) := Int.mul_nonneg d0 (by omega)
  have p1 : q * (7919 + r) ≤ 1000000 * 2000000 := Int.mul_le_mul (by omega) (by omega) (by omega) (by omega)
  generalize hz : q * (7919 + r) = z at *
  (repeat first|refine Ret.p ?_|refine Ret.n ?_)
  refine Ret.call (r_Below _ 1073741824 (by omega) (by omega)) ?_
  rintro _ ⟨u, rfl, h2, h3⟩
  (dsimp +instances only [Aa,Ab,Ac,Ad,Ae,Af,Ag])
  (repeat first|refine Ret.p ?_|refine Ret.n ?_)
  refine Ret.call (r_Below _ n h0 h1) ?_
  rintro _ ⟨v, rfl, h4, h5⟩
  (dsimp +instances only [Aa,Ab,Ac,Ad,Ae,Af,Ag])
  exact Ret.some ⟨v, rfl, h4, h5⟩
theorem getD_mem' {l : List (List G)} {v : Int} (h0 : 0 ≤ v) (h1 : v < l.length) : l.getD v.toNat [] ∈ l := by
 have : v.toNat < l.length := by omega
 rw [List.getD_eq_getElem?_getD, List.getElem?_eq_getElem this]
 exact List.getElem_mem this
theorem r_Pick (P : Int → Prop) (l : List (List G)) (a : Int) (xs : List (List G)) (ha : 0 ≤ a) (ha1 : a ≤ 1000000) (h0 : 1 ≤ xs.length) (h1 : xs.length ≤ 1000000) (hP : ∀ x ∈ xs, P (gi x 0).int) :
  Ret (F_mk_Pick [.l l, .i a, .l xs]) fun g => ∃ v, g = [.l l, .i (a + 1), .i v] ∧ P v := by
 unfold F_mk_Pick
 (dsimp +instances only [Aa,Ab,Ac,Ad,Ae,Af,Ag])
 refine Ret.call (r_Next l a _ ha ha1 (by omega) (by omega)) ?_
 rintro _ ⟨v, rfl, h3, h4⟩
 (dsimp +instances only [Aa,Ab,Ac,Ad,Ae,Af,Ag])
 (repeat first|refine Ret.p ?_|refine Ret.n ?_)
 exact Ret.some ⟨_, rfl, hP _ (getD_mem' h3 h4)⟩
theorem r_Some (P : ByteArray → Prop) (l : List (List G)) (a : Int) (xs : List (List G)) (ha : 0 ≤ a) (ha1 : a ≤ 1000000) (h0 : 1 ≤ xs.length) (h1 : xs.length ≤ 1000000) (hP : ∀ x ∈ xs, P (gi x 0).str) :
  Ret (F_mk_Some [.l l, .i a, .l xs]) fun g => ∃ v, g = [.l l, .i (a + 1), .s v] ∧ P v := by
 unfold F_mk_Some
 (dsimp +instances only [Aa,Ab,Ac,Ad,Ae,Af,Ag])
 refine Ret.call (r_Next l a _ ha ha1 (by omega) (by omega)) ?_
 rintro _ ⟨v, rfl, h3, h4⟩
 (dsimp +instances only [Aa,Ab,Ac,Ad,Ae,Af,Ag])
 (repeat first|refine Ret.p ?_|refine Ret.n ?_)
 exact Ret.some ⟨_, rfl, hP _ (getD_mem' h3 h4)⟩
theorem r_Flip (l : List (List G)) (a n : Int) (ha : 0 ≤ a) (ha1 : a ≤ 1000000) (h0 : 1 ≤ n) (h1 : n ≤ 1000000) :
  Ret (F_mk_Flip [.l l, .i a, .i n]) fun g => ∃ b, g = [.l l, .i (a + 1), .t b] := by
 unfold F_mk_Flip
 (dsimp +instances only [Aa,Ab,Ac,Ad,Ae,Af,Ag])
 refine Ret.call (r_Next l a _ ha ha1 (by omega) (by omega)) ?_
 rintro _ ⟨v, rfl, h3, h4⟩
 exact Ret.some ⟨_, rfl⟩
def inL (L : List ByteArray) (s : ByteArray) : Bool := L.any fun x => eqS x s
theorem inL_mem {L : List ByteArray} {s : ByteArray} (h : inL L s = true) : s ∈ L := by
 obtain ⟨x, hx, he⟩ := List.any_eq_true.1 h
 exact eqS_eq he ▸ hx
theorem r_PickB (lo hi : Int) (l : List (List G)) (a : Int) (xs : List (List G)) (ha : 0 ≤ a) (ha1 : a ≤ 1000000) (h0 : (Nat.ble 1 xs.length && Nat.ble xs.length 1000000) = true) (hP : (xs.all fun x => leI lo (gi x 0).int && leI (gi x 0).int hi) = true) :
  Ret (F_mk_Pick [.l l, .i a, .l xs]) fun g => ∃ v, g = [.l l, .i (a + 1), .i v] ∧ lo ≤ v ∧ v ≤ hi := by
 simp only [Bool.and_eq_true, Nat.ble_eq] at h0
 refine r_Pick (fun v => lo ≤ v ∧ v ≤ hi) l a xs ha ha1 h0.1 h0.2 fun x hx => ?_
 have := List.all_eq_true.1 hP x hx
 simpa only [leI_eq, Bool.and_eq_true, decide_eq_true_eq] using this
theorem r_SomeB (L : List ByteArray) (l : List (List G)) (a : Int) (xs : List (List G)) (ha : 0 ≤ a) (ha1 : a ≤ 1000000) (h0 : (Nat.ble 1 xs.length && Nat.ble xs.length 1000000) = true) (hP : (xs.all fun x => inL L (gi x 0).str) = true) :
  Ret (F_mk_Some [.l l, .i a, .l xs]) fun g => ∃ v, g = [.l l, .i (a + 1), .s v] ∧ v ∈ L := by
 simp only [Bool.and_eq_true, Nat.ble_eq] at h0
 exact r_Some (fun v => v ∈ L) l a xs ha ha1 h0.1 h0.2 fun x hx => inL_mem (List.all_eq_true.1 hP x hx)
def calls : List ByteArray := [⟨#[]⟩, ⟨#[107, 49]⟩, ⟨#[75, 49, 65, 66]⟩, ⟨#[107, 49, 97, 98, 47]⟩, ⟨#[49, 97]⟩, ⟨#[107, 49, 97, 98, 47, 109, 109, 47, 112]⟩, ⟨#[107, 49, 97, 98]⟩, ⟨#[107, 49, 97, 97]⟩, ⟨#[107, 49, 97, 98, 47, 52]⟩,
 ⟨#[111, 104, 50, 97, 98, 99]⟩, ⟨#[111, 104, 50, 97, 98, 100]⟩, ⟨#[119, 49, 97, 119]⟩, ⟨#[110, 49, 109, 109]⟩, ⟨#[103, 51, 120, 121, 122, 47, 112]⟩]
def bands : List ByteArray := [⟨#[]⟩, ⟨#[66]⟩, ⟨#[98, 50, 48]⟩, ⟨#[98, 52, 48]⟩]
def names : List ByteArray := [⟨#[]⟩, ⟨#[65]⟩, ⟨#[49]⟩, ⟨#[102, 105, 110]⟩, ⟨#[117, 115, 97]⟩]
def small (n : Int) : Prop := -2000000000000 ≤ n ∧ n ≤ 2000000000000
def Con (r : List G) : Prop := ∃ (t m : Int) (b c : ByteArray) (s h : Int) (x y : ByteArray), r = [.i t, .i m, .s b, .s c, .i s, .i h, .s x, .s y] ∧ small t ∧ small m ∧ small s ∧ small h ∧ b ∈ bands ∧ c ∈ calls ∧ x ∈ names ∧ y ∈ names
def tight (n : Int) : Prop := -1900000000000 ≤ n ∧ n ≤ 1900000000000
def tightT (n : Int) : Prop := -1900000000000 ≤ n ∧ (n ≤ 345000000000 ∨ (345686399999 < n ∧ n ≤ 1900000000000))
def ConT (r : List G) : Prop := ∃ (t m : Int) (b c : ByteArray) (s h : Int) (x y : ByteArray), r = [.i t, .i m, .s b, .s c, .i s, .i h, .s x, .s y] ∧ tightT t ∧ tight m ∧ tight s ∧ tight h ∧ b ∈ bands ∧ c ∈ calls ∧ x ∈ names ∧ y ∈ names
theorem tight.to {n : Int} (h : tight n) : small n := ⟨by have := h.1; omega, by have := h.2; omega⟩
theorem tightT.to {n : Int} (h : tightT n) : small n := by
 unfold tightT at h
 exact ⟨by omega, by omega⟩
theorem ConT.to {r : List G} (h : ConT r) : Con r := by
 obtain ⟨t, m, b, c, s, h, x, y, e, h1, h2, h3, h4, h5⟩ := h
 exact ⟨t, m, b, c, s, h, x, y, e, h1.to, h2.to, h3.to, h4.to, h5⟩
theorem Con.eta {r : List G} (h : Con r) : gEta [.int .i64, .int .i64, .str, .str, .int .i64, .int .i64, .str, .str] r = r := by
 obtain ⟨t, m, b, c, s, h, x, y, rfl, _⟩ := h
 rfl
theorem r_ACall (l : List (List G)) (a : Int) (ha : 0 ≤ a) (ha1 : a ≤ 900000) : Ret (F_mk_ACall [.l l, .i a]) fun g => ∃ v, g = [.l l, .i (a + 2), .s v] ∧ v ∈ calls := by
 unfold F_mk_ACall
 (dsimp +instances only [Aa,Ab,Ac,Ad,Ae,Af,Ag])
 have e2 : a + 1 + 1 = a + 2 := by omega
 refine Ret.call (r_Flip l a 60 ha (by omega) (by omega) (by omega)) ?_
 rintro _ ⟨b, rfl⟩
 (dsimp +instances only [Aa,Ab,Ac,Ad,Ae,Af,Ag])
 cases b with
 | true =>
  (repeat first|refine Ret.p ?_|refine Ret.n ?_)
  refine Ret.call (r_SomeB calls l (a + 1) _ (by omega) (by omega) (by kernel_rfl) (by kernel_rfl)) ?_
  rintro _ ⟨v, rfl, h⟩
  exact Ret.some ⟨v, by (dsimp +instances only [Aa,Ab,Ac,Ad,Ae,Af,Ag]); rw [e2], h⟩
 | false =>
  (repeat first|refine Ret.p ?_|refine Ret.n ?_)
  refine Ret.call (r_SomeB calls l (a + 1) _ (by omega) (by omega) (by kernel_rfl) (by kernel_rfl)) ?_
  rintro _ ⟨v, rfl, h⟩
  exact Ret.some ⟨v, by (dsimp +instances only [Aa,Ab,Ac,Ad,Ae,Af,Ag]); rw [e2], h⟩
def cmpI (a b : Int) : Int := if a < b then -1 else if b < a then 1 else 0
theorem compareBytes_zero : ∀ {a b : List UInt8}, Lib.compareBytes a b = 0 → a = b
 | [], [], _ => rfl
 | [], _ :: _, h => by simp [Lib.compareBytes] at h
 | _ :: _, [], h => by simp [Lib.compareBytes] at h
 | x :: a, y :: b, h => by
  unfold Lib.compareBytes at h
  split at h
  ·cases h
  ·split at h
   ·cases h
   ·rename_i h1 h2
    rw [compareBytes_zero h, UInt8.le_antisymm (UInt8.not_lt.1 h2) (UInt8.not_lt.1 h1)]
theorem compareBytes_self : ∀ a : List UInt8, Lib.compareBytes a a = 0
 | [] => rfl
 | x :: a => by simp [Lib.compareBytes, compareBytes_self a]
theorem str_eq (a b : ByteArray) : (a.toList == b.toList) = decide (cmpS a b = 0) := by
 rw [ByteArray.toList_eq, ByteArray.toList_eq, Bool.eq_iff_iff, decide_eq_true_eq, beq_iff_eq]
 constructor
 ·intro h
  unfold cmpS
  rw [h]
  exact compareBytes_self _
 ·exact fun h => compareBytes_zero h
theorem cmpInt_eq (a b : Int) : F_cmp_Compare_int [.i a, .i b] = some [.i (cmpI a b)] := by
 refine Ret.toEq ?_
 unfold F_cmp_Compare_int F_cmp_isNaN_int cmpI
 (dsimp +instances only [Aa,Ab,Ac,Ad,Ae,Af,Ag])
 simp only [bne_self_eq_false]
 refine Ret.call ⟨_, rfl, rfl⟩ ?_
 rintro _ rfl
 refine Ret.call ⟨_, rfl, rfl⟩ ?_
 rintro _ rfl
 (dsimp +instances only [Aa,Ab,Ac,Ad,Ae,Af,Ag])
 (repeat first|refine Ret.p ?_|refine Ret.n ?_)
 by_cases h1 : a < b
 ·(repeat first|refine Ret.p ?_|refine Ret.n ?_)
  exact Ret.some (by simp [h1])
 ·by_cases h2 : b < a
  ·(repeat first|refine Ret.p ?_|refine Ret.n ?_)
   exact Ret.some (by simp [h1, h2])
  ·(repeat first|refine Ret.p ?_|refine Ret.n ?_)
   exact Ret.some (by simp [h1, h2])
def orL : List (List G) → Int
 | [] => 0
 | x :: q => if (gi x 0).int ≠ 0 then (gi x 0).int else orL q
theorem or_runs : ∀ (q p : List (List G)), p.length + q.length < 100000 →
  RetN st_cmp_Or_int_3 [.i 0, .l (p ++ q), .i ((p.length + q.length : Nat) : Int), .i (p.length : Int)] (q.length + 1) fun c g => c ≤ 1 ∧ g = [.i (orL q)]
 | [], p, hl => by
  refine RetN.stop (x := 1) (Ret.toEq ?_) ⟨by omega, rfl⟩
  unfold st_cmp_Or_int_3
  (dsimp +instances only [Aa,Ab,Ac,Ad,Ae,Af,Ag])
  (repeat first|refine Ret.p ?_|refine Ret.n ?_)
  exact Ret.some rfl
 | y :: q, p, hl => by
  simp only [List.length_cons] at hl
  have g1 : (p ++ y :: q).getD (p.length : Int).toNat [] = y := getD_mid _ _ _ _ _ (by simp)
  have hlen : (p ++ y :: q).length = p.length + q.length + 1 := by simp; omega
  by_cases he : (gi y 0).int = 0
  ·have ih := or_runs q (p ++ [y]) (by simp; omega)
   have e : orL (y :: q) = orL q := by simp [orL, he]
   rw [e]
   refine RetN.next (Ret.toEq ?_) ih
   unfold st_cmp_Or_int_3
   (dsimp +instances only [Aa,Ab,Ac,Ad,Ae,Af,Ag])
   simp only [g1, hlen, List.length_cons]
   (repeat first|refine Ret.p ?_|refine Ret.n ?_)
   refine Ret.some ?_
   simp
   omega
  ·refine RetN.stop (x := 0) (Ret.toEq ?_) ⟨by omega, rfl⟩
   unfold st_cmp_Or_int_3
   (dsimp +instances only [Aa,Ab,Ac,Ad,Ae,Af,Ag])
   simp only [g1, hlen, List.length_cons]
   (repeat first|refine Ret.p ?_|refine Ret.n ?_)
   refine Ret.some ?_
   simp [orL, he]
def inB (v lo hi : Int) : Bool := leI lo v && leI v hi
theorem in_eq (v lo hi : Int) : F_r2_in [.i v, .i lo, .i hi] = some [.t (inB v lo hi)] := by
 unfold F_r2_in inB
 (dsimp +instances only [Aa,Ab,Ac,Ad,Ae,Af,Ag])
 cases leI lo v <;> rfl
theorem outside_eq (v lo hi : Int) : F_kit_Outside [.i v, .i lo, .i hi] = some [.t (!inB v lo hi)] := by
 unfold F_kit_Outside inB
 (dsimp +instances only [Aa,Ab,Ac,Ad,Ae,Af,Ag])
 have h1 : ltI v lo = !leI lo v := by rw [ltI_eq, leI_eq, Bool.eq_iff_iff]; simp
 have h2 : ltI hi v = !leI v hi := by rw [ltI_eq, leI_eq, Bool.eq_iff_iff]; simp
 rw [h1, h2]
 cases leI lo v <;> cases leI v hi <;> rfl
def okCall (s : ByteArray) : Bool := (gi ((F_call_Is [.s s]).getD []) 0).bool
theorem isCall_eq {s : ByteArray} (h : s ∈ calls) : F_call_Is [.s s] = some [.t (okCall s)] := by
 simp only [calls, List.mem_cons, List.not_mem_nil, or_false] at h
 rcases h with (rfl | rfl | rfl | rfl | rfl | rfl | rfl | rfl | rfl | rfl | rfl | rfl | rfl | rfl) <;> kernel_rfl
theorem call_eq {s : ByteArray} (h : s ∈ calls) : F_r2_Call [.s s] = some [.t (okCall s)] := by
 simp only [calls, List.mem_cons, List.not_mem_nil, or_false] at h
 rcases h with (rfl | rfl | rfl | rfl | rfl | rfl | rfl | rfl | rfl | rfl | rfl | rfl | rfl | rfl) <;> kernel_rfl
theorem bytes_flip' : ∀ a b : List UInt8, Lib.compareBytes b a = - Lib.compareBytes a b
 | [], [] => rfl
 | [], _ :: _ => rfl
 | _ :: _, [] => rfl
 | a :: xs, b :: ys => by
  simp only [Lib.compareBytes]
  have ih := bytes_flip' xs ys
  by_cases h1 : a < b
  ·have h2 : ¬ b < a := fun h => UInt8.lt_irrefl a (UInt8.lt_trans h1 h)
   simp [h1, h2]
  ·by_cases h2 : b < a
   ·simp [h1, h2]
   ·simp [h1, h2, ih]
theorem bytes_lt_trans' : ∀ {a b c : List UInt8}, Lib.compareBytes a b < 0 → Lib.compareBytes b c < 0 → Lib.compareBytes a c < 0
 | [], [], _, h, _ => by simp [Lib.compareBytes] at h
 | [], _ :: _, [], _, h => by simp [Lib.compareBytes] at h
 | [], _ :: _, _ :: _, _, _ => by simp [Lib.compareBytes]
 | _ :: _, [], _, h, _ => by simp [Lib.compareBytes] at h
 | _ :: _, _ :: _, [], _, h => by simp [Lib.compareBytes] at h
 | a :: xs, b :: ys, c :: zs, h1, h2 => by
  simp only [Lib.compareBytes] at h1 h2 ⊢
  by_cases hab : a < b
  ·by_cases hbc : b < c
   ·rw [if_pos (UInt8.lt_trans hab hbc)]
    omega
   ·by_cases hcb : c < b
    ·rw [if_neg hbc, if_pos hcb] at h2
     omega
    ·have e : b = c := UInt8.le_antisymm (UInt8.not_lt.1 hcb) (UInt8.not_lt.1 hbc)
     subst e
     rw [if_pos hab]
     omega
  ·by_cases hba : b < a
   ·rw [if_neg hab, if_pos hba] at h1
    omega
   ·have e : a = b := UInt8.le_antisymm (UInt8.not_lt.1 hba) (UInt8.not_lt.1 hab)
    subst e
    rw [if_neg (UInt8.lt_irrefl a), if_neg (UInt8.lt_irrefl a)] at h1
    by_cases hac : a < c
    ·rw [if_pos hac]
     omega
    ·by_cases hca : c < a
     ·rw [if_neg hac, if_pos hca] at h2
      omega
     ·rw [if_neg hac, if_neg hca] at h2 ⊢
      exact bytes_lt_trans' h1 h2
theorem str_ext {a b : ByteArray} (h : (a.toList == b.toList) = true) : a = b := by
 rw [ByteArray.toList_eq, ByteArray.toList_eq, beq_iff_eq] at h
 exact ByteArray.ext (Array.toList_inj.1 h)
theorem cmpS_z {a b : ByteArray} : cmpS a b = 0 ↔ a = b := by
 have h := str_eq a b
 constructor
 ·intro e
  rw [decide_eq_true (p := cmpS a b = 0) e] at h
  exact str_ext h
 ·rintro rfl
  have h2 : (a.toList == a.toList) = true := by simp
  rw [h2] at h
  exact of_decide_eq_true h.symm
theorem cmpI_z {a b : Int} : cmpI a b = 0 ↔ a = b := by
 unfold cmpI
 constructor
 ·intro h
  split at h
  ·omega
  ·split at h <;> omega
 ·rintro rfl
  simp
theorem cmpI_lt {a b : Int} : cmpI a b < 0 ↔ a < b := by
 unfold cmpI
 constructor
 ·intro h
  split at h
  ·assumption
  ·split at h <;> omega
 ·intro h
  rw [if_pos h]
  omega
structure Ordr {α : Type} (c : α → α → Int) : Prop where
 flip : ∀ a b, c b a = - c a b
 eq : ∀ a b, c a b = 0 → a = b
 tr : ∀ a b d, c a b < 0 → c b d < 0 → c a d < 0
theorem ordrI : Ordr cmpI := ⟨fun a b => by unfold cmpI; split <;> split <;> first | omega | (split <;> omega) | skip, fun a b h => cmpI_z.1 h, fun a b d h1 h2 => cmpI_lt.2 (Int.lt_trans (cmpI_lt.1 h1) (cmpI_lt.1 h2))⟩
theorem ordrS : Ordr cmpS := ⟨fun a b => bytes_flip' _ _, fun a b h => cmpS_z.1 h, fun a b d h1 h2 => bytes_lt_trans' h1 h2⟩
theorem Ordr.le {α : Type} {c : α → α → Int} (h : Ordr c) (a b d : α) (h1 : c a b ≤ 0) (h2 : c b d ≤ 0) : c a d ≤ 0 := by
 by_cases e1 : c a b = 0
 ·rw [h.eq a b e1]
  exact h2
 ·by_cases e2 : c b d = 0
  ·rw [← h.eq b d e2]
   exact h1
  ·have := h.tr a b d (by omega) (by omega)
   omega
theorem Ordr.refl {α : Type} {c : α → α → Int} (h : Ordr c) (a : α) : c a a = 0 := by
 have := h.flip a a
 omega
def or2 (a b : Int) : Int := if a ≠ 0 then a else b
theorem or2_le {α : Type} {c : α → α → Int} (h : Ordr c) (a b d : α) (x y z : Int) (h1 : or2 (c a b) x ≤ 0) (h2 : or2 (c b d) y ≤ 0) (h3 : x ≤ 0 → y ≤ 0 → z ≤ 0) : or2 (c a d) z ≤ 0 := by
 unfold or2 at *
 by_cases e1 : c a b = 0
 ·have e := h.eq a b e1
  subst e
  rw [if_neg (by simpa using e1)] at h1
  by_cases e2 : c a d = 0
  ·rw [if_neg (by simpa using e2)] at h2 ⊢
   exact h3 h1 h2
  ·rw [if_pos e2] at h2 ⊢
   exact h2
 ·rw [if_pos e1] at h1
  by_cases e2 : c b d = 0
  ·have e := h.eq b d e2
   subst e
   rw [if_pos e1]
   exact h1
  ·rw [if_pos e2] at h2
   have := h.tr a b d (by omega) (by omega)
   rw [if_pos (by omega)]
   omega
theorem or2_lt {α : Type} {c : α → α → Int} (h : Ordr c) (a b d : α) (x y z : Int) (h1 : or2 (c a b) x < 0) (h2 : or2 (c b d) y < 0) (h3 : x < 0 → y < 0 → z < 0) : or2 (c a d) z < 0 := by
 unfold or2 at *
 by_cases e1 : c a b = 0
 ·have e := h.eq a b e1
  subst e
  rw [if_neg (by simpa using e1)] at h1
  by_cases e2 : c a d = 0
  ·rw [if_neg (by simpa using e2)] at h2 ⊢
   exact h3 h1 h2
  ·rw [if_pos e2] at h2 ⊢
   exact h2
 ·rw [if_pos e1] at h1
  by_cases e2 : c b d = 0
  ·have e := h.eq b d e2
   subst e
   rw [if_pos e1]
   exact h1
  ·rw [if_pos e2] at h2
   have := h.tr a b d (by omega) (by omega)
   rw [if_pos (by omega)]
   omega
theorem or2_flip {a b a' b' : Int} (h1 : a' = - a) (h2 : b' = - b) : or2 a' b' = - or2 a b := by
 unfold or2
 subst h1 h2
 by_cases e : a = 0
 ·subst e
  simp
 ·rw [if_pos e, if_pos (by omega)]
theorem lin_of {c : List G → List G → Int} (hf : ∀ a b, c b a = - c a b) (ht : ∀ a b d, c a b ≤ 0 → c b d ≤ 0 → c a d ≤ 0) : Lin (ltC c) (fun _ => True) := by
 have lt : ∀ r s, ltC c r s = decide (c r s < 0) := fun r s => by unfold ltC; rw [ltI_eq]
 refine ⟨fun a b d _ _ _ h1 h2 => ?_, fun a b _ _ h => ?_⟩
 ·rw [lt, decide_eq_false_iff_not] at *
  have := ht d b a (by have := hf d b; omega) (by have := hf b a; omega)
  have := hf a d
  omega
 ·rw [lt, decide_eq_true_eq] at h
  rw [lt, decide_eq_false_iff_not]
  have := hf a b
  omega
/-! ### Lists that are checked row by row -/
def fw (step : Nat → Int) : Nat → Int
 | 0 => 0
 | i + 1 => if fw step i ≠ 0 then fw step i else step i
theorem fw_stays {step : Nat → Int} {i : Nat} (h : fw step i ≠ 0) : ∀ k, fw step (i + k) = fw step i
 | 0 => rfl
 | k + 1 => by
  have ih := fw_stays h k
  show (if fw step (i + k) ≠ 0 then fw step (i + k) else step (i + k)) = fw step i
  rw [ih, if_pos h]
theorem fw_zero {step : Nat → Int} : ∀ {n : Nat}, fw step n = 0 → ∀ i, i < n → step i = 0
 | 0, _, i, hi => by omega
 | n + 1, h, i, hi => by
  have h0 : fw step n = 0 := by
   refine Decidable.byContradiction fun hn => hn ?_
   have := fw_stays hn 1
   rw [← this]
   exact h
  have h' : (if fw step n ≠ 0 then fw step n else step n) = 0 := h
  rw [if_neg (by simpa using h0)] at h'
  rcases Nat.lt_or_ge i n with hlt | hge
  ·exact fw_zero h0 i hlt
  ·have : i = n := by omega
   rw [this]
   exact h'
theorem fw_loop {st : List G → Option (Option Nat × List G)} (mk : Nat → List G) (n : Nat) (step : Nat → Int) (gn : List G) (hn : n < 999999)
  (hstep : ∀ i, i < n → Ret (st (mk i)) fun o => (step i = 0 ∧ o = (none, mk (i + 1))) ∨ (step i ≠ 0 ∧ o = (some 0, [.i (step i)])))
  (hfin : Ret (st (mk n)) fun o => o = (some 1, gn)) :
  RetL st (mk 0) fun c g => (c = 1 ∧ fw step n = 0 ∧ g = gn) ∨ (c = 0 ∧ g = [.i (fw step n)] ∧ fw step n ≠ 0) := by
 refine ((count_runs (σ := Unit) (fun _ i => mk i) n (fun _ => (1, gn)) (fun _ i => fw step i = 0) (fun c g => c = 0 ∧ g = [.i (fw step n)] ∧ fw step n ≠ 0) ?_ (fun _ _ => hfin) n () 0 (by omega) rfl).to (by omega)).mono ?_
 ·rintro _ i hI hi
  refine (hstep i hi).mono ?_
  rintro _ (⟨h0, rfl⟩ | ⟨h1, rfl⟩)
  ·refine .inl ⟨(), rfl, ?_⟩
   show (if fw step i ≠ 0 then fw step i else step i) = 0
   rw [if_neg (by simpa using hI)]
   exact h0
  ·have e : fw step (i + 1) = step i := by
    show (if fw step i ≠ 0 then fw step i else step i) = step i
    rw [if_neg (by simpa using hI)]
   have e2 : fw step n = step i := by
    have := fw_stays (step := step) (i := i + 1) (by rw [e]; exact h1) (n - (i + 1))
    rw [show i + 1 + (n - (i + 1)) = n by omega, e] at this
    exact this
   exact .inr ⟨0, _, rfl, rfl, by rw [e2], by rw [e2]; exact h1⟩
 ·rintro c g (⟨_, h, rfl, rfl⟩ | h)
  ·exact .inl ⟨rfl, h, rfl⟩
  ·exact .inr h
def cats : List ByteArray := [⟨#[97, 108, 108]⟩, ⟨#[99, 111, 100, 101]⟩, ⟨#[65]⟩]
def locs : List ByteArray := [⟨#[]⟩, ⟨#[107, 112, 50, 48, 108, 102]⟩, ⟨#[107, 112, 50, 48]⟩]
def Ent (r : List G) : Prop := ∃ (c k : ByteArray) (p : Int) (q : ByteArray), r = [.s c, .s k, .i p, .s q] ∧ c ∈ calls ∧ k ∈ cats ∧ -1099511627776 ≤ p ∧ p ≤ 1099511627776 ∧ q ∈ locs
theorem Ent.eta {r : List G} (h : Ent r) : gEta [.str, .str, .int .i64, .str] r = r := by
 obtain ⟨c, k, p, q, rfl, _⟩ := h
 rfl
/-! ### What is wrong with entrants -/
theorem less_eq : ∀ a b : List UInt8, Op.bytesLess a b = decide (Lib.compareBytes a b < 0)
 | [], [] => rfl
 | _ :: _, [] => rfl
 | [], _ :: _ => rfl
 | a :: x, b :: y => by
  simp only [Op.bytesLess, Lib.compareBytes, less_eq x y]
  by_cases h1 : a < b
  ·simp [h1]
  ·by_cases h2 : b < a
   ·have h3 : a ≠ b := fun h => by
     subst h
     exact h1 h2
    simp [h1, h2, h3]
   ·have h3 : a = b := UInt8.le_antisymm (UInt8.not_lt.1 h2) (UInt8.not_lt.1 h1)
    subst h3
    simp [h1]
theorem two_step (a b c d x y : ByteArray) (i : Nat) (v : Int) (h : F_cmp_Compare_string [.s x, .s y] = some [.i v]) (hi : i < 2) (hx : ([[.s a], [.s b]] : List (List G)).getD i [] = [.s x]) (hy : ([[.s c], [.s d]] : List (List G)).getD i [] = [.s y]) :
  st_sl_Compare_string_2 [.l [[.s a], [.s b]], .l [[.s c], [.s d]], .l [[.s a], [.s b]], .i 2, .i (i : Int)] = some (if v = 0 then (none, [.l [[.s a], [.s b]], .l [[.s c], [.s d]], .l [[.s a], [.s b]], .i 2, .i ((i : Int) + 1)]) else (some 0, [.i v])) := by
 refine Ret.toEq ?_
 unfold st_sl_Compare_string_2
 (dsimp +instances only [Aa,Ab,Ac,Ad,Ae,Af,Ag])
 simp only [Int.toNat_natCast, hx, hy]
 (dsimp +instances only [Aa,Ab,Ac,Ad,Ae,Af,Ag])
 refine Ret.p (Ret.p (Ret.n (Ret.p ?_)))
 refine Ret.cE h ?_
 (dsimp +instances only [Aa,Ab,Ac,Ad,Ae,Af,Ag])
 by_cases e : v = 0
 ·subst e
  refine Ret.neg rfl (Ret.p (Ret.some rfl))
 ·rw [if_neg e]
  exact Ret.pos (by simpa using e) (Ret.some rfl)
def b40 (n : Int) : Prop := -1099511627776 ≤ n ∧ n ≤ 1099511627776
theorem r_RangeX (l : List (List G)) (a lo hi : Int) (ha : 0 ≤ a) (ha1 : a ≤ 1000000) (h0 : lo ≤ hi) (h1 : -1000 ≤ lo) (h2 : hi ≤ 400000000000) :
  Ret (F_mk_Range [.l l, .i a, .i lo, .i hi]) fun g => ∃ v, g = [.l l, .i (a + 1), .i v] ∧ lo ≤ v ∧ v ≤ hi := by
 unfold F_mk_Range
 (dsimp +instances only [Aa,Ab,Ac,Ad,Ae,Af,Ag])
 (repeat first|refine Ret.p ?_|refine Ret.n ?_)
 refine Ret.call (r_Next l a _ ha ha1 (by omega) (by omega)) ?_
 rintro _ ⟨v, rfl, h3, h4⟩
 (dsimp +instances only [Aa,Ab,Ac,Ad,Ae,Af,Ag])
 (repeat first|refine Ret.p ?_|refine Ret.n ?_)
 exact Ret.some ⟨_, rfl, by omega, by omega⟩
theorem r_OddX (l : List (List G)) (a lo hi : Int) (ha : 0 ≤ a) (ha1 : a ≤ 900000) (h0 : lo ≤ hi) (h1 : -1000 ≤ lo) (h2 : hi ≤ 400000000000) :
  Ret (F_mk_Odd [.l l, .i a, .i lo, .i hi]) fun g => ∃ v, g = [.l l, .i (a + 2), .i v] ∧ b40 v := by
 unfold F_mk_Odd
 (dsimp +instances only [Aa,Ab,Ac,Ad,Ae,Af,Ag])
 have e2 : a + 1 + 1 = a + 2 := by omega
 refine Ret.call (r_Flip l a 12 ha (by omega) (by omega) (by omega)) ?_
 rintro _ ⟨b, rfl⟩
 (dsimp +instances only [Aa,Ab,Ac,Ad,Ae,Af,Ag])
 cases b with
 | true =>
  (repeat first|refine Ret.p ?_|refine Ret.n ?_)
  refine Ret.call (r_Pick b40 l (a + 1) _ (by omega) (by omega) (by simp) (by simp) ?_) ?_
  ·intro x hx
   unfold b40
   simp only [List.mem_cons, List.not_mem_nil, or_false] at hx
   rcases hx with rfl | rfl | rfl | rfl | rfl | rfl <;> (dsimp +instances only [Aa,Ab,Ac,Ad,Ae,Af,Ag]) <;> omega
  ·rintro _ ⟨v, rfl, h3⟩
   (dsimp +instances only [Aa,Ab,Ac,Ad,Ae,Af,Ag])
   exact Ret.some ⟨v, by rw [e2], h3⟩
 | false =>
  (repeat first|refine Ret.p ?_|refine Ret.n ?_)
  refine Ret.call (r_RangeX l (a + 1) lo hi (by omega) (by omega) h0 h1 h2) ?_
  rintro _ ⟨v, rfl, h3, h4⟩
  (dsimp +instances only [Aa,Ab,Ac,Ad,Ae,Af,Ag])
  exact Ret.some ⟨v, by rw [e2], by omega, by omega⟩
def classes : List ByteArray := [⟨#[102, 117, 108, 108]⟩, ⟨#[115, 109, 97, 108, 108]⟩, ⟨#[]⟩, ⟨#[65]⟩, ⟨#[110, 111, 110, 101]⟩]
def Mod (r : List G) : Prop := ∃ m : Int, r = [.i m] ∧ 0 ≤ m ∧ m ≤ 4
def Seg (r : List G) : Prop := ∃ (c : ByteArray) (lo hi : Int) (ms : List (List G)) (f t : Int), r = [.s c, .i lo, .i hi, .l ms, .i f, .i t] ∧ c ∈ classes ∧ b40 lo ∧ b40 hi ∧ (∀ z ∈ ms, Mod z) ∧ ms.length ≤ 4 ∧ b40 f ∧ b40 t
theorem Seg.eta {r : List G} (h : Seg r) : gEta KSegment r = r := by
 obtain ⟨c, lo, hi, ms, f, t, rfl, _⟩ := h
 rfl
theorem modes_in (l out cs : List (List G)) (c c' : ByteArray) (lo hi f t n j a : Int) (ha : 0 ≤ a) (ha1 : a ≤ 1000) :
  RetL st_mk_Segments_10 [.l l, .i a, .l out, .s c, .i lo, .i hi, .i f, .i t, .l [], .s c', .i 1, .l cs, .i n, .i j] fun k g => k = 0 ∧ ∃ b ms, g = [.l l, .i b, .l out, .s c, .i lo, .i hi, .i f, .i t, .l ms, .s c', .l cs, .i n, .i j] ∧ a ≤ b ∧ b ≤ a + 3 ∧ (∀ z ∈ ms, Mod z) ∧ ms.length ≤ 3 := by
 have r := count_runs (st := st_mk_Segments_10) (σ := Int × List (List G)) (fun s i => [.l l, .i s.1, .l out, .s c, .i lo, .i hi, .i f, .i t, .l s.2, .s c', .i ((i : Int) + 1), .l cs, .i n, .i j]) 3
  (fun s => (0, [.l l, .i s.1, .l out, .s c, .i lo, .i hi, .i f, .i t, .l s.2, .s c', .l cs, .i n, .i j])) (fun s i => a ≤ s.1 ∧ s.1 ≤ a + (i : Int) ∧ (∀ z ∈ s.2, Mod z) ∧ s.2.length ≤ i) (fun _ _ => False)
  (fun s i ⟨s0, s1, s2, s3⟩ hi => by
   obtain ⟨b, ms⟩ := s
   simp only at s0 s1 s2 s3
   unfold st_mk_Segments_10
   (dsimp +instances only [Aa,Ab,Ac,Ad,Ae,Af,Ag])
   refine Ret.p ?_
   refine Ret.call (r_Flip l b 2 (by omega) (by omega) (by omega) (by omega)) ?_
   rintro _ ⟨q, rfl⟩
   (dsimp +instances only [Aa,Ab,Ac,Ad,Ae,Af,Ag])
   cases q with
   | true =>
    (repeat first|refine Ret.p ?_|refine Ret.n ?_)
    refine Ret.some (.inl ⟨(b + 1, ms ++ [[.i ((i : Int) + 1)]]), by simp, by simp only; omega, by simp only; omega, ?_, by simp; omega⟩)
    intro z hz
    rcases List.mem_append.1 hz with hz | hz
    ·exact s2 z hz
    ·rw [List.mem_singleton.1 hz]
     exact ⟨_, rfl, by omega, by omega⟩
   | false =>
    (repeat first|refine Ret.p ?_|refine Ret.n ?_)
    exact Ret.some (.inl ⟨(b + 1, ms), by simp, by simp only; omega, by simp only; omega, s2, by simp only; omega⟩))
  (fun s hI => by
   unfold st_mk_Segments_10
   (dsimp +instances only [Aa,Ab,Ac,Ad,Ae,Af,Ag])
   (repeat first|refine Ret.p ?_|refine Ret.n ?_)
   exact Ret.some rfl) 3 (a, []) 0 (by omega) ⟨Int.le_refl _, by simp, by simp, by simp⟩
 refine (r.to (by omega)).mono ?_
 rintro k g (⟨⟨b, ms⟩, ⟨q1, q2, q3, q4⟩, rfl, rfl⟩ | h)
 ·exact ⟨rfl, b, ms, rfl, q1, by simpa using q2, q3, q4⟩
 ·exact h.elim
theorem segs_tail (l out cs : List (List G)) (c c' : ByteArray) (lo hi f t n j a : Int) (ms : List (List G)) (ha : 0 ≤ a) (ha1 : a ≤ 1000) (hc : c ∈ classes) (hc' : c' ∈ classes) (hlo : b40 lo) (hhi : b40 hi) (hf : b40 f) (ht : b40 t) (hm : ∀ z ∈ ms, Mod z) (hn : ms.length ≤ 3) (ho : out.length ≤ 100) :
  Ret (tl_mk_Segments_16 [.l l, .i a, .l out, .s c, .i lo, .i hi, .i f, .i t, .l ms, .s c', .l cs, .i n, .i j]) fun o => ∃ x, o.1 = some x ∧ x = 0 ∧ ∃ b r, o.2 = [.l l, .i b, .l (out ++ [r]), .l cs, .i n, .i j] ∧ a ≤ b ∧ b ≤ a + 10 ∧ Seg r := by
 unfold tl_mk_Segments_16
 (dsimp +instances only [Aa,Ab,Ac,Ad,Ae,Af,Ag])
 refine Ret.call (r_Flip l a 50 ha (by omega) (by omega) (by omega)) ?_
 rintro _ ⟨q, rfl⟩
 (dsimp +instances only [Aa,Ab,Ac,Ad,Ae,Af,Ag])
 cases q with
 | false =>
  (repeat first|refine Ret.p ?_|refine Ret.n ?_)
  exact Ret.some ⟨0, rfl, rfl, _, _, rfl, by omega, by omega, c, lo, hi, ms, f, t, rfl, hc, hlo, hhi, hm, by omega, hf, ht⟩
 | true =>
  refine Ret.pos rfl ?_
  refine Ret.call (r_Next l _ 4 (by omega) (by omega) (by omega) (by omega)) ?_
  rintro _ ⟨k, rfl, hk⟩
  (dsimp +instances only [Aa,Ab,Ac,Ad,Ae,Af,Ag])
  refine Ret.test (fun h => ?_) fun _ => Ret.test (fun h => ?_) fun _ => Ret.test (fun h => ?_) fun _ => ?_
  ·refine Ret.call (r_Some (fun v => v ∈ classes) l _ [[.s c'], [.s (⟨#[]⟩ : ByteArray)], [.s (⟨#[65]⟩ : ByteArray)]] (by omega) (by omega) (by simp) (by simp) ?_) ?_
   ·intro x hx
    simp only [List.mem_cons, List.not_mem_nil, or_false] at hx
    rcases hx with rfl | rfl | rfl
    ·exact hc'
    ·exact inL_mem (by kernel_rfl)
    ·exact inL_mem (by kernel_rfl)
   rintro _ ⟨d, rfl, hd⟩
   (dsimp +instances only [Aa,Ab,Ac,Ad,Ae,Af,Ag])
   refine Ret.call (r_OddX l _ 0 300 (by omega) (by omega) (by omega) (by omega) (by omega)) ?_
   rintro _ ⟨lo', rfl, hlo'⟩
   (dsimp +instances only [Aa,Ab,Ac,Ad,Ae,Af,Ag])
   (repeat first|refine Ret.p ?_|refine Ret.n ?_)
   exact Ret.some ⟨0, rfl, rfl, _, _, rfl, by omega, by omega, d, lo', hi, ms, f, t, rfl, hd, hlo', hhi, hm, by omega, hf, ht⟩
  ·refine Ret.call (r_OddX l _ 1 30000000000 (by omega) (by omega) (by omega) (by omega) (by omega)) ?_
   rintro _ ⟨hi', rfl, hhi'⟩
   (dsimp +instances only [Aa,Ab,Ac,Ad,Ae,Af,Ag])
   (repeat first|refine Ret.p ?_|refine Ret.n ?_)
   exact Ret.some ⟨0, rfl, rfl, _, _, rfl, by omega, by omega, c, lo, hi', ms, f, t, rfl, hc, hlo, hhi', hm, by omega, hf, ht⟩
  ·refine Ret.call (r_PickB 0 4 l _ _ (by omega) (by omega) (by kernel_rfl) (by kernel_rfl)) ?_
   rintro _ ⟨m, rfl, hm0, hm1⟩
   (dsimp +instances only [Aa,Ab,Ac,Ad,Ae,Af,Ag])
   (repeat first|refine Ret.p ?_|refine Ret.n ?_)
   refine Ret.some ⟨0, rfl, rfl, _, _, rfl, by omega, by omega, c, lo, hi, ms ++ [[.i m]], f, t, rfl, hc, hlo, hhi, ?_, by simp; omega, hf, ht⟩
   intro z hz
   rcases List.mem_append.1 hz with hz | hz
   ·exact hm z hz
   ·rw [List.mem_singleton.1 hz]
    exact ⟨_, rfl, hm0, hm1⟩
  ·refine Ret.call (r_OddX l _ 0 100 (by omega) (by omega) (by omega) (by omega) (by omega)) ?_
   rintro _ ⟨f', rfl, hf'⟩
   (dsimp +instances only [Aa,Ab,Ac,Ad,Ae,Af,Ag])
   refine Ret.call (r_OddX l _ 1 345686400000 (by omega) (by omega) (by omega) (by omega) (by omega)) ?_
   rintro _ ⟨t', rfl, ht'⟩
   (dsimp +instances only [Aa,Ab,Ac,Ad,Ae,Af,Ag])
   (repeat first|refine Ret.p ?_|refine Ret.n ?_)
   exact Ret.some ⟨0, rfl, rfl, _, _, rfl, by omega, by omega, c, lo, hi, ms, f', t', rfl, hc, hlo, hhi, hm, by omega, hf', ht'⟩
def cls4 : List (List G) := [[.s (⟨#[102, 117, 108, 108]⟩ : ByteArray)], [.s (⟨#[102, 117, 108, 108]⟩ : ByteArray)], [.s (⟨#[102, 117, 108, 108]⟩ : ByteArray)], [.s (⟨#[115, 109, 97, 108, 108]⟩ : ByteArray)]]
theorem cls4_mem {x : List G} (h : x ∈ cls4) : ∃ c, x = [.s c] ∧ c ∈ classes := by
 simp only [cls4, List.mem_cons, List.not_mem_nil, or_false] at h
 rcases h with rfl | rfl | rfl | rfl <;> exact ⟨_, rfl, inL_mem (by kernel_rfl)⟩
/-! ### How the stream compares -/
def cmpLI : List Int → List Int → Int
 | x :: xs, y :: ys => or2 (cmpI x y) (cmpLI xs ys)
 | _, _ => 0
theorem cmpInts_eq (xs ys : List Int) (hl : ys.length = xs.length) (hn : xs.length ≤ 100) : F_sl_Compare_int [.l (xs.map fun n => [.i n]), .l (ys.map fun n => [.i n])] = some [.i (cmpLI xs ys)] := by
 refine Ret.toEq ?_
 unfold F_sl_Compare_int
 (dsimp +instances only [Aa,Ab,Ac,Ad,Ae,Af,Ag])
 have r := count_runs (st := st_sl_Compare_int_2) (σ := Unit) (fun _ i => [.l (xs.map fun n => [.i n]), .l (ys.map fun n => [.i n]), .l (xs.map fun n => [.i n]), .i ((xs.map fun n => [G.i n]).length : Int), .i (i : Int)]) xs.length
  (fun _ => (1, [.l (xs.map fun n => [.i n]), .l (ys.map fun n => [.i n])])) (fun _ i => cmpLI (xs.drop i) (ys.drop i) = cmpLI xs ys) (fun c g => c = 0 ∧ g = [.i (cmpLI xs ys)])
  (fun _ i hI hi => by
   have hy : i < ys.length := by omega
   have ex : (xs.map fun n => [G.i n]).getD i [] = [.i (xs[i])] := by simp [List.getD_eq_getElem?_getD, hi]
   have ey : (ys.map fun n => [G.i n]).getD i [] = [.i (ys[i])] := by simp [List.getD_eq_getElem?_getD, hy]
   unfold st_sl_Compare_int_2
   (dsimp +instances only [Aa,Ab,Ac,Ad,Ae,Af,Ag])
   simp only [Int.toNat_natCast, ex, ey, List.length_map]
   (dsimp +instances only [Aa,Ab,Ac,Ad,Ae,Af,Ag])
   refine Ret.p (Ret.p (Ret.n (Ret.p ?_)))
   refine Ret.cE (cmpInt_eq _ _) ?_
   (dsimp +instances only [Aa,Ab,Ac,Ad,Ae,Af,Ag])
   rw [List.drop_eq_getElem_cons hi, List.drop_eq_getElem_cons hy] at hI
   have hI : or2 (cmpI xs[i] ys[i]) (cmpLI (xs.drop (i + 1)) (ys.drop (i + 1))) = cmpLI xs ys := hI
   unfold or2 at hI
   by_cases e : cmpI xs[i] ys[i] = 0
   ·rw [if_neg (by simpa using e)] at hI
    refine Ret.neg (by simpa using e) (Ret.p (Ret.some (.inl ⟨(), ?_, hI⟩)))
    simp
   ·rw [if_pos e] at hI
    exact Ret.pos (by simpa using e) (Ret.some (.inr ⟨0, _, rfl, rfl, by rw [hI]⟩)))
  (fun _ hI => by
   unfold st_sl_Compare_int_2
   (dsimp +instances only [Aa,Ab,Ac,Ad,Ae,Af,Ag])
   simp only [List.length_map]
   (repeat first|refine Ret.p ?_|refine Ret.n ?_)
   exact Ret.some rfl) xs.length () 0 (by omega) rfl
 refine Ret.loop (r.to (by omega)) rfl ?_
 rintro _ _ (⟨_, h, rfl, rfl⟩ | ⟨rfl, rfl⟩)
 ·(dsimp +instances only [Aa,Ab,Ac,Ad,Ae,Af,Ag])
  simp only [List.length_map]
  refine Ret.neg rfl (Ret.n (Ret.some ?_))
  have h : cmpLI (xs.drop xs.length) (ys.drop xs.length) = cmpLI xs ys := h
  rw [List.drop_length, List.drop_eq_nil_of_le (by omega)] at h
  rw [← h]
  rfl
 ·(dsimp +instances only [Aa,Ab,Ac,Ad,Ae,Af,Ag])
  exact Ret.pos rfl (Ret.some rfl)
theorem cmp3_eq (a b c a' b' c' : Int) : F_sl_Compare_int [.l [[.i a], [.i b], [.i c]], .l [[.i a'], [.i b'], [.i c']]] = some [.i (or2 (cmpI a a') (or2 (cmpI b b') (cmpI c c')))] := by
 refine (cmpInts_eq [a, b, c] [a', b', c'] rfl (by simp)).trans ?_
 have e : or2 (cmpI c c') 0 = cmpI c c' := by
  unfold or2
  split
  ·rfl
  ·rename_i h
   have h : cmpI c c' = 0 := Decidable.byContradiction fun h' => h h'
   rw [h]
 show some [G.i (or2 (cmpI a a') (or2 (cmpI b b') (or2 (cmpI c c') 0)))] = _
 rw [e]
theorem cmp2_eq (a b a' b' : Int) : F_sl_Compare_int [.l [[.i a], [.i b]], .l [[.i a'], [.i b']]] = some [.i (or2 (cmpI a a') (cmpI b b'))] := by
 refine (cmpInts_eq [a, b] [a', b'] rfl (by simp)).trans ?_
 have e : or2 (cmpI b b') 0 = cmpI b b' := by
  unfold or2
  split
  ·rfl
  ·rename_i h
   have h : cmpI b b' = 0 := Decidable.byContradiction fun h' => h h'
   rw [h]
 show some [G.i (or2 (cmpI a a') (or2 (cmpI b b') 0))] = _
 rw [e]
def ordSv (r s : List G) : Int := (gi ((F_mk_Segments_1 [.l [r], .l [s]]).getD []) 0).int
theorem segs1_ok (r s : List G) : Ret (F_mk_Segments_1 [.l [r], .l [s]]) fun g => ∃ v, g = [.i v] := by
 unfold F_mk_Segments_1
 (dsimp +instances only [Aa,Ab,Ac,Ad,Ae,Af,Ag])
 refine Ret.test (fun _ => Ret.test (fun _ => Ret.some ⟨_, rfl⟩) fun _ => Ret.some ⟨_, rfl⟩) fun _ => ?_
 refine Ret.cE (cmp3_eq _ _ _ _ _ _) ?_
 exact Ret.some ⟨_, rfl⟩
theorem cmpSegs : Cmp KSegment F_mk_Segments_1 Seg ordSv := ⟨fun r s _ _ => by
 obtain ⟨g, h, v, rfl⟩ := segs1_ok r s
 unfold ordSv
 rw [h]
 rfl, fun _ h => h.eta⟩
theorem sortSegs_eq (rows : List (List G)) (hr : ∀ y ∈ rows, Seg y) (hn : rows.length ≤ 20) : F_srtS_Segment [.l rows] = some [.l (sortA (ltC ordSv) rows)] := sortF_eq cmpSegs rows hr hn
theorem r_Segments (l : List (List G)) (a : Int) (ha : 0 ≤ a) (ha1 : a ≤ 100) :
  Ret (F_mk_Segments [.l l, .i a]) fun g => ∃ b rows, g = [.l l, .i b, .l rows] ∧ 0 ≤ b ∧ b ≤ 300 ∧ (∀ z ∈ rows, Seg z) ∧ rows.length ≤ 4 := by
 have h4 : cls4.length = 4 := rfl
 unfold F_mk_Segments
 (dsimp +instances only [Aa,Ab,Ac,Ad,Ae,Af,Ag])
 have r := range_all (st := st_mk_Segments_3) (σ := Int × List (List G)) (fun s i => [.l l, .i s.1, .l s.2, .l cls4, .i 4, .i (i : Int)]) cls4 (fun s => (0, [.l l, .i s.1, .l s.2]))
  (fun s i => 0 ≤ s.1 ∧ s.1 ≤ a + 30 * (i : Int) ∧ (∀ z ∈ s.2, Seg z) ∧ s.2.length ≤ i) (a, []) (by rw [h4]; omega) ⟨ha, by simp, by simp, by simp⟩
  (fun s i x ⟨s0, s1, s2, s3⟩ hi hx hm ht => by
   obtain ⟨b, ac⟩ := s
   simp only at s0 s1 s2 s3
   have hi4 : i < 4 := hi
   obtain ⟨c, rfl, hc⟩ := cls4_mem hm
   unfold st_mk_Segments_3
   (dsimp +instances only [Aa,Ab,Ac,Ad,Ae,Af,Ag])
   simp only [Int.toNat_natCast, hx, h4]
   (dsimp +instances only [Aa,Ab,Ac,Ad,Ae,Af,Ag])
   refine Ret.p (Ret.p ?_)
   refine Ret.call (r_Flip l b 5 (by omega) (by omega) (by omega) (by omega)) ?_
   rintro _ ⟨f, rfl⟩
   (dsimp +instances only [Aa,Ab,Ac,Ad,Ae,Af,Ag])
   cases f with
   | true =>
    (repeat first|refine Ret.p ?_|refine Ret.n ?_)
    exact Ret.some ⟨(b + 1, ac), by simp, by simp only; omega, by simp only; omega, s2, by simp only; omega⟩
   | false =>
    refine Ret.neg rfl ?_
    refine Ret.call (r_PickB 0 200 l _ _ (by omega) (by omega) (by kernel_rfl) (by kernel_rfl)) ?_
    rintro _ ⟨lo, rfl, hlo0, hlo1⟩
    (dsimp +instances only [Aa,Ab,Ac,Ad,Ae,Af,Ag])
    refine Ret.call (r_PickB 0 50 l _ _ (by omega) (by omega) (by kernel_rfl) (by kernel_rfl)) ?_
    rintro _ ⟨fr, rfl, hf0, hf1⟩
    (dsimp +instances only [Aa,Ab,Ac,Ad,Ae,Af,Ag])
    refine Ret.call (r_PickB 0 100 l _ _ (by omega) (by omega) (by kernel_rfl) (by kernel_rfl)) ?_
    rintro _ ⟨wd, rfl, hw0, hw1⟩
    (dsimp +instances only [Aa,Ab,Ac,Ad,Ae,Af,Ag])
    refine Ret.p ?_
    refine Ret.call (r_PickB 0 1000 l _ _ (by omega) (by omega) (by kernel_rfl) (by kernel_rfl)) ?_
    rintro _ ⟨tm, rfl, ht0, ht1⟩
    (dsimp +instances only [Aa,Ab,Ac,Ad,Ae,Af,Ag])
    refine Ret.p ?_
    refine Ret.loop (modes_in l ac cls4 c c lo (lo + wd) fr (fr + tm) 4 i _ (by omega) (by omega)) (by simp) ?_
    rintro _ _ ⟨rfl, b', ms, rfl, q1, q2, q3, q4⟩
    (dsimp +instances only [Aa,Ab,Ac,Ad,Ae,Af,Ag])
    have fin : ∀ ms' : List (List G), (∀ z ∈ ms', Mod z) → ms'.length ≤ 3 → _ := fun ms' hms hml => segs_tail l ac cls4 c c lo (lo + wd) fr (fr + tm) 4 i b' ms' (by omega) (by omega) hc hc ⟨by omega, by omega⟩ ⟨by omega, by omega⟩ ⟨by omega, by omega⟩ ⟨by omega, by omega⟩ hms hml (by omega)
    refine Ret.test (fun _ => ?_) fun _ => ?_
    ·refine Ret.tail (P := fun x g => x = 0 ∧ ∃ b2 r, g = [.l l, .i b2, .l (ac ++ [r]), .l cls4, .i 4, .i (i : Int)] ∧ b' ≤ b2 ∧ b2 ≤ b' + 10 ∧ Seg r) (fin [[.i 1]] (by
      intro z hz
      rw [List.mem_singleton.1 hz]
      exact ⟨1, rfl, by omega, by omega⟩) (by simp)) (by simp) ?_
     rintro _ _ ⟨rfl, b2, r, rfl, g1, g2, g3⟩
     (dsimp +instances only [Aa,Ab,Ac,Ad,Ae,Af,Ag])
     (repeat first|refine Ret.p ?_|refine Ret.n ?_)
     refine Ret.some ⟨(b2, ac ++ [r]), by simp, by simp only; omega, by simp only; omega, ?_, by simp; omega⟩
     intro z hz
     rcases List.mem_append.1 hz with hz | hz
     ·exact s2 z hz
     ·rw [List.mem_singleton.1 hz]
      exact g3
    ·refine Ret.tail (P := fun x g => x = 0 ∧ ∃ b2 r, g = [.l l, .i b2, .l (ac ++ [r]), .l cls4, .i 4, .i (i : Int)] ∧ b' ≤ b2 ∧ b2 ≤ b' + 10 ∧ Seg r) (fin ms q3 q4) (by simp) ?_
     rintro _ _ ⟨rfl, b2, r, rfl, g1, g2, g3⟩
     (dsimp +instances only [Aa,Ab,Ac,Ad,Ae,Af,Ag])
     (repeat first|refine Ret.p ?_|refine Ret.n ?_)
     refine Ret.some ⟨(b2, ac ++ [r]), by simp, by simp only; omega, by simp only; omega, ?_, by simp; omega⟩
     intro z hz
     rcases List.mem_append.1 hz with hz | hz
     ·exact s2 z hz
     ·rw [List.mem_singleton.1 hz]
      exact g3)
  (fun s hI => by
   unfold st_mk_Segments_3
   (dsimp +instances only [Aa,Ab,Ac,Ad,Ae,Af,Ag])
   simp only [h4]
   (repeat first|refine Ret.p ?_|refine Ret.n ?_)
   exact Ret.some rfl)
 refine Ret.loop r rfl ?_
 rintro _ _ ⟨⟨b, ac⟩, ⟨q1, q2, q3, q4⟩, rfl, rfl⟩
 rw [h4] at q2 q4
 simp only at q2 q4
 (dsimp +instances only [Aa,Ab,Ac,Ad,Ae,Af,Ag])
 refine Ret.callb (Ret.eq (sortSegs_eq ac q3 (by omega))) (by (first|rfl|assumption|(simp only [inI,sl]<;>omega))) ?_
 rintro _ rfl
 (dsimp +instances only [Aa,Ab,Ac,Ad,Ae,Af,Ag])
 have hl := sortA_length (ltC ordSv) ac
 refine Ret.pos (by rw [hl]; (first|rfl|assumption|(simp only [inI,sl]<;>omega))) (Ret.some ⟨b, _, rfl, q1, by omega, sortA_all q3, by omega⟩)
def okClass (s : ByteArray) : Bool := inL [⟨#[102, 117, 108, 108]⟩, ⟨#[115, 109, 97, 108, 108]⟩, ⟨#[110, 111, 110, 101]⟩] s
theorem isClass_eq {s : ByteArray} (h : s ∈ classes) : F_kit_IsKey [.s s] = some [.t (okClass s)] := by
 simp only [classes, List.mem_cons, List.not_mem_nil, or_false] at h
 rcases h with rfl | rfl | rfl | rfl | rfl <;> kernel_rfl
theorem isMomentX (t : Int) : F_kit_IsMoment [.i t] = some [.t (inB t 0 345686399999)] := by
 unfold F_kit_IsMoment
 (dsimp +instances only [Aa,Ab,Ac,Ad,Ae,Af,Ag])
 rw [outside_eq]
 show some [G.t (!(!inB t 0 345686399999))] = _
 rw [Bool.not_not]
theorem isModeX (t : Int) : F_kit_IsMode [.i t] = some [.t (inB t 1 3)] := by
 unfold F_kit_IsMode
 (dsimp +instances only [Aa,Ab,Ac,Ad,Ae,Af,Ag])
 rw [outside_eq]
 show some [G.t (!(!inB t 1 3))] = _
 rw [Bool.not_not]
def okTime (f t : Int) : Bool := inB f 0 (t - 1) && leI t 345686400000
theorem inB_iff {v lo hi : Int} : inB v lo hi = true ↔ lo ≤ v ∧ v ≤ hi := by
 unfold inB
 rw [leI_eq, leI_eq, Bool.and_eq_true, decide_eq_true_eq, decide_eq_true_eq]
theorem isTime_eq (f t : Int) (ht : b40 t) : F_kit_IsTime [.l [[.i f, .i t]]] = some [.t (okTime f t)] := by
 unfold b40 at ht
 refine Ret.toEq ?_
 unfold F_kit_IsTime okTime
 (dsimp +instances only [Aa,Ab,Ac,Ad,Ae,Af,Ag])
 refine Ret.p ?_
 refine Ret.cE (outside_eq _ _ _) ?_
 (dsimp +instances only [Aa,Ab,Ac,Ad,Ae,Af,Ag])
 cases inB f 0 (t - 1) with
 | true => exact Ret.pos rfl (Ret.some rfl)
 | false => exact Ret.neg rfl (Ret.some rfl)
def stepMd (ms : List (List G)) (i : Nat) : Int :=
 if inB (gi (ms.getD i []) 0).int 1 3 = false then 4 else if 0 < i ∧ (gi (ms.getD i []) 0).int ≤ (gi (ms.getD (i - 1) []) 0).int then 7 else 0
def faultMd (ms : List (List G)) : Int := if ms.length = 0 then 8 else fw (stepMd ms) ms.length
theorem modes_ok (ms : List (List G)) (hn : ms.length ≤ 100) : F_band_modesFault [.l ms] = some [.i (faultMd ms)] := by
 refine Ret.toEq ?_
 unfold F_band_modesFault faultMd
 (dsimp +instances only [Aa,Ab,Ac,Ad,Ae,Af,Ag])
 by_cases h0 : ms.length = 0
 ·refine Ret.p ?_
  rw [if_pos h0]
  exact Ret.some rfl
 ·refine Ret.n ?_
  rw [if_neg h0]
  refine Ret.loop (fw_loop (st := st_band_modesFault_4) (fun i => [.l ms, .l ms, .i (ms.length : Int), .i (i : Int)]) ms.length (stepMd ms) [] (by omega) (fun i hi => ?_) ?_) rfl ?_
  ·unfold st_band_modesFault_4 stepMd
   (dsimp +instances only [Aa,Ab,Ac,Ad,Ae,Af,Ag])
   simp only [Int.toNat_natCast]
   refine Ret.p (Ret.p ?_)
   refine Ret.cE (isModeX _) ?_
   (dsimp +instances only [Aa,Ab,Ac,Ad,Ae,Af,Ag])
   cases hb : inB (gi (ms.getD i []) 0).int 1 3 with
   | false =>
    refine Ret.pos rfl (Ret.some (.inr ?_))
    rw [if_pos rfl]
    exact ⟨by omega, rfl⟩
   | true =>
    refine Ret.neg rfl ?_
    rw [if_neg (by simp)]
    by_cases hi0 : 0 < i
    ·have ei : ((i : Int) - 1).toNat = i - 1 := by omega
     simp only [ei]
     refine Ret.p (Ret.p (Ret.p ?_))
     by_cases hle : (gi (ms.getD i []) 0).int ≤ (gi (ms.getD (i - 1) []) 0).int
     ·refine Ret.p (Ret.some (.inr ?_))
      rw [if_pos ⟨hi0, hle⟩]
      exact ⟨by omega, rfl⟩
     ·refine Ret.n (Ret.p (Ret.some (.inl ?_)))
      rw [if_neg fun h => hle h.2]
      exact ⟨rfl, rfl⟩
    ·refine Ret.n (Ret.p (Ret.some (.inl ?_)))
     rw [if_neg fun h => hi0 h.1]
     exact ⟨rfl, rfl⟩
  ·unfold st_band_modesFault_4
   (dsimp +instances only [Aa,Ab,Ac,Ad,Ae,Af,Ag])
   (repeat first|refine Ret.p ?_|refine Ret.n ?_)
   exact Ret.some rfl
  ·rintro _ _ (⟨rfl, h, rfl⟩ | ⟨rfl, rfl, _⟩)
   ·rw [h]
    exact Ret.neg rfl (Ret.some rfl)
   ·exact Ret.pos rfl (Ret.some rfl)
def ordS (r s : List G) : Int := or2 (cmpS (gi r 0).str (gi s 0).str) (or2 (cmpI (gi r 1).int (gi s 1).int) (or2 (cmpI (gi r 2).int (gi s 2).int) (cmpI (gi r 4).int (gi s 4).int)))
def okHz (lo hi : Int) : Bool := leI 0 lo && ltI lo hi && leI hi 30000000000
theorem okHz_iff {lo hi : Int} : okHz lo hi = true ↔ 0 ≤ lo ∧ lo < hi ∧ hi ≤ 30000000000 := by
 unfold okHz
 rw [leI_eq, ltI_eq, leI_eq, Bool.and_eq_true, Bool.and_eq_true, decide_eq_true_eq, decide_eq_true_eq, decide_eq_true_eq, and_assoc]
def faultS1 (x : List G) : Int :=
 if okClass (gi x 0).str = false then 5 else if okHz (gi x 1).int (gi x 2).int = false then 1 else if faultMd (gi x 3).rows ≠ 0 then faultMd (gi x 3).rows else if okTime (gi x 4).int (gi x 5).int = false then 1 else 0
def stepS (rows : List (List G)) (i : Nat) : Int :=
 if faultS1 (rows.getD i []) ≠ 0 then faultS1 (rows.getD i []) else if 0 < i ∧ 0 ≤ ordS (rows.getD (i - 1) []) (rows.getD i []) then 7 else 0
def faultSegs (rows : List (List G)) : Int := if 500 < rows.length then 2 else fw (stepS rows) rows.length
theorem or_four (a b c d : Int) : F_cmp_Or_int [.l [[.i a], [.i b], [.i c], [.i d]]] = some [.i (or2 a (or2 b (or2 c d)))] := by
 refine Ret.toEq ?_
 unfold F_cmp_Or_int
 (dsimp +instances only [Aa,Ab,Ac,Ad,Ae,Af,Ag])
 have h := or_runs [[.i a], [.i b], [.i c], [.i d]] [] (by simp)
 refine Ret.loop (h.to (by simp)) (by (first|rfl|assumption|(simp only [inI,sl]<;>omega))) ?_
 rintro x g ⟨hx, rfl⟩
 have q : orL [[.i a], [.i b], [.i c], [.i d]] = or2 a (or2 b (or2 c d)) := by
  simp only [orL, or2]
  (dsimp +instances only [Aa,Ab,Ac,Ad,Ae,Af,Ag])
  by_cases h1 : a = 0 <;> by_cases h2 : b = 0 <;> by_cases h3 : c = 0 <;> by_cases h4 : d = 0 <;> simp [h1, h2, h3, h4]
 rw [q]
 (dsimp +instances only [Aa,Ab,Ac,Ad,Ae,Af,Ag])
 exact Ret.test (fun _ => Ret.some rfl) fun _ => Ret.some rfl
theorem compareSegs_eq (r s : List G) : F_band_compareSegments [.l [r], .l [s]] = some [.i (ordS r s)] := by
 refine Ret.toEq ?_
 unfold F_band_compareSegments ordS
 (dsimp +instances only [Aa,Ab,Ac,Ad,Ae,Af,Ag])
 refine Ret.cE (rfl : F_strings_Compare [.s (gi r 0).str, .s (gi s 0).str] = some [.i (cmpS (gi r 0).str (gi s 0).str)]) ?_
 refine Ret.cE (cmpInt_eq _ _) ?_
 refine Ret.cE (cmpInt_eq _ _) ?_
 refine Ret.cE (cmpInt_eq _ _) ?_
 (dsimp +instances only [Aa,Ab,Ac,Ad,Ae,Af,Ag])
 refine Ret.cE (or_four _ _ _ _) ?_
 exact Ret.some rfl
theorem stepS_end {rows : List (List G)} {i : Nat} (h : faultS1 (rows.getD i []) = 0) : stepS rows i = if 0 < i ∧ 0 ≤ ordS (rows.getD (i - 1) []) (rows.getD i []) then 7 else 0 := by
 unfold stepS
 rw [if_neg (by simpa using h)]
theorem stepS_bad {rows : List (List G)} {i : Nat} (h : faultS1 (rows.getD i []) ≠ 0) : stepS rows i = faultS1 (rows.getD i []) := by
 unfold stepS
 rw [if_pos h]
theorem checkSegs_step (rows : List (List G)) (hr : ∀ z ∈ rows, Seg z) (hn : rows.length ≤ 500) (i : Nat) (hi : i < rows.length) :
  Ret (st_band_CheckSegments_4 [.l rows, .l rows, .i (rows.length : Int), .i (i : Int)]) fun o => (stepS rows i = 0 ∧ o = (none, [.l rows, .l rows, .i (rows.length : Int), .i ((i + 1 : Nat) : Int)])) ∨ (stepS rows i ≠ 0 ∧ o = (some 0, [.i (stepS rows i)])) := by
 obtain ⟨c, lo, hz, ms, f, t, hx, hc, hlo, hhi, hm, hml, hf, ht⟩ := hr _ (getD_row hi)
 have hC : Seg (rows.getD i []) := hr _ (getD_row hi)
 unfold st_band_CheckSegments_4
 (dsimp +instances only [Aa,Ab,Ac,Ad,Ae,Af,Ag])
 simp only [Int.toNat_natCast, hC.eta]
 have f0 : (gi (rows.getD i []) 0).str = c := by rw [hx]; rfl
 have f1 : (gi (rows.getD i []) 1).int = lo := by rw [hx]; rfl
 have f2 : (gi (rows.getD i []) 2).int = hz := by rw [hx]; rfl
 have f3 : (gi (rows.getD i []) 3).rows = ms := by rw [hx]; rfl
 have f4 : (gi (rows.getD i []) 4).int = f := by rw [hx]; rfl
 have f5 : (gi (rows.getD i []) 5).int = t := by rw [hx]; rfl
 have ef : faultS1 (rows.getD i []) = if okClass c = false then 5 else if okHz lo hz = false then 1 else if faultMd ms ≠ 0 then faultMd ms else if okTime f t = false then 1 else 0 := by
  unfold faultS1
  rw [f0, f1, f2, f3, f4, f5]
 simp only [f0, f1, f2, f3, f4, f5]
 have hhi' := hhi
 unfold b40 at hhi'
 refine Ret.p (Ret.p ?_)
 refine Ret.cE (isClass_eq hc) ?_
 (dsimp +instances only [Aa,Ab,Ac,Ad,Ae,Af,Ag])
 cases h0 : okClass c with
 | false =>
  rw [h0, if_pos rfl] at ef
  rw [stepS_bad (by rw [ef]; omega), ef]
  exact Ret.pos rfl (Ret.some (.inr ⟨by omega, rfl⟩))
 | true =>
 rw [h0, if_neg (by simp)] at ef
 refine Ret.neg rfl (Ret.p ?_)
 refine Ret.cE (outside_eq _ _ _) ?_
 (dsimp +instances only [Aa,Ab,Ac,Ad,Ae,Af,Ag])
 cases h1 : okHz lo hz with
 | false =>
  rw [h1, if_pos rfl] at ef
  rw [stepS_bad (by rw [ef]; omega), ef]
  refine Ret.test (fun _ => Ret.some (.inr ⟨by omega, rfl⟩)) fun h2 => ?_
  refine Ret.pos ?_ (Ret.some (.inr ⟨by omega, rfl⟩))
  have h2 : inB lo 0 (hz - 1) = true := by simpa using h2
  rw [ltI_eq, decide_eq_true_eq]
  refine Int.not_le.1 fun hle => ?_
  obtain ⟨g1, g2⟩ := inB_iff.1 h2
  rw [okHz_iff.2 ⟨g1, by omega, hle⟩] at h1
  cases h1
 | true =>
 rw [h1, if_neg (by simp)] at ef
 obtain ⟨g1, g2, g3⟩ := okHz_iff.1 h1
 have hin : inB lo 0 (hz - 1) = true := inB_iff.2 ⟨g1, by omega⟩
 rw [hin]
 refine Ret.neg rfl (Ret.n ?_)
 refine Ret.cE (modes_ok ms (by omega)) ?_
 (dsimp +instances only [Aa,Ab,Ac,Ad,Ae,Af,Ag])
 by_cases h2 : faultMd ms = 0
 rotate_left
 ·rw [if_pos h2] at ef
  rw [stepS_bad (by rw [ef]; exact h2), ef]
  exact Ret.pos (by simpa using h2) (Ret.some (.inr ⟨h2, rfl⟩))
 rw [if_neg (by simpa using h2)] at ef
 refine Ret.neg (by simpa using h2) ?_
 refine Ret.cE (isTime_eq f t ht) ?_
 (dsimp +instances only [Aa,Ab,Ac,Ad,Ae,Af,Ag])
 cases h3 : okTime f t with
 | false =>
  rw [h3, if_pos rfl] at ef
  rw [stepS_bad (by rw [ef]; omega), ef]
  exact Ret.pos rfl (Ret.some (.inr ⟨by omega, rfl⟩))
 | true =>
 rw [h3, if_neg (by simp)] at ef
 refine Ret.neg rfl ?_
 rw [stepS_end ef]
 by_cases hi0 : 0 < i
 ·have ei : ((i : Int) - 1).toNat = i - 1 := by omega
  have hy : Seg (rows.getD (i - 1) []) := hr _ (getD_row (by omega))
  simp only [ei, hy.eta]
  refine Ret.p (Ret.p (Ret.p ?_))
  refine Ret.cE (compareSegs_eq _ _) ?_
  (dsimp +instances only [Aa,Ab,Ac,Ad,Ae,Af,Ag])
  by_cases h7 : 0 ≤ ordS (rows.getD (i - 1) []) (rows.getD i [])
  ·rw [if_pos ⟨hi0, h7⟩]
   exact Ret.p (Ret.some (.inr ⟨by omega, rfl⟩))
  ·rw [if_neg fun h => h7 h.2]
   exact Ret.n (Ret.p (Ret.some (.inl ⟨rfl, rfl⟩)))
 ·rw [if_neg fun h => hi0 h.1]
  exact Ret.n (Ret.p (Ret.some (.inl ⟨rfl, rfl⟩)))
theorem checkSegs_ok (rows : List (List G)) (hr : ∀ z ∈ rows, Seg z) : F_band_CheckSegments [.l rows] = some [.i (faultSegs rows)] := by
 refine Ret.toEq ?_
 unfold F_band_CheckSegments faultSegs
 (dsimp +instances only [Aa,Ab,Ac,Ad,Ae,Af,Ag])
 by_cases hn : 500 < rows.length
 ·refine Ret.p ?_
  rw [if_pos hn]
  exact Ret.some rfl
 ·refine Ret.n ?_
  rw [if_neg hn]
  refine Ret.loop (fw_loop (fun i => [.l rows, .l rows, .i (rows.length : Int), .i (i : Int)]) rows.length (stepS rows) [] (by omega) (checkSegs_step rows hr (by omega)) ?_) rfl ?_
  ·unfold st_band_CheckSegments_4
   (dsimp +instances only [Aa,Ab,Ac,Ad,Ae,Af,Ag])
   (repeat first|refine Ret.p ?_|refine Ret.n ?_)
   exact Ret.some rfl
  ·rintro _ _ (⟨rfl, h, rfl⟩ | ⟨rfl, rfl, _⟩)
   ·rw [h]
    exact Ret.some rfl
   ·exact Ret.some rfl
theorem segs_right {rows : List (List G)} (h : faultSegs rows = 0) : ∀ r ∈ rows, okHz (gi r 1).int (gi r 2).int = true ∧ okTime (gi r 4).int (gi r 5).int = true := by
 intro r hr
 unfold faultSegs at h
 have hn : ¬ 500 < rows.length := fun hn => by rw [if_pos hn] at h; omega
 rw [if_neg hn] at h
 obtain ⟨i, hi, rfl⟩ := List.mem_iff_getElem.1 hr
 have hs := fw_zero h i hi
 have e : rows.getD i [] = rows[i] := by simp [List.getD_eq_getElem?_getD, hi]
 have h1 : faultS1 rows[i] = 0 := by
  refine Decidable.byContradiction fun hne => ?_
  rw [← e] at hne
  rw [stepS_bad hne] at hs
  exact hne hs
 unfold faultS1 at h1
 split at h1
 ·omega
 ·split at h1
  ·omega
  ·rename_i h2
   split at h1
   ·rename_i h3
    exact (h3 h1).elim
   ·split at h1
    ·omega
    ·rename_i h4
     exact ⟨by simpa using h2, by simpa using h4⟩
def Bsy (r : List G) : Prop := ∃ (w : ByteArray) (h d f t : Int), r = [.s w, .i h, .i d, .i f, .i t] ∧ w ∈ calls ∧ b40 h ∧ b40 d ∧ b40 f ∧ b40 t
theorem Bsy.eta {r : List G} (h : Bsy r) : gEta KBusy r = r := by
 obtain ⟨w, h, d, f, t, rfl, _⟩ := h
 rfl
def ordBv (r s : List G) : Int := (gi ((F_mk_Busies_1 [.l [r], .l [s]]).getD []) 0).int
theorem cmpBusies : Cmp KBusy F_mk_Busies_1 Bsy ordBv := ⟨fun r s _ _ => by
 have h : ∃ v, F_mk_Busies_1 [.l [r], .l [s]] = some [.i v] := by
  refine ⟨or2 (cmpI (gi r 3).int (gi s 3).int) (cmpI (gi r 1).int (gi s 1).int), Ret.toEq ?_⟩
  unfold F_mk_Busies_1
  (dsimp +instances only [Aa,Ab,Ac,Ad,Ae,Af,Ag])
  refine Ret.cE (cmp2_eq _ _ _ _) ?_
  exact Ret.some rfl
 obtain ⟨v, h⟩ := h
 unfold ordBv
 rw [h]
 rfl, fun _ h => h.eta⟩
theorem sortBusies_eq (rows : List (List G)) (hr : ∀ y ∈ rows, Bsy y) (hn : rows.length ≤ 20) : F_srtS_Busy [.l rows] = some [.l (sortA (ltC ordBv) rows)] := sortF_eq cmpBusies rows hr hn
theorem r_Busies (l : List (List G)) (a : Int) (ha : 0 ≤ a) (ha1 : a ≤ 1000) :
  Ret (F_mk_Busies [.l l, .i a]) fun g => ∃ b rows, g = [.l l, .i b, .l rows] ∧ 0 ≤ b ∧ b ≤ 2000 ∧ (∀ z ∈ rows, Bsy z) ∧ rows.length ≤ 6 := by
 unfold F_mk_Busies
 (dsimp +instances only [Aa,Ab,Ac,Ad,Ae,Af,Ag])
 refine Ret.call (r_RangeX l a 0 6 ha (by omega) (by omega) (by omega) (by omega)) ?_
 rintro _ ⟨n, rfl, hn0, hn6⟩
 obtain ⟨n, rfl⟩ := Int.eq_ofNat_of_zero_le hn0
 (dsimp +instances only [Aa,Ab,Ac,Ad,Ae,Af,Ag])
 have r := count_runs (st := st_mk_Busies_3) (σ := Int × List (List G)) (fun s i => [.l l, .i s.1, .l s.2, .i (n : Int), .i (i : Int)]) n (fun s => (0, [.l l, .i s.1, .l s.2]))
  (fun s i => 0 ≤ s.1 ∧ s.1 ≤ a + 1 + 30 * (i : Int) ∧ (∀ z ∈ s.2, Bsy z) ∧ s.2.length ≤ i) (fun _ _ => False)
  (fun s i ⟨s0, s1, s2, s3⟩ hi => by
   obtain ⟨b, ac⟩ := s
   simp only at s0 s1 s2 s3
   have hn : n ≤ 6 := by omega
   unfold st_mk_Busies_3
   (dsimp +instances only [Aa,Ab,Ac,Ad,Ae,Af,Ag])
   refine Ret.p ?_
   refine Ret.call (r_SomeB calls l _ _ (by omega) (by omega) (by kernel_rfl) (by kernel_rfl)) ?_
   rintro _ ⟨w, rfl, hw⟩
   (dsimp +instances only [Aa,Ab,Ac,Ad,Ae,Af,Ag])
   refine Ret.call (r_RangeX l _ 90 320 (by omega) (by omega) (by omega) (by omega) (by omega)) ?_
   rintro _ ⟨h, rfl, hh0, hh1⟩
   (dsimp +instances only [Aa,Ab,Ac,Ad,Ae,Af,Ag])
   refine Ret.call (r_PickB 0 50 l _ _ (by omega) (by omega) (by kernel_rfl) (by kernel_rfl)) ?_
   rintro _ ⟨d, rfl, hd0, hd1⟩
   (dsimp +instances only [Aa,Ab,Ac,Ad,Ae,Af,Ag])
   refine Ret.call (r_PickB 0 60 l _ _ (by omega) (by omega) (by kernel_rfl) (by kernel_rfl)) ?_
   rintro _ ⟨f, rfl, hf0, hf1⟩
   (dsimp +instances only [Aa,Ab,Ac,Ad,Ae,Af,Ag])
   refine Ret.call (r_PickB 0 100 l _ _ (by omega) (by omega) (by kernel_rfl) (by kernel_rfl)) ?_
   rintro _ ⟨t, rfl, ht0, ht1⟩
   (dsimp +instances only [Aa,Ab,Ac,Ad,Ae,Af,Ag])
   refine Ret.p ?_
   refine Ret.call (r_Flip l _ 60 (by omega) (by omega) (by omega) (by omega)) ?_
   rintro _ ⟨q, rfl⟩
   (dsimp +instances only [Aa,Ab,Ac,Ad,Ae,Af,Ag])
   cases q with
   | false =>
    (repeat first|refine Ret.p ?_|refine Ret.n ?_)
    refine Ret.some (.inl ⟨(_, ac ++ [[.s w, .i h, .i d, .i f, .i (f + t)]]), by simp; rfl, by simp only; omega, by simp only; omega, ?_, by simp; omega⟩)
    intro z hz
    rcases List.mem_append.1 hz with hz | hz
    ·exact s2 z hz
    ·rw [List.mem_singleton.1 hz]
     exact ⟨w, h, d, f, f + t, rfl, hw, ⟨by omega, by omega⟩, ⟨by omega, by omega⟩, ⟨by omega, by omega⟩, by omega, by omega⟩
   | true =>
    refine Ret.pos rfl ?_
    refine Ret.call (r_Some (fun v => v ∈ calls) l _ [[.s w], [.s (⟨#[]⟩ : ByteArray)]] (by omega) (by omega) (by simp) (by simp) ?_) ?_
    ·intro x hx
     simp only [List.mem_cons, List.not_mem_nil, or_false] at hx
     rcases hx with rfl | rfl
     ·exact hw
     ·exact inL_mem (by kernel_rfl)
    rintro _ ⟨w', rfl, hw'⟩
    (dsimp +instances only [Aa,Ab,Ac,Ad,Ae,Af,Ag])
    refine Ret.call (r_OddX l _ 0 30000000000 (by omega) (by omega) (by omega) (by omega) (by omega)) ?_
    rintro _ ⟨h', rfl, hh'⟩
    (dsimp +instances only [Aa,Ab,Ac,Ad,Ae,Af,Ag])
    refine Ret.call (r_OddX l _ 1 100000 (by omega) (by omega) (by omega) (by omega) (by omega)) ?_
    rintro _ ⟨d', rfl, hd'⟩
    (dsimp +instances only [Aa,Ab,Ac,Ad,Ae,Af,Ag])
    refine Ret.call (r_OddX l _ 1 100 (by omega) (by omega) (by omega) (by omega) (by omega)) ?_
    rintro _ ⟨t', rfl, ht'⟩
    (dsimp +instances only [Aa,Ab,Ac,Ad,Ae,Af,Ag])
    (repeat first|refine Ret.p ?_|refine Ret.n ?_)
    refine Ret.some (.inl ⟨(_, ac ++ [[.s w', .i h', .i d', .i f, .i t']]), by simp; rfl, by simp only; omega, by simp only; omega, ?_, by simp; omega⟩)
    intro z hz
    rcases List.mem_append.1 hz with hz | hz
    ·exact s2 z hz
    ·rw [List.mem_singleton.1 hz]
     exact ⟨w', h', d', f, t', rfl, hw', hh', hd', ⟨by omega, by omega⟩, ht'⟩)
  (fun s hI => by
   unfold st_mk_Busies_3
   (dsimp +instances only [Aa,Ab,Ac,Ad,Ae,Af,Ag])
   (repeat first|refine Ret.p ?_|refine Ret.n ?_)
   exact Ret.some rfl) n (a + 1, []) 0 (by omega) ⟨by simp only; omega, by simp, by simp, by simp⟩
 refine Ret.loop (r.to (by omega)) rfl ?_
 rintro _ _ (⟨⟨b, ac⟩, ⟨q1, q2, q3, q4⟩, rfl, rfl⟩ | h)
 rotate_left
 ·exact h.elim
 simp only at q1 q2 q3 q4
 have hn : n ≤ 6 := by omega
 (dsimp +instances only [Aa,Ab,Ac,Ad,Ae,Af,Ag])
 refine Ret.callb (Ret.eq (sortBusies_eq ac q3 (by omega))) (by (first|rfl|assumption|(simp only [inI,sl]<;>omega))) ?_
 rintro _ rfl
 (dsimp +instances only [Aa,Ab,Ac,Ad,Ae,Af,Ag])
 have hl := sortA_length (ltC ordBv) ac
 refine Ret.pos (by rw [hl]; (first|rfl|assumption|(simp only [inI,sl]<;>omega))) (Ret.some ⟨b, _, rfl, q1, by omega, sortA_all q3, by omega⟩)
/-! ### What is wrong with it -/
theorem or_three (a b c : Int) : F_cmp_Or_int [.l [[.i a], [.i b], [.i c]]] = some [.i (or2 a (or2 b c))] := by
 refine Ret.toEq ?_
 unfold F_cmp_Or_int
 (dsimp +instances only [Aa,Ab,Ac,Ad,Ae,Af,Ag])
 have h := or_runs [[.i a], [.i b], [.i c]] [] (by simp)
 refine Ret.loop (h.to (by simp)) (by (first|rfl|assumption|(simp only [inI,sl]<;>omega))) ?_
 rintro x g ⟨hx, rfl⟩
 have q : orL [[.i a], [.i b], [.i c]] = or2 a (or2 b c) := by
  simp only [orL, or2]
  (dsimp +instances only [Aa,Ab,Ac,Ad,Ae,Af,Ag])
  by_cases h1 : a = 0 <;> by_cases h2 : b = 0 <;> by_cases h3 : c = 0 <;> simp [h1, h2, h3]
 rw [q]
 (dsimp +instances only [Aa,Ab,Ac,Ad,Ae,Af,Ag])
 exact Ret.test (fun _ => Ret.some rfl) fun _ => Ret.some rfl
def ordB (r s : List G) : Int := or2 (cmpI (gi r 3).int (gi s 3).int) (or2 (cmpI (gi r 1).int (gi s 1).int) (cmpS (gi r 0).str (gi s 0).str))
theorem compareBusy_eq (r s : List G) : F_band_compareBusy [.l [r], .l [s]] = some [.i (ordB r s)] := by
 refine Ret.toEq ?_
 unfold F_band_compareBusy ordB
 (dsimp +instances only [Aa,Ab,Ac,Ad,Ae,Af,Ag])
 refine Ret.cE (cmpInt_eq _ _) ?_
 refine Ret.cE (cmpInt_eq _ _) ?_
 refine Ret.cE (rfl : F_strings_Compare [.s (gi r 0).str, .s (gi s 0).str] = some [.i (cmpS (gi r 0).str (gi s 0).str)]) ?_
 (dsimp +instances only [Aa,Ab,Ac,Ad,Ae,Af,Ag])
 refine Ret.cE (or_three _ _ _) ?_
 exact Ret.some rfl
def faultB1 (x : List G) : Int :=
 if okCall (gi x 0).str = false then 3 else if inB (gi x 1).int 0 30000000000 = false then 1 else if inB (gi x 2).int 1 100000 = false then 1 else if okTime (gi x 3).int (gi x 4).int = false then 1 else 0
def stepB (rows : List (List G)) (i : Nat) : Int :=
 if faultB1 (rows.getD i []) ≠ 0 then faultB1 (rows.getD i []) else if 0 < i ∧ 0 ≤ ordB (rows.getD (i - 1) []) (rows.getD i []) then 7 else 0
def faultBusy (rows : List (List G)) : Int := if 500 < rows.length then 2 else fw (stepB rows) rows.length
theorem stepB_end {rows : List (List G)} {i : Nat} (h : faultB1 (rows.getD i []) = 0) : stepB rows i = if 0 < i ∧ 0 ≤ ordB (rows.getD (i - 1) []) (rows.getD i []) then 7 else 0 := by
 unfold stepB
 rw [if_neg (by simpa using h)]
theorem stepB_bad {rows : List (List G)} {i : Nat} (h : faultB1 (rows.getD i []) ≠ 0) : stepB rows i = faultB1 (rows.getD i []) := by
 unfold stepB
 rw [if_pos h]
theorem checkBusy_step (rows : List (List G)) (hr : ∀ z ∈ rows, Bsy z) (hn : rows.length ≤ 500) (i : Nat) (hi : i < rows.length) :
  Ret (st_band_CheckBusy_4 [.l rows, .l rows, .i (rows.length : Int), .i (i : Int)]) fun o => (stepB rows i = 0 ∧ o = (none, [.l rows, .l rows, .i (rows.length : Int), .i ((i + 1 : Nat) : Int)])) ∨ (stepB rows i ≠ 0 ∧ o = (some 0, [.i (stepB rows i)])) := by
 obtain ⟨w, h, d, f, t, hx, hw, hh, hd, hf, ht⟩ := hr _ (getD_row hi)
 have hC : Bsy (rows.getD i []) := hr _ (getD_row hi)
 unfold st_band_CheckBusy_4
 (dsimp +instances only [Aa,Ab,Ac,Ad,Ae,Af,Ag])
 simp only [Int.toNat_natCast, hC.eta]
 have f0 : (gi (rows.getD i []) 0).str = w := by rw [hx]; rfl
 have f1 : (gi (rows.getD i []) 1).int = h := by rw [hx]; rfl
 have f2 : (gi (rows.getD i []) 2).int = d := by rw [hx]; rfl
 have f3 : (gi (rows.getD i []) 3).int = f := by rw [hx]; rfl
 have f4 : (gi (rows.getD i []) 4).int = t := by rw [hx]; rfl
 have ef : faultB1 (rows.getD i []) = if okCall w = false then 3 else if inB h 0 30000000000 = false then 1 else if inB d 1 100000 = false then 1 else if okTime f t = false then 1 else 0 := by
  unfold faultB1
  rw [f0, f1, f2, f3, f4]
 simp only [f0, f1, f2, f3, f4]
 refine Ret.p (Ret.p ?_)
 refine Ret.cE (isCall_eq hw) ?_
 (dsimp +instances only [Aa,Ab,Ac,Ad,Ae,Af,Ag])
 cases h0 : okCall w with
 | false =>
  rw [h0, if_pos rfl] at ef
  rw [stepB_bad (by rw [ef]; omega), ef]
  exact Ret.pos rfl (Ret.some (.inr ⟨by omega, rfl⟩))
 | true =>
 rw [h0, if_neg (by simp)] at ef
 refine Ret.neg rfl ?_
 refine Ret.cE (outside_eq _ _ _) ?_
 (dsimp +instances only [Aa,Ab,Ac,Ad,Ae,Af,Ag])
 cases h1 : inB h 0 30000000000 with
 | false =>
  rw [h1, if_pos rfl] at ef
  rw [stepB_bad (by rw [ef]; omega), ef]
  exact Ret.pos rfl (Ret.some (.inr ⟨by omega, rfl⟩))
 | true =>
 rw [h1, if_neg (by simp)] at ef
 refine Ret.neg rfl ?_
 refine Ret.cE (outside_eq _ _ _) ?_
 (dsimp +instances only [Aa,Ab,Ac,Ad,Ae,Af,Ag])
 cases h2 : inB d 1 100000 with
 | false =>
  rw [h2, if_pos rfl] at ef
  rw [stepB_bad (by rw [ef]; omega), ef]
  exact Ret.pos rfl (Ret.some (.inr ⟨by omega, rfl⟩))
 | true =>
 rw [h2, if_neg (by simp)] at ef
 refine Ret.neg rfl ?_
 refine Ret.cE (isTime_eq f t ht) ?_
 (dsimp +instances only [Aa,Ab,Ac,Ad,Ae,Af,Ag])
 cases h3 : okTime f t with
 | false =>
  rw [h3, if_pos rfl] at ef
  rw [stepB_bad (by rw [ef]; omega), ef]
  exact Ret.pos rfl (Ret.some (.inr ⟨by omega, rfl⟩))
 | true =>
 rw [h3, if_neg (by simp)] at ef
 refine Ret.neg rfl ?_
 rw [stepB_end ef]
 by_cases hi0 : 0 < i
 ·have ei : ((i : Int) - 1).toNat = i - 1 := by omega
  have hy : Bsy (rows.getD (i - 1) []) := hr _ (getD_row (by omega))
  simp only [ei, hy.eta]
  refine Ret.p (Ret.p (Ret.p ?_))
  refine Ret.cE (compareBusy_eq _ _) ?_
  (dsimp +instances only [Aa,Ab,Ac,Ad,Ae,Af,Ag])
  by_cases h7 : 0 ≤ ordB (rows.getD (i - 1) []) (rows.getD i [])
  ·rw [if_pos ⟨hi0, h7⟩]
   exact Ret.p (Ret.some (.inr ⟨by omega, rfl⟩))
  ·rw [if_neg fun h => h7 h.2]
   exact Ret.n (Ret.p (Ret.some (.inl ⟨rfl, rfl⟩)))
 ·rw [if_neg fun h => hi0 h.1]
  exact Ret.n (Ret.p (Ret.some (.inl ⟨rfl, rfl⟩)))
theorem checkBusy_ok (rows : List (List G)) (hr : ∀ z ∈ rows, Bsy z) : F_band_CheckBusy [.l rows] = some [.i (faultBusy rows)] := by
 refine Ret.toEq ?_
 unfold F_band_CheckBusy faultBusy
 (dsimp +instances only [Aa,Ab,Ac,Ad,Ae,Af,Ag])
 by_cases hn : 500 < rows.length
 ·refine Ret.p ?_
  rw [if_pos hn]
  exact Ret.some rfl
 ·refine Ret.n ?_
  rw [if_neg hn]
  refine Ret.loop (fw_loop (fun i => [.l rows, .l rows, .i (rows.length : Int), .i (i : Int)]) rows.length (stepB rows) [] (by omega) (checkBusy_step rows hr (by omega)) ?_) rfl ?_
  ·unfold st_band_CheckBusy_4
   (dsimp +instances only [Aa,Ab,Ac,Ad,Ae,Af,Ag])
   (repeat first|refine Ret.p ?_|refine Ret.n ?_)
   exact Ret.some rfl
  ·rintro _ _ (⟨rfl, h, rfl⟩ | ⟨rfl, rfl, _⟩)
   ·rw [h]
    exact Ret.some rfl
   ·exact Ret.some rfl
theorem busy_right {rows : List (List G)} (h : faultBusy rows = 0) : ∀ r ∈ rows, 0 ≤ (gi r 1).int ∧ (gi r 1).int ≤ 30000000000 ∧ 1 ≤ (gi r 2).int ∧ (gi r 2).int ≤ 100000 ∧ okTime (gi r 3).int (gi r 4).int = true := by
 intro r hr
 unfold faultBusy at h
 have hn : ¬ 500 < rows.length := fun hn => by rw [if_pos hn] at h; omega
 rw [if_neg hn] at h
 obtain ⟨i, hi, rfl⟩ := List.mem_iff_getElem.1 hr
 have hs := fw_zero h i hi
 have e : rows.getD i [] = rows[i] := by simp [List.getD_eq_getElem?_getD, hi]
 have h1 : faultB1 rows[i] = 0 := by
  refine Decidable.byContradiction fun hne => ?_
  rw [← e] at hne
  rw [stepB_bad hne] at hs
  exact hne hs
 unfold faultB1 at h1
 split at h1
 ·omega
 ·split at h1
  ·omega
  ·rename_i h2
   split at h1
   ·omega
   ·rename_i h3
    split at h1
    ·omega
    ·rename_i h4
     have h2 := inB_iff.1 (by simpa using h2)
     have h3 := inB_iff.1 (by simpa using h3)
     exact ⟨h2.1, h2.2, h3.1, h3.2, by simpa using h4⟩
def RowB (r : List G) : Prop := IsR r ∧ -4000000000000 ≤ rLo r ∧ rHi r ≤ 4000000000000
def cmpRow (r s : List G) : Int := rLo r - rLo s
theorem cmpRow_ok : CmpS F_band_joined_1 RowB cmpRow := by
 intro r s hr hs
 obtain ⟨⟨_, h1⟩, h2, h3⟩ := hr
 obtain ⟨⟨_, h4⟩, h5, h6⟩ := hs
 refine ⟨rLo r - rLo s, Ret.toEq ?_, Iff.rfl⟩
 unfold F_band_joined_1
 (dsimp +instances only [Aa,Ab,Ac,Ad,Ae,Af,Ag])
 refine Ret.pos ?_ (Ret.some rfl)
 simp only [inI, sl]
 show -(2 : Int) ^ 63 ≤ rLo r - rLo s ∧ rLo r - rLo s ≤ 2 ^ 63 - 1
 omega
theorem cmpRow_lin : Lin (ltC cmpRow) RowB := (lin_of (fun a b => by unfold cmpRow; omega) fun a b d h1 h2 => by unfold cmpRow at *; omega).mono fun _ _ => trivial
theorem sortRow_ok (rows : List (List G)) (hr : ∀ y ∈ rows, RowB y) (hn : rows.length < 100000) : ∃ out, F_sl_SortFunc_Row [.l rows] = some [.l out] ∧ out.Perm rows ∧ out.Pairwise fun a b => rLo a ≤ rLo b := by
 obtain ⟨out, h, hp, hs⟩ := sortG_some cmpRow_ok cmpRow_lin rows hr hn
 refine ⟨out, h, hp, hs.imp fun {a b} h => ?_⟩
 unfold ltC cmpRow at h
 rw [ltI_eq, decide_eq_false_iff_not] at h
 omega
theorem join_new (srt acc : List (List G)) (lo hi k n i : Int) (hl : acc.length ≤ 1000) : tl_band_joined_8 [.l srt, .l acc, .i lo, .i hi, .i k, .i n, .i i, .t false] = some (some 0, [.l srt, .l (acc ++ [[.i lo, .i hi]]), .i n, .i i]) := by
 refine Ret.toEq ?_
 unfold tl_band_joined_8
 (dsimp +instances only [Aa,Ab,Ac,Ad,Ae,Af,Ag])
 refine Ret.neg rfl ?_
 (repeat first|refine Ret.p ?_|refine Ret.n ?_)
 exact Ret.some rfl
theorem join_old (srt L : List (List G)) (b : List G) (hb : IsR b) (lo hi n i : Int) : tl_band_joined_8 [.l srt, .l (L ++ [b]), .i lo, .i hi, .i (L.length : Int), .i n, .i i, .t true] = some (some 0, [.l srt, .l (L ++ [[.i (rLo b), .i (if hi > rHi b then hi else rHi b)]]), .i n, .i i]) := by
 obtain ⟨e1, e2, e3⟩ := snoc_last L b
 have hput : ∀ m : Int, putG [.int .i64, .int .i64] b 1 [.i m] = [.i (rLo b), .i m] := fun m => by
  rw [hb.1]
  rfl
 refine Ret.toEq ?_
 unfold tl_band_joined_8
 (dsimp +instances only [Aa,Ab,Ac,Ad,Ae,Af,Ag])
 simp only [Int.toNat_natCast, Nat.zero_add, e2, e3, hput]
 refine Ret.pos rfl ?_
 have hlen : (L ++ [b]).length = L.length + 1 := by simp
 refine Ret.pos (by rw [hlen]; (first|rfl|assumption|(simp only [inI,sl]<;>omega))) (Ret.pos (by rw [hlen]; simp) (Ret.pos (by rw [hlen]; (first|rfl|assumption|(simp only [inI,sl]<;>omega))) (Ret.pos (by rw [hlen]; simp) (Ret.pos (by simp) (Ret.some rfl)))))
theorem joined_ok (rows : List (List G)) (hr : ∀ y ∈ rows, RowB y) (hn : rows.length ≤ 1000) :
  Ret (F_band_joined [.l rows]) fun g => ∃ srt out, g = [.l srt, .l out] ∧ srt.length = rows.length ∧ CanR out ∧ out.length ≤ rows.length ∧ ∀ n, memR out n ↔ memR rows n := by
 obtain ⟨srt, hs, hp, hsort⟩ := sortRow_ok rows hr (by omega)
 have hlen := hp.length_eq
 unfold F_band_joined
 (dsimp +instances only [Aa,Ab,Ac,Ad,Ae,Af,Ag])
 rw [hs]
 refine Ret.callb (P := fun g => g = [.l srt]) (Ret.eq rfl) (by (first|rfl|assumption|(simp only [inI,sl]<;>omega))) ?_
 rintro _ rfl
 (dsimp +instances only [Aa,Ab,Ac,Ad,Ae,Af,Ag])
 rw [show (rows.length : Int) = (srt.length : Int) by rw [hlen], show rows.length = srt.length from hlen.symm]
 have r := range_all (st := st_band_joined_4) (σ := List (List G)) (fun s i => [.l srt, .l s, .i (srt.length : Int), .i (i : Int)]) srt (fun s => (0, [.l srt, .l s]))
  (fun s i => CanR s ∧ (∀ n, memR s n ↔ memR (srt.take i) n) ∧ (∀ a ∈ s, ∃ r ∈ srt.take i, rLo a = rLo r) ∧ s.length ≤ i) [] (by omega) ⟨canR_nil, by simp, by simp, by simp⟩
  (fun s i x ⟨s0, s1, s2, s3⟩ hi hx hm ht => by
   obtain ⟨hX, _, _⟩ := hr x (hp.mem_iff.1 hm)
   have hle : ∀ a ∈ s, rLo a ≤ rLo x := fun a ha => by
    obtain ⟨r, hr', e⟩ := s2 a ha
    rw [e]
    obtain ⟨j, hj, rfl⟩ := List.mem_iff_getElem.1 hr'
    have hji : j < i := by
     have := hj
     rw [List.length_take] at this
     omega
    rw [List.getElem_take]
    have := List.pairwise_iff_getElem.1 hsort j i (by omega) hi hji
    have ex : srt[i] = x := by
     rw [← hx]
     simp [List.getD_eq_getElem?_getD, hi]
    rw [ex] at this
    exact this
   have new : CanR (s ++ [x]) → CanR (s ++ [[.i (rLo x), .i (rHi x)]]) ∧ (∀ n, memR (s ++ [[.i (rLo x), .i (rHi x)]]) n ↔ memR (srt.take (i + 1)) n) ∧ (∀ a ∈ s ++ [[.i (rLo x), .i (rHi x)]], ∃ r ∈ srt.take (i + 1), rLo a = rLo r) ∧ (s ++ [[G.i (rLo x), .i (rHi x)]]).length ≤ i + 1 := by
    intro hc
    rw [← hX.1]
    refine ⟨hc, fun n => ?_, fun a ha => ?_, by simp; omega⟩
    ·rw [ht, memR_append, memR_append, s1]
    ·rw [ht]
     rcases List.mem_append.1 ha with ha | ha
     ·obtain ⟨r, hr', e⟩ := s2 a ha
      exact ⟨r, List.mem_append_left _ hr', e⟩
     ·rw [List.mem_singleton.1 ha]
      exact ⟨x, by simp, rfl⟩
   unfold st_band_joined_4
   (dsimp +instances only [Aa,Ab,Ac,Ad,Ae,Af,Ag])
   simp only [Int.toNat_natCast, Nat.zero_add, hx]
   refine Ret.p (Ret.p (Ret.p (Ret.p ?_)))
   rcases List.eq_nil_or_concat s with rfl | ⟨L, b, e⟩
   ·refine Ret.neg (by simp [sl]) ?_
    refine Ret.tail (P := fun x' g => x' = 0 ∧ g = [.l srt, .l ([] ++ [[.i (rLo x), .i (rHi x)]]), .i (srt.length : Int), .i (i : Int)]) ⟨_, join_new srt [] (rLo x) (rHi x) _ _ _ (by simp), 0, rfl, rfl, rfl⟩ (by simp) ?_
    rintro _ _ ⟨rfl, rfl⟩
    (dsimp +instances only [Aa,Ab,Ac,Ad,Ae,Af,Ag])
    (repeat first|refine Ret.p ?_|refine Ret.n ?_)
    exact Ret.some ⟨_, by simp, new (by simpa using (canR_cons.2 ⟨hX, by simp, canR_nil⟩))⟩
   ·rw [List.concat_eq_append] at e
    subst e
    obtain ⟨e1, e2, e3⟩ := snoc_last L b
    have hlb : (((L ++ [b]).length : Nat) : Int) - 1 = (L.length : Int) := by simp
    simp only [hlb, Int.toNat_natCast, Nat.zero_add, e2]
    have hbR := (canR_snoc.1 s0).2.2
    have hbx := hle b (by simp)
    have hll : (L ++ [b]).length = L.length + 1 := by simp
    refine Ret.p (Ret.pos (by rw [hll]; (first|rfl|assumption|(simp only [inI,sl]<;>omega))) (Ret.pos (by rw [hll]; simp) ?_))
    cases ht8 : leI (rLo x) (rHi b) with
    | true =>
     have h8 : rLo x ≤ rHi b := by rw [leI_eq, decide_eq_true_eq] at ht8; exact ht8
     refine Ret.tail (P := fun x' g => x' = 0 ∧ g = [.l srt, .l (L ++ [[.i (rLo b), .i (if rHi x > rHi b then rHi x else rHi b)]]), .i (srt.length : Int), .i (i : Int)]) ⟨_, join_old srt L b hbR (rLo x) (rHi x) _ _, 0, rfl, rfl, rfl⟩ (by simp) ?_
     rintro _ _ ⟨rfl, rfl⟩
     (dsimp +instances only [Aa,Ab,Ac,Ad,Ae,Af,Ag])
     (repeat first|refine Ret.p ?_|refine Ret.n ?_)
     obtain ⟨g1, g2⟩ := canR_grow s0 hX hbx h8 (m := if rHi x > rHi b then rHi x else rHi b) (by split <;> omega)
     refine Ret.some ⟨_, by simp, g1, fun n => ?_, fun a ha => ?_, by simp at s3 ⊢; omega⟩
     ·rw [g2, s1, ht, memR_snoc]
     ·rw [ht]
      rcases List.mem_append.1 ha with ha | ha
      ·obtain ⟨r, hr', e⟩ := s2 a (List.mem_append_left _ ha)
       exact ⟨r, List.mem_append_left _ hr', e⟩
      ·rw [List.mem_singleton.1 ha]
       obtain ⟨r, hr', e⟩ := s2 b (by simp)
       exact ⟨r, List.mem_append_left _ hr', e⟩
    | false =>
     have h8 : rHi b < rLo x := by rw [leI_eq, decide_eq_false_iff_not] at ht8; omega
     refine Ret.tail (P := fun x' g => x' = 0 ∧ g = [.l srt, .l ((L ++ [b]) ++ [[.i (rLo x), .i (rHi x)]]), .i (srt.length : Int), .i (i : Int)]) ⟨_, join_new srt (L ++ [b]) (rLo x) (rHi x) _ _ _ (by omega), 0, rfl, rfl, rfl⟩ (by simp) ?_
     rintro _ _ ⟨rfl, rfl⟩
     (dsimp +instances only [Aa,Ab,Ac,Ad,Ae,Af,Ag])
     (repeat first|refine Ret.p ?_|refine Ret.n ?_)
     refine Ret.some ⟨(L ++ [b]) ++ [[.i (rLo x), .i (rHi x)]], by simp, ?_⟩
     have := new (canR_snoc.2 ⟨s0, fun a ha => ?_, hX⟩)
     ·simpa using this
     ·rcases List.mem_append.1 ha with ha | ha
      ·have := (canR_snoc.1 s0).2.1 a ha
       have := hbR.2
       omega
      ·rw [List.mem_singleton.1 ha]
       exact h8)
  (fun s hI => by
   unfold st_band_joined_4
   (dsimp +instances only [Aa,Ab,Ac,Ad,Ae,Af,Ag])
   (repeat first|refine Ret.p ?_|refine Ret.n ?_)
   exact Ret.some rfl)
 refine Ret.loop r (by (first|rfl|assumption|(simp only [inI,sl]<;>omega))) ?_
 rintro _ _ ⟨out, ⟨q1, q2, q3, q4⟩, rfl, rfl⟩
 (dsimp +instances only [Aa,Ab,Ac,Ad,Ae,Af,Ag])
 refine Ret.p (Ret.some ⟨srt, out, rfl, rfl, q1, by omega, fun n => ?_⟩)
 rw [q2, List.take_length]
 exact memR_perm hp n
theorem has_runs (k : Int) : ∀ (q p : List (List G)), p.length + q.length < 100000 →
  RetN st_sl_Index_int_2 [.l (p ++ q), .i k, .i ((p ++ q).length : Nat), .i (p.length : Nat)] (q.length + 1) fun c g => (c = 0 ∧ (∃ r ∈ q, (gi r 0).int = k) ∧ ∃ j : Nat, g = [.i (j : Int)]) ∨ (c = 1 ∧ (∀ r ∈ q, (gi r 0).int ≠ k) ∧ g = [])
 | [], p, hl => by
  refine RetN.stop (x := 1) (d' := []) (Ret.toEq ?_) (.inr ⟨rfl, by simp, rfl⟩)
  unfold st_sl_Index_int_2
  (dsimp +instances only [Aa,Ab,Ac,Ad,Ae,Af,Ag])
  exact Ret.neg (by simp [ltI_eq]) (Ret.some rfl)
 | z :: q, p, hl => by
  simp only [List.length_cons] at hl
  have hlen : (p ++ z :: q).length = p.length + (q.length + 1) := by simp
  have hd : (p ++ z :: q).getD p.length [] = z := by simp
  by_cases e : k = (gi z 0).int
  ·refine RetN.stop (x := 0) (d' := [.i (p.length : Nat)]) (Ret.toEq ?_) (.inl ⟨rfl, ⟨z, by simp, e.symm⟩, _, rfl⟩)
   unfold st_sl_Index_int_2
   (dsimp +instances only [Aa,Ab,Ac,Ad,Ae,Af,Ag])
   simp only [Int.toNat_natCast, hd, hlen]
   exact Ret.p (Ret.p (Ret.pos (by simpa using e) (Ret.some rfl)))
  ·have ih := has_runs k q (p ++ [z]) (by simp; omega)
   have e1 : p ++ z :: q = (p ++ [z]) ++ q := by simp
   have e2 : (((p ++ [z]).length : Nat) : Int) = (p.length : Int) + 1 := by simp
   refine RetN.next (d1 := [.l ((p ++ [z]) ++ q), .i k, .i (((p ++ [z]) ++ q).length : Nat), .i ((p ++ [z]).length : Nat)]) (Ret.toEq ?_) (ih.mono ?_)
   ·unfold st_sl_Index_int_2
    (dsimp +instances only [Aa,Ab,Ac,Ad,Ae,Af,Ag])
    rw [← e1, e2]
    simp only [Int.toNat_natCast, hd, hlen]
    exact Ret.p (Ret.p (Ret.neg (by simpa using e) (Ret.p (Ret.some rfl))))
   ·rintro c g (⟨rfl, ⟨r, h1, h2⟩, h3⟩ | ⟨rfl, h, rfl⟩)
    ·exact .inl ⟨rfl, ⟨r, by simp [h1], h2⟩, h3⟩
    ·refine .inr ⟨rfl, fun r hr => ?_, rfl⟩
     rcases List.mem_cons.1 hr with rfl | hr
     ·exact fun h => e h.symm
     ·exact h r hr
def hasI (ms : List (List G)) (k : Int) : Bool := ms.any fun z => (gi z 0).int == k
theorem hasI_eq (ms : List (List G)) (k : Int) (hl : ms.length < 100000) : F_sl_Contains_int [.l ms, .i k] = some [.t (hasI ms k)] := by
 refine Ret.toEq ?_
 unfold F_sl_Contains_int
 (dsimp +instances only [Aa,Ab,Ac,Ad,Ae,Af,Ag])
 refine Ret.call (P := fun g => (∃ j : Nat, g = [.i (j : Int)] ∧ hasI ms k = true) ∨ (g = [.i (-1)] ∧ hasI ms k = false)) ?_ ?_
 ·unfold F_sl_Index_int
  (dsimp +instances only [Aa,Ab,Ac,Ad,Ae,Af,Ag])
  have h := has_runs k ms [] (by simpa using hl)
  simp only [List.nil_append, List.length_nil] at h
  refine Ret.loop (h.to (by omega)) rfl ?_
  rintro c g (⟨rfl, ⟨r, h1, h2⟩, j, rfl⟩ | ⟨rfl, hx, rfl⟩)
  ·exact Ret.pos rfl (Ret.some (.inl ⟨j, rfl, List.any_eq_true.2 ⟨r, h1, by simpa using h2⟩⟩))
  ·exact Ret.neg rfl (Ret.some (.inr ⟨rfl, List.any_eq_false.2 fun r hr => by simpa using hx r hr⟩))
 ·rintro g (⟨j, rfl, hx⟩ | ⟨rfl, hx⟩)
  ·rw [hx]
   refine Ret.some ?_
   simp [Aa, Ae, leI_eq]
  ·rw [hx]
   exact Ret.some rfl
def inT (f t at_ : Int) : Bool := leI f at_ && ltI at_ t
theorem has_ok (f t at_ : Int) : F_kit_Has [.l [[.i f, .i t]], .i at_] = some [.t (inT f t at_)] := by
 refine Ret.toEq ?_
 unfold F_kit_Has inT
 (dsimp +instances only [Aa,Ab,Ac,Ad,Ae,Af,Ag])
 cases leI f at_ with
 | true => exact Ret.pos rfl (Ret.some rfl)
 | false => exact Ret.neg rfl (Ret.some rfl)
def segFor (c : ByteArray) (mode at_ : Int) (x : List G) : Bool := ((gi x 0).str.toList == c.toList) && ((mode == 0) || hasI (gi x 3).rows mode) && inT (gi x 4).int (gi x 5).int at_
def segRow (x : List G) : List G := [.i (gi x 1).int, .i (gi x 2).int]
def permR (segs : List (List G)) (c : ByteArray) (mode at_ : Int) : List (List G) := (segs.filter (segFor c mode at_)).map segRow
theorem permR_snoc (l : List (List G)) (x : List G) (c : ByteArray) (mode at_ : Int) : permR (l ++ [x]) c mode at_ = permR l c mode at_ ++ bif segFor c mode at_ x then [segRow x] else [] := by
 unfold permR
 rw [List.filter_append, List.map_append]
 cases h : segFor c mode at_ x <;> simp [h]
theorem permR_row {segs : List (List G)} {c : ByteArray} {mode at_ : Int} (hs : ∀ z ∈ segs, Seg z) (h : faultSegs segs = 0) : ∀ y ∈ permR segs c mode at_, RowB y ∧ 0 ≤ rLo y ∧ rHi y ≤ 30000000000 := by
 intro y hy
 obtain ⟨x, hx, rfl⟩ := List.mem_map.1 hy
 have hx := (List.mem_filter.1 hx).1
 obtain ⟨h1, h2, h3⟩ := okHz_iff.1 (segs_right h x hx).1
 have e1 : rLo (segRow x) = (gi x 1).int := rfl
 have e2 : rHi (segRow x) = (gi x 2).int := rfl
 refine ⟨⟨isR_mk h2, ?_, ?_⟩, ?_, ?_⟩ <;> omega
theorem permitted_ok (segs : List (List G)) (c : ByteArray) (mode at_ : Int) (hs : ∀ z ∈ segs, Seg z) (hn : segs.length ≤ 500) (h : faultSegs segs = 0) :
  Ret (F_band_permitted [.l segs, .s c, .i mode, .i at_]) fun g => ∃ out, g = [.l out] ∧ CanR out ∧ out.length ≤ segs.length ∧ ∀ n, memR out n ↔ memR (permR segs c mode at_) n := by
 unfold F_band_permitted
 (dsimp +instances only [Aa,Ab,Ac,Ad,Ae,Af,Ag])
 have r := range_all (st := st_band_permitted_3) (σ := List (List G)) (fun s i => [.l s, .s c, .i mode, .i at_, .l segs, .i (segs.length : Int), .i (i : Int)]) segs (fun s => (0, [.l s])) (fun s i => s = permR (segs.take i) c mode at_ ∧ s.length ≤ i) [] (by omega) ⟨rfl, by simp⟩
  (fun s i x ⟨s0, s1⟩ hi hx hm ht => by
   obtain ⟨k, lo, hz, ms, f, t, hx', hc, hlo, hhi, hms, hml, hf, htt⟩ := hs x hm
   have fx : segFor c mode at_ x = ((k.toList == c.toList) && ((mode == 0) || hasI ms mode) && inT f t at_) := by
    rw [hx']
    rfl
   have yes : segFor c mode at_ x = true → s ++ [[.i lo, .i hz]] = permR (segs.take (i + 1)) c mode at_ ∧ (s ++ [[G.i lo, .i hz]]).length ≤ i + 1 := fun hy => by
    rw [ht, permR_snoc, hy, ← s0, hx']
    exact ⟨rfl, by simp; omega⟩
   have no : segFor c mode at_ x = false → s = permR (segs.take (i + 1)) c mode at_ ∧ s.length ≤ i + 1 := fun hy => by
    rw [ht, permR_snoc, hy, ← s0]
    exact ⟨by simp, by omega⟩
   unfold st_band_permitted_3
   (dsimp +instances only [Aa,Ab,Ac,Ad,Ae,Af,Ag])
   simp only [Int.toNat_natCast, hx]
   rw [hx'] at *
   (dsimp +instances only [Aa,Ab,Ac,Ad,Ae,Af,Ag])
   refine Ret.p (Ret.p ?_)
   rw [fx] at yes no
   cases h1 : (k.toList == c.toList) with
   | false =>
    rw [h1] at no
    refine Ret.neg rfl ?_
    (repeat first|refine Ret.p ?_|refine Ret.n ?_)
    exact Ret.some ⟨s, by simp, no rfl⟩
   | true =>
   rw [h1] at yes no
   refine Ret.pos rfl ?_
   cases h2 : (mode == 0) with
   | true =>
    rw [h2] at yes no
    refine Ret.pos rfl ?_
    refine Ret.cE (has_ok _ _ _) ?_
    (dsimp +instances only [Aa,Ab,Ac,Ad,Ae,Af,Ag])
    cases h3 : inT f t at_ with
    | true =>
     rw [h3] at yes
     refine Ret.pos rfl ?_
     (repeat first|refine Ret.p ?_|refine Ret.n ?_)
     exact Ret.some ⟨_, by simp, yes rfl⟩
    | false =>
     rw [h3] at no
     refine Ret.neg rfl ?_
     (repeat first|refine Ret.p ?_|refine Ret.n ?_)
     exact Ret.some ⟨s, by simp, no rfl⟩
   | false =>
    rw [h2] at yes no
    refine Ret.neg rfl ?_
    refine Ret.cE (hasI_eq ms mode (by omega)) ?_
    (dsimp +instances only [Aa,Ab,Ac,Ad,Ae,Af,Ag])
    cases h4 : hasI ms mode with
    | false =>
     rw [h4] at no
     refine Ret.neg rfl ?_
     (repeat first|refine Ret.p ?_|refine Ret.n ?_)
     exact Ret.some ⟨s, by simp, no rfl⟩
    | true =>
     rw [h4] at yes no
     refine Ret.pos rfl ?_
     refine Ret.cE (has_ok _ _ _) ?_
     (dsimp +instances only [Aa,Ab,Ac,Ad,Ae,Af,Ag])
     cases h3 : inT f t at_ with
     | true =>
      rw [h3] at yes
      refine Ret.pos rfl ?_
      (repeat first|refine Ret.p ?_|refine Ret.n ?_)
      exact Ret.some ⟨_, by simp, yes rfl⟩
     | false =>
      rw [h3] at no
      refine Ret.neg rfl ?_
      (repeat first|refine Ret.p ?_|refine Ret.n ?_)
      exact Ret.some ⟨s, by simp, no rfl⟩)
  (fun s hI => by
   unfold st_band_permitted_3
   (dsimp +instances only [Aa,Ab,Ac,Ad,Ae,Af,Ag])
   (repeat first|refine Ret.p ?_|refine Ret.n ?_)
   exact Ret.some rfl)
 refine Ret.loop r rfl ?_
 rintro _ _ ⟨s, ⟨q1, q2⟩, rfl, rfl⟩
 (dsimp +instances only [Aa,Ab,Ac,Ad,Ae,Af,Ag])
 rw [List.take_length] at q1
 subst q1
 refine Ret.callb (joined_ok _ (fun y hy => (permR_row hs h y hy).1) (by omega)) (by (first|rfl|assumption|(simp only [inI,sl]<;>omega))) ?_
 rintro _ ⟨srt, out, rfl, g1, g2, g3, g4⟩
 (dsimp +instances only [Aa,Ab,Ac,Ad,Ae,Af,Ag])
 exact Ret.some ⟨out, rfl, g2, by omega, g4⟩
/-! ### Rows without others -/
theorem without_in (l others out : List (List G)) (a b n i : Int) (hO : CanR others) (hn : others.length ≤ 2000) (hc : CanR out) (hg : ∀ s ∈ out, rHi s < a) (hl : out.length ≤ 500000) :
  RetL st_band_without_f_7 [.l out, .i a, .i b, .l others, .i a, .l l, .i n, .i i, .l others, .i (others.length : Int), .i 0] fun c g => c = 0 ∧ ∃ ps f, g = [.l (out ++ ps), .i a, .i b, .l others, .i f, .l l, .i n, .i i] ∧ CutI out a b others ps f := by
 have r := range_all (st := st_band_without_f_7) (σ := List (List G) × Int) (fun s j => [.l (out ++ s.1), .i a, .i b, .l others, .i s.2, .l l, .i n, .i i, .l others, .i (others.length : Int), .i (j : Int)]) others
  (fun s => (0, [.l (out ++ s.1), .i a, .i b, .l others, .i s.2, .l l, .i n, .i i])) (fun s j => CutI out a b (others.take j) s.1 s.2) ([], a) (by omega) (by simpa using cutI_start hc hg)
  (fun s j x hI hj hx hm ht => by
   obtain ⟨ps, f⟩ := s
   simp only at hI
   have hX := hO.1 x hm
   have hmany := hI.many
   have hos : ∀ s ∈ others.take j, rHi s < rLo x := fun s hs' => by
    have hp := List.pairwise_append.1 (ht ▸ (hO.2.sublist (List.take_sublist (j + 1) others)) : (others.take j ++ [x]).Pairwise fun r s => rHi r < rLo s)
    exact hp.2.2 s hs' x (by simp)
   have hps : ps.length ≤ j := by
    rw [List.length_take] at hmany
    omega
   have hlen : (out ++ ps).length ≤ 600000 := by simp; omega
   unfold st_band_without_f_7
   (dsimp +instances only [Aa,Ab,Ac,Ad,Ae,Af,Ag])
   simp only [Int.toNat_natCast, hx]
   rw [ht]
   refine Ret.p (Ret.p ?_)
   by_cases h1 : rHi x ≤ f
   ·refine Ret.p ?_
    (repeat first|refine Ret.p ?_|refine Ret.n ?_)
    exact Ret.some ⟨(ps, f), by simp, cutI_skip hI hX hos (.inl h1)⟩
   ·refine Ret.n ?_
    by_cases h2 : b ≤ rLo x
    ·refine Ret.p ?_
     (repeat first|refine Ret.p ?_|refine Ret.n ?_)
     exact Ret.some ⟨(ps, f), by simp, cutI_skip hI hX hos (.inr h2)⟩
    ·refine Ret.n ?_
     by_cases h3 : f < rLo x
     ·refine Ret.p ?_
      (repeat first|refine Ret.p ?_|refine Ret.n ?_)
      exact Ret.some ⟨(ps ++ [[.i f, .i (rLo x)]], rHi x), by simp, cutI_left hI hX (by omega) h3⟩
     ·refine Ret.n ?_
      (repeat first|refine Ret.p ?_|refine Ret.n ?_)
      exact Ret.some ⟨(ps, rHi x), by simp, cutI_none hI hX hos (by omega) (by omega)⟩)
  (fun s hI => by
   unfold st_band_without_f_7
   (dsimp +instances only [Aa,Ab,Ac,Ad,Ae,Af,Ag])
   (repeat first|refine Ret.p ?_|refine Ret.n ?_)
   exact Ret.some rfl)
 rw [List.append_nil] at r
 refine r.mono ?_
 rintro _ _ ⟨⟨ps, f⟩, hI, rfl, rfl⟩
 rw [List.take_length] at hI
 exact ⟨rfl, ps, f, rfl, hI⟩
theorem half_ok (w : Int) (hw : 0 ≤ w) : 0 ≤ Int.tdiv w 2 ∧ 2 * Int.tdiv w 2 ≤ w ∧ w ≤ 2 * Int.tdiv w 2 + 1 := by
 rw [Int.tdiv_eq_ediv_of_nonneg hw]
 omega
def useR (h d : Int) : List G := [.i (h - Int.tdiv d 2), .i (h - Int.tdiv d 2 + d)]
theorem used_ok (h d : Int) (h1 : b40 h) (h2 : 0 ≤ d) (h3 : d ≤ 1099511627776) : F_band_used [.i h, .i d] = some [.l [useR h d]] := by
 obtain ⟨g1, g2, g3⟩ := half_ok d h2
 unfold b40 at h1
 refine Ret.toEq ?_
 unfold F_band_used
 (dsimp +instances only [Aa,Ab,Ac,Ad,Ae,Af,Ag])
 (repeat first|refine Ret.p ?_|refine Ret.n ?_)
 exact Ret.some rfl
/-! ### What is wrong with what is asked -/
def freeFlt (segs bus : List (List G)) (c : ByteArray) (mode width at_ : Int) : Int :=
 if faultSegs segs ≠ 0 then faultSegs segs else if faultBusy bus ≠ 0 then faultBusy bus else if okClass c = false then 5 else if inB mode 1 3 = false then 4 else if inB width 1 100000 = false then 1 else if inB at_ 0 345686399999 = false then 1 else 0
theorem freeFault_ok (segs bus : List (List G)) (c : ByteArray) (mode width at_ : Int) (hs : ∀ z ∈ segs, Seg z) (hb : ∀ z ∈ bus, Bsy z) (hc : c ∈ classes) :
  F_band_freeFault [.l segs, .l bus, .s c, .i mode, .i width, .i at_] = some [.i (freeFlt segs bus c mode width at_)] := by
 refine Ret.toEq ?_
 unfold F_band_freeFault freeFlt
 (dsimp +instances only [Aa,Ab,Ac,Ad,Ae,Af,Ag])
 refine Ret.cE (checkSegs_ok segs hs) ?_
 (dsimp +instances only [Aa,Ab,Ac,Ad,Ae,Af,Ag])
 by_cases h1 : faultSegs segs = 0
 rotate_left
 ·rw [if_pos h1]
  exact Ret.pos (by simpa using h1) (Ret.some rfl)
 rw [if_neg (by simpa using h1)]
 refine Ret.neg (by simpa using h1) ?_
 refine Ret.cE (checkBusy_ok bus hb) ?_
 (dsimp +instances only [Aa,Ab,Ac,Ad,Ae,Af,Ag])
 by_cases h2 : faultBusy bus = 0
 rotate_left
 ·rw [if_pos h2]
  exact Ret.pos (by simpa using h2) (Ret.some rfl)
 rw [if_neg (by simpa using h2)]
 refine Ret.neg (by simpa using h2) ?_
 refine Ret.cE (isClass_eq hc) ?_
 (dsimp +instances only [Aa,Ab,Ac,Ad,Ae,Af,Ag])
 cases okClass c with
 | false => exact Ret.pos rfl (Ret.some rfl)
 | true =>
 refine Ret.neg rfl ?_
 refine Ret.cE (isModeX _) ?_
 (dsimp +instances only [Aa,Ab,Ac,Ad,Ae,Af,Ag])
 cases inB mode 1 3 with
 | false => exact Ret.pos rfl (Ret.some rfl)
 | true =>
 refine Ret.neg rfl ?_
 refine Ret.cE (outside_eq _ _ _) ?_
 (dsimp +instances only [Aa,Ab,Ac,Ad,Ae,Af,Ag])
 cases inB width 1 100000 with
 | false => exact Ret.pos rfl (Ret.some rfl)
 | true =>
 refine Ret.neg rfl ?_
 refine Ret.cE (isMomentX _) ?_
 (dsimp +instances only [Aa,Ab,Ac,Ad,Ae,Af,Ag])
 cases inB at_ 0 345686399999 with
 | false => exact Ret.pos rfl (Ret.some rfl)
 | true => exact Ret.neg rfl (Ret.some rfl)
/-! ### What is free -/
theorem perm_bound {segs out : List (List G)} {c : ByteArray} {mode at_ : Int} (hs : ∀ z ∈ segs, Seg z) (h : faultSegs segs = 0) (hc : CanR out) (hm : ∀ n, memR out n ↔ memR (permR segs c mode at_) n) : ∀ r ∈ out, IsR r ∧ 0 ≤ rLo r ∧ rHi r ≤ 30000000000 := by
 intro r hr
 have hR := hc.1 r hr
 obtain ⟨y, hy, h1, h2⟩ := (hm (rLo r)).1 ⟨r, hr, Int.le_refl _, hR.2⟩
 obtain ⟨z, hz, h3, h4⟩ := (hm (rHi r - 1)).1 ⟨r, hr, by have := hR.2; omega, by omega⟩
 have := (permR_row hs h y hy).2
 have := (permR_row hs h z hz).2
 exact ⟨hR, by omega, by omega⟩
def onAir (at_ : Int) (x : List G) : Bool := inT (gi x 3).int (gi x 4).int at_
def meets (bus : List (List G)) (width at_ n : Int) : Prop := ∃ b ∈ bus, onAir at_ b = true ∧ rLo (useR (gi b 1).int (gi b 2).int) < n - Int.tdiv width 2 + width ∧ n - Int.tdiv width 2 < rHi (useR (gi b 1).int (gi b 2).int)
def fits (rows : List (List G)) (width n : Int) : Prop := ∃ r ∈ rows, rLo r ≤ n - Int.tdiv width 2 ∧ n - Int.tdiv width 2 + width ≤ rHi r
theorem fits_snoc (l : List (List G)) (x : List G) (width n : Int) : fits (l ++ [x]) width n ↔ fits l width n ∨ (rLo x ≤ n - Int.tdiv width 2 ∧ n - Int.tdiv width 2 + width ≤ rHi x) := by
 constructor
 ·rintro ⟨r, hr, h⟩
  rcases List.mem_append.1 hr with hr | hr
  ·exact .inl ⟨r, hr, h⟩
  ·rw [List.mem_singleton.1 hr] at h
   exact .inr h
 ·rintro (⟨r, hr, h⟩ | h)
  ·exact ⟨r, List.mem_append_left _ hr, h⟩
  ·exact ⟨x, by simp, h⟩
theorem meets_snoc (l : List (List G)) (x : List G) (width at_ n : Int) : meets (l ++ [x]) width at_ n ↔ meets l width at_ n ∨ (onAir at_ x = true ∧ rLo (useR (gi x 1).int (gi x 2).int) < n - Int.tdiv width 2 + width ∧ n - Int.tdiv width 2 < rHi (useR (gi x 1).int (gi x 2).int)) := by
 constructor
 ·rintro ⟨r, hr, h⟩
  rcases List.mem_append.1 hr with hr | hr
  ·exact .inl ⟨r, hr, h⟩
  ·rw [List.mem_singleton.1 hr] at h
   exact .inr h
 ·rintro (⟨r, hr, h⟩ | h)
  ·exact ⟨r, List.mem_append_left _ hr, h⟩
  ·exact ⟨x, by simp, h⟩
theorem free_may (bus P : List (List G)) (width at_ : Int) (hw0 : 1 ≤ width) (hw1 : width ≤ 100000) (hP : ∀ r ∈ P, IsR r ∧ 0 ≤ rLo r ∧ rHi r ≤ 30000000000) (hn : P.length ≤ 500) :
  RetL st_band_free_f_3 [.l [], .l [], .l bus, .i width, .i at_, .l P, .i (P.length : Int), .i 0] fun c g => c = 0 ∧ ∃ may, g = [.l may, .l [], .l bus, .i width, .i at_] ∧ (∀ y ∈ may, RowB y) ∧ may.length ≤ P.length ∧ ∀ n, memR may n ↔ fits P width n := by
 obtain ⟨g1, g2, g3⟩ := half_ok width (by omega)
 have r := range_all (st := st_band_free_f_3) (σ := List (List G)) (fun s i => [.l s, .l [], .l bus, .i width, .i at_, .l P, .i (P.length : Int), .i (i : Int)]) P (fun s => (0, [.l s, .l [], .l bus, .i width, .i at_]))
  (fun s i => (∀ y ∈ s, RowB y) ∧ s.length ≤ i ∧ ∀ n, memR s n ↔ fits (P.take i) width n) [] (by omega) ⟨by simp, by simp, fun n => by simp [memR, fits]⟩
  (fun s i x ⟨s0, s1, s2⟩ hi hx hm ht => by
   obtain ⟨hX, hx0, hx1⟩ := hP x hm
   have hX2 := hX.2
   unfold st_band_free_f_3
   (dsimp +instances only [Aa,Ab,Ac,Ad,Ae,Af,Ag])
   simp only [Int.toNat_natCast, hx]
   have b1 : (gi x 0).int = rLo x := rfl
   have b2 : (gi x 1).int = rHi x := rfl
   rw [b1, b2]
   generalize hh : Int.tdiv width 2 = h at *
   refine Ret.p (Ret.p (Ret.p ?_))
   by_cases hle : width ≤ rHi x - rLo x
   ·refine Ret.p ?_
    (repeat first|refine Ret.p ?_|refine Ret.n ?_)
    refine Ret.some ⟨s ++ [[.i (rLo x + h), .i (rHi x - width + h + 1)]], by simp, fun y hy => ?_, by simp; omega, fun n => ?_⟩
    ·rcases List.mem_append.1 hy with hy | hy
     ·exact s0 y hy
     ·rw [List.mem_singleton.1 hy]
      have e1 : rLo [.i (rLo x + h), .i (rHi x - width + h + 1)] = rLo x + h := rfl
      have e2 : rHi [.i (rLo x + h), .i (rHi x - width + h + 1)] = rHi x - width + h + 1 := rfl
      refine ⟨isR_mk (by omega), ?_, ?_⟩
      ·rw [e1]; omega
      ·rw [e2]; omega
    ·rw [memR_snoc, s2, ht, fits_snoc, hh]
     have e1 : rLo [.i (rLo x + h), .i (rHi x - width + h + 1)] = rLo x + h := rfl
     have e2 : rHi [.i (rLo x + h), .i (rHi x - width + h + 1)] = rHi x - width + h + 1 := rfl
     rw [e1, e2]
     refine ⟨fun h' => h'.imp id fun h' => ⟨by omega, by omega⟩, fun h' => h'.imp id fun h' => ⟨by omega, by omega⟩⟩
   ·refine Ret.n ?_
    (repeat first|refine Ret.p ?_|refine Ret.n ?_)
    refine Ret.some ⟨s, by simp, s0, by omega, fun n => ?_⟩
    rw [s2, ht, fits_snoc, hh]
    refine ⟨.inl, fun h' => h'.elim id fun h' => ?_⟩
    omega)
  (fun s hI => by
   unfold st_band_free_f_3
   (dsimp +instances only [Aa,Ab,Ac,Ad,Ae,Af,Ag])
   (repeat first|refine Ret.p ?_|refine Ret.n ?_)
   exact Ret.some rfl)
 refine r.mono ?_
 rintro _ _ ⟨s, ⟨q0, q1, q2⟩, rfl, rfl⟩
 rw [List.take_length] at q2
 exact ⟨rfl, s, rfl, q0, q1, q2⟩
theorem free_oth (bus may : List (List G)) (width at_ : Int) (hw0 : 1 ≤ width) (hw1 : width ≤ 100000) (hb : ∀ z ∈ bus, Bsy z) (hf : faultBusy bus = 0) (hn : bus.length ≤ 500) :
  RetL st_band_free_f_9 [.l may, .l [], .i width, .i at_, .l bus, .i (bus.length : Int), .i 0] fun c g => c = 0 ∧ ∃ oth, g = [.l may, .l oth] ∧ (∀ y ∈ oth, RowB y) ∧ oth.length ≤ bus.length ∧ ∀ n, memR oth n ↔ meets bus width at_ n := by
 obtain ⟨g1, g2, g3⟩ := half_ok width (by omega)
 have r := range_all (st := st_band_free_f_9) (σ := List (List G)) (fun s i => [.l may, .l s, .i width, .i at_, .l bus, .i (bus.length : Int), .i (i : Int)]) bus (fun s => (0, [.l may, .l s]))
  (fun s i => (∀ y ∈ s, RowB y) ∧ s.length ≤ i ∧ ∀ n, memR s n ↔ meets (bus.take i) width at_ n) [] (by omega) ⟨by simp, by simp, fun n => by simp [memR, meets]⟩
  (fun s i x ⟨s0, s1, s2⟩ hi hx hm ht => by
   obtain ⟨k1, k2, k3, k4, _⟩ := busy_right hf x hm
   obtain ⟨w, h', d', f', t', ex, _⟩ := hb x hm
   have ha : onAir at_ x = inT (gi x 3).int (gi x 4).int at_ := rfl
   unfold st_band_free_f_9
   (dsimp +instances only [Aa,Ab,Ac,Ad,Ae,Af,Ag])
   simp only [Int.toNat_natCast, hx]
   refine Ret.p (Ret.p ?_)
   refine Ret.cE (has_ok _ _ _) ?_
   (dsimp +instances only [Aa,Ab,Ac,Ad,Ae,Af,Ag])
   rw [← ha]
   cases hon : onAir at_ x with
   | false =>
    refine Ret.neg rfl ?_
    (repeat first|refine Ret.p ?_|refine Ret.n ?_)
    refine Ret.some ⟨s, by simp, s0, by omega, fun n => ?_⟩
    rw [s2, ht, meets_snoc, hon]
    simp
   | true =>
    refine Ret.pos rfl ?_
    refine Ret.cE (used_ok _ _ ⟨by omega, by omega⟩ (by omega) (by omega)) ?_
    obtain ⟨j1, j2, j3⟩ := half_ok (gi x 2).int (by omega)
    have u1 : rLo (useR (gi x 1).int (gi x 2).int) = (gi x 1).int - Int.tdiv (gi x 2).int 2 := rfl
    have u2 : rHi (useR (gi x 1).int (gi x 2).int) = (gi x 1).int - Int.tdiv (gi x 2).int 2 + (gi x 2).int := rfl
    have u3 : (gi (useR (gi x 1).int (gi x 2).int) 0).int = (gi x 1).int - Int.tdiv (gi x 2).int 2 := rfl
    have u4 : (gi (useR (gi x 1).int (gi x 2).int) 1).int = (gi x 1).int - Int.tdiv (gi x 2).int 2 + (gi x 2).int := rfl
    (dsimp +instances only [Aa,Ab,Ac,Ad,Ae,Af,Ag])
    rw [u3, u4]
    generalize hA : (gi x 1).int - Int.tdiv (gi x 2).int 2 = A at *
    generalize hB : (gi x 2).int = B at *
    generalize hh : Int.tdiv width 2 = h at *
    (repeat first|refine Ret.p ?_|refine Ret.n ?_)
    refine Ret.some ⟨s ++ [[.i (A - width + h + 1), .i (A + B + h)]], by simp, fun y hy => ?_, by simp; omega, fun n => ?_⟩
    ·rcases List.mem_append.1 hy with hy | hy
     ·exact s0 y hy
     ·rw [List.mem_singleton.1 hy]
      have e1 : rLo [.i (A - width + h + 1), .i (A + B + h)] = A - width + h + 1 := rfl
      have e2 : rHi [.i (A - width + h + 1), .i (A + B + h)] = A + B + h := rfl
      refine ⟨isR_mk (by omega), ?_, ?_⟩
      ·rw [e1]; omega
      ·rw [e2]; omega
    ·rw [memR_snoc, s2, ht, meets_snoc, hon, hB, u1, u2, hh]
     have e1 : rLo [.i (A - width + h + 1), .i (A + B + h)] = A - width + h + 1 := rfl
     have e2 : rHi [.i (A - width + h + 1), .i (A + B + h)] = A + B + h := rfl
     rw [e1, e2]
     refine ⟨fun h' => h'.imp id fun h' => ⟨rfl, by omega, by omega⟩, fun h' => h'.imp id fun h' => ⟨by omega, by omega⟩⟩)
  (fun s hI => by
   unfold st_band_free_f_9
   (dsimp +instances only [Aa,Ab,Ac,Ad,Ae,Af,Ag])
   (repeat first|refine Ret.p ?_|refine Ret.n ?_)
   exact Ret.some rfl)
 refine r.mono ?_
 rintro _ _ ⟨s, ⟨q0, q1, q2⟩, rfl, rfl⟩
 rw [List.take_length] at q2
 exact ⟨rfl, s, rfl, q0, q1, q2⟩
/-! ### The nearest -/
/-! ### Bands -/
def b50 (n : Int) : Prop := -2000000000000000 ≤ n ∧ n ≤ 2000000000000000
def bkeys : List ByteArray := [⟨#[98, 49, 54, 48]⟩, ⟨#[98, 52, 48]⟩, ⟨#[98, 51, 48]⟩, ⟨#[98, 50, 48]⟩, ⟨#[]⟩]
def okB (s : ByteArray) : Bool := inL [⟨#[98, 49, 54, 48]⟩, ⟨#[98, 52, 48]⟩, ⟨#[98, 51, 48]⟩, ⟨#[98, 50, 48]⟩] s
theorem isKeyB {s : ByteArray} (h : s ∈ bkeys) : F_kit_IsKey [.s s] = some [.t (okB s)] := by
 simp only [bkeys, List.mem_cons, List.not_mem_nil, or_false] at h
 rcases h with (rfl | rfl | rfl | rfl | rfl) <;> kernel_rfl
def Bnd (r : List G) : Prop := ∃ (k : ByteArray) (lo hi : Int), r = [.s k, .i lo, .i hi] ∧ k ∈ bkeys ∧ b50 lo ∧ b50 hi
theorem Bnd.eta {r : List G} (h : Bnd r) : gEta KBand r = r := by
 obtain ⟨k, lo, hi, rfl, _⟩ := h
 rfl
theorem kdsBand : Kds KBand Bnd := ⟨fun _ h => h.eta⟩
def fourB : List (List G) := [[.s (⟨#[98, 49, 54, 48]⟩ : ByteArray), .i 1800000, .i 2000000], [.s (⟨#[98, 52, 48]⟩ : ByteArray), .i 7000000, .i 7300000], [.s (⟨#[98, 51, 48]⟩ : ByteArray), .i 7300000, .i 10150000], [.s (⟨#[98, 50, 48]⟩ : ByteArray), .i 14000000, .i 14350000]]
def keepB (f : Bool) (i : Nat) : List (List G) := bif f then [] else [fourB.getD i []]
def selB (f0 f1 f2 f3 : Bool) : List (List G) := ((([] ++ keepB f0 0) ++ keepB f1 1) ++ keepB f2 2) ++ keepB f3 3
theorem right_step (l : List (List G)) (a : Int) (out : List (List G)) (i : Nat) (ha : 0 ≤ a) (ha1 : a ≤ 900000) (hi : i < 4) (ho : out.length ≤ 100) :
  Ret (st_mk_RightBands_3 [.l l, .i a, .l out, .l fourB, .i 4, .i (i : Int)]) fun o => ∃ f, o = (none, [.l l, .i (a + 1), .l (out ++ keepB f i), .l fourB, .i 4, .i ((i + 1 : Nat) : Int)]) := by
 have h4 : fourB.length = 4 := rfl
 have he : gEta KBand (fourB.getD i []) = fourB.getD i [] := by
  have : i = 0 ∨ i = 1 ∨ i = 2 ∨ i = 3 := by omega
  rcases this with rfl | rfl | rfl | rfl <;> rfl
 unfold st_mk_RightBands_3
 (dsimp +instances only [Aa,Ab,Ac,Ad,Ae,Af,Ag])
 refine Ret.p (Ret.pos (by rw [h4]; (first|rfl|assumption|(simp only [inI,sl]<;>omega))) ?_)
 refine Ret.call (r_Flip l a 8 ha (by omega) (by omega) (by omega)) ?_
 rintro _ ⟨f, rfl⟩
 (dsimp +instances only [Aa,Ab,Ac,Ad,Ae,Af,Ag])
 simp only [Int.toNat_natCast, he]
 cases f with
 | false =>
  (repeat first|refine Ret.p ?_|refine Ret.n ?_)
  exact Ret.some ⟨false, by simp [keepB]⟩
 | true =>
  (repeat first|refine Ret.p ?_|refine Ret.n ?_)
  exact Ret.some ⟨true, by simp [keepB]⟩
theorem r_RightBands (l : List (List G)) (a : Int) (ha : 0 ≤ a) (ha1 : a ≤ 800000) :
  Ret (F_mk_RightBands [.l l, .i a]) fun g => ∃ f0 f1 f2 f3, g = [.l l, .i (a + 4), .l (selB f0 f1 f2 f3)] := by
 have hk : ∀ f i, (keepB f i).length ≤ 1 := by
  intro f i
  cases f <;> simp [keepB]
 obtain ⟨_, s0, f0, rfl⟩ := right_step l a [] 0 ha (by omega) (by omega) (by simp)
 obtain ⟨_, s1, f1, rfl⟩ := right_step l (a + 1) ([] ++ keepB f0 0) 1 (by omega) (by omega) (by omega) (by have := hk f0 0; simp; omega)
 obtain ⟨_, s2, f2, rfl⟩ := right_step l (a + 1 + 1) (([] ++ keepB f0 0) ++ keepB f1 1) 2 (by omega) (by omega) (by omega) (by have := hk f0 0; have := hk f1 1; simp; omega)
 obtain ⟨_, s3, f3, rfl⟩ := right_step l (a + 1 + 1 + 1) ((([] ++ keepB f0 0) ++ keepB f1 1) ++ keepB f2 2) 3 (by omega) (by omega) (by omega) (by have := hk f0 0; have := hk f1 1; have := hk f2 2; simp; omega)
 have s4 : st_mk_RightBands_3 [.l l, .i (a + 1 + 1 + 1 + 1), .l (selB f0 f1 f2 f3), .l fourB, .i 4, .i ((3 + 1 : Nat) : Int)] = some (some 0, [.l l, .i (a + 1 + 1 + 1 + 1), .l (selB f0 f1 f2 f3)]) := by
  refine Ret.toEq ?_
  unfold st_mk_RightBands_3
  (dsimp +instances only [Aa,Ab,Ac,Ad,Ae,Af,Ag])
  (repeat first|refine Ret.p ?_|refine Ret.n ?_)
  exact Ret.some rfl
 unfold F_mk_RightBands
 (dsimp +instances only [Aa,Ab,Ac,Ad,Ae,Af,Ag])
 refine Ret.loop (P := fun c g => c = 0 ∧ g = [.l l, .i (a + 1 + 1 + 1 + 1), .l (selB f0 f1 f2 f3)]) ((RetN.next s0 (RetN.next s1 (RetN.next s2 (RetN.next s3 (RetN.stop (m := 1) s4 ⟨rfl, rfl⟩))))).to (by omega)) rfl ?_
 rintro _ _ ⟨rfl, rfl⟩
 (dsimp +instances only [Aa,Ab,Ac,Ad,Ae,Af,Ag])
 (repeat first|refine Ret.p ?_|refine Ret.n ?_)
 exact Ret.some ⟨f0, f1, f2, f3, by rw [show a + 1 + 1 + 1 + 1 = a + 4 from by omega]⟩
theorem selB_Bnd (f0 f1 f2 f3 : Bool) : ∀ z ∈ selB f0 f1 f2 f3, Bnd z := by
 have hk : ∀ f i, i < 4 → ∀ z ∈ keepB f i, Bnd z := by
  intro f i hi z hz
  have h4 : i = 0 ∨ i = 1 ∨ i = 2 ∨ i = 3 := by omega
  cases f with
  | true => simp [keepB] at hz
  | false =>
   simp only [keepB, cond_false, List.mem_singleton] at hz
   subst hz
   rcases h4 with rfl | rfl | rfl | rfl <;> exact ⟨_, _, _, rfl, by simp [bkeys], by unfold b50; omega, by unfold b50; omega⟩
 intro z hz
 unfold selB at hz
 simp only [List.nil_append, List.mem_append] at hz
 rcases hz with ((hz | hz) | hz) | hz
 ·exact hk _ _ (by omega) z hz
 ·exact hk _ _ (by omega) z hz
 ·exact hk _ _ (by omega) z hz
 ·exact hk _ _ (by omega) z hz
theorem selB_length (f0 f1 f2 f3 : Bool) : (selB f0 f1 f2 f3).length ≤ 4 := by
 cases f0 <;> cases f1 <;> cases f2 <;> cases f3 <;> simp [selB, keepB]
/-! ### Spots -/
def Spt (r : List G) : Prop := ∃ (t h : Int) (c y : ByteArray), r = [.i t, .i h, .s c, .s y] ∧ b50 t ∧ b50 h ∧ c ∈ calls ∧ y ∈ calls
theorem Spt.eta {r : List G} (h : Spt r) : gEta KSpot r = r := by
 obtain ⟨t, h, c, y, rfl, _⟩ := h
 rfl
theorem kdsT : Kds KSpot Spt := ⟨fun _ h => h.eta⟩
def zT : List G := [.i 0, .i 0, .s (⟨#[]⟩ : ByteArray), .s (⟨#[]⟩ : ByteArray)]
def ordT (r s : List G) : Int := or2 (cmpI (gi r 0).int (gi s 0).int) (or2 (cmpI (gi r 1).int (gi s 1).int) (or2 (cmpS (gi r 2).str (gi s 2).str) (cmpS (gi r 3).str (gi s 3).str)))
theorem ordT_flip (r s : List G) : ordT s r = - ordT r s := or2_flip (ordrI.flip _ _) (or2_flip (ordrI.flip _ _) (or2_flip (ordrS.flip _ _) (ordrS.flip _ _)))
theorem ordT_le (a b d : List G) (h1 : ordT a b ≤ 0) (h2 : ordT b d ≤ 0) : ordT a d ≤ 0 :=
 or2_le ordrI _ _ _ _ _ _ h1 h2 fun g1 g2 => or2_le ordrI _ _ _ _ _ _ g1 g2 fun k1 k2 => or2_le ordrS _ _ _ _ _ _ k1 k2 fun m1 m2 => ordrS.le _ _ _ m1 m2
theorem ordT_lt (a b d : List G) (h1 : ordT a b < 0) (h2 : ordT b d < 0) : ordT a d < 0 :=
 or2_lt ordrI _ _ _ _ _ _ h1 h2 fun g1 g2 => or2_lt ordrI _ _ _ _ _ _ g1 g2 fun k1 k2 => or2_lt ordrS _ _ _ _ _ _ k1 k2 fun m1 m2 => ordrS.tr _ _ _ m1 m2
theorem linT : Lin (ltC ordT) (fun _ => True) := lin_of (fun a b => ordT_flip a b) ordT_le
theorem or2_z {a b : Int} (h : or2 a b = 0) : a = 0 ∧ b = 0 := by
 unfold or2 at h
 split at h
 ·rename_i h1
  exact (h1 h).elim
 ·rename_i h1
  exact ⟨by simpa using h1, h⟩
theorem ordT_zero {r s : List G} (hr : Spt r) (hs : Spt s) (h : ordT r s = 0) : r = s := by
 obtain ⟨t, k, c, b, rfl, _⟩ := hr
 obtain ⟨t', k', c', b', rfl, _⟩ := hs
 have e : ordT [.i t, .i k, .s c, .s b] [.i t', .i k', .s c', .s b'] = or2 (cmpI t t') (or2 (cmpI k k') (or2 (cmpS c c') (cmpS b b'))) := rfl
 rw [e] at h
 obtain ⟨h1, h⟩ := or2_z h
 obtain ⟨h2, h⟩ := or2_z h
 obtain ⟨h3, h4⟩ := or2_z h
 rw [cmpI_z.1 h1, cmpI_z.1 h2, cmpS_z.1 h3, cmpS_z.1 h4]
theorem cmpBytes_v : ∀ a b : List UInt8, Lib.compareBytes a b = -1 ∨ Lib.compareBytes a b = 0 ∨ Lib.compareBytes a b = 1
 | [], [] => .inr (.inl rfl)
 | [], _ :: _ => .inl rfl
 | _ :: _, [] => .inr (.inr rfl)
 | a :: u, b :: v => by
  simp only [Lib.compareBytes]
  split
  ·exact .inl rfl
  ·split
   ·exact .inr (.inr rfl)
   ·exact cmpBytes_v u v
theorem cmpStrX (a b : ByteArray) : F_cmp_Compare_string [.s a, .s b] = some [.i (cmpS a b)] := by
 have hn : ∀ x : ByteArray, F_cmp_isNaN_string [.s x] = some [.t false] := fun x => by
  show some [G.t (!(x.toList == x.toList))] = _
  simp
 have hL : Op.bytesLess a.toList b.toList = decide (cmpS a b < 0) := by
  rw [less_eq, ByteArray.toList_eq, ByteArray.toList_eq]
  rfl
 unfold F_cmp_Compare_string
 (dsimp +instances only [Aa,Ab,Ac,Ad,Ae,Af,Ag])
 rw [hn a, hn b]
 simp only [str_eq, hL]
 show (bif decide (cmpS a b < 0) then some [G.i (-1)] else bif !(decide (cmpS a b < 0) || decide (cmpS a b = 0)) then some [G.i 1] else some [G.i 0]) = some [.i (cmpS a b)]
 have hv : cmpS a b = -1 ∨ cmpS a b = 0 ∨ cmpS a b = 1 := cmpBytes_v _ _
 rcases hv with h | h | h <;> rw [h] <;> rfl
theorem cmpTwoX (a b c d : ByteArray) : F_sl_Compare_string [.l [[.s a], [.s b]], .l [[.s c], [.s d]]] = some [.i (or2 (cmpS a c) (cmpS b d))] := by
 have s0 := two_step a b c d a c 0 _ (cmpStrX a c) (by omega) rfl rfl
 have s1 := two_step a b c d b d 1 _ (cmpStrX b d) (by omega) rfl rfl
 refine Ret.toEq ?_
 unfold F_sl_Compare_string or2
 (dsimp +instances only [Aa,Ab,Ac,Ad,Ae,Af,Ag])
 by_cases e1 : cmpS a c = 0
 ·rw [if_pos e1] at s0
  rw [if_neg (by simpa using e1)]
  by_cases e2 : cmpS b d = 0
  ·rw [if_pos e2] at s1
   refine Ret.loop (P := fun k g => k = 1 ∧ g = [.l [[.s a], [.s b]], .l [[.s c], [.s d]]]) (RetN.to (m := 3) (RetN.next s0 (RetN.next s1 (RetN.stop (x := 1) (Ret.toEq ?_) ⟨rfl, rfl⟩))) (by omega)) rfl ?_
   ·unfold st_sl_Compare_string_2
    (dsimp +instances only [Aa,Ab,Ac,Ad,Ae,Af,Ag])
    refine Ret.neg rfl (Ret.some rfl)
   ·rintro _ _ ⟨rfl, rfl⟩
    exact Ret.some (by rw [e2])
  ·rw [if_neg e2] at s1
   refine Ret.loop (P := fun k g => k = 0 ∧ g = [.i (cmpS b d)]) (RetN.to (m := 3) (RetN.next s0 (RetN.stop s1 ⟨rfl, rfl⟩)) (by omega)) rfl ?_
   rintro _ _ ⟨rfl, rfl⟩
   exact Ret.some rfl
 ·rw [if_neg e1] at s0
  rw [if_pos e1]
  refine Ret.loop (P := fun k g => k = 0 ∧ g = [.i (cmpS a c)]) (RetN.to (m := 3) (RetN.stop s0 ⟨rfl, rfl⟩) (by omega)) rfl ?_
  rintro _ _ ⟨rfl, rfl⟩
  exact Ret.some rfl
theorem spotOrder_eq (r s : List G) : F_r2_SpotOrder [.l [r], .l [s]] = some [.i (ordT r s)] := by
 refine Ret.toEq ?_
 unfold F_r2_SpotOrder
 (dsimp +instances only [Aa,Ab,Ac,Ad,Ae,Af,Ag])
 refine Ret.cE (cmp2_eq _ _ _ _) ?_
 (dsimp +instances only [Aa,Ab,Ac,Ad,Ae,Af,Ag])
 unfold ordT
 refine Ret.test (fun h => ?_) fun h => ?_
 ·have h : or2 (cmpI (gi r 0).int (gi s 0).int) (cmpI (gi r 1).int (gi s 1).int) ≠ 0 := by simpa using h
  refine Ret.some ?_
  unfold or2 at h ⊢
  by_cases h1 : cmpI (gi r 0).int (gi s 0).int = 0
  ·rw [if_neg (by simpa using h1)] at h
   simp [h1, h]
  ·simp [h1]
 ·have h : or2 (cmpI (gi r 0).int (gi s 0).int) (cmpI (gi r 1).int (gi s 1).int) = 0 := by simpa using h
  obtain ⟨h1, h2⟩ := or2_z h
  refine Ret.cE (cmpTwoX _ _ _ _) ?_
  refine Ret.some ?_
  rw [h1, h2]
  simp [or2, gi, G.int]
theorem or_fourT (a b c d : Int) : F_cmp_Or_int [.l [[.i a], [.i b], [.i c], [.i d]]] = some [.i (or2 a (or2 b (or2 c d)))] := by
 refine Ret.toEq ?_
 unfold F_cmp_Or_int
 (dsimp +instances only [Aa,Ab,Ac,Ad,Ae,Af,Ag])
 have h := or_runs [[.i a], [.i b], [.i c], [.i d]] [] (by simp)
 refine Ret.loop (h.to (by simp)) (by (first|rfl|assumption|(simp only [inI,sl]<;>omega))) ?_
 rintro x g ⟨hx, rfl⟩
 have q : orL [[.i a], [.i b], [.i c], [.i d]] = or2 a (or2 b (or2 c d)) := by
  simp only [orL, or2]
  (dsimp +instances only [Aa,Ab,Ac,Ad,Ae,Af,Ag])
  by_cases h1 : a = 0 <;> by_cases h2 : b = 0 <;> by_cases h3 : c = 0 <;> by_cases h4 : d = 0 <;> simp [h1, h2, h3, h4]
 rw [q]
 (dsimp +instances only [Aa,Ab,Ac,Ad,Ae,Af,Ag])
 exact Ret.test (fun _ => Ret.some rfl) fun _ => Ret.some rfl
theorem compareSpots_eq (r s : List G) : F_band_compareSpots [.l [r], .l [s]] = some [.i (ordT r s)] := by
 refine Ret.toEq ?_
 unfold F_band_compareSpots ordT
 (dsimp +instances only [Aa,Ab,Ac,Ad,Ae,Af,Ag])
 refine Ret.cE (cmpInt_eq _ _) ?_
 refine Ret.cE (cmpInt_eq _ _) ?_
 refine Ret.cE (rfl : F_strings_Compare [.s (gi r 2).str, .s (gi s 2).str] = some [.i (cmpS (gi r 2).str (gi s 2).str)]) ?_
 refine Ret.cE (rfl : F_strings_Compare [.s (gi r 3).str, .s (gi s 3).str] = some [.i (cmpS (gi r 3).str (gi s 3).str)]) ?_
 (dsimp +instances only [Aa,Ab,Ac,Ad,Ae,Af,Ag])
 refine Ret.cE (or_fourT _ _ _ _) ?_
 exact Ret.some rfl
theorem cmpSpots : Cmp KSpot F_r2_SpotOrder Spt ordT := ⟨fun _ _ _ _ => spotOrder_eq _ _, fun _ h => h.eta⟩
theorem sortSpots_eq (rows : List (List G)) (hr : ∀ y ∈ rows, Spt y) (hn : rows.length ≤ 20) : F_srtS_Spot [.l rows] = some [.l (sortA (ltC ordT) rows)] :=
 sortF_eq cmpSpots rows hr hn
theorem loop_Spots (l : List (List G)) (n : Nat) (hn : n ≤ 20) : ∀ (k i : Nat) (a t : Int) (acc : List (List G)), i + k = n → 0 ≤ a → a ≤ 800000 → 0 ≤ t → t ≤ 20 * (i : Int) → a + 20 * (k : Int) ≤ 800000 → (∀ z ∈ acc, Spt z) → acc.length = i →
  RetN st_mk_Spots_4 [.l l, .i a, .l acc, .i t, .i (n : Int), .i (i : Int)] (k + 1) fun c g => c = 0 ∧ ∃ b rows, g = [.l l, .i b, .l rows] ∧ a ≤ b ∧ b ≤ a + 20 * k ∧ (∀ z ∈ rows, Spt z) ∧ rows.length = n
 | 0, i, a, t, acc, hi, ha, ha1, ht, ht1, hb, hQ, hl => by
  refine RetN.stop (x := 0) (Ret.toEq ?_) ⟨rfl, a, acc, rfl, by omega, by omega, hQ, by omega⟩
  unfold st_mk_Spots_4
  (dsimp +instances only [Aa,Ab,Ac,Ad,Ae,Af,Ag])
  (repeat first|refine Ret.p ?_|refine Ret.n ?_)
  exact Ret.some rfl
 | k + 1, i, a, t, acc, hi, ha, ha1, ht, ht1, hb, hQ, hl => by
  have key : Ret (st_mk_Spots_4 [.l l, .i a, .l acc, .i t, .i (n : Int), .i (i : Int)]) fun o => ∃ b r v, o = (none, [.l l, .i b, .l (acc ++ [r]), .i (t + v), .i (n : Int), .i ((i : Int) + 1)]) ∧ a ≤ b ∧ b ≤ a + 20 ∧ Spt r ∧ 0 ≤ v ∧ v ≤ 20 := by
   unfold st_mk_Spots_4
   (dsimp +instances only [Aa,Ab,Ac,Ad,Ae,Af,Ag])
   refine Ret.p ?_
   refine Ret.call (r_PickB 0 20 l a _ ha (by omega) (by kernel_rfl) (by kernel_rfl)) ?_
   rintro _ ⟨v, rfl, hv0, hv1⟩
   (dsimp +instances only [Aa,Ab,Ac,Ad,Ae,Af,Ag])
   refine Ret.p ?_
   refine Ret.call (r_PickB 0 20000000 l _ _ (by omega) (by omega) (by kernel_rfl) (by kernel_rfl)) ?_
   rintro _ ⟨h, rfl, hh0, hh1⟩
   (dsimp +instances only [Aa,Ab,Ac,Ad,Ae,Af,Ag])
   refine Ret.call (r_ACall l _ (by omega) (by omega)) ?_
   rintro _ ⟨c, rfl, hc⟩
   (dsimp +instances only [Aa,Ab,Ac,Ad,Ae,Af,Ag])
   refine Ret.call (r_SomeB calls l _ _ (by omega) (by omega) (by kernel_rfl) (by kernel_rfl)) ?_
   rintro _ ⟨y, rfl, hy⟩
   (dsimp +instances only [Aa,Ab,Ac,Ad,Ae,Af,Ag])
   refine Ret.call (r_Flip l _ 80 (by omega) (by omega) (by omega) (by omega)) ?_
   rintro _ ⟨f, rfl⟩
   (dsimp +instances only [Aa,Ab,Ac,Ad,Ae,Af,Ag])
   cases f with
   | false =>
    (repeat first|refine Ret.p ?_|refine Ret.n ?_)
    exact Ret.some ⟨_, _, v, rfl, by omega, by omega, ⟨_, _, _, _, rfl, by unfold b50; omega, by unfold b50; omega, hc, hy⟩, hv0, hv1⟩
   | true =>
    refine Ret.pos rfl ?_
    refine Ret.call (r_OddX l _ 0 100 (by omega) (by omega) (by omega) (by omega) (by omega)) ?_
    rintro _ ⟨t', rfl, ht'⟩
    (dsimp +instances only [Aa,Ab,Ac,Ad,Ae,Af,Ag])
    refine Ret.call (r_OddX l _ 0 30000000000 (by omega) (by omega) (by omega) (by omega) (by omega)) ?_
    rintro _ ⟨h', rfl, hh'⟩
    (dsimp +instances only [Aa,Ab,Ac,Ad,Ae,Af,Ag])
    refine Ret.call (r_SomeB calls l _ _ (by omega) (by omega) (by kernel_rfl) (by kernel_rfl)) ?_
    rintro _ ⟨y', rfl, hy'⟩
    (dsimp +instances only [Aa,Ab,Ac,Ad,Ae,Af,Ag])
    (repeat first|refine Ret.p ?_|refine Ret.n ?_)
    unfold b40 at ht' hh'
    exact Ret.some ⟨_, _, v, rfl, by omega, by omega, ⟨_, _, _, _, rfl, by unfold b50; omega, by unfold b50; omega, hc, hy'⟩, hv0, hv1⟩
  obtain ⟨_, h, b, r, v, rfl, h1, h2, h3, h4, h5⟩ := key
  have ih := loop_Spots l n hn k (i + 1) b (t + v) (acc ++ [r]) (by omega) (by omega) (by omega) (by omega) (by omega) (by omega) (by
   intro z hz
   rcases List.mem_append.1 hz with hz | hz
   ·exact hQ z hz
   ·simp at hz; exact hz ▸ h3) (by simp [hl])
  refine RetN.next h (ih.mono ?_)
  rintro c g ⟨rfl, b', rows, rfl, q1, q2, q3, q4⟩
  exact ⟨rfl, b', rows, rfl, by omega, by omega, q3, q4⟩
theorem r_Spots (l : List (List G)) (a n : Int) (ha : 0 ≤ a) (ha1 : a ≤ 700000) (h0 : 0 ≤ n) (h1 : n ≤ 20) :
  Ret (F_mk_Spots [.l l, .i a, .i n]) fun g => ∃ b rows, g = [.l l, .i b, .l rows] ∧ a ≤ b ∧ b ≤ a + 400 ∧ (∀ z ∈ rows, Spt z) ∧ (rows.length : Int) ≤ n := by
 obtain ⟨n, rfl⟩ := Int.eq_ofNat_of_zero_le h0
 unfold F_mk_Spots
 (dsimp +instances only [Aa,Ab,Ac,Ad,Ae,Af,Ag])
 refine Ret.loop ((loop_Spots l n (by omega) n 0 a 0 [] (by omega) ha (by omega) (by omega) (by omega) (by omega) (by simp) rfl).to (by omega)) rfl ?_
 rintro c g ⟨rfl, b, rows, rfl, q1, q2, q3, q4⟩
 (dsimp +instances only [Aa,Ab,Ac,Ad,Ae,Af,Ag])
 have hs := sortA_all (lt := ltC ordT) q3
 have hsl := sortA_length (ltC ordT) rows
 refine Ret.callb (Ret.eq (sortSpots_eq rows q3 (by omega))) (by (first|rfl|assumption|(simp only [inI,sl]<;>omega))) ?_
 rintro _ rfl
 (dsimp +instances only [Aa,Ab,Ac,Ad,Ae,Af,Ag])
 refine Ret.callb (P := fun g => ∃ J, g = [.l (compact (rowEq KSpot) (sortA (ltC ordT) rows) ++ J), .i ((compact (rowEq KSpot) (sortA (ltC ordT) rows)).length : Int)] ∧ (compact (rowEq KSpot) (sortA (ltC ordT) rows) ++ J).length = (sortA (ltC ordT) rows).length)
  (cmpcF_eq (Z := zT) kdsT _ hs (by omega)) (by rw [hsl]; simp) ?_
 rintro _ ⟨J, rfl, hJ⟩
 have hle : (compact (rowEq KSpot) (sortA (ltC ordT) rows)).length ≤ (sortA (ltC ordT) rows).length := compact_length _ _
 (dsimp +instances only [Aa,Ab,Ac,Ad,Ae,Af,Ag])
 simp only [Int.toNat_natCast]
 refine Ret.pos (by simp [Nat.ble_eq]) (Ret.some ?_)
 exact ⟨b, compact (rowEq KSpot) (sortA (ltC ordT) rows), by simp, by omega, by omega, fun z hz => hs z (compact_mem hz), by omega⟩
theorem momentY (t : Int) : F_r2_Moment [.i t] = some [.t (inB t 0 345686399999)] := by
 unfold F_r2_Moment
 (dsimp +instances only [Aa,Ab,Ac,Ad,Ae,Af,Ag])
 rw [in_eq]
 rfl
theorem isMomentY (t : Int) : F_kit_IsMoment [.i t] = some [.t (inB t 0 345686399999)] := by
 unfold F_kit_IsMoment
 (dsimp +instances only [Aa,Ab,Ac,Ad,Ae,Af,Ag])
 rw [outside_eq]
 show some [G.t (!(!inB t 0 345686399999))] = _
 rw [Bool.not_not]
/-! ### Spots -/
def faultT1 (x : List G) : Int :=
 bif !inB (gi x 0).int 0 345686399999 then 1 else bif !inB (gi x 1).int 0 30000000000 then 1 else bif !okCall (gi x 2).str then 3 else bif !okCall (gi x 3).str then 3 else 0
def stepT (rows : List (List G)) (i : Nat) : Int :=
 if faultT1 (rows.getD i []) ≠ 0 then faultT1 (rows.getD i []) else if 0 < i ∧ 0 ≤ ordT (rows.getD (i - 1) []) (rows.getD i []) then 7 else 0
def faultSpots (rows : List (List G)) : Int := if 2000 < rows.length then 2 else fw (stepT rows) rows.length
theorem spotsFault_step (rows : List (List G)) (hr : ∀ z ∈ rows, Spt z) (hn : rows.length ≤ 3000) (i : Nat) (hi : i < rows.length) :
  Ret (st_r2_SpotsFault_4 [.l rows, .l rows, .i (rows.length : Int), .i (i : Int)]) fun o => (stepT rows i = 0 ∧ o = (none, [.l rows, .l rows, .i (rows.length : Int), .i ((i + 1 : Nat) : Int)])) ∨ (stepT rows i ≠ 0 ∧ o = (some 0, [.i (stepT rows i)])) := by
 obtain ⟨t, h, c, y, hx, ht, hh, hc, hy⟩ := hr _ (getD_row hi)
 have hC : Spt (rows.getD i []) := hr _ (getD_row hi)
 have ef : faultT1 (rows.getD i []) = bif !inB t 0 345686399999 then 1 else bif !inB h 0 30000000000 then 1 else bif !okCall c then 3 else bif !okCall y then 3 else 0 := by
  rw [hx]
  rfl
 unfold st_r2_SpotsFault_4
 (dsimp +instances only [Aa,Ab,Ac,Ad,Ae,Af,Ag])
 simp only [Int.toNat_natCast, hC.eta]
 have f0 : (gi (rows.getD i []) 0).int = t := by rw [hx]; rfl
 have f1 : (gi (rows.getD i []) 1).int = h := by rw [hx]; rfl
 have f2 : (gi (rows.getD i []) 2).str = c := by rw [hx]; rfl
 have f3 : (gi (rows.getD i []) 3).str = y := by rw [hx]; rfl
 simp only [f0, f1, f2, f3]
 refine Ret.p (Ret.p ?_)
 refine Ret.cE (momentY t) ?_
 (dsimp +instances only [Aa,Ab,Ac,Ad,Ae,Af,Ag])
 refine Ret.test (fun h => ?_) fun h10 => ?_
 ·have e : stepT rows i = 1 := by
   unfold stepT
   rw [ef, h]
   rfl
  rw [e]
  exact Ret.some (.inr ⟨by omega, rfl⟩)
 rw [h10, cond_false] at ef
 refine Ret.cE (in_eq h 0 30000000000) ?_
 (dsimp +instances only [Aa,Ab,Ac,Ad,Ae,Af,Ag])
 refine Ret.test (fun h => ?_) fun h11 => ?_
 ·have e : stepT rows i = 1 := by
   unfold stepT
   rw [ef, h]
   rfl
  rw [e]
  exact Ret.some (.inr ⟨by omega, rfl⟩)
 rw [h11, cond_false] at ef
 refine Ret.cE (call_eq hc) ?_
 (dsimp +instances only [Aa,Ab,Ac,Ad,Ae,Af,Ag])
 refine Ret.test (fun h => ?_) fun h12 => ?_
 ·have e : stepT rows i = 3 := by
   unfold stepT
   rw [ef, h]
   rfl
  rw [e]
  exact Ret.some (.inr ⟨by omega, rfl⟩)
 rw [h12, cond_false] at ef
 refine Ret.cE (call_eq hy) ?_
 (dsimp +instances only [Aa,Ab,Ac,Ad,Ae,Af,Ag])
 refine Ret.test (fun h => ?_) fun h13 => ?_
 ·have e : stepT rows i = 3 := by
   unfold stepT
   rw [ef, h]
   rfl
  rw [e]
  exact Ret.some (.inr ⟨by omega, rfl⟩)
 rw [h13, cond_false] at ef
 have e : stepT rows i = if 0 < i ∧ 0 ≤ ordT (rows.getD (i - 1) []) (rows.getD i []) then 7 else 0 := by
  unfold stepT
  rw [ef, if_neg (by simp)]
 refine Ret.test (fun h => ?_) fun h => ?_
 ·simp only [ltI_eq, decide_eq_true_eq] at h
  have ei : ((i : Int) - 1).toNat = i - 1 := by omega
  have hy : Spt (rows.getD (i - 1) []) := hr _ (getD_row (by omega))
  simp only [ei, hy.eta]
  refine Ret.p (Ret.p ?_)
  refine Ret.cE (spotOrder_eq _ _) ?_
  (dsimp +instances only [Aa,Ab,Ac,Ad,Ae,Af,Ag])
  refine Ret.test (fun h7 => ?_) fun h7 => ?_
  ·simp only [leI_eq, decide_eq_true_eq] at h7
   rw [if_pos ⟨by omega, h7⟩] at e
   rw [e]
   exact Ret.some (.inr ⟨by omega, rfl⟩)
  ·simp only [leI_eq, decide_eq_false_iff_not] at h7
   rw [if_neg (fun h' => h7 h'.2)] at e
   refine Ret.p (Ret.some (.inl ⟨e, rfl⟩))
 ·simp only [ltI_eq, decide_eq_false_iff_not] at h
  rw [if_neg (by omega)] at e
  refine Ret.p (Ret.some (.inl ⟨e, rfl⟩))
theorem checkSpots_step (rows : List (List G)) (hr : ∀ z ∈ rows, Spt z) (hn : rows.length ≤ 3000) (i : Nat) (hi : i < rows.length) :
  Ret (st_band_CheckSpots_4 [.l rows, .l rows, .i (rows.length : Int), .i (i : Int)]) fun o => (stepT rows i = 0 ∧ o = (none, [.l rows, .l rows, .i (rows.length : Int), .i ((i + 1 : Nat) : Int)])) ∨ (stepT rows i ≠ 0 ∧ o = (some 0, [.i (stepT rows i)])) := by
 obtain ⟨t, h, c, y, hx, ht, hh, hc, hy⟩ := hr _ (getD_row hi)
 have hC : Spt (rows.getD i []) := hr _ (getD_row hi)
 have ef : faultT1 (rows.getD i []) = bif !inB t 0 345686399999 then 1 else bif !inB h 0 30000000000 then 1 else bif !okCall c then 3 else bif !okCall y then 3 else 0 := by
  rw [hx]
  rfl
 unfold st_band_CheckSpots_4
 (dsimp +instances only [Aa,Ab,Ac,Ad,Ae,Af,Ag])
 simp only [Int.toNat_natCast, hC.eta]
 have f0 : (gi (rows.getD i []) 0).int = t := by rw [hx]; rfl
 have f1 : (gi (rows.getD i []) 1).int = h := by rw [hx]; rfl
 have f2 : (gi (rows.getD i []) 2).str = c := by rw [hx]; rfl
 have f3 : (gi (rows.getD i []) 3).str = y := by rw [hx]; rfl
 simp only [f0, f1, f2, f3]
 refine Ret.p (Ret.p ?_)
 refine Ret.cE (isMomentY t) ?_
 (dsimp +instances only [Aa,Ab,Ac,Ad,Ae,Af,Ag])
 refine Ret.test (fun h => ?_) fun h10 => ?_
 ·have e : stepT rows i = 1 := by
   unfold stepT
   rw [ef, h]
   rfl
  rw [e]
  exact Ret.some (.inr ⟨by omega, rfl⟩)
 rw [h10, cond_false] at ef
 refine Ret.cE (outside_eq h 0 30000000000) ?_
 (dsimp +instances only [Aa,Ab,Ac,Ad,Ae,Af,Ag])
 refine Ret.test (fun h => ?_) fun h11 => ?_
 ·have e : stepT rows i = 1 := by
   unfold stepT
   rw [ef, h]
   rfl
  rw [e]
  exact Ret.some (.inr ⟨by omega, rfl⟩)
 rw [h11, cond_false] at ef
 refine Ret.cE (isCall_eq hc) ?_
 (dsimp +instances only [Aa,Ab,Ac,Ad,Ae,Af,Ag])
 refine Ret.test (fun h => ?_) fun h12 => ?_
 ·have e : stepT rows i = 3 := by
   unfold stepT
   rw [ef, h]
   rfl
  rw [e]
  exact Ret.some (.inr ⟨by omega, rfl⟩)
 rw [h12, cond_false] at ef
 refine Ret.cE (isCall_eq hy) ?_
 (dsimp +instances only [Aa,Ab,Ac,Ad,Ae,Af,Ag])
 refine Ret.test (fun h => ?_) fun h13 => ?_
 ·have e : stepT rows i = 3 := by
   unfold stepT
   rw [ef, h]
   rfl
  rw [e]
  exact Ret.some (.inr ⟨by omega, rfl⟩)
 rw [h13, cond_false] at ef
 have e : stepT rows i = if 0 < i ∧ 0 ≤ ordT (rows.getD (i - 1) []) (rows.getD i []) then 7 else 0 := by
  unfold stepT
  rw [ef, if_neg (by simp)]
 refine Ret.test (fun h => ?_) fun h => ?_
 ·simp only [ltI_eq, decide_eq_true_eq] at h
  have ei : ((i : Int) - 1).toNat = i - 1 := by omega
  have hy : Spt (rows.getD (i - 1) []) := hr _ (getD_row (by omega))
  simp only [ei, hy.eta]
  refine Ret.p (Ret.p ?_)
  refine Ret.cE (compareSpots_eq _ _) ?_
  (dsimp +instances only [Aa,Ab,Ac,Ad,Ae,Af,Ag])
  refine Ret.test (fun h7 => ?_) fun h7 => ?_
  ·simp only [leI_eq, decide_eq_true_eq] at h7
   rw [if_pos ⟨by omega, h7⟩] at e
   rw [e]
   exact Ret.some (.inr ⟨by omega, rfl⟩)
  ·simp only [leI_eq, decide_eq_false_iff_not] at h7
   rw [if_neg (fun h' => h7 h'.2)] at e
   refine Ret.p (Ret.some (.inl ⟨e, rfl⟩))
 ·simp only [ltI_eq, decide_eq_false_iff_not] at h
  rw [if_neg (by omega)] at e
  refine Ret.p (Ret.some (.inl ⟨e, rfl⟩))
theorem spotsFault_ok (rows : List (List G)) (hr : ∀ z ∈ rows, Spt z) : F_r2_SpotsFault [.l rows] = some [.i (faultSpots rows)] := by
 refine Ret.toEq ?_
 unfold F_r2_SpotsFault faultSpots
 (dsimp +instances only [Aa,Ab,Ac,Ad,Ae,Af,Ag])
 by_cases hn : 2000 < rows.length
 ·refine Ret.p ?_
  rw [if_pos hn]
  exact Ret.some rfl
 ·refine Ret.n ?_
  rw [if_neg hn]
  refine Ret.loop (fw_loop (fun i => [.l rows, .l rows, .i (rows.length : Int), .i (i : Int)]) rows.length (stepT rows) [] (by omega) (spotsFault_step rows hr (by omega)) ?_) rfl ?_
  ·unfold st_r2_SpotsFault_4
   (dsimp +instances only [Aa,Ab,Ac,Ad,Ae,Af,Ag])
   (repeat first|refine Ret.p ?_|refine Ret.n ?_)
   exact Ret.some rfl
  ·rintro _ _ (⟨rfl, h, rfl⟩ | ⟨rfl, rfl, _⟩)
   ·rw [h]
    exact Ret.some rfl
   ·exact Ret.some rfl
theorem checkSpots_ok (rows : List (List G)) (hr : ∀ z ∈ rows, Spt z) : F_band_CheckSpots [.l rows] = some [.i (faultSpots rows)] := by
 refine Ret.toEq ?_
 unfold F_band_CheckSpots faultSpots
 (dsimp +instances only [Aa,Ab,Ac,Ad,Ae,Af,Ag])
 by_cases hn : 2000 < rows.length
 ·refine Ret.p ?_
  rw [if_pos hn]
  exact Ret.some rfl
 ·refine Ret.n ?_
  rw [if_neg hn]
  refine Ret.loop (fw_loop (fun i => [.l rows, .l rows, .i (rows.length : Int), .i (i : Int)]) rows.length (stepT rows) [] (by omega) (checkSpots_step rows hr (by omega)) ?_) rfl ?_
  ·unfold st_band_CheckSpots_4
   (dsimp +instances only [Aa,Ab,Ac,Ad,Ae,Af,Ag])
   (repeat first|refine Ret.p ?_|refine Ret.n ?_)
   exact Ret.some rfl
  ·rintro _ _ (⟨rfl, h, rfl⟩ | ⟨rfl, rfl, _⟩)
   ·rw [h]
    exact Ret.some rfl
   ·exact Ret.some rfl
/-! ### Bands -/
def faultBn1 (x : List G) : Int :=
 bif !okB (gi x 0).str then 5 else bif !inB (gi x 1).int 0 30000000000 then 1 else bif !inB (gi x 2).int ((gi x 1).int + 1) 30000000000 then 1 else bif (Int.tmod (gi x 1).int 1000 != 0) then 1 else bif (Int.tmod (gi x 2).int 1000 != 0) then 1 else 0
def stepBn (rows : List (List G)) (i : Nat) : Int :=
 if faultBn1 (rows.getD i []) ≠ 0 then faultBn1 (rows.getD i []) else if 0 < i ∧ (gi (rows.getD i []) 1).int < (gi (rows.getD (i - 1) []) 2).int then 7 else 0
def twiceB (rows : List (List G)) (i : Nat) : Int := bif (rows.take i).any (fun o => (gi o 0).str.toList == (gi (rows.getD i []) 0).str.toList) then 6 else 0
def faultBands (rows : List (List G)) : Int := if 30 < rows.length then 2 else if fw (stepBn rows) rows.length ≠ 0 then fw (stepBn rows) rows.length else fw (twiceB rows) rows.length
theorem checkBands_step (rows : List (List G)) (hr : ∀ z ∈ rows, Bnd z) (hn : rows.length ≤ 3000) (i : Nat) (hi : i < rows.length) :
  Ret (st_log_CheckBands_4 [.l rows, .l rows, .i (rows.length : Int), .i (i : Int)]) fun o => (stepBn rows i = 0 ∧ o = (none, [.l rows, .l rows, .i (rows.length : Int), .i ((i + 1 : Nat) : Int)])) ∨ (stepBn rows i ≠ 0 ∧ o = (some 0, [.i (stepBn rows i)])) := by
 obtain ⟨k, lo, hi2, hx, hk, hlo, hhi⟩ := hr _ (getD_row hi)
 have hC : Bnd (rows.getD i []) := hr _ (getD_row hi)
 have ef : faultBn1 (rows.getD i []) = bif !okB k then 5 else bif !inB lo 0 30000000000 then 1 else bif !inB hi2 (lo + 1) 30000000000 then 1 else bif (Int.tmod lo 1000 != 0) then 1 else bif (Int.tmod hi2 1000 != 0) then 1 else 0 := by
  rw [hx]
  rfl
 unfold st_log_CheckBands_4
 (dsimp +instances only [Aa,Ab,Ac,Ad,Ae,Af,Ag])
 simp only [Int.toNat_natCast, hC.eta]
 have f0 : (gi (rows.getD i []) 0).str = k := by rw [hx]; rfl
 have f1 : (gi (rows.getD i []) 1).int = lo := by rw [hx]; rfl
 have f2 : (gi (rows.getD i []) 2).int = hi2 := by rw [hx]; rfl
 simp only [f0, f1, f2]
 refine Ret.p (Ret.p ?_)
 refine Ret.cE (isKeyB hk) ?_
 (dsimp +instances only [Aa,Ab,Ac,Ad,Ae,Af,Ag])
 refine Ret.test (fun h => ?_) fun h10 => ?_
 ·have e : stepBn rows i = 5 := by
   unfold stepBn
   rw [ef, h]
   rfl
  rw [e]
  exact Ret.some (.inr ⟨by omega, rfl⟩)
 rw [h10, cond_false] at ef
 refine Ret.cE (outside_eq lo 0 30000000000) ?_
 (dsimp +instances only [Aa,Ab,Ac,Ad,Ae,Af,Ag])
 refine Ret.test (fun h => ?_) fun h11 => ?_
 ·have e : stepBn rows i = 1 := by
   unfold stepBn
   rw [ef, h]
   rfl
  rw [e]
  exact Ret.some (.inr ⟨by omega, rfl⟩)
 rw [h11, cond_false] at ef
 have bad : ((!inB hi2 (lo + 1) 30000000000) = true ∨ (Int.tmod lo 1000 != 0) = true ∨ (Int.tmod hi2 1000 != 0) = true) → stepBn rows i = 1 := by
  intro h
  unfold stepBn
  rw [ef]
  rcases h with h | h | h
  ·rw [h]
   rfl
  ·rw [h]
   cases !inB hi2 (lo + 1) 30000000000 <;> rfl
  ·rw [h]
   cases !inB hi2 (lo + 1) 30000000000 <;> cases (Int.tmod lo 1000 != 0) <;> rfl
 have out : stepBn rows i = 1 → Ret (some (some 0, [G.i 1]) : Option (Option Nat × List G)) (fun o => (stepBn rows i = 0 ∧ o = (none, [.l rows, .l rows, .i (rows.length : Int), .i ((i + 1 : Nat) : Int)])) ∨ (stepBn rows i ≠ 0 ∧ o = (some 0, [.i (stepBn rows i)]))) := by
  intro e
  rw [e]
  exact Ret.some (.inr ⟨by omega, rfl⟩)
 have hlo0 : 0 ≤ lo := by
  have h := h11
  simp only [inB, leI_eq, Bool.not_eq_false', Bool.and_eq_true, decide_eq_true_eq] at h
  exact h.1
 refine Ret.cE (outside_eq hi2 0 30000000000) ?_
 (dsimp +instances only [Aa,Ab,Ac,Ad,Ae,Af,Ag])
 refine Ret.test (fun h => out (bad (.inl ?_))) fun h12 => ?_
 ·simp only [inB, leI_eq, Bool.not_eq_true', Bool.and_eq_false_iff, decide_eq_false_iff_not] at h ⊢
  omega
 refine Ret.test (fun h => out (bad (.inr (.inl h)))) fun h13 => ?_
 refine Ret.test (fun h => out (bad (.inr (.inr h)))) fun h14 => ?_
 refine Ret.test (fun h => out (bad (.inl ?_))) fun h15 => ?_
 ·simp only [inB, leI_eq, Bool.not_eq_true', Bool.and_eq_false_iff, decide_eq_false_iff_not, decide_eq_true_eq] at h ⊢
  omega
 have h16 : (!inB hi2 (lo + 1) 30000000000) = false := by
  simp only [inB, leI_eq, Bool.not_eq_false', Bool.and_eq_true, decide_eq_true_eq, decide_eq_false_iff_not] at h12 h15 ⊢
  omega
 rw [h16, cond_false, h13, cond_false, h14, cond_false] at ef
 have e : stepBn rows i = if 0 < i ∧ lo < (gi (rows.getD (i - 1) []) 2).int then 7 else 0 := by
  unfold stepBn
  rw [ef, if_neg (by simp), f1]
 refine Ret.test (fun h => ?_) fun h => ?_
 ·simp only [ltI_eq, decide_eq_true_eq] at h
  have ei : ((i : Int) - 1).toNat = i - 1 := by omega
  simp only [ei]
  refine Ret.p (Ret.p ?_)
  refine Ret.test (fun h7 => ?_) fun h7 => ?_
  ·simp only [ltI_eq, decide_eq_true_eq] at h7
   rw [if_pos ⟨by omega, h7⟩] at e
   rw [e]
   exact Ret.some (.inr ⟨by omega, rfl⟩)
  ·simp only [ltI_eq, decide_eq_false_iff_not] at h7
   rw [if_neg (fun h' => h7 h'.2)] at e
   refine Ret.p (Ret.some (.inl ⟨e, rfl⟩))
 ·simp only [ltI_eq, decide_eq_false_iff_not] at h
  rw [if_neg (by omega)] at e
  refine Ret.p (Ret.some (.inl ⟨e, rfl⟩))
theorem prdTwice {c : List G} (hc : Bnd c) : Prd KBand F_log_CheckBands_1 (fun g => .l [gEta KBand g.row]) (.l [c]) Bnd (fun o => (gi o 0).str.toList == (gi c 0).str.toList) :=
 ⟨fun r hr => by
  refine Ret.toEq ?_
  unfold F_log_CheckBands_1
  (dsimp +instances only [Aa,Ab,Ac,Ad,Ae,Af,Ag])
  exact Ret.some rfl, fun _ h => h.eta, by rw [Ac, hc.eta]⟩
def zBand : List G := [.s (⟨#[]⟩ : ByteArray), .i 0, .i 0]
theorem any_index {p : List G → Bool} {rows : List (List G)} {g : List G} (h : (∃ q1 x q2, rows = q1 ++ x :: q2 ∧ (∀ y ∈ q1, p y = false) ∧ p x = true ∧ g = [.i (q1.length : Int)]) ∨ (∀ y ∈ rows, p y = false) ∧ g = [.i (-1)]) : g = [.i (gi g 0).int] ∧ leI 0 (gi g 0).int = rows.any p := by
 rcases h with ⟨q1, x, q2, h1, h2, h3, rfl⟩ | ⟨h, rfl⟩
 ·refine ⟨rfl, ?_⟩
  rw [h1]
  simp [leI_eq, h3, Aa, Ae]
 ·refine ⟨rfl, ?_⟩
  have : rows.any p = false := by
   rw [List.any_eq_false]
   intro y hy
   rw [h y hy]
   simp
  rw [this]
  rfl
theorem containsTwice (l : List (List G)) {c : List G} (hl : ∀ z ∈ l, Bnd z) (hc : Bnd c) (hn : l.length < 100000) : F_sl_ContainsFunc_Band [.l l, .l [c]] = some [.t (l.any fun o => (gi o 0).str.toList == (gi c 0).str.toList)] := by
 refine Ret.toEq ?_
 unfold F_sl_ContainsFunc_Band
 (dsimp +instances only [Aa,Ab,Ac,Ad,Ae,Af,Ag])
 rw [hc.eta]
 refine Ret.call (P := fun g => g = [.i (gi g 0).int] ∧ leI 0 (gi g 0).int = l.any fun o => (gi o 0).str.toList == (gi c 0).str.toList) ?_ ?_
 ·exact Ret.mono (indexfF_eq (Z := zBand) (prdTwice hc) l hl hn : Ret (F_sl_IndexFunc_Band [.l l, .l [c]]) _) fun g h => any_index h
 ·rintro g ⟨_, h⟩
  rw [← h]
  exact Ret.some rfl
theorem checkTwice_step (rows : List (List G)) (hr : ∀ z ∈ rows, Bnd z) (hn : rows.length ≤ 3000) (i : Nat) (hi : i < rows.length) :
  Ret (st_log_CheckBands_14 [.l rows, .l rows, .i (rows.length : Int), .i (i : Int)]) fun o => (twiceB rows i = 0 ∧ o = (none, [.l rows, .l rows, .i (rows.length : Int), .i ((i + 1 : Nat) : Int)])) ∨ (twiceB rows i ≠ 0 ∧ o = (some 0, [.i (twiceB rows i)])) := by
 have hC : Bnd (rows.getD i []) := hr _ (getD_row hi)
 have hT : ∀ z ∈ rows.take i, Bnd z := fun z hz => hr z (List.mem_of_mem_take hz)
 have hl : (rows.take i).length ≤ 3000 := by rw [List.length_take]; omega
 unfold st_log_CheckBands_14
 (dsimp +instances only [Aa,Ab,Ac,Ad,Ae,Af,Ag])
 simp only [Int.toNat_natCast, hC.eta]
 refine Ret.p (Ret.p (Ret.p ?_))
 refine Ret.cE (containsTwice (rows.take i) hT hC (by omega)) ?_
 (dsimp +instances only [Aa,Ab,Ac,Ad,Ae,Af,Ag])
 have e : twiceB rows i = bif (rows.take i).any (fun o => (gi o 0).str.toList == (gi (rows.getD i []) 0).str.toList) then 6 else 0 := rfl
 refine Ret.test (fun h => ?_) fun h => ?_
 ·rw [h, cond_true] at e
  rw [e]
  exact Ret.some (.inr ⟨by omega, rfl⟩)
 ·rw [h, cond_false] at e
  refine Ret.p (Ret.some (.inl ⟨e, rfl⟩))
theorem checkBands_ok (rows : List (List G)) (hr : ∀ z ∈ rows, Bnd z) : F_log_CheckBands [.l rows] = some [.i (faultBands rows)] := by
 refine Ret.toEq ?_
 unfold F_log_CheckBands faultBands
 (dsimp +instances only [Aa,Ab,Ac,Ad,Ae,Af,Ag])
 by_cases hn : 30 < rows.length
 ·refine Ret.p ?_
  rw [if_pos hn]
  exact Ret.some rfl
 ·refine Ret.n ?_
  rw [if_neg hn]
  refine Ret.loop (fw_loop (fun i => [.l rows, .l rows, .i (rows.length : Int), .i (i : Int)]) rows.length (stepBn rows) [.l rows] (by omega) (checkBands_step rows hr (by omega)) ?_) rfl ?_
  ·unfold st_log_CheckBands_4
   (dsimp +instances only [Aa,Ab,Ac,Ad,Ae,Af,Ag])
   (repeat first|refine Ret.p ?_|refine Ret.n ?_)
   exact Ret.some rfl
  ·rintro _ _ (⟨rfl, h, rfl⟩ | ⟨rfl, rfl, hne⟩)
   ·rw [if_neg (by rw [h]; simp)]
    (dsimp +instances only [Aa,Ab,Ac,Ad,Ae,Af,Ag])
    refine Ret.neg rfl ?_
    refine Ret.loop (fw_loop (fun i => [.l rows, .l rows, .i (rows.length : Int), .i (i : Int)]) rows.length (twiceB rows) [] (by omega) (checkTwice_step rows hr (by omega)) ?_) rfl ?_
    ·unfold st_log_CheckBands_14
     (dsimp +instances only [Aa,Ab,Ac,Ad,Ae,Af,Ag])
     (repeat first|refine Ret.p ?_|refine Ret.n ?_)
     exact Ret.some rfl
    ·rintro _ _ (⟨rfl, h, rfl⟩ | ⟨rfl, rfl, _⟩)
     ·rw [h]
      exact Ret.some rfl
     ·exact Ret.some rfl
   ·rw [if_pos hne]
    exact Ret.some rfl
end
end Go.Proofs.SYthjhjbgilbaknaaGreatDoor
