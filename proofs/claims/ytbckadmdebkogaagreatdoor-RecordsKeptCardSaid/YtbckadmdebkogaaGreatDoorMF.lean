/-
  What is proved here: what the methods of the stream give on data. No condition.
-/
import Derived.Test.YtbckadmdebkogaaGreatDoorML3
import Derived.Test.YtbckadmdebkogaaGreatDoorME
import Derived.Test.YtbckadmdebkogaaGreatDoorMI
set_option linter.unusedSimpArgs false
set_option linter.unusedVariables false
set_option linter.unusedSectionVars false
namespace Go.Proofs.SYtbckadmdebkogaaGreatDoor
open Go Go.AL Go.Proofs
noncomputable section
theorem r_Below (x n : Int) (h0 : 1 ≤ n) (h1 : n ≤ 1099511627776) : Ret (F_pilemake_Below [.i x, .i n]) fun g => ∃ v, g = [.i v] ∧ 0 ≤ v ∧ v < n := by
  unfold F_pilemake_Below
  (dsimp +instances only [gi0,gis,row1,rows1,int1,str1,bool1])
  have ha := Int.tmod_lt_of_pos x (by omega : 0 < n)
  have hb := Int.lt_tmod_of_pos x (by omega : 0 < n)
  (repeat(first|(refine Ret.pos ?_ ?_;(first|rfl|assumption|(simp only [inI,sl]<;>omega)))|(refine Ret.neg ?_ ?_;(first|rfl|assumption|(simp only [inI,sl]<;>omega)))))
  refine Ret.test (fun h => ?_) fun h => ?_
  · simp only [ltI_eq, decide_eq_true_eq] at h
    (repeat(first|(refine Ret.pos ?_ ?_;(first|rfl|assumption|(simp only [inI,sl]<;>omega)))|(refine Ret.neg ?_ ?_;(first|rfl|assumption|(simp only [inI,sl]<;>omega)))))
    exact Ret.some ⟨_, rfl, by omega, by omega⟩
  · simp only [ltI_eq, decide_eq_false_iff_not] at h
    exact Ret.some ⟨_, rfl, by omega, by omega⟩
theorem r_Next (l : List (List G)) (a n : Int) (ha : 0 ≤ a) (ha1 : a ≤ 1000000) (h0 : 1 ≤ n) (h1 : n ≤ 1099511627776) :
    Ret (F_pilemake_Stream_Next [.l l, .i a, .i n]) fun g => ∃ v, g = [.l l, .i (a + 1), .i v] ∧ 0 ≤ v ∧ v < n := by
  unfold F_pilemake_Stream_Next
  (dsimp +instances only [gi0,gis,row1,rows1,int1,str1,bool1])
  have ea : a + 1 - 1 = a := by omega
  simp only [ea]
  by_cases hl : l.length = 0
  · (repeat(first|(refine Ret.pos ?_ ?_;(first|rfl|assumption|(simp only [inI,sl]<;>omega)))|(refine Ret.neg ?_ ?_;(first|rfl|assumption|(simp only [inI,sl]<;>omega)))))
    refine Ret.call (r_Below _ n h0 h1) ?_
    rintro _ ⟨v, rfl, h2, h3⟩
    (dsimp +instances only [gi0,gis,row1,rows1,int1,str1,bool1])
    exact Ret.some ⟨v, rfl, h2, h3⟩
  · have hp : (0 : Int) < (l.length : Int) := by omega
    have d0 : 0 ≤ Int.tdiv a l.length := Int.tdiv_nonneg ha (by omega)
    have d1 : Int.tdiv a l.length ≤ a := by
      rw [Int.tdiv_eq_ediv_of_nonneg ha]
      exact Int.ediv_le_self _ ha
    have m0 : 0 ≤ Int.tmod a l.length := by
      rw [Int.tmod_eq_emod_of_nonneg ha]
      exact Int.emod_nonneg _ (by omega)
    have m1 : Int.tmod a l.length < l.length := Int.tmod_lt_of_pos a hp
    have m2 : Int.tmod a l.length ≤ a := by
      rw [Int.tmod_eq_emod_of_nonneg ha]
      have := Int.mul_ediv_add_emod a l.length
      have h4 : 0 ≤ (l.length : Int) * (a / l.length) := Int.mul_nonneg (by omega) (Int.ediv_nonneg ha (by omega))
      omega
    generalize hq : Int.tdiv a l.length = q at *
    generalize hr : Int.tmod a l.length = r at *
    have p0 : 0 ≤ q * (7919 + r) := Int.mul_nonneg d0 (by omega)
    have p1 : q * (7919 + r) ≤ 1000000 * 2000000 := Int.mul_le_mul (by omega) (by omega) (by omega) (by omega)
    generalize hz : q * (7919 + r) = z at *
    (repeat(first|(refine Ret.pos ?_ ?_;(first|rfl|assumption|(simp only [inI,sl]<;>omega)))|(refine Ret.neg ?_ ?_;(first|rfl|assumption|(simp only [inI,sl]<;>omega)))))
    refine Ret.call (r_Below _ 1073741824 (by omega) (by omega)) ?_
    rintro _ ⟨u, rfl, h2, h3⟩
    (dsimp +instances only [gi0,gis,row1,rows1,int1,str1,bool1])
    (repeat(first|(refine Ret.pos ?_ ?_;(first|rfl|assumption|(simp only [inI,sl]<;>omega)))|(refine Ret.neg ?_ ?_;(first|rfl|assumption|(simp only [inI,sl]<;>omega)))))
    refine Ret.call (r_Below _ n h0 h1) ?_
    rintro _ ⟨v, rfl, h4, h5⟩
    (dsimp +instances only [gi0,gis,row1,rows1,int1,str1,bool1])
    exact Ret.some ⟨v, rfl, h4, h5⟩
theorem r_Range (l : List (List G)) (a lo hi : Int) (ha : 0 ≤ a) (ha1 : a ≤ 1000000) (h0 : lo ≤ hi) (h1 : -1000000000 ≤ lo) (h2 : hi ≤ 1000000000) :
    Ret (F_pilemake_Stream_Range [.l l, .i a, .i lo, .i hi]) fun g => ∃ v, g = [.l l, .i (a + 1), .i v] ∧ lo ≤ v ∧ v ≤ hi := by
  unfold F_pilemake_Stream_Range
  (dsimp +instances only [gi0,gis,row1,rows1,int1,str1,bool1])
  (repeat(first|(refine Ret.pos ?_ ?_;(first|rfl|assumption|(simp only [inI,sl]<;>omega)))|(refine Ret.neg ?_ ?_;(first|rfl|assumption|(simp only [inI,sl]<;>omega)))))
  refine Ret.call (r_Next l a _ ha ha1 (by omega) (by omega)) ?_
  rintro _ ⟨v, rfl, h3, h4⟩
  (dsimp +instances only [gi0,gis,row1,rows1,int1,str1,bool1])
  (repeat(first|(refine Ret.pos ?_ ?_;(first|rfl|assumption|(simp only [inI,sl]<;>omega)))|(refine Ret.neg ?_ ?_;(first|rfl|assumption|(simp only [inI,sl]<;>omega)))))
  exact Ret.some ⟨_, rfl, by omega, by omega⟩
theorem getD_mem' {l : List (List G)} {v : Int} (h0 : 0 ≤ v) (h1 : v < l.length) : l.getD v.toNat [] ∈ l := by
  have : v.toNat < l.length := by omega
  rw [List.getD_eq_getElem?_getD, List.getElem?_eq_getElem this]
  exact List.getElem_mem this
theorem r_Pick (P : Int → Prop) (l : List (List G)) (a : Int) (xs : List (List G)) (ha : 0 ≤ a) (ha1 : a ≤ 1000000) (h0 : 1 ≤ xs.length) (h1 : xs.length ≤ 1000000) (hP : ∀ x ∈ xs, P (gi x 0).int) :
    Ret (F_pilemake_Stream_Pick [.l l, .i a, .l xs]) fun g => ∃ v, g = [.l l, .i (a + 1), .i v] ∧ P v := by
  unfold F_pilemake_Stream_Pick
  (dsimp +instances only [gi0,gis,row1,rows1,int1,str1,bool1])
  refine Ret.call (r_Next l a _ ha ha1 (by omega) (by omega)) ?_
  rintro _ ⟨v, rfl, h3, h4⟩
  (dsimp +instances only [gi0,gis,row1,rows1,int1,str1,bool1])
  (repeat(first|(refine Ret.pos ?_ ?_;(first|rfl|assumption|(simp only [inI,sl]<;>omega)))|(refine Ret.neg ?_ ?_;(first|rfl|assumption|(simp only [inI,sl]<;>omega)))))
  exact Ret.some ⟨_, rfl, hP _ (getD_mem' h3 h4)⟩
theorem r_Some (P : ByteArray → Prop) (l : List (List G)) (a : Int) (xs : List (List G)) (ha : 0 ≤ a) (ha1 : a ≤ 1000000) (h0 : 1 ≤ xs.length) (h1 : xs.length ≤ 1000000) (hP : ∀ x ∈ xs, P (gi x 0).str) :
    Ret (F_pilemake_Stream_Some [.l l, .i a, .l xs]) fun g => ∃ v, g = [.l l, .i (a + 1), .s v] ∧ P v := by
  unfold F_pilemake_Stream_Some
  (dsimp +instances only [gi0,gis,row1,rows1,int1,str1,bool1])
  refine Ret.call (r_Next l a _ ha ha1 (by omega) (by omega)) ?_
  rintro _ ⟨v, rfl, h3, h4⟩
  (dsimp +instances only [gi0,gis,row1,rows1,int1,str1,bool1])
  (repeat(first|(refine Ret.pos ?_ ?_;(first|rfl|assumption|(simp only [inI,sl]<;>omega)))|(refine Ret.neg ?_ ?_;(first|rfl|assumption|(simp only [inI,sl]<;>omega)))))
  exact Ret.some ⟨_, rfl, hP _ (getD_mem' h3 h4)⟩
theorem r_Flip (l : List (List G)) (a n : Int) (ha : 0 ≤ a) (ha1 : a ≤ 1000000) (h0 : 1 ≤ n) (h1 : n ≤ 1000000) :
    Ret (F_pilemake_Stream_Flip [.l l, .i a, .i n]) fun g => ∃ b, g = [.l l, .i (a + 1), .t b] := by
  unfold F_pilemake_Stream_Flip
  (dsimp +instances only [gi0,gis,row1,rows1,int1,str1,bool1])
  refine Ret.call (r_Next l a _ ha ha1 (by omega) (by omega)) ?_
  rintro _ ⟨v, rfl, h3, h4⟩
  exact Ret.some ⟨_, rfl⟩
theorem r_Odd (l : List (List G)) (a lo hi : Int) (ha : 0 ≤ a) (ha1 : a ≤ 900000) (h0 : lo ≤ hi) (h1 : -1000000000 ≤ lo) (h2 : hi ≤ 1000000000) :
    Ret (F_pilemake_Stream_Odd [.l l, .i a, .i lo, .i hi]) fun g => ∃ v, g = [.l l, .i (a + 2), .i v] ∧ -1099511627776 ≤ v ∧ (v ≤ 1000000001 ∨ v = 1099511627776) := by
  unfold F_pilemake_Stream_Odd
  (dsimp +instances only [gi0,gis,row1,rows1,int1,str1,bool1])
  have e2 : a + 1 + 1 = a + 2 := by omega
  refine Ret.call (r_Flip l a 12 ha (by omega) (by omega) (by omega)) ?_
  rintro _ ⟨b, rfl⟩
  (dsimp +instances only [gi0,gis,row1,rows1,int1,str1,bool1])
  cases b with
  | true =>
    (repeat(first|(refine Ret.pos ?_ ?_;(first|rfl|assumption|(simp only [inI,sl]<;>omega)))|(refine Ret.neg ?_ ?_;(first|rfl|assumption|(simp only [inI,sl]<;>omega)))))
    refine Ret.call (r_Pick (fun v => -1099511627776 ≤ v ∧ (v ≤ 1000000001 ∨ v = 1099511627776)) l (a + 1) _ (by omega) (by omega) (by simp) (by simp) ?_) ?_
    · intro x hx
      simp only [List.mem_cons, List.not_mem_nil, or_false] at hx
      rcases hx with rfl | rfl | rfl | rfl | rfl | rfl <;> (dsimp +instances only [gi0,gis,row1,rows1,int1,str1,bool1]) <;> omega
    · rintro _ ⟨v, rfl, h3, h4⟩
      (dsimp +instances only [gi0,gis,row1,rows1,int1,str1,bool1])
      exact Ret.some ⟨v, by rw [e2], h3, h4⟩
  | false =>
    (repeat(first|(refine Ret.pos ?_ ?_;(first|rfl|assumption|(simp only [inI,sl]<;>omega)))|(refine Ret.neg ?_ ?_;(first|rfl|assumption|(simp only [inI,sl]<;>omega)))))
    refine Ret.call (r_Range l (a + 1) lo hi (by omega) (by omega) h0 h1 h2) ?_
    rintro _ ⟨v, rfl, h3, h4⟩
    (dsimp +instances only [gi0,gis,row1,rows1,int1,str1,bool1])
    exact Ret.some ⟨v, by rw [e2], by omega, by omega⟩
end
end Go.Proofs.SYtbckadmdebkogaaGreatDoor

namespace Go.Proofs.SYtbckadmdebkogaaGreatDoor
open Go Go.AL Go.Proofs
noncomputable section
def inL (L : List ByteArray) (s : ByteArray) : Bool := L.any fun x => eqS x s
theorem inL_mem {L : List ByteArray} {s : ByteArray} (h : inL L s = true) : s ∈ L := by
  obtain ⟨x, hx, he⟩ := List.any_eq_true.1 h
  exact eqS_eq he ▸ hx
theorem r_PickB (lo hi : Int) (l : List (List G)) (a : Int) (xs : List (List G)) (ha : 0 ≤ a) (ha1 : a ≤ 1000000) (h0 : (Nat.ble 1 xs.length && Nat.ble xs.length 1000000) = true) (hP : (xs.all fun x => leI lo (gi x 0).int && leI (gi x 0).int hi) = true) :
    Ret (F_pilemake_Stream_Pick [.l l, .i a, .l xs]) fun g => ∃ v, g = [.l l, .i (a + 1), .i v] ∧ lo ≤ v ∧ v ≤ hi := by
  simp only [Bool.and_eq_true, Nat.ble_eq] at h0
  refine r_Pick (fun v => lo ≤ v ∧ v ≤ hi) l a xs ha ha1 h0.1 h0.2 fun x hx => ?_
  have := List.all_eq_true.1 hP x hx
  simpa only [leI_eq, Bool.and_eq_true, decide_eq_true_eq] using this
theorem r_SomeB (L : List ByteArray) (l : List (List G)) (a : Int) (xs : List (List G)) (ha : 0 ≤ a) (ha1 : a ≤ 1000000) (h0 : (Nat.ble 1 xs.length && Nat.ble xs.length 1000000) = true) (hP : (xs.all fun x => inL L (gi x 0).str) = true) :
    Ret (F_pilemake_Stream_Some [.l l, .i a, .l xs]) fun g => ∃ v, g = [.l l, .i (a + 1), .s v] ∧ v ∈ L := by
  simp only [Bool.and_eq_true, Nat.ble_eq] at h0
  exact r_Some (fun v => v ∈ L) l a xs ha ha1 h0.1 h0.2 fun x hx => inL_mem (List.all_eq_true.1 hP x hx)
def calls : List ByteArray := [⟨#[]⟩, ⟨#[107, 49]⟩, ⟨#[75, 49, 65, 66]⟩, ⟨#[107, 49, 97, 98, 47]⟩, ⟨#[49, 97]⟩, ⟨#[107, 49, 97, 98, 47, 109, 109, 47, 112]⟩, ⟨#[107, 49, 97, 98]⟩, ⟨#[107, 49, 97, 97]⟩, ⟨#[107, 49, 97, 98, 47, 52]⟩,
  ⟨#[111, 104, 50, 97, 98, 99]⟩, ⟨#[111, 104, 50, 97, 98, 100]⟩, ⟨#[119, 49, 97, 119]⟩, ⟨#[110, 49, 109, 109]⟩, ⟨#[103, 51, 120, 121, 122, 47, 112]⟩]
def bands : List ByteArray := [⟨#[]⟩, ⟨#[66]⟩, ⟨#[98, 50, 48]⟩, ⟨#[98, 52, 48]⟩]
def names : List ByteArray := [⟨#[]⟩, ⟨#[65]⟩, ⟨#[49]⟩, ⟨#[102, 105, 110]⟩, ⟨#[117, 115, 97]⟩]
def small (n : Int) : Prop := -2000000000000 ≤ n ∧ n ≤ 2000000000000
def Con (r : List G) : Prop := ∃ (t m : Int) (b c : ByteArray) (s h : Int) (x y : ByteArray), r = [.i t, .i m, .s b, .s c, .i s, .i h, .s x, .s y] ∧ small t ∧ small m ∧ small s ∧ small h ∧ b ∈ bands ∧ c ∈ calls ∧ x ∈ names ∧ y ∈ names
def tight (n : Int) : Prop := -1900000000000 ≤ n ∧ n ≤ 1900000000000
def tightT (n : Int) : Prop := -1900000000000 ≤ n ∧ (n ≤ 345000000000 ∨ (345686399999 < n ∧ n ≤ 1900000000000))
def ConT (r : List G) : Prop := ∃ (t m : Int) (b c : ByteArray) (s h : Int) (x y : ByteArray), r = [.i t, .i m, .s b, .s c, .i s, .i h, .s x, .s y] ∧ tightT t ∧ tight m ∧ tight s ∧ tight h ∧ b ∈ bands ∧ c ∈ calls ∧ x ∈ names ∧ y ∈ names
theorem tight.to {n : Int} (h : tight n) : small n := ⟨by have := h.1; omega, by have := h.2; omega⟩
theorem tightT.to {n : Int} (h : tightT n) : small n := by
  unfold tightT at h
  exact ⟨by omega, by omega⟩
theorem ConT.to {r : List G} (h : ConT r) : Con r := by
  obtain ⟨t, m, b, c, s, h, x, y, e, h1, h2, h3, h4, h5⟩ := h
  exact ⟨t, m, b, c, s, h, x, y, e, h1.to, h2.to, h3.to, h4.to, h5⟩
theorem Con.eta {r : List G} (h : Con r) : gEta [.int .i64, .int .i64, .str, .str, .int .i64, .int .i64, .str, .str] r = r := by
  obtain ⟨t, m, b, c, s, h, x, y, rfl, _⟩ := h
  rfl
end
end Go.Proofs.SYtbckadmdebkogaaGreatDoor

namespace Go.Proofs.SYtbckadmdebkogaaGreatDoor
open Go Go.AL Go.Proofs
noncomputable section
def cmpI (a b : Int) : Int := if a < b then -1 else if b < a then 1 else 0
theorem compareBytes_zero : ∀ {a b : List UInt8}, Lib.compareBytes a b = 0 → a = b
  | [], [], _ => rfl
  | [], _ :: _, h => by simp [Lib.compareBytes] at h
  | _ :: _, [], h => by simp [Lib.compareBytes] at h
  | x :: a, y :: b, h => by
    unfold Lib.compareBytes at h
    split at h
    · cases h
    · split at h
      · cases h
      · rename_i h1 h2
        rw [compareBytes_zero h, UInt8.le_antisymm (UInt8.not_lt.1 h2) (UInt8.not_lt.1 h1)]
theorem compareBytes_self : ∀ a : List UInt8, Lib.compareBytes a a = 0
  | [] => rfl
  | x :: a => by simp [Lib.compareBytes, compareBytes_self a]
theorem str_eq (a b : ByteArray) : (a.toList == b.toList) = decide (cmpS a b = 0) := by
  rw [ByteArray.toList_eq, ByteArray.toList_eq, Bool.eq_iff_iff, decide_eq_true_eq, beq_iff_eq]
  constructor
  · intro h
    unfold cmpS
    rw [h]
    exact compareBytes_self _
  · exact fun h => compareBytes_zero h
theorem cmpInt_eq (a b : Int) : F_cmp_Compare_int [.i a, .i b] = some [.i (cmpI a b)] := by
  refine Ret.toEq ?_
  unfold F_cmp_Compare_int F_cmp_isNaN_int cmpI
  (dsimp +instances only [gi0,gis,row1,rows1,int1,str1,bool1])
  simp only [bne_self_eq_false]
  refine Ret.call ⟨_, rfl, rfl⟩ ?_
  rintro _ rfl
  refine Ret.call ⟨_, rfl, rfl⟩ ?_
  rintro _ rfl
  (dsimp +instances only [gi0,gis,row1,rows1,int1,str1,bool1])
  (repeat(first|(refine Ret.pos ?_ ?_;(first|rfl|assumption|(simp only [inI,sl]<;>omega)))|(refine Ret.neg ?_ ?_;(first|rfl|assumption|(simp only [inI,sl]<;>omega)))))
  by_cases h1 : a < b
  · (repeat(first|(refine Ret.pos ?_ ?_;(first|rfl|assumption|(simp only [inI,sl]<;>omega)))|(refine Ret.neg ?_ ?_;(first|rfl|assumption|(simp only [inI,sl]<;>omega)))))
    exact Ret.some (by simp [h1])
  · by_cases h2 : b < a
    · (repeat(first|(refine Ret.pos ?_ ?_;(first|rfl|assumption|(simp only [inI,sl]<;>omega)))|(refine Ret.neg ?_ ?_;(first|rfl|assumption|(simp only [inI,sl]<;>omega)))))
      exact Ret.some (by simp [h1, h2])
    · (repeat(first|(refine Ret.pos ?_ ?_;(first|rfl|assumption|(simp only [inI,sl]<;>omega)))|(refine Ret.neg ?_ ?_;(first|rfl|assumption|(simp only [inI,sl]<;>omega)))))
      exact Ret.some (by simp [h1, h2])
def orL : List (List G) → Int
  | [] => 0
  | x :: q => if (gi x 0).int ≠ 0 then (gi x 0).int else orL q
theorem or_runs : ∀ (q p : List (List G)), p.length + q.length < 100000 →
    RetN st_cmp_Or_int_3 [.i 0, .l (p ++ q), .i ((p.length + q.length : Nat) : Int), .i (p.length : Int)] (q.length + 1) fun c g => c ≤ 1 ∧ g = [.i (orL q)]
  | [], p, hl => by
    refine RetN.stop (x := 1) (Ret.toEq ?_) ⟨by omega, rfl⟩
    unfold st_cmp_Or_int_3
    (dsimp +instances only [gi0,gis,row1,rows1,int1,str1,bool1])
    (repeat(first|(refine Ret.pos ?_ ?_;(first|rfl|assumption|(simp only [inI,sl]<;>omega)))|(refine Ret.neg ?_ ?_;(first|rfl|assumption|(simp only [inI,sl]<;>omega)))))
    exact Ret.some rfl
  | y :: q, p, hl => by
    simp only [List.length_cons] at hl
    have g1 : (p ++ y :: q).getD (p.length : Int).toNat [] = y := getD_mid _ _ _ _ _ (by simp)
    have hlen : (p ++ y :: q).length = p.length + q.length + 1 := by simp; omega
    by_cases he : (gi y 0).int = 0
    · have ih := or_runs q (p ++ [y]) (by simp; omega)
      have e : orL (y :: q) = orL q := by simp [orL, he]
      rw [e]
      refine RetN.next (Ret.toEq ?_) ih
      unfold st_cmp_Or_int_3
      (dsimp +instances only [gi0,gis,row1,rows1,int1,str1,bool1])
      simp only [g1, hlen, List.length_cons]
      (repeat(first|(refine Ret.pos ?_ ?_;(first|rfl|assumption|(simp only [inI,sl]<;>omega)))|(refine Ret.neg ?_ ?_;(first|rfl|assumption|(simp only [inI,sl]<;>omega)))))
      refine Ret.some ?_
      simp
      omega
    · refine RetN.stop (x := 0) (Ret.toEq ?_) ⟨by omega, rfl⟩
      unfold st_cmp_Or_int_3
      (dsimp +instances only [gi0,gis,row1,rows1,int1,str1,bool1])
      simp only [g1, hlen, List.length_cons]
      (repeat(first|(refine Ret.pos ?_ ?_;(first|rfl|assumption|(simp only [inI,sl]<;>omega)))|(refine Ret.neg ?_ ?_;(first|rfl|assumption|(simp only [inI,sl]<;>omega)))))
      refine Ret.some ?_
      simp [orL, he]
end
end Go.Proofs.SYtbckadmdebkogaaGreatDoor

namespace Go.Proofs.SYtbckadmdebkogaaGreatDoor
open Go Go.AL Go.Proofs
noncomputable section
def inB (v lo hi : Int) : Bool := leI lo v && leI v hi
theorem in_eq (v lo hi : Int) : F_pileref2_in [.i v, .i lo, .i hi] = some [.t (inB v lo hi)] := by
  unfold F_pileref2_in inB
  (dsimp +instances only [gi0,gis,row1,rows1,int1,str1,bool1])
  cases leI lo v <;> rfl
theorem outside_eq (v lo hi : Int) : F_kit_Outside [.i v, .i lo, .i hi] = some [.t (!inB v lo hi)] := by
  unfold F_kit_Outside inB
  (dsimp +instances only [gi0,gis,row1,rows1,int1,str1,bool1])
  have h1 : ltI v lo = !leI lo v := by rw [ltI_eq, leI_eq, Bool.eq_iff_iff]; simp
  have h2 : ltI hi v = !leI v hi := by rw [ltI_eq, leI_eq, Bool.eq_iff_iff]; simp
  rw [h1, h2]
  cases leI lo v <;> cases leI v hi <;> rfl
def okCall (s : ByteArray) : Bool := (gi ((F_call_Is [.s s]).getD []) 0).bool
theorem isCall_eq {s : ByteArray} (h : s ∈ calls) : F_call_Is [.s s] = some [.t (okCall s)] := by
  simp only [calls, List.mem_cons, List.not_mem_nil, or_false] at h
  rcases h with (rfl | rfl | rfl | rfl | rfl | rfl | rfl | rfl | rfl | rfl | rfl | rfl | rfl | rfl) <;> kernel_rfl
theorem call_eq {s : ByteArray} (h : s ∈ calls) : F_pileref2_Call [.s s] = some [.t (okCall s)] := by
  simp only [calls, List.mem_cons, List.not_mem_nil, or_false] at h
  rcases h with (rfl | rfl | rfl | rfl | rfl | rfl | rfl | rfl | rfl | rfl | rfl | rfl | rfl | rfl) <;> kernel_rfl
end
end Go.Proofs.SYtbckadmdebkogaaGreatDoor

namespace Go.Proofs.SYtbckadmdebkogaaGreatDoor
open Go Go.AL Go.Proofs
noncomputable section
theorem errs2 (x y : Int) : F_pilelaw2_errs [.l [[.i x], [.i y]]] = some [.i (bif x != 0 then x else y)] := by
  refine Ret.toEq ?_
  unfold F_pilelaw2_errs
  (dsimp +instances only [gi0,gis,row1,rows1,int1,str1,bool1])
  have key : RetN st_pilelaw2_errs_2 [.l [[.i x], [.i y]], .i 2, .i 0] 3 fun c g => (c = 0 ∧ g = [.i (bif x != 0 then x else y)]) ∨ c = 1 ∧ (bif x != 0 then x else y) = 0 := by
    by_cases hx : x = 0
    · subst hx
      refine RetN.next (d1 := [.l [[.i 0], [.i y]], .i 2, .i 1]) rfl ?_
      by_cases hy : y = 0
      · subst hy
        refine RetN.next (d1 := [.l [[.i 0], [.i 0]], .i 2, .i 2]) rfl ?_
        exact RetN.stop (x := 1) (d' := []) rfl (.inr ⟨rfl, rfl⟩)
      · refine RetN.stop (x := 0) (d' := [.i y]) (Ret.toEq ?_) (.inl ⟨rfl, rfl⟩)
        unfold st_pilelaw2_errs_2
        (dsimp +instances only [gi0,gis,row1,rows1,int1,str1,bool1])
        refine Ret.pos rfl (Ret.pos rfl (Ret.pos (show (y != 0) = true from by simpa using hy) (Ret.some rfl)))
    · have e : (bif x != 0 then x else y) = x := by
        have : (x != 0) = true := by simpa using hx
        rw [this]
        rfl
      rw [e]
      refine RetN.stop (x := 0) (d' := [.i x]) (Ret.toEq ?_) (.inl ⟨rfl, rfl⟩)
      unfold st_pilelaw2_errs_2
      (dsimp +instances only [gi0,gis,row1,rows1,int1,str1,bool1])
      refine Ret.pos rfl (Ret.pos rfl (Ret.pos (show (x != 0) = true from by simpa using hx) (Ret.some rfl)))
  refine Ret.loop (key.to (by omega)) rfl ?_
  rintro c g (⟨rfl, rfl⟩ | ⟨rfl, h⟩)
  · exact Ret.some rfl
  · exact Ret.some (by rw [h])
end
end Go.Proofs.SYtbckadmdebkogaaGreatDoor

namespace Go.Proofs.SYtbckadmdebkogaaGreatDoor
open Go Go.AL Go.Proofs
noncomputable section
theorem bytes_flip' : ∀ a b : List UInt8, Lib.compareBytes b a = - Lib.compareBytes a b
  | [], [] => rfl
  | [], _ :: _ => rfl
  | _ :: _, [] => rfl
  | a :: xs, b :: ys => by
    simp only [Lib.compareBytes]
    have ih := bytes_flip' xs ys
    by_cases h1 : a < b
    · have h2 : ¬ b < a := fun h => UInt8.lt_irrefl a (UInt8.lt_trans h1 h)
      simp [h1, h2]
    · by_cases h2 : b < a
      · simp [h1, h2]
      · simp [h1, h2, ih]
theorem bytes_lt_trans' : ∀ {a b c : List UInt8}, Lib.compareBytes a b < 0 → Lib.compareBytes b c < 0 → Lib.compareBytes a c < 0
  | [], [], _, h, _ => by simp [Lib.compareBytes] at h
  | [], _ :: _, [], _, h => by simp [Lib.compareBytes] at h
  | [], _ :: _, _ :: _, _, _ => by simp [Lib.compareBytes]
  | _ :: _, [], _, h, _ => by simp [Lib.compareBytes] at h
  | _ :: _, _ :: _, [], _, h => by simp [Lib.compareBytes] at h
  | a :: xs, b :: ys, c :: zs, h1, h2 => by
    simp only [Lib.compareBytes] at h1 h2 ⊢
    by_cases hab : a < b
    · by_cases hbc : b < c
      · rw [if_pos (UInt8.lt_trans hab hbc)]
        omega
      · by_cases hcb : c < b
        · rw [if_neg hbc, if_pos hcb] at h2
          omega
        · have e : b = c := UInt8.le_antisymm (UInt8.not_lt.1 hcb) (UInt8.not_lt.1 hbc)
          subst e
          rw [if_pos hab]
          omega
    · by_cases hba : b < a
      · rw [if_neg hab, if_pos hba] at h1
        omega
      · have e : a = b := UInt8.le_antisymm (UInt8.not_lt.1 hba) (UInt8.not_lt.1 hab)
        subst e
        rw [if_neg (UInt8.lt_irrefl a), if_neg (UInt8.lt_irrefl a)] at h1
        by_cases hac : a < c
        · rw [if_pos hac]
          omega
        · by_cases hca : c < a
          · rw [if_neg hac, if_pos hca] at h2
            omega
          · rw [if_neg hac, if_neg hca] at h2 ⊢
            exact bytes_lt_trans' h1 h2
theorem str_ext {a b : ByteArray} (h : (a.toList == b.toList) = true) : a = b := by
  rw [ByteArray.toList_eq, ByteArray.toList_eq, beq_iff_eq] at h
  exact ByteArray.ext (Array.toList_inj.1 h)
theorem cmpS_z {a b : ByteArray} : cmpS a b = 0 ↔ a = b := by
  have h := str_eq a b
  constructor
  · intro e
    rw [decide_eq_true (p := cmpS a b = 0) e] at h
    exact str_ext h
  · rintro rfl
    have h2 : (a.toList == a.toList) = true := by simp
    rw [h2] at h
    exact of_decide_eq_true h.symm
theorem cmpI_z {a b : Int} : cmpI a b = 0 ↔ a = b := by
  unfold cmpI
  constructor
  · intro h
    split at h
    · omega
    · split at h <;> omega
  · rintro rfl
    simp
theorem cmpI_lt {a b : Int} : cmpI a b < 0 ↔ a < b := by
  unfold cmpI
  constructor
  · intro h
    split at h
    · assumption
    · split at h <;> omega
  · intro h
    rw [if_pos h]
    omega
theorem str_same (a b : ByteArray) : (a.toList == b.toList) = decide (a = b) := by
  rw [str_eq, Bool.eq_iff_iff, decide_eq_true_eq, decide_eq_true_eq]
  exact cmpS_z
structure Ordr {α : Type} (c : α → α → Int) : Prop where
  flip : ∀ a b, c b a = - c a b
  eq : ∀ a b, c a b = 0 → a = b
  tr : ∀ a b d, c a b < 0 → c b d < 0 → c a d < 0
theorem ordrS : Ordr cmpS := ⟨fun a b => bytes_flip' _ _, fun a b h => cmpS_z.1 h, fun a b d h1 h2 => bytes_lt_trans' h1 h2⟩
theorem Ordr.le {α : Type} {c : α → α → Int} (h : Ordr c) (a b d : α) (h1 : c a b ≤ 0) (h2 : c b d ≤ 0) : c a d ≤ 0 := by
  by_cases e1 : c a b = 0
  · rw [h.eq a b e1]
    exact h2
  · by_cases e2 : c b d = 0
    · rw [← h.eq b d e2]
      exact h1
    · have := h.tr a b d (by omega) (by omega)
      omega
theorem Ordr.refl {α : Type} {c : α → α → Int} (h : Ordr c) (a : α) : c a a = 0 := by
  have := h.flip a a
  omega
def or2 (a b : Int) : Int := if a ≠ 0 then a else b
theorem lin_of {c : List G → List G → Int} (hf : ∀ a b, c b a = - c a b) (ht : ∀ a b d, c a b ≤ 0 → c b d ≤ 0 → c a d ≤ 0) : Lin (ltC c) (fun _ => True) := by
  have lt : ∀ r s, ltC c r s = decide (c r s < 0) := fun r s => by unfold ltC; rw [ltI_eq]
  refine ⟨fun a b d _ _ _ h1 h2 => ?_, fun a b _ _ h => ?_⟩
  · rw [lt, decide_eq_false_iff_not] at *
    have := ht d b a (by have := hf d b; omega) (by have := hf b a; omega)
    have := hf a d
    omega
  · rw [lt, decide_eq_true_eq] at h
    rw [lt, decide_eq_false_iff_not]
    have := hf a b
    omega
/-! ### Lists that are checked row by row -/
def fw (step : Nat → Int) : Nat → Int
  | 0 => 0
  | i + 1 => if fw step i ≠ 0 then fw step i else step i
theorem fw_stays {step : Nat → Int} {i : Nat} (h : fw step i ≠ 0) : ∀ k, fw step (i + k) = fw step i
  | 0 => rfl
  | k + 1 => by
    have ih := fw_stays h k
    show (if fw step (i + k) ≠ 0 then fw step (i + k) else step (i + k)) = fw step i
    rw [ih, if_pos h]
theorem fw_zero {step : Nat → Int} : ∀ {n : Nat}, fw step n = 0 → ∀ i, i < n → step i = 0
  | 0, _, i, hi => by omega
  | n + 1, h, i, hi => by
    have h0 : fw step n = 0 := by
      refine Decidable.byContradiction fun hn => hn ?_
      have := fw_stays hn 1
      rw [← this]
      exact h
    have h' : (if fw step n ≠ 0 then fw step n else step n) = 0 := h
    rw [if_neg (by simpa using h0)] at h'
    rcases Nat.lt_or_ge i n with hlt | hge
    · exact fw_zero h0 i hlt
    · have : i = n := by omega
      rw [this]
      exact h'
theorem fw_loop {st : List G → Option (Option Nat × List G)} (mk : Nat → List G) (n : Nat) (step : Nat → Int) (gn : List G) (hn : n < 999999)
    (hstep : ∀ i, i < n → Ret (st (mk i)) fun o => (step i = 0 ∧ o = (none, mk (i + 1))) ∨ (step i ≠ 0 ∧ o = (some 0, [.i (step i)])))
    (hfin : Ret (st (mk n)) fun o => o = (some 1, gn)) :
    RetL st (mk 0) fun c g => (c = 1 ∧ fw step n = 0 ∧ g = gn) ∨ (c = 0 ∧ g = [.i (fw step n)] ∧ fw step n ≠ 0) := by
  refine ((count_runs (σ := Unit) (fun _ i => mk i) n (fun _ => (1, gn)) (fun _ i => fw step i = 0) (fun c g => c = 0 ∧ g = [.i (fw step n)] ∧ fw step n ≠ 0) ?_ (fun _ _ => hfin) n () 0 (by omega) rfl).to (by omega)).mono ?_
  · rintro _ i hI hi
    refine (hstep i hi).mono ?_
    rintro _ (⟨h0, rfl⟩ | ⟨h1, rfl⟩)
    · refine .inl ⟨(), rfl, ?_⟩
      show (if fw step i ≠ 0 then fw step i else step i) = 0
      rw [if_neg (by simpa using hI)]
      exact h0
    · have e : fw step (i + 1) = step i := by
        show (if fw step i ≠ 0 then fw step i else step i) = step i
        rw [if_neg (by simpa using hI)]
      have e2 : fw step n = step i := by
        have := fw_stays (step := step) (i := i + 1) (by rw [e]; exact h1) (n - (i + 1))
        rw [show i + 1 + (n - (i + 1)) = n by omega, e] at this
        exact this
      exact .inr ⟨0, _, rfl, rfl, by rw [e2], by rw [e2]; exact h1⟩
  · rintro c g (⟨_, h, rfl, rfl⟩ | h)
    · exact .inl ⟨rfl, h, rfl⟩
    · exact .inr h
end
end Go.Proofs.SYtbckadmdebkogaaGreatDoor

namespace Go.Proofs.SYtbckadmdebkogaaGreatDoor
open Go Go.AL Go.Proofs
noncomputable section
def cats : List ByteArray := [⟨#[97, 108, 108]⟩, ⟨#[99, 111, 100, 101]⟩, ⟨#[65]⟩]
def locs : List ByteArray := [⟨#[]⟩, ⟨#[107, 112, 50, 48, 108, 102]⟩, ⟨#[107, 112, 50, 48]⟩]
def Ent (r : List G) : Prop := ∃ (c k : ByteArray) (p : Int) (q : ByteArray), r = [.s c, .s k, .i p, .s q] ∧ c ∈ calls ∧ k ∈ cats ∧ -1099511627776 ≤ p ∧ p ≤ 1099511627776 ∧ q ∈ locs
theorem Ent.eta {r : List G} (h : Ent r) : gEta [.str, .str, .int .i64, .str] r = r := by
  obtain ⟨c, k, p, q, rfl, _⟩ := h
  rfl
theorem r_RangeP (l : List (List G)) (a : Int) (ha : 0 ≤ a) (ha1 : a ≤ 1000000) :
    Ret (F_pilemake_Stream_Range [.l l, .i a, .i 0, .i 1000000000000]) fun g => ∃ v, g = [.l l, .i (a + 1), .i v] ∧ 0 ≤ v ∧ v ≤ 1000000000000 := by
  unfold F_pilemake_Stream_Range
  (dsimp +instances only [gi0,gis,row1,rows1,int1,str1,bool1])
  (repeat(first|(refine Ret.pos ?_ ?_;(first|rfl|assumption|(simp only [inI,sl]<;>omega)))|(refine Ret.neg ?_ ?_;(first|rfl|assumption|(simp only [inI,sl]<;>omega)))))
  refine Ret.call (r_Next l a _ ha ha1 (by omega) (by omega)) ?_
  rintro _ ⟨v, rfl, h3, h4⟩
  (dsimp +instances only [gi0,gis,row1,rows1,int1,str1,bool1])
  (repeat(first|(refine Ret.pos ?_ ?_;(first|rfl|assumption|(simp only [inI,sl]<;>omega)))|(refine Ret.neg ?_ ?_;(first|rfl|assumption|(simp only [inI,sl]<;>omega)))))
  exact Ret.some ⟨_, rfl, by omega, by omega⟩
theorem r_OddP (l : List (List G)) (a : Int) (ha : 0 ≤ a) (ha1 : a ≤ 900000) :
    Ret (F_pilemake_Stream_Odd [.l l, .i a, .i 0, .i 1000000000000]) fun g => ∃ v, g = [.l l, .i (a + 2), .i v] ∧ -1099511627776 ≤ v ∧ v ≤ 1099511627776 := by
  unfold F_pilemake_Stream_Odd
  (dsimp +instances only [gi0,gis,row1,rows1,int1,str1,bool1])
  have e2 : a + 1 + 1 = a + 2 := by omega
  refine Ret.call (r_Flip l a 12 ha (by omega) (by omega) (by omega)) ?_
  rintro _ ⟨b, rfl⟩
  (dsimp +instances only [gi0,gis,row1,rows1,int1,str1,bool1])
  cases b with
  | true =>
    (repeat(first|(refine Ret.pos ?_ ?_;(first|rfl|assumption|(simp only [inI,sl]<;>omega)))|(refine Ret.neg ?_ ?_;(first|rfl|assumption|(simp only [inI,sl]<;>omega)))))
    refine Ret.call (r_PickB (-1099511627776) 1099511627776 l (a + 1) _ (by omega) (by omega) (by kernel_rfl) (by kernel_rfl)) ?_
    rintro _ ⟨v, rfl, h3, h4⟩
    (dsimp +instances only [gi0,gis,row1,rows1,int1,str1,bool1])
    exact Ret.some ⟨v, by rw [e2], h3, h4⟩
  | false =>
    (repeat(first|(refine Ret.pos ?_ ?_;(first|rfl|assumption|(simp only [inI,sl]<;>omega)))|(refine Ret.neg ?_ ?_;(first|rfl|assumption|(simp only [inI,sl]<;>omega)))))
    refine Ret.call (r_RangeP l (a + 1) (by omega) (by omega)) ?_
    rintro _ ⟨v, rfl, h3, h4⟩
    (dsimp +instances only [gi0,gis,row1,rows1,int1,str1,bool1])
    exact Ret.some ⟨v, by rw [e2], by omega, by omega⟩
def two : List (List G) := [[.s (⟨#[97, 108, 108]⟩ : ByteArray)], [.s (⟨#[99, 111, 100, 101]⟩ : ByteArray)]]
/-! ### What is wrong with entrants -/
def okCat (s : ByteArray) : Bool := inL [⟨#[97, 108, 108]⟩, ⟨#[99, 111, 100, 101]⟩] s
theorem isCat_eq {s : ByteArray} (h : s ∈ cats) : F_kit_IsKey [.s s] = some [.t (okCat s)] := by
  simp only [cats, List.mem_cons, List.not_mem_nil, or_false] at h
  rcases h with rfl | rfl | rfl <;> kernel_rfl
theorem cat_eq {s : ByteArray} (h : s ∈ cats) : F_pileref2_Key [.s s] = some [.t (okCat s)] := by
  simp only [cats, List.mem_cons, List.not_mem_nil, or_false] at h
  rcases h with rfl | rfl | rfl <;> kernel_rfl
theorem less_eq : ∀ a b : List UInt8, Op.bytesLess a b = decide (Lib.compareBytes a b < 0)
  | [], [] => rfl
  | _ :: _, [] => rfl
  | [], _ :: _ => rfl
  | a :: x, b :: y => by
    simp only [Op.bytesLess, Lib.compareBytes, less_eq x y]
    by_cases h1 : a < b
    · simp [h1]
    · by_cases h2 : b < a
      · have h3 : a ≠ b := fun h => by
          subst h
          exact h1 h2
        simp [h1, h2, h3]
      · have h3 : a = b := UInt8.le_antisymm (UInt8.not_lt.1 h2) (UInt8.not_lt.1 h1)
        subst h3
        simp [h1]
theorem cmpStr_eq (a b : ByteArray) : ∃ v, F_cmp_Compare_string [.s a, .s b] = some [.i v] ∧ (v = 0 ↔ cmpS a b = 0) ∧ (v < 0 ↔ cmpS a b < 0) := by
  have hn : ∀ x : ByteArray, F_cmp_isNaN_string [.s x] = some [.t false] := fun x => by
    show some [G.t (!(x.toList == x.toList))] = _
    simp
  have hL : Op.bytesLess a.toList b.toList = decide (cmpS a b < 0) := by
    rw [less_eq, ByteArray.toList_eq, ByteArray.toList_eq]
    rfl
  unfold F_cmp_Compare_string
  (dsimp +instances only [gi0,gis,row1,rows1,int1,str1,bool1])
  rw [hn a, hn b]
  simp only [str_eq, hL]
  show ∃ v, (bif decide (cmpS a b < 0) then some [G.i (-1)] else bif !(decide (cmpS a b < 0) || decide (cmpS a b = 0)) then some [G.i 1] else some [G.i 0]) = some [.i v] ∧ _
  by_cases h1 : cmpS a b < 0
  · exact ⟨-1, by simp [h1], by omega, by omega⟩
  · by_cases h2 : cmpS a b = 0
    · exact ⟨0, by simp [h2], by omega, by omega⟩
    · exact ⟨1, by simp [h1, h2], by omega, by omega⟩
theorem two_step (a b c d x y : ByteArray) (i : Nat) (v : Int) (h : F_cmp_Compare_string [.s x, .s y] = some [.i v]) (hi : i < 2) (hx : ([[.s a], [.s b]] : List (List G)).getD i [] = [.s x]) (hy : ([[.s c], [.s d]] : List (List G)).getD i [] = [.s y]) :
    st_slices_Compare_string_2 [.l [[.s a], [.s b]], .l [[.s c], [.s d]], .l [[.s a], [.s b]], .i 2, .i (i : Int)] = some (if v = 0 then (none, [.l [[.s a], [.s b]], .l [[.s c], [.s d]], .l [[.s a], [.s b]], .i 2, .i ((i : Int) + 1)]) else (some 0, [.i v])) := by
  refine Ret.toEq ?_
  unfold st_slices_Compare_string_2
  (dsimp +instances only [gi0,gis,row1,rows1,int1,str1,bool1])
  simp only [Int.toNat_natCast, hx, hy]
  (dsimp +instances only [gi0,gis,row1,rows1,int1,str1,bool1])
  refine Ret.pos (by (first|rfl|assumption|(simp only [inI,sl]<;>omega))) (Ret.pos (by (first|rfl|assumption|(simp only [inI,sl]<;>omega))) (Ret.neg (by (first|rfl|assumption|(simp only [inI,sl]<;>omega))) (Ret.pos (by (first|rfl|assumption|(simp only [inI,sl]<;>omega))) ?_)))
  refine Ret.call (Ret.eq h) ?_
  rintro _ rfl
  (dsimp +instances only [gi0,gis,row1,rows1,int1,str1,bool1])
  by_cases e : v = 0
  · subst e
    refine Ret.neg rfl (Ret.pos (by (first|rfl|assumption|(simp only [inI,sl]<;>omega))) (Ret.some rfl))
  · rw [if_neg e]
    exact Ret.pos (by simpa using e) (Ret.some rfl)
theorem cmpTwo_eq (a b c d : ByteArray) : ∃ v, F_slices_Compare_string [.l [[.s a], [.s b]], .l [[.s c], [.s d]]] = some [.i v] ∧ (0 ≤ v ↔ 0 ≤ or2 (cmpS a c) (cmpS b d)) := by
  obtain ⟨v, hv, v0, v1⟩ := cmpStr_eq a c
  obtain ⟨u, hu, u0, u1⟩ := cmpStr_eq b d
  have s0 := two_step a b c d a c 0 v hv (by omega) rfl rfl
  have s1 := two_step a b c d b d 1 u hu (by omega) rfl rfl
  by_cases e1 : v = 0
  · rw [if_pos e1] at s0
    by_cases e2 : u = 0
    · rw [if_pos e2] at s1
      refine ⟨0, Ret.toEq ?_, by unfold or2; rw [if_neg (by simpa using v0.1 e1)]; have := u0.1 e2; omega⟩
      unfold F_slices_Compare_string
      (dsimp +instances only [gi0,gis,row1,rows1,int1,str1,bool1])
      refine Ret.loop (P := fun k g => k = 1 ∧ g = [.l [[.s a], [.s b]], .l [[.s c], [.s d]]]) (RetN.to (m := 3) (RetN.next s0 (RetN.next s1 (RetN.stop (x := 1) (Ret.toEq ?_) ⟨rfl, rfl⟩))) (by omega)) rfl ?_
      · unfold st_slices_Compare_string_2
        (dsimp +instances only [gi0,gis,row1,rows1,int1,str1,bool1])
        refine Ret.neg rfl (Ret.some rfl)
      · rintro _ _ ⟨rfl, rfl⟩
        exact Ret.some rfl
    · rw [if_neg e2] at s1
      refine ⟨u, Ret.toEq ?_, by unfold or2; rw [if_neg (by simpa using v0.1 e1)]; omega⟩
      unfold F_slices_Compare_string
      (dsimp +instances only [gi0,gis,row1,rows1,int1,str1,bool1])
      refine Ret.loop (P := fun k g => k = 0 ∧ g = [.i u]) (RetN.to (m := 3) (RetN.next s0 (RetN.stop s1 ⟨rfl, rfl⟩)) (by omega)) rfl ?_
      rintro _ _ ⟨rfl, rfl⟩
      exact Ret.some rfl
  · rw [if_neg e1] at s0
    refine ⟨v, Ret.toEq ?_, by unfold or2; rw [if_pos (fun h => e1 (v0.2 h))]; omega⟩
    unfold F_slices_Compare_string
    (dsimp +instances only [gi0,gis,row1,rows1,int1,str1,bool1])
    refine Ret.loop (P := fun k g => k = 0 ∧ g = [.i v]) (RetN.to (m := 1) (RetN.stop s0 ⟨rfl, rfl⟩) (by omega)) rfl ?_
    rintro _ _ ⟨rfl, rfl⟩
    exact Ret.some rfl
end
end Go.Proofs.SYtbckadmdebkogaaGreatDoor

namespace Go.Proofs.SYtbckadmdebkogaaGreatDoor
open Go Go.AL Go.Proofs
noncomputable section
def Tri (r : List G) : Prop := ∃ (t : Int) (c k : ByteArray) (p : Int), r = [.i t, .s c, .s k, .i p] ∧ small t ∧ c ∈ calls ∧ k ∈ cats ∧ -1099511627776 ≤ p ∧ p ≤ 1099511627776
theorem Tri.eta {r : List G} (h : Tri r) : gEta KTry r = r := by
  obtain ⟨t, c, k, p, rfl, _⟩ := h
  rfl
/-! ### The stream -/
def ordT (r s : List G) : Int := or2 (cmpI (gi r 0).int (gi s 0).int) (or2 (cmpS (gi r 2).str (gi s 2).str) (cmpS (gi r 1).str (gi s 1).str))
def ordV (r s : List G) : Int := (gi ((F_pilemake_Stream_Tries_1 [.l [r], .l [s]]).getD []) 0).int
theorem cmpInts_ok (a b : Int) : Ret (F_slices_Compare_int [.l [[.i a]], .l [[.i b]]]) fun g => ∃ v, g = [.i v] := by
  unfold F_slices_Compare_int
  (dsimp +instances only [gi0,gis,row1,rows1,int1,str1,bool1])
  have key : RetN st_slices_Compare_int_2 [.l [[.i a]], .l [[.i b]], .l [[.i a]], .i 1, .i 0] 2 fun c g => (c = 0 ∧ ∃ v, g = [.i v]) ∨ (c = 1 ∧ g = [.l [[.i a]], .l [[.i b]]]) := by
    by_cases hv : cmpI a b = 0
    · refine RetN.next (d1 := [.l [[.i a]], .l [[.i b]], .l [[.i a]], .i 1, .i 1]) (Ret.toEq ?_) (RetN.stop (x := 1) (d' := [.l [[.i a]], .l [[.i b]]]) rfl (.inr ⟨rfl, rfl⟩))
      unfold st_slices_Compare_int_2
      (dsimp +instances only [gi0,gis,row1,rows1,int1,str1,bool1])
      refine Ret.pos rfl (Ret.pos rfl (Ret.neg rfl (Ret.pos rfl ?_)))
      refine Ret.call (P := fun g => g = [.i (cmpI a b)]) (Ret.eq (cmpInt_eq a b)) ?_
      rintro _ rfl
      (dsimp +instances only [gi0,gis,row1,rows1,int1,str1,bool1])
      rw [hv]
      exact Ret.neg rfl (Ret.pos rfl (Ret.some rfl))
    · refine RetN.stop (x := 0) (d' := [.i (cmpI a b)]) (Ret.toEq ?_) (.inl ⟨rfl, _, rfl⟩)
      unfold st_slices_Compare_int_2
      (dsimp +instances only [gi0,gis,row1,rows1,int1,str1,bool1])
      refine Ret.pos rfl (Ret.pos rfl (Ret.neg rfl (Ret.pos rfl ?_)))
      refine Ret.call (P := fun g => g = [.i (cmpI a b)]) (Ret.eq (cmpInt_eq a b)) ?_
      rintro _ rfl
      (dsimp +instances only [gi0,gis,row1,rows1,int1,str1,bool1])
      exact Ret.pos (by simpa using hv) (Ret.some rfl)
  refine Ret.loop (key.to (by omega)) rfl ?_
  rintro _ _ (⟨rfl, v, rfl⟩ | ⟨rfl, rfl⟩)
  · exact Ret.pos rfl (Ret.some ⟨v, rfl⟩)
  · exact Ret.neg rfl (Ret.neg rfl (Ret.some ⟨0, rfl⟩))
theorem tries1_ok (r s : List G) : Ret (F_pilemake_Stream_Tries_1 [.l [r], .l [s]]) fun g => ∃ v, g = [.i v] := by
  unfold F_pilemake_Stream_Tries_1
  (dsimp +instances only [gi0,gis,row1,rows1,int1,str1,bool1])
  refine Ret.test (fun _ => ?_) fun _ => ?_
  · refine Ret.call (cmpInts_ok _ _) ?_
    rintro _ ⟨v, rfl⟩
    exact Ret.some ⟨v, rfl⟩
  · obtain ⟨v, hv, _⟩ := cmpTwo_eq (gi r 2).str (gi r 1).str (gi s 2).str (gi s 1).str
    refine Ret.call (Ret.eq hv) ?_
    rintro _ rfl
    exact Ret.some ⟨v, rfl⟩
theorem cmpTries : Cmp KTry F_pilemake_Stream_Tries_1 Tri ordV := ⟨fun r s _ _ => by
  obtain ⟨g, h, v, rfl⟩ := tries1_ok r s
  unfold ordV
  rw [h]
  rfl, fun _ h => h.eta⟩
theorem sortTries_eq (rows : List (List G)) (hr : ∀ y ∈ rows, Tri y) (hn : rows.length ≤ 20) : F_slices_SortStableFunc_Try [.l rows] = some [.l (sortA (ltC ordV) rows)] := sortF_eq cmpTries rows hr hn
theorem loop_Tries (l : List (List G)) (n : Nat) (hn : n ≤ 20) : ∀ (k i : Nat) (a t : Int) (acc : List (List G)), i + k = n → 0 ≤ a → a ≤ 800000 → 0 ≤ t → t ≤ 2 * (i : Int) → a + 20 * (k : Int) ≤ 800000 → (∀ z ∈ acc, Tri z) → acc.length = i →
    RetN st_pilemake_Stream_Tries_4 [.l l, .i a, .l acc, .i t, .i (n : Int), .i (i : Int)] (k + 1) fun c g => c = 0 ∧ ∃ b rows, g = [.l l, .i b, .l rows] ∧ a ≤ b ∧ b ≤ a + 20 * k ∧ (∀ z ∈ rows, Tri z) ∧ rows.length = n
  | 0, i, a, t, acc, hi, ha, ha1, ht, ht1, hb, hQ, hl => by
    refine RetN.stop (x := 0) (Ret.toEq ?_) ⟨rfl, a, acc, rfl, by omega, by omega, hQ, by omega⟩
    unfold st_pilemake_Stream_Tries_4
    (dsimp +instances only [gi0,gis,row1,rows1,int1,str1,bool1])
    (repeat(first|(refine Ret.pos ?_ ?_;(first|rfl|assumption|(simp only [inI,sl]<;>omega)))|(refine Ret.neg ?_ ?_;(first|rfl|assumption|(simp only [inI,sl]<;>omega)))))
    exact Ret.some rfl
  | k + 1, i, a, t, acc, hi, ha, ha1, ht, ht1, hb, hQ, hl => by
    have key : Ret (st_pilemake_Stream_Tries_4 [.l l, .i a, .l acc, .i t, .i (n : Int), .i (i : Int)]) fun o => ∃ b r v, o = (none, [.l l, .i b, .l (acc ++ [r]), .i (t + v), .i (n : Int), .i ((i : Int) + 1)]) ∧ a ≤ b ∧ b ≤ a + 20 ∧ Tri r ∧ 0 ≤ v ∧ v ≤ 2 := by
      unfold st_pilemake_Stream_Tries_4
      (dsimp +instances only [gi0,gis,row1,rows1,int1,str1,bool1])
      refine Ret.pos (by (first|rfl|assumption|(simp only [inI,sl]<;>omega))) ?_
      refine Ret.call (r_PickB 0 2 l a _ ha (by omega) (by kernel_rfl) (by kernel_rfl)) ?_
      rintro _ ⟨v, rfl, hv0, hv1⟩
      (dsimp +instances only [gi0,gis,row1,rows1,int1,str1,bool1])
      refine Ret.pos (by (first|rfl|assumption|(simp only [inI,sl]<;>omega))) ?_
      refine Ret.call (r_SomeB calls l _ _ (by omega) (by omega) (by kernel_rfl) (by kernel_rfl)) ?_
      rintro _ ⟨c, rfl, hc⟩
      (dsimp +instances only [gi0,gis,row1,rows1,int1,str1,bool1])
      refine Ret.call (r_SomeB cats l _ _ (by omega) (by omega) (by kernel_rfl) (by kernel_rfl)) ?_
      rintro _ ⟨kc, rfl, hkc⟩
      (dsimp +instances only [gi0,gis,row1,rows1,int1,str1,bool1])
      refine Ret.call (r_PickB 0 9 l _ _ (by omega) (by omega) (by kernel_rfl) (by kernel_rfl)) ?_
      rintro _ ⟨p, rfl, hp0, hp1⟩
      (dsimp +instances only [gi0,gis,row1,rows1,int1,str1,bool1])
      refine Ret.call (r_Flip l _ 80 (by omega) (by omega) (by omega) (by omega)) ?_
      rintro _ ⟨f, rfl⟩
      (dsimp +instances only [gi0,gis,row1,rows1,int1,str1,bool1])
      cases f with
      | false =>
        (repeat(first|(refine Ret.pos ?_ ?_;(first|rfl|assumption|(simp only [inI,sl]<;>omega)))|(refine Ret.neg ?_ ?_;(first|rfl|assumption|(simp only [inI,sl]<;>omega)))))
        exact Ret.some ⟨_, _, v, rfl, by omega, by omega, ⟨_, _, _, _, rfl, ⟨by omega, by omega⟩, hc, hkc, by omega, by omega⟩, hv0, hv1⟩
      | true =>
        refine Ret.pos rfl ?_
        refine Ret.call (r_Odd l _ 0 9 (by omega) (by omega) (by omega) (by omega) (by omega)) ?_
        rintro _ ⟨t', rfl, ht'⟩
        (dsimp +instances only [gi0,gis,row1,rows1,int1,str1,bool1])
        refine Ret.call (r_Some (fun v => v ∈ calls) l _ [[.s c], [.s (⟨#[]⟩ : ByteArray)]] (by omega) (by omega) (by simp) (by simp) ?_) ?_
        · intro x hx
          simp only [List.mem_cons, List.not_mem_nil, or_false] at hx
          rcases hx with rfl | rfl
          · exact hc
          · exact inL_mem (by kernel_rfl)
        rintro _ ⟨c', rfl, hc'⟩
        (dsimp +instances only [gi0,gis,row1,rows1,int1,str1,bool1])
        refine Ret.call (r_Some (fun v => v ∈ cats) l _ [[.s kc], [.s (⟨#[65]⟩ : ByteArray)]] (by omega) (by omega) (by simp) (by simp) ?_) ?_
        · intro x hx
          simp only [List.mem_cons, List.not_mem_nil, or_false] at hx
          rcases hx with rfl | rfl
          · exact hkc
          · exact inL_mem (by kernel_rfl)
        rintro _ ⟨k', rfl, hk'⟩
        (dsimp +instances only [gi0,gis,row1,rows1,int1,str1,bool1])
        refine Ret.call (r_OddP l _ (by omega) (by omega)) ?_
        rintro _ ⟨p', rfl, hp'⟩
        (dsimp +instances only [gi0,gis,row1,rows1,int1,str1,bool1])
        (repeat(first|(refine Ret.pos ?_ ?_;(first|rfl|assumption|(simp only [inI,sl]<;>omega)))|(refine Ret.neg ?_ ?_;(first|rfl|assumption|(simp only [inI,sl]<;>omega)))))
        exact Ret.some ⟨_, _, v, rfl, by omega, by omega, ⟨_, _, _, _, rfl, ⟨by omega, by omega⟩, hc', hk', by omega, by omega⟩, hv0, hv1⟩
    obtain ⟨_, h, b, r, v, rfl, h1, h2, h3, h4, h5⟩ := key
    have ih := loop_Tries l n hn k (i + 1) b (t + v) (acc ++ [r]) (by omega) (by omega) (by omega) (by omega) (by omega) (by omega) (by
      intro z hz
      rcases List.mem_append.1 hz with hz | hz
      · exact hQ z hz
      · simp at hz; exact hz ▸ h3) (by simp [hl])
    refine RetN.next h (ih.mono ?_)
    rintro c g ⟨rfl, b', rows, rfl, q1, q2, q3, q4⟩
    exact ⟨rfl, b', rows, rfl, by omega, by omega, q3, q4⟩
theorem r_Tries (l : List (List G)) (a : Int) (ha : 0 ≤ a) (ha1 : a ≤ 1000) :
    Ret (F_pilemake_Stream_Tries [.l l, .i a]) fun g => ∃ b rows, g = [.l l, .i b, .l rows] ∧ 0 ≤ b ∧ b ≤ 5000 ∧ (∀ z ∈ rows, Tri z) ∧ rows.length ≤ 8 := by
  unfold F_pilemake_Stream_Tries
  (dsimp +instances only [gi0,gis,row1,rows1,int1,str1,bool1])
  refine Ret.call (r_Range l a 0 8 ha (by omega) (by omega) (by omega) (by omega)) ?_
  rintro _ ⟨n, rfl, h0, h1⟩
  (dsimp +instances only [gi0,gis,row1,rows1,int1,str1,bool1])
  obtain ⟨n, rfl⟩ := Int.eq_ofNat_of_zero_le h0
  refine Ret.loop ((loop_Tries l n (by omega) n 0 (a + 1) 0 [] (by omega) (by omega) (by omega) (by omega) (by omega) (by omega) (by simp) rfl).to (by omega)) rfl ?_
  rintro c g ⟨rfl, b, rows, rfl, q1, q2, q3, q4⟩
  (dsimp +instances only [gi0,gis,row1,rows1,int1,str1,bool1])
  have hs := sortA_all (lt := ltC ordV) q3
  have hsl := sortA_length (ltC ordV) rows
  refine Ret.callb (Ret.eq (sortTries_eq rows q3 (by omega))) (by (first|rfl|assumption|(simp only [inI,sl]<;>omega))) ?_
  rintro _ rfl
  (dsimp +instances only [gi0,gis,row1,rows1,int1,str1,bool1])
  refine Ret.pos (by simp [hsl]) (Ret.some ⟨b, _, rfl, by omega, by omega, hs, by omega⟩)
/-! ### What is wrong with tries -/
def faultT1 (x : List G) : Int :=
  bif !inB (gi x 0).int 0 4000 then 1 else bif !okCall (gi x 1).str then 3 else bif !okCat (gi x 2).str then 5 else bif !inB (gi x 3).int 0 1000000000000 then 1 else 0
def stepT (rows : List (List G)) (i : Nat) : Int :=
  if faultT1 (rows.getD i []) ≠ 0 then faultT1 (rows.getD i []) else if 0 < i ∧ 0 ≤ ordT (rows.getD (i - 1) []) (rows.getD i []) then 7 else 0
def faultTr (rows : List (List G)) : Int := if 500 < rows.length then 2 else fw (stepT rows) rows.length
theorem isDay_ok (t : Int) : F_club_isDay [.i t] = some [.t (inB t 0 4000)] := by
  unfold F_club_isDay
  (dsimp +instances only [gi0,gis,row1,rows1,int1,str1,bool1])
  rw [outside_eq]
  show some [G.t (!(!inB t 0 4000))] = _
  rw [Bool.not_not]
theorem or_three (a b c : Int) : F_cmp_Or_int [.l [[.i a], [.i b], [.i c]]] = some [.i (or2 a (or2 b c))] := by
  refine Ret.toEq ?_
  unfold F_cmp_Or_int
  (dsimp +instances only [gi0,gis,row1,rows1,int1,str1,bool1])
  have h := or_runs [[.i a], [.i b], [.i c]] [] (by simp)
  refine Ret.loop (h.to (by simp)) (by (first|rfl|assumption|(simp only [inI,sl]<;>omega))) ?_
  rintro x g ⟨hx, rfl⟩
  have q : orL [[.i a], [.i b], [.i c]] = or2 a (or2 b c) := by
    simp only [orL, or2]
    (dsimp +instances only [gi0,gis,row1,rows1,int1,str1,bool1])
    by_cases h1 : a = 0 <;> by_cases h2 : b = 0 <;> by_cases h3 : c = 0 <;> simp [h1, h2, h3]
  rw [q]
  (dsimp +instances only [gi0,gis,row1,rows1,int1,str1,bool1])
  exact Ret.test (fun _ => Ret.some rfl) fun _ => Ret.some rfl
theorem checkTries_step (rows : List (List G)) (hr : ∀ z ∈ rows, Tri z) (hn : rows.length ≤ 500) (i : Nat) (hi : i < rows.length) :
    Ret (st_club_CheckTries_4 [.l rows, .l rows, .i (rows.length : Int), .i (i : Int)]) fun o => (stepT rows i = 0 ∧ o = (none, [.l rows, .l rows, .i (rows.length : Int), .i ((i + 1 : Nat) : Int)])) ∨ (stepT rows i ≠ 0 ∧ o = (some 0, [.i (stepT rows i)])) := by
  obtain ⟨t, c, k, p, hx, ht, hc, hk, hp⟩ := hr _ (getD_row hi)
  have ef : faultT1 (rows.getD i []) = bif !inB t 0 4000 then 1 else bif !okCall c then 3 else bif !okCat k then 5 else bif !inB p 0 1000000000000 then 1 else 0 := by
    rw [hx]
    rfl
  have fin : ∀ v : Int, faultT1 (rows.getD i []) = v → v ≠ 0 → stepT rows i = v := fun v h h0 => by
    unfold stepT
    rw [h, if_pos h0]
  unfold st_club_CheckTries_4
  (dsimp +instances only [gi0,gis,row1,rows1,int1,str1,bool1])
  simp only [Int.toNat_natCast]
  have f0 : (gi (rows.getD i []) 0).int = t := by rw [hx]; rfl
  have f1 : (gi (rows.getD i []) 1).str = c := by rw [hx]; rfl
  have f2 : (gi (rows.getD i []) 2).str = k := by rw [hx]; rfl
  have f3 : (gi (rows.getD i []) 3).int = p := by rw [hx]; rfl
  simp only [f0, f1, f2, f3]
  refine Ret.pos (by (first|rfl|assumption|(simp only [inI,sl]<;>omega))) (Ret.pos (by (first|rfl|assumption|(simp only [inI,sl]<;>omega))) ?_)
  refine Ret.call (Ret.eq (isDay_ok t)) ?_
  rintro _ rfl
  (dsimp +instances only [gi0,gis,row1,rows1,int1,str1,bool1])
  refine Ret.test (fun h => ?_) fun h0 => ?_
  · rw [fin 1 (by rw [ef, h]; rfl) (by omega)]
    exact Ret.some (.inr ⟨by omega, rfl⟩)
  rw [h0, cond_false] at ef
  refine Ret.call (Ret.eq (isCall_eq hc)) ?_
  rintro _ rfl
  (dsimp +instances only [gi0,gis,row1,rows1,int1,str1,bool1])
  refine Ret.test (fun h => ?_) fun h1 => ?_
  · rw [fin 3 (by rw [ef, h]; rfl) (by omega)]
    exact Ret.some (.inr ⟨by omega, rfl⟩)
  rw [h1, cond_false] at ef
  refine Ret.call (Ret.eq (isCat_eq hk)) ?_
  rintro _ rfl
  (dsimp +instances only [gi0,gis,row1,rows1,int1,str1,bool1])
  refine Ret.test (fun h => ?_) fun h2 => ?_
  · rw [fin 5 (by rw [ef, h]; rfl) (by omega)]
    exact Ret.some (.inr ⟨by omega, rfl⟩)
  rw [h2, cond_false] at ef
  refine Ret.call (Ret.eq (outside_eq p 0 1000000000000)) ?_
  rintro _ rfl
  (dsimp +instances only [gi0,gis,row1,rows1,int1,str1,bool1])
  refine Ret.test (fun h => ?_) fun h3 => ?_
  · rw [fin 1 (by rw [ef, h]; rfl) (by omega)]
    exact Ret.some (.inr ⟨by omega, rfl⟩)
  rw [h3, cond_false] at ef
  have e : stepT rows i = if 0 < i ∧ 0 ≤ ordT (rows.getD (i - 1) []) (rows.getD i []) then 7 else 0 := by
    unfold stepT
    rw [ef, if_neg (by simp)]
  refine Ret.test (fun h => ?_) fun h => ?_
  · simp only [ltI_eq, decide_eq_true_eq] at h
    have ei : ((i : Int) - 1).toNat = i - 1 := by omega
    simp only [ei]
    refine Ret.pos (by (first|rfl|assumption|(simp only [inI,sl]<;>omega))) (Ret.pos (by (first|rfl|assumption|(simp only [inI,sl]<;>omega))) ?_)
    refine Ret.call (Ret.eq (cmpInt_eq _ _)) ?_
    rintro _ rfl
    refine Ret.pos (by (first|rfl|assumption|(simp only [inI,sl]<;>omega))) (Ret.pos (by (first|rfl|assumption|(simp only [inI,sl]<;>omega))) ?_)
    refine Ret.call (P := fun g => g = [.i (cmpS (gi (rows.getD (i - 1) []) 2).str k)]) (Ret.eq rfl) ?_
    rintro _ rfl
    refine Ret.pos (by (first|rfl|assumption|(simp only [inI,sl]<;>omega))) (Ret.pos (by (first|rfl|assumption|(simp only [inI,sl]<;>omega))) ?_)
    refine Ret.call (P := fun g => g = [.i (cmpS (gi (rows.getD (i - 1) []) 1).str c)]) (Ret.eq rfl) ?_
    rintro _ rfl
    (dsimp +instances only [gi0,gis,row1,rows1,int1,str1,bool1])
    refine Ret.call (P := fun g => g = [.i (ordT (rows.getD (i - 1) []) (rows.getD i []))]) (Ret.eq (by
      rw [or_three]
      unfold ordT
      rw [f0, f1, f2])) ?_
    rintro _ rfl
    (dsimp +instances only [gi0,gis,row1,rows1,int1,str1,bool1])
    refine Ret.test (fun h7 => ?_) fun h7 => ?_
    · simp only [leI_eq, decide_eq_true_eq] at h7
      rw [if_pos ⟨by omega, h7⟩] at e
      rw [e]
      exact Ret.some (.inr ⟨by omega, rfl⟩)
    · simp only [leI_eq, decide_eq_false_iff_not] at h7
      rw [if_neg (fun h' => h7 h'.2)] at e
      refine Ret.pos (by (first|rfl|assumption|(simp only [inI,sl]<;>omega))) (Ret.some (.inl ⟨e, rfl⟩))
  · simp only [ltI_eq, decide_eq_false_iff_not] at h
    rw [if_neg (by omega)] at e
    refine Ret.pos (by (first|rfl|assumption|(simp only [inI,sl]<;>omega))) (Ret.some (.inl ⟨e, rfl⟩))
theorem checkTries_ok (rows : List (List G)) (hr : ∀ z ∈ rows, Tri z) : F_club_CheckTries [.l rows] = some [.i (faultTr rows)] := by
  refine Ret.toEq ?_
  unfold F_club_CheckTries faultTr
  (dsimp +instances only [gi0,gis,row1,rows1,int1,str1,bool1])
  by_cases hn : 500 < rows.length
  · refine Ret.pos (by (first|rfl|assumption|(simp only [inI,sl]<;>omega))) ?_
    rw [if_pos hn]
    exact Ret.some rfl
  · refine Ret.neg (by (first|rfl|assumption|(simp only [inI,sl]<;>omega))) ?_
    rw [if_neg hn]
    refine Ret.loop (fw_loop (fun i => [.l rows, .l rows, .i (rows.length : Int), .i (i : Int)]) rows.length (stepT rows) [] (by omega) (checkTries_step rows hr (by omega)) ?_) rfl ?_
    · unfold st_club_CheckTries_4
      (dsimp +instances only [gi0,gis,row1,rows1,int1,str1,bool1])
      (repeat(first|(refine Ret.pos ?_ ?_;(first|rfl|assumption|(simp only [inI,sl]<;>omega)))|(refine Ret.neg ?_ ?_;(first|rfl|assumption|(simp only [inI,sl]<;>omega)))))
      exact Ret.some rfl
    · rintro _ _ (⟨rfl, h, rfl⟩ | ⟨rfl, rfl, _⟩)
      · rw [h]
        exact Ret.some rfl
      · exact Ret.some rfl
theorem triesFault_step (rows : List (List G)) (hr : ∀ z ∈ rows, Tri z) (hn : rows.length ≤ 500) (i : Nat) (hi : i < rows.length) :
    Ret (st_pileref2_TriesFault_4 [.l rows, .l rows, .i (rows.length : Int), .i (i : Int)]) fun o => (stepT rows i = 0 ∧ o = (none, [.l rows, .l rows, .i (rows.length : Int), .i ((i + 1 : Nat) : Int)])) ∨ (stepT rows i ≠ 0 ∧ o = (some 0, [.i (stepT rows i)])) := by
  obtain ⟨t, c, k, p, hx, ht, hc, hk, hp⟩ := hr _ (getD_row hi)
  have ef : faultT1 (rows.getD i []) = bif !inB t 0 4000 then 1 else bif !okCall c then 3 else bif !okCat k then 5 else bif !inB p 0 1000000000000 then 1 else 0 := by
    rw [hx]
    rfl
  have fin : ∀ v : Int, faultT1 (rows.getD i []) = v → v ≠ 0 → stepT rows i = v := fun v h h0 => by
    unfold stepT
    rw [h, if_pos h0]
  unfold st_pileref2_TriesFault_4
  (dsimp +instances only [gi0,gis,row1,rows1,int1,str1,bool1])
  simp only [Int.toNat_natCast]
  have f0 : (gi (rows.getD i []) 0).int = t := by rw [hx]; rfl
  have f1 : (gi (rows.getD i []) 1).str = c := by rw [hx]; rfl
  have f2 : (gi (rows.getD i []) 2).str = k := by rw [hx]; rfl
  have f3 : (gi (rows.getD i []) 3).int = p := by rw [hx]; rfl
  simp only [f0, f1, f2, f3]
  refine Ret.pos (by (first|rfl|assumption|(simp only [inI,sl]<;>omega))) (Ret.pos (by (first|rfl|assumption|(simp only [inI,sl]<;>omega))) ?_)
  refine Ret.call (Ret.eq (in_eq t 0 4000)) ?_
  rintro _ rfl
  (dsimp +instances only [gi0,gis,row1,rows1,int1,str1,bool1])
  refine Ret.test (fun h => ?_) fun h0 => ?_
  · rw [fin 1 (by rw [ef, h]; rfl) (by omega)]
    exact Ret.some (.inr ⟨by omega, rfl⟩)
  rw [h0, cond_false] at ef
  refine Ret.call (Ret.eq (call_eq hc)) ?_
  rintro _ rfl
  (dsimp +instances only [gi0,gis,row1,rows1,int1,str1,bool1])
  refine Ret.test (fun h => ?_) fun h1 => ?_
  · rw [fin 3 (by rw [ef, h]; rfl) (by omega)]
    exact Ret.some (.inr ⟨by omega, rfl⟩)
  rw [h1, cond_false] at ef
  refine Ret.call (Ret.eq (cat_eq hk)) ?_
  rintro _ rfl
  (dsimp +instances only [gi0,gis,row1,rows1,int1,str1,bool1])
  refine Ret.test (fun h => ?_) fun h2 => ?_
  · rw [fin 5 (by rw [ef, h]; rfl) (by omega)]
    exact Ret.some (.inr ⟨by omega, rfl⟩)
  rw [h2, cond_false] at ef
  refine Ret.call (Ret.eq (in_eq p 0 1000000000000)) ?_
  rintro _ rfl
  (dsimp +instances only [gi0,gis,row1,rows1,int1,str1,bool1])
  refine Ret.test (fun h => ?_) fun h3 => ?_
  · rw [fin 1 (by rw [ef, h]; rfl) (by omega)]
    exact Ret.some (.inr ⟨by omega, rfl⟩)
  rw [h3, cond_false] at ef
  have e : stepT rows i = if 0 < i ∧ 0 ≤ ordT (rows.getD (i - 1) []) (rows.getD i []) then 7 else 0 := by
    unfold stepT
    rw [ef, if_neg (by simp)]
  refine Ret.test (fun h => ?_) fun h => ?_
  · simp only [ltI_eq, decide_eq_true_eq] at h
    have ei : ((i : Int) - 1).toNat = i - 1 := by omega
    simp only [ei]
    refine Ret.pos (by (first|rfl|assumption|(simp only [inI,sl]<;>omega))) (Ret.pos (by (first|rfl|assumption|(simp only [inI,sl]<;>omega))) ?_)
    have eo : ordT (rows.getD (i - 1) []) (rows.getD i []) = or2 (cmpI (gi (rows.getD (i - 1) []) 0).int t) (or2 (cmpS (gi (rows.getD (i - 1) []) 2).str k) (cmpS (gi (rows.getD (i - 1) []) 1).str c)) := by
      unfold ordT
      rw [f0, f1, f2]
    have q1 := @cmpI_lt (gi (rows.getD (i - 1) []) 0).int t
    have q2 := @cmpI_z (gi (rows.getD (i - 1) []) 0).int t
    refine Ret.test (fun h6 => ?_) fun h6 => ?_
    · simp only [ltI_eq, decide_eq_true_eq] at h6
      have h7 : 0 ≤ ordT (rows.getD (i - 1) []) (rows.getD i []) := by
        rw [eo]
        unfold or2
        rw [if_pos (by omega)]
        omega
      rw [if_pos ⟨by omega, h7⟩] at e
      rw [e]
      exact Ret.some (.inr ⟨by omega, rfl⟩)
    · simp only [ltI_eq, decide_eq_false_iff_not] at h6
      refine Ret.test (fun h5 => ?_) fun h5 => ?_
      · have h5 : (gi (rows.getD (i - 1) []) 0).int = t := by simpa using h5
        have h8 : ordT (rows.getD (i - 1) []) (rows.getD i []) = or2 (cmpS (gi (rows.getD (i - 1) []) 2).str k) (cmpS (gi (rows.getD (i - 1) []) 1).str c) := by
          rw [eo]
          generalize or2 (cmpS (gi (rows.getD (i - 1) []) 2).str k) (cmpS (gi (rows.getD (i - 1) []) 1).str c) = w
          unfold or2
          rw [if_neg (by omega)]
        obtain ⟨v, hv, hvv⟩ := cmpTwo_eq (gi (rows.getD (i - 1) []) 2).str (gi (rows.getD (i - 1) []) 1).str k c
        refine Ret.call (P := fun g => g = [.i v]) (Ret.eq hv) ?_
        rintro _ rfl
        (dsimp +instances only [gi0,gis,row1,rows1,int1,str1,bool1])
        refine Ret.test (fun h7 => ?_) fun h7 => ?_
        · simp only [leI_eq, decide_eq_true_eq] at h7
          rw [if_pos ⟨by omega, by rw [h8]; exact hvv.1 h7⟩] at e
          rw [e]
          exact Ret.some (.inr ⟨by omega, rfl⟩)
        · simp only [leI_eq, decide_eq_false_iff_not] at h7
          rw [if_neg (fun h' => h7 (hvv.2 (by rw [← h8]; exact h'.2)))] at e
          refine Ret.pos (by (first|rfl|assumption|(simp only [inI,sl]<;>omega))) (Ret.some (.inl ⟨e, rfl⟩))
      · have h5 : ¬ (gi (rows.getD (i - 1) []) 0).int = t := by simpa using h5
        have h8 : ¬ 0 ≤ ordT (rows.getD (i - 1) []) (rows.getD i []) := by
          rw [eo]
          unfold or2
          rw [if_pos (by omega)]
          omega
        rw [if_neg (fun h' => h8 h'.2)] at e
        refine Ret.pos (by (first|rfl|assumption|(simp only [inI,sl]<;>omega))) (Ret.some (.inl ⟨e, rfl⟩))
  · simp only [ltI_eq, decide_eq_false_iff_not] at h
    rw [if_neg (by omega)] at e
    refine Ret.pos (by (first|rfl|assumption|(simp only [inI,sl]<;>omega))) (Ret.some (.inl ⟨e, rfl⟩))
theorem triesFault_ok (rows : List (List G)) (hr : ∀ z ∈ rows, Tri z) : F_pileref2_TriesFault [.l rows] = some [.i (faultTr rows)] := by
  refine Ret.toEq ?_
  unfold F_pileref2_TriesFault faultTr
  (dsimp +instances only [gi0,gis,row1,rows1,int1,str1,bool1])
  by_cases hn : 500 < rows.length
  · refine Ret.pos (by (first|rfl|assumption|(simp only [inI,sl]<;>omega))) ?_
    rw [if_pos hn]
    exact Ret.some rfl
  · refine Ret.neg (by (first|rfl|assumption|(simp only [inI,sl]<;>omega))) ?_
    rw [if_neg hn]
    refine Ret.loop (fw_loop (fun i => [.l rows, .l rows, .i (rows.length : Int), .i (i : Int)]) rows.length (stepT rows) [] (by omega) (triesFault_step rows hr (by omega)) ?_) rfl ?_
    · unfold st_pileref2_TriesFault_4
      (dsimp +instances only [gi0,gis,row1,rows1,int1,str1,bool1])
      (repeat(first|(refine Ret.pos ?_ ?_;(first|rfl|assumption|(simp only [inI,sl]<;>omega)))|(refine Ret.neg ?_ ?_;(first|rfl|assumption|(simp only [inI,sl]<;>omega)))))
      exact Ret.some rfl
    · rintro _ _ (⟨rfl, h, rfl⟩ | ⟨rfl, rfl, _⟩)
      · rw [h]
        exact Ret.some rfl
      · exact Ret.some rfl
theorem days_rise {l : List (List G)} (hn : l.length ≤ 500) (h : faultTr l = 0) : ∀ i, i + 1 < l.length → (gi (l.getD i []) 0).int ≤ (gi (l.getD (i + 1) []) 0).int := fun i hi => by
  unfold faultTr at h
  rw [if_neg (by omega)] at h
  have h1 := fw_zero h (i + 1) hi
  unfold stepT at h1
  split at h1
  · rename_i h2
    exact (h2 h1).elim
  · split at h1
    · cases h1
    · rename_i h3
      rw [Nat.add_sub_cancel] at h3
      have h4 : ¬ 0 ≤ ordT (l.getD i []) (l.getD (i + 1) []) := fun h => h3 ⟨by omega, h⟩
      have q1 := @cmpI_lt (gi (l.getD i []) 0).int (gi (l.getD (i + 1) []) 0).int
      have q2 := @cmpI_z (gi (l.getD i []) 0).int (gi (l.getD (i + 1) []) 0).int
      unfold ordT at h4
      by_cases hz : cmpI (gi (l.getD i []) 0).int (gi (l.getD (i + 1) []) 0).int = 0
      · exact Int.le_of_eq (q2.1 hz)
      · unfold or2 at h4
        rw [if_pos hz] at h4
        exact Int.le_of_lt (q1.1 (by omega))
theorem days_after {l : List (List G)} (hn : l.length ≤ 500) (h : faultTr l = 0) (i : Nat) : ∀ k, i + k < l.length → (gi (l.getD i []) 0).int ≤ (gi (l.getD (i + k) []) 0).int
  | 0, _ => Int.le_refl _
  | k + 1, hk => Int.le_trans (days_after hn h i k (by omega)) (days_rise hn h (i + k) (by omega))
end
end Go.Proofs.SYtbckadmdebkogaaGreatDoor

namespace Go.Proofs.SYtbckadmdebkogaaGreatDoor
open Go Go.AL Go.Proofs
noncomputable section
def zB : List G := [.s (⟨#[]⟩ : ByteArray), .s (⟨#[]⟩ : ByteArray), .i 0, .i 0]
def vB (x : List G) : List G := [.s (gi x 2).str, .s (gi x 1).str, .i (gi x 3).int, .i (gi x 0).int]
def Rec (v : List G) : Prop := ∃ (c s : ByteArray) (p d : Int), v = [.s c, .s s, .i p, .i d] ∧ c ∈ cats
theorem Rec.eta {v : List G} (h : Rec v) : gEta KBest v = [.s (gi v 0).str, .s (gi v 1).str, .i (gi v 2).int, .i (gi v 3).int] ∨ True := .inr trivial
def bStep (s : List (List G) × Nat) (x : List G) : List (List G) × Nat :=
  bif !mhas [.str] s.1 [.s (gi x 2).str] then (mput [.str] s.1 [.s (gi x 2).str] (vB x) s.2, mclk [.str] s.1 [.s (gi x 2).str] s.2) else
    bif ltI (gi (mget [.str] s.1 [.s (gi x 2).str] zB) 2).int (gi x 3).int then (mput [.str] s.1 [.s (gi x 2).str] (vB x) s.2, mclk [.str] s.1 [.s (gi x 2).str] s.2) else s
def bestOf (day : Int) (l : List (List G)) : List (List G) × Nat := (l.filter fun x => leI (gi x 0).int day).foldl bStep ([], 0)
theorem best_take {day : Int} {l : List (List G)} {i : Nat} {x : List G} (ht : l.take (i + 1) = l.take i ++ [x]) : bestOf day (l.take (i + 1)) = bif leI (gi x 0).int day then bStep (bestOf day (l.take i)) x else bestOf day (l.take i) := by
  unfold bestOf
  rw [ht, List.filter_append]
  cases h : leI (gi x 0).int day with
  | true =>
    rw [cond_true]
    simp only [List.filter_cons, h, if_true, List.filter_nil, List.foldl_append, List.foldl_cons, List.foldl_nil]
  | false =>
    rw [cond_false]
    simp [h]
theorem records8 (l : List (List G)) (day : Int) (hn : l.length ≤ 500) (hf : faultTr l = 0) :
    RetL st_club_Records_8 [.l [], .i 0, .i day, .l l, .i (l.length : Int), .i 0] fun c g => c = 0 ∧ g = [.l (bestOf day l).1, .i ((bestOf day l).2 : Int)] := by
  have r := range_inv (st := st_club_Records_8) (σ := List (List G) × Nat) (fun s i => [.l s.1, .i (s.2 : Int), .i day, .l l, .i (l.length : Int), .i (i : Int)]) l (fun s => (0, [.l s.1, .i (s.2 : Int)]))
    (fun s i => s = bestOf day (l.take i)) (fun c g => c = 0 ∧ g = [.l (bestOf day l).1, .i ((bestOf day l).2 : Int)]) ([], 0) (by omega) rfl
    (fun s i x hs hi hx hm ht => by
      have hstep := best_take (day := day) ht
      rw [← hs] at hstep
      unfold st_club_Records_8
      (dsimp +instances only [gi0,gis,row1,rows1,int1,str1,bool1])
      simp only [Int.toNat_natCast, hx]
      refine Ret.pos (by (first|rfl|assumption|(simp only [inI,sl]<;>omega))) (Ret.pos (by (first|rfl|assumption|(simp only [inI,sl]<;>omega))) (Ret.test (fun h => ?_) fun h => ?_))
      · simp only [ltI_eq, decide_eq_true_eq] at h
        have hrest : bestOf day l = s := by
          have hd : (l.drop i).filter (fun x => leI (gi x 0).int day) = [] := by
            rw [List.filter_eq_nil_iff]
            intro y hy
            obtain ⟨k, hk, rfl⟩ := List.getElem_of_mem hy
            rw [List.length_drop] at hk
            have := days_after hn hf i k (by omega)
            rw [hx] at this
            have e : l.getD (i + k) [] = (l.drop i)[k]'(by rw [List.length_drop]; omega) := by
              rw [List.getElem_drop, List.getD_eq_getElem?_getD, List.getElem?_eq_getElem (by omega)]
              rfl
            rw [e] at this
            rw [leI_eq, decide_eq_true_eq]
            omega
          rw [hs]
          unfold bestOf
          conv => lhs; rw [← List.take_append_drop i l]
          rw [List.filter_append, hd, List.append_nil]
        refine Ret.some (.inr ⟨0, _, rfl, rfl, ?_⟩)
        rw [hrest]
      · simp only [ltI_eq, decide_eq_false_iff_not] at h
        rw [leI_eq, decide_eq_true (by omega), cond_true] at hstep
        unfold bStep at hstep
        refine Ret.test (fun h1 => ?_) fun h1 => ?_
        · rw [h1, cond_true] at hstep
          exact Ret.pos (by (first|rfl|assumption|(simp only [inI,sl]<;>omega))) (Ret.some (.inl ⟨_, rfl, hstep.symm⟩))
        · rw [h1, cond_false] at hstep
          refine Ret.test (fun h2 => ?_) fun h2 => ?_
          · have h2 : ltI (gi (mget [.str] s.1 [.s (gi x 2).str] zB) 2).int (gi x 3).int = true := h2
            rw [h2, cond_true] at hstep
            exact Ret.pos (by (first|rfl|assumption|(simp only [inI,sl]<;>omega))) (Ret.some (.inl ⟨_, rfl, hstep.symm⟩))
          · have h2 : ltI (gi (mget [.str] s.1 [.s (gi x 2).str] zB) 2).int (gi x 3).int = false := h2
            rw [h2, cond_false] at hstep
            exact Ret.pos (by (first|rfl|assumption|(simp only [inI,sl]<;>omega))) (Ret.some (.inl ⟨s, rfl, hstep.symm⟩)))
    (fun s hI => by
      unfold st_club_Records_8
      (dsimp +instances only [gi0,gis,row1,rows1,int1,str1,bool1])
      exact Ret.neg (by (first|rfl|assumption|(simp only [inI,sl]<;>omega))) (Ret.some rfl))
  refine r.mono ?_
  rintro c g (⟨s, hs, rfl, rfl⟩ | h)
  · rw [List.take_length] at hs
    rw [hs]
    exact ⟨rfl, rfl⟩
  · exact h
theorem recordsOf3 (l : List (List G)) (day : Int) (hn : l.length ≤ 500) :
    RetL st_pileref2_RecordsOf_3 [.l [], .i 0, .i day, .l l, .i (l.length : Int), .i 0] fun c g => c = 0 ∧ g = [.l (bestOf day l).1, .i ((bestOf day l).2 : Int)] := by
  have r := range_all (st := st_pileref2_RecordsOf_3) (σ := List (List G) × Nat) (fun s i => [.l s.1, .i (s.2 : Int), .i day, .l l, .i (l.length : Int), .i (i : Int)]) l (fun s => (0, [.l s.1, .i (s.2 : Int)]))
    (fun s i => s = bestOf day (l.take i)) ([], 0) (by omega) rfl
    (fun s i x hs hi hx hm ht => by
      have hstep := best_take (day := day) ht
      rw [← hs] at hstep
      unfold st_pileref2_RecordsOf_3
      (dsimp +instances only [gi0,gis,row1,rows1,int1,str1,bool1])
      simp only [Int.toNat_natCast, hx]
      refine Ret.pos (by (first|rfl|assumption|(simp only [inI,sl]<;>omega))) (Ret.pos (by (first|rfl|assumption|(simp only [inI,sl]<;>omega))) (Ret.test (fun h => ?_) fun h => ?_))
      · rw [h, cond_true] at hstep
        unfold bStep at hstep
        refine Ret.test (fun h1 => ?_) fun h1 => ?_
        · rw [h1, cond_true] at hstep
          exact Ret.pos (by (first|rfl|assumption|(simp only [inI,sl]<;>omega))) (Ret.some ⟨_, rfl, hstep.symm⟩)
        · rw [h1, cond_false] at hstep
          refine Ret.test (fun h2 => ?_) fun h2 => ?_
          · have h2 : ltI (gi (mget [.str] s.1 [.s (gi x 2).str] zB) 2).int (gi x 3).int = true := h2
            rw [h2, cond_true] at hstep
            exact Ret.pos (by (first|rfl|assumption|(simp only [inI,sl]<;>omega))) (Ret.some ⟨_, rfl, hstep.symm⟩)
          · have h2 : ltI (gi (mget [.str] s.1 [.s (gi x 2).str] zB) 2).int (gi x 3).int = false := h2
            rw [h2, cond_false] at hstep
            exact Ret.pos (by (first|rfl|assumption|(simp only [inI,sl]<;>omega))) (Ret.some ⟨s, rfl, hstep.symm⟩)
      · rw [h, cond_false] at hstep
        exact Ret.pos (by (first|rfl|assumption|(simp only [inI,sl]<;>omega))) (Ret.some ⟨s, rfl, hstep.symm⟩))
    (fun s hI => by
      unfold st_pileref2_RecordsOf_3
      (dsimp +instances only [gi0,gis,row1,rows1,int1,str1,bool1])
      exact Ret.neg (by (first|rfl|assumption|(simp only [inI,sl]<;>omega))) (Ret.some rfl))
  refine r.mono ?_
  rintro c g ⟨s, hs, rfl, rfl⟩
  rw [List.take_length] at hs
  rw [hs]
  exact ⟨rfl, rfl⟩
/-! ### The map of records -/
theorem rowStr (s : ByteArray) (r : List G) : rowEq [.str] [.s s] (gi r 0).row = decide (s = strK r) := by
  simp only [rowEq, gEq, List.headD_cons, Bool.and_true, G.str]
  exact str_same s _
theorem hasStr (s : ByteArray) : ∀ m : List (List G), mhas [.str] m [.s s] = true ↔ s ∈ m.map strK
  | [] => by simp [mhas_nil]
  | r :: rs => by
    rw [mhas_cons, rowStr, Bool.or_eq_true, hasStr s rs, decide_eq_true_eq, List.map_cons, List.mem_cons]
theorem put_parts (s : ByteArray) (v : List G) (k : Nat) : ∀ m : List (List G),
    (mput [.str] m [.s s] v k).map strK = (bif mhas [.str] m [.s s] then m.map strK else m.map strK ++ [s]) ∧
    (mput [.str] m [.s s] v k).map bornG = (bif mhas [.str] m [.s s] then m.map bornG else m.map bornG ++ [k]) ∧
    ∀ e ∈ mput [.str] m [.s s] v k, e ∈ m ∨ ∃ z : Int, e = [.l [[.s s]], .l [v], .i z] ∧ ((∃ r ∈ m, z = (gi r 2).int) ∨ (z = k ∧ mhas [.str] m [.s s] = false))
  | [] => by
    rw [mput_nil, mhas_nil]
    refine ⟨rfl, by simp [bornG, gi, G.int], fun e he => .inr ⟨k, List.mem_singleton.1 he, .inr ⟨rfl, rfl⟩⟩⟩
  | r :: rs => by
    obtain ⟨h1, h2, h3⟩ := put_parts s v k rs
    rw [mput_cons, mhas_cons, rowStr]
    by_cases hs : s = strK r
    · rw [decide_eq_true hs, cond_true, Bool.true_or, cond_true, cond_true]
      refine ⟨?_, ?_, fun e he => ?_⟩
      · simp only [List.map_cons]
        rw [← hs]
        rfl
      · rfl
      · rcases List.mem_cons.1 he with rfl | he
        · exact .inr ⟨_, rfl, .inl ⟨r, List.mem_cons_self, rfl⟩⟩
        · exact .inl (List.mem_cons_of_mem _ he)
    · rw [decide_eq_false hs, cond_false, Bool.false_or]
      refine ⟨?_, ?_, fun e he => ?_⟩
      · rw [List.map_cons, h1]
        cases mhas [.str] rs [.s s] <;> rfl
      · rw [List.map_cons, h2]
        cases mhas [.str] rs [.s s] <;> rfl
      · rcases List.mem_cons.1 he with rfl | he
        · exact .inl List.mem_cons_self
        · rcases h3 e he with h | ⟨z, rfl, ⟨q, hq, rfl⟩ | ⟨rfl, hq⟩⟩
          · exact .inl (List.mem_cons_of_mem _ h)
          · exact .inr ⟨_, rfl, .inl ⟨q, List.mem_cons_of_mem _ hq, rfl⟩⟩
          · exact .inr ⟨_, rfl, .inr ⟨rfl, hq⟩⟩
structure BInv (m : List (List G)) (k : Nat) : Prop where
  form : ∀ e ∈ m, ∃ (v : List G) (n : Nat), e = [.l [[.s (gi v 0).str]], .l [v], .i (n : Int)] ∧ n < k ∧ Rec v
  born : (m.map bornG).Nodup
  keys : (m.map strK).Nodup
theorem BInv.put {m : List (List G)} {k : Nat} (h : BInv m k) {v : List G} (hv : Rec v) : BInv (mput [.str] m [.s (gi v 0).str] v k) (mclk [.str] m [.s (gi v 0).str] k) := by
  obtain ⟨h1, h2, h3⟩ := put_parts (gi v 0).str v k m
  have hlt : ∀ n ∈ m.map bornG, n < k := fun n hn => by
    obtain ⟨e, he, rfl⟩ := List.mem_map.1 hn
    obtain ⟨w, n, rfl, hn, _⟩ := h.form e he
    exact hn
  refine ⟨fun e he => ?_, ?_, ?_⟩
  · unfold mclk
    rcases h3 e he with he | ⟨z, rfl, ⟨r, hr, rfl⟩ | ⟨rfl, hq⟩⟩
    · obtain ⟨w, n, e1, hn, hw⟩ := h.form e he
      refine ⟨w, n, e1, ?_, hw⟩
      cases mhas [.str] m [.s (gi v 0).str]
      · exact Nat.lt_succ_of_lt hn
      · exact hn
    · obtain ⟨w, n, rfl, hn, _⟩ := h.form r hr
      refine ⟨v, n, rfl, ?_, hv⟩
      cases mhas [.str] m [.s (gi v 0).str]
      · exact Nat.lt_succ_of_lt hn
      · exact hn
    · rw [hq]
      exact ⟨v, k, rfl, Nat.lt_succ_self k, hv⟩
  · rw [h2]
    cases mhas [.str] m [.s (gi v 0).str] with
    | true => exact h.born
    | false =>
      rw [cond_false, List.nodup_append]
      refine ⟨h.born, by simp, fun a ha b hb e => ?_⟩
      rw [List.mem_singleton] at hb
      have := hlt a ha
      omega
  · rw [h1]
    cases hh : mhas [.str] m [.s (gi v 0).str] with
    | true => exact h.keys
    | false =>
      rw [cond_false, List.nodup_append]
      refine ⟨h.keys, by simp, fun a ha b hb e => ?_⟩
      rw [List.mem_singleton] at hb
      have : mhas [.str] m [.s (gi v 0).str] = true := (hasStr _ m).2 (by rw [← hb, ← e]; exact ha)
      rw [hh] at this
      cases this
theorem bStep_inv {s : List (List G) × Nat} (h : BInv s.1 s.2) {x : List G} (hx : Tri x) : BInv (bStep s x).1 (bStep s x).2 := by
  have hv : Rec (vB x) := by
    obtain ⟨t, c, k, p, rfl, _, _, hk, _⟩ := hx
    exact ⟨k, c, p, t, rfl, hk⟩
  have hp := h.put hv
  unfold bStep
  cases !mhas [.str] s.1 [.s (gi x 2).str] with
  | true => exact hp
  | false =>
    cases ltI (gi (mget [.str] s.1 [.s (gi x 2).str] zB) 2).int (gi x 3).int with
    | true => exact hp
    | false => exact h
theorem best_inv : ∀ (l : List (List G)) (s : List (List G) × Nat), BInv s.1 s.2 → (∀ z ∈ l, Tri z) → BInv (l.foldl bStep s).1 (l.foldl bStep s).2
  | [], s, h, _ => h
  | x :: l, s, h, hl => best_inv l (bStep s x) (bStep_inv h (hl x List.mem_cons_self)) fun z hz => hl z (List.mem_cons_of_mem _ hz)
theorem mputS_len (key v : List G) (c : Nat) : ∀ rows : List (List G), (mput [.str] rows key v c).length ≤ rows.length + 1
  | [] => by rw [mput_nil]; simp
  | r :: rs => by
    rw [mput_cons]
    have := mputS_len key v c rs
    cases rowEq [.str] key (gi r 0).row <;> simp <;> omega
theorem bStep_len (s : List (List G) × Nat) (x : List G) : (bStep s x).1.length ≤ s.1.length + 1 := by
  unfold bStep
  have := mputS_len [.s (gi x 2).str] (vB x) s.2 s.1
  cases !mhas [.str] s.1 [.s (gi x 2).str] with
  | true => exact this
  | false =>
    cases ltI (gi (mget [.str] s.1 [.s (gi x 2).str] zB) 2).int (gi x 3).int with
    | true => exact this
    | false => exact Nat.le_succ _
theorem best_len : ∀ (l : List (List G)) (s : List (List G) × Nat), (l.foldl bStep s).1.length ≤ s.1.length + l.length
  | [], s => by simp
  | x :: l, s => by
    have h1 := best_len l (bStep s x)
    have h2 := bStep_len s x
    simp only [List.foldl_cons, List.length_cons]
    omega
theorem nodupB_of : ∀ l : List Nat, l.Nodup → nodupB l = true
  | [], _ => rfl
  | a :: l, hl => by
    obtain ⟨h1, h2⟩ := List.nodup_cons.1 hl
    simp only [nodupB, nodupB_of l h2, Bool.and_true, Bool.not_eq_true']
    cases hc : l.any (Nat.beq a) with
    | false => rfl
    | true =>
      obtain ⟨x, hx, e⟩ := List.any_eq_true.1 hc
      rw [Nat.eq_of_beq_eq_true e] at h1
      exact (h1 hx).elim
theorem BInv.ok {m : List (List G)} {k : Nat} (h : BInv m k) : okSt m k = true := by
  simp only [okSt, nodupB_of _ h.born, Bool.true_and, List.all_eq_true, Nat.blt_eq]
  intro e he
  obtain ⟨v, n, rfl, hn, _⟩ := h.form e he
  exact hn
theorem cat_size {s : ByteArray} (h : s ∈ cats) : s.size ≤ maxLen := by
  simp only [cats, List.mem_cons, List.not_mem_nil, or_false] at h
  rcases h with rfl | rfl | rfl <;> decide
theorem BInv.keysOK {m : List (List G)} {k : Nat} (h : BInv m k) (hn : m.length ≤ 1000) : KeysOK m k := by
  refine ⟨h.ok, fun r hr => ?_, ?_, by omega⟩
  · obtain ⟨v, n, rfl, _, c, s, p, d, rfl, hc⟩ := h.form r hr
    exact cat_size hc
  · have := h.keys
    rw [List.nodup_iff_pairwise_ne, List.pairwise_map] at this ⊢
    exact this.imp fun hne e => hne (ByteArray.ext (Array.toList_inj.1 e))
theorem mget_key {m : List (List G)} {k : Nat} (h : BInv m k) : ∀ e ∈ m, mget [.str] m [.s (strK e)] zB = (gi e 1).row := by
  have key : ∀ m : List (List G), (m.map strK).Nodup → ∀ e ∈ m, mget [.str] m [.s (strK e)] zB = (gi e 1).row := fun m => by
    induction m with
    | nil => intro _ e he; cases he
    | cons r rs ih =>
      intro hk e he
      obtain ⟨h1, h2⟩ := List.nodup_cons.1 (show (strK r :: rs.map strK).Nodup from hk)
      rw [mget_cons, rowStr]
      rcases List.mem_cons.1 he with rfl | he
      · rw [decide_eq_true rfl, cond_true]
      · have hne : ¬ strK e = strK r := fun e' => h1 (by rw [← e']; exact List.mem_map_of_mem he)
        rw [decide_eq_false hne, cond_false]
        exact ih h2 e he
  exact key m h.keys
def ordB (r s : List G) : Int := cmpS (gi r 0).str (gi s 0).str
def valR (e : List G) : List G := gEta KBest (gi e 1).row
def outR (m : List (List G)) : List (List G) := (sortedK m).map fun r => gEta KBest (mget [.str] m [.s (gi r 0).str] zB)
theorem sortedK_perm (m : List (List G)) : (sortedK m).Perm (m.map fun r => [.s (strK r)]) := by
  unfold sortedK
  have h := ((List.mergeSort_perm (m.map fun r => (strK r).data.toList) leB).map fun bs => [G.s ⟨bs.toArray⟩])
  rw [List.map_map] at h
  exact h
theorem outR_perm {m : List (List G)} {k : Nat} (h : BInv m k) : (outR m).Perm (m.map valR) := by
  unfold outR
  refine ((sortedK_perm m).map _).trans ?_
  rw [List.map_map]
  refine (List.Perm.of_eq (List.map_congr_left fun e he => ?_))
  show gEta KBest (mget [.str] m [.s (strK e)] zB) = valR e
  rw [mget_key h e he]
  rfl
theorem lt_of_bytes : ∀ {a b : List UInt8}, Lib.compareBytes a b < 0 → a < b
  | [], [], h => by simp [Lib.compareBytes] at h
  | [], b :: bs, _ => List.nil_lt_cons b bs
  | a :: as_, [], h => by simp [Lib.compareBytes] at h
  | a :: as_, b :: bs, h => by
    simp only [Lib.compareBytes] at h
    rw [List.cons_lt_cons_iff]
    by_cases h1 : a < b
    · exact .inl h1
    · rw [if_neg h1] at h
      by_cases h2 : b < a
      · rw [if_pos h2] at h
        omega
      · rw [if_neg h2] at h
        exact .inr ⟨UInt8.le_antisymm (UInt8.not_lt.1 h2) (UInt8.not_lt.1 h1), lt_of_bytes h⟩
theorem sortedK_rise (m : List (List G)) : (sortedK m).Pairwise fun a b => ¬ cmpS (gi b 0).str (gi a 0).str < 0 := by
  have tr : ∀ a b c : List UInt8, leB a b = true → leB b c = true → leB a c = true := fun a b c h1 h2 => by simp only [leB, decide_eq_true_eq] at *; exact List.le_trans h1 h2
  have to : ∀ a b : List UInt8, (leB a b || leB b a) = true := fun a b => by simp only [leB, Bool.or_eq_true, decide_eq_true_eq]; exact List.le_total a b
  unfold sortedK
  rw [List.pairwise_map]
  refine (List.pairwise_mergeSort tr to _).imp fun {a b} h h2 => ?_
  simp only [leB, decide_eq_true_eq] at h
  have h3 : Lib.compareBytes b a < 0 := h2
  exact List.not_lt.2 h (lt_of_bytes h3)
theorem mget_cat {m : List (List G)} {k : Nat} (h : BInv m k) {r : List G} (hr : r ∈ sortedK m) : (gi (gEta KBest (mget [.str] m [.s (gi r 0).str] zB)) 0).str = (gi r 0).str := by
  obtain ⟨e, he, rfl⟩ := List.mem_map.1 ((sortedK_perm m).mem_iff.1 hr)
  show (gi (gEta KBest (mget [.str] m [.s (strK e)] zB)) 0).str = strK e
  rw [mget_key h e he]
  obtain ⟨v, n, rfl, _, c, s, p, d, rfl, _⟩ := h.form e he
  rfl
theorem outR_rise {m : List (List G)} {k : Nat} (h : BInv m k) : (outR m).Pairwise fun a b => ltC ordB b a = false := by
  unfold outR
  rw [List.pairwise_map]
  refine (List.Pairwise.imp_of_mem (fun {a b} ha hb hab => ?_) (sortedK_rise m))
  unfold ltC ordB
  rw [ltI_eq, decide_eq_false_iff_not, mget_cat h ha, mget_cat h hb]
  exact hab
theorem linB : Lin (ltC ordB) (fun _ => True) := lin_of (fun a b => ordrS.flip _ _) (fun a b d h1 h2 => ordrS.le _ _ _ h1 h2)
theorem sort_out {m : List (List G)} {k : Nat} (h : BInv m k) {p : List (List G)} (hp : p.Perm m) : sortA (ltC ordB) (p.map valR) = outR m := by
  have hperm : (sortA (ltC ordB) (p.map valR)).Perm (outR m) := (sortA_perm _).trans ((hp.map valR).trans (outR_perm h).symm)
  refine sorted_unique hperm (fun a ha b hb h1 h2 => ?_) (sortA_sorted linB fun _ _ => trivial) (outR_rise h)
  have hz : cmpS (gi a 0).str (gi b 0).str = 0 := by
    unfold ltC ordB at h1 h2
    rw [ltI_eq, decide_eq_false_iff_not] at h1 h2
    have := ordrS.flip (gi a 0).str (gi b 0).str
    omega
  have hz := cmpS_z.1 hz
  have ha := hperm.mem_iff.1 ha
  have hb := hperm.mem_iff.1 hb
  obtain ⟨r, hr, rfl⟩ := List.mem_map.1 ha
  obtain ⟨s, hs, rfl⟩ := List.mem_map.1 hb
  rw [mget_cat h hr, mget_cat h hs] at hz
  rw [hz]
/-! ### The two functions -/
theorem records17 (m : List (List G)) (k : Nat) (keys : List (List G)) (hn : keys.length ≤ 1000) :
    RetL st_club_Records_17 [.l m, .i (k : Int), .l [], .l keys, .i (keys.length : Int), .i 0] fun c g => c = 0 ∧ g = [.l (keys.map fun r => gEta KBest (mget [.str] m [.s (gi r 0).str] zB))] := by
  have r := range_all (st := st_club_Records_17) (σ := Unit) (fun _ i => [.l m, .i (k : Int), .l ((keys.take i).map fun r => gEta KBest (mget [.str] m [.s (gi r 0).str] zB)), .l keys, .i (keys.length : Int), .i (i : Int)]) keys
    (fun _ => (0, [.l (keys.map fun r => gEta KBest (mget [.str] m [.s (gi r 0).str] zB))])) (fun _ _ => True) () (by omega) trivial
    (fun _ i x _ hi hx hm ht => by
      have hmm : ((keys.take i).map fun r => gEta KBest (mget [.str] m [.s (gi r 0).str] zB)).length = i := by simp; omega
      unfold st_club_Records_17
      (dsimp +instances only [gi0,gis,row1,rows1,int1,str1,bool1])
      simp only [Int.toNat_natCast, hx]
      refine Ret.pos (by (first|rfl|assumption|(simp only [inI,sl]<;>omega))) (Ret.pos (by (first|rfl|assumption|(simp only [inI,sl]<;>omega))) (Ret.pos (by simp only [hmm, Bool.and_eq_true, Nat.beq_refl, decide_eq_true_eq, true_and]; omega) (Ret.pos (by (first|rfl|assumption|(simp only [inI,sl]<;>omega))) (Ret.pos (by simp) (Ret.some ⟨(), ?_, trivial⟩)))))
      rw [ht, List.map_append]
      rfl)
    (fun _ _ => by
      unfold st_club_Records_17
      (dsimp +instances only [gi0,gis,row1,rows1,int1,str1,bool1])
      rw [List.take_length]
      exact Ret.neg (by (first|rfl|assumption|(simp only [inI,sl]<;>omega))) (Ret.pos (by simp) (Ret.some rfl)))
  refine r.mono ?_
  rintro _ _ ⟨_, _, rfl, rfl⟩
  exact ⟨rfl, rfl⟩
theorem best_BInv (l : List (List G)) (day : Int) (hr : ∀ z ∈ l, Tri z) : BInv (bestOf day l).1 (bestOf day l).2 :=
  best_inv _ ([], 0) ⟨by simp, by simp, by simp⟩ fun z hz => hr z (List.mem_filter.1 hz).1
theorem best_small (l : List (List G)) (day : Int) : (bestOf day l).1.length ≤ l.length := by
  have h1 := best_len (l.filter fun x => leI (gi x 0).int day) ([], 0)
  have h2 := List.length_filter_le (fun x => leI (gi x 0).int day) l
  unfold bestOf
  simp only [List.length_nil] at h1
  omega
theorem records_ok (l : List (List G)) (day : Int) (hr : ∀ z ∈ l, Tri z) (hn : l.length ≤ 8) (hf : faultTr l = 0) (hd : inB day 0 4000 = true) : F_club_Records [.l l, .i day] = some [.l (outR (bestOf day l).1), .i 0] := by
  have hB := best_BInv l day hr
  have hs := best_small l day
  refine Ret.toEq ?_
  unfold F_club_Records
  (dsimp +instances only [gi0,gis,row1,rows1,int1,str1,bool1])
  refine Ret.call (Ret.eq (checkTries_ok l hr)) ?_
  rintro _ rfl
  rw [hf]
  refine Ret.neg rfl ?_
  refine Ret.call (Ret.eq (isDay_ok day)) ?_
  rintro _ rfl
  rw [hd]
  refine Ret.neg rfl ?_
  refine Ret.loop (records8 l day (by omega) hf) rfl ?_
  rintro _ _ ⟨rfl, rfl⟩
  (dsimp +instances only [gi0,gis,row1,rows1,int1,str1,bool1])
  simp only [Int.toNat_natCast]
  have hK := hB.keysOK (by omega)
  have hsort : F_slices_Sorted_string [.l (bestOf day l).1, .i ((bestOf day l).2 : Int)] = some [.l (bestOf day l).1, .i ((bestOf day l).2 : Int), .l (sortedK (bestOf day l).1)] := by
    unfold F_slices_Sorted_string keysG
    have hK' : KeysOK (gi [G.l (bestOf day l).1, .i ((bestOf day l).2 : Int)] 0).rows (gi [G.l (bestOf day l).1, .i ((bestOf day l).2 : Int)] 1).int.toNat := hK
    rw [if_pos hK']
    rfl
  refine Ret.call (P := fun g => g = [.l (bestOf day l).1, .i ((bestOf day l).2 : Int), .l (sortedK (bestOf day l).1)]) (Ret.eq hsort) ?_
  rintro _ rfl
  (dsimp +instances only [gi0,gis,row1,rows1,int1,str1,bool1])
  simp only [Int.toNat_natCast]
  have hkl : (sortedK (bestOf day l).1).length ≤ 8 := by
    rw [(sortedK_perm _).length_eq, List.length_map]
    omega
  refine Ret.loop (records17 (bestOf day l).1 (bestOf day l).2 (sortedK (bestOf day l).1) (by omega)) rfl ?_
  rintro _ _ ⟨rfl, rfl⟩
  (dsimp +instances only [gi0,gis,row1,rows1,int1,str1,bool1])
  exact Ret.pos (by simp) (Ret.some rfl)
theorem best1_ok {r s : List G} : F_pileref2_RecordsOf_1 [.l [r], .l [s]] = some [.i (ordB r s)] := rfl
def Bst (r : List G) : Prop := ∃ (c s : ByteArray) (p d : Int), r = [.s c, .s s, .i p, .i d]
theorem cmpBest : Cmp KBest F_pileref2_RecordsOf_1 Bst ordB := ⟨fun _ _ _ _ => best1_ok, fun _ h => by
  obtain ⟨c, s, p, d, rfl⟩ := h
  rfl⟩
theorem bbits_ok : ((List.range 13).all fun n => match F_bits_Len [.i (IntKind.u64.wrap ((n : Nat) : Int))] with
  | some [.i _] => true
  | _ => false) = true := by kernel_rfl
theorem br_bits (n : Nat) (h : n ≤ 12) : Ret (F_bits_Len [.i (IntKind.u64.wrap ((n : Nat) : Int))]) fun g => ∃ v, g = [.i v] := by
  have h1 := List.all_eq_true.1 bbits_ok n (List.mem_range.2 (by omega))
  split at h1
  · rename_i v e
    exact ⟨_, e, v, rfl⟩
  · cases h1
theorem pdq_Best (rows : List (List G)) (hr : ∀ y ∈ rows, Bst y) (hn : rows.length ≤ 12) (v : Int) : F_slices_pdqsortCmpFunc_Best [.l rows, .i 0, .i (rows.length : Int), .i v] = some [.l (sortA (ltC ordB) rows)] := by
  have hi : F_slices_insertionSortCmpFunc_Best [.l rows, .i 0, .i (rows.length : Int)] = some [.l (sortA (ltC ordB) rows)] := insF_eq cmpBest rows hr (by omega)
  refine Ret.toEq ?_
  unfold F_slices_pdqsortCmpFunc_Best
  (dsimp +instances only [gi0,gis,row1,rows1,int1,str1,bool1])
  refine Ret.loop (P := fun x g => g = [.l (sortA (ltC ordB) rows)]) (RetL.stop (x := 0) (Ret.toEq ?_) rfl) (by (first|rfl|assumption|(simp only [inI,sl]<;>omega))) ?_
  · unfold st_slices_pdqsortCmpFunc_Best_2
    (dsimp +instances only [gi0,gis,row1,rows1,int1,str1,bool1])
    refine Ret.pos (by (first|rfl|assumption|(simp only [inI,sl]<;>omega))) (Ret.pos (by (first|rfl|assumption|(simp only [inI,sl]<;>omega))) ?_)
    refine Ret.callb (Ret.eq hi) (by (first|rfl|assumption|(simp only [inI,sl]<;>omega))) ?_
    rintro _ rfl
    exact Ret.some rfl
  · rintro _ _ rfl
    exact Ret.some rfl
theorem sortFn_Best (rows : List (List G)) (hr : ∀ y ∈ rows, Bst y) (hn : rows.length ≤ 12) : F_slices_SortFunc_Best [.l rows] = some [.l (sortA (ltC ordB) rows)] := by
  refine Ret.toEq ?_
  unfold F_slices_SortFunc_Best
  (dsimp +instances only [gi0,gis,row1,rows1,int1,str1,bool1])
  refine Ret.call (br_bits rows.length hn) ?_
  rintro _ ⟨v, rfl⟩
  (dsimp +instances only [gi0,gis,row1,rows1,int1,str1,bool1])
  refine Ret.callb (Ret.eq (pdq_Best rows hr hn v)) (by (first|rfl|assumption|(simp only [inI,sl]<;>omega))) ?_
  rintro _ rfl
  exact Ret.some rfl
theorem foldR_short {st : List G → List G → Option (List G)} {adr : List G → Nat} {I : List (List G) → List G → Prop} {N : Nat} (hst : ∀ r p d, p.length < N → I p d → ∃ d', st r d = some d' ∧ adr d' = adr d ∧ I (p ++ [r]) d') :
    ∀ (q p : List (List G)) (d : List G), p.length + q.length ≤ N → I p d → ∃ d', foldR st adr q d = some d' ∧ adr d' = adr d ∧ I (p ++ q) d'
  | [], p, d, _, h => ⟨d, rfl, rfl, by simpa using h⟩
  | r :: q, p, d, hl, h => by
    simp only [List.length_cons] at hl
    obtain ⟨d1, h1, h2, h3⟩ := hst r p d (by omega) h
    obtain ⟨d2, h4, h5, h6⟩ := foldR_short hst q (p ++ [r]) d1 (by simp; omega) h3
    refine ⟨d2, ?_, by rw [h5, h2], by simpa using h6⟩
    simp only [foldR, h1]
    rw [h2, show Nat.beq (adr d) (adr d) = true from Nat.beq_refl _]
    exact h4
theorem tailRec {m : List (List G)} {k : Nat} (h : BInv m k) (hl : m.length ≤ 8) : tl_pileref2_RecordsOf_10 [.l m, .i (k : Int), .l []] = some (some 0, [.l (outR m)]) := by
  unfold tl_pileref2_RecordsOf_10
  (dsimp +instances only [gi0,gis,row1,rows1,int1,str1,bool1])
  simp only [Int.toNat_natCast]
  refine rangeR_of h.ok fun b p hp => ⟨?_, ?_⟩
  · unfold rs_pileref2_RecordsOf_10
    simp only []
    unfold rb_pileref2_RecordsOf_10
    (dsimp +instances only [gi0,gis,row1,rows1,int1,str1,bool1])
    simp only [Nat.beq_refl, Bool.and_true]
  · have hpl : p.length = m.length := hp.length_eq
    have hst : ∀ (r : List G) (p' : List (List G)) (d : List G), p'.length < 12 → d = [.l (p'.map valR), .i ((b : Nat) : Int)] →
        ∃ d', rs_pileref2_RecordsOf_10.st r d = some d' ∧ rs_pileref2_RecordsOf_10.adr d' = rs_pileref2_RecordsOf_10.adr d ∧ d' = [.l ((p' ++ [r]).map valR), .i ((b : Nat) : Int)] := by
      rintro r p' _ hlt rfl
      refine ⟨[.l ((p' ++ [r]).map valR), .i ((b : Nat) : Int)], Ret.toEq ?_, rfl, rfl⟩
      show Ret (sr_pileref2_RecordsOf_10 r _) _
      unfold sr_pileref2_RecordsOf_10
      (dsimp +instances only [gi0,gis,row1,rows1,int1,str1,bool1])
      simp only [Int.toNat_natCast]
      refine Ret.pos ?_ (Ret.pos ?_ (Ret.some ?_))
      · simp only [Nat.beq_refl, Bool.true_and, List.length_map, decide_eq_true_eq]
        omega
      · simp only [Nat.beq_refl, Bool.and_true]
      · rw [List.map_append]
        rfl
    obtain ⟨d', h1, _, h2⟩ := foldR_short hst p [] [.l [], .i ((b : Nat) : Int)] (by simp; omega) rfl
    subst h2
    refine ⟨_, h1, ?_⟩
    rw [List.nil_append]
    have hB : ∀ z ∈ p.map valR, Bst z := fun z hz => by
      obtain ⟨e, _, rfl⟩ := List.mem_map.1 hz
      exact ⟨_, _, _, _, rfl⟩
    refine Ret.toEq ?_
    unfold tr_pileref2_RecordsOf_10
    (dsimp +instances only [gi0,gis,row1,rows1,int1,str1,bool1])
    refine Ret.callb (Ret.eq (sortFn_Best (p.map valR) hB (by simp; omega))) (by (first|rfl|assumption|(simp only [inI,sl]<;>omega))) ?_
    rintro _ rfl
    (dsimp +instances only [gi0,gis,row1,rows1,int1,str1,bool1])
    refine Ret.pos ?_ (Ret.some ?_)
    · simp only [sortA_length, Nat.beq_refl, Bool.and_true]
    · rw [sort_out h hp]
theorem recordsOf_ok (l : List (List G)) (day : Int) (hr : ∀ z ∈ l, Tri z) (hn : l.length ≤ 8) : F_pileref2_RecordsOf [.l l, .i day] = some [.l (outR (bestOf day l).1)] := by
  have hB := best_BInv l day hr
  have hs := best_small l day
  refine Ret.toEq ?_
  unfold F_pileref2_RecordsOf
  (dsimp +instances only [gi0,gis,row1,rows1,int1,str1,bool1])
  refine Ret.loop (recordsOf3 l day (by omega)) rfl ?_
  rintro _ _ ⟨rfl, rfl⟩
  (dsimp +instances only [gi0,gis,row1,rows1,int1,str1,bool1])
  simp only [Int.toNat_natCast]
  refine Ret.tail (P := fun x g => x = 0 ∧ g = [.l (outR (bestOf day l).1)]) ?_ rfl ?_
  · exact ⟨_, tailRec hB (by omega), 0, rfl, rfl, rfl⟩
  · rintro _ _ ⟨rfl, rfl⟩
    (dsimp +instances only [gi0,gis,row1,rows1,int1,str1,bool1])
    exact Ret.pos (by simp) (Ret.some rfl)
/-! ### The law -/
theorem dayFault_ok (t : Int) : F_pilelaw2_dayFault [.i t] = some [.i (bif !inB t 0 4000 then 1 else 0)] := by
  refine Ret.toEq ?_
  unfold F_pilelaw2_dayFault
  (dsimp +instances only [gi0,gis,row1,rows1,int1,str1,bool1])
  have hw : ∀ b : Bool, F_pilelaw2_when [.t b, .i 1] = some [.i (bif b then 1 else 0)] := fun b => by cases b <;> rfl
  refine Ret.test (fun h => ?_) fun h => ?_
  · refine Ret.call (Ret.eq (hw true)) ?_
    rintro _ rfl
    refine Ret.some ?_
    simp only [ltI_eq, decide_eq_true_eq] at h
    have : inB t 0 4000 = false := by
      unfold inB
      rw [leI_eq, decide_eq_false (by omega)]
      rfl
    rw [this]
    rfl
  · refine Ret.call (Ret.eq (hw _)) ?_
    rintro _ rfl
    refine Ret.some ?_
    simp only [ltI_eq, decide_eq_false_iff_not] at h
    have : ltI 4000 t = !inB t 0 4000 := by
      unfold inB
      rw [leI_eq, leI_eq, decide_eq_true (by omega), Bool.true_and, ltI_eq]
      by_cases h2 : t ≤ 4000
      · rw [decide_eq_true h2, decide_eq_false (by omega)]
        rfl
      · rw [decide_eq_false h2, decide_eq_true (by omega)]
        rfl
    rw [this]
    rfl
theorem joinedClub_rec : F_pilelaw2_joinedClub [] = some [.t true] := by kernel_rfl
theorem kdsBest : Kds KBest Bst := ⟨fun _ h => by
  obtain ⟨c, s, p, d, rfl⟩ := h
  rfl⟩
theorem equalBest (a : List (List G)) (ha : ∀ z ∈ a, Bst z) (hn : a.length < 100000) : F_slices_Equal_Best [.l a, .l a] = some [.t true] := by
  have h := equalF_eq kdsBest a a ha ha hn
  rw [eqlA_refl rfl] at h
  exact h
theorem recordsKept_data (rows : List (List G)) : F_pilelaw2_RecordsKept [.l rows] = some [.t true] := by
  refine Ret.toEq ?_
  unfold F_pilelaw2_RecordsKept
  (dsimp +instances only [gi0,gis,row1,rows1,int1,str1,bool1])
  refine Ret.call (r_Tries rows 0 (by omega) (by omega)) ?_
  rintro _ ⟨b1, l, rfl, hb1, hb1', hl, hln⟩
  (dsimp +instances only [gi0,gis,row1,rows1,int1,str1,bool1])
  refine Ret.call (r_Pick (fun _ => True) rows _ _ (by omega) (by omega) (by simp) (by simp) (fun _ _ => trivial)) ?_
  rintro _ ⟨day, rfl, _⟩
  (dsimp +instances only [gi0,gis,row1,rows1,int1,str1,bool1])
  obtain ⟨e, he⟩ : ∃ e : Int, (bif faultTr l != 0 then faultTr l else bif !inB day 0 4000 then 1 else 0) = e := ⟨_, rfl⟩
  have hout : ∀ z ∈ outR (bestOf day l).1, Bst z := fun z hz => by
    obtain ⟨e, _, rfl⟩ := List.mem_map.1 hz
    exact ⟨_, _, _, _, rfl⟩
  have houtl : (outR (bestOf day l).1).length < 100000 := by
    have := best_small l day
    unfold outR
    rw [List.length_map, (sortedK_perm _).length_eq, List.length_map]
    omega
  have hrec : F_club_Records [.l l, .i day] = some [.l (bif e == 0 then outR (bestOf day l).1 else []), .i e] := by
    cases h1 : (faultTr l != 0) with
    | true =>
      rw [h1, cond_true] at he
      have hz : (e == 0) = false := by
        rw [← he]
        simpa using h1
      rw [hz, cond_false]
      refine Ret.toEq ?_
      unfold F_club_Records
      (dsimp +instances only [gi0,gis,row1,rows1,int1,str1,bool1])
      refine Ret.call (Ret.eq (checkTries_ok l hl)) ?_
      rintro _ rfl
      refine Ret.pos h1 (Ret.some ?_)
      rw [← he]
      rfl
    | false =>
      have hf : faultTr l = 0 := by simpa using h1
      rw [h1, cond_false] at he
      cases h2 : inB day 0 4000 with
      | true =>
        rw [h2] at he
        have he : e = 0 := he.symm
        rw [he, records_ok l day hl hln hf h2]
        rfl
      | false =>
        rw [h2] at he
        have he : e = 1 := he.symm
        rw [he]
        refine Ret.toEq ?_
        unfold F_club_Records
        (dsimp +instances only [gi0,gis,row1,rows1,int1,str1,bool1])
        refine Ret.call (Ret.eq (checkTries_ok l hl)) ?_
        rintro _ rfl
        rw [hf]
        refine Ret.neg rfl ?_
        refine Ret.call (Ret.eq (isDay_ok day)) ?_
        rintro _ rfl
        rw [h2]
        exact Ret.pos rfl (Ret.some rfl)
  refine Ret.call (Ret.eq hrec) ?_
  rintro _ rfl
  refine Ret.call (Ret.eq (triesFault_ok l hl)) ?_
  rintro _ rfl
  refine Ret.call (Ret.eq (dayFault_ok day)) ?_
  rintro _ rfl
  (dsimp +instances only [gi0,gis,row1,rows1,int1,str1,bool1])
  refine Ret.call (P := fun g => g = [.i e]) (Ret.eq (by rw [errs2, he])) ?_
  rintro _ rfl
  (dsimp +instances only [gi0,gis,row1,rows1,int1,str1,bool1])
  refine Ret.test (fun h => ?_) fun h => ?_
  · rw [h, cond_true]
    refine Ret.call (Ret.eq (recordsOf_ok l day hl hln)) ?_
    rintro _ rfl
    refine Ret.call (Ret.eq (checkTries_ok l hl)) ?_
    rintro _ rfl
    refine Ret.call (Ret.eq (triesFault_ok l hl)) ?_
    rintro _ rfl
    (dsimp +instances only [gi0,gis,row1,rows1,int1,str1,bool1])
    refine Ret.pos (by simp) (Ret.pos (by simp) ?_)
    refine Ret.call (Ret.eq (equalBest _ hout houtl)) ?_
    rintro _ rfl
    refine Ret.pos rfl ?_
    refine Ret.call (Ret.eq joinedClub_rec) ?_
    rintro _ rfl
    exact Ret.some rfl
  · rw [h, cond_false]
    refine Ret.call (Ret.eq (checkTries_ok l hl)) ?_
    rintro _ rfl
    refine Ret.call (Ret.eq (triesFault_ok l hl)) ?_
    rintro _ rfl
    (dsimp +instances only [gi0,gis,row1,rows1,int1,str1,bool1])
    refine Ret.pos (by simp) (Ret.pos (by simp) ?_)
    refine Ret.call (Ret.eq (equalBest [] (by simp) (by simp))) ?_
    rintro _ rfl
    refine Ret.pos rfl ?_
    refine Ret.call (Ret.eq joinedClub_rec) ?_
    rintro _ rfl
    exact Ret.some rfl
end
end Go.Proofs.SYtbckadmdebkogaaGreatDoor
