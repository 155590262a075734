/-
  What is proved here: what the methods of the stream give on data. No condition.
-/
import Derived.Test.YthnhleemkjpigaaGreatDoorML3
import Derived.Test.YthnhleemkjpigaaGreatDoorME
set_option linter.unusedSimpArgs false
set_option linter.unusedVariables false
set_option linter.unusedSectionVars false
namespace Go.Proofs.SYthnhleemkjpigaaGreatDoor
open Go Go.AL Go.Proofs
noncomputable section
theorem r_Below (x n : Int) (h0 : 1 ≤ n) (h1 : n ≤ 1099511627776) : Ret (F_pilemake_Below [.i x, .i n]) fun g => ∃ v, g = [.i v] ∧ 0 ≤ v ∧ v < n := by
  unfold F_pilemake_Below
  (dsimp +instances only [gi0,gis,row1,rows1,int1,str1,bool1])
  have ha := Int.tmod_lt_of_pos x (by omega : 0 < n)
  have hb := Int.lt_tmod_of_pos x (by omega : 0 < n)
  (repeat(first|(refine Ret.pos ?_ ?_;(first|rfl|assumption|(simp only [inI,sl]<;>omega)))|(refine Ret.neg ?_ ?_;(first|rfl|assumption|(simp only [inI,sl]<;>omega)))))
  refine Ret.test (fun h => ?_) fun h => ?_
  · simp only [ltI_eq, decide_eq_true_eq] at h
    (repeat(first|(refine Ret.pos ?_ ?_;(first|rfl|assumption|(simp only [inI,sl]<;>omega)))|(refine Ret.neg ?_ ?_;(first|rfl|assumption|(simp only [inI,sl]<;>omega)))))
    exact Ret.some ⟨_, rfl, by omega, by omega⟩
  · simp only [ltI_eq, decide_eq_false_iff_not] at h
    exact Ret.some ⟨_, rfl, by omega, by omega⟩
theorem r_Next (l : List (List G)) (a n : Int) (ha : 0 ≤ a) (ha1 : a ≤ 1000000) (h0 : 1 ≤ n) (h1 : n ≤ 1099511627776) :
    Ret (F_pilemake_Stream_Next [.l l, .i a, .i n]) fun g => ∃ v, g = [.l l, .i (a + 1), .i v] ∧ 0 ≤ v ∧ v < n := by
  unfold F_pilemake_Stream_Next
  (dsimp +instances only [gi0,gis,row1,rows1,int1,str1,bool1])
  have ea : a + 1 - 1 = a := by omega
  simp only [ea]
  by_cases hl : l.length = 0
  · (repeat(first|(refine Ret.pos ?_ ?_;(first|rfl|assumption|(simp only [inI,sl]<;>omega)))|(refine Ret.neg ?_ ?_;(first|rfl|assumption|(simp only [inI,sl]<;>omega)))))
    refine Ret.call (r_Below _ n h0 h1) ?_
    rintro _ ⟨v, rfl, h2, h3⟩
    (dsimp +instances only [gi0,gis,row1,rows1,int1,str1,bool1])
    exact Ret.some ⟨v, rfl, h2, h3⟩
  · have hp : (0 : Int) < (l.length : Int) := by omega
    have d0 : 0 ≤ Int.tdiv a l.length := Int.tdiv_nonneg ha (by omega)
    have d1 : Int.tdiv a l.length ≤ a := by
      rw [Int.tdiv_eq_ediv_of_nonneg ha]
      exact Int.ediv_le_self _ ha
    have m0 : 0 ≤ Int.tmod a l.length := by
      rw [Int.tmod_eq_emod_of_nonneg ha]
      exact Int.emod_nonneg _ (by omega)
    have m1 : Int.tmod a l.length < l.length := Int.tmod_lt_of_pos a hp
    have m2 : Int.tmod a l.length ≤ a := by
      rw [Int.tmod_eq_emod_of_nonneg ha]
      have := Int.mul_ediv_add_emod a l.length
      have h4 : 0 ≤ (l.length : Int) * (a / l.length) := Int.mul_nonneg (by omega) (Int.ediv_nonneg ha (by omega))
      omega
    generalize hq : Int.tdiv a l.length = q at *
    generalize hr : Int.tmod a l.length = r at *
    have p0 : 0 ≤ q * (7919 + r) := Int.mul_nonneg d0 (by omega)
    have p1 : q * (7919 + r) ≤ 1000000 * 2000000 := Int.mul_le_mul (by omega) (by omega) (by omega) (by omega)
    generalize hz : q * (7919 + r) = z at *
    (repeat(first|(refine Ret.pos ?_ ?_;(first|rfl|assumption|(simp only [inI,sl]<;>omega)))|(refine Ret.neg ?_ ?_;(first|rfl|assumption|(simp only [inI,sl]<;>omega)))))
    refine Ret.call (r_Below _ 1073741824 (by omega) (by omega)) ?_
    rintro _ ⟨u, rfl, h2, h3⟩
    (dsimp +instances only [gi0,gis,row1,rows1,int1,str1,bool1])
    (repeat(first|(refine Ret.pos ?_ ?_;(first|rfl|assumption|(simp only [inI,sl]<;>omega)))|(refine Ret.neg ?_ ?_;(first|rfl|assumption|(simp only [inI,sl]<;>omega)))))
    refine Ret.call (r_Below _ n h0 h1) ?_
    rintro _ ⟨v, rfl, h4, h5⟩
    (dsimp +instances only [gi0,gis,row1,rows1,int1,str1,bool1])
    exact Ret.some ⟨v, rfl, h4, h5⟩
theorem r_Range (l : List (List G)) (a lo hi : Int) (ha : 0 ≤ a) (ha1 : a ≤ 1000000) (h0 : lo ≤ hi) (h1 : -1000000000 ≤ lo) (h2 : hi ≤ 1000000000) :
    Ret (F_pilemake_Stream_Range [.l l, .i a, .i lo, .i hi]) fun g => ∃ v, g = [.l l, .i (a + 1), .i v] ∧ lo ≤ v ∧ v ≤ hi := by
  unfold F_pilemake_Stream_Range
  (dsimp +instances only [gi0,gis,row1,rows1,int1,str1,bool1])
  (repeat(first|(refine Ret.pos ?_ ?_;(first|rfl|assumption|(simp only [inI,sl]<;>omega)))|(refine Ret.neg ?_ ?_;(first|rfl|assumption|(simp only [inI,sl]<;>omega)))))
  refine Ret.call (r_Next l a _ ha ha1 (by omega) (by omega)) ?_
  rintro _ ⟨v, rfl, h3, h4⟩
  (dsimp +instances only [gi0,gis,row1,rows1,int1,str1,bool1])
  (repeat(first|(refine Ret.pos ?_ ?_;(first|rfl|assumption|(simp only [inI,sl]<;>omega)))|(refine Ret.neg ?_ ?_;(first|rfl|assumption|(simp only [inI,sl]<;>omega)))))
  exact Ret.some ⟨_, rfl, by omega, by omega⟩
theorem getD_mem' {l : List (List G)} {v : Int} (h0 : 0 ≤ v) (h1 : v < l.length) : l.getD v.toNat [] ∈ l := by
  have : v.toNat < l.length := by omega
  rw [List.getD_eq_getElem?_getD, List.getElem?_eq_getElem this]
  exact List.getElem_mem this
theorem r_Pick (P : Int → Prop) (l : List (List G)) (a : Int) (xs : List (List G)) (ha : 0 ≤ a) (ha1 : a ≤ 1000000) (h0 : 1 ≤ xs.length) (h1 : xs.length ≤ 1000000) (hP : ∀ x ∈ xs, P (gi x 0).int) :
    Ret (F_pilemake_Stream_Pick [.l l, .i a, .l xs]) fun g => ∃ v, g = [.l l, .i (a + 1), .i v] ∧ P v := by
  unfold F_pilemake_Stream_Pick
  (dsimp +instances only [gi0,gis,row1,rows1,int1,str1,bool1])
  refine Ret.call (r_Next l a _ ha ha1 (by omega) (by omega)) ?_
  rintro _ ⟨v, rfl, h3, h4⟩
  (dsimp +instances only [gi0,gis,row1,rows1,int1,str1,bool1])
  (repeat(first|(refine Ret.pos ?_ ?_;(first|rfl|assumption|(simp only [inI,sl]<;>omega)))|(refine Ret.neg ?_ ?_;(first|rfl|assumption|(simp only [inI,sl]<;>omega)))))
  exact Ret.some ⟨_, rfl, hP _ (getD_mem' h3 h4)⟩
theorem r_Some (P : ByteArray → Prop) (l : List (List G)) (a : Int) (xs : List (List G)) (ha : 0 ≤ a) (ha1 : a ≤ 1000000) (h0 : 1 ≤ xs.length) (h1 : xs.length ≤ 1000000) (hP : ∀ x ∈ xs, P (gi x 0).str) :
    Ret (F_pilemake_Stream_Some [.l l, .i a, .l xs]) fun g => ∃ v, g = [.l l, .i (a + 1), .s v] ∧ P v := by
  unfold F_pilemake_Stream_Some
  (dsimp +instances only [gi0,gis,row1,rows1,int1,str1,bool1])
  refine Ret.call (r_Next l a _ ha ha1 (by omega) (by omega)) ?_
  rintro _ ⟨v, rfl, h3, h4⟩
  (dsimp +instances only [gi0,gis,row1,rows1,int1,str1,bool1])
  (repeat(first|(refine Ret.pos ?_ ?_;(first|rfl|assumption|(simp only [inI,sl]<;>omega)))|(refine Ret.neg ?_ ?_;(first|rfl|assumption|(simp only [inI,sl]<;>omega)))))
  exact Ret.some ⟨_, rfl, hP _ (getD_mem' h3 h4)⟩
theorem r_Flip (l : List (List G)) (a n : Int) (ha : 0 ≤ a) (ha1 : a ≤ 1000000) (h0 : 1 ≤ n) (h1 : n ≤ 1000000) :
    Ret (F_pilemake_Stream_Flip [.l l, .i a, .i n]) fun g => ∃ b, g = [.l l, .i (a + 1), .t b] := by
  unfold F_pilemake_Stream_Flip
  (dsimp +instances only [gi0,gis,row1,rows1,int1,str1,bool1])
  refine Ret.call (r_Next l a _ ha ha1 (by omega) (by omega)) ?_
  rintro _ ⟨v, rfl, h3, h4⟩
  exact Ret.some ⟨_, rfl⟩
theorem r_Odd (l : List (List G)) (a lo hi : Int) (ha : 0 ≤ a) (ha1 : a ≤ 900000) (h0 : lo ≤ hi) (h1 : -1000000000 ≤ lo) (h2 : hi ≤ 1000000000) :
    Ret (F_pilemake_Stream_Odd [.l l, .i a, .i lo, .i hi]) fun g => ∃ v, g = [.l l, .i (a + 2), .i v] ∧ -1099511627776 ≤ v ∧ (v ≤ 1000000001 ∨ v = 1099511627776) := by
  unfold F_pilemake_Stream_Odd
  (dsimp +instances only [gi0,gis,row1,rows1,int1,str1,bool1])
  have e2 : a + 1 + 1 = a + 2 := by omega
  refine Ret.call (r_Flip l a 12 ha (by omega) (by omega) (by omega)) ?_
  rintro _ ⟨b, rfl⟩
  (dsimp +instances only [gi0,gis,row1,rows1,int1,str1,bool1])
  cases b with
  | true =>
    (repeat(first|(refine Ret.pos ?_ ?_;(first|rfl|assumption|(simp only [inI,sl]<;>omega)))|(refine Ret.neg ?_ ?_;(first|rfl|assumption|(simp only [inI,sl]<;>omega)))))
    refine Ret.call (r_Pick (fun v => -1099511627776 ≤ v ∧ (v ≤ 1000000001 ∨ v = 1099511627776)) l (a + 1) _ (by omega) (by omega) (by simp) (by simp) ?_) ?_
    · intro x hx
      simp only [List.mem_cons, List.not_mem_nil, or_false] at hx
      rcases hx with rfl | rfl | rfl | rfl | rfl | rfl <;> (dsimp +instances only [gi0,gis,row1,rows1,int1,str1,bool1]) <;> omega
    · rintro _ ⟨v, rfl, h3, h4⟩
      (dsimp +instances only [gi0,gis,row1,rows1,int1,str1,bool1])
      exact Ret.some ⟨v, by rw [e2], h3, h4⟩
  | false =>
    (repeat(first|(refine Ret.pos ?_ ?_;(first|rfl|assumption|(simp only [inI,sl]<;>omega)))|(refine Ret.neg ?_ ?_;(first|rfl|assumption|(simp only [inI,sl]<;>omega)))))
    refine Ret.call (r_Range l (a + 1) lo hi (by omega) (by omega) h0 h1 h2) ?_
    rintro _ ⟨v, rfl, h3, h4⟩
    (dsimp +instances only [gi0,gis,row1,rows1,int1,str1,bool1])
    exact Ret.some ⟨v, by rw [e2], by omega, by omega⟩
end
end Go.Proofs.SYthnhleemkjpigaaGreatDoor

namespace Go.Proofs.SYthnhleemkjpigaaGreatDoor
open Go Go.AL Go.Proofs
noncomputable section
def inL (L : List ByteArray) (s : ByteArray) : Bool := L.any fun x => eqS x s
theorem inL_mem {L : List ByteArray} {s : ByteArray} (h : inL L s = true) : s ∈ L := by
  obtain ⟨x, hx, he⟩ := List.any_eq_true.1 h
  exact eqS_eq he ▸ hx
theorem r_PickB (lo hi : Int) (l : List (List G)) (a : Int) (xs : List (List G)) (ha : 0 ≤ a) (ha1 : a ≤ 1000000) (h0 : (Nat.ble 1 xs.length && Nat.ble xs.length 1000000) = true) (hP : (xs.all fun x => leI lo (gi x 0).int && leI (gi x 0).int hi) = true) :
    Ret (F_pilemake_Stream_Pick [.l l, .i a, .l xs]) fun g => ∃ v, g = [.l l, .i (a + 1), .i v] ∧ lo ≤ v ∧ v ≤ hi := by
  simp only [Bool.and_eq_true, Nat.ble_eq] at h0
  refine r_Pick (fun v => lo ≤ v ∧ v ≤ hi) l a xs ha ha1 h0.1 h0.2 fun x hx => ?_
  have := List.all_eq_true.1 hP x hx
  simpa only [leI_eq, Bool.and_eq_true, decide_eq_true_eq] using this
theorem r_SomeB (L : List ByteArray) (l : List (List G)) (a : Int) (xs : List (List G)) (ha : 0 ≤ a) (ha1 : a ≤ 1000000) (h0 : (Nat.ble 1 xs.length && Nat.ble xs.length 1000000) = true) (hP : (xs.all fun x => inL L (gi x 0).str) = true) :
    Ret (F_pilemake_Stream_Some [.l l, .i a, .l xs]) fun g => ∃ v, g = [.l l, .i (a + 1), .s v] ∧ v ∈ L := by
  simp only [Bool.and_eq_true, Nat.ble_eq] at h0
  exact r_Some (fun v => v ∈ L) l a xs ha ha1 h0.1 h0.2 fun x hx => inL_mem (List.all_eq_true.1 hP x hx)
def calls : List ByteArray := [⟨#[]⟩, ⟨#[107, 49]⟩, ⟨#[75, 49, 65, 66]⟩, ⟨#[107, 49, 97, 98, 47]⟩, ⟨#[49, 97]⟩, ⟨#[107, 49, 97, 98, 47, 109, 109, 47, 112]⟩, ⟨#[107, 49, 97, 98]⟩, ⟨#[107, 49, 97, 97]⟩, ⟨#[107, 49, 97, 98, 47, 52]⟩,
  ⟨#[111, 104, 50, 97, 98, 99]⟩, ⟨#[111, 104, 50, 97, 98, 100]⟩, ⟨#[119, 49, 97, 119]⟩, ⟨#[110, 49, 109, 109]⟩, ⟨#[103, 51, 120, 121, 122, 47, 112]⟩]
def bands : List ByteArray := [⟨#[]⟩, ⟨#[66]⟩, ⟨#[98, 50, 48]⟩, ⟨#[98, 52, 48]⟩]
def names : List ByteArray := [⟨#[]⟩, ⟨#[65]⟩, ⟨#[49]⟩, ⟨#[102, 105, 110]⟩, ⟨#[117, 115, 97]⟩]
def small (n : Int) : Prop := -2000000000000 ≤ n ∧ n ≤ 2000000000000
def Con (r : List G) : Prop := ∃ (t m : Int) (b c : ByteArray) (s h : Int) (x y : ByteArray), r = [.i t, .i m, .s b, .s c, .i s, .i h, .s x, .s y] ∧ small t ∧ small m ∧ small s ∧ small h ∧ b ∈ bands ∧ c ∈ calls ∧ x ∈ names ∧ y ∈ names
def tight (n : Int) : Prop := -1900000000000 ≤ n ∧ n ≤ 1900000000000
def tightT (n : Int) : Prop := -1900000000000 ≤ n ∧ (n ≤ 345000000000 ∨ (345686399999 < n ∧ n ≤ 1900000000000))
def ConT (r : List G) : Prop := ∃ (t m : Int) (b c : ByteArray) (s h : Int) (x y : ByteArray), r = [.i t, .i m, .s b, .s c, .i s, .i h, .s x, .s y] ∧ tightT t ∧ tight m ∧ tight s ∧ tight h ∧ b ∈ bands ∧ c ∈ calls ∧ x ∈ names ∧ y ∈ names
theorem tight.to {n : Int} (h : tight n) : small n := ⟨by have := h.1; omega, by have := h.2; omega⟩
theorem tightT.to {n : Int} (h : tightT n) : small n := by
  unfold tightT at h
  exact ⟨by omega, by omega⟩
theorem ConT.to {r : List G} (h : ConT r) : Con r := by
  obtain ⟨t, m, b, c, s, h, x, y, e, h1, h2, h3, h4, h5⟩ := h
  exact ⟨t, m, b, c, s, h, x, y, e, h1.to, h2.to, h3.to, h4.to, h5⟩
theorem Con.eta {r : List G} (h : Con r) : gEta KContact r = r := by
  obtain ⟨t, m, b, c, s, h, x, y, rfl, _⟩ := h
  rfl
theorem r_ACall (l : List (List G)) (a : Int) (ha : 0 ≤ a) (ha1 : a ≤ 900000) : Ret (F_pilemake_Stream_ACall [.l l, .i a]) fun g => ∃ v, g = [.l l, .i (a + 2), .s v] ∧ v ∈ calls := by
  unfold F_pilemake_Stream_ACall
  (dsimp +instances only [gi0,gis,row1,rows1,int1,str1,bool1])
  have e2 : a + 1 + 1 = a + 2 := by omega
  refine Ret.call (r_Flip l a 60 ha (by omega) (by omega) (by omega)) ?_
  rintro _ ⟨b, rfl⟩
  (dsimp +instances only [gi0,gis,row1,rows1,int1,str1,bool1])
  cases b with
  | true =>
    (repeat(first|(refine Ret.pos ?_ ?_;(first|rfl|assumption|(simp only [inI,sl]<;>omega)))|(refine Ret.neg ?_ ?_;(first|rfl|assumption|(simp only [inI,sl]<;>omega)))))
    refine Ret.call (r_SomeB calls l (a + 1) _ (by omega) (by omega) (by kernel_rfl) (by kernel_rfl)) ?_
    rintro _ ⟨v, rfl, h⟩
    exact Ret.some ⟨v, by (dsimp +instances only [gi0,gis,row1,rows1,int1,str1,bool1]); rw [e2], h⟩
  | false =>
    (repeat(first|(refine Ret.pos ?_ ?_;(first|rfl|assumption|(simp only [inI,sl]<;>omega)))|(refine Ret.neg ?_ ?_;(first|rfl|assumption|(simp only [inI,sl]<;>omega)))))
    refine Ret.call (r_SomeB calls l (a + 1) _ (by omega) (by omega) (by kernel_rfl) (by kernel_rfl)) ?_
    rintro _ ⟨v, rfl, h⟩
    exact Ret.some ⟨v, by (dsimp +instances only [gi0,gis,row1,rows1,int1,str1,bool1]); rw [e2], h⟩
end
end Go.Proofs.SYthnhleemkjpigaaGreatDoor

namespace Go.Proofs.SYthnhleemkjpigaaGreatDoor
open Go Go.AL Go.Proofs
noncomputable section
def cmpI (a b : Int) : Int := if a < b then -1 else if b < a then 1 else 0
theorem compareBytes_zero : ∀ {a b : List UInt8}, Lib.compareBytes a b = 0 → a = b
  | [], [], _ => rfl
  | [], _ :: _, h => by simp [Lib.compareBytes] at h
  | _ :: _, [], h => by simp [Lib.compareBytes] at h
  | x :: a, y :: b, h => by
    unfold Lib.compareBytes at h
    split at h
    · cases h
    · split at h
      · cases h
      · rename_i h1 h2
        rw [compareBytes_zero h, UInt8.le_antisymm (UInt8.not_lt.1 h2) (UInt8.not_lt.1 h1)]
theorem compareBytes_self : ∀ a : List UInt8, Lib.compareBytes a a = 0
  | [] => rfl
  | x :: a => by simp [Lib.compareBytes, compareBytes_self a]
theorem str_eq (a b : ByteArray) : (a.toList == b.toList) = decide (cmpS a b = 0) := by
  rw [ByteArray.toList_eq, ByteArray.toList_eq, Bool.eq_iff_iff, decide_eq_true_eq, beq_iff_eq]
  constructor
  · intro h
    unfold cmpS
    rw [h]
    exact compareBytes_self _
  · exact fun h => compareBytes_zero h
theorem cmpInt_eq (a b : Int) : F_cmp_Compare_int [.i a, .i b] = some [.i (cmpI a b)] := by
  refine Ret.toEq ?_
  unfold F_cmp_Compare_int F_cmp_isNaN_int cmpI
  (dsimp +instances only [gi0,gis,row1,rows1,int1,str1,bool1])
  simp only [bne_self_eq_false]
  refine Ret.call ⟨_, rfl, rfl⟩ ?_
  rintro _ rfl
  refine Ret.call ⟨_, rfl, rfl⟩ ?_
  rintro _ rfl
  (dsimp +instances only [gi0,gis,row1,rows1,int1,str1,bool1])
  (repeat(first|(refine Ret.pos ?_ ?_;(first|rfl|assumption|(simp only [inI,sl]<;>omega)))|(refine Ret.neg ?_ ?_;(first|rfl|assumption|(simp only [inI,sl]<;>omega)))))
  by_cases h1 : a < b
  · (repeat(first|(refine Ret.pos ?_ ?_;(first|rfl|assumption|(simp only [inI,sl]<;>omega)))|(refine Ret.neg ?_ ?_;(first|rfl|assumption|(simp only [inI,sl]<;>omega)))))
    exact Ret.some (by simp [h1])
  · by_cases h2 : b < a
    · (repeat(first|(refine Ret.pos ?_ ?_;(first|rfl|assumption|(simp only [inI,sl]<;>omega)))|(refine Ret.neg ?_ ?_;(first|rfl|assumption|(simp only [inI,sl]<;>omega)))))
      exact Ret.some (by simp [h1, h2])
    · (repeat(first|(refine Ret.pos ?_ ?_;(first|rfl|assumption|(simp only [inI,sl]<;>omega)))|(refine Ret.neg ?_ ?_;(first|rfl|assumption|(simp only [inI,sl]<;>omega)))))
      exact Ret.some (by simp [h1, h2])
def orL : List (List G) → Int
  | [] => 0
  | x :: q => if (gi x 0).int ≠ 0 then (gi x 0).int else orL q
theorem or_runs : ∀ (q p : List (List G)), p.length + q.length < 100000 →
    RetN st_cmp_Or_int_3 [.i 0, .l (p ++ q), .i ((p.length + q.length : Nat) : Int), .i (p.length : Int)] (q.length + 1) fun c g => c ≤ 1 ∧ g = [.i (orL q)]
  | [], p, hl => by
    refine RetN.stop (x := 1) (Ret.toEq ?_) ⟨by omega, rfl⟩
    unfold st_cmp_Or_int_3
    (dsimp +instances only [gi0,gis,row1,rows1,int1,str1,bool1])
    (repeat(first|(refine Ret.pos ?_ ?_;(first|rfl|assumption|(simp only [inI,sl]<;>omega)))|(refine Ret.neg ?_ ?_;(first|rfl|assumption|(simp only [inI,sl]<;>omega)))))
    exact Ret.some rfl
  | y :: q, p, hl => by
    simp only [List.length_cons] at hl
    have g1 : (p ++ y :: q).getD (p.length : Int).toNat [] = y := getD_mid _ _ _ _ _ (by simp)
    have hlen : (p ++ y :: q).length = p.length + q.length + 1 := by simp; omega
    by_cases he : (gi y 0).int = 0
    · have ih := or_runs q (p ++ [y]) (by simp; omega)
      have e : orL (y :: q) = orL q := by simp [orL, he]
      rw [e]
      refine RetN.next (Ret.toEq ?_) ih
      unfold st_cmp_Or_int_3
      (dsimp +instances only [gi0,gis,row1,rows1,int1,str1,bool1])
      simp only [g1, hlen, List.length_cons]
      (repeat(first|(refine Ret.pos ?_ ?_;(first|rfl|assumption|(simp only [inI,sl]<;>omega)))|(refine Ret.neg ?_ ?_;(first|rfl|assumption|(simp only [inI,sl]<;>omega)))))
      refine Ret.some ?_
      simp
      omega
    · refine RetN.stop (x := 0) (Ret.toEq ?_) ⟨by omega, rfl⟩
      unfold st_cmp_Or_int_3
      (dsimp +instances only [gi0,gis,row1,rows1,int1,str1,bool1])
      simp only [g1, hlen, List.length_cons]
      (repeat(first|(refine Ret.pos ?_ ?_;(first|rfl|assumption|(simp only [inI,sl]<;>omega)))|(refine Ret.neg ?_ ?_;(first|rfl|assumption|(simp only [inI,sl]<;>omega)))))
      refine Ret.some ?_
      simp [orL, he]
end
end Go.Proofs.SYthnhleemkjpigaaGreatDoor

namespace Go.Proofs.SYthnhleemkjpigaaGreatDoor
open Go Go.AL Go.Proofs
noncomputable section
def inB (v lo hi : Int) : Bool := leI lo v && leI v hi
theorem in_eq (v lo hi : Int) : F_pileref2_in [.i v, .i lo, .i hi] = some [.t (inB v lo hi)] := by
  unfold F_pileref2_in inB
  (dsimp +instances only [gi0,gis,row1,rows1,int1,str1,bool1])
  cases leI lo v <;> rfl
theorem outside_eq (v lo hi : Int) : F_kit_Outside [.i v, .i lo, .i hi] = some [.t (!inB v lo hi)] := by
  unfold F_kit_Outside inB
  (dsimp +instances only [gi0,gis,row1,rows1,int1,str1,bool1])
  have h1 : ltI v lo = !leI lo v := by rw [ltI_eq, leI_eq, Bool.eq_iff_iff]; simp
  have h2 : ltI hi v = !leI v hi := by rw [ltI_eq, leI_eq, Bool.eq_iff_iff]; simp
  rw [h1, h2]
  cases leI lo v <;> cases leI v hi <;> rfl
def okKey (s : ByteArray) : Bool := inL [⟨#[98, 50, 48]⟩, ⟨#[98, 52, 48]⟩, ⟨#[102, 105, 110]⟩, ⟨#[117, 115, 97]⟩] s
def okCall (s : ByteArray) : Bool := (gi ((F_call_Is [.s s]).getD []) 0).bool
theorem isKey_eq {s : ByteArray} (h : s ∈ bands ∨ s ∈ names) : F_kit_IsKey [.s s] = some [.t (okKey s)] := by
  simp only [bands, names, List.mem_cons, List.not_mem_nil, or_false] at h
  rcases h with (rfl | rfl | rfl | rfl) | (rfl | rfl | rfl | rfl | rfl) <;> kernel_rfl
theorem key_eq {s : ByteArray} (h : s ∈ bands ∨ s ∈ names) : F_pileref2_Key [.s s] = some [.t (okKey s)] := by
  simp only [bands, names, List.mem_cons, List.not_mem_nil, or_false] at h
  rcases h with (rfl | rfl | rfl | rfl) | (rfl | rfl | rfl | rfl | rfl) <;> kernel_rfl
theorem isCall_eq {s : ByteArray} (h : s ∈ calls) : F_call_Is [.s s] = some [.t (okCall s)] := by
  simp only [calls, List.mem_cons, List.not_mem_nil, or_false] at h
  rcases h with (rfl | rfl | rfl | rfl | rfl | rfl | rfl | rfl | rfl | rfl | rfl | rfl | rfl | rfl) <;> kernel_rfl
theorem call_eq {s : ByteArray} (h : s ∈ calls) : F_pileref2_Call [.s s] = some [.t (okCall s)] := by
  simp only [calls, List.mem_cons, List.not_mem_nil, or_false] at h
  rcases h with (rfl | rfl | rfl | rfl | rfl | rfl | rfl | rfl | rfl | rfl | rfl | rfl | rfl | rfl) <;> kernel_rfl
end
end Go.Proofs.SYthnhleemkjpigaaGreatDoor

namespace Go.Proofs.SYthnhleemkjpigaaGreatDoor
open Go Go.AL Go.Proofs
noncomputable section
theorem errs2 (x y : Int) : F_pilelaw2_errs [.l [[.i x], [.i y]]] = some [.i (bif x != 0 then x else y)] := by
  refine Ret.toEq ?_
  unfold F_pilelaw2_errs
  (dsimp +instances only [gi0,gis,row1,rows1,int1,str1,bool1])
  have key : RetN st_pilelaw2_errs_2 [.l [[.i x], [.i y]], .i 2, .i 0] 3 fun c g => (c = 0 ∧ g = [.i (bif x != 0 then x else y)]) ∨ c = 1 ∧ (bif x != 0 then x else y) = 0 := by
    by_cases hx : x = 0
    · subst hx
      refine RetN.next (d1 := [.l [[.i 0], [.i y]], .i 2, .i 1]) rfl ?_
      by_cases hy : y = 0
      · subst hy
        refine RetN.next (d1 := [.l [[.i 0], [.i 0]], .i 2, .i 2]) rfl ?_
        exact RetN.stop (x := 1) (d' := []) rfl (.inr ⟨rfl, rfl⟩)
      · refine RetN.stop (x := 0) (d' := [.i y]) (Ret.toEq ?_) (.inl ⟨rfl, rfl⟩)
        unfold st_pilelaw2_errs_2
        (dsimp +instances only [gi0,gis,row1,rows1,int1,str1,bool1])
        refine Ret.pos rfl (Ret.pos rfl (Ret.pos (show (y != 0) = true from by simpa using hy) (Ret.some rfl)))
    · have e : (bif x != 0 then x else y) = x := by
        have : (x != 0) = true := by simpa using hx
        rw [this]
        rfl
      rw [e]
      refine RetN.stop (x := 0) (d' := [.i x]) (Ret.toEq ?_) (.inl ⟨rfl, rfl⟩)
      unfold st_pilelaw2_errs_2
      (dsimp +instances only [gi0,gis,row1,rows1,int1,str1,bool1])
      refine Ret.pos rfl (Ret.pos rfl (Ret.pos (show (x != 0) = true from by simpa using hx) (Ret.some rfl)))
  refine Ret.loop (key.to (by omega)) rfl ?_
  rintro c g (⟨rfl, rfl⟩ | ⟨rfl, h⟩)
  · exact Ret.some rfl
  · exact Ret.some (by rw [h])
end
end Go.Proofs.SYthnhleemkjpigaaGreatDoor

namespace Go.Proofs.SYthnhleemkjpigaaGreatDoor
open Go Go.AL Go.Proofs
noncomputable section
def Row8 (r : List G) : Prop := ∃ (t m : Int) (b c : ByteArray) (s h : Int) (x y : ByteArray), r = [.i t, .i m, .s b, .s c, .i s, .i h, .s x, .s y]
theorem Con.row {r : List G} (h : Con r) : Row8 r := by
  obtain ⟨t, m, b, c, s, h, x, y, e, _⟩ := h
  exact ⟨t, m, b, c, s, h, x, y, e⟩
theorem Row8.eta {r : List G} (h : Row8 r) : gEta KContact r = r := by
  obtain ⟨t, m, b, c, s, h, x, y, rfl⟩ := h
  rfl
/-! ### Duplicates -/
def baseOf (s : ByteArray) : ByteArray := (gi ((F_call_BaseOf [.s s]).getD []) 0).str
theorem base_eq {s : ByteArray} (h : s ∈ calls) : F_call_BaseOf [.s s] = some [.s (baseOf s)] := by
  simp only [calls, List.mem_cons, List.not_mem_nil, or_false] at h
  rcases h with (rfl | rfl | rfl | rfl | rfl | rfl | rfl | rfl | rfl | rfl | rfl | rfl | rfl | rfl) <;> kernel_rfl
theorem baseRef_eq {s : ByteArray} (h : s ∈ calls) : F_pileref2_BaseOf [.s s] = some [.s (baseOf s)] := by
  simp only [calls, List.mem_cons, List.not_mem_nil, or_false] at h
  rcases h with (rfl | rfl | rfl | rfl | rfl | rfl | rfl | rfl | rfl | rfl | rfl | rfl | rfl | rfl) <;> kernel_rfl
abbrev K3 : List Kd := [.str, .str, .int .i64]
end
end Go.Proofs.SYthnhleemkjpigaaGreatDoor

namespace Go.Proofs.SYthnhleemkjpigaaGreatDoor
open Go Go.AL Go.Proofs
noncomputable section
def firstE : List Int → Int
  | [] => 0
  | x :: q => bif x != 0 then x else firstE q
theorem errs_runs : ∀ (q p : List (List G)) (xs : List Int), q = xs.map (fun x => [G.i x]) → p.length + q.length < 100000 →
    RetN st_pilelaw2_errs_2 [.l (p ++ q), .i ((p.length + q.length : Nat) : Int), .i (p.length : Int)] (q.length + 1) fun c g => (c = 0 ∧ g = [.i (firstE xs)]) ∨ c = 1 ∧ firstE xs = 0
  | [], p, xs, hq, hl => by
    have : xs = [] := by
      cases xs with
      | nil => rfl
      | cons x xs => simp at hq
    subst this
    refine RetN.stop (x := 1) (d' := []) (Ret.toEq ?_) (.inr ⟨rfl, rfl⟩)
    unfold st_pilelaw2_errs_2
    (dsimp +instances only [gi0,gis,row1,rows1,int1,str1,bool1])
    (repeat(first|(refine Ret.pos ?_ ?_;(first|rfl|assumption|(simp only [inI,sl]<;>omega)))|(refine Ret.neg ?_ ?_;(first|rfl|assumption|(simp only [inI,sl]<;>omega)))))
    exact Ret.some rfl
  | y :: q, p, xs, hq, hl => by
    match xs, hq with
    | x :: xs, hq2 =>
      have h := hq2
      simp only [List.map_cons, List.cons.injEq] at h
      obtain ⟨rfl, hq3⟩ := h
      simp only [List.length_cons] at hl
      have g1 : (p ++ [.i x] :: q).getD (p.length : Int).toNat [] = [.i x] := getD_mid _ _ _ _ _ (by simp)
      have hlen : (p ++ [.i x] :: q).length = p.length + q.length + 1 := by simp; omega
      by_cases hx : x = 0
      · have ih := errs_runs q (p ++ [[.i x]]) xs hq3 (by simp; omega)
        subst hx
        have e : firstE (0 :: xs) = firstE xs := rfl
        rw [e]
        refine RetN.next (Ret.toEq ?_) ih
        unfold st_pilelaw2_errs_2
        (dsimp +instances only [gi0,gis,row1,rows1,int1,str1,bool1])
        simp only [g1, hlen, List.length_cons]
        (dsimp +instances only [gi0,gis,row1,rows1,int1,str1,bool1])
        (repeat(first|(refine Ret.pos ?_ ?_;(first|rfl|assumption|(simp only [inI,sl]<;>omega)))|(refine Ret.neg ?_ ?_;(first|rfl|assumption|(simp only [inI,sl]<;>omega)))))
        refine Ret.some ?_
        simp
        omega
      · have hb : (x != 0) = true := by simpa using hx
        refine RetN.stop (x := 0) (d' := [.i x]) (Ret.toEq ?_) (.inl ⟨rfl, by simp only [firstE, hb, cond_true]⟩)
        unfold st_pilelaw2_errs_2
        (dsimp +instances only [gi0,gis,row1,rows1,int1,str1,bool1])
        simp only [g1, hlen, List.length_cons]
        (dsimp +instances only [gi0,gis,row1,rows1,int1,str1,bool1])
        refine Ret.pos (by (first|rfl|assumption|(simp only [inI,sl]<;>omega))) (Ret.pos (by (first|rfl|assumption|(simp only [inI,sl]<;>omega))) (Ret.pos hb (Ret.some rfl)))
theorem errs_eq (xs : List Int) (h : xs.length < 1000) : F_pilelaw2_errs [.l (xs.map fun x => [.i x])] = some [.i (firstE xs)] := by
  refine Ret.toEq ?_
  unfold F_pilelaw2_errs
  (dsimp +instances only [gi0,gis,row1,rows1,int1,str1,bool1])
  have h1 := errs_runs (xs.map fun x => [G.i x]) [] xs rfl (by simp; omega)
  have h0 : ((0 : Nat) : Int) = 0 := rfl
  simp only [List.nil_append, List.length_nil, Nat.zero_add, h0] at h1
  refine Ret.loop (h1.to (by simp; omega)) rfl ?_
  rintro c g (⟨rfl, rfl⟩ | ⟨rfl, h⟩)
  · exact Ret.some rfl
  · exact Ret.some (by rw [h])
/-! ### Pauses -/
structure PauseOK (s : List (List G) × Int) (i : Nat) : Prop where
  len : s.1.length ≤ i
  rows : ∀ r ∈ s.1, ∃ a b, r = [.i a, .i b]
  at0 : 0 ≤ s.2
  at1 : s.2 ≤ 345686400000
/-! ### Hours -/
structure HourOK (s : List (List G)) (n i : Nat) : Prop where
  len : s.length = n
  rows : ∀ r ∈ s, ∃ v, r = [.i v] ∧ 0 ≤ v ∧ v ≤ i
end
end Go.Proofs.SYthnhleemkjpigaaGreatDoor

namespace Go.Proofs.SYthnhleemkjpigaaGreatDoor
open Go Go.AL Go.Proofs
noncomputable section
theorem bytes_flip' : ∀ a b : List UInt8, Lib.compareBytes b a = - Lib.compareBytes a b
  | [], [] => rfl
  | [], _ :: _ => rfl
  | _ :: _, [] => rfl
  | a :: xs, b :: ys => by
    simp only [Lib.compareBytes]
    have ih := bytes_flip' xs ys
    by_cases h1 : a < b
    · have h2 : ¬ b < a := fun h => UInt8.lt_irrefl a (UInt8.lt_trans h1 h)
      simp [h1, h2]
    · by_cases h2 : b < a
      · simp [h1, h2]
      · simp [h1, h2, ih]
theorem bytes_lt_trans' : ∀ {a b c : List UInt8}, Lib.compareBytes a b < 0 → Lib.compareBytes b c < 0 → Lib.compareBytes a c < 0
  | [], [], _, h, _ => by simp [Lib.compareBytes] at h
  | [], _ :: _, [], _, h => by simp [Lib.compareBytes] at h
  | [], _ :: _, _ :: _, _, _ => by simp [Lib.compareBytes]
  | _ :: _, [], _, h, _ => by simp [Lib.compareBytes] at h
  | _ :: _, _ :: _, [], _, h => by simp [Lib.compareBytes] at h
  | a :: xs, b :: ys, c :: zs, h1, h2 => by
    simp only [Lib.compareBytes] at h1 h2 ⊢
    by_cases hab : a < b
    · by_cases hbc : b < c
      · rw [if_pos (UInt8.lt_trans hab hbc)]
        omega
      · by_cases hcb : c < b
        · rw [if_neg hbc, if_pos hcb] at h2
          omega
        · have e : b = c := UInt8.le_antisymm (UInt8.not_lt.1 hcb) (UInt8.not_lt.1 hbc)
          subst e
          rw [if_pos hab]
          omega
    · by_cases hba : b < a
      · rw [if_neg hab, if_pos hba] at h1
        omega
      · have e : a = b := UInt8.le_antisymm (UInt8.not_lt.1 hba) (UInt8.not_lt.1 hab)
        subst e
        rw [if_neg (UInt8.lt_irrefl a), if_neg (UInt8.lt_irrefl a)] at h1
        by_cases hac : a < c
        · rw [if_pos hac]
          omega
        · by_cases hca : c < a
          · rw [if_neg hac, if_pos hca] at h2
            omega
          · rw [if_neg hac, if_neg hca] at h2 ⊢
            exact bytes_lt_trans' h1 h2
theorem str_ext {a b : ByteArray} (h : (a.toList == b.toList) = true) : a = b := by
  rw [ByteArray.toList_eq, ByteArray.toList_eq, beq_iff_eq] at h
  exact ByteArray.ext (Array.toList_inj.1 h)
theorem cmpS_z {a b : ByteArray} : cmpS a b = 0 ↔ a = b := by
  have h := str_eq a b
  constructor
  · intro e
    rw [decide_eq_true (p := cmpS a b = 0) e] at h
    exact str_ext h
  · rintro rfl
    have h2 : (a.toList == a.toList) = true := by simp
    rw [h2] at h
    exact of_decide_eq_true h.symm
theorem cmpI_z {a b : Int} : cmpI a b = 0 ↔ a = b := by
  unfold cmpI
  constructor
  · intro h
    split at h
    · omega
    · split at h <;> omega
  · rintro rfl
    simp
theorem cmpI_lt {a b : Int} : cmpI a b < 0 ↔ a < b := by
  unfold cmpI
  constructor
  · intro h
    split at h
    · assumption
    · split at h <;> omega
  · intro h
    rw [if_pos h]
    omega
theorem str_same (a b : ByteArray) : (a.toList == b.toList) = decide (a = b) := by
  rw [str_eq, Bool.eq_iff_iff, decide_eq_true_eq, decide_eq_true_eq]
  exact cmpS_z
structure Ordr {α : Type} (c : α → α → Int) : Prop where
  flip : ∀ a b, c b a = - c a b
  eq : ∀ a b, c a b = 0 → a = b
  tr : ∀ a b d, c a b < 0 → c b d < 0 → c a d < 0
theorem ordrI : Ordr cmpI := ⟨fun a b => by unfold cmpI; split <;> split <;> first | omega | (split <;> omega) | skip, fun a b h => cmpI_z.1 h, fun a b d h1 h2 => cmpI_lt.2 (Int.lt_trans (cmpI_lt.1 h1) (cmpI_lt.1 h2))⟩
theorem ordrS : Ordr cmpS := ⟨fun a b => bytes_flip' _ _, fun a b h => cmpS_z.1 h, fun a b d h1 h2 => bytes_lt_trans' h1 h2⟩
def or2 (a b : Int) : Int := if a ≠ 0 then a else b
theorem or2_lt {α : Type} {c : α → α → Int} (h : Ordr c) (a b d : α) (x y z : Int) (h1 : or2 (c a b) x < 0) (h2 : or2 (c b d) y < 0) (h3 : x < 0 → y < 0 → z < 0) : or2 (c a d) z < 0 := by
  unfold or2 at *
  by_cases e1 : c a b = 0
  · have e := h.eq a b e1
    subst e
    rw [if_neg (by simpa using e1)] at h1
    by_cases e2 : c a d = 0
    · rw [if_neg (by simpa using e2)] at h2 ⊢
      exact h3 h1 h2
    · rw [if_pos e2] at h2 ⊢
      exact h2
  · rw [if_pos e1] at h1
    by_cases e2 : c b d = 0
    · have e := h.eq b d e2
      subst e
      rw [if_pos e1]
      exact h1
    · rw [if_pos e2] at h2
      have := h.tr a b d (by omega) (by omega)
      rw [if_pos (by omega)]
      omega
/-! ### Lists that are checked row by row -/
def fw (step : Nat → Int) : Nat → Int
  | 0 => 0
  | i + 1 => if fw step i ≠ 0 then fw step i else step i
theorem fw_stays {step : Nat → Int} {i : Nat} (h : fw step i ≠ 0) : ∀ k, fw step (i + k) = fw step i
  | 0 => rfl
  | k + 1 => by
    have ih := fw_stays h k
    show (if fw step (i + k) ≠ 0 then fw step (i + k) else step (i + k)) = fw step i
    rw [ih, if_pos h]
theorem fw_zero {step : Nat → Int} : ∀ {n : Nat}, fw step n = 0 → ∀ i, i < n → step i = 0
  | 0, _, i, hi => by omega
  | n + 1, h, i, hi => by
    have h0 : fw step n = 0 := by
      refine Decidable.byContradiction fun hn => hn ?_
      have := fw_stays hn 1
      rw [← this]
      exact h
    have h' : (if fw step n ≠ 0 then fw step n else step n) = 0 := h
    rw [if_neg (by simpa using h0)] at h'
    rcases Nat.lt_or_ge i n with hlt | hge
    · exact fw_zero h0 i hlt
    · have : i = n := by omega
      rw [this]
      exact h'
theorem fw_loop {st : List G → Option (Option Nat × List G)} (mk : Nat → List G) (n : Nat) (step : Nat → Int) (gn : List G) (hn : n < 999999)
    (hstep : ∀ i, i < n → Ret (st (mk i)) fun o => (step i = 0 ∧ o = (none, mk (i + 1))) ∨ (step i ≠ 0 ∧ o = (some 0, [.i (step i)])))
    (hfin : Ret (st (mk n)) fun o => o = (some 1, gn)) :
    RetL st (mk 0) fun c g => (c = 1 ∧ fw step n = 0 ∧ g = gn) ∨ (c = 0 ∧ g = [.i (fw step n)] ∧ fw step n ≠ 0) := by
  refine ((count_runs (σ := Unit) (fun _ i => mk i) n (fun _ => (1, gn)) (fun _ i => fw step i = 0) (fun c g => c = 0 ∧ g = [.i (fw step n)] ∧ fw step n ≠ 0) ?_ (fun _ _ => hfin) n () 0 (by omega) rfl).to (by omega)).mono ?_
  · rintro _ i hI hi
    refine (hstep i hi).mono ?_
    rintro _ (⟨h0, rfl⟩ | ⟨h1, rfl⟩)
    · refine .inl ⟨(), rfl, ?_⟩
      show (if fw step i ≠ 0 then fw step i else step i) = 0
      rw [if_neg (by simpa using hI)]
      exact h0
    · have e : fw step (i + 1) = step i := by
        show (if fw step i ≠ 0 then fw step i else step i) = step i
        rw [if_neg (by simpa using hI)]
      have e2 : fw step n = step i := by
        have := fw_stays (step := step) (i := i + 1) (by rw [e]; exact h1) (n - (i + 1))
        rw [show i + 1 + (n - (i + 1)) = n by omega, e] at this
        exact this
      exact .inr ⟨0, _, rfl, rfl, by rw [e2], by rw [e2]; exact h1⟩
  · rintro c g (⟨_, h, rfl, rfl⟩ | h)
    · exact .inl ⟨rfl, h, rfl⟩
    · exact .inr h
end
end Go.Proofs.SYthnhleemkjpigaaGreatDoor

namespace Go.Proofs.SYthnhleemkjpigaaGreatDoor
open Go Go.AL Go.Proofs
noncomputable section
def cats : List ByteArray := [⟨#[97, 108, 108]⟩, ⟨#[99, 111, 100, 101]⟩, ⟨#[65]⟩]
def locs : List ByteArray := [⟨#[]⟩, ⟨#[107, 112, 50, 48, 108, 102]⟩, ⟨#[107, 112, 50, 48]⟩]
def Ent (r : List G) : Prop := ∃ (c k : ByteArray) (p : Int) (q : ByteArray), r = [.s c, .s k, .i p, .s q] ∧ c ∈ calls ∧ k ∈ cats ∧ -1099511627776 ≤ p ∧ p ≤ 1099511627776 ∧ q ∈ locs
theorem Ent.eta {r : List G} (h : Ent r) : gEta KEntrant r = r := by
  obtain ⟨c, k, p, q, rfl, _⟩ := h
  rfl
def two : List (List G) := [[.s (⟨#[97, 108, 108]⟩ : ByteArray)], [.s (⟨#[99, 111, 100, 101]⟩ : ByteArray)]]
/-! ### What is wrong with entrants -/
theorem less_eq : ∀ a b : List UInt8, Op.bytesLess a b = decide (Lib.compareBytes a b < 0)
  | [], [] => rfl
  | _ :: _, [] => rfl
  | [], _ :: _ => rfl
  | a :: x, b :: y => by
    simp only [Op.bytesLess, Lib.compareBytes, less_eq x y]
    by_cases h1 : a < b
    · simp [h1]
    · by_cases h2 : b < a
      · have h3 : a ≠ b := fun h => by
          subst h
          exact h1 h2
        simp [h1, h2, h3]
      · have h3 : a = b := UInt8.le_antisymm (UInt8.not_lt.1 h2) (UInt8.not_lt.1 h1)
        subst h3
        simp [h1]
end
end Go.Proofs.SYthnhleemkjpigaaGreatDoor

namespace Go.Proofs.SYthnhleemkjpigaaGreatDoor
open Go Go.AL Go.Proofs
noncomputable section
def Crd (r : List G) : Prop := ∃ (t k m : Int) (c b : ByteArray), r = [.i t, .i k, .i m, .s c, .s b] ∧ small t ∧ small k ∧ small m ∧ c ∈ calls ∧ b ∈ bands
theorem Crd.eta {r : List G} (h : Crd r) : gEta KCard r = r := by
  obtain ⟨t, k, m, c, b, rfl, _⟩ := h
  rfl
theorem kdsK : Kds KCard Crd := ⟨fun _ h => h.eta⟩
def ordK (r s : List G) : Int := or2 (cmpI (gi r 0).int (gi s 0).int) (or2 (cmpS (gi r 3).str (gi s 3).str) (or2 (cmpS (gi r 4).str (gi s 4).str) (or2 (cmpI (gi r 2).int (gi s 2).int) (cmpI (gi r 1).int (gi s 1).int))))
theorem ordK_lt (a b d : List G) (h1 : ordK a b < 0) (h2 : ordK b d < 0) : ordK a d < 0 :=
  or2_lt ordrI _ _ _ _ _ _ h1 h2 fun g1 g2 => or2_lt ordrS _ _ _ _ _ _ g1 g2 fun k1 k2 => or2_lt ordrS _ _ _ _ _ _ k1 k2 fun m1 m2 => or2_lt ordrI _ _ _ _ _ _ m1 m2 fun n1 n2 => ordrI.tr _ _ _ n1 n2
theorem ordK_at {r s : List G} (h : ordK r s ≤ 0) : (gi r 0).int ≤ (gi s 0).int := by
  refine Int.not_lt.1 fun hlt => ?_
  have e : cmpI (gi r 0).int (gi s 0).int = 1 := by
    unfold cmpI
    rw [if_neg (by omega), if_pos hlt]
  unfold ordK or2 at h
  rw [e] at h
  simp at h
theorem sign_ok (a b : Int) : F_pileref2_sign [.i (a - b)] = some [.i (cmpI a b)] := by
  refine Ret.toEq ?_
  unfold F_pileref2_sign cmpI
  (dsimp +instances only [gi0,gis,row1,rows1,int1,str1,bool1])
  by_cases h1 : a < b
  · (repeat(first|(refine Ret.pos ?_ ?_;(first|rfl|assumption|(simp only [inI,sl]<;>omega)))|(refine Ret.neg ?_ ?_;(first|rfl|assumption|(simp only [inI,sl]<;>omega)))))
    exact Ret.some (by simp [h1])
  · by_cases h2 : b < a
    · (repeat(first|(refine Ret.pos ?_ ?_;(first|rfl|assumption|(simp only [inI,sl]<;>omega)))|(refine Ret.neg ?_ ?_;(first|rfl|assumption|(simp only [inI,sl]<;>omega)))))
      exact Ret.some (by simp [h1, h2])
    · (repeat(first|(refine Ret.pos ?_ ?_;(first|rfl|assumption|(simp only [inI,sl]<;>omega)))|(refine Ret.neg ?_ ?_;(first|rfl|assumption|(simp only [inI,sl]<;>omega)))))
      exact Ret.some (by simp [h1, h2])
theorem cardOrder_eq {r s : List G} (hr : Crd r) (hs : Crd s) : F_pileref2_CardOrder [.l [r], .l [s]] = some [.i (ordK r s)] := by
  obtain ⟨t, k, m, c, b, rfl, ht, hk, hm, _⟩ := hr
  obtain ⟨t', k', m', c', b', rfl, ht', hk', hm', _⟩ := hs
  unfold small at *
  refine Ret.toEq ?_
  unfold F_pileref2_CardOrder
  (dsimp +instances only [gi0,gis,row1,rows1,int1,str1,bool1])
  have eo : ordK [.i t, .i k, .i m, .s c, .s b] [.i t', .i k', .i m', .s c', .s b'] = or2 (cmpI t t') (or2 (cmpS c c') (or2 (cmpS b b') (or2 (cmpI m m') (cmpI k k')))) := rfl
  rw [eo]
  simp only [str_eq]
  unfold or2
  by_cases e1 : t = t'
  · subst e1
    have z : cmpI t t = 0 := cmpI_z.2 rfl
    simp only [z]
    refine Ret.neg (by simp) ?_
    by_cases e2 : cmpS c c' = 0
    · simp only [e2]
      refine Ret.neg (by simp) ?_
      by_cases e3 : cmpS b b' = 0
      · simp only [e3]
        refine Ret.neg (by simp) ?_
        by_cases e4 : m = m'
        · subst e4
          have z : cmpI m m = 0 := cmpI_z.2 rfl
          simp only [z]
          refine Ret.neg (by simp) ?_
          refine Ret.pos (by (first|rfl|assumption|(simp only [inI,sl]<;>omega))) ?_
          refine Ret.call (Ret.eq (sign_ok k k')) ?_
          rintro _ rfl
          exact Ret.some (by simp [gi, G.int])
        · have z : ¬ cmpI m m' = 0 := fun h => e4 (cmpI_z.1 h)
          refine Ret.pos (by simpa using e4) ?_
          refine Ret.pos (by (first|rfl|assumption|(simp only [inI,sl]<;>omega))) ?_
          refine Ret.call (Ret.eq (sign_ok m m')) ?_
          rintro _ rfl
          exact Ret.some (by simp [gi, G.int, z])
      · refine Ret.pos (by simpa using e3) (Ret.call (Ret.eq (rfl : F_strings_Compare [.s b, .s b'] = some [.i (cmpS b b')])) ?_)
        rintro _ rfl
        exact Ret.some (by simp [gi, G.int, G.str, e3])
    · refine Ret.pos (by simpa using e2) (Ret.call (Ret.eq (rfl : F_strings_Compare [.s c, .s c'] = some [.i (cmpS c c')])) ?_)
      rintro _ rfl
      exact Ret.some (by simp [gi, G.int, G.str, e2])
  · have z : ¬ cmpI t t' = 0 := fun h => e1 (cmpI_z.1 h)
    refine Ret.pos (by simpa using e1) ?_
    refine Ret.pos (by (first|rfl|assumption|(simp only [inI,sl]<;>omega))) ?_
    refine Ret.call (Ret.eq (sign_ok t t')) ?_
    rintro _ rfl
    exact Ret.some (by simp [gi, G.int, z])
theorem or_five (a b c d e : Int) : F_cmp_Or_int [.l [[.i a], [.i b], [.i c], [.i d], [.i e]]] = some [.i (or2 a (or2 b (or2 c (or2 d e))))] := by
  refine Ret.toEq ?_
  unfold F_cmp_Or_int
  (dsimp +instances only [gi0,gis,row1,rows1,int1,str1,bool1])
  have h := or_runs [[.i a], [.i b], [.i c], [.i d], [.i e]] [] (by simp)
  refine Ret.loop (h.to (by simp)) (by (first|rfl|assumption|(simp only [inI,sl]<;>omega))) ?_
  rintro x g ⟨hx, rfl⟩
  have q : orL [[.i a], [.i b], [.i c], [.i d], [.i e]] = or2 a (or2 b (or2 c (or2 d e))) := by
    simp only [orL, or2]
    (dsimp +instances only [gi0,gis,row1,rows1,int1,str1,bool1])
    by_cases h1 : a = 0 <;> by_cases h2 : b = 0 <;> by_cases h3 : c = 0 <;> by_cases h4 : d = 0 <;> by_cases h5 : e = 0 <;> simp [h1, h2, h3, h4, h5]
  rw [q]
  (dsimp +instances only [gi0,gis,row1,rows1,int1,str1,bool1])
  exact Ret.test (fun _ => Ret.some rfl) fun _ => Ret.some rfl
theorem compareCards_eq (r s : List G) : F_club_compareCards [.l [r], .l [s]] = some [.i (ordK r s)] := by
  refine Ret.toEq ?_
  unfold F_club_compareCards ordK
  (dsimp +instances only [gi0,gis,row1,rows1,int1,str1,bool1])
  refine Ret.call (Ret.eq (cmpInt_eq _ _)) ?_
  rintro _ rfl
  refine Ret.call (Ret.eq (rfl : F_strings_Compare [.s (gi r 3).str, .s (gi s 3).str] = some [.i (cmpS (gi r 3).str (gi s 3).str)])) ?_
  rintro _ rfl
  refine Ret.call (Ret.eq (rfl : F_strings_Compare [.s (gi r 4).str, .s (gi s 4).str] = some [.i (cmpS (gi r 4).str (gi s 4).str)])) ?_
  rintro _ rfl
  refine Ret.call (Ret.eq (cmpInt_eq _ _)) ?_
  rintro _ rfl
  refine Ret.call (Ret.eq (cmpInt_eq _ _)) ?_
  rintro _ rfl
  (dsimp +instances only [gi0,gis,row1,rows1,int1,str1,bool1])
  refine Ret.call (Ret.eq (or_five _ _ _ _ _)) ?_
  rintro _ rfl
  exact Ret.some rfl
theorem cmpCardOrder : Cmp KCard F_pileref2_CardOrder Crd ordK := ⟨fun _ _ hr hs => cardOrder_eq hr hs, fun _ h => h.eta⟩
def zK : List G := [.i 0, .i 0, .i 0, .s (⟨#[]⟩ : ByteArray), .s (⟨#[]⟩ : ByteArray)]
theorem loop_Cards (l : List (List G)) (n : Nat) (hn : n ≤ 20) : ∀ (k i : Nat) (a t : Int) (acc : List (List G)), i + k = n → 0 ≤ a → a ≤ 800000 → 0 ≤ t → t ≤ 20 * (i : Int) → a + 20 * (k : Int) ≤ 800000 → (∀ z ∈ acc, Crd z) → acc.length = i →
    RetN st_pilemake_Stream_Cards_4 [.l l, .i a, .l acc, .i t, .i (n : Int), .i (i : Int)] (k + 1) fun c g => c = 0 ∧ ∃ b rows, g = [.l l, .i b, .l rows] ∧ a ≤ b ∧ b ≤ a + 20 * k ∧ (∀ z ∈ rows, Crd z) ∧ rows.length = n
  | 0, i, a, t, acc, hi, ha, ha1, ht, ht1, hb, hQ, hl => by
    refine RetN.stop (x := 0) (Ret.toEq ?_) ⟨rfl, a, acc, rfl, by omega, by omega, hQ, by omega⟩
    unfold st_pilemake_Stream_Cards_4
    (dsimp +instances only [gi0,gis,row1,rows1,int1,str1,bool1])
    (repeat(first|(refine Ret.pos ?_ ?_;(first|rfl|assumption|(simp only [inI,sl]<;>omega)))|(refine Ret.neg ?_ ?_;(first|rfl|assumption|(simp only [inI,sl]<;>omega)))))
    exact Ret.some rfl
  | k + 1, i, a, t, acc, hi, ha, ha1, ht, ht1, hb, hQ, hl => by
    have key : Ret (st_pilemake_Stream_Cards_4 [.l l, .i a, .l acc, .i t, .i (n : Int), .i (i : Int)]) fun o => ∃ b r v, o = (none, [.l l, .i b, .l (acc ++ [r]), .i (t + v), .i (n : Int), .i ((i : Int) + 1)]) ∧ a ≤ b ∧ b ≤ a + 20 ∧ Crd r ∧ 0 ≤ v ∧ v ≤ 20 := by
      unfold st_pilemake_Stream_Cards_4
      (dsimp +instances only [gi0,gis,row1,rows1,int1,str1,bool1])
      refine Ret.pos (by (first|rfl|assumption|(simp only [inI,sl]<;>omega))) ?_
      refine Ret.call (r_PickB 0 20 l a _ ha (by omega) (by kernel_rfl) (by kernel_rfl)) ?_
      rintro _ ⟨v, rfl, hv0, hv1⟩
      (dsimp +instances only [gi0,gis,row1,rows1,int1,str1,bool1])
      refine Ret.pos (by (first|rfl|assumption|(simp only [inI,sl]<;>omega))) ?_
      refine Ret.call (r_PickB 1 3 l _ _ (by omega) (by omega) (by kernel_rfl) (by kernel_rfl)) ?_
      rintro _ ⟨kd, rfl, hk0, hk1⟩
      (dsimp +instances only [gi0,gis,row1,rows1,int1,str1,bool1])
      refine Ret.call (r_PickB 1 3 l _ _ (by omega) (by omega) (by kernel_rfl) (by kernel_rfl)) ?_
      rintro _ ⟨m, rfl, hm0, hm1⟩
      (dsimp +instances only [gi0,gis,row1,rows1,int1,str1,bool1])
      refine Ret.call (r_ACall l _ (by omega) (by omega)) ?_
      rintro _ ⟨c, rfl, hc⟩
      (dsimp +instances only [gi0,gis,row1,rows1,int1,str1,bool1])
      refine Ret.call (r_SomeB bands l _ _ (by omega) (by omega) (by kernel_rfl) (by kernel_rfl)) ?_
      rintro _ ⟨bd, rfl, hbd⟩
      (dsimp +instances only [gi0,gis,row1,rows1,int1,str1,bool1])
      refine Ret.call (r_Flip l _ 100 (by omega) (by omega) (by omega) (by omega)) ?_
      rintro _ ⟨f, rfl⟩
      (dsimp +instances only [gi0,gis,row1,rows1,int1,str1,bool1])
      cases f with
      | false =>
        (repeat(first|(refine Ret.pos ?_ ?_;(first|rfl|assumption|(simp only [inI,sl]<;>omega)))|(refine Ret.neg ?_ ?_;(first|rfl|assumption|(simp only [inI,sl]<;>omega)))))
        exact Ret.some ⟨_, _, v, rfl, by omega, by omega, ⟨_, _, _, _, _, rfl, ⟨by omega, by omega⟩, ⟨by omega, by omega⟩, ⟨by omega, by omega⟩, hc, hbd⟩, hv0, hv1⟩
      | true =>
        refine Ret.pos rfl ?_
        refine Ret.call (r_Odd l _ 0 50 (by omega) (by omega) (by omega) (by omega) (by omega)) ?_
        rintro _ ⟨t', rfl, ht'⟩
        (dsimp +instances only [gi0,gis,row1,rows1,int1,str1,bool1])
        refine Ret.call (r_Odd l _ 1 3 (by omega) (by omega) (by omega) (by omega) (by omega)) ?_
        rintro _ ⟨k', rfl, hk'⟩
        (dsimp +instances only [gi0,gis,row1,rows1,int1,str1,bool1])
        refine Ret.call (r_Odd l _ 1 3 (by omega) (by omega) (by omega) (by omega) (by omega)) ?_
        rintro _ ⟨m', rfl, hm'⟩
        (dsimp +instances only [gi0,gis,row1,rows1,int1,str1,bool1])
        refine Ret.call (r_SomeB bands l _ _ (by omega) (by omega) (by kernel_rfl) (by kernel_rfl)) ?_
        rintro _ ⟨b', rfl, hb'⟩
        (dsimp +instances only [gi0,gis,row1,rows1,int1,str1,bool1])
        (repeat(first|(refine Ret.pos ?_ ?_;(first|rfl|assumption|(simp only [inI,sl]<;>omega)))|(refine Ret.neg ?_ ?_;(first|rfl|assumption|(simp only [inI,sl]<;>omega)))))
        exact Ret.some ⟨_, _, v, rfl, by omega, by omega, ⟨_, _, _, _, _, rfl, ⟨by omega, by omega⟩, ⟨by omega, by omega⟩, ⟨by omega, by omega⟩, hc, hb'⟩, hv0, hv1⟩
    obtain ⟨_, h, b, r, v, rfl, h1, h2, h3, h4, h5⟩ := key
    have ih := loop_Cards l n hn k (i + 1) b (t + v) (acc ++ [r]) (by omega) (by omega) (by omega) (by omega) (by omega) (by omega) (by
      intro z hz
      rcases List.mem_append.1 hz with hz | hz
      · exact hQ z hz
      · simp at hz; exact hz ▸ h3) (by simp [hl])
    refine RetN.next h (ih.mono ?_)
    rintro c g ⟨rfl, b', rows, rfl, q1, q2, q3, q4⟩
    exact ⟨rfl, b', rows, rfl, by omega, by omega, q3, q4⟩
theorem sortCardOrder_eq (rows : List (List G)) (hr : ∀ y ∈ rows, Crd y) (hn : rows.length ≤ 20) : F_slices_SortStableFunc_Card [.l rows] = some [.l (sortA (ltC ordK) rows)] :=
  sortF_eq cmpCardOrder rows hr hn
theorem r_Cards (l : List (List G)) (a n : Int) (ha : 0 ≤ a) (ha1 : a ≤ 700000) (h0 : 0 ≤ n) (h1 : n ≤ 20) :
    Ret (F_pilemake_Stream_Cards [.l l, .i a, .i n]) fun g => ∃ b rows, g = [.l l, .i b, .l rows] ∧ a ≤ b ∧ b ≤ a + 400 ∧ (∀ z ∈ rows, Crd z) ∧ (rows.length : Int) ≤ n := by
  obtain ⟨n, rfl⟩ := Int.eq_ofNat_of_zero_le h0
  unfold F_pilemake_Stream_Cards
  (dsimp +instances only [gi0,gis,row1,rows1,int1,str1,bool1])
  refine Ret.loop ((loop_Cards l n (by omega) n 0 a 0 [] (by omega) ha (by omega) (by omega) (by omega) (by omega) (by simp) rfl).to (by omega)) rfl ?_
  rintro c g ⟨rfl, b, rows, rfl, q1, q2, q3, q4⟩
  (dsimp +instances only [gi0,gis,row1,rows1,int1,str1,bool1])
  have hs := sortA_all (lt := ltC ordK) q3
  have hsl := sortA_length (ltC ordK) rows
  refine Ret.callb (Ret.eq (sortCardOrder_eq rows q3 (by omega))) (by (first|rfl|assumption|(simp only [inI,sl]<;>omega))) ?_
  rintro _ rfl
  (dsimp +instances only [gi0,gis,row1,rows1,int1,str1,bool1])
  refine Ret.callb (P := fun g => ∃ J, g = [.l (compact (rowEq KCard) (sortA (ltC ordK) rows) ++ J), .i ((compact (rowEq KCard) (sortA (ltC ordK) rows)).length : Int)] ∧ (compact (rowEq KCard) (sortA (ltC ordK) rows) ++ J).length = (sortA (ltC ordK) rows).length)
    (cmpcF_eq (Z := zK) kdsK _ hs (by omega)) (by rw [hsl]; simp) ?_
  rintro _ ⟨J, rfl, hJ⟩
  have hle : (compact (rowEq KCard) (sortA (ltC ordK) rows)).length ≤ (sortA (ltC ordK) rows).length := compact_length _ _
  (dsimp +instances only [gi0,gis,row1,rows1,int1,str1,bool1])
  simp only [Int.toNat_natCast]
  refine Ret.pos (by simp [Nat.ble_eq]) (Ret.some ?_)
  exact ⟨b, compact (rowEq KCard) (sortA (ltC ordK) rows), by simp, by omega, by omega, fun z hz => hs z (compact_mem hz), by omega⟩
/-! ### What is wrong with cards -/
def faultK1 (x : List G) : Int :=
  bif !inB (gi x 0).int 0 345686399999 then 1 else bif !inB (gi x 1).int 1 3 then 4 else bif !inB (gi x 2).int 1 3 then 4 else bif !okCall (gi x 3).str then 3 else bif !okKey (gi x 4).str then 5 else 0
def stepK (rows : List (List G)) (i : Nat) : Int :=
  if faultK1 (rows.getD i []) ≠ 0 then faultK1 (rows.getD i []) else if 0 < i ∧ 0 ≤ ordK (rows.getD (i - 1) []) (rows.getD i []) then 7 else 0
def faultCards (rows : List (List G)) : Int := if 3000 < rows.length then 2 else fw (stepK rows) rows.length
theorem moment_ok (t : Int) : F_pileref2_Moment [.i t] = some [.t (inB t 0 345686399999)] := by
  unfold F_pileref2_Moment
  (dsimp +instances only [gi0,gis,row1,rows1,int1,str1,bool1])
  rw [in_eq]
  rfl
theorem isMoment_ok (t : Int) : F_kit_IsMoment [.i t] = some [.t (inB t 0 345686399999)] := by
  unfold F_kit_IsMoment
  (dsimp +instances only [gi0,gis,row1,rows1,int1,str1,bool1])
  rw [outside_eq]
  show some [G.t (!(!inB t 0 345686399999))] = _
  rw [Bool.not_not]
theorem isMode_ok (t : Int) : F_kit_IsMode [.i t] = some [.t (inB t 1 3)] := by
  unfold F_kit_IsMode
  (dsimp +instances only [gi0,gis,row1,rows1,int1,str1,bool1])
  rw [outside_eq]
  show some [G.t (!(!inB t 1 3))] = _
  rw [Bool.not_not]
theorem cardsFault_step (rows : List (List G)) (hr : ∀ z ∈ rows, Crd z) (hn : rows.length ≤ 3000) (i : Nat) (hi : i < rows.length) :
    Ret (st_pileref2_CardsFault_4 [.l rows, .l rows, .i (rows.length : Int), .i (i : Int)]) fun o => (stepK rows i = 0 ∧ o = (none, [.l rows, .l rows, .i (rows.length : Int), .i ((i + 1 : Nat) : Int)])) ∨ (stepK rows i ≠ 0 ∧ o = (some 0, [.i (stepK rows i)])) := by
  obtain ⟨t, k, m, c, b, hx, ht, hk, hm, hc, hb⟩ := hr _ (getD_row hi)
  have hC : Crd (rows.getD i []) := hr _ (getD_row hi)
  have ef : faultK1 (rows.getD i []) = bif !inB t 0 345686399999 then 1 else bif !inB k 1 3 then 4 else bif !inB m 1 3 then 4 else bif !okCall c then 3 else bif !okKey b then 5 else 0 := by
    rw [hx]
    rfl
  unfold st_pileref2_CardsFault_4
  (dsimp +instances only [gi0,gis,row1,rows1,int1,str1,bool1])
  simp only [Int.toNat_natCast, hC.eta]
  have f0 : (gi (rows.getD i []) 0).int = t := by rw [hx]; rfl
  have f1 : (gi (rows.getD i []) 1).int = k := by rw [hx]; rfl
  have f2 : (gi (rows.getD i []) 2).int = m := by rw [hx]; rfl
  have f3 : (gi (rows.getD i []) 3).str = c := by rw [hx]; rfl
  have f4 : (gi (rows.getD i []) 4).str = b := by rw [hx]; rfl
  simp only [f0, f1, f2, f3, f4]
  refine Ret.pos (by (first|rfl|assumption|(simp only [inI,sl]<;>omega))) (Ret.pos (by (first|rfl|assumption|(simp only [inI,sl]<;>omega))) ?_)
  refine Ret.call (Ret.eq (moment_ok t)) ?_
  rintro _ rfl
  (dsimp +instances only [gi0,gis,row1,rows1,int1,str1,bool1])
  refine Ret.test (fun h => ?_) fun h0 => ?_
  · have e : stepK rows i = 1 := by
      unfold stepK
      rw [ef, h]
      rfl
    rw [e]
    exact Ret.some (.inr ⟨by omega, rfl⟩)
  rw [h0, cond_false] at ef
  refine Ret.call (Ret.eq (in_eq k 1 3)) ?_
  rintro _ rfl
  (dsimp +instances only [gi0,gis,row1,rows1,int1,str1,bool1])
  refine Ret.test (fun h => ?_) fun h1 => ?_
  · have e : stepK rows i = 4 := by
      unfold stepK
      rw [ef, h]
      rfl
    rw [e]
    exact Ret.some (.inr ⟨by omega, rfl⟩)
  rw [h1, cond_false] at ef
  refine Ret.call (Ret.eq (in_eq m 1 3)) ?_
  rintro _ rfl
  (dsimp +instances only [gi0,gis,row1,rows1,int1,str1,bool1])
  refine Ret.test (fun h => ?_) fun h2 => ?_
  · have e : stepK rows i = 4 := by
      unfold stepK
      rw [ef, h]
      rfl
    rw [e]
    exact Ret.some (.inr ⟨by omega, rfl⟩)
  rw [h2, cond_false] at ef
  refine Ret.call (Ret.eq (call_eq hc)) ?_
  rintro _ rfl
  (dsimp +instances only [gi0,gis,row1,rows1,int1,str1,bool1])
  refine Ret.test (fun h => ?_) fun h3 => ?_
  · have e : stepK rows i = 3 := by
      unfold stepK
      rw [ef, h]
      rfl
    rw [e]
    exact Ret.some (.inr ⟨by omega, rfl⟩)
  rw [h3, cond_false] at ef
  refine Ret.call (Ret.eq (key_eq (.inl hb))) ?_
  rintro _ rfl
  (dsimp +instances only [gi0,gis,row1,rows1,int1,str1,bool1])
  refine Ret.test (fun h => ?_) fun h4 => ?_
  · have e : stepK rows i = 5 := by
      unfold stepK
      rw [ef, h]
      rfl
    rw [e]
    exact Ret.some (.inr ⟨by omega, rfl⟩)
  rw [h4, cond_false] at ef
  have e : stepK rows i = if 0 < i ∧ 0 ≤ ordK (rows.getD (i - 1) []) (rows.getD i []) then 7 else 0 := by
    unfold stepK
    rw [ef, if_neg (by simp)]
  refine Ret.test (fun h => ?_) fun h => ?_
  · simp only [ltI_eq, decide_eq_true_eq] at h
    have ei : ((i : Int) - 1).toNat = i - 1 := by omega
    have hy : Crd (rows.getD (i - 1) []) := hr _ (getD_row (by omega))
    simp only [ei, hy.eta]
    refine Ret.pos (by (first|rfl|assumption|(simp only [inI,sl]<;>omega))) (Ret.pos (by (first|rfl|assumption|(simp only [inI,sl]<;>omega))) ?_)
    refine Ret.call (Ret.eq (cardOrder_eq hy hC)) ?_
    rintro _ rfl
    (dsimp +instances only [gi0,gis,row1,rows1,int1,str1,bool1])
    refine Ret.test (fun h7 => ?_) fun h7 => ?_
    · simp only [leI_eq, decide_eq_true_eq] at h7
      rw [if_pos ⟨by omega, h7⟩] at e
      rw [e]
      exact Ret.some (.inr ⟨by omega, rfl⟩)
    · simp only [leI_eq, decide_eq_false_iff_not] at h7
      rw [if_neg (fun h' => h7 h'.2)] at e
      refine Ret.pos (by (first|rfl|assumption|(simp only [inI,sl]<;>omega))) (Ret.some (.inl ⟨e, rfl⟩))
  · simp only [ltI_eq, decide_eq_false_iff_not] at h
    rw [if_neg (by omega)] at e
    refine Ret.pos (by (first|rfl|assumption|(simp only [inI,sl]<;>omega))) (Ret.some (.inl ⟨e, rfl⟩))
theorem cardsFault_ok (rows : List (List G)) (hr : ∀ z ∈ rows, Crd z) : F_pileref2_CardsFault [.l rows] = some [.i (faultCards rows)] := by
  refine Ret.toEq ?_
  unfold F_pileref2_CardsFault faultCards
  (dsimp +instances only [gi0,gis,row1,rows1,int1,str1,bool1])
  by_cases hn : 3000 < rows.length
  · refine Ret.pos (by (first|rfl|assumption|(simp only [inI,sl]<;>omega))) ?_
    rw [if_pos hn]
    exact Ret.some rfl
  · refine Ret.neg (by (first|rfl|assumption|(simp only [inI,sl]<;>omega))) ?_
    rw [if_neg hn]
    refine Ret.loop (fw_loop (fun i => [.l rows, .l rows, .i (rows.length : Int), .i (i : Int)]) rows.length (stepK rows) [] (by omega) (cardsFault_step rows hr (by omega)) ?_) rfl ?_
    · unfold st_pileref2_CardsFault_4
      (dsimp +instances only [gi0,gis,row1,rows1,int1,str1,bool1])
      (repeat(first|(refine Ret.pos ?_ ?_;(first|rfl|assumption|(simp only [inI,sl]<;>omega)))|(refine Ret.neg ?_ ?_;(first|rfl|assumption|(simp only [inI,sl]<;>omega)))))
      exact Ret.some rfl
    · rintro _ _ (⟨rfl, h, rfl⟩ | ⟨rfl, rfl, _⟩)
      · rw [h]
        exact Ret.some rfl
      · exact Ret.some rfl
theorem checkCards_step (rows : List (List G)) (hr : ∀ z ∈ rows, Crd z) (hn : rows.length ≤ 3000) (i : Nat) (hi : i < rows.length) :
    Ret (st_club_CheckCards_4 [.l rows, .l rows, .i (rows.length : Int), .i (i : Int)]) fun o => (stepK rows i = 0 ∧ o = (none, [.l rows, .l rows, .i (rows.length : Int), .i ((i + 1 : Nat) : Int)])) ∨ (stepK rows i ≠ 0 ∧ o = (some 0, [.i (stepK rows i)])) := by
  obtain ⟨t, k, m, c, b, hx, ht, hk, hm, hc, hb⟩ := hr _ (getD_row hi)
  have hC : Crd (rows.getD i []) := hr _ (getD_row hi)
  have ef : faultK1 (rows.getD i []) = bif !inB t 0 345686399999 then 1 else bif !inB k 1 3 then 4 else bif !inB m 1 3 then 4 else bif !okCall c then 3 else bif !okKey b then 5 else 0 := by
    rw [hx]
    rfl
  unfold st_club_CheckCards_4
  (dsimp +instances only [gi0,gis,row1,rows1,int1,str1,bool1])
  simp only [Int.toNat_natCast, hC.eta]
  have f0 : (gi (rows.getD i []) 0).int = t := by rw [hx]; rfl
  have f1 : (gi (rows.getD i []) 1).int = k := by rw [hx]; rfl
  have f2 : (gi (rows.getD i []) 2).int = m := by rw [hx]; rfl
  have f3 : (gi (rows.getD i []) 3).str = c := by rw [hx]; rfl
  have f4 : (gi (rows.getD i []) 4).str = b := by rw [hx]; rfl
  simp only [f0, f1, f2, f3, f4]
  refine Ret.pos (by (first|rfl|assumption|(simp only [inI,sl]<;>omega))) (Ret.pos (by (first|rfl|assumption|(simp only [inI,sl]<;>omega))) ?_)
  refine Ret.call (Ret.eq (isMoment_ok t)) ?_
  rintro _ rfl
  (dsimp +instances only [gi0,gis,row1,rows1,int1,str1,bool1])
  refine Ret.test (fun h => ?_) fun h0 => ?_
  · have e : stepK rows i = 1 := by
      unfold stepK
      rw [ef, h]
      rfl
    rw [e]
    exact Ret.some (.inr ⟨by omega, rfl⟩)
  rw [h0, cond_false] at ef
  refine Ret.call (Ret.eq (outside_eq k 1 3)) ?_
  rintro _ rfl
  (dsimp +instances only [gi0,gis,row1,rows1,int1,str1,bool1])
  refine Ret.test (fun h => ?_) fun h1 => ?_
  · have e : stepK rows i = 4 := by
      unfold stepK
      rw [ef, h]
      rfl
    rw [e]
    exact Ret.some (.inr ⟨by omega, rfl⟩)
  rw [h1, cond_false] at ef
  refine Ret.call (Ret.eq (isMode_ok m)) ?_
  rintro _ rfl
  (dsimp +instances only [gi0,gis,row1,rows1,int1,str1,bool1])
  refine Ret.test (fun h => ?_) fun h2 => ?_
  · have e : stepK rows i = 4 := by
      unfold stepK
      rw [ef, h]
      rfl
    rw [e]
    exact Ret.some (.inr ⟨by omega, rfl⟩)
  rw [h2, cond_false] at ef
  refine Ret.call (Ret.eq (isCall_eq hc)) ?_
  rintro _ rfl
  (dsimp +instances only [gi0,gis,row1,rows1,int1,str1,bool1])
  refine Ret.test (fun h => ?_) fun h3 => ?_
  · have e : stepK rows i = 3 := by
      unfold stepK
      rw [ef, h]
      rfl
    rw [e]
    exact Ret.some (.inr ⟨by omega, rfl⟩)
  rw [h3, cond_false] at ef
  refine Ret.call (Ret.eq (isKey_eq (.inl hb))) ?_
  rintro _ rfl
  (dsimp +instances only [gi0,gis,row1,rows1,int1,str1,bool1])
  refine Ret.test (fun h => ?_) fun h4 => ?_
  · have e : stepK rows i = 5 := by
      unfold stepK
      rw [ef, h]
      rfl
    rw [e]
    exact Ret.some (.inr ⟨by omega, rfl⟩)
  rw [h4, cond_false] at ef
  have e : stepK rows i = if 0 < i ∧ 0 ≤ ordK (rows.getD (i - 1) []) (rows.getD i []) then 7 else 0 := by
    unfold stepK
    rw [ef, if_neg (by simp)]
  refine Ret.test (fun h => ?_) fun h => ?_
  · simp only [ltI_eq, decide_eq_true_eq] at h
    have ei : ((i : Int) - 1).toNat = i - 1 := by omega
    have hy : Crd (rows.getD (i - 1) []) := hr _ (getD_row (by omega))
    simp only [ei, hy.eta]
    refine Ret.pos (by (first|rfl|assumption|(simp only [inI,sl]<;>omega))) (Ret.pos (by (first|rfl|assumption|(simp only [inI,sl]<;>omega))) ?_)
    refine Ret.call (Ret.eq (compareCards_eq _ _)) ?_
    rintro _ rfl
    (dsimp +instances only [gi0,gis,row1,rows1,int1,str1,bool1])
    refine Ret.test (fun h7 => ?_) fun h7 => ?_
    · simp only [leI_eq, decide_eq_true_eq] at h7
      rw [if_pos ⟨by omega, h7⟩] at e
      rw [e]
      exact Ret.some (.inr ⟨by omega, rfl⟩)
    · simp only [leI_eq, decide_eq_false_iff_not] at h7
      rw [if_neg (fun h' => h7 h'.2)] at e
      refine Ret.pos (by (first|rfl|assumption|(simp only [inI,sl]<;>omega))) (Ret.some (.inl ⟨e, rfl⟩))
  · simp only [ltI_eq, decide_eq_false_iff_not] at h
    rw [if_neg (by omega)] at e
    refine Ret.pos (by (first|rfl|assumption|(simp only [inI,sl]<;>omega))) (Ret.some (.inl ⟨e, rfl⟩))
theorem checkCards_ok (rows : List (List G)) (hr : ∀ z ∈ rows, Crd z) : F_club_CheckCards [.l rows] = some [.i (faultCards rows)] := by
  refine Ret.toEq ?_
  unfold F_club_CheckCards faultCards
  (dsimp +instances only [gi0,gis,row1,rows1,int1,str1,bool1])
  by_cases hn : 3000 < rows.length
  · refine Ret.pos (by (first|rfl|assumption|(simp only [inI,sl]<;>omega))) ?_
    rw [if_pos hn]
    exact Ret.some rfl
  · refine Ret.neg (by (first|rfl|assumption|(simp only [inI,sl]<;>omega))) ?_
    rw [if_neg hn]
    refine Ret.loop (fw_loop (fun i => [.l rows, .l rows, .i (rows.length : Int), .i (i : Int)]) rows.length (stepK rows) [] (by omega) (checkCards_step rows hr (by omega)) ?_) rfl ?_
    · unfold st_club_CheckCards_4
      (dsimp +instances only [gi0,gis,row1,rows1,int1,str1,bool1])
      (repeat(first|(refine Ret.pos ?_ ?_;(first|rfl|assumption|(simp only [inI,sl]<;>omega)))|(refine Ret.neg ?_ ?_;(first|rfl|assumption|(simp only [inI,sl]<;>omega)))))
      exact Ret.some rfl
    · rintro _ _ (⟨rfl, h, rfl⟩ | ⟨rfl, rfl, _⟩)
      · rw [h]
        exact Ret.some rfl
      · exact Ret.some rfl
end
end Go.Proofs.SYthnhleemkjpigaaGreatDoor

namespace Go.Proofs.SYthnhleemkjpigaaGreatDoor
open Go Go.AL Go.Proofs
noncomputable section
/-! ### Merging -/
/-! ### Cards that came -/
theorem Crd.call {r : List G} (h : Crd r) : (gi r 3).str ∈ calls := by
  obtain ⟨t, k, m, c, b, rfl, _, _, _, hc, _⟩ := h
  exact hc
def wkK (y : List G) : List G := [.s (baseOf (gi y 3).str), .s (gi y 4).str, .i (gi y 2).int]
theorem contactOf_ok {c : List G} (hc : Crd c) : F_club_contactOf [.l [c]] = some [.l [wkK c]] := by
  refine Ret.toEq ?_
  unfold F_club_contactOf
  (dsimp +instances only [gi0,gis,row1,rows1,int1,str1,bool1])
  refine Ret.call (Ret.eq (base_eq hc.call)) ?_
  rintro _ rfl
  exact Ret.some rfl
theorem with_ok {o c : List G} (ho : Crd o) (hc : Crd c) : F_pileref2_with [.l [o], .l [c]] = some [.t (rowEq K3 (wkK c) (wkK o))] := by
  have e : rowEq K3 (wkK c) (wkK o) = ((baseOf (gi o 3).str).toList == (baseOf (gi c 3).str).toList && ((gi o 4).str.toList == (gi c 4).str.toList && ((gi o 2).int == (gi c 2).int && true))) := by
    rw [rowEq_symm]
    rfl
  unfold F_pileref2_with
  (dsimp +instances only [gi0,gis,row1,rows1,int1,str1,bool1])
  rw [baseRef_eq ho.call, baseRef_eq hc.call, e]
  simp only [callF_some rfl]
  (dsimp +instances only [gi0,gis,row1,rows1,int1,str1,bool1])
  cases (baseOf (gi o 3).str).toList == (baseOf (gi c 3).str).toList <;> cases (gi o 4).str.toList == (gi c 4).str.toList <;> cases (gi o 2).int == (gi c 2).int <;> rfl
def cameB (at_ : Int) (out : List (List G)) (x : List G) : Bool := leI (gi x 0).int at_ && ((gi x 1).int == 2 && !(out.any fun o => rowEq K3 (wkK x) (wkK o)))
def confL (at_ : Int) (l : List (List G)) : Nat → List (List G)
  | 0 => []
  | i + 1 => confL at_ l i ++ bif cameB at_ (confL at_ l i) (l.getD i []) then [l.getD i []] else []
theorem confL_length (at_ : Int) (l : List (List G)) : ∀ i, (confL at_ l i).length ≤ i
  | 0 => Nat.le_refl _
  | i + 1 => by
    have := confL_length at_ l i
    simp only [confL, List.length_append]
    cases cameB at_ (confL at_ l i) (l.getD i []) <;> simp <;> omega
theorem confL_mem (at_ : Int) (l : List (List G)) : ∀ i, i ≤ l.length → ∀ r ∈ confL at_ l i, r ∈ l
  | 0, _, r, h => by cases h
  | i + 1, hi, r, h => by
    simp only [confL] at h
    rcases List.mem_append.1 h with h | h
    · exact confL_mem at_ l i (by omega) r h
    · cases hb : cameB at_ (confL at_ l i) (l.getD i []) with
      | true => rw [hb] at h; simp at h; rw [h]; exact getD_row (by omega)
      | false => rw [hb] at h; simp at h
theorem confirmed_ok (l : List (List G)) (at_ : Int) (hC : ∀ z ∈ l, Crd z) (hn : l.length < 90000) : F_club_confirmed [.l l, .i at_] = some [.l (confL at_ l l.length)] := by
  refine Ret.toEq ?_
  unfold F_club_confirmed
  (dsimp +instances only [gi0,gis,row1,rows1,int1,str1,bool1])
  have r := range_all (st := st_club_confirmed_4) (σ := List (List G) × Nat × List (List G)) (fun s i => [.l s.1, .i (s.2.1 : Int), .l s.2.2, .i at_, .l l, .i (l.length : Int), .i (i : Int)]) l (fun s => (0, [.l s.2.2]))
    (fun s i => (∀ key, (gi (mget K3 s.1 key [.t false]) 0).bool = (confL at_ l i).any fun y => rowEq K3 key (wkK y)) ∧ s.2.2 = confL at_ l i) ([], 0, []) (by omega) ⟨fun key => by simp [mget_nil, confL]; rfl, rfl⟩
    (fun s i x hI hi hx hm ht => by
      obtain ⟨hs, hd⟩ := hI
      have hc := hC x hm
      have hl := confL_length at_ l i
      rw [← hd] at hl
      have hk : (gi (mget K3 s.1 (wkK x) [.t false]) 0).bool = (s.2.2).any fun o => rowEq K3 (wkK x) (wkK o) := by
        rw [hs, ← hd]
      have e0 : gEta K3 (wkK x) = wkK x := rfl
      unfold st_club_confirmed_4
      (dsimp +instances only [gi0,gis,row1,rows1,int1,str1,bool1])
      simp only [Int.toNat_natCast, hx, hc.eta]
      refine Ret.pos (by (first|rfl|assumption|(simp only [inI,sl]<;>omega))) (Ret.pos (by (first|rfl|assumption|(simp only [inI,sl]<;>omega))) ?_)
      refine Ret.call (Ret.eq (contactOf_ok hc)) ?_
      rintro _ rfl
      (dsimp +instances only [gi0,gis,row1,rows1,int1,str1,bool1])
      have no : cameB at_ (confL at_ l i) (l.getD i []) = false → (∀ key, (gi (mget K3 s.1 key [.t false]) 0).bool = (confL at_ l (i + 1)).any fun y => rowEq K3 key (wkK y)) ∧ s.2.2 = confL at_ l (i + 1) := fun hb => by
        simp only [confL, hb, cond_false, List.append_nil]
        exact ⟨hs, hd⟩
      refine Ret.test (fun h1 => ?_) fun h1 => ?_
      · refine Ret.test (fun h2 => ?_) fun h2 => ?_
        · refine Ret.test (fun h3 => ?_) fun h3 => ?_
          · have h3' : (gi (mget K3 s.1 (wkK x) [.t false]) 0).bool = false := by
              have h3 := h3
              rw [Bool.not_eq_true'] at h3
              exact h3
            have hb : cameB at_ (confL at_ l i) (l.getD i []) = true := by
              unfold cameB
              rw [hx, h1, h2, ← hd, ← hk, h3']
              rfl
            have hbx := hb
            rw [hx] at hbx
            (repeat(first|(refine Ret.pos ?_ ?_;(first|rfl|assumption|(simp only [inI,sl]<;>omega)))|(refine Ret.neg ?_ ?_;(first|rfl|assumption|(simp only [inI,sl]<;>omega)))))
            refine Ret.some ⟨(mput K3 s.1 (wkK x) [.t true] s.2.1, mclk K3 s.1 (wkK x) s.2.1, s.2.2 ++ [x]), rfl, fun key => ?_, by simp only [confL, hx, hbx, hd, cond_true]⟩
            rw [mget_mput]
            simp only [confL, hx, hbx, cond_true, List.any_append, ← hs key]
            cases hk : rowEq K3 key (wkK x) <;> simp [hk, gi0, bool1]
          · have h3' : (gi (mget K3 s.1 (wkK x) [.t false]) 0).bool = true := by
              have h3 := h3
              rw [Bool.not_eq_false'] at h3
              exact h3
            have hb : cameB at_ (confL at_ l i) (l.getD i []) = false := by
              unfold cameB
              rw [hx, h1, h2, ← hd, ← hk, h3']
              rfl
            (repeat(first|(refine Ret.pos ?_ ?_;(first|rfl|assumption|(simp only [inI,sl]<;>omega)))|(refine Ret.neg ?_ ?_;(first|rfl|assumption|(simp only [inI,sl]<;>omega)))))
            exact Ret.some ⟨s, rfl, no hb⟩
        · have hb : cameB at_ (confL at_ l i) (l.getD i []) = false := by
            unfold cameB
            rw [hx, h1, h2]
            rfl
          (repeat(first|(refine Ret.pos ?_ ?_;(first|rfl|assumption|(simp only [inI,sl]<;>omega)))|(refine Ret.neg ?_ ?_;(first|rfl|assumption|(simp only [inI,sl]<;>omega)))))
          exact Ret.some ⟨s, rfl, no hb⟩
      · have hb : cameB at_ (confL at_ l i) (l.getD i []) = false := by
          unfold cameB
          rw [hx, h1]
          rfl
        (repeat(first|(refine Ret.pos ?_ ?_;(first|rfl|assumption|(simp only [inI,sl]<;>omega)))|(refine Ret.neg ?_ ?_;(first|rfl|assumption|(simp only [inI,sl]<;>omega)))))
        exact Ret.some ⟨s, rfl, no hb⟩)
    (fun s hI => by
      unfold st_club_confirmed_4
      (dsimp +instances only [gi0,gis,row1,rows1,int1,str1,bool1])
      (repeat(first|(refine Ret.pos ?_ ?_;(first|rfl|assumption|(simp only [inI,sl]<;>omega)))|(refine Ret.neg ?_ ?_;(first|rfl|assumption|(simp only [inI,sl]<;>omega)))))
      exact Ret.some rfl)
  refine Ret.loop r rfl ?_
  rintro c g ⟨⟨m, k, out⟩, ⟨_, rfl⟩, rfl, rfl⟩
  (dsimp +instances only [gi0,gis,row1,rows1,int1,str1,bool1])
  (repeat(first|(refine Ret.pos ?_ ?_;(first|rfl|assumption|(simp only [inI,sl]<;>omega)))|(refine Ret.neg ?_ ?_;(first|rfl|assumption|(simp only [inI,sl]<;>omega)))))
  exact Ret.some rfl
theorem prdConf {c : List G} (hc : Crd c) : Prd KCard F_pileref2_ConfirmedBy_1 (fun g => .l [gEta KCard g.row]) (.l [c]) Crd (fun o => rowEq K3 (wkK c) (wkK o)) :=
  ⟨fun r hr => by
    refine Ret.toEq ?_
    unfold F_pileref2_ConfirmedBy_1
    (dsimp +instances only [gi0,gis,row1,rows1,int1,str1,bool1])
    rw [hr.eta, hc.eta]
    refine Ret.call (Ret.eq (with_ok hr hc)) ?_
    rintro _ rfl
    exact Ret.some rfl, fun _ h => h.eta, by rw [row1, hc.eta]⟩
theorem any_of_index {p : List G → Bool} {rows : List (List G)} {g : List G} (h : (∃ q1 x q2, rows = q1 ++ x :: q2 ∧ (∀ y ∈ q1, p y = false) ∧ p x = true ∧ g = [.i (q1.length : Int)]) ∨ (∀ y ∈ rows, p y = false) ∧ g = [.i (-1)]) : g = [.i (gi g 0).int] ∧ leI 0 (gi g 0).int = rows.any p := by
  rcases h with ⟨q1, x, q2, h1, h2, h3, rfl⟩ | ⟨h, rfl⟩
  · refine ⟨rfl, ?_⟩
    rw [h1]
    simp [leI_eq, h3, gi0, int1]
  · refine ⟨rfl, ?_⟩
    have : rows.any p = false := by
      rw [List.any_eq_false]
      intro y hy
      rw [h y hy]
      simp
    rw [this]
    rfl
theorem containsConf (l : List (List G)) {c : List G} (hl : ∀ z ∈ l, Crd z) (hc : Crd c) (hn : l.length < 100000) : F_slices_ContainsFunc_Card [.l l, .l [c]] = some [.t (l.any fun o => rowEq K3 (wkK c) (wkK o))] := by
  refine Ret.toEq ?_
  unfold F_slices_ContainsFunc_Card
  (dsimp +instances only [gi0,gis,row1,rows1,int1,str1,bool1])
  rw [hc.eta]
  refine Ret.call (P := fun g => g = [.i (gi g 0).int] ∧ leI 0 (gi g 0).int = l.any fun o => rowEq K3 (wkK c) (wkK o)) ?_ ?_
  · exact Ret.mono (indexfF_eq (Z := zK) (prdConf hc) l hl hn : Ret (F_slices_IndexFunc_Card [.l l, .l [c]]) _) fun g h => any_of_index h
  · rintro g ⟨_, h⟩
    rw [← h]
    exact Ret.some rfl
theorem confirmedBy_ok (l : List (List G)) (at_ : Int) (hC : ∀ z ∈ l, Crd z) (hn : l.length < 90000) : F_pileref2_ConfirmedBy [.l l, .i at_] = some [.l (confL at_ l l.length)] := by
  refine Ret.toEq ?_
  unfold F_pileref2_ConfirmedBy
  (dsimp +instances only [gi0,gis,row1,rows1,int1,str1,bool1])
  have r := range_all (st := st_pileref2_ConfirmedBy_3) (σ := List (List G)) (fun s i => [.l s, .i at_, .l l, .i (l.length : Int), .i (i : Int)]) l (fun s => (0, [.l s]))
    (fun s i => s = confL at_ l i) [] (by omega) rfl
    (fun s i x hd hi hx hm ht => by
      have hc := hC x hm
      have hl := confL_length at_ l i
      have hsub : ∀ z ∈ s, Crd z := fun z hz => hC z (confL_mem at_ l i (by omega) z (hd ▸ hz))
      rw [← hd] at hl
      unfold st_pileref2_ConfirmedBy_3
      (dsimp +instances only [gi0,gis,row1,rows1,int1,str1,bool1])
      simp only [Int.toNat_natCast, hx, hc.eta]
      refine Ret.pos (by (first|rfl|assumption|(simp only [inI,sl]<;>omega))) (Ret.pos (by (first|rfl|assumption|(simp only [inI,sl]<;>omega))) ?_)
      refine Ret.test (fun h1 => ?_) fun h1 => ?_
      · refine Ret.test (fun h2 => ?_) fun h2 => ?_
        · refine Ret.callb (Ret.eq (containsConf s hsub hc (by omega))) (by (first|rfl|assumption|(simp only [inI,sl]<;>omega))) ?_
          rintro _ rfl
          (dsimp +instances only [gi0,gis,row1,rows1,int1,str1,bool1])
          refine Ret.test (fun h3 => ?_) fun h3 => ?_
          · have hb : cameB at_ (confL at_ l i) (l.getD i []) = true := by
              unfold cameB
              rw [hx, h1, h2, ← hd, h3]
              rfl
            have hbx := hb
            rw [hx] at hbx
            (repeat(first|(refine Ret.pos ?_ ?_;(first|rfl|assumption|(simp only [inI,sl]<;>omega)))|(refine Ret.neg ?_ ?_;(first|rfl|assumption|(simp only [inI,sl]<;>omega)))))
            exact Ret.some ⟨s ++ [x], rfl, by simp only [confL, hx, hbx, hd, cond_true]⟩
          · have hb : cameB at_ (confL at_ l i) (l.getD i []) = false := by
              unfold cameB
              rw [hx, h1, h2, ← hd, h3]
              rfl
            (repeat(first|(refine Ret.pos ?_ ?_;(first|rfl|assumption|(simp only [inI,sl]<;>omega)))|(refine Ret.neg ?_ ?_;(first|rfl|assumption|(simp only [inI,sl]<;>omega)))))
            exact Ret.some ⟨s, rfl, by simp only [confL, hb, hd, cond_false, List.append_nil]⟩
        · have hb : cameB at_ (confL at_ l i) (l.getD i []) = false := by
            unfold cameB
            rw [hx, h2]
            rfl
          (repeat(first|(refine Ret.pos ?_ ?_;(first|rfl|assumption|(simp only [inI,sl]<;>omega)))|(refine Ret.neg ?_ ?_;(first|rfl|assumption|(simp only [inI,sl]<;>omega)))))
          exact Ret.some ⟨s, rfl, by simp only [confL, hb, hd, cond_false, List.append_nil]⟩
      · have hb : cameB at_ (confL at_ l i) (l.getD i []) = false := by
          unfold cameB
          rw [hx, h1]
          cases leI (gi x 0).int at_ <;> rfl
        (repeat(first|(refine Ret.pos ?_ ?_;(first|rfl|assumption|(simp only [inI,sl]<;>omega)))|(refine Ret.neg ?_ ?_;(first|rfl|assumption|(simp only [inI,sl]<;>omega)))))
        exact Ret.some ⟨s, rfl, by simp only [confL, hb, hd, cond_false, List.append_nil]⟩)
    (fun s hI => by
      unfold st_pileref2_ConfirmedBy_3
      (dsimp +instances only [gi0,gis,row1,rows1,int1,str1,bool1])
      (repeat(first|(refine Ret.pos ?_ ?_;(first|rfl|assumption|(simp only [inI,sl]<;>omega)))|(refine Ret.neg ?_ ?_;(first|rfl|assumption|(simp only [inI,sl]<;>omega)))))
      exact Ret.some rfl)
  refine Ret.loop r rfl ?_
  rintro c g ⟨s, rfl, rfl, rfl⟩
  (dsimp +instances only [gi0,gis,row1,rows1,int1,str1,bool1])
  (repeat(first|(refine Ret.pos ?_ ?_;(first|rfl|assumption|(simp only [inI,sl]<;>omega)))|(refine Ret.neg ?_ ?_;(first|rfl|assumption|(simp only [inI,sl]<;>omega)))))
  exact Ret.some rfl
end
end Go.Proofs.SYthnhleemkjpigaaGreatDoor

namespace Go.Proofs.SYthnhleemkjpigaaGreatDoor
open Go Go.AL Go.Proofs
noncomputable section
/-! ### Events of two kinds: which came last -/
section
variable {α : Type} (S R : α → Bool)
end
def QPair (r : List G) : Prop := ∃ a b, r = [.s a, .s b]
theorem Crd.band {r : List G} (h : Crd r) : (gi r 4).str ∈ bands := by
  obtain ⟨t, k, m, c, b, rfl, _, _, _, _, hb⟩ := h
  exact hb
/-! ### Pairs by name -/
theorem cardsFault2 (l : List (List G)) (at_ : Int) (hC : ∀ z ∈ l, Crd z) : F_club_cardsFault [.l l, .i at_] = some [.i (bif faultCards l != 0 then faultCards l else bif !inB at_ 0 345686399999 then 1 else 0)] := by
  refine Ret.toEq ?_
  unfold F_club_cardsFault
  (dsimp +instances only [gi0,gis,row1,rows1,int1,str1,bool1])
  refine Ret.call (Ret.eq (checkCards_ok l hC)) ?_
  rintro _ rfl
  (dsimp +instances only [gi0,gis,row1,rows1,int1,str1,bool1])
  refine Ret.test (fun h => ?_) fun h => ?_
  · rw [h]
    exact Ret.some rfl
  · rw [h]
    refine Ret.call (Ret.eq (isMoment_ok at_)) ?_
    rintro _ rfl
    (dsimp +instances only [gi0,gis,row1,rows1,int1,str1,bool1])
    cases inB at_ 0 345686399999 <;> exact Ret.some rfl
/-! ### The law -/
theorem kdsQ : Kds [.str, .str] QPair := ⟨fun _ h => by obtain ⟨a, b, rfl⟩ := h; rfl⟩
theorem equalQ_refl (a : List (List G)) (ha : ∀ z ∈ a, QPair z) (hn : a.length < 100000) : F_slices_Equal_Pair [.l a, .l a] = some [.t true] := by
  have h := equalF_eq kdsQ a a ha ha hn
  rw [eqlA_refl rfl] at h
  exact h
theorem joinedClub_ok : F_pilelaw2_joinedClub [] = some [.t true] := by kernel_rfl
def confA (at_ : Int) (l : List (List G)) : List (List G) := confL at_ l l.length
theorem momentFault_ok (t : Int) : F_pileref2_MomentFault [.i t] = some [.i (bif !inB t 0 345686399999 then 1 else 0)] := by
  unfold F_pileref2_MomentFault
  (dsimp +instances only [gi0,gis,row1,rows1,int1,str1,bool1])
  rw [moment_ok]
  show (bif !inB t 0 345686399999 then some [G.i 1] else some [G.i 0]) = _
  cases inB t 0 345686399999 <;> rfl
end
end Go.Proofs.SYthnhleemkjpigaaGreatDoor

namespace Go.Proofs.SYthnhleemkjpigaaGreatDoor
open Go Go.AL Go.Proofs
noncomputable section
/-! ### Cards that are right rise -/
theorem right_rise {l : List (List G)} (hn : l.length ≤ 3000) (h : faultCards l = 0) : (l.Pairwise fun a b => ordK a b < 0) ∧ ∀ z ∈ l, faultK1 z = 0 := by
  unfold faultCards at h
  rw [if_neg (by omega)] at h
  have h1 := fw_zero h
  have h2 : ∀ i, i < l.length → faultK1 (l.getD i []) = 0 := fun i hi => by
    refine Decidable.byContradiction fun hne => hne ?_
    have := h1 i hi
    unfold stepK at this
    rw [if_pos hne] at this
    exact this
  refine ⟨pairwise_of_adj ordK_lt fun k hk hk' => ?_, fun z hz => ?_⟩
  · have := h1 k hk'
    unfold stepK at this
    rw [if_neg (by simpa using h2 k hk')] at this
    refine Int.not_le.1 fun hle => ?_
    rw [if_pos ⟨by omega, hle⟩] at this
    cases this
  · obtain ⟨i, hi, rfl⟩ := List.getElem_of_mem hz
    have := h2 i hi
    rwa [List.getD_eq_getElem?_getD, List.getElem?_eq_getElem hi] at this
/-! ### Two parts of a list -/
/-! ### What is confirmed stays so -/
/-! ### Whoever is owed something is confirmed -/
end
end Go.Proofs.SYthnhleemkjpigaaGreatDoor

namespace Go.Proofs.SYthnhleemkjpigaaGreatDoor
open Go Go.AL Go.Proofs
noncomputable section
def cntK (a k : List G) : List G := (gi ((F_club_counted [.l [a], .l [k]]).getD []) 0).row
structure Cnt where
  m : List (List G)
  k : Nat
  since : Int
def cntStep (a : List G) (s : Cnt) (x : List G) : Cnt :=
  ⟨mput K3 s.m (cntK a (wkK x)) [.t true] s.k, mclk K3 s.m (cntK a (wkK x)) s.k, if (gi a 3).int ≤ ((mput K3 s.m (cntK a (wkK x)) [.t true] s.k).length : Int) ∧ s.since < 0 then (gi x 0).int else s.since⟩
def cntAll (a : List G) (s : Cnt) (l : List (List G)) : Cnt := l.foldl (cntStep a) s
def cnt0 : Cnt := ⟨[], 0, -1⟩
theorem mput_len (key v : List G) (c : Nat) : ∀ rows : List (List G), (mput K3 rows key v c).length ≤ rows.length + 1
  | [] => by rw [mput_nil]; simp
  | r :: rs => by
    rw [mput_cons]
    have := mput_len key v c rs
    cases rowEq K3 key (gi r 0).row <;> simp <;> omega
theorem cntAll_len (a : List G) : ∀ (l : List (List G)) (s : Cnt), (cntAll a s l).m.length ≤ s.m.length + l.length
  | [], s => by simp [cntAll]
  | x :: l, s => by
    have h1 := cntAll_len a l (cntStep a s x)
    have h2 := mput_len (cntK a (wkK x)) [.t true] s.k s.m
    have h3 : (cntStep a s x).m = mput K3 s.m (cntK a (wkK x)) [.t true] s.k := rfl
    rw [h3] at h1
    show (cntAll a (cntStep a s x) l).m.length ≤ _
    simp only [List.length_cons]
    omega
theorem cntAll_stays (a : List G) : ∀ (l : List (List G)) (s : Cnt), 0 ≤ s.since → (cntAll a s l).since = s.since
  | [], s, _ => rfl
  | x :: l, s, h => by
    have e : (cntStep a s x).since = s.since := by
      unfold cntStep
      simp only
      rw [if_neg (by omega)]
    show (cntAll a (cntStep a s x) l).since = _
    rw [cntAll_stays a l _ (by rw [e]; exact h), e]
theorem cntAll_from (a : List G) : ∀ (l : List (List G)) (s : Cnt), (cntAll a s l).since = s.since ∨ ∃ x ∈ l, (cntAll a s l).since = (gi x 0).int
  | [], s => .inl rfl
  | x :: l, s => by
    show (cntAll a (cntStep a s x) l).since = _ ∨ ∃ y ∈ x :: l, (cntAll a (cntStep a s x) l).since = _
    rcases cntAll_from a l (cntStep a s x) with h | ⟨y, hy, h⟩
    · rw [h]
      unfold cntStep
      simp only
      split
      · exact .inr ⟨x, List.mem_cons_self, rfl⟩
      · exact .inl rfl
    · exact .inr ⟨y, List.mem_cons_of_mem _ hy, h⟩
/-! ### What is written of it -/
def slashB : ByteArray := ⟨#[47]⟩
def yesB : ByteArray := ⟨#[32, 121, 101, 115]⟩
theorem conf_before (at_ : Int) (l : List (List G)) : ∀ i, ∀ r ∈ confL at_ l i, (gi r 0).int ≤ at_
  | 0, r, h => by cases h
  | i + 1, r, h => by
    simp only [confL] at h
    rcases List.mem_append.1 h with h | h
    · exact conf_before at_ l i r h
    · cases hb : cameB at_ (confL at_ l i) (l.getD i []) with
      | true =>
        rw [hb] at h
        simp at h
        unfold cameB at hb
        simp only [Bool.and_eq_true, leI_eq, decide_eq_true_eq] at hb
        rw [h]
        simpa using hb.1
      | false => rw [hb] at h; simp at h
theorem conf_behind {l : List (List G)} (hs : l.Pairwise fun a b => ordK a b < 0) {a b : Int} (hab : a ≤ b) : ∀ i, i ≤ l.length → ∃ t, confL b l i = confL a l i ++ t ∧ (∀ z ∈ t, a < (gi z 0).int) ∧ (t ≠ [] → 1 ≤ i ∧ a < (gi (l.getD (i - 1) []) 0).int)
  | 0, _ => ⟨[], rfl, by simp, fun h => (h rfl).elim⟩
  | i + 1, hi => by
    obtain ⟨t, h1, h3, h2⟩ := conf_behind hs hab i (by omega)
    by_cases hx : (gi (l.getD i []) 0).int ≤ a
    · have ht : t = [] := by
        refine Decidable.byContradiction fun hne => ?_
        obtain ⟨q1, q2⟩ := h2 hne
        have := ordK_at (Int.le_of_lt (adj_of_pairwise hs i q1 (by omega)))
        omega
      subst ht
      rw [List.append_nil] at h1
      refine ⟨[], ?_, by simp, fun h => (h rfl).elim⟩
      have e : cameB b (confL a l i) (l.getD i []) = cameB a (confL a l i) (l.getD i []) := by
        unfold cameB
        rw [leI_eq, leI_eq, decide_eq_true hx, decide_eq_true (Int.le_trans hx hab)]
      simp only [confL, h1, e, List.append_nil]
    · have e : cameB a (confL a l i) (l.getD i []) = false := by
        unfold cameB
        rw [leI_eq, decide_eq_false hx]
        rfl
      refine ⟨t ++ bif cameB b (confL b l i) (l.getD i []) then [l.getD i []] else [], ?_, fun z hz => ?_, fun _ => ⟨by omega, by simpa using hx⟩⟩
      · simp only [confL, e, cond_false, List.append_nil]
        rw [← List.append_assoc, ← h1]
      · rcases List.mem_append.1 hz with hz | hz
        · exact h3 z hz
        · cases hb : cameB b (confL b l i) (l.getD i []) with
          | true => rw [hb] at hz; simp at hz; rw [hz]; simpa using hx
          | false => rw [hb] at hz; simp at hz
end
end Go.Proofs.SYthnhleemkjpigaaGreatDoor

namespace Go.Proofs.SYthnhleemkjpigaaGreatDoor
open Go Go.AL Go.Proofs
noncomputable section
def akeys : List ByteArray := [⟨#[97, 97]⟩, ⟨#[97, 98]⟩, ⟨#[97, 99]⟩, ⟨#[]⟩, ⟨#[122]⟩]
def abands : List ByteArray := [⟨#[]⟩, ⟨#[98, 50, 48]⟩, ⟨#[66]⟩]
def Awd (r : List G) : Prop := ∃ (k b : ByteArray) (c n : Int), r = [.s k, .s b, .i c, .i n] ∧ k ∈ akeys ∧ b ∈ abands ∧ small c ∧ small n
theorem Awd.eta {r : List G} (h : Awd r) : gEta KAward r = r := by
  obtain ⟨k, b, c, n, rfl, _⟩ := h
  rfl
def okAK (s : ByteArray) : Bool := inL [⟨#[97, 97]⟩, ⟨#[97, 98]⟩, ⟨#[97, 99]⟩, ⟨#[122]⟩] s
def okAB (s : ByteArray) : Bool := inL [⟨#[]⟩, ⟨#[98, 50, 48]⟩] s
theorem isAK_eq {s : ByteArray} (h : s ∈ akeys) : F_kit_IsKey [.s s] = some [.t (okAK s)] := by
  simp only [akeys, List.mem_cons, List.not_mem_nil, or_false] at h
  rcases h with rfl | rfl | rfl | rfl | rfl <;> kernel_rfl
theorem ak_eq {s : ByteArray} (h : s ∈ akeys) : F_pileref2_Key [.s s] = some [.t (okAK s)] := by
  simp only [akeys, List.mem_cons, List.not_mem_nil, or_false] at h
  rcases h with rfl | rfl | rfl | rfl | rfl <;> kernel_rfl
theorem isAB_eq {s : ByteArray} (h : s ∈ abands) : F_kit_IsName [.s s] = some [.t (okAB s)] := by
  simp only [abands, List.mem_cons, List.not_mem_nil, or_false] at h
  rcases h with rfl | rfl | rfl <;> kernel_rfl
theorem ab_eq {s : ByteArray} (h : s ∈ abands) (hne : (s.toList == (⟨#[]⟩ : ByteArray).toList) = false) : F_pileref2_Key [.s s] = some [.t (okAB s)] := by
  simp only [abands, List.mem_cons, List.not_mem_nil, or_false] at h
  rcases h with rfl | rfl | rfl
  · exact absurd hne (by decide +kernel)
  · kernel_rfl
  · kernel_rfl
theorem ab_empty {s : ByteArray} (h : s ∈ abands) (hne : (s.toList == (⟨#[]⟩ : ByteArray).toList) = true) : okAB s = true := by
  simp only [abands, List.mem_cons, List.not_mem_nil, or_false] at h
  rcases h with rfl | rfl | rfl
  · kernel_rfl
  · exact absurd hne (by decide +kernel)
  · exact absurd hne (by decide +kernel)
/-! ### The stream -/
def three : List (List G) := [[.s (⟨#[97, 97]⟩ : ByteArray)], [.s (⟨#[97, 98]⟩ : ByteArray)], [.s (⟨#[97, 99]⟩ : ByteArray)]]
theorem r_Awards (l : List (List G)) (a : Int) (ha : 0 ≤ a) (ha1 : a ≤ 1000) :
    Ret (F_pilemake_Stream_Awards [.l l, .i a]) fun g => ∃ b rows, g = [.l l, .i b, .l rows] ∧ 0 ≤ b ∧ b ≤ 2000 ∧ (∀ z ∈ rows, Awd z) ∧ rows.length ≤ 3 := by
  unfold F_pilemake_Stream_Awards
  (dsimp +instances only [gi0,gis,row1,rows1,int1,str1,bool1])
  have r := range_all (st := st_pilemake_Stream_Awards_3) (σ := Int × List (List G)) (fun s i => [.l l, .i s.1, .l s.2, .l three, .i 3, .i (i : Int)]) three (fun s => (0, [.l l, .i s.1, .l s.2]))
    (fun s i => 0 ≤ s.1 ∧ s.1 ≤ a + 20 * (i : Int) ∧ (∀ z ∈ s.2, Awd z) ∧ s.2.length ≤ i) (a, []) (by show 3 < 999999; omega) ⟨ha, by simp, by simp, by simp⟩
    (fun s i x ⟨s0, s1, s2, s3⟩ hi hx hm ht => by
      obtain ⟨b, ac⟩ := s
      simp only at s0 s1 s2 s3
      have h3 : three.length = 3 := rfl
      have hi3 : i < 3 := hi
      have hk : ∃ k, x = [.s k] ∧ k ∈ akeys := by
        simp only [three, List.mem_cons, List.not_mem_nil, or_false] at hm
        rcases hm with rfl | rfl | rfl <;> exact ⟨_, rfl, inL_mem (by kernel_rfl)⟩
      obtain ⟨k, rfl, hk⟩ := hk
      unfold st_pilemake_Stream_Awards_3
      (dsimp +instances only [gi0,gis,row1,rows1,int1,str1,bool1])
      simp only [Int.toNat_natCast, hx, h3]
      (dsimp +instances only [gi0,gis,row1,rows1,int1,str1,bool1])
      refine Ret.pos (by (first|rfl|assumption|(simp only [inI,sl]<;>omega))) (Ret.pos (by (first|rfl|assumption|(simp only [inI,sl]<;>omega))) ?_)
      refine Ret.call (r_Flip l b 5 (by omega) (by omega) (by omega) (by omega)) ?_
      rintro _ ⟨f, rfl⟩
      (dsimp +instances only [gi0,gis,row1,rows1,int1,str1,bool1])
      cases f with
      | true =>
        (repeat(first|(refine Ret.pos ?_ ?_;(first|rfl|assumption|(simp only [inI,sl]<;>omega)))|(refine Ret.neg ?_ ?_;(first|rfl|assumption|(simp only [inI,sl]<;>omega)))))
        exact Ret.some ⟨(b + 1, ac), by simp, by simp only; omega, by simp only; omega, s2, by simp only; omega⟩
      | false =>
        (repeat(first|(refine Ret.pos ?_ ?_;(first|rfl|assumption|(simp only [inI,sl]<;>omega)))|(refine Ret.neg ?_ ?_;(first|rfl|assumption|(simp only [inI,sl]<;>omega)))))
        refine Ret.call (r_SomeB abands l _ _ (by omega) (by omega) (by kernel_rfl) (by kernel_rfl)) ?_
        rintro _ ⟨bd, rfl, hbd⟩
        (dsimp +instances only [gi0,gis,row1,rows1,int1,str1,bool1])
        refine Ret.call (r_Range l _ 1 4 (by omega) (by omega) (by omega) (by omega) (by omega)) ?_
        rintro _ ⟨c, rfl, hc0, hc1⟩
        (dsimp +instances only [gi0,gis,row1,rows1,int1,str1,bool1])
        refine Ret.call (r_PickB 1 5 l _ _ (by omega) (by omega) (by kernel_rfl) (by kernel_rfl)) ?_
        rintro _ ⟨n, rfl, hn⟩
        (dsimp +instances only [gi0,gis,row1,rows1,int1,str1,bool1])
        refine Ret.call (r_Flip l _ 40 (by omega) (by omega) (by omega) (by omega)) ?_
        rintro _ ⟨f2, rfl⟩
        (dsimp +instances only [gi0,gis,row1,rows1,int1,str1,bool1])
        cases f2 with
        | false =>
          (repeat(first|(refine Ret.pos ?_ ?_;(first|rfl|assumption|(simp only [inI,sl]<;>omega)))|(refine Ret.neg ?_ ?_;(first|rfl|assumption|(simp only [inI,sl]<;>omega)))))
          refine Ret.some ⟨(_, ac ++ [[.s k, .s bd, .i c, .i n]]), rfl, by simp only; omega, by simp only; omega, ?_, by simp; omega⟩
          intro z hz
          rcases List.mem_append.1 hz with hz | hz
          · exact s2 z hz
          · rw [List.mem_singleton.1 hz]
            exact ⟨k, bd, c, n, rfl, hk, hbd, ⟨by omega, by omega⟩, ⟨by omega, by omega⟩⟩
        | true =>
          (repeat(first|(refine Ret.pos ?_ ?_;(first|rfl|assumption|(simp only [inI,sl]<;>omega)))|(refine Ret.neg ?_ ?_;(first|rfl|assumption|(simp only [inI,sl]<;>omega)))))
          refine Ret.call (r_Some (fun v => v ∈ akeys) l _ [[.s k], [.s (⟨#[]⟩ : ByteArray)], [.s (⟨#[97, 97]⟩ : ByteArray)]] (by omega) (by omega) (by simp) (by simp) ?_) ?_
          · intro x hx
            simp only [List.mem_cons, List.not_mem_nil, or_false] at hx
            rcases hx with rfl | rfl | rfl
            · exact hk
            · exact inL_mem (by kernel_rfl)
            · exact inL_mem (by kernel_rfl)
          rintro _ ⟨k', rfl, hk'⟩
          (dsimp +instances only [gi0,gis,row1,rows1,int1,str1,bool1])
          refine Ret.call (r_SomeB abands l _ _ (by omega) (by omega) (by kernel_rfl) (by kernel_rfl)) ?_
          rintro _ ⟨bd', rfl, hbd'⟩
          (dsimp +instances only [gi0,gis,row1,rows1,int1,str1,bool1])
          refine Ret.call (r_Odd l _ 1 4 (by omega) (by omega) (by omega) (by omega) (by omega)) ?_
          rintro _ ⟨c', rfl, hc'⟩
          (dsimp +instances only [gi0,gis,row1,rows1,int1,str1,bool1])
          refine Ret.call (r_Odd l _ 1 3000 (by omega) (by omega) (by omega) (by omega) (by omega)) ?_
          rintro _ ⟨n', rfl, hn'⟩
          (dsimp +instances only [gi0,gis,row1,rows1,int1,str1,bool1])
          (repeat(first|(refine Ret.pos ?_ ?_;(first|rfl|assumption|(simp only [inI,sl]<;>omega)))|(refine Ret.neg ?_ ?_;(first|rfl|assumption|(simp only [inI,sl]<;>omega)))))
          refine Ret.some ⟨(_, ac ++ [[.s k', .s bd', .i c', .i n']]), rfl, by simp only; omega, by simp only; omega, ?_, by simp; omega⟩
          intro z hz
          rcases List.mem_append.1 hz with hz | hz
          · exact s2 z hz
          · rw [List.mem_singleton.1 hz]
            exact ⟨k', bd', c', n', rfl, hk', hbd', ⟨by omega, by omega⟩, ⟨by omega, by omega⟩⟩)
    (fun s hI => by
      unfold st_pilemake_Stream_Awards_3
      (dsimp +instances only [gi0,gis,row1,rows1,int1,str1,bool1])
      have h3 : three.length = 3 := rfl
      simp only [h3]
      (repeat(first|(refine Ret.pos ?_ ?_;(first|rfl|assumption|(simp only [inI,sl]<;>omega)))|(refine Ret.neg ?_ ?_;(first|rfl|assumption|(simp only [inI,sl]<;>omega)))))
      exact Ret.some rfl)
  refine Ret.loop r rfl ?_
  rintro _ _ ⟨⟨b, ac⟩, ⟨q1, q2, q3, q4⟩, rfl, rfl⟩
  (dsimp +instances only [gi0,gis,row1,rows1,int1,str1,bool1])
  (repeat(first|(refine Ret.pos ?_ ?_;(first|rfl|assumption|(simp only [inI,sl]<;>omega)))|(refine Ret.neg ?_ ?_;(first|rfl|assumption|(simp only [inI,sl]<;>omega)))))
  have h3 : three.length = 3 := rfl
  rw [h3] at q2 q4
  exact Ret.some ⟨b, ac, rfl, q1, by simp only at q2; omega, q3, by simpa using q4⟩
/-! ### What is wrong with awards -/
def faultW1 (x : List G) : Int :=
  bif !okAK (gi x 0).str then 5 else bif !okAB (gi x 1).str then 5 else bif !inB (gi x 2).int 1 4 then 4 else bif !inB (gi x 3).int 1 3000 then 1 else 0
def stepW (rows : List (List G)) (i : Nat) : Int :=
  if faultW1 (rows.getD i []) ≠ 0 then faultW1 (rows.getD i []) else if 0 < i ∧ cmpS (gi (rows.getD i []) 0).str (gi (rows.getD (i - 1) []) 0).str ≤ 0 then 7 else 0
def faultAw (rows : List (List G)) : Int := if 50 < rows.length then 2 else fw (stepW rows) rows.length
theorem le_bytes (a b : ByteArray) : (Op.bytesLess a.toList b.toList || (a.toList == b.toList)) = decide (cmpS a b ≤ 0) := by
  rw [less_eq, str_same]
  have e : Lib.compareBytes a.toList b.toList = cmpS a b := by
    unfold cmpS
    rw [ByteArray.toList_eq, ByteArray.toList_eq]
  rw [e, Bool.eq_iff_iff]
  simp only [Bool.or_eq_true, decide_eq_true_eq]
  constructor
  · rintro (h | h)
    · omega
    · have := cmpS_z.2 h
      omega
  · intro h
    by_cases hz : cmpS a b = 0
    · exact .inr (cmpS_z.1 hz)
    · exact .inl (by omega)
theorem awardFault_ok (rows : List (List G)) (hr : ∀ z ∈ rows, Awd z) (hn : rows.length ≤ 50) (i : Nat) (hi : i < rows.length) : F_club_awardFault [.l rows, .i (i : Int)] = some [.i (stepW rows i)] := by
  obtain ⟨k, b, c, n, hx, hk, hb, hc, hnn⟩ := hr _ (getD_row hi)
  have ef : faultW1 (rows.getD i []) = bif !okAK k then 5 else bif !okAB b then 5 else bif !inB c 1 4 then 4 else bif !inB n 1 3000 then 1 else 0 := by
    rw [hx]
    rfl
  refine Ret.toEq ?_
  unfold F_club_awardFault
  (dsimp +instances only [gi0,gis,row1,rows1,int1,str1,bool1])
  simp only [Int.toNat_natCast]
  have f0 : (gi (rows.getD i []) 0).str = k := by rw [hx]; rfl
  have f1 : (gi (rows.getD i []) 1).str = b := by rw [hx]; rfl
  have f2 : (gi (rows.getD i []) 2).int = c := by rw [hx]; rfl
  have f3 : (gi (rows.getD i []) 3).int = n := by rw [hx]; rfl
  simp only [f0, f1, f2, f3]
  refine Ret.pos (by (first|rfl|assumption|(simp only [inI,sl]<;>omega))) ?_
  refine Ret.call (Ret.eq (isAK_eq hk)) ?_
  rintro _ rfl
  (dsimp +instances only [gi0,gis,row1,rows1,int1,str1,bool1])
  have fin : ∀ v : Int, faultW1 (rows.getD i []) = v → v ≠ 0 → stepW rows i = v := fun v h h0 => by
    unfold stepW
    rw [h, if_pos h0]
  refine Ret.test (fun h => ?_) fun h0 => ?_
  · rw [fin 5 (by rw [ef, h]; rfl) (by omega)]
    exact Ret.some rfl
  rw [h0, cond_false] at ef
  refine Ret.call (Ret.eq (isAB_eq hb)) ?_
  rintro _ rfl
  (dsimp +instances only [gi0,gis,row1,rows1,int1,str1,bool1])
  refine Ret.test (fun h => ?_) fun h1 => ?_
  · rw [fin 5 (by rw [ef, h]; rfl) (by omega)]
    exact Ret.some rfl
  rw [h1, cond_false] at ef
  refine Ret.call (Ret.eq (outside_eq c 1 4)) ?_
  rintro _ rfl
  (dsimp +instances only [gi0,gis,row1,rows1,int1,str1,bool1])
  refine Ret.test (fun h => ?_) fun h2 => ?_
  · rw [fin 4 (by rw [ef, h]; rfl) (by omega)]
    exact Ret.some rfl
  rw [h2, cond_false] at ef
  refine Ret.call (Ret.eq (outside_eq n 1 3000)) ?_
  rintro _ rfl
  (dsimp +instances only [gi0,gis,row1,rows1,int1,str1,bool1])
  refine Ret.test (fun h => ?_) fun h3 => ?_
  · rw [fin 1 (by rw [ef, h]; rfl) (by omega)]
    exact Ret.some rfl
  rw [h3, cond_false] at ef
  have e : stepW rows i = if 0 < i ∧ cmpS k (gi (rows.getD (i - 1) []) 0).str ≤ 0 then 7 else 0 := by
    unfold stepW
    rw [ef, if_neg (by simp), f0]
  refine Ret.test (fun h => ?_) fun h => ?_
  · simp only [ltI_eq, decide_eq_true_eq] at h
    have ei : ((i : Int) - 1).toNat = i - 1 := by omega
    simp only [ei]
    refine Ret.pos (by (first|rfl|assumption|(simp only [inI,sl]<;>omega))) (Ret.pos (by (first|rfl|assumption|(simp only [inI,sl]<;>omega))) ?_)
    rw [le_bytes]
    refine Ret.test (fun h7 => ?_) fun h7 => ?_
    · rw [decide_eq_true_eq] at h7
      rw [e, if_pos ⟨by omega, h7⟩]
      exact Ret.some rfl
    · rw [decide_eq_false_iff_not] at h7
      rw [e, if_neg (fun h' => h7 h'.2)]
      exact Ret.some rfl
  · simp only [ltI_eq, decide_eq_false_iff_not] at h
    rw [e, if_neg (by omega)]
    exact Ret.some rfl
theorem checkAw_ok (rows : List (List G)) (hr : ∀ z ∈ rows, Awd z) : F_club_CheckAwards [.l rows] = some [.i (faultAw rows)] := by
  refine Ret.toEq ?_
  unfold F_club_CheckAwards faultAw
  (dsimp +instances only [gi0,gis,row1,rows1,int1,str1,bool1])
  by_cases hn : 50 < rows.length
  · refine Ret.pos (by (first|rfl|assumption|(simp only [inI,sl]<;>omega))) ?_
    rw [if_pos hn]
    exact Ret.some rfl
  · refine Ret.neg (by (first|rfl|assumption|(simp only [inI,sl]<;>omega))) ?_
    rw [if_neg hn]
    refine Ret.loop (fw_loop (fun i => [.l rows, .i (rows.length : Int), .i (i : Int)]) rows.length (stepW rows) [] (by omega) (fun i hi => ?_) ?_) rfl ?_
    · unfold st_club_CheckAwards_4
      (dsimp +instances only [gi0,gis,row1,rows1,int1,str1,bool1])
      refine Ret.pos (by (first|rfl|assumption|(simp only [inI,sl]<;>omega))) ?_
      refine Ret.call (P := fun g => g = [.i (stepW rows i)]) (Ret.eq (awardFault_ok rows hr (by omega) i hi)) ?_
      rintro _ rfl
      (dsimp +instances only [gi0,gis,row1,rows1,int1,str1,bool1])
      refine Ret.test (fun h => ?_) fun h => ?_
      · exact Ret.some (.inr ⟨by simpa using h, rfl⟩)
      · exact Ret.pos (by (first|rfl|assumption|(simp only [inI,sl]<;>omega))) (Ret.some (.inl ⟨by simpa using h, rfl⟩))
    · unfold st_club_CheckAwards_4
      (dsimp +instances only [gi0,gis,row1,rows1,int1,str1,bool1])
      (repeat(first|(refine Ret.pos ?_ ?_;(first|rfl|assumption|(simp only [inI,sl]<;>omega)))|(refine Ret.neg ?_ ?_;(first|rfl|assumption|(simp only [inI,sl]<;>omega)))))
      exact Ret.some rfl
    · rintro _ _ (⟨rfl, h, rfl⟩ | ⟨rfl, rfl, _⟩)
      · rw [h]
        exact Ret.some rfl
      · exact Ret.some rfl
theorem awardsFault_ok (rows : List (List G)) (hr : ∀ z ∈ rows, Awd z) : F_pileref2_AwardsFault [.l rows] = some [.i (faultAw rows)] := by
  refine Ret.toEq ?_
  unfold F_pileref2_AwardsFault faultAw
  (dsimp +instances only [gi0,gis,row1,rows1,int1,str1,bool1])
  by_cases hn : 50 < rows.length
  · refine Ret.pos (by (first|rfl|assumption|(simp only [inI,sl]<;>omega))) ?_
    rw [if_pos hn]
    exact Ret.some rfl
  · refine Ret.neg (by (first|rfl|assumption|(simp only [inI,sl]<;>omega))) ?_
    rw [if_neg hn]
    refine Ret.loop (fw_loop (fun i => [.s (if i = 0 then ⟨#[]⟩ else (gi (rows.getD (i - 1) []) 0).str), .l rows, .i (rows.length : Int), .i (i : Int)]) rows.length (stepW rows) [] (by omega) (fun i hi => ?_) ?_) rfl ?_
    · obtain ⟨k, b, c, n, hx, hk, hb, hc, hnn⟩ := hr _ (getD_row hi)
      have ef : faultW1 (rows.getD i []) = bif !okAK k then 5 else bif !okAB b then 5 else bif !inB c 1 4 then 4 else bif !inB n 1 3000 then 1 else 0 := by
        rw [hx]
        rfl
      have f0 : (gi (rows.getD i []) 0).str = k := by rw [hx]; rfl
      have f1 : (gi (rows.getD i []) 1).str = b := by rw [hx]; rfl
      have f2 : (gi (rows.getD i []) 2).int = c := by rw [hx]; rfl
      have f3 : (gi (rows.getD i []) 3).int = n := by rw [hx]; rfl
      have fin : ∀ v : Int, faultW1 (rows.getD i []) = v → v ≠ 0 → stepW rows i = v := fun v h h0 => by
        unfold stepW
        rw [h, if_pos h0]
      generalize hlast : (if i = 0 then (⟨#[]⟩ : ByteArray) else (gi (rows.getD (i - 1) []) 0).str) = last
      have hnext : (if i + 1 = 0 then (⟨#[]⟩ : ByteArray) else (gi (rows.getD (i + 1 - 1) []) 0).str) = k := by
        rw [if_neg (by omega)]
        exact f0
      rw [hnext]
      unfold st_pileref2_AwardsFault_5
      (dsimp +instances only [gi0,gis,row1,rows1,int1,str1,bool1])
      simp only [Int.toNat_natCast, f0, f1, f2, f3]
      refine Ret.pos (by (first|rfl|assumption|(simp only [inI,sl]<;>omega))) (Ret.pos (by (first|rfl|assumption|(simp only [inI,sl]<;>omega))) ?_)
      refine Ret.call (Ret.eq (ak_eq hk)) ?_
      rintro _ rfl
      (dsimp +instances only [gi0,gis,row1,rows1,int1,str1,bool1])
      refine Ret.test (fun h => ?_) fun h0 => ?_
      · rw [fin 5 (by rw [ef, h]; rfl) (by omega)]
        exact Ret.some (.inr ⟨by omega, rfl⟩)
      rw [h0, cond_false] at ef
      have tail : (faultW1 (rows.getD i []) = bif !inB c 1 4 then 4 else bif !inB n 1 3000 then 1 else 0) →
          Ret (callF (F_pileref2_in [.i c, .i 1, .i 4]) fun g5 => bif !(gi g5 0).bool then some (some 0, [G.i 4]) else callF (F_pileref2_in [.i n, .i 1, .i 3000]) fun g6 => bif !(gi g6 0).bool then some (some 0, [G.i 1]) else
            bif (Op.bytesLess k.toList last.toList) || (k.toList == last.toList) then some (some 0, [G.i 7]) else bif inI ((i : Int) + 1) then some (none, [G.s k, .l rows, .i (rows.length : Int), .i ((i : Int) + 1)]) else none)
            fun o => (stepW rows i = 0 ∧ o = (none, [G.s k, .l rows, .i (rows.length : Int), .i ((i + 1 : Nat) : Int)])) ∨ (stepW rows i ≠ 0 ∧ o = (some 0, [G.i (stepW rows i)])) := fun ef => by
        refine Ret.call (Ret.eq (in_eq c 1 4)) ?_
        rintro _ rfl
        (dsimp +instances only [gi0,gis,row1,rows1,int1,str1,bool1])
        refine Ret.test (fun h => ?_) fun h2 => ?_
        · rw [fin 4 (by rw [ef, h]; rfl) (by omega)]
          exact Ret.some (.inr ⟨by omega, rfl⟩)
        rw [h2, cond_false] at ef
        refine Ret.call (Ret.eq (in_eq n 1 3000)) ?_
        rintro _ rfl
        (dsimp +instances only [gi0,gis,row1,rows1,int1,str1,bool1])
        refine Ret.test (fun h => ?_) fun h3 => ?_
        · rw [fin 1 (by rw [ef, h]; rfl) (by omega)]
          exact Ret.some (.inr ⟨by omega, rfl⟩)
        rw [h3, cond_false] at ef
        have e : stepW rows i = if cmpS k last ≤ 0 then 7 else 0 := by
          unfold stepW
          rw [ef, if_neg (by simp), f0, ← hlast]
          by_cases h : i = 0
          · rw [if_pos h, if_neg (by omega), if_neg]
            intro hle
            have hk0 : okAK k = true := by simpa using h0
            simp only [akeys, List.mem_cons, List.not_mem_nil, or_false] at hk
            rcases hk with rfl | rfl | rfl | rfl | rfl
            · exact absurd hle (by decide +kernel)
            · exact absurd hle (by decide +kernel)
            · exact absurd hle (by decide +kernel)
            · exact absurd hk0 (by decide +kernel)
            · exact absurd hle (by decide +kernel)
          · rw [if_neg h]
            by_cases h' : cmpS k (gi (rows.getD (i - 1) []) 0).str ≤ 0
            · rw [if_pos ⟨by omega, h'⟩, if_pos h']
            · rw [if_neg (fun q => h' q.2), if_neg h']
        rw [le_bytes]
        refine Ret.test (fun h7 => ?_) fun h7 => ?_
        · rw [decide_eq_true_eq] at h7
          rw [e, if_pos h7]
          exact Ret.some (.inr ⟨by omega, rfl⟩)
        · rw [decide_eq_false_iff_not] at h7
          rw [e, if_neg h7]
          exact Ret.pos (by (first|rfl|assumption|(simp only [inI,sl]<;>omega))) (Ret.some (.inl ⟨rfl, rfl⟩))
      refine Ret.test (fun hne => ?_) fun hne => ?_
      · have hne' : (b.toList == (⟨#[]⟩ : ByteArray).toList) = false := by simpa using hne
        refine Ret.call (Ret.eq (ab_eq hb hne')) ?_
        rintro _ rfl
        (dsimp +instances only [gi0,gis,row1,rows1,int1,str1,bool1])
        refine Ret.test (fun h => ?_) fun h1 => ?_
        · rw [fin 5 (by rw [ef, h]; rfl) (by omega)]
          exact Ret.some (.inr ⟨by omega, rfl⟩)
        rw [h1, cond_false] at ef
        exact tail ef
      · have hne' : (b.toList == (⟨#[]⟩ : ByteArray).toList) = true := by simpa using hne
        have h1 := ab_empty hb hne'
        rw [h1] at ef
        exact tail ef
    · unfold st_pileref2_AwardsFault_5
      (dsimp +instances only [gi0,gis,row1,rows1,int1,str1,bool1])
      (repeat(first|(refine Ret.pos ?_ ?_;(first|rfl|assumption|(simp only [inI,sl]<;>omega)))|(refine Ret.neg ?_ ?_;(first|rfl|assumption|(simp only [inI,sl]<;>omega)))))
      exact Ret.some rfl
    · rintro _ _ (⟨rfl, h, rfl⟩ | ⟨rfl, rfl, _⟩)
      · rw [h]
        exact Ret.some rfl
      · exact Ret.some rfl
/-! ### What an award counts -/
theorem countedA_ok {a : List G} (ha : Awd a) (x : List G) : F_club_counted [.l [a], .l [wkK x]] = some [.l [cntK a (wkK x)]] ∧ gEta K3 (cntK a (wkK x)) = cntK a (wkK x) := by
  obtain ⟨kk, b, c, n, rfl, _⟩ := ha
  have key : Ret (F_club_counted [.l [[.s kk, .s b, .i c, .i n]], .l [wkK x]]) fun g => ∃ k, g = [.l [k]] ∧ gEta K3 k = k := by
    unfold F_club_counted
    (dsimp +instances only [gi0,gis,row1,rows1,int1,str1,bool1])
    refine Ret.test (fun _ => Ret.test (fun _ => Ret.some ⟨_, rfl, rfl⟩) fun _ => Ret.test (fun _ => Ret.some ⟨_, rfl, rfl⟩) fun _ => Ret.some ⟨_, rfl, rfl⟩) fun _ => ?_
    refine Ret.test (fun _ => Ret.test (fun _ => Ret.some ⟨_, rfl, rfl⟩) fun _ => Ret.test (fun _ => Ret.some ⟨_, rfl, rfl⟩) fun _ => Ret.some ⟨_, rfl, rfl⟩) fun _ => ?_
    exact Ret.test (fun _ => Ret.some ⟨_, rfl, rfl⟩) fun _ => Ret.test (fun _ => Ret.some ⟨_, rfl, rfl⟩) fun _ => Ret.some ⟨_, rfl, rfl⟩
  obtain ⟨g, h, k, rfl, hk⟩ := key
  have e : cntK [.s kk, .s b, .i c, .i n] (wkK x) = k := by
    unfold cntK
    rw [h]
    rfl
  rw [e]
  exact ⟨h, hk⟩
def ofBand (a x : List G) : Bool := ((gi a 1).str.toList == (⟨#[]⟩ : ByteArray).toList) || ((gi x 4).str.toList == (gi a 1).str.toList)
theorem reachedA_ok {a : List G} (ha : Awd a) (l : List (List G)) (hC : ∀ z ∈ l, Crd z) (hn : l.length < 90000) :
    F_club_reached [.l [a], .l l] = some [.i ((cntAll a cnt0 (l.filter (ofBand a))).m.length : Int), .i (cntAll a cnt0 (l.filter (ofBand a))).since] := by
  refine Ret.toEq ?_
  obtain ⟨kk, b, c, n, ea, hk⟩ := ha
  have ha : Awd a := ⟨kk, b, c, n, ea, hk⟩
  have e0 : (gi a 0).str = kk := by rw [ea]; rfl
  have e1 : (gi a 1).str = b := by rw [ea]; rfl
  have e2 : (gi a 2).int = c := by rw [ea]; rfl
  have e3 : (gi a 3).int = n := by rw [ea]; rfl
  unfold F_club_reached
  (dsimp +instances only [gi0,gis,row1,rows1,int1,str1,bool1])
  simp only [e0, e1, e2, e3]
  have r := range_all (st := st_club_reached_4) (σ := Cnt) (fun s i => [.s kk, .s b, .i c, .i n, .l s.m, .i (s.k : Int), .i s.since, .l l, .i (l.length : Int), .i (i : Int)]) l (fun s => (0, [.l s.m, .i (s.k : Int), .i s.since]))
    (fun s i => s = cntAll a cnt0 ((l.take i).filter (ofBand a))) cnt0 (by omega) rfl
    (fun s i x hs hi hx hm ht => by
      have hc := hC x hm
      obtain ⟨t, k, m, cl, bd, ex, _⟩ := hC x hm
      have f0 : (gi x 0).int = t := by rw [ex]; rfl
      have f1 : (gi x 1).int = k := by rw [ex]; rfl
      have f2 : (gi x 2).int = m := by rw [ex]; rfl
      have f3 : (gi x 3).str = cl := by rw [ex]; rfl
      have f4 : (gi x 4).str = bd := by rw [ex]; rfl
      have eb : ofBand a x = ((b.toList == (⟨#[]⟩ : ByteArray).toList) || (bd.toList == b.toList)) := by
        unfold ofBand
        rw [e1, f4]
      have hlen : s.m.length ≤ l.length := by
        have := cntAll_len a ((l.take i).filter (ofBand a)) cnt0
        rw [← hs] at this
        have h0 : cnt0.m.length = 0 := rfl
        have h1 := List.length_filter_le (ofBand a) (l.take i)
        simp only [List.length_take] at h1
        omega
      have skip : ofBand a x = false → cntAll a cnt0 ((l.take (i + 1)).filter (ofBand a)) = s := fun h => by
        rw [ht, List.filter_append, hs]
        simp [h]
      have take : ofBand a x = true → cntAll a cnt0 ((l.take (i + 1)).filter (ofBand a)) = cntStep a s x := fun h => by
        rw [ht, List.filter_append, hs]
        simp only [List.filter_cons, h, if_true, List.filter_nil]
        unfold cntAll
        rw [List.foldl_append]
        rfl
      obtain ⟨hk1, hk2⟩ := countedA_ok ha x
      have hl2 := mput_len (cntK a (wkK x)) [.t true] s.k s.m
      have tail : Ret (tl_club_reached_7 [.s kk, .s b, .i c, .i n, .l s.m, .i (s.k : Int), .i t, .i k, .i m, .s cl, .s bd, .i s.since, .l l, .i (l.length : Int), .i (i : Int)]) fun o => ∃ g, o = (some 0, g) ∧ g = [.s kk, .s b, .i c, .i n, .l (cntStep a s x).m, .i ((cntStep a s x).k : Int), .i (cntStep a s x).since, .l l, .i (l.length : Int), .i (i : Int)] := by
        unfold tl_club_reached_7
        (dsimp +instances only [gi0,gis,row1,rows1,int1,str1,bool1])
        rw [← ex]
        refine Ret.call (Ret.eq (contactOf_ok hc)) ?_
        rintro _ rfl
        (dsimp +instances only [gi0,gis,row1,rows1,int1,str1,bool1])
        refine Ret.call (P := fun g => g = [.l [cntK a (wkK x)]]) (Ret.eq (by subst ea; exact hk1)) ?_
        rintro _ rfl
        (dsimp +instances only [gi0,gis,row1,rows1,int1,str1,bool1])
        simp only [hk2, Int.toNat_natCast]
        refine Ret.test (fun h1 => ?_) fun h1 => ?_
        · rw [leI_eq, decide_eq_true_eq] at h1
          refine Ret.test (fun h2 => ?_) fun h2 => ?_
          · rw [ltI_eq, decide_eq_true_eq] at h2
            refine Ret.some ⟨_, rfl, ?_⟩
            unfold cntStep
            rw [e3, if_pos ⟨h1, h2⟩, f0]
          · rw [ltI_eq, decide_eq_false_iff_not] at h2
            refine Ret.some ⟨_, rfl, ?_⟩
            unfold cntStep
            rw [e3, if_neg (fun h => h2 h.2)]
        · rw [leI_eq, decide_eq_false_iff_not] at h1
          refine Ret.some ⟨_, rfl, ?_⟩
          unfold cntStep
          rw [e3, if_neg (fun h => h1 h.1)]
      unfold st_club_reached_4
      (dsimp +instances only [gi0,gis,row1,rows1,int1,str1,bool1])
      simp only [Int.toNat_natCast, hx, f0, f1, f2, f3, f4]
      refine Ret.pos (by (first|rfl|assumption|(simp only [inI,sl]<;>omega))) (Ret.pos (by (first|rfl|assumption|(simp only [inI,sl]<;>omega))) (Ret.test (fun hne => ?_) fun hne => ?_))
      · have hne' : (b.toList == (⟨#[]⟩ : ByteArray).toList) = false := by simpa using hne
        refine Ret.test (fun hb => ?_) fun hb => ?_
        · have hb' : (bd.toList == b.toList) = false := by simpa using hb
          refine Ret.pos (by (first|rfl|assumption|(simp only [inI,sl]<;>omega))) (Ret.some ⟨s, rfl, (skip ?_).symm⟩)
          rw [eb, hne', hb']
          rfl
        · have hb' : (bd.toList == b.toList) = true := by simpa using hb
          refine Ret.tail (P := fun x' g => x' = 0 ∧ g = [.s kk, .s b, .i c, .i n, .l (cntStep a s x).m, .i ((cntStep a s x).k : Int), .i (cntStep a s x).since, .l l, .i (l.length : Int), .i (i : Int)]) ?_ rfl ?_
          · refine tail.mono ?_
            rintro _ ⟨g, rfl, hg⟩
            exact ⟨0, rfl, rfl, hg⟩
          · rintro _ _ ⟨rfl, rfl⟩
            (dsimp +instances only [gi0,gis,row1,rows1,int1,str1,bool1])
            refine Ret.pos (by (first|rfl|assumption|(simp only [inI,sl]<;>omega))) (Ret.some ⟨cntStep a s x, rfl, (take ?_).symm⟩)
            rw [eb, hne', hb']
            rfl
      · have hne' : (b.toList == (⟨#[]⟩ : ByteArray).toList) = true := by simpa using hne
        refine Ret.tail (P := fun x' g => x' = 0 ∧ g = [.s kk, .s b, .i c, .i n, .l (cntStep a s x).m, .i ((cntStep a s x).k : Int), .i (cntStep a s x).since, .l l, .i (l.length : Int), .i (i : Int)]) ?_ rfl ?_
        · refine tail.mono ?_
          rintro _ ⟨g, rfl, hg⟩
          exact ⟨0, rfl, rfl, hg⟩
        · rintro _ _ ⟨rfl, rfl⟩
          (dsimp +instances only [gi0,gis,row1,rows1,int1,str1,bool1])
          refine Ret.pos (by (first|rfl|assumption|(simp only [inI,sl]<;>omega))) (Ret.some ⟨cntStep a s x, rfl, (take ?_).symm⟩)
          rw [eb, hne']
          rfl)
    (fun s hI => by
      unfold st_club_reached_4
      (dsimp +instances only [gi0,gis,row1,rows1,int1,str1,bool1])
      exact Ret.neg (by (first|rfl|assumption|(simp only [inI,sl]<;>omega))) (Ret.some rfl))
  refine Ret.loop r rfl ?_
  rintro _ _ ⟨s, hs, rfl, rfl⟩
  rw [List.take_length] at hs
  refine Ret.some ?_
  rw [hs]
  rfl
/-! ### The same in the reference -/
def keyR (c : Int) (x : List G) : List G :=
  [.i 0, .i 0, .i (if c = 3 ∨ c = 4 then (gi x 2).int else 0), .s (baseOf (gi x 3).str), .s (if c = 2 ∨ c = 4 then (gi x 4).str else ⟨#[]⟩)]
def refStep (c : Int) (s : List (List G) × Nat) (x : List G) : List (List G) × Nat := (mput KCard s.1 (keyR c x) [.t true] s.2, mclk KCard s.1 (keyR c x) s.2)
def refAll (c : Int) (l : List (List G)) : List (List G) × Nat := l.foldl (refStep c) ([], 0)
theorem reachedR_ok {a : List G} (ha : Awd a) (hc4 : 1 ≤ (gi a 2).int ∧ (gi a 2).int ≤ 4) (l : List (List G)) (at_ : Int) (hC : ∀ z ∈ l, Crd z) (hn : l.length < 90000) :
    F_pileref2_reached [.l [a], .l l, .i at_] = some [.i ((refAll (gi a 2).int ((confA at_ l).filter (ofBand a))).1.length : Int)] := by
  refine Ret.toEq ?_
  obtain ⟨kk, b, c, n, ea, hk⟩ := ha
  have ha : Awd a := ⟨kk, b, c, n, ea, hk⟩
  have e0 : (gi a 0).str = kk := by rw [ea]; rfl
  have e1 : (gi a 1).str = b := by rw [ea]; rfl
  have e2 : (gi a 2).int = c := by rw [ea]; rfl
  have e3 : (gi a 3).int = n := by rw [ea]; rfl
  rw [e2] at hc4 ⊢
  have hcl : (confA at_ l).length ≤ l.length := confL_length at_ l l.length
  have hcm : ∀ z ∈ confA at_ l, z ∈ l := confL_mem at_ l l.length (Nat.le_refl _)
  unfold F_pileref2_reached
  (dsimp +instances only [gi0,gis,row1,rows1,int1,str1,bool1])
  refine Ret.call (P := fun g => g = [.l (confA at_ l)]) (Ret.eq (confirmedBy_ok l at_ hC hn)) ?_
  rintro _ rfl
  (dsimp +instances only [gi0,gis,row1,rows1,int1,str1,bool1])
  simp only [e0, e1, e2, e3]
  generalize hq : confA at_ l = q at *
  have r := range_all (st := st_pileref2_reached_3) (σ := List (List G) × Nat) (fun s i => [.s kk, .s b, .i c, .i n, .l s.1, .i (s.2 : Int), .l q, .i (q.length : Int), .i (i : Int)]) q (fun s => (0, [.l s.1, .i (s.2 : Int)]))
    (fun s i => s = refAll c ((q.take i).filter (ofBand a))) ([], 0) (by omega) rfl
    (fun s i x hs hi hx hm ht => by
      have hc := hC x (hcm x hm)
      obtain ⟨t, k, m, cl, bd, ex, hh⟩ := hC x (hcm x hm)
      have f0 : (gi x 0).int = t := by rw [ex]; rfl
      have f1 : (gi x 1).int = k := by rw [ex]; rfl
      have f2 : (gi x 2).int = m := by rw [ex]; rfl
      have f3 : (gi x 3).str = cl := by rw [ex]; rfl
      have f4 : (gi x 4).str = bd := by rw [ex]; rfl
      have eb : ofBand a x = ((b.toList == (⟨#[]⟩ : ByteArray).toList) || (bd.toList == b.toList)) := by
        unfold ofBand
        rw [e1, f4]
      have skip : ofBand a x = false → refAll c ((q.take (i + 1)).filter (ofBand a)) = s := fun h => by
        rw [ht, List.filter_append, hs]
        simp [h]
      have take : ofBand a x = true → refAll c ((q.take (i + 1)).filter (ofBand a)) = refStep c s x := fun h => by
        rw [ht, List.filter_append, hs]
        simp only [List.filter_cons, h, if_true, List.filter_nil]
        unfold refAll
        rw [List.foldl_append]
        rfl
      have hkey : keyR c x = [.i 0, .i 0, .i (if c = 3 ∨ c = 4 then m else 0), .s (baseOf cl), .s (if c = 2 ∨ c = 4 then bd else ⟨#[]⟩)] := by
        unfold keyR
        rw [f2, f3, f4]
      have rstl9 : ∀ (y : ByteArray) (z : Int), z = 0 → y = (if c = 2 ∨ c = 4 then bd else ⟨#[]⟩) → Ret (tl_pileref2_reached_9 [.s kk, .s b, .i c, .i n, .l s.1, .i (s.2 : Int), .i t, .i k, .i m, .s cl, .s bd, .i 0, .i 0, .i z, .s (baseOf cl), .s y, .l q, .i (q.length : Int), .i (i : Int)]) fun o => ∃ g, o = (some 0, g) ∧
          g = [.s kk, .s b, .i c, .i n, .l (refStep c s x).1, .i ((refStep c s x).2 : Int), .l q, .i (q.length : Int), .i (i : Int)] := fun y z hz hy => by
        subst hz
        unfold tl_pileref2_reached_9
        (dsimp +instances only [gi0,gis,row1,rows1,int1,str1,bool1])
        simp only [Int.toNat_natCast]
        unfold refStep
        rw [hkey, ← hy]
        refine Ret.test (fun h => ?_) fun h => ?_
        · have h : c = 3 := by simpa using h
          refine Ret.some ⟨_, rfl, ?_⟩
          rw [if_pos (.inl h)]
        · have h : ¬ c = 3 := by simpa using h
          refine Ret.test (fun h' => ?_) fun h' => ?_
          · have h' : c = 4 := by simpa using h'
            refine Ret.some ⟨_, rfl, ?_⟩
            rw [if_pos (.inr h')]
          · have h' : ¬ c = 4 := by simpa using h'
            refine Ret.some ⟨_, rfl, ?_⟩
            rw [if_neg (by omega)]
      have rstl8 : ∀ f : Bool, Ret (tl_pileref2_reached_8 [.s kk, .s b, .i c, .i n, .l s.1, .i (s.2 : Int), .i t, .i k, .i m, .s cl, .s bd, .i 0, .i 0, .i 0, .s (baseOf cl), .s ⟨#[]⟩, .l q, .i (q.length : Int), .i (i : Int), .t f]) fun o => ∃ g, o = (some 0, g) ∧
          g = [.s kk, .s b, .i c, .i n, .l s.1, .i (s.2 : Int), .i t, .i k, .i m, .s cl, .s bd, .i 0, .i 0, .i 0, .s (baseOf cl), .s (bif f then bd else ⟨#[]⟩), .l q, .i (q.length : Int), .i (i : Int)] := fun f => by
        unfold tl_pileref2_reached_8
        (dsimp +instances only [gi0,gis,row1,rows1,int1,str1,bool1])
        simp only [Int.toNat_natCast]
        cases f
        · exact Ret.neg rfl (Ret.some ⟨_, rfl, rfl⟩)
        · exact Ret.pos rfl (Ret.some ⟨_, rfl, rfl⟩)
      have tail : Ret (tl_pileref2_reached_6 [.s kk, .s b, .i c, .i n, .l s.1, .i (s.2 : Int), .i t, .i k, .i m, .s cl, .s bd, .l q, .i (q.length : Int), .i (i : Int)]) fun o => ∃ g, o = (some 0, g) ∧ g = [.s kk, .s b, .i c, .i n, .l (refStep c s x).1, .i ((refStep c s x).2 : Int), .l q, .i (q.length : Int), .i (i : Int)] := by
        unfold tl_pileref2_reached_6
        (dsimp +instances only [gi0,gis,row1,rows1,int1,str1,bool1])
        simp only [Int.toNat_natCast]
        have hcc : cl ∈ calls := by rw [← f3]; exact hc.call
        refine Ret.call (P := fun g => g = [.s (baseOf cl)]) (Ret.eq (baseRef_eq hcc)) ?_
        rintro _ rfl
        (dsimp +instances only [gi0,gis,row1,rows1,int1,str1,bool1])
        refine Ret.test (fun h => ?_) fun h => ?_
        · have h : c = 2 := by simpa using h
          refine Ret.tail (P := fun x' g => x' = 0 ∧ g = [.s kk, .s b, .i c, .i n, .l s.1, .i (s.2 : Int), .i t, .i k, .i m, .s cl, .s bd, .i 0, .i 0, .i 0, .s (baseOf cl), .s (bif true then bd else ⟨#[]⟩), .l q, .i (q.length : Int), .i (i : Int)]) ?_ rfl ?_
          · refine (rstl8 true).mono ?_
            rintro _ ⟨g, rfl, hg⟩
            exact ⟨0, rfl, rfl, hg⟩
          · rintro _ _ ⟨rfl, rfl⟩
            (dsimp +instances only [gi0,gis,row1,rows1,int1,str1,bool1])
            simp only [Int.toNat_natCast]
            refine Ret.tail (P := fun x' g => x' = 0 ∧ g = [.s kk, .s b, .i c, .i n, .l (refStep c s x).1, .i ((refStep c s x).2 : Int), .l q, .i (q.length : Int), .i (i : Int)]) ?_ rfl ?_
            · refine (rstl9 _ 0 rfl ?_).mono ?_
              · rw [if_pos (.inl h)]
                rfl
              · rintro _ ⟨g, rfl, hg⟩
                exact ⟨0, rfl, rfl, hg⟩
            · rintro _ _ ⟨rfl, rfl⟩
              exact Ret.some ⟨_, rfl, rfl⟩
        · have h : ¬ c = 2 := by simpa using h
          refine Ret.tail (P := fun x' g => x' = 0 ∧ g = [.s kk, .s b, .i c, .i n, .l s.1, .i (s.2 : Int), .i t, .i k, .i m, .s cl, .s bd, .i 0, .i 0, .i 0, .s (baseOf cl), .s (bif c == 4 then bd else ⟨#[]⟩), .l q, .i (q.length : Int), .i (i : Int)]) ?_ rfl ?_
          · refine (rstl8 (c == 4)).mono ?_
            rintro _ ⟨g, rfl, hg⟩
            exact ⟨0, rfl, rfl, hg⟩
          · rintro _ _ ⟨rfl, rfl⟩
            (dsimp +instances only [gi0,gis,row1,rows1,int1,str1,bool1])
            simp only [Int.toNat_natCast]
            refine Ret.tail (P := fun x' g => x' = 0 ∧ g = [.s kk, .s b, .i c, .i n, .l (refStep c s x).1, .i ((refStep c s x).2 : Int), .l q, .i (q.length : Int), .i (i : Int)]) ?_ rfl ?_
            · refine (rstl9 _ 0 rfl ?_).mono ?_
              · by_cases h4 : c = 4
                · rw [if_pos (.inr h4), h4]
                  rfl
                · rw [if_neg (by omega), show (c == 4) = false from by simpa using h4]
                  rfl
              · rintro _ ⟨g, rfl, hg⟩
                exact ⟨0, rfl, rfl, hg⟩
            · rintro _ _ ⟨rfl, rfl⟩
              exact Ret.some ⟨_, rfl, rfl⟩
      unfold st_pileref2_reached_3
      (dsimp +instances only [gi0,gis,row1,rows1,int1,str1,bool1])
      simp only [Int.toNat_natCast, hx, f0, f1, f2, f3, f4]
      refine Ret.pos (by (first|rfl|assumption|(simp only [inI,sl]<;>omega))) (Ret.pos (by (first|rfl|assumption|(simp only [inI,sl]<;>omega))) (Ret.test (fun hne => ?_) fun hne => ?_))
      · have hne' : (b.toList == (⟨#[]⟩ : ByteArray).toList) = false := by simpa using hne
        refine Ret.test (fun hb => ?_) fun hb => ?_
        · have hb' : (bd.toList == b.toList) = false := by simpa using hb
          refine Ret.pos (by (first|rfl|assumption|(simp only [inI,sl]<;>omega))) (Ret.some ⟨s, rfl, (skip ?_).symm⟩)
          rw [eb, hne', hb']
          rfl
        · have hb' : (bd.toList == b.toList) = true := by simpa using hb
          refine Ret.tail (P := fun x' g => x' = 0 ∧ g = [.s kk, .s b, .i c, .i n, .l (refStep c s x).1, .i ((refStep c s x).2 : Int), .l q, .i (q.length : Int), .i (i : Int)]) ?_ rfl ?_
          · refine tail.mono ?_
            rintro _ ⟨g, rfl, hg⟩
            exact ⟨0, rfl, rfl, hg⟩
          · rintro _ _ ⟨rfl, rfl⟩
            (dsimp +instances only [gi0,gis,row1,rows1,int1,str1,bool1])
            refine Ret.pos (by (first|rfl|assumption|(simp only [inI,sl]<;>omega))) (Ret.some ⟨refStep c s x, rfl, (take ?_).symm⟩)
            rw [eb, hne', hb']
            rfl
      · have hne' : (b.toList == (⟨#[]⟩ : ByteArray).toList) = true := by simpa using hne
        refine Ret.tail (P := fun x' g => x' = 0 ∧ g = [.s kk, .s b, .i c, .i n, .l (refStep c s x).1, .i ((refStep c s x).2 : Int), .l q, .i (q.length : Int), .i (i : Int)]) ?_ rfl ?_
        · refine tail.mono ?_
          rintro _ ⟨g, rfl, hg⟩
          exact ⟨0, rfl, rfl, hg⟩
        · rintro _ _ ⟨rfl, rfl⟩
          (dsimp +instances only [gi0,gis,row1,rows1,int1,str1,bool1])
          refine Ret.pos (by (first|rfl|assumption|(simp only [inI,sl]<;>omega))) (Ret.some ⟨refStep c s x, rfl, (take ?_).symm⟩)
          rw [eb, hne']
          rfl)
    (fun s hI => by
      unfold st_pileref2_reached_3
      (dsimp +instances only [gi0,gis,row1,rows1,int1,str1,bool1])
      exact Ret.neg (by (first|rfl|assumption|(simp only [inI,sl]<;>omega))) (Ret.some rfl))
  refine Ret.loop r rfl ?_
  rintro _ _ ⟨s, hs, rfl, rfl⟩
  rw [List.take_length] at hs
  refine Ret.some ?_
  rw [hs]
  rfl
/-! ### Both count the same -/
theorem mput_size (K : List Kd) (key v : List G) (c : Nat) : ∀ rows : List (List G), (mput K rows key v c).length = rows.length + bif mhas K rows key then 0 else 1
  | [] => by rw [mput_nil, mhas_nil]; rfl
  | r :: rs => by
    rw [mput_cons, mhas_cons]
    have := mput_size K key v c rs
    cases rowEq K key (gi r 0).row
    · simp only [cond_false, List.length_cons, Bool.false_or, this]
      omega
    · simp
theorem cntK_eq {a : List G} (ha : Awd a) (hc : 1 ≤ (gi a 2).int ∧ (gi a 2).int ≤ 4) (x : List G) :
    cntK a (wkK x) = [.s (baseOf (gi x 3).str), .s (if (gi a 2).int = 2 ∨ (gi a 2).int = 4 then (gi x 4).str else ⟨#[]⟩), .i (if (gi a 2).int = 3 ∨ (gi a 2).int = 4 then (gi x 2).int else 0)] := by
  obtain ⟨k, b, c, n, rfl, _⟩ := ha
  have hc : 1 ≤ c ∧ c ≤ 4 := hc
  have : c = 1 ∨ c = 2 ∨ c = 3 ∨ c = 4 := by omega
  rcases this with rfl | rfl | rfl | rfl <;> rfl
theorem both_key {a : List G} (ha : Awd a) (hc : 1 ≤ (gi a 2).int ∧ (gi a 2).int ≤ 4) (x y : List G) : rowEq K3 (cntK a (wkK y)) (cntK a (wkK x)) = rowEq KCard (keyR (gi a 2).int y) (keyR (gi a 2).int x) := by
  rw [cntK_eq ha hc, cntK_eq ha hc]
  unfold keyR
  generalize (if (gi a 2).int = 3 ∨ (gi a 2).int = 4 then (gi x 2).int else 0) = m1
  generalize (if (gi a 2).int = 3 ∨ (gi a 2).int = 4 then (gi y 2).int else 0) = m2
  generalize (if (gi a 2).int = 2 ∨ (gi a 2).int = 4 then (gi x 4).str else (⟨#[]⟩ : ByteArray)) = b1
  generalize (if (gi a 2).int = 2 ∨ (gi a 2).int = 4 then (gi y 4).str else (⟨#[]⟩ : ByteArray)) = b2
  generalize baseOf (gi x 3).str = s1
  generalize baseOf (gi y 3).str = s2
  simp only [rowEq, gEq, List.headD_cons, List.tail_cons, G.int, G.str, Bool.and_true]
  rw [show ((0 : Int) == 0) = true from rfl, Bool.true_and, Bool.true_and]
  cases (m2 == m1) <;> cases (s2.toList == s1.toList) <;> cases (b2.toList == b1.toList) <;> simp
theorem both_count {a : List G} (ha : Awd a) (hc : 1 ≤ (gi a 2).int ∧ (gi a 2).int ≤ 4) : ∀ (l : List (List G)) (s : Cnt) (s' : List (List G) × Nat), s.m.length = s'.1.length → (∀ y, mhas K3 s.m (cntK a (wkK y)) = mhas KCard s'.1 (keyR (gi a 2).int y)) →
    (cntAll a s l).m.length = (l.foldl (refStep (gi a 2).int) s').1.length
  | [], s, s', h, _ => h
  | x :: l, s, s', h, hm => by
    refine both_count ha hc l (cntStep a s x) (refStep (gi a 2).int s' x) ?_ fun y => ?_
    · show (mput K3 s.m (cntK a (wkK x)) [.t true] s.k).length = (mput KCard s'.1 (keyR (gi a 2).int x) [.t true] s'.2).length
      rw [mput_size, mput_size, h, hm]
    · show mhas K3 (mput K3 s.m (cntK a (wkK x)) [.t true] s.k) _ = mhas KCard (mput KCard s'.1 (keyR (gi a 2).int x) [.t true] s'.2) _
      rw [mhas_mput, mhas_mput, hm, both_key ha hc]
theorem count_eq {a : List G} (ha : Awd a) (hc : 1 ≤ (gi a 2).int ∧ (gi a 2).int ≤ 4) (l : List (List G)) : (refAll (gi a 2).int l).1.length = (cntAll a cnt0 l).m.length :=
  (both_count ha hc l cnt0 ([], 0) rfl fun _ => rfl).symm
theorem since_iff {a : List G} : ∀ (l : List (List G)) (s : Cnt), (∀ z ∈ l, 0 ≤ (gi z 0).int) → ((0 ≤ s.since ∧ (gi a 3).int ≤ (s.m.length : Int)) ∨ (s.since = -1 ∧ (s.m.length : Int) < (gi a 3).int)) →
    (0 ≤ (cntAll a s l).since ∧ (gi a 3).int ≤ ((cntAll a s l).m.length : Int)) ∨ ((cntAll a s l).since = -1 ∧ ((cntAll a s l).m.length : Int) < (gi a 3).int)
  | [], s, _, h => h
  | x :: l, s, hz, h => by
    refine since_iff l (cntStep a s x) (fun z h => hz z (List.mem_cons_of_mem _ h)) ?_
    have h0 := hz x List.mem_cons_self
    have hs := mput_size K3 (cntK a (wkK x)) [.t true] s.k s.m
    have hs' : s.m.length ≤ (mput K3 s.m (cntK a (wkK x)) [.t true] s.k).length := by
      rw [hs]
      omega
    have e1 : (cntStep a s x).m = mput K3 s.m (cntK a (wkK x)) [.t true] s.k := rfl
    have e2 : (cntStep a s x).since = if (gi a 3).int ≤ ((mput K3 s.m (cntK a (wkK x)) [.t true] s.k).length : Int) ∧ s.since < 0 then (gi x 0).int else s.since := rfl
    rw [e1, e2]
    rcases h with ⟨h1, h2⟩ | ⟨h1, h2⟩
    · left
      rw [if_neg (by omega)]
      omega
    · by_cases h3 : (gi a 3).int ≤ ((mput K3 s.m (cntK a (wkK x)) [.t true] s.k).length : Int)
      · left
        rw [if_pos ⟨h3, by omega⟩]
        omega
      · right
        rw [if_neg (fun h => h3 h.1)]
        omega
def manyW (a : List G) (at_ : Int) (x : List (List G)) : Nat := (cntAll a cnt0 ((confA at_ x).filter (ofBand a))).m.length
def sinceW (a : List G) (at_ : Int) (x : List (List G)) : Int := (cntAll a cnt0 ((confA at_ x).filter (ofBand a))).since
theorem sinceW_iff {a : List G} (h1 : 1 ≤ (gi a 3).int) {x : List (List G)} (hx : ∀ z ∈ x, 0 ≤ (gi z 0).int) (at_ : Int) : leI 0 (sinceW a at_ x) = leI (gi a 3).int (manyW a at_ x) := by
  have h := since_iff (a := a) ((confA at_ x).filter (ofBand a)) cnt0 (fun z hz => hx z (confL_mem at_ x x.length (Nat.le_refl _) z (List.mem_filter.1 hz).1)) (.inr ⟨rfl, by show (0 : Int) < _; omega⟩)
  unfold sinceW manyW
  rw [leI_eq, leI_eq, Bool.eq_iff_iff, decide_eq_true_eq, decide_eq_true_eq]
  rcases h with ⟨h, h'⟩ | ⟨h, h'⟩
  · exact ⟨fun _ => h', fun _ => h⟩
  · constructor <;> intro <;> omega
theorem sinceW_law (a : List G) (at_ : Int) (x : List (List G)) (hn : x.length ≤ 3000) (hf : faultCards x = 0) (h1 : at_ ≤ 345686400000) :
    leI 0 (sinceW a at_ x) = if 0 ≤ sinceW a 345686400000 x then leI (sinceW a 345686400000 x) at_ else false := by
  obtain ⟨hrise, hone⟩ := right_rise (by omega) hf
  obtain ⟨t, ht, hat, _⟩ := conf_behind hrise (a := at_) (b := 345686400000) (by omega) x.length (Nat.le_refl _)
  have ht : confA 345686400000 x = confA at_ x ++ t := ht
  have e : cntAll a cnt0 ((confA 345686400000 x).filter (ofBand a)) = cntAll a (cntAll a cnt0 ((confA at_ x).filter (ofBand a))) (t.filter (ofBand a)) := by
    rw [ht, List.filter_append]
    unfold cntAll
    rw [List.foldl_append]
  unfold sinceW
  rw [e]
  rw [leI_eq, leI_eq]
  by_cases hs : 0 ≤ (cntAll a cnt0 ((confA at_ x).filter (ofBand a))).since
  · rw [cntAll_stays _ _ _ hs, if_pos hs, decide_eq_true hs]
    rcases cntAll_from a ((confA at_ x).filter (ofBand a)) cnt0 with h | ⟨y, hy, h⟩
    · have h2 : cnt0.since = -1 := rfl
      omega
    · have := conf_before at_ x x.length y (List.mem_filter.1 hy).1
      rw [h]
      exact (decide_eq_true this).symm
  · rw [decide_eq_false hs]
    split
    · rename_i hp
      rcases cntAll_from a (t.filter (ofBand a)) (cntAll a cnt0 ((confA at_ x).filter (ofBand a))) with h | ⟨y, hy, h⟩
      · omega
      · have := hat y (List.mem_filter.1 hy).1
        rw [h]
        exact (decide_eq_false (by omega)).symm
    · rfl
/-! ### How far awards are reached -/
theorem itoa_sizes : ((List.range 3001).all fun a => Nat.ble (itoaB (a : Nat)).size 10) = true := by kernel_rfl
theorem itoa_size {n : Int} (h0 : 0 ≤ n) (h1 : n ≤ 3000) : (itoaB n).size ≤ 10 := by
  obtain ⟨k, rfl⟩ := Int.eq_ofNat_of_zero_le h0
  have := List.all_eq_true.1 itoa_sizes k (List.mem_range.2 (by omega))
  simpa using this
theorem itoaW_ok {n : Int} (h0 : 0 ≤ n) (h1 : n ≤ 3000) : F_strconv_Itoa [.i n] = some [.s (itoaB n)] := by
  refine Ret.toEq ?_
  unfold F_strconv_Itoa
  (dsimp +instances only [gi0,gis,row1,rows1,int1,str1,bool1])
  exact Ret.pos (by simp only [nnI_eq, ltI_eq, Bool.and_eq_true, decide_eq_true_eq]; omega) (Ret.some rfl)
def textW (m n : Int) : ByteArray := bif leI n m then ((itoaB m ++ slashB) ++ itoaB n) ++ yesB else (itoaB m ++ slashB) ++ itoaB n
def rowW (at_ : Int) (x : List (List G)) (a : List G) : List G := [.s (gi a 0).str, .s (textW (manyW a at_ x) (gi a 3).int)]
def goodW (a : List G) : Prop := Awd a ∧ (1 ≤ (gi a 2).int ∧ (gi a 2).int ≤ 4) ∧ 1 ≤ (gi a 3).int ∧ (gi a 3).int ≤ 3000
theorem good_of {l : List (List G)} (hl : ∀ z ∈ l, Awd z) (hn : l.length ≤ 50) (h : faultAw l = 0) : ∀ z ∈ l, goodW z := by
  unfold faultAw at h
  rw [if_neg (by omega)] at h
  intro z hz
  obtain ⟨i, hi, rfl⟩ := List.getElem_of_mem hz
  have h1 := fw_zero h i hi
  have h2 : faultW1 l[i] = 0 := by
    refine Decidable.byContradiction fun hne => ?_
    unfold stepW at h1
    have e : l.getD i [] = l[i] := by rw [List.getD_eq_getElem?_getD, List.getElem?_eq_getElem hi]; rfl
    rw [e, if_pos hne] at h1
    exact hne h1
  unfold faultW1 at h2
  refine ⟨hl _ hz, ?_, ?_⟩
  · cases h3 : inB (gi l[i] 2).int 1 4 with
    | true =>
      unfold inB at h3
      simp only [Bool.and_eq_true, leI_eq, decide_eq_true_eq] at h3
      exact h3
    | false =>
      rw [h3] at h2
      revert h2
      cases okAK (gi l[i] 0).str <;> cases okAB (gi l[i] 1).str <;> simp
  · cases h3 : inB (gi l[i] 3).int 1 3000 with
    | true =>
      unfold inB at h3
      simp only [Bool.and_eq_true, leI_eq, decide_eq_true_eq] at h3
      exact h3
    | false =>
      rw [h3] at h2
      revert h2
      cases okAK (gi l[i] 0).str <;> cases okAB (gi l[i] 1).str <;> cases inB (gi l[i] 2).int 1 4 <;> simp
theorem manyW_le (a : List G) (at_ : Int) (x : List (List G)) : manyW a at_ x ≤ x.length := by
  have h1 := cntAll_len a ((confA at_ x).filter (ofBand a)) cnt0
  have h2 := List.length_filter_le (ofBand a) (confA at_ x)
  have h3 : (confA at_ x).length ≤ x.length := confL_length at_ x x.length
  have h4 : cnt0.m.length = 0 := rfl
  unfold manyW
  omega
theorem slash_size : slashB.size = 1 := rfl
theorem progW_ok (l x : List (List G)) (at_ : Int) (hl : ∀ z ∈ l, goodW z) (hln : l.length ≤ 50) (hx : ∀ z ∈ x, Crd z) (hn : x.length ≤ 100) (hx0 : ∀ z ∈ x, 0 ≤ (gi z 0).int) :
    RetL st_club_Progress_10 [.l [], .l (confA at_ x), .l l, .i (l.length : Int), .i 0] fun c g => c = 0 ∧ g = [.l (l.map (rowW at_ x))] := by
  have hcl : (confA at_ x).length ≤ x.length := confL_length at_ x x.length
  have hcm : ∀ z ∈ confA at_ x, z ∈ x := confL_mem at_ x x.length (Nat.le_refl _)
  have r := range_all (st := st_club_Progress_10) (σ := Unit) (fun _ i => [.l ((l.take i).map (rowW at_ x)), .l (confA at_ x), .l l, .i (l.length : Int), .i (i : Int)]) l (fun _ => (0, [.l (l.map (rowW at_ x))]))
    (fun _ _ => True) () (by omega) trivial
    (fun _ i a _ hi ha hm ht => by
      obtain ⟨hA, hc, h1, h3⟩ := hl a hm
      have hml := manyW_le a at_ x
      have hs1 := itoa_size (n := (manyW a at_ x : Int)) (by omega) (by omega)
      have hs2 := itoa_size (n := (gi a 3).int) (by omega) h3
      have hz1 : (itoaB (manyW a at_ x : Int) ++ slashB).size = (itoaB (manyW a at_ x : Int)).size + 1 := by rw [ByteArray.size_append, slash_size]
      have hz2 : ((itoaB (manyW a at_ x : Int) ++ slashB) ++ itoaB (gi a 3).int).size = (itoaB (manyW a at_ x : Int)).size + 1 + (itoaB (gi a 3).int).size := by rw [ByteArray.size_append, hz1]
      have hmm : ((l.take i).map (rowW at_ x)).length = i := by simp; omega
      unfold st_club_Progress_10
      (dsimp +instances only [gi0,gis,row1,rows1,int1,str1,bool1])
      simp only [Int.toNat_natCast, ha, hA.eta]
      refine Ret.pos (by (first|rfl|assumption|(simp only [inI,sl]<;>omega))) (Ret.pos (by (first|rfl|assumption|(simp only [inI,sl]<;>omega))) ?_)
      refine Ret.call (P := fun g => g = [.i (manyW a at_ x : Int), .i (sinceW a at_ x)]) (Ret.eq (reachedA_ok hA (confA at_ x) (fun z hz => hx z (hcm z hz)) (by omega))) ?_
      rintro _ rfl
      (dsimp +instances only [gi0,gis,row1,rows1,int1,str1,bool1])
      refine Ret.call (Ret.eq (itoaW_ok (by omega) (by omega))) ?_
      rintro _ rfl
      (dsimp +instances only [gi0,gis,row1,rows1,int1,str1,bool1])
      refine Ret.pos (by rw [Nat.ble_eq]; omega) ?_
      refine Ret.call (Ret.eq (itoaW_ok (by omega) h3)) ?_
      rintro _ rfl
      (dsimp +instances only [gi0,gis,row1,rows1,int1,str1,bool1])
      refine Ret.pos (show Nat.ble ((itoaB (manyW a at_ x : Int) ++ slashB).size + (itoaB (gi a 3).int).size) 9223372036854775807 = true by rw [Nat.ble_eq, hz1]; omega) ?_
      have hstep : (l.take (i + 1)).map (rowW at_ x) = (l.take i).map (rowW at_ x) ++ [rowW at_ x a] := by rw [ht, List.map_append]; rfl
      have hlaw := sinceW_iff h1 hx0 at_
      refine Ret.test (fun h => ?_) fun h => ?_
      · refine Ret.pos (show Nat.ble (((itoaB (manyW a at_ x : Int) ++ slashB) ++ itoaB (gi a 3).int).size + 4) 9223372036854775807 = true by rw [Nat.ble_eq, hz2]; omega) ?_
        refine Ret.pos (by simp only [hmm, Bool.and_eq_true, Nat.beq_refl, decide_eq_true_eq, true_and]; omega) (Ret.pos (by (first|rfl|assumption|(simp only [inI,sl]<;>omega))) (Ret.pos (by simp) (Ret.some ⟨(), ?_, trivial⟩)))
        rw [hstep]
        unfold rowW textW
        rw [← hlaw, h]
        rfl
      · refine Ret.pos (by simp only [hmm, Bool.and_eq_true, Nat.beq_refl, decide_eq_true_eq, true_and]; omega) (Ret.pos (by (first|rfl|assumption|(simp only [inI,sl]<;>omega))) (Ret.pos (by simp) (Ret.some ⟨(), ?_, trivial⟩)))
        rw [hstep]
        unfold rowW textW
        rw [← hlaw, h]
        rfl)
    (fun _ _ => by
      unfold st_club_Progress_10
      (dsimp +instances only [gi0,gis,row1,rows1,int1,str1,bool1])
      rw [List.take_length]
      exact Ret.neg (by (first|rfl|assumption|(simp only [inI,sl]<;>omega))) (Ret.pos (by simp) (Ret.some rfl)))
  refine r.mono ?_
  rintro _ _ ⟨_, _, rfl, rfl⟩
  exact ⟨rfl, rfl⟩
theorem progRef_ok (l x : List (List G)) (at_ : Int) (hl : ∀ z ∈ l, goodW z) (hln : l.length ≤ 50) (hx : ∀ z ∈ x, Crd z) (hn : x.length ≤ 100) :
    F_pileref2_ProgressOf [.l l, .l x, .i at_] = some [.l (l.map (rowW at_ x))] := by
  refine Ret.toEq ?_
  unfold F_pileref2_ProgressOf
  (dsimp +instances only [gi0,gis,row1,rows1,int1,str1,bool1])
  have r := range_all (st := st_pileref2_ProgressOf_3) (σ := Unit) (fun _ i => [.l ((l.take i).map (rowW at_ x)), .l x, .i at_, .l l, .i (l.length : Int), .i (i : Int)]) l (fun _ => (0, [.l (l.map (rowW at_ x))]))
    (fun _ _ => True) () (by omega) trivial
    (fun _ i a _ hi ha hm ht => by
      obtain ⟨hA, hc, h1, h3⟩ := hl a hm
      have hml := manyW_le a at_ x
      have hs1 := itoa_size (n := (manyW a at_ x : Int)) (by omega) (by omega)
      have hs2 := itoa_size (n := (gi a 3).int) (by omega) h3
      have hz1 : (itoaB (manyW a at_ x : Int) ++ slashB).size = (itoaB (manyW a at_ x : Int)).size + 1 := by rw [ByteArray.size_append, slash_size]
      have hz2 : ((itoaB (manyW a at_ x : Int) ++ slashB) ++ itoaB (gi a 3).int).size = (itoaB (manyW a at_ x : Int)).size + 1 + (itoaB (gi a 3).int).size := by rw [ByteArray.size_append, hz1]
      have hmm : ((l.take i).map (rowW at_ x)).length = i := by simp; omega
      unfold st_pileref2_ProgressOf_3
      (dsimp +instances only [gi0,gis,row1,rows1,int1,str1,bool1])
      simp only [Int.toNat_natCast, ha, hA.eta]
      refine Ret.pos (by (first|rfl|assumption|(simp only [inI,sl]<;>omega))) (Ret.pos (by (first|rfl|assumption|(simp only [inI,sl]<;>omega))) ?_)
      refine Ret.call (P := fun g => g = [.i (manyW a at_ x : Int)]) (Ret.eq (by
        rw [reachedR_ok hA hc x at_ hx (by omega), count_eq hA hc]
        rfl)) ?_
      rintro _ rfl
      (dsimp +instances only [gi0,gis,row1,rows1,int1,str1,bool1])
      refine Ret.call (Ret.eq (itoaW_ok (by omega) (by omega))) ?_
      rintro _ rfl
      (dsimp +instances only [gi0,gis,row1,rows1,int1,str1,bool1])
      refine Ret.pos (by rw [Nat.ble_eq]; omega) ?_
      refine Ret.call (Ret.eq (itoaW_ok (by omega) h3)) ?_
      rintro _ rfl
      (dsimp +instances only [gi0,gis,row1,rows1,int1,str1,bool1])
      refine Ret.pos (show Nat.ble ((itoaB (manyW a at_ x : Int) ++ slashB).size + (itoaB (gi a 3).int).size) 9223372036854775807 = true by rw [Nat.ble_eq, hz1]; omega) ?_
      have hstep : (l.take (i + 1)).map (rowW at_ x) = (l.take i).map (rowW at_ x) ++ [rowW at_ x a] := by rw [ht, List.map_append]; rfl
      refine Ret.test (fun h => ?_) fun h => ?_
      · refine Ret.pos (show Nat.ble (((itoaB (manyW a at_ x : Int) ++ slashB) ++ itoaB (gi a 3).int).size + 4) 9223372036854775807 = true by rw [Nat.ble_eq, hz2]; omega) ?_
        refine Ret.pos (by simp only [hmm, Bool.and_eq_true, Nat.beq_refl, decide_eq_true_eq, true_and]; omega) (Ret.pos (by (first|rfl|assumption|(simp only [inI,sl]<;>omega))) (Ret.pos (by simp) (Ret.some ⟨(), ?_, trivial⟩)))
        rw [hstep]
        unfold rowW textW
        rw [h]
        rfl
      · refine Ret.pos (by simp only [hmm, Bool.and_eq_true, Nat.beq_refl, decide_eq_true_eq, true_and]; omega) (Ret.pos (by (first|rfl|assumption|(simp only [inI,sl]<;>omega))) (Ret.pos (by simp) (Ret.some ⟨(), ?_, trivial⟩)))
        rw [hstep]
        unfold rowW textW
        rw [h]
        rfl)
    (fun _ _ => by
      unfold st_pileref2_ProgressOf_3
      (dsimp +instances only [gi0,gis,row1,rows1,int1,str1,bool1])
      rw [List.take_length]
      exact Ret.neg (by (first|rfl|assumption|(simp only [inI,sl]<;>omega))) (Ret.pos (by simp) (Ret.some rfl)))
  refine Ret.loop r rfl ?_
  rintro _ _ ⟨_, _, rfl, rfl⟩
  exact Ret.pos (by simp) (Ret.some rfl)
/-! ### Since when -/
theorem at_zero {x : List (List G)} (hn : x.length ≤ 3000) (hf : faultCards x = 0) : ∀ z ∈ x, 0 ≤ (gi z 0).int ∧ (gi z 0).int ≤ 345686399999 := fun z hz => by
  have h := (right_rise hn hf).2 z hz
  unfold faultK1 at h
  cases h3 : inB (gi z 0).int 0 345686399999 with
  | true =>
    unfold inB at h3
    simp only [Bool.and_eq_true, leI_eq, decide_eq_true_eq] at h3
    exact h3
  | false =>
    rw [h3] at h
    cases h
theorem whenW_ok {a : List G} (ha : goodW a) (hf1 : faultAw [a] = 0) (x : List (List G)) (hx : ∀ z ∈ x, Crd z) (hn : x.length ≤ 100) (hf : faultCards x = 0) :
    F_club_When [.l [a], .l x] = some [.i (if 0 > sinceW a 345686400000 x then 0 else sinceW a 345686400000 x), .t (leI 0 (sinceW a 345686400000 x)), .i 0] := by
  have hcl : (confA 345686400000 x).length ≤ x.length := confL_length _ x x.length
  have hcm : ∀ z ∈ confA 345686400000 x, z ∈ x := confL_mem _ x x.length (Nat.le_refl _)
  refine Ret.toEq ?_
  unfold F_club_When
  (dsimp +instances only [gi0,gis,row1,rows1,int1,str1,bool1])
  rw [ha.1.eta]
  refine Ret.call (P := fun g => g = [.i 0]) (Ret.eq (by rw [checkAw_ok [a] (fun z hz => by rw [List.mem_singleton.1 hz]; exact ha.1), hf1])) ?_
  rintro _ rfl
  refine Ret.neg rfl ?_
  refine Ret.call (Ret.eq (checkCards_ok x hx)) ?_
  rintro _ rfl
  rw [hf]
  refine Ret.neg rfl ?_
  refine Ret.call (Ret.eq (confirmed_ok x 345686400000 hx (by omega))) ?_
  rintro _ rfl
  (dsimp +instances only [gi0,gis,row1,rows1,int1,str1,bool1])
  refine Ret.call (P := fun g => g = [.i (manyW a 345686400000 x : Int), .i (sinceW a 345686400000 x)]) (Ret.eq (reachedA_ok ha.1 (confA 345686400000 x) (fun z hz => hx z (hcm z hz)) (by omega))) ?_
  rintro _ rfl
  exact Ret.some rfl
theorem whenRef_ok {a : List G} (ha : goodW a) (x : List (List G)) (hx : ∀ z ∈ x, Crd z) (hn : x.length ≤ 100) (hf : faultCards x = 0) :
    F_pileref2_WhenOf [.l [a], .l x] = some [.i (if 0 > sinceW a 345686400000 x then 0 else sinceW a 345686400000 x), .t (leI 0 (sinceW a 345686400000 x))] := by
  have hz := at_zero (by omega) hf
  have hrise := (right_rise (by omega) hf).1
  have enough : ∀ z ∈ x, leI (gi a 3).int (manyW a (gi z 0).int x) = if 0 ≤ sinceW a 345686400000 x then leI (sinceW a 345686400000 x) (gi z 0).int else false := fun z h => by
    rw [← sinceW_iff ha.2.2.1 (fun y hy => (hz y hy).1)]
    exact sinceW_law a _ x (by omega) hf (by have := (hz z h).2; omega)
  have from' : 0 ≤ sinceW a 345686400000 x → ∃ j, j < x.length ∧ (gi (x.getD j []) 0).int = sinceW a 345686400000 x := fun h => by
    rcases cntAll_from a ((confA 345686400000 x).filter (ofBand a)) cnt0 with h1 | ⟨y, hy, h1⟩
    · have h2 : cnt0.since = -1 := rfl
      have h3 : sinceW a 345686400000 x = cnt0.since := h1
      omega
    · have hm := confL_mem _ x x.length (Nat.le_refl _) y (List.mem_filter.1 hy).1
      obtain ⟨j, hj, rfl⟩ := List.getElem_of_mem hm
      refine ⟨j, hj, ?_⟩
      rw [List.getD_eq_getElem?_getD, List.getElem?_eq_getElem hj]
      exact h1.symm
  obtain ⟨s, hs⟩ : ∃ s, sinceW a 345686400000 x = s := ⟨_, rfl⟩
  rw [hs] at enough from' ⊢
  obtain ⟨kk, b, c, n, ea, hk⟩ := ha.1
  have e0 : (gi a 0).str = kk := by rw [ea]; rfl
  have e1 : (gi a 1).str = b := by rw [ea]; rfl
  have e2 : (gi a 2).int = c := by rw [ea]; rfl
  have e3 : (gi a 3).int = n := by rw [ea]; rfl
  refine Ret.toEq ?_
  unfold F_pileref2_WhenOf
  (dsimp +instances only [gi0,gis,row1,rows1,int1,str1,bool1])
  simp only [e0, e1, e2, e3]
  have r := range_inv (st := st_pileref2_WhenOf_2) (σ := Unit) (fun _ i => [.s kk, .s b, .i c, .i n, .l x, .l x, .i (x.length : Int), .i (i : Int)]) x (fun _ => (1, []))
    (fun _ i => ∀ j, j < i → j < x.length → ¬ (0 ≤ s ∧ s ≤ (gi (x.getD j []) 0).int)) (fun c g => c = 0 ∧ 0 ≤ s ∧ g = [.i s, .t true]) () (by omega) (fun j hj => by omega)
    (fun _ i z hI hi hx' hm ht => by
      unfold st_pileref2_WhenOf_2
      (dsimp +instances only [gi0,gis,row1,rows1,int1,str1,bool1])
      simp only [Int.toNat_natCast, hx']
      refine Ret.pos (by (first|rfl|assumption|(simp only [inI,sl]<;>omega))) (Ret.pos (by (first|rfl|assumption|(simp only [inI,sl]<;>omega))) ?_)
      refine Ret.call (P := fun g => g = [.i (manyW a (gi z 0).int x : Int)]) (Ret.eq (by
        have h := reachedR_ok ha.1 ha.2.1 x (gi z 0).int hx (by omega)
        rw [count_eq ha.1 ha.2.1] at h
        subst ea
        exact h)) ?_
      rintro _ rfl
      (dsimp +instances only [gi0,gis,row1,rows1,int1,str1,bool1])
      have hen := enough z hm
      rw [e3] at hen
      rw [hen]
      refine Ret.test (fun h => ?_) fun h => ?_
      · by_cases h0 : 0 ≤ s
        · rw [if_pos h0, leI_eq, decide_eq_true_eq] at h
          refine Ret.some (.inr ⟨0, _, rfl, rfl, h0, ?_⟩)
          obtain ⟨j, hj, hjs⟩ := from' h0
          have hle : i ≤ j := Nat.le_of_not_lt fun hlt => hI j hlt hj ⟨h0, by omega⟩
          have hat : (gi z 0).int ≤ s := by
            rw [← hx', ← hjs]
            rcases Nat.lt_or_ge i j with hlt | hge
            · have := List.pairwise_iff_getElem.1 hrise i j hi hj hlt
              rw [List.getD_eq_getElem?_getD, List.getD_eq_getElem?_getD, List.getElem?_eq_getElem hi, List.getElem?_eq_getElem hj]
              exact ordK_at (Int.le_of_lt this)
            · rw [show i = j by omega]
              exact Int.le_refl _
          rw [show (gi z 0).int = s by omega]
        · rw [if_neg h0] at h
          cases h
      · refine Ret.pos (by (first|rfl|assumption|(simp only [inI,sl]<;>omega))) (Ret.some (.inl ⟨(), rfl, fun j hj hjl hh => ?_⟩))
        rcases Nat.lt_or_ge j i with hlt | hge
        · exact hI j hlt hjl hh
        · have : j = i := by omega
          subst this
          rw [if_pos hh.1, leI_eq, decide_eq_false_iff_not, ← hx'] at h
          exact h hh.2)
    (fun _ _ => by
      unfold st_pileref2_WhenOf_2
      (dsimp +instances only [gi0,gis,row1,rows1,int1,str1,bool1])
      exact Ret.neg (by (first|rfl|assumption|(simp only [inI,sl]<;>omega))) (Ret.some rfl))
  refine Ret.loop r rfl ?_
  rintro _ _ (⟨_, hI, rfl, rfl⟩ | ⟨rfl, h0, rfl⟩)
  · have hneg : ¬ 0 ≤ s := fun h0 => by
      obtain ⟨j, hj, hjs⟩ := from' h0
      exact hI j hj hj ⟨h0, by omega⟩
    refine Ret.some ?_
    rw [if_pos (by omega), leI_eq, decide_eq_false hneg]
  · refine Ret.some ?_
    rw [if_neg (by omega), leI_eq, decide_eq_true h0]
    rfl
theorem errs3 (x y z : Int) : F_pilelaw2_errs [.l [[.i x], [.i y], [.i z]]] = some [.i (bif x != 0 then x else bif y != 0 then y else z)] := by
  have h := errs_eq [x, y, z] (by simp)
  have e : firstE [x, y, z] = bif x != 0 then x else bif y != 0 then y else z := by
    show (bif x != 0 then x else bif y != 0 then y else bif z != 0 then z else 0) = _
    by_cases hz : z = 0
    · rw [hz]
      rfl
    · have : (z != 0) = true := by simpa using hz
      rw [this]
      rfl
  rw [e] at h
  exact h
def momE (at_ : Int) : Int := bif !inB at_ 0 345686399999 then 1 else 0
def oneE (A X : List (List G)) (at_ : Int) : Int := bif faultAw A != 0 then faultAw A else bif faultCards X != 0 then faultCards X else momE at_
def twoE (a : List G) (X : List (List G)) : Int := bif faultAw [a] != 0 then faultAw [a] else faultCards X
theorem progressW_ok (A X : List (List G)) (at_ : Int) (hA : ∀ z ∈ A, Awd z) (hAn : A.length ≤ 50) (hX : ∀ z ∈ X, Crd z) (hXn : X.length ≤ 100) :
    F_club_Progress [.l A, .l X, .i at_] = some [.l (bif oneE A X at_ == 0 then A.map (rowW at_ X) else []), .i (oneE A X at_)] := by
  refine Ret.toEq ?_
  unfold F_club_Progress oneE
  (dsimp +instances only [gi0,gis,row1,rows1,int1,str1,bool1])
  refine Ret.call (Ret.eq (checkAw_ok A hA)) ?_
  rintro _ rfl
  (dsimp +instances only [gi0,gis,row1,rows1,int1,str1,bool1])
  refine Ret.test (fun h => ?_) fun h => ?_
  · rw [h]
    refine Ret.some ?_
    have : (faultAw A == 0) = false := by simpa using h
    rw [cond_true, this]
    rfl
  rw [h, cond_false]
  have hfA : faultAw A = 0 := by simpa using h
  refine Ret.call (Ret.eq (cardsFault2 X at_ hX)) ?_
  rintro _ rfl
  (dsimp +instances only [gi0,gis,row1,rows1,int1,str1,bool1])
  unfold momE
  generalize he : (bif faultCards X != 0 then faultCards X else bif !inB at_ 0 345686399999 then 1 else 0) = e
  refine Ret.test (fun h => ?_) fun h => ?_
  · refine Ret.some ?_
    have : (e == 0) = false := by simpa using h
    rw [this]
    rfl
  have h0 : e = 0 := by simpa using h
  have hfX : faultCards X = 0 := by
    cases hc : (faultCards X != 0) with
    | true =>
      rw [hc, cond_true] at he
      rw [he]
      exact h0
    | false => simpa using hc
  refine Ret.call (Ret.eq (confirmed_ok X at_ hX (by omega))) ?_
  rintro _ rfl
  (dsimp +instances only [gi0,gis,row1,rows1,int1,str1,bool1])
  refine Ret.loop (progW_ok A X at_ (good_of hA hAn hfA) hAn hX hXn fun z hz => (at_zero (by omega) hfX z hz).1) rfl ?_
  rintro _ _ ⟨rfl, rfl⟩
  refine Ret.pos (by simp) (Ret.some ?_)
  rw [h0]
  rfl
theorem whenW_all {a : List G} (ha : Awd a) (X : List (List G)) (hX : ∀ z ∈ X, Crd z) (hXn : X.length ≤ 100) :
    F_club_When [.l [a], .l X] = some (bif twoE a X == 0 then [.i (if 0 > sinceW a 345686400000 X then 0 else sinceW a 345686400000 X), .t (leI 0 (sinceW a 345686400000 X)), .i 0] else [.i 0, .t false, .i (twoE a X)]) := by
  have h1 : ∀ z ∈ [a], Awd z := fun z hz => by rw [List.mem_singleton.1 hz]; exact ha
  unfold twoE
  cases hA : (faultAw [a] != 0) with
  | false =>
    have hA : faultAw [a] = 0 := by simpa using hA
    rw [cond_false]
    cases hC : (faultCards X != 0) with
    | false =>
      have hC : faultCards X = 0 := by simpa using hC
      rw [whenW_ok (good_of h1 (by simp) hA a (by simp)) hA X hX hXn hC, hC]
      rfl
    | true =>
      have hz : (faultCards X == 0) = false := by simpa using hC
      rw [hz, cond_false]
      refine Ret.toEq ?_
      unfold F_club_When
      (dsimp +instances only [gi0,gis,row1,rows1,int1,str1,bool1])
      rw [ha.eta]
      refine Ret.call (Ret.eq (checkAw_ok [a] h1)) ?_
      rintro _ rfl
      rw [hA]
      refine Ret.neg rfl ?_
      refine Ret.call (Ret.eq (checkCards_ok X hX)) ?_
      rintro _ rfl
      exact Ret.pos hC (Ret.some rfl)
  | true =>
    rw [cond_true]
    have hz : (faultAw [a] == 0) = false := by simpa using hA
    rw [hz, cond_false]
    refine Ret.toEq ?_
    unfold F_club_When
    (dsimp +instances only [gi0,gis,row1,rows1,int1,str1,bool1])
    rw [ha.eta]
    refine Ret.call (Ret.eq (checkAw_ok [a] h1)) ?_
    rintro _ rfl
    exact Ret.pos hA (Ret.some rfl)
theorem tailAw_12 {a : List G} (ha : Awd a) (A X : List (List G)) (hA : ∀ z ∈ A, Awd z) (hAn : A.length ≤ 50) (hX : ∀ z ∈ X, Crd z) (hXn : X.length ≤ 100) (P : List (List G)) (hP : ∀ z ∈ P, QPair z) (hPn : P.length ≤ 1000) (e : Int) (w : Int) (b : Bool)
    (hw : some [G.i w, .t b, .i (twoE a X)] = some (bif twoE a X == 0 then [.i (if 0 > sinceW a 345686400000 X then 0 else sinceW a 345686400000 X), .t (leI 0 (sinceW a 345686400000 X)), .i 0] else [.i 0, .t false, .i (twoE a X)])) :
    Ret (tl_pilelaw2_AwardsReached_12 [.s (gi a 0).str, .s (gi a 1).str, .i (gi a 2).int, .i (gi a 3).int, .l A, .l X, .l P, .i e, .i w, .t b, .i (twoE a X), .i e, .i (twoE a X), .l P]) fun o => o = (some 0, [.t true]) := by
  have h1 : ∀ z ∈ [a], Awd z := fun z hz => by rw [List.mem_singleton.1 hz]; exact ha
  have hw := Option.some.inj hw
  unfold tl_pilelaw2_AwardsReached_12
  (dsimp +instances only [gi0,gis,row1,rows1,int1,str1,bool1])
  have fin : ∀ (w' : Int) (b' : Bool), w = w' → b = b' → Ret (callF (F_club_CheckAwards [.l A]) fun g19 => callF (F_pileref2_AwardsFault [.l A]) fun g20 =>
      bif (gi g19 0).int == (gi g20 0).int then bif e == e then callF (F_slices_Equal_Pair [.l P, .l P]) fun g21 => bif (gi g21 0).bool then bif twoE a X == twoE a X then bif w == w' then bif b == b' then
        callF (F_pilelaw2_joinedClub []) fun g22 => some (some 0, [G.t (gi g22 0).bool]) else some (some 0, [G.t false]) else some (some 0, [G.t false]) else some (some 0, [G.t false]) else some (some 0, [G.t false]) else some (some 0, [G.t false]) else some (some 0, [G.t false])) fun o => o = (some 0, [.t true]) := fun w' b' h1 h2 => by
    subst h1 h2
    refine Ret.call (Ret.eq (checkAw_ok A hA)) ?_
    rintro _ rfl
    refine Ret.call (Ret.eq (awardsFault_ok A hA)) ?_
    rintro _ rfl
    (dsimp +instances only [gi0,gis,row1,rows1,int1,str1,bool1])
    refine Ret.pos (by simp) (Ret.pos (by simp) ?_)
    refine Ret.call (Ret.eq (equalQ_refl P hP (by omega))) ?_
    rintro _ rfl
    (dsimp +instances only [gi0,gis,row1,rows1,int1,str1,bool1])
    refine Ret.pos rfl (Ret.pos (by simp) (Ret.pos (by simp) (Ret.pos (by simp) ?_)))
    refine Ret.call (Ret.eq joinedClub_ok) ?_
    rintro _ rfl
    exact Ret.some rfl
  refine Ret.test (fun h => ?_) fun h => ?_
  · rw [h, cond_true] at hw
    have h0 : twoE a X = 0 := by simpa using h
    have hfA : faultAw [a] = 0 := by
      unfold twoE at h0
      cases hc : (faultAw [a] != 0) with
      | true =>
        rw [hc, cond_true] at h0
        exact h0
      | false => simpa using hc
    have hfX : faultCards X = 0 := by
      unfold twoE at h0
      rw [hfA] at h0
      exact h0
    have hg := good_of h1 (by simp) hfA a (by simp)
    simp only [List.cons.injEq, G.i.injEq, G.t.injEq] at hw
    refine Ret.call (P := fun g => g = [.i (if 0 > sinceW a 345686400000 X then 0 else sinceW a 345686400000 X), .t (leI 0 (sinceW a 345686400000 X))]) (Ret.eq (by
      have := whenRef_ok hg X hX hXn hfX
      obtain ⟨kk, b, c, n, ea, hk⟩ := ha
      subst ea
      exact this)) ?_
    rintro _ rfl
    exact fin _ _ hw.1 hw.2.1
  · rw [h, cond_false] at hw
    simp only [List.cons.injEq, G.i.injEq, G.t.injEq] at hw
    exact fin _ _ hw.1 hw.2.1
theorem tailAw_6 {a : List G} (ha : Awd a) (A X : List (List G)) (at_ : Int) (hA : ∀ z ∈ A, Awd z) (hAn : A.length ≤ 50) (hX : ∀ z ∈ X, Crd z) (hXn : X.length ≤ 100) :
    Ret (tl_pilelaw2_AwardsReached_6 [.s (gi a 0).str, .s (gi a 1).str, .i (gi a 2).int, .i (gi a 3).int, .l A, .l X, .i at_]) fun o => o = (some 0, [.t true]) := by
  have h1 : ∀ z ∈ [a], Awd z := fun z hz => by rw [List.mem_singleton.1 hz]; exact ha
  have eta : gEta KAward [.s (gi a 0).str, .s (gi a 1).str, .i (gi a 2).int, .i (gi a 3).int, .l A, .l X, .i at_] = a := by
    obtain ⟨kk, b, c, n, rfl, _⟩ := ha
    rfl
  obtain ⟨w, b, hw⟩ : ∃ w b, some [G.i w, .t b, .i (twoE a X)] = some (bif twoE a X == 0 then [.i (if 0 > sinceW a 345686400000 X then 0 else sinceW a 345686400000 X), .t (leI 0 (sinceW a 345686400000 X)), .i 0] else [.i 0, .t false, .i (twoE a X)]) := by
    cases h : (twoE a X == 0) with
    | true =>
      rw [show twoE a X = 0 from by simpa using h]
      exact ⟨_, _, rfl⟩
    | false => exact ⟨_, _, rfl⟩
  unfold tl_pilelaw2_AwardsReached_6
  (dsimp +instances only [gi0,gis,row1,rows1,int1,str1,bool1])
  refine Ret.call (Ret.eq (progressW_ok A X at_ hA hAn hX hXn)) ?_
  rintro _ rfl
  rw [eta]
  refine Ret.call (P := fun g => g = [G.i w, .t b, .i (twoE a X)]) (Ret.eq (by rw [whenW_all ha X hX hXn, hw])) ?_
  rintro _ rfl
  refine Ret.call (Ret.eq (awardsFault_ok A hA)) ?_
  rintro _ rfl
  refine Ret.call (Ret.eq (cardsFault_ok X hX)) ?_
  rintro _ rfl
  refine Ret.call (Ret.eq (momentFault_ok at_)) ?_
  rintro _ rfl
  (dsimp +instances only [gi0,gis,row1,rows1,int1,str1,bool1])
  refine Ret.call (P := fun g => g = [.i (oneE A X at_)]) (Ret.eq (errs3 _ _ _)) ?_
  rintro _ rfl
  refine Ret.call (Ret.eq (awardsFault_ok [a] h1)) ?_
  rintro _ rfl
  refine Ret.call (Ret.eq (cardsFault_ok X hX)) ?_
  rintro _ rfl
  (dsimp +instances only [gi0,gis,row1,rows1,int1,str1,bool1])
  refine Ret.call (P := fun g => g = [.i (twoE a X)]) (Ret.eq (errs2 _ _)) ?_
  rintro _ rfl
  (dsimp +instances only [gi0,gis,row1,rows1,int1,str1,bool1])
  refine Ret.test (fun h => ?_) fun h => ?_
  · have h0 : oneE A X at_ = 0 := by simpa using h
    have hfA : faultAw A = 0 := by
      unfold oneE at h0
      cases hc : (faultAw A != 0) with
      | true =>
        rw [hc, cond_true] at h0
        exact h0
      | false => simpa using hc
    refine Ret.call (Ret.eq (progRef_ok A X at_ (good_of hA hAn hfA) hAn hX hXn)) ?_
    rintro _ rfl
    (dsimp +instances only [gi0,gis,row1,rows1,int1,str1,bool1])
    rw [h0]
    refine Ret.tail (P := fun x g => x = 0 ∧ g = [.t true]) ?_ rfl ?_
    · refine (tailAw_12 ha A X hA hAn hX hXn (A.map (rowW at_ X)) (fun z hz => ?_) (by simp; omega) 0 w b hw).mono ?_
      · obtain ⟨y, _, rfl⟩ := List.mem_map.1 hz
        exact ⟨_, _, rfl⟩
      · rintro _ rfl
        exact ⟨0, rfl, rfl, rfl⟩
    · rintro _ _ ⟨rfl, rfl⟩
      exact Ret.some rfl
  · rw [h, cond_false]
    refine Ret.tail (P := fun x g => x = 0 ∧ g = [.t true]) ?_ rfl ?_
    · refine (tailAw_12 ha A X hA hAn hX hXn [] (by simp) (by simp) (oneE A X at_) w b hw).mono ?_
      rintro _ rfl
      exact ⟨0, rfl, rfl, rfl⟩
    · rintro _ _ ⟨rfl, rfl⟩
      exact Ret.some rfl
theorem awardsReached_data (rows : List (List G)) : F_pilelaw2_AwardsReached [.l rows] = some [.t true] := by
  refine Ret.toEq ?_
  unfold F_pilelaw2_AwardsReached
  (dsimp +instances only [gi0,gis,row1,rows1,int1,str1,bool1])
  refine Ret.call (r_Awards rows 0 (by omega) (by omega)) ?_
  rintro _ ⟨b1, A, rfl, hb1, hb1', hA, hAn⟩
  (dsimp +instances only [gi0,gis,row1,rows1,int1,str1,bool1])
  refine Ret.call (r_Range rows _ 0 14 (by omega) (by omega) (by omega) (by omega) (by omega)) ?_
  rintro _ ⟨k, rfl, hk0, hk1⟩
  (dsimp +instances only [gi0,gis,row1,rows1,int1,str1,bool1])
  refine Ret.call (r_Cards rows _ k (by omega) (by omega) hk0 (by omega)) ?_
  rintro _ ⟨b2, X, rfl, hb2, hb2', hX, hXn⟩
  (dsimp +instances only [gi0,gis,row1,rows1,int1,str1,bool1])
  refine Ret.call (r_Pick (fun _ => True) rows _ _ (by omega) (by omega) (by simp) (by simp) (fun _ _ => trivial)) ?_
  rintro _ ⟨at_, rfl, _⟩
  (dsimp +instances only [gi0,gis,row1,rows1,int1,str1,bool1])
  refine Ret.call (r_Range rows _ 1 4 (by omega) (by omega) (by omega) (by omega) (by omega)) ?_
  rintro _ ⟨c, rfl, hc0, hc1⟩
  (dsimp +instances only [gi0,gis,row1,rows1,int1,str1,bool1])
  refine Ret.call (r_Range rows _ 1 3 (by omega) (by omega) (by omega) (by omega) (by omega)) ?_
  rintro _ ⟨n, rfl, hn0, hn1⟩
  (dsimp +instances only [gi0,gis,row1,rows1,int1,str1,bool1])
  refine Ret.test (fun h => ?_) fun h => ?_
  · rw [ltI_eq, decide_eq_true_eq] at h
    refine Ret.call (r_Next rows _ (A.length : Int) (by omega) (by omega) (by omega) (by omega)) ?_
    rintro _ ⟨v, rfl, hv0, hv1⟩
    (dsimp +instances only [gi0,gis,row1,rows1,int1,str1,bool1])
    have hv : v.toNat < A.length := by omega
    refine Ret.pos (by (first|rfl|assumption|(simp only [inI,sl]<;>omega))) ?_
    refine Ret.tail (P := fun x g => x = 0 ∧ g = [.t true]) ?_ rfl ?_
    · refine (tailAw_6 (hA _ (getD_row hv)) A X at_ hA (by omega) hX (by omega)).mono ?_
      rintro _ rfl
      exact ⟨0, rfl, rfl, rfl⟩
    · rintro _ _ ⟨rfl, rfl⟩
      exact Ret.some rfl
  · refine Ret.tail (P := fun x g => x = 0 ∧ g = [.t true]) ?_ rfl ?_
    · refine (tailAw_6 (a := [.s (⟨#[122]⟩ : ByteArray), .s (⟨#[]⟩ : ByteArray), .i c, .i n]) ⟨_, _, _, _, rfl, inL_mem (by kernel_rfl), inL_mem (by kernel_rfl), ⟨by omega, by omega⟩, ⟨by omega, by omega⟩⟩ A X at_ hA (by omega) hX (by omega)).mono ?_
      rintro _ rfl
      exact ⟨0, rfl, rfl, rfl⟩
    · rintro _ _ ⟨rfl, rfl⟩
      exact Ret.some rfl
end
end Go.Proofs.SYthnhleemkjpigaaGreatDoor
