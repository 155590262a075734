/-
  What is proved here: what the methods of the stream give on data. No condition.
-/
import Derived.Test.YthnhleemkjpigaaGreatDoorML3
import Derived.Test.YthnhleemkjpigaaGreatDoorME
set_option linter.unusedSimpArgs false
set_option linter.unusedVariables false
set_option linter.unusedSectionVars false
namespace Go.Proofs.SYthnhleemkjpigaaGreatDoor
open Go Go.AL Go.Proofs
noncomputable section
theorem r_Below (x n : Int) (h0 : 1 ≤ n) (h1 : n ≤ 1099511627776) : Ret (F_pilemake_Below [.i x, .i n]) fun g => ∃ v, g = [.i v] ∧ 0 ≤ v ∧ v < n := by
  unfold F_pilemake_Below
  (dsimp +instances only [gi0,gis,row1,rows1,int1,str1,bool1])
  have ha := Int.tmod_lt_of_pos x (by omega : 0 < n)
  have hb := Int.lt_tmod_of_pos x (by omega : 0 < n)
  (repeat(first|(refine Ret.pos ?_ ?_;(first|rfl|assumption|(simp only [inI,sl]<;>omega)))|(refine Ret.neg ?_ ?_;(first|rfl|assumption|(simp only [inI,sl]<;>omega)))))
  refine Ret.test (fun h => ?_) fun h => ?_
  · simp only [ltI_eq, decide_eq_true_eq] at h
    (repeat(first|(refine Ret.pos ?_ ?_;(first|rfl|assumption|(simp only [inI,sl]<;>omega)))|(refine Ret.neg ?_ ?_;(first|rfl|assumption|(simp only [inI,sl]<;>omega)))))
    exact Ret.some ⟨_, rfl, by omega, by omega⟩
  · simp only [ltI_eq, decide_eq_false_iff_not] at h
    exact Ret.some ⟨_, rfl, by omega, by omega⟩
theorem r_Next (l : List (List G)) (a n : Int) (ha : 0 ≤ a) (ha1 : a ≤ 1000000) (h0 : 1 ≤ n) (h1 : n ≤ 1099511627776) :
    Ret (F_pilemake_Stream_Next [.l l, .i a, .i n]) fun g => ∃ v, g = [.l l, .i (a + 1), .i v] ∧ 0 ≤ v ∧ v < n := by
  unfold F_pilemake_Stream_Next
  (dsimp +instances only [gi0,gis,row1,rows1,int1,str1,bool1])
  have ea : a + 1 - 1 = a := by omega
  simp only [ea]
  by_cases hl : l.length = 0
  · (repeat(first|(refine Ret.pos ?_ ?_;(first|rfl|assumption|(simp only [inI,sl]<;>omega)))|(refine Ret.neg ?_ ?_;(first|rfl|assumption|(simp only [inI,sl]<;>omega)))))
    refine Ret.call (r_Below _ n h0 h1) ?_
    rintro _ ⟨v, rfl, h2, h3⟩
    (dsimp +instances only [gi0,gis,row1,rows1,int1,str1,bool1])
    exact Ret.some ⟨v, rfl, h2, h3⟩
  · have hp : (0 : Int) < (l.length : Int) := by omega
    have d0 : 0 ≤ Int.tdiv a l.length := Int.tdiv_nonneg ha (by omega)
    have d1 : Int.tdiv a l.length ≤ a := by
      rw [Int.tdiv_eq_ediv_of_nonneg ha]
      exact Int.ediv_le_self _ ha
    have m0 : 0 ≤ Int.tmod a l.length := by
      rw [Int.tmod_eq_emod_of_nonneg ha]
      exact Int.emod_nonneg _ (by omega)
    have m1 : Int.tmod a l.length < l.length := Int.tmod_lt_of_pos a hp
    have m2 : Int.tmod a l.length ≤ a := by
      rw [Int.tmod_eq_emod_of_nonneg ha]
      have := Int.mul_ediv_add_emod a l.length
      have h4 : 0 ≤ (l.length : Int) * (a / l.length) := Int.mul_nonneg (by omega) (Int.ediv_nonneg ha (by omega))
      omega
    generalize hq : Int.tdiv a l.length = q at *
    generalize hr : Int.tmod a l.length = r at *
    have p0 : 0 ≤ q * (7919 + r) := Int.mul_nonneg d0 (by omega)
    have p1 : q * (7919 + r) ≤ 1000000 * 2000000 := Int.mul_le_mul (by omega) (by omega) (by omega) (by omega)
    generalize hz : q * (7919 + r) = z at *
    (repeat(first|(refine Ret.pos ?_ ?_;(first|rfl|assumption|(simp only [inI,sl]<;>omega)))|(refine Ret.neg ?_ ?_;(first|rfl|assumption|(simp only [inI,sl]<;>omega)))))
    refine Ret.call (r_Below _ 1073741824 (by omega) (by omega)) ?_
    rintro _ ⟨u, rfl, h2, h3⟩
    (dsimp +instances only [gi0,gis,row1,rows1,int1,str1,bool1])
    (repeat(first|(refine Ret.pos ?_ ?_;(first|rfl|assumption|(simp only [inI,sl]<;>omega)))|(refine Ret.neg ?_ ?_;(first|rfl|assumption|(simp only [inI,sl]<;>omega)))))
    refine Ret.call (r_Below _ n h0 h1) ?_
    rintro _ ⟨v, rfl, h4, h5⟩
    (dsimp +instances only [gi0,gis,row1,rows1,int1,str1,bool1])
    exact Ret.some ⟨v, rfl, h4, h5⟩
theorem r_Range (l : List (List G)) (a lo hi : Int) (ha : 0 ≤ a) (ha1 : a ≤ 1000000) (h0 : lo ≤ hi) (h1 : -1000000000 ≤ lo) (h2 : hi ≤ 1000000000) :
    Ret (F_pilemake_Stream_Range [.l l, .i a, .i lo, .i hi]) fun g => ∃ v, g = [.l l, .i (a + 1), .i v] ∧ lo ≤ v ∧ v ≤ hi := by
  unfold F_pilemake_Stream_Range
  (dsimp +instances only [gi0,gis,row1,rows1,int1,str1,bool1])
  (repeat(first|(refine Ret.pos ?_ ?_;(first|rfl|assumption|(simp only [inI,sl]<;>omega)))|(refine Ret.neg ?_ ?_;(first|rfl|assumption|(simp only [inI,sl]<;>omega)))))
  refine Ret.call (r_Next l a _ ha ha1 (by omega) (by omega)) ?_
  rintro _ ⟨v, rfl, h3, h4⟩
  (dsimp +instances only [gi0,gis,row1,rows1,int1,str1,bool1])
  (repeat(first|(refine Ret.pos ?_ ?_;(first|rfl|assumption|(simp only [inI,sl]<;>omega)))|(refine Ret.neg ?_ ?_;(first|rfl|assumption|(simp only [inI,sl]<;>omega)))))
  exact Ret.some ⟨_, rfl, by omega, by omega⟩
theorem getD_mem' {l : List (List G)} {v : Int} (h0 : 0 ≤ v) (h1 : v < l.length) : l.getD v.toNat [] ∈ l := by
  have : v.toNat < l.length := by omega
  rw [List.getD_eq_getElem?_getD, List.getElem?_eq_getElem this]
  exact List.getElem_mem this
theorem r_Pick (P : Int → Prop) (l : List (List G)) (a : Int) (xs : List (List G)) (ha : 0 ≤ a) (ha1 : a ≤ 1000000) (h0 : 1 ≤ xs.length) (h1 : xs.length ≤ 1000000) (hP : ∀ x ∈ xs, P (gi x 0).int) :
    Ret (F_pilemake_Stream_Pick [.l l, .i a, .l xs]) fun g => ∃ v, g = [.l l, .i (a + 1), .i v] ∧ P v := by
  unfold F_pilemake_Stream_Pick
  (dsimp +instances only [gi0,gis,row1,rows1,int1,str1,bool1])
  refine Ret.call (r_Next l a _ ha ha1 (by omega) (by omega)) ?_
  rintro _ ⟨v, rfl, h3, h4⟩
  (dsimp +instances only [gi0,gis,row1,rows1,int1,str1,bool1])
  (repeat(first|(refine Ret.pos ?_ ?_;(first|rfl|assumption|(simp only [inI,sl]<;>omega)))|(refine Ret.neg ?_ ?_;(first|rfl|assumption|(simp only [inI,sl]<;>omega)))))
  exact Ret.some ⟨_, rfl, hP _ (getD_mem' h3 h4)⟩
theorem r_Some (P : ByteArray → Prop) (l : List (List G)) (a : Int) (xs : List (List G)) (ha : 0 ≤ a) (ha1 : a ≤ 1000000) (h0 : 1 ≤ xs.length) (h1 : xs.length ≤ 1000000) (hP : ∀ x ∈ xs, P (gi x 0).str) :
    Ret (F_pilemake_Stream_Some [.l l, .i a, .l xs]) fun g => ∃ v, g = [.l l, .i (a + 1), .s v] ∧ P v := by
  unfold F_pilemake_Stream_Some
  (dsimp +instances only [gi0,gis,row1,rows1,int1,str1,bool1])
  refine Ret.call (r_Next l a _ ha ha1 (by omega) (by omega)) ?_
  rintro _ ⟨v, rfl, h3, h4⟩
  (dsimp +instances only [gi0,gis,row1,rows1,int1,str1,bool1])
  (repeat(first|(refine Ret.pos ?_ ?_;(first|rfl|assumption|(simp only [inI,sl]<;>omega)))|(refine Ret.neg ?_ ?_;(first|rfl|assumption|(simp only [inI,sl]<;>omega)))))
  exact Ret.some ⟨_, rfl, hP _ (getD_mem' h3 h4)⟩
theorem r_Flip (l : List (List G)) (a n : Int) (ha : 0 ≤ a) (ha1 : a ≤ 1000000) (h0 : 1 ≤ n) (h1 : n ≤ 1000000) :
    Ret (F_pilemake_Stream_Flip [.l l, .i a, .i n]) fun g => ∃ b, g = [.l l, .i (a + 1), .t b] := by
  unfold F_pilemake_Stream_Flip
  (dsimp +instances only [gi0,gis,row1,rows1,int1,str1,bool1])
  refine Ret.call (r_Next l a _ ha ha1 (by omega) (by omega)) ?_
  rintro _ ⟨v, rfl, h3, h4⟩
  exact Ret.some ⟨_, rfl⟩
theorem r_Odd (l : List (List G)) (a lo hi : Int) (ha : 0 ≤ a) (ha1 : a ≤ 900000) (h0 : lo ≤ hi) (h1 : -1000000000 ≤ lo) (h2 : hi ≤ 1000000000) :
    Ret (F_pilemake_Stream_Odd [.l l, .i a, .i lo, .i hi]) fun g => ∃ v, g = [.l l, .i (a + 2), .i v] ∧ -1099511627776 ≤ v ∧ (v ≤ 1000000001 ∨ v = 1099511627776) := by
  unfold F_pilemake_Stream_Odd
  (dsimp +instances only [gi0,gis,row1,rows1,int1,str1,bool1])
  have e2 : a + 1 + 1 = a + 2 := by omega
  refine Ret.call (r_Flip l a 12 ha (by omega) (by omega) (by omega)) ?_
  rintro _ ⟨b, rfl⟩
  (dsimp +instances only [gi0,gis,row1,rows1,int1,str1,bool1])
  cases b with
  | true =>
    (repeat(first|(refine Ret.pos ?_ ?_;(first|rfl|assumption|(simp only [inI,sl]<;>omega)))|(refine Ret.neg ?_ ?_;(first|rfl|assumption|(simp only [inI,sl]<;>omega)))))
    refine Ret.call (r_Pick (fun v => -1099511627776 ≤ v ∧ (v ≤ 1000000001 ∨ v = 1099511627776)) l (a + 1) _ (by omega) (by omega) (by simp) (by simp) ?_) ?_
    · intro x hx
      simp only [List.mem_cons, List.not_mem_nil, or_false] at hx
      rcases hx with rfl | rfl | rfl | rfl | rfl | rfl <;> (dsimp +instances only [gi0,gis,row1,rows1,int1,str1,bool1]) <;> omega
    · rintro _ ⟨v, rfl, h3, h4⟩
      (dsimp +instances only [gi0,gis,row1,rows1,int1,str1,bool1])
      exact Ret.some ⟨v, by rw [e2], h3, h4⟩
  | false =>
    (repeat(first|(refine Ret.pos ?_ ?_;(first|rfl|assumption|(simp only [inI,sl]<;>omega)))|(refine Ret.neg ?_ ?_;(first|rfl|assumption|(simp only [inI,sl]<;>omega)))))
    refine Ret.call (r_Range l (a + 1) lo hi (by omega) (by omega) h0 h1 h2) ?_
    rintro _ ⟨v, rfl, h3, h4⟩
    (dsimp +instances only [gi0,gis,row1,rows1,int1,str1,bool1])
    exact Ret.some ⟨v, by rw [e2], by omega, by omega⟩
end
end Go.Proofs.SYthnhleemkjpigaaGreatDoor

namespace Go.Proofs.SYthnhleemkjpigaaGreatDoor
open Go Go.AL Go.Proofs
noncomputable section
def inL (L : List ByteArray) (s : ByteArray) : Bool := L.any fun x => eqS x s
theorem inL_mem {L : List ByteArray} {s : ByteArray} (h : inL L s = true) : s ∈ L := by
  obtain ⟨x, hx, he⟩ := List.any_eq_true.1 h
  exact eqS_eq he ▸ hx
theorem r_PickB (lo hi : Int) (l : List (List G)) (a : Int) (xs : List (List G)) (ha : 0 ≤ a) (ha1 : a ≤ 1000000) (h0 : (Nat.ble 1 xs.length && Nat.ble xs.length 1000000) = true) (hP : (xs.all fun x => leI lo (gi x 0).int && leI (gi x 0).int hi) = true) :
    Ret (F_pilemake_Stream_Pick [.l l, .i a, .l xs]) fun g => ∃ v, g = [.l l, .i (a + 1), .i v] ∧ lo ≤ v ∧ v ≤ hi := by
  simp only [Bool.and_eq_true, Nat.ble_eq] at h0
  refine r_Pick (fun v => lo ≤ v ∧ v ≤ hi) l a xs ha ha1 h0.1 h0.2 fun x hx => ?_
  have := List.all_eq_true.1 hP x hx
  simpa only [leI_eq, Bool.and_eq_true, decide_eq_true_eq] using this
theorem r_SomeB (L : List ByteArray) (l : List (List G)) (a : Int) (xs : List (List G)) (ha : 0 ≤ a) (ha1 : a ≤ 1000000) (h0 : (Nat.ble 1 xs.length && Nat.ble xs.length 1000000) = true) (hP : (xs.all fun x => inL L (gi x 0).str) = true) :
    Ret (F_pilemake_Stream_Some [.l l, .i a, .l xs]) fun g => ∃ v, g = [.l l, .i (a + 1), .s v] ∧ v ∈ L := by
  simp only [Bool.and_eq_true, Nat.ble_eq] at h0
  exact r_Some (fun v => v ∈ L) l a xs ha ha1 h0.1 h0.2 fun x hx => inL_mem (List.all_eq_true.1 hP x hx)
def calls : List ByteArray := [⟨#[]⟩, ⟨#[107, 49]⟩, ⟨#[75, 49, 65, 66]⟩, ⟨#[107, 49, 97, 98, 47]⟩, ⟨#[49, 97]⟩, ⟨#[107, 49, 97, 98, 47, 109, 109, 47, 112]⟩, ⟨#[107, 49, 97, 98]⟩, ⟨#[107, 49, 97, 97]⟩, ⟨#[107, 49, 97, 98, 47, 52]⟩,
  ⟨#[111, 104, 50, 97, 98, 99]⟩, ⟨#[111, 104, 50, 97, 98, 100]⟩, ⟨#[119, 49, 97, 119]⟩, ⟨#[110, 49, 109, 109]⟩, ⟨#[103, 51, 120, 121, 122, 47, 112]⟩]
def bands : List ByteArray := [⟨#[]⟩, ⟨#[66]⟩, ⟨#[98, 50, 48]⟩, ⟨#[98, 52, 48]⟩]
def names : List ByteArray := [⟨#[]⟩, ⟨#[65]⟩, ⟨#[49]⟩, ⟨#[102, 105, 110]⟩, ⟨#[117, 115, 97]⟩]
def small (n : Int) : Prop := -2000000000000 ≤ n ∧ n ≤ 2000000000000
def Con (r : List G) : Prop := ∃ (t m : Int) (b c : ByteArray) (s h : Int) (x y : ByteArray), r = [.i t, .i m, .s b, .s c, .i s, .i h, .s x, .s y] ∧ small t ∧ small m ∧ small s ∧ small h ∧ b ∈ bands ∧ c ∈ calls ∧ x ∈ names ∧ y ∈ names
def tight (n : Int) : Prop := -1900000000000 ≤ n ∧ n ≤ 1900000000000
def tightT (n : Int) : Prop := -1900000000000 ≤ n ∧ (n ≤ 345000000000 ∨ (345686399999 < n ∧ n ≤ 1900000000000))
def ConT (r : List G) : Prop := ∃ (t m : Int) (b c : ByteArray) (s h : Int) (x y : ByteArray), r = [.i t, .i m, .s b, .s c, .i s, .i h, .s x, .s y] ∧ tightT t ∧ tight m ∧ tight s ∧ tight h ∧ b ∈ bands ∧ c ∈ calls ∧ x ∈ names ∧ y ∈ names
theorem tight.to {n : Int} (h : tight n) : small n := ⟨by have := h.1; omega, by have := h.2; omega⟩
theorem tightT.to {n : Int} (h : tightT n) : small n := by
  unfold tightT at h
  exact ⟨by omega, by omega⟩
theorem ConT.to {r : List G} (h : ConT r) : Con r := by
  obtain ⟨t, m, b, c, s, h, x, y, e, h1, h2, h3, h4, h5⟩ := h
  exact ⟨t, m, b, c, s, h, x, y, e, h1.to, h2.to, h3.to, h4.to, h5⟩
theorem Con.eta {r : List G} (h : Con r) : gEta KContact r = r := by
  obtain ⟨t, m, b, c, s, h, x, y, rfl, _⟩ := h
  rfl
theorem r_ACall (l : List (List G)) (a : Int) (ha : 0 ≤ a) (ha1 : a ≤ 900000) : Ret (F_pilemake_Stream_ACall [.l l, .i a]) fun g => ∃ v, g = [.l l, .i (a + 2), .s v] ∧ v ∈ calls := by
  unfold F_pilemake_Stream_ACall
  (dsimp +instances only [gi0,gis,row1,rows1,int1,str1,bool1])
  have e2 : a + 1 + 1 = a + 2 := by omega
  refine Ret.call (r_Flip l a 60 ha (by omega) (by omega) (by omega)) ?_
  rintro _ ⟨b, rfl⟩
  (dsimp +instances only [gi0,gis,row1,rows1,int1,str1,bool1])
  cases b with
  | true =>
    (repeat(first|(refine Ret.pos ?_ ?_;(first|rfl|assumption|(simp only [inI,sl]<;>omega)))|(refine Ret.neg ?_ ?_;(first|rfl|assumption|(simp only [inI,sl]<;>omega)))))
    refine Ret.call (r_SomeB calls l (a + 1) _ (by omega) (by omega) (by kernel_rfl) (by kernel_rfl)) ?_
    rintro _ ⟨v, rfl, h⟩
    exact Ret.some ⟨v, by (dsimp +instances only [gi0,gis,row1,rows1,int1,str1,bool1]); rw [e2], h⟩
  | false =>
    (repeat(first|(refine Ret.pos ?_ ?_;(first|rfl|assumption|(simp only [inI,sl]<;>omega)))|(refine Ret.neg ?_ ?_;(first|rfl|assumption|(simp only [inI,sl]<;>omega)))))
    refine Ret.call (r_SomeB calls l (a + 1) _ (by omega) (by omega) (by kernel_rfl) (by kernel_rfl)) ?_
    rintro _ ⟨v, rfl, h⟩
    exact Ret.some ⟨v, by (dsimp +instances only [gi0,gis,row1,rows1,int1,str1,bool1]); rw [e2], h⟩
end
end Go.Proofs.SYthnhleemkjpigaaGreatDoor

namespace Go.Proofs.SYthnhleemkjpigaaGreatDoor
open Go Go.AL Go.Proofs
noncomputable section
def cmpI (a b : Int) : Int := if a < b then -1 else if b < a then 1 else 0
theorem compareBytes_zero : ∀ {a b : List UInt8}, Lib.compareBytes a b = 0 → a = b
  | [], [], _ => rfl
  | [], _ :: _, h => by simp [Lib.compareBytes] at h
  | _ :: _, [], h => by simp [Lib.compareBytes] at h
  | x :: a, y :: b, h => by
    unfold Lib.compareBytes at h
    split at h
    · cases h
    · split at h
      · cases h
      · rename_i h1 h2
        rw [compareBytes_zero h, UInt8.le_antisymm (UInt8.not_lt.1 h2) (UInt8.not_lt.1 h1)]
theorem compareBytes_self : ∀ a : List UInt8, Lib.compareBytes a a = 0
  | [] => rfl
  | x :: a => by simp [Lib.compareBytes, compareBytes_self a]
theorem str_eq (a b : ByteArray) : (a.toList == b.toList) = decide (cmpS a b = 0) := by
  rw [ByteArray.toList_eq, ByteArray.toList_eq, Bool.eq_iff_iff, decide_eq_true_eq, beq_iff_eq]
  constructor
  · intro h
    unfold cmpS
    rw [h]
    exact compareBytes_self _
  · exact fun h => compareBytes_zero h
theorem cmpInt_eq (a b : Int) : F_cmp_Compare_int [.i a, .i b] = some [.i (cmpI a b)] := by
  refine Ret.toEq ?_
  unfold F_cmp_Compare_int F_cmp_isNaN_int cmpI
  (dsimp +instances only [gi0,gis,row1,rows1,int1,str1,bool1])
  simp only [bne_self_eq_false]
  refine Ret.call ⟨_, rfl, rfl⟩ ?_
  rintro _ rfl
  refine Ret.call ⟨_, rfl, rfl⟩ ?_
  rintro _ rfl
  (dsimp +instances only [gi0,gis,row1,rows1,int1,str1,bool1])
  (repeat(first|(refine Ret.pos ?_ ?_;(first|rfl|assumption|(simp only [inI,sl]<;>omega)))|(refine Ret.neg ?_ ?_;(first|rfl|assumption|(simp only [inI,sl]<;>omega)))))
  by_cases h1 : a < b
  · (repeat(first|(refine Ret.pos ?_ ?_;(first|rfl|assumption|(simp only [inI,sl]<;>omega)))|(refine Ret.neg ?_ ?_;(first|rfl|assumption|(simp only [inI,sl]<;>omega)))))
    exact Ret.some (by simp [h1])
  · by_cases h2 : b < a
    · (repeat(first|(refine Ret.pos ?_ ?_;(first|rfl|assumption|(simp only [inI,sl]<;>omega)))|(refine Ret.neg ?_ ?_;(first|rfl|assumption|(simp only [inI,sl]<;>omega)))))
      exact Ret.some (by simp [h1, h2])
    · (repeat(first|(refine Ret.pos ?_ ?_;(first|rfl|assumption|(simp only [inI,sl]<;>omega)))|(refine Ret.neg ?_ ?_;(first|rfl|assumption|(simp only [inI,sl]<;>omega)))))
      exact Ret.some (by simp [h1, h2])
def orL : List (List G) → Int
  | [] => 0
  | x :: q => if (gi x 0).int ≠ 0 then (gi x 0).int else orL q
theorem or_runs : ∀ (q p : List (List G)), p.length + q.length < 100000 →
    RetN st_cmp_Or_int_3 [.i 0, .l (p ++ q), .i ((p.length + q.length : Nat) : Int), .i (p.length : Int)] (q.length + 1) fun c g => c ≤ 1 ∧ g = [.i (orL q)]
  | [], p, hl => by
    refine RetN.stop (x := 1) (Ret.toEq ?_) ⟨by omega, rfl⟩
    unfold st_cmp_Or_int_3
    (dsimp +instances only [gi0,gis,row1,rows1,int1,str1,bool1])
    (repeat(first|(refine Ret.pos ?_ ?_;(first|rfl|assumption|(simp only [inI,sl]<;>omega)))|(refine Ret.neg ?_ ?_;(first|rfl|assumption|(simp only [inI,sl]<;>omega)))))
    exact Ret.some rfl
  | y :: q, p, hl => by
    simp only [List.length_cons] at hl
    have g1 : (p ++ y :: q).getD (p.length : Int).toNat [] = y := getD_mid _ _ _ _ _ (by simp)
    have hlen : (p ++ y :: q).length = p.length + q.length + 1 := by simp; omega
    by_cases he : (gi y 0).int = 0
    · have ih := or_runs q (p ++ [y]) (by simp; omega)
      have e : orL (y :: q) = orL q := by simp [orL, he]
      rw [e]
      refine RetN.next (Ret.toEq ?_) ih
      unfold st_cmp_Or_int_3
      (dsimp +instances only [gi0,gis,row1,rows1,int1,str1,bool1])
      simp only [g1, hlen, List.length_cons]
      (repeat(first|(refine Ret.pos ?_ ?_;(first|rfl|assumption|(simp only [inI,sl]<;>omega)))|(refine Ret.neg ?_ ?_;(first|rfl|assumption|(simp only [inI,sl]<;>omega)))))
      refine Ret.some ?_
      simp
      omega
    · refine RetN.stop (x := 0) (Ret.toEq ?_) ⟨by omega, rfl⟩
      unfold st_cmp_Or_int_3
      (dsimp +instances only [gi0,gis,row1,rows1,int1,str1,bool1])
      simp only [g1, hlen, List.length_cons]
      (repeat(first|(refine Ret.pos ?_ ?_;(first|rfl|assumption|(simp only [inI,sl]<;>omega)))|(refine Ret.neg ?_ ?_;(first|rfl|assumption|(simp only [inI,sl]<;>omega)))))
      refine Ret.some ?_
      simp [orL, he]
end
end Go.Proofs.SYthnhleemkjpigaaGreatDoor

namespace Go.Proofs.SYthnhleemkjpigaaGreatDoor
open Go Go.AL Go.Proofs
noncomputable section
def inB (v lo hi : Int) : Bool := leI lo v && leI v hi
theorem in_eq (v lo hi : Int) : F_pileref2_in [.i v, .i lo, .i hi] = some [.t (inB v lo hi)] := by
  unfold F_pileref2_in inB
  (dsimp +instances only [gi0,gis,row1,rows1,int1,str1,bool1])
  cases leI lo v <;> rfl
theorem outside_eq (v lo hi : Int) : F_kit_Outside [.i v, .i lo, .i hi] = some [.t (!inB v lo hi)] := by
  unfold F_kit_Outside inB
  (dsimp +instances only [gi0,gis,row1,rows1,int1,str1,bool1])
  have h1 : ltI v lo = !leI lo v := by rw [ltI_eq, leI_eq, Bool.eq_iff_iff]; simp
  have h2 : ltI hi v = !leI v hi := by rw [ltI_eq, leI_eq, Bool.eq_iff_iff]; simp
  rw [h1, h2]
  cases leI lo v <;> cases leI v hi <;> rfl
def okKey (s : ByteArray) : Bool := inL [⟨#[98, 50, 48]⟩, ⟨#[98, 52, 48]⟩, ⟨#[102, 105, 110]⟩, ⟨#[117, 115, 97]⟩] s
def okCall (s : ByteArray) : Bool := (gi ((F_call_Is [.s s]).getD []) 0).bool
theorem isKey_eq {s : ByteArray} (h : s ∈ bands ∨ s ∈ names) : F_kit_IsKey [.s s] = some [.t (okKey s)] := by
  simp only [bands, names, List.mem_cons, List.not_mem_nil, or_false] at h
  rcases h with (rfl | rfl | rfl | rfl) | (rfl | rfl | rfl | rfl | rfl) <;> kernel_rfl
theorem key_eq {s : ByteArray} (h : s ∈ bands ∨ s ∈ names) : F_pileref2_Key [.s s] = some [.t (okKey s)] := by
  simp only [bands, names, List.mem_cons, List.not_mem_nil, or_false] at h
  rcases h with (rfl | rfl | rfl | rfl) | (rfl | rfl | rfl | rfl | rfl) <;> kernel_rfl
theorem isCall_eq {s : ByteArray} (h : s ∈ calls) : F_call_Is [.s s] = some [.t (okCall s)] := by
  simp only [calls, List.mem_cons, List.not_mem_nil, or_false] at h
  rcases h with (rfl | rfl | rfl | rfl | rfl | rfl | rfl | rfl | rfl | rfl | rfl | rfl | rfl | rfl) <;> kernel_rfl
theorem call_eq {s : ByteArray} (h : s ∈ calls) : F_pileref2_Call [.s s] = some [.t (okCall s)] := by
  simp only [calls, List.mem_cons, List.not_mem_nil, or_false] at h
  rcases h with (rfl | rfl | rfl | rfl | rfl | rfl | rfl | rfl | rfl | rfl | rfl | rfl | rfl | rfl) <;> kernel_rfl
end
end Go.Proofs.SYthnhleemkjpigaaGreatDoor

namespace Go.Proofs.SYthnhleemkjpigaaGreatDoor
open Go Go.AL Go.Proofs
noncomputable section
end
end Go.Proofs.SYthnhleemkjpigaaGreatDoor

namespace Go.Proofs.SYthnhleemkjpigaaGreatDoor
open Go Go.AL Go.Proofs
noncomputable section
def Row8 (r : List G) : Prop := ∃ (t m : Int) (b c : ByteArray) (s h : Int) (x y : ByteArray), r = [.i t, .i m, .s b, .s c, .i s, .i h, .s x, .s y]
theorem Con.row {r : List G} (h : Con r) : Row8 r := by
  obtain ⟨t, m, b, c, s, h, x, y, e, _⟩ := h
  exact ⟨t, m, b, c, s, h, x, y, e⟩
theorem Row8.eta {r : List G} (h : Row8 r) : gEta KContact r = r := by
  obtain ⟨t, m, b, c, s, h, x, y, rfl⟩ := h
  rfl
/-! ### Duplicates -/
def baseOf (s : ByteArray) : ByteArray := (gi ((F_call_BaseOf [.s s]).getD []) 0).str
theorem base_eq {s : ByteArray} (h : s ∈ calls) : F_call_BaseOf [.s s] = some [.s (baseOf s)] := by
  simp only [calls, List.mem_cons, List.not_mem_nil, or_false] at h
  rcases h with (rfl | rfl | rfl | rfl | rfl | rfl | rfl | rfl | rfl | rfl | rfl | rfl | rfl | rfl) <;> kernel_rfl
abbrev K3 : List Kd := [.str, .str, .int .i64]
end
end Go.Proofs.SYthnhleemkjpigaaGreatDoor

namespace Go.Proofs.SYthnhleemkjpigaaGreatDoor
open Go Go.AL Go.Proofs
noncomputable section
theorem bytes_flip' : ∀ a b : List UInt8, Lib.compareBytes b a = - Lib.compareBytes a b
  | [], [] => rfl
  | [], _ :: _ => rfl
  | _ :: _, [] => rfl
  | a :: xs, b :: ys => by
    simp only [Lib.compareBytes]
    have ih := bytes_flip' xs ys
    by_cases h1 : a < b
    · have h2 : ¬ b < a := fun h => UInt8.lt_irrefl a (UInt8.lt_trans h1 h)
      simp [h1, h2]
    · by_cases h2 : b < a
      · simp [h1, h2]
      · simp [h1, h2, ih]
theorem bytes_lt_trans' : ∀ {a b c : List UInt8}, Lib.compareBytes a b < 0 → Lib.compareBytes b c < 0 → Lib.compareBytes a c < 0
  | [], [], _, h, _ => by simp [Lib.compareBytes] at h
  | [], _ :: _, [], _, h => by simp [Lib.compareBytes] at h
  | [], _ :: _, _ :: _, _, _ => by simp [Lib.compareBytes]
  | _ :: _, [], _, h, _ => by simp [Lib.compareBytes] at h
  | _ :: _, _ :: _, [], _, h => by simp [Lib.compareBytes] at h
  | a :: xs, b :: ys, c :: zs, h1, h2 => by
    simp only [Lib.compareBytes] at h1 h2 ⊢
    by_cases hab : a < b
    · by_cases hbc : b < c
      · rw [if_pos (UInt8.lt_trans hab hbc)]
        omega
      · by_cases hcb : c < b
        · rw [if_neg hbc, if_pos hcb] at h2
          omega
        · have e : b = c := UInt8.le_antisymm (UInt8.not_lt.1 hcb) (UInt8.not_lt.1 hbc)
          subst e
          rw [if_pos hab]
          omega
    · by_cases hba : b < a
      · rw [if_neg hab, if_pos hba] at h1
        omega
      · have e : a = b := UInt8.le_antisymm (UInt8.not_lt.1 hba) (UInt8.not_lt.1 hab)
        subst e
        rw [if_neg (UInt8.lt_irrefl a), if_neg (UInt8.lt_irrefl a)] at h1
        by_cases hac : a < c
        · rw [if_pos hac]
          omega
        · by_cases hca : c < a
          · rw [if_neg hac, if_pos hca] at h2
            omega
          · rw [if_neg hac, if_neg hca] at h2 ⊢
            exact bytes_lt_trans' h1 h2
theorem str_ext {a b : ByteArray} (h : (a.toList == b.toList) = true) : a = b := by
  rw [ByteArray.toList_eq, ByteArray.toList_eq, beq_iff_eq] at h
  exact ByteArray.ext (Array.toList_inj.1 h)
theorem cmpS_z {a b : ByteArray} : cmpS a b = 0 ↔ a = b := by
  have h := str_eq a b
  constructor
  · intro e
    rw [decide_eq_true (p := cmpS a b = 0) e] at h
    exact str_ext h
  · rintro rfl
    have h2 : (a.toList == a.toList) = true := by simp
    rw [h2] at h
    exact of_decide_eq_true h.symm
theorem cmpI_z {a b : Int} : cmpI a b = 0 ↔ a = b := by
  unfold cmpI
  constructor
  · intro h
    split at h
    · omega
    · split at h <;> omega
  · rintro rfl
    simp
theorem cmpI_lt {a b : Int} : cmpI a b < 0 ↔ a < b := by
  unfold cmpI
  constructor
  · intro h
    split at h
    · assumption
    · split at h <;> omega
  · intro h
    rw [if_pos h]
    omega
structure Ordr {α : Type} (c : α → α → Int) : Prop where
  flip : ∀ a b, c b a = - c a b
  eq : ∀ a b, c a b = 0 → a = b
  tr : ∀ a b d, c a b < 0 → c b d < 0 → c a d < 0
theorem ordrI : Ordr cmpI := ⟨fun a b => by unfold cmpI; split <;> split <;> first | omega | (split <;> omega) | skip, fun a b h => cmpI_z.1 h, fun a b d h1 h2 => cmpI_lt.2 (Int.lt_trans (cmpI_lt.1 h1) (cmpI_lt.1 h2))⟩
theorem ordrS : Ordr cmpS := ⟨fun a b => bytes_flip' _ _, fun a b h => cmpS_z.1 h, fun a b d h1 h2 => bytes_lt_trans' h1 h2⟩
def or2 (a b : Int) : Int := if a ≠ 0 then a else b
theorem or2_lt {α : Type} {c : α → α → Int} (h : Ordr c) (a b d : α) (x y z : Int) (h1 : or2 (c a b) x < 0) (h2 : or2 (c b d) y < 0) (h3 : x < 0 → y < 0 → z < 0) : or2 (c a d) z < 0 := by
  unfold or2 at *
  by_cases e1 : c a b = 0
  · have e := h.eq a b e1
    subst e
    rw [if_neg (by simpa using e1)] at h1
    by_cases e2 : c a d = 0
    · rw [if_neg (by simpa using e2)] at h2 ⊢
      exact h3 h1 h2
    · rw [if_pos e2] at h2 ⊢
      exact h2
  · rw [if_pos e1] at h1
    by_cases e2 : c b d = 0
    · have e := h.eq b d e2
      subst e
      rw [if_pos e1]
      exact h1
    · rw [if_pos e2] at h2
      have := h.tr a b d (by omega) (by omega)
      rw [if_pos (by omega)]
      omega
/-! ### Lists that are checked row by row -/
def fw (step : Nat → Int) : Nat → Int
  | 0 => 0
  | i + 1 => if fw step i ≠ 0 then fw step i else step i
theorem fw_stays {step : Nat → Int} {i : Nat} (h : fw step i ≠ 0) : ∀ k, fw step (i + k) = fw step i
  | 0 => rfl
  | k + 1 => by
    have ih := fw_stays h k
    show (if fw step (i + k) ≠ 0 then fw step (i + k) else step (i + k)) = fw step i
    rw [ih, if_pos h]
theorem fw_zero {step : Nat → Int} : ∀ {n : Nat}, fw step n = 0 → ∀ i, i < n → step i = 0
  | 0, _, i, hi => by omega
  | n + 1, h, i, hi => by
    have h0 : fw step n = 0 := by
      refine Decidable.byContradiction fun hn => hn ?_
      have := fw_stays hn 1
      rw [← this]
      exact h
    have h' : (if fw step n ≠ 0 then fw step n else step n) = 0 := h
    rw [if_neg (by simpa using h0)] at h'
    rcases Nat.lt_or_ge i n with hlt | hge
    · exact fw_zero h0 i hlt
    · have : i = n := by omega
      rw [this]
      exact h'
theorem fw_loop {st : List G → Option (Option Nat × List G)} (mk : Nat → List G) (n : Nat) (step : Nat → Int) (gn : List G) (hn : n < 999999)
    (hstep : ∀ i, i < n → Ret (st (mk i)) fun o => (step i = 0 ∧ o = (none, mk (i + 1))) ∨ (step i ≠ 0 ∧ o = (some 0, [.i (step i)])))
    (hfin : Ret (st (mk n)) fun o => o = (some 1, gn)) :
    RetL st (mk 0) fun c g => (c = 1 ∧ fw step n = 0 ∧ g = gn) ∨ (c = 0 ∧ g = [.i (fw step n)] ∧ fw step n ≠ 0) := by
  refine ((count_runs (σ := Unit) (fun _ i => mk i) n (fun _ => (1, gn)) (fun _ i => fw step i = 0) (fun c g => c = 0 ∧ g = [.i (fw step n)] ∧ fw step n ≠ 0) ?_ (fun _ _ => hfin) n () 0 (by omega) rfl).to (by omega)).mono ?_
  · rintro _ i hI hi
    refine (hstep i hi).mono ?_
    rintro _ (⟨h0, rfl⟩ | ⟨h1, rfl⟩)
    · refine .inl ⟨(), rfl, ?_⟩
      show (if fw step i ≠ 0 then fw step i else step i) = 0
      rw [if_neg (by simpa using hI)]
      exact h0
    · have e : fw step (i + 1) = step i := by
        show (if fw step i ≠ 0 then fw step i else step i) = step i
        rw [if_neg (by simpa using hI)]
      have e2 : fw step n = step i := by
        have := fw_stays (step := step) (i := i + 1) (by rw [e]; exact h1) (n - (i + 1))
        rw [show i + 1 + (n - (i + 1)) = n by omega, e] at this
        exact this
      exact .inr ⟨0, _, rfl, rfl, by rw [e2], by rw [e2]; exact h1⟩
  · rintro c g (⟨_, h, rfl, rfl⟩ | h)
    · exact .inl ⟨rfl, h, rfl⟩
    · exact .inr h
end
end Go.Proofs.SYthnhleemkjpigaaGreatDoor

namespace Go.Proofs.SYthnhleemkjpigaaGreatDoor
open Go Go.AL Go.Proofs
noncomputable section
def cats : List ByteArray := [⟨#[97, 108, 108]⟩, ⟨#[99, 111, 100, 101]⟩, ⟨#[65]⟩]
def locs : List ByteArray := [⟨#[]⟩, ⟨#[107, 112, 50, 48, 108, 102]⟩, ⟨#[107, 112, 50, 48]⟩]
def Ent (r : List G) : Prop := ∃ (c k : ByteArray) (p : Int) (q : ByteArray), r = [.s c, .s k, .i p, .s q] ∧ c ∈ calls ∧ k ∈ cats ∧ -1099511627776 ≤ p ∧ p ≤ 1099511627776 ∧ q ∈ locs
theorem Ent.eta {r : List G} (h : Ent r) : gEta KEntrant r = r := by
  obtain ⟨c, k, p, q, rfl, _⟩ := h
  rfl
def two : List (List G) := [[.s (⟨#[97, 108, 108]⟩ : ByteArray)], [.s (⟨#[99, 111, 100, 101]⟩ : ByteArray)]]
/-! ### What is wrong with entrants -/
end
end Go.Proofs.SYthnhleemkjpigaaGreatDoor

namespace Go.Proofs.SYthnhleemkjpigaaGreatDoor
open Go Go.AL Go.Proofs
noncomputable section
def Crd (r : List G) : Prop := ∃ (t k m : Int) (c b : ByteArray), r = [.i t, .i k, .i m, .s c, .s b] ∧ small t ∧ small k ∧ small m ∧ c ∈ calls ∧ b ∈ bands
theorem Crd.eta {r : List G} (h : Crd r) : gEta KCard r = r := by
  obtain ⟨t, k, m, c, b, rfl, _⟩ := h
  rfl
theorem kdsK : Kds KCard Crd := ⟨fun _ h => h.eta⟩
def ordK (r s : List G) : Int := or2 (cmpI (gi r 0).int (gi s 0).int) (or2 (cmpS (gi r 3).str (gi s 3).str) (or2 (cmpS (gi r 4).str (gi s 4).str) (or2 (cmpI (gi r 2).int (gi s 2).int) (cmpI (gi r 1).int (gi s 1).int))))
theorem ordK_lt (a b d : List G) (h1 : ordK a b < 0) (h2 : ordK b d < 0) : ordK a d < 0 :=
  or2_lt ordrI _ _ _ _ _ _ h1 h2 fun g1 g2 => or2_lt ordrS _ _ _ _ _ _ g1 g2 fun k1 k2 => or2_lt ordrS _ _ _ _ _ _ k1 k2 fun m1 m2 => or2_lt ordrI _ _ _ _ _ _ m1 m2 fun n1 n2 => ordrI.tr _ _ _ n1 n2
theorem ordK_at {r s : List G} (h : ordK r s ≤ 0) : (gi r 0).int ≤ (gi s 0).int := by
  refine Int.not_lt.1 fun hlt => ?_
  have e : cmpI (gi r 0).int (gi s 0).int = 1 := by
    unfold cmpI
    rw [if_neg (by omega), if_pos hlt]
  unfold ordK or2 at h
  rw [e] at h
  simp at h
theorem sign_ok (a b : Int) : F_pileref2_sign [.i (a - b)] = some [.i (cmpI a b)] := by
  refine Ret.toEq ?_
  unfold F_pileref2_sign cmpI
  (dsimp +instances only [gi0,gis,row1,rows1,int1,str1,bool1])
  by_cases h1 : a < b
  · (repeat(first|(refine Ret.pos ?_ ?_;(first|rfl|assumption|(simp only [inI,sl]<;>omega)))|(refine Ret.neg ?_ ?_;(first|rfl|assumption|(simp only [inI,sl]<;>omega)))))
    exact Ret.some (by simp [h1])
  · by_cases h2 : b < a
    · (repeat(first|(refine Ret.pos ?_ ?_;(first|rfl|assumption|(simp only [inI,sl]<;>omega)))|(refine Ret.neg ?_ ?_;(first|rfl|assumption|(simp only [inI,sl]<;>omega)))))
      exact Ret.some (by simp [h1, h2])
    · (repeat(first|(refine Ret.pos ?_ ?_;(first|rfl|assumption|(simp only [inI,sl]<;>omega)))|(refine Ret.neg ?_ ?_;(first|rfl|assumption|(simp only [inI,sl]<;>omega)))))
      exact Ret.some (by simp [h1, h2])
theorem cardOrder_eq {r s : List G} (hr : Crd r) (hs : Crd s) : F_pileref2_CardOrder [.l [r], .l [s]] = some [.i (ordK r s)] := by
  obtain ⟨t, k, m, c, b, rfl, ht, hk, hm, _⟩ := hr
  obtain ⟨t', k', m', c', b', rfl, ht', hk', hm', _⟩ := hs
  unfold small at *
  refine Ret.toEq ?_
  unfold F_pileref2_CardOrder
  (dsimp +instances only [gi0,gis,row1,rows1,int1,str1,bool1])
  have eo : ordK [.i t, .i k, .i m, .s c, .s b] [.i t', .i k', .i m', .s c', .s b'] = or2 (cmpI t t') (or2 (cmpS c c') (or2 (cmpS b b') (or2 (cmpI m m') (cmpI k k')))) := rfl
  rw [eo]
  simp only [str_eq]
  unfold or2
  by_cases e1 : t = t'
  · subst e1
    have z : cmpI t t = 0 := cmpI_z.2 rfl
    simp only [z]
    refine Ret.neg (by simp) ?_
    by_cases e2 : cmpS c c' = 0
    · simp only [e2]
      refine Ret.neg (by simp) ?_
      by_cases e3 : cmpS b b' = 0
      · simp only [e3]
        refine Ret.neg (by simp) ?_
        by_cases e4 : m = m'
        · subst e4
          have z : cmpI m m = 0 := cmpI_z.2 rfl
          simp only [z]
          refine Ret.neg (by simp) ?_
          refine Ret.pos (by (first|rfl|assumption|(simp only [inI,sl]<;>omega))) ?_
          refine Ret.call (Ret.eq (sign_ok k k')) ?_
          rintro _ rfl
          exact Ret.some (by simp [gi, G.int])
        · have z : ¬ cmpI m m' = 0 := fun h => e4 (cmpI_z.1 h)
          refine Ret.pos (by simpa using e4) ?_
          refine Ret.pos (by (first|rfl|assumption|(simp only [inI,sl]<;>omega))) ?_
          refine Ret.call (Ret.eq (sign_ok m m')) ?_
          rintro _ rfl
          exact Ret.some (by simp [gi, G.int, z])
      · refine Ret.pos (by simpa using e3) (Ret.call (Ret.eq (rfl : F_strings_Compare [.s b, .s b'] = some [.i (cmpS b b')])) ?_)
        rintro _ rfl
        exact Ret.some (by simp [gi, G.int, G.str, e3])
    · refine Ret.pos (by simpa using e2) (Ret.call (Ret.eq (rfl : F_strings_Compare [.s c, .s c'] = some [.i (cmpS c c')])) ?_)
      rintro _ rfl
      exact Ret.some (by simp [gi, G.int, G.str, e2])
  · have z : ¬ cmpI t t' = 0 := fun h => e1 (cmpI_z.1 h)
    refine Ret.pos (by simpa using e1) ?_
    refine Ret.pos (by (first|rfl|assumption|(simp only [inI,sl]<;>omega))) ?_
    refine Ret.call (Ret.eq (sign_ok t t')) ?_
    rintro _ rfl
    exact Ret.some (by simp [gi, G.int, z])
theorem or_five (a b c d e : Int) : F_cmp_Or_int [.l [[.i a], [.i b], [.i c], [.i d], [.i e]]] = some [.i (or2 a (or2 b (or2 c (or2 d e))))] := by
  refine Ret.toEq ?_
  unfold F_cmp_Or_int
  (dsimp +instances only [gi0,gis,row1,rows1,int1,str1,bool1])
  have h := or_runs [[.i a], [.i b], [.i c], [.i d], [.i e]] [] (by simp)
  refine Ret.loop (h.to (by simp)) (by (first|rfl|assumption|(simp only [inI,sl]<;>omega))) ?_
  rintro x g ⟨hx, rfl⟩
  have q : orL [[.i a], [.i b], [.i c], [.i d], [.i e]] = or2 a (or2 b (or2 c (or2 d e))) := by
    simp only [orL, or2]
    (dsimp +instances only [gi0,gis,row1,rows1,int1,str1,bool1])
    by_cases h1 : a = 0 <;> by_cases h2 : b = 0 <;> by_cases h3 : c = 0 <;> by_cases h4 : d = 0 <;> by_cases h5 : e = 0 <;> simp [h1, h2, h3, h4, h5]
  rw [q]
  (dsimp +instances only [gi0,gis,row1,rows1,int1,str1,bool1])
  exact Ret.test (fun _ => Ret.some rfl) fun _ => Ret.some rfl
theorem compareCards_eq (r s : List G) : F_club_compareCards [.l [r], .l [s]] = some [.i (ordK r s)] := by
  refine Ret.toEq ?_
  unfold F_club_compareCards ordK
  (dsimp +instances only [gi0,gis,row1,rows1,int1,str1,bool1])
  refine Ret.call (Ret.eq (cmpInt_eq _ _)) ?_
  rintro _ rfl
  refine Ret.call (Ret.eq (rfl : F_strings_Compare [.s (gi r 3).str, .s (gi s 3).str] = some [.i (cmpS (gi r 3).str (gi s 3).str)])) ?_
  rintro _ rfl
  refine Ret.call (Ret.eq (rfl : F_strings_Compare [.s (gi r 4).str, .s (gi s 4).str] = some [.i (cmpS (gi r 4).str (gi s 4).str)])) ?_
  rintro _ rfl
  refine Ret.call (Ret.eq (cmpInt_eq _ _)) ?_
  rintro _ rfl
  refine Ret.call (Ret.eq (cmpInt_eq _ _)) ?_
  rintro _ rfl
  (dsimp +instances only [gi0,gis,row1,rows1,int1,str1,bool1])
  refine Ret.call (Ret.eq (or_five _ _ _ _ _)) ?_
  rintro _ rfl
  exact Ret.some rfl
theorem cmpCardOrder : Cmp KCard F_pileref2_CardOrder Crd ordK := ⟨fun _ _ hr hs => cardOrder_eq hr hs, fun _ h => h.eta⟩
def zK : List G := [.i 0, .i 0, .i 0, .s (⟨#[]⟩ : ByteArray), .s (⟨#[]⟩ : ByteArray)]
theorem loop_Cards (l : List (List G)) (n : Nat) (hn : n ≤ 20) : ∀ (k i : Nat) (a t : Int) (acc : List (List G)), i + k = n → 0 ≤ a → a ≤ 800000 → 0 ≤ t → t ≤ 20 * (i : Int) → a + 20 * (k : Int) ≤ 800000 → (∀ z ∈ acc, Crd z) → acc.length = i →
    RetN st_pilemake_Stream_Cards_4 [.l l, .i a, .l acc, .i t, .i (n : Int), .i (i : Int)] (k + 1) fun c g => c = 0 ∧ ∃ b rows, g = [.l l, .i b, .l rows] ∧ a ≤ b ∧ b ≤ a + 20 * k ∧ (∀ z ∈ rows, Crd z) ∧ rows.length = n
  | 0, i, a, t, acc, hi, ha, ha1, ht, ht1, hb, hQ, hl => by
    refine RetN.stop (x := 0) (Ret.toEq ?_) ⟨rfl, a, acc, rfl, by omega, by omega, hQ, by omega⟩
    unfold st_pilemake_Stream_Cards_4
    (dsimp +instances only [gi0,gis,row1,rows1,int1,str1,bool1])
    (repeat(first|(refine Ret.pos ?_ ?_;(first|rfl|assumption|(simp only [inI,sl]<;>omega)))|(refine Ret.neg ?_ ?_;(first|rfl|assumption|(simp only [inI,sl]<;>omega)))))
    exact Ret.some rfl
  | k + 1, i, a, t, acc, hi, ha, ha1, ht, ht1, hb, hQ, hl => by
    have key : Ret (st_pilemake_Stream_Cards_4 [.l l, .i a, .l acc, .i t, .i (n : Int), .i (i : Int)]) fun o => ∃ b r v, o = (none, [.l l, .i b, .l (acc ++ [r]), .i (t + v), .i (n : Int), .i ((i : Int) + 1)]) ∧ a ≤ b ∧ b ≤ a + 20 ∧ Crd r ∧ 0 ≤ v ∧ v ≤ 20 := by
      unfold st_pilemake_Stream_Cards_4
      (dsimp +instances only [gi0,gis,row1,rows1,int1,str1,bool1])
      refine Ret.pos (by (first|rfl|assumption|(simp only [inI,sl]<;>omega))) ?_
      refine Ret.call (r_PickB 0 20 l a _ ha (by omega) (by kernel_rfl) (by kernel_rfl)) ?_
      rintro _ ⟨v, rfl, hv0, hv1⟩
      (dsimp +instances only [gi0,gis,row1,rows1,int1,str1,bool1])
      refine Ret.pos (by (first|rfl|assumption|(simp only [inI,sl]<;>omega))) ?_
      refine Ret.call (r_PickB 1 3 l _ _ (by omega) (by omega) (by kernel_rfl) (by kernel_rfl)) ?_
      rintro _ ⟨kd, rfl, hk0, hk1⟩
      (dsimp +instances only [gi0,gis,row1,rows1,int1,str1,bool1])
      refine Ret.call (r_PickB 1 3 l _ _ (by omega) (by omega) (by kernel_rfl) (by kernel_rfl)) ?_
      rintro _ ⟨m, rfl, hm0, hm1⟩
      (dsimp +instances only [gi0,gis,row1,rows1,int1,str1,bool1])
      refine Ret.call (r_ACall l _ (by omega) (by omega)) ?_
      rintro _ ⟨c, rfl, hc⟩
      (dsimp +instances only [gi0,gis,row1,rows1,int1,str1,bool1])
      refine Ret.call (r_SomeB bands l _ _ (by omega) (by omega) (by kernel_rfl) (by kernel_rfl)) ?_
      rintro _ ⟨bd, rfl, hbd⟩
      (dsimp +instances only [gi0,gis,row1,rows1,int1,str1,bool1])
      refine Ret.call (r_Flip l _ 100 (by omega) (by omega) (by omega) (by omega)) ?_
      rintro _ ⟨f, rfl⟩
      (dsimp +instances only [gi0,gis,row1,rows1,int1,str1,bool1])
      cases f with
      | false =>
        (repeat(first|(refine Ret.pos ?_ ?_;(first|rfl|assumption|(simp only [inI,sl]<;>omega)))|(refine Ret.neg ?_ ?_;(first|rfl|assumption|(simp only [inI,sl]<;>omega)))))
        exact Ret.some ⟨_, _, v, rfl, by omega, by omega, ⟨_, _, _, _, _, rfl, ⟨by omega, by omega⟩, ⟨by omega, by omega⟩, ⟨by omega, by omega⟩, hc, hbd⟩, hv0, hv1⟩
      | true =>
        refine Ret.pos rfl ?_
        refine Ret.call (r_Odd l _ 0 50 (by omega) (by omega) (by omega) (by omega) (by omega)) ?_
        rintro _ ⟨t', rfl, ht'⟩
        (dsimp +instances only [gi0,gis,row1,rows1,int1,str1,bool1])
        refine Ret.call (r_Odd l _ 1 3 (by omega) (by omega) (by omega) (by omega) (by omega)) ?_
        rintro _ ⟨k', rfl, hk'⟩
        (dsimp +instances only [gi0,gis,row1,rows1,int1,str1,bool1])
        refine Ret.call (r_Odd l _ 1 3 (by omega) (by omega) (by omega) (by omega) (by omega)) ?_
        rintro _ ⟨m', rfl, hm'⟩
        (dsimp +instances only [gi0,gis,row1,rows1,int1,str1,bool1])
        refine Ret.call (r_SomeB bands l _ _ (by omega) (by omega) (by kernel_rfl) (by kernel_rfl)) ?_
        rintro _ ⟨b', rfl, hb'⟩
        (dsimp +instances only [gi0,gis,row1,rows1,int1,str1,bool1])
        (repeat(first|(refine Ret.pos ?_ ?_;(first|rfl|assumption|(simp only [inI,sl]<;>omega)))|(refine Ret.neg ?_ ?_;(first|rfl|assumption|(simp only [inI,sl]<;>omega)))))
        exact Ret.some ⟨_, _, v, rfl, by omega, by omega, ⟨_, _, _, _, _, rfl, ⟨by omega, by omega⟩, ⟨by omega, by omega⟩, ⟨by omega, by omega⟩, hc, hb'⟩, hv0, hv1⟩
    obtain ⟨_, h, b, r, v, rfl, h1, h2, h3, h4, h5⟩ := key
    have ih := loop_Cards l n hn k (i + 1) b (t + v) (acc ++ [r]) (by omega) (by omega) (by omega) (by omega) (by omega) (by omega) (by
      intro z hz
      rcases List.mem_append.1 hz with hz | hz
      · exact hQ z hz
      · simp at hz; exact hz ▸ h3) (by simp [hl])
    refine RetN.next h (ih.mono ?_)
    rintro c g ⟨rfl, b', rows, rfl, q1, q2, q3, q4⟩
    exact ⟨rfl, b', rows, rfl, by omega, by omega, q3, q4⟩
theorem sortCardOrder_eq (rows : List (List G)) (hr : ∀ y ∈ rows, Crd y) (hn : rows.length ≤ 20) : F_slices_SortStableFunc_Card [.l rows] = some [.l (sortA (ltC ordK) rows)] :=
  sortF_eq cmpCardOrder rows hr hn
theorem r_Cards (l : List (List G)) (a n : Int) (ha : 0 ≤ a) (ha1 : a ≤ 700000) (h0 : 0 ≤ n) (h1 : n ≤ 20) :
    Ret (F_pilemake_Stream_Cards [.l l, .i a, .i n]) fun g => ∃ b rows, g = [.l l, .i b, .l rows] ∧ a ≤ b ∧ b ≤ a + 400 ∧ (∀ z ∈ rows, Crd z) ∧ (rows.length : Int) ≤ n := by
  obtain ⟨n, rfl⟩ := Int.eq_ofNat_of_zero_le h0
  unfold F_pilemake_Stream_Cards
  (dsimp +instances only [gi0,gis,row1,rows1,int1,str1,bool1])
  refine Ret.loop ((loop_Cards l n (by omega) n 0 a 0 [] (by omega) ha (by omega) (by omega) (by omega) (by omega) (by simp) rfl).to (by omega)) rfl ?_
  rintro c g ⟨rfl, b, rows, rfl, q1, q2, q3, q4⟩
  (dsimp +instances only [gi0,gis,row1,rows1,int1,str1,bool1])
  have hs := sortA_all (lt := ltC ordK) q3
  have hsl := sortA_length (ltC ordK) rows
  refine Ret.callb (Ret.eq (sortCardOrder_eq rows q3 (by omega))) (by (first|rfl|assumption|(simp only [inI,sl]<;>omega))) ?_
  rintro _ rfl
  (dsimp +instances only [gi0,gis,row1,rows1,int1,str1,bool1])
  refine Ret.callb (P := fun g => ∃ J, g = [.l (compact (rowEq KCard) (sortA (ltC ordK) rows) ++ J), .i ((compact (rowEq KCard) (sortA (ltC ordK) rows)).length : Int)] ∧ (compact (rowEq KCard) (sortA (ltC ordK) rows) ++ J).length = (sortA (ltC ordK) rows).length)
    (cmpcF_eq (Z := zK) kdsK _ hs (by omega)) (by rw [hsl]; simp) ?_
  rintro _ ⟨J, rfl, hJ⟩
  have hle : (compact (rowEq KCard) (sortA (ltC ordK) rows)).length ≤ (sortA (ltC ordK) rows).length := compact_length _ _
  (dsimp +instances only [gi0,gis,row1,rows1,int1,str1,bool1])
  simp only [Int.toNat_natCast]
  refine Ret.pos (by simp [Nat.ble_eq]) (Ret.some ?_)
  exact ⟨b, compact (rowEq KCard) (sortA (ltC ordK) rows), by simp, by omega, by omega, fun z hz => hs z (compact_mem hz), by omega⟩
/-! ### What is wrong with cards -/
def faultK1 (x : List G) : Int :=
  bif !inB (gi x 0).int 0 345686399999 then 1 else bif !inB (gi x 1).int 1 3 then 4 else bif !inB (gi x 2).int 1 3 then 4 else bif !okCall (gi x 3).str then 3 else bif !okKey (gi x 4).str then 5 else 0
def stepK (rows : List (List G)) (i : Nat) : Int :=
  if faultK1 (rows.getD i []) ≠ 0 then faultK1 (rows.getD i []) else if 0 < i ∧ 0 ≤ ordK (rows.getD (i - 1) []) (rows.getD i []) then 7 else 0
def faultCards (rows : List (List G)) : Int := if 3000 < rows.length then 2 else fw (stepK rows) rows.length
theorem moment_ok (t : Int) : F_pileref2_Moment [.i t] = some [.t (inB t 0 345686399999)] := by
  unfold F_pileref2_Moment
  (dsimp +instances only [gi0,gis,row1,rows1,int1,str1,bool1])
  rw [in_eq]
  rfl
theorem isMoment_ok (t : Int) : F_kit_IsMoment [.i t] = some [.t (inB t 0 345686399999)] := by
  unfold F_kit_IsMoment
  (dsimp +instances only [gi0,gis,row1,rows1,int1,str1,bool1])
  rw [outside_eq]
  show some [G.t (!(!inB t 0 345686399999))] = _
  rw [Bool.not_not]
theorem isMode_ok (t : Int) : F_kit_IsMode [.i t] = some [.t (inB t 1 3)] := by
  unfold F_kit_IsMode
  (dsimp +instances only [gi0,gis,row1,rows1,int1,str1,bool1])
  rw [outside_eq]
  show some [G.t (!(!inB t 1 3))] = _
  rw [Bool.not_not]
theorem cardsFault_step (rows : List (List G)) (hr : ∀ z ∈ rows, Crd z) (hn : rows.length ≤ 3000) (i : Nat) (hi : i < rows.length) :
    Ret (st_pileref2_CardsFault_4 [.l rows, .l rows, .i (rows.length : Int), .i (i : Int)]) fun o => (stepK rows i = 0 ∧ o = (none, [.l rows, .l rows, .i (rows.length : Int), .i ((i + 1 : Nat) : Int)])) ∨ (stepK rows i ≠ 0 ∧ o = (some 0, [.i (stepK rows i)])) := by
  obtain ⟨t, k, m, c, b, hx, ht, hk, hm, hc, hb⟩ := hr _ (getD_row hi)
  have hC : Crd (rows.getD i []) := hr _ (getD_row hi)
  have ef : faultK1 (rows.getD i []) = bif !inB t 0 345686399999 then 1 else bif !inB k 1 3 then 4 else bif !inB m 1 3 then 4 else bif !okCall c then 3 else bif !okKey b then 5 else 0 := by
    rw [hx]
    rfl
  unfold st_pileref2_CardsFault_4
  (dsimp +instances only [gi0,gis,row1,rows1,int1,str1,bool1])
  simp only [Int.toNat_natCast, hC.eta]
  have f0 : (gi (rows.getD i []) 0).int = t := by rw [hx]; rfl
  have f1 : (gi (rows.getD i []) 1).int = k := by rw [hx]; rfl
  have f2 : (gi (rows.getD i []) 2).int = m := by rw [hx]; rfl
  have f3 : (gi (rows.getD i []) 3).str = c := by rw [hx]; rfl
  have f4 : (gi (rows.getD i []) 4).str = b := by rw [hx]; rfl
  simp only [f0, f1, f2, f3, f4]
  refine Ret.pos (by (first|rfl|assumption|(simp only [inI,sl]<;>omega))) (Ret.pos (by (first|rfl|assumption|(simp only [inI,sl]<;>omega))) ?_)
  refine Ret.call (Ret.eq (moment_ok t)) ?_
  rintro _ rfl
  (dsimp +instances only [gi0,gis,row1,rows1,int1,str1,bool1])
  refine Ret.test (fun h => ?_) fun h0 => ?_
  · have e : stepK rows i = 1 := by
      unfold stepK
      rw [ef, h]
      rfl
    rw [e]
    exact Ret.some (.inr ⟨by omega, rfl⟩)
  rw [h0, cond_false] at ef
  refine Ret.call (Ret.eq (in_eq k 1 3)) ?_
  rintro _ rfl
  (dsimp +instances only [gi0,gis,row1,rows1,int1,str1,bool1])
  refine Ret.test (fun h => ?_) fun h1 => ?_
  · have e : stepK rows i = 4 := by
      unfold stepK
      rw [ef, h]
      rfl
    rw [e]
    exact Ret.some (.inr ⟨by omega, rfl⟩)
  rw [h1, cond_false] at ef
  refine Ret.call (Ret.eq (in_eq m 1 3)) ?_
  rintro _ rfl
  (dsimp +instances only [gi0,gis,row1,rows1,int1,str1,bool1])
  refine Ret.test (fun h => ?_) fun h2 => ?_
  · have e : stepK rows i = 4 := by
      unfold stepK
      rw [ef, h]
      rfl
    rw [e]
    exact Ret.some (.inr ⟨by omega, rfl⟩)
  rw [h2, cond_false] at ef
  refine Ret.call (Ret.eq (call_eq hc)) ?_
  rintro _ rfl
  (dsimp +instances only [gi0,gis,row1,rows1,int1,str1,bool1])
  refine Ret.test (fun h => ?_) fun h3 => ?_
  · have e : stepK rows i = 3 := by
      unfold stepK
      rw [ef, h]
      rfl
    rw [e]
    exact Ret.some (.inr ⟨by omega, rfl⟩)
  rw [h3, cond_false] at ef
  refine Ret.call (Ret.eq (key_eq (.inl hb))) ?_
  rintro _ rfl
  (dsimp +instances only [gi0,gis,row1,rows1,int1,str1,bool1])
  refine Ret.test (fun h => ?_) fun h4 => ?_
  · have e : stepK rows i = 5 := by
      unfold stepK
      rw [ef, h]
      rfl
    rw [e]
    exact Ret.some (.inr ⟨by omega, rfl⟩)
  rw [h4, cond_false] at ef
  have e : stepK rows i = if 0 < i ∧ 0 ≤ ordK (rows.getD (i - 1) []) (rows.getD i []) then 7 else 0 := by
    unfold stepK
    rw [ef, if_neg (by simp)]
  refine Ret.test (fun h => ?_) fun h => ?_
  · simp only [ltI_eq, decide_eq_true_eq] at h
    have ei : ((i : Int) - 1).toNat = i - 1 := by omega
    have hy : Crd (rows.getD (i - 1) []) := hr _ (getD_row (by omega))
    simp only [ei, hy.eta]
    refine Ret.pos (by (first|rfl|assumption|(simp only [inI,sl]<;>omega))) (Ret.pos (by (first|rfl|assumption|(simp only [inI,sl]<;>omega))) ?_)
    refine Ret.call (Ret.eq (cardOrder_eq hy hC)) ?_
    rintro _ rfl
    (dsimp +instances only [gi0,gis,row1,rows1,int1,str1,bool1])
    refine Ret.test (fun h7 => ?_) fun h7 => ?_
    · simp only [leI_eq, decide_eq_true_eq] at h7
      rw [if_pos ⟨by omega, h7⟩] at e
      rw [e]
      exact Ret.some (.inr ⟨by omega, rfl⟩)
    · simp only [leI_eq, decide_eq_false_iff_not] at h7
      rw [if_neg (fun h' => h7 h'.2)] at e
      refine Ret.pos (by (first|rfl|assumption|(simp only [inI,sl]<;>omega))) (Ret.some (.inl ⟨e, rfl⟩))
  · simp only [ltI_eq, decide_eq_false_iff_not] at h
    rw [if_neg (by omega)] at e
    refine Ret.pos (by (first|rfl|assumption|(simp only [inI,sl]<;>omega))) (Ret.some (.inl ⟨e, rfl⟩))
theorem cardsFault_ok (rows : List (List G)) (hr : ∀ z ∈ rows, Crd z) : F_pileref2_CardsFault [.l rows] = some [.i (faultCards rows)] := by
  refine Ret.toEq ?_
  unfold F_pileref2_CardsFault faultCards
  (dsimp +instances only [gi0,gis,row1,rows1,int1,str1,bool1])
  by_cases hn : 3000 < rows.length
  · refine Ret.pos (by (first|rfl|assumption|(simp only [inI,sl]<;>omega))) ?_
    rw [if_pos hn]
    exact Ret.some rfl
  · refine Ret.neg (by (first|rfl|assumption|(simp only [inI,sl]<;>omega))) ?_
    rw [if_neg hn]
    refine Ret.loop (fw_loop (fun i => [.l rows, .l rows, .i (rows.length : Int), .i (i : Int)]) rows.length (stepK rows) [] (by omega) (cardsFault_step rows hr (by omega)) ?_) rfl ?_
    · unfold st_pileref2_CardsFault_4
      (dsimp +instances only [gi0,gis,row1,rows1,int1,str1,bool1])
      (repeat(first|(refine Ret.pos ?_ ?_;(first|rfl|assumption|(simp only [inI,sl]<;>omega)))|(refine Ret.neg ?_ ?_;(first|rfl|assumption|(simp only [inI,sl]<;>omega)))))
      exact Ret.some rfl
    · rintro _ _ (⟨rfl, h, rfl⟩ | ⟨rfl, rfl, _⟩)
      · rw [h]
        exact Ret.some rfl
      · exact Ret.some rfl
theorem checkCards_step (rows : List (List G)) (hr : ∀ z ∈ rows, Crd z) (hn : rows.length ≤ 3000) (i : Nat) (hi : i < rows.length) :
    Ret (st_club_CheckCards_4 [.l rows, .l rows, .i (rows.length : Int), .i (i : Int)]) fun o => (stepK rows i = 0 ∧ o = (none, [.l rows, .l rows, .i (rows.length : Int), .i ((i + 1 : Nat) : Int)])) ∨ (stepK rows i ≠ 0 ∧ o = (some 0, [.i (stepK rows i)])) := by
  obtain ⟨t, k, m, c, b, hx, ht, hk, hm, hc, hb⟩ := hr _ (getD_row hi)
  have hC : Crd (rows.getD i []) := hr _ (getD_row hi)
  have ef : faultK1 (rows.getD i []) = bif !inB t 0 345686399999 then 1 else bif !inB k 1 3 then 4 else bif !inB m 1 3 then 4 else bif !okCall c then 3 else bif !okKey b then 5 else 0 := by
    rw [hx]
    rfl
  unfold st_club_CheckCards_4
  (dsimp +instances only [gi0,gis,row1,rows1,int1,str1,bool1])
  simp only [Int.toNat_natCast, hC.eta]
  have f0 : (gi (rows.getD i []) 0).int = t := by rw [hx]; rfl
  have f1 : (gi (rows.getD i []) 1).int = k := by rw [hx]; rfl
  have f2 : (gi (rows.getD i []) 2).int = m := by rw [hx]; rfl
  have f3 : (gi (rows.getD i []) 3).str = c := by rw [hx]; rfl
  have f4 : (gi (rows.getD i []) 4).str = b := by rw [hx]; rfl
  simp only [f0, f1, f2, f3, f4]
  refine Ret.pos (by (first|rfl|assumption|(simp only [inI,sl]<;>omega))) (Ret.pos (by (first|rfl|assumption|(simp only [inI,sl]<;>omega))) ?_)
  refine Ret.call (Ret.eq (isMoment_ok t)) ?_
  rintro _ rfl
  (dsimp +instances only [gi0,gis,row1,rows1,int1,str1,bool1])
  refine Ret.test (fun h => ?_) fun h0 => ?_
  · have e : stepK rows i = 1 := by
      unfold stepK
      rw [ef, h]
      rfl
    rw [e]
    exact Ret.some (.inr ⟨by omega, rfl⟩)
  rw [h0, cond_false] at ef
  refine Ret.call (Ret.eq (outside_eq k 1 3)) ?_
  rintro _ rfl
  (dsimp +instances only [gi0,gis,row1,rows1,int1,str1,bool1])
  refine Ret.test (fun h => ?_) fun h1 => ?_
  · have e : stepK rows i = 4 := by
      unfold stepK
      rw [ef, h]
      rfl
    rw [e]
    exact Ret.some (.inr ⟨by omega, rfl⟩)
  rw [h1, cond_false] at ef
  refine Ret.call (Ret.eq (isMode_ok m)) ?_
  rintro _ rfl
  (dsimp +instances only [gi0,gis,row1,rows1,int1,str1,bool1])
  refine Ret.test (fun h => ?_) fun h2 => ?_
  · have e : stepK rows i = 4 := by
      unfold stepK
      rw [ef, h]
      rfl
    rw [e]
    exact Ret.some (.inr ⟨by omega, rfl⟩)
  rw [h2, cond_false] at ef
  refine Ret.call (Ret.eq (isCall_eq hc)) ?_
  rintro _ rfl
  (dsimp +instances only [gi0,gis,row1,rows1,int1,str1,bool1])
  refine Ret.test (fun h => ?_) fun h3 => ?_
  · have e : stepK rows i = 3 := by
      unfold stepK
      rw [ef, h]
      rfl
    rw [e]
    exact Ret.some (.inr ⟨by omega, rfl⟩)
  rw [h3, cond_false] at ef
  refine Ret.call (Ret.eq (isKey_eq (.inl hb))) ?_
  rintro _ rfl
  (dsimp +instances only [gi0,gis,row1,rows1,int1,str1,bool1])
  refine Ret.test (fun h => ?_) fun h4 => ?_
  · have e : stepK rows i = 5 := by
      unfold stepK
      rw [ef, h]
      rfl
    rw [e]
    exact Ret.some (.inr ⟨by omega, rfl⟩)
  rw [h4, cond_false] at ef
  have e : stepK rows i = if 0 < i ∧ 0 ≤ ordK (rows.getD (i - 1) []) (rows.getD i []) then 7 else 0 := by
    unfold stepK
    rw [ef, if_neg (by simp)]
  refine Ret.test (fun h => ?_) fun h => ?_
  · simp only [ltI_eq, decide_eq_true_eq] at h
    have ei : ((i : Int) - 1).toNat = i - 1 := by omega
    have hy : Crd (rows.getD (i - 1) []) := hr _ (getD_row (by omega))
    simp only [ei, hy.eta]
    refine Ret.pos (by (first|rfl|assumption|(simp only [inI,sl]<;>omega))) (Ret.pos (by (first|rfl|assumption|(simp only [inI,sl]<;>omega))) ?_)
    refine Ret.call (Ret.eq (compareCards_eq _ _)) ?_
    rintro _ rfl
    (dsimp +instances only [gi0,gis,row1,rows1,int1,str1,bool1])
    refine Ret.test (fun h7 => ?_) fun h7 => ?_
    · simp only [leI_eq, decide_eq_true_eq] at h7
      rw [if_pos ⟨by omega, h7⟩] at e
      rw [e]
      exact Ret.some (.inr ⟨by omega, rfl⟩)
    · simp only [leI_eq, decide_eq_false_iff_not] at h7
      rw [if_neg (fun h' => h7 h'.2)] at e
      refine Ret.pos (by (first|rfl|assumption|(simp only [inI,sl]<;>omega))) (Ret.some (.inl ⟨e, rfl⟩))
  · simp only [ltI_eq, decide_eq_false_iff_not] at h
    rw [if_neg (by omega)] at e
    refine Ret.pos (by (first|rfl|assumption|(simp only [inI,sl]<;>omega))) (Ret.some (.inl ⟨e, rfl⟩))
theorem checkCards_ok (rows : List (List G)) (hr : ∀ z ∈ rows, Crd z) : F_club_CheckCards [.l rows] = some [.i (faultCards rows)] := by
  refine Ret.toEq ?_
  unfold F_club_CheckCards faultCards
  (dsimp +instances only [gi0,gis,row1,rows1,int1,str1,bool1])
  by_cases hn : 3000 < rows.length
  · refine Ret.pos (by (first|rfl|assumption|(simp only [inI,sl]<;>omega))) ?_
    rw [if_pos hn]
    exact Ret.some rfl
  · refine Ret.neg (by (first|rfl|assumption|(simp only [inI,sl]<;>omega))) ?_
    rw [if_neg hn]
    refine Ret.loop (fw_loop (fun i => [.l rows, .l rows, .i (rows.length : Int), .i (i : Int)]) rows.length (stepK rows) [] (by omega) (checkCards_step rows hr (by omega)) ?_) rfl ?_
    · unfold st_club_CheckCards_4
      (dsimp +instances only [gi0,gis,row1,rows1,int1,str1,bool1])
      (repeat(first|(refine Ret.pos ?_ ?_;(first|rfl|assumption|(simp only [inI,sl]<;>omega)))|(refine Ret.neg ?_ ?_;(first|rfl|assumption|(simp only [inI,sl]<;>omega)))))
      exact Ret.some rfl
    · rintro _ _ (⟨rfl, h, rfl⟩ | ⟨rfl, rfl, _⟩)
      · rw [h]
        exact Ret.some rfl
      · exact Ret.some rfl
end
end Go.Proofs.SYthnhleemkjpigaaGreatDoor

namespace Go.Proofs.SYthnhleemkjpigaaGreatDoor
open Go Go.AL Go.Proofs
noncomputable section
/-! ### Merging -/
/-! ### Cards that came -/
theorem Crd.call {r : List G} (h : Crd r) : (gi r 3).str ∈ calls := by
  obtain ⟨t, k, m, c, b, rfl, _, _, _, hc, _⟩ := h
  exact hc
def wkK (y : List G) : List G := [.s (baseOf (gi y 3).str), .s (gi y 4).str, .i (gi y 2).int]
theorem contactOf_ok {c : List G} (hc : Crd c) : F_club_contactOf [.l [c]] = some [.l [wkK c]] := by
  refine Ret.toEq ?_
  unfold F_club_contactOf
  (dsimp +instances only [gi0,gis,row1,rows1,int1,str1,bool1])
  refine Ret.call (Ret.eq (base_eq hc.call)) ?_
  rintro _ rfl
  exact Ret.some rfl
def cameB (at_ : Int) (out : List (List G)) (x : List G) : Bool := leI (gi x 0).int at_ && ((gi x 1).int == 2 && !(out.any fun o => rowEq K3 (wkK x) (wkK o)))
def confL (at_ : Int) (l : List (List G)) : Nat → List (List G)
  | 0 => []
  | i + 1 => confL at_ l i ++ bif cameB at_ (confL at_ l i) (l.getD i []) then [l.getD i []] else []
theorem confL_length (at_ : Int) (l : List (List G)) : ∀ i, (confL at_ l i).length ≤ i
  | 0 => Nat.le_refl _
  | i + 1 => by
    have := confL_length at_ l i
    simp only [confL, List.length_append]
    cases cameB at_ (confL at_ l i) (l.getD i []) <;> simp <;> omega
theorem confL_mem (at_ : Int) (l : List (List G)) : ∀ i, i ≤ l.length → ∀ r ∈ confL at_ l i, r ∈ l
  | 0, _, r, h => by cases h
  | i + 1, hi, r, h => by
    simp only [confL] at h
    rcases List.mem_append.1 h with h | h
    · exact confL_mem at_ l i (by omega) r h
    · cases hb : cameB at_ (confL at_ l i) (l.getD i []) with
      | true => rw [hb] at h; simp at h; rw [h]; exact getD_row (by omega)
      | false => rw [hb] at h; simp at h
theorem confirmed_ok (l : List (List G)) (at_ : Int) (hC : ∀ z ∈ l, Crd z) (hn : l.length < 90000) : F_club_confirmed [.l l, .i at_] = some [.l (confL at_ l l.length)] := by
  refine Ret.toEq ?_
  unfold F_club_confirmed
  (dsimp +instances only [gi0,gis,row1,rows1,int1,str1,bool1])
  have r := range_all (st := st_club_confirmed_4) (σ := List (List G) × Nat × List (List G)) (fun s i => [.l s.1, .i (s.2.1 : Int), .l s.2.2, .i at_, .l l, .i (l.length : Int), .i (i : Int)]) l (fun s => (0, [.l s.2.2]))
    (fun s i => (∀ key, (gi (mget K3 s.1 key [.t false]) 0).bool = (confL at_ l i).any fun y => rowEq K3 key (wkK y)) ∧ s.2.2 = confL at_ l i) ([], 0, []) (by omega) ⟨fun key => by simp [mget_nil, confL]; rfl, rfl⟩
    (fun s i x hI hi hx hm ht => by
      obtain ⟨hs, hd⟩ := hI
      have hc := hC x hm
      have hl := confL_length at_ l i
      rw [← hd] at hl
      have hk : (gi (mget K3 s.1 (wkK x) [.t false]) 0).bool = (s.2.2).any fun o => rowEq K3 (wkK x) (wkK o) := by
        rw [hs, ← hd]
      have e0 : gEta K3 (wkK x) = wkK x := rfl
      unfold st_club_confirmed_4
      (dsimp +instances only [gi0,gis,row1,rows1,int1,str1,bool1])
      simp only [Int.toNat_natCast, hx, hc.eta]
      refine Ret.pos (by (first|rfl|assumption|(simp only [inI,sl]<;>omega))) (Ret.pos (by (first|rfl|assumption|(simp only [inI,sl]<;>omega))) ?_)
      refine Ret.call (Ret.eq (contactOf_ok hc)) ?_
      rintro _ rfl
      (dsimp +instances only [gi0,gis,row1,rows1,int1,str1,bool1])
      have no : cameB at_ (confL at_ l i) (l.getD i []) = false → (∀ key, (gi (mget K3 s.1 key [.t false]) 0).bool = (confL at_ l (i + 1)).any fun y => rowEq K3 key (wkK y)) ∧ s.2.2 = confL at_ l (i + 1) := fun hb => by
        simp only [confL, hb, cond_false, List.append_nil]
        exact ⟨hs, hd⟩
      refine Ret.test (fun h1 => ?_) fun h1 => ?_
      · refine Ret.test (fun h2 => ?_) fun h2 => ?_
        · refine Ret.test (fun h3 => ?_) fun h3 => ?_
          · have h3' : (gi (mget K3 s.1 (wkK x) [.t false]) 0).bool = false := by
              have h3 := h3
              rw [Bool.not_eq_true'] at h3
              exact h3
            have hb : cameB at_ (confL at_ l i) (l.getD i []) = true := by
              unfold cameB
              rw [hx, h1, h2, ← hd, ← hk, h3']
              rfl
            have hbx := hb
            rw [hx] at hbx
            (repeat(first|(refine Ret.pos ?_ ?_;(first|rfl|assumption|(simp only [inI,sl]<;>omega)))|(refine Ret.neg ?_ ?_;(first|rfl|assumption|(simp only [inI,sl]<;>omega)))))
            refine Ret.some ⟨(mput K3 s.1 (wkK x) [.t true] s.2.1, mclk K3 s.1 (wkK x) s.2.1, s.2.2 ++ [x]), rfl, fun key => ?_, by simp only [confL, hx, hbx, hd, cond_true]⟩
            rw [mget_mput]
            simp only [confL, hx, hbx, cond_true, List.any_append, ← hs key]
            cases hk : rowEq K3 key (wkK x) <;> simp [hk, gi0, bool1]
          · have h3' : (gi (mget K3 s.1 (wkK x) [.t false]) 0).bool = true := by
              have h3 := h3
              rw [Bool.not_eq_false'] at h3
              exact h3
            have hb : cameB at_ (confL at_ l i) (l.getD i []) = false := by
              unfold cameB
              rw [hx, h1, h2, ← hd, ← hk, h3']
              rfl
            (repeat(first|(refine Ret.pos ?_ ?_;(first|rfl|assumption|(simp only [inI,sl]<;>omega)))|(refine Ret.neg ?_ ?_;(first|rfl|assumption|(simp only [inI,sl]<;>omega)))))
            exact Ret.some ⟨s, rfl, no hb⟩
        · have hb : cameB at_ (confL at_ l i) (l.getD i []) = false := by
            unfold cameB
            rw [hx, h1, h2]
            rfl
          (repeat(first|(refine Ret.pos ?_ ?_;(first|rfl|assumption|(simp only [inI,sl]<;>omega)))|(refine Ret.neg ?_ ?_;(first|rfl|assumption|(simp only [inI,sl]<;>omega)))))
          exact Ret.some ⟨s, rfl, no hb⟩
      · have hb : cameB at_ (confL at_ l i) (l.getD i []) = false := by
          unfold cameB
          rw [hx, h1]
          rfl
        (repeat(first|(refine Ret.pos ?_ ?_;(first|rfl|assumption|(simp only [inI,sl]<;>omega)))|(refine Ret.neg ?_ ?_;(first|rfl|assumption|(simp only [inI,sl]<;>omega)))))
        exact Ret.some ⟨s, rfl, no hb⟩)
    (fun s hI => by
      unfold st_club_confirmed_4
      (dsimp +instances only [gi0,gis,row1,rows1,int1,str1,bool1])
      (repeat(first|(refine Ret.pos ?_ ?_;(first|rfl|assumption|(simp only [inI,sl]<;>omega)))|(refine Ret.neg ?_ ?_;(first|rfl|assumption|(simp only [inI,sl]<;>omega)))))
      exact Ret.some rfl)
  refine Ret.loop r rfl ?_
  rintro c g ⟨⟨m, k, out⟩, ⟨_, rfl⟩, rfl, rfl⟩
  (dsimp +instances only [gi0,gis,row1,rows1,int1,str1,bool1])
  (repeat(first|(refine Ret.pos ?_ ?_;(first|rfl|assumption|(simp only [inI,sl]<;>omega)))|(refine Ret.neg ?_ ?_;(first|rfl|assumption|(simp only [inI,sl]<;>omega)))))
  exact Ret.some rfl
end
end Go.Proofs.SYthnhleemkjpigaaGreatDoor

namespace Go.Proofs.SYthnhleemkjpigaaGreatDoor
open Go Go.AL Go.Proofs
noncomputable section
/-! ### Events of two kinds: which came last -/
section
variable {α : Type} (S R : α → Bool)
end
/-! ### Pairs by name -/
theorem cardsFault2 (l : List (List G)) (at_ : Int) (hC : ∀ z ∈ l, Crd z) : F_club_cardsFault [.l l, .i at_] = some [.i (bif faultCards l != 0 then faultCards l else bif !inB at_ 0 345686399999 then 1 else 0)] := by
  refine Ret.toEq ?_
  unfold F_club_cardsFault
  (dsimp +instances only [gi0,gis,row1,rows1,int1,str1,bool1])
  refine Ret.call (Ret.eq (checkCards_ok l hC)) ?_
  rintro _ rfl
  (dsimp +instances only [gi0,gis,row1,rows1,int1,str1,bool1])
  refine Ret.test (fun h => ?_) fun h => ?_
  · rw [h]
    exact Ret.some rfl
  · rw [h]
    refine Ret.call (Ret.eq (isMoment_ok at_)) ?_
    rintro _ rfl
    (dsimp +instances only [gi0,gis,row1,rows1,int1,str1,bool1])
    cases inB at_ 0 345686399999 <;> exact Ret.some rfl
/-! ### The law -/
def confA (at_ : Int) (l : List (List G)) : List (List G) := confL at_ l l.length
end
end Go.Proofs.SYthnhleemkjpigaaGreatDoor

namespace Go.Proofs.SYthnhleemkjpigaaGreatDoor
open Go Go.AL Go.Proofs
noncomputable section
/-! ### Cards that are right rise -/
theorem right_rise {l : List (List G)} (hn : l.length ≤ 3000) (h : faultCards l = 0) : (l.Pairwise fun a b => ordK a b < 0) ∧ ∀ z ∈ l, faultK1 z = 0 := by
  unfold faultCards at h
  rw [if_neg (by omega)] at h
  have h1 := fw_zero h
  have h2 : ∀ i, i < l.length → faultK1 (l.getD i []) = 0 := fun i hi => by
    refine Decidable.byContradiction fun hne => hne ?_
    have := h1 i hi
    unfold stepK at this
    rw [if_pos hne] at this
    exact this
  refine ⟨pairwise_of_adj ordK_lt fun k hk hk' => ?_, fun z hz => ?_⟩
  · have := h1 k hk'
    unfold stepK at this
    rw [if_neg (by simpa using h2 k hk')] at this
    refine Int.not_le.1 fun hle => ?_
    rw [if_pos ⟨by omega, hle⟩] at this
    cases this
  · obtain ⟨i, hi, rfl⟩ := List.getElem_of_mem hz
    have := h2 i hi
    rwa [List.getD_eq_getElem?_getD, List.getElem?_eq_getElem hi] at this
theorem r_RightCards (l : List (List G)) (a n : Int) (ha : 0 ≤ a) (ha1 : a ≤ 100000) (h0 : 0 ≤ n) (hn1 : n ≤ 20) :
    Ret (F_pilemake_Stream_RightCards [.l l, .i a, .i n]) fun g => ∃ b rows, g = [.l l, .i b, .l rows] ∧ a ≤ b ∧ b ≤ a + 2000 ∧ (∀ z ∈ rows, Crd z) ∧ rows.length ≤ 20 ∧ faultCards rows = 0 := by
  unfold F_pilemake_Stream_RightCards
  (dsimp +instances only [gi0,gis,row1,rows1,int1,str1,bool1])
  have loop : ∀ (k i : Nat) (c : Int), i + k = 5 → a ≤ c → c ≤ a + 400 * i → RetN st_pilemake_Stream_RightCards_2 [.l l, .i c, .i n, .i (i : Int)] (k + 1) fun x g => (x = 0 ∧ ∃ b rows, g = [.l l, .i b, .l rows] ∧ a ≤ b ∧ b ≤ a + 2000 ∧ (∀ z ∈ rows, Crd z) ∧ rows.length ≤ 20 ∧ faultCards rows = 0) ∨
      x = 1 ∧ ∃ b, g = [.l l, .i b] ∧ a ≤ b ∧ b ≤ a + 2000 := by
    intro k
    induction k with
    | zero =>
      intro i c hi h1 h2
      refine RetN.stop (x := 1) (Ret.toEq ?_) (.inr ⟨rfl, c, rfl, h1, by omega⟩)
      unfold st_pilemake_Stream_RightCards_2
      (dsimp +instances only [gi0,gis,row1,rows1,int1,str1,bool1])
      exact Ret.neg (by (first|rfl|assumption|(simp only [inI,sl]<;>omega))) (Ret.some rfl)
    | succ k ih =>
      intro i c hi h1 h2
      have key : Ret (st_pilemake_Stream_RightCards_2 [.l l, .i c, .i n, .i (i : Int)]) fun o => (∃ b rows, o = (some 0, [.l l, .i b, .l rows]) ∧ a ≤ b ∧ b ≤ a + 2000 ∧ (∀ z ∈ rows, Crd z) ∧ rows.length ≤ 20 ∧ faultCards rows = 0) ∨
          ∃ b, o = (none, [.l l, .i b, .i n, .i ((i + 1 : Nat) : Int)]) ∧ c ≤ b ∧ b ≤ c + 400 := by
        unfold st_pilemake_Stream_RightCards_2
        (dsimp +instances only [gi0,gis,row1,rows1,int1,str1,bool1])
        refine Ret.pos (by (first|rfl|assumption|(simp only [inI,sl]<;>omega))) ?_
        refine Ret.call (r_Cards l c n (by omega) (by omega) h0 hn1) ?_
        rintro _ ⟨b, rows, rfl, q1, q2, q3, q4⟩
        (dsimp +instances only [gi0,gis,row1,rows1,int1,str1,bool1])
        refine Ret.call (Ret.eq (cardsFault_ok rows q3)) ?_
        rintro _ rfl
        (dsimp +instances only [gi0,gis,row1,rows1,int1,str1,bool1])
        refine Ret.test (fun h => ?_) fun h => ?_
        · exact Ret.some (.inl ⟨b, rows, rfl, by omega, by omega, q3, by omega, by simpa using h⟩)
        · refine Ret.pos (by (first|rfl|assumption|(simp only [inI,sl]<;>omega))) (Ret.some (.inr ⟨b, rfl, by omega, by omega⟩))
      obtain ⟨o, h, ⟨b, rows, rfl, q⟩ | ⟨b, rfl, q1, q2⟩⟩ := key
      · exact RetN.stop h (.inl ⟨rfl, b, rows, rfl, q⟩)
      · exact RetN.next h (ih (i + 1) b (by omega) (by omega) (by omega))
  refine Ret.loop ((loop 5 0 a rfl (by omega) (by omega)).to (by omega)) rfl ?_
  rintro c g (⟨rfl, b, rows, rfl, q⟩ | ⟨rfl, b, rfl, q1, q2⟩)
  · exact Ret.some ⟨b, rows, rfl, q⟩
  · exact Ret.some ⟨b, [], rfl, q1, q2, by simp, by simp, rfl⟩
/-! ### Two parts of a list -/
/-! ### What is confirmed stays so -/
/-! ### Whoever is owed something is confirmed -/
end
end Go.Proofs.SYthnhleemkjpigaaGreatDoor

namespace Go.Proofs.SYthnhleemkjpigaaGreatDoor
open Go Go.AL Go.Proofs
noncomputable section
def awd (c n : Int) : List G := [.s (⟨#[97]⟩ : ByteArray), .s (⟨#[]⟩ : ByteArray), .i c, .i n]
theorem checkAwards_all : ((List.range 4).all fun c => (List.range 4).all fun n => match F_club_CheckAwards [.l [awd ((c + 1 : Nat) : Int) ((n + 1 : Nat) : Int)]] with
  | some [.i e] => e == 0
  | _ => false) = true := by kernel_rfl
theorem checkAwards_ok (c n : Int) (h1 : 1 ≤ c) (h2 : c ≤ 4) (h3 : 1 ≤ n) (h4 : n ≤ 4) : F_club_CheckAwards [.l [awd c n]] = some [.i 0] := by
  obtain ⟨c, rfl⟩ : ∃ k : Nat, c = ((k + 1 : Nat) : Int) := ⟨(c - 1).toNat, by omega⟩
  obtain ⟨n, rfl⟩ : ∃ k : Nat, n = ((k + 1 : Nat) : Int) := ⟨(n - 1).toNat, by omega⟩
  have h := List.all_eq_true.1 (List.all_eq_true.1 checkAwards_all c (List.mem_range.2 (by omega))) n (List.mem_range.2 (by omega))
  split at h
  · rename_i e he
    rw [he, beq_iff_eq.1 h]
  · cases h
def cntK (a k : List G) : List G := (gi ((F_club_counted [.l [a], .l [k]]).getD []) 0).row
theorem counted_ok (c n : Int) (x : List G) : F_club_counted [.l [awd c n], .l [wkK x]] = some [.l [cntK (awd c n) (wkK x)]] ∧ gEta K3 (cntK (awd c n) (wkK x)) = cntK (awd c n) (wkK x) := by
  have key : Ret (F_club_counted [.l [awd c n], .l [wkK x]]) fun g => ∃ k, g = [.l [k]] ∧ gEta K3 k = k := by
    unfold F_club_counted
    (dsimp +instances only [gi0,gis,row1,rows1,int1,str1,bool1])
    refine Ret.test (fun _ => Ret.test (fun _ => Ret.some ⟨_, rfl, rfl⟩) fun _ => Ret.test (fun _ => Ret.some ⟨_, rfl, rfl⟩) fun _ => Ret.some ⟨_, rfl, rfl⟩) fun _ => ?_
    refine Ret.test (fun _ => Ret.test (fun _ => Ret.some ⟨_, rfl, rfl⟩) fun _ => Ret.test (fun _ => Ret.some ⟨_, rfl, rfl⟩) fun _ => Ret.some ⟨_, rfl, rfl⟩) fun _ => ?_
    exact Ret.test (fun _ => Ret.some ⟨_, rfl, rfl⟩) fun _ => Ret.test (fun _ => Ret.some ⟨_, rfl, rfl⟩) fun _ => Ret.some ⟨_, rfl, rfl⟩
  obtain ⟨g, h, k, rfl, hk⟩ := key
  have e : cntK (awd c n) (wkK x) = k := by
    unfold cntK
    rw [h]
    rfl
  rw [e]
  exact ⟨h, hk⟩
structure Cnt where
  m : List (List G)
  k : Nat
  since : Int
def cntStep (a : List G) (s : Cnt) (x : List G) : Cnt :=
  ⟨mput K3 s.m (cntK a (wkK x)) [.t true] s.k, mclk K3 s.m (cntK a (wkK x)) s.k, if (gi a 3).int ≤ ((mput K3 s.m (cntK a (wkK x)) [.t true] s.k).length : Int) ∧ s.since < 0 then (gi x 0).int else s.since⟩
def cntAll (a : List G) (s : Cnt) (l : List (List G)) : Cnt := l.foldl (cntStep a) s
def cnt0 : Cnt := ⟨[], 0, -1⟩
theorem mput_len (key v : List G) (c : Nat) : ∀ rows : List (List G), (mput K3 rows key v c).length ≤ rows.length + 1
  | [] => by rw [mput_nil]; simp
  | r :: rs => by
    rw [mput_cons]
    have := mput_len key v c rs
    cases rowEq K3 key (gi r 0).row <;> simp <;> omega
theorem cntAll_len (a : List G) : ∀ (l : List (List G)) (s : Cnt), (cntAll a s l).m.length ≤ s.m.length + l.length
  | [], s => by simp [cntAll]
  | x :: l, s => by
    have h1 := cntAll_len a l (cntStep a s x)
    have h2 := mput_len (cntK a (wkK x)) [.t true] s.k s.m
    have h3 : (cntStep a s x).m = mput K3 s.m (cntK a (wkK x)) [.t true] s.k := rfl
    rw [h3] at h1
    show (cntAll a (cntStep a s x) l).m.length ≤ _
    simp only [List.length_cons]
    omega
theorem cntAll_stays (a : List G) : ∀ (l : List (List G)) (s : Cnt), 0 ≤ s.since → (cntAll a s l).since = s.since
  | [], s, _ => rfl
  | x :: l, s, h => by
    have e : (cntStep a s x).since = s.since := by
      unfold cntStep
      simp only
      rw [if_neg (by omega)]
    show (cntAll a (cntStep a s x) l).since = _
    rw [cntAll_stays a l _ (by rw [e]; exact h), e]
theorem cntAll_from (a : List G) : ∀ (l : List (List G)) (s : Cnt), (cntAll a s l).since = s.since ∨ ∃ x ∈ l, (cntAll a s l).since = (gi x 0).int
  | [], s => .inl rfl
  | x :: l, s => by
    show (cntAll a (cntStep a s x) l).since = _ ∨ ∃ y ∈ x :: l, (cntAll a (cntStep a s x) l).since = _
    rcases cntAll_from a l (cntStep a s x) with h | ⟨y, hy, h⟩
    · rw [h]
      unfold cntStep
      simp only
      split
      · exact .inr ⟨x, List.mem_cons_self, rfl⟩
      · exact .inl rfl
    · exact .inr ⟨y, List.mem_cons_of_mem _ hy, h⟩
theorem reached_ok (c n : Int) (l : List (List G)) (hC : ∀ z ∈ l, Crd z) (hn : l.length < 90000) : F_club_reached [.l [awd c n], .l l] = some [.i ((cntAll (awd c n) cnt0 l).m.length : Int), .i (cntAll (awd c n) cnt0 l).since] := by
  refine Ret.toEq ?_
  unfold F_club_reached
  (dsimp +instances only [gi0,gis,row1,rows1,int1,str1,bool1])
  have r := range_all (st := st_club_reached_4) (σ := Cnt) (fun s i => [.s (⟨#[97]⟩ : ByteArray), .s (⟨#[]⟩ : ByteArray), .i c, .i n, .l s.m, .i (s.k : Int), .i s.since, .l l, .i (l.length : Int), .i (i : Int)]) l (fun s => (0, [.l s.m, .i (s.k : Int), .i s.since]))
    (fun s i => s = cntAll (awd c n) cnt0 (l.take i)) cnt0 (by omega) rfl
    (fun s i x hs hi hx hm ht => by
      have hc := hC x hm
      obtain ⟨t, k, m, cl, b, ex, _⟩ := hC x hm
      have f0 : (gi x 0).int = t := by rw [ex]; rfl
      have f1 : (gi x 1).int = k := by rw [ex]; rfl
      have f2 : (gi x 2).int = m := by rw [ex]; rfl
      have f3 : (gi x 3).str = cl := by rw [ex]; rfl
      have f4 : (gi x 4).str = b := by rw [ex]; rfl
      have hstep : cntAll (awd c n) cnt0 (l.take (i + 1)) = cntStep (awd c n) s x := by
        rw [ht, hs]
        unfold cntAll
        rw [List.foldl_append]
        rfl
      obtain ⟨hk1, hk2⟩ := counted_ok c n x
      have hlen : s.m.length ≤ l.length := by
        have := cntAll_len (awd c n) (l.take i) cnt0
        rw [← hs] at this
        have h0 : cnt0.m.length = 0 := rfl
        simp only [List.length_take] at this
        omega
      have hl2 := mput_len (cntK (awd c n) (wkK x)) [.t true] s.k s.m
      unfold st_club_reached_4
      (dsimp +instances only [gi0,gis,row1,rows1,int1,str1,bool1])
      simp only [Int.toNat_natCast, hx, f0, f1, f2, f3, f4]
      refine Ret.pos (by (first|rfl|assumption|(simp only [inI,sl]<;>omega))) (Ret.pos (by (first|rfl|assumption|(simp only [inI,sl]<;>omega))) (Ret.neg (by simp) ?_))
      refine Ret.tail (P := fun x' g => x' = 0 ∧ g = [.s (⟨#[97]⟩ : ByteArray), .s (⟨#[]⟩ : ByteArray), .i c, .i n, .l (cntStep (awd c n) s x).m, .i ((cntStep (awd c n) s x).k : Int), .i (cntStep (awd c n) s x).since, .l l, .i (l.length : Int), .i (i : Int)]) ?_ rfl ?_
      · unfold tl_club_reached_7
        (dsimp +instances only [gi0,gis,row1,rows1,int1,str1,bool1])
        rw [← ex]
        refine Ret.call (Ret.eq (contactOf_ok hc)) ?_
        rintro _ rfl
        (dsimp +instances only [gi0,gis,row1,rows1,int1,str1,bool1])
        refine Ret.call (P := fun g => g = [.l [cntK (awd c n) (wkK x)]]) (Ret.eq hk1) ?_
        rintro _ rfl
        (dsimp +instances only [gi0,gis,row1,rows1,int1,str1,bool1])
        simp only [hk2, Int.toNat_natCast]
        have ea : (gi (awd c n) 3).int = n := rfl
        refine Ret.test (fun h1 => ?_) fun h1 => ?_
        · rw [leI_eq, decide_eq_true_eq] at h1
          refine Ret.test (fun h2 => ?_) fun h2 => ?_
          · rw [ltI_eq, decide_eq_true_eq] at h2
            refine Ret.some ⟨0, rfl, rfl, ?_⟩
            unfold cntStep
            rw [ea, if_pos ⟨h1, h2⟩, f0]
          · rw [ltI_eq, decide_eq_false_iff_not] at h2
            refine Ret.some ⟨0, rfl, rfl, ?_⟩
            unfold cntStep
            rw [ea, if_neg (fun h => h2 h.2)]
        · rw [leI_eq, decide_eq_false_iff_not] at h1
          refine Ret.some ⟨0, rfl, rfl, ?_⟩
          unfold cntStep
          rw [ea, if_neg (fun h => h1 h.1)]
      · rintro _ _ ⟨rfl, rfl⟩
        (dsimp +instances only [gi0,gis,row1,rows1,int1,str1,bool1])
        refine Ret.pos (by (first|rfl|assumption|(simp only [inI,sl]<;>omega))) (Ret.some ⟨cntStep (awd c n) s x, rfl, hstep.symm⟩))
    (fun s hI => by
      unfold st_club_reached_4
      (dsimp +instances only [gi0,gis,row1,rows1,int1,str1,bool1])
      exact Ret.neg (by (first|rfl|assumption|(simp only [inI,sl]<;>omega))) (Ret.some rfl))
  refine Ret.loop r rfl ?_
  rintro _ _ ⟨s, hs, rfl, rfl⟩
  rw [List.take_length] at hs
  refine Ret.some ?_
  rw [hs]
  rfl
/-! ### What is written of it -/
def slashB : ByteArray := ⟨#[47]⟩
def yesB : ByteArray := ⟨#[32, 121, 101, 115]⟩
theorem words_ok : ((List.range 100).all fun a => (List.range 5).all fun b => match F_strings_HasSuffix [.s (((itoaB (a : Nat)) ++ slashB) ++ itoaB (b : Nat)), .s yesB], F_strings_HasSuffix [.s ((((itoaB (a : Nat)) ++ slashB) ++ itoaB (b : Nat)) ++ yesB), .s yesB] with
  | some [.t f], some [.t g] => !f && (g && (Nat.ble (itoaB (a : Nat)).size 10 && Nat.ble (itoaB (b : Nat)).size 10))
  | _, _ => false) = true := by kernel_rfl
theorem word_of (a b : Nat) (ha : a < 100) (hb : b < 5) : F_strings_HasSuffix [.s (((itoaB (a : Nat)) ++ slashB) ++ itoaB (b : Nat)), .s yesB] = some [.t false] ∧ F_strings_HasSuffix [.s ((((itoaB (a : Nat)) ++ slashB) ++ itoaB (b : Nat)) ++ yesB), .s yesB] = some [.t true] ∧
    (itoaB (a : Nat)).size ≤ 10 ∧ (itoaB (b : Nat)).size ≤ 10 := by
  have h := List.all_eq_true.1 (List.all_eq_true.1 words_ok a (List.mem_range.2 ha)) b (List.mem_range.2 hb)
  split at h
  · rename_i f g h1 h2
    simp only [Bool.and_eq_true, Bool.not_eq_true', Nat.ble_eq] at h
    obtain ⟨rfl, rfl, h3, h4⟩ := h
    exact ⟨h1, h2, h3, h4⟩
  · cases h
theorem itoa_ok (a : Nat) (ha : a < 100) : F_strconv_Itoa [.i (a : Int)] = some [.s (itoaB (a : Int))] := by
  refine Ret.toEq ?_
  unfold F_strconv_Itoa
  (dsimp +instances only [gi0,gis,row1,rows1,int1,str1,bool1])
  exact Ret.pos (by simp only [nnI_eq, ltI_eq, Bool.and_eq_true, decide_eq_true_eq]; omega) (Ret.some rfl)
def sinceA (c n at_ : Int) (x : List (List G)) : Int := (cntAll (awd c n) cnt0 (confA at_ x)).since
theorem progress_ok (c : Int) (n : Nat) (x : List (List G)) (at_ : Int) (h1 : 1 ≤ c) (h2 : c ≤ 4) (h3 : 1 ≤ n) (h4 : n ≤ 4) (hx : ∀ z ∈ x, Crd z) (hn : x.length ≤ 20) (hf : faultCards x = 0) (ha : inB at_ 0 345686399999 = true) :
    Ret (F_club_Progress [.l [awd c n], .l x, .i at_]) fun g => ∃ v, g = [.l [[.s (⟨#[97]⟩ : ByteArray), .s v]], .i 0] ∧ F_strings_HasSuffix [.s v, .s yesB] = some [.t (leI 0 (sinceA c n at_ x))] := by
  have hcl : (confA at_ x).length ≤ x.length := confL_length at_ x x.length
  have hcm : ∀ z ∈ confA at_ x, z ∈ x := confL_mem at_ x x.length (Nat.le_refl _)
  have hlen := cntAll_len (awd c n) (confA at_ x) cnt0
  have h00 : cnt0.m.length = 0 := rfl
  obtain ⟨w1, w2, w3, w4⟩ := word_of (cntAll (awd c n) cnt0 (confA at_ x)).m.length n (by omega) (by omega)
  have s1 : slashB.size = 1 := rfl
  have s2 : yesB.size = 4 := rfl
  unfold F_club_Progress
  (dsimp +instances only [gi0,gis,row1,rows1,int1,str1,bool1])
  refine Ret.call (Ret.eq (checkAwards_ok c n h1 h2 (by omega) (by omega))) ?_
  rintro _ rfl
  refine Ret.neg rfl ?_
  refine Ret.call (Ret.eq (cardsFault2 x at_ hx)) ?_
  rintro _ rfl
  rw [hf, ha]
  refine Ret.neg rfl ?_
  refine Ret.call (Ret.eq (confirmed_ok x at_ hx (by omega))) ?_
  rintro _ rfl
  (dsimp +instances only [gi0,gis,row1,rows1,int1,str1,bool1])
  refine Ret.loop (P := fun k g => k = 0 ∧ ∃ v, g = [.l [[.s (⟨#[97]⟩ : ByteArray), .s v]]] ∧ F_strings_HasSuffix [.s v, .s yesB] = some [.t (leI 0 (sinceA c n at_ x))]) ?_ rfl ?_
  · have round : Ret (st_club_Progress_10 [.l [], .l (confA at_ x), .l [awd c n], .i 1, .i 0]) fun o => ∃ v, o = (none, [.l [[.s (⟨#[97]⟩ : ByteArray), .s v]], .l (confA at_ x), .l [awd c n], .i 1, .i 1]) ∧ F_strings_HasSuffix [.s v, .s yesB] = some [.t (leI 0 (sinceA c n at_ x))] := by
      unfold st_club_Progress_10
      (dsimp +instances only [gi0,gis,row1,rows1,int1,str1,bool1])
      refine Ret.pos rfl (Ret.pos rfl ?_)
      refine Ret.call (P := fun g => g = [.i ((cntAll (awd c n) cnt0 (confA at_ x)).m.length : Int), .i (cntAll (awd c n) cnt0 (confA at_ x)).since]) (Ret.eq (reached_ok c n (confA at_ x) (fun z hz => hx z (hcm z hz)) (by omega))) ?_
      rintro _ rfl
      (dsimp +instances only [gi0,gis,row1,rows1,int1,str1,bool1])
      refine Ret.call (Ret.eq (itoa_ok _ (by omega))) ?_
      rintro _ rfl
      (dsimp +instances only [gi0,gis,row1,rows1,int1,str1,bool1])
      refine Ret.pos (by rw [Nat.ble_eq]; omega) ?_
      refine Ret.call (P := fun g => g = [.s (itoaB (n : Int))]) (Ret.eq (itoa_ok n (by omega))) ?_
      rintro _ rfl
      (dsimp +instances only [gi0,gis,row1,rows1,int1,str1,bool1])
      have sz : ((itoaB ((cntAll (awd c n) cnt0 (confA at_ x)).m.length : Int)) ++ slashB).size = (itoaB ((cntAll (awd c n) cnt0 (confA at_ x)).m.length : Int)).size + 1 := by rw [ByteArray.size_append, s1]
      have sz2 : (((itoaB ((cntAll (awd c n) cnt0 (confA at_ x)).m.length : Int)) ++ slashB) ++ itoaB (n : Int)).size = (itoaB ((cntAll (awd c n) cnt0 (confA at_ x)).m.length : Int)).size + 1 + (itoaB (n : Int)).size := by rw [ByteArray.size_append, sz]
      refine Ret.pos (show Nat.ble (((itoaB ((cntAll (awd c n) cnt0 (confA at_ x)).m.length : Int)) ++ slashB).size + (itoaB (n : Int)).size) 9223372036854775807 = true by rw [Nat.ble_eq, sz]; omega) ?_
      refine Ret.test (fun h => ?_) fun h => ?_
      · refine Ret.pos (show Nat.ble ((((itoaB ((cntAll (awd c n) cnt0 (confA at_ x)).m.length : Int)) ++ slashB) ++ itoaB (n : Int)).size + 4) 9223372036854775807 = true by rw [Nat.ble_eq, sz2]; omega) ?_
        refine Ret.pos rfl (Ret.pos rfl (Ret.pos rfl (Ret.some ⟨_, rfl, ?_⟩)))
        unfold sinceA
        rw [h]
        exact w2
      · refine Ret.pos rfl (Ret.pos rfl (Ret.pos rfl (Ret.some ⟨_, rfl, ?_⟩)))
        unfold sinceA
        rw [h]
        exact w1
    obtain ⟨_, h, v, rfl, hv⟩ := round
    refine (RetN.next h (RetN.stop (m := 1) (x := 0) (d' := [.l [[.s (⟨#[97]⟩ : ByteArray), .s v]]]) (Ret.toEq ?_) ⟨rfl, v, rfl, hv⟩)).to (by omega)
    unfold st_club_Progress_10
    (dsimp +instances only [gi0,gis,row1,rows1,int1,str1,bool1])
    exact Ret.neg rfl (Ret.pos rfl (Ret.some rfl))
  · rintro _ _ ⟨rfl, v, rfl, hv⟩
    exact Ret.pos rfl (Ret.some ⟨v, rfl, hv⟩)
theorem when_ok (c n : Int) (x : List (List G)) (h1 : 1 ≤ c) (h2 : c ≤ 4) (h3 : 1 ≤ n) (h4 : n ≤ 4) (hx : ∀ z ∈ x, Crd z) (hn : x.length ≤ 20) (hf : faultCards x = 0) :
    F_club_When [.l [awd c n], .l x] = some [.i (if 0 > sinceA c n 345686400000 x then 0 else sinceA c n 345686400000 x), .t (leI 0 (sinceA c n 345686400000 x)), .i 0] := by
  have hcl : (confA 345686400000 x).length ≤ x.length := confL_length _ x x.length
  have hcm : ∀ z ∈ confA 345686400000 x, z ∈ x := confL_mem _ x x.length (Nat.le_refl _)
  refine Ret.toEq ?_
  unfold F_club_When
  (dsimp +instances only [gi0,gis,row1,rows1,int1,str1,bool1])
  refine Ret.call (P := fun g => g = [.i 0]) (Ret.eq (checkAwards_ok c n h1 h2 h3 h4)) ?_
  rintro _ rfl
  refine Ret.neg rfl ?_
  refine Ret.call (Ret.eq (checkCards_ok x hx)) ?_
  rintro _ rfl
  rw [hf]
  refine Ret.neg rfl ?_
  refine Ret.call (Ret.eq (confirmed_ok x 345686400000 hx (by omega))) ?_
  rintro _ rfl
  (dsimp +instances only [gi0,gis,row1,rows1,int1,str1,bool1])
  refine Ret.call (P := fun g => g = [.i ((cntAll (awd c n) cnt0 (confA 345686400000 x)).m.length : Int), .i (cntAll (awd c n) cnt0 (confA 345686400000 x)).since]) (Ret.eq (reached_ok c n (confA 345686400000 x) (fun z hz => hx z (hcm z hz)) (by omega))) ?_
  rintro _ rfl
  exact Ret.some rfl
theorem conf_before (at_ : Int) (l : List (List G)) : ∀ i, ∀ r ∈ confL at_ l i, (gi r 0).int ≤ at_
  | 0, r, h => by cases h
  | i + 1, r, h => by
    simp only [confL] at h
    rcases List.mem_append.1 h with h | h
    · exact conf_before at_ l i r h
    · cases hb : cameB at_ (confL at_ l i) (l.getD i []) with
      | true =>
        rw [hb] at h
        simp at h
        unfold cameB at hb
        simp only [Bool.and_eq_true, leI_eq, decide_eq_true_eq] at hb
        rw [h]
        simpa using hb.1
      | false => rw [hb] at h; simp at h
theorem conf_behind {l : List (List G)} (hs : l.Pairwise fun a b => ordK a b < 0) {a b : Int} (hab : a ≤ b) : ∀ i, i ≤ l.length → ∃ t, confL b l i = confL a l i ++ t ∧ (∀ z ∈ t, a < (gi z 0).int) ∧ (t ≠ [] → 1 ≤ i ∧ a < (gi (l.getD (i - 1) []) 0).int)
  | 0, _ => ⟨[], rfl, by simp, fun h => (h rfl).elim⟩
  | i + 1, hi => by
    obtain ⟨t, h1, h3, h2⟩ := conf_behind hs hab i (by omega)
    by_cases hx : (gi (l.getD i []) 0).int ≤ a
    · have ht : t = [] := by
        refine Decidable.byContradiction fun hne => ?_
        obtain ⟨q1, q2⟩ := h2 hne
        have := ordK_at (Int.le_of_lt (adj_of_pairwise hs i q1 (by omega)))
        omega
      subst ht
      rw [List.append_nil] at h1
      refine ⟨[], ?_, by simp, fun h => (h rfl).elim⟩
      have e : cameB b (confL a l i) (l.getD i []) = cameB a (confL a l i) (l.getD i []) := by
        unfold cameB
        rw [leI_eq, leI_eq, decide_eq_true hx, decide_eq_true (Int.le_trans hx hab)]
      simp only [confL, h1, e, List.append_nil]
    · have e : cameB a (confL a l i) (l.getD i []) = false := by
        unfold cameB
        rw [leI_eq, decide_eq_false hx]
        rfl
      refine ⟨t ++ bif cameB b (confL b l i) (l.getD i []) then [l.getD i []] else [], ?_, fun z hz => ?_, fun _ => ⟨by omega, by simpa using hx⟩⟩
      · simp only [confL, e, cond_false, List.append_nil]
        rw [← List.append_assoc, ← h1]
      · rcases List.mem_append.1 hz with hz | hz
        · exact h3 z hz
        · cases hb : cameB b (confL b l i) (l.getD i []) with
          | true => rw [hb] at hz; simp at hz; rw [hz]; simpa using hx
          | false => rw [hb] at hz; simp at hz
theorem since_law (c n at_ : Int) (x : List (List G)) (hx : ∀ z ∈ x, Crd z) (hn : x.length ≤ 20) (hf : faultCards x = 0) (h0 : 0 ≤ at_) (h1 : at_ ≤ 1000) :
    leI 0 (sinceA c n at_ x) = if 0 ≤ sinceA c n 345686400000 x then leI (sinceA c n 345686400000 x) at_ else false := by
  obtain ⟨hrise, hone⟩ := right_rise (by omega) hf
  obtain ⟨t, ht, hat, _⟩ := conf_behind hrise (a := at_) (b := 345686400000) (by omega) x.length (Nat.le_refl _)
  have ht : confA 345686400000 x = confA at_ x ++ t := ht
  have e : cntAll (awd c n) cnt0 (confA 345686400000 x) = cntAll (awd c n) (cntAll (awd c n) cnt0 (confA at_ x)) t := by
    rw [ht]
    unfold cntAll
    rw [List.foldl_append]
  unfold sinceA
  rw [e]
  rw [leI_eq, leI_eq]
  by_cases hs : 0 ≤ (cntAll (awd c n) cnt0 (confA at_ x)).since
  · rw [cntAll_stays _ _ _ hs, if_pos hs, decide_eq_true hs]
    rcases cntAll_from (awd c n) (confA at_ x) cnt0 with h | ⟨y, hy, h⟩
    · have h2 : cnt0.since = -1 := rfl
      omega
    · have := conf_before at_ x x.length y hy
      rw [h]
      exact (decide_eq_true this).symm
  · rw [decide_eq_false hs]
    split
    · rename_i hp
      rcases cntAll_from (awd c n) t (cntAll (awd c n) cnt0 (confA at_ x)) with h | ⟨y, hy, h⟩
      · omega
      · have := hat y hy
        rw [h]
        exact (decide_eq_false (by omega)).symm
    · rfl
theorem awardsStay_data (rows : List (List G)) : F_pilekeep2_AwardsStay [.l rows] = some [.t true] := by
  refine Ret.toEq ?_
  unfold F_pilekeep2_AwardsStay
  (dsimp +instances only [gi0,gis,row1,rows1,int1,str1,bool1])
  refine Ret.call (r_Range rows 0 0 14 (by omega) (by omega) (by omega) (by omega) (by omega)) ?_
  rintro _ ⟨k, rfl, hk0, hk1⟩
  (dsimp +instances only [gi0,gis,row1,rows1,int1,str1,bool1])
  refine Ret.call (r_RightCards rows _ k (by omega) (by omega) hk0 (by omega)) ?_
  rintro _ ⟨p1, x, rfl, hp1, hp1', hx, hxl, hf⟩
  (dsimp +instances only [gi0,gis,row1,rows1,int1,str1,bool1])
  refine Ret.call (r_Range rows _ 1 4 (by omega) (by omega) (by omega) (by omega) (by omega)) ?_
  rintro _ ⟨c, rfl, hc0, hc1⟩
  (dsimp +instances only [gi0,gis,row1,rows1,int1,str1,bool1])
  refine Ret.call (r_Range rows _ 1 4 (by omega) (by omega) (by omega) (by omega) (by omega)) ?_
  rintro _ ⟨n, rfl, hn0, hn1⟩
  (dsimp +instances only [gi0,gis,row1,rows1,int1,str1,bool1])
  obtain ⟨n, rfl⟩ := Int.eq_ofNat_of_zero_le (show 0 ≤ n by omega)
  refine Ret.call (P := fun g => g = [.i (if 0 > sinceA c n 345686400000 x then 0 else sinceA c n 345686400000 x), .t (leI 0 (sinceA c n 345686400000 x)), .i 0]) (Ret.eq (when_ok c n x hc0 hc1 hn0 hn1 hx hxl hf)) ?_
  rintro _ rfl
  (dsimp +instances only [gi0,gis,row1,rows1,int1,str1,bool1])
  refine Ret.neg rfl ?_
  generalize hs : sinceA c n 345686400000 x = s
  refine Ret.loop (P := fun k g => k = 1) ?_ rfl ?_
  · refine (range_inv (σ := Unit) (fun _ i => [.s (⟨#[97]⟩ : ByteArray), .s (⟨#[]⟩ : ByteArray), .i c, .i (n : Int), .l x, .i (if 0 > s then 0 else s), .t (leI 0 s), .l [[.i 0], [.i 5], [.i 20], [.i 50], [.i 200]], .i 5, .i (i : Int)]) [[.i 0], [.i 5], [.i 20], [.i 50], [.i 200]] (fun _ => (1, [])) (fun _ _ => True) (fun _ _ => False) () (by simp) trivial ?_ ?_).mono ?_
    · rintro _ i y _ hi hy hm _
      obtain ⟨at_, rfl, ha0, ha1⟩ : ∃ a : Int, y = [.i a] ∧ 0 ≤ a ∧ a ≤ 200 := by
        simp only [List.mem_cons, List.not_mem_nil, or_false] at hm
        rcases hm with rfl | rfl | rfl | rfl | rfl
        · exact ⟨0, rfl, by omega, by omega⟩
        · exact ⟨5, rfl, by omega, by omega⟩
        · exact ⟨20, rfl, by omega, by omega⟩
        · exact ⟨50, rfl, by omega, by omega⟩
        · exact ⟨200, rfl, by omega, by omega⟩
      have hi : i < 5 := hi
      have hib : inB at_ 0 345686399999 = true := by
        unfold inB
        simp only [leI_eq, Bool.and_eq_true, decide_eq_true_eq]
        omega
      unfold st_pilekeep2_AwardsStay_8
      (dsimp +instances only [gi0,gis,row1,rows1,int1,str1,bool1])
      simp only [Int.toNat_natCast, hy]
      (dsimp +instances only [gi0,gis,row1,rows1,int1,str1,bool1])
      refine Ret.pos (by (first|rfl|assumption|(simp only [inI,sl]<;>omega))) (Ret.pos (by simp only [nnI_eq, ltI_eq, Bool.and_eq_true, decide_eq_true_eq, List.length_cons, List.length_nil]; omega) ?_)
      refine Ret.call (progress_ok c n x at_ hc0 hc1 (by omega) (by omega) hx hxl hf hib) ?_
      rintro _ ⟨v, rfl, hv⟩
      (dsimp +instances only [gi0,gis,row1,rows1,int1,str1,bool1])
      refine Ret.neg rfl (Ret.neg rfl (Ret.pos rfl ?_))
      refine Ret.call (P := fun g => g = [.t (leI 0 (sinceA c n at_ x))]) (Ret.eq hv) ?_
      rintro _ rfl
      (dsimp +instances only [gi0,gis,row1,rows1,int1,str1,bool1])
      have hlaw := since_law c n at_ x hx hxl hf ha0 (by omega)
      rw [hs] at hlaw
      rw [hlaw]
      refine Ret.test (fun h => ?_) fun h => ?_
      · have h : leI 0 s = true := h
        rw [leI_eq, decide_eq_true_eq] at h
        rw [if_pos h, if_neg (by omega)]
        refine Ret.neg (by simp) (Ret.pos (by (first|rfl|assumption|(simp only [inI,sl]<;>omega))) (Ret.some (.inl ⟨(), ?_, trivial⟩)))
        rw [leI_eq, decide_eq_true h]
        rfl
      · have h : leI 0 s = false := h
        have h' := h
        rw [leI_eq, decide_eq_false_iff_not] at h
        rw [if_neg h]
        refine Ret.neg (by simp) (Ret.pos (by (first|rfl|assumption|(simp only [inI,sl]<;>omega))) (Ret.some (.inl ⟨(), ?_, trivial⟩)))
        rw [h']
        rfl
    · rintro _ _
      unfold st_pilekeep2_AwardsStay_8
      (dsimp +instances only [gi0,gis,row1,rows1,int1,str1,bool1])
      exact Ret.neg rfl (Ret.some rfl)
    · rintro k g (⟨_, _, rfl, _⟩ | h)
      · rfl
      · exact h.elim
  · rintro k g rfl
    refine Ret.neg rfl ?_
    refine Ret.call (Ret.eq (rfl : F_pilekeep2_ready [] = some [.t true])) ?_
    rintro _ rfl
    exact Ret.some rfl
end
end Go.Proofs.SYthnhleemkjpigaaGreatDoor
