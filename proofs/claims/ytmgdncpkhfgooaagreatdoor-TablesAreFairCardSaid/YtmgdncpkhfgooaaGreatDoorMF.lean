/-
  What is proved here: what the methods of the stream give on data. No condition.
-/
import Derived.Test.YtmgdncpkhfgooaaGreatDoorML3
import Derived.Test.YtmgdncpkhfgooaaGreatDoorME
set_option linter.unusedSimpArgs false
set_option linter.unusedVariables false
set_option linter.unusedSectionVars false
namespace Go.Proofs.SYtmgdncpkhfgooaaGreatDoor
open Go Go.AL Go.Proofs
noncomputable section

theorem r_Below (x n : Int) (h0 : 1 ≤ n) (h1 : n ≤ 1099511627776) : Ret (F_pilemake_Below [.i x, .i n]) fun g => ∃ v, g = [.i v] ∧ 0 ≤ v ∧ v < n := by
  unfold F_pilemake_Below
  (dsimp +instances only [gi0,gis,row1,rows1,int1,str1,bool1])
  have ha := Int.tmod_lt_of_pos x (by omega : 0 < n)
  have hb := Int.lt_tmod_of_pos x (by omega : 0 < n)
  (repeat(first|(refine Ret.pos ?_ ?_;(first|rfl|assumption|(simp only [inI,sl]<;>omega)))|(refine Ret.neg ?_ ?_;(first|rfl|assumption|(simp only [inI,sl]<;>omega)))))
  refine Ret.test (fun h => ?_) fun h => ?_
  · simp only [ltI_eq, decide_eq_true_eq] at h
    (repeat(first|(refine Ret.pos ?_ ?_;(first|rfl|assumption|(simp only [inI,sl]<;>omega)))|(refine Ret.neg ?_ ?_;(first|rfl|assumption|(simp only [inI,sl]<;>omega)))))
    exact Ret.some ⟨_, rfl, by omega, by omega⟩
  · simp only [ltI_eq, decide_eq_false_iff_not] at h
    exact Ret.some ⟨_, rfl, by omega, by omega⟩

/-- A number of the stream; how far it is then. -/
theorem r_Next (l : List (List G)) (a n : Int) (ha : 0 ≤ a) (ha1 : a ≤ 1000000) (h0 : 1 ≤ n) (h1 : n ≤ 1099511627776) :
    Ret (F_pilemake_Stream_Next [.l l, .i a, .i n]) fun g => ∃ v, g = [.l l, .i (a + 1), .i v] ∧ 0 ≤ v ∧ v < n := by
  unfold F_pilemake_Stream_Next
  (dsimp +instances only [gi0,gis,row1,rows1,int1,str1,bool1])
  have ea : a + 1 - 1 = a := by omega
  simp only [ea]
  by_cases hl : l.length = 0
  · (repeat(first|(refine Ret.pos ?_ ?_;(first|rfl|assumption|(simp only [inI,sl]<;>omega)))|(refine Ret.neg ?_ ?_;(first|rfl|assumption|(simp only [inI,sl]<;>omega)))))
    refine Ret.call (r_Below _ n h0 h1) ?_
    rintro _ ⟨v, rfl, h2, h3⟩
    (dsimp +instances only [gi0,gis,row1,rows1,int1,str1,bool1])
    exact Ret.some ⟨v, rfl, h2, h3⟩
  · have hp : (0 : Int) < (l.length : Int) := by omega
    have d0 : 0 ≤ Int.tdiv a l.length := Int.tdiv_nonneg ha (by omega)
    have d1 : Int.tdiv a l.length ≤ a := by
      rw [Int.tdiv_eq_ediv_of_nonneg ha]
      exact Int.ediv_le_self _ ha
    have m0 : 0 ≤ Int.tmod a l.length := by
      rw [Int.tmod_eq_emod_of_nonneg ha]
      exact Int.emod_nonneg _ (by omega)
    have m1 : Int.tmod a l.length < l.length := Int.tmod_lt_of_pos a hp
    have m2 : Int.tmod a l.length ≤ a := by
      rw [Int.tmod_eq_emod_of_nonneg ha]
      have := Int.mul_ediv_add_emod a l.length
      have h4 : 0 ≤ (l.length : Int) * (a / l.length) := Int.mul_nonneg (by omega) (Int.ediv_nonneg ha (by omega))
      omega
    generalize hq : Int.tdiv a l.length = q at *
    generalize hr : Int.tmod a l.length = r at *
    have p0 : 0 ≤ q * (7919 + r) := Int.mul_nonneg d0 (by omega)
    have p1 : q * (7919 + r) ≤ 1000000 * 2000000 := Int.mul_le_mul (by omega) (by omega) (by omega) (by omega)
    generalize hz : q * (7919 + r) = z at *
    (repeat(first|(refine Ret.pos ?_ ?_;(first|rfl|assumption|(simp only [inI,sl]<;>omega)))|(refine Ret.neg ?_ ?_;(first|rfl|assumption|(simp only [inI,sl]<;>omega)))))
    refine Ret.call (r_Below _ 1073741824 (by omega) (by omega)) ?_
    rintro _ ⟨u, rfl, h2, h3⟩
    (dsimp +instances only [gi0,gis,row1,rows1,int1,str1,bool1])
    (repeat(first|(refine Ret.pos ?_ ?_;(first|rfl|assumption|(simp only [inI,sl]<;>omega)))|(refine Ret.neg ?_ ?_;(first|rfl|assumption|(simp only [inI,sl]<;>omega)))))
    refine Ret.call (r_Below _ n h0 h1) ?_
    rintro _ ⟨v, rfl, h4, h5⟩
    (dsimp +instances only [gi0,gis,row1,rows1,int1,str1,bool1])
    exact Ret.some ⟨v, rfl, h4, h5⟩

theorem r_Range (l : List (List G)) (a lo hi : Int) (ha : 0 ≤ a) (ha1 : a ≤ 1000000) (h0 : lo ≤ hi) (h1 : -1000000000 ≤ lo) (h2 : hi ≤ 1000000000) :
    Ret (F_pilemake_Stream_Range [.l l, .i a, .i lo, .i hi]) fun g => ∃ v, g = [.l l, .i (a + 1), .i v] ∧ lo ≤ v ∧ v ≤ hi := by
  unfold F_pilemake_Stream_Range
  (dsimp +instances only [gi0,gis,row1,rows1,int1,str1,bool1])
  (repeat(first|(refine Ret.pos ?_ ?_;(first|rfl|assumption|(simp only [inI,sl]<;>omega)))|(refine Ret.neg ?_ ?_;(first|rfl|assumption|(simp only [inI,sl]<;>omega)))))
  refine Ret.call (r_Next l a _ ha ha1 (by omega) (by omega)) ?_
  rintro _ ⟨v, rfl, h3, h4⟩
  (dsimp +instances only [gi0,gis,row1,rows1,int1,str1,bool1])
  (repeat(first|(refine Ret.pos ?_ ?_;(first|rfl|assumption|(simp only [inI,sl]<;>omega)))|(refine Ret.neg ?_ ?_;(first|rfl|assumption|(simp only [inI,sl]<;>omega)))))
  exact Ret.some ⟨_, rfl, by omega, by omega⟩

theorem getD_mem' {l : List (List G)} {v : Int} (h0 : 0 ≤ v) (h1 : v < l.length) : l.getD v.toNat [] ∈ l := by
  have : v.toNat < l.length := by omega
  rw [List.getD_eq_getElem?_getD, List.getElem?_eq_getElem this]
  exact List.getElem_mem this

theorem r_Pick (P : Int → Prop) (l : List (List G)) (a : Int) (xs : List (List G)) (ha : 0 ≤ a) (ha1 : a ≤ 1000000) (h0 : 1 ≤ xs.length) (h1 : xs.length ≤ 1000000) (hP : ∀ x ∈ xs, P (gi x 0).int) :
    Ret (F_pilemake_Stream_Pick [.l l, .i a, .l xs]) fun g => ∃ v, g = [.l l, .i (a + 1), .i v] ∧ P v := by
  unfold F_pilemake_Stream_Pick
  (dsimp +instances only [gi0,gis,row1,rows1,int1,str1,bool1])
  refine Ret.call (r_Next l a _ ha ha1 (by omega) (by omega)) ?_
  rintro _ ⟨v, rfl, h3, h4⟩
  (dsimp +instances only [gi0,gis,row1,rows1,int1,str1,bool1])
  (repeat(first|(refine Ret.pos ?_ ?_;(first|rfl|assumption|(simp only [inI,sl]<;>omega)))|(refine Ret.neg ?_ ?_;(first|rfl|assumption|(simp only [inI,sl]<;>omega)))))
  exact Ret.some ⟨_, rfl, hP _ (getD_mem' h3 h4)⟩

theorem r_Some (P : ByteArray → Prop) (l : List (List G)) (a : Int) (xs : List (List G)) (ha : 0 ≤ a) (ha1 : a ≤ 1000000) (h0 : 1 ≤ xs.length) (h1 : xs.length ≤ 1000000) (hP : ∀ x ∈ xs, P (gi x 0).str) :
    Ret (F_pilemake_Stream_Some [.l l, .i a, .l xs]) fun g => ∃ v, g = [.l l, .i (a + 1), .s v] ∧ P v := by
  unfold F_pilemake_Stream_Some
  (dsimp +instances only [gi0,gis,row1,rows1,int1,str1,bool1])
  refine Ret.call (r_Next l a _ ha ha1 (by omega) (by omega)) ?_
  rintro _ ⟨v, rfl, h3, h4⟩
  (dsimp +instances only [gi0,gis,row1,rows1,int1,str1,bool1])
  (repeat(first|(refine Ret.pos ?_ ?_;(first|rfl|assumption|(simp only [inI,sl]<;>omega)))|(refine Ret.neg ?_ ?_;(first|rfl|assumption|(simp only [inI,sl]<;>omega)))))
  exact Ret.some ⟨_, rfl, hP _ (getD_mem' h3 h4)⟩

theorem r_Flip (l : List (List G)) (a n : Int) (ha : 0 ≤ a) (ha1 : a ≤ 1000000) (h0 : 1 ≤ n) (h1 : n ≤ 1000000) :
    Ret (F_pilemake_Stream_Flip [.l l, .i a, .i n]) fun g => ∃ b, g = [.l l, .i (a + 1), .t b] := by
  unfold F_pilemake_Stream_Flip
  (dsimp +instances only [gi0,gis,row1,rows1,int1,str1,bool1])
  refine Ret.call (r_Next l a _ ha ha1 (by omega) (by omega)) ?_
  rintro _ ⟨v, rfl, h3, h4⟩
  exact Ret.some ⟨_, rfl⟩

/-- A number that need not be between the bounds. -/
theorem r_Odd (l : List (List G)) (a lo hi : Int) (ha : 0 ≤ a) (ha1 : a ≤ 900000) (h0 : lo ≤ hi) (h1 : -1000000000 ≤ lo) (h2 : hi ≤ 1000000000) :
    Ret (F_pilemake_Stream_Odd [.l l, .i a, .i lo, .i hi]) fun g => ∃ v, g = [.l l, .i (a + 2), .i v] ∧ -1099511627776 ≤ v ∧ (v ≤ 1000000001 ∨ v = 1099511627776) := by
  unfold F_pilemake_Stream_Odd
  (dsimp +instances only [gi0,gis,row1,rows1,int1,str1,bool1])
  have e2 : a + 1 + 1 = a + 2 := by omega
  refine Ret.call (r_Flip l a 12 ha (by omega) (by omega) (by omega)) ?_
  rintro _ ⟨b, rfl⟩
  (dsimp +instances only [gi0,gis,row1,rows1,int1,str1,bool1])
  cases b with
  | true =>
    (repeat(first|(refine Ret.pos ?_ ?_;(first|rfl|assumption|(simp only [inI,sl]<;>omega)))|(refine Ret.neg ?_ ?_;(first|rfl|assumption|(simp only [inI,sl]<;>omega)))))
    refine Ret.call (r_Pick (fun v => -1099511627776 ≤ v ∧ (v ≤ 1000000001 ∨ v = 1099511627776)) l (a + 1) _ (by omega) (by omega) (by simp) (by simp) ?_) ?_
    · intro x hx
      simp only [List.mem_cons, List.not_mem_nil, or_false] at hx
      rcases hx with rfl | rfl | rfl | rfl | rfl | rfl <;> (dsimp +instances only [gi0,gis,row1,rows1,int1,str1,bool1]) <;> omega
    · rintro _ ⟨v, rfl, h3, h4⟩
      (dsimp +instances only [gi0,gis,row1,rows1,int1,str1,bool1])
      exact Ret.some ⟨v, by rw [e2], h3, h4⟩
  | false =>
    (repeat(first|(refine Ret.pos ?_ ?_;(first|rfl|assumption|(simp only [inI,sl]<;>omega)))|(refine Ret.neg ?_ ?_;(first|rfl|assumption|(simp only [inI,sl]<;>omega)))))
    refine Ret.call (r_Range l (a + 1) lo hi (by omega) (by omega) h0 h1 h2) ?_
    rintro _ ⟨v, rfl, h3, h4⟩
    (dsimp +instances only [gi0,gis,row1,rows1,int1,str1,bool1])
    exact Ret.some ⟨v, by rw [e2], by omega, by omega⟩

end
end Go.Proofs.SYtmgdncpkhfgooaaGreatDoor

namespace Go.Proofs.SYtmgdncpkhfgooaaGreatDoor
open Go Go.AL Go.Proofs
noncomputable section

def inL (L : List ByteArray) (s : ByteArray) : Bool := L.any fun x => eqS x s
theorem inL_mem {L : List ByteArray} {s : ByteArray} (h : inL L s = true) : s ∈ L := by
  obtain ⟨x, hx, he⟩ := List.any_eq_true.1 h
  exact eqS_eq he ▸ hx

theorem r_PickB (lo hi : Int) (l : List (List G)) (a : Int) (xs : List (List G)) (ha : 0 ≤ a) (ha1 : a ≤ 1000000) (h0 : (Nat.ble 1 xs.length && Nat.ble xs.length 1000000) = true) (hP : (xs.all fun x => leI lo (gi x 0).int && leI (gi x 0).int hi) = true) :
    Ret (F_pilemake_Stream_Pick [.l l, .i a, .l xs]) fun g => ∃ v, g = [.l l, .i (a + 1), .i v] ∧ lo ≤ v ∧ v ≤ hi := by
  simp only [Bool.and_eq_true, Nat.ble_eq] at h0
  refine r_Pick (fun v => lo ≤ v ∧ v ≤ hi) l a xs ha ha1 h0.1 h0.2 fun x hx => ?_
  have := List.all_eq_true.1 hP x hx
  simpa only [leI_eq, Bool.and_eq_true, decide_eq_true_eq] using this
theorem r_SomeB (L : List ByteArray) (l : List (List G)) (a : Int) (xs : List (List G)) (ha : 0 ≤ a) (ha1 : a ≤ 1000000) (h0 : (Nat.ble 1 xs.length && Nat.ble xs.length 1000000) = true) (hP : (xs.all fun x => inL L (gi x 0).str) = true) :
    Ret (F_pilemake_Stream_Some [.l l, .i a, .l xs]) fun g => ∃ v, g = [.l l, .i (a + 1), .s v] ∧ v ∈ L := by
  simp only [Bool.and_eq_true, Nat.ble_eq] at h0
  exact r_Some (fun v => v ∈ L) l a xs ha ha1 h0.1 h0.2 fun x hx => inL_mem (List.all_eq_true.1 hP x hx)

def calls : List ByteArray := [⟨#[]⟩, ⟨#[107, 49]⟩, ⟨#[75, 49, 65, 66]⟩, ⟨#[107, 49, 97, 98, 47]⟩, ⟨#[49, 97]⟩, ⟨#[107, 49, 97, 98, 47, 109, 109, 47, 112]⟩, ⟨#[107, 49, 97, 98]⟩, ⟨#[107, 49, 97, 97]⟩, ⟨#[107, 49, 97, 98, 47, 52]⟩,
  ⟨#[111, 104, 50, 97, 98, 99]⟩, ⟨#[111, 104, 50, 97, 98, 100]⟩, ⟨#[119, 49, 97, 119]⟩, ⟨#[110, 49, 109, 109]⟩, ⟨#[103, 51, 120, 121, 122, 47, 112]⟩]
def bands : List ByteArray := [⟨#[]⟩, ⟨#[66]⟩, ⟨#[98, 50, 48]⟩, ⟨#[98, 52, 48]⟩]
def names : List ByteArray := [⟨#[]⟩, ⟨#[65]⟩, ⟨#[49]⟩, ⟨#[102, 105, 110]⟩, ⟨#[117, 115, 97]⟩]

def small (n : Int) : Prop := -2000000000000 ≤ n ∧ n ≤ 2000000000000
/-- A contact as the stream makes it. -/
def Con (r : List G) : Prop := ∃ (t m : Int) (b c : ByteArray) (s h : Int) (x y : ByteArray), r = [.i t, .i m, .s b, .s c, .i s, .i h, .s x, .s y] ∧ small t ∧ small m ∧ small s ∧ small h ∧ b ∈ bands ∧ c ∈ calls ∧ x ∈ names ∧ y ∈ names

def tight (n : Int) : Prop := -1900000000000 ≤ n ∧ n ≤ 1900000000000
def tightT (n : Int) : Prop := -1900000000000 ≤ n ∧ (n ≤ 345000000000 ∨ (345686399999 < n ∧ n ≤ 1900000000000))
/-- The same, with numbers that may be counted up; no moment is just before the end of time. -/
def ConT (r : List G) : Prop := ∃ (t m : Int) (b c : ByteArray) (s h : Int) (x y : ByteArray), r = [.i t, .i m, .s b, .s c, .i s, .i h, .s x, .s y] ∧ tightT t ∧ tight m ∧ tight s ∧ tight h ∧ b ∈ bands ∧ c ∈ calls ∧ x ∈ names ∧ y ∈ names
theorem tight.to {n : Int} (h : tight n) : small n := ⟨by have := h.1; omega, by have := h.2; omega⟩
theorem tightT.to {n : Int} (h : tightT n) : small n := by
  unfold tightT at h
  exact ⟨by omega, by omega⟩
theorem ConT.to {r : List G} (h : ConT r) : Con r := by
  obtain ⟨t, m, b, c, s, h, x, y, e, h1, h2, h3, h4, h5⟩ := h
  exact ⟨t, m, b, c, s, h, x, y, e, h1.to, h2.to, h3.to, h4.to, h5⟩

theorem Con.eta {r : List G} (h : Con r) : gEta KContact r = r := by
  obtain ⟨t, m, b, c, s, h, x, y, rfl, _⟩ := h
  rfl

end
end Go.Proofs.SYtmgdncpkhfgooaaGreatDoor

namespace Go.Proofs.SYtmgdncpkhfgooaaGreatDoor
open Go Go.AL Go.Proofs
noncomputable section

def cmpI (a b : Int) : Int := if a < b then -1 else if b < a then 1 else 0

theorem compareBytes_zero : ∀ {a b : List UInt8}, Lib.compareBytes a b = 0 → a = b
  | [], [], _ => rfl
  | [], _ :: _, h => by simp [Lib.compareBytes] at h
  | _ :: _, [], h => by simp [Lib.compareBytes] at h
  | x :: a, y :: b, h => by
    unfold Lib.compareBytes at h
    split at h
    · cases h
    · split at h
      · cases h
      · rename_i h1 h2
        rw [compareBytes_zero h, UInt8.le_antisymm (UInt8.not_lt.1 h2) (UInt8.not_lt.1 h1)]
theorem compareBytes_self : ∀ a : List UInt8, Lib.compareBytes a a = 0
  | [] => rfl
  | x :: a => by simp [Lib.compareBytes, compareBytes_self a]

theorem str_eq (a b : ByteArray) : (a.toList == b.toList) = decide (cmpS a b = 0) := by
  rw [ByteArray.toList_eq, ByteArray.toList_eq, Bool.eq_iff_iff, decide_eq_true_eq, beq_iff_eq]
  constructor
  · intro h
    unfold cmpS
    rw [h]
    exact compareBytes_self _
  · exact fun h => compareBytes_zero h

def or4 (a b c d : Int) : Int := if a ≠ 0 then a else if b ≠ 0 then b else if c ≠ 0 then c else d
/-- How contacts are ordered. -/
def ordC (r s : List G) : Int := or4 (cmpI (gi r 0).int (gi s 0).int) (cmpS (gi r 3).str (gi s 3).str) (cmpS (gi r 2).str (gi s 2).str) (cmpI (gi r 1).int (gi s 1).int)

theorem cmpInt_eq (a b : Int) : F_cmp_Compare_int [.i a, .i b] = some [.i (cmpI a b)] := by
  refine Ret.toEq ?_
  unfold F_cmp_Compare_int F_cmp_isNaN_int cmpI
  (dsimp +instances only [gi0,gis,row1,rows1,int1,str1,bool1])
  simp only [bne_self_eq_false]
  refine Ret.call ⟨_, rfl, rfl⟩ ?_
  rintro _ rfl
  refine Ret.call ⟨_, rfl, rfl⟩ ?_
  rintro _ rfl
  (dsimp +instances only [gi0,gis,row1,rows1,int1,str1,bool1])
  (repeat(first|(refine Ret.pos ?_ ?_;(first|rfl|assumption|(simp only [inI,sl]<;>omega)))|(refine Ret.neg ?_ ?_;(first|rfl|assumption|(simp only [inI,sl]<;>omega)))))
  by_cases h1 : a < b
  · (repeat(first|(refine Ret.pos ?_ ?_;(first|rfl|assumption|(simp only [inI,sl]<;>omega)))|(refine Ret.neg ?_ ?_;(first|rfl|assumption|(simp only [inI,sl]<;>omega)))))
    exact Ret.some (by simp [h1])
  · by_cases h2 : b < a
    · (repeat(first|(refine Ret.pos ?_ ?_;(first|rfl|assumption|(simp only [inI,sl]<;>omega)))|(refine Ret.neg ?_ ?_;(first|rfl|assumption|(simp only [inI,sl]<;>omega)))))
      exact Ret.some (by simp [h1, h2])
    · (repeat(first|(refine Ret.pos ?_ ?_;(first|rfl|assumption|(simp only [inI,sl]<;>omega)))|(refine Ret.neg ?_ ?_;(first|rfl|assumption|(simp only [inI,sl]<;>omega)))))
      exact Ret.some (by simp [h1, h2])

def orL : List (List G) → Int
  | [] => 0
  | x :: q => if (gi x 0).int ≠ 0 then (gi x 0).int else orL q

theorem or_runs : ∀ (q p : List (List G)), p.length + q.length < 100000 →
    RetN st_cmp_Or_int_3 [.i 0, .l (p ++ q), .i ((p.length + q.length : Nat) : Int), .i (p.length : Int)] (q.length + 1) fun c g => c ≤ 1 ∧ g = [.i (orL q)]
  | [], p, hl => by
    refine RetN.stop (x := 1) (Ret.toEq ?_) ⟨by omega, rfl⟩
    unfold st_cmp_Or_int_3
    (dsimp +instances only [gi0,gis,row1,rows1,int1,str1,bool1])
    (repeat(first|(refine Ret.pos ?_ ?_;(first|rfl|assumption|(simp only [inI,sl]<;>omega)))|(refine Ret.neg ?_ ?_;(first|rfl|assumption|(simp only [inI,sl]<;>omega)))))
    exact Ret.some rfl
  | y :: q, p, hl => by
    simp only [List.length_cons] at hl
    have g1 : (p ++ y :: q).getD (p.length : Int).toNat [] = y := getD_mid _ _ _ _ _ (by simp)
    have hlen : (p ++ y :: q).length = p.length + q.length + 1 := by simp; omega
    by_cases he : (gi y 0).int = 0
    · have ih := or_runs q (p ++ [y]) (by simp; omega)
      have e : orL (y :: q) = orL q := by simp [orL, he]
      rw [e]
      refine RetN.next (Ret.toEq ?_) ih
      unfold st_cmp_Or_int_3
      (dsimp +instances only [gi0,gis,row1,rows1,int1,str1,bool1])
      simp only [g1, hlen, List.length_cons]
      (repeat(first|(refine Ret.pos ?_ ?_;(first|rfl|assumption|(simp only [inI,sl]<;>omega)))|(refine Ret.neg ?_ ?_;(first|rfl|assumption|(simp only [inI,sl]<;>omega)))))
      refine Ret.some ?_
      simp
      omega
    · refine RetN.stop (x := 0) (Ret.toEq ?_) ⟨by omega, rfl⟩
      unfold st_cmp_Or_int_3
      (dsimp +instances only [gi0,gis,row1,rows1,int1,str1,bool1])
      simp only [g1, hlen, List.length_cons]
      (repeat(first|(refine Ret.pos ?_ ?_;(first|rfl|assumption|(simp only [inI,sl]<;>omega)))|(refine Ret.neg ?_ ?_;(first|rfl|assumption|(simp only [inI,sl]<;>omega)))))
      refine Ret.some ?_
      simp [orL, he]

theorem or_eq (a b c d : Int) : F_cmp_Or_int [.l [[.i a], [.i b], [.i c], [.i d]]] = some [.i (or4 a b c d)] := by
  refine Ret.toEq ?_
  unfold F_cmp_Or_int
  (dsimp +instances only [gi0,gis,row1,rows1,int1,str1,bool1])
  have h := or_runs [[.i a], [.i b], [.i c], [.i d]] [] (by simp)
  refine Ret.loop (h.to (by simp)) (by (first|rfl|assumption|(simp only [inI,sl]<;>omega))) ?_
  rintro x g ⟨hx, rfl⟩
  have e : orL [[.i a], [.i b], [.i c], [.i d]] = or4 a b c d := by
    simp only [orL, or4]
    (dsimp +instances only [gi0,gis,row1,rows1,int1,str1,bool1])
    by_cases h1 : a = 0 <;> by_cases h2 : b = 0 <;> by_cases h3 : c = 0 <;> by_cases h4 : d = 0 <;> simp [h1, h2, h3, h4]
  rw [e]
  (dsimp +instances only [gi0,gis,row1,rows1,int1,str1,bool1])
  exact Ret.test (fun _ => Ret.some rfl) fun _ => Ret.some rfl

theorem compare_eq {r s : List G} (hr : Con r) (hs : Con s) : F_log_Compare [.l [r], .l [s]] = some [.i (ordC r s)] := by
  obtain ⟨t, m, b, c, _, _, _, _, rfl, ht, hm, _⟩ := hr
  obtain ⟨t', m', b', c', _, _, _, _, rfl, ht', hm', _⟩ := hs
  refine Ret.toEq ?_
  unfold F_log_Compare
  (dsimp +instances only [gi0,gis,row1,rows1,int1,str1,bool1])
  refine Ret.call (Ret.eq (cmpInt_eq t t')) ?_
  rintro _ rfl
  refine Ret.call (Ret.eq (rfl : F_strings_Compare [.s c, .s c'] = some [.i (cmpS c c')])) ?_
  rintro _ rfl
  refine Ret.call (Ret.eq (rfl : F_strings_Compare [.s b, .s b'] = some [.i (cmpS b b')])) ?_
  rintro _ rfl
  refine Ret.call (Ret.eq (cmpInt_eq m m')) ?_
  rintro _ rfl
  (dsimp +instances only [gi0,gis,row1,rows1,int1,str1,bool1])
  refine Ret.call (Ret.eq (or_eq _ _ _ _)) ?_
  rintro _ rfl
  exact Ret.some rfl

theorem cmpCompare : Cmp KContact F_log_Compare Con ordC := ⟨fun _ _ hr hs => compare_eq hr hs, fun _ h => h.eta⟩

end
end Go.Proofs.SYtmgdncpkhfgooaaGreatDoor

namespace Go.Proofs.SYtmgdncpkhfgooaaGreatDoor
open Go Go.AL Go.Proofs
noncomputable section

def inB (v lo hi : Int) : Bool := leI lo v && leI v hi
theorem in_eq (v lo hi : Int) : F_pileref2_in [.i v, .i lo, .i hi] = some [.t (inB v lo hi)] := by
  unfold F_pileref2_in inB
  (dsimp +instances only [gi0,gis,row1,rows1,int1,str1,bool1])
  cases leI lo v <;> rfl
theorem outside_eq (v lo hi : Int) : F_kit_Outside [.i v, .i lo, .i hi] = some [.t (!inB v lo hi)] := by
  unfold F_kit_Outside inB
  (dsimp +instances only [gi0,gis,row1,rows1,int1,str1,bool1])
  have h1 : ltI v lo = !leI lo v := by rw [ltI_eq, leI_eq, Bool.eq_iff_iff]; simp
  have h2 : ltI hi v = !leI v hi := by rw [ltI_eq, leI_eq, Bool.eq_iff_iff]; simp
  rw [h1, h2]
  cases leI lo v <;> cases leI v hi <;> rfl

def okKey (s : ByteArray) : Bool := inL [⟨#[98, 50, 48]⟩, ⟨#[98, 52, 48]⟩, ⟨#[102, 105, 110]⟩, ⟨#[117, 115, 97]⟩] s
def okName (s : ByteArray) : Bool := inL [⟨#[]⟩] s || okKey s
def okCall (s : ByteArray) : Bool := (gi ((F_call_Is [.s s]).getD []) 0).bool

theorem isKey_eq {s : ByteArray} (h : s ∈ bands ∨ s ∈ names) : F_kit_IsKey [.s s] = some [.t (okKey s)] := by
  simp only [bands, names, List.mem_cons, List.not_mem_nil, or_false] at h
  rcases h with (rfl | rfl | rfl | rfl) | (rfl | rfl | rfl | rfl | rfl) <;> kernel_rfl
theorem key_eq {s : ByteArray} (h : s ∈ bands ∨ s ∈ names) : F_pileref2_Key [.s s] = some [.t (okKey s)] := by
  simp only [bands, names, List.mem_cons, List.not_mem_nil, or_false] at h
  rcases h with (rfl | rfl | rfl | rfl) | (rfl | rfl | rfl | rfl | rfl) <;> kernel_rfl
theorem isName_eq {s : ByteArray} (h : s ∈ names) : F_kit_IsName [.s s] = some [.t (okName s)] := by
  simp only [names, List.mem_cons, List.not_mem_nil, or_false] at h
  rcases h with (rfl | rfl | rfl | rfl | rfl) <;> kernel_rfl
theorem isCall_eq {s : ByteArray} (h : s ∈ calls) : F_call_Is [.s s] = some [.t (okCall s)] := by
  simp only [calls, List.mem_cons, List.not_mem_nil, or_false] at h
  rcases h with (rfl | rfl | rfl | rfl | rfl | rfl | rfl | rfl | rfl | rfl | rfl | rfl | rfl | rfl) <;> kernel_rfl
theorem call_eq {s : ByteArray} (h : s ∈ calls) : F_pileref2_Call [.s s] = some [.t (okCall s)] := by
  simp only [calls, List.mem_cons, List.not_mem_nil, or_false] at h
  rcases h with (rfl | rfl | rfl | rfl | rfl | rfl | rfl | rfl | rfl | rfl | rfl | rfl | rfl | rfl) <;> kernel_rfl

/-- What is wrong with a contact. -/
def faultC (r : List G) : Int :=
  bif !inB (gi r 0).int 0 345686399999 then 1 else bif !inB (gi r 1).int 1 3 then 4 else bif !okKey (gi r 2).str then 5 else bif !okCall (gi r 3).str then 3 else
  bif !inB (gi r 4).int 0 99999 then 1 else bif !inB (gi r 5).int 0 99999 then 1 else bif !okName (gi r 6).str then 5 else bif !okName (gi r 7).str then 5 else 0

theorem check_eq {r : List G} (hr : Con r) : F_log_CheckContact [.l [r]] = some [.i (faultC r)] := by
  obtain ⟨t, m, b, c, s, h, x, y, rfl, _, _, _, _, hb, hc, hx, hy⟩ := hr
  unfold F_log_CheckContact F_kit_IsMoment F_kit_IsMode faultC
  (dsimp +instances only [gi0,gis,row1,rows1,int1,str1,bool1])
  have kb := isKey_eq (.inl hb)
  have kx := isName_eq hx
  have ky := isName_eq hy
  have kc := isCall_eq hc
  rw [outside_eq t, outside_eq m]
  rw [kb, kc, outside_eq s, outside_eq h, kx, ky]
  generalize inB t 0 345686399999 = b1
  generalize inB m 1 3 = b2
  generalize okKey b = b3
  generalize okCall c = b4
  generalize inB s 0 99999 = b5
  generalize inB h 0 99999 = b6
  generalize okName x = b7
  generalize okName y = b8
  cases b1 <;> cases b2 <;> cases b3 <;> cases b4 <;> cases b5 <;> cases b6 <;> cases b7 <;> cases b8 <;> rfl

theorem empty_eq (s : ByteArray) : (s.toList == (⟨#[]⟩ : ByteArray).toList) = inL [⟨#[]⟩] s := by
  rw [ByteArray.toList_eq, ByteArray.toList_eq]
  simp only [inL, eqS, List.any_cons, List.any_nil, Bool.or_false]
  rw [Bool.eq_iff_iff]
  simp only [beq_iff_eq]
  exact eq_comm

end
end Go.Proofs.SYtmgdncpkhfgooaaGreatDoor

namespace Go.Proofs.SYtmgdncpkhfgooaaGreatDoor
open Go Go.AL Go.Proofs
noncomputable section

theorem bytes_flip' : ∀ a b : List UInt8, Lib.compareBytes b a = - Lib.compareBytes a b
  | [], [] => rfl
  | [], _ :: _ => rfl
  | _ :: _, [] => rfl
  | a :: xs, b :: ys => by
    simp only [Lib.compareBytes]
    have ih := bytes_flip' xs ys
    by_cases h1 : a < b
    · have h2 : ¬ b < a := fun h => UInt8.lt_irrefl a (UInt8.lt_trans h1 h)
      simp [h1, h2]
    · by_cases h2 : b < a
      · simp [h1, h2]
      · simp [h1, h2, ih]

theorem bytes_lt_trans' : ∀ {a b c : List UInt8}, Lib.compareBytes a b < 0 → Lib.compareBytes b c < 0 → Lib.compareBytes a c < 0
  | [], [], _, h, _ => by simp [Lib.compareBytes] at h
  | [], _ :: _, [], _, h => by simp [Lib.compareBytes] at h
  | [], _ :: _, _ :: _, _, _ => by simp [Lib.compareBytes]
  | _ :: _, [], _, h, _ => by simp [Lib.compareBytes] at h
  | _ :: _, _ :: _, [], _, h => by simp [Lib.compareBytes] at h
  | a :: xs, b :: ys, c :: zs, h1, h2 => by
    simp only [Lib.compareBytes] at h1 h2 ⊢
    by_cases hab : a < b
    · by_cases hbc : b < c
      · rw [if_pos (UInt8.lt_trans hab hbc)]
        omega
      · by_cases hcb : c < b
        · rw [if_neg hbc, if_pos hcb] at h2
          omega
        · have e : b = c := UInt8.le_antisymm (UInt8.not_lt.1 hcb) (UInt8.not_lt.1 hbc)
          subst e
          rw [if_pos hab]
          omega
    · by_cases hba : b < a
      · rw [if_neg hab, if_pos hba] at h1
        omega
      · have e : a = b := UInt8.le_antisymm (UInt8.not_lt.1 hba) (UInt8.not_lt.1 hab)
        subst e
        rw [if_neg (UInt8.lt_irrefl a), if_neg (UInt8.lt_irrefl a)] at h1
        by_cases hac : a < c
        · rw [if_pos hac]
          omega
        · by_cases hca : c < a
          · rw [if_neg hac, if_pos hca] at h2
            omega
          · rw [if_neg hac, if_neg hca] at h2 ⊢
            exact bytes_lt_trans' h1 h2


theorem str_ext {a b : ByteArray} (h : (a.toList == b.toList) = true) : a = b := by
  rw [ByteArray.toList_eq, ByteArray.toList_eq, beq_iff_eq] at h
  exact ByteArray.ext (Array.toList_inj.1 h)
theorem cmpS_z {a b : ByteArray} : cmpS a b = 0 ↔ a = b := by
  have h := str_eq a b
  constructor
  · intro e
    rw [decide_eq_true (p := cmpS a b = 0) e] at h
    exact str_ext h
  · rintro rfl
    have h2 : (a.toList == a.toList) = true := by simp
    rw [h2] at h
    exact of_decide_eq_true h.symm
theorem cmpI_z {a b : Int} : cmpI a b = 0 ↔ a = b := by
  unfold cmpI
  constructor
  · intro h
    split at h
    · omega
    · split at h <;> omega
  · rintro rfl
    simp
theorem cmpI_lt {a b : Int} : cmpI a b < 0 ↔ a < b := by
  unfold cmpI
  constructor
  · intro h
    split at h
    · assumption
    · split at h <;> omega
  · intro h
    rw [if_pos h]
    omega
theorem str_same (a b : ByteArray) : (a.toList == b.toList) = decide (a = b) := by
  rw [str_eq, Bool.eq_iff_iff, decide_eq_true_eq, decide_eq_true_eq]
  exact cmpS_z

/-- A comparison: its signs are those of an order. -/
structure Ordr {α : Type} (c : α → α → Int) : Prop where
  flip : ∀ a b, c b a = - c a b
  eq : ∀ a b, c a b = 0 → a = b
  tr : ∀ a b d, c a b < 0 → c b d < 0 → c a d < 0
theorem ordrI : Ordr cmpI := ⟨fun a b => by unfold cmpI; split <;> split <;> first | omega | (split <;> omega) | skip, fun a b h => cmpI_z.1 h, fun a b d h1 h2 => cmpI_lt.2 (Int.lt_trans (cmpI_lt.1 h1) (cmpI_lt.1 h2))⟩
theorem ordrS : Ordr cmpS := ⟨fun a b => bytes_flip' _ _, fun a b h => cmpS_z.1 h, fun a b d h1 h2 => bytes_lt_trans' h1 h2⟩
theorem Ordr.le {α : Type} {c : α → α → Int} (h : Ordr c) (a b d : α) (h1 : c a b ≤ 0) (h2 : c b d ≤ 0) : c a d ≤ 0 := by
  by_cases e1 : c a b = 0
  · rw [h.eq a b e1]
    exact h2
  · by_cases e2 : c b d = 0
    · rw [← h.eq b d e2]
      exact h1
    · have := h.tr a b d (by omega) (by omega)
      omega
theorem Ordr.refl {α : Type} {c : α → α → Int} (h : Ordr c) (a : α) : c a a = 0 := by
  have := h.flip a a
  omega

def or2 (a b : Int) : Int := if a ≠ 0 then a else b
theorem or2_le {α : Type} {c : α → α → Int} (h : Ordr c) (a b d : α) (x y z : Int) (h1 : or2 (c a b) x ≤ 0) (h2 : or2 (c b d) y ≤ 0) (h3 : x ≤ 0 → y ≤ 0 → z ≤ 0) : or2 (c a d) z ≤ 0 := by
  unfold or2 at *
  by_cases e1 : c a b = 0
  · have e := h.eq a b e1
    subst e
    rw [if_neg (by simpa using e1)] at h1
    by_cases e2 : c a d = 0
    · rw [if_neg (by simpa using e2)] at h2 ⊢
      exact h3 h1 h2
    · rw [if_pos e2] at h2 ⊢
      exact h2
  · rw [if_pos e1] at h1
    by_cases e2 : c b d = 0
    · have e := h.eq b d e2
      subst e
      rw [if_pos e1]
      exact h1
    · rw [if_pos e2] at h2
      have := h.tr a b d (by omega) (by omega)
      rw [if_pos (by omega)]
      omega
theorem or2_lt {α : Type} {c : α → α → Int} (h : Ordr c) (a b d : α) (x y z : Int) (h1 : or2 (c a b) x < 0) (h2 : or2 (c b d) y < 0) (h3 : x < 0 → y < 0 → z < 0) : or2 (c a d) z < 0 := by
  unfold or2 at *
  by_cases e1 : c a b = 0
  · have e := h.eq a b e1
    subst e
    rw [if_neg (by simpa using e1)] at h1
    by_cases e2 : c a d = 0
    · rw [if_neg (by simpa using e2)] at h2 ⊢
      exact h3 h1 h2
    · rw [if_pos e2] at h2 ⊢
      exact h2
  · rw [if_pos e1] at h1
    by_cases e2 : c b d = 0
    · have e := h.eq b d e2
      subst e
      rw [if_pos e1]
      exact h1
    · rw [if_pos e2] at h2
      have := h.tr a b d (by omega) (by omega)
      rw [if_pos (by omega)]
      omega
theorem or2_flip {a b a' b' : Int} (h1 : a' = - a) (h2 : b' = - b) : or2 a' b' = - or2 a b := by
  unfold or2
  subst h1 h2
  by_cases e : a = 0
  · subst e
    simp
  · rw [if_pos e, if_pos (by omega)]

/-- What a comparison of rows must be for a sort. -/
theorem lin_of {c : List G → List G → Int} (hf : ∀ a b, c b a = - c a b) (ht : ∀ a b d, c a b ≤ 0 → c b d ≤ 0 → c a d ≤ 0) : Lin (ltC c) (fun _ => True) := by
  have lt : ∀ r s, ltC c r s = decide (c r s < 0) := fun r s => by unfold ltC; rw [ltI_eq]
  refine ⟨fun a b d _ _ _ h1 h2 => ?_, fun a b _ _ h => ?_⟩
  · rw [lt, decide_eq_false_iff_not] at *
    have := ht d b a (by have := hf d b; omega) (by have := hf b a; omega)
    have := hf a d
    omega
  · rw [lt, decide_eq_true_eq] at h
    rw [lt, decide_eq_false_iff_not]
    have := hf a b
    omega

theorem or_two (a b : Int) : F_cmp_Or_int [.l [[.i a], [.i b]]] = some [.i (or2 a b)] := by
  refine Ret.toEq ?_
  unfold F_cmp_Or_int
  (dsimp +instances only [gi0,gis,row1,rows1,int1,str1,bool1])
  have h := or_runs [[.i a], [.i b]] [] (by simp)
  refine Ret.loop (h.to (by simp)) (by (first|rfl|assumption|(simp only [inI,sl]<;>omega))) ?_
  rintro x g ⟨hx, rfl⟩
  have e : orL [[.i a], [.i b]] = or2 a b := by
    simp only [orL, or2]
    (dsimp +instances only [gi0,gis,row1,rows1,int1,str1,bool1])
    by_cases h1 : a = 0 <;> by_cases h2 : b = 0 <;> simp [h1, h2]
  rw [e]
  (dsimp +instances only [gi0,gis,row1,rows1,int1,str1,bool1])
  exact Ret.test (fun _ => Ret.some rfl) fun _ => Ret.some rfl

/-! ### Lists that are checked row by row -/

/-- The first fault of the first so many rows. -/
def fw (step : Nat → Int) : Nat → Int
  | 0 => 0
  | i + 1 => if fw step i ≠ 0 then fw step i else step i
theorem fw_stays {step : Nat → Int} {i : Nat} (h : fw step i ≠ 0) : ∀ k, fw step (i + k) = fw step i
  | 0 => rfl
  | k + 1 => by
    have ih := fw_stays h k
    show (if fw step (i + k) ≠ 0 then fw step (i + k) else step (i + k)) = fw step i
    rw [ih, if_pos h]
theorem fw_zero {step : Nat → Int} : ∀ {n : Nat}, fw step n = 0 → ∀ i, i < n → step i = 0
  | 0, _, i, hi => by omega
  | n + 1, h, i, hi => by
    have h0 : fw step n = 0 := by
      refine Decidable.byContradiction fun hn => hn ?_
      have := fw_stays hn 1
      rw [← this]
      exact h
    have h' : (if fw step n ≠ 0 then fw step n else step n) = 0 := h
    rw [if_neg (by simpa using h0)] at h'
    rcases Nat.lt_or_ge i n with hlt | hge
    · exact fw_zero h0 i hlt
    · have : i = n := by omega
      rw [this]
      exact h'

theorem fw_loop {st : List G → Option (Option Nat × List G)} (mk : Nat → List G) (n : Nat) (step : Nat → Int) (gn : List G) (hn : n < 999999)
    (hstep : ∀ i, i < n → Ret (st (mk i)) fun o => (step i = 0 ∧ o = (none, mk (i + 1))) ∨ (step i ≠ 0 ∧ o = (some 0, [.i (step i)])))
    (hfin : Ret (st (mk n)) fun o => o = (some 1, gn)) :
    RetL st (mk 0) fun c g => (c = 1 ∧ fw step n = 0 ∧ g = gn) ∨ (c = 0 ∧ g = [.i (fw step n)] ∧ fw step n ≠ 0) := by
  refine ((count_runs (σ := Unit) (fun _ i => mk i) n (fun _ => (1, gn)) (fun _ i => fw step i = 0) (fun c g => c = 0 ∧ g = [.i (fw step n)] ∧ fw step n ≠ 0) ?_ (fun _ _ => hfin) n () 0 (by omega) rfl).to (by omega)).mono ?_
  · rintro _ i hI hi
    refine (hstep i hi).mono ?_
    rintro _ (⟨h0, rfl⟩ | ⟨h1, rfl⟩)
    · refine .inl ⟨(), rfl, ?_⟩
      show (if fw step i ≠ 0 then fw step i else step i) = 0
      rw [if_neg (by simpa using hI)]
      exact h0
    · have e : fw step (i + 1) = step i := by
        show (if fw step i ≠ 0 then fw step i else step i) = step i
        rw [if_neg (by simpa using hI)]
      have e2 : fw step n = step i := by
        have := fw_stays (step := step) (i := i + 1) (by rw [e]; exact h1) (n - (i + 1))
        rw [show i + 1 + (n - (i + 1)) = n by omega, e] at this
        exact this
      exact .inr ⟨0, _, rfl, rfl, by rw [e2], by rw [e2]; exact h1⟩
  · rintro c g (⟨_, h, rfl, rfl⟩ | h)
    · exact .inl ⟨rfl, h, rfl⟩
    · exact .inr h

theorem getD_set {α : Type} (l : List α) (i j : Nat) (x z : α) (hi : i < l.length) : (l.set i x).getD j z = if j = i then x else l.getD j z := by
  by_cases h : j = i
  · subst h
    simp [List.getD_eq_getElem?_getD, hi]
  · rw [if_neg h, List.getD_eq_getElem?_getD, List.getElem?_set_ne (by omega), ← List.getD_eq_getElem?_getD]

end
end Go.Proofs.SYtmgdncpkhfgooaaGreatDoor

namespace Go.Proofs.SYtmgdncpkhfgooaaGreatDoor
open Go Go.AL Go.Proofs
noncomputable section

def cats : List ByteArray := [⟨#[97, 108, 108]⟩, ⟨#[99, 111, 100, 101]⟩, ⟨#[65]⟩]
def locs : List ByteArray := [⟨#[]⟩, ⟨#[107, 112, 50, 48, 108, 102]⟩, ⟨#[107, 112, 50, 48]⟩]
/-- An entrant as the stream makes it. -/
def Ent (r : List G) : Prop := ∃ (c k : ByteArray) (p : Int) (q : ByteArray), r = [.s c, .s k, .i p, .s q] ∧ c ∈ calls ∧ k ∈ cats ∧ -1099511627776 ≤ p ∧ p ≤ 1099511627776 ∧ q ∈ locs
theorem Ent.eta {r : List G} (h : Ent r) : gEta KEntrant r = r := by
  obtain ⟨c, k, p, q, rfl, _⟩ := h
  rfl

theorem r_RangeP (l : List (List G)) (a : Int) (ha : 0 ≤ a) (ha1 : a ≤ 1000000) :
    Ret (F_pilemake_Stream_Range [.l l, .i a, .i 0, .i 1000000000000]) fun g => ∃ v, g = [.l l, .i (a + 1), .i v] ∧ 0 ≤ v ∧ v ≤ 1000000000000 := by
  unfold F_pilemake_Stream_Range
  (dsimp +instances only [gi0,gis,row1,rows1,int1,str1,bool1])
  (repeat(first|(refine Ret.pos ?_ ?_;(first|rfl|assumption|(simp only [inI,sl]<;>omega)))|(refine Ret.neg ?_ ?_;(first|rfl|assumption|(simp only [inI,sl]<;>omega)))))
  refine Ret.call (r_Next l a _ ha ha1 (by omega) (by omega)) ?_
  rintro _ ⟨v, rfl, h3, h4⟩
  (dsimp +instances only [gi0,gis,row1,rows1,int1,str1,bool1])
  (repeat(first|(refine Ret.pos ?_ ?_;(first|rfl|assumption|(simp only [inI,sl]<;>omega)))|(refine Ret.neg ?_ ?_;(first|rfl|assumption|(simp only [inI,sl]<;>omega)))))
  exact Ret.some ⟨_, rfl, by omega, by omega⟩

theorem r_OddP (l : List (List G)) (a : Int) (ha : 0 ≤ a) (ha1 : a ≤ 900000) :
    Ret (F_pilemake_Stream_Odd [.l l, .i a, .i 0, .i 1000000000000]) fun g => ∃ v, g = [.l l, .i (a + 2), .i v] ∧ -1099511627776 ≤ v ∧ v ≤ 1099511627776 := by
  unfold F_pilemake_Stream_Odd
  (dsimp +instances only [gi0,gis,row1,rows1,int1,str1,bool1])
  have e2 : a + 1 + 1 = a + 2 := by omega
  refine Ret.call (r_Flip l a 12 ha (by omega) (by omega) (by omega)) ?_
  rintro _ ⟨b, rfl⟩
  (dsimp +instances only [gi0,gis,row1,rows1,int1,str1,bool1])
  cases b with
  | true =>
    (repeat(first|(refine Ret.pos ?_ ?_;(first|rfl|assumption|(simp only [inI,sl]<;>omega)))|(refine Ret.neg ?_ ?_;(first|rfl|assumption|(simp only [inI,sl]<;>omega)))))
    refine Ret.call (r_PickB (-1099511627776) 1099511627776 l (a + 1) _ (by omega) (by omega) (by kernel_rfl) (by kernel_rfl)) ?_
    rintro _ ⟨v, rfl, h3, h4⟩
    (dsimp +instances only [gi0,gis,row1,rows1,int1,str1,bool1])
    exact Ret.some ⟨v, by rw [e2], h3, h4⟩
  | false =>
    (repeat(first|(refine Ret.pos ?_ ?_;(first|rfl|assumption|(simp only [inI,sl]<;>omega)))|(refine Ret.neg ?_ ?_;(first|rfl|assumption|(simp only [inI,sl]<;>omega)))))
    refine Ret.call (r_RangeP l (a + 1) (by omega) (by omega)) ?_
    rintro _ ⟨v, rfl, h3, h4⟩
    (dsimp +instances only [gi0,gis,row1,rows1,int1,str1,bool1])
    exact Ret.some ⟨v, by rw [e2], by omega, by omega⟩

def five : List (List G) := [[.s (⟨#[107, 49, 97, 98]⟩ : ByteArray)], [.s (⟨#[107, 49, 97, 98, 47, 52]⟩ : ByteArray)], [.s (⟨#[111, 104, 50, 97, 98, 99]⟩ : ByteArray)], [.s (⟨#[111, 104, 50, 97, 98, 100]⟩ : ByteArray)], [.s (⟨#[119, 49, 97, 119]⟩ : ByteArray)]]
theorem five_call {x : List G} (h : x ∈ five) : ∃ c, x = [.s c] ∧ c ∈ calls := by
  simp only [five, List.mem_cons, List.not_mem_nil, or_false] at h
  rcases h with rfl | rfl | rfl | rfl | rfl <;> exact ⟨_, rfl, inL_mem (by kernel_rfl)⟩

theorem call_in (l cs acc : List (List G)) (k : ByteArray) (hk : k ∈ cats) (n j a : Int) (ha : 0 ≤ a) (ha1 : a ≤ 1000) (hacc : ∀ z ∈ acc, Ent z) (hl : acc.length ≤ 100) :
    RetL st_pilemake_Stream_Entrants_6 [.l l, .i a, .l acc, .s k, .l cs, .i n, .i j, .l five, .i 5, .i 0] fun c g => c = 0 ∧ ∃ b acc', g = [.l l, .i b, .l acc', .l cs, .i n, .i j] ∧ 0 ≤ b ∧ b ≤ a + 50 ∧ (∀ z ∈ acc', Ent z) ∧ acc'.length ≤ acc.length + 5 := by
  have r := range_all (st := st_pilemake_Stream_Entrants_6) (σ := Int × List (List G)) (fun s i => [.l l, .i s.1, .l s.2, .s k, .l cs, .i n, .i j, .l five, .i 5, .i (i : Int)]) five (fun s => (0, [.l l, .i s.1, .l s.2, .l cs, .i n, .i j]))
    (fun s i => 0 ≤ s.1 ∧ s.1 ≤ a + 10 * (i : Int) ∧ (∀ z ∈ s.2, Ent z) ∧ s.2.length ≤ acc.length + i) (a, acc) (by show 5 < 999999; omega) ⟨ha, by simp, hacc, by simp⟩
    (fun s i x ⟨s0, s1, s2, s3⟩ hi hx hm ht => by
      obtain ⟨b, ac⟩ := s
      simp only at s0 s1 s2 s3
      have hi5 : i < 5 := hi
      have h5 : five.length = 5 := rfl
      obtain ⟨c, rfl, hc⟩ := five_call hm
      unfold st_pilemake_Stream_Entrants_6
      (dsimp +instances only [gi0,gis,row1,rows1,int1,str1,bool1])
      simp only [Int.toNat_natCast, hx, h5]
      (dsimp +instances only [gi0,gis,row1,rows1,int1,str1,bool1])
      refine Ret.pos (by (first|rfl|assumption|(simp only [inI,sl]<;>omega))) (Ret.pos (by (first|rfl|assumption|(simp only [inI,sl]<;>omega))) ?_)
      refine Ret.call (r_Flip l b 3 (by omega) (by omega) (by omega) (by omega)) ?_
      rintro _ ⟨f, rfl⟩
      (dsimp +instances only [gi0,gis,row1,rows1,int1,str1,bool1])
      cases f with
      | true =>
        (repeat(first|(refine Ret.pos ?_ ?_;(first|rfl|assumption|(simp only [inI,sl]<;>omega)))|(refine Ret.neg ?_ ?_;(first|rfl|assumption|(simp only [inI,sl]<;>omega)))))
        exact Ret.some ⟨(b + 1, ac), by simp, by simp only; omega, by simp only; omega, s2, by simp only; omega⟩
      | false =>
        (repeat(first|(refine Ret.pos ?_ ?_;(first|rfl|assumption|(simp only [inI,sl]<;>omega)))|(refine Ret.neg ?_ ?_;(first|rfl|assumption|(simp only [inI,sl]<;>omega)))))
        refine Ret.call (r_PickB (-1099511627776) 1099511627776 l _ _ (by omega) (by omega) (by kernel_rfl) (by kernel_rfl)) ?_
        rintro _ ⟨p, rfl, hp⟩
        (dsimp +instances only [gi0,gis,row1,rows1,int1,str1,bool1])
        refine Ret.call (r_SomeB locs l _ _ (by omega) (by omega) (by kernel_rfl) (by kernel_rfl)) ?_
        rintro _ ⟨q, rfl, hq⟩
        (dsimp +instances only [gi0,gis,row1,rows1,int1,str1,bool1])
        refine Ret.call (r_Flip l _ 80 (by omega) (by omega) (by omega) (by omega)) ?_
        rintro _ ⟨f2, rfl⟩
        (dsimp +instances only [gi0,gis,row1,rows1,int1,str1,bool1])
        cases f2 with
        | false =>
          (repeat(first|(refine Ret.pos ?_ ?_;(first|rfl|assumption|(simp only [inI,sl]<;>omega)))|(refine Ret.neg ?_ ?_;(first|rfl|assumption|(simp only [inI,sl]<;>omega)))))
          refine Ret.some ⟨(_, ac ++ [[.s c, .s k, .i p, .s q]]), rfl, by simp only; omega, by simp only; omega, ?_, by simp; omega⟩
          intro z hz
          rcases List.mem_append.1 hz with hz | hz
          · exact s2 z hz
          · rw [List.mem_singleton.1 hz]
            exact ⟨c, k, p, q, rfl, hc, hk, hp.1, hp.2, hq⟩
        | true =>
          (repeat(first|(refine Ret.pos ?_ ?_;(first|rfl|assumption|(simp only [inI,sl]<;>omega)))|(refine Ret.neg ?_ ?_;(first|rfl|assumption|(simp only [inI,sl]<;>omega)))))
          refine Ret.call (r_Some (fun v => v ∈ calls) l _ [[.s c], [.s (⟨#[]⟩ : ByteArray)]] (by omega) (by omega) (by simp) (by simp) ?_) ?_
          · intro x hx
            simp only [List.mem_cons, List.not_mem_nil, or_false] at hx
            rcases hx with rfl | rfl
            · exact hc
            · exact inL_mem (by kernel_rfl)
          rintro _ ⟨c', rfl, hc'⟩
          (dsimp +instances only [gi0,gis,row1,rows1,int1,str1,bool1])
          refine Ret.call (r_Some (fun v => v ∈ cats) l _ [[.s k], [.s (⟨#[65]⟩ : ByteArray)]] (by omega) (by omega) (by simp) (by simp) ?_) ?_
          · intro x hx
            simp only [List.mem_cons, List.not_mem_nil, or_false] at hx
            rcases hx with rfl | rfl
            · exact hk
            · exact inL_mem (by kernel_rfl)
          rintro _ ⟨k', rfl, hk'⟩
          (dsimp +instances only [gi0,gis,row1,rows1,int1,str1,bool1])
          refine Ret.call (r_OddP l _ (by omega) (by omega)) ?_
          rintro _ ⟨p', rfl, hp'⟩
          (dsimp +instances only [gi0,gis,row1,rows1,int1,str1,bool1])
          refine Ret.call (r_SomeB locs l _ _ (by omega) (by omega) (by kernel_rfl) (by kernel_rfl)) ?_
          rintro _ ⟨q', rfl, hq'⟩
          (dsimp +instances only [gi0,gis,row1,rows1,int1,str1,bool1])
          (repeat(first|(refine Ret.pos ?_ ?_;(first|rfl|assumption|(simp only [inI,sl]<;>omega)))|(refine Ret.neg ?_ ?_;(first|rfl|assumption|(simp only [inI,sl]<;>omega)))))
          refine Ret.some ⟨(_, ac ++ [[.s c', .s k', .i p', .s q']]), rfl, by simp only; omega, by simp only; omega, ?_, by simp; omega⟩
          intro z hz
          rcases List.mem_append.1 hz with hz | hz
          · exact s2 z hz
          · rw [List.mem_singleton.1 hz]
            exact ⟨c', k', p', q', rfl, hc', hk', hp'.1, hp'.2, hq'⟩)
    (fun s hI => by
      unfold st_pilemake_Stream_Entrants_6
      (dsimp +instances only [gi0,gis,row1,rows1,int1,str1,bool1])
      have h5 : five.length = 5 := rfl
      simp only [h5]
      (repeat(first|(refine Ret.pos ?_ ?_;(first|rfl|assumption|(simp only [inI,sl]<;>omega)))|(refine Ret.neg ?_ ?_;(first|rfl|assumption|(simp only [inI,sl]<;>omega)))))
      exact Ret.some rfl)
  refine r.mono ?_
  rintro c g ⟨⟨b, ac⟩, ⟨q1, q2, q3, q4⟩, rfl, rfl⟩
  have h5 : five.length = 5 := rfl
  rw [h5] at q2 q4
  exact ⟨rfl, b, ac, rfl, q1, by simp only at q2; omega, q3, by simpa using q4⟩

def two : List (List G) := [[.s (⟨#[97, 108, 108]⟩ : ByteArray)], [.s (⟨#[99, 111, 100, 101]⟩ : ByteArray)]]

theorem r_Entrants (l : List (List G)) (a : Int) (ha : 0 ≤ a) (ha1 : a ≤ 100) :
    Ret (F_pilemake_Stream_Entrants [.l l, .i a]) fun g => ∃ b rows, g = [.l l, .i b, .l rows] ∧ 0 ≤ b ∧ b ≤ 1000 ∧ (∀ z ∈ rows, Ent z) ∧ rows.length ≤ 10 := by
  unfold F_pilemake_Stream_Entrants
  (dsimp +instances only [gi0,gis,row1,rows1,int1,str1,bool1])
  have r := range_all (st := st_pilemake_Stream_Entrants_3) (σ := Int × List (List G)) (fun s i => [.l l, .i s.1, .l s.2, .l two, .i 2, .i (i : Int)]) two (fun s => (0, [.l l, .i s.1, .l s.2]))
    (fun s i => 0 ≤ s.1 ∧ s.1 ≤ a + 50 * (i : Int) ∧ (∀ z ∈ s.2, Ent z) ∧ s.2.length ≤ 5 * i) (a, []) (by show 2 < 999999; omega) ⟨ha, by simp, by simp, by simp⟩
    (fun s i x ⟨s0, s1, s2, s3⟩ hi hx hm ht => by
      obtain ⟨b, ac⟩ := s
      simp only at s0 s1 s2 s3
      have h2 : two.length = 2 := rfl
      have hi2 : i < 2 := hi
      have hk : ∃ k, x = [.s k] ∧ k ∈ cats := by
        simp only [two, List.mem_cons, List.not_mem_nil, or_false] at hm
        rcases hm with rfl | rfl <;> exact ⟨_, rfl, inL_mem (by kernel_rfl)⟩
      obtain ⟨k, rfl, hk⟩ := hk
      unfold st_pilemake_Stream_Entrants_3
      (dsimp +instances only [gi0,gis,row1,rows1,int1,str1,bool1])
      simp only [Int.toNat_natCast, hx, h2]
      (dsimp +instances only [gi0,gis,row1,rows1,int1,str1,bool1])
      refine Ret.pos (by (first|rfl|assumption|(simp only [inI,sl]<;>omega))) (Ret.pos (by (first|rfl|assumption|(simp only [inI,sl]<;>omega))) ?_)
      refine Ret.loop (call_in l two ac k hk 2 i b (by omega) (by omega) s2 (by omega)) (by (first|rfl|assumption|(simp only [inI,sl]<;>omega))) ?_
      rintro _ _ ⟨rfl, b', ac', rfl, q1, q2, q3, q4⟩
      (dsimp +instances only [gi0,gis,row1,rows1,int1,str1,bool1])
      (repeat(first|(refine Ret.pos ?_ ?_;(first|rfl|assumption|(simp only [inI,sl]<;>omega)))|(refine Ret.neg ?_ ?_;(first|rfl|assumption|(simp only [inI,sl]<;>omega)))))
      exact Ret.some ⟨(b', ac'), by simp, q1, by simp only; omega, q3, by simp only; omega⟩)
    (fun s hI => by
      unfold st_pilemake_Stream_Entrants_3
      (dsimp +instances only [gi0,gis,row1,rows1,int1,str1,bool1])
      have h2 : two.length = 2 := rfl
      simp only [h2]
      (repeat(first|(refine Ret.pos ?_ ?_;(first|rfl|assumption|(simp only [inI,sl]<;>omega)))|(refine Ret.neg ?_ ?_;(first|rfl|assumption|(simp only [inI,sl]<;>omega)))))
      exact Ret.some rfl)
  refine Ret.loop r rfl ?_
  rintro _ _ ⟨⟨b, ac⟩, ⟨q1, q2, q3, q4⟩, rfl, rfl⟩
  (dsimp +instances only [gi0,gis,row1,rows1,int1,str1,bool1])
  (repeat(first|(refine Ret.pos ?_ ?_;(first|rfl|assumption|(simp only [inI,sl]<;>omega)))|(refine Ret.neg ?_ ?_;(first|rfl|assumption|(simp only [inI,sl]<;>omega)))))
  have h2 : two.length = 2 := rfl
  rw [h2] at q2 q4
  exact Ret.some ⟨b, ac, rfl, q1, by simp only at q2; omega, q3, by simp only at q4; omega⟩

/-! ### What is wrong with entrants -/

def okCat (s : ByteArray) : Bool := inL [⟨#[97, 108, 108]⟩, ⟨#[99, 111, 100, 101]⟩] s
def okLoc (s : ByteArray) : Bool := inL [⟨#[107, 112, 50, 48, 108, 102]⟩] s
theorem isCat_eq {s : ByteArray} (h : s ∈ cats) : F_kit_IsKey [.s s] = some [.t (okCat s)] := by
  simp only [cats, List.mem_cons, List.not_mem_nil, or_false] at h
  rcases h with rfl | rfl | rfl <;> kernel_rfl
theorem cat_eq {s : ByteArray} (h : s ∈ cats) : F_pileref2_Key [.s s] = some [.t (okCat s)] := by
  simp only [cats, List.mem_cons, List.not_mem_nil, or_false] at h
  rcases h with rfl | rfl | rfl <;> kernel_rfl
theorem isLoc_eq {s : ByteArray} (h : s ∈ locs) : F_club_isLocator [.s s] = some [.t (okLoc s)] := by
  simp only [locs, List.mem_cons, List.not_mem_nil, or_false] at h
  rcases h with rfl | rfl | rfl <;> kernel_rfl
theorem loc_eq {s : ByteArray} (h : s ∈ locs) : F_pileref2_locator [.s s] = some [.t (okLoc s)] := by
  simp only [locs, List.mem_cons, List.not_mem_nil, or_false] at h
  rcases h with rfl | rfl | rfl <;> kernel_rfl

theorem less_eq : ∀ a b : List UInt8, Op.bytesLess a b = decide (Lib.compareBytes a b < 0)
  | [], [] => rfl
  | _ :: _, [] => rfl
  | [], _ :: _ => rfl
  | a :: x, b :: y => by
    simp only [Op.bytesLess, Lib.compareBytes, less_eq x y]
    by_cases h1 : a < b
    · simp [h1]
    · by_cases h2 : b < a
      · have h3 : a ≠ b := fun h => by
          subst h
          exact h1 h2
        simp [h1, h2, h3]
      · have h3 : a = b := UInt8.le_antisymm (UInt8.not_lt.1 h2) (UInt8.not_lt.1 h1)
        subst h3
        simp [h1]

theorem cmpStr_eq (a b : ByteArray) : ∃ v, F_cmp_Compare_string [.s a, .s b] = some [.i v] ∧ (v = 0 ↔ cmpS a b = 0) ∧ (v < 0 ↔ cmpS a b < 0) := by
  have hn : ∀ x : ByteArray, F_cmp_isNaN_string [.s x] = some [.t false] := fun x => by
    show some [G.t (!(x.toList == x.toList))] = _
    simp
  have hL : Op.bytesLess a.toList b.toList = decide (cmpS a b < 0) := by
    rw [less_eq, ByteArray.toList_eq, ByteArray.toList_eq]
    rfl
  unfold F_cmp_Compare_string
  (dsimp +instances only [gi0,gis,row1,rows1,int1,str1,bool1])
  rw [hn a, hn b]
  simp only [str_eq, hL]
  show ∃ v, (bif decide (cmpS a b < 0) then some [G.i (-1)] else bif !(decide (cmpS a b < 0) || decide (cmpS a b = 0)) then some [G.i 1] else some [G.i 0]) = some [.i v] ∧ _
  by_cases h1 : cmpS a b < 0
  · exact ⟨-1, by simp [h1], by omega, by omega⟩
  · by_cases h2 : cmpS a b = 0
    · exact ⟨0, by simp [h2], by omega, by omega⟩
    · exact ⟨1, by simp [h1, h2], by omega, by omega⟩

theorem two_step (a b c d x y : ByteArray) (i : Nat) (v : Int) (h : F_cmp_Compare_string [.s x, .s y] = some [.i v]) (hi : i < 2) (hx : ([[.s a], [.s b]] : List (List G)).getD i [] = [.s x]) (hy : ([[.s c], [.s d]] : List (List G)).getD i [] = [.s y]) :
    st_slices_Compare_string_2 [.l [[.s a], [.s b]], .l [[.s c], [.s d]], .l [[.s a], [.s b]], .i 2, .i (i : Int)] = some (if v = 0 then (none, [.l [[.s a], [.s b]], .l [[.s c], [.s d]], .l [[.s a], [.s b]], .i 2, .i ((i : Int) + 1)]) else (some 0, [.i v])) := by
  refine Ret.toEq ?_
  unfold st_slices_Compare_string_2
  (dsimp +instances only [gi0,gis,row1,rows1,int1,str1,bool1])
  simp only [Int.toNat_natCast, hx, hy]
  (dsimp +instances only [gi0,gis,row1,rows1,int1,str1,bool1])
  refine Ret.pos (by (first|rfl|assumption|(simp only [inI,sl]<;>omega))) (Ret.pos (by (first|rfl|assumption|(simp only [inI,sl]<;>omega))) (Ret.neg (by (first|rfl|assumption|(simp only [inI,sl]<;>omega))) (Ret.pos (by (first|rfl|assumption|(simp only [inI,sl]<;>omega))) ?_)))
  refine Ret.call (Ret.eq h) ?_
  rintro _ rfl
  (dsimp +instances only [gi0,gis,row1,rows1,int1,str1,bool1])
  by_cases e : v = 0
  · subst e
    refine Ret.neg rfl (Ret.pos (by (first|rfl|assumption|(simp only [inI,sl]<;>omega))) (Ret.some rfl))
  · rw [if_neg e]
    exact Ret.pos (by simpa using e) (Ret.some rfl)

theorem cmpTwo_eq (a b c d : ByteArray) : ∃ v, F_slices_Compare_string [.l [[.s a], [.s b]], .l [[.s c], [.s d]]] = some [.i v] ∧ (0 ≤ v ↔ 0 ≤ or2 (cmpS a c) (cmpS b d)) := by
  obtain ⟨v, hv, v0, v1⟩ := cmpStr_eq a c
  obtain ⟨u, hu, u0, u1⟩ := cmpStr_eq b d
  have s0 := two_step a b c d a c 0 v hv (by omega) rfl rfl
  have s1 := two_step a b c d b d 1 u hu (by omega) rfl rfl
  by_cases e1 : v = 0
  · rw [if_pos e1] at s0
    by_cases e2 : u = 0
    · rw [if_pos e2] at s1
      refine ⟨0, Ret.toEq ?_, by unfold or2; rw [if_neg (by simpa using v0.1 e1)]; have := u0.1 e2; omega⟩
      unfold F_slices_Compare_string
      (dsimp +instances only [gi0,gis,row1,rows1,int1,str1,bool1])
      refine Ret.loop (P := fun k g => k = 1 ∧ g = [.l [[.s a], [.s b]], .l [[.s c], [.s d]]]) (RetN.to (m := 3) (RetN.next s0 (RetN.next s1 (RetN.stop (x := 1) (Ret.toEq ?_) ⟨rfl, rfl⟩))) (by omega)) rfl ?_
      · unfold st_slices_Compare_string_2
        (dsimp +instances only [gi0,gis,row1,rows1,int1,str1,bool1])
        refine Ret.neg rfl (Ret.some rfl)
      · rintro _ _ ⟨rfl, rfl⟩
        exact Ret.some rfl
    · rw [if_neg e2] at s1
      refine ⟨u, Ret.toEq ?_, by unfold or2; rw [if_neg (by simpa using v0.1 e1)]; omega⟩
      unfold F_slices_Compare_string
      (dsimp +instances only [gi0,gis,row1,rows1,int1,str1,bool1])
      refine Ret.loop (P := fun k g => k = 0 ∧ g = [.i u]) (RetN.to (m := 3) (RetN.next s0 (RetN.stop s1 ⟨rfl, rfl⟩)) (by omega)) rfl ?_
      rintro _ _ ⟨rfl, rfl⟩
      exact Ret.some rfl
  · rw [if_neg e1] at s0
    refine ⟨v, Ret.toEq ?_, by unfold or2; rw [if_pos (fun h => e1 (v0.2 h))]; omega⟩
    unfold F_slices_Compare_string
    (dsimp +instances only [gi0,gis,row1,rows1,int1,str1,bool1])
    refine Ret.loop (P := fun k g => k = 0 ∧ g = [.i v]) (RetN.to (m := 1) (RetN.stop s0 ⟨rfl, rfl⟩) (by omega)) rfl ?_
    rintro _ _ ⟨rfl, rfl⟩
    exact Ret.some rfl

/-- What is wrong with an entrant by itself. -/
def faultE1 (x : List G) : Int :=
  bif !okCall (gi x 0).str then 3 else bif !okCat (gi x 1).str then 5 else bif !inB (gi x 2).int 0 1000000000000 then 1 else bif (!decide ((gi x 3).str = (⟨#[]⟩ : ByteArray))) && !okLoc (gi x 3).str then 3 else 0
def ordE (y x : List G) : Int := or2 (cmpS (gi y 1).str (gi x 1).str) (cmpS (gi y 0).str (gi x 0).str)
def stepE (rows : List (List G)) (i : Nat) : Int :=
  if faultE1 (rows.getD i []) ≠ 0 then faultE1 (rows.getD i []) else if 0 < i ∧ 0 ≤ ordE (rows.getD (i - 1) []) (rows.getD i []) then 7 else 0
def faultEnt (rows : List (List G)) : Int := if 500 < rows.length then 2 else fw (stepE rows) rows.length

theorem check_step (rows : List (List G)) (hr : ∀ z ∈ rows, Ent z) (hn : rows.length ≤ 500) (i : Nat) (hi : i < rows.length) :
    Ret (st_club_CheckEntrants_4 [.l rows, .l rows, .i (rows.length : Int), .i (i : Int)]) fun o => (stepE rows i = 0 ∧ o = (none, [.l rows, .l rows, .i (rows.length : Int), .i ((i + 1 : Nat) : Int)])) ∨ (stepE rows i ≠ 0 ∧ o = (some 0, [.i (stepE rows i)])) := by
  obtain ⟨c, k, p, q, hx, hc, hk, hp, hp', hq⟩ := hr _ (getD_row hi)
  have ef : faultE1 (rows.getD i []) = bif !okCall c then 3 else bif !okCat k then 5 else bif !inB p 0 1000000000000 then 1 else bif (!decide (q = (⟨#[]⟩ : ByteArray))) && !okLoc q then 3 else 0 := by
    rw [hx]
    rfl
  unfold st_club_CheckEntrants_4
  (dsimp +instances only [gi0,gis,row1,rows1,int1,str1,bool1])
  simp only [Int.toNat_natCast, hx]
  (dsimp +instances only [gi0,gis,row1,rows1,int1,str1,bool1])
  refine Ret.pos (by (first|rfl|assumption|(simp only [inI,sl]<;>omega))) (Ret.pos (by (first|rfl|assumption|(simp only [inI,sl]<;>omega))) ?_)
  refine Ret.call (Ret.eq (isCall_eq hc)) ?_
  rintro _ rfl
  (dsimp +instances only [gi0,gis,row1,rows1,int1,str1,bool1])
  refine Ret.test (fun h => ?_) fun h1 => ?_
  · have e : stepE rows i = 3 := by
      unfold stepE
      rw [ef, h]
      rfl
    rw [e]
    exact Ret.some (.inr ⟨by omega, rfl⟩)
  rw [h1, cond_false] at ef
  refine Ret.call (Ret.eq (isCat_eq hk)) ?_
  rintro _ rfl
  (dsimp +instances only [gi0,gis,row1,rows1,int1,str1,bool1])
  refine Ret.test (fun h => ?_) fun h2 => ?_
  · have e : stepE rows i = 5 := by
      unfold stepE
      rw [ef, h]
      rfl
    rw [e]
    exact Ret.some (.inr ⟨by omega, rfl⟩)
  rw [h2, cond_false] at ef
  refine Ret.call (Ret.eq (outside_eq p _ _)) ?_
  rintro _ rfl
  (dsimp +instances only [gi0,gis,row1,rows1,int1,str1,bool1])
  refine Ret.test (fun h => ?_) fun h3 => ?_
  · have e : stepE rows i = 1 := by
      unfold stepE
      rw [ef, h]
      rfl
    rw [e]
    exact Ret.some (.inr ⟨by omega, rfl⟩)
  rw [h3, cond_false] at ef
  have tail : (stepE rows i = if 0 < i ∧ 0 ≤ ordE (rows.getD (i - 1) []) (rows.getD i []) then 7 else 0) → ∀ t : Option (Option Nat × List G), (i = 0 → t = some (none, [.l rows, .l rows, .i (rows.length : Int), .i ((i : Int) + 1)])) →
      (∀ y c' k' p' q', 0 < i → rows.getD (i - 1) [] = y → y = [.s c', .s k', .i p', .s q'] → Ret t fun o => o = if 0 ≤ or2 (cmpS k' k) (cmpS c' c) then (some 0, [.i 7]) else (none, [.l rows, .l rows, .i (rows.length : Int), .i ((i : Int) + 1)])) →
      Ret t fun o => (stepE rows i = 0 ∧ o = (none, [.l rows, .l rows, .i (rows.length : Int), .i ((i + 1 : Nat) : Int)])) ∨ (stepE rows i ≠ 0 ∧ o = (some 0, [.i (stepE rows i)])) := by
    intro e t ht0 ht
    by_cases i0 : i = 0
    · rw [ht0 i0]
      rw [if_neg (by omega)] at e
      exact Ret.some (.inl ⟨e, rfl⟩)
    · obtain ⟨c', k', p', q', hy, _⟩ := hr _ (getD_row (rows := rows) (i := i - 1) (by omega))
      refine (ht _ c' k' p' q' (by omega) rfl hy).mono ?_
      rintro _ rfl
      have eo : ordE (rows.getD (i - 1) []) (rows.getD i []) = or2 (cmpS k' k) (cmpS c' c) := by
        rw [hx, hy]
        rfl
      rw [eo] at e
      by_cases h7 : 0 ≤ or2 (cmpS k' k) (cmpS c' c)
      · rw [if_pos ⟨by omega, h7⟩] at e
        rw [if_pos h7, e]
        exact .inr ⟨by omega, rfl⟩
      · rw [if_neg (by omega)] at e
        rw [if_neg h7]
        exact .inl ⟨e, rfl⟩
  have hcode : ∀ {t : Option (Option Nat × List G)}, t = (bif (ltI 0 (i : Int)) then (bif (inI ((i : Int) - 1)) then (bif ((nnI ((i : Int) - 1)) && (ltI ((i : Int) - 1) ((rows.length : Nat) : Int))) then (callF (F_strings_Compare [.s (gi (rows.getD (((i : Int) - 1).toNat) []) 1).str, .s k]) fun g5 => (bif (inI ((i : Int) - 1)) then (bif ((nnI ((i : Int) - 1)) && (ltI ((i : Int) - 1) ((rows.length : Nat) : Int))) then (callF (F_strings_Compare [.s (gi (rows.getD (((i : Int) - 1).toNat) []) 0).str, .s c]) fun g6 => (callF (F_cmp_Or_int [.l [[.i (gi g5 0).int], [.i (gi g6 0).int]]]) fun g7 => (bif (leI 0 (gi g7 0).int) then some (some 0, [.i 7]) else (bif (inI ((i : Int) + 1)) then some (none, [.l rows, .l rows, .i ((rows.length : Nat) : Int), .i ((i : Int) + 1)]) else none)))) else none) else none)) else none) else none) else (bif (inI ((i : Int) + 1)) then some (none, [.l rows, .l rows, .i ((rows.length : Nat) : Int), .i ((i : Int) + 1)]) else none)) →
      (stepE rows i = if 0 < i ∧ 0 ≤ ordE (rows.getD (i - 1) []) (rows.getD i []) then 7 else 0) →
      Ret t fun o => (stepE rows i = 0 ∧ o = (none, [.l rows, .l rows, .i (rows.length : Int), .i ((i + 1 : Nat) : Int)])) ∨ (stepE rows i ≠ 0 ∧ o = (some 0, [.i (stepE rows i)])) := by
    rintro t rfl e
    refine tail e _ (fun i0 => ?_) fun y c' k' p' q' i1 hy hy' => ?_
    · subst i0
      refine Ret.toEq ?_
      (repeat(first|(refine Ret.pos ?_ ?_;(first|rfl|assumption|(simp only [inI,sl]<;>omega)))|(refine Ret.neg ?_ ?_;(first|rfl|assumption|(simp only [inI,sl]<;>omega)))))
      exact Ret.some rfl
    · have ei : ((i : Int) - 1).toNat = i - 1 := by omega
      simp only [ei, hy, hy']
      (dsimp +instances only [gi0,gis,row1,rows1,int1,str1,bool1])
      refine Ret.pos (by (first|rfl|assumption|(simp only [inI,sl]<;>omega))) (Ret.pos (by (first|rfl|assumption|(simp only [inI,sl]<;>omega))) (Ret.pos (by (first|rfl|assumption|(simp only [inI,sl]<;>omega))) ?_))
      refine Ret.call (Ret.eq (rfl : F_strings_Compare [.s k', .s k] = some [.i (cmpS k' k)])) ?_
      rintro _ rfl
      (dsimp +instances only [gi0,gis,row1,rows1,int1,str1,bool1])
      refine Ret.pos (by (first|rfl|assumption|(simp only [inI,sl]<;>omega))) (Ret.pos (by (first|rfl|assumption|(simp only [inI,sl]<;>omega))) ?_)
      refine Ret.call (Ret.eq (rfl : F_strings_Compare [.s c', .s c] = some [.i (cmpS c' c)])) ?_
      rintro _ rfl
      (dsimp +instances only [gi0,gis,row1,rows1,int1,str1,bool1])
      refine Ret.call (Ret.eq (or_two _ _)) ?_
      rintro _ rfl
      (dsimp +instances only [gi0,gis,row1,rows1,int1,str1,bool1])
      refine Ret.test (fun h => ?_) fun h => ?_
      · simp only [leI_eq, decide_eq_true_eq] at h
        rw [if_pos h]
        exact Ret.some rfl
      · simp only [leI_eq, decide_eq_false_iff_not] at h
        rw [if_neg h]
        (repeat(first|(refine Ret.pos ?_ ?_;(first|rfl|assumption|(simp only [inI,sl]<;>omega)))|(refine Ret.neg ?_ ?_;(first|rfl|assumption|(simp only [inI,sl]<;>omega)))))
        exact Ret.some rfl
  simp only [str_same]
  refine Ret.test (fun h4 => ?_) fun h4 => ?_
  · rw [h4, Bool.true_and] at ef
    refine Ret.call (Ret.eq (isLoc_eq hq)) ?_
    rintro _ rfl
    (dsimp +instances only [gi0,gis,row1,rows1,int1,str1,bool1])
    refine Ret.test (fun h => ?_) fun h5 => ?_
    · have e : stepE rows i = 3 := by
        unfold stepE
        rw [ef, h]
        rfl
      rw [e]
      exact Ret.some (.inr ⟨by omega, rfl⟩)
    rw [h5, cond_false] at ef
    refine hcode rfl ?_
    unfold stepE
    rw [ef, if_neg (by simp)]
  · rw [h4, Bool.false_and, cond_false] at ef
    refine hcode rfl ?_
    unfold stepE
    rw [ef, if_neg (by simp)]

theorem check_ok (rows : List (List G)) (hr : ∀ z ∈ rows, Ent z) : F_club_CheckEntrants [.l rows] = some [.i (faultEnt rows)] := by
  refine Ret.toEq ?_
  unfold F_club_CheckEntrants faultEnt
  (dsimp +instances only [gi0,gis,row1,rows1,int1,str1,bool1])
  by_cases hn : 500 < rows.length
  · refine Ret.pos (by (first|rfl|assumption|(simp only [inI,sl]<;>omega))) ?_
    rw [if_pos hn]
    exact Ret.some rfl
  · refine Ret.neg (by (first|rfl|assumption|(simp only [inI,sl]<;>omega))) ?_
    rw [if_neg hn]
    refine Ret.loop (fw_loop (fun i => [.l rows, .l rows, .i (rows.length : Int), .i (i : Int)]) rows.length (stepE rows) [] (by omega) (check_step rows hr (by omega)) ?_) rfl ?_
    · unfold st_club_CheckEntrants_4
      (dsimp +instances only [gi0,gis,row1,rows1,int1,str1,bool1])
      (repeat(first|(refine Ret.pos ?_ ?_;(first|rfl|assumption|(simp only [inI,sl]<;>omega)))|(refine Ret.neg ?_ ?_;(first|rfl|assumption|(simp only [inI,sl]<;>omega)))))
      exact Ret.some rfl
    · rintro _ _ (⟨rfl, h, rfl⟩ | ⟨rfl, rfl, _⟩)
      · rw [h]
        exact Ret.some rfl
      · exact Ret.some rfl

end
end Go.Proofs.SYtmgdncpkhfgooaaGreatDoor

namespace Go.Proofs.SYtmgdncpkhfgooaaGreatDoor
open Go Go.AL Go.Proofs
noncomputable section

theorem fault_step (rows : List (List G)) (hr : ∀ z ∈ rows, Ent z) (hn : rows.length ≤ 500) (i : Nat) (hi : i < rows.length) :
    Ret (st_pileref2_EntrantsFault_4 [.l rows, .l rows, .i (rows.length : Int), .i (i : Int)]) fun o => (stepE rows i = 0 ∧ o = (none, [.l rows, .l rows, .i (rows.length : Int), .i ((i + 1 : Nat) : Int)])) ∨ (stepE rows i ≠ 0 ∧ o = (some 0, [.i (stepE rows i)])) := by
  obtain ⟨c, k, p, q, hx, hc, hk, hp, hp', hq⟩ := hr _ (getD_row hi)
  have ef : faultE1 (rows.getD i []) = bif !okCall c then 3 else bif !okCat k then 5 else bif !inB p 0 1000000000000 then 1 else bif (!decide (q = (⟨#[]⟩ : ByteArray))) && !okLoc q then 3 else 0 := by
    rw [hx]
    rfl
  unfold st_pileref2_EntrantsFault_4
  (dsimp +instances only [gi0,gis,row1,rows1,int1,str1,bool1])
  simp only [Int.toNat_natCast, hx]
  (dsimp +instances only [gi0,gis,row1,rows1,int1,str1,bool1])
  refine Ret.pos (by (first|rfl|assumption|(simp only [inI,sl]<;>omega))) (Ret.pos (by (first|rfl|assumption|(simp only [inI,sl]<;>omega))) ?_)
  refine Ret.call (Ret.eq (call_eq hc)) ?_
  rintro _ rfl
  (dsimp +instances only [gi0,gis,row1,rows1,int1,str1,bool1])
  refine Ret.test (fun h => ?_) fun h1 => ?_
  · have e : stepE rows i = 3 := by
      unfold stepE
      rw [ef, h]
      rfl
    rw [e]
    exact Ret.some (.inr ⟨by omega, rfl⟩)
  rw [h1, cond_false] at ef
  refine Ret.call (Ret.eq (cat_eq hk)) ?_
  rintro _ rfl
  (dsimp +instances only [gi0,gis,row1,rows1,int1,str1,bool1])
  refine Ret.test (fun h => ?_) fun h2 => ?_
  · have e : stepE rows i = 5 := by
      unfold stepE
      rw [ef, h]
      rfl
    rw [e]
    exact Ret.some (.inr ⟨by omega, rfl⟩)
  rw [h2, cond_false] at ef
  refine Ret.call (Ret.eq (in_eq p _ _)) ?_
  rintro _ rfl
  (dsimp +instances only [gi0,gis,row1,rows1,int1,str1,bool1])
  refine Ret.test (fun h => ?_) fun h3 => ?_
  · have e : stepE rows i = 1 := by
      unfold stepE
      rw [ef, h]
      rfl
    rw [e]
    exact Ret.some (.inr ⟨by omega, rfl⟩)
  rw [h3, cond_false] at ef
  have tail : (stepE rows i = if 0 < i ∧ 0 ≤ ordE (rows.getD (i - 1) []) (rows.getD i []) then 7 else 0) → ∀ t : Option (Option Nat × List G), (i = 0 → t = some (none, [.l rows, .l rows, .i (rows.length : Int), .i ((i : Int) + 1)])) →
      (∀ y c' k' p' q', 0 < i → rows.getD (i - 1) [] = y → y = [.s c', .s k', .i p', .s q'] → Ret t fun o => o = if 0 ≤ or2 (cmpS k' k) (cmpS c' c) then (some 0, [.i 7]) else (none, [.l rows, .l rows, .i (rows.length : Int), .i ((i : Int) + 1)])) →
      Ret t fun o => (stepE rows i = 0 ∧ o = (none, [.l rows, .l rows, .i (rows.length : Int), .i ((i + 1 : Nat) : Int)])) ∨ (stepE rows i ≠ 0 ∧ o = (some 0, [.i (stepE rows i)])) := by
    intro e t ht0 ht
    by_cases i0 : i = 0
    · rw [ht0 i0]
      rw [if_neg (by omega)] at e
      exact Ret.some (.inl ⟨e, rfl⟩)
    · obtain ⟨c', k', p', q', hy, _⟩ := hr _ (getD_row (rows := rows) (i := i - 1) (by omega))
      refine (ht _ c' k' p' q' (by omega) rfl hy).mono ?_
      rintro _ rfl
      have eo : ordE (rows.getD (i - 1) []) (rows.getD i []) = or2 (cmpS k' k) (cmpS c' c) := by
        rw [hx, hy]
        rfl
      rw [eo] at e
      by_cases h7 : 0 ≤ or2 (cmpS k' k) (cmpS c' c)
      · rw [if_pos ⟨by omega, h7⟩] at e
        rw [if_pos h7, e]
        exact .inr ⟨by omega, rfl⟩
      · rw [if_neg (by omega)] at e
        rw [if_neg h7]
        exact .inl ⟨e, rfl⟩
  have hcode : ∀ {t : Option (Option Nat × List G)}, t = (bif (ltI 0 (i : Int)) then (bif (inI ((i : Int) - 1)) then (bif ((nnI ((i : Int) - 1)) && (ltI ((i : Int) - 1) ((rows.length : Nat) : Int))) then (bif (inI ((i : Int) - 1)) then (bif ((nnI ((i : Int) - 1)) && (ltI ((i : Int) - 1) ((rows.length : Nat) : Int))) then (callF (F_slices_Compare_string [.l [[.s (gi (rows.getD (((i : Int) - 1).toNat) []) 1).str], [.s (gi (rows.getD (((i : Int) - 1).toNat) []) 0).str]], .l [[.s k], [.s c]]]) fun g5 => (bif (leI 0 (gi g5 0).int) then some (some 0, [.i 7]) else (bif (inI ((i : Int) + 1)) then some (none, [.l rows, .l rows, .i ((rows.length : Nat) : Int), .i ((i : Int) + 1)]) else none))) else none) else none) else none) else none) else (bif (inI ((i : Int) + 1)) then some (none, [.l rows, .l rows, .i ((rows.length : Nat) : Int), .i ((i : Int) + 1)]) else none)) →
      (stepE rows i = if 0 < i ∧ 0 ≤ ordE (rows.getD (i - 1) []) (rows.getD i []) then 7 else 0) →
      Ret t fun o => (stepE rows i = 0 ∧ o = (none, [.l rows, .l rows, .i (rows.length : Int), .i ((i + 1 : Nat) : Int)])) ∨ (stepE rows i ≠ 0 ∧ o = (some 0, [.i (stepE rows i)])) := by
    rintro t rfl e
    refine tail e _ (fun i0 => ?_) fun y c' k' p' q' i1 hy hy' => ?_
    · subst i0
      refine Ret.toEq ?_
      (repeat(first|(refine Ret.pos ?_ ?_;(first|rfl|assumption|(simp only [inI,sl]<;>omega)))|(refine Ret.neg ?_ ?_;(first|rfl|assumption|(simp only [inI,sl]<;>omega)))))
      exact Ret.some rfl
    · have ei : ((i : Int) - 1).toNat = i - 1 := by omega
      simp only [ei, hy, hy']
      (dsimp +instances only [gi0,gis,row1,rows1,int1,str1,bool1])
      refine Ret.pos (by (first|rfl|assumption|(simp only [inI,sl]<;>omega))) (Ret.pos (by (first|rfl|assumption|(simp only [inI,sl]<;>omega))) (Ret.pos (by (first|rfl|assumption|(simp only [inI,sl]<;>omega))) (Ret.pos (by (first|rfl|assumption|(simp only [inI,sl]<;>omega))) (Ret.pos (by (first|rfl|assumption|(simp only [inI,sl]<;>omega))) ?_))))
      obtain ⟨v, hv, hv0⟩ := cmpTwo_eq k' c' k c
      refine Ret.call (Ret.eq hv) ?_
      rintro _ rfl
      (dsimp +instances only [gi0,gis,row1,rows1,int1,str1,bool1])
      refine Ret.test (fun h => ?_) fun h => ?_
      · simp only [leI_eq, decide_eq_true_eq] at h
        rw [if_pos (hv0.1 h)]
        exact Ret.some rfl
      · simp only [leI_eq, decide_eq_false_iff_not] at h
        rw [if_neg (fun h' => h (hv0.2 h'))]
        (repeat(first|(refine Ret.pos ?_ ?_;(first|rfl|assumption|(simp only [inI,sl]<;>omega)))|(refine Ret.neg ?_ ?_;(first|rfl|assumption|(simp only [inI,sl]<;>omega)))))
        exact Ret.some rfl
  simp only [str_same]
  refine Ret.test (fun h4 => ?_) fun h4 => ?_
  · rw [h4, Bool.true_and] at ef
    refine Ret.call (Ret.eq (loc_eq hq)) ?_
    rintro _ rfl
    (dsimp +instances only [gi0,gis,row1,rows1,int1,str1,bool1])
    refine Ret.test (fun h => ?_) fun h5 => ?_
    · have e : stepE rows i = 3 := by
        unfold stepE
        rw [ef, h]
        rfl
      rw [e]
      exact Ret.some (.inr ⟨by omega, rfl⟩)
    rw [h5, cond_false] at ef
    refine hcode rfl ?_
    unfold stepE
    rw [ef, if_neg (by simp)]
  · rw [h4, Bool.false_and, cond_false] at ef
    refine hcode rfl ?_
    unfold stepE
    rw [ef, if_neg (by simp)]

theorem fault_ok (rows : List (List G)) (hr : ∀ z ∈ rows, Ent z) : F_pileref2_EntrantsFault [.l rows] = some [.i (faultEnt rows)] := by
  refine Ret.toEq ?_
  unfold F_pileref2_EntrantsFault faultEnt
  (dsimp +instances only [gi0,gis,row1,rows1,int1,str1,bool1])
  by_cases hn : 500 < rows.length
  · refine Ret.pos (by (first|rfl|assumption|(simp only [inI,sl]<;>omega))) ?_
    rw [if_pos hn]
    exact Ret.some rfl
  · refine Ret.neg (by (first|rfl|assumption|(simp only [inI,sl]<;>omega))) ?_
    rw [if_neg hn]
    refine Ret.loop (fw_loop (fun i => [.l rows, .l rows, .i (rows.length : Int), .i (i : Int)]) rows.length (stepE rows) [] (by omega) (fault_step rows hr (by omega)) ?_) rfl ?_
    · unfold st_pileref2_EntrantsFault_4
      (dsimp +instances only [gi0,gis,row1,rows1,int1,str1,bool1])
      (repeat(first|(refine Ret.pos ?_ ?_;(first|rfl|assumption|(simp only [inI,sl]<;>omega)))|(refine Ret.neg ?_ ?_;(first|rfl|assumption|(simp only [inI,sl]<;>omega)))))
      exact Ret.some rfl
    · rintro _ _ (⟨rfl, h, rfl⟩ | ⟨rfl, rfl, _⟩)
      · rw [h]
        exact Ret.some rfl
      · exact Ret.some rfl

end
end Go.Proofs.SYtmgdncpkhfgooaaGreatDoor

namespace Go.Proofs.SYtmgdncpkhfgooaaGreatDoor
open Go Go.AL Go.Proofs
noncomputable section

def ALLC : ByteArray := ⟨#[97, 108, 108]⟩
def Plc (r : List G) : Prop := ∃ (n p : Int) (c : ByteArray), r = [.i n, .i p, .s c]
def ordP (r s : List G) : Int := or2 (cmpI (gi s 1).int (gi r 1).int) (cmpS (gi r 2).str (gi s 2).str)
theorem place_eq {r s : List G} : F_club_ranked_1 [.l [r], .l [s]] = some [.i (ordP r s)] := by
  refine Ret.toEq ?_
  unfold F_club_ranked_1 ordP
  (dsimp +instances only [gi0,gis,row1,rows1,int1,str1,bool1])
  refine Ret.call (Ret.eq (cmpInt_eq _ _)) ?_
  rintro _ rfl
  refine Ret.call (Ret.eq (rfl : F_strings_Compare [.s (gi r 2).str, .s (gi s 2).str] = some [.i (cmpS (gi r 2).str (gi s 2).str)])) ?_
  rintro _ rfl
  (dsimp +instances only [gi0,gis,row1,rows1,int1,str1,bool1])
  refine Ret.call (Ret.eq (or_two _ _)) ?_
  rintro _ rfl
  exact Ret.some rfl
theorem cmpPlace : Cmp KPlace F_club_ranked_1 Plc ordP := ⟨fun _ _ _ _ => place_eq, fun _ h => by
  obtain ⟨n, p, c, rfl⟩ := h
  rfl⟩
theorem linP : Lin (ltC ordP) (fun _ => True) := lin_of
  (fun a b => or2_flip (ordrI.flip _ _) (ordrS.flip _ _))
  (fun a b d h1 h2 => by
    have hI : Ordr (fun x y : Int => cmpI y x) := ⟨fun x y => ordrI.flip _ _, fun x y h => (ordrI.eq _ _ h).symm, fun x y z g1 g2 => ordrI.tr _ _ _ g2 g1⟩
    exact or2_le hI (gi a 1).int (gi b 1).int (gi d 1).int _ _ _ h1 h2 fun g1 g2 => ordrS.le _ _ _ g1 g2)

theorem pbits_ok : ((List.range 13).all fun n => match F_bits_Len [.i (IntKind.u64.wrap ((n : Nat) : Int))] with
  | some [.i _] => true
  | _ => false) = true := by kernel_rfl
theorem pr_bits (n : Nat) (h : n ≤ 12) : Ret (F_bits_Len [.i (IntKind.u64.wrap ((n : Nat) : Int))]) fun g => ∃ v, g = [.i v] := by
  have h1 := List.all_eq_true.1 pbits_ok n (List.mem_range.2 (by omega))
  split at h1
  · rename_i v e
    exact ⟨_, e, v, rfl⟩
  · cases h1
theorem pdq_Place (rows : List (List G)) (hr : ∀ y ∈ rows, Plc y) (hn : rows.length ≤ 12) (v : Int) : F_slices_pdqsortCmpFunc_Place [.l rows, .i 0, .i (rows.length : Int), .i v] = some [.l (sortA (ltC ordP) rows)] := by
  have hi : F_slices_insertionSortCmpFunc_Place [.l rows, .i 0, .i (rows.length : Int)] = some [.l (sortA (ltC ordP) rows)] := insF_eq cmpPlace rows hr (by omega)
  refine Ret.toEq ?_
  unfold F_slices_pdqsortCmpFunc_Place
  (dsimp +instances only [gi0,gis,row1,rows1,int1,str1,bool1])
  refine Ret.loop (P := fun x g => g = [.l (sortA (ltC ordP) rows)]) (RetL.stop (x := 0) (Ret.toEq ?_) rfl) (by (first|rfl|assumption|(simp only [inI,sl]<;>omega))) ?_
  · unfold st_slices_pdqsortCmpFunc_Place_2
    (dsimp +instances only [gi0,gis,row1,rows1,int1,str1,bool1])
    refine Ret.pos (by (first|rfl|assumption|(simp only [inI,sl]<;>omega))) (Ret.pos (by (first|rfl|assumption|(simp only [inI,sl]<;>omega))) ?_)
    refine Ret.callb (Ret.eq hi) (by (first|rfl|assumption|(simp only [inI,sl]<;>omega))) ?_
    rintro _ rfl
    exact Ret.some rfl
  · rintro _ _ rfl
    exact Ret.some rfl
theorem sortFn_Place (rows : List (List G)) (hr : ∀ y ∈ rows, Plc y) (hn : rows.length ≤ 12) : F_slices_SortFunc_Place [.l rows] = some [.l (sortA (ltC ordP) rows)] := by
  refine Ret.toEq ?_
  unfold F_slices_SortFunc_Place
  (dsimp +instances only [gi0,gis,row1,rows1,int1,str1,bool1])
  refine Ret.call (pr_bits rows.length hn) ?_
  rintro _ ⟨v, rfl⟩
  (dsimp +instances only [gi0,gis,row1,rows1,int1,str1,bool1])
  refine Ret.callb (Ret.eq (pdq_Place rows hr hn v)) (by (first|rfl|assumption|(simp only [inI,sl]<;>omega))) ?_
  rintro _ rfl
  exact Ret.some rfl

/-! ### Ranks -/

def pts (S : List (List G)) (j : Nat) : Int := (gi (S.getD j []) 1).int
def keyP (S : List (List G)) (j : Nat) : ByteArray := (gi (S.getD j []) 2).str
def rank (S : List (List G)) : Nat → Int
  | 0 => 1
  | i + 1 => if pts S (i + 1) = pts S i then rank S i else (i : Int) + 2
theorem rank_le (S : List (List G)) : ∀ i, 1 ≤ rank S i ∧ rank S i ≤ (i : Int) + 1
  | 0 => by simp [rank]
  | i + 1 => by
    have ih := rank_le S i
    simp only [rank]
    split <;> omega

/-- The rows of which the first `i` have their ranks. -/
structure Rkd (S R : List (List G)) (i : Nat) : Prop where
  len : R.length = S.length
  at_ : ∀ j, j < S.length → R.getD j [] = [.i (if j < i then rank S j else 0), .i (pts S j), .s (keyP S j)]

theorem Rkd.set {S R : List (List G)} {i : Nat} (h : Rkd S R i) (hi : i < S.length) {R' : List (List G)} (hR : R' = R.set i [.i (rank S i), .i (pts S i), .s (keyP S i)]) : Rkd S R' (i + 1) := by
  subst hR
  refine ⟨by rw [List.length_set, h.len], fun j hj => ?_⟩
  rw [getD_set _ _ _ _ _ (by rw [h.len]; exact hi)]
  by_cases e : j = i
  · subst e
    rw [if_pos rfl, if_pos (by omega)]
  · rw [if_neg e, h.at_ j hj]
    by_cases hlt : j < i
    · rw [if_pos hlt, if_pos (by omega)]
    · rw [if_neg hlt, if_neg (by omega)]

theorem rank_tail (S R : List (List G)) (i : Nat) (h : Rkd S R i) (hi : i < S.length) (hn : S.length ≤ 1000) (b : Bool) (hb : b = true → 0 < i ∧ pts S i = pts S (i - 1)) (hb' : b = false → i = 0 ∨ pts S i ≠ pts S (i - 1)) :
    Ret (tl_club_ranked_7 [.l (R.set i [.i ((i : Int) + 1), .i (pts S i), .s (keyP S i)]), .i (i : Int), .i (S.length : Int), .i (i : Int), .t b]) fun o => ∃ k, o.1 = some k ∧ k = 0 ∧ ∃ R', o.2 = [.l R', .i (S.length : Int), .i (i : Int)] ∧ Rkd S R' (i + 1) := by
  have hlen : (R.set i [.i ((i : Int) + 1), .i (pts S i), .s (keyP S i)]).length = S.length := by rw [List.length_set, h.len]
  unfold tl_club_ranked_7
  (dsimp +instances only [gi0,gis,row1,rows1,int1,str1,bool1])
  simp only [hlen]
  cases b with
  | true =>
    obtain ⟨i0, hp⟩ := hb rfl
    have ei : 0 + ((i : Int) - 1).toNat = i - 1 := by omega
    have e0 : 0 + ((i : Int)).toNat = i := by omega
    simp only [ei, e0, List.length_set]
    have g1 : (R.set i [.i ((i : Int) + 1), .i (pts S i), .s (keyP S i)]).getD (i - 1) [] = [.i (rank S (i - 1)), .i (pts S (i - 1)), .s (keyP S (i - 1))] := by
      rw [getD_set _ _ _ _ _ (by rw [h.len]; exact hi), if_neg (by omega), h.at_ _ (by omega), if_pos (by omega)]
    have g2 : (R.set i [.i ((i : Int) + 1), .i (pts S i), .s (keyP S i)]).getD i [] = [.i ((i : Int) + 1), .i (pts S i), .s (keyP S i)] := by
      rw [getD_set _ _ _ _ _ (by rw [h.len]; exact hi), if_pos rfl]
    simp only [g1, g2, hlen]
    (dsimp +instances only [gi0,gis,row1,rows1,int1,str1,bool1])
    (repeat(first|(refine Ret.pos ?_ ?_;(first|rfl|assumption|(simp only [inI,sl]<;>omega)))|(refine Ret.neg ?_ ?_;(first|rfl|assumption|(simp only [inI,sl]<;>omega)))))
    have er : rank S i = rank S (i - 1) := by
      obtain ⟨m, rfl⟩ : ∃ m, i = m + 1 := ⟨i - 1, by omega⟩
      simp only [rank, Nat.add_sub_cancel] at hp ⊢
      rw [if_pos hp]
    refine Ret.pos (by rw [h.len, Nat.beq_refl]; rfl) (Ret.some ?_)
    refine ⟨0, rfl, rfl, _, rfl, h.set hi ?_⟩
    rw [List.set_set, er]
    rfl
  | false =>
    (repeat(first|(refine Ret.pos ?_ ?_;(first|rfl|assumption|(simp only [inI,sl]<;>omega)))|(refine Ret.neg ?_ ?_;(first|rfl|assumption|(simp only [inI,sl]<;>omega)))))
    refine Ret.some ⟨0, rfl, rfl, _, rfl, h.set hi ?_⟩
    have er : rank S i = (i : Int) + 1 := by
      rcases hb' rfl with rfl | hne
      · simp [rank]
      · cases i with
        | zero => simp [rank]
        | succ m =>
          simp only [Nat.add_sub_cancel] at hne
          simp only [rank]
          rw [if_neg hne]
          omega
    rw [er]

theorem rank_loop (S : List (List G)) (hn : S.length ≤ 1000) (hS : ∀ j, j < S.length → S.getD j [] = [.i 0, .i (pts S j), .s (keyP S j)]) :
    RetL st_club_ranked_3 [.l S, .i (S.length : Int), .i 0] fun c g => c = 0 ∧ ∃ R, g = [.l R] ∧ Rkd S R S.length := by
  have r := count_runs (st := st_club_ranked_3) (σ := List (List G)) (fun R i => [.l R, .i (S.length : Int), .i (i : Int)]) S.length (fun R => (0, [.l R])) (fun R i => Rkd S R i) (fun _ _ => False)
    (fun R i h hi => by
      have hat := h.at_ i hi
      rw [if_neg (by omega)] at hat
      have e0 : 0 + ((i : Int)).toNat = i := by omega
      unfold st_club_ranked_3
      (dsimp +instances only [gi0,gis,row1,rows1,int1,str1,bool1])
      simp only [e0, hat, h.len, List.length_set]
      have eput : putG KPlace [G.i 0, .i (pts S i), .s (keyP S i)] 0 [.i ((i : Int) + 1)] = [.i ((i : Int) + 1), .i (pts S i), .s (keyP S i)] := rfl
      simp only [eput]
      refine Ret.pos (by (first|rfl|assumption|(simp only [inI,sl]<;>omega))) (Ret.pos (by (first|rfl|assumption|(simp only [inI,sl]<;>omega))) (Ret.pos (by (first|rfl|assumption|(simp only [inI,sl]<;>omega))) (Ret.pos (by (first|rfl|assumption|(simp only [inI,sl]<;>omega))) ?_)))
      refine Ret.test (fun h1 => ?_) fun h1 => ?_
      · simp only [ltI_eq, decide_eq_true_eq] at h1
        have ei : 0 + ((i : Int) - 1).toNat = i - 1 := by omega
        have g1 : (R.set i [.i ((i : Int) + 1), .i (pts S i), .s (keyP S i)]).getD (i - 1) [] = [.i (rank S (i - 1)), .i (pts S (i - 1)), .s (keyP S (i - 1))] := by
          rw [getD_set _ _ _ _ _ (by rw [h.len]; exact hi), if_neg (by omega), h.at_ _ (by omega), if_pos (by omega)]
        have g2 : (R.set i [.i ((i : Int) + 1), .i (pts S i), .s (keyP S i)]).getD i [] = [.i ((i : Int) + 1), .i (pts S i), .s (keyP S i)] := by
          rw [getD_set _ _ _ _ _ (by rw [h.len]; exact hi), if_pos rfl]
        simp only [ei, g1, g2]
        (dsimp +instances only [gi0,gis,row1,rows1,int1,str1,bool1])
        refine Ret.pos (by (first|rfl|assumption|(simp only [inI,sl]<;>omega))) (Ret.pos (by (first|rfl|assumption|(simp only [inI,sl]<;>omega))) (Ret.pos (by (first|rfl|assumption|(simp only [inI,sl]<;>omega))) (Ret.pos (by (first|rfl|assumption|(simp only [inI,sl]<;>omega))) (Ret.pos (by (first|rfl|assumption|(simp only [inI,sl]<;>omega))) ?_))))
        refine Ret.tail (P := fun k g => k = 0 ∧ ∃ R', g = [.l R', .i (S.length : Int), .i (i : Int)] ∧ Rkd S R' (i + 1)) (rank_tail S R i h hi hn _ (fun hb => ⟨by omega, by simpa using hb⟩) fun hb => .inr (by simpa using hb)) (by (first|rfl|assumption|(simp only [inI,sl]<;>omega))) ?_
        rintro _ _ ⟨rfl, R', rfl, hR'⟩
        (dsimp +instances only [gi0,gis,row1,rows1,int1,str1,bool1])
        simp only [hR'.len]
        (repeat(first|(refine Ret.pos ?_ ?_;(first|rfl|assumption|(simp only [inI,sl]<;>omega)))|(refine Ret.neg ?_ ?_;(first|rfl|assumption|(simp only [inI,sl]<;>omega)))))
        exact Ret.some (.inl ⟨R', rfl, hR'⟩)
      · simp only [ltI_eq, decide_eq_false_iff_not] at h1
        refine Ret.tail (P := fun k g => k = 0 ∧ ∃ R', g = [.l R', .i (S.length : Int), .i (i : Int)] ∧ Rkd S R' (i + 1)) (rank_tail S R i h hi hn false (fun hb => by cases hb) fun _ => .inl (by omega)) (by (first|rfl|assumption|(simp only [inI,sl]<;>omega))) ?_
        rintro _ _ ⟨rfl, R', rfl, hR'⟩
        (dsimp +instances only [gi0,gis,row1,rows1,int1,str1,bool1])
        simp only [hR'.len]
        (repeat(first|(refine Ret.pos ?_ ?_;(first|rfl|assumption|(simp only [inI,sl]<;>omega)))|(refine Ret.neg ?_ ?_;(first|rfl|assumption|(simp only [inI,sl]<;>omega)))))
        exact Ret.some (.inl ⟨R', rfl, hR'⟩))
    (fun R h => by
      unfold st_club_ranked_3
      (dsimp +instances only [gi0,gis,row1,rows1,int1,str1,bool1])
      (repeat(first|(refine Ret.pos ?_ ?_;(first|rfl|assumption|(simp only [inI,sl]<;>omega)))|(refine Ret.neg ?_ ?_;(first|rfl|assumption|(simp only [inI,sl]<;>omega)))))
      exact Ret.some rfl)
    S.length S 0 (by omega) ⟨rfl, fun j hj => by rw [if_neg (by omega)]; exact hS j hj⟩
  refine (r.to (by omega)).mono ?_
  rintro c g (⟨R, h, rfl, rfl⟩ | h)
  · exact ⟨rfl, R, rfl, h⟩
  · exact h.elim

theorem ranked_ok (T : List (List G)) (hT : ∀ y ∈ T, ∃ (p : Int) (c : ByteArray), y = [.i 0, .i p, .s c]) (hn : T.length ≤ 12) :
    Ret (F_club_ranked [.l T]) fun g => ∃ R, g = [.l R] ∧ Rkd (sortA (ltC ordP) T) R (sortA (ltC ordP) T).length := by
  have hl := sortA_length (ltC ordP) T
  unfold F_club_ranked
  (dsimp +instances only [gi0,gis,row1,rows1,int1,str1,bool1])
  refine Ret.callb (Ret.eq (sortFn_Place T (fun y hy => by
    obtain ⟨p, c, h⟩ := hT y hy
    exact ⟨0, p, c, h⟩) hn)) (by (first|rfl|assumption|(simp only [inI,sl]<;>omega))) ?_
  rintro _ rfl
  (dsimp +instances only [gi0,gis,row1,rows1,int1,str1,bool1])
  have hr := rank_loop (sortA (ltC ordP) T) (by omega) fun j hj => by
    obtain ⟨p, c, h⟩ := hT _ ((sortA_perm T).mem_iff.1 (getD_row hj))
    unfold pts keyP
    rw [h]
    rfl
  rw [hl] at hr
  refine Ret.loop hr (by simp only [hl]; (first|rfl|assumption|(simp only [inI,sl]<;>omega))) ?_
  rintro _ _ ⟨rfl, R, rfl, hR⟩
  (dsimp +instances only [gi0,gis,row1,rows1,int1,str1,bool1])
  (repeat(first|(refine Ret.pos ?_ ?_;(first|rfl|assumption|(simp only [inI,sl]<;>omega)))|(refine Ret.neg ?_ ?_;(first|rfl|assumption|(simp only [inI,sl]<;>omega)))))
  rw [hl]
  exact Ret.some ⟨R, rfl, hR⟩

/-- The entrants of a category. -/
def tabT (l : List (List G)) : List (List G) := (l.filter fun x => decide ((gi x 1).str = ALLC)).map fun x => [.i 0, .i (gi x 2).int, .s (gi x 0).str]

theorem table_loop (l : List (List G)) (hn : l.length ≤ 1000) :
    RetL st_club_Table_8 [.l [], .s ALLC, .l l, .i (l.length : Int), .i 0] fun c g => c = 0 ∧ g = [.l (tabT l)] := by
  have r := range_all (st := st_club_Table_8) (σ := List (List G)) (fun s i => [.l s, .s ALLC, .l l, .i (l.length : Int), .i (i : Int)]) l (fun s => (0, [.l s]))
    (fun s i => s = tabT (l.take i) ∧ s.length ≤ i) [] (by omega) ⟨rfl, by simp⟩
    (fun s i x ⟨hs, hs1⟩ hi hx hm ht => by
      unfold st_club_Table_8
      (dsimp +instances only [gi0,gis,row1,rows1,int1,str1,bool1])
      simp only [Int.toNat_natCast, hx, str_same]
      refine Ret.pos (by (first|rfl|assumption|(simp only [inI,sl]<;>omega))) (Ret.pos (by (first|rfl|assumption|(simp only [inI,sl]<;>omega))) ?_)
      have e : tabT (l.take (i + 1)) = s ++ if (gi x 1).str = ALLC then [[.i 0, .i (gi x 2).int, .s (gi x 0).str]] else [] := by
        rw [hs, ht]
        unfold tabT
        rw [List.filter_append, List.map_append]
        congr 1
        by_cases hc : (gi x 1).str = ALLC
        · simp [hc]
        · simp [hc]
      refine Ret.test (fun h => ?_) fun h => ?_
      · rw [if_pos (by simpa using h)] at e
        (repeat(first|(refine Ret.pos ?_ ?_;(first|rfl|assumption|(simp only [inI,sl]<;>omega)))|(refine Ret.neg ?_ ?_;(first|rfl|assumption|(simp only [inI,sl]<;>omega)))))
        exact Ret.some ⟨_, rfl, e.symm, by simp; omega⟩
      · rw [if_neg (by simpa using h), List.append_nil] at e
        (repeat(first|(refine Ret.pos ?_ ?_;(first|rfl|assumption|(simp only [inI,sl]<;>omega)))|(refine Ret.neg ?_ ?_;(first|rfl|assumption|(simp only [inI,sl]<;>omega)))))
        exact Ret.some ⟨s, rfl, e.symm, by omega⟩)
    (fun s hI => by
      unfold st_club_Table_8
      (dsimp +instances only [gi0,gis,row1,rows1,int1,str1,bool1])
      (repeat(first|(refine Ret.pos ?_ ?_;(first|rfl|assumption|(simp only [inI,sl]<;>omega)))|(refine Ret.neg ?_ ?_;(first|rfl|assumption|(simp only [inI,sl]<;>omega)))))
      exact Ret.some rfl)
  refine r.mono ?_
  rintro c g ⟨s, ⟨hs, _⟩, rfl, rfl⟩
  rw [List.take_length] at hs
  exact ⟨rfl, by rw [hs]⟩

theorem tabT_rows (l : List (List G)) : ∀ y ∈ tabT l, ∃ (p : Int) (c : ByteArray), y = [.i 0, .i p, .s c] := by
  intro y hy
  obtain ⟨x, _, rfl⟩ := List.mem_map.1 hy
  exact ⟨_, _, rfl⟩
theorem tabT_length (l : List (List G)) : (tabT l).length ≤ l.length := by
  unfold tabT
  rw [List.length_map]
  exact List.length_filter_le _ _

theorem table_ok (l : List (List G)) (hr : ∀ z ∈ l, Ent z) (hn : l.length ≤ 10) (hf : faultEnt l = 0) :
    Ret (F_club_Table [.l l, .s ALLC]) fun g => ∃ R, g = [.l R, .i 0] ∧ Rkd (sortA (ltC ordP) (tabT l)) R (sortA (ltC ordP) (tabT l)).length := by
  have hl := tabT_length l
  unfold F_club_Table
  (dsimp +instances only [gi0,gis,row1,rows1,int1,str1,bool1])
  refine Ret.call (Ret.eq (check_ok l hr)) ?_
  rintro _ rfl
  rw [hf]
  refine Ret.neg rfl ?_
  refine Ret.call (Ret.eq (isCat_eq (s := ALLC) (inL_mem (by kernel_rfl)))) ?_
  rintro _ rfl
  refine Ret.neg (by kernel_rfl) ?_
  refine Ret.loop (table_loop l (by omega)) rfl ?_
  rintro _ _ ⟨rfl, rfl⟩
  (dsimp +instances only [gi0,gis,row1,rows1,int1,str1,bool1])
  have hk := ranked_ok (tabT l) (tabT_rows l) (by omega)
  refine Ret.callb hk (by (first|rfl|assumption|(simp only [inI,sl]<;>omega))) ?_
  rintro _ ⟨R, rfl, hR⟩
  (dsimp +instances only [gi0,gis,row1,rows1,int1,str1,bool1])
  (repeat(first|(refine Ret.pos ?_ ?_;(first|rfl|assumption|(simp only [inI,sl]<;>omega)))|(refine Ret.neg ?_ ?_;(first|rfl|assumption|(simp only [inI,sl]<;>omega)))))
  exact Ret.some ⟨R, rfl, hR⟩

end
end Go.Proofs.SYtmgdncpkhfgooaaGreatDoor

namespace Go.Proofs.SYtmgdncpkhfgooaaGreatDoor
open Go Go.AL Go.Proofs
noncomputable section

def catE (l : List (List G)) (j : Nat) : ByteArray := (gi (l.getD j []) 1).str
def callE (l : List (List G)) (j : Nat) : ByteArray := (gi (l.getD j []) 0).str
def ptE (l : List (List G)) (j : Nat) : Int := (gi (l.getD j []) 2).int

structure GoodE (l : List (List G)) : Prop where
  lo : ∀ j, j < l.length → 0 ≤ ptE l j ∧ ptE l j ≤ 1000000000000
  ord : ∀ i j, i < j → j < l.length → ordE (l.getD i []) (l.getD j []) < 0

theorem goodE {l : List (List G)} (hn : l.length ≤ 500) (h : faultEnt l = 0) : GoodE l := by
  unfold faultEnt at h
  rw [if_neg (by omega)] at h
  have hs := fw_zero h
  refine ⟨fun j hj => ?_, ?_⟩
  · have hj := hs j hj
    unfold stepE at hj
    split at hj
    · contradiction
    · rename_i hf
      simp only [ne_eq, Decidable.not_not] at hf
      unfold faultE1 at hf
      cases h1 : okCall (gi (l.getD j []) 0).str <;> rw [h1] at hf
      · cases hf
      cases h2 : okCat (gi (l.getD j []) 1).str <;> rw [h2] at hf
      · cases hf
      cases h3 : inB (gi (l.getD j []) 2).int 0 1000000000000 <;> rw [h3] at hf
      · cases hf
      simp only [inB, leI_eq, Bool.and_eq_true, decide_eq_true_eq] at h3
      exact h3
  · have h1 : ∀ i, i + 1 < l.length → ordE (l.getD i []) (l.getD (i + 1) []) < 0 := by
      intro i hi
      have hj := hs (i + 1) hi
      unfold stepE at hj
      split at hj
      · contradiction
      · split at hj
        · cases hj
        · rename_i h7
          rw [Nat.add_sub_cancel] at h7
          refine Int.not_le.1 fun hle => h7 ⟨by omega, hle⟩
    intro i j hij
    obtain ⟨k, rfl⟩ : ∃ k, j = i + 1 + k := ⟨j - (i + 1), by omega⟩
    clear hij
    induction k with
    | zero => exact h1 i
    | succ k ih =>
      intro hj
      have ih := ih (by omega)
      have := h1 (i + 1 + k) (by omega)
      exact or2_lt ordrS _ _ _ _ _ _ ih this fun a b => ordrS.tr _ _ _ a b

theorem GoodE.once {l : List (List G)} (h : GoodE l) {i j : Nat} (hi : i < l.length) (hj : j < l.length) (hc : catE l i = catE l j) (hk : callE l i = callE l j) : i = j := by
  have key : ∀ i j, i < j → j < l.length → catE l i = catE l j → callE l i = callE l j → False := by
    intro i j hij hj hc hk
    have := h.ord i j hij hj
    unfold ordE at this
    unfold catE at hc
    unfold callE at hk
    rw [hc, hk, ordrS.refl, ordrS.refl] at this
    simp [or2] at this
  rcases Nat.lt_trichotomy i j with h1 | h1 | h1
  · exact (key i j h1 hj hc hk).elim
  · exact h1
  · exact (key j i h1 hi hc.symm hk.symm).elim

theorem idx_loop (l : List (List G)) (hr : ∀ z ∈ l, Ent z) (hn : l.length ≤ 1000) (c : ByteArray) :
    RetL st_slices_IndexFunc_Entrant_2 [.l l, .l [[.s ALLC]], .l [[.s c]], .i (l.length : Int), .i 0] fun k g => (k = 1 ∧ ∀ j, j < l.length → ¬ (catE l j = ALLC ∧ callE l j = c)) ∨ (k = 0 ∧ ∃ j, j < l.length ∧ g = [.i (j : Int)] ∧ catE l j = ALLC ∧ callE l j = c) := by
  refine (range_inv (st := st_slices_IndexFunc_Entrant_2) (σ := Unit) (fun _ i => [.l l, .l [[.s ALLC]], .l [[.s c]], .i (l.length : Int), .i (i : Int)]) l (fun _ => (1, []))
    (fun _ i => ∀ j, j < i → ¬ (catE l j = ALLC ∧ callE l j = c)) (fun k g => k = 0 ∧ ∃ j, j < l.length ∧ g = [.i (j : Int)] ∧ catE l j = ALLC ∧ callE l j = c) () (by omega) (fun j hj => by omega) ?_ ?_).mono ?_
  · intro _ i x hI hi hx hm ht
    have e : F_club_Needed_1 [.l [x], .l [[.s ALLC]], .l [[.s c]]] = some [.t (decide (catE l i = ALLC) && decide (callE l i = c))] := by
      unfold F_club_Needed_1 catE callE
      rw [hx]
      (dsimp +instances only [gi0,gis,row1,rows1,int1,str1,bool1])
      simp only [str_same]
      cases decide ((gi x 1).str = ALLC) <;> rfl
    unfold st_slices_IndexFunc_Entrant_2
    (dsimp +instances only [gi0,gis,row1,rows1,int1,str1,bool1])
    simp only [Int.toNat_natCast, hx, (hr x hm).eta]
    refine Ret.pos (by (first|rfl|assumption|(simp only [inI,sl]<;>omega))) (Ret.pos (by (first|rfl|assumption|(simp only [inI,sl]<;>omega))) ?_)
    refine Ret.call (Ret.eq e) ?_
    rintro _ rfl
    (dsimp +instances only [gi0,gis,row1,rows1,int1,str1,bool1])
    refine Ret.test (fun h => ?_) fun h => ?_
    · simp only [Bool.and_eq_true, decide_eq_true_eq] at h
      exact Ret.some (.inr ⟨0, _, rfl, rfl, i, hi, rfl, h⟩)
    · (repeat(first|(refine Ret.pos ?_ ?_;(first|rfl|assumption|(simp only [inI,sl]<;>omega)))|(refine Ret.neg ?_ ?_;(first|rfl|assumption|(simp only [inI,sl]<;>omega)))))
      refine Ret.some (.inl ⟨(), rfl, fun j hj hc => ?_⟩)
      by_cases e : j = i
      · subst e
        simp [hc.1, hc.2] at h
      · exact hI j (by omega) hc
  · intro _ hI
    unfold st_slices_IndexFunc_Entrant_2
    (dsimp +instances only [gi0,gis,row1,rows1,int1,str1,bool1])
    (repeat(first|(refine Ret.pos ?_ ?_;(first|rfl|assumption|(simp only [inI,sl]<;>omega)))|(refine Ret.neg ?_ ?_;(first|rfl|assumption|(simp only [inI,sl]<;>omega)))))
    exact Ret.some rfl
  · rintro k g (⟨_, h, rfl, rfl⟩ | h)
    · exact .inl ⟨rfl, h⟩
    · exact .inr h

theorem need_loop (l : List (List G)) (hg : GoodE l) (hn : l.length ≤ 1000) (i0 : Nat) (hi0 : i0 < l.length) :
    RetL st_club_Needed_11 [.s ALLC, .l l, .i (i0 : Int), .i (-1), .l l, .i (l.length : Int), .i 0] fun k g => k = 0 ∧ ∃ s, g = [.l l, .i (i0 : Int), .i s] ∧ ((s = -1 ∧ ∀ j, j < l.length → catE l j = ALLC → ptE l j ≤ ptE l i0) ∨ ∃ j, j < l.length ∧ catE l j = ALLC ∧ ptE l i0 < ptE l j ∧ s = ptE l j) := by
  refine (range_all (st := st_club_Needed_11) (σ := Int) (fun s i => [.s ALLC, .l l, .i (i0 : Int), .i s, .l l, .i (l.length : Int), .i (i : Int)]) l (fun s => (0, [.l l, .i (i0 : Int), .i s]))
    (fun s i => (s = -1 ∧ ∀ j, j < i → catE l j = ALLC → ptE l j ≤ ptE l i0) ∨ ∃ j, j < l.length ∧ catE l j = ALLC ∧ ptE l i0 < ptE l j ∧ s = ptE l j) (-1) (by omega) (.inl ⟨rfl, fun j hj => by omega⟩) ?_ ?_).mono ?_
  · intro s i x hI hi hx hm ht
    have ec : (gi x 1).str = catE l i := by unfold catE; rw [hx]
    have ep : (gi x 2).int = ptE l i := by unfold ptE; rw [hx]
    have e0 : (gi (l.getD i0 []) 2).int = ptE l i0 := rfl
    have b0 := hg.lo i0 hi0
    have bi := hg.lo i hi
    unfold st_club_Needed_11
    (dsimp +instances only [gi0,gis,row1,rows1,int1,str1,bool1])
    simp only [Int.toNat_natCast, hx, str_same, ec, ep, e0]
    refine Ret.pos (by (first|rfl|assumption|(simp only [inI,sl]<;>omega))) (Ret.pos (by (first|rfl|assumption|(simp only [inI,sl]<;>omega))) ?_)
    refine Ret.test (fun h => ?_) fun h => ?_
    · simp only [decide_eq_true_eq] at h
      refine Ret.pos (by (first|rfl|assumption|(simp only [inI,sl]<;>omega))) ?_
      refine Ret.test (fun h1 => ?_) fun h1 => ?_
      · simp only [ltI_eq, decide_eq_true_eq] at h1
        refine Ret.test (fun h2 => ?_) fun h2 => ?_
        · (repeat(first|(refine Ret.pos ?_ ?_;(first|rfl|assumption|(simp only [inI,sl]<;>omega)))|(refine Ret.neg ?_ ?_;(first|rfl|assumption|(simp only [inI,sl]<;>omega)))))
          exact Ret.some ⟨_, rfl, .inr ⟨i, hi, h, h1, rfl⟩⟩
        · simp only [ltI_eq, decide_eq_false_iff_not] at h2
          refine Ret.test (fun h3 => ?_) fun h3 => ?_
          · (repeat(first|(refine Ret.pos ?_ ?_;(first|rfl|assumption|(simp only [inI,sl]<;>omega)))|(refine Ret.neg ?_ ?_;(first|rfl|assumption|(simp only [inI,sl]<;>omega)))))
            exact Ret.some ⟨_, rfl, .inr ⟨i, hi, h, h1, rfl⟩⟩
          · (repeat(first|(refine Ret.pos ?_ ?_;(first|rfl|assumption|(simp only [inI,sl]<;>omega)))|(refine Ret.neg ?_ ?_;(first|rfl|assumption|(simp only [inI,sl]<;>omega)))))
            refine Ret.some ⟨s, rfl, .inr ?_⟩
            rcases hI with ⟨rfl, _⟩ | hI
            · omega
            · exact hI
      · simp only [ltI_eq, decide_eq_false_iff_not] at h1
        (repeat(first|(refine Ret.pos ?_ ?_;(first|rfl|assumption|(simp only [inI,sl]<;>omega)))|(refine Ret.neg ?_ ?_;(first|rfl|assumption|(simp only [inI,sl]<;>omega)))))
        refine Ret.some ⟨s, rfl, ?_⟩
        rcases hI with ⟨q1, q2⟩ | hI
        · refine .inl ⟨q1, fun j hj hc => ?_⟩
          by_cases e : j = i
          · subst e
            omega
          · exact q2 j (by omega) hc
        · exact .inr hI
    · simp only [decide_eq_false_iff_not] at h
      (repeat(first|(refine Ret.pos ?_ ?_;(first|rfl|assumption|(simp only [inI,sl]<;>omega)))|(refine Ret.neg ?_ ?_;(first|rfl|assumption|(simp only [inI,sl]<;>omega)))))
      refine Ret.some ⟨s, rfl, ?_⟩
      rcases hI with ⟨q1, q2⟩ | hI
      · refine .inl ⟨q1, fun j hj hc => ?_⟩
        by_cases e : j = i
        · subst e
          exact (h hc).elim
        · exact q2 j (by omega) hc
      · exact .inr hI
  · intro s hI
    unfold st_club_Needed_11
    (dsimp +instances only [gi0,gis,row1,rows1,int1,str1,bool1])
    (repeat(first|(refine Ret.pos ?_ ?_;(first|rfl|assumption|(simp only [inI,sl]<;>omega)))|(refine Ret.neg ?_ ?_;(first|rfl|assumption|(simp only [inI,sl]<;>omega)))))
    exact Ret.some rfl
  · rintro k g ⟨s, h, rfl, rfl⟩
    exact ⟨rfl, s, rfl, h⟩

theorem need_ok (l : List (List G)) (hr : ∀ z ∈ l, Ent z) (hn : l.length ≤ 500) (hf : faultEnt l = 0) (c : ByteArray) (i0 : Nat) (hi0 : i0 < l.length) (hc : catE l i0 = ALLC) (hk : callE l i0 = c) :
    Ret (F_club_Needed [.l l, .s ALLC, .s c]) fun g => ∃ n, g = [.i n, .i 0] ∧ 0 ≤ n ∧ n ≤ 1000000000001 ∧ ((n = 0 ∧ ∀ j, j < l.length → catE l j = ALLC → ptE l j ≤ ptE l i0) ∨ ∃ j, j < l.length ∧ catE l j = ALLC ∧ ptE l i0 < ptE l j ∧ n = ptE l j - ptE l i0 + 1) := by
  have hg := goodE hn hf
  unfold F_club_Needed
  (dsimp +instances only [gi0,gis,row1,rows1,int1,str1,bool1])
  refine Ret.call (Ret.eq (check_ok l hr)) ?_
  rintro _ rfl
  rw [hf]
  refine Ret.neg rfl ?_
  refine Ret.call (Ret.eq (isCat_eq (s := ALLC) (inL_mem (by kernel_rfl)))) ?_
  rintro _ rfl
  refine Ret.neg (by kernel_rfl) ?_
  have hidx : Ret (F_slices_IndexFunc_Entrant [.l l, .l [[.s ALLC]], .l [[.s c]]]) fun g => g = [.i (i0 : Int)] := by
    unfold F_slices_IndexFunc_Entrant
    (dsimp +instances only [gi0,gis,row1,rows1,int1,str1,bool1])
    refine Ret.loop (idx_loop l hr (by omega) c) rfl ?_
    rintro k g (⟨rfl, h⟩ | ⟨rfl, j, hj, rfl, h1, h2⟩)
    · exact (h i0 hi0 ⟨hc, hk⟩).elim
    · have e := hg.once hj hi0 (h1.trans hc.symm) (h2.trans hk.symm)
      subst e
      exact Ret.some rfl
  refine Ret.call hidx ?_
  rintro _ rfl
  (dsimp +instances only [gi0,gis,row1,rows1,int1,str1,bool1])
  refine Ret.neg (by (first|rfl|assumption|(simp only [inI,sl]<;>omega))) ?_
  refine Ret.loop (need_loop l hg (by omega) i0 hi0) rfl ?_
  rintro _ _ ⟨rfl, s, rfl, h⟩
  (dsimp +instances only [gi0,gis,row1,rows1,int1,str1,bool1])
  have e0 : (gi (l.getD i0 []) 2).int = ptE l i0 := rfl
  have b0 := hg.lo i0 hi0
  simp only [Int.toNat_natCast, e0]
  rcases h with ⟨rfl, h⟩ | ⟨j, hj, h1, h2, rfl⟩
  · (repeat(first|(refine Ret.pos ?_ ?_;(first|rfl|assumption|(simp only [inI,sl]<;>omega)))|(refine Ret.neg ?_ ?_;(first|rfl|assumption|(simp only [inI,sl]<;>omega)))))
    exact Ret.some ⟨0, rfl, by omega, by omega, .inl ⟨rfl, h⟩⟩
  · have bj := hg.lo j hj
    (repeat(first|(refine Ret.pos ?_ ?_;(first|rfl|assumption|(simp only [inI,sl]<;>omega)))|(refine Ret.neg ?_ ?_;(first|rfl|assumption|(simp only [inI,sl]<;>omega)))))
    exact Ret.some ⟨_, rfl, by omega, by omega, .inr ⟨j, hj, h1, h2, rfl⟩⟩

/-! ### The law -/

theorem ordP_lt {r s : List G} (h : (gi s 1).int < (gi r 1).int) : ordP r s < 0 := by
  unfold ordP or2
  have := cmpI_lt.2 h
  rw [if_pos (Int.ne_of_lt this)]
  exact this

theorem pts_desc {T : List (List G)} {i j : Nat} (hij : i ≤ j) (hj : j < (sortA (ltC ordP) T).length) : pts (sortA (ltC ordP) T) j ≤ pts (sortA (ltC ordP) T) i := by
  rcases Nat.lt_or_ge i j with hlt | hge
  · have h := List.pairwise_iff_getElem.1 (sortA_sorted linP (l := T) fun _ _ => trivial) i j (by omega) hj hlt
    have lt : ∀ r s, ltC ordP r s = decide (ordP r s < 0) := fun r s => by unfold ltC; rw [ltI_eq]
    rw [lt, decide_eq_false_iff_not] at h
    unfold pts
    rw [List.getD_eq_getElem?_getD, List.getD_eq_getElem?_getD, List.getElem?_eq_getElem hj, List.getElem?_eq_getElem (by omega : i < (sortA (ltC ordP) T).length)]
    refine Int.not_lt.1 fun hlt2 => h ?_
    simp only [Option.getD_some] at hlt2
    exact ordP_lt hlt2
  · have : i = j := by omega
    rw [this]
    exact Int.le_refl _

theorem rank_one {S : List (List G)} (hd : ∀ i j, i ≤ j → j < S.length → pts S j ≤ pts S i) : ∀ i, i < S.length → (rank S i = 1 ↔ pts S i = pts S 0)
  | 0, _ => by simp [rank]
  | i + 1, hi => by
    have ih := rank_one hd i (by omega)
    simp only [rank]
    by_cases e : pts S (i + 1) = pts S i
    · rw [if_pos e, ih, e]
    · rw [if_neg e]
      have h1 := hd i (i + 1) (by omega) hi
      have h2 := hd 0 i (by omega) (by omega)
      constructor <;> intro h <;> omega

theorem rank_same (S : List (List G)) (i : Nat) (h0 : 0 < i) : (pts S i = pts S (i - 1)) ↔ (rank S i = rank S (i - 1)) := by
  obtain ⟨m, rfl⟩ : ∃ m, i = m + 1 := ⟨i - 1, by omega⟩
  simp only [Nat.add_sub_cancel, rank]
  have := rank_le S m
  by_cases e : pts S (m + 1) = pts S m
  · rw [if_pos e]
    simp [e]
  · rw [if_neg e]
    constructor <;> intro h
    · exact (e h).elim
    · omega

/-- What is in the sorted table. -/
theorem tab_mem {l : List (List G)} {j : Nat} (hj : j < (sortA (ltC ordP) (tabT l)).length) : ∃ i, i < l.length ∧ catE l i = ALLC ∧ callE l i = keyP (sortA (ltC ordP) (tabT l)) j ∧ ptE l i = pts (sortA (ltC ordP) (tabT l)) j := by
  obtain ⟨x, hx, e⟩ := List.mem_map.1 ((sortA_perm (tabT l)).mem_iff.1 (getD_row hj))
  obtain ⟨hx1, hx2⟩ := List.mem_filter.1 hx
  obtain ⟨i, hi, rfl⟩ := List.getElem_of_mem hx1
  have eg : l.getD i [] = l[i] := by rw [List.getD_eq_getElem?_getD, List.getElem?_eq_getElem hi]; rfl
  refine ⟨i, hi, ?_, ?_, ?_⟩
  · unfold catE
    rw [eg]
    simpa using hx2
  · unfold callE keyP
    rw [eg, ← e]
    rfl
  · unfold ptE pts
    rw [eg, ← e]
    rfl
theorem mem_tab {l : List (List G)} {i : Nat} (hi : i < l.length) (hc : catE l i = ALLC) : ∃ j, j < (sortA (ltC ordP) (tabT l)).length ∧ pts (sortA (ltC ordP) (tabT l)) j = ptE l i := by
  have hm : [G.i 0, .i (gi (l.getD i []) 2).int, .s (gi (l.getD i []) 0).str] ∈ sortA (ltC ordP) (tabT l) := by
    refine (sortA_perm (tabT l)).mem_iff.2 (List.mem_map.2 ⟨l.getD i [], List.mem_filter.2 ⟨getD_row hi, ?_⟩, rfl⟩)
    exact decide_eq_true hc
  obtain ⟨j, hj, e⟩ := List.getElem_of_mem hm
  refine ⟨j, hj, ?_⟩
  unfold pts
  rw [List.getD_eq_getElem?_getD, List.getElem?_eq_getElem hj, Option.getD_some, e]
  rfl

theorem better_loop (S R l : List (List G)) (hR : Rkd S R S.length) (hS : S.length ≤ 1000) (r p n : Int) (k : ByteArray) (i : Nat) (hp : 0 ≤ p ∧ p ≤ 1000000000000) (hn : 0 ≤ n ∧ n ≤ 1000000000001) :
    RetL st_pilekeep2_TablesAreFair_16 [.i r, .i p, .s k, .l l, .l R, .i n, .i 0, .l R, .i (S.length : Int), .i (i : Int), .l R, .i (S.length : Int), .i 0] fun c g => c = 0 ∧ ∃ b, g = [.l l, .l R, .i n, .i b, .l R, .i (S.length : Int), .i (i : Int)] ∧ ((∃ j, j < S.length ∧ p < pts S j ∧ pts S j < p + n) → b ≠ 0) := by
  have r := range_all (st := st_pilekeep2_TablesAreFair_16) (σ := Int) (fun b j => [.i r, .i p, .s k, .l l, .l R, .i n, .i b, .l R, .i (S.length : Int), .i (i : Int), .l R, .i (S.length : Int), .i (j : Int)]) R (fun b => (0, [.l l, .l R, .i n, .i b, .l R, .i (S.length : Int), .i (i : Int)]))
    (fun b j => 0 ≤ b ∧ b ≤ (j : Int) ∧ ((∃ m, m < j ∧ p < pts S m ∧ pts S m < p + n) → b ≠ 0)) 0 (by rw [hR.len]; omega) ⟨by omega, by omega, by rintro ⟨m, h, _⟩; omega⟩
    (fun b j x ⟨b0, b1, hb⟩ hj hx hm ht => by
      rw [hR.len] at hj
      have hat := hR.at_ j hj
      rw [hx] at hat
      subst hat
      unfold st_pilekeep2_TablesAreFair_16
      (dsimp +instances only [gi0,gis,row1,rows1,int1,str1,bool1])
      simp only [Int.toNat_natCast, hx, hR.len]
      (dsimp +instances only [gi0,gis,row1,rows1,int1,str1,bool1])
      refine Ret.pos (by (first|rfl|assumption|(simp only [inI,sl]<;>omega))) (Ret.pos (by (first|rfl|assumption|(simp only [inI,sl]<;>omega))) (Ret.pos (by (first|rfl|assumption|(simp only [inI,sl]<;>omega))) ?_))
      have step : ∀ b', b ≤ b' → (p < pts S j → pts S j < p + n → b' ≠ 0) → ((∃ m, m < j + 1 ∧ p < pts S m ∧ pts S m < p + n) → b' ≠ 0) := by
        rintro b' h1 h2 ⟨m, hm, h3, h4⟩
        by_cases e : m = j
        · subst e
          exact h2 h3 h4
        · have := hb ⟨m, by omega, h3, h4⟩
          omega
      refine Ret.test (fun h => ?_) fun h => ?_
      · refine Ret.test (fun h2 => ?_) fun h2 => ?_
        · (repeat(first|(refine Ret.pos ?_ ?_;(first|rfl|assumption|(simp only [inI,sl]<;>omega)))|(refine Ret.neg ?_ ?_;(first|rfl|assumption|(simp only [inI,sl]<;>omega)))))
          exact Ret.some ⟨b + 1, rfl, by omega, by omega, step _ (by omega) fun _ _ => by omega⟩
        · simp only [ltI_eq, decide_eq_false_iff_not] at h2
          (repeat(first|(refine Ret.pos ?_ ?_;(first|rfl|assumption|(simp only [inI,sl]<;>omega)))|(refine Ret.neg ?_ ?_;(first|rfl|assumption|(simp only [inI,sl]<;>omega)))))
          exact Ret.some ⟨b, rfl, by omega, by omega, step _ (by omega) fun _ _ => by omega⟩
      · simp only [ltI_eq, decide_eq_false_iff_not] at h
        (repeat(first|(refine Ret.pos ?_ ?_;(first|rfl|assumption|(simp only [inI,sl]<;>omega)))|(refine Ret.neg ?_ ?_;(first|rfl|assumption|(simp only [inI,sl]<;>omega)))))
        exact Ret.some ⟨b, rfl, by omega, by omega, step _ (by omega) fun _ _ => by omega⟩)
    (fun b hI => by
      unfold st_pilekeep2_TablesAreFair_16
      (dsimp +instances only [gi0,gis,row1,rows1,int1,str1,bool1])
      simp only [hR.len]
      (repeat(first|(refine Ret.pos ?_ ?_;(first|rfl|assumption|(simp only [inI,sl]<;>omega)))|(refine Ret.neg ?_ ?_;(first|rfl|assumption|(simp only [inI,sl]<;>omega)))))
      exact Ret.some rfl)
  refine r.mono ?_
  rintro c g ⟨b, ⟨_, _, h⟩, rfl, rfl⟩
  rw [hR.len] at h
  exact ⟨rfl, b, rfl, h⟩

theorem fair_loop (l R : List (List G)) (hr : ∀ z ∈ l, Ent z) (hn : l.length ≤ 10) (hf : faultEnt l = 0) (hR : Rkd (sortA (ltC ordP) (tabT l)) R (sortA (ltC ordP) (tabT l)).length) :
    RetL st_pilekeep2_TablesAreFair_9 [.l l, .l R, .l R, .i (R.length : Int), .i 0] fun c _ => c = 1 := by
  have hg := goodE (by omega) hf
  have hT := tabT_length l
  have hSl := sortA_length (ltC ordP) (tabT l)
  have htm := fun j => @tab_mem l j
  have hmt := fun i => @mem_tab l i
  have hd := fun i j => @pts_desc (tabT l) i j
  generalize sortA (ltC ordP) (tabT l) = S at *
  refine (range_all (st := st_pilekeep2_TablesAreFair_9) (σ := Unit) (fun _ i => [.l l, .l R, .l R, .i (R.length : Int), .i (i : Int)]) R (fun _ => (1, [])) (fun _ _ => True) () (by rw [hR.len]; omega) trivial ?_ ?_).mono ?_
  · intro _ i x _ hi hx hm ht
    rw [hR.len] at hi
    have hat := hR.at_ i hi
    rw [if_pos hi, hx] at hat
    subst hat
    obtain ⟨i0, hi0, q1, q2, q3⟩ := htm i hi
    have b0 := hg.lo i0 hi0
    unfold st_pilekeep2_TablesAreFair_9
    (dsimp +instances only [gi0,gis,row1,rows1,int1,str1,bool1])
    simp only [Int.toNat_natCast, hx, hR.len]
    (dsimp +instances only [gi0,gis,row1,rows1,int1,str1,bool1])
    refine Ret.pos (by (first|rfl|assumption|(simp only [inI,sl]<;>omega))) (Ret.pos (by (first|rfl|assumption|(simp only [inI,sl]<;>omega))) ?_)
    refine Ret.call (need_ok l hr (by omega) hf (keyP S i) i0 hi0 q1 q2) ?_
    rintro _ ⟨n, rfl, n0, n1, hneed⟩
    (dsimp +instances only [gi0,gis,row1,rows1,int1,str1,bool1])
    rw [q3] at hneed b0
    have hone : (n = 0 ↔ rank S i = 1) := by
      rw [rank_one (fun a b => hd a b) i hi]
      have h00 := hd 0 i (by omega) hi
      constructor
      · rintro rfl
        rcases hneed with ⟨_, h⟩ | ⟨j, _, _, _, h⟩
        · obtain ⟨z, hz, z1, z2, z3⟩ := htm 0 (by omega)
          have := h z hz z1
          omega
        · omega
      · intro e
        rcases hneed with ⟨h, _⟩ | ⟨j, hj, hc, h1, h2⟩
        · exact h
        · obtain ⟨z, hz, z1⟩ := hmt j hj hc
          have := hd 0 z (by omega) hz
          omega
    refine Ret.neg rfl (Ret.neg ?_ ?_)
    · have : (n == 0) = (rank S i == 1) := by
        rw [Bool.eq_iff_iff, beq_iff_eq, beq_iff_eq]
        exact hone
      rw [this]
      simp
    have hin := better_loop S R l hR (by omega) (rank S i) (pts S i) n (keyP S i) i (by omega) ⟨n0, n1⟩
    have hend : ∀ b : Int, ((∃ j, j < S.length ∧ pts S i < pts S j ∧ pts S j < pts S i + n) → b ≠ 0) → 0 < n → b ≠ 0 := by
      intro b hb hpos
      rcases hneed with ⟨h, _⟩ | ⟨j, hj, hc, h1, h2⟩
      · omega
      · obtain ⟨z, hz, z1⟩ := hmt j hj hc
        exact hb ⟨z, hz, by omega, by omega⟩
    refine Ret.test (fun h => ?_) fun h => ?_
    · simp only [ltI_eq, decide_eq_true_eq] at h
      have ei : ((i : Int) - 1).toNat = i - 1 := by omega
      have hat1 := hR.at_ (i - 1) (by omega)
      rw [if_pos (by omega)] at hat1
      have hd1 := hd (i - 1) i (by omega) hi
      have hs := rank_same S i (by omega)
      simp only [ei, hat1]
      (dsimp +instances only [gi0,gis,row1,rows1,int1,str1,bool1])
      refine Ret.pos (by (first|rfl|assumption|(simp only [inI,sl]<;>omega))) (Ret.pos (by (first|rfl|assumption|(simp only [inI,sl]<;>omega))) (Ret.neg (by (first|rfl|assumption|(simp only [inI,sl]<;>omega))) (Ret.pos (by (first|rfl|assumption|(simp only [inI,sl]<;>omega))) (Ret.pos (by (first|rfl|assumption|(simp only [inI,sl]<;>omega))) (Ret.pos (by (first|rfl|assumption|(simp only [inI,sl]<;>omega))) (Ret.pos (by (first|rfl|assumption|(simp only [inI,sl]<;>omega))) (Ret.neg ?_ ?_)))))))
      · have : (pts S i == pts S (i - 1)) = (rank S i == rank S (i - 1)) := by
          rw [Bool.eq_iff_iff, beq_iff_eq, beq_iff_eq]
          exact hs
        rw [this]
        simp
      refine Ret.loop hin rfl ?_
      rintro _ _ ⟨rfl, b, rfl, hb⟩
      (dsimp +instances only [gi0,gis,row1,rows1,int1,str1,bool1])
      refine Ret.test (fun h2 => ?_) fun h2 => ?_
      · simp only [ltI_eq, decide_eq_true_eq] at h2
        have := hend b hb h2
        refine Ret.neg (by simpa using this) ?_
        (repeat(first|(refine Ret.pos ?_ ?_;(first|rfl|assumption|(simp only [inI,sl]<;>omega)))|(refine Ret.neg ?_ ?_;(first|rfl|assumption|(simp only [inI,sl]<;>omega)))))
        exact Ret.some ⟨(), rfl, trivial⟩
      · (repeat(first|(refine Ret.pos ?_ ?_;(first|rfl|assumption|(simp only [inI,sl]<;>omega)))|(refine Ret.neg ?_ ?_;(first|rfl|assumption|(simp only [inI,sl]<;>omega)))))
        exact Ret.some ⟨(), rfl, trivial⟩
    · refine Ret.loop hin rfl ?_
      rintro _ _ ⟨rfl, b, rfl, hb⟩
      (dsimp +instances only [gi0,gis,row1,rows1,int1,str1,bool1])
      refine Ret.test (fun h2 => ?_) fun h2 => ?_
      · simp only [ltI_eq, decide_eq_true_eq] at h2
        have := hend b hb h2
        refine Ret.neg (by simpa using this) ?_
        (repeat(first|(refine Ret.pos ?_ ?_;(first|rfl|assumption|(simp only [inI,sl]<;>omega)))|(refine Ret.neg ?_ ?_;(first|rfl|assumption|(simp only [inI,sl]<;>omega)))))
        exact Ret.some ⟨(), rfl, trivial⟩
      · (repeat(first|(refine Ret.pos ?_ ?_;(first|rfl|assumption|(simp only [inI,sl]<;>omega)))|(refine Ret.neg ?_ ?_;(first|rfl|assumption|(simp only [inI,sl]<;>omega)))))
        exact Ret.some ⟨(), rfl, trivial⟩
  · intro _ _
    unfold st_pilekeep2_TablesAreFair_9
    (dsimp +instances only [gi0,gis,row1,rows1,int1,str1,bool1])
    (repeat(first|(refine Ret.pos ?_ ?_;(first|rfl|assumption|(simp only [inI,sl]<;>omega)))|(refine Ret.neg ?_ ?_;(first|rfl|assumption|(simp only [inI,sl]<;>omega)))))
    exact Ret.some rfl
  · rintro c g ⟨_, _, rfl, _⟩
    rfl

/-- Ranks fall with points; who needs nothing is first; with what somebody needs they are before one more. -/
theorem tablesAreFair_data (rows : List (List G)) : F_pilekeep2_TablesAreFair [.l rows] = some [.t true] := by
  refine Ret.toEq ?_
  unfold F_pilekeep2_TablesAreFair
  (dsimp +instances only [gi0,gis,row1,rows1,int1,str1,bool1])
  refine Ret.call (r_Entrants rows 0 (by omega) (by omega)) ?_
  rintro _ ⟨a, l, rfl, _, _, hl, hn⟩
  (dsimp +instances only [gi0,gis,row1,rows1,int1,str1,bool1])
  refine Ret.call (Ret.eq (fault_ok l hl)) ?_
  rintro _ rfl
  (dsimp +instances only [gi0,gis,row1,rows1,int1,str1,bool1])
  have ready : Ret (callF (F_pilekeep2_ready []) fun g3 => some [G.t (gi g3 0).bool]) fun g => g = [.t true] := Ret.call (Ret.eq (rfl : F_pilekeep2_ready [] = some [.t true])) fun _ h => by
    subst h
    exact Ret.some rfl
  refine Ret.test (fun _ => ready) fun h => ?_
  have hf : faultEnt l = 0 := by simpa using h
  refine Ret.call (table_ok l hl hn hf) ?_
  rintro _ ⟨R, rfl, hR⟩
  refine Ret.neg rfl ?_
  refine Ret.loop (fair_loop l R hl hn hf hR) rfl ?_
  rintro c g rfl
  exact Ret.neg rfl ready

end
end Go.Proofs.SYtmgdncpkhfgooaaGreatDoor
