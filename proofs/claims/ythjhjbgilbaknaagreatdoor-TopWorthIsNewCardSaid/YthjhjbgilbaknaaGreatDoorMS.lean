/-
 What is proved here: who is heard by the reference; lists of spots in one. No condition.
-/
import Derived.Test.YthjhjbgilbaknaaGreatDoorMF
import Derived.Test.YthjhjbgilbaknaaGreatDoorME
set_option linter.unusedSimpArgs false
set_option linter.unusedVariables false
set_option linter.unusedSectionVars false
namespace Go.Proofs.SYthjhjbgilbaknaaGreatDoor
open Go Go.AL Go.Proofs
noncomputable section
theorem find_pre {st : List G → Option (Option Nat × List G)} (mk : Nat → List G) (rows : List (List G)) (p : List G → Bool) (pre : List G) (hn : rows.length < 999999)
  (hstep : ∀ i x, i < rows.length → rows.getD i [] = x → x ∈ rows → Ret (st (mk i)) fun o => o = bif p x then (some 0, pre ++ [.i (i : Int)]) else (none, mk (i + 1))) (hfin : Ret (st (mk rows.length)) fun o => o = (some 1, pre)) :
  RetL st (mk 0) fun c g => (c = 0 ∧ rows.any p = true ∧ ∃ i : Nat, g = pre ++ [.i (i : Int)]) ∨ c = 1 ∧ g = pre ∧ rows.any p = false := by
 refine (range_inv (σ := Unit) (fun _ i => mk i) rows (fun _ => (1, pre)) (fun _ i => (rows.take i).any p = false) (fun c g => c = 0 ∧ rows.any p = true ∧ ∃ i : Nat, g = pre ++ [.i (i : Int)]) () hn (by simp) ?_ (fun _ _ => hfin)).mono ?_
 ·rintro _ i x hI hi hx hm ht
  refine (hstep i x hi hx hm).mono ?_
  rintro _ rfl
  cases hp : p x with
  | true => exact .inr ⟨0, _, rfl, rfl, List.any_eq_true.2 ⟨x, hm, hp⟩, i, rfl⟩
  | false =>
   refine .inl ⟨(), rfl, ?_⟩
   rw [ht, List.any_append, hI]
   simp [hp]
 ·rintro c g (⟨_, h, rfl, rfl⟩ | h)
  ·exact .inr ⟨rfl, rfl, by simpa using h⟩
  ·exact .inl h
section
variable {b : List (List G)} {life at_ : Int}
end
/-! ### What is asked for -/
def faultAsked (life at_ hertz : Int) : Int := bif inB life 1 86400000 && (inB at_ 0 345686399999 && inB hertz 0 30000000000) then 0 else 1
theorem asked_ok (life at_ hertz : Int) : F_band_askedFault [.i life, .i at_, .i hertz] = some [.i (faultAsked life at_ hertz)] := by
 unfold F_band_askedFault faultAsked
 (dsimp +instances only [Aa,Ab,Ac,Ad,Ae,Af,Ag])
 rw [outside_eq, callF_some rfl]
 (dsimp +instances only [Aa,Ab,Ac,Ad,Ae,Af,Ag])
 rw [isMomentY, callF_some rfl]
 (dsimp +instances only [Aa,Ab,Ac,Ad,Ae,Af,Ag])
 rw [outside_eq, callF_some rfl]
 cases inB life 1 86400000 <;> cases inB at_ 0 345686399999 <;> cases inB hertz 0 30000000000 <;> rfl
theorem lists_ok (b l : List (List G)) (hb : ∀ z ∈ b, Bnd z) (hl : ∀ z ∈ l, Spt z) : F_band_listsFault [.l b, .l l] = some [.i (if faultBands b ≠ 0 then faultBands b else faultSpots l)] := by
 refine Ret.toEq ?_
 unfold F_band_listsFault
 (dsimp +instances only [Aa,Ab,Ac,Ad,Ae,Af,Ag])
 refine Ret.cE (checkBands_ok b hb) ?_
 (dsimp +instances only [Aa,Ab,Ac,Ad,Ae,Af,Ag])
 refine Ret.test (fun h => ?_) fun h => ?_
 ·rw [if_pos (by simpa using h)]
  exact Ret.some rfl
 ·rw [if_neg (by simpa using h)]
  refine Ret.cE (checkSpots_ok l hl) ?_
  exact Ret.some rfl
/-! ### Two lists in one -/
theorem fE_cons (x : Int) (xs : List Int) : firstE (x :: xs) = if x ≠ 0 then x else firstE xs := by
 show (bif x != 0 then x else firstE xs) = _
 by_cases h : x = 0
 ·subst h
  simp
 ·have e : (x != 0) = true := by simpa using h
  rw [e, if_pos h, cond_true]
theorem fE_nil : firstE [] = 0 := rfl
section
variable {b x : List (List G)} {life at_ : Int}
end
theorem srtW4 {Q : List G → Prop} {c : List G → List G → Int} (hz : Int) (hE : ∀ x, Q x → gEta KSpot x = x) (hC : ∀ x y, Q x → Q y → F_band_Worth_2 [.i hz, .l [x], .l [y]] = some [.i hz, .i (c x y)]) : ∀ (p q : List (List G)) (x : List G) (b i : Int) (j : Nat), (∀ y ∈ p, Q y) → Q x → p.length < 1000000 → j = p.length →
  ∃ m, m ≤ p.length + 1 ∧ Runs st_insS_Spot_2_4 m [.l (p.reverse ++ x :: q), .i hz, .i 0, .i b, .i i, .i (j : Int)] 0 [.l ((insA (ltC c) x p).reverse ++ q), .i hz, .i 0, .i b, .i i]
 | [], q, x, b, i, j, _, _, _, hj => by
  simp only [List.length_nil] at hj
  subst hj
  refine ⟨1, by simp, .stop (Ret.toEq ?_)⟩
  unfold st_insS_Spot_2_4
  (dsimp +instances only [Aa,Ab,Ac,Ad,Ae,Af,Ag])
  refine Ret.n ?_
  (repeat first|refine Ret.p ?_|refine Ret.n ?_)
  exact Ret.some rfl
 | y :: p, q, x, b, i, j, hp, hx, hl, hj => by
  have hy := hp y List.mem_cons_self
  have e1 : (y :: p).reverse ++ x :: q = (p.reverse ++ [y]) ++ x :: q := by simp
  have e2 : (y :: p).reverse ++ x :: q = p.reverse ++ y :: x :: q := by simp
  simp only [List.length_cons] at hl hj
  have g1 : ((y :: p).reverse ++ x :: q).getD (0 + (j : Int).toNat) [] = x := by rw [e1]; exact getD_mid _ _ _ _ _ (by simp [hj])
  have g2 : ((y :: p).reverse ++ x :: q).getD (0 + ((j : Int) - 1).toNat) [] = y := by rw [e2]; exact getD_mid _ _ _ _ _ (by simp [hj])
  have hlen : ((y :: p).reverse ++ x :: q).length = p.length + q.length + 2 := by simp; omega
  have hcmp := hC x y hx hy
  cases hlt : ltC c x y with
  | false =>
   refine ⟨1, by simp, .stop (Ret.toEq ?_)⟩
   unfold st_insS_Spot_2_4
   (dsimp +instances only [Aa,Ab,Ac,Ad,Ae,Af,Ag])
   simp only [hlen, g1, g2, hE x hx, hE y hy]
   refine Ret.p (Ret.p (Ret.p (Ret.p (Ret.p (Ret.p ?_)))))
   first | refine Ret.call (Ret.eq hcmp) ?_ | refine Ret.callb (Ret.eq hcmp) (by (first|rfl|assumption|(simp only [inI,sl]<;>omega))) ?_
   rintro _ rfl
   (dsimp +instances only [Aa,Ab,Ac,Ad,Ae,Af,Ag])
   refine Ret.neg hlt ?_
   (repeat first|refine Ret.p ?_|refine Ret.n ?_)
   refine Ret.some ?_
   simp [insA, hlt]
  | true =>
   obtain ⟨m, hm, hr⟩ := srtW4 hz hE hC p (y :: q) x b i (j - 1) (fun z hz => hp z (List.mem_cons_of_mem _ hz)) hx (by omega) (by omega)
   refine ⟨m + 1, by simp; omega, .next (Ret.toEq ?_) (by
    have e : (insA (ltC c) x (y :: p)).reverse ++ q = (insA (ltC c) x p).reverse ++ y :: q := by simp [insA, hlt]
    rw [e]; exact hr)⟩
   have s1 : ((y :: p).reverse ++ x :: q).set (0 + (j : Int).toNat) y = p.reverse ++ y :: y :: q := by
    rw [e1, set_mid _ _ _ _ _ (by simp [hj])]; simp
   have s2 : (p.reverse ++ y :: y :: q).set (0 + ((j : Int) - 1).toNat) x = p.reverse ++ x :: y :: q := set_mid _ _ _ _ _ (by simp [hj])
   have g3 : (p.reverse ++ y :: y :: q).getD (0 + ((j : Int) - 1).toNat) [] = y := getD_mid _ _ _ _ _ (by simp [hj])
   have hl2 : (p.reverse ++ y :: y :: q).length = p.length + q.length + 2 := by simp; omega
   have hl3 : (p.reverse ++ x :: y :: q).length = p.length + q.length + 2 := by simp; omega
   have ky : y.length = KSpot.length := by rw [← hE y hy, gEta_length]
   have kx : x.length = KSpot.length := by rw [← hE x hx, gEta_length]
   unfold st_insS_Spot_2_4
   (dsimp +instances only [Aa,Ab,Ac,Ad,Ae,Af,Ag])
   simp only [hlen, g1, g2, hE x hx, hE y hy, putG_all ky, putG_all kx, s1, g3, s2, hl2, hl3]
   refine Ret.p (Ret.p (Ret.p (Ret.p (Ret.p (Ret.p ?_)))))
   first | refine Ret.call (Ret.eq hcmp) ?_ | refine Ret.callb (Ret.eq hcmp) (by (first|rfl|assumption|(simp only [inI,sl]<;>omega))) ?_
   rintro _ rfl
   (dsimp +instances only [Aa,Ab,Ac,Ad,Ae,Af,Ag])
   refine Ret.pos hlt ?_
   (repeat first|refine Ret.p ?_|refine Ret.n ?_)
   refine Ret.some ?_
   try simp only [Int.toNat_natCast]
   rw [show ((j : Int) - 1) = ((j - 1 : Nat) : Int) from by omega]
theorem srtW1 {Q : List G → Prop} {c : List G → List G → Int} (hz : Int) (hE : ∀ x, Q x → gEta KSpot x = x) (hC : ∀ x y, Q x → Q y → F_band_Worth_2 [.i hz, .l [x], .l [y]] = some [.i hz, .i (c x y)]) : ∀ (r p : List (List G)) (i n : Nat), (∀ y ∈ p, Q y) → (∀ y ∈ r, Q y) → i = p.length → n = p.length + r.length → n < 100000 →
  ∃ m, m ≤ r.length + 1 ∧ Runs st_insS_Spot_2_1 m [.l (p.reverse ++ r), .i hz, .i 0, .i (n : Int), .i (i : Int)] 0 [.l (insAll (ltC c) p r).reverse, .i hz]
 | [], p, i, n, _, _, hi, hn, hs => by
  refine ⟨1, by simp, .stop (Ret.toEq ?_)⟩
  simp only [List.length_nil] at hn
  unfold st_insS_Spot_2_1
  (dsimp +instances only [Aa,Ab,Ac,Ad,Ae,Af,Ag])
  refine Ret.n ?_
  (repeat first|refine Ret.p ?_|refine Ret.n ?_)
  refine Ret.some ?_
  simp [insAll]
 | x :: r, p, i, n, hp, hr, hi, hn, hs => by
  simp only [List.length_cons] at hn
  obtain ⟨m1, hm1, h1⟩ := srtW4 hz hE hC p r x (n : Int) (i : Int) i hp (hr x List.mem_cons_self) (by omega) hi
  obtain ⟨m, hm, h2⟩ := srtW1 hz hE hC r (insA (ltC c) x p) (i + 1) n (insA_all (hr x List.mem_cons_self) hp) (fun y hy => hr y (List.mem_cons_of_mem _ hy)) (by rw [insA_length, hi]) (by rw [insA_length]; omega) hs
  refine ⟨m + 1, by simp; omega, .next (Ret.toEq ?_) h2⟩
  unfold st_insS_Spot_2_1
  (dsimp +instances only [Aa,Ab,Ac,Ad,Ae,Af,Ag])
  refine Ret.p (Ret.loop (P := fun x g => g = _) ⟨m1, 0, _, h1, by omega, rfl⟩ (by (first|rfl|assumption|(simp only [inI,sl]<;>omega))) ?_)
  rintro _ _ rfl
  (dsimp +instances only [Aa,Ab,Ac,Ad,Ae,Af,Ag])
  (repeat first|refine Ret.p ?_|refine Ret.n ?_)
  exact Ret.some rfl
theorem srtWF {Q : List G → Prop} {c : List G → List G → Int} (hz : Int) (hE : ∀ x, Q x → gEta KSpot x = x) (hC : ∀ x y, Q x → Q y → F_band_Worth_2 [.i hz, .l [x], .l [y]] = some [.i hz, .i (c x y)]) (rows : List (List G)) (hr : ∀ y ∈ rows, Q y) (hn : rows.length < 100000) : F_insS_Spot_2 [.l rows, .i hz, .i 0, .i (rows.length : Int)] = some [.l (sortA (ltC c) rows), .i hz] := by
 refine Ret.toEq ?_
 unfold F_insS_Spot_2
 (dsimp +instances only [Aa,Ab,Ac,Ad,Ae,Af,Ag])
 refine Ret.p ?_
 cases rows with
 | nil =>
  refine Ret.loop (P := fun x g => g = [.l [], .i hz]) ⟨1, 0, _, .stop (Ret.toEq (?_ : Ret _ (fun g => g = (some 0, [G.l [], .i hz])))), by omega, rfl⟩ (by (first|rfl|assumption|(simp only [inI,sl]<;>omega))) ?_
  ·unfold st_insS_Spot_2_1
   (dsimp +instances only [Aa,Ab,Ac,Ad,Ae,Af,Ag])
   refine Ret.n ?_
   (repeat first|refine Ret.p ?_|refine Ret.n ?_)
   exact Ret.some rfl
  ·rintro _ _ rfl
   (dsimp +instances only [Aa,Ab,Ac,Ad,Ae,Af,Ag])
   (repeat first|refine Ret.p ?_|refine Ret.n ?_)
   exact Ret.some rfl
 | cons x r =>
  simp only [List.length_cons] at hn
  obtain ⟨m, hm, h⟩ := srtW1 hz hE hC r [x] 1 (r.length + 1) (by simpa using hr x List.mem_cons_self) (fun y hy => hr y (List.mem_cons_of_mem _ hy)) rfl (by simp; omega) (by omega)
  refine Ret.loop (P := fun y g => g = _) ⟨m, 0, _, h, by omega, rfl⟩ (by (first|rfl|assumption|(simp only [inI,sl]<;>omega))) ?_
  rintro _ _ rfl
  (dsimp +instances only [Aa,Ab,Ac,Ad,Ae,Af,Ag])
  (repeat first|refine Ret.p ?_|refine Ret.n ?_)
  exact Ret.some rfl
theorem srtWN {Q : List G → Prop} {c : List G → List G → Int} (hz : Int) (hE : ∀ x, Q x → gEta KSpot x = x) (hC : ∀ x y, Q x → Q y → F_band_Worth_2 [.i hz, .l [x], .l [y]] = some [.i hz, .i (c x y)]) (rows : List (List G)) (a b : Nat) (h : b ≤ a) (hn : a < 100000) : F_insS_Spot_2 [.l rows, .i hz, .i (a : Int), .i (b : Int)] = some [.l rows, .i hz] := by
 refine Ret.toEq ?_
 unfold F_insS_Spot_2
 (dsimp +instances only [Aa,Ab,Ac,Ad,Ae,Af,Ag])
 refine Ret.p ?_
 refine Ret.loop (P := fun x g => g = [.l rows, .i hz]) ⟨1, 0, _, .stop (Ret.toEq (?_ : Ret _ (fun g => g = (some 0, [G.l rows, .i hz])))), by omega, rfl⟩ (by (first|rfl|assumption|(simp only [inI,sl]<;>omega))) ?_
 ·unfold st_insS_Spot_2_1
  (dsimp +instances only [Aa,Ab,Ac,Ad,Ae,Af,Ag])
  refine Ret.n ?_
  (repeat first|refine Ret.p ?_|refine Ret.n ?_)
  exact Ret.some rfl
 ·rintro _ _ rfl
  (dsimp +instances only [Aa,Ab,Ac,Ad,Ae,Af,Ag])
  (repeat first|refine Ret.p ?_|refine Ret.n ?_)
  exact Ret.some rfl
theorem srtWT {Q : List G → Prop} {c : List G → List G → Int} (hz : Int) (hE : ∀ x, Q x → gEta KSpot x = x) (hC : ∀ x y, Q x → Q y → F_band_Worth_2 [.i hz, .l [x], .l [y]] = some [.i hz, .i (c x y)]) (rows : List (List G)) (hr : ∀ y ∈ rows, Q y) (hn : rows.length ≤ 20) : F_stbS_Spot_2 [.l rows, .i hz, .i (rows.length : Int)] = some [.l (sortA (ltC c) rows), .i hz] := by
 refine Ret.toEq ?_
 unfold F_stbS_Spot_2
 (dsimp +instances only [Aa,Ab,Ac,Ad,Ae,Af,Ag])
 have hS := srtWF hz hE hC rows hr (by omega)
 have hlen := sortA_length (ltC c) rows
 have h7 : ∀ rows' : List (List G), rows'.length = rows.length → RetL st_stbS_Spot_2_7 [.l rows', .i hz, .i (rows.length : Int), .i 20] fun _ g => g = [.l rows', .i hz] := by
  intro rows' hl
  refine RetL.stop (x := 0) (Ret.toEq ?_) rfl
  unfold st_stbS_Spot_2_7
  (dsimp +instances only [Aa,Ab,Ac,Ad,Ae,Af,Ag])
  refine Ret.n ?_
  (repeat first|refine Ret.p ?_|refine Ret.n ?_)
  exact Ret.some rfl
 by_cases h20 : rows.length = 20
 ·have h1 : st_stbS_Spot_2_2 [.l rows, .i hz, .i (rows.length : Int), .i 20, .i 0, .i 20] = some (none, [.l (sortA (ltC c) rows), .i hz, .i (rows.length : Int), .i 20, .i 20, .i 40]) := by
   refine Ret.toEq ?_
   unfold st_stbS_Spot_2_2
   (dsimp +instances only [Aa,Ab,Ac,Ad,Ae,Af,Ag])
   have hS : F_insS_Spot_2 [.l rows, .i hz, .i 0, .i 20] = some [.l (sortA (ltC c) rows), .i hz] := by rw [h20] at hS; exact hS
   refine Ret.p (Ret.callb (Ret.eq hS) (by (first|rfl|assumption|(simp only [inI,sl]<;>omega))) ?_)
   rintro _ rfl
   (dsimp +instances only [Aa,Ab,Ac,Ad,Ae,Af,Ag])
   (repeat first|refine Ret.p ?_|refine Ret.n ?_)
   exact Ret.some rfl
  have h2 : st_stbS_Spot_2_2 [.l (sortA (ltC c) rows), .i hz, .i (rows.length : Int), .i 20, .i 20, .i 40] = some (some 0, [.l (sortA (ltC c) rows), .i hz, .i (rows.length : Int), .i 20, .i 20]) := by
   refine Ret.toEq ?_
   unfold st_stbS_Spot_2_2
   (dsimp +instances only [Aa,Ab,Ac,Ad,Ae,Af,Ag])
   refine Ret.n ?_
   (repeat first|refine Ret.p ?_|refine Ret.n ?_)
   exact Ret.some rfl
  refine Ret.loop (P := fun x g => g = _) ⟨2, 0, _, .next h1 (.stop h2), by omega, rfl⟩ (by (first|rfl|assumption|(simp only [inI,sl]<;>omega))) ?_
  rintro _ _ rfl
  (dsimp +instances only [Aa,Ab,Ac,Ad,Ae,Af,Ag])
  have hE2 : F_insS_Spot_2 [.l (sortA (ltC c) rows), .i hz, .i 20, .i (rows.length : Int)] = some [.l (sortA (ltC c) rows), .i hz] := by
   rw [h20]; exact srtWN hz hE hC _ 20 20 (by omega) (by omega)
  refine Ret.callb (Ret.eq hE2) (by (first|rfl|assumption|(simp only [inI,sl]<;>omega))) ?_
  rintro _ rfl
  (dsimp +instances only [Aa,Ab,Ac,Ad,Ae,Af,Ag])
  refine Ret.loop (h7 _ hlen) (by (first|rfl|assumption|(simp only [inI,sl]<;>omega))) ?_
  rintro _ _ rfl
  (dsimp +instances only [Aa,Ab,Ac,Ad,Ae,Af,Ag])
  (repeat first|refine Ret.p ?_|refine Ret.n ?_)
  exact Ret.some rfl
 ·have h1 : st_stbS_Spot_2_2 [.l rows, .i hz, .i (rows.length : Int), .i 20, .i 0, .i 20] = some (some 0, [.l rows, .i hz, .i (rows.length : Int), .i 20, .i 0]) := by
   refine Ret.toEq ?_
   unfold st_stbS_Spot_2_2
   (dsimp +instances only [Aa,Ab,Ac,Ad,Ae,Af,Ag])
   refine Ret.n ?_
   (repeat first|refine Ret.p ?_|refine Ret.n ?_)
   exact Ret.some rfl
  refine Ret.loop (P := fun x g => g = _) ⟨1, 0, _, .stop h1, by omega, rfl⟩ (by (first|rfl|assumption|(simp only [inI,sl]<;>omega))) ?_
  rintro _ _ rfl
  (dsimp +instances only [Aa,Ab,Ac,Ad,Ae,Af,Ag])
  refine Ret.callb (Ret.eq hS) (by (first|rfl|assumption|(simp only [inI,sl]<;>omega))) ?_
  rintro _ rfl
  (dsimp +instances only [Aa,Ab,Ac,Ad,Ae,Af,Ag])
  refine Ret.loop (h7 _ hlen) (by (first|rfl|assumption|(simp only [inI,sl]<;>omega))) ?_
  rintro _ _ rfl
  (dsimp +instances only [Aa,Ab,Ac,Ad,Ae,Af,Ag])
  (repeat first|refine Ret.p ?_|refine Ret.n ?_)
  exact Ret.some rfl
theorem srtW_eq {Q : List G → Prop} {c : List G → List G → Int} (hz : Int) (hE : ∀ x, Q x → gEta KSpot x = x) (hC : ∀ x y, Q x → Q y → F_band_Worth_2 [.i hz, .l [x], .l [y]] = some [.i hz, .i (c x y)]) (rows : List (List G)) (hr : ∀ y ∈ rows, Q y) (hn : rows.length ≤ 20) : F_srtS_Spot_2 [.l rows, .i hz] = some [.l (sortA (ltC c) rows), .i hz] := by
 refine Ret.toEq ?_
 unfold F_srtS_Spot_2
 (dsimp +instances only [Aa,Ab,Ac,Ad,Ae,Af,Ag])
 refine Ret.callb (Ret.eq (srtWT hz hE hC rows hr hn)) (by (first|rfl|assumption|(simp only [inI,sl]<;>omega))) ?_
 rintro _ rfl
 (dsimp +instances only [Aa,Ab,Ac,Ad,Ae,Af,Ag])
 (repeat first|refine Ret.p ?_|refine Ret.n ?_)
 exact Ret.some rfl
section
variable {b : List (List G)} {life at_ : Int}
end
theorem isModeY (t : Int) : F_kit_IsMode [.i t] = some [.t (inB t 1 3)] := by
 unfold F_kit_IsMode
 (dsimp +instances only [Aa,Ab,Ac,Ad,Ae,Af,Ag])
 rw [outside_eq]
 show some [G.t (!(!inB t 1 3))] = _
 rw [Bool.not_not]
def apI (h hz : Int) : Int := if (hz - h) > (h - hz) then (hz - h) else (h - hz)
theorem apI_b {h hz : Int} (h1 : b50 h) (h2 : b50 hz) : 0 ≤ apI h hz ∧ apI h hz ≤ 4000000000000000 := by
 unfold b50 at h1 h2
 unfold apI
 split <;> omega
theorem Spt.hz {s : List G} (h : Spt s) : b50 (gi s 1).int := by
 obtain ⟨t, h, c, y, rfl, _, hh, _⟩ := h
 exact hh
theorem Spt.call {s : List G} (h : Spt s) : (gi s 2).str ∈ calls := by
 obtain ⟨t, h, c, y, rfl, _, _, hc, _⟩ := h
 exact hc
def cW (hz : Int) (x y : List G) : Int := apI (gi x 1).int hz - apI (gi y 1).int hz
theorem far_ok {s : List G} {hz : Int} (hs : Spt s) (h2 : b50 hz) : F_band_Worth_1 [.l [s], .l [[.i hz]]] = some [.i (apI (gi s 1).int hz)] := by
 have h1 := hs.hz
 unfold b50 at h1 h2
 refine Ret.toEq ?_
 unfold F_band_Worth_1 apI
 (dsimp +instances only [Aa,Ab,Ac,Ad,Ae,Af,Ag])
 (repeat first|refine Ret.p ?_|refine Ret.n ?_)
 exact Ret.some rfl
theorem cmpW {hz : Int} (h2 : b50 hz) (x y : List G) (hx : Spt x) (hy : Spt y) : F_band_Worth_2 [.i hz, .l [x], .l [y]] = some [.i hz, .i (cW hz x y)] := by
 have b1 := apI_b hx.hz h2
 have b2 := apI_b hy.hz h2
 refine Ret.toEq ?_
 unfold F_band_Worth_2 cW
 (dsimp +instances only [Aa,Ab,Ac,Ad,Ae,Af,Ag])
 simp only [hx.eta, hy.eta]
 refine Ret.cE (far_ok hx h2) ?_
 (dsimp +instances only [Aa,Ab,Ac,Ad,Ae,Af,Ag])
 refine Ret.cE (far_ok hy h2) ?_
 (dsimp +instances only [Aa,Ab,Ac,Ad,Ae,Af,Ag])
 (repeat first|refine Ret.p ?_|refine Ret.n ?_)
 exact Ret.some rfl
/-! ### Who was worked -/
theorem Con.calls3 {c : List G} (h : Con c) : (gi c 3).str ∈ calls := by
 obtain ⟨t, m, bd, cl, s, hh, x, y, rfl, _, _, _, _, _, hc, _⟩ := h
 exact hc
def wkdB (lg : List (List G)) (at_ mode : Int) (b : List (List G)) (s : List G) : Bool :=
 lg.any fun c => leI (gi c 0).int at_ && ((gi c 1).int == mode && (((gi c 2).str.toList == (bkey (inBand (gi s 1).int) b).toList) && ((baseOf (gi c 3).str).toList == (baseOf (gi s 2).str).toList)))
def worL (b x lg : List (List G)) (mode life at_ hz : Int) : List (List G) := sortA (ltC (cW hz)) ((hsL b life at_ x).filter fun s => !wkdB lg at_ mode b s)
theorem worL_mem {b x lg : List (List G)} {mode life at_ hz : Int} {z : List G} (h : z ∈ worL b x lg mode life at_ hz) : z ∈ hsL b life at_ x ∧ wkdB lg at_ mode b z = false := by
 have h := (sortA_perm (lt := ltC (cW hz)) _).mem_iff.1 h
 have h := List.mem_filter.1 h
 exact ⟨h.1, by simpa using h.2⟩
theorem worL_length (b x lg : List (List G)) (mode life at_ hz : Int) : (worL b x lg mode life at_ hz).length ≤ x.length := by
 unfold worL
 rw [sortA_length]
 exact Nat.le_trans (List.length_filter_le _ _) (hsL_length x)
def logF (b x lg : List (List G)) (mode life at_ hz : Int) : Int :=
 firstE [firstE [faultBands b, faultSpots x], faultLog lg, bif inB mode 1 3 then 0 else 4, faultAsked life at_ hz]
theorem done_loop (b x lg : List (List G)) (mode life at_ hz : Int) (hlg : ∀ z ∈ lg, Con z) (hn : lg.length ≤ 2000) :
  RetL st_band_Worth_14 [.i hz, .l [], .i 0, .l b, .l x, .i mode, .i life, .i at_, .l lg, .i (lg.length : Int), .i 0] fun c g => c = 0 ∧ ∃ (mm : List (List G)) (ck : Nat), g = [.i hz, .l mm, .i (ck : Int), .l b, .l x, .i life, .i at_] ∧
   ∀ k, (gi (mget [Kd.str, .str] mm k [.t false]) 0).bool = lg.any fun c => leI (gi c 0).int at_ && ((gi c 1).int == mode && rowEq [Kd.str, .str] k [.s (baseOf (gi c 3).str), .s (gi c 2).str]) := by
 have r := range_all (st := st_band_Worth_14) (σ := List (List G) × Nat) (fun s i => [.i hz, .l s.1, .i (s.2 : Int), .l b, .l x, .i mode, .i life, .i at_, .l lg, .i (lg.length : Int), .i (i : Int)]) lg (fun s => (0, [.i hz, .l s.1, .i (s.2 : Int), .l b, .l x, .i life, .i at_]))
  (fun s i => ∀ k, (gi (mget [Kd.str, .str] s.1 k [.t false]) 0).bool = (lg.take i).any fun c => leI (gi c 0).int at_ && ((gi c 1).int == mode && rowEq [Kd.str, .str] k [.s (baseOf (gi c 3).str), .s (gi c 2).str])) ([], 0) (by omega) (fun k => by simp [mget_nil, gi, G.bool])
  (fun s i c hI hi hx hm ht => by
   have hC := hlg c hm
   unfold st_band_Worth_14
   (dsimp +instances only [Aa,Ab,Ac,Ad,Ae,Af,Ag])
   simp only [Int.toNat_natCast, hx]
   refine Ret.p (Ret.p ?_)
   refine Ret.test (fun q1 => ?_) fun q1 => ?_
   ·refine Ret.test (fun q2 => ?_) fun q2 => ?_
    ·refine Ret.call (Ret.eq (base_eq hC.calls3)) ?_
     rintro _ rfl
     (dsimp +instances only [Aa,Ab,Ac,Ad,Ae,Af,Ag])
     (repeat first|refine Ret.p ?_|refine Ret.n ?_)
     refine Ret.some ⟨(mput [Kd.str, .str] s.1 [.s (baseOf (gi c 3).str), .s (gi c 2).str] [.t true] s.2, mclk [Kd.str, .str] s.1 [.s (baseOf (gi c 3).str), .s (gi c 2).str] s.2), by simp, fun k => ?_⟩
     rw [mget_mput, ht, List.any_append, ← hI k]
     have e : ([c].any fun c => leI (gi c 0).int at_ && ((gi c 1).int == mode && rowEq [Kd.str, .str] k [.s (baseOf (gi c 3).str), .s (gi c 2).str])) = rowEq [Kd.str, .str] k [.s (baseOf (gi c 3).str), .s (gi c 2).str] := by
      simp only [List.any_cons, List.any_nil, q1, q2, Bool.true_and, Bool.or_false]
     rw [e]
     cases rowEq [Kd.str, .str] k [.s (baseOf (gi c 3).str), .s (gi c 2).str] <;> simp [gi, G.bool]
    ·(repeat first|refine Ret.p ?_|refine Ret.n ?_)
     refine Ret.some ⟨s, by simp, fun k => ?_⟩
     rw [ht, List.any_append, ← hI k]
     simp [q1, q2]
   ·(repeat first|refine Ret.p ?_|refine Ret.n ?_)
    refine Ret.some ⟨s, by simp, fun k => ?_⟩
    rw [ht, List.any_append, ← hI k]
    simp [q1])
  (fun s hI => by
   unfold st_band_Worth_14
   (dsimp +instances only [Aa,Ab,Ac,Ad,Ae,Af,Ag])
   simp only [Int.toNat_natCast]
   (repeat first|refine Ret.p ?_|refine Ret.n ?_)
   exact Ret.some rfl)
 refine RetL.mono r ?_
 rintro c g ⟨⟨mm, ck⟩, hI, rfl, rfl⟩
 exact ⟨rfl, mm, ck, rfl, fun k => by simpa using hI k⟩
theorem pick_loop (b hs lg mm : List (List G)) (ck : Nat) (mode at_ hz : Int) (hbn : b.length ≤ 1000) (ho : ∀ o ∈ hs, Spt o ∧ ∃ k : Nat, bix (inBand (gi o 1).int) b = (k : Int) ∧ k < b.length) (hn : hs.length ≤ 2000)
  (hM : ∀ k, (gi (mget [Kd.str, .str] mm k [.t false]) 0).bool = lg.any fun c => leI (gi c 0).int at_ && ((gi c 1).int == mode && rowEq [Kd.str, .str] k [.s (baseOf (gi c 3).str), .s (gi c 2).str])) :
  RetL st_band_Worth_22 [.i hz, .l mm, .i (ck : Int), .l [], .l b, .l (ixL b hs), .l hs, .i (hs.length : Int), .i 0] fun c g => c = 0 ∧ g = [.i hz, .l (hs.filter fun s => !wkdB lg at_ mode b s)] := by
 have r := range_all (st := st_band_Worth_22) (σ := Unit) (fun _ i => [.i hz, .l mm, .i (ck : Int), .l ((hs.take i).filter fun s => !wkdB lg at_ mode b s), .l b, .l (ixL b hs), .l hs, .i (hs.length : Int), .i (i : Int)]) hs (fun _ => (0, [.i hz, .l (hs.filter fun s => !wkdB lg at_ mode b s)]))
  (fun _ _ => True) () (by omega) trivial
  (fun _ i x _ hi hx hm ht => by
   obtain ⟨hX, k, hk, hkb⟩ := ho x hm
   have hxl : (ixL b hs).length = hs.length := by simp [ixL]
   have hix : (ixL b hs).getD i [] = [.i (k : Int)] := by
    have hx' : hs[i] = x := by rw [← hx, List.getD_eq_getElem?_getD, List.getElem?_eq_getElem hi]; rfl
    simp [ixL, List.getD_eq_getElem?_getD, hi, hx', hk]
   have hkey : (gi (b.getD k []) 0).str = bkey (inBand (gi x 1).int) b := by
    rcases bix_at (p := inBand (gi x 1).int) b with ⟨k1, _⟩ | ⟨j, k1, k2, k3, _⟩
    ·rw [k1] at hk
     omega
    ·have : j = k := by omega
     rw [← this]
     exact k3.symm
   have hfl := List.length_filter_le (fun s => !wkdB lg at_ mode b s) (hs.take i)
   have htl : (hs.take i).length ≤ 2000 := by rw [List.length_take]; omega
   have hw : (gi (mget [Kd.str, .str] mm [.s (baseOf (gi x 2).str), .s (bkey (inBand (gi x 1).int) b)] [.t false]) 0).bool = wkdB lg at_ mode b x := by
    rw [hM]
    unfold wkdB
    congr 1
    funext c
    have er : rowEq [Kd.str, .str] [.s (baseOf (gi x 2).str), .s (bkey (inBand (gi x 1).int) b)] [.s (baseOf (gi c 3).str), .s (gi c 2).str] = ((baseOf (gi x 2).str).toList == (baseOf (gi c 3).str).toList && ((bkey (inBand (gi x 1).int) b).toList == (gi c 2).str.toList && true)) := rfl
    rw [er, Bool.and_true, beq_swap (baseOf (gi x 2).str).toList, beq_swap (bkey (inBand (gi x 1).int) b).toList, Bool.and_comm ((baseOf (gi c 3).str).toList == _)]
   have ef : (hs.take (i + 1)).filter (fun s => !wkdB lg at_ mode b s) = (hs.take i).filter (fun s => !wkdB lg at_ mode b s) ++ bif !wkdB lg at_ mode b x then [x] else [] := by
    rw [ht, List.filter_append]
    cases hw2 : wkdB lg at_ mode b x with
    | true => simp [hw2]
    | false => simp [hw2]
   unfold st_band_Worth_22
   (dsimp +instances only [Aa,Ab,Ac,Ad,Ae,Af,Ag])
   simp only [Int.toNat_natCast, hx, hX.eta]
   refine Ret.p (Ret.p ?_)
   refine Ret.cE (base_eq hX.call) ?_
   (dsimp +instances only [Aa,Ab,Ac,Ad,Ae,Af,Ag])
   simp only [hix]
   (dsimp +instances only [Aa,Ab,Ac,Ad,Ae,Af,Ag])
   simp only [Int.toNat_natCast, hkey]
   rw [hw, hxl]
   (repeat first|refine Ret.p ?_|refine Ret.n ?_)
   refine Ret.test (fun q => ?_) fun q => ?_
   ·rw [q, cond_true] at ef
    rw [← ef]
    (repeat first|refine Ret.p ?_|refine Ret.n ?_)
    exact Ret.some ⟨(), by simp, trivial⟩
   ·rw [q, cond_false, List.append_nil] at ef
    rw [← ef]
    (repeat first|refine Ret.p ?_|refine Ret.n ?_)
    exact Ret.some ⟨(), by simp, trivial⟩)
  (fun _ _ => by
   have hfl := List.length_filter_le (fun s => !wkdB lg at_ mode b s) hs
   unfold st_band_Worth_22
   (dsimp +instances only [Aa,Ab,Ac,Ad,Ae,Af,Ag])
   simp only [List.take_length]
   (repeat first|refine Ret.p ?_|refine Ret.n ?_)
   exact Ret.some rfl)
 refine RetL.mono r ?_
 rintro c g ⟨_, _, rfl, rfl⟩
 exact ⟨rfl, rfl⟩
theorem onB_worth {b l : List (List G)} {life at_ : Int} (hl : ∀ z ∈ l, Spt z) : ∀ o ∈ hsL b life at_ l, Spt o ∧ ∃ k : Nat, bix (inBand (gi o 1).int) b = (k : Int) ∧ k < b.length := by
 intro o ho
 obtain ⟨h1, h2⟩ := hsL_mem ho
 refine ⟨hl o h1, ?_⟩
 have h3 : leI 0 (bix (inBand (gi o 1).int) b) = true := by
  simp only [cntS, Bool.and_eq_true] at h2
  exact h2.2.2
 rcases bix_at (p := inBand (gi o 1).int) b with ⟨k1, _⟩ | ⟨i, k1, k2, _⟩
 ·rw [k1] at h3
  simp [leI_eq] at h3
 ·exact ⟨i, k1, k2⟩
theorem firstTwo (x y : Int) : (if x ≠ 0 then x else y) = firstE [x, y] := by
 rw [fE_cons, fE_cons, fE_nil]
 by_cases h : y = 0 <;> simp [h]
theorem worth_ok (b x lg : List (List G)) (mode life at_ hz : Int) (hb : ∀ z ∈ b, Bnd z) (hbn : b.length ≤ 20) (hl : ∀ z ∈ x, Spt z) (hn : x.length ≤ 20) (hlg : ∀ z ∈ lg, Con z) (hlgn : lg.length ≤ 2000) (h1 : b50 life) (h2 : b50 at_) (h3 : b50 hz) :
  F_band_Worth [.l b, .l x, .l lg, .i mode, .i life, .i at_, .i hz] = some [.l (bif logF b x lg mode life at_ hz == 0 then worL b x lg mode life at_ hz else []), .i (logF b x lg mode life at_ hz)] := by
 refine Ret.toEq ?_
 unfold F_band_Worth
 (dsimp +instances only [Aa,Ab,Ac,Ad,Ae,Af,Ag])
 have hF : logF b x lg mode life at_ hz = if firstE [faultBands b, faultSpots x] ≠ 0 then firstE [faultBands b, faultSpots x] else if faultLog lg ≠ 0 then faultLog lg else if (bif inB mode 1 3 then (0 : Int) else 4) ≠ 0 then (bif inB mode 1 3 then (0 : Int) else 4) else faultAsked life at_ hz := by
  have key : ∀ a c d e : Int, firstE [a, c, d, e] = if a ≠ 0 then a else if c ≠ 0 then c else if d ≠ 0 then d else e := by
   intro a c d e
   rw [fE_cons, fE_cons, fE_cons, fE_cons, fE_nil]
   by_cases h : e = 0 <;> simp [h]
  exact key _ _ _ _
 have lo := lists_ok b x hb hl
 rw [firstTwo] at lo
 refine Ret.cE lo ?_
 (dsimp +instances only [Aa,Ab,Ac,Ad,Ae,Af,Ag])
 refine Ret.test (fun h => ?_) fun h => ?_
 ·have h : firstE [faultBands b, faultSpots x] ≠ 0 := by simpa using h
  rw [if_pos h] at hF
  have e2 : (firstE [faultBands b, faultSpots x] == 0) = false := by simpa using h
  rw [hF, e2]
  exact Ret.some rfl
 have h : ¬ firstE [faultBands b, faultSpots x] ≠ 0 := by simpa using h
 rw [if_neg h] at hF
 refine Ret.cE (checkLog_eq lg hlg (by omega)) ?_
 (dsimp +instances only [Aa,Ab,Ac,Ad,Ae,Af,Ag])
 refine Ret.test (fun h => ?_) fun h => ?_
 ·have h : faultLog lg ≠ 0 := by simpa using h
  rw [if_pos h] at hF
  have e2 : (faultLog lg == 0) = false := by simpa using h
  rw [hF, e2]
  exact Ret.some rfl
 have h : ¬ faultLog lg ≠ 0 := by simpa using h
 rw [if_neg h] at hF
 refine Ret.cE (isModeY mode) ?_
 (dsimp +instances only [Aa,Ab,Ac,Ad,Ae,Af,Ag])
 refine Ret.test (fun h => ?_) fun h => ?_
 ·have h : inB mode 1 3 = false := by simpa using h
  rw [h] at hF
  rw [show logF b x lg mode life at_ hz = 4 from hF]
  exact Ret.some rfl
 have h : inB mode 1 3 = true := by simpa using h
 rw [h] at hF
 have hF : logF b x lg mode life at_ hz = faultAsked life at_ hz := hF
 refine Ret.cE (asked_ok life at_ hz) ?_
 (dsimp +instances only [Aa,Ab,Ac,Ad,Ae,Af,Ag])
 refine Ret.test (fun h => ?_) fun h => ?_
 ·have h : faultAsked life at_ hz ≠ 0 := by simpa using h
  have e2 : (faultAsked life at_ hz == 0) = false := by simpa using h
  rw [hF, e2]
  exact Ret.some rfl
 have h : faultAsked life at_ hz = 0 := by simpa using h
 rw [hF, h]
 refine Ret.loop (done_loop b x lg mode life at_ hz hlg hlgn) rfl ?_
 rintro _ _ ⟨rfl, mm, ck, rfl, hM⟩
 (dsimp +instances only [Aa,Ab,Ac,Ad,Ae,Af,Ag])
 refine Ret.cE (heard_ok b x life at_ hb (by omega) hl (by omega) h1 h2) ?_
 have hlen := hsL_length (b := b) (life := life) (at_ := at_) x
 have hon := onB_worth (b := b) (life := life) (at_ := at_) hl
 (dsimp +instances only [Aa,Ab,Ac,Ad,Ae,Af,Ag])
 simp only [Int.toNat_natCast]
 refine Ret.loop (pick_loop b _ lg mm ck mode at_ hz (by omega) hon (by omega) hM) rfl ?_
 rintro _ _ ⟨rfl, rfl⟩
 (dsimp +instances only [Aa,Ab,Ac,Ad,Ae,Af,Ag])
 have hfl := List.length_filter_le (fun s => !wkdB lg at_ mode b s) (hsL b life at_ x)
 have hS : ∀ z ∈ (hsL b life at_ x).filter (fun s => !wkdB lg at_ mode b s), Spt z := fun z hz => hl z (hsL_mem (List.mem_filter.1 hz).1).1
 have hwl := worL_length b x lg mode life at_ hz
 have hww : (worL b x lg mode life at_ hz).length = ((hsL b life at_ x).filter (fun s => !wkdB lg at_ mode b s)).length := by
  unfold worL
  rw [sortA_length]
 refine Ret.callb (P := fun g => g = [.l (worL b x lg mode life at_ hz), .i hz]) (Ret.eq (srtW_eq hz (Q := Spt) (c := cW hz) (fun _ h => h.eta) (cmpW h3) _ hS (by omega))) (by (first|rfl|assumption|(simp only [inI,sl]<;>omega))) ?_
 rintro _ rfl
 (dsimp +instances only [Aa,Ab,Ac,Ad,Ae,Af,Ag])
 rw [hww]
 refine Ret.p (Ret.some rfl)
/-! ### Sorting and sifting -/
/-! ### Sides -/
/-! ### The program's way -/
/-! ### How far it is -/
/-! ### The reference's way -/
/-! ### Both are the same -/
/-! ### Spots that are right -/
theorem right_spots (l : List (List G)) (a n : Int) (ha : 0 ≤ a) (ha1 : a ≤ 100000) (h0 : 0 ≤ n) (h1 : n ≤ 20) :
  Ret (F_mk_RightSpots [.l l, .i a, .i n]) fun g => ∃ b rows, g = [.l l, .i b, .l rows] ∧ a ≤ b ∧ b ≤ a + 2000 ∧ (∀ z ∈ rows, Spt z) ∧ (rows.length : Int) ≤ n ∧ faultSpots rows = 0 := by
 unfold F_mk_RightSpots
 (dsimp +instances only [Aa,Ab,Ac,Ad,Ae,Af,Ag])
 have key : ∀ (k i : Nat) (c : Int), i + k = 5 → a ≤ c → c ≤ a + 400 * (i : Int) → RetN st_mk_RightSpots_2 [.l l, .i c, .i n, .i (i : Int)] (k + 1) fun x g =>
   (x = 0 ∧ ∃ b rows, g = [.l l, .i b, .l rows] ∧ a ≤ b ∧ b ≤ a + 2000 ∧ (∀ z ∈ rows, Spt z) ∧ (rows.length : Int) ≤ n ∧ faultSpots rows = 0) ∨ (x = 1 ∧ ∃ b, g = [.l l, .i b] ∧ a ≤ b ∧ b ≤ a + 2000) := by
  intro k
  induction k with
  | zero =>
   intro i c hi hc hc1
   refine RetN.stop (x := 1) (Ret.toEq ?_) (.inr ⟨rfl, c, rfl, hc, by omega⟩)
   unfold st_mk_RightSpots_2
   (dsimp +instances only [Aa,Ab,Ac,Ad,Ae,Af,Ag])
   exact Ret.n (Ret.some rfl)
  | succ k ih =>
   intro i c hi hc hc1
   have st : Ret (st_mk_RightSpots_2 [.l l, .i c, .i n, .i (i : Int)]) fun o => (∃ b rows, o = (some 0, [.l l, .i b, .l rows]) ∧ a ≤ b ∧ b ≤ a + 2000 ∧ (∀ z ∈ rows, Spt z) ∧ (rows.length : Int) ≤ n ∧ faultSpots rows = 0) ∨
     ∃ b : Int, o = (none, [.l l, .i b, .i n, .i ((i + 1 : Nat) : Int)]) ∧ c ≤ b ∧ b ≤ c + 400 := by
    unfold st_mk_RightSpots_2
    (dsimp +instances only [Aa,Ab,Ac,Ad,Ae,Af,Ag])
    refine Ret.p ?_
    refine Ret.call (r_Spots l c n (by omega) (by omega) h0 h1) ?_
    rintro _ ⟨b, rows, rfl, q1, q2, q3, q4⟩
    (dsimp +instances only [Aa,Ab,Ac,Ad,Ae,Af,Ag])
    refine Ret.cE (spotsFault_ok rows q3) ?_
    (dsimp +instances only [Aa,Ab,Ac,Ad,Ae,Af,Ag])
    refine Ret.test (fun h => ?_) fun h => ?_
    ·exact Ret.some (.inl ⟨b, rows, rfl, by omega, by omega, q3, q4, by simpa using h⟩)
    ·(repeat first|refine Ret.p ?_|refine Ret.n ?_)
     exact Ret.some (.inr ⟨b, by simp, q1, q2⟩)
   obtain ⟨_, h, ⟨b, rows, rfl, q⟩ | ⟨b, rfl, q1, q2⟩⟩ := st
   ·exact RetN.stop h (.inl ⟨rfl, b, rows, rfl, q⟩)
   ·exact RetN.next h (ih (i + 1) b (by omega) (by omega) (by omega))
 refine Ret.loop ((key 5 0 a (by omega) (by omega) (by omega)).to (by omega)) rfl ?_
 rintro x g (⟨rfl, b, rows, rfl, q1, q2, q3, q4, q5⟩ | ⟨rfl, b, rfl, q1, q2⟩)
 ·refine Ret.pos rfl (Ret.some ⟨b, rows, rfl, q1, q2, q3, q4, q5⟩)
 ·refine Ret.neg rfl (Ret.some ⟨b, [], rfl, q1, q2, by simp, by simpa using h0, rfl⟩)
theorem own_sel (f0 f1 f2 f3 : Bool) : faultBands (selB f0 f1 f2 f3) = 0 := by
 cases f0 <;> cases f1 <;> cases f2 <;> cases f3 <;> kernel_rfl
/-! ### Nothing changes -/
/-! ### Sorting strings -/
/-! ### The band of a frequency -/
theorem bandOf_ok (b : List (List G)) (h : Int) (hb : ∀ z ∈ b, Bnd z) (hbn : b.length ≤ 1000) (hf : faultBands b = 0) (hh : inB h 0 30000000000 = true) (hi : leI 0 (bix (inBand h) b) = true) : F_log_BandOf [.l b, .i h] = some [.s (bkey (inBand h) b), .t true, .i 0] := by
 rcases bix_at (p := inBand h) b with ⟨h1, _⟩ | ⟨i, h1, h2, h3, _⟩
 ·rw [h1] at hi
  simp [leI_eq] at hi
 refine Ret.toEq ?_
 unfold F_log_BandOf
 (dsimp +instances only [Aa,Ab,Ac,Ad,Ae,Af,Ag])
 refine Ret.cE (checkBands_ok b hb) ?_
 rw [hf]
 refine Ret.neg rfl ?_
 refine Ret.cE (outside_eq h 0 30000000000) ?_
 rw [hh]
 refine Ret.neg rfl ?_
 refine Ret.cE (at_ok b h hb (by omega)) ?_
 (dsimp +instances only [Aa,Ab,Ac,Ad,Ae,Af,Ag])
 rw [h1]
 simp only [Int.toNat_natCast]
 refine Ret.n (Ret.p (Ret.some ?_))
 rw [h3]
theorem hertz_in {x : List (List G)} (h : faultSpots x = 0) : ∀ s ∈ x, inB (gi s 1).int 0 30000000000 = true := by
 unfold faultSpots at h
 split at h
 ·omega
 have z := fw_zero h
 intro s hs
 obtain ⟨i, hi, rfl⟩ := List.mem_iff_getElem.1 hs
 have h := z i hi
 have e : x.getD i [] = x[i] := by simp [List.getD_eq_getElem?_getD, hi]
 unfold stepT at h
 rw [e] at h
 cases hh : inB (gi x[i] 1).int 0 30000000000 with
 | true => rfl
 | false =>
  exfalso
  have : faultT1 x[i] ≠ 0 := by
   unfold faultT1
   rw [hh]
   cases inB (gi x[i] 0).int 0 345686399999 <;> simp
  rw [if_pos this] at h
  exact this h
/-! ### The law -/
theorem dlCI {Q : List G → Prop} {p : List G → Bool}  (hE : ∀ x, Q x → gEta [.int .i64, .int .i64, .str, .str, .int .i64, .int .i64, .str, .str] x = x) (hC : ∀ x, Q x → F_piletop_TopWorthIsNew_1 [.l [x]] = some [.t (p x)]) (rows : List (List G)) (hr : ∀ y ∈ rows, Q y) (hn : rows.length < 99999) :
  Ret (F_sl_IndexFunc_Contact [.l rows]) fun g => (∃ q1 x q2, rows = q1 ++ x :: q2 ∧ (∀ y ∈ q1, p y = false) ∧ p x = true ∧ g = [.i (q1.length : Int)]) ∨ (∀ y ∈ rows, p y = false) ∧ g = [.i (-1)] := by
 unfold F_sl_IndexFunc_Contact
 (dsimp +instances only [Aa,Ab,Ac,Ad,Ae,Af,Ag])
 refine Ret.loop (find_inv (fun i => [.l rows, .i (rows.length : Int), .i (i : Int)]) rows p (by omega) (fun i x hi hx hm => by
  have hX := hr x hm
  unfold st_sl_IndexFunc_Contact_2
  (dsimp +instances only [Aa,Ab,Ac,Ad,Ae,Af,Ag])
  simp only [Int.toNat_natCast, hx, hE x hX]
  refine Ret.p (Ret.p ?_)
  refine Ret.cE (hC x hX) ?_
  (dsimp +instances only [Aa,Ab,Ac,Ad,Ae,Af,Ag])
  cases hp : p x with
  | true => exact Ret.pos rfl (Ret.some rfl)
  | false => exact Ret.neg rfl (Ret.p (Ret.some rfl))) (by
  unfold st_sl_IndexFunc_Contact_2
  (dsimp +instances only [Aa,Ab,Ac,Ad,Ae,Af,Ag])
  exact Ret.n (Ret.some rfl))) (by (first|rfl|assumption|(simp only [inI,sl]<;>omega))) ?_
 rintro c g (⟨rfl, q1, x, q2, h1, h2, h3, rfl⟩ | ⟨rfl, rfl, h⟩)
 ·exact Ret.pos rfl (Ret.some (.inl ⟨q1, x, q2, h1, h2, h3, rfl⟩))
 ·exact Ret.neg rfl (Ret.some (.inr ⟨h, rfl⟩))
theorem dlC5 {Q : List G → Prop} {p : List G → Bool}  (hE : ∀ x, Q x → gEta [.int .i64, .int .i64, .str, .str, .int .i64, .int .i64, .str, .str] x = x) (hC : ∀ x, Q x → F_piletop_TopWorthIsNew_1 [.l [x]] = some [.t (p x)]) : ∀ (q kept M : List (List G)) (z : List G), (∀ y ∈ kept ++ (z :: M) ++ q, Q y) → kept.length + M.length + 1 + q.length < 100000 →
  RetN st_sl_DeleteFunc_Contact_5 [.l (kept ++ (z :: M) ++ q), .i (kept.length : Int), .i ((kept.length + M.length + 1 : Nat) : Int)] (q.length + 1) fun c g => c = 0 ∧ ∃ J, g = [.l (kept ++ q.filter (fun y => !p y) ++ J), .i ((kept ++ q.filter (fun y => !p y)).length : Int)] ∧ (kept ++ q.filter (fun y => !p y) ++ J).length = kept.length + M.length + 1 + q.length
 | [], kept, M, z, hQ, hl => by
  simp only [List.length_nil] at hl
  refine RetN.stop (x := 0) (Ret.toEq ?_) ⟨rfl, z :: M, rfl, by simp; omega⟩
  unfold st_sl_DeleteFunc_Contact_5
  (dsimp +instances only [Aa,Ab,Ac,Ad,Ae,Af,Ag])
  (repeat first|refine Ret.p ?_|refine Ret.n ?_)
  refine Ret.some ?_
  simp
 | y :: q, kept, M, z, hQ, hl => by
  simp only [List.length_cons] at hl
  have hy : Q y := hQ y (by simp)
  have hlen : (kept ++ (z :: M) ++ y :: q).length = kept.length + M.length + 2 + q.length := by simp; omega
  have g1 : (kept ++ (z :: M) ++ y :: q).getD (0 + ((kept.length + M.length + 1 : Nat) : Int).toNat) [] = y := getD_mid _ _ _ _ _ (by simp; omega)
  cases he : p y with
  | true =>
   have ih := dlC5  hE hC q kept (M ++ [y]) z (by simpa using hQ) (by simp; omega)
   refine RetN.next (Ret.toEq ?_) (ih.mono ?_)
   ·unfold st_sl_DeleteFunc_Contact_5
    (dsimp +instances only [Aa,Ab,Ac,Ad,Ae,Af,Ag])
    simp only [g1, hlen, hE y hy]
    refine Ret.p (Ret.p (Ret.p ?_))
    refine Ret.cE (hC y hy) ?_
    (dsimp +instances only [Aa,Ab,Ac,Ad,Ae,Af,Ag])
    simp only [he]
    (repeat first|refine Ret.p ?_|refine Ret.n ?_)
    refine Ret.some ?_
    simp
    omega
   ·rintro c g ⟨rfl, J, rfl, h⟩
    refine ⟨rfl, J, by simp [he], ?_⟩
    have e : (y :: q).filter (fun y => !p y) = q.filter (fun y => !p y) := by simp [he]
    rw [e, h]; simp; omega
  | false =>
   obtain ⟨z', M', e1, e2, e3⟩ : ∃ z' M', M ++ [y] = z' :: M' ∧ M'.length = M.length ∧ ∀ x ∈ z' :: M', x ∈ M ++ [y] := by
    cases M with
    | nil => exact ⟨y, [], rfl, rfl, by simp⟩
    | cons m M => exact ⟨m, M ++ [y], rfl, by simp, by simp⟩
   have ih := dlC5  hE hC q (kept ++ [y]) M' z' (by
    intro x hx
    simp only [List.mem_append] at hx
    rcases hx with (hx | hx) | hx
    ·rcases hx with hx | hx
     ·exact hQ x (by simp [hx])
     ·simp at hx; exact hx ▸ hy
    ·have := e3 x hx
     simp only [List.mem_append] at this
     rcases this with h | h
     ·exact hQ x (by simp [h])
     ·simp at h; exact h ▸ hy
    ·exact hQ x (by simp [hx])) (by simp [e2]; omega)
   have ky : y.length = ([.int .i64, .int .i64, .str, .str, .int .i64, .int .i64, .str, .str] : List Kd).length := by rw [← hE y hy, gEta_length]
   have hs : (kept ++ (z :: M) ++ y :: q).set (0 + (kept.length : Int).toNat) y = (kept ++ [y]) ++ (z' :: M') ++ q := by
    rw [← e1]; simp
   have hl2 : ((kept ++ [y]) ++ (z' :: M') ++ q).length = kept.length + M.length + 2 + q.length := by simp [e2]; omega
   refine RetN.next (Ret.toEq ?_) (ih.mono ?_)
   ·unfold st_sl_DeleteFunc_Contact_5
    (dsimp +instances only [Aa,Ab,Ac,Ad,Ae,Af,Ag])
    simp only [g1, hlen, hE y hy, putG_all ky, hs, hl2]
    refine Ret.p (Ret.p (Ret.p ?_))
    refine Ret.cE (hC y hy) ?_
    (dsimp +instances only [Aa,Ab,Ac,Ad,Ae,Af,Ag])
    simp only [he]
    (repeat first|refine Ret.p ?_|refine Ret.n ?_)
    refine Ret.some ?_
    simp [e2]
    omega
   ·rintro c g ⟨rfl, J, rfl, h⟩
    have e : kept ++ (y :: q).filter (fun y => !p y) = (kept ++ [y]) ++ q.filter (fun y => !p y) := by simp [he]
    exact ⟨rfl, J, by rw [e], by rw [e, h]; simp [e2]; omega⟩
theorem dlC_eq {Q : List G → Prop} {p : List G → Bool}  (hE : ∀ x, Q x → gEta [.int .i64, .int .i64, .str, .str, .int .i64, .int .i64, .str, .str] x = x) (hC : ∀ x, Q x → F_piletop_TopWorthIsNew_1 [.l [x]] = some [.t (p x)]) (rows : List (List G)) (hr : ∀ y ∈ rows, Q y) (hn : rows.length < 99999) :
  Ret (F_sl_DeleteFunc_Contact [.l rows]) fun g => ∃ J, g = [.l (rows.filter (fun y => !p y) ++ J), .i ((rows.filter (fun y => !p y)).length : Int)] ∧ (rows.filter (fun y => !p y) ++ J).length = rows.length := by
 unfold F_sl_DeleteFunc_Contact
 (dsimp +instances only [Aa,Ab,Ac,Ad,Ae,Af,Ag])
 refine Ret.callb (dlCI  hE hC rows hr (by omega)) (by (first|rfl|assumption|(simp only [inI,sl]<;>omega))) ?_
 rintro g (⟨q1, x, q2, h1, h2, h3, rfl⟩ | ⟨h, rfl⟩)
 ·(dsimp +instances only [Aa,Ab,Ac,Ad,Ae,Af,Ag])
  have hl : rows.length = q1.length + 1 + q2.length := by rw [h1]; simp; omega
  (repeat first|refine Ret.p ?_|refine Ret.n ?_)
  have h := dlC5  hE hC q2 q1 [] x (by rw [h1] at hr; simpa using hr) (by simp; omega)
  have e : q1 ++ [x] ++ q2 = rows := by rw [h1]; simp
  have ef : rows.filter (fun y => !p y) = q1 ++ q2.filter (fun y => !p y) := by
   rw [h1, List.filter_append, List.filter_cons_of_neg (by simp [h3])]
   congr 1
   exact List.filter_eq_self.2 (by intro y hy; simp [h2 y hy])
  have ei : ((q1.length + ([] : List (List G)).length + 1 : Nat) : Int) = (q1.length : Int) + 1 := by simp
  rw [e, ei, ← ef] at h
  refine Ret.loop (h.to (by omega)) (by (first|rfl|assumption|(simp only [inI,sl]<;>omega))) ?_
  rintro c g ⟨rfl, J, rfl, hJ⟩
  (dsimp +instances only [Aa,Ab,Ac,Ad,Ae,Af,Ag])
  have hJ' : (rows.filter (fun y => !p y) ++ J).length = rows.length := by rw [hJ, hl]; simp
  have hle : (rows.filter (fun y => !p y)).length ≤ rows.length := by rw [← hJ']; simp
  generalize hw : rows.filter (fun y => !p y) = w at *
  simp only [hJ']
  (repeat first|refine Ret.p ?_|refine Ret.n ?_)
  refine Ret.some ⟨List.replicate (rows.length - w.length) zC, ?_, by simp; omega⟩
  have t1 : List.take (0 + (w.length : Int).toNat) (w ++ J) = w := by simp
  have t2 : List.drop (0 + (w.length : Int).toNat + (rows.length - (w.length : Int).toNat)) (w ++ J) = [] := by
   apply List.drop_eq_nil_of_le; rw [hJ']; omega
  rw [t1, t2]
  simp [zC]
 ·(dsimp +instances only [Aa,Ab,Ac,Ad,Ae,Af,Ag])
  (repeat first|refine Ret.p ?_|refine Ret.n ?_)
  have ef : rows.filter (fun y => !p y) = rows := List.filter_eq_self.2 (by intro y hy; simp [h y hy])
  exact Ret.some ⟨[], by rw [ef]; simp, by rw [ef]; simp⟩
/-! ### Logs that are right -/
theorem ordC_tr (a b d : List G) (h1 : ordC a b < 0) (h2 : ordC b d < 0) : ordC a d < 0 :=
 or2_lt ordrI _ _ _ _ _ _ h1 h2 fun g1 g2 => or2_lt ordrS _ _ _ _ _ _ g1 g2 fun k1 k2 => or2_lt ordrS _ _ _ _ _ _ k1 k2 fun m1 m2 => ordrI.tr _ _ _ m1 m2
theorem faultL_up : ∀ {l : List (List G)} {y : List G}, faultL (some y) l = 0 → (y :: l).Pairwise fun a b => ordC a b < 0
 | [], y, _ => by simp
 | x :: q, y, h => by
  simp only [faultL] at h
  split at h
  ·contradiction
  ·split at h
   ·cases h
   ·rename_i h0
    have ih := faultL_up h
    have hyx : ordC y x < 0 := by omega
    refine List.pairwise_cons.2 ⟨fun z hz => ?_, ih⟩
    rcases List.mem_cons.1 hz with rfl | hz
    ·exact hyx
    ·exact ordC_tr _ _ _ hyx ((List.pairwise_cons.1 ih).1 z hz)
theorem log_up {l : List (List G)} (h : faultLog l = 0) : l.Pairwise fun a b => ordC a b < 0 := by
 unfold faultLog at h
 split at h
 ·cases h
 ·cases l with
  | nil => exact List.Pairwise.nil
  | cons x q =>
   simp only [faultL] at h
   split at h
   ·contradiction
   ·exact faultL_up h
theorem faultL_of : ∀ {l : List (List G)} {y : List G}, (∀ x ∈ l, faultC x = 0) → (y :: l).Pairwise (fun a b => ordC a b < 0) → faultL (some y) l = 0
 | [], _, _, _ => rfl
 | x :: q, y, h0, h => by
  obtain ⟨h1, h2⟩ := List.pairwise_cons.1 h
  have hx := h1 x List.mem_cons_self
  simp only [faultL]
  rw [if_neg (by simpa using h0 x List.mem_cons_self), if_neg (by omega)]
  exact faultL_of (fun z hz => h0 z (List.mem_cons_of_mem _ hz)) h2
theorem log_of {l : List (List G)} (h0 : ∀ x ∈ l, faultC x = 0) (h : l.Pairwise (fun a b => ordC a b < 0)) (hn : l.length ≤ 2000) : faultLog l = 0 := by
 unfold faultLog
 rw [if_neg (by omega)]
 cases l with
 | nil => rfl
 | cons x q =>
  simp only [faultL]
  rw [if_neg (by simpa using h0 x List.mem_cons_self)]
  exact faultL_of (fun z hz => h0 z (List.mem_cons_of_mem _ hz)) h
theorem late_ok (x : List G) (h : Con x) : F_piletop_TopWorthIsNew_1 [.l [x]] = some [.t (ltI 200 (gi x 0).int)] := by
 refine Ret.toEq ?_
 unfold F_piletop_TopWorthIsNew_1
 (dsimp +instances only [Aa,Ab,Ac,Ad,Ae,Af,Ag])
 exact Ret.some rfl
def newC (k c : ByteArray) : List G := [.i 100000000, .i 1, .s k, .s c, .i 0, .i 0, .s (⟨#[]⟩ : ByteArray), .s (⟨#[]⟩ : ByteArray)]
theorem keys_bands {k : ByteArray} (h : k ∈ bkeys) : k ∈ bands := by
 simp only [bkeys, List.mem_cons, List.not_mem_nil, or_false] at h
 rcases h with rfl | rfl | rfl | rfl | rfl <;> simp [bands]
theorem newC_Con {k c : ByteArray} (hk : k ∈ bkeys) (hc : c ∈ calls) : Con (newC k c) :=
 ⟨_, _, _, _, _, _, _, _, rfl, by unfold small; omega, by unfold small; omega, by unfold small; omega, by unfold small; omega, keys_bands hk, hc, by simp [names], by simp [names]⟩
theorem newC_fault {k c : ByteArray} (hk : k ∈ bkeys) (hk0 : k ≠ (⟨#[]⟩ : ByteArray)) (hc : okCall c = true) : faultC (newC k c) = 0 := by
 have h1 : okKey k = true := by
  simp only [bkeys, List.mem_cons, List.not_mem_nil, or_false] at hk
  rcases hk with rfl | rfl | rfl | rfl | rfl
  ·rfl
  ·rfl
  ·rfl
  ·rfl
  ·exact (hk0 rfl).elim
 have f2 : (gi (newC k c) 2).str = k := rfl
 have f3 : (gi (newC k c) 3).str = c := rfl
 have e : faultC (newC k c) = bif !inB 100000000 0 345686399999 then 1 else bif !inB 1 1 3 then 4 else bif !okKey k then 5 else bif !okCall c then 3 else
  bif !inB 0 0 99999 then 1 else bif !inB 0 0 99999 then 1 else bif !okName ⟨#[]⟩ then 5 else bif !okName ⟨#[]⟩ then 5 else 0 := rfl
 rw [e, h1, hc]
 rfl
theorem spot_call {x : List (List G)} (h : faultSpots x = 0) : ∀ s ∈ x, okCall (gi s 2).str = true := by
 unfold faultSpots at h
 split at h
 ·omega
 have z := fw_zero h
 intro s hs
 obtain ⟨i, hi, rfl⟩ := List.mem_iff_getElem.1 hs
 have h := z i hi
 have e : x.getD i [] = x[i] := by simp [List.getD_eq_getElem?_getD, hi]
 unfold stepT at h
 rw [e] at h
 cases hh : okCall (gi x[i] 2).str with
 | true => rfl
 | false =>
  exfalso
  have : faultT1 x[i] ≠ 0 := by
   unfold faultT1
   rw [hh]
   cases inB (gi x[i] 0).int 0 345686399999 <;> cases inB (gi x[i] 1).int 0 30000000000 <;> simp
  rw [if_pos this] at h
  exact this h
/-! ### Duplicates -/
theorem dupL_lt (l : List (List G)) : ∀ i, ∀ r ∈ dupL l i, ∃ a : Nat, r = [.i (a : Int)] ∧ a < i
 | 0, r, h => by cases h
 | i + 1, r, h => by
  simp only [dupL] at h
  rcases List.mem_append.1 h with h | h
  ·obtain ⟨a, rfl, ha⟩ := dupL_lt l i r h
   exact ⟨a, rfl, by omega⟩
  ·cases hb : dupB l i with
   | true => rw [hb] at h; simp at h; exact ⟨i, h, by omega⟩
   | false => rw [hb] at h; simp at h
theorem hasN_ok (rows : List (List G)) (v : Int) (hn : rows.length ≤ 1000) : F_sl_Contains_int [.l rows, .i v] = some [.t (rows.any fun r => v == (gi r 0).int)] := by
 have key : Ret (F_sl_Index_int [.l rows, .i v]) fun g => ∃ n : Int, g = [.i n] ∧ leI 0 n = rows.any fun r => v == (gi r 0).int := by
  unfold F_sl_Index_int
  (dsimp +instances only [Aa,Ab,Ac,Ad,Ae,Af,Ag])
  refine Ret.loop (find_pre (fun i => [.l rows, .i v, .i (rows.length : Int), .i (i : Int)]) rows (fun r => v == (gi r 0).int) [] (by omega)
   (fun i x hi hx hm => by
    unfold st_sl_Index_int_2
    (dsimp +instances only [Aa,Ab,Ac,Ad,Ae,Af,Ag])
    simp only [Int.toNat_natCast, hx]
    refine Ret.p (Ret.p ?_)
    refine Ret.test (fun h => ?_) fun h => ?_
    ·rw [h]
     exact Ret.some rfl
    ·rw [h]
     exact Ret.p (Ret.some rfl)) (by
    unfold st_sl_Index_int_2
    (dsimp +instances only [Aa,Ab,Ac,Ad,Ae,Af,Ag])
    exact Ret.n (Ret.some rfl))) rfl ?_
  rintro _ _ (⟨rfl, h, i, rfl⟩ | ⟨rfl, rfl, h⟩)
  ·refine Ret.pos rfl (Ret.some ⟨_, rfl, ?_⟩)
   rw [h]
   simp [leI_eq, gi, G.int]
  ·refine Ret.neg rfl (Ret.some ⟨_, rfl, ?_⟩)
   rw [h]
   rfl
 refine Ret.toEq ?_
 unfold F_sl_Contains_int
 (dsimp +instances only [Aa,Ab,Ac,Ad,Ae,Af,Ag])
 refine Ret.call key ?_
 rintro _ ⟨n, rfl, hn⟩
 (dsimp +instances only [Aa,Ab,Ac,Ad,Ae,Af,Ag])
 rw [hn]
 exact Ret.some rfl
theorem new_ok (l : List (List G)) (k c : ByteArray) (hl : ∀ z ∈ l, Con z) (hn : l.length ≤ 100) (hf : faultLog l = 0) (h2 : ∀ z ∈ l, (gi z 0).int ≤ 200) (hk : k ∈ bkeys) (hk0 : k ≠ (⟨#[]⟩ : ByteArray)) (hc : c ∈ calls) (hc1 : okCall c = true)
  (hw : ∀ z ∈ l, ((gi z 1).int == 1 && (((gi z 2).str.toList == k.toList) && ((baseOf (gi z 3).str).toList == (baseOf c).toList))) = false) :
  ∃ ds, F_log_Dupes [.l (l ++ [newC k c])] = some [.l ds, .i 0] ∧ ds.length ≤ 200 ∧ (ds.any fun r => (l.length : Int) == (gi r 0).int) = false := by
 have hN := newC_Con hk hc
 have hA : ∀ z ∈ l ++ [newC k c], Con z := by
  intro z hz
  rcases List.mem_append.1 hz with hz | hz
  ·exact hl z hz
  ·simp at hz
   exact hz ▸ hN
 have hlen : (l ++ [newC k c]).length = l.length + 1 := by simp
 have hF : faultLog (l ++ [newC k c]) = 0 := by
  refine log_of (fun z hz => ?_) (List.pairwise_append.2 ⟨log_up hf, by simp, fun a ha b hb => ?_⟩) (by omega)
  ·rcases List.mem_append.1 hz with hz | hz
   ·exact faultLog_all hf z hz
   ·simp at hz
    rw [hz]
    exact newC_fault hk hk0 hc1
  ·simp at hb
   subst hb
   have ha2 := h2 a ha
   have e : cmpI (gi a 0).int 100000000 = -1 := by
    unfold cmpI
    rw [if_pos (by omega)]
   have e2 : ordC a (newC k c) = or2 (cmpI (gi a 0).int 100000000) (or2 (cmpS (gi a 3).str c) (or2 (cmpS (gi a 2).str k) (cmpI (gi a 1).int 1))) := rfl
   rw [e2, e]
   unfold or2
   simp
 refine ⟨dupL (l ++ [newC k c]) (l ++ [newC k c]).length, Ret.toEq ?_, ?_, ?_⟩
 ·unfold F_log_Dupes
  (dsimp +instances only [Aa,Ab,Ac,Ad,Ae,Af,Ag])
  refine Ret.cE (checkLog_eq _ hA (by omega)) ?_
  rw [hF]
  refine Ret.neg rfl ?_
  refine Ret.cE (dupes_ok _ hA (by omega)) ?_
  exact Ret.some rfl
 ·have := dupL_length (l ++ [newC k c]) (l ++ [newC k c]).length
  omega
 ·rw [hlen]
  have hd : dupB (l ++ [newC k c]) l.length = false := by
   unfold dupB
   have e1 : (l ++ [newC k c]).take l.length = l := by simp
   have e2 : (l ++ [newC k c]).getD l.length [] = newC k c := getD_mid l (newC k c) [] [] l.length rfl
   rw [e1, e2, List.any_eq_false]
   intro z hz
   have h := hw z hz
   have er : rowEq K3 (wk (newC k c)) (wk z) = ((baseOf c).toList == (baseOf (gi z 3).str).toList && (k.toList == (gi z 2).str.toList && ((1 : Int) == (gi z 1).int && true))) := rfl
   rw [er, Bool.and_true, beq_swap (baseOf c).toList, beq_swap k.toList, beq_swap (1 : Int)]
   rw [Bool.not_eq_true]
   cases a1 : (gi z 1).int == 1 <;> cases a2 : (gi z 2).str.toList == k.toList <;> cases a3 : (baseOf (gi z 3).str).toList == (baseOf c).toList <;> rw [a1, a2, a3] at h <;> first | rfl | (simp at h)
  rw [List.any_eq_false]
  intro r hr
  simp only [dupL, hd, cond_false, List.append_nil] at hr
  obtain ⟨a, rfl, ha⟩ := dupL_lt _ _ r hr
  simp only [Aa, Ae, beq_iff_eq]
  omega
theorem topWorthIsNew_data (rows : List (List G)) : F_piletop_TopWorthIsNew [.l rows] = some [.t true] := by
 refine Ret.toEq ?_
 unfold F_piletop_TopWorthIsNew
 (dsimp +instances only [Aa,Ab,Ac,Ad,Ae,Af,Ag])
 refine Ret.call (r_RightBands rows 0 (by omega) (by omega)) ?_
 rintro _ ⟨f0, f1, f2, f3, rfl⟩
 have hb := selB_Bnd f0 f1 f2 f3
 have hbn := selB_length f0 f1 f2 f3
 have hf := own_sel f0 f1 f2 f3
 generalize selB f0 f1 f2 f3 = b at hb hbn hf ⊢
 have hO := own_of_fault hf
 (dsimp +instances only [Aa,Ab,Ac,Ad,Ae,Af,Ag])
 refine Ret.call (r_Range rows _ 0 12 (by omega) (by omega) (by omega) (by omega) (by omega)) ?_
 rintro _ ⟨n1, rfl, hn0, hn1⟩
 (dsimp +instances only [Aa,Ab,Ac,Ad,Ae,Af,Ag])
 refine Ret.call (right_spots rows _ n1 (by omega) (by omega) hn0 (by omega)) ?_
 rintro _ ⟨a2, x, rfl, hb0, hb1, hx, hxn, hxf⟩
 (dsimp +instances only [Aa,Ab,Ac,Ad,Ae,Af,Ag])
 refine Ret.call (r_Range rows _ 0 8 (by omega) (by omega) (by omega) (by omega) (by omega)) ?_
 rintro _ ⟨n2, rfl, hm0, hm1⟩
 (dsimp +instances only [Aa,Ab,Ac,Ad,Ae,Af,Ag])
 refine Ret.call (r_Right rows _ n2 (by omega) (by omega) hm0 (by omega)) ?_
 rintro _ ⟨a3, lg, rfl, hc0, hc1, hlT, hlgn, hlf⟩
 have hlg : ∀ z ∈ lg, Con z := fun z hz => (hlT z hz).to
 (dsimp +instances only [Aa,Ab,Ac,Ad,Ae,Af,Ag])
 have h1 : b50 86400000 := by unfold b50; omega
 have h2 : b50 200 := by unfold b50; omega
 have h3 : b50 14000000 := by unfold b50; omega
 have hlog : logF b x lg 1 86400000 200 14000000 = 0 := by
  unfold logF
  rw [hf, hxf, hlf]
  rfl
 have hW := worth_ok b x lg 1 86400000 200 14000000 hb (by omega) hx (by omega) hlg (by omega) h1 h2 h3
 rw [hlog] at hW
 refine Ret.cE hW ?_
 (dsimp +instances only [Aa,Ab,Ac,Ad,Ae,Af,Ag])
 have e0 : ((0 : Int) == 0) = true := rfl
 simp only [e0, cond_true]
 refine Ret.neg rfl ?_
 refine Ret.cE (cloneF_ok lg (by omega)) ?_
 (dsimp +instances only [Aa,Ab,Ac,Ad,Ae,Af,Ag])
 refine Ret.callb (dlC_eq (Q := Con) (p := fun z => ltI 200 (gi z 0).int) (fun _ h => h.eta) late_ok lg hlg (by omega)) (by (first|rfl|assumption|(simp only [inI,sl]<;>omega))) ?_
 rintro _ ⟨J, rfl, hJ⟩
 (dsimp +instances only [Aa,Ab,Ac,Ad,Ae,Af,Ag])
 have et : (lg.filter (fun z => !ltI 200 (gi z 0).int) ++ J).take ((lg.filter (fun z => !ltI 200 (gi z 0).int)).length : Int).toNat = lg.filter (fun z => !ltI 200 (gi z 0).int) := by simp
 have hfl := List.length_filter_le (fun z => !ltI 200 (gi z 0).int) lg
 have hcC : ∀ z ∈ lg.filter (fun z => !ltI 200 (gi z 0).int), Con z ∧ (gi z 0).int ≤ 200 ∧ z ∈ lg := fun z hz => by
  obtain ⟨q1, q2⟩ := List.mem_filter.1 hz
  have q2 : ltI 200 (gi z 0).int = false := by simpa using q2
  rw [ltI_eq, decide_eq_false_iff_not] at q2
  exact ⟨hlg z q1, by omega, q1⟩
 have hcF : faultLog (lg.filter (fun z => !ltI 200 (gi z 0).int)) = 0 :=
  log_of (fun z hz => faultLog_all hlf z (List.mem_filter.1 hz).1) ((log_up hlf).sublist List.filter_sublist) (by omega)
 rw [et]
 generalize lg.filter (fun z => !ltI 200 (gi z 0).int) = c at *
 refine Ret.pos (by simp) ?_
 have hwl := worL_length b x lg 1 86400000 200 14000000
 have hwm : ∀ y ∈ worL b x lg 1 86400000 200 14000000, y ∈ x ∧ cntS b 86400000 200 y = true ∧ wkdB lg 200 1 b y = false := fun y hy => by
  obtain ⟨q1, q2⟩ := worL_mem hy
  obtain ⟨q3, q4⟩ := hsL_mem q1
  exact ⟨q3, q4, q2⟩
 generalize worL b x lg 1 86400000 200 14000000 = w at *
 have r := range_all (st := st_piletop_TopWorthIsNew_9) (σ := Unit) (fun _ i => [.l b, .l c, .i 100000000, .l w, .i (w.length : Int), .i (i : Int)]) w (fun _ => (1, [])) (fun _ _ => True) () (by omega) trivial
  (fun _ i y _ hi hy hm ht => by
   obtain ⟨w1, w2, w3⟩ := hwm y hm
   have hY := hx y w1
   have w2' := w2
   simp only [cntS, Bool.and_eq_true] at w2'
   have hkey : (bkey (inBand (gi y 1).int) b) ∈ bkeys ∧ (bkey (inBand (gi y 1).int) b) ≠ (⟨#[]⟩ : ByteArray) := by
    have hi := w2'.2.2
    rcases bix_at (p := inBand (gi y 1).int) b with ⟨p1, _⟩ | ⟨j, p1, p2, p3, _⟩
    ·rw [p1] at hi
     simp [leI_eq] at hi
    ·rw [p3]
     obtain ⟨k, lo, hi', he, hk, _⟩ := hb _ (getD_row p2)
     refine ⟨?_, hO.1 _ (getD_row p2)⟩
     rw [he]
     exact hk
   obtain ⟨ds, d1, d2, d3⟩ := new_ok c (bkey (inBand (gi y 1).int) b) (gi y 2).str (fun z hz => (hcC z hz).1) (by omega) hcF (fun z hz => (hcC z hz).2.1) hkey.1 hkey.2 hY.call (spot_call hxf y w1) (fun z hz => by
    obtain ⟨_, z1, z2⟩ := hcC z hz
    have h := List.any_eq_false.1 w3 z z2
    have hle : leI (gi z 0).int 200 = true := by rw [leI_eq, decide_eq_true_eq]; exact z1
    rw [hle, Bool.true_and] at h
    simpa using h)
   unfold st_piletop_TopWorthIsNew_9
   (dsimp +instances only [Aa,Ab,Ac,Ad,Ae,Af,Ag])
   simp only [Int.toNat_natCast, hy]
   refine Ret.p (Ret.p ?_)
   refine Ret.cE (bandOf_ok b _ hb (by omega) hf (hertz_in hxf y w1) w2'.2.2) ?_
   refine Ret.neg rfl (Ret.neg rfl ?_)
   refine Ret.cE (cloneF_ok c (by omega)) ?_
   (dsimp +instances only [Aa,Ab,Ac,Ad,Ae,Af,Ag])
   refine Ret.p (Ret.pos (by simp) ?_)
   refine Ret.cE d1 ?_
   refine Ret.neg rfl ?_
   refine Ret.cE (hasN_ok ds _ (by omega)) ?_
   (dsimp +instances only [Aa,Ab,Ac,Ad,Ae,Af,Ag])
   rw [d3]
   refine Ret.neg rfl (Ret.p (Ret.some ⟨(), by simp, trivial⟩)))
  (fun _ _ => by
   unfold st_piletop_TopWorthIsNew_9
   (dsimp +instances only [Aa,Ab,Ac,Ad,Ae,Af,Ag])
   exact Ret.n (Ret.some rfl))
 refine Ret.loop r rfl ?_
 rintro _ _ ⟨_, _, rfl, rfl⟩
 refine Ret.neg rfl ?_
 refine Ret.cE (rfl : F_piletop_h10facts [] = some [.t true]) ?_
 exact Ret.some rfl
end
end Go.Proofs.SYthjhjbgilbaknaaGreatDoor
