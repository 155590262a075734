/-
 What is proved here: stable sorts of Worth and Sweep, in the program, sort. No condition.
-/
import Derived.Test.YthjhjbgilbaknaaGreatDoorMF
set_option linter.unusedSimpArgs false
set_option linter.unusedVariables false
set_option linter.unusedSectionVars false
namespace Go.Proofs.SYthjhjbgilbaknaaGreatDoor
open Go Go.AL Go.Proofs
noncomputable section
theorem srtW4 {Q : List G → Prop} {c : List G → List G → Int} (hz : Int) (hE : ∀ x, Q x → gEta KSpot x = x) (hC : ∀ x y, Q x → Q y → F_band_Worth_2 [.i hz, .l [x], .l [y]] = some [.i hz, .i (c x y)]) : ∀ (p q : List (List G)) (x : List G) (b i : Int) (j : Nat), (∀ y ∈ p, Q y) → Q x → p.length < 1000000 → j = p.length →
  ∃ m, m ≤ p.length + 1 ∧ Runs st_insS_Spot_2_4 m [.l (p.reverse ++ x :: q), .i hz, .i 0, .i b, .i i, .i (j : Int)] 0 [.l ((insA (ltC c) x p).reverse ++ q), .i hz, .i 0, .i b, .i i]
 | [], q, x, b, i, j, _, _, _, hj => by
  simp only [List.length_nil] at hj
  subst hj
  refine ⟨1, by simp, .stop (Ret.toEq ?_)⟩
  unfold st_insS_Spot_2_4
  (dsimp +instances only [Aa,Ab,Ac,Ad,Ae,Af,Ag])
  refine Ret.n ?_
  (repeat first|refine Ret.p ?_|refine Ret.n ?_)
  exact Ret.some rfl
 | y :: p, q, x, b, i, j, hp, hx, hl, hj => by
  have hy := hp y List.mem_cons_self
  have e1 : (y :: p).reverse ++ x :: q = (p.reverse ++ [y]) ++ x :: q := by simp
  have e2 : (y :: p).reverse ++ x :: q = p.reverse ++ y :: x :: q := by simp
  simp only [List.length_cons] at hl hj
  have g1 : ((y :: p).reverse ++ x :: q).getD (0 + (j : Int).toNat) [] = x := by rw [e1]; exact getD_mid _ _ _ _ _ (by simp [hj])
  have g2 : ((y :: p).reverse ++ x :: q).getD (0 + ((j : Int) - 1).toNat) [] = y := by rw [e2]; exact getD_mid _ _ _ _ _ (by simp [hj])
  have hlen : ((y :: p).reverse ++ x :: q).length = p.length + q.length + 2 := by simp; omega
  have hcmp := hC x y hx hy
  cases hlt : ltC c x y with
  | false =>
   refine ⟨1, by simp, .stop (Ret.toEq ?_)⟩
   unfold st_insS_Spot_2_4
   (dsimp +instances only [Aa,Ab,Ac,Ad,Ae,Af,Ag])
   simp only [hlen, g1, g2, hE x hx, hE y hy]
   refine Ret.p (Ret.p (Ret.p (Ret.p (Ret.p (Ret.p ?_)))))
   first | refine Ret.call (Ret.eq hcmp) ?_ | refine Ret.callb (Ret.eq hcmp) (by (first|rfl|assumption|(simp only [inI,sl]<;>omega))) ?_
   rintro _ rfl
   (dsimp +instances only [Aa,Ab,Ac,Ad,Ae,Af,Ag])
   refine Ret.neg hlt ?_
   (repeat first|refine Ret.p ?_|refine Ret.n ?_)
   refine Ret.some ?_
   simp [insA, hlt]
  | true =>
   obtain ⟨m, hm, hr⟩ := srtW4 hz hE hC p (y :: q) x b i (j - 1) (fun z hz => hp z (List.mem_cons_of_mem _ hz)) hx (by omega) (by omega)
   refine ⟨m + 1, by simp; omega, .next (Ret.toEq ?_) (by
    have e : (insA (ltC c) x (y :: p)).reverse ++ q = (insA (ltC c) x p).reverse ++ y :: q := by simp [insA, hlt]
    rw [e]; exact hr)⟩
   have s1 : ((y :: p).reverse ++ x :: q).set (0 + (j : Int).toNat) y = p.reverse ++ y :: y :: q := by
    rw [e1, set_mid _ _ _ _ _ (by simp [hj])]; simp
   have s2 : (p.reverse ++ y :: y :: q).set (0 + ((j : Int) - 1).toNat) x = p.reverse ++ x :: y :: q := set_mid _ _ _ _ _ (by simp [hj])
   have g3 : (p.reverse ++ y :: y :: q).getD (0 + ((j : Int) - 1).toNat) [] = y := getD_mid _ _ _ _ _ (by simp [hj])
   have hl2 : (p.reverse ++ y :: y :: q).length = p.length + q.length + 2 := by simp; omega
   have hl3 : (p.reverse ++ x :: y :: q).length = p.length + q.length + 2 := by simp; omega
   have ky : y.length = KSpot.length := by rw [← hE y hy, gEta_length]
   have kx : x.length = KSpot.length := by rw [← hE x hx, gEta_length]
   unfold st_insS_Spot_2_4
   (dsimp +instances only [Aa,Ab,Ac,Ad,Ae,Af,Ag])
   simp only [hlen, g1, g2, hE x hx, hE y hy, putG_all ky, putG_all kx, s1, g3, s2, hl2, hl3]
   refine Ret.p (Ret.p (Ret.p (Ret.p (Ret.p (Ret.p ?_)))))
   first | refine Ret.call (Ret.eq hcmp) ?_ | refine Ret.callb (Ret.eq hcmp) (by (first|rfl|assumption|(simp only [inI,sl]<;>omega))) ?_
   rintro _ rfl
   (dsimp +instances only [Aa,Ab,Ac,Ad,Ae,Af,Ag])
   refine Ret.pos hlt ?_
   (repeat first|refine Ret.p ?_|refine Ret.n ?_)
   refine Ret.some ?_
   try simp only [Int.toNat_natCast]
   rw [show ((j : Int) - 1) = ((j - 1 : Nat) : Int) from by omega]
theorem srtW1 {Q : List G → Prop} {c : List G → List G → Int} (hz : Int) (hE : ∀ x, Q x → gEta KSpot x = x) (hC : ∀ x y, Q x → Q y → F_band_Worth_2 [.i hz, .l [x], .l [y]] = some [.i hz, .i (c x y)]) : ∀ (r p : List (List G)) (i n : Nat), (∀ y ∈ p, Q y) → (∀ y ∈ r, Q y) → i = p.length → n = p.length + r.length → n < 100000 →
  ∃ m, m ≤ r.length + 1 ∧ Runs st_insS_Spot_2_1 m [.l (p.reverse ++ r), .i hz, .i 0, .i (n : Int), .i (i : Int)] 0 [.l (insAll (ltC c) p r).reverse, .i hz]
 | [], p, i, n, _, _, hi, hn, hs => by
  refine ⟨1, by simp, .stop (Ret.toEq ?_)⟩
  simp only [List.length_nil] at hn
  unfold st_insS_Spot_2_1
  (dsimp +instances only [Aa,Ab,Ac,Ad,Ae,Af,Ag])
  refine Ret.n ?_
  (repeat first|refine Ret.p ?_|refine Ret.n ?_)
  refine Ret.some ?_
  simp [insAll]
 | x :: r, p, i, n, hp, hr, hi, hn, hs => by
  simp only [List.length_cons] at hn
  obtain ⟨m1, hm1, h1⟩ := srtW4 hz hE hC p r x (n : Int) (i : Int) i hp (hr x List.mem_cons_self) (by omega) hi
  obtain ⟨m, hm, h2⟩ := srtW1 hz hE hC r (insA (ltC c) x p) (i + 1) n (insA_all (hr x List.mem_cons_self) hp) (fun y hy => hr y (List.mem_cons_of_mem _ hy)) (by rw [insA_length, hi]) (by rw [insA_length]; omega) hs
  refine ⟨m + 1, by simp; omega, .next (Ret.toEq ?_) h2⟩
  unfold st_insS_Spot_2_1
  (dsimp +instances only [Aa,Ab,Ac,Ad,Ae,Af,Ag])
  refine Ret.p (Ret.loop (P := fun x g => g = _) ⟨m1, 0, _, h1, by omega, rfl⟩ (by (first|rfl|assumption|(simp only [inI,sl]<;>omega))) ?_)
  rintro _ _ rfl
  (dsimp +instances only [Aa,Ab,Ac,Ad,Ae,Af,Ag])
  (repeat first|refine Ret.p ?_|refine Ret.n ?_)
  exact Ret.some rfl
theorem srtWF {Q : List G → Prop} {c : List G → List G → Int} (hz : Int) (hE : ∀ x, Q x → gEta KSpot x = x) (hC : ∀ x y, Q x → Q y → F_band_Worth_2 [.i hz, .l [x], .l [y]] = some [.i hz, .i (c x y)]) (rows : List (List G)) (hr : ∀ y ∈ rows, Q y) (hn : rows.length < 100000) : F_insS_Spot_2 [.l rows, .i hz, .i 0, .i (rows.length : Int)] = some [.l (sortA (ltC c) rows), .i hz] := by
 refine Ret.toEq ?_
 unfold F_insS_Spot_2
 (dsimp +instances only [Aa,Ab,Ac,Ad,Ae,Af,Ag])
 refine Ret.p ?_
 cases rows with
 | nil =>
  refine Ret.loop (P := fun x g => g = [.l [], .i hz]) ⟨1, 0, _, .stop (Ret.toEq (?_ : Ret _ (fun g => g = (some 0, [G.l [], .i hz])))), by omega, rfl⟩ (by (first|rfl|assumption|(simp only [inI,sl]<;>omega))) ?_
  ·unfold st_insS_Spot_2_1
   (dsimp +instances only [Aa,Ab,Ac,Ad,Ae,Af,Ag])
   refine Ret.n ?_
   (repeat first|refine Ret.p ?_|refine Ret.n ?_)
   exact Ret.some rfl
  ·rintro _ _ rfl
   (dsimp +instances only [Aa,Ab,Ac,Ad,Ae,Af,Ag])
   (repeat first|refine Ret.p ?_|refine Ret.n ?_)
   exact Ret.some rfl
 | cons x r =>
  simp only [List.length_cons] at hn
  obtain ⟨m, hm, h⟩ := srtW1 hz hE hC r [x] 1 (r.length + 1) (by simpa using hr x List.mem_cons_self) (fun y hy => hr y (List.mem_cons_of_mem _ hy)) rfl (by simp; omega) (by omega)
  refine Ret.loop (P := fun y g => g = _) ⟨m, 0, _, h, by omega, rfl⟩ (by (first|rfl|assumption|(simp only [inI,sl]<;>omega))) ?_
  rintro _ _ rfl
  (dsimp +instances only [Aa,Ab,Ac,Ad,Ae,Af,Ag])
  (repeat first|refine Ret.p ?_|refine Ret.n ?_)
  exact Ret.some rfl
theorem srtWN {Q : List G → Prop} {c : List G → List G → Int} (hz : Int) (hE : ∀ x, Q x → gEta KSpot x = x) (hC : ∀ x y, Q x → Q y → F_band_Worth_2 [.i hz, .l [x], .l [y]] = some [.i hz, .i (c x y)]) (rows : List (List G)) (a b : Nat) (h : b ≤ a) (hn : a < 100000) : F_insS_Spot_2 [.l rows, .i hz, .i (a : Int), .i (b : Int)] = some [.l rows, .i hz] := by
 refine Ret.toEq ?_
 unfold F_insS_Spot_2
 (dsimp +instances only [Aa,Ab,Ac,Ad,Ae,Af,Ag])
 refine Ret.p ?_
 refine Ret.loop (P := fun x g => g = [.l rows, .i hz]) ⟨1, 0, _, .stop (Ret.toEq (?_ : Ret _ (fun g => g = (some 0, [G.l rows, .i hz])))), by omega, rfl⟩ (by (first|rfl|assumption|(simp only [inI,sl]<;>omega))) ?_
 ·unfold st_insS_Spot_2_1
  (dsimp +instances only [Aa,Ab,Ac,Ad,Ae,Af,Ag])
  refine Ret.n ?_
  (repeat first|refine Ret.p ?_|refine Ret.n ?_)
  exact Ret.some rfl
 ·rintro _ _ rfl
  (dsimp +instances only [Aa,Ab,Ac,Ad,Ae,Af,Ag])
  (repeat first|refine Ret.p ?_|refine Ret.n ?_)
  exact Ret.some rfl
theorem srtWT {Q : List G → Prop} {c : List G → List G → Int} (hz : Int) (hE : ∀ x, Q x → gEta KSpot x = x) (hC : ∀ x y, Q x → Q y → F_band_Worth_2 [.i hz, .l [x], .l [y]] = some [.i hz, .i (c x y)]) (rows : List (List G)) (hr : ∀ y ∈ rows, Q y) (hn : rows.length ≤ 20) : F_stbS_Spot_2 [.l rows, .i hz, .i (rows.length : Int)] = some [.l (sortA (ltC c) rows), .i hz] := by
 refine Ret.toEq ?_
 unfold F_stbS_Spot_2
 (dsimp +instances only [Aa,Ab,Ac,Ad,Ae,Af,Ag])
 have hS := srtWF hz hE hC rows hr (by omega)
 have hlen := sortA_length (ltC c) rows
 have h7 : ∀ rows' : List (List G), rows'.length = rows.length → RetL st_stbS_Spot_2_7 [.l rows', .i hz, .i (rows.length : Int), .i 20] fun _ g => g = [.l rows', .i hz] := by
  intro rows' hl
  refine RetL.stop (x := 0) (Ret.toEq ?_) rfl
  unfold st_stbS_Spot_2_7
  (dsimp +instances only [Aa,Ab,Ac,Ad,Ae,Af,Ag])
  refine Ret.n ?_
  (repeat first|refine Ret.p ?_|refine Ret.n ?_)
  exact Ret.some rfl
 by_cases h20 : rows.length = 20
 ·have h1 : st_stbS_Spot_2_2 [.l rows, .i hz, .i (rows.length : Int), .i 20, .i 0, .i 20] = some (none, [.l (sortA (ltC c) rows), .i hz, .i (rows.length : Int), .i 20, .i 20, .i 40]) := by
   refine Ret.toEq ?_
   unfold st_stbS_Spot_2_2
   (dsimp +instances only [Aa,Ab,Ac,Ad,Ae,Af,Ag])
   have hS : F_insS_Spot_2 [.l rows, .i hz, .i 0, .i 20] = some [.l (sortA (ltC c) rows), .i hz] := by rw [h20] at hS; exact hS
   refine Ret.p (Ret.callb (Ret.eq hS) (by (first|rfl|assumption|(simp only [inI,sl]<;>omega))) ?_)
   rintro _ rfl
   (dsimp +instances only [Aa,Ab,Ac,Ad,Ae,Af,Ag])
   (repeat first|refine Ret.p ?_|refine Ret.n ?_)
   exact Ret.some rfl
  have h2 : st_stbS_Spot_2_2 [.l (sortA (ltC c) rows), .i hz, .i (rows.length : Int), .i 20, .i 20, .i 40] = some (some 0, [.l (sortA (ltC c) rows), .i hz, .i (rows.length : Int), .i 20, .i 20]) := by
   refine Ret.toEq ?_
   unfold st_stbS_Spot_2_2
   (dsimp +instances only [Aa,Ab,Ac,Ad,Ae,Af,Ag])
   refine Ret.n ?_
   (repeat first|refine Ret.p ?_|refine Ret.n ?_)
   exact Ret.some rfl
  refine Ret.loop (P := fun x g => g = _) ⟨2, 0, _, .next h1 (.stop h2), by omega, rfl⟩ (by (first|rfl|assumption|(simp only [inI,sl]<;>omega))) ?_
  rintro _ _ rfl
  (dsimp +instances only [Aa,Ab,Ac,Ad,Ae,Af,Ag])
  have hE2 : F_insS_Spot_2 [.l (sortA (ltC c) rows), .i hz, .i 20, .i (rows.length : Int)] = some [.l (sortA (ltC c) rows), .i hz] := by
   rw [h20]; exact srtWN hz hE hC _ 20 20 (by omega) (by omega)
  refine Ret.callb (Ret.eq hE2) (by (first|rfl|assumption|(simp only [inI,sl]<;>omega))) ?_
  rintro _ rfl
  (dsimp +instances only [Aa,Ab,Ac,Ad,Ae,Af,Ag])
  refine Ret.loop (h7 _ hlen) (by (first|rfl|assumption|(simp only [inI,sl]<;>omega))) ?_
  rintro _ _ rfl
  (dsimp +instances only [Aa,Ab,Ac,Ad,Ae,Af,Ag])
  (repeat first|refine Ret.p ?_|refine Ret.n ?_)
  exact Ret.some rfl
 ·have h1 : st_stbS_Spot_2_2 [.l rows, .i hz, .i (rows.length : Int), .i 20, .i 0, .i 20] = some (some 0, [.l rows, .i hz, .i (rows.length : Int), .i 20, .i 0]) := by
   refine Ret.toEq ?_
   unfold st_stbS_Spot_2_2
   (dsimp +instances only [Aa,Ab,Ac,Ad,Ae,Af,Ag])
   refine Ret.n ?_
   (repeat first|refine Ret.p ?_|refine Ret.n ?_)
   exact Ret.some rfl
  refine Ret.loop (P := fun x g => g = _) ⟨1, 0, _, .stop h1, by omega, rfl⟩ (by (first|rfl|assumption|(simp only [inI,sl]<;>omega))) ?_
  rintro _ _ rfl
  (dsimp +instances only [Aa,Ab,Ac,Ad,Ae,Af,Ag])
  refine Ret.callb (Ret.eq hS) (by (first|rfl|assumption|(simp only [inI,sl]<;>omega))) ?_
  rintro _ rfl
  (dsimp +instances only [Aa,Ab,Ac,Ad,Ae,Af,Ag])
  refine Ret.loop (h7 _ hlen) (by (first|rfl|assumption|(simp only [inI,sl]<;>omega))) ?_
  rintro _ _ rfl
  (dsimp +instances only [Aa,Ab,Ac,Ad,Ae,Af,Ag])
  (repeat first|refine Ret.p ?_|refine Ret.n ?_)
  exact Ret.some rfl
theorem srtW_eq {Q : List G → Prop} {c : List G → List G → Int} (hz : Int) (hE : ∀ x, Q x → gEta KSpot x = x) (hC : ∀ x y, Q x → Q y → F_band_Worth_2 [.i hz, .l [x], .l [y]] = some [.i hz, .i (c x y)]) (rows : List (List G)) (hr : ∀ y ∈ rows, Q y) (hn : rows.length ≤ 20) : F_srtS_Spot_2 [.l rows, .i hz] = some [.l (sortA (ltC c) rows), .i hz] := by
 refine Ret.toEq ?_
 unfold F_srtS_Spot_2
 (dsimp +instances only [Aa,Ab,Ac,Ad,Ae,Af,Ag])
 refine Ret.callb (Ret.eq (srtWT hz hE hC rows hr hn)) (by (first|rfl|assumption|(simp only [inI,sl]<;>omega))) ?_
 rintro _ rfl
 (dsimp +instances only [Aa,Ab,Ac,Ad,Ae,Af,Ag])
 (repeat first|refine Ret.p ?_|refine Ret.n ?_)
 exact Ret.some rfl
theorem srtY4 {Q : List G → Prop} {c : List G → List G → Int} (hz : Int) (dn : Bool) (hE : ∀ x, Q x → gEta KSpot x = x) (hC : ∀ x y, Q x → Q y → F_band_way_3 [.i hz, .t dn, .l [x], .l [y]] = some [.i hz, .t dn, .i (c x y)]) : ∀ (p q : List (List G)) (x : List G) (b i : Int) (j : Nat), (∀ y ∈ p, Q y) → Q x → p.length < 1000000 → j = p.length →
  ∃ m, m ≤ p.length + 1 ∧ Runs st_insS_Spot_3_4 m [.l (p.reverse ++ x :: q), .i hz, .t dn, .i 0, .i b, .i i, .i (j : Int)] 0 [.l ((insA (ltC c) x p).reverse ++ q), .i hz, .t dn, .i 0, .i b, .i i]
 | [], q, x, b, i, j, _, _, _, hj => by
  simp only [List.length_nil] at hj
  subst hj
  refine ⟨1, by simp, .stop (Ret.toEq ?_)⟩
  unfold st_insS_Spot_3_4
  (dsimp +instances only [Aa,Ab,Ac,Ad,Ae,Af,Ag])
  refine Ret.n ?_
  (repeat first|refine Ret.p ?_|refine Ret.n ?_)
  exact Ret.some rfl
 | y :: p, q, x, b, i, j, hp, hx, hl, hj => by
  have hy := hp y List.mem_cons_self
  have e1 : (y :: p).reverse ++ x :: q = (p.reverse ++ [y]) ++ x :: q := by simp
  have e2 : (y :: p).reverse ++ x :: q = p.reverse ++ y :: x :: q := by simp
  simp only [List.length_cons] at hl hj
  have g1 : ((y :: p).reverse ++ x :: q).getD (0 + (j : Int).toNat) [] = x := by rw [e1]; exact getD_mid _ _ _ _ _ (by simp [hj])
  have g2 : ((y :: p).reverse ++ x :: q).getD (0 + ((j : Int) - 1).toNat) [] = y := by rw [e2]; exact getD_mid _ _ _ _ _ (by simp [hj])
  have hlen : ((y :: p).reverse ++ x :: q).length = p.length + q.length + 2 := by simp; omega
  have hcmp := hC x y hx hy
  cases hlt : ltC c x y with
  | false =>
   refine ⟨1, by simp, .stop (Ret.toEq ?_)⟩
   unfold st_insS_Spot_3_4
   (dsimp +instances only [Aa,Ab,Ac,Ad,Ae,Af,Ag])
   simp only [hlen, g1, g2, hE x hx, hE y hy]
   refine Ret.p (Ret.p (Ret.p (Ret.p (Ret.p (Ret.p ?_)))))
   first | refine Ret.call (Ret.eq hcmp) ?_ | refine Ret.callb (Ret.eq hcmp) (by (first|rfl|assumption|(simp only [inI,sl]<;>omega))) ?_
   rintro _ rfl
   (dsimp +instances only [Aa,Ab,Ac,Ad,Ae,Af,Ag])
   refine Ret.neg hlt ?_
   (repeat first|refine Ret.p ?_|refine Ret.n ?_)
   refine Ret.some ?_
   simp [insA, hlt]
  | true =>
   obtain ⟨m, hm, hr⟩ := srtY4 hz dn hE hC p (y :: q) x b i (j - 1) (fun z hz => hp z (List.mem_cons_of_mem _ hz)) hx (by omega) (by omega)
   refine ⟨m + 1, by simp; omega, .next (Ret.toEq ?_) (by
    have e : (insA (ltC c) x (y :: p)).reverse ++ q = (insA (ltC c) x p).reverse ++ y :: q := by simp [insA, hlt]
    rw [e]; exact hr)⟩
   have s1 : ((y :: p).reverse ++ x :: q).set (0 + (j : Int).toNat) y = p.reverse ++ y :: y :: q := by
    rw [e1, set_mid _ _ _ _ _ (by simp [hj])]; simp
   have s2 : (p.reverse ++ y :: y :: q).set (0 + ((j : Int) - 1).toNat) x = p.reverse ++ x :: y :: q := set_mid _ _ _ _ _ (by simp [hj])
   have g3 : (p.reverse ++ y :: y :: q).getD (0 + ((j : Int) - 1).toNat) [] = y := getD_mid _ _ _ _ _ (by simp [hj])
   have hl2 : (p.reverse ++ y :: y :: q).length = p.length + q.length + 2 := by simp; omega
   have hl3 : (p.reverse ++ x :: y :: q).length = p.length + q.length + 2 := by simp; omega
   have ky : y.length = KSpot.length := by rw [← hE y hy, gEta_length]
   have kx : x.length = KSpot.length := by rw [← hE x hx, gEta_length]
   unfold st_insS_Spot_3_4
   (dsimp +instances only [Aa,Ab,Ac,Ad,Ae,Af,Ag])
   simp only [hlen, g1, g2, hE x hx, hE y hy, putG_all ky, putG_all kx, s1, g3, s2, hl2, hl3]
   refine Ret.p (Ret.p (Ret.p (Ret.p (Ret.p (Ret.p ?_)))))
   first | refine Ret.call (Ret.eq hcmp) ?_ | refine Ret.callb (Ret.eq hcmp) (by (first|rfl|assumption|(simp only [inI,sl]<;>omega))) ?_
   rintro _ rfl
   (dsimp +instances only [Aa,Ab,Ac,Ad,Ae,Af,Ag])
   refine Ret.pos hlt ?_
   (repeat first|refine Ret.p ?_|refine Ret.n ?_)
   refine Ret.some ?_
   try simp only [Int.toNat_natCast]
   rw [show ((j : Int) - 1) = ((j - 1 : Nat) : Int) from by omega]
theorem srtY1 {Q : List G → Prop} {c : List G → List G → Int} (hz : Int) (dn : Bool) (hE : ∀ x, Q x → gEta KSpot x = x) (hC : ∀ x y, Q x → Q y → F_band_way_3 [.i hz, .t dn, .l [x], .l [y]] = some [.i hz, .t dn, .i (c x y)]) : ∀ (r p : List (List G)) (i n : Nat), (∀ y ∈ p, Q y) → (∀ y ∈ r, Q y) → i = p.length → n = p.length + r.length → n < 100000 →
  ∃ m, m ≤ r.length + 1 ∧ Runs st_insS_Spot_3_1 m [.l (p.reverse ++ r), .i hz, .t dn, .i 0, .i (n : Int), .i (i : Int)] 0 [.l (insAll (ltC c) p r).reverse, .i hz, .t dn]
 | [], p, i, n, _, _, hi, hn, hs => by
  refine ⟨1, by simp, .stop (Ret.toEq ?_)⟩
  simp only [List.length_nil] at hn
  unfold st_insS_Spot_3_1
  (dsimp +instances only [Aa,Ab,Ac,Ad,Ae,Af,Ag])
  refine Ret.n ?_
  (repeat first|refine Ret.p ?_|refine Ret.n ?_)
  refine Ret.some ?_
  simp [insAll]
 | x :: r, p, i, n, hp, hr, hi, hn, hs => by
  simp only [List.length_cons] at hn
  obtain ⟨m1, hm1, h1⟩ := srtY4 hz dn hE hC p r x (n : Int) (i : Int) i hp (hr x List.mem_cons_self) (by omega) hi
  obtain ⟨m, hm, h2⟩ := srtY1 hz dn hE hC r (insA (ltC c) x p) (i + 1) n (insA_all (hr x List.mem_cons_self) hp) (fun y hy => hr y (List.mem_cons_of_mem _ hy)) (by rw [insA_length, hi]) (by rw [insA_length]; omega) hs
  refine ⟨m + 1, by simp; omega, .next (Ret.toEq ?_) h2⟩
  unfold st_insS_Spot_3_1
  (dsimp +instances only [Aa,Ab,Ac,Ad,Ae,Af,Ag])
  refine Ret.p (Ret.loop (P := fun x g => g = _) ⟨m1, 0, _, h1, by omega, rfl⟩ (by (first|rfl|assumption|(simp only [inI,sl]<;>omega))) ?_)
  rintro _ _ rfl
  (dsimp +instances only [Aa,Ab,Ac,Ad,Ae,Af,Ag])
  (repeat first|refine Ret.p ?_|refine Ret.n ?_)
  exact Ret.some rfl
theorem srtYF {Q : List G → Prop} {c : List G → List G → Int} (hz : Int) (dn : Bool) (hE : ∀ x, Q x → gEta KSpot x = x) (hC : ∀ x y, Q x → Q y → F_band_way_3 [.i hz, .t dn, .l [x], .l [y]] = some [.i hz, .t dn, .i (c x y)]) (rows : List (List G)) (hr : ∀ y ∈ rows, Q y) (hn : rows.length < 100000) : F_insS_Spot_3 [.l rows, .i hz, .t dn, .i 0, .i (rows.length : Int)] = some [.l (sortA (ltC c) rows), .i hz, .t dn] := by
 refine Ret.toEq ?_
 unfold F_insS_Spot_3
 (dsimp +instances only [Aa,Ab,Ac,Ad,Ae,Af,Ag])
 refine Ret.p ?_
 cases rows with
 | nil =>
  refine Ret.loop (P := fun x g => g = [.l [], .i hz, .t dn]) ⟨1, 0, _, .stop (Ret.toEq (?_ : Ret _ (fun g => g = (some 0, [G.l [], .i hz, .t dn])))), by omega, rfl⟩ (by (first|rfl|assumption|(simp only [inI,sl]<;>omega))) ?_
  ·unfold st_insS_Spot_3_1
   (dsimp +instances only [Aa,Ab,Ac,Ad,Ae,Af,Ag])
   refine Ret.n ?_
   (repeat first|refine Ret.p ?_|refine Ret.n ?_)
   exact Ret.some rfl
  ·rintro _ _ rfl
   (dsimp +instances only [Aa,Ab,Ac,Ad,Ae,Af,Ag])
   (repeat first|refine Ret.p ?_|refine Ret.n ?_)
   exact Ret.some rfl
 | cons x r =>
  simp only [List.length_cons] at hn
  obtain ⟨m, hm, h⟩ := srtY1 hz dn hE hC r [x] 1 (r.length + 1) (by simpa using hr x List.mem_cons_self) (fun y hy => hr y (List.mem_cons_of_mem _ hy)) rfl (by simp; omega) (by omega)
  refine Ret.loop (P := fun y g => g = _) ⟨m, 0, _, h, by omega, rfl⟩ (by (first|rfl|assumption|(simp only [inI,sl]<;>omega))) ?_
  rintro _ _ rfl
  (dsimp +instances only [Aa,Ab,Ac,Ad,Ae,Af,Ag])
  (repeat first|refine Ret.p ?_|refine Ret.n ?_)
  exact Ret.some rfl
theorem srtYN {Q : List G → Prop} {c : List G → List G → Int} (hz : Int) (dn : Bool) (hE : ∀ x, Q x → gEta KSpot x = x) (hC : ∀ x y, Q x → Q y → F_band_way_3 [.i hz, .t dn, .l [x], .l [y]] = some [.i hz, .t dn, .i (c x y)]) (rows : List (List G)) (a b : Nat) (h : b ≤ a) (hn : a < 100000) : F_insS_Spot_3 [.l rows, .i hz, .t dn, .i (a : Int), .i (b : Int)] = some [.l rows, .i hz, .t dn] := by
 refine Ret.toEq ?_
 unfold F_insS_Spot_3
 (dsimp +instances only [Aa,Ab,Ac,Ad,Ae,Af,Ag])
 refine Ret.p ?_
 refine Ret.loop (P := fun x g => g = [.l rows, .i hz, .t dn]) ⟨1, 0, _, .stop (Ret.toEq (?_ : Ret _ (fun g => g = (some 0, [G.l rows, .i hz, .t dn])))), by omega, rfl⟩ (by (first|rfl|assumption|(simp only [inI,sl]<;>omega))) ?_
 ·unfold st_insS_Spot_3_1
  (dsimp +instances only [Aa,Ab,Ac,Ad,Ae,Af,Ag])
  refine Ret.n ?_
  (repeat first|refine Ret.p ?_|refine Ret.n ?_)
  exact Ret.some rfl
 ·rintro _ _ rfl
  (dsimp +instances only [Aa,Ab,Ac,Ad,Ae,Af,Ag])
  (repeat first|refine Ret.p ?_|refine Ret.n ?_)
  exact Ret.some rfl
theorem srtYT {Q : List G → Prop} {c : List G → List G → Int} (hz : Int) (dn : Bool) (hE : ∀ x, Q x → gEta KSpot x = x) (hC : ∀ x y, Q x → Q y → F_band_way_3 [.i hz, .t dn, .l [x], .l [y]] = some [.i hz, .t dn, .i (c x y)]) (rows : List (List G)) (hr : ∀ y ∈ rows, Q y) (hn : rows.length ≤ 20) : F_stbS_Spot_3 [.l rows, .i hz, .t dn, .i (rows.length : Int)] = some [.l (sortA (ltC c) rows), .i hz, .t dn] := by
 refine Ret.toEq ?_
 unfold F_stbS_Spot_3
 (dsimp +instances only [Aa,Ab,Ac,Ad,Ae,Af,Ag])
 have hS := srtYF hz dn hE hC rows hr (by omega)
 have hlen := sortA_length (ltC c) rows
 have h7 : ∀ rows' : List (List G), rows'.length = rows.length → RetL st_stbS_Spot_3_7 [.l rows', .i hz, .t dn, .i (rows.length : Int), .i 20] fun _ g => g = [.l rows', .i hz, .t dn] := by
  intro rows' hl
  refine RetL.stop (x := 0) (Ret.toEq ?_) rfl
  unfold st_stbS_Spot_3_7
  (dsimp +instances only [Aa,Ab,Ac,Ad,Ae,Af,Ag])
  refine Ret.n ?_
  (repeat first|refine Ret.p ?_|refine Ret.n ?_)
  exact Ret.some rfl
 by_cases h20 : rows.length = 20
 ·have h1 : st_stbS_Spot_3_2 [.l rows, .i hz, .t dn, .i (rows.length : Int), .i 20, .i 0, .i 20] = some (none, [.l (sortA (ltC c) rows), .i hz, .t dn, .i (rows.length : Int), .i 20, .i 20, .i 40]) := by
   refine Ret.toEq ?_
   unfold st_stbS_Spot_3_2
   (dsimp +instances only [Aa,Ab,Ac,Ad,Ae,Af,Ag])
   have hS : F_insS_Spot_3 [.l rows, .i hz, .t dn, .i 0, .i 20] = some [.l (sortA (ltC c) rows), .i hz, .t dn] := by rw [h20] at hS; exact hS
   refine Ret.p (Ret.callb (Ret.eq hS) (by (first|rfl|assumption|(simp only [inI,sl]<;>omega))) ?_)
   rintro _ rfl
   (dsimp +instances only [Aa,Ab,Ac,Ad,Ae,Af,Ag])
   (repeat first|refine Ret.p ?_|refine Ret.n ?_)
   exact Ret.some rfl
  have h2 : st_stbS_Spot_3_2 [.l (sortA (ltC c) rows), .i hz, .t dn, .i (rows.length : Int), .i 20, .i 20, .i 40] = some (some 0, [.l (sortA (ltC c) rows), .i hz, .t dn, .i (rows.length : Int), .i 20, .i 20]) := by
   refine Ret.toEq ?_
   unfold st_stbS_Spot_3_2
   (dsimp +instances only [Aa,Ab,Ac,Ad,Ae,Af,Ag])
   refine Ret.n ?_
   (repeat first|refine Ret.p ?_|refine Ret.n ?_)
   exact Ret.some rfl
  refine Ret.loop (P := fun x g => g = _) ⟨2, 0, _, .next h1 (.stop h2), by omega, rfl⟩ (by (first|rfl|assumption|(simp only [inI,sl]<;>omega))) ?_
  rintro _ _ rfl
  (dsimp +instances only [Aa,Ab,Ac,Ad,Ae,Af,Ag])
  have hE2 : F_insS_Spot_3 [.l (sortA (ltC c) rows), .i hz, .t dn, .i 20, .i (rows.length : Int)] = some [.l (sortA (ltC c) rows), .i hz, .t dn] := by
   rw [h20]; exact srtYN hz dn hE hC _ 20 20 (by omega) (by omega)
  refine Ret.callb (Ret.eq hE2) (by (first|rfl|assumption|(simp only [inI,sl]<;>omega))) ?_
  rintro _ rfl
  (dsimp +instances only [Aa,Ab,Ac,Ad,Ae,Af,Ag])
  refine Ret.loop (h7 _ hlen) (by (first|rfl|assumption|(simp only [inI,sl]<;>omega))) ?_
  rintro _ _ rfl
  (dsimp +instances only [Aa,Ab,Ac,Ad,Ae,Af,Ag])
  (repeat first|refine Ret.p ?_|refine Ret.n ?_)
  exact Ret.some rfl
 ·have h1 : st_stbS_Spot_3_2 [.l rows, .i hz, .t dn, .i (rows.length : Int), .i 20, .i 0, .i 20] = some (some 0, [.l rows, .i hz, .t dn, .i (rows.length : Int), .i 20, .i 0]) := by
   refine Ret.toEq ?_
   unfold st_stbS_Spot_3_2
   (dsimp +instances only [Aa,Ab,Ac,Ad,Ae,Af,Ag])
   refine Ret.n ?_
   (repeat first|refine Ret.p ?_|refine Ret.n ?_)
   exact Ret.some rfl
  refine Ret.loop (P := fun x g => g = _) ⟨1, 0, _, .stop h1, by omega, rfl⟩ (by (first|rfl|assumption|(simp only [inI,sl]<;>omega))) ?_
  rintro _ _ rfl
  (dsimp +instances only [Aa,Ab,Ac,Ad,Ae,Af,Ag])
  refine Ret.callb (Ret.eq hS) (by (first|rfl|assumption|(simp only [inI,sl]<;>omega))) ?_
  rintro _ rfl
  (dsimp +instances only [Aa,Ab,Ac,Ad,Ae,Af,Ag])
  refine Ret.loop (h7 _ hlen) (by (first|rfl|assumption|(simp only [inI,sl]<;>omega))) ?_
  rintro _ _ rfl
  (dsimp +instances only [Aa,Ab,Ac,Ad,Ae,Af,Ag])
  (repeat first|refine Ret.p ?_|refine Ret.n ?_)
  exact Ret.some rfl
theorem srtY_eq {Q : List G → Prop} {c : List G → List G → Int} (hz : Int) (dn : Bool) (hE : ∀ x, Q x → gEta KSpot x = x) (hC : ∀ x y, Q x → Q y → F_band_way_3 [.i hz, .t dn, .l [x], .l [y]] = some [.i hz, .t dn, .i (c x y)]) (rows : List (List G)) (hr : ∀ y ∈ rows, Q y) (hn : rows.length ≤ 20) : F_srtS_Spot_3 [.l rows, .i hz, .t dn] = some [.l (sortA (ltC c) rows), .i hz, .t dn] := by
 refine Ret.toEq ?_
 unfold F_srtS_Spot_3
 (dsimp +instances only [Aa,Ab,Ac,Ad,Ae,Af,Ag])
 refine Ret.callb (Ret.eq (srtYT hz dn hE hC rows hr hn)) (by (first|rfl|assumption|(simp only [inI,sl]<;>omega))) ?_
 rintro _ rfl
 (dsimp +instances only [Aa,Ab,Ac,Ad,Ae,Af,Ag])
 (repeat first|refine Ret.p ?_|refine Ret.n ?_)
 exact Ret.some rfl
section
variable {b : List (List G)} {life at_ : Int}
end
theorem isModeY (t : Int) : F_kit_IsMode [.i t] = some [.t (inB t 1 3)] := by
 unfold F_kit_IsMode
 (dsimp +instances only [Aa,Ab,Ac,Ad,Ae,Af,Ag])
 rw [outside_eq]
 show some [G.t (!(!inB t 1 3))] = _
 rw [Bool.not_not]
def sgnW (v : Int) : Int := if v < 0 then -1 else if 0 < v then 1 else 0
theorem sgnW_neg (v : Int) : (sgnW v < 0) = (v < 0) := by
 unfold sgnW
 split
 ·rename_i h
  simp [h]
 ·split
  ·rename_i h h'
   simp [h]
  ·rename_i h h'
   simp [h]
def apI (h hz : Int) : Int := if (hz - h) > (h - hz) then (hz - h) else (h - hz)
theorem apI_b {h hz : Int} (h1 : b50 h) (h2 : b50 hz) : 0 ≤ apI h hz ∧ apI h hz ≤ 4000000000000000 := by
 unfold b50 at h1 h2
 unfold apI
 split <;> omega
theorem Spt.hz {s : List G} (h : Spt s) : b50 (gi s 1).int := by
 obtain ⟨t, h, c, y, rfl, _, hh, _⟩ := h
 exact hh
theorem Spt.call {s : List G} (h : Spt s) : (gi s 2).str ∈ calls := by
 obtain ⟨t, h, c, y, rfl, _, _, hc, _⟩ := h
 exact hc
def cW (hz : Int) (x y : List G) : Int := apI (gi x 1).int hz - apI (gi y 1).int hz
theorem far_ok {s : List G} {hz : Int} (hs : Spt s) (h2 : b50 hz) : F_band_Worth_1 [.l [s], .l [[.i hz]]] = some [.i (apI (gi s 1).int hz)] := by
 have h1 := hs.hz
 unfold b50 at h1 h2
 refine Ret.toEq ?_
 unfold F_band_Worth_1 apI
 (dsimp +instances only [Aa,Ab,Ac,Ad,Ae,Af,Ag])
 (repeat first|refine Ret.p ?_|refine Ret.n ?_)
 exact Ret.some rfl
theorem cmpW {hz : Int} (h2 : b50 hz) (x y : List G) (hx : Spt x) (hy : Spt y) : F_band_Worth_2 [.i hz, .l [x], .l [y]] = some [.i hz, .i (cW hz x y)] := by
 have b1 := apI_b hx.hz h2
 have b2 := apI_b hy.hz h2
 refine Ret.toEq ?_
 unfold F_band_Worth_2 cW
 (dsimp +instances only [Aa,Ab,Ac,Ad,Ae,Af,Ag])
 simp only [hx.eta, hy.eta]
 refine Ret.cE (far_ok hx h2) ?_
 (dsimp +instances only [Aa,Ab,Ac,Ad,Ae,Af,Ag])
 refine Ret.cE (far_ok hy h2) ?_
 (dsimp +instances only [Aa,Ab,Ac,Ad,Ae,Af,Ag])
 (repeat first|refine Ret.p ?_|refine Ret.n ?_)
 exact Ret.some rfl
/-! ### Who was worked -/
theorem Con.calls3 {c : List G} (h : Con c) : (gi c 3).str ∈ calls := by
 obtain ⟨t, m, bd, cl, s, hh, x, y, rfl, _, _, _, _, _, hc, _⟩ := h
 exact hc
def wkdB (lg : List (List G)) (at_ mode : Int) (b : List (List G)) (s : List G) : Bool :=
 lg.any fun c => leI (gi c 0).int at_ && ((gi c 1).int == mode && (((gi c 2).str.toList == (bkey (inBand (gi s 1).int) b).toList) && ((baseOf (gi c 3).str).toList == (baseOf (gi s 2).str).toList)))
def worL (b x lg : List (List G)) (mode life at_ hz : Int) : List (List G) := sortA (ltC (cW hz)) ((hsL b life at_ x).filter fun s => !wkdB lg at_ mode b s)
theorem worL_length (b x lg : List (List G)) (mode life at_ hz : Int) : (worL b x lg mode life at_ hz).length ≤ x.length := by
 unfold worL
 rw [sortA_length]
 exact Nat.le_trans (List.length_filter_le _ _) (hsL_length x)
def logF (b x lg : List (List G)) (mode life at_ hz : Int) : Int :=
 firstE [firstE [faultBands b, faultSpots x], faultLog lg, bif inB mode 1 3 then 0 else 4, faultAsked life at_ hz]
theorem done_loop (b x lg : List (List G)) (mode life at_ hz : Int) (hlg : ∀ z ∈ lg, Con z) (hn : lg.length ≤ 2000) :
  RetL st_band_Worth_14 [.i hz, .l [], .i 0, .l b, .l x, .i mode, .i life, .i at_, .l lg, .i (lg.length : Int), .i 0] fun c g => c = 0 ∧ ∃ (mm : List (List G)) (ck : Nat), g = [.i hz, .l mm, .i (ck : Int), .l b, .l x, .i life, .i at_] ∧
   ∀ k, (gi (mget [Kd.str, .str] mm k [.t false]) 0).bool = lg.any fun c => leI (gi c 0).int at_ && ((gi c 1).int == mode && rowEq [Kd.str, .str] k [.s (baseOf (gi c 3).str), .s (gi c 2).str]) := by
 have r := range_all (st := st_band_Worth_14) (σ := List (List G) × Nat) (fun s i => [.i hz, .l s.1, .i (s.2 : Int), .l b, .l x, .i mode, .i life, .i at_, .l lg, .i (lg.length : Int), .i (i : Int)]) lg (fun s => (0, [.i hz, .l s.1, .i (s.2 : Int), .l b, .l x, .i life, .i at_]))
  (fun s i => ∀ k, (gi (mget [Kd.str, .str] s.1 k [.t false]) 0).bool = (lg.take i).any fun c => leI (gi c 0).int at_ && ((gi c 1).int == mode && rowEq [Kd.str, .str] k [.s (baseOf (gi c 3).str), .s (gi c 2).str])) ([], 0) (by omega) (fun k => by simp [mget_nil, gi, G.bool])
  (fun s i c hI hi hx hm ht => by
   have hC := hlg c hm
   unfold st_band_Worth_14
   (dsimp +instances only [Aa,Ab,Ac,Ad,Ae,Af,Ag])
   simp only [Int.toNat_natCast, hx]
   refine Ret.p (Ret.p ?_)
   refine Ret.test (fun q1 => ?_) fun q1 => ?_
   ·refine Ret.test (fun q2 => ?_) fun q2 => ?_
    ·refine Ret.call (Ret.eq (base_eq hC.calls3)) ?_
     rintro _ rfl
     (dsimp +instances only [Aa,Ab,Ac,Ad,Ae,Af,Ag])
     (repeat first|refine Ret.p ?_|refine Ret.n ?_)
     refine Ret.some ⟨(mput [Kd.str, .str] s.1 [.s (baseOf (gi c 3).str), .s (gi c 2).str] [.t true] s.2, mclk [Kd.str, .str] s.1 [.s (baseOf (gi c 3).str), .s (gi c 2).str] s.2), by simp, fun k => ?_⟩
     rw [mget_mput, ht, List.any_append, ← hI k]
     have e : ([c].any fun c => leI (gi c 0).int at_ && ((gi c 1).int == mode && rowEq [Kd.str, .str] k [.s (baseOf (gi c 3).str), .s (gi c 2).str])) = rowEq [Kd.str, .str] k [.s (baseOf (gi c 3).str), .s (gi c 2).str] := by
      simp only [List.any_cons, List.any_nil, q1, q2, Bool.true_and, Bool.or_false]
     rw [e]
     cases rowEq [Kd.str, .str] k [.s (baseOf (gi c 3).str), .s (gi c 2).str] <;> simp [gi, G.bool]
    ·(repeat first|refine Ret.p ?_|refine Ret.n ?_)
     refine Ret.some ⟨s, by simp, fun k => ?_⟩
     rw [ht, List.any_append, ← hI k]
     simp [q1, q2]
   ·(repeat first|refine Ret.p ?_|refine Ret.n ?_)
    refine Ret.some ⟨s, by simp, fun k => ?_⟩
    rw [ht, List.any_append, ← hI k]
    simp [q1])
  (fun s hI => by
   unfold st_band_Worth_14
   (dsimp +instances only [Aa,Ab,Ac,Ad,Ae,Af,Ag])
   simp only [Int.toNat_natCast]
   (repeat first|refine Ret.p ?_|refine Ret.n ?_)
   exact Ret.some rfl)
 refine RetL.mono r ?_
 rintro c g ⟨⟨mm, ck⟩, hI, rfl, rfl⟩
 exact ⟨rfl, mm, ck, rfl, fun k => by simpa using hI k⟩
theorem pick_loop (b hs lg mm : List (List G)) (ck : Nat) (mode at_ hz : Int) (hbn : b.length ≤ 1000) (ho : ∀ o ∈ hs, Spt o ∧ ∃ k : Nat, bix (inBand (gi o 1).int) b = (k : Int) ∧ k < b.length) (hn : hs.length ≤ 2000)
  (hM : ∀ k, (gi (mget [Kd.str, .str] mm k [.t false]) 0).bool = lg.any fun c => leI (gi c 0).int at_ && ((gi c 1).int == mode && rowEq [Kd.str, .str] k [.s (baseOf (gi c 3).str), .s (gi c 2).str])) :
  RetL st_band_Worth_22 [.i hz, .l mm, .i (ck : Int), .l [], .l b, .l (ixL b hs), .l hs, .i (hs.length : Int), .i 0] fun c g => c = 0 ∧ g = [.i hz, .l (hs.filter fun s => !wkdB lg at_ mode b s)] := by
 have r := range_all (st := st_band_Worth_22) (σ := Unit) (fun _ i => [.i hz, .l mm, .i (ck : Int), .l ((hs.take i).filter fun s => !wkdB lg at_ mode b s), .l b, .l (ixL b hs), .l hs, .i (hs.length : Int), .i (i : Int)]) hs (fun _ => (0, [.i hz, .l (hs.filter fun s => !wkdB lg at_ mode b s)]))
  (fun _ _ => True) () (by omega) trivial
  (fun _ i x _ hi hx hm ht => by
   obtain ⟨hX, k, hk, hkb⟩ := ho x hm
   have hxl : (ixL b hs).length = hs.length := by simp [ixL]
   have hix : (ixL b hs).getD i [] = [.i (k : Int)] := by
    have hx' : hs[i] = x := by rw [← hx, List.getD_eq_getElem?_getD, List.getElem?_eq_getElem hi]; rfl
    simp [ixL, List.getD_eq_getElem?_getD, hi, hx', hk]
   have hkey : (gi (b.getD k []) 0).str = bkey (inBand (gi x 1).int) b := by
    rcases bix_at (p := inBand (gi x 1).int) b with ⟨k1, _⟩ | ⟨j, k1, k2, k3, _⟩
    ·rw [k1] at hk
     omega
    ·have : j = k := by omega
     rw [← this]
     exact k3.symm
   have hfl := List.length_filter_le (fun s => !wkdB lg at_ mode b s) (hs.take i)
   have htl : (hs.take i).length ≤ 2000 := by rw [List.length_take]; omega
   have hw : (gi (mget [Kd.str, .str] mm [.s (baseOf (gi x 2).str), .s (bkey (inBand (gi x 1).int) b)] [.t false]) 0).bool = wkdB lg at_ mode b x := by
    rw [hM]
    unfold wkdB
    congr 1
    funext c
    have er : rowEq [Kd.str, .str] [.s (baseOf (gi x 2).str), .s (bkey (inBand (gi x 1).int) b)] [.s (baseOf (gi c 3).str), .s (gi c 2).str] = ((baseOf (gi x 2).str).toList == (baseOf (gi c 3).str).toList && ((bkey (inBand (gi x 1).int) b).toList == (gi c 2).str.toList && true)) := rfl
    rw [er, Bool.and_true, beq_swap (baseOf (gi x 2).str).toList, beq_swap (bkey (inBand (gi x 1).int) b).toList, Bool.and_comm ((baseOf (gi c 3).str).toList == _)]
   have ef : (hs.take (i + 1)).filter (fun s => !wkdB lg at_ mode b s) = (hs.take i).filter (fun s => !wkdB lg at_ mode b s) ++ bif !wkdB lg at_ mode b x then [x] else [] := by
    rw [ht, List.filter_append]
    cases hw2 : wkdB lg at_ mode b x with
    | true => simp [hw2]
    | false => simp [hw2]
   unfold st_band_Worth_22
   (dsimp +instances only [Aa,Ab,Ac,Ad,Ae,Af,Ag])
   simp only [Int.toNat_natCast, hx, hX.eta]
   refine Ret.p (Ret.p ?_)
   refine Ret.cE (base_eq hX.call) ?_
   (dsimp +instances only [Aa,Ab,Ac,Ad,Ae,Af,Ag])
   simp only [hix]
   (dsimp +instances only [Aa,Ab,Ac,Ad,Ae,Af,Ag])
   simp only [Int.toNat_natCast, hkey]
   rw [hw, hxl]
   (repeat first|refine Ret.p ?_|refine Ret.n ?_)
   refine Ret.test (fun q => ?_) fun q => ?_
   ·rw [q, cond_true] at ef
    rw [← ef]
    (repeat first|refine Ret.p ?_|refine Ret.n ?_)
    exact Ret.some ⟨(), by simp, trivial⟩
   ·rw [q, cond_false, List.append_nil] at ef
    rw [← ef]
    (repeat first|refine Ret.p ?_|refine Ret.n ?_)
    exact Ret.some ⟨(), by simp, trivial⟩)
  (fun _ _ => by
   have hfl := List.length_filter_le (fun s => !wkdB lg at_ mode b s) hs
   unfold st_band_Worth_22
   (dsimp +instances only [Aa,Ab,Ac,Ad,Ae,Af,Ag])
   simp only [List.take_length]
   (repeat first|refine Ret.p ?_|refine Ret.n ?_)
   exact Ret.some rfl)
 refine RetL.mono r ?_
 rintro c g ⟨_, _, rfl, rfl⟩
 exact ⟨rfl, rfl⟩
theorem onB_worth {b l : List (List G)} {life at_ : Int} (hl : ∀ z ∈ l, Spt z) : ∀ o ∈ hsL b life at_ l, Spt o ∧ ∃ k : Nat, bix (inBand (gi o 1).int) b = (k : Int) ∧ k < b.length := by
 intro o ho
 obtain ⟨h1, h2⟩ := hsL_mem ho
 refine ⟨hl o h1, ?_⟩
 have h3 : leI 0 (bix (inBand (gi o 1).int) b) = true := by
  simp only [cntS, Bool.and_eq_true] at h2
  exact h2.2.2
 rcases bix_at (p := inBand (gi o 1).int) b with ⟨k1, _⟩ | ⟨i, k1, k2, _⟩
 ·rw [k1] at h3
  simp [leI_eq] at h3
 ·exact ⟨i, k1, k2⟩
theorem firstTwo (x y : Int) : (if x ≠ 0 then x else y) = firstE [x, y] := by
 rw [fE_cons, fE_cons, fE_nil]
 by_cases h : y = 0 <;> simp [h]
theorem worth_ok (b x lg : List (List G)) (mode life at_ hz : Int) (hb : ∀ z ∈ b, Bnd z) (hbn : b.length ≤ 20) (hl : ∀ z ∈ x, Spt z) (hn : x.length ≤ 20) (hlg : ∀ z ∈ lg, Con z) (hlgn : lg.length ≤ 2000) (h1 : b50 life) (h2 : b50 at_) (h3 : b50 hz) :
  F_band_Worth [.l b, .l x, .l lg, .i mode, .i life, .i at_, .i hz] = some [.l (bif logF b x lg mode life at_ hz == 0 then worL b x lg mode life at_ hz else []), .i (logF b x lg mode life at_ hz)] := by
 refine Ret.toEq ?_
 unfold F_band_Worth
 (dsimp +instances only [Aa,Ab,Ac,Ad,Ae,Af,Ag])
 have hF : logF b x lg mode life at_ hz = if firstE [faultBands b, faultSpots x] ≠ 0 then firstE [faultBands b, faultSpots x] else if faultLog lg ≠ 0 then faultLog lg else if (bif inB mode 1 3 then (0 : Int) else 4) ≠ 0 then (bif inB mode 1 3 then (0 : Int) else 4) else faultAsked life at_ hz := by
  have key : ∀ a c d e : Int, firstE [a, c, d, e] = if a ≠ 0 then a else if c ≠ 0 then c else if d ≠ 0 then d else e := by
   intro a c d e
   rw [fE_cons, fE_cons, fE_cons, fE_cons, fE_nil]
   by_cases h : e = 0 <;> simp [h]
  exact key _ _ _ _
 have lo := lists_ok b x hb hl
 rw [firstTwo] at lo
 refine Ret.cE lo ?_
 (dsimp +instances only [Aa,Ab,Ac,Ad,Ae,Af,Ag])
 refine Ret.test (fun h => ?_) fun h => ?_
 ·have h : firstE [faultBands b, faultSpots x] ≠ 0 := by simpa using h
  rw [if_pos h] at hF
  have e2 : (firstE [faultBands b, faultSpots x] == 0) = false := by simpa using h
  rw [hF, e2]
  exact Ret.some rfl
 have h : ¬ firstE [faultBands b, faultSpots x] ≠ 0 := by simpa using h
 rw [if_neg h] at hF
 refine Ret.cE (checkLog_eq lg hlg (by omega)) ?_
 (dsimp +instances only [Aa,Ab,Ac,Ad,Ae,Af,Ag])
 refine Ret.test (fun h => ?_) fun h => ?_
 ·have h : faultLog lg ≠ 0 := by simpa using h
  rw [if_pos h] at hF
  have e2 : (faultLog lg == 0) = false := by simpa using h
  rw [hF, e2]
  exact Ret.some rfl
 have h : ¬ faultLog lg ≠ 0 := by simpa using h
 rw [if_neg h] at hF
 refine Ret.cE (isModeY mode) ?_
 (dsimp +instances only [Aa,Ab,Ac,Ad,Ae,Af,Ag])
 refine Ret.test (fun h => ?_) fun h => ?_
 ·have h : inB mode 1 3 = false := by simpa using h
  rw [h] at hF
  rw [show logF b x lg mode life at_ hz = 4 from hF]
  exact Ret.some rfl
 have h : inB mode 1 3 = true := by simpa using h
 rw [h] at hF
 have hF : logF b x lg mode life at_ hz = faultAsked life at_ hz := hF
 refine Ret.cE (asked_ok life at_ hz) ?_
 (dsimp +instances only [Aa,Ab,Ac,Ad,Ae,Af,Ag])
 refine Ret.test (fun h => ?_) fun h => ?_
 ·have h : faultAsked life at_ hz ≠ 0 := by simpa using h
  have e2 : (faultAsked life at_ hz == 0) = false := by simpa using h
  rw [hF, e2]
  exact Ret.some rfl
 have h : faultAsked life at_ hz = 0 := by simpa using h
 rw [hF, h]
 refine Ret.loop (done_loop b x lg mode life at_ hz hlg hlgn) rfl ?_
 rintro _ _ ⟨rfl, mm, ck, rfl, hM⟩
 (dsimp +instances only [Aa,Ab,Ac,Ad,Ae,Af,Ag])
 refine Ret.cE (heard_ok b x life at_ hb (by omega) hl (by omega) h1 h2) ?_
 have hlen := hsL_length (b := b) (life := life) (at_ := at_) x
 have hon := onB_worth (b := b) (life := life) (at_ := at_) hl
 (dsimp +instances only [Aa,Ab,Ac,Ad,Ae,Af,Ag])
 simp only [Int.toNat_natCast]
 refine Ret.loop (pick_loop b _ lg mm ck mode at_ hz (by omega) hon (by omega) hM) rfl ?_
 rintro _ _ ⟨rfl, rfl⟩
 (dsimp +instances only [Aa,Ab,Ac,Ad,Ae,Af,Ag])
 have hfl := List.length_filter_le (fun s => !wkdB lg at_ mode b s) (hsL b life at_ x)
 have hS : ∀ z ∈ (hsL b life at_ x).filter (fun s => !wkdB lg at_ mode b s), Spt z := fun z hz => hl z (hsL_mem (List.mem_filter.1 hz).1).1
 have hwl := worL_length b x lg mode life at_ hz
 have hww : (worL b x lg mode life at_ hz).length = ((hsL b life at_ x).filter (fun s => !wkdB lg at_ mode b s)).length := by
  unfold worL
  rw [sortA_length]
 refine Ret.callb (P := fun g => g = [.l (worL b x lg mode life at_ hz), .i hz]) (Ret.eq (srtW_eq hz (Q := Spt) (c := cW hz) (fun _ h => h.eta) (cmpW h3) _ hS (by omega))) (by (first|rfl|assumption|(simp only [inI,sl]<;>omega))) ?_
 rintro _ rfl
 (dsimp +instances only [Aa,Ab,Ac,Ad,Ae,Af,Ag])
 rw [hww]
 refine Ret.p (Ret.some rfl)
/-! ### Sorting and sifting -/
theorem insA_sift {α : Type} {lt : α → α → Bool} {S : α → Prop} (hL : Lin lt S) (p : α → Bool) {x : α} (hx : S x) : ∀ {q : List α}, (∀ y ∈ q, S y) → q.Pairwise (fun a b => lt a b = false) → (insA lt x q).filter p = bif p x then insA lt x (q.filter p) else q.filter p
 | [], _, _ => by
  cases h : p x <;> simp [insA, h]
 | y :: q, hq, hp => by
  obtain ⟨h1, h2⟩ := List.pairwise_cons.1 hp
  have hy := hq y List.mem_cons_self
  have hq' : ∀ z ∈ q, S z := fun z hz => hq z (List.mem_cons_of_mem _ hz)
  simp only [insA]
  cases hxy : lt x y with
  | true =>
   have ih := insA_sift hL p hx hq' h2
   simp only [cond_true]
   cases hpy : p y with
   | true =>
    rw [List.filter_cons_of_pos hpy, List.filter_cons_of_pos hpy, ih]
    cases p x with
    | true => simp only [cond_true, insA, hxy]
    | false => simp only [cond_false]
   | false => rw [List.filter_cons_of_neg (by simp [hpy]), List.filter_cons_of_neg (by simp [hpy]), ih]
  | false =>
   simp only [cond_false]
   cases hpx : p x with
   | true =>
    rw [List.filter_cons_of_pos hpx]
    simp only [cond_true]
    cases he : (y :: q).filter p with
    | nil => rfl
    | cons z t =>
     have hz : z ∈ (y :: q).filter p := by rw [he]; exact List.mem_cons_self
     have hz := (List.mem_filter.1 hz).1
     have : lt x z = false := by
      rcases List.mem_cons.1 hz with rfl | hz
      ·exact hxy
      ·exact hL.tr x y z hx hy (hq' z hz) hxy (h1 z hz)
     simp only [insA, this, cond_false]
   | false =>
    rw [List.filter_cons_of_neg (by simp [hpx])]
    simp only [cond_false]
theorem insAll_sift {α : Type} {lt : α → α → Bool} {S : α → Prop} (hL : Lin lt S) (p : α → Bool) : ∀ {r q : List α}, (∀ y ∈ q, S y) → (∀ y ∈ r, S y) → q.Pairwise (fun a b => lt a b = false) → (insAll lt q r).filter p = insAll lt (q.filter p) (r.filter p)
 | [], q, _, _, _ => by simp [insAll]
 | x :: r, q, hq, hr, hp => by
  have hx := hr x List.mem_cons_self
  have hi : ∀ y ∈ insA lt x q, S y := insA_all hx hq
  simp only [insAll]
  rw [insAll_sift hL p hi (fun y hy => hr y (List.mem_cons_of_mem _ hy)) (insA_desc hL hx hq hp), insA_sift hL p hx hq hp]
  cases hpx : p x with
  | true => rw [List.filter_cons_of_pos hpx]; simp only [cond_true, insAll]
  | false => rw [List.filter_cons_of_neg (by simp [hpx])]; simp only [cond_false]
theorem sortA_sift {α : Type} {lt : α → α → Bool} {S : α → Prop} (hL : Lin lt S) (p : α → Bool) {l : List α} (hl : ∀ y ∈ l, S y) : (sortA lt l).filter p = sortA lt (l.filter p) := by
 unfold sortA
 rw [List.filter_reverse, insAll_sift hL p (by simp) hl List.Pairwise.nil]
 rfl
theorem insA_same {α : Type} {lt lu : α → α → Bool} (x : α) : ∀ {p : List α}, (∀ y ∈ p, lt x y = lu x y) → insA lt x p = insA lu x p
 | [], _ => rfl
 | y :: p, h => by simp only [insA, h y List.mem_cons_self, insA_same x fun z hz => h z (List.mem_cons_of_mem _ hz)]
theorem insAll_same {α : Type} {lt lu : α → α → Bool} {S : α → Prop} (h : ∀ x y, S x → S y → lt x y = lu x y) : ∀ {r p : List α}, (∀ y ∈ p, S y) → (∀ y ∈ r, S y) → insAll lt p r = insAll lu p r
 | [], _, _, _ => rfl
 | x :: r, p, hp, hr => by
  have hx := hr x List.mem_cons_self
  simp only [insAll, insA_same x fun y hy => h x y hx (hp y hy)]
  exact insAll_same h (insA_all hx hp) fun y hy => hr y (List.mem_cons_of_mem _ hy)
theorem sortA_same {α : Type} {lt lu : α → α → Bool} {S : α → Prop} (h : ∀ x y, S x → S y → lt x y = lu x y) {l : List α} (hl : ∀ y ∈ l, S y) : sortA lt l = sortA lu l := by
 unfold sortA
 rw [insAll_same h (by simp) hl]
theorem sift_split {α : Type} {p : α → Bool} : ∀ {l : List α}, l.Pairwise (fun a b => p b = true → p a = true) → l = l.filter p ++ l.filter fun x => !p x
 | [], _ => rfl
 | x :: l, h => by
  obtain ⟨h1, h2⟩ := List.pairwise_cons.1 h
  have ih := sift_split h2
  cases hx : p x with
  | true =>
   rw [List.filter_cons_of_pos hx, List.filter_cons_of_neg (by simp [hx]), List.cons_append, ← ih]
  | false =>
   have hn : ∀ y ∈ l, p y = false := fun y hy => by
    cases hy2 : p y with
    | false => rfl
    | true => rw [h1 y hy hy2] at hx; cases hx
   have e1 : (x :: l).filter p = [] := List.filter_eq_nil_iff.2 fun y hy => by
    rcases List.mem_cons.1 hy with rfl | hy
    ·simp [hx]
    ·simp [hn y hy]
   have e2 : ((x :: l).filter fun x => !p x) = x :: l := List.filter_eq_self.2 fun y hy => by
    rcases List.mem_cons.1 hy with rfl | hy
    ·simp [hx]
    ·simp [hn y hy]
   rw [e1, e2, List.nil_append]
/-! ### Sides -/
def kp (w hz p : Int) : Int := w * (p - hz)
def kS (w hz : Int) (s : List G) : Int := kp w hz (gi s 1).int
def onS (w hz : Int) (s : List G) : Bool := leI 0 (kS w hz s)
def cY (w hz : Int) (x y : List G) : Int := if onS w hz x ≠ onS w hz y then (if onS w hz x = true then -1 else 1) else apI (gi x 1).int hz - apI (gi y 1).int hz
def cU (w : Int) (x y : List G) : Int := w * sgnW ((gi x 1).int - (gi y 1).int)
def wD (dn : Bool) : Int := bif dn then -1 else 1
theorem wD_pm (dn : Bool) : wD dn = 1 ∨ wD dn = -1 := by cases dn <;> simp [wD]
def callR (s : List G) : List G := [.s (gi s 2).str]
theorem apI_k {w hz p : Int} (hw : w = 1 ∨ w = -1) : (0 ≤ kp w hz p → apI p hz = kp w hz p) ∧ (kp w hz p < 0 → apI p hz = - kp w hz p) := by
 unfold kp apI
 rcases hw with rfl | rfl
 ·constructor
  ·intro h
   split <;> omega
  ·intro h
   split <;> omega
 ·constructor
  ·intro h
   split <;> omega
  ·intro h
   split <;> omega
theorem linY {w hz : Int} : Lin (ltC (cY w hz)) (fun _ => True) := by
 refine lin_of (fun a b => ?_) fun a b d h1 h2 => ?_
 ·unfold cY
  cases h1 : onS w hz a <;> cases h2 : onS w hz b <;> simp <;> omega
 ·unfold cY at *
  cases k1 : onS w hz a <;> cases k2 : onS w hz b <;> cases k3 : onS w hz d <;> simp [k1, k2, k3] at h1 h2 ⊢ <;> omega
def grpA (w hz : Int) (hs : List (List G)) : List (List G) := sortA (ltC (cU w)) (hs.filter fun s => onS w hz s)
def grpB (w hz : Int) (hs : List (List G)) : List (List G) := sortA (ltC (cU (-w))) (hs.filter fun s => !onS w hz s)
theorem sgnW_pos (v : Int) : (0 < sgnW v) = (0 < v) := by
 unfold sgnW
 split
 ·rename_i h
  rw [eq_iff_iff]
  omega
 ·split
  ·rename_i h h'
   rw [eq_iff_iff]
   omega
  ·rename_i h h'
   rw [eq_iff_iff]
   omega
theorem cU_neg {w : Int} (hw : w = 1 ∨ w = -1) (x y : List G) : cU w x y < 0 ↔ w * ((gi x 1).int - (gi y 1).int) < 0 := by
 unfold cU
 have h1 := sgnW_neg ((gi x 1).int - (gi y 1).int)
 have h2 := sgnW_pos ((gi x 1).int - (gi y 1).int)
 rw [eq_iff_iff] at h1 h2
 rcases hw with rfl | rfl
 ·omega
 ·omega
theorem way_split {w hz : Int} (hw : w = 1 ∨ w = -1) (hs : List (List G)) : sortA (ltC (cY w hz)) hs = grpA w hz hs ++ grpB w hz hs := by
 have hS := sortA_sorted (linY (w := w) (hz := hz)) (l := hs) (fun _ _ => trivial)
 have hP : (sortA (ltC (cY w hz)) hs).Pairwise (fun a b => onS w hz b = true → onS w hz a = true) := hS.imp fun {a b} h hb => by
  unfold ltC at h
  rw [ltI_eq, decide_eq_false_iff_not] at h
  unfold cY at h
  cases ha : onS w hz a with
  | true => rfl
  | false =>
   rw [hb, ha] at h
   simp at h
 have key := sift_split hP
 rw [sortA_sift linY _ (fun _ _ => trivial), sortA_sift linY _ (fun _ _ => trivial)] at key
 rw [key]
 have e1 : sortA (ltC (cY w hz)) (hs.filter fun s => onS w hz s) = grpA w hz hs := sortA_same (S := fun s => onS w hz s = true) (fun x y hx hy => by
  unfold ltC
  rw [ltI_eq, ltI_eq]
  have hU := cU_neg hw x y
  have hx' := hx
  have hy' := hy
  unfold onS kS at hx' hy'
  simp only [leI_eq, decide_eq_true_eq] at hx' hy'
  have ax := (apI_k hw).1 hx'
  have ay := (apI_k hw).1 hy'
  unfold cY
  rw [hx, hy, if_neg (by simp), ax, ay]
  congr 1
  rw [eq_iff_iff, hU]
  unfold kp
  rcases hw with rfl | rfl <;> omega) (fun y hy => (List.mem_filter.1 hy).2)
 have e2 : sortA (ltC (cY w hz)) (hs.filter fun s => !onS w hz s) = grpB w hz hs := sortA_same (S := fun s => onS w hz s = false) (fun x y hx hy => by
  unfold ltC
  rw [ltI_eq, ltI_eq]
  have hU := cU_neg (w := -w) (by omega) x y
  have hx' := hx
  have hy' := hy
  unfold onS kS at hx' hy'
  simp only [leI_eq, decide_eq_false_iff_not, Int.not_le] at hx' hy'
  have ax := (apI_k hw).2 hx'
  have ay := (apI_k hw).2 hy'
  unfold cY
  rw [hx, hy, if_neg (by simp), ax, ay]
  congr 1
  rw [eq_iff_iff, hU]
  unfold kp
  rcases hw with rfl | rfl <;> omega) (fun y hy => by simpa using (List.mem_filter.1 hy).2)
 rw [e1, e2]
/-! ### The program's way -/
theorem cloneT_ok (a : List (List G)) (h : a.length ≤ 1048576) : F_sl_Clone_Spot_f [.l a] = some [.l a] := by
 unfold F_sl_Clone_Spot_f F_sl_Clone_Spot_f_0
 (dsimp +instances only [Aa,Ab,Ac,Ad,Ae,Af,Ag])
 cases a with
 | nil => rfl
 | cons x q =>
  refine Ret.toEq (Ret.pos (by simp [Nat.blt_eq]) ?_)
  refine Ret.pos (by simp [Nat.blt_eq]) ?_
  (repeat first|refine Ret.p ?_|refine Ret.n ?_)
  exact Ret.some rfl
theorem first_ok {s : List G} (hz : Int) (dn : Bool) : F_band_way_1 [.l [s], .l [[.i hz]], .l [[.t dn]]] = some [.t (onS (wD dn) hz s)] := by
 refine Ret.toEq ?_
 unfold F_band_way_1 onS kS kp
 (dsimp +instances only [Aa,Ab,Ac,Ad,Ae,Af,Ag])
 refine Ret.test (fun h => ?_) fun h => ?_
 ·have h : (gi s 1).int = hz := by simpa using h
  rw [h]
  refine Ret.some ?_
  simp [leI_eq]
 ·have h : (gi s 1).int ≠ hz := by simpa using h
  refine Ret.some ?_
  congr 2
  rw [Bool.eq_iff_iff]
  cases dn with
  | true =>
   simp only [ltI_eq, leI_eq, wD, cond_true, beq_iff_eq, decide_eq_true_eq]
   omega
  | false =>
   simp only [ltI_eq, leI_eq, wD, cond_false, beq_iff_eq, decide_eq_true_eq, decide_eq_false_iff_not]
   omega
theorem far2_ok {s : List G} {hz : Int} (hs : Spt s) (h2 : b50 hz) : F_band_way_2 [.l [s], .l [[.i hz]]] = some [.i (apI (gi s 1).int hz)] := by
 have h1 := hs.hz
 unfold b50 at h1 h2
 refine Ret.toEq ?_
 unfold F_band_way_2 apI
 (dsimp +instances only [Aa,Ab,Ac,Ad,Ae,Af,Ag])
 (repeat first|refine Ret.p ?_|refine Ret.n ?_)
 exact Ret.some rfl
theorem cmpY {hz : Int} (dn : Bool) (h2 : b50 hz) (x y : List G) (hx : Spt x) (hy : Spt y) : F_band_way_3 [.i hz, .t dn, .l [x], .l [y]] = some [.i hz, .t dn, .i (cY (wD dn) hz x y)] := by
 have b1 := apI_b hx.hz h2
 have b2 := apI_b hy.hz h2
 refine Ret.toEq ?_
 unfold F_band_way_3 cY
 (dsimp +instances only [Aa,Ab,Ac,Ad,Ae,Af,Ag])
 simp only [hx.eta, hy.eta]
 refine Ret.cE (first_ok hz dn) ?_
 refine Ret.cE (first_ok hz dn) ?_
 (dsimp +instances only [Aa,Ab,Ac,Ad,Ae,Af,Ag])
 cases k1 : onS (wD dn) hz x <;> cases k2 : onS (wD dn) hz y
 ·refine Ret.neg (by rfl) ?_
  rw [if_neg (by simp)]
  refine Ret.cE (far2_ok hx h2) ?_
  refine Ret.cE (far2_ok hy h2) ?_
  (dsimp +instances only [Aa,Ab,Ac,Ad,Ae,Af,Ag])
  (repeat first|refine Ret.p ?_|refine Ret.n ?_)
  exact Ret.some rfl
 ·exact Ret.pos rfl (Ret.neg rfl (Ret.some (by simp)))
 ·exact Ret.pos rfl (Ret.pos rfl (Ret.some (by simp)))
 ·refine Ret.neg (by rfl) ?_
  rw [if_neg (by simp)]
  refine Ret.cE (far2_ok hx h2) ?_
  refine Ret.cE (far2_ok hy h2) ?_
  (dsimp +instances only [Aa,Ab,Ac,Ad,Ae,Af,Ag])
  (repeat first|refine Ret.p ?_|refine Ret.n ?_)
  exact Ret.some rfl
theorem way_calls (rows : List (List G)) (hn : rows.length ≤ 1000) : RetL st_band_way_7 [.l [], .l rows, .i (rows.length : Int), .i 0] fun c g => c = 0 ∧ g = [.l (rows.map callR)] := by
 have r := range_all (st := st_band_way_7) (σ := Unit) (fun _ i => [.l ((rows.take i).map callR), .l rows, .i (rows.length : Int), .i (i : Int)]) rows (fun _ => (0, [.l (rows.map callR)]))
  (fun _ _ => True) () (by omega) trivial
  (fun _ i x _ hi hx hm ht => by
   have hl : ((rows.take i).map callR).length ≤ 1000 := by rw [List.length_map, List.length_take]; omega
   have e : (rows.take (i + 1)).map callR = (rows.take i).map callR ++ [[.s (gi x 2).str]] := by
    rw [ht, List.map_append]
    rfl
   unfold st_band_way_7
   (dsimp +instances only [Aa,Ab,Ac,Ad,Ae,Af,Ag])
   simp only [Int.toNat_natCast, Nat.zero_add, hx]
   rw [← e]
   have hl2 : ((rows.take (i + 1)).map callR).length ≤ 1000 := by rw [List.length_map, List.length_take]; omega
   (repeat first|refine Ret.p ?_|refine Ret.n ?_)
   exact Ret.some ⟨(), by simp, trivial⟩)
  (fun _ _ => by
   have hl : (rows.map callR).length ≤ 1000 := by rw [List.length_map]; omega
   unfold st_band_way_7
   (dsimp +instances only [Aa,Ab,Ac,Ad,Ae,Af,Ag])
   simp only [List.take_length]
   (repeat first|refine Ret.p ?_|refine Ret.n ?_)
   exact Ret.some rfl)
 refine RetL.mono r ?_
 rintro c g ⟨_, _, rfl, rfl⟩
 exact ⟨rfl, rfl⟩
theorem way_ok (hs : List (List G)) (hz : Int) (dn : Bool) (hS : ∀ z ∈ hs, Spt z) (hn : hs.length ≤ 20) (h2 : b50 hz) :
  F_band_way [.l hs, .i hz, .t dn] = some [.l ((grpA (wD dn) hz hs ++ grpB (wD dn) hz hs).map callR)] := by
 refine Ret.toEq ?_
 unfold F_band_way
 (dsimp +instances only [Aa,Ab,Ac,Ad,Ae,Af,Ag])
 refine Ret.cE (cloneT_ok hs (by omega)) ?_
 (dsimp +instances only [Aa,Ab,Ac,Ad,Ae,Af,Ag])
 have hsl := sortA_length (ltC (cY (wD dn) hz)) hs
 refine Ret.callb (Ret.eq (srtY_eq hz dn (Q := Spt) (c := cY (wD dn) hz) (fun _ h => h.eta) (cmpY dn h2) hs hS hn)) (by (first|rfl|assumption|(simp only [inI,sl]<;>omega))) ?_
 rintro _ rfl
 (dsimp +instances only [Aa,Ab,Ac,Ad,Ae,Af,Ag])
 have hw := way_calls (sortA (ltC (cY (wD dn) hz)) hs) (by omega)
 rw [hsl] at hw
 refine Ret.loop hw (by rw [hsl]; (first|rfl|assumption|(simp only [inI,sl]<;>omega))) ?_
 rintro _ _ ⟨rfl, rfl⟩
 (dsimp +instances only [Aa,Ab,Ac,Ad,Ae,Af,Ag])
 have hl : ((sortA (ltC (cY (wD dn) hz)) hs).map callR).length ≤ 1000 := by rw [List.length_map]; omega
 rw [← way_split (wD_pm dn)]
 (repeat first|refine Ret.p ?_|refine Ret.n ?_)
 exact Ret.some rfl
/-! ### How far it is -/
def isMx (f : List G → Int) (l : List (List G)) (M : Int) : Prop := 0 ≤ M ∧ (∀ s ∈ l, f s ≤ M) ∧ (M = 0 ∨ ∃ s ∈ l, f s = M)
theorem isMx_unique {f : List G → Int} {l : List (List G)} {M N : Int} (h1 : isMx f l M) (h2 : isMx f l N) : M = N := by
 obtain ⟨a1, a2, a3⟩ := h1
 obtain ⟨b1, b2, b3⟩ := h2
 rcases a3 with rfl | ⟨s, hs, rfl⟩ <;> rcases b3 with rfl | ⟨t, ht, rfl⟩
 ·rfl
 ·have := a2 t ht
  omega
 ·have := b2 s hs
  omega
 ·have := a2 t ht
  have := b2 s hs
  omega
theorem isMx_step {f : List G → Int} {l : List (List G)} {M : Int} (h : isMx f l M) (x : List G) : isMx f (l ++ [x]) (if f x > M then f x else M) := by
 obtain ⟨a1, a2, a3⟩ := h
 split
 ·rename_i hx
  refine ⟨by omega, fun s hs => ?_, .inr ⟨x, by simp, rfl⟩⟩
  rcases List.mem_append.1 hs with hs | hs
  ·have := a2 s hs
   omega
  ·simp at hs
   subst hs
   omega
 ·rename_i hx
  refine ⟨a1, fun s hs => ?_, ?_⟩
  ·rcases List.mem_append.1 hs with hs | hs
   ·exact a2 s hs
   ·simp at hs
    subst hs
    omega
  ·rcases a3 with h | ⟨s, hs, h⟩
   ·exact .inl h
   ·exact .inr ⟨s, by simp [hs], h⟩
theorem sweep_loop (hs : List (List G)) (hz : Int) (hS : ∀ z ∈ hs, Spt z) (hn : hs.length ≤ 1000) (h2 : b50 hz) :
  RetL st_band_Sweep_10 [.i hz, .l hs, .i 0, .i 0, .l hs, .i (hs.length : Int), .i 0] fun c g => c = 0 ∧ ∃ bl ab, g = [.i hz, .l hs, .i bl, .i ab] ∧ isMx (kS (-1) hz) hs bl ∧ isMx (kS 1 hz) hs ab := by
 have r := range_all (st := st_band_Sweep_10) (σ := Int × Int) (fun s i => [.i hz, .l hs, .i s.1, .i s.2, .l hs, .i (hs.length : Int), .i (i : Int)]) hs (fun s => (0, [.i hz, .l hs, .i s.1, .i s.2]))
  (fun s i => isMx (kS (-1) hz) (hs.take i) s.1 ∧ isMx (kS 1 hz) (hs.take i) s.2) (0, 0) (by omega) ⟨⟨by omega, by simp, .inl rfl⟩, ⟨by omega, by simp, .inl rfl⟩⟩
  (fun s i x hI hi hx hm ht => by
   have h1 := (hS x hm).hz
   have h2' := h2
   unfold b50 at h1 h2'
   have m1 := isMx_step hI.1 x
   have m2 := isMx_step hI.2 x
   rw [← ht] at m1 m2
   have e1 : kS (-1) hz x = hz - (gi x 1).int := by unfold kS kp; omega
   have e2 : kS 1 hz x = (gi x 1).int - hz := by unfold kS kp; omega
   rw [e1] at m1
   rw [e2] at m2
   unfold st_band_Sweep_10
   (dsimp +instances only [Aa,Ab,Ac,Ad,Ae,Af,Ag])
   simp only [Int.toNat_natCast, hx]
   (repeat first|refine Ret.p ?_|refine Ret.n ?_)
   exact Ret.some ⟨(if hz - (gi x 1).int > s.1 then hz - (gi x 1).int else s.1, if (gi x 1).int - hz > s.2 then (gi x 1).int - hz else s.2), by simp, m1, m2⟩)
  (fun s hI => by
   unfold st_band_Sweep_10
   (dsimp +instances only [Aa,Ab,Ac,Ad,Ae,Af,Ag])
   (repeat first|refine Ret.p ?_|refine Ret.n ?_)
   exact Ret.some rfl)
 refine RetL.mono r ?_
 rintro c g ⟨⟨bl, ab⟩, hI, rfl, rfl⟩
 simp only [List.take_length] at hI
 exact ⟨rfl, bl, ab, rfl, hI.1, hI.2⟩
/-! ### The reference's way -/
/-! ### Both are the same -/
/-! ### Spots that are right -/
theorem right_spots (l : List (List G)) (a n : Int) (ha : 0 ≤ a) (ha1 : a ≤ 100000) (h0 : 0 ≤ n) (h1 : n ≤ 20) :
  Ret (F_mk_RightSpots [.l l, .i a, .i n]) fun g => ∃ b rows, g = [.l l, .i b, .l rows] ∧ a ≤ b ∧ b ≤ a + 2000 ∧ (∀ z ∈ rows, Spt z) ∧ (rows.length : Int) ≤ n ∧ faultSpots rows = 0 := by
 unfold F_mk_RightSpots
 (dsimp +instances only [Aa,Ab,Ac,Ad,Ae,Af,Ag])
 have key : ∀ (k i : Nat) (c : Int), i + k = 5 → a ≤ c → c ≤ a + 400 * (i : Int) → RetN st_mk_RightSpots_2 [.l l, .i c, .i n, .i (i : Int)] (k + 1) fun x g =>
   (x = 0 ∧ ∃ b rows, g = [.l l, .i b, .l rows] ∧ a ≤ b ∧ b ≤ a + 2000 ∧ (∀ z ∈ rows, Spt z) ∧ (rows.length : Int) ≤ n ∧ faultSpots rows = 0) ∨ (x = 1 ∧ ∃ b, g = [.l l, .i b] ∧ a ≤ b ∧ b ≤ a + 2000) := by
  intro k
  induction k with
  | zero =>
   intro i c hi hc hc1
   refine RetN.stop (x := 1) (Ret.toEq ?_) (.inr ⟨rfl, c, rfl, hc, by omega⟩)
   unfold st_mk_RightSpots_2
   (dsimp +instances only [Aa,Ab,Ac,Ad,Ae,Af,Ag])
   exact Ret.n (Ret.some rfl)
  | succ k ih =>
   intro i c hi hc hc1
   have st : Ret (st_mk_RightSpots_2 [.l l, .i c, .i n, .i (i : Int)]) fun o => (∃ b rows, o = (some 0, [.l l, .i b, .l rows]) ∧ a ≤ b ∧ b ≤ a + 2000 ∧ (∀ z ∈ rows, Spt z) ∧ (rows.length : Int) ≤ n ∧ faultSpots rows = 0) ∨
     ∃ b : Int, o = (none, [.l l, .i b, .i n, .i ((i + 1 : Nat) : Int)]) ∧ c ≤ b ∧ b ≤ c + 400 := by
    unfold st_mk_RightSpots_2
    (dsimp +instances only [Aa,Ab,Ac,Ad,Ae,Af,Ag])
    refine Ret.p ?_
    refine Ret.call (r_Spots l c n (by omega) (by omega) h0 h1) ?_
    rintro _ ⟨b, rows, rfl, q1, q2, q3, q4⟩
    (dsimp +instances only [Aa,Ab,Ac,Ad,Ae,Af,Ag])
    refine Ret.cE (spotsFault_ok rows q3) ?_
    (dsimp +instances only [Aa,Ab,Ac,Ad,Ae,Af,Ag])
    refine Ret.test (fun h => ?_) fun h => ?_
    ·exact Ret.some (.inl ⟨b, rows, rfl, by omega, by omega, q3, q4, by simpa using h⟩)
    ·(repeat first|refine Ret.p ?_|refine Ret.n ?_)
     exact Ret.some (.inr ⟨b, by simp, q1, q2⟩)
   obtain ⟨_, h, ⟨b, rows, rfl, q⟩ | ⟨b, rfl, q1, q2⟩⟩ := st
   ·exact RetN.stop h (.inl ⟨rfl, b, rows, rfl, q⟩)
   ·exact RetN.next h (ih (i + 1) b (by omega) (by omega) (by omega))
 refine Ret.loop ((key 5 0 a (by omega) (by omega) (by omega)).to (by omega)) rfl ?_
 rintro x g (⟨rfl, b, rows, rfl, q1, q2, q3, q4, q5⟩ | ⟨rfl, b, rfl, q1, q2⟩)
 ·refine Ret.pos rfl (Ret.some ⟨b, rows, rfl, q1, q2, q3, q4, q5⟩)
 ·refine Ret.neg rfl (Ret.some ⟨b, [], rfl, q1, q2, by simp, by simpa using h0, rfl⟩)
theorem own_sel (f0 f1 f2 f3 : Bool) : faultBands (selB f0 f1 f2 f3) = 0 := by
 cases f0 <;> cases f1 <;> cases f2 <;> cases f3 <;> kernel_rfl
/-! ### Nothing changes -/
/-! ### Sorting strings -/
def cN (x y : List G) : Int := cmpS (gi x 0).str (gi y 0).str
def StrR (r : List G) : Prop := ∃ u : ByteArray, r = [.s u]
theorem less_ok (x y : ByteArray) : F_cmp_Less_string [.s x, .s y] = some [.t (ltI (cmpS x y) 0)] := by
 have hn : ∀ x : ByteArray, F_cmp_isNaN_string [.s x] = some [.t false] := fun x => by
  show some [G.t (!(x.toList == x.toList))] = _
  simp
 refine Ret.toEq ?_
 unfold F_cmp_Less_string
 (dsimp +instances only [Aa,Ab,Ac,Ad,Ae,Af,Ag])
 refine Ret.cE (hn x) ?_
 refine Ret.neg rfl (Ret.some ?_)
 rw [less_eq, ByteArray.toList_eq, ByteArray.toList_eq, ltI_eq]
 rfl
theorem ord4 : ∀ (p q : List (List G)) (x : List G) (b i : Int) (j : Nat), (∀ y ∈ p, StrR y) → StrR x → p.length < 1000000 → j = p.length →
  ∃ m, m ≤ p.length + 1 ∧ Runs st_sl_insertionSortOrdered_string_4 m [.l (p.reverse ++ x :: q), .i 0, .i b, .i i, .i (j : Int)] 0 [.l ((insA (ltC cN) x p).reverse ++ q), .i 0, .i b, .i i]
 | [], q, x, b, i, j, _, _, _, hj => by
  simp only [List.length_nil] at hj
  subst hj
  refine ⟨1, by simp, .stop (Ret.toEq ?_)⟩
  unfold st_sl_insertionSortOrdered_string_4
  (dsimp +instances only [Aa,Ab,Ac,Ad,Ae,Af,Ag])
  refine Ret.n ?_
  (repeat first|refine Ret.p ?_|refine Ret.n ?_)
  exact Ret.some rfl
 | y :: p, q, x, b, i, j, hp, hx, hl, hj => by
  have hy := hp y List.mem_cons_self
  have e1 : (y :: p).reverse ++ x :: q = (p.reverse ++ [y]) ++ x :: q := by simp
  have e2 : (y :: p).reverse ++ x :: q = p.reverse ++ y :: x :: q := by simp
  simp only [List.length_cons] at hl hj
  have g1 : ((y :: p).reverse ++ x :: q).getD (0 + (j : Int).toNat) [] = x := by rw [e1]; exact getD_mid _ _ _ _ _ (by simp [hj])
  have g2 : ((y :: p).reverse ++ x :: q).getD (0 + ((j : Int) - 1).toNat) [] = y := by rw [e2]; exact getD_mid _ _ _ _ _ (by simp [hj])
  have hlen : ((y :: p).reverse ++ x :: q).length = p.length + q.length + 2 := by simp; omega
  have hcmp := less_ok (gi x 0).str (gi y 0).str
  have hlc : ltI (cmpS (gi x 0).str (gi y 0).str) 0 = ltC cN x y := rfl
  rw [hlc] at hcmp
  cases hlt : ltC cN x y with
  | false =>
   rw [hlt] at hcmp
   refine ⟨1, by simp, .stop (Ret.toEq ?_)⟩
   unfold st_sl_insertionSortOrdered_string_4
   (dsimp +instances only [Aa,Ab,Ac,Ad,Ae,Af,Ag])
   simp only [hlen, g1, g2]
   refine Ret.p (Ret.p (Ret.p (Ret.p (Ret.p (Ret.p ?_)))))
   refine Ret.cE hcmp ?_
   (dsimp +instances only [Aa,Ab,Ac,Ad,Ae,Af,Ag])
   refine Ret.neg rfl ?_
   (repeat first|refine Ret.p ?_|refine Ret.n ?_)
   refine Ret.some ?_
   simp [insA, hlt]
  | true =>
   rw [hlt] at hcmp
   obtain ⟨m, hm, hr⟩ := ord4 p (y :: q) x b i (j - 1) (fun z hz => hp z (List.mem_cons_of_mem _ hz)) hx (by omega) (by omega)
   refine ⟨m + 1, by simp; omega, .next (Ret.toEq ?_) (by
    have e : (insA (ltC cN) x (y :: p)).reverse ++ q = (insA (ltC cN) x p).reverse ++ y :: q := by simp [insA, hlt]
    rw [e]; exact hr)⟩
   have s1 : ((y :: p).reverse ++ x :: q).set (0 + (j : Int).toNat) y = p.reverse ++ y :: y :: q := by
    rw [e1, set_mid _ _ _ _ _ (by simp [hj])]; simp
   have s2 : (p.reverse ++ y :: y :: q).set (0 + ((j : Int) - 1).toNat) x = p.reverse ++ x :: y :: q := set_mid _ _ _ _ _ (by simp [hj])
   have g3 : (p.reverse ++ y :: y :: q).getD (0 + ((j : Int) - 1).toNat) [] = y := getD_mid _ _ _ _ _ (by simp [hj])
   have hl2 : (p.reverse ++ y :: y :: q).length = p.length + q.length + 2 := by simp; omega
   have hl3 : (p.reverse ++ x :: y :: q).length = p.length + q.length + 2 := by simp; omega
   obtain ⟨vx, ex⟩ := hx
   obtain ⟨vy, ey⟩ := hy
   have q1 : putG [Kd.str] x 0 [.s (gi y 0).str] = y := by rw [ex, ey]; rfl
   have q2 : putG [Kd.str] y 0 [.s (gi x 0).str] = x := by rw [ex, ey]; rfl
   unfold st_sl_insertionSortOrdered_string_4
   (dsimp +instances only [Aa,Ab,Ac,Ad,Ae,Af,Ag])
   simp only [hlen, g1, g2, q1, q2, s1, g3, s2, hl2, hl3]
   refine Ret.p (Ret.p (Ret.p (Ret.p (Ret.p (Ret.p ?_)))))
   refine Ret.cE hcmp ?_
   (dsimp +instances only [Aa,Ab,Ac,Ad,Ae,Af,Ag])
   refine Ret.pos rfl ?_
   (repeat first|refine Ret.p ?_|refine Ret.n ?_)
   refine Ret.some ?_
   rw [show ((j : Int) - 1) = ((j - 1 : Nat) : Int) from by omega]
theorem ord1 : ∀ (r p : List (List G)) (i n : Nat), (∀ y ∈ p, StrR y) → (∀ y ∈ r, StrR y) → i = p.length → n = p.length + r.length → n < 100000 →
  ∃ m, m ≤ r.length + 1 ∧ Runs st_sl_insertionSortOrdered_string_1 m [.l (p.reverse ++ r), .i 0, .i (n : Int), .i (i : Int)] 0 [.l (insAll (ltC cN) p r).reverse]
 | [], p, i, n, _, _, hi, hn, hs => by
  refine ⟨1, by simp, .stop (Ret.toEq ?_)⟩
  simp only [List.length_nil] at hn
  unfold st_sl_insertionSortOrdered_string_1
  (dsimp +instances only [Aa,Ab,Ac,Ad,Ae,Af,Ag])
  refine Ret.n ?_
  (repeat first|refine Ret.p ?_|refine Ret.n ?_)
  refine Ret.some ?_
  simp [insAll]
 | x :: r, p, i, n, hp, hr, hi, hn, hs => by
  simp only [List.length_cons] at hn
  obtain ⟨m1, hm1, h1⟩ := ord4 p r x (n : Int) (i : Int) i hp (hr x List.mem_cons_self) (by omega) hi
  obtain ⟨m, hm, h2⟩ := ord1 r (insA (ltC cN) x p) (i + 1) n (insA_all (hr x List.mem_cons_self) hp) (fun y hy => hr y (List.mem_cons_of_mem _ hy)) (by rw [insA_length, hi]) (by rw [insA_length]; omega) hs
  refine ⟨m + 1, by simp; omega, .next (Ret.toEq ?_) h2⟩
  unfold st_sl_insertionSortOrdered_string_1
  (dsimp +instances only [Aa,Ab,Ac,Ad,Ae,Af,Ag])
  refine Ret.p (Ret.loop (P := fun x g => g = _) ⟨m1, 0, _, h1, by omega, rfl⟩ (by (first|rfl|assumption|(simp only [inI,sl]<;>omega))) ?_)
  rintro _ _ rfl
  (dsimp +instances only [Aa,Ab,Ac,Ad,Ae,Af,Ag])
  (repeat first|refine Ret.p ?_|refine Ret.n ?_)
  exact Ret.some rfl
theorem ordF (rows : List (List G)) (hr : ∀ y ∈ rows, StrR y) (hn : rows.length < 100000) : F_sl_insertionSortOrdered_string [.l rows, .i 0, .i (rows.length : Int)] = some [.l (sortA (ltC cN) rows)] := by
 refine Ret.toEq ?_
 unfold F_sl_insertionSortOrdered_string
 (dsimp +instances only [Aa,Ab,Ac,Ad,Ae,Af,Ag])
 refine Ret.p ?_
 cases rows with
 | nil =>
  refine Ret.loop (P := fun x g => g = [.l []]) ⟨1, 0, _, .stop (Ret.toEq (?_ : Ret _ (fun g => g = (some 0, [G.l []])))), by omega, rfl⟩ (by (first|rfl|assumption|(simp only [inI,sl]<;>omega))) ?_
  ·unfold st_sl_insertionSortOrdered_string_1
   (dsimp +instances only [Aa,Ab,Ac,Ad,Ae,Af,Ag])
   refine Ret.n ?_
   (repeat first|refine Ret.p ?_|refine Ret.n ?_)
   exact Ret.some rfl
  ·rintro _ _ rfl
   (dsimp +instances only [Aa,Ab,Ac,Ad,Ae,Af,Ag])
   (repeat first|refine Ret.p ?_|refine Ret.n ?_)
   exact Ret.some rfl
 | cons x r =>
  simp only [List.length_cons] at hn
  obtain ⟨m, hm, h⟩ := ord1 r [x] 1 (r.length + 1) (by simpa using hr x List.mem_cons_self) (fun y hy => hr y (List.mem_cons_of_mem _ hy)) rfl (by simp; omega) (by omega)
  refine Ret.loop (P := fun y g => g = _) ⟨m, 0, _, h, by omega, rfl⟩ (by (first|rfl|assumption|(simp only [inI,sl]<;>omega))) ?_
  rintro _ _ rfl
  (dsimp +instances only [Aa,Ab,Ac,Ad,Ae,Af,Ag])
  (repeat first|refine Ret.p ?_|refine Ret.n ?_)
  exact Ret.some rfl
theorem obits : ((List.range 13).all fun n => match F_bits_Len [.i (IntKind.u64.wrap ((n : Nat) : Int))] with
  | some [.i _] => true
  | _ => false) = true := by kernel_rfl
theorem r_obits (n : Nat) (h : n ≤ 12) : Ret (F_bits_Len [.i (IntKind.u64.wrap ((n : Nat) : Int))]) fun g => ∃ v, g = [.i v] := by
 have := List.all_eq_true.1 obits n (List.mem_range.2 (by omega))
 cases h : F_bits_Len [.i (IntKind.u64.wrap ((n : Nat) : Int))] with
 | none => rw [h] at this; simp at this
 | some g =>
  rw [h] at this
  refine Ret.some ?_
  match g, this with
  | [.i v], _ => exact ⟨v, rfl⟩
theorem sortStr_ok (rows : List (List G)) (hr : ∀ y ∈ rows, StrR y) (hn : rows.length ≤ 12) : F_sl_Sort_string [.l rows] = some [.l (sortA (ltC cN) rows)] := by
 have hsl := sortA_length (ltC cN) rows
 refine Ret.toEq ?_
 unfold F_sl_Sort_string
 (dsimp +instances only [Aa,Ab,Ac,Ad,Ae,Af,Ag])
 refine Ret.call (r_obits rows.length hn) ?_
 rintro _ ⟨v, rfl⟩
 (dsimp +instances only [Aa,Ab,Ac,Ad,Ae,Af,Ag])
 refine Ret.callb (P := fun g => g = [.l (sortA (ltC cN) rows)]) ?_ (by (first|rfl|assumption|(simp only [inI,sl]<;>omega))) ?_
 ·unfold F_sl_pdqsortOrdered_string
  (dsimp +instances only [Aa,Ab,Ac,Ad,Ae,Af,Ag])
  have s0 : st_sl_pdqsortOrdered_string_2 [.l rows, .i 0, .i (rows.length : Int), .i v, .t true, .t true] = some (some 0, [.l (sortA (ltC cN) rows)]) := by
   refine Ret.toEq ?_
   unfold st_sl_pdqsortOrdered_string_2
   (dsimp +instances only [Aa,Ab,Ac,Ad,Ae,Af,Ag])
   refine Ret.p (Ret.p ?_)
   refine Ret.callb (Ret.eq (ordF rows hr (by omega))) (by (first|rfl|assumption|(simp only [inI,sl]<;>omega))) ?_
   rintro _ rfl
   (dsimp +instances only [Aa,Ab,Ac,Ad,Ae,Af,Ag])
   (repeat first|refine Ret.p ?_|refine Ret.n ?_)
   exact Ret.some rfl
  refine Ret.loop (P := fun c g => g = [.l (sortA (ltC cN) rows)]) (RetL.stop s0 rfl) (by (first|rfl|assumption|(simp only [inI,sl]<;>omega))) ?_
  rintro _ _ rfl
  (dsimp +instances only [Aa,Ab,Ac,Ad,Ae,Af,Ag])
  (repeat first|refine Ret.p ?_|refine Ret.n ?_)
  exact Ret.some rfl
 ·rintro _ rfl
  (dsimp +instances only [Aa,Ab,Ac,Ad,Ae,Af,Ag])
  (repeat first|refine Ret.p ?_|refine Ret.n ?_)
  exact Ret.some rfl
theorem linN : Lin (ltC cN) (fun _ => True) := lin_of (fun a b => ordrS.flip _ _) (fun a b d h1 h2 => ordrS.le _ _ _ h1 h2)
theorem sortStr_same {a b : List (List G)} (ha : ∀ y ∈ a, StrR y) (hp : a.Perm b) : sortA (ltC cN) a = sortA (ltC cN) b :=
 sortA_unique (linN.mono fun _ _ => trivial) (Q := StrR) hp ha fun x hx y hy h1 h2 => by
  obtain ⟨u, rfl⟩ := ha x hx
  obtain ⟨v, rfl⟩ := ha y hy
  unfold ltC at h1 h2
  rw [ltI_eq, decide_eq_false_iff_not] at h1 h2
  have hf : cN [.s v] [.s u] = - cN [.s u] [.s v] := ordrS.flip _ _
  have h0 : cmpS u v = 0 := by
   have e : cN [.s u] [.s v] = cmpS u v := rfl
   omega
  rw [cmpS_z.1 h0]
theorem cloneS_ok (a : List (List G)) (h : a.length ≤ 1000) : F_sl_Clone_string_f [.l a] = some [.l a] := by
 unfold F_sl_Clone_string_f F_sl_Clone_string_f_0
 (dsimp +instances only [Aa,Ab,Ac,Ad,Ae,Af,Ag])
 cases a with
 | nil => rfl
 | cons x q =>
  simp only [List.length_cons] at h
  refine Ret.toEq (Ret.pos (by simp [Nat.blt_eq]) ?_)
  refine Ret.pos (by simp [Nat.blt_eq]) ?_
  refine Ret.pos (by simp only [List.length_cons, decide_eq_true_eq]; omega) (Ret.pos (by simp) (Ret.some rfl))
theorem equalO (a : List (List G)) (hn : a.length < 1000) : F_sl_Equal_string [.l a, .l a] = some [.t true] := by
 refine Ret.toEq ?_
 unfold F_sl_Equal_string
 (dsimp +instances only [Aa,Ab,Ac,Ad,Ae,Af,Ag])
 refine Ret.neg (by simp) ?_
 have r := range_all (st := st_sl_Equal_string_4) (σ := Unit) (fun _ i => [.l a, .l a, .i (a.length : Int), .i (i : Int)]) a (fun _ => (1, [])) (fun _ _ => True) () (by omega) trivial
  (fun _ i x _ hi hx hm ht => by
   unfold st_sl_Equal_string_4
   (dsimp +instances only [Aa,Ab,Ac,Ad,Ae,Af,Ag])
   simp only [Int.toNat_natCast, hx]
   refine Ret.p (Ret.p (Ret.p (Ret.neg (by simp) ?_)))
   (repeat first|refine Ret.p ?_|refine Ret.n ?_)
   exact Ret.some ⟨(), by simp, trivial⟩)
  (fun _ _ => by
   unfold st_sl_Equal_string_4
   (dsimp +instances only [Aa,Ab,Ac,Ad,Ae,Af,Ag])
   refine Ret.n ?_
   (repeat first|refine Ret.p ?_|refine Ret.n ?_)
   exact Ret.some rfl)
 refine Ret.loop r (by (first|rfl|assumption|(simp only [inI,sl]<;>omega))) ?_
 rintro _ _ ⟨_, _, rfl, rfl⟩
 (dsimp +instances only [Aa,Ab,Ac,Ad,Ae,Af,Ag])
 refine Ret.neg rfl ?_
 (repeat first|refine Ret.p ?_|refine Ret.n ?_)
 exact Ret.some rfl
/-! ### The band of a frequency -/
theorem ownKey_eq {b : List (List G)} (hb : Own b) (h k : Int) : ((bkey (inBand h) b).toList == (bkey (inBand k) b).toList) = (bix (inBand h) b == bix (inBand k) b) := own_eq hb h k
theorem bandOf_ok (b : List (List G)) (h : Int) (hb : ∀ z ∈ b, Bnd z) (hbn : b.length ≤ 1000) (hf : faultBands b = 0) (hh : inB h 0 30000000000 = true) (hi : leI 0 (bix (inBand h) b) = true) : F_log_BandOf [.l b, .i h] = some [.s (bkey (inBand h) b), .t true, .i 0] := by
 rcases bix_at (p := inBand h) b with ⟨h1, _⟩ | ⟨i, h1, h2, h3, _⟩
 ·rw [h1] at hi
  simp [leI_eq] at hi
 refine Ret.toEq ?_
 unfold F_log_BandOf
 (dsimp +instances only [Aa,Ab,Ac,Ad,Ae,Af,Ag])
 refine Ret.cE (checkBands_ok b hb) ?_
 rw [hf]
 refine Ret.neg rfl ?_
 refine Ret.cE (outside_eq h 0 30000000000) ?_
 rw [hh]
 refine Ret.neg rfl ?_
 refine Ret.cE (at_ok b h hb (by omega)) ?_
 (dsimp +instances only [Aa,Ab,Ac,Ad,Ae,Af,Ag])
 rw [h1]
 simp only [Int.toNat_natCast]
 refine Ret.n (Ret.p (Ret.some ?_))
 rw [h3]
theorem hertz_in {x : List (List G)} (h : faultSpots x = 0) : ∀ s ∈ x, inB (gi s 1).int 0 30000000000 = true := by
 unfold faultSpots at h
 split at h
 ·omega
 have z := fw_zero h
 intro s hs
 obtain ⟨i, hi, rfl⟩ := List.mem_iff_getElem.1 hs
 have h := z i hi
 have e : x.getD i [] = x[i] := by simp [List.getD_eq_getElem?_getD, hi]
 unfold stepT at h
 rw [e] at h
 cases hh : inB (gi x[i] 1).int 0 30000000000 with
 | true => rfl
 | false =>
  exfalso
  have : faultT1 x[i] ≠ 0 := by
   unfold faultT1
   rw [hh]
   cases inB (gi x[i] 0).int 0 345686399999 <;> simp
  rw [if_pos this] at h
  exact this h
theorem hsL_apart {b : List (List G)} {life at_ : Int} : ∀ (l : List (List G)), (hsL b life at_ l).Pairwise fun s o => sameS b o s = false
 | [] => List.Pairwise.nil
 | s :: t => by
  have ih := hsL_apart (b := b) (life := life) (at_ := at_) t
  simp only [hsL]
  cases hc : cntS b life at_ s && !lateS b life at_ s t with
  | false => exact ih
  | true =>
   refine List.pairwise_cons.2 ⟨fun o ho => ?_, ih⟩
   obtain ⟨h1, h2⟩ := hsL_mem ho
   simp only [Bool.and_eq_true, Bool.not_eq_true'] at hc
   have := List.any_eq_false.1 hc.2 o h1
   rw [h2] at this
   simpa using this
/-! ### The law -/
theorem inner_ok (b hs cs o hs2 hs3 rows : List (List G)) (y0 y1 life at_ hz n low high nh k : Int) (c by_ : ByteArray) (hb : ∀ z ∈ b, Bnd z) (hbn : b.length ≤ 1000) (hf : faultBands b = 0) (hO : Own b) (hcs : cs.length ≤ 1000) (hn : rows.length ≤ 1000)
  (hr : ∀ z ∈ rows, inB (gi z 1).int 0 30000000000 = true ∧ leI 0 (bix (inBand (gi z 1).int) b) = true ∧ (((gi z 2).str.toList == c.toList) && (bix (inBand (gi z 1).int) b == bix (inBand y1) b)) = false) :
  RetL st_k2_SpotsOnce_18 [.l cs, .i y0, .i y1, .s c, .s by_, .l b, .i life, .i at_, .i hz, .l hs, .l o, .i n, .i low, .i high, .s (bkey (inBand y1) b), .l hs2, .i nh, .i k, .l rows, .i (rows.length : Int), .i 0] fun x g => x = 1 ∧ g = [.l cs, .i y0, .i y1, .s c, .s by_, .l b, .i life, .i at_, .i hz, .l hs, .l o, .i n, .i low, .i high, .l hs2, .i nh, .i k] := by
 have r := range_all (st := st_k2_SpotsOnce_18) (σ := Unit) (fun _ i => [.l cs, .i y0, .i y1, .s c, .s by_, .l b, .i life, .i at_, .i hz, .l hs, .l o, .i n, .i low, .i high, .s (bkey (inBand y1) b), .l hs2, .i nh, .i k, .l rows, .i (rows.length : Int), .i (i : Int)]) rows
  (fun _ => (1, [.l cs, .i y0, .i y1, .s c, .s by_, .l b, .i life, .i at_, .i hz, .l hs, .l o, .i n, .i low, .i high, .l hs2, .i nh, .i k])) (fun _ _ => True) () (by omega) trivial
  (fun _ i z _ hi hx hm ht => by
   obtain ⟨h1, h2, h3⟩ := hr z hm
   unfold st_k2_SpotsOnce_18
   (dsimp +instances only [Aa,Ab,Ac,Ad,Ae,Af,Ag])
   simp only [Int.toNat_natCast, hx]
   refine Ret.p (Ret.p ?_)
   refine Ret.cE (bandOf_ok b _ hb hbn hf h1 h2) ?_
   (dsimp +instances only [Aa,Ab,Ac,Ad,Ae,Af,Ag])
   rw [ownKey_eq hO]
   refine Ret.test (fun q1 => ?_) fun q1 => ?_
   ·rw [q1, Bool.and_true] at h3
    rw [h3]
    refine Ret.neg rfl ?_
    (repeat first|refine Ret.p ?_|refine Ret.n ?_)
    exact Ret.some ⟨(), by simp, trivial⟩
   ·(repeat first|refine Ret.p ?_|refine Ret.n ?_)
    exact Ret.some ⟨(), by simp, trivial⟩)
  (fun _ _ => by
   unfold st_k2_SpotsOnce_18
   (dsimp +instances only [Aa,Ab,Ac,Ad,Ae,Af,Ag])
   refine Ret.n ?_
   (repeat first|refine Ret.p ?_|refine Ret.n ?_)
   exact Ret.some rfl)
 refine RetL.mono r ?_
 rintro _ _ ⟨_, _, rfl, rfl⟩
 exact ⟨rfl, rfl⟩
theorem outer_ok (b hs o : List (List G)) (life at_ hz n : Int) (hb : ∀ z ∈ b, Bnd z) (hbn : b.length ≤ 1000) (hf : faultBands b = 0) (hO : Own b) (hn : hs.length ≤ 500) (h1 : b50 life) (h2 : b50 at_) (h3 : b50 hz) (hS : ∀ z ∈ hs, Spt z)
  (hr : ∀ z ∈ hs, inB (gi z 1).int 0 30000000000 = true ∧ cntS b life at_ z = true) (hp : hs.Pairwise fun s o => sameS b o s = false) :
  RetL st_k2_SpotsOnce_12 [.l [], .l b, .i life, .i at_, .i hz, .l hs, .l o, .i n, .i hz, .i hz, .l hs, .i (hs.length : Int), .i 0] fun x g => x = 1 ∧ ∃ bl ab, g = [.l (hs.map callR), .i hz, .l o, .i n, .i (hz - bl), .i (hz + ab)] ∧ isMx (kS (-1) hz) hs bl ∧ isMx (kS 1 hz) hs ab := by
 have r := range_all (st := st_k2_SpotsOnce_12) (σ := Int × Int) (fun s i => [.l ((hs.take i).map callR), .l b, .i life, .i at_, .i hz, .l hs, .l o, .i n, .i (hz - s.1), .i (hz + s.2), .l hs, .i (hs.length : Int), .i (i : Int)]) hs
  (fun s => (1, [.l (hs.map callR), .i hz, .l o, .i n, .i (hz - s.1), .i (hz + s.2)])) (fun s i => isMx (kS (-1) hz) (hs.take i) s.1 ∧ isMx (kS 1 hz) (hs.take i) s.2) (0, 0) (by omega) ⟨⟨by omega, by simp, .inl rfl⟩, ⟨by omega, by simp, .inl rfl⟩⟩
  (fun s i y hI hi hx hm ht => by
   have hY := hS y hm
   obtain ⟨t0, h0, c0, y0, hye, ht0, hh0, _⟩ := id hY
   obtain ⟨g1, g2⟩ := hr y hm
   have g2' := g2
   simp only [cntS, Bool.and_eq_true, ltI_eq, leI_eq, decide_eq_true_eq] at g2'
   have g3 : leI 0 (bix (inBand (gi y 1).int) b) = true := by rw [leI_eq, decide_eq_true_eq]; exact g2'.2.2
   have hl : ((hs.take i).map callR).length ≤ 500 := by rw [List.length_map, List.length_take]; omega
   have e : (hs.take (i + 1)).map callR = (hs.take i).map callR ++ [[.s (gi y 2).str]] := by
    rw [ht, List.map_append]
    rfl
   have m1 := isMx_step hI.1 y
   have m2 := isMx_step hI.2 y
   rw [← ht] at m1 m2
   have k1 : kS (-1) hz y = hz - (gi y 1).int := by unfold kS kp; omega
   have k2 : kS 1 hz y = (gi y 1).int - hz := by unfold kS kp; omega
   rw [k1] at m1
   rw [k2] at m2
   have el : (if (gi y 1).int < hz - s.1 then (gi y 1).int else hz - s.1) = hz - (if hz - (gi y 1).int > s.1 then hz - (gi y 1).int else s.1) := by
    split <;> split <;> omega
   have eh : (if (gi y 1).int > hz + s.2 then (gi y 1).int else hz + s.2) = hz + (if (gi y 1).int - hz > s.2 then (gi y 1).int - hz else s.2) := by
    split <;> split <;> omega
   have hne : ((bkey (inBand (gi y 1).int) b).toList == (⟨#[]⟩ : ByteArray).toList) = false := by
    have := own_ne hO (gi y 1).int
    rw [g3] at this
    simpa using this
   have hpr := List.pairwise_append.1 (ht ▸ (hp.sublist (List.take_sublist (i + 1) hs)) : (hs.take i ++ [y]).Pairwise fun s o => sameS b o s = false)
   have hin : ∀ z ∈ hs.take i, inB (gi z 1).int 0 30000000000 = true ∧ leI 0 (bix (inBand (gi z 1).int) b) = true ∧ (((gi z 2).str.toList == (gi y 2).str.toList) && (bix (inBand (gi z 1).int) b == bix (inBand (gi y 1).int) b)) = false := by
    intro z hz'
    have hzm := List.mem_of_mem_take hz'
    obtain ⟨q1, q2⟩ := hr z hzm
    simp only [cntS, Bool.and_eq_true] at q2
    refine ⟨q1, q2.2.2, ?_⟩
    have := hpr.2.2 z hz' y (by simp)
    unfold sameS at this
    rw [beq_swap (gi z 2).str.toList, beq_swap (bix (inBand (gi z 1).int) b)]
    exact this
   have hio := inner_ok b hs ((hs.take i).map callR) o hs [] (hs.take i) (gi y 0).int (gi y 1).int life at_ hz n (hz - s.1) (hz + s.2) (hs.length : Int) (i : Int) (gi y 2).str (gi y 3).str hb hbn hf hO (by omega) (by rw [List.length_take]; omega) hin
   have h1' := h1
   have h2' := h2
   unfold b50 at h1' h2'
   unfold st_k2_SpotsOnce_12
   (dsimp +instances only [Aa,Ab,Ac,Ad,Ae,Af,Ag])
   simp only [Int.toNat_natCast, hx]
   refine Ret.p (Ret.p ?_)
   refine Ret.cE (bandOf_ok b _ hb hbn hf g1 g3) ?_
   (dsimp +instances only [Aa,Ab,Ac,Ad,Ae,Af,Ag])
   rw [hne]
   refine Ret.neg rfl (Ret.neg (by simp only [ltI_eq, decide_eq_false_iff_not]; omega) (Ret.p (Ret.neg (by simp only [leI_eq, decide_eq_false_iff_not]; omega) (Ret.p ?_))))
   refine Ret.loop hio (by (first|rfl|assumption|(simp only [inI,sl]<;>omega))) ?_
   rintro _ _ ⟨rfl, rfl⟩
   (dsimp +instances only [Aa,Ab,Ac,Ad,Ae,Af,Ag])
   refine Ret.neg rfl ?_
   rw [← e, el, eh]
   have hl2 : ((hs.take (i + 1)).map callR).length ≤ 501 := by rw [List.length_map, List.length_take]; omega
   (repeat first|refine Ret.p ?_|refine Ret.n ?_)
   exact Ret.some ⟨(if hz - (gi y 1).int > s.1 then hz - (gi y 1).int else s.1, if (gi y 1).int - hz > s.2 then (gi y 1).int - hz else s.2), by simp, m1, m2⟩)
  (fun s hI => by
   have hl : (hs.map callR).length ≤ 500 := by rw [List.length_map]; omega
   unfold st_k2_SpotsOnce_12
   (dsimp +instances only [Aa,Ab,Ac,Ad,Ae,Af,Ag])
   simp only [List.take_length]
   refine Ret.n ?_
   (repeat first|refine Ret.p ?_|refine Ret.n ?_)
   exact Ret.some rfl)
 have e0 : hz - 0 = hz := by omega
 have e1 : hz + 0 = hz := by omega
 simp only [e0, e1] at r
 refine RetL.mono r ?_
 rintro _ _ ⟨⟨bl, ab⟩, hI, rfl, rfl⟩
 simp only [List.take_length] at hI
 exact ⟨rfl, bl, ab, rfl, hI.1, hI.2⟩
theorem sweepP (b x : List (List G)) (life at_ hz : Int) (hb : ∀ z ∈ b, Bnd z) (hbn : b.length ≤ 20) (hl : ∀ z ∈ x, Spt z) (hn : x.length ≤ 20) (h1 : b50 life) (h2 : b50 at_) (h3 : b50 hz) (hf : faultBands b = 0) (hx : faultSpots x = 0) (ha : faultAsked life at_ hz = 0)
  {bl ab : Int} (hbl : isMx (kS (-1) hz) (hsL b life at_ x) bl) (hab : isMx (kS 1 hz) (hsL b life at_ x) ab) :
  ∃ t : Bool, F_band_Sweep [.l b, .l x, .i life, .i at_, .i hz] = some [.l ((grpA (wD t) hz (hsL b life at_ x) ++ grpB (wD t) hz (hsL b life at_ x)).map callR), .i (bl + ab + if bl < ab then bl else ab), .i 0] := by
 have hlen := hsL_length (b := b) (life := life) (at_ := at_) x
 have hS : ∀ z ∈ hsL b life at_ x, Spt z := fun z hz => hl z (hsL_mem hz).1
 have hh := heard_ok b x life at_ hb (by omega) hl (by omega) h1 h2
 generalize hsL b life at_ x = hs at *
 have lo := lists_ok b x hb hl
 rw [hf, hx] at lo
 have lo : F_band_listsFault [.l b, .l x] = some [.i 0] := lo
 have ao := asked_ok life at_ hz
 rw [ha] at ao
 have hb3 := h3
 unfold b50 at hb3
 have bd : ∀ (w M : Int), (w = 1 ∨ w = -1) → isMx (kS w hz) hs M → 0 ≤ M ∧ M ≤ 4000000000000000 := by
  intro w M hw h
  obtain ⟨a1, _, a3⟩ := h
  refine ⟨a1, ?_⟩
  rcases a3 with rfl | ⟨s, hs', rfl⟩
  ·omega
  ·have h1 := (hS s hs').hz
   unfold b50 at h1
   unfold kS kp
   rcases hw with rfl | rfl <;> omega
 have bb1 := bd _ _ (by omega) hbl
 have bb2 := bd _ _ (by omega) hab
 have key : Ret (F_band_Sweep [.l b, .l x, .i life, .i at_, .i hz]) fun g => ∃ t : Bool, g = [.l ((grpA (wD t) hz hs ++ grpB (wD t) hz hs).map callR), .i (bl + ab + if bl < ab then bl else ab), .i 0] := by
  unfold F_band_Sweep
  (dsimp +instances only [Aa,Ab,Ac,Ad,Ae,Af,Ag])
  refine Ret.cE lo ?_
  refine Ret.neg rfl ?_
  refine Ret.cE ao ?_
  refine Ret.neg rfl ?_
  refine Ret.cE hh ?_
  (dsimp +instances only [Aa,Ab,Ac,Ad,Ae,Af,Ag])
  refine Ret.loop (sweep_loop hs hz hS (by omega) h3) rfl ?_
  rintro _ _ ⟨rfl, bl', ab', rfl, m1, m2⟩
  have e1 := isMx_unique m1 hbl
  have e2 := isMx_unique m2 hab
  subst e1 e2
  (dsimp +instances only [Aa,Ab,Ac,Ad,Ae,Af,Ag])
  have go : ∀ (t : Bool) (n : Int), (n = bl' + ab' + if bl' < ab' then bl' else ab') → Ret (callF (F_band_way [.l hs, .i hz, .t t]) fun g5 => (some [G.l (gi g5 0).rows, G.i n, G.i 0] : Option (List G))) fun g => ∃ t : Bool, g = [.l ((grpA (wD t) hz hs ++ grpB (wD t) hz hs).map callR), .i (bl' + ab' + if bl' < ab' then bl' else ab'), .i 0] := by
   rintro t _ rfl
   refine Ret.cE (way_ok hs hz t hS (by omega) h3) ?_
   exact Ret.some ⟨t, rfl⟩
  refine Ret.p (Ret.p (Ret.p (Ret.p ?_)))
  refine Ret.test (fun p => Ret.test (fun q => Ret.test (fun r => go true _ ?_) fun r => go false _ ?_) fun q => Ret.test (fun r => go true _ ?_) fun r => go false _ ?_) fun p => Ret.test (fun q => Ret.test (fun r => go true _ ?_) fun r => go false _ ?_) fun q => Ret.test (fun r => go true _ ?_) fun r => go false _ ?_
  all_goals
   simp only [beq_iff_eq, beq_eq_false_iff_ne, leI_eq, decide_eq_true_eq, decide_eq_false_iff_not] at p q r
   split <;> omega
 obtain ⟨_, h, t, rfl⟩ := key
 exact ⟨t, h⟩
theorem spotsOnce_data (rows : List (List G)) : F_k2_SpotsOnce [.l rows] = some [.t true] := by
 refine Ret.toEq ?_
 unfold F_k2_SpotsOnce
 (dsimp +instances only [Aa,Ab,Ac,Ad,Ae,Af,Ag])
 refine Ret.call (r_RightBands rows 0 (by omega) (by omega)) ?_
 rintro _ ⟨f0, f1, f2, f3, rfl⟩
 have hb := selB_Bnd f0 f1 f2 f3
 have hbn := selB_length f0 f1 f2 f3
 have hf := own_sel f0 f1 f2 f3
 generalize selB f0 f1 f2 f3 = b at hb hbn hf ⊢
 have hO := own_of_fault hf
 (dsimp +instances only [Aa,Ab,Ac,Ad,Ae,Af,Ag])
 refine Ret.call (r_Range rows _ 0 12 (by omega) (by omega) (by omega) (by omega) (by omega)) ?_
 rintro _ ⟨n1, rfl, hn0, hn1⟩
 (dsimp +instances only [Aa,Ab,Ac,Ad,Ae,Af,Ag])
 refine Ret.call (right_spots rows _ n1 (by omega) (by omega) hn0 (by omega)) ?_
 rintro _ ⟨a2, x, rfl, hb0, hb1, hx, hxn, hxf⟩
 (dsimp +instances only [Aa,Ab,Ac,Ad,Ae,Af,Ag])
 refine Ret.call (r_Range rows _ 1 100 (by omega) (by omega) (by omega) (by omega) (by omega)) ?_
 rintro _ ⟨life, rfl, hl0, hl1⟩
 (dsimp +instances only [Aa,Ab,Ac,Ad,Ae,Af,Ag])
 refine Ret.call (r_Range rows _ 0 100 (by omega) (by omega) (by omega) (by omega) (by omega)) ?_
 rintro _ ⟨at_, rfl, ht0, ht1⟩
 (dsimp +instances only [Aa,Ab,Ac,Ad,Ae,Af,Ag])
 refine Ret.call (r_Range rows _ 7000000 14100000 (by omega) (by omega) (by omega) (by omega) (by omega)) ?_
 rintro _ ⟨hz, rfl, hz0, hz1⟩
 (dsimp +instances only [Aa,Ab,Ac,Ad,Ae,Af,Ag])
 have h1 : b50 life := by unfold b50; omega
 have h2 : b50 at_ := by unfold b50; omega
 have h3 : b50 hz := by unfold b50; omega
 have hlife : faultLife life at_ = 0 := by
  unfold faultLife
  have e1 : inB life 1 86400000 = true := by simp only [inB, leI_eq, Bool.and_eq_true, decide_eq_true_eq]; omega
  have e2 : inB at_ 0 345686399999 = true := by simp only [inB, leI_eq, Bool.and_eq_true, decide_eq_true_eq]; omega
  rw [e1, e2]
  rfl
 have hask : faultAsked life at_ hz = 0 := by
  unfold faultAsked
  have e1 : inB life 1 86400000 = true := by simp only [inB, leI_eq, Bool.and_eq_true, decide_eq_true_eq]; omega
  have e2 : inB at_ 0 345686399999 = true := by simp only [inB, leI_eq, Bool.and_eq_true, decide_eq_true_eq]; omega
  have e3 : inB hz 0 30000000000 = true := by simp only [inB, leI_eq, Bool.and_eq_true, decide_eq_true_eq]; omega
  rw [e1, e2, e3]
  rfl
 have htwo : twoF b x life at_ = 0 := by
  unfold twoF
  rw [hf, hxf, hlife]
  rfl
 have hlog : logF b x [] 1 life at_ hz = 0 := by
  unfold logF
  rw [hf, hxf, hask]
  rfl
 have hlen := hsL_length (b := b) (life := life) (at_ := at_) x
 have hS : ∀ z ∈ hsL b life at_ x, Spt z := fun z hz' => hx z (hsL_mem hz').1
 have hH := heardF_ok (b := b) (x := x) hb (by omega) hx (by omega) h1 h2
 rw [htwo] at hH
 have hW := worth_ok b x [] 1 life at_ hz hb (by omega) hx (by omega) (by simp) (by simp) h1 h2 h3
 rw [hlog] at hW
 have hB := busyF_ok (b := b) (x := x) hb (by omega) hx (by omega) h1 h2
 rw [htwo] at hB
 have hwl : (worL b x [] 1 life at_ hz).length = (hsL b life at_ x).length := by
  unfold worL
  rw [sortA_length, List.filter_eq_self.2]
  intro s _
  rfl
 have hbl := busL_length b (hsL b life at_ x)
 have hR : ∀ z ∈ hsL b life at_ x, inB (gi z 1).int 0 30000000000 = true ∧ cntS b life at_ z = true := fun z hz' => ⟨hertz_in hxf z (hsL_mem hz').1, (hsL_mem hz').2⟩
 -- where the spots lie
 obtain ⟨bl, ab, q1, q2⟩ : ∃ bl ab, isMx (kS (-1) hz) (hsL b life at_ x) bl ∧ isMx (kS 1 hz) (hsL b life at_ x) ab := by
  obtain ⟨_, _, _, _, _, _, bl, ab, _, q1, q2⟩ := sweep_loop (hsL b life at_ x) hz hS (by omega) h3
  exact ⟨bl, ab, q1, q2⟩
 obtain ⟨t, hSw⟩ := sweepP b x life at_ hz hb (by omega) hx (by omega) h1 h2 h3 hf hxf hask q1 q2
 refine Ret.cE hH ?_
 refine Ret.cE hW ?_
 refine Ret.cE hSw ?_
 refine Ret.cE hB ?_
 (dsimp +instances only [Aa,Ab,Ac,Ad,Ae,Af,Ag])
 refine Ret.cE (errs_eq [0, 0, 0, 0] (by simp)) ?_
 refine Ret.neg rfl ?_
 have hperm : ((grpA (wD t) hz (hsL b life at_ x) ++ grpB (wD t) hz (hsL b life at_ x)).map callR).Perm ((hsL b life at_ x).map callR) := by
  rw [← way_split (wD_pm t)]
  exact (sortA_perm _).map _
 have hcl : ((hsL b life at_ x).map callR).length = (hsL b life at_ x).length := List.length_map _
 have hol := hperm.length_eq.trans hcl
 generalize (grpA (wD t) hz (hsL b life at_ x) ++ grpB (wD t) hz (hsL b life at_ x)).map callR = o at *
 have e0 : ((0 : Int) == 0) = true := rfl
 simp only [e0, cond_true]
 refine Ret.neg (by rw [hwl]; simp) (Ret.neg (by rw [hol]; simp) (Ret.neg (by rw [hbl]; simp) ?_))
 have hap := hsL_apart (b := b) (life := life) (at_ := at_) x
 refine Ret.loop (outer_ok b (hsL b life at_ x) o life at_ hz (bl + ab + if bl < ab then bl else ab) hb (by omega) hf hO (by omega) h1 h2 h3 hS hR hap) (by (first|rfl|assumption|(simp only [inI,sl]<;>omega))) ?_
 rintro _ _ ⟨rfl, bl', ab', rfl, r1, r2⟩
 have e1 := isMx_unique r1 q1
 have e2 := isMx_unique r2 q2
 subst e1 e2
 (dsimp +instances only [Aa,Ab,Ac,Ad,Ae,Af,Ag])
 refine Ret.neg rfl ?_
 refine Ret.cE (cloneS_ok o (by omega)) ?_
 (dsimp +instances only [Aa,Ab,Ac,Ad,Ae,Af,Ag])
 have hcS : ∀ z ∈ (hsL b life at_ x).map callR, StrR z := by
  intro z hz'
  obtain ⟨r, _, rfl⟩ := List.mem_map.1 hz'
  exact ⟨_, rfl⟩
 have hoS : ∀ z ∈ o, StrR z := fun z hz' => hcS z (hperm.mem_iff.1 hz')
 refine Ret.callb (Ret.eq (sortStr_ok _ hcS (by omega))) (by (first|rfl|assumption|(simp only [inI,sl]<;>omega))) ?_
 rintro _ rfl
 refine Ret.callb (Ret.eq (sortStr_ok o hoS (by omega))) (by (first|rfl|assumption|(simp only [inI,sl]<;>omega))) ?_
 rintro _ rfl
 (dsimp +instances only [Aa,Ab,Ac,Ad,Ae,Af,Ag])
 rw [sortStr_same hoS hperm]
 have hs1 := sortA_length (ltC cN) ((hsL b life at_ x).map callR)
 refine Ret.callb (Ret.eq (equalO _ (by omega))) (by rw [hs1]; simp [hol, hcl]) ?_
 rintro _ rfl
 refine Ret.pos rfl ?_
 have bd : ∀ (w M : Int), (w = 1 ∨ w = -1) → isMx (kS w hz) (hsL b life at_ x) M → 0 ≤ M ∧ M ≤ 4000000000000000 := by
  intro w M hw h
  obtain ⟨a1, _, a3⟩ := h
  refine ⟨a1, ?_⟩
  rcases a3 with rfl | ⟨s, hs', rfl⟩
  ·omega
  ·have h1 := (hS s hs').hz
   unfold b50 at h1
   unfold kS kp
   rcases hw with rfl | rfl <;> omega
 have bb1 := bd _ _ (by omega) r1
 have bb2 := bd _ _ (by omega) r2
 have ee : (bl' + ab' + if bl' < ab' then bl' else ab') = (hz + ab' - (hz - bl') + if hz - (hz - bl') < hz + ab' - hz then hz - (hz - bl') else hz + ab' - hz) := by
  split <;> split <;> omega
 have ei : inI (hz + ab' - (hz - bl') + if hz - (hz - bl') < hz + ab' - hz then hz - (hz - bl') else hz + ab' - hz) = true := by
  rw [← ee]
  split <;> (first|rfl|assumption|(simp only [inI,sl]<;>omega))
 refine Ret.p (Ret.p (Ret.p (Ret.pos ei ?_)))
 refine Ret.pos (by rw [ee]; simp) ?_
 refine Ret.cE (rfl : F_k2_ready [] = some [.t true]) ?_
 exact Ret.some rfl
end
end Go.Proofs.SYthjhjbgilbaknaaGreatDoor
