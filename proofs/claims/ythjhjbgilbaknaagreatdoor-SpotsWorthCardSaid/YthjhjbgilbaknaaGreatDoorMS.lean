/-
 What is proved here: stable sorts of Worth and Sweep, in the reference, sort. No condition.
-/
import Derived.Test.YthjhjbgilbaknaaGreatDoorMF
set_option linter.unusedSimpArgs false
set_option linter.unusedVariables false
set_option linter.unusedSectionVars false
namespace Go.Proofs.SYthjhjbgilbaknaaGreatDoor
open Go Go.AL Go.Proofs
noncomputable section
theorem srtV4 {Q : List G → Prop} {c : List G → List G → Int} (hz : Int) (hE : ∀ x, Q x → gEta KSpot x = x) (hC : ∀ x y, Q x → Q y → F_r2_WorthSpots_2 [.l [x], .l [y], .l [[.i hz]]] = some [.i (c x y)]) : ∀ (p q : List (List G)) (x : List G) (b i : Int) (j : Nat), (∀ y ∈ p, Q y) → Q x → p.length < 1000000 → j = p.length →
  ∃ m, m ≤ p.length + 1 ∧ Runs st_insS_Spot_4_4 m [.l (p.reverse ++ x :: q), .i 0, .i b, .l [[.i hz]], .i i, .i (j : Int)] 0 [.l ((insA (ltC c) x p).reverse ++ q), .i 0, .i b, .l [[.i hz]], .i i]
 | [], q, x, b, i, j, _, _, _, hj => by
  simp only [List.length_nil] at hj
  subst hj
  refine ⟨1, by simp, .stop (Ret.toEq ?_)⟩
  unfold st_insS_Spot_4_4
  (dsimp +instances only [Aa,Ab,Ac,Ad,Ae,Af,Ag])
  refine Ret.n ?_
  (repeat first|refine Ret.p ?_|refine Ret.n ?_)
  exact Ret.some rfl
 | y :: p, q, x, b, i, j, hp, hx, hl, hj => by
  have hy := hp y List.mem_cons_self
  have e1 : (y :: p).reverse ++ x :: q = (p.reverse ++ [y]) ++ x :: q := by simp
  have e2 : (y :: p).reverse ++ x :: q = p.reverse ++ y :: x :: q := by simp
  simp only [List.length_cons] at hl hj
  have g1 : ((y :: p).reverse ++ x :: q).getD (0 + (j : Int).toNat) [] = x := by rw [e1]; exact getD_mid _ _ _ _ _ (by simp [hj])
  have g2 : ((y :: p).reverse ++ x :: q).getD (0 + ((j : Int) - 1).toNat) [] = y := by rw [e2]; exact getD_mid _ _ _ _ _ (by simp [hj])
  have hlen : ((y :: p).reverse ++ x :: q).length = p.length + q.length + 2 := by simp; omega
  have hcmp := hC x y hx hy
  cases hlt : ltC c x y with
  | false =>
   refine ⟨1, by simp, .stop (Ret.toEq ?_)⟩
   unfold st_insS_Spot_4_4
   (dsimp +instances only [Aa,Ab,Ac,Ad,Ae,Af,Ag])
   simp only [hlen, g1, g2, hE x hx, hE y hy]
   refine Ret.p (Ret.p (Ret.p (Ret.p (Ret.p (Ret.p ?_)))))
   first | refine Ret.call (Ret.eq hcmp) ?_ | refine Ret.callb (Ret.eq hcmp) (by (first|rfl|assumption|(simp only [inI,sl]<;>omega))) ?_
   rintro _ rfl
   (dsimp +instances only [Aa,Ab,Ac,Ad,Ae,Af,Ag])
   refine Ret.neg hlt ?_
   (repeat first|refine Ret.p ?_|refine Ret.n ?_)
   refine Ret.some ?_
   simp [insA, hlt]
  | true =>
   obtain ⟨m, hm, hr⟩ := srtV4 hz hE hC p (y :: q) x b i (j - 1) (fun z hz => hp z (List.mem_cons_of_mem _ hz)) hx (by omega) (by omega)
   refine ⟨m + 1, by simp; omega, .next (Ret.toEq ?_) (by
    have e : (insA (ltC c) x (y :: p)).reverse ++ q = (insA (ltC c) x p).reverse ++ y :: q := by simp [insA, hlt]
    rw [e]; exact hr)⟩
   have s1 : ((y :: p).reverse ++ x :: q).set (0 + (j : Int).toNat) y = p.reverse ++ y :: y :: q := by
    rw [e1, set_mid _ _ _ _ _ (by simp [hj])]; simp
   have s2 : (p.reverse ++ y :: y :: q).set (0 + ((j : Int) - 1).toNat) x = p.reverse ++ x :: y :: q := set_mid _ _ _ _ _ (by simp [hj])
   have g3 : (p.reverse ++ y :: y :: q).getD (0 + ((j : Int) - 1).toNat) [] = y := getD_mid _ _ _ _ _ (by simp [hj])
   have hl2 : (p.reverse ++ y :: y :: q).length = p.length + q.length + 2 := by simp; omega
   have hl3 : (p.reverse ++ x :: y :: q).length = p.length + q.length + 2 := by simp; omega
   have ky : y.length = KSpot.length := by rw [← hE y hy, gEta_length]
   have kx : x.length = KSpot.length := by rw [← hE x hx, gEta_length]
   unfold st_insS_Spot_4_4
   (dsimp +instances only [Aa,Ab,Ac,Ad,Ae,Af,Ag])
   simp only [hlen, g1, g2, hE x hx, hE y hy, putG_all ky, putG_all kx, s1, g3, s2, hl2, hl3]
   refine Ret.p (Ret.p (Ret.p (Ret.p (Ret.p (Ret.p ?_)))))
   first | refine Ret.call (Ret.eq hcmp) ?_ | refine Ret.callb (Ret.eq hcmp) (by (first|rfl|assumption|(simp only [inI,sl]<;>omega))) ?_
   rintro _ rfl
   (dsimp +instances only [Aa,Ab,Ac,Ad,Ae,Af,Ag])
   refine Ret.pos hlt ?_
   (repeat first|refine Ret.p ?_|refine Ret.n ?_)
   refine Ret.some ?_
   try simp only [Int.toNat_natCast]
   rw [show ((j : Int) - 1) = ((j - 1 : Nat) : Int) from by omega]
theorem srtV1 {Q : List G → Prop} {c : List G → List G → Int} (hz : Int) (hE : ∀ x, Q x → gEta KSpot x = x) (hC : ∀ x y, Q x → Q y → F_r2_WorthSpots_2 [.l [x], .l [y], .l [[.i hz]]] = some [.i (c x y)]) : ∀ (r p : List (List G)) (i n : Nat), (∀ y ∈ p, Q y) → (∀ y ∈ r, Q y) → i = p.length → n = p.length + r.length → n < 100000 →
  ∃ m, m ≤ r.length + 1 ∧ Runs st_insS_Spot_4_1 m [.l (p.reverse ++ r), .i 0, .i (n : Int), .l [[.i hz]], .i (i : Int)] 0 [.l (insAll (ltC c) p r).reverse]
 | [], p, i, n, _, _, hi, hn, hs => by
  refine ⟨1, by simp, .stop (Ret.toEq ?_)⟩
  simp only [List.length_nil] at hn
  unfold st_insS_Spot_4_1
  (dsimp +instances only [Aa,Ab,Ac,Ad,Ae,Af,Ag])
  refine Ret.n ?_
  (repeat first|refine Ret.p ?_|refine Ret.n ?_)
  refine Ret.some ?_
  simp [insAll]
 | x :: r, p, i, n, hp, hr, hi, hn, hs => by
  simp only [List.length_cons] at hn
  obtain ⟨m1, hm1, h1⟩ := srtV4 hz hE hC p r x (n : Int) (i : Int) i hp (hr x List.mem_cons_self) (by omega) hi
  obtain ⟨m, hm, h2⟩ := srtV1 hz hE hC r (insA (ltC c) x p) (i + 1) n (insA_all (hr x List.mem_cons_self) hp) (fun y hy => hr y (List.mem_cons_of_mem _ hy)) (by rw [insA_length, hi]) (by rw [insA_length]; omega) hs
  refine ⟨m + 1, by simp; omega, .next (Ret.toEq ?_) h2⟩
  unfold st_insS_Spot_4_1
  (dsimp +instances only [Aa,Ab,Ac,Ad,Ae,Af,Ag])
  refine Ret.p (Ret.loop (P := fun x g => g = _) ⟨m1, 0, _, h1, by omega, rfl⟩ (by (first|rfl|assumption|(simp only [inI,sl]<;>omega))) ?_)
  rintro _ _ rfl
  (dsimp +instances only [Aa,Ab,Ac,Ad,Ae,Af,Ag])
  (repeat first|refine Ret.p ?_|refine Ret.n ?_)
  exact Ret.some rfl
theorem srtVF {Q : List G → Prop} {c : List G → List G → Int} (hz : Int) (hE : ∀ x, Q x → gEta KSpot x = x) (hC : ∀ x y, Q x → Q y → F_r2_WorthSpots_2 [.l [x], .l [y], .l [[.i hz]]] = some [.i (c x y)]) (rows : List (List G)) (hr : ∀ y ∈ rows, Q y) (hn : rows.length < 100000) : F_insS_Spot_4 [.l rows, .i 0, .i (rows.length : Int), .l [[.i hz]]] = some [.l (sortA (ltC c) rows)] := by
 refine Ret.toEq ?_
 unfold F_insS_Spot_4
 (dsimp +instances only [Aa,Ab,Ac,Ad,Ae,Af,Ag])
 refine Ret.p ?_
 cases rows with
 | nil =>
  refine Ret.loop (P := fun x g => g = [.l []]) ⟨1, 0, _, .stop (Ret.toEq (?_ : Ret _ (fun g => g = (some 0, [G.l []])))), by omega, rfl⟩ (by (first|rfl|assumption|(simp only [inI,sl]<;>omega))) ?_
  ·unfold st_insS_Spot_4_1
   (dsimp +instances only [Aa,Ab,Ac,Ad,Ae,Af,Ag])
   refine Ret.n ?_
   (repeat first|refine Ret.p ?_|refine Ret.n ?_)
   exact Ret.some rfl
  ·rintro _ _ rfl
   (dsimp +instances only [Aa,Ab,Ac,Ad,Ae,Af,Ag])
   (repeat first|refine Ret.p ?_|refine Ret.n ?_)
   exact Ret.some rfl
 | cons x r =>
  simp only [List.length_cons] at hn
  obtain ⟨m, hm, h⟩ := srtV1 hz hE hC r [x] 1 (r.length + 1) (by simpa using hr x List.mem_cons_self) (fun y hy => hr y (List.mem_cons_of_mem _ hy)) rfl (by simp; omega) (by omega)
  refine Ret.loop (P := fun y g => g = _) ⟨m, 0, _, h, by omega, rfl⟩ (by (first|rfl|assumption|(simp only [inI,sl]<;>omega))) ?_
  rintro _ _ rfl
  (dsimp +instances only [Aa,Ab,Ac,Ad,Ae,Af,Ag])
  (repeat first|refine Ret.p ?_|refine Ret.n ?_)
  exact Ret.some rfl
theorem srtVN {Q : List G → Prop} {c : List G → List G → Int} (hz : Int) (hE : ∀ x, Q x → gEta KSpot x = x) (hC : ∀ x y, Q x → Q y → F_r2_WorthSpots_2 [.l [x], .l [y], .l [[.i hz]]] = some [.i (c x y)]) (rows : List (List G)) (a b : Nat) (h : b ≤ a) (hn : a < 100000) : F_insS_Spot_4 [.l rows, .i (a : Int), .i (b : Int), .l [[.i hz]]] = some [.l rows] := by
 refine Ret.toEq ?_
 unfold F_insS_Spot_4
 (dsimp +instances only [Aa,Ab,Ac,Ad,Ae,Af,Ag])
 refine Ret.p ?_
 refine Ret.loop (P := fun x g => g = [.l rows]) ⟨1, 0, _, .stop (Ret.toEq (?_ : Ret _ (fun g => g = (some 0, [G.l rows])))), by omega, rfl⟩ (by (first|rfl|assumption|(simp only [inI,sl]<;>omega))) ?_
 ·unfold st_insS_Spot_4_1
  (dsimp +instances only [Aa,Ab,Ac,Ad,Ae,Af,Ag])
  refine Ret.n ?_
  (repeat first|refine Ret.p ?_|refine Ret.n ?_)
  exact Ret.some rfl
 ·rintro _ _ rfl
  (dsimp +instances only [Aa,Ab,Ac,Ad,Ae,Af,Ag])
  (repeat first|refine Ret.p ?_|refine Ret.n ?_)
  exact Ret.some rfl
theorem srtVT {Q : List G → Prop} {c : List G → List G → Int} (hz : Int) (hE : ∀ x, Q x → gEta KSpot x = x) (hC : ∀ x y, Q x → Q y → F_r2_WorthSpots_2 [.l [x], .l [y], .l [[.i hz]]] = some [.i (c x y)]) (rows : List (List G)) (hr : ∀ y ∈ rows, Q y) (hn : rows.length ≤ 20) : F_stbS_Spot_4 [.l rows, .i (rows.length : Int), .l [[.i hz]]] = some [.l (sortA (ltC c) rows)] := by
 refine Ret.toEq ?_
 unfold F_stbS_Spot_4
 (dsimp +instances only [Aa,Ab,Ac,Ad,Ae,Af,Ag])
 have hS := srtVF hz hE hC rows hr (by omega)
 have hlen := sortA_length (ltC c) rows
 have h7 : ∀ rows' : List (List G), rows'.length = rows.length → RetL st_stbS_Spot_4_7 [.l rows', .i (rows.length : Int), .l [[.i hz]], .i 20] fun _ g => g = [.l rows'] := by
  intro rows' hl
  refine RetL.stop (x := 0) (Ret.toEq ?_) rfl
  unfold st_stbS_Spot_4_7
  (dsimp +instances only [Aa,Ab,Ac,Ad,Ae,Af,Ag])
  refine Ret.n ?_
  (repeat first|refine Ret.p ?_|refine Ret.n ?_)
  exact Ret.some rfl
 by_cases h20 : rows.length = 20
 ·have h1 : st_stbS_Spot_4_2 [.l rows, .i (rows.length : Int), .l [[.i hz]], .i 20, .i 0, .i 20] = some (none, [.l (sortA (ltC c) rows), .i (rows.length : Int), .l [[.i hz]], .i 20, .i 20, .i 40]) := by
   refine Ret.toEq ?_
   unfold st_stbS_Spot_4_2
   (dsimp +instances only [Aa,Ab,Ac,Ad,Ae,Af,Ag])
   have hS : F_insS_Spot_4 [.l rows, .i 0, .i 20, .l [[.i hz]]] = some [.l (sortA (ltC c) rows)] := by rw [h20] at hS; exact hS
   refine Ret.p (Ret.callb (Ret.eq hS) (by (first|rfl|assumption|(simp only [inI,sl]<;>omega))) ?_)
   rintro _ rfl
   (dsimp +instances only [Aa,Ab,Ac,Ad,Ae,Af,Ag])
   (repeat first|refine Ret.p ?_|refine Ret.n ?_)
   exact Ret.some rfl
  have h2 : st_stbS_Spot_4_2 [.l (sortA (ltC c) rows), .i (rows.length : Int), .l [[.i hz]], .i 20, .i 20, .i 40] = some (some 0, [.l (sortA (ltC c) rows), .i (rows.length : Int), .l [[.i hz]], .i 20, .i 20]) := by
   refine Ret.toEq ?_
   unfold st_stbS_Spot_4_2
   (dsimp +instances only [Aa,Ab,Ac,Ad,Ae,Af,Ag])
   refine Ret.n ?_
   (repeat first|refine Ret.p ?_|refine Ret.n ?_)
   exact Ret.some rfl
  refine Ret.loop (P := fun x g => g = _) ⟨2, 0, _, .next h1 (.stop h2), by omega, rfl⟩ (by (first|rfl|assumption|(simp only [inI,sl]<;>omega))) ?_
  rintro _ _ rfl
  (dsimp +instances only [Aa,Ab,Ac,Ad,Ae,Af,Ag])
  have hE2 : F_insS_Spot_4 [.l (sortA (ltC c) rows), .i 20, .i (rows.length : Int), .l [[.i hz]]] = some [.l (sortA (ltC c) rows)] := by
   rw [h20]; exact srtVN hz hE hC _ 20 20 (by omega) (by omega)
  refine Ret.callb (Ret.eq hE2) (by (first|rfl|assumption|(simp only [inI,sl]<;>omega))) ?_
  rintro _ rfl
  (dsimp +instances only [Aa,Ab,Ac,Ad,Ae,Af,Ag])
  refine Ret.loop (h7 _ hlen) (by (first|rfl|assumption|(simp only [inI,sl]<;>omega))) ?_
  rintro _ _ rfl
  (dsimp +instances only [Aa,Ab,Ac,Ad,Ae,Af,Ag])
  (repeat first|refine Ret.p ?_|refine Ret.n ?_)
  exact Ret.some rfl
 ·have h1 : st_stbS_Spot_4_2 [.l rows, .i (rows.length : Int), .l [[.i hz]], .i 20, .i 0, .i 20] = some (some 0, [.l rows, .i (rows.length : Int), .l [[.i hz]], .i 20, .i 0]) := by
   refine Ret.toEq ?_
   unfold st_stbS_Spot_4_2
   (dsimp +instances only [Aa,Ab,Ac,Ad,Ae,Af,Ag])
   refine Ret.n ?_
   (repeat first|refine Ret.p ?_|refine Ret.n ?_)
   exact Ret.some rfl
  refine Ret.loop (P := fun x g => g = _) ⟨1, 0, _, .stop h1, by omega, rfl⟩ (by (first|rfl|assumption|(simp only [inI,sl]<;>omega))) ?_
  rintro _ _ rfl
  (dsimp +instances only [Aa,Ab,Ac,Ad,Ae,Af,Ag])
  refine Ret.callb (Ret.eq hS) (by (first|rfl|assumption|(simp only [inI,sl]<;>omega))) ?_
  rintro _ rfl
  (dsimp +instances only [Aa,Ab,Ac,Ad,Ae,Af,Ag])
  refine Ret.loop (h7 _ hlen) (by (first|rfl|assumption|(simp only [inI,sl]<;>omega))) ?_
  rintro _ _ rfl
  (dsimp +instances only [Aa,Ab,Ac,Ad,Ae,Af,Ag])
  (repeat first|refine Ret.p ?_|refine Ret.n ?_)
  exact Ret.some rfl
theorem srtV_eq {Q : List G → Prop} {c : List G → List G → Int} (hz : Int) (hE : ∀ x, Q x → gEta KSpot x = x) (hC : ∀ x y, Q x → Q y → F_r2_WorthSpots_2 [.l [x], .l [y], .l [[.i hz]]] = some [.i (c x y)]) (rows : List (List G)) (hr : ∀ y ∈ rows, Q y) (hn : rows.length ≤ 20) : F_srtS_Spot_4 [.l rows, .l [[.i hz]]] = some [.l (sortA (ltC c) rows)] := by
 refine Ret.toEq ?_
 unfold F_srtS_Spot_4
 (dsimp +instances only [Aa,Ab,Ac,Ad,Ae,Af,Ag])
 refine Ret.callb (Ret.eq (srtVT hz hE hC rows hr hn)) (by (first|rfl|assumption|(simp only [inI,sl]<;>omega))) ?_
 rintro _ rfl
 (dsimp +instances only [Aa,Ab,Ac,Ad,Ae,Af,Ag])
 (repeat first|refine Ret.p ?_|refine Ret.n ?_)
 exact Ret.some rfl
theorem srtU4 {Q : List G → Prop} {c : List G → List G → Int} (wy : Int) (hE : ∀ x, Q x → gEta KSpot x = x) (hC : ∀ x y, Q x → Q y → F_r2_tuned_2 [.l [x], .l [y], .l [[.i wy]]] = some [.i (c x y)]) : ∀ (p q : List (List G)) (x : List G) (b i : Int) (j : Nat), (∀ y ∈ p, Q y) → Q x → p.length < 1000000 → j = p.length →
  ∃ m, m ≤ p.length + 1 ∧ Runs st_insS_Spot_5_4 m [.l (p.reverse ++ x :: q), .i 0, .i b, .l [[.i wy]], .i i, .i (j : Int)] 0 [.l ((insA (ltC c) x p).reverse ++ q), .i 0, .i b, .l [[.i wy]], .i i]
 | [], q, x, b, i, j, _, _, _, hj => by
  simp only [List.length_nil] at hj
  subst hj
  refine ⟨1, by simp, .stop (Ret.toEq ?_)⟩
  unfold st_insS_Spot_5_4
  (dsimp +instances only [Aa,Ab,Ac,Ad,Ae,Af,Ag])
  refine Ret.n ?_
  (repeat first|refine Ret.p ?_|refine Ret.n ?_)
  exact Ret.some rfl
 | y :: p, q, x, b, i, j, hp, hx, hl, hj => by
  have hy := hp y List.mem_cons_self
  have e1 : (y :: p).reverse ++ x :: q = (p.reverse ++ [y]) ++ x :: q := by simp
  have e2 : (y :: p).reverse ++ x :: q = p.reverse ++ y :: x :: q := by simp
  simp only [List.length_cons] at hl hj
  have g1 : ((y :: p).reverse ++ x :: q).getD (0 + (j : Int).toNat) [] = x := by rw [e1]; exact getD_mid _ _ _ _ _ (by simp [hj])
  have g2 : ((y :: p).reverse ++ x :: q).getD (0 + ((j : Int) - 1).toNat) [] = y := by rw [e2]; exact getD_mid _ _ _ _ _ (by simp [hj])
  have hlen : ((y :: p).reverse ++ x :: q).length = p.length + q.length + 2 := by simp; omega
  have hcmp := hC x y hx hy
  cases hlt : ltC c x y with
  | false =>
   refine ⟨1, by simp, .stop (Ret.toEq ?_)⟩
   unfold st_insS_Spot_5_4
   (dsimp +instances only [Aa,Ab,Ac,Ad,Ae,Af,Ag])
   simp only [hlen, g1, g2, hE x hx, hE y hy]
   refine Ret.p (Ret.p (Ret.p (Ret.p (Ret.p (Ret.p ?_)))))
   first | refine Ret.call (Ret.eq hcmp) ?_ | refine Ret.callb (Ret.eq hcmp) (by (first|rfl|assumption|(simp only [inI,sl]<;>omega))) ?_
   rintro _ rfl
   (dsimp +instances only [Aa,Ab,Ac,Ad,Ae,Af,Ag])
   refine Ret.neg hlt ?_
   (repeat first|refine Ret.p ?_|refine Ret.n ?_)
   refine Ret.some ?_
   simp [insA, hlt]
  | true =>
   obtain ⟨m, hm, hr⟩ := srtU4 wy hE hC p (y :: q) x b i (j - 1) (fun z hz => hp z (List.mem_cons_of_mem _ hz)) hx (by omega) (by omega)
   refine ⟨m + 1, by simp; omega, .next (Ret.toEq ?_) (by
    have e : (insA (ltC c) x (y :: p)).reverse ++ q = (insA (ltC c) x p).reverse ++ y :: q := by simp [insA, hlt]
    rw [e]; exact hr)⟩
   have s1 : ((y :: p).reverse ++ x :: q).set (0 + (j : Int).toNat) y = p.reverse ++ y :: y :: q := by
    rw [e1, set_mid _ _ _ _ _ (by simp [hj])]; simp
   have s2 : (p.reverse ++ y :: y :: q).set (0 + ((j : Int) - 1).toNat) x = p.reverse ++ x :: y :: q := set_mid _ _ _ _ _ (by simp [hj])
   have g3 : (p.reverse ++ y :: y :: q).getD (0 + ((j : Int) - 1).toNat) [] = y := getD_mid _ _ _ _ _ (by simp [hj])
   have hl2 : (p.reverse ++ y :: y :: q).length = p.length + q.length + 2 := by simp; omega
   have hl3 : (p.reverse ++ x :: y :: q).length = p.length + q.length + 2 := by simp; omega
   have ky : y.length = KSpot.length := by rw [← hE y hy, gEta_length]
   have kx : x.length = KSpot.length := by rw [← hE x hx, gEta_length]
   unfold st_insS_Spot_5_4
   (dsimp +instances only [Aa,Ab,Ac,Ad,Ae,Af,Ag])
   simp only [hlen, g1, g2, hE x hx, hE y hy, putG_all ky, putG_all kx, s1, g3, s2, hl2, hl3]
   refine Ret.p (Ret.p (Ret.p (Ret.p (Ret.p (Ret.p ?_)))))
   first | refine Ret.call (Ret.eq hcmp) ?_ | refine Ret.callb (Ret.eq hcmp) (by (first|rfl|assumption|(simp only [inI,sl]<;>omega))) ?_
   rintro _ rfl
   (dsimp +instances only [Aa,Ab,Ac,Ad,Ae,Af,Ag])
   refine Ret.pos hlt ?_
   (repeat first|refine Ret.p ?_|refine Ret.n ?_)
   refine Ret.some ?_
   try simp only [Int.toNat_natCast]
   rw [show ((j : Int) - 1) = ((j - 1 : Nat) : Int) from by omega]
theorem srtU1 {Q : List G → Prop} {c : List G → List G → Int} (wy : Int) (hE : ∀ x, Q x → gEta KSpot x = x) (hC : ∀ x y, Q x → Q y → F_r2_tuned_2 [.l [x], .l [y], .l [[.i wy]]] = some [.i (c x y)]) : ∀ (r p : List (List G)) (i n : Nat), (∀ y ∈ p, Q y) → (∀ y ∈ r, Q y) → i = p.length → n = p.length + r.length → n < 100000 →
  ∃ m, m ≤ r.length + 1 ∧ Runs st_insS_Spot_5_1 m [.l (p.reverse ++ r), .i 0, .i (n : Int), .l [[.i wy]], .i (i : Int)] 0 [.l (insAll (ltC c) p r).reverse]
 | [], p, i, n, _, _, hi, hn, hs => by
  refine ⟨1, by simp, .stop (Ret.toEq ?_)⟩
  simp only [List.length_nil] at hn
  unfold st_insS_Spot_5_1
  (dsimp +instances only [Aa,Ab,Ac,Ad,Ae,Af,Ag])
  refine Ret.n ?_
  (repeat first|refine Ret.p ?_|refine Ret.n ?_)
  refine Ret.some ?_
  simp [insAll]
 | x :: r, p, i, n, hp, hr, hi, hn, hs => by
  simp only [List.length_cons] at hn
  obtain ⟨m1, hm1, h1⟩ := srtU4 wy hE hC p r x (n : Int) (i : Int) i hp (hr x List.mem_cons_self) (by omega) hi
  obtain ⟨m, hm, h2⟩ := srtU1 wy hE hC r (insA (ltC c) x p) (i + 1) n (insA_all (hr x List.mem_cons_self) hp) (fun y hy => hr y (List.mem_cons_of_mem _ hy)) (by rw [insA_length, hi]) (by rw [insA_length]; omega) hs
  refine ⟨m + 1, by simp; omega, .next (Ret.toEq ?_) h2⟩
  unfold st_insS_Spot_5_1
  (dsimp +instances only [Aa,Ab,Ac,Ad,Ae,Af,Ag])
  refine Ret.p (Ret.loop (P := fun x g => g = _) ⟨m1, 0, _, h1, by omega, rfl⟩ (by (first|rfl|assumption|(simp only [inI,sl]<;>omega))) ?_)
  rintro _ _ rfl
  (dsimp +instances only [Aa,Ab,Ac,Ad,Ae,Af,Ag])
  (repeat first|refine Ret.p ?_|refine Ret.n ?_)
  exact Ret.some rfl
theorem srtUF {Q : List G → Prop} {c : List G → List G → Int} (wy : Int) (hE : ∀ x, Q x → gEta KSpot x = x) (hC : ∀ x y, Q x → Q y → F_r2_tuned_2 [.l [x], .l [y], .l [[.i wy]]] = some [.i (c x y)]) (rows : List (List G)) (hr : ∀ y ∈ rows, Q y) (hn : rows.length < 100000) : F_insS_Spot_5 [.l rows, .i 0, .i (rows.length : Int), .l [[.i wy]]] = some [.l (sortA (ltC c) rows)] := by
 refine Ret.toEq ?_
 unfold F_insS_Spot_5
 (dsimp +instances only [Aa,Ab,Ac,Ad,Ae,Af,Ag])
 refine Ret.p ?_
 cases rows with
 | nil =>
  refine Ret.loop (P := fun x g => g = [.l []]) ⟨1, 0, _, .stop (Ret.toEq (?_ : Ret _ (fun g => g = (some 0, [G.l []])))), by omega, rfl⟩ (by (first|rfl|assumption|(simp only [inI,sl]<;>omega))) ?_
  ·unfold st_insS_Spot_5_1
   (dsimp +instances only [Aa,Ab,Ac,Ad,Ae,Af,Ag])
   refine Ret.n ?_
   (repeat first|refine Ret.p ?_|refine Ret.n ?_)
   exact Ret.some rfl
  ·rintro _ _ rfl
   (dsimp +instances only [Aa,Ab,Ac,Ad,Ae,Af,Ag])
   (repeat first|refine Ret.p ?_|refine Ret.n ?_)
   exact Ret.some rfl
 | cons x r =>
  simp only [List.length_cons] at hn
  obtain ⟨m, hm, h⟩ := srtU1 wy hE hC r [x] 1 (r.length + 1) (by simpa using hr x List.mem_cons_self) (fun y hy => hr y (List.mem_cons_of_mem _ hy)) rfl (by simp; omega) (by omega)
  refine Ret.loop (P := fun y g => g = _) ⟨m, 0, _, h, by omega, rfl⟩ (by (first|rfl|assumption|(simp only [inI,sl]<;>omega))) ?_
  rintro _ _ rfl
  (dsimp +instances only [Aa,Ab,Ac,Ad,Ae,Af,Ag])
  (repeat first|refine Ret.p ?_|refine Ret.n ?_)
  exact Ret.some rfl
theorem srtUN {Q : List G → Prop} {c : List G → List G → Int} (wy : Int) (hE : ∀ x, Q x → gEta KSpot x = x) (hC : ∀ x y, Q x → Q y → F_r2_tuned_2 [.l [x], .l [y], .l [[.i wy]]] = some [.i (c x y)]) (rows : List (List G)) (a b : Nat) (h : b ≤ a) (hn : a < 100000) : F_insS_Spot_5 [.l rows, .i (a : Int), .i (b : Int), .l [[.i wy]]] = some [.l rows] := by
 refine Ret.toEq ?_
 unfold F_insS_Spot_5
 (dsimp +instances only [Aa,Ab,Ac,Ad,Ae,Af,Ag])
 refine Ret.p ?_
 refine Ret.loop (P := fun x g => g = [.l rows]) ⟨1, 0, _, .stop (Ret.toEq (?_ : Ret _ (fun g => g = (some 0, [G.l rows])))), by omega, rfl⟩ (by (first|rfl|assumption|(simp only [inI,sl]<;>omega))) ?_
 ·unfold st_insS_Spot_5_1
  (dsimp +instances only [Aa,Ab,Ac,Ad,Ae,Af,Ag])
  refine Ret.n ?_
  (repeat first|refine Ret.p ?_|refine Ret.n ?_)
  exact Ret.some rfl
 ·rintro _ _ rfl
  (dsimp +instances only [Aa,Ab,Ac,Ad,Ae,Af,Ag])
  (repeat first|refine Ret.p ?_|refine Ret.n ?_)
  exact Ret.some rfl
theorem srtUT {Q : List G → Prop} {c : List G → List G → Int} (wy : Int) (hE : ∀ x, Q x → gEta KSpot x = x) (hC : ∀ x y, Q x → Q y → F_r2_tuned_2 [.l [x], .l [y], .l [[.i wy]]] = some [.i (c x y)]) (rows : List (List G)) (hr : ∀ y ∈ rows, Q y) (hn : rows.length ≤ 20) : F_stbS_Spot_5 [.l rows, .i (rows.length : Int), .l [[.i wy]]] = some [.l (sortA (ltC c) rows)] := by
 refine Ret.toEq ?_
 unfold F_stbS_Spot_5
 (dsimp +instances only [Aa,Ab,Ac,Ad,Ae,Af,Ag])
 have hS := srtUF wy hE hC rows hr (by omega)
 have hlen := sortA_length (ltC c) rows
 have h7 : ∀ rows' : List (List G), rows'.length = rows.length → RetL st_stbS_Spot_5_7 [.l rows', .i (rows.length : Int), .l [[.i wy]], .i 20] fun _ g => g = [.l rows'] := by
  intro rows' hl
  refine RetL.stop (x := 0) (Ret.toEq ?_) rfl
  unfold st_stbS_Spot_5_7
  (dsimp +instances only [Aa,Ab,Ac,Ad,Ae,Af,Ag])
  refine Ret.n ?_
  (repeat first|refine Ret.p ?_|refine Ret.n ?_)
  exact Ret.some rfl
 by_cases h20 : rows.length = 20
 ·have h1 : st_stbS_Spot_5_2 [.l rows, .i (rows.length : Int), .l [[.i wy]], .i 20, .i 0, .i 20] = some (none, [.l (sortA (ltC c) rows), .i (rows.length : Int), .l [[.i wy]], .i 20, .i 20, .i 40]) := by
   refine Ret.toEq ?_
   unfold st_stbS_Spot_5_2
   (dsimp +instances only [Aa,Ab,Ac,Ad,Ae,Af,Ag])
   have hS : F_insS_Spot_5 [.l rows, .i 0, .i 20, .l [[.i wy]]] = some [.l (sortA (ltC c) rows)] := by rw [h20] at hS; exact hS
   refine Ret.p (Ret.callb (Ret.eq hS) (by (first|rfl|assumption|(simp only [inI,sl]<;>omega))) ?_)
   rintro _ rfl
   (dsimp +instances only [Aa,Ab,Ac,Ad,Ae,Af,Ag])
   (repeat first|refine Ret.p ?_|refine Ret.n ?_)
   exact Ret.some rfl
  have h2 : st_stbS_Spot_5_2 [.l (sortA (ltC c) rows), .i (rows.length : Int), .l [[.i wy]], .i 20, .i 20, .i 40] = some (some 0, [.l (sortA (ltC c) rows), .i (rows.length : Int), .l [[.i wy]], .i 20, .i 20]) := by
   refine Ret.toEq ?_
   unfold st_stbS_Spot_5_2
   (dsimp +instances only [Aa,Ab,Ac,Ad,Ae,Af,Ag])
   refine Ret.n ?_
   (repeat first|refine Ret.p ?_|refine Ret.n ?_)
   exact Ret.some rfl
  refine Ret.loop (P := fun x g => g = _) ⟨2, 0, _, .next h1 (.stop h2), by omega, rfl⟩ (by (first|rfl|assumption|(simp only [inI,sl]<;>omega))) ?_
  rintro _ _ rfl
  (dsimp +instances only [Aa,Ab,Ac,Ad,Ae,Af,Ag])
  have hE2 : F_insS_Spot_5 [.l (sortA (ltC c) rows), .i 20, .i (rows.length : Int), .l [[.i wy]]] = some [.l (sortA (ltC c) rows)] := by
   rw [h20]; exact srtUN wy hE hC _ 20 20 (by omega) (by omega)
  refine Ret.callb (Ret.eq hE2) (by (first|rfl|assumption|(simp only [inI,sl]<;>omega))) ?_
  rintro _ rfl
  (dsimp +instances only [Aa,Ab,Ac,Ad,Ae,Af,Ag])
  refine Ret.loop (h7 _ hlen) (by (first|rfl|assumption|(simp only [inI,sl]<;>omega))) ?_
  rintro _ _ rfl
  (dsimp +instances only [Aa,Ab,Ac,Ad,Ae,Af,Ag])
  (repeat first|refine Ret.p ?_|refine Ret.n ?_)
  exact Ret.some rfl
 ·have h1 : st_stbS_Spot_5_2 [.l rows, .i (rows.length : Int), .l [[.i wy]], .i 20, .i 0, .i 20] = some (some 0, [.l rows, .i (rows.length : Int), .l [[.i wy]], .i 20, .i 0]) := by
   refine Ret.toEq ?_
   unfold st_stbS_Spot_5_2
   (dsimp +instances only [Aa,Ab,Ac,Ad,Ae,Af,Ag])
   refine Ret.n ?_
   (repeat first|refine Ret.p ?_|refine Ret.n ?_)
   exact Ret.some rfl
  refine Ret.loop (P := fun x g => g = _) ⟨1, 0, _, .stop h1, by omega, rfl⟩ (by (first|rfl|assumption|(simp only [inI,sl]<;>omega))) ?_
  rintro _ _ rfl
  (dsimp +instances only [Aa,Ab,Ac,Ad,Ae,Af,Ag])
  refine Ret.callb (Ret.eq hS) (by (first|rfl|assumption|(simp only [inI,sl]<;>omega))) ?_
  rintro _ rfl
  (dsimp +instances only [Aa,Ab,Ac,Ad,Ae,Af,Ag])
  refine Ret.loop (h7 _ hlen) (by (first|rfl|assumption|(simp only [inI,sl]<;>omega))) ?_
  rintro _ _ rfl
  (dsimp +instances only [Aa,Ab,Ac,Ad,Ae,Af,Ag])
  (repeat first|refine Ret.p ?_|refine Ret.n ?_)
  exact Ret.some rfl
theorem srtU_eq {Q : List G → Prop} {c : List G → List G → Int} (wy : Int) (hE : ∀ x, Q x → gEta KSpot x = x) (hC : ∀ x y, Q x → Q y → F_r2_tuned_2 [.l [x], .l [y], .l [[.i wy]]] = some [.i (c x y)]) (rows : List (List G)) (hr : ∀ y ∈ rows, Q y) (hn : rows.length ≤ 20) : F_srtS_Spot_5 [.l rows, .l [[.i wy]]] = some [.l (sortA (ltC c) rows)] := by
 refine Ret.toEq ?_
 unfold F_srtS_Spot_5
 (dsimp +instances only [Aa,Ab,Ac,Ad,Ae,Af,Ag])
 refine Ret.callb (Ret.eq (srtUT wy hE hC rows hr hn)) (by (first|rfl|assumption|(simp only [inI,sl]<;>omega))) ?_
 rintro _ rfl
 (dsimp +instances only [Aa,Ab,Ac,Ad,Ae,Af,Ag])
 (repeat first|refine Ret.p ?_|refine Ret.n ?_)
 exact Ret.some rfl
theorem dlWI {Q : List G → Prop} {p : List G → Bool} (lg : List (List G)) (at_ mode : Int) (b : List (List G)) (hE : ∀ x, Q x → gEta KSpot x = x) (hC : ∀ x, Q x → F_r2_WorthSpots_1 [.l [x], .l [[.l lg]], .l [[.i at_]], .l [[.i mode]], .l [[.l b]]] = some [.t (p x)]) (rows : List (List G)) (hr : ∀ y ∈ rows, Q y) (hn : rows.length < 99999) :
  Ret (F_sl_IndexFunc_Spot_2 [.l rows, .l [[.l lg]], .l [[.i at_]], .l [[.i mode]], .l [[.l b]]]) fun g => (∃ q1 x q2, rows = q1 ++ x :: q2 ∧ (∀ y ∈ q1, p y = false) ∧ p x = true ∧ g = [.i (q1.length : Int)]) ∨ (∀ y ∈ rows, p y = false) ∧ g = [.i (-1)] := by
 unfold F_sl_IndexFunc_Spot_2
 (dsimp +instances only [Aa,Ab,Ac,Ad,Ae,Af,Ag])
 refine Ret.loop (find_inv (fun i => [.l rows, .l [[.l lg]], .l [[.i at_]], .l [[.i mode]], .l [[.l b]], .i (rows.length : Int), .i (i : Int)]) rows p (by omega) (fun i x hi hx hm => by
  have hX := hr x hm
  unfold st_sl_IndexFunc_Spot_2_2
  (dsimp +instances only [Aa,Ab,Ac,Ad,Ae,Af,Ag])
  simp only [Int.toNat_natCast, hx, hE x hX]
  refine Ret.p (Ret.p ?_)
  refine Ret.cE (hC x hX) ?_
  (dsimp +instances only [Aa,Ab,Ac,Ad,Ae,Af,Ag])
  cases hp : p x with
  | true => exact Ret.pos rfl (Ret.some rfl)
  | false => exact Ret.neg rfl (Ret.p (Ret.some rfl))) (by
  unfold st_sl_IndexFunc_Spot_2_2
  (dsimp +instances only [Aa,Ab,Ac,Ad,Ae,Af,Ag])
  exact Ret.n (Ret.some rfl))) (by (first|rfl|assumption|(simp only [inI,sl]<;>omega))) ?_
 rintro c g (⟨rfl, q1, x, q2, h1, h2, h3, rfl⟩ | ⟨rfl, rfl, h⟩)
 ·exact Ret.pos rfl (Ret.some (.inl ⟨q1, x, q2, h1, h2, h3, rfl⟩))
 ·exact Ret.neg rfl (Ret.some (.inr ⟨h, rfl⟩))
theorem dlW5 {Q : List G → Prop} {p : List G → Bool} (lg : List (List G)) (at_ mode : Int) (b : List (List G)) (hE : ∀ x, Q x → gEta KSpot x = x) (hC : ∀ x, Q x → F_r2_WorthSpots_1 [.l [x], .l [[.l lg]], .l [[.i at_]], .l [[.i mode]], .l [[.l b]]] = some [.t (p x)]) : ∀ (q kept M : List (List G)) (z : List G), (∀ y ∈ kept ++ (z :: M) ++ q, Q y) → kept.length + M.length + 1 + q.length < 100000 →
  RetN st_sl_DeleteFunc_Spot_5 [.l (kept ++ (z :: M) ++ q), .l [[.l lg]], .l [[.i at_]], .l [[.i mode]], .l [[.l b]], .i (kept.length : Int), .i ((kept.length + M.length + 1 : Nat) : Int)] (q.length + 1) fun c g => c = 0 ∧ ∃ J, g = [.l (kept ++ q.filter (fun y => !p y) ++ J), .i ((kept ++ q.filter (fun y => !p y)).length : Int)] ∧ (kept ++ q.filter (fun y => !p y) ++ J).length = kept.length + M.length + 1 + q.length
 | [], kept, M, z, hQ, hl => by
  simp only [List.length_nil] at hl
  refine RetN.stop (x := 0) (Ret.toEq ?_) ⟨rfl, z :: M, rfl, by simp; omega⟩
  unfold st_sl_DeleteFunc_Spot_5
  (dsimp +instances only [Aa,Ab,Ac,Ad,Ae,Af,Ag])
  (repeat first|refine Ret.p ?_|refine Ret.n ?_)
  refine Ret.some ?_
  simp
 | y :: q, kept, M, z, hQ, hl => by
  simp only [List.length_cons] at hl
  have hy : Q y := hQ y (by simp)
  have hlen : (kept ++ (z :: M) ++ y :: q).length = kept.length + M.length + 2 + q.length := by simp; omega
  have g1 : (kept ++ (z :: M) ++ y :: q).getD (0 + ((kept.length + M.length + 1 : Nat) : Int).toNat) [] = y := getD_mid _ _ _ _ _ (by simp; omega)
  cases he : p y with
  | true =>
   have ih := dlW5 lg at_ mode b hE hC q kept (M ++ [y]) z (by simpa using hQ) (by simp; omega)
   refine RetN.next (Ret.toEq ?_) (ih.mono ?_)
   ·unfold st_sl_DeleteFunc_Spot_5
    (dsimp +instances only [Aa,Ab,Ac,Ad,Ae,Af,Ag])
    simp only [g1, hlen, hE y hy]
    (repeat first|refine Ret.p ?_|refine Ret.n ?_)
    refine Ret.cE (hC y hy) ?_
    (dsimp +instances only [Aa,Ab,Ac,Ad,Ae,Af,Ag])
    simp only [he]
    (repeat first|refine Ret.p ?_|refine Ret.n ?_)
    refine Ret.some ?_
    simp
    omega
   ·rintro c g ⟨rfl, J, rfl, h⟩
    refine ⟨rfl, J, by simp [he], ?_⟩
    have e : (y :: q).filter (fun y => !p y) = q.filter (fun y => !p y) := by simp [he]
    rw [e, h]; simp; omega
  | false =>
   obtain ⟨z', M', e1, e2, e3⟩ : ∃ z' M', M ++ [y] = z' :: M' ∧ M'.length = M.length ∧ ∀ x ∈ z' :: M', x ∈ M ++ [y] := by
    cases M with
    | nil => exact ⟨y, [], rfl, rfl, by simp⟩
    | cons m M => exact ⟨m, M ++ [y], rfl, by simp, by simp⟩
   have ih := dlW5 lg at_ mode b hE hC q (kept ++ [y]) M' z' (by
    intro x hx
    simp only [List.mem_append] at hx
    rcases hx with (hx | hx) | hx
    ·rcases hx with hx | hx
     ·exact hQ x (by simp [hx])
     ·simp at hx; exact hx ▸ hy
    ·have := e3 x hx
     simp only [List.mem_append] at this
     rcases this with h | h
     ·exact hQ x (by simp [h])
     ·simp at h; exact h ▸ hy
    ·exact hQ x (by simp [hx])) (by simp [e2]; omega)
   have ky : y.length = KSpot.length := by rw [← hE y hy, gEta_length]
   have hs : (kept ++ (z :: M) ++ y :: q).set (0 + (kept.length : Int).toNat) y = (kept ++ [y]) ++ (z' :: M') ++ q := by
    rw [← e1]; simp
   have hl2 : ((kept ++ [y]) ++ (z' :: M') ++ q).length = kept.length + M.length + 2 + q.length := by simp [e2]; omega
   refine RetN.next (Ret.toEq ?_) (ih.mono ?_)
   ·unfold st_sl_DeleteFunc_Spot_5
    (dsimp +instances only [Aa,Ab,Ac,Ad,Ae,Af,Ag])
    simp only [g1, hlen, hE y hy, putG_all ky, hs, hl2]
    (repeat first|refine Ret.p ?_|refine Ret.n ?_)
    refine Ret.cE (hC y hy) ?_
    (dsimp +instances only [Aa,Ab,Ac,Ad,Ae,Af,Ag])
    simp only [he]
    (repeat first|refine Ret.p ?_|refine Ret.n ?_)
    refine Ret.some ?_
    simp [e2]
    omega
   ·rintro c g ⟨rfl, J, rfl, h⟩
    have e : kept ++ (y :: q).filter (fun y => !p y) = (kept ++ [y]) ++ q.filter (fun y => !p y) := by simp [he]
    exact ⟨rfl, J, by rw [e], by rw [e, h]; simp [e2]; omega⟩
theorem dlW_eq {Q : List G → Prop} {p : List G → Bool} (lg : List (List G)) (at_ mode : Int) (b : List (List G)) (hE : ∀ x, Q x → gEta KSpot x = x) (hC : ∀ x, Q x → F_r2_WorthSpots_1 [.l [x], .l [[.l lg]], .l [[.i at_]], .l [[.i mode]], .l [[.l b]]] = some [.t (p x)]) (rows : List (List G)) (hr : ∀ y ∈ rows, Q y) (hn : rows.length < 99999) :
  Ret (F_sl_DeleteFunc_Spot [.l rows, .l [[.l lg]], .l [[.i at_]], .l [[.i mode]], .l [[.l b]]]) fun g => ∃ J, g = [.l (rows.filter (fun y => !p y) ++ J), .i ((rows.filter (fun y => !p y)).length : Int)] ∧ (rows.filter (fun y => !p y) ++ J).length = rows.length := by
 unfold F_sl_DeleteFunc_Spot
 (dsimp +instances only [Aa,Ab,Ac,Ad,Ae,Af,Ag])
 refine Ret.callb (dlWI lg at_ mode b hE hC rows hr (by omega)) (by (first|rfl|assumption|(simp only [inI,sl]<;>omega))) ?_
 rintro g (⟨q1, x, q2, h1, h2, h3, rfl⟩ | ⟨h, rfl⟩)
 ·(dsimp +instances only [Aa,Ab,Ac,Ad,Ae,Af,Ag])
  have hl : rows.length = q1.length + 1 + q2.length := by rw [h1]; simp; omega
  (repeat first|refine Ret.p ?_|refine Ret.n ?_)
  have h := dlW5 lg at_ mode b hE hC q2 q1 [] x (by rw [h1] at hr; simpa using hr) (by simp; omega)
  have e : q1 ++ [x] ++ q2 = rows := by rw [h1]; simp
  have ef : rows.filter (fun y => !p y) = q1 ++ q2.filter (fun y => !p y) := by
   rw [h1, List.filter_append, List.filter_cons_of_neg (by simp [h3])]
   congr 1
   exact List.filter_eq_self.2 (by intro y hy; simp [h2 y hy])
  have ei : ((q1.length + ([] : List (List G)).length + 1 : Nat) : Int) = (q1.length : Int) + 1 := by simp
  rw [e, ei, ← ef] at h
  refine Ret.loop (h.to (by omega)) (by (first|rfl|assumption|(simp only [inI,sl]<;>omega))) ?_
  rintro c g ⟨rfl, J, rfl, hJ⟩
  (dsimp +instances only [Aa,Ab,Ac,Ad,Ae,Af,Ag])
  have hJ' : (rows.filter (fun y => !p y) ++ J).length = rows.length := by rw [hJ, hl]; simp
  have hle : (rows.filter (fun y => !p y)).length ≤ rows.length := by rw [← hJ']; simp
  generalize hw : rows.filter (fun y => !p y) = w at *
  simp only [hJ']
  (repeat first|refine Ret.p ?_|refine Ret.n ?_)
  refine Ret.some ⟨List.replicate (rows.length - w.length) zT, ?_, by simp; omega⟩
  have t1 : List.take (0 + (w.length : Int).toNat) (w ++ J) = w := by simp
  have t2 : List.drop (0 + (w.length : Int).toNat + (rows.length - (w.length : Int).toNat)) (w ++ J) = [] := by
   apply List.drop_eq_nil_of_le; rw [hJ']; omega
  rw [t1, t2]
  simp [zT]
 ·(dsimp +instances only [Aa,Ab,Ac,Ad,Ae,Af,Ag])
  (repeat first|refine Ret.p ?_|refine Ret.n ?_)
  have ef : rows.filter (fun y => !p y) = rows := List.filter_eq_self.2 (by intro y hy; simp [h y hy])
  exact Ret.some ⟨[], by rw [ef]; simp, by rw [ef]; simp⟩
theorem dlUI {Q : List G → Prop} {p : List G → Bool} (hz wy fst : Int) (hE : ∀ x, Q x → gEta KSpot x = x) (hC : ∀ x, Q x → F_r2_tuned_1 [.l [x], .l [[.i hz]], .l [[.i wy]], .l [[.i fst]]] = some [.t (p x)]) (rows : List (List G)) (hr : ∀ y ∈ rows, Q y) (hn : rows.length < 99999) :
  Ret (F_sl_IndexFunc_Spot_3 [.l rows, .l [[.i hz]], .l [[.i wy]], .l [[.i fst]]]) fun g => (∃ q1 x q2, rows = q1 ++ x :: q2 ∧ (∀ y ∈ q1, p y = false) ∧ p x = true ∧ g = [.i (q1.length : Int)]) ∨ (∀ y ∈ rows, p y = false) ∧ g = [.i (-1)] := by
 unfold F_sl_IndexFunc_Spot_3
 (dsimp +instances only [Aa,Ab,Ac,Ad,Ae,Af,Ag])
 refine Ret.loop (find_inv (fun i => [.l rows, .l [[.i hz]], .l [[.i wy]], .l [[.i fst]], .i (rows.length : Int), .i (i : Int)]) rows p (by omega) (fun i x hi hx hm => by
  have hX := hr x hm
  unfold st_sl_IndexFunc_Spot_3_2
  (dsimp +instances only [Aa,Ab,Ac,Ad,Ae,Af,Ag])
  simp only [Int.toNat_natCast, hx, hE x hX]
  refine Ret.p (Ret.p ?_)
  refine Ret.cE (hC x hX) ?_
  (dsimp +instances only [Aa,Ab,Ac,Ad,Ae,Af,Ag])
  cases hp : p x with
  | true => exact Ret.pos rfl (Ret.some rfl)
  | false => exact Ret.neg rfl (Ret.p (Ret.some rfl))) (by
  unfold st_sl_IndexFunc_Spot_3_2
  (dsimp +instances only [Aa,Ab,Ac,Ad,Ae,Af,Ag])
  exact Ret.n (Ret.some rfl))) (by (first|rfl|assumption|(simp only [inI,sl]<;>omega))) ?_
 rintro c g (⟨rfl, q1, x, q2, h1, h2, h3, rfl⟩ | ⟨rfl, rfl, h⟩)
 ·exact Ret.pos rfl (Ret.some (.inl ⟨q1, x, q2, h1, h2, h3, rfl⟩))
 ·exact Ret.neg rfl (Ret.some (.inr ⟨h, rfl⟩))
theorem dlU5 {Q : List G → Prop} {p : List G → Bool} (hz wy fst : Int) (hE : ∀ x, Q x → gEta KSpot x = x) (hC : ∀ x, Q x → F_r2_tuned_1 [.l [x], .l [[.i hz]], .l [[.i wy]], .l [[.i fst]]] = some [.t (p x)]) : ∀ (q kept M : List (List G)) (z : List G), (∀ y ∈ kept ++ (z :: M) ++ q, Q y) → kept.length + M.length + 1 + q.length < 100000 →
  RetN st_sl_DeleteFunc_Spot_2_5 [.l (kept ++ (z :: M) ++ q), .l [[.i hz]], .l [[.i wy]], .l [[.i fst]], .i (kept.length : Int), .i ((kept.length + M.length + 1 : Nat) : Int)] (q.length + 1) fun c g => c = 0 ∧ ∃ J, g = [.l (kept ++ q.filter (fun y => !p y) ++ J), .i ((kept ++ q.filter (fun y => !p y)).length : Int)] ∧ (kept ++ q.filter (fun y => !p y) ++ J).length = kept.length + M.length + 1 + q.length
 | [], kept, M, z, hQ, hl => by
  simp only [List.length_nil] at hl
  refine RetN.stop (x := 0) (Ret.toEq ?_) ⟨rfl, z :: M, rfl, by simp; omega⟩
  unfold st_sl_DeleteFunc_Spot_2_5
  (dsimp +instances only [Aa,Ab,Ac,Ad,Ae,Af,Ag])
  (repeat first|refine Ret.p ?_|refine Ret.n ?_)
  refine Ret.some ?_
  simp
 | y :: q, kept, M, z, hQ, hl => by
  simp only [List.length_cons] at hl
  have hy : Q y := hQ y (by simp)
  have hlen : (kept ++ (z :: M) ++ y :: q).length = kept.length + M.length + 2 + q.length := by simp; omega
  have g1 : (kept ++ (z :: M) ++ y :: q).getD (0 + ((kept.length + M.length + 1 : Nat) : Int).toNat) [] = y := getD_mid _ _ _ _ _ (by simp; omega)
  cases he : p y with
  | true =>
   have ih := dlU5 hz wy fst hE hC q kept (M ++ [y]) z (by simpa using hQ) (by simp; omega)
   refine RetN.next (Ret.toEq ?_) (ih.mono ?_)
   ·unfold st_sl_DeleteFunc_Spot_2_5
    (dsimp +instances only [Aa,Ab,Ac,Ad,Ae,Af,Ag])
    simp only [g1, hlen, hE y hy]
    (repeat first|refine Ret.p ?_|refine Ret.n ?_)
    refine Ret.cE (hC y hy) ?_
    (dsimp +instances only [Aa,Ab,Ac,Ad,Ae,Af,Ag])
    simp only [he]
    (repeat first|refine Ret.p ?_|refine Ret.n ?_)
    refine Ret.some ?_
    simp
    omega
   ·rintro c g ⟨rfl, J, rfl, h⟩
    refine ⟨rfl, J, by simp [he], ?_⟩
    have e : (y :: q).filter (fun y => !p y) = q.filter (fun y => !p y) := by simp [he]
    rw [e, h]; simp; omega
  | false =>
   obtain ⟨z', M', e1, e2, e3⟩ : ∃ z' M', M ++ [y] = z' :: M' ∧ M'.length = M.length ∧ ∀ x ∈ z' :: M', x ∈ M ++ [y] := by
    cases M with
    | nil => exact ⟨y, [], rfl, rfl, by simp⟩
    | cons m M => exact ⟨m, M ++ [y], rfl, by simp, by simp⟩
   have ih := dlU5 hz wy fst hE hC q (kept ++ [y]) M' z' (by
    intro x hx
    simp only [List.mem_append] at hx
    rcases hx with (hx | hx) | hx
    ·rcases hx with hx | hx
     ·exact hQ x (by simp [hx])
     ·simp at hx; exact hx ▸ hy
    ·have := e3 x hx
     simp only [List.mem_append] at this
     rcases this with h | h
     ·exact hQ x (by simp [h])
     ·simp at h; exact h ▸ hy
    ·exact hQ x (by simp [hx])) (by simp [e2]; omega)
   have ky : y.length = KSpot.length := by rw [← hE y hy, gEta_length]
   have hs : (kept ++ (z :: M) ++ y :: q).set (0 + (kept.length : Int).toNat) y = (kept ++ [y]) ++ (z' :: M') ++ q := by
    rw [← e1]; simp
   have hl2 : ((kept ++ [y]) ++ (z' :: M') ++ q).length = kept.length + M.length + 2 + q.length := by simp [e2]; omega
   refine RetN.next (Ret.toEq ?_) (ih.mono ?_)
   ·unfold st_sl_DeleteFunc_Spot_2_5
    (dsimp +instances only [Aa,Ab,Ac,Ad,Ae,Af,Ag])
    simp only [g1, hlen, hE y hy, putG_all ky, hs, hl2]
    (repeat first|refine Ret.p ?_|refine Ret.n ?_)
    refine Ret.cE (hC y hy) ?_
    (dsimp +instances only [Aa,Ab,Ac,Ad,Ae,Af,Ag])
    simp only [he]
    (repeat first|refine Ret.p ?_|refine Ret.n ?_)
    refine Ret.some ?_
    simp [e2]
    omega
   ·rintro c g ⟨rfl, J, rfl, h⟩
    have e : kept ++ (y :: q).filter (fun y => !p y) = (kept ++ [y]) ++ q.filter (fun y => !p y) := by simp [he]
    exact ⟨rfl, J, by rw [e], by rw [e, h]; simp [e2]; omega⟩
theorem dlU_eq {Q : List G → Prop} {p : List G → Bool} (hz wy fst : Int) (hE : ∀ x, Q x → gEta KSpot x = x) (hC : ∀ x, Q x → F_r2_tuned_1 [.l [x], .l [[.i hz]], .l [[.i wy]], .l [[.i fst]]] = some [.t (p x)]) (rows : List (List G)) (hr : ∀ y ∈ rows, Q y) (hn : rows.length < 99999) :
  Ret (F_sl_DeleteFunc_Spot_2 [.l rows, .l [[.i hz]], .l [[.i wy]], .l [[.i fst]]]) fun g => ∃ J, g = [.l (rows.filter (fun y => !p y) ++ J), .i ((rows.filter (fun y => !p y)).length : Int)] ∧ (rows.filter (fun y => !p y) ++ J).length = rows.length := by
 unfold F_sl_DeleteFunc_Spot_2
 (dsimp +instances only [Aa,Ab,Ac,Ad,Ae,Af,Ag])
 refine Ret.callb (dlUI hz wy fst hE hC rows hr (by omega)) (by (first|rfl|assumption|(simp only [inI,sl]<;>omega))) ?_
 rintro g (⟨q1, x, q2, h1, h2, h3, rfl⟩ | ⟨h, rfl⟩)
 ·(dsimp +instances only [Aa,Ab,Ac,Ad,Ae,Af,Ag])
  have hl : rows.length = q1.length + 1 + q2.length := by rw [h1]; simp; omega
  (repeat first|refine Ret.p ?_|refine Ret.n ?_)
  have h := dlU5 hz wy fst hE hC q2 q1 [] x (by rw [h1] at hr; simpa using hr) (by simp; omega)
  have e : q1 ++ [x] ++ q2 = rows := by rw [h1]; simp
  have ef : rows.filter (fun y => !p y) = q1 ++ q2.filter (fun y => !p y) := by
   rw [h1, List.filter_append, List.filter_cons_of_neg (by simp [h3])]
   congr 1
   exact List.filter_eq_self.2 (by intro y hy; simp [h2 y hy])
  have ei : ((q1.length + ([] : List (List G)).length + 1 : Nat) : Int) = (q1.length : Int) + 1 := by simp
  rw [e, ei, ← ef] at h
  refine Ret.loop (h.to (by omega)) (by (first|rfl|assumption|(simp only [inI,sl]<;>omega))) ?_
  rintro c g ⟨rfl, J, rfl, hJ⟩
  (dsimp +instances only [Aa,Ab,Ac,Ad,Ae,Af,Ag])
  have hJ' : (rows.filter (fun y => !p y) ++ J).length = rows.length := by rw [hJ, hl]; simp
  have hle : (rows.filter (fun y => !p y)).length ≤ rows.length := by rw [← hJ']; simp
  generalize hw : rows.filter (fun y => !p y) = w at *
  simp only [hJ']
  (repeat first|refine Ret.p ?_|refine Ret.n ?_)
  refine Ret.some ⟨List.replicate (rows.length - w.length) zT, ?_, by simp; omega⟩
  have t1 : List.take (0 + (w.length : Int).toNat) (w ++ J) = w := by simp
  have t2 : List.drop (0 + (w.length : Int).toNat + (rows.length - (w.length : Int).toNat)) (w ++ J) = [] := by
   apply List.drop_eq_nil_of_le; rw [hJ']; omega
  rw [t1, t2]
  simp [zT]
 ·(dsimp +instances only [Aa,Ab,Ac,Ad,Ae,Af,Ag])
  (repeat first|refine Ret.p ?_|refine Ret.n ?_)
  have ef : rows.filter (fun y => !p y) = rows := List.filter_eq_self.2 (by intro y hy; simp [h y hy])
  exact Ret.some ⟨[], by rw [ef]; simp, by rw [ef]; simp⟩
section
variable {b : List (List G)} {life at_ : Int}
theorem heardSpotsN_ok (hb : Own b) (hbn : b.length ≤ 1000) (h1 : b50 life) (h2 : b50 at_) (l : List (List G)) (hl : ∀ z ∈ l, Spt z) (hn : l.length ≤ 2000) :
  F_r2_HeardSpots_f [.l b, .l l, .i life, .i at_] = some [.l (hsL b life at_ l)] := by
 refine Ret.toEq ?_
 unfold F_r2_HeardSpots_f
 (dsimp +instances only [Aa,Ab,Ac,Ad,Ae,Af,Ag])
 have r := range_all (st := st_r2_HeardSpots_f_3) (σ := List (List G)) (fun out i => [.l b, .i life, .i at_, .l out, .l l, .l l, .i (l.length : Int), .i (i : Int)]) l (fun out => (0, [.l out]))
  (fun out i => out ++ hsL b life at_ (l.drop i) = hsL b life at_ l ∧ out.length ≤ i) [] (by omega) ⟨by simp, by simp⟩
  (fun out i x hI hi hx hm ht => by
   obtain ⟨hI, hlen⟩ := hI
   have hX := hl x hm
   have ed : l.drop i = x :: l.drop (i + 1) := by
    rw [List.drop_eq_getElem_cons hi, ← hx, List.getD_eq_getElem?_getD, List.getElem?_eq_getElem hi]
    rfl
   have ei : ((i : Int) + 1).toNat = i + 1 := by omega
   rw [ed] at hI
   have hI : out ++ (bif cntS b life at_ x && !lateS b life at_ x (l.drop (i + 1)) then x :: hsL b life at_ (l.drop (i + 1)) else hsL b life at_ (l.drop (i + 1))) = hsL b life at_ l := hI
   have hD : ∀ z ∈ l.drop (i + 1), Spt z := fun z hz => hl z (List.mem_of_mem_drop hz)
   obtain ⟨t0, h0, c0, y0, hxe, _⟩ := id hX
   have e0 : ([.i (gi x 0).int, .i (gi x 1).int, .s (gi x 2).str, .s (gi x 3).str] : List G) = x := by
    rw [hxe]
    rfl
   unfold st_r2_HeardSpots_f_3
   (dsimp +instances only [Aa,Ab,Ac,Ad,Ae,Af,Ag])
   simp only [Int.toNat_natCast, hx, ei]
   refine Ret.p (Ret.p (Ret.p (Ret.p ?_)))
   refine Ret.cE (containsLate hb hbn h1 h2 hX (l.drop (i + 1)) hD (by rw [List.length_drop]; omega)) ?_
   (dsimp +instances only [Aa,Ab,Ac,Ad,Ae,Af,Ag])
   rw [e0]
   refine Ret.cE (counts_ok hb hbn h1 h2 hX) ?_
   (dsimp +instances only [Aa,Ab,Ac,Ad,Ae,Af,Ag])
   refine Ret.test (fun q1 => ?_) fun q1 => ?_
   ·refine Ret.test (fun q2 => ?_) fun q2 => ?_
    ·rw [q1, q2] at hI
     (repeat first|refine Ret.p ?_|refine Ret.n ?_)
     refine Ret.some ⟨out ++ [x], by simp, by simpa using hI, by simp; omega⟩
    ·have q2 : lateS b life at_ x (l.drop (i + 1)) = true := by simpa using q2
     rw [q1, q2] at hI
     (repeat first|refine Ret.p ?_|refine Ret.n ?_)
     exact Ret.some ⟨out, by simp, by simpa using hI, by omega⟩
   ·rw [q1] at hI
    (repeat first|refine Ret.p ?_|refine Ret.n ?_)
    exact Ret.some ⟨out, by simp, by simpa using hI, by omega⟩)
  (fun out hI => by
   have hlen := hI.2
   unfold st_r2_HeardSpots_f_3
   (dsimp +instances only [Aa,Ab,Ac,Ad,Ae,Af,Ag])
   (repeat first|refine Ret.p ?_|refine Ret.n ?_)
   exact Ret.some rfl)
 refine Ret.loop r rfl ?_
 rintro c g ⟨out, ⟨hI, hlen⟩, rfl, rfl⟩
 rw [List.drop_length] at hI
 have hI : out = hsL b life at_ l := by simpa [hsL] using hI
 subst hI
 (dsimp +instances only [Aa,Ab,Ac,Ad,Ae,Af,Ag])
 (repeat first|refine Ret.p ?_|refine Ret.n ?_)
 exact Ret.some rfl
end
theorem isModeY (t : Int) : F_kit_IsMode [.i t] = some [.t (inB t 1 3)] := by
 unfold F_kit_IsMode
 (dsimp +instances only [Aa,Ab,Ac,Ad,Ae,Af,Ag])
 rw [outside_eq]
 show some [G.t (!(!inB t 1 3))] = _
 rw [Bool.not_not]
def sgnW (v : Int) : Int := if v < 0 then -1 else if 0 < v then 1 else 0
theorem signW (v : Int) : F_r2_sign [.i v] = some [.i (sgnW v)] := by
 refine Ret.toEq ?_
 unfold F_r2_sign sgnW
 (dsimp +instances only [Aa,Ab,Ac,Ad,Ae,Af,Ag])
 by_cases h1 : v < 0
 ·(repeat first|refine Ret.p ?_|refine Ret.n ?_)
  exact Ret.some (by simp [h1])
 ·by_cases h2 : 0 < v
  ·(repeat first|refine Ret.p ?_|refine Ret.n ?_)
   exact Ret.some (by simp [h1, h2])
  ·(repeat first|refine Ret.p ?_|refine Ret.n ?_)
   exact Ret.some (by simp [h1, h2])
theorem sgnW_neg (v : Int) : (sgnW v < 0) = (v < 0) := by
 unfold sgnW
 split
 ·rename_i h
  simp [h]
 ·split
  ·rename_i h h'
   simp [h]
  ·rename_i h h'
   simp [h]
def apI (h hz : Int) : Int := if (hz - h) > (h - hz) then (hz - h) else (h - hz)
theorem apI_b {h hz : Int} (h1 : b50 h) (h2 : b50 hz) : 0 ≤ apI h hz ∧ apI h hz ≤ 4000000000000000 := by
 unfold b50 at h1 h2
 unfold apI
 split <;> omega
theorem apart_ok {h hz : Int} (h1 : b50 h) (h2 : b50 hz) : F_r2_apart [.i h, .i hz] = some [.i (apI h hz)] := by
 unfold b50 at h1 h2
 refine Ret.toEq ?_
 unfold F_r2_apart apI
 (dsimp +instances only [Aa,Ab,Ac,Ad,Ae,Af,Ag])
 (repeat first|refine Ret.p ?_|refine Ret.n ?_)
 exact Ret.some rfl
theorem Spt.hz {s : List G} (h : Spt s) : b50 (gi s 1).int := by
 obtain ⟨t, h, c, y, rfl, _, hh, _⟩ := h
 exact hh
theorem Spt.call {s : List G} (h : Spt s) : (gi s 2).str ∈ calls := by
 obtain ⟨t, h, c, y, rfl, _, _, hc, _⟩ := h
 exact hc
def cW (hz : Int) (x y : List G) : Int := apI (gi x 1).int hz - apI (gi y 1).int hz
theorem far_ok {s : List G} {hz : Int} (hs : Spt s) (h2 : b50 hz) : F_band_Worth_1 [.l [s], .l [[.i hz]]] = some [.i (apI (gi s 1).int hz)] := by
 have h1 := hs.hz
 unfold b50 at h1 h2
 refine Ret.toEq ?_
 unfold F_band_Worth_1 apI
 (dsimp +instances only [Aa,Ab,Ac,Ad,Ae,Af,Ag])
 (repeat first|refine Ret.p ?_|refine Ret.n ?_)
 exact Ret.some rfl
theorem cmpW {hz : Int} (h2 : b50 hz) (x y : List G) (hx : Spt x) (hy : Spt y) : F_band_Worth_2 [.i hz, .l [x], .l [y]] = some [.i hz, .i (cW hz x y)] := by
 have b1 := apI_b hx.hz h2
 have b2 := apI_b hy.hz h2
 refine Ret.toEq ?_
 unfold F_band_Worth_2 cW
 (dsimp +instances only [Aa,Ab,Ac,Ad,Ae,Af,Ag])
 simp only [hx.eta, hy.eta]
 refine Ret.cE (far_ok hx h2) ?_
 (dsimp +instances only [Aa,Ab,Ac,Ad,Ae,Af,Ag])
 refine Ret.cE (far_ok hy h2) ?_
 (dsimp +instances only [Aa,Ab,Ac,Ad,Ae,Af,Ag])
 (repeat first|refine Ret.p ?_|refine Ret.n ?_)
 exact Ret.some rfl
theorem cmpV {hz : Int} (h2 : b50 hz) (x y : List G) (hx : Spt x) (hy : Spt y) : F_r2_WorthSpots_2 [.l [x], .l [y], .l [[.i hz]]] = some [.i (sgnW (cW hz x y))] := by
 have b1 := apI_b hx.hz h2
 have b2 := apI_b hy.hz h2
 refine Ret.toEq ?_
 unfold F_r2_WorthSpots_2 cW
 (dsimp +instances only [Aa,Ab,Ac,Ad,Ae,Af,Ag])
 refine Ret.cE (apart_ok hx.hz h2) ?_
 refine Ret.cE (apart_ok hy.hz h2) ?_
 (dsimp +instances only [Aa,Ab,Ac,Ad,Ae,Af,Ag])
 refine Ret.p ?_
 refine Ret.cE (signW _) ?_
 exact Ret.some rfl
theorem ltC_sgn (c : List G → List G → Int) : ltC (fun x y => sgnW (c x y)) = ltC c := by
 funext x y
 unfold ltC
 rw [ltI_eq, ltI_eq]
 simp only [sgnW_neg]
/-! ### Who was worked -/
theorem Con.calls3 {c : List G} (h : Con c) : (gi c 3).str ∈ calls := by
 obtain ⟨t, m, bd, cl, s, hh, x, y, rfl, _, _, _, _, _, hc, _⟩ := h
 exact hc
def wkdB (lg : List (List G)) (at_ mode : Int) (b : List (List G)) (s : List G) : Bool :=
 lg.any fun c => leI (gi c 0).int at_ && ((gi c 1).int == mode && (((gi c 2).str.toList == (bkey (inBand (gi s 1).int) b).toList) && ((baseOf (gi c 3).str).toList == (baseOf (gi s 2).str).toList)))
theorem worked1 {b : List (List G)} {at_ mode : Int} (hbn : b.length ≤ 1000) {c s : List G} (hc : Con c) (hs : Spt s) : F_r2_WorthSpots_1_1 [.l [c], .l [[.i at_]], .l [[.i mode]], .l [[.l b]], .l [s]] =
  some [.t (leI (gi c 0).int at_ && ((gi c 1).int == mode && (((gi c 2).str.toList == (bkey (inBand (gi s 1).int) b).toList) && ((baseOf (gi c 3).str).toList == (baseOf (gi s 2).str).toList))))] := by
 refine Ret.toEq ?_
 unfold F_r2_WorthSpots_1_1
 (dsimp +instances only [Aa,Ab,Ac,Ad,Ae,Af,Ag])
 refine Ret.test (fun q1 => ?_) fun q1 => ?_
 ·rw [q1]
  refine Ret.test (fun q2 => ?_) fun q2 => ?_
  ·rw [q2]
   refine Ret.cE (bandAt_ok b _ (by omega)) ?_
   (dsimp +instances only [Aa,Ab,Ac,Ad,Ae,Af,Ag])
   refine Ret.test (fun q3 => ?_) fun q3 => ?_
   ·rw [q3]
    refine Ret.cE (baseRef_eq hc.calls3) ?_
    refine Ret.cE (baseRef_eq hs.call) ?_
    exact Ret.some rfl
   ·rw [q3]
    exact Ret.some rfl
  ·rw [q2]
   exact Ret.some rfl
 ·rw [q1]
  exact Ret.some rfl
theorem worked_ok {b lg : List (List G)} {at_ mode : Int} (hbn : b.length ≤ 1000) (hlg : ∀ z ∈ lg, Con z) (hn : lg.length ≤ 2000) {s : List G} (hs : Spt s) :
  F_r2_WorthSpots_1 [.l [s], .l [[.l lg]], .l [[.i at_]], .l [[.i mode]], .l [[.l b]]] = some [.t (wkdB lg at_ mode b s)] := by
 have key : Ret (F_sl_IndexFunc_Contact [.l lg, .l [[.i at_]], .l [[.i mode]], .l [[.l b]], .l [s]]) fun g => ∃ n : Int, g = [.i n] ∧ leI 0 n = wkdB lg at_ mode b s := by
  unfold F_sl_IndexFunc_Contact
  (dsimp +instances only [Aa,Ab,Ac,Ad,Ae,Af,Ag])
  simp only [hs.eta]
  refine Ret.loop (find_pre (fun i => [.l lg, .l [[.i at_]], .l [[.i mode]], .l [[.l b]], .l [s], .i (lg.length : Int), .i (i : Int)]) lg (fun c => leI (gi c 0).int at_ && ((gi c 1).int == mode && (((gi c 2).str.toList == (bkey (inBand (gi s 1).int) b).toList) && ((baseOf (gi c 3).str).toList == (baseOf (gi s 2).str).toList)))) [] (by omega)
   (fun i x hi hx hm => by
    have hX := hlg x hm
    unfold st_sl_IndexFunc_Contact_2
    (dsimp +instances only [Aa,Ab,Ac,Ad,Ae,Af,Ag])
    simp only [Int.toNat_natCast, hx, hX.eta, hs.eta]
    refine Ret.p (Ret.p ?_)
    refine Ret.cE (worked1 hbn hX hs) ?_
    (dsimp +instances only [Aa,Ab,Ac,Ad,Ae,Af,Ag])
    refine Ret.test (fun hp => ?_) fun hp => ?_
    ·rw [hp]
     exact Ret.some rfl
    ·rw [hp]
     exact Ret.p (Ret.some rfl)) ?_) rfl ?_
  ·unfold st_sl_IndexFunc_Contact_2
   (dsimp +instances only [Aa,Ab,Ac,Ad,Ae,Af,Ag])
   refine Ret.n (Ret.some rfl)
  ·rintro _ _ (⟨rfl, h, i, rfl⟩ | ⟨rfl, rfl, h⟩)
   ·refine Ret.pos rfl (Ret.some ⟨_, rfl, ?_⟩)
    unfold wkdB
    rw [h]
    simp [leI_eq, gi, G.int]
   ·refine Ret.neg rfl (Ret.some ⟨_, rfl, ?_⟩)
    unfold wkdB
    rw [h]
    rfl
 refine Ret.toEq ?_
 unfold F_r2_WorthSpots_1 F_sl_ContainsFunc_Contact
 (dsimp +instances only [Aa,Ab,Ac,Ad,Ae,Af,Ag])
 simp only [hs.eta]
 refine Ret.call (P := fun g => g = [.t (wkdB lg at_ mode b s)]) ?_ ?_
 ·refine Ret.call key ?_
  rintro _ ⟨n, rfl, hn⟩
  (dsimp +instances only [Aa,Ab,Ac,Ad,Ae,Af,Ag])
  rw [hn]
  exact Ret.some rfl
 ·rintro _ rfl
  exact Ret.some rfl
def worL (b x lg : List (List G)) (mode life at_ hz : Int) : List (List G) := sortA (ltC (cW hz)) ((hsL b life at_ x).filter fun s => !wkdB lg at_ mode b s)
theorem worL_mem {b x lg : List (List G)} {mode life at_ hz : Int} {z : List G} (h : z ∈ worL b x lg mode life at_ hz) : z ∈ hsL b life at_ x ∧ wkdB lg at_ mode b z = false := by
 have h := (sortA_perm (lt := ltC (cW hz)) _).mem_iff.1 h
 have h := List.mem_filter.1 h
 exact ⟨h.1, by simpa using h.2⟩
theorem worL_length (b x lg : List (List G)) (mode life at_ hz : Int) : (worL b x lg mode life at_ hz).length ≤ x.length := by
 unfold worL
 rw [sortA_length]
 exact Nat.le_trans (List.length_filter_le _ _) (hsL_length x)
theorem worthSpots_ok (b x lg : List (List G)) (mode life at_ hz : Int) (hO : Own b) (hbn : b.length ≤ 20) (hl : ∀ z ∈ x, Spt z) (hn : x.length ≤ 20) (hlg : ∀ z ∈ lg, Con z) (hlgn : lg.length ≤ 2000) (h1 : b50 life) (h2 : b50 at_) (h3 : b50 hz) :
  F_r2_WorthSpots [.l b, .l x, .l lg, .i mode, .i life, .i at_, .i hz] = some [.l (worL b x lg mode life at_ hz)] := by
 refine Ret.toEq ?_
 unfold F_r2_WorthSpots worL
 (dsimp +instances only [Aa,Ab,Ac,Ad,Ae,Af,Ag])
 refine Ret.cE (heardSpotsN_ok hO (by omega) h1 h2 x hl (by omega)) ?_
 have hlen := hsL_length (b := b) (life := life) (at_ := at_) x
 have hS : ∀ z ∈ hsL b life at_ x, Spt z := fun z hz => hl z (hsL_mem hz).1
 generalize hsL b life at_ x = hs at hlen hS ⊢
 (dsimp +instances only [Aa,Ab,Ac,Ad,Ae,Af,Ag])
 refine Ret.callb (dlW_eq lg at_ mode b (Q := Spt) (p := wkdB lg at_ mode b) (fun _ h => h.eta) (fun s hs => worked_ok (by omega) hlg hlgn hs) hs hS (by omega)) (by (first|rfl|assumption|(simp only [inI,sl]<;>omega))) ?_
 rintro _ ⟨J, rfl, hJ⟩
 (dsimp +instances only [Aa,Ab,Ac,Ad,Ae,Af,Ag])
 have hfl := List.length_filter_le (fun y => !wkdB lg at_ mode b y) hs
 have hF : ∀ z ∈ hs.filter (fun y => !wkdB lg at_ mode b y), Spt z := fun z hz => hS z (List.mem_filter.1 hz).1
 have et : (hs.filter (fun y => !wkdB lg at_ mode b y) ++ J).take ((hs.filter (fun y => !wkdB lg at_ mode b y)).length : Int).toNat = hs.filter (fun y => !wkdB lg at_ mode b y) := by simp
 rw [et]
 generalize hs.filter (fun y => !wkdB lg at_ mode b y) = fl at *
 have hsl := sortA_length (ltC (cW hz)) fl
 have hso := srtV_eq hz (Q := Spt) (c := fun x y => sgnW (cW hz x y)) (fun _ h => h.eta) (fun x y hx hy => cmpV h3 x y hx hy) fl hF (by omega)
 rw [ltC_sgn] at hso
 refine Ret.pos (by simp [Nat.ble_eq]) ?_
 refine Ret.callb (Ret.eq hso) (by simp) ?_
 rintro _ rfl
 (dsimp +instances only [Aa,Ab,Ac,Ad,Ae,Af,Ag])
 simp only [Int.toNat_natCast]
 refine Ret.pos (by rw [hsl]; (first|rfl|assumption|(simp only [inI,sl]<;>omega))) (Ret.some rfl)
def logF (b x lg : List (List G)) (mode life at_ hz : Int) : Int :=
 firstE [firstE [faultBands b, faultSpots x], faultLog lg, bif inB mode 1 3 then 0 else 4, faultAsked life at_ hz]
theorem done_loop (b x lg : List (List G)) (mode life at_ hz : Int) (hlg : ∀ z ∈ lg, Con z) (hn : lg.length ≤ 2000) :
  RetL st_band_Worth_14 [.i hz, .l [], .i 0, .l b, .l x, .i mode, .i life, .i at_, .l lg, .i (lg.length : Int), .i 0] fun c g => c = 0 ∧ ∃ (mm : List (List G)) (ck : Nat), g = [.i hz, .l mm, .i (ck : Int), .l b, .l x, .i life, .i at_] ∧
   ∀ k, (gi (mget [Kd.str, .str] mm k [.t false]) 0).bool = lg.any fun c => leI (gi c 0).int at_ && ((gi c 1).int == mode && rowEq [Kd.str, .str] k [.s (baseOf (gi c 3).str), .s (gi c 2).str]) := by
 have r := range_all (st := st_band_Worth_14) (σ := List (List G) × Nat) (fun s i => [.i hz, .l s.1, .i (s.2 : Int), .l b, .l x, .i mode, .i life, .i at_, .l lg, .i (lg.length : Int), .i (i : Int)]) lg (fun s => (0, [.i hz, .l s.1, .i (s.2 : Int), .l b, .l x, .i life, .i at_]))
  (fun s i => ∀ k, (gi (mget [Kd.str, .str] s.1 k [.t false]) 0).bool = (lg.take i).any fun c => leI (gi c 0).int at_ && ((gi c 1).int == mode && rowEq [Kd.str, .str] k [.s (baseOf (gi c 3).str), .s (gi c 2).str])) ([], 0) (by omega) (fun k => by simp [mget_nil, gi, G.bool])
  (fun s i c hI hi hx hm ht => by
   have hC := hlg c hm
   unfold st_band_Worth_14
   (dsimp +instances only [Aa,Ab,Ac,Ad,Ae,Af,Ag])
   simp only [Int.toNat_natCast, hx]
   refine Ret.p (Ret.p ?_)
   refine Ret.test (fun q1 => ?_) fun q1 => ?_
   ·refine Ret.test (fun q2 => ?_) fun q2 => ?_
    ·refine Ret.call (Ret.eq (base_eq hC.calls3)) ?_
     rintro _ rfl
     (dsimp +instances only [Aa,Ab,Ac,Ad,Ae,Af,Ag])
     (repeat first|refine Ret.p ?_|refine Ret.n ?_)
     refine Ret.some ⟨(mput [Kd.str, .str] s.1 [.s (baseOf (gi c 3).str), .s (gi c 2).str] [.t true] s.2, mclk [Kd.str, .str] s.1 [.s (baseOf (gi c 3).str), .s (gi c 2).str] s.2), by simp, fun k => ?_⟩
     rw [mget_mput, ht, List.any_append, ← hI k]
     have e : ([c].any fun c => leI (gi c 0).int at_ && ((gi c 1).int == mode && rowEq [Kd.str, .str] k [.s (baseOf (gi c 3).str), .s (gi c 2).str])) = rowEq [Kd.str, .str] k [.s (baseOf (gi c 3).str), .s (gi c 2).str] := by
      simp only [List.any_cons, List.any_nil, q1, q2, Bool.true_and, Bool.or_false]
     rw [e]
     cases rowEq [Kd.str, .str] k [.s (baseOf (gi c 3).str), .s (gi c 2).str] <;> simp [gi, G.bool]
    ·(repeat first|refine Ret.p ?_|refine Ret.n ?_)
     refine Ret.some ⟨s, by simp, fun k => ?_⟩
     rw [ht, List.any_append, ← hI k]
     simp [q1, q2]
   ·(repeat first|refine Ret.p ?_|refine Ret.n ?_)
    refine Ret.some ⟨s, by simp, fun k => ?_⟩
    rw [ht, List.any_append, ← hI k]
    simp [q1])
  (fun s hI => by
   unfold st_band_Worth_14
   (dsimp +instances only [Aa,Ab,Ac,Ad,Ae,Af,Ag])
   simp only [Int.toNat_natCast]
   (repeat first|refine Ret.p ?_|refine Ret.n ?_)
   exact Ret.some rfl)
 refine RetL.mono r ?_
 rintro c g ⟨⟨mm, ck⟩, hI, rfl, rfl⟩
 exact ⟨rfl, mm, ck, rfl, fun k => by simpa using hI k⟩
theorem pick_loop (b hs lg mm : List (List G)) (ck : Nat) (mode at_ hz : Int) (hbn : b.length ≤ 1000) (ho : ∀ o ∈ hs, Spt o ∧ ∃ k : Nat, bix (inBand (gi o 1).int) b = (k : Int) ∧ k < b.length) (hn : hs.length ≤ 2000)
  (hM : ∀ k, (gi (mget [Kd.str, .str] mm k [.t false]) 0).bool = lg.any fun c => leI (gi c 0).int at_ && ((gi c 1).int == mode && rowEq [Kd.str, .str] k [.s (baseOf (gi c 3).str), .s (gi c 2).str])) :
  RetL st_band_Worth_22 [.i hz, .l mm, .i (ck : Int), .l [], .l b, .l (ixL b hs), .l hs, .i (hs.length : Int), .i 0] fun c g => c = 0 ∧ g = [.i hz, .l (hs.filter fun s => !wkdB lg at_ mode b s)] := by
 have r := range_all (st := st_band_Worth_22) (σ := Unit) (fun _ i => [.i hz, .l mm, .i (ck : Int), .l ((hs.take i).filter fun s => !wkdB lg at_ mode b s), .l b, .l (ixL b hs), .l hs, .i (hs.length : Int), .i (i : Int)]) hs (fun _ => (0, [.i hz, .l (hs.filter fun s => !wkdB lg at_ mode b s)]))
  (fun _ _ => True) () (by omega) trivial
  (fun _ i x _ hi hx hm ht => by
   obtain ⟨hX, k, hk, hkb⟩ := ho x hm
   have hxl : (ixL b hs).length = hs.length := by simp [ixL]
   have hix : (ixL b hs).getD i [] = [.i (k : Int)] := by
    have hx' : hs[i] = x := by rw [← hx, List.getD_eq_getElem?_getD, List.getElem?_eq_getElem hi]; rfl
    simp [ixL, List.getD_eq_getElem?_getD, hi, hx', hk]
   have hkey : (gi (b.getD k []) 0).str = bkey (inBand (gi x 1).int) b := by
    rcases bix_at (p := inBand (gi x 1).int) b with ⟨k1, _⟩ | ⟨j, k1, k2, k3, _⟩
    ·rw [k1] at hk
     omega
    ·have : j = k := by omega
     rw [← this]
     exact k3.symm
   have hfl := List.length_filter_le (fun s => !wkdB lg at_ mode b s) (hs.take i)
   have htl : (hs.take i).length ≤ 2000 := by rw [List.length_take]; omega
   have hw : (gi (mget [Kd.str, .str] mm [.s (baseOf (gi x 2).str), .s (bkey (inBand (gi x 1).int) b)] [.t false]) 0).bool = wkdB lg at_ mode b x := by
    rw [hM]
    unfold wkdB
    congr 1
    funext c
    have er : rowEq [Kd.str, .str] [.s (baseOf (gi x 2).str), .s (bkey (inBand (gi x 1).int) b)] [.s (baseOf (gi c 3).str), .s (gi c 2).str] = ((baseOf (gi x 2).str).toList == (baseOf (gi c 3).str).toList && ((bkey (inBand (gi x 1).int) b).toList == (gi c 2).str.toList && true)) := rfl
    rw [er, Bool.and_true, beq_swap (baseOf (gi x 2).str).toList, beq_swap (bkey (inBand (gi x 1).int) b).toList, Bool.and_comm ((baseOf (gi c 3).str).toList == _)]
   have ef : (hs.take (i + 1)).filter (fun s => !wkdB lg at_ mode b s) = (hs.take i).filter (fun s => !wkdB lg at_ mode b s) ++ bif !wkdB lg at_ mode b x then [x] else [] := by
    rw [ht, List.filter_append]
    cases hw2 : wkdB lg at_ mode b x with
    | true => simp [hw2]
    | false => simp [hw2]
   unfold st_band_Worth_22
   (dsimp +instances only [Aa,Ab,Ac,Ad,Ae,Af,Ag])
   simp only [Int.toNat_natCast, hx, hX.eta]
   refine Ret.p (Ret.p ?_)
   refine Ret.cE (base_eq hX.call) ?_
   (dsimp +instances only [Aa,Ab,Ac,Ad,Ae,Af,Ag])
   simp only [hix]
   (dsimp +instances only [Aa,Ab,Ac,Ad,Ae,Af,Ag])
   simp only [Int.toNat_natCast, hkey]
   rw [hw, hxl]
   (repeat first|refine Ret.p ?_|refine Ret.n ?_)
   refine Ret.test (fun q => ?_) fun q => ?_
   ·rw [q, cond_true] at ef
    rw [← ef]
    (repeat first|refine Ret.p ?_|refine Ret.n ?_)
    exact Ret.some ⟨(), by simp, trivial⟩
   ·rw [q, cond_false, List.append_nil] at ef
    rw [← ef]
    (repeat first|refine Ret.p ?_|refine Ret.n ?_)
    exact Ret.some ⟨(), by simp, trivial⟩)
  (fun _ _ => by
   have hfl := List.length_filter_le (fun s => !wkdB lg at_ mode b s) hs
   unfold st_band_Worth_22
   (dsimp +instances only [Aa,Ab,Ac,Ad,Ae,Af,Ag])
   simp only [List.take_length]
   (repeat first|refine Ret.p ?_|refine Ret.n ?_)
   exact Ret.some rfl)
 refine RetL.mono r ?_
 rintro c g ⟨_, _, rfl, rfl⟩
 exact ⟨rfl, rfl⟩
theorem onB_worth {b l : List (List G)} {life at_ : Int} (hl : ∀ z ∈ l, Spt z) : ∀ o ∈ hsL b life at_ l, Spt o ∧ ∃ k : Nat, bix (inBand (gi o 1).int) b = (k : Int) ∧ k < b.length := by
 intro o ho
 obtain ⟨h1, h2⟩ := hsL_mem ho
 refine ⟨hl o h1, ?_⟩
 have h3 : leI 0 (bix (inBand (gi o 1).int) b) = true := by
  simp only [cntS, Bool.and_eq_true] at h2
  exact h2.2.2
 rcases bix_at (p := inBand (gi o 1).int) b with ⟨k1, _⟩ | ⟨i, k1, k2, _⟩
 ·rw [k1] at h3
  simp [leI_eq] at h3
 ·exact ⟨i, k1, k2⟩
theorem firstTwo (x y : Int) : (if x ≠ 0 then x else y) = firstE [x, y] := by
 rw [fE_cons, fE_cons, fE_nil]
 by_cases h : y = 0 <;> simp [h]
theorem worth_ok (b x lg : List (List G)) (mode life at_ hz : Int) (hb : ∀ z ∈ b, Bnd z) (hbn : b.length ≤ 20) (hl : ∀ z ∈ x, Spt z) (hn : x.length ≤ 20) (hlg : ∀ z ∈ lg, Con z) (hlgn : lg.length ≤ 2000) (h1 : b50 life) (h2 : b50 at_) (h3 : b50 hz) :
  F_band_Worth [.l b, .l x, .l lg, .i mode, .i life, .i at_, .i hz] = some [.l (bif logF b x lg mode life at_ hz == 0 then worL b x lg mode life at_ hz else []), .i (logF b x lg mode life at_ hz)] := by
 refine Ret.toEq ?_
 unfold F_band_Worth
 (dsimp +instances only [Aa,Ab,Ac,Ad,Ae,Af,Ag])
 have hF : logF b x lg mode life at_ hz = if firstE [faultBands b, faultSpots x] ≠ 0 then firstE [faultBands b, faultSpots x] else if faultLog lg ≠ 0 then faultLog lg else if (bif inB mode 1 3 then (0 : Int) else 4) ≠ 0 then (bif inB mode 1 3 then (0 : Int) else 4) else faultAsked life at_ hz := by
  have key : ∀ a c d e : Int, firstE [a, c, d, e] = if a ≠ 0 then a else if c ≠ 0 then c else if d ≠ 0 then d else e := by
   intro a c d e
   rw [fE_cons, fE_cons, fE_cons, fE_cons, fE_nil]
   by_cases h : e = 0 <;> simp [h]
  exact key _ _ _ _
 have lo := lists_ok b x hb hl
 rw [firstTwo] at lo
 refine Ret.cE lo ?_
 (dsimp +instances only [Aa,Ab,Ac,Ad,Ae,Af,Ag])
 refine Ret.test (fun h => ?_) fun h => ?_
 ·have h : firstE [faultBands b, faultSpots x] ≠ 0 := by simpa using h
  rw [if_pos h] at hF
  have e2 : (firstE [faultBands b, faultSpots x] == 0) = false := by simpa using h
  rw [hF, e2]
  exact Ret.some rfl
 have h : ¬ firstE [faultBands b, faultSpots x] ≠ 0 := by simpa using h
 rw [if_neg h] at hF
 refine Ret.cE (checkLog_eq lg hlg (by omega)) ?_
 (dsimp +instances only [Aa,Ab,Ac,Ad,Ae,Af,Ag])
 refine Ret.test (fun h => ?_) fun h => ?_
 ·have h : faultLog lg ≠ 0 := by simpa using h
  rw [if_pos h] at hF
  have e2 : (faultLog lg == 0) = false := by simpa using h
  rw [hF, e2]
  exact Ret.some rfl
 have h : ¬ faultLog lg ≠ 0 := by simpa using h
 rw [if_neg h] at hF
 refine Ret.cE (isModeY mode) ?_
 (dsimp +instances only [Aa,Ab,Ac,Ad,Ae,Af,Ag])
 refine Ret.test (fun h => ?_) fun h => ?_
 ·have h : inB mode 1 3 = false := by simpa using h
  rw [h] at hF
  rw [show logF b x lg mode life at_ hz = 4 from hF]
  exact Ret.some rfl
 have h : inB mode 1 3 = true := by simpa using h
 rw [h] at hF
 have hF : logF b x lg mode life at_ hz = faultAsked life at_ hz := hF
 refine Ret.cE (asked_ok life at_ hz) ?_
 (dsimp +instances only [Aa,Ab,Ac,Ad,Ae,Af,Ag])
 refine Ret.test (fun h => ?_) fun h => ?_
 ·have h : faultAsked life at_ hz ≠ 0 := by simpa using h
  have e2 : (faultAsked life at_ hz == 0) = false := by simpa using h
  rw [hF, e2]
  exact Ret.some rfl
 have h : faultAsked life at_ hz = 0 := by simpa using h
 rw [hF, h]
 refine Ret.loop (done_loop b x lg mode life at_ hz hlg hlgn) rfl ?_
 rintro _ _ ⟨rfl, mm, ck, rfl, hM⟩
 (dsimp +instances only [Aa,Ab,Ac,Ad,Ae,Af,Ag])
 refine Ret.cE (heard_ok b x life at_ hb (by omega) hl (by omega) h1 h2) ?_
 have hlen := hsL_length (b := b) (life := life) (at_ := at_) x
 have hon := onB_worth (b := b) (life := life) (at_ := at_) hl
 (dsimp +instances only [Aa,Ab,Ac,Ad,Ae,Af,Ag])
 simp only [Int.toNat_natCast]
 refine Ret.loop (pick_loop b _ lg mm ck mode at_ hz (by omega) hon (by omega) hM) rfl ?_
 rintro _ _ ⟨rfl, rfl⟩
 (dsimp +instances only [Aa,Ab,Ac,Ad,Ae,Af,Ag])
 have hfl := List.length_filter_le (fun s => !wkdB lg at_ mode b s) (hsL b life at_ x)
 have hS : ∀ z ∈ (hsL b life at_ x).filter (fun s => !wkdB lg at_ mode b s), Spt z := fun z hz => hl z (hsL_mem (List.mem_filter.1 hz).1).1
 have hwl := worL_length b x lg mode life at_ hz
 have hww : (worL b x lg mode life at_ hz).length = ((hsL b life at_ x).filter (fun s => !wkdB lg at_ mode b s)).length := by
  unfold worL
  rw [sortA_length]
 refine Ret.callb (P := fun g => g = [.l (worL b x lg mode life at_ hz), .i hz]) (Ret.eq (srtW_eq hz (Q := Spt) (c := cW hz) (fun _ h => h.eta) (cmpW h3) _ hS (by omega))) (by (first|rfl|assumption|(simp only [inI,sl]<;>omega))) ?_
 rintro _ rfl
 (dsimp +instances only [Aa,Ab,Ac,Ad,Ae,Af,Ag])
 rw [hww]
 refine Ret.p (Ret.some rfl)
/-! ### Sorting and sifting -/
theorem insA_sift {α : Type} {lt : α → α → Bool} {S : α → Prop} (hL : Lin lt S) (p : α → Bool) {x : α} (hx : S x) : ∀ {q : List α}, (∀ y ∈ q, S y) → q.Pairwise (fun a b => lt a b = false) → (insA lt x q).filter p = bif p x then insA lt x (q.filter p) else q.filter p
 | [], _, _ => by
  cases h : p x <;> simp [insA, h]
 | y :: q, hq, hp => by
  obtain ⟨h1, h2⟩ := List.pairwise_cons.1 hp
  have hy := hq y List.mem_cons_self
  have hq' : ∀ z ∈ q, S z := fun z hz => hq z (List.mem_cons_of_mem _ hz)
  simp only [insA]
  cases hxy : lt x y with
  | true =>
   have ih := insA_sift hL p hx hq' h2
   simp only [cond_true]
   cases hpy : p y with
   | true =>
    rw [List.filter_cons_of_pos hpy, List.filter_cons_of_pos hpy, ih]
    cases p x with
    | true => simp only [cond_true, insA, hxy]
    | false => simp only [cond_false]
   | false => rw [List.filter_cons_of_neg (by simp [hpy]), List.filter_cons_of_neg (by simp [hpy]), ih]
  | false =>
   simp only [cond_false]
   cases hpx : p x with
   | true =>
    rw [List.filter_cons_of_pos hpx]
    simp only [cond_true]
    cases he : (y :: q).filter p with
    | nil => rfl
    | cons z t =>
     have hz : z ∈ (y :: q).filter p := by rw [he]; exact List.mem_cons_self
     have hz := (List.mem_filter.1 hz).1
     have : lt x z = false := by
      rcases List.mem_cons.1 hz with rfl | hz
      ·exact hxy
      ·exact hL.tr x y z hx hy (hq' z hz) hxy (h1 z hz)
     simp only [insA, this, cond_false]
   | false =>
    rw [List.filter_cons_of_neg (by simp [hpx])]
    simp only [cond_false]
theorem insAll_sift {α : Type} {lt : α → α → Bool} {S : α → Prop} (hL : Lin lt S) (p : α → Bool) : ∀ {r q : List α}, (∀ y ∈ q, S y) → (∀ y ∈ r, S y) → q.Pairwise (fun a b => lt a b = false) → (insAll lt q r).filter p = insAll lt (q.filter p) (r.filter p)
 | [], q, _, _, _ => by simp [insAll]
 | x :: r, q, hq, hr, hp => by
  have hx := hr x List.mem_cons_self
  have hi : ∀ y ∈ insA lt x q, S y := insA_all hx hq
  simp only [insAll]
  rw [insAll_sift hL p hi (fun y hy => hr y (List.mem_cons_of_mem _ hy)) (insA_desc hL hx hq hp), insA_sift hL p hx hq hp]
  cases hpx : p x with
  | true => rw [List.filter_cons_of_pos hpx]; simp only [cond_true, insAll]
  | false => rw [List.filter_cons_of_neg (by simp [hpx])]; simp only [cond_false]
theorem sortA_sift {α : Type} {lt : α → α → Bool} {S : α → Prop} (hL : Lin lt S) (p : α → Bool) {l : List α} (hl : ∀ y ∈ l, S y) : (sortA lt l).filter p = sortA lt (l.filter p) := by
 unfold sortA
 rw [List.filter_reverse, insAll_sift hL p (by simp) hl List.Pairwise.nil]
 rfl
theorem insA_same {α : Type} {lt lu : α → α → Bool} (x : α) : ∀ {p : List α}, (∀ y ∈ p, lt x y = lu x y) → insA lt x p = insA lu x p
 | [], _ => rfl
 | y :: p, h => by simp only [insA, h y List.mem_cons_self, insA_same x fun z hz => h z (List.mem_cons_of_mem _ hz)]
theorem insAll_same {α : Type} {lt lu : α → α → Bool} {S : α → Prop} (h : ∀ x y, S x → S y → lt x y = lu x y) : ∀ {r p : List α}, (∀ y ∈ p, S y) → (∀ y ∈ r, S y) → insAll lt p r = insAll lu p r
 | [], _, _, _ => rfl
 | x :: r, p, hp, hr => by
  have hx := hr x List.mem_cons_self
  simp only [insAll, insA_same x fun y hy => h x y hx (hp y hy)]
  exact insAll_same h (insA_all hx hp) fun y hy => hr y (List.mem_cons_of_mem _ hy)
theorem sortA_same {α : Type} {lt lu : α → α → Bool} {S : α → Prop} (h : ∀ x y, S x → S y → lt x y = lu x y) {l : List α} (hl : ∀ y ∈ l, S y) : sortA lt l = sortA lu l := by
 unfold sortA
 rw [insAll_same h (by simp) hl]
theorem sift_split {α : Type} {p : α → Bool} : ∀ {l : List α}, l.Pairwise (fun a b => p b = true → p a = true) → l = l.filter p ++ l.filter fun x => !p x
 | [], _ => rfl
 | x :: l, h => by
  obtain ⟨h1, h2⟩ := List.pairwise_cons.1 h
  have ih := sift_split h2
  cases hx : p x with
  | true =>
   rw [List.filter_cons_of_pos hx, List.filter_cons_of_neg (by simp [hx]), List.cons_append, ← ih]
  | false =>
   have hn : ∀ y ∈ l, p y = false := fun y hy => by
    cases hy2 : p y with
    | false => rfl
    | true => rw [h1 y hy hy2] at hx; cases hx
   have e1 : (x :: l).filter p = [] := List.filter_eq_nil_iff.2 fun y hy => by
    rcases List.mem_cons.1 hy with rfl | hy
    ·simp [hx]
    ·simp [hn y hy]
   have e2 : ((x :: l).filter fun x => !p x) = x :: l := List.filter_eq_self.2 fun y hy => by
    rcases List.mem_cons.1 hy with rfl | hy
    ·simp [hx]
    ·simp [hn y hy]
   rw [e1, e2, List.nil_append]
/-! ### Sides -/
def kp (w hz p : Int) : Int := w * (p - hz)
def kS (w hz : Int) (s : List G) : Int := kp w hz (gi s 1).int
def onS (w hz : Int) (s : List G) : Bool := leI 0 (kS w hz s)
def cY (w hz : Int) (x y : List G) : Int := if onS w hz x ≠ onS w hz y then (if onS w hz x = true then -1 else 1) else apI (gi x 1).int hz - apI (gi y 1).int hz
def cU (w : Int) (x y : List G) : Int := w * sgnW ((gi x 1).int - (gi y 1).int)
def wD (dn : Bool) : Int := bif dn then -1 else 1
theorem wD_pm (dn : Bool) : wD dn = 1 ∨ wD dn = -1 := by cases dn <;> simp [wD]
def callR (s : List G) : List G := [.s (gi s 2).str]
theorem apI_k {w hz p : Int} (hw : w = 1 ∨ w = -1) : (0 ≤ kp w hz p → apI p hz = kp w hz p) ∧ (kp w hz p < 0 → apI p hz = - kp w hz p) := by
 unfold kp apI
 rcases hw with rfl | rfl
 ·constructor
  ·intro h
   split <;> omega
  ·intro h
   split <;> omega
 ·constructor
  ·intro h
   split <;> omega
  ·intro h
   split <;> omega
theorem apI_nn (p hz : Int) : 0 ≤ apI p hz := by
 unfold apI
 split <;> omega
theorem linY {w hz : Int} : Lin (ltC (cY w hz)) (fun _ => True) := by
 refine lin_of (fun a b => ?_) fun a b d h1 h2 => ?_
 ·unfold cY
  cases h1 : onS w hz a <;> cases h2 : onS w hz b <;> simp <;> omega
 ·unfold cY at *
  cases k1 : onS w hz a <;> cases k2 : onS w hz b <;> cases k3 : onS w hz d <;> simp [k1, k2, k3] at h1 h2 ⊢ <;> omega
def grpA (w hz : Int) (hs : List (List G)) : List (List G) := sortA (ltC (cU w)) (hs.filter fun s => onS w hz s)
def grpB (w hz : Int) (hs : List (List G)) : List (List G) := sortA (ltC (cU (-w))) (hs.filter fun s => !onS w hz s)
theorem sgnW_pos (v : Int) : (0 < sgnW v) = (0 < v) := by
 unfold sgnW
 split
 ·rename_i h
  rw [eq_iff_iff]
  omega
 ·split
  ·rename_i h h'
   rw [eq_iff_iff]
   omega
  ·rename_i h h'
   rw [eq_iff_iff]
   omega
theorem cU_neg {w : Int} (hw : w = 1 ∨ w = -1) (x y : List G) : cU w x y < 0 ↔ w * ((gi x 1).int - (gi y 1).int) < 0 := by
 unfold cU
 have h1 := sgnW_neg ((gi x 1).int - (gi y 1).int)
 have h2 := sgnW_pos ((gi x 1).int - (gi y 1).int)
 rw [eq_iff_iff] at h1 h2
 rcases hw with rfl | rfl
 ·omega
 ·omega
theorem way_split {w hz : Int} (hw : w = 1 ∨ w = -1) (hs : List (List G)) : sortA (ltC (cY w hz)) hs = grpA w hz hs ++ grpB w hz hs := by
 have hS := sortA_sorted (linY (w := w) (hz := hz)) (l := hs) (fun _ _ => trivial)
 have hP : (sortA (ltC (cY w hz)) hs).Pairwise (fun a b => onS w hz b = true → onS w hz a = true) := hS.imp fun {a b} h hb => by
  unfold ltC at h
  rw [ltI_eq, decide_eq_false_iff_not] at h
  unfold cY at h
  cases ha : onS w hz a with
  | true => rfl
  | false =>
   rw [hb, ha] at h
   simp at h
 have key := sift_split hP
 rw [sortA_sift linY _ (fun _ _ => trivial), sortA_sift linY _ (fun _ _ => trivial)] at key
 rw [key]
 have e1 : sortA (ltC (cY w hz)) (hs.filter fun s => onS w hz s) = grpA w hz hs := sortA_same (S := fun s => onS w hz s = true) (fun x y hx hy => by
  unfold ltC
  rw [ltI_eq, ltI_eq]
  have hU := cU_neg hw x y
  have hx' := hx
  have hy' := hy
  unfold onS kS at hx' hy'
  simp only [leI_eq, decide_eq_true_eq] at hx' hy'
  have ax := (apI_k hw).1 hx'
  have ay := (apI_k hw).1 hy'
  unfold cY
  rw [hx, hy, if_neg (by simp), ax, ay]
  congr 1
  rw [eq_iff_iff, hU]
  unfold kp
  rcases hw with rfl | rfl <;> omega) (fun y hy => (List.mem_filter.1 hy).2)
 have e2 : sortA (ltC (cY w hz)) (hs.filter fun s => !onS w hz s) = grpB w hz hs := sortA_same (S := fun s => onS w hz s = false) (fun x y hx hy => by
  unfold ltC
  rw [ltI_eq, ltI_eq]
  have hU := cU_neg (w := -w) (by omega) x y
  have hx' := hx
  have hy' := hy
  unfold onS kS at hx' hy'
  simp only [leI_eq, decide_eq_false_iff_not, Int.not_le] at hx' hy'
  have ax := (apI_k hw).2 hx'
  have ay := (apI_k hw).2 hy'
  unfold cY
  rw [hx, hy, if_neg (by simp), ax, ay]
  congr 1
  rw [eq_iff_iff, hU]
  unfold kp
  rcases hw with rfl | rfl <;> omega) (fun y hy => by simpa using (List.mem_filter.1 hy).2)
 rw [e1, e2]
/-! ### The program's way -/
theorem cloneT_ok (a : List (List G)) (h : a.length ≤ 1048576) : F_sl_Clone_Spot_f [.l a] = some [.l a] := by
 unfold F_sl_Clone_Spot_f F_sl_Clone_Spot_f_0
 (dsimp +instances only [Aa,Ab,Ac,Ad,Ae,Af,Ag])
 cases a with
 | nil => rfl
 | cons x q =>
  refine Ret.toEq (Ret.pos (by simp [Nat.blt_eq]) ?_)
  refine Ret.pos (by simp [Nat.blt_eq]) ?_
  (repeat first|refine Ret.p ?_|refine Ret.n ?_)
  exact Ret.some rfl
theorem first_ok {s : List G} (hz : Int) (dn : Bool) : F_band_way_1 [.l [s], .l [[.i hz]], .l [[.t dn]]] = some [.t (onS (wD dn) hz s)] := by
 refine Ret.toEq ?_
 unfold F_band_way_1 onS kS kp
 (dsimp +instances only [Aa,Ab,Ac,Ad,Ae,Af,Ag])
 refine Ret.test (fun h => ?_) fun h => ?_
 ·have h : (gi s 1).int = hz := by simpa using h
  rw [h]
  refine Ret.some ?_
  simp [leI_eq]
 ·have h : (gi s 1).int ≠ hz := by simpa using h
  refine Ret.some ?_
  congr 2
  rw [Bool.eq_iff_iff]
  cases dn with
  | true =>
   simp only [ltI_eq, leI_eq, wD, cond_true, beq_iff_eq, decide_eq_true_eq]
   omega
  | false =>
   simp only [ltI_eq, leI_eq, wD, cond_false, beq_iff_eq, decide_eq_true_eq, decide_eq_false_iff_not]
   omega
theorem far2_ok {s : List G} {hz : Int} (hs : Spt s) (h2 : b50 hz) : F_band_way_2 [.l [s], .l [[.i hz]]] = some [.i (apI (gi s 1).int hz)] := by
 have h1 := hs.hz
 unfold b50 at h1 h2
 refine Ret.toEq ?_
 unfold F_band_way_2 apI
 (dsimp +instances only [Aa,Ab,Ac,Ad,Ae,Af,Ag])
 (repeat first|refine Ret.p ?_|refine Ret.n ?_)
 exact Ret.some rfl
theorem cmpY {hz : Int} (dn : Bool) (h2 : b50 hz) (x y : List G) (hx : Spt x) (hy : Spt y) : F_band_way_3 [.i hz, .t dn, .l [x], .l [y]] = some [.i hz, .t dn, .i (cY (wD dn) hz x y)] := by
 have b1 := apI_b hx.hz h2
 have b2 := apI_b hy.hz h2
 refine Ret.toEq ?_
 unfold F_band_way_3 cY
 (dsimp +instances only [Aa,Ab,Ac,Ad,Ae,Af,Ag])
 simp only [hx.eta, hy.eta]
 refine Ret.cE (first_ok hz dn) ?_
 refine Ret.cE (first_ok hz dn) ?_
 (dsimp +instances only [Aa,Ab,Ac,Ad,Ae,Af,Ag])
 cases k1 : onS (wD dn) hz x <;> cases k2 : onS (wD dn) hz y
 ·refine Ret.neg (by rfl) ?_
  rw [if_neg (by simp)]
  refine Ret.cE (far2_ok hx h2) ?_
  refine Ret.cE (far2_ok hy h2) ?_
  (dsimp +instances only [Aa,Ab,Ac,Ad,Ae,Af,Ag])
  (repeat first|refine Ret.p ?_|refine Ret.n ?_)
  exact Ret.some rfl
 ·exact Ret.pos rfl (Ret.neg rfl (Ret.some (by simp)))
 ·exact Ret.pos rfl (Ret.pos rfl (Ret.some (by simp)))
 ·refine Ret.neg (by rfl) ?_
  rw [if_neg (by simp)]
  refine Ret.cE (far2_ok hx h2) ?_
  refine Ret.cE (far2_ok hy h2) ?_
  (dsimp +instances only [Aa,Ab,Ac,Ad,Ae,Af,Ag])
  (repeat first|refine Ret.p ?_|refine Ret.n ?_)
  exact Ret.some rfl
theorem way_calls (rows : List (List G)) (hn : rows.length ≤ 1000) : RetL st_band_way_7 [.l [], .l rows, .i (rows.length : Int), .i 0] fun c g => c = 0 ∧ g = [.l (rows.map callR)] := by
 have r := range_all (st := st_band_way_7) (σ := Unit) (fun _ i => [.l ((rows.take i).map callR), .l rows, .i (rows.length : Int), .i (i : Int)]) rows (fun _ => (0, [.l (rows.map callR)]))
  (fun _ _ => True) () (by omega) trivial
  (fun _ i x _ hi hx hm ht => by
   have hl : ((rows.take i).map callR).length ≤ 1000 := by rw [List.length_map, List.length_take]; omega
   have e : (rows.take (i + 1)).map callR = (rows.take i).map callR ++ [[.s (gi x 2).str]] := by
    rw [ht, List.map_append]
    rfl
   unfold st_band_way_7
   (dsimp +instances only [Aa,Ab,Ac,Ad,Ae,Af,Ag])
   simp only [Int.toNat_natCast, Nat.zero_add, hx]
   rw [← e]
   have hl2 : ((rows.take (i + 1)).map callR).length ≤ 1000 := by rw [List.length_map, List.length_take]; omega
   (repeat first|refine Ret.p ?_|refine Ret.n ?_)
   exact Ret.some ⟨(), by simp, trivial⟩)
  (fun _ _ => by
   have hl : (rows.map callR).length ≤ 1000 := by rw [List.length_map]; omega
   unfold st_band_way_7
   (dsimp +instances only [Aa,Ab,Ac,Ad,Ae,Af,Ag])
   simp only [List.take_length]
   (repeat first|refine Ret.p ?_|refine Ret.n ?_)
   exact Ret.some rfl)
 refine RetL.mono r ?_
 rintro c g ⟨_, _, rfl, rfl⟩
 exact ⟨rfl, rfl⟩
theorem way_ok (hs : List (List G)) (hz : Int) (dn : Bool) (hS : ∀ z ∈ hs, Spt z) (hn : hs.length ≤ 20) (h2 : b50 hz) :
  F_band_way [.l hs, .i hz, .t dn] = some [.l ((grpA (wD dn) hz hs ++ grpB (wD dn) hz hs).map callR)] := by
 refine Ret.toEq ?_
 unfold F_band_way
 (dsimp +instances only [Aa,Ab,Ac,Ad,Ae,Af,Ag])
 refine Ret.cE (cloneT_ok hs (by omega)) ?_
 (dsimp +instances only [Aa,Ab,Ac,Ad,Ae,Af,Ag])
 have hsl := sortA_length (ltC (cY (wD dn) hz)) hs
 refine Ret.callb (Ret.eq (srtY_eq hz dn (Q := Spt) (c := cY (wD dn) hz) (fun _ h => h.eta) (cmpY dn h2) hs hS hn)) (by (first|rfl|assumption|(simp only [inI,sl]<;>omega))) ?_
 rintro _ rfl
 (dsimp +instances only [Aa,Ab,Ac,Ad,Ae,Af,Ag])
 have hw := way_calls (sortA (ltC (cY (wD dn) hz)) hs) (by omega)
 rw [hsl] at hw
 refine Ret.loop hw (by rw [hsl]; (first|rfl|assumption|(simp only [inI,sl]<;>omega))) ?_
 rintro _ _ ⟨rfl, rfl⟩
 (dsimp +instances only [Aa,Ab,Ac,Ad,Ae,Af,Ag])
 have hl : ((sortA (ltC (cY (wD dn) hz)) hs).map callR).length ≤ 1000 := by rw [List.length_map]; omega
 rw [← way_split (wD_pm dn)]
 (repeat first|refine Ret.p ?_|refine Ret.n ?_)
 exact Ret.some rfl
/-! ### How far it is -/
def isMx (f : List G → Int) (l : List (List G)) (M : Int) : Prop := 0 ≤ M ∧ (∀ s ∈ l, f s ≤ M) ∧ (M = 0 ∨ ∃ s ∈ l, f s = M)
theorem isMx_unique {f : List G → Int} {l : List (List G)} {M N : Int} (h1 : isMx f l M) (h2 : isMx f l N) : M = N := by
 obtain ⟨a1, a2, a3⟩ := h1
 obtain ⟨b1, b2, b3⟩ := h2
 rcases a3 with rfl | ⟨s, hs, rfl⟩ <;> rcases b3 with rfl | ⟨t, ht, rfl⟩
 ·rfl
 ·have := a2 t ht
  omega
 ·have := b2 s hs
  omega
 ·have := a2 t ht
  have := b2 s hs
  omega
theorem isMx_step {f : List G → Int} {l : List (List G)} {M : Int} (h : isMx f l M) (x : List G) : isMx f (l ++ [x]) (if f x > M then f x else M) := by
 obtain ⟨a1, a2, a3⟩ := h
 split
 ·rename_i hx
  refine ⟨by omega, fun s hs => ?_, .inr ⟨x, by simp, rfl⟩⟩
  rcases List.mem_append.1 hs with hs | hs
  ·have := a2 s hs
   omega
  ·simp at hs
   subst hs
   omega
 ·rename_i hx
  refine ⟨a1, fun s hs => ?_, ?_⟩
  ·rcases List.mem_append.1 hs with hs | hs
   ·exact a2 s hs
   ·simp at hs
    subst hs
    omega
  ·rcases a3 with h | ⟨s, hs, h⟩
   ·exact .inl h
   ·exact .inr ⟨s, by simp [hs], h⟩
theorem sweep_loop (hs : List (List G)) (hz : Int) (hS : ∀ z ∈ hs, Spt z) (hn : hs.length ≤ 1000) (h2 : b50 hz) :
  RetL st_band_Sweep_10 [.i hz, .l hs, .i 0, .i 0, .l hs, .i (hs.length : Int), .i 0] fun c g => c = 0 ∧ ∃ bl ab, g = [.i hz, .l hs, .i bl, .i ab] ∧ isMx (kS (-1) hz) hs bl ∧ isMx (kS 1 hz) hs ab := by
 have r := range_all (st := st_band_Sweep_10) (σ := Int × Int) (fun s i => [.i hz, .l hs, .i s.1, .i s.2, .l hs, .i (hs.length : Int), .i (i : Int)]) hs (fun s => (0, [.i hz, .l hs, .i s.1, .i s.2]))
  (fun s i => isMx (kS (-1) hz) (hs.take i) s.1 ∧ isMx (kS 1 hz) (hs.take i) s.2) (0, 0) (by omega) ⟨⟨by omega, by simp, .inl rfl⟩, ⟨by omega, by simp, .inl rfl⟩⟩
  (fun s i x hI hi hx hm ht => by
   have h1 := (hS x hm).hz
   have h2' := h2
   unfold b50 at h1 h2'
   have m1 := isMx_step hI.1 x
   have m2 := isMx_step hI.2 x
   rw [← ht] at m1 m2
   have e1 : kS (-1) hz x = hz - (gi x 1).int := by unfold kS kp; omega
   have e2 : kS 1 hz x = (gi x 1).int - hz := by unfold kS kp; omega
   rw [e1] at m1
   rw [e2] at m2
   unfold st_band_Sweep_10
   (dsimp +instances only [Aa,Ab,Ac,Ad,Ae,Af,Ag])
   simp only [Int.toNat_natCast, hx]
   (repeat first|refine Ret.p ?_|refine Ret.n ?_)
   exact Ret.some ⟨(if hz - (gi x 1).int > s.1 then hz - (gi x 1).int else s.1, if (gi x 1).int - hz > s.2 then (gi x 1).int - hz else s.2), by simp, m1, m2⟩)
  (fun s hI => by
   unfold st_band_Sweep_10
   (dsimp +instances only [Aa,Ab,Ac,Ad,Ae,Af,Ag])
   (repeat first|refine Ret.p ?_|refine Ret.n ?_)
   exact Ret.some rfl)
 refine RetL.mono r ?_
 rintro c g ⟨⟨bl, ab⟩, hI, rfl, rfl⟩
 simp only [List.take_length] at hI
 exact ⟨rfl, bl, ab, rfl, hI.1, hI.2⟩
/-! ### The reference's way -/
def walkS : Int × Int → List (List G) → Int × Int
 | p, [] => p
 | p, s :: r => walkS (p.1 + apI p.2 (gi s 1).int, (gi s 1).int) r
theorem walkS_append : ∀ (a b : List (List G)) (p : Int × Int), walkS p (a ++ b) = walkS (walkS p a) b
 | [], _, _ => rfl
 | s :: a, b, p => walkS_append a b _
theorem apI_le {p q : Int} (h1 : b50 p) (h2 : b50 q) : apI p q ≤ 4000000000000000 := (apI_b h1 h2).2
theorem walkS_bound : ∀ (l : List (List G)) (p : Int × Int), (∀ z ∈ l, Spt z) → b50 p.2 → p.1 ≤ (walkS p l).1 ∧ (walkS p l).1 ≤ p.1 + 4000000000000000 * (l.length : Int) ∧ b50 (walkS p l).2
 | [], p, _, hp => ⟨Int.le_refl _, by simp [walkS], hp⟩
 | s :: l, p, hS, hp => by
  have hs := (hS s List.mem_cons_self).hz
  have ih := walkS_bound l (p.1 + apI p.2 (gi s 1).int, (gi s 1).int) (fun z hz => hS z (List.mem_cons_of_mem _ hz)) hs
  have h1 := apI_le hp hs
  have h0 := apI_nn p.2 (gi s 1).int
  simp only [walkS, List.length_cons]
  refine ⟨by have := ih.1; simp only at this; omega, by have := ih.2.1; simp only at this; omega, ih.2.2⟩
theorem walkS_far {w hz : Int} (hw : w = 1 ∨ w = -1) : ∀ (l : List (List G)) (lo a : Int), l.Pairwise (fun x y => ltC (cU w) y x = false) → (∀ s ∈ l, kp w hz a ≤ kS w hz s) →
  ∃ e, walkS (lo, a) l = (lo + (kp w hz e - kp w hz a), e) ∧ ((l = [] ∧ e = a) ∨ ((∃ s ∈ l, kS w hz s = kp w hz e) ∧ ∀ s ∈ l, kS w hz s ≤ kp w hz e))
 | [], lo, a, _, _ => ⟨a, by simp [walkS], .inl ⟨rfl, rfl⟩⟩
 | s :: l, lo, a, hp, ha => by
  obtain ⟨h1, h2⟩ := List.pairwise_cons.1 hp
  have hs := ha s List.mem_cons_self
  have hs' : kp w hz a ≤ kp w hz (gi s 1).int := hs
  have he : apI a (gi s 1).int = kp w hz (gi s 1).int - kp w hz a := by
   unfold kp at hs' ⊢
   unfold apI
   rcases hw with rfl | rfl <;> split <;> omega
  have hl : ∀ t ∈ l, kp w hz (gi s 1).int ≤ kS w hz t := fun t ht => by
   have h := h1 t ht
   unfold ltC at h
   rw [ltI_eq, decide_eq_false_iff_not, cU_neg hw] at h
   unfold kS kp
   rcases hw with rfl | rfl <;> omega
  obtain ⟨e, q1, q2⟩ := walkS_far hw l (lo + apI a (gi s 1).int) (gi s 1).int h2 hl
  refine ⟨e, ?_, .inr ?_⟩
  ·show walkS (lo + apI a (gi s 1).int, (gi s 1).int) l = _
   rw [q1, he]
   congr 1
   omega
  ·rcases q2 with ⟨rfl, rfl⟩ | ⟨⟨t, ht, q3⟩, q4⟩
   ·exact ⟨⟨s, by simp, rfl⟩, by simp [kS]⟩
   ·refine ⟨⟨t, List.mem_cons_of_mem _ ht, q3⟩, fun z hz => ?_⟩
    rcases List.mem_cons.1 hz with rfl | hz
    ·have := hl t ht
     unfold kS at *
     omega
    ·exact q4 z hz
theorem del_ok {x : List G} {hz wy fst : Int} (hx : Spt x) (h2 : b50 hz) (hw : wy = 1 ∨ wy = -1) : F_r2_tuned_1 [.l [x], .l [[.i hz]], .l [[.i wy]], .l [[.i fst]]] = some [.t (sgnW ((gi x 1).int - hz) == -wy || (sgnW ((gi x 1).int - hz) == 0 && wy != fst))] := by
 have h1 := hx.hz
 have e0 : (0 : Int) - wy = -wy := by omega
 unfold b50 at h1 h2
 refine Ret.toEq ?_
 unfold F_r2_tuned_1
 (dsimp +instances only [Aa,Ab,Ac,Ad,Ae,Af,Ag])
 refine Ret.p ?_
 refine Ret.cE (signW _) ?_
 (dsimp +instances only [Aa,Ab,Ac,Ad,Ae,Af,Ag])
 rw [e0]
 refine Ret.p ?_
 refine Ret.test (fun h => ?_) fun h => ?_
 ·rw [h]
  exact Ret.some rfl
 ·rw [h]
  refine Ret.test (fun h => ?_) fun h => ?_
  ·rw [h]
   exact Ret.some rfl
  ·rw [h]
   exact Ret.some rfl
theorem cmpU {wy : Int} (hw : wy = 1 ∨ wy = -1) (x y : List G) (hx : Spt x) (hy : Spt y) : F_r2_tuned_2 [.l [x], .l [y], .l [[.i wy]]] = some [.i (cU wy x y)] := by
 have h1 := hx.hz
 have h2 := hy.hz
 unfold b50 at h1 h2
 have hs : sgnW ((gi x 1).int - (gi y 1).int) = -1 ∨ sgnW ((gi x 1).int - (gi y 1).int) = 0 ∨ sgnW ((gi x 1).int - (gi y 1).int) = 1 := by
  unfold sgnW
  split
  ·exact .inl rfl
  ·split
   ·exact .inr (.inr rfl)
   ·exact .inr (.inl rfl)
 refine Ret.toEq ?_
 unfold F_r2_tuned_2 cU
 (dsimp +instances only [Aa,Ab,Ac,Ad,Ae,Af,Ag])
 refine Ret.p ?_
 refine Ret.cE (signW _) ?_
 (dsimp +instances only [Aa,Ab,Ac,Ad,Ae,Af,Ag])
 refine Ret.pos ?_ (Ret.some rfl)
 rcases hw with rfl | rfl <;> rcases hs with h | h | h <;> rw [h] <;> decide
def sideL (hz wy fst : Int) (hs : List (List G)) : List (List G) := sortA (ltC (cU wy)) (hs.filter fun s => !(sgnW ((gi s 1).int - hz) == -wy || (sgnW ((gi s 1).int - hz) == 0 && wy != fst)))
theorem sideL_Spt {hz wy fst : Int} {hs : List (List G)} (hS : ∀ z ∈ hs, Spt z) : ∀ z ∈ sideL hz wy fst hs, Spt z := sortA_all fun y hy => hS y (List.mem_filter.1 hy).1
theorem sideL_length (hz wy fst : Int) (hs : List (List G)) : (sideL hz wy fst hs).length ≤ hs.length := by
 unfold sideL
 rw [sortA_length]
 exact List.length_filter_le _ _
theorem sideL_A {hz w : Int} (hw : w = 1 ∨ w = -1) (hs : List (List G)) : sideL hz w w hs = grpA w hz hs := by
 unfold sideL grpA
 congr 1
 refine List.filter_congr fun s _ => ?_
 unfold onS kS kp sgnW
 rw [Bool.eq_iff_iff]
 simp only [leI_eq, Bool.not_eq_true', Bool.or_eq_false_iff, Bool.and_eq_false_iff, beq_eq_false_iff_ne, bne_self_eq_false, decide_eq_true_eq]
 rcases hw with rfl | rfl
 ·split
  ·omega
  ·split <;> first | omega | (simp; omega) | (trace_state; sorry)
 ·split
  ·omega
  ·split <;> first | omega | (simp; omega) | (trace_state; sorry)
theorem sideL_B {hz w : Int} (hw : w = 1 ∨ w = -1) (hs : List (List G)) : sideL hz (-w) w hs = grpB w hz hs := by
 unfold sideL grpB
 congr 1
 refine List.filter_congr fun s _ => ?_
 have hne : (-w != w) = true := by rcases hw with rfl | rfl <;> rfl
 rw [hne, Bool.and_true]
 unfold onS kS kp sgnW
 rw [Bool.eq_iff_iff]
 simp only [leI_eq, Bool.not_eq_true', Bool.or_eq_false_iff, beq_eq_false_iff_ne, decide_eq_false_iff_not]
 rcases hw with rfl | rfl
 ·split
  ·omega
  ·split <;> omega
 ·split
  ·omega
  ·split <;> omega
theorem tuned_walk (hz fst : Int) (cs hs ways rows : List (List G)) (lo a wi : Int) (hS : ∀ z ∈ rows, Spt z) (hn : rows.length ≤ 20) (hcs : cs.length ≤ 1000) (hlo : 0 ≤ lo) (hlo1 : lo ≤ 200000000000000000) (ha : b50 a) :
  RetL st_r2_tuned_9 [.i hz, .i fst, .l cs, .l rows, .l hs, .i lo, .i a, .l ways, .i 2, .i wi, .i (rows.length : Int), .i 0] fun c g => c = 0 ∧ g = [.i hz, .i fst, .l (cs ++ rows.map callR), .l hs, .i (walkS (lo, a) rows).1, .i (walkS (lo, a) rows).2, .l ways, .i 2, .i wi] := by
 have r := range_all (st := st_r2_tuned_9) (σ := Unit) (fun _ i => [.i hz, .i fst, .l (cs ++ (rows.take i).map callR), .l rows, .l hs, .i (walkS (lo, a) (rows.take i)).1, .i (walkS (lo, a) (rows.take i)).2, .l ways, .i 2, .i wi, .i (rows.length : Int), .i (i : Int)]) rows
  (fun _ => (0, [.i hz, .i fst, .l (cs ++ rows.map callR), .l hs, .i (walkS (lo, a) rows).1, .i (walkS (lo, a) rows).2, .l ways, .i 2, .i wi]))
  (fun _ _ => True) () (by omega) trivial
  (fun _ i x _ hi hx hm ht => by
   have hX := hS x hm
   have hT : ∀ z ∈ rows.take i, Spt z := fun z hz => hS z (List.mem_of_mem_take hz)
   have hl : ((rows.take i).map callR).length ≤ 20 := by rw [List.length_map, List.length_take]; omega
   have hb := walkS_bound (rows.take i) (lo, a) hT ha
   have htl : (rows.take i).length ≤ 20 := by rw [List.length_take]; omega
   have e : cs ++ (rows.take (i + 1)).map callR = cs ++ (rows.take i).map callR ++ [[.s (gi x 2).str]] := by
    rw [ht, List.map_append, List.append_assoc]
    rfl
   have ew : walkS (lo, a) (rows.take (i + 1)) = ((walkS (lo, a) (rows.take i)).1 + apI (walkS (lo, a) (rows.take i)).2 (gi x 1).int, (gi x 1).int) := by
    rw [ht, walkS_append]
    rfl
   have hap := apI_le hb.2.2 hX.hz
   have hap0 := apI_nn (walkS (lo, a) (rows.take i)).2 (gi x 1).int
   have hb1 := hb.1
   have hb2 := hb.2.1
   simp only at hb1 hb2
   rw [ew, e]
   unfold st_r2_tuned_9
   (dsimp +instances only [Aa,Ab,Ac,Ad,Ae,Af,Ag])
   simp only [Int.toNat_natCast, Nat.zero_add, hx]
   refine Ret.p (Ret.p (Ret.p (Ret.p ?_)))
   refine Ret.cE (apart_ok hb.2.2 hX.hz) ?_
   (dsimp +instances only [Aa,Ab,Ac,Ad,Ae,Af,Ag])
   (repeat first|refine Ret.p ?_|refine Ret.n ?_)
   exact Ret.some ⟨(), by simp, trivial⟩)
  (fun _ _ => by
   have hl : (rows.map callR).length ≤ 20 := by rw [List.length_map]; omega
   unfold st_r2_tuned_9
   (dsimp +instances only [Aa,Ab,Ac,Ad,Ae,Af,Ag])
   simp only [List.take_length]
   (repeat first|refine Ret.p ?_|refine Ret.n ?_)
   exact Ret.some rfl)
 refine RetL.mono (P := fun c g => ∃ s' : Unit, True ∧ c = 0 ∧ g = [.i hz, .i fst, .l (cs ++ rows.map callR), .l hs, .i (walkS (lo, a) rows).1, .i (walkS (lo, a) rows).2, .l ways, .i 2, .i wi]) (by simpa [walkS] using r) ?_
 rintro c g ⟨_, _, rfl, rfl⟩
 exact ⟨rfl, rfl⟩
theorem tuned_step (hz fst wy : Int) (cs hs ways : List (List G)) (lo a : Int) (wi : Nat) (hwi : wi < 2) (hwn : ways.length = 2) (hway : ways.getD wi [] = [.i wy]) (hw : wy = 1 ∨ wy = -1) (hS : ∀ z ∈ hs, Spt z) (hn : hs.length ≤ 20) (hcs : cs.length ≤ 500) (hlo : 0 ≤ lo) (hlo1 : lo ≤ 200000000000000000) (ha : b50 a) (h2 : b50 hz) :
  Ret (st_r2_tuned_4 [.i hz, .i fst, .l cs, .l hs, .i lo, .i a, .l ways, .i 2, .i (wi : Int)]) fun o => o = (none, [.i hz, .i fst, .l (cs ++ (sideL hz wy fst hs).map callR), .l hs, .i (walkS (lo, a) (sideL hz wy fst hs)).1, .i (walkS (lo, a) (sideL hz wy fst hs)).2, .l ways, .i 2, .i ((wi : Int) + 1)]) := by
 unfold st_r2_tuned_4
 (dsimp +instances only [Aa,Ab,Ac,Ad,Ae,Af,Ag])
 simp only [Int.toNat_natCast, hway]
 (dsimp +instances only [Aa,Ab,Ac,Ad,Ae,Af,Ag])
 refine Ret.p (Ret.pos (by rw [hwn]; (first|rfl|assumption|(simp only [inI,sl]<;>omega))) ?_)
 refine Ret.cE (cloneT_ok hs (by omega)) ?_
 (dsimp +instances only [Aa,Ab,Ac,Ad,Ae,Af,Ag])
 have hfl := List.length_filter_le (fun s => !(sgnW ((gi s 1).int - hz) == -wy || (sgnW ((gi s 1).int - hz) == 0 && wy != fst))) hs
 have hF : ∀ z ∈ hs.filter (fun s => !(sgnW ((gi s 1).int - hz) == -wy || (sgnW ((gi s 1).int - hz) == 0 && wy != fst))), Spt z := fun z hz => hS z (List.mem_filter.1 hz).1
 refine Ret.callb (dlU_eq hz wy fst (Q := Spt) (p := fun s => sgnW ((gi s 1).int - hz) == -wy || (sgnW ((gi s 1).int - hz) == 0 && wy != fst)) (fun _ h => h.eta) (fun x hx => del_ok hx h2 hw) hs hS (by omega)) (by (first|rfl|assumption|(simp only [inI,sl]<;>omega))) ?_
 rintro _ ⟨J, rfl, hJ⟩
 (dsimp +instances only [Aa,Ab,Ac,Ad,Ae,Af,Ag])
 have hSd := sideL_Spt (hz := hz) (wy := wy) (fst := fst) hS
 have hSl := sideL_length hz wy fst hs
 have hsl := sortA_length (ltC (cU wy)) (hs.filter fun s => !(sgnW ((gi s 1).int - hz) == -wy || (sgnW ((gi s 1).int - hz) == 0 && wy != fst)))
 have hso := srtU_eq wy (Q := Spt) (c := cU wy) (fun _ h => h.eta) (fun x y hx hy => cmpU hw x y hx hy) _ hF (by omega)
 have hw9 := tuned_walk hz fst cs hs ways (sideL hz wy fst hs) lo a (wi : Int) hSd (by omega) (by omega) hlo hlo1 ha
 have hlen : (cs ++ (sideL hz wy fst hs).map callR).length ≤ 1000 := by rw [List.length_append, List.length_map]; omega
 unfold sideL at hw9 hlen ⊢
 rw [hsl] at hw9
 have et : (hs.filter (fun s => !(sgnW ((gi s 1).int - hz) == -wy || (sgnW ((gi s 1).int - hz) == 0 && wy != fst))) ++ J).take ((hs.filter (fun s => !(sgnW ((gi s 1).int - hz) == -wy || (sgnW ((gi s 1).int - hz) == 0 && wy != fst)))).length : Int).toNat = hs.filter (fun s => !(sgnW ((gi s 1).int - hz) == -wy || (sgnW ((gi s 1).int - hz) == 0 && wy != fst))) := by simp
 rw [et]
 generalize hs.filter (fun s => !(sgnW ((gi s 1).int - hz) == -wy || (sgnW ((gi s 1).int - hz) == 0 && wy != fst))) = fl at *
 refine Ret.pos (by simp [Nat.ble_eq]) ?_
 refine Ret.callb (Ret.eq hso) (by simp) ?_
 rintro _ rfl
 (dsimp +instances only [Aa,Ab,Ac,Ad,Ae,Af,Ag])
 simp only [Int.toNat_natCast]
 refine Ret.loop hw9 (by simp only [hsl]; (first|rfl|assumption|(simp only [inI,sl]<;>omega))) ?_
 rintro _ _ ⟨rfl, rfl⟩
 (dsimp +instances only [Aa,Ab,Ac,Ad,Ae,Af,Ag])
 (repeat first|refine Ret.p ?_|refine Ret.n ?_)
 exact Ret.some rfl
theorem tuned_ok (hs : List (List G)) (hz w : Int) (hw : w = 1 ∨ w = -1) (hS : ∀ z ∈ hs, Spt z) (hn : hs.length ≤ 20) (h2 : b50 hz) :
  F_r2_tuned [.l hs, .i hz, .i w] = some [.l ((grpA w hz hs ++ grpB w hz hs).map callR), .i (walkS (walkS (0, hz) (grpA w hz hs)) (grpB w hz hs)).1] := by
 have e0 : (0 : Int) - w = -w := by omega
 have hA := sideL_A (hz := hz) hw hs
 have hB := sideL_B (hz := hz) hw hs
 have hAS := sideL_Spt (hz := hz) (wy := w) (fst := w) hS
 have hAl := sideL_length hz w w hs
 have hBl := sideL_length hz (-w) w hs
 rw [hA] at hAS hAl
 rw [hB] at hBl
 have hbd := walkS_bound (grpA w hz hs) (0, hz) hAS h2
 have s0 := tuned_step hz w w [] hs [[.i w], [.i (-w)]] 0 hz 0 (by omega) rfl rfl hw hS hn (by simp) (by omega) (by omega) h2 h2
 have s1 := tuned_step hz w (-w) ([] ++ (grpA w hz hs).map callR) hs [[.i w], [.i (-w)]] (walkS (0, hz) (grpA w hz hs)).1 (walkS (0, hz) (grpA w hz hs)).2 1 (by omega) rfl rfl (by omega) hS hn (by simp; omega) (by have := hbd.1; simpa using this) (by have := hbd.2.1; simp only at this; omega) hbd.2.2 h2
 rw [hA] at s0
 rw [hB] at s1
 obtain ⟨_, s0, rfl⟩ := s0
 obtain ⟨_, s1, rfl⟩ := s1
 have hlen : ([] ++ (grpA w hz hs).map callR ++ (grpB w hz hs).map callR).length ≤ 1000 := by simp; omega
 have s2 : st_r2_tuned_4 [.i hz, .i w, .l ([] ++ (grpA w hz hs).map callR ++ (grpB w hz hs).map callR), .l hs, .i (walkS (walkS (0, hz) (grpA w hz hs)) (grpB w hz hs)).1, .i (walkS (walkS (0, hz) (grpA w hz hs)) (grpB w hz hs)).2, .l [[.i w], [.i (-w)]], .i 2, .i (((1 : Nat) : Int) + 1)] = some (some 0, [.l ([] ++ (grpA w hz hs).map callR ++ (grpB w hz hs).map callR), .i (walkS (walkS (0, hz) (grpA w hz hs)) (grpB w hz hs)).1]) := by
  refine Ret.toEq ?_
  unfold st_r2_tuned_4
  (dsimp +instances only [Aa,Ab,Ac,Ad,Ae,Af,Ag])
  (repeat first|refine Ret.p ?_|refine Ret.n ?_)
  exact Ret.some rfl
 refine Ret.toEq ?_
 unfold F_r2_tuned
 (dsimp +instances only [Aa,Ab,Ac,Ad,Ae,Af,Ag])
 rw [e0]
 refine Ret.pos (by rcases hw with rfl | rfl <;> decide) ?_
 refine Ret.loop (P := fun c g => c = 0 ∧ g = [.l ([] ++ (grpA w hz hs).map callR ++ (grpB w hz hs).map callR), .i (walkS (walkS (0, hz) (grpA w hz hs)) (grpB w hz hs)).1]) ((RetN.next s0 (RetN.next s1 (RetN.stop (m := 1) s2 ⟨rfl, rfl⟩))).to (by omega)) rfl ?_
 rintro _ _ ⟨rfl, rfl⟩
 (dsimp +instances only [Aa,Ab,Ac,Ad,Ae,Af,Ag])
 (repeat first|refine Ret.p ?_|refine Ret.n ?_)
 exact Ret.some (by simp)
/-! ### Both are the same -/
theorem grpA_mem {w hz : Int} {hs : List (List G)} {s : List G} : s ∈ grpA w hz hs ↔ s ∈ hs ∧ onS w hz s = true := by
 unfold grpA
 rw [(sortA_perm (lt := ltC (cU w)) _).mem_iff, List.mem_filter]
theorem grpB_mem {w hz : Int} {hs : List (List G)} {s : List G} : s ∈ grpB w hz hs ↔ s ∈ hs ∧ onS w hz s = false := by
 unfold grpB
 rw [(sortA_perm (lt := ltC (cU (-w))) _).mem_iff, List.mem_filter]
 simp
theorem linU {w : Int} (hw : w = 1 ∨ w = -1) : Lin (ltC (cU w)) (fun _ => True) := by
 have lt : ∀ r s, ltC (cU w) r s = decide (w * ((gi r 1).int - (gi s 1).int) < 0) := fun r s => by
  unfold ltC
  rw [ltI_eq]
  exact decide_eq_decide.2 (cU_neg hw r s)
 refine ⟨fun a b d _ _ _ h1 h2 => ?_, fun a b _ _ h => ?_⟩
 ·rw [lt, decide_eq_false_iff_not] at *
  rcases hw with rfl | rfl <;> omega
 ·rw [lt, decide_eq_true_eq] at h
  rw [lt, decide_eq_false_iff_not]
  rcases hw with rfl | rfl <;> omega
theorem long_eq {w hz A B : Int} (hw : w = 1 ∨ w = -1) {hs : List (List G)} (hA : isMx (kS w hz) hs A) (hB : isMx (kS (-w) hz) hs B) :
  (walkS (walkS (0, hz) (grpA w hz hs)) (grpB w hz hs)).1 = if B = 0 then A else 2 * A + B := by
 have hw' : -w = 1 ∨ -w = -1 := by omega
 have k0 : kp w hz hz = 0 := by unfold kp; rcases hw with rfl | rfl <;> omega
 have kneg : ∀ p, kp (-w) hz p = - kp w hz p := fun p => by unfold kp; rcases hw with rfl | rfl <;> omega
 obtain ⟨e1, q1, q2⟩ := walkS_far (hz := hz) hw (grpA w hz hs) 0 hz (sortA_sorted (linU hw) fun _ _ => trivial) (fun s hs' => by
  have := (grpA_mem.1 hs').2
  unfold onS at this
  rw [leI_eq, decide_eq_true_eq] at this
  omega)
 rw [q1, k0]
 have hA1 : isMx (kS w hz) hs (kp w hz e1) := by
  rcases q2 with ⟨h1, he⟩ | ⟨⟨s, hs', h1⟩, h2⟩
  ·rw [he, k0]
   refine ⟨by omega, fun s hs' => ?_, .inl rfl⟩
   refine Decidable.byContradiction fun hn => ?_
   have : s ∈ grpA w hz hs := grpA_mem.2 ⟨hs', by unfold onS; rw [leI_eq, decide_eq_true_eq]; omega⟩
   rw [h1] at this
   simp at this
  ·have hm := grpA_mem.1 hs'
   have h0 : 0 ≤ kS w hz s := by
    have := hm.2
    unfold onS at this
    rwa [leI_eq, decide_eq_true_eq] at this
   refine ⟨by omega, fun t ht => ?_, .inr ⟨s, hm.1, h1⟩⟩
   by_cases hp : onS w hz t = true
   ·exact h2 t (grpA_mem.2 ⟨ht, hp⟩)
   ·unfold onS at hp
    rw [leI_eq, decide_eq_true_eq] at hp
    omega
 have eA := isMx_unique hA hA1
 have hk1 : 0 ≤ kp w hz e1 := hA1.1
 obtain ⟨e2, r1, r2⟩ := walkS_far (hz := hz) hw' (grpB w hz hs) (0 + (kp w hz e1 - 0)) e1 (sortA_sorted (linU hw') fun _ _ => trivial) (fun s hs' => by
  have := (grpB_mem.1 hs').2
  unfold onS kS at this
  rw [leI_eq, decide_eq_false_iff_not] at this
  unfold kS
  rw [kneg, kneg]
  omega)
 rw [r1]
 simp only
 rw [kneg e1]
 rcases r2 with ⟨h1, he⟩ | ⟨⟨s, hs', h1⟩, h2⟩
 ·have hB0 : isMx (kS (-w) hz) hs 0 := by
   refine ⟨by omega, fun s hs' => ?_, .inl rfl⟩
   refine Decidable.byContradiction fun hn => ?_
   have : s ∈ grpB w hz hs := grpB_mem.2 ⟨hs', by
    unfold onS kS
    unfold kS at hn
    rw [kneg] at hn
    rw [leI_eq, decide_eq_false_iff_not]
    omega⟩
   rw [h1] at this
   simp at this
  have eB := isMx_unique hB hB0
  rw [if_pos eB, kneg, he]
  omega
 ·have hm := grpB_mem.1 hs'
  have h0 : 0 < kS (-w) hz s := by
   have := hm.2
   unfold onS kS at this
   rw [leI_eq, decide_eq_false_iff_not] at this
   unfold kS
   rw [kneg]
   omega
  have hB1 : isMx (kS (-w) hz) hs (kp (-w) hz e2) := by
   refine ⟨by omega, fun t ht => ?_, .inr ⟨s, hm.1, h1⟩⟩
   by_cases hp : onS w hz t = true
   ·unfold onS kS at hp
    rw [leI_eq, decide_eq_true_eq] at hp
    unfold kS
    rw [kneg]
    unfold kS at h0 h1
    omega
   ·exact h2 t (grpB_mem.2 ⟨ht, by simpa using hp⟩)
  have eB := isMx_unique hB hB1
  rw [if_neg (by omega)]
  omega
def hzF (hz : Int) : Int := bif inB hz 0 30000000000 then 0 else 1
theorem asked_two (life at_ hz : Int) : faultAsked life at_ hz = if faultLife life at_ ≠ 0 then faultLife life at_ else hzF hz := by
 unfold faultAsked faultLife hzF
 cases inB life 1 86400000 <;> cases inB at_ 0 345686399999 <;> cases inB hz 0 30000000000 <;> rfl
theorem modeFault_ok (m : Int) : F_l2_modeFault [.i m] = some [.i (bif inB m 1 3 then 0 else 4)] := by
 refine Ret.toEq ?_
 unfold F_l2_modeFault
 (dsimp +instances only [Aa,Ab,Ac,Ad,Ae,Af,Ag])
 refine Ret.test (fun h => ?_) fun h => ?_
 ·refine Ret.call (Ret.eq (when_eq true 4)) ?_
  rintro _ rfl
  have : inB m 1 3 = false := by
   simp only [ltI_eq, decide_eq_true_eq] at h
   simp only [inB, leI_eq, Bool.and_eq_false_iff, decide_eq_false_iff_not]
   omega
  rw [this]
  exact Ret.some rfl
 ·refine Ret.call (Ret.eq (when_eq (ltI 3 m) 4)) ?_
  rintro _ rfl
  refine Ret.some ?_
  simp only [ltI_eq, decide_eq_false_iff_not] at h
  (dsimp +instances only [Aa,Ab,Ac,Ad,Ae,Af,Ag])
  cases h2 : ltI 3 m with
  | true =>
   have : inB m 1 3 = false := by
    simp only [ltI_eq, decide_eq_true_eq] at h2
    simp only [inB, leI_eq, Bool.and_eq_false_iff, decide_eq_false_iff_not]
    omega
   rw [this]
   rfl
  | false =>
   have : inB m 1 3 = true := by
    simp only [ltI_eq, decide_eq_false_iff_not] at h2
    simp only [inB, leI_eq, Bool.and_eq_true, decide_eq_true_eq]
    omega
   rw [this]
   rfl
theorem hertzFault_ok (m : Int) : F_l2_hertzFault [.i m] = some [.i (hzF m)] := by
 refine Ret.toEq ?_
 unfold F_l2_hertzFault hzF
 (dsimp +instances only [Aa,Ab,Ac,Ad,Ae,Af,Ag])
 refine Ret.test (fun h => ?_) fun h => ?_
 ·refine Ret.call (Ret.eq (when_eq true 1)) ?_
  rintro _ rfl
  have : inB m 0 30000000000 = false := by
   simp only [ltI_eq, decide_eq_true_eq] at h
   simp only [inB, leI_eq, Bool.and_eq_false_iff, decide_eq_false_iff_not]
   omega
  rw [this]
  exact Ret.some rfl
 ·refine Ret.call (Ret.eq (when_eq (ltI 30000000000 m) 1)) ?_
  rintro _ rfl
  refine Ret.some ?_
  simp only [ltI_eq, decide_eq_false_iff_not] at h
  (dsimp +instances only [Aa,Ab,Ac,Ad,Ae,Af,Ag])
  cases h2 : ltI 30000000000 m with
  | true =>
   have : inB m 0 30000000000 = false := by
    simp only [ltI_eq, decide_eq_true_eq] at h2
    simp only [inB, leI_eq, Bool.and_eq_false_iff, decide_eq_false_iff_not]
    omega
   rw [this]
   rfl
  | false =>
   have : inB m 0 30000000000 = true := by
    simp only [ltI_eq, decide_eq_false_iff_not] at h2
    simp only [inB, leI_eq, Bool.and_eq_true, decide_eq_true_eq]
    omega
   rw [this]
   rfl
/-! ### The way over what is heard -/
def wayL (w hz : Int) (hs : List (List G)) : List (List G) := (grpA w hz hs ++ grpB w hz hs).map callR
theorem grp_length (w hz : Int) (hs : List (List G)) : (grpA w hz hs).length ≤ hs.length ∧ (grpB w hz hs).length ≤ hs.length := by
 unfold grpA grpB
 rw [sortA_length, sortA_length]
 exact ⟨List.length_filter_le _ _, List.length_filter_le _ _⟩
def Str1 (r : List G) : Prop := ∃ u : ByteArray, r = [.s u]
theorem wayL_str (w hz : Int) (hs : List (List G)) : ∀ z ∈ wayL w hz hs, Str1 z := by
 intro z hz'
 obtain ⟨r, _, rfl⟩ := List.mem_map.1 hz'
 exact ⟨_, rfl⟩
theorem wayL_length (w hz : Int) (hs : List (List G)) : (wayL w hz hs).length ≤ 2 * hs.length := by
 have := grp_length w hz hs
 unfold wayL
 rw [List.length_map, List.length_append]
 omega
theorem equalW (a : List (List G)) (hn : a.length < 1000) : F_sl_Equal_string [.l a, .l a] = some [.t true] := by
 refine Ret.toEq ?_
 unfold F_sl_Equal_string
 (dsimp +instances only [Aa,Ab,Ac,Ad,Ae,Af,Ag])
 refine Ret.neg (by simp) ?_
 have r := range_all (st := st_sl_Equal_string_4) (σ := Unit) (fun _ i => [.l a, .l a, .i (a.length : Int), .i (i : Int)]) a (fun _ => (1, [])) (fun _ _ => True) () (by omega) trivial
  (fun _ i x _ hi hx hm ht => by
   unfold st_sl_Equal_string_4
   (dsimp +instances only [Aa,Ab,Ac,Ad,Ae,Af,Ag])
   simp only [Int.toNat_natCast, hx]
   exact Ret.p (Ret.p (Ret.p (Ret.neg (by simp) (Ret.p (Ret.some ⟨(), rfl, trivial⟩)))))
   )
  (fun _ _ => by
   unfold st_sl_Equal_string_4
   (dsimp +instances only [Aa,Ab,Ac,Ad,Ae,Af,Ag])
   exact Ret.n (Ret.some rfl))
 refine Ret.loop r rfl ?_
 rintro _ _ ⟨_, _, rfl, rfl⟩
 exact Ret.some rfl
theorem mx_bound {hs : List (List G)} {w hz M : Int} (hw : w = 1 ∨ w = -1) (hS : ∀ z ∈ hs, Spt z) (h3 : b50 hz) (h : isMx (kS w hz) hs M) : 0 ≤ M ∧ M ≤ 4000000000000000 := by
 obtain ⟨a1, _, a3⟩ := h
 refine ⟨a1, ?_⟩
 rcases a3 with rfl | ⟨s, hs', rfl⟩
 ·omega
 ·have h1 := (hS s hs').hz
  unfold b50 at h1 h3
  unfold kS kp
  rcases hw with rfl | rfl <;> omega
theorem sweep_ok (b x : List (List G)) (life at_ hz : Int) (hO : Own b) (hb : ∀ z ∈ b, Bnd z) (hbn : b.length ≤ 20) (hl : ∀ z ∈ x, Spt z) (hn : x.length ≤ 20) (h1 : b50 life) (h2 : b50 at_) (h3 : b50 hz) (hf : (if faultBands b ≠ 0 then faultBands b else faultSpots x) = 0) (ha : faultAsked life at_ hz = 0) :
  ∃ cs n, F_band_Sweep [.l b, .l x, .i life, .i at_, .i hz] = some [.l cs, .i n, .i 0] ∧ F_r2_SweepOf [.l b, .l x, .i life, .i at_, .i hz] = some [.l cs, .i n] ∧ (∀ z ∈ cs, Str1 z) ∧ cs.length ≤ 40 := by
 have hlen := hsL_length (b := b) (life := life) (at_ := at_) x
 have hS : ∀ z ∈ hsL b life at_ x, Spt z := fun z hz => hl z (hsL_mem hz).1
 have hh := heard_ok b x life at_ hb (by omega) hl (by omega) h1 h2
 have hr := heardSpots_ok hO (by omega) h1 h2 x hl (by omega)
 have lo := lists_ok b x hb hl
 rw [hf] at lo
 have ao := asked_ok life at_ hz
 rw [ha] at ao
 generalize hsL b life at_ x = hs at *
 obtain ⟨bl, ab, hbl, hab, hloop⟩ : ∃ bl ab, isMx (kS (-1) hz) hs bl ∧ isMx (kS 1 hz) hs ab ∧ RetL st_band_Sweep_10 [.i hz, .l hs, .i 0, .i 0, .l hs, .i (hs.length : Int), .i 0] fun c g => c = 0 ∧ g = [.i hz, .l hs, .i bl, .i ab] := by
  obtain ⟨n, x', d', q1, q2, rfl, bl, ab, rfl, q3, q4⟩ := sweep_loop hs hz hS (by omega) h3
  exact ⟨bl, ab, q3, q4, n, _, _, q1, q2, rfl, rfl⟩
 have bb1 := mx_bound (by omega) hS h3 hbl
 have bb2 := mx_bound (by omega) hS h3 hab
 have wT := way_ok hs hz true hS (by omega) h3
 have wF := way_ok hs hz false hS (by omega) h3
 have tT := tuned_ok hs hz (-1) (by omega) hS (by omega) h3
 have tF := tuned_ok hs hz 1 (by omega) hS (by omega) h3
 rw [long_eq (w := -1) (by omega) hbl (by simpa using hab)] at tT
 rw [long_eq (w := 1) (by omega) hab hbl] at tF
 have wT : F_band_way [.l hs, .i hz, .t true] = some [.l (wayL (-1) hz hs)] := wT
 have wF : F_band_way [.l hs, .i hz, .t false] = some [.l (wayL 1 hz hs)] := wF
 have tT : F_r2_tuned [.l hs, .i hz, .i (-1)] = some [.l (wayL (-1) hz hs), .i (if ab = 0 then bl else 2 * bl + ab)] := tT
 have tF : F_r2_tuned [.l hs, .i hz, .i 1] = some [.l (wayL 1 hz hs), .i (if bl = 0 then ab else 2 * ab + bl)] := tF
 have l1 := wayL_length (-1) hz hs
 have l2 := wayL_length 1 hz hs
 have ref : F_r2_SweepOf [.l b, .l x, .i life, .i at_, .i hz] = some (bif ltI (if bl = 0 then ab else 2 * ab + bl) (if ab = 0 then bl else 2 * bl + ab) then [.l (wayL 1 hz hs), .i (if bl = 0 then ab else 2 * ab + bl)] else [.l (wayL (-1) hz hs), .i (if ab = 0 then bl else 2 * bl + ab)]) := by
  refine Ret.toEq ?_
  unfold F_r2_SweepOf
  (dsimp +instances only [Aa,Ab,Ac,Ad,Ae,Af,Ag])
  refine Ret.cE hr ?_
  (dsimp +instances only [Aa,Ab,Ac,Ad,Ae,Af,Ag])
  refine Ret.cE tT ?_
  refine Ret.cE tF ?_
  (dsimp +instances only [Aa,Ab,Ac,Ad,Ae,Af,Ag])
  refine Ret.test (fun h => ?_) fun h => ?_
  ·rw [h]
   exact Ret.some rfl
  ·rw [h]
   exact Ret.some rfl
 have prog : F_band_Sweep [.l b, .l x, .i life, .i at_, .i hz] = some (bif leI (if ab = 0 then bl else 2 * bl + ab) (if bl = 0 then ab else 2 * ab + bl) then [.l (wayL (-1) hz hs), .i (if ab = 0 then bl else 2 * bl + ab), .i 0] else [.l (wayL 1 hz hs), .i (if bl = 0 then ab else 2 * ab + bl), .i 0]) := by
  refine Ret.toEq ?_
  unfold F_band_Sweep
  (dsimp +instances only [Aa,Ab,Ac,Ad,Ae,Af,Ag])
  refine Ret.cE lo ?_
  refine Ret.neg rfl ?_
  refine Ret.cE ao ?_
  refine Ret.neg rfl ?_
  refine Ret.cE hh ?_
  (dsimp +instances only [Aa,Ab,Ac,Ad,Ae,Af,Ag])
  refine Ret.loop hloop rfl ?_
  rintro _ _ ⟨rfl, rfl⟩
  (dsimp +instances only [Aa,Ab,Ac,Ad,Ae,Af,Ag])
  refine Ret.p (Ret.p (Ret.p (Ret.p ?_)))
  have go : ∀ (t : Bool) (n : Int), Ret (callF (F_band_way [.l hs, .i hz, .t t]) fun g5 => (some [G.l (gi g5 0).rows, G.i n, G.i 0] : Option (List G))) fun g => g = [.l (wayL (wD t) hz hs), .i n, .i 0] := by
   intro t n
   cases t with
   | true =>
    refine Ret.cE wT ?_
    exact Ret.some rfl
   | false =>
    refine Ret.cE wF ?_
    exact Ret.some rfl
  by_cases e1 : ab = 0
  ·rw [if_pos e1]
   refine Ret.pos (by simpa using e1) ?_
   by_cases e2 : bl = 0
   ·rw [if_pos e2]
    refine Ret.pos (by simpa using e2) (Ret.test (fun h => ?_) fun h => ?_)
    ·rw [h]
     exact go true _
    ·rw [h]
     exact go false _
   ·rw [if_neg e2]
    refine Ret.neg (by simpa using e2) (Ret.test (fun h => ?_) fun h => ?_)
    ·rw [h]
     exact go true _
    ·rw [h]
     exact go false _
  ·rw [if_neg e1]
   refine Ret.neg (by simpa using e1) ?_
   by_cases e2 : bl = 0
   ·rw [if_pos e2]
    refine Ret.pos (by simpa using e2) (Ret.test (fun h => ?_) fun h => ?_)
    ·rw [h]
     exact go true _
    ·rw [h]
     exact go false _
   ·rw [if_neg e2]
    refine Ret.neg (by simpa using e2) (Ret.test (fun h => ?_) fun h => ?_)
    ·rw [h]
     exact go true _
    ·rw [h]
     exact go false _
 have hle : leI (if ab = 0 then bl else 2 * bl + ab) (if bl = 0 then ab else 2 * ab + bl) = !ltI (if bl = 0 then ab else 2 * ab + bl) (if ab = 0 then bl else 2 * bl + ab) := by
  rw [leI_eq, ltI_eq, Bool.eq_iff_iff]
  simp
 rw [hle] at prog
 cases hc : ltI (if bl = 0 then ab else 2 * ab + bl) (if ab = 0 then bl else 2 * bl + ab) with
 | true =>
  rw [hc] at prog ref
  exact ⟨_, _, prog, ref, wayL_str _ _ _, by omega⟩
 | false =>
  rw [hc] at prog ref
  exact ⟨_, _, prog, ref, wayL_str _ _ _, by omega⟩
theorem fE_five (a c m x y : Int) : firstE [a, c, m, x, y] = firstE [a, c, m, if x ≠ 0 then x else y] := by
 simp only [fE_cons, fE_nil]
 by_cases h1 : x = 0 <;> by_cases h2 : y = 0 <;> simp [h1, h2]
theorem fE_three (a x y : Int) : firstE [a, x, y] = firstE [a, if x ≠ 0 then x else y] := by
 simp only [fE_cons, fE_nil]
 by_cases h1 : x = 0 <;> by_cases h2 : y = 0 <;> simp [h1, h2]
def swF (b x : List (List G)) (life at_ hz : Int) : Int := firstE [firstE [faultBands b, faultSpots x], faultAsked life at_ hz]
theorem sweepF_ok (b x : List (List G)) (life at_ hz : Int) (hb : ∀ z ∈ b, Bnd z) (hbn : b.length ≤ 20) (hl : ∀ z ∈ x, Spt z) (hn : x.length ≤ 20) (h1 : b50 life) (h2 : b50 at_) (h3 : b50 hz) :
  ∃ cs n, F_band_Sweep [.l b, .l x, .i life, .i at_, .i hz] = some [.l cs, .i n, .i (swF b x life at_ hz)] ∧ (swF b x life at_ hz = 0 → F_r2_SweepOf [.l b, .l x, .i life, .i at_, .i hz] = some [.l cs, .i n]) ∧ (swF b x life at_ hz ≠ 0 → cs = [] ∧ n = 0) ∧ (∀ z ∈ cs, Str1 z) ∧ cs.length ≤ 40 := by
 have lo := lists_ok b x hb hl
 have key : ∀ u v : Int, firstE [u, v] = if u ≠ 0 then u else v := fun u v => (firstTwo u v).symm
 have hsw : swF b x life at_ hz = if (if faultBands b ≠ 0 then faultBands b else faultSpots x) ≠ 0 then (if faultBands b ≠ 0 then faultBands b else faultSpots x) else faultAsked life at_ hz := by
  unfold swF
  rw [key (faultBands b), key]
 by_cases hf : (if faultBands b ≠ 0 then faultBands b else faultSpots x) = 0
 ·rw [if_neg (by simpa using hf)] at hsw
  rw [hsw]
  by_cases ha : faultAsked life at_ hz = 0
  ·have hO : Own b := own_of_fault (by
    refine Decidable.byContradiction fun h => ?_
    rw [if_pos h] at hf
    exact h hf)
   obtain ⟨cs, n, q1, q2, q3, q4⟩ := sweep_ok b x life at_ hz hO hb hbn hl hn h1 h2 h3 hf ha
   rw [ha]
   exact ⟨cs, n, q1, fun _ => q2, fun h => (h rfl).elim, q3, q4⟩
  ·refine ⟨[], 0, Ret.toEq ?_, fun h => (ha h).elim, fun _ => ⟨rfl, rfl⟩, by simp, by simp⟩
   unfold F_band_Sweep
   (dsimp +instances only [Aa,Ab,Ac,Ad,Ae,Af,Ag])
   rw [hf] at lo
   refine Ret.cE lo ?_
   refine Ret.neg rfl ?_
   refine Ret.cE (asked_ok life at_ hz) ?_
   exact Ret.pos (by simpa [gi, G.int] using ha) (Ret.some rfl)
 ·rw [if_pos hf] at hsw
  rw [hsw]
  refine ⟨[], 0, Ret.toEq ?_, fun h => (hf h).elim, fun _ => ⟨rfl, rfl⟩, by simp, by simp⟩
  unfold F_band_Sweep
  (dsimp +instances only [Aa,Ab,Ac,Ad,Ae,Af,Ag])
  refine Ret.cE lo ?_
  exact Ret.pos (by simpa [gi, G.int] using hf) (Ret.some rfl)
theorem r_Hertz (l : List (List G)) (a : Int) (ha : 0 ≤ a) (ha1 : a ≤ 700000) : Ret (F_mk_Hertz [.l l, .i a]) fun g => ∃ c v, g = [.l l, .i c, .i v] ∧ a ≤ c ∧ c ≤ a + 10 ∧ b50 v := by
 unfold F_mk_Hertz
 (dsimp +instances only [Aa,Ab,Ac,Ad,Ae,Af,Ag])
 refine Ret.call (r_Flip l a 15 (by omega) (by omega) (by omega) (by omega)) ?_
 rintro _ ⟨f, rfl⟩
 (dsimp +instances only [Aa,Ab,Ac,Ad,Ae,Af,Ag])
 cases f with
 | true =>
  refine Ret.pos rfl ?_
  refine Ret.call (r_OddX l _ 0 30000000000 (by omega) (by omega) (by omega) (by omega) (by omega)) ?_
  rintro _ ⟨v, rfl, hv⟩
  unfold b40 at hv
  exact Ret.some ⟨a + 1 + 2, v, rfl, by omega, by omega, by unfold b50; omega⟩
 | false =>
  refine Ret.neg rfl ?_
  refine Ret.call (r_PickB 0 30000000000 l _ _ (by omega) (by omega) (by kernel_rfl) (by kernel_rfl)) ?_
  rintro _ ⟨v, rfl, hv0, hv1⟩
  exact Ret.some ⟨a + 1 + 1, v, rfl, by omega, by omega, by unfold b50; omega⟩
theorem spotsWorth_data (rows : List (List G)) : F_l2_SpotsWorth [.l rows] = some [.t true] := by
 refine Ret.toEq ?_
 unfold F_l2_SpotsWorth
 (dsimp +instances only [Aa,Ab,Ac,Ad,Ae,Af,Ag])
 refine Ret.call (r_Bands rows 0 (by omega) (by omega)) ?_
 rintro _ ⟨a1, b, rfl, ha0, ha1, hb, hbn⟩
 (dsimp +instances only [Aa,Ab,Ac,Ad,Ae,Af,Ag])
 refine Ret.call (r_Range rows a1 0 12 (by omega) (by omega) (by omega) (by omega) (by omega)) ?_
 rintro _ ⟨n1, rfl, hn0, hn1⟩
 (dsimp +instances only [Aa,Ab,Ac,Ad,Ae,Af,Ag])
 refine Ret.call (r_Spots rows _ n1 (by omega) (by omega) hn0 (by omega)) ?_
 rintro _ ⟨a2, x, rfl, hb0, hb1, hx, hxn⟩
 (dsimp +instances only [Aa,Ab,Ac,Ad,Ae,Af,Ag])
 refine Ret.call (r_Range rows a2 0 6 (by omega) (by omega) (by omega) (by omega) (by omega)) ?_
 rintro _ ⟨n2, rfl, hm0, hm1⟩
 (dsimp +instances only [Aa,Ab,Ac,Ad,Ae,Af,Ag])
 refine Ret.call (r_Contacts rows _ n2 (by omega) (by omega) hm0 (by omega)) ?_
 rintro _ ⟨a3, lg, rfl, hc0, hc1, hlT, hlgn⟩
 have hlg : ∀ z ∈ lg, Con z := fun z hz => (hlT z hz).to
 (dsimp +instances only [Aa,Ab,Ac,Ad,Ae,Af,Ag])
 refine Ret.call (r_PickB 0 3 rows _ _ (by omega) (by omega) (by kernel_rfl) (by kernel_rfl)) ?_
 rintro _ ⟨mode, rfl, hmo0, hmo1⟩
 (dsimp +instances only [Aa,Ab,Ac,Ad,Ae,Af,Ag])
 refine Ret.call (r_PickB 0 1000 rows _ _ (by omega) (by omega) (by kernel_rfl) (by kernel_rfl)) ?_
 rintro _ ⟨life, rfl, hl0, hl1⟩
 (dsimp +instances only [Aa,Ab,Ac,Ad,Ae,Af,Ag])
 refine Ret.call (r_PickB (-1) 100 rows _ _ (by omega) (by omega) (by kernel_rfl) (by kernel_rfl)) ?_
 rintro _ ⟨at_, rfl, ht0, ht1⟩
 (dsimp +instances only [Aa,Ab,Ac,Ad,Ae,Af,Ag])
 refine Ret.call (r_Hertz rows _ (by omega) (by omega)) ?_
 rintro _ ⟨a4, hz0, rfl, hd0, hd1, hhz0⟩
 (dsimp +instances only [Aa,Ab,Ac,Ad,Ae,Af,Ag])
 refine Ret.call (r_Pick b50 rows _ _ (by omega) (by omega) (by simp) (by simp) (by
  intro x hx
  simp only [List.mem_cons, List.not_mem_nil, or_false] at hx
  rcases hx with rfl | rfl | rfl | rfl | rfl
  ·unfold b50; (dsimp +instances only [Aa,Ab,Ac,Ad,Ae,Af,Ag]); omega
  ·unfold b50; (dsimp +instances only [Aa,Ab,Ac,Ad,Ae,Af,Ag]); omega
  ·unfold b50; (dsimp +instances only [Aa,Ab,Ac,Ad,Ae,Af,Ag]); omega
  ·unfold b50; (dsimp +instances only [Aa,Ab,Ac,Ad,Ae,Af,Ag]); omega
  ·exact hhz0)) ?_
 rintro _ ⟨hz, rfl, h3⟩
 (dsimp +instances only [Aa,Ab,Ac,Ad,Ae,Af,Ag])
 have h1 : b50 life := by unfold b50; omega
 have h2 : b50 at_ := by unfold b50; omega
 have hll : lg.length ≤ 2000 := by omega
 refine Ret.cE (worth_ok b x lg mode life at_ hz hb (by omega) hx (by omega) hlg hll h1 h2 h3) ?_
 obtain ⟨cs, n, sw1, sw2, sw3, sw4, sw5⟩ := sweepF_ok b x life at_ hz hb (by omega) hx (by omega) h1 h2 h3
 refine Ret.cE sw1 ?_
 (dsimp +instances only [Aa,Ab,Ac,Ad,Ae,Af,Ag])
 refine Ret.cE (bandsFault_ok b hb) ?_
 refine Ret.cE (spotsFault_ok x hx) ?_
 (dsimp +instances only [Aa,Ab,Ac,Ad,Ae,Af,Ag])
 refine Ret.cE (errs_eq [faultBands b, faultSpots x] (by simp)) ?_
 refine Ret.cE (logFault_eq lg hlg (by omega)) ?_
 refine Ret.cE (modeFault_ok mode) ?_
 refine Ret.cE (lifeFault_ok life at_) ?_
 refine Ret.cE (hertzFault_ok hz) ?_
 (dsimp +instances only [Aa,Ab,Ac,Ad,Ae,Af,Ag])
 refine Ret.cE (errs_eq [firstE [faultBands b, faultSpots x], faultLog lg, bif inB mode 1 3 then 0 else 4, faultLife life at_, hzF hz] (by simp)) ?_
 refine Ret.cE (lifeFault_ok life at_) ?_
 refine Ret.cE (hertzFault_ok hz) ?_
 (dsimp +instances only [Aa,Ab,Ac,Ad,Ae,Af,Ag])
 refine Ret.cE (errs_eq [firstE [faultBands b, faultSpots x], faultLife life at_, hzF hz] (by simp)) ?_
 (dsimp +instances only [Aa,Ab,Ac,Ad,Ae,Af,Ag])
 have e5 : firstE [firstE [faultBands b, faultSpots x], faultLog lg, bif inB mode 1 3 then 0 else 4, faultLife life at_, hzF hz] = logF b x lg mode life at_ hz := by
  rw [fE_five, ← asked_two]
  rfl
 have e3 : firstE [firstE [faultBands b, faultSpots x], faultLife life at_, hzF hz] = swF b x life at_ hz := by
  rw [fE_three, ← asked_two]
  rfl
 rw [e5, e3]
 have bd : F_l2_banded [] = some [.t true] := rfl
 have hwl := worL_length b x lg mode life at_ hz
 have hwS : ∀ z ∈ worL b x lg mode life at_ hz, Spt z := fun z hz' => hx z (hsL_mem (worL_mem hz').1).1
 have ownL : logF b x lg mode life at_ hz = 0 → Own b := fun h => own_of_fault (by
  unfold logF at h
  rw [fE_cons] at h
  refine Decidable.byContradiction fun hn => ?_
  have e : firstE [faultBands b, faultSpots x] = faultBands b := by rw [fE_cons, if_pos hn]
  rw [e, if_pos hn] at h
  exact hn h)
 -- what stands at the end of each way
 have fin : ∀ (w1 w2 : List (List G)) (k : Int), (bif logF b x lg mode life at_ hz == 0 then worL b x lg mode life at_ hz else []) = w1 → cs = w2 → n = k →
   Ret (bif (logF b x lg mode life at_ hz == logF b x lg mode life at_ hz) then (callF (F_sl_Equal_Spot [.l (bif logF b x lg mode life at_ hz == 0 then worL b x lg mode life at_ hz else []), .l w1]) fun g26 => (bif (gi g26 0).bool then (bif (swF b x life at_ hz == swF b x life at_ hz) then (callF (F_sl_Equal_string [.l cs, .l w2]) fun g27 => (bif (gi g27 0).bool then (bif (n == k) then (callF (F_l2_banded []) fun g28 => some [G.t (gi g28 0).bool]) else some [.t false]) else some [.t false])) else some [.t false]) else some [.t false])) else some [.t false]) fun g => g = [.t true] := by
  rintro w1 w2 k rfl rfl rfl
  refine Ret.pos (by simp) ?_
  refine Ret.call (Ret.eq (equalT_refl _ (by
   cases (logF b x lg mode life at_ hz == 0) with
   | true => exact hwS
   | false => simp) (by
   cases (logF b x lg mode life at_ hz == 0) with
   | true => simp only [cond_true]; omega
   | false => simp))) ?_
  rintro _ rfl
  refine Ret.pos rfl (Ret.pos (by simp) ?_)
  refine Ret.cE (equalW cs (by omega)) ?_
  refine Ret.pos rfl (Ret.pos (by simp) ?_)
  refine Ret.cE bd ?_
  exact Ret.some rfl
 refine Ret.test (fun hL => ?_) fun hL => ?_
 ·have hL0 : logF b x lg mode life at_ hz = 0 := by simpa using hL
  refine Ret.cE (worthSpots_ok b x lg mode life at_ hz (ownL hL0) (by omega) hx (by omega) hlg hll h1 h2 h3) ?_
  refine Ret.test (fun hW => ?_) fun hW => ?_
  ·have hW0 : swF b x life at_ hz = 0 := by simpa using hW
   refine Ret.cE (sw2 hW0) ?_
   (dsimp +instances only [Aa,Ab,Ac,Ad,Ae,Af,Ag])
   exact fin _ _ _ (by rw [hL]; rfl) rfl rfl
  ·have hW0 : swF b x life at_ hz ≠ 0 := by simpa using hW
   (dsimp +instances only [Aa,Ab,Ac,Ad,Ae,Af,Ag])
   exact fin _ _ _ (by rw [hL]; rfl) (sw3 hW0).1 (sw3 hW0).2
 ·refine Ret.test (fun hW => ?_) fun hW => ?_
  ·have hW0 : swF b x life at_ hz = 0 := by simpa using hW
   refine Ret.cE (sw2 hW0) ?_
   (dsimp +instances only [Aa,Ab,Ac,Ad,Ae,Af,Ag])
   exact fin _ _ _ (by rw [hL]; rfl) rfl rfl
  ·have hW0 : swF b x life at_ hz ≠ 0 := by simpa using hW
   exact fin _ _ _ (by rw [hL]; rfl) (sw3 hW0).1 (sw3 hW0).2
end
end Go.Proofs.SYthjhjbgilbaknaaGreatDoor
