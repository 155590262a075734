/-
 What is proved here: who is heard: the program (a range backward, a map) and the reference tell the same. No condition.
-/
import Derived.Test.YthjhjbgilbaknaaGreatDoorMF
import Derived.Test.YthjhjbgilbaknaaGreatDoorME
set_option linter.unusedSimpArgs false
set_option linter.unusedVariables false
set_option linter.unusedSectionVars false
namespace Go.Proofs.SYthjhjbgilbaknaaGreatDoor
open Go Go.AL Go.Proofs
noncomputable section
/-! ### Reversing -/
theorem revT_runs : ∀ (n : Nat) (mid p q : List (List G)), mid.length ≤ n → (∀ z ∈ mid, Spt z) → p.length + mid.length + q.length < 100000 →
  RetN st_sl_Reverse_Spot_1 [.l (p ++ mid ++ q), .i (p.length : Int), .i ((p.length : Int) + (mid.length : Int) - 1)] (n + 1) fun c g => c = 0 ∧ g = [.l (p ++ mid.reverse ++ q)]
 | n, [], p, q, _, _, hl => by
  refine RetN.stop (x := 0) (Ret.toEq ?_) ⟨rfl, rfl⟩
  unfold st_sl_Reverse_Spot_1
  (dsimp +instances only [Aa,Ab,Ac,Ad,Ae,Af,Ag])
  refine Ret.neg (by simp only [List.length_nil, ltI_eq, decide_eq_false_iff_not]; omega) ?_
  exact Ret.some (by simp)
 | n, [x], p, q, _, _, hl => by
  refine RetN.stop (x := 0) (Ret.toEq ?_) ⟨rfl, rfl⟩
  unfold st_sl_Reverse_Spot_1
  (dsimp +instances only [Aa,Ab,Ac,Ad,Ae,Af,Ag])
  refine Ret.neg (by simp only [List.length_cons, List.length_nil, ltI_eq, decide_eq_false_iff_not]; omega) ?_
  exact Ret.some (by simp)
 | 0, x :: y0 :: m0, p, q, h, _, _ => by simp at h
 | n + 1, x :: y0 :: m0, p, q, h, hQ, hl => by
  obtain ⟨m, y, e⟩ : ∃ m y, y0 :: m0 = m ++ [y] := ⟨(y0 :: m0).dropLast, (y0 :: m0).getLast (by simp), (List.dropLast_concat_getLast (by simp)).symm⟩
  rw [e] at h hQ hl ⊢
  have hx : Spt x := hQ x (by simp)
  have hy : Spt y := hQ y (by simp)
  simp only [List.length_cons, List.length_append, List.length_nil] at h hl ⊢
  have ih := revT_runs n m (p ++ [y]) (x :: q) (by omega) (fun z hz => hQ z (by simp [hz])) (by simp; omega)
  have e1 : p ++ x :: (m ++ [y]) ++ q = p ++ x :: (m ++ y :: q) := by simp
  have e2 : p ++ x :: (m ++ y :: q) = (p ++ x :: m) ++ y :: q := by simp
  have ji : ((p.length : Int) + ((m.length + (0 + 1) + 1 : Nat) : Int) - 1).toNat = (p ++ x :: m).length := by simp; omega
  have g1 : (p ++ x :: (m ++ y :: q)).getD p.length [] = x := getD_mid _ _ _ _ _ rfl
  have g2 : (p ++ x :: (m ++ y :: q)).getD (p ++ x :: m).length [] = y := by rw [e2]; exact getD_mid _ _ _ _ _ rfl
  have s1 : (p ++ x :: (m ++ y :: q)).set p.length y = p ++ y :: (m ++ y :: q) := set_mid _ _ _ _ _ rfl
  have e3 : p ++ y :: (m ++ y :: q) = (p ++ y :: m) ++ y :: q := by simp
  have ll : (p ++ x :: m).length = (p ++ y :: m).length := by simp
  have s2 : (p ++ y :: (m ++ y :: q)).set (p ++ x :: m).length x = (p ++ y :: m) ++ x :: q := by rw [e3, ll]; exact set_mid _ _ _ _ _ rfl
  have g3 : (p ++ y :: (m ++ y :: q)).getD (p ++ x :: m).length [] = y := by rw [e3, ll]; exact getD_mid _ _ _ _ _ rfl
  have n1 : (p ++ x :: (m ++ y :: q)).length = p.length + m.length + q.length + 2 := by simp; omega
  have n2 : (p ++ y :: (m ++ y :: q)).length = p.length + m.length + q.length + 2 := by simp; omega
  have n3 : ((p ++ y :: m) ++ x :: q).length = p.length + m.length + q.length + 2 := by simp; omega
  have n4 : (p ++ x :: m).length = p.length + m.length + 1 := by simp; omega
  have kx : x.length = KSpot.length := by rw [← hx.eta, gEta_length]
  have ky : y.length = KSpot.length := by rw [← hy.eta, gEta_length]
  refine RetN.next (d1 := [.l ((p ++ [y]) ++ m ++ (x :: q)), .i (((p ++ [y]).length : Nat) : Int), .i ((((p ++ [y]).length : Nat) : Int) + (m.length : Int) - 1)]) (Ret.toEq ?_) (ih.mono ?_)
  ·rw [e1]
   unfold st_sl_Reverse_Spot_1
   (dsimp +instances only [Aa,Ab,Ac,Ad,Ae,Af,Ag])
   simp only [Nat.zero_add, Int.toNat_natCast, ji, g1, g2, hx.eta, hy.eta, putG_all kx, putG_all ky, s1, g3, s2, n1, n2, n3]
   (repeat first|refine Ret.p ?_|refine Ret.n ?_)
   refine Ret.some ?_
   rw [show p ++ [y] ++ m ++ x :: q = p ++ y :: m ++ x :: q from by simp, show (((p ++ [y]).length : Nat) : Int) = (p.length : Int) + 1 from by simp, show (p.length : Int) + 1 + (m.length : Int) - 1 = (p.length : Int) + ((m.length + (0 + 1) + 1 : Nat) : Int) - 1 - 1 from by omega]
  ·rintro c g ⟨rfl, rfl⟩
   exact ⟨rfl, by simp⟩
theorem revT_eq (rows : List (List G)) (hr : ∀ z ∈ rows, Spt z) (hn : rows.length < 90000) : F_sl_Reverse_Spot [.l rows] = some [.l rows.reverse] := by
 refine Ret.toEq ?_
 unfold F_sl_Reverse_Spot
 (dsimp +instances only [Aa,Ab,Ac,Ad,Ae,Af,Ag])
 refine Ret.p ?_
 have h := revT_runs rows.length rows [] [] (Nat.le_refl _) hr (by simp; omega)
 simp only [List.nil_append, List.append_nil, List.length_nil] at h
 have e : ((0 : Nat) : Int) + (rows.length : Int) - 1 = (rows.length : Int) - 1 := by omega
 rw [e] at h
 refine Ret.loop (h.to (by omega)) (by (first|rfl|assumption|(simp only [inI,sl]<;>omega))) ?_
 rintro _ _ ⟨rfl, rfl⟩
 (dsimp +instances only [Aa,Ab,Ac,Ad,Ae,Af,Ag])
 (repeat first|refine Ret.p ?_|refine Ret.n ?_)
 exact Ret.some rfl
def Int1 (r : List G) : Prop := ∃ n : Int, r = [.i n]
theorem revI_runs : ∀ (n : Nat) (mid p q : List (List G)), mid.length ≤ n → (∀ z ∈ mid, Int1 z) → p.length + mid.length + q.length < 100000 →
  RetN st_sl_Reverse_int_1 [.l (p ++ mid ++ q), .i (p.length : Int), .i ((p.length : Int) + (mid.length : Int) - 1)] (n + 1) fun c g => c = 0 ∧ g = [.l (p ++ mid.reverse ++ q)]
 | n, [], p, q, _, _, hl => by
  refine RetN.stop (x := 0) (Ret.toEq ?_) ⟨rfl, rfl⟩
  unfold st_sl_Reverse_int_1
  (dsimp +instances only [Aa,Ab,Ac,Ad,Ae,Af,Ag])
  refine Ret.neg (by simp only [List.length_nil, ltI_eq, decide_eq_false_iff_not]; omega) ?_
  exact Ret.some (by simp)
 | n, [x], p, q, _, _, hl => by
  refine RetN.stop (x := 0) (Ret.toEq ?_) ⟨rfl, rfl⟩
  unfold st_sl_Reverse_int_1
  (dsimp +instances only [Aa,Ab,Ac,Ad,Ae,Af,Ag])
  refine Ret.neg (by simp only [List.length_cons, List.length_nil, ltI_eq, decide_eq_false_iff_not]; omega) ?_
  exact Ret.some (by simp)
 | 0, x :: y0 :: m0, p, q, h, _, _ => by simp at h
 | n + 1, x :: y0 :: m0, p, q, h, hQ, hl => by
  obtain ⟨m, y, e⟩ : ∃ m y, y0 :: m0 = m ++ [y] := ⟨(y0 :: m0).dropLast, (y0 :: m0).getLast (by simp), (List.dropLast_concat_getLast (by simp)).symm⟩
  rw [e] at h hQ hl ⊢
  have hx : Int1 x := hQ x (by simp)
  have hy : Int1 y := hQ y (by simp)
  simp only [List.length_cons, List.length_append, List.length_nil] at h hl ⊢
  have ih := revI_runs n m (p ++ [y]) (x :: q) (by omega) (fun z hz => hQ z (by simp [hz])) (by simp; omega)
  have e1 : p ++ x :: (m ++ [y]) ++ q = p ++ x :: (m ++ y :: q) := by simp
  have e2 : p ++ x :: (m ++ y :: q) = (p ++ x :: m) ++ y :: q := by simp
  have ji : ((p.length : Int) + ((m.length + (0 + 1) + 1 : Nat) : Int) - 1).toNat = (p ++ x :: m).length := by simp; omega
  have g1 : (p ++ x :: (m ++ y :: q)).getD p.length [] = x := getD_mid _ _ _ _ _ rfl
  have g2 : (p ++ x :: (m ++ y :: q)).getD (p ++ x :: m).length [] = y := by rw [e2]; exact getD_mid _ _ _ _ _ rfl
  have s1 : (p ++ x :: (m ++ y :: q)).set p.length y = p ++ y :: (m ++ y :: q) := set_mid _ _ _ _ _ rfl
  have e3 : p ++ y :: (m ++ y :: q) = (p ++ y :: m) ++ y :: q := by simp
  have ll : (p ++ x :: m).length = (p ++ y :: m).length := by simp
  have s2 : (p ++ y :: (m ++ y :: q)).set (p ++ x :: m).length x = (p ++ y :: m) ++ x :: q := by rw [e3, ll]; exact set_mid _ _ _ _ _ rfl
  have g3 : (p ++ y :: (m ++ y :: q)).getD (p ++ x :: m).length [] = y := by rw [e3, ll]; exact getD_mid _ _ _ _ _ rfl
  have n1 : (p ++ x :: (m ++ y :: q)).length = p.length + m.length + q.length + 2 := by simp; omega
  have n2 : (p ++ y :: (m ++ y :: q)).length = p.length + m.length + q.length + 2 := by simp; omega
  have n3 : ((p ++ y :: m) ++ x :: q).length = p.length + m.length + q.length + 2 := by simp; omega
  have n4 : (p ++ x :: m).length = p.length + m.length + 1 := by simp; omega
  obtain ⟨vx, ex⟩ := hx
  obtain ⟨vy, ey⟩ := hy
  have i1 : (gi x 0).int = vx := by rw [ex]; rfl
  have i2 : (gi y 0).int = vy := by rw [ey]; rfl
  have q1 : putG [Kd.int .i64] x 0 [.i vy] = y := by rw [ex, ey]; rfl
  have q2 : putG [Kd.int .i64] y 0 [.i vx] = x := by rw [ex, ey]; rfl
  refine RetN.next (d1 := [.l ((p ++ [y]) ++ m ++ (x :: q)), .i (((p ++ [y]).length : Nat) : Int), .i ((((p ++ [y]).length : Nat) : Int) + (m.length : Int) - 1)]) (Ret.toEq ?_) (ih.mono ?_)
  ·rw [e1]
   unfold st_sl_Reverse_int_1
   (dsimp +instances only [Aa,Ab,Ac,Ad,Ae,Af,Ag])
   simp only [Nat.zero_add, Int.toNat_natCast, ji, g1, g2, i1, i2, q1, q2, s1, g3, s2, n1, n2, n3]
   (repeat first|refine Ret.p ?_|refine Ret.n ?_)
   refine Ret.some ?_
   rw [show p ++ [y] ++ m ++ x :: q = p ++ y :: m ++ x :: q from by simp, show (((p ++ [y]).length : Nat) : Int) = (p.length : Int) + 1 from by simp, show (p.length : Int) + 1 + (m.length : Int) - 1 = (p.length : Int) + ((m.length + (0 + 1) + 1 : Nat) : Int) - 1 - 1 from by omega]
  ·rintro c g ⟨rfl, rfl⟩
   exact ⟨rfl, by simp⟩
theorem revI_eq (rows : List (List G)) (hr : ∀ z ∈ rows, Int1 z) (hn : rows.length < 90000) : F_sl_Reverse_int [.l rows] = some [.l rows.reverse] := by
 refine Ret.toEq ?_
 unfold F_sl_Reverse_int
 (dsimp +instances only [Aa,Ab,Ac,Ad,Ae,Af,Ag])
 refine Ret.p ?_
 have h := revI_runs rows.length rows [] [] (Nat.le_refl _) hr (by simp; omega)
 simp only [List.nil_append, List.append_nil, List.length_nil] at h
 have e : ((0 : Nat) : Int) + (rows.length : Int) - 1 = (rows.length : Int) - 1 := by omega
 rw [e] at h
 refine Ret.loop (h.to (by omega)) (by (first|rfl|assumption|(simp only [inI,sl]<;>omega))) ?_
 rintro _ _ ⟨rfl, rfl⟩
 (dsimp +instances only [Aa,Ab,Ac,Ad,Ae,Af,Ag])
 (repeat first|refine Ret.p ?_|refine Ret.n ?_)
 exact Ret.some rfl
/-! ### On which band -/
def inBand (h : Int) (o : List G) : Bool := leI (gi o 1).int h && ltI h (gi o 2).int
def bix (p : List G → Bool) : List (List G) → Int
 | [] => -1
 | x :: r => bif p x then 0 else bif ltI (bix p r) 0 then -1 else bix p r + 1
theorem bix_none {p : List G → Bool} : ∀ {rows : List (List G)}, (∀ y ∈ rows, p y = false) → bix p rows = -1
 | [], _ => rfl
 | x :: r, h => by
  simp only [bix, h x List.mem_cons_self, bix_none fun y hy => h y (List.mem_cons_of_mem _ hy), cond_false]
  rfl
theorem bix_some {p : List G → Bool} {x : List G} {q2 : List (List G)} (hx : p x = true) : ∀ {q1 : List (List G)}, (∀ y ∈ q1, p y = false) → bix p (q1 ++ x :: q2) = (q1.length : Int)
 | [], _ => by simp only [List.nil_append, bix, hx, cond_true]; rfl
 | y :: q1, h => by
  have e : ltI (q1.length : Int) 0 = false := by simp [ltI_eq]
  simp only [List.cons_append, bix, h y List.mem_cons_self, bix_some hx (q1 := q1) fun y hy => h y (List.mem_cons_of_mem _ hy), cond_false, e, List.length_cons]
  omega
theorem prdBand (h : Int) : Prd KBand F_log_At_1 (fun g => .l [[.i (gi g.row 0).int]]) (.l [[.i h]]) Bnd (inBand h) :=
 ⟨fun r hr => by
  refine Ret.toEq ?_
  unfold F_log_At_1 inBand
  (dsimp +instances only [Aa,Ab,Ac,Ad,Ae,Af,Ag])
  cases leI (gi r 1).int h <;> exact Ret.some rfl, fun _ h => h.eta, rfl⟩
theorem at_ok (b : List (List G)) (h : Int) (hb : ∀ z ∈ b, Bnd z) (hn : b.length < 100000) : F_log_At [.l b, .i h] = some [.i (bix (inBand h) b)] := by
 refine Ret.toEq ?_
 unfold F_log_At
 (dsimp +instances only [Aa,Ab,Ac,Ad,Ae,Af,Ag])
 refine Ret.call (P := fun g => g = [.i (bix (inBand h) b)]) ?_ ?_
 ·refine Ret.mono (indexfF_eq (Z := zBand) (prdBand h) b hb hn : Ret (F_sl_IndexFunc_Band_2 [.l b, .l [[.i h]]]) _) ?_
  rintro g (⟨q1, x, q2, h1, h2, h3, rfl⟩ | ⟨h1, rfl⟩)
  ·rw [h1, bix_some h3 h2]
  ·rw [bix_none h1]
 ·rintro _ rfl
  exact Ret.some rfl
/-! ### Who is heard -/
def cntS (b : List (List G)) (life at_ : Int) (o : List G) : Bool := ltI (at_ - life) (gi o 0).int && (leI (gi o 0).int at_ && leI 0 (bix (inBand (gi o 1).int) b))
def sameS (b : List (List G)) (o s : List G) : Bool := ((gi o 2).str.toList == (gi s 2).str.toList) && (bix (inBand (gi o 1).int) b == bix (inBand (gi s 1).int) b)
def lateS (b : List (List G)) (life at_ : Int) (s : List G) (t : List (List G)) : Bool := t.any fun o => cntS b life at_ o && sameS b o s
def hsL (b : List (List G)) (life at_ : Int) : List (List G) → List (List G)
 | [] => []
 | s :: t => bif cntS b life at_ s && !lateS b life at_ s t then s :: hsL b life at_ t else hsL b life at_ t
def ixL (b : List (List G)) (l : List (List G)) : List (List G) := l.map fun s => [.i (bix (inBand (gi s 1).int) b)]
theorem hsL_mem {b : List (List G)} {life at_ : Int} : ∀ {l : List (List G)} {z : List G}, z ∈ hsL b life at_ l → z ∈ l ∧ cntS b life at_ z = true
 | [], z, h => by simp [hsL] at h
 | s :: t, z, h => by
  simp only [hsL] at h
  cases hc : cntS b life at_ s && !lateS b life at_ s t with
  | true =>
   rw [hc] at h
   rcases List.mem_cons.1 h with rfl | h
   ·simp only [Bool.and_eq_true] at hc
    exact ⟨List.mem_cons_self, hc.1⟩
   ·exact ⟨List.mem_cons_of_mem _ (hsL_mem h).1, (hsL_mem h).2⟩
  | false =>
   rw [hc] at h
   exact ⟨List.mem_cons_of_mem _ (hsL_mem h).1, (hsL_mem h).2⟩
theorem hsL_length {b : List (List G)} {life at_ : Int} : ∀ (l : List (List G)), (hsL b life at_ l).length ≤ l.length
 | [] => Nat.le_refl _
 | s :: t => by
  have := hsL_length (b := b) (life := life) (at_ := at_) t
  simp only [hsL]
  cases cntS b life at_ s && !lateS b life at_ s t <;> simp <;> omega
theorem foldB_suffix {st : Int → List G → List G → Option (List G)} {rows : List (List G)} (I : List (List G) → List G → Prop) (hst : ∀ (n : Int) (r : List G) (t : List (List G)) (d : List G), r ∈ rows → t.length < rows.length → I t d → Ret (st n r d) (I (r :: t))) :
  ∀ (n : Nat) (d : List G), n ≤ rows.length → I (rows.drop n) d → Ret (foldB st rows n d) (I rows)
 | 0, d, _, h => by
  exact Ret.some h
 | n + 1, d, hn, h => by
  have ed : rows.drop n = rows.getD n [] :: rows.drop (n + 1) := by
   rw [List.drop_eq_getElem_cons (by omega), List.getD_eq_getElem?_getD, List.getElem?_eq_getElem (by omega)]
   rfl
  obtain ⟨d', h1, h2⟩ := hst (n : Int) (rows.getD n []) (rows.drop (n + 1)) d (getD_row (by omega)) (by rw [List.length_drop]; omega) h
  simp only [foldB, h1]
  exact foldB_suffix I hst n d' (by omega) (by rw [ed]; exact h2)
def KSeen : List Kd := [.str, .int .i64]
theorem heard_ok (b l : List (List G)) (life at_ : Int) (hb : ∀ z ∈ b, Bnd z) (hbn : b.length ≤ 1000) (hl : ∀ z ∈ l, Spt z) (hn : l.length ≤ 2000) (h1 : b50 life) (h2 : b50 at_) :
  F_band_heard [.l b, .l l, .i life, .i at_] = some [.l (hsL b life at_ l), .l (ixL b (hsL b life at_ l))] := by
 unfold b50 at h1 h2
 refine Ret.toEq ?_
 unfold F_band_heard
 (dsimp +instances only [Aa,Ab,Ac,Ad,Ae,Af,Ag])
 have key : Ret (tl_band_heard_2 [.l b, .i life, .i at_, .l [], .l [], .l [], .i 0, .l l]) fun o => ∃ x, o.1 = some x ∧ o.2 = [.l (hsL b life at_ l), .l (ixL b (hsL b life at_ l))] := by
  unfold tl_band_heard_2 backR
  have hI := foldB_suffix (st := br_band_heard_2) (rows := l) (fun t d => ∃ seen clk, d = [.l b, .i life, .i at_, .l (hsL b life at_ t).reverse, .l (ixL b (hsL b life at_ t)).reverse, .l seen, .i clk] ∧
    ∀ k, (gi (mget KSeen seen k [.t false]) 0).bool = t.any fun o => cntS b life at_ o && rowEq KSeen k [.s (gi o 2).str, .i (bix (inBand (gi o 1).int) b)]) (fun n r t d hr ht hd => by
   obtain ⟨seen, clk, rfl, hs⟩ := hd
   obtain ⟨t0, h0, c0, y0, rfl, ht0, hh0, _⟩ := hl r hr
   unfold b50 at ht0 hh0
   have hlen := hsL_length (b := b) (life := life) (at_ := at_) t
   have hsk : (gi (mget KSeen seen [.s c0, .i (bix (inBand h0) b)] [.t false]) 0).bool = lateS b life at_ [.i t0, .i h0, .s c0, .s y0] t := by
    rw [hs]
    unfold lateS
    congr 1
    funext o
    congr 1
    show ((c0.toList == (gi o 2).str.toList) && ((bix (inBand h0) b == bix (inBand (gi o 1).int) b) && true)) = (((gi o 2).str.toList == c0.toList) && (bix (inBand (gi o 1).int) b == bix (inBand h0) b))
    rw [Bool.and_true, beq_swap c0.toList, beq_swap (bix (inBand h0) b)]
   have ec : cntS b life at_ [.i t0, .i h0, .s c0, .s y0] = (ltI (at_ - life) t0 && (leI t0 at_ && leI 0 (bix (inBand h0) b))) := rfl
   have no : (cntS b life at_ [.i t0, .i h0, .s c0, .s y0] && !lateS b life at_ [.i t0, .i h0, .s c0, .s y0] t) = false → cntS b life at_ [.i t0, .i h0, .s c0, .s y0] = false ∨ lateS b life at_ [.i t0, .i h0, .s c0, .s y0] t = true := by
    intro h
    cases h1 : cntS b life at_ [.i t0, .i h0, .s c0, .s y0] with
    | false => exact .inl rfl
    | true =>
     rw [h1] at h
     right
     simpa using h
   have skip : (cntS b life at_ [.i t0, .i h0, .s c0, .s y0] = false ∨ lateS b life at_ [.i t0, .i h0, .s c0, .s y0] t = true) → ∃ seen' clk', [G.l b, .i life, .i at_, .l (hsL b life at_ t).reverse, .l (ixL b (hsL b life at_ t)).reverse, .l seen, .i ((clk.toNat : Nat) : Int)] =
     [.l b, .i life, .i at_, .l (hsL b life at_ ([.i t0, .i h0, .s c0, .s y0] :: t)).reverse, .l (ixL b (hsL b life at_ ([.i t0, .i h0, .s c0, .s y0] :: t))).reverse, .l seen', .i clk'] ∧
     ∀ k, (gi (mget KSeen seen' k [.t false]) 0).bool = ([.i t0, .i h0, .s c0, .s y0] :: t).any fun o => cntS b life at_ o && rowEq KSeen k [.s (gi o 2).str, .i (bix (inBand (gi o 1).int) b)] := by
    intro h
    have e1 : hsL b life at_ ([.i t0, .i h0, .s c0, .s y0] :: t) = hsL b life at_ t := by
     simp only [hsL]
     rcases h with h | h <;> rw [h]
     ·rfl
     ·simp
    refine ⟨seen, _, by rw [e1], fun k => ?_⟩
    rw [hs, List.any_cons]
    rcases h with h | h
    ·rw [h]
     simp
    ·cases hc : cntS b life at_ [.i t0, .i h0, .s c0, .s y0] with
     | false => simp
     | true =>
      have e2 : ([G.s (gi [G.i t0, .i h0, .s c0, .s y0] 2).str, .i (bix (inBand (gi [G.i t0, .i h0, .s c0, .s y0] 1).int) b)] : List G) = [.s c0, .i (bix (inBand h0) b)] := rfl
      rw [e2, Bool.true_and]
      cases hk : rowEq KSeen k [.s c0, .i (bix (inBand h0) b)] with
      | false => simp
      | true =>
       rw [Bool.true_or]
       rw [← hsk, hs] at h
       rw [List.any_eq_true] at h ⊢
       obtain ⟨o, ho, h⟩ := h
       refine ⟨o, ho, ?_⟩
       rw [← h, rowEq_congr hk]
   unfold br_band_heard_2
   (dsimp +instances only [Aa,Ab,Ac,Ad,Ae,Af,Ag])
   refine Ret.cE (at_ok b h0 hb (by omega)) ?_
   (dsimp +instances only [Aa,Ab,Ac,Ad,Ae,Af,Ag])
   refine Ret.p ?_
   refine Ret.test (fun q1 => ?_) fun q1 => ?_
   ·(repeat first|refine Ret.p ?_|refine Ret.n ?_)
    refine Ret.some (skip (.inl ?_))
    rw [ec]
    simp only [leI_eq, ltI_eq, decide_eq_true_eq] at q1 ⊢
    simp only [Bool.and_eq_false_iff, decide_eq_false_iff_not]
    omega
   refine Ret.test (fun q2 => ?_) fun q2 => ?_
   ·(repeat first|refine Ret.p ?_|refine Ret.n ?_)
    refine Ret.some (skip (.inl ?_))
    rw [ec]
    simp only [leI_eq, ltI_eq, decide_eq_true_eq] at q2 ⊢
    simp only [Bool.and_eq_false_iff, decide_eq_false_iff_not]
    omega
   refine Ret.test (fun q3 => ?_) fun q3 => ?_
   ·(repeat first|refine Ret.p ?_|refine Ret.n ?_)
    refine Ret.some (skip (.inl ?_))
    rw [ec]
    simp only [leI_eq, ltI_eq, decide_eq_true_eq] at q3 ⊢
    simp only [Bool.and_eq_false_iff, decide_eq_false_iff_not]
    omega
   have hc : cntS b life at_ [.i t0, .i h0, .s c0, .s y0] = true := by
    rw [ec]
    simp only [leI_eq, ltI_eq, decide_eq_false_iff_not] at q1 q2 q3 ⊢
    simp only [Bool.and_eq_true, decide_eq_true_eq]
    omega
   refine Ret.test (fun q4 => ?_) fun q4 => ?_
   ·have q4 : (gi (mget KSeen seen [.s c0, .i (bix (inBand h0) b)] [.t false]) 0).bool = true := q4
    (repeat first|refine Ret.p ?_|refine Ret.n ?_)
    exact Ret.some (skip (.inr (by rw [← hsk]; exact q4)))
   ·have q4 : (gi (mget KSeen seen [.s c0, .i (bix (inBand h0) b)] [.t false]) 0).bool = false := q4
    rw [hsk] at q4
    have e1 : hsL b life at_ ([.i t0, .i h0, .s c0, .s y0] :: t) = [.i t0, .i h0, .s c0, .s y0] :: hsL b life at_ t := by
     simp only [hsL, hc, q4]
     rfl
    have hlx : (ixL b (hsL b life at_ t)).length = (hsL b life at_ t).length := by simp [ixL]
    simp only [List.length_append, List.length_reverse, List.length_cons, List.length_nil, hlx]
    (repeat first|refine Ret.p ?_|refine Ret.n ?_)
    refine Ret.some ?_
    refine ⟨mput KSeen seen [.s c0, .i (bix (inBand h0) b)] [.t true] clk.toNat, ((mclk KSeen seen [.s c0, .i (bix (inBand h0) b)] clk.toNat : Nat) : Int), ?_, fun k => ?_⟩
    ·rw [e1]
     simp only [ixL, List.map_cons, List.reverse_cons]
     rfl
    ·rw [mget_mput, List.any_cons, hc, Bool.true_and]
     have e2 : ([G.s (gi [G.i t0, .i h0, .s c0, .s y0] 2).str, .i (bix (inBand (gi [G.i t0, .i h0, .s c0, .s y0] 1).int) b)] : List G) = [.s c0, .i (bix (inBand h0) b)] := rfl
     rw [e2, ← hs]
     cases hk : rowEq KSeen k [.s c0, .i (bix (inBand h0) b)] <;> rfl) l.length
  have hI0 : ∃ seen clk, [G.l b, .i life, .i at_, .l [], .l [], .l [], .i ((0 : Nat) : Int)] = [.l b, .i life, .i at_, .l (hsL b life at_ (l.drop l.length)).reverse, .l (ixL b (hsL b life at_ (l.drop l.length))).reverse, .l seen, .i clk] ∧
    ∀ k, (gi (mget KSeen seen k [.t false]) 0).bool = (l.drop l.length).any fun o => cntS b life at_ o && rowEq KSeen k [.s (gi o 2).str, .i (bix (inBand (gi o 1).int) b)] := by
   rw [List.drop_length]
   exact ⟨[], _, rfl, fun k => rfl⟩
  obtain ⟨_, hf, seen, clk, rfl, _⟩ := hI _ (Nat.le_refl _) hI0
  refine Ret.pos (show (Nat.ble l.length 1048576 && bd_band_heard_2 [.l b, .i life, .i at_, .l [], .l [], .l [], .i 0, .l l]) = true by
   have e : bd_band_heard_2 [.l b, .i life, .i at_, .l [], .l [], .l [], .i 0, .l l] = true := rfl
   rw [e, Bool.and_true, Nat.ble_eq]
   omega) ?_
  have hf : foldB bs_band_heard_2.st l l.length (bs_band_heard_2.init [.l b, .i life, .i at_, .l [], .l [], .l [], .i 0, .l l]) = some [.l b, .i life, .i at_, .l (hsL b life at_ l).reverse, .l (ixL b (hsL b life at_ l)).reverse, .l seen, .i clk] := hf
  have hlen := hsL_length (b := b) (life := life) (at_ := at_) l
  have hlx : (ixL b (hsL b life at_ l)).length = (hsL b life at_ l).length := by simp [ixL]
  show Ret ((foldB bs_band_heard_2.st l l.length (bs_band_heard_2.init [.l b, .i life, .i at_, .l [], .l [], .l [], .i 0, .l l])).bind tr_band_heard_2) _
  rw [hf]
  show Ret (tr_band_heard_2 [.l b, .i life, .i at_, .l (hsL b life at_ l).reverse, .l (ixL b (hsL b life at_ l)).reverse, .l seen, .i clk]) _
  unfold tr_band_heard_2
  (dsimp +instances only [Aa,Ab,Ac,Ad,Ae,Af,Ag])
  refine Ret.callb (Ret.eq (revT_eq _ (fun z hz => hl z (hsL_mem (List.mem_reverse.1 hz)).1) (by simp; omega))) (by (first|rfl|assumption|(simp only [inI,sl]<;>omega))) ?_
  rintro _ rfl
  (dsimp +instances only [Aa,Ab,Ac,Ad,Ae,Af,Ag])
  refine Ret.callb (Ret.eq (revI_eq _ (fun z hz => by
   obtain ⟨s, _, rfl⟩ := List.mem_map.1 (List.mem_reverse.1 hz)
   exact ⟨_, rfl⟩) (by simp [hlx]; omega))) (by (first|rfl|assumption|(simp only [inI,sl]<;>omega))) ?_
  rintro _ rfl
  (dsimp +instances only [Aa,Ab,Ac,Ad,Ae,Af,Ag])
  simp only [List.reverse_reverse, List.length_reverse, hlx]
  (repeat first|refine Ret.p ?_|refine Ret.n ?_)
  refine Ret.some ?_
  exact ⟨0, rfl, rfl⟩
 refine Ret.tail (P := fun _ g => g = [.l (hsL b life at_ l), .l (ixL b (hsL b life at_ l))]) key rfl ?_
 rintro _ _ rfl
 (dsimp +instances only [Aa,Ab,Ac,Ad,Ae,Af,Ag])
 (repeat first|refine Ret.p ?_|refine Ret.n ?_)
 exact Ret.some rfl
section
variable {b : List (List G)} {life at_ : Int}
end
/-! ### What is asked for -/
def faultAsked (life at_ hertz : Int) : Int := bif inB life 1 86400000 && (inB at_ 0 345686399999 && inB hertz 0 30000000000) then 0 else 1
theorem asked_ok (life at_ hertz : Int) : F_band_askedFault [.i life, .i at_, .i hertz] = some [.i (faultAsked life at_ hertz)] := by
 unfold F_band_askedFault faultAsked
 (dsimp +instances only [Aa,Ab,Ac,Ad,Ae,Af,Ag])
 rw [outside_eq, callF_some rfl]
 (dsimp +instances only [Aa,Ab,Ac,Ad,Ae,Af,Ag])
 rw [isMomentY, callF_some rfl]
 (dsimp +instances only [Aa,Ab,Ac,Ad,Ae,Af,Ag])
 rw [outside_eq, callF_some rfl]
 cases inB life 1 86400000 <;> cases inB at_ 0 345686399999 <;> cases inB hertz 0 30000000000 <;> rfl
theorem lists_ok (b l : List (List G)) (hb : ∀ z ∈ b, Bnd z) (hl : ∀ z ∈ l, Spt z) : F_band_listsFault [.l b, .l l] = some [.i (if faultBands b ≠ 0 then faultBands b else faultSpots l)] := by
 refine Ret.toEq ?_
 unfold F_band_listsFault
 (dsimp +instances only [Aa,Ab,Ac,Ad,Ae,Af,Ag])
 refine Ret.cE (checkBands_ok b hb) ?_
 (dsimp +instances only [Aa,Ab,Ac,Ad,Ae,Af,Ag])
 refine Ret.test (fun h => ?_) fun h => ?_
 ·rw [if_pos (by simpa using h)]
  exact Ret.some rfl
 ·rw [if_neg (by simpa using h)]
  refine Ret.cE (checkSpots_ok l hl) ?_
  exact Ret.some rfl
/-! ### Two lists in one -/
theorem apartT {rows : List (List G)} (hr : ∀ y ∈ rows, Spt y) : ∀ a ∈ rows, ∀ b ∈ rows, ltC ordT a b = false → ltC ordT b a = false → a = b := by
 intro a ha b hb h1 h2
 refine ordT_zero (hr a ha) (hr b hb) ?_
 unfold ltC at h1 h2
 rw [ltI_eq, decide_eq_false_iff_not] at h1 h2
 have := ordT_flip a b
 omega
theorem sortT1 (rows : List (List G)) (hr : ∀ y ∈ rows, Spt y) (hn : rows.length < 100000) : F_sl_SortFunc_Spot [.l rows] = some [.l (sortA (ltC ordT) rows)] :=
 sortG_eq (C := F_band_compareSpots) (Q := Spt) (fun r s _ _ => ⟨_, compareSpots_eq r s, Iff.rfl⟩) (linT.mono fun _ _ => trivial) rows hr hn (apartT hr)
theorem concatT_eq (a b : List (List G)) (h : a.length + b.length ≤ 1000) : F_sl_Concat_Spot_f [.l [[.l a], [.l b]]] = some [.l (a ++ b)] := by
 have h := concF_eq (K := KSpot) (Z := zT) [a, b] (by simp [lenAll]; omega) (by simp)
 rw [show [a, b].flatten = a ++ b from by simp] at h
 exact h
theorem srtY4 {Q : List G → Prop} {c : List G → List G → Int} (hz : Int) (dn : Bool) (hE : ∀ x, Q x → gEta KSpot x = x) (hC : ∀ x y, Q x → Q y → F_band_way_3 [.i hz, .t dn, .l [x], .l [y]] = some [.i hz, .t dn, .i (c x y)]) : ∀ (p q : List (List G)) (x : List G) (b i : Int) (j : Nat), (∀ y ∈ p, Q y) → Q x → p.length < 1000000 → j = p.length →
  ∃ m, m ≤ p.length + 1 ∧ Runs st_insS_Spot_2_4 m [.l (p.reverse ++ x :: q), .i hz, .t dn, .i 0, .i b, .i i, .i (j : Int)] 0 [.l ((insA (ltC c) x p).reverse ++ q), .i hz, .t dn, .i 0, .i b, .i i]
 | [], q, x, b, i, j, _, _, _, hj => by
  simp only [List.length_nil] at hj
  subst hj
  refine ⟨1, by simp, .stop (Ret.toEq ?_)⟩
  unfold st_insS_Spot_2_4
  (dsimp +instances only [Aa,Ab,Ac,Ad,Ae,Af,Ag])
  refine Ret.n ?_
  (repeat first|refine Ret.p ?_|refine Ret.n ?_)
  exact Ret.some rfl
 | y :: p, q, x, b, i, j, hp, hx, hl, hj => by
  have hy := hp y List.mem_cons_self
  have e1 : (y :: p).reverse ++ x :: q = (p.reverse ++ [y]) ++ x :: q := by simp
  have e2 : (y :: p).reverse ++ x :: q = p.reverse ++ y :: x :: q := by simp
  simp only [List.length_cons] at hl hj
  have g1 : ((y :: p).reverse ++ x :: q).getD (0 + (j : Int).toNat) [] = x := by rw [e1]; exact getD_mid _ _ _ _ _ (by simp [hj])
  have g2 : ((y :: p).reverse ++ x :: q).getD (0 + ((j : Int) - 1).toNat) [] = y := by rw [e2]; exact getD_mid _ _ _ _ _ (by simp [hj])
  have hlen : ((y :: p).reverse ++ x :: q).length = p.length + q.length + 2 := by simp; omega
  have hcmp := hC x y hx hy
  cases hlt : ltC c x y with
  | false =>
   refine ⟨1, by simp, .stop (Ret.toEq ?_)⟩
   unfold st_insS_Spot_2_4
   (dsimp +instances only [Aa,Ab,Ac,Ad,Ae,Af,Ag])
   simp only [hlen, g1, g2, hE x hx, hE y hy]
   refine Ret.p (Ret.p (Ret.p (Ret.p (Ret.p (Ret.p ?_)))))
   first | refine Ret.call (Ret.eq hcmp) ?_ | refine Ret.callb (Ret.eq hcmp) (by (first|rfl|assumption|(simp only [inI,sl]<;>omega))) ?_
   rintro _ rfl
   (dsimp +instances only [Aa,Ab,Ac,Ad,Ae,Af,Ag])
   refine Ret.neg hlt ?_
   (repeat first|refine Ret.p ?_|refine Ret.n ?_)
   refine Ret.some ?_
   simp [insA, hlt]
  | true =>
   obtain ⟨m, hm, hr⟩ := srtY4 hz dn hE hC p (y :: q) x b i (j - 1) (fun z hz => hp z (List.mem_cons_of_mem _ hz)) hx (by omega) (by omega)
   refine ⟨m + 1, by simp; omega, .next (Ret.toEq ?_) (by
    have e : (insA (ltC c) x (y :: p)).reverse ++ q = (insA (ltC c) x p).reverse ++ y :: q := by simp [insA, hlt]
    rw [e]; exact hr)⟩
   have s1 : ((y :: p).reverse ++ x :: q).set (0 + (j : Int).toNat) y = p.reverse ++ y :: y :: q := by
    rw [e1, set_mid _ _ _ _ _ (by simp [hj])]; simp
   have s2 : (p.reverse ++ y :: y :: q).set (0 + ((j : Int) - 1).toNat) x = p.reverse ++ x :: y :: q := set_mid _ _ _ _ _ (by simp [hj])
   have g3 : (p.reverse ++ y :: y :: q).getD (0 + ((j : Int) - 1).toNat) [] = y := getD_mid _ _ _ _ _ (by simp [hj])
   have hl2 : (p.reverse ++ y :: y :: q).length = p.length + q.length + 2 := by simp; omega
   have hl3 : (p.reverse ++ x :: y :: q).length = p.length + q.length + 2 := by simp; omega
   have ky : y.length = KSpot.length := by rw [← hE y hy, gEta_length]
   have kx : x.length = KSpot.length := by rw [← hE x hx, gEta_length]
   unfold st_insS_Spot_2_4
   (dsimp +instances only [Aa,Ab,Ac,Ad,Ae,Af,Ag])
   simp only [hlen, g1, g2, hE x hx, hE y hy, putG_all ky, putG_all kx, s1, g3, s2, hl2, hl3]
   refine Ret.p (Ret.p (Ret.p (Ret.p (Ret.p (Ret.p ?_)))))
   first | refine Ret.call (Ret.eq hcmp) ?_ | refine Ret.callb (Ret.eq hcmp) (by (first|rfl|assumption|(simp only [inI,sl]<;>omega))) ?_
   rintro _ rfl
   (dsimp +instances only [Aa,Ab,Ac,Ad,Ae,Af,Ag])
   refine Ret.pos hlt ?_
   (repeat first|refine Ret.p ?_|refine Ret.n ?_)
   refine Ret.some ?_
   try simp only [Int.toNat_natCast]
   rw [show ((j : Int) - 1) = ((j - 1 : Nat) : Int) from by omega]
theorem srtY1 {Q : List G → Prop} {c : List G → List G → Int} (hz : Int) (dn : Bool) (hE : ∀ x, Q x → gEta KSpot x = x) (hC : ∀ x y, Q x → Q y → F_band_way_3 [.i hz, .t dn, .l [x], .l [y]] = some [.i hz, .t dn, .i (c x y)]) : ∀ (r p : List (List G)) (i n : Nat), (∀ y ∈ p, Q y) → (∀ y ∈ r, Q y) → i = p.length → n = p.length + r.length → n < 100000 →
  ∃ m, m ≤ r.length + 1 ∧ Runs st_insS_Spot_2_1 m [.l (p.reverse ++ r), .i hz, .t dn, .i 0, .i (n : Int), .i (i : Int)] 0 [.l (insAll (ltC c) p r).reverse, .i hz, .t dn]
 | [], p, i, n, _, _, hi, hn, hs => by
  refine ⟨1, by simp, .stop (Ret.toEq ?_)⟩
  simp only [List.length_nil] at hn
  unfold st_insS_Spot_2_1
  (dsimp +instances only [Aa,Ab,Ac,Ad,Ae,Af,Ag])
  refine Ret.n ?_
  (repeat first|refine Ret.p ?_|refine Ret.n ?_)
  refine Ret.some ?_
  simp [insAll]
 | x :: r, p, i, n, hp, hr, hi, hn, hs => by
  simp only [List.length_cons] at hn
  obtain ⟨m1, hm1, h1⟩ := srtY4 hz dn hE hC p r x (n : Int) (i : Int) i hp (hr x List.mem_cons_self) (by omega) hi
  obtain ⟨m, hm, h2⟩ := srtY1 hz dn hE hC r (insA (ltC c) x p) (i + 1) n (insA_all (hr x List.mem_cons_self) hp) (fun y hy => hr y (List.mem_cons_of_mem _ hy)) (by rw [insA_length, hi]) (by rw [insA_length]; omega) hs
  refine ⟨m + 1, by simp; omega, .next (Ret.toEq ?_) h2⟩
  unfold st_insS_Spot_2_1
  (dsimp +instances only [Aa,Ab,Ac,Ad,Ae,Af,Ag])
  refine Ret.p (Ret.loop (P := fun x g => g = _) ⟨m1, 0, _, h1, by omega, rfl⟩ (by (first|rfl|assumption|(simp only [inI,sl]<;>omega))) ?_)
  rintro _ _ rfl
  (dsimp +instances only [Aa,Ab,Ac,Ad,Ae,Af,Ag])
  (repeat first|refine Ret.p ?_|refine Ret.n ?_)
  exact Ret.some rfl
theorem srtYF {Q : List G → Prop} {c : List G → List G → Int} (hz : Int) (dn : Bool) (hE : ∀ x, Q x → gEta KSpot x = x) (hC : ∀ x y, Q x → Q y → F_band_way_3 [.i hz, .t dn, .l [x], .l [y]] = some [.i hz, .t dn, .i (c x y)]) (rows : List (List G)) (hr : ∀ y ∈ rows, Q y) (hn : rows.length < 100000) : F_insS_Spot_2 [.l rows, .i hz, .t dn, .i 0, .i (rows.length : Int)] = some [.l (sortA (ltC c) rows), .i hz, .t dn] := by
 refine Ret.toEq ?_
 unfold F_insS_Spot_2
 (dsimp +instances only [Aa,Ab,Ac,Ad,Ae,Af,Ag])
 refine Ret.p ?_
 cases rows with
 | nil =>
  refine Ret.loop (P := fun x g => g = [.l [], .i hz, .t dn]) ⟨1, 0, _, .stop (Ret.toEq (?_ : Ret _ (fun g => g = (some 0, [G.l [], .i hz, .t dn])))), by omega, rfl⟩ (by (first|rfl|assumption|(simp only [inI,sl]<;>omega))) ?_
  ·unfold st_insS_Spot_2_1
   (dsimp +instances only [Aa,Ab,Ac,Ad,Ae,Af,Ag])
   refine Ret.n ?_
   (repeat first|refine Ret.p ?_|refine Ret.n ?_)
   exact Ret.some rfl
  ·rintro _ _ rfl
   (dsimp +instances only [Aa,Ab,Ac,Ad,Ae,Af,Ag])
   (repeat first|refine Ret.p ?_|refine Ret.n ?_)
   exact Ret.some rfl
 | cons x r =>
  simp only [List.length_cons] at hn
  obtain ⟨m, hm, h⟩ := srtY1 hz dn hE hC r [x] 1 (r.length + 1) (by simpa using hr x List.mem_cons_self) (fun y hy => hr y (List.mem_cons_of_mem _ hy)) rfl (by simp; omega) (by omega)
  refine Ret.loop (P := fun y g => g = _) ⟨m, 0, _, h, by omega, rfl⟩ (by (first|rfl|assumption|(simp only [inI,sl]<;>omega))) ?_
  rintro _ _ rfl
  (dsimp +instances only [Aa,Ab,Ac,Ad,Ae,Af,Ag])
  (repeat first|refine Ret.p ?_|refine Ret.n ?_)
  exact Ret.some rfl
theorem srtYN {Q : List G → Prop} {c : List G → List G → Int} (hz : Int) (dn : Bool) (hE : ∀ x, Q x → gEta KSpot x = x) (hC : ∀ x y, Q x → Q y → F_band_way_3 [.i hz, .t dn, .l [x], .l [y]] = some [.i hz, .t dn, .i (c x y)]) (rows : List (List G)) (a b : Nat) (h : b ≤ a) (hn : a < 100000) : F_insS_Spot_2 [.l rows, .i hz, .t dn, .i (a : Int), .i (b : Int)] = some [.l rows, .i hz, .t dn] := by
 refine Ret.toEq ?_
 unfold F_insS_Spot_2
 (dsimp +instances only [Aa,Ab,Ac,Ad,Ae,Af,Ag])
 refine Ret.p ?_
 refine Ret.loop (P := fun x g => g = [.l rows, .i hz, .t dn]) ⟨1, 0, _, .stop (Ret.toEq (?_ : Ret _ (fun g => g = (some 0, [G.l rows, .i hz, .t dn])))), by omega, rfl⟩ (by (first|rfl|assumption|(simp only [inI,sl]<;>omega))) ?_
 ·unfold st_insS_Spot_2_1
  (dsimp +instances only [Aa,Ab,Ac,Ad,Ae,Af,Ag])
  refine Ret.n ?_
  (repeat first|refine Ret.p ?_|refine Ret.n ?_)
  exact Ret.some rfl
 ·rintro _ _ rfl
  (dsimp +instances only [Aa,Ab,Ac,Ad,Ae,Af,Ag])
  (repeat first|refine Ret.p ?_|refine Ret.n ?_)
  exact Ret.some rfl
theorem srtYT {Q : List G → Prop} {c : List G → List G → Int} (hz : Int) (dn : Bool) (hE : ∀ x, Q x → gEta KSpot x = x) (hC : ∀ x y, Q x → Q y → F_band_way_3 [.i hz, .t dn, .l [x], .l [y]] = some [.i hz, .t dn, .i (c x y)]) (rows : List (List G)) (hr : ∀ y ∈ rows, Q y) (hn : rows.length ≤ 20) : F_stbS_Spot_2 [.l rows, .i hz, .t dn, .i (rows.length : Int)] = some [.l (sortA (ltC c) rows), .i hz, .t dn] := by
 refine Ret.toEq ?_
 unfold F_stbS_Spot_2
 (dsimp +instances only [Aa,Ab,Ac,Ad,Ae,Af,Ag])
 have hS := srtYF hz dn hE hC rows hr (by omega)
 have hlen := sortA_length (ltC c) rows
 have h7 : ∀ rows' : List (List G), rows'.length = rows.length → RetL st_stbS_Spot_2_7 [.l rows', .i hz, .t dn, .i (rows.length : Int), .i 20] fun _ g => g = [.l rows', .i hz, .t dn] := by
  intro rows' hl
  refine RetL.stop (x := 0) (Ret.toEq ?_) rfl
  unfold st_stbS_Spot_2_7
  (dsimp +instances only [Aa,Ab,Ac,Ad,Ae,Af,Ag])
  refine Ret.n ?_
  (repeat first|refine Ret.p ?_|refine Ret.n ?_)
  exact Ret.some rfl
 by_cases h20 : rows.length = 20
 ·have h1 : st_stbS_Spot_2_2 [.l rows, .i hz, .t dn, .i (rows.length : Int), .i 20, .i 0, .i 20] = some (none, [.l (sortA (ltC c) rows), .i hz, .t dn, .i (rows.length : Int), .i 20, .i 20, .i 40]) := by
   refine Ret.toEq ?_
   unfold st_stbS_Spot_2_2
   (dsimp +instances only [Aa,Ab,Ac,Ad,Ae,Af,Ag])
   have hS : F_insS_Spot_2 [.l rows, .i hz, .t dn, .i 0, .i 20] = some [.l (sortA (ltC c) rows), .i hz, .t dn] := by rw [h20] at hS; exact hS
   refine Ret.p (Ret.callb (Ret.eq hS) (by (first|rfl|assumption|(simp only [inI,sl]<;>omega))) ?_)
   rintro _ rfl
   (dsimp +instances only [Aa,Ab,Ac,Ad,Ae,Af,Ag])
   (repeat first|refine Ret.p ?_|refine Ret.n ?_)
   exact Ret.some rfl
  have h2 : st_stbS_Spot_2_2 [.l (sortA (ltC c) rows), .i hz, .t dn, .i (rows.length : Int), .i 20, .i 20, .i 40] = some (some 0, [.l (sortA (ltC c) rows), .i hz, .t dn, .i (rows.length : Int), .i 20, .i 20]) := by
   refine Ret.toEq ?_
   unfold st_stbS_Spot_2_2
   (dsimp +instances only [Aa,Ab,Ac,Ad,Ae,Af,Ag])
   refine Ret.n ?_
   (repeat first|refine Ret.p ?_|refine Ret.n ?_)
   exact Ret.some rfl
  refine Ret.loop (P := fun x g => g = _) ⟨2, 0, _, .next h1 (.stop h2), by omega, rfl⟩ (by (first|rfl|assumption|(simp only [inI,sl]<;>omega))) ?_
  rintro _ _ rfl
  (dsimp +instances only [Aa,Ab,Ac,Ad,Ae,Af,Ag])
  have hE2 : F_insS_Spot_2 [.l (sortA (ltC c) rows), .i hz, .t dn, .i 20, .i (rows.length : Int)] = some [.l (sortA (ltC c) rows), .i hz, .t dn] := by
   rw [h20]; exact srtYN hz dn hE hC _ 20 20 (by omega) (by omega)
  refine Ret.callb (Ret.eq hE2) (by (first|rfl|assumption|(simp only [inI,sl]<;>omega))) ?_
  rintro _ rfl
  (dsimp +instances only [Aa,Ab,Ac,Ad,Ae,Af,Ag])
  refine Ret.loop (h7 _ hlen) (by (first|rfl|assumption|(simp only [inI,sl]<;>omega))) ?_
  rintro _ _ rfl
  (dsimp +instances only [Aa,Ab,Ac,Ad,Ae,Af,Ag])
  (repeat first|refine Ret.p ?_|refine Ret.n ?_)
  exact Ret.some rfl
 ·have h1 : st_stbS_Spot_2_2 [.l rows, .i hz, .t dn, .i (rows.length : Int), .i 20, .i 0, .i 20] = some (some 0, [.l rows, .i hz, .t dn, .i (rows.length : Int), .i 20, .i 0]) := by
   refine Ret.toEq ?_
   unfold st_stbS_Spot_2_2
   (dsimp +instances only [Aa,Ab,Ac,Ad,Ae,Af,Ag])
   refine Ret.n ?_
   (repeat first|refine Ret.p ?_|refine Ret.n ?_)
   exact Ret.some rfl
  refine Ret.loop (P := fun x g => g = _) ⟨1, 0, _, .stop h1, by omega, rfl⟩ (by (first|rfl|assumption|(simp only [inI,sl]<;>omega))) ?_
  rintro _ _ rfl
  (dsimp +instances only [Aa,Ab,Ac,Ad,Ae,Af,Ag])
  refine Ret.callb (Ret.eq hS) (by (first|rfl|assumption|(simp only [inI,sl]<;>omega))) ?_
  rintro _ rfl
  (dsimp +instances only [Aa,Ab,Ac,Ad,Ae,Af,Ag])
  refine Ret.loop (h7 _ hlen) (by (first|rfl|assumption|(simp only [inI,sl]<;>omega))) ?_
  rintro _ _ rfl
  (dsimp +instances only [Aa,Ab,Ac,Ad,Ae,Af,Ag])
  (repeat first|refine Ret.p ?_|refine Ret.n ?_)
  exact Ret.some rfl
theorem srtY_eq {Q : List G → Prop} {c : List G → List G → Int} (hz : Int) (dn : Bool) (hE : ∀ x, Q x → gEta KSpot x = x) (hC : ∀ x y, Q x → Q y → F_band_way_3 [.i hz, .t dn, .l [x], .l [y]] = some [.i hz, .t dn, .i (c x y)]) (rows : List (List G)) (hr : ∀ y ∈ rows, Q y) (hn : rows.length ≤ 20) : F_srtS_Spot_2 [.l rows, .i hz, .t dn] = some [.l (sortA (ltC c) rows), .i hz, .t dn] := by
 refine Ret.toEq ?_
 unfold F_srtS_Spot_2
 (dsimp +instances only [Aa,Ab,Ac,Ad,Ae,Af,Ag])
 refine Ret.callb (Ret.eq (srtYT hz dn hE hC rows hr hn)) (by (first|rfl|assumption|(simp only [inI,sl]<;>omega))) ?_
 rintro _ rfl
 (dsimp +instances only [Aa,Ab,Ac,Ad,Ae,Af,Ag])
 (repeat first|refine Ret.p ?_|refine Ret.n ?_)
 exact Ret.some rfl
section
variable {b : List (List G)} {life at_ : Int}
end
def sgnW (v : Int) : Int := if v < 0 then -1 else if 0 < v then 1 else 0
theorem sgnW_neg (v : Int) : (sgnW v < 0) = (v < 0) := by
 unfold sgnW
 split
 ·rename_i h
  simp [h]
 ·split
  ·rename_i h h'
   simp [h]
  ·rename_i h h'
   simp [h]
def apI (h hz : Int) : Int := if (hz - h) > (h - hz) then (hz - h) else (h - hz)
theorem apI_b {h hz : Int} (h1 : b50 h) (h2 : b50 hz) : 0 ≤ apI h hz ∧ apI h hz ≤ 4000000000000000 := by
 unfold b50 at h1 h2
 unfold apI
 split <;> omega
theorem Spt.hz {s : List G} (h : Spt s) : b50 (gi s 1).int := by
 obtain ⟨t, h, c, y, rfl, _, hh, _⟩ := h
 exact hh
theorem Spt.call {s : List G} (h : Spt s) : (gi s 2).str ∈ calls := by
 obtain ⟨t, h, c, y, rfl, _, _, hc, _⟩ := h
 exact hc
/-! ### Who was worked -/
/-! ### Sorting and sifting -/
theorem insA_sift {α : Type} {lt : α → α → Bool} {S : α → Prop} (hL : Lin lt S) (p : α → Bool) {x : α} (hx : S x) : ∀ {q : List α}, (∀ y ∈ q, S y) → q.Pairwise (fun a b => lt a b = false) → (insA lt x q).filter p = bif p x then insA lt x (q.filter p) else q.filter p
 | [], _, _ => by
  cases h : p x <;> simp [insA, h]
 | y :: q, hq, hp => by
  obtain ⟨h1, h2⟩ := List.pairwise_cons.1 hp
  have hy := hq y List.mem_cons_self
  have hq' : ∀ z ∈ q, S z := fun z hz => hq z (List.mem_cons_of_mem _ hz)
  simp only [insA]
  cases hxy : lt x y with
  | true =>
   have ih := insA_sift hL p hx hq' h2
   simp only [cond_true]
   cases hpy : p y with
   | true =>
    rw [List.filter_cons_of_pos hpy, List.filter_cons_of_pos hpy, ih]
    cases p x with
    | true => simp only [cond_true, insA, hxy]
    | false => simp only [cond_false]
   | false => rw [List.filter_cons_of_neg (by simp [hpy]), List.filter_cons_of_neg (by simp [hpy]), ih]
  | false =>
   simp only [cond_false]
   cases hpx : p x with
   | true =>
    rw [List.filter_cons_of_pos hpx]
    simp only [cond_true]
    cases he : (y :: q).filter p with
    | nil => rfl
    | cons z t =>
     have hz : z ∈ (y :: q).filter p := by rw [he]; exact List.mem_cons_self
     have hz := (List.mem_filter.1 hz).1
     have : lt x z = false := by
      rcases List.mem_cons.1 hz with rfl | hz
      ·exact hxy
      ·exact hL.tr x y z hx hy (hq' z hz) hxy (h1 z hz)
     simp only [insA, this, cond_false]
   | false =>
    rw [List.filter_cons_of_neg (by simp [hpx])]
    simp only [cond_false]
theorem insAll_sift {α : Type} {lt : α → α → Bool} {S : α → Prop} (hL : Lin lt S) (p : α → Bool) : ∀ {r q : List α}, (∀ y ∈ q, S y) → (∀ y ∈ r, S y) → q.Pairwise (fun a b => lt a b = false) → (insAll lt q r).filter p = insAll lt (q.filter p) (r.filter p)
 | [], q, _, _, _ => by simp [insAll]
 | x :: r, q, hq, hr, hp => by
  have hx := hr x List.mem_cons_self
  have hi : ∀ y ∈ insA lt x q, S y := insA_all hx hq
  simp only [insAll]
  rw [insAll_sift hL p hi (fun y hy => hr y (List.mem_cons_of_mem _ hy)) (insA_desc hL hx hq hp), insA_sift hL p hx hq hp]
  cases hpx : p x with
  | true => rw [List.filter_cons_of_pos hpx]; simp only [cond_true, insAll]
  | false => rw [List.filter_cons_of_neg (by simp [hpx])]; simp only [cond_false]
theorem sortA_sift {α : Type} {lt : α → α → Bool} {S : α → Prop} (hL : Lin lt S) (p : α → Bool) {l : List α} (hl : ∀ y ∈ l, S y) : (sortA lt l).filter p = sortA lt (l.filter p) := by
 unfold sortA
 rw [List.filter_reverse, insAll_sift hL p (by simp) hl List.Pairwise.nil]
 rfl
theorem insA_same {α : Type} {lt lu : α → α → Bool} (x : α) : ∀ {p : List α}, (∀ y ∈ p, lt x y = lu x y) → insA lt x p = insA lu x p
 | [], _ => rfl
 | y :: p, h => by simp only [insA, h y List.mem_cons_self, insA_same x fun z hz => h z (List.mem_cons_of_mem _ hz)]
theorem insAll_same {α : Type} {lt lu : α → α → Bool} {S : α → Prop} (h : ∀ x y, S x → S y → lt x y = lu x y) : ∀ {r p : List α}, (∀ y ∈ p, S y) → (∀ y ∈ r, S y) → insAll lt p r = insAll lu p r
 | [], _, _, _ => rfl
 | x :: r, p, hp, hr => by
  have hx := hr x List.mem_cons_self
  simp only [insAll, insA_same x fun y hy => h x y hx (hp y hy)]
  exact insAll_same h (insA_all hx hp) fun y hy => hr y (List.mem_cons_of_mem _ hy)
theorem sortA_same {α : Type} {lt lu : α → α → Bool} {S : α → Prop} (h : ∀ x y, S x → S y → lt x y = lu x y) {l : List α} (hl : ∀ y ∈ l, S y) : sortA lt l = sortA lu l := by
 unfold sortA
 rw [insAll_same h (by simp) hl]
theorem sift_split {α : Type} {p : α → Bool} : ∀ {l : List α}, l.Pairwise (fun a b => p b = true → p a = true) → l = l.filter p ++ l.filter fun x => !p x
 | [], _ => rfl
 | x :: l, h => by
  obtain ⟨h1, h2⟩ := List.pairwise_cons.1 h
  have ih := sift_split h2
  cases hx : p x with
  | true =>
   rw [List.filter_cons_of_pos hx, List.filter_cons_of_neg (by simp [hx]), List.cons_append, ← ih]
  | false =>
   have hn : ∀ y ∈ l, p y = false := fun y hy => by
    cases hy2 : p y with
    | false => rfl
    | true => rw [h1 y hy hy2] at hx; cases hx
   have e1 : (x :: l).filter p = [] := List.filter_eq_nil_iff.2 fun y hy => by
    rcases List.mem_cons.1 hy with rfl | hy
    ·simp [hx]
    ·simp [hn y hy]
   have e2 : ((x :: l).filter fun x => !p x) = x :: l := List.filter_eq_self.2 fun y hy => by
    rcases List.mem_cons.1 hy with rfl | hy
    ·simp [hx]
    ·simp [hn y hy]
   rw [e1, e2, List.nil_append]
/-! ### Sides -/
def kp (w hz p : Int) : Int := w * (p - hz)
def kS (w hz : Int) (s : List G) : Int := kp w hz (gi s 1).int
def onS (w hz : Int) (s : List G) : Bool := leI 0 (kS w hz s)
def cY (w hz : Int) (x y : List G) : Int := if onS w hz x ≠ onS w hz y then (if onS w hz x = true then -1 else 1) else apI (gi x 1).int hz - apI (gi y 1).int hz
def cU (w : Int) (x y : List G) : Int := w * sgnW ((gi x 1).int - (gi y 1).int)
def wD (dn : Bool) : Int := bif dn then -1 else 1
theorem wD_pm (dn : Bool) : wD dn = 1 ∨ wD dn = -1 := by cases dn <;> simp [wD]
def callR (s : List G) : List G := [.s (gi s 2).str]
theorem apI_k {w hz p : Int} (hw : w = 1 ∨ w = -1) : (0 ≤ kp w hz p → apI p hz = kp w hz p) ∧ (kp w hz p < 0 → apI p hz = - kp w hz p) := by
 unfold kp apI
 rcases hw with rfl | rfl
 ·constructor
  ·intro h
   split <;> omega
  ·intro h
   split <;> omega
 ·constructor
  ·intro h
   split <;> omega
  ·intro h
   split <;> omega
theorem linY {w hz : Int} : Lin (ltC (cY w hz)) (fun _ => True) := by
 refine lin_of (fun a b => ?_) fun a b d h1 h2 => ?_
 ·unfold cY
  cases h1 : onS w hz a <;> cases h2 : onS w hz b <;> simp <;> omega
 ·unfold cY at *
  cases k1 : onS w hz a <;> cases k2 : onS w hz b <;> cases k3 : onS w hz d <;> simp [k1, k2, k3] at h1 h2 ⊢ <;> omega
def grpA (w hz : Int) (hs : List (List G)) : List (List G) := sortA (ltC (cU w)) (hs.filter fun s => onS w hz s)
def grpB (w hz : Int) (hs : List (List G)) : List (List G) := sortA (ltC (cU (-w))) (hs.filter fun s => !onS w hz s)
theorem sgnW_pos (v : Int) : (0 < sgnW v) = (0 < v) := by
 unfold sgnW
 split
 ·rename_i h
  rw [eq_iff_iff]
  omega
 ·split
  ·rename_i h h'
   rw [eq_iff_iff]
   omega
  ·rename_i h h'
   rw [eq_iff_iff]
   omega
theorem cU_neg {w : Int} (hw : w = 1 ∨ w = -1) (x y : List G) : cU w x y < 0 ↔ w * ((gi x 1).int - (gi y 1).int) < 0 := by
 unfold cU
 have h1 := sgnW_neg ((gi x 1).int - (gi y 1).int)
 have h2 := sgnW_pos ((gi x 1).int - (gi y 1).int)
 rw [eq_iff_iff] at h1 h2
 rcases hw with rfl | rfl
 ·omega
 ·omega
theorem way_split {w hz : Int} (hw : w = 1 ∨ w = -1) (hs : List (List G)) : sortA (ltC (cY w hz)) hs = grpA w hz hs ++ grpB w hz hs := by
 have hS := sortA_sorted (linY (w := w) (hz := hz)) (l := hs) (fun _ _ => trivial)
 have hP : (sortA (ltC (cY w hz)) hs).Pairwise (fun a b => onS w hz b = true → onS w hz a = true) := hS.imp fun {a b} h hb => by
  unfold ltC at h
  rw [ltI_eq, decide_eq_false_iff_not] at h
  unfold cY at h
  cases ha : onS w hz a with
  | true => rfl
  | false =>
   rw [hb, ha] at h
   simp at h
 have key := sift_split hP
 rw [sortA_sift linY _ (fun _ _ => trivial), sortA_sift linY _ (fun _ _ => trivial)] at key
 rw [key]
 have e1 : sortA (ltC (cY w hz)) (hs.filter fun s => onS w hz s) = grpA w hz hs := sortA_same (S := fun s => onS w hz s = true) (fun x y hx hy => by
  unfold ltC
  rw [ltI_eq, ltI_eq]
  have hU := cU_neg hw x y
  have hx' := hx
  have hy' := hy
  unfold onS kS at hx' hy'
  simp only [leI_eq, decide_eq_true_eq] at hx' hy'
  have ax := (apI_k hw).1 hx'
  have ay := (apI_k hw).1 hy'
  unfold cY
  rw [hx, hy, if_neg (by simp), ax, ay]
  congr 1
  rw [eq_iff_iff, hU]
  unfold kp
  rcases hw with rfl | rfl <;> omega) (fun y hy => (List.mem_filter.1 hy).2)
 have e2 : sortA (ltC (cY w hz)) (hs.filter fun s => !onS w hz s) = grpB w hz hs := sortA_same (S := fun s => onS w hz s = false) (fun x y hx hy => by
  unfold ltC
  rw [ltI_eq, ltI_eq]
  have hU := cU_neg (w := -w) (by omega) x y
  have hx' := hx
  have hy' := hy
  unfold onS kS at hx' hy'
  simp only [leI_eq, decide_eq_false_iff_not, Int.not_le] at hx' hy'
  have ax := (apI_k hw).2 hx'
  have ay := (apI_k hw).2 hy'
  unfold cY
  rw [hx, hy, if_neg (by simp), ax, ay]
  congr 1
  rw [eq_iff_iff, hU]
  unfold kp
  rcases hw with rfl | rfl <;> omega) (fun y hy => by simpa using (List.mem_filter.1 hy).2)
 rw [e1, e2]
/-! ### The program's way -/
theorem cloneT_ok (a : List (List G)) (h : a.length ≤ 1048576) : F_sl_Clone_Spot_f [.l a] = some [.l a] := by
 unfold F_sl_Clone_Spot_f F_sl_Clone_Spot_f_0
 (dsimp +instances only [Aa,Ab,Ac,Ad,Ae,Af,Ag])
 cases a with
 | nil => rfl
 | cons x q =>
  refine Ret.toEq (Ret.pos (by simp [Nat.blt_eq]) ?_)
  refine Ret.pos (by simp [Nat.blt_eq]) ?_
  (repeat first|refine Ret.p ?_|refine Ret.n ?_)
  exact Ret.some rfl
theorem first_ok {s : List G} (hz : Int) (dn : Bool) : F_band_way_1 [.l [s], .l [[.i hz]], .l [[.t dn]]] = some [.t (onS (wD dn) hz s)] := by
 refine Ret.toEq ?_
 unfold F_band_way_1 onS kS kp
 (dsimp +instances only [Aa,Ab,Ac,Ad,Ae,Af,Ag])
 refine Ret.test (fun h => ?_) fun h => ?_
 ·have h : (gi s 1).int = hz := by simpa using h
  rw [h]
  refine Ret.some ?_
  simp [leI_eq]
 ·have h : (gi s 1).int ≠ hz := by simpa using h
  refine Ret.some ?_
  congr 2
  rw [Bool.eq_iff_iff]
  cases dn with
  | true =>
   simp only [ltI_eq, leI_eq, wD, cond_true, beq_iff_eq, decide_eq_true_eq]
   omega
  | false =>
   simp only [ltI_eq, leI_eq, wD, cond_false, beq_iff_eq, decide_eq_true_eq, decide_eq_false_iff_not]
   omega
theorem far2_ok {s : List G} {hz : Int} (hs : Spt s) (h2 : b50 hz) : F_band_way_2 [.l [s], .l [[.i hz]]] = some [.i (apI (gi s 1).int hz)] := by
 have h1 := hs.hz
 unfold b50 at h1 h2
 refine Ret.toEq ?_
 unfold F_band_way_2 apI
 (dsimp +instances only [Aa,Ab,Ac,Ad,Ae,Af,Ag])
 (repeat first|refine Ret.p ?_|refine Ret.n ?_)
 exact Ret.some rfl
theorem cmpY {hz : Int} (dn : Bool) (h2 : b50 hz) (x y : List G) (hx : Spt x) (hy : Spt y) : F_band_way_3 [.i hz, .t dn, .l [x], .l [y]] = some [.i hz, .t dn, .i (cY (wD dn) hz x y)] := by
 have b1 := apI_b hx.hz h2
 have b2 := apI_b hy.hz h2
 refine Ret.toEq ?_
 unfold F_band_way_3 cY
 (dsimp +instances only [Aa,Ab,Ac,Ad,Ae,Af,Ag])
 simp only [hx.eta, hy.eta]
 refine Ret.cE (first_ok hz dn) ?_
 refine Ret.cE (first_ok hz dn) ?_
 (dsimp +instances only [Aa,Ab,Ac,Ad,Ae,Af,Ag])
 cases k1 : onS (wD dn) hz x <;> cases k2 : onS (wD dn) hz y
 ·refine Ret.neg (by rfl) ?_
  rw [if_neg (by simp)]
  refine Ret.cE (far2_ok hx h2) ?_
  refine Ret.cE (far2_ok hy h2) ?_
  (dsimp +instances only [Aa,Ab,Ac,Ad,Ae,Af,Ag])
  (repeat first|refine Ret.p ?_|refine Ret.n ?_)
  exact Ret.some rfl
 ·exact Ret.pos rfl (Ret.neg rfl (Ret.some (by simp)))
 ·exact Ret.pos rfl (Ret.pos rfl (Ret.some (by simp)))
 ·refine Ret.neg (by rfl) ?_
  rw [if_neg (by simp)]
  refine Ret.cE (far2_ok hx h2) ?_
  refine Ret.cE (far2_ok hy h2) ?_
  (dsimp +instances only [Aa,Ab,Ac,Ad,Ae,Af,Ag])
  (repeat first|refine Ret.p ?_|refine Ret.n ?_)
  exact Ret.some rfl
theorem way_calls (rows : List (List G)) (hn : rows.length ≤ 1000) : RetL st_band_way_7 [.l [], .l rows, .i (rows.length : Int), .i 0] fun c g => c = 0 ∧ g = [.l (rows.map callR)] := by
 have r := range_all (st := st_band_way_7) (σ := Unit) (fun _ i => [.l ((rows.take i).map callR), .l rows, .i (rows.length : Int), .i (i : Int)]) rows (fun _ => (0, [.l (rows.map callR)]))
  (fun _ _ => True) () (by omega) trivial
  (fun _ i x _ hi hx hm ht => by
   have hl : ((rows.take i).map callR).length ≤ 1000 := by rw [List.length_map, List.length_take]; omega
   have e : (rows.take (i + 1)).map callR = (rows.take i).map callR ++ [[.s (gi x 2).str]] := by
    rw [ht, List.map_append]
    rfl
   unfold st_band_way_7
   (dsimp +instances only [Aa,Ab,Ac,Ad,Ae,Af,Ag])
   simp only [Int.toNat_natCast, Nat.zero_add, hx]
   rw [← e]
   have hl2 : ((rows.take (i + 1)).map callR).length ≤ 1000 := by rw [List.length_map, List.length_take]; omega
   (repeat first|refine Ret.p ?_|refine Ret.n ?_)
   exact Ret.some ⟨(), by simp, trivial⟩)
  (fun _ _ => by
   have hl : (rows.map callR).length ≤ 1000 := by rw [List.length_map]; omega
   unfold st_band_way_7
   (dsimp +instances only [Aa,Ab,Ac,Ad,Ae,Af,Ag])
   simp only [List.take_length]
   (repeat first|refine Ret.p ?_|refine Ret.n ?_)
   exact Ret.some rfl)
 refine RetL.mono r ?_
 rintro c g ⟨_, _, rfl, rfl⟩
 exact ⟨rfl, rfl⟩
theorem way_ok (hs : List (List G)) (hz : Int) (dn : Bool) (hS : ∀ z ∈ hs, Spt z) (hn : hs.length ≤ 20) (h2 : b50 hz) :
  F_band_way [.l hs, .i hz, .t dn] = some [.l ((grpA (wD dn) hz hs ++ grpB (wD dn) hz hs).map callR)] := by
 refine Ret.toEq ?_
 unfold F_band_way
 (dsimp +instances only [Aa,Ab,Ac,Ad,Ae,Af,Ag])
 refine Ret.cE (cloneT_ok hs (by omega)) ?_
 (dsimp +instances only [Aa,Ab,Ac,Ad,Ae,Af,Ag])
 have hsl := sortA_length (ltC (cY (wD dn) hz)) hs
 refine Ret.callb (Ret.eq (srtY_eq hz dn (Q := Spt) (c := cY (wD dn) hz) (fun _ h => h.eta) (cmpY dn h2) hs hS hn)) (by (first|rfl|assumption|(simp only [inI,sl]<;>omega))) ?_
 rintro _ rfl
 (dsimp +instances only [Aa,Ab,Ac,Ad,Ae,Af,Ag])
 have hw := way_calls (sortA (ltC (cY (wD dn) hz)) hs) (by omega)
 rw [hsl] at hw
 refine Ret.loop hw (by rw [hsl]; (first|rfl|assumption|(simp only [inI,sl]<;>omega))) ?_
 rintro _ _ ⟨rfl, rfl⟩
 (dsimp +instances only [Aa,Ab,Ac,Ad,Ae,Af,Ag])
 have hl : ((sortA (ltC (cY (wD dn) hz)) hs).map callR).length ≤ 1000 := by rw [List.length_map]; omega
 rw [← way_split (wD_pm dn)]
 (repeat first|refine Ret.p ?_|refine Ret.n ?_)
 exact Ret.some rfl
/-! ### How far it is -/
def isMx (f : List G → Int) (l : List (List G)) (M : Int) : Prop := 0 ≤ M ∧ (∀ s ∈ l, f s ≤ M) ∧ (M = 0 ∨ ∃ s ∈ l, f s = M)
theorem isMx_step {f : List G → Int} {l : List (List G)} {M : Int} (h : isMx f l M) (x : List G) : isMx f (l ++ [x]) (if f x > M then f x else M) := by
 obtain ⟨a1, a2, a3⟩ := h
 split
 ·rename_i hx
  refine ⟨by omega, fun s hs => ?_, .inr ⟨x, by simp, rfl⟩⟩
  rcases List.mem_append.1 hs with hs | hs
  ·have := a2 s hs
   omega
  ·simp at hs
   subst hs
   omega
 ·rename_i hx
  refine ⟨a1, fun s hs => ?_, ?_⟩
  ·rcases List.mem_append.1 hs with hs | hs
   ·exact a2 s hs
   ·simp at hs
    subst hs
    omega
  ·rcases a3 with h | ⟨s, hs, h⟩
   ·exact .inl h
   ·exact .inr ⟨s, by simp [hs], h⟩
theorem sweep_loop (hs : List (List G)) (hz : Int) (hS : ∀ z ∈ hs, Spt z) (hn : hs.length ≤ 1000) (h2 : b50 hz) :
  RetL st_band_Sweep_10 [.i hz, .l hs, .i 0, .i 0, .l hs, .i (hs.length : Int), .i 0] fun c g => c = 0 ∧ ∃ bl ab, g = [.i hz, .l hs, .i bl, .i ab] ∧ isMx (kS (-1) hz) hs bl ∧ isMx (kS 1 hz) hs ab := by
 have r := range_all (st := st_band_Sweep_10) (σ := Int × Int) (fun s i => [.i hz, .l hs, .i s.1, .i s.2, .l hs, .i (hs.length : Int), .i (i : Int)]) hs (fun s => (0, [.i hz, .l hs, .i s.1, .i s.2]))
  (fun s i => isMx (kS (-1) hz) (hs.take i) s.1 ∧ isMx (kS 1 hz) (hs.take i) s.2) (0, 0) (by omega) ⟨⟨by omega, by simp, .inl rfl⟩, ⟨by omega, by simp, .inl rfl⟩⟩
  (fun s i x hI hi hx hm ht => by
   have h1 := (hS x hm).hz
   have h2' := h2
   unfold b50 at h1 h2'
   have m1 := isMx_step hI.1 x
   have m2 := isMx_step hI.2 x
   rw [← ht] at m1 m2
   have e1 : kS (-1) hz x = hz - (gi x 1).int := by unfold kS kp; omega
   have e2 : kS 1 hz x = (gi x 1).int - hz := by unfold kS kp; omega
   rw [e1] at m1
   rw [e2] at m2
   unfold st_band_Sweep_10
   (dsimp +instances only [Aa,Ab,Ac,Ad,Ae,Af,Ag])
   simp only [Int.toNat_natCast, hx]
   (repeat first|refine Ret.p ?_|refine Ret.n ?_)
   exact Ret.some ⟨(if hz - (gi x 1).int > s.1 then hz - (gi x 1).int else s.1, if (gi x 1).int - hz > s.2 then (gi x 1).int - hz else s.2), by simp, m1, m2⟩)
  (fun s hI => by
   unfold st_band_Sweep_10
   (dsimp +instances only [Aa,Ab,Ac,Ad,Ae,Af,Ag])
   (repeat first|refine Ret.p ?_|refine Ret.n ?_)
   exact Ret.some rfl)
 refine RetL.mono r ?_
 rintro c g ⟨⟨bl, ab⟩, hI, rfl, rfl⟩
 simp only [List.take_length] at hI
 exact ⟨rfl, bl, ab, rfl, hI.1, hI.2⟩
/-! ### The reference's way -/
/-! ### Both are the same -/
theorem withoutF_ok (l others : List (List G)) (hL : CanR l) (hO : CanR others) (hn : l.length ≤ 500) (hm : others.length ≤ 500) :
  Ret (F_band_without_f [.l l, .l others]) fun g => ∃ out, g = [.l out] ∧ CanR out ∧ out.length ≤ 300000 ∧ ∀ n, memR out n ↔ memR l n ∧ ¬ memR others n := by
 unfold F_band_without_f
 (dsimp +instances only [Aa,Ab,Ac,Ad,Ae,Af,Ag])
 have r := range_all (st := st_band_without_f_3) (σ := List (List G)) (fun s i => [.l s, .l others, .l l, .i (l.length : Int), .i (i : Int)]) l (fun s => (0, [.l s]))
  (fun s i => CanR s ∧ (∀ n, memR s n ↔ memR (l.take i) n ∧ ¬ memR others n) ∧ s.length ≤ 600 * i) [] (by omega) ⟨canR_nil, by simp [memR], by simp⟩
  (fun s i x ⟨s0, s1, s2⟩ hi hx hm' ht => by
   have hX := hL.1 x hm'
   have hp := List.pairwise_append.1 (ht ▸ (hL.2.sublist (List.take_sublist (i + 1) l)) : (l.take i ++ [x]).Pairwise fun r s => rHi r < rLo s)
   have hg : ∀ a ∈ s, rHi a < rLo x := fun a ha => by
    have hA := s0.1 a ha
    obtain ⟨r, hr, h1, h2⟩ := ((s1 (rHi a - 1)).1 ⟨a, ha, by have := hA.2; omega, by omega⟩).1
    have := hp.2.2 r hr x (by simp)
    omega
   unfold st_band_without_f_3
   (dsimp +instances only [Aa,Ab,Ac,Ad,Ae,Af,Ag])
   simp only [Int.toNat_natCast, hx]
   refine Ret.p (Ret.p ?_)
   refine Ret.loop (without_in l others s (rLo x) (rHi x) l.length i hO (by omega) s0 hg (by omega)) (by simp) ?_
   rintro _ _ ⟨rfl, ps, f, rfl, hI⟩
   (dsimp +instances only [Aa,Ab,Ac,Ad,Ae,Af,Ag])
   have hmany := hI.many
   by_cases hf : f < rHi x
   ·obtain ⟨g1, g2⟩ := cutI_end hI hf
    refine Ret.p ?_
    (repeat first|refine Ret.p ?_|refine Ret.n ?_)
    refine Ret.some ⟨s ++ (ps ++ [[.i f, .i (rHi x)]]), by simp, g1, fun n => ?_, by simp; omega⟩
    rw [memR_append, s1, g2, ht, memR_snoc]
    constructor
    ·rintro (⟨h1, h2⟩ | ⟨h1, h2, h3⟩)
     ·exact ⟨.inl h1, h2⟩
     ·exact ⟨.inr ⟨h1, h2⟩, h3⟩
    ·rintro ⟨h1 | h1, h2⟩
     ·exact .inl ⟨h1, h2⟩
     ·exact .inr ⟨h1.1, h1.2, h2⟩
   ·obtain ⟨g1, g2⟩ := cutI_stop hI (by omega)
    refine Ret.n ?_
    (repeat first|refine Ret.p ?_|refine Ret.n ?_)
    refine Ret.some ⟨s ++ ps, by simp, g1, fun n => ?_, by simp; omega⟩
    rw [memR_append, s1, g2, ht, memR_snoc]
    constructor
    ·rintro (⟨h1, h2⟩ | ⟨h1, h2, h3⟩)
     ·exact ⟨.inl h1, h2⟩
     ·exact ⟨.inr ⟨h1, h2⟩, h3⟩
    ·rintro ⟨h1 | h1, h2⟩
     ·exact .inl ⟨h1, h2⟩
     ·exact .inr ⟨h1.1, h1.2, h2⟩)
  (fun s ⟨_, _, hI⟩ => by
   unfold st_band_without_f_3
   (dsimp +instances only [Aa,Ab,Ac,Ad,Ae,Af,Ag])
   (repeat first|refine Ret.p ?_|refine Ret.n ?_)
   exact Ret.some rfl)
 refine Ret.loop r rfl ?_
 rintro _ _ ⟨out, ⟨q1, q2, q3⟩, rfl, rfl⟩
 (dsimp +instances only [Aa,Ab,Ac,Ad,Ae,Af,Ag])
 refine Ret.p (Ret.some ⟨out, rfl, q1, by omega, fun n => ?_⟩)
 rw [q2, List.take_length]
theorem freeF_ok (segs bus : List (List G)) (c : ByteArray) (mode width at_ : Int) (hs : ∀ z ∈ segs, Seg z) (hb : ∀ z ∈ bus, Bsy z) (hsn : segs.length ≤ 500) (hbn : bus.length ≤ 500) (h1 : faultSegs segs = 0) (h2 : faultBusy bus = 0) (hw0 : 1 ≤ width) (hw1 : width ≤ 100000) :
  Ret (F_band_free_f [.l segs, .l bus, .s c, .i mode, .i width, .i at_]) fun g => ∃ P out, g = [.l out] ∧ CanR P ∧ (∀ r ∈ P, IsR r ∧ 0 ≤ rLo r ∧ rHi r ≤ 30000000000) ∧ (∀ n, memR P n ↔ memR (permR segs c mode at_) n) ∧ CanR out ∧ out.length ≤ 300000 ∧ ∀ n, memR out n ↔ fits P width n ∧ ¬ meets bus width at_ n := by
 unfold F_band_free_f
 (dsimp +instances only [Aa,Ab,Ac,Ad,Ae,Af,Ag])
 refine Ret.call (permitted_ok segs c mode at_ hs hsn h1) ?_
 rintro _ ⟨P, rfl, p1, p2, p3⟩
 have hP := perm_bound hs h1 p1 p3
 (dsimp +instances only [Aa,Ab,Ac,Ad,Ae,Af,Ag])
 refine Ret.loop (free_may bus P width at_ hw0 hw1 hP (by omega)) rfl ?_
 rintro _ _ ⟨rfl, may, rfl, m1, m2, m3⟩
 (dsimp +instances only [Aa,Ab,Ac,Ad,Ae,Af,Ag])
 refine Ret.loop (free_oth bus may width at_ hw0 hw1 hb h2 hbn) (by simp) ?_
 rintro _ _ ⟨rfl, oth, rfl, o1, o2, o3⟩
 (dsimp +instances only [Aa,Ab,Ac,Ad,Ae,Af,Ag])
 refine Ret.callb (joined_ok may m1 (by omega)) (by (first|rfl|assumption|(simp only [inI,sl]<;>omega))) ?_
 rintro _ ⟨_, may', rfl, _, a1, a2, a3⟩
 (dsimp +instances only [Aa,Ab,Ac,Ad,Ae,Af,Ag])
 refine Ret.callb (joined_ok oth o1 (by omega)) (by (first|rfl|assumption|(simp only [inI,sl]<;>omega))) ?_
 rintro _ ⟨_, oth', rfl, _, b1, b2, b3⟩
 (dsimp +instances only [Aa,Ab,Ac,Ad,Ae,Af,Ag])
 refine Ret.call (withoutF_ok may' oth' a1 b1 (by omega) (by omega)) ?_
 rintro _ ⟨out, rfl, c1, c3, c2⟩
 (dsimp +instances only [Aa,Ab,Ac,Ad,Ae,Af,Ag])
 refine Ret.p ?_
 refine Ret.some ⟨P, out, rfl, p1, hP, p3, c1, c3, fun n => ?_⟩
 rw [c2, a3, b3, m3, o3]
theorem heardN_ok (b l : List (List G)) (life at_ : Int) (hb : ∀ z ∈ b, Bnd z) (hbn : b.length ≤ 1000) (hl : ∀ z ∈ l, Spt z) (hn : l.length ≤ 2000) (h1 : b50 life) (h2 : b50 at_) :
  F_band_heard_f [.l b, .l l, .i life, .i at_] = some [.l (hsL b life at_ l), .l (ixL b (hsL b life at_ l))] := by
 unfold b50 at h1 h2
 refine Ret.toEq ?_
 unfold F_band_heard_f
 (dsimp +instances only [Aa,Ab,Ac,Ad,Ae,Af,Ag])
 have key : Ret (tl_band_heard_f_2 [.l b, .i life, .i at_, .l [], .l [], .l [], .i 0, .l l]) fun o => ∃ x, o.1 = some x ∧ o.2 = [.l (hsL b life at_ l), .l (ixL b (hsL b life at_ l))] := by
  unfold tl_band_heard_f_2 backR
  have hI := foldB_suffix (st := br_band_heard_f_2) (rows := l) (fun t d => ∃ seen clk, d = [.l b, .i life, .i at_, .l (hsL b life at_ t).reverse, .l (ixL b (hsL b life at_ t)).reverse, .l seen, .i clk] ∧
    ∀ k, (gi (mget KSeen seen k [.t false]) 0).bool = t.any fun o => cntS b life at_ o && rowEq KSeen k [.s (gi o 2).str, .i (bix (inBand (gi o 1).int) b)]) (fun n r t d hr ht hd => by
   obtain ⟨seen, clk, rfl, hs⟩ := hd
   obtain ⟨t0, h0, c0, y0, rfl, ht0, hh0, _⟩ := hl r hr
   unfold b50 at ht0 hh0
   have hlen := hsL_length (b := b) (life := life) (at_ := at_) t
   have hsk : (gi (mget KSeen seen [.s c0, .i (bix (inBand h0) b)] [.t false]) 0).bool = lateS b life at_ [.i t0, .i h0, .s c0, .s y0] t := by
    rw [hs]
    unfold lateS
    congr 1
    funext o
    congr 1
    show ((c0.toList == (gi o 2).str.toList) && ((bix (inBand h0) b == bix (inBand (gi o 1).int) b) && true)) = (((gi o 2).str.toList == c0.toList) && (bix (inBand (gi o 1).int) b == bix (inBand h0) b))
    rw [Bool.and_true, beq_swap c0.toList, beq_swap (bix (inBand h0) b)]
   have ec : cntS b life at_ [.i t0, .i h0, .s c0, .s y0] = (ltI (at_ - life) t0 && (leI t0 at_ && leI 0 (bix (inBand h0) b))) := rfl
   have no : (cntS b life at_ [.i t0, .i h0, .s c0, .s y0] && !lateS b life at_ [.i t0, .i h0, .s c0, .s y0] t) = false → cntS b life at_ [.i t0, .i h0, .s c0, .s y0] = false ∨ lateS b life at_ [.i t0, .i h0, .s c0, .s y0] t = true := by
    intro h
    cases h1 : cntS b life at_ [.i t0, .i h0, .s c0, .s y0] with
    | false => exact .inl rfl
    | true =>
     rw [h1] at h
     right
     simpa using h
   have skip : (cntS b life at_ [.i t0, .i h0, .s c0, .s y0] = false ∨ lateS b life at_ [.i t0, .i h0, .s c0, .s y0] t = true) → ∃ seen' clk', [G.l b, .i life, .i at_, .l (hsL b life at_ t).reverse, .l (ixL b (hsL b life at_ t)).reverse, .l seen, .i ((clk.toNat : Nat) : Int)] =
     [.l b, .i life, .i at_, .l (hsL b life at_ ([.i t0, .i h0, .s c0, .s y0] :: t)).reverse, .l (ixL b (hsL b life at_ ([.i t0, .i h0, .s c0, .s y0] :: t))).reverse, .l seen', .i clk'] ∧
     ∀ k, (gi (mget KSeen seen' k [.t false]) 0).bool = ([.i t0, .i h0, .s c0, .s y0] :: t).any fun o => cntS b life at_ o && rowEq KSeen k [.s (gi o 2).str, .i (bix (inBand (gi o 1).int) b)] := by
    intro h
    have e1 : hsL b life at_ ([.i t0, .i h0, .s c0, .s y0] :: t) = hsL b life at_ t := by
     simp only [hsL]
     rcases h with h | h <;> rw [h]
     ·rfl
     ·simp
    refine ⟨seen, _, by rw [e1], fun k => ?_⟩
    rw [hs, List.any_cons]
    rcases h with h | h
    ·rw [h]
     simp
    ·cases hc : cntS b life at_ [.i t0, .i h0, .s c0, .s y0] with
     | false => simp
     | true =>
      have e2 : ([G.s (gi [G.i t0, .i h0, .s c0, .s y0] 2).str, .i (bix (inBand (gi [G.i t0, .i h0, .s c0, .s y0] 1).int) b)] : List G) = [.s c0, .i (bix (inBand h0) b)] := rfl
      rw [e2, Bool.true_and]
      cases hk : rowEq KSeen k [.s c0, .i (bix (inBand h0) b)] with
      | false => simp
      | true =>
       rw [Bool.true_or]
       rw [← hsk, hs] at h
       rw [List.any_eq_true] at h ⊢
       obtain ⟨o, ho, h⟩ := h
       refine ⟨o, ho, ?_⟩
       rw [← h, rowEq_congr hk]
   unfold br_band_heard_f_2
   (dsimp +instances only [Aa,Ab,Ac,Ad,Ae,Af,Ag])
   refine Ret.cE (at_ok b h0 hb (by omega)) ?_
   (dsimp +instances only [Aa,Ab,Ac,Ad,Ae,Af,Ag])
   refine Ret.p ?_
   refine Ret.test (fun q1 => ?_) fun q1 => ?_
   ·(repeat first|refine Ret.p ?_|refine Ret.n ?_)
    refine Ret.some (skip (.inl ?_))
    rw [ec]
    simp only [leI_eq, ltI_eq, decide_eq_true_eq] at q1 ⊢
    simp only [Bool.and_eq_false_iff, decide_eq_false_iff_not]
    omega
   refine Ret.test (fun q2 => ?_) fun q2 => ?_
   ·(repeat first|refine Ret.p ?_|refine Ret.n ?_)
    refine Ret.some (skip (.inl ?_))
    rw [ec]
    simp only [leI_eq, ltI_eq, decide_eq_true_eq] at q2 ⊢
    simp only [Bool.and_eq_false_iff, decide_eq_false_iff_not]
    omega
   refine Ret.test (fun q3 => ?_) fun q3 => ?_
   ·(repeat first|refine Ret.p ?_|refine Ret.n ?_)
    refine Ret.some (skip (.inl ?_))
    rw [ec]
    simp only [leI_eq, ltI_eq, decide_eq_true_eq] at q3 ⊢
    simp only [Bool.and_eq_false_iff, decide_eq_false_iff_not]
    omega
   have hc : cntS b life at_ [.i t0, .i h0, .s c0, .s y0] = true := by
    rw [ec]
    simp only [leI_eq, ltI_eq, decide_eq_false_iff_not] at q1 q2 q3 ⊢
    simp only [Bool.and_eq_true, decide_eq_true_eq]
    omega
   refine Ret.test (fun q4 => ?_) fun q4 => ?_
   ·have q4 : (gi (mget KSeen seen [.s c0, .i (bix (inBand h0) b)] [.t false]) 0).bool = true := q4
    (repeat first|refine Ret.p ?_|refine Ret.n ?_)
    exact Ret.some (skip (.inr (by rw [← hsk]; exact q4)))
   ·have q4 : (gi (mget KSeen seen [.s c0, .i (bix (inBand h0) b)] [.t false]) 0).bool = false := q4
    rw [hsk] at q4
    have e1 : hsL b life at_ ([.i t0, .i h0, .s c0, .s y0] :: t) = [.i t0, .i h0, .s c0, .s y0] :: hsL b life at_ t := by
     simp only [hsL, hc, q4]
     rfl
    have hlx : (ixL b (hsL b life at_ t)).length = (hsL b life at_ t).length := by simp [ixL]
    simp only [List.length_append, List.length_reverse, List.length_cons, List.length_nil, hlx]
    (repeat first|refine Ret.p ?_|refine Ret.n ?_)
    refine Ret.some ?_
    refine ⟨mput KSeen seen [.s c0, .i (bix (inBand h0) b)] [.t true] clk.toNat, ((mclk KSeen seen [.s c0, .i (bix (inBand h0) b)] clk.toNat : Nat) : Int), ?_, fun k => ?_⟩
    ·rw [e1]
     simp only [ixL, List.map_cons, List.reverse_cons]
     rfl
    ·rw [mget_mput, List.any_cons, hc, Bool.true_and]
     have e2 : ([G.s (gi [G.i t0, .i h0, .s c0, .s y0] 2).str, .i (bix (inBand (gi [G.i t0, .i h0, .s c0, .s y0] 1).int) b)] : List G) = [.s c0, .i (bix (inBand h0) b)] := rfl
     rw [e2, ← hs]
     cases hk : rowEq KSeen k [.s c0, .i (bix (inBand h0) b)] <;> rfl) l.length
  have hI0 : ∃ seen clk, [G.l b, .i life, .i at_, .l [], .l [], .l [], .i ((0 : Nat) : Int)] = [.l b, .i life, .i at_, .l (hsL b life at_ (l.drop l.length)).reverse, .l (ixL b (hsL b life at_ (l.drop l.length))).reverse, .l seen, .i clk] ∧
    ∀ k, (gi (mget KSeen seen k [.t false]) 0).bool = (l.drop l.length).any fun o => cntS b life at_ o && rowEq KSeen k [.s (gi o 2).str, .i (bix (inBand (gi o 1).int) b)] := by
   rw [List.drop_length]
   exact ⟨[], _, rfl, fun k => rfl⟩
  obtain ⟨_, hf, seen, clk, rfl, _⟩ := hI _ (Nat.le_refl _) hI0
  refine Ret.pos (show (Nat.ble l.length 1048576 && bd_band_heard_f_2 [.l b, .i life, .i at_, .l [], .l [], .l [], .i 0, .l l]) = true by
   have e : bd_band_heard_f_2 [.l b, .i life, .i at_, .l [], .l [], .l [], .i 0, .l l] = true := rfl
   rw [e, Bool.and_true, Nat.ble_eq]
   omega) ?_
  have hf : foldB bs_band_heard_f_2.st l l.length (bs_band_heard_f_2.init [.l b, .i life, .i at_, .l [], .l [], .l [], .i 0, .l l]) = some [.l b, .i life, .i at_, .l (hsL b life at_ l).reverse, .l (ixL b (hsL b life at_ l)).reverse, .l seen, .i clk] := hf
  have hlen := hsL_length (b := b) (life := life) (at_ := at_) l
  have hlx : (ixL b (hsL b life at_ l)).length = (hsL b life at_ l).length := by simp [ixL]
  show Ret ((foldB bs_band_heard_f_2.st l l.length (bs_band_heard_f_2.init [.l b, .i life, .i at_, .l [], .l [], .l [], .i 0, .l l])).bind tr_band_heard_f_2) _
  rw [hf]
  show Ret (tr_band_heard_f_2 [.l b, .i life, .i at_, .l (hsL b life at_ l).reverse, .l (ixL b (hsL b life at_ l)).reverse, .l seen, .i clk]) _
  unfold tr_band_heard_f_2
  (dsimp +instances only [Aa,Ab,Ac,Ad,Ae,Af,Ag])
  refine Ret.callb (Ret.eq (revT_eq _ (fun z hz => hl z (hsL_mem (List.mem_reverse.1 hz)).1) (by simp; omega))) (by (first|rfl|assumption|(simp only [inI,sl]<;>omega))) ?_
  rintro _ rfl
  (dsimp +instances only [Aa,Ab,Ac,Ad,Ae,Af,Ag])
  refine Ret.callb (Ret.eq (revI_eq _ (fun z hz => by
   obtain ⟨s, _, rfl⟩ := List.mem_map.1 (List.mem_reverse.1 hz)
   exact ⟨_, rfl⟩) (by simp [hlx]; omega))) (by (first|rfl|assumption|(simp only [inI,sl]<;>omega))) ?_
  rintro _ rfl
  (dsimp +instances only [Aa,Ab,Ac,Ad,Ae,Af,Ag])
  simp only [List.reverse_reverse, List.length_reverse, hlx]
  (repeat first|refine Ret.p ?_|refine Ret.n ?_)
  refine Ret.some ?_
  exact ⟨0, rfl, rfl⟩
 refine Ret.tail (P := fun _ g => g = [.l (hsL b life at_ l), .l (ixL b (hsL b life at_ l))]) key rfl ?_
 rintro _ _ rfl
 (dsimp +instances only [Aa,Ab,Ac,Ad,Ae,Af,Ag])
 (repeat first|refine Ret.p ?_|refine Ret.n ?_)
 exact Ret.some rfl
/-! ### Spots that are right -/
theorem right_spots (l : List (List G)) (a n : Int) (ha : 0 ≤ a) (ha1 : a ≤ 100000) (h0 : 0 ≤ n) (h1 : n ≤ 20) :
  Ret (F_mk_RightSpots [.l l, .i a, .i n]) fun g => ∃ b rows, g = [.l l, .i b, .l rows] ∧ a ≤ b ∧ b ≤ a + 2000 ∧ (∀ z ∈ rows, Spt z) ∧ (rows.length : Int) ≤ n ∧ faultSpots rows = 0 := by
 unfold F_mk_RightSpots
 (dsimp +instances only [Aa,Ab,Ac,Ad,Ae,Af,Ag])
 have key : ∀ (k i : Nat) (c : Int), i + k = 5 → a ≤ c → c ≤ a + 400 * (i : Int) → RetN st_mk_RightSpots_2 [.l l, .i c, .i n, .i (i : Int)] (k + 1) fun x g =>
   (x = 0 ∧ ∃ b rows, g = [.l l, .i b, .l rows] ∧ a ≤ b ∧ b ≤ a + 2000 ∧ (∀ z ∈ rows, Spt z) ∧ (rows.length : Int) ≤ n ∧ faultSpots rows = 0) ∨ (x = 1 ∧ ∃ b, g = [.l l, .i b] ∧ a ≤ b ∧ b ≤ a + 2000) := by
  intro k
  induction k with
  | zero =>
   intro i c hi hc hc1
   refine RetN.stop (x := 1) (Ret.toEq ?_) (.inr ⟨rfl, c, rfl, hc, by omega⟩)
   unfold st_mk_RightSpots_2
   (dsimp +instances only [Aa,Ab,Ac,Ad,Ae,Af,Ag])
   exact Ret.n (Ret.some rfl)
  | succ k ih =>
   intro i c hi hc hc1
   have st : Ret (st_mk_RightSpots_2 [.l l, .i c, .i n, .i (i : Int)]) fun o => (∃ b rows, o = (some 0, [.l l, .i b, .l rows]) ∧ a ≤ b ∧ b ≤ a + 2000 ∧ (∀ z ∈ rows, Spt z) ∧ (rows.length : Int) ≤ n ∧ faultSpots rows = 0) ∨
     ∃ b : Int, o = (none, [.l l, .i b, .i n, .i ((i + 1 : Nat) : Int)]) ∧ c ≤ b ∧ b ≤ c + 400 := by
    unfold st_mk_RightSpots_2
    (dsimp +instances only [Aa,Ab,Ac,Ad,Ae,Af,Ag])
    refine Ret.p ?_
    refine Ret.call (r_Spots l c n (by omega) (by omega) h0 h1) ?_
    rintro _ ⟨b, rows, rfl, q1, q2, q3, q4⟩
    (dsimp +instances only [Aa,Ab,Ac,Ad,Ae,Af,Ag])
    refine Ret.cE (spotsFault_ok rows q3) ?_
    (dsimp +instances only [Aa,Ab,Ac,Ad,Ae,Af,Ag])
    refine Ret.test (fun h => ?_) fun h => ?_
    ·exact Ret.some (.inl ⟨b, rows, rfl, by omega, by omega, q3, q4, by simpa using h⟩)
    ·(repeat first|refine Ret.p ?_|refine Ret.n ?_)
     exact Ret.some (.inr ⟨b, by simp, q1, q2⟩)
   obtain ⟨_, h, ⟨b, rows, rfl, q⟩ | ⟨b, rfl, q1, q2⟩⟩ := st
   ·exact RetN.stop h (.inl ⟨rfl, b, rows, rfl, q⟩)
   ·exact RetN.next h (ih (i + 1) b (by omega) (by omega) (by omega))
 refine Ret.loop ((key 5 0 a (by omega) (by omega) (by omega)).to (by omega)) rfl ?_
 rintro x g (⟨rfl, b, rows, rfl, q1, q2, q3, q4, q5⟩ | ⟨rfl, b, rfl, q1, q2⟩)
 ·refine Ret.pos rfl (Ret.some ⟨b, rows, rfl, q1, q2, q3, q4, q5⟩)
 ·refine Ret.neg rfl (Ret.some ⟨b, [], rfl, q1, q2, by simp, by simpa using h0, rfl⟩)
theorem rising_of {x : List (List G)} (h : faultSpots x = 0) : x.Pairwise fun r s => ordT r s < 0 := by
 unfold faultSpots at h
 split at h
 ·omega
 have z := fw_zero h
 refine pairwise_of_adj (fun a b c => ordT_lt a b c) fun k hk hl => ?_
 have h := z k hl
 unfold stepT at h
 split at h
 ·rename_i h1
  exact (h1 h).elim
 ·split at h
  ·omega
  ·rename_i h1 h2
   omega
theorem compA_apart {e : List G → List G → Bool} : ∀ (q : List (List G)) (y : List G), (y :: q).Pairwise (fun a b => e b a = false) → compA e y q = q
 | [], _, _ => rfl
 | x :: q, y, h => by
  obtain ⟨h1, h2⟩ := List.pairwise_cons.1 h
  show (bif e x y then compA e x q else x :: compA e x q) = x :: q
  rw [h1 x List.mem_cons_self, cond_false, compA_apart q x h2]
theorem compact_apart {e : List G → List G → Bool} {l : List (List G)} (h : l.Pairwise (fun a b => e b a = false)) : compact e l = l := by
 cases l with
 | nil => rfl
 | cons x q => simp only [compact, compA_apart q x h]
theorem mix_nil {x : List (List G)} (hS : ∀ z ∈ x, Spt z) (h : faultSpots x = 0) : sortA (ltC ordT) (x ++ []) = x ∧ compact (rowEq KSpot) x = x := by
 have hr := rising_of h
 rw [List.append_nil]
 refine ⟨sortA_id (linT.mono fun _ _ => trivial) (Q := Spt) hS (apartT hS) (hr.imp fun {a b} hab => ?_), compact_apart (List.Pairwise.imp_of_mem ?_ hr)⟩
 ·unfold ltC
  rw [ltI_eq, decide_eq_false_iff_not]
  have := ordT_flip a b
  omega
 ·intro a b ha hb hab
  rw [rowEq_symm]
  cases he : rowEq KSpot a b with
  | false => rfl
  | true =>
   exfalso
   obtain ⟨t, k, c, y, rfl, _⟩ := hS a ha
   obtain ⟨t', k', c', y', rfl, _⟩ := hS b hb
   have e : rowEq KSpot [.i t, .i k, .s c, .s y] [.i t', .i k', .s c', .s y'] = ((t == t') && ((k == k') && ((c.toList == c'.toList) && ((y.toList == y'.toList) && true)))) := rfl
   rw [e, str_eq, str_eq] at he
   simp only [Bool.and_eq_true, beq_iff_eq, decide_eq_true_eq, and_true] at he
   obtain ⟨rfl, rfl, h3, h4⟩ := he
   rw [cmpS_z] at h3 h4
   subst h3 h4
   have e2 : ordT [.i t, .i k, .s c, .s y] [.i t, .i k, .s c, .s y] = 0 := by
    have := ordT_flip [.i t, .i k, .s c, .s y] [.i t, .i k, .s c, .s y]
    omega
   omega
theorem mergeN_ok (x : List (List G)) (hx : ∀ z ∈ x, Spt z) (hn : x.length ≤ 100) (hf : faultSpots x = 0) : F_band_Merge_f [.l x, .l []] = some [.l x, .i 0] := by
 obtain ⟨m1, m2⟩ := mix_nil hx hf
 have s0 : st_band_Merge_f_2 [.l x, .l [], .l [[.l x], [.l []]], .i 2, .i 0] = some (none, [.l x, .l [], .l [[.l x], [.l []]], .i 2, .i 1]) := by
  refine Ret.toEq ?_
  unfold st_band_Merge_f_2
  (dsimp +instances only [Aa,Ab,Ac,Ad,Ae,Af,Ag])
  refine Ret.pos rfl (Ret.pos rfl ?_)
  refine Ret.cE (checkSpots_ok x hx) ?_
  rw [hf]
  exact Ret.some rfl
 have s1 : st_band_Merge_f_2 [.l x, .l [], .l [[.l x], [.l []]], .i 2, .i 1] = some (none, [.l x, .l [], .l [[.l x], [.l []]], .i 2, .i 2]) := by
  refine Ret.toEq ?_
  unfold st_band_Merge_f_2
  (dsimp +instances only [Aa,Ab,Ac,Ad,Ae,Af,Ag])
  refine Ret.pos rfl (Ret.pos rfl ?_)
  refine Ret.cE (checkSpots_ok [] (by simp)) ?_
  exact Ret.some rfl
 have s2 : st_band_Merge_f_2 [.l x, .l [], .l [[.l x], [.l []]], .i 2, .i 2] = some (some 1, [.l x, .l []]) := by
  refine Ret.toEq ?_
  unfold st_band_Merge_f_2
  (dsimp +instances only [Aa,Ab,Ac,Ad,Ae,Af,Ag])
  exact Ret.neg rfl (Ret.some rfl)
 refine Ret.toEq ?_
 unfold F_band_Merge_f
 (dsimp +instances only [Aa,Ab,Ac,Ad,Ae,Af,Ag])
 refine Ret.loop (P := fun c g => c = 1 ∧ g = [.l x, .l []]) ((RetN.next s0 (RetN.next s1 (RetN.stop (m := 1) s2 ⟨rfl, rfl⟩))).to (by omega)) rfl ?_
 rintro _ _ ⟨rfl, rfl⟩
 (dsimp +instances only [Aa,Ab,Ac,Ad,Ae,Af,Ag])
 refine Ret.neg rfl ?_
 refine Ret.cE (concatT_eq x [] (by simp; omega)) ?_
 (dsimp +instances only [Aa,Ab,Ac,Ad,Ae,Af,Ag])
 have hab : ∀ z ∈ x ++ [], Spt z := by simpa using hx
 have hs1 := sortT1 (x ++ []) hab (by simp; omega)
 rw [m1] at hs1
 have hxx : (x ++ []).length = x.length := by simp
 refine Ret.callb (Ret.eq hs1) (by simp) ?_
 rintro _ rfl
 (dsimp +instances only [Aa,Ab,Ac,Ad,Ae,Af,Ag])
 have hc := cmpcF_eq (Z := zT) kdsT x hx (by omega)
 rw [m2] at hc
 refine Ret.callb (P := fun g => g = [.l x, .i (x.length : Int)]) (Ret.mono hc fun g h => ?_) (by simp) ?_
 ·obtain ⟨J, rfl, hJ⟩ := h
  have : J = [] := by
   rw [List.length_append] at hJ
   exact List.eq_nil_of_length_eq_zero (by omega)
  rw [this, List.append_nil]
 rintro _ rfl
 (dsimp +instances only [Aa,Ab,Ac,Ad,Ae,Af,Ag])
 simp only [Int.toNat_natCast]
 refine Ret.n (Ret.p (Ret.some rfl))
theorem own_sel (f0 f1 f2 f3 : Bool) : faultBands (selB f0 f1 f2 f3) = 0 := by
 cases f0 <;> cases f1 <;> cases f2 <;> cases f3 <;> kernel_rfl
/-! ### Nothing changes -/
theorem spoilR_ok (x : List (List G)) (hn : x.length ≤ 400000) : Ret (F_k2_spoil_Row [.l x]) fun g => ∃ r, g = [.l r] := by
 have r := range_all (st := st_k2_spoil_Row_2) (σ := List (List G)) (fun s i => [.l s, .i 0, .i 0, .i (x.length : Int), .i (i : Int)]) x (fun s => (0, [.l s])) (fun s _ => s.length = x.length) x (by omega) rfl
  (fun s i _ hI hi _ _ _ => by
   unfold st_k2_spoil_Row_2
   (dsimp +instances only [Aa,Ab,Ac,Ad,Ae,Af,Ag])
   simp only [hI, List.length_set]
   (repeat first|refine Ret.p ?_|refine Ret.n ?_)
   exact Ret.some ⟨_, by simp; rfl, by rw [List.length_set]; exact hI⟩)
  (fun s hI => by
   unfold st_k2_spoil_Row_2
   (dsimp +instances only [Aa,Ab,Ac,Ad,Ae,Af,Ag])
   (repeat first|refine Ret.p ?_|refine Ret.n ?_)
   exact Ret.some rfl)
 unfold F_k2_spoil_Row
 (dsimp +instances only [Aa,Ab,Ac,Ad,Ae,Af,Ag])
 refine Ret.loop r (by simp) ?_
 rintro _ _ ⟨s, _, rfl, rfl⟩
 exact Ret.some ⟨s, rfl⟩
theorem spoilT_ok (x : List (List G)) (hn : x.length ≤ 400000) : Ret (F_k2_spoil_Spot [.l x]) fun g => ∃ r, g = [.l r] := by
 have r := range_all (st := st_k2_spoil_Spot_2) (σ := List (List G)) (fun s i => [.l s, .i 0, .i 0, .s (⟨#[]⟩ : ByteArray), .s (⟨#[]⟩ : ByteArray), .i (x.length : Int), .i (i : Int)]) x (fun s => (0, [.l s])) (fun s _ => s.length = x.length) x (by omega) rfl
  (fun s i _ hI hi _ _ _ => by
   unfold st_k2_spoil_Spot_2
   (dsimp +instances only [Aa,Ab,Ac,Ad,Ae,Af,Ag])
   simp only [hI, List.length_set]
   (repeat first|refine Ret.p ?_|refine Ret.n ?_)
   exact Ret.some ⟨_, by simp; rfl, by rw [List.length_set]; exact hI⟩)
  (fun s hI => by
   unfold st_k2_spoil_Spot_2
   (dsimp +instances only [Aa,Ab,Ac,Ad,Ae,Af,Ag])
   (repeat first|refine Ret.p ?_|refine Ret.n ?_)
   exact Ret.some rfl)
 unfold F_k2_spoil_Spot
 (dsimp +instances only [Aa,Ab,Ac,Ad,Ae,Af,Ag])
 refine Ret.loop r (by simp) ?_
 rintro _ _ ⟨s, _, rfl, rfl⟩
 exact Ret.some ⟨s, rfl⟩
theorem equalN_refl (a : List (List G)) (hn : a.length < 1000) : F_sl_Equal_int [.l a, .l a] = some [.t true] := by
 refine Ret.toEq ?_
 unfold F_sl_Equal_int
 (dsimp +instances only [Aa,Ab,Ac,Ad,Ae,Af,Ag])
 refine Ret.neg (by simp) ?_
 have r := range_all (st := st_sl_Equal_int_4) (σ := Unit) (fun _ i => [.l a, .l a, .i (a.length : Int), .i (i : Int)]) a (fun _ => (1, [])) (fun _ _ => True) () (by omega) trivial
  (fun _ i x _ hi hx hm ht => by
   unfold st_sl_Equal_int_4
   (dsimp +instances only [Aa,Ab,Ac,Ad,Ae,Af,Ag])
   simp only [Int.toNat_natCast, hx]
   exact Ret.p (Ret.p (Ret.p (Ret.neg (by simp) (Ret.p (Ret.some ⟨(), rfl, trivial⟩))))))
  (fun _ _ => by
   unfold st_sl_Equal_int_4
   (dsimp +instances only [Aa,Ab,Ac,Ad,Ae,Af,Ag])
   exact Ret.n (Ret.some rfl))
 refine Ret.loop r rfl ?_
 rintro _ _ ⟨_, _, rfl, rfl⟩
 exact Ret.some rfl
theorem sameSeg_ok {x : List G} (h : Seg x) : F_k2_BandsStay_1 [.l [x], .l [x]] = some [.t true] := by
 obtain ⟨c, lo, hi, ms, f, t, rfl, _, _, _, _, hm, _⟩ := h
 refine Ret.toEq ?_
 unfold F_k2_BandsStay_1
 (dsimp +instances only [Aa,Ab,Ac,Ad,Ae,Af,Ag])
 refine Ret.pos (by simp) (Ret.pos (by simp) (Ret.pos (by simp) (Ret.pos (rowEq_refl _ _ (by rfl)) ?_)))
 refine Ret.cE (equalN_refl ms (by omega)) ?_
 exact Ret.some rfl
theorem equalSegs (a : List (List G)) (ha : ∀ z ∈ a, Seg z) (hn : a.length < 1000) : F_sl_EqualFunc_Segment [.l a, .l a] = some [.t true] := by
 refine Ret.toEq ?_
 unfold F_sl_EqualFunc_Segment
 (dsimp +instances only [Aa,Ab,Ac,Ad,Ae,Af,Ag])
 refine Ret.neg (by simp) ?_
 have r := range_all (st := st_sl_EqualFunc_Segment_4) (σ := Unit) (fun _ i => [.l a, .l a, .i (a.length : Int), .i (i : Int)]) a (fun _ => (1, [])) (fun _ _ => True) () (by omega) trivial
  (fun _ i x _ hi hx hm ht => by
   have hX := ha x hm
   unfold st_sl_EqualFunc_Segment_4
   (dsimp +instances only [Aa,Ab,Ac,Ad,Ae,Af,Ag])
   simp only [Int.toNat_natCast, hx, hX.eta]
   refine Ret.p (Ret.p (Ret.p ?_))
   refine Ret.cE (sameSeg_ok hX) ?_
   exact Ret.neg (by simp [gi, G.bool]) (Ret.p (Ret.some ⟨(), rfl, trivial⟩)))
  (fun _ _ => by
   unfold st_sl_EqualFunc_Segment_4
   (dsimp +instances only [Aa,Ab,Ac,Ad,Ae,Af,Ag])
   exact Ret.n (Ret.some rfl))
 refine Ret.loop r rfl ?_
 rintro _ _ ⟨_, _, rfl, rfl⟩
 exact Ret.some rfl
theorem equalBsy (a : List (List G)) (ha : ∀ z ∈ a, Bsy z) (hn : a.length < 100000) : F_sl_Equal_Busy [.l a, .l a] = some [.t true] := by
 have h := equalF_eq (K := KBusy) ⟨fun _ h => h.eta⟩ a a ha ha hn
 rw [eqlA_refl (by rfl)] at h
 exact h
theorem equalBnd (a : List (List G)) (ha : ∀ z ∈ a, Bnd z) (hn : a.length < 100000) : F_sl_Equal_Band [.l a, .l a] = some [.t true] := by
 have h := equalF_eq kdsBand a a ha ha hn
 rw [eqlA_refl (by rfl)] at h
 exact h
theorem equalSpt (a : List (List G)) (ha : ∀ z ∈ a, Spt z) (hn : a.length < 100000) : F_sl_Equal_Spot [.l a, .l a] = some [.t true] := by
 have h := equalF_eq kdsT a a ha ha hn
 rw [eqlA_refl (by rfl)] at h
 exact h
theorem freeAny (segs bus : List (List G)) (hs : ∀ z ∈ segs, Seg z) (hb : ∀ z ∈ bus, Bsy z) (hsn : segs.length ≤ 500) (hbn : bus.length ≤ 500) :
  Ret (F_band_Free_f [.l segs, .l bus, .s (⟨#[102, 117, 108, 108]⟩ : ByteArray), .i 1, .i 5, .i 20]) fun g => ∃ r e, g = [.l r, .i e] ∧ r.length ≤ 300000 := by
 have hff := freeFault_ok segs bus ⟨#[102, 117, 108, 108]⟩ 1 5 20 hs hb (by simp [classes])
 unfold F_band_Free_f
 (dsimp +instances only [Aa,Ab,Ac,Ad,Ae,Af,Ag])
 refine Ret.cE hff ?_
 (dsimp +instances only [Aa,Ab,Ac,Ad,Ae,Af,Ag])
 refine Ret.test (fun h => ?_) fun h => ?_
 ·exact Ret.some ⟨[], _, rfl, by simp⟩
 ·have h : freeFlt segs bus ⟨#[102, 117, 108, 108]⟩ 1 5 20 = 0 := by simpa using h
  have h1 : faultSegs segs = 0 := by
   refine Decidable.byContradiction fun hn => ?_
   unfold freeFlt at h
   rw [if_pos hn] at h
   exact hn h
  have h2 : faultBusy bus = 0 := by
   refine Decidable.byContradiction fun hn => ?_
   unfold freeFlt at h
   rw [if_neg (by simpa using h1), if_pos hn] at h
   exact hn h
  refine Ret.call (freeF_ok segs bus ⟨#[102, 117, 108, 108]⟩ 1 5 20 hs hb hsn hbn h1 h2 (by omega) (by omega)) ?_
  rintro _ ⟨P, out, rfl, _, _, _, _, hl, _⟩
  (dsimp +instances only [Aa,Ab,Ac,Ad,Ae,Af,Ag])
  exact Ret.p (Ret.some ⟨out, 0, rfl, hl⟩)
theorem sweepAny (b x : List (List G)) (life at_ hz : Int) (hb : ∀ z ∈ b, Bnd z) (hbn : b.length ≤ 20) (hl : ∀ z ∈ x, Spt z) (hn : x.length ≤ 20) (h1 : b50 life) (h2 : b50 at_) (h3 : b50 hz) :
  Ret (F_band_Sweep [.l b, .l x, .i life, .i at_, .i hz]) fun g => ∃ cs n e, g = [.l cs, .i n, .i e] := by
 have hlen := hsL_length (b := b) (life := life) (at_ := at_) x
 have hS : ∀ z ∈ hsL b life at_ x, Spt z := fun z hz => hl z (hsL_mem hz).1
 unfold F_band_Sweep
 (dsimp +instances only [Aa,Ab,Ac,Ad,Ae,Af,Ag])
 refine Ret.cE (lists_ok b x hb hl) ?_
 refine Ret.test (fun _ => Ret.some ⟨_, _, _, rfl⟩) fun _ => ?_
 refine Ret.cE (asked_ok life at_ hz) ?_
 refine Ret.test (fun _ => Ret.some ⟨_, _, _, rfl⟩) fun _ => ?_
 refine Ret.cE (heard_ok b x life at_ hb (by omega) hl (by omega) h1 h2) ?_
 generalize hsL b life at_ x = hs at *
 (dsimp +instances only [Aa,Ab,Ac,Ad,Ae,Af,Ag])
 refine Ret.loop (sweep_loop hs hz hS (by omega) h3) rfl ?_
 rintro _ _ ⟨rfl, bl, ab, rfl, m1, m2⟩
 have hb3 := h3
 unfold b50 at hb3
 have bd : ∀ (w M : Int), (w = 1 ∨ w = -1) → isMx (kS w hz) hs M → 0 ≤ M ∧ M ≤ 4000000000000000 := by
  intro w M hw h
  obtain ⟨a1, _, a3⟩ := h
  refine ⟨a1, ?_⟩
  rcases a3 with rfl | ⟨s, hs', rfl⟩
  ·omega
  ·have h1 := (hS s hs').hz
   unfold b50 at h1
   unfold kS kp
   rcases hw with rfl | rfl <;> omega
 have bb1 := bd _ _ (by omega) m1
 have bb2 := bd _ _ (by omega) m2
 (dsimp +instances only [Aa,Ab,Ac,Ad,Ae,Af,Ag])
 have go : ∀ (t : Bool) (n : Int), Ret (callF (F_band_way [.l hs, .i hz, .t t]) fun g5 => (some [G.l (gi g5 0).rows, G.i n, G.i 0] : Option (List G))) fun g => ∃ cs n e, g = [.l cs, .i n, .i e] := by
  intro t n
  refine Ret.cE (way_ok hs hz t hS (by omega) h3) ?_
  exact Ret.some ⟨_, _, _, rfl⟩
 refine Ret.p (Ret.p (Ret.p (Ret.p ?_)))
 refine Ret.test (fun _ => Ret.test (fun _ => Ret.test (fun _ => go true _) fun _ => go false _) fun _ => Ret.test (fun _ => go true _) fun _ => go false _) fun _ => Ret.test (fun _ => Ret.test (fun _ => go true _) fun _ => go false _) fun _ => Ret.test (fun _ => go true _) fun _ => go false _
theorem bandsStay_data (rows : List (List G)) : F_k2_BandsStay [.l rows] = some [.t true] := by
 refine Ret.toEq ?_
 unfold F_k2_BandsStay
 (dsimp +instances only [Aa,Ab,Ac,Ad,Ae,Af,Ag])
 obtain ⟨_, e1, a1, segs, rfl, ha0, ha1, hs, hsn⟩ := r_Segments rows 0 (by omega) (by omega)
 obtain ⟨_, e2, a2, bus, rfl, hb0, hb1, hb, hbn⟩ := r_Busies rows a1 ha0 (by omega)
 obtain ⟨_, e3, a3, x, rfl, hc0, hc1, hx, hxn, hxf⟩ := right_spots rows a2 8 (by omega) (by omega) (by omega) (by omega)
 obtain ⟨_, e4, f0, f1, f2, f3, rfl⟩ := r_RightBands rows a3 (by omega) (by omega)
 have hB := selB_Bnd f0 f1 f2 f3
 have hBl := selB_length f0 f1 f2 f3
 refine Ret.cE e1 ?_
 refine Ret.cE e2 ?_
 refine Ret.cE e3 ?_
 refine Ret.cE e4 ?_
 refine Ret.cE e1 ?_
 refine Ret.cE e2 ?_
 refine Ret.cE e3 ?_
 refine Ret.cE e4 ?_
 (dsimp +instances only [Aa,Ab,Ac,Ad,Ae,Af,Ag])
 refine Ret.call (freeAny segs bus hs hb (by omega) (by omega)) ?_
 rintro _ ⟨fr, e, rfl, hfr⟩
 (dsimp +instances only [Aa,Ab,Ac,Ad,Ae,Af,Ag])
 refine Ret.callb (spoilR_ok fr (by omega)) (by simp) ?_
 rintro _ ⟨_, rfl⟩
 refine Ret.cE (mergeN_ok x hx (by omega) hxf) ?_
 (dsimp +instances only [Aa,Ab,Ac,Ad,Ae,Af,Ag])
 refine Ret.callb (spoilT_ok x (by omega)) (by simp) ?_
 rintro _ ⟨_, rfl⟩
 have hlen := hsL_length (b := selB f0 f1 f2 f3) (life := 100) (at_ := 50) x
 refine Ret.call (P := fun g => g = [.l (hsL (selB f0 f1 f2 f3) 100 50 x), .i 0]) ?_ ?_
 ·unfold F_band_Heard_f
  (dsimp +instances only [Aa,Ab,Ac,Ad,Ae,Af,Ag])
  have lo := lists_ok (selB f0 f1 f2 f3) x hB hx
  rw [own_sel, hxf] at lo
  refine Ret.cE lo ?_
  refine Ret.neg rfl ?_
  refine Ret.cE (asked_ok 100 50 0) ?_
  refine Ret.neg rfl ?_
  refine Ret.cE (heardN_ok (selB f0 f1 f2 f3) x 100 50 hB (by omega) hx (by omega) (by unfold b50; omega) (by unfold b50; omega)) ?_
  (dsimp +instances only [Aa,Ab,Ac,Ad,Ae,Af,Ag])
  exact Ret.p (Ret.some rfl)
 rintro _ rfl
 (dsimp +instances only [Aa,Ab,Ac,Ad,Ae,Af,Ag])
 refine Ret.callb (spoilT_ok _ (by omega)) (by simp) ?_
 rintro _ ⟨_, rfl⟩
 refine Ret.call (sweepAny (selB f0 f1 f2 f3) x 100 50 7000000 hB (by omega) hx (by omega) (by unfold b50; omega) (by unfold b50; omega) (by unfold b50; omega)) ?_
 rintro _ ⟨_, _, _, rfl⟩
 refine Ret.cE (equalSegs segs hs (by omega)) ?_
 refine Ret.pos rfl ?_
 refine Ret.cE (equalBsy bus hb (by omega)) ?_
 refine Ret.pos rfl ?_
 refine Ret.cE (equalSpt x hx (by omega)) ?_
 refine Ret.pos rfl ?_
 refine Ret.cE (equalBnd (selB f0 f1 f2 f3) hB (by omega)) ?_
 refine Ret.pos rfl ?_
 refine Ret.cE (rfl : F_k2_ready [] = some [.t true]) ?_
 exact Ret.some rfl
end
end Go.Proofs.SYthjhjbgilbaknaaGreatDoor
