/-
  What is proved here: rules by which lifted functions are shown to give what they should. No program in sight; no condition.
-/
import Derived.Test.YteljhjdcaaebcaaGreatDoorMD
set_option linter.unusedSimpArgs false
set_option linter.unusedVariables false
set_option linter.unusedSectionVars false
namespace Go.AL
open Go
def Ret {β : Type} (x : Option β) (Q : β → Prop) : Prop := ∃ r, x = some r ∧ Q r
def RetL (st : List G → Option (Option Nat × List G)) (d : List G) (Q : Nat → List G → Prop) : Prop := ∃ n x d', Runs st n d x d' ∧ n ≤ 1000000 ∧ Q x d'
namespace Ret
variable {β : Type} {Q : β → Prop}
theorem some {r : β} (h : Q r) : Ret (some r) Q := ⟨r, rfl, h⟩
theorem pos {b : Bool} {x y : Option β} (h : b = true) (hx : Ret x Q) : Ret (bif b then x else y) Q := by subst h; exact hx
theorem neg {b : Bool} {x y : Option β} (h : b = false) (hy : Ret y Q) : Ret (bif b then x else y) Q := by subst h; exact hy
theorem test {b : Bool} {x y : Option β} (hx : b = true → Ret x Q) (hy : b = false → Ret y Q) : Ret (bif b then x else y) Q := by
  cases b with
  | true => exact hx rfl
  | false => exact hy rfl
theorem call {t : Option (List G)} {k : List G → Option β} {P : List G → Prop} (h : Ret t P) (hk : ∀ g, P g → Ret (k g) Q) : Ret (callF t k) Q := by
  obtain ⟨r, h, hp⟩ := h
  subst h
  exact hk r hp
theorem loop {c : Bool} {st : List G → Option (Option Nat × List G)} {d : List G} {k : Nat → List G → Option β} {P : Nat → List G → Prop} (h : RetL st d P) (hc : c = true) (hk : ∀ x g, P x g → Ret (k x g) Q) : Ret (loopB c (LRun st d) k) Q := by
  obtain ⟨n, x, d', h, hn, hp⟩ := h
  rw [h.lrun hn]
  subst hc
  exact hk x d' hp
theorem tail {c : Bool} {t : Option (Option Nat × List G)} {k : Nat → List G → Option β} {P : Nat → List G → Prop} (h : Ret t fun o => ∃ x, o.1 = Option.some x ∧ P x o.2) (hc : c = true) (hk : ∀ x g, P x g → Ret (k x g) Q) :
    Ret (loopB c (cutR t) k) Q := by
  obtain ⟨⟨o, d⟩, rfl, x, hx, hp⟩ := h
  simp only at hx
  subst hx hc
  exact hk x d hp
theorem mono {x : Option β} {P : β → Prop} (h : Ret x P) (hpq : ∀ r, P r → Q r) : Ret x Q := by
  obtain ⟨r, h, hp⟩ := h
  exact ⟨r, h, hpq r hp⟩
theorem eq {x : Option β} {r : β} (h : x = Option.some r) : Ret x (fun g => g = r) := ⟨r, h, rfl⟩
theorem toEq {x : Option β} {r : β} (h : Ret x (fun g => g = r)) : x = Option.some r := by
  obtain ⟨r', h, rfl⟩ := h
  exact h
end Ret
theorem RetL.stop {st : List G → Option (Option Nat × List G)} {d d' : List G} {x : Nat} {Q : Nat → List G → Prop} (h : st d = some (some x, d')) (hq : Q x d') : RetL st d Q := ⟨1, x, d', .stop h, by omega, hq⟩
def RetN (st : List G → Option (Option Nat × List G)) (d : List G) (m : Nat) (Q : Nat → List G → Prop) : Prop := ∃ n x d', Runs st n d x d' ∧ n ≤ m ∧ Q x d'
theorem RetN.stop {st : List G → Option (Option Nat × List G)} {d d' : List G} {x m : Nat} {Q : Nat → List G → Prop} (h : st d = some (some x, d')) (hq : Q x d') : RetN st d (m + 1) Q := ⟨1, x, d', .stop h, by omega, hq⟩
theorem RetN.next {st : List G → Option (Option Nat × List G)} {d d1 : List G} {m : Nat} {Q : Nat → List G → Prop} (h : st d = some (none, d1)) (hr : RetN st d1 m Q) : RetN st d (m + 1) Q := by
  obtain ⟨n, x, d', h1, h2, h3⟩ := hr
  exact ⟨n + 1, x, d', .next h h1, by omega, h3⟩
theorem RetN.to {st : List G → Option (Option Nat × List G)} {d : List G} {m : Nat} {Q : Nat → List G → Prop} (h : RetN st d m Q) (hm : m ≤ 1000000) : RetL st d Q := by
  obtain ⟨n, x, d', h1, h2, h3⟩ := h
  exact ⟨n, x, d', h1, by omega, h3⟩
theorem RetL.mono {st : List G → Option (Option Nat × List G)} {d : List G} {P Q : Nat → List G → Prop} (h : RetL st d P) (hq : ∀ x g, P x g → Q x g) : RetL st d Q := by
  obtain ⟨n, x, d', h1, h2, h3⟩ := h
  exact ⟨n, x, d', h1, h2, hq _ _ h3⟩
theorem RetN.mono {st : List G → Option (Option Nat × List G)} {d : List G} {m : Nat} {P Q : Nat → List G → Prop} (h : RetN st d m P) (hq : ∀ x g, P x g → Q x g) : RetN st d m Q := by
  obtain ⟨n, x, d', h1, h2, h3⟩ := h
  exact ⟨n, x, d', h1, h2, hq _ _ h3⟩
theorem dec_iff {p : Prop} {i : Decidable p} : (@decide p i = true) ↔ p := by simp
theorem dec_not_iff {p : Prop} {i : Decidable p} : (@decide p i = false) ↔ ¬ p := by simp
theorem nbeq_iff {a b : Nat} : Nat.beq a b = true ↔ a = b := ⟨Nat.eq_of_beq_eq_true, fun h => h ▸ Nat.beq_refl a⟩
theorem gi0 (a : G) (l : List G) : gi (a :: l) 0 = a := rfl
theorem gis (a : G) (l : List G) (i : Nat) : gi (a :: l) (i + 1) = gi l i := rfl
theorem row1 (r : List G) (l : List (List G)) : (G.l (r :: l)).row = r := rfl
theorem rows1 (l : List (List G)) : (G.l l).rows = l := rfl
theorem int1 (n : Int) : (G.i n).int = n := rfl
theorem str1 (s : ByteArray) : (G.s s).str = s := rfl
theorem bool1 (b : Bool) : (G.t b).bool = b := rfl
theorem sl : (∀ a b : Int, ltI a b = decide (a < b)) ∧ (∀ a b : Int, leI a b = decide (a ≤ b)) ∧ (∀ n : Int, nnI n = decide (0 ≤ n)) ∧ (∀ b : Bool, (b && true) = b) ∧ (∀ b : Bool, (true && b) = b) ∧
    (∀ a b : Bool, ((a && b) = true) = (a = true ∧ b = true)) ∧ (∀ a b : Bool, ((a && b) = false) = (a = false ∨ b = false)) ∧ (∀ (p : Prop) (i : Decidable p), (@decide p i = true) = p) ∧ (∀ (p : Prop) (i : Decidable p), (@decide p i = false) = ¬ p) ∧
    (∀ b : Bool, ((!b) = true) = (b = false)) ∧ (∀ b : Bool, ((!b) = false) = (b = true)) ∧ (∀ a b : Int, ((a == b) = true) = (a = b)) ∧ (∀ a b : Int, ((a == b) = false) = ¬ (a = b)) ∧ (∀ a b : Int, ((a != b) = true) = ¬ (a = b)) ∧ (∀ a b : Int, ((a != b) = false) = (a = b)) ∧
    (∀ (α : Type) (a b : α), (a ≠ b) = ¬ (a = b)) ∧ (∀ a b : Nat, (Nat.beq a b = true) = (a = b)) ∧ (∀ a b : Nat, (Nat.ble a b = true) = (a ≤ b)) ∧ (∀ a b : Nat, (Nat.blt a b = true) = (a < b)) ∧
    (∀ (l : List (List G)) (i : Nat) (x : List G), (l.set i x).length = l.length) ∧ (∀ (α : Type) (l r : List α), (l ++ r).length = l.length + r.length) ∧ (∀ (n : Nat) (x : List G), (List.replicate n x).length = n) ∧
    (∀ (α : Type) (x : α) (l : List α), (x :: l).length = l.length + 1) ∧ (∀ α : Type, ([] : List α).length = 0) ∧ (∀ (l : List (List G)) (n : Nat), (l.take n).length = min n l.length) ∧ (∀ (l : List (List G)) (n : Nat), (l.drop n).length = l.length - n) ∧
    (∀ n : Nat, ((n : Int)).toNat = n) ∧ (∀ p : Prop, (True ∧ p) = p) ∧ (∀ p : Prop, (p ∧ True) = p) ∧ (∀ a b : Bool, ((a == b) = true) = (a = b)) :=
  ⟨ltI_eq, leI_eq, nnI_eq, Bool.and_true, Bool.true_and, Bool.and_eq_true, fun a b => by cases a <;> cases b <;> simp, fun _ _ => propext dec_iff, fun _ _ => propext dec_not_iff, fun b => by cases b <;> simp, fun b => by cases b <;> simp,
    fun a b => by simp, fun a b => by simp, fun a b => by simp, fun a b => by simp, fun _ a b => rfl, fun a b => propext nbeq_iff, fun a b => by simp, fun a b => by simp, fun l i x => List.length_set, fun _ l r => List.length_append, fun n x => List.length_replicate,
    fun _ x l => rfl, fun _ => rfl, fun l n => List.length_take, fun l n => List.length_drop, fun n => Int.toNat_natCast n, fun p => true_and p, fun p => and_true p, fun a b => by cases a <;> cases b <;> simp⟩
end Go.AL

namespace Go.AL
open Go
theorem count_runs {σ : Type} {st : List G → Option (Option Nat × List G)} (mk : σ → Nat → List G) (n : Nat) (fin : σ → Nat × List G) (I : σ → Nat → Prop) (E : Nat → List G → Prop)
    (hstep : ∀ s i, I s i → i < n → Ret (st (mk s i)) fun o => (∃ s', o = (none, mk s' (i + 1)) ∧ I s' (i + 1)) ∨ ∃ c g, o = (some c, g) ∧ E c g)
    (hfin : ∀ s, I s n → Ret (st (mk s n)) fun o => o = (some (fin s).1, (fin s).2)) :
    ∀ (k : Nat) (s : σ) (i : Nat), i + k = n → I s i → RetN st (mk s i) (k + 1) fun c g => (∃ s', I s' n ∧ c = (fin s').1 ∧ g = (fin s').2) ∨ E c g
  | 0, s, i, hi, hI => by
    have e : i = n := hi
    subst e
    obtain ⟨o, h, rfl⟩ := hfin s hI
    exact RetN.stop h (.inl ⟨s, hI, rfl, rfl⟩)
  | k + 1, s, i, hi, hI => by
    obtain ⟨o, h, ⟨s', rfl, hI'⟩ | ⟨c, g, rfl, hE⟩⟩ := hstep s i hI (by omega)
    · exact RetN.next h (count_runs mk n fin I E hstep hfin k s' (i + 1) (by omega) hI')
    · exact RetN.stop h (.inr hE)
theorem getD_row {rows : List (List G)} {i : Nat} (h : i < rows.length) : rows.getD i [] ∈ rows := by
  rw [List.getD_eq_getElem?_getD, List.getElem?_eq_getElem h]
  exact List.getElem_mem h
theorem take_row {rows : List (List G)} {i : Nat} (h : i < rows.length) : rows.take (i + 1) = rows.take i ++ [rows.getD i []] := by
  rw [List.take_add_one, List.getD_eq_getElem?_getD, List.getElem?_eq_getElem h]
  rfl
theorem range_inv {σ : Type} {st : List G → Option (Option Nat × List G)} (mk : σ → Nat → List G) (rows : List (List G)) (fin : σ → Nat × List G) (I : σ → Nat → Prop) (E : Nat → List G → Prop) (s : σ)
    (hlen : rows.length < 999999) (h0 : I s 0)
    (hstep : ∀ s i x, I s i → i < rows.length → rows.getD i [] = x → x ∈ rows → rows.take (i + 1) = rows.take i ++ [x] → Ret (st (mk s i)) fun o => (∃ s', o = (none, mk s' (i + 1)) ∧ I s' (i + 1)) ∨ ∃ c g, o = (some c, g) ∧ E c g)
    (hfin : ∀ s, I s rows.length → Ret (st (mk s rows.length)) fun o => o = (some (fin s).1, (fin s).2)) :
    RetL st (mk s 0) fun c g => (∃ s', I s' rows.length ∧ c = (fin s').1 ∧ g = (fin s').2) ∨ E c g :=
  (count_runs mk rows.length fin I E (fun s i hI hi => hstep s i _ hI hi rfl (getD_row hi) (take_row hi)) hfin rows.length s 0 (by omega) h0).to (by omega)
theorem range_all {σ : Type} {st : List G → Option (Option Nat × List G)} (mk : σ → Nat → List G) (rows : List (List G)) (fin : σ → Nat × List G) (I : σ → Nat → Prop) (s : σ)
    (hlen : rows.length < 999999) (h0 : I s 0)
    (hstep : ∀ s i x, I s i → i < rows.length → rows.getD i [] = x → x ∈ rows → rows.take (i + 1) = rows.take i ++ [x] → Ret (st (mk s i)) fun o => ∃ s', o = (none, mk s' (i + 1)) ∧ I s' (i + 1))
    (hfin : ∀ s, I s rows.length → Ret (st (mk s rows.length)) fun o => o = (some (fin s).1, (fin s).2)) :
    RetL st (mk s 0) fun c g => ∃ s', I s' rows.length ∧ c = (fin s').1 ∧ g = (fin s').2 :=
  (range_inv mk rows fin I (fun _ _ => False) s hlen h0 (fun s i x a b c d e => (hstep s i x a b c d e).mono fun _ h => .inl h) hfin).mono fun _ _ h => h.elim id False.elim
end Go.AL

namespace Go.AL
open Go
theorem beq_swap {α : Type} [BEq α] [LawfulBEq α] (a b : α) : (a == b) = (b == a) := by
  rw [Bool.eq_iff_iff]
  simp only [beq_iff_eq]
  exact eq_comm
theorem gEq_symm {k : Kd} {a b : G} : gEq k a b = gEq k b a := by
  cases k
  · exact beq_swap _ _
  · exact beq_swap _ _
  · exact beq_swap _ _
  · rfl
theorem gEq_trans {k : Kd} {a b c : G} (h1 : gEq k a b = true) (h2 : gEq k b c = true) : gEq k a c = true := by
  cases k <;> simp only [gEq, beq_iff_eq] at * <;> first | exact h1.trans h2 | cases h1
theorem rowEq_symm : ∀ {K : List Kd} {a b : List G}, rowEq K a b = rowEq K b a
  | [], _, _ => rfl
  | k :: K, a, b => by simp only [rowEq, gEq_symm (a := a.headD default), rowEq_symm (K := K) (a := a.tail)]
theorem rowEq_trans : ∀ {K : List Kd} {a b c : List G}, rowEq K a b = true → rowEq K b c = true → rowEq K a c = true
  | [], _, _, _, _, _ => rfl
  | k :: K, a, b, c, h1, h2 => by
    simp only [rowEq, Bool.and_eq_true] at *
    exact ⟨gEq_trans h1.1 h2.1, rowEq_trans h1.2 h2.2⟩
theorem rowEq_congr {K : List Kd} {a b c : List G} (h : rowEq K a b = true) : rowEq K a c = rowEq K b c := by
  rw [Bool.eq_iff_iff]
  constructor
  · exact fun h2 => rowEq_trans (by rw [rowEq_symm]; exact h) h2
  · exact fun h2 => rowEq_trans h h2
theorem rowEq_congr' {K : List Kd} {a b c : List G} (h : rowEq K a b = true) : rowEq K c a = rowEq K c b := by
  rw [rowEq_symm, rowEq_congr h, rowEq_symm]
theorem mfind_shift (ks : List Kd) (key : List G) : ∀ (rows : List (List G)) (i : Nat), mfind ks key rows i = (mfind ks key rows 0).map fun p => (p.1 + i, p.2)
  | [], i => rfl
  | r :: rs, i => by
    simp only [mfind]
    cases rowEq ks key (gi r 0).row with
    | true => simp
    | false =>
      simp only [cond_false]
      rw [mfind_shift ks key rs (i + 1), mfind_shift ks key rs (0 + 1), Option.map_map]
      congr 1
      funext p
      simp
      omega
theorem mget_nil (ks : List Kd) (key z : List G) : mget ks [] key z = z := rfl
theorem mget_cons (ks : List Kd) (r : List G) (rs : List (List G)) (key z : List G) : mget ks (r :: rs) key z = bif rowEq ks key (gi r 0).row then (gi r 1).row else mget ks rs key z := by
  unfold mget
  simp only [mfind]
  cases rowEq ks key (gi r 0).row with
  | true => rfl
  | false =>
    simp only [cond_false]
    rw [mfind_shift ks key rs (0 + 1)]
    cases mfind ks key rs 0 <;> rfl
theorem mhas_nil (ks : List Kd) (key : List G) : mhas ks [] key = false := rfl
theorem mhas_cons (ks : List Kd) (r : List G) (rs : List (List G)) (key : List G) : mhas ks (r :: rs) key = (rowEq ks key (gi r 0).row || mhas ks rs key) := by
  unfold mhas
  simp only [mfind]
  cases rowEq ks key (gi r 0).row with
  | true => rfl
  | false =>
    simp only [cond_false]
    rw [mfind_shift ks key rs (0 + 1)]
    cases mfind ks key rs 0 <;> rfl
theorem mput_nil (ks : List Kd) (key val : List G) (c : Nat) : mput ks [] key val c = [[.l [key], .l [val], .i c]] := rfl
theorem mput_cons (ks : List Kd) (r : List G) (rs : List (List G)) (key val : List G) (c : Nat) :
    mput ks (r :: rs) key val c = bif rowEq ks key (gi r 0).row then [.l [key], .l [val], .i (gi r 2).int] :: rs else r :: mput ks rs key val c := by
  unfold mput
  simp only [mfind]
  cases rowEq ks key (gi r 0).row with
  | true => rfl
  | false =>
    simp only [cond_false]
    rw [mfind_shift ks key rs (0 + 1)]
    cases mfind ks key rs 0 <;> rfl
theorem mget_mput (ks : List Kd) (k v key z : List G) (c : Nat) : ∀ rows : List (List G), mget ks (mput ks rows k v c) key z = bif rowEq ks key k then v else mget ks rows key z
  | [] => by simp only [mput_nil, mget_cons, mget_nil]; rfl
  | r :: rs => by
    rw [mput_cons, mget_cons]
    cases h : rowEq ks k (gi r 0).row with
    | true =>
      simp only [cond_true, mget_cons]
      have e : rowEq ks key (gi r 0).row = rowEq ks key k := (rowEq_congr' h).symm
      rw [e]
      cases h2 : rowEq ks key k with
      | true => simp only [gi0, row1, h2, cond_true]; rfl
      | false => simp only [gi0, row1, h2, cond_false]
    | false =>
      simp only [cond_false, mget_cons, mget_mput ks k v key z c rs]
      cases h2 : rowEq ks key (gi r 0).row with
      | false => rfl
      | true =>
        cases h3 : rowEq ks key k with
        | false => rfl
        | true =>
          have : rowEq ks k (gi r 0).row = true := rowEq_trans (by rw [rowEq_symm]; exact h3) h2
          rw [this] at h
          cases h
end Go.AL

namespace Go.AL
open Go
theorem getD_mid {α : Type} (l : List α) (x : α) (q : List α) (z : α) (n : Nat) (h : n = l.length) : (l ++ x :: q).getD n z = x := by subst h; simp
section
variable {K : List Kd} {C : List G → Option (List G)} {Q : List G → Prop} {c : List G → List G → Int}
structure Cmp (K : List Kd) (C : List G → Option (List G)) (Q : List G → Prop) (c : List G → List G → Int) : Prop where
  cmp : ∀ r s, Q r → Q s → C [.l [r], .l [s]] = some [.i (c r s)]
  eta : ∀ r, Q r → gEta K r = r
end
end Go.AL

namespace Go.AL
open Go
section
variable {K : List Kd} {Z : List G} {Q : List G → Prop}
structure Kds (K : List Kd) (Q : List G → Prop) : Prop where
  eta : ∀ r, Q r → gEta K r = r
structure Eqv (K : List Kd) (C : List G → Option (List G)) (Q : List G → Prop) (e : List G → List G → Bool) : Prop where
  cmp : ∀ r s, Q r → Q s → C [.l [r], .l [s]] = some [.t (e r s)]
  eta : ∀ r, Q r → gEta K r = r
variable {C : List G → Option (List G)} {ee : List G → List G → Bool}
end
end Go.AL

namespace Go.AL
open Go
section
variable {K : List Kd} {Q : List G → Prop}
end
end Go.AL

namespace Go.AL
open Go
section
variable {K : List Kd} {Z : List G} {Q : List G → Prop} {C : List G → Option (List G)} {cp : G → G} {cap : G} {p : List G → Bool}
structure Prd (K : List Kd) (C : List G → Option (List G)) (cp : G → G) (cap : G) (Q : List G → Prop) (p : List G → Bool) : Prop where
  cmp : ∀ r, Q r → C [.l [r], cap] = some [.t (p r)]
  eta : ∀ r, Q r → gEta K r = r
  fix : cp cap = cap
end
section
variable {K : List Kd} {Z : List G}
end
end Go.AL

namespace Go.AL
open Go
section sort
variable {α : Type} {lt : α → α → Bool}
structure Lin (lt : α → α → Bool) (Q : α → Prop) : Prop where
  tr : ∀ a b c, Q a → Q b → Q c → lt a b = false → lt b c = false → lt a c = false
  asy : ∀ a b, Q a → Q b → lt a b = true → lt b a = false
variable {Q : α → Prop}
end sort
end Go.AL

namespace Go.AL
open Go
section
variable {α : Type} (f : α → Int)
end
section
variable {α : Type} {e : α → α → Bool}
end
end Go.AL

namespace Go.AL
open Go
section
variable {K : List Kd} {C : List G → Option (List G)} {Q : List G → Prop} {c : List G → List G → Int}
end
end Go.AL
