/-
  What is proved here: rules by which lifted functions are shown to give what they should. No program in sight; no condition.
-/
import Derived.Test.YtpbepppkchjccaaGreatDoorMD
import Derived.Test.YtpbepppkchjccaaGreatDoorMH
set_option linter.unusedSimpArgs false
set_option linter.unusedVariables false
set_option linter.unusedSectionVars false
namespace Go.AL
open Go
def Ret {β : Type} (x : Option β) (Q : β → Prop) : Prop := ∃ r, x = some r ∧ Q r
def RetL (st : List G → Option (Option Nat × List G)) (d : List G) (Q : Nat → List G → Prop) : Prop := ∃ n x d', Runs st n d x d' ∧ n ≤ 1000000 ∧ Q x d'
namespace Ret
variable {β : Type} {Q : β → Prop}
theorem some {r : β} (h : Q r) : Ret (some r) Q := ⟨r, rfl, h⟩
theorem pos {b : Bool} {x y : Option β} (h : b = true) (hx : Ret x Q) : Ret (bif b then x else y) Q := by subst h; exact hx
theorem neg {b : Bool} {x y : Option β} (h : b = false) (hy : Ret y Q) : Ret (bif b then x else y) Q := by subst h; exact hy
theorem test {b : Bool} {x y : Option β} (hx : b = true → Ret x Q) (hy : b = false → Ret y Q) : Ret (bif b then x else y) Q := by
  cases b with
  | true => exact hx rfl
  | false => exact hy rfl
theorem call {t : Option (List G)} {k : List G → Option β} {P : List G → Prop} (h : Ret t P) (hk : ∀ g, P g → Ret (k g) Q) : Ret (callF t k) Q := by
  obtain ⟨r, h, hp⟩ := h
  subst h
  exact hk r hp
theorem callb {c : Bool} {t : Option (List G)} {k : List G → Option β} {P : List G → Prop} (h : Ret t P) (hc : c = true) (hk : ∀ g, P g → Ret (k g) Q) : Ret (callB (c && t.isSome) t k) Q := by
  obtain ⟨r, h, hp⟩ := h
  subst h hc
  exact hk r hp
theorem loop {c : Bool} {st : List G → Option (Option Nat × List G)} {d : List G} {k : Nat → List G → Option β} {P : Nat → List G → Prop} (h : RetL st d P) (hc : c = true) (hk : ∀ x g, P x g → Ret (k x g) Q) : Ret (loopB c (LRun st d) k) Q := by
  obtain ⟨n, x, d', h, hn, hp⟩ := h
  rw [h.lrun hn]
  subst hc
  exact hk x d' hp
theorem tail {c : Bool} {t : Option (Option Nat × List G)} {k : Nat → List G → Option β} {P : Nat → List G → Prop} (h : Ret t fun o => ∃ x, o.1 = Option.some x ∧ P x o.2) (hc : c = true) (hk : ∀ x g, P x g → Ret (k x g) Q) :
    Ret (loopB c (cutR t) k) Q := by
  obtain ⟨⟨o, d⟩, rfl, x, hx, hp⟩ := h
  simp only at hx
  subst hx hc
  exact hk x d hp
theorem mono {x : Option β} {P : β → Prop} (h : Ret x P) (hpq : ∀ r, P r → Q r) : Ret x Q := by
  obtain ⟨r, h, hp⟩ := h
  exact ⟨r, h, hpq r hp⟩
theorem eq {x : Option β} {r : β} (h : x = Option.some r) : Ret x (fun g => g = r) := ⟨r, h, rfl⟩
theorem toEq {x : Option β} {r : β} (h : Ret x (fun g => g = r)) : x = Option.some r := by
  obtain ⟨r', h, rfl⟩ := h
  exact h
end Ret
theorem RetL.stop {st : List G → Option (Option Nat × List G)} {d d' : List G} {x : Nat} {Q : Nat → List G → Prop} (h : st d = some (some x, d')) (hq : Q x d') : RetL st d Q := ⟨1, x, d', .stop h, by omega, hq⟩
def RetN (st : List G → Option (Option Nat × List G)) (d : List G) (m : Nat) (Q : Nat → List G → Prop) : Prop := ∃ n x d', Runs st n d x d' ∧ n ≤ m ∧ Q x d'
theorem RetN.stop {st : List G → Option (Option Nat × List G)} {d d' : List G} {x m : Nat} {Q : Nat → List G → Prop} (h : st d = some (some x, d')) (hq : Q x d') : RetN st d (m + 1) Q := ⟨1, x, d', .stop h, by omega, hq⟩
theorem RetN.next {st : List G → Option (Option Nat × List G)} {d d1 : List G} {m : Nat} {Q : Nat → List G → Prop} (h : st d = some (none, d1)) (hr : RetN st d1 m Q) : RetN st d (m + 1) Q := by
  obtain ⟨n, x, d', h1, h2, h3⟩ := hr
  exact ⟨n + 1, x, d', .next h h1, by omega, h3⟩
theorem RetN.to {st : List G → Option (Option Nat × List G)} {d : List G} {m : Nat} {Q : Nat → List G → Prop} (h : RetN st d m Q) (hm : m ≤ 1000000) : RetL st d Q := by
  obtain ⟨n, x, d', h1, h2, h3⟩ := h
  exact ⟨n, x, d', h1, by omega, h3⟩
theorem RetL.mono {st : List G → Option (Option Nat × List G)} {d : List G} {P Q : Nat → List G → Prop} (h : RetL st d P) (hq : ∀ x g, P x g → Q x g) : RetL st d Q := by
  obtain ⟨n, x, d', h1, h2, h3⟩ := h
  exact ⟨n, x, d', h1, h2, hq _ _ h3⟩
theorem RetN.mono {st : List G → Option (Option Nat × List G)} {d : List G} {m : Nat} {P Q : Nat → List G → Prop} (h : RetN st d m P) (hq : ∀ x g, P x g → Q x g) : RetN st d m Q := by
  obtain ⟨n, x, d', h1, h2, h3⟩ := h
  exact ⟨n, x, d', h1, h2, hq _ _ h3⟩
theorem dec_iff {p : Prop} {i : Decidable p} : (@decide p i = true) ↔ p := by simp
theorem dec_not_iff {p : Prop} {i : Decidable p} : (@decide p i = false) ↔ ¬ p := by simp
theorem nbeq_iff {a b : Nat} : Nat.beq a b = true ↔ a = b := ⟨Nat.eq_of_beq_eq_true, fun h => h ▸ Nat.beq_refl a⟩
theorem gi0 (a : G) (l : List G) : gi (a :: l) 0 = a := rfl
theorem gis (a : G) (l : List G) (i : Nat) : gi (a :: l) (i + 1) = gi l i := rfl
theorem row1 (r : List G) (l : List (List G)) : (G.l (r :: l)).row = r := rfl
theorem rows1 (l : List (List G)) : (G.l l).rows = l := rfl
theorem int1 (n : Int) : (G.i n).int = n := rfl
theorem str1 (s : ByteArray) : (G.s s).str = s := rfl
theorem bool1 (b : Bool) : (G.t b).bool = b := rfl
theorem sl : (∀ a b : Int, ltI a b = decide (a < b)) ∧ (∀ a b : Int, leI a b = decide (a ≤ b)) ∧ (∀ n : Int, nnI n = decide (0 ≤ n)) ∧ (∀ b : Bool, (b && true) = b) ∧ (∀ b : Bool, (true && b) = b) ∧
    (∀ a b : Bool, ((a && b) = true) = (a = true ∧ b = true)) ∧ (∀ a b : Bool, ((a && b) = false) = (a = false ∨ b = false)) ∧ (∀ (p : Prop) (i : Decidable p), (@decide p i = true) = p) ∧ (∀ (p : Prop) (i : Decidable p), (@decide p i = false) = ¬ p) ∧
    (∀ b : Bool, ((!b) = true) = (b = false)) ∧ (∀ b : Bool, ((!b) = false) = (b = true)) ∧ (∀ a b : Int, ((a == b) = true) = (a = b)) ∧ (∀ a b : Int, ((a == b) = false) = ¬ (a = b)) ∧ (∀ a b : Int, ((a != b) = true) = ¬ (a = b)) ∧ (∀ a b : Int, ((a != b) = false) = (a = b)) ∧
    (∀ (α : Type) (a b : α), (a ≠ b) = ¬ (a = b)) ∧ (∀ a b : Nat, (Nat.beq a b = true) = (a = b)) ∧ (∀ a b : Nat, (Nat.ble a b = true) = (a ≤ b)) ∧ (∀ a b : Nat, (Nat.blt a b = true) = (a < b)) ∧
    (∀ (l : List (List G)) (i : Nat) (x : List G), (l.set i x).length = l.length) ∧ (∀ (α : Type) (l r : List α), (l ++ r).length = l.length + r.length) ∧ (∀ (n : Nat) (x : List G), (List.replicate n x).length = n) ∧
    (∀ (α : Type) (x : α) (l : List α), (x :: l).length = l.length + 1) ∧ (∀ α : Type, ([] : List α).length = 0) ∧ (∀ (l : List (List G)) (n : Nat), (l.take n).length = min n l.length) ∧ (∀ (l : List (List G)) (n : Nat), (l.drop n).length = l.length - n) ∧
    (∀ n : Nat, ((n : Int)).toNat = n) ∧ (∀ p : Prop, (True ∧ p) = p) ∧ (∀ p : Prop, (p ∧ True) = p) ∧ (∀ a b : Bool, ((a == b) = true) = (a = b)) :=
  ⟨ltI_eq, leI_eq, nnI_eq, Bool.and_true, Bool.true_and, Bool.and_eq_true, fun a b => by cases a <;> cases b <;> simp, fun _ _ => propext dec_iff, fun _ _ => propext dec_not_iff, fun b => by cases b <;> simp, fun b => by cases b <;> simp,
    fun a b => by simp, fun a b => by simp, fun a b => by simp, fun a b => by simp, fun _ a b => rfl, fun a b => propext nbeq_iff, fun a b => by simp, fun a b => by simp, fun l i x => List.length_set, fun _ l r => List.length_append, fun n x => List.length_replicate,
    fun _ x l => rfl, fun _ => rfl, fun l n => List.length_take, fun l n => List.length_drop, fun n => Int.toNat_natCast n, fun p => true_and p, fun p => and_true p, fun a b => by cases a <;> cases b <;> simp⟩
end Go.AL

namespace Go.AL
open Go
theorem count_runs {σ : Type} {st : List G → Option (Option Nat × List G)} (mk : σ → Nat → List G) (n : Nat) (fin : σ → Nat × List G) (I : σ → Nat → Prop) (E : Nat → List G → Prop)
    (hstep : ∀ s i, I s i → i < n → Ret (st (mk s i)) fun o => (∃ s', o = (none, mk s' (i + 1)) ∧ I s' (i + 1)) ∨ ∃ c g, o = (some c, g) ∧ E c g)
    (hfin : ∀ s, I s n → Ret (st (mk s n)) fun o => o = (some (fin s).1, (fin s).2)) :
    ∀ (k : Nat) (s : σ) (i : Nat), i + k = n → I s i → RetN st (mk s i) (k + 1) fun c g => (∃ s', I s' n ∧ c = (fin s').1 ∧ g = (fin s').2) ∨ E c g
  | 0, s, i, hi, hI => by
    have e : i = n := hi
    subst e
    obtain ⟨o, h, rfl⟩ := hfin s hI
    exact RetN.stop h (.inl ⟨s, hI, rfl, rfl⟩)
  | k + 1, s, i, hi, hI => by
    obtain ⟨o, h, ⟨s', rfl, hI'⟩ | ⟨c, g, rfl, hE⟩⟩ := hstep s i hI (by omega)
    · exact RetN.next h (count_runs mk n fin I E hstep hfin k s' (i + 1) (by omega) hI')
    · exact RetN.stop h (.inr hE)
theorem getD_row {rows : List (List G)} {i : Nat} (h : i < rows.length) : rows.getD i [] ∈ rows := by
  rw [List.getD_eq_getElem?_getD, List.getElem?_eq_getElem h]
  exact List.getElem_mem h
theorem take_row {rows : List (List G)} {i : Nat} (h : i < rows.length) : rows.take (i + 1) = rows.take i ++ [rows.getD i []] := by
  rw [List.take_add_one, List.getD_eq_getElem?_getD, List.getElem?_eq_getElem h]
  rfl
theorem range_inv {σ : Type} {st : List G → Option (Option Nat × List G)} (mk : σ → Nat → List G) (rows : List (List G)) (fin : σ → Nat × List G) (I : σ → Nat → Prop) (E : Nat → List G → Prop) (s : σ)
    (hlen : rows.length < 999999) (h0 : I s 0)
    (hstep : ∀ s i x, I s i → i < rows.length → rows.getD i [] = x → x ∈ rows → rows.take (i + 1) = rows.take i ++ [x] → Ret (st (mk s i)) fun o => (∃ s', o = (none, mk s' (i + 1)) ∧ I s' (i + 1)) ∨ ∃ c g, o = (some c, g) ∧ E c g)
    (hfin : ∀ s, I s rows.length → Ret (st (mk s rows.length)) fun o => o = (some (fin s).1, (fin s).2)) :
    RetL st (mk s 0) fun c g => (∃ s', I s' rows.length ∧ c = (fin s').1 ∧ g = (fin s').2) ∨ E c g :=
  (count_runs mk rows.length fin I E (fun s i hI hi => hstep s i _ hI hi rfl (getD_row hi) (take_row hi)) hfin rows.length s 0 (by omega) h0).to (by omega)
theorem range_all {σ : Type} {st : List G → Option (Option Nat × List G)} (mk : σ → Nat → List G) (rows : List (List G)) (fin : σ → Nat × List G) (I : σ → Nat → Prop) (s : σ)
    (hlen : rows.length < 999999) (h0 : I s 0)
    (hstep : ∀ s i x, I s i → i < rows.length → rows.getD i [] = x → x ∈ rows → rows.take (i + 1) = rows.take i ++ [x] → Ret (st (mk s i)) fun o => ∃ s', o = (none, mk s' (i + 1)) ∧ I s' (i + 1))
    (hfin : ∀ s, I s rows.length → Ret (st (mk s rows.length)) fun o => o = (some (fin s).1, (fin s).2)) :
    RetL st (mk s 0) fun c g => ∃ s', I s' rows.length ∧ c = (fin s').1 ∧ g = (fin s').2 :=
  (range_inv mk rows fin I (fun _ _ => False) s hlen h0 (fun s i x a b c d e => (hstep s i x a b c d e).mono fun _ h => .inl h) hfin).mono fun _ _ h => h.elim id False.elim
end Go.AL

namespace Go.AL
open Go
end Go.AL

namespace Go.AL
open Go
def ins4 (K : List Kd) (C : List G → Option (List G)) (d : List G) : Option (Option Nat × List G) :=
  (bif (ltI (gi d 1).int (gi d 4).int) then (bif ((nnI (gi d 4).int) && (ltI (gi d 4).int (((gi d 0).rows.length : Nat) : Int))) then (bif (decide ((0 + ((gi d 4).int).toNat) < (gi d 0).rows.length)) then (bif (inI ((gi d 4).int - 1)) then (bif ((nnI ((gi d 4).int - 1)) && (ltI ((gi d 4).int - 1) (((gi d 0).rows.length : Nat) : Int))) then (bif (decide ((0 + ((gi d 4).int - 1).toNat) < (gi d 0).rows.length)) then (callF (C [.l [(gEta K ((gi d 0).rows.getD (0 + ((gi d 4).int).toNat) []))], .l [(gEta K ((gi d 0).rows.getD (0 + ((gi d 4).int - 1).toNat) []))]]) fun g1 => (bif (ltI (gi g1 0).int 0) then (bif (inI ((gi d 4).int - 1)) then (bif (inI ((gi d 4).int - 1)) then (bif ((nnI ((gi d 4).int - 1)) && (ltI ((gi d 4).int - 1) (((gi d 0).rows.length : Nat) : Int))) then (bif (decide ((0 + ((gi d 4).int - 1).toNat) < (gi d 0).rows.length)) then (bif ((nnI (gi d 4).int) && (ltI (gi d 4).int (((gi d 0).rows.length : Nat) : Int))) then (bif (decide ((0 + ((gi d 4).int).toNat) < (gi d 0).rows.length)) then (bif ((nnI (gi d 4).int) && (ltI (gi d 4).int (((gi d 0).rows.length : Nat) : Int))) then (bif (decide ((0 + ((gi d 4).int).toNat) < (gi d 0).rows.length)) then (bif ((nnI ((gi d 4).int - 1)) && (ltI ((gi d 4).int - 1) (((gi d 0).rows.length : Nat) : Int))) then (bif (decide ((0 + ((gi d 4).int - 1).toNat) < ((gi d 0).rows.set (0 + ((gi d 4).int).toNat) (putG K ((gi d 0).rows.getD (0 + ((gi d 4).int).toNat) []) 0 (gEta K ((gi d 0).rows.getD (0 + ((gi d 4).int - 1).toNat) [])))).length)) then (bif (inI ((gi d 4).int - 1)) then (bif ((Nat.beq (gi d 0).rows.length (((gi d 0).rows.set (0 + ((gi d 4).int).toNat) (putG K ((gi d 0).rows.getD (0 + ((gi d 4).int).toNat) []) 0 (gEta K ((gi d 0).rows.getD (0 + ((gi d 4).int - 1).toNat) [])))).set (0 + ((gi d 4).int - 1).toNat) (putG K (((gi d 0).rows.set (0 + ((gi d 4).int).toNat) (putG K ((gi d 0).rows.getD (0 + ((gi d 4).int).toNat) []) 0 (gEta K ((gi d 0).rows.getD (0 + ((gi d 4).int - 1).toNat) [])))).getD (0 + ((gi d 4).int - 1).toNat) []) 0 (gEta K ((gi d 0).rows.getD (0 + ((gi d 4).int).toNat) [])))).length) && true) then some (none, [.l (((gi d 0).rows.set (0 + ((gi d 4).int).toNat) (putG K ((gi d 0).rows.getD (0 + ((gi d 4).int).toNat) []) 0 (gEta K ((gi d 0).rows.getD (0 + ((gi d 4).int - 1).toNat) [])))).set (0 + ((gi d 4).int - 1).toNat) (putG K (((gi d 0).rows.set (0 + ((gi d 4).int).toNat) (putG K ((gi d 0).rows.getD (0 + ((gi d 4).int).toNat) []) 0 (gEta K ((gi d 0).rows.getD (0 + ((gi d 4).int - 1).toNat) [])))).getD (0 + ((gi d 4).int - 1).toNat) []) 0 (gEta K ((gi d 0).rows.getD (0 + ((gi d 4).int).toNat) [])))), .i (gi d 1).int, .i (gi d 2).int, .i (gi d 3).int, .i ((gi d 4).int - 1)]) else none) else none) else none) else none) else none) else none) else none) else none) else none) else none) else none) else none) else (bif ((Nat.beq (gi d 0).rows.length (gi d 0).rows.length) && true) then some (some 0, [.l (gi d 0).rows, .i (gi d 1).int, .i (gi d 2).int, .i (gi d 3).int]) else none))) else none) else none) else none) else none) else none) else (bif ((Nat.beq (gi d 0).rows.length (gi d 0).rows.length) && true) then some (some 0, [.l (gi d 0).rows, .i (gi d 1).int, .i (gi d 2).int, .i (gi d 3).int]) else none))
def ins1 (K : List Kd) (C : List G → Option (List G)) (d : List G) : Option (Option Nat × List G) :=
  (bif (ltI (gi d 3).int (gi d 2).int) then (loopB ((Nat.beq (gi d 0).rows.length (gi d 0).rows.length) && true) (LRun (ins4 K C) [.l (gi d 0).rows, .i (gi d 1).int, .i (gi d 2).int, .i (gi d 3).int, .i (gi d 3).int]) fun cg2 g2 => (bif (inI ((gi g2 3).int + 1)) then (bif ((Nat.beq (gi g2 0).rows.length (gi g2 0).rows.length) && true) then some (none, [.l (gi g2 0).rows, .i (gi g2 1).int, .i (gi g2 2).int, .i ((gi g2 3).int + 1)]) else none) else none)) else some (some 0, [.l (gi d 0).rows]))
def insF (K : List Kd) (C : List G → Option (List G)) (d : List G) : Option (List G) :=
  (bif (inI ((gi d 1).int + 1)) then (loopB ((Nat.beq (gi d 0).rows.length (gi d 0).rows.length) && true) (LRun (ins1 K C) [.l (gi d 0).rows, .i (gi d 1).int, .i (gi d 2).int, .i ((gi d 1).int + 1)]) fun cg3 g3 => some [.l (gi g3 0).rows]) else none)
def stab2 (K : List Kd) (C : List G → Option (List G)) (d : List G) : Option (Option Nat × List G) :=
  (bif (leI (gi d 4).int (gi d 1).int) then (callB (((Nat.beq (gi d 0).rows.length (gi d 0).rows.length) && true) && ((insF K C) [.l (gi d 0).rows, .i (gi d 3).int, .i (gi d 4).int]).isSome) ((insF K C) [.l (gi d 0).rows, .i (gi d 3).int, .i (gi d 4).int]) fun g1 => (bif (inI ((gi d 4).int + (gi d 2).int)) then (bif ((Nat.beq (gi d 0).rows.length (gi g1 0).rows.length) && true) then some (none, [.l (gi g1 0).rows, .i (gi d 1).int, .i (gi d 2).int, .i (gi d 4).int, .i ((gi d 4).int + (gi d 2).int)]) else none) else none)) else (bif ((Nat.beq (gi d 0).rows.length (gi d 0).rows.length) && true) then some (some 0, [.l (gi d 0).rows, .i (gi d 1).int, .i (gi d 2).int, .i (gi d 3).int]) else none))
def stab9 (K : List Kd) (C : List G → Option (List G)) (d : List G) : Option (Option Nat × List G) :=
  (bif (leI (gi d 4).int (gi d 1).int) then (bif (inI ((gi d 3).int + (gi d 2).int)) then none else none) else (bif ((Nat.beq (gi d 0).rows.length (gi d 0).rows.length) && true) then some (some 0, [.l (gi d 0).rows, .i (gi d 1).int, .i (gi d 2).int, .i (gi d 3).int]) else none))
def stab7 (K : List Kd) (C : List G → Option (List G)) (d : List G) : Option (Option Nat × List G) :=
  (bif (ltI (gi d 2).int (gi d 1).int) then (bif (inI (2 * (gi d 2).int)) then (loopB ((Nat.beq (gi d 0).rows.length (gi d 0).rows.length) && true) (LRun (stab9 K C) [.l (gi d 0).rows, .i (gi d 1).int, .i (gi d 2).int, .i 0, .i (2 * (gi d 2).int)]) fun cg4 g4 => (bif (inI ((gi g4 3).int + (gi g4 2).int)) then (bif (ltI ((gi g4 3).int + (gi g4 2).int) (gi g4 1).int) then none else (bif (inI ((gi g4 2).int * 2)) then (bif ((Nat.beq (gi g4 0).rows.length (gi g4 0).rows.length) && true) then some (none, [.l (gi g4 0).rows, .i (gi g4 1).int, .i ((gi g4 2).int * 2)]) else none) else none)) else none)) else none) else some (some 0, [.l (gi d 0).rows]))
def stabF (K : List Kd) (C : List G → Option (List G)) (d : List G) : Option (List G) :=
  (loopB ((Nat.beq (gi d 0).rows.length (gi d 0).rows.length) && true) (LRun (stab2 K C) [.l (gi d 0).rows, .i (gi d 1).int, .i 20, .i 0, .i 20]) fun cg2 g2 => (callB (((Nat.beq (gi g2 0).rows.length (gi g2 0).rows.length) && true) && ((insF K C) [.l (gi g2 0).rows, .i (gi g2 3).int, .i (gi g2 1).int]).isSome) ((insF K C) [.l (gi g2 0).rows, .i (gi g2 3).int, .i (gi g2 1).int]) fun g3 => (loopB ((Nat.beq (gi g2 0).rows.length (gi g3 0).rows.length) && true) (LRun (stab7 K C) [.l (gi g3 0).rows, .i (gi g2 1).int, .i (gi g2 2).int]) fun cg5 g5 => some [.l (gi g5 0).rows])))
def sortF (K : List Kd) (C : List G → Option (List G)) (d : List G) : Option (List G) :=
  (callB (((Nat.beq (gi d 0).rows.length (gi d 0).rows.length) && true) && ((stabF K C) [.l (gi d 0).rows, .i (((gi d 0).rows.length : Nat) : Int)]).isSome) ((stabF K C) [.l (gi d 0).rows, .i (((gi d 0).rows.length : Nat) : Int)]) fun g1 => some [.l (gi g1 0).rows])
theorem getD_mid {α : Type} (l : List α) (x : α) (q : List α) (z : α) (n : Nat) (h : n = l.length) : (l ++ x :: q).getD n z = x := by subst h; simp
theorem set_mid {α : Type} (l : List α) (x y : α) (q : List α) (n : Nat) (h : n = l.length) : (l ++ x :: q).set n y = l ++ y :: q := by subst h; simp
def insA {α : Type} (lt : α → α → Bool) (x : α) : List α → List α
  | [] => [x]
  | y :: p => bif lt x y then y :: insA lt x p else x :: y :: p
def insAll {α : Type} (lt : α → α → Bool) : List α → List α → List α
  | p, [] => p
  | p, x :: r => insAll lt (insA lt x p) r
def sortA {α : Type} (lt : α → α → Bool) (l : List α) : List α := (insAll lt [] l).reverse
theorem insA_length {α : Type} (lt : α → α → Bool) (x : α) : ∀ p, (insA lt x p).length = p.length + 1
  | [] => rfl
  | y :: p => by
    simp only [insA]
    cases lt x y with
    | true => simp [insA_length lt x p]
    | false => simp
theorem insA_all {α : Type} {Q : α → Prop} {lt : α → α → Bool} {x : α} (hx : Q x) : ∀ {p : List α}, (∀ y ∈ p, Q y) → ∀ y ∈ insA lt x p, Q y
  | [], _, y, hy => by simp [insA] at hy; exact hy ▸ hx
  | z :: p, hp, y, hy => by
    simp only [insA] at hy
    cases hl : lt x z with
    | true =>
      rw [hl] at hy
      rcases List.mem_cons.1 hy with rfl | hy
      · exact hp _ List.mem_cons_self
      · exact insA_all hx (fun y hy => hp y (List.mem_cons_of_mem _ hy)) y hy
    | false =>
      rw [hl] at hy
      rcases List.mem_cons.1 hy with rfl | hy
      · exact hx
      · exact hp y hy
theorem insAll_length {α : Type} (lt : α → α → Bool) : ∀ (p r : List α), (insAll lt p r).length = p.length + r.length
  | p, [] => rfl
  | p, x :: r => by simp only [insAll, insAll_length lt, insA_length, List.length_cons]; omega
theorem insAll_all {α : Type} {Q : α → Prop} {lt : α → α → Bool} : ∀ {r p : List α}, (∀ y ∈ p, Q y) → (∀ y ∈ r, Q y) → ∀ y ∈ insAll lt p r, Q y
  | [], _, hp, _ => hp
  | x :: r, p, hp, hr => by
    simp only [insAll]
    exact insAll_all (insA_all (hr x List.mem_cons_self) hp) fun y hy => hr y (List.mem_cons_of_mem _ hy)
theorem sortA_length {α : Type} (lt : α → α → Bool) (l : List α) : (sortA lt l).length = l.length := by simp [sortA, insAll_length]
theorem sortA_all {α : Type} {Q : α → Prop} {lt : α → α → Bool} {l : List α} (h : ∀ y ∈ l, Q y) : ∀ y ∈ sortA lt l, Q y := by
  intro y hy
  exact insAll_all (p := []) (by simp) h y (by simpa [sortA] using hy)
theorem gEta_length : ∀ (K : List Kd) (r : List G), (gEta K r).length = K.length
  | [], _ => rfl
  | k :: K, r => by simp [gEta, gEta_length K]
theorem putG_all {K : List Kd} {r gs : List G} (h : gs.length = K.length) : putG K r 0 gs = gs := by
  simp [putG, h, gNorm_length, List.drop_eq_nil_of_le]
section
variable {K : List Kd} {C : List G → Option (List G)} {Q : List G → Prop} {c : List G → List G → Int}
structure Cmp (K : List Kd) (C : List G → Option (List G)) (Q : List G → Prop) (c : List G → List G → Int) : Prop where
  cmp : ∀ r s, Q r → Q s → C [.l [r], .l [s]] = some [.i (c r s)]
  eta : ∀ r, Q r → gEta K r = r
def ltC (c : List G → List G → Int) (r s : List G) : Bool := ltI (c r s) 0
theorem ins4_runs (hC : Cmp K C Q c) : ∀ (p q : List (List G)) (x : List G) (b i : Int) (j : Nat), (∀ y ∈ p, Q y) → Q x → p.length < 1000000 → j = p.length →
    ∃ m, m ≤ p.length + 1 ∧ Runs (ins4 K C) m [.l (p.reverse ++ x :: q), .i 0, .i b, .i i, .i (j : Int)] 0 [.l ((insA (ltC c) x p).reverse ++ q), .i 0, .i b, .i i]
  | [], q, x, b, i, j, _, _, _, hj => by
    simp only [List.length_nil] at hj
    subst hj
    refine ⟨1, by simp, .stop (Ret.toEq ?_)⟩
    unfold ins4
    (dsimp +instances only [gi0,gis,row1,rows1,int1,str1,bool1])
    refine Ret.neg (by (first|rfl|assumption|(simp only [inI,sl]<;>omega))) (Ret.pos (by (first|rfl|assumption|(simp only [inI,sl]<;>omega))) (Ret.some ?_))
    rfl
  | y :: p, q, x, b, i, j, hp, hx, hl, hj => by
    have hy := hp y List.mem_cons_self
    have e1 : (y :: p).reverse ++ x :: q = (p.reverse ++ [y]) ++ x :: q := by simp
    have e2 : (y :: p).reverse ++ x :: q = p.reverse ++ y :: x :: q := by simp
    simp only [List.length_cons] at hl hj
    have g1 : ((y :: p).reverse ++ x :: q).getD (0 + (j : Int).toNat) [] = x := by rw [e1]; exact getD_mid _ _ _ _ _ (by simp [hj])
    have g2 : ((y :: p).reverse ++ x :: q).getD (0 + ((j : Int) - 1).toNat) [] = y := by rw [e2]; exact getD_mid _ _ _ _ _ (by simp [hj])
    have hlen : ((y :: p).reverse ++ x :: q).length = p.length + q.length + 2 := by simp; omega
    have hcmp := hC.cmp x y hx hy
    cases hlt : ltC c x y with
    | false =>
      refine ⟨1, by simp, .stop (Ret.toEq ?_)⟩
      unfold ins4
      (dsimp +instances only [gi0,gis,row1,rows1,int1,str1,bool1])
      simp only [hlen, g1, g2, hC.eta x hx, hC.eta y hy]
      refine Ret.pos (by (first|rfl|assumption|(simp only [inI,sl]<;>omega))) (Ret.pos (by (first|rfl|assumption|(simp only [inI,sl]<;>omega))) (Ret.pos (by (first|rfl|assumption|(simp only [inI,sl]<;>omega))) (Ret.pos (by (first|rfl|assumption|(simp only [inI,sl]<;>omega))) (Ret.pos (by (first|rfl|assumption|(simp only [inI,sl]<;>omega))) (Ret.pos (by (first|rfl|assumption|(simp only [inI,sl]<;>omega))) (Ret.call (Ret.eq hcmp) ?_))))))
      rintro _ rfl
      (dsimp +instances only [gi0,gis,row1,rows1,int1,str1,bool1])
      refine Ret.neg hlt (Ret.pos (by (first|rfl|assumption|(simp only [inI,sl]<;>omega))) (Ret.some ?_))
      simp [insA, hlt]
    | true =>
      obtain ⟨m, hm, hr⟩ := ins4_runs hC p (y :: q) x b i (j - 1) (fun z hz => hp z (List.mem_cons_of_mem _ hz)) hx (by omega) (by omega)
      refine ⟨m + 1, by simp; omega, .next (Ret.toEq ?_) (by
        have e : (insA (ltC c) x (y :: p)).reverse ++ q = (insA (ltC c) x p).reverse ++ y :: q := by simp [insA, hlt]
        rw [e]; exact hr)⟩
      have s1 : ((y :: p).reverse ++ x :: q).set (0 + (j : Int).toNat) y = p.reverse ++ y :: y :: q := by
        rw [e1, set_mid _ _ _ _ _ (by simp [hj])]; simp
      have s2 : (p.reverse ++ y :: y :: q).set (0 + ((j : Int) - 1).toNat) x = p.reverse ++ x :: y :: q := set_mid _ _ _ _ _ (by simp [hj])
      have hl2 : (p.reverse ++ y :: y :: q).length = p.length + q.length + 2 := by simp; omega
      have hl3 : (p.reverse ++ x :: y :: q).length = p.length + q.length + 2 := by simp; omega
      have ky : y.length = K.length := by rw [← hC.eta y hy, gEta_length]
      have kx : x.length = K.length := by rw [← hC.eta x hx, gEta_length]
      unfold ins4
      (dsimp +instances only [gi0,gis,row1,rows1,int1,str1,bool1])
      simp only [hlen, g1, g2, hC.eta x hx, hC.eta y hy, putG_all ky, putG_all kx, s1, s2, hl2, hl3]
      refine Ret.pos (by (first|rfl|assumption|(simp only [inI,sl]<;>omega))) (Ret.pos (by (first|rfl|assumption|(simp only [inI,sl]<;>omega))) (Ret.pos (by (first|rfl|assumption|(simp only [inI,sl]<;>omega))) (Ret.pos (by (first|rfl|assumption|(simp only [inI,sl]<;>omega))) (Ret.pos (by (first|rfl|assumption|(simp only [inI,sl]<;>omega))) (Ret.pos (by (first|rfl|assumption|(simp only [inI,sl]<;>omega))) (Ret.call (Ret.eq hcmp) ?_))))))
      rintro _ rfl
      (dsimp +instances only [gi0,gis,row1,rows1,int1,str1,bool1])
      refine Ret.pos hlt ?_
      refine Ret.pos (by (first|rfl|assumption|(simp only [inI,sl]<;>omega))) (Ret.pos (by (first|rfl|assumption|(simp only [inI,sl]<;>omega))) (Ret.pos (by (first|rfl|assumption|(simp only [inI,sl]<;>omega))) (Ret.pos (by (first|rfl|assumption|(simp only [inI,sl]<;>omega))) (Ret.pos (by (first|rfl|assumption|(simp only [inI,sl]<;>omega))) (Ret.pos (by (first|rfl|assumption|(simp only [inI,sl]<;>omega))) (Ret.pos (by (first|rfl|assumption|(simp only [inI,sl]<;>omega))) (Ret.pos (by (first|rfl|assumption|(simp only [inI,sl]<;>omega))) (Ret.pos (by (first|rfl|assumption|(simp only [inI,sl]<;>omega))) (Ret.pos (by (first|rfl|assumption|(simp only [inI,sl]<;>omega))) (Ret.pos (by (first|rfl|assumption|(simp only [inI,sl]<;>omega))) (Ret.pos (by (first|rfl|assumption|(simp only [inI,sl]<;>omega))) (Ret.some ?_))))))))))))
      congr
      omega
theorem ins1_runs (hC : Cmp K C Q c) : ∀ (r p : List (List G)) (i n : Nat), (∀ y ∈ p, Q y) → (∀ y ∈ r, Q y) → i = p.length → n = p.length + r.length → n < 100000 →
    ∃ m, m ≤ r.length + 1 ∧ Runs (ins1 K C) m [.l (p.reverse ++ r), .i 0, .i (n : Int), .i (i : Int)] 0 [.l (insAll (ltC c) p r).reverse]
  | [], p, i, n, _, _, hi, hn, hs => by
    refine ⟨1, by simp, .stop (Ret.toEq ?_)⟩
    simp only [List.length_nil] at hn
    unfold ins1
    (dsimp +instances only [gi0,gis,row1,rows1,int1,str1,bool1])
    refine Ret.neg (by (first|rfl|assumption|(simp only [inI,sl]<;>omega))) (Ret.some ?_)
    simp [insAll]
  | x :: r, p, i, n, hp, hr, hi, hn, hs => by
    simp only [List.length_cons] at hn
    obtain ⟨m1, hm1, h1⟩ := ins4_runs hC p r x (n : Int) (i : Int) i hp (hr x List.mem_cons_self) (by omega) hi
    obtain ⟨m, hm, h2⟩ := ins1_runs hC r (insA (ltC c) x p) (i + 1) n (insA_all (hr x List.mem_cons_self) hp) (fun y hy => hr y (List.mem_cons_of_mem _ hy)) (by rw [insA_length, hi]) (by rw [insA_length]; omega) hs
    refine ⟨m + 1, by simp; omega, .next (Ret.toEq ?_) h2⟩
    unfold ins1
    (dsimp +instances only [gi0,gis,row1,rows1,int1,str1,bool1])
    refine Ret.pos (by (first|rfl|assumption|(simp only [inI,sl]<;>omega))) (Ret.loop (P := fun x g => g = _) ⟨m1, 0, _, h1, by omega, rfl⟩ (by (first|rfl|assumption|(simp only [inI,sl]<;>omega))) ?_)
    rintro _ _ rfl
    (dsimp +instances only [gi0,gis,row1,rows1,int1,str1,bool1])
    refine Ret.pos (by (first|rfl|assumption|(simp only [inI,sl]<;>omega))) (Ret.pos (by (first|rfl|assumption|(simp only [inI,sl]<;>omega))) (Ret.some ?_))
    rfl
theorem insF_eq (hC : Cmp K C Q c) (rows : List (List G)) (hr : ∀ y ∈ rows, Q y) (hn : rows.length < 100000) : insF K C [.l rows, .i 0, .i (rows.length : Int)] = some [.l (sortA (ltC c) rows)] := by
  refine Ret.toEq ?_
  unfold insF
  (dsimp +instances only [gi0,gis,row1,rows1,int1,str1,bool1])
  refine Ret.pos (by (first|rfl|assumption|(simp only [inI,sl]<;>omega))) ?_
  cases rows with
  | nil =>
    refine Ret.loop (P := fun x g => g = [.l []]) ⟨1, 0, _, .stop (Ret.toEq (?_ : Ret _ (fun g => g = (some 0, [G.l []])))), by omega, rfl⟩ (by (first|rfl|assumption|(simp only [inI,sl]<;>omega))) ?_
    · unfold ins1
      (dsimp +instances only [gi0,gis,row1,rows1,int1,str1,bool1])
      exact Ret.neg (by (first|rfl|assumption|(simp only [inI,sl]<;>omega))) (Ret.some rfl)
    · rintro _ _ rfl
      exact Ret.some rfl
  | cons x r =>
    simp only [List.length_cons] at hn
    obtain ⟨m, hm, h⟩ := ins1_runs hC r [x] 1 (r.length + 1) (by simpa using hr x List.mem_cons_self) (fun y hy => hr y (List.mem_cons_of_mem _ hy)) rfl (by simp; omega) (by omega)
    refine Ret.loop (P := fun y g => g = _) ⟨m, 0, _, h, by omega, rfl⟩ (by (first|rfl|assumption|(simp only [inI,sl]<;>omega))) ?_
    rintro _ _ rfl
    exact Ret.some rfl
theorem insF_none (rows : List (List G)) (a b : Nat) (h : b ≤ a) (hn : a < 100000) : insF K C [.l rows, .i (a : Int), .i (b : Int)] = some [.l rows] := by
  refine Ret.toEq ?_
  unfold insF
  (dsimp +instances only [gi0,gis,row1,rows1,int1,str1,bool1])
  refine Ret.pos (by (first|rfl|assumption|(simp only [inI,sl]<;>omega))) ?_
  refine Ret.loop (P := fun x g => g = [.l rows]) ⟨1, 0, _, .stop (Ret.toEq (?_ : Ret _ (fun g => g = (some 0, [G.l rows])))), by omega, rfl⟩ (by (first|rfl|assumption|(simp only [inI,sl]<;>omega))) ?_
  · unfold ins1
    (dsimp +instances only [gi0,gis,row1,rows1,int1,str1,bool1])
    exact Ret.neg (by (first|rfl|assumption|(simp only [inI,sl]<;>omega))) (Ret.some rfl)
  · rintro _ _ rfl
    exact Ret.some rfl
theorem stabF_eq (hC : Cmp K C Q c) (rows : List (List G)) (hr : ∀ y ∈ rows, Q y) (hn : rows.length ≤ 20) : stabF K C [.l rows, .i (rows.length : Int)] = some [.l (sortA (ltC c) rows)] := by
  refine Ret.toEq ?_
  unfold stabF
  (dsimp +instances only [gi0,gis,row1,rows1,int1,str1,bool1])
  have hS := insF_eq hC rows hr (by omega)
  have hlen := sortA_length (ltC c) rows
  have h7 : ∀ rows' : List (List G), rows'.length = rows.length → RetL (stab7 K C) [.l rows', .i (rows.length : Int), .i 20] fun _ g => g = [.l rows'] := by
    intro rows' hl
    refine RetL.stop (x := 0) (Ret.toEq ?_) rfl
    unfold stab7
    (dsimp +instances only [gi0,gis,row1,rows1,int1,str1,bool1])
    exact Ret.neg (by (first|rfl|assumption|(simp only [inI,sl]<;>omega))) (Ret.some rfl)
  by_cases h20 : rows.length = 20
  · have h1 : stab2 K C [.l rows, .i (rows.length : Int), .i 20, .i 0, .i 20] = some (none, [.l (sortA (ltC c) rows), .i (rows.length : Int), .i 20, .i 20, .i 40]) := by
      refine Ret.toEq ?_
      unfold stab2
      (dsimp +instances only [gi0,gis,row1,rows1,int1,str1,bool1])
      have hS : insF K C [.l rows, .i 0, .i 20] = some [.l (sortA (ltC c) rows)] := by rw [h20] at hS; exact hS
      refine Ret.pos (by (first|rfl|assumption|(simp only [inI,sl]<;>omega))) (Ret.callb (Ret.eq hS) (by (first|rfl|assumption|(simp only [inI,sl]<;>omega))) ?_)
      rintro _ rfl
      (dsimp +instances only [gi0,gis,row1,rows1,int1,str1,bool1])
      exact Ret.pos (by (first|rfl|assumption|(simp only [inI,sl]<;>omega))) (Ret.pos (by (first|rfl|assumption|(simp only [inI,sl]<;>omega))) (Ret.some rfl))
    have h2 : stab2 K C [.l (sortA (ltC c) rows), .i (rows.length : Int), .i 20, .i 20, .i 40] = some (some 0, [.l (sortA (ltC c) rows), .i (rows.length : Int), .i 20, .i 20]) := by
      refine Ret.toEq ?_
      unfold stab2
      (dsimp +instances only [gi0,gis,row1,rows1,int1,str1,bool1])
      exact Ret.neg (by (first|rfl|assumption|(simp only [inI,sl]<;>omega))) (Ret.pos (by (first|rfl|assumption|(simp only [inI,sl]<;>omega))) (Ret.some rfl))
    refine Ret.loop (P := fun x g => g = _) ⟨2, 0, _, .next h1 (.stop h2), by omega, rfl⟩ (by (first|rfl|assumption|(simp only [inI,sl]<;>omega))) ?_
    rintro _ _ rfl
    (dsimp +instances only [gi0,gis,row1,rows1,int1,str1,bool1])
    have hE : insF K C [.l (sortA (ltC c) rows), .i 20, .i (rows.length : Int)] = some [.l (sortA (ltC c) rows)] := by
      rw [h20]; exact insF_none _ 20 20 (by omega) (by omega)
    refine Ret.callb (Ret.eq hE) (by (first|rfl|assumption|(simp only [inI,sl]<;>omega))) ?_
    rintro _ rfl
    (dsimp +instances only [gi0,gis,row1,rows1,int1,str1,bool1])
    refine Ret.loop (h7 _ hlen) (by (first|rfl|assumption|(simp only [inI,sl]<;>omega))) ?_
    rintro _ _ rfl
    exact Ret.some rfl
  · have h1 : stab2 K C [.l rows, .i (rows.length : Int), .i 20, .i 0, .i 20] = some (some 0, [.l rows, .i (rows.length : Int), .i 20, .i 0]) := by
      refine Ret.toEq ?_
      unfold stab2
      (dsimp +instances only [gi0,gis,row1,rows1,int1,str1,bool1])
      exact Ret.neg (by (first|rfl|assumption|(simp only [inI,sl]<;>omega))) (Ret.pos (by (first|rfl|assumption|(simp only [inI,sl]<;>omega))) (Ret.some rfl))
    refine Ret.loop (P := fun x g => g = _) ⟨1, 0, _, .stop h1, by omega, rfl⟩ (by (first|rfl|assumption|(simp only [inI,sl]<;>omega))) ?_
    rintro _ _ rfl
    (dsimp +instances only [gi0,gis,row1,rows1,int1,str1,bool1])
    refine Ret.callb (Ret.eq hS) (by (first|rfl|assumption|(simp only [inI,sl]<;>omega))) ?_
    rintro _ rfl
    (dsimp +instances only [gi0,gis,row1,rows1,int1,str1,bool1])
    refine Ret.loop (h7 _ hlen) (by (first|rfl|assumption|(simp only [inI,sl]<;>omega))) ?_
    rintro _ _ rfl
    exact Ret.some rfl
theorem sortF_eq (hC : Cmp K C Q c) (rows : List (List G)) (hr : ∀ y ∈ rows, Q y) (hn : rows.length ≤ 20) : sortF K C [.l rows] = some [.l (sortA (ltC c) rows)] := by
  refine Ret.toEq ?_
  unfold sortF
  (dsimp +instances only [gi0,gis,row1,rows1,int1,str1,bool1])
  refine Ret.callb (Ret.eq (stabF_eq hC rows hr hn)) (by (first|rfl|assumption|(simp only [inI,sl]<;>omega))) ?_
  rintro _ rfl
  exact Ret.some rfl
end
end Go.AL

namespace Go.AL
open Go
section
variable {K : List Kd} {Z : List G} {Q : List G → Prop}
structure Kds (K : List Kd) (Q : List G → Prop) : Prop where
  eta : ∀ r, Q r → gEta K r = r
structure Eqv (K : List Kd) (C : List G → Option (List G)) (Q : List G → Prop) (e : List G → List G → Bool) : Prop where
  cmp : ∀ r s, Q r → Q s → C [.l [r], .l [s]] = some [.t (e r s)]
  eta : ∀ r, Q r → gEta K r = r
variable {C : List G → Option (List G)} {ee : List G → List G → Bool}
end
end Go.AL

namespace Go.AL
open Go
section
variable {K : List Kd} {Q : List G → Prop}
end
end Go.AL

namespace Go.AL
open Go
section
variable {K : List Kd} {Z : List G} {Q : List G → Prop} {C : List G → Option (List G)} {cp : G → G} {cap : G} {p : List G → Bool}
structure Prd (K : List Kd) (C : List G → Option (List G)) (cp : G → G) (cap : G) (Q : List G → Prop) (p : List G → Bool) : Prop where
  cmp : ∀ r, Q r → C [.l [r], cap] = some [.t (p r)]
  eta : ∀ r, Q r → gEta K r = r
  fix : cp cap = cap
end
section
variable {K : List Kd} {Z : List G}
end
end Go.AL

namespace Go.AL
open Go
section sort
variable {α : Type} {lt : α → α → Bool}
structure Lin (lt : α → α → Bool) (Q : α → Prop) : Prop where
  tr : ∀ a b c, Q a → Q b → Q c → lt a b = false → lt b c = false → lt a c = false
  asy : ∀ a b, Q a → Q b → lt a b = true → lt b a = false
variable {Q : α → Prop}
end sort
end Go.AL

namespace Go.AL
open Go
section
variable {α : Type} (f : α → Int)
end
section
variable {α : Type} {e : α → α → Bool}
end
end Go.AL

namespace Go.AL
open Go
section
variable {K : List Kd} {C : List G → Option (List G)} {Q : List G → Prop} {c : List G → List G → Int}
end
end Go.AL

namespace Go.AL
open Go Go.Proofs
theorem adj_of_pairwise {R : List G → List G → Prop} {l : List (List G)} (h : l.Pairwise R) (k : Nat) (hk : 1 ≤ k) (hl : k < l.length) : R (l.getD (k - 1) []) (l.getD k []) := by
  have := List.pairwise_iff_getElem.1 h (k - 1) k (by omega) hl (by omega)
  simpa [List.getD_eq_getElem?_getD, hl, show k - 1 < l.length by omega] using this
theorem find_inv {st : List G → Option (Option Nat × List G)} (mk : Nat → List G) (rows : List (List G)) (p : List G → Bool) (hn : rows.length < 999999)
    (hstep : ∀ i x, i < rows.length → rows.getD i [] = x → x ∈ rows → Ret (st (mk i)) fun o => o = bif p x then (some 0, [.i (i : Int)]) else (none, mk (i + 1))) (hfin : Ret (st (mk rows.length)) fun o => o = (some 1, [])) :
    RetL st (mk 0) fun c g => (c = 0 ∧ ∃ q1 x q2, rows = q1 ++ x :: q2 ∧ (∀ y ∈ q1, p y = false) ∧ p x = true ∧ g = [.i (q1.length : Int)]) ∨ c = 1 ∧ g = [] ∧ ∀ y ∈ rows, p y = false := by
  refine (range_inv (σ := Unit) (fun _ i => mk i) rows (fun _ => (1, [])) (fun _ i => ∀ y ∈ rows.take i, p y = false) (fun c g => c = 0 ∧ ∃ q1 x q2, rows = q1 ++ x :: q2 ∧ (∀ y ∈ q1, p y = false) ∧ p x = true ∧ g = [.i (q1.length : Int)]) () hn (by simp) ?_ (fun _ _ => hfin)).mono ?_
  · rintro _ i x hI hi hx hm ht
    refine (hstep i x hi hx hm).mono ?_
    rintro _ rfl
    cases hp : p x with
    | true =>
      refine .inr ⟨0, _, rfl, rfl, rows.take i, x, rows.drop (i + 1), ?_, hI, hp, by simp; omega⟩
      rw [← hx, List.getD_eq_getElem?_getD, List.getElem?_eq_getElem hi]
      simp
    | false =>
      refine .inl ⟨(), rfl, ?_⟩
      rw [ht]
      intro y hy
      rcases List.mem_append.1 hy with hy | hy
      · exact hI y hy
      · simp at hy
        rw [hy]
        exact hp
  · rintro c g (⟨_, h, rfl, rfl⟩ | h)
    · exact .inr ⟨rfl, rfl, by simpa using h⟩
    · exact .inl h
section
variable {C : List G → Option (List G)} {Q : List G → Prop} {c : List G → List G → Int}
theorem Lin.mono {α : Type} {lt : α → α → Bool} {Q Q' : α → Prop} (h : Lin lt Q) (hq : ∀ a, Q' a → Q a) : Lin lt Q' :=
  ⟨fun a b d ha hb hd => h.tr a b d (hq a ha) (hq b hb) (hq d hd), fun a b ha hb => h.asy a b (hq a ha) (hq b hb)⟩
def CmpS (C : List G → Option (List G)) (Q : List G → Prop) (c : List G → List G → Int) : Prop := ∀ r s, Q r → Q s → ∃ v, C [.l [r], .l [s]] = some [.i v] ∧ (v < 0 ↔ c r s < 0)
theorem cmpZ_eq (hC : CmpS C Q c) {r s : List G} (hr : Q r) (hs : Q s) : decide (cmpZ C r s < 0) = ltC c r s := by
  obtain ⟨v, h, hv⟩ := hC r s hr hs
  unfold cmpZ ltC
  rw [h, ltI_eq]
  show decide (v < 0) = _
  rw [Bool.eq_iff_iff, decide_eq_true_eq, decide_eq_true_eq]
  exact hv
theorem ltOf_num (hC : CmpS C Q c) {rows : List (List G)} (hr : ∀ y ∈ rows, Q y) (h0 : rows ≠ []) (i j : Nat) : ltOf (numC C rows) i j = ltC c (elS rows i) (elS rows j) :=
  cmpZ_eq hC (hr _ (elS_mem h0 i)) (hr _ (elS_mem h0 j))
theorem sortOK_of (hC : CmpS C Q c) (hL : Lin (ltC c) Q) {rows : List (List G)} (hr : ∀ y ∈ rows, Q y) (h0 : rows ≠ []) (hn : rows.length < 100000) : SortOK C rows := by
  have hq := fun i => hr _ (elS_mem h0 i)
  refine ⟨fun r h s h' => by obtain ⟨v, e, _⟩ := hC r s (hr r h) (hr s h'); exact ⟨v, e⟩, ⟨fun x => ?_, fun x y z => ?_, fun x y z => ?_⟩, by omega⟩
  · rw [ltOf_num hC hr h0]
    cases h : ltC c (elS rows x) (elS rows x) with
    | false => rfl
    | true => rw [hL.asy _ _ (hq x) (hq x) h] at h; cases h
  · rw [ltOf_num hC hr h0, ltOf_num hC hr h0, ltOf_num hC hr h0]
    intro h1 h2
    cases h : ltC c (elS rows x) (elS rows z) with
    | true => rfl
    | false =>
      have := hL.tr _ _ _ (hq x) (hq z) (hq y) h (hL.asy _ _ (hq y) (hq z) h2)
      rw [this] at h1
      cases h1
  · rw [ltOf_num hC hr h0, ltOf_num hC hr h0, ltOf_num hC hr h0]
    exact hL.tr _ _ _ (hq x) (hq y) (hq z)
theorem sortG_some (hC : CmpS C Q c) (hL : Lin (ltC c) Q) (rows : List (List G)) (hr : ∀ y ∈ rows, Q y) (hn : rows.length < 100000) :
    ∃ out, sortG C [.l rows] = some [.l out] ∧ out.Perm rows ∧ out.Pairwise fun a b => ltC c b a = false := by
  unfold sortG
  have e : (gi [G.l rows] 0).rows = rows := rfl
  rw [e]
  by_cases h0 : rows = []
  · rw [if_pos h0, h0]
    exact ⟨[], rfl, List.Perm.refl _, List.Pairwise.nil⟩
  · have hok := sortOK_of hC hL hr h0 hn
    rw [if_neg h0, if_pos hok]
    have hp := sortL_perm hok
    refine ⟨_, rfl, hp, ?_⟩
    refine List.Pairwise.imp_of_mem ?_ (sortL_sorted hok)
    intro a b h1 h2 h
    rw [← cmpZ_eq hC (hr b (hp.mem_iff.1 h2)) (hr a (hp.mem_iff.1 h1)), decide_eq_false_iff_not]
    exact h
end
end Go.AL

namespace Go.AL
open Go
noncomputable abbrev rLo (r : List G) : Int := (gi r 0).int
noncomputable abbrev rHi (r : List G) : Int := (gi r 1).int
def IsR (r : List G) : Prop := r = [.i (rLo r), .i (rHi r)] ∧ rLo r < rHi r
def memR (l : List (List G)) (n : Int) : Prop := ∃ r ∈ l, rLo r ≤ n ∧ n < rHi r
def CanR (l : List (List G)) : Prop := (∀ r ∈ l, IsR r) ∧ l.Pairwise fun r s => rHi r < rLo s
theorem isR_mk {a b : Int} (h : a < b) : IsR [.i a, .i b] := ⟨rfl, h⟩
theorem isR_eta {r : List G} (h : IsR r) : gEta [.int .i64, .int .i64] r = r := by
  rw [h.1]
  rfl
theorem memR_nil (n : Int) : ¬ memR [] n := by
  rintro ⟨r, h, _⟩
  cases h
theorem memR_cons (r : List G) (l : List (List G)) (n : Int) : memR (r :: l) n ↔ (rLo r ≤ n ∧ n < rHi r) ∨ memR l n := by
  constructor
  · rintro ⟨s, hs, h⟩
    rcases List.mem_cons.1 hs with rfl | hs
    · exact .inl h
    · exact .inr ⟨s, hs, h⟩
  · rintro (h | ⟨s, hs, h⟩)
    · exact ⟨r, List.mem_cons_self, h⟩
    · exact ⟨s, List.mem_cons_of_mem _ hs, h⟩
theorem memR_append (a b : List (List G)) (n : Int) : memR (a ++ b) n ↔ memR a n ∨ memR b n := by
  constructor
  · rintro ⟨s, hs, h⟩
    rcases List.mem_append.1 hs with hs | hs
    · exact .inl ⟨s, hs, h⟩
    · exact .inr ⟨s, hs, h⟩
  · rintro (⟨s, hs, h⟩ | ⟨s, hs, h⟩)
    · exact ⟨s, List.mem_append_left _ hs, h⟩
    · exact ⟨s, List.mem_append_right _ hs, h⟩
theorem memR_one (r : List G) (n : Int) : memR [r] n ↔ rLo r ≤ n ∧ n < rHi r := by
  rw [memR_cons]
  exact ⟨fun h => h.elim id fun h => (memR_nil n h).elim, .inl⟩
theorem memR_perm {a b : List (List G)} (h : a.Perm b) (n : Int) : memR a n ↔ memR b n :=
  ⟨fun ⟨r, h1, h2⟩ => ⟨r, h.mem_iff.1 h1, h2⟩, fun ⟨r, h1, h2⟩ => ⟨r, h.mem_iff.2 h1, h2⟩⟩
theorem canR_nil : CanR [] := ⟨by simp, List.Pairwise.nil⟩
theorem canR_cons {r : List G} {l : List (List G)} : CanR (r :: l) ↔ IsR r ∧ (∀ s ∈ l, rHi r < rLo s) ∧ CanR l := by
  unfold CanR
  rw [List.pairwise_cons]
  constructor
  · rintro ⟨h1, h2, h3⟩
    exact ⟨h1 r List.mem_cons_self, h2, fun s hs => h1 s (List.mem_cons_of_mem _ hs), h3⟩
  · rintro ⟨h1, h2, h3, h4⟩
    refine ⟨fun s hs => ?_, h2, h4⟩
    rcases List.mem_cons.1 hs with rfl | hs
    · exact h1
    · exact h3 s hs
theorem canR_snoc {r : List G} {l : List (List G)} : CanR (l ++ [r]) ↔ CanR l ∧ (∀ s ∈ l, rHi s < rLo r) ∧ IsR r := by
  unfold CanR
  rw [List.pairwise_append]
  constructor
  · rintro ⟨h1, h2, h3, h4⟩
    exact ⟨⟨fun s hs => h1 s (List.mem_append_left _ hs), h2⟩, fun s hs => h4 s hs r (by simp), h1 r (by simp)⟩
  · rintro ⟨⟨h1, h2⟩, h3, h4⟩
    refine ⟨fun s hs => ?_, h2, by simp, fun a ha b hb => ?_⟩
    · rcases List.mem_append.1 hs with hs | hs
      · exact h1 s hs
      · rw [List.mem_singleton.1 hs]
        exact h4
    · rw [List.mem_singleton.1 hb]
      exact h3 a ha
theorem canR_one {l : List (List G)} (h : CanR l) {r s : List G} (hr : r ∈ l) (hs : s ∈ l) {n : Int} (h1 : rLo r ≤ n) (h2 : n ≤ rHi r) (h3 : rLo s ≤ n) (h4 : n < rHi s) : r = s := by
  induction l with
  | nil => cases hr
  | cons a l ih =>
    obtain ⟨a1, a2, a3⟩ := canR_cons.1 h
    rcases List.mem_cons.1 hr with e | hr'
    · rcases List.mem_cons.1 hs with e' | hs'
      · rw [e, e']
      · have := a2 s hs'
        rw [← e] at this
        omega
    · rcases List.mem_cons.1 hs with e' | hs'
      · have := a2 r hr'
        rw [← e'] at this
        omega
      · exact ih a3 hr' hs'
theorem canR_next {l : List (List G)} (h : CanR l) {r : List G} (hr : r ∈ l) : ¬ memR l (rHi r) ∧ ¬ memR l (rLo r - 1) := by
  have hR := h.1 r hr
  refine ⟨?_, ?_⟩
  · rintro ⟨s, hs, h1, h2⟩
    have e := canR_one h hr hs (n := rHi r) (by have := hR.2; omega) (Int.le_refl _) h1 h2
    rw [e] at h2
    omega
  · rintro ⟨s, hs, h1, h2⟩
    have e := canR_one h hs hr (n := rLo r) (by omega) (by omega) (Int.le_refl _) hR.2
    rw [e] at h1
    omega
theorem canR_run {l : List (List G)} (h : CanR l) {a b : Int} (hab : a < b) (hm : ∀ n, a ≤ n → n < b → memR l n) : ∃ r ∈ l, rLo r ≤ a ∧ b ≤ rHi r := by
  obtain ⟨r, hr, h1, h2⟩ := hm a (Int.le_refl _) hab
  refine ⟨r, hr, h1, Int.not_lt.1 fun hlt => ?_⟩
  exact (canR_next h hr).1 (hm _ (by omega) hlt)
/-! ### Rows put together -/
theorem snoc_last (init : List (List G)) (b : List G) : (init ++ [b]).length - 1 = init.length ∧ (init ++ [b]).getD init.length [] = b ∧ ∀ c, (init ++ [b]).set init.length c = init ++ [c] := by
  refine ⟨by simp, by simp [List.getD_eq_getElem?_getD], fun c => by simp⟩
theorem canR_grow {init : List (List G)} {b x : List G} (h : CanR (init ++ [b])) (hx : IsR x) (h1 : rLo b ≤ rLo x) (h2 : rLo x ≤ rHi b) {m : Int} (hm : m = max (rHi b) (rHi x)) :
    CanR (init ++ [[.i (rLo b), .i m]]) ∧ ∀ n, memR (init ++ [[.i (rLo b), .i m]]) n ↔ memR (init ++ [b]) n ∨ (rLo x ≤ n ∧ n < rHi x) := by
  obtain ⟨h3, h4, h5⟩ := canR_snoc.1 h
  have q1 := h5.2
  have q2 := hx.2
  refine ⟨canR_snoc.2 ⟨h3, h4, isR_mk (by omega)⟩, fun n => ?_⟩
  rw [memR_append, memR_append, memR_one, memR_one]
  have e1 : rLo [.i (rLo b), .i m] = rLo b := rfl
  have e2 : rHi [.i (rLo b), .i m] = m := rfl
  rw [e1, e2]
  constructor
  · rintro (h | h)
    · exact .inl (.inl h)
    · by_cases hn : n < rHi b
      · exact .inl (.inr ⟨h.1, hn⟩)
      · exact .inr ⟨by omega, by omega⟩
  · rintro ((h | h) | h)
    · exact .inl h
    · exact .inr ⟨h.1, by omega⟩
    · exact .inr ⟨by omega, by omega⟩
/-! ### Rows without others -/
structure CutI (out : List (List G)) (a b : Int) (os : List (List G)) (ps : List (List G)) (f : Int) : Prop where
  low : a ≤ f
  at_ : f = a ∨ ∃ o ∈ os, f = rHi o
  past : ∀ o ∈ os, rHi o ≤ f ∨ b ≤ rLo o
  mem : ∀ n, memR ps n ↔ a ≤ n ∧ n < f ∧ n < b ∧ ¬ memR os n
  can : CanR (out ++ ps)
  gap : ∀ s ∈ out ++ ps, rHi s < f
  many : ps.length ≤ os.length
theorem cutI_start {out : List (List G)} {a b : Int} (h : CanR out) (hg : ∀ s ∈ out, rHi s < a) : CutI out a b [] [] a :=
  ⟨Int.le_refl _, .inl rfl, by simp, fun n => ⟨fun h => (memR_nil n h).elim, fun h => by omega⟩, by simpa using h, by simpa using hg, Nat.le_refl _⟩
theorem memR_snoc (os : List (List G)) (o : List G) (n : Int) : memR (os ++ [o]) n ↔ memR os n ∨ (rLo o ≤ n ∧ n < rHi o) := by
  rw [memR_append, memR_one]
theorem cutI_skip {out : List (List G)} {a b : Int} {os ps : List (List G)} {f : Int} {o : List G} (h : CutI out a b os ps f) (ho : IsR o) (hos : ∀ s ∈ os, rHi s < rLo o) (hs : rHi o ≤ f ∨ b ≤ rLo o) : CutI out a b (os ++ [o]) ps f := by
  refine ⟨h.low, h.at_.imp id (fun ⟨s, hs, e⟩ => ⟨s, List.mem_append_left _ hs, e⟩), fun s hs' => ?_, fun n => ?_, h.can, h.gap, by have := h.many; simp; omega⟩
  · rcases List.mem_append.1 hs' with h' | h'
    · exact h.past s h'
    · rw [List.mem_singleton.1 h']
      exact hs
  · rw [h.mem n, memR_snoc]
    have q := ho.2
    constructor
    · rintro ⟨h1, h2, h3, h4⟩
      refine ⟨h1, h2, h3, fun h5 => ?_⟩
      rcases h5 with h5 | ⟨h5, h6⟩
      · exact h4 h5
      · rcases hs with hs | hs
        · rcases h.at_ with e | ⟨s, hs', e⟩
          · omega
          · have := hos s hs'
            omega
        · omega
    · rintro ⟨h1, h2, h3, h4⟩
      exact ⟨h1, h2, h3, fun h5 => h4 (.inl h5)⟩
theorem cutI_left {out : List (List G)} {a b : Int} {os ps : List (List G)} {f : Int} {o : List G} (h : CutI out a b os ps f) (ho : IsR o) (hb : rLo o < b) (hf : f < rLo o) : CutI out a b (os ++ [o]) (ps ++ [[.i f, .i (rLo o)]]) (rHi o) := by
  have q := ho.2
  have hl := h.low
  refine ⟨by omega, .inr ⟨o, by simp, rfl⟩, fun s hs' => ?_, fun n => ?_, ?_, ?_, by have := h.many; simp; omega⟩
  · rcases List.mem_append.1 hs' with h' | h'
    · rcases h.past s h' with h' | h'
      · exact .inl (by omega)
      · exact .inr h'
    · rw [List.mem_singleton.1 h']
      exact .inl (Int.le_refl _)
  · rw [memR_snoc, memR_snoc, h.mem n]
    have e1 : rLo [.i f, .i (rLo o)] = f := rfl
    have e2 : rHi [.i f, .i (rLo o)] = rLo o := rfl
    rw [e1, e2]
    constructor
    · rintro (⟨h1, h2, h3, h4⟩ | ⟨h1, h2⟩)
      · refine ⟨h1, by omega, h3, fun h5 => ?_⟩
        rcases h5 with h5 | h5
        · exact h4 h5
        · omega
      · refine ⟨by omega, by omega, by omega, fun h5 => ?_⟩
        rcases h5 with ⟨s, hs, h6, h7⟩ | h5
        · rcases h.past s hs with h' | h' <;> omega
        · omega
    · rintro ⟨h1, h2, h3, h4⟩
      by_cases hn : n < f
      · exact .inl ⟨h1, hn, h3, fun h5 => h4 (.inl h5)⟩
      · refine .inr ⟨by omega, Int.not_le.1 fun hle => h4 (.inr ⟨hle, h2⟩)⟩
  · rw [← List.append_assoc]
    exact canR_snoc.2 ⟨h.can, fun s hs => h.gap s hs, isR_mk hf⟩
  · intro s hs
    rw [← List.append_assoc] at hs
    rcases List.mem_append.1 hs with hs | hs
    · have := h.gap s hs
      omega
    · rw [List.mem_singleton.1 hs]
      exact q
theorem cutI_none {out : List (List G)} {a b : Int} {os ps : List (List G)} {f : Int} {o : List G} (h : CutI out a b os ps f) (ho : IsR o) (hos : ∀ s ∈ os, rHi s < rLo o) (h1 : f < rHi o) (hf : rLo o ≤ f) : CutI out a b (os ++ [o]) ps (rHi o) := by
  have hl := h.low
  have hfa : f = a := by
    rcases h.at_ with e | ⟨s, hs, e⟩
    · exact e
    · have := hos s hs
      omega
  refine ⟨by omega, .inr ⟨o, by simp, rfl⟩, fun s hs' => ?_, fun n => ?_, h.can, fun s hs => ?_, by have := h.many; simp; omega⟩
  · rcases List.mem_append.1 hs' with h' | h'
    · rcases h.past s h' with h' | h'
      · exact .inl (by omega)
      · exact .inr h'
    · rw [List.mem_singleton.1 h']
      exact .inl (Int.le_refl _)
  · rw [memR_snoc, h.mem n]
    constructor
    · rintro ⟨h1, h2, _⟩
      omega
    · rintro ⟨h1, h2, h3, h4⟩
      exact (h4 (.inr ⟨by omega, h2⟩)).elim
  · have := h.gap s hs
    omega
theorem cutI_end {out : List (List G)} {a b : Int} {os ps : List (List G)} {f : Int} (h : CutI out a b os ps f) (hf : f < b) : CanR (out ++ (ps ++ [[.i f, .i b]])) ∧ (∀ n, memR (ps ++ [[.i f, .i b]]) n ↔ a ≤ n ∧ n < b ∧ ¬ memR os n) := by
  have hl := h.low
  refine ⟨?_, fun n => ?_⟩
  · rw [← List.append_assoc]
    exact canR_snoc.2 ⟨h.can, fun s hs => h.gap s hs, isR_mk hf⟩
  · rw [memR_snoc, h.mem n]
    have e1 : rLo [.i f, .i b] = f := rfl
    have e2 : rHi [.i f, .i b] = b := rfl
    rw [e1, e2]
    constructor
    · rintro (⟨h1, h2, h3, h4⟩ | ⟨h1, h2⟩)
      · exact ⟨h1, h3, h4⟩
      · refine ⟨by omega, h2, ?_⟩
        rintro ⟨s, hs, h6, h7⟩
        rcases h.past s hs with h' | h' <;> omega
    · rintro ⟨h1, h2, h3⟩
      by_cases hn : n < f
      · exact .inl ⟨h1, hn, h2, h3⟩
      · exact .inr ⟨by omega, h2⟩
theorem cutI_stop {out : List (List G)} {a b : Int} {os ps : List (List G)} {f : Int} (h : CutI out a b os ps f) (hf : b ≤ f) : CanR (out ++ ps) ∧ (∀ n, memR ps n ↔ a ≤ n ∧ n < b ∧ ¬ memR os n) := by
  refine ⟨h.can, fun n => ?_⟩
  rw [h.mem n]
  constructor
  · rintro ⟨h1, h2, h3, h4⟩
    exact ⟨h1, h3, h4⟩
  · rintro ⟨h1, h2, h3⟩
    exact ⟨h1, by omega, h2, h3⟩
end Go.AL
