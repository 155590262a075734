/-
 What is proved here: the library's sort of a slice by a function that compares, as a function on data (by the kit's own contracts). No program in sight; what is asked is that the library's text lies in the program.
-/
import Derived.Test.YthjhjbgilbaknaaGreatDoorMG
import Derived.Shelf.SlSortCmp.NoneTotal
set_option linter.unusedSimpArgs false
set_option linter.unusedVariables false
set_option linter.unusedSectionVars false
namespace Go.AL
open Go Go.Proofs
def bare (w : World) : Env := { w := w, H := [], loc := [], X := ⟨fun _ => False, fun _ => False⟩ }
def cmpZ (C : List G → Option (List G)) (r s : List G) : Int := (gi ((C [.l [r], .l [s]]).getD []) 0).int
def elS (rows : List (List G)) (i : Nat) : List G := rows.getD i (rows.headD [])
abbrev numC (C : List G → Option (List G)) (rows : List (List G)) (i j : Nat) : Int := cmpZ C (elS rows i) (elS rows j)
structure SortOK (C : List G → Option (List G)) (rows : List (List G)) : Prop where
 ans : ∀ r ∈ rows, ∀ s ∈ rows, ∃ n, C [.l [r], .l [s]] = some [.i n]
 swo : Go.Sort.SWO (ltOf (numC C rows))
 small : rows.length < 4611686018427387904
section
variable {P : Program} {ρ : Go.Shelf.Ren}
end
end Go.AL
