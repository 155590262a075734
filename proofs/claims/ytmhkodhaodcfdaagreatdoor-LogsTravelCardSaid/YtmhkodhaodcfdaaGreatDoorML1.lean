/-
 What is proved here: functions of the program as functions on data. No condition.
-/
import Derived.Test.YtmhkodhaodcfdaaGreatDoorML0
set_option linter.all false
namespace Go.Proofs.jL
open Go Go.AL Go.Proofs
noncomputable section
end
end Go.Proofs.jL
