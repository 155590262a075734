/-
  What is proved here: whatever numbers pileup's law LogsCounted is called at, it answers true, and the slice reads as before. Conditions: those of the given card alone (the listed variables as the program's text lays them).
-/
import Derived.Test.YtpfhjchbegdgdaaGreatDoorTie
import Derived.Test.YtpfhjchbegdgdaaGreatDoorCards
import Derived.Test.YtpfhjchbegdgdaaGreatDoorMJ
import Derived.Test.YtpfhjchbegdgdaaGreatDoorMF
set_option linter.unusedSimpArgs false
set_option linter.unusedVariables false
namespace Go.Proofs.YtpfhjchbegdgdaaGreatDoor
open Go Go.AL Go.ChangeShapes Go.WideShapes Go.ChangeAt Go.RowKit

theorem logsCounted_call (rows : List (List G)) : ACallX Tryz.prog 3 [.listF [.int .i64] rows] [] (.lit (.bool true)) [] := SYtpfhjchbegdgdaaGreatDoor.c_pilelaw2_LogsCounted [.l rows] [.t true] (SYtpfhjchbegdgdaaGreatDoor.logsCounted_data rows)
theorem logsCounted_h1 : (Rows.logsCountedRow.wf (OpenSpec.ofChange Rows.logsCountedSpec)) = true := by kernel_rfl
theorem logsCounted_h4 : (Tryz.f3.params.all (Tryz.pinned.checked.prog.readableRec ·)) = true := by kernel_rfl
theorem logsCounted_h5 : (namedTie Tryz.pinned.checked.prog Rows.logsCountedRow.named Rows.logsCountedSpec.vars) = true := by kernel_rfl
theorem logsCounted_h6 : ((Rows.logsCountedRow.stops == [])) = true := by kernel_rfl
theorem logsCounted_h8 : ((Rows.logsCountedRow.knobs == [])) = true := by kernel_rfl
theorem logsCounted_h10 : ((Rows.logsCountedRow.inPlace == Tryz.pinned.checked.prog.inPlace 3)) = true := by kernel_rfl
theorem logsCounted_h11 : ((Rows.logsCountedRow.unfollowed == Tryz.pinned.checked.prog.unfollowed 3)) = true := by kernel_rfl
theorem logsCounted_h12 : ((Rows.logsCountedRow.recurses == Tryz.pinned.checked.prog.recurses 3)) = true := by kernel_rfl
theorem logsCounted_h13 : ((Rows.logsCountedRow.named == Tryz.pinned.checked.prog.varsNamed 3)) = true := by kernel_rfl
theorem logsCounted_h14 : ((Rows.logsCountedRow.maps == (Tryz.f3.params.toList ++ Rows.logsCountedSpec.plain.varTypes Tryz.pinned.checked.prog).any (Tryz.pinned.checked.prog.mapsRec ·))) = true := by kernel_rfl
theorem logsCounted_h15 : ((Rows.logsCountedRow.ifaces == (Tryz.f3.params.toList ++ Rows.logsCountedSpec.plain.varTypes Tryz.pinned.checked.prog).any (Tryz.pinned.checked.prog.ifacesRec ·))) = true := by kernel_rfl
theorem logsCounted_h16 : ((Rows.logsCountedRow.mapsOut == Tryz.pinned.checked.prog.mapsAmong Tryz.f3.resultTypes.toList)) = true := by kernel_rfl
theorem logsCounted_h17 : ((Rows.logsCountedRow.loops == (Tryz.f3.params.toList ++ Rows.logsCountedSpec.plain.varTypes Tryz.pinned.checked.prog).any (Tryz.pinned.checked.prog.loopsFrom ·))) = true := by kernel_rfl
theorem logsCounted_h18 : ((Rows.logsCountedRow.wideKeys == (Tryz.f3.params.toList ++ Rows.logsCountedSpec.plain.varTypes Tryz.pinned.checked.prog ++ Tryz.f3.resultTypes.toList).any (Tryz.pinned.checked.prog.wideKeysFrom ·))) = true := by kernel_rfl
theorem logsCounted_h19 : (Rows.logsCountedSpec.vars.all (Tryz.pinned.checked.prog.varReadable ·)) = true := by kernel_rfl
theorem logsCounted_h20 : (Tryz.f3.resultTypes.all (fun t => Tryz.pinned.checked.prog.readableRec t && decide (t < Tryz.pinned.checked.prog.types.size))) = true := by kernel_rfl
theorem logsCounted_h21 : ((Rows.logsCountedRow.ifacesOut == Tryz.f3.resultTypes.toList.any (Tryz.pinned.checked.prog.ifacesRec ·))) = true := by kernel_rfl
theorem logsCounted_h22 : ((Rows.logsCountedRow.loopsOut == Tryz.f3.resultTypes.toList.any (Tryz.pinned.checked.prog.loopsFrom ·))) = true := by kernel_rfl
theorem logsCounted_h24 : (Rows.logsCountedRow.shortTexts.isNone) = true := by kernel_rfl
theorem logsCounted_h27 : ((Rows.logsCountedRow.lifted == Tryz.pinned.checked.prog.liftsFinal)) = true := by kernel_rfl
theorem logsCounted_h28 : ((Tryz.pinned.checked.prog.make == some Rows.logsCountedRow.make)) = true := by kernel_rfl
theorem logsCounted_h29 : ((Rows.logsCountedRow.kinds == (if Rows.logsCountedRow.domain.isEmpty then [] else Tryz.f3.params.toList.map fun t => match Tryz.pinned.checked.prog.underlying t with | some (.int k) => some k | _ => none))) = true := by kernel_rfl
theorem logsCounted_h30 : ((Rows.logsCountedRow.pinned == Rows.logsCountedRow.pinnedBy)) = true := by kernel_rfl
theorem logsCounted_h31 : ((Rows.logsCountedRow.veiled == (Tryz.f3.params.toList ++ Rows.logsCountedSpec.plain.varTypes Tryz.pinned.checked.prog ++ Tryz.f3.resultTypes.toList).any (Tryz.pinned.checked.prog.veiledRec ·))) = true := by kernel_rfl
theorem logsCounted_h32 : (Rows.logsCountedRow.veiledFits Tryz.pinned.checked.prog Tryz.f3.params.toList (Tryz.f3.params.toList ++ Rows.logsCountedSpec.plain.varTypes Tryz.pinned.checked.prog ++ Tryz.f3.resultTypes.toList)) = true := by kernel_rfl
theorem logsCounted_goes : false = Rows.logsCountedRow.goesBy Tryz.pinned.checked.prog := by kernel_rfl

set_option maxRecDepth 100000 in
theorem logsCounted_lifted (os : Os) (started : os.Started) (H : Type) (enc : TypeId × Value → H) :
    ReturnsInHanded {} Tryz.checked os 3 .any (fun w args => (Rows.logsCountedSpec.pre enc Tryz.prog Tryz.f3 Rows.logsCountedRow.domain false w args ∧ laidMetH Tryz.prog Rows.logsCountedRow.laid w) ∧ sizedMet enc Tryz.prog Tryz.f3 (OpenSpec.ofChange Rows.logsCountedSpec) false w args)
      (Rows.logsCountedSpec.post enc Tryz.prog Tryz.f3 false true false false) := by
  refine returnsInHanded_of_change_and (C := Tryz.checked) (X := fun w _ => laidMetH Tryz.prog Rows.logsCountedRow.laid w) (fun _ _ _ hh h => h.of_heap hh) ownOf started (by kernel_rfl) Tryz.func3
    (ChangeSpec.witness_shaped (enc := enc) (C := Tryz.checked) (os := os) (X := fun w _ => laidMetH Tryz.prog Rows.logsCountedRow.laid w) false (World.laidAll Tryz.prog os Rows.logsCountedRow.laid) #[.slice none 0 0] 8 (World.laidAll_os _ _ _)
      (World.shaped_of_ZipB (by kernel_rfl) (by kernel_rfl)) (by kernel_rfl) (by kernel_rfl) (by kernel_rfl)
      (by rw [MakeChecks.laidMetH_plain _ _ _ (by kernel_rfl)]; exact laidMet_laidAll _ (by kernel_rfl) (by kernel_rfl))) ?_
  intro W base args ds gs before hval hW _ _ _ _
  exact law_post Tryz.params3 (tB := 4) (by kernel_rfl) Tryz.underlying22 Tryz.underlying3 (by kernel_rfl) Tryz.underlying4 rfl (fun _ => rfl) logsCounted_call hval hW

set_option maxRecDepth 100000 in
theorem logsCounted_row : Rows.LogsCountedSaid :=
  OpenClaim.holds_of_wide 3 Tryz.f3 rfl rfl rfl rfl rfl rfl rfl ⟨rfl, rfl, rfl, rfl, rfl⟩ rfl rfl rfl rfl rfl (by kernel_rfl) Tryz.func3 (facts_of logsCounted_h1 p_h2 p_h3 logsCounted_h4 logsCounted_h5 logsCounted_h6 p_h7 logsCounted_h8 p_h9 logsCounted_h10 logsCounted_h11 logsCounted_h12 logsCounted_h13 logsCounted_h14 logsCounted_h15 logsCounted_h16 logsCounted_h17 logsCounted_h18 logsCounted_h19 logsCounted_h20 logsCounted_h21 logsCounted_h22 p_h23 logsCounted_h24 p_h25 p_h26 logsCounted_h27 logsCounted_h28 logsCounted_h29 logsCounted_h30 logsCounted_h31 logsCounted_h32)
    (of_decide_eq_true (by kernel_rfl)) (by unfold Func.isWrapper; first | (rw [if_pos (by decide +kernel)]; kernel_rfl) | (rw [if_neg (by decide +kernel)]; exact ⟨rfl, rfl⟩))
    (fun os started H enc _ => logsCounted_lifted os started H enc)
set_option maxRecDepth 100000 in
theorem logsCounted_holds : Rows.LogsCountedCardSaid :=
  Claim7.holds_tied_plain_at .later [] [.data, .pinned] true (true, "84deda9c12d7de6b70208ad04f70386e8c896e65baa377cafdba8e74ed2f5c7d") true logsCounted_row (fun _ h => by cases h) (by kernel_rfl) (fun _ h => by cases h) logsCounted_row_tie rfl ⟨rfl, rfl⟩ pMain rfl
    (fun f fn hf hfn => by
      obtain rfl : f = 3 := Option.some.inj ((show Tryz.prog.funcNamed Rows.logsCountedRow.func = some 3 by kernel_rfl).symm.trans hf) |>.symm
      obtain rfl : fn = Tryz.f3 := (Option.some.inj (Tryz.func3.symm.trans hfn)).symm
      exact ⟨pLooks, fun j t ht => by
        rw [Tryz.params3] at ht
        have hm : t ∈ [22] := by simpa using Array.mem_of_getElem? ht
        have hall : ([22].all fun u => !Tryz.prog.wantsStandIn u) = true := by kernel_rfl
        exact (show Tryz.prog.wantsStandIn t = false by simpa using List.all_eq_true.1 hall t hm)⟩)
    logsCounted_goes
#print axioms logsCounted_holds
end Go.Proofs.YtpfhjchbegdgdaaGreatDoor
