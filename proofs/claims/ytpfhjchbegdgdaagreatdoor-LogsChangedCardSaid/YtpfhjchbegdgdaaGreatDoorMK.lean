/-
  What is proved here: whatever numbers pileup's law LogsChanged is called at, it answers true, and the slice reads as before. Conditions: those of the given card alone (the listed variables as the program's text lays them).
-/
import Derived.Test.YtpfhjchbegdgdaaGreatDoorTie
import Derived.Test.YtpfhjchbegdgdaaGreatDoorCards
import Derived.Test.YtpfhjchbegdgdaaGreatDoorMJ
import Derived.Test.YtpfhjchbegdgdaaGreatDoorMF
set_option linter.unusedSimpArgs false
set_option linter.unusedVariables false
namespace Go.Proofs.YtpfhjchbegdgdaaGreatDoor
open Go Go.AL Go.ChangeShapes Go.WideShapes Go.ChangeAt Go.RowKit

theorem logsChanged_call (rows : List (List G)) : ACallX Tryz.prog 5 [.listF [.int .i64] rows] [] (.lit (.bool true)) [] := SYtpfhjchbegdgdaaGreatDoor.c_pilelaw2_LogsChanged [.l rows] [.t true] (SYtpfhjchbegdgdaaGreatDoor.logsChanged_data rows)
theorem logsChanged_h1 : (Rows.logsChangedRow.wf (OpenSpec.ofChange Rows.logsChangedSpec)) = true := by kernel_rfl
theorem logsChanged_h4 : (Tryz.f5.params.all (Tryz.pinned.checked.prog.readableRec ·)) = true := by kernel_rfl
theorem logsChanged_h5 : (namedTie Tryz.pinned.checked.prog Rows.logsChangedRow.named Rows.logsChangedSpec.vars) = true := by kernel_rfl
theorem logsChanged_h6 : ((Rows.logsChangedRow.stops == [])) = true := by kernel_rfl
theorem logsChanged_h8 : ((Rows.logsChangedRow.knobs == [])) = true := by kernel_rfl
theorem logsChanged_h10 : ((Rows.logsChangedRow.inPlace == Tryz.pinned.checked.prog.inPlace 5)) = true := by kernel_rfl
theorem logsChanged_h11 : ((Rows.logsChangedRow.unfollowed == Tryz.pinned.checked.prog.unfollowed 5)) = true := by kernel_rfl
theorem logsChanged_h12 : ((Rows.logsChangedRow.recurses == Tryz.pinned.checked.prog.recurses 5)) = true := by kernel_rfl
theorem logsChanged_h13 : ((Rows.logsChangedRow.named == Tryz.pinned.checked.prog.varsNamed 5)) = true := by kernel_rfl
theorem logsChanged_h14 : ((Rows.logsChangedRow.maps == (Tryz.f5.params.toList ++ Rows.logsChangedSpec.plain.varTypes Tryz.pinned.checked.prog).any (Tryz.pinned.checked.prog.mapsRec ·))) = true := by kernel_rfl
theorem logsChanged_h15 : ((Rows.logsChangedRow.ifaces == (Tryz.f5.params.toList ++ Rows.logsChangedSpec.plain.varTypes Tryz.pinned.checked.prog).any (Tryz.pinned.checked.prog.ifacesRec ·))) = true := by kernel_rfl
theorem logsChanged_h16 : ((Rows.logsChangedRow.mapsOut == Tryz.pinned.checked.prog.mapsAmong Tryz.f5.resultTypes.toList)) = true := by kernel_rfl
theorem logsChanged_h17 : ((Rows.logsChangedRow.loops == (Tryz.f5.params.toList ++ Rows.logsChangedSpec.plain.varTypes Tryz.pinned.checked.prog).any (Tryz.pinned.checked.prog.loopsFrom ·))) = true := by kernel_rfl
theorem logsChanged_h18 : ((Rows.logsChangedRow.wideKeys == (Tryz.f5.params.toList ++ Rows.logsChangedSpec.plain.varTypes Tryz.pinned.checked.prog ++ Tryz.f5.resultTypes.toList).any (Tryz.pinned.checked.prog.wideKeysFrom ·))) = true := by kernel_rfl
theorem logsChanged_h19 : (Rows.logsChangedSpec.vars.all (Tryz.pinned.checked.prog.varReadable ·)) = true := by kernel_rfl
theorem logsChanged_h20 : (Tryz.f5.resultTypes.all (fun t => Tryz.pinned.checked.prog.readableRec t && decide (t < Tryz.pinned.checked.prog.types.size))) = true := by kernel_rfl
theorem logsChanged_h21 : ((Rows.logsChangedRow.ifacesOut == Tryz.f5.resultTypes.toList.any (Tryz.pinned.checked.prog.ifacesRec ·))) = true := by kernel_rfl
theorem logsChanged_h22 : ((Rows.logsChangedRow.loopsOut == Tryz.f5.resultTypes.toList.any (Tryz.pinned.checked.prog.loopsFrom ·))) = true := by kernel_rfl
theorem logsChanged_h24 : (Rows.logsChangedRow.shortTexts.isNone) = true := by kernel_rfl
theorem logsChanged_h27 : ((Rows.logsChangedRow.lifted == Tryz.pinned.checked.prog.liftsFinal)) = true := by kernel_rfl
theorem logsChanged_h28 : ((Tryz.pinned.checked.prog.make == some Rows.logsChangedRow.make)) = true := by kernel_rfl
theorem logsChanged_h29 : ((Rows.logsChangedRow.kinds == (if Rows.logsChangedRow.domain.isEmpty then [] else Tryz.f5.params.toList.map fun t => match Tryz.pinned.checked.prog.underlying t with | some (.int k) => some k | _ => none))) = true := by kernel_rfl
theorem logsChanged_h30 : ((Rows.logsChangedRow.pinned == Rows.logsChangedRow.pinnedBy)) = true := by kernel_rfl
theorem logsChanged_h31 : ((Rows.logsChangedRow.veiled == (Tryz.f5.params.toList ++ Rows.logsChangedSpec.plain.varTypes Tryz.pinned.checked.prog ++ Tryz.f5.resultTypes.toList).any (Tryz.pinned.checked.prog.veiledRec ·))) = true := by kernel_rfl
theorem logsChanged_h32 : (Rows.logsChangedRow.veiledFits Tryz.pinned.checked.prog Tryz.f5.params.toList (Tryz.f5.params.toList ++ Rows.logsChangedSpec.plain.varTypes Tryz.pinned.checked.prog ++ Tryz.f5.resultTypes.toList)) = true := by kernel_rfl
theorem logsChanged_goes : false = Rows.logsChangedRow.goesBy Tryz.pinned.checked.prog := by kernel_rfl

set_option maxRecDepth 100000 in
theorem logsChanged_lifted (os : Os) (started : os.Started) (H : Type) (enc : TypeId × Value → H) :
    ReturnsInHanded {} Tryz.checked os 5 .any (fun w args => (Rows.logsChangedSpec.pre enc Tryz.prog Tryz.f5 Rows.logsChangedRow.domain false w args ∧ laidMetH Tryz.prog Rows.logsChangedRow.laid w) ∧ sizedMet enc Tryz.prog Tryz.f5 (OpenSpec.ofChange Rows.logsChangedSpec) false w args)
      (Rows.logsChangedSpec.post enc Tryz.prog Tryz.f5 false true false false) := by
  refine returnsInHanded_of_change_and (C := Tryz.checked) (X := fun w _ => laidMetH Tryz.prog Rows.logsChangedRow.laid w) (fun _ _ _ hh h => h.of_heap hh) ownOf started (by kernel_rfl) Tryz.func5
    (ChangeSpec.witness_shaped (enc := enc) (C := Tryz.checked) (os := os) (X := fun w _ => laidMetH Tryz.prog Rows.logsChangedRow.laid w) false (World.laidAll Tryz.prog os Rows.logsChangedRow.laid) #[.slice none 0 0] 8 (World.laidAll_os _ _ _)
      (World.shaped_of_ZipB (by kernel_rfl) (by kernel_rfl)) (by kernel_rfl) (by kernel_rfl) (by kernel_rfl)
      (by rw [MakeChecks.laidMetH_plain _ _ _ (by kernel_rfl)]; exact laidMet_laidAll _ (by kernel_rfl) (by kernel_rfl))) ?_
  intro W base args ds gs before hval hW _ _ _ _
  exact law_post Tryz.params5 (tB := 4) (by kernel_rfl) Tryz.underlying22 Tryz.underlying3 (by kernel_rfl) Tryz.underlying4 rfl (fun _ => rfl) logsChanged_call hval hW

set_option maxRecDepth 100000 in
theorem logsChanged_row : Rows.LogsChangedSaid :=
  OpenClaim.holds_of_wide 5 Tryz.f5 rfl rfl rfl rfl rfl rfl rfl ⟨rfl, rfl, rfl, rfl, rfl⟩ rfl rfl rfl rfl rfl (by kernel_rfl) Tryz.func5 (facts_of logsChanged_h1 p_h2 p_h3 logsChanged_h4 logsChanged_h5 logsChanged_h6 p_h7 logsChanged_h8 p_h9 logsChanged_h10 logsChanged_h11 logsChanged_h12 logsChanged_h13 logsChanged_h14 logsChanged_h15 logsChanged_h16 logsChanged_h17 logsChanged_h18 logsChanged_h19 logsChanged_h20 logsChanged_h21 logsChanged_h22 p_h23 logsChanged_h24 p_h25 p_h26 logsChanged_h27 logsChanged_h28 logsChanged_h29 logsChanged_h30 logsChanged_h31 logsChanged_h32)
    (of_decide_eq_true (by kernel_rfl)) (by unfold Func.isWrapper; first | (rw [if_pos (by decide +kernel)]; kernel_rfl) | (rw [if_neg (by decide +kernel)]; exact ⟨rfl, rfl⟩))
    (fun os started H enc _ => logsChanged_lifted os started H enc)
set_option maxRecDepth 100000 in
theorem logsChanged_holds : Rows.LogsChangedCardSaid :=
  Claim7.holds_tied_plain_at .later [] [.data, .pinned] true (true, "84deda9c12d7de6b70208ad04f70386e8c896e65baa377cafdba8e74ed2f5c7d") true logsChanged_row (fun _ h => by cases h) (by kernel_rfl) (fun _ h => by cases h) logsChanged_row_tie rfl ⟨rfl, rfl⟩ pMain rfl
    (fun f fn hf hfn => by
      obtain rfl : f = 5 := Option.some.inj ((show Tryz.prog.funcNamed Rows.logsChangedRow.func = some 5 by kernel_rfl).symm.trans hf) |>.symm
      obtain rfl : fn = Tryz.f5 := (Option.some.inj (Tryz.func5.symm.trans hfn)).symm
      exact ⟨pLooks, fun j t ht => by
        rw [Tryz.params5] at ht
        have hm : t ∈ [22] := by simpa using Array.mem_of_getElem? ht
        have hall : ([22].all fun u => !Tryz.prog.wantsStandIn u) = true := by kernel_rfl
        exact (show Tryz.prog.wantsStandIn t = false by simpa using List.all_eq_true.1 hall t hm)⟩)
    logsChanged_goes
#print axioms logsChanged_holds
end Go.Proofs.YtpfhjchbegdgdaaGreatDoor
