/-
  What is proved here: whatever numbers pileup's law LogsMerge is called at, it answers true, and the slice reads as before. Conditions: those of the given card alone (the listed variables as the program's text lays them).
-/
import Derived.Test.YtpfhjchbegdgdaaGreatDoorTie
import Derived.Test.YtpfhjchbegdgdaaGreatDoorCards
import Derived.Test.YtpfhjchbegdgdaaGreatDoorMJ
import Derived.Test.YtpfhjchbegdgdaaGreatDoorMF
set_option linter.unusedSimpArgs false
set_option linter.unusedVariables false
namespace Go.Proofs.YtpfhjchbegdgdaaGreatDoor
open Go Go.AL Go.ChangeShapes Go.WideShapes Go.ChangeAt Go.RowKit

theorem logsMerge_call (rows : List (List G)) : ACallX Tryz.prog 4 [.listF [.int .i64] rows] [] (.lit (.bool true)) [] := SYtpfhjchbegdgdaaGreatDoor.c_pilelaw2_LogsMerge [.l rows] [.t true] (SYtpfhjchbegdgdaaGreatDoor.logsMerge_data rows)
theorem logsMerge_h1 : (Rows.logsMergeRow.wf (OpenSpec.ofChange Rows.logsMergeSpec)) = true := by kernel_rfl
theorem logsMerge_h4 : (Tryz.f4.params.all (Tryz.pinned.checked.prog.readableRec ·)) = true := by kernel_rfl
theorem logsMerge_h5 : (namedTie Tryz.pinned.checked.prog Rows.logsMergeRow.named Rows.logsMergeSpec.vars) = true := by kernel_rfl
theorem logsMerge_h6 : ((Rows.logsMergeRow.stops == [])) = true := by kernel_rfl
theorem logsMerge_h8 : ((Rows.logsMergeRow.knobs == [])) = true := by kernel_rfl
theorem logsMerge_h10 : ((Rows.logsMergeRow.inPlace == Tryz.pinned.checked.prog.inPlace 4)) = true := by kernel_rfl
theorem logsMerge_h11 : ((Rows.logsMergeRow.unfollowed == Tryz.pinned.checked.prog.unfollowed 4)) = true := by kernel_rfl
theorem logsMerge_h12 : ((Rows.logsMergeRow.recurses == Tryz.pinned.checked.prog.recurses 4)) = true := by kernel_rfl
theorem logsMerge_h13 : ((Rows.logsMergeRow.named == Tryz.pinned.checked.prog.varsNamed 4)) = true := by kernel_rfl
theorem logsMerge_h14 : ((Rows.logsMergeRow.maps == (Tryz.f4.params.toList ++ Rows.logsMergeSpec.plain.varTypes Tryz.pinned.checked.prog).any (Tryz.pinned.checked.prog.mapsRec ·))) = true := by kernel_rfl
theorem logsMerge_h15 : ((Rows.logsMergeRow.ifaces == (Tryz.f4.params.toList ++ Rows.logsMergeSpec.plain.varTypes Tryz.pinned.checked.prog).any (Tryz.pinned.checked.prog.ifacesRec ·))) = true := by kernel_rfl
theorem logsMerge_h16 : ((Rows.logsMergeRow.mapsOut == Tryz.pinned.checked.prog.mapsAmong Tryz.f4.resultTypes.toList)) = true := by kernel_rfl
theorem logsMerge_h17 : ((Rows.logsMergeRow.loops == (Tryz.f4.params.toList ++ Rows.logsMergeSpec.plain.varTypes Tryz.pinned.checked.prog).any (Tryz.pinned.checked.prog.loopsFrom ·))) = true := by kernel_rfl
theorem logsMerge_h18 : ((Rows.logsMergeRow.wideKeys == (Tryz.f4.params.toList ++ Rows.logsMergeSpec.plain.varTypes Tryz.pinned.checked.prog ++ Tryz.f4.resultTypes.toList).any (Tryz.pinned.checked.prog.wideKeysFrom ·))) = true := by kernel_rfl
theorem logsMerge_h19 : (Rows.logsMergeSpec.vars.all (Tryz.pinned.checked.prog.varReadable ·)) = true := by kernel_rfl
theorem logsMerge_h20 : (Tryz.f4.resultTypes.all (fun t => Tryz.pinned.checked.prog.readableRec t && decide (t < Tryz.pinned.checked.prog.types.size))) = true := by kernel_rfl
theorem logsMerge_h21 : ((Rows.logsMergeRow.ifacesOut == Tryz.f4.resultTypes.toList.any (Tryz.pinned.checked.prog.ifacesRec ·))) = true := by kernel_rfl
theorem logsMerge_h22 : ((Rows.logsMergeRow.loopsOut == Tryz.f4.resultTypes.toList.any (Tryz.pinned.checked.prog.loopsFrom ·))) = true := by kernel_rfl
theorem logsMerge_h24 : (Rows.logsMergeRow.shortTexts.isNone) = true := by kernel_rfl
theorem logsMerge_h27 : ((Rows.logsMergeRow.lifted == Tryz.pinned.checked.prog.liftsFinal)) = true := by kernel_rfl
theorem logsMerge_h28 : ((Tryz.pinned.checked.prog.make == some Rows.logsMergeRow.make)) = true := by kernel_rfl
theorem logsMerge_h29 : ((Rows.logsMergeRow.kinds == (if Rows.logsMergeRow.domain.isEmpty then [] else Tryz.f4.params.toList.map fun t => match Tryz.pinned.checked.prog.underlying t with | some (.int k) => some k | _ => none))) = true := by kernel_rfl
theorem logsMerge_h30 : ((Rows.logsMergeRow.pinned == Rows.logsMergeRow.pinnedBy)) = true := by kernel_rfl
theorem logsMerge_h31 : ((Rows.logsMergeRow.veiled == (Tryz.f4.params.toList ++ Rows.logsMergeSpec.plain.varTypes Tryz.pinned.checked.prog ++ Tryz.f4.resultTypes.toList).any (Tryz.pinned.checked.prog.veiledRec ·))) = true := by kernel_rfl
theorem logsMerge_h32 : (Rows.logsMergeRow.veiledFits Tryz.pinned.checked.prog Tryz.f4.params.toList (Tryz.f4.params.toList ++ Rows.logsMergeSpec.plain.varTypes Tryz.pinned.checked.prog ++ Tryz.f4.resultTypes.toList)) = true := by kernel_rfl
theorem logsMerge_goes : false = Rows.logsMergeRow.goesBy Tryz.pinned.checked.prog := by kernel_rfl

set_option maxRecDepth 100000 in
theorem logsMerge_lifted (os : Os) (started : os.Started) (H : Type) (enc : TypeId × Value → H) :
    ReturnsInHanded {} Tryz.checked os 4 .any (fun w args => (Rows.logsMergeSpec.pre enc Tryz.prog Tryz.f4 Rows.logsMergeRow.domain false w args ∧ laidMetH Tryz.prog Rows.logsMergeRow.laid w) ∧ sizedMet enc Tryz.prog Tryz.f4 (OpenSpec.ofChange Rows.logsMergeSpec) false w args)
      (Rows.logsMergeSpec.post enc Tryz.prog Tryz.f4 false true false false) := by
  refine returnsInHanded_of_change_and (C := Tryz.checked) (X := fun w _ => laidMetH Tryz.prog Rows.logsMergeRow.laid w) (fun _ _ _ hh h => h.of_heap hh) ownOf started (by kernel_rfl) Tryz.func4
    (ChangeSpec.witness_shaped (enc := enc) (C := Tryz.checked) (os := os) (X := fun w _ => laidMetH Tryz.prog Rows.logsMergeRow.laid w) false (World.laidAll Tryz.prog os Rows.logsMergeRow.laid) #[.slice none 0 0] 8 (World.laidAll_os _ _ _)
      (World.shaped_of_ZipB (by kernel_rfl) (by kernel_rfl)) (by kernel_rfl) (by kernel_rfl) (by kernel_rfl)
      (by rw [MakeChecks.laidMetH_plain _ _ _ (by kernel_rfl)]; exact laidMet_laidAll _ (by kernel_rfl) (by kernel_rfl))) ?_
  intro W base args ds gs before hval hW _ _ _ _
  exact law_post Tryz.params4 (tB := 4) (by kernel_rfl) Tryz.underlying22 Tryz.underlying3 (by kernel_rfl) Tryz.underlying4 rfl (fun _ => rfl) logsMerge_call hval hW

set_option maxRecDepth 100000 in
theorem logsMerge_row : Rows.LogsMergeSaid :=
  OpenClaim.holds_of_wide 4 Tryz.f4 rfl rfl rfl rfl rfl rfl rfl ⟨rfl, rfl, rfl, rfl, rfl⟩ rfl rfl rfl rfl rfl (by kernel_rfl) Tryz.func4 (facts_of logsMerge_h1 p_h2 p_h3 logsMerge_h4 logsMerge_h5 logsMerge_h6 p_h7 logsMerge_h8 p_h9 logsMerge_h10 logsMerge_h11 logsMerge_h12 logsMerge_h13 logsMerge_h14 logsMerge_h15 logsMerge_h16 logsMerge_h17 logsMerge_h18 logsMerge_h19 logsMerge_h20 logsMerge_h21 logsMerge_h22 p_h23 logsMerge_h24 p_h25 p_h26 logsMerge_h27 logsMerge_h28 logsMerge_h29 logsMerge_h30 logsMerge_h31 logsMerge_h32)
    (of_decide_eq_true (by kernel_rfl)) (by unfold Func.isWrapper; first | (rw [if_pos (by decide +kernel)]; kernel_rfl) | (rw [if_neg (by decide +kernel)]; exact ⟨rfl, rfl⟩))
    (fun os started H enc _ => logsMerge_lifted os started H enc)
set_option maxRecDepth 100000 in
theorem logsMerge_holds : Rows.LogsMergeCardSaid :=
  Claim7.holds_tied_plain_at .later [] [.data, .pinned] true (true, "84deda9c12d7de6b70208ad04f70386e8c896e65baa377cafdba8e74ed2f5c7d") true logsMerge_row (fun _ h => by cases h) (by kernel_rfl) (fun _ h => by cases h) logsMerge_row_tie rfl ⟨rfl, rfl⟩ pMain rfl
    (fun f fn hf hfn => by
      obtain rfl : f = 4 := Option.some.inj ((show Tryz.prog.funcNamed Rows.logsMergeRow.func = some 4 by kernel_rfl).symm.trans hf) |>.symm
      obtain rfl : fn = Tryz.f4 := (Option.some.inj (Tryz.func4.symm.trans hfn)).symm
      exact ⟨pLooks, fun j t ht => by
        rw [Tryz.params4] at ht
        have hm : t ∈ [22] := by simpa using Array.mem_of_getElem? ht
        have hall : ([22].all fun u => !Tryz.prog.wantsStandIn u) = true := by kernel_rfl
        exact (show Tryz.prog.wantsStandIn t = false by simpa using List.all_eq_true.1 hall t hm)⟩)
    logsMerge_goes
#print axioms logsMerge_holds
end Go.Proofs.YtpfhjchbegdgdaaGreatDoor
