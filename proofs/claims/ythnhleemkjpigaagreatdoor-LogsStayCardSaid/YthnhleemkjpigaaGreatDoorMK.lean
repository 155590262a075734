/-
  What is proved here: whatever numbers pileup's law LogsStay is called at, it answers true, and the slice reads as before. Conditions: those of the given card alone (the listed variables as the program's text lays them).
-/
import Derived.Test.YthnhleemkjpigaaGreatDoorTie
import Derived.Test.YthnhleemkjpigaaGreatDoorCards
import Derived.Test.YthnhleemkjpigaaGreatDoorMJ
import Derived.Test.YthnhleemkjpigaaGreatDoorMF
set_option linter.unusedSimpArgs false
set_option linter.unusedVariables false
set_option linter.unusedSectionVars false
namespace Go.Proofs.YthnhleemkjpigaaGreatDoor
open Go Go.AL Go.ChangeShapes Go.WideShapes Go.ChangeAt Go.RowKit

theorem logsStay_call (rows : List (List G)) : ACallX Tryz.prog 3 [.listF [.int .i64] rows] [] (.lit (.bool true)) [] := SYthnhleemkjpigaaGreatDoor.c_pilekeep2_LogsStay [.l rows] [.t true] (SYthnhleemkjpigaaGreatDoor.logsStay_data rows)
theorem logsStay_h1 : (Rows.logsStayRow.wf (OpenSpec.ofChange Rows.logsStaySpec)) = true := by kernel_rfl
theorem logsStay_h4 : (Tryz.f3.params.all (Tryz.pinned.checked.prog.readableRec ·)) = true := by kernel_rfl
theorem logsStay_h5 : (namedTie Tryz.pinned.checked.prog Rows.logsStayRow.named Rows.logsStaySpec.vars) = true := by kernel_rfl
theorem logsStay_h6 : ((Rows.logsStayRow.stops == [])) = true := by kernel_rfl
theorem logsStay_h8 : ((Rows.logsStayRow.knobs == [])) = true := by kernel_rfl
theorem logsStay_h10 : ((Rows.logsStayRow.inPlace == Tryz.pinned.checked.prog.inPlace 3)) = true := by kernel_rfl
theorem logsStay_h11 : ((Rows.logsStayRow.unfollowed == Tryz.pinned.checked.prog.unfollowed 3)) = true := by kernel_rfl
theorem logsStay_h12 : ((Rows.logsStayRow.recurses == Tryz.pinned.checked.prog.recurses 3)) = true := by kernel_rfl
theorem logsStay_h13 : ((Rows.logsStayRow.named == Tryz.pinned.checked.prog.varsNamed 3)) = true := by kernel_rfl
theorem logsStay_h14 : ((Rows.logsStayRow.maps == (Tryz.f3.params.toList ++ Rows.logsStaySpec.plain.varTypes Tryz.pinned.checked.prog).any (Tryz.pinned.checked.prog.mapsRec ·))) = true := by kernel_rfl
theorem logsStay_h15 : ((Rows.logsStayRow.ifaces == (Tryz.f3.params.toList ++ Rows.logsStaySpec.plain.varTypes Tryz.pinned.checked.prog).any (Tryz.pinned.checked.prog.ifacesRec ·))) = true := by kernel_rfl
theorem logsStay_h16 : ((Rows.logsStayRow.mapsOut == Tryz.pinned.checked.prog.mapsAmong Tryz.f3.resultTypes.toList)) = true := by kernel_rfl
theorem logsStay_h17 : ((Rows.logsStayRow.loops == (Tryz.f3.params.toList ++ Rows.logsStaySpec.plain.varTypes Tryz.pinned.checked.prog).any (Tryz.pinned.checked.prog.loopsFrom ·))) = true := by kernel_rfl
theorem logsStay_h18 : ((Rows.logsStayRow.wideKeys == (Tryz.f3.params.toList ++ Rows.logsStaySpec.plain.varTypes Tryz.pinned.checked.prog ++ Tryz.f3.resultTypes.toList).any (Tryz.pinned.checked.prog.wideKeysFrom ·))) = true := by kernel_rfl
theorem logsStay_h19 : (Rows.logsStaySpec.vars.all (Tryz.pinned.checked.prog.varReadable ·)) = true := by kernel_rfl
theorem logsStay_h20 : (Tryz.f3.resultTypes.all (fun t => Tryz.pinned.checked.prog.readableRec t && decide (t < Tryz.pinned.checked.prog.types.size))) = true := by kernel_rfl
theorem logsStay_h21 : ((Rows.logsStayRow.ifacesOut == Tryz.f3.resultTypes.toList.any (Tryz.pinned.checked.prog.ifacesRec ·))) = true := by kernel_rfl
theorem logsStay_h22 : ((Rows.logsStayRow.loopsOut == Tryz.f3.resultTypes.toList.any (Tryz.pinned.checked.prog.loopsFrom ·))) = true := by kernel_rfl
theorem logsStay_h24 : (Rows.logsStayRow.shortTexts.isNone) = true := by kernel_rfl
theorem logsStay_h27 : ((Rows.logsStayRow.lifted == Tryz.pinned.checked.prog.liftsFinal)) = true := by kernel_rfl
theorem logsStay_h28 : ((Tryz.pinned.checked.prog.make == some Rows.logsStayRow.make)) = true := by kernel_rfl
theorem logsStay_h29 : ((Rows.logsStayRow.kinds == (if Rows.logsStayRow.domain.isEmpty then [] else Tryz.f3.params.toList.map fun t => match Tryz.pinned.checked.prog.underlying t with | some (.int k) => some k | _ => none))) = true := by kernel_rfl
theorem logsStay_h30 : ((Rows.logsStayRow.pinned == Rows.logsStayRow.pinnedBy)) = true := by kernel_rfl
theorem logsStay_h31 : ((Rows.logsStayRow.veiled == (Tryz.f3.params.toList ++ Rows.logsStaySpec.plain.varTypes Tryz.pinned.checked.prog ++ Tryz.f3.resultTypes.toList).any (Tryz.pinned.checked.prog.veiledRec ·))) = true := by kernel_rfl
theorem logsStay_h32 : (Rows.logsStayRow.veiledFits Tryz.pinned.checked.prog Tryz.f3.params.toList (Tryz.f3.params.toList ++ Rows.logsStaySpec.plain.varTypes Tryz.pinned.checked.prog ++ Tryz.f3.resultTypes.toList)) = true := by kernel_rfl
theorem logsStay_goes : false = Rows.logsStayRow.goesBy Tryz.pinned.checked.prog := by kernel_rfl

set_option maxRecDepth 100000 in
theorem logsStay_lifted (os : Os) (started : os.Started) (H : Type) (enc : TypeId × Value → H) :
    ReturnsInHanded {} Tryz.checked os 3 .any (fun w args => (Rows.logsStaySpec.pre enc Tryz.prog Tryz.f3 Rows.logsStayRow.domain false w args ∧ laidMetH Tryz.prog Rows.logsStayRow.laid w) ∧ sizedMet enc Tryz.prog Tryz.f3 (OpenSpec.ofChange Rows.logsStaySpec) false w args)
      (Rows.logsStaySpec.post enc Tryz.prog Tryz.f3 false true false false) := by
  refine returnsInHanded_of_change_and (C := Tryz.checked) (X := fun w _ => laidMetH Tryz.prog Rows.logsStayRow.laid w) (fun _ _ _ hh h => h.of_heap hh) ownOf started (by kernel_rfl) Tryz.func3
    (ChangeSpec.witness_shaped (enc := enc) (C := Tryz.checked) (os := os) (X := fun w _ => laidMetH Tryz.prog Rows.logsStayRow.laid w) false (World.laidAll Tryz.prog os Rows.logsStayRow.laid) #[.slice none 0 0] 8 (World.laidAll_os _ _ _)
      (World.shaped_of_ZipB (by kernel_rfl) (by kernel_rfl)) (by kernel_rfl) (by kernel_rfl) (by kernel_rfl)
      (by rw [MakeChecks.laidMetH_plain _ _ _ (by kernel_rfl)]; exact laidMet_laidAll _ (by kernel_rfl) (by kernel_rfl))) ?_
  intro W base args ds gs before hval hW _ _ _ _
  exact law_post Tryz.params3 (tB := 4) (by kernel_rfl) Tryz.underlying22 Tryz.underlying3 (by kernel_rfl) Tryz.underlying4 rfl (fun _ => rfl) logsStay_call hval hW

set_option maxRecDepth 100000 in
theorem logsStay_row : Rows.LogsStaySaid :=
  OpenClaim.holds_of_wide 3 Tryz.f3 rfl rfl rfl rfl rfl rfl rfl ⟨rfl, rfl, rfl, rfl, rfl⟩ rfl rfl rfl rfl rfl (by kernel_rfl) Tryz.func3 (facts_of logsStay_h1 p_h2 p_h3 logsStay_h4 logsStay_h5 logsStay_h6 p_h7 logsStay_h8 p_h9 logsStay_h10 logsStay_h11 logsStay_h12 logsStay_h13 logsStay_h14 logsStay_h15 logsStay_h16 logsStay_h17 logsStay_h18 logsStay_h19 logsStay_h20 logsStay_h21 logsStay_h22 p_h23 logsStay_h24 p_h25 p_h26 logsStay_h27 logsStay_h28 logsStay_h29 logsStay_h30 logsStay_h31 logsStay_h32)
    (of_decide_eq_true (by kernel_rfl)) (by unfold Func.isWrapper; first | (rw [if_pos (by decide +kernel)]; kernel_rfl) | (rw [if_neg (by decide +kernel)]; exact ⟨rfl, rfl⟩))
    (fun os started H enc _ => logsStay_lifted os started H enc)
set_option maxRecDepth 100000 in
theorem logsStay_holds : Rows.LogsStayCardSaid :=
  Claim7.holds_tied_plain_at .later [] [.data, .pinned] true (true, "20b3b9bac6bd2f46df80af48f7459d951cc4bbc53917a483e47da6dfd57536be") false logsStay_row (fun _ h => by cases h) (by kernel_rfl) (fun _ h => by cases h) logsStay_row_tie rfl ⟨rfl, rfl⟩ pMain rfl
    (fun f fn hf hfn => by
      obtain rfl : f = 3 := Option.some.inj ((show Tryz.prog.funcNamed Rows.logsStayRow.func = some 3 by kernel_rfl).symm.trans hf) |>.symm
      obtain rfl : fn = Tryz.f3 := (Option.some.inj (Tryz.func3.symm.trans hfn)).symm
      exact ⟨pLooks, fun j t ht => by
        rw [Tryz.params3] at ht
        have hm : t ∈ [22] := by simpa using Array.mem_of_getElem? ht
        have hall : ([22].all fun u => !Tryz.prog.wantsStandIn u) = true := by kernel_rfl
        exact (show Tryz.prog.wantsStandIn t = false by simpa using List.all_eq_true.1 hall t hm)⟩)
    logsStay_goes
#print axioms logsStay_holds
end Go.Proofs.YthnhleemkjpigaaGreatDoor
