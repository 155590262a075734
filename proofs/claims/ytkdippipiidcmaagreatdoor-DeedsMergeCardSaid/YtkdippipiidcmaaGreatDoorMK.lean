/-
  What is proved here: whatever numbers pileup's law DeedsMerge is called at, it answers true, and the slice reads as before. Conditions: those of the given card alone (the listed variables as the program's text lays them).
-/
import Derived.Test.YtkdippipiidcmaaGreatDoorTie
import Derived.Test.YtkdippipiidcmaaGreatDoorCards
import Derived.Test.YtkdippipiidcmaaGreatDoorMJ
import Derived.Test.YtkdippipiidcmaaGreatDoorMF
set_option linter.unusedSimpArgs false
set_option linter.unusedVariables false
set_option linter.unusedSectionVars false
namespace Go.Proofs.YtkdippipiidcmaaGreatDoor
open Go Go.AL Go.ChangeShapes Go.WideShapes Go.ChangeAt Go.RowKit

theorem deedsMerge_call (rows : List (List G)) : ACallX Tryz.prog 3 [.listF [.int .i64] rows] [] (.lit (.bool true)) [] := SYtkdippipiidcmaaGreatDoor.c_pilelaw2_DeedsMerge [.l rows] [.t true] (SYtkdippipiidcmaaGreatDoor.deedsMerge_data rows)
theorem deedsMerge_h1 : (Rows.deedsMergeRow.wf (OpenSpec.ofChange Rows.deedsMergeSpec)) = true := by kernel_rfl
theorem deedsMerge_h4 : (Tryz.f3.params.all (Tryz.pinned.checked.prog.readableRec ·)) = true := by kernel_rfl
theorem deedsMerge_h5 : (namedTie Tryz.pinned.checked.prog Rows.deedsMergeRow.named Rows.deedsMergeSpec.vars) = true := by kernel_rfl
theorem deedsMerge_h6 : ((Rows.deedsMergeRow.stops == [])) = true := by kernel_rfl
theorem deedsMerge_h8 : ((Rows.deedsMergeRow.knobs == [])) = true := by kernel_rfl
theorem deedsMerge_h10 : ((Rows.deedsMergeRow.inPlace == Tryz.pinned.checked.prog.inPlace 3)) = true := by kernel_rfl
theorem deedsMerge_h11 : ((Rows.deedsMergeRow.unfollowed == Tryz.pinned.checked.prog.unfollowed 3)) = true := by kernel_rfl
theorem deedsMerge_h12 : ((Rows.deedsMergeRow.recurses == Tryz.pinned.checked.prog.recurses 3)) = true := by kernel_rfl
theorem deedsMerge_h13 : ((Rows.deedsMergeRow.named == Tryz.pinned.checked.prog.varsNamed 3)) = true := by kernel_rfl
theorem deedsMerge_h14 : ((Rows.deedsMergeRow.maps == (Tryz.f3.params.toList ++ Rows.deedsMergeSpec.plain.varTypes Tryz.pinned.checked.prog).any (Tryz.pinned.checked.prog.mapsRec ·))) = true := by kernel_rfl
theorem deedsMerge_h15 : ((Rows.deedsMergeRow.ifaces == (Tryz.f3.params.toList ++ Rows.deedsMergeSpec.plain.varTypes Tryz.pinned.checked.prog).any (Tryz.pinned.checked.prog.ifacesRec ·))) = true := by kernel_rfl
theorem deedsMerge_h16 : ((Rows.deedsMergeRow.mapsOut == Tryz.pinned.checked.prog.mapsAmong Tryz.f3.resultTypes.toList)) = true := by kernel_rfl
theorem deedsMerge_h17 : ((Rows.deedsMergeRow.loops == (Tryz.f3.params.toList ++ Rows.deedsMergeSpec.plain.varTypes Tryz.pinned.checked.prog).any (Tryz.pinned.checked.prog.loopsFrom ·))) = true := by kernel_rfl
theorem deedsMerge_h18 : ((Rows.deedsMergeRow.wideKeys == (Tryz.f3.params.toList ++ Rows.deedsMergeSpec.plain.varTypes Tryz.pinned.checked.prog ++ Tryz.f3.resultTypes.toList).any (Tryz.pinned.checked.prog.wideKeysFrom ·))) = true := by kernel_rfl
theorem deedsMerge_h19 : (Rows.deedsMergeSpec.vars.all (Tryz.pinned.checked.prog.varReadable ·)) = true := by kernel_rfl
theorem deedsMerge_h20 : (Tryz.f3.resultTypes.all (fun t => Tryz.pinned.checked.prog.readableRec t && decide (t < Tryz.pinned.checked.prog.types.size))) = true := by kernel_rfl
theorem deedsMerge_h21 : ((Rows.deedsMergeRow.ifacesOut == Tryz.f3.resultTypes.toList.any (Tryz.pinned.checked.prog.ifacesRec ·))) = true := by kernel_rfl
theorem deedsMerge_h22 : ((Rows.deedsMergeRow.loopsOut == Tryz.f3.resultTypes.toList.any (Tryz.pinned.checked.prog.loopsFrom ·))) = true := by kernel_rfl
theorem deedsMerge_h24 : (Rows.deedsMergeRow.shortTexts.isNone) = true := by kernel_rfl
theorem deedsMerge_h27 : ((Rows.deedsMergeRow.lifted == Tryz.pinned.checked.prog.liftsFinal)) = true := by kernel_rfl
theorem deedsMerge_h28 : ((Tryz.pinned.checked.prog.make == some Rows.deedsMergeRow.make)) = true := by kernel_rfl
theorem deedsMerge_h29 : ((Rows.deedsMergeRow.kinds == (if Rows.deedsMergeRow.domain.isEmpty then [] else Tryz.f3.params.toList.map fun t => match Tryz.pinned.checked.prog.underlying t with | some (.int k) => some k | _ => none))) = true := by kernel_rfl
theorem deedsMerge_h30 : ((Rows.deedsMergeRow.pinned == Rows.deedsMergeRow.pinnedBy)) = true := by kernel_rfl
theorem deedsMerge_h31 : ((Rows.deedsMergeRow.veiled == (Tryz.f3.params.toList ++ Rows.deedsMergeSpec.plain.varTypes Tryz.pinned.checked.prog ++ Tryz.f3.resultTypes.toList).any (Tryz.pinned.checked.prog.veiledRec ·))) = true := by kernel_rfl
theorem deedsMerge_h32 : (Rows.deedsMergeRow.veiledFits Tryz.pinned.checked.prog Tryz.f3.params.toList (Tryz.f3.params.toList ++ Rows.deedsMergeSpec.plain.varTypes Tryz.pinned.checked.prog ++ Tryz.f3.resultTypes.toList)) = true := by kernel_rfl
theorem deedsMerge_goes : false = Rows.deedsMergeRow.goesBy Tryz.pinned.checked.prog := by kernel_rfl

set_option maxRecDepth 100000 in
theorem deedsMerge_lifted (os : Os) (started : os.Started) (H : Type) (enc : TypeId × Value → H) :
    ReturnsInHanded {} Tryz.checked os 3 .any (fun w args => (Rows.deedsMergeSpec.pre enc Tryz.prog Tryz.f3 Rows.deedsMergeRow.domain false w args ∧ laidMetH Tryz.prog Rows.deedsMergeRow.laid w) ∧ sizedMet enc Tryz.prog Tryz.f3 (OpenSpec.ofChange Rows.deedsMergeSpec) false w args)
      (Rows.deedsMergeSpec.post enc Tryz.prog Tryz.f3 false true false false) := by
  refine returnsInHanded_of_change_and (C := Tryz.checked) (X := fun w _ => laidMetH Tryz.prog Rows.deedsMergeRow.laid w) (fun _ _ _ hh h => h.of_heap hh) ownOf started (by kernel_rfl) Tryz.func3
    (ChangeSpec.witness_shaped (enc := enc) (C := Tryz.checked) (os := os) (X := fun w _ => laidMetH Tryz.prog Rows.deedsMergeRow.laid w) false (World.laidAll Tryz.prog os Rows.deedsMergeRow.laid) #[.slice none 0 0] 8 (World.laidAll_os _ _ _)
      (World.shaped_of_ZipB (by kernel_rfl) (by kernel_rfl)) (by kernel_rfl) (by kernel_rfl) (by kernel_rfl)
      (by rw [MakeChecks.laidMetH_plain _ _ _ (by kernel_rfl)]; exact laidMet_laidAll _ (by kernel_rfl) (by kernel_rfl))) ?_
  intro W base args ds gs before hval hW _ _ hx _
  have htab : ∀ p ∈ tabZ, ∃ t f, W.heap[p.1]? = some (.cells p.2 t f) := by
    intro p hp
    unfold tabZ at hp
    cases hp
  exact law_post Tryz.params3 (tB := 4) (by kernel_rfl) Tryz.underlying22 Tryz.underlying3 (by kernel_rfl) Tryz.underlying4 rfl (fun _ => rfl) deedsMerge_call htab hval hW

set_option maxRecDepth 100000 in
theorem deedsMerge_row : Rows.DeedsMergeSaid :=
  OpenClaim.holds_of_wide 3 Tryz.f3 rfl rfl rfl rfl rfl rfl rfl ⟨rfl, rfl, rfl, rfl, rfl⟩ rfl rfl rfl rfl rfl (by kernel_rfl) Tryz.func3 (facts_of deedsMerge_h1 p_h2 p_h3 deedsMerge_h4 deedsMerge_h5 deedsMerge_h6 p_h7 deedsMerge_h8 p_h9 deedsMerge_h10 deedsMerge_h11 deedsMerge_h12 deedsMerge_h13 deedsMerge_h14 deedsMerge_h15 deedsMerge_h16 deedsMerge_h17 deedsMerge_h18 deedsMerge_h19 deedsMerge_h20 deedsMerge_h21 deedsMerge_h22 p_h23 deedsMerge_h24 p_h25 p_h26 deedsMerge_h27 deedsMerge_h28 deedsMerge_h29 deedsMerge_h30 deedsMerge_h31 deedsMerge_h32)
    (of_decide_eq_true (by kernel_rfl)) (by unfold Func.isWrapper; first | (rw [if_pos (by decide +kernel)]; kernel_rfl) | (rw [if_neg (by decide +kernel)]; exact ⟨rfl, rfl⟩))
    (fun os started H enc _ => deedsMerge_lifted os started H enc)
set_option maxRecDepth 100000 in
theorem deedsMerge_holds : Rows.DeedsMergeCardSaid :=
  Claim7.holds_tied_plain_at .later [] [.data, .pinned] true (true, "312b958637d41a883e8be5d795926ee13ce58f4285d38953e9825630cd61c13b") true deedsMerge_row (fun _ h => by cases h) (by kernel_rfl) (fun _ h => by cases h) deedsMerge_row_tie rfl ⟨rfl, rfl⟩ pMain rfl
    (fun f fn hf hfn => by
      obtain rfl : f = 3 := Option.some.inj ((show Tryz.prog.funcNamed Rows.deedsMergeRow.func = some 3 by kernel_rfl).symm.trans hf) |>.symm
      obtain rfl : fn = Tryz.f3 := (Option.some.inj (Tryz.func3.symm.trans hfn)).symm
      exact ⟨pLooks, fun j t ht => by
        rw [Tryz.params3] at ht
        have hm : t ∈ [22] := by simpa using Array.mem_of_getElem? ht
        have hall : ([22].all fun u => !Tryz.prog.wantsStandIn u) = true := by kernel_rfl
        exact (show Tryz.prog.wantsStandIn t = false by simpa using List.all_eq_true.1 hall t hm)⟩)
    deedsMerge_goes
#print axioms deedsMerge_holds
end Go.Proofs.YtkdippipiidcmaaGreatDoor
