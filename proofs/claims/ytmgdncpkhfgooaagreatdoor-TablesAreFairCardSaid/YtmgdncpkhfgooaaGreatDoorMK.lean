/-
  What is proved here: whatever numbers pileup's law TablesAreFair is called at, it answers true, and the slice reads as before. Conditions: those of the given card alone (the listed variables as the program's text lays them).
-/
import Derived.Test.YtmgdncpkhfgooaaGreatDoorTie
import Derived.Test.YtmgdncpkhfgooaaGreatDoorCards
import Derived.Test.YtmgdncpkhfgooaaGreatDoorMJ
import Derived.Test.YtmgdncpkhfgooaaGreatDoorMF
set_option linter.unusedSimpArgs false
set_option linter.unusedVariables false
set_option linter.unusedSectionVars false
namespace Go.Proofs.YtmgdncpkhfgooaaGreatDoor
open Go Go.AL Go.ChangeShapes Go.WideShapes Go.ChangeAt Go.RowKit

theorem tablesAreFair_call (rows : List (List G)) : ACallX Tryz.prog 3 [.listF [.int .i64] rows] [] (.lit (.bool true)) [] := SYtmgdncpkhfgooaaGreatDoor.c_pilekeep2_TablesAreFair [.l rows] [.t true] (SYtmgdncpkhfgooaaGreatDoor.tablesAreFair_data rows)
theorem tablesAreFair_h1 : (Rows.tablesAreFairRow.wf (OpenSpec.ofChange Rows.tablesAreFairSpec)) = true := by kernel_rfl
theorem tablesAreFair_h4 : (Tryz.f3.params.all (Tryz.pinned.checked.prog.readableRec ·)) = true := by kernel_rfl
theorem tablesAreFair_h5 : (namedTie Tryz.pinned.checked.prog Rows.tablesAreFairRow.named Rows.tablesAreFairSpec.vars) = true := by kernel_rfl
theorem tablesAreFair_h6 : ((Rows.tablesAreFairRow.stops == [])) = true := by kernel_rfl
theorem tablesAreFair_h8 : ((Rows.tablesAreFairRow.knobs == [])) = true := by kernel_rfl
theorem tablesAreFair_h10 : ((Rows.tablesAreFairRow.inPlace == Tryz.pinned.checked.prog.inPlace 3)) = true := by kernel_rfl
theorem tablesAreFair_h11 : ((Rows.tablesAreFairRow.unfollowed == Tryz.pinned.checked.prog.unfollowed 3)) = true := by kernel_rfl
theorem tablesAreFair_h12 : ((Rows.tablesAreFairRow.recurses == Tryz.pinned.checked.prog.recurses 3)) = true := by kernel_rfl
theorem tablesAreFair_h13 : ((Rows.tablesAreFairRow.named == Tryz.pinned.checked.prog.varsNamed 3)) = true := by kernel_rfl
theorem tablesAreFair_h14 : ((Rows.tablesAreFairRow.maps == (Tryz.f3.params.toList ++ Rows.tablesAreFairSpec.plain.varTypes Tryz.pinned.checked.prog).any (Tryz.pinned.checked.prog.mapsRec ·))) = true := by kernel_rfl
theorem tablesAreFair_h15 : ((Rows.tablesAreFairRow.ifaces == (Tryz.f3.params.toList ++ Rows.tablesAreFairSpec.plain.varTypes Tryz.pinned.checked.prog).any (Tryz.pinned.checked.prog.ifacesRec ·))) = true := by kernel_rfl
theorem tablesAreFair_h16 : ((Rows.tablesAreFairRow.mapsOut == Tryz.pinned.checked.prog.mapsAmong Tryz.f3.resultTypes.toList)) = true := by kernel_rfl
theorem tablesAreFair_h17 : ((Rows.tablesAreFairRow.loops == (Tryz.f3.params.toList ++ Rows.tablesAreFairSpec.plain.varTypes Tryz.pinned.checked.prog).any (Tryz.pinned.checked.prog.loopsFrom ·))) = true := by kernel_rfl
theorem tablesAreFair_h18 : ((Rows.tablesAreFairRow.wideKeys == (Tryz.f3.params.toList ++ Rows.tablesAreFairSpec.plain.varTypes Tryz.pinned.checked.prog ++ Tryz.f3.resultTypes.toList).any (Tryz.pinned.checked.prog.wideKeysFrom ·))) = true := by kernel_rfl
theorem tablesAreFair_h19 : (Rows.tablesAreFairSpec.vars.all (Tryz.pinned.checked.prog.varReadable ·)) = true := by kernel_rfl
theorem tablesAreFair_h20 : (Tryz.f3.resultTypes.all (fun t => Tryz.pinned.checked.prog.readableRec t && decide (t < Tryz.pinned.checked.prog.types.size))) = true := by kernel_rfl
theorem tablesAreFair_h21 : ((Rows.tablesAreFairRow.ifacesOut == Tryz.f3.resultTypes.toList.any (Tryz.pinned.checked.prog.ifacesRec ·))) = true := by kernel_rfl
theorem tablesAreFair_h22 : ((Rows.tablesAreFairRow.loopsOut == Tryz.f3.resultTypes.toList.any (Tryz.pinned.checked.prog.loopsFrom ·))) = true := by kernel_rfl
theorem tablesAreFair_h24 : (Rows.tablesAreFairRow.shortTexts.isNone) = true := by kernel_rfl
theorem tablesAreFair_h27 : ((Rows.tablesAreFairRow.lifted == Tryz.pinned.checked.prog.liftsFinal)) = true := by kernel_rfl
theorem tablesAreFair_h28 : ((Tryz.pinned.checked.prog.make == some Rows.tablesAreFairRow.make)) = true := by kernel_rfl
theorem tablesAreFair_h29 : ((Rows.tablesAreFairRow.kinds == (if Rows.tablesAreFairRow.domain.isEmpty then [] else Tryz.f3.params.toList.map fun t => match Tryz.pinned.checked.prog.underlying t with | some (.int k) => some k | _ => none))) = true := by kernel_rfl
theorem tablesAreFair_h30 : ((Rows.tablesAreFairRow.pinned == Rows.tablesAreFairRow.pinnedBy)) = true := by kernel_rfl
theorem tablesAreFair_h31 : ((Rows.tablesAreFairRow.veiled == (Tryz.f3.params.toList ++ Rows.tablesAreFairSpec.plain.varTypes Tryz.pinned.checked.prog ++ Tryz.f3.resultTypes.toList).any (Tryz.pinned.checked.prog.veiledRec ·))) = true := by kernel_rfl
theorem tablesAreFair_h32 : (Rows.tablesAreFairRow.veiledFits Tryz.pinned.checked.prog Tryz.f3.params.toList (Tryz.f3.params.toList ++ Rows.tablesAreFairSpec.plain.varTypes Tryz.pinned.checked.prog ++ Tryz.f3.resultTypes.toList)) = true := by kernel_rfl
theorem tablesAreFair_goes : false = Rows.tablesAreFairRow.goesBy Tryz.pinned.checked.prog := by kernel_rfl

set_option maxRecDepth 100000 in
theorem tablesAreFair_lifted (os : Os) (started : os.Started) (H : Type) (enc : TypeId × Value → H) :
    ReturnsInHanded {} Tryz.checked os 3 .any (fun w args => (Rows.tablesAreFairSpec.pre enc Tryz.prog Tryz.f3 Rows.tablesAreFairRow.domain false w args ∧ laidMetH Tryz.prog Rows.tablesAreFairRow.laid w) ∧ sizedMet enc Tryz.prog Tryz.f3 (OpenSpec.ofChange Rows.tablesAreFairSpec) false w args)
      (Rows.tablesAreFairSpec.post enc Tryz.prog Tryz.f3 false true false false) := by
  refine returnsInHanded_of_change_and (C := Tryz.checked) (X := fun w _ => laidMetH Tryz.prog Rows.tablesAreFairRow.laid w) (fun _ _ _ hh h => h.of_heap hh) ownOf started (by kernel_rfl) Tryz.func3
    (ChangeSpec.witness_shaped (enc := enc) (C := Tryz.checked) (os := os) (X := fun w _ => laidMetH Tryz.prog Rows.tablesAreFairRow.laid w) false (World.laidAll Tryz.prog os Rows.tablesAreFairRow.laid) #[.slice none 0 0] 8 (World.laidAll_os _ _ _)
      (World.shaped_of_ZipB (by kernel_rfl) (by kernel_rfl)) (by kernel_rfl) (by kernel_rfl) (by kernel_rfl)
      (by rw [MakeChecks.laidMetH_plain _ _ _ (by kernel_rfl)]; exact laidMet_laidAll _ (by kernel_rfl) (by kernel_rfl))) ?_
  intro W base args ds gs before hval hW _ _ _ _
  exact law_post Tryz.params3 (tB := 4) (by kernel_rfl) Tryz.underlying22 Tryz.underlying3 (by kernel_rfl) Tryz.underlying4 rfl (fun _ => rfl) tablesAreFair_call hval hW

set_option maxRecDepth 100000 in
theorem tablesAreFair_row : Rows.TablesAreFairSaid :=
  OpenClaim.holds_of_wide 3 Tryz.f3 rfl rfl rfl rfl rfl rfl rfl ⟨rfl, rfl, rfl, rfl, rfl⟩ rfl rfl rfl rfl rfl (by kernel_rfl) Tryz.func3 (facts_of tablesAreFair_h1 p_h2 p_h3 tablesAreFair_h4 tablesAreFair_h5 tablesAreFair_h6 p_h7 tablesAreFair_h8 p_h9 tablesAreFair_h10 tablesAreFair_h11 tablesAreFair_h12 tablesAreFair_h13 tablesAreFair_h14 tablesAreFair_h15 tablesAreFair_h16 tablesAreFair_h17 tablesAreFair_h18 tablesAreFair_h19 tablesAreFair_h20 tablesAreFair_h21 tablesAreFair_h22 p_h23 tablesAreFair_h24 p_h25 p_h26 tablesAreFair_h27 tablesAreFair_h28 tablesAreFair_h29 tablesAreFair_h30 tablesAreFair_h31 tablesAreFair_h32)
    (of_decide_eq_true (by kernel_rfl)) (by unfold Func.isWrapper; first | (rw [if_pos (by decide +kernel)]; kernel_rfl) | (rw [if_neg (by decide +kernel)]; exact ⟨rfl, rfl⟩))
    (fun os started H enc _ => tablesAreFair_lifted os started H enc)
set_option maxRecDepth 100000 in
theorem tablesAreFair_holds : Rows.TablesAreFairCardSaid :=
  Claim7.holds_tied_plain_at .later [] [.data, .pinned] true (true, "0e38197de5c54c515e1fb7d3a572fccf23ae831e87454f10cfb10b0b14bc31ae") false tablesAreFair_row (fun _ h => by cases h) (by kernel_rfl) (fun _ h => by cases h) tablesAreFair_row_tie rfl ⟨rfl, rfl⟩ pMain rfl
    (fun f fn hf hfn => by
      obtain rfl : f = 3 := Option.some.inj ((show Tryz.prog.funcNamed Rows.tablesAreFairRow.func = some 3 by kernel_rfl).symm.trans hf) |>.symm
      obtain rfl : fn = Tryz.f3 := (Option.some.inj (Tryz.func3.symm.trans hfn)).symm
      exact ⟨pLooks, fun j t ht => by
        rw [Tryz.params3] at ht
        have hm : t ∈ [22] := by simpa using Array.mem_of_getElem? ht
        have hall : ([22].all fun u => !Tryz.prog.wantsStandIn u) = true := by kernel_rfl
        exact (show Tryz.prog.wantsStandIn t = false by simpa using List.all_eq_true.1 hall t hm)⟩)
    tablesAreFair_goes
#print axioms tablesAreFair_holds
end Go.Proofs.YtmgdncpkhfgooaaGreatDoor
