/-
  What is proved here: whatever numbers pileup's law CardsConfirm is called at, it answers true, and the slice reads as before. Conditions: those of the given card alone (the listed variables as the program's text lays them).
-/
import Derived.Test.YthnhleemkjpigaaGreatDoorTie
import Derived.Test.YthnhleemkjpigaaGreatDoorCards
import Derived.Test.YthnhleemkjpigaaGreatDoorMJ
import Derived.Test.YthnhleemkjpigaaGreatDoorMF
set_option linter.unusedSimpArgs false
set_option linter.unusedVariables false
set_option linter.unusedSectionVars false
namespace Go.Proofs.YthnhleemkjpigaaGreatDoor
open Go Go.AL Go.ChangeShapes Go.WideShapes Go.ChangeAt Go.RowKit

theorem cardsConfirm_call (rows : List (List G)) : ACallX Tryz.prog 4 [.listF [.int .i64] rows] [] (.lit (.bool true)) [] := SYthnhleemkjpigaaGreatDoor.c_pilelaw2_CardsConfirm [.l rows] [.t true] (SYthnhleemkjpigaaGreatDoor.cardsConfirm_data rows)
theorem cardsConfirm_h1 : (Rows.cardsConfirmRow.wf (OpenSpec.ofChange Rows.cardsConfirmSpec)) = true := by kernel_rfl
theorem cardsConfirm_h4 : (Tryz.f4.params.all (Tryz.pinned.checked.prog.readableRec ·)) = true := by kernel_rfl
theorem cardsConfirm_h5 : (namedTie Tryz.pinned.checked.prog Rows.cardsConfirmRow.named Rows.cardsConfirmSpec.vars) = true := by kernel_rfl
theorem cardsConfirm_h6 : ((Rows.cardsConfirmRow.stops == [])) = true := by kernel_rfl
theorem cardsConfirm_h8 : ((Rows.cardsConfirmRow.knobs == [])) = true := by kernel_rfl
theorem cardsConfirm_h10 : ((Rows.cardsConfirmRow.inPlace == Tryz.pinned.checked.prog.inPlace 4)) = true := by kernel_rfl
theorem cardsConfirm_h11 : ((Rows.cardsConfirmRow.unfollowed == Tryz.pinned.checked.prog.unfollowed 4)) = true := by kernel_rfl
theorem cardsConfirm_h12 : ((Rows.cardsConfirmRow.recurses == Tryz.pinned.checked.prog.recurses 4)) = true := by kernel_rfl
theorem cardsConfirm_h13 : ((Rows.cardsConfirmRow.named == Tryz.pinned.checked.prog.varsNamed 4)) = true := by kernel_rfl
theorem cardsConfirm_h14 : ((Rows.cardsConfirmRow.maps == (Tryz.f4.params.toList ++ Rows.cardsConfirmSpec.plain.varTypes Tryz.pinned.checked.prog).any (Tryz.pinned.checked.prog.mapsRec ·))) = true := by kernel_rfl
theorem cardsConfirm_h15 : ((Rows.cardsConfirmRow.ifaces == (Tryz.f4.params.toList ++ Rows.cardsConfirmSpec.plain.varTypes Tryz.pinned.checked.prog).any (Tryz.pinned.checked.prog.ifacesRec ·))) = true := by kernel_rfl
theorem cardsConfirm_h16 : ((Rows.cardsConfirmRow.mapsOut == Tryz.pinned.checked.prog.mapsAmong Tryz.f4.resultTypes.toList)) = true := by kernel_rfl
theorem cardsConfirm_h17 : ((Rows.cardsConfirmRow.loops == (Tryz.f4.params.toList ++ Rows.cardsConfirmSpec.plain.varTypes Tryz.pinned.checked.prog).any (Tryz.pinned.checked.prog.loopsFrom ·))) = true := by kernel_rfl
theorem cardsConfirm_h18 : ((Rows.cardsConfirmRow.wideKeys == (Tryz.f4.params.toList ++ Rows.cardsConfirmSpec.plain.varTypes Tryz.pinned.checked.prog ++ Tryz.f4.resultTypes.toList).any (Tryz.pinned.checked.prog.wideKeysFrom ·))) = true := by kernel_rfl
theorem cardsConfirm_h19 : (Rows.cardsConfirmSpec.vars.all (Tryz.pinned.checked.prog.varReadable ·)) = true := by kernel_rfl
theorem cardsConfirm_h20 : (Tryz.f4.resultTypes.all (fun t => Tryz.pinned.checked.prog.readableRec t && decide (t < Tryz.pinned.checked.prog.types.size))) = true := by kernel_rfl
theorem cardsConfirm_h21 : ((Rows.cardsConfirmRow.ifacesOut == Tryz.f4.resultTypes.toList.any (Tryz.pinned.checked.prog.ifacesRec ·))) = true := by kernel_rfl
theorem cardsConfirm_h22 : ((Rows.cardsConfirmRow.loopsOut == Tryz.f4.resultTypes.toList.any (Tryz.pinned.checked.prog.loopsFrom ·))) = true := by kernel_rfl
theorem cardsConfirm_h24 : (Rows.cardsConfirmRow.shortTexts.isNone) = true := by kernel_rfl
theorem cardsConfirm_h27 : ((Rows.cardsConfirmRow.lifted == Tryz.pinned.checked.prog.liftsFinal)) = true := by kernel_rfl
theorem cardsConfirm_h28 : ((Tryz.pinned.checked.prog.make == some Rows.cardsConfirmRow.make)) = true := by kernel_rfl
theorem cardsConfirm_h29 : ((Rows.cardsConfirmRow.kinds == (if Rows.cardsConfirmRow.domain.isEmpty then [] else Tryz.f4.params.toList.map fun t => match Tryz.pinned.checked.prog.underlying t with | some (.int k) => some k | _ => none))) = true := by kernel_rfl
theorem cardsConfirm_h30 : ((Rows.cardsConfirmRow.pinned == Rows.cardsConfirmRow.pinnedBy)) = true := by kernel_rfl
theorem cardsConfirm_h31 : ((Rows.cardsConfirmRow.veiled == (Tryz.f4.params.toList ++ Rows.cardsConfirmSpec.plain.varTypes Tryz.pinned.checked.prog ++ Tryz.f4.resultTypes.toList).any (Tryz.pinned.checked.prog.veiledRec ·))) = true := by kernel_rfl
theorem cardsConfirm_h32 : (Rows.cardsConfirmRow.veiledFits Tryz.pinned.checked.prog Tryz.f4.params.toList (Tryz.f4.params.toList ++ Rows.cardsConfirmSpec.plain.varTypes Tryz.pinned.checked.prog ++ Tryz.f4.resultTypes.toList)) = true := by kernel_rfl
theorem cardsConfirm_goes : false = Rows.cardsConfirmRow.goesBy Tryz.pinned.checked.prog := by kernel_rfl

set_option maxRecDepth 100000 in
theorem cardsConfirm_lifted (os : Os) (started : os.Started) (H : Type) (enc : TypeId × Value → H) :
    ReturnsInHanded {} Tryz.checked os 4 .any (fun w args => (Rows.cardsConfirmSpec.pre enc Tryz.prog Tryz.f4 Rows.cardsConfirmRow.domain false w args ∧ laidMetH Tryz.prog Rows.cardsConfirmRow.laid w) ∧ sizedMet enc Tryz.prog Tryz.f4 (OpenSpec.ofChange Rows.cardsConfirmSpec) false w args)
      (Rows.cardsConfirmSpec.post enc Tryz.prog Tryz.f4 false true false false) := by
  refine returnsInHanded_of_change_and (C := Tryz.checked) (X := fun w _ => laidMetH Tryz.prog Rows.cardsConfirmRow.laid w) (fun _ _ _ hh h => h.of_heap hh) ownOf started (by kernel_rfl) Tryz.func4
    (ChangeSpec.witness_shaped (enc := enc) (C := Tryz.checked) (os := os) (X := fun w _ => laidMetH Tryz.prog Rows.cardsConfirmRow.laid w) false (World.laidAll Tryz.prog os Rows.cardsConfirmRow.laid) #[.slice none 0 0] 8 (World.laidAll_os _ _ _)
      (World.shaped_of_ZipB (by kernel_rfl) (by kernel_rfl)) (by kernel_rfl) (by kernel_rfl) (by kernel_rfl)
      (by rw [MakeChecks.laidMetH_plain _ _ _ (by kernel_rfl)]; exact laidMet_laidAll _ (by kernel_rfl) (by kernel_rfl))) ?_
  intro W base args ds gs before hval hW _ _ _ _
  exact law_post Tryz.params4 (tB := 4) (by kernel_rfl) Tryz.underlying22 Tryz.underlying3 (by kernel_rfl) Tryz.underlying4 rfl (fun _ => rfl) cardsConfirm_call hval hW

set_option maxRecDepth 100000 in
theorem cardsConfirm_row : Rows.CardsConfirmSaid :=
  OpenClaim.holds_of_wide 4 Tryz.f4 rfl rfl rfl rfl rfl rfl rfl ⟨rfl, rfl, rfl, rfl, rfl⟩ rfl rfl rfl rfl rfl (by kernel_rfl) Tryz.func4 (facts_of cardsConfirm_h1 p_h2 p_h3 cardsConfirm_h4 cardsConfirm_h5 cardsConfirm_h6 p_h7 cardsConfirm_h8 p_h9 cardsConfirm_h10 cardsConfirm_h11 cardsConfirm_h12 cardsConfirm_h13 cardsConfirm_h14 cardsConfirm_h15 cardsConfirm_h16 cardsConfirm_h17 cardsConfirm_h18 cardsConfirm_h19 cardsConfirm_h20 cardsConfirm_h21 cardsConfirm_h22 p_h23 cardsConfirm_h24 p_h25 p_h26 cardsConfirm_h27 cardsConfirm_h28 cardsConfirm_h29 cardsConfirm_h30 cardsConfirm_h31 cardsConfirm_h32)
    (of_decide_eq_true (by kernel_rfl)) (by unfold Func.isWrapper; first | (rw [if_pos (by decide +kernel)]; kernel_rfl) | (rw [if_neg (by decide +kernel)]; exact ⟨rfl, rfl⟩))
    (fun os started H enc _ => cardsConfirm_lifted os started H enc)
set_option maxRecDepth 100000 in
theorem cardsConfirm_holds : Rows.CardsConfirmCardSaid :=
  Claim7.holds_tied_plain_at .later [] [.data, .pinned] true (true, "20b3b9bac6bd2f46df80af48f7459d951cc4bbc53917a483e47da6dfd57536be") false cardsConfirm_row (fun _ h => by cases h) (by kernel_rfl) (fun _ h => by cases h) cardsConfirm_row_tie rfl ⟨rfl, rfl⟩ pMain rfl
    (fun f fn hf hfn => by
      obtain rfl : f = 4 := Option.some.inj ((show Tryz.prog.funcNamed Rows.cardsConfirmRow.func = some 4 by kernel_rfl).symm.trans hf) |>.symm
      obtain rfl : fn = Tryz.f4 := (Option.some.inj (Tryz.func4.symm.trans hfn)).symm
      exact ⟨pLooks, fun j t ht => by
        rw [Tryz.params4] at ht
        have hm : t ∈ [22] := by simpa using Array.mem_of_getElem? ht
        have hall : ([22].all fun u => !Tryz.prog.wantsStandIn u) = true := by kernel_rfl
        exact (show Tryz.prog.wantsStandIn t = false by simpa using List.all_eq_true.1 hall t hm)⟩)
    cardsConfirm_goes
#print axioms cardsConfirm_holds
end Go.Proofs.YthnhleemkjpigaaGreatDoor
