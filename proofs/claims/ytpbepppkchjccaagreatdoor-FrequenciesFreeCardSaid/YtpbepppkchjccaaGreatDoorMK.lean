/-
  What is proved here: whatever numbers pileup's law FrequenciesFree is called at, it answers true, and the slice reads as before. Conditions: those of the given card alone (the listed variables as the program's text lays them).
-/
import Derived.Test.YtpbepppkchjccaaGreatDoorTie
import Derived.Test.YtpbepppkchjccaaGreatDoorCards
import Derived.Test.YtpbepppkchjccaaGreatDoorMJ
import Derived.Test.YtpbepppkchjccaaGreatDoorMF
set_option linter.unusedSimpArgs false
set_option linter.unusedVariables false
set_option linter.unusedSectionVars false
namespace Go.Proofs.YtpbepppkchjccaaGreatDoor
open Go Go.AL Go.ChangeShapes Go.WideShapes Go.ChangeAt Go.RowKit

theorem frequenciesFree_call (rows : List (List G)) : ACallX Tryz.prog 6 [.listF [.int .i64] rows] [] (.lit (.bool true)) [] := SYtpbepppkchjccaaGreatDoor.c_pilelaw2_FrequenciesFree [.l rows] [.t true] (SYtpbepppkchjccaaGreatDoor.frequenciesFree_data rows)
theorem frequenciesFree_h1 : (Rows.frequenciesFreeRow.wf (OpenSpec.ofChange Rows.frequenciesFreeSpec)) = true := by kernel_rfl
theorem frequenciesFree_h4 : (Tryz.f6.params.all (Tryz.pinned.checked.prog.readableRec ·)) = true := by kernel_rfl
theorem frequenciesFree_h5 : (namedTie Tryz.pinned.checked.prog Rows.frequenciesFreeRow.named Rows.frequenciesFreeSpec.vars) = true := by kernel_rfl
theorem frequenciesFree_h6 : ((Rows.frequenciesFreeRow.stops == [])) = true := by kernel_rfl
theorem frequenciesFree_h8 : ((Rows.frequenciesFreeRow.knobs == [])) = true := by kernel_rfl
theorem frequenciesFree_h10 : ((Rows.frequenciesFreeRow.inPlace == Tryz.pinned.checked.prog.inPlace 6)) = true := by kernel_rfl
theorem frequenciesFree_h11 : ((Rows.frequenciesFreeRow.unfollowed == Tryz.pinned.checked.prog.unfollowed 6)) = true := by kernel_rfl
theorem frequenciesFree_h12 : ((Rows.frequenciesFreeRow.recurses == Tryz.pinned.checked.prog.recurses 6)) = true := by kernel_rfl
theorem frequenciesFree_h13 : ((Rows.frequenciesFreeRow.named == Tryz.pinned.checked.prog.varsNamed 6)) = true := by kernel_rfl
theorem frequenciesFree_h14 : ((Rows.frequenciesFreeRow.maps == (Tryz.f6.params.toList ++ Rows.frequenciesFreeSpec.plain.varTypes Tryz.pinned.checked.prog).any (Tryz.pinned.checked.prog.mapsRec ·))) = true := by kernel_rfl
theorem frequenciesFree_h15 : ((Rows.frequenciesFreeRow.ifaces == (Tryz.f6.params.toList ++ Rows.frequenciesFreeSpec.plain.varTypes Tryz.pinned.checked.prog).any (Tryz.pinned.checked.prog.ifacesRec ·))) = true := by kernel_rfl
theorem frequenciesFree_h16 : ((Rows.frequenciesFreeRow.mapsOut == Tryz.pinned.checked.prog.mapsAmong Tryz.f6.resultTypes.toList)) = true := by kernel_rfl
theorem frequenciesFree_h17 : ((Rows.frequenciesFreeRow.loops == (Tryz.f6.params.toList ++ Rows.frequenciesFreeSpec.plain.varTypes Tryz.pinned.checked.prog).any (Tryz.pinned.checked.prog.loopsFrom ·))) = true := by kernel_rfl
theorem frequenciesFree_h18 : ((Rows.frequenciesFreeRow.wideKeys == (Tryz.f6.params.toList ++ Rows.frequenciesFreeSpec.plain.varTypes Tryz.pinned.checked.prog ++ Tryz.f6.resultTypes.toList).any (Tryz.pinned.checked.prog.wideKeysFrom ·))) = true := by kernel_rfl
theorem frequenciesFree_h19 : (Rows.frequenciesFreeSpec.vars.all (Tryz.pinned.checked.prog.varReadable ·)) = true := by kernel_rfl
theorem frequenciesFree_h20 : (Tryz.f6.resultTypes.all (fun t => Tryz.pinned.checked.prog.readableRec t && decide (t < Tryz.pinned.checked.prog.types.size))) = true := by kernel_rfl
theorem frequenciesFree_h21 : ((Rows.frequenciesFreeRow.ifacesOut == Tryz.f6.resultTypes.toList.any (Tryz.pinned.checked.prog.ifacesRec ·))) = true := by kernel_rfl
theorem frequenciesFree_h22 : ((Rows.frequenciesFreeRow.loopsOut == Tryz.f6.resultTypes.toList.any (Tryz.pinned.checked.prog.loopsFrom ·))) = true := by kernel_rfl
theorem frequenciesFree_h24 : (Rows.frequenciesFreeRow.shortTexts.isNone) = true := by kernel_rfl
theorem frequenciesFree_h27 : ((Rows.frequenciesFreeRow.lifted == Tryz.pinned.checked.prog.liftsFinal)) = true := by kernel_rfl
theorem frequenciesFree_h28 : ((Tryz.pinned.checked.prog.make == some Rows.frequenciesFreeRow.make)) = true := by kernel_rfl
theorem frequenciesFree_h29 : ((Rows.frequenciesFreeRow.kinds == (if Rows.frequenciesFreeRow.domain.isEmpty then [] else Tryz.f6.params.toList.map fun t => match Tryz.pinned.checked.prog.underlying t with | some (.int k) => some k | _ => none))) = true := by kernel_rfl
theorem frequenciesFree_h30 : ((Rows.frequenciesFreeRow.pinned == Rows.frequenciesFreeRow.pinnedBy)) = true := by kernel_rfl
theorem frequenciesFree_h31 : ((Rows.frequenciesFreeRow.veiled == (Tryz.f6.params.toList ++ Rows.frequenciesFreeSpec.plain.varTypes Tryz.pinned.checked.prog ++ Tryz.f6.resultTypes.toList).any (Tryz.pinned.checked.prog.veiledRec ·))) = true := by kernel_rfl
theorem frequenciesFree_h32 : (Rows.frequenciesFreeRow.veiledFits Tryz.pinned.checked.prog Tryz.f6.params.toList (Tryz.f6.params.toList ++ Rows.frequenciesFreeSpec.plain.varTypes Tryz.pinned.checked.prog ++ Tryz.f6.resultTypes.toList)) = true := by kernel_rfl
theorem frequenciesFree_goes : false = Rows.frequenciesFreeRow.goesBy Tryz.pinned.checked.prog := by kernel_rfl

set_option maxRecDepth 100000 in
theorem frequenciesFree_lifted (os : Os) (started : os.Started) (H : Type) (enc : TypeId × Value → H) :
    ReturnsInHanded {} Tryz.checked os 6 .any (fun w args => (Rows.frequenciesFreeSpec.pre enc Tryz.prog Tryz.f6 Rows.frequenciesFreeRow.domain false w args ∧ laidMetH Tryz.prog Rows.frequenciesFreeRow.laid w) ∧ sizedMet enc Tryz.prog Tryz.f6 (OpenSpec.ofChange Rows.frequenciesFreeSpec) false w args)
      (Rows.frequenciesFreeSpec.post enc Tryz.prog Tryz.f6 false true false false) := by
  refine returnsInHanded_of_change_and (C := Tryz.checked) (X := fun w _ => laidMetH Tryz.prog Rows.frequenciesFreeRow.laid w) (fun _ _ _ hh h => h.of_heap hh) ownOf started (by kernel_rfl) Tryz.func6
    (ChangeSpec.witness_shaped (enc := enc) (C := Tryz.checked) (os := os) (X := fun w _ => laidMetH Tryz.prog Rows.frequenciesFreeRow.laid w) false (World.laidAll Tryz.prog os Rows.frequenciesFreeRow.laid) #[.slice none 0 0] 8 (World.laidAll_os _ _ _)
      (World.shaped_of_ZipB (by kernel_rfl) (by kernel_rfl)) (by kernel_rfl) (by kernel_rfl) (by kernel_rfl)
      (by rw [MakeChecks.laidMetH_plain _ _ _ (by kernel_rfl)]; exact laidMet_laidAll _ (by kernel_rfl) (by kernel_rfl))) ?_
  intro W base args ds gs before hval hW _ _ hx _
  have htab : ∀ p ∈ tabZ, ∃ t f, W.heap[p.1]? = some (.cells p.2 t f) := by
    intro p hp
    unfold tabZ at hp
    cases hp
  exact law_post Tryz.params6 (tB := 4) (by kernel_rfl) Tryz.underlying22 Tryz.underlying3 (by kernel_rfl) Tryz.underlying4 rfl (fun _ => rfl) frequenciesFree_call htab hval hW

set_option maxRecDepth 100000 in
theorem frequenciesFree_row : Rows.FrequenciesFreeSaid :=
  OpenClaim.holds_of_wide 6 Tryz.f6 rfl rfl rfl rfl rfl rfl rfl ⟨rfl, rfl, rfl, rfl, rfl⟩ rfl rfl rfl rfl rfl (by kernel_rfl) Tryz.func6 (facts_of frequenciesFree_h1 p_h2 p_h3 frequenciesFree_h4 frequenciesFree_h5 frequenciesFree_h6 p_h7 frequenciesFree_h8 p_h9 frequenciesFree_h10 frequenciesFree_h11 frequenciesFree_h12 frequenciesFree_h13 frequenciesFree_h14 frequenciesFree_h15 frequenciesFree_h16 frequenciesFree_h17 frequenciesFree_h18 frequenciesFree_h19 frequenciesFree_h20 frequenciesFree_h21 frequenciesFree_h22 p_h23 frequenciesFree_h24 p_h25 p_h26 frequenciesFree_h27 frequenciesFree_h28 frequenciesFree_h29 frequenciesFree_h30 frequenciesFree_h31 frequenciesFree_h32)
    (of_decide_eq_true (by kernel_rfl)) (by unfold Func.isWrapper; first | (rw [if_pos (by decide +kernel)]; kernel_rfl) | (rw [if_neg (by decide +kernel)]; exact ⟨rfl, rfl⟩))
    (fun os started H enc _ => frequenciesFree_lifted os started H enc)
set_option maxRecDepth 100000 in
theorem frequenciesFree_holds : Rows.FrequenciesFreeCardSaid :=
  Claim7.holds_tied_plain_at .later [] [.data, .pinned] true (true, "439a06d9cbcad5050832829ae58aca0304a881c53f546dab3b9e3d4560f46f37") false frequenciesFree_row (fun _ h => by cases h) (by kernel_rfl) (fun _ h => by cases h) frequenciesFree_row_tie rfl ⟨rfl, rfl⟩ pMain rfl
    (fun f fn hf hfn => by
      obtain rfl : f = 6 := Option.some.inj ((show Tryz.prog.funcNamed Rows.frequenciesFreeRow.func = some 6 by kernel_rfl).symm.trans hf) |>.symm
      obtain rfl : fn = Tryz.f6 := (Option.some.inj (Tryz.func6.symm.trans hfn)).symm
      exact ⟨pLooks, fun j t ht => by
        rw [Tryz.params6] at ht
        have hm : t ∈ [22] := by simpa using Array.mem_of_getElem? ht
        have hall : ([22].all fun u => !Tryz.prog.wantsStandIn u) = true := by kernel_rfl
        exact (show Tryz.prog.wantsStandIn t = false by simpa using List.all_eq_true.1 hall t hm)⟩)
    frequenciesFree_goes
#print axioms frequenciesFree_holds
end Go.Proofs.YtpbepppkchjccaaGreatDoor
