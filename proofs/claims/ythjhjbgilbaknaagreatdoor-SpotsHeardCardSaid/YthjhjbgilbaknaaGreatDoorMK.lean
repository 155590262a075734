/-
  What is proved here: whatever numbers pileup's law SpotsHeard is called at, it answers true, and the slice reads as before. Conditions: those of the given card alone (the listed variables as the program's text lays them).
-/
import Derived.Test.YthjhjbgilbaknaaGreatDoorTie
import Derived.Test.YthjhjbgilbaknaaGreatDoorCards
import Derived.Test.YthjhjbgilbaknaaGreatDoorMJ
import Derived.Test.YthjhjbgilbaknaaGreatDoorMF
set_option linter.unusedSimpArgs false
set_option linter.unusedVariables false
set_option linter.unusedSectionVars false
namespace Go.Proofs.YthjhjbgilbaknaaGreatDoor
open Go Go.AL Go.ChangeShapes Go.WideShapes Go.ChangeAt Go.RowKit

theorem spotsHeard_call (rows : List (List G)) : ACallX Tryz.prog 3 [.listF [.int .i64] rows] [] (.lit (.bool true)) [] := SYthjhjbgilbaknaaGreatDoor.c_pilelaw2_SpotsHeard [.l rows] [.t true] (SYthjhjbgilbaknaaGreatDoor.spotsHeard_data rows)
theorem spotsHeard_h1 : (Rows.spotsHeardRow.wf (OpenSpec.ofChange Rows.spotsHeardSpec)) = true := by kernel_rfl
theorem spotsHeard_h4 : (Tryz.f3.params.all (Tryz.pinned.checked.prog.readableRec ·)) = true := by kernel_rfl
theorem spotsHeard_h5 : (namedTie Tryz.pinned.checked.prog Rows.spotsHeardRow.named Rows.spotsHeardSpec.vars) = true := by kernel_rfl
theorem spotsHeard_h6 : ((Rows.spotsHeardRow.stops == [])) = true := by kernel_rfl
theorem spotsHeard_h8 : ((Rows.spotsHeardRow.knobs == [])) = true := by kernel_rfl
theorem spotsHeard_h10 : ((Rows.spotsHeardRow.inPlace == Tryz.pinned.checked.prog.inPlace 3)) = true := by kernel_rfl
theorem spotsHeard_h11 : ((Rows.spotsHeardRow.unfollowed == Tryz.pinned.checked.prog.unfollowed 3)) = true := by kernel_rfl
theorem spotsHeard_h12 : ((Rows.spotsHeardRow.recurses == Tryz.pinned.checked.prog.recurses 3)) = true := by kernel_rfl
theorem spotsHeard_h13 : ((Rows.spotsHeardRow.named == Tryz.pinned.checked.prog.varsNamed 3)) = true := by kernel_rfl
theorem spotsHeard_h14 : ((Rows.spotsHeardRow.maps == (Tryz.f3.params.toList ++ Rows.spotsHeardSpec.plain.varTypes Tryz.pinned.checked.prog).any (Tryz.pinned.checked.prog.mapsRec ·))) = true := by kernel_rfl
theorem spotsHeard_h15 : ((Rows.spotsHeardRow.ifaces == (Tryz.f3.params.toList ++ Rows.spotsHeardSpec.plain.varTypes Tryz.pinned.checked.prog).any (Tryz.pinned.checked.prog.ifacesRec ·))) = true := by kernel_rfl
theorem spotsHeard_h16 : ((Rows.spotsHeardRow.mapsOut == Tryz.pinned.checked.prog.mapsAmong Tryz.f3.resultTypes.toList)) = true := by kernel_rfl
theorem spotsHeard_h17 : ((Rows.spotsHeardRow.loops == (Tryz.f3.params.toList ++ Rows.spotsHeardSpec.plain.varTypes Tryz.pinned.checked.prog).any (Tryz.pinned.checked.prog.loopsFrom ·))) = true := by kernel_rfl
theorem spotsHeard_h18 : ((Rows.spotsHeardRow.wideKeys == (Tryz.f3.params.toList ++ Rows.spotsHeardSpec.plain.varTypes Tryz.pinned.checked.prog ++ Tryz.f3.resultTypes.toList).any (Tryz.pinned.checked.prog.wideKeysFrom ·))) = true := by kernel_rfl
theorem spotsHeard_h19 : (Rows.spotsHeardSpec.vars.all (Tryz.pinned.checked.prog.varReadable ·)) = true := by kernel_rfl
theorem spotsHeard_h20 : (Tryz.f3.resultTypes.all (fun t => Tryz.pinned.checked.prog.readableRec t && decide (t < Tryz.pinned.checked.prog.types.size))) = true := by kernel_rfl
theorem spotsHeard_h21 : ((Rows.spotsHeardRow.ifacesOut == Tryz.f3.resultTypes.toList.any (Tryz.pinned.checked.prog.ifacesRec ·))) = true := by kernel_rfl
theorem spotsHeard_h22 : ((Rows.spotsHeardRow.loopsOut == Tryz.f3.resultTypes.toList.any (Tryz.pinned.checked.prog.loopsFrom ·))) = true := by kernel_rfl
theorem spotsHeard_h24 : (Rows.spotsHeardRow.shortTexts.isNone) = true := by kernel_rfl
theorem spotsHeard_h27 : ((Rows.spotsHeardRow.lifted == Tryz.pinned.checked.prog.liftsFinal)) = true := by kernel_rfl
theorem spotsHeard_h28 : ((Tryz.pinned.checked.prog.make == some Rows.spotsHeardRow.make)) = true := by kernel_rfl
theorem spotsHeard_h29 : ((Rows.spotsHeardRow.kinds == (if Rows.spotsHeardRow.domain.isEmpty then [] else Tryz.f3.params.toList.map fun t => match Tryz.pinned.checked.prog.underlying t with | some (.int k) => some k | _ => none))) = true := by kernel_rfl
theorem spotsHeard_h30 : ((Rows.spotsHeardRow.pinned == Rows.spotsHeardRow.pinnedBy)) = true := by kernel_rfl
theorem spotsHeard_h31 : ((Rows.spotsHeardRow.veiled == (Tryz.f3.params.toList ++ Rows.spotsHeardSpec.plain.varTypes Tryz.pinned.checked.prog ++ Tryz.f3.resultTypes.toList).any (Tryz.pinned.checked.prog.veiledRec ·))) = true := by kernel_rfl
theorem spotsHeard_h32 : (Rows.spotsHeardRow.veiledFits Tryz.pinned.checked.prog Tryz.f3.params.toList (Tryz.f3.params.toList ++ Rows.spotsHeardSpec.plain.varTypes Tryz.pinned.checked.prog ++ Tryz.f3.resultTypes.toList)) = true := by kernel_rfl
theorem spotsHeard_goes : false = Rows.spotsHeardRow.goesBy Tryz.pinned.checked.prog := by kernel_rfl

set_option maxRecDepth 100000 in
theorem spotsHeard_lifted (os : Os) (started : os.Started) (H : Type) (enc : TypeId × Value → H) :
    ReturnsInHanded {} Tryz.checked os 3 .any (fun w args => (Rows.spotsHeardSpec.pre enc Tryz.prog Tryz.f3 Rows.spotsHeardRow.domain false w args ∧ laidMetH Tryz.prog Rows.spotsHeardRow.laid w) ∧ sizedMet enc Tryz.prog Tryz.f3 (OpenSpec.ofChange Rows.spotsHeardSpec) false w args)
      (Rows.spotsHeardSpec.post enc Tryz.prog Tryz.f3 false true false false) := by
  refine returnsInHanded_of_change_and (C := Tryz.checked) (X := fun w _ => laidMetH Tryz.prog Rows.spotsHeardRow.laid w) (fun _ _ _ hh h => h.of_heap hh) ownOf started (by kernel_rfl) Tryz.func3
    (ChangeSpec.witness_shaped (enc := enc) (C := Tryz.checked) (os := os) (X := fun w _ => laidMetH Tryz.prog Rows.spotsHeardRow.laid w) false (World.laidAll Tryz.prog os Rows.spotsHeardRow.laid) #[.slice none 0 0] 8 (World.laidAll_os _ _ _)
      (World.shaped_of_ZipB (by kernel_rfl) (by kernel_rfl)) (by kernel_rfl) (by kernel_rfl) (by kernel_rfl)
      (by rw [MakeChecks.laidMetH_plain _ _ _ (by kernel_rfl)]; exact laidMet_laidAll _ (by kernel_rfl) (by kernel_rfl))) ?_
  intro W base args ds gs before hval hW _ _ hx _
  have htab : ∀ p ∈ tabZ, ∃ t f, W.heap[p.1]? = some (.cells p.2 t f) := by
    intro p hp
    unfold tabZ at hp
    cases hp
  exact law_post Tryz.params3 (tB := 4) (by kernel_rfl) Tryz.underlying22 Tryz.underlying3 (by kernel_rfl) Tryz.underlying4 rfl (fun _ => rfl) spotsHeard_call htab hval hW

set_option maxRecDepth 100000 in
theorem spotsHeard_row : Rows.SpotsHeardSaid :=
  OpenClaim.holds_of_wide 3 Tryz.f3 rfl rfl rfl rfl rfl rfl rfl ⟨rfl, rfl, rfl, rfl, rfl⟩ rfl rfl rfl rfl rfl (by kernel_rfl) Tryz.func3 (facts_of spotsHeard_h1 p_h2 p_h3 spotsHeard_h4 spotsHeard_h5 spotsHeard_h6 p_h7 spotsHeard_h8 p_h9 spotsHeard_h10 spotsHeard_h11 spotsHeard_h12 spotsHeard_h13 spotsHeard_h14 spotsHeard_h15 spotsHeard_h16 spotsHeard_h17 spotsHeard_h18 spotsHeard_h19 spotsHeard_h20 spotsHeard_h21 spotsHeard_h22 p_h23 spotsHeard_h24 p_h25 p_h26 spotsHeard_h27 spotsHeard_h28 spotsHeard_h29 spotsHeard_h30 spotsHeard_h31 spotsHeard_h32)
    (of_decide_eq_true (by kernel_rfl)) (by unfold Func.isWrapper; first | (rw [if_pos (by decide +kernel)]; kernel_rfl) | (rw [if_neg (by decide +kernel)]; exact ⟨rfl, rfl⟩))
    (fun os started H enc _ => spotsHeard_lifted os started H enc)
set_option maxRecDepth 100000 in
theorem spotsHeard_holds : Rows.SpotsHeardCardSaid :=
  Claim7.holds_tied_plain_at .later [] [.data, .data, .data, .data, .pinned] true (true, "228f3384cfe63186613678d7ae7ac0a5700fbac0b998f4c697bc88a402d12d8d") false spotsHeard_row (fun _ h => by cases h) (by kernel_rfl) (fun _ h => by cases h) spotsHeard_row_tie rfl ⟨rfl, rfl⟩ pMain rfl
    (fun f fn hf hfn => by
      obtain rfl : f = 3 := Option.some.inj ((show Tryz.prog.funcNamed Rows.spotsHeardRow.func = some 3 by kernel_rfl).symm.trans hf) |>.symm
      obtain rfl : fn = Tryz.f3 := (Option.some.inj (Tryz.func3.symm.trans hfn)).symm
      exact ⟨pLooks, fun j t ht => by
        rw [Tryz.params3] at ht
        have hm : t ∈ [22] := by simpa using Array.mem_of_getElem? ht
        have hall : ([22].all fun u => !Tryz.prog.wantsStandIn u) = true := by kernel_rfl
        exact (show Tryz.prog.wantsStandIn t = false by simpa using List.all_eq_true.1 hall t hm)⟩)
    spotsHeard_goes
#print axioms spotsHeard_holds
end Go.Proofs.YthjhjbgilbaknaaGreatDoor
