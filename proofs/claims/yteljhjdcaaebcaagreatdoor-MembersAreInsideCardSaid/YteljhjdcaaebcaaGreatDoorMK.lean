/-
  What is proved here: whatever numbers pileup's law MembersAreInside is called at, it answers true, and the slice reads as before. Conditions: those of the given card alone (the listed variables as the program's text lays them).
-/
import Derived.Test.YteljhjdcaaebcaaGreatDoorTie
import Derived.Test.YteljhjdcaaebcaaGreatDoorCards
import Derived.Test.YteljhjdcaaebcaaGreatDoorMJ
import Derived.Test.YteljhjdcaaebcaaGreatDoorMF
set_option linter.unusedSimpArgs false
set_option linter.unusedVariables false
set_option linter.unusedSectionVars false
namespace Go.Proofs.YteljhjdcaaebcaaGreatDoor
open Go Go.AL Go.ChangeShapes Go.WideShapes Go.ChangeAt Go.RowKit

theorem membersAreInside_call (rows : List (List G)) : ACallX Tryz.prog 3 [.listF [.int .i64] rows] [] (.lit (.bool true)) [] := SYteljhjdcaaebcaaGreatDoor.c_pilekeep2_MembersAreInside [.l rows] [.t true] (SYteljhjdcaaebcaaGreatDoor.membersAreInside_data rows)
theorem membersAreInside_h1 : (Rows.membersAreInsideRow.wf (OpenSpec.ofChange Rows.membersAreInsideSpec)) = true := by kernel_rfl
theorem membersAreInside_h4 : (Tryz.f3.params.all (Tryz.pinned.checked.prog.readableRec ·)) = true := by kernel_rfl
theorem membersAreInside_h5 : (namedTie Tryz.pinned.checked.prog Rows.membersAreInsideRow.named Rows.membersAreInsideSpec.vars) = true := by kernel_rfl
theorem membersAreInside_h6 : ((Rows.membersAreInsideRow.stops == [])) = true := by kernel_rfl
theorem membersAreInside_h8 : ((Rows.membersAreInsideRow.knobs == [])) = true := by kernel_rfl
theorem membersAreInside_h10 : ((Rows.membersAreInsideRow.inPlace == Tryz.pinned.checked.prog.inPlace 3)) = true := by kernel_rfl
theorem membersAreInside_h11 : ((Rows.membersAreInsideRow.unfollowed == Tryz.pinned.checked.prog.unfollowed 3)) = true := by kernel_rfl
theorem membersAreInside_h12 : ((Rows.membersAreInsideRow.recurses == Tryz.pinned.checked.prog.recurses 3)) = true := by kernel_rfl
theorem membersAreInside_h13 : ((Rows.membersAreInsideRow.named == Tryz.pinned.checked.prog.varsNamed 3)) = true := by kernel_rfl
theorem membersAreInside_h14 : ((Rows.membersAreInsideRow.maps == (Tryz.f3.params.toList ++ Rows.membersAreInsideSpec.plain.varTypes Tryz.pinned.checked.prog).any (Tryz.pinned.checked.prog.mapsRec ·))) = true := by kernel_rfl
theorem membersAreInside_h15 : ((Rows.membersAreInsideRow.ifaces == (Tryz.f3.params.toList ++ Rows.membersAreInsideSpec.plain.varTypes Tryz.pinned.checked.prog).any (Tryz.pinned.checked.prog.ifacesRec ·))) = true := by kernel_rfl
theorem membersAreInside_h16 : ((Rows.membersAreInsideRow.mapsOut == Tryz.pinned.checked.prog.mapsAmong Tryz.f3.resultTypes.toList)) = true := by kernel_rfl
theorem membersAreInside_h17 : ((Rows.membersAreInsideRow.loops == (Tryz.f3.params.toList ++ Rows.membersAreInsideSpec.plain.varTypes Tryz.pinned.checked.prog).any (Tryz.pinned.checked.prog.loopsFrom ·))) = true := by kernel_rfl
theorem membersAreInside_h18 : ((Rows.membersAreInsideRow.wideKeys == (Tryz.f3.params.toList ++ Rows.membersAreInsideSpec.plain.varTypes Tryz.pinned.checked.prog ++ Tryz.f3.resultTypes.toList).any (Tryz.pinned.checked.prog.wideKeysFrom ·))) = true := by kernel_rfl
theorem membersAreInside_h19 : (Rows.membersAreInsideSpec.vars.all (Tryz.pinned.checked.prog.varReadable ·)) = true := by kernel_rfl
theorem membersAreInside_h20 : (Tryz.f3.resultTypes.all (fun t => Tryz.pinned.checked.prog.readableRec t && decide (t < Tryz.pinned.checked.prog.types.size))) = true := by kernel_rfl
theorem membersAreInside_h21 : ((Rows.membersAreInsideRow.ifacesOut == Tryz.f3.resultTypes.toList.any (Tryz.pinned.checked.prog.ifacesRec ·))) = true := by kernel_rfl
theorem membersAreInside_h22 : ((Rows.membersAreInsideRow.loopsOut == Tryz.f3.resultTypes.toList.any (Tryz.pinned.checked.prog.loopsFrom ·))) = true := by kernel_rfl
theorem membersAreInside_h24 : (Rows.membersAreInsideRow.shortTexts.isNone) = true := by kernel_rfl
theorem membersAreInside_h27 : ((Rows.membersAreInsideRow.lifted == Tryz.pinned.checked.prog.liftsFinal)) = true := by kernel_rfl
theorem membersAreInside_h28 : ((Tryz.pinned.checked.prog.make == some Rows.membersAreInsideRow.make)) = true := by kernel_rfl
theorem membersAreInside_h29 : ((Rows.membersAreInsideRow.kinds == (if Rows.membersAreInsideRow.domain.isEmpty then [] else Tryz.f3.params.toList.map fun t => match Tryz.pinned.checked.prog.underlying t with | some (.int k) => some k | _ => none))) = true := by kernel_rfl
theorem membersAreInside_h30 : ((Rows.membersAreInsideRow.pinned == Rows.membersAreInsideRow.pinnedBy)) = true := by kernel_rfl
theorem membersAreInside_h31 : ((Rows.membersAreInsideRow.veiled == (Tryz.f3.params.toList ++ Rows.membersAreInsideSpec.plain.varTypes Tryz.pinned.checked.prog ++ Tryz.f3.resultTypes.toList).any (Tryz.pinned.checked.prog.veiledRec ·))) = true := by kernel_rfl
theorem membersAreInside_h32 : (Rows.membersAreInsideRow.veiledFits Tryz.pinned.checked.prog Tryz.f3.params.toList (Tryz.f3.params.toList ++ Rows.membersAreInsideSpec.plain.varTypes Tryz.pinned.checked.prog ++ Tryz.f3.resultTypes.toList)) = true := by kernel_rfl
theorem membersAreInside_goes : false = Rows.membersAreInsideRow.goesBy Tryz.pinned.checked.prog := by kernel_rfl

set_option maxRecDepth 100000 in
theorem membersAreInside_lifted (os : Os) (started : os.Started) (H : Type) (enc : TypeId × Value → H) :
    ReturnsInHanded {} Tryz.checked os 3 .any (fun w args => (Rows.membersAreInsideSpec.pre enc Tryz.prog Tryz.f3 Rows.membersAreInsideRow.domain false w args ∧ laidMetH Tryz.prog Rows.membersAreInsideRow.laid w) ∧ sizedMet enc Tryz.prog Tryz.f3 (OpenSpec.ofChange Rows.membersAreInsideSpec) false w args)
      (Rows.membersAreInsideSpec.post enc Tryz.prog Tryz.f3 false true false false) := by
  refine returnsInHanded_of_change_and (C := Tryz.checked) (X := fun w _ => laidMetH Tryz.prog Rows.membersAreInsideRow.laid w) (fun _ _ _ hh h => h.of_heap hh) ownOf started (by kernel_rfl) Tryz.func3
    (ChangeSpec.witness_shaped (enc := enc) (C := Tryz.checked) (os := os) (X := fun w _ => laidMetH Tryz.prog Rows.membersAreInsideRow.laid w) false (World.laidAll Tryz.prog os Rows.membersAreInsideRow.laid) #[.slice none 0 0] 8 (World.laidAll_os _ _ _)
      (World.shaped_of_ZipB (by kernel_rfl) (by kernel_rfl)) (by kernel_rfl) (by kernel_rfl) (by kernel_rfl)
      (by rw [MakeChecks.laidMetH_plain _ _ _ (by kernel_rfl)]; exact laidMet_laidAll _ (by kernel_rfl) (by kernel_rfl))) ?_
  intro W base args ds gs before hval hW _ _ hx _
  have htab : ∀ p ∈ tabZ, ∃ t f, W.heap[p.1]? = some (.cells p.2 t f) := by
    intro p hp
    unfold tabZ at hp
    cases hp
  exact law_post Tryz.params3 (tB := 4) (by kernel_rfl) Tryz.underlying22 Tryz.underlying3 (by kernel_rfl) Tryz.underlying4 rfl (fun _ => rfl) membersAreInside_call htab hval hW

set_option maxRecDepth 100000 in
theorem membersAreInside_row : Rows.MembersAreInsideSaid :=
  OpenClaim.holds_of_wide 3 Tryz.f3 rfl rfl rfl rfl rfl rfl rfl ⟨rfl, rfl, rfl, rfl, rfl⟩ rfl rfl rfl rfl rfl (by kernel_rfl) Tryz.func3 (facts_of membersAreInside_h1 p_h2 p_h3 membersAreInside_h4 membersAreInside_h5 membersAreInside_h6 p_h7 membersAreInside_h8 p_h9 membersAreInside_h10 membersAreInside_h11 membersAreInside_h12 membersAreInside_h13 membersAreInside_h14 membersAreInside_h15 membersAreInside_h16 membersAreInside_h17 membersAreInside_h18 membersAreInside_h19 membersAreInside_h20 membersAreInside_h21 membersAreInside_h22 p_h23 membersAreInside_h24 p_h25 p_h26 membersAreInside_h27 membersAreInside_h28 membersAreInside_h29 membersAreInside_h30 membersAreInside_h31 membersAreInside_h32)
    (of_decide_eq_true (by kernel_rfl)) (by unfold Func.isWrapper; first | (rw [if_pos (by decide +kernel)]; kernel_rfl) | (rw [if_neg (by decide +kernel)]; exact ⟨rfl, rfl⟩))
    (fun os started H enc _ => membersAreInside_lifted os started H enc)
set_option maxRecDepth 100000 in
theorem membersAreInside_holds : Rows.MembersAreInsideCardSaid :=
  Claim7.holds_tied_plain_at .later [] [.data, .pinned] true (true, "e446792a0f186cda0e03d036fa6e4fe5b4f665f10fa6fa108643ef250bf8368f") false membersAreInside_row (fun _ h => by cases h) (by kernel_rfl) (fun _ h => by cases h) membersAreInside_row_tie rfl ⟨rfl, rfl⟩ pMain rfl
    (fun f fn hf hfn => by
      obtain rfl : f = 3 := Option.some.inj ((show Tryz.prog.funcNamed Rows.membersAreInsideRow.func = some 3 by kernel_rfl).symm.trans hf) |>.symm
      obtain rfl : fn = Tryz.f3 := (Option.some.inj (Tryz.func3.symm.trans hfn)).symm
      exact ⟨pLooks, fun j t ht => by
        rw [Tryz.params3] at ht
        have hm : t ∈ [22] := by simpa using Array.mem_of_getElem? ht
        have hall : ([22].all fun u => !Tryz.prog.wantsStandIn u) = true := by kernel_rfl
        exact (show Tryz.prog.wantsStandIn t = false by simpa using List.all_eq_true.1 hall t hm)⟩)
    membersAreInside_goes
#print axioms membersAreInside_holds
end Go.Proofs.YteljhjdcaaebcaaGreatDoor
