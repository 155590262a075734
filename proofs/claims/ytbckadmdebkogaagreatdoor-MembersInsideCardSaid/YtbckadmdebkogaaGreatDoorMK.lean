/-
  What is proved here: whatever numbers pileup's law MembersInside is called at, it answers true, and the slice reads as before. Conditions: those of the given card alone (the listed variables as the program's text lays them).
-/
import Derived.Test.YtbckadmdebkogaaGreatDoorTie
import Derived.Test.YtbckadmdebkogaaGreatDoorCards
import Derived.Test.YtbckadmdebkogaaGreatDoorMJ
import Derived.Test.YtbckadmdebkogaaGreatDoorMF
set_option linter.unusedSimpArgs false
set_option linter.unusedVariables false
set_option linter.unusedSectionVars false
namespace Go.Proofs.YtbckadmdebkogaaGreatDoor
open Go Go.AL Go.ChangeShapes Go.WideShapes Go.ChangeAt Go.RowKit

theorem membersInside_call (rows : List (List G)) : ACallX Tryz.prog 3 [.listF [.int .i64] rows] [] (.lit (.bool true)) [] := SYtbckadmdebkogaaGreatDoor.c_pilelaw2_MembersInside [.l rows] [.t true] (SYtbckadmdebkogaaGreatDoor.membersInside_data rows)
theorem membersInside_h1 : (Rows.membersInsideRow.wf (OpenSpec.ofChange Rows.membersInsideSpec)) = true := by kernel_rfl
theorem membersInside_h4 : (Tryz.f3.params.all (Tryz.pinned.checked.prog.readableRec ·)) = true := by kernel_rfl
theorem membersInside_h5 : (namedTie Tryz.pinned.checked.prog Rows.membersInsideRow.named Rows.membersInsideSpec.vars) = true := by kernel_rfl
theorem membersInside_h6 : ((Rows.membersInsideRow.stops == [])) = true := by kernel_rfl
theorem membersInside_h8 : ((Rows.membersInsideRow.knobs == [])) = true := by kernel_rfl
theorem membersInside_h10 : ((Rows.membersInsideRow.inPlace == Tryz.pinned.checked.prog.inPlace 3)) = true := by kernel_rfl
theorem membersInside_h11 : ((Rows.membersInsideRow.unfollowed == Tryz.pinned.checked.prog.unfollowed 3)) = true := by kernel_rfl
theorem membersInside_h12 : ((Rows.membersInsideRow.recurses == Tryz.pinned.checked.prog.recurses 3)) = true := by kernel_rfl
theorem membersInside_h13 : ((Rows.membersInsideRow.named == Tryz.pinned.checked.prog.varsNamed 3)) = true := by kernel_rfl
theorem membersInside_h14 : ((Rows.membersInsideRow.maps == (Tryz.f3.params.toList ++ Rows.membersInsideSpec.plain.varTypes Tryz.pinned.checked.prog).any (Tryz.pinned.checked.prog.mapsRec ·))) = true := by kernel_rfl
theorem membersInside_h15 : ((Rows.membersInsideRow.ifaces == (Tryz.f3.params.toList ++ Rows.membersInsideSpec.plain.varTypes Tryz.pinned.checked.prog).any (Tryz.pinned.checked.prog.ifacesRec ·))) = true := by kernel_rfl
theorem membersInside_h16 : ((Rows.membersInsideRow.mapsOut == Tryz.pinned.checked.prog.mapsAmong Tryz.f3.resultTypes.toList)) = true := by kernel_rfl
theorem membersInside_h17 : ((Rows.membersInsideRow.loops == (Tryz.f3.params.toList ++ Rows.membersInsideSpec.plain.varTypes Tryz.pinned.checked.prog).any (Tryz.pinned.checked.prog.loopsFrom ·))) = true := by kernel_rfl
theorem membersInside_h18 : ((Rows.membersInsideRow.wideKeys == (Tryz.f3.params.toList ++ Rows.membersInsideSpec.plain.varTypes Tryz.pinned.checked.prog ++ Tryz.f3.resultTypes.toList).any (Tryz.pinned.checked.prog.wideKeysFrom ·))) = true := by kernel_rfl
theorem membersInside_h19 : (Rows.membersInsideSpec.vars.all (Tryz.pinned.checked.prog.varReadable ·)) = true := by kernel_rfl
theorem membersInside_h20 : (Tryz.f3.resultTypes.all (fun t => Tryz.pinned.checked.prog.readableRec t && decide (t < Tryz.pinned.checked.prog.types.size))) = true := by kernel_rfl
theorem membersInside_h21 : ((Rows.membersInsideRow.ifacesOut == Tryz.f3.resultTypes.toList.any (Tryz.pinned.checked.prog.ifacesRec ·))) = true := by kernel_rfl
theorem membersInside_h22 : ((Rows.membersInsideRow.loopsOut == Tryz.f3.resultTypes.toList.any (Tryz.pinned.checked.prog.loopsFrom ·))) = true := by kernel_rfl
theorem membersInside_h24 : (Rows.membersInsideRow.shortTexts.isNone) = true := by kernel_rfl
theorem membersInside_h27 : ((Rows.membersInsideRow.lifted == Tryz.pinned.checked.prog.liftsFinal)) = true := by kernel_rfl
theorem membersInside_h28 : ((Tryz.pinned.checked.prog.make == some Rows.membersInsideRow.make)) = true := by kernel_rfl
theorem membersInside_h29 : ((Rows.membersInsideRow.kinds == (if Rows.membersInsideRow.domain.isEmpty then [] else Tryz.f3.params.toList.map fun t => match Tryz.pinned.checked.prog.underlying t with | some (.int k) => some k | _ => none))) = true := by kernel_rfl
theorem membersInside_h30 : ((Rows.membersInsideRow.pinned == Rows.membersInsideRow.pinnedBy)) = true := by kernel_rfl
theorem membersInside_h31 : ((Rows.membersInsideRow.veiled == (Tryz.f3.params.toList ++ Rows.membersInsideSpec.plain.varTypes Tryz.pinned.checked.prog ++ Tryz.f3.resultTypes.toList).any (Tryz.pinned.checked.prog.veiledRec ·))) = true := by kernel_rfl
theorem membersInside_h32 : (Rows.membersInsideRow.veiledFits Tryz.pinned.checked.prog Tryz.f3.params.toList (Tryz.f3.params.toList ++ Rows.membersInsideSpec.plain.varTypes Tryz.pinned.checked.prog ++ Tryz.f3.resultTypes.toList)) = true := by kernel_rfl
theorem membersInside_goes : false = Rows.membersInsideRow.goesBy Tryz.pinned.checked.prog := by kernel_rfl

set_option maxRecDepth 100000 in
theorem membersInside_lifted (os : Os) (started : os.Started) (H : Type) (enc : TypeId × Value → H) :
    ReturnsInHanded {} Tryz.checked os 3 .any (fun w args => (Rows.membersInsideSpec.pre enc Tryz.prog Tryz.f3 Rows.membersInsideRow.domain false w args ∧ laidMetH Tryz.prog Rows.membersInsideRow.laid w) ∧ sizedMet enc Tryz.prog Tryz.f3 (OpenSpec.ofChange Rows.membersInsideSpec) false w args)
      (Rows.membersInsideSpec.post enc Tryz.prog Tryz.f3 false true false false) := by
  refine returnsInHanded_of_change_and (C := Tryz.checked) (X := fun w _ => laidMetH Tryz.prog Rows.membersInsideRow.laid w) (fun _ _ _ hh h => h.of_heap hh) ownOf started (by kernel_rfl) Tryz.func3
    (ChangeSpec.witness_shaped (enc := enc) (C := Tryz.checked) (os := os) (X := fun w _ => laidMetH Tryz.prog Rows.membersInsideRow.laid w) false (World.laidAll Tryz.prog os Rows.membersInsideRow.laid) #[.slice none 0 0] 8 (World.laidAll_os _ _ _)
      (World.shaped_of_ZipB (by kernel_rfl) (by kernel_rfl)) (by kernel_rfl) (by kernel_rfl) (by kernel_rfl)
      (by rw [MakeChecks.laidMetH_plain _ _ _ (by kernel_rfl)]; exact laidMet_laidAll _ (by kernel_rfl) (by kernel_rfl))) ?_
  intro W base args ds gs before hval hW _ _ hx _
  have htab : ∀ p ∈ tabZ, ∃ t f, W.heap[p.1]? = some (.cells p.2 t f) := by
    intro p hp
    unfold tabZ at hp
    cases hp
  exact law_post Tryz.params3 (tB := 4) (by kernel_rfl) Tryz.underlying22 Tryz.underlying3 (by kernel_rfl) Tryz.underlying4 rfl (fun _ => rfl) membersInside_call htab hval hW

set_option maxRecDepth 100000 in
theorem membersInside_row : Rows.MembersInsideSaid :=
  OpenClaim.holds_of_wide 3 Tryz.f3 rfl rfl rfl rfl rfl rfl rfl ⟨rfl, rfl, rfl, rfl, rfl⟩ rfl rfl rfl rfl rfl (by kernel_rfl) Tryz.func3 (facts_of membersInside_h1 p_h2 p_h3 membersInside_h4 membersInside_h5 membersInside_h6 p_h7 membersInside_h8 p_h9 membersInside_h10 membersInside_h11 membersInside_h12 membersInside_h13 membersInside_h14 membersInside_h15 membersInside_h16 membersInside_h17 membersInside_h18 membersInside_h19 membersInside_h20 membersInside_h21 membersInside_h22 p_h23 membersInside_h24 p_h25 p_h26 membersInside_h27 membersInside_h28 membersInside_h29 membersInside_h30 membersInside_h31 membersInside_h32)
    (of_decide_eq_true (by kernel_rfl)) (by unfold Func.isWrapper; first | (rw [if_pos (by decide +kernel)]; kernel_rfl) | (rw [if_neg (by decide +kernel)]; exact ⟨rfl, rfl⟩))
    (fun os started H enc _ => membersInside_lifted os started H enc)
set_option maxRecDepth 100000 in
theorem membersInside_holds : Rows.MembersInsideCardSaid :=
  Claim7.holds_tied_plain_at .later [] [.data, .pinned] true (true, "6776fe777e7e69b8c533a393ee3d6c42933d0fc54fa76407b803f0557cc3e1f9") false membersInside_row (fun _ h => by cases h) (by kernel_rfl) (fun _ h => by cases h) membersInside_row_tie rfl ⟨rfl, rfl⟩ pMain rfl
    (fun f fn hf hfn => by
      obtain rfl : f = 3 := Option.some.inj ((show Tryz.prog.funcNamed Rows.membersInsideRow.func = some 3 by kernel_rfl).symm.trans hf) |>.symm
      obtain rfl : fn = Tryz.f3 := (Option.some.inj (Tryz.func3.symm.trans hfn)).symm
      exact ⟨pLooks, fun j t ht => by
        rw [Tryz.params3] at ht
        have hm : t ∈ [22] := by simpa using Array.mem_of_getElem? ht
        have hall : ([22].all fun u => !Tryz.prog.wantsStandIn u) = true := by kernel_rfl
        exact (show Tryz.prog.wantsStandIn t = false by simpa using List.all_eq_true.1 hall t hm)⟩)
    membersInside_goes
#print axioms membersInside_holds
end Go.Proofs.YtbckadmdebkogaaGreatDoor
