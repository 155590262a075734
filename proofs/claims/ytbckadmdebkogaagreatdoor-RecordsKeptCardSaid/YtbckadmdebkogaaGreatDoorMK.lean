/-
  What is proved here: whatever numbers pileup's law RecordsKept is called at, it answers true, and the slice reads as before. Conditions: those of the given card alone (the listed variables as the program's text lays them).
-/
import Derived.Test.YtbckadmdebkogaaGreatDoorTie
import Derived.Test.YtbckadmdebkogaaGreatDoorCards
import Derived.Test.YtbckadmdebkogaaGreatDoorMJ
import Derived.Test.YtbckadmdebkogaaGreatDoorMF
set_option linter.unusedSimpArgs false
set_option linter.unusedVariables false
set_option linter.unusedSectionVars false
namespace Go.Proofs.YtbckadmdebkogaaGreatDoor
open Go Go.AL Go.ChangeShapes Go.WideShapes Go.ChangeAt Go.RowKit

theorem recordsKept_call (rows : List (List G)) : ACallX Tryz.prog 4 [.listF [.int .i64] rows] [] (.lit (.bool true)) [] := SYtbckadmdebkogaaGreatDoor.c_pilelaw2_RecordsKept [.l rows] [.t true] (SYtbckadmdebkogaaGreatDoor.recordsKept_data rows)
theorem recordsKept_h1 : (Rows.recordsKeptRow.wf (OpenSpec.ofChange Rows.recordsKeptSpec)) = true := by kernel_rfl
theorem recordsKept_h4 : (Tryz.f4.params.all (Tryz.pinned.checked.prog.readableRec ·)) = true := by kernel_rfl
theorem recordsKept_h5 : (namedTie Tryz.pinned.checked.prog Rows.recordsKeptRow.named Rows.recordsKeptSpec.vars) = true := by kernel_rfl
theorem recordsKept_h6 : ((Rows.recordsKeptRow.stops == [])) = true := by kernel_rfl
theorem recordsKept_h8 : ((Rows.recordsKeptRow.knobs == [])) = true := by kernel_rfl
theorem recordsKept_h10 : ((Rows.recordsKeptRow.inPlace == Tryz.pinned.checked.prog.inPlace 4)) = true := by kernel_rfl
theorem recordsKept_h11 : ((Rows.recordsKeptRow.unfollowed == Tryz.pinned.checked.prog.unfollowed 4)) = true := by kernel_rfl
theorem recordsKept_h12 : ((Rows.recordsKeptRow.recurses == Tryz.pinned.checked.prog.recurses 4)) = true := by kernel_rfl
theorem recordsKept_h13 : ((Rows.recordsKeptRow.named == Tryz.pinned.checked.prog.varsNamed 4)) = true := by kernel_rfl
theorem recordsKept_h14 : ((Rows.recordsKeptRow.maps == (Tryz.f4.params.toList ++ Rows.recordsKeptSpec.plain.varTypes Tryz.pinned.checked.prog).any (Tryz.pinned.checked.prog.mapsRec ·))) = true := by kernel_rfl
theorem recordsKept_h15 : ((Rows.recordsKeptRow.ifaces == (Tryz.f4.params.toList ++ Rows.recordsKeptSpec.plain.varTypes Tryz.pinned.checked.prog).any (Tryz.pinned.checked.prog.ifacesRec ·))) = true := by kernel_rfl
theorem recordsKept_h16 : ((Rows.recordsKeptRow.mapsOut == Tryz.pinned.checked.prog.mapsAmong Tryz.f4.resultTypes.toList)) = true := by kernel_rfl
theorem recordsKept_h17 : ((Rows.recordsKeptRow.loops == (Tryz.f4.params.toList ++ Rows.recordsKeptSpec.plain.varTypes Tryz.pinned.checked.prog).any (Tryz.pinned.checked.prog.loopsFrom ·))) = true := by kernel_rfl
theorem recordsKept_h18 : ((Rows.recordsKeptRow.wideKeys == (Tryz.f4.params.toList ++ Rows.recordsKeptSpec.plain.varTypes Tryz.pinned.checked.prog ++ Tryz.f4.resultTypes.toList).any (Tryz.pinned.checked.prog.wideKeysFrom ·))) = true := by kernel_rfl
theorem recordsKept_h19 : (Rows.recordsKeptSpec.vars.all (Tryz.pinned.checked.prog.varReadable ·)) = true := by kernel_rfl
theorem recordsKept_h20 : (Tryz.f4.resultTypes.all (fun t => Tryz.pinned.checked.prog.readableRec t && decide (t < Tryz.pinned.checked.prog.types.size))) = true := by kernel_rfl
theorem recordsKept_h21 : ((Rows.recordsKeptRow.ifacesOut == Tryz.f4.resultTypes.toList.any (Tryz.pinned.checked.prog.ifacesRec ·))) = true := by kernel_rfl
theorem recordsKept_h22 : ((Rows.recordsKeptRow.loopsOut == Tryz.f4.resultTypes.toList.any (Tryz.pinned.checked.prog.loopsFrom ·))) = true := by kernel_rfl
theorem recordsKept_h24 : (Rows.recordsKeptRow.shortTexts.isNone) = true := by kernel_rfl
theorem recordsKept_h27 : ((Rows.recordsKeptRow.lifted == Tryz.pinned.checked.prog.liftsFinal)) = true := by kernel_rfl
theorem recordsKept_h28 : ((Tryz.pinned.checked.prog.make == some Rows.recordsKeptRow.make)) = true := by kernel_rfl
theorem recordsKept_h29 : ((Rows.recordsKeptRow.kinds == (if Rows.recordsKeptRow.domain.isEmpty then [] else Tryz.f4.params.toList.map fun t => match Tryz.pinned.checked.prog.underlying t with | some (.int k) => some k | _ => none))) = true := by kernel_rfl
theorem recordsKept_h30 : ((Rows.recordsKeptRow.pinned == Rows.recordsKeptRow.pinnedBy)) = true := by kernel_rfl
theorem recordsKept_h31 : ((Rows.recordsKeptRow.veiled == (Tryz.f4.params.toList ++ Rows.recordsKeptSpec.plain.varTypes Tryz.pinned.checked.prog ++ Tryz.f4.resultTypes.toList).any (Tryz.pinned.checked.prog.veiledRec ·))) = true := by kernel_rfl
theorem recordsKept_h32 : (Rows.recordsKeptRow.veiledFits Tryz.pinned.checked.prog Tryz.f4.params.toList (Tryz.f4.params.toList ++ Rows.recordsKeptSpec.plain.varTypes Tryz.pinned.checked.prog ++ Tryz.f4.resultTypes.toList)) = true := by kernel_rfl
theorem recordsKept_goes : false = Rows.recordsKeptRow.goesBy Tryz.pinned.checked.prog := by kernel_rfl

set_option maxRecDepth 100000 in
theorem recordsKept_lifted (os : Os) (started : os.Started) (H : Type) (enc : TypeId × Value → H) :
    ReturnsInHanded {} Tryz.checked os 4 .any (fun w args => (Rows.recordsKeptSpec.pre enc Tryz.prog Tryz.f4 Rows.recordsKeptRow.domain false w args ∧ laidMetH Tryz.prog Rows.recordsKeptRow.laid w) ∧ sizedMet enc Tryz.prog Tryz.f4 (OpenSpec.ofChange Rows.recordsKeptSpec) false w args)
      (Rows.recordsKeptSpec.post enc Tryz.prog Tryz.f4 false true false false) := by
  refine returnsInHanded_of_change_and (C := Tryz.checked) (X := fun w _ => laidMetH Tryz.prog Rows.recordsKeptRow.laid w) (fun _ _ _ hh h => h.of_heap hh) ownOf started (by kernel_rfl) Tryz.func4
    (ChangeSpec.witness_shaped (enc := enc) (C := Tryz.checked) (os := os) (X := fun w _ => laidMetH Tryz.prog Rows.recordsKeptRow.laid w) false (World.laidAll Tryz.prog os Rows.recordsKeptRow.laid) #[.slice none 0 0] 8 (World.laidAll_os _ _ _)
      (World.shaped_of_ZipB (by kernel_rfl) (by kernel_rfl)) (by kernel_rfl) (by kernel_rfl) (by kernel_rfl)
      (by rw [MakeChecks.laidMetH_plain _ _ _ (by kernel_rfl)]; exact laidMet_laidAll _ (by kernel_rfl) (by kernel_rfl))) ?_
  intro W base args ds gs before hval hW _ _ hx _
  have htab : ∀ p ∈ tabZ, ∃ t f, W.heap[p.1]? = some (.cells p.2 t f) := by
    intro p hp
    unfold tabZ at hp
    cases hp
  exact law_post Tryz.params4 (tB := 4) (by kernel_rfl) Tryz.underlying22 Tryz.underlying3 (by kernel_rfl) Tryz.underlying4 rfl (fun _ => rfl) recordsKept_call htab hval hW

set_option maxRecDepth 100000 in
theorem recordsKept_row : Rows.RecordsKeptSaid :=
  OpenClaim.holds_of_wide 4 Tryz.f4 rfl rfl rfl rfl rfl rfl rfl ⟨rfl, rfl, rfl, rfl, rfl⟩ rfl rfl rfl rfl rfl (by kernel_rfl) Tryz.func4 (facts_of recordsKept_h1 p_h2 p_h3 recordsKept_h4 recordsKept_h5 recordsKept_h6 p_h7 recordsKept_h8 p_h9 recordsKept_h10 recordsKept_h11 recordsKept_h12 recordsKept_h13 recordsKept_h14 recordsKept_h15 recordsKept_h16 recordsKept_h17 recordsKept_h18 recordsKept_h19 recordsKept_h20 recordsKept_h21 recordsKept_h22 p_h23 recordsKept_h24 p_h25 p_h26 recordsKept_h27 recordsKept_h28 recordsKept_h29 recordsKept_h30 recordsKept_h31 recordsKept_h32)
    (of_decide_eq_true (by kernel_rfl)) (by unfold Func.isWrapper; first | (rw [if_pos (by decide +kernel)]; kernel_rfl) | (rw [if_neg (by decide +kernel)]; exact ⟨rfl, rfl⟩))
    (fun os started H enc _ => recordsKept_lifted os started H enc)
set_option maxRecDepth 100000 in
theorem recordsKept_holds : Rows.RecordsKeptCardSaid :=
  Claim7.holds_tied_plain_at .later [] [.data, .pinned] true (true, "6776fe777e7e69b8c533a393ee3d6c42933d0fc54fa76407b803f0557cc3e1f9") false recordsKept_row (fun _ h => by cases h) (by kernel_rfl) (fun _ h => by cases h) recordsKept_row_tie rfl ⟨rfl, rfl⟩ pMain rfl
    (fun f fn hf hfn => by
      obtain rfl : f = 4 := Option.some.inj ((show Tryz.prog.funcNamed Rows.recordsKeptRow.func = some 4 by kernel_rfl).symm.trans hf) |>.symm
      obtain rfl : fn = Tryz.f4 := (Option.some.inj (Tryz.func4.symm.trans hfn)).symm
      exact ⟨pLooks, fun j t ht => by
        rw [Tryz.params4] at ht
        have hm : t ∈ [22] := by simpa using Array.mem_of_getElem? ht
        have hall : ([22].all fun u => !Tryz.prog.wantsStandIn u) = true := by kernel_rfl
        exact (show Tryz.prog.wantsStandIn t = false by simpa using List.all_eq_true.1 hall t hm)⟩)
    recordsKept_goes
#print axioms recordsKept_holds
end Go.Proofs.YtbckadmdebkogaaGreatDoor
