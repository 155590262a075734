/-
  What is proved here: whatever numbers pileup's law PausesAreEmpty is called at, it answers true, and the slice reads as before. Conditions: those of the given card alone (the listed variables as the program's text lays them).
-/
import Derived.Test.YtpfhjchbegdgdaaGreatDoorTie
import Derived.Test.YtpfhjchbegdgdaaGreatDoorCards
import Derived.Test.YtpfhjchbegdgdaaGreatDoorMJ
import Derived.Test.YtpfhjchbegdgdaaGreatDoorMF
set_option linter.unusedSimpArgs false
set_option linter.unusedVariables false
namespace Go.Proofs.YtpfhjchbegdgdaaGreatDoor
open Go Go.AL Go.ChangeShapes Go.WideShapes Go.ChangeAt Go.RowKit

theorem pausesAreEmpty_call (rows : List (List G)) : ACallX Tryz.prog 6 [.listF [.int .i64] rows] [] (.lit (.bool true)) [] := SYtpfhjchbegdgdaaGreatDoor.c_pilekeep2_PausesAreEmpty [.l rows] [.t true] (SYtpfhjchbegdgdaaGreatDoor.pausesAreEmpty_data rows)
theorem pausesAreEmpty_h1 : (Rows.pausesAreEmptyRow.wf (OpenSpec.ofChange Rows.pausesAreEmptySpec)) = true := by kernel_rfl
theorem pausesAreEmpty_h4 : (Tryz.f6.params.all (Tryz.pinned.checked.prog.readableRec ·)) = true := by kernel_rfl
theorem pausesAreEmpty_h5 : (namedTie Tryz.pinned.checked.prog Rows.pausesAreEmptyRow.named Rows.pausesAreEmptySpec.vars) = true := by kernel_rfl
theorem pausesAreEmpty_h6 : ((Rows.pausesAreEmptyRow.stops == [])) = true := by kernel_rfl
theorem pausesAreEmpty_h8 : ((Rows.pausesAreEmptyRow.knobs == [])) = true := by kernel_rfl
theorem pausesAreEmpty_h10 : ((Rows.pausesAreEmptyRow.inPlace == Tryz.pinned.checked.prog.inPlace 6)) = true := by kernel_rfl
theorem pausesAreEmpty_h11 : ((Rows.pausesAreEmptyRow.unfollowed == Tryz.pinned.checked.prog.unfollowed 6)) = true := by kernel_rfl
theorem pausesAreEmpty_h12 : ((Rows.pausesAreEmptyRow.recurses == Tryz.pinned.checked.prog.recurses 6)) = true := by kernel_rfl
theorem pausesAreEmpty_h13 : ((Rows.pausesAreEmptyRow.named == Tryz.pinned.checked.prog.varsNamed 6)) = true := by kernel_rfl
theorem pausesAreEmpty_h14 : ((Rows.pausesAreEmptyRow.maps == (Tryz.f6.params.toList ++ Rows.pausesAreEmptySpec.plain.varTypes Tryz.pinned.checked.prog).any (Tryz.pinned.checked.prog.mapsRec ·))) = true := by kernel_rfl
theorem pausesAreEmpty_h15 : ((Rows.pausesAreEmptyRow.ifaces == (Tryz.f6.params.toList ++ Rows.pausesAreEmptySpec.plain.varTypes Tryz.pinned.checked.prog).any (Tryz.pinned.checked.prog.ifacesRec ·))) = true := by kernel_rfl
theorem pausesAreEmpty_h16 : ((Rows.pausesAreEmptyRow.mapsOut == Tryz.pinned.checked.prog.mapsAmong Tryz.f6.resultTypes.toList)) = true := by kernel_rfl
theorem pausesAreEmpty_h17 : ((Rows.pausesAreEmptyRow.loops == (Tryz.f6.params.toList ++ Rows.pausesAreEmptySpec.plain.varTypes Tryz.pinned.checked.prog).any (Tryz.pinned.checked.prog.loopsFrom ·))) = true := by kernel_rfl
theorem pausesAreEmpty_h18 : ((Rows.pausesAreEmptyRow.wideKeys == (Tryz.f6.params.toList ++ Rows.pausesAreEmptySpec.plain.varTypes Tryz.pinned.checked.prog ++ Tryz.f6.resultTypes.toList).any (Tryz.pinned.checked.prog.wideKeysFrom ·))) = true := by kernel_rfl
theorem pausesAreEmpty_h19 : (Rows.pausesAreEmptySpec.vars.all (Tryz.pinned.checked.prog.varReadable ·)) = true := by kernel_rfl
theorem pausesAreEmpty_h20 : (Tryz.f6.resultTypes.all (fun t => Tryz.pinned.checked.prog.readableRec t && decide (t < Tryz.pinned.checked.prog.types.size))) = true := by kernel_rfl
theorem pausesAreEmpty_h21 : ((Rows.pausesAreEmptyRow.ifacesOut == Tryz.f6.resultTypes.toList.any (Tryz.pinned.checked.prog.ifacesRec ·))) = true := by kernel_rfl
theorem pausesAreEmpty_h22 : ((Rows.pausesAreEmptyRow.loopsOut == Tryz.f6.resultTypes.toList.any (Tryz.pinned.checked.prog.loopsFrom ·))) = true := by kernel_rfl
theorem pausesAreEmpty_h24 : (Rows.pausesAreEmptyRow.shortTexts.isNone) = true := by kernel_rfl
theorem pausesAreEmpty_h27 : ((Rows.pausesAreEmptyRow.lifted == Tryz.pinned.checked.prog.liftsFinal)) = true := by kernel_rfl
theorem pausesAreEmpty_h28 : ((Tryz.pinned.checked.prog.make == some Rows.pausesAreEmptyRow.make)) = true := by kernel_rfl
theorem pausesAreEmpty_h29 : ((Rows.pausesAreEmptyRow.kinds == (if Rows.pausesAreEmptyRow.domain.isEmpty then [] else Tryz.f6.params.toList.map fun t => match Tryz.pinned.checked.prog.underlying t with | some (.int k) => some k | _ => none))) = true := by kernel_rfl
theorem pausesAreEmpty_h30 : ((Rows.pausesAreEmptyRow.pinned == Rows.pausesAreEmptyRow.pinnedBy)) = true := by kernel_rfl
theorem pausesAreEmpty_h31 : ((Rows.pausesAreEmptyRow.veiled == (Tryz.f6.params.toList ++ Rows.pausesAreEmptySpec.plain.varTypes Tryz.pinned.checked.prog ++ Tryz.f6.resultTypes.toList).any (Tryz.pinned.checked.prog.veiledRec ·))) = true := by kernel_rfl
theorem pausesAreEmpty_h32 : (Rows.pausesAreEmptyRow.veiledFits Tryz.pinned.checked.prog Tryz.f6.params.toList (Tryz.f6.params.toList ++ Rows.pausesAreEmptySpec.plain.varTypes Tryz.pinned.checked.prog ++ Tryz.f6.resultTypes.toList)) = true := by kernel_rfl
theorem pausesAreEmpty_goes : false = Rows.pausesAreEmptyRow.goesBy Tryz.pinned.checked.prog := by kernel_rfl

set_option maxRecDepth 100000 in
theorem pausesAreEmpty_lifted (os : Os) (started : os.Started) (H : Type) (enc : TypeId × Value → H) :
    ReturnsInHanded {} Tryz.checked os 6 .any (fun w args => (Rows.pausesAreEmptySpec.pre enc Tryz.prog Tryz.f6 Rows.pausesAreEmptyRow.domain false w args ∧ laidMetH Tryz.prog Rows.pausesAreEmptyRow.laid w) ∧ sizedMet enc Tryz.prog Tryz.f6 (OpenSpec.ofChange Rows.pausesAreEmptySpec) false w args)
      (Rows.pausesAreEmptySpec.post enc Tryz.prog Tryz.f6 false true false false) := by
  refine returnsInHanded_of_change_and (C := Tryz.checked) (X := fun w _ => laidMetH Tryz.prog Rows.pausesAreEmptyRow.laid w) (fun _ _ _ hh h => h.of_heap hh) ownOf started (by kernel_rfl) Tryz.func6
    (ChangeSpec.witness_shaped (enc := enc) (C := Tryz.checked) (os := os) (X := fun w _ => laidMetH Tryz.prog Rows.pausesAreEmptyRow.laid w) false (World.laidAll Tryz.prog os Rows.pausesAreEmptyRow.laid) #[.slice none 0 0] 8 (World.laidAll_os _ _ _)
      (World.shaped_of_ZipB (by kernel_rfl) (by kernel_rfl)) (by kernel_rfl) (by kernel_rfl) (by kernel_rfl)
      (by rw [MakeChecks.laidMetH_plain _ _ _ (by kernel_rfl)]; exact laidMet_laidAll _ (by kernel_rfl) (by kernel_rfl))) ?_
  intro W base args ds gs before hval hW _ _ _ _
  exact law_post Tryz.params6 (tB := 4) (by kernel_rfl) Tryz.underlying22 Tryz.underlying3 (by kernel_rfl) Tryz.underlying4 rfl (fun _ => rfl) pausesAreEmpty_call hval hW

set_option maxRecDepth 100000 in
theorem pausesAreEmpty_row : Rows.PausesAreEmptySaid :=
  OpenClaim.holds_of_wide 6 Tryz.f6 rfl rfl rfl rfl rfl rfl rfl ⟨rfl, rfl, rfl, rfl, rfl⟩ rfl rfl rfl rfl rfl (by kernel_rfl) Tryz.func6 (facts_of pausesAreEmpty_h1 p_h2 p_h3 pausesAreEmpty_h4 pausesAreEmpty_h5 pausesAreEmpty_h6 p_h7 pausesAreEmpty_h8 p_h9 pausesAreEmpty_h10 pausesAreEmpty_h11 pausesAreEmpty_h12 pausesAreEmpty_h13 pausesAreEmpty_h14 pausesAreEmpty_h15 pausesAreEmpty_h16 pausesAreEmpty_h17 pausesAreEmpty_h18 pausesAreEmpty_h19 pausesAreEmpty_h20 pausesAreEmpty_h21 pausesAreEmpty_h22 p_h23 pausesAreEmpty_h24 p_h25 p_h26 pausesAreEmpty_h27 pausesAreEmpty_h28 pausesAreEmpty_h29 pausesAreEmpty_h30 pausesAreEmpty_h31 pausesAreEmpty_h32)
    (of_decide_eq_true (by kernel_rfl)) (by unfold Func.isWrapper; first | (rw [if_pos (by decide +kernel)]; kernel_rfl) | (rw [if_neg (by decide +kernel)]; exact ⟨rfl, rfl⟩))
    (fun os started H enc _ => pausesAreEmpty_lifted os started H enc)
set_option maxRecDepth 100000 in
theorem pausesAreEmpty_holds : Rows.PausesAreEmptyCardSaid :=
  Claim7.holds_tied_plain_at .later [] [.data, .pinned] true (true, "84deda9c12d7de6b70208ad04f70386e8c896e65baa377cafdba8e74ed2f5c7d") true pausesAreEmpty_row (fun _ h => by cases h) (by kernel_rfl) (fun _ h => by cases h) pausesAreEmpty_row_tie rfl ⟨rfl, rfl⟩ pMain rfl
    (fun f fn hf hfn => by
      obtain rfl : f = 6 := Option.some.inj ((show Tryz.prog.funcNamed Rows.pausesAreEmptyRow.func = some 6 by kernel_rfl).symm.trans hf) |>.symm
      obtain rfl : fn = Tryz.f6 := (Option.some.inj (Tryz.func6.symm.trans hfn)).symm
      exact ⟨pLooks, fun j t ht => by
        rw [Tryz.params6] at ht
        have hm : t ∈ [22] := by simpa using Array.mem_of_getElem? ht
        have hall : ([22].all fun u => !Tryz.prog.wantsStandIn u) = true := by kernel_rfl
        exact (show Tryz.prog.wantsStandIn t = false by simpa using List.all_eq_true.1 hall t hm)⟩)
    pausesAreEmpty_goes
#print axioms pausesAreEmpty_holds
end Go.Proofs.YtpfhjchbegdgdaaGreatDoor
