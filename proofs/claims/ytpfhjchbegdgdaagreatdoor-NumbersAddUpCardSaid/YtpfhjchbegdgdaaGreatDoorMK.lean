/-
  What is proved here: whatever numbers pileup's law NumbersAddUp is called at, it answers true, and the slice reads as before. Conditions: those of the given card alone (the listed variables as the program's text lays them).
-/
import Derived.Test.YtpfhjchbegdgdaaGreatDoorTie
import Derived.Test.YtpfhjchbegdgdaaGreatDoorCards
import Derived.Test.YtpfhjchbegdgdaaGreatDoorMJ
import Derived.Test.YtpfhjchbegdgdaaGreatDoorMF
set_option linter.unusedSimpArgs false
set_option linter.unusedVariables false
namespace Go.Proofs.YtpfhjchbegdgdaaGreatDoor
open Go Go.AL Go.ChangeShapes Go.WideShapes Go.ChangeAt Go.RowKit

theorem numbersAddUp_call (rows : List (List G)) : ACallX Tryz.prog 7 [.listF [.int .i64] rows] [] (.lit (.bool true)) [] := SYtpfhjchbegdgdaaGreatDoor.c_pilekeep2_NumbersAddUp [.l rows] [.t true] (SYtpfhjchbegdgdaaGreatDoor.numbersAddUp_data rows)
theorem numbersAddUp_h1 : (Rows.numbersAddUpRow.wf (OpenSpec.ofChange Rows.numbersAddUpSpec)) = true := by kernel_rfl
theorem numbersAddUp_h4 : (Tryz.f7.params.all (Tryz.pinned.checked.prog.readableRec ·)) = true := by kernel_rfl
theorem numbersAddUp_h5 : (namedTie Tryz.pinned.checked.prog Rows.numbersAddUpRow.named Rows.numbersAddUpSpec.vars) = true := by kernel_rfl
theorem numbersAddUp_h6 : ((Rows.numbersAddUpRow.stops == [])) = true := by kernel_rfl
theorem numbersAddUp_h8 : ((Rows.numbersAddUpRow.knobs == [])) = true := by kernel_rfl
theorem numbersAddUp_h10 : ((Rows.numbersAddUpRow.inPlace == Tryz.pinned.checked.prog.inPlace 7)) = true := by kernel_rfl
theorem numbersAddUp_h11 : ((Rows.numbersAddUpRow.unfollowed == Tryz.pinned.checked.prog.unfollowed 7)) = true := by kernel_rfl
theorem numbersAddUp_h12 : ((Rows.numbersAddUpRow.recurses == Tryz.pinned.checked.prog.recurses 7)) = true := by kernel_rfl
theorem numbersAddUp_h13 : ((Rows.numbersAddUpRow.named == Tryz.pinned.checked.prog.varsNamed 7)) = true := by kernel_rfl
theorem numbersAddUp_h14 : ((Rows.numbersAddUpRow.maps == (Tryz.f7.params.toList ++ Rows.numbersAddUpSpec.plain.varTypes Tryz.pinned.checked.prog).any (Tryz.pinned.checked.prog.mapsRec ·))) = true := by kernel_rfl
theorem numbersAddUp_h15 : ((Rows.numbersAddUpRow.ifaces == (Tryz.f7.params.toList ++ Rows.numbersAddUpSpec.plain.varTypes Tryz.pinned.checked.prog).any (Tryz.pinned.checked.prog.ifacesRec ·))) = true := by kernel_rfl
theorem numbersAddUp_h16 : ((Rows.numbersAddUpRow.mapsOut == Tryz.pinned.checked.prog.mapsAmong Tryz.f7.resultTypes.toList)) = true := by kernel_rfl
theorem numbersAddUp_h17 : ((Rows.numbersAddUpRow.loops == (Tryz.f7.params.toList ++ Rows.numbersAddUpSpec.plain.varTypes Tryz.pinned.checked.prog).any (Tryz.pinned.checked.prog.loopsFrom ·))) = true := by kernel_rfl
theorem numbersAddUp_h18 : ((Rows.numbersAddUpRow.wideKeys == (Tryz.f7.params.toList ++ Rows.numbersAddUpSpec.plain.varTypes Tryz.pinned.checked.prog ++ Tryz.f7.resultTypes.toList).any (Tryz.pinned.checked.prog.wideKeysFrom ·))) = true := by kernel_rfl
theorem numbersAddUp_h19 : (Rows.numbersAddUpSpec.vars.all (Tryz.pinned.checked.prog.varReadable ·)) = true := by kernel_rfl
theorem numbersAddUp_h20 : (Tryz.f7.resultTypes.all (fun t => Tryz.pinned.checked.prog.readableRec t && decide (t < Tryz.pinned.checked.prog.types.size))) = true := by kernel_rfl
theorem numbersAddUp_h21 : ((Rows.numbersAddUpRow.ifacesOut == Tryz.f7.resultTypes.toList.any (Tryz.pinned.checked.prog.ifacesRec ·))) = true := by kernel_rfl
theorem numbersAddUp_h22 : ((Rows.numbersAddUpRow.loopsOut == Tryz.f7.resultTypes.toList.any (Tryz.pinned.checked.prog.loopsFrom ·))) = true := by kernel_rfl
theorem numbersAddUp_h24 : (Rows.numbersAddUpRow.shortTexts.isNone) = true := by kernel_rfl
theorem numbersAddUp_h27 : ((Rows.numbersAddUpRow.lifted == Tryz.pinned.checked.prog.liftsFinal)) = true := by kernel_rfl
theorem numbersAddUp_h28 : ((Tryz.pinned.checked.prog.make == some Rows.numbersAddUpRow.make)) = true := by kernel_rfl
theorem numbersAddUp_h29 : ((Rows.numbersAddUpRow.kinds == (if Rows.numbersAddUpRow.domain.isEmpty then [] else Tryz.f7.params.toList.map fun t => match Tryz.pinned.checked.prog.underlying t with | some (.int k) => some k | _ => none))) = true := by kernel_rfl
theorem numbersAddUp_h30 : ((Rows.numbersAddUpRow.pinned == Rows.numbersAddUpRow.pinnedBy)) = true := by kernel_rfl
theorem numbersAddUp_h31 : ((Rows.numbersAddUpRow.veiled == (Tryz.f7.params.toList ++ Rows.numbersAddUpSpec.plain.varTypes Tryz.pinned.checked.prog ++ Tryz.f7.resultTypes.toList).any (Tryz.pinned.checked.prog.veiledRec ·))) = true := by kernel_rfl
theorem numbersAddUp_h32 : (Rows.numbersAddUpRow.veiledFits Tryz.pinned.checked.prog Tryz.f7.params.toList (Tryz.f7.params.toList ++ Rows.numbersAddUpSpec.plain.varTypes Tryz.pinned.checked.prog ++ Tryz.f7.resultTypes.toList)) = true := by kernel_rfl
theorem numbersAddUp_goes : false = Rows.numbersAddUpRow.goesBy Tryz.pinned.checked.prog := by kernel_rfl

set_option maxRecDepth 100000 in
theorem numbersAddUp_lifted (os : Os) (started : os.Started) (H : Type) (enc : TypeId × Value → H) :
    ReturnsInHanded {} Tryz.checked os 7 .any (fun w args => (Rows.numbersAddUpSpec.pre enc Tryz.prog Tryz.f7 Rows.numbersAddUpRow.domain false w args ∧ laidMetH Tryz.prog Rows.numbersAddUpRow.laid w) ∧ sizedMet enc Tryz.prog Tryz.f7 (OpenSpec.ofChange Rows.numbersAddUpSpec) false w args)
      (Rows.numbersAddUpSpec.post enc Tryz.prog Tryz.f7 false true false false) := by
  refine returnsInHanded_of_change_and (C := Tryz.checked) (X := fun w _ => laidMetH Tryz.prog Rows.numbersAddUpRow.laid w) (fun _ _ _ hh h => h.of_heap hh) ownOf started (by kernel_rfl) Tryz.func7
    (ChangeSpec.witness_shaped (enc := enc) (C := Tryz.checked) (os := os) (X := fun w _ => laidMetH Tryz.prog Rows.numbersAddUpRow.laid w) false (World.laidAll Tryz.prog os Rows.numbersAddUpRow.laid) #[.slice none 0 0] 8 (World.laidAll_os _ _ _)
      (World.shaped_of_ZipB (by kernel_rfl) (by kernel_rfl)) (by kernel_rfl) (by kernel_rfl) (by kernel_rfl)
      (by rw [MakeChecks.laidMetH_plain _ _ _ (by kernel_rfl)]; exact laidMet_laidAll _ (by kernel_rfl) (by kernel_rfl))) ?_
  intro W base args ds gs before hval hW _ _ _ _
  exact law_post Tryz.params7 (tB := 4) (by kernel_rfl) Tryz.underlying22 Tryz.underlying3 (by kernel_rfl) Tryz.underlying4 rfl (fun _ => rfl) numbersAddUp_call hval hW

set_option maxRecDepth 100000 in
theorem numbersAddUp_row : Rows.NumbersAddUpSaid :=
  OpenClaim.holds_of_wide 7 Tryz.f7 rfl rfl rfl rfl rfl rfl rfl ⟨rfl, rfl, rfl, rfl, rfl⟩ rfl rfl rfl rfl rfl (by kernel_rfl) Tryz.func7 (facts_of numbersAddUp_h1 p_h2 p_h3 numbersAddUp_h4 numbersAddUp_h5 numbersAddUp_h6 p_h7 numbersAddUp_h8 p_h9 numbersAddUp_h10 numbersAddUp_h11 numbersAddUp_h12 numbersAddUp_h13 numbersAddUp_h14 numbersAddUp_h15 numbersAddUp_h16 numbersAddUp_h17 numbersAddUp_h18 numbersAddUp_h19 numbersAddUp_h20 numbersAddUp_h21 numbersAddUp_h22 p_h23 numbersAddUp_h24 p_h25 p_h26 numbersAddUp_h27 numbersAddUp_h28 numbersAddUp_h29 numbersAddUp_h30 numbersAddUp_h31 numbersAddUp_h32)
    (of_decide_eq_true (by kernel_rfl)) (by unfold Func.isWrapper; first | (rw [if_pos (by decide +kernel)]; kernel_rfl) | (rw [if_neg (by decide +kernel)]; exact ⟨rfl, rfl⟩))
    (fun os started H enc _ => numbersAddUp_lifted os started H enc)
set_option maxRecDepth 100000 in
theorem numbersAddUp_holds : Rows.NumbersAddUpCardSaid :=
  Claim7.holds_tied_plain_at .later [] [.data, .pinned] true (true, "84deda9c12d7de6b70208ad04f70386e8c896e65baa377cafdba8e74ed2f5c7d") true numbersAddUp_row (fun _ h => by cases h) (by kernel_rfl) (fun _ h => by cases h) numbersAddUp_row_tie rfl ⟨rfl, rfl⟩ pMain rfl
    (fun f fn hf hfn => by
      obtain rfl : f = 7 := Option.some.inj ((show Tryz.prog.funcNamed Rows.numbersAddUpRow.func = some 7 by kernel_rfl).symm.trans hf) |>.symm
      obtain rfl : fn = Tryz.f7 := (Option.some.inj (Tryz.func7.symm.trans hfn)).symm
      exact ⟨pLooks, fun j t ht => by
        rw [Tryz.params7] at ht
        have hm : t ∈ [22] := by simpa using Array.mem_of_getElem? ht
        have hall : ([22].all fun u => !Tryz.prog.wantsStandIn u) = true := by kernel_rfl
        exact (show Tryz.prog.wantsStandIn t = false by simpa using List.all_eq_true.1 hall t hm)⟩)
    numbersAddUp_goes
#print axioms numbersAddUp_holds
end Go.Proofs.YtpfhjchbegdgdaaGreatDoor
