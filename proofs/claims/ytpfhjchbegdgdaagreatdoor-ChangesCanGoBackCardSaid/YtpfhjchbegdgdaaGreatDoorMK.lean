/-
  What is proved here: whatever numbers pileup's law ChangesCanGoBack is called at, it answers true, and the slice reads as before. Conditions: those of the given card alone (the listed variables as the program's text lays them).
-/
import Derived.Test.YtpfhjchbegdgdaaGreatDoorTie
import Derived.Test.YtpfhjchbegdgdaaGreatDoorCards
import Derived.Test.YtpfhjchbegdgdaaGreatDoorMJ
import Derived.Test.YtpfhjchbegdgdaaGreatDoorMF
set_option linter.unusedSimpArgs false
set_option linter.unusedVariables false
set_option linter.unusedSectionVars false
namespace Go.Proofs.YtpfhjchbegdgdaaGreatDoor
open Go Go.AL Go.ChangeShapes Go.WideShapes Go.ChangeAt Go.RowKit

theorem changesCanGoBack_call (rows : List (List G)) : ACallX Tryz.prog 8 [.listF [.int .i64] rows] [] (.lit (.bool true)) [] := SYtpfhjchbegdgdaaGreatDoor.c_pilekeep2_ChangesCanGoBack [.l rows] [.t true] (SYtpfhjchbegdgdaaGreatDoor.changesCanGoBack_data rows)
theorem changesCanGoBack_h1 : (Rows.changesCanGoBackRow.wf (OpenSpec.ofChange Rows.changesCanGoBackSpec)) = true := by kernel_rfl
theorem changesCanGoBack_h4 : (Tryz.f8.params.all (Tryz.pinned.checked.prog.readableRec ·)) = true := by kernel_rfl
theorem changesCanGoBack_h5 : (namedTie Tryz.pinned.checked.prog Rows.changesCanGoBackRow.named Rows.changesCanGoBackSpec.vars) = true := by kernel_rfl
theorem changesCanGoBack_h6 : ((Rows.changesCanGoBackRow.stops == [])) = true := by kernel_rfl
theorem changesCanGoBack_h8 : ((Rows.changesCanGoBackRow.knobs == [])) = true := by kernel_rfl
theorem changesCanGoBack_h10 : ((Rows.changesCanGoBackRow.inPlace == Tryz.pinned.checked.prog.inPlace 8)) = true := by kernel_rfl
theorem changesCanGoBack_h11 : ((Rows.changesCanGoBackRow.unfollowed == Tryz.pinned.checked.prog.unfollowed 8)) = true := by kernel_rfl
theorem changesCanGoBack_h12 : ((Rows.changesCanGoBackRow.recurses == Tryz.pinned.checked.prog.recurses 8)) = true := by kernel_rfl
theorem changesCanGoBack_h13 : ((Rows.changesCanGoBackRow.named == Tryz.pinned.checked.prog.varsNamed 8)) = true := by kernel_rfl
theorem changesCanGoBack_h14 : ((Rows.changesCanGoBackRow.maps == (Tryz.f8.params.toList ++ Rows.changesCanGoBackSpec.plain.varTypes Tryz.pinned.checked.prog).any (Tryz.pinned.checked.prog.mapsRec ·))) = true := by kernel_rfl
theorem changesCanGoBack_h15 : ((Rows.changesCanGoBackRow.ifaces == (Tryz.f8.params.toList ++ Rows.changesCanGoBackSpec.plain.varTypes Tryz.pinned.checked.prog).any (Tryz.pinned.checked.prog.ifacesRec ·))) = true := by kernel_rfl
theorem changesCanGoBack_h16 : ((Rows.changesCanGoBackRow.mapsOut == Tryz.pinned.checked.prog.mapsAmong Tryz.f8.resultTypes.toList)) = true := by kernel_rfl
theorem changesCanGoBack_h17 : ((Rows.changesCanGoBackRow.loops == (Tryz.f8.params.toList ++ Rows.changesCanGoBackSpec.plain.varTypes Tryz.pinned.checked.prog).any (Tryz.pinned.checked.prog.loopsFrom ·))) = true := by kernel_rfl
theorem changesCanGoBack_h18 : ((Rows.changesCanGoBackRow.wideKeys == (Tryz.f8.params.toList ++ Rows.changesCanGoBackSpec.plain.varTypes Tryz.pinned.checked.prog ++ Tryz.f8.resultTypes.toList).any (Tryz.pinned.checked.prog.wideKeysFrom ·))) = true := by kernel_rfl
theorem changesCanGoBack_h19 : (Rows.changesCanGoBackSpec.vars.all (Tryz.pinned.checked.prog.varReadable ·)) = true := by kernel_rfl
theorem changesCanGoBack_h20 : (Tryz.f8.resultTypes.all (fun t => Tryz.pinned.checked.prog.readableRec t && decide (t < Tryz.pinned.checked.prog.types.size))) = true := by kernel_rfl
theorem changesCanGoBack_h21 : ((Rows.changesCanGoBackRow.ifacesOut == Tryz.f8.resultTypes.toList.any (Tryz.pinned.checked.prog.ifacesRec ·))) = true := by kernel_rfl
theorem changesCanGoBack_h22 : ((Rows.changesCanGoBackRow.loopsOut == Tryz.f8.resultTypes.toList.any (Tryz.pinned.checked.prog.loopsFrom ·))) = true := by kernel_rfl
theorem changesCanGoBack_h24 : (Rows.changesCanGoBackRow.shortTexts.isNone) = true := by kernel_rfl
theorem changesCanGoBack_h27 : ((Rows.changesCanGoBackRow.lifted == Tryz.pinned.checked.prog.liftsFinal)) = true := by kernel_rfl
theorem changesCanGoBack_h28 : ((Tryz.pinned.checked.prog.make == some Rows.changesCanGoBackRow.make)) = true := by kernel_rfl
theorem changesCanGoBack_h29 : ((Rows.changesCanGoBackRow.kinds == (if Rows.changesCanGoBackRow.domain.isEmpty then [] else Tryz.f8.params.toList.map fun t => match Tryz.pinned.checked.prog.underlying t with | some (.int k) => some k | _ => none))) = true := by kernel_rfl
theorem changesCanGoBack_h30 : ((Rows.changesCanGoBackRow.pinned == Rows.changesCanGoBackRow.pinnedBy)) = true := by kernel_rfl
theorem changesCanGoBack_h31 : ((Rows.changesCanGoBackRow.veiled == (Tryz.f8.params.toList ++ Rows.changesCanGoBackSpec.plain.varTypes Tryz.pinned.checked.prog ++ Tryz.f8.resultTypes.toList).any (Tryz.pinned.checked.prog.veiledRec ·))) = true := by kernel_rfl
theorem changesCanGoBack_h32 : (Rows.changesCanGoBackRow.veiledFits Tryz.pinned.checked.prog Tryz.f8.params.toList (Tryz.f8.params.toList ++ Rows.changesCanGoBackSpec.plain.varTypes Tryz.pinned.checked.prog ++ Tryz.f8.resultTypes.toList)) = true := by kernel_rfl
theorem changesCanGoBack_goes : false = Rows.changesCanGoBackRow.goesBy Tryz.pinned.checked.prog := by kernel_rfl

set_option maxRecDepth 100000 in
theorem changesCanGoBack_lifted (os : Os) (started : os.Started) (H : Type) (enc : TypeId × Value → H) :
    ReturnsInHanded {} Tryz.checked os 8 .any (fun w args => (Rows.changesCanGoBackSpec.pre enc Tryz.prog Tryz.f8 Rows.changesCanGoBackRow.domain false w args ∧ laidMetH Tryz.prog Rows.changesCanGoBackRow.laid w) ∧ sizedMet enc Tryz.prog Tryz.f8 (OpenSpec.ofChange Rows.changesCanGoBackSpec) false w args)
      (Rows.changesCanGoBackSpec.post enc Tryz.prog Tryz.f8 false true false false) := by
  refine returnsInHanded_of_change_and (C := Tryz.checked) (X := fun w _ => laidMetH Tryz.prog Rows.changesCanGoBackRow.laid w) (fun _ _ _ hh h => h.of_heap hh) ownOf started (by kernel_rfl) Tryz.func8
    (ChangeSpec.witness_shaped (enc := enc) (C := Tryz.checked) (os := os) (X := fun w _ => laidMetH Tryz.prog Rows.changesCanGoBackRow.laid w) false (World.laidAll Tryz.prog os Rows.changesCanGoBackRow.laid) #[.slice none 0 0] 8 (World.laidAll_os _ _ _)
      (World.shaped_of_ZipB (by kernel_rfl) (by kernel_rfl)) (by kernel_rfl) (by kernel_rfl) (by kernel_rfl)
      (by rw [MakeChecks.laidMetH_plain _ _ _ (by kernel_rfl)]; exact laidMet_laidAll _ (by kernel_rfl) (by kernel_rfl))) ?_
  intro W base args ds gs before hval hW _ _ _ _
  exact law_post Tryz.params8 (tB := 4) (by kernel_rfl) Tryz.underlying22 Tryz.underlying3 (by kernel_rfl) Tryz.underlying4 rfl (fun _ => rfl) changesCanGoBack_call hval hW

set_option maxRecDepth 100000 in
theorem changesCanGoBack_row : Rows.ChangesCanGoBackSaid :=
  OpenClaim.holds_of_wide 8 Tryz.f8 rfl rfl rfl rfl rfl rfl rfl ⟨rfl, rfl, rfl, rfl, rfl⟩ rfl rfl rfl rfl rfl (by kernel_rfl) Tryz.func8 (facts_of changesCanGoBack_h1 p_h2 p_h3 changesCanGoBack_h4 changesCanGoBack_h5 changesCanGoBack_h6 p_h7 changesCanGoBack_h8 p_h9 changesCanGoBack_h10 changesCanGoBack_h11 changesCanGoBack_h12 changesCanGoBack_h13 changesCanGoBack_h14 changesCanGoBack_h15 changesCanGoBack_h16 changesCanGoBack_h17 changesCanGoBack_h18 changesCanGoBack_h19 changesCanGoBack_h20 changesCanGoBack_h21 changesCanGoBack_h22 p_h23 changesCanGoBack_h24 p_h25 p_h26 changesCanGoBack_h27 changesCanGoBack_h28 changesCanGoBack_h29 changesCanGoBack_h30 changesCanGoBack_h31 changesCanGoBack_h32)
    (of_decide_eq_true (by kernel_rfl)) (by unfold Func.isWrapper; first | (rw [if_pos (by decide +kernel)]; kernel_rfl) | (rw [if_neg (by decide +kernel)]; exact ⟨rfl, rfl⟩))
    (fun os started H enc _ => changesCanGoBack_lifted os started H enc)
set_option maxRecDepth 100000 in
theorem changesCanGoBack_holds : Rows.ChangesCanGoBackCardSaid :=
  Claim7.holds_tied_plain_at .later [] [.data, .pinned] true (true, "84deda9c12d7de6b70208ad04f70386e8c896e65baa377cafdba8e74ed2f5c7d") true changesCanGoBack_row (fun _ h => by cases h) (by kernel_rfl) (fun _ h => by cases h) changesCanGoBack_row_tie rfl ⟨rfl, rfl⟩ pMain rfl
    (fun f fn hf hfn => by
      obtain rfl : f = 8 := Option.some.inj ((show Tryz.prog.funcNamed Rows.changesCanGoBackRow.func = some 8 by kernel_rfl).symm.trans hf) |>.symm
      obtain rfl : fn = Tryz.f8 := (Option.some.inj (Tryz.func8.symm.trans hfn)).symm
      exact ⟨pLooks, fun j t ht => by
        rw [Tryz.params8] at ht
        have hm : t ∈ [22] := by simpa using Array.mem_of_getElem? ht
        have hall : ([22].all fun u => !Tryz.prog.wantsStandIn u) = true := by kernel_rfl
        exact (show Tryz.prog.wantsStandIn t = false by simpa using List.all_eq_true.1 hall t hm)⟩)
    changesCanGoBack_goes
#print axioms changesCanGoBack_holds
end Go.Proofs.YtpfhjchbegdgdaaGreatDoor
