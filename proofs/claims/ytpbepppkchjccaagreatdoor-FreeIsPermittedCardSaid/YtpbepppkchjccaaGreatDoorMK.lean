/-
  What is proved here: whatever numbers pileup's law FreeIsPermitted is called at, it answers true, and the slice reads as before. Conditions: those of the given card alone (the listed variables as the program's text lays them).
-/
import Derived.Test.YtpbepppkchjccaaGreatDoorTie
import Derived.Test.YtpbepppkchjccaaGreatDoorCards
import Derived.Test.YtpbepppkchjccaaGreatDoorMJ
import Derived.Test.YtpbepppkchjccaaGreatDoorMF
set_option linter.unusedSimpArgs false
set_option linter.unusedVariables false
set_option linter.unusedSectionVars false
namespace Go.Proofs.YtpbepppkchjccaaGreatDoor
open Go Go.AL Go.ChangeShapes Go.WideShapes Go.ChangeAt Go.RowKit

theorem freeIsPermitted_call (rows : List (List G)) : ACallX Tryz.prog 3 [.listF [.int .i64] rows] [] (.lit (.bool true)) [] := SYtpbepppkchjccaaGreatDoor.c_pilekeep2_FreeIsPermitted [.l rows] [.t true] (SYtpbepppkchjccaaGreatDoor.freeIsPermitted_data rows)
theorem freeIsPermitted_h1 : (Rows.freeIsPermittedRow.wf (OpenSpec.ofChange Rows.freeIsPermittedSpec)) = true := by kernel_rfl
theorem freeIsPermitted_h4 : (Tryz.f3.params.all (Tryz.pinned.checked.prog.readableRec ·)) = true := by kernel_rfl
theorem freeIsPermitted_h5 : (namedTie Tryz.pinned.checked.prog Rows.freeIsPermittedRow.named Rows.freeIsPermittedSpec.vars) = true := by kernel_rfl
theorem freeIsPermitted_h6 : ((Rows.freeIsPermittedRow.stops == [])) = true := by kernel_rfl
theorem freeIsPermitted_h8 : ((Rows.freeIsPermittedRow.knobs == [])) = true := by kernel_rfl
theorem freeIsPermitted_h10 : ((Rows.freeIsPermittedRow.inPlace == Tryz.pinned.checked.prog.inPlace 3)) = true := by kernel_rfl
theorem freeIsPermitted_h11 : ((Rows.freeIsPermittedRow.unfollowed == Tryz.pinned.checked.prog.unfollowed 3)) = true := by kernel_rfl
theorem freeIsPermitted_h12 : ((Rows.freeIsPermittedRow.recurses == Tryz.pinned.checked.prog.recurses 3)) = true := by kernel_rfl
theorem freeIsPermitted_h13 : ((Rows.freeIsPermittedRow.named == Tryz.pinned.checked.prog.varsNamed 3)) = true := by kernel_rfl
theorem freeIsPermitted_h14 : ((Rows.freeIsPermittedRow.maps == (Tryz.f3.params.toList ++ Rows.freeIsPermittedSpec.plain.varTypes Tryz.pinned.checked.prog).any (Tryz.pinned.checked.prog.mapsRec ·))) = true := by kernel_rfl
theorem freeIsPermitted_h15 : ((Rows.freeIsPermittedRow.ifaces == (Tryz.f3.params.toList ++ Rows.freeIsPermittedSpec.plain.varTypes Tryz.pinned.checked.prog).any (Tryz.pinned.checked.prog.ifacesRec ·))) = true := by kernel_rfl
theorem freeIsPermitted_h16 : ((Rows.freeIsPermittedRow.mapsOut == Tryz.pinned.checked.prog.mapsAmong Tryz.f3.resultTypes.toList)) = true := by kernel_rfl
theorem freeIsPermitted_h17 : ((Rows.freeIsPermittedRow.loops == (Tryz.f3.params.toList ++ Rows.freeIsPermittedSpec.plain.varTypes Tryz.pinned.checked.prog).any (Tryz.pinned.checked.prog.loopsFrom ·))) = true := by kernel_rfl
theorem freeIsPermitted_h18 : ((Rows.freeIsPermittedRow.wideKeys == (Tryz.f3.params.toList ++ Rows.freeIsPermittedSpec.plain.varTypes Tryz.pinned.checked.prog ++ Tryz.f3.resultTypes.toList).any (Tryz.pinned.checked.prog.wideKeysFrom ·))) = true := by kernel_rfl
theorem freeIsPermitted_h19 : (Rows.freeIsPermittedSpec.vars.all (Tryz.pinned.checked.prog.varReadable ·)) = true := by kernel_rfl
theorem freeIsPermitted_h20 : (Tryz.f3.resultTypes.all (fun t => Tryz.pinned.checked.prog.readableRec t && decide (t < Tryz.pinned.checked.prog.types.size))) = true := by kernel_rfl
theorem freeIsPermitted_h21 : ((Rows.freeIsPermittedRow.ifacesOut == Tryz.f3.resultTypes.toList.any (Tryz.pinned.checked.prog.ifacesRec ·))) = true := by kernel_rfl
theorem freeIsPermitted_h22 : ((Rows.freeIsPermittedRow.loopsOut == Tryz.f3.resultTypes.toList.any (Tryz.pinned.checked.prog.loopsFrom ·))) = true := by kernel_rfl
theorem freeIsPermitted_h24 : (Rows.freeIsPermittedRow.shortTexts.isNone) = true := by kernel_rfl
theorem freeIsPermitted_h27 : ((Rows.freeIsPermittedRow.lifted == Tryz.pinned.checked.prog.liftsFinal)) = true := by kernel_rfl
theorem freeIsPermitted_h28 : ((Tryz.pinned.checked.prog.make == some Rows.freeIsPermittedRow.make)) = true := by kernel_rfl
theorem freeIsPermitted_h29 : ((Rows.freeIsPermittedRow.kinds == (if Rows.freeIsPermittedRow.domain.isEmpty then [] else Tryz.f3.params.toList.map fun t => match Tryz.pinned.checked.prog.underlying t with | some (.int k) => some k | _ => none))) = true := by kernel_rfl
theorem freeIsPermitted_h30 : ((Rows.freeIsPermittedRow.pinned == Rows.freeIsPermittedRow.pinnedBy)) = true := by kernel_rfl
theorem freeIsPermitted_h31 : ((Rows.freeIsPermittedRow.veiled == (Tryz.f3.params.toList ++ Rows.freeIsPermittedSpec.plain.varTypes Tryz.pinned.checked.prog ++ Tryz.f3.resultTypes.toList).any (Tryz.pinned.checked.prog.veiledRec ·))) = true := by kernel_rfl
theorem freeIsPermitted_h32 : (Rows.freeIsPermittedRow.veiledFits Tryz.pinned.checked.prog Tryz.f3.params.toList (Tryz.f3.params.toList ++ Rows.freeIsPermittedSpec.plain.varTypes Tryz.pinned.checked.prog ++ Tryz.f3.resultTypes.toList)) = true := by kernel_rfl
theorem freeIsPermitted_goes : false = Rows.freeIsPermittedRow.goesBy Tryz.pinned.checked.prog := by kernel_rfl

set_option maxRecDepth 100000 in
theorem freeIsPermitted_lifted (os : Os) (started : os.Started) (H : Type) (enc : TypeId × Value → H) :
    ReturnsInHanded {} Tryz.checked os 3 .any (fun w args => (Rows.freeIsPermittedSpec.pre enc Tryz.prog Tryz.f3 Rows.freeIsPermittedRow.domain false w args ∧ laidMetH Tryz.prog Rows.freeIsPermittedRow.laid w) ∧ sizedMet enc Tryz.prog Tryz.f3 (OpenSpec.ofChange Rows.freeIsPermittedSpec) false w args)
      (Rows.freeIsPermittedSpec.post enc Tryz.prog Tryz.f3 false true false false) := by
  refine returnsInHanded_of_change_and (C := Tryz.checked) (X := fun w _ => laidMetH Tryz.prog Rows.freeIsPermittedRow.laid w) (fun _ _ _ hh h => h.of_heap hh) ownOf started (by kernel_rfl) Tryz.func3
    (ChangeSpec.witness_shaped (enc := enc) (C := Tryz.checked) (os := os) (X := fun w _ => laidMetH Tryz.prog Rows.freeIsPermittedRow.laid w) false (World.laidAll Tryz.prog os Rows.freeIsPermittedRow.laid) #[.slice none 0 0] 8 (World.laidAll_os _ _ _)
      (World.shaped_of_ZipB (by kernel_rfl) (by kernel_rfl)) (by kernel_rfl) (by kernel_rfl) (by kernel_rfl)
      (by rw [MakeChecks.laidMetH_plain _ _ _ (by kernel_rfl)]; exact laidMet_laidAll _ (by kernel_rfl) (by kernel_rfl))) ?_
  intro W base args ds gs before hval hW _ _ hx _
  have htab : ∀ p ∈ tabZ, ∃ t f, W.heap[p.1]? = some (.cells p.2 t f) := by
    intro p hp
    unfold tabZ at hp
    cases hp
  exact law_post Tryz.params3 (tB := 4) (by kernel_rfl) Tryz.underlying22 Tryz.underlying3 (by kernel_rfl) Tryz.underlying4 rfl (fun _ => rfl) freeIsPermitted_call htab hval hW

set_option maxRecDepth 100000 in
theorem freeIsPermitted_row : Rows.FreeIsPermittedSaid :=
  OpenClaim.holds_of_wide 3 Tryz.f3 rfl rfl rfl rfl rfl rfl rfl ⟨rfl, rfl, rfl, rfl, rfl⟩ rfl rfl rfl rfl rfl (by kernel_rfl) Tryz.func3 (facts_of freeIsPermitted_h1 p_h2 p_h3 freeIsPermitted_h4 freeIsPermitted_h5 freeIsPermitted_h6 p_h7 freeIsPermitted_h8 p_h9 freeIsPermitted_h10 freeIsPermitted_h11 freeIsPermitted_h12 freeIsPermitted_h13 freeIsPermitted_h14 freeIsPermitted_h15 freeIsPermitted_h16 freeIsPermitted_h17 freeIsPermitted_h18 freeIsPermitted_h19 freeIsPermitted_h20 freeIsPermitted_h21 freeIsPermitted_h22 p_h23 freeIsPermitted_h24 p_h25 p_h26 freeIsPermitted_h27 freeIsPermitted_h28 freeIsPermitted_h29 freeIsPermitted_h30 freeIsPermitted_h31 freeIsPermitted_h32)
    (of_decide_eq_true (by kernel_rfl)) (by unfold Func.isWrapper; first | (rw [if_pos (by decide +kernel)]; kernel_rfl) | (rw [if_neg (by decide +kernel)]; exact ⟨rfl, rfl⟩))
    (fun os started H enc _ => freeIsPermitted_lifted os started H enc)
set_option maxRecDepth 100000 in
theorem freeIsPermitted_holds : Rows.FreeIsPermittedCardSaid :=
  Claim7.holds_tied_plain_at .later [] [.data, .pinned] true (true, "439a06d9cbcad5050832829ae58aca0304a881c53f546dab3b9e3d4560f46f37") false freeIsPermitted_row (fun _ h => by cases h) (by kernel_rfl) (fun _ h => by cases h) freeIsPermitted_row_tie rfl ⟨rfl, rfl⟩ pMain rfl
    (fun f fn hf hfn => by
      obtain rfl : f = 3 := Option.some.inj ((show Tryz.prog.funcNamed Rows.freeIsPermittedRow.func = some 3 by kernel_rfl).symm.trans hf) |>.symm
      obtain rfl : fn = Tryz.f3 := (Option.some.inj (Tryz.func3.symm.trans hfn)).symm
      exact ⟨pLooks, fun j t ht => by
        rw [Tryz.params3] at ht
        have hm : t ∈ [22] := by simpa using Array.mem_of_getElem? ht
        have hall : ([22].all fun u => !Tryz.prog.wantsStandIn u) = true := by kernel_rfl
        exact (show Tryz.prog.wantsStandIn t = false by simpa using List.all_eq_true.1 hall t hm)⟩)
    freeIsPermitted_goes
#print axioms freeIsPermitted_holds
end Go.Proofs.YtpbepppkchjccaaGreatDoor
