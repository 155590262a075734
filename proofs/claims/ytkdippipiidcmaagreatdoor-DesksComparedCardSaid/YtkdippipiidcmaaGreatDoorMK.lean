/-
 What is proved here: whatever numbers pileup's law DesksCompared is called at, it answers true, and the slice reads as before. Conditions: those of the given card alone (the listed variables as the program's text lays them).
-/
import Derived.Test.YtkdippipiidcmaaGreatDoorTie
import Derived.Test.YtkdippipiidcmaaGreatDoorCards
import Derived.Test.YtkdippipiidcmaaGreatDoorMJ
import Derived.Test.YtkdippipiidcmaaGreatDoorMF
set_option linter.unusedSimpArgs false
set_option linter.unusedVariables false
set_option linter.unusedSectionVars false
namespace Go.Proofs.YtkdippipiidcmaaGreatDoor
open Go Go.AL Go.ChangeShapes Go.WideShapes Go.ChangeAt Go.RowKit

theorem desksCompared_call (rows : List (List G)) : ACallX Tryz.prog 7 [.listF [.int .i64] rows] [] (.lit (.bool true)) [] := SYtkdippipiidcmaaGreatDoor.c_l2_DesksCompared [.l rows] [.t true] (SYtkdippipiidcmaaGreatDoor.desksCompared_data rows)
theorem desksCompared_h1 : (Rows.desksComparedRow.wf (OpenSpec.ofChange Rows.desksComparedSpec)) = true := by kernel_rfl
theorem desksCompared_h4 : (Tryz.f7.params.all (Tryz.pinned.checked.prog.readableRec ·)) = true := by kernel_rfl
theorem desksCompared_h5 : (namedTie Tryz.pinned.checked.prog Rows.desksComparedRow.named Rows.desksComparedSpec.vars) = true := by kernel_rfl
theorem desksCompared_h6 : ((Rows.desksComparedRow.stops == [])) = true := by kernel_rfl
theorem desksCompared_h8 : ((Rows.desksComparedRow.knobs == [])) = true := by kernel_rfl
theorem desksCompared_h10 : ((Rows.desksComparedRow.inPlace == Tryz.pinned.checked.prog.inPlace 7)) = true := by kernel_rfl
theorem desksCompared_h11 : ((Rows.desksComparedRow.unfollowed == Tryz.pinned.checked.prog.unfollowed 7)) = true := by kernel_rfl
theorem desksCompared_h12 : ((Rows.desksComparedRow.recurses == Tryz.pinned.checked.prog.recurses 7)) = true := by kernel_rfl
theorem desksCompared_h13 : ((Rows.desksComparedRow.named == Tryz.pinned.checked.prog.varsNamed 7)) = true := by kernel_rfl
theorem desksCompared_h14 : ((Rows.desksComparedRow.maps == (Tryz.f7.params.toList ++ Rows.desksComparedSpec.plain.varTypes Tryz.pinned.checked.prog).any (Tryz.pinned.checked.prog.mapsRec ·))) = true := by kernel_rfl
theorem desksCompared_h15 : ((Rows.desksComparedRow.ifaces == (Tryz.f7.params.toList ++ Rows.desksComparedSpec.plain.varTypes Tryz.pinned.checked.prog).any (Tryz.pinned.checked.prog.ifacesRec ·))) = true := by kernel_rfl
theorem desksCompared_h16 : ((Rows.desksComparedRow.mapsOut == Tryz.pinned.checked.prog.mapsAmong Tryz.f7.resultTypes.toList)) = true := by kernel_rfl
theorem desksCompared_h17 : ((Rows.desksComparedRow.loops == (Tryz.f7.params.toList ++ Rows.desksComparedSpec.plain.varTypes Tryz.pinned.checked.prog).any (Tryz.pinned.checked.prog.loopsFrom ·))) = true := by kernel_rfl
theorem desksCompared_h18 : ((Rows.desksComparedRow.wideKeys == (Tryz.f7.params.toList ++ Rows.desksComparedSpec.plain.varTypes Tryz.pinned.checked.prog ++ Tryz.f7.resultTypes.toList).any (Tryz.pinned.checked.prog.wideKeysFrom ·))) = true := by kernel_rfl
theorem desksCompared_h19 : (Rows.desksComparedSpec.vars.all (Tryz.pinned.checked.prog.varReadable ·)) = true := by kernel_rfl
theorem desksCompared_h20 : (Tryz.f7.resultTypes.all (fun t => Tryz.pinned.checked.prog.readableRec t && decide (t < Tryz.pinned.checked.prog.types.size))) = true := by kernel_rfl
theorem desksCompared_h21 : ((Rows.desksComparedRow.ifacesOut == Tryz.f7.resultTypes.toList.any (Tryz.pinned.checked.prog.ifacesRec ·))) = true := by kernel_rfl
theorem desksCompared_h22 : ((Rows.desksComparedRow.loopsOut == Tryz.f7.resultTypes.toList.any (Tryz.pinned.checked.prog.loopsFrom ·))) = true := by kernel_rfl
theorem desksCompared_h24 : (Rows.desksComparedRow.shortTexts.isNone) = true := by kernel_rfl
theorem desksCompared_h27 : ((Rows.desksComparedRow.lifted == Tryz.pinned.checked.prog.liftsFinal)) = true := by kernel_rfl
theorem desksCompared_h28 : ((Tryz.pinned.checked.prog.make == some Rows.desksComparedRow.make)) = true := by kernel_rfl
theorem desksCompared_h29 : ((Rows.desksComparedRow.kinds == (if Rows.desksComparedRow.domain.isEmpty then [] else Tryz.f7.params.toList.map fun t => match Tryz.pinned.checked.prog.underlying t with | some (.int k) => some k | _ => none))) = true := by kernel_rfl
theorem desksCompared_h30 : ((Rows.desksComparedRow.pinned == Rows.desksComparedRow.pinnedBy)) = true := by kernel_rfl
theorem desksCompared_h31 : ((Rows.desksComparedRow.veiled == (Tryz.f7.params.toList ++ Rows.desksComparedSpec.plain.varTypes Tryz.pinned.checked.prog ++ Tryz.f7.resultTypes.toList).any (Tryz.pinned.checked.prog.veiledRec ·))) = true := by kernel_rfl
theorem desksCompared_h32 : (Rows.desksComparedRow.veiledFits Tryz.pinned.checked.prog Tryz.f7.params.toList (Tryz.f7.params.toList ++ Rows.desksComparedSpec.plain.varTypes Tryz.pinned.checked.prog ++ Tryz.f7.resultTypes.toList)) = true := by kernel_rfl
theorem desksCompared_goes : false = Rows.desksComparedRow.goesBy Tryz.pinned.checked.prog := by kernel_rfl

set_option maxRecDepth 100000 in
theorem desksCompared_lifted (os : Os) (started : os.Started) (H : Type) (enc : TypeId × Value → H) :
  ReturnsInHanded {} Tryz.checked os 7 .any (fun w args => (Rows.desksComparedSpec.pre enc Tryz.prog Tryz.f7 Rows.desksComparedRow.domain false w args ∧ laidMetH Tryz.prog Rows.desksComparedRow.laid w) ∧ sizedMet enc Tryz.prog Tryz.f7 (OpenSpec.ofChange Rows.desksComparedSpec) false w args)
   (Rows.desksComparedSpec.post enc Tryz.prog Tryz.f7 false true false false) := by
 refine returnsInHanded_of_change_and (C := Tryz.checked) (X := fun w _ => laidMetH Tryz.prog Rows.desksComparedRow.laid w) (fun _ _ _ hh h => h.of_heap hh) ownOf started (by kernel_rfl) Tryz.func7
  (ChangeSpec.witness_shaped (enc := enc) (C := Tryz.checked) (os := os) (X := fun w _ => laidMetH Tryz.prog Rows.desksComparedRow.laid w) false (World.laidAll Tryz.prog os Rows.desksComparedRow.laid) #[.slice none 0 0] 8 (World.laidAll_os _ _ _)
   (World.shaped_of_ZipB (by kernel_rfl) (by kernel_rfl)) (by kernel_rfl) (by kernel_rfl) (by kernel_rfl)
   (by rw [MakeChecks.laidMetH_plain _ _ _ (by kernel_rfl)]; exact laidMet_laidAll _ (by kernel_rfl) (by kernel_rfl))) ?_
 intro W base args ds gs before hval hW _ _ hx _
 have htab : ∀ p ∈ tabZ, ∃ t f, W.heap[p.1]? = some (.cells p.2 t f) := by
  intro p hp
  unfold tabZ at hp
  cases hp
 exact law_post Tryz.params7 (tB := 4) (by kernel_rfl) Tryz.underlying22 Tryz.underlying3 (by kernel_rfl) Tryz.underlying4 rfl (fun _ => rfl) desksCompared_call htab hval hW

set_option maxRecDepth 100000 in
theorem desksCompared_row : Rows.DesksComparedSaid :=
 OpenClaim.holds_of_wide 7 Tryz.f7 rfl rfl rfl rfl rfl rfl rfl ⟨rfl, rfl, rfl, rfl, rfl⟩ rfl rfl rfl rfl rfl (by kernel_rfl) Tryz.func7 (facts_of desksCompared_h1 p_h2 p_h3 desksCompared_h4 desksCompared_h5 desksCompared_h6 p_h7 desksCompared_h8 p_h9 desksCompared_h10 desksCompared_h11 desksCompared_h12 desksCompared_h13 desksCompared_h14 desksCompared_h15 desksCompared_h16 desksCompared_h17 desksCompared_h18 desksCompared_h19 desksCompared_h20 desksCompared_h21 desksCompared_h22 p_h23 desksCompared_h24 p_h25 p_h26 desksCompared_h27 desksCompared_h28 desksCompared_h29 desksCompared_h30 desksCompared_h31 desksCompared_h32)
  (of_decide_eq_true (by kernel_rfl)) (by unfold Func.isWrapper; first | (rw [if_pos (by decide +kernel)]; kernel_rfl) | (rw [if_neg (by decide +kernel)]; exact ⟨rfl, rfl⟩))
  (fun os started H enc _ => desksCompared_lifted os started H enc)
set_option maxRecDepth 100000 in
theorem desksCompared_holds : Rows.DesksComparedCardSaid :=
 Claim7.holds_tied_plain_at .later [] [.data, .data, .data, .data, .pinned] true (true, "312b958637d41a883e8be5d795926ee13ce58f4285d38953e9825630cd61c13b") true desksCompared_row (fun _ h => by cases h) (by kernel_rfl) (fun _ h => by cases h) desksCompared_row_tie rfl ⟨rfl, rfl⟩ pMain rfl
  (fun f fn hf hfn => by
   obtain rfl : f = 7 := Option.some.inj ((show Tryz.prog.funcNamed Rows.desksComparedRow.func = some 7 by kernel_rfl).symm.trans hf) |>.symm
   obtain rfl : fn = Tryz.f7 := (Option.some.inj (Tryz.func7.symm.trans hfn)).symm
   exact ⟨pLooks, fun j t ht => by
    rw [Tryz.params7] at ht
    have hm : t ∈ [22] := by simpa using Array.mem_of_getElem? ht
    have hall : ([22].all fun u => !Tryz.prog.wantsStandIn u) = true := by kernel_rfl
    exact (show Tryz.prog.wantsStandIn t = false by simpa using List.all_eq_true.1 hall t hm)⟩)
  desksCompared_goes
#print axioms desksCompared_holds
end Go.Proofs.YtkdippipiidcmaaGreatDoor
