/-
  What is proved here: whatever numbers pileup's law AwardsStay is called at, it answers true, and the slice reads as before. Conditions: those of the given card alone (the listed variables as the program's text lays them).
-/
import Derived.Test.YthnhleemkjpigaaGreatDoorTie
import Derived.Test.YthnhleemkjpigaaGreatDoorCards
import Derived.Test.YthnhleemkjpigaaGreatDoorMJ
import Derived.Test.YthnhleemkjpigaaGreatDoorMF
set_option linter.unusedSimpArgs false
set_option linter.unusedVariables false
set_option linter.unusedSectionVars false
namespace Go.Proofs.YthnhleemkjpigaaGreatDoor
open Go Go.AL Go.ChangeShapes Go.WideShapes Go.ChangeAt Go.RowKit

theorem awardsStay_call (rows : List (List G)) : ACallX Tryz.prog 7 [.listF [.int .i64] rows] [] (.lit (.bool true)) [] := SYthnhleemkjpigaaGreatDoor.c_pilekeep2_AwardsStay [.l rows] [.t true] (SYthnhleemkjpigaaGreatDoor.awardsStay_data rows)
theorem awardsStay_h1 : (Rows.awardsStayRow.wf (OpenSpec.ofChange Rows.awardsStaySpec)) = true := by kernel_rfl
theorem awardsStay_h4 : (Tryz.f7.params.all (Tryz.pinned.checked.prog.readableRec ·)) = true := by kernel_rfl
theorem awardsStay_h5 : (namedTie Tryz.pinned.checked.prog Rows.awardsStayRow.named Rows.awardsStaySpec.vars) = true := by kernel_rfl
theorem awardsStay_h6 : ((Rows.awardsStayRow.stops == [])) = true := by kernel_rfl
theorem awardsStay_h8 : ((Rows.awardsStayRow.knobs == [])) = true := by kernel_rfl
theorem awardsStay_h10 : ((Rows.awardsStayRow.inPlace == Tryz.pinned.checked.prog.inPlace 7)) = true := by kernel_rfl
theorem awardsStay_h11 : ((Rows.awardsStayRow.unfollowed == Tryz.pinned.checked.prog.unfollowed 7)) = true := by kernel_rfl
theorem awardsStay_h12 : ((Rows.awardsStayRow.recurses == Tryz.pinned.checked.prog.recurses 7)) = true := by kernel_rfl
theorem awardsStay_h13 : ((Rows.awardsStayRow.named == Tryz.pinned.checked.prog.varsNamed 7)) = true := by kernel_rfl
theorem awardsStay_h14 : ((Rows.awardsStayRow.maps == (Tryz.f7.params.toList ++ Rows.awardsStaySpec.plain.varTypes Tryz.pinned.checked.prog).any (Tryz.pinned.checked.prog.mapsRec ·))) = true := by kernel_rfl
theorem awardsStay_h15 : ((Rows.awardsStayRow.ifaces == (Tryz.f7.params.toList ++ Rows.awardsStaySpec.plain.varTypes Tryz.pinned.checked.prog).any (Tryz.pinned.checked.prog.ifacesRec ·))) = true := by kernel_rfl
theorem awardsStay_h16 : ((Rows.awardsStayRow.mapsOut == Tryz.pinned.checked.prog.mapsAmong Tryz.f7.resultTypes.toList)) = true := by kernel_rfl
theorem awardsStay_h17 : ((Rows.awardsStayRow.loops == (Tryz.f7.params.toList ++ Rows.awardsStaySpec.plain.varTypes Tryz.pinned.checked.prog).any (Tryz.pinned.checked.prog.loopsFrom ·))) = true := by kernel_rfl
theorem awardsStay_h18 : ((Rows.awardsStayRow.wideKeys == (Tryz.f7.params.toList ++ Rows.awardsStaySpec.plain.varTypes Tryz.pinned.checked.prog ++ Tryz.f7.resultTypes.toList).any (Tryz.pinned.checked.prog.wideKeysFrom ·))) = true := by kernel_rfl
theorem awardsStay_h19 : (Rows.awardsStaySpec.vars.all (Tryz.pinned.checked.prog.varReadable ·)) = true := by kernel_rfl
theorem awardsStay_h20 : (Tryz.f7.resultTypes.all (fun t => Tryz.pinned.checked.prog.readableRec t && decide (t < Tryz.pinned.checked.prog.types.size))) = true := by kernel_rfl
theorem awardsStay_h21 : ((Rows.awardsStayRow.ifacesOut == Tryz.f7.resultTypes.toList.any (Tryz.pinned.checked.prog.ifacesRec ·))) = true := by kernel_rfl
theorem awardsStay_h22 : ((Rows.awardsStayRow.loopsOut == Tryz.f7.resultTypes.toList.any (Tryz.pinned.checked.prog.loopsFrom ·))) = true := by kernel_rfl
theorem awardsStay_h24 : (Rows.awardsStayRow.shortTexts.isNone) = true := by kernel_rfl
theorem awardsStay_h27 : ((Rows.awardsStayRow.lifted == Tryz.pinned.checked.prog.liftsFinal)) = true := by kernel_rfl
theorem awardsStay_h28 : ((Tryz.pinned.checked.prog.make == some Rows.awardsStayRow.make)) = true := by kernel_rfl
theorem awardsStay_h29 : ((Rows.awardsStayRow.kinds == (if Rows.awardsStayRow.domain.isEmpty then [] else Tryz.f7.params.toList.map fun t => match Tryz.pinned.checked.prog.underlying t with | some (.int k) => some k | _ => none))) = true := by kernel_rfl
theorem awardsStay_h30 : ((Rows.awardsStayRow.pinned == Rows.awardsStayRow.pinnedBy)) = true := by kernel_rfl
theorem awardsStay_h31 : ((Rows.awardsStayRow.veiled == (Tryz.f7.params.toList ++ Rows.awardsStaySpec.plain.varTypes Tryz.pinned.checked.prog ++ Tryz.f7.resultTypes.toList).any (Tryz.pinned.checked.prog.veiledRec ·))) = true := by kernel_rfl
theorem awardsStay_h32 : (Rows.awardsStayRow.veiledFits Tryz.pinned.checked.prog Tryz.f7.params.toList (Tryz.f7.params.toList ++ Rows.awardsStaySpec.plain.varTypes Tryz.pinned.checked.prog ++ Tryz.f7.resultTypes.toList)) = true := by kernel_rfl
theorem awardsStay_goes : false = Rows.awardsStayRow.goesBy Tryz.pinned.checked.prog := by kernel_rfl

set_option maxRecDepth 100000 in
theorem awardsStay_lifted (os : Os) (started : os.Started) (H : Type) (enc : TypeId × Value → H) :
    ReturnsInHanded {} Tryz.checked os 7 .any (fun w args => (Rows.awardsStaySpec.pre enc Tryz.prog Tryz.f7 Rows.awardsStayRow.domain false w args ∧ laidMetH Tryz.prog Rows.awardsStayRow.laid w) ∧ sizedMet enc Tryz.prog Tryz.f7 (OpenSpec.ofChange Rows.awardsStaySpec) false w args)
      (Rows.awardsStaySpec.post enc Tryz.prog Tryz.f7 false true false false) := by
  refine returnsInHanded_of_change_and (C := Tryz.checked) (X := fun w _ => laidMetH Tryz.prog Rows.awardsStayRow.laid w) (fun _ _ _ hh h => h.of_heap hh) ownOf started (by kernel_rfl) Tryz.func7
    (ChangeSpec.witness_shaped (enc := enc) (C := Tryz.checked) (os := os) (X := fun w _ => laidMetH Tryz.prog Rows.awardsStayRow.laid w) false (World.laidAll Tryz.prog os Rows.awardsStayRow.laid) #[.slice none 0 0] 8 (World.laidAll_os _ _ _)
      (World.shaped_of_ZipB (by kernel_rfl) (by kernel_rfl)) (by kernel_rfl) (by kernel_rfl) (by kernel_rfl)
      (by rw [MakeChecks.laidMetH_plain _ _ _ (by kernel_rfl)]; exact laidMet_laidAll _ (by kernel_rfl) (by kernel_rfl))) ?_
  intro W base args ds gs before hval hW _ _ hx _
  have htab : ∀ p ∈ tabZ, ∃ t f, W.heap[p.1]? = some (.cells p.2 t f) := by
    intro p hp
    unfold tabZ at hp
    cases hp
  exact law_post Tryz.params7 (tB := 4) (by kernel_rfl) Tryz.underlying22 Tryz.underlying3 (by kernel_rfl) Tryz.underlying4 rfl (fun _ => rfl) awardsStay_call htab hval hW

set_option maxRecDepth 100000 in
theorem awardsStay_row : Rows.AwardsStaySaid :=
  OpenClaim.holds_of_wide 7 Tryz.f7 rfl rfl rfl rfl rfl rfl rfl ⟨rfl, rfl, rfl, rfl, rfl⟩ rfl rfl rfl rfl rfl (by kernel_rfl) Tryz.func7 (facts_of awardsStay_h1 p_h2 p_h3 awardsStay_h4 awardsStay_h5 awardsStay_h6 p_h7 awardsStay_h8 p_h9 awardsStay_h10 awardsStay_h11 awardsStay_h12 awardsStay_h13 awardsStay_h14 awardsStay_h15 awardsStay_h16 awardsStay_h17 awardsStay_h18 awardsStay_h19 awardsStay_h20 awardsStay_h21 awardsStay_h22 p_h23 awardsStay_h24 p_h25 p_h26 awardsStay_h27 awardsStay_h28 awardsStay_h29 awardsStay_h30 awardsStay_h31 awardsStay_h32)
    (of_decide_eq_true (by kernel_rfl)) (by unfold Func.isWrapper; first | (rw [if_pos (by decide +kernel)]; kernel_rfl) | (rw [if_neg (by decide +kernel)]; exact ⟨rfl, rfl⟩))
    (fun os started H enc _ => awardsStay_lifted os started H enc)
set_option maxRecDepth 100000 in
theorem awardsStay_holds : Rows.AwardsStayCardSaid :=
  Claim7.holds_tied_plain_at .later [] [.data, .data, .data, .data, .pinned] true (true, "20b3b9bac6bd2f46df80af48f7459d951cc4bbc53917a483e47da6dfd57536be") false awardsStay_row (fun _ h => by cases h) (by kernel_rfl) (fun _ h => by cases h) awardsStay_row_tie rfl ⟨rfl, rfl⟩ pMain rfl
    (fun f fn hf hfn => by
      obtain rfl : f = 7 := Option.some.inj ((show Tryz.prog.funcNamed Rows.awardsStayRow.func = some 7 by kernel_rfl).symm.trans hf) |>.symm
      obtain rfl : fn = Tryz.f7 := (Option.some.inj (Tryz.func7.symm.trans hfn)).symm
      exact ⟨pLooks, fun j t ht => by
        rw [Tryz.params7] at ht
        have hm : t ∈ [22] := by simpa using Array.mem_of_getElem? ht
        have hall : ([22].all fun u => !Tryz.prog.wantsStandIn u) = true := by kernel_rfl
        exact (show Tryz.prog.wantsStandIn t = false by simpa using List.all_eq_true.1 hall t hm)⟩)
    awardsStay_goes
#print axioms awardsStay_holds
end Go.Proofs.YthnhleemkjpigaaGreatDoor
