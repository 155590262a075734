/-
  What is proved here: whatever numbers pileup's law CardsAgree is called at, it answers true, and the slice reads as before. Conditions: those of the given card alone (the listed variables as the program's text lays them).
-/
import Derived.Test.YthnhleemkjpigaaGreatDoorTie
import Derived.Test.YthnhleemkjpigaaGreatDoorCards
import Derived.Test.YthnhleemkjpigaaGreatDoorMJ
import Derived.Test.YthnhleemkjpigaaGreatDoorMF
set_option linter.unusedSimpArgs false
set_option linter.unusedVariables false
set_option linter.unusedSectionVars false
namespace Go.Proofs.YthnhleemkjpigaaGreatDoor
open Go Go.AL Go.ChangeShapes Go.WideShapes Go.ChangeAt Go.RowKit

theorem cardsAgree_call (rows : List (List G)) : ACallX Tryz.prog 5 [.listF [.int .i64] rows] [] (.lit (.bool true)) [] := SYthnhleemkjpigaaGreatDoor.c_pilekeep2_CardsAgree [.l rows] [.t true] (SYthnhleemkjpigaaGreatDoor.cardsAgree_data rows)
theorem cardsAgree_h1 : (Rows.cardsAgreeRow.wf (OpenSpec.ofChange Rows.cardsAgreeSpec)) = true := by kernel_rfl
theorem cardsAgree_h4 : (Tryz.f5.params.all (Tryz.pinned.checked.prog.readableRec ·)) = true := by kernel_rfl
theorem cardsAgree_h5 : (namedTie Tryz.pinned.checked.prog Rows.cardsAgreeRow.named Rows.cardsAgreeSpec.vars) = true := by kernel_rfl
theorem cardsAgree_h6 : ((Rows.cardsAgreeRow.stops == [])) = true := by kernel_rfl
theorem cardsAgree_h8 : ((Rows.cardsAgreeRow.knobs == [])) = true := by kernel_rfl
theorem cardsAgree_h10 : ((Rows.cardsAgreeRow.inPlace == Tryz.pinned.checked.prog.inPlace 5)) = true := by kernel_rfl
theorem cardsAgree_h11 : ((Rows.cardsAgreeRow.unfollowed == Tryz.pinned.checked.prog.unfollowed 5)) = true := by kernel_rfl
theorem cardsAgree_h12 : ((Rows.cardsAgreeRow.recurses == Tryz.pinned.checked.prog.recurses 5)) = true := by kernel_rfl
theorem cardsAgree_h13 : ((Rows.cardsAgreeRow.named == Tryz.pinned.checked.prog.varsNamed 5)) = true := by kernel_rfl
theorem cardsAgree_h14 : ((Rows.cardsAgreeRow.maps == (Tryz.f5.params.toList ++ Rows.cardsAgreeSpec.plain.varTypes Tryz.pinned.checked.prog).any (Tryz.pinned.checked.prog.mapsRec ·))) = true := by kernel_rfl
theorem cardsAgree_h15 : ((Rows.cardsAgreeRow.ifaces == (Tryz.f5.params.toList ++ Rows.cardsAgreeSpec.plain.varTypes Tryz.pinned.checked.prog).any (Tryz.pinned.checked.prog.ifacesRec ·))) = true := by kernel_rfl
theorem cardsAgree_h16 : ((Rows.cardsAgreeRow.mapsOut == Tryz.pinned.checked.prog.mapsAmong Tryz.f5.resultTypes.toList)) = true := by kernel_rfl
theorem cardsAgree_h17 : ((Rows.cardsAgreeRow.loops == (Tryz.f5.params.toList ++ Rows.cardsAgreeSpec.plain.varTypes Tryz.pinned.checked.prog).any (Tryz.pinned.checked.prog.loopsFrom ·))) = true := by kernel_rfl
theorem cardsAgree_h18 : ((Rows.cardsAgreeRow.wideKeys == (Tryz.f5.params.toList ++ Rows.cardsAgreeSpec.plain.varTypes Tryz.pinned.checked.prog ++ Tryz.f5.resultTypes.toList).any (Tryz.pinned.checked.prog.wideKeysFrom ·))) = true := by kernel_rfl
theorem cardsAgree_h19 : (Rows.cardsAgreeSpec.vars.all (Tryz.pinned.checked.prog.varReadable ·)) = true := by kernel_rfl
theorem cardsAgree_h20 : (Tryz.f5.resultTypes.all (fun t => Tryz.pinned.checked.prog.readableRec t && decide (t < Tryz.pinned.checked.prog.types.size))) = true := by kernel_rfl
theorem cardsAgree_h21 : ((Rows.cardsAgreeRow.ifacesOut == Tryz.f5.resultTypes.toList.any (Tryz.pinned.checked.prog.ifacesRec ·))) = true := by kernel_rfl
theorem cardsAgree_h22 : ((Rows.cardsAgreeRow.loopsOut == Tryz.f5.resultTypes.toList.any (Tryz.pinned.checked.prog.loopsFrom ·))) = true := by kernel_rfl
theorem cardsAgree_h24 : (Rows.cardsAgreeRow.shortTexts.isNone) = true := by kernel_rfl
theorem cardsAgree_h27 : ((Rows.cardsAgreeRow.lifted == Tryz.pinned.checked.prog.liftsFinal)) = true := by kernel_rfl
theorem cardsAgree_h28 : ((Tryz.pinned.checked.prog.make == some Rows.cardsAgreeRow.make)) = true := by kernel_rfl
theorem cardsAgree_h29 : ((Rows.cardsAgreeRow.kinds == (if Rows.cardsAgreeRow.domain.isEmpty then [] else Tryz.f5.params.toList.map fun t => match Tryz.pinned.checked.prog.underlying t with | some (.int k) => some k | _ => none))) = true := by kernel_rfl
theorem cardsAgree_h30 : ((Rows.cardsAgreeRow.pinned == Rows.cardsAgreeRow.pinnedBy)) = true := by kernel_rfl
theorem cardsAgree_h31 : ((Rows.cardsAgreeRow.veiled == (Tryz.f5.params.toList ++ Rows.cardsAgreeSpec.plain.varTypes Tryz.pinned.checked.prog ++ Tryz.f5.resultTypes.toList).any (Tryz.pinned.checked.prog.veiledRec ·))) = true := by kernel_rfl
theorem cardsAgree_h32 : (Rows.cardsAgreeRow.veiledFits Tryz.pinned.checked.prog Tryz.f5.params.toList (Tryz.f5.params.toList ++ Rows.cardsAgreeSpec.plain.varTypes Tryz.pinned.checked.prog ++ Tryz.f5.resultTypes.toList)) = true := by kernel_rfl
theorem cardsAgree_goes : false = Rows.cardsAgreeRow.goesBy Tryz.pinned.checked.prog := by kernel_rfl

set_option maxRecDepth 100000 in
theorem cardsAgree_lifted (os : Os) (started : os.Started) (H : Type) (enc : TypeId × Value → H) :
    ReturnsInHanded {} Tryz.checked os 5 .any (fun w args => (Rows.cardsAgreeSpec.pre enc Tryz.prog Tryz.f5 Rows.cardsAgreeRow.domain false w args ∧ laidMetH Tryz.prog Rows.cardsAgreeRow.laid w) ∧ sizedMet enc Tryz.prog Tryz.f5 (OpenSpec.ofChange Rows.cardsAgreeSpec) false w args)
      (Rows.cardsAgreeSpec.post enc Tryz.prog Tryz.f5 false true false false) := by
  refine returnsInHanded_of_change_and (C := Tryz.checked) (X := fun w _ => laidMetH Tryz.prog Rows.cardsAgreeRow.laid w) (fun _ _ _ hh h => h.of_heap hh) ownOf started (by kernel_rfl) Tryz.func5
    (ChangeSpec.witness_shaped (enc := enc) (C := Tryz.checked) (os := os) (X := fun w _ => laidMetH Tryz.prog Rows.cardsAgreeRow.laid w) false (World.laidAll Tryz.prog os Rows.cardsAgreeRow.laid) #[.slice none 0 0] 8 (World.laidAll_os _ _ _)
      (World.shaped_of_ZipB (by kernel_rfl) (by kernel_rfl)) (by kernel_rfl) (by kernel_rfl) (by kernel_rfl)
      (by rw [MakeChecks.laidMetH_plain _ _ _ (by kernel_rfl)]; exact laidMet_laidAll _ (by kernel_rfl) (by kernel_rfl))) ?_
  intro W base args ds gs before hval hW _ _ hx _
  have htab : ∀ p ∈ tabZ, ∃ t f, W.heap[p.1]? = some (.cells p.2 t f) := by
    intro p hp
    unfold tabZ at hp
    cases hp
  exact law_post Tryz.params5 (tB := 4) (by kernel_rfl) Tryz.underlying22 Tryz.underlying3 (by kernel_rfl) Tryz.underlying4 rfl (fun _ => rfl) cardsAgree_call htab hval hW

set_option maxRecDepth 100000 in
theorem cardsAgree_row : Rows.CardsAgreeSaid :=
  OpenClaim.holds_of_wide 5 Tryz.f5 rfl rfl rfl rfl rfl rfl rfl ⟨rfl, rfl, rfl, rfl, rfl⟩ rfl rfl rfl rfl rfl (by kernel_rfl) Tryz.func5 (facts_of cardsAgree_h1 p_h2 p_h3 cardsAgree_h4 cardsAgree_h5 cardsAgree_h6 p_h7 cardsAgree_h8 p_h9 cardsAgree_h10 cardsAgree_h11 cardsAgree_h12 cardsAgree_h13 cardsAgree_h14 cardsAgree_h15 cardsAgree_h16 cardsAgree_h17 cardsAgree_h18 cardsAgree_h19 cardsAgree_h20 cardsAgree_h21 cardsAgree_h22 p_h23 cardsAgree_h24 p_h25 p_h26 cardsAgree_h27 cardsAgree_h28 cardsAgree_h29 cardsAgree_h30 cardsAgree_h31 cardsAgree_h32)
    (of_decide_eq_true (by kernel_rfl)) (by unfold Func.isWrapper; first | (rw [if_pos (by decide +kernel)]; kernel_rfl) | (rw [if_neg (by decide +kernel)]; exact ⟨rfl, rfl⟩))
    (fun os started H enc _ => cardsAgree_lifted os started H enc)
set_option maxRecDepth 100000 in
theorem cardsAgree_holds : Rows.CardsAgreeCardSaid :=
  Claim7.holds_tied_plain_at .later [] [.data, .pinned] true (true, "20b3b9bac6bd2f46df80af48f7459d951cc4bbc53917a483e47da6dfd57536be") false cardsAgree_row (fun _ h => by cases h) (by kernel_rfl) (fun _ h => by cases h) cardsAgree_row_tie rfl ⟨rfl, rfl⟩ pMain rfl
    (fun f fn hf hfn => by
      obtain rfl : f = 5 := Option.some.inj ((show Tryz.prog.funcNamed Rows.cardsAgreeRow.func = some 5 by kernel_rfl).symm.trans hf) |>.symm
      obtain rfl : fn = Tryz.f5 := (Option.some.inj (Tryz.func5.symm.trans hfn)).symm
      exact ⟨pLooks, fun j t ht => by
        rw [Tryz.params5] at ht
        have hm : t ∈ [22] := by simpa using Array.mem_of_getElem? ht
        have hall : ([22].all fun u => !Tryz.prog.wantsStandIn u) = true := by kernel_rfl
        exact (show Tryz.prog.wantsStandIn t = false by simpa using List.all_eq_true.1 hall t hm)⟩)
    cardsAgree_goes
#print axioms cardsAgree_holds
end Go.Proofs.YthnhleemkjpigaaGreatDoor
