/-
 What is proved here: whatever numbers pileup's law NetsStay is called at, it answers true, and the slice reads as before. Conditions: those of the given card alone (the listed variables as the program's text lays them).
-/
import Derived.Test.YtkdippipiidcmaaGreatDoorTie
import Derived.Test.YtkdippipiidcmaaGreatDoorCards
import Derived.Test.YtkdippipiidcmaaGreatDoorMJ
import Derived.Test.YtkdippipiidcmaaGreatDoorMF
set_option linter.unusedSimpArgs false
set_option linter.unusedVariables false
set_option linter.unusedSectionVars false
namespace Go.Proofs.YtkdippipiidcmaaGreatDoor
open Go Go.AL Go.ChangeShapes Go.WideShapes Go.ChangeAt Go.RowKit

theorem netsStay_call (rows : List (List G)) : ACallX Tryz.prog 5 [.listF [.int .i64] rows] [] (.lit (.bool true)) [] := SYtkdippipiidcmaaGreatDoor.c_k2_NetsStay [.l rows] [.t true] (SYtkdippipiidcmaaGreatDoor.netsStay_data rows)
theorem netsStay_h1 : (Rows.netsStayRow.wf (OpenSpec.ofChange Rows.netsStaySpec)) = true := by kernel_rfl
theorem netsStay_h4 : (Tryz.f5.params.all (Tryz.pinned.checked.prog.readableRec ·)) = true := by kernel_rfl
theorem netsStay_h5 : (namedTie Tryz.pinned.checked.prog Rows.netsStayRow.named Rows.netsStaySpec.vars) = true := by kernel_rfl
theorem netsStay_h6 : ((Rows.netsStayRow.stops == [])) = true := by kernel_rfl
theorem netsStay_h8 : ((Rows.netsStayRow.knobs == [])) = true := by kernel_rfl
theorem netsStay_h10 : ((Rows.netsStayRow.inPlace == Tryz.pinned.checked.prog.inPlace 5)) = true := by kernel_rfl
theorem netsStay_h11 : ((Rows.netsStayRow.unfollowed == Tryz.pinned.checked.prog.unfollowed 5)) = true := by kernel_rfl
theorem netsStay_h12 : ((Rows.netsStayRow.recurses == Tryz.pinned.checked.prog.recurses 5)) = true := by kernel_rfl
theorem netsStay_h13 : ((Rows.netsStayRow.named == Tryz.pinned.checked.prog.varsNamed 5)) = true := by kernel_rfl
theorem netsStay_h14 : ((Rows.netsStayRow.maps == (Tryz.f5.params.toList ++ Rows.netsStaySpec.plain.varTypes Tryz.pinned.checked.prog).any (Tryz.pinned.checked.prog.mapsRec ·))) = true := by kernel_rfl
theorem netsStay_h15 : ((Rows.netsStayRow.ifaces == (Tryz.f5.params.toList ++ Rows.netsStaySpec.plain.varTypes Tryz.pinned.checked.prog).any (Tryz.pinned.checked.prog.ifacesRec ·))) = true := by kernel_rfl
theorem netsStay_h16 : ((Rows.netsStayRow.mapsOut == Tryz.pinned.checked.prog.mapsAmong Tryz.f5.resultTypes.toList)) = true := by kernel_rfl
theorem netsStay_h17 : ((Rows.netsStayRow.loops == (Tryz.f5.params.toList ++ Rows.netsStaySpec.plain.varTypes Tryz.pinned.checked.prog).any (Tryz.pinned.checked.prog.loopsFrom ·))) = true := by kernel_rfl
theorem netsStay_h18 : ((Rows.netsStayRow.wideKeys == (Tryz.f5.params.toList ++ Rows.netsStaySpec.plain.varTypes Tryz.pinned.checked.prog ++ Tryz.f5.resultTypes.toList).any (Tryz.pinned.checked.prog.wideKeysFrom ·))) = true := by kernel_rfl
theorem netsStay_h19 : (Rows.netsStaySpec.vars.all (Tryz.pinned.checked.prog.varReadable ·)) = true := by kernel_rfl
theorem netsStay_h20 : (Tryz.f5.resultTypes.all (fun t => Tryz.pinned.checked.prog.readableRec t && decide (t < Tryz.pinned.checked.prog.types.size))) = true := by kernel_rfl
theorem netsStay_h21 : ((Rows.netsStayRow.ifacesOut == Tryz.f5.resultTypes.toList.any (Tryz.pinned.checked.prog.ifacesRec ·))) = true := by kernel_rfl
theorem netsStay_h22 : ((Rows.netsStayRow.loopsOut == Tryz.f5.resultTypes.toList.any (Tryz.pinned.checked.prog.loopsFrom ·))) = true := by kernel_rfl
theorem netsStay_h24 : (Rows.netsStayRow.shortTexts.isNone) = true := by kernel_rfl
theorem netsStay_h27 : ((Rows.netsStayRow.lifted == Tryz.pinned.checked.prog.liftsFinal)) = true := by kernel_rfl
theorem netsStay_h28 : ((Tryz.pinned.checked.prog.make == some Rows.netsStayRow.make)) = true := by kernel_rfl
theorem netsStay_h29 : ((Rows.netsStayRow.kinds == (if Rows.netsStayRow.domain.isEmpty then [] else Tryz.f5.params.toList.map fun t => match Tryz.pinned.checked.prog.underlying t with | some (.int k) => some k | _ => none))) = true := by kernel_rfl
theorem netsStay_h30 : ((Rows.netsStayRow.pinned == Rows.netsStayRow.pinnedBy)) = true := by kernel_rfl
theorem netsStay_h31 : ((Rows.netsStayRow.veiled == (Tryz.f5.params.toList ++ Rows.netsStaySpec.plain.varTypes Tryz.pinned.checked.prog ++ Tryz.f5.resultTypes.toList).any (Tryz.pinned.checked.prog.veiledRec ·))) = true := by kernel_rfl
theorem netsStay_h32 : (Rows.netsStayRow.veiledFits Tryz.pinned.checked.prog Tryz.f5.params.toList (Tryz.f5.params.toList ++ Rows.netsStaySpec.plain.varTypes Tryz.pinned.checked.prog ++ Tryz.f5.resultTypes.toList)) = true := by kernel_rfl
theorem netsStay_goes : false = Rows.netsStayRow.goesBy Tryz.pinned.checked.prog := by kernel_rfl

set_option maxRecDepth 100000 in
theorem netsStay_lifted (os : Os) (started : os.Started) (H : Type) (enc : TypeId × Value → H) :
  ReturnsInHanded {} Tryz.checked os 5 .any (fun w args => (Rows.netsStaySpec.pre enc Tryz.prog Tryz.f5 Rows.netsStayRow.domain false w args ∧ laidMetH Tryz.prog Rows.netsStayRow.laid w) ∧ sizedMet enc Tryz.prog Tryz.f5 (OpenSpec.ofChange Rows.netsStaySpec) false w args)
   (Rows.netsStaySpec.post enc Tryz.prog Tryz.f5 false true false false) := by
 refine returnsInHanded_of_change_and (C := Tryz.checked) (X := fun w _ => laidMetH Tryz.prog Rows.netsStayRow.laid w) (fun _ _ _ hh h => h.of_heap hh) ownOf started (by kernel_rfl) Tryz.func5
  (ChangeSpec.witness_shaped (enc := enc) (C := Tryz.checked) (os := os) (X := fun w _ => laidMetH Tryz.prog Rows.netsStayRow.laid w) false (World.laidAll Tryz.prog os Rows.netsStayRow.laid) #[.slice none 0 0] 8 (World.laidAll_os _ _ _)
   (World.shaped_of_ZipB (by kernel_rfl) (by kernel_rfl)) (by kernel_rfl) (by kernel_rfl) (by kernel_rfl)
   (by rw [MakeChecks.laidMetH_plain _ _ _ (by kernel_rfl)]; exact laidMet_laidAll _ (by kernel_rfl) (by kernel_rfl))) ?_
 intro W base args ds gs before hval hW _ _ hx _
 have htab : ∀ p ∈ tabZ, ∃ t f, W.heap[p.1]? = some (.cells p.2 t f) := by
  intro p hp
  unfold tabZ at hp
  cases hp
 exact law_post Tryz.params5 (tB := 4) (by kernel_rfl) Tryz.underlying22 Tryz.underlying3 (by kernel_rfl) Tryz.underlying4 rfl (fun _ => rfl) netsStay_call htab hval hW

set_option maxRecDepth 100000 in
theorem netsStay_row : Rows.NetsStaySaid :=
 OpenClaim.holds_of_wide 5 Tryz.f5 rfl rfl rfl rfl rfl rfl rfl ⟨rfl, rfl, rfl, rfl, rfl⟩ rfl rfl rfl rfl rfl (by kernel_rfl) Tryz.func5 (facts_of netsStay_h1 p_h2 p_h3 netsStay_h4 netsStay_h5 netsStay_h6 p_h7 netsStay_h8 p_h9 netsStay_h10 netsStay_h11 netsStay_h12 netsStay_h13 netsStay_h14 netsStay_h15 netsStay_h16 netsStay_h17 netsStay_h18 netsStay_h19 netsStay_h20 netsStay_h21 netsStay_h22 p_h23 netsStay_h24 p_h25 p_h26 netsStay_h27 netsStay_h28 netsStay_h29 netsStay_h30 netsStay_h31 netsStay_h32)
  (of_decide_eq_true (by kernel_rfl)) (by unfold Func.isWrapper; first | (rw [if_pos (by decide +kernel)]; kernel_rfl) | (rw [if_neg (by decide +kernel)]; exact ⟨rfl, rfl⟩))
  (fun os started H enc _ => netsStay_lifted os started H enc)
set_option maxRecDepth 100000 in
theorem netsStay_holds : Rows.NetsStayCardSaid :=
 Claim7.holds_tied_plain_at .later [] [.data, .pinned] true (true, "312b958637d41a883e8be5d795926ee13ce58f4285d38953e9825630cd61c13b") true netsStay_row (fun _ h => by cases h) (by kernel_rfl) (fun _ h => by cases h) netsStay_row_tie rfl ⟨rfl, rfl⟩ pMain rfl
  (fun f fn hf hfn => by
   obtain rfl : f = 5 := Option.some.inj ((show Tryz.prog.funcNamed Rows.netsStayRow.func = some 5 by kernel_rfl).symm.trans hf) |>.symm
   obtain rfl : fn = Tryz.f5 := (Option.some.inj (Tryz.func5.symm.trans hfn)).symm
   exact ⟨pLooks, fun j t ht => by
    rw [Tryz.params5] at ht
    have hm : t ∈ [22] := by simpa using Array.mem_of_getElem? ht
    have hall : ([22].all fun u => !Tryz.prog.wantsStandIn u) = true := by kernel_rfl
    exact (show Tryz.prog.wantsStandIn t = false by simpa using List.all_eq_true.1 hall t hm)⟩)
  netsStay_goes
#print axioms netsStay_holds
end Go.Proofs.YtkdippipiidcmaaGreatDoor
