/-
 What is proved here: whatever numbers pileup's law NetsHaveOneLog is called at, it answers true, and the slice reads as before. Conditions: those of the given card alone (the listed variables as the program's text lays them).
-/
import Derived.Test.YtkdippipiidcmaaGreatDoorTie
import Derived.Test.YtkdippipiidcmaaGreatDoorCards
import Derived.Test.YtkdippipiidcmaaGreatDoorMJ
import Derived.Test.YtkdippipiidcmaaGreatDoorMF
set_option linter.unusedSimpArgs false
set_option linter.unusedVariables false
set_option linter.unusedSectionVars false
namespace Go.Proofs.YtkdippipiidcmaaGreatDoor
open Go Go.AL Go.ChangeShapes Go.WideShapes Go.ChangeAt Go.RowKit

theorem netsHaveOneLog_call (rows : List (List G)) : ACallX Tryz.prog 6 [.listF [.int .i64] rows] [] (.lit (.bool true)) [] := SYtkdippipiidcmaaGreatDoor.c_k2_NetsHaveOneLog [.l rows] [.t true] (SYtkdippipiidcmaaGreatDoor.netsHaveOneLog_data rows)
theorem netsHaveOneLog_h1 : (Rows.netsHaveOneLogRow.wf (OpenSpec.ofChange Rows.netsHaveOneLogSpec)) = true := by kernel_rfl
theorem netsHaveOneLog_h4 : (Tryz.f6.params.all (Tryz.pinned.checked.prog.readableRec ·)) = true := by kernel_rfl
theorem netsHaveOneLog_h5 : (namedTie Tryz.pinned.checked.prog Rows.netsHaveOneLogRow.named Rows.netsHaveOneLogSpec.vars) = true := by kernel_rfl
theorem netsHaveOneLog_h6 : ((Rows.netsHaveOneLogRow.stops == [])) = true := by kernel_rfl
theorem netsHaveOneLog_h8 : ((Rows.netsHaveOneLogRow.knobs == [])) = true := by kernel_rfl
theorem netsHaveOneLog_h10 : ((Rows.netsHaveOneLogRow.inPlace == Tryz.pinned.checked.prog.inPlace 6)) = true := by kernel_rfl
theorem netsHaveOneLog_h11 : ((Rows.netsHaveOneLogRow.unfollowed == Tryz.pinned.checked.prog.unfollowed 6)) = true := by kernel_rfl
theorem netsHaveOneLog_h12 : ((Rows.netsHaveOneLogRow.recurses == Tryz.pinned.checked.prog.recurses 6)) = true := by kernel_rfl
theorem netsHaveOneLog_h13 : ((Rows.netsHaveOneLogRow.named == Tryz.pinned.checked.prog.varsNamed 6)) = true := by kernel_rfl
theorem netsHaveOneLog_h14 : ((Rows.netsHaveOneLogRow.maps == (Tryz.f6.params.toList ++ Rows.netsHaveOneLogSpec.plain.varTypes Tryz.pinned.checked.prog).any (Tryz.pinned.checked.prog.mapsRec ·))) = true := by kernel_rfl
theorem netsHaveOneLog_h15 : ((Rows.netsHaveOneLogRow.ifaces == (Tryz.f6.params.toList ++ Rows.netsHaveOneLogSpec.plain.varTypes Tryz.pinned.checked.prog).any (Tryz.pinned.checked.prog.ifacesRec ·))) = true := by kernel_rfl
theorem netsHaveOneLog_h16 : ((Rows.netsHaveOneLogRow.mapsOut == Tryz.pinned.checked.prog.mapsAmong Tryz.f6.resultTypes.toList)) = true := by kernel_rfl
theorem netsHaveOneLog_h17 : ((Rows.netsHaveOneLogRow.loops == (Tryz.f6.params.toList ++ Rows.netsHaveOneLogSpec.plain.varTypes Tryz.pinned.checked.prog).any (Tryz.pinned.checked.prog.loopsFrom ·))) = true := by kernel_rfl
theorem netsHaveOneLog_h18 : ((Rows.netsHaveOneLogRow.wideKeys == (Tryz.f6.params.toList ++ Rows.netsHaveOneLogSpec.plain.varTypes Tryz.pinned.checked.prog ++ Tryz.f6.resultTypes.toList).any (Tryz.pinned.checked.prog.wideKeysFrom ·))) = true := by kernel_rfl
theorem netsHaveOneLog_h19 : (Rows.netsHaveOneLogSpec.vars.all (Tryz.pinned.checked.prog.varReadable ·)) = true := by kernel_rfl
theorem netsHaveOneLog_h20 : (Tryz.f6.resultTypes.all (fun t => Tryz.pinned.checked.prog.readableRec t && decide (t < Tryz.pinned.checked.prog.types.size))) = true := by kernel_rfl
theorem netsHaveOneLog_h21 : ((Rows.netsHaveOneLogRow.ifacesOut == Tryz.f6.resultTypes.toList.any (Tryz.pinned.checked.prog.ifacesRec ·))) = true := by kernel_rfl
theorem netsHaveOneLog_h22 : ((Rows.netsHaveOneLogRow.loopsOut == Tryz.f6.resultTypes.toList.any (Tryz.pinned.checked.prog.loopsFrom ·))) = true := by kernel_rfl
theorem netsHaveOneLog_h24 : (Rows.netsHaveOneLogRow.shortTexts.isNone) = true := by kernel_rfl
theorem netsHaveOneLog_h27 : ((Rows.netsHaveOneLogRow.lifted == Tryz.pinned.checked.prog.liftsFinal)) = true := by kernel_rfl
theorem netsHaveOneLog_h28 : ((Tryz.pinned.checked.prog.make == some Rows.netsHaveOneLogRow.make)) = true := by kernel_rfl
theorem netsHaveOneLog_h29 : ((Rows.netsHaveOneLogRow.kinds == (if Rows.netsHaveOneLogRow.domain.isEmpty then [] else Tryz.f6.params.toList.map fun t => match Tryz.pinned.checked.prog.underlying t with | some (.int k) => some k | _ => none))) = true := by kernel_rfl
theorem netsHaveOneLog_h30 : ((Rows.netsHaveOneLogRow.pinned == Rows.netsHaveOneLogRow.pinnedBy)) = true := by kernel_rfl
theorem netsHaveOneLog_h31 : ((Rows.netsHaveOneLogRow.veiled == (Tryz.f6.params.toList ++ Rows.netsHaveOneLogSpec.plain.varTypes Tryz.pinned.checked.prog ++ Tryz.f6.resultTypes.toList).any (Tryz.pinned.checked.prog.veiledRec ·))) = true := by kernel_rfl
theorem netsHaveOneLog_h32 : (Rows.netsHaveOneLogRow.veiledFits Tryz.pinned.checked.prog Tryz.f6.params.toList (Tryz.f6.params.toList ++ Rows.netsHaveOneLogSpec.plain.varTypes Tryz.pinned.checked.prog ++ Tryz.f6.resultTypes.toList)) = true := by kernel_rfl
theorem netsHaveOneLog_goes : false = Rows.netsHaveOneLogRow.goesBy Tryz.pinned.checked.prog := by kernel_rfl

set_option maxRecDepth 100000 in
theorem netsHaveOneLog_lifted (os : Os) (started : os.Started) (H : Type) (enc : TypeId × Value → H) :
  ReturnsInHanded {} Tryz.checked os 6 .any (fun w args => (Rows.netsHaveOneLogSpec.pre enc Tryz.prog Tryz.f6 Rows.netsHaveOneLogRow.domain false w args ∧ laidMetH Tryz.prog Rows.netsHaveOneLogRow.laid w) ∧ sizedMet enc Tryz.prog Tryz.f6 (OpenSpec.ofChange Rows.netsHaveOneLogSpec) false w args)
   (Rows.netsHaveOneLogSpec.post enc Tryz.prog Tryz.f6 false true false false) := by
 refine returnsInHanded_of_change_and (C := Tryz.checked) (X := fun w _ => laidMetH Tryz.prog Rows.netsHaveOneLogRow.laid w) (fun _ _ _ hh h => h.of_heap hh) ownOf started (by kernel_rfl) Tryz.func6
  (ChangeSpec.witness_shaped (enc := enc) (C := Tryz.checked) (os := os) (X := fun w _ => laidMetH Tryz.prog Rows.netsHaveOneLogRow.laid w) false (World.laidAll Tryz.prog os Rows.netsHaveOneLogRow.laid) #[.slice none 0 0] 8 (World.laidAll_os _ _ _)
   (World.shaped_of_ZipB (by kernel_rfl) (by kernel_rfl)) (by kernel_rfl) (by kernel_rfl) (by kernel_rfl)
   (by rw [MakeChecks.laidMetH_plain _ _ _ (by kernel_rfl)]; exact laidMet_laidAll _ (by kernel_rfl) (by kernel_rfl))) ?_
 intro W base args ds gs before hval hW _ _ hx _
 have htab : ∀ p ∈ tabZ, ∃ t f, W.heap[p.1]? = some (.cells p.2 t f) := by
  intro p hp
  unfold tabZ at hp
  cases hp
 exact law_post Tryz.params6 (tB := 4) (by kernel_rfl) Tryz.underlying22 Tryz.underlying3 (by kernel_rfl) Tryz.underlying4 rfl (fun _ => rfl) netsHaveOneLog_call htab hval hW

set_option maxRecDepth 100000 in
theorem netsHaveOneLog_row : Rows.NetsHaveOneLogSaid :=
 OpenClaim.holds_of_wide 6 Tryz.f6 rfl rfl rfl rfl rfl rfl rfl ⟨rfl, rfl, rfl, rfl, rfl⟩ rfl rfl rfl rfl rfl (by kernel_rfl) Tryz.func6 (facts_of netsHaveOneLog_h1 p_h2 p_h3 netsHaveOneLog_h4 netsHaveOneLog_h5 netsHaveOneLog_h6 p_h7 netsHaveOneLog_h8 p_h9 netsHaveOneLog_h10 netsHaveOneLog_h11 netsHaveOneLog_h12 netsHaveOneLog_h13 netsHaveOneLog_h14 netsHaveOneLog_h15 netsHaveOneLog_h16 netsHaveOneLog_h17 netsHaveOneLog_h18 netsHaveOneLog_h19 netsHaveOneLog_h20 netsHaveOneLog_h21 netsHaveOneLog_h22 p_h23 netsHaveOneLog_h24 p_h25 p_h26 netsHaveOneLog_h27 netsHaveOneLog_h28 netsHaveOneLog_h29 netsHaveOneLog_h30 netsHaveOneLog_h31 netsHaveOneLog_h32)
  (of_decide_eq_true (by kernel_rfl)) (by unfold Func.isWrapper; first | (rw [if_pos (by decide +kernel)]; kernel_rfl) | (rw [if_neg (by decide +kernel)]; exact ⟨rfl, rfl⟩))
  (fun os started H enc _ => netsHaveOneLog_lifted os started H enc)
set_option maxRecDepth 100000 in
theorem netsHaveOneLog_holds : Rows.NetsHaveOneLogCardSaid :=
 Claim7.holds_tied_plain_at .later [] [.data, .pinned] true (true, "312b958637d41a883e8be5d795926ee13ce58f4285d38953e9825630cd61c13b") true netsHaveOneLog_row (fun _ h => by cases h) (by kernel_rfl) (fun _ h => by cases h) netsHaveOneLog_row_tie rfl ⟨rfl, rfl⟩ pMain rfl
  (fun f fn hf hfn => by
   obtain rfl : f = 6 := Option.some.inj ((show Tryz.prog.funcNamed Rows.netsHaveOneLogRow.func = some 6 by kernel_rfl).symm.trans hf) |>.symm
   obtain rfl : fn = Tryz.f6 := (Option.some.inj (Tryz.func6.symm.trans hfn)).symm
   exact ⟨pLooks, fun j t ht => by
    rw [Tryz.params6] at ht
    have hm : t ∈ [22] := by simpa using Array.mem_of_getElem? ht
    have hall : ([22].all fun u => !Tryz.prog.wantsStandIn u) = true := by kernel_rfl
    exact (show Tryz.prog.wantsStandIn t = false by simpa using List.all_eq_true.1 hall t hm)⟩)
  netsHaveOneLog_goes
#print axioms netsHaveOneLog_holds
end Go.Proofs.YtkdippipiidcmaaGreatDoor
