/-
 What is proved here: whatever numbers pileup's law SpotsOnce is called at, it answers true, and the slice reads as before. Conditions: those of the given card alone (the listed variables as the program's text lays them).
-/
import Derived.Test.YthjhjbgilbaknaaGreatDoorTie
import Derived.Test.YthjhjbgilbaknaaGreatDoorCards
import Derived.Test.YthjhjbgilbaknaaGreatDoorMJ
import Derived.Test.YthjhjbgilbaknaaGreatDoorMS
set_option linter.unusedSimpArgs false
set_option linter.unusedVariables false
set_option linter.unusedSectionVars false
namespace Go.Proofs.YthjhjbgilbaknaaGreatDoor
open Go Go.AL Go.ChangeShapes Go.WideShapes Go.ChangeAt Go.RowKit

theorem spotsOnce_call (rows : List (List G)) : ACallX Tryz.prog 5 [.listF [.int .i64] rows] [] (.lit (.bool true)) [] := SYthjhjbgilbaknaaGreatDoor.c_k2_SpotsOnce [.l rows] [.t true] (SYthjhjbgilbaknaaGreatDoor.spotsOnce_data rows)
theorem spotsOnce_h1 : (Rows.spotsOnceRow.wf (OpenSpec.ofChange Rows.spotsOnceSpec)) = true := by kernel_rfl
theorem spotsOnce_h4 : (Tryz.f5.params.all (Tryz.pinned.checked.prog.readableRec ·)) = true := by kernel_rfl
theorem spotsOnce_h5 : (namedTie Tryz.pinned.checked.prog Rows.spotsOnceRow.named Rows.spotsOnceSpec.vars) = true := by kernel_rfl
theorem spotsOnce_h6 : ((Rows.spotsOnceRow.stops == [])) = true := by kernel_rfl
theorem spotsOnce_h8 : ((Rows.spotsOnceRow.knobs == [])) = true := by kernel_rfl
theorem spotsOnce_h10 : ((Rows.spotsOnceRow.inPlace == Tryz.pinned.checked.prog.inPlace 5)) = true := by kernel_rfl
theorem spotsOnce_h11 : ((Rows.spotsOnceRow.unfollowed == Tryz.pinned.checked.prog.unfollowed 5)) = true := by kernel_rfl
theorem spotsOnce_h12 : ((Rows.spotsOnceRow.recurses == Tryz.pinned.checked.prog.recurses 5)) = true := by kernel_rfl
theorem spotsOnce_h13 : ((Rows.spotsOnceRow.named == Tryz.pinned.checked.prog.varsNamed 5)) = true := by kernel_rfl
theorem spotsOnce_h14 : ((Rows.spotsOnceRow.maps == (Tryz.f5.params.toList ++ Rows.spotsOnceSpec.plain.varTypes Tryz.pinned.checked.prog).any (Tryz.pinned.checked.prog.mapsRec ·))) = true := by kernel_rfl
theorem spotsOnce_h15 : ((Rows.spotsOnceRow.ifaces == (Tryz.f5.params.toList ++ Rows.spotsOnceSpec.plain.varTypes Tryz.pinned.checked.prog).any (Tryz.pinned.checked.prog.ifacesRec ·))) = true := by kernel_rfl
theorem spotsOnce_h16 : ((Rows.spotsOnceRow.mapsOut == Tryz.pinned.checked.prog.mapsAmong Tryz.f5.resultTypes.toList)) = true := by kernel_rfl
theorem spotsOnce_h17 : ((Rows.spotsOnceRow.loops == (Tryz.f5.params.toList ++ Rows.spotsOnceSpec.plain.varTypes Tryz.pinned.checked.prog).any (Tryz.pinned.checked.prog.loopsFrom ·))) = true := by kernel_rfl
theorem spotsOnce_h18 : ((Rows.spotsOnceRow.wideKeys == (Tryz.f5.params.toList ++ Rows.spotsOnceSpec.plain.varTypes Tryz.pinned.checked.prog ++ Tryz.f5.resultTypes.toList).any (Tryz.pinned.checked.prog.wideKeysFrom ·))) = true := by kernel_rfl
theorem spotsOnce_h19 : (Rows.spotsOnceSpec.vars.all (Tryz.pinned.checked.prog.varReadable ·)) = true := by kernel_rfl
theorem spotsOnce_h20 : (Tryz.f5.resultTypes.all (fun t => Tryz.pinned.checked.prog.readableRec t && decide (t < Tryz.pinned.checked.prog.types.size))) = true := by kernel_rfl
theorem spotsOnce_h21 : ((Rows.spotsOnceRow.ifacesOut == Tryz.f5.resultTypes.toList.any (Tryz.pinned.checked.prog.ifacesRec ·))) = true := by kernel_rfl
theorem spotsOnce_h22 : ((Rows.spotsOnceRow.loopsOut == Tryz.f5.resultTypes.toList.any (Tryz.pinned.checked.prog.loopsFrom ·))) = true := by kernel_rfl
theorem spotsOnce_h24 : (Rows.spotsOnceRow.shortTexts.isNone) = true := by kernel_rfl
theorem spotsOnce_h27 : ((Rows.spotsOnceRow.lifted == Tryz.pinned.checked.prog.liftsFinal)) = true := by kernel_rfl
theorem spotsOnce_h28 : ((Tryz.pinned.checked.prog.make == some Rows.spotsOnceRow.make)) = true := by kernel_rfl
theorem spotsOnce_h29 : ((Rows.spotsOnceRow.kinds == (if Rows.spotsOnceRow.domain.isEmpty then [] else Tryz.f5.params.toList.map fun t => match Tryz.pinned.checked.prog.underlying t with | some (.int k) => some k | _ => none))) = true := by kernel_rfl
theorem spotsOnce_h30 : ((Rows.spotsOnceRow.pinned == Rows.spotsOnceRow.pinnedBy)) = true := by kernel_rfl
theorem spotsOnce_h31 : ((Rows.spotsOnceRow.veiled == (Tryz.f5.params.toList ++ Rows.spotsOnceSpec.plain.varTypes Tryz.pinned.checked.prog ++ Tryz.f5.resultTypes.toList).any (Tryz.pinned.checked.prog.veiledRec ·))) = true := by kernel_rfl
theorem spotsOnce_h32 : (Rows.spotsOnceRow.veiledFits Tryz.pinned.checked.prog Tryz.f5.params.toList (Tryz.f5.params.toList ++ Rows.spotsOnceSpec.plain.varTypes Tryz.pinned.checked.prog ++ Tryz.f5.resultTypes.toList)) = true := by kernel_rfl
theorem spotsOnce_goes : false = Rows.spotsOnceRow.goesBy Tryz.pinned.checked.prog := by kernel_rfl

set_option maxRecDepth 100000 in
theorem spotsOnce_lifted (os : Os) (started : os.Started) (H : Type) (enc : TypeId × Value → H) :
  ReturnsInHanded {} Tryz.checked os 5 .any (fun w args => (Rows.spotsOnceSpec.pre enc Tryz.prog Tryz.f5 Rows.spotsOnceRow.domain false w args ∧ laidMetH Tryz.prog Rows.spotsOnceRow.laid w) ∧ sizedMet enc Tryz.prog Tryz.f5 (OpenSpec.ofChange Rows.spotsOnceSpec) false w args)
   (Rows.spotsOnceSpec.post enc Tryz.prog Tryz.f5 false true false false) := by
 refine returnsInHanded_of_change_and (C := Tryz.checked) (X := fun w _ => laidMetH Tryz.prog Rows.spotsOnceRow.laid w) (fun _ _ _ hh h => h.of_heap hh) ownOf started (by kernel_rfl) Tryz.func5
  (ChangeSpec.witness_shaped (enc := enc) (C := Tryz.checked) (os := os) (X := fun w _ => laidMetH Tryz.prog Rows.spotsOnceRow.laid w) false (World.laidAll Tryz.prog os Rows.spotsOnceRow.laid) #[.slice none 0 0] 8 (World.laidAll_os _ _ _)
   (World.shaped_of_ZipB (by kernel_rfl) (by kernel_rfl)) (by kernel_rfl) (by kernel_rfl) (by kernel_rfl)
   (by rw [MakeChecks.laidMetH_plain _ _ _ (by kernel_rfl)]; exact laidMet_laidAll _ (by kernel_rfl) (by kernel_rfl))) ?_
 intro W base args ds gs before hval hW _ _ hx _
 have htab : ∀ p ∈ tabZ, ∃ t f, W.heap[p.1]? = some (.cells p.2 t f) := by
  intro p hp
  unfold tabZ at hp
  cases hp
 exact law_post Tryz.params5 (tB := 4) (by kernel_rfl) Tryz.underlying22 Tryz.underlying3 (by kernel_rfl) Tryz.underlying4 rfl (fun _ => rfl) spotsOnce_call htab hval hW

set_option maxRecDepth 100000 in
theorem spotsOnce_row : Rows.SpotsOnceSaid :=
 OpenClaim.holds_of_wide 5 Tryz.f5 rfl rfl rfl rfl rfl rfl rfl ⟨rfl, rfl, rfl, rfl, rfl⟩ rfl rfl rfl rfl rfl (by kernel_rfl) Tryz.func5 (facts_of spotsOnce_h1 p_h2 p_h3 spotsOnce_h4 spotsOnce_h5 spotsOnce_h6 p_h7 spotsOnce_h8 p_h9 spotsOnce_h10 spotsOnce_h11 spotsOnce_h12 spotsOnce_h13 spotsOnce_h14 spotsOnce_h15 spotsOnce_h16 spotsOnce_h17 spotsOnce_h18 spotsOnce_h19 spotsOnce_h20 spotsOnce_h21 spotsOnce_h22 p_h23 spotsOnce_h24 p_h25 p_h26 spotsOnce_h27 spotsOnce_h28 spotsOnce_h29 spotsOnce_h30 spotsOnce_h31 spotsOnce_h32)
  (of_decide_eq_true (by kernel_rfl)) (by unfold Func.isWrapper; first | (rw [if_pos (by decide +kernel)]; kernel_rfl) | (rw [if_neg (by decide +kernel)]; exact ⟨rfl, rfl⟩))
  (fun os started H enc _ => spotsOnce_lifted os started H enc)
set_option maxRecDepth 100000 in
theorem spotsOnce_holds : Rows.SpotsOnceCardSaid :=
 Claim7.holds_tied_plain_at .later [] [.data, .data, .data, .data, .pinned] true (true, "228f3384cfe63186613678d7ae7ac0a5700fbac0b998f4c697bc88a402d12d8d") false spotsOnce_row (fun _ h => by cases h) (by kernel_rfl) (fun _ h => by cases h) spotsOnce_row_tie rfl ⟨rfl, rfl⟩ pMain rfl
  (fun f fn hf hfn => by
   obtain rfl : f = 5 := Option.some.inj ((show Tryz.prog.funcNamed Rows.spotsOnceRow.func = some 5 by kernel_rfl).symm.trans hf) |>.symm
   obtain rfl : fn = Tryz.f5 := (Option.some.inj (Tryz.func5.symm.trans hfn)).symm
   exact ⟨pLooks, fun j t ht => by
    rw [Tryz.params5] at ht
    have hm : t ∈ [22] := by simpa using Array.mem_of_getElem? ht
    have hall : ([22].all fun u => !Tryz.prog.wantsStandIn u) = true := by kernel_rfl
    exact (show Tryz.prog.wantsStandIn t = false by simpa using List.all_eq_true.1 hall t hm)⟩)
  spotsOnce_goes
#print axioms spotsOnce_holds
end Go.Proofs.YthjhjbgilbaknaaGreatDoor
