/-
 What is proved here: whatever numbers pileup's law SpotsWorth is called at, it answers true, and the slice reads as before. Conditions: those of the given card alone (the listed variables as the program's text lays them).
-/
import Derived.Test.YthjhjbgilbaknaaGreatDoorTie
import Derived.Test.YthjhjbgilbaknaaGreatDoorCards
import Derived.Test.YthjhjbgilbaknaaGreatDoorMJ
import Derived.Test.YthjhjbgilbaknaaGreatDoorMS
set_option linter.unusedSimpArgs false
set_option linter.unusedVariables false
set_option linter.unusedSectionVars false
namespace Go.Proofs.YthjhjbgilbaknaaGreatDoor
open Go Go.AL Go.ChangeShapes Go.WideShapes Go.ChangeAt Go.RowKit

theorem spotsWorth_call (rows : List (List G)) : ACallX Tryz.prog 4 [.listF [.int .i64] rows] [] (.lit (.bool true)) [] := SYthjhjbgilbaknaaGreatDoor.c_l2_SpotsWorth [.l rows] [.t true] (SYthjhjbgilbaknaaGreatDoor.spotsWorth_data rows)
theorem spotsWorth_h1 : (Rows.spotsWorthRow.wf (OpenSpec.ofChange Rows.spotsWorthSpec)) = true := by kernel_rfl
theorem spotsWorth_h4 : (Tryz.f4.params.all (Tryz.pinned.checked.prog.readableRec ·)) = true := by kernel_rfl
theorem spotsWorth_h5 : (namedTie Tryz.pinned.checked.prog Rows.spotsWorthRow.named Rows.spotsWorthSpec.vars) = true := by kernel_rfl
theorem spotsWorth_h6 : ((Rows.spotsWorthRow.stops == [])) = true := by kernel_rfl
theorem spotsWorth_h8 : ((Rows.spotsWorthRow.knobs == [])) = true := by kernel_rfl
theorem spotsWorth_h10 : ((Rows.spotsWorthRow.inPlace == Tryz.pinned.checked.prog.inPlace 4)) = true := by kernel_rfl
theorem spotsWorth_h11 : ((Rows.spotsWorthRow.unfollowed == Tryz.pinned.checked.prog.unfollowed 4)) = true := by kernel_rfl
theorem spotsWorth_h12 : ((Rows.spotsWorthRow.recurses == Tryz.pinned.checked.prog.recurses 4)) = true := by kernel_rfl
theorem spotsWorth_h13 : ((Rows.spotsWorthRow.named == Tryz.pinned.checked.prog.varsNamed 4)) = true := by kernel_rfl
theorem spotsWorth_h14 : ((Rows.spotsWorthRow.maps == (Tryz.f4.params.toList ++ Rows.spotsWorthSpec.plain.varTypes Tryz.pinned.checked.prog).any (Tryz.pinned.checked.prog.mapsRec ·))) = true := by kernel_rfl
theorem spotsWorth_h15 : ((Rows.spotsWorthRow.ifaces == (Tryz.f4.params.toList ++ Rows.spotsWorthSpec.plain.varTypes Tryz.pinned.checked.prog).any (Tryz.pinned.checked.prog.ifacesRec ·))) = true := by kernel_rfl
theorem spotsWorth_h16 : ((Rows.spotsWorthRow.mapsOut == Tryz.pinned.checked.prog.mapsAmong Tryz.f4.resultTypes.toList)) = true := by kernel_rfl
theorem spotsWorth_h17 : ((Rows.spotsWorthRow.loops == (Tryz.f4.params.toList ++ Rows.spotsWorthSpec.plain.varTypes Tryz.pinned.checked.prog).any (Tryz.pinned.checked.prog.loopsFrom ·))) = true := by kernel_rfl
theorem spotsWorth_h18 : ((Rows.spotsWorthRow.wideKeys == (Tryz.f4.params.toList ++ Rows.spotsWorthSpec.plain.varTypes Tryz.pinned.checked.prog ++ Tryz.f4.resultTypes.toList).any (Tryz.pinned.checked.prog.wideKeysFrom ·))) = true := by kernel_rfl
theorem spotsWorth_h19 : (Rows.spotsWorthSpec.vars.all (Tryz.pinned.checked.prog.varReadable ·)) = true := by kernel_rfl
theorem spotsWorth_h20 : (Tryz.f4.resultTypes.all (fun t => Tryz.pinned.checked.prog.readableRec t && decide (t < Tryz.pinned.checked.prog.types.size))) = true := by kernel_rfl
theorem spotsWorth_h21 : ((Rows.spotsWorthRow.ifacesOut == Tryz.f4.resultTypes.toList.any (Tryz.pinned.checked.prog.ifacesRec ·))) = true := by kernel_rfl
theorem spotsWorth_h22 : ((Rows.spotsWorthRow.loopsOut == Tryz.f4.resultTypes.toList.any (Tryz.pinned.checked.prog.loopsFrom ·))) = true := by kernel_rfl
theorem spotsWorth_h24 : (Rows.spotsWorthRow.shortTexts.isNone) = true := by kernel_rfl
theorem spotsWorth_h27 : ((Rows.spotsWorthRow.lifted == Tryz.pinned.checked.prog.liftsFinal)) = true := by kernel_rfl
theorem spotsWorth_h28 : ((Tryz.pinned.checked.prog.make == some Rows.spotsWorthRow.make)) = true := by kernel_rfl
theorem spotsWorth_h29 : ((Rows.spotsWorthRow.kinds == (if Rows.spotsWorthRow.domain.isEmpty then [] else Tryz.f4.params.toList.map fun t => match Tryz.pinned.checked.prog.underlying t with | some (.int k) => some k | _ => none))) = true := by kernel_rfl
theorem spotsWorth_h30 : ((Rows.spotsWorthRow.pinned == Rows.spotsWorthRow.pinnedBy)) = true := by kernel_rfl
theorem spotsWorth_h31 : ((Rows.spotsWorthRow.veiled == (Tryz.f4.params.toList ++ Rows.spotsWorthSpec.plain.varTypes Tryz.pinned.checked.prog ++ Tryz.f4.resultTypes.toList).any (Tryz.pinned.checked.prog.veiledRec ·))) = true := by kernel_rfl
theorem spotsWorth_h32 : (Rows.spotsWorthRow.veiledFits Tryz.pinned.checked.prog Tryz.f4.params.toList (Tryz.f4.params.toList ++ Rows.spotsWorthSpec.plain.varTypes Tryz.pinned.checked.prog ++ Tryz.f4.resultTypes.toList)) = true := by kernel_rfl
theorem spotsWorth_goes : false = Rows.spotsWorthRow.goesBy Tryz.pinned.checked.prog := by kernel_rfl

set_option maxRecDepth 100000 in
theorem spotsWorth_lifted (os : Os) (started : os.Started) (H : Type) (enc : TypeId × Value → H) :
  ReturnsInHanded {} Tryz.checked os 4 .any (fun w args => (Rows.spotsWorthSpec.pre enc Tryz.prog Tryz.f4 Rows.spotsWorthRow.domain false w args ∧ laidMetH Tryz.prog Rows.spotsWorthRow.laid w) ∧ sizedMet enc Tryz.prog Tryz.f4 (OpenSpec.ofChange Rows.spotsWorthSpec) false w args)
   (Rows.spotsWorthSpec.post enc Tryz.prog Tryz.f4 false true false false) := by
 refine returnsInHanded_of_change_and (C := Tryz.checked) (X := fun w _ => laidMetH Tryz.prog Rows.spotsWorthRow.laid w) (fun _ _ _ hh h => h.of_heap hh) ownOf started (by kernel_rfl) Tryz.func4
  (ChangeSpec.witness_shaped (enc := enc) (C := Tryz.checked) (os := os) (X := fun w _ => laidMetH Tryz.prog Rows.spotsWorthRow.laid w) false (World.laidAll Tryz.prog os Rows.spotsWorthRow.laid) #[.slice none 0 0] 8 (World.laidAll_os _ _ _)
   (World.shaped_of_ZipB (by kernel_rfl) (by kernel_rfl)) (by kernel_rfl) (by kernel_rfl) (by kernel_rfl)
   (by rw [MakeChecks.laidMetH_plain _ _ _ (by kernel_rfl)]; exact laidMet_laidAll _ (by kernel_rfl) (by kernel_rfl))) ?_
 intro W base args ds gs before hval hW _ _ hx _
 have htab : ∀ p ∈ tabZ, ∃ t f, W.heap[p.1]? = some (.cells p.2 t f) := by
  intro p hp
  unfold tabZ at hp
  cases hp
 exact law_post Tryz.params4 (tB := 4) (by kernel_rfl) Tryz.underlying22 Tryz.underlying3 (by kernel_rfl) Tryz.underlying4 rfl (fun _ => rfl) spotsWorth_call htab hval hW

set_option maxRecDepth 100000 in
theorem spotsWorth_row : Rows.SpotsWorthSaid :=
 OpenClaim.holds_of_wide 4 Tryz.f4 rfl rfl rfl rfl rfl rfl rfl ⟨rfl, rfl, rfl, rfl, rfl⟩ rfl rfl rfl rfl rfl (by kernel_rfl) Tryz.func4 (facts_of spotsWorth_h1 p_h2 p_h3 spotsWorth_h4 spotsWorth_h5 spotsWorth_h6 p_h7 spotsWorth_h8 p_h9 spotsWorth_h10 spotsWorth_h11 spotsWorth_h12 spotsWorth_h13 spotsWorth_h14 spotsWorth_h15 spotsWorth_h16 spotsWorth_h17 spotsWorth_h18 spotsWorth_h19 spotsWorth_h20 spotsWorth_h21 spotsWorth_h22 p_h23 spotsWorth_h24 p_h25 p_h26 spotsWorth_h27 spotsWorth_h28 spotsWorth_h29 spotsWorth_h30 spotsWorth_h31 spotsWorth_h32)
  (of_decide_eq_true (by kernel_rfl)) (by unfold Func.isWrapper; first | (rw [if_pos (by decide +kernel)]; kernel_rfl) | (rw [if_neg (by decide +kernel)]; exact ⟨rfl, rfl⟩))
  (fun os started H enc _ => spotsWorth_lifted os started H enc)
set_option maxRecDepth 100000 in
theorem spotsWorth_holds : Rows.SpotsWorthCardSaid :=
 Claim7.holds_tied_plain_at .later [] [.data, .pinned] true (true, "228f3384cfe63186613678d7ae7ac0a5700fbac0b998f4c697bc88a402d12d8d") false spotsWorth_row (fun _ h => by cases h) (by kernel_rfl) (fun _ h => by cases h) spotsWorth_row_tie rfl ⟨rfl, rfl⟩ pMain rfl
  (fun f fn hf hfn => by
   obtain rfl : f = 4 := Option.some.inj ((show Tryz.prog.funcNamed Rows.spotsWorthRow.func = some 4 by kernel_rfl).symm.trans hf) |>.symm
   obtain rfl : fn = Tryz.f4 := (Option.some.inj (Tryz.func4.symm.trans hfn)).symm
   exact ⟨pLooks, fun j t ht => by
    rw [Tryz.params4] at ht
    have hm : t ∈ [22] := by simpa using Array.mem_of_getElem? ht
    have hall : ([22].all fun u => !Tryz.prog.wantsStandIn u) = true := by kernel_rfl
    exact (show Tryz.prog.wantsStandIn t = false by simpa using List.all_eq_true.1 hall t hm)⟩)
  spotsWorth_goes
#print axioms spotsWorth_holds
end Go.Proofs.YthjhjbgilbaknaaGreatDoor
