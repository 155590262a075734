/-
 What is proved here: whatever numbers pileup's law TopWorthIsNew is called at, it answers true, and the slice reads as before. Conditions: those of the given card alone (the listed variables as the program's text lays them).
-/
import Derived.Test.YthjhjbgilbaknaaGreatDoorTie
import Derived.Test.YthjhjbgilbaknaaGreatDoorCards
import Derived.Test.YthjhjbgilbaknaaGreatDoorMJ
import Derived.Test.YthjhjbgilbaknaaGreatDoorMS
set_option linter.unusedSimpArgs false
set_option linter.unusedVariables false
set_option linter.unusedSectionVars false
namespace Go.Proofs.YthjhjbgilbaknaaGreatDoor
open Go Go.AL Go.ChangeShapes Go.WideShapes Go.ChangeAt Go.RowKit

theorem topWorthIsNew_call (rows : List (List G)) : ACallX Tryz.prog 7 [.listF [.int .i64] rows] [] (.lit (.bool true)) [] := SYthjhjbgilbaknaaGreatDoor.c_piletop_TopWorthIsNew [.l rows] [.t true] (SYthjhjbgilbaknaaGreatDoor.topWorthIsNew_data rows)
theorem topWorthIsNew_h1 : (Rows.topWorthIsNewRow.wf (OpenSpec.ofChange Rows.topWorthIsNewSpec)) = true := by kernel_rfl
theorem topWorthIsNew_h4 : (Tryz.f7.params.all (Tryz.pinned.checked.prog.readableRec ·)) = true := by kernel_rfl
theorem topWorthIsNew_h5 : (namedTie Tryz.pinned.checked.prog Rows.topWorthIsNewRow.named Rows.topWorthIsNewSpec.vars) = true := by kernel_rfl
theorem topWorthIsNew_h6 : ((Rows.topWorthIsNewRow.stops == [])) = true := by kernel_rfl
theorem topWorthIsNew_h8 : ((Rows.topWorthIsNewRow.knobs == [])) = true := by kernel_rfl
theorem topWorthIsNew_h10 : ((Rows.topWorthIsNewRow.inPlace == Tryz.pinned.checked.prog.inPlace 7)) = true := by kernel_rfl
theorem topWorthIsNew_h11 : ((Rows.topWorthIsNewRow.unfollowed == Tryz.pinned.checked.prog.unfollowed 7)) = true := by kernel_rfl
theorem topWorthIsNew_h12 : ((Rows.topWorthIsNewRow.recurses == Tryz.pinned.checked.prog.recurses 7)) = true := by kernel_rfl
theorem topWorthIsNew_h13 : ((Rows.topWorthIsNewRow.named == Tryz.pinned.checked.prog.varsNamed 7)) = true := by kernel_rfl
theorem topWorthIsNew_h14 : ((Rows.topWorthIsNewRow.maps == (Tryz.f7.params.toList ++ Rows.topWorthIsNewSpec.plain.varTypes Tryz.pinned.checked.prog).any (Tryz.pinned.checked.prog.mapsRec ·))) = true := by kernel_rfl
theorem topWorthIsNew_h15 : ((Rows.topWorthIsNewRow.ifaces == (Tryz.f7.params.toList ++ Rows.topWorthIsNewSpec.plain.varTypes Tryz.pinned.checked.prog).any (Tryz.pinned.checked.prog.ifacesRec ·))) = true := by kernel_rfl
theorem topWorthIsNew_h16 : ((Rows.topWorthIsNewRow.mapsOut == Tryz.pinned.checked.prog.mapsAmong Tryz.f7.resultTypes.toList)) = true := by kernel_rfl
theorem topWorthIsNew_h17 : ((Rows.topWorthIsNewRow.loops == (Tryz.f7.params.toList ++ Rows.topWorthIsNewSpec.plain.varTypes Tryz.pinned.checked.prog).any (Tryz.pinned.checked.prog.loopsFrom ·))) = true := by kernel_rfl
theorem topWorthIsNew_h18 : ((Rows.topWorthIsNewRow.wideKeys == (Tryz.f7.params.toList ++ Rows.topWorthIsNewSpec.plain.varTypes Tryz.pinned.checked.prog ++ Tryz.f7.resultTypes.toList).any (Tryz.pinned.checked.prog.wideKeysFrom ·))) = true := by kernel_rfl
theorem topWorthIsNew_h19 : (Rows.topWorthIsNewSpec.vars.all (Tryz.pinned.checked.prog.varReadable ·)) = true := by kernel_rfl
theorem topWorthIsNew_h20 : (Tryz.f7.resultTypes.all (fun t => Tryz.pinned.checked.prog.readableRec t && decide (t < Tryz.pinned.checked.prog.types.size))) = true := by kernel_rfl
theorem topWorthIsNew_h21 : ((Rows.topWorthIsNewRow.ifacesOut == Tryz.f7.resultTypes.toList.any (Tryz.pinned.checked.prog.ifacesRec ·))) = true := by kernel_rfl
theorem topWorthIsNew_h22 : ((Rows.topWorthIsNewRow.loopsOut == Tryz.f7.resultTypes.toList.any (Tryz.pinned.checked.prog.loopsFrom ·))) = true := by kernel_rfl
theorem topWorthIsNew_h24 : (Rows.topWorthIsNewRow.shortTexts.isNone) = true := by kernel_rfl
theorem topWorthIsNew_h27 : ((Rows.topWorthIsNewRow.lifted == Tryz.pinned.checked.prog.liftsFinal)) = true := by kernel_rfl
theorem topWorthIsNew_h28 : ((Tryz.pinned.checked.prog.make == some Rows.topWorthIsNewRow.make)) = true := by kernel_rfl
theorem topWorthIsNew_h29 : ((Rows.topWorthIsNewRow.kinds == (if Rows.topWorthIsNewRow.domain.isEmpty then [] else Tryz.f7.params.toList.map fun t => match Tryz.pinned.checked.prog.underlying t with | some (.int k) => some k | _ => none))) = true := by kernel_rfl
theorem topWorthIsNew_h30 : ((Rows.topWorthIsNewRow.pinned == Rows.topWorthIsNewRow.pinnedBy)) = true := by kernel_rfl
theorem topWorthIsNew_h31 : ((Rows.topWorthIsNewRow.veiled == (Tryz.f7.params.toList ++ Rows.topWorthIsNewSpec.plain.varTypes Tryz.pinned.checked.prog ++ Tryz.f7.resultTypes.toList).any (Tryz.pinned.checked.prog.veiledRec ·))) = true := by kernel_rfl
theorem topWorthIsNew_h32 : (Rows.topWorthIsNewRow.veiledFits Tryz.pinned.checked.prog Tryz.f7.params.toList (Tryz.f7.params.toList ++ Rows.topWorthIsNewSpec.plain.varTypes Tryz.pinned.checked.prog ++ Tryz.f7.resultTypes.toList)) = true := by kernel_rfl
theorem topWorthIsNew_goes : false = Rows.topWorthIsNewRow.goesBy Tryz.pinned.checked.prog := by kernel_rfl

set_option maxRecDepth 100000 in
theorem topWorthIsNew_lifted (os : Os) (started : os.Started) (H : Type) (enc : TypeId × Value → H) :
  ReturnsInHanded {} Tryz.checked os 7 .any (fun w args => (Rows.topWorthIsNewSpec.pre enc Tryz.prog Tryz.f7 Rows.topWorthIsNewRow.domain false w args ∧ laidMetH Tryz.prog Rows.topWorthIsNewRow.laid w) ∧ sizedMet enc Tryz.prog Tryz.f7 (OpenSpec.ofChange Rows.topWorthIsNewSpec) false w args)
   (Rows.topWorthIsNewSpec.post enc Tryz.prog Tryz.f7 false true false false) := by
 refine returnsInHanded_of_change_and (C := Tryz.checked) (X := fun w _ => laidMetH Tryz.prog Rows.topWorthIsNewRow.laid w) (fun _ _ _ hh h => h.of_heap hh) ownOf started (by kernel_rfl) Tryz.func7
  (ChangeSpec.witness_shaped (enc := enc) (C := Tryz.checked) (os := os) (X := fun w _ => laidMetH Tryz.prog Rows.topWorthIsNewRow.laid w) false (World.laidAll Tryz.prog os Rows.topWorthIsNewRow.laid) #[.slice none 0 0] 8 (World.laidAll_os _ _ _)
   (World.shaped_of_ZipB (by kernel_rfl) (by kernel_rfl)) (by kernel_rfl) (by kernel_rfl) (by kernel_rfl)
   (by rw [MakeChecks.laidMetH_plain _ _ _ (by kernel_rfl)]; exact laidMet_laidAll _ (by kernel_rfl) (by kernel_rfl))) ?_
 intro W base args ds gs before hval hW _ _ hx _
 have htab : ∀ p ∈ tabZ, ∃ t f, W.heap[p.1]? = some (.cells p.2 t f) := by
  intro p hp
  unfold tabZ at hp
  cases hp
 exact law_post Tryz.params7 (tB := 4) (by kernel_rfl) Tryz.underlying22 Tryz.underlying3 (by kernel_rfl) Tryz.underlying4 rfl (fun _ => rfl) topWorthIsNew_call htab hval hW

set_option maxRecDepth 100000 in
theorem topWorthIsNew_row : Rows.TopWorthIsNewSaid :=
 OpenClaim.holds_of_wide 7 Tryz.f7 rfl rfl rfl rfl rfl rfl rfl ⟨rfl, rfl, rfl, rfl, rfl⟩ rfl rfl rfl rfl rfl (by kernel_rfl) Tryz.func7 (facts_of topWorthIsNew_h1 p_h2 p_h3 topWorthIsNew_h4 topWorthIsNew_h5 topWorthIsNew_h6 p_h7 topWorthIsNew_h8 p_h9 topWorthIsNew_h10 topWorthIsNew_h11 topWorthIsNew_h12 topWorthIsNew_h13 topWorthIsNew_h14 topWorthIsNew_h15 topWorthIsNew_h16 topWorthIsNew_h17 topWorthIsNew_h18 topWorthIsNew_h19 topWorthIsNew_h20 topWorthIsNew_h21 topWorthIsNew_h22 p_h23 topWorthIsNew_h24 p_h25 p_h26 topWorthIsNew_h27 topWorthIsNew_h28 topWorthIsNew_h29 topWorthIsNew_h30 topWorthIsNew_h31 topWorthIsNew_h32)
  (of_decide_eq_true (by kernel_rfl)) (by unfold Func.isWrapper; first | (rw [if_pos (by decide +kernel)]; kernel_rfl) | (rw [if_neg (by decide +kernel)]; exact ⟨rfl, rfl⟩))
  (fun os started H enc _ => topWorthIsNew_lifted os started H enc)
set_option maxRecDepth 100000 in
theorem topWorthIsNew_holds : Rows.TopWorthIsNewCardSaid :=
 Claim7.holds_tied_plain_at .later [] [.data, .pinned] true (true, "228f3384cfe63186613678d7ae7ac0a5700fbac0b998f4c697bc88a402d12d8d") false topWorthIsNew_row (fun _ h => by cases h) (by kernel_rfl) (fun _ h => by cases h) topWorthIsNew_row_tie rfl ⟨rfl, rfl⟩ pMain rfl
  (fun f fn hf hfn => by
   obtain rfl : f = 7 := Option.some.inj ((show Tryz.prog.funcNamed Rows.topWorthIsNewRow.func = some 7 by kernel_rfl).symm.trans hf) |>.symm
   obtain rfl : fn = Tryz.f7 := (Option.some.inj (Tryz.func7.symm.trans hfn)).symm
   exact ⟨pLooks, fun j t ht => by
    rw [Tryz.params7] at ht
    have hm : t ∈ [22] := by simpa using Array.mem_of_getElem? ht
    have hall : ([22].all fun u => !Tryz.prog.wantsStandIn u) = true := by kernel_rfl
    exact (show Tryz.prog.wantsStandIn t = false by simpa using List.all_eq_true.1 hall t hm)⟩)
  topWorthIsNew_goes
#print axioms topWorthIsNew_holds
end Go.Proofs.YthjhjbgilbaknaaGreatDoor
