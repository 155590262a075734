/-
 What is proved here: whatever numbers pileup's law TravelKeepsSeconds is called at, it answers true, and the slice reads as before. Conditions: those of the given card alone (the listed variables as the program's text lays them).
-/
import Derived.Test.YtooejlhignkdgaaGreatDoorTie
import Derived.Test.YtooejlhignkdgaaGreatDoorCards
import Derived.Test.YtooejlhignkdgaaGreatDoorMJ
import Derived.Test.YtooejlhignkdgaaGreatDoorMG
import Derived.Stop.LaidErr
import Derived.Test.YtooejlhignkdgaaGreatDoorMF
set_option linter.all false
namespace Go.Proofs.YtooejlhignkdgaaGreatDoor
open Go Go.AL Go.ChangeShapes Go.WideShapes Go.ChangeAt Go.RowKit

theorem travelKeepsSeconds_call (rows : List (List G)) : ACallX Tryz.prog 3 [.listF [.int .i64] rows] [] (.lit (.bool true)) [] := SYtooejlhignkdgaaGreatDoor.c_k2_TravelKeepsSeconds [.l rows] [.t true] (SYtooejlhignkdgaaGreatDoor.travelKeepsSeconds_data rows)
theorem travelKeepsSeconds_h1 : (Rows.travelKeepsSecondsRow.wf (OpenSpec.ofChange Rows.travelKeepsSecondsSpec)) = true := by kernel_rfl
theorem travelKeepsSeconds_h4 : (Tryz.f3.params.all (Tryz.pinned.checked.prog.readableRec ·)) = true := by kernel_rfl
theorem travelKeepsSeconds_h5 : (namedTie Tryz.pinned.checked.prog Rows.travelKeepsSecondsRow.named Rows.travelKeepsSecondsSpec.vars) = true := by kernel_rfl
theorem travelKeepsSeconds_h6 : ((Rows.travelKeepsSecondsRow.stops == [])) = true := by kernel_rfl
theorem travelKeepsSeconds_h8 : ((Rows.travelKeepsSecondsRow.knobs == [])) = true := by kernel_rfl
theorem travelKeepsSeconds_h10 : ((Rows.travelKeepsSecondsRow.inPlace == Tryz.pinned.checked.prog.inPlace 3)) = true := by kernel_rfl
theorem travelKeepsSeconds_h11 : ((Rows.travelKeepsSecondsRow.unfollowed == Tryz.pinned.checked.prog.unfollowed 3)) = true := by kernel_rfl
theorem travelKeepsSeconds_h12 : ((Rows.travelKeepsSecondsRow.recurses == Tryz.pinned.checked.prog.recurses 3)) = true := by kernel_rfl
theorem travelKeepsSeconds_h13 : ((Rows.travelKeepsSecondsRow.named == Tryz.pinned.checked.prog.varsNamed 3)) = true := by kernel_rfl
theorem travelKeepsSeconds_h14 : ((Rows.travelKeepsSecondsRow.maps == (Tryz.f3.params.toList ++ Rows.travelKeepsSecondsSpec.plain.varTypes Tryz.pinned.checked.prog).any (Tryz.pinned.checked.prog.mapsRec ·))) = true := by kernel_rfl
theorem travelKeepsSeconds_h15 : ((Rows.travelKeepsSecondsRow.ifaces == (Tryz.f3.params.toList ++ Rows.travelKeepsSecondsSpec.plain.varTypes Tryz.pinned.checked.prog).any (Tryz.pinned.checked.prog.ifacesRec ·))) = true := by kernel_rfl
theorem travelKeepsSeconds_h16 : ((Rows.travelKeepsSecondsRow.mapsOut == Tryz.pinned.checked.prog.mapsAmong Tryz.f3.resultTypes.toList)) = true := by kernel_rfl
theorem travelKeepsSeconds_h17 : ((Rows.travelKeepsSecondsRow.loops == (Tryz.f3.params.toList ++ Rows.travelKeepsSecondsSpec.plain.varTypes Tryz.pinned.checked.prog).any (Tryz.pinned.checked.prog.loopsFrom ·))) = true := by kernel_rfl
theorem travelKeepsSeconds_h18 : ((Rows.travelKeepsSecondsRow.wideKeys == (Tryz.f3.params.toList ++ Rows.travelKeepsSecondsSpec.plain.varTypes Tryz.pinned.checked.prog ++ Tryz.f3.resultTypes.toList).any (Tryz.pinned.checked.prog.wideKeysFrom ·))) = true := by kernel_rfl
theorem travelKeepsSeconds_h19 : (Rows.travelKeepsSecondsSpec.vars.all (Tryz.pinned.checked.prog.varReadable ·)) = true := by kernel_rfl
theorem travelKeepsSeconds_h20 : (Tryz.f3.resultTypes.all (fun t => Tryz.pinned.checked.prog.readableRec t && decide (t < Tryz.pinned.checked.prog.types.size))) = true := by kernel_rfl
theorem travelKeepsSeconds_h21 : ((Rows.travelKeepsSecondsRow.ifacesOut == Tryz.f3.resultTypes.toList.any (Tryz.pinned.checked.prog.ifacesRec ·))) = true := by kernel_rfl
theorem travelKeepsSeconds_h22 : ((Rows.travelKeepsSecondsRow.loopsOut == Tryz.f3.resultTypes.toList.any (Tryz.pinned.checked.prog.loopsFrom ·))) = true := by kernel_rfl
theorem travelKeepsSeconds_h24 : (Rows.travelKeepsSecondsRow.shortTexts.isNone) = true := by kernel_rfl
theorem travelKeepsSeconds_h27 : ((Rows.travelKeepsSecondsRow.lifted == Tryz.pinned.checked.prog.liftsFinal)) = true := by kernel_rfl
theorem travelKeepsSeconds_h28 : ((Tryz.pinned.checked.prog.make == some Rows.travelKeepsSecondsRow.make)) = true := by kernel_rfl
theorem travelKeepsSeconds_h29 : ((Rows.travelKeepsSecondsRow.kinds == (if Rows.travelKeepsSecondsRow.domain.isEmpty then [] else Tryz.f3.params.toList.map fun t => match Tryz.pinned.checked.prog.underlying t with | some (.int k) => some k | _ => none))) = true := by kernel_rfl
theorem travelKeepsSeconds_h30 : ((Rows.travelKeepsSecondsRow.pinned == Rows.travelKeepsSecondsRow.pinnedBy)) = true := by kernel_rfl
theorem travelKeepsSeconds_h31 : ((Rows.travelKeepsSecondsRow.veiled == (Tryz.f3.params.toList ++ Rows.travelKeepsSecondsSpec.plain.varTypes Tryz.pinned.checked.prog ++ Tryz.f3.resultTypes.toList).any (Tryz.pinned.checked.prog.veiledRec ·))) = true := by kernel_rfl
theorem travelKeepsSeconds_h32 : (Rows.travelKeepsSecondsRow.veiledFits Tryz.pinned.checked.prog Tryz.f3.params.toList (Tryz.f3.params.toList ++ Rows.travelKeepsSecondsSpec.plain.varTypes Tryz.pinned.checked.prog ++ Tryz.f3.resultTypes.toList)) = true := by kernel_rfl
theorem travelKeepsSeconds_goes : false = Rows.travelKeepsSecondsRow.goesBy Tryz.pinned.checked.prog := by kernel_rfl

set_option maxRecDepth 100000 in
theorem travelKeepsSeconds_lifted (os : Os) (started : os.Started) (H : Type) (enc : TypeId × Value → H) :
  ReturnsInHanded {} Tryz.checked os 3 .any (fun w args => (Rows.travelKeepsSecondsSpec.pre enc Tryz.prog Tryz.f3 Rows.travelKeepsSecondsRow.domain false w args ∧ laidMetH Tryz.prog Rows.travelKeepsSecondsRow.laid w) ∧ sizedMet enc Tryz.prog Tryz.f3 (OpenSpec.ofChange Rows.travelKeepsSecondsSpec) false w args)
   (Rows.travelKeepsSecondsSpec.post enc Tryz.prog Tryz.f3 false true false false) := by
 refine returnsInHanded_of_change_and (C := Tryz.checked) (X := fun w _ => laidMetH Tryz.prog Rows.travelKeepsSecondsRow.laid w) (fun _ _ _ hh h => h.of_heap hh) ownOf started (by kernel_rfl) Tryz.func3
  (ChangeSpec.witness_shaped (enc := enc) (C := Tryz.checked) (os := os) (X := fun w _ => laidMetH Tryz.prog Rows.travelKeepsSecondsRow.laid w) false (World.laidAll Tryz.prog os Rows.travelKeepsSecondsRow.laid) #[.slice none 0 0] 8 (World.laidAll_os _ _ _)
   (World.shaped_of_ZipB (by kernel_rfl) (by kernel_rfl)) (by kernel_rfl) (by kernel_rfl) (by kernel_rfl)
   (by rw [MakeChecks.laidMetH_plain _ _ _ (by kernel_rfl)]; exact laidMet_laidAll _ (by kernel_rfl) (by kernel_rfl))) ?_
 intro W base args ds gs before hval hW _ _ hx _
 have htab : ∀ p ∈ tabZ, ∃ t f, W.heap[p.1]? = some (.cells p.2 t f) := by
  intro p hp
  unfold tabZ at hp
  obtain rfl := List.mem_singleton.1 hp
  rw [MakeChecks.laidMetH_plain _ _ _ (by kernel_rfl)] at hx
  have h1 := laidMet.tail (laidMet.tail (hx))
  exact heap_of_tabIs (k := .u64) (zs := Lib.pow10Tab) (g := 1) (by kernel_rfl) (Lib.tabIs_of_head (P := Tryz.prog) (k := .u64) (zs := Lib.pow10Tab) (g := 1) (t := 233) (e := 200) (n := 20) (by kernel_rfl) (by kernel_rfl) (by kernel_rfl) (by kernel_rfl) (by kernel_rfl) (by kernel_rfl) h1)
 exact law_post Tryz.params3 (tB := 4) (by kernel_rfl) Tryz.underlying22 Tryz.underlying3 (by kernel_rfl) Tryz.underlying4 rfl (fun _ => rfl) travelKeepsSeconds_call htab hval hW

set_option maxRecDepth 100000 in
theorem travelKeepsSeconds_row : Rows.TravelKeepsSecondsSaid :=
 OpenClaim.holds_of_wide 3 Tryz.f3 rfl rfl rfl rfl rfl rfl rfl ⟨rfl, rfl, rfl, rfl, rfl⟩ rfl rfl rfl rfl rfl (by kernel_rfl) Tryz.func3 (facts_of travelKeepsSeconds_h1 p_h2 p_h3 travelKeepsSeconds_h4 travelKeepsSeconds_h5 travelKeepsSeconds_h6 p_h7 travelKeepsSeconds_h8 p_h9 travelKeepsSeconds_h10 travelKeepsSeconds_h11 travelKeepsSeconds_h12 travelKeepsSeconds_h13 travelKeepsSeconds_h14 travelKeepsSeconds_h15 travelKeepsSeconds_h16 travelKeepsSeconds_h17 travelKeepsSeconds_h18 travelKeepsSeconds_h19 travelKeepsSeconds_h20 travelKeepsSeconds_h21 travelKeepsSeconds_h22 p_h23 travelKeepsSeconds_h24 p_h25 p_h26 travelKeepsSeconds_h27 travelKeepsSeconds_h28 travelKeepsSeconds_h29 travelKeepsSeconds_h30 travelKeepsSeconds_h31 travelKeepsSeconds_h32)
  (of_decide_eq_true (by kernel_rfl)) (by unfold Func.isWrapper; first | (rw [if_pos (by decide +kernel)]; kernel_rfl) | (rw [if_neg (by decide +kernel)]; exact ⟨rfl, rfl⟩))
  (fun os started H enc _ => travelKeepsSeconds_lifted os started H enc)
set_option maxRecDepth 100000 in
theorem travelKeepsSeconds_holds : Rows.TravelKeepsSecondsCardSaid :=
 Claim7.holds_tied_plain_at .later [] [.data, .data, .data, .data, .sentinel, .sentinel, .pinned] true (true, "a747ae8f32a5225562ba8765c81eed2467963c4a4c1aebb759b4415c44a7e1ea") true travelKeepsSeconds_row (fun _ h => by cases h) (by kernel_rfl) (fun _ h => by cases h) travelKeepsSeconds_row_tie rfl ⟨rfl, rfl⟩ pMain rfl
  (fun f fn hf hfn => by
   obtain rfl : f = 3 := Option.some.inj ((show Tryz.prog.funcNamed Rows.travelKeepsSecondsRow.func = some 3 by kernel_rfl).symm.trans hf) |>.symm
   obtain rfl : fn = Tryz.f3 := (Option.some.inj (Tryz.func3.symm.trans hfn)).symm
   exact ⟨pLooks, fun j t ht => by
    rw [Tryz.params3] at ht
    have hm : t ∈ [22] := by simpa using Array.mem_of_getElem? ht
    have hall : ([22].all fun u => !Tryz.prog.wantsStandIn u) = true := by kernel_rfl
    exact (show Tryz.prog.wantsStandIn t = false by simpa using List.all_eq_true.1 hall t hm)⟩)
  travelKeepsSeconds_goes
#print axioms travelKeepsSeconds_holds
end Go.Proofs.YtooejlhignkdgaaGreatDoor
