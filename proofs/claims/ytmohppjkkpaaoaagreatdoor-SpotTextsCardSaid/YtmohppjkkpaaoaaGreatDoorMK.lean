/-
 What is proved here: whatever numbers pileup's law SpotTexts is called at, it answers true, and the slice reads as before. Conditions: those of the given card alone (the listed variables as the program's text lays them).
-/
import Derived.Test.YtmohppjkkpaaoaaGreatDoorTie
import Derived.Test.YtmohppjkkpaaoaaGreatDoorCards
import Derived.Test.YtmohppjkkpaaoaaGreatDoorMJ
import Derived.Test.YtmohppjkkpaaoaaGreatDoorMG
import Derived.Stop.LaidErr
import Derived.Test.YtmohppjkkpaaoaaGreatDoorMF
set_option linter.all false
namespace Go.Proofs.YtmohppjkkpaaoaaGreatDoor
open Go Go.AL Go.ChangeShapes Go.WideShapes Go.ChangeAt Go.RowKit

theorem spotTexts_call (rows : List (List G)) : ACallX Tryz.prog 3 [.listF [.int .i64] rows] [] (.lit (.bool true)) [] := SYtmohppjkkpaaoaaGreatDoor.c_l2_SpotTexts [.l rows] [.t true] (SYtmohppjkkpaaoaaGreatDoor.spotTexts_data rows)
theorem spotTexts_h1 : (Rows.spotTextsRow.wf (OpenSpec.ofChange Rows.spotTextsSpec)) = true := by kernel_rfl
theorem spotTexts_h4 : (Tryz.f3.params.all (Tryz.pinned.checked.prog.readableRec ·)) = true := by kernel_rfl
theorem spotTexts_h5 : (namedTie Tryz.pinned.checked.prog Rows.spotTextsRow.named Rows.spotTextsSpec.vars) = true := by kernel_rfl
theorem spotTexts_h6 : ((Rows.spotTextsRow.stops == [])) = true := by kernel_rfl
theorem spotTexts_h8 : ((Rows.spotTextsRow.knobs == [])) = true := by kernel_rfl
theorem spotTexts_h10 : ((Rows.spotTextsRow.inPlace == Tryz.pinned.checked.prog.inPlace 3)) = true := by kernel_rfl
theorem spotTexts_h11 : ((Rows.spotTextsRow.unfollowed == Tryz.pinned.checked.prog.unfollowed 3)) = true := by kernel_rfl
theorem spotTexts_h12 : ((Rows.spotTextsRow.recurses == Tryz.pinned.checked.prog.recurses 3)) = true := by kernel_rfl
theorem spotTexts_h13 : ((Rows.spotTextsRow.named == Tryz.pinned.checked.prog.varsNamed 3)) = true := by kernel_rfl
theorem spotTexts_h14 : ((Rows.spotTextsRow.maps == (Tryz.f3.params.toList ++ Rows.spotTextsSpec.plain.varTypes Tryz.pinned.checked.prog).any (Tryz.pinned.checked.prog.mapsRec ·))) = true := by kernel_rfl
theorem spotTexts_h15 : ((Rows.spotTextsRow.ifaces == (Tryz.f3.params.toList ++ Rows.spotTextsSpec.plain.varTypes Tryz.pinned.checked.prog).any (Tryz.pinned.checked.prog.ifacesRec ·))) = true := by kernel_rfl
theorem spotTexts_h16 : ((Rows.spotTextsRow.mapsOut == Tryz.pinned.checked.prog.mapsAmong Tryz.f3.resultTypes.toList)) = true := by kernel_rfl
theorem spotTexts_h17 : ((Rows.spotTextsRow.loops == (Tryz.f3.params.toList ++ Rows.spotTextsSpec.plain.varTypes Tryz.pinned.checked.prog).any (Tryz.pinned.checked.prog.loopsFrom ·))) = true := by kernel_rfl
theorem spotTexts_h18 : ((Rows.spotTextsRow.wideKeys == (Tryz.f3.params.toList ++ Rows.spotTextsSpec.plain.varTypes Tryz.pinned.checked.prog ++ Tryz.f3.resultTypes.toList).any (Tryz.pinned.checked.prog.wideKeysFrom ·))) = true := by kernel_rfl
theorem spotTexts_h19 : (Rows.spotTextsSpec.vars.all (Tryz.pinned.checked.prog.varReadable ·)) = true := by kernel_rfl
theorem spotTexts_h20 : (Tryz.f3.resultTypes.all (fun t => Tryz.pinned.checked.prog.readableRec t && decide (t < Tryz.pinned.checked.prog.types.size))) = true := by kernel_rfl
theorem spotTexts_h21 : ((Rows.spotTextsRow.ifacesOut == Tryz.f3.resultTypes.toList.any (Tryz.pinned.checked.prog.ifacesRec ·))) = true := by kernel_rfl
theorem spotTexts_h22 : ((Rows.spotTextsRow.loopsOut == Tryz.f3.resultTypes.toList.any (Tryz.pinned.checked.prog.loopsFrom ·))) = true := by kernel_rfl
theorem spotTexts_h24 : (Rows.spotTextsRow.shortTexts.isNone) = true := by kernel_rfl
theorem spotTexts_h27 : ((Rows.spotTextsRow.lifted == Tryz.pinned.checked.prog.liftsFinal)) = true := by kernel_rfl
theorem spotTexts_h28 : ((Tryz.pinned.checked.prog.make == some Rows.spotTextsRow.make)) = true := by kernel_rfl
theorem spotTexts_h29 : ((Rows.spotTextsRow.kinds == (if Rows.spotTextsRow.domain.isEmpty then [] else Tryz.f3.params.toList.map fun t => match Tryz.pinned.checked.prog.underlying t with | some (.int k) => some k | _ => none))) = true := by kernel_rfl
theorem spotTexts_h30 : ((Rows.spotTextsRow.pinned == Rows.spotTextsRow.pinnedBy)) = true := by kernel_rfl
theorem spotTexts_h31 : ((Rows.spotTextsRow.veiled == (Tryz.f3.params.toList ++ Rows.spotTextsSpec.plain.varTypes Tryz.pinned.checked.prog ++ Tryz.f3.resultTypes.toList).any (Tryz.pinned.checked.prog.veiledRec ·))) = true := by kernel_rfl
theorem spotTexts_h32 : (Rows.spotTextsRow.veiledFits Tryz.pinned.checked.prog Tryz.f3.params.toList (Tryz.f3.params.toList ++ Rows.spotTextsSpec.plain.varTypes Tryz.pinned.checked.prog ++ Tryz.f3.resultTypes.toList)) = true := by kernel_rfl
theorem spotTexts_goes : false = Rows.spotTextsRow.goesBy Tryz.pinned.checked.prog := by kernel_rfl

set_option maxRecDepth 100000 in
theorem spotTexts_lifted (os : Os) (started : os.Started) (H : Type) (enc : TypeId × Value → H) :
  ReturnsInHanded {} Tryz.checked os 3 .any (fun w args => (Rows.spotTextsSpec.pre enc Tryz.prog Tryz.f3 Rows.spotTextsRow.domain false w args ∧ laidMetH Tryz.prog Rows.spotTextsRow.laid w) ∧ sizedMet enc Tryz.prog Tryz.f3 (OpenSpec.ofChange Rows.spotTextsSpec) false w args)
   (Rows.spotTextsSpec.post enc Tryz.prog Tryz.f3 false true false false) := by
 refine returnsInHanded_of_change_and (C := Tryz.checked) (X := fun w _ => laidMetH Tryz.prog Rows.spotTextsRow.laid w) (fun _ _ _ hh h => h.of_heap hh) ownOf started (by kernel_rfl) Tryz.func3
  (ChangeSpec.witness_shaped (enc := enc) (C := Tryz.checked) (os := os) (X := fun w _ => laidMetH Tryz.prog Rows.spotTextsRow.laid w) false (World.laidAll Tryz.prog os Rows.spotTextsRow.laid) #[.slice none 0 0] 8 (World.laidAll_os _ _ _)
   (World.shaped_of_ZipB (by kernel_rfl) (by kernel_rfl)) (by kernel_rfl) (by kernel_rfl) (by kernel_rfl)
   (by rw [MakeChecks.laidMetH_plain _ _ _ (by kernel_rfl)]; exact laidMet_laidAll _ (by kernel_rfl) (by kernel_rfl))) ?_
 intro W base args ds gs before hval hW _ _ hx _
 have htab : ∀ p ∈ tabZ, ∃ t f, W.heap[p.1]? = some (.cells p.2 t f) := by
  intro p hp
  unfold tabZ at hp
  obtain rfl := List.mem_singleton.1 hp
  rw [MakeChecks.laidMetH_plain _ _ _ (by kernel_rfl)] at hx
  have h1 := laidMet.tail (laidMet.tail (hx))
  exact heap_of_tabIs (k := .u64) (zs := Lib.pow10Tab) (g := 1) (by kernel_rfl) (Lib.tabIs_of_head (P := Tryz.prog) (k := .u64) (zs := Lib.pow10Tab) (g := 1) (t := 216) (e := 187) (n := 20) (by kernel_rfl) (by kernel_rfl) (by kernel_rfl) (by kernel_rfl) (by kernel_rfl) (by kernel_rfl) h1)
 exact law_post Tryz.params3 (tB := 4) (by kernel_rfl) Tryz.underlying22 Tryz.underlying3 (by kernel_rfl) Tryz.underlying4 rfl (fun _ => rfl) spotTexts_call htab hval hW

set_option maxRecDepth 100000 in
theorem spotTexts_row : Rows.SpotTextsSaid :=
 OpenClaim.holds_of_wide 3 Tryz.f3 rfl rfl rfl rfl rfl rfl rfl ⟨rfl, rfl, rfl, rfl, rfl⟩ rfl rfl rfl rfl rfl (by kernel_rfl) Tryz.func3 (facts_of spotTexts_h1 p_h2 p_h3 spotTexts_h4 spotTexts_h5 spotTexts_h6 p_h7 spotTexts_h8 p_h9 spotTexts_h10 spotTexts_h11 spotTexts_h12 spotTexts_h13 spotTexts_h14 spotTexts_h15 spotTexts_h16 spotTexts_h17 spotTexts_h18 spotTexts_h19 spotTexts_h20 spotTexts_h21 spotTexts_h22 p_h23 spotTexts_h24 p_h25 p_h26 spotTexts_h27 spotTexts_h28 spotTexts_h29 spotTexts_h30 spotTexts_h31 spotTexts_h32)
  (of_decide_eq_true (by kernel_rfl)) (by unfold Func.isWrapper; first | (rw [if_pos (by decide +kernel)]; kernel_rfl) | (rw [if_neg (by decide +kernel)]; exact ⟨rfl, rfl⟩))
  (fun os started H enc _ => spotTexts_lifted os started H enc)
set_option maxRecDepth 100000 in
theorem spotTexts_holds : Rows.SpotTextsCardSaid :=
 Claim7.holds_tied_plain_at .later [] [.data, .data, .data, .data, .sentinel, .sentinel, .pinned] true (true, "6cd73c1e959a24030ffd095bf5c7451eb2b4eb0d6b66fd304ef8bbe0216d3414") true spotTexts_row (fun _ h => by cases h) (by kernel_rfl) (fun _ h => by cases h) spotTexts_row_tie rfl ⟨rfl, rfl⟩ pMain rfl
  (fun f fn hf hfn => by
   obtain rfl : f = 3 := Option.some.inj ((show Tryz.prog.funcNamed Rows.spotTextsRow.func = some 3 by kernel_rfl).symm.trans hf) |>.symm
   obtain rfl : fn = Tryz.f3 := (Option.some.inj (Tryz.func3.symm.trans hfn)).symm
   exact ⟨pLooks, fun j t ht => by
    rw [Tryz.params3] at ht
    have hm : t ∈ [22] := by simpa using Array.mem_of_getElem? ht
    have hall : ([22].all fun u => !Tryz.prog.wantsStandIn u) = true := by kernel_rfl
    exact (show Tryz.prog.wantsStandIn t = false by simpa using List.all_eq_true.1 hall t hm)⟩)
  spotTexts_goes
#print axioms spotTexts_holds
end Go.Proofs.YtmohppjkkpaaoaaGreatDoor
