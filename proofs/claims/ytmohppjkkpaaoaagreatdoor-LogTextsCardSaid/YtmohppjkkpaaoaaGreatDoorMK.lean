/-
 What is proved here: whatever numbers pileup's law LogTexts is called at, it answers true, and the slice reads as before. Conditions: those of the given card alone (the listed variables as the program's text lays them).
-/
import Derived.Test.YtmohppjkkpaaoaaGreatDoorTie
import Derived.Test.YtmohppjkkpaaoaaGreatDoorCards
import Derived.Test.YtmohppjkkpaaoaaGreatDoorMJ
import Derived.Test.YtmohppjkkpaaoaaGreatDoorMG
import Derived.Stop.LaidErr
import Derived.Test.YtmohppjkkpaaoaaGreatDoorMF
set_option linter.all false
namespace Go.Proofs.YtmohppjkkpaaoaaGreatDoor
open Go Go.AL Go.ChangeShapes Go.WideShapes Go.ChangeAt Go.RowKit

theorem logTexts_call (rows : List (List G)) : ACallX Tryz.prog 4 [.listF [.int .i64] rows] [] (.lit (.bool true)) [] := SYtmohppjkkpaaoaaGreatDoor.c_l2_LogTexts [.l rows] [.t true] (SYtmohppjkkpaaoaaGreatDoor.logTexts_data rows)
theorem logTexts_h1 : (Rows.logTextsRow.wf (OpenSpec.ofChange Rows.logTextsSpec)) = true := by kernel_rfl
theorem logTexts_h4 : (Tryz.f4.params.all (Tryz.pinned.checked.prog.readableRec ·)) = true := by kernel_rfl
theorem logTexts_h5 : (namedTie Tryz.pinned.checked.prog Rows.logTextsRow.named Rows.logTextsSpec.vars) = true := by kernel_rfl
theorem logTexts_h6 : ((Rows.logTextsRow.stops == [])) = true := by kernel_rfl
theorem logTexts_h8 : ((Rows.logTextsRow.knobs == [])) = true := by kernel_rfl
theorem logTexts_h10 : ((Rows.logTextsRow.inPlace == Tryz.pinned.checked.prog.inPlace 4)) = true := by kernel_rfl
theorem logTexts_h11 : ((Rows.logTextsRow.unfollowed == Tryz.pinned.checked.prog.unfollowed 4)) = true := by kernel_rfl
theorem logTexts_h12 : ((Rows.logTextsRow.recurses == Tryz.pinned.checked.prog.recurses 4)) = true := by kernel_rfl
theorem logTexts_h13 : ((Rows.logTextsRow.named == Tryz.pinned.checked.prog.varsNamed 4)) = true := by kernel_rfl
theorem logTexts_h14 : ((Rows.logTextsRow.maps == (Tryz.f4.params.toList ++ Rows.logTextsSpec.plain.varTypes Tryz.pinned.checked.prog).any (Tryz.pinned.checked.prog.mapsRec ·))) = true := by kernel_rfl
theorem logTexts_h15 : ((Rows.logTextsRow.ifaces == (Tryz.f4.params.toList ++ Rows.logTextsSpec.plain.varTypes Tryz.pinned.checked.prog).any (Tryz.pinned.checked.prog.ifacesRec ·))) = true := by kernel_rfl
theorem logTexts_h16 : ((Rows.logTextsRow.mapsOut == Tryz.pinned.checked.prog.mapsAmong Tryz.f4.resultTypes.toList)) = true := by kernel_rfl
theorem logTexts_h17 : ((Rows.logTextsRow.loops == (Tryz.f4.params.toList ++ Rows.logTextsSpec.plain.varTypes Tryz.pinned.checked.prog).any (Tryz.pinned.checked.prog.loopsFrom ·))) = true := by kernel_rfl
theorem logTexts_h18 : ((Rows.logTextsRow.wideKeys == (Tryz.f4.params.toList ++ Rows.logTextsSpec.plain.varTypes Tryz.pinned.checked.prog ++ Tryz.f4.resultTypes.toList).any (Tryz.pinned.checked.prog.wideKeysFrom ·))) = true := by kernel_rfl
theorem logTexts_h19 : (Rows.logTextsSpec.vars.all (Tryz.pinned.checked.prog.varReadable ·)) = true := by kernel_rfl
theorem logTexts_h20 : (Tryz.f4.resultTypes.all (fun t => Tryz.pinned.checked.prog.readableRec t && decide (t < Tryz.pinned.checked.prog.types.size))) = true := by kernel_rfl
theorem logTexts_h21 : ((Rows.logTextsRow.ifacesOut == Tryz.f4.resultTypes.toList.any (Tryz.pinned.checked.prog.ifacesRec ·))) = true := by kernel_rfl
theorem logTexts_h22 : ((Rows.logTextsRow.loopsOut == Tryz.f4.resultTypes.toList.any (Tryz.pinned.checked.prog.loopsFrom ·))) = true := by kernel_rfl
theorem logTexts_h24 : (Rows.logTextsRow.shortTexts.isNone) = true := by kernel_rfl
theorem logTexts_h27 : ((Rows.logTextsRow.lifted == Tryz.pinned.checked.prog.liftsFinal)) = true := by kernel_rfl
theorem logTexts_h28 : ((Tryz.pinned.checked.prog.make == some Rows.logTextsRow.make)) = true := by kernel_rfl
theorem logTexts_h29 : ((Rows.logTextsRow.kinds == (if Rows.logTextsRow.domain.isEmpty then [] else Tryz.f4.params.toList.map fun t => match Tryz.pinned.checked.prog.underlying t with | some (.int k) => some k | _ => none))) = true := by kernel_rfl
theorem logTexts_h30 : ((Rows.logTextsRow.pinned == Rows.logTextsRow.pinnedBy)) = true := by kernel_rfl
theorem logTexts_h31 : ((Rows.logTextsRow.veiled == (Tryz.f4.params.toList ++ Rows.logTextsSpec.plain.varTypes Tryz.pinned.checked.prog ++ Tryz.f4.resultTypes.toList).any (Tryz.pinned.checked.prog.veiledRec ·))) = true := by kernel_rfl
theorem logTexts_h32 : (Rows.logTextsRow.veiledFits Tryz.pinned.checked.prog Tryz.f4.params.toList (Tryz.f4.params.toList ++ Rows.logTextsSpec.plain.varTypes Tryz.pinned.checked.prog ++ Tryz.f4.resultTypes.toList)) = true := by kernel_rfl
theorem logTexts_goes : false = Rows.logTextsRow.goesBy Tryz.pinned.checked.prog := by kernel_rfl

set_option maxRecDepth 100000 in
theorem logTexts_lifted (os : Os) (started : os.Started) (H : Type) (enc : TypeId × Value → H) :
  ReturnsInHanded {} Tryz.checked os 4 .any (fun w args => (Rows.logTextsSpec.pre enc Tryz.prog Tryz.f4 Rows.logTextsRow.domain false w args ∧ laidMetH Tryz.prog Rows.logTextsRow.laid w) ∧ sizedMet enc Tryz.prog Tryz.f4 (OpenSpec.ofChange Rows.logTextsSpec) false w args)
   (Rows.logTextsSpec.post enc Tryz.prog Tryz.f4 false true false false) := by
 refine returnsInHanded_of_change_and (C := Tryz.checked) (X := fun w _ => laidMetH Tryz.prog Rows.logTextsRow.laid w) (fun _ _ _ hh h => h.of_heap hh) ownOf started (by kernel_rfl) Tryz.func4
  (ChangeSpec.witness_shaped (enc := enc) (C := Tryz.checked) (os := os) (X := fun w _ => laidMetH Tryz.prog Rows.logTextsRow.laid w) false (World.laidAll Tryz.prog os Rows.logTextsRow.laid) #[.slice none 0 0] 8 (World.laidAll_os _ _ _)
   (World.shaped_of_ZipB (by kernel_rfl) (by kernel_rfl)) (by kernel_rfl) (by kernel_rfl) (by kernel_rfl)
   (by rw [MakeChecks.laidMetH_plain _ _ _ (by kernel_rfl)]; exact laidMet_laidAll _ (by kernel_rfl) (by kernel_rfl))) ?_
 intro W base args ds gs before hval hW _ _ hx _
 have htab : ∀ p ∈ tabZ, ∃ t f, W.heap[p.1]? = some (.cells p.2 t f) := by
  intro p hp
  unfold tabZ at hp
  obtain rfl := List.mem_singleton.1 hp
  rw [MakeChecks.laidMetH_plain _ _ _ (by kernel_rfl)] at hx
  have h1 := laidMet.tail (laidMet.tail (hx))
  exact heap_of_tabIs (k := .u64) (zs := Lib.pow10Tab) (g := 1) (by kernel_rfl) (Lib.tabIs_of_head (P := Tryz.prog) (k := .u64) (zs := Lib.pow10Tab) (g := 1) (t := 216) (e := 187) (n := 20) (by kernel_rfl) (by kernel_rfl) (by kernel_rfl) (by kernel_rfl) (by kernel_rfl) (by kernel_rfl) h1)
 exact law_post Tryz.params4 (tB := 4) (by kernel_rfl) Tryz.underlying22 Tryz.underlying3 (by kernel_rfl) Tryz.underlying4 rfl (fun _ => rfl) logTexts_call htab hval hW

set_option maxRecDepth 100000 in
theorem logTexts_row : Rows.LogTextsSaid :=
 OpenClaim.holds_of_wide 4 Tryz.f4 rfl rfl rfl rfl rfl rfl rfl ⟨rfl, rfl, rfl, rfl, rfl⟩ rfl rfl rfl rfl rfl (by kernel_rfl) Tryz.func4 (facts_of logTexts_h1 p_h2 p_h3 logTexts_h4 logTexts_h5 logTexts_h6 p_h7 logTexts_h8 p_h9 logTexts_h10 logTexts_h11 logTexts_h12 logTexts_h13 logTexts_h14 logTexts_h15 logTexts_h16 logTexts_h17 logTexts_h18 logTexts_h19 logTexts_h20 logTexts_h21 logTexts_h22 p_h23 logTexts_h24 p_h25 p_h26 logTexts_h27 logTexts_h28 logTexts_h29 logTexts_h30 logTexts_h31 logTexts_h32)
  (of_decide_eq_true (by kernel_rfl)) (by unfold Func.isWrapper; first | (rw [if_pos (by decide +kernel)]; kernel_rfl) | (rw [if_neg (by decide +kernel)]; exact ⟨rfl, rfl⟩))
  (fun os started H enc _ => logTexts_lifted os started H enc)
set_option maxRecDepth 100000 in
theorem logTexts_holds : Rows.LogTextsCardSaid :=
 Claim7.holds_tied_plain_at .later [] [.data, .data, .data, .data, .sentinel, .sentinel, .pinned] true (true, "6cd73c1e959a24030ffd095bf5c7451eb2b4eb0d6b66fd304ef8bbe0216d3414") true logTexts_row (fun _ h => by cases h) (by kernel_rfl) (fun _ h => by cases h) logTexts_row_tie rfl ⟨rfl, rfl⟩ pMain rfl
  (fun f fn hf hfn => by
   obtain rfl : f = 4 := Option.some.inj ((show Tryz.prog.funcNamed Rows.logTextsRow.func = some 4 by kernel_rfl).symm.trans hf) |>.symm
   obtain rfl : fn = Tryz.f4 := (Option.some.inj (Tryz.func4.symm.trans hfn)).symm
   exact ⟨pLooks, fun j t ht => by
    rw [Tryz.params4] at ht
    have hm : t ∈ [22] := by simpa using Array.mem_of_getElem? ht
    have hall : ([22].all fun u => !Tryz.prog.wantsStandIn u) = true := by kernel_rfl
    exact (show Tryz.prog.wantsStandIn t = false by simpa using List.all_eq_true.1 hall t hm)⟩)
  logTexts_goes
#print axioms logTexts_holds
end Go.Proofs.YtmohppjkkpaaoaaGreatDoor
