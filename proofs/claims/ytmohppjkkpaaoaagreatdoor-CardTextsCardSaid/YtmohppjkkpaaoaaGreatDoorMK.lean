/-
 What is proved here: whatever numbers pileup's law CardTexts is called at, it answers true, and the slice reads as before. Conditions: those of the given card alone (the listed variables as the program's text lays them).
-/
import Derived.Test.YtmohppjkkpaaoaaGreatDoorTie
import Derived.Test.YtmohppjkkpaaoaaGreatDoorCards
import Derived.Test.YtmohppjkkpaaoaaGreatDoorMJ
import Derived.Test.YtmohppjkkpaaoaaGreatDoorMG
import Derived.Stop.LaidErr
import Derived.Test.YtmohppjkkpaaoaaGreatDoorMF
set_option linter.all false
namespace Go.Proofs.YtmohppjkkpaaoaaGreatDoor
open Go Go.AL Go.ChangeShapes Go.WideShapes Go.ChangeAt Go.RowKit

theorem cardTexts_call (rows : List (List G)) : ACallX Tryz.prog 5 [.listF [.int .i64] rows] [] (.lit (.bool true)) [] := SYtmohppjkkpaaoaaGreatDoor.c_l2_CardTexts [.l rows] [.t true] (SYtmohppjkkpaaoaaGreatDoor.cardTexts_data rows)
theorem cardTexts_h1 : (Rows.cardTextsRow.wf (OpenSpec.ofChange Rows.cardTextsSpec)) = true := by kernel_rfl
theorem cardTexts_h4 : (Tryz.f5.params.all (Tryz.pinned.checked.prog.readableRec ·)) = true := by kernel_rfl
theorem cardTexts_h5 : (namedTie Tryz.pinned.checked.prog Rows.cardTextsRow.named Rows.cardTextsSpec.vars) = true := by kernel_rfl
theorem cardTexts_h6 : ((Rows.cardTextsRow.stops == [])) = true := by kernel_rfl
theorem cardTexts_h8 : ((Rows.cardTextsRow.knobs == [])) = true := by kernel_rfl
theorem cardTexts_h10 : ((Rows.cardTextsRow.inPlace == Tryz.pinned.checked.prog.inPlace 5)) = true := by kernel_rfl
theorem cardTexts_h11 : ((Rows.cardTextsRow.unfollowed == Tryz.pinned.checked.prog.unfollowed 5)) = true := by kernel_rfl
theorem cardTexts_h12 : ((Rows.cardTextsRow.recurses == Tryz.pinned.checked.prog.recurses 5)) = true := by kernel_rfl
theorem cardTexts_h13 : ((Rows.cardTextsRow.named == Tryz.pinned.checked.prog.varsNamed 5)) = true := by kernel_rfl
theorem cardTexts_h14 : ((Rows.cardTextsRow.maps == (Tryz.f5.params.toList ++ Rows.cardTextsSpec.plain.varTypes Tryz.pinned.checked.prog).any (Tryz.pinned.checked.prog.mapsRec ·))) = true := by kernel_rfl
theorem cardTexts_h15 : ((Rows.cardTextsRow.ifaces == (Tryz.f5.params.toList ++ Rows.cardTextsSpec.plain.varTypes Tryz.pinned.checked.prog).any (Tryz.pinned.checked.prog.ifacesRec ·))) = true := by kernel_rfl
theorem cardTexts_h16 : ((Rows.cardTextsRow.mapsOut == Tryz.pinned.checked.prog.mapsAmong Tryz.f5.resultTypes.toList)) = true := by kernel_rfl
theorem cardTexts_h17 : ((Rows.cardTextsRow.loops == (Tryz.f5.params.toList ++ Rows.cardTextsSpec.plain.varTypes Tryz.pinned.checked.prog).any (Tryz.pinned.checked.prog.loopsFrom ·))) = true := by kernel_rfl
theorem cardTexts_h18 : ((Rows.cardTextsRow.wideKeys == (Tryz.f5.params.toList ++ Rows.cardTextsSpec.plain.varTypes Tryz.pinned.checked.prog ++ Tryz.f5.resultTypes.toList).any (Tryz.pinned.checked.prog.wideKeysFrom ·))) = true := by kernel_rfl
theorem cardTexts_h19 : (Rows.cardTextsSpec.vars.all (Tryz.pinned.checked.prog.varReadable ·)) = true := by kernel_rfl
theorem cardTexts_h20 : (Tryz.f5.resultTypes.all (fun t => Tryz.pinned.checked.prog.readableRec t && decide (t < Tryz.pinned.checked.prog.types.size))) = true := by kernel_rfl
theorem cardTexts_h21 : ((Rows.cardTextsRow.ifacesOut == Tryz.f5.resultTypes.toList.any (Tryz.pinned.checked.prog.ifacesRec ·))) = true := by kernel_rfl
theorem cardTexts_h22 : ((Rows.cardTextsRow.loopsOut == Tryz.f5.resultTypes.toList.any (Tryz.pinned.checked.prog.loopsFrom ·))) = true := by kernel_rfl
theorem cardTexts_h24 : (Rows.cardTextsRow.shortTexts.isNone) = true := by kernel_rfl
theorem cardTexts_h27 : ((Rows.cardTextsRow.lifted == Tryz.pinned.checked.prog.liftsFinal)) = true := by kernel_rfl
theorem cardTexts_h28 : ((Tryz.pinned.checked.prog.make == some Rows.cardTextsRow.make)) = true := by kernel_rfl
theorem cardTexts_h29 : ((Rows.cardTextsRow.kinds == (if Rows.cardTextsRow.domain.isEmpty then [] else Tryz.f5.params.toList.map fun t => match Tryz.pinned.checked.prog.underlying t with | some (.int k) => some k | _ => none))) = true := by kernel_rfl
theorem cardTexts_h30 : ((Rows.cardTextsRow.pinned == Rows.cardTextsRow.pinnedBy)) = true := by kernel_rfl
theorem cardTexts_h31 : ((Rows.cardTextsRow.veiled == (Tryz.f5.params.toList ++ Rows.cardTextsSpec.plain.varTypes Tryz.pinned.checked.prog ++ Tryz.f5.resultTypes.toList).any (Tryz.pinned.checked.prog.veiledRec ·))) = true := by kernel_rfl
theorem cardTexts_h32 : (Rows.cardTextsRow.veiledFits Tryz.pinned.checked.prog Tryz.f5.params.toList (Tryz.f5.params.toList ++ Rows.cardTextsSpec.plain.varTypes Tryz.pinned.checked.prog ++ Tryz.f5.resultTypes.toList)) = true := by kernel_rfl
theorem cardTexts_goes : false = Rows.cardTextsRow.goesBy Tryz.pinned.checked.prog := by kernel_rfl

set_option maxRecDepth 100000 in
theorem cardTexts_lifted (os : Os) (started : os.Started) (H : Type) (enc : TypeId × Value → H) :
  ReturnsInHanded {} Tryz.checked os 5 .any (fun w args => (Rows.cardTextsSpec.pre enc Tryz.prog Tryz.f5 Rows.cardTextsRow.domain false w args ∧ laidMetH Tryz.prog Rows.cardTextsRow.laid w) ∧ sizedMet enc Tryz.prog Tryz.f5 (OpenSpec.ofChange Rows.cardTextsSpec) false w args)
   (Rows.cardTextsSpec.post enc Tryz.prog Tryz.f5 false true false false) := by
 refine returnsInHanded_of_change_and (C := Tryz.checked) (X := fun w _ => laidMetH Tryz.prog Rows.cardTextsRow.laid w) (fun _ _ _ hh h => h.of_heap hh) ownOf started (by kernel_rfl) Tryz.func5
  (ChangeSpec.witness_shaped (enc := enc) (C := Tryz.checked) (os := os) (X := fun w _ => laidMetH Tryz.prog Rows.cardTextsRow.laid w) false (World.laidAll Tryz.prog os Rows.cardTextsRow.laid) #[.slice none 0 0] 8 (World.laidAll_os _ _ _)
   (World.shaped_of_ZipB (by kernel_rfl) (by kernel_rfl)) (by kernel_rfl) (by kernel_rfl) (by kernel_rfl)
   (by rw [MakeChecks.laidMetH_plain _ _ _ (by kernel_rfl)]; exact laidMet_laidAll _ (by kernel_rfl) (by kernel_rfl))) ?_
 intro W base args ds gs before hval hW _ _ hx _
 have htab : ∀ p ∈ tabZ, ∃ t f, W.heap[p.1]? = some (.cells p.2 t f) := by
  intro p hp
  unfold tabZ at hp
  obtain rfl := List.mem_singleton.1 hp
  rw [MakeChecks.laidMetH_plain _ _ _ (by kernel_rfl)] at hx
  have h1 := laidMet.tail (laidMet.tail (hx))
  exact heap_of_tabIs (k := .u64) (zs := Lib.pow10Tab) (g := 1) (by kernel_rfl) (Lib.tabIs_of_head (P := Tryz.prog) (k := .u64) (zs := Lib.pow10Tab) (g := 1) (t := 216) (e := 187) (n := 20) (by kernel_rfl) (by kernel_rfl) (by kernel_rfl) (by kernel_rfl) (by kernel_rfl) (by kernel_rfl) h1)
 exact law_post Tryz.params5 (tB := 4) (by kernel_rfl) Tryz.underlying22 Tryz.underlying3 (by kernel_rfl) Tryz.underlying4 rfl (fun _ => rfl) cardTexts_call htab hval hW

set_option maxRecDepth 100000 in
theorem cardTexts_row : Rows.CardTextsSaid :=
 OpenClaim.holds_of_wide 5 Tryz.f5 rfl rfl rfl rfl rfl rfl rfl ⟨rfl, rfl, rfl, rfl, rfl⟩ rfl rfl rfl rfl rfl (by kernel_rfl) Tryz.func5 (facts_of cardTexts_h1 p_h2 p_h3 cardTexts_h4 cardTexts_h5 cardTexts_h6 p_h7 cardTexts_h8 p_h9 cardTexts_h10 cardTexts_h11 cardTexts_h12 cardTexts_h13 cardTexts_h14 cardTexts_h15 cardTexts_h16 cardTexts_h17 cardTexts_h18 cardTexts_h19 cardTexts_h20 cardTexts_h21 cardTexts_h22 p_h23 cardTexts_h24 p_h25 p_h26 cardTexts_h27 cardTexts_h28 cardTexts_h29 cardTexts_h30 cardTexts_h31 cardTexts_h32)
  (of_decide_eq_true (by kernel_rfl)) (by unfold Func.isWrapper; first | (rw [if_pos (by decide +kernel)]; kernel_rfl) | (rw [if_neg (by decide +kernel)]; exact ⟨rfl, rfl⟩))
  (fun os started H enc _ => cardTexts_lifted os started H enc)
set_option maxRecDepth 100000 in
theorem cardTexts_holds : Rows.CardTextsCardSaid :=
 Claim7.holds_tied_plain_at .later [] [.data, .data, .data, .data, .sentinel, .sentinel, .pinned] true (true, "6cd73c1e959a24030ffd095bf5c7451eb2b4eb0d6b66fd304ef8bbe0216d3414") true cardTexts_row (fun _ h => by cases h) (by kernel_rfl) (fun _ h => by cases h) cardTexts_row_tie rfl ⟨rfl, rfl⟩ pMain rfl
  (fun f fn hf hfn => by
   obtain rfl : f = 5 := Option.some.inj ((show Tryz.prog.funcNamed Rows.cardTextsRow.func = some 5 by kernel_rfl).symm.trans hf) |>.symm
   obtain rfl : fn = Tryz.f5 := (Option.some.inj (Tryz.func5.symm.trans hfn)).symm
   exact ⟨pLooks, fun j t ht => by
    rw [Tryz.params5] at ht
    have hm : t ∈ [22] := by simpa using Array.mem_of_getElem? ht
    have hall : ([22].all fun u => !Tryz.prog.wantsStandIn u) = true := by kernel_rfl
    exact (show Tryz.prog.wantsStandIn t = false by simpa using List.all_eq_true.1 hall t hm)⟩)
  cardTexts_goes
#print axioms cardTexts_holds
end Go.Proofs.YtmohppjkkpaaoaaGreatDoor
