/-
 What is proved here: whatever numbers pileup's law LogsAreOne is called at, it answers true, and the slice reads as before. Conditions: those of the given card alone (the listed variables as the program's text lays them).
-/
import Derived.Test.YtchcbaapbinpbaaGreatDoorTie
import Derived.Test.YtchcbaapbinpbaaGreatDoorCards
import Derived.Test.YtchcbaapbinpbaaGreatDoorMJ
import Derived.Test.YtchcbaapbinpbaaGreatDoorMG
import Derived.Stop.LaidErr
import Derived.Test.YtchcbaapbinpbaaGreatDoorMF
set_option linter.all false
namespace Go.Proofs.YtchcbaapbinpbaaGreatDoor
open Go Go.AL Go.ChangeShapes Go.WideShapes Go.ChangeAt Go.RowKit

theorem logsAreOne_call (rows : List (List G)) : ACallX Tryz.prog 5 [.listF [.int .i64] rows] [] (.lit (.bool true)) [] := SYtchcbaapbinpbaaGreatDoor.c_k2_LogsAreOne [.l rows] [.t true] (SYtchcbaapbinpbaaGreatDoor.logsAreOne_data rows)
theorem logsAreOne_h1 : (Rows.logsAreOneRow.wf (OpenSpec.ofChange Rows.logsAreOneSpec)) = true := by kernel_rfl
theorem logsAreOne_h4 : (Tryz.f5.params.all (Tryz.pinned.checked.prog.readableRec ·)) = true := by kernel_rfl
theorem logsAreOne_h5 : (namedTie Tryz.pinned.checked.prog Rows.logsAreOneRow.named Rows.logsAreOneSpec.vars) = true := by kernel_rfl
theorem logsAreOne_h6 : ((Rows.logsAreOneRow.stops == [])) = true := by kernel_rfl
theorem logsAreOne_h8 : ((Rows.logsAreOneRow.knobs == [])) = true := by kernel_rfl
theorem logsAreOne_h10 : ((Rows.logsAreOneRow.inPlace == Tryz.pinned.checked.prog.inPlace 5)) = true := by kernel_rfl
theorem logsAreOne_h11 : ((Rows.logsAreOneRow.unfollowed == Tryz.pinned.checked.prog.unfollowed 5)) = true := by kernel_rfl
theorem logsAreOne_h12 : ((Rows.logsAreOneRow.recurses == Tryz.pinned.checked.prog.recurses 5)) = true := by kernel_rfl
theorem logsAreOne_h13 : ((Rows.logsAreOneRow.named == Tryz.pinned.checked.prog.varsNamed 5)) = true := by kernel_rfl
theorem logsAreOne_h14 : ((Rows.logsAreOneRow.maps == (Tryz.f5.params.toList ++ Rows.logsAreOneSpec.plain.varTypes Tryz.pinned.checked.prog).any (Tryz.pinned.checked.prog.mapsRec ·))) = true := by kernel_rfl
theorem logsAreOne_h15 : ((Rows.logsAreOneRow.ifaces == (Tryz.f5.params.toList ++ Rows.logsAreOneSpec.plain.varTypes Tryz.pinned.checked.prog).any (Tryz.pinned.checked.prog.ifacesRec ·))) = true := by kernel_rfl
theorem logsAreOne_h16 : ((Rows.logsAreOneRow.mapsOut == Tryz.pinned.checked.prog.mapsAmong Tryz.f5.resultTypes.toList)) = true := by kernel_rfl
theorem logsAreOne_h17 : ((Rows.logsAreOneRow.loops == (Tryz.f5.params.toList ++ Rows.logsAreOneSpec.plain.varTypes Tryz.pinned.checked.prog).any (Tryz.pinned.checked.prog.loopsFrom ·))) = true := by kernel_rfl
theorem logsAreOne_h18 : ((Rows.logsAreOneRow.wideKeys == (Tryz.f5.params.toList ++ Rows.logsAreOneSpec.plain.varTypes Tryz.pinned.checked.prog ++ Tryz.f5.resultTypes.toList).any (Tryz.pinned.checked.prog.wideKeysFrom ·))) = true := by kernel_rfl
theorem logsAreOne_h19 : (Rows.logsAreOneSpec.vars.all (Tryz.pinned.checked.prog.varReadable ·)) = true := by kernel_rfl
theorem logsAreOne_h20 : (Tryz.f5.resultTypes.all (fun t => Tryz.pinned.checked.prog.readableRec t && decide (t < Tryz.pinned.checked.prog.types.size))) = true := by kernel_rfl
theorem logsAreOne_h21 : ((Rows.logsAreOneRow.ifacesOut == Tryz.f5.resultTypes.toList.any (Tryz.pinned.checked.prog.ifacesRec ·))) = true := by kernel_rfl
theorem logsAreOne_h22 : ((Rows.logsAreOneRow.loopsOut == Tryz.f5.resultTypes.toList.any (Tryz.pinned.checked.prog.loopsFrom ·))) = true := by kernel_rfl
theorem logsAreOne_h24 : (Rows.logsAreOneRow.shortTexts.isNone) = true := by kernel_rfl
theorem logsAreOne_h27 : ((Rows.logsAreOneRow.lifted == Tryz.pinned.checked.prog.liftsFinal)) = true := by kernel_rfl
theorem logsAreOne_h28 : ((Tryz.pinned.checked.prog.make == some Rows.logsAreOneRow.make)) = true := by kernel_rfl
theorem logsAreOne_h29 : ((Rows.logsAreOneRow.kinds == (if Rows.logsAreOneRow.domain.isEmpty then [] else Tryz.f5.params.toList.map fun t => match Tryz.pinned.checked.prog.underlying t with | some (.int k) => some k | _ => none))) = true := by kernel_rfl
theorem logsAreOne_h30 : ((Rows.logsAreOneRow.pinned == Rows.logsAreOneRow.pinnedBy)) = true := by kernel_rfl
theorem logsAreOne_h31 : ((Rows.logsAreOneRow.veiled == (Tryz.f5.params.toList ++ Rows.logsAreOneSpec.plain.varTypes Tryz.pinned.checked.prog ++ Tryz.f5.resultTypes.toList).any (Tryz.pinned.checked.prog.veiledRec ·))) = true := by kernel_rfl
theorem logsAreOne_h32 : (Rows.logsAreOneRow.veiledFits Tryz.pinned.checked.prog Tryz.f5.params.toList (Tryz.f5.params.toList ++ Rows.logsAreOneSpec.plain.varTypes Tryz.pinned.checked.prog ++ Tryz.f5.resultTypes.toList)) = true := by kernel_rfl
theorem logsAreOne_goes : false = Rows.logsAreOneRow.goesBy Tryz.pinned.checked.prog := by kernel_rfl

set_option maxRecDepth 100000 in
theorem logsAreOne_lifted (os : Os) (started : os.Started) (H : Type) (enc : TypeId × Value → H) :
  ReturnsInHanded {} Tryz.checked os 5 .any (fun w args => (Rows.logsAreOneSpec.pre enc Tryz.prog Tryz.f5 Rows.logsAreOneRow.domain false w args ∧ laidMetH Tryz.prog Rows.logsAreOneRow.laid w) ∧ sizedMet enc Tryz.prog Tryz.f5 (OpenSpec.ofChange Rows.logsAreOneSpec) false w args)
   (Rows.logsAreOneSpec.post enc Tryz.prog Tryz.f5 false true false false) := by
 refine returnsInHanded_of_change_and (C := Tryz.checked) (X := fun w _ => laidMetH Tryz.prog Rows.logsAreOneRow.laid w) (fun _ _ _ hh h => h.of_heap hh) ownOf started (by kernel_rfl) Tryz.func5
  (ChangeSpec.witness_shaped (enc := enc) (C := Tryz.checked) (os := os) (X := fun w _ => laidMetH Tryz.prog Rows.logsAreOneRow.laid w) false (World.laidAll Tryz.prog os Rows.logsAreOneRow.laid) #[.slice none 0 0] 8 (World.laidAll_os _ _ _)
   (World.shaped_of_ZipB (by kernel_rfl) (by kernel_rfl)) (by kernel_rfl) (by kernel_rfl) (by kernel_rfl)
   (by rw [MakeChecks.laidMetH_plain _ _ _ (by kernel_rfl)]; exact laidMet_laidAll _ (by kernel_rfl) (by kernel_rfl))) ?_
 intro W base args ds gs before hval hW _ _ hx _
 have htab : ∀ p ∈ tabZ, ∃ t f, W.heap[p.1]? = some (.cells p.2 t f) := by
  intro p hp
  unfold tabZ at hp
  obtain rfl := List.mem_singleton.1 hp
  rw [MakeChecks.laidMetH_plain _ _ _ (by kernel_rfl)] at hx
  have h1 := laidMet.tail (laidMet.tail (hx))
  exact heap_of_tabIs (k := .u64) (zs := Lib.pow10Tab) (g := 1) (by kernel_rfl) (Lib.tabIs_of_head (P := Tryz.prog) (k := .u64) (zs := Lib.pow10Tab) (g := 1) (t := 282) (e := 206) (n := 20) (by kernel_rfl) (by kernel_rfl) (by kernel_rfl) (by kernel_rfl) (by kernel_rfl) (by kernel_rfl) h1)
 exact law_post Tryz.params5 (tB := 4) (by kernel_rfl) Tryz.underlying22 Tryz.underlying3 (by kernel_rfl) Tryz.underlying4 rfl (fun _ => rfl) logsAreOne_call htab hval hW

set_option maxRecDepth 100000 in
theorem logsAreOne_row : Rows.LogsAreOneSaid :=
 OpenClaim.holds_of_wide 5 Tryz.f5 rfl rfl rfl rfl rfl rfl rfl ⟨rfl, rfl, rfl, rfl, rfl⟩ rfl rfl rfl rfl rfl (by kernel_rfl) Tryz.func5 (facts_of logsAreOne_h1 p_h2 p_h3 logsAreOne_h4 logsAreOne_h5 logsAreOne_h6 p_h7 logsAreOne_h8 p_h9 logsAreOne_h10 logsAreOne_h11 logsAreOne_h12 logsAreOne_h13 logsAreOne_h14 logsAreOne_h15 logsAreOne_h16 logsAreOne_h17 logsAreOne_h18 logsAreOne_h19 logsAreOne_h20 logsAreOne_h21 logsAreOne_h22 p_h23 logsAreOne_h24 p_h25 p_h26 logsAreOne_h27 logsAreOne_h28 logsAreOne_h29 logsAreOne_h30 logsAreOne_h31 logsAreOne_h32)
  (of_decide_eq_true (by kernel_rfl)) (by unfold Func.isWrapper; first | (rw [if_pos (by decide +kernel)]; kernel_rfl) | (rw [if_neg (by decide +kernel)]; exact ⟨rfl, rfl⟩))
  (fun os started H enc _ => logsAreOne_lifted os started H enc)
set_option maxRecDepth 100000 in
theorem logsAreOne_holds : Rows.LogsAreOneCardSaid :=
 Claim7.holds_tied_plain_at .later [] [.data, .data, .data, .data, .sentinel, .sentinel, .pinned] true (true, "cd3ca018c32de34647e38f3432754c502830ec14d31a1b5aec5f3224688c36b0") true logsAreOne_row (fun _ h => by cases h) (by kernel_rfl) (fun _ h => by cases h) logsAreOne_row_tie rfl ⟨rfl, rfl⟩ pMain rfl
  (fun f fn hf hfn => by
   obtain rfl : f = 5 := Option.some.inj ((show Tryz.prog.funcNamed Rows.logsAreOneRow.func = some 5 by kernel_rfl).symm.trans hf) |>.symm
   obtain rfl : fn = Tryz.f5 := (Option.some.inj (Tryz.func5.symm.trans hfn)).symm
   exact ⟨pLooks, fun j t ht => by
    rw [Tryz.params5] at ht
    have hm : t ∈ [22] := by simpa using Array.mem_of_getElem? ht
    have hall : ([22].all fun u => !Tryz.prog.wantsStandIn u) = true := by kernel_rfl
    exact (show Tryz.prog.wantsStandIn t = false by simpa using List.all_eq_true.1 hall t hm)⟩)
  logsAreOne_goes
#print axioms logsAreOne_holds
end Go.Proofs.YtchcbaapbinpbaaGreatDoor
