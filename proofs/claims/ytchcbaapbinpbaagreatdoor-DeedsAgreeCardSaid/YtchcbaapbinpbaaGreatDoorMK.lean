/-
 What is proved here: whatever numbers pileup's law DeedsAgree is called at, it answers true, and the slice reads as before. Conditions: those of the given card alone (the listed variables as the program's text lays them).
-/
import Derived.Test.YtchcbaapbinpbaaGreatDoorTie
import Derived.Test.YtchcbaapbinpbaaGreatDoorCards
import Derived.Test.YtchcbaapbinpbaaGreatDoorMJ
import Derived.Test.YtchcbaapbinpbaaGreatDoorMG
import Derived.Stop.LaidErr
import Derived.Test.YtchcbaapbinpbaaGreatDoorMF
set_option linter.all false
namespace Go.Proofs.YtchcbaapbinpbaaGreatDoor
open Go Go.AL Go.ChangeShapes Go.WideShapes Go.ChangeAt Go.RowKit

theorem deedsAgree_call (rows : List (List G)) : ACallX Tryz.prog 4 [.listF [.int .i64] rows] [] (.lit (.bool true)) [] := SYtchcbaapbinpbaaGreatDoor.c_k2_DeedsAgree [.l rows] [.t true] (SYtchcbaapbinpbaaGreatDoor.deedsAgree_data rows)
theorem deedsAgree_h1 : (Rows.deedsAgreeRow.wf (OpenSpec.ofChange Rows.deedsAgreeSpec)) = true := by kernel_rfl
theorem deedsAgree_h4 : (Tryz.f4.params.all (Tryz.pinned.checked.prog.readableRec ·)) = true := by kernel_rfl
theorem deedsAgree_h5 : (namedTie Tryz.pinned.checked.prog Rows.deedsAgreeRow.named Rows.deedsAgreeSpec.vars) = true := by kernel_rfl
theorem deedsAgree_h6 : ((Rows.deedsAgreeRow.stops == [])) = true := by kernel_rfl
theorem deedsAgree_h8 : ((Rows.deedsAgreeRow.knobs == [])) = true := by kernel_rfl
theorem deedsAgree_h10 : ((Rows.deedsAgreeRow.inPlace == Tryz.pinned.checked.prog.inPlace 4)) = true := by kernel_rfl
theorem deedsAgree_h11 : ((Rows.deedsAgreeRow.unfollowed == Tryz.pinned.checked.prog.unfollowed 4)) = true := by kernel_rfl
theorem deedsAgree_h12 : ((Rows.deedsAgreeRow.recurses == Tryz.pinned.checked.prog.recurses 4)) = true := by kernel_rfl
theorem deedsAgree_h13 : ((Rows.deedsAgreeRow.named == Tryz.pinned.checked.prog.varsNamed 4)) = true := by kernel_rfl
theorem deedsAgree_h14 : ((Rows.deedsAgreeRow.maps == (Tryz.f4.params.toList ++ Rows.deedsAgreeSpec.plain.varTypes Tryz.pinned.checked.prog).any (Tryz.pinned.checked.prog.mapsRec ·))) = true := by kernel_rfl
theorem deedsAgree_h15 : ((Rows.deedsAgreeRow.ifaces == (Tryz.f4.params.toList ++ Rows.deedsAgreeSpec.plain.varTypes Tryz.pinned.checked.prog).any (Tryz.pinned.checked.prog.ifacesRec ·))) = true := by kernel_rfl
theorem deedsAgree_h16 : ((Rows.deedsAgreeRow.mapsOut == Tryz.pinned.checked.prog.mapsAmong Tryz.f4.resultTypes.toList)) = true := by kernel_rfl
theorem deedsAgree_h17 : ((Rows.deedsAgreeRow.loops == (Tryz.f4.params.toList ++ Rows.deedsAgreeSpec.plain.varTypes Tryz.pinned.checked.prog).any (Tryz.pinned.checked.prog.loopsFrom ·))) = true := by kernel_rfl
theorem deedsAgree_h18 : ((Rows.deedsAgreeRow.wideKeys == (Tryz.f4.params.toList ++ Rows.deedsAgreeSpec.plain.varTypes Tryz.pinned.checked.prog ++ Tryz.f4.resultTypes.toList).any (Tryz.pinned.checked.prog.wideKeysFrom ·))) = true := by kernel_rfl
theorem deedsAgree_h19 : (Rows.deedsAgreeSpec.vars.all (Tryz.pinned.checked.prog.varReadable ·)) = true := by kernel_rfl
theorem deedsAgree_h20 : (Tryz.f4.resultTypes.all (fun t => Tryz.pinned.checked.prog.readableRec t && decide (t < Tryz.pinned.checked.prog.types.size))) = true := by kernel_rfl
theorem deedsAgree_h21 : ((Rows.deedsAgreeRow.ifacesOut == Tryz.f4.resultTypes.toList.any (Tryz.pinned.checked.prog.ifacesRec ·))) = true := by kernel_rfl
theorem deedsAgree_h22 : ((Rows.deedsAgreeRow.loopsOut == Tryz.f4.resultTypes.toList.any (Tryz.pinned.checked.prog.loopsFrom ·))) = true := by kernel_rfl
theorem deedsAgree_h24 : (Rows.deedsAgreeRow.shortTexts.isNone) = true := by kernel_rfl
theorem deedsAgree_h27 : ((Rows.deedsAgreeRow.lifted == Tryz.pinned.checked.prog.liftsFinal)) = true := by kernel_rfl
theorem deedsAgree_h28 : ((Tryz.pinned.checked.prog.make == some Rows.deedsAgreeRow.make)) = true := by kernel_rfl
theorem deedsAgree_h29 : ((Rows.deedsAgreeRow.kinds == (if Rows.deedsAgreeRow.domain.isEmpty then [] else Tryz.f4.params.toList.map fun t => match Tryz.pinned.checked.prog.underlying t with | some (.int k) => some k | _ => none))) = true := by kernel_rfl
theorem deedsAgree_h30 : ((Rows.deedsAgreeRow.pinned == Rows.deedsAgreeRow.pinnedBy)) = true := by kernel_rfl
theorem deedsAgree_h31 : ((Rows.deedsAgreeRow.veiled == (Tryz.f4.params.toList ++ Rows.deedsAgreeSpec.plain.varTypes Tryz.pinned.checked.prog ++ Tryz.f4.resultTypes.toList).any (Tryz.pinned.checked.prog.veiledRec ·))) = true := by kernel_rfl
theorem deedsAgree_h32 : (Rows.deedsAgreeRow.veiledFits Tryz.pinned.checked.prog Tryz.f4.params.toList (Tryz.f4.params.toList ++ Rows.deedsAgreeSpec.plain.varTypes Tryz.pinned.checked.prog ++ Tryz.f4.resultTypes.toList)) = true := by kernel_rfl
theorem deedsAgree_goes : false = Rows.deedsAgreeRow.goesBy Tryz.pinned.checked.prog := by kernel_rfl

set_option maxRecDepth 100000 in
theorem deedsAgree_lifted (os : Os) (started : os.Started) (H : Type) (enc : TypeId × Value → H) :
  ReturnsInHanded {} Tryz.checked os 4 .any (fun w args => (Rows.deedsAgreeSpec.pre enc Tryz.prog Tryz.f4 Rows.deedsAgreeRow.domain false w args ∧ laidMetH Tryz.prog Rows.deedsAgreeRow.laid w) ∧ sizedMet enc Tryz.prog Tryz.f4 (OpenSpec.ofChange Rows.deedsAgreeSpec) false w args)
   (Rows.deedsAgreeSpec.post enc Tryz.prog Tryz.f4 false true false false) := by
 refine returnsInHanded_of_change_and (C := Tryz.checked) (X := fun w _ => laidMetH Tryz.prog Rows.deedsAgreeRow.laid w) (fun _ _ _ hh h => h.of_heap hh) ownOf started (by kernel_rfl) Tryz.func4
  (ChangeSpec.witness_shaped (enc := enc) (C := Tryz.checked) (os := os) (X := fun w _ => laidMetH Tryz.prog Rows.deedsAgreeRow.laid w) false (World.laidAll Tryz.prog os Rows.deedsAgreeRow.laid) #[.slice none 0 0] 8 (World.laidAll_os _ _ _)
   (World.shaped_of_ZipB (by kernel_rfl) (by kernel_rfl)) (by kernel_rfl) (by kernel_rfl) (by kernel_rfl)
   (by rw [MakeChecks.laidMetH_plain _ _ _ (by kernel_rfl)]; exact laidMet_laidAll _ (by kernel_rfl) (by kernel_rfl))) ?_
 intro W base args ds gs before hval hW _ _ hx _
 have htab : ∀ p ∈ tabZ, ∃ t f, W.heap[p.1]? = some (.cells p.2 t f) := by
  intro p hp
  unfold tabZ at hp
  obtain rfl := List.mem_singleton.1 hp
  rw [MakeChecks.laidMetH_plain _ _ _ (by kernel_rfl)] at hx
  have h1 := laidMet.tail (laidMet.tail (hx))
  exact heap_of_tabIs (k := .u64) (zs := Lib.pow10Tab) (g := 1) (by kernel_rfl) (Lib.tabIs_of_head (P := Tryz.prog) (k := .u64) (zs := Lib.pow10Tab) (g := 1) (t := 282) (e := 206) (n := 20) (by kernel_rfl) (by kernel_rfl) (by kernel_rfl) (by kernel_rfl) (by kernel_rfl) (by kernel_rfl) h1)
 exact law_post Tryz.params4 (tB := 4) (by kernel_rfl) Tryz.underlying22 Tryz.underlying3 (by kernel_rfl) Tryz.underlying4 rfl (fun _ => rfl) deedsAgree_call htab hval hW

set_option maxRecDepth 100000 in
theorem deedsAgree_row : Rows.DeedsAgreeSaid :=
 OpenClaim.holds_of_wide 4 Tryz.f4 rfl rfl rfl rfl rfl rfl rfl ⟨rfl, rfl, rfl, rfl, rfl⟩ rfl rfl rfl rfl rfl (by kernel_rfl) Tryz.func4 (facts_of deedsAgree_h1 p_h2 p_h3 deedsAgree_h4 deedsAgree_h5 deedsAgree_h6 p_h7 deedsAgree_h8 p_h9 deedsAgree_h10 deedsAgree_h11 deedsAgree_h12 deedsAgree_h13 deedsAgree_h14 deedsAgree_h15 deedsAgree_h16 deedsAgree_h17 deedsAgree_h18 deedsAgree_h19 deedsAgree_h20 deedsAgree_h21 deedsAgree_h22 p_h23 deedsAgree_h24 p_h25 p_h26 deedsAgree_h27 deedsAgree_h28 deedsAgree_h29 deedsAgree_h30 deedsAgree_h31 deedsAgree_h32)
  (of_decide_eq_true (by kernel_rfl)) (by unfold Func.isWrapper; first | (rw [if_pos (by decide +kernel)]; kernel_rfl) | (rw [if_neg (by decide +kernel)]; exact ⟨rfl, rfl⟩))
  (fun os started H enc _ => deedsAgree_lifted os started H enc)
set_option maxRecDepth 100000 in
theorem deedsAgree_holds : Rows.DeedsAgreeCardSaid :=
 Claim7.holds_tied_plain_at .later [] [.data, .data, .data, .data, .sentinel, .sentinel, .pinned] true (true, "cd3ca018c32de34647e38f3432754c502830ec14d31a1b5aec5f3224688c36b0") true deedsAgree_row (fun _ h => by cases h) (by kernel_rfl) (fun _ h => by cases h) deedsAgree_row_tie rfl ⟨rfl, rfl⟩ pMain rfl
  (fun f fn hf hfn => by
   obtain rfl : f = 4 := Option.some.inj ((show Tryz.prog.funcNamed Rows.deedsAgreeRow.func = some 4 by kernel_rfl).symm.trans hf) |>.symm
   obtain rfl : fn = Tryz.f4 := (Option.some.inj (Tryz.func4.symm.trans hfn)).symm
   exact ⟨pLooks, fun j t ht => by
    rw [Tryz.params4] at ht
    have hm : t ∈ [22] := by simpa using Array.mem_of_getElem? ht
    have hall : ([22].all fun u => !Tryz.prog.wantsStandIn u) = true := by kernel_rfl
    exact (show Tryz.prog.wantsStandIn t = false by simpa using List.all_eq_true.1 hall t hm)⟩)
  deedsAgree_goes
#print axioms deedsAgree_holds
end Go.Proofs.YtchcbaapbinpbaaGreatDoor
