/-
 What is proved here: whatever numbers pileup's law SpotsAgree is called at, it answers true, and the slice reads as before. Conditions: those of the given card alone (the listed variables as the program's text lays them).
-/
import Derived.Test.YtchcbaapbinpbaaGreatDoorTie
import Derived.Test.YtchcbaapbinpbaaGreatDoorCards
import Derived.Test.YtchcbaapbinpbaaGreatDoorMJ
import Derived.Test.YtchcbaapbinpbaaGreatDoorMG
import Derived.Stop.LaidErr
import Derived.Test.YtchcbaapbinpbaaGreatDoorMF
set_option linter.all false
namespace Go.Proofs.YtchcbaapbinpbaaGreatDoor
open Go Go.AL Go.ChangeShapes Go.WideShapes Go.ChangeAt Go.RowKit

theorem spotsAgree_call (rows : List (List G)) : ACallX Tryz.prog 3 [.listF [.int .i64] rows] [] (.lit (.bool true)) [] := SYtchcbaapbinpbaaGreatDoor.c_k2_SpotsAgree [.l rows] [.t true] (SYtchcbaapbinpbaaGreatDoor.spotsAgree_data rows)
theorem spotsAgree_h1 : (Rows.spotsAgreeRow.wf (OpenSpec.ofChange Rows.spotsAgreeSpec)) = true := by kernel_rfl
theorem spotsAgree_h4 : (Tryz.f3.params.all (Tryz.pinned.checked.prog.readableRec ·)) = true := by kernel_rfl
theorem spotsAgree_h5 : (namedTie Tryz.pinned.checked.prog Rows.spotsAgreeRow.named Rows.spotsAgreeSpec.vars) = true := by kernel_rfl
theorem spotsAgree_h6 : ((Rows.spotsAgreeRow.stops == [])) = true := by kernel_rfl
theorem spotsAgree_h8 : ((Rows.spotsAgreeRow.knobs == [])) = true := by kernel_rfl
theorem spotsAgree_h10 : ((Rows.spotsAgreeRow.inPlace == Tryz.pinned.checked.prog.inPlace 3)) = true := by kernel_rfl
theorem spotsAgree_h11 : ((Rows.spotsAgreeRow.unfollowed == Tryz.pinned.checked.prog.unfollowed 3)) = true := by kernel_rfl
theorem spotsAgree_h12 : ((Rows.spotsAgreeRow.recurses == Tryz.pinned.checked.prog.recurses 3)) = true := by kernel_rfl
theorem spotsAgree_h13 : ((Rows.spotsAgreeRow.named == Tryz.pinned.checked.prog.varsNamed 3)) = true := by kernel_rfl
theorem spotsAgree_h14 : ((Rows.spotsAgreeRow.maps == (Tryz.f3.params.toList ++ Rows.spotsAgreeSpec.plain.varTypes Tryz.pinned.checked.prog).any (Tryz.pinned.checked.prog.mapsRec ·))) = true := by kernel_rfl
theorem spotsAgree_h15 : ((Rows.spotsAgreeRow.ifaces == (Tryz.f3.params.toList ++ Rows.spotsAgreeSpec.plain.varTypes Tryz.pinned.checked.prog).any (Tryz.pinned.checked.prog.ifacesRec ·))) = true := by kernel_rfl
theorem spotsAgree_h16 : ((Rows.spotsAgreeRow.mapsOut == Tryz.pinned.checked.prog.mapsAmong Tryz.f3.resultTypes.toList)) = true := by kernel_rfl
theorem spotsAgree_h17 : ((Rows.spotsAgreeRow.loops == (Tryz.f3.params.toList ++ Rows.spotsAgreeSpec.plain.varTypes Tryz.pinned.checked.prog).any (Tryz.pinned.checked.prog.loopsFrom ·))) = true := by kernel_rfl
theorem spotsAgree_h18 : ((Rows.spotsAgreeRow.wideKeys == (Tryz.f3.params.toList ++ Rows.spotsAgreeSpec.plain.varTypes Tryz.pinned.checked.prog ++ Tryz.f3.resultTypes.toList).any (Tryz.pinned.checked.prog.wideKeysFrom ·))) = true := by kernel_rfl
theorem spotsAgree_h19 : (Rows.spotsAgreeSpec.vars.all (Tryz.pinned.checked.prog.varReadable ·)) = true := by kernel_rfl
theorem spotsAgree_h20 : (Tryz.f3.resultTypes.all (fun t => Tryz.pinned.checked.prog.readableRec t && decide (t < Tryz.pinned.checked.prog.types.size))) = true := by kernel_rfl
theorem spotsAgree_h21 : ((Rows.spotsAgreeRow.ifacesOut == Tryz.f3.resultTypes.toList.any (Tryz.pinned.checked.prog.ifacesRec ·))) = true := by kernel_rfl
theorem spotsAgree_h22 : ((Rows.spotsAgreeRow.loopsOut == Tryz.f3.resultTypes.toList.any (Tryz.pinned.checked.prog.loopsFrom ·))) = true := by kernel_rfl
theorem spotsAgree_h24 : (Rows.spotsAgreeRow.shortTexts.isNone) = true := by kernel_rfl
theorem spotsAgree_h27 : ((Rows.spotsAgreeRow.lifted == Tryz.pinned.checked.prog.liftsFinal)) = true := by kernel_rfl
theorem spotsAgree_h28 : ((Tryz.pinned.checked.prog.make == some Rows.spotsAgreeRow.make)) = true := by kernel_rfl
theorem spotsAgree_h29 : ((Rows.spotsAgreeRow.kinds == (if Rows.spotsAgreeRow.domain.isEmpty then [] else Tryz.f3.params.toList.map fun t => match Tryz.pinned.checked.prog.underlying t with | some (.int k) => some k | _ => none))) = true := by kernel_rfl
theorem spotsAgree_h30 : ((Rows.spotsAgreeRow.pinned == Rows.spotsAgreeRow.pinnedBy)) = true := by kernel_rfl
theorem spotsAgree_h31 : ((Rows.spotsAgreeRow.veiled == (Tryz.f3.params.toList ++ Rows.spotsAgreeSpec.plain.varTypes Tryz.pinned.checked.prog ++ Tryz.f3.resultTypes.toList).any (Tryz.pinned.checked.prog.veiledRec ·))) = true := by kernel_rfl
theorem spotsAgree_h32 : (Rows.spotsAgreeRow.veiledFits Tryz.pinned.checked.prog Tryz.f3.params.toList (Tryz.f3.params.toList ++ Rows.spotsAgreeSpec.plain.varTypes Tryz.pinned.checked.prog ++ Tryz.f3.resultTypes.toList)) = true := by kernel_rfl
theorem spotsAgree_goes : false = Rows.spotsAgreeRow.goesBy Tryz.pinned.checked.prog := by kernel_rfl

set_option maxRecDepth 100000 in
theorem spotsAgree_lifted (os : Os) (started : os.Started) (H : Type) (enc : TypeId × Value → H) :
  ReturnsInHanded {} Tryz.checked os 3 .any (fun w args => (Rows.spotsAgreeSpec.pre enc Tryz.prog Tryz.f3 Rows.spotsAgreeRow.domain false w args ∧ laidMetH Tryz.prog Rows.spotsAgreeRow.laid w) ∧ sizedMet enc Tryz.prog Tryz.f3 (OpenSpec.ofChange Rows.spotsAgreeSpec) false w args)
   (Rows.spotsAgreeSpec.post enc Tryz.prog Tryz.f3 false true false false) := by
 refine returnsInHanded_of_change_and (C := Tryz.checked) (X := fun w _ => laidMetH Tryz.prog Rows.spotsAgreeRow.laid w) (fun _ _ _ hh h => h.of_heap hh) ownOf started (by kernel_rfl) Tryz.func3
  (ChangeSpec.witness_shaped (enc := enc) (C := Tryz.checked) (os := os) (X := fun w _ => laidMetH Tryz.prog Rows.spotsAgreeRow.laid w) false (World.laidAll Tryz.prog os Rows.spotsAgreeRow.laid) #[.slice none 0 0] 8 (World.laidAll_os _ _ _)
   (World.shaped_of_ZipB (by kernel_rfl) (by kernel_rfl)) (by kernel_rfl) (by kernel_rfl) (by kernel_rfl)
   (by rw [MakeChecks.laidMetH_plain _ _ _ (by kernel_rfl)]; exact laidMet_laidAll _ (by kernel_rfl) (by kernel_rfl))) ?_
 intro W base args ds gs before hval hW _ _ hx _
 have htab : ∀ p ∈ tabZ, ∃ t f, W.heap[p.1]? = some (.cells p.2 t f) := by
  intro p hp
  unfold tabZ at hp
  obtain rfl := List.mem_singleton.1 hp
  rw [MakeChecks.laidMetH_plain _ _ _ (by kernel_rfl)] at hx
  have h1 := laidMet.tail (laidMet.tail (hx))
  exact heap_of_tabIs (k := .u64) (zs := Lib.pow10Tab) (g := 1) (by kernel_rfl) (Lib.tabIs_of_head (P := Tryz.prog) (k := .u64) (zs := Lib.pow10Tab) (g := 1) (t := 282) (e := 206) (n := 20) (by kernel_rfl) (by kernel_rfl) (by kernel_rfl) (by kernel_rfl) (by kernel_rfl) (by kernel_rfl) h1)
 exact law_post Tryz.params3 (tB := 4) (by kernel_rfl) Tryz.underlying22 Tryz.underlying3 (by kernel_rfl) Tryz.underlying4 rfl (fun _ => rfl) spotsAgree_call htab hval hW

set_option maxRecDepth 100000 in
theorem spotsAgree_row : Rows.SpotsAgreeSaid :=
 OpenClaim.holds_of_wide 3 Tryz.f3 rfl rfl rfl rfl rfl rfl rfl ⟨rfl, rfl, rfl, rfl, rfl⟩ rfl rfl rfl rfl rfl (by kernel_rfl) Tryz.func3 (facts_of spotsAgree_h1 p_h2 p_h3 spotsAgree_h4 spotsAgree_h5 spotsAgree_h6 p_h7 spotsAgree_h8 p_h9 spotsAgree_h10 spotsAgree_h11 spotsAgree_h12 spotsAgree_h13 spotsAgree_h14 spotsAgree_h15 spotsAgree_h16 spotsAgree_h17 spotsAgree_h18 spotsAgree_h19 spotsAgree_h20 spotsAgree_h21 spotsAgree_h22 p_h23 spotsAgree_h24 p_h25 p_h26 spotsAgree_h27 spotsAgree_h28 spotsAgree_h29 spotsAgree_h30 spotsAgree_h31 spotsAgree_h32)
  (of_decide_eq_true (by kernel_rfl)) (by unfold Func.isWrapper; first | (rw [if_pos (by decide +kernel)]; kernel_rfl) | (rw [if_neg (by decide +kernel)]; exact ⟨rfl, rfl⟩))
  (fun os started H enc _ => spotsAgree_lifted os started H enc)
set_option maxRecDepth 100000 in
theorem spotsAgree_holds : Rows.SpotsAgreeCardSaid :=
 Claim7.holds_tied_plain_at .later [] [.data, .data, .data, .data, .sentinel, .sentinel, .pinned] true (true, "cd3ca018c32de34647e38f3432754c502830ec14d31a1b5aec5f3224688c36b0") true spotsAgree_row (fun _ h => by cases h) (by kernel_rfl) (fun _ h => by cases h) spotsAgree_row_tie rfl ⟨rfl, rfl⟩ pMain rfl
  (fun f fn hf hfn => by
   obtain rfl : f = 3 := Option.some.inj ((show Tryz.prog.funcNamed Rows.spotsAgreeRow.func = some 3 by kernel_rfl).symm.trans hf) |>.symm
   obtain rfl : fn = Tryz.f3 := (Option.some.inj (Tryz.func3.symm.trans hfn)).symm
   exact ⟨pLooks, fun j t ht => by
    rw [Tryz.params3] at ht
    have hm : t ∈ [22] := by simpa using Array.mem_of_getElem? ht
    have hall : ([22].all fun u => !Tryz.prog.wantsStandIn u) = true := by kernel_rfl
    exact (show Tryz.prog.wantsStandIn t = false by simpa using List.all_eq_true.1 hall t hm)⟩)
  spotsAgree_goes
#print axioms spotsAgree_holds
end Go.Proofs.YtchcbaapbinpbaaGreatDoor
