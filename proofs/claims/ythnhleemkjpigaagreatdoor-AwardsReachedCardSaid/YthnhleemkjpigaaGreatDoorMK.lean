/-
  What is proved here: whatever numbers pileup's law AwardsReached is called at, it answers true, and the slice reads as before. Conditions: those of the given card alone (the listed variables as the program's text lays them).
-/
import Derived.Test.YthnhleemkjpigaaGreatDoorTie
import Derived.Test.YthnhleemkjpigaaGreatDoorCards
import Derived.Test.YthnhleemkjpigaaGreatDoorMJ
import Derived.Test.YthnhleemkjpigaaGreatDoorMG
import Derived.Stop.LaidErr
import Derived.Test.YthnhleemkjpigaaGreatDoorMF
set_option linter.unusedSimpArgs false
set_option linter.unusedVariables false
set_option linter.unusedSectionVars false
namespace Go.Proofs.YthnhleemkjpigaaGreatDoor
open Go Go.AL Go.ChangeShapes Go.WideShapes Go.ChangeAt Go.RowKit

theorem awardsReached_call (rows : List (List G)) : ACallX Tryz.prog 6 [.listF [.int .i64] rows] [] (.lit (.bool true)) [] := SYthnhleemkjpigaaGreatDoor.c_pilelaw2_AwardsReached [.l rows] [.t true] (SYthnhleemkjpigaaGreatDoor.awardsReached_data rows)
theorem awardsReached_h1 : (Rows.awardsReachedRow.wf (OpenSpec.ofChange Rows.awardsReachedSpec)) = true := by kernel_rfl
theorem awardsReached_h4 : (Tryz.f6.params.all (Tryz.pinned.checked.prog.readableRec ·)) = true := by kernel_rfl
theorem awardsReached_h5 : (namedTie Tryz.pinned.checked.prog Rows.awardsReachedRow.named Rows.awardsReachedSpec.vars) = true := by kernel_rfl
theorem awardsReached_h6 : ((Rows.awardsReachedRow.stops == [])) = true := by kernel_rfl
theorem awardsReached_h8 : ((Rows.awardsReachedRow.knobs == [])) = true := by kernel_rfl
theorem awardsReached_h10 : ((Rows.awardsReachedRow.inPlace == Tryz.pinned.checked.prog.inPlace 6)) = true := by kernel_rfl
theorem awardsReached_h11 : ((Rows.awardsReachedRow.unfollowed == Tryz.pinned.checked.prog.unfollowed 6)) = true := by kernel_rfl
theorem awardsReached_h12 : ((Rows.awardsReachedRow.recurses == Tryz.pinned.checked.prog.recurses 6)) = true := by kernel_rfl
theorem awardsReached_h13 : ((Rows.awardsReachedRow.named == Tryz.pinned.checked.prog.varsNamed 6)) = true := by kernel_rfl
theorem awardsReached_h14 : ((Rows.awardsReachedRow.maps == (Tryz.f6.params.toList ++ Rows.awardsReachedSpec.plain.varTypes Tryz.pinned.checked.prog).any (Tryz.pinned.checked.prog.mapsRec ·))) = true := by kernel_rfl
theorem awardsReached_h15 : ((Rows.awardsReachedRow.ifaces == (Tryz.f6.params.toList ++ Rows.awardsReachedSpec.plain.varTypes Tryz.pinned.checked.prog).any (Tryz.pinned.checked.prog.ifacesRec ·))) = true := by kernel_rfl
theorem awardsReached_h16 : ((Rows.awardsReachedRow.mapsOut == Tryz.pinned.checked.prog.mapsAmong Tryz.f6.resultTypes.toList)) = true := by kernel_rfl
theorem awardsReached_h17 : ((Rows.awardsReachedRow.loops == (Tryz.f6.params.toList ++ Rows.awardsReachedSpec.plain.varTypes Tryz.pinned.checked.prog).any (Tryz.pinned.checked.prog.loopsFrom ·))) = true := by kernel_rfl
theorem awardsReached_h18 : ((Rows.awardsReachedRow.wideKeys == (Tryz.f6.params.toList ++ Rows.awardsReachedSpec.plain.varTypes Tryz.pinned.checked.prog ++ Tryz.f6.resultTypes.toList).any (Tryz.pinned.checked.prog.wideKeysFrom ·))) = true := by kernel_rfl
theorem awardsReached_h19 : (Rows.awardsReachedSpec.vars.all (Tryz.pinned.checked.prog.varReadable ·)) = true := by kernel_rfl
theorem awardsReached_h20 : (Tryz.f6.resultTypes.all (fun t => Tryz.pinned.checked.prog.readableRec t && decide (t < Tryz.pinned.checked.prog.types.size))) = true := by kernel_rfl
theorem awardsReached_h21 : ((Rows.awardsReachedRow.ifacesOut == Tryz.f6.resultTypes.toList.any (Tryz.pinned.checked.prog.ifacesRec ·))) = true := by kernel_rfl
theorem awardsReached_h22 : ((Rows.awardsReachedRow.loopsOut == Tryz.f6.resultTypes.toList.any (Tryz.pinned.checked.prog.loopsFrom ·))) = true := by kernel_rfl
theorem awardsReached_h24 : (Rows.awardsReachedRow.shortTexts.isNone) = true := by kernel_rfl
theorem awardsReached_h27 : ((Rows.awardsReachedRow.lifted == Tryz.pinned.checked.prog.liftsFinal)) = true := by kernel_rfl
theorem awardsReached_h28 : ((Tryz.pinned.checked.prog.make == some Rows.awardsReachedRow.make)) = true := by kernel_rfl
theorem awardsReached_h29 : ((Rows.awardsReachedRow.kinds == (if Rows.awardsReachedRow.domain.isEmpty then [] else Tryz.f6.params.toList.map fun t => match Tryz.pinned.checked.prog.underlying t with | some (.int k) => some k | _ => none))) = true := by kernel_rfl
theorem awardsReached_h30 : ((Rows.awardsReachedRow.pinned == Rows.awardsReachedRow.pinnedBy)) = true := by kernel_rfl
theorem awardsReached_h31 : ((Rows.awardsReachedRow.veiled == (Tryz.f6.params.toList ++ Rows.awardsReachedSpec.plain.varTypes Tryz.pinned.checked.prog ++ Tryz.f6.resultTypes.toList).any (Tryz.pinned.checked.prog.veiledRec ·))) = true := by kernel_rfl
theorem awardsReached_h32 : (Rows.awardsReachedRow.veiledFits Tryz.pinned.checked.prog Tryz.f6.params.toList (Tryz.f6.params.toList ++ Rows.awardsReachedSpec.plain.varTypes Tryz.pinned.checked.prog ++ Tryz.f6.resultTypes.toList)) = true := by kernel_rfl
theorem awardsReached_goes : false = Rows.awardsReachedRow.goesBy Tryz.pinned.checked.prog := by kernel_rfl

set_option maxRecDepth 100000 in
theorem awardsReached_lifted (os : Os) (started : os.Started) (H : Type) (enc : TypeId × Value → H) :
    ReturnsInHanded {} Tryz.checked os 6 .any (fun w args => (Rows.awardsReachedSpec.pre enc Tryz.prog Tryz.f6 Rows.awardsReachedRow.domain false w args ∧ laidMetH Tryz.prog Rows.awardsReachedRow.laid w) ∧ sizedMet enc Tryz.prog Tryz.f6 (OpenSpec.ofChange Rows.awardsReachedSpec) false w args)
      (Rows.awardsReachedSpec.post enc Tryz.prog Tryz.f6 false true false false) := by
  refine returnsInHanded_of_change_and (C := Tryz.checked) (X := fun w _ => laidMetH Tryz.prog Rows.awardsReachedRow.laid w) (fun _ _ _ hh h => h.of_heap hh) ownOf started (by kernel_rfl) Tryz.func6
    (ChangeSpec.witness_shaped (enc := enc) (C := Tryz.checked) (os := os) (X := fun w _ => laidMetH Tryz.prog Rows.awardsReachedRow.laid w) false (World.laidAll Tryz.prog os Rows.awardsReachedRow.laid) #[.slice none 0 0] 8 (World.laidAll_os _ _ _)
      (World.shaped_of_ZipB (by kernel_rfl) (by kernel_rfl)) (by kernel_rfl) (by kernel_rfl) (by kernel_rfl)
      (by rw [MakeChecks.laidMetH_plain _ _ _ (by kernel_rfl)]; exact laidMet_laidAll _ (by kernel_rfl) (by kernel_rfl))) ?_
  intro W base args ds gs before hval hW _ _ hx _
  have htab : ∀ p ∈ tabZ, ∃ t f, W.heap[p.1]? = some (.cells p.2 t f) := by
    intro p hp
    unfold tabZ at hp
    obtain rfl := List.mem_singleton.1 hp
    rw [MakeChecks.laidMetH_plain _ _ _ (by kernel_rfl)] at hx
    have h1 := laidMet.tail (laidMet.tail (hx))
    exact heap_of_tabIs (k := .u64) (zs := Lib.pow10Tab) (g := 1) (by kernel_rfl) (Lib.tabIs_of_head (P := Tryz.prog) (k := .u64) (zs := Lib.pow10Tab) (g := 1) (t := 287) (e := 198) (n := 20) (by kernel_rfl) (by kernel_rfl) (by kernel_rfl) (by kernel_rfl) (by kernel_rfl) (by kernel_rfl) h1)
  exact law_post Tryz.params6 (tB := 4) (by kernel_rfl) Tryz.underlying22 Tryz.underlying3 (by kernel_rfl) Tryz.underlying4 rfl (fun _ => rfl) awardsReached_call htab hval hW

set_option maxRecDepth 100000 in
theorem awardsReached_row : Rows.AwardsReachedSaid :=
  OpenClaim.holds_of_wide 6 Tryz.f6 rfl rfl rfl rfl rfl rfl rfl ⟨rfl, rfl, rfl, rfl, rfl⟩ rfl rfl rfl rfl rfl (by kernel_rfl) Tryz.func6 (facts_of awardsReached_h1 p_h2 p_h3 awardsReached_h4 awardsReached_h5 awardsReached_h6 p_h7 awardsReached_h8 p_h9 awardsReached_h10 awardsReached_h11 awardsReached_h12 awardsReached_h13 awardsReached_h14 awardsReached_h15 awardsReached_h16 awardsReached_h17 awardsReached_h18 awardsReached_h19 awardsReached_h20 awardsReached_h21 awardsReached_h22 p_h23 awardsReached_h24 p_h25 p_h26 awardsReached_h27 awardsReached_h28 awardsReached_h29 awardsReached_h30 awardsReached_h31 awardsReached_h32)
    (of_decide_eq_true (by kernel_rfl)) (by unfold Func.isWrapper; first | (rw [if_pos (by decide +kernel)]; kernel_rfl) | (rw [if_neg (by decide +kernel)]; exact ⟨rfl, rfl⟩))
    (fun os started H enc _ => awardsReached_lifted os started H enc)
set_option maxRecDepth 100000 in
theorem awardsReached_holds : Rows.AwardsReachedCardSaid :=
  Claim7.holds_tied_plain_at .later [] [.data, .data, .data, .data, .pinned] true (true, "20b3b9bac6bd2f46df80af48f7459d951cc4bbc53917a483e47da6dfd57536be") false awardsReached_row (fun _ h => by cases h) (by kernel_rfl) (fun _ h => by cases h) awardsReached_row_tie rfl ⟨rfl, rfl⟩ pMain rfl
    (fun f fn hf hfn => by
      obtain rfl : f = 6 := Option.some.inj ((show Tryz.prog.funcNamed Rows.awardsReachedRow.func = some 6 by kernel_rfl).symm.trans hf) |>.symm
      obtain rfl : fn = Tryz.f6 := (Option.some.inj (Tryz.func6.symm.trans hfn)).symm
      exact ⟨pLooks, fun j t ht => by
        rw [Tryz.params6] at ht
        have hm : t ∈ [22] := by simpa using Array.mem_of_getElem? ht
        have hall : ([22].all fun u => !Tryz.prog.wantsStandIn u) = true := by kernel_rfl
        exact (show Tryz.prog.wantsStandIn t = false by simpa using List.all_eq_true.1 hall t hm)⟩)
    awardsReached_goes
#print axioms awardsReached_holds
end Go.Proofs.YthnhleemkjpigaaGreatDoor
