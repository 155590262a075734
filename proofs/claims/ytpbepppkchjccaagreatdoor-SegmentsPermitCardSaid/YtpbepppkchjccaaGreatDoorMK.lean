/-
  What is proved here: whatever numbers pileup's law SegmentsPermit is called at, it answers true, and the slice reads as before. Conditions: those of the given card alone (the listed variables as the program's text lays them).
-/
import Derived.Test.YtpbepppkchjccaaGreatDoorTie
import Derived.Test.YtpbepppkchjccaaGreatDoorCards
import Derived.Test.YtpbepppkchjccaaGreatDoorMJ
import Derived.Test.YtpbepppkchjccaaGreatDoorMF
set_option linter.unusedSimpArgs false
set_option linter.unusedVariables false
set_option linter.unusedSectionVars false
namespace Go.Proofs.YtpbepppkchjccaaGreatDoor
open Go Go.AL Go.ChangeShapes Go.WideShapes Go.ChangeAt Go.RowKit

theorem segmentsPermit_call (rows : List (List G)) : ACallX Tryz.prog 4 [.listF [.int .i64] rows] [] (.lit (.bool true)) [] := SYtpbepppkchjccaaGreatDoor.c_pilelaw2_SegmentsPermit [.l rows] [.t true] (SYtpbepppkchjccaaGreatDoor.segmentsPermit_data rows)
theorem segmentsPermit_h1 : (Rows.segmentsPermitRow.wf (OpenSpec.ofChange Rows.segmentsPermitSpec)) = true := by kernel_rfl
theorem segmentsPermit_h4 : (Tryz.f4.params.all (Tryz.pinned.checked.prog.readableRec ·)) = true := by kernel_rfl
theorem segmentsPermit_h5 : (namedTie Tryz.pinned.checked.prog Rows.segmentsPermitRow.named Rows.segmentsPermitSpec.vars) = true := by kernel_rfl
theorem segmentsPermit_h6 : ((Rows.segmentsPermitRow.stops == [])) = true := by kernel_rfl
theorem segmentsPermit_h8 : ((Rows.segmentsPermitRow.knobs == [])) = true := by kernel_rfl
theorem segmentsPermit_h10 : ((Rows.segmentsPermitRow.inPlace == Tryz.pinned.checked.prog.inPlace 4)) = true := by kernel_rfl
theorem segmentsPermit_h11 : ((Rows.segmentsPermitRow.unfollowed == Tryz.pinned.checked.prog.unfollowed 4)) = true := by kernel_rfl
theorem segmentsPermit_h12 : ((Rows.segmentsPermitRow.recurses == Tryz.pinned.checked.prog.recurses 4)) = true := by kernel_rfl
theorem segmentsPermit_h13 : ((Rows.segmentsPermitRow.named == Tryz.pinned.checked.prog.varsNamed 4)) = true := by kernel_rfl
theorem segmentsPermit_h14 : ((Rows.segmentsPermitRow.maps == (Tryz.f4.params.toList ++ Rows.segmentsPermitSpec.plain.varTypes Tryz.pinned.checked.prog).any (Tryz.pinned.checked.prog.mapsRec ·))) = true := by kernel_rfl
theorem segmentsPermit_h15 : ((Rows.segmentsPermitRow.ifaces == (Tryz.f4.params.toList ++ Rows.segmentsPermitSpec.plain.varTypes Tryz.pinned.checked.prog).any (Tryz.pinned.checked.prog.ifacesRec ·))) = true := by kernel_rfl
theorem segmentsPermit_h16 : ((Rows.segmentsPermitRow.mapsOut == Tryz.pinned.checked.prog.mapsAmong Tryz.f4.resultTypes.toList)) = true := by kernel_rfl
theorem segmentsPermit_h17 : ((Rows.segmentsPermitRow.loops == (Tryz.f4.params.toList ++ Rows.segmentsPermitSpec.plain.varTypes Tryz.pinned.checked.prog).any (Tryz.pinned.checked.prog.loopsFrom ·))) = true := by kernel_rfl
theorem segmentsPermit_h18 : ((Rows.segmentsPermitRow.wideKeys == (Tryz.f4.params.toList ++ Rows.segmentsPermitSpec.plain.varTypes Tryz.pinned.checked.prog ++ Tryz.f4.resultTypes.toList).any (Tryz.pinned.checked.prog.wideKeysFrom ·))) = true := by kernel_rfl
theorem segmentsPermit_h19 : (Rows.segmentsPermitSpec.vars.all (Tryz.pinned.checked.prog.varReadable ·)) = true := by kernel_rfl
theorem segmentsPermit_h20 : (Tryz.f4.resultTypes.all (fun t => Tryz.pinned.checked.prog.readableRec t && decide (t < Tryz.pinned.checked.prog.types.size))) = true := by kernel_rfl
theorem segmentsPermit_h21 : ((Rows.segmentsPermitRow.ifacesOut == Tryz.f4.resultTypes.toList.any (Tryz.pinned.checked.prog.ifacesRec ·))) = true := by kernel_rfl
theorem segmentsPermit_h22 : ((Rows.segmentsPermitRow.loopsOut == Tryz.f4.resultTypes.toList.any (Tryz.pinned.checked.prog.loopsFrom ·))) = true := by kernel_rfl
theorem segmentsPermit_h24 : (Rows.segmentsPermitRow.shortTexts.isNone) = true := by kernel_rfl
theorem segmentsPermit_h27 : ((Rows.segmentsPermitRow.lifted == Tryz.pinned.checked.prog.liftsFinal)) = true := by kernel_rfl
theorem segmentsPermit_h28 : ((Tryz.pinned.checked.prog.make == some Rows.segmentsPermitRow.make)) = true := by kernel_rfl
theorem segmentsPermit_h29 : ((Rows.segmentsPermitRow.kinds == (if Rows.segmentsPermitRow.domain.isEmpty then [] else Tryz.f4.params.toList.map fun t => match Tryz.pinned.checked.prog.underlying t with | some (.int k) => some k | _ => none))) = true := by kernel_rfl
theorem segmentsPermit_h30 : ((Rows.segmentsPermitRow.pinned == Rows.segmentsPermitRow.pinnedBy)) = true := by kernel_rfl
theorem segmentsPermit_h31 : ((Rows.segmentsPermitRow.veiled == (Tryz.f4.params.toList ++ Rows.segmentsPermitSpec.plain.varTypes Tryz.pinned.checked.prog ++ Tryz.f4.resultTypes.toList).any (Tryz.pinned.checked.prog.veiledRec ·))) = true := by kernel_rfl
theorem segmentsPermit_h32 : (Rows.segmentsPermitRow.veiledFits Tryz.pinned.checked.prog Tryz.f4.params.toList (Tryz.f4.params.toList ++ Rows.segmentsPermitSpec.plain.varTypes Tryz.pinned.checked.prog ++ Tryz.f4.resultTypes.toList)) = true := by kernel_rfl
theorem segmentsPermit_goes : false = Rows.segmentsPermitRow.goesBy Tryz.pinned.checked.prog := by kernel_rfl

set_option maxRecDepth 100000 in
theorem segmentsPermit_lifted (os : Os) (started : os.Started) (H : Type) (enc : TypeId × Value → H) :
    ReturnsInHanded {} Tryz.checked os 4 .any (fun w args => (Rows.segmentsPermitSpec.pre enc Tryz.prog Tryz.f4 Rows.segmentsPermitRow.domain false w args ∧ laidMetH Tryz.prog Rows.segmentsPermitRow.laid w) ∧ sizedMet enc Tryz.prog Tryz.f4 (OpenSpec.ofChange Rows.segmentsPermitSpec) false w args)
      (Rows.segmentsPermitSpec.post enc Tryz.prog Tryz.f4 false true false false) := by
  refine returnsInHanded_of_change_and (C := Tryz.checked) (X := fun w _ => laidMetH Tryz.prog Rows.segmentsPermitRow.laid w) (fun _ _ _ hh h => h.of_heap hh) ownOf started (by kernel_rfl) Tryz.func4
    (ChangeSpec.witness_shaped (enc := enc) (C := Tryz.checked) (os := os) (X := fun w _ => laidMetH Tryz.prog Rows.segmentsPermitRow.laid w) false (World.laidAll Tryz.prog os Rows.segmentsPermitRow.laid) #[.slice none 0 0] 8 (World.laidAll_os _ _ _)
      (World.shaped_of_ZipB (by kernel_rfl) (by kernel_rfl)) (by kernel_rfl) (by kernel_rfl) (by kernel_rfl)
      (by rw [MakeChecks.laidMetH_plain _ _ _ (by kernel_rfl)]; exact laidMet_laidAll _ (by kernel_rfl) (by kernel_rfl))) ?_
  intro W base args ds gs before hval hW _ _ hx _
  have htab : ∀ p ∈ tabZ, ∃ t f, W.heap[p.1]? = some (.cells p.2 t f) := by
    intro p hp
    unfold tabZ at hp
    cases hp
  exact law_post Tryz.params4 (tB := 4) (by kernel_rfl) Tryz.underlying22 Tryz.underlying3 (by kernel_rfl) Tryz.underlying4 rfl (fun _ => rfl) segmentsPermit_call htab hval hW

set_option maxRecDepth 100000 in
theorem segmentsPermit_row : Rows.SegmentsPermitSaid :=
  OpenClaim.holds_of_wide 4 Tryz.f4 rfl rfl rfl rfl rfl rfl rfl ⟨rfl, rfl, rfl, rfl, rfl⟩ rfl rfl rfl rfl rfl (by kernel_rfl) Tryz.func4 (facts_of segmentsPermit_h1 p_h2 p_h3 segmentsPermit_h4 segmentsPermit_h5 segmentsPermit_h6 p_h7 segmentsPermit_h8 p_h9 segmentsPermit_h10 segmentsPermit_h11 segmentsPermit_h12 segmentsPermit_h13 segmentsPermit_h14 segmentsPermit_h15 segmentsPermit_h16 segmentsPermit_h17 segmentsPermit_h18 segmentsPermit_h19 segmentsPermit_h20 segmentsPermit_h21 segmentsPermit_h22 p_h23 segmentsPermit_h24 p_h25 p_h26 segmentsPermit_h27 segmentsPermit_h28 segmentsPermit_h29 segmentsPermit_h30 segmentsPermit_h31 segmentsPermit_h32)
    (of_decide_eq_true (by kernel_rfl)) (by unfold Func.isWrapper; first | (rw [if_pos (by decide +kernel)]; kernel_rfl) | (rw [if_neg (by decide +kernel)]; exact ⟨rfl, rfl⟩))
    (fun os started H enc _ => segmentsPermit_lifted os started H enc)
set_option maxRecDepth 100000 in
theorem segmentsPermit_holds : Rows.SegmentsPermitCardSaid :=
  Claim7.holds_tied_plain_at .later [] [.data, .pinned] true (true, "439a06d9cbcad5050832829ae58aca0304a881c53f546dab3b9e3d4560f46f37") false segmentsPermit_row (fun _ h => by cases h) (by kernel_rfl) (fun _ h => by cases h) segmentsPermit_row_tie rfl ⟨rfl, rfl⟩ pMain rfl
    (fun f fn hf hfn => by
      obtain rfl : f = 4 := Option.some.inj ((show Tryz.prog.funcNamed Rows.segmentsPermitRow.func = some 4 by kernel_rfl).symm.trans hf) |>.symm
      obtain rfl : fn = Tryz.f4 := (Option.some.inj (Tryz.func4.symm.trans hfn)).symm
      exact ⟨pLooks, fun j t ht => by
        rw [Tryz.params4] at ht
        have hm : t ∈ [22] := by simpa using Array.mem_of_getElem? ht
        have hall : ([22].all fun u => !Tryz.prog.wantsStandIn u) = true := by kernel_rfl
        exact (show Tryz.prog.wantsStandIn t = false by simpa using List.all_eq_true.1 hall t hm)⟩)
    segmentsPermit_goes
#print axioms segmentsPermit_holds
end Go.Proofs.YtpbepppkchjccaaGreatDoor
