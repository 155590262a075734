/-
 What is proved here: whatever numbers pileup's law BandsStay is called at, it answers true, and the slice reads as before. Conditions: those of the given card alone (the listed variables as the program's text lays them).
-/
import Derived.Test.YthjhjbgilbaknaaGreatDoorTie
import Derived.Test.YthjhjbgilbaknaaGreatDoorCards
import Derived.Test.YthjhjbgilbaknaaGreatDoorMJ
import Derived.Test.YthjhjbgilbaknaaGreatDoorMS
set_option linter.unusedSimpArgs false
set_option linter.unusedVariables false
set_option linter.unusedSectionVars false
namespace Go.Proofs.YthjhjbgilbaknaaGreatDoor
open Go Go.AL Go.ChangeShapes Go.WideShapes Go.ChangeAt Go.RowKit

theorem bandsStay_call (rows : List (List G)) : ACallX Tryz.prog 6 [.listF [.int .i64] rows] [] (.lit (.bool true)) [] := SYthjhjbgilbaknaaGreatDoor.c_k2_BandsStay [.l rows] [.t true] (SYthjhjbgilbaknaaGreatDoor.bandsStay_data rows)
theorem bandsStay_h1 : (Rows.bandsStayRow.wf (OpenSpec.ofChange Rows.bandsStaySpec)) = true := by kernel_rfl
theorem bandsStay_h4 : (Tryz.f6.params.all (Tryz.pinned.checked.prog.readableRec ·)) = true := by kernel_rfl
theorem bandsStay_h5 : (namedTie Tryz.pinned.checked.prog Rows.bandsStayRow.named Rows.bandsStaySpec.vars) = true := by kernel_rfl
theorem bandsStay_h6 : ((Rows.bandsStayRow.stops == [])) = true := by kernel_rfl
theorem bandsStay_h8 : ((Rows.bandsStayRow.knobs == [])) = true := by kernel_rfl
theorem bandsStay_h10 : ((Rows.bandsStayRow.inPlace == Tryz.pinned.checked.prog.inPlace 6)) = true := by kernel_rfl
theorem bandsStay_h11 : ((Rows.bandsStayRow.unfollowed == Tryz.pinned.checked.prog.unfollowed 6)) = true := by kernel_rfl
theorem bandsStay_h12 : ((Rows.bandsStayRow.recurses == Tryz.pinned.checked.prog.recurses 6)) = true := by kernel_rfl
theorem bandsStay_h13 : ((Rows.bandsStayRow.named == Tryz.pinned.checked.prog.varsNamed 6)) = true := by kernel_rfl
theorem bandsStay_h14 : ((Rows.bandsStayRow.maps == (Tryz.f6.params.toList ++ Rows.bandsStaySpec.plain.varTypes Tryz.pinned.checked.prog).any (Tryz.pinned.checked.prog.mapsRec ·))) = true := by kernel_rfl
theorem bandsStay_h15 : ((Rows.bandsStayRow.ifaces == (Tryz.f6.params.toList ++ Rows.bandsStaySpec.plain.varTypes Tryz.pinned.checked.prog).any (Tryz.pinned.checked.prog.ifacesRec ·))) = true := by kernel_rfl
theorem bandsStay_h16 : ((Rows.bandsStayRow.mapsOut == Tryz.pinned.checked.prog.mapsAmong Tryz.f6.resultTypes.toList)) = true := by kernel_rfl
theorem bandsStay_h17 : ((Rows.bandsStayRow.loops == (Tryz.f6.params.toList ++ Rows.bandsStaySpec.plain.varTypes Tryz.pinned.checked.prog).any (Tryz.pinned.checked.prog.loopsFrom ·))) = true := by kernel_rfl
theorem bandsStay_h18 : ((Rows.bandsStayRow.wideKeys == (Tryz.f6.params.toList ++ Rows.bandsStaySpec.plain.varTypes Tryz.pinned.checked.prog ++ Tryz.f6.resultTypes.toList).any (Tryz.pinned.checked.prog.wideKeysFrom ·))) = true := by kernel_rfl
theorem bandsStay_h19 : (Rows.bandsStaySpec.vars.all (Tryz.pinned.checked.prog.varReadable ·)) = true := by kernel_rfl
theorem bandsStay_h20 : (Tryz.f6.resultTypes.all (fun t => Tryz.pinned.checked.prog.readableRec t && decide (t < Tryz.pinned.checked.prog.types.size))) = true := by kernel_rfl
theorem bandsStay_h21 : ((Rows.bandsStayRow.ifacesOut == Tryz.f6.resultTypes.toList.any (Tryz.pinned.checked.prog.ifacesRec ·))) = true := by kernel_rfl
theorem bandsStay_h22 : ((Rows.bandsStayRow.loopsOut == Tryz.f6.resultTypes.toList.any (Tryz.pinned.checked.prog.loopsFrom ·))) = true := by kernel_rfl
theorem bandsStay_h24 : (Rows.bandsStayRow.shortTexts.isNone) = true := by kernel_rfl
theorem bandsStay_h27 : ((Rows.bandsStayRow.lifted == Tryz.pinned.checked.prog.liftsFinal)) = true := by kernel_rfl
theorem bandsStay_h28 : ((Tryz.pinned.checked.prog.make == some Rows.bandsStayRow.make)) = true := by kernel_rfl
theorem bandsStay_h29 : ((Rows.bandsStayRow.kinds == (if Rows.bandsStayRow.domain.isEmpty then [] else Tryz.f6.params.toList.map fun t => match Tryz.pinned.checked.prog.underlying t with | some (.int k) => some k | _ => none))) = true := by kernel_rfl
theorem bandsStay_h30 : ((Rows.bandsStayRow.pinned == Rows.bandsStayRow.pinnedBy)) = true := by kernel_rfl
theorem bandsStay_h31 : ((Rows.bandsStayRow.veiled == (Tryz.f6.params.toList ++ Rows.bandsStaySpec.plain.varTypes Tryz.pinned.checked.prog ++ Tryz.f6.resultTypes.toList).any (Tryz.pinned.checked.prog.veiledRec ·))) = true := by kernel_rfl
theorem bandsStay_h32 : (Rows.bandsStayRow.veiledFits Tryz.pinned.checked.prog Tryz.f6.params.toList (Tryz.f6.params.toList ++ Rows.bandsStaySpec.plain.varTypes Tryz.pinned.checked.prog ++ Tryz.f6.resultTypes.toList)) = true := by kernel_rfl
theorem bandsStay_goes : false = Rows.bandsStayRow.goesBy Tryz.pinned.checked.prog := by kernel_rfl

set_option maxRecDepth 100000 in
theorem bandsStay_lifted (os : Os) (started : os.Started) (H : Type) (enc : TypeId × Value → H) :
  ReturnsInHanded {} Tryz.checked os 6 .any (fun w args => (Rows.bandsStaySpec.pre enc Tryz.prog Tryz.f6 Rows.bandsStayRow.domain false w args ∧ laidMetH Tryz.prog Rows.bandsStayRow.laid w) ∧ sizedMet enc Tryz.prog Tryz.f6 (OpenSpec.ofChange Rows.bandsStaySpec) false w args)
   (Rows.bandsStaySpec.post enc Tryz.prog Tryz.f6 false true false false) := by
 refine returnsInHanded_of_change_and (C := Tryz.checked) (X := fun w _ => laidMetH Tryz.prog Rows.bandsStayRow.laid w) (fun _ _ _ hh h => h.of_heap hh) ownOf started (by kernel_rfl) Tryz.func6
  (ChangeSpec.witness_shaped (enc := enc) (C := Tryz.checked) (os := os) (X := fun w _ => laidMetH Tryz.prog Rows.bandsStayRow.laid w) false (World.laidAll Tryz.prog os Rows.bandsStayRow.laid) #[.slice none 0 0] 8 (World.laidAll_os _ _ _)
   (World.shaped_of_ZipB (by kernel_rfl) (by kernel_rfl)) (by kernel_rfl) (by kernel_rfl) (by kernel_rfl)
   (by rw [MakeChecks.laidMetH_plain _ _ _ (by kernel_rfl)]; exact laidMet_laidAll _ (by kernel_rfl) (by kernel_rfl))) ?_
 intro W base args ds gs before hval hW _ _ hx _
 have htab : ∀ p ∈ tabZ, ∃ t f, W.heap[p.1]? = some (.cells p.2 t f) := by
  intro p hp
  unfold tabZ at hp
  cases hp
 exact law_post Tryz.params6 (tB := 4) (by kernel_rfl) Tryz.underlying22 Tryz.underlying3 (by kernel_rfl) Tryz.underlying4 rfl (fun _ => rfl) bandsStay_call htab hval hW

set_option maxRecDepth 100000 in
theorem bandsStay_row : Rows.BandsStaySaid :=
 OpenClaim.holds_of_wide 6 Tryz.f6 rfl rfl rfl rfl rfl rfl rfl ⟨rfl, rfl, rfl, rfl, rfl⟩ rfl rfl rfl rfl rfl (by kernel_rfl) Tryz.func6 (facts_of bandsStay_h1 p_h2 p_h3 bandsStay_h4 bandsStay_h5 bandsStay_h6 p_h7 bandsStay_h8 p_h9 bandsStay_h10 bandsStay_h11 bandsStay_h12 bandsStay_h13 bandsStay_h14 bandsStay_h15 bandsStay_h16 bandsStay_h17 bandsStay_h18 bandsStay_h19 bandsStay_h20 bandsStay_h21 bandsStay_h22 p_h23 bandsStay_h24 p_h25 p_h26 bandsStay_h27 bandsStay_h28 bandsStay_h29 bandsStay_h30 bandsStay_h31 bandsStay_h32)
  (of_decide_eq_true (by kernel_rfl)) (by unfold Func.isWrapper; first | (rw [if_pos (by decide +kernel)]; kernel_rfl) | (rw [if_neg (by decide +kernel)]; exact ⟨rfl, rfl⟩))
  (fun os started H enc _ => bandsStay_lifted os started H enc)
set_option maxRecDepth 100000 in
theorem bandsStay_holds : Rows.BandsStayCardSaid :=
 Claim7.holds_tied_plain_at .later [] [.data, .pinned] true (true, "228f3384cfe63186613678d7ae7ac0a5700fbac0b998f4c697bc88a402d12d8d") false bandsStay_row (fun _ h => by cases h) (by kernel_rfl) (fun _ h => by cases h) bandsStay_row_tie rfl ⟨rfl, rfl⟩ pMain rfl
  (fun f fn hf hfn => by
   obtain rfl : f = 6 := Option.some.inj ((show Tryz.prog.funcNamed Rows.bandsStayRow.func = some 6 by kernel_rfl).symm.trans hf) |>.symm
   obtain rfl : fn = Tryz.f6 := (Option.some.inj (Tryz.func6.symm.trans hfn)).symm
   exact ⟨pLooks, fun j t ht => by
    rw [Tryz.params6] at ht
    have hm : t ∈ [22] := by simpa using Array.mem_of_getElem? ht
    have hall : ([22].all fun u => !Tryz.prog.wantsStandIn u) = true := by kernel_rfl
    exact (show Tryz.prog.wantsStandIn t = false by simpa using List.all_eq_true.1 hall t hm)⟩)
  bandsStay_goes
#print axioms bandsStay_holds
end Go.Proofs.YthjhjbgilbaknaaGreatDoor
