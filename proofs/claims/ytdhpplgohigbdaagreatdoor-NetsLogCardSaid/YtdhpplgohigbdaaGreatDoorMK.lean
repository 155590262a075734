/-
 What is proved here: whatever numbers pileup's law NetsLog is called at, it answers true, and the slice reads as before. Conditions: those of the given card alone (the listed variables as the program's text lays them).
-/
import Derived.Test.YtdhpplgohigbdaaGreatDoorTie
import Derived.Test.YtdhpplgohigbdaaGreatDoorCards
import Derived.Test.YtdhpplgohigbdaaGreatDoorMJ
import Derived.Test.YtdhpplgohigbdaaGreatDoorMF
set_option linter.all false
namespace Go.Proofs.YtdhpplgohigbdaaGreatDoor
open Go Go.AL Go.ChangeShapes Go.WideShapes Go.ChangeAt Go.RowKit

theorem netsLog_call (rows : List (List G)) : ACallX Tryz.prog 3 [.listF [.int .i64] rows] [] (.lit (.bool true)) [] := SYtdhpplgohigbdaaGreatDoor.c_l2_NetsLog [.l rows] [.t true] (SYtdhpplgohigbdaaGreatDoor.netsLog_data rows)
theorem netsLog_h1 : (Rows.netsLogRow.wf (OpenSpec.ofChange Rows.netsLogSpec)) = true := by kernel_rfl
theorem netsLog_h4 : (Tryz.f3.params.all (Tryz.pinned.checked.prog.readableRec ·)) = true := by kernel_rfl
theorem netsLog_h5 : (namedTie Tryz.pinned.checked.prog Rows.netsLogRow.named Rows.netsLogSpec.vars) = true := by kernel_rfl
theorem netsLog_h6 : ((Rows.netsLogRow.stops == [])) = true := by kernel_rfl
theorem netsLog_h8 : ((Rows.netsLogRow.knobs == [])) = true := by kernel_rfl
theorem netsLog_h10 : ((Rows.netsLogRow.inPlace == Tryz.pinned.checked.prog.inPlace 3)) = true := by kernel_rfl
theorem netsLog_h11 : ((Rows.netsLogRow.unfollowed == Tryz.pinned.checked.prog.unfollowed 3)) = true := by kernel_rfl
theorem netsLog_h12 : ((Rows.netsLogRow.recurses == Tryz.pinned.checked.prog.recurses 3)) = true := by kernel_rfl
theorem netsLog_h13 : ((Rows.netsLogRow.named == Tryz.pinned.checked.prog.varsNamed 3)) = true := by kernel_rfl
theorem netsLog_h14 : ((Rows.netsLogRow.maps == (Tryz.f3.params.toList ++ Rows.netsLogSpec.plain.varTypes Tryz.pinned.checked.prog).any (Tryz.pinned.checked.prog.mapsRec ·))) = true := by kernel_rfl
theorem netsLog_h15 : ((Rows.netsLogRow.ifaces == (Tryz.f3.params.toList ++ Rows.netsLogSpec.plain.varTypes Tryz.pinned.checked.prog).any (Tryz.pinned.checked.prog.ifacesRec ·))) = true := by kernel_rfl
theorem netsLog_h16 : ((Rows.netsLogRow.mapsOut == Tryz.pinned.checked.prog.mapsAmong Tryz.f3.resultTypes.toList)) = true := by kernel_rfl
theorem netsLog_h17 : ((Rows.netsLogRow.loops == (Tryz.f3.params.toList ++ Rows.netsLogSpec.plain.varTypes Tryz.pinned.checked.prog).any (Tryz.pinned.checked.prog.loopsFrom ·))) = true := by kernel_rfl
theorem netsLog_h18 : ((Rows.netsLogRow.wideKeys == (Tryz.f3.params.toList ++ Rows.netsLogSpec.plain.varTypes Tryz.pinned.checked.prog ++ Tryz.f3.resultTypes.toList).any (Tryz.pinned.checked.prog.wideKeysFrom ·))) = true := by kernel_rfl
theorem netsLog_h19 : (Rows.netsLogSpec.vars.all (Tryz.pinned.checked.prog.varReadable ·)) = true := by kernel_rfl
theorem netsLog_h20 : (Tryz.f3.resultTypes.all (fun t => Tryz.pinned.checked.prog.readableRec t && decide (t < Tryz.pinned.checked.prog.types.size))) = true := by kernel_rfl
theorem netsLog_h21 : ((Rows.netsLogRow.ifacesOut == Tryz.f3.resultTypes.toList.any (Tryz.pinned.checked.prog.ifacesRec ·))) = true := by kernel_rfl
theorem netsLog_h22 : ((Rows.netsLogRow.loopsOut == Tryz.f3.resultTypes.toList.any (Tryz.pinned.checked.prog.loopsFrom ·))) = true := by kernel_rfl
theorem netsLog_h24 : (Rows.netsLogRow.shortTexts.isNone) = true := by kernel_rfl
theorem netsLog_h27 : ((Rows.netsLogRow.lifted == Tryz.pinned.checked.prog.liftsFinal)) = true := by kernel_rfl
theorem netsLog_h28 : ((Tryz.pinned.checked.prog.make == some Rows.netsLogRow.make)) = true := by kernel_rfl
theorem netsLog_h29 : ((Rows.netsLogRow.kinds == (if Rows.netsLogRow.domain.isEmpty then [] else Tryz.f3.params.toList.map fun t => match Tryz.pinned.checked.prog.underlying t with | some (.int k) => some k | _ => none))) = true := by kernel_rfl
theorem netsLog_h30 : ((Rows.netsLogRow.pinned == Rows.netsLogRow.pinnedBy)) = true := by kernel_rfl
theorem netsLog_h31 : ((Rows.netsLogRow.veiled == (Tryz.f3.params.toList ++ Rows.netsLogSpec.plain.varTypes Tryz.pinned.checked.prog ++ Tryz.f3.resultTypes.toList).any (Tryz.pinned.checked.prog.veiledRec ·))) = true := by kernel_rfl
theorem netsLog_h32 : (Rows.netsLogRow.veiledFits Tryz.pinned.checked.prog Tryz.f3.params.toList (Tryz.f3.params.toList ++ Rows.netsLogSpec.plain.varTypes Tryz.pinned.checked.prog ++ Tryz.f3.resultTypes.toList)) = true := by kernel_rfl
theorem netsLog_goes : false = Rows.netsLogRow.goesBy Tryz.pinned.checked.prog := by kernel_rfl

set_option maxRecDepth 100000 in
theorem netsLog_lifted (os : Os) (started : os.Started) (H : Type) (enc : TypeId × Value → H) :
  ReturnsInHanded {} Tryz.checked os 3 .any (fun w args => (Rows.netsLogSpec.pre enc Tryz.prog Tryz.f3 Rows.netsLogRow.domain false w args ∧ laidMetH Tryz.prog Rows.netsLogRow.laid w) ∧ sizedMet enc Tryz.prog Tryz.f3 (OpenSpec.ofChange Rows.netsLogSpec) false w args)
   (Rows.netsLogSpec.post enc Tryz.prog Tryz.f3 false true false false) := by
 refine returnsInHanded_of_change_and (C := Tryz.checked) (X := fun w _ => laidMetH Tryz.prog Rows.netsLogRow.laid w) (fun _ _ _ hh h => h.of_heap hh) ownOf started (by kernel_rfl) Tryz.func3
  (ChangeSpec.witness_shaped (enc := enc) (C := Tryz.checked) (os := os) (X := fun w _ => laidMetH Tryz.prog Rows.netsLogRow.laid w) false (World.laidAll Tryz.prog os Rows.netsLogRow.laid) #[.slice none 0 0] 8 (World.laidAll_os _ _ _)
   (World.shaped_of_ZipB (by kernel_rfl) (by kernel_rfl)) (by kernel_rfl) (by kernel_rfl) (by kernel_rfl)
   (by rw [MakeChecks.laidMetH_plain _ _ _ (by kernel_rfl)]; exact laidMet_laidAll _ (by kernel_rfl) (by kernel_rfl))) ?_
 intro W base args ds gs before hval hW _ _ hx _
 have htab : ∀ p ∈ tabZ, ∃ t f, W.heap[p.1]? = some (.cells p.2 t f) := by
  intro p hp
  unfold tabZ at hp
  cases hp
 exact law_post Tryz.params3 (tB := 4) (by kernel_rfl) Tryz.underlying22 Tryz.underlying3 (by kernel_rfl) Tryz.underlying4 rfl (fun _ => rfl) netsLog_call htab hval hW

set_option maxRecDepth 100000 in
theorem netsLog_row : Rows.NetsLogSaid :=
 OpenClaim.holds_of_wide 3 Tryz.f3 rfl rfl rfl rfl rfl rfl rfl ⟨rfl, rfl, rfl, rfl, rfl⟩ rfl rfl rfl rfl rfl (by kernel_rfl) Tryz.func3 (facts_of netsLog_h1 p_h2 p_h3 netsLog_h4 netsLog_h5 netsLog_h6 p_h7 netsLog_h8 p_h9 netsLog_h10 netsLog_h11 netsLog_h12 netsLog_h13 netsLog_h14 netsLog_h15 netsLog_h16 netsLog_h17 netsLog_h18 netsLog_h19 netsLog_h20 netsLog_h21 netsLog_h22 p_h23 netsLog_h24 p_h25 p_h26 netsLog_h27 netsLog_h28 netsLog_h29 netsLog_h30 netsLog_h31 netsLog_h32)
  (of_decide_eq_true (by kernel_rfl)) (by unfold Func.isWrapper; first | (rw [if_pos (by decide +kernel)]; kernel_rfl) | (rw [if_neg (by decide +kernel)]; exact ⟨rfl, rfl⟩))
  (fun os started H enc _ => netsLog_lifted os started H enc)
set_option maxRecDepth 100000 in
theorem netsLog_holds : Rows.NetsLogCardSaid :=
 Claim7.holds_tied_plain_at .later [] [.data, .pinned] true (true, "1250522428f8ba110e92025a14cd57768ff84dd790143f68e1c450a302272855") false netsLog_row (fun _ h => by cases h) (by kernel_rfl) (fun _ h => by cases h) netsLog_row_tie rfl ⟨rfl, rfl⟩ pMain rfl
  (fun f fn hf hfn => by
   obtain rfl : f = 3 := Option.some.inj ((show Tryz.prog.funcNamed Rows.netsLogRow.func = some 3 by kernel_rfl).symm.trans hf) |>.symm
   obtain rfl : fn = Tryz.f3 := (Option.some.inj (Tryz.func3.symm.trans hfn)).symm
   exact ⟨pLooks, fun j t ht => by
    rw [Tryz.params3] at ht
    have hm : t ∈ [22] := by simpa using Array.mem_of_getElem? ht
    have hall : ([22].all fun u => !Tryz.prog.wantsStandIn u) = true := by kernel_rfl
    exact (show Tryz.prog.wantsStandIn t = false by simpa using List.all_eq_true.1 hall t hm)⟩)
  netsLog_goes
#print axioms netsLog_holds
end Go.Proofs.YtdhpplgohigbdaaGreatDoor
