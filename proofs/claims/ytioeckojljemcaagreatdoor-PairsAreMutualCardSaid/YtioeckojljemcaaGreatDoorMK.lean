/-
 What is proved here: whatever numbers pileup's law PairsAreMutual is called at,it answers true,and the slice reads as before. Conditions: those of the given card alone (the listed variables as the program's text lays them).
-/
import Derived.Test.YtioeckojljemcaaGreatDoorTie
import Derived.Test.YtioeckojljemcaaGreatDoorCards
import Derived.Test.YtioeckojljemcaaGreatDoorMJ
import Derived.Test.YtioeckojljemcaaGreatDoorMF
set_option linter.all false
namespace Go.Proofs.YtioeckojljemcaaGreatDoor
open Go Go.AL Go.ChangeShapes Go.WideShapes Go.ChangeAt Go.RowKit

theorem pairsAreMutual_call (rows:List (List G)):ACallX Tryz.prog 3 [.listF [.int .i64] rows] [] (.lit (.bool true)) []:=SYtioeckojljemcaaGreatDoor.c_k2_PairsAreMutual [.l rows] [.t true] (SYtioeckojljemcaaGreatDoor.pairsAreMutual_data rows)
theorem pairsAreMutual_h1:(Rows.pairsAreMutualRow.wf (OpenSpec.ofChange Rows.pairsAreMutualSpec))=true:=by kernel_rfl
theorem pairsAreMutual_h4:(Tryz.f3.params.all (Tryz.pinned.checked.prog.readableRec ·))=true:=by kernel_rfl
theorem pairsAreMutual_h5:(namedTie Tryz.pinned.checked.prog Rows.pairsAreMutualRow.named Rows.pairsAreMutualSpec.vars)=true:=by kernel_rfl
theorem pairsAreMutual_h6:((Rows.pairsAreMutualRow.stops==[]))=true:=by kernel_rfl
theorem pairsAreMutual_h8:((Rows.pairsAreMutualRow.knobs==[]))=true:=by kernel_rfl
theorem pairsAreMutual_h10:((Rows.pairsAreMutualRow.inPlace==Tryz.pinned.checked.prog.inPlace 3))=true:=by kernel_rfl
theorem pairsAreMutual_h11:((Rows.pairsAreMutualRow.unfollowed==Tryz.pinned.checked.prog.unfollowed 3))=true:=by kernel_rfl
theorem pairsAreMutual_h12:((Rows.pairsAreMutualRow.recurses==Tryz.pinned.checked.prog.recurses 3))=true:=by kernel_rfl
theorem pairsAreMutual_h13:((Rows.pairsAreMutualRow.named==Tryz.pinned.checked.prog.varsNamed 3))=true:=by kernel_rfl
theorem pairsAreMutual_h14:((Rows.pairsAreMutualRow.maps==(Tryz.f3.params.toList++Rows.pairsAreMutualSpec.plain.varTypes Tryz.pinned.checked.prog).any (Tryz.pinned.checked.prog.mapsRec ·)))=true:=by kernel_rfl
theorem pairsAreMutual_h15:((Rows.pairsAreMutualRow.ifaces==(Tryz.f3.params.toList++Rows.pairsAreMutualSpec.plain.varTypes Tryz.pinned.checked.prog).any (Tryz.pinned.checked.prog.ifacesRec ·)))=true:=by kernel_rfl
theorem pairsAreMutual_h16:((Rows.pairsAreMutualRow.mapsOut==Tryz.pinned.checked.prog.mapsAmong Tryz.f3.resultTypes.toList))=true:=by kernel_rfl
theorem pairsAreMutual_h17:((Rows.pairsAreMutualRow.loops==(Tryz.f3.params.toList++Rows.pairsAreMutualSpec.plain.varTypes Tryz.pinned.checked.prog).any (Tryz.pinned.checked.prog.loopsFrom ·)))=true:=by kernel_rfl
theorem pairsAreMutual_h18:((Rows.pairsAreMutualRow.wideKeys==(Tryz.f3.params.toList++Rows.pairsAreMutualSpec.plain.varTypes Tryz.pinned.checked.prog++Tryz.f3.resultTypes.toList).any (Tryz.pinned.checked.prog.wideKeysFrom ·)))=true:=by kernel_rfl
theorem pairsAreMutual_h19:(Rows.pairsAreMutualSpec.vars.all (Tryz.pinned.checked.prog.varReadable ·))=true:=by kernel_rfl
theorem pairsAreMutual_h20:(Tryz.f3.resultTypes.all (fun t=>Tryz.pinned.checked.prog.readableRec t&&decide (t<Tryz.pinned.checked.prog.types.size)))=true:=by kernel_rfl
theorem pairsAreMutual_h21:((Rows.pairsAreMutualRow.ifacesOut==Tryz.f3.resultTypes.toList.any (Tryz.pinned.checked.prog.ifacesRec ·)))=true:=by kernel_rfl
theorem pairsAreMutual_h22:((Rows.pairsAreMutualRow.loopsOut==Tryz.f3.resultTypes.toList.any (Tryz.pinned.checked.prog.loopsFrom ·)))=true:=by kernel_rfl
theorem pairsAreMutual_h24:(Rows.pairsAreMutualRow.shortTexts.isNone)=true:=by kernel_rfl
theorem pairsAreMutual_h27:((Rows.pairsAreMutualRow.lifted==Tryz.pinned.checked.prog.liftsFinal))=true:=by kernel_rfl
theorem pairsAreMutual_h28:((Tryz.pinned.checked.prog.make==some Rows.pairsAreMutualRow.make))=true:=by kernel_rfl
theorem pairsAreMutual_h29:((Rows.pairsAreMutualRow.kinds==(if Rows.pairsAreMutualRow.domain.isEmpty then [] else Tryz.f3.params.toList.map fun t=>match Tryz.pinned.checked.prog.underlying t with | some (.int k)=>some k | _=>none)))=true:=by kernel_rfl
theorem pairsAreMutual_h30:((Rows.pairsAreMutualRow.pinned==Rows.pairsAreMutualRow.pinnedBy))=true:=by kernel_rfl
theorem pairsAreMutual_h31:((Rows.pairsAreMutualRow.veiled==(Tryz.f3.params.toList++Rows.pairsAreMutualSpec.plain.varTypes Tryz.pinned.checked.prog++Tryz.f3.resultTypes.toList).any (Tryz.pinned.checked.prog.veiledRec ·)))=true:=by kernel_rfl
theorem pairsAreMutual_h32:(Rows.pairsAreMutualRow.veiledFits Tryz.pinned.checked.prog Tryz.f3.params.toList (Tryz.f3.params.toList++Rows.pairsAreMutualSpec.plain.varTypes Tryz.pinned.checked.prog++Tryz.f3.resultTypes.toList))=true:=by kernel_rfl
theorem pairsAreMutual_goes:false=Rows.pairsAreMutualRow.goesBy Tryz.pinned.checked.prog:=by kernel_rfl

set_option maxRecDepth 100000 in
theorem pairsAreMutual_lifted (os:Os) (started:os.Started) (H:Type) (enc:TypeId × Value→H) :
  ReturnsInHanded {} Tryz.checked os 3 .any (fun w args=>(Rows.pairsAreMutualSpec.pre enc Tryz.prog Tryz.f3 Rows.pairsAreMutualRow.domain false w args∧laidMetH Tryz.prog Rows.pairsAreMutualRow.laid w)∧sizedMet enc Tryz.prog Tryz.f3 (OpenSpec.ofChange Rows.pairsAreMutualSpec) false w args)
   (Rows.pairsAreMutualSpec.post enc Tryz.prog Tryz.f3 false true false false):=by
 refine returnsInHanded_of_change_and (C:=Tryz.checked) (X:=fun w _=>laidMetH Tryz.prog Rows.pairsAreMutualRow.laid w) (fun _ _ _ hh h=>h.of_heap hh) ownOf started (by kernel_rfl) Tryz.func3
  (ChangeSpec.witness_shaped (enc := enc) (C := Tryz.checked) (os := os) (X := fun w _ => laidMetH Tryz.prog Rows.pairsAreMutualRow.laid w) false (World.laidAll Tryz.prog os Rows.pairsAreMutualRow.laid) #[.slice none 0 0] 8 (World.laidAll_os _ _ _)
   (World.shaped_of_ZipB (by kernel_rfl) (by kernel_rfl)) (by kernel_rfl) (by kernel_rfl) (by kernel_rfl)
   (by rw [MakeChecks.laidMetH_plain _ _ _ (by kernel_rfl)]; exact laidMet_laidAll _ (by kernel_rfl) (by kernel_rfl))) ?_
 intro W base args ds gs before hval hW _ _ hx _
 have htab:∀ p∈tabZ,∃ t f,W.heap[p.1]? = some (.cells p.2 t f):=by
  intro p hp
  unfold tabZ at hp
  cases hp
 exact law_post Tryz.params3 (tB:=4) (by kernel_rfl) Tryz.underlying22 Tryz.underlying3 (by kernel_rfl) Tryz.underlying4 rfl (fun _=>rfl) pairsAreMutual_call htab hval hW

set_option maxRecDepth 100000 in
theorem pairsAreMutual_row:Rows.PairsAreMutualSaid :=
 OpenClaim.holds_of_wide 3 Tryz.f3 rfl rfl rfl rfl rfl rfl rfl ⟨rfl,rfl,rfl,rfl,rfl⟩ rfl rfl rfl rfl rfl (by kernel_rfl) Tryz.func3 (facts_of pairsAreMutual_h1 p_h2 p_h3 pairsAreMutual_h4 pairsAreMutual_h5 pairsAreMutual_h6 p_h7 pairsAreMutual_h8 p_h9 pairsAreMutual_h10 pairsAreMutual_h11 pairsAreMutual_h12 pairsAreMutual_h13 pairsAreMutual_h14 pairsAreMutual_h15 pairsAreMutual_h16 pairsAreMutual_h17 pairsAreMutual_h18 pairsAreMutual_h19 pairsAreMutual_h20 pairsAreMutual_h21 pairsAreMutual_h22 p_h23 pairsAreMutual_h24 p_h25 p_h26 pairsAreMutual_h27 pairsAreMutual_h28 pairsAreMutual_h29 pairsAreMutual_h30 pairsAreMutual_h31 pairsAreMutual_h32)
  (of_decide_eq_true (by kernel_rfl)) (by unfold Func.isWrapper; first | (rw [if_pos (by decide +kernel)]; kernel_rfl) | (rw [if_neg (by decide +kernel)]; exact ⟨rfl,rfl⟩))
  (fun os started H enc _=>pairsAreMutual_lifted os started H enc)
set_option maxRecDepth 100000 in
theorem pairsAreMutual_holds:Rows.PairsAreMutualCardSaid :=
 Claim7.holds_tied_plain_at .later [] [.data,.pinned] true (true, "2e19ae75a5f050f8737e742ef15732679ab540ee6f64f97ac9f184ac86554ced") false pairsAreMutual_row (fun _ h=>by cases h) (by kernel_rfl) (fun _ h=>by cases h) pairsAreMutual_row_tie rfl ⟨rfl,rfl⟩ pMain rfl
  (fun f fn hf hfn => by
   obtain rfl:f=3:=Option.some.inj ((show Tryz.prog.funcNamed Rows.pairsAreMutualRow.func=some 3 by kernel_rfl).symm.trans hf) |>.symm
   obtain rfl:fn=Tryz.f3:=(Option.some.inj (Tryz.func3.symm.trans hfn)).symm
   exact ⟨pLooks,fun j t ht=>by
    rw [Tryz.params3] at ht
    have hm:t∈[22]:=by simpa using Array.mem_of_getElem? ht
    have hall:([22].all fun u => !Tryz.prog.wantsStandIn u)=true:=by kernel_rfl
    exact (show Tryz.prog.wantsStandIn t=false by simpa using List.all_eq_true.1 hall t hm)⟩)
  pairsAreMutual_goes
#print axioms pairsAreMutual_holds
end Go.Proofs.YtioeckojljemcaaGreatDoor
