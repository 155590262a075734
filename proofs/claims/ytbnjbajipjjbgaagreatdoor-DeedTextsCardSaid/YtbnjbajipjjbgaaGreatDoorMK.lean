/-
 What is proved here: whatever numbers pileup's law DeedTexts is called at,it answers true,and the slice reads as before. Conditions: those of the given card alone (the listed variables as the program's text lays them).
-/
import Derived.Test.YtbnjbajipjjbgaaGreatDoorTie
import Derived.Test.YtbnjbajipjjbgaaGreatDoorCards
import Derived.Test.YtbnjbajipjjbgaaGreatDoorMJ
import Derived.Test.YtbnjbajipjjbgaaGreatDoorMG
import Derived.Stop.LaidErr
import Derived.Test.YtbnjbajipjjbgaaGreatDoorMS
set_option linter.all false
namespace Go.Proofs.YtbnjbajipjjbgaaGreatDoor
open Go Go.AL Go.ChangeShapes Go.WideShapes Go.ChangeAt Go.RowKit

theorem deedTexts_call (rows:List (List G)):ACallX Tryz.prog 3 [.listF [.int .i64] rows] [] (.lit (.bool true)) []:=SYtbnjbajipjjbgaaGreatDoor.c_l2_DeedTexts [.l rows] [.t true] (SYtbnjbajipjjbgaaGreatDoor.deedTexts_data rows)
theorem deedTexts_h1:(Rows.deedTextsRow.wf (OpenSpec.ofChange Rows.deedTextsSpec))=true:=by kernel_rfl
theorem deedTexts_h4:(Tryz.f3.params.all (Tryz.pinned.checked.prog.readableRec ·))=true:=by kernel_rfl
theorem deedTexts_h5:(namedTie Tryz.pinned.checked.prog Rows.deedTextsRow.named Rows.deedTextsSpec.vars)=true:=by kernel_rfl
theorem deedTexts_h6:((Rows.deedTextsRow.stops==[]))=true:=by kernel_rfl
theorem deedTexts_h8:((Rows.deedTextsRow.knobs==[]))=true:=by kernel_rfl
theorem deedTexts_h10:((Rows.deedTextsRow.inPlace==Tryz.pinned.checked.prog.inPlace 3))=true:=by kernel_rfl
theorem deedTexts_h11:((Rows.deedTextsRow.unfollowed==Tryz.pinned.checked.prog.unfollowed 3))=true:=by kernel_rfl
theorem deedTexts_h12:((Rows.deedTextsRow.recurses==Tryz.pinned.checked.prog.recurses 3))=true:=by kernel_rfl
theorem deedTexts_h13:((Rows.deedTextsRow.named==Tryz.pinned.checked.prog.varsNamed 3))=true:=by kernel_rfl
theorem deedTexts_h14:((Rows.deedTextsRow.maps==(Tryz.f3.params.toList++Rows.deedTextsSpec.plain.varTypes Tryz.pinned.checked.prog).any (Tryz.pinned.checked.prog.mapsRec ·)))=true:=by kernel_rfl
theorem deedTexts_h15:((Rows.deedTextsRow.ifaces==(Tryz.f3.params.toList++Rows.deedTextsSpec.plain.varTypes Tryz.pinned.checked.prog).any (Tryz.pinned.checked.prog.ifacesRec ·)))=true:=by kernel_rfl
theorem deedTexts_h16:((Rows.deedTextsRow.mapsOut==Tryz.pinned.checked.prog.mapsAmong Tryz.f3.resultTypes.toList))=true:=by kernel_rfl
theorem deedTexts_h17:((Rows.deedTextsRow.loops==(Tryz.f3.params.toList++Rows.deedTextsSpec.plain.varTypes Tryz.pinned.checked.prog).any (Tryz.pinned.checked.prog.loopsFrom ·)))=true:=by kernel_rfl
theorem deedTexts_h18:((Rows.deedTextsRow.wideKeys==(Tryz.f3.params.toList++Rows.deedTextsSpec.plain.varTypes Tryz.pinned.checked.prog++Tryz.f3.resultTypes.toList).any (Tryz.pinned.checked.prog.wideKeysFrom ·)))=true:=by kernel_rfl
theorem deedTexts_h19:(Rows.deedTextsSpec.vars.all (Tryz.pinned.checked.prog.varReadable ·))=true:=by kernel_rfl
theorem deedTexts_h20:(Tryz.f3.resultTypes.all (fun t=>Tryz.pinned.checked.prog.readableRec t&&decide (t<Tryz.pinned.checked.prog.types.size)))=true:=by kernel_rfl
theorem deedTexts_h21:((Rows.deedTextsRow.ifacesOut==Tryz.f3.resultTypes.toList.any (Tryz.pinned.checked.prog.ifacesRec ·)))=true:=by kernel_rfl
theorem deedTexts_h22:((Rows.deedTextsRow.loopsOut==Tryz.f3.resultTypes.toList.any (Tryz.pinned.checked.prog.loopsFrom ·)))=true:=by kernel_rfl
theorem deedTexts_h24:(Rows.deedTextsRow.shortTexts.isNone)=true:=by kernel_rfl
theorem deedTexts_h27:((Rows.deedTextsRow.lifted==Tryz.pinned.checked.prog.liftsFinal))=true:=by kernel_rfl
theorem deedTexts_h28:((Tryz.pinned.checked.prog.make==some Rows.deedTextsRow.make))=true:=by kernel_rfl
theorem deedTexts_h29:((Rows.deedTextsRow.kinds==(if Rows.deedTextsRow.domain.isEmpty then [] else Tryz.f3.params.toList.map fun t=>match Tryz.pinned.checked.prog.underlying t with | some (.int k)=>some k | _=>none)))=true:=by kernel_rfl
theorem deedTexts_h30:((Rows.deedTextsRow.pinned==Rows.deedTextsRow.pinnedBy))=true:=by kernel_rfl
theorem deedTexts_h31:((Rows.deedTextsRow.veiled==(Tryz.f3.params.toList++Rows.deedTextsSpec.plain.varTypes Tryz.pinned.checked.prog++Tryz.f3.resultTypes.toList).any (Tryz.pinned.checked.prog.veiledRec ·)))=true:=by kernel_rfl
theorem deedTexts_h32:(Rows.deedTextsRow.veiledFits Tryz.pinned.checked.prog Tryz.f3.params.toList (Tryz.f3.params.toList++Rows.deedTextsSpec.plain.varTypes Tryz.pinned.checked.prog++Tryz.f3.resultTypes.toList))=true:=by kernel_rfl
theorem deedTexts_goes:false=Rows.deedTextsRow.goesBy Tryz.pinned.checked.prog:=by kernel_rfl

set_option maxRecDepth 100000 in
theorem deedTexts_lifted (os:Os) (started:os.Started) (H:Type) (enc:TypeId × Value→H) :
  ReturnsInHanded {} Tryz.checked os 3 .any (fun w args=>(Rows.deedTextsSpec.pre enc Tryz.prog Tryz.f3 Rows.deedTextsRow.domain false w args∧laidMetH Tryz.prog Rows.deedTextsRow.laid w)∧sizedMet enc Tryz.prog Tryz.f3 (OpenSpec.ofChange Rows.deedTextsSpec) false w args)
   (Rows.deedTextsSpec.post enc Tryz.prog Tryz.f3 false true false false):=by
 refine returnsInHanded_of_change_and (C:=Tryz.checked) (X:=fun w _=>laidMetH Tryz.prog Rows.deedTextsRow.laid w) (fun _ _ _ hh h=>h.of_heap hh) ownOf started (by kernel_rfl) Tryz.func3
  (ChangeSpec.witness_shaped (enc := enc) (C := Tryz.checked) (os := os) (X := fun w _ => laidMetH Tryz.prog Rows.deedTextsRow.laid w) false (World.laidAll Tryz.prog os Rows.deedTextsRow.laid) #[.slice none 0 0] 8 (World.laidAll_os _ _ _)
   (World.shaped_of_ZipB (by kernel_rfl) (by kernel_rfl)) (by kernel_rfl) (by kernel_rfl) (by kernel_rfl)
   (by rw [MakeChecks.laidMetH_plain _ _ _ (by kernel_rfl)]; exact laidMet_laidAll _ (by kernel_rfl) (by kernel_rfl))) ?_
 intro W base args ds gs before hval hW _ _ hx _
 have htab:∀ p∈tabZ,∃ t f,W.heap[p.1]? = some (.cells p.2 t f):=by
  intro p hp
  unfold tabZ at hp
  obtain rfl:=List.mem_singleton.1 hp
  rw [MakeChecks.laidMetH_plain _ _ _ (by kernel_rfl)] at hx
  have h1:=laidMet.tail (laidMet.tail (hx))
  exact heap_of_tabIs (k:=.u64) (zs:=Lib.pow10Tab) (g:=1) (by kernel_rfl) (Lib.tabIs_of_head (P:=Tryz.prog) (k:=.u64) (zs:=Lib.pow10Tab) (g:=1) (t:=159) (e:=128) (n:=20) (by kernel_rfl) (by kernel_rfl) (by kernel_rfl) (by kernel_rfl) (by kernel_rfl) (by kernel_rfl) h1)
 exact law_post Tryz.params3 (tB:=4) (by kernel_rfl) Tryz.underlying22 Tryz.underlying3 (by kernel_rfl) Tryz.underlying4 rfl (fun _=>rfl) deedTexts_call htab hval hW

set_option maxRecDepth 100000 in
theorem deedTexts_row:Rows.DeedTextsSaid :=
 OpenClaim.holds_of_wide 3 Tryz.f3 rfl rfl rfl rfl rfl rfl rfl ⟨rfl,rfl,rfl,rfl,rfl⟩ rfl rfl rfl rfl rfl (by kernel_rfl) Tryz.func3 (facts_of deedTexts_h1 p_h2 p_h3 deedTexts_h4 deedTexts_h5 deedTexts_h6 p_h7 deedTexts_h8 p_h9 deedTexts_h10 deedTexts_h11 deedTexts_h12 deedTexts_h13 deedTexts_h14 deedTexts_h15 deedTexts_h16 deedTexts_h17 deedTexts_h18 deedTexts_h19 deedTexts_h20 deedTexts_h21 deedTexts_h22 p_h23 deedTexts_h24 p_h25 p_h26 deedTexts_h27 deedTexts_h28 deedTexts_h29 deedTexts_h30 deedTexts_h31 deedTexts_h32)
  (of_decide_eq_true (by kernel_rfl)) (by unfold Func.isWrapper; first | (rw [if_pos (by decide +kernel)]; kernel_rfl) | (rw [if_neg (by decide +kernel)]; exact ⟨rfl,rfl⟩))
  (fun os started H enc _=>deedTexts_lifted os started H enc)
set_option maxRecDepth 100000 in
theorem deedTexts_holds:Rows.DeedTextsCardSaid :=
 Claim7.holds_tied_plain_at .later [] [.data,.data,.data,.data,.sentinel,.sentinel,.pinned] true (true, "60c042aec05a4adc8249d4209d9ad326d9098a3aaa3b5dc74b52ee896e636e15") true deedTexts_row (fun _ h=>by cases h) (by kernel_rfl) (fun _ h=>by cases h) deedTexts_row_tie rfl ⟨rfl,rfl⟩ pMain rfl
  (fun f fn hf hfn => by
   obtain rfl:f=3:=Option.some.inj ((show Tryz.prog.funcNamed Rows.deedTextsRow.func=some 3 by kernel_rfl).symm.trans hf) |>.symm
   obtain rfl:fn=Tryz.f3:=(Option.some.inj (Tryz.func3.symm.trans hfn)).symm
   exact ⟨pLooks,fun j t ht=>by
    rw [Tryz.params3] at ht
    have hm:t∈[22]:=by simpa using Array.mem_of_getElem? ht
    have hall:([22].all fun u => !Tryz.prog.wantsStandIn u)=true:=by kernel_rfl
    exact (show Tryz.prog.wantsStandIn t=false by simpa using List.all_eq_true.1 hall t hm)⟩)
  deedTexts_goes
#print axioms deedTexts_holds
end Go.Proofs.YtbnjbajipjjbgaaGreatDoor
