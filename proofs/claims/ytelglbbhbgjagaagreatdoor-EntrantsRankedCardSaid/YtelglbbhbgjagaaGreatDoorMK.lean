/-
 What is proved here: whatever numbers pileup's law EntrantsRanked is called at,it answers true,and the slice reads as before. Conditions: those of the given card alone (the listed variables as the program's text lays them).
-/
import Derived.Test.YtelglbbhbgjagaaGreatDoorTie
import Derived.Test.YtelglbbhbgjagaaGreatDoorCards
import Derived.Test.YtelglbbhbgjagaaGreatDoorMJ
import Derived.Test.YtelglbbhbgjagaaGreatDoorMF
set_option linter.all false
namespace Go.Proofs.YtelglbbhbgjagaaGreatDoor
open Go Go.AL Go.ChangeShapes Go.WideShapes Go.ChangeAt Go.RowKit

theorem entrantsRanked_call (rows:List (List G)):ACallX Tryz.prog 3 [.listF [.int .i64] rows] [] (.lit (.bool true)) []:=SYtelglbbhbgjagaaGreatDoor.c_l2_EntrantsRanked [.l rows] [.t true] (SYtelglbbhbgjagaaGreatDoor.entrantsRanked_data rows)
theorem entrantsRanked_h1:(Rows.entrantsRankedRow.wf (OpenSpec.ofChange Rows.entrantsRankedSpec))=true:=by kernel_rfl
theorem entrantsRanked_h4:(Tryz.f3.params.all (Tryz.pinned.checked.prog.readableRec ·))=true:=by kernel_rfl
theorem entrantsRanked_h5:(namedTie Tryz.pinned.checked.prog Rows.entrantsRankedRow.named Rows.entrantsRankedSpec.vars)=true:=by kernel_rfl
theorem entrantsRanked_h6:((Rows.entrantsRankedRow.stops==[]))=true:=by kernel_rfl
theorem entrantsRanked_h8:((Rows.entrantsRankedRow.knobs==[]))=true:=by kernel_rfl
theorem entrantsRanked_h10:((Rows.entrantsRankedRow.inPlace==Tryz.pinned.checked.prog.inPlace 3))=true:=by kernel_rfl
theorem entrantsRanked_h11:((Rows.entrantsRankedRow.unfollowed==Tryz.pinned.checked.prog.unfollowed 3))=true:=by kernel_rfl
theorem entrantsRanked_h12:((Rows.entrantsRankedRow.recurses==Tryz.pinned.checked.prog.recurses 3))=true:=by kernel_rfl
theorem entrantsRanked_h13:((Rows.entrantsRankedRow.named==Tryz.pinned.checked.prog.varsNamed 3))=true:=by kernel_rfl
theorem entrantsRanked_h14:((Rows.entrantsRankedRow.maps==(Tryz.f3.params.toList++Rows.entrantsRankedSpec.plain.varTypes Tryz.pinned.checked.prog).any (Tryz.pinned.checked.prog.mapsRec ·)))=true:=by kernel_rfl
theorem entrantsRanked_h15:((Rows.entrantsRankedRow.ifaces==(Tryz.f3.params.toList++Rows.entrantsRankedSpec.plain.varTypes Tryz.pinned.checked.prog).any (Tryz.pinned.checked.prog.ifacesRec ·)))=true:=by kernel_rfl
theorem entrantsRanked_h16:((Rows.entrantsRankedRow.mapsOut==Tryz.pinned.checked.prog.mapsAmong Tryz.f3.resultTypes.toList))=true:=by kernel_rfl
theorem entrantsRanked_h17:((Rows.entrantsRankedRow.loops==(Tryz.f3.params.toList++Rows.entrantsRankedSpec.plain.varTypes Tryz.pinned.checked.prog).any (Tryz.pinned.checked.prog.loopsFrom ·)))=true:=by kernel_rfl
theorem entrantsRanked_h18:((Rows.entrantsRankedRow.wideKeys==(Tryz.f3.params.toList++Rows.entrantsRankedSpec.plain.varTypes Tryz.pinned.checked.prog++Tryz.f3.resultTypes.toList).any (Tryz.pinned.checked.prog.wideKeysFrom ·)))=true:=by kernel_rfl
theorem entrantsRanked_h19:(Rows.entrantsRankedSpec.vars.all (Tryz.pinned.checked.prog.varReadable ·))=true:=by kernel_rfl
theorem entrantsRanked_h20:(Tryz.f3.resultTypes.all (fun t=>Tryz.pinned.checked.prog.readableRec t&&decide (t<Tryz.pinned.checked.prog.types.size)))=true:=by kernel_rfl
theorem entrantsRanked_h21:((Rows.entrantsRankedRow.ifacesOut==Tryz.f3.resultTypes.toList.any (Tryz.pinned.checked.prog.ifacesRec ·)))=true:=by kernel_rfl
theorem entrantsRanked_h22:((Rows.entrantsRankedRow.loopsOut==Tryz.f3.resultTypes.toList.any (Tryz.pinned.checked.prog.loopsFrom ·)))=true:=by kernel_rfl
theorem entrantsRanked_h24:(Rows.entrantsRankedRow.shortTexts.isNone)=true:=by kernel_rfl
theorem entrantsRanked_h27:((Rows.entrantsRankedRow.lifted==Tryz.pinned.checked.prog.liftsFinal))=true:=by kernel_rfl
theorem entrantsRanked_h28:((Tryz.pinned.checked.prog.make==some Rows.entrantsRankedRow.make))=true:=by kernel_rfl
theorem entrantsRanked_h29:((Rows.entrantsRankedRow.kinds==(if Rows.entrantsRankedRow.domain.isEmpty then [] else Tryz.f3.params.toList.map fun t=>match Tryz.pinned.checked.prog.underlying t with | some (.int k)=>some k | _=>none)))=true:=by kernel_rfl
theorem entrantsRanked_h30:((Rows.entrantsRankedRow.pinned==Rows.entrantsRankedRow.pinnedBy))=true:=by kernel_rfl
theorem entrantsRanked_h31:((Rows.entrantsRankedRow.veiled==(Tryz.f3.params.toList++Rows.entrantsRankedSpec.plain.varTypes Tryz.pinned.checked.prog++Tryz.f3.resultTypes.toList).any (Tryz.pinned.checked.prog.veiledRec ·)))=true:=by kernel_rfl
theorem entrantsRanked_h32:(Rows.entrantsRankedRow.veiledFits Tryz.pinned.checked.prog Tryz.f3.params.toList (Tryz.f3.params.toList++Rows.entrantsRankedSpec.plain.varTypes Tryz.pinned.checked.prog++Tryz.f3.resultTypes.toList))=true:=by kernel_rfl
theorem entrantsRanked_goes:false=Rows.entrantsRankedRow.goesBy Tryz.pinned.checked.prog:=by kernel_rfl

set_option maxRecDepth 100000 in
theorem entrantsRanked_lifted (os:Os) (started:os.Started) (H:Type) (enc:TypeId × Value→H) :
  ReturnsInHanded {} Tryz.checked os 3 .any (fun w args=>(Rows.entrantsRankedSpec.pre enc Tryz.prog Tryz.f3 Rows.entrantsRankedRow.domain false w args∧laidMetH Tryz.prog Rows.entrantsRankedRow.laid w)∧sizedMet enc Tryz.prog Tryz.f3 (OpenSpec.ofChange Rows.entrantsRankedSpec) false w args)
   (Rows.entrantsRankedSpec.post enc Tryz.prog Tryz.f3 false true false false):=by
 refine returnsInHanded_of_change_and (C:=Tryz.checked) (X:=fun w _=>laidMetH Tryz.prog Rows.entrantsRankedRow.laid w) (fun _ _ _ hh h=>h.of_heap hh) ownOf started (by kernel_rfl) Tryz.func3
  (ChangeSpec.witness_shaped (enc := enc) (C := Tryz.checked) (os := os) (X := fun w _ => laidMetH Tryz.prog Rows.entrantsRankedRow.laid w) false (World.laidAll Tryz.prog os Rows.entrantsRankedRow.laid) #[.slice none 0 0] 8 (World.laidAll_os _ _ _)
   (World.shaped_of_ZipB (by kernel_rfl) (by kernel_rfl)) (by kernel_rfl) (by kernel_rfl) (by kernel_rfl)
   (by rw [MakeChecks.laidMetH_plain _ _ _ (by kernel_rfl)]; exact laidMet_laidAll _ (by kernel_rfl) (by kernel_rfl))) ?_
 intro W base args ds gs before hval hW _ _ hx _
 have htab:∀ p∈tabZ,∃ t f,W.heap[p.1]? = some (.cells p.2 t f):=by
  intro p hp
  unfold tabZ at hp
  cases hp
 exact law_post Tryz.params3 (tB:=4) (by kernel_rfl) Tryz.underlying22 Tryz.underlying3 (by kernel_rfl) Tryz.underlying4 rfl (fun _=>rfl) entrantsRanked_call htab hval hW

set_option maxRecDepth 100000 in
theorem entrantsRanked_row:Rows.EntrantsRankedSaid :=
 OpenClaim.holds_of_wide 3 Tryz.f3 rfl rfl rfl rfl rfl rfl rfl ⟨rfl,rfl,rfl,rfl,rfl⟩ rfl rfl rfl rfl rfl (by kernel_rfl) Tryz.func3 (facts_of entrantsRanked_h1 p_h2 p_h3 entrantsRanked_h4 entrantsRanked_h5 entrantsRanked_h6 p_h7 entrantsRanked_h8 p_h9 entrantsRanked_h10 entrantsRanked_h11 entrantsRanked_h12 entrantsRanked_h13 entrantsRanked_h14 entrantsRanked_h15 entrantsRanked_h16 entrantsRanked_h17 entrantsRanked_h18 entrantsRanked_h19 entrantsRanked_h20 entrantsRanked_h21 entrantsRanked_h22 p_h23 entrantsRanked_h24 p_h25 p_h26 entrantsRanked_h27 entrantsRanked_h28 entrantsRanked_h29 entrantsRanked_h30 entrantsRanked_h31 entrantsRanked_h32)
  (of_decide_eq_true (by kernel_rfl)) (by unfold Func.isWrapper; first | (rw [if_pos (by decide +kernel)]; kernel_rfl) | (rw [if_neg (by decide +kernel)]; exact ⟨rfl,rfl⟩))
  (fun os started H enc _=>entrantsRanked_lifted os started H enc)
set_option maxRecDepth 100000 in
theorem entrantsRanked_holds:Rows.EntrantsRankedCardSaid :=
 Claim7.holds_tied_plain_at .later [] [.data,.pinned] true (true, "e39e5fa95b354fe96dd4477aef76d030de05c05166cdaf4f20d1c02c1f5eecef") false entrantsRanked_row (fun _ h=>by cases h) (by kernel_rfl) (fun _ h=>by cases h) entrantsRanked_row_tie rfl ⟨rfl,rfl⟩ pMain rfl
  (fun f fn hf hfn => by
   obtain rfl:f=3:=Option.some.inj ((show Tryz.prog.funcNamed Rows.entrantsRankedRow.func=some 3 by kernel_rfl).symm.trans hf) |>.symm
   obtain rfl:fn=Tryz.f3:=(Option.some.inj (Tryz.func3.symm.trans hfn)).symm
   exact ⟨pLooks,fun j t ht=>by
    rw [Tryz.params3] at ht
    have hm:t∈[22]:=by simpa using Array.mem_of_getElem? ht
    have hall:([22].all fun u => !Tryz.prog.wantsStandIn u)=true:=by kernel_rfl
    exact (show Tryz.prog.wantsStandIn t=false by simpa using List.all_eq_true.1 hall t hm)⟩)
  entrantsRanked_goes
#print axioms entrantsRanked_holds
end Go.Proofs.YtelglbbhbgjagaaGreatDoor
