/-
 What is proved here: whatever numbers pileup's law ClubsStay is called at,it answers true,and the slice reads as before. Conditions: those of the given card alone (the listed variables as the program's text lays them).
-/
import Derived.Test.YtelglbbhbgjagaaGreatDoorTie
import Derived.Test.YtelglbbhbgjagaaGreatDoorCards
import Derived.Test.YtelglbbhbgjagaaGreatDoorMJ
import Derived.Test.YtelglbbhbgjagaaGreatDoorMF
set_option linter.all false
namespace Go.Proofs.YtelglbbhbgjagaaGreatDoor
open Go Go.AL Go.ChangeShapes Go.WideShapes Go.ChangeAt Go.RowKit

theorem clubsStay_call (rows:List (List G)):ACallX Tryz.prog 4 [.listF [.int .i64] rows] [] (.lit (.bool true)) []:=SYtelglbbhbgjagaaGreatDoor.c_k2_ClubsStay [.l rows] [.t true] (SYtelglbbhbgjagaaGreatDoor.clubsStay_data rows)
theorem clubsStay_h1:(Rows.clubsStayRow.wf (OpenSpec.ofChange Rows.clubsStaySpec))=true:=by kernel_rfl
theorem clubsStay_h4:(Tryz.f4.params.all (Tryz.pinned.checked.prog.readableRec ·))=true:=by kernel_rfl
theorem clubsStay_h5:(namedTie Tryz.pinned.checked.prog Rows.clubsStayRow.named Rows.clubsStaySpec.vars)=true:=by kernel_rfl
theorem clubsStay_h6:((Rows.clubsStayRow.stops==[]))=true:=by kernel_rfl
theorem clubsStay_h8:((Rows.clubsStayRow.knobs==[]))=true:=by kernel_rfl
theorem clubsStay_h10:((Rows.clubsStayRow.inPlace==Tryz.pinned.checked.prog.inPlace 4))=true:=by kernel_rfl
theorem clubsStay_h11:((Rows.clubsStayRow.unfollowed==Tryz.pinned.checked.prog.unfollowed 4))=true:=by kernel_rfl
theorem clubsStay_h12:((Rows.clubsStayRow.recurses==Tryz.pinned.checked.prog.recurses 4))=true:=by kernel_rfl
theorem clubsStay_h13:((Rows.clubsStayRow.named==Tryz.pinned.checked.prog.varsNamed 4))=true:=by kernel_rfl
theorem clubsStay_h14:((Rows.clubsStayRow.maps==(Tryz.f4.params.toList++Rows.clubsStaySpec.plain.varTypes Tryz.pinned.checked.prog).any (Tryz.pinned.checked.prog.mapsRec ·)))=true:=by kernel_rfl
theorem clubsStay_h15:((Rows.clubsStayRow.ifaces==(Tryz.f4.params.toList++Rows.clubsStaySpec.plain.varTypes Tryz.pinned.checked.prog).any (Tryz.pinned.checked.prog.ifacesRec ·)))=true:=by kernel_rfl
theorem clubsStay_h16:((Rows.clubsStayRow.mapsOut==Tryz.pinned.checked.prog.mapsAmong Tryz.f4.resultTypes.toList))=true:=by kernel_rfl
theorem clubsStay_h17:((Rows.clubsStayRow.loops==(Tryz.f4.params.toList++Rows.clubsStaySpec.plain.varTypes Tryz.pinned.checked.prog).any (Tryz.pinned.checked.prog.loopsFrom ·)))=true:=by kernel_rfl
theorem clubsStay_h18:((Rows.clubsStayRow.wideKeys==(Tryz.f4.params.toList++Rows.clubsStaySpec.plain.varTypes Tryz.pinned.checked.prog++Tryz.f4.resultTypes.toList).any (Tryz.pinned.checked.prog.wideKeysFrom ·)))=true:=by kernel_rfl
theorem clubsStay_h19:(Rows.clubsStaySpec.vars.all (Tryz.pinned.checked.prog.varReadable ·))=true:=by kernel_rfl
theorem clubsStay_h20:(Tryz.f4.resultTypes.all (fun t=>Tryz.pinned.checked.prog.readableRec t&&decide (t<Tryz.pinned.checked.prog.types.size)))=true:=by kernel_rfl
theorem clubsStay_h21:((Rows.clubsStayRow.ifacesOut==Tryz.f4.resultTypes.toList.any (Tryz.pinned.checked.prog.ifacesRec ·)))=true:=by kernel_rfl
theorem clubsStay_h22:((Rows.clubsStayRow.loopsOut==Tryz.f4.resultTypes.toList.any (Tryz.pinned.checked.prog.loopsFrom ·)))=true:=by kernel_rfl
theorem clubsStay_h24:(Rows.clubsStayRow.shortTexts.isNone)=true:=by kernel_rfl
theorem clubsStay_h27:((Rows.clubsStayRow.lifted==Tryz.pinned.checked.prog.liftsFinal))=true:=by kernel_rfl
theorem clubsStay_h28:((Tryz.pinned.checked.prog.make==some Rows.clubsStayRow.make))=true:=by kernel_rfl
theorem clubsStay_h29:((Rows.clubsStayRow.kinds==(if Rows.clubsStayRow.domain.isEmpty then [] else Tryz.f4.params.toList.map fun t=>match Tryz.pinned.checked.prog.underlying t with | some (.int k)=>some k | _=>none)))=true:=by kernel_rfl
theorem clubsStay_h30:((Rows.clubsStayRow.pinned==Rows.clubsStayRow.pinnedBy))=true:=by kernel_rfl
theorem clubsStay_h31:((Rows.clubsStayRow.veiled==(Tryz.f4.params.toList++Rows.clubsStaySpec.plain.varTypes Tryz.pinned.checked.prog++Tryz.f4.resultTypes.toList).any (Tryz.pinned.checked.prog.veiledRec ·)))=true:=by kernel_rfl
theorem clubsStay_h32:(Rows.clubsStayRow.veiledFits Tryz.pinned.checked.prog Tryz.f4.params.toList (Tryz.f4.params.toList++Rows.clubsStaySpec.plain.varTypes Tryz.pinned.checked.prog++Tryz.f4.resultTypes.toList))=true:=by kernel_rfl
theorem clubsStay_goes:false=Rows.clubsStayRow.goesBy Tryz.pinned.checked.prog:=by kernel_rfl

set_option maxRecDepth 100000 in
theorem clubsStay_lifted (os:Os) (started:os.Started) (H:Type) (enc:TypeId × Value→H) :
  ReturnsInHanded {} Tryz.checked os 4 .any (fun w args=>(Rows.clubsStaySpec.pre enc Tryz.prog Tryz.f4 Rows.clubsStayRow.domain false w args∧laidMetH Tryz.prog Rows.clubsStayRow.laid w)∧sizedMet enc Tryz.prog Tryz.f4 (OpenSpec.ofChange Rows.clubsStaySpec) false w args)
   (Rows.clubsStaySpec.post enc Tryz.prog Tryz.f4 false true false false):=by
 refine returnsInHanded_of_change_and (C:=Tryz.checked) (X:=fun w _=>laidMetH Tryz.prog Rows.clubsStayRow.laid w) (fun _ _ _ hh h=>h.of_heap hh) ownOf started (by kernel_rfl) Tryz.func4
  (ChangeSpec.witness_shaped (enc := enc) (C := Tryz.checked) (os := os) (X := fun w _ => laidMetH Tryz.prog Rows.clubsStayRow.laid w) false (World.laidAll Tryz.prog os Rows.clubsStayRow.laid) #[.slice none 0 0] 8 (World.laidAll_os _ _ _)
   (World.shaped_of_ZipB (by kernel_rfl) (by kernel_rfl)) (by kernel_rfl) (by kernel_rfl) (by kernel_rfl)
   (by rw [MakeChecks.laidMetH_plain _ _ _ (by kernel_rfl)]; exact laidMet_laidAll _ (by kernel_rfl) (by kernel_rfl))) ?_
 intro W base args ds gs before hval hW _ _ hx _
 have htab:∀ p∈tabZ,∃ t f,W.heap[p.1]? = some (.cells p.2 t f):=by
  intro p hp
  unfold tabZ at hp
  cases hp
 exact law_post Tryz.params4 (tB:=4) (by kernel_rfl) Tryz.underlying22 Tryz.underlying3 (by kernel_rfl) Tryz.underlying4 rfl (fun _=>rfl) clubsStay_call htab hval hW

set_option maxRecDepth 100000 in
theorem clubsStay_row:Rows.ClubsStaySaid :=
 OpenClaim.holds_of_wide 4 Tryz.f4 rfl rfl rfl rfl rfl rfl rfl ⟨rfl,rfl,rfl,rfl,rfl⟩ rfl rfl rfl rfl rfl (by kernel_rfl) Tryz.func4 (facts_of clubsStay_h1 p_h2 p_h3 clubsStay_h4 clubsStay_h5 clubsStay_h6 p_h7 clubsStay_h8 p_h9 clubsStay_h10 clubsStay_h11 clubsStay_h12 clubsStay_h13 clubsStay_h14 clubsStay_h15 clubsStay_h16 clubsStay_h17 clubsStay_h18 clubsStay_h19 clubsStay_h20 clubsStay_h21 clubsStay_h22 p_h23 clubsStay_h24 p_h25 p_h26 clubsStay_h27 clubsStay_h28 clubsStay_h29 clubsStay_h30 clubsStay_h31 clubsStay_h32)
  (of_decide_eq_true (by kernel_rfl)) (by unfold Func.isWrapper; first | (rw [if_pos (by decide +kernel)]; kernel_rfl) | (rw [if_neg (by decide +kernel)]; exact ⟨rfl,rfl⟩))
  (fun os started H enc _=>clubsStay_lifted os started H enc)
set_option maxRecDepth 100000 in
theorem clubsStay_holds:Rows.ClubsStayCardSaid :=
 Claim7.holds_tied_plain_at .later [] [.data,.pinned] true (true, "e39e5fa95b354fe96dd4477aef76d030de05c05166cdaf4f20d1c02c1f5eecef") false clubsStay_row (fun _ h=>by cases h) (by kernel_rfl) (fun _ h=>by cases h) clubsStay_row_tie rfl ⟨rfl,rfl⟩ pMain rfl
  (fun f fn hf hfn => by
   obtain rfl:f=4:=Option.some.inj ((show Tryz.prog.funcNamed Rows.clubsStayRow.func=some 4 by kernel_rfl).symm.trans hf) |>.symm
   obtain rfl:fn=Tryz.f4:=(Option.some.inj (Tryz.func4.symm.trans hfn)).symm
   exact ⟨pLooks,fun j t ht=>by
    rw [Tryz.params4] at ht
    have hm:t∈[22]:=by simpa using Array.mem_of_getElem? ht
    have hall:([22].all fun u => !Tryz.prog.wantsStandIn u)=true:=by kernel_rfl
    exact (show Tryz.prog.wantsStandIn t=false by simpa using List.all_eq_true.1 hall t hm)⟩)
  clubsStay_goes
#print axioms clubsStay_holds
end Go.Proofs.YtelglbbhbgjagaaGreatDoor
