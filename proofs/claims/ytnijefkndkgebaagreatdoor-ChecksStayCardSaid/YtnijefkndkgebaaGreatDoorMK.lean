/-
 What is proved here: whatever numbers pileup's law ChecksStay is called at,it answers true,and the slice reads as before. Conditions: those of the given card alone (the listed variables as the program's text lays them).
-/
import Derived.Test.YtnijefkndkgebaaGreatDoorTie
import Derived.Test.YtnijefkndkgebaaGreatDoorCards
import Derived.Test.YtnijefkndkgebaaGreatDoorMJ
import Derived.Test.YtnijefkndkgebaaGreatDoorMF
set_option linter.all false
open Go.OpenSpec renaming ofChange→S2
open Option.some renaming inj→gd
namespace Go.Proofs.YtnijefkndkgebaaGreatDoor
open Go Go.AL Go.ChangeShapes Go.WideShapes Go.ChangeAt Go.RowKit

theorem ag3(rows:List (List G)):dB Tryz.prog 4 [.listF [.int .i64] rows] [] (.lit (.bool true)) []:=iE.QL [.l rows] [.t true] (iE.agO rows)
theorem ag4:(Rows.checksStayRow.wf (S2 Rows.checksStaySpec))=true:=by kernel_rfl
theorem ag5:(Tryz.f4.params.all (Tryz.pinned.checked.prog.readableRec ·))=true:=by kernel_rfl
theorem ag6:(namedTie Tryz.pinned.checked.prog Rows.checksStayRow.named Rows.checksStaySpec.vars)=true:=by kernel_rfl
theorem ag7:((Rows.checksStayRow.stops==[]))=true:=by kernel_rfl
theorem ag8:((Rows.checksStayRow.knobs==[]))=true:=by kernel_rfl
theorem ag9:((Rows.checksStayRow.inPlace==Tryz.pinned.checked.prog.inPlace 4))=true:=by kernel_rfl
theorem ag_:((Rows.checksStayRow.unfollowed==Tryz.pinned.checked.prog.unfollowed 4))=true:=by kernel_rfl
theorem ag':((Rows.checksStayRow.recurses==Tryz.pinned.checked.prog.recurses 4))=true:=by kernel_rfl
theorem aha:((Rows.checksStayRow.named==Tryz.pinned.checked.prog.varsNamed 4))=true:=by kernel_rfl
theorem ahb:((Rows.checksStayRow.maps==(Tryz.f4.params.toList++Rows.checksStaySpec.plain.varTypes Tryz.pinned.checked.prog).any (Tryz.pinned.checked.prog.mapsRec ·)))=true:=by kernel_rfl
theorem ahc:((Rows.checksStayRow.ifaces==(Tryz.f4.params.toList++Rows.checksStaySpec.plain.varTypes Tryz.pinned.checked.prog).any (Tryz.pinned.checked.prog.ifacesRec ·)))=true:=by kernel_rfl
theorem ahd:((Rows.checksStayRow.mapsOut==Tryz.pinned.checked.prog.mapsAmong Tryz.f4.resultTypes.toList))=true:=by kernel_rfl
theorem ahe:((Rows.checksStayRow.loops==(Tryz.f4.params.toList++Rows.checksStaySpec.plain.varTypes Tryz.pinned.checked.prog).any (Tryz.pinned.checked.prog.loopsFrom ·)))=true:=by kernel_rfl
theorem ahf:((Rows.checksStayRow.wideKeys==(Tryz.f4.params.toList++Rows.checksStaySpec.plain.varTypes Tryz.pinned.checked.prog++Tryz.f4.resultTypes.toList).any (Tryz.pinned.checked.prog.wideKeysFrom ·)))=true:=by kernel_rfl
theorem ahg:(Rows.checksStaySpec.vars.all (Tryz.pinned.checked.prog.varReadable ·))=true:=by kernel_rfl
theorem ahh:(Tryz.f4.resultTypes.all (fun t=>Tryz.pinned.checked.prog.readableRec t&&decide (t<Tryz.pinned.checked.prog.types.size)))=true:=by kernel_rfl
theorem ahi:((Rows.checksStayRow.ifacesOut==Tryz.f4.resultTypes.toList.any (Tryz.pinned.checked.prog.ifacesRec ·)))=true:=by kernel_rfl
theorem ahj:((Rows.checksStayRow.loopsOut==Tryz.f4.resultTypes.toList.any (Tryz.pinned.checked.prog.loopsFrom ·)))=true:=by kernel_rfl
theorem ahk:(Rows.checksStayRow.shortTexts.isNone)=true:=by kernel_rfl
theorem ahl:((Rows.checksStayRow.lifted==Tryz.pinned.checked.prog.liftsFinal))=true:=by kernel_rfl
theorem ahm:((Tryz.pinned.checked.prog.make==some Rows.checksStayRow.make))=true:=by kernel_rfl
theorem ahn:((Rows.checksStayRow.kinds==(if Rows.checksStayRow.domain.isEmpty then [] else Tryz.f4.params.toList.map fun t=>match Tryz.pinned.checked.prog.underlying t with|some (.int k)=>some k|_=>none)))=true:=by kernel_rfl
theorem aho:((Rows.checksStayRow.pinned==Rows.checksStayRow.pinnedBy))=true:=by kernel_rfl
theorem ahp:((Rows.checksStayRow.veiled==(Tryz.f4.params.toList++Rows.checksStaySpec.plain.varTypes Tryz.pinned.checked.prog++Tryz.f4.resultTypes.toList).any (Tryz.pinned.checked.prog.veiledRec ·)))=true:=by kernel_rfl
theorem ahq:(Rows.checksStayRow.veiledFits Tryz.pinned.checked.prog Tryz.f4.params.toList (Tryz.f4.params.toList++Rows.checksStaySpec.plain.varTypes Tryz.pinned.checked.prog++Tryz.f4.resultTypes.toList))=true:=by kernel_rfl
theorem ahr:false=Rows.checksStayRow.goesBy Tryz.pinned.checked.prog:=by kernel_rfl

set_option maxRecDepth 100000 in
theorem ahs(os:Os)(started:os.Started)(H:Type)(enc:TypeId × Value→H) :
  ReturnsInHanded {} Tryz.checked os 4 .any (fun w args=>(Rows.checksStaySpec.pre enc Tryz.prog Tryz.f4 Rows.checksStayRow.domain false w args∧laidMetH Tryz.prog Rows.checksStayRow.laid w)∧sizedMet enc Tryz.prog Tryz.f4 (S2 Rows.checksStaySpec) false w args)
   (Rows.checksStaySpec.post enc Tryz.prog Tryz.f4 false true false false):=by
 refine returnsInHanded_of_change_and (C:=Tryz.checked) (X:=fun w _=>laidMetH Tryz.prog Rows.checksStayRow.laid w) (fun _ _ _ q h=>h.of_heap q) agT started (by kernel_rfl) Tryz.func4
  (ChangeSpec.witness_shaped (enc := enc) (C := Tryz.checked) (os := os) (X := fun w _ => laidMetH Tryz.prog Rows.checksStayRow.laid w) false (World.laidAll Tryz.prog os Rows.checksStayRow.laid) #[.slice none 0 0] 8 (World.laidAll_os _ _ _)
   (World.shaped_of_ZipB (by kernel_rfl) (by kernel_rfl)) (by kernel_rfl) (by kernel_rfl) (by kernel_rfl)
   (by rw[MakeChecks.laidMetH_plain _ _ _ (by kernel_rfl)]; exact laidMet_laidAll _ (by kernel_rfl) (by kernel_rfl))) ?_
 intro W base args v gs before g u _ _ y _;have k:∀ p∈s_,∃ t f,W.heap[p.1]? = some (.cells p.2 t f):=by
  intro p d;unfold s_ at d;cases d
 exact agS Tryz.params4 (tB:=4) (by kernel_rfl) Tryz.underlying22 Tryz.underlying3 (by kernel_rfl) Tryz.underlying4 rfl (fun _=>rfl) ag3 k g u

set_option maxRecDepth 100000 in
theorem aht:Rows.ChecksStaySaid :=
 OpenClaim.holds_of_wide 4 Tryz.f4 rfl rfl rfl rfl rfl rfl rfl ⟨rfl,rfl,rfl,rfl,rfl⟩ rfl rfl rfl rfl rfl (by kernel_rfl) Tryz.func4 (agP ag4 agU agV ag5 ag6 ag7 agW ag8 agX ag9 ag_ ag' aha ahb ahc ahd ahe ahf ahg ahh ahi ahj agY ahk agZ ag0 ahl ahm ahn aho ahp ahq)
  (of_decide_eq_true (by kernel_rfl)) (by unfold Func.isWrapper; first|(rw[if_pos (by decide +kernel)]; kernel_rfl)|(rw[if_neg (by decide +kernel)]; exact⟨rfl,rfl⟩))
  (fun os started H enc _=>ahs os started H enc)
set_option maxRecDepth 100000 in
theorem checksStay_holds:Rows.ChecksStayCardSaid :=
 Claim7.holds_tied_plain_at .later [] [.data,.pinned] true (true, "d32e238c8ce4b93269af8b38f09fc9ee7ab3aaaaec788e049c98f2c7c346a445") false aht (fun _ h=>by cases h) (by kernel_rfl) (fun _ h=>by cases h) checksStay_row_tie rfl ⟨rfl,rfl⟩ ag1 rfl
  (fun f fn q k => by
   obtain rfl:f=4:=gd ((show Tryz.prog.funcNamed Rows.checksStayRow.func=some 4 by kernel_rfl).symm.trans q) |>.symm
   obtain rfl:fn=Tryz.f4:=(gd (Tryz.func4.symm.trans k)).symm;exact⟨ag2,fun j t d=>by
    rw[Tryz.params4]at d;have hm:t∈[22]:=by simpa using Array.mem_of_getElem? d
    have g:([22].all fun u => !Tryz.prog.wantsStandIn u)=true:=by kernel_rfl
    exact(show Tryz.prog.wantsStandIn t=false by simpa using List.all_eq_true.1 g t hm)⟩)
  ahr
#print axioms checksStay_holds
end Go.Proofs.YtnijefkndkgebaaGreatDoor
