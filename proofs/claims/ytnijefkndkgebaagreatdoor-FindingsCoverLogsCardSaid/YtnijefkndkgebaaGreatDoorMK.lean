/-
 What is proved here: whatever numbers pileup's law FindingsCoverLogs is called at,it answers true,and the slice reads as before. Conditions: those of the given card alone (the listed variables as the program's text lays them).
-/
import Derived.Test.YtnijefkndkgebaaGreatDoorTie
import Derived.Test.YtnijefkndkgebaaGreatDoorCards
import Derived.Test.YtnijefkndkgebaaGreatDoorMJ
import Derived.Test.YtnijefkndkgebaaGreatDoorMF
set_option linter.all false
open Go.OpenSpec renaming ofChange→S7
open Option.some renaming inj→gl
namespace Go.Proofs.YtnijefkndkgebaaGreatDoor
open Go Go.AL Go.ChangeShapes Go.WideShapes Go.ChangeAt Go.RowKit

theorem ahb(rows:List (List G)):dC Tryz.prog 3 [.listF [.int .i64] rows] [] (.lit (.bool true)) []:=iE.QS [.l rows] [.t true] (iE.agY rows)
theorem ahc:(Rows.findingsCoverLogsRow.wf (S7 Rows.findingsCoverLogsSpec))=true:=by kernel_rfl
theorem ahd:(Tryz.f3.params.all (Tryz.pinned.checked.prog.readableRec ·))=true:=by kernel_rfl
theorem ahe:(namedTie Tryz.pinned.checked.prog Rows.findingsCoverLogsRow.named Rows.findingsCoverLogsSpec.vars)=true:=by kernel_rfl
theorem ahf:((Rows.findingsCoverLogsRow.stops==[]))=true:=by kernel_rfl
theorem ahg:((Rows.findingsCoverLogsRow.knobs==[]))=true:=by kernel_rfl
theorem ahh:((Rows.findingsCoverLogsRow.inPlace==Tryz.pinned.checked.prog.inPlace 3))=true:=by kernel_rfl
theorem ahi:((Rows.findingsCoverLogsRow.unfollowed==Tryz.pinned.checked.prog.unfollowed 3))=true:=by kernel_rfl
theorem ahj:((Rows.findingsCoverLogsRow.recurses==Tryz.pinned.checked.prog.recurses 3))=true:=by kernel_rfl
theorem ahk:((Rows.findingsCoverLogsRow.named==Tryz.pinned.checked.prog.varsNamed 3))=true:=by kernel_rfl
theorem ahl:((Rows.findingsCoverLogsRow.maps==(Tryz.f3.params.toList++Rows.findingsCoverLogsSpec.plain.varTypes Tryz.pinned.checked.prog).any (Tryz.pinned.checked.prog.mapsRec ·)))=true:=by kernel_rfl
theorem ahm:((Rows.findingsCoverLogsRow.ifaces==(Tryz.f3.params.toList++Rows.findingsCoverLogsSpec.plain.varTypes Tryz.pinned.checked.prog).any (Tryz.pinned.checked.prog.ifacesRec ·)))=true:=by kernel_rfl
theorem ahn:((Rows.findingsCoverLogsRow.mapsOut==Tryz.pinned.checked.prog.mapsAmong Tryz.f3.resultTypes.toList))=true:=by kernel_rfl
theorem aho:((Rows.findingsCoverLogsRow.loops==(Tryz.f3.params.toList++Rows.findingsCoverLogsSpec.plain.varTypes Tryz.pinned.checked.prog).any (Tryz.pinned.checked.prog.loopsFrom ·)))=true:=by kernel_rfl
theorem ahp:((Rows.findingsCoverLogsRow.wideKeys==(Tryz.f3.params.toList++Rows.findingsCoverLogsSpec.plain.varTypes Tryz.pinned.checked.prog++Tryz.f3.resultTypes.toList).any (Tryz.pinned.checked.prog.wideKeysFrom ·)))=true:=by kernel_rfl
theorem ahq:(Rows.findingsCoverLogsSpec.vars.all (Tryz.pinned.checked.prog.varReadable ·))=true:=by kernel_rfl
theorem ahr:(Tryz.f3.resultTypes.all (fun t=>Tryz.pinned.checked.prog.readableRec t&&decide (t<Tryz.pinned.checked.prog.types.size)))=true:=by kernel_rfl
theorem ahs:((Rows.findingsCoverLogsRow.ifacesOut==Tryz.f3.resultTypes.toList.any (Tryz.pinned.checked.prog.ifacesRec ·)))=true:=by kernel_rfl
theorem aht:((Rows.findingsCoverLogsRow.loopsOut==Tryz.f3.resultTypes.toList.any (Tryz.pinned.checked.prog.loopsFrom ·)))=true:=by kernel_rfl
theorem ahu:(Rows.findingsCoverLogsRow.shortTexts.isNone)=true:=by kernel_rfl
theorem ahv:((Rows.findingsCoverLogsRow.lifted==Tryz.pinned.checked.prog.liftsFinal))=true:=by kernel_rfl
theorem ahw:((Tryz.pinned.checked.prog.make==some Rows.findingsCoverLogsRow.make))=true:=by kernel_rfl
theorem ahx:((Rows.findingsCoverLogsRow.kinds==(if Rows.findingsCoverLogsRow.domain.isEmpty then [] else Tryz.f3.params.toList.map fun t=>match Tryz.pinned.checked.prog.underlying t with|some (.int k)=>some k|_=>none)))=true:=by kernel_rfl
theorem ahy:((Rows.findingsCoverLogsRow.pinned==Rows.findingsCoverLogsRow.pinnedBy))=true:=by kernel_rfl
theorem ahz:((Rows.findingsCoverLogsRow.veiled==(Tryz.f3.params.toList++Rows.findingsCoverLogsSpec.plain.varTypes Tryz.pinned.checked.prog++Tryz.f3.resultTypes.toList).any (Tryz.pinned.checked.prog.veiledRec ·)))=true:=by kernel_rfl
theorem ahA:(Rows.findingsCoverLogsRow.veiledFits Tryz.pinned.checked.prog Tryz.f3.params.toList (Tryz.f3.params.toList++Rows.findingsCoverLogsSpec.plain.varTypes Tryz.pinned.checked.prog++Tryz.f3.resultTypes.toList))=true:=by kernel_rfl
theorem ahB:false=Rows.findingsCoverLogsRow.goesBy Tryz.pinned.checked.prog:=by kernel_rfl

set_option maxRecDepth 100000 in
theorem ahC(os:Os)(started:os.Started)(H:Type)(enc:TypeId × Value→H) :
  ReturnsInHanded {} Tryz.checked os 3 .any (fun w args=>(Rows.findingsCoverLogsSpec.pre enc Tryz.prog Tryz.f3 Rows.findingsCoverLogsRow.domain false w args∧laidMetH Tryz.prog Rows.findingsCoverLogsRow.laid w)∧sizedMet enc Tryz.prog Tryz.f3 (S7 Rows.findingsCoverLogsSpec) false w args)
   (Rows.findingsCoverLogsSpec.post enc Tryz.prog Tryz.f3 false true false false):=by
 refine returnsInHanded_of_change_and (C:=Tryz.checked) (X:=fun w _=>laidMetH Tryz.prog Rows.findingsCoverLogsRow.laid w) (fun _ _ _ q h=>h.of_heap q) ag3 started (by kernel_rfl) Tryz.func3
  (ChangeSpec.witness_shaped (enc := enc) (C := Tryz.checked) (os := os) (X := fun w _ => laidMetH Tryz.prog Rows.findingsCoverLogsRow.laid w) false (World.laidAll Tryz.prog os Rows.findingsCoverLogsRow.laid) #[.slice none 0 0] 8 (World.laidAll_os _ _ _)
   (World.shaped_of_ZipB (by kernel_rfl) (by kernel_rfl)) (by kernel_rfl) (by kernel_rfl) (by kernel_rfl)
   (by rw[MakeChecks.laidMetH_plain _ _ _ (by kernel_rfl)]; exact laidMet_laidAll _ (by kernel_rfl) (by kernel_rfl))) ?_
 intro W base args v gs before g u _ _ y _;have k:∀ p∈s9,∃ t f,W.heap[p.1]? = some (.cells p.2 t f):=by
  intro p d;unfold s9 at d;cases d
 exact ag2 Tryz.params3 (tB:=4) (by kernel_rfl) Tryz.underlying22 Tryz.underlying3 (by kernel_rfl) Tryz.underlying4 rfl (fun _=>rfl) ahb k g u

set_option maxRecDepth 100000 in
theorem ahD:Rows.FindingsCoverLogsSaid :=
 OpenClaim.holds_of_wide 3 Tryz.f3 rfl rfl rfl rfl rfl rfl rfl ⟨rfl,rfl,rfl,rfl,rfl⟩ rfl rfl rfl rfl rfl (by kernel_rfl) Tryz.func3 (agZ ahc ag4 ag5 ahd ahe ahf ag6 ahg ag7 ahh ahi ahj ahk ahl ahm ahn aho ahp ahq ahr ahs aht ag8 ahu ag9 ag_ ahv ahw ahx ahy ahz ahA)
  (of_decide_eq_true (by kernel_rfl)) (by unfold Func.isWrapper; first|(rw[if_pos (by decide +kernel)]; kernel_rfl)|(rw[if_neg (by decide +kernel)]; exact⟨rfl,rfl⟩))
  (fun os started H enc _=>ahC os started H enc)
set_option maxRecDepth 100000 in
theorem findingsCoverLogs_holds:Rows.FindingsCoverLogsCardSaid :=
 Claim7.holds_tied_plain_at .later [] [.data,.pinned] true (true, "d32e238c8ce4b93269af8b38f09fc9ee7ab3aaaaec788e049c98f2c7c346a445") false ahD (fun _ h=>by cases h) (by kernel_rfl) (fun _ h=>by cases h) findingsCoverLogs_row_tie rfl ⟨rfl,rfl⟩ ag' rfl
  (fun f fn q k => by
   obtain rfl:f=3:=gl ((show Tryz.prog.funcNamed Rows.findingsCoverLogsRow.func=some 3 by kernel_rfl).symm.trans q) |>.symm
   obtain rfl:fn=Tryz.f3:=(gl (Tryz.func3.symm.trans k)).symm;exact⟨aha,fun j t d=>by
    rw[Tryz.params3]at d;have hm:t∈[22]:=by simpa using Array.mem_of_getElem? d
    have g:([22].all fun u => !Tryz.prog.wantsStandIn u)=true:=by kernel_rfl
    exact(show Tryz.prog.wantsStandIn t=false by simpa using List.all_eq_true.1 g t hm)⟩)
  ahB
#print axioms findingsCoverLogs_holds
end Go.Proofs.YtnijefkndkgebaaGreatDoor
