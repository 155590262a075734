/-
 What is proved here: whatever numbers pileup's law FindingTexts is called at,it answers true,and the slice reads as before. Conditions: those of the given card alone (the listed variables as the program's text lays them).
-/
import Derived.Test.YtgglclbdiagpoaaGreatDoorTie
import Derived.Test.YtgglclbdiagpoaaGreatDoorCards
import Derived.Test.YtgglclbdiagpoaaGreatDoorMJ
import Derived.Test.YtgglclbdiagpoaaGreatDoorMG
import Derived.Stop.LaidErr
import Derived.Test.YtgglclbdiagpoaaGreatDoorMS
set_option linter.all false
open Go.Lib renaming pow10Tab→ait
open Go.MakeChecks renaming laidMetH_plain→air
open Go.OpenSpec renaming ofChange→S7
open Go.laidMet renaming tail→ais
open Option.some renaming inj→gh
namespace Go.Proofs.YtgglclbdiagpoaaGreatDoor
open Go Go.AL Go.ChangeShapes Go.WideShapes Go.ChangeAt Go.RowKit

theorem ag6(rows:List (List G)):cq Tryz.prog 3 [.listF [.int .i64] rows] [] (.lit (.bool true)) []:=iU.Qb [.l rows] [.t true] (iU.agR rows)
theorem ag7:(Rows.findingTextsRow.wf (S7 Rows.findingTextsSpec))=true:=by kernel_rfl
theorem ag8:(Tryz.f3.params.all (Tryz.pinned.checked.prog.readableRec ·))=true:=by kernel_rfl
theorem ag9:(namedTie Tryz.pinned.checked.prog Rows.findingTextsRow.named Rows.findingTextsSpec.vars)=true:=by kernel_rfl
theorem ag_:((Rows.findingTextsRow.stops==[]))=true:=by kernel_rfl
theorem ag':((Rows.findingTextsRow.knobs==[]))=true:=by kernel_rfl
theorem aha:((Rows.findingTextsRow.inPlace==Tryz.pinned.checked.prog.inPlace 3))=true:=by kernel_rfl
theorem ahb:((Rows.findingTextsRow.unfollowed==Tryz.pinned.checked.prog.unfollowed 3))=true:=by kernel_rfl
theorem ahc:((Rows.findingTextsRow.recurses==Tryz.pinned.checked.prog.recurses 3))=true:=by kernel_rfl
theorem ahd:((Rows.findingTextsRow.named==Tryz.pinned.checked.prog.varsNamed 3))=true:=by kernel_rfl
theorem ahe:((Rows.findingTextsRow.maps==(Tryz.f3.params.toList++Rows.findingTextsSpec.plain.varTypes Tryz.pinned.checked.prog).any (Tryz.pinned.checked.prog.mapsRec ·)))=true:=by kernel_rfl
theorem ahf:((Rows.findingTextsRow.ifaces==(Tryz.f3.params.toList++Rows.findingTextsSpec.plain.varTypes Tryz.pinned.checked.prog).any (Tryz.pinned.checked.prog.ifacesRec ·)))=true:=by kernel_rfl
theorem ahg:((Rows.findingTextsRow.mapsOut==Tryz.pinned.checked.prog.mapsAmong Tryz.f3.resultTypes.toList))=true:=by kernel_rfl
theorem ahh:((Rows.findingTextsRow.loops==(Tryz.f3.params.toList++Rows.findingTextsSpec.plain.varTypes Tryz.pinned.checked.prog).any (Tryz.pinned.checked.prog.loopsFrom ·)))=true:=by kernel_rfl
theorem ahi:((Rows.findingTextsRow.wideKeys==(Tryz.f3.params.toList++Rows.findingTextsSpec.plain.varTypes Tryz.pinned.checked.prog++Tryz.f3.resultTypes.toList).any (Tryz.pinned.checked.prog.wideKeysFrom ·)))=true:=by kernel_rfl
theorem ahj:(Rows.findingTextsSpec.vars.all (Tryz.pinned.checked.prog.varReadable ·))=true:=by kernel_rfl
theorem ahk:(Tryz.f3.resultTypes.all (fun t=>Tryz.pinned.checked.prog.readableRec t&&decide (t<Tryz.pinned.checked.prog.types.size)))=true:=by kernel_rfl
theorem ahl:((Rows.findingTextsRow.ifacesOut==Tryz.f3.resultTypes.toList.any (Tryz.pinned.checked.prog.ifacesRec ·)))=true:=by kernel_rfl
theorem ahm:((Rows.findingTextsRow.loopsOut==Tryz.f3.resultTypes.toList.any (Tryz.pinned.checked.prog.loopsFrom ·)))=true:=by kernel_rfl
theorem ahn:(Rows.findingTextsRow.shortTexts.isNone)=true:=by kernel_rfl
theorem aho:((Rows.findingTextsRow.lifted==Tryz.pinned.checked.prog.liftsFinal))=true:=by kernel_rfl
theorem ahp:((Tryz.pinned.checked.prog.make==some Rows.findingTextsRow.make))=true:=by kernel_rfl
theorem ahq:((Rows.findingTextsRow.kinds==(if Rows.findingTextsRow.domain.isEmpty then [] else Tryz.f3.params.toList.map fun t=>match Tryz.pinned.checked.prog.underlying t with|some (.int k)=>some k|_=>none)))=true:=by kernel_rfl
theorem ahr:((Rows.findingTextsRow.pinned==Rows.findingTextsRow.pinnedBy))=true:=by kernel_rfl
theorem ahs:((Rows.findingTextsRow.veiled==(Tryz.f3.params.toList++Rows.findingTextsSpec.plain.varTypes Tryz.pinned.checked.prog++Tryz.f3.resultTypes.toList).any (Tryz.pinned.checked.prog.veiledRec ·)))=true:=by kernel_rfl
theorem aht:(Rows.findingTextsRow.veiledFits Tryz.pinned.checked.prog Tryz.f3.params.toList (Tryz.f3.params.toList++Rows.findingTextsSpec.plain.varTypes Tryz.pinned.checked.prog++Tryz.f3.resultTypes.toList))=true:=by kernel_rfl
theorem ahu:false=Rows.findingTextsRow.goesBy Tryz.pinned.checked.prog:=by kernel_rfl

set_option maxRecDepth 100000 in
theorem ahv(os:Os)(started:os.Started)(H:Type)(enc:TypeId × Value→H) :
  ReturnsInHanded {} Tryz.checked os 3 .any (fun w args=>(Rows.findingTextsSpec.pre enc Tryz.prog Tryz.f3 Rows.findingTextsRow.domain false w args∧laidMetH Tryz.prog Rows.findingTextsRow.laid w)∧sizedMet enc Tryz.prog Tryz.f3 (S7 Rows.findingTextsSpec) false w args)
   (Rows.findingTextsSpec.post enc Tryz.prog Tryz.f3 false true false false):=by
 refine returnsInHanded_of_change_and (C:=Tryz.checked) (X:=fun w _=>laidMetH Tryz.prog Rows.findingTextsRow.laid w) (fun _ _ _ y h=>h.of_heap y) agW started (by kernel_rfl) Tryz.func3
  (ChangeSpec.witness_shaped (enc := enc) (C := Tryz.checked) (os := os) (X := fun w _ => laidMetH Tryz.prog Rows.findingTextsRow.laid w) false (World.laidAll Tryz.prog os Rows.findingTextsRow.laid) #[.slice none 0 0] 8 (World.laidAll_os _ _ _)
   (World.shaped_of_ZipB (by kernel_rfl) (by kernel_rfl)) (by kernel_rfl) (by kernel_rfl) (by kernel_rfl)
   (by rw[air _ _ _ (by kernel_rfl)]; exact laidMet_laidAll _ (by kernel_rfl) (by kernel_rfl))) ?_
 intro W base args B gs before u z _ _ d _;have v:∀ p∈qY,∃ t f,W.heap[p.1]? = some (.cells p.2 t f):=by
  intro p q;unfold qY at q;obtain rfl:=List.mem_singleton.1 q;rw[air _ _ _ (by kernel_rfl)]at d;have h1:=ais (ais (d));exact Xp (k:=.u64) (zs:=ait) (g:=0) (by kernel_rfl) (Lib.tabIs_of_head (P:=Tryz.prog) (k:=.u64) (zs:=ait) (g:=0) (t:=139) (e:=111) (n:=20) (by kernel_rfl) (by kernel_rfl) (by kernel_rfl) (by kernel_rfl) (by kernel_rfl) (by kernel_rfl) h1)
 exact agV Tryz.params3 (tB:=4) (by kernel_rfl) Tryz.underlying22 Tryz.underlying3 (by kernel_rfl) Tryz.underlying4 rfl (fun _=>rfl) ag6 v u z

set_option maxRecDepth 100000 in
theorem ahw:Rows.FindingTextsSaid :=
 OpenClaim.holds_of_wide 3 Tryz.f3 rfl rfl rfl rfl rfl rfl rfl ⟨rfl,rfl,rfl,rfl,rfl⟩ rfl rfl rfl rfl rfl (by kernel_rfl) Tryz.func3 (agS ag7 agX agY ag8 ag9 ag_ agZ ag' ag0 aha ahb ahc ahd ahe ahf ahg ahh ahi ahj ahk ahl ahm ag1 ahn ag2 ag3 aho ahp ahq ahr ahs aht)
  (of_decide_eq_true (by kernel_rfl)) (by unfold Func.isWrapper; first|(rw[if_pos (by decide +kernel)]; kernel_rfl)|(rw[if_neg (by decide +kernel)]; exact⟨rfl,rfl⟩))
  (fun os started H enc _=>ahv os started H enc)
set_option maxRecDepth 100000 in
theorem findingTexts_holds:Rows.FindingTextsCardSaid :=
 Claim7.holds_tied_plain_at .later [] [.data,.data,.data,.data,.sentinel,.sentinel,.pinned] true (true, "b7d4f2f1d773492e9eacea74f8bd920b864d5136b9e5384f50de92c476e77438") true ahw (fun _ h=>by cases h) (by kernel_rfl) (fun _ h=>by cases h) findingTexts_row_tie rfl ⟨rfl,rfl⟩ ag4 rfl
  (fun f fn q k => by
   obtain rfl:f=3:=gh ((show Tryz.prog.funcNamed Rows.findingTextsRow.func=some 3 by kernel_rfl).symm.trans q) |>.symm
   obtain rfl:fn=Tryz.f3:=(gh (Tryz.func3.symm.trans k)).symm;exact⟨ag5,fun j t d=>by
    rw[Tryz.params3]at d;have hm:t∈[22]:=by simpa using Array.mem_of_getElem? d
    have g:([22].all fun u => !Tryz.prog.wantsStandIn u)=true:=by kernel_rfl
    exact(show Tryz.prog.wantsStandIn t=false by simpa using List.all_eq_true.1 g t hm)⟩)
  ahu
#print axioms findingTexts_holds
end Go.Proofs.YtgglclbdiagpoaaGreatDoor
