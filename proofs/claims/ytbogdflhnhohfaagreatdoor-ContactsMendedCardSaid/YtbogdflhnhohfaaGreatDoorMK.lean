/-
 What is proved here: whatever numbers pileup's law ContactsMended is called at,it answers true,and the slice reads as before. Conditions: those of the given card alone (the listed variables as the program's text lays them).
-/
import Derived.Test.YtbogdflhnhohfaaGreatDoorTie
import Derived.Test.YtbogdflhnhohfaaGreatDoorCards
import Derived.Test.YtbogdflhnhohfaaGreatDoorMJ
import Derived.Test.YtbogdflhnhohfaaGreatDoorMS
set_option linter.all false
open Go.OpenSpec renaming ofChange->VG
open Option.some renaming inj->g_
namespace Go.Proofs.YtbogdflhnhohfaaGreatDoor
open Go Go.AL Go.ChangeShapes Go.WideShapes Go.ChangeAt Go.RowKit

theorem alG(rZ:List (List G)):fO Tryz.prog 3 [.listF [.int .i64] rZ] [] (.lit (.bool true)) []:=iQ.SQ [.l rZ] [.t true] (iQ.alq rZ)
theorem alH:(Rows.contactsMendedRow.wf (VG Rows.contactsMendedSpec))=true:=by kernel_rfl
theorem alI:(Tryz.f3.params.all (Tryz.pinned.checked.prog.readableRec ·))=true:=by kernel_rfl
theorem alJ:(namedTie Tryz.pinned.checked.prog Rows.contactsMendedRow.named Rows.contactsMendedSpec.vars)=true:=by kernel_rfl
theorem alK:((Rows.contactsMendedRow.stops==[]))=true:=by kernel_rfl
theorem alL:((Rows.contactsMendedRow.knobs==[]))=true:=by kernel_rfl
theorem alM:((Rows.contactsMendedRow.inPlace==Tryz.pinned.checked.prog.inPlace 3))=true:=by kernel_rfl
theorem alN:((Rows.contactsMendedRow.unfollowed==Tryz.pinned.checked.prog.unfollowed 3))=true:=by kernel_rfl
theorem alO:((Rows.contactsMendedRow.recurses==Tryz.pinned.checked.prog.recurses 3))=true:=by kernel_rfl
theorem alP:((Rows.contactsMendedRow.named==Tryz.pinned.checked.prog.varsNamed 3))=true:=by kernel_rfl
theorem alQ:((Rows.contactsMendedRow.maps==(Tryz.f3.params.toList++Rows.contactsMendedSpec.plain.varTypes Tryz.pinned.checked.prog).any (Tryz.pinned.checked.prog.mapsRec ·)))=true:=by kernel_rfl
theorem alR:((Rows.contactsMendedRow.ifaces==(Tryz.f3.params.toList++Rows.contactsMendedSpec.plain.varTypes Tryz.pinned.checked.prog).any (Tryz.pinned.checked.prog.ifacesRec ·)))=true:=by kernel_rfl
theorem alS:((Rows.contactsMendedRow.mapsOut==Tryz.pinned.checked.prog.mapsAmong Tryz.f3.resultTypes.toList))=true:=by kernel_rfl
theorem alT:((Rows.contactsMendedRow.loops==(Tryz.f3.params.toList++Rows.contactsMendedSpec.plain.varTypes Tryz.pinned.checked.prog).any (Tryz.pinned.checked.prog.loopsFrom ·)))=true:=by kernel_rfl
theorem alU:((Rows.contactsMendedRow.wideKeys==(Tryz.f3.params.toList++Rows.contactsMendedSpec.plain.varTypes Tryz.pinned.checked.prog++Tryz.f3.resultTypes.toList).any (Tryz.pinned.checked.prog.wideKeysFrom ·)))=true:=by kernel_rfl
theorem alV:(Rows.contactsMendedSpec.vars.all (Tryz.pinned.checked.prog.varReadable ·))=true:=by kernel_rfl
theorem alW:(Tryz.f3.resultTypes.all (fun t=>Tryz.pinned.checked.prog.readableRec t&&decide (t<Tryz.pinned.checked.prog.types.size)))=true:=by kernel_rfl
theorem alX:((Rows.contactsMendedRow.ifacesOut==Tryz.f3.resultTypes.toList.any (Tryz.pinned.checked.prog.ifacesRec ·)))=true:=by kernel_rfl
theorem alY:((Rows.contactsMendedRow.loopsOut==Tryz.f3.resultTypes.toList.any (Tryz.pinned.checked.prog.loopsFrom ·)))=true:=by kernel_rfl
theorem alZ:(Rows.contactsMendedRow.shortTexts.isNone)=true:=by kernel_rfl
theorem al0:((Rows.contactsMendedRow.lifted==Tryz.pinned.checked.prog.liftsFinal))=true:=by kernel_rfl
theorem al1:((Tryz.pinned.checked.prog.make==some Rows.contactsMendedRow.make))=true:=by kernel_rfl
theorem al2:((Rows.contactsMendedRow.kinds==(if Rows.contactsMendedRow.domain.isEmpty then [] else Tryz.f3.params.toList.map fun t=>match Tryz.pinned.checked.prog.underlying t with|some (.int k)=>some k|_=>none)))=true:=by kernel_rfl
theorem al3:((Rows.contactsMendedRow.pinned==Rows.contactsMendedRow.pinnedBy))=true:=by kernel_rfl
theorem al4:((Rows.contactsMendedRow.veiled==(Tryz.f3.params.toList++Rows.contactsMendedSpec.plain.varTypes Tryz.pinned.checked.prog++Tryz.f3.resultTypes.toList).any (Tryz.pinned.checked.prog.veiledRec ·)))=true:=by kernel_rfl
theorem al5:(Rows.contactsMendedRow.veiledFits Tryz.pinned.checked.prog Tryz.f3.params.toList (Tryz.f3.params.toList++Rows.contactsMendedSpec.plain.varTypes Tryz.pinned.checked.prog++Tryz.f3.resultTypes.toList))=true:=by kernel_rfl
theorem al6:false=Rows.contactsMendedRow.goesBy Tryz.pinned.checked.prog:=by kernel_rfl

set_option maxRecDepth 100000 in
theorem al7(os:Os)(k:os.Started)(H:Type)(d:TypeId × Value->H) :
  ReturnsInHanded {} Tryz.checked os 3 .any (fun w args=>(Rows.contactsMendedSpec.pre d Tryz.prog Tryz.f3 Rows.contactsMendedRow.domain false w args/\laidMetH Tryz.prog Rows.contactsMendedRow.laid w)/\sizedMet d Tryz.prog Tryz.f3 (VG Rows.contactsMendedSpec) false w args)
   (Rows.contactsMendedSpec.post d Tryz.prog Tryz.f3 false true false false):=by
 refine returnsInHanded_of_change_and (C:=Tryz.checked) (X:=fun w _=>laidMetH Tryz.prog Rows.contactsMendedRow.laid w) (fun _ _ _ y h=>h.of_heap y) alw k (by kernel_rfl) Tryz.func3
  (ChangeSpec.witness_shaped (enc := d) (C := Tryz.checked) (os := os) (X := fun w _ => laidMetH Tryz.prog Rows.contactsMendedRow.laid w) false (World.laidAll Tryz.prog os Rows.contactsMendedRow.laid) #[.slice none 0 0] 8 (World.laidAll_os _ _ _)
   (World.shaped_of_ZipB (by kernel_rfl) (by kernel_rfl)) (by kernel_rfl) (by kernel_rfl) (by kernel_rfl)
   (by rw[MakeChecks.laidMetH_plain _ _ _ (by kernel_rfl)]; exact laidMet_laidAll _ (by kernel_rfl) (by kernel_rfl))) ?_
 intro W aN args N O M q I _ _ U _;have v:∀ p∈yA,∃ t f,W.heap[p.1]? = some (.cells p.2 t f):=by
  intro p g;unfold yA at g;cases g
 exact alv Tryz.params3 (tB:=4) (by kernel_rfl) Tryz.underlying22 Tryz.underlying3 (by kernel_rfl) Tryz.underlying4 rfl (fun _=>rfl) alG v q I

set_option maxRecDepth 100000 in
theorem al8:Rows.ContactsMendedSaid :=
 OpenClaim.holds_of_wide 3 Tryz.f3 rfl rfl rfl rfl rfl rfl rfl ⟨rfl,rfl,rfl,rfl,rfl⟩ rfl rfl rfl rfl rfl (by kernel_rfl) Tryz.func3 (alr alH alx aly alI alJ alK alz alL alA alM alN alO alP alQ alR alS alT alU alV alW alX alY alB alZ alC alD al0 al1 al2 al3 al4 al5)
  (of_decide_eq_true (by kernel_rfl)) (by unfold Func.isWrapper; first|(rw[if_pos (by decide +kernel)]; kernel_rfl)|(rw[if_neg (by decide +kernel)]; exact⟨rfl,rfl⟩))
  (fun os d H g _=>al7 os d H g)
set_option maxRecDepth 100000 in
theorem contactsMended_holds:Rows.ContactsMendedCardSaid :=
 Claim7.holds_tied_plain_at .later [] [.data,.data,.data,.data,.pinned] true (true, "b5ef1505a3ba6fc744d1689bee13f952d7d7c0a9186062e1e304d2ef95db4cd8") false al8 (fun _ h=>by cases h) (by kernel_rfl) (fun _ h=>by cases h) contactsMended_row_tie rfl ⟨rfl,rfl⟩ alE rfl
  (fun f fn q k => by
   obtain rfl:f=3:=g_ ((show Tryz.prog.funcNamed Rows.contactsMendedRow.func=some 3 by kernel_rfl).symm.trans q) |>.symm
   obtain rfl:fn=Tryz.f3:=(g_ (Tryz.func3.symm.trans k)).symm;exact⟨alF,fun j t d=>by
    rw[Tryz.params3]at d;have hm:t∈[22]:=by simpa using Array.mem_of_getElem? d
    have g:([22].all fun u => !Tryz.prog.wantsStandIn u)=true:=by kernel_rfl
    exact(show Tryz.prog.wantsStandIn t=false by simpa using List.all_eq_true.1 g t hm)⟩)
  al6
#print axioms contactsMended_holds
end Go.Proofs.YtbogdflhnhohfaaGreatDoor
