/-
 What is proved here: whatever numbers pileup's law StationsRated is called at,it answers true,and the slice reads as before. Conditions: those of the given card alone (the listed variables as the program's text lays them).
-/
import Derived.Test.YtpgfflhcmodgdaaGreatDoorTie
import Derived.Test.YtpgfflhcmodgdaaGreatDoorCards
import Derived.Test.YtpgfflhcmodgdaaGreatDoorMJ
import Derived.Test.YtpgfflhcmodgdaaGreatDoorMS
set_option linter.all false
open Go.OpenSpec renaming ofChange->Z1
open Option.some renaming inj->jB
namespace Go.Proofs.YtpgfflhcmodgdaaGreatDoor
open Go Go.AL Go.ChangeShapes Go.WideShapes Go.ChangeAt Go.RowKit

theorem arq(rZ:List (List G)):fL Tryz.prog 3 [.listF [.int .i64] rZ] [] (.lit (.bool true)) []:=jI.Wr [.l rZ] [.t true] (jI.aq_ rZ)
theorem ars:(Rows.stationsRatedRow.wf (Z1 Rows.stationsRatedSpec))=true:=by kernel_rfl
theorem art:(Tryz.f3.params.all (Tryz.pinned.checked.prog.readableRec ·))=true:=by kernel_rfl
theorem aru:(namedTie Tryz.pinned.checked.prog Rows.stationsRatedRow.named Rows.stationsRatedSpec.vars)=true:=by kernel_rfl
theorem arv:((Rows.stationsRatedRow.stops==[]))=true:=by kernel_rfl
theorem arw:((Rows.stationsRatedRow.knobs==[]))=true:=by kernel_rfl
theorem arx:((Rows.stationsRatedRow.inPlace==Tryz.pinned.checked.prog.inPlace 3))=true:=by kernel_rfl
theorem ary:((Rows.stationsRatedRow.unfollowed==Tryz.pinned.checked.prog.unfollowed 3))=true:=by kernel_rfl
theorem arz:((Rows.stationsRatedRow.recurses==Tryz.pinned.checked.prog.recurses 3))=true:=by kernel_rfl
theorem arA:((Rows.stationsRatedRow.named==Tryz.pinned.checked.prog.varsNamed 3))=true:=by kernel_rfl
theorem arB:((Rows.stationsRatedRow.maps==(Tryz.f3.params.toList++Rows.stationsRatedSpec.plain.varTypes Tryz.pinned.checked.prog).any (Tryz.pinned.checked.prog.mapsRec ·)))=true:=by kernel_rfl
theorem arC:((Rows.stationsRatedRow.ifaces==(Tryz.f3.params.toList++Rows.stationsRatedSpec.plain.varTypes Tryz.pinned.checked.prog).any (Tryz.pinned.checked.prog.ifacesRec ·)))=true:=by kernel_rfl
theorem arD:((Rows.stationsRatedRow.mapsOut==Tryz.pinned.checked.prog.mapsAmong Tryz.f3.resultTypes.toList))=true:=by kernel_rfl
theorem arE:((Rows.stationsRatedRow.loops==(Tryz.f3.params.toList++Rows.stationsRatedSpec.plain.varTypes Tryz.pinned.checked.prog).any (Tryz.pinned.checked.prog.loopsFrom ·)))=true:=by kernel_rfl
theorem arF:((Rows.stationsRatedRow.wideKeys==(Tryz.f3.params.toList++Rows.stationsRatedSpec.plain.varTypes Tryz.pinned.checked.prog++Tryz.f3.resultTypes.toList).any (Tryz.pinned.checked.prog.wideKeysFrom ·)))=true:=by kernel_rfl
theorem arG:(Rows.stationsRatedSpec.vars.all (Tryz.pinned.checked.prog.varReadable ·))=true:=by kernel_rfl
theorem arH:(Tryz.f3.resultTypes.all (fun t=>Tryz.pinned.checked.prog.readableRec t&&decide (t<Tryz.pinned.checked.prog.types.size)))=true:=by kernel_rfl
theorem arI:((Rows.stationsRatedRow.ifacesOut==Tryz.f3.resultTypes.toList.any (Tryz.pinned.checked.prog.ifacesRec ·)))=true:=by kernel_rfl
theorem arJ:((Rows.stationsRatedRow.loopsOut==Tryz.f3.resultTypes.toList.any (Tryz.pinned.checked.prog.loopsFrom ·)))=true:=by kernel_rfl
theorem arK:(Rows.stationsRatedRow.shortTexts.isNone)=true:=by kernel_rfl
theorem arL:((Rows.stationsRatedRow.lifted==Tryz.pinned.checked.prog.liftsFinal))=true:=by kernel_rfl
theorem arM:((Tryz.pinned.checked.prog.make==some Rows.stationsRatedRow.make))=true:=by kernel_rfl
theorem arN:((Rows.stationsRatedRow.kinds==(if Rows.stationsRatedRow.domain.isEmpty then [] else Tryz.f3.params.toList.map fun t=>match Tryz.pinned.checked.prog.underlying t with|some (.int k)=>some k|_=>none)))=true:=by kernel_rfl
theorem arO:((Rows.stationsRatedRow.pinned==Rows.stationsRatedRow.pinnedBy))=true:=by kernel_rfl
theorem arP:((Rows.stationsRatedRow.veiled==(Tryz.f3.params.toList++Rows.stationsRatedSpec.plain.varTypes Tryz.pinned.checked.prog++Tryz.f3.resultTypes.toList).any (Tryz.pinned.checked.prog.veiledRec ·)))=true:=by kernel_rfl
theorem arQ:(Rows.stationsRatedRow.veiledFits Tryz.pinned.checked.prog Tryz.f3.params.toList (Tryz.f3.params.toList++Rows.stationsRatedSpec.plain.varTypes Tryz.pinned.checked.prog++Tryz.f3.resultTypes.toList))=true:=by kernel_rfl
theorem arR:false=Rows.stationsRatedRow.goesBy Tryz.pinned.checked.prog:=by kernel_rfl

set_option maxRecDepth 100000 in
theorem arS(os:Os)(v:os.Started)(H:Type)(d:TypeId × Value->H) :
  ReturnsInHanded {} Tryz.checked os 3 .any (fun w args=>(Rows.stationsRatedSpec.pre d Tryz.prog Tryz.f3 Rows.stationsRatedRow.domain false w args/\laidMetH Tryz.prog Rows.stationsRatedRow.laid w)/\sizedMet d Tryz.prog Tryz.f3 (Z1 Rows.stationsRatedSpec) false w args)
   (Rows.stationsRatedSpec.post d Tryz.prog Tryz.f3 false true false false):=by
 refine returnsInHanded_of_change_and (C:=Tryz.checked) (X:=fun w _=>laidMetH Tryz.prog Rows.stationsRatedRow.laid w) (fun _ _ _ M h=>h.of_heap M) ard v (by kernel_rfl) Tryz.func3
  (ChangeSpec.witness_shaped (enc := d) (C := Tryz.checked) (os := os) (X := fun w _ => laidMetH Tryz.prog Rows.stationsRatedRow.laid w) false (World.laidAll Tryz.prog os Rows.stationsRatedRow.laid) #[.slice none 0 0] 8 (World.laidAll_os _ _ _)
   (World.shaped_of_ZipB (by kernel_rfl) (by kernel_rfl)) (by kernel_rfl) (by kernel_rfl) (by kernel_rfl)
   (by rw[MakeChecks.laidMetH_plain _ _ _ (by kernel_rfl)]; exact laidMet_laidAll _ (by kernel_rfl) (by kernel_rfl))) ?_
 intro W aU args U gs O y N _ _ hx _;have I:∀p∈Bb,∃t f,W.heap[p.1]?=some (.cells p.2 t f):=by
  intro p k;unfold Bb at k;cases k
 exact arc Tryz.params3 (tB:=4) (by kernel_rfl) Tryz.underlying22 Tryz.underlying3 (by kernel_rfl) Tryz.underlying4 rfl (fun _=>rfl) arq I y N

set_option maxRecDepth 100000 in
theorem arT:Rows.StationsRatedSaid:=
 OpenClaim.holds_of_wide 3 Tryz.f3 rfl rfl rfl rfl rfl rfl rfl ⟨rfl,rfl,rfl,rfl,rfl⟩ rfl rfl rfl rfl rfl (by kernel_rfl) Tryz.func3 (aq' ars arf arh art aru arv ari arw arj arx ary arz arA arB arC arD arE arF arG arH arI arJ ark arK arl arn arL arM arN arO arP arQ)
  (of_decide_eq_true (by kernel_rfl)) (by unfold Func.isWrapper; first|(rw[if_pos (by decide +kernel)]; kernel_rfl)|(rw[if_neg (by decide +kernel)]; exact⟨rfl,rfl⟩))
  (fun os d H h _=>arS os d H h)
set_option maxRecDepth 100000 in
theorem stationsRated_holds:Rows.StationsRatedCardSaid:=
 Claim7.holds_tied_plain_at .later [] [.data,.data,.data,.data,.pinned] true (true, "a0186e3bc27ce47688098666122cba3edb5d4ddbf65a0c0f8dc335c6a11e5f2d") false arT (fun _ h=>by cases h) (by kernel_rfl) (fun _ h=>by cases h) stationsRated_row_tie rfl ⟨rfl,rfl⟩ aro rfl
  (fun f fn y v=>by
   obtain rfl:f=3:=jB ((show Tryz.prog.funcNamed Rows.stationsRatedRow.func=some 3 by kernel_rfl).symm.trans y) |>.symm
   obtain rfl:fn=Tryz.f3:=(jB (Tryz.func3.symm.trans v)).symm;exact⟨arp,fun j t d=>by
    rw[Tryz.params3]at d;have hm:t∈[22]:=by simpa using Array.mem_of_getElem? d
    have k:([22].all fun u => !Tryz.prog.wantsStandIn u)=true:=by kernel_rfl
    exact(show Tryz.prog.wantsStandIn t=false by simpa using List.all_eq_true.1 k t hm)⟩)
  arR
#print axioms stationsRated_holds
end Go.Proofs.YtpgfflhcmodgdaaGreatDoor
