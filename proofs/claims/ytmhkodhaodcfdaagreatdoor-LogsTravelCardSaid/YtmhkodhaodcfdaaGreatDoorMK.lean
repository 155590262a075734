/-
 What is proved here: whatever numbers pileup's law LogsTravel is called at,it answers true,and the slice reads as before. Conditions: those of the given card alone (the listed variables as the program's text lays them).
-/
import Derived.Test.YtmhkodhaodcfdaaGreatDoorTie
import Derived.Test.YtmhkodhaodcfdaaGreatDoorCards
import Derived.Test.YtmhkodhaodcfdaaGreatDoorMJ
import Derived.Test.YtmhkodhaodcfdaaGreatDoorMG
import Derived.Stop.LaidErr
import Derived.Test.YtmhkodhaodcfdaaGreatDoorMS
set_option linter.all false
open Go.Lib renaming pow10Tab->akz
open Go.MakeChecks renaming laidMetH_plain->akx
open Go.OpenSpec renaming ofChange->Ts
open Go.laidMet renaming tail->aky
open Option.some renaming inj->iA
namespace Go.Proofs.YtmhkodhaodcfdaaGreatDoor
open Go Go.AL Go.ChangeShapes Go.WideShapes Go.ChangeAt Go.RowKit

theorem ajg(rZ:List (List G)):eK Tryz.prog 3 [.listF [.int .i64] rZ] [] (.lit (.bool true)) []:=jL.QT [.l rZ] [.t true] (jL.ai3 rZ)
theorem ajh:(Rows.logsTravelRow.wf (Ts Rows.logsTravelSpec))=true:=by kernel_rfl
theorem aji:(Tryz.f3.params.all (Tryz.pinned.checked.prog.readableRec ·))=true:=by kernel_rfl
theorem ajj:(namedTie Tryz.pinned.checked.prog Rows.logsTravelRow.named Rows.logsTravelSpec.vars)=true:=by kernel_rfl
theorem ajk:((Rows.logsTravelRow.stops==[]))=true:=by kernel_rfl
theorem ajl:((Rows.logsTravelRow.knobs==[]))=true:=by kernel_rfl
theorem ajm:((Rows.logsTravelRow.inPlace==Tryz.pinned.checked.prog.inPlace 3))=true:=by kernel_rfl
theorem ajn:((Rows.logsTravelRow.unfollowed==Tryz.pinned.checked.prog.unfollowed 3))=true:=by kernel_rfl
theorem ajo:((Rows.logsTravelRow.recurses==Tryz.pinned.checked.prog.recurses 3))=true:=by kernel_rfl
theorem ajp:((Rows.logsTravelRow.named==Tryz.pinned.checked.prog.varsNamed 3))=true:=by kernel_rfl
theorem ajq:((Rows.logsTravelRow.maps==(Tryz.f3.params.toList++Rows.logsTravelSpec.plain.varTypes Tryz.pinned.checked.prog).any (Tryz.pinned.checked.prog.mapsRec ·)))=true:=by kernel_rfl
theorem ajr:((Rows.logsTravelRow.ifaces==(Tryz.f3.params.toList++Rows.logsTravelSpec.plain.varTypes Tryz.pinned.checked.prog).any (Tryz.pinned.checked.prog.ifacesRec ·)))=true:=by kernel_rfl
theorem ajs:((Rows.logsTravelRow.mapsOut==Tryz.pinned.checked.prog.mapsAmong Tryz.f3.resultTypes.toList))=true:=by kernel_rfl
theorem ajt:((Rows.logsTravelRow.loops==(Tryz.f3.params.toList++Rows.logsTravelSpec.plain.varTypes Tryz.pinned.checked.prog).any (Tryz.pinned.checked.prog.loopsFrom ·)))=true:=by kernel_rfl
theorem aju:((Rows.logsTravelRow.wideKeys==(Tryz.f3.params.toList++Rows.logsTravelSpec.plain.varTypes Tryz.pinned.checked.prog++Tryz.f3.resultTypes.toList).any (Tryz.pinned.checked.prog.wideKeysFrom ·)))=true:=by kernel_rfl
theorem ajv:(Rows.logsTravelSpec.vars.all (Tryz.pinned.checked.prog.varReadable ·))=true:=by kernel_rfl
theorem ajw:(Tryz.f3.resultTypes.all (fun t=>Tryz.pinned.checked.prog.readableRec t&&decide (t<Tryz.pinned.checked.prog.types.size)))=true:=by kernel_rfl
theorem ajx:((Rows.logsTravelRow.ifacesOut==Tryz.f3.resultTypes.toList.any (Tryz.pinned.checked.prog.ifacesRec ·)))=true:=by kernel_rfl
theorem ajy:((Rows.logsTravelRow.loopsOut==Tryz.f3.resultTypes.toList.any (Tryz.pinned.checked.prog.loopsFrom ·)))=true:=by kernel_rfl
theorem ajz:(Rows.logsTravelRow.shortTexts.isNone)=true:=by kernel_rfl
theorem ajA:((Rows.logsTravelRow.lifted==Tryz.pinned.checked.prog.liftsFinal))=true:=by kernel_rfl
theorem ajB:((Tryz.pinned.checked.prog.make==some Rows.logsTravelRow.make))=true:=by kernel_rfl
theorem ajC:((Rows.logsTravelRow.kinds==(if Rows.logsTravelRow.domain.isEmpty then [] else Tryz.f3.params.toList.map fun t=>match Tryz.pinned.checked.prog.underlying t with|some (.int k)=>some k|_=>none)))=true:=by kernel_rfl
theorem ajD:((Rows.logsTravelRow.pinned==Rows.logsTravelRow.pinnedBy))=true:=by kernel_rfl
theorem ajE:((Rows.logsTravelRow.veiled==(Tryz.f3.params.toList++Rows.logsTravelSpec.plain.varTypes Tryz.pinned.checked.prog++Tryz.f3.resultTypes.toList).any (Tryz.pinned.checked.prog.veiledRec ·)))=true:=by kernel_rfl
theorem ajF:(Rows.logsTravelRow.veiledFits Tryz.pinned.checked.prog Tryz.f3.params.toList (Tryz.f3.params.toList++Rows.logsTravelSpec.plain.varTypes Tryz.pinned.checked.prog++Tryz.f3.resultTypes.toList))=true:=by kernel_rfl
theorem ajG:false=Rows.logsTravelRow.goesBy Tryz.pinned.checked.prog:=by kernel_rfl

set_option maxRecDepth 100000 in
theorem ajH(os:Os)(q:os.Started)(H:Type)(a:TypeId × Value->H) :
  ReturnsInHanded {} Tryz.checked os 3 .any (fun w args=>(Rows.logsTravelSpec.pre a Tryz.prog Tryz.f3 Rows.logsTravelRow.domain false w args/\laidMetH Tryz.prog Rows.logsTravelRow.laid w)/\sizedMet a Tryz.prog Tryz.f3 (Ts Rows.logsTravelSpec) false w args)
   (Rows.logsTravelSpec.post a Tryz.prog Tryz.f3 false true false false):=by
 refine returnsInHanded_of_change_and (C:=Tryz.checked) (X:=fun w _=>laidMetH Tryz.prog Rows.logsTravelRow.laid w) (fun _ _ _ z h=>h.of_heap z) ai8 q (by kernel_rfl) Tryz.func3
  (ChangeSpec.witness_shaped (enc := a) (C := Tryz.checked) (os := os) (X := fun w _ => laidMetH Tryz.prog Rows.logsTravelRow.laid w) false (World.laidAll Tryz.prog os Rows.logsTravelRow.laid) #[.slice none 0 0] 8 (World.laidAll_os _ _ _)
   (World.shaped_of_ZipB (by kernel_rfl) (by kernel_rfl)) (by kernel_rfl) (by kernel_rfl) (by kernel_rfl)
   (by rw[akx _ _ _ (by kernel_rfl)]; exact laidMet_laidAll _ (by kernel_rfl) (by kernel_rfl))) ?_
 intro W aN args I J F v A _ _ b _;have y:∀ p∈uM,∃ t f,W.heap[p.1]? = some (.cells p.2 t f):=by
  intro p d;unfold uM at d;obtain rfl:=List.mem_singleton.1 d;rw[akx _ _ _ (by kernel_rfl)]at b;have B:=aky (aky (b));exact X5 (k:=.u64) (zs:=akz) (g:=1) (by kernel_rfl) (Lib.tabIs_of_head (P:=Tryz.prog) (k:=.u64) (zs:=akz) (g:=1) (t:=176) (e:=156) (n:=20) (by kernel_rfl) (by kernel_rfl) (by kernel_rfl) (by kernel_rfl) (by kernel_rfl) (by kernel_rfl) B)
 exact ai7 Tryz.params3 (tB:=4) (by kernel_rfl) Tryz.underlying22 Tryz.underlying3 (by kernel_rfl) Tryz.underlying4 rfl (fun _=>rfl) ajg y v A

set_option maxRecDepth 100000 in
theorem ajI:Rows.LogsTravelSaid :=
 OpenClaim.holds_of_wide 3 Tryz.f3 rfl rfl rfl rfl rfl rfl rfl ⟨rfl,rfl,rfl,rfl,rfl⟩ rfl rfl rfl rfl rfl (by kernel_rfl) Tryz.func3 (ai4 ajh ai9 ai_ aji ajj ajk ai' ajl aja ajm ajn ajo ajp ajq ajr ajs ajt aju ajv ajw ajx ajy ajb ajz ajc ajd ajA ajB ajC ajD ajE ajF)
  (of_decide_eq_true (by kernel_rfl)) (by unfold Func.isWrapper; first|(rw[if_pos (by decide +kernel)]; kernel_rfl)|(rw[if_neg (by decide +kernel)]; exact⟨rfl,rfl⟩))
  (fun os a H b _=>ajH os a H b)
set_option maxRecDepth 100000 in
theorem logsTravel_holds:Rows.LogsTravelCardSaid :=
 Claim7.holds_tied_plain_at .later [] [.data,.data,.data,.data,.sentinel,.sentinel,.pinned] true (true, "0605be03b4828d5d276e46c32dcc97e9d71015115d3d0e8a51158c53b763862a") true ajI (fun _ h=>by cases h) (by kernel_rfl) (fun _ h=>by cases h) logsTravel_row_tie rfl ⟨rfl,rfl⟩ aje rfl
  (fun f fn g d => by
   obtain rfl:f=3:=iA ((show Tryz.prog.funcNamed Rows.logsTravelRow.func=some 3 by kernel_rfl).symm.trans g) |>.symm
   obtain rfl:fn=Tryz.f3:=(iA (Tryz.func3.symm.trans d)).symm;exact⟨ajf,fun j t a=>by
    rw[Tryz.params3]at a;have hm:t∈[22]:=by simpa using Array.mem_of_getElem? a
    have b:([22].all fun u => !Tryz.prog.wantsStandIn u)=true:=by kernel_rfl
    exact(show Tryz.prog.wantsStandIn t=false by simpa using List.all_eq_true.1 b t hm)⟩)
  ajG
#print axioms logsTravel_holds
end Go.Proofs.YtmhkodhaodcfdaaGreatDoor
