/-
 What is proved here: whatever numbers pileup's law NumbersGiven is called at,it answers true,and the slice reads as before. Conditions: those of the given card alone (the listed variables as the program's text lays them).
-/
import Derived.Test.YtppdbdblllpimaaGreatDoorTie
import Derived.Test.YtppdbdblllpimaaGreatDoorCards
import Derived.Test.YtppdbdblllpimaaGreatDoorMJ
import Derived.Test.YtppdbdblllpimaaGreatDoorMG
import Derived.Stop.LaidErr
import Derived.Test.YtppdbdblllpimaaGreatDoorMS
set_option linter.all false
open Go.Lib renaming pow10Tab→akx
open Go.MakeChecks renaming laidMetH_plain→akv
open Go.OpenSpec renaming ofChange→UY
open Go.laidMet renaming tail→akw
open Option.some renaming inj→nT
namespace Go.Proofs.YtppdbdblllpimaaGreatDoor
open Go Go.AL Go.ChangeShapes Go.WideShapes Go.ChangeAt Go.RowKit

theorem ajl(rows:List (List G)):cz Tryz.prog 3 [.listF [.int .i64] rows] [] (.lit (.bool true)) []:=gT.SL [.l rows] [.t true] (gT.ai9 rows)
theorem ajm:(Rows.numbersGivenRow.wf (UY Rows.numbersGivenSpec))=true:=by kernel_rfl
theorem ajn:(Tryz.f3.params.all (Tryz.pinned.checked.prog.readableRec ·))=true:=by kernel_rfl
theorem ajo:(namedTie Tryz.pinned.checked.prog Rows.numbersGivenRow.named Rows.numbersGivenSpec.vars)=true:=by kernel_rfl
theorem ajp:((Rows.numbersGivenRow.stops==[]))=true:=by kernel_rfl
theorem ajq:((Rows.numbersGivenRow.knobs==[]))=true:=by kernel_rfl
theorem ajr:((Rows.numbersGivenRow.inPlace==Tryz.pinned.checked.prog.inPlace 3))=true:=by kernel_rfl
theorem ajs:((Rows.numbersGivenRow.unfollowed==Tryz.pinned.checked.prog.unfollowed 3))=true:=by kernel_rfl
theorem ajt:((Rows.numbersGivenRow.recurses==Tryz.pinned.checked.prog.recurses 3))=true:=by kernel_rfl
theorem aju:((Rows.numbersGivenRow.named==Tryz.pinned.checked.prog.varsNamed 3))=true:=by kernel_rfl
theorem ajv:((Rows.numbersGivenRow.maps==(Tryz.f3.params.toList++Rows.numbersGivenSpec.plain.varTypes Tryz.pinned.checked.prog).any (Tryz.pinned.checked.prog.mapsRec ·)))=true:=by kernel_rfl
theorem ajw:((Rows.numbersGivenRow.ifaces==(Tryz.f3.params.toList++Rows.numbersGivenSpec.plain.varTypes Tryz.pinned.checked.prog).any (Tryz.pinned.checked.prog.ifacesRec ·)))=true:=by kernel_rfl
theorem ajx:((Rows.numbersGivenRow.mapsOut==Tryz.pinned.checked.prog.mapsAmong Tryz.f3.resultTypes.toList))=true:=by kernel_rfl
theorem ajy:((Rows.numbersGivenRow.loops==(Tryz.f3.params.toList++Rows.numbersGivenSpec.plain.varTypes Tryz.pinned.checked.prog).any (Tryz.pinned.checked.prog.loopsFrom ·)))=true:=by kernel_rfl
theorem ajz:((Rows.numbersGivenRow.wideKeys==(Tryz.f3.params.toList++Rows.numbersGivenSpec.plain.varTypes Tryz.pinned.checked.prog++Tryz.f3.resultTypes.toList).any (Tryz.pinned.checked.prog.wideKeysFrom ·)))=true:=by kernel_rfl
theorem ajA:(Rows.numbersGivenSpec.vars.all (Tryz.pinned.checked.prog.varReadable ·))=true:=by kernel_rfl
theorem ajB:(Tryz.f3.resultTypes.all (fun t=>Tryz.pinned.checked.prog.readableRec t&&decide (t<Tryz.pinned.checked.prog.types.size)))=true:=by kernel_rfl
theorem ajC:((Rows.numbersGivenRow.ifacesOut==Tryz.f3.resultTypes.toList.any (Tryz.pinned.checked.prog.ifacesRec ·)))=true:=by kernel_rfl
theorem ajD:((Rows.numbersGivenRow.loopsOut==Tryz.f3.resultTypes.toList.any (Tryz.pinned.checked.prog.loopsFrom ·)))=true:=by kernel_rfl
theorem ajE:(Rows.numbersGivenRow.shortTexts.isNone)=true:=by kernel_rfl
theorem ajF:((Rows.numbersGivenRow.lifted==Tryz.pinned.checked.prog.liftsFinal))=true:=by kernel_rfl
theorem ajG:((Tryz.pinned.checked.prog.make==some Rows.numbersGivenRow.make))=true:=by kernel_rfl
theorem ajH:((Rows.numbersGivenRow.kinds==(if Rows.numbersGivenRow.domain.isEmpty then [] else Tryz.f3.params.toList.map fun t=>match Tryz.pinned.checked.prog.underlying t with|some (.int k)=>some k|_=>none)))=true:=by kernel_rfl
theorem ajI:((Rows.numbersGivenRow.pinned==Rows.numbersGivenRow.pinnedBy))=true:=by kernel_rfl
theorem ajJ:((Rows.numbersGivenRow.veiled==(Tryz.f3.params.toList++Rows.numbersGivenSpec.plain.varTypes Tryz.pinned.checked.prog++Tryz.f3.resultTypes.toList).any (Tryz.pinned.checked.prog.veiledRec ·)))=true:=by kernel_rfl
theorem ajK:(Rows.numbersGivenRow.veiledFits Tryz.pinned.checked.prog Tryz.f3.params.toList (Tryz.f3.params.toList++Rows.numbersGivenSpec.plain.varTypes Tryz.pinned.checked.prog++Tryz.f3.resultTypes.toList))=true:=by kernel_rfl
theorem ajL:false=Rows.numbersGivenRow.goesBy Tryz.pinned.checked.prog:=by kernel_rfl

set_option maxRecDepth 100000 in
theorem ajM(os:Os)(started:os.Started)(H:Type)(enc:TypeId × Value→H) :
  ReturnsInHanded {} Tryz.checked os 3 .any (fun w args=>(Rows.numbersGivenSpec.pre enc Tryz.prog Tryz.f3 Rows.numbersGivenRow.domain false w args∧laidMetH Tryz.prog Rows.numbersGivenRow.laid w)∧sizedMet enc Tryz.prog Tryz.f3 (UY Rows.numbersGivenSpec) false w args)
   (Rows.numbersGivenSpec.post enc Tryz.prog Tryz.f3 false true false false):=by
 refine returnsInHanded_of_change_and (C:=Tryz.checked) (X:=fun w _=>laidMetH Tryz.prog Rows.numbersGivenRow.laid w) (fun _ _ _ F h=>h.of_heap F) cg started (by kernel_rfl) Tryz.func3
  (ChangeSpec.witness_shaped (enc := enc) (C := Tryz.checked) (os := os) (X := fun w _ => laidMetH Tryz.prog Rows.numbersGivenRow.laid w) false (World.laidAll Tryz.prog os Rows.numbersGivenRow.laid) #[.slice none 0 0] 8 (World.laidAll_os _ _ _)
   (World.shaped_of_ZipB (by kernel_rfl) (by kernel_rfl)) (by kernel_rfl) (by kernel_rfl) (by kernel_rfl)
   (by rw[akv _ _ _ (by kernel_rfl)]; exact laidMet_laidAll _ (by kernel_rfl) (by kernel_rfl))) ?_
 intro W base args J gs before A I _ _ d _;have B:∀ p∈tc,∃ t f,W.heap[p.1]? = some (.cells p.2 t f):=by
  intro p q;unfold tc at q;obtain rfl:=List.mem_singleton.1 q;rw[akv _ _ _ (by kernel_rfl)]at d;have h1:=akw (akw (d));exact YH (k:=.u64) (zs:=akx) (g:=1) (by kernel_rfl) (Lib.tabIs_of_head (P:=Tryz.prog) (k:=.u64) (zs:=akx) (g:=1) (t:=223) (e:=161) (n:=20) (by kernel_rfl) (by kernel_rfl) (by kernel_rfl) (by kernel_rfl) (by kernel_rfl) (by kernel_rfl) h1)
 exact ajb Tryz.params3 (tB:=4) (by kernel_rfl) Tryz.underlying22 Tryz.underlying3 (by kernel_rfl) Tryz.underlying4 rfl (fun _=>rfl) ajl B A I

set_option maxRecDepth 100000 in
theorem ajN:Rows.NumbersGivenSaid :=
 OpenClaim.holds_of_wide 3 Tryz.f3 rfl rfl rfl rfl rfl rfl rfl ⟨rfl,rfl,rfl,rfl,rfl⟩ rfl rfl rfl rfl rfl (by kernel_rfl) Tryz.func3 (ai_ ajm ajc ajd ajn ajo ajp aje ajq ajf ajr ajs ajt aju ajv ajw ajx ajy ajz ajA ajB ajC ajD ajg ajE ajh aji ajF ajG ajH ajI ajJ ajK)
  (of_decide_eq_true (by kernel_rfl)) (by unfold Func.isWrapper; first|(rw[if_pos (by decide +kernel)]; kernel_rfl)|(rw[if_neg (by decide +kernel)]; exact⟨rfl,rfl⟩))
  (fun os started H enc _=>ajM os started H enc)
set_option maxRecDepth 100000 in
theorem numbersGiven_holds:Rows.NumbersGivenCardSaid :=
 Claim7.holds_tied_plain_at .later [] [.data,.data,.data,.data,.pinned] true (true, "94d0307385eb30bc1a77b2ebabc43c8c3f0acc76d3e4c8b33d0b79bbe8c92959") true ajN (fun _ h=>by cases h) (by kernel_rfl) (fun _ h=>by cases h) numbersGiven_row_tie rfl ⟨rfl,rfl⟩ ajj rfl
  (fun f fn q k => by
   obtain rfl:f=3:=nT ((show Tryz.prog.funcNamed Rows.numbersGivenRow.func=some 3 by kernel_rfl).symm.trans q) |>.symm
   obtain rfl:fn=Tryz.f3:=(nT (Tryz.func3.symm.trans k)).symm;exact⟨ajk,fun j t d=>by
    rw[Tryz.params3]at d;have hm:t∈[22]:=by simpa using Array.mem_of_getElem? d
    have g:([22].all fun u => !Tryz.prog.wantsStandIn u)=true:=by kernel_rfl
    exact(show Tryz.prog.wantsStandIn t=false by simpa using List.all_eq_true.1 g t hm)⟩)
  ajL
#print axioms numbersGiven_holds
end Go.Proofs.YtppdbdblllpimaaGreatDoor
