/-
 What is proved here: whatever numbers pileup's law ContactsFound is called at,it answers true,and the slice reads as before. Conditions: those of the given card alone (the listed variables as the program's text lays them).
-/
import Derived.Test.YtpaljghdgljgiaaGreatDoorTie
import Derived.Test.YtpaljghdgljgiaaGreatDoorCards
import Derived.Test.YtpaljghdgljgiaaGreatDoorMJ
import Derived.Test.YtpaljghdgljgiaaGreatDoorMS
set_option linter.all false
open Go.OpenSpec renaming ofChange->Ul
open Option.some renaming inj->jd
namespace Go.Proofs.YtpaljghdgljgiaaGreatDoor
open Go Go.AL Go.ChangeShapes Go.WideShapes Go.ChangeAt Go.RowKit

theorem ajC(rZ:List (List G)):fN Tryz.prog 3 [.listF [.int .i64] rZ] [] (.lit (.bool true)) []:=jq.ak6 [.l rZ] [.t true] (jq.ajn rZ)
theorem ajD:(Rows.contactsFoundRow.wf (Ul Rows.contactsFoundSpec))=true:=by kernel_rfl
theorem ajE:(Tryz.f3.params.all (Tryz.pinned.checked.prog.readableRec ·))=true:=by kernel_rfl
theorem ajF:(namedTie Tryz.pinned.checked.prog Rows.contactsFoundRow.named Rows.contactsFoundSpec.vars)=true:=by kernel_rfl
theorem ajG:((Rows.contactsFoundRow.stops==[]))=true:=by kernel_rfl
theorem ajH:((Rows.contactsFoundRow.knobs==[]))=true:=by kernel_rfl
theorem ajI:((Rows.contactsFoundRow.inPlace==Tryz.pinned.checked.prog.inPlace 3))=true:=by kernel_rfl
theorem ajJ:((Rows.contactsFoundRow.unfollowed==Tryz.pinned.checked.prog.unfollowed 3))=true:=by kernel_rfl
theorem ajK:((Rows.contactsFoundRow.recurses==Tryz.pinned.checked.prog.recurses 3))=true:=by kernel_rfl
theorem ajL:((Rows.contactsFoundRow.named==Tryz.pinned.checked.prog.varsNamed 3))=true:=by kernel_rfl
theorem ajM:((Rows.contactsFoundRow.maps==(Tryz.f3.params.toList++Rows.contactsFoundSpec.plain.varTypes Tryz.pinned.checked.prog).any (Tryz.pinned.checked.prog.mapsRec ·)))=true:=by kernel_rfl
theorem ajN:((Rows.contactsFoundRow.ifaces==(Tryz.f3.params.toList++Rows.contactsFoundSpec.plain.varTypes Tryz.pinned.checked.prog).any (Tryz.pinned.checked.prog.ifacesRec ·)))=true:=by kernel_rfl
theorem ajO:((Rows.contactsFoundRow.mapsOut==Tryz.pinned.checked.prog.mapsAmong Tryz.f3.resultTypes.toList))=true:=by kernel_rfl
theorem ajP:((Rows.contactsFoundRow.loops==(Tryz.f3.params.toList++Rows.contactsFoundSpec.plain.varTypes Tryz.pinned.checked.prog).any (Tryz.pinned.checked.prog.loopsFrom ·)))=true:=by kernel_rfl
theorem ajQ:((Rows.contactsFoundRow.wideKeys==(Tryz.f3.params.toList++Rows.contactsFoundSpec.plain.varTypes Tryz.pinned.checked.prog++Tryz.f3.resultTypes.toList).any (Tryz.pinned.checked.prog.wideKeysFrom ·)))=true:=by kernel_rfl
theorem ajR:(Rows.contactsFoundSpec.vars.all (Tryz.pinned.checked.prog.varReadable ·))=true:=by kernel_rfl
theorem ajS:(Tryz.f3.resultTypes.all (fun t=>Tryz.pinned.checked.prog.readableRec t&&decide (t<Tryz.pinned.checked.prog.types.size)))=true:=by kernel_rfl
theorem ajT:((Rows.contactsFoundRow.ifacesOut==Tryz.f3.resultTypes.toList.any (Tryz.pinned.checked.prog.ifacesRec ·)))=true:=by kernel_rfl
theorem ajU:((Rows.contactsFoundRow.loopsOut==Tryz.f3.resultTypes.toList.any (Tryz.pinned.checked.prog.loopsFrom ·)))=true:=by kernel_rfl
theorem ajV:(Rows.contactsFoundRow.shortTexts.isNone)=true:=by kernel_rfl
theorem ajW:((Rows.contactsFoundRow.lifted==Tryz.pinned.checked.prog.liftsFinal))=true:=by kernel_rfl
theorem ajX:((Tryz.pinned.checked.prog.make==some Rows.contactsFoundRow.make))=true:=by kernel_rfl
theorem ajY:((Rows.contactsFoundRow.kinds==(if Rows.contactsFoundRow.domain.isEmpty then [] else Tryz.f3.params.toList.map fun t=>match Tryz.pinned.checked.prog.underlying t with|some (.int k)=>some k|_=>none)))=true:=by kernel_rfl
theorem ajZ:((Rows.contactsFoundRow.pinned==Rows.contactsFoundRow.pinnedBy))=true:=by kernel_rfl
theorem aj0:((Rows.contactsFoundRow.veiled==(Tryz.f3.params.toList++Rows.contactsFoundSpec.plain.varTypes Tryz.pinned.checked.prog++Tryz.f3.resultTypes.toList).any (Tryz.pinned.checked.prog.veiledRec ·)))=true:=by kernel_rfl
theorem aj1:(Rows.contactsFoundRow.veiledFits Tryz.pinned.checked.prog Tryz.f3.params.toList (Tryz.f3.params.toList++Rows.contactsFoundSpec.plain.varTypes Tryz.pinned.checked.prog++Tryz.f3.resultTypes.toList))=true:=by kernel_rfl
theorem aj2:false=Rows.contactsFoundRow.goesBy Tryz.pinned.checked.prog:=by kernel_rfl

set_option maxRecDepth 100000 in
theorem aj3(os:Os)(k:os.Started)(H:Type)(d:TypeId × Value->H) :
  ReturnsInHanded {} Tryz.checked os 3 .any (fun w args=>(Rows.contactsFoundSpec.pre d Tryz.prog Tryz.f3 Rows.contactsFoundRow.domain false w args/\laidMetH Tryz.prog Rows.contactsFoundRow.laid w)/\sizedMet d Tryz.prog Tryz.f3 (Ul Rows.contactsFoundSpec) false w args)
   (Rows.contactsFoundSpec.post d Tryz.prog Tryz.f3 false true false false):=by
 refine returnsInHanded_of_change_and (C:=Tryz.checked) (X:=fun w _=>laidMetH Tryz.prog Rows.contactsFoundRow.laid w) (fun _ _ _ y h=>h.of_heap y) ajs k (by kernel_rfl) Tryz.func3
  (ChangeSpec.witness_shaped (enc := d) (C := Tryz.checked) (os := os) (X := fun w _ => laidMetH Tryz.prog Rows.contactsFoundRow.laid w) false (World.laidAll Tryz.prog os Rows.contactsFoundRow.laid) #[.slice none 0 0] 8 (World.laidAll_os _ _ _)
   (World.shaped_of_ZipB (by kernel_rfl) (by kernel_rfl)) (by kernel_rfl) (by kernel_rfl) (by kernel_rfl)
   (by rw[MakeChecks.laidMetH_plain _ _ _ (by kernel_rfl)]; exact laidMet_laidAll _ (by kernel_rfl) (by kernel_rfl))) ?_
 intro W aN args N O M q I _ _ U _;have v:∀ p∈x9,∃ t f,W.heap[p.1]? = some (.cells p.2 t f):=by
  intro p g;unfold x9 at g;cases g
 exact ajr Tryz.params3 (tB:=4) (by kernel_rfl) Tryz.underlying22 Tryz.underlying3 (by kernel_rfl) Tryz.underlying4 rfl (fun _=>rfl) ajC v q I

set_option maxRecDepth 100000 in
theorem aj4:Rows.ContactsFoundSaid :=
 OpenClaim.holds_of_wide 3 Tryz.f3 rfl rfl rfl rfl rfl rfl rfl ⟨rfl,rfl,rfl,rfl,rfl⟩ rfl rfl rfl rfl rfl (by kernel_rfl) Tryz.func3 (ajo ajD ajt aju ajE ajF ajG ajv ajH ajw ajI ajJ ajK ajL ajM ajN ajO ajP ajQ ajR ajS ajT ajU ajx ajV ajy ajz ajW ajX ajY ajZ aj0 aj1)
  (of_decide_eq_true (by kernel_rfl)) (by unfold Func.isWrapper; first|(rw[if_pos (by decide +kernel)]; kernel_rfl)|(rw[if_neg (by decide +kernel)]; exact⟨rfl,rfl⟩))
  (fun os d H g _=>aj3 os d H g)
set_option maxRecDepth 100000 in
theorem contactsFound_holds:Rows.ContactsFoundCardSaid :=
 Claim7.holds_tied_plain_at .later [] [.data,.data,.data,.data,.pinned] true (true, "b53b180879e6f6b5c37c144a41913effa17d9fcf2a60685b01aa0d1332171510") false aj4 (fun _ h=>by cases h) (by kernel_rfl) (fun _ h=>by cases h) contactsFound_row_tie rfl ⟨rfl,rfl⟩ ajA rfl
  (fun f fn q k => by
   obtain rfl:f=3:=jd ((show Tryz.prog.funcNamed Rows.contactsFoundRow.func=some 3 by kernel_rfl).symm.trans q) |>.symm
   obtain rfl:fn=Tryz.f3:=(jd (Tryz.func3.symm.trans k)).symm;exact⟨ajB,fun j t d=>by
    rw[Tryz.params3]at d;have hm:t∈[22]:=by simpa using Array.mem_of_getElem? d
    have g:([22].all fun u => !Tryz.prog.wantsStandIn u)=true:=by kernel_rfl
    exact(show Tryz.prog.wantsStandIn t=false by simpa using List.all_eq_true.1 g t hm)⟩)
  aj2
#print axioms contactsFound_holds
end Go.Proofs.YtpaljghdgljgiaaGreatDoor
