/-
 What is proved here: whatever numbers pileup's law NetsAnswer is called at,it answers true,and the slice reads as before. Conditions: those of the given card alone (the listed variables as the program's text lays them).
-/
import Derived.Test.YtkkkhbhbjlikhaaGreatDoorTie
import Derived.Test.YtkkkhbhbjlikhaaGreatDoorCards
import Derived.Test.YtkkkhbhbjlikhaaGreatDoorMJ
import Derived.Test.YtkkkhbhbjlikhaaGreatDoorMG
import Derived.Stop.LaidErr
import Derived.Test.YtkkkhbhbjlikhaaGreatDoorMS
set_option linter.all false
open Go.Lib renaming pow10Tab->aur
open Go.MakeChecks renaming laidMetH_plain->aup
open Go.OpenSpec renaming ofChange->aav
open Go.laidMet renaming tail->auq
open Option.some renaming inj->th
namespace Go.Proofs.YtkkkhbhbjlikhaaGreatDoor
open Go Go.AL Go.ChangeShapes Go.WideShapes Go.ChangeAt Go.RowKit

theorem asY(rZ:List (List G)):e_ Tryz.prog 3 [.listF [.int .i64] rZ] [] (.lit (.bool true)) []:=h_.Xt [.l rZ] [.t true] (h_.asJ rZ)
theorem asZ:(Rows.netsAnswerRow.wf (aav Rows.netsAnswerSpec))=true:=by kernel_rfl
theorem as0:(Tryz.f3.params.all (Tryz.pinned.checked.prog.readableRec ·))=true:=by kernel_rfl
theorem as2:(namedTie Tryz.pinned.checked.prog Rows.netsAnswerRow.named Rows.netsAnswerSpec.vars)=true:=by kernel_rfl
theorem as3:((Rows.netsAnswerRow.stops==[]))=true:=by kernel_rfl
theorem as4:((Rows.netsAnswerRow.knobs==[]))=true:=by kernel_rfl
theorem as5:((Rows.netsAnswerRow.inPlace==Tryz.pinned.checked.prog.inPlace 3))=true:=by kernel_rfl
theorem as6:((Rows.netsAnswerRow.unfollowed==Tryz.pinned.checked.prog.unfollowed 3))=true:=by kernel_rfl
theorem as7:((Rows.netsAnswerRow.recurses==Tryz.pinned.checked.prog.recurses 3))=true:=by kernel_rfl
theorem as8:((Rows.netsAnswerRow.named==Tryz.pinned.checked.prog.varsNamed 3))=true:=by kernel_rfl
theorem as9:((Rows.netsAnswerRow.maps==(Tryz.f3.params.toList++Rows.netsAnswerSpec.plain.varTypes Tryz.pinned.checked.prog).any (Tryz.pinned.checked.prog.mapsRec ·)))=true:=by kernel_rfl
theorem ata:((Rows.netsAnswerRow.ifaces==(Tryz.f3.params.toList++Rows.netsAnswerSpec.plain.varTypes Tryz.pinned.checked.prog).any (Tryz.pinned.checked.prog.ifacesRec ·)))=true:=by kernel_rfl
theorem atb:((Rows.netsAnswerRow.mapsOut==Tryz.pinned.checked.prog.mapsAmong Tryz.f3.resultTypes.toList))=true:=by kernel_rfl
theorem atc:((Rows.netsAnswerRow.loops==(Tryz.f3.params.toList++Rows.netsAnswerSpec.plain.varTypes Tryz.pinned.checked.prog).any (Tryz.pinned.checked.prog.loopsFrom ·)))=true:=by kernel_rfl
theorem atd:((Rows.netsAnswerRow.wideKeys==(Tryz.f3.params.toList++Rows.netsAnswerSpec.plain.varTypes Tryz.pinned.checked.prog++Tryz.f3.resultTypes.toList).any (Tryz.pinned.checked.prog.wideKeysFrom ·)))=true:=by kernel_rfl
theorem ate:(Rows.netsAnswerSpec.vars.all (Tryz.pinned.checked.prog.varReadable ·))=true:=by kernel_rfl
theorem atf:(Tryz.f3.resultTypes.all (fun t=>Tryz.pinned.checked.prog.readableRec t&&decide (t<Tryz.pinned.checked.prog.types.size)))=true:=by kernel_rfl
theorem atg:((Rows.netsAnswerRow.ifacesOut==Tryz.f3.resultTypes.toList.any (Tryz.pinned.checked.prog.ifacesRec ·)))=true:=by kernel_rfl
theorem ath:((Rows.netsAnswerRow.loopsOut==Tryz.f3.resultTypes.toList.any (Tryz.pinned.checked.prog.loopsFrom ·)))=true:=by kernel_rfl
theorem ati:(Rows.netsAnswerRow.shortTexts.isNone)=true:=by kernel_rfl
theorem atj:((Rows.netsAnswerRow.lifted==Tryz.pinned.checked.prog.liftsFinal))=true:=by kernel_rfl
theorem atk:((Tryz.pinned.checked.prog.make==some Rows.netsAnswerRow.make))=true:=by kernel_rfl
theorem atl:((Rows.netsAnswerRow.kinds==(if Rows.netsAnswerRow.domain.isEmpty then [] else Tryz.f3.params.toList.map fun t=>match Tryz.pinned.checked.prog.underlying t with|some (.int k)=>some k|_=>none)))=true:=by kernel_rfl
theorem atm:((Rows.netsAnswerRow.pinned==Rows.netsAnswerRow.pinnedBy))=true:=by kernel_rfl
theorem atn:((Rows.netsAnswerRow.veiled==(Tryz.f3.params.toList++Rows.netsAnswerSpec.plain.varTypes Tryz.pinned.checked.prog++Tryz.f3.resultTypes.toList).any (Tryz.pinned.checked.prog.veiledRec ·)))=true:=by kernel_rfl
theorem ato:(Rows.netsAnswerRow.veiledFits Tryz.pinned.checked.prog Tryz.f3.params.toList (Tryz.f3.params.toList++Rows.netsAnswerSpec.plain.varTypes Tryz.pinned.checked.prog++Tryz.f3.resultTypes.toList))=true:=by kernel_rfl
theorem atp:false=Rows.netsAnswerRow.goesBy Tryz.pinned.checked.prog:=by kernel_rfl

set_option maxRecDepth 100000 in
theorem atq(os:Os)(B:os.Started)(H:Type)(d:TypeId × Value->H) :
  ReturnsInHanded {} Tryz.checked os 3 .any (fun w args=>(Rows.netsAnswerSpec.pre d Tryz.prog Tryz.f3 Rows.netsAnswerRow.domain false w args/\laidMetH Tryz.prog Rows.netsAnswerRow.laid w)/\sizedMet d Tryz.prog Tryz.f3 (aav Rows.netsAnswerSpec) false w args)
   (Rows.netsAnswerSpec.post d Tryz.prog Tryz.f3 false true false false):=by
 refine returnsInHanded_of_change_and (C:=Tryz.checked) (X:=fun w _=>laidMetH Tryz.prog Rows.netsAnswerRow.laid w) (fun _ _ _ J h=>h.of_heap J) dv B (by kernel_rfl) Tryz.func3
  (ChangeSpec.witness_shaped (enc := d) (C := Tryz.checked) (os := os) (X := fun w _ => laidMetH Tryz.prog Rows.netsAnswerRow.laid w) false (World.laidAll Tryz.prog os Rows.netsAnswerRow.laid) #[.slice none 0 0] 8 (World.laidAll_os _ _ _)
   (World.shaped_of_ZipB (by kernel_rfl) (by kernel_rfl)) (by kernel_rfl) (by kernel_rfl) (by kernel_rfl)
   (by rw[aup _ _ _ (by kernel_rfl)]; exact laidMet_laidAll _ (by kernel_rfl) (by kernel_rfl))) ?_
 intro W bg args U Y O F M _ _ q _;have I:∀p∈xW,∃t f,W.heap[p.1]?=some (.cells p.2 t f):=by
  intro p A;unfold xW at A;obtain rfl:=List.mem_singleton.1 A;rw[aup _ _ _ (by kernel_rfl)]at q;have N:=auq (auq (q));exact ad7 (k:=.u64) (zs:=aur) (g:=3) (by kernel_rfl) (Lib.tabIs_of_head (P:=Tryz.prog) (k:=.u64) (zs:=aur) (g:=3) (t:=245) (e:=192) (n:=20) (by kernel_rfl) (by kernel_rfl) (by kernel_rfl) (by kernel_rfl) (by kernel_rfl) (by kernel_rfl) N)
 exact asN Tryz.params3 (tB:=4) (by kernel_rfl) Tryz.underlying22 Tryz.underlying3 (by kernel_rfl) Tryz.underlying4 rfl (fun _=>rfl) asY I F M

set_option maxRecDepth 100000 in
theorem atr:Rows.NetsAnswerSaid:=
 OpenClaim.holds_of_wide 3 Tryz.f3 rfl rfl rfl rfl rfl rfl rfl ⟨rfl,rfl,rfl,rfl,rfl⟩ rfl rfl rfl rfl rfl (by kernel_rfl) Tryz.func3 (asK asZ asP asQ as0 as2 as3 asR as4 asS as5 as6 as7 as8 as9 ata atb atc atd ate atf atg ath asT ati asU asV atj atk atl atm atn ato)
  (of_decide_eq_true (by kernel_rfl)) (by unfold Func.isWrapper; first|(rw[if_pos (by decide +kernel)]; kernel_rfl)|(rw[if_neg (by decide +kernel)]; exact⟨rfl,rfl⟩))
  (fun os d H g _=>atq os d H g)
set_option maxRecDepth 100000 in
theorem netsAnswer_holds:Rows.NetsAnswerCardSaid:=
 Claim7.holds_tied_plain_at .later [] [.data,.data,.data,.data,.sentinel,.sentinel,.pinned] true (true, "50ee1d4bdc9eb0e67a75f5ba068d3fd3fad7a74ceca18fb66d81dbf959ce73ca") true atr (fun _ h=>by cases h) (by kernel_rfl) (fun _ h=>by cases h) netsAnswer_row_tie rfl ⟨rfl,rfl⟩ asW rfl
  (fun f fn A q=>by
   obtain rfl:f=3:=th ((show Tryz.prog.funcNamed Rows.netsAnswerRow.func=some 3 by kernel_rfl).symm.trans A) |>.symm
   obtain rfl:fn=Tryz.f3:=(th (Tryz.func3.symm.trans q)).symm;exact⟨asX,fun j t d=>by
    rw[Tryz.params3]at d;have hm:t∈[22]:=by simpa using Array.mem_of_getElem? d
    have g:([22].all fun u => !Tryz.prog.wantsStandIn u)=true:=by kernel_rfl
    exact(show Tryz.prog.wantsStandIn t=false by simpa using List.all_eq_true.1 g t hm)⟩)
  atp
#print axioms netsAnswer_holds
end Go.Proofs.YtkkkhbhbjlikhaaGreatDoor
