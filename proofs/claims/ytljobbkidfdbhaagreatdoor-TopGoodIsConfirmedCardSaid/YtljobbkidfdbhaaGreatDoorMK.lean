/-
 What is proved here: whatever numbers pileup's law TopGoodIsConfirmed is called at,it answers true,and the slice reads as before. Conditions: those of the given card alone (the listed variables as the program's text lays them).
-/
import Derived.Test.YtljobbkidfdbhaaGreatDoorTie
import Derived.Test.YtljobbkidfdbhaaGreatDoorCards
import Derived.Test.YtljobbkidfdbhaaGreatDoorMJ
import Derived.Test.YtljobbkidfdbhaaGreatDoorMS
set_option linter.all false
open Go.OpenSpec renaming ofChange→Rc
open Option.some renaming inj→gg
namespace Go.Proofs.YtljobbkidfdbhaaGreatDoor
open Go Go.AL Go.ChangeShapes Go.WideShapes Go.ChangeAt Go.RowKit

theorem ad7(rows:List (List G)):dG Tryz.prog 3 [.listF [.int .i64] rows] [] (.lit (.bool true)) []:=fW.O9 [.l rows] [.t true] (fW.adS rows)
theorem ad8:(Rows.topGoodIsConfirmedRow.wf (Rc Rows.topGoodIsConfirmedSpec))=true:=by kernel_rfl
theorem ad9:(Tryz.f3.params.all (Tryz.pinned.checked.prog.readableRec ·))=true:=by kernel_rfl
theorem ad_:(namedTie Tryz.pinned.checked.prog Rows.topGoodIsConfirmedRow.named Rows.topGoodIsConfirmedSpec.vars)=true:=by kernel_rfl
theorem ad':((Rows.topGoodIsConfirmedRow.stops==[]))=true:=by kernel_rfl
theorem aea:((Rows.topGoodIsConfirmedRow.knobs==[]))=true:=by kernel_rfl
theorem aeb:((Rows.topGoodIsConfirmedRow.inPlace==Tryz.pinned.checked.prog.inPlace 3))=true:=by kernel_rfl
theorem aec:((Rows.topGoodIsConfirmedRow.unfollowed==Tryz.pinned.checked.prog.unfollowed 3))=true:=by kernel_rfl
theorem aed:((Rows.topGoodIsConfirmedRow.recurses==Tryz.pinned.checked.prog.recurses 3))=true:=by kernel_rfl
theorem aee:((Rows.topGoodIsConfirmedRow.named==Tryz.pinned.checked.prog.varsNamed 3))=true:=by kernel_rfl
theorem aef:((Rows.topGoodIsConfirmedRow.maps==(Tryz.f3.params.toList++Rows.topGoodIsConfirmedSpec.plain.varTypes Tryz.pinned.checked.prog).any (Tryz.pinned.checked.prog.mapsRec ·)))=true:=by kernel_rfl
theorem aeg:((Rows.topGoodIsConfirmedRow.ifaces==(Tryz.f3.params.toList++Rows.topGoodIsConfirmedSpec.plain.varTypes Tryz.pinned.checked.prog).any (Tryz.pinned.checked.prog.ifacesRec ·)))=true:=by kernel_rfl
theorem aeh:((Rows.topGoodIsConfirmedRow.mapsOut==Tryz.pinned.checked.prog.mapsAmong Tryz.f3.resultTypes.toList))=true:=by kernel_rfl
theorem aei:((Rows.topGoodIsConfirmedRow.loops==(Tryz.f3.params.toList++Rows.topGoodIsConfirmedSpec.plain.varTypes Tryz.pinned.checked.prog).any (Tryz.pinned.checked.prog.loopsFrom ·)))=true:=by kernel_rfl
theorem aej:((Rows.topGoodIsConfirmedRow.wideKeys==(Tryz.f3.params.toList++Rows.topGoodIsConfirmedSpec.plain.varTypes Tryz.pinned.checked.prog++Tryz.f3.resultTypes.toList).any (Tryz.pinned.checked.prog.wideKeysFrom ·)))=true:=by kernel_rfl
theorem aek:(Rows.topGoodIsConfirmedSpec.vars.all (Tryz.pinned.checked.prog.varReadable ·))=true:=by kernel_rfl
theorem ael:(Tryz.f3.resultTypes.all (fun t=>Tryz.pinned.checked.prog.readableRec t&&decide (t<Tryz.pinned.checked.prog.types.size)))=true:=by kernel_rfl
theorem aem:((Rows.topGoodIsConfirmedRow.ifacesOut==Tryz.f3.resultTypes.toList.any (Tryz.pinned.checked.prog.ifacesRec ·)))=true:=by kernel_rfl
theorem aen:((Rows.topGoodIsConfirmedRow.loopsOut==Tryz.f3.resultTypes.toList.any (Tryz.pinned.checked.prog.loopsFrom ·)))=true:=by kernel_rfl
theorem aeo:(Rows.topGoodIsConfirmedRow.shortTexts.isNone)=true:=by kernel_rfl
theorem aep:((Rows.topGoodIsConfirmedRow.lifted==Tryz.pinned.checked.prog.liftsFinal))=true:=by kernel_rfl
theorem aeq:((Tryz.pinned.checked.prog.make==some Rows.topGoodIsConfirmedRow.make))=true:=by kernel_rfl
theorem aer:((Rows.topGoodIsConfirmedRow.kinds==(if Rows.topGoodIsConfirmedRow.domain.isEmpty then [] else Tryz.f3.params.toList.map fun t=>match Tryz.pinned.checked.prog.underlying t with|some (.int k)=>some k|_=>none)))=true:=by kernel_rfl
theorem aes:((Rows.topGoodIsConfirmedRow.pinned==Rows.topGoodIsConfirmedRow.pinnedBy))=true:=by kernel_rfl
theorem aet:((Rows.topGoodIsConfirmedRow.veiled==(Tryz.f3.params.toList++Rows.topGoodIsConfirmedSpec.plain.varTypes Tryz.pinned.checked.prog++Tryz.f3.resultTypes.toList).any (Tryz.pinned.checked.prog.veiledRec ·)))=true:=by kernel_rfl
theorem aeu:(Rows.topGoodIsConfirmedRow.veiledFits Tryz.pinned.checked.prog Tryz.f3.params.toList (Tryz.f3.params.toList++Rows.topGoodIsConfirmedSpec.plain.varTypes Tryz.pinned.checked.prog++Tryz.f3.resultTypes.toList))=true:=by kernel_rfl
theorem aev:false=Rows.topGoodIsConfirmedRow.goesBy Tryz.pinned.checked.prog:=by kernel_rfl

set_option maxRecDepth 100000 in
theorem aew(os:Os)(started:os.Started)(H:Type)(enc:TypeId × Value→H) :
  ReturnsInHanded {} Tryz.checked os 3 .any (fun w args=>(Rows.topGoodIsConfirmedSpec.pre enc Tryz.prog Tryz.f3 Rows.topGoodIsConfirmedRow.domain false w args∧laidMetH Tryz.prog Rows.topGoodIsConfirmedRow.laid w)∧sizedMet enc Tryz.prog Tryz.f3 (Rc Rows.topGoodIsConfirmedSpec) false w args)
   (Rows.topGoodIsConfirmedSpec.post enc Tryz.prog Tryz.f3 false true false false):=by
 refine returnsInHanded_of_change_and (C:=Tryz.checked) (X:=fun w _=>laidMetH Tryz.prog Rows.topGoodIsConfirmedRow.laid w) (fun _ _ _ q h=>h.of_heap q) adX started (by kernel_rfl) Tryz.func3
  (ChangeSpec.witness_shaped (enc := enc) (C := Tryz.checked) (os := os) (X := fun w _ => laidMetH Tryz.prog Rows.topGoodIsConfirmedRow.laid w) false (World.laidAll Tryz.prog os Rows.topGoodIsConfirmedRow.laid) #[.slice none 0 0] 8 (World.laidAll_os _ _ _)
   (World.shaped_of_ZipB (by kernel_rfl) (by kernel_rfl)) (by kernel_rfl) (by kernel_rfl) (by kernel_rfl)
   (by rw[MakeChecks.laidMetH_plain _ _ _ (by kernel_rfl)]; exact laidMet_laidAll _ (by kernel_rfl) (by kernel_rfl))) ?_
 intro W base args v gs before g u _ _ y _;have k:∀ p∈tv,∃ t f,W.heap[p.1]? = some (.cells p.2 t f):=by
  intro p d;unfold tv at d;cases d
 exact adW Tryz.params3 (tB:=4) (by kernel_rfl) Tryz.underlying22 Tryz.underlying3 (by kernel_rfl) Tryz.underlying4 rfl (fun _=>rfl) ad7 k g u

set_option maxRecDepth 100000 in
theorem aex:Rows.TopGoodIsConfirmedSaid :=
 OpenClaim.holds_of_wide 3 Tryz.f3 rfl rfl rfl rfl rfl rfl rfl ⟨rfl,rfl,rfl,rfl,rfl⟩ rfl rfl rfl rfl rfl (by kernel_rfl) Tryz.func3 (adT ad8 adY adZ ad9 ad_ ad' ad0 aea ad1 aeb aec aed aee aef aeg aeh aei aej aek ael aem aen ad2 aeo ad3 ad4 aep aeq aer aes aet aeu)
  (of_decide_eq_true (by kernel_rfl)) (by unfold Func.isWrapper; first|(rw[if_pos (by decide +kernel)]; kernel_rfl)|(rw[if_neg (by decide +kernel)]; exact⟨rfl,rfl⟩))
  (fun os started H enc _=>aew os started H enc)
set_option maxRecDepth 100000 in
theorem topGoodIsConfirmed_holds:Rows.TopGoodIsConfirmedCardSaid :=
 Claim7.holds_tied_plain_at .later [] [.data,.data,.data,.data,.pinned] true (true, "1c2762d8a2f4921a5565ebe24e3e2d7eebe2956017ff361d6649333f3dec3a34") false aex (fun _ h=>by cases h) (by kernel_rfl) (fun _ h=>by cases h) topGoodIsConfirmed_row_tie rfl ⟨rfl,rfl⟩ ad5 rfl
  (fun f fn q k => by
   obtain rfl:f=3:=gg ((show Tryz.prog.funcNamed Rows.topGoodIsConfirmedRow.func=some 3 by kernel_rfl).symm.trans q) |>.symm
   obtain rfl:fn=Tryz.f3:=(gg (Tryz.func3.symm.trans k)).symm;exact⟨ad6,fun j t d=>by
    rw[Tryz.params3]at d;have hm:t∈[22]:=by simpa using Array.mem_of_getElem? d
    have g:([22].all fun u => !Tryz.prog.wantsStandIn u)=true:=by kernel_rfl
    exact(show Tryz.prog.wantsStandIn t=false by simpa using List.all_eq_true.1 g t hm)⟩)
  aev
#print axioms topGoodIsConfirmed_holds
end Go.Proofs.YtljobbkidfdbhaaGreatDoor
