/-
 What is proved: whatever numbers the law LogsPaired is called at, it answers true, and the slice reads as before. Conditions: those of the given card.
-/
import Derived.Test.YtomcmchdbdnclaaGreatDoorTie
import Derived.Test.YtomcmchdbdnclaaGreatDoorCards
import Derived.Test.YtomcmchdbdnclaaGreatDoorMJ
import Derived.Test.YtomcmchdbdnclaaGreatDoorMS
set_option linter.all false
open Go.OpenSpec renaming ofChange->WY
open Option.some renaming inj->iM
namespace Go.Proofs.YtomcmchdbdnclaaGreatDoor
open Go Go.AL Go.ChangeShapes Go.WideShapes Go.ChangeAt Go.RowKit

theorem ak8(rows:List (List G)):dn Tryz.prog 3 [.listF [.int .i64] rows] [] (.lit (.bool true)) []:=iy.TV [.l rows] [.t true] (iy.akT rows)
theorem ak9:(Rows.logsPairedRow.wf (WY Rows.logsPairedSpec))=true:=by kernel_rfl
theorem ak_:(Tryz.f3.params.all (Tryz.pinned.checked.prog.readableRec ·))=true:=by kernel_rfl
theorem ak':(namedTie Tryz.pinned.checked.prog Rows.logsPairedRow.named Rows.logsPairedSpec.vars)=true:=by kernel_rfl
theorem ala:((Rows.logsPairedRow.stops==[]))=true:=by kernel_rfl
theorem alb:((Rows.logsPairedRow.knobs==[]))=true:=by kernel_rfl
theorem alc:((Rows.logsPairedRow.inPlace==Tryz.pinned.checked.prog.inPlace 3))=true:=by kernel_rfl
theorem ald:((Rows.logsPairedRow.unfollowed==Tryz.pinned.checked.prog.unfollowed 3))=true:=by kernel_rfl
theorem ale:((Rows.logsPairedRow.recurses==Tryz.pinned.checked.prog.recurses 3))=true:=by kernel_rfl
theorem alf:((Rows.logsPairedRow.named==Tryz.pinned.checked.prog.varsNamed 3))=true:=by kernel_rfl
theorem alg:((Rows.logsPairedRow.maps==(Tryz.f3.params.toList++Rows.logsPairedSpec.plain.varTypes Tryz.pinned.checked.prog).any (Tryz.pinned.checked.prog.mapsRec ·)))=true:=by kernel_rfl
theorem alh:((Rows.logsPairedRow.ifaces==(Tryz.f3.params.toList++Rows.logsPairedSpec.plain.varTypes Tryz.pinned.checked.prog).any (Tryz.pinned.checked.prog.ifacesRec ·)))=true:=by kernel_rfl
theorem ali:((Rows.logsPairedRow.mapsOut==Tryz.pinned.checked.prog.mapsAmong Tryz.f3.resultTypes.toList))=true:=by kernel_rfl
theorem alj:((Rows.logsPairedRow.loops==(Tryz.f3.params.toList++Rows.logsPairedSpec.plain.varTypes Tryz.pinned.checked.prog).any (Tryz.pinned.checked.prog.loopsFrom ·)))=true:=by kernel_rfl
theorem alk:((Rows.logsPairedRow.wideKeys==(Tryz.f3.params.toList++Rows.logsPairedSpec.plain.varTypes Tryz.pinned.checked.prog++Tryz.f3.resultTypes.toList).any (Tryz.pinned.checked.prog.wideKeysFrom ·)))=true:=by kernel_rfl
theorem alm:(Rows.logsPairedSpec.vars.all (Tryz.pinned.checked.prog.varReadable ·))=true:=by kernel_rfl
theorem aln:(Tryz.f3.resultTypes.all (fun t=>Tryz.pinned.checked.prog.readableRec t&&decide (t<Tryz.pinned.checked.prog.types.size)))=true:=by kernel_rfl
theorem alo:((Rows.logsPairedRow.ifacesOut==Tryz.f3.resultTypes.toList.any (Tryz.pinned.checked.prog.ifacesRec ·)))=true:=by kernel_rfl
theorem alp:((Rows.logsPairedRow.loopsOut==Tryz.f3.resultTypes.toList.any (Tryz.pinned.checked.prog.loopsFrom ·)))=true:=by kernel_rfl
theorem alq:(Rows.logsPairedRow.shortTexts.isNone)=true:=by kernel_rfl
theorem alr:((Rows.logsPairedRow.lifted==Tryz.pinned.checked.prog.liftsFinal))=true:=by kernel_rfl
theorem als:((Tryz.pinned.checked.prog.make==some Rows.logsPairedRow.make))=true:=by kernel_rfl
theorem alu:((Rows.logsPairedRow.kinds==(if Rows.logsPairedRow.domain.isEmpty then [] else Tryz.f3.params.toList.map fun t=>match Tryz.pinned.checked.prog.underlying t with|some (.int k)=>some k|_=>none)))=true:=by kernel_rfl
theorem alv:((Rows.logsPairedRow.pinned==Rows.logsPairedRow.pinnedBy))=true:=by kernel_rfl
theorem alw:((Rows.logsPairedRow.veiled==(Tryz.f3.params.toList++Rows.logsPairedSpec.plain.varTypes Tryz.pinned.checked.prog++Tryz.f3.resultTypes.toList).any (Tryz.pinned.checked.prog.veiledRec ·)))=true:=by kernel_rfl
theorem alx:(Rows.logsPairedRow.veiledFits Tryz.pinned.checked.prog Tryz.f3.params.toList (Tryz.f3.params.toList++Rows.logsPairedSpec.plain.varTypes Tryz.pinned.checked.prog++Tryz.f3.resultTypes.toList))=true:=by kernel_rfl
theorem aly:false=Rows.logsPairedRow.goesBy Tryz.pinned.checked.prog:=by kernel_rfl

set_option maxRecDepth 100000 in
theorem alz(os:Os)(started:os.Started)(H:Type)(enc:TypeId × Value->H) :
  ReturnsInHanded {} Tryz.checked os 3 .any (fun w args=>(Rows.logsPairedSpec.pre enc Tryz.prog Tryz.f3 Rows.logsPairedRow.domain false w args/\laidMetH Tryz.prog Rows.logsPairedRow.laid w)/\sizedMet enc Tryz.prog Tryz.f3 (WY Rows.logsPairedSpec) false w args)
   (Rows.logsPairedSpec.post enc Tryz.prog Tryz.f3 false true false false):=by
 refine returnsInHanded_of_change_and (C:=Tryz.checked) (X:=fun w _=>laidMetH Tryz.prog Rows.logsPairedRow.laid w) (fun _ _ _ q h=>h.of_heap q) akY started (by kernel_rfl) Tryz.func3
  (ChangeSpec.witness_shaped (enc := enc) (C := Tryz.checked) (os := os) (X := fun w _ => laidMetH Tryz.prog Rows.logsPairedRow.laid w) false (World.laidAll Tryz.prog os Rows.logsPairedRow.laid) #[.slice none 0 0] 8 (World.laidAll_os _ _ _)
   (World.shaped_of_ZipB (by kernel_rfl) (by kernel_rfl)) (by kernel_rfl) (by kernel_rfl) (by kernel_rfl)
   (by rw[MakeChecks.laidMetH_plain _ _ _ (by kernel_rfl)]; exact laidMet_laidAll _ (by kernel_rfl) (by kernel_rfl))) ?_
 intro W base args v gs before g u _ _ y _;have k:∀ p∈wQ,∃ t f,W.heap[p.1]? = some (.cells p.2 t f):=by
  intro p d;unfold wQ at d;cases d
 exact akX Tryz.params3 (tB:=4) (by kernel_rfl) Tryz.underlying22 Tryz.underlying3 (by kernel_rfl) Tryz.underlying4 rfl (fun _=>rfl) ak8 k g u

set_option maxRecDepth 100000 in
theorem alA:Rows.LogsPairedSaid :=
 OpenClaim.holds_of_wide 3 Tryz.f3 rfl rfl rfl rfl rfl rfl rfl ⟨rfl,rfl,rfl,rfl,rfl⟩ rfl rfl rfl rfl rfl (by kernel_rfl) Tryz.func3 (akU ak9 akZ ak0 ak_ ak' ala ak1 alb ak2 alc ald ale alf alg alh ali alj alk alm aln alo alp ak3 alq ak4 ak5 alr als alu alv alw alx)
  (of_decide_eq_true (by kernel_rfl)) (by unfold Func.isWrapper; first|(rw[if_pos (by decide +kernel)]; kernel_rfl)|(rw[if_neg (by decide +kernel)]; exact⟨rfl,rfl⟩))
  (fun os started H enc _=>alz os started H enc)
set_option maxRecDepth 100000 in
theorem logsPaired_holds:Rows.LogsPairedCardSaid :=
 Claim7.holds_tied_plain_at .later [] [.data,.data,.data,.data,.pinned] true (true, "027f505a59d7219f99e7d415580144769b98523eb2ba9966487830cbc8df570c") false alA (fun _ h=>by cases h) (by kernel_rfl) (fun _ h=>by cases h) logsPaired_row_tie rfl ⟨rfl,rfl⟩ ak6 rfl
  (fun f fn q k => by
   obtain rfl:f=3:=iM ((show Tryz.prog.funcNamed Rows.logsPairedRow.func=some 3 by kernel_rfl).symm.trans q) |>.symm
   obtain rfl:fn=Tryz.f3:=(iM (Tryz.func3.symm.trans k)).symm;exact⟨ak7,fun j t d=>by
    rw[Tryz.params3]at d;have hm:t∈[22]:=by simpa using Array.mem_of_getElem? d
    have g:([22].all fun u => !Tryz.prog.wantsStandIn u)=true:=by kernel_rfl
    exact(show Tryz.prog.wantsStandIn t=false by simpa using List.all_eq_true.1 g t hm)⟩)
  aly
#print axioms logsPaired_holds
end Go.Proofs.YtomcmchdbdnclaaGreatDoor
