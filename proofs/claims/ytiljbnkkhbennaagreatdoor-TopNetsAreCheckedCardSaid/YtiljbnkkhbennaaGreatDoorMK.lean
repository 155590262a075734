/-
 What is proved here: whatever numbers pileup's law TopNetsAreChecked is called at,it answers true,and the slice reads as before. Conditions: those of the given card alone (the listed variables as the program's text lays them).
-/
import Derived.Test.YtiljbnkkhbennaaGreatDoorTie
import Derived.Test.YtiljbnkkhbennaaGreatDoorCards
import Derived.Test.YtiljbnkkhbennaaGreatDoorMJ
import Derived.Test.YtiljbnkkhbennaaGreatDoorMS
set_option linter.all false
open Go.OpenSpec renaming ofChange→V9
open Option.some renaming inj→gY
namespace Go.Proofs.YtiljbnkkhbennaaGreatDoor
open Go Go.AL Go.ChangeShapes Go.WideShapes Go.ChangeAt Go.RowKit

theorem ala(rows:List (List G)):dC Tryz.prog 3 [.listF [.int .i64] rows] [] (.lit (.bool true)) []:=gl.Tu [.l rows] [.t true] (gl.akX rows)
theorem alb:(Rows.topNetsAreCheckedRow.wf (V9 Rows.topNetsAreCheckedSpec))=true:=by kernel_rfl
theorem alc:(Tryz.f3.params.all (Tryz.pinned.checked.prog.readableRec ·))=true:=by kernel_rfl
theorem ald:(namedTie Tryz.pinned.checked.prog Rows.topNetsAreCheckedRow.named Rows.topNetsAreCheckedSpec.vars)=true:=by kernel_rfl
theorem ale:((Rows.topNetsAreCheckedRow.stops==[]))=true:=by kernel_rfl
theorem alf:((Rows.topNetsAreCheckedRow.knobs==[]))=true:=by kernel_rfl
theorem alg:((Rows.topNetsAreCheckedRow.inPlace==Tryz.pinned.checked.prog.inPlace 3))=true:=by kernel_rfl
theorem alh:((Rows.topNetsAreCheckedRow.unfollowed==Tryz.pinned.checked.prog.unfollowed 3))=true:=by kernel_rfl
theorem ali:((Rows.topNetsAreCheckedRow.recurses==Tryz.pinned.checked.prog.recurses 3))=true:=by kernel_rfl
theorem alj:((Rows.topNetsAreCheckedRow.named==Tryz.pinned.checked.prog.varsNamed 3))=true:=by kernel_rfl
theorem alk:((Rows.topNetsAreCheckedRow.maps==(Tryz.f3.params.toList++Rows.topNetsAreCheckedSpec.plain.varTypes Tryz.pinned.checked.prog).any (Tryz.pinned.checked.prog.mapsRec ·)))=true:=by kernel_rfl
theorem alm:((Rows.topNetsAreCheckedRow.ifaces==(Tryz.f3.params.toList++Rows.topNetsAreCheckedSpec.plain.varTypes Tryz.pinned.checked.prog).any (Tryz.pinned.checked.prog.ifacesRec ·)))=true:=by kernel_rfl
theorem aln:((Rows.topNetsAreCheckedRow.mapsOut==Tryz.pinned.checked.prog.mapsAmong Tryz.f3.resultTypes.toList))=true:=by kernel_rfl
theorem alo:((Rows.topNetsAreCheckedRow.loops==(Tryz.f3.params.toList++Rows.topNetsAreCheckedSpec.plain.varTypes Tryz.pinned.checked.prog).any (Tryz.pinned.checked.prog.loopsFrom ·)))=true:=by kernel_rfl
theorem alp:((Rows.topNetsAreCheckedRow.wideKeys==(Tryz.f3.params.toList++Rows.topNetsAreCheckedSpec.plain.varTypes Tryz.pinned.checked.prog++Tryz.f3.resultTypes.toList).any (Tryz.pinned.checked.prog.wideKeysFrom ·)))=true:=by kernel_rfl
theorem alq:(Rows.topNetsAreCheckedSpec.vars.all (Tryz.pinned.checked.prog.varReadable ·))=true:=by kernel_rfl
theorem alr:(Tryz.f3.resultTypes.all (fun t=>Tryz.pinned.checked.prog.readableRec t&&decide (t<Tryz.pinned.checked.prog.types.size)))=true:=by kernel_rfl
theorem als:((Rows.topNetsAreCheckedRow.ifacesOut==Tryz.f3.resultTypes.toList.any (Tryz.pinned.checked.prog.ifacesRec ·)))=true:=by kernel_rfl
theorem alu:((Rows.topNetsAreCheckedRow.loopsOut==Tryz.f3.resultTypes.toList.any (Tryz.pinned.checked.prog.loopsFrom ·)))=true:=by kernel_rfl
theorem alv:(Rows.topNetsAreCheckedRow.shortTexts.isNone)=true:=by kernel_rfl
theorem alw:((Rows.topNetsAreCheckedRow.lifted==Tryz.pinned.checked.prog.liftsFinal))=true:=by kernel_rfl
theorem alx:((Tryz.pinned.checked.prog.make==some Rows.topNetsAreCheckedRow.make))=true:=by kernel_rfl
theorem aly:((Rows.topNetsAreCheckedRow.kinds==(if Rows.topNetsAreCheckedRow.domain.isEmpty then [] else Tryz.f3.params.toList.map fun t=>match Tryz.pinned.checked.prog.underlying t with|some (.int k)=>some k|_=>none)))=true:=by kernel_rfl
theorem alz:((Rows.topNetsAreCheckedRow.pinned==Rows.topNetsAreCheckedRow.pinnedBy))=true:=by kernel_rfl
theorem alA:((Rows.topNetsAreCheckedRow.veiled==(Tryz.f3.params.toList++Rows.topNetsAreCheckedSpec.plain.varTypes Tryz.pinned.checked.prog++Tryz.f3.resultTypes.toList).any (Tryz.pinned.checked.prog.veiledRec ·)))=true:=by kernel_rfl
theorem alB:(Rows.topNetsAreCheckedRow.veiledFits Tryz.pinned.checked.prog Tryz.f3.params.toList (Tryz.f3.params.toList++Rows.topNetsAreCheckedSpec.plain.varTypes Tryz.pinned.checked.prog++Tryz.f3.resultTypes.toList))=true:=by kernel_rfl
theorem alC:false=Rows.topNetsAreCheckedRow.goesBy Tryz.pinned.checked.prog:=by kernel_rfl

set_option maxRecDepth 100000 in
theorem alD(os:Os)(started:os.Started)(H:Type)(enc:TypeId × Value→H) :
  ReturnsInHanded {} Tryz.checked os 3 .any (fun w args=>(Rows.topNetsAreCheckedSpec.pre enc Tryz.prog Tryz.f3 Rows.topNetsAreCheckedRow.domain false w args∧laidMetH Tryz.prog Rows.topNetsAreCheckedRow.laid w)∧sizedMet enc Tryz.prog Tryz.f3 (V9 Rows.topNetsAreCheckedSpec) false w args)
   (Rows.topNetsAreCheckedSpec.post enc Tryz.prog Tryz.f3 false true false false):=by
 refine returnsInHanded_of_change_and (C:=Tryz.checked) (X:=fun w _=>laidMetH Tryz.prog Rows.topNetsAreCheckedRow.laid w) (fun _ _ _ B h=>h.of_heap B) ak2 started (by kernel_rfl) Tryz.func3
  (ChangeSpec.witness_shaped (enc := enc) (C := Tryz.checked) (os := os) (X := fun w _ => laidMetH Tryz.prog Rows.topNetsAreCheckedRow.laid w) false (World.laidAll Tryz.prog os Rows.topNetsAreCheckedRow.laid) #[.slice none 0 0] 8 (World.laidAll_os _ _ _)
   (World.shaped_of_ZipB (by kernel_rfl) (by kernel_rfl)) (by kernel_rfl) (by kernel_rfl) (by kernel_rfl)
   (by rw[MakeChecks.laidMetH_plain _ _ _ (by kernel_rfl)]; exact laidMet_laidAll _ (by kernel_rfl) (by kernel_rfl))) ?_
 intro W base args J gs before k I _ _ M _;have q:∀ p∈vw,∃ t f,W.heap[p.1]? = some (.cells p.2 t f):=by
  intro p d;unfold vw at d;cases d
 exact ak1 Tryz.params3 (tB:=4) (by kernel_rfl) Tryz.underlying22 Tryz.underlying3 (by kernel_rfl) Tryz.underlying4 rfl (fun _=>rfl) ala q k I

set_option maxRecDepth 100000 in
theorem alE:Rows.TopNetsAreCheckedSaid :=
 OpenClaim.holds_of_wide 3 Tryz.f3 rfl rfl rfl rfl rfl rfl rfl ⟨rfl,rfl,rfl,rfl,rfl⟩ rfl rfl rfl rfl rfl (by kernel_rfl) Tryz.func3 (akY alb ak3 ak4 alc ald ale ak5 alf ak6 alg alh ali alj alk alm aln alo alp alq alr als alu ak7 alv ak8 ak9 alw alx aly alz alA alB)
  (of_decide_eq_true (by kernel_rfl)) (by unfold Func.isWrapper; first|(rw[if_pos (by decide +kernel)]; kernel_rfl)|(rw[if_neg (by decide +kernel)]; exact⟨rfl,rfl⟩))
  (fun os started H enc _=>alD os started H enc)
set_option maxRecDepth 100000 in
theorem topNetsAreChecked_holds:Rows.TopNetsAreCheckedCardSaid :=
 Claim7.holds_tied_plain_at .later [] [.data,.data,.data,.data,.pinned] true (true, "4efdfb34110d251cc51b2442ffd3d098de0fac38074192ad268c5a18c28e6381") false alE (fun _ h=>by cases h) (by kernel_rfl) (fun _ h=>by cases h) topNetsAreChecked_row_tie rfl ⟨rfl,rfl⟩ ak_ rfl
  (fun f fn B q => by
   obtain rfl:f=3:=gY ((show Tryz.prog.funcNamed Rows.topNetsAreCheckedRow.func=some 3 by kernel_rfl).symm.trans B) |>.symm
   obtain rfl:fn=Tryz.f3:=(gY (Tryz.func3.symm.trans q)).symm;exact⟨ak',fun j t d=>by
    rw[Tryz.params3]at d;have hm:t∈[22]:=by simpa using Array.mem_of_getElem? d
    have k:([22].all fun u => !Tryz.prog.wantsStandIn u)=true:=by kernel_rfl
    exact(show Tryz.prog.wantsStandIn t=false by simpa using List.all_eq_true.1 k t hm)⟩)
  alC
#print axioms topNetsAreChecked_holds
end Go.Proofs.YtiljbnkkhbennaaGreatDoor
