/-
 What is proved here: whatever numbers pileup's law TopMirrorsAreGood is called at,it answers true,and the slice reads as before. Conditions: those of the given card alone (the listed variables as the program's text lays them).
-/
import Derived.Test.YtjmnkdlhpemooaaGreatDoorTie
import Derived.Test.YtjmnkdlhpemooaaGreatDoorCards
import Derived.Test.YtjmnkdlhpemooaaGreatDoorMJ
import Derived.Test.YtjmnkdlhpemooaaGreatDoorMS
set_option linter.all false
open Go.OpenSpec renaming ofChange→Sv
open Option.some renaming inj→gx
namespace Go.Proofs.YtjmnkdlhpemooaaGreatDoor
open Go Go.AL Go.ChangeShapes Go.WideShapes Go.ChangeAt Go.RowKit

theorem af'(rows:List (List G)):dB Tryz.prog 3 [.listF [.int .i64] rows] [] (.lit (.bool true)) []:=gY.P3 [.l rows] [.t true] (gY.afW rows)
theorem aga:(Rows.topMirrorsAreGoodRow.wf (Sv Rows.topMirrorsAreGoodSpec))=true:=by kernel_rfl
theorem agb:(Tryz.f3.params.all (Tryz.pinned.checked.prog.readableRec ·))=true:=by kernel_rfl
theorem agc:(namedTie Tryz.pinned.checked.prog Rows.topMirrorsAreGoodRow.named Rows.topMirrorsAreGoodSpec.vars)=true:=by kernel_rfl
theorem agd:((Rows.topMirrorsAreGoodRow.stops==[]))=true:=by kernel_rfl
theorem age:((Rows.topMirrorsAreGoodRow.knobs==[]))=true:=by kernel_rfl
theorem agf:((Rows.topMirrorsAreGoodRow.inPlace==Tryz.pinned.checked.prog.inPlace 3))=true:=by kernel_rfl
theorem agh:((Rows.topMirrorsAreGoodRow.unfollowed==Tryz.pinned.checked.prog.unfollowed 3))=true:=by kernel_rfl
theorem agi:((Rows.topMirrorsAreGoodRow.recurses==Tryz.pinned.checked.prog.recurses 3))=true:=by kernel_rfl
theorem agj:((Rows.topMirrorsAreGoodRow.named==Tryz.pinned.checked.prog.varsNamed 3))=true:=by kernel_rfl
theorem agk:((Rows.topMirrorsAreGoodRow.maps==(Tryz.f3.params.toList++Rows.topMirrorsAreGoodSpec.plain.varTypes Tryz.pinned.checked.prog).any (Tryz.pinned.checked.prog.mapsRec ·)))=true:=by kernel_rfl
theorem agl:((Rows.topMirrorsAreGoodRow.ifaces==(Tryz.f3.params.toList++Rows.topMirrorsAreGoodSpec.plain.varTypes Tryz.pinned.checked.prog).any (Tryz.pinned.checked.prog.ifacesRec ·)))=true:=by kernel_rfl
theorem agm:((Rows.topMirrorsAreGoodRow.mapsOut==Tryz.pinned.checked.prog.mapsAmong Tryz.f3.resultTypes.toList))=true:=by kernel_rfl
theorem agn:((Rows.topMirrorsAreGoodRow.loops==(Tryz.f3.params.toList++Rows.topMirrorsAreGoodSpec.plain.varTypes Tryz.pinned.checked.prog).any (Tryz.pinned.checked.prog.loopsFrom ·)))=true:=by kernel_rfl
theorem ago:((Rows.topMirrorsAreGoodRow.wideKeys==(Tryz.f3.params.toList++Rows.topMirrorsAreGoodSpec.plain.varTypes Tryz.pinned.checked.prog++Tryz.f3.resultTypes.toList).any (Tryz.pinned.checked.prog.wideKeysFrom ·)))=true:=by kernel_rfl
theorem agp:(Rows.topMirrorsAreGoodSpec.vars.all (Tryz.pinned.checked.prog.varReadable ·))=true:=by kernel_rfl
theorem agq:(Tryz.f3.resultTypes.all (fun t=>Tryz.pinned.checked.prog.readableRec t&&decide (t<Tryz.pinned.checked.prog.types.size)))=true:=by kernel_rfl
theorem agr:((Rows.topMirrorsAreGoodRow.ifacesOut==Tryz.f3.resultTypes.toList.any (Tryz.pinned.checked.prog.ifacesRec ·)))=true:=by kernel_rfl
theorem ags:((Rows.topMirrorsAreGoodRow.loopsOut==Tryz.f3.resultTypes.toList.any (Tryz.pinned.checked.prog.loopsFrom ·)))=true:=by kernel_rfl
theorem agt:(Rows.topMirrorsAreGoodRow.shortTexts.isNone)=true:=by kernel_rfl
theorem agu:((Rows.topMirrorsAreGoodRow.lifted==Tryz.pinned.checked.prog.liftsFinal))=true:=by kernel_rfl
theorem agv:((Tryz.pinned.checked.prog.make==some Rows.topMirrorsAreGoodRow.make))=true:=by kernel_rfl
theorem agw:((Rows.topMirrorsAreGoodRow.kinds==(if Rows.topMirrorsAreGoodRow.domain.isEmpty then [] else Tryz.f3.params.toList.map fun t=>match Tryz.pinned.checked.prog.underlying t with|some (.int k)=>some k|_=>none)))=true:=by kernel_rfl
theorem agx:((Rows.topMirrorsAreGoodRow.pinned==Rows.topMirrorsAreGoodRow.pinnedBy))=true:=by kernel_rfl
theorem agy:((Rows.topMirrorsAreGoodRow.veiled==(Tryz.f3.params.toList++Rows.topMirrorsAreGoodSpec.plain.varTypes Tryz.pinned.checked.prog++Tryz.f3.resultTypes.toList).any (Tryz.pinned.checked.prog.veiledRec ·)))=true:=by kernel_rfl
theorem agz:(Rows.topMirrorsAreGoodRow.veiledFits Tryz.pinned.checked.prog Tryz.f3.params.toList (Tryz.f3.params.toList++Rows.topMirrorsAreGoodSpec.plain.varTypes Tryz.pinned.checked.prog++Tryz.f3.resultTypes.toList))=true:=by kernel_rfl
theorem agA:false=Rows.topMirrorsAreGoodRow.goesBy Tryz.pinned.checked.prog:=by kernel_rfl

set_option maxRecDepth 100000 in
theorem agB(os:Os)(started:os.Started)(H:Type)(enc:TypeId × Value→H) :
  ReturnsInHanded {} Tryz.checked os 3 .any (fun w args=>(Rows.topMirrorsAreGoodSpec.pre enc Tryz.prog Tryz.f3 Rows.topMirrorsAreGoodRow.domain false w args∧laidMetH Tryz.prog Rows.topMirrorsAreGoodRow.laid w)∧sizedMet enc Tryz.prog Tryz.f3 (Sv Rows.topMirrorsAreGoodSpec) false w args)
   (Rows.topMirrorsAreGoodSpec.post enc Tryz.prog Tryz.f3 false true false false):=by
 refine returnsInHanded_of_change_and (C:=Tryz.checked) (X:=fun w _=>laidMetH Tryz.prog Rows.topMirrorsAreGoodRow.laid w) (fun _ _ _ u h=>h.of_heap u) af1 started (by kernel_rfl) Tryz.func3
  (ChangeSpec.witness_shaped (enc := enc) (C := Tryz.checked) (os := os) (X := fun w _ => laidMetH Tryz.prog Rows.topMirrorsAreGoodRow.laid w) false (World.laidAll Tryz.prog os Rows.topMirrorsAreGoodRow.laid) #[.slice none 0 0] 8 (World.laidAll_os _ _ _)
   (World.shaped_of_ZipB (by kernel_rfl) (by kernel_rfl)) (by kernel_rfl) (by kernel_rfl) (by kernel_rfl)
   (by rw[MakeChecks.laidMetH_plain _ _ _ (by kernel_rfl)]; exact laidMet_laidAll _ (by kernel_rfl) (by kernel_rfl))) ?_
 intro W base args y gs before k v _ _ B _;have q:∀ p∈tD,∃ t f,W.heap[p.1]? = some (.cells p.2 t f):=by
  intro p d;unfold tD at d;cases d
 exact af0 Tryz.params3 (tB:=4) (by kernel_rfl) Tryz.underlying22 Tryz.underlying3 (by kernel_rfl) Tryz.underlying4 rfl (fun _=>rfl) af' q k v

set_option maxRecDepth 100000 in
theorem agC:Rows.TopMirrorsAreGoodSaid :=
 OpenClaim.holds_of_wide 3 Tryz.f3 rfl rfl rfl rfl rfl rfl rfl ⟨rfl,rfl,rfl,rfl,rfl⟩ rfl rfl rfl rfl rfl (by kernel_rfl) Tryz.func3 (afX aga af2 af3 agb agc agd af4 age af5 agf agh agi agj agk agl agm agn ago agp agq agr ags af6 agt af7 af8 agu agv agw agx agy agz)
  (of_decide_eq_true (by kernel_rfl)) (by unfold Func.isWrapper; first|(rw[if_pos (by decide +kernel)]; kernel_rfl)|(rw[if_neg (by decide +kernel)]; exact⟨rfl,rfl⟩))
  (fun os started H enc _=>agB os started H enc)
set_option maxRecDepth 100000 in
theorem topMirrorsAreGood_holds:Rows.TopMirrorsAreGoodCardSaid :=
 Claim7.holds_tied_plain_at .later [] [.data,.pinned] true (true, "02ada62511a55e0d610d149fcc44cc2bfbd50118ef054fe40b7dbf937c176eba") false agC (fun _ h=>by cases h) (by kernel_rfl) (fun _ h=>by cases h) topMirrorsAreGood_row_tie rfl ⟨rfl,rfl⟩ af9 rfl
  (fun f fn v q => by
   obtain rfl:f=3:=gx ((show Tryz.prog.funcNamed Rows.topMirrorsAreGoodRow.func=some 3 by kernel_rfl).symm.trans v) |>.symm
   obtain rfl:fn=Tryz.f3:=(gx (Tryz.func3.symm.trans q)).symm;exact⟨af_,fun j t d=>by
    rw[Tryz.params3]at d;have hm:t∈[22]:=by simpa using Array.mem_of_getElem? d
    have k:([22].all fun u => !Tryz.prog.wantsStandIn u)=true:=by kernel_rfl
    exact(show Tryz.prog.wantsStandIn t=false by simpa using List.all_eq_true.1 k t hm)⟩)
  agA
#print axioms topMirrorsAreGood_holds
end Go.Proofs.YtjmnkdlhpemooaaGreatDoor
