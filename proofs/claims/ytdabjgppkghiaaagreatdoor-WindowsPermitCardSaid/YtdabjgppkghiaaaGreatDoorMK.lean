/-
 What is proved here: whatever numbers pileup's law WindowsPermit is called at,it answers true,and the slice reads as before. Conditions: those of the given card alone (the listed variables as the program's text lays them).
-/
import Derived.Test.YtdabjgppkghiaaaGreatDoorTie
import Derived.Test.YtdabjgppkghiaaaGreatDoorCards
import Derived.Test.YtdabjgppkghiaaaGreatDoorMJ
import Derived.Test.YtdabjgppkghiaaaGreatDoorMF
set_option linter.all false
open Go.ChangeSpec renaming witness_shaped→X_
open Go.MakeChecks renaming laidMetH_plain→Ya
open Go.OpenClaim renaming holds_of_wide→Yb
open Go.OpenSpec renaming ofChange→Ln
open Option.some renaming inj→fa
namespace Go.Proofs.YtdabjgppkghiaaaGreatDoor
open Go Go.AL Go.ChangeShapes Go.WideShapes Go.ChangeAt Go.RowKit

theorem Wx(rows:List (List G)):c9 Tryz.prog 3 [.listF [.int .i64] rows] [] (.lit (.bool true)) []:=jJ.Kj [.l rows] [.t true] (jJ.Wi rows)
theorem Wy:(Rows.windowsPermitRow.wf (Ln Rows.windowsPermitSpec))=true:=by kernel_rfl
theorem Wz:(Tryz.f3.params.all (Tryz.pinned.checked.prog.readableRec ·))=true:=by kernel_rfl
theorem WA:(namedTie Tryz.pinned.checked.prog Rows.windowsPermitRow.named Rows.windowsPermitSpec.vars)=true:=by kernel_rfl
theorem WB:((Rows.windowsPermitRow.stops==[]))=true:=by kernel_rfl
theorem WC:((Rows.windowsPermitRow.knobs==[]))=true:=by kernel_rfl
theorem WD:((Rows.windowsPermitRow.inPlace==Tryz.pinned.checked.prog.inPlace 3))=true:=by kernel_rfl
theorem WE:((Rows.windowsPermitRow.unfollowed==Tryz.pinned.checked.prog.unfollowed 3))=true:=by kernel_rfl
theorem WG:((Rows.windowsPermitRow.recurses==Tryz.pinned.checked.prog.recurses 3))=true:=by kernel_rfl
theorem WH:((Rows.windowsPermitRow.named==Tryz.pinned.checked.prog.varsNamed 3))=true:=by kernel_rfl
theorem WI:((Rows.windowsPermitRow.maps==(Tryz.f3.params.toList++Rows.windowsPermitSpec.plain.varTypes Tryz.pinned.checked.prog).any (Tryz.pinned.checked.prog.mapsRec ·)))=true:=by kernel_rfl
theorem WJ:((Rows.windowsPermitRow.ifaces==(Tryz.f3.params.toList++Rows.windowsPermitSpec.plain.varTypes Tryz.pinned.checked.prog).any (Tryz.pinned.checked.prog.ifacesRec ·)))=true:=by kernel_rfl
theorem WK:((Rows.windowsPermitRow.mapsOut==Tryz.pinned.checked.prog.mapsAmong Tryz.f3.resultTypes.toList))=true:=by kernel_rfl
theorem WL:((Rows.windowsPermitRow.loops==(Tryz.f3.params.toList++Rows.windowsPermitSpec.plain.varTypes Tryz.pinned.checked.prog).any (Tryz.pinned.checked.prog.loopsFrom ·)))=true:=by kernel_rfl
theorem WM:((Rows.windowsPermitRow.wideKeys==(Tryz.f3.params.toList++Rows.windowsPermitSpec.plain.varTypes Tryz.pinned.checked.prog++Tryz.f3.resultTypes.toList).any (Tryz.pinned.checked.prog.wideKeysFrom ·)))=true:=by kernel_rfl
theorem WN:(Rows.windowsPermitSpec.vars.all (Tryz.pinned.checked.prog.varReadable ·))=true:=by kernel_rfl
theorem WO:(Tryz.f3.resultTypes.all (fun t=>Tryz.pinned.checked.prog.readableRec t&&decide (t<Tryz.pinned.checked.prog.types.size)))=true:=by kernel_rfl
theorem WQ:((Rows.windowsPermitRow.ifacesOut==Tryz.f3.resultTypes.toList.any (Tryz.pinned.checked.prog.ifacesRec ·)))=true:=by kernel_rfl
theorem WR:((Rows.windowsPermitRow.loopsOut==Tryz.f3.resultTypes.toList.any (Tryz.pinned.checked.prog.loopsFrom ·)))=true:=by kernel_rfl
theorem WS:(Rows.windowsPermitRow.shortTexts.isNone)=true:=by kernel_rfl
theorem WT:((Rows.windowsPermitRow.lifted==Tryz.pinned.checked.prog.liftsFinal))=true:=by kernel_rfl
theorem WU:((Tryz.pinned.checked.prog.make==some Rows.windowsPermitRow.make))=true:=by kernel_rfl
theorem WV:((Rows.windowsPermitRow.kinds==(if Rows.windowsPermitRow.domain.isEmpty then [] else Tryz.f3.params.toList.map fun t=>match Tryz.pinned.checked.prog.underlying t with|some (.int k)=>some k|_=>none)))=true:=by kernel_rfl
theorem WW:((Rows.windowsPermitRow.pinned==Rows.windowsPermitRow.pinnedBy))=true:=by kernel_rfl
theorem WX:((Rows.windowsPermitRow.veiled==(Tryz.f3.params.toList++Rows.windowsPermitSpec.plain.varTypes Tryz.pinned.checked.prog++Tryz.f3.resultTypes.toList).any (Tryz.pinned.checked.prog.veiledRec ·)))=true:=by kernel_rfl
theorem WY:(Rows.windowsPermitRow.veiledFits Tryz.pinned.checked.prog Tryz.f3.params.toList (Tryz.f3.params.toList++Rows.windowsPermitSpec.plain.varTypes Tryz.pinned.checked.prog++Tryz.f3.resultTypes.toList))=true:=by kernel_rfl
theorem WZ:false=Rows.windowsPermitRow.goesBy Tryz.pinned.checked.prog:=by kernel_rfl

set_option maxRecDepth 100000 in
theorem W0(os:Os)(started:os.Started)(H:Type)(enc:TypeId × Value→H) :
  ReturnsInHanded {} Tryz.checked os 3 .any (fun w args=>(Rows.windowsPermitSpec.pre enc Tryz.prog Tryz.f3 Rows.windowsPermitRow.domain false w args∧laidMetH Tryz.prog Rows.windowsPermitRow.laid w)∧sizedMet enc Tryz.prog Tryz.f3 (Ln Rows.windowsPermitSpec) false w args)
   (Rows.windowsPermitSpec.post enc Tryz.prog Tryz.f3 false true false false):=by
 refine returnsInHanded_of_change_and (C:=Tryz.checked) (X:=fun w _=>laidMetH Tryz.prog Rows.windowsPermitRow.laid w) (fun _ _ _ g h=>h.of_heap g) Wn started (by kernel_rfl) Tryz.func3
  (X_ (enc := enc) (C := Tryz.checked) (os := os) (X := fun w _ => laidMetH Tryz.prog Rows.windowsPermitRow.laid w) false (World.laidAll Tryz.prog os Rows.windowsPermitRow.laid) #[.slice none 0 0] 8 (World.laidAll_os _ _ _)
   (World.shaped_of_ZipB (by kernel_rfl) (by kernel_rfl)) (by kernel_rfl) (by kernel_rfl) (by kernel_rfl)
   (by rw[Ya _ _ _ (by kernel_rfl)]; exact laidMet_laidAll _ (by kernel_rfl) (by kernel_rfl))) ?_
 intro W base args k gs before b i _ _ l _;have d:∀ p∈p7,∃ t f,W.heap[p.1]? = some (.cells p.2 t f):=by
  intro p a;unfold p7 at a;cases a
 exact Wm Tryz.params3 (tB:=4) (by kernel_rfl) Tryz.underlying22 Tryz.underlying3 (by kernel_rfl) Tryz.underlying4 rfl (fun _=>rfl) Wx d b i

set_option maxRecDepth 100000 in
theorem W1:Rows.WindowsPermitSaid :=
 Yb 3 Tryz.f3 rfl rfl rfl rfl rfl rfl rfl ⟨rfl,rfl,rfl,rfl,rfl⟩ rfl rfl rfl rfl rfl (by kernel_rfl) Tryz.func3 (Wj Wy Wo Wp Wz WA WB Wq WC Wr WD WE WG WH WI WJ WK WL WM WN WO WQ WR Ws WS Wt Wu WT WU WV WW WX WY)
  (of_decide_eq_true (by kernel_rfl)) (by unfold Func.isWrapper; first|(rw[if_pos (by decide +kernel)]; kernel_rfl)|(rw[if_neg (by decide +kernel)]; exact⟨rfl,rfl⟩))
  (fun os started H enc _=>W0 os started H enc)
set_option maxRecDepth 100000 in
theorem windowsPermit_holds:Rows.WindowsPermitCardSaid :=
 Claim7.holds_tied_plain_at .later [] [.data,.pinned] true (true, "b5f25a1c003e6586a4fb75518afa5ab2cc23d1ecd18579444686c5cb5ee5ed4e") false W1 (fun _ h=>by cases h) (by kernel_rfl) (fun _ h=>by cases h) windowsPermit_row_tie rfl ⟨rfl,rfl⟩ Wv rfl
  (fun f fn hf d => by
   obtain rfl:f=3:=fa ((show Tryz.prog.funcNamed Rows.windowsPermitRow.func=some 3 by kernel_rfl).symm.trans hf) |>.symm
   obtain rfl:fn=Tryz.f3:=(fa (Tryz.func3.symm.trans d)).symm;exact⟨Ww,fun j t a=>by
    rw[Tryz.params3]at a;have hm:t∈[22]:=by simpa using Array.mem_of_getElem? a
    have b:([22].all fun u => !Tryz.prog.wantsStandIn u)=true:=by kernel_rfl
    exact(show Tryz.prog.wantsStandIn t=false by simpa using List.all_eq_true.1 b t hm)⟩)
  WZ
#print axioms windowsPermit_holds
end Go.Proofs.YtdabjgppkghiaaaGreatDoor
