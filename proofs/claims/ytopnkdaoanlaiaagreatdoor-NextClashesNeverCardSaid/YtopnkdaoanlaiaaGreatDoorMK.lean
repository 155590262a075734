/-
 What is proved here: whatever numbers pileup's law NextClashesNever is called at,it answers true,and the slice reads as before. Conditions: those of the given card alone (the listed variables as the program's text lays them).
-/
import Derived.Test.YtopnkdaoanlaiaaGreatDoorTie
import Derived.Test.YtopnkdaoanlaiaaGreatDoorCards
import Derived.Test.YtopnkdaoanlaiaaGreatDoorMJ
import Derived.Test.YtopnkdaoanlaiaaGreatDoorMG
import Derived.Stop.LaidErr
import Derived.Test.YtopnkdaoanlaiaaGreatDoorMS
set_option linter.all false
open Go.Lib renaming pow10Tab→ai1
open Go.MakeChecks renaming laidMetH_plain→aiZ
open Go.OpenSpec renaming ofChange→TA
open Go.laidMet renaming tail→ai0
open Option.some renaming inj→ow
namespace Go.Proofs.YtopnkdaoanlaiaaGreatDoor
open Go Go.AL Go.ChangeShapes Go.WideShapes Go.ChangeAt Go.RowKit

theorem ahN(rows:List (List G)):cg Tryz.prog 3 [.listF [.int .i64] rows] [] (.lit (.bool true)) []:=gq.Ru [.l rows] [.t true] (gq.ahz rows)
theorem ahO:(Rows.nextClashesNeverRow.wf (TA Rows.nextClashesNeverSpec))=true:=by kernel_rfl
theorem ahP:(Tryz.f3.params.all (Tryz.pinned.checked.prog.readableRec ·))=true:=by kernel_rfl
theorem ahQ:(namedTie Tryz.pinned.checked.prog Rows.nextClashesNeverRow.named Rows.nextClashesNeverSpec.vars)=true:=by kernel_rfl
theorem ahR:((Rows.nextClashesNeverRow.stops==[]))=true:=by kernel_rfl
theorem ahS:((Rows.nextClashesNeverRow.knobs==[]))=true:=by kernel_rfl
theorem ahT:((Rows.nextClashesNeverRow.inPlace==Tryz.pinned.checked.prog.inPlace 3))=true:=by kernel_rfl
theorem ahU:((Rows.nextClashesNeverRow.unfollowed==Tryz.pinned.checked.prog.unfollowed 3))=true:=by kernel_rfl
theorem ahV:((Rows.nextClashesNeverRow.recurses==Tryz.pinned.checked.prog.recurses 3))=true:=by kernel_rfl
theorem ahW:((Rows.nextClashesNeverRow.named==Tryz.pinned.checked.prog.varsNamed 3))=true:=by kernel_rfl
theorem ahX:((Rows.nextClashesNeverRow.maps==(Tryz.f3.params.toList++Rows.nextClashesNeverSpec.plain.varTypes Tryz.pinned.checked.prog).any (Tryz.pinned.checked.prog.mapsRec ·)))=true:=by kernel_rfl
theorem ahY:((Rows.nextClashesNeverRow.ifaces==(Tryz.f3.params.toList++Rows.nextClashesNeverSpec.plain.varTypes Tryz.pinned.checked.prog).any (Tryz.pinned.checked.prog.ifacesRec ·)))=true:=by kernel_rfl
theorem ahZ:((Rows.nextClashesNeverRow.mapsOut==Tryz.pinned.checked.prog.mapsAmong Tryz.f3.resultTypes.toList))=true:=by kernel_rfl
theorem ah0:((Rows.nextClashesNeverRow.loops==(Tryz.f3.params.toList++Rows.nextClashesNeverSpec.plain.varTypes Tryz.pinned.checked.prog).any (Tryz.pinned.checked.prog.loopsFrom ·)))=true:=by kernel_rfl
theorem ah1:((Rows.nextClashesNeverRow.wideKeys==(Tryz.f3.params.toList++Rows.nextClashesNeverSpec.plain.varTypes Tryz.pinned.checked.prog++Tryz.f3.resultTypes.toList).any (Tryz.pinned.checked.prog.wideKeysFrom ·)))=true:=by kernel_rfl
theorem ah2:(Rows.nextClashesNeverSpec.vars.all (Tryz.pinned.checked.prog.varReadable ·))=true:=by kernel_rfl
theorem ah3:(Tryz.f3.resultTypes.all (fun t=>Tryz.pinned.checked.prog.readableRec t&&decide (t<Tryz.pinned.checked.prog.types.size)))=true:=by kernel_rfl
theorem ah4:((Rows.nextClashesNeverRow.ifacesOut==Tryz.f3.resultTypes.toList.any (Tryz.pinned.checked.prog.ifacesRec ·)))=true:=by kernel_rfl
theorem ah5:((Rows.nextClashesNeverRow.loopsOut==Tryz.f3.resultTypes.toList.any (Tryz.pinned.checked.prog.loopsFrom ·)))=true:=by kernel_rfl
theorem ah6:(Rows.nextClashesNeverRow.shortTexts.isNone)=true:=by kernel_rfl
theorem ah7:((Rows.nextClashesNeverRow.lifted==Tryz.pinned.checked.prog.liftsFinal))=true:=by kernel_rfl
theorem ah8:((Tryz.pinned.checked.prog.make==some Rows.nextClashesNeverRow.make))=true:=by kernel_rfl
theorem ah9:((Rows.nextClashesNeverRow.kinds==(if Rows.nextClashesNeverRow.domain.isEmpty then [] else Tryz.f3.params.toList.map fun t=>match Tryz.pinned.checked.prog.underlying t with|some (.int k)=>some k|_=>none)))=true:=by kernel_rfl
theorem ah_:((Rows.nextClashesNeverRow.pinned==Rows.nextClashesNeverRow.pinnedBy))=true:=by kernel_rfl
theorem ah':((Rows.nextClashesNeverRow.veiled==(Tryz.f3.params.toList++Rows.nextClashesNeverSpec.plain.varTypes Tryz.pinned.checked.prog++Tryz.f3.resultTypes.toList).any (Tryz.pinned.checked.prog.veiledRec ·)))=true:=by kernel_rfl
theorem aia:(Rows.nextClashesNeverRow.veiledFits Tryz.pinned.checked.prog Tryz.f3.params.toList (Tryz.f3.params.toList++Rows.nextClashesNeverSpec.plain.varTypes Tryz.pinned.checked.prog++Tryz.f3.resultTypes.toList))=true:=by kernel_rfl
theorem aib:false=Rows.nextClashesNeverRow.goesBy Tryz.pinned.checked.prog:=by kernel_rfl

set_option maxRecDepth 100000 in
theorem aic(os:Os)(started:os.Started)(H:Type)(enc:TypeId × Value→H) :
  ReturnsInHanded {} Tryz.checked os 3 .any (fun w args=>(Rows.nextClashesNeverSpec.pre enc Tryz.prog Tryz.f3 Rows.nextClashesNeverRow.domain false w args∧laidMetH Tryz.prog Rows.nextClashesNeverRow.laid w)∧sizedMet enc Tryz.prog Tryz.f3 (TA Rows.nextClashesNeverSpec) false w args)
   (Rows.nextClashesNeverSpec.post enc Tryz.prog Tryz.f3 false true false false):=by
 refine returnsInHanded_of_change_and (C:=Tryz.checked) (X:=fun w _=>laidMetH Tryz.prog Rows.nextClashesNeverRow.laid w) (fun _ _ _ F h=>h.of_heap F) fY started (by kernel_rfl) Tryz.func3
  (ChangeSpec.witness_shaped (enc := enc) (C := Tryz.checked) (os := os) (X := fun w _ => laidMetH Tryz.prog Rows.nextClashesNeverRow.laid w) false (World.laidAll Tryz.prog os Rows.nextClashesNeverRow.laid) #[.slice none 0 0] 8 (World.laidAll_os _ _ _)
   (World.shaped_of_ZipB (by kernel_rfl) (by kernel_rfl)) (by kernel_rfl) (by kernel_rfl) (by kernel_rfl)
   (by rw[aiZ _ _ _ (by kernel_rfl)]; exact laidMet_laidAll _ (by kernel_rfl) (by kernel_rfl))) ?_
 intro W base args J gs before A I _ _ d _;have B:∀ p∈se,∃ t f,W.heap[p.1]? = some (.cells p.2 t f):=by
  intro p q;unfold se at q;obtain rfl:=List.mem_singleton.1 q;rw[aiZ _ _ _ (by kernel_rfl)]at d;have h1:=ai0 (ai0 (d));exact Xe (k:=.u64) (zs:=ai1) (g:=1) (by kernel_rfl) (Lib.tabIs_of_head (P:=Tryz.prog) (k:=.u64) (zs:=ai1) (g:=1) (t:=259) (e:=213) (n:=20) (by kernel_rfl) (by kernel_rfl) (by kernel_rfl) (by kernel_rfl) (by kernel_rfl) (by kernel_rfl) h1)
 exact ahD Tryz.params3 (tB:=4) (by kernel_rfl) Tryz.underlying22 Tryz.underlying3 (by kernel_rfl) Tryz.underlying4 rfl (fun _=>rfl) ahN B A I

set_option maxRecDepth 100000 in
theorem aid:Rows.NextClashesNeverSaid :=
 OpenClaim.holds_of_wide 3 Tryz.f3 rfl rfl rfl rfl rfl rfl rfl ⟨rfl,rfl,rfl,rfl,rfl⟩ rfl rfl rfl rfl rfl (by kernel_rfl) Tryz.func3 (ahA ahO ahE ahF ahP ahQ ahR ahG ahS ahH ahT ahU ahV ahW ahX ahY ahZ ah0 ah1 ah2 ah3 ah4 ah5 ahI ah6 ahJ ahK ah7 ah8 ah9 ah_ ah' aia)
  (of_decide_eq_true (by kernel_rfl)) (by unfold Func.isWrapper; first|(rw[if_pos (by decide +kernel)]; kernel_rfl)|(rw[if_neg (by decide +kernel)]; exact⟨rfl,rfl⟩))
  (fun os started H enc _=>aic os started H enc)
set_option maxRecDepth 100000 in
theorem nextClashesNever_holds:Rows.NextClashesNeverCardSaid :=
 Claim7.holds_tied_plain_at .later [] [.data,.data,.data,.data,.pinned] true (true, "ad9ec5b821c2009f6adf79757563453f72026eb6b5568a6829d45c24d9eaf9d0") true aid (fun _ h=>by cases h) (by kernel_rfl) (fun _ h=>by cases h) nextClashesNever_row_tie rfl ⟨rfl,rfl⟩ ahL rfl
  (fun f fn q k => by
   obtain rfl:f=3:=ow ((show Tryz.prog.funcNamed Rows.nextClashesNeverRow.func=some 3 by kernel_rfl).symm.trans q) |>.symm
   obtain rfl:fn=Tryz.f3:=(ow (Tryz.func3.symm.trans k)).symm;exact⟨ahM,fun j t d=>by
    rw[Tryz.params3]at d;have hm:t∈[22]:=by simpa using Array.mem_of_getElem? d
    have g:([22].all fun u => !Tryz.prog.wantsStandIn u)=true:=by kernel_rfl
    exact(show Tryz.prog.wantsStandIn t=false by simpa using List.all_eq_true.1 g t hm)⟩)
  aib
#print axioms nextClashesNever_holds
end Go.Proofs.YtopnkdaoanlaiaaGreatDoor
