/-
 What is proved here: whatever numbers pileup's law BlameFallsOnce is called at,it answers true,and the slice reads as before. Conditions: those of the given card alone (the listed variables as the program's text lays them).
-/
import Derived.Test.YtnijefkndkgebaaGreatDoorTie
import Derived.Test.YtnijefkndkgebaaGreatDoorCards
import Derived.Test.YtnijefkndkgebaaGreatDoorMJ
import Derived.Test.YtnijefkndkgebaaGreatDoorMF
set_option linter.all false
open Go.OpenSpec renaming ofChange→RU
open Option.some renaming inj→fW
namespace Go.Proofs.YtnijefkndkgebaaGreatDoor
open Go Go.AL Go.ChangeShapes Go.WideShapes Go.ChangeAt Go.RowKit

theorem afT(rows:List (List G)):dv Tryz.prog 5 [.listF [.int .i64] rows] [] (.lit (.bool true)) []:=iz.P0 [.l rows] [.t true] (iz.afE rows)
theorem afU:(Rows.blameFallsOnceRow.wf (RU Rows.blameFallsOnceSpec))=true:=by kernel_rfl
theorem afV:(Tryz.f5.params.all (Tryz.pinned.checked.prog.readableRec ·))=true:=by kernel_rfl
theorem afW:(namedTie Tryz.pinned.checked.prog Rows.blameFallsOnceRow.named Rows.blameFallsOnceSpec.vars)=true:=by kernel_rfl
theorem afX:((Rows.blameFallsOnceRow.stops==[]))=true:=by kernel_rfl
theorem afY:((Rows.blameFallsOnceRow.knobs==[]))=true:=by kernel_rfl
theorem afZ:((Rows.blameFallsOnceRow.inPlace==Tryz.pinned.checked.prog.inPlace 5))=true:=by kernel_rfl
theorem af0:((Rows.blameFallsOnceRow.unfollowed==Tryz.pinned.checked.prog.unfollowed 5))=true:=by kernel_rfl
theorem af1:((Rows.blameFallsOnceRow.recurses==Tryz.pinned.checked.prog.recurses 5))=true:=by kernel_rfl
theorem af2:((Rows.blameFallsOnceRow.named==Tryz.pinned.checked.prog.varsNamed 5))=true:=by kernel_rfl
theorem af3:((Rows.blameFallsOnceRow.maps==(Tryz.f5.params.toList++Rows.blameFallsOnceSpec.plain.varTypes Tryz.pinned.checked.prog).any (Tryz.pinned.checked.prog.mapsRec ·)))=true:=by kernel_rfl
theorem af4:((Rows.blameFallsOnceRow.ifaces==(Tryz.f5.params.toList++Rows.blameFallsOnceSpec.plain.varTypes Tryz.pinned.checked.prog).any (Tryz.pinned.checked.prog.ifacesRec ·)))=true:=by kernel_rfl
theorem af5:((Rows.blameFallsOnceRow.mapsOut==Tryz.pinned.checked.prog.mapsAmong Tryz.f5.resultTypes.toList))=true:=by kernel_rfl
theorem af6:((Rows.blameFallsOnceRow.loops==(Tryz.f5.params.toList++Rows.blameFallsOnceSpec.plain.varTypes Tryz.pinned.checked.prog).any (Tryz.pinned.checked.prog.loopsFrom ·)))=true:=by kernel_rfl
theorem af7:((Rows.blameFallsOnceRow.wideKeys==(Tryz.f5.params.toList++Rows.blameFallsOnceSpec.plain.varTypes Tryz.pinned.checked.prog++Tryz.f5.resultTypes.toList).any (Tryz.pinned.checked.prog.wideKeysFrom ·)))=true:=by kernel_rfl
theorem af8:(Rows.blameFallsOnceSpec.vars.all (Tryz.pinned.checked.prog.varReadable ·))=true:=by kernel_rfl
theorem af9:(Tryz.f5.resultTypes.all (fun t=>Tryz.pinned.checked.prog.readableRec t&&decide (t<Tryz.pinned.checked.prog.types.size)))=true:=by kernel_rfl
theorem af_:((Rows.blameFallsOnceRow.ifacesOut==Tryz.f5.resultTypes.toList.any (Tryz.pinned.checked.prog.ifacesRec ·)))=true:=by kernel_rfl
theorem af':((Rows.blameFallsOnceRow.loopsOut==Tryz.f5.resultTypes.toList.any (Tryz.pinned.checked.prog.loopsFrom ·)))=true:=by kernel_rfl
theorem aga:(Rows.blameFallsOnceRow.shortTexts.isNone)=true:=by kernel_rfl
theorem agb:((Rows.blameFallsOnceRow.lifted==Tryz.pinned.checked.prog.liftsFinal))=true:=by kernel_rfl
theorem agc:((Tryz.pinned.checked.prog.make==some Rows.blameFallsOnceRow.make))=true:=by kernel_rfl
theorem agd:((Rows.blameFallsOnceRow.kinds==(if Rows.blameFallsOnceRow.domain.isEmpty then [] else Tryz.f5.params.toList.map fun t=>match Tryz.pinned.checked.prog.underlying t with|some (.int k)=>some k|_=>none)))=true:=by kernel_rfl
theorem age:((Rows.blameFallsOnceRow.pinned==Rows.blameFallsOnceRow.pinnedBy))=true:=by kernel_rfl
theorem agf:((Rows.blameFallsOnceRow.veiled==(Tryz.f5.params.toList++Rows.blameFallsOnceSpec.plain.varTypes Tryz.pinned.checked.prog++Tryz.f5.resultTypes.toList).any (Tryz.pinned.checked.prog.veiledRec ·)))=true:=by kernel_rfl
theorem agh:(Rows.blameFallsOnceRow.veiledFits Tryz.pinned.checked.prog Tryz.f5.params.toList (Tryz.f5.params.toList++Rows.blameFallsOnceSpec.plain.varTypes Tryz.pinned.checked.prog++Tryz.f5.resultTypes.toList))=true:=by kernel_rfl
theorem agi:false=Rows.blameFallsOnceRow.goesBy Tryz.pinned.checked.prog:=by kernel_rfl

set_option maxRecDepth 100000 in
theorem agj(os:Os)(started:os.Started)(H:Type)(enc:TypeId × Value→H) :
  ReturnsInHanded {} Tryz.checked os 5 .any (fun w args=>(Rows.blameFallsOnceSpec.pre enc Tryz.prog Tryz.f5 Rows.blameFallsOnceRow.domain false w args∧laidMetH Tryz.prog Rows.blameFallsOnceRow.laid w)∧sizedMet enc Tryz.prog Tryz.f5 (RU Rows.blameFallsOnceSpec) false w args)
   (Rows.blameFallsOnceSpec.post enc Tryz.prog Tryz.f5 false true false false):=by
 refine returnsInHanded_of_change_and (C:=Tryz.checked) (X:=fun w _=>laidMetH Tryz.prog Rows.blameFallsOnceRow.laid w) (fun _ _ _ q h=>h.of_heap q) afJ started (by kernel_rfl) Tryz.func5
  (ChangeSpec.witness_shaped (enc := enc) (C := Tryz.checked) (os := os) (X := fun w _ => laidMetH Tryz.prog Rows.blameFallsOnceRow.laid w) false (World.laidAll Tryz.prog os Rows.blameFallsOnceRow.laid) #[.slice none 0 0] 8 (World.laidAll_os _ _ _)
   (World.shaped_of_ZipB (by kernel_rfl) (by kernel_rfl)) (by kernel_rfl) (by kernel_rfl) (by kernel_rfl)
   (by rw[MakeChecks.laidMetH_plain _ _ _ (by kernel_rfl)]; exact laidMet_laidAll _ (by kernel_rfl) (by kernel_rfl))) ?_
 intro W base args v gs before g u _ _ y _;have k:∀ p∈sL,∃ t f,W.heap[p.1]? = some (.cells p.2 t f):=by
  intro p d;unfold sL at d;cases d
 exact afI Tryz.params5 (tB:=4) (by kernel_rfl) Tryz.underlying22 Tryz.underlying3 (by kernel_rfl) Tryz.underlying4 rfl (fun _=>rfl) afT k g u

set_option maxRecDepth 100000 in
theorem agk:Rows.BlameFallsOnceSaid :=
 OpenClaim.holds_of_wide 5 Tryz.f5 rfl rfl rfl rfl rfl rfl rfl ⟨rfl,rfl,rfl,rfl,rfl⟩ rfl rfl rfl rfl rfl (by kernel_rfl) Tryz.func5 (afF afU afK afL afV afW afX afM afY afN afZ af0 af1 af2 af3 af4 af5 af6 af7 af8 af9 af_ af' afO aga afP afQ agb agc agd age agf agh)
  (of_decide_eq_true (by kernel_rfl)) (by unfold Func.isWrapper; first|(rw[if_pos (by decide +kernel)]; kernel_rfl)|(rw[if_neg (by decide +kernel)]; exact⟨rfl,rfl⟩))
  (fun os started H enc _=>agj os started H enc)
set_option maxRecDepth 100000 in
theorem blameFallsOnce_holds:Rows.BlameFallsOnceCardSaid :=
 Claim7.holds_tied_plain_at .later [] [.data,.data,.data,.data,.pinned] true (true, "d32e238c8ce4b93269af8b38f09fc9ee7ab3aaaaec788e049c98f2c7c346a445") false agk (fun _ h=>by cases h) (by kernel_rfl) (fun _ h=>by cases h) blameFallsOnce_row_tie rfl ⟨rfl,rfl⟩ afR rfl
  (fun f fn q k => by
   obtain rfl:f=5:=fW ((show Tryz.prog.funcNamed Rows.blameFallsOnceRow.func=some 5 by kernel_rfl).symm.trans q) |>.symm
   obtain rfl:fn=Tryz.f5:=(fW (Tryz.func5.symm.trans k)).symm;exact⟨afS,fun j t d=>by
    rw[Tryz.params5]at d;have hm:t∈[22]:=by simpa using Array.mem_of_getElem? d
    have g:([22].all fun u => !Tryz.prog.wantsStandIn u)=true:=by kernel_rfl
    exact(show Tryz.prog.wantsStandIn t=false by simpa using List.all_eq_true.1 g t hm)⟩)
  agi
#print axioms blameFallsOnce_holds
end Go.Proofs.YtnijefkndkgebaaGreatDoor
