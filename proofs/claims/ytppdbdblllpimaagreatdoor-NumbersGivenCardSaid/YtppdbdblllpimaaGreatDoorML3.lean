/-
 What is proved here: functions of the program as functions on data. No condition.
-/
import Derived.Test.YtppdbdblllpimaaGreatDoorML2
set_option linter.all false
open Nat renaming beq→ab
namespace Go.Proofs.gT
open Go Go.AL Go.Proofs Tryz
noncomputable section
def uZ(d:List G):Option (Option Nat × List G) :=
 let g:=((gi d 1).rows++([[.i (gi d 12).int,.i (gi d 13).int,.s (gi d 14).str,.s (gi d 15).str,.i (gi d 16).int,.i (gi d 17).int,.s (gi d 18).str,.s (gi d 19).str]]:List (List G))); let z2:=Ce [.l [[.i (gi d 12).int,.i (gi d 13).int,.s (gi d 14).str,.s (gi d 15).str,.i (gi d 16).int,.i (gi d 17).int,.s (gi d 18).str,.s (gi d 19).str]]]; let z3:=(ab (gi d 2).rows.length (gi d 2).rows.length)&&((ab (gi d 3).rows.length (gi d 3).rows.length)&&true); let z4:=((gi d 3).rows++([[.i (gi d 24).int]]:List (List G))); let z5:=ab (gi d 0).rows.length (gi d 0).rows.length; let k:=ab (gi d 1).rows.length (gi d 1).rows.length; let q:=(((gi d 5).int.toNat:Nat):Int); let A:=(((gi d 7).int.toNat:Nat):Int); (bif ((gi d 11).int != 1) then (bif (((z5&&(k&&z3))&&true)&&true) then some (some 0,[.l (gi d 0).rows,.l (gi d 1).rows,.l (gi d 2).rows,.l (gi d 3).rows,.l (gi d 4).rows,.i q,.l (gi d 6).rows,.i A,.l (gi d 23).rows,.l (gi d 25).rows,.i (gi d 26).int,.i (gi d 27).int]) else none) else (ar z2 fun g2=>(bif (bp aY (gi d 6).rows (aR aY (gi g2 0).row)) then (bif ((ab (gi d 3).rows.length (gi d 3).rows.length)&&(decide (((gi d 3).rows.length+1)≤1048576))) then (bif (((z5&&(k&&((ab (gi d 2).rows.length (gi d 2).rows.length)&&((ab z4.length z4.length)&&true))))&&true)&&true) then some (some 0,[.l (gi d 0).rows,.l (gi d 1).rows,.l (gi d 2).rows,.l z4,.l (gi d 4).rows,.i q,.l (gi d 6).rows,.i A,.l (gi d 23).rows,.l (gi d 25).rows,.i (gi d 26).int,.i (gi d 27).int]) else none) else none) else (ar z2 fun g3=>let z9:=aR aY (gi g3 0).row; (bif (k&&(decide (((gi d 1).rows.length+1)≤1048576))) then (bif (((z5&&((ab g.length g.length)&&z3))&&true)&&true) then some (some 1,[.l (gi d 0).rows,.l g,.l (gi d 2).rows,.l (gi d 3).rows,.l (gi d 4).rows,.i q,.l (bK aY (gi d 6).rows z9 [.s (gi d 8).str,.i (gi d 9).int,.i (gi d 10).int,.i (gi d 11).int,.i (gi d 12).int,.i (gi d 13).int,.s (gi d 14).str,.s (gi d 15).str,.i (gi d 16).int,.i (gi d 17).int,.s (gi d 18).str,.s (gi d 19).str,.s (gi d 20).str,.s (gi d 21).str,.i (gi d 22).int] (gi d 7).int.toNat),.i (((cU aY (gi d 6).rows z9 (gi d 7).int.toNat):Nat):Int),.l (gi d 23).rows,.l (gi d 25).rows,.i (gi d 26).int,.i (gi d 27).int]) else none) else none)))))
def Q1:bq:=⟨14,[],⟨143,[(0,.s (.list ak)),(6,.s (.ptr 0 0)),(7,.s (.map 6)),(9,.s (.int .i64)),(10,.s (.ptr 7 0)),(21,.s (.list [.int .i64])),(22,.s (.int .i64)),(23,.s (.int .i64))],[.box [.vec 1 15,.vec 2 8,.vec 3 1,.vec 4 1,.map 5],.vec ak 0,.vec aY 0,.vec [.str] 0,.vec [.int .i64] 0,.map (.agg [.str,.int .i64]) (.one (.bool)),.map (.agg aY) (.agg ak),.box [.str,.int .i64,.int .i64,.int .i64,.int .i64,.int .i64,.str,.str,.int .i64,.int .i64,.str,.str,.str,.str,.int .i64]]⟩,[.slot 6,.cell 0 0,.cell 0 1,.cell 0 2,.cell 0 3,.cell 0 4,.slot 7,.slot 10],[⟨.exit 1,⟨143,[(0,.s (.list ak)),(6,.s (.ptr 0 0)),(7,.s (.map 6)),(21,.s (.list [.int .i64])),(22,.s (.int .i64)),(23,.s (.int .i64))],[.box [.vec 1 15,.vec 2 8,.vec 3 1,.vec 4 1,.map 5],.vec ak 0,.vec aY 0,.vec [.str] 0,.vec [.int .i64] 0,.map (.agg [.str,.int .i64]) (.one (.bool)),.map (.agg aY) (.agg ak)]⟩,[.slot 6,.cell 0 0,.cell 0 1,.cell 0 2,.cell 0 3,.cell 0 4,.slot 7]⟩,⟨.normal,⟨143,[(0,.s (.list ak)),(6,.s (.ptr 0 0)),(7,.s (.map 6)),(21,.s (.list [.int .i64])),(22,.s (.int .i64)),(23,.s (.int .i64))],[.box [.vec 1 15,.vec 2 8,.vec 3 1,.vec 4 1,.map 5],.vec ak 0,.vec aY 0,.vec [.str] 0,.vec [.int .i64] 0,.map (.agg [.str,.int .i64]) (.one (.bool)),.map (.agg aY) (.agg ak)]⟩,[.slot 6,.cell 0 0,.cell 0 1,.cell 0 2,.cell 0 3,.cell 0 4,.slot 7]⟩],uZ⟩
theorem adH:gh P t48 (az.ja [(3,[.e_ 6 0 ak,.e_ 6 3 [.int .i64],.e_ 6 1 aY,.e_ 6 2 [.str]])]) 0 (cutAt f49 14) Q1:=fun d=>by kernel_rfl
def HW:LT:=(az.ja [(3,[.e_ 6 0 ak,.e_ 6 3 [.int .i64],.e_ 6 1 aY,.e_ 6 2 [.str]])]).ff 0 Q1
theorem adI:ax P 0 HW (aN f49):=ax.aC hm sa (rT _) adH
def u9(d:List G):Option (Option Nat × List G) :=
 (bif (aw ((gi d 11).int+1)) then (bif ((((ab (gi d 0).rows.length (gi d 0).rows.length)&&((ab (gi d 1).rows.length (gi d 1).rows.length)&&((ab (gi d 2).rows.length (gi d 2).rows.length)&&((ab (gi d 3).rows.length (gi d 3).rows.length)&&true))))&&true)&&true) then some (some 0,[.l (gi d 0).rows,.l (gi d 1).rows,.l (gi d 2).rows,.l (gi d 3).rows,.l (gi d 4).rows,.i (((gi d 5).int.toNat:Nat):Int),.l (gi d 6).rows,.i (((gi d 7).int.toNat:Nat):Int),.l (gi d 8).rows,.l (gi d 9).rows,.i (gi d 10).int,.i ((gi d 11).int+1)]) else none) else none)
def Q2:bq:=⟨20,[],⟨143,[(0,.s (.list ak)),(6,.s (.ptr 0 0)),(7,.s (.map 6)),(21,.s (.list [.int .i64])),(22,.s (.int .i64)),(23,.s (.int .i64))],[.box [.vec 1 15,.vec 2 8,.vec 3 1,.vec 4 1,.map 5],.vec ak 0,.vec aY 0,.vec [.str] 0,.vec [.int .i64] 0,.map (.agg [.str,.int .i64]) (.one (.bool)),.map (.agg aY) (.agg ak)]⟩,[.slot 6,.cell 0 0,.cell 0 1,.cell 0 2,.cell 0 3,.cell 0 4,.slot 7],[⟨.normal,⟨143,[(0,.s (.list ak)),(6,.s (.ptr 0 0)),(7,.s (.map 6)),(21,.s (.list [.int .i64])),(22,.s (.int .i64)),(23,.s (.int .i64))],[.box [.vec 1 15,.vec 2 8,.vec 3 1,.vec 4 1,.map 5],.vec ak 0,.vec aY 0,.vec [.str] 0,.vec [.int .i64] 0,.map (.agg [.str,.int .i64]) (.one (.bool)),.map (.agg aY) (.agg ak)]⟩,[.slot 6,.cell 0 0,.cell 0 1,.cell 0 2,.cell 0 3,.cell 0 4,.slot 7]⟩],u9⟩
theorem adJ:gh P t48 HW 0 (cutAt f49 20) Q2:=fun d=>by kernel_rfl
def HX:LT:=HW.ff 0 Q2
theorem adK:ax P 0 HX (aN f49):=ax.aC hm sa adI adJ
def yd(d:List G):Option (Option Nat × List G) :=
 let g:=(((ab (gi d 0).rows.length (gi d 0).rows.length)&&((ab (gi d 1).rows.length (gi d 1).rows.length)&&((ab (gi d 2).rows.length (gi d 2).rows.length)&&((ab (gi d 3).rows.length (gi d 3).rows.length)&&true))))&&true)&&true; let z2:=(((gi d 5).int.toNat:Nat):Int); let z3:=(((gi d 7).int.toNat:Nat):Int); (bif (gi d 28).bool then (bif g then some (some 0,[.l (gi d 0).rows,.l (gi d 1).rows,.l (gi d 2).rows,.l (gi d 3).rows,.l (jJ [.str,.int .i64] (gi d 4).rows [.s (gi d 8).str,.i (gi d 16).int]),.i z2,.l (gi d 6).rows,.i z3,.s (gi d 8).str,.i (gi d 9).int,.i (gi d 10).int,.i (gi d 11).int,.i (gi d 12).int,.i (gi d 13).int,.s (gi d 14).str,.s (gi d 15).str,.i (gi d 16).int,.i (gi d 17).int,.s (gi d 18).str,.s (gi d 19).str,.s (gi d 20).str,.s (gi d 21).str,.i (gi d 22).int,.l (gi d 23).rows,.i (gi d 24).int,.l (gi d 25).rows,.i (gi d 26).int,.i (gi d 27).int]) else none) else (bif g then some (some 0,[.l (gi d 0).rows,.l (gi d 1).rows,.l (gi d 2).rows,.l (gi d 3).rows,.l (gi d 4).rows,.i z2,.l (gi d 6).rows,.i z3,.s (gi d 8).str,.i (gi d 9).int,.i (gi d 10).int,.i (gi d 11).int,.i (gi d 12).int,.i (gi d 13).int,.s (gi d 14).str,.s (gi d 15).str,.i (gi d 16).int,.i (gi d 17).int,.s (gi d 18).str,.s (gi d 19).str,.s (gi d 20).str,.s (gi d 21).str,.i (gi d 22).int,.l (gi d 23).rows,.i (gi d 24).int,.l (gi d 25).rows,.i (gi d 26).int,.i (gi d 27).int]) else none))
def Q3:bq:=⟨13,[],⟨143,[(0,.s (.list ak)),(6,.s (.ptr 0 0)),(7,.s (.map 6)),(9,.s (.int .i64)),(10,.s (.ptr 7 0)),(21,.s (.list [.int .i64])),(22,.s (.int .i64)),(23,.s (.int .i64)),(55,.s (.bool))],[.box [.vec 1 15,.vec 2 8,.vec 3 1,.vec 4 1,.map 5],.vec ak 0,.vec aY 0,.vec [.str] 0,.vec [.int .i64] 0,.map (.agg [.str,.int .i64]) (.one (.bool)),.map (.agg aY) (.agg ak),.box [.str,.int .i64,.int .i64,.int .i64,.int .i64,.int .i64,.str,.str,.int .i64,.int .i64,.str,.str,.str,.str,.int .i64]]⟩,[.slot 6,.cell 0 0,.cell 0 1,.cell 0 2,.cell 0 3,.cell 0 4,.slot 7,.slot 10],[⟨.normal,⟨143,[(0,.s (.list ak)),(6,.s (.ptr 0 0)),(7,.s (.map 6)),(9,.s (.int .i64)),(10,.s (.ptr 7 0)),(21,.s (.list [.int .i64])),(22,.s (.int .i64)),(23,.s (.int .i64))],[.box [.vec 1 15,.vec 2 8,.vec 3 1,.vec 4 1,.map 5],.vec ak 0,.vec aY 0,.vec [.str] 0,.vec [.int .i64] 0,.map (.agg [.str,.int .i64]) (.one (.bool)),.map (.agg aY) (.agg ak),.box [.str,.int .i64,.int .i64,.int .i64,.int .i64,.int .i64,.str,.str,.int .i64,.int .i64,.str,.str,.str,.str,.int .i64]]⟩,[.slot 6,.cell 0 0,.cell 0 1,.cell 0 2,.cell 0 3,.cell 0 4,.slot 7,.slot 10]⟩],yd⟩
theorem adL:gh P t48 HX 0 (cutAt f49 13) Q3:=fun d=>by kernel_rfl
def HY:LT:=HX.ff 0 Q3
theorem adM:ax P 0 HY (aN f49):=ax.aC hm sa adK adL
def u_(d:List G):Option (Option Nat × List G) :=
 let z3:=gi ((gi d 9).rows.getD (((gi d 11).int).toNat) []) 0; let g:=(gi d 8).rows.getD ((z3.int).toNat) []; let z4:=((gi d 0).rows++([(aR ak g)]:List (List G))); let z2:=(((ab z4.length z4.length)&&((ab (gi d 1).rows.length (gi d 1).rows.length)&&((ab (gi d 2).rows.length (gi d 2).rows.length)&&((ab (gi d 3).rows.length (gi d 3).rows.length)&&true))))&&true)&&true; let z5:=(((gi d 7).int.toNat:Nat):Int); let k:=(((gi d 5).int.toNat:Nat):Int); let F:=ab (gi d 0).rows.length (gi d 0).rows.length; (bif (aB (gi d 11).int (gi d 10).int) then (bif ((a_ (gi d 11).int)&&(aB (gi d 11).int (((gi d 9).rows.length:Nat):Int))) then (bif ((a_ z3.int)&&(aB z3.int (((gi d 8).rows.length:Nat):Int))) then (bif (F&&(decide (((gi d 0).rows.length+1)≤1048576))) then (bif ((gi g 3).int==3) then (a7 z2 (dD (uZ [.l z4,.l (gi d 1).rows,.l (gi d 2).rows,.l (gi d 3).rows,.l (bK [.str,.int .i64] (gi d 4).rows [.s (gi g 0).str,.i (gi g 8).int] [.t true] (gi d 5).int.toNat),.i (((cU [.str,.int .i64] (gi d 4).rows [.s (gi g 0).str,.i (gi g 8).int] (gi d 5).int.toNat):Nat):Int),.l (gi d 6).rows,.i z5,.s (gi g 0).str,.i (gi g 1).int,.i (gi g 2).int,.i (gi g 3).int,.i (gi g 4).int,.i (gi g 5).int,.s (gi g 6).str,.s (gi g 7).str,.i (gi g 8).int,.i (gi g 9).int,.s (gi g 10).str,.s (gi g 11).str,.s (gi g 12).str,.s (gi g 13).str,.i (gi g 14).int,.l (gi d 8).rows,.i z3.int,.l (gi d 9).rows,.i (gi d 10).int,.i (gi d 11).int])) fun M g4=>let I:=(dD (u9 [.l (gi g4 0).rows,.l (gi g4 1).rows,.l (gi g4 2).rows,.l (gi g4 3).rows,.l (gi g4 4).rows,.i (((gi g4 5).int.toNat:Nat):Int),.l (gi g4 6).rows,.i (((gi g4 7).int.toNat:Nat):Int),.l (gi g4 8).rows,.l (gi g4 9).rows,.i (gi g4 10).int,.i (gi g4 11).int])); let z9:=(((ab (gi g4 0).rows.length (gi g4 0).rows.length)&&((ab (gi g4 1).rows.length (gi g4 1).rows.length)&&((ab (gi g4 2).rows.length (gi g4 2).rows.length)&&((ab (gi g4 3).rows.length (gi g4 3).rows.length)&&true))))&&true)&&true; (bif ab M 0 then (a7 z9 I fun Y g5=>(bif ((((ab (gi g5 0).rows.length (gi g5 0).rows.length)&&((ab (gi g5 1).rows.length (gi g5 1).rows.length)&&((ab (gi g5 2).rows.length (gi g5 2).rows.length)&&((ab (gi g5 3).rows.length (gi g5 3).rows.length)&&true))))&&true)&&true) then some (none,[.l (gi g5 0).rows,.l (gi g5 1).rows,.l (gi g5 2).rows,.l (gi g5 3).rows,.l (gi g5 4).rows,.i (((gi g5 5).int.toNat:Nat):Int),.l (gi g5 6).rows,.i (((gi g5 7).int.toNat:Nat):Int),.l (gi g5 8).rows,.l (gi g5 9).rows,.i (gi g5 10).int,.i (gi g5 11).int]) else none)) else (a7 z9 I fun cg6 g6=>(bif ((((ab (gi g6 0).rows.length (gi g6 0).rows.length)&&((ab (gi g6 1).rows.length (gi g6 1).rows.length)&&((ab (gi g6 2).rows.length (gi g6 2).rows.length)&&((ab (gi g6 3).rows.length (gi g6 3).rows.length)&&true))))&&true)&&true) then some (none,[.l (gi g6 0).rows,.l (gi g6 1).rows,.l (gi g6 2).rows,.l (gi g6 3).rows,.l (gi g6 4).rows,.i (((gi g6 5).int.toNat:Nat):Int),.l (gi g6 6).rows,.i (((gi g6 7).int.toNat:Nat):Int),.l (gi g6 8).rows,.l (gi g6 9).rows,.i (gi g6 10).int,.i (gi g6 11).int]) else none)))) else (bif ((gi g 3).int==4) then (a7 z2 (dD (yd [.l z4,.l (gi d 1).rows,.l (gi d 2).rows,.l (gi d 3).rows,.l (gi d 4).rows,.i k,.l (gi d 6).rows,.i z5,.s (gi g 0).str,.i (gi g 1).int,.i (gi g 2).int,.i (gi g 3).int,.i (gi g 4).int,.i (gi g 5).int,.s (gi g 6).str,.s (gi g 7).str,.i (gi g 8).int,.i (gi g 9).int,.s (gi g 10).str,.s (gi g 11).str,.s (gi g 12).str,.s (gi g 13).str,.i (gi g 14).int,.l (gi d 8).rows,.i z3.int,.l (gi d 9).rows,.i (gi d 10).int,.i (gi d 11).int,.t ((gi g 3).int==4)])) fun cg7 g7=>(a7 ((((ab (gi g7 0).rows.length (gi g7 0).rows.length)&&((ab (gi g7 1).rows.length (gi g7 1).rows.length)&&((ab (gi g7 2).rows.length (gi g7 2).rows.length)&&((ab (gi g7 3).rows.length (gi g7 3).rows.length)&&true))))&&true)&&true) (dD (uZ [.l (gi g7 0).rows,.l (gi g7 1).rows,.l (gi g7 2).rows,.l (gi g7 3).rows,.l (gi g7 4).rows,.i (((gi g7 5).int.toNat:Nat):Int),.l (gi g7 6).rows,.i (((gi g7 7).int.toNat:Nat):Int),.s (gi g7 8).str,.i (gi g7 9).int,.i (gi g7 10).int,.i (gi g7 11).int,.i (gi g7 12).int,.i (gi g7 13).int,.s (gi g7 14).str,.s (gi g7 15).str,.i (gi g7 16).int,.i (gi g7 17).int,.s (gi g7 18).str,.s (gi g7 19).str,.s (gi g7 20).str,.s (gi g7 21).str,.i (gi g7 22).int,.l (gi g7 23).rows,.i (gi g7 24).int,.l (gi g7 25).rows,.i (gi g7 26).int,.i (gi g7 27).int])) fun N g8=>let q:=(dD (u9 [.l (gi g8 0).rows,.l (gi g8 1).rows,.l (gi g8 2).rows,.l (gi g8 3).rows,.l (gi g8 4).rows,.i (((gi g8 5).int.toNat:Nat):Int),.l (gi g8 6).rows,.i (((gi g8 7).int.toNat:Nat):Int),.l (gi g8 8).rows,.l (gi g8 9).rows,.i (gi g8 10).int,.i (gi g8 11).int])); let A:=(((ab (gi g8 0).rows.length (gi g8 0).rows.length)&&((ab (gi g8 1).rows.length (gi g8 1).rows.length)&&((ab (gi g8 2).rows.length (gi g8 2).rows.length)&&((ab (gi g8 3).rows.length (gi g8 3).rows.length)&&true))))&&true)&&true; (bif ab N 0 then (a7 A q fun cg9 g9=>(bif ((((ab (gi g9 0).rows.length (gi g9 0).rows.length)&&((ab (gi g9 1).rows.length (gi g9 1).rows.length)&&((ab (gi g9 2).rows.length (gi g9 2).rows.length)&&((ab (gi g9 3).rows.length (gi g9 3).rows.length)&&true))))&&true)&&true) then some (none,[.l (gi g9 0).rows,.l (gi g9 1).rows,.l (gi g9 2).rows,.l (gi g9 3).rows,.l (gi g9 4).rows,.i (((gi g9 5).int.toNat:Nat):Int),.l (gi g9 6).rows,.i (((gi g9 7).int.toNat:Nat):Int),.l (gi g9 8).rows,.l (gi g9 9).rows,.i (gi g9 10).int,.i (gi g9 11).int]) else none)) else (a7 A q fun O g10=>(bif ((((ab (gi g10 0).rows.length (gi g10 0).rows.length)&&((ab (gi g10 1).rows.length (gi g10 1).rows.length)&&((ab (gi g10 2).rows.length (gi g10 2).rows.length)&&((ab (gi g10 3).rows.length (gi g10 3).rows.length)&&true))))&&true)&&true) then some (none,[.l (gi g10 0).rows,.l (gi g10 1).rows,.l (gi g10 2).rows,.l (gi g10 3).rows,.l (gi g10 4).rows,.i (((gi g10 5).int.toNat:Nat):Int),.l (gi g10 6).rows,.i (((gi g10 7).int.toNat:Nat):Int),.l (gi g10 8).rows,.l (gi g10 9).rows,.i (gi g10 10).int,.i (gi g10 11).int]) else none))))) else (a7 z2 (dD (yd [.l z4,.l (gi d 1).rows,.l (gi d 2).rows,.l (gi d 3).rows,.l (gi d 4).rows,.i k,.l (gi d 6).rows,.i z5,.s (gi g 0).str,.i (gi g 1).int,.i (gi g 2).int,.i (gi g 3).int,.i (gi g 4).int,.i (gi g 5).int,.s (gi g 6).str,.s (gi g 7).str,.i (gi g 8).int,.i (gi g 9).int,.s (gi g 10).str,.s (gi g 11).str,.s (gi g 12).str,.s (gi g 13).str,.i (gi g 14).int,.l (gi d 8).rows,.i z3.int,.l (gi d 9).rows,.i (gi d 10).int,.i (gi d 11).int,.t ((gi g 3).int==1)])) fun R g11=>(a7 ((((ab (gi g11 0).rows.length (gi g11 0).rows.length)&&((ab (gi g11 1).rows.length (gi g11 1).rows.length)&&((ab (gi g11 2).rows.length (gi g11 2).rows.length)&&((ab (gi g11 3).rows.length (gi g11 3).rows.length)&&true))))&&true)&&true) (dD (uZ [.l (gi g11 0).rows,.l (gi g11 1).rows,.l (gi g11 2).rows,.l (gi g11 3).rows,.l (gi g11 4).rows,.i (((gi g11 5).int.toNat:Nat):Int),.l (gi g11 6).rows,.i (((gi g11 7).int.toNat:Nat):Int),.s (gi g11 8).str,.i (gi g11 9).int,.i (gi g11 10).int,.i (gi g11 11).int,.i (gi g11 12).int,.i (gi g11 13).int,.s (gi g11 14).str,.s (gi g11 15).str,.i (gi g11 16).int,.i (gi g11 17).int,.s (gi g11 18).str,.s (gi g11 19).str,.s (gi g11 20).str,.s (gi g11 21).str,.i (gi g11 22).int,.l (gi g11 23).rows,.i (gi g11 24).int,.l (gi g11 25).rows,.i (gi g11 26).int,.i (gi g11 27).int])) fun J g12=>let z12:=(dD (u9 [.l (gi g12 0).rows,.l (gi g12 1).rows,.l (gi g12 2).rows,.l (gi g12 3).rows,.l (gi g12 4).rows,.i (((gi g12 5).int.toNat:Nat):Int),.l (gi g12 6).rows,.i (((gi g12 7).int.toNat:Nat):Int),.l (gi g12 8).rows,.l (gi g12 9).rows,.i (gi g12 10).int,.i (gi g12 11).int])); let B:=(((ab (gi g12 0).rows.length (gi g12 0).rows.length)&&((ab (gi g12 1).rows.length (gi g12 1).rows.length)&&((ab (gi g12 2).rows.length (gi g12 2).rows.length)&&((ab (gi g12 3).rows.length (gi g12 3).rows.length)&&true))))&&true)&&true; (bif ab J 0 then (a7 B z12 fun U g13=>(bif ((((ab (gi g13 0).rows.length (gi g13 0).rows.length)&&((ab (gi g13 1).rows.length (gi g13 1).rows.length)&&((ab (gi g13 2).rows.length (gi g13 2).rows.length)&&((ab (gi g13 3).rows.length (gi g13 3).rows.length)&&true))))&&true)&&true) then some (none,[.l (gi g13 0).rows,.l (gi g13 1).rows,.l (gi g13 2).rows,.l (gi g13 3).rows,.l (gi g13 4).rows,.i (((gi g13 5).int.toNat:Nat):Int),.l (gi g13 6).rows,.i (((gi g13 7).int.toNat:Nat):Int),.l (gi g13 8).rows,.l (gi g13 9).rows,.i (gi g13 10).int,.i (gi g13 11).int]) else none)) else (a7 B z12 fun W g14=>(bif ((((ab (gi g14 0).rows.length (gi g14 0).rows.length)&&((ab (gi g14 1).rows.length (gi g14 1).rows.length)&&((ab (gi g14 2).rows.length (gi g14 2).rows.length)&&((ab (gi g14 3).rows.length (gi g14 3).rows.length)&&true))))&&true)&&true) then some (none,[.l (gi g14 0).rows,.l (gi g14 1).rows,.l (gi g14 2).rows,.l (gi g14 3).rows,.l (gi g14 4).rows,.i (((gi g14 5).int.toNat:Nat):Int),.l (gi g14 6).rows,.i (((gi g14 7).int.toNat:Nat):Int),.l (gi g14 8).rows,.l (gi g14 9).rows,.i (gi g14 10).int,.i (gi g14 11).int]) else none))))))) else none) else none) else none) else (bif (((F&&((ab (gi d 1).rows.length (gi d 1).rows.length)&&((ab (gi d 2).rows.length (gi d 2).rows.length)&&((ab (gi d 3).rows.length (gi d 3).rows.length)&&true))))&&true)&&true) then some (some 0,[.l (gi d 0).rows,.l (gi d 1).rows,.l (gi d 2).rows,.l (gi d 3).rows,.l (gi d 4).rows,.i k,.l (gi d 6).rows,.i z5]) else none))
def Q4:bq:=⟨4,[],⟨143,[(0,.s (.list ak)),(6,.s (.ptr 0 0)),(7,.s (.map 6)),(21,.s (.list [.int .i64])),(22,.s (.int .i64)),(23,.s (.int .i64))],[.box [.vec 1 15,.vec 2 8,.vec 3 1,.vec 4 1,.map 5],.vec ak 0,.vec aY 0,.vec [.str] 0,.vec [.int .i64] 0,.map (.agg [.str,.int .i64]) (.one (.bool)),.map (.agg aY) (.agg ak)]⟩,[.slot 6,.cell 0 0,.cell 0 1,.cell 0 2,.cell 0 3,.cell 0 4,.slot 7],[⟨.exit 0,⟨143,[(6,.s (.ptr 0 0)),(7,.s (.map 6))],[.box [.vec 1 15,.vec 2 8,.vec 3 1,.vec 4 1,.map 5],.vec ak 0,.vec aY 0,.vec [.str] 0,.vec [.int .i64] 0,.map (.agg [.str,.int .i64]) (.one (.bool)),.map (.agg aY) (.agg ak)]⟩,[.slot 6,.cell 0 0,.cell 0 1,.cell 0 2,.cell 0 3,.cell 0 4,.slot 7]⟩],u_⟩
theorem adN:cW P t48 HY 0 (cX f49 4) Q4:=fun d=>by kernel_rfl
def HZ:LT:=HY.add 0 Q4
theorem adO:ax P 0 HZ (aN f49):=ax.a hm sa adM adN
def ye(d:List G):Option (Option Nat × List G) :=
 let g:=(⟨#[]⟩:ByteArray); let z2:=ab (gi d 1).rows.length (gi d 1).rows.length; let z3:=(ab (gi d 3).rows.length (gi d 3).rows.length)&&true; let z4:=ab (gi d 2).rows.length (gi d 2).rows.length; let z5:=ab (gi d 0).rows.length (gi d 0).rows.length; let q:=(((gi d 5).int.toNat:Nat):Int); let A:=0+((gi d 9).int).toNat; (bif (aB (gi d 9).int (gi d 8).int) then (bif ((a_ (gi d 9).int)&&(aB (gi d 9).int (((gi d 1).rows.length:Nat):Int))) then (bif (decide (A<(gi d 1).rows.length)) then (ar (Ce [.l [(aR aY ((gi d 1).rows.getD A []))]]) fun g17=>let k:=((gi d 2).rows++([[.s (gi (bZ aY (gi d 6).rows (aR aY (gi g17 0).row) [.s g,.i 0,.i 0,.i 0,.i 0,.i 0,.s g,.s g,.i 0,.i 0,.s g,.s g,.s g,.s g,.i 0]) 0).str]]:List (List G))); (bif (z4&&(decide (((gi d 2).rows.length+1)≤1048576))) then (bif (aw ((gi d 9).int+1)) then (bif (((z5&&(z2&&((ab k.length k.length)&&z3)))&&true)&&(z2&&true)) then some (none,[.l (gi d 0).rows,.l (gi d 1).rows,.l k,.l (gi d 3).rows,.l (gi d 4).rows,.i q,.l (gi d 6).rows,.i (((gi d 7).int.toNat:Nat):Int),.i (gi d 8).int,.i ((gi d 9).int+1)]) else none) else none) else none)) else none) else none) else (bif (((z5&&(z2&&(z4&&z3)))&&true)&&true) then some (some 0,[.l (gi d 0).rows,.l (gi d 1).rows,.l (gi d 2).rows,.l (gi d 3).rows,.l (gi d 4).rows,.i q]) else none))
def Q5:bq:=⟨25,[],⟨143,[(6,.s (.ptr 0 0)),(7,.s (.map 6)),(121,.s (.vec 2 8)),(122,.s (.int .i64)),(123,.s (.int .i64))],[.box [.vec 1 15,.vec 2 8,.vec 3 1,.vec 4 1,.map 5],.vec ak 0,.vec aY 0,.vec [.str] 0,.vec [.int .i64] 0,.map (.agg [.str,.int .i64]) (.one (.bool)),.map (.agg aY) (.agg ak)]⟩,[.slot 6,.cell 0 0,.cell 0 1,.cell 0 2,.cell 0 3,.cell 0 4,.slot 7],[⟨.exit 3,⟨143,[(6,.s (.ptr 0 0))],[.box [.vec 1 15,.vec 2 8,.vec 3 1,.vec 4 1,.map 5],.vec ak 0,.vec aY 0,.vec [.str] 0,.vec [.int .i64] 0,.map (.agg [.str,.int .i64]) (.one (.bool))]⟩,[.slot 6,.cell 0 0,.cell 0 1,.cell 0 2,.cell 0 3,.cell 0 4]⟩],ye⟩
theorem adP:cW P t48 HZ 0 (cX f49 25) Q5:=fun d=>by kernel_rfl
def Q6:LT:=HZ.add 0 Q5
theorem adQ:ax P 0 Q6 (aN f49):=ax.a hm sa adO adP
def va(d:List G):Option (List G) :=
 (ar (Cd [.l (gi d 0).rows,.i (gi d 1).int]) fun g1=>(a7 true (cd u_ [.l [],.l [],.l [],.l [],.l [],.i 0,.l [],.i 0,.l (gi d 0).rows,.l (gi g1 0).rows,.i (((gi g1 0).rows.length:Nat):Int),.i 0]) fun k g15=>let g:=Cf [.l (gi g15 1).rows]; let z2:=(((gi g15 1).rows.length:Nat):Int); (bif (aB 2000 z2) then none else (fS (((ab (gi g15 1).rows.length (gi g15 1).rows.length)&&true)&&g.isSome) g fun g16=>let z3:=ab (gi g15 1).rows.length (gi g16 0).rows.length; (a7 ((((ab (gi g15 0).rows.length (gi g15 0).rows.length)&&(z3&&((ab (gi g15 2).rows.length (gi g15 2).rows.length)&&((ab (gi g15 3).rows.length (gi g15 3).rows.length)&&true))))&&true)&&(z3&&true)) (cd ye [.l (gi g15 0).rows,.l (gi g16 0).rows,.l (gi g15 2).rows,.l (gi g15 3).rows,.l (gi g15 4).rows,.i (((gi g15 5).int.toNat:Nat):Int),.l (gi g15 6).rows,.i (((gi g15 7).int.toNat:Nat):Int),.i z2,.i 0]) fun q g18=>(bif ((((ab (gi g18 0).rows.length (gi g18 0).rows.length)&&((ab (gi g18 1).rows.length (gi g18 1).rows.length)&&((ab (gi g18 2).rows.length (gi g18 2).rows.length)&&((ab (gi g18 3).rows.length (gi g18 3).rows.length)&&true))))&&true)&&true) then some [.l (gi g18 0).rows,.l (gi g18 1).rows,.l (gi g18 2).rows,.l (gi g18 3).rows,.l (gi g18 4).rows,.i (((gi g18 5).int.toNat:Nat):Int),.i 0] else none))))))
def H5:aA:=⟨49,[.s (.list ak),.s (.int .i64)],[],[],[.s (.ptr 0 0),.s (.int .i64)],[.box [.list ak,.list aY,.list [.str],.list [.int .i64],.map 1],.map (.agg [.str,.int .i64]) (.one (.bool))],[.slot 0,.cell 0 4],[],va⟩
theorem adR:bf P t48 Q6 f49 H5:=fun d=>by kernel_rfl
theorem adS:aZ P H5:=bt hm sa func49 adQ adR
def t49:ah:=t48.cP H5
theorem adT:aj P t49:=sa.aW adS

def t50:ah:=t49.nr P 26 f26
theorem H6:aj P t50:=adT.nr hm func26 (by kernel_rfl) (by kernel_rfl)

def Cg(d:List G):Option (Option Nat × List G) :=
 let g:=gi ((gi d 8).rows.getD (((gi d 10).int).toNat) []) 4; let z2:=(gi (bZ [.int .i64] (gi d 6).rows [.i g.int] [.i 0]) 0).int+1; let z3:=(((gi d 5).int.toNat:Nat):Int); let z4:=(gi d 10).int+1; let z5:=(((gi d 7).int.toNat:Nat):Int); (bif (aB (gi d 10).int (gi d 9).int) then (bif ((a_ (gi d 10).int)&&(aB (gi d 10).int (((gi d 8).rows.length:Nat):Int))) then (bif (aB 0 g.int) then (bif (aw z2) then (bif (aw z4) then some (none,[.l (gi d 0).rows,.l (gi d 1).rows,.l (gi d 2).rows,.l (gi d 3).rows,.l (gi d 4).rows,.i z3,.l (bK [.int .i64] (gi d 6).rows [.i g.int] [.i z2] (gi d 7).int.toNat),.i (((cU [.int .i64] (gi d 6).rows [.i g.int] (gi d 7).int.toNat):Nat):Int),.l (gi d 8).rows,.i (gi d 9).int,.i z4]) else none) else none) else (bif (aw z4) then some (none,[.l (gi d 0).rows,.l (gi d 1).rows,.l (gi d 2).rows,.l (gi d 3).rows,.l (gi d 4).rows,.i z3,.l (gi d 6).rows,.i z5,.l (gi d 8).rows,.i (gi d 9).int,.i z4]) else none)) else none) else some (some 0,[.l (gi d 0).rows,.l (gi d 1).rows,.l (gi d 2).rows,.l (gi d 3).rows,.l (gi d 4).rows,.i z3,.l (gi d 6).rows,.i z5]))
def Q7:bq:=⟨3,[],⟨26,[(3,.s (.map 2)),(10,.s (.list aY)),(11,.s (.int .i64)),(12,.s (.int .i64))],[.box [.list ak,.list aY,.list [.str],.list [.int .i64],.map 1],.map (.agg [.str,.int .i64]) (.one (.bool)),.map (.one (.int .i64)) (.one (.int .i64))]⟩,[.fix 0,.cell 0 4,.slot 3],[⟨.exit 0,⟨26,[(3,.s (.map 2))],[.box [.list ak,.list aY,.list [.str],.list [.int .i64],.map 1],.map (.agg [.str,.int .i64]) (.one (.bool)),.map (.one (.int .i64)) (.one (.int .i64))]⟩,[.fix 0,.cell 0 4,.slot 3]⟩],Cg⟩
theorem adU:cW P t50 az 2 (cX f50 3) Q7:=fun d=>by kernel_rfl
def Q8:LT:=az.add 2 Q7
theorem adV:ax P 2 Q8 (aN f50):=ax.a hm H6 (aK _ _ _) adU
def oL(d:List G):Option (List G) :=
 (a7 true (cd Cg [.l (gi d 0).rows,.l (gi d 1).rows,.l (gi d 2).rows,.l (gi d 3).rows,.l (gi d 4).rows,.i (((gi d 5).int.toNat:Nat):Int),.l [],.i 0,.l (gi d 1).rows,.i (((gi d 1).rows.length:Nat):Int),.i 0]) fun g g1=>some [.l (gi g1 0).rows,.l (gi g1 1).rows,.l (gi g1 2).rows,.l (gi g1 3).rows,.l (gi g1 4).rows,.i (((gi g1 5).int.toNat:Nat):Int),.l (gi g1 6).rows,.i (((gi g1 7).int.toNat:Nat):Int)])
def yf:aA:=⟨50,[.s (.ptr 0 0)],[.box [.list ak,.list aY,.list [.str],.list [.int .i64],.map 1],.map (.agg [.str,.int .i64]) (.one (.bool))],[.slot 0,.cell 0 4],[.s (.map 2)],[.box [.list ak,.list aY,.list [.str],.list [.int .i64],.map 1],.map (.agg [.str,.int .i64]) (.one (.bool)),.map (.one (.int .i64)) (.one (.int .i64))],[.fix 0,.fix 1,.slot 0],[],oL⟩
theorem adW:bf P t50 Q8 f50 yf:=fun d=>by kernel_rfl
theorem adX:aZ P yf:=bt hm H6 func50 adV adW
def t51:ah:=t50.cP yf
theorem Q9:aj P t51:=H6.aW adX

def sb(r d:List G):Option (List G) :=
 let g:=(gi (bZ [.int .i64] (gi d 6).rows [.i (gi (gi r 0).row 1).int] [.i 0]) 0).int+1; (bif (aw g) then some [.l (gi d 0).rows,.l (gi d 1).rows,.l (gi d 2).rows,.l (gi d 3).rows,.l (gi d 4).rows,.i (((gi d 5).int.toNat:Nat):Int),.l (bK [.int .i64] (gi d 6).rows [.i (gi (gi r 0).row 1).int] [.i g] (gi d 7).int.toNat),.i (((cU [.int .i64] (gi d 6).rows [.i (gi (gi r 0).row 1).int] (gi d 7).int.toNat):Nat):Int),.i (((gi d 8).int.toNat:Nat):Int)] else none)
def adY(d:List G)(b:Nat):List G:=[.l (gi d 0).rows,.l (gi d 1).rows,.l (gi d 2).rows,.l (gi d 3).rows,.l (gi d 4).rows,.i (((gi d 5).int.toNat:Nat):Int),.l (gi d 6).rows,.i (((gi d 7).int.toNat:Nat):Int),.i (b:Int)]
def adZ(d:List G)(b:Nat):Bool:=true
def sd:eu:=⟨⟨21,[(3,.s (.map 2)),(10,.s (.addr))],[.box [.list ak,.list aY,.list [.str],.list [.int .i64],.map 1],.map (.agg [.str,.int .i64]) (.one (.bool)),.map (.one (.int .i64)) (.one (.int .i64))]⟩,[.fix 0,.cell 0 4,.slot 3],[],(.agg [.str,.int .i64]),(.one (.bool)),1,0,9,10,11,12,13,fun d=>(gi d 8).int.toNat,adY,adZ,sb⟩
theorem ad0:iH P t51 az 2 sd (lu (cutAt f51 2)) (np (cutAt f51 2)):=fun r d=>by kernel_rfl
theorem ad1:∀ r d d',sb r d=some d'→(gi d' 4).rows=(gi d 4).rows∧(gi d' 5).int.toNat=(gi d 5).int.toNat:=by
 intro r d d' h;unfold sb at h;simp only[Bool.cond_eq_ite]at h
 repeat' split at h
 all_goals first|(cases h; done)|(cases h; exact⟨rfl,rfl⟩)
def oM(d:List G):Option (List G):=some [.l (gi d 0).rows,.l (gi d 1).rows,.l (gi d 2).rows,.l (gi d 3).rows,.l (gi d 4).rows,.i (((gi d 5).int.toNat:Nat):Int),.l (gi d 6).rows,.i (((gi d 7).int.toNat:Nat):Int)]
def kE(d:List G):List G:=[.l (gi d 0).rows,.l (gi d 1).rows,.l (gi d 2).rows,.l (gi d 3).rows,.l (gi d 4).rows,.i (((gi d 5).int.toNat:Nat):Int),.l [],.i 0]
def nF:aA:=⟨51,[.s (.ptr 0 0)],[.box [.list ak,.list aY,.list [.str],.list [.int .i64],.map 1],.map (.agg [.str,.int .i64]) (.one (.bool))],[.slot 0,.cell 0 4],[.s (.map 2)],[.box [.list ak,.list aY,.list [.str],.list [.int .i64],.map 1],.map (.agg [.str,.int .i64]) (.one (.bool)),.map (.one (.int .i64)) (.one (.int .i64))],[.fix 0,.fix 1,.slot 0],[],fun _=>none⟩
theorem Q_:∀ d,eA ((gi (kE d) 4).rows) ((gi (kE d) 5).int.toNat)=true→(∀ b p,p.Perm ((gi (kE d) 4).rows)→(nv sd oM (kE d) b p).isSome=true)→gR P nF d (BL sd oM ((gi (kE d) 4).rows) (kE d)) id:=fun d aL g=>Y' (rs:=sd) (sp:=nF) hm Q9 func51 (by kernel_rfl) (ra:=uD f51) (rb:=Oa f51) (rest:=ls (cutAt f51 2)) (rbody:=np (cutAt f51 2)) (r0:=2) (b0:=0) (r1:=3) (b1:=1) (r2:=4) (ops0:=jP (cutAt f51 2)) (ops1:=xy (cutAt f51 2)) (ops2:=lu (cutAt f51 2)) (by kernel_rfl) (inv:=⟨21,[(0,.s (.ptr 0 0)),(3,.s (.map 2))],[.box [.list ak,.list aY,.list [.str],.list [.int .i64],.map 1],.map (.agg [.str,.int .i64]) (.one (.bool)),.map (.one (.int .i64)) (.one (.int .i64))]⟩) (ps:=[.fix 0,.cell 0 4,.slot 3]) (ini:=kE) (ri:=fun d=>(gi d 4).rows) (rows:=fun d=>(gi d 4).rows) (ci:=fun d=>(gi d 5).int.toNat) (clock:=fun d=>(gi d 5).int.toNat) (fun d=>by kernel_rfl) (fun d=>by kernel_rfl) ad1 (by kernel_rfl) (by kernel_rfl) ad0 (fun d=>by kernel_rfl) (fun d=>by kernel_rfl) (fun d=>by kernel_rfl) (pre:=fun d=>xz P t51 (jP (cutAt f51 2)) (aF ⟨21,[(0,.s (.ptr 0 0)),(3,.s (.map 2))],[.box [.list ak,.list aY,.list [.str],.list [.int .i64],.map 1],.map (.agg [.str,.int .i64]) (.one (.bool)),.map (.one (.int .i64)) (.one (.int .i64))]⟩ d)) (fun d=>by kernel_rfl) (fun d=>by kernel_rfl) (fun d=>by kernel_rfl) (fun d b=>by kernel_rfl) (fun d b=>rfl) (fun d b=>⟨rfl,rfl⟩) (tl:=oM) (fun d=>by kernel_rfl) aL g
def t52:ah:=t51
theorem Ch:aj P t52:=Q9

def vc(d:List G):Option (Option Nat × List G) :=
 let g:=(((gi d 5).int.toNat:Nat):Int); let z2:=(gi d 10).int+1; let z3:=(((gi d 7).int.toNat:Nat):Int); let z4:=(((gi d 9).int.toNat:Nat):Int); (bif (bM (gi d 10).int 99999) then (bif ((gi (bZ [.int .i64] (gi d 6).rows [.i (gi d 10).int] [.i 0]) 0).int==0) then (bif ((gi (bZ [.int .i64] (gi d 8).rows [.i (gi d 10).int] [.i 0]) 0).int==0) then some (some 0,[.l (gi d 0).rows,.l (gi d 1).rows,.l (gi d 2).rows,.l (gi d 3).rows,.l (gi d 4).rows,.i g,.i (gi d 10).int,.i 0]) else (bif (aw z2) then some (none,[.l (gi d 0).rows,.l (gi d 1).rows,.l (gi d 2).rows,.l (gi d 3).rows,.l (gi d 4).rows,.i g,.l (gi d 6).rows,.i z3,.l (gi d 8).rows,.i z4,.i z2]) else none)) else (bif (aw z2) then some (none,[.l (gi d 0).rows,.l (gi d 1).rows,.l (gi d 2).rows,.l (gi d 3).rows,.l (gi d 4).rows,.i g,.l (gi d 6).rows,.i z3,.l (gi d 8).rows,.i z4,.i z2]) else none)) else some (some 1,[.l (gi d 0).rows,.l (gi d 1).rows,.l (gi d 2).rows,.l (gi d 3).rows,.l (gi d 4).rows,.i g]))
def Ra:bq:=⟨3,[],⟨26,[(4,.s (.map 2)),(5,.s (.map 3)),(6,.s (.int .i64))],[.box [.list ak,.list aY,.list [.str],.list [.int .i64],.map 1],.map (.agg [.str,.int .i64]) (.one (.bool)),.map (.one (.int .i64)) (.one (.int .i64)),.map (.one (.int .i64)) (.one (.int .i64))]⟩,[.fix 0,.cell 0 4,.slot 4,.slot 5],[⟨.ret,⟨26,[(2,.s (.int .i64)),(3,.s (.int .i64))],[.box [.list ak,.list aY,.list [.str],.list [.int .i64],.map 1],.map (.agg [.str,.int .i64]) (.one (.bool))]⟩,[.fix 0,.cell 0 4]⟩,⟨.exit 0,⟨26,[],[.box [.list ak,.list aY,.list [.str],.list [.int .i64],.map 1],.map (.agg [.str,.int .i64]) (.one (.bool))]⟩,[.fix 0,.cell 0 4]⟩],vc⟩
theorem ad2:cW P t52 az 2 (cX f27 3) Ra:=fun d=>by kernel_rfl
def Rb:LT:=az.add 2 Ra
theorem ad3:ax P 2 Rb (aN f27):=ax.a hm Ch (aK _ _ _) ad2
def H7(d:List G):List G:=[.l (gi d 0).rows,.l (gi d 1).rows,.l (gi d 2).rows,.l (gi d 3).rows,.l (gi d 4).rows,.i (((gi d 5).int.toNat:Nat):Int)]
def Ci(d g1:List G):List G:=[.l (gi g1 0).rows,.l (gi g1 1).rows,.l (gi g1 2).rows,.l (gi g1 3).rows,.l (gi g1 4).rows,.i (((gi g1 5).int.toNat:Nat):Int)]
def Cj(d g1 g2:List G):Option (List G) :=
 (a7 true (cd vc [.l (gi g2 0).rows,.l (gi g2 1).rows,.l (gi g2 2).rows,.l (gi g2 3).rows,.l (gi g2 4).rows,.i (((gi g2 5).int.toNat:Nat):Int),.l (gi g1 6).rows,.i (((gi g1 7).int.toNat:Nat):Int),.l (gi g2 6).rows,.i (((gi g2 7).int.toNat:Nat):Int),.i 1]) fun k g3=>let g:=(((gi g3 5).int.toNat:Nat):Int); (bif ab k 0 then some [.l (gi g3 0).rows,.l (gi g3 1).rows,.l (gi g3 2).rows,.l (gi g3 3).rows,.l (gi g3 4).rows,.i g,.i (gi g3 6).int,.i (gi g3 7).int] else some [.l (gi g3 0).rows,.l (gi g3 1).rows,.l (gi g3 2).rows,.l (gi g3 3).rows,.l (gi g3 4).rows,.i g,.i 0,.i 12]))
def vd(d:List G):Option (List G):=ar (oL (H7 d)) fun g1=>uE sd oM ((gi (kE (Ci d g1)) 4).rows) ((gi (kE (Ci d g1)) 5).int.toNat) (kE (Ci d g1)) fun g2=>Cj d g1 g2
def se:aA:=⟨27,[.s (.ptr 0 0)],[.box [.list ak,.list aY,.list [.str],.list [.int .i64],.map 1],.map (.agg [.str,.int .i64]) (.one (.bool))],[.slot 0,.cell 0 4],[.s (.int .i64),.s (.int .i64)],[.box [.list ak,.list aY,.list [.str],.list [.int .i64],.map 1],.map (.agg [.str,.int .i64]) (.one (.bool))],[.fix 0,.fix 1],[],vd⟩
def my(d g1:List G):ao:=sL P (t52.cP { yf with F:=fun _=>some g1 }) f27 se 3 d
theorem ad4:∀ d,(bW P t52 az (uD f27) ⟨er (se.args0 d) (f27).ntmps,se.H0 d⟩ fun x s=>match x with | .normal=>eg P t52 (iJ f27) ((iJ f27).toList.take 3) s fun s=>.done .normal s|_=>.fail).leaf uC=ar (oL (H7 d)) fun g1=>some (my d g1):=fun d=>by kernel_rfl
theorem ad5:∀ d g1 e,(eg P t52 (iJ f27) ((iJ f27).toList.drop 4) ⟨(my d g1).fr.set 10 (jc nF (ql f27 3 (my d g1)) (my d g1).H e).1,(jc nF (ql f27 3 (my d g1)) (my d g1).H e).2⟩ fun s=>bW P t52 Rb (BK f27) s .done).leaf (fv P (f27).results.toList se)=Cj d g1 e:=fun d g1 e=>by kernel_rfl
theorem ad6:∀ d g1,fo (my d g1).den.eval (xO f27 3).op=some (nF.f,(ql f27 3 (my d g1))):=fun d g1=>by kernel_rfl
theorem ad7:∀ d g1,xN nF (ql f27 3 (my d g1)) (my d g1).H=some (true,Ci d g1):=fun d g1=>by kernel_rfl
theorem ad8:aZ P se:=fun d r h=>by
 have h:vd d=some r:=h;unfold vd at h;obtain⟨g1,hs,h⟩:=Ob h;obtain⟨aL,g,hk⟩:=Od h;exact Oc (sp:=se) hm Ch Ch func27 (by kernel_rfl) (fF.mg (Q_ _ aL g)) (by kernel_rfl) (by kernel_rfl) (r0:=uD f27) (id:=1) (ops:=iJ f27) (rest:=BK f27) (by kernel_rfl) ad3 (l1:=(iJ f27).toList.take 3) (oc:=xO f27 3) (l2:=(iJ f27).toList.drop 4) (by kernel_rfl) (by kernel_rfl) (t:=10) (by kernel_rfl) (S1:=my d g1) ((ad4 d).trans (by rw[hs]; rfl)) (ad6 d g1) (ad7 d g1) (tl:=Cj d g1) (ad5 d g1) hk
def t53:ah:=t52.cP se
theorem Rc:aj P t53:=Ch.aW ad8

def Ck(d:List G):Option (List G) :=
 (ar (uX [.l (gi d 0).rows,.i (gi d 1).int]) fun g3=>(bif ((gi g3 0).int != 0) then (bif ((gi g3 0).int != 0) then some [.i 0,.i (gi g3 0).int] else none) else (ar (va [.l (gi d 0).rows,.i (gi d 1).int]) fun g4=>(bif ((gi g4 6).int != 0) then some [.i 0,.i (gi g4 6).int] else (ar (vd [.l (gi g4 0).rows,.l (gi g4 1).rows,.l (gi g4 2).rows,.l (gi g4 3).rows,.l (gi g4 4).rows,.i (((gi g4 5).int.toNat:Nat):Int)]) fun g5=>some [.i (gi g5 6).int,.i (gi g5 7).int])))))
def H8:aA:=⟨7,[.s (.list ak),.s (.int .i64)],[],[],[.s (.int .i64),.s (.int .i64)],[],[],[],Ck⟩
theorem ad9:bf P t53 az f7 H8:=fun d=>by kernel_rfl
theorem ad_:aZ P H8:=bt hm Rc func7 (aK _ _ _) ad9
def t54:ah:=t53.bz H8
theorem ad':aj P t54:=Rc.aP ad_

def t55:ah:=t54.dZ P 53 f53
theorem Re:aj P t55:=ad'.dZ hm func53 (by kernel_rfl) (by kernel_rfl)

def sf(d:List G):Option (List G) :=
 (ar (ir [.s (gi (gi d 0).row 0).str,.s (gi (gi d 1).row 0).str]) fun g1=>(ar (qt [.i (gi (gi d 0).row 1).int,.i (gi (gi d 1).row 1).int]) fun g2=>(ar (nE [.l [[.i (gi g1 0).int],[.i (gi g2 0).int]]]) fun g3=>some [.i (gi g3 0).int])))
def H9:aA:=⟨54,[.s (.row [.str,.int .i64]),.s (.row [.str,.int .i64])],[],[],[.s (.int .i64)],[],[],[],sf⟩
theorem aea:bf P t55 az f54 H9:=fun d=>by kernel_rfl
theorem Rf:aZ P H9:=bt hm Re func54 (aK _ _ _) aea
def t56:ah:=t55.bz H9
theorem aeb:aj P t56:=Re.aP Rf

def yg(d:List G):Option (List G) :=
 oE sf d
def yh:aA:=⟨92,[.s (.vec 0 2),.s (.fn 54)],[.vec [.str,.int .i64] 0],[.slot 0],[],[.vec [.str,.int .i64] 0],[.fix 0],[],yg⟩
theorem aec:∀ d r,yg d=some r→cz P 92 (yh.args0 d) (ai (yh.H0 d)) (yh.out r) (ai (yh.H1 r)):=fun d r h=>Bw Tryz.ZR [.str,.int .i64] (by kernel_rfl) Tryz.isAgg93 Tryz.sizeOf93 54 (by kernel_rfl) sf (fun d r h=>Rf d r h) d r h
def t57:ah:=t56.cP yh
theorem ve:aj P t57:=aeb.aW aec

theorem aed:BG P (.agg [.str,.int .i64]) 93:=N1 ve func93 (by kernel_rfl) rfl rfl rfl ⟨_,_,_,rfl,⟨rfl,rfl,rfl⟩,⟨rfl,rfl,rfl⟩,by kernel_rfl,by kernel_rfl⟩ ⟨_,_,rfl,rfl,rfl,rfl,rfl,rfl,rfl⟩ ⟨_,_,rfl,rfl,rfl,rfl⟩ ⟨_,_,_,_,_,_,rfl,⟨rfl,rfl,rfl⟩,⟨rfl,rfl,rfl⟩⟩ (s2:=jx P t57 (.agg [.str,.int .i64]) (BJ f93)) (s3:=fun l it g=>lr P t57 (N8 f93) (jx P t57 (.agg [.str,.int .i64]) (BJ f93) l it g)) (fun l it g=>by kernel_rfl) (fun l it g=>by kernel_rfl) (fun l it g=>by kernel_rfl) (fun l it g=>by kernel_rfl) (fun l it g=>by kernel_rfl) (fun l it g=>by kernel_rfl) (fun l it g=>by kernel_rfl)
def H_(r:List G):List G:=[.s (gi (gi r 0).row 0).str,.i (gi (gi r 0).row 1).int]
def lB(d:List G)(p:List (List G)):List G:=[.l (gB d),.i ((nu d:Nat):Int),.l (p.map H_)]
def Ia(r d:List G):Option (List G) :=
 let z:=((gi d 2).rows++([[.s (gi r 0).str,.i (gi r 1).int]]:List (List G))); bif ((ab (gi d 2).rows.length (gi d 2).rows.length)&&(decide ((gi d 2).rows.length+1≤1048576))) then (bif ((((ab z.length z.length)&&true)&&true)&&true) then some [.l (gi d 0).rows,.i (((gi d 1).int.toNat:Nat):Int),.l z] else none) else none
theorem aee:∀ d p r,p.length<1048576→Ia (gi r 0).row (lB d p)=some (lB d (p++[r])):=fun d p r h=>by
 have h1:p.length+1≤1048576:=h;simp[Ia,lB,H_,gi,G.rows,G.int,h1]
def Cl(e:List G):Option (List G):=bif (ab (gi e 2).rows.length (gi e 2).rows.length&&true) then some [.l (gi e 0).rows,.i (((gi e 1).int.toNat:Nat):Int),.l (gi e 2).rows] else none
theorem Rg:∀ d p,Cl (lB d p)=some (lB d p):=fun d p=>by simp[Cl,lB,gi,G.rows,G.int]
def Ib:aA:=⟨137,[.s .nil,.clo 93 [.ptr 0 0]],[.box [.map 1],.map (.agg [.str,.int .i64]) (.one (.bool))],[.cap 1 0,.cell 0 0],[.s (.vec 2 2)],[.box [.map 1],.map (.agg [.str,.int .i64]) (.one (.bool)),.vec [.str,.int .i64] 0],[.fix 0,.fix 1,.slot 0],[],fun _=>none⟩
theorem aef:∀ d,kB d=true→gR P Ib d (fun p=>p.Perm (gB d)) (lB d):=fun d aL=>N9 (V:=(.one (.bool))) (sp:=Ib) (fn:=f137) (L0:=az.ja [(1,[.e_ 2 0 [.str,.int .i64]])]) hm ve aed (fun _ _=>rT _) func137 (by kernel_rfl) (by kernel_rfl) (r0:=N3 f137) (r1:=N4 f137) (assign:=N5 f137) (body:=N6 f137) (rest:=N7 f137) (b:=0) (g:=6) (p0:=7) (by kernel_rfl) (by kernel_rfl) (inv:=⟨13,[(2,.s (.ptr 2 0))],[.box [.map 1],.map (.agg [.str,.int .i64]) (.one (.bool)),.box [.vec 3 2],.vec [.str,.int .i64] 0]⟩) (ps:=[.fix 0,.fix 1,.fix 2,.cell 2 0]) (psr:=[.fix 0,.fix 1,.fix 2,.cell 2 0]) (pre:=N2 P t57 (az.ja [(1,[.e_ 2 0 [.str,.int .i64]])]) f137 Ib) (D:=lB) (st:=Ia) (tl:=Cl) (R:=lB) (fun d=>by kernel_rfl) (fun d=>by kernel_rfl) (fun d=>by kernel_rfl) (fun d=>by kernel_rfl) (fun d=>by kernel_rfl) (fun d=>by kernel_rfl) (fun d p=>by kernel_rfl) (fun r d=>by kernel_rfl) aee (fun d=>by kernel_rfl) Rg aL
def Rh:aA:=⟨91,[.clo 93 [.ptr 0 0]],[.box [.map 1],.map (.agg [.str,.int .i64]) (.one (.bool))],[.cap 0 0,.cell 0 0],[.s (.vec 2 2)],[.box [.map 1],.map (.agg [.str,.int .i64]) (.one (.bool)),.vec [.str,.int .i64] 0],[.fix 0,.fix 1,.slot 0],[],fun _=>none⟩
theorem aeg:∀ d,kB d=true→gR P Rh d (fun p=>p.Perm (gB d)) (lB d):=N' hm ve func91 (by kernel_rfl) aef (by kernel_rfl) rfl (l1:=[_]) (l2:=[_]) rfl rfl rfl (s1:=BI P t57 f91 Rh) (fun d=>by kernel_rfl) (fun d=>by kernel_rfl) (fun d=>by kernel_rfl) (tl:=Cl) (fun d e=>by kernel_rfl) Rg
def Ic(e:List G):Option (List G):=fS ((ab (gi e 2).rows.length (gi e 2).rows.length&&true)&&(yg [.l (gi e 2).rows]).isSome) (yg [.l (gi e 2).rows]) fun g=>bif (ab (gi e 2).rows.length (gi g 0).rows.length&&true) then some [.l (gi e 0).rows,.i (((gi e 1).int.toNat:Nat):Int),.l (gi g 0).rows] else none
def Cm(d:List G):Option (List G):=uB lB Ic d
def Ie:aA:=⟨52,[.clo 93 [.ptr 0 0],.s (.fn 54)],[.box [.map 1],.map (.agg [.str,.int .i64]) (.one (.bool))],[.cap 0 0,.cell 0 0],[.s (.vec 2 2)],[.box [.map 1],.map (.agg [.str,.int .i64]) (.one (.bool)),.vec [.str,.int .i64] 0],[.fix 0,.fix 1,.slot 0],[],Cm⟩
theorem aeh:aZ P Ie:=N_ hm ve ve func52 (by kernel_rfl) aeg (by kernel_rfl) rfl (l1:=[_]) (l2:=[_]) rfl rfl rfl (s1:=BI P t57 f52 Ie) (fun d=>by kernel_rfl) (fun d=>by kernel_rfl) (fun d=>by kernel_rfl) (tl:=Ic) (fun d e=>by kernel_rfl) (fun _=>rfl)
def t58:ah:=t57.cP Ie
theorem If:aj P t58:=ve.aW aeh

def Cn(d:List G):Option (Option Nat × List G) :=
 let g:=(gi d 7).rows.getD (0+((gi d 9).int).toNat) []; let z2:=ab (gi d 6).rows.length (gi d 6).rows.length; let z3:=(((gi d 5).int.toNat:Nat):Int); (bif (aB (gi d 9).int (gi d 8).int) then (bif ((a_ (gi d 9).int)&&(aB (gi d 9).int (((gi d 7).rows.length:Nat):Int))) then (bif (decide ((0+((gi d 9).int).toNat)<(gi d 7).rows.length)) then (ar (oI [.i (gi g 1).int]) fun g2=>let z4:=((gi d 6).rows++([[.s (gi g 0).str,.s (gi g2 0).str]]:List (List G))); (bif (z2&&(decide (((gi d 6).rows.length+1)≤1048576))) then (bif (aw ((gi d 9).int+1)) then (bif ((ab z4.length z4.length)&&((ab (gi d 7).rows.length (gi d 7).rows.length)&&true)) then some (none,[.l (gi d 0).rows,.l (gi d 1).rows,.l (gi d 2).rows,.l (gi d 3).rows,.l (gi d 4).rows,.i z3,.l z4,.l (gi d 7).rows,.i (gi d 8).int,.i ((gi d 9).int+1)]) else none) else none) else none)) else none) else none) else (bif (z2&&true) then some (some 0,[.l (gi d 0).rows,.l (gi d 1).rows,.l (gi d 2).rows,.l (gi d 3).rows,.l (gi d 4).rows,.i z3,.l (gi d 6).rows]) else none))
def Ri:bq:=⟨4,[(4,[.str,.str])],⟨30,[(4,.s (.vec 2 2)),(13,.s (.vec 3 2)),(14,.s (.int .i64)),(15,.s (.int .i64))],[.box [.list ak,.list aY,.list [.str],.list [.int .i64],.map 1],.map (.agg [.str,.int .i64]) (.one (.bool)),.vec [.str,.str] 0,.vec [.str,.int .i64] 0]⟩,[.fix 0,.cell 0 4,.slot 4,.slot 13],[⟨.exit 0,⟨30,[(4,.s (.vec 2 2))],[.box [.list ak,.list aY,.list [.str],.list [.int .i64],.map 1],.map (.agg [.str,.int .i64]) (.one (.bool)),.vec [.str,.str] 0]⟩,[.fix 0,.cell 0 4,.slot 4]⟩],Cn⟩
theorem aei:cW P t58 az 2 (cX f28 4) Ri:=fun d=>by kernel_rfl
def Rj:LT:=az.add 2 Ri
theorem aej:ax P 2 Rj (aN f28):=ax.a hm If (aK _ _ _) aei
def Co(d:List G):Option (List G) :=
 (ar (Cm [.l (gi d 4).rows,.i (((gi d 5).int.toNat:Nat):Int)]) fun g1=>(a7 ((ab (gi g1 2).rows.length (gi g1 2).rows.length)&&true) (cd Cn [.l (gi d 0).rows,.l (gi d 1).rows,.l (gi d 2).rows,.l (gi d 3).rows,.l (gi g1 0).rows,.i (((gi g1 1).int.toNat:Nat):Int),.l [],.l (gi g1 2).rows,.i (((gi g1 2).rows.length:Nat):Int),.i 0]) fun g g3=>(bif ((ab (gi g3 6).rows.length (gi g3 6).rows.length)&&true) then some [.l (gi g3 0).rows,.l (gi g3 1).rows,.l (gi g3 2).rows,.l (gi g3 3).rows,.l (gi g3 4).rows,.i (((gi g3 5).int.toNat:Nat):Int),.l (gi g3 6).rows] else none)))
def Ig:aA:=⟨28,[.s (.ptr 0 0)],[.box [.list ak,.list aY,.list [.str],.list [.int .i64],.map 1],.map (.agg [.str,.int .i64]) (.one (.bool))],[.slot 0,.cell 0 4],[.s (.list [.str,.str])],[.box [.list ak,.list aY,.list [.str],.list [.int .i64],.map 1],.map (.agg [.str,.int .i64]) (.one (.bool))],[.fix 0,.fix 1],[],Co⟩
theorem aek:bf P t58 Rj f28 Ig:=fun d=>by kernel_rfl
theorem ael:aZ P Ig:=bt hm If func28 aej aek
def t59:ah:=t58.cP Ig
theorem Rk:aj P t59:=If.aW ael

def Cp(d:List G):Option (List G) :=
 (ar (uX [.l (gi d 0).rows,.i (gi d 1).int]) fun g1=>(bif ((gi g1 0).int != 0) then (bif ((gi g1 0).int != 0) then some [.l [],.i (gi g1 0).int] else none) else (ar (va [.l (gi d 0).rows,.i (gi d 1).int]) fun g2=>(bif ((gi g2 6).int != 0) then some [.l [],.i (gi g2 6).int] else (ar (Co [.l (gi g2 0).rows,.l (gi g2 1).rows,.l (gi g2 2).rows,.l (gi g2 3).rows,.l (gi g2 4).rows,.i (((gi g2 5).int.toNat:Nat):Int)]) fun g3=>some [.l (gi g3 6).rows,.i 0])))))
def Ih:aA:=⟨8,[.s (.list ak),.s (.int .i64)],[],[],[.s (.list [.str,.str]),.s (.int .i64)],[],[],[],Cp⟩
theorem aem:bf P t59 az f8 Ih:=fun d=>by kernel_rfl
theorem aen:aZ P Ih:=bt hm Rk func8 (aK _ _ _) aem
def t60:ah:=t59.bz Ih
theorem aeo:aj P t60:=Rk.aP aen

def Ii(d:List G):Option (List G) :=
 GG d
def Rl:aA:=⟨57,[.s (.map 0)],[.map (.one (.int .i64)) (.one (.int .i64))],[.slot 0],[.s (.map 1)],[.map (.one (.int .i64)) (.one (.int .i64)),.map (.one (.int .i64)) (.one (.int .i64))],[.fix 0,.slot 0],[],Ii⟩
theorem aep:aZ P Rl:=fun d r h=>Za Tryz.ZV (.one (.int .i64)) (.one (.int .i64)) d r h
def t61:ah:=t60.cP Rl
theorem aeq:aj P t61:=aeo.aW aep

def t62:ah:=t61.dZ P 59 f59
theorem aer:aj P t62:=aeq.dZ hm func59 (by kernel_rfl) (by kernel_rfl)

def sg(d:List G):Option (List G) :=
 By d
def yi:aA:=⟨39,[.s (.vec 0 1)],[.vec [.int .i64] 0],[.slot 0],[],[.vec [.int .i64] 0],[.fix 0],[],sg⟩
theorem aes:∀ d r,sg d=some r→cz P 39 (yi.args0 d) (ai (yi.H0 d)) (yi.out r) (ai (yi.H1 r)):=fun d r h=>YT Tryz.ZT d r h
def t63:ah:=t62.cP yi
theorem vf:aj P t63:=aer.aW aes

theorem aet:BG P (.one (.int .i64)) 97:=N1 vf func97 (by kernel_rfl) rfl rfl rfl ⟨_,_,_,rfl,⟨rfl,rfl,rfl⟩,⟨rfl,rfl,rfl⟩,by kernel_rfl,by kernel_rfl⟩ ⟨_,_,rfl,rfl,rfl,rfl,rfl,rfl,rfl⟩ ⟨_,_,rfl,rfl,rfl,rfl⟩ ⟨_,_,_,_,_,_,rfl,⟨rfl,rfl,rfl⟩,⟨rfl,rfl,rfl⟩⟩ (s2:=jx P t63 (.one (.int .i64)) (BJ f97)) (s3:=fun l it g=>lr P t63 (N8 f97) (jx P t63 (.one (.int .i64)) (BJ f97) l it g)) (fun l it g=>by kernel_rfl) (fun l it g=>by kernel_rfl) (fun l it g=>by kernel_rfl) (fun l it g=>by kernel_rfl) (fun l it g=>by kernel_rfl) (fun l it g=>by kernel_rfl) (fun l it g=>by kernel_rfl)
def Ij(r:List G):List G:=[.i (gi (gi r 0).row 0).int]
def lC(d:List G)(p:List (List G)):List G:=[.l (gB d),.i ((nu d:Nat):Int),.l (p.map Ij)]
def Ik(r d:List G):Option (List G) :=
 let z:=((gi d 2).rows++([[.i (gi r 0).int]]:List (List G))); bif ((ab (gi d 2).rows.length (gi d 2).rows.length)&&(decide ((gi d 2).rows.length+1≤1048576))) then (bif ((((ab z.length z.length)&&true)&&true)&&true) then some [.l (gi d 0).rows,.i (((gi d 1).int.toNat:Nat):Int),.l z] else none) else none
theorem aeu:∀ d p r,p.length<1048576→Ik (gi r 0).row (lC d p)=some (lC d (p++[r])):=fun d p r h=>by
 have h1:p.length+1≤1048576:=h;simp[Ik,lC,Ij,gi,G.rows,G.int,h1]
def Cq(e:List G):Option (List G):=bif (ab (gi e 2).rows.length (gi e 2).rows.length&&true) then some [.l (gi e 0).rows,.i (((gi e 1).int.toNat:Nat):Int),.l (gi e 2).rows] else none
theorem Rm:∀ d p,Cq (lC d p)=some (lC d p):=fun d p=>by simp[Cq,lC,gi,G.rows,G.int]
def Il:aA:=⟨139,[.s .nil,.clo 97 [.ptr 0 0]],[.box [.map 1],.map (.one (.int .i64)) (.one (.int .i64))],[.cap 1 0,.cell 0 0],[.s (.vec 2 1)],[.box [.map 1],.map (.one (.int .i64)) (.one (.int .i64)),.vec [.int .i64] 0],[.fix 0,.fix 1,.slot 0],[],fun _=>none⟩
theorem aev:∀ d,kB d=true→gR P Il d (fun p=>p.Perm (gB d)) (lC d):=fun d aL=>N9 (V:=(.one (.int .i64))) (sp:=Il) (fn:=f139) (L0:=az.ja [(1,[.e_ 2 0 [.int .i64]])]) hm vf aet (fun _ _=>rT _) func139 (by kernel_rfl) (by kernel_rfl) (r0:=N3 f139) (r1:=N4 f139) (assign:=N5 f139) (body:=N6 f139) (rest:=N7 f139) (b:=0) (g:=6) (p0:=7) (by kernel_rfl) (by kernel_rfl) (inv:=⟨13,[(2,.s (.ptr 2 0))],[.box [.map 1],.map (.one (.int .i64)) (.one (.int .i64)),.box [.vec 3 1],.vec [.int .i64] 0]⟩) (ps:=[.fix 0,.fix 1,.fix 2,.cell 2 0]) (psr:=[.fix 0,.fix 1,.fix 2,.cell 2 0]) (pre:=N2 P t63 (az.ja [(1,[.e_ 2 0 [.int .i64]])]) f139 Il) (D:=lC) (st:=Ik) (tl:=Cq) (R:=lC) (fun d=>by kernel_rfl) (fun d=>by kernel_rfl) (fun d=>by kernel_rfl) (fun d=>by kernel_rfl) (fun d=>by kernel_rfl) (fun d=>by kernel_rfl) (fun d p=>by kernel_rfl) (fun r d=>by kernel_rfl) aeu (fun d=>by kernel_rfl) Rm aL
def Rn:aA:=⟨96,[.clo 97 [.ptr 0 0]],[.box [.map 1],.map (.one (.int .i64)) (.one (.int .i64))],[.cap 0 0,.cell 0 0],[.s (.vec 2 1)],[.box [.map 1],.map (.one (.int .i64)) (.one (.int .i64)),.vec [.int .i64] 0],[.fix 0,.fix 1,.slot 0],[],fun _=>none⟩
theorem aew:∀ d,kB d=true→gR P Rn d (fun p=>p.Perm (gB d)) (lC d):=N' hm vf func96 (by kernel_rfl) aev (by kernel_rfl) rfl (l1:=[_]) (l2:=[_]) rfl rfl rfl (s1:=BI P t63 f96 Rn) (fun d=>by kernel_rfl) (fun d=>by kernel_rfl) (fun d=>by kernel_rfl) (tl:=Cq) (fun d e=>by kernel_rfl) Rm
def Im(e:List G):Option (List G):=fS ((ab (gi e 2).rows.length (gi e 2).rows.length&&true)&&(sg [.l (gi e 2).rows]).isSome) (sg [.l (gi e 2).rows]) fun g=>bif (ab (gi e 2).rows.length (gi g 0).rows.length&&true) then some [.l (gi e 0).rows,.i (((gi e 1).int.toNat:Nat):Int),.l (gi g 0).rows] else none
def Cr(d:List G):Option (List G):=uB lC Im d
def Io:aA:=⟨58,[.clo 97 [.ptr 0 0]],[.box [.map 1],.map (.one (.int .i64)) (.one (.int .i64))],[.cap 0 0,.cell 0 0],[.s (.vec 2 1)],[.box [.map 1],.map (.one (.int .i64)) (.one (.int .i64)),.vec [.int .i64] 0],[.fix 0,.fix 1,.slot 0],[],Cr⟩
theorem aex:aZ P Io:=N_ hm vf vf func58 (by kernel_rfl) aew (by kernel_rfl) rfl (l1:=[_]) (l2:=[_]) rfl rfl rfl (s1:=BI P t63 f58 Io) (fun d=>by kernel_rfl) (fun d=>by kernel_rfl) (fun d=>by kernel_rfl) (tl:=Im) (fun d e=>by kernel_rfl) (fun _=>rfl)
def t64:ah:=t63.cP Io
theorem aey:aj P t64:=vf.aW aex

def t65:ah:=t64.dZ P 99 f99
theorem Ro:aj P t65:=aey.dZ hm func99 (by kernel_rfl) (by kernel_rfl)

def lD(d:List G):Option (List G) :=
 (bif (bM (gi d 1).int (gi d 0).int) then some [.t (bM (gi d 0).int (gi d 2).int)] else some [.t false])
def Ip:aA:=⟨62,[.s (.int .i64),.s (.int .i64),.s (.int .i64)],[],[],[.s (.bool)],[],[],[],lD⟩
theorem aez:bf P t65 az f62 Ip:=fun d=>by kernel_rfl
theorem aeA:aZ P Ip:=bt hm Ro func62 (aK _ _ _) aez
def t66:ah:=t65.bz Ip
theorem Iq:aj P t66:=Ro.aP aeA

def Rp(d:List G):Option (Option Nat × List G) :=
 (bif (aB (gi d 3).int (gi d 2).int) then (bif ((a_ (gi d 3).int)&&(aB (gi d 3).int (((gi d 0).str.size:Nat):Int))) then (ar (BX [.s (gi d 1).str,.i (((gi d 0).str.data.toList.getD (((gi d 3).int).toNat) 0).toNat:Int)]) fun g1=>(bif (aB (gi g1 0).int 0) then some (some 0,[.t false]) else (bif (aw ((gi d 3).int+1)) then some (none,[.s (gi d 0).str,.s (gi d 1).str,.i (gi d 2).int,.i ((gi d 3).int+1)]) else none))) else none) else some (some 1,[]))
def Rq:bq:=⟨2,[],⟨18,[(0,.s (.str)),(1,.s (.str)),(7,.s (.int .i64)),(8,.s (.int .i64))],[]⟩,[],[⟨.ret,⟨18,[(4,.s (.bool))],[]⟩,[]⟩,⟨.exit 0,⟨18,[],[]⟩,[]⟩],Rp⟩
theorem aeB:cW P t66 az 0 (cX f100 2) Rq:=fun d=>by kernel_rfl
def Rr:LT:=az.add 0 Rq
theorem aeC:ax P 0 Rr (aN f100):=ax.a hm Iq (aK _ _ _) aeB
def Ir(d:List G):Option (List G) :=
 (a7 true (cd Rp [.s (gi d 0).str,.s (gi d 1).str,.i (((gi d 0).str.size:Nat):Int),.i 0]) fun g g2=>(bif ab g 0 then some [.t (gi g2 0).bool] else some [.t true]))
def Is:aA:=⟨100,[.s (.str),.s (.str)],[],[],[.s (.bool)],[],[],[],Ir⟩
theorem aeD:bf P t66 Rr f100 Is:=fun d=>by kernel_rfl
theorem aeE:aZ P Is:=bt hm Iq func100 aeC aeD
def t67:ah:=t66.bz Is
theorem Rt:aj P t67:=Iq.aP aeE

def oN(d:List G):Option (List G) :=
 let g:=(((gi d 0).str.size:Nat):Int); (ar (lD [.i g,.i 1,.i 40]) fun g1=>(bif (gi g1 0).bool then (bif (bM 1 g) then (ar (Ir [.s ((gi d 0).str.extract 0 1),.s (⟨#[97,98,99,100,101,102,103,104,105,106,107,108,109,110,111,112,113,114,115,116,117,118,119,120,121,122]⟩:ByteArray)]) fun g2=>(bif (gi g2 0).bool then (ar (Ir [.s (gi d 0).str,.s (⟨#[97,98,99,100,101,102,103,104,105,106,107,108,109,110,111,112,113,114,115,116,117,118,119,120,121,122,48,49,50,51,52,53,54,55,56,57,45,95]⟩:ByteArray)]) fun g3=>some [.t (gi g3 0).bool]) else some [.t false])) else none) else some [.t false]))
def It:aA:=⟨61,[.s (.str)],[],[],[.s (.bool)],[],[],[],oN⟩
theorem aeF:bf P t67 az f61 It:=fun d=>by kernel_rfl
theorem aeG:aZ P It:=bt hm Rt func61 (aK _ _ _) aeF
def t68:ah:=t67.bz It
theorem Ru:aj P t68:=Rt.aP aeG

def sk(d:List G):Option (List G) :=
 (ar (lD [.i (gi d 0).int,.i 0,.i 345686399999]) fun g1=>some [.t (gi g1 0).bool])
def Iu:aA:=⟨34,[.s (.int .i64)],[],[],[.s (.bool)],[],[],[],sk⟩
theorem aeH:bf P t68 az f34 Iu:=fun d=>by kernel_rfl
theorem aeI:aZ P Iu:=bt hm Ru func34 (aK _ _ _) aeH
def t69:ah:=t68.bz Iu
theorem Rv:aj P t69:=Ru.aP aeI

def Iv(d:List G):Option (List G) :=
 (ar (GZ [.s (gi d 0).str]) fun g1=>some [.t (gi g1 1).bool])
def Iw:aA:=⟨101,[.s (.str)],[],[],[.s (.bool)],[],[],[],Iv⟩
theorem aeJ:bf P t69 az f101 Iw:=fun d=>by kernel_rfl
theorem aeK:aZ P Iw:=bt hm Rv func101 (aK _ _ _) aeJ
def t70:ah:=t69.bz Iw
theorem Rw:aj P t70:=Rv.aP aeK

def yj(d:List G):Option (List G) :=
 let g:=(!((gi (gi d 0).row 7).str.toList==(⟨#[]⟩:ByteArray).toList)); let z2:=oN [.s (gi (gi d 0).row 7).str]; (ar (sk [.i (gi (gi d 0).row 0).int]) fun g1=>(bif (!(gi g1 0).bool) then some [.i 1] else (ar (lD [.i (gi (gi d 0).row 1).int,.i 1,.i 3]) fun g2=>(bif (!(gi g2 0).bool) then some [.i 4] else (ar (oN [.s (gi (gi d 0).row 2).str]) fun g3=>(bif (!(gi g3 0).bool) then some [.i 5] else (ar (Iv [.s (gi (gi d 0).row 3).str]) fun g4=>(bif (!(gi g4 0).bool) then some [.i 3] else (ar (lD [.i (gi (gi d 0).row 4).int,.i 0,.i 99999]) fun g5=>(bif (!(gi g5 0).bool) then some [.i 1] else (ar (lD [.i (gi (gi d 0).row 5).int,.i 0,.i 99999]) fun g6=>(bif (!(gi g6 0).bool) then some [.i 1] else (bif (!((gi (gi d 0).row 6).str.toList==(⟨#[]⟩:ByteArray).toList)) then (ar (oN [.s (gi (gi d 0).row 6).str]) fun g7=>(bif (!(gi g7 0).bool) then some [.i 5] else (bif g then (ar z2 fun g8=>(bif (!(gi g8 0).bool) then some [.i 5] else some [.i 0])) else some [.i 0]))) else (bif g then (ar z2 fun g9=>(bif (!(gi g9 0).bool) then some [.i 5] else some [.i 0])) else some [.i 0]))))))))))))))
def Ix:aA:=⟨63,[.s (.row aY)],[],[],[.s (.int .i64)],[],[],[],yj⟩
theorem aeL:bf P t70 az f63 Ix:=fun d=>by kernel_rfl
theorem aeM:aZ P Ix:=bt hm Rw func63 (aK _ _ _) aeL
def t71:ah:=t70.bz Ix
theorem Rx:aj P t71:=Rw.aP aeM

def Cs(d:List G):Option (List G) :=
 let g:=(⟨#[]⟩:ByteArray); let z2:=gi (gi d 0).row 3; let z3:=gi (gi d 0).row 2; let z4:=aR ak (gi d 0).row; let z5:=gi (gi d 0).row 0; let k:=gi (gi d 0).row 1; let q:=gi (gi d 0).row 8; let A:=gi (gi d 0).row 4; (ar (oN [.s z5.str]) fun g1=>(bif (!(gi g1 0).bool) then some [.i 5] else (ar (lD [.i k.int,.i 1,.i 1000000]) fun g2=>(bif (!(gi g2 0).bool) then some [.i 1] else (ar (sk [.i z3.int]) fun g3=>(bif (!(gi g3 0).bool) then some [.i 1] else (ar (lD [.i z2.int,.i 1,.i 5]) fun g4=>(bif (!(gi g4 0).bool) then some [.i 4] else (bif (z2.int==1) then (ar (yj [.l [[.i A.int,.i (gi (gi d 0).row 5).int,.s (gi (gi d 0).row 6).str,.s (gi (gi d 0).row 7).str,.i q.int,.i (gi (gi d 0).row 9).int,.s (gi (gi d 0).row 10).str,.s (gi (gi d 0).row 11).str]]]) fun g5=>(bif ((gi g5 0).int != 0) then some [.i (gi g5 0).int] else (bif (aB z3.int A.int) then some [.i 1] else (bif (!(aq ak z4 [.s z5.str,.i k.int,.i z3.int,.i z2.int,.i A.int,.i (gi (gi d 0).row 5).int,.s (gi (gi d 0).row 6).str,.s (gi (gi d 0).row 7).str,.i q.int,.i (gi (gi d 0).row 9).int,.s (gi (gi d 0).row 10).str,.s (gi (gi d 0).row 11).str,.s g,.s g,.i 0])) then some [.i 3] else some [.i 0])))) else (bif (z2.int==2) then (ar (oN [.s (gi (gi d 0).row 12).str]) fun g6=>(bif (!(gi g6 0).bool) then some [.i 5] else (bif (!(aq ak z4 [.s z5.str,.i k.int,.i z3.int,.i z2.int,.i 0,.i 0,.s g,.s g,.i 0,.i 0,.s g,.s g,.s (gi (gi d 0).row 12).str,.s g,.i 0])) then some [.i 3] else some [.i 0]))) else (bif (z2.int==5) then (ar (oN [.s (gi (gi d 0).row 13).str]) fun g7=>(bif (!(gi g7 0).bool) then some [.i 5] else (ar (lD [.i (gi (gi d 0).row 14).int,.i 1,.i 1000000]) fun g8=>(bif (!(gi g8 0).bool) then some [.i 1] else (bif (!(aq ak z4 [.s z5.str,.i k.int,.i z3.int,.i z2.int,.i 0,.i 0,.s g,.s g,.i 0,.i 0,.s g,.s g,.s g,.s (gi (gi d 0).row 13).str,.i (gi (gi d 0).row 14).int])) then some [.i 3] else some [.i 0]))))) else (ar (lD [.i q.int,.i 1,.i 99999]) fun g9=>(bif (!(gi g9 0).bool) then some [.i 1] else (bif (!(aq ak z4 [.s z5.str,.i k.int,.i z3.int,.i z2.int,.i 0,.i 0,.s g,.s g,.i q.int,.i 0,.s g,.s g,.s g,.s g,.i 0])) then some [.i 3] else some [.i 0]))))))))))))))
def Iy:aA:=⟨30,[.s (.row ak)],[],[],[.s (.int .i64)],[],[],[],Cs⟩
theorem aeN:bf P t71 az f30 Iy:=fun d=>by kernel_rfl
theorem aeO:aZ P Iy:=bt hm Rx func30 (aK _ _ _) aeN
def t72:ah:=t71.bz Iy
theorem Ry:aj P t72:=Rx.aP aeO

def Cu(d:List G):Option (List G) :=
 (bif ((gi (gi d 0).row 0).str.toList==(gi (gi d 1).row 0).str.toList) then some [.t ((gi (gi d 0).row 1).int==(gi (gi d 1).row 1).int)] else some [.t false])
def Iz:aA:=⟨33,[.s (.row ak),.s (.row ak)],[],[],[.s (.bool)],[],[],[],Cu⟩
theorem aeP:bf P t72 az f33 Iz:=fun d=>by kernel_rfl
theorem aeQ:aZ P Iz:=bt hm Ry func33 (aK _ _ _) aeP
def t73:ah:=t72.bz Iz
theorem Rz:aj P t73:=Ry.aP aeQ

def Cv(d:List G):Option (List G) :=
 (ar (Cu [.l [(aR ak (gi d 0).row)],.l [(aR ak (gi d 1).row)]]) fun g1=>some [.t (gi g1 0).bool])
def IA:aA:=⟨32,[.s (.row ak),.s (.cptr ak)],[],[],[.s (.bool)],[],[],[],Cv⟩
theorem aeR:bf P t73 az f32 IA:=fun d=>by kernel_rfl
theorem aeS:aZ P IA:=bt hm Rz func32 (aK _ _ _) aeR
def t74:ah:=t73.bz IA
theorem IB:aj P t74:=Rz.aP aeS

def Cw(d:List G):Option (Option Nat × List G) :=
 let g:=aR ak (gi d 1).row; (bif (aB (gi d 3).int (gi d 2).int) then (bif ((a_ (gi d 3).int)&&(aB (gi d 3).int (((gi d 0).rows.length:Nat):Int))) then (ar (Cv [.l [(aR ak ((gi d 0).rows.getD (((gi d 3).int).toNat) []))],.l [g]]) fun g1=>(bif (gi g1 0).bool then some (some 0,[.i (gi d 3).int]) else (bif (aw ((gi d 3).int+1)) then some (none,[.l (gi d 0).rows,.l [g],.i (gi d 2).int,.i ((gi d 3).int+1)]) else none))) else none) else some (some 1,[]))
def RB:bq:=⟨2,[],⟨19,[(0,.s (.list ak)),(1,.clo 32 [.cptr ak]),(7,.s (.int .i64)),(8,.s (.int .i64))],[]⟩,[],[⟨.ret,⟨19,[(4,.s (.int .i64))],[]⟩,[]⟩,⟨.exit 0,⟨19,[],[]⟩,[]⟩],Cw⟩
theorem aeT:cW P t74 az 0 (cX f64 2) RB:=fun d=>by kernel_rfl
def RC:LT:=az.add 0 RB
theorem aeU:ax P 0 RC (aN f64):=ax.a hm IB (aK _ _ _) aeT
def Cx(d:List G):Option (List G) :=
 (a7 true (cd Cw [.l (gi d 0).rows,.l [(aR ak (gi d 1).row)],.i (((gi d 0).rows.length:Nat):Int),.i 0]) fun g g2=>(bif ab g 0 then some [.i (gi g2 0).int] else some [.i (-1)]))
def IC:aA:=⟨64,[.s (.list ak),.clo 32 [.cptr ak]],[],[],[.s (.int .i64)],[],[],[],Cx⟩
theorem aeV:bf P t74 RC f64 IC:=fun d=>by kernel_rfl
theorem aeW:aZ P IC:=bt hm IB func64 aeU aeV
def t75:ah:=t74.bz IC
theorem RD:aj P t75:=IB.aP aeW

def Cy(d:List G):Option (List G) :=
 (ar (Cx [.l (gi d 0).rows,.l [(aR ak (gi d 1).row)]]) fun g1=>some [.t (bM 0 (gi g1 0).int)])
def ID:aA:=⟨31,[.s (.list ak),.clo 32 [.cptr ak]],[],[],[.s (.bool)],[],[],[],Cy⟩
theorem aeX:bf P t75 az f31 ID:=fun d=>by kernel_rfl
theorem aeY:aZ P ID:=bt hm RD func31 (aK _ _ _) aeX
def t76:ah:=t75.bz ID
theorem Cz:aj P t76:=RD.aP aeY

def yk(d:List G):Option (Option Nat × List G) :=
 let g:=aR ak ((gi d 1).rows.getD (((gi d 3).int).toNat) []); let z2:=(gi d 3).int-1; let z3:=(gi d 3).int+1; (bif (aB (gi d 3).int (gi d 2).int) then (bif ((a_ (gi d 3).int)&&(aB (gi d 3).int (((gi d 1).rows.length:Nat):Int))) then (ar (Cs [.l [g]]) fun g1=>(bif ((gi g1 0).int != 0) then some (some 0,[.i (gi g1 0).int]) else (bif (aB 0 (gi d 3).int) then (bif (aw z2) then (bif ((a_ z2)&&(aB z2 (((gi d 0).rows.length:Nat):Int))) then (ar (uS [.l [(aR ak ((gi d 0).rows.getD (z2.toNat) []))],.l [g]]) fun g2=>(bif (bM 0 (gi g2 0).int) then some (some 0,[.i 7]) else (bif (aw z3) then some (none,[.l (gi d 0).rows,.l (gi d 1).rows,.i (gi d 2).int,.i z3]) else none))) else none) else none) else (bif (aw z3) then some (none,[.l (gi d 0).rows,.l (gi d 1).rows,.i (gi d 2).int,.i z3]) else none)))) else none) else some (some 1,[.l (gi d 0).rows]))
def RE:bq:=⟨4,[],⟨49,[(0,.s (.list ak)),(11,.s (.list ak)),(12,.s (.int .i64)),(13,.s (.int .i64))],[]⟩,[],[⟨.ret,⟨49,[(2,.s (.int .i64))],[]⟩,[]⟩,⟨.exit 0,⟨49,[(0,.s (.list ak))],[]⟩,[]⟩],yk⟩
theorem aeZ:cW P (t76.i_ [31]) az 0 (cX f11 4) RE:=fun d=>by kernel_rfl
def IE:LT:=az.add 0 RE
theorem ae0:ax P 0 IE (aN f11):=ax.add hm (Cz.i_ [31]) (by kernel_rfl) (aK _ _ _) aeZ
def ym(d:List G):Option (Option Nat × List G) :=
 (bif (aB (gi d 3).int (gi d 2).int) then (bif ((a_ (gi d 3).int)&&(aB (gi d 3).int (((gi d 1).rows.length:Nat):Int))) then (bif ((a_ (gi d 3).int)&&(bM (gi d 3).int (((gi d 0).rows.length:Nat):Int))) then (ar (Cy [.l ((gi d 0).rows.take (((gi d 3).int).toNat)),.l [(aR ak ((gi d 1).rows.getD (((gi d 3).int).toNat) []))]]) fun g4=>(bif (gi g4 0).bool then some (some 0,[.i 6]) else (bif (aw ((gi d 3).int+1)) then some (none,[.l (gi d 0).rows,.l (gi d 1).rows,.i (gi d 2).int,.i ((gi d 3).int+1)]) else none))) else none) else none) else some (some 1,[]))
def RF:bq:=⟨13,[],⟨49,[(0,.s (.list ak)),(36,.s (.list ak)),(37,.s (.int .i64)),(38,.s (.int .i64))],[]⟩,[],[⟨.ret,⟨49,[(2,.s (.int .i64))],[]⟩,[]⟩,⟨.exit 2,⟨49,[],[]⟩,[]⟩],ym⟩
theorem ae1:cW P (t76.i_ [31]) IE 0 (cX f11 13) RF:=fun d=>by kernel_rfl
def RG:LT:=IE.add 0 RF
theorem ae2:ax P 0 RG (aN f11):=ax.add hm (Cz.i_ [31]) (by kernel_rfl) ae0 ae1
def yn(d:List G):Option (List G) :=
 let g:=(((gi d 0).rows.length:Nat):Int); (bif (aB 2000 g) then some [.i 2] else (a7 true (cd yk [.l (gi d 0).rows,.l (gi d 0).rows,.i g,.i 0]) fun k g3=>(bif ab k 0 then some [.i (gi g3 0).int] else (a7 true (cd ym [.l (gi g3 0).rows,.l (gi g3 0).rows,.i (((gi g3 0).rows.length:Nat):Int),.i 0]) fun q g5=>(bif ab q 0 then some [.i (gi g5 0).int] else some [.i 0])))))
def IF:aA:=⟨11,[.s (.list ak)],[],[],[.s (.int .i64)],[],[],[],yn⟩
theorem ae3:bf P (t76.i_ [31]) RG f11 IF:=fun d=>by kernel_rfl
theorem ae4:aZ P IF:=xh hm (Cz.i_ [31]) func11 (by kernel_rfl) ae2 ae3 (by kernel_rfl)
def t77:ah:=t76.bz IF
theorem RH:aj P t77:=Cz.aP ae4

def CA(d:List G):Option (List G) :=
 (ar (sk [.i (gi d 0).int]) fun g1=>(bif (!(gi g1 0).bool) then some [.i 1] else some [.i 0]))
def IG:aA:=⟨12,[.s (.int .i64)],[],[],[.s (.int .i64)],[],[],[],CA⟩
theorem ae5:bf P t77 az f12 IG:=fun d=>by kernel_rfl
theorem ae6:aZ P IG:=bt hm RH func12 (aK _ _ _) ae5
def t78:ah:=t77.bz IG
theorem IH:aj P t78:=RH.aP ae6

def yo(d:List G):Option (Option Nat × List G) :=
 let g:=gi ((gi d 0).rows.getD (((gi d 2).int).toNat) []) 0; (bif (aB (gi d 2).int (gi d 1).int) then (bif ((a_ (gi d 2).int)&&(aB (gi d 2).int (((gi d 0).rows.length:Nat):Int))) then (bif (g.int != 0) then some (some 0,[.i g.int]) else (bif (aw ((gi d 2).int+1)) then some (none,[.l (gi d 0).rows,.i (gi d 1).int,.i ((gi d 2).int+1)]) else none)) else none) else some (some 1,[]))
def RI:bq:=⟨2,[],⟨15,[(5,.s (.list [.int .i64])),(6,.s (.int .i64)),(7,.s (.int .i64))],[]⟩,[],[⟨.ret,⟨15,[(2,.s (.int .i64))],[]⟩,[]⟩,⟨.exit 0,⟨15,[],[]⟩,[]⟩],yo⟩
theorem ae7:cW P t78 az 0 (cX f10 2) RI:=fun d=>by kernel_rfl
def RJ:LT:=az.add 0 RI
theorem ae8:ax P 0 RJ (aN f10):=ax.a hm IH (aK _ _ _) ae7
def CB(d:List G):Option (List G) :=
 (a7 true (cd yo [.l (gi d 0).rows,.i (((gi d 0).rows.length:Nat):Int),.i 0]) fun g g1=>(bif ab g 0 then some [.i (gi g1 0).int] else some [.i 0]))
def II:aA:=⟨10,[.s (.list [.int .i64])],[],[],[.s (.int .i64)],[],[],[],CB⟩
theorem ae9:bf P t78 RJ f10 II:=fun d=>by kernel_rfl
theorem ae_:aZ P II:=bt hm IH func10 ae8 ae9
def t79:ah:=t78.bz II
theorem IJ:aj P t79:=IH.aP ae_

def gj(X:List G→Option (List G)):aA:=⟨105,[.s (.int .i64),.s (.ptr 0 0),.s (.ptr 2 0)],[.box [.vec 1 15],.vec ak 0,.box [.pY 105 [0,2]]],[.slot 1,.cell 0 0,.slot 2],[.s (.bool)],[.box [.vec 1 15],.vec ak 0,.box [.pY 105 [0,2]]],[.fix 0,.fix 1,.fix 2],[],X⟩
def CC(g:List G→Option (List G))(d:List G):Option (Option Nat × List G) :=
 (bif (aB (gi d 2).int (((gi d 0).rows.length:Nat):Int)) then (bif ((a_ (gi d 2).int)&&(aB (gi d 2).int (((gi d 0).rows.length:Nat):Int))) then (bif (decide ((0+((gi d 2).int).toNat)<(gi d 0).rows.length)) then (bif ((gi ((gi d 0).rows.getD (0+((gi d 2).int).toNat) []) 3).int==5) then (bif ((a_ (gi d 2).int)&&(aB (gi d 2).int (((gi d 0).rows.length:Nat):Int))) then (bif (decide ((0+((gi d 2).int).toNat)<(gi d 0).rows.length)) then (bif ((a_ (gi d 1).int)&&(aB (gi d 1).int (((gi d 0).rows.length:Nat):Int))) then (bif (decide ((0+((gi d 1).int).toNat)<(gi d 0).rows.length)) then (bif ((gi ((gi d 0).rows.getD (0+((gi d 2).int).toNat) []) 13).str.toList==(gi ((gi d 0).rows.getD (0+((gi d 1).int).toNat) []) 0).str.toList) then (bif ((a_ (gi d 2).int)&&(aB (gi d 2).int (((gi d 0).rows.length:Nat):Int))) then (bif (decide ((0+((gi d 2).int).toNat)<(gi d 0).rows.length)) then (bif ((a_ (gi d 1).int)&&(aB (gi d 1).int (((gi d 0).rows.length:Nat):Int))) then (bif (decide ((0+((gi d 1).int).toNat)<(gi d 0).rows.length)) then (bif ((gi ((gi d 0).rows.getD (0+((gi d 2).int).toNat) []) 14).int==(gi ((gi d 0).rows.getD (0+((gi d 1).int).toNat) []) 1).int) then (fS (((((ab (gi d 0).rows.length (gi d 0).rows.length)&&true)&&true)&&true)&&(g [.l (gi d 0).rows,.i (gi d 2).int]).isSome) (g [.l (gi d 0).rows,.i (gi d 2).int]) fun g1=>(bif (gi g1 1).bool then (bif ((((ab (gi g1 0).rows.length (gi g1 0).rows.length)&&true)&&true)&&true) then some (some 0,[.l (gi g1 0).rows,.t false]) else none) else (bif (aw ((gi d 2).int+1)) then (bif ((((ab (gi g1 0).rows.length (gi g1 0).rows.length)&&true)&&true)&&true) then some (none,[.l (gi g1 0).rows,.i (gi d 1).int,.i ((gi d 2).int+1)]) else none) else none))) else (bif (aw ((gi d 2).int+1)) then (bif ((((ab (gi d 0).rows.length (gi d 0).rows.length)&&true)&&true)&&true) then some (none,[.l (gi d 0).rows,.i (gi d 1).int,.i ((gi d 2).int+1)]) else none) else none)) else none) else none) else none) else none) else (bif (aw ((gi d 2).int+1)) then (bif ((((ab (gi d 0).rows.length (gi d 0).rows.length)&&true)&&true)&&true) then some (none,[.l (gi d 0).rows,.i (gi d 1).int,.i ((gi d 2).int+1)]) else none) else none)) else none) else none) else none) else none) else (bif (aw ((gi d 2).int+1)) then (bif ((((ab (gi d 0).rows.length (gi d 0).rows.length)&&true)&&true)&&true) then some (none,[.l (gi d 0).rows,.i (gi d 1).int,.i ((gi d 2).int+1)]) else none) else none)) else none) else none) else (bif ((((ab (gi d 0).rows.length (gi d 0).rows.length)&&true)&&true)&&true) then some (some 1,[.l (gi d 0).rows]) else none))
def RL(d:List G→Option (List G)):bq:=⟨2,[],⟨51,[(0,.s (.int .i64)),(1,.s (.ptr 0 0)),(2,.s (.ptr 2 0)),(5,.s (.int .i64))],[.box [.vec 1 15],.vec ak 0,.box [.pY 105 [0,2]]]⟩,[.fix 0,.cell 0 0,.fix 2],[⟨.ret,⟨51,[(4,.s (.bool))],[.box [.vec 1 15],.vec ak 0,.box [.pY 105 [0,2]]]⟩,[.fix 0,.cell 0 0,.fix 2]⟩,⟨.exit 0,⟨51,[],[.box [.vec 1 15],.vec ak 0,.box [.pY 105 [0,2]]]⟩,[.fix 0,.cell 0 0,.fix 2]⟩],CC d⟩
theorem ae'(g:List G→Option (List G)):cW P (t79.cP (gj g)) az 3 (cX f105 2) (RL g):=fun d=>by kernel_rfl
def RM(d:List G→Option (List G)):LT:=az.add 3 (RL d)
theorem afa(g:List G→Option (List G)) (k:∀ d r,g d=some r→cz P 105 ((gj g).args0 d) (ai ((gj g).H0 d)) ((gj g).out r) (ai ((gj g).H1 r))):ax P 3 (RM g) (aN f105):=ax.add hm (IJ.aW k) (by kernel_rfl) (aK _ _ _) (ae' g)
def yp(k:List G→Option (List G))(d:List G):Option (List G) :=
 (bif (aw ((gi d 1).int+1)) then (a7 ((((ab (gi d 0).rows.length (gi d 0).rows.length)&&true)&&true)&&true) (cd (CC k) [.l (gi d 0).rows,.i (gi d 1).int,.i ((gi d 1).int+1)]) fun g g2=>(bif ab g 0 then (bif ((((ab (gi g2 0).rows.length (gi g2 0).rows.length)&&true)&&true)&&true) then some [.l (gi g2 0).rows,.t (gi g2 1).bool] else none) else (bif ((((ab (gi g2 0).rows.length (gi g2 0).rows.length)&&true)&&true)&&true) then some [.l (gi g2 0).rows,.t true] else none))) else none)
theorem afb(g:List G→Option (List G)):bf P (t79.cP (gj g)) (RM g) f105 (gj (yp g)):=fun d=>by kernel_rfl
theorem afc(g:List G→Option (List G)) (k:∀ d r,g d=some r→cz P 105 ((gj g).args0 d) (ai ((gj g).H0 d)) ((gj g).out r) (ai ((gj g).H1 r))):∀ d r,yp g d=some r→cz P 105 ((gj g).args0 d) (ai ((gj g).H0 d)) ((gj g).out r) (ai ((gj g).H1 r)):=fun d r h=>M_ hm (IJ.aW k) (sp:=gj (yp g)) func105 (by kernel_rfl) (afa g k) (afb g) (by kernel_rfl) h
def nG:Nat→List G→Option (List G)
 |0,_=>none
 |n+1,d=>yp (nG n) d
theorem RN:∀ n d r,nG n d=some r→cz P 105 ((gj (nG n)).args0 d) (ai ((gj (nG n)).H0 d)) ((gj (nG n)).out r) (ai ((gj (nG n)).H1 r))
 |0,_,_,h=>nomatch h
 |n+1,d,r,h=>afc (nG n) (RN n) d r h
def CD(d:List G):Option (List G):=nG 40 d
def yq:aA:=gj CD
theorem afd:∀ d r,CD d=some r→cz P 105 (yq.args0 d) (ai (yq.H0 d)) (yq.out r) (ai (yq.H1 r)):=RN 40
def t80:ah:=t79.cP yq
theorem CE:aj P t80:=IJ.aW afd

def CF(d:List G):Option (Option Nat × List G) :=
 let g:=((gi d 0).rows++([(aR ak ((gi d 2).rows.getD (((gi d 4).int).toNat) []))]:List (List G))); let z2:=ab (gi d 0).rows.length (gi d 0).rows.length; let z3:=(gi d 4).int+1; let z4:=((z2&&true)&&true)&&true; (bif (aB (gi d 4).int (gi d 3).int) then (bif ((a_ (gi d 4).int)&&(aB (gi d 4).int (((gi d 2).rows.length:Nat):Int))) then (bif (bM (gi ((gi d 2).rows.getD (((gi d 4).int).toNat) []) 2).int (gi d 1).int) then (bif (z2&&(decide (((gi d 0).rows.length+1)≤1048576))) then (bif (aw z3) then (bif ((((ab g.length g.length)&&true)&&true)&&true) then some (none,[.l g,.i (gi d 1).int,.l (gi d 2).rows,.i (gi d 3).int,.i z3]) else none) else none) else none) else (bif (aw z3) then (bif z4 then some (none,[.l (gi d 0).rows,.i (gi d 1).int,.l (gi d 2).rows,.i (gi d 3).int,.i z3]) else none) else none)) else none) else (bif z4 then some (some 0,[.l (gi d 0).rows]) else none))
def RO:bq:=⟨3,[],⟨41,[(1,.s (.int .i64)),(5,.s (.ptr 0 0)),(11,.s (.list ak)),(12,.s (.int .i64)),(13,.s (.int .i64))],[.box [.vec 1 15],.vec ak 0]⟩,[.slot 5,.cell 0 0],[⟨.exit 0,⟨41,[(5,.s (.ptr 0 0))],[.box [.vec 1 15],.vec ak 0]⟩,[.slot 5,.cell 0 0]⟩],CF⟩
theorem afe:cW P t80 (az.ja [(2,[.e_ 5 0 ak])]) 0 (cX f71 3) RO:=fun d=>by kernel_rfl
def IK:LT:=(az.ja [(2,[.e_ 5 0 ak])]).add 0 RO
theorem aff:ax P 0 IK (aN f71):=ax.a hm CE (rT _) afe
def CG(d:List G):Option (Option Nat × List G) :=
 let g:=((gi d 1).rows++([[.i (gi d 3).int]]:List (List G))); let z2:=ab (gi d 1).rows.length (gi d 1).rows.length; let z3:=CD [.l (gi d 0).rows,.i (gi d 3).int]; let z4:=(gi d 3).int+1; (bif (aB (gi d 3).int (gi d 2).int) then (fS (((((ab (gi d 0).rows.length (gi d 0).rows.length)&&true)&&true)&&true)&&z3.isSome) z3 fun g2=>let z5:=((ab (gi g2 0).rows.length (gi g2 0).rows.length)&&true)&&true; (bif (gi g2 1).bool then (bif (z2&&(decide (((gi d 1).rows.length+1)≤1048576))) then (bif (aw z4) then (bif (z5&&((ab g.length g.length)&&true)) then some (none,[.l (gi g2 0).rows,.l g,.i (gi d 2).int,.i z4]) else none) else none) else none) else (bif (aw z4) then (bif (z5&&(z2&&true)) then some (none,[.l (gi g2 0).rows,.l (gi d 1).rows,.i (gi d 2).int,.i z4]) else none) else none))) else (bif (z2&&true) then some (some 0,[.l (gi d 1).rows]) else none))
def RP:bq:=⟨12,[(9,[.int .i64])],⟨41,[(8,.s (.ptr 0 0)),(9,.s (.vec 3 1)),(28,.s (.int .i64)),(29,.s (.int .i64))],[.box [.pY 105 [1,0]],.box [.vec 2 15],.vec ak 0,.vec [.int .i64] 0]⟩,[.slot 8,.A_ 0 0 0,.cell 1 0,.slot 9],[⟨.exit 2,⟨41,[(9,.s (.vec 0 1))],[.vec [.int .i64] 0]⟩,[.slot 9]⟩],CG⟩
theorem afg:cW P t80 IK 0 (cX f71 12) RP:=fun d=>by kernel_rfl
def RQ:LT:=IK.add 0 RP
theorem afh:ax P 0 RQ (aN f71):=ax.a hm CE aff afg
def yr(d:List G):Option (List G) :=
 (a7 true (cd CF [.l [],.i (gi d 1).int,.l (gi d 0).rows,.i (((gi d 0).rows.length:Nat):Int),.i 0]) fun g g1=>(a7 ((((ab (gi g1 0).rows.length (gi g1 0).rows.length)&&true)&&true)&&true) (cd CG [.l (gi g1 0).rows,.l [],.i (((gi g1 0).rows.length:Nat):Int),.i 0]) fun k g3=>(bif ((ab (gi g3 0).rows.length (gi g3 0).rows.length)&&true) then some [.l (gi g3 0).rows] else none)))
def IL:aA:=⟨71,[.s (.list ak),.s (.int .i64)],[],[],[.s (.list [.int .i64])],[],[],[],yr⟩
theorem afi:bf P t80 RQ f71 IL:=fun d=>by kernel_rfl
theorem afj:aZ P IL:=bt hm CE func71 afh afi
def t81:ah:=t80.bz IL
theorem RR:aj P t81:=CE.aP afj

def yt(d:List G):Option (List G) :=
 let g:=(gi (gi d 0).row 0).int-(gi (gi d 1).row 0).int; let z2:=(gi (gi d 0).row 1).int-(gi (gi d 1).row 1).int; (bif ((gi (gi d 0).row 0).int != (gi (gi d 1).row 0).int) then (bif (aw g) then (ar (nC [.i g]) fun g1=>some [.i (gi g1 0).int]) else none) else (bif (!((gi (gi d 0).row 3).str.toList==(gi (gi d 1).row 3).str.toList)) then (ar (ir [.s (gi (gi d 0).row 3).str,.s (gi (gi d 1).row 3).str]) fun g2=>some [.i (gi g2 0).int]) else (bif (!((gi (gi d 0).row 2).str.toList==(gi (gi d 1).row 2).str.toList)) then (ar (ir [.s (gi (gi d 0).row 2).str,.s (gi (gi d 1).row 2).str]) fun g3=>some [.i (gi g3 0).int]) else (bif (aw z2) then (ar (nC [.i z2]) fun g4=>some [.i (gi g4 0).int]) else none))))
def IM:aA:=⟨73,[.s (.row aY),.s (.row aY)],[],[],[.s (.int .i64)],[],[],[],yt⟩
theorem afk:bf P t81 az f73 IM:=fun d=>by kernel_rfl
theorem afl:aZ P IM:=bt hm RR func73 (aK _ _ _) afk
def t82:ah:=t81.bz IM
theorem RS:aj P t82:=RR.aP afl

def yu(d:List G):Option (List G) :=
 (ar (yt [.l [[.i (gi (gi d 0).row 4).int,.i (gi (gi d 0).row 5).int,.s (gi (gi d 0).row 6).str,.s (gi (gi d 0).row 7).str,.i (gi (gi d 0).row 8).int,.i (gi (gi d 0).row 9).int,.s (gi (gi d 0).row 10).str,.s (gi (gi d 0).row 11).str]],.l [[.i (gi (gi d 1).row 4).int,.i (gi (gi d 1).row 5).int,.s (gi (gi d 1).row 6).str,.s (gi (gi d 1).row 7).str,.i (gi (gi d 1).row 8).int,.i (gi (gi d 1).row 9).int,.s (gi (gi d 1).row 10).str,.s (gi (gi d 1).row 11).str]]]) fun g1=>some [.t ((gi g1 0).int==0)])
def IN:aA:=⟨72,[.s (.row ak),.s (.cptr ak)],[],[],[.s (.bool)],[],[],[],yu⟩
theorem afm:bf P t82 az f72 IN:=fun d=>by kernel_rfl
theorem afn:aZ P IN:=bt hm RS func72 (aK _ _ _) afm
def t83:ah:=t82.bz IN
theorem IP:aj P t83:=RS.aP afn

def RT(d:List G):Option (Option Nat × List G) :=
 let g:=aR ak (gi d 1).row; (bif (aB (gi d 3).int (gi d 2).int) then (bif ((a_ (gi d 3).int)&&(aB (gi d 3).int (((gi d 0).rows.length:Nat):Int))) then (ar (yu [.l [(aR ak ((gi d 0).rows.getD (((gi d 3).int).toNat) []))],.l [g]]) fun g1=>(bif (gi g1 0).bool then some (some 0,[.i (gi d 3).int]) else (bif (aw ((gi d 3).int+1)) then some (none,[.l (gi d 0).rows,.l [g],.i (gi d 2).int,.i ((gi d 3).int+1)]) else none))) else none) else some (some 1,[]))
def RU:bq:=⟨2,[],⟨19,[(0,.s (.list ak)),(1,.clo 72 [.cptr ak]),(7,.s (.int .i64)),(8,.s (.int .i64))],[]⟩,[],[⟨.ret,⟨19,[(4,.s (.int .i64))],[]⟩,[]⟩,⟨.exit 0,⟨19,[],[]⟩,[]⟩],RT⟩
theorem afo:cW P t83 az 0 (cX f64 2) RU:=fun d=>by kernel_rfl
def RV:LT:=az.add 0 RU
theorem afp:ax P 0 RV (aN f64):=ax.a hm IP (aK _ _ _) afo
def IQ(d:List G):Option (List G) :=
 (a7 true (cd RT [.l (gi d 0).rows,.l [(aR ak (gi d 1).row)],.i (((gi d 0).rows.length:Nat):Int),.i 0]) fun g g2=>(bif ab g 0 then some [.i (gi g2 0).int] else some [.i (-1)]))
def IS:aA:=⟨64,[.s (.list ak),.clo 72 [.cptr ak]],[],[],[.s (.int .i64)],[],[],[],IQ⟩
theorem afq:bf P t83 RV f64 IS:=fun d=>by kernel_rfl
theorem afr:aZ P IS:=bt hm IP func64 afp afq
def t84:ah:=t83.bz IS
theorem RW:aj P t84:=IP.aP afr

def CH(d:List G):Option (List G) :=
 (ar (IQ [.l (gi d 0).rows,.l [(aR ak (gi d 1).row)]]) fun g1=>some [.t (bM 0 (gi g1 0).int)])
def IT:aA:=⟨31,[.s (.list ak),.clo 72 [.cptr ak]],[],[],[.s (.bool)],[],[],[],CH⟩
theorem afs:bf P t84 az f31 IT:=fun d=>by kernel_rfl
theorem aft:aZ P IT:=bt hm RW func31 (aK _ _ _) afs
def t85:ah:=t84.bz IT
theorem RX:aj P t85:=RW.aP aft

end
end Go.Proofs.gT
