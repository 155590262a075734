/-
 What is proved here: functions of the program as functions on data. No condition.
-/
import Derived.Test.YtopnkdaoanlaiaaGreatDoorML2
set_option linter.all false
open Nat renaming beq→ab
namespace Go.Proofs.gq
open Go Go.AL Go.Proofs Tryz
noncomputable section
def nM(d:List G):Option (Option Nat × List G) :=
 let g:=((gi d 2).rows++([[.s (gi d 5).str,.i (gi d 6).int,.i (gi d 7).int,.i (gi d 8).int,.i (gi d 9).int,.i (gi d 10).int,.s (gi d 11).str,.s (gi d 12).str,.i (gi d 13).int,.i (gi d 14).int,.s (gi d 15).str,.s (gi d 16).str,.s (gi d 17).str,.s (gi d 18).str,.i (gi d 19).int]]:List (List G))); (bif ((ab (gi d 2).rows.length (gi d 2).rows.length)&&(decide (((gi d 2).rows.length+1)≤1048576))) then (bif ((ab g.length g.length)&&true) then some (some 0,[.l (gi d 0).rows,.i (gi d 1).int,.l g,.l (gi d 3).rows,.i (((gi d 4).int.toNat:Nat):Int),.i (gi d 20).int,.i (gi d 21).int,.i (gi d 22).int]) else none) else none)
def P7:bx:=⟨28,[],⟨115,[(0,.s (.ptr 0 0)),(5,.s (.vec 1 15)),(6,.s (.int .i64)),(7,.s (.map 2)),(8,.s (.ptr 3 0)),(10,.s (.int .i64)),(11,.s (.int .i64))],[.box [.list [.int .i64],.int .i64],.vec aq 0,.map (.one (.str)) (.one (.int .i64)),.box [.str,.int .i64,.int .i64,.int .i64,.int .i64,.int .i64,.str,.str,.int .i64,.int .i64,.str,.str,.str,.str,.int .i64]]⟩,[.fix 0,.slot 5,.slot 7,.slot 8],[⟨.normal,⟨115,[(0,.s (.ptr 0 0)),(5,.s (.vec 1 15)),(6,.s (.int .i64)),(7,.s (.map 2)),(10,.s (.int .i64)),(11,.s (.int .i64))],[.box [.list [.int .i64],.int .i64],.vec aq 0,.map (.one (.str)) (.one (.int .i64))]⟩,[.fix 0,.slot 5,.slot 7]⟩],nM⟩
theorem acw:gl P t50 au 1 (cutAt f17 28) P7:=fun d=>by kernel_rfl
def Gs:LT:=au.fI 1 P7
theorem acx:ay P 1 Gs (aN f17):=ay.aC hm tR (aG _ _ _) acw
def pL(d:List G):Option (Option Nat × List G) :=
 let g:=(ab (gi d 2).rows.length (gi d 2).rows.length)&&true; let z2:=(((gi d 4).int.toNat:Nat):Int); let z3:=(⟨#[]⟩:ByteArray); let z4:=(⟨#[115,97]⟩:ByteArray); (ao (rq [.l (gi d 0).rows,.i (gi d 1).int,.i 100]) fun g6=>(bif (gi g6 2).bool then (ao (nL [.l (gi g6 0).rows,.i (gi g6 1).int,.i 4]) fun g7=>(bif ((gi g7 2).int==0) then (ao (gL [.l (gi g7 0).rows,.i (gi g7 1).int,.l [[.s z3],[.s z4]]]) fun g8=>(ao (lM [.l (gi g8 0).rows,.i (gi g8 1).int,.i 1,.i 9]) fun g9=>(aY g (cY (nM [.l (gi g9 0).rows,.i (gi g9 1).int,.l (gi d 2).rows,.l (gi d 3).rows,.i z2,.s (gi g8 2).str,.i (gi g9 2).int,.i (gi d 7).int,.i (gi d 8).int,.i (gi d 9).int,.i (gi d 10).int,.s (gi d 11).str,.s (gi d 12).str,.i (gi d 13).int,.i (gi d 14).int,.s (gi d 15).str,.s (gi d 16).str,.s (gi d 17).str,.s (gi d 18).str,.i (gi d 19).int,.i (gi d 20).int,.i (gi d 21).int,.i (gi d 22).int])) fun k g10=>(bif ((ab (gi g10 2).rows.length (gi g10 2).rows.length)&&true) then some (some 0,[.l (gi g10 0).rows,.i (gi g10 1).int,.l (gi g10 2).rows,.l (gi g10 3).rows,.i (((gi g10 4).int.toNat:Nat):Int),.i (gi g10 5).int,.i (gi g10 6).int,.i (gi g10 7).int]) else none)))) else (bif ((gi g7 2).int==1) then (ao (lM [.l (gi g7 0).rows,.i (gi g7 1).int,.i 1,.i 5]) fun g11=>(aY g (cY (nM [.l (gi g11 0).rows,.i (gi g11 1).int,.l (gi d 2).rows,.l (gi d 3).rows,.i z2,.s (gi d 5).str,.i (gi d 6).int,.i (gi d 7).int,.i (gi g11 2).int,.i (gi d 9).int,.i (gi d 10).int,.s (gi d 11).str,.s (gi d 12).str,.i (gi d 13).int,.i (gi d 14).int,.s (gi d 15).str,.s (gi d 16).str,.s (gi d 17).str,.s (gi d 18).str,.i (gi d 19).int,.i (gi d 20).int,.i (gi d 21).int,.i (gi d 22).int])) fun q g12=>(bif ((ab (gi g12 2).rows.length (gi g12 2).rows.length)&&true) then some (some 0,[.l (gi g12 0).rows,.i (gi g12 1).int,.l (gi g12 2).rows,.l (gi g12 3).rows,.i (((gi g12 4).int.toNat:Nat):Int),.i (gi g12 5).int,.i (gi g12 6).int,.i (gi g12 7).int]) else none))) else (bif ((gi g7 2).int==2) then (ao (gL [.l (gi g7 0).rows,.i (gi g7 1).int,.l [[.s z3],[.s (⟨#[98,50,48]⟩:ByteArray)]]]) fun g13=>(ao (gL [.l (gi g13 0).rows,.i (gi g13 1).int,.l [[.s z3],[.s z4]]]) fun g14=>(aY g (cY (nM [.l (gi g14 0).rows,.i (gi g14 1).int,.l (gi d 2).rows,.l (gi d 3).rows,.i z2,.s (gi d 5).str,.i (gi d 6).int,.i (gi d 7).int,.i (gi d 8).int,.i (gi d 9).int,.i (gi d 10).int,.s (gi d 11).str,.s (gi d 12).str,.i (gi d 13).int,.i (gi d 14).int,.s (gi d 15).str,.s (gi d 16).str,.s (gi g13 2).str,.s (gi g14 2).str,.i (gi d 19).int,.i (gi d 20).int,.i (gi d 21).int,.i (gi d 22).int])) fun A g15=>(bif ((ab (gi g15 2).rows.length (gi g15 2).rows.length)&&true) then some (some 0,[.l (gi g15 0).rows,.i (gi g15 1).int,.l (gi g15 2).rows,.l (gi g15 3).rows,.i (((gi g15 4).int.toNat:Nat):Int),.i (gi g15 5).int,.i (gi g15 6).int,.i (gi g15 7).int]) else none)))) else (ao (lM [.l (gi g7 0).rows,.i (gi g7 1).int,.i 1,.i 99999]) fun g16=>(ao (lM [.l (gi g16 0).rows,.i (gi g16 1).int,.i 0,.i 5]) fun g17=>(aY g (cY (nM [.l (gi g17 0).rows,.i (gi g17 1).int,.l (gi d 2).rows,.l (gi d 3).rows,.i z2,.s (gi d 5).str,.i (gi d 6).int,.i (gi d 7).int,.i (gi d 8).int,.i (gi d 9).int,.i (gi d 10).int,.s (gi d 11).str,.s (gi d 12).str,.i (gi g16 2).int,.i (gi d 14).int,.s (gi d 15).str,.s (gi d 16).str,.s (gi d 17).str,.s (gi d 18).str,.i (gi g17 2).int,.i (gi d 20).int,.i (gi d 21).int,.i (gi d 22).int])) fun B g18=>(bif ((ab (gi g18 2).rows.length (gi g18 2).rows.length)&&true) then some (some 0,[.l (gi g18 0).rows,.i (gi g18 1).int,.l (gi g18 2).rows,.l (gi g18 3).rows,.i (((gi g18 4).int.toNat:Nat):Int),.i (gi g18 5).int,.i (gi g18 6).int,.i (gi g18 7).int]) else none)))))))) else (aY g (cY (nM [.l (gi g6 0).rows,.i (gi g6 1).int,.l (gi d 2).rows,.l (gi d 3).rows,.i z2,.s (gi d 5).str,.i (gi d 6).int,.i (gi d 7).int,.i (gi d 8).int,.i (gi d 9).int,.i (gi d 10).int,.s (gi d 11).str,.s (gi d 12).str,.i (gi d 13).int,.i (gi d 14).int,.s (gi d 15).str,.s (gi d 16).str,.s (gi d 17).str,.s (gi d 18).str,.i (gi d 19).int,.i (gi d 20).int,.i (gi d 21).int,.i (gi d 22).int])) fun F g19=>(bif ((ab (gi g19 2).rows.length (gi g19 2).rows.length)&&true) then some (some 0,[.l (gi g19 0).rows,.i (gi g19 1).int,.l (gi g19 2).rows,.l (gi g19 3).rows,.i (((gi g19 4).int.toNat:Nat):Int),.i (gi g19 5).int,.i (gi g19 6).int,.i (gi g19 7).int]) else none))))
def P8:bx:=⟨19,[],⟨115,[(0,.s (.ptr 0 0)),(5,.s (.vec 1 15)),(6,.s (.int .i64)),(7,.s (.map 2)),(8,.s (.ptr 3 0)),(10,.s (.int .i64)),(11,.s (.int .i64))],[.box [.list [.int .i64],.int .i64],.vec aq 0,.map (.one (.str)) (.one (.int .i64)),.box [.str,.int .i64,.int .i64,.int .i64,.int .i64,.int .i64,.str,.str,.int .i64,.int .i64,.str,.str,.str,.str,.int .i64]]⟩,[.fix 0,.slot 5,.slot 7,.slot 8],[⟨.normal,⟨115,[(0,.s (.ptr 0 0)),(5,.s (.vec 1 15)),(6,.s (.int .i64)),(7,.s (.map 2)),(10,.s (.int .i64)),(11,.s (.int .i64))],[.box [.list [.int .i64],.int .i64],.vec aq 0,.map (.one (.str)) (.one (.int .i64))]⟩,[.fix 0,.slot 5,.slot 7]⟩],pL⟩
theorem acy:gl P t50 Gs 1 (cutAt f17 19) P8:=fun d=>by kernel_rfl
def Gt:LT:=Gs.fI 1 P8
theorem acz:ay P 1 Gt (aN f17):=ay.aC hm tR acx acy
def w_(d:List G):Option (Option Nat × List G) :=
 let z2:=(ab (gi d 2).rows.length (gi d 2).rows.length)&&true; let z3:=(((gi d 4).int.toNat:Nat):Int); let z4:=(⟨#[115,97]⟩:ByteArray); let k:=gi (ch [.str] (gi d 3).rows [.s z4] [.i 0]) 0; (bif (gi d 23).bool then (ao (pJ [.l (gi d 0).rows,.i (gi d 1).int,.i 1,.i 7]) fun g23=>(bif z2 then some (some 0,[.l (gi g23 0).rows,.i (gi g23 1).int,.l (gi d 2).rows,.l (gi d 3).rows,.i z3,.s (gi d 5).str,.i (gi d 6).int,.i (gi d 7).int,.i (gi d 8).int,.i (gi d 9).int,.i (gi d 10).int,.s (gi d 11).str,.s (gi d 12).str,.i (gi g23 2).int,.i (gi d 14).int,.s (gi d 15).str,.s (gi d 16).str,.s (gi d 17).str,.s (gi d 18).str,.i (gi d 19).int,.i (gi d 20).int,.i (gi d 21).int,.i (gi d 22).int]) else none)) else (ao (gL [.l (gi d 0).rows,.i (gi d 1).int,.l [[.s z4],[.s z4],[.s (⟨#[115,98]⟩:ByteArray)]]]) fun g24=>(ao (pJ [.l (gi g24 0).rows,.i (gi g24 1).int,.i 1,.i (if k.int>1 then k.int else 1)]) fun g=>(bif z2 then some (some 0,[.l (gi g 0).rows,.i (gi g 1).int,.l (gi d 2).rows,.l (gi d 3).rows,.i z3,.s (gi d 5).str,.i (gi d 6).int,.i (gi d 7).int,.i (gi d 8).int,.i (gi d 9).int,.i (gi d 10).int,.s (gi d 11).str,.s (gi d 12).str,.i (gi d 13).int,.i (gi d 14).int,.s (gi d 15).str,.s (gi d 16).str,.s (gi d 17).str,.s (gi g24 2).str,.i (gi g 2).int,.i (gi d 20).int,.i (gi d 21).int,.i (gi d 22).int]) else none))))
def P9:bx:=⟨18,[],⟨115,[(0,.s (.ptr 0 0)),(5,.s (.vec 1 15)),(6,.s (.int .i64)),(7,.s (.map 2)),(8,.s (.ptr 3 0)),(10,.s (.int .i64)),(11,.s (.int .i64)),(65,.s (.bool))],[.box [.list [.int .i64],.int .i64],.vec aq 0,.map (.one (.str)) (.one (.int .i64)),.box [.str,.int .i64,.int .i64,.int .i64,.int .i64,.int .i64,.str,.str,.int .i64,.int .i64,.str,.str,.str,.str,.int .i64]]⟩,[.fix 0,.slot 5,.slot 7,.slot 8],[⟨.normal,⟨115,[(0,.s (.ptr 0 0)),(5,.s (.vec 1 15)),(6,.s (.int .i64)),(7,.s (.map 2)),(8,.s (.ptr 3 0)),(10,.s (.int .i64)),(11,.s (.int .i64))],[.box [.list [.int .i64],.int .i64],.vec aq 0,.map (.one (.str)) (.one (.int .i64)),.box [.str,.int .i64,.int .i64,.int .i64,.int .i64,.int .i64,.str,.str,.int .i64,.int .i64,.str,.str,.str,.str,.int .i64]]⟩,[.fix 0,.slot 5,.slot 7,.slot 8]⟩],w_⟩
theorem acA:gl P t50 Gt 1 (cutAt f17 18) P9:=fun d=>by kernel_rfl
def Gu:LT:=Gt.fI 1 P9
theorem acB:ay P 1 Gu (aN f17):=ay.aC hm tR acz acA
def tS(d:List G):Option (Option Nat × List G) :=
 let q:=(⟨#[]⟩:ByteArray); let z2:=(ab (gi d 2).rows.length (gi d 2).rows.length)&&true; let z3:=(⟨#[115,97]⟩:ByteArray); (bif (aB (gi d 7).int (gi d 6).int) then (ao (mL [.l (gi d 0).rows,.i (gi d 1).int,.l [[.i 0],[.i 1],[.i 5]]]) fun g1=>let z4:=(gi d 5).int+(gi g1 2).int; (bif (az z4) then (ao (gL [.l (gi g1 0).rows,.i (gi g1 1).int,.l [[.s z3],[.s z3],[.s (⟨#[115,98]⟩:ByteArray)],[.s (⟨#[115,99]⟩:ByteArray)]]]) fun g2=>let z5:=cu [.str] (gi d 3).rows [.s (gi g2 2).str] [.i ((gi (ch [.str] (gi d 3).rows [.s (gi g2 2).str] [.i 0]) 0).int+1)] (gi d 4).int.toNat; let F:=(((dF [.str] (gi d 3).rows [.s (gi g2 2).str] (gi d 4).int.toNat):Nat):Int); let I:=gi (ch [.str] z5 [.s (gi g2 2).str] [.i 0]) 0; (ao (mL [.l (gi g2 0).rows,.i (gi g2 1).int,.l [[.i 1],[.i 1],[.i 1],[.i 1],[.i 2],[.i 3],[.i 3],[.i 4],[.i 5]]]) fun g3=>(bif (az ((gi (ch [.str] (gi d 3).rows [.s (gi g2 2).str] [.i 0]) 0).int+1)) then (bif ((gi g3 2).int==1) then (bif (az (z4-3)) then (ao (pJ [.l (gi g3 0).rows,.i (gi g3 1).int,.i (if (z4-3)>0 then (z4-3) else 0),.i z4]) fun g4=>(ao (Bd [.l (gi g4 0).rows,.i (gi g4 1).int,.i (gi g4 2).int]) fun g5=>(aY z2 (cY (pL [.l (gi g5 0).rows,.i (gi g5 1).int,.l (gi d 2).rows,.l z5,.i F,.s (gi g2 2).str,.i I.int,.i z4,.i (gi g3 2).int,.i (gi (gi g5 2).row 0).int,.i (gi (gi g5 2).row 1).int,.s (gi (gi g5 2).row 2).str,.s (gi (gi g5 2).row 3).str,.i (gi (gi g5 2).row 4).int,.i (gi (gi g5 2).row 5).int,.s (gi (gi g5 2).row 6).str,.s (gi (gi g5 2).row 7).str,.s q,.s q,.i 0,.i z4,.i (gi d 6).int,.i (gi d 7).int])) fun J g20=>(bif (az ((gi g20 7).int+1)) then (bif ((ab (gi g20 2).rows.length (gi g20 2).rows.length)&&true) then some (none,[.l (gi g20 0).rows,.i (gi g20 1).int,.l (gi g20 2).rows,.l (gi g20 3).rows,.i (((gi g20 4).int.toNat:Nat):Int),.i (gi g20 5).int,.i (gi g20 6).int,.i ((gi g20 7).int+1)]) else none) else none)))) else none) else (bif ((gi g3 2).int==2) then (ao (gL [.l (gi g3 0).rows,.i (gi g3 1).int,.l [[.s (⟨#[98,50,48]⟩:ByteArray)],[.s (⟨#[98,52,48]⟩:ByteArray)]]]) fun g21=>(aY z2 (cY (pL [.l (gi g21 0).rows,.i (gi g21 1).int,.l (gi d 2).rows,.l z5,.i F,.s (gi g2 2).str,.i I.int,.i z4,.i (gi g3 2).int,.i 0,.i 0,.s q,.s q,.i 0,.i 0,.s q,.s q,.s (gi g21 2).str,.s q,.i 0,.i z4,.i (gi d 6).int,.i (gi d 7).int])) fun M g22=>(bif (az ((gi g22 7).int+1)) then (bif ((ab (gi g22 2).rows.length (gi g22 2).rows.length)&&true) then some (none,[.l (gi g22 0).rows,.i (gi g22 1).int,.l (gi g22 2).rows,.l (gi g22 3).rows,.i (((gi g22 4).int.toNat:Nat):Int),.i (gi g22 5).int,.i (gi g22 6).int,.i ((gi g22 7).int+1)]) else none) else none))) else (bif ((gi g3 2).int==3) then (aY z2 (cY (w_ [.l (gi g3 0).rows,.i (gi g3 1).int,.l (gi d 2).rows,.l z5,.i F,.s (gi g2 2).str,.i I.int,.i z4,.i (gi g3 2).int,.i 0,.i 0,.s q,.s q,.i 0,.i 0,.s q,.s q,.s q,.s q,.i 0,.i z4,.i (gi d 6).int,.i (gi d 7).int,.t ((gi g3 2).int==3)])) fun N g=>(aY ((ab (gi g 2).rows.length (gi g 2).rows.length)&&true) (cY (pL [.l (gi g 0).rows,.i (gi g 1).int,.l (gi g 2).rows,.l (gi g 3).rows,.i (((gi g 4).int.toNat:Nat):Int),.s (gi g 5).str,.i (gi g 6).int,.i (gi g 7).int,.i (gi g 8).int,.i (gi g 9).int,.i (gi g 10).int,.s (gi g 11).str,.s (gi g 12).str,.i (gi g 13).int,.i (gi g 14).int,.s (gi g 15).str,.s (gi g 16).str,.s (gi g 17).str,.s (gi g 18).str,.i (gi g 19).int,.i (gi g 20).int,.i (gi g 21).int,.i (gi g 22).int])) fun O A=>(bif (az ((gi A 7).int+1)) then (bif ((ab (gi A 2).rows.length (gi A 2).rows.length)&&true) then some (none,[.l (gi A 0).rows,.i (gi A 1).int,.l (gi A 2).rows,.l (gi A 3).rows,.i (((gi A 4).int.toNat:Nat):Int),.i (gi A 5).int,.i (gi A 6).int,.i ((gi A 7).int+1)]) else none) else none))) else (aY z2 (cY (w_ [.l (gi g3 0).rows,.i (gi g3 1).int,.l (gi d 2).rows,.l z5,.i F,.s (gi g2 2).str,.i I.int,.i z4,.i (gi g3 2).int,.i 0,.i 0,.s q,.s q,.i 0,.i 0,.s q,.s q,.s q,.s q,.i 0,.i z4,.i (gi d 6).int,.i (gi d 7).int,.t ((gi g3 2).int==4)])) fun R k=>(aY ((ab (gi k 2).rows.length (gi k 2).rows.length)&&true) (cY (pL [.l (gi k 0).rows,.i (gi k 1).int,.l (gi k 2).rows,.l (gi k 3).rows,.i (((gi k 4).int.toNat:Nat):Int),.s (gi k 5).str,.i (gi k 6).int,.i (gi k 7).int,.i (gi k 8).int,.i (gi k 9).int,.i (gi k 10).int,.s (gi k 11).str,.s (gi k 12).str,.i (gi k 13).int,.i (gi k 14).int,.s (gi k 15).str,.s (gi k 16).str,.s (gi k 17).str,.s (gi k 18).str,.i (gi k 19).int,.i (gi k 20).int,.i (gi k 21).int,.i (gi k 22).int])) fun U B=>(bif (az ((gi B 7).int+1)) then (bif ((ab (gi B 2).rows.length (gi B 2).rows.length)&&true) then some (none,[.l (gi B 0).rows,.i (gi B 1).int,.l (gi B 2).rows,.l (gi B 3).rows,.i (((gi B 4).int.toNat:Nat):Int),.i (gi B 5).int,.i (gi B 6).int,.i ((gi B 7).int+1)]) else none) else none)))))) else none))) else none)) else (bif z2 then some (some 0,[.l (gi d 0).rows,.i (gi d 1).int,.l (gi d 2).rows]) else none))
def P_:bx:=⟨5,[(5,aq)],⟨115,[(0,.s (.ptr 0 0)),(5,.s (.vec 1 15)),(6,.s (.int .i64)),(7,.s (.map 2)),(10,.s (.int .i64)),(11,.s (.int .i64))],[.box [.list [.int .i64],.int .i64],.vec aq 0,.map (.one (.str)) (.one (.int .i64))]⟩,[.fix 0,.slot 5,.slot 7],[⟨.exit 0,⟨115,[(5,.s (.vec 1 15))],[.box [.list [.int .i64],.int .i64],.vec aq 0]⟩,[.fix 0,.slot 5]⟩],tS⟩
theorem acC:cX P t50 Gu 1 (c9 f17 5) P_:=fun d=>by kernel_rfl
def P':LT:=Gu.add 1 P_
theorem acD:ay P 1 P' (aN f17):=ay.a hm tR acB acC
def Bf(d:List G):Option (List G) :=
 (aY true (cG tS [.l (gi d 0).rows,.i (gi d 1).int,.l [],.l [],.i 0,.i 0,.i (gi d 2).int,.i 0]) fun A g=>let q:=Gq [.l (gi g 2).rows]; (gI (((ab (gi g 2).rows.length (gi g 2).rows.length)&&true)&&q.isSome) q fun k=>(bif ((ab (gi g 2).rows.length (gi k 0).rows.length)&&true) then some [.l (gi g 0).rows,.i (gi g 1).int,.l (gi k 0).rows] else none)))
def Gv:ax:=⟨17,[.s (.ptr 0 0),.s (.int .i64)],[.box [.list [.int .i64],.int .i64]],[.slot 0],[.s (.list aq)],[.box [.list [.int .i64],.int .i64]],[.fix 0],[],Bf⟩
theorem acE:aX P t50 P' f17 Gv:=fun d=>by kernel_rfl
theorem acF:aU P Gv:=ba hm tR func17 acD acE
def t51:ah:=t50.cJ Gv
theorem Qa:ai P t51:=tR.aW acF

def kJ(d:List G):Option (List G) :=
 (bif (bM (gi d 1).int (gi d 0).int) then some [.t (bM (gi d 0).int (gi d 2).int)] else some [.t false])
def Gw:ax:=⟨74,[.s (.int .i64),.s (.int .i64),.s (.int .i64)],[],[],[.s (.bool)],[],[],[],kJ⟩
theorem acG:aX P t51 au f74 Gw:=fun d=>by kernel_rfl
theorem acH:aU P Gw:=ba hm Qa func74 (aG _ _ _) acG
def t52:ah:=t51.bp Gw
theorem Gx:ai P t52:=Qa.aP acH

def Qb(d:List G):Option (Option Nat × List G) :=
 (bif (aB (gi d 3).int (gi d 2).int) then (bif ((bD (gi d 3).int)&&(aB (gi d 3).int (((gi d 0).str.size:Nat):Int))) then (ao (A3 [.s (gi d 1).str,.i (((gi d 0).str.data.toList.getD (((gi d 3).int).toNat) 0).toNat:Int)]) fun g1=>(bif (aB (gi g1 0).int 0) then some (some 0,[.t false]) else (bif (az ((gi d 3).int+1)) then some (none,[.s (gi d 0).str,.s (gi d 1).str,.i (gi d 2).int,.i ((gi d 3).int+1)]) else none))) else none) else some (some 1,[]))
def Qc:bx:=⟨2,[],⟨18,[(0,.s (.str)),(1,.s (.str)),(7,.s (.int .i64)),(8,.s (.int .i64))],[]⟩,[],[⟨.ret,⟨18,[(4,.s (.bool))],[]⟩,[]⟩,⟨.exit 0,⟨18,[],[]⟩,[]⟩],Qb⟩
theorem acI:cX P t52 au 0 (c9 f115 2) Qc:=fun d=>by kernel_rfl
def Qd:LT:=au.add 0 Qc
theorem acJ:ay P 0 Qd (aN f115):=ay.a hm Gx (aG _ _ _) acI
def Gy(d:List G):Option (List G) :=
 (aY true (cG Qb [.s (gi d 0).str,.s (gi d 1).str,.i (((gi d 0).str.size:Nat):Int),.i 0]) fun g g2=>(bif ab g 0 then some [.t (gi g2 0).bool] else some [.t true]))
def Gz:ax:=⟨115,[.s (.str),.s (.str)],[],[],[.s (.bool)],[],[],[],Gy⟩
theorem acK:aX P t52 Qd f115 Gz:=fun d=>by kernel_rfl
theorem acL:aU P Gz:=ba hm Gx func115 acJ acK
def t53:ah:=t52.bp Gz
theorem Qe:ai P t53:=Gx.aP acL

def nN(d:List G):Option (List G) :=
 let g:=(((gi d 0).str.size:Nat):Int); (ao (kJ [.i g,.i 1,.i 40]) fun g1=>(bif (gi g1 0).bool then (bif (bM 1 g) then (ao (Gy [.s ((gi d 0).str.extract 0 1),.s (⟨#[97,98,99,100,101,102,103,104,105,106,107,108,109,110,111,112,113,114,115,116,117,118,119,120,121,122]⟩:ByteArray)]) fun g2=>(bif (gi g2 0).bool then (ao (Gy [.s (gi d 0).str,.s (⟨#[97,98,99,100,101,102,103,104,105,106,107,108,109,110,111,112,113,114,115,116,117,118,119,120,121,122,48,49,50,51,52,53,54,55,56,57,45,95]⟩:ByteArray)]) fun g3=>some [.t (gi g3 0).bool]) else some [.t false])) else none) else some [.t false]))
def GA:ax:=⟨73,[.s (.str)],[],[],[.s (.bool)],[],[],[],nN⟩
theorem acM:aX P t53 au f73 GA:=fun d=>by kernel_rfl
theorem acN:aU P GA:=ba hm Qe func73 (aG _ _ _) acM
def t54:ah:=t53.bp GA
theorem Qf:ai P t54:=Qe.aP acN

def xa(d:List G):Option (List G) :=
 (ao (kJ [.i (gi d 0).int,.i 0,.i 345686399999]) fun g1=>some [.t (gi g1 0).bool])
def GB:ax:=⟨75,[.s (.int .i64)],[],[],[.s (.bool)],[],[],[],xa⟩
theorem acO:aX P t54 au f75 GB:=fun d=>by kernel_rfl
theorem acP:aU P GB:=ba hm Qf func75 (aG _ _ _) acO
def t55:ah:=t54.bp GB
theorem Qg:ai P t55:=Qf.aP acP

def GC(d:List G):Option (List G) :=
 (ao (Fq [.s (gi d 0).str]) fun g1=>some [.t (gi g1 1).bool])
def GD:ax:=⟨116,[.s (.str)],[],[],[.s (.bool)],[],[],[],GC⟩
theorem acQ:aX P t55 au f116 GD:=fun d=>by kernel_rfl
theorem acR:aU P GD:=ba hm Qg func116 (aG _ _ _) acQ
def t56:ah:=t55.bp GD
theorem Qh:ai P t56:=Qg.aP acR

def xb(d:List G):Option (List G) :=
 let g:=(!((gi (gi d 0).row 7).str.toList==(⟨#[]⟩:ByteArray).toList)); let z2:=nN [.s (gi (gi d 0).row 7).str]; (ao (xa [.i (gi (gi d 0).row 0).int]) fun g1=>(bif (!(gi g1 0).bool) then some [.i 1] else (ao (kJ [.i (gi (gi d 0).row 1).int,.i 1,.i 3]) fun g2=>(bif (!(gi g2 0).bool) then some [.i 4] else (ao (nN [.s (gi (gi d 0).row 2).str]) fun g3=>(bif (!(gi g3 0).bool) then some [.i 5] else (ao (GC [.s (gi (gi d 0).row 3).str]) fun g4=>(bif (!(gi g4 0).bool) then some [.i 3] else (ao (kJ [.i (gi (gi d 0).row 4).int,.i 0,.i 99999]) fun g5=>(bif (!(gi g5 0).bool) then some [.i 1] else (ao (kJ [.i (gi (gi d 0).row 5).int,.i 0,.i 99999]) fun g6=>(bif (!(gi g6 0).bool) then some [.i 1] else (bif (!((gi (gi d 0).row 6).str.toList==(⟨#[]⟩:ByteArray).toList)) then (ao (nN [.s (gi (gi d 0).row 6).str]) fun g7=>(bif (!(gi g7 0).bool) then some [.i 5] else (bif g then (ao z2 fun g8=>(bif (!(gi g8 0).bool) then some [.i 5] else some [.i 0])) else some [.i 0]))) else (bif g then (ao z2 fun g9=>(bif (!(gi g9 0).bool) then some [.i 5] else some [.i 0])) else some [.i 0]))))))))))))))
def GF:ax:=⟨76,[.s (.row aQ)],[],[],[.s (.int .i64)],[],[],[],xb⟩
theorem acS:aX P t56 au f76 GF:=fun d=>by kernel_rfl
theorem acT:aU P GF:=ba hm Qh func76 (aG _ _ _) acS
def t57:ah:=t56.bp GF
theorem Qi:ai P t57:=Qh.aP acT

def Bg(d:List G):Option (List G) :=
 let g:=(⟨#[]⟩:ByteArray); let z2:=gi (gi d 0).row 3; let z3:=gi (gi d 0).row 2; let z4:=bh aq (gi d 0).row; let z5:=gi (gi d 0).row 0; let k:=gi (gi d 0).row 1; let q:=gi (gi d 0).row 8; let A:=gi (gi d 0).row 4; (ao (nN [.s z5.str]) fun g1=>(bif (!(gi g1 0).bool) then some [.i 5] else (ao (kJ [.i k.int,.i 1,.i 1000000]) fun g2=>(bif (!(gi g2 0).bool) then some [.i 1] else (ao (xa [.i z3.int]) fun g3=>(bif (!(gi g3 0).bool) then some [.i 1] else (ao (kJ [.i z2.int,.i 1,.i 5]) fun g4=>(bif (!(gi g4 0).bool) then some [.i 4] else (bif (z2.int==1) then (ao (xb [.l [[.i A.int,.i (gi (gi d 0).row 5).int,.s (gi (gi d 0).row 6).str,.s (gi (gi d 0).row 7).str,.i q.int,.i (gi (gi d 0).row 9).int,.s (gi (gi d 0).row 10).str,.s (gi (gi d 0).row 11).str]]]) fun g5=>(bif ((gi g5 0).int != 0) then some [.i (gi g5 0).int] else (bif (aB z3.int A.int) then some [.i 1] else (bif (!(aF aq z4 [.s z5.str,.i k.int,.i z3.int,.i z2.int,.i A.int,.i (gi (gi d 0).row 5).int,.s (gi (gi d 0).row 6).str,.s (gi (gi d 0).row 7).str,.i q.int,.i (gi (gi d 0).row 9).int,.s (gi (gi d 0).row 10).str,.s (gi (gi d 0).row 11).str,.s g,.s g,.i 0])) then some [.i 3] else some [.i 0])))) else (bif (z2.int==2) then (ao (nN [.s (gi (gi d 0).row 12).str]) fun g6=>(bif (!(gi g6 0).bool) then some [.i 5] else (bif (!(aF aq z4 [.s z5.str,.i k.int,.i z3.int,.i z2.int,.i 0,.i 0,.s g,.s g,.i 0,.i 0,.s g,.s g,.s (gi (gi d 0).row 12).str,.s g,.i 0])) then some [.i 3] else some [.i 0]))) else (bif (z2.int==5) then (ao (nN [.s (gi (gi d 0).row 13).str]) fun g7=>(bif (!(gi g7 0).bool) then some [.i 5] else (ao (kJ [.i (gi (gi d 0).row 14).int,.i 1,.i 1000000]) fun g8=>(bif (!(gi g8 0).bool) then some [.i 1] else (bif (!(aF aq z4 [.s z5.str,.i k.int,.i z3.int,.i z2.int,.i 0,.i 0,.s g,.s g,.i 0,.i 0,.s g,.s g,.s g,.s (gi (gi d 0).row 13).str,.i (gi (gi d 0).row 14).int])) then some [.i 3] else some [.i 0]))))) else (ao (kJ [.i q.int,.i 1,.i 99999]) fun g9=>(bif (!(gi g9 0).bool) then some [.i 1] else (bif (!(aF aq z4 [.s z5.str,.i k.int,.i z3.int,.i z2.int,.i 0,.i 0,.s g,.s g,.i q.int,.i 0,.s g,.s g,.s g,.s g,.i 0])) then some [.i 3] else some [.i 0]))))))))))))))
def GG:ax:=⟨36,[.s (.row aq)],[],[],[.s (.int .i64)],[],[],[],Bg⟩
theorem acU:aX P t57 au f36 GG:=fun d=>by kernel_rfl
theorem acV:aU P GG:=ba hm Qi func36 (aG _ _ _) acU
def t58:ah:=t57.bp GG
theorem Qj:ai P t58:=Qi.aP acV

def Bh(d:List G):Option (List G) :=
 (bif ((gi (gi d 0).row 0).str.toList==(gi (gi d 1).row 0).str.toList) then some [.t ((gi (gi d 0).row 1).int==(gi (gi d 1).row 1).int)] else some [.t false])
def GH:ax:=⟨39,[.s (.row aq),.s (.row aq)],[],[],[.s (.bool)],[],[],[],Bh⟩
theorem acW:aX P t58 au f39 GH:=fun d=>by kernel_rfl
theorem acX:aU P GH:=ba hm Qj func39 (aG _ _ _) acW
def t59:ah:=t58.bp GH
theorem Qk:ai P t59:=Qj.aP acX

def Bi(d:List G):Option (List G) :=
 (ao (Bh [.l [(bh aq (gi d 0).row)],.l [(bh aq (gi d 1).row)]]) fun g1=>some [.t (gi g1 0).bool])
def GI:ax:=⟨38,[.s (.row aq),.s (.cptr aq)],[],[],[.s (.bool)],[],[],[],Bi⟩
theorem acY:aX P t59 au f38 GI:=fun d=>by kernel_rfl
theorem acZ:aU P GI:=ba hm Qk func38 (aG _ _ _) acY
def t60:ah:=t59.bp GI
theorem GJ:ai P t60:=Qk.aP acZ

def Bj(d:List G):Option (Option Nat × List G) :=
 let g:=bh aq (gi d 1).row; (bif (aB (gi d 3).int (gi d 2).int) then (bif ((bD (gi d 3).int)&&(aB (gi d 3).int (((gi d 0).rows.length:Nat):Int))) then (ao (Bi [.l [(bh aq ((gi d 0).rows.getD (((gi d 3).int).toNat) []))],.l [g]]) fun g1=>(bif (gi g1 0).bool then some (some 0,[.i (gi d 3).int]) else (bif (az ((gi d 3).int+1)) then some (none,[.l (gi d 0).rows,.l [g],.i (gi d 2).int,.i ((gi d 3).int+1)]) else none))) else none) else some (some 1,[]))
def Ql:bx:=⟨2,[],⟨19,[(0,.s (.list aq)),(1,.clo 38 [.cptr aq]),(7,.s (.int .i64)),(8,.s (.int .i64))],[]⟩,[],[⟨.ret,⟨19,[(4,.s (.int .i64))],[]⟩,[]⟩,⟨.exit 0,⟨19,[],[]⟩,[]⟩],Bj⟩
theorem ac0:cX P t60 au 0 (c9 f77 2) Ql:=fun d=>by kernel_rfl
def Qm:LT:=au.add 0 Ql
theorem ac1:ay P 0 Qm (aN f77):=ay.a hm GJ (aG _ _ _) ac0
def Bk(d:List G):Option (List G) :=
 (aY true (cG Bj [.l (gi d 0).rows,.l [(bh aq (gi d 1).row)],.i (((gi d 0).rows.length:Nat):Int),.i 0]) fun g g2=>(bif ab g 0 then some [.i (gi g2 0).int] else some [.i (-1)]))
def GK:ax:=⟨77,[.s (.list aq),.clo 38 [.cptr aq]],[],[],[.s (.int .i64)],[],[],[],Bk⟩
theorem ac2:aX P t60 Qm f77 GK:=fun d=>by kernel_rfl
theorem ac3:aU P GK:=ba hm GJ func77 ac1 ac2
def t61:ah:=t60.bp GK
theorem Qn:ai P t61:=GJ.aP ac3

def Bl(d:List G):Option (List G) :=
 (ao (Bk [.l (gi d 0).rows,.l [(bh aq (gi d 1).row)]]) fun g1=>some [.t (bM 0 (gi g1 0).int)])
def GL:ax:=⟨37,[.s (.list aq),.clo 38 [.cptr aq]],[],[],[.s (.bool)],[],[],[],Bl⟩
theorem ac4:aX P t61 au f37 GL:=fun d=>by kernel_rfl
theorem ac5:aU P GL:=ba hm Qn func37 (aG _ _ _) ac4
def t62:ah:=t61.bp GL
theorem Bm:ai P t62:=Qn.aP ac5

def xc(d:List G):Option (Option Nat × List G) :=
 let g:=bh aq ((gi d 1).rows.getD (((gi d 3).int).toNat) []); let z2:=(gi d 3).int-1; let z3:=(gi d 3).int+1; (bif (aB (gi d 3).int (gi d 2).int) then (bif ((bD (gi d 3).int)&&(aB (gi d 3).int (((gi d 1).rows.length:Nat):Int))) then (ao (Bg [.l [g]]) fun g1=>(bif ((gi g1 0).int != 0) then some (some 0,[.i (gi g1 0).int]) else (bif (aB 0 (gi d 3).int) then (bif (az z2) then (bif ((bD z2)&&(aB z2 (((gi d 0).rows.length:Nat):Int))) then (ao (pK [.l [(bh aq ((gi d 0).rows.getD (z2.toNat) []))],.l [g]]) fun g2=>(bif (bM 0 (gi g2 0).int) then some (some 0,[.i 7]) else (bif (az z3) then some (none,[.l (gi d 0).rows,.l (gi d 1).rows,.i (gi d 2).int,.i z3]) else none))) else none) else none) else (bif (az z3) then some (none,[.l (gi d 0).rows,.l (gi d 1).rows,.i (gi d 2).int,.i z3]) else none)))) else none) else some (some 1,[.l (gi d 0).rows]))
def Qo:bx:=⟨4,[],⟨49,[(0,.s (.list aq)),(11,.s (.list aq)),(12,.s (.int .i64)),(13,.s (.int .i64))],[]⟩,[],[⟨.ret,⟨49,[(2,.s (.int .i64))],[]⟩,[]⟩,⟨.exit 0,⟨49,[(0,.s (.list aq))],[]⟩,[]⟩],xc⟩
theorem ac6:cX P (t62.jn [37]) au 0 (c9 f18 4) Qo:=fun d=>by kernel_rfl
def GM:LT:=au.add 0 Qo
theorem ac7:ay P 0 GM (aN f18):=ay.add hm (Bm.jn [37]) (by kernel_rfl) (aG _ _ _) ac6
def xd(d:List G):Option (Option Nat × List G) :=
 (bif (aB (gi d 3).int (gi d 2).int) then (bif ((bD (gi d 3).int)&&(aB (gi d 3).int (((gi d 1).rows.length:Nat):Int))) then (bif ((bD (gi d 3).int)&&(bM (gi d 3).int (((gi d 0).rows.length:Nat):Int))) then (ao (Bl [.l ((gi d 0).rows.take (((gi d 3).int).toNat)),.l [(bh aq ((gi d 1).rows.getD (((gi d 3).int).toNat) []))]]) fun g4=>(bif (gi g4 0).bool then some (some 0,[.i 6]) else (bif (az ((gi d 3).int+1)) then some (none,[.l (gi d 0).rows,.l (gi d 1).rows,.i (gi d 2).int,.i ((gi d 3).int+1)]) else none))) else none) else none) else some (some 1,[]))
def Qp:bx:=⟨13,[],⟨49,[(0,.s (.list aq)),(36,.s (.list aq)),(37,.s (.int .i64)),(38,.s (.int .i64))],[]⟩,[],[⟨.ret,⟨49,[(2,.s (.int .i64))],[]⟩,[]⟩,⟨.exit 2,⟨49,[],[]⟩,[]⟩],xd⟩
theorem ac8:cX P (t62.jn [37]) GM 0 (c9 f18 13) Qp:=fun d=>by kernel_rfl
def Qq:LT:=GM.add 0 Qp
theorem ac9:ay P 0 Qq (aN f18):=ay.add hm (Bm.jn [37]) (by kernel_rfl) ac7 ac8
def tT(d:List G):Option (List G) :=
 let g:=(((gi d 0).rows.length:Nat):Int); (bif (aB 2000 g) then some [.i 2] else (aY true (cG xc [.l (gi d 0).rows,.l (gi d 0).rows,.i g,.i 0]) fun k g3=>(bif ab k 0 then some [.i (gi g3 0).int] else (aY true (cG xd [.l (gi g3 0).rows,.l (gi g3 0).rows,.i (((gi g3 0).rows.length:Nat):Int),.i 0]) fun q g5=>(bif ab q 0 then some [.i (gi g5 0).int] else some [.i 0])))))
def GN:ax:=⟨18,[.s (.list aq)],[],[],[.s (.int .i64)],[],[],[],tT⟩
theorem ac_:aX P (t62.jn [37]) Qq f18 GN:=fun d=>by kernel_rfl
theorem ac':aU P GN:=EG hm (Bm.jn [37]) func18 (by kernel_rfl) ac9 ac_ (by kernel_rfl)
def t63:ah:=t62.bp GN
theorem GO:ai P t63:=Bm.aP ac'

def Bn(d:List G):Option (Option Nat × List G) :=
 (bif (aB (gi d 3).int 5) then (ao (Bf [.l (gi d 0).rows,.i (gi d 1).int,.i (gi d 2).int]) fun g1=>(ao (tT [.l (gi g1 2).rows]) fun g2=>(bif ((gi g2 0).int==0) then some (some 0,[.l (gi g1 0).rows,.i (gi g1 1).int,.l (gi g1 2).rows]) else (bif (az ((gi d 3).int+1)) then some (none,[.l (gi g1 0).rows,.i (gi g1 1).int,.i (gi d 2).int,.i ((gi d 3).int+1)]) else none)))) else some (some 1,[.l (gi d 0).rows,.i (gi d 1).int]))
def Qr:bx:=⟨2,[],⟨16,[(0,.s (.ptr 0 0)),(1,.s (.int .i64)),(6,.s (.int .i64))],[.box [.list [.int .i64],.int .i64]]⟩,[.fix 0],[⟨.ret,⟨16,[(4,.s (.list aq))],[.box [.list [.int .i64],.int .i64]]⟩,[.fix 0]⟩,⟨.exit 0,⟨16,[],[.box [.list [.int .i64],.int .i64]]⟩,[.fix 0]⟩],Bn⟩
theorem ada:cX P t63 au 1 (c9 f4 2) Qr:=fun d=>by kernel_rfl
def Qs:LT:=au.add 1 Qr
theorem adb:ay P 1 Qs (aN f4):=ay.a hm GO (aG _ _ _) ada
def Bo(d:List G):Option (List G) :=
 (aY true (cG Bn [.l (gi d 0).rows,.i (gi d 1).int,.i (gi d 2).int,.i 0]) fun g g3=>(bif ab g 0 then some [.l (gi g3 0).rows,.i (gi g3 1).int,.l (gi g3 2).rows] else some [.l (gi g3 0).rows,.i (gi g3 1).int,.l []]))
def GP:ax:=⟨4,[.s (.ptr 0 0),.s (.int .i64)],[.box [.list [.int .i64],.int .i64]],[.slot 0],[.s (.list aq)],[.box [.list [.int .i64],.int .i64]],[.fix 0],[],Bo⟩
theorem ade:aX P t63 Qs f4 GP:=fun d=>by kernel_rfl
theorem adf:aU P GP:=ba hm GO func4 adb ade
def t64:ah:=t63.cJ GP
theorem Qt:ai P t64:=GO.aW adf

def Bp(d:List G):Option (List G) :=
 (ao (rm [.l [[.i (gi (gi d 0).row 4).int,.i (gi (gi d 0).row 5).int,.s (gi (gi d 0).row 6).str,.s (gi (gi d 0).row 7).str,.i (gi (gi d 0).row 8).int,.i (gi (gi d 0).row 9).int,.s (gi (gi d 0).row 10).str,.s (gi (gi d 0).row 11).str]]]) fun g1=>(bif ((gi g1 0).int != 0) then some [.i (gi g1 0).int] else (bif (aB (gi (gi d 0).row 2).int (gi (gi d 0).row 4).int) then some [.i 1] else some [.i 0])))
def GQ:ax:=⟨212,[.s (.row aq)],[],[],[.s (.int .i64)],[],[],[],Bp⟩
theorem adg:aX P t64 au f212 GQ:=fun d=>by kernel_rfl
theorem adh:aU P GQ:=ba hm Qt func212 (aG _ _ _) adg
def t65:ah:=t64.bp GQ
theorem Qu:ai P t65:=Qt.aP adh

def mM(d:List G):Option (List G) :=
 let g:=gi (gi d 0).row 3; (bif (g.int==1) then (ao (Bp [.l [(bh aq (gi d 0).row)]]) fun g1=>some [.i (gi g1 0).int]) else (bif (g.int==2) then (ao (mJ [.s (gi (gi d 0).row 12).str]) fun g2=>(bif (!(gi g2 0).bool) then some [.i 5] else some [.i 0])) else (bif (g.int==5) then (ao (mJ [.s (gi (gi d 0).row 13).str]) fun g3=>(bif (!(gi g3 0).bool) then some [.i 5] else (ao (kI [.i (gi (gi d 0).row 14).int,.i 1,.i 1000000]) fun g4=>(bif (gi g4 0).bool then some [.i 1] else some [.i 0])))) else (ao (kI [.i (gi (gi d 0).row 8).int,.i 1,.i 99999]) fun g5=>(bif (gi g5 0).bool then some [.i 1] else some [.i 0])))))
def GR:ax:=⟨151,[.s (.row aq)],[],[],[.s (.int .i64)],[],[],[],mM⟩
theorem adi:aX P t65 au f151 GR:=fun d=>by kernel_rfl
theorem adj:aU P GR:=ba hm Qu func151 (aG _ _ _) adi
def t66:ah:=t65.bp GR
theorem Qv:ai P t66:=Qu.aP adj

def kK(d:List G):Option (List G) :=
 let z3:=(⟨#[]⟩:ByteArray); let z4:=gi (gi d 0).row 3; let g:=bif (z4.int==2) then (bif (z4.int==5) then some [.t true] else (bif ((gi (gi d 0).row 13).str.toList==z3.toList) then some [.t ((gi (gi d 0).row 14).int==0)] else some [.t false])) else (bif ((gi (gi d 0).row 12).str.toList==z3.toList) then (bif (z4.int==5) then some [.t true] else (bif ((gi (gi d 0).row 13).str.toList==z3.toList) then some [.t ((gi (gi d 0).row 14).int==0)] else some [.t false])) else some [.t false]); let z2:=bif (z4.int==1) then g else (bif (aF aQ [.i (gi (gi d 0).row 4).int,.i (gi (gi d 0).row 5).int,.s (gi (gi d 0).row 6).str,.s (gi (gi d 0).row 7).str,.i (gi (gi d 0).row 8).int,.i (gi (gi d 0).row 9).int,.s (gi (gi d 0).row 10).str,.s (gi (gi d 0).row 11).str] [.i 0,.i 0,.s z3,.s z3,.i (gi (gi d 0).row 8).int,.i 0,.s z3,.s z3]) then g else some [.t false]); (bif (z4.int==3) then z2 else (bif (z4.int==4) then z2 else (bif (z4.int==1) then g else (bif (aF aQ [.i (gi (gi d 0).row 4).int,.i (gi (gi d 0).row 5).int,.s (gi (gi d 0).row 6).str,.s (gi (gi d 0).row 7).str,.i (gi (gi d 0).row 8).int,.i (gi (gi d 0).row 9).int,.s (gi (gi d 0).row 10).str,.s (gi (gi d 0).row 11).str] [.i 0,.i 0,.s z3,.s z3,.i 0,.i 0,.s z3,.s z3]) then g else some [.t false]))))
def GS:ax:=⟨152,[.s (.row aq)],[],[],[.s (.bool)],[],[],[],kK⟩
theorem adk:aX P t66 au f152 GS:=fun d=>by kernel_rfl
theorem adl:aU P GS:=ba hm Qv func152 (aG _ _ _) adk
def t67:ah:=t66.bp GS
theorem Qw:ai P t67:=Qv.aP adl

def Bq(d:List G):Option (List G) :=
 let g:=bh aq (gi d 0).row; (ao (mJ [.s (gi (gi d 0).row 0).str]) fun g1=>(bif (!(gi g1 0).bool) then some [.i 5] else (ao (kI [.i (gi (gi d 0).row 1).int,.i 1,.i 1000000]) fun g2=>(bif (gi g2 0).bool then some [.i 1] else (ao (rk [.i (gi (gi d 0).row 2).int]) fun g3=>(bif (!(gi g3 0).bool) then some [.i 1] else (ao (kI [.i (gi (gi d 0).row 3).int,.i 1,.i 5]) fun g4=>(bif (gi g4 0).bool then some [.i 4] else (ao (mM [.l [g]]) fun g5=>(bif ((gi g5 0).int != 0) then some [.i (gi g5 0).int] else (ao (kK [.l [g]]) fun g6=>(bif (!(gi g6 0).bool) then some [.i 3] else some [.i 0]))))))))))))
def GU:ax:=⟨117,[.s (.row aq)],[],[],[.s (.int .i64)],[],[],[],Bq⟩
theorem adm:aX P t67 au f117 GU:=fun d=>by kernel_rfl
theorem adn:aU P GU:=ba hm Qw func117 (aG _ _ _) adm
def t68:ah:=t67.bp GU
theorem Qx:ai P t68:=Qw.aP adn

def Br(d:List G):Option (List G) :=
 (ao (nJ [.i (gi (gi d 0).row 2).int,.i (gi (gi d 1).row 2).int]) fun g1=>(ao (iD [.s (gi (gi d 0).row 0).str,.s (gi (gi d 1).row 0).str]) fun g2=>(ao (nJ [.i (gi (gi d 0).row 1).int,.i (gi (gi d 1).row 1).int]) fun g3=>(ao (jR [.l [[.i (gi g1 0).int],[.i (gi g2 0).int],[.i (gi g3 0).int]]]) fun g4=>some [.i (gi g4 0).int]))))
def GV:ax:=⟨118,[.s (.row aq),.s (.row aq)],[],[],[.s (.int .i64)],[],[],[],Br⟩
theorem ado:aX P t68 au f118 GV:=fun d=>by kernel_rfl
theorem adp:aU P GV:=ba hm Qx func118 (aG _ _ _) ado
def t69:ah:=t68.bp GV
theorem Bs:ai P t69:=Qx.aP adp

def xe(d:List G):Option (Option Nat × List G) :=
 let g:=bh aq ((gi d 1).rows.getD (((gi d 3).int).toNat) []); let z2:=(gi d 3).int-1; let z3:=(gi d 3).int+1; (bif (aB (gi d 3).int (gi d 2).int) then (bif ((bD (gi d 3).int)&&(aB (gi d 3).int (((gi d 1).rows.length:Nat):Int))) then (ao (Bq [.l [g]]) fun g1=>(bif ((gi g1 0).int != 0) then some (some 0,[.i (gi g1 0).int]) else (bif (aB 0 (gi d 3).int) then (bif (az z2) then (bif ((bD z2)&&(aB z2 (((gi d 0).rows.length:Nat):Int))) then (ao (Br [.l [(bh aq ((gi d 0).rows.getD (z2.toNat) []))],.l [g]]) fun g2=>(bif (bM 0 (gi g2 0).int) then some (some 0,[.i 7]) else (bif (az z3) then some (none,[.l (gi d 0).rows,.l (gi d 1).rows,.i (gi d 2).int,.i z3]) else none))) else none) else none) else (bif (az z3) then some (none,[.l (gi d 0).rows,.l (gi d 1).rows,.i (gi d 2).int,.i z3]) else none)))) else none) else some (some 1,[.l (gi d 0).rows]))
def Qy:bx:=⟨4,[],⟨56,[(0,.s (.list aq)),(13,.s (.list aq)),(14,.s (.int .i64)),(15,.s (.int .i64))],[]⟩,[],[⟨.ret,⟨56,[(2,.s (.int .i64))],[]⟩,[]⟩,⟨.exit 0,⟨56,[(0,.s (.list aq))],[]⟩,[]⟩],xe⟩
theorem adq:cX P t69 au 0 (c9 f78 4) Qy:=fun d=>by kernel_rfl
def GW:LT:=au.add 0 Qy
theorem ads:ay P 0 GW (aN f78):=ay.a hm Bs (aG _ _ _) adq
def xf(d:List G):Option (Option Nat × List G) :=
 let g:=bh [.str,.int .i64] ((gi d 2).rows.getD (((gi d 4).int).toNat) []); (bif (aB (gi d 4).int (gi d 3).int) then (bif ((bD (gi d 4).int)&&(aB (gi d 4).int (((gi d 2).rows.length:Nat):Int))) then (bif (gi (ch [.str,.int .i64] (gi d 0).rows g [.t false]) 0).bool then some (some 0,[.i 6]) else (bif (az ((gi d 4).int+1)) then some (none,[.l (cu [.str,.int .i64] (gi d 0).rows g [.t true] (gi d 1).int.toNat),.i (((dF [.str,.int .i64] (gi d 0).rows g (gi d 1).int.toNat):Nat):Int),.l (gi d 2).rows,.i (gi d 3).int,.i ((gi d 4).int+1)]) else none)) else none) else some (some 1,[]))
def Qz:bx:=⟨14,[],⟨56,[(6,.s (.map 0)),(39,.s (.list aq)),(40,.s (.int .i64)),(41,.s (.int .i64))],[.map (.agg [.str,.int .i64]) (.one (.bool))]⟩,[.slot 6],[⟨.ret,⟨56,[(2,.s (.int .i64))],[]⟩,[]⟩,⟨.exit 2,⟨56,[],[]⟩,[]⟩],xf⟩
theorem adt:cX P t69 GW 0 (c9 f78 14) Qz:=fun d=>by kernel_rfl
def QA:LT:=GW.add 0 Qz
theorem adu:ay P 0 QA (aN f78):=ay.a hm Bs ads adt
def xg(d:List G):Option (List G) :=
 let g:=(((gi d 0).rows.length:Nat):Int); (bif (aB 2000 g) then some [.i 2] else (aY true (cG xe [.l (gi d 0).rows,.l (gi d 0).rows,.i g,.i 0]) fun k g3=>(bif ab k 0 then some [.i (gi g3 0).int] else (aY true (cG xf [.l [],.i 0,.l (gi g3 0).rows,.i (((gi g3 0).rows.length:Nat):Int),.i 0]) fun q g4=>(bif ab q 0 then some [.i (gi g4 0).int] else some [.i 0])))))
def GX:ax:=⟨78,[.s (.list aq)],[],[],[.s (.int .i64)],[],[],[],xg⟩
theorem adv:aX P t69 QA f78 GX:=fun d=>by kernel_rfl
theorem adw:aU P GX:=ba hm Bs func78 adu adv
def t70:ah:=t69.bp GX
theorem QB:ai P t70:=Bs.aP adw

def rr(d:List G):Option (List G) :=
 (ao (xg [.l (gi d 0).rows]) fun g1=>(bif ((gi g1 0).int != 0) then some [.i (gi g1 0).int] else (ao (rk [.i (gi d 1).int]) fun g2=>(bif (!(gi g2 0).bool) then some [.i 1] else some [.i 0]))))
def GY:ax:=⟨41,[.s (.list aq),.s (.int .i64)],[],[],[.s (.int .i64)],[],[],[],rr⟩
theorem adx:aX P t70 au f41 GY:=fun d=>by kernel_rfl
theorem ady:aU P GY:=ba hm QB func41 (aG _ _ _) adx
def t71:ah:=t70.bp GY
theorem adz:ai P t71:=QB.aP ady

def t72:ah:=t71.cy P 119 f119
theorem GZ:ai P t72:=adz.cy hm func119 (by kernel_rfl) (by kernel_rfl)

theorem adA:pB P ⟨153,26,49,15,15,true⟩:=Ma func153 (by kernel_rfl) rfl rfl rfl ⟨⟨_,_,_,_,_,_,rfl,⟨rfl,rfl,rfl⟩,⟨rfl,rfl,rfl⟩,⟨rfl,rfl,rfl⟩,⟨rfl,rfl,rfl⟩⟩,⟨_,_,_,_,rfl,⟨rfl,rfl,rfl⟩,⟨rfl,rfl,rfl⟩⟩,⟨_,_,_,_,_,rfl,⟨rfl,rfl,rfl⟩,⟨rfl,rfl,rfl⟩,⟨rfl,rfl,rfl⟩⟩,⟨_,_,_,_,_,_,_,_,_,_,rfl,⟨rfl,rfl,rfl⟩,⟨rfl,rfl,rfl⟩,⟨rfl,rfl,rfl⟩,⟨rfl,rfl,rfl⟩,⟨rfl,rfl,rfl⟩,⟨rfl,rfl,rfl⟩,⟨rfl,rfl,rfl⟩,⟨rfl,rfl,rfl⟩⟩⟩ (by kernel_rfl)
def G0(i:Int)(r d:List G):Option (List G) :=
 let g:=((gi d 3).rows++([[.i i]]:List (List G))); let z2:=ab (gi d 3).rows.length (gi d 3).rows.length; let z3:=(((gi d 2).int.toNat:Nat):Int); let z4:=(((ab g.length g.length)&&true)&&true)&&true; let z5:=((z2&&true)&&true)&&true; (bif (aB (gi d 0).int (gi r 2).int) then (bif z5 then some [.i (gi d 0).int,.l (gi d 1).rows,.i z3,.l (gi d 3).rows] else none) else (bif (gi (ch [.str,.int .i64] (gi d 1).rows (bh [.str,.int .i64] r) [.t false]) 0).bool then (bif z5 then some [.i (gi d 0).int,.l (gi d 1).rows,.i z3,.l (gi d 3).rows] else none) else (bif (z2&&(decide (((gi d 3).rows.length+1)≤1048576))) then (bif ((gi r 3).int==5) then (bif z4 then some [.i (gi d 0).int,.l (cu [.str,.int .i64] (gi d 1).rows [.s (gi r 13).str,.i (gi r 14).int] [.t true] (gi d 2).int.toNat),.i (((dF [.str,.int .i64] (gi d 1).rows [.s (gi r 13).str,.i (gi r 14).int] (gi d 2).int.toNat):Nat):Int),.l g] else none) else (bif z4 then some [.i (gi d 0).int,.l (gi d 1).rows,.i z3,.l g] else none)) else none)))
def QC(d:List G):List G:=[.i (gi d 0).int,.l (gi d 1).rows,.i (((gi d 2).int.toNat:Nat):Int),.l []]
def QD(d:List G):Bool:=true
def tU:tw:=⟨⟨43,[(3,.s (.ptr 0 0)),(5,.s (.ptr 1 0)),(6,.s (.ptr 3 0))],[.box [.int .i64],.box [.map 2],.map (.agg [.str,.int .i64]) (.one (.bool)),.box [.vec 4 1],.vec [.int .i64] 1]⟩,[.slot 3,.slot 5,.cell 1 0,.slot 6,.cell 3 0],[],aq,true,15,5,12,13,QC,QD,G0⟩
theorem adB:AJ P t72 (au.iy [(2,[.eZ 6 0 [.int .i64]]),(3,[.eZ 6 0 [.int .i64]])]) tU (AK (cutAt f79 3)) (AM (cutAt f79 3)):=fun i r d=>by kernel_rfl
def G1(d:List G):Option (Option Nat × List G) :=
 let g:=A_ [.l (gi d 3).rows]; (gI (((ab (gi d 3).rows.length (gi d 3).rows.length)&&true)&&g.isSome) g fun g1=>(bif ((ab (gi d 3).rows.length (gi g1 0).rows.length)&&true) then some (some 0,[.l (gi g1 0).rows]) else none))
def QE:bx:=⟨10,[],⟨43,[(3,.s (.ptr 0 0)),(5,.s (.ptr 1 0)),(6,.s (.ptr 3 0))],[.box [.int .i64],.box [.map 2],.map (.agg [.str,.int .i64]) (.one (.bool)),.box [.vec 4 1],.vec [.int .i64] 1]⟩,[],[⟨.ret,⟨43,[(4,.s (.vec 0 1))],[.vec [.int .i64] 0]⟩,[.slot 4]⟩],G1⟩
theorem adC:gl P t72 (au.iy [(2,[.eZ 6 0 [.int .i64]]),(3,[.eZ 6 0 [.int .i64]])]) 0 (nC (cutAt f79 3)) QE:=fun d=>by kernel_rfl
def Bt(d:List G):Option (Option Nat × List G) :=
 wH tU G1 ((gi d 3).rows) d
def G2:bx:=⟨3,[],⟨43,[(0,.s (.list aq)),(3,.s (.ptr 0 0)),(5,.s (.ptr 1 0)),(6,.s (.ptr 3 0))],[.box [.int .i64],.box [.map 2],.map (.agg [.str,.int .i64]) (.one (.bool)),.box [.nil]]⟩,[.slot 3,.slot 5,.cell 1 0,.slot 6],[⟨.ret,⟨43,[(4,.s (.vec 0 1))],[.vec [.int .i64] 0]⟩,[.slot 4]⟩],Bt⟩
def QF:LT:=(au.iy [(2,[.eZ 6 0 [.int .i64]]),(3,[.eZ 6 0 [.int .i64]])]).fI 0 G2
theorem adD:ay P 0 QF (aN f79):=ay.Xv (i:=⟨153,26,49,15,15,true⟩) (q:=G2) (qr:=QE) (sp:=tU) (b:=0) (g:=11) (wd:=0) (L0:=(au.iy [(2,[.eZ 6 0 [.int .i64]]),(3,[.eZ 6 0 [.int .i64]])])) (rows:=fun d=>(gi d 3).rows) (pre:=fun d=>preB P t72 (au.iy [(2,[.eZ 6 0 [.int .i64]]),(3,[.eZ 6 0 [.int .i64]])]) (cutAt f79 3) (aM G2.inv d)) hm GZ adA (by kernel_rfl) (qS _) (fun _ _=>qS _) (by kernel_rfl) adB (by kernel_rfl) (by kernel_rfl) (fun d=>by kernel_rfl) (fun d=>by kernel_rfl) (fun d=>by kernel_rfl) (fun d=>by kernel_rfl) (fun d=>by kernel_rfl) rfl rfl adC (fun d=>rfl)
def Bu(d:List G):Option (List G) :=
 (aY true (cY (Bt [.i (gi d 1).int,.l [],.i 0,.l (gi d 0).rows])) fun g g2=>(bif ((ab (gi g2 0).rows.length (gi g2 0).rows.length)&&true) then some [.l (gi g2 0).rows] else none))
def G3:ax:=⟨79,[.s (.list aq),.s (.int .i64)],[],[],[.s (.list [.int .i64])],[],[],[],Bu⟩
theorem adE:aX P t72 QF f79 G3:=fun d=>by kernel_rfl
theorem adF:aU P G3:=ba hm GZ func79 adD adE
def t73:ah:=t72.bp G3
theorem QG:ai P t73:=GZ.aP adF

def Bv(d:List G):Option (List G) :=
 some [.l [[.i (gi (gi d 0).row 0).int,.i (gi (gi d 0).row 1).int,.s (gi (gi d 0).row 2).str,.s (gi (gi d 0).row 3).str,.i 0,.i 0,.s (⟨#[]⟩:ByteArray),.s (⟨#[]⟩:ByteArray)]]]
def G4:ax:=⟨80,[.s (.row aQ)],[],[],[.s (.row aQ)],[],[],[],Bv⟩
theorem adG:aX P t73 au f80 G4:=fun d=>by kernel_rfl
theorem adH:aU P G4:=ba hm QG func80 (aG _ _ _) adG
def t74:ah:=t73.bp G4
theorem adI:ai P t74:=QG.aP adH

def Bw(d:List G):Option (List G) :=
 qY pI d
def xh:ax:=⟨81,[.s (.vec 0 8),.s (.fn 82)],[.vec aQ 0],[.slot 0],[],[.vec aQ 0],[.fix 0],[],Bw⟩
theorem adJ:∀ d r,Bw d=some r→cg P 81 (xh.args0 d) (aj (xh.H0 d)) (xh.out r) (aj (xh.H1 r)):=fun d r h=>Mm Tryz.Yi aQ (by kernel_rfl) Tryz.isAgg41 Tryz.sizeOf41 82 (by kernel_rfl) pI (fun d r h=>N' d r h) d r h
def t75:ah:=t74.cJ xh
theorem ru:ai P t75:=adI.aW adJ

def tV(d:List G):Option (Option Nat × List G) :=
 let g:=((gi d 1).rows++([[.i (gi d 12).int,.i (gi d 13).int,.s (gi d 14).str,.s (gi d 15).str,.i (gi d 16).int,.i (gi d 17).int,.s (gi d 18).str,.s (gi d 19).str]]:List (List G))); let z2:=Bv [.l [[.i (gi d 12).int,.i (gi d 13).int,.s (gi d 14).str,.s (gi d 15).str,.i (gi d 16).int,.i (gi d 17).int,.s (gi d 18).str,.s (gi d 19).str]]]; let z3:=(ab (gi d 2).rows.length (gi d 2).rows.length)&&((ab (gi d 3).rows.length (gi d 3).rows.length)&&true); let z4:=((gi d 3).rows++([[.i (gi d 24).int]]:List (List G))); let z5:=ab (gi d 0).rows.length (gi d 0).rows.length; let k:=ab (gi d 1).rows.length (gi d 1).rows.length; let q:=(((gi d 5).int.toNat:Nat):Int); let A:=(((gi d 7).int.toNat:Nat):Int); (bif ((gi d 11).int != 1) then (bif (((z5&&(k&&z3))&&true)&&true) then some (some 0,[.l (gi d 0).rows,.l (gi d 1).rows,.l (gi d 2).rows,.l (gi d 3).rows,.l (gi d 4).rows,.i q,.l (gi d 6).rows,.i A,.l (gi d 23).rows,.l (gi d 25).rows,.i (gi d 26).int,.i (gi d 27).int]) else none) else (ao z2 fun g2=>(bif (bg aQ (gi d 6).rows (bh aQ (gi g2 0).row)) then (bif ((ab (gi d 3).rows.length (gi d 3).rows.length)&&(decide (((gi d 3).rows.length+1)≤1048576))) then (bif (((z5&&(k&&((ab (gi d 2).rows.length (gi d 2).rows.length)&&((ab z4.length z4.length)&&true))))&&true)&&true) then some (some 0,[.l (gi d 0).rows,.l (gi d 1).rows,.l (gi d 2).rows,.l z4,.l (gi d 4).rows,.i q,.l (gi d 6).rows,.i A,.l (gi d 23).rows,.l (gi d 25).rows,.i (gi d 26).int,.i (gi d 27).int]) else none) else none) else (ao z2 fun g3=>let z9:=bh aQ (gi g3 0).row; (bif (k&&(decide (((gi d 1).rows.length+1)≤1048576))) then (bif (((z5&&((ab g.length g.length)&&z3))&&true)&&true) then some (some 1,[.l (gi d 0).rows,.l g,.l (gi d 2).rows,.l (gi d 3).rows,.l (gi d 4).rows,.i q,.l (cu aQ (gi d 6).rows z9 [.s (gi d 8).str,.i (gi d 9).int,.i (gi d 10).int,.i (gi d 11).int,.i (gi d 12).int,.i (gi d 13).int,.s (gi d 14).str,.s (gi d 15).str,.i (gi d 16).int,.i (gi d 17).int,.s (gi d 18).str,.s (gi d 19).str,.s (gi d 20).str,.s (gi d 21).str,.i (gi d 22).int] (gi d 7).int.toNat),.i (((dF aQ (gi d 6).rows z9 (gi d 7).int.toNat):Nat):Int),.l (gi d 23).rows,.l (gi d 25).rows,.i (gi d 26).int,.i (gi d 27).int]) else none) else none)))))
def QH:bx:=⟨14,[],⟨143,[(0,.s (.list aq)),(6,.s (.ptr 0 0)),(7,.s (.map 6)),(9,.s (.int .i64)),(10,.s (.ptr 7 0)),(21,.s (.list [.int .i64])),(22,.s (.int .i64)),(23,.s (.int .i64))],[.box [.vec 1 15,.vec 2 8,.vec 3 1,.vec 4 1,.map 5],.vec aq 0,.vec aQ 0,.vec [.str] 0,.vec [.int .i64] 0,.map (.agg [.str,.int .i64]) (.one (.bool)),.map (.agg aQ) (.agg aq),.box [.str,.int .i64,.int .i64,.int .i64,.int .i64,.int .i64,.str,.str,.int .i64,.int .i64,.str,.str,.str,.str,.int .i64]]⟩,[.slot 6,.cell 0 0,.cell 0 1,.cell 0 2,.cell 0 3,.cell 0 4,.slot 7,.slot 10],[⟨.exit 1,⟨143,[(0,.s (.list aq)),(6,.s (.ptr 0 0)),(7,.s (.map 6)),(21,.s (.list [.int .i64])),(22,.s (.int .i64)),(23,.s (.int .i64))],[.box [.vec 1 15,.vec 2 8,.vec 3 1,.vec 4 1,.map 5],.vec aq 0,.vec aQ 0,.vec [.str] 0,.vec [.int .i64] 0,.map (.agg [.str,.int .i64]) (.one (.bool)),.map (.agg aQ) (.agg aq)]⟩,[.slot 6,.cell 0 0,.cell 0 1,.cell 0 2,.cell 0 3,.cell 0 4,.slot 7]⟩,⟨.normal,⟨143,[(0,.s (.list aq)),(6,.s (.ptr 0 0)),(7,.s (.map 6)),(21,.s (.list [.int .i64])),(22,.s (.int .i64)),(23,.s (.int .i64))],[.box [.vec 1 15,.vec 2 8,.vec 3 1,.vec 4 1,.map 5],.vec aq 0,.vec aQ 0,.vec [.str] 0,.vec [.int .i64] 0,.map (.agg [.str,.int .i64]) (.one (.bool)),.map (.agg aQ) (.agg aq)]⟩,[.slot 6,.cell 0 0,.cell 0 1,.cell 0 2,.cell 0 3,.cell 0 4,.slot 7]⟩],tV⟩
theorem adK:gl P t75 (au.iy [(3,[.eZ 6 0 aq,.eZ 6 3 [.int .i64],.eZ 6 1 aQ,.eZ 6 2 [.str]])]) 0 (cutAt f42 14) QH:=fun d=>by kernel_rfl
def G5:LT:=(au.iy [(3,[.eZ 6 0 aq,.eZ 6 3 [.int .i64],.eZ 6 1 aQ,.eZ 6 2 [.str]])]).fI 0 QH
theorem adL:ay P 0 G5 (aN f42):=ay.aC hm ru (qS _) adK
def tW(d:List G):Option (Option Nat × List G) :=
 (bif (az ((gi d 11).int+1)) then (bif ((((ab (gi d 0).rows.length (gi d 0).rows.length)&&((ab (gi d 1).rows.length (gi d 1).rows.length)&&((ab (gi d 2).rows.length (gi d 2).rows.length)&&((ab (gi d 3).rows.length (gi d 3).rows.length)&&true))))&&true)&&true) then some (some 0,[.l (gi d 0).rows,.l (gi d 1).rows,.l (gi d 2).rows,.l (gi d 3).rows,.l (gi d 4).rows,.i (((gi d 5).int.toNat:Nat):Int),.l (gi d 6).rows,.i (((gi d 7).int.toNat:Nat):Int),.l (gi d 8).rows,.l (gi d 9).rows,.i (gi d 10).int,.i ((gi d 11).int+1)]) else none) else none)
def QI:bx:=⟨20,[],⟨143,[(0,.s (.list aq)),(6,.s (.ptr 0 0)),(7,.s (.map 6)),(21,.s (.list [.int .i64])),(22,.s (.int .i64)),(23,.s (.int .i64))],[.box [.vec 1 15,.vec 2 8,.vec 3 1,.vec 4 1,.map 5],.vec aq 0,.vec aQ 0,.vec [.str] 0,.vec [.int .i64] 0,.map (.agg [.str,.int .i64]) (.one (.bool)),.map (.agg aQ) (.agg aq)]⟩,[.slot 6,.cell 0 0,.cell 0 1,.cell 0 2,.cell 0 3,.cell 0 4,.slot 7],[⟨.normal,⟨143,[(0,.s (.list aq)),(6,.s (.ptr 0 0)),(7,.s (.map 6)),(21,.s (.list [.int .i64])),(22,.s (.int .i64)),(23,.s (.int .i64))],[.box [.vec 1 15,.vec 2 8,.vec 3 1,.vec 4 1,.map 5],.vec aq 0,.vec aQ 0,.vec [.str] 0,.vec [.int .i64] 0,.map (.agg [.str,.int .i64]) (.one (.bool)),.map (.agg aQ) (.agg aq)]⟩,[.slot 6,.cell 0 0,.cell 0 1,.cell 0 2,.cell 0 3,.cell 0 4,.slot 7]⟩],tW⟩
theorem adM:gl P t75 G5 0 (cutAt f42 20) QI:=fun d=>by kernel_rfl
def G6:LT:=G5.fI 0 QI
theorem adN:ay P 0 G6 (aN f42):=ay.aC hm ru adL adM
def xi(d:List G):Option (Option Nat × List G) :=
 let g:=(((ab (gi d 0).rows.length (gi d 0).rows.length)&&((ab (gi d 1).rows.length (gi d 1).rows.length)&&((ab (gi d 2).rows.length (gi d 2).rows.length)&&((ab (gi d 3).rows.length (gi d 3).rows.length)&&true))))&&true)&&true; let z2:=(((gi d 5).int.toNat:Nat):Int); let z3:=(((gi d 7).int.toNat:Nat):Int); (bif (gi d 28).bool then (bif g then some (some 0,[.l (gi d 0).rows,.l (gi d 1).rows,.l (gi d 2).rows,.l (gi d 3).rows,.l (jg [.str,.int .i64] (gi d 4).rows [.s (gi d 8).str,.i (gi d 16).int]),.i z2,.l (gi d 6).rows,.i z3,.s (gi d 8).str,.i (gi d 9).int,.i (gi d 10).int,.i (gi d 11).int,.i (gi d 12).int,.i (gi d 13).int,.s (gi d 14).str,.s (gi d 15).str,.i (gi d 16).int,.i (gi d 17).int,.s (gi d 18).str,.s (gi d 19).str,.s (gi d 20).str,.s (gi d 21).str,.i (gi d 22).int,.l (gi d 23).rows,.i (gi d 24).int,.l (gi d 25).rows,.i (gi d 26).int,.i (gi d 27).int]) else none) else (bif g then some (some 0,[.l (gi d 0).rows,.l (gi d 1).rows,.l (gi d 2).rows,.l (gi d 3).rows,.l (gi d 4).rows,.i z2,.l (gi d 6).rows,.i z3,.s (gi d 8).str,.i (gi d 9).int,.i (gi d 10).int,.i (gi d 11).int,.i (gi d 12).int,.i (gi d 13).int,.s (gi d 14).str,.s (gi d 15).str,.i (gi d 16).int,.i (gi d 17).int,.s (gi d 18).str,.s (gi d 19).str,.s (gi d 20).str,.s (gi d 21).str,.i (gi d 22).int,.l (gi d 23).rows,.i (gi d 24).int,.l (gi d 25).rows,.i (gi d 26).int,.i (gi d 27).int]) else none))
def QJ:bx:=⟨13,[],⟨143,[(0,.s (.list aq)),(6,.s (.ptr 0 0)),(7,.s (.map 6)),(9,.s (.int .i64)),(10,.s (.ptr 7 0)),(21,.s (.list [.int .i64])),(22,.s (.int .i64)),(23,.s (.int .i64)),(55,.s (.bool))],[.box [.vec 1 15,.vec 2 8,.vec 3 1,.vec 4 1,.map 5],.vec aq 0,.vec aQ 0,.vec [.str] 0,.vec [.int .i64] 0,.map (.agg [.str,.int .i64]) (.one (.bool)),.map (.agg aQ) (.agg aq),.box [.str,.int .i64,.int .i64,.int .i64,.int .i64,.int .i64,.str,.str,.int .i64,.int .i64,.str,.str,.str,.str,.int .i64]]⟩,[.slot 6,.cell 0 0,.cell 0 1,.cell 0 2,.cell 0 3,.cell 0 4,.slot 7,.slot 10],[⟨.normal,⟨143,[(0,.s (.list aq)),(6,.s (.ptr 0 0)),(7,.s (.map 6)),(9,.s (.int .i64)),(10,.s (.ptr 7 0)),(21,.s (.list [.int .i64])),(22,.s (.int .i64)),(23,.s (.int .i64))],[.box [.vec 1 15,.vec 2 8,.vec 3 1,.vec 4 1,.map 5],.vec aq 0,.vec aQ 0,.vec [.str] 0,.vec [.int .i64] 0,.map (.agg [.str,.int .i64]) (.one (.bool)),.map (.agg aQ) (.agg aq),.box [.str,.int .i64,.int .i64,.int .i64,.int .i64,.int .i64,.str,.str,.int .i64,.int .i64,.str,.str,.str,.str,.int .i64]]⟩,[.slot 6,.cell 0 0,.cell 0 1,.cell 0 2,.cell 0 3,.cell 0 4,.slot 7,.slot 10]⟩],xi⟩
theorem adO:gl P t75 G6 0 (cutAt f42 13) QJ:=fun d=>by kernel_rfl
def G7:LT:=G6.fI 0 QJ
theorem adP:ay P 0 G7 (aN f42):=ay.aC hm ru adN adO
def tX(d:List G):Option (Option Nat × List G) :=
 let z3:=gi ((gi d 9).rows.getD (((gi d 11).int).toNat) []) 0; let g:=(gi d 8).rows.getD ((z3.int).toNat) []; let z4:=((gi d 0).rows++([(bh aq g)]:List (List G))); let z2:=(((ab z4.length z4.length)&&((ab (gi d 1).rows.length (gi d 1).rows.length)&&((ab (gi d 2).rows.length (gi d 2).rows.length)&&((ab (gi d 3).rows.length (gi d 3).rows.length)&&true))))&&true)&&true; let z5:=(((gi d 7).int.toNat:Nat):Int); let k:=(((gi d 5).int.toNat:Nat):Int); let F:=ab (gi d 0).rows.length (gi d 0).rows.length; (bif (aB (gi d 11).int (gi d 10).int) then (bif ((bD (gi d 11).int)&&(aB (gi d 11).int (((gi d 9).rows.length:Nat):Int))) then (bif ((bD z3.int)&&(aB z3.int (((gi d 8).rows.length:Nat):Int))) then (bif (F&&(decide (((gi d 0).rows.length+1)≤1048576))) then (bif ((gi g 3).int==3) then (aY z2 (cY (tV [.l z4,.l (gi d 1).rows,.l (gi d 2).rows,.l (gi d 3).rows,.l (cu [.str,.int .i64] (gi d 4).rows [.s (gi g 0).str,.i (gi g 8).int] [.t true] (gi d 5).int.toNat),.i (((dF [.str,.int .i64] (gi d 4).rows [.s (gi g 0).str,.i (gi g 8).int] (gi d 5).int.toNat):Nat):Int),.l (gi d 6).rows,.i z5,.s (gi g 0).str,.i (gi g 1).int,.i (gi g 2).int,.i (gi g 3).int,.i (gi g 4).int,.i (gi g 5).int,.s (gi g 6).str,.s (gi g 7).str,.i (gi g 8).int,.i (gi g 9).int,.s (gi g 10).str,.s (gi g 11).str,.s (gi g 12).str,.s (gi g 13).str,.i (gi g 14).int,.l (gi d 8).rows,.i z3.int,.l (gi d 9).rows,.i (gi d 10).int,.i (gi d 11).int])) fun M g4=>let I:=(cY (tW [.l (gi g4 0).rows,.l (gi g4 1).rows,.l (gi g4 2).rows,.l (gi g4 3).rows,.l (gi g4 4).rows,.i (((gi g4 5).int.toNat:Nat):Int),.l (gi g4 6).rows,.i (((gi g4 7).int.toNat:Nat):Int),.l (gi g4 8).rows,.l (gi g4 9).rows,.i (gi g4 10).int,.i (gi g4 11).int])); let z9:=(((ab (gi g4 0).rows.length (gi g4 0).rows.length)&&((ab (gi g4 1).rows.length (gi g4 1).rows.length)&&((ab (gi g4 2).rows.length (gi g4 2).rows.length)&&((ab (gi g4 3).rows.length (gi g4 3).rows.length)&&true))))&&true)&&true; (bif ab M 0 then (aY z9 I fun Y g5=>(bif ((((ab (gi g5 0).rows.length (gi g5 0).rows.length)&&((ab (gi g5 1).rows.length (gi g5 1).rows.length)&&((ab (gi g5 2).rows.length (gi g5 2).rows.length)&&((ab (gi g5 3).rows.length (gi g5 3).rows.length)&&true))))&&true)&&true) then some (none,[.l (gi g5 0).rows,.l (gi g5 1).rows,.l (gi g5 2).rows,.l (gi g5 3).rows,.l (gi g5 4).rows,.i (((gi g5 5).int.toNat:Nat):Int),.l (gi g5 6).rows,.i (((gi g5 7).int.toNat:Nat):Int),.l (gi g5 8).rows,.l (gi g5 9).rows,.i (gi g5 10).int,.i (gi g5 11).int]) else none)) else (aY z9 I fun cg6 g6=>(bif ((((ab (gi g6 0).rows.length (gi g6 0).rows.length)&&((ab (gi g6 1).rows.length (gi g6 1).rows.length)&&((ab (gi g6 2).rows.length (gi g6 2).rows.length)&&((ab (gi g6 3).rows.length (gi g6 3).rows.length)&&true))))&&true)&&true) then some (none,[.l (gi g6 0).rows,.l (gi g6 1).rows,.l (gi g6 2).rows,.l (gi g6 3).rows,.l (gi g6 4).rows,.i (((gi g6 5).int.toNat:Nat):Int),.l (gi g6 6).rows,.i (((gi g6 7).int.toNat:Nat):Int),.l (gi g6 8).rows,.l (gi g6 9).rows,.i (gi g6 10).int,.i (gi g6 11).int]) else none)))) else (bif ((gi g 3).int==4) then (aY z2 (cY (xi [.l z4,.l (gi d 1).rows,.l (gi d 2).rows,.l (gi d 3).rows,.l (gi d 4).rows,.i k,.l (gi d 6).rows,.i z5,.s (gi g 0).str,.i (gi g 1).int,.i (gi g 2).int,.i (gi g 3).int,.i (gi g 4).int,.i (gi g 5).int,.s (gi g 6).str,.s (gi g 7).str,.i (gi g 8).int,.i (gi g 9).int,.s (gi g 10).str,.s (gi g 11).str,.s (gi g 12).str,.s (gi g 13).str,.i (gi g 14).int,.l (gi d 8).rows,.i z3.int,.l (gi d 9).rows,.i (gi d 10).int,.i (gi d 11).int,.t ((gi g 3).int==4)])) fun cg7 g7=>(aY ((((ab (gi g7 0).rows.length (gi g7 0).rows.length)&&((ab (gi g7 1).rows.length (gi g7 1).rows.length)&&((ab (gi g7 2).rows.length (gi g7 2).rows.length)&&((ab (gi g7 3).rows.length (gi g7 3).rows.length)&&true))))&&true)&&true) (cY (tV [.l (gi g7 0).rows,.l (gi g7 1).rows,.l (gi g7 2).rows,.l (gi g7 3).rows,.l (gi g7 4).rows,.i (((gi g7 5).int.toNat:Nat):Int),.l (gi g7 6).rows,.i (((gi g7 7).int.toNat:Nat):Int),.s (gi g7 8).str,.i (gi g7 9).int,.i (gi g7 10).int,.i (gi g7 11).int,.i (gi g7 12).int,.i (gi g7 13).int,.s (gi g7 14).str,.s (gi g7 15).str,.i (gi g7 16).int,.i (gi g7 17).int,.s (gi g7 18).str,.s (gi g7 19).str,.s (gi g7 20).str,.s (gi g7 21).str,.i (gi g7 22).int,.l (gi g7 23).rows,.i (gi g7 24).int,.l (gi g7 25).rows,.i (gi g7 26).int,.i (gi g7 27).int])) fun N g8=>let q:=(cY (tW [.l (gi g8 0).rows,.l (gi g8 1).rows,.l (gi g8 2).rows,.l (gi g8 3).rows,.l (gi g8 4).rows,.i (((gi g8 5).int.toNat:Nat):Int),.l (gi g8 6).rows,.i (((gi g8 7).int.toNat:Nat):Int),.l (gi g8 8).rows,.l (gi g8 9).rows,.i (gi g8 10).int,.i (gi g8 11).int])); let A:=(((ab (gi g8 0).rows.length (gi g8 0).rows.length)&&((ab (gi g8 1).rows.length (gi g8 1).rows.length)&&((ab (gi g8 2).rows.length (gi g8 2).rows.length)&&((ab (gi g8 3).rows.length (gi g8 3).rows.length)&&true))))&&true)&&true; (bif ab N 0 then (aY A q fun cg9 g9=>(bif ((((ab (gi g9 0).rows.length (gi g9 0).rows.length)&&((ab (gi g9 1).rows.length (gi g9 1).rows.length)&&((ab (gi g9 2).rows.length (gi g9 2).rows.length)&&((ab (gi g9 3).rows.length (gi g9 3).rows.length)&&true))))&&true)&&true) then some (none,[.l (gi g9 0).rows,.l (gi g9 1).rows,.l (gi g9 2).rows,.l (gi g9 3).rows,.l (gi g9 4).rows,.i (((gi g9 5).int.toNat:Nat):Int),.l (gi g9 6).rows,.i (((gi g9 7).int.toNat:Nat):Int),.l (gi g9 8).rows,.l (gi g9 9).rows,.i (gi g9 10).int,.i (gi g9 11).int]) else none)) else (aY A q fun O g10=>(bif ((((ab (gi g10 0).rows.length (gi g10 0).rows.length)&&((ab (gi g10 1).rows.length (gi g10 1).rows.length)&&((ab (gi g10 2).rows.length (gi g10 2).rows.length)&&((ab (gi g10 3).rows.length (gi g10 3).rows.length)&&true))))&&true)&&true) then some (none,[.l (gi g10 0).rows,.l (gi g10 1).rows,.l (gi g10 2).rows,.l (gi g10 3).rows,.l (gi g10 4).rows,.i (((gi g10 5).int.toNat:Nat):Int),.l (gi g10 6).rows,.i (((gi g10 7).int.toNat:Nat):Int),.l (gi g10 8).rows,.l (gi g10 9).rows,.i (gi g10 10).int,.i (gi g10 11).int]) else none))))) else (aY z2 (cY (xi [.l z4,.l (gi d 1).rows,.l (gi d 2).rows,.l (gi d 3).rows,.l (gi d 4).rows,.i k,.l (gi d 6).rows,.i z5,.s (gi g 0).str,.i (gi g 1).int,.i (gi g 2).int,.i (gi g 3).int,.i (gi g 4).int,.i (gi g 5).int,.s (gi g 6).str,.s (gi g 7).str,.i (gi g 8).int,.i (gi g 9).int,.s (gi g 10).str,.s (gi g 11).str,.s (gi g 12).str,.s (gi g 13).str,.i (gi g 14).int,.l (gi d 8).rows,.i z3.int,.l (gi d 9).rows,.i (gi d 10).int,.i (gi d 11).int,.t ((gi g 3).int==1)])) fun R g11=>(aY ((((ab (gi g11 0).rows.length (gi g11 0).rows.length)&&((ab (gi g11 1).rows.length (gi g11 1).rows.length)&&((ab (gi g11 2).rows.length (gi g11 2).rows.length)&&((ab (gi g11 3).rows.length (gi g11 3).rows.length)&&true))))&&true)&&true) (cY (tV [.l (gi g11 0).rows,.l (gi g11 1).rows,.l (gi g11 2).rows,.l (gi g11 3).rows,.l (gi g11 4).rows,.i (((gi g11 5).int.toNat:Nat):Int),.l (gi g11 6).rows,.i (((gi g11 7).int.toNat:Nat):Int),.s (gi g11 8).str,.i (gi g11 9).int,.i (gi g11 10).int,.i (gi g11 11).int,.i (gi g11 12).int,.i (gi g11 13).int,.s (gi g11 14).str,.s (gi g11 15).str,.i (gi g11 16).int,.i (gi g11 17).int,.s (gi g11 18).str,.s (gi g11 19).str,.s (gi g11 20).str,.s (gi g11 21).str,.i (gi g11 22).int,.l (gi g11 23).rows,.i (gi g11 24).int,.l (gi g11 25).rows,.i (gi g11 26).int,.i (gi g11 27).int])) fun J g12=>let z12:=(cY (tW [.l (gi g12 0).rows,.l (gi g12 1).rows,.l (gi g12 2).rows,.l (gi g12 3).rows,.l (gi g12 4).rows,.i (((gi g12 5).int.toNat:Nat):Int),.l (gi g12 6).rows,.i (((gi g12 7).int.toNat:Nat):Int),.l (gi g12 8).rows,.l (gi g12 9).rows,.i (gi g12 10).int,.i (gi g12 11).int])); let B:=(((ab (gi g12 0).rows.length (gi g12 0).rows.length)&&((ab (gi g12 1).rows.length (gi g12 1).rows.length)&&((ab (gi g12 2).rows.length (gi g12 2).rows.length)&&((ab (gi g12 3).rows.length (gi g12 3).rows.length)&&true))))&&true)&&true; (bif ab J 0 then (aY B z12 fun U g13=>(bif ((((ab (gi g13 0).rows.length (gi g13 0).rows.length)&&((ab (gi g13 1).rows.length (gi g13 1).rows.length)&&((ab (gi g13 2).rows.length (gi g13 2).rows.length)&&((ab (gi g13 3).rows.length (gi g13 3).rows.length)&&true))))&&true)&&true) then some (none,[.l (gi g13 0).rows,.l (gi g13 1).rows,.l (gi g13 2).rows,.l (gi g13 3).rows,.l (gi g13 4).rows,.i (((gi g13 5).int.toNat:Nat):Int),.l (gi g13 6).rows,.i (((gi g13 7).int.toNat:Nat):Int),.l (gi g13 8).rows,.l (gi g13 9).rows,.i (gi g13 10).int,.i (gi g13 11).int]) else none)) else (aY B z12 fun W g14=>(bif ((((ab (gi g14 0).rows.length (gi g14 0).rows.length)&&((ab (gi g14 1).rows.length (gi g14 1).rows.length)&&((ab (gi g14 2).rows.length (gi g14 2).rows.length)&&((ab (gi g14 3).rows.length (gi g14 3).rows.length)&&true))))&&true)&&true) then some (none,[.l (gi g14 0).rows,.l (gi g14 1).rows,.l (gi g14 2).rows,.l (gi g14 3).rows,.l (gi g14 4).rows,.i (((gi g14 5).int.toNat:Nat):Int),.l (gi g14 6).rows,.i (((gi g14 7).int.toNat:Nat):Int),.l (gi g14 8).rows,.l (gi g14 9).rows,.i (gi g14 10).int,.i (gi g14 11).int]) else none))))))) else none) else none) else none) else (bif (((F&&((ab (gi d 1).rows.length (gi d 1).rows.length)&&((ab (gi d 2).rows.length (gi d 2).rows.length)&&((ab (gi d 3).rows.length (gi d 3).rows.length)&&true))))&&true)&&true) then some (some 0,[.l (gi d 0).rows,.l (gi d 1).rows,.l (gi d 2).rows,.l (gi d 3).rows,.l (gi d 4).rows,.i k,.l (gi d 6).rows,.i z5]) else none))
def QK:bx:=⟨4,[],⟨143,[(0,.s (.list aq)),(6,.s (.ptr 0 0)),(7,.s (.map 6)),(21,.s (.list [.int .i64])),(22,.s (.int .i64)),(23,.s (.int .i64))],[.box [.vec 1 15,.vec 2 8,.vec 3 1,.vec 4 1,.map 5],.vec aq 0,.vec aQ 0,.vec [.str] 0,.vec [.int .i64] 0,.map (.agg [.str,.int .i64]) (.one (.bool)),.map (.agg aQ) (.agg aq)]⟩,[.slot 6,.cell 0 0,.cell 0 1,.cell 0 2,.cell 0 3,.cell 0 4,.slot 7],[⟨.exit 0,⟨143,[(6,.s (.ptr 0 0)),(7,.s (.map 6))],[.box [.vec 1 15,.vec 2 8,.vec 3 1,.vec 4 1,.map 5],.vec aq 0,.vec aQ 0,.vec [.str] 0,.vec [.int .i64] 0,.map (.agg [.str,.int .i64]) (.one (.bool)),.map (.agg aQ) (.agg aq)]⟩,[.slot 6,.cell 0 0,.cell 0 1,.cell 0 2,.cell 0 3,.cell 0 4,.slot 7]⟩],tX⟩
theorem adQ:cX P t75 G7 0 (c9 f42 4) QK:=fun d=>by kernel_rfl
def G8:LT:=G7.add 0 QK
theorem adR:ay P 0 G8 (aN f42):=ay.a hm ru adP adQ
def xj(d:List G):Option (Option Nat × List G) :=
 let g:=(⟨#[]⟩:ByteArray); let z2:=ab (gi d 1).rows.length (gi d 1).rows.length; let z3:=(ab (gi d 3).rows.length (gi d 3).rows.length)&&true; let z4:=ab (gi d 2).rows.length (gi d 2).rows.length; let z5:=ab (gi d 0).rows.length (gi d 0).rows.length; let q:=(((gi d 5).int.toNat:Nat):Int); let A:=0+((gi d 9).int).toNat; (bif (aB (gi d 9).int (gi d 8).int) then (bif ((bD (gi d 9).int)&&(aB (gi d 9).int (((gi d 1).rows.length:Nat):Int))) then (bif (decide (A<(gi d 1).rows.length)) then (ao (Bv [.l [(bh aQ ((gi d 1).rows.getD A []))]]) fun g17=>let k:=((gi d 2).rows++([[.s (gi (ch aQ (gi d 6).rows (bh aQ (gi g17 0).row) [.s g,.i 0,.i 0,.i 0,.i 0,.i 0,.s g,.s g,.i 0,.i 0,.s g,.s g,.s g,.s g,.i 0]) 0).str]]:List (List G))); (bif (z4&&(decide (((gi d 2).rows.length+1)≤1048576))) then (bif (az ((gi d 9).int+1)) then (bif (((z5&&(z2&&((ab k.length k.length)&&z3)))&&true)&&(z2&&true)) then some (none,[.l (gi d 0).rows,.l (gi d 1).rows,.l k,.l (gi d 3).rows,.l (gi d 4).rows,.i q,.l (gi d 6).rows,.i (((gi d 7).int.toNat:Nat):Int),.i (gi d 8).int,.i ((gi d 9).int+1)]) else none) else none) else none)) else none) else none) else (bif (((z5&&(z2&&(z4&&z3)))&&true)&&true) then some (some 0,[.l (gi d 0).rows,.l (gi d 1).rows,.l (gi d 2).rows,.l (gi d 3).rows,.l (gi d 4).rows,.i q]) else none))
def QL:bx:=⟨25,[],⟨143,[(6,.s (.ptr 0 0)),(7,.s (.map 6)),(121,.s (.vec 2 8)),(122,.s (.int .i64)),(123,.s (.int .i64))],[.box [.vec 1 15,.vec 2 8,.vec 3 1,.vec 4 1,.map 5],.vec aq 0,.vec aQ 0,.vec [.str] 0,.vec [.int .i64] 0,.map (.agg [.str,.int .i64]) (.one (.bool)),.map (.agg aQ) (.agg aq)]⟩,[.slot 6,.cell 0 0,.cell 0 1,.cell 0 2,.cell 0 3,.cell 0 4,.slot 7],[⟨.exit 3,⟨143,[(6,.s (.ptr 0 0))],[.box [.vec 1 15,.vec 2 8,.vec 3 1,.vec 4 1,.map 5],.vec aq 0,.vec aQ 0,.vec [.str] 0,.vec [.int .i64] 0,.map (.agg [.str,.int .i64]) (.one (.bool))]⟩,[.slot 6,.cell 0 0,.cell 0 1,.cell 0 2,.cell 0 3,.cell 0 4]⟩],xj⟩
theorem adS:cX P t75 G8 0 (c9 f42 25) QL:=fun d=>by kernel_rfl
def QM:LT:=G8.add 0 QL
theorem adT:ay P 0 QM (aN f42):=ay.a hm ru adR adS
def ry(d:List G):Option (List G) :=
 (ao (Bu [.l (gi d 0).rows,.i (gi d 1).int]) fun g1=>(aY true (cG tX [.l [],.l [],.l [],.l [],.l [],.i 0,.l [],.i 0,.l (gi d 0).rows,.l (gi g1 0).rows,.i (((gi g1 0).rows.length:Nat):Int),.i 0]) fun k g15=>let g:=Bw [.l (gi g15 1).rows]; let z2:=(((gi g15 1).rows.length:Nat):Int); (bif (aB 2000 z2) then none else (gI (((ab (gi g15 1).rows.length (gi g15 1).rows.length)&&true)&&g.isSome) g fun g16=>let z3:=ab (gi g15 1).rows.length (gi g16 0).rows.length; (aY ((((ab (gi g15 0).rows.length (gi g15 0).rows.length)&&(z3&&((ab (gi g15 2).rows.length (gi g15 2).rows.length)&&((ab (gi g15 3).rows.length (gi g15 3).rows.length)&&true))))&&true)&&(z3&&true)) (cG xj [.l (gi g15 0).rows,.l (gi g16 0).rows,.l (gi g15 2).rows,.l (gi g15 3).rows,.l (gi g15 4).rows,.i (((gi g15 5).int.toNat:Nat):Int),.l (gi g15 6).rows,.i (((gi g15 7).int.toNat:Nat):Int),.i z2,.i 0]) fun q g18=>(bif ((((ab (gi g18 0).rows.length (gi g18 0).rows.length)&&((ab (gi g18 1).rows.length (gi g18 1).rows.length)&&((ab (gi g18 2).rows.length (gi g18 2).rows.length)&&((ab (gi g18 3).rows.length (gi g18 3).rows.length)&&true))))&&true)&&true) then some [.l (gi g18 0).rows,.l (gi g18 1).rows,.l (gi g18 2).rows,.l (gi g18 3).rows,.l (gi g18 4).rows,.i (((gi g18 5).int.toNat:Nat):Int),.i 0] else none))))))
def G9:ax:=⟨42,[.s (.list aq),.s (.int .i64)],[],[],[.s (.ptr 0 0),.s (.int .i64)],[.box [.list aq,.list aQ,.list [.str],.list [.int .i64],.map 1],.map (.agg [.str,.int .i64]) (.one (.bool))],[.slot 0,.cell 0 4],[],ry⟩
theorem adU:aX P t75 QM f42 G9:=fun d=>by kernel_rfl
theorem adV:aU P G9:=ba hm ru func42 adT adU
def t76:ah:=t75.cJ G9
theorem adW:ai P t76:=ru.aW adV

def t77:ah:=t76.mA P 20 f20
theorem G_:ai P t77:=adW.mA hm func20 (by kernel_rfl) (by kernel_rfl)

def Bx(d:List G):Option (Option Nat × List G) :=
 let g:=gi ((gi d 8).rows.getD (((gi d 10).int).toNat) []) 4; let z2:=(gi (ch [.int .i64] (gi d 6).rows [.i g.int] [.i 0]) 0).int+1; let z3:=(((gi d 5).int.toNat:Nat):Int); let z4:=(gi d 10).int+1; let z5:=(((gi d 7).int.toNat:Nat):Int); (bif (aB (gi d 10).int (gi d 9).int) then (bif ((bD (gi d 10).int)&&(aB (gi d 10).int (((gi d 8).rows.length:Nat):Int))) then (bif (aB 0 g.int) then (bif (az z2) then (bif (az z4) then some (none,[.l (gi d 0).rows,.l (gi d 1).rows,.l (gi d 2).rows,.l (gi d 3).rows,.l (gi d 4).rows,.i z3,.l (cu [.int .i64] (gi d 6).rows [.i g.int] [.i z2] (gi d 7).int.toNat),.i (((dF [.int .i64] (gi d 6).rows [.i g.int] (gi d 7).int.toNat):Nat):Int),.l (gi d 8).rows,.i (gi d 9).int,.i z4]) else none) else none) else (bif (az z4) then some (none,[.l (gi d 0).rows,.l (gi d 1).rows,.l (gi d 2).rows,.l (gi d 3).rows,.l (gi d 4).rows,.i z3,.l (gi d 6).rows,.i z5,.l (gi d 8).rows,.i (gi d 9).int,.i z4]) else none)) else none) else some (some 0,[.l (gi d 0).rows,.l (gi d 1).rows,.l (gi d 2).rows,.l (gi d 3).rows,.l (gi d 4).rows,.i z3,.l (gi d 6).rows,.i z5]))
def QN:bx:=⟨3,[],⟨26,[(3,.s (.map 2)),(10,.s (.list aQ)),(11,.s (.int .i64)),(12,.s (.int .i64))],[.box [.list aq,.list aQ,.list [.str],.list [.int .i64],.map 1],.map (.agg [.str,.int .i64]) (.one (.bool)),.map (.one (.int .i64)) (.one (.int .i64))]⟩,[.fix 0,.cell 0 4,.slot 3],[⟨.exit 0,⟨26,[(3,.s (.map 2))],[.box [.list aq,.list aQ,.list [.str],.list [.int .i64],.map 1],.map (.agg [.str,.int .i64]) (.one (.bool)),.map (.one (.int .i64)) (.one (.int .i64))]⟩,[.fix 0,.cell 0 4,.slot 3]⟩],Bx⟩
theorem adX:cX P t77 au 2 (c9 f43 3) QN:=fun d=>by kernel_rfl
def QO:LT:=au.add 2 QN
theorem adY:ay P 2 QO (aN f43):=ay.a hm G_ (aG _ _ _) adX
def nO(d:List G):Option (List G) :=
 (aY true (cG Bx [.l (gi d 0).rows,.l (gi d 1).rows,.l (gi d 2).rows,.l (gi d 3).rows,.l (gi d 4).rows,.i (((gi d 5).int.toNat:Nat):Int),.l [],.i 0,.l (gi d 1).rows,.i (((gi d 1).rows.length:Nat):Int),.i 0]) fun g g1=>some [.l (gi g1 0).rows,.l (gi g1 1).rows,.l (gi g1 2).rows,.l (gi g1 3).rows,.l (gi g1 4).rows,.i (((gi g1 5).int.toNat:Nat):Int),.l (gi g1 6).rows,.i (((gi g1 7).int.toNat:Nat):Int)])
def xk:ax:=⟨43,[.s (.ptr 0 0)],[.box [.list aq,.list aQ,.list [.str],.list [.int .i64],.map 1],.map (.agg [.str,.int .i64]) (.one (.bool))],[.slot 0,.cell 0 4],[.s (.map 2)],[.box [.list aq,.list aQ,.list [.str],.list [.int .i64],.map 1],.map (.agg [.str,.int .i64]) (.one (.bool)),.map (.one (.int .i64)) (.one (.int .i64))],[.fix 0,.fix 1,.slot 0],[],nO⟩
theorem adZ:aX P t77 QO f43 xk:=fun d=>by kernel_rfl
theorem ad0:aU P xk:=ba hm G_ func43 adY adZ
def t78:ah:=t77.cJ xk
theorem QP:ai P t78:=G_.aW ad0

def rz(r d:List G):Option (List G) :=
 let g:=(gi (ch [.int .i64] (gi d 6).rows [.i (gi (gi r 0).row 1).int] [.i 0]) 0).int+1; (bif (az g) then some [.l (gi d 0).rows,.l (gi d 1).rows,.l (gi d 2).rows,.l (gi d 3).rows,.l (gi d 4).rows,.i (((gi d 5).int.toNat:Nat):Int),.l (cu [.int .i64] (gi d 6).rows [.i (gi (gi r 0).row 1).int] [.i g] (gi d 7).int.toNat),.i (((dF [.int .i64] (gi d 6).rows [.i (gi (gi r 0).row 1).int] (gi d 7).int.toNat):Nat):Int),.i (((gi d 8).int.toNat:Nat):Int)] else none)
def ad1(d:List G)(b:Nat):List G:=[.l (gi d 0).rows,.l (gi d 1).rows,.l (gi d 2).rows,.l (gi d 3).rows,.l (gi d 4).rows,.i (((gi d 5).int.toNat:Nat):Int),.l (gi d 6).rows,.i (((gi d 7).int.toNat:Nat):Int),.i (b:Int)]
def ad2(d:List G)(b:Nat):Bool:=true
def rA:eB:=⟨⟨21,[(3,.s (.map 2)),(10,.s (.addr))],[.box [.list aq,.list aQ,.list [.str],.list [.int .i64],.map 1],.map (.agg [.str,.int .i64]) (.one (.bool)),.map (.one (.int .i64)) (.one (.int .i64))]⟩,[.fix 0,.cell 0 4,.slot 3],[],(.agg [.str,.int .i64]),(.one (.bool)),1,0,9,10,11,12,13,fun d=>(gi d 8).int.toNat,ad1,ad2,rz⟩
theorem ad3:lE P t78 au 2 rA (pA (cutAt f44 2)) (qU (cutAt f44 2)):=fun r d=>by kernel_rfl
theorem ad4:∀ r d d',rz r d=some d'→(gi d' 4).rows=(gi d 4).rows∧(gi d' 5).int.toNat=(gi d 5).int.toNat:=by
 intro r d d' h;unfold rz at h;simp only[Bool.cond_eq_ite]at h
 repeat' split at h
 all_goals first|(cases h; done)|(cases h; exact⟨rfl,rfl⟩)
def nP(d:List G):Option (List G):=some [.l (gi d 0).rows,.l (gi d 1).rows,.l (gi d 2).rows,.l (gi d 3).rows,.l (gi d 4).rows,.i (((gi d 5).int.toNat:Nat):Int),.l (gi d 6).rows,.i (((gi d 7).int.toNat:Nat):Int)]
def jS(d:List G):List G:=[.l (gi d 0).rows,.l (gi d 1).rows,.l (gi d 2).rows,.l (gi d 3).rows,.l (gi d 4).rows,.i (((gi d 5).int.toNat:Nat):Int),.l [],.i 0]
def mN:ax:=⟨44,[.s (.ptr 0 0)],[.box [.list aq,.list aQ,.list [.str],.list [.int .i64],.map 1],.map (.agg [.str,.int .i64]) (.one (.bool))],[.slot 0,.cell 0 4],[.s (.map 2)],[.box [.list aq,.list aQ,.list [.str],.list [.int .i64],.map 1],.map (.agg [.str,.int .i64]) (.one (.bool)),.map (.one (.int .i64)) (.one (.int .i64))],[.fix 0,.fix 1,.slot 0],[],fun _=>none⟩
theorem QQ:∀ d,eC ((gi (jS d) 4).rows) ((gi (jS d) 5).int.toNat)=true→(∀ b p,p.Perm ((gi (jS d) 4).rows)→(mD rA nP (jS d) b p).isSome=true)→gp P mN d (AW rA nP ((gi (jS d) 4).rows) (jS d)) id:=fun d aL g=>XI (rs:=rA) (sp:=mN) hm QP func44 (by kernel_rfl) (ra:=tC f44) (rb:=ME f44) (rest:=nC (cutAt f44 2)) (rbody:=qU (cutAt f44 2)) (r0:=2) (b0:=0) (r1:=3) (b1:=1) (r2:=4) (ops0:=nD (cutAt f44 2)) (ops1:=EU (cutAt f44 2)) (ops2:=pA (cutAt f44 2)) (by kernel_rfl) (inv:=⟨21,[(0,.s (.ptr 0 0)),(3,.s (.map 2))],[.box [.list aq,.list aQ,.list [.str],.list [.int .i64],.map 1],.map (.agg [.str,.int .i64]) (.one (.bool)),.map (.one (.int .i64)) (.one (.int .i64))]⟩) (ps:=[.fix 0,.cell 0 4,.slot 3]) (ini:=jS) (ri:=fun d=>(gi d 4).rows) (rows:=fun d=>(gi d 4).rows) (ci:=fun d=>(gi d 5).int.toNat) (clock:=fun d=>(gi d 5).int.toNat) (fun d=>by kernel_rfl) (fun d=>by kernel_rfl) ad4 (by kernel_rfl) (by kernel_rfl) ad3 (fun d=>by kernel_rfl) (fun d=>by kernel_rfl) (fun d=>by kernel_rfl) (pre:=fun d=>Aw P t78 (nD (cutAt f44 2)) (aM ⟨21,[(0,.s (.ptr 0 0)),(3,.s (.map 2))],[.box [.list aq,.list aQ,.list [.str],.list [.int .i64],.map 1],.map (.agg [.str,.int .i64]) (.one (.bool)),.map (.one (.int .i64)) (.one (.int .i64))]⟩ d)) (fun d=>by kernel_rfl) (fun d=>by kernel_rfl) (fun d=>by kernel_rfl) (fun d b=>by kernel_rfl) (fun d b=>rfl) (fun d b=>⟨rfl,rfl⟩) (tl:=nP) (fun d=>by kernel_rfl) aL g
def t79:ah:=t78
theorem By:ai P t79:=QP

end
end Go.Proofs.gq
