/-
 What is proved here: functions of the program as functions on data. No condition.
-/
import Derived.Test.YtppdbdblllpimaaGreatDoorML3
set_option linter.all false
open Bool renaming cond_eq_ite→KG
open Nat renaming beq→ab
namespace Go.Proofs.gT
open Go Go.AL Go.Proofs Tryz
noncomputable section
def sn(d:List G):Option (List G) :=
 (ar (yt [.l [[.i (gi (gi d 0).row 4).int,.i (gi (gi d 0).row 5).int,.s (gi (gi d 0).row 6).str,.s (gi (gi d 0).row 7).str,.i (gi (gi d 0).row 8).int,.i (gi (gi d 0).row 9).int,.s (gi (gi d 0).row 10).str,.s (gi (gi d 0).row 11).str]],.l [[.i (gi (gi d 1).row 4).int,.i (gi (gi d 1).row 5).int,.s (gi (gi d 1).row 6).str,.s (gi (gi d 1).row 7).str,.i (gi (gi d 1).row 8).int,.i (gi (gi d 1).row 9).int,.s (gi (gi d 1).row 10).str,.s (gi (gi d 1).row 11).str]]]) fun g1=>some [.i (gi g1 0).int])
def IU:aA:=⟨75,[.s (.row ak),.s (.row ak)],[],[],[.s (.int .i64)],[],[],[],sn⟩
theorem afu:bf P t85 az f75 IU:=fun d=>by kernel_rfl
theorem RY:aZ P IU:=bt hm RX func75 (aK _ _ _) afu
def t86:ah:=t85.bz IU
theorem afv:aj P t86:=RX.aP RY

def CI(d:List G):Option (List G) :=
 oE sn d
def yv:aA:=⟨74,[.s (.vec 0 15),.s (.fn 75)],[.vec ak 0],[.slot 0],[],[.vec ak 0],[.fix 0],[],CI⟩
theorem afw:∀ d r,CI d=some r→cz P 74 (yv.args0 d) (ai (yv.H0 d)) (yv.out r) (ai (yv.H1 r)):=fun d r h=>Bw Tryz.ZN ak (by kernel_rfl) Tryz.isAgg51 Tryz.sizeOf51 75 (by kernel_rfl) sn (fun d r h=>RY d r h) d r h
def t87:ah:=t86.cP yv
theorem IV:aj P t87:=afv.aW afw

def yw(d:List G):Option (Option Nat × List G) :=
 let k:=gi ((gi d 3).rows.getD (((gi d 5).int).toNat) []) 0; let z2:=aR ak ((gi d 2).rows.getD ((k.int).toNat) []); let z3:=ab (gi d 0).rows.length (gi d 0).rows.length; let z4:=ab (gi d 1).rows.length (gi d 1).rows.length; let z5:=((gi d 1).rows++([[.i k.int]]:List (List G))); let q:=((gi d 0).rows++([z2]:List (List G))); let g:=(gi d 5).int+1; let A:=CH [.l (gi d 0).rows,.l [z2]]; (bif (aB (gi d 5).int (gi d 4).int) then (bif ((a_ (gi d 5).int)&&(aB (gi d 5).int (((gi d 3).rows.length:Nat):Int))) then (bif ((a_ k.int)&&(aB k.int (((gi d 2).rows.length:Nat):Int))) then (bif ((gi ((gi d 2).rows.getD ((k.int).toNat) []) 3).int != 1) then (bif (aw g) then (bif (z3&&(z4&&true)) then some (none,[.l (gi d 0).rows,.l (gi d 1).rows,.l (gi d 2).rows,.l (gi d 3).rows,.i (gi d 4).int,.i g]) else none) else none) else (fS ((z3&&true)&&A.isSome) A fun g2=>(bif (gi g2 0).bool then (bif (z4&&(decide (((gi d 1).rows.length+1)≤1048576))) then (bif (aw g) then (bif (z3&&((ab z5.length z5.length)&&true)) then some (none,[.l (gi d 0).rows,.l z5,.l (gi d 2).rows,.l (gi d 3).rows,.i (gi d 4).int,.i g]) else none) else none) else none) else (bif (z3&&(decide (((gi d 0).rows.length+1)≤1048576))) then (bif (aw g) then (bif ((ab q.length q.length)&&(z4&&true)) then some (none,[.l q,.l (gi d 1).rows,.l (gi d 2).rows,.l (gi d 3).rows,.i (gi d 4).int,.i g]) else none) else none) else none)))) else none) else none) else (bif (z3&&(z4&&true)) then some (some 0,[.l (gi d 0).rows,.l (gi d 1).rows]) else none))
def RZ:bq:=⟨4,[(7,[.int .i64]),(6,ak)],⟨44,[(0,.s (.list ak)),(6,.s (.vec 0 15)),(7,.s (.vec 1 1)),(13,.s (.list [.int .i64])),(14,.s (.int .i64)),(15,.s (.int .i64))],[.vec ak 0,.vec [.int .i64] 0]⟩,[.slot 6,.slot 7],[⟨.exit 0,⟨44,[(6,.s (.vec 0 15)),(7,.s (.vec 1 1))],[.vec ak 0,.vec [.int .i64] 0]⟩,[.slot 6,.slot 7]⟩],yw⟩
theorem afx:cW P (t87.i_ [31]) az 0 (cX f38 4) RZ:=fun d=>by kernel_rfl
def R2:LT:=az.add 0 RZ
theorem afy:ax P 0 R2 (aN f38):=ax.add hm (IV.i_ [31]) (by kernel_rfl) (aK _ _ _) afx
def vg(d:List G):Option (List G) :=
 (ar (yr [.l (gi d 0).rows,.i (gi d 1).int]) fun g1=>(a7 true (cd yw [.l [],.l [],.l (gi d 0).rows,.l (gi g1 0).rows,.i (((gi g1 0).rows.length:Nat):Int),.i 0]) fun k g3=>let g:=CI [.l (gi g3 0).rows]; (fS (((ab (gi g3 0).rows.length (gi g3 0).rows.length)&&true)&&g.isSome) g fun g4=>(bif ((ab (gi g3 0).rows.length (gi g4 0).rows.length)&&((ab (gi g3 1).rows.length (gi g3 1).rows.length)&&true)) then some [.l (gi g4 0).rows,.l (gi g3 1).rows] else none))))
def IW:aA:=⟨38,[.s (.list ak),.s (.int .i64)],[],[],[.s (.list ak),.s (.list [.int .i64])],[],[],[],vg⟩
theorem afz:bf P (t87.i_ [31]) R2 f38 IW:=fun d=>by kernel_rfl
theorem afA:aZ P IW:=xh hm (IV.i_ [31]) func38 (by kernel_rfl) afy afz (by kernel_rfl)
def t88:ah:=t87.bz IW
theorem IX:aj P t88:=IV.aP afA

def CJ(d:List G):Option (Option Nat × List G) :=
 let g:=((gi d 0).rows++([[.i (gi ((gi d 2).rows.getD (((gi d 4).int).toNat) []) 4).int,.i (gi ((gi d 2).rows.getD (((gi d 4).int).toNat) []) 5).int,.s (gi ((gi d 2).rows.getD (((gi d 4).int).toNat) []) 6).str,.s (gi ((gi d 2).rows.getD (((gi d 4).int).toNat) []) 7).str,.i (gi ((gi d 2).rows.getD (((gi d 4).int).toNat) []) 8).int,.i (gi ((gi d 2).rows.getD (((gi d 4).int).toNat) []) 9).int,.s (gi ((gi d 2).rows.getD (((gi d 4).int).toNat) []) 10).str,.s (gi ((gi d 2).rows.getD (((gi d 4).int).toNat) []) 11).str]]:List (List G))); let z2:=ab (gi d 0).rows.length (gi d 0).rows.length; (bif (aB (gi d 4).int (gi d 3).int) then (bif ((a_ (gi d 4).int)&&(aB (gi d 4).int (((gi d 2).rows.length:Nat):Int))) then (bif (z2&&(decide (((gi d 0).rows.length+1)≤1048576))) then (bif (aw ((gi d 4).int+1)) then (bif ((ab g.length g.length)&&true) then some (none,[.l g,.l (gi d 1).rows,.l (gi d 2).rows,.i (gi d 3).int,.i ((gi d 4).int+1)]) else none) else none) else none) else none) else (bif (z2&&true) then some (some 0,[.l (gi d 0).rows,.l (gi d 1).rows]) else none))
def R3:bq:=⟨4,[(8,aY)],⟨31,[(7,.s (.list [.int .i64])),(8,.s (.vec 0 8)),(17,.s (.list ak)),(18,.s (.int .i64)),(19,.s (.int .i64))],[.vec aY 0]⟩,[.slot 8],[⟨.exit 0,⟨31,[(7,.s (.list [.int .i64])),(8,.s (.vec 0 8))],[.vec aY 0]⟩,[.slot 8]⟩],CJ⟩
theorem afB:cW P t88 az 0 (cX f35 4) R3:=fun d=>by kernel_rfl
def R4:LT:=az.add 0 R3
theorem afC:ax P 0 R4 (aN f35):=ax.a hm IX (aK _ _ _) afB
def yx(d:List G):Option (List G) :=
 (ar (vg [.l (gi d 0).rows,.i (gi d 1).int]) fun g1=>(a7 true (cd CJ [.l [],.l (gi g1 1).rows,.l (gi g1 0).rows,.i (((gi g1 0).rows.length:Nat):Int),.i 0]) fun g g2=>(bif ((ab (gi g2 0).rows.length (gi g2 0).rows.length)&&true) then some [.l (gi g2 0).rows,.l (gi g2 1).rows] else none)))
def IY:aA:=⟨35,[.s (.list ak),.s (.int .i64)],[],[],[.s (.list aY),.s (.list [.int .i64])],[],[],[],yx⟩
theorem afD:bf P t88 R4 f35 IY:=fun d=>by kernel_rfl
theorem afE:aZ P IY:=bt hm IX func35 afC afD
def t89:ah:=t88.bz IY
theorem IZ:aj P t89:=IX.aP afE

def CK(d:List G):Option (Option Nat × List G) :=
 let z2:=gi ((gi d 2).rows.getD (((gi d 4).int).toNat) []) 0; let g:=((gi d 0).rows++([(aR ak ((gi d 1).rows.getD ((z2.int).toNat) []))]:List (List G))); let z3:=ab (gi d 0).rows.length (gi d 0).rows.length; (bif (aB (gi d 4).int (gi d 3).int) then (bif ((a_ (gi d 4).int)&&(aB (gi d 4).int (((gi d 2).rows.length:Nat):Int))) then (bif ((a_ z2.int)&&(aB z2.int (((gi d 1).rows.length:Nat):Int))) then (bif (z3&&(decide (((gi d 0).rows.length+1)≤1048576))) then (bif (aw ((gi d 4).int+1)) then (bif ((ab g.length g.length)&&true) then some (none,[.l g,.l (gi d 1).rows,.l (gi d 2).rows,.i (gi d 3).int,.i ((gi d 4).int+1)]) else none) else none) else none) else none) else none) else (bif (z3&&true) then some (some 0,[.l (gi d 0).rows]) else none))
def R5:bq:=⟨3,[(5,ak)],⟨25,[(0,.s (.list ak)),(5,.s (.vec 0 15)),(10,.s (.list [.int .i64])),(11,.s (.int .i64)),(12,.s (.int .i64))],[.vec ak 0]⟩,[.slot 5],[⟨.exit 0,⟨25,[(5,.s (.vec 0 15))],[.vec ak 0]⟩,[.slot 5]⟩],CK⟩
theorem afF:cW P t89 az 0 (cX f65 3) R5:=fun d=>by kernel_rfl
def R6:LT:=az.add 0 R5
theorem afG:ax P 0 R6 (aN f65):=ax.a hm IZ (aK _ _ _) afF
def CL(d:List G):Option (List G) :=
 (ar (yr [.l (gi d 0).rows,.i (gi d 1).int]) fun g1=>(a7 true (cd CK [.l [],.l (gi d 0).rows,.l (gi g1 0).rows,.i (((gi g1 0).rows.length:Nat):Int),.i 0]) fun g g2=>(bif ((ab (gi g2 0).rows.length (gi g2 0).rows.length)&&true) then some [.l (gi g2 0).rows] else none)))
def I0:aA:=⟨65,[.s (.list ak),.s (.int .i64)],[],[],[.s (.list ak)],[],[],[],CL⟩
theorem afH:bf P t89 R6 f65 I0:=fun d=>by kernel_rfl
theorem afI:aZ P I0:=bt hm IZ func65 afG afH
def t90:ah:=t89.bz I0
theorem R7:aj P t90:=IZ.aP afI

def CM(d:List G):Option (List G) :=
 let g:=(gi (gi d 0).row 8).int==(gi (gi d 2).row 1).int; (bif ((gi (gi d 0).row 0).str.toList==(gi (gi d 1).row 0).str.toList) then (bif ((gi (gi d 0).row 3).int==4) then some [.t g] else (bif ((gi (gi d 0).row 3).int==1) then some [.t g] else some [.t false])) else some [.t false])
def I1:aA:=⟨66,[.s (.row ak),.s (.cptr ak),.s (.cptr [.str,.int .i64])],[],[],[.s (.bool)],[],[],[],CM⟩
theorem afJ:bf P t90 az f66 I1:=fun d=>by kernel_rfl
theorem afK:aZ P I1:=bt hm R7 func66 (aK _ _ _) afJ
def t91:ah:=t90.bz I1
theorem I2:aj P t91:=R7.aP afK

def vh(d:List G):Option (Option Nat × List G) :=
 let g:=aR [.str,.int .i64] (gi d 2).row; let z2:=aR ak (gi d 1).row; (bif (aB (gi d 4).int (gi d 3).int) then (bif ((a_ (gi d 4).int)&&(aB (gi d 4).int (((gi d 0).rows.length:Nat):Int))) then (ar (CM [.l [(aR ak ((gi d 0).rows.getD (((gi d 4).int).toNat) []))],.l [z2],.l [g]]) fun g1=>(bif (gi g1 0).bool then some (some 0,[.i (gi d 4).int]) else (bif (aw ((gi d 4).int+1)) then some (none,[.l (gi d 0).rows,.l [z2],.l [g],.i (gi d 3).int,.i ((gi d 4).int+1)]) else none))) else none) else some (some 1,[]))
def R8:bq:=⟨2,[],⟨19,[(0,.s (.list ak)),(1,.clo 66 [.cptr ak,.cptr [.str,.int .i64]]),(7,.s (.int .i64)),(8,.s (.int .i64))],[]⟩,[],[⟨.ret,⟨19,[(4,.s (.int .i64))],[]⟩,[]⟩,⟨.exit 0,⟨19,[],[]⟩,[]⟩],vh⟩
theorem afL:cW P t91 az 0 (cX f64 2) R8:=fun d=>by kernel_rfl
def R9:LT:=az.add 0 R8
theorem afM:ax P 0 R9 (aN f64):=ax.a hm I2 (aK _ _ _) afL
def I3(d:List G):Option (List G) :=
 (a7 true (cd vh [.l (gi d 0).rows,.l [(aR ak (gi d 1).row)],.l [(aR [.str,.int .i64] (gi d 2).row)],.i (((gi d 0).rows.length:Nat):Int),.i 0]) fun g g2=>(bif ab g 0 then some [.i (gi g2 0).int] else some [.i (-1)]))
def I4:aA:=⟨64,[.s (.list ak),.clo 66 [.cptr ak,.cptr [.str,.int .i64]]],[],[],[.s (.int .i64)],[],[],[],I3⟩
theorem afN:bf P t91 R9 f64 I4:=fun d=>by kernel_rfl
theorem afO:aZ P I4:=bt hm I2 func64 afM afN
def t92:ah:=t91.bz I4
theorem R_:aj P t92:=I2.aP afO

def CN(d:List G):Option (List G) :=
 (ar (I3 [.l (gi d 0).rows,.l [(aR ak (gi d 1).row)],.l [(aR [.str,.int .i64] (gi d 2).row)]]) fun g1=>some [.t (bM 0 (gi g1 0).int)])
def I5:aA:=⟨31,[.s (.list ak),.clo 66 [.cptr ak,.cptr [.str,.int .i64]]],[],[],[.s (.bool)],[],[],[],CN⟩
theorem afP:bf P t92 az f31 I5:=fun d=>by kernel_rfl
theorem afQ:aZ P I5:=bt hm R_ func31 (aK _ _ _) afP
def t93:ah:=t92.bz I5
theorem I6:aj P t93:=R_.aP afQ

def vj(d:List G):Option (Option Nat × List G) :=
 (bif (aB (gi d 4).int (gi d 3).int) then (bif ((a_ (gi d 4).int)&&(aB (gi d 4).int (((gi d 2).rows.length:Nat):Int))) then (bif (aq [.str,.int .i64] (aR [.str,.int .i64] d) (aR [.str,.int .i64] ((gi d 2).rows.getD (((gi d 4).int).toNat) []))) then some (some 0,[.i (gi d 4).int]) else (bif (aw ((gi d 4).int+1)) then some (none,[.s (gi d 0).str,.i (gi d 1).int,.l (gi d 2).rows,.i (gi d 3).int,.i ((gi d 4).int+1)]) else none)) else none) else some (some 1,[]))
def R':bq:=⟨2,[],⟨19,[(0,.s (.list [.str,.int .i64])),(3,.s (.ptr 0 0)),(7,.s (.int .i64)),(8,.s (.int .i64))],[.box [.str,.int .i64]]⟩,[.slot 3],[⟨.ret,⟨19,[(4,.s (.int .i64))],[]⟩,[]⟩,⟨.exit 0,⟨19,[],[]⟩,[]⟩],vj⟩
theorem afR:cW P t93 az 0 (cX f102 2) R':=fun d=>by kernel_rfl
def Sa:LT:=az.add 0 R'
theorem afS:ax P 0 Sa (aN f102):=ax.a hm I6 (aK _ _ _) afR
def I7(d:List G):Option (List G) :=
 (a7 true (cd vj [.s (gi (gi d 1).row 0).str,.i (gi (gi d 1).row 1).int,.l (gi d 0).rows,.i (((gi d 0).rows.length:Nat):Int),.i 0]) fun g g1=>(bif ab g 0 then some [.i (gi g1 0).int] else some [.i (-1)]))
def I8:aA:=⟨102,[.s (.list [.str,.int .i64]),.s (.row [.str,.int .i64])],[],[],[.s (.int .i64)],[],[],[],I7⟩
theorem afT:bf P t93 Sa f102 I8:=fun d=>by kernel_rfl
theorem afU:aZ P I8:=bt hm I6 func102 afS afT
def t94:ah:=t93.bz I8
theorem Sb:aj P t94:=I6.aP afU

def yy(d:List G):Option (List G) :=
 (ar (I7 [.l (gi d 0).rows,.l [(aR [.str,.int .i64] (gi d 1).row)]]) fun g1=>some [.t (bM 0 (gi g1 0).int)])
def I9:aA:=⟨67,[.s (.list [.str,.int .i64]),.s (.row [.str,.int .i64])],[],[],[.s (.bool)],[],[],[],yy⟩
theorem afV:bf P t94 az f67 I9:=fun d=>by kernel_rfl
theorem afW:aZ P I9:=bt hm Sb func67 (aK _ _ _) afV
def t95:ah:=t94.bz I9
theorem Sc:aj P t95:=Sb.aP afW

def sq(d:List G):Option (List G) :=
 let g:=(gi (gi d 0).row 1).int-(gi (gi d 1).row 1).int; (bif (!((gi (gi d 0).row 0).str.toList==(gi (gi d 1).row 0).str.toList)) then (ar (ir [.s (gi (gi d 0).row 0).str,.s (gi (gi d 1).row 0).str]) fun g1=>some [.i (gi g1 0).int]) else (bif (aw g) then (ar (nC [.i g]) fun g2=>some [.i (gi g2 0).int]) else none))
def I_:aA:=⟨69,[.s (.row [.str,.int .i64]),.s (.row [.str,.int .i64])],[],[],[.s (.int .i64)],[],[],[],sq⟩
theorem afX:bf P t95 az f69 I_:=fun d=>by kernel_rfl
theorem Sd:aZ P I_:=bt hm Sc func69 (aK _ _ _) afX
def t96:ah:=t95.bz I_
theorem afY:aj P t96:=Sc.aP Sd

def CO(d:List G):Option (List G) :=
 oE sq d
def yz:aA:=⟨68,[.s (.vec 0 2),.s (.fn 69)],[.vec [.str,.int .i64] 0],[.slot 0],[],[.vec [.str,.int .i64] 0],[.fix 0],[],CO⟩
theorem afZ:∀ d r,CO d=some r→cz P 68 (yz.args0 d) (ai (yz.H0 d)) (yz.out r) (ai (yz.H1 r)):=fun d r h=>Bw Tryz.ZL [.str,.int .i64] (by kernel_rfl) Tryz.isAgg74 Tryz.sizeOf74 69 (by kernel_rfl) sq (fun d r h=>Sd d r h) d r h
def t97:ah:=t96.cP yz
theorem I':aj P t97:=afY.aW afZ

def CP(d:List G):Option (Option Nat × List G) :=
 let g:=(gi d 2).rows.getD (((gi d 4).int).toNat) []; let z2:=ab (gi d 0).rows.length (gi d 0).rows.length; let z3:=(gi d 4).int+1; let z4:=((gi d 0).rows++([[.s (gi g 0).str,.i (gi g 8).int]]:List (List G))); let z5:=yy [.l (gi d 0).rows,.l [[.s (gi g 0).str,.i (gi g 8).int]]]; let k:=z2&&true; (bif (aB (gi d 4).int (gi d 3).int) then (bif ((a_ (gi d 4).int)&&(aB (gi d 4).int (((gi d 2).rows.length:Nat):Int))) then (bif (aw z3) then (bif ((a_ z3)&&(bM z3 (((gi d 1).rows.length:Nat):Int))) then (ar (CN [.l ((gi d 1).rows.drop (z3.toNat)),.l [(aR ak g)],.l [[.s (gi g 0).str,.i (gi g 8).int]]]) fun g2=>(bif ((gi g 3).int==3) then (bif (!(gi g2 0).bool) then (fS (k&&z5.isSome) z5 fun g3=>(bif (!(gi g3 0).bool) then (bif (z2&&(decide (((gi d 0).rows.length+1)≤1048576))) then (bif (aw z3) then (bif ((ab z4.length z4.length)&&true) then some (none,[.l z4,.l (gi d 1).rows,.l (gi d 2).rows,.i (gi d 3).int,.i z3]) else none) else none) else none) else (bif (aw z3) then (bif k then some (none,[.l (gi d 0).rows,.l (gi d 1).rows,.l (gi d 2).rows,.i (gi d 3).int,.i z3]) else none) else none))) else (bif (aw z3) then (bif k then some (none,[.l (gi d 0).rows,.l (gi d 1).rows,.l (gi d 2).rows,.i (gi d 3).int,.i z3]) else none) else none)) else (bif (aw z3) then (bif k then some (none,[.l (gi d 0).rows,.l (gi d 1).rows,.l (gi d 2).rows,.i (gi d 3).int,.i z3]) else none) else none))) else none) else none) else none) else (bif k then some (some 0,[.l (gi d 0).rows]) else none))
def Se:bq:=⟨4,[(6,[.str,.int .i64])],⟨54,[(5,.s (.list ak)),(6,.s (.vec 0 2)),(14,.s (.list ak)),(15,.s (.int .i64)),(16,.s (.int .i64))],[.vec [.str,.int .i64] 0]⟩,[.slot 6],[⟨.exit 0,⟨54,[(6,.s (.vec 0 2))],[.vec [.str,.int .i64] 0]⟩,[.slot 6]⟩],CP⟩
theorem af0:cW P (t97.i_ [31,67]) az 0 (cX f36 4) Se:=fun d=>by kernel_rfl
def Sf:LT:=az.add 0 Se
theorem af1:ax P 0 Sf (aN f36):=ax.add hm (I'.i_ [31,67]) (by kernel_rfl) (aK _ _ _) af0
def vk(d:List G):Option (List G) :=
 (ar (CL [.l (gi d 0).rows,.i (gi d 1).int]) fun g1=>(a7 true (cd CP [.l [],.l (gi g1 0).rows,.l (gi g1 0).rows,.i (((gi g1 0).rows.length:Nat):Int),.i 0]) fun k g4=>let g:=CO [.l (gi g4 0).rows]; (fS (((ab (gi g4 0).rows.length (gi g4 0).rows.length)&&true)&&g.isSome) g fun g5=>(bif ((ab (gi g4 0).rows.length (gi g5 0).rows.length)&&true) then some [.l (gi g5 0).rows] else none))))
def Ja:aA:=⟨36,[.s (.list ak),.s (.int .i64)],[],[],[.s (.list [.str,.int .i64])],[],[],[],vk⟩
theorem af2:bf P (t97.i_ [31,67]) Sf f36 Ja:=fun d=>by kernel_rfl
theorem af3:aZ P Ja:=xh hm (I'.i_ [31,67]) func36 (by kernel_rfl) af1 af2 (by kernel_rfl)
def t98:ah:=t97.bz Ja
theorem yA:aj P t98:=I'.aP af3

def CQ(d:List G):Option (Option Nat × List G) :=
 let g:=gi ((gi d 4).rows.getD (((gi d 6).int).toNat) []) 4; (bif (aB (gi d 6).int (gi d 5).int) then (bif ((a_ (gi d 6).int)&&(aB (gi d 6).int (((gi d 4).rows.length:Nat):Int))) then (bif (aw ((gi d 6).int+1)) then some (none,[.l (bK [.int .i64] (gi d 0).rows [.i g.int] [.t true] (gi d 1).int.toNat),.i (((cU [.int .i64] (gi d 0).rows [.i g.int] (gi d 1).int.toNat):Nat):Int),.l (gi d 2).rows,.i (gi d 3).int,.l (gi d 4).rows,.i (gi d 5).int,.i ((gi d 6).int+1)]) else none) else none) else some (some 0,[.l (gi d 0).rows,.i (((gi d 1).int.toNat:Nat):Int),.l (gi d 2).rows,.i (gi d 3).int]))
def Sg:bq:=⟨4,[],⟨52,[(0,.s (.list ak)),(1,.s (.int .i64)),(6,.s (.map 0)),(21,.s (.list aY)),(22,.s (.int .i64)),(23,.s (.int .i64))],[.map (.one (.int .i64)) (.one (.bool))]⟩,[.slot 6],[⟨.exit 0,⟨52,[(0,.s (.list ak)),(1,.s (.int .i64)),(6,.s (.map 0))],[.map (.one (.int .i64)) (.one (.bool))]⟩,[.slot 6]⟩],CQ⟩
theorem af4:cW P t98 az 0 (cX f13 4) Sg:=fun d=>by kernel_rfl
def Jb:LT:=az.add 0 Sg
theorem af5:ax P 0 Jb (aN f13):=ax.a hm yA (aK _ _ _) af4
def CR(d:List G):Option (Option Nat × List G) :=
 let g:=gi ((gi d 2).rows.getD (((gi d 4).int).toNat) []) 1; (bif (aB (gi d 4).int (gi d 3).int) then (bif ((a_ (gi d 4).int)&&(aB (gi d 4).int (((gi d 2).rows.length:Nat):Int))) then (bif (aw ((gi d 4).int+1)) then some (none,[.l (bK [.int .i64] (gi d 0).rows [.i g.int] [.t true] (gi d 1).int.toNat),.i (((cU [.int .i64] (gi d 0).rows [.i g.int] (gi d 1).int.toNat):Nat):Int),.l (gi d 2).rows,.i (gi d 3).int,.i ((gi d 4).int+1)]) else none) else none) else some (some 0,[.l (gi d 0).rows,.i (((gi d 1).int.toNat:Nat):Int)]))
def Si:bq:=⟨9,[],⟨52,[(6,.s (.map 0)),(33,.s (.list [.str,.int .i64])),(34,.s (.int .i64)),(35,.s (.int .i64))],[.map (.one (.int .i64)) (.one (.bool))]⟩,[.slot 6],[⟨.exit 2,⟨52,[(6,.s (.map 0))],[.map (.one (.int .i64)) (.one (.bool))]⟩,[.slot 6]⟩],CR⟩
theorem af6:cW P t98 Jb 0 (cX f13 9) Si:=fun d=>by kernel_rfl
def Jc:LT:=Jb.add 0 Si
theorem af7:ax P 0 Jc (aN f13):=ax.a hm yA af5 af6
def vl(d:List G):Option (Option Nat × List G) :=
 (bif (bM (gi d 2).int 99999) then (bif (!(gi (bZ [.int .i64] (gi d 0).rows [.i (gi d 2).int] [.t false]) 0).bool) then some (some 0,[.i (gi d 2).int,.i 0]) else (bif (aw ((gi d 2).int+1)) then some (none,[.l (gi d 0).rows,.i (((gi d 1).int.toNat:Nat):Int),.i ((gi d 2).int+1)]) else none)) else some (some 1,[]))
def Sj:bq:=⟨14,[],⟨52,[(6,.s (.map 0)),(13,.s (.int .i64))],[.map (.one (.int .i64)) (.one (.bool))]⟩,[.slot 6],[⟨.ret,⟨52,[(4,.s (.int .i64)),(5,.s (.int .i64))],[]⟩,[]⟩,⟨.exit 4,⟨52,[],[]⟩,[]⟩],vl⟩
theorem af8:cW P t98 Jc 0 (cX f13 14) Sj:=fun d=>by kernel_rfl
def Sk:LT:=Jc.add 0 Sj
theorem af9:ax P 0 Sk (aN f13):=ax.a hm yA af7 af8
def CS(d:List G):Option (List G) :=
 (ar (yx [.l (gi d 0).rows,.i (gi d 1).int]) fun g1=>(a7 true (cd CQ [.l [],.i 0,.l (gi d 0).rows,.i (gi d 1).int,.l (gi g1 0).rows,.i (((gi g1 0).rows.length:Nat):Int),.i 0]) fun k g2=>(ar (vk [.l (gi g2 2).rows,.i (gi g2 3).int]) fun g3=>(a7 true (cd CR [.l (gi g2 0).rows,.i (((gi g2 1).int.toNat:Nat):Int),.l (gi g3 0).rows,.i (((gi g3 0).rows.length:Nat):Int),.i 0]) fun q g4=>(a7 true (cd vl [.l (gi g4 0).rows,.i (((gi g4 1).int.toNat:Nat):Int),.i 1]) fun g g5=>(bif ab g 0 then some [.i (gi g5 0).int,.i (gi g5 1).int] else some [.i 0,.i 12]))))))
def Jd:aA:=⟨13,[.s (.list ak),.s (.int .i64)],[],[],[.s (.int .i64),.s (.int .i64)],[],[],[],CS⟩
theorem af_:bf P t98 Sk f13 Jd:=fun d=>by kernel_rfl
theorem af':aZ P Jd:=bt hm yA func13 af9 af_
def t99:ah:=t98.bz Jd
theorem Je:aj P t99:=yA.aP af'

def CT(d:List G):Option (Option Nat × List G) :=
 let g:=(gi d 1).rows.getD (((gi d 3).int).toNat) []; let z2:=ab (gi d 0).rows.length (gi d 0).rows.length; (bif (aB (gi d 3).int (gi d 2).int) then (bif ((a_ (gi d 3).int)&&(aB (gi d 3).int (((gi d 1).rows.length:Nat):Int))) then (ar (oI [.i (gi g 1).int]) fun g2=>let z3:=((gi d 0).rows++([[.s (gi g 0).str,.s (gi g2 0).str]]:List (List G))); (bif (z2&&(decide (((gi d 0).rows.length+1)≤1048576))) then (bif (aw ((gi d 3).int+1)) then (bif ((ab z3.length z3.length)&&true) then some (none,[.l z3,.l (gi d 1).rows,.i (gi d 2).int,.i ((gi d 3).int+1)]) else none) else none) else none)) else none) else (bif (z2&&true) then some (some 0,[.l (gi d 0).rows]) else none))
def Sl:bq:=⟨3,[(5,[.str,.str])],⟨27,[(5,.s (.vec 0 2)),(10,.s (.list [.str,.int .i64])),(11,.s (.int .i64)),(12,.s (.int .i64))],[.vec [.str,.str] 0]⟩,[.slot 5],[⟨.exit 0,⟨27,[(5,.s (.vec 0 2))],[.vec [.str,.str] 0]⟩,[.slot 5]⟩],CT⟩
theorem aga:cW P t99 az 0 (cX f14 3) Sl:=fun d=>by kernel_rfl
def Sm:LT:=az.add 0 Sl
theorem agb:ax P 0 Sm (aN f14):=ax.a hm Je (aK _ _ _) aga
def CU(d:List G):Option (List G) :=
 (ar (vk [.l (gi d 0).rows,.i (gi d 1).int]) fun g1=>(a7 true (cd CT [.l [],.l (gi g1 0).rows,.i (((gi g1 0).rows.length:Nat):Int),.i 0]) fun g g3=>(bif ((ab (gi g3 0).rows.length (gi g3 0).rows.length)&&true) then some [.l (gi g3 0).rows] else none)))
def Jf:aA:=⟨14,[.s (.list ak),.s (.int .i64)],[],[],[.s (.list [.str,.str])],[],[],[],CU⟩
theorem agc:bf P t99 Sm f14 Jf:=fun d=>by kernel_rfl
theorem agd:aZ P Jf:=bt hm Je func14 agb agc
def t100:ah:=t99.bz Jf
theorem age:aj P t100:=Je.aP agd

def yB(d:List G):Option (List G) :=
 BM d
def yC:aA:=⟨40,[.s (.vec 0 1)],[.vec [.str] 0],[.slot 0],[],[.vec [.str] 0],[.fix 0],[],yB⟩
theorem agf:∀ d r,yB d=some r→cz P 40 (yC.args0 d) (ai (yC.H0 d)) (yC.out r) (ai (yC.H1 r)):=fun d r h=>Zb Tryz.GW d r h
def t101:ah:=t100.cP yC
theorem CV:aj P t101:=age.aW agf

def Jg(d:List G):Option (Option Nat × List G) :=
 let z2:=(((gi d 3).int.toNat:Nat):Int); let z3:=(gi d 2).int.toNat+((gi d 4).int).toNat; let q:=(gi d 0).rows.set (0+((gi d 1).int).toNat) (fP [.str] ((gi d 0).rows.getD (0+((gi d 1).int).toNat) []) 0 [.s (gi ((gi d 0).rows.getD z3 []) 0).str]); let z4:=(gi d 4).int-1; let z5:=(ab (gi d 0).rows.length (gi d 0).rows.length)&&true; let g:=(gi d 4).int+1; let A:=(a_ (gi d 4).int)&&(aB (gi d 4).int z2); let B:=decide (z3<(gi d 0).rows.length); let z9:=(((gi d 2).int.toNat:Nat):Int); let k:=(gi d 2).int.toNat+z4.toNat; (bif (aB (gi d 4).int z2) then (bif A then (bif B then (bif (aw z4) then (bif ((a_ z4)&&(aB z4 z2)) then (bif (decide (k<(gi d 0).rows.length)) then (bif (!((gi ((gi d 0).rows.getD z3 []) 0).str.toList==(gi ((gi d 0).rows.getD k []) 0).str.toList)) then (bif A then (bif B then (bif ((a_ (gi d 1).int)&&(aB (gi d 1).int (((gi d 0).rows.length:Nat):Int))) then (bif (decide ((0+((gi d 1).int).toNat)<(gi d 0).rows.length)) then (bif (aw ((gi d 1).int+1)) then (bif (aw g) then (bif ((ab (gi d 0).rows.length q.length)&&true) then some (none,[.l q,.i ((gi d 1).int+1),.i z9,.i z2,.i g]) else none) else none) else none) else none) else none) else none) else none) else (bif (aw g) then (bif z5 then some (none,[.l (gi d 0).rows,.i (gi d 1).int,.i z9,.i z2,.i g]) else none) else none)) else none) else none) else none) else none) else none) else (bif z5 then some (some 0,[.l (gi d 0).rows,.i (gi d 1).int]) else none))
def Sn:bq:=⟨9,[],⟨61,[(0,.s (.vec 0 1)),(3,.s (.int .i64)),(4,.s (.sub 0 1)),(5,.s (.int .i64))],[.vec [.str] 0]⟩,[.fix 0],[⟨.exit 2,⟨61,[(0,.s (.vec 0 1)),(3,.s (.int .i64))],[.vec [.str] 0]⟩,[.fix 0]⟩],Jg⟩
theorem agh:cW P t101 az 1 (cX f42 9) Sn:=fun d=>by kernel_rfl
def Jh:LT:=az.add 1 Sn
theorem agi:ax P 1 Jh (aN f42):=ax.a hm CV (aK _ _ _) agh
def CW(d:List G):Option (Option Nat × List G) :=
 let g:=(ab (gi d 0).rows.length (gi d 0).rows.length)&&true; let z2:=(((gi d 0).rows.length:Nat):Int); let z3:=(gi d 1).int-1; let z4:=0+((gi d 1).int).toNat; (bif (aB (gi d 1).int z2) then (bif ((a_ (gi d 1).int)&&(aB (gi d 1).int z2)) then (bif (decide (z4<(gi d 0).rows.length)) then (bif (aw z3) then (bif ((a_ z3)&&(aB z3 z2)) then (bif (decide ((0+z3.toNat)<(gi d 0).rows.length)) then (bif ((gi ((gi d 0).rows.getD z4 []) 0).str.toList==(gi ((gi d 0).rows.getD (0+z3.toNat) []) 0).str.toList) then (bif ((a_ (gi d 1).int)&&(bM (gi d 1).int z2)) then (a7 g (cd Jg [.l (gi d 0).rows,.i (gi d 1).int,.i ((z4:Nat):Int),.i ((((gi d 0).rows.length-((gi d 1).int).toNat):Nat):Int),.i 1]) fun A g1=>let z5:=(gi g1 0).rows.length-((gi g1 1).int).toNat; let q:=((a_ (gi g1 1).int)&&(bM (gi g1 1).int (((gi g1 0).rows.length:Nat):Int))); let k:=0+((gi g1 1).int).toNat; (bif q then (bif (Nat.ble (k+z5) (gi g1 0).rows.length) then (bif q then some (some 0,[.l ((gi g1 0).rows.take k++List.replicate z5 [.s (⟨#[]⟩:ByteArray)]++(gi g1 0).rows.drop (k+z5)),.i (((((gi g1 1).int).toNat-0):Nat):Int)]) else none) else none) else none)) else none) else (bif (aw ((gi d 1).int+1)) then (bif g then some (none,[.l (gi d 0).rows,.i ((gi d 1).int+1)]) else none) else none)) else none) else none) else none) else none) else none) else (bif g then some (some 1,[.l (gi d 0).rows]) else none))
def Sp:bq:=⟨4,[],⟨61,[(0,.s (.vec 0 1)),(3,.s (.int .i64))],[.vec [.str] 0]⟩,[.fix 0],[⟨.ret,⟨61,[(2,.s (.pre 0 1))],[.vec [.str] 0]⟩,[.fix 0]⟩,⟨.exit 0,⟨61,[(0,.s (.vec 0 1))],[.vec [.str] 0]⟩,[.fix 0]⟩],CW⟩
theorem agj:cW P t101 Jh 1 (cX f42 4) Sp:=fun d=>by kernel_rfl
def Sq:LT:=Jh.add 1 Sp
theorem agk:ax P 1 Sq (aN f42):=ax.a hm CV agi agj
def yD(d:List G):Option (List G) :=
 let g:=(((gi d 0).rows.length:Nat):Int); (bif (aB g 2) then some [.l (gi d 0).rows,.i g] else (a7 ((ab (gi d 0).rows.length (gi d 0).rows.length)&&true) (cd CW [.l (gi d 0).rows,.i 1]) fun k g2=>(bif ab k 0 then some [.l (gi g2 0).rows,.i (((gi g2 1).int.toNat:Nat):Int)] else some [.l (gi g2 0).rows,.i (((gi g2 0).rows.length:Nat):Int)])))
def Ji:aA:=⟨42,[.s (.vec 0 1)],[.vec [.str] 0],[.slot 0],[.s (.pre 0 1)],[.vec [.str] 0],[.fix 0],[],yD⟩
theorem agl:bf P t101 Sq f42 Ji:=fun d=>by kernel_rfl
theorem agm:aZ P Ji:=bt hm CV func42 agk agl
def t102:ah:=t101.cP Ji
theorem Jj:aj P t102:=CV.aW agm

def Sr(d:List G):Option (Option Nat × List G) :=
 (bif (aB (gi d 3).int (gi d 2).int) then (bif ((a_ (gi d 3).int)&&(aB (gi d 3).int (((gi d 0).rows.length:Nat):Int))) then (bif ((a_ (gi d 3).int)&&(aB (gi d 3).int (((gi d 1).rows.length:Nat):Int))) then (bif (!(aq [.str,.str] (aR [.str,.str] ((gi d 0).rows.getD (((gi d 3).int).toNat) [])) (aR [.str,.str] ((gi d 1).rows.getD (((gi d 3).int).toNat) [])))) then some (some 0,[.t false]) else (bif (aw ((gi d 3).int+1)) then some (none,[.l (gi d 0).rows,.l (gi d 1).rows,.i (gi d 2).int,.i ((gi d 3).int+1)]) else none)) else none) else none) else some (some 1,[]))
def Ss:bq:=⟨4,[],⟨26,[(0,.s (.list [.str,.str])),(1,.s (.list [.str,.str])),(12,.s (.int .i64)),(13,.s (.int .i64))],[]⟩,[],[⟨.ret,⟨26,[(4,.s (.bool))],[]⟩,[]⟩,⟨.exit 0,⟨26,[],[]⟩,[]⟩],Sr⟩
theorem agn:cW P t102 az 0 (cX f16 4) Ss:=fun d=>by kernel_rfl
def Su:LT:=az.add 0 Ss
theorem ago:ax P 0 Su (aN f16):=ax.a hm Jj (aK _ _ _) agn
def vm(d:List G):Option (List G) :=
 let g:=(((gi d 0).rows.length:Nat):Int); (bif (g != (((gi d 1).rows.length:Nat):Int)) then some [.t false] else (a7 true (cd Sr [.l (gi d 0).rows,.l (gi d 1).rows,.i g,.i 0]) fun k g1=>(bif ab k 0 then some [.t (gi g1 0).bool] else some [.t true])))
def Jk:aA:=⟨16,[.s (.list [.str,.str]),.s (.list [.str,.str])],[],[],[.s (.bool)],[],[],[],vm⟩
theorem agp:bf P t102 Su f16 Jk:=fun d=>by kernel_rfl
theorem agq:aZ P Jk:=bt hm Jj func16 ago agp
def t103:ah:=t102.bz Jk
theorem agr:aj P t103:=Jj.aP agq

attribute [instance] U0
theorem ags:aj P t103:=agr.mg
def yE(d:List G):Option (List G) :=
 Bx d
def yF:aA:=⟨98,[.clo 141 [.ptr 0 0]],[.box [.map 1],.map (.one (.str)) (.one (.bool))],[.cap 0 0,.cell 0 0],[.s (.list [.str])],[.box [.map 1],.map (.one (.str)) (.one (.bool))],[.fix 0,.fix 1],[],yE⟩
theorem agt:∀ d r,yE d=some r→cz P 98 (yF.args0 d) (ai (yF.H0 d)) (yF.out r) (ai (yF.H1 r)):=fun d r h=>YS (ρ:=Tryz.OG) (ρ':=Tryz.OF) rfl Tryz.ZX { Tryz.ZW with } (fun m=>⟨fun xK off cap ss W hH hblk g=>callsIn_wide.2 (Proofs.AnyM.slices_Sort_string Tryz.GW xK off cap ss W hH hblk g),fun p cap W=>callsIn_wide.2 (Proofs.AnyM.slices_Sort_string_none Tryz.GW p cap W)⟩) (by kernel_rfl) (by kernel_rfl) (.one (.bool)) d r h
def t104:ah:=t103.cP yF
theorem CX:aj P t104:=ags.aW agt

def yG(d:List G):Option (Option Nat × List G) :=
 let g:=(((gi d 5).int.toNat:Nat):Int); let z2:=gi ((gi d 2).rows.getD (((gi d 11).int).toNat) []) 0; let z3:=(gi d 11).int+1; let z4:=(((gi d 7).int.toNat:Nat):Int); (bif (aB (gi d 11).int (gi d 10).int) then (bif ((a_ (gi d 11).int)&&(aB (gi d 11).int (((gi d 9).rows.length:Nat):Int))) then (bif ((gi ((gi d 9).rows.getD (((gi d 11).int).toNat) []) 4).int==(gi d 8).int) then (bif ((a_ (gi d 11).int)&&(aB (gi d 11).int (((gi d 2).rows.length:Nat):Int))) then (bif (aw z3) then some (none,[.l (gi d 0).rows,.l (gi d 1).rows,.l (gi d 2).rows,.l (gi d 3).rows,.l (gi d 4).rows,.i g,.l (bK [.str] (gi d 6).rows [.s z2.str] [.t true] (gi d 7).int.toNat),.i (((cU [.str] (gi d 6).rows [.s z2.str] (gi d 7).int.toNat):Nat):Int),.i (gi d 8).int,.l (gi d 9).rows,.i (gi d 10).int,.i z3]) else none) else none) else (bif (aw z3) then some (none,[.l (gi d 0).rows,.l (gi d 1).rows,.l (gi d 2).rows,.l (gi d 3).rows,.l (gi d 4).rows,.i g,.l (gi d 6).rows,.i z4,.i (gi d 8).int,.l (gi d 9).rows,.i (gi d 10).int,.i z3]) else none)) else none) else some (some 0,[.l (gi d 0).rows,.l (gi d 1).rows,.l (gi d 2).rows,.l (gi d 3).rows,.l (gi d 4).rows,.i g,.l (gi d 6).rows,.i z4]))
def Sv:bq:=⟨8,[],⟨52,[(0,.s (.ptr 0 0)),(1,.s (.int .i64)),(5,.s (.map 2)),(29,.s (.list aY)),(30,.s (.int .i64)),(31,.s (.int .i64))],[.box [.list ak,.list aY,.list [.str],.list [.int .i64],.map 1],.map (.agg [.str,.int .i64]) (.one (.bool)),.map (.one (.str)) (.one (.bool))]⟩,[.fix 0,.cell 0 4,.slot 5],[⟨.exit 2,⟨52,[(5,.s (.map 2))],[.box [.list ak,.list aY,.list [.str],.list [.int .i64],.map 1],.map (.agg [.str,.int .i64]) (.one (.bool)),.map (.one (.str)) (.one (.bool))]⟩,[.fix 0,.cell 0 4,.slot 5]⟩],yG⟩
theorem agu:cW P t104 az 2 (cX f60 8) Sv:=fun d=>by kernel_rfl
def CY:LT:=az.add 2 Sv
theorem agv:ax P 2 CY (aN f60):=ax.a hm CX (aK _ _ _) agu
def sr(r d:List G):Option (List G) :=
 let g:=(((gi d 5).int.toNat:Nat):Int); let z2:=(((gi d 9).int.toNat:Nat):Int); (bif ((gi (gi r 0).row 1).int==(gi d 8).int) then some [.l (gi d 0).rows,.l (gi d 1).rows,.l (gi d 2).rows,.l (gi d 3).rows,.l (gi d 4).rows,.i g,.l (bK [.str] (gi d 6).rows [.s (gi (gi r 0).row 0).str] [.t true] (gi d 7).int.toNat),.i (((cU [.str] (gi d 6).rows [.s (gi (gi r 0).row 0).str] (gi d 7).int.toNat):Nat):Int),.i (gi d 8).int,.i z2] else some [.l (gi d 0).rows,.l (gi d 1).rows,.l (gi d 2).rows,.l (gi d 3).rows,.l (gi d 4).rows,.i g,.l (gi d 6).rows,.i (((gi d 7).int.toNat:Nat):Int),.i (gi d 8).int,.i z2])
def agw(d:List G)(b:Nat):List G:=[.l (gi d 0).rows,.l (gi d 1).rows,.l (gi d 2).rows,.l (gi d 3).rows,.l (gi d 4).rows,.i (((gi d 5).int.toNat:Nat):Int),.l (gi d 6).rows,.i (((gi d 7).int.toNat:Nat):Int),.i (gi d 8).int,.i (b:Int)]
def agx(d:List G)(b:Nat):Bool:=true
def su:eu:=⟨⟨52,[(0,.s (.ptr 0 0)),(1,.s (.int .i64)),(5,.s (.map 2)),(14,.s (.addr))],[.box [.list ak,.list aY,.list [.str],.list [.int .i64],.map 1],.map (.agg [.str,.int .i64]) (.one (.bool)),.map (.one (.str)) (.one (.bool))]⟩,[.fix 0,.cell 0 4,.slot 5],[],(.agg [.str,.int .i64]),(.one (.bool)),1,0,13,14,15,16,17,fun d=>(gi d 9).int.toNat,agw,agx,sr⟩
theorem agy:iH P t104 CY 2 su (lu (cutAt f60 2)) (np (cutAt f60 2)):=fun r d=>by kernel_rfl
def CZ(d:List G):Option (Option Nat × List G) :=
 (a7 true (cd yG [.l (gi d 0).rows,.l (gi d 1).rows,.l (gi d 2).rows,.l (gi d 3).rows,.l (gi d 4).rows,.i (((gi d 5).int.toNat:Nat):Int),.l (gi d 6).rows,.i (((gi d 7).int.toNat:Nat):Int),.i (gi d 8).int,.l (gi d 1).rows,.i (((gi d 1).rows.length:Nat):Int),.i 0]) fun g g1=>(ar (yE [.l (gi g1 6).rows,.i (((gi g1 7).int.toNat:Nat):Int)]) fun g2=>some (some 0,[.l (gi g1 0).rows,.l (gi g1 1).rows,.l (gi g1 2).rows,.l (gi g1 3).rows,.l (gi g1 4).rows,.i (((gi g1 5).int.toNat:Nat):Int),.l (gi g2 2).rows])))
def Sw:bq:=⟨7,[],⟨52,[(0,.s (.ptr 0 0)),(1,.s (.int .i64)),(5,.s (.map 2)),(14,.s (.addr))],[.box [.list ak,.list aY,.list [.str],.list [.int .i64],.map 1],.map (.agg [.str,.int .i64]) (.one (.bool)),.map (.one (.str)) (.one (.bool))]⟩,[],[⟨.ret,⟨52,[(4,.s (.list [.str]))],[.box [.list ak,.list aY,.list [.str],.list [.int .i64],.map 1],.map (.agg [.str,.int .i64]) (.one (.bool))]⟩,[.fix 0,.cell 0 4]⟩],CZ⟩
theorem agz:gh P t104 CY 2 (ls (cutAt f60 2)) Sw:=fun d=>by kernel_rfl
def Jl(d:List G):Option (Option Nat × List G) :=
 iI su CZ (gi d 4).rows ((gi d 5).int.toNat) d
def Jm:bq:=⟨2,[],⟨52,[(0,.s (.ptr 0 0)),(1,.s (.int .i64)),(5,.s (.map 2))],[.box [.list ak,.list aY,.list [.str],.list [.int .i64],.map 1],.map (.agg [.str,.int .i64]) (.one (.bool)),.map (.one (.str)) (.one (.bool))]⟩,[.fix 0,.cell 0 4,.slot 5],[⟨.ret,⟨52,[(4,.s (.list [.str]))],[.box [.list ak,.list aY,.list [.str],.list [.int .i64],.map 1],.map (.agg [.str,.int .i64]) (.one (.bool))]⟩,[.fix 0,.cell 0 4]⟩],Jl⟩
def Sx:LT:=CY.ff 2 Jm
theorem agA:∀ r d d',sr r d=some d'→(gi d' 4).rows=(gi d 4).rows∧(gi d' 5).int.toNat=(gi d 5).int.toNat:=by
 intro r d d' h;unfold sr at h;simp only[KG]at h
 repeat' split at h
 all_goals first|(cases h; done)|(cases h; exact⟨rfl,rfl⟩)
theorem agB:ax P 2 Sx (aN f60):=ax.Gv (q:=Jm) (qr:=Sw) (sp:=su) (r0:=2) (b0:=0) (r1:=3) (b1:=1) (r2:=4) (rows:=fun d=>(gi d 4).rows) (clock:=fun d=>(gi d 5).int.toNat) (pre:=fun d=>xz P t104 (jP (cutAt f60 2)) (aF Jm.inv d)) (ri:=fun d=>(gi d 4).rows) (ci:=fun d=>(gi d 5).int.toNat) hm CX (fun d=>by kernel_rfl) agA (by kernel_rfl) (by kernel_rfl) agv (by kernel_rfl) (by kernel_rfl) agy (fun d=>by kernel_rfl) (fun d=>by kernel_rfl) (fun d=>by kernel_rfl) (fun d=>by kernel_rfl) (fun d=>by kernel_rfl) (fun d=>by kernel_rfl) (fun d b=>by kernel_rfl) (fun d b=>rfl) (fun d b=>⟨rfl,rfl⟩) rfl rfl agz (fun d=>rfl)
def C0(d:List G):Option (List G) :=
 (a7 true (dD (Jl [.l (gi d 0).rows,.l (gi d 1).rows,.l (gi d 2).rows,.l (gi d 3).rows,.l (gi d 4).rows,.i (((gi d 5).int.toNat:Nat):Int),.l [],.i 0,.i (gi d 6).int])) fun g g3=>some [.l (gi g3 0).rows,.l (gi g3 1).rows,.l (gi g3 2).rows,.l (gi g3 3).rows,.l (gi g3 4).rows,.i (((gi g3 5).int.toNat:Nat):Int),.l (gi g3 6).rows])
def Jn:aA:=⟨60,[.s (.ptr 0 0),.s (.int .i64)],[.box [.list ak,.list aY,.list [.str],.list [.int .i64],.map 1],.map (.agg [.str,.int .i64]) (.one (.bool))],[.slot 0,.cell 0 4],[.s (.list [.str])],[.box [.list ak,.list aY,.list [.str],.list [.int .i64],.map 1],.map (.agg [.str,.int .i64]) (.one (.bool))],[.fix 0,.fix 1],[],C0⟩
theorem agC:bf P t104 Sx f60 Jn:=fun d=>by kernel_rfl
theorem agD:aZ P Jn:=bt hm CX func60 agB agC
def t105:ah:=t104.cP Jn
theorem agE:aj P t105:=CX.aW agD

def vn(d:List G):Option (List G) :=
 BO d
def yH:aA:=⟨41,[.s (.ue [.str]),.s (.str)],[],[],[.s (.str)],[],[],[],vn⟩
theorem agF:∀ d r,vn d=some r→cz P 41 (yH.args0 d) (ai (yH.H0 d)) (yH.out r) (ai (yH.H1 r)):=fun d r h=>Zd rfl Tryz.ZH Tryz.ZZ d r h
def t106:ah:=t105.cP yH
theorem yI:aj P t106:=agE.aW agF

def yJ(d:List G):Option (Option Nat × List G) :=
 let k:=gi ((gi d 13).rows.getD (0+((gi d 15).int).toNat) []) 0; let z2:=ab (gi d 12).rows.length (gi d 12).rows.length; let z3:=(((gi d 5).int.toNat:Nat):Int); let z4:=(((gi d 7).int.toNat:Nat):Int); let z5:=(((gi d 9).int.toNat:Nat):Int); let q:=(ab (gi d 13).rows.length (gi d 13).rows.length)&&true; let g:=(gi d 15).int+1; let A:=(((gi d 11).int.toNat:Nat):Int); (bif (aB (gi d 15).int (gi d 14).int) then (bif ((a_ (gi d 15).int)&&(aB (gi d 15).int (((gi d 13).rows.length:Nat):Int))) then (bif (decide ((0+((gi d 15).int).toNat)<(gi d 13).rows.length)) then (bif (aB 1 (gi (bZ [.int .i64] (gi d 10).rows [.i k.int] [.i 0]) 0).int) then (ar (oI [.i k.int]) fun g5=>(ar (C0 [.l (gi d 0).rows,.l (gi d 1).rows,.l (gi d 2).rows,.l (gi d 3).rows,.l (gi d 4).rows,.i z3,.i k.int]) fun g6=>(ar (vn [.l (gi g6 6).rows,.s (⟨#[32]⟩:ByteArray)]) fun g7=>let z9:=((gi d 12).rows++([[.s (gi g5 0).str,.s (gi g7 0).str]]:List (List G))); (bif (z2&&(decide (((gi d 12).rows.length+1)≤1048576))) then (bif (aw g) then (bif ((ab z9.length z9.length)&&q) then some (none,[.l (gi g6 0).rows,.l (gi g6 1).rows,.l (gi g6 2).rows,.l (gi g6 3).rows,.l (gi g6 4).rows,.i (((gi g6 5).int.toNat:Nat):Int),.l (gi d 6).rows,.i z4,.l (gi d 8).rows,.i z5,.l (gi d 10).rows,.i A,.l z9,.l (gi d 13).rows,.i (gi d 14).int,.i g]) else none) else none) else none)))) else (bif (aw g) then (bif (z2&&q) then some (none,[.l (gi d 0).rows,.l (gi d 1).rows,.l (gi d 2).rows,.l (gi d 3).rows,.l (gi d 4).rows,.i z3,.l (gi d 6).rows,.i z4,.l (gi d 8).rows,.i z5,.l (gi d 10).rows,.i A,.l (gi d 12).rows,.l (gi d 13).rows,.i (gi d 14).int,.i g]) else none) else none)) else none) else none) else (bif (z2&&true) then some (some 0,[.l (gi d 0).rows,.l (gi d 1).rows,.l (gi d 2).rows,.l (gi d 3).rows,.l (gi d 4).rows,.i z3,.l (gi d 6).rows,.i z4,.l (gi d 8).rows,.i z5,.l (gi d 12).rows]) else none))
def Sy:bq:=⟨9,[(7,[.str,.str])],⟨53,[(0,.s (.ptr 0 0)),(5,.s (.map 4)),(7,.s (.vec 5 2)),(31,.s (.vec 6 1)),(32,.s (.int .i64)),(33,.s (.int .i64))],[.box [.list ak,.list aY,.list [.str],.list [.int .i64],.map 1],.map (.agg [.str,.int .i64]) (.one (.bool)),.map (.one (.int .i64)) (.one (.int .i64)),.map (.one (.int .i64)) (.one (.int .i64)),.map (.one (.int .i64)) (.one (.int .i64)),.vec [.str,.str] 0,.vec [.int .i64] 0]⟩,[.fix 0,.cell 0 4,.fix 2,.fix 3,.slot 5,.slot 7,.slot 31],[⟨.exit 2,⟨53,[(7,.s (.vec 4 2))],[.box [.list ak,.list aY,.list [.str],.list [.int .i64],.map 1],.map (.agg [.str,.int .i64]) (.one (.bool)),.map (.one (.int .i64)) (.one (.int .i64)),.map (.one (.int .i64)) (.one (.int .i64)),.vec [.str,.str] 0]⟩,[.fix 0,.cell 0 4,.fix 2,.fix 3,.slot 7]⟩],yJ⟩
theorem agG:cW P t106 az 4 (cX f29 9) Sy:=fun d=>by kernel_rfl
def C1:LT:=az.add 4 Sy
theorem agH:ax P 4 C1 (aN f29):=ax.a hm yI (aK _ _ _) agG
def sv(r d:List G):Option (List G) :=
 let g:=(gi (bZ [.int .i64] (gi d 10).rows [.i (gi (gi r 0).row 0).int] [.i 0]) 0).int+(gi (bZ [.int .i64] (gi d 8).rows [.i (gi (gi r 0).row 0).int] [.i 0]) 0).int; (bif (aw g) then some [.l (gi d 0).rows,.l (gi d 1).rows,.l (gi d 2).rows,.l (gi d 3).rows,.l (gi d 4).rows,.i (((gi d 5).int.toNat:Nat):Int),.l (gi d 6).rows,.i (((gi d 7).int.toNat:Nat):Int),.l (gi d 8).rows,.i (((gi d 9).int.toNat:Nat):Int),.l (bK [.int .i64] (gi d 10).rows [.i (gi (gi r 0).row 0).int] [.i g] (gi d 11).int.toNat),.i (((cU [.int .i64] (gi d 10).rows [.i (gi (gi r 0).row 0).int] (gi d 11).int.toNat):Nat):Int),.i (((gi d 12).int.toNat:Nat):Int)] else none)
def agI(d:List G)(b:Nat):List G:=[.l (gi d 0).rows,.l (gi d 1).rows,.l (gi d 2).rows,.l (gi d 3).rows,.l (gi d 4).rows,.i (((gi d 5).int.toNat:Nat):Int),.l (gi d 6).rows,.i (((gi d 7).int.toNat:Nat):Int),.l (gi d 8).rows,.i (((gi d 9).int.toNat:Nat):Int),.l (gi d 10).rows,.i (((gi d 11).int.toNat:Nat):Int),.i (b:Int)]
def agJ(d:List G)(b:Nat):Bool:=true
def sw:eu:=⟨⟨53,[(0,.s (.ptr 0 0)),(4,.s (.map 3)),(5,.s (.map 4)),(17,.s (.addr))],[.box [.list ak,.list aY,.list [.str],.list [.int .i64],.map 1],.map (.agg [.str,.int .i64]) (.one (.bool)),.map (.one (.int .i64)) (.one (.int .i64)),.map (.one (.int .i64)) (.one (.int .i64)),.map (.one (.int .i64)) (.one (.int .i64))]⟩,[.fix 0,.cell 0 4,.fix 2,.fix 3,.slot 5],[],(.one (.int .i64)),(.one (.int .i64)),3,0,16,17,18,19,20,fun d=>(gi d 12).int.toNat,agI,agJ,sv⟩
theorem agK:iH P t106 C1 4 sw (lu (cutAt f29 3)) (np (cutAt f29 3)):=fun r d=>by kernel_rfl
def C2(d:List G):Option (Option Nat × List G) :=
 (ar (Cr [.l (gi d 10).rows,.i (((gi d 11).int.toNat:Nat):Int)]) fun g4=>(a7 ((ab (gi g4 2).rows.length (gi g4 2).rows.length)&&true) (cd yJ [.l (gi d 0).rows,.l (gi d 1).rows,.l (gi d 2).rows,.l (gi d 3).rows,.l (gi d 4).rows,.i (((gi d 5).int.toNat:Nat):Int),.l (gi d 6).rows,.i (((gi d 7).int.toNat:Nat):Int),.l (gi d 8).rows,.i (((gi d 9).int.toNat:Nat):Int),.l (gi g4 0).rows,.i (((gi g4 1).int.toNat:Nat):Int),.l [],.l (gi g4 2).rows,.i (((gi g4 2).rows.length:Nat):Int),.i 0]) fun g g8=>(bif ((ab (gi g8 10).rows.length (gi g8 10).rows.length)&&true) then some (some 0,[.l (gi g8 0).rows,.l (gi g8 1).rows,.l (gi g8 2).rows,.l (gi g8 3).rows,.l (gi g8 4).rows,.i (((gi g8 5).int.toNat:Nat):Int),.l (gi g8 6).rows,.i (((gi g8 7).int.toNat:Nat):Int),.l (gi g8 8).rows,.i (((gi g8 9).int.toNat:Nat):Int),.l (gi g8 10).rows]) else none)))
def Sz:bq:=⟨7,[],⟨53,[(0,.s (.ptr 0 0)),(4,.s (.map 3)),(5,.s (.map 4)),(17,.s (.addr))],[.box [.list ak,.list aY,.list [.str],.list [.int .i64],.map 1],.map (.agg [.str,.int .i64]) (.one (.bool)),.map (.one (.int .i64)) (.one (.int .i64)),.map (.one (.int .i64)) (.one (.int .i64)),.map (.one (.int .i64)) (.one (.int .i64))]⟩,[],[⟨.ret,⟨53,[(2,.s (.vec 4 2))],[.box [.list ak,.list aY,.list [.str],.list [.int .i64],.map 1],.map (.agg [.str,.int .i64]) (.one (.bool)),.map (.one (.int .i64)) (.one (.int .i64)),.map (.one (.int .i64)) (.one (.int .i64)),.vec [.str,.str] 0]⟩,[.fix 0,.cell 0 4,.fix 2,.fix 3,.slot 2]⟩],C2⟩
theorem agL:gh P t106 C1 4 (ls (cutAt f29 3)) Sz:=fun d=>by kernel_rfl
def Jo(d:List G):Option (Option Nat × List G) :=
 iI sw C2 (gi d 8).rows ((gi d 9).int.toNat) d
def Jp:bq:=⟨3,[],⟨53,[(0,.s (.ptr 0 0)),(4,.s (.map 3)),(5,.s (.map 4))],[.box [.list ak,.list aY,.list [.str],.list [.int .i64],.map 1],.map (.agg [.str,.int .i64]) (.one (.bool)),.map (.one (.int .i64)) (.one (.int .i64)),.map (.one (.int .i64)) (.one (.int .i64)),.map (.one (.int .i64)) (.one (.int .i64))]⟩,[.fix 0,.cell 0 4,.fix 2,.fix 3,.slot 5],[⟨.ret,⟨53,[(2,.s (.vec 4 2))],[.box [.list ak,.list aY,.list [.str],.list [.int .i64],.map 1],.map (.agg [.str,.int .i64]) (.one (.bool)),.map (.one (.int .i64)) (.one (.int .i64)),.map (.one (.int .i64)) (.one (.int .i64)),.vec [.str,.str] 0]⟩,[.fix 0,.cell 0 4,.fix 2,.fix 3,.slot 2]⟩],Jo⟩
def SA:LT:=C1.ff 4 Jp
theorem agM:∀ r d d',sv r d=some d'→(gi d' 8).rows=(gi d 8).rows∧(gi d' 9).int.toNat=(gi d 9).int.toNat:=by
 intro r d d' h;unfold sv at h;simp only[KG]at h
 repeat' split at h
 all_goals first|(cases h; done)|(cases h; exact⟨rfl,rfl⟩)
theorem agN:ax P 4 SA (aN f29):=ax.Gv (q:=Jp) (qr:=Sz) (sp:=sw) (r0:=3) (b0:=0) (r1:=4) (b1:=1) (r2:=5) (rows:=fun d=>(gi d 8).rows) (clock:=fun d=>(gi d 9).int.toNat) (pre:=fun d=>xz P t106 (jP (cutAt f29 3)) (aF Jp.inv d)) (ri:=fun d=>(gi d 8).rows) (ci:=fun d=>(gi d 9).int.toNat) hm yI (fun d=>by kernel_rfl) agM (by kernel_rfl) (by kernel_rfl) agH (by kernel_rfl) (by kernel_rfl) agK (fun d=>by kernel_rfl) (fun d=>by kernel_rfl) (fun d=>by kernel_rfl) (fun d=>by kernel_rfl) (fun d=>by kernel_rfl) (fun d=>by kernel_rfl) (fun d b=>by kernel_rfl) (fun d b=>rfl) (fun d b=>⟨rfl,rfl⟩) rfl rfl agL (fun d=>rfl)
def Jq(d:List G):List G:=[.l (gi d 0).rows,.l (gi d 1).rows,.l (gi d 2).rows,.l (gi d 3).rows,.l (gi d 4).rows,.i (((gi d 5).int.toNat:Nat):Int)]
def C3(d g1:List G):List G:=[.l (gi g1 0).rows,.l (gi g1 1).rows,.l (gi g1 2).rows,.l (gi g1 3).rows,.l (gi g1 4).rows,.i (((gi g1 5).int.toNat:Nat):Int)]
def C4(d g1 g2:List G):Option (List G) :=
 (ar (Ii [.l (gi g1 6).rows,.i (((gi g1 7).int.toNat:Nat):Int)]) fun g3=>(a7 true (dD (Jo [.l (gi g2 0).rows,.l (gi g2 1).rows,.l (gi g2 2).rows,.l (gi g2 3).rows,.l (gi g2 4).rows,.i (((gi g2 5).int.toNat:Nat):Int),.l (gi g3 0).rows,.i (((gi g3 1).int.toNat:Nat):Int),.l (gi g2 6).rows,.i (((gi g2 7).int.toNat:Nat):Int),.l (gi g3 2).rows,.i (((gi g3 3).int.toNat:Nat):Int)])) fun g g9=>(bif ((ab (gi g9 10).rows.length (gi g9 10).rows.length)&&true) then some [.l (gi g9 0).rows,.l (gi g9 1).rows,.l (gi g9 2).rows,.l (gi g9 3).rows,.l (gi g9 4).rows,.i (((gi g9 5).int.toNat:Nat):Int),.l (gi g9 10).rows] else none)))
def vo(d:List G):Option (List G):=ar (oL (Jq d)) fun g1=>uE sd oM ((gi (kE (C3 d g1)) 4).rows) ((gi (kE (C3 d g1)) 5).int.toNat) (kE (C3 d g1)) fun g2=>C4 d g1 g2
def sx:aA:=⟨29,[.s (.ptr 0 0)],[.box [.list ak,.list aY,.list [.str],.list [.int .i64],.map 1],.map (.agg [.str,.int .i64]) (.one (.bool))],[.slot 0,.cell 0 4],[.s (.list [.str,.str])],[.box [.list ak,.list aY,.list [.str],.list [.int .i64],.map 1],.map (.agg [.str,.int .i64]) (.one (.bool))],[.fix 0,.fix 1],[],vo⟩
def mz(d g1:List G):ao:=sL P (t106.cP { yf with F:=fun _=>some g1 }) f29 sx 3 d
theorem agO:∀ d,(bW P t106 az (uD f29) ⟨er (sx.args0 d) (f29).ntmps,sx.H0 d⟩ fun x s=>match x with | .normal=>eg P t106 (iJ f29) ((iJ f29).toList.take 3) s fun s=>.done .normal s|_=>.fail).leaf uC=ar (oL (Jq d)) fun g1=>some (mz d g1):=fun d=>by kernel_rfl
theorem agP:∀ d g1 e,(eg P t106 (iJ f29) ((iJ f29).toList.drop 4) ⟨(mz d g1).fr.set 13 (jc nF (ql f29 3 (mz d g1)) (mz d g1).H e).1,(jc nF (ql f29 3 (mz d g1)) (mz d g1).H e).2⟩ fun s=>bW P t106 SA (BK f29) s .done).leaf (fv P (f29).results.toList sx)=C4 d g1 e:=fun d g1 e=>by kernel_rfl
theorem agQ:∀ d g1,fo (mz d g1).den.eval (xO f29 3).op=some (nF.f,(ql f29 3 (mz d g1))):=fun d g1=>by kernel_rfl
theorem agR:∀ d g1,xN nF (ql f29 3 (mz d g1)) (mz d g1).H=some (true,C3 d g1):=fun d g1=>by kernel_rfl
theorem agS:aZ P sx:=fun d r h=>by
 have h:vo d=some r:=h;unfold vo at h;obtain⟨g1,hs,h⟩:=Ob h;obtain⟨aL,g,hk⟩:=Od h;exact Oc (sp:=sx) hm yI yI func29 (by kernel_rfl) (fF.mg (Q_ _ aL g)) (by kernel_rfl) (by kernel_rfl) (r0:=uD f29) (id:=1) (ops:=iJ f29) (rest:=BK f29) (by kernel_rfl) (agN.mono (by kernel_rfl)) (l1:=(iJ f29).toList.take 3) (oc:=xO f29 3) (l2:=(iJ f29).toList.drop 4) (by kernel_rfl) (by kernel_rfl) (t:=13) (by kernel_rfl) (S1:=mz d g1) ((agO d).trans (by rw[hs]; rfl)) (agQ d g1) (agR d g1) (tl:=C4 d g1) (agP d g1) hk
def t107:ah:=t106.cP sx
theorem SB:aj P t107:=yI.aW agS

def C5(d:List G):Option (List G) :=
 (ar (uX [.l (gi d 0).rows,.i (gi d 1).int]) fun g1=>(bif ((gi g1 0).int != 0) then (bif ((gi g1 0).int != 0) then some [.l [],.i (gi g1 0).int] else none) else (ar (va [.l (gi d 0).rows,.i (gi d 1).int]) fun g2=>(bif ((gi g2 6).int != 0) then some [.l [],.i (gi g2 6).int] else (ar (vo [.l (gi g2 0).rows,.l (gi g2 1).rows,.l (gi g2 2).rows,.l (gi g2 3).rows,.l (gi g2 4).rows,.i (((gi g2 5).int.toNat:Nat):Int)]) fun g3=>some [.l (gi g3 6).rows,.i 0])))))
def Jr:aA:=⟨9,[.s (.list ak),.s (.int .i64)],[],[],[.s (.list [.str,.str]),.s (.int .i64)],[],[],[],C5⟩
theorem agT:bf P t107 az f9 Jr:=fun d=>by kernel_rfl
theorem agU:aZ P Jr:=bt hm SB func9 (aK _ _ _) agT
def t108:ah:=t107.bz Jr
theorem qu:aj P t108:=SB.aP agU

def yK(d:List G):Option (Option Nat × List G) :=
 let g:=dX [.int .i64] (gi d 0).rows [.i (gi d 7).int]; let z2:=(g++([[.s (gi d 6).str]]:List (List G))); let z3:=gv [.int .i64] (gi d 0).rows [.i (gi d 7).int]; (bif (ft [.int .i64] (gi d 0).rows [.i (gi d 7).int]) then (bif ((ab g.length g.length)&&(decide ((g.length+1)≤1048576))) then (bif (ab z2.length z2.length) then some (some 0,[.l (jK [.int .i64] z3 [.i (gi d 7).int] z2 (gi d 1).int.toNat),.i (((cU [.int .i64] z3 [.i (gi d 7).int] (gi d 1).int.toNat):Nat):Int),.l (bK [.int .i64] (gi d 2).rows [.i (gi d 7).int] [.t true] (gi d 3).int.toNat),.i (((cU [.int .i64] (gi d 2).rows [.i (gi d 7).int] (gi d 3).int.toNat):Nat):Int),.l (gi d 4).rows,.i (((gi d 5).int.toNat:Nat):Int),.l (gi d 8).rows,.l (gi d 9).rows,.i (gi d 10).int,.i (gi d 11).int]) else none) else none) else none)
def SC:bq:=⟨9,[],⟨143,[(5,.s (.map 0)),(6,.s (.map 1)),(7,.s (.list ak)),(9,.s (.map 2)),(11,.s (.ptr 3 0)),(34,.s (.list [.str,.int .i64])),(35,.s (.int .i64)),(36,.s (.int .i64))],[.aQ 1 (.one (.int .i64)) [.str],.map (.one (.int .i64)) (.one (.bool)),.map (.one (.int .i64)) (.one (.bool)),.box [.str,.int .i64]]⟩,[.slot 5,.slot 6,.slot 9,.slot 11],[⟨.normal,⟨143,[(5,.s (.map 0)),(6,.s (.map 1)),(7,.s (.list ak)),(9,.s (.map 2)),(34,.s (.list [.str,.int .i64])),(35,.s (.int .i64)),(36,.s (.int .i64))],[.aQ 1 (.one (.int .i64)) [.str],.map (.one (.int .i64)) (.one (.bool)),.map (.one (.int .i64)) (.one (.bool))]⟩,[.slot 5,.slot 6,.slot 9]⟩],yK⟩
theorem agV:gh P (t108.ig [1500076]) (az.ja [(2,[.aQ 5 1])]) 0 (cutAt f15 9) SC:=fun d=>by kernel_rfl
def Js:LT:=(az.ja [(2,[.aQ 5 1])]).ff 0 SC
theorem agW:ax P 0 Js (aN f15):=ax.ff hm (qu.ig [1500076]) (by kernel_rfl) (rT _) agV
def yL(d:List G):Option (Option Nat × List G) :=
 let g:=(gi d 7).rows.getD (((gi d 9).int).toNat) []; let z2:=(((cU [.int .i64] (gi d 4).rows [.i (gi g 1).int] (gi d 5).int.toNat):Nat):Int); let z3:=(((gi d 1).int.toNat:Nat):Int); let z4:=(((gi d 3).int.toNat:Nat):Int); (bif (aB (gi d 9).int (gi d 8).int) then (bif ((a_ (gi d 9).int)&&(aB (gi d 9).int (((gi d 7).rows.length:Nat):Int))) then (bif (gi (bZ [.int .i64] (gi d 4).rows [.i (gi g 1).int] [.t false]) 0).bool then (a7 true (dD (yK [.l (gi d 0).rows,.i z3,.l (gi d 2).rows,.i z4,.l (bK [.int .i64] (gi d 4).rows [.i (gi g 1).int] [.t true] (gi d 5).int.toNat),.i z2,.s (gi g 0).str,.i (gi g 1).int,.l (gi d 6).rows,.l (gi d 7).rows,.i (gi d 8).int,.i (gi d 9).int])) fun k g3=>(bif (aw ((gi g3 9).int+1)) then some (none,[.l (gi g3 0).rows,.i (((gi g3 1).int.toNat:Nat):Int),.l (gi g3 2).rows,.i (((gi g3 3).int.toNat:Nat):Int),.l (gi g3 4).rows,.i (((gi g3 5).int.toNat:Nat):Int),.l (gi g3 6).rows,.l (gi g3 7).rows,.i (gi g3 8).int,.i ((gi g3 9).int+1)]) else none)) else (a7 true (dD (yK [.l (gi d 0).rows,.i z3,.l (gi d 2).rows,.i z4,.l (bK [.int .i64] (gi d 4).rows [.i (gi g 1).int] [.t (gi (bZ [.int .i64] (gi d 2).rows [.i (gi g 1).int] [.t false]) 0).bool] (gi d 5).int.toNat),.i z2,.s (gi g 0).str,.i (gi g 1).int,.l (gi d 6).rows,.l (gi d 7).rows,.i (gi d 8).int,.i (gi d 9).int])) fun q g4=>(bif (aw ((gi g4 9).int+1)) then some (none,[.l (gi g4 0).rows,.i (((gi g4 1).int.toNat:Nat):Int),.l (gi g4 2).rows,.i (((gi g4 3).int.toNat:Nat):Int),.l (gi g4 4).rows,.i (((gi g4 5).int.toNat:Nat):Int),.l (gi g4 6).rows,.l (gi g4 7).rows,.i (gi g4 8).int,.i ((gi g4 9).int+1)]) else none))) else none) else some (some 0,[.l (gi d 0).rows,.i z3,.l (gi d 2).rows,.i z4,.l (gi d 4).rows,.i (((gi d 5).int.toNat:Nat):Int),.l (gi d 6).rows]))
def SD:bq:=⟨6,[],⟨143,[(5,.s (.map 0)),(6,.s (.map 1)),(7,.s (.list ak)),(9,.s (.map 2)),(34,.s (.list [.str,.int .i64])),(35,.s (.int .i64)),(36,.s (.int .i64))],[.aQ 1 (.one (.int .i64)) [.str],.map (.one (.int .i64)) (.one (.bool)),.map (.one (.int .i64)) (.one (.bool))]⟩,[.slot 5,.slot 6,.slot 9],[⟨.exit 0,⟨143,[(5,.s (.map 0)),(6,.s (.map 1)),(7,.s (.list ak)),(9,.s (.map 2))],[.aQ 1 (.one (.int .i64)) [.str],.map (.one (.int .i64)) (.one (.bool)),.map (.one (.int .i64)) (.one (.bool))]⟩,[.slot 5,.slot 6,.slot 9]⟩],yL⟩
theorem agX:cW P (t108.ig [1500076]) Js 0 (cX f15 6) SD:=fun d=>by kernel_rfl
def Jt:LT:=Js.add 0 SD
theorem agY:ax P 0 Jt (aN f15):=ax.add hm (qu.ig [1500076]) (by kernel_rfl) agW agX
def yM(d:List G):Option (Option Nat × List G) :=
 let g:=dX [.int .i64] (gi d 0).rows [.i (gi d 23).int]; let z2:=(g++([[.s (gi d 8).str]]:List (List G))); let z3:=gv [.int .i64] (gi d 0).rows [.i (gi d 23).int]; (bif (ft [.int .i64] (gi d 0).rows [.i (gi d 23).int]) then (bif ((ab g.length g.length)&&(decide ((g.length+1)≤1048576))) then (bif (ab z2.length z2.length) then some (some 0,[.l (jK [.int .i64] z3 [.i (gi d 23).int] z2 (gi d 1).int.toNat),.i (((cU [.int .i64] z3 [.i (gi d 23).int] (gi d 1).int.toNat):Nat):Int),.l (gi d 2).rows,.i (((gi d 3).int.toNat:Nat):Int),.l (gi d 4).rows,.i (((gi d 5).int.toNat:Nat):Int),.l (bK [.int .i64] (gi d 6).rows [.i (gi d 23).int] [.t true] (gi d 7).int.toNat),.i (((cU [.int .i64] (gi d 6).rows [.i (gi d 23).int] (gi d 7).int.toNat):Nat):Int),.l (gi d 24).rows,.i (gi d 25).int,.i (gi d 26).int]) else none) else none) else none)
def SE:bq:=⟨19,[],⟨143,[(5,.s (.map 0)),(6,.s (.map 1)),(9,.s (.map 2)),(12,.s (.map 3)),(14,.s (.ptr 4 0)),(15,.s (.int .i64)),(69,.s (.list ak)),(70,.s (.int .i64)),(71,.s (.int .i64))],[.aQ 1 (.one (.int .i64)) [.str],.map (.one (.int .i64)) (.one (.bool)),.map (.one (.int .i64)) (.one (.bool)),.map (.one (.int .i64)) (.one (.bool)),.box [.str,.int .i64,.int .i64,.int .i64,.int .i64,.int .i64,.str,.str,.int .i64,.int .i64,.str,.str,.str,.str,.int .i64]]⟩,[.slot 5,.slot 6,.slot 9,.slot 12,.slot 14],[⟨.normal,⟨143,[(5,.s (.map 0)),(6,.s (.map 1)),(9,.s (.map 2)),(12,.s (.map 3)),(69,.s (.list ak)),(70,.s (.int .i64)),(71,.s (.int .i64))],[.aQ 1 (.one (.int .i64)) [.str],.map (.one (.int .i64)) (.one (.bool)),.map (.one (.int .i64)) (.one (.bool)),.map (.one (.int .i64)) (.one (.bool))]⟩,[.slot 5,.slot 6,.slot 9,.slot 12]⟩],yM⟩
theorem agZ:gh P (t108.ig [1500076]) Jt 0 (cutAt f15 19) SE:=fun d=>by kernel_rfl
def Ju:LT:=Jt.ff 0 SE
theorem ag0:ax P 0 Ju (aN f15):=ax.ff hm (qu.ig [1500076]) (by kernel_rfl) agY agZ
def yN(d:List G):Option (Option Nat × List G) :=
 let g:=(gi d 8).rows.getD (((gi d 10).int).toNat) []; let z3:=(((gi d 1).int.toNat:Nat):Int); let z4:=(((gi d 3).int.toNat:Nat):Int); let z5:=(((gi d 5).int.toNat:Nat):Int); let k:=(((gi d 7).int.toNat:Nat):Int); let z2:=(dD (yM [.l (gi d 0).rows,.i z3,.l (gi d 2).rows,.i z4,.l (bK [.int .i64] (gi d 4).rows [.i (gi g 8).int] [.t true] (gi d 5).int.toNat),.i (((cU [.int .i64] (gi d 4).rows [.i (gi g 8).int] (gi d 5).int.toNat):Nat):Int),.l (gi d 6).rows,.i k,.s (gi g 0).str,.i (gi g 1).int,.i (gi g 2).int,.i (gi g 3).int,.i (gi g 4).int,.i (gi g 5).int,.s (gi g 6).str,.s (gi g 7).str,.i (gi g 8).int,.i (gi g 9).int,.s (gi g 10).str,.s (gi g 11).str,.s (gi g 12).str,.s (gi g 13).str,.i (gi g 14).int,.i (gi g 8).int,.l (gi d 8).rows,.i (gi d 9).int,.i (gi d 10).int])); (bif (aB (gi d 10).int (gi d 9).int) then (bif ((a_ (gi d 10).int)&&(aB (gi d 10).int (((gi d 8).rows.length:Nat):Int))) then (bif ((gi g 8).int==0) then (bif (aw ((gi d 10).int+1)) then some (none,[.l (gi d 0).rows,.i z3,.l (gi d 2).rows,.i z4,.l (gi d 4).rows,.i z5,.l (gi d 6).rows,.i k,.l (gi d 8).rows,.i (gi d 9).int,.i ((gi d 10).int+1)]) else none) else (bif (gi (bZ [.int .i64] (gi d 4).rows [.i (gi g 8).int] [.t false]) 0).bool then (a7 true z2 fun q g6=>(bif (aw ((gi g6 10).int+1)) then some (none,[.l (gi g6 0).rows,.i (((gi g6 1).int.toNat:Nat):Int),.l (gi g6 2).rows,.i (((gi g6 3).int.toNat:Nat):Int),.l (gi g6 4).rows,.i (((gi g6 5).int.toNat:Nat):Int),.l (gi g6 6).rows,.i (((gi g6 7).int.toNat:Nat):Int),.l (gi g6 8).rows,.i (gi g6 9).int,.i ((gi g6 10).int+1)]) else none)) else (bif (gi (bZ [.int .i64] (gi d 2).rows [.i (gi g 8).int] [.t false]) 0).bool then (a7 true z2 fun A g7=>(bif (aw ((gi g7 10).int+1)) then some (none,[.l (gi g7 0).rows,.i (((gi g7 1).int.toNat:Nat):Int),.l (gi g7 2).rows,.i (((gi g7 3).int.toNat:Nat):Int),.l (gi g7 4).rows,.i (((gi g7 5).int.toNat:Nat):Int),.l (gi g7 6).rows,.i (((gi g7 7).int.toNat:Nat):Int),.l (gi g7 8).rows,.i (gi g7 9).int,.i ((gi g7 10).int+1)]) else none)) else (a7 true (dD (yM [.l (gi d 0).rows,.i z3,.l (gi d 2).rows,.i z4,.l (bK [.int .i64] (gi d 4).rows [.i (gi g 8).int] [.t (gi (bZ [.int .i64] (gi d 6).rows [.i (gi g 8).int] [.t false]) 0).bool] (gi d 5).int.toNat),.i (((cU [.int .i64] (gi d 4).rows [.i (gi g 8).int] (gi d 5).int.toNat):Nat):Int),.l (gi d 6).rows,.i k,.s (gi g 0).str,.i (gi g 1).int,.i (gi g 2).int,.i (gi g 3).int,.i (gi g 4).int,.i (gi g 5).int,.s (gi g 6).str,.s (gi g 7).str,.i (gi g 8).int,.i (gi g 9).int,.s (gi g 10).str,.s (gi g 11).str,.s (gi g 12).str,.s (gi g 13).str,.i (gi g 14).int,.i (gi g 8).int,.l (gi d 8).rows,.i (gi d 9).int,.i (gi d 10).int])) fun B g8=>(bif (aw ((gi g8 10).int+1)) then some (none,[.l (gi g8 0).rows,.i (((gi g8 1).int.toNat:Nat):Int),.l (gi g8 2).rows,.i (((gi g8 3).int.toNat:Nat):Int),.l (gi g8 4).rows,.i (((gi g8 5).int.toNat:Nat):Int),.l (gi g8 6).rows,.i (((gi g8 7).int.toNat:Nat):Int),.l (gi g8 8).rows,.i (gi g8 9).int,.i ((gi g8 10).int+1)]) else none))))) else none) else some (some 0,[.l (gi d 0).rows,.i z3,.l (gi d 4).rows,.i z5]))
def SF:bq:=⟨14,[],⟨143,[(5,.s (.map 0)),(6,.s (.map 1)),(9,.s (.map 2)),(12,.s (.map 3)),(69,.s (.list ak)),(70,.s (.int .i64)),(71,.s (.int .i64))],[.aQ 1 (.one (.int .i64)) [.str],.map (.one (.int .i64)) (.one (.bool)),.map (.one (.int .i64)) (.one (.bool)),.map (.one (.int .i64)) (.one (.bool))]⟩,[.slot 5,.slot 6,.slot 9,.slot 12],[⟨.exit 2,⟨143,[(5,.s (.map 0)),(9,.s (.map 1))],[.aQ 1 (.one (.int .i64)) [.str],.map (.one (.int .i64)) (.one (.bool))]⟩,[.slot 5,.slot 9]⟩],yN⟩
theorem ag1:cW P (t108.ig [1500076]) Ju 0 (cX f15 14) SF:=fun d=>by kernel_rfl
def Jv:LT:=Ju.add 0 SF
theorem ag2:ax P 0 Jv (aN f15):=ax.add hm (qu.ig [1500076]) (by kernel_rfl) ag0 ag1
def yO(d:List G):Option (Option Nat × List G) :=
 let z2:=gi ((gi d 3).rows.getD (0+((gi d 5).int).toNat) []) 0; let g:=dX [.int .i64] (gi d 0).rows [.i z2.int]; let z3:=ab (gi d 2).rows.length (gi d 2).rows.length; let z4:=yB [.l g]; (bif (aB (gi d 5).int (gi d 4).int) then (bif ((a_ (gi d 5).int)&&(aB (gi d 5).int (((gi d 3).rows.length:Nat):Int))) then (bif (decide ((0+((gi d 5).int).toNat)<(gi d 3).rows.length)) then (bif (ft [.int .i64] (gi d 0).rows [.i z2.int]) then (fS (((ab g.length g.length)&&true)&&z4.isSome) z4 fun g11=>let z5:=yD [.l (gi g11 0).rows]; (ar (oI [.i z2.int]) fun g12=>(fS (((ab g.length (gi g11 0).rows.length)&&true)&&z5.isSome) z5 fun g13=>let q:=(vn [.l ((gi g13 0).rows.take ((gi g13 1).int.toNat)),.s (⟨#[32]⟩:ByteArray)]); (fS (((Nat.ble (gi g13 1).int.toNat (gi g13 0).rows.length)&&true)&&q.isSome) q fun g14=>let k:=((gi d 2).rows++([[.s (gi g12 0).str,.s (gi g14 0).str]]:List (List G))); (bif (z3&&(decide (((gi d 2).rows.length+1)≤1048576))) then (bif (aw ((gi d 5).int+1)) then (bif ((ab k.length k.length)&&((ab (gi d 3).rows.length (gi d 3).rows.length)&&true)) then some (none,[.l (gv [.int .i64] (gi d 0).rows [.i z2.int]),.i (((gi d 1).int.toNat:Nat):Int),.l k,.l (gi d 3).rows,.i (gi d 4).int,.i ((gi d 5).int+1)]) else none) else none) else none))))) else none) else none) else none) else (bif (z3&&true) then some (some 0,[.l (gi d 2).rows]) else none))
def SG:bq:=⟨31,[(19,[.str,.str])],⟨143,[(5,.s (.map 0)),(19,.s (.vec 1 2)),(121,.s (.vec 2 1)),(122,.s (.int .i64)),(123,.s (.int .i64))],[.aQ 1 (.one (.int .i64)) [.str],.vec [.str,.str] 0,.vec [.int .i64] 0]⟩,[.slot 5,.slot 19,.slot 121],[⟨.exit 6,⟨143,[(19,.s (.vec 0 2))],[.vec [.str,.str] 0]⟩,[.slot 19]⟩],yO⟩
theorem ag3:cW P (t108.ig [1500076]) Jv 0 (cX f15 31) SG:=fun d=>by kernel_rfl
def C6:LT:=Jv.add 0 SG
theorem ag4:ax P 0 C6 (aN f15):=ax.add hm (qu.ig [1500076]) (by kernel_rfl) ag2 ag3
def yP(r d:List G):Option (List G) :=
 let g:=((gi d 2).rows++([[.i (gi (gi r 0).row 0).int]]:List (List G))); let z2:=ab (gi d 2).rows.length (gi d 2).rows.length; let z3:=(((gi d 1).int.toNat:Nat):Int); let z4:=(((gi d 3).int.toNat:Nat):Int); (bif (gi (gi r 1).row 0).bool then (bif (z2&&(decide (((gi d 2).rows.length+1)≤1048576))) then (bif ((ab g.length g.length)&&true) then some [.l (gi d 0).rows,.i z3,.l g,.i z4] else none) else none) else (bif (z2&&true) then some [.l (gi d 0).rows,.i z3,.l (gi d 2).rows,.i z4] else none))
def ag5(d:List G)(b:Nat):List G:=[.l (gi d 0).rows,.i (((gi d 1).int.toNat:Nat):Int),.l (gi d 4).rows,.i (b:Int)]
def ag6(d:List G)(b:Nat):Bool:=((ab (gi d 4).rows.length (gi d 4).rows.length)&&true)
def sA:eu:=⟨⟨143,[(5,.s (.map 0)),(16,.s (.vec 1 1)),(108,.s (.addr))],[.aQ 1 (.one (.int .i64)) [.str],.vec [.int .i64] 0]⟩,[.slot 5,.slot 16],[],(.one (.int .i64)),(.one (.bool)),1,0,107,108,109,110,111,fun d=>(gi d 3).int.toNat,ag5,ag6,yP⟩
theorem ag7:iH P (t108.ig [1500076]) C6 0 sA (lu (cutAt f15 23)) (np (cutAt f15 23)):=fun r d=>by kernel_rfl
def C7(d:List G):Option (Option Nat × List G) :=
 let g:=sg [.l (gi d 2).rows]; (fS (((ab (gi d 2).rows.length (gi d 2).rows.length)&&true)&&g.isSome) g fun g10=>(a7 ((ab (gi d 2).rows.length (gi g10 0).rows.length)&&true) (cd yO [.l (gi d 0).rows,.i (((gi d 1).int.toNat:Nat):Int),.l [],.l (gi g10 0).rows,.i (((gi d 2).rows.length:Nat):Int),.i 0]) fun k g15=>(bif ((ab (gi g15 0).rows.length (gi g15 0).rows.length)&&true) then some (some 0,[.l (gi g15 0).rows]) else none)))
def SH:bq:=⟨28,[],⟨143,[(5,.s (.map 0)),(16,.s (.vec 1 1)),(108,.s (.addr))],[.aQ 1 (.one (.int .i64)) [.str],.vec [.int .i64] 0]⟩,[],[⟨.ret,⟨143,[(4,.s (.vec 0 2))],[.vec [.str,.str] 0]⟩,[.slot 4]⟩],C7⟩
theorem ag8:gh P (t108.ig [1500076]) C6 0 (ls (cutAt f15 23)) SH:=fun d=>by kernel_rfl
def Jw(d:List G):Option (Option Nat × List G) :=
 iI sA C7 (gi d 2).rows ((gi d 3).int.toNat) d
def Jx:bq:=⟨23,[(16,[.int .i64])],⟨143,[(5,.s (.map 0)),(9,.s (.map 1)),(16,.s (.vec 2 1))],[.aQ 1 (.one (.int .i64)) [.str],.map (.one (.int .i64)) (.one (.bool)),.vec [.int .i64] 0]⟩,[.slot 5,.slot 9,.slot 16],[⟨.ret,⟨143,[(4,.s (.vec 0 2))],[.vec [.str,.str] 0]⟩,[.slot 4]⟩],Jw⟩
def SI:LT:=C6.ff 0 Jx
theorem ag9:ax P 0 SI (aN f15):=ax.Yo (q:=Jx) (qr:=SH) (sp:=sA) (r0:=23) (b0:=4) (r1:=24) (b1:=5) (r2:=25) (rows:=fun d=>(gi d 2).rows) (clock:=fun d=>(gi d 3).int.toNat) (pre:=fun d=>xz P (t108.ig [1500076]) (jP (cutAt f15 23)) (aF Jx.inv d)) hm (qu.ig [1500076]) (by kernel_rfl) ag4 (by kernel_rfl) (by kernel_rfl) ag7 (fun d=>by kernel_rfl) (fun d=>by kernel_rfl) (fun d=>by kernel_rfl) (fun d=>by kernel_rfl) (fun d=>by kernel_rfl) (fun d=>by kernel_rfl) (fun d b=>by kernel_rfl) (fun d b=>rfl) rfl rfl ag8 (fun d=>rfl)
def C8(d:List G):Option (List G) :=
 (ar (vg [.l (gi d 0).rows,.i (gi d 1).int]) fun g1=>(ar (vk [.l (gi d 0).rows,.i (gi d 1).int]) fun g2=>(a7 true (cd yL [.l [],.i 0,.l [],.i 0,.l [],.i 0,.l (gi g1 0).rows,.l (gi g2 0).rows,.i (((gi g2 0).rows.length:Nat):Int),.i 0]) fun k g5=>(a7 true (cd yN [.l (gi g5 0).rows,.i (((gi g5 1).int.toNat:Nat):Int),.l (gi g5 2).rows,.i (((gi g5 3).int.toNat:Nat):Int),.l (gi g5 4).rows,.i (((gi g5 5).int.toNat:Nat):Int),.l [],.i 0,.l (gi g5 6).rows,.i (((gi g5 6).rows.length:Nat):Int),.i 0]) fun q g9=>(a7 true (dD (Jw [.l (gi g9 0).rows,.i (((gi g9 1).int.toNat:Nat):Int),.l (gi g9 2).rows,.i (((gi g9 3).int.toNat:Nat):Int),.l []])) fun g g16=>(bif ((ab (gi g16 0).rows.length (gi g16 0).rows.length)&&true) then some [.l (gi g16 0).rows] else none))))))
def Jy:aA:=⟨15,[.s (.list ak),.s (.int .i64)],[],[],[.s (.list [.str,.str])],[],[],[],C8⟩
theorem ag_:bf P (t108.ig [1500076]) SI f15 Jy:=fun d=>by kernel_rfl
theorem ag':aZ P Jy:=xh hm (qu.ig [1500076]) func15 (by kernel_rfl) ag9 ag_ (by kernel_rfl)
def t109:ah:=t108.bz Jy
theorem SJ:aj P t109:=qu.aP ag'

def Jz(d:List G):Option (List G) :=
 (ar (qo [.l (gi d 0).rows,.i 0,.i 0,.i 18]) fun g1=>(ar (x9 [.l (gi g1 0).rows,.i (gi g1 1).int,.i (gi g1 2).int]) fun g2=>(ar (B5 [.l (gi g2 0).rows,.i (gi g2 1).int]) fun g3=>(ar (Ck [.l (gi g2 2).rows,.i (gi g3 2).int]) fun g4=>(ar (Cp [.l (gi g2 2).rows,.i (gi g3 2).int]) fun g5=>(ar (C5 [.l (gi g2 2).rows,.i (gi g3 2).int]) fun g6=>(ar (yn [.l (gi g2 2).rows]) fun g7=>(ar (CA [.i (gi g3 2).int]) fun g8=>(ar (CB [.l [[.i (gi g7 0).int],[.i (gi g8 0).int]]]) fun g9=>let g:=(gi g5 1).int==(gi g9 0).int; let z2:=(gi g6 1).int==(gi g9 0).int; (bif ((gi g9 0).int==0) then (ar (CS [.l (gi g2 2).rows,.i (gi g3 2).int]) fun g10=>(ar (CU [.l (gi g2 2).rows,.i (gi g3 2).int]) fun g11=>(ar (C8 [.l (gi g2 2).rows,.i (gi g3 2).int]) fun g12=>(bif ((gi g4 1).int==(gi g10 1).int) then (bif ((gi g4 0).int==(gi g10 0).int) then (bif g then (ar (vm [.l (gi g5 0).rows,.l (gi g11 0).rows]) fun g13=>(bif (gi g13 0).bool then (bif z2 then (ar (vm [.l (gi g6 0).rows,.l (gi g12 0).rows]) fun g14=>(bif (gi g14 0).bool then (ar (uQ []) fun g15=>some [.t (gi g15 0).bool]) else some [.t false])) else some [.t false]) else some [.t false])) else some [.t false]) else some [.t false]) else some [.t false])))) else (bif ((gi g4 1).int==(gi g9 0).int) then (bif ((gi g4 0).int==0) then (bif g then (ar (vm [.l (gi g5 0).rows,.l []]) fun g16=>(bif (gi g16 0).bool then (bif z2 then (ar (vm [.l (gi g6 0).rows,.l []]) fun g17=>(bif (gi g17 0).bool then (ar (uQ []) fun g18=>some [.t (gi g18 0).bool]) else some [.t false])) else some [.t false]) else some [.t false])) else some [.t false]) else some [.t false]) else some [.t false])))))))))))
def JA:aA:=⟨3,[.s (.list [.int .i64])],[],[],[.s (.bool)],[],[],[],Jz⟩
theorem aha:bf P t109 az f3 JA:=fun d=>by kernel_rfl
theorem SL:aZ P JA:=bt hm SJ func3 (aK _ _ _) aha
def t110:ah:=t109.bz JA
theorem akN:aj P t110:=SJ.aP SL

end
end Go.Proofs.gT
