/-
 What is proved here: functions of the program as functions on data. No condition.
-/
import Derived.Test.YtgglclbdiagpoaaGreatDoorML2
set_option linter.all false
open List renaming replicate→bU
open Nat renaming beq→af
namespace Go.Proofs.iU
open Go Go.AL Go.Proofs
noncomputable section
def AF(d:List G):Option (Option Nat × List G) :=
 (bif (ak (gi d 5).int (gi d 4).int) then (bif ((aI (gi d 5).int)&&(ak (gi d 5).int (((gi d 3).rows.length:Nat):Int))) then (aj (AE [.s (gi ((gi d 3).rows.getD (((gi d 5).int).toNat) []) 0).str,.i (gi d 1).int]) fun g1=>(bif ((af (gi d 0).rows.length (gi d 0).rows.length)&&(decide (((gi d 0).rows.length+1)≤1048576))) then (bif (gi d 2).bool then (bif (ay ((gi d 5).int+1)) then (bif ((af ((gi d 0).rows++([[.i (gi g1 0).int]]:List (List G))).length ((gi d 0).rows++([[.i (gi g1 0).int]]:List (List G))).length)&&true) then some (none,[.l ((gi d 0).rows++([[.i (gi g1 0).int]]:List (List G))),.i (gi d 1).int,.t (gi g1 1).bool,.l (gi d 3).rows,.i (gi d 4).int,.i ((gi d 5).int+1)]) else none) else none) else (bif (ay ((gi d 5).int+1)) then (bif ((af ((gi d 0).rows++([[.i (gi g1 0).int]]:List (List G))).length ((gi d 0).rows++([[.i (gi g1 0).int]]:List (List G))).length)&&true) then some (none,[.l ((gi d 0).rows++([[.i (gi g1 0).int]]:List (List G))),.i (gi d 1).int,.t false,.l (gi d 3).rows,.i (gi d 4).int,.i ((gi d 5).int+1)]) else none) else none)) else none)) else none) else (bif ((af (gi d 0).rows.length (gi d 0).rows.length)&&true) then some (some 0,[.l (gi d 0).rows,.t (gi d 2).bool]) else none))
def OH:bH:=⟨4,[(6,[.int .i64])],⟨35,[(1,.s (.int .i64)),(6,.s (.vec 0 1)),(7,.s (.bool)),(12,.s (.list [.str])),(13,.s (.int .i64)),(14,.s (.int .i64))],[.vec [.int .i64] 0]⟩,[.slot 6],[⟨.exit 0,⟨35,[(6,.s (.vec 0 1)),(7,.s (.bool))],[.vec [.int .i64] 0]⟩,[.slot 6]⟩],AF⟩
theorem abA:cP P t70 az 0 (cS Tryz.f39 4) OH:=fun d=>by kernel_rfl
def OI:LT:=az.add 0 OH
theorem abB:aJ P 0 OI (ba Tryz.f39):=aJ.a hm FX (aT _ _ _) abA
def AG(d:List G):Option (List G) :=
 (bh true (cu AF [.l [],.i (gi d 1).int,.t true,.l (gi d 0).rows,.i (((gi d 0).rows.length:Nat):Int),.i 0]) fun g g2=>(bif ((af (gi g2 0).rows.length (gi g2 0).rows.length)&&true) then some [.l (gi g2 0).rows,.t (gi g2 1).bool] else none))
def FY:ax:=⟨39,[.s (.list [.str]),.s (.int .i64)],[],[],[.s (.list [.int .i64]),.s (.bool)],[],[],[],AG⟩
theorem abC:aO P t70 OI Tryz.f39 FY:=fun d=>by kernel_rfl
theorem abD:aM P FY:=aN hm FX Tryz.func39 abB abC
def t71:au:=t70.aS FY
theorem OJ:aw P t71:=FX.aP abD

def AH(d:List G):Option (List G) :=
 (bif ((gi d 0).str.toList==(⟨#[45]⟩:ByteArray).toList) then some [.s (⟨#[]⟩:ByteArray)] else some [.s (gi d 0).str])
def FZ:ax:=⟨41,[.s (.str)],[],[],[.s (.str)],[],[],[],AH⟩
theorem abE:aO P t71 az Tryz.f41 FZ:=fun d=>by kernel_rfl
theorem abF:aM P FZ:=aN hm OJ Tryz.func41 (aT _ _ _) abE
def t72:au:=t71.aS FZ
theorem OK:aw P t72:=OJ.aP abF

def wD(d:List G):Option (List G) :=
 (aj (Az [.s (gi d 1).str]) fun g1=>(bif (!(gi g1 1).bool) then (bif ((((af (gi d 0).rows.length (gi d 0).rows.length)&&true)&&true)&&true) then some [.l (gi d 0).rows,.t false] else none) else (bif ((((gi g1 0).rows.length:Nat):Int) != 4) then (bif ((((af (gi d 0).rows.length (gi d 0).rows.length)&&true)&&true)&&true) then some [.l (gi d 0).rows,.t false] else none) else (bif (ak 0 (((gi g1 0).rows.length:Nat):Int)) then (bif (ak 3 (((gi g1 0).rows.length:Nat):Int)) then (aj (AG [.l [[.s (gi ((gi g1 0).rows.getD 0 []) 0).str],[.s (gi ((gi g1 0).rows.getD 3 []) 0).str]],.i 15]) fun g2=>(bif (ak 0 (((gi g2 0).rows.length:Nat):Int)) then (aj (zY []) fun g3=>(bif (ak 1 (((gi g1 0).rows.length:Nat):Int)) then (aj (qu [.l (gi g3 0).rows,.s (gi ((gi g1 0).rows.getD 1 []) 0).str]) fun g4=>(bif (ak 2 (((gi g1 0).rows.length:Nat):Int)) then (aj (AH [.s (gi ((gi g1 0).rows.getD 2 []) 0).str]) fun g5=>(bif (ak 1 (((gi g2 0).rows.length:Nat):Int)) then (bif ((af (gi d 0).rows.length (gi d 0).rows.length)&&(decide (((gi d 0).rows.length+1)≤1048576))) then (bif (gi g2 1).bool then (bif ((((af ((gi d 0).rows++([[.i (gi ((gi g2 0).rows.getD 0 []) 0).int,.i (gi g4 0).int,.s (gi g5 0).str,.i (gi ((gi g2 0).rows.getD 1 []) 0).int]]:List (List G))).length ((gi d 0).rows++([[.i (gi ((gi g2 0).rows.getD 0 []) 0).int,.i (gi g4 0).int,.s (gi g5 0).str,.i (gi ((gi g2 0).rows.getD 1 []) 0).int]]:List (List G))).length)&&true)&&true)&&true) then some [.l ((gi d 0).rows++([[.i (gi ((gi g2 0).rows.getD 0 []) 0).int,.i (gi g4 0).int,.s (gi g5 0).str,.i (gi ((gi g2 0).rows.getD 1 []) 0).int]]:List (List G))),.t (ak 0 (gi g4 0).int)] else none) else (bif ((((af ((gi d 0).rows++([[.i (gi ((gi g2 0).rows.getD 0 []) 0).int,.i (gi g4 0).int,.s (gi g5 0).str,.i (gi ((gi g2 0).rows.getD 1 []) 0).int]]:List (List G))).length ((gi d 0).rows++([[.i (gi ((gi g2 0).rows.getD 0 []) 0).int,.i (gi g4 0).int,.s (gi g5 0).str,.i (gi ((gi g2 0).rows.getD 1 []) 0).int]]:List (List G))).length)&&true)&&true)&&true) then some [.l ((gi d 0).rows++([[.i (gi ((gi g2 0).rows.getD 0 []) 0).int,.i (gi g4 0).int,.s (gi g5 0).str,.i (gi ((gi g2 0).rows.getD 1 []) 0).int]]:List (List G))),.t false] else none)) else none) else none)) else none)) else none)) else none)) else none) else none))))
def F0:ax:=⟨37,[.s (.str),.s (.ptr 0 0)],[.box [.vec 1 4],.vec aQ 0],[.slot 1,.cell 0 0],[.s (.bool)],[.box [.vec 1 4],.vec aQ 1],[.fix 0,.fix 1],[],wD⟩
theorem abG:aO P t72 (az.ku [(5,[.hole aQ])]) Tryz.f37 F0:=fun d=>by kernel_rfl
theorem abH:aM P F0:=aN hm OK Tryz.func37 (oI _) abG
def t73:au:=t72.c9 F0
theorem F1:aw P t73:=OK.aW abH

def AI(d:List G):Option (Option Nat × List G) :=
 (bif (!((gi d 1).str.toList==(⟨#[]⟩:ByteArray).toList)) then (aj (lv [.s (gi d 1).str,.s (⟨#[10]⟩:ByteArray)]) fun g1=>(bif (!(gi g1 2).bool) then (bif ((((af (gi d 0).rows.length (gi d 0).rows.length)&&true)&&true)&&true) then some (some 0,[.l (gi d 0).rows,.i (gi d 2).int,.t false]) else none) else (sw (((((af (gi d 0).rows.length (gi d 0).rows.length)&&true)&&true)&&true)&&(wD [.l (gi d 0).rows,.s (gi g1 0).str]).isSome) (wD [.l (gi d 0).rows,.s (gi g1 0).str]) fun g2=>(bif (!(gi g2 1).bool) then (bif ((((af (gi g2 0).rows.length (gi g2 0).rows.length)&&true)&&true)&&true) then some (some 0,[.l (gi g2 0).rows,.i (gi d 2).int,.t false]) else none) else (bif (ay ((gi d 2).int+1)) then (bif ((((af (gi g2 0).rows.length (gi g2 0).rows.length)&&true)&&true)&&true) then some (none,[.l (gi g2 0).rows,.s (gi g1 1).str,.i ((gi d 2).int+1)]) else none) else none))))) else (bif ((((af (gi d 0).rows.length (gi d 0).rows.length)&&true)&&true)&&true) then some (some 1,[.l (gi d 0).rows]) else none))
def OL:bH:=⟨2,[],⟨30,[(0,.s (.str)),(1,.clo 37 [.ptr 0 0]),(6,.s (.int .i64))],[.box [.vec 1 4],.vec aQ 1]⟩,[.fix 0,.cell 0 0],[⟨.ret,⟨30,[(4,.s (.int .i64)),(5,.s (.bool))],[.box [.vec 1 4],.vec aQ 1]⟩,[.fix 0,.cell 0 0]⟩,⟨.exit 0,⟨30,[],[.box [.vec 1 4],.vec aQ 1]⟩,[.fix 0,.cell 0 0]⟩],AI⟩
theorem abI:cP P t73 az 2 (cS Tryz.f36 2) OL:=fun d=>by kernel_rfl
def OM:LT:=az.add 2 OL
theorem abJ:aJ P 2 OM (ba Tryz.f36):=aJ.a hm F1 (aT _ _ _) abI
def AJ(d:List G):Option (List G) :=
 (bh ((((af (gi d 0).rows.length (gi d 0).rows.length)&&true)&&true)&&true) (cu AI [.l (gi d 0).rows,.s (gi d 1).str,.i 0]) fun g g3=>(bif af g 0 then (bif ((((af (gi g3 0).rows.length (gi g3 0).rows.length)&&true)&&true)&&true) then some [.l (gi g3 0).rows,.i (gi g3 1).int,.t (gi g3 2).bool] else none) else (bif ((((af (gi g3 0).rows.length (gi g3 0).rows.length)&&true)&&true)&&true) then some [.l (gi g3 0).rows,.i 0,.t true] else none)))
def F2:ax:=⟨36,[.s (.str),.clo 37 [.ptr 0 0]],[.box [.vec 1 4],.vec aQ 0],[.cap 1 0,.cell 0 0],[.s (.int .i64),.s (.bool)],[.box [.vec 1 4],.vec aQ 1],[.fix 0,.fix 1],[],AJ⟩
theorem abK:aO P t73 OM Tryz.f36 F2:=fun d=>by kernel_rfl
theorem abL:aM P F2:=aN hm F1 Tryz.func36 abJ abK
def t74:au:=t73.c9 F2
theorem F3:aw P t74:=F1.aW abL

def ON(d:List G):Option (Option Nat × List G) :=
 (bif (ak (gi d 3).int (gi d 2).int) then (bif ((aI (gi d 3).int)&&(ak (gi d 3).int (((gi d 0).rows.length:Nat):Int))) then (bif ((aI (gi d 3).int)&&(ak (gi d 3).int (((gi d 1).rows.length:Nat):Int))) then (bif (!(bL aQ (be aQ ((gi d 0).rows.getD (((gi d 3).int).toNat) [])) (be aQ ((gi d 1).rows.getD (((gi d 3).int).toNat) [])))) then some (some 0,[.t false]) else (bif (ay ((gi d 3).int+1)) then some (none,[.l (gi d 0).rows,.l (gi d 1).rows,.i (gi d 2).int,.i ((gi d 3).int+1)]) else none)) else none) else none) else some (some 1,[]))
def OO:bH:=⟨4,[],⟨26,[(0,.s (.list aQ)),(1,.s (.list aQ)),(12,.s (.int .i64)),(13,.s (.int .i64))],[]⟩,[],[⟨.ret,⟨26,[(4,.s (.bool))],[]⟩,[]⟩,⟨.exit 0,⟨26,[],[]⟩,[]⟩],ON⟩
theorem abM:cP P t74 az 0 (cS Tryz.f12 4) OO:=fun d=>by kernel_rfl
def OP:LT:=az.add 0 OO
theorem abN:aJ P 0 OP (ba Tryz.f12):=aJ.a hm F3 (aT _ _ _) abM
def AK(d:List G):Option (List G) :=
 (bif ((((gi d 0).rows.length:Nat):Int) != (((gi d 1).rows.length:Nat):Int)) then some [.t false] else (bh true (cu ON [.l (gi d 0).rows,.l (gi d 1).rows,.i (((gi d 0).rows.length:Nat):Int),.i 0]) fun g g1=>(bif af g 0 then some [.t (gi g1 0).bool] else some [.t true])))
def F4:ax:=⟨12,[.s (.list aQ),.s (.list aQ)],[],[],[.s (.bool)],[],[],[],AK⟩
theorem abO:aO P t74 OP Tryz.f12 F4:=fun d=>by kernel_rfl
theorem abP:aM P F4:=aN hm F3 Tryz.func12 abN abO
def t75:au:=t74.aS F4
theorem OQ:aw P t75:=F3.aP abP

def wE(d:List G):Option (List G) :=
 (bif (ak 0 (gi (gi d 0).row 0).int) then (bif (ay ((gi (gi d 0).row 0).int-1)) then (bif ((aI ((gi (gi d 0).row 0).int-1))&&(ak ((gi (gi d 0).row 0).int-1) (((gi (gi d 2).row 0).rows.length:Nat):Int))) then (bif ((Op.bytesLess (gi (gi d 1).row 0).str.toList (gi ((gi (gi d 2).row 0).rows.getD (((gi (gi d 0).row 0).int-1).toNat) []) 0).str.toList)||((gi (gi d 1).row 0).str.toList==(gi ((gi (gi d 2).row 0).rows.getD (((gi (gi d 0).row 0).int-1).toNat) []) 0).str.toList)) then some [.i 7] else some [.i 0]) else none) else none) else some [.i 0])
def F5:ax:=⟨100,[.s (.cptr [.int .i64]),.s (.cptr [.str,.list aD]),.s (.cptr [.list [.str,.list aD]])],[],[],[.s (.int .i64)],[],[],[],wE⟩
theorem abQ:aO P t75 az Tryz.f100 F5:=fun d=>by kernel_rfl
theorem abR:aM P F5:=aN hm OQ Tryz.func100 (aT _ _ _) abQ
def t76:au:=t75.aS F5
theorem OR:aw P t76:=OQ.aP abR

def F6(d:List G):Option (List G) :=
 (aj (jV [.i (gi d 0).int,.i 0,.i 345686399999]) fun g1=>some [.t (!(gi g1 0).bool)])
def F7:ax:=⟨170,[.s (.int .i64)],[],[],[.s (.bool)],[],[],[],F6⟩
theorem abS:aO P t76 az Tryz.f170 F7:=fun d=>by kernel_rfl
theorem abT:aM P F7:=aN hm OR Tryz.func170 (aT _ _ _) abS
def t77:au:=t76.aS F7
theorem OS:aw P t77:=OR.aP abT

def F8(d:List G):Option (List G) :=
 (aj (jV [.i (gi d 0).int,.i 1,.i 3]) fun g1=>some [.t (!(gi g1 0).bool)])
def F9:ax:=⟨171,[.s (.int .i64)],[],[],[.s (.bool)],[],[],[],F8⟩
theorem abU:aO P t77 az Tryz.f171 F9:=fun d=>by kernel_rfl
theorem abV:aM P F9:=aN hm OS Tryz.func171 (aT _ _ _) abU
def t78:au:=t77.aS F9
theorem OT:aw P t78:=OS.aP abV

def wF(d:List G):Option (List G) :=
 (bif (!((gi d 0).str.toList==(⟨#[]⟩:ByteArray).toList)) then (bif (aG (((gi d 0).str.size:Nat):Int) 40) then (bif (ak 0 (((gi d 0).str.size:Nat):Int)) then (aj (sO [.s (⟨#[97,98,99,100,101,102,103,104,105,106,107,108,109,110,111,112,113,114,115,116,117,118,119,120,121,122]⟩:ByteArray),.i (((gi d 0).str.data.toList.getD 0 0).toNat:Int)]) fun g1=>(bif (aG 0 (gi g1 0).int) then (aj (kF [.s (gi d 0).str,.s (⟨#[97,98,99,100,101,102,103,104,105,106,107,108,109,110,111,112,113,114,115,116,117,118,119,120,121,122,48,49,50,51,52,53,54,55,56,57,45,95]⟩:ByteArray)]) fun g2=>some [.t ((gi g2 0).str.toList==(⟨#[]⟩:ByteArray).toList)]) else some [.t false])) else none) else some [.t false]) else some [.t false])
def F_:ax:=⟨172,[.s (.str)],[],[],[.s (.bool)],[],[],[],wF⟩
theorem abW:aO P t78 az Tryz.f172 F_:=fun d=>by kernel_rfl
theorem abX:aM P F_:=aN hm OT Tryz.func172 (aT _ _ _) abW
def t79:au:=t78.aS F_
theorem OU:aw P t79:=OT.aP abX

def wG(d:List G):Option (List G) :=
 (bif ((gi d 0).str.toList==(⟨#[]⟩:ByteArray).toList) then some [.t true] else (aj (wF [.s (gi d 0).str]) fun g1=>some [.t (gi g1 0).bool]))
def F':ax:=⟨173,[.s (.str)],[],[],[.s (.bool)],[],[],[],wG⟩
theorem abY:aO P t79 az Tryz.f173 F':=fun d=>by kernel_rfl
theorem abZ:aM P F':=aN hm OU Tryz.func173 (aT _ _ _) abY
def t80:au:=t79.aS F'
theorem OV:aw P t80:=OU.aP abZ

def AM(d:List G):Option (List G) :=
 (aj (F6 [.i (gi (gi d 0).row 0).int]) fun g1=>(bif (!(gi g1 0).bool) then some [.i 1] else (aj (F8 [.i (gi (gi d 0).row 1).int]) fun g2=>(bif (!(gi g2 0).bool) then some [.i 4] else (aj (wF [.s (gi (gi d 0).row 2).str]) fun g3=>(bif (!(gi g3 0).bool) then some [.i 5] else (aj (qp [.s (gi (gi d 0).row 3).str]) fun g4=>(bif (!(gi g4 0).bool) then some [.i 3] else (aj (jV [.i (gi (gi d 0).row 4).int,.i 0,.i 99999]) fun g5=>(bif (gi g5 0).bool then some [.i 1] else (aj (jV [.i (gi (gi d 0).row 5).int,.i 0,.i 99999]) fun g6=>(bif (gi g6 0).bool then some [.i 1] else (aj (wG [.s (gi (gi d 0).row 6).str]) fun g7=>(bif (!(gi g7 0).bool) then some [.i 5] else (aj (wG [.s (gi (gi d 0).row 7).str]) fun g8=>(bif (!(gi g8 0).bool) then some [.i 5] else some [.i 0]))))))))))))))))
def Ga:ax:=⟨161,[.s (.row aD)],[],[],[.s (.int .i64)],[],[],[],AM⟩
theorem ab0:aO P t80 az Tryz.f161 Ga:=fun d=>by kernel_rfl
theorem ab1:aM P Ga:=aN hm OV Tryz.func161 (aT _ _ _) ab0
def t81:au:=t80.aS Ga
theorem OW:aw P t81:=OV.aP ab1

def AN(d:List G):Option (List G) :=
 some [.t ((gi d 0).int != (gi d 0).int)]
def Gb:ax:=⟨182,[.s (.int .i64)],[],[],[.s (.bool)],[],[],[],AN⟩
theorem ab2:aO P t81 az Tryz.f182 Gb:=fun d=>by kernel_rfl
theorem ab3:aM P Gb:=aN hm OW Tryz.func182 (aT _ _ _) ab2
def t82:au:=t81.aS Gb
theorem OX:aw P t82:=OW.aP ab3

def wH(d:List G):Option (List G) :=
 (aj (AN [.i (gi d 0).int]) fun g1=>(aj (AN [.i (gi d 1).int]) fun g2=>(bif (gi g1 0).bool then (bif (gi g2 0).bool then some [.i 0] else some [.i (-1)]) else (bif (gi g2 0).bool then some [.i 1] else (bif (ak (gi d 0).int (gi d 1).int) then some [.i (-1)] else (bif (ak (gi d 1).int (gi d 0).int) then some [.i 1] else some [.i 0]))))))
def Gc:ax:=⟨175,[.s (.int .i64),.s (.int .i64)],[],[],[.s (.int .i64)],[],[],[],wH⟩
theorem ab4:aO P t82 az Tryz.f175 Gc:=fun d=>by kernel_rfl
theorem ab5:aM P Gc:=aN hm OX Tryz.func175 (aT _ _ _) ab4
def t83:au:=t82.aS Gc
theorem Gd:aw P t83:=OX.aP ab5

def sZ(d:List G):Option (Option Nat × List G) :=
 (bif (ak (gi d 3).int (gi d 2).int) then (bif ((aI (gi d 3).int)&&(ak (gi d 3).int (((gi d 1).rows.length:Nat):Int))) then (bif ((gi ((gi d 1).rows.getD (((gi d 3).int).toNat) []) 0).int != (gi d 0).int) then some (some 0,[.i (gi ((gi d 1).rows.getD (((gi d 3).int).toNat) []) 0).int]) else (bif (ay ((gi d 3).int+1)) then some (none,[.i (gi d 0).int,.l (gi d 1).rows,.i (gi d 2).int,.i ((gi d 3).int+1)]) else none)) else none) else some (some 1,[.i (gi d 0).int]))
def OY:bH:=⟨3,[],⟨18,[(3,.s (.int .i64)),(6,.s (.list [.int .i64])),(7,.s (.int .i64)),(8,.s (.int .i64))],[]⟩,[],[⟨.ret,⟨18,[(2,.s (.int .i64))],[]⟩,[]⟩,⟨.exit 0,⟨18,[(3,.s (.int .i64))],[]⟩,[]⟩],sZ⟩
theorem ab6:cP P t83 az 0 (cS Tryz.f174 3) OY:=fun d=>by kernel_rfl
def OZ:LT:=az.add 0 OY
theorem ab7:aJ P 0 OZ (ba Tryz.f174):=aJ.a hm Gd (aT _ _ _) ab6
def AO(d:List G):Option (List G) :=
 (bh true (cu sZ [.i 0,.l (gi d 0).rows,.i (((gi d 0).rows.length:Nat):Int),.i 0]) fun g g1=>(bif af g 0 then some [.i (gi g1 0).int] else some [.i (gi g1 0).int]))
def Ge:ax:=⟨174,[.s (.list [.int .i64])],[],[],[.s (.int .i64)],[],[],[],AO⟩
theorem ab8:aO P t83 OZ Tryz.f174 Ge:=fun d=>by kernel_rfl
theorem ab9:aM P Ge:=aN hm Gd Tryz.func174 ab7 ab8
def t84:au:=t83.aS Ge
theorem O0:aw P t84:=Gd.aP ab9

def AP(d:List G):Option (List G) :=
 (aj (wH [.i (gi (gi d 0).row 0).int,.i (gi (gi d 1).row 0).int]) fun g1=>(aj (qk [.s (gi (gi d 0).row 3).str,.s (gi (gi d 1).row 3).str]) fun g2=>(aj (qk [.s (gi (gi d 0).row 2).str,.s (gi (gi d 1).row 2).str]) fun g3=>(aj (wH [.i (gi (gi d 0).row 1).int,.i (gi (gi d 1).row 1).int]) fun g4=>(aj (AO [.l [[.i (gi g1 0).int],[.i (gi g2 0).int],[.i (gi g3 0).int],[.i (gi g4 0).int]]]) fun g5=>some [.i (gi g5 0).int])))))
def Gf:ax:=⟨162,[.s (.row aD),.s (.row aD)],[],[],[.s (.int .i64)],[],[],[],AP⟩
theorem ab_:aO P t84 az Tryz.f162 Gf:=fun d=>by kernel_rfl
theorem ab':aM P Gf:=aN hm O0 Tryz.func162 (aT _ _ _) ab_
def t85:au:=t84.aS Gf
theorem Gg:aw P t85:=O0.aP ab'

def O1(d:List G):Option (Option Nat × List G) :=
 (bif (ak (gi d 3).int (gi d 2).int) then (bif ((aI (gi d 3).int)&&(ak (gi d 3).int (((gi d 1).rows.length:Nat):Int))) then (aj (AM [.l [(be aD ((gi d 1).rows.getD (((gi d 3).int).toNat) []))]]) fun g1=>(bif ((gi g1 0).int != 0) then some (some 0,[.i (gi g1 0).int]) else (bif (ak 0 (gi d 3).int) then (bif (ay ((gi d 3).int-1)) then (bif ((aI ((gi d 3).int-1))&&(ak ((gi d 3).int-1) (((gi d 0).rows.length:Nat):Int))) then (aj (AP [.l [(be aD ((gi d 0).rows.getD (((gi d 3).int-1).toNat) []))],.l [(be aD ((gi d 1).rows.getD (((gi d 3).int).toNat) []))]]) fun g2=>(bif (aG 0 (gi g2 0).int) then some (some 0,[.i 7]) else (bif (ay ((gi d 3).int+1)) then some (none,[.l (gi d 0).rows,.l (gi d 1).rows,.i (gi d 2).int,.i ((gi d 3).int+1)]) else none))) else none) else none) else (bif (ay ((gi d 3).int+1)) then some (none,[.l (gi d 0).rows,.l (gi d 1).rows,.i (gi d 2).int,.i ((gi d 3).int+1)]) else none)))) else none) else some (some 1,[]))
def O2:bH:=⟨4,[],⟨34,[(0,.s (.list aD)),(9,.s (.list aD)),(10,.s (.int .i64)),(11,.s (.int .i64))],[]⟩,[],[⟨.ret,⟨34,[(2,.s (.int .i64))],[]⟩,[]⟩,⟨.exit 0,⟨34,[],[]⟩,[]⟩],O1⟩
theorem aca:cP P t85 az 0 (cS Tryz.f140 4) O2:=fun d=>by kernel_rfl
def O3:LT:=az.add 0 O2
theorem acb:aJ P 0 O3 (ba Tryz.f140):=aJ.a hm Gg (aT _ _ _) aca
def Gh(d:List G):Option (List G) :=
 (bif (ak 2000 (((gi d 0).rows.length:Nat):Int)) then some [.i 2] else (bh true (cu O1 [.l (gi d 0).rows,.l (gi d 0).rows,.i (((gi d 0).rows.length:Nat):Int),.i 0]) fun g g3=>(bif af g 0 then some [.i (gi g3 0).int] else some [.i 0])))
def Gi:ax:=⟨140,[.s (.list aD)],[],[],[.s (.int .i64)],[],[],[],Gh⟩
theorem acd:aO P t85 O3 Tryz.f140 Gi:=fun d=>by kernel_rfl
theorem ace:aM P Gi:=aN hm Gg Tryz.func140 acb acd
def t86:au:=t85.aS Gi
theorem O4:aw P t86:=Gg.aP ace

def O5(d:List G):Option (List G) :=
 some [.t ((gi (gi d 0).row 3).str.toList==(gi (gi d 1).row 0).str.toList)]
def Gj:ax:=⟨142,[.s (.row aD),.s (.cptr [.str,.list aD])],[],[],[.s (.bool)],[],[],[],O5⟩
theorem acf:aO P t86 az Tryz.f142 Gj:=fun d=>by kernel_rfl
theorem acg:aM P Gj:=aN hm O4 Tryz.func142 (aT _ _ _) acf
def t87:au:=t86.aS Gj
theorem Gk:aw P t87:=O4.aP acg

def wI(d:List G):Option (Option Nat × List G) :=
 (bif (ak (gi d 3).int (gi d 2).int) then (bif ((aI (gi d 3).int)&&(ak (gi d 3).int (((gi d 0).rows.length:Nat):Int))) then (aj (O5 [.l [(be aD ((gi d 0).rows.getD (((gi d 3).int).toNat) []))],.l [(be [.str,.list aD] (gi d 1).row)]]) fun g1=>(bif (gi g1 0).bool then some (some 0,[.i (gi d 3).int]) else (bif (ay ((gi d 3).int+1)) then some (none,[.l (gi d 0).rows,.l [(be [.str,.list aD] (gi d 1).row)],.i (gi d 2).int,.i ((gi d 3).int+1)]) else none))) else none) else some (some 1,[]))
def O6:bH:=⟨2,[],⟨19,[(0,.s (.list aD)),(1,.clo 142 [.cptr [.str,.list aD]]),(7,.s (.int .i64)),(8,.s (.int .i64))],[]⟩,[],[⟨.ret,⟨19,[(4,.s (.int .i64))],[]⟩,[]⟩,⟨.exit 0,⟨19,[],[]⟩,[]⟩],wI⟩
theorem ach:cP P t87 az 0 (cS Tryz.f163 2) O6:=fun d=>by kernel_rfl
def O7:LT:=az.add 0 O6
theorem aci:aJ P 0 O7 (ba Tryz.f163):=aJ.a hm Gk (aT _ _ _) ach
def Gl(d:List G):Option (List G) :=
 (bh true (cu wI [.l (gi d 0).rows,.l [(be [.str,.list aD] (gi d 1).row)],.i (((gi d 0).rows.length:Nat):Int),.i 0]) fun g g2=>(bif af g 0 then some [.i (gi g2 0).int] else some [.i (-1)]))
def Gm:ax:=⟨163,[.s (.list aD),.clo 142 [.cptr [.str,.list aD]]],[],[],[.s (.int .i64)],[],[],[],Gl⟩
theorem acj:aO P t87 O7 Tryz.f163 Gm:=fun d=>by kernel_rfl
theorem ack:aM P Gm:=aN hm Gk Tryz.func163 aci acj
def t88:au:=t87.aS Gm
theorem O8:aw P t88:=Gk.aP ack

def AQ(d:List G):Option (List G) :=
 (aj (Gl [.l (gi d 0).rows,.l [(be [.str,.list aD] (gi d 1).row)]]) fun g1=>some [.t (aG 0 (gi g1 0).int)])
def Gn:ax:=⟨141,[.s (.list aD),.clo 142 [.cptr [.str,.list aD]]],[],[],[.s (.bool)],[],[],[],AQ⟩
theorem acm:aO P t88 az Tryz.f141 Gn:=fun d=>by kernel_rfl
theorem acn:aM P Gn:=aN hm O8 Tryz.func141 (aT _ _ _) acm
def t89:au:=t88.aS Gn
theorem O9:aw P t89:=O8.aP acn

def AR(d:List G):Option (List G) :=
 (aj (qp [.s (gi (gi d 0).row 0).str]) fun g1=>(bif (!(gi g1 0).bool) then some [.i 3] else (aj (wE [.l [[.i (gi (gi d 1).row 0).int]],.l [(be [.str,.list aD] (gi d 2).row)],.l [[.l (gi (gi d 3).row 0).rows]]]) fun g2=>(bif ((gi g2 0).int != 0) then some [.i (gi g2 0).int] else (aj (Gh [.l (gi (gi d 0).row 1).rows]) fun g3=>(bif ((gi g3 0).int != 0) then some [.i (gi g3 0).int] else (aj (AQ [.l (gi (gi d 0).row 1).rows,.l [(be [.str,.list aD] (gi d 0).row)]]) fun g4=>(bif (gi g4 0).bool then some [.i 6] else some [.i 0]))))))))
def Gp:ax:=⟨101,[.s (.row [.str,.list aD]),.clo 100 [.cptr [.int .i64],.cptr [.str,.list aD],.cptr [.list [.str,.list aD]]]],[],[],[.s (.int .i64)],[],[],[],AR⟩
theorem aco:aO P (t89.fy [141]) az Tryz.f101 Gp:=fun d=>by kernel_rfl
theorem acp:aM P Gp:=qa hm (O9.fy [141]) Tryz.func101 (by kernel_rfl) (aT _ _ _) aco (by kernel_rfl)
def t90:au:=t89.aS Gp
theorem Gq:aw P t90:=O9.aP acp

def s7(d:List G):Option (Option Nat × List G) :=
 (bif (ak (gi d 3).int (gi d 2).int) then (bif ((aI (gi d 3).int)&&(ak (gi d 3).int (((gi d 1).rows.length:Nat):Int))) then (aj (AR [.l [(be [.str,.list aD] ((gi d 1).rows.getD (((gi d 3).int).toNat) []))],.l [[.i (gi d 3).int]],.l [(be [.str,.list aD] ((gi d 1).rows.getD (((gi d 3).int).toNat) []))],.l [[.l (gi d 0).rows]]]) fun g1=>(bif ((gi g1 0).int != 0) then some (some 0,[.i (gi g1 0).int]) else (bif (ay ((gi d 3).int+1)) then some (none,[.l (gi d 0).rows,.l (gi d 1).rows,.i (gi d 2).int,.i ((gi d 3).int+1)]) else none))) else none) else some (some 1,[]))
def O_:bH:=⟨4,[],⟨25,[(1,.s (.ptr 0 0)),(10,.s (.list [.str,.list aD])),(11,.s (.int .i64)),(12,.s (.int .i64))],[.box [.list [.str,.list aD]]]⟩,[.slot 1],[⟨.ret,⟨25,[(2,.s (.int .i64))],[]⟩,[]⟩,⟨.exit 0,⟨25,[],[]⟩,[]⟩],s7⟩
theorem acq:cP P (t90.fy [101]) az 0 (cS Tryz.f74 4) O_:=fun d=>by kernel_rfl
def O':LT:=az.add 0 O_
theorem acr:aJ P 0 O' (ba Tryz.f74):=aJ.add hm (Gq.fy [101]) (by kernel_rfl) (aT _ _ _) acq
def AS(d:List G):Option (List G) :=
 (bif (ak 100 (((gi d 0).rows.length:Nat):Int)) then some [.i 2] else (bh true (cu s7 [.l (gi d 0).rows,.l (gi d 0).rows,.i (((gi d 0).rows.length:Nat):Int),.i 0]) fun g g2=>(bif af g 0 then some [.i (gi g2 0).int] else some [.i 0])))
def Gr:ax:=⟨74,[.s (.list [.str,.list aD])],[],[],[.s (.int .i64)],[],[],[],AS⟩
theorem acs:aO P (t90.fy [101]) O' Tryz.f74 Gr:=fun d=>by kernel_rfl
theorem acu:aM P Gr:=qa hm (Gq.fy [101]) Tryz.func74 (by kernel_rfl) acr acs (by kernel_rfl)
def t91:au:=t90.aS Gr
theorem Pa:aw P t91:=Gq.aP acu

def Pb(d:List G):Option (List G) :=
 (aj (jV [.i (gi d 0).int,.i 0,.i 3600000]) fun g1=>(bif (gi g1 0).bool then some [.i 1] else some [.i 0]))
def Gs:ax:=⟨75,[.s (.int .i64)],[],[],[.s (.int .i64)],[],[],[],Pb⟩
theorem acv:aO P t91 az Tryz.f75 Gs:=fun d=>by kernel_rfl
theorem acw:aM P Gs:=aN hm Pa Tryz.func75 (aT _ _ _) acv
def t92:au:=t91.aS Gs
theorem Pc:aw P t92:=Pa.aP acw

def Gt(d:List G):Option (List G) :=
 (aj (qk [.s (gi (gi d 0).row 0).str,.s (gi d 1).str]) fun g1=>some [.i (gi g1 0).int])
def Gu:ax:=⟨103,[.s (.row [.str,.list aD]),.s (.str)],[],[],[.s (.int .i64)],[],[],[],Gt⟩
theorem acx:aO P t92 az Tryz.f103 Gu:=fun d=>by kernel_rfl
theorem acy:aM P Gu:=aN hm Pc Tryz.func103 (aT _ _ _) acx
def t93:au:=t92.aS Gu
theorem Gv:aw P t93:=Pc.aP acy

def s8(d:List G):Option (Option Nat × List G) :=
 (bif (ak (gi d 3).int (gi d 4).int) then (bif (ay ((gi d 3).int+(gi d 4).int)) then (bif (ay (j7 .u64 (IntKind.u64.wrap ((gi d 3).int+(gi d 4).int)) 1)) then (bif ((aI (j7 .u64 (IntKind.u64.wrap ((gi d 3).int+(gi d 4).int)) 1))&&(ak (j7 .u64 (IntKind.u64.wrap ((gi d 3).int+(gi d 4).int)) 1) (((gi d 0).rows.length:Nat):Int))) then (aj (Gt [.l [(be [.str,.list aD] ((gi d 0).rows.getD ((j7 .u64 (IntKind.u64.wrap ((gi d 3).int+(gi d 4).int)) 1).toNat) []))],.s (gi d 1).str]) fun g1=>(bif (ak (gi g1 0).int 0) then (bif (ay ((j7 .u64 (IntKind.u64.wrap ((gi d 3).int+(gi d 4).int)) 1)+1)) then some (none,[.l (gi d 0).rows,.s (gi d 1).str,.i (gi d 2).int,.i ((j7 .u64 (IntKind.u64.wrap ((gi d 3).int+(gi d 4).int)) 1)+1),.i (gi d 4).int]) else none) else some (none,[.l (gi d 0).rows,.s (gi d 1).str,.i (gi d 2).int,.i (gi d 3).int,.i (j7 .u64 (IntKind.u64.wrap ((gi d 3).int+(gi d 4).int)) 1)]))) else none) else none) else none) else some (some 0,[.l (gi d 0).rows,.s (gi d 1).str,.i (gi d 2).int,.i (gi d 3).int]))
def Pd:bH:=⟨3,[],⟨49,[(0,.s (.list [.str,.list aD])),(1,.s (.str)),(2,.s (.fn 103)),(8,.s (.int .i64)),(9,.s (.int .i64)),(10,.s (.int .i64))],[]⟩,[],[⟨.exit 0,⟨49,[(0,.s (.list [.str,.list aD])),(1,.s (.str)),(2,.s (.fn 103)),(8,.s (.int .i64)),(9,.s (.int .i64))],[]⟩,[]⟩],s8⟩
theorem acz:cP P t93 az 0 (cS Tryz.f102 3) Pd:=fun d=>by kernel_rfl
def Pe:LT:=az.add 0 Pd
theorem acA:aJ P 0 Pe (ba Tryz.f102):=aJ.a hm Gv (aT _ _ _) acz
def Gw(d:List G):Option (List G) :=
 (bh true (cu s8 [.l (gi d 0).rows,.s (gi d 1).str,.i (((gi d 0).rows.length:Nat):Int),.i 0,.i (((gi d 0).rows.length:Nat):Int)]) fun g g2=>(bif (ak (gi g2 3).int (gi g2 2).int) then (bif ((aI (gi g2 3).int)&&(ak (gi g2 3).int (((gi g2 0).rows.length:Nat):Int))) then (aj (Gt [.l [(be [.str,.list aD] ((gi g2 0).rows.getD (((gi g2 3).int).toNat) []))],.s (gi g2 1).str]) fun g3=>some [.i (gi g2 3).int,.t ((gi g3 0).int==0)]) else none) else some [.i (gi g2 3).int,.t false]))
def Gx:ax:=⟨102,[.s (.list [.str,.list aD]),.s (.str),.s (.fn 103)],[],[],[.s (.int .i64),.s (.bool)],[],[],[],Gw⟩
theorem acB:aO P t93 Pe Tryz.f102 Gx:=fun d=>by kernel_rfl
theorem acC:aM P Gx:=aN hm Gv Tryz.func102 acA acB
def t94:au:=t93.aS Gx
theorem Pf:aw P t94:=Gv.aP acC

def wK(d:List G):Option (List G) :=
 (aj (Gw [.l (gi d 0).rows,.s (gi d 1).str]) fun g1=>some [.i (gi g1 0).int,.t (gi g1 1).bool])
def Gy:ax:=⟨76,[.s (.list [.str,.list aD]),.s (.str)],[],[],[.s (.int .i64),.s (.bool)],[],[],[],wK⟩
theorem acD:aO P t94 az Tryz.f76 Gy:=fun d=>by kernel_rfl
theorem acE:aM P Gy:=aN hm Pf Tryz.func76 (aT _ _ _) acD
def t95:au:=t94.aS Gy
theorem Pg:aw P t95:=Pf.aP acE

def Ph(d:List G):Option (List G) :=
 some [.l (gi d 0).rows,.i (gi d 1).int,.i (gi d 2).int,.l [],.i 0,.l [],.i 0]
def Gz:ax:=⟨77,[.s (.list [.str,.list aD]),.s (.int .i64),.s (.int .i64)],[],[],[.s (.ptr 0 0)],[.box [.list [.str,.list aD],.int .i64,.int .i64,.map 1,.map 2],.map (.one (.int .i64)) (.one (.int .i64)),.map (.one (.int .i64)) (.one (.int .i64))],[.slot 0,.cell 0 3,.cell 0 4],[],Ph⟩
theorem acF:aO P t95 az Tryz.f77 Gz:=fun d=>by kernel_rfl
theorem acG:aM P Gz:=aN hm Pg Tryz.func77 (aT _ _ _) acF
def t96:au:=t95.c9 Gz
theorem GA:aw P t96:=Pg.aW acG

def s9(d:List G):Option (Option Nat × List G) :=
 (bif (ak (gi d 5).int (gi d 4).int) then (bif ((aI (gi d 5).int)&&(ak (gi d 5).int (((gi d 3).rows.length:Nat):Int))) then (bif ((gi ((gi d 3).rows.getD (((gi d 5).int).toNat) []) 3).str.toList==(gi d 2).str.toList) then (bif (ob [.str,.int .i64] (gi d 0).rows [.s (gi ((gi d 3).rows.getD (((gi d 5).int).toNat) []) 2).str,.i (gi ((gi d 3).rows.getD (((gi d 5).int).toNat) []) 1).int]) then (bif ((af (gK [.str,.int .i64] (gi d 0).rows [.s (gi ((gi d 3).rows.getD (((gi d 5).int).toNat) []) 2).str,.i (gi ((gi d 3).rows.getD (((gi d 5).int).toNat) []) 1).int]).length (gK [.str,.int .i64] (gi d 0).rows [.s (gi ((gi d 3).rows.getD (((gi d 5).int).toNat) []) 2).str,.i (gi ((gi d 3).rows.getD (((gi d 5).int).toNat) []) 1).int]).length)&&(decide (((gK [.str,.int .i64] (gi d 0).rows [.s (gi ((gi d 3).rows.getD (((gi d 5).int).toNat) []) 2).str,.i (gi ((gi d 3).rows.getD (((gi d 5).int).toNat) []) 1).int]).length+1)≤1048576))) then (bif ((rY (lT [.str,.int .i64] (gi d 0).rows [.s (gi ((gi d 3).rows.getD (((gi d 5).int).toNat) []) 2).str,.i (gi ((gi d 3).rows.getD (((gi d 5).int).toNat) []) 1).int] ((gi d 1).int.toNat)) (((lS [.str,.int .i64] (gi d 0).rows [.s (gi ((gi d 3).rows.getD (((gi d 5).int).toNat) []) 2).str,.i (gi ((gi d 3).rows.getD (((gi d 5).int).toNat) []) 1).int] ((gi d 1).int.toNat)):Nat):Int))&&(af ((gK [.str,.int .i64] (gi d 0).rows [.s (gi ((gi d 3).rows.getD (((gi d 5).int).toNat) []) 2).str,.i (gi ((gi d 3).rows.getD (((gi d 5).int).toNat) []) 1).int])++([[.i (gi d 5).int]]:List (List G))).length ((gK [.str,.int .i64] (gi d 0).rows [.s (gi ((gi d 3).rows.getD (((gi d 5).int).toNat) []) 2).str,.i (gi ((gi d 3).rows.getD (((gi d 5).int).toNat) []) 1).int])++([[.i (gi d 5).int]]:List (List G))).length)) then (bif (ay ((gi d 5).int+1)) then some (none,[.l (rX (lT [.str,.int .i64] (gi d 0).rows [.s (gi ((gi d 3).rows.getD (((gi d 5).int).toNat) []) 2).str,.i (gi ((gi d 3).rows.getD (((gi d 5).int).toNat) []) 1).int] ((gi d 1).int.toNat)) (((lS [.str,.int .i64] (gi d 0).rows [.s (gi ((gi d 3).rows.getD (((gi d 5).int).toNat) []) 2).str,.i (gi ((gi d 3).rows.getD (((gi d 5).int).toNat) []) 1).int] ((gi d 1).int.toNat)):Nat):Int) ((gK [.str,.int .i64] (gi d 0).rows [.s (gi ((gi d 3).rows.getD (((gi d 5).int).toNat) []) 2).str,.i (gi ((gi d 3).rows.getD (((gi d 5).int).toNat) []) 1).int])++([[.i (gi d 5).int]]:List (List G)))),.i (((gx [.str,.int .i64] (gi d 0).rows [.s (gi ((gi d 3).rows.getD (((gi d 5).int).toNat) []) 2).str,.i (gi ((gi d 3).rows.getD (((gi d 5).int).toNat) []) 1).int] ((gi d 1).int.toNat)):Nat):Int),.s (gi d 2).str,.l (gi d 3).rows,.i (gi d 4).int,.i ((gi d 5).int+1)]) else none) else none) else none) else none) else (bif (ay ((gi d 5).int+1)) then some (none,[.l (gi d 0).rows,.i (((gi d 1).int.toNat:Nat):Int),.s (gi d 2).str,.l (gi d 3).rows,.i (gi d 4).int,.i ((gi d 5).int+1)]) else none)) else none) else some (some 0,[.l (gi d 0).rows,.i (((gi d 1).int.toNat:Nat):Int)]))
def Pj:bH:=⟨3,[],⟨36,[(1,.s (.str)),(5,.s (.map 0)),(10,.s (.list aD)),(11,.s (.int .i64)),(12,.s (.int .i64))],[.aY 1 (.agg [.str,.int .i64]) [.int .i64]]⟩,[.slot 5],[⟨.exit 0,⟨36,[(5,.s (.map 0))],[.aY 1 (.agg [.str,.int .i64]) [.int .i64]]⟩,[.slot 5]⟩],s9⟩
theorem acH:cP P t96 (az.ku [(2,[.aY 5 1]),(9,[.zg 5])]) 0 (cS Tryz.f176 3) Pj:=fun d=>by kernel_rfl
def Pk:LT:=(az.ku [(2,[.aY 5 1]),(9,[.zg 5])]).add 0 Pj
theorem acI:aJ P 0 Pk (ba Tryz.f176):=aJ.a hm GA (oI _) acH
def wL(d:List G):Option (List G) :=
 (bh true (cu s9 [.l [],.i 0,.s (gi d 1).str,.l (gi d 0).rows,.i (((gi d 0).rows.length:Nat):Int),.i 0]) fun g g1=>(bif ((zn (gi g1 0).rows)&&true) then some [.l (gi g1 0).rows,.i (((gi g1 1).int.toNat:Nat):Int)] else none))
def GB:ax:=⟨176,[.s (.list aD),.s (.str)],[],[],[.s (.map 0)],[.map (.agg [.str,.int .i64]) (.one (.list [.int .i64]))],[.slot 0],[],wL⟩
theorem acJ:aO P t96 Pk Tryz.f176 GB:=fun d=>by kernel_rfl
theorem acK:aM P GB:=aN hm GA Tryz.func176 acI acJ
def t97:au:=t96.c9 GB
theorem Pl:aw P t97:=GA.aW acK

def s_(d:List G):Option (List G) :=
 (bif (ay ((gi (gi d 0).row 0).int-(gi (gi d 1).row 0).int)) then (bif (ay ((gi (gi d 1).row 0).int-(gi (gi d 0).row 0).int)) then some [.i (if ((gi (gi d 1).row 0).int-(gi (gi d 0).row 0).int)>((gi (gi d 0).row 0).int-(gi (gi d 1).row 0).int) then ((gi (gi d 1).row 0).int-(gi (gi d 0).row 0).int) else ((gi (gi d 0).row 0).int-(gi (gi d 1).row 0).int))] else none) else none)
def GC:ax:=⟨187,[.s (.row aD),.s (.row aD)],[],[],[.s (.int .i64)],[],[],[],s_⟩
theorem acL:aO P t97 az Tryz.f187 GC:=fun d=>by kernel_rfl
theorem acM:aM P GC:=aN hm Pl Tryz.func187 (aT _ _ _) acL
def t98:au:=t97.aS GC
theorem Pm:aw P t98:=Pl.aP acM

def ta(d:List G):Option (List G) :=
 (bif ((gi (gi d 0).row 2).str.toList==(gi (gi d 1).row 2).str.toList) then (bif ((gi (gi d 0).row 1).int==(gi (gi d 1).row 1).int) then (aj (s_ [.l [(be aD (gi d 0).row)],.l [(be aD (gi d 1).row)]]) fun g1=>some [.t (aG (gi g1 0).int (gi d 2).int)]) else some [.t false]) else some [.t false])
def GD:ax:=⟨181,[.s (.row aD),.s (.row aD),.s (.int .i64)],[],[],[.s (.bool)],[],[],[],ta⟩
theorem acN:aO P t98 az Tryz.f181 GD:=fun d=>by kernel_rfl
theorem acO:aM P GD:=aN hm Pm Tryz.func181 (aT _ _ _) acN
def t99:au:=t98.aS GD
theorem Pn:aw P t99:=Pm.aP acO

def wM(d:List G):Option (List G) :=
 (bif ((aI (gi d 6).int)&&(ak (gi d 6).int (((gi d 2).rows.length:Nat):Int))) then (bif ((aI (gi ((gi d 2).rows.getD (((gi d 6).int).toNat) []) 0).int)&&(ak (gi ((gi d 2).rows.getD (((gi d 6).int).toNat) []) 0).int (((gi d 0).rows.length:Nat):Int))) then (bif ((aI (gi d 7).int)&&(ak (gi d 7).int (((gi d 3).rows.length:Nat):Int))) then (bif ((aI (gi ((gi d 3).rows.getD (((gi d 7).int).toNat) []) 0).int)&&(ak (gi ((gi d 3).rows.getD (((gi d 7).int).toNat) []) 0).int (((gi d 1).rows.length:Nat):Int))) then (aj (s_ [.l [(be aD ((gi d 0).rows.getD (((gi ((gi d 2).rows.getD (((gi d 6).int).toNat) []) 0).int).toNat) []))],.l [(be aD ((gi d 1).rows.getD (((gi ((gi d 3).rows.getD (((gi d 7).int).toNat) []) 0).int).toNat) []))]]) fun g1=>(bif (ay (10000000000-(gi g1 0).int)) then (aj (ta [.l [(be aD ((gi d 0).rows.getD (((gi ((gi d 2).rows.getD (((gi d 6).int).toNat) []) 0).int).toNat) []))],.l [(be aD ((gi d 1).rows.getD (((gi ((gi d 3).rows.getD (((gi d 7).int).toNat) []) 0).int).toNat) []))],.i (gi d 4).int]) fun g2=>(bif ((((af (gi d 5).rows.length (gi d 5).rows.length)&&true)&&true)&&true) then some [.l (gi d 0).rows,.l (gi d 1).rows,.l (gi d 2).rows,.l (gi d 3).rows,.i (gi d 4).int,.l (gi d 5).rows,.i (10000000000-(gi g1 0).int),.t (gi g2 0).bool] else none)) else none)) else none) else none) else none) else none)
def GF:ax:=⟨184,[.s (.ptr 0 0),.s (.int .i64),.s (.int .i64)],[.box [.list aD,.list aD,.list [.int .i64],.list [.int .i64],.int .i64,.vec 1 1],.vec [.list [.int .i64]] 0],[.slot 0,.cell 0 5],[.s (.int .i64),.s (.bool)],[.box [.list aD,.list aD,.list [.int .i64],.list [.int .i64],.int .i64,.vec 1 1],.vec [.list [.int .i64]] 0],[.fix 0,.fix 1],[],wM⟩
theorem acP:aO P t99 (az.ku [(1,[.hole aD,.hole aD])]) Tryz.f184 GF:=fun d=>by kernel_rfl
theorem acQ:aM P GF:=aN hm Pn Tryz.func184 (oI _) acP
def t100:au:=t99.c9 GF
theorem wN:aw P t100:=Pn.aW acQ

def wO(d:List G):Option (Option Nat × List G) :=
 (bif (ay ((gi d 8).int-1)) then (bif ((((af (gi d 5).rows.length (gi d 5).rows.length)&&true)&&true)&&((af (gi d 6).rows.length (gi d 6).rows.length)&&true)) then some (some 0,[.l (gi d 0).rows,.l (gi d 1).rows,.l (gi d 2).rows,.l (gi d 3).rows,.i (gi d 4).int,.l (gi d 5).rows,.l (gi d 6).rows,.i (gi d 7).int,.i ((gi d 8).int-1)]) else none) else none)
def Po:bH:=⟨8,[],⟨118,[(0,.s (.ptr 0 0)),(2,.s (.int .i64)),(3,.s (.vec 2 1)),(4,.s (.int .i64))],[.box [.list aD,.list aD,.list [.int .i64],.list [.int .i64],.int .i64,.vec 1 1],.vec [.list [.int .i64]] 0,.vec [.int .i64] 0]⟩,[.fix 0,.cell 0 5,.slot 3],[⟨.normal,⟨118,[(0,.s (.ptr 0 0)),(2,.s (.int .i64)),(3,.s (.vec 2 1)),(4,.s (.int .i64))],[.box [.list aD,.list aD,.list [.int .i64],.list [.int .i64],.int .i64,.vec 1 1],.vec [.list [.int .i64]] 0,.vec [.int .i64] 0]⟩,[.fix 0,.cell 0 5,.slot 3]⟩],wO⟩
theorem acR:iQ P t100 az 1 (cutAt Tryz.f183 8) Po:=fun d=>by kernel_rfl
def GG:LT:=az.gQ 1 Po
theorem acS:aJ P 1 GG (ba Tryz.f183):=aJ.aC hm wN (aT _ _ _) acR
def wP(d:List G):Option (Option Nat × List G) :=
 (bif (aG 0 (gi d 8).int) then (bif (ay ((gi d 7).int+1)) then (bif ((aI ((gi d 7).int+1))&&(ak ((gi d 7).int+1) (((gi d 5).rows.length:Nat):Int))) then (bif (decide ((0+((gi d 7).int+1).toNat)<(gi d 5).rows.length)) then (bif ((aI (gi d 8).int)&&(ak (gi d 8).int (((gi ((gi d 5).rows.getD (0+((gi d 7).int+1).toNat) []) 0).rows.length:Nat):Int))) then (bif (ay ((gi d 8).int+1)) then (bif ((aI ((gi d 8).int+1))&&(ak ((gi d 8).int+1) (((gi d 6).rows.length:Nat):Int))) then (bif (decide ((0+((gi d 8).int+1).toNat)<(gi d 6).rows.length)) then (bif ((aI (gi d 8).int)&&(ak (gi d 8).int (((gi d 6).rows.length:Nat):Int))) then (bif (decide ((0+((gi d 8).int).toNat)<(gi d 6).rows.length)) then (sw (((((af (gi d 5).rows.length (gi d 5).rows.length)&&true)&&true)&&true)&&(wM [.l (gi d 0).rows,.l (gi d 1).rows,.l (gi d 2).rows,.l (gi d 3).rows,.i (gi d 4).int,.l (gi d 5).rows,.i (gi d 7).int,.i (gi d 8).int]).isSome) (wM [.l (gi d 0).rows,.l (gi d 1).rows,.l (gi d 2).rows,.l (gi d 3).rows,.i (gi d 4).int,.l (gi d 5).rows,.i (gi d 7).int,.i (gi d 8).int]) fun g1=>(bif (gi g1 7).bool then (bif ((aI (gi d 8).int)&&(ak (gi d 8).int (((gi d 6).rows.length:Nat):Int))) then (bif (decide ((0+((gi d 8).int).toNat)<((gi d 6).rows.set (0+((gi d 8).int).toNat) (a7 [.int .i64] ((gi d 6).rows.getD (0+((gi d 8).int).toNat) []) 0 [.i (if (gi ((gi d 6).rows.getD (0+((gi d 8).int+1).toNat) []) 0).int>(gi ((gi ((gi d 5).rows.getD (0+((gi d 7).int+1).toNat) []) 0).rows.getD (((gi d 8).int).toNat) []) 0).int then (gi ((gi d 6).rows.getD (0+((gi d 8).int+1).toNat) []) 0).int else (gi ((gi ((gi d 5).rows.getD (0+((gi d 7).int+1).toNat) []) 0).rows.getD (((gi d 8).int).toNat) []) 0).int)])).length)) then (bif (ay ((gi d 7).int+1)) then (bif ((aI ((gi d 7).int+1))&&(ak ((gi d 7).int+1) (((gi g1 5).rows.length:Nat):Int))) then (bif (decide ((0+((gi d 7).int+1).toNat)<(gi g1 5).rows.length)) then (bif (ay ((gi d 8).int+1)) then (bif ((aI ((gi d 8).int+1))&&(ak ((gi d 8).int+1) (((gi ((gi g1 5).rows.getD (0+((gi d 7).int+1).toNat) []) 0).rows.length:Nat):Int))) then (bif (ay ((gi g1 6).int+(gi ((gi ((gi g1 5).rows.getD (0+((gi d 7).int+1).toNat) []) 0).rows.getD (((gi d 8).int+1).toNat) []) 0).int)) then (bif ((aI (gi d 8).int)&&(ak (gi d 8).int (((gi d 6).rows.length:Nat):Int))) then (bif (decide ((0+((gi d 8).int).toNat)<((gi d 6).rows.set (0+((gi d 8).int).toNat) (a7 [.int .i64] ((gi d 6).rows.getD (0+((gi d 8).int).toNat) []) 0 [.i (if (gi ((gi d 6).rows.getD (0+((gi d 8).int+1).toNat) []) 0).int>(gi ((gi ((gi d 5).rows.getD (0+((gi d 7).int+1).toNat) []) 0).rows.getD (((gi d 8).int).toNat) []) 0).int then (gi ((gi d 6).rows.getD (0+((gi d 8).int+1).toNat) []) 0).int else (gi ((gi ((gi d 5).rows.getD (0+((gi d 7).int+1).toNat) []) 0).rows.getD (((gi d 8).int).toNat) []) 0).int)])).length)) then (bh ((((af (gi g1 5).rows.length (gi g1 5).rows.length)&&true)&&true)&&((af (gi d 6).rows.length (((gi d 6).rows.set (0+((gi d 8).int).toNat) (a7 [.int .i64] ((gi d 6).rows.getD (0+((gi d 8).int).toNat) []) 0 [.i (if (gi ((gi d 6).rows.getD (0+((gi d 8).int+1).toNat) []) 0).int>(gi ((gi ((gi d 5).rows.getD (0+((gi d 7).int+1).toNat) []) 0).rows.getD (((gi d 8).int).toNat) []) 0).int then (gi ((gi d 6).rows.getD (0+((gi d 8).int+1).toNat) []) 0).int else (gi ((gi ((gi d 5).rows.getD (0+((gi d 7).int+1).toNat) []) 0).rows.getD (((gi d 8).int).toNat) []) 0).int)])).set (0+((gi d 8).int).toNat) (a7 [.int .i64] (((gi d 6).rows.set (0+((gi d 8).int).toNat) (a7 [.int .i64] ((gi d 6).rows.getD (0+((gi d 8).int).toNat) []) 0 [.i (if (gi ((gi d 6).rows.getD (0+((gi d 8).int+1).toNat) []) 0).int>(gi ((gi ((gi d 5).rows.getD (0+((gi d 7).int+1).toNat) []) 0).rows.getD (((gi d 8).int).toNat) []) 0).int then (gi ((gi d 6).rows.getD (0+((gi d 8).int+1).toNat) []) 0).int else (gi ((gi ((gi d 5).rows.getD (0+((gi d 7).int+1).toNat) []) 0).rows.getD (((gi d 8).int).toNat) []) 0).int)])).getD (0+((gi d 8).int).toNat) []) 0 [.i (if ((gi g1 6).int+(gi ((gi ((gi g1 5).rows.getD (0+((gi d 7).int+1).toNat) []) 0).rows.getD (((gi d 8).int+1).toNat) []) 0).int)>(gi (((gi d 6).rows.set (0+((gi d 8).int).toNat) (a7 [.int .i64] ((gi d 6).rows.getD (0+((gi d 8).int).toNat) []) 0 [.i (if (gi ((gi d 6).rows.getD (0+((gi d 8).int+1).toNat) []) 0).int>(gi ((gi ((gi d 5).rows.getD (0+((gi d 7).int+1).toNat) []) 0).rows.getD (((gi d 8).int).toNat) []) 0).int then (gi ((gi d 6).rows.getD (0+((gi d 8).int+1).toNat) []) 0).int else (gi ((gi ((gi d 5).rows.getD (0+((gi d 7).int+1).toNat) []) 0).rows.getD (((gi d 8).int).toNat) []) 0).int)])).getD (0+((gi d 8).int).toNat) []) 0).int then ((gi g1 6).int+(gi ((gi ((gi g1 5).rows.getD (0+((gi d 7).int+1).toNat) []) 0).rows.getD (((gi d 8).int+1).toNat) []) 0).int) else (gi (((gi d 6).rows.set (0+((gi d 8).int).toNat) (a7 [.int .i64] ((gi d 6).rows.getD (0+((gi d 8).int).toNat) []) 0 [.i (if (gi ((gi d 6).rows.getD (0+((gi d 8).int+1).toNat) []) 0).int>(gi ((gi ((gi d 5).rows.getD (0+((gi d 7).int+1).toNat) []) 0).rows.getD (((gi d 8).int).toNat) []) 0).int then (gi ((gi d 6).rows.getD (0+((gi d 8).int+1).toNat) []) 0).int else (gi ((gi ((gi d 5).rows.getD (0+((gi d 7).int+1).toNat) []) 0).rows.getD (((gi d 8).int).toNat) []) 0).int)])).getD (0+((gi d 8).int).toNat) []) 0).int)])).length)&&true)) (dD (wO [.l (gi g1 0).rows,.l (gi g1 1).rows,.l (gi g1 2).rows,.l (gi g1 3).rows,.i (gi g1 4).int,.l (gi g1 5).rows,.l (((gi d 6).rows.set (0+((gi d 8).int).toNat) (a7 [.int .i64] ((gi d 6).rows.getD (0+((gi d 8).int).toNat) []) 0 [.i (if (gi ((gi d 6).rows.getD (0+((gi d 8).int+1).toNat) []) 0).int>(gi ((gi ((gi d 5).rows.getD (0+((gi d 7).int+1).toNat) []) 0).rows.getD (((gi d 8).int).toNat) []) 0).int then (gi ((gi d 6).rows.getD (0+((gi d 8).int+1).toNat) []) 0).int else (gi ((gi ((gi d 5).rows.getD (0+((gi d 7).int+1).toNat) []) 0).rows.getD (((gi d 8).int).toNat) []) 0).int)])).set (0+((gi d 8).int).toNat) (a7 [.int .i64] (((gi d 6).rows.set (0+((gi d 8).int).toNat) (a7 [.int .i64] ((gi d 6).rows.getD (0+((gi d 8).int).toNat) []) 0 [.i (if (gi ((gi d 6).rows.getD (0+((gi d 8).int+1).toNat) []) 0).int>(gi ((gi ((gi d 5).rows.getD (0+((gi d 7).int+1).toNat) []) 0).rows.getD (((gi d 8).int).toNat) []) 0).int then (gi ((gi d 6).rows.getD (0+((gi d 8).int+1).toNat) []) 0).int else (gi ((gi ((gi d 5).rows.getD (0+((gi d 7).int+1).toNat) []) 0).rows.getD (((gi d 8).int).toNat) []) 0).int)])).getD (0+((gi d 8).int).toNat) []) 0 [.i (if ((gi g1 6).int+(gi ((gi ((gi g1 5).rows.getD (0+((gi d 7).int+1).toNat) []) 0).rows.getD (((gi d 8).int+1).toNat) []) 0).int)>(gi (((gi d 6).rows.set (0+((gi d 8).int).toNat) (a7 [.int .i64] ((gi d 6).rows.getD (0+((gi d 8).int).toNat) []) 0 [.i (if (gi ((gi d 6).rows.getD (0+((gi d 8).int+1).toNat) []) 0).int>(gi ((gi ((gi d 5).rows.getD (0+((gi d 7).int+1).toNat) []) 0).rows.getD (((gi d 8).int).toNat) []) 0).int then (gi ((gi d 6).rows.getD (0+((gi d 8).int+1).toNat) []) 0).int else (gi ((gi ((gi d 5).rows.getD (0+((gi d 7).int+1).toNat) []) 0).rows.getD (((gi d 8).int).toNat) []) 0).int)])).getD (0+((gi d 8).int).toNat) []) 0).int then ((gi g1 6).int+(gi ((gi ((gi g1 5).rows.getD (0+((gi d 7).int+1).toNat) []) 0).rows.getD (((gi d 8).int+1).toNat) []) 0).int) else (gi (((gi d 6).rows.set (0+((gi d 8).int).toNat) (a7 [.int .i64] ((gi d 6).rows.getD (0+((gi d 8).int).toNat) []) 0 [.i (if (gi ((gi d 6).rows.getD (0+((gi d 8).int+1).toNat) []) 0).int>(gi ((gi ((gi d 5).rows.getD (0+((gi d 7).int+1).toNat) []) 0).rows.getD (((gi d 8).int).toNat) []) 0).int then (gi ((gi d 6).rows.getD (0+((gi d 8).int+1).toNat) []) 0).int else (gi ((gi ((gi d 5).rows.getD (0+((gi d 7).int+1).toNat) []) 0).rows.getD (((gi d 8).int).toNat) []) 0).int)])).getD (0+((gi d 8).int).toNat) []) 0).int)])),.i (gi d 7).int,.i (gi d 8).int])) fun g g2=>(bif ((((af (gi g2 5).rows.length (gi g2 5).rows.length)&&true)&&true)&&((af (gi g2 6).rows.length (gi g2 6).rows.length)&&true)) then some (none,[.l (gi g2 0).rows,.l (gi g2 1).rows,.l (gi g2 2).rows,.l (gi g2 3).rows,.i (gi g2 4).int,.l (gi g2 5).rows,.l (gi g2 6).rows,.i (gi g2 7).int,.i (gi g2 8).int]) else none)) else none) else none) else none) else none) else none) else none) else none) else none) else none) else none) else (bh ((((af (gi g1 5).rows.length (gi g1 5).rows.length)&&true)&&true)&&((af (gi d 6).rows.length ((gi d 6).rows.set (0+((gi d 8).int).toNat) (a7 [.int .i64] ((gi d 6).rows.getD (0+((gi d 8).int).toNat) []) 0 [.i (if (gi ((gi d 6).rows.getD (0+((gi d 8).int+1).toNat) []) 0).int>(gi ((gi ((gi d 5).rows.getD (0+((gi d 7).int+1).toNat) []) 0).rows.getD (((gi d 8).int).toNat) []) 0).int then (gi ((gi d 6).rows.getD (0+((gi d 8).int+1).toNat) []) 0).int else (gi ((gi ((gi d 5).rows.getD (0+((gi d 7).int+1).toNat) []) 0).rows.getD (((gi d 8).int).toNat) []) 0).int)])).length)&&true)) (dD (wO [.l (gi g1 0).rows,.l (gi g1 1).rows,.l (gi g1 2).rows,.l (gi g1 3).rows,.i (gi g1 4).int,.l (gi g1 5).rows,.l ((gi d 6).rows.set (0+((gi d 8).int).toNat) (a7 [.int .i64] ((gi d 6).rows.getD (0+((gi d 8).int).toNat) []) 0 [.i (if (gi ((gi d 6).rows.getD (0+((gi d 8).int+1).toNat) []) 0).int>(gi ((gi ((gi d 5).rows.getD (0+((gi d 7).int+1).toNat) []) 0).rows.getD (((gi d 8).int).toNat) []) 0).int then (gi ((gi d 6).rows.getD (0+((gi d 8).int+1).toNat) []) 0).int else (gi ((gi ((gi d 5).rows.getD (0+((gi d 7).int+1).toNat) []) 0).rows.getD (((gi d 8).int).toNat) []) 0).int)])),.i (gi d 7).int,.i (gi d 8).int])) fun h g3=>(bif ((((af (gi g3 5).rows.length (gi g3 5).rows.length)&&true)&&true)&&((af (gi g3 6).rows.length (gi g3 6).rows.length)&&true)) then some (none,[.l (gi g3 0).rows,.l (gi g3 1).rows,.l (gi g3 2).rows,.l (gi g3 3).rows,.i (gi g3 4).int,.l (gi g3 5).rows,.l (gi g3 6).rows,.i (gi g3 7).int,.i (gi g3 8).int]) else none)))) else none) else none) else none) else none) else none) else none) else none) else none) else none) else (bif ((((af (gi d 5).rows.length (gi d 5).rows.length)&&true)&&true)&&((af (gi d 6).rows.length (gi d 6).rows.length)&&true)) then some (some 0,[.l (gi d 0).rows,.l (gi d 1).rows,.l (gi d 2).rows,.l (gi d 3).rows,.i (gi d 4).int,.l (gi d 5).rows,.l (gi d 6).rows,.i (gi d 7).int]) else none))
def Pp:bH:=⟨7,[],⟨118,[(0,.s (.ptr 0 0)),(2,.s (.int .i64)),(3,.s (.vec 2 1)),(4,.s (.int .i64))],[.box [.list aD,.list aD,.list [.int .i64],.list [.int .i64],.int .i64,.vec 1 1],.vec [.list [.int .i64]] 0,.vec [.int .i64] 0]⟩,[.fix 0,.cell 0 5,.slot 3],[⟨.exit 2,⟨118,[(0,.s (.ptr 0 0)),(2,.s (.int .i64)),(3,.s (.vec 2 1))],[.box [.list aD,.list aD,.list [.int .i64],.list [.int .i64],.int .i64,.vec 1 1],.vec [.list [.int .i64]] 0,.vec [.int .i64] 0]⟩,[.fix 0,.cell 0 5,.slot 3]⟩],wP⟩
theorem acT:cP P t100 GG 1 (cS Tryz.f183 7) Pp:=fun d=>by kernel_rfl
def GH:LT:=GG.add 1 Pp
theorem acU:aJ P 1 GH (ba Tryz.f183):=aJ.a hm wN acS acT
def wQ(d:List G):Option (Option Nat × List G) :=
 (bif (aG 0 (gi d 6).int) then (bif (ay ((((gi d 3).rows.length:Nat):Int)+1)) then (bif ((aI ((((gi d 3).rows.length:Nat):Int)+1))&&((aG ((((gi d 3).rows.length:Nat):Int)+1) ((((gi d 3).rows.length:Nat):Int)+1))&&(aG ((((gi d 3).rows.length:Nat):Int)+1) 1048576))) then (bif (ay ((((gi d 3).rows.length:Nat):Int)-1)) then (bh ((((af (gi d 5).rows.length (gi d 5).rows.length)&&true)&&true)&&((af ((((gi d 3).rows.length:Nat):Int)+1).toNat (bU (((((gi d 3).rows.length:Nat):Int)+1).toNat) ([.i 0]:List G)).length)&&true)) (cu wP [.l (gi d 0).rows,.l (gi d 1).rows,.l (gi d 2).rows,.l (gi d 3).rows,.i (gi d 4).int,.l (gi d 5).rows,.l (bU (((((gi d 3).rows.length:Nat):Int)+1).toNat) ([.i 0]:List G)),.i (gi d 6).int,.i ((((gi d 3).rows.length:Nat):Int)-1)]) fun g g4=>(bif ((aI (gi g4 7).int)&&(ak (gi g4 7).int (((gi g4 5).rows.length:Nat):Int))) then (bif ((af (gi g4 6).rows.length (gi g4 6).rows.length)&&(decide ((0+((gi g4 7).int).toNat)<(gi g4 5).rows.length))) then (bif (ay ((gi g4 7).int-1)) then (bif ((((af (gi g4 5).rows.length ((gi g4 5).rows.set (0+((gi g4 7).int).toNat) (a7 [.list [.int .i64]] ((gi g4 5).rows.getD (0+((gi g4 7).int).toNat) []) 0 [.l (gi g4 6).rows])).length)&&true)&&true)&&true) then some (none,[.l (gi g4 0).rows,.l (gi g4 1).rows,.l (gi g4 2).rows,.l (gi g4 3).rows,.i (gi g4 4).int,.l ((gi g4 5).rows.set (0+((gi g4 7).int).toNat) (a7 [.list [.int .i64]] ((gi g4 5).rows.getD (0+((gi g4 7).int).toNat) []) 0 [.l (gi g4 6).rows])),.i ((gi g4 7).int-1)]) else none) else none) else none) else none)) else none) else none) else none) else (bif ((((af (gi d 5).rows.length (gi d 5).rows.length)&&true)&&true)&&true) then some (some 0,[.l (gi d 0).rows,.l (gi d 1).rows,.l (gi d 2).rows,.l (gi d 3).rows,.i (gi d 4).int,.l (gi d 5).rows]) else none))
def Pq:bH:=⟨3,[],⟨118,[(0,.s (.ptr 0 0)),(2,.s (.int .i64))],[.box [.list aD,.list aD,.list [.int .i64],.list [.int .i64],.int .i64,.vec 1 1],.vec [.list [.int .i64]] 0]⟩,[.fix 0,.cell 0 5],[⟨.exit 0,⟨118,[],[.box [.list aD,.list aD,.list [.int .i64],.list [.int .i64],.int .i64,.vec 1 1],.vec [.list [.int .i64]] 0]⟩,[.fix 0,.cell 0 5]⟩],wQ⟩
theorem acV:cP P t100 GH 1 (cS Tryz.f183 3) Pq:=fun d=>by kernel_rfl
def Pr:LT:=GH.add 1 Pq
theorem acW:aJ P 1 Pr (ba Tryz.f183):=aJ.a hm wN acU acV
def AT(d:List G):Option (List G) :=
 (bif (ay ((((gi d 2).rows.length:Nat):Int)+1)) then (bif ((aI ((((gi d 2).rows.length:Nat):Int)+1))&&((aG ((((gi d 2).rows.length:Nat):Int)+1) ((((gi d 2).rows.length:Nat):Int)+1))&&(aG ((((gi d 2).rows.length:Nat):Int)+1) 1048576))) then (bif (ay ((((gi d 3).rows.length:Nat):Int)+1)) then (bif ((aI ((((gi d 3).rows.length:Nat):Int)+1))&&((aG ((((gi d 3).rows.length:Nat):Int)+1) ((((gi d 3).rows.length:Nat):Int)+1))&&(aG ((((gi d 3).rows.length:Nat):Int)+1) 1048576))) then (bif ((aI (((gi d 2).rows.length:Nat):Int))&&(ak (((gi d 2).rows.length:Nat):Int) ((((((gi d 2).rows.length:Nat):Int)+1).toNat:Nat):Int))) then (bif ((af ((((gi d 3).rows.length:Nat):Int)+1).toNat (bU (((((gi d 3).rows.length:Nat):Int)+1).toNat) ([.i 0]:List G)).length)&&(decide ((0+(gi d 2).rows.length)<(bU (((((gi d 2).rows.length:Nat):Int)+1).toNat) ([.l []]:List G)).length))) then (bif (ay ((((gi d 2).rows.length:Nat):Int)-1)) then (bh ((((af ((((gi d 2).rows.length:Nat):Int)+1).toNat ((bU (((((gi d 2).rows.length:Nat):Int)+1).toNat) ([.l []]:List G)).set (0+(gi d 2).rows.length) (a7 [.list [.int .i64]] ((bU (((((gi d 2).rows.length:Nat):Int)+1).toNat) ([.l []]:List G)).getD (0+(gi d 2).rows.length) []) 0 [.l (bU (((((gi d 3).rows.length:Nat):Int)+1).toNat) ([.i 0]:List G))])).length)&&true)&&true)&&true) (cu wQ [.l (gi d 0).rows,.l (gi d 1).rows,.l (gi d 2).rows,.l (gi d 3).rows,.i (gi d 4).int,.l ((bU (((((gi d 2).rows.length:Nat):Int)+1).toNat) ([.l []]:List G)).set (0+(gi d 2).rows.length) (a7 [.list [.int .i64]] ((bU (((((gi d 2).rows.length:Nat):Int)+1).toNat) ([.l []]:List G)).getD (0+(gi d 2).rows.length) []) 0 [.l (bU (((((gi d 3).rows.length:Nat):Int)+1).toNat) ([.i 0]:List G))])),.i ((((gi d 2).rows.length:Nat):Int)-1)]) fun g g5=>(bif ((((af (gi g5 5).rows.length (gi g5 5).rows.length)&&true)&&true)&&true) then some [.l (gi g5 0).rows,.l (gi g5 1).rows,.l (gi g5 2).rows,.l (gi g5 3).rows,.i (gi g5 4).int,.l (gi g5 5).rows] else none)) else none) else none) else none) else none) else none) else none) else none)
def GJ:ax:=⟨183,[.s (.ptr 0 0)],[.box [.list aD,.list aD,.list [.int .i64],.list [.int .i64],.int .i64,.list [.list [.int .i64]]]],[.slot 0],[],[.box [.list aD,.list aD,.list [.int .i64],.list [.int .i64],.int .i64,.list [.list [.int .i64]]]],[.fix 0],[],AT⟩
theorem acX:aO P t100 Pr Tryz.f183 GJ:=fun d=>by kernel_rfl
theorem acY:aM P GJ:=aN hm wN Tryz.func183 acW acX
def t101:au:=t100.c9 GJ
theorem Ps:aw P t101:=wN.aW acY

def AU(d:List G):Option (List G) :=
 (bif ((aI (gi d 1).int)&&(ak (gi d 1).int (((gi (gi d 0).row 2).rows.length:Nat):Int))) then (bif ((aI (gi ((gi (gi d 0).row 2).rows.getD (((gi d 1).int).toNat) []) 0).int)&&(ak (gi ((gi (gi d 0).row 2).rows.getD (((gi d 1).int).toNat) []) 0).int (((gi (gi d 0).row 0).rows.length:Nat):Int))) then (bif ((aI (gi d 2).int)&&(ak (gi d 2).int (((gi (gi d 0).row 3).rows.length:Nat):Int))) then (bif ((aI (gi ((gi (gi d 0).row 3).rows.getD (((gi d 2).int).toNat) []) 0).int)&&(ak (gi ((gi (gi d 0).row 3).rows.getD (((gi d 2).int).toNat) []) 0).int (((gi (gi d 0).row 1).rows.length:Nat):Int))) then (aj (s_ [.l [(be aD ((gi (gi d 0).row 0).rows.getD (((gi ((gi (gi d 0).row 2).rows.getD (((gi d 1).int).toNat) []) 0).int).toNat) []))],.l [(be aD ((gi (gi d 0).row 1).rows.getD (((gi ((gi (gi d 0).row 3).rows.getD (((gi d 2).int).toNat) []) 0).int).toNat) []))]]) fun g1=>(bif (ay (10000000000-(gi g1 0).int)) then (aj (ta [.l [(be aD ((gi (gi d 0).row 0).rows.getD (((gi ((gi (gi d 0).row 2).rows.getD (((gi d 1).int).toNat) []) 0).int).toNat) []))],.l [(be aD ((gi (gi d 0).row 1).rows.getD (((gi ((gi (gi d 0).row 3).rows.getD (((gi d 2).int).toNat) []) 0).int).toNat) []))],.i (gi (gi d 0).row 4).int]) fun g2=>some [.i (10000000000-(gi g1 0).int),.t (gi g2 0).bool]) else none)) else none) else none) else none) else none)
def GL:ax:=⟨184,[.s (.cptr [.list aD,.list aD,.list [.int .i64],.list [.int .i64],.int .i64,.list [.list [.int .i64]]]),.s (.int .i64),.s (.int .i64)],[],[],[.s (.int .i64),.s (.bool)],[],[],[],AU⟩
theorem acZ:aO P t101 (az.ku [(1,[.hole aD,.hole aD])]) Tryz.f184 GL:=fun d=>by kernel_rfl
theorem ac0:aM P GL:=aN hm Ps Tryz.func184 (oI _) acZ
def t102:au:=t101.aS GL
theorem wR:aw P t102:=Ps.aP ac0

def tb(d:List G):Option (Option Nat × List G) :=
 (bif (gi d 12).bool then (bif ((aI (gi d 8).int)&&(ak (gi d 8).int (((gi d 2).rows.length:Nat):Int))) then (bif ((aI (gi d 9).int)&&(ak (gi d 9).int (((gi d 3).rows.length:Nat):Int))) then (bif ((af (gi d 6).rows.length (gi d 6).rows.length)&&(decide (((gi d 6).rows.length+1)≤1048576))) then (bif (ay ((gi d 9).int+1)) then (bif ((af ((gi d 6).rows++([[.i (gi ((gi d 2).rows.getD (((gi d 8).int).toNat) []) 0).int,.i (gi ((gi d 3).rows.getD (((gi d 9).int).toNat) []) 0).int]]:List (List G))).length ((gi d 6).rows++([[.i (gi ((gi d 2).rows.getD (((gi d 8).int).toNat) []) 0).int,.i (gi ((gi d 3).rows.getD (((gi d 9).int).toNat) []) 0).int]]:List (List G))).length)&&true) then some (some 0,[.l (gi d 0).rows,.l (gi d 1).rows,.l (gi d 2).rows,.l (gi d 3).rows,.i (gi d 4).int,.l (gi d 5).rows,.l ((gi d 6).rows++([[.i (gi ((gi d 2).rows.getD (((gi d 8).int).toNat) []) 0).int,.i (gi ((gi d 3).rows.getD (((gi d 9).int).toNat) []) 0).int]]:List (List G))),.i ((gi d 9).int+1),.i (gi d 10).int,.i (gi d 11).int]) else none) else none) else none) else none) else none) else (bif ((af (gi d 6).rows.length (gi d 6).rows.length)&&true) then some (some 1,[.l (gi d 0).rows,.l (gi d 1).rows,.l (gi d 2).rows,.l (gi d 3).rows,.i (gi d 4).int,.l (gi d 5).rows,.l (gi d 6).rows,.i (gi d 7).int,.i (gi d 8).int,.i (gi d 9).int,.i (gi d 10).int,.i (gi d 11).int]) else none))
def Pt:bH:=⟨12,[],⟨86,[(0,.s (.ptr 0 0)),(3,.s (.vec 1 2)),(4,.s (.int .i64)),(5,.s (.int .i64)),(6,.s (.int .i64)),(15,.s (.int .i64)),(16,.s (.int .i64)),(63,.s (.bool))],[.box [.list aD,.list aD,.list [.int .i64],.list [.int .i64],.int .i64,.list [.list [.int .i64]]],.vec [.int .i64,.int .i64] 0]⟩,[.fix 0,.slot 3],[⟨.exit 2,⟨86,[(0,.s (.ptr 0 0)),(3,.s (.vec 1 2)),(4,.s (.int .i64)),(15,.s (.int .i64)),(16,.s (.int .i64))],[.box [.list aD,.list aD,.list [.int .i64],.list [.int .i64],.int .i64,.list [.list [.int .i64]]],.vec [.int .i64,.int .i64] 0]⟩,[.fix 0,.slot 3]⟩,⟨.normal,⟨86,[(0,.s (.ptr 0 0)),(3,.s (.vec 1 2)),(4,.s (.int .i64)),(5,.s (.int .i64)),(6,.s (.int .i64)),(15,.s (.int .i64)),(16,.s (.int .i64))],[.box [.list aD,.list aD,.list [.int .i64],.list [.int .i64],.int .i64,.list [.list [.int .i64]]],.vec [.int .i64,.int .i64] 0]⟩,[.fix 0,.slot 3]⟩],tb⟩
theorem ac1:iQ P (t102.fy [184]) az 1 (cutAt Tryz.f177 12) Pt:=fun d=>by kernel_rfl
def GM:LT:=az.gQ 1 Pt
theorem ac2:aJ P 1 GM (ba Tryz.f177):=aJ.gQ hm (wR.fy [184]) (by kernel_rfl) (aT _ _ _) ac1
def qv(d:List G):Option (Option Nat × List G) :=
 (bif (ak (gi d 9).int (((gi d 3).rows.length:Nat):Int)) then (aj (AU [.l [[.l (gi d 0).rows,.l (gi d 1).rows,.l (gi d 2).rows,.l (gi d 3).rows,.i (gi d 4).int,.l (gi d 5).rows]],.i (gi d 8).int,.i (gi d 9).int]) fun g2=>(bif (gi g2 1).bool then (bif (ay ((gi d 8).int+1)) then (bif ((aI ((gi d 8).int+1))&&(ak ((gi d 8).int+1) (((gi d 5).rows.length:Nat):Int))) then (bif (ay ((gi d 9).int+1)) then (bif ((aI ((gi d 9).int+1))&&(ak ((gi d 9).int+1) (((gi ((gi d 5).rows.getD (((gi d 8).int+1).toNat) []) 0).rows.length:Nat):Int))) then (bif (ay ((gi g2 0).int+(gi ((gi ((gi d 5).rows.getD (((gi d 8).int+1).toNat) []) 0).rows.getD (((gi d 9).int+1).toNat) []) 0).int)) then (bif ((aI (gi d 8).int)&&(ak (gi d 8).int (((gi d 5).rows.length:Nat):Int))) then (bif ((aI (gi d 7).int)&&(ak (gi d 7).int (((gi ((gi d 5).rows.getD (((gi d 8).int).toNat) []) 0).rows.length:Nat):Int))) then (bh ((af (gi d 6).rows.length (gi d 6).rows.length)&&true) (dD (tb [.l (gi d 0).rows,.l (gi d 1).rows,.l (gi d 2).rows,.l (gi d 3).rows,.i (gi d 4).int,.l (gi d 5).rows,.l (gi d 6).rows,.i (gi d 7).int,.i (gi d 8).int,.i (gi d 9).int,.i (gi d 10).int,.i (gi d 11).int,.t (((gi g2 0).int+(gi ((gi ((gi d 5).rows.getD (((gi d 8).int+1).toNat) []) 0).rows.getD (((gi d 9).int+1).toNat) []) 0).int)==(gi ((gi ((gi d 5).rows.getD (((gi d 8).int).toNat) []) 0).rows.getD (((gi d 7).int).toNat) []) 0).int)])) fun g g3=>(bif af g 0 then (bif ((af (gi g3 6).rows.length (gi g3 6).rows.length)&&true) then some (some 0,[.l (gi g3 0).rows,.l (gi g3 1).rows,.l (gi g3 2).rows,.l (gi g3 3).rows,.i (gi g3 4).int,.l (gi g3 5).rows,.l (gi g3 6).rows,.i (gi g3 7).int,.i (gi g3 8).int,.i (gi g3 9).int]) else none) else (bif (ay ((gi g3 9).int+1)) then (bif ((af (gi g3 6).rows.length (gi g3 6).rows.length)&&true) then some (none,[.l (gi g3 0).rows,.l (gi g3 1).rows,.l (gi g3 2).rows,.l (gi g3 3).rows,.i (gi g3 4).int,.l (gi g3 5).rows,.l (gi g3 6).rows,.i (gi g3 7).int,.i (gi g3 8).int,.i ((gi g3 9).int+1),.i (gi g3 10).int,.i (gi g3 11).int]) else none) else none))) else none) else none) else none) else none) else none) else none) else none) else (bh ((af (gi d 6).rows.length (gi d 6).rows.length)&&true) (dD (tb [.l (gi d 0).rows,.l (gi d 1).rows,.l (gi d 2).rows,.l (gi d 3).rows,.i (gi d 4).int,.l (gi d 5).rows,.l (gi d 6).rows,.i (gi d 7).int,.i (gi d 8).int,.i (gi d 9).int,.i (gi d 10).int,.i (gi d 11).int,.t false])) fun h g4=>(bif af h 0 then (bif ((af (gi g4 6).rows.length (gi g4 6).rows.length)&&true) then some (some 0,[.l (gi g4 0).rows,.l (gi g4 1).rows,.l (gi g4 2).rows,.l (gi g4 3).rows,.i (gi g4 4).int,.l (gi g4 5).rows,.l (gi g4 6).rows,.i (gi g4 7).int,.i (gi g4 8).int,.i (gi g4 9).int]) else none) else (bif (ay ((gi g4 9).int+1)) then (bif ((af (gi g4 6).rows.length (gi g4 6).rows.length)&&true) then some (none,[.l (gi g4 0).rows,.l (gi g4 1).rows,.l (gi g4 2).rows,.l (gi g4 3).rows,.i (gi g4 4).int,.l (gi g4 5).rows,.l (gi g4 6).rows,.i (gi g4 7).int,.i (gi g4 8).int,.i ((gi g4 9).int+1),.i (gi g4 10).int,.i (gi g4 11).int]) else none) else none))))) else (bif ((af (gi d 6).rows.length (gi d 6).rows.length)&&true) then some (some 0,[.l (gi d 0).rows,.l (gi d 1).rows,.l (gi d 2).rows,.l (gi d 3).rows,.i (gi d 4).int,.l (gi d 5).rows,.l (gi d 6).rows,.i (gi d 7).int,.i (gi d 10).int,.i (gi d 11).int]) else none))
def Pu:bH:=⟨8,[],⟨86,[(0,.s (.ptr 0 0)),(3,.s (.vec 1 2)),(4,.s (.int .i64)),(5,.s (.int .i64)),(6,.s (.int .i64)),(15,.s (.int .i64)),(16,.s (.int .i64))],[.box [.list aD,.list aD,.list [.int .i64],.list [.int .i64],.int .i64,.list [.list [.int .i64]]],.vec [.int .i64,.int .i64] 0]⟩,[.fix 0,.slot 3],[⟨.exit 2,⟨86,[(0,.s (.ptr 0 0)),(3,.s (.vec 1 2)),(4,.s (.int .i64)),(15,.s (.int .i64)),(16,.s (.int .i64))],[.box [.list aD,.list aD,.list [.int .i64],.list [.int .i64],.int .i64,.list [.list [.int .i64]]],.vec [.int .i64,.int .i64] 0]⟩,[.fix 0,.slot 3]⟩],qv⟩
theorem ac3:cP P (t102.fy [184]) GM 1 (cS Tryz.f177 8) Pu:=fun d=>by kernel_rfl
def GN:LT:=GM.add 1 Pu
theorem ac4:aJ P 1 GN (ba Tryz.f177):=aJ.add hm (wR.fy [184]) (by kernel_rfl) ac2 ac3
def tc(d:List G):Option (Option Nat × List G) :=
 (bif (ak (gi d 9).int (gi d 8).int) then (bh ((af (gi d 6).rows.length (gi d 6).rows.length)&&true) (cu qv [.l (gi d 0).rows,.l (gi d 1).rows,.l (gi d 2).rows,.l (gi d 3).rows,.i (gi d 4).int,.l (gi d 5).rows,.l (gi d 6).rows,.i (gi d 7).int,.i (gi d 9).int,.i (gi d 7).int,.i (gi d 8).int,.i (gi d 9).int]) fun g g5=>(bif (ay ((gi g5 9).int+1)) then (bif ((af (gi g5 6).rows.length (gi g5 6).rows.length)&&true) then some (none,[.l (gi g5 0).rows,.l (gi g5 1).rows,.l (gi g5 2).rows,.l (gi g5 3).rows,.i (gi g5 4).int,.l (gi g5 5).rows,.l (gi g5 6).rows,.i (gi g5 7).int,.i (gi g5 8).int,.i ((gi g5 9).int+1)]) else none) else none)) else (bif ((af (gi d 6).rows.length (gi d 6).rows.length)&&true) then some (some 0,[.l (gi d 0).rows,.l (gi d 1).rows,.l (gi d 2).rows,.l (gi d 3).rows,.i (gi d 4).int,.l (gi d 5).rows,.l (gi d 6).rows]) else none))
def Pv:bH:=⟨5,[(3,[.int .i64,.int .i64])],⟨86,[(0,.s (.ptr 0 0)),(3,.s (.vec 1 2)),(4,.s (.int .i64)),(15,.s (.int .i64)),(16,.s (.int .i64))],[.box [.list aD,.list aD,.list [.int .i64],.list [.int .i64],.int .i64,.list [.list [.int .i64]]],.vec [.int .i64,.int .i64] 0]⟩,[.fix 0,.slot 3],[⟨.exit 0,⟨86,[(3,.s (.vec 1 2))],[.box [.list aD,.list aD,.list [.int .i64],.list [.int .i64],.int .i64,.list [.list [.int .i64]]],.vec [.int .i64,.int .i64] 0]⟩,[.fix 0,.slot 3]⟩],tc⟩
theorem ac5:cP P (t102.fy [184]) GN 1 (cS Tryz.f177 5) Pv:=fun d=>by kernel_rfl
def Pw:LT:=GN.add 1 Pv
theorem ac6:aJ P 1 Pw (ba Tryz.f177):=aJ.add hm (wR.fy [184]) (by kernel_rfl) ac4 ac5
def AW(d:List G):Option (List G) :=
 (aj (AT [.l (gi d 0).rows,.l (gi d 1).rows,.l (gi d 2).rows,.l (gi d 3).rows,.i (gi d 4).int,.l (gi d 5).rows]) fun g1=>(bh true (cu tc [.l (gi g1 0).rows,.l (gi g1 1).rows,.l (gi g1 2).rows,.l (gi g1 3).rows,.i (gi g1 4).int,.l (gi g1 5).rows,.l [],.i 0,.i (((gi g1 2).rows.length:Nat):Int),.i 0]) fun g g6=>(bif ((af (gi g6 6).rows.length (gi g6 6).rows.length)&&true) then some [.l (gi g6 0).rows,.l (gi g6 1).rows,.l (gi g6 2).rows,.l (gi g6 3).rows,.i (gi g6 4).int,.l (gi g6 5).rows,.l (gi g6 6).rows] else none)))
def GO:ax:=⟨177,[.s (.ptr 0 0)],[.box [.list aD,.list aD,.list [.int .i64],.list [.int .i64],.int .i64,.list [.list [.int .i64]]]],[.slot 0],[.s (.list [.int .i64,.int .i64])],[.box [.list aD,.list aD,.list [.int .i64],.list [.int .i64],.int .i64,.list [.list [.int .i64]]]],[.fix 0],[],AW⟩
theorem ac7:aO P (t102.fy [184]) Pw Tryz.f177 GO:=fun d=>by kernel_rfl
theorem ac8:aM P GO:=qa hm (wR.fy [184]) Tryz.func177 (by kernel_rfl) ac6 ac7 (by kernel_rfl)
def t103:au:=t102.c9 GO
theorem Px:aw P t103:=wR.aW ac8

def td(d:List G):Option (List G) :=
 (bif (ay ((gi (gi d 0).row 0).int-(gi (gi d 1).row 0).int)) then some [.i ((gi (gi d 0).row 0).int-(gi (gi d 1).row 0).int)] else none)
def GP:ax:=⟨179,[.s (.row [.int .i64,.int .i64]),.s (.row [.int .i64,.int .i64])],[],[],[.s (.int .i64)],[],[],[],td⟩
theorem ac9:aO P t103 az Tryz.f179 GP:=fun d=>by kernel_rfl
theorem Py:aM P GP:=aN hm Px Tryz.func179 (aT _ _ _) ac9
def t104:au:=t103.aS GP
theorem ac_:aw P t104:=Px.aP Py

def te(d:List G):Option (List G) :=
 sF td d
def wS:ax:=⟨178,[.s (.vec 0 2),.s (.fn 179)],[.vec [.int .i64,.int .i64] 0],[.slot 0],[],[.vec [.int .i64,.int .i64] 0],[.fix 0],[],te⟩
theorem ac':∀ d r,te d=some r→cq P 178 (wS.args0 d) (ai (wS.H0 d)) (wS.out r) (ai (wS.H1 r)):=fun d r h=>XC Tryz.YR [.int .i64,.int .i64] (by kernel_rfl) Tryz.isAgg186 Tryz.sizeOf186 179 (by kernel_rfl) td (fun d r h=>Py d r h) d r h
def t105:au:=t104.c9 wS
theorem GQ:aw P t105:=ac_.aW ac'

def AX(r d:List G):Option (List G) :=
 (aj (AW [.l (gi d 1).rows,.l (gi d 3).rows,.l (gi (gi r 1).row 0).rows,.l (gi (dI [.str,.int .i64] (gi d 4).rows (be [.str,.int .i64] (gi r 0).row) [.l []]) 0).rows,.i (gi d 7).int,.l []]) fun g3=>(bif ((af (gi d 6).rows.length (gi d 6).rows.length)&&(decide (((gi d 6).rows.length+(gi g3 6).rows.length)≤1048576))) then (bif ((af ((gi d 6).rows++(gi g3 6).rows).length ((gi d 6).rows++(gi g3 6).rows).length)&&true) then some [.s (gi d 0).str,.l (gi d 1).rows,.s (gi d 2).str,.l (gi d 3).rows,.l (gi d 4).rows,.i (((gi d 5).int.toNat:Nat):Int),.l ((gi d 6).rows++(gi g3 6).rows),.i (gi d 7).int,.i (((gi d 8).int.toNat:Nat):Int)] else none) else none))
def ada(d:List G)(b:Nat):List G:=[.s (gi d 0).str,.l (gi d 1).rows,.s (gi d 2).str,.l (gi d 3).rows,.l (gi d 6).rows,.i (((gi d 7).int.toNat:Nat):Int),.l (gi d 8).rows,.i (gi d 9).int,.i (b:Int)]
def adb(d:List G)(b:Nat):Bool:=((af (gi d 8).rows.length (gi d 8).rows.length)&&true)
def AY:iR:=⟨⟨48,[(2,.s (.int .i64)),(3,.s (.ptr 0 0)),(4,.s (.ptr 1 0)),(8,.s (.map 2)),(9,.s (.vec 3 2)),(24,.s (.addr))],[.box [.str,.list aD],.box [.str,.list aD],.map (.agg [.str,.int .i64]) (.one (.list [.int .i64])),.vec [.int .i64,.int .i64] 0]⟩,[.slot 3,.slot 4,.slot 8,.slot 9],[],(.agg [.str,.int .i64]),(.one (.list [.int .i64])),2,0,23,24,25,26,27,fun d=>(gi d 8).int.toNat,ada,adb,AX⟩
theorem ade:qc P t105 az 0 AY (zA (cutAt Tryz.f165 3)) (Eb (cutAt Tryz.f165 3)):=fun r d=>by kernel_rfl
def AZ(d:List G):Option (Option Nat × List G) :=
 (sw (((af (gi d 6).rows.length (gi d 6).rows.length)&&true)&&(te [.l (gi d 6).rows]).isSome) (te [.l (gi d 6).rows]) fun g4=>(bif ((af (gi d 6).rows.length (gi g4 0).rows.length)&&true) then some (some 0,[.l (gi g4 0).rows]) else none))
def Pz:bH:=⟨8,[],⟨48,[(2,.s (.int .i64)),(3,.s (.ptr 0 0)),(4,.s (.ptr 1 0)),(8,.s (.map 2)),(9,.s (.vec 3 2)),(24,.s (.addr))],[.box [.str,.list aD],.box [.str,.list aD],.map (.agg [.str,.int .i64]) (.one (.list [.int .i64])),.vec [.int .i64,.int .i64] 0]⟩,[],[⟨.ret,⟨48,[(6,.s (.vec 0 2))],[.vec [.int .i64,.int .i64] 0]⟩,[.slot 6]⟩],AZ⟩
theorem adf:iQ P t105 az 0 (D_ (cutAt Tryz.f165 3)) Pz:=fun d=>by kernel_rfl
def GR(d:List G):Option (Option Nat × List G) :=
 qe AY AZ (gi d 4).rows ((gi d 5).int.toNat) d
def GS:bH:=⟨3,[(9,[.int .i64,.int .i64])],⟨48,[(2,.s (.int .i64)),(3,.s (.ptr 0 0)),(4,.s (.ptr 1 0)),(7,.s (.map 2)),(8,.s (.map 3)),(9,.s (.vec 4 2))],[.box [.str,.list aD],.box [.str,.list aD],.map (.agg [.str,.int .i64]) (.one (.list [.int .i64])),.map (.agg [.str,.int .i64]) (.one (.list [.int .i64])),.vec [.int .i64,.int .i64] 0]⟩,[.slot 3,.slot 4,.slot 7,.slot 8,.slot 9],[⟨.ret,⟨48,[(6,.s (.vec 0 2))],[.vec [.int .i64,.int .i64] 0]⟩,[.slot 6]⟩],GR⟩
def PA:LT:=az.gQ 0 GS
theorem adg:aJ P 0 PA (ba Tryz.f165):=aJ.Xl (q:=GS) (qr:=Pz) (sp:=AY) (r0:=3) (b0:=0) (r1:=4) (b1:=1) (r2:=5) (rows:=fun d=>(gi d 4).rows) (clock:=fun d=>(gi d 5).int.toNat) (pre:=fun d=>Xi P t105 (vF (cutAt Tryz.f165 3)) (bC GS.inv d)) hm GQ (by kernel_rfl) (aT _ _ _) (by kernel_rfl) (by kernel_rfl) ade (fun d=>by kernel_rfl) (fun d=>by kernel_rfl) (fun d=>by kernel_rfl) (fun d=>by kernel_rfl) (fun d=>by kernel_rfl) (fun d=>by kernel_rfl) (fun d b=>by kernel_rfl) (fun d b=>rfl) rfl rfl adf (fun d=>rfl)
def A0(d:List G):Option (List G) :=
 (aj (wL [.l (gi (gi d 0).row 1).rows,.s (gi (gi d 1).row 0).str]) fun g1=>(aj (wL [.l (gi (gi d 1).row 1).rows,.s (gi (gi d 0).row 0).str]) fun g2=>(bh true (dD (GR [.s (gi (gi d 0).row 0).str,.l (gi (gi d 0).row 1).rows,.s (gi (gi d 1).row 0).str,.l (gi (gi d 1).row 1).rows,.l (gi g1 0).rows,.i (((gi g1 1).int.toNat:Nat):Int),.l (gi g2 0).rows,.i (((gi g2 1).int.toNat:Nat):Int),.l [],.i (gi d 2).int])) fun g g5=>(bif ((af (gi g5 0).rows.length (gi g5 0).rows.length)&&true) then some [.l (gi g5 0).rows] else none))))
def GU:ax:=⟨165,[.s (.row [.str,.list aD]),.s (.row [.str,.list aD]),.s (.int .i64)],[],[],[.s (.list [.int .i64,.int .i64])],[],[],[],A0⟩
theorem adh:aO P t105 PA Tryz.f165 GU:=fun d=>by kernel_rfl
theorem adi:aM P GU:=aN hm GQ Tryz.func165 adg adh
def t106:au:=t105.aS GU
theorem GV:aw P t106:=GQ.aP adi

def wT(d:List G):Option (Option Nat × List G) :=
 (bif (ak (gi d 12).int (gi d 11).int) then (bif ((aI (gi d 12).int)&&(ak (gi d 12).int (((gi d 10).rows.length:Nat):Int))) then (bif true then (bif (lh (gi d 4).rows (fK [.int .i64] (gi d 3).rows [.i (gi d 9).int])) then (bif true then (bif (lh (gi d 7).rows (fK [.int .i64] (gi d 6).rows [.i (gi d 9).int])) then (bif (ay ((gi d 12).int+1)) then some (none,[.l (gi d 0).rows,.i (gi d 1).int,.i (gi d 2).int,.l (gi d 3).rows,.l (rZ (gi d 4).rows (fK [.int .i64] (gi d 3).rows [.i (gi d 9).int]) [.int .i64] [.i (gi ((gi d 10).rows.getD (((gi d 12).int).toNat) []) 0).int] [.i (gi ((gi d 10).rows.getD (((gi d 12).int).toNat) []) 1).int]),.i (((gi d 5).int.toNat:Nat):Int),.l (gi d 6).rows,.l (rZ (gi d 7).rows (fK [.int .i64] (gi d 6).rows [.i (gi d 9).int]) [.int .i64] [.i (gi ((gi d 10).rows.getD (((gi d 12).int).toNat) []) 1).int] [.t true]),.i (((gi d 8).int.toNat:Nat):Int),.i (gi d 9).int,.l (gi d 10).rows,.i (gi d 11).int,.i ((gi d 12).int+1)]) else none) else none) else none) else none) else none) else none) else some (some 0,[.l (gi d 0).rows,.i (gi d 1).int,.i (gi d 2).int,.l (gi d 3).rows,.l (gi d 4).rows,.i (((gi d 5).int.toNat:Nat):Int),.l (gi d 6).rows,.l (gi d 7).rows,.i (((gi d 8).int.toNat:Nat):Int)]))
def PB:bH:=⟨3,[],⟨75,[(0,.s (.ptr 0 0)),(1,.s (.int .i64)),(50,.s (.list [.int .i64,.int .i64])),(51,.s (.int .i64)),(52,.s (.int .i64))],[.box [.list [.str,.list aD],.int .i64,.int .i64,.map 1,.map 2],.mm 11 (.one (.int .i64)) (.one (.int .i64)) (.one (.int .i64)),.mm 12 (.one (.int .i64)) (.one (.int .i64)) (.one (.bool))]⟩,[.fix 0,.cell 0 3,.cell 0 4],[⟨.exit 0,⟨75,[],[.box [.list [.str,.list aD],.int .i64,.int .i64,.map 1,.map 2],.mm 11 (.one (.int .i64)) (.one (.int .i64)) (.one (.int .i64)),.mm 12 (.one (.int .i64)) (.one (.int .i64)) (.one (.bool))]⟩,[.fix 0,.cell 0 3,.cell 0 4]⟩],wT⟩
theorem adj:cP P t106 (az.ku [(1,[.sx,.sx])]) 3 (cS Tryz.f144 3) PB:=fun d=>by kernel_rfl
def PC:LT:=(az.ku [(1,[.sx,.sx])]).add 3 PB
theorem adk:aJ P 3 PC (ba Tryz.f144):=aJ.a hm GV (oI _) adj
def wU(d:List G):Option (List G) :=
 (bif true then (bif (!(Option.isNone (fK [.int .i64] (gi d 3).rows [.i (gi d 9).int]))) then some [.l (gi d 0).rows,.i (gi d 1).int,.i (gi d 2).int,.l (gi d 3).rows,.l (gi d 4).rows,.i (((gi d 5).int.toNat:Nat):Int),.l (gi d 6).rows,.l (gi d 7).rows,.i (((gi d 8).int.toNat:Nat):Int)] else (bif (!dP [.int .i64] (gi d 3).rows [.i (gi d 9).int]) then (bif (r7 ((gi d 3).rows++[[.l [[.i (gi d 9).int]],.i (-1),.i (((gi d 5).int.toNat:Nat):Int)]]) (((gi d 5).int.toNat:Nat):Int)) then (bif (!dP [.int .i64] (gi d 6).rows [.i (gi d 9).int]) then (bif (r7 ((gi d 6).rows++[[.l [[.i (gi d 9).int]],.i (-1),.i (((gi d 8).int.toNat:Nat):Int)]]) (((gi d 8).int.toNat:Nat):Int)) then (bif ((aI (gi d 1).int)&&(ak (gi d 1).int (((gi d 0).rows.length:Nat):Int))) then (bif ((aI (gi d 9).int)&&(ak (gi d 9).int (((gi d 0).rows.length:Nat):Int))) then (aj (A0 [.l [(be [.str,.list aD] ((gi d 0).rows.getD (((gi d 1).int).toNat) []))],.l [(be [.str,.list aD] ((gi d 0).rows.getD (((gi d 9).int).toNat) []))],.i (gi d 2).int]) fun g1=>(bh true (cu wT [.l (gi d 0).rows,.i (gi d 1).int,.i (gi d 2).int,.l (r8 ((gi d 3).rows++[[.l [[.i (gi d 9).int]],.i (-1),.i (((gi d 5).int.toNat:Nat):Int)]]) (((gi d 5).int.toNat:Nat):Int) ((gi d 4).rows.length)),.l ((gi d 4).rows++[[.l [],.i 0]]),.i ((((gi d 5).int.toNat+1):Nat):Int),.l (r8 ((gi d 6).rows++[[.l [[.i (gi d 9).int]],.i (-1),.i (((gi d 8).int.toNat:Nat):Int)]]) (((gi d 8).int.toNat:Nat):Int) ((gi d 7).rows.length)),.l ((gi d 7).rows++[[.l [],.i 0]]),.i ((((gi d 8).int.toNat+1):Nat):Int),.i (gi d 9).int,.l (gi g1 0).rows,.i (((gi g1 0).rows.length:Nat):Int),.i 0]) fun g g2=>some [.l (gi g2 0).rows,.i (gi g2 1).int,.i (gi g2 2).int,.l (gi g2 3).rows,.l (gi g2 4).rows,.i (((gi g2 5).int.toNat:Nat):Int),.l (gi g2 6).rows,.l (gi g2 7).rows,.i (((gi g2 8).int.toNat:Nat):Int)])) else none) else none) else none) else none) else none) else none)) else none)
def GW:ax:=⟨144,[.s (.ptr 0 0),.s (.int .i64)],[.box [.list [.str,.list aD],.int .i64,.int .i64,.map 1,.map 2],.mm 11 (.one (.int .i64)) (.one (.int .i64)) (.one (.int .i64)),.mm 12 (.one (.int .i64)) (.one (.int .i64)) (.one (.bool))],[.slot 0,.cell 0 3,.cell 0 4],[],[.box [.list [.str,.list aD],.int .i64,.int .i64,.map 1,.map 2],.mm 11 (.one (.int .i64)) (.one (.int .i64)) (.one (.int .i64)),.mm 12 (.one (.int .i64)) (.one (.int .i64)) (.one (.bool))],[.fix 0,.fix 1,.fix 2],[],wU⟩
theorem adl:aO P t106 PC Tryz.f144 GW:=fun d=>by kernel_rfl
theorem adm:aM P GW:=aN hm GV Tryz.func144 adk adl
def t107:au:=t106.c9 GW
theorem PD:aw P t107:=GV.aW adm

def wV(d:List G):Option (List G) :=
 (bif ((gi (gi d 0).row 4).int==(gi (gi d 1).row 5).int) then some [.t ((gi (gi d 0).row 6).str.toList==(gi (gi d 1).row 7).str.toList)] else some [.t false])
def GX:ax:=⟨145,[.s (.row aD),.s (.row aD)],[],[],[.s (.bool)],[],[],[],wV⟩
theorem adn:aO P t107 az Tryz.f145 GX:=fun d=>by kernel_rfl
theorem ado:aM P GX:=aN hm PD Tryz.func145 (aT _ _ _) adn
def t108:au:=t107.aS GX
theorem qw:aw P t108:=PD.aP ado

end
end Go.Proofs.iU
