/-
 What is proved here: functions of the program as functions on data. No condition.
-/
import Derived.Test.YtjmnkdlhpemooaaGreatDoorML2
set_option linter.all false
open List renaming replicate→bO
open Nat renaming beq→ae
namespace Go.Proofs.gY
open Go Go.AL Go.Proofs
noncomputable section
def oy(d:List G):Option (List G) :=
 (bif (ba (gi d 1).int (gi d 0).int) then some [.t (ba (gi d 0).int (gi d 2).int)] else some [.t false])
def ET:aG:=⟨57,[.s (.int .i64),.s (.int .i64),.s (.int .i64)],[],[],[.s (.bool)],[],[],[],oy⟩
theorem abO:aX P t52 az Tryz.f57 ET:=fun d=>by kernel_rfl
theorem abP:aV P ET:=aT hm OL Tryz.func57 (aL _ _ _) abO
def t53:ak:=t52.bC ET
theorem OM:aq P t53:=OL.aP abP

def EU(d:List G):Option (List G) :=
 (ay (oy [.i (gi d 0).int,.i 0,.i 345686399999]) fun g1=>some [.t (gi g1 0).bool])
def EV:aG:=⟨56,[.s (.int .i64)],[],[],[.s (.bool)],[],[],[],EU⟩
theorem abQ:aX P t53 az Tryz.f56 EV:=fun d=>by kernel_rfl
theorem abR:aV P EV:=aT hm OM Tryz.func56 (aL _ _ _) abQ
def t54:ak:=t53.bC EV
theorem EW:aq P t54:=OM.aP abR

def ON(d:List G):Option (Option Nat × List G) :=
 (bif (ao (gi d 3).int (gi d 2).int) then (bif ((aB (gi d 3).int)&&(ao (gi d 3).int (((gi d 0).str.size:Nat):Int))) then (ay (zh [.s (gi d 1).str,.i (((gi d 0).str.data.toList.getD (((gi d 3).int).toNat) 0).toNat:Int)]) fun g1=>(bif (ao (gi g1 0).int 0) then some (some 0,[.t false]) else (bif (au ((gi d 3).int+1)) then some (none,[.s (gi d 0).str,.s (gi d 1).str,.i (gi d 2).int,.i ((gi d 3).int+1)]) else none))) else none) else some (some 1,[]))
def OO:bz:=⟨2,[],⟨18,[(0,.s (.str)),(1,.s (.str)),(7,.s (.int .i64)),(8,.s (.int .i64))],[]⟩,[],[⟨.ret,⟨18,[(4,.s (.bool))],[]⟩,[]⟩,⟨.exit 0,⟨18,[],[]⟩,[]⟩],ON⟩
theorem abS:cy P t54 az 0 (cD Tryz.f92 2) OO:=fun d=>by kernel_rfl
def OP:LT:=az.add 0 OO
theorem abT:aA P 0 OP (aU Tryz.f92):=aA.a hm EW (aL _ _ _) abS
def EX(d:List G):Option (List G) :=
 (a8 true (bV ON [.s (gi d 0).str,.s (gi d 1).str,.i (((gi d 0).str.size:Nat):Int),.i 0]) fun h g2=>(bif ae h 0 then some [.t (gi g2 0).bool] else some [.t true]))
def EY:aG:=⟨92,[.s (.str),.s (.str)],[],[],[.s (.bool)],[],[],[],EX⟩
theorem abU:aX P t54 OP Tryz.f92 EY:=fun d=>by kernel_rfl
theorem abV:aV P EY:=aT hm EW Tryz.func92 abT abU
def t55:ak:=t54.bC EY
theorem OQ:aq P t55:=EW.aP abV

def sA(d:List G):Option (List G) :=
 (ay (oy [.i (((gi d 0).str.size:Nat):Int),.i 1,.i 40]) fun g1=>(bif (gi g1 0).bool then (bif (ba 1 (((gi d 0).str.size:Nat):Int)) then (ay (EX [.s ((gi d 0).str.extract 0 1),.s (⟨#[97,98,99,100,101,102,103,104,105,106,107,108,109,110,111,112,113,114,115,116,117,118,119,120,121,122]⟩:ByteArray)]) fun g2=>(bif (gi g2 0).bool then (ay (EX [.s (gi d 0).str,.s (⟨#[97,98,99,100,101,102,103,104,105,106,107,108,109,110,111,112,113,114,115,116,117,118,119,120,121,122,48,49,50,51,52,53,54,55,56,57,45,95]⟩:ByteArray)]) fun g3=>some [.t (gi g3 0).bool]) else some [.t false])) else none) else some [.t false]))
def EZ:aG:=⟨58,[.s (.str)],[],[],[.s (.bool)],[],[],[],sA⟩
theorem abW:aX P t55 az Tryz.f58 EZ:=fun d=>by kernel_rfl
theorem abX:aV P EZ:=aT hm OQ Tryz.func58 (aL _ _ _) abW
def t56:ak:=t55.bC EZ
theorem OR:aq P t56:=OQ.aP abX

def E7(d:List G):Option (List G) :=
 (ay (DI [.s (gi d 0).str]) fun g1=>some [.t (gi g1 1).bool])
def E8:aG:=⟨59,[.s (.str)],[],[],[.s (.bool)],[],[],[],E7⟩
theorem abY:aX P t56 az Tryz.f59 E8:=fun d=>by kernel_rfl
theorem abZ:aV P E8:=aT hm OR Tryz.func59 (aL _ _ _) abY
def t57:ak:=t56.bC E8
theorem OS:aq P t57:=OR.aP abZ

def zH(d:List G):Option (List G) :=
 (ay (EU [.i (gi (gi d 0).row 0).int]) fun g1=>(bif (!(gi g1 0).bool) then some [.i 1] else (ay (oy [.i (gi (gi d 0).row 1).int,.i 1,.i 3]) fun g2=>(bif (!(gi g2 0).bool) then some [.i 4] else (ay (sA [.s (gi (gi d 0).row 2).str]) fun g3=>(bif (!(gi g3 0).bool) then some [.i 5] else (ay (E7 [.s (gi (gi d 0).row 3).str]) fun g4=>(bif (!(gi g4 0).bool) then some [.i 3] else (ay (oy [.i (gi (gi d 0).row 4).int,.i 0,.i 99999]) fun g5=>(bif (!(gi g5 0).bool) then some [.i 1] else (ay (oy [.i (gi (gi d 0).row 5).int,.i 0,.i 99999]) fun g6=>(bif (!(gi g6 0).bool) then some [.i 1] else (bif (!((gi (gi d 0).row 6).str.toList==(⟨#[]⟩:ByteArray).toList)) then (ay (sA [.s (gi (gi d 0).row 6).str]) fun g7=>(bif (!(gi g7 0).bool) then some [.i 5] else (bif (!((gi (gi d 0).row 7).str.toList==(⟨#[]⟩:ByteArray).toList)) then (ay (sA [.s (gi (gi d 0).row 7).str]) fun g8=>(bif (!(gi g8 0).bool) then some [.i 5] else some [.i 0])) else some [.i 0]))) else (bif (!((gi (gi d 0).row 7).str.toList==(⟨#[]⟩:ByteArray).toList)) then (ay (sA [.s (gi (gi d 0).row 7).str]) fun g9=>(bif (!(gi g9 0).bool) then some [.i 5] else some [.i 0])) else some [.i 0]))))))))))))))
def E9:aG:=⟨32,[.s (.row ai)],[],[],[.s (.int .i64)],[],[],[],zH⟩
theorem ab0:aX P t57 az Tryz.f32 E9:=fun d=>by kernel_rfl
theorem ab1:aV P E9:=aT hm OS Tryz.func32 (aL _ _ _) ab0
def t58:ak:=t57.bC E9
theorem E_:aq P t58:=OS.aP ab1

def OT(d:List G):Option (Option Nat × List G) :=
 (bif (ao (gi d 3).int (gi d 2).int) then (bif ((aB (gi d 3).int)&&(ao (gi d 3).int (((gi d 1).rows.length:Nat):Int))) then (ay (zH [.l [(aM ai ((gi d 1).rows.getD (((gi d 3).int).toNat) []))]]) fun g1=>(bif ((gi g1 0).int != 0) then some (some 0,[.i (gi g1 0).int]) else (bif (ao 0 (gi d 3).int) then (bif (au ((gi d 3).int-1)) then (bif ((aB ((gi d 3).int-1))&&(ao ((gi d 3).int-1) (((gi d 0).rows.length:Nat):Int))) then (ay (qd [.l [(aM ai ((gi d 0).rows.getD (((gi d 3).int-1).toNat) []))],.l [(aM ai ((gi d 1).rows.getD (((gi d 3).int).toNat) []))]]) fun g2=>(bif (ba 0 (gi g2 0).int) then some (some 0,[.i 7]) else (bif (au ((gi d 3).int+1)) then some (none,[.l (gi d 0).rows,.l (gi d 1).rows,.i (gi d 2).int,.i ((gi d 3).int+1)]) else none))) else none) else none) else (bif (au ((gi d 3).int+1)) then some (none,[.l (gi d 0).rows,.l (gi d 1).rows,.i (gi d 2).int,.i ((gi d 3).int+1)]) else none)))) else none) else some (some 1,[]))
def OU:bz:=⟨4,[],⟨34,[(0,.s (.list ai)),(9,.s (.list ai)),(10,.s (.int .i64)),(11,.s (.int .i64))],[]⟩,[],[⟨.ret,⟨34,[(2,.s (.int .i64))],[]⟩,[]⟩,⟨.exit 0,⟨34,[],[]⟩,[]⟩],OT⟩
theorem ab2:cy P t58 az 0 (cD Tryz.f14 4) OU:=fun d=>by kernel_rfl
def OV:LT:=az.add 0 OU
theorem ab3:aA P 0 OV (aU Tryz.f14):=aA.a hm E_ (aL _ _ _) ab2
def Fa(d:List G):Option (List G) :=
 (bif (ao 2000 (((gi d 0).rows.length:Nat):Int)) then some [.i 2] else (a8 true (bV OT [.l (gi d 0).rows,.l (gi d 0).rows,.i (((gi d 0).rows.length:Nat):Int),.i 0]) fun h g3=>(bif ae h 0 then some [.i (gi g3 0).int] else some [.i 0])))
def Fb:aG:=⟨14,[.s (.list ai)],[],[],[.s (.int .i64)],[],[],[],Fa⟩
theorem ab4:aX P t58 OV Tryz.f14 Fb:=fun d=>by kernel_rfl
theorem ab5:aV P Fb:=aT hm E_ Tryz.func14 ab3 ab4
def t59:ak:=t58.bC Fb
theorem Fc:aq P t59:=E_.aP ab5

def sB(d:List G):Option (Option Nat × List G) :=
 (bif (ao (gi d 3).int 5) then (ay (zG [.l (gi d 0).rows,.i (gi d 1).int,.i (gi d 2).int]) fun g1=>(ay (Fa [.l (gi g1 2).rows]) fun g2=>(bif ((gi g2 0).int==0) then some (some 0,[.l (gi g1 0).rows,.i (gi g1 1).int,.l (gi g1 2).rows]) else (bif (au ((gi d 3).int+1)) then some (none,[.l (gi g1 0).rows,.i (gi g1 1).int,.i (gi d 2).int,.i ((gi d 3).int+1)]) else none)))) else some (some 1,[.l (gi d 0).rows,.i (gi d 1).int]))
def OW:bz:=⟨2,[],⟨16,[(0,.s (.ptr 0 0)),(1,.s (.int .i64)),(6,.s (.int .i64))],[.box [.list [.int .i64],.int .i64]]⟩,[.fix 0],[⟨.ret,⟨16,[(4,.s (.list ai))],[.box [.list [.int .i64],.int .i64]]⟩,[.fix 0]⟩,⟨.exit 0,⟨16,[],[.box [.list [.int .i64],.int .i64]]⟩,[.fix 0]⟩],sB⟩
theorem ab6:cy P t59 az 1 (cD Tryz.f4 2) OW:=fun d=>by kernel_rfl
def OX:LT:=az.add 1 OW
theorem ab7:aA P 1 OX (aU Tryz.f4):=aA.a hm Fc (aL _ _ _) ab6
def zI(d:List G):Option (List G) :=
 (a8 true (bV sB [.l (gi d 0).rows,.i (gi d 1).int,.i (gi d 2).int,.i 0]) fun h g3=>(bif ae h 0 then some [.l (gi g3 0).rows,.i (gi g3 1).int,.l (gi g3 2).rows] else some [.l (gi g3 0).rows,.i (gi g3 1).int,.l []]))
def Fe:aG:=⟨4,[.s (.ptr 0 0),.s (.int .i64)],[.box [.list [.int .i64],.int .i64]],[.slot 0],[.s (.list ai)],[.box [.list [.int .i64],.int .i64]],[.fix 0],[],zI⟩
theorem ab8:aX P t59 OX Tryz.f4 Fe:=fun d=>by kernel_rfl
theorem ab9:aV P Fe:=aT hm Fc Tryz.func4 ab7 ab8
def t60:ak:=t59.cT Fe
theorem ab_:aq P t60:=Fc.aW ab9

def sC(d:List G):Option (List G) :=
 y8 d
def vE:aG:=⟨16,[.s (.vec 0 1)],[.vec [.str] 0],[.slot 0],[],[.vec [.str] 0],[.fix 0],[],sC⟩
theorem ab':∀ d r,sC d=some r→dB P 16 (vE.args0 d) (aj (vE.H0 d)) (vE.out r) (aj (vE.H1 r)):=fun d r h=>Xa Tryz.XI d r h
def t61:ak:=t60.cT vE
theorem vF:aq P t61:=ab_.aW ab'

def vG(d:List G):Option (Option Nat × List G) :=
 (bif (ao (gi d 5).int (gi d 4).int) then (bif ((aB (gi d 5).int)&&(ao (gi d 5).int (((gi d 3).rows.length:Nat):Int))) then (bif (fe [.str] (gi d 0).rows [.s (gi ((gi d 3).rows.getD (((gi d 5).int).toNat) []) 3).str]) then (bif ((ae (dm [.str] (gi d 0).rows [.s (gi ((gi d 3).rows.getD (((gi d 5).int).toNat) []) 3).str]).length (dm [.str] (gi d 0).rows [.s (gi ((gi d 3).rows.getD (((gi d 5).int).toNat) []) 3).str]).length)&&(decide (((dm [.str] (gi d 0).rows [.s (gi ((gi d 3).rows.getD (((gi d 5).int).toNat) []) 3).str]).length+1)≤1048576))) then (bif (ae ((dm [.str] (gi d 0).rows [.s (gi ((gi d 3).rows.getD (((gi d 5).int).toNat) []) 3).str])++([[.i (gi ((gi d 3).rows.getD (((gi d 5).int).toNat) []) 0).int,.i (gi ((gi d 3).rows.getD (((gi d 5).int).toNat) []) 1).int,.s (gi ((gi d 3).rows.getD (((gi d 5).int).toNat) []) 2).str,.s (gi d 2).str,.i (gi ((gi d 3).rows.getD (((gi d 5).int).toNat) []) 5).int,.i (gi ((gi d 3).rows.getD (((gi d 5).int).toNat) []) 4).int,.s (gi ((gi d 3).rows.getD (((gi d 5).int).toNat) []) 7).str,.s (gi ((gi d 3).rows.getD (((gi d 5).int).toNat) []) 6).str]]:List (List G))).length ((dm [.str] (gi d 0).rows [.s (gi ((gi d 3).rows.getD (((gi d 5).int).toNat) []) 3).str])++([[.i (gi ((gi d 3).rows.getD (((gi d 5).int).toNat) []) 0).int,.i (gi ((gi d 3).rows.getD (((gi d 5).int).toNat) []) 1).int,.s (gi ((gi d 3).rows.getD (((gi d 5).int).toNat) []) 2).str,.s (gi d 2).str,.i (gi ((gi d 3).rows.getD (((gi d 5).int).toNat) []) 5).int,.i (gi ((gi d 3).rows.getD (((gi d 5).int).toNat) []) 4).int,.s (gi ((gi d 3).rows.getD (((gi d 5).int).toNat) []) 7).str,.s (gi ((gi d 3).rows.getD (((gi d 5).int).toNat) []) 6).str]]:List (List G))).length) then (bif (au ((gi d 5).int+1)) then some (none,[.l (kh [.str] (iy [.str] (gi d 0).rows [.s (gi ((gi d 3).rows.getD (((gi d 5).int).toNat) []) 3).str]) [.s (gi ((gi d 3).rows.getD (((gi d 5).int).toNat) []) 3).str] ((dm [.str] (gi d 0).rows [.s (gi ((gi d 3).rows.getD (((gi d 5).int).toNat) []) 3).str])++([[.i (gi ((gi d 3).rows.getD (((gi d 5).int).toNat) []) 0).int,.i (gi ((gi d 3).rows.getD (((gi d 5).int).toNat) []) 1).int,.s (gi ((gi d 3).rows.getD (((gi d 5).int).toNat) []) 2).str,.s (gi d 2).str,.i (gi ((gi d 3).rows.getD (((gi d 5).int).toNat) []) 5).int,.i (gi ((gi d 3).rows.getD (((gi d 5).int).toNat) []) 4).int,.s (gi ((gi d 3).rows.getD (((gi d 5).int).toNat) []) 7).str,.s (gi ((gi d 3).rows.getD (((gi d 5).int).toNat) []) 6).str]]:List (List G))) (gi d 1).int.toNat),.i (((eE [.str] (iy [.str] (gi d 0).rows [.s (gi ((gi d 3).rows.getD (((gi d 5).int).toNat) []) 3).str]) [.s (gi ((gi d 3).rows.getD (((gi d 5).int).toNat) []) 3).str] (gi d 1).int.toNat):Nat):Int),.s (gi d 2).str,.l (gi d 3).rows,.i (gi d 4).int,.i ((gi d 5).int+1)]) else none) else none) else none) else none) else none) else some (some 0,[.l (gi d 0).rows,.i (((gi d 1).int.toNat:Nat):Int)]))
def OY:bz:=⟨3,[],⟨77,[(0,.s (.str)),(5,.s (.map 0)),(17,.s (.list ai)),(18,.s (.int .i64)),(19,.s (.int .i64))],[.aO 1 (.one (.str)) ai]⟩,[.fix 0],[⟨.exit 0,⟨77,[(5,.s (.map 0))],[.aO 1 (.one (.str)) ai]⟩,[.fix 0]⟩],vG⟩
theorem aca:cy P (t61.kp [1500048]) (az.jO [(2,[.yy 5 1]),(7,[.yz 5])]) 1 (cD Tryz.f6 3) OY:=fun d=>by kernel_rfl
def Ff:LT:=(az.jO [(2,[.yy 5 1]),(7,[.yz 5])]).add 1 OY
theorem acb:aA P 1 Ff (aU Tryz.f6):=aA.add hm (vF.kp [1500048]) (by kernel_rfl) (pT _) aca
def vH(d:List G):Option (Option Nat × List G) :=
 (bif (ao (gi d 5).int (gi d 4).int) then (bif ((aB (gi d 5).int)&&(ao (gi d 5).int (((gi d 3).rows.length:Nat):Int))) then (bif (decide ((0+((gi d 5).int).toNat)<(gi d 3).rows.length)) then (bif ((ae (gi d 2).rows.length (gi d 2).rows.length)&&(decide (((gi d 2).rows.length+1)≤1048576))) then (bif (au ((gi d 5).int+1)) then (bif ((ae ((gi d 2).rows++([[.s (gi ((gi d 3).rows.getD (0+((gi d 5).int).toNat) []) 0).str,.l (gi (cC [.str] (gi d 0).rows [.s (gi ((gi d 3).rows.getD (0+((gi d 5).int).toNat) []) 0).str] [.l []]) 0).rows]]:List (List G))).length ((gi d 2).rows++([[.s (gi ((gi d 3).rows.getD (0+((gi d 5).int).toNat) []) 0).str,.l (gi (cC [.str] (gi d 0).rows [.s (gi ((gi d 3).rows.getD (0+((gi d 5).int).toNat) []) 0).str] [.l []]) 0).rows]]:List (List G))).length)&&((ae (gi d 3).rows.length (gi d 3).rows.length)&&true)) then some (none,[.l (gi d 0).rows,.i (((gi d 1).int.toNat:Nat):Int),.l ((gi d 2).rows++([[.s (gi ((gi d 3).rows.getD (0+((gi d 5).int).toNat) []) 0).str,.l (gi (cC [.str] (gi d 0).rows [.s (gi ((gi d 3).rows.getD (0+((gi d 5).int).toNat) []) 0).str] [.l []]) 0).rows]]:List (List G))),.l (gi d 3).rows,.i (gi d 4).int,.i ((gi d 5).int+1)]) else none) else none) else none) else none) else none) else (bif ((ae (gi d 2).rows.length (gi d 2).rows.length)&&true) then some (some 0,[.l (gi d 0).rows,.i (((gi d 1).int.toNat:Nat):Int),.l (gi d 2).rows]) else none))
def OZ:bz:=⟨15,[(10,[.str,.list ai])],⟨77,[(5,.s (.map 0)),(10,.s (.vec 1 2)),(61,.s (.vec 2 1)),(62,.s (.int .i64)),(63,.s (.int .i64))],[.map (.one (.str)) (.one (.list ai)),.vec [.str,.list ai] 0,.vec [.str] 0]⟩,[.fix 0,.slot 10,.slot 61],[⟨.exit 4,⟨77,[(10,.s (.vec 1 2))],[.map (.one (.str)) (.one (.list ai)),.vec [.str,.list ai] 0]⟩,[.fix 0,.slot 10]⟩],vH⟩
theorem acd:cy P (t61.kp [1500048]) Ff 1 (cD Tryz.f6 15) OZ:=fun d=>by kernel_rfl
def zJ:LT:=Ff.add 1 OZ
theorem ace:aA P 1 zJ (aU Tryz.f6):=aA.add hm (vF.kp [1500048]) (by kernel_rfl) acb acd
def sD(r d:List G):Option (List G) :=
 (bif ((ae (gi d 2).rows.length (gi d 2).rows.length)&&(decide (((gi d 2).rows.length+1)≤1048576))) then (bif ((ae ((gi d 2).rows++([[.s (gi (gi r 0).row 0).str]]:List (List G))).length ((gi d 2).rows++([[.s (gi (gi r 0).row 0).str]]:List (List G))).length)&&true) then some [.l (gi d 0).rows,.i (((gi d 1).int.toNat:Nat):Int),.l ((gi d 2).rows++([[.s (gi (gi r 0).row 0).str]]:List (List G))),.i (((gi d 3).int.toNat:Nat):Int)] else none) else none)
def acf(d:List G)(b:Nat):List G:=[.l (gi d 0).rows,.i (((gi d 1).int.toNat:Nat):Int),.l (gi d 2).rows,.i (b:Int)]
def acg(d:List G)(b:Nat):Bool:=((ae (gi d 2).rows.length (gi d 2).rows.length)&&true)
def zK:fh:=⟨⟨77,[(5,.s (.map 0)),(8,.s (.vec 1 1)),(50,.s (.addr))],[.map (.one (.str)) (.one (.list ai)),.vec [.str] 0]⟩,[.fix 0,.slot 8],[],(.one (.str)),(.one (.list ai)),0,0,49,50,51,52,53,fun d=>(gi d 3).int.toNat,acf,acg,sD⟩
theorem ach:jP P (t61.kp [1500048]) zJ 1 zK (mR (cutAt Tryz.f6 8)) (pX (cutAt Tryz.f6 8)):=fun r d=>by kernel_rfl
def zL(d:List G):Option (Option Nat × List G) :=
 (iE (((ae (gi d 2).rows.length (gi d 2).rows.length)&&true)&&(sC [.l (gi d 2).rows]).isSome) (sC [.l (gi d 2).rows]) fun g2=>(a8 ((ae (gi d 2).rows.length (gi g2 0).rows.length)&&true) (bV vH [.l (gi d 0).rows,.i (((gi d 1).int.toNat:Nat):Int),.l [],.l (gi g2 0).rows,.i (((gi d 2).rows.length:Nat):Int),.i 0]) fun h g3=>(bif ((ae (gi g3 2).rows.length (gi g3 2).rows.length)&&true) then some (some 0,[.l (gi g3 0).rows,.i (((gi g3 1).int.toNat:Nat):Int),.l (gi g3 2).rows]) else none)))
def O0:bz:=⟨12,[],⟨77,[(5,.s (.map 0)),(8,.s (.vec 1 1)),(50,.s (.addr))],[.map (.one (.str)) (.one (.list ai)),.vec [.str] 0]⟩,[],[⟨.ret,⟨77,[(4,.s (.vec 1 2))],[.map (.one (.str)) (.one (.list ai)),.vec [.str,.list ai] 0]⟩,[.fix 0,.slot 4]⟩],zL⟩
theorem aci:gW P (t61.kp [1500048]) zJ 1 (pW (cutAt Tryz.f6 8)) O0:=fun d=>by kernel_rfl
def Fg(d:List G):Option (Option Nat × List G) :=
 iU zK zL (gi d 0).rows ((gi d 1).int.toNat) d
def Fh:bz:=⟨8,[(8,[.str])],⟨77,[(5,.s (.map 0)),(8,.s (.vec 1 1))],[.map (.one (.str)) (.one (.list ai)),.vec [.str] 0]⟩,[.fix 0,.slot 8],[⟨.ret,⟨77,[(4,.s (.vec 1 2))],[.map (.one (.str)) (.one (.list ai)),.vec [.str,.list ai] 0]⟩,[.fix 0,.slot 4]⟩],Fg⟩
def O1:LT:=zJ.fX 1 Fh
theorem acj:∀ r d d',sD r d=some d'→(gi d' 0).rows=(gi d 0).rows∧(gi d' 1).int.toNat=(gi d 1).int.toNat:=by
 intro r d d' h;unfold sD at h;simp only[Bool.cond_eq_ite]at h
 repeat' split at h
 all_goals first|(cases h; done)|(cases h; exact⟨rfl,rfl⟩)
theorem ack:aA P 1 O1 (aU Tryz.f6):=aA.Lt (q:=Fh) (qr:=O0) (sp:=zK) (r0:=8) (b0:=2) (r1:=9) (b1:=3) (r2:=10) (rows:=fun d=>(gi d 0).rows) (clock:=fun d=>(gi d 1).int.toNat) (pre:=fun d=>Dk P (t61.kp [1500048]) (lb (cutAt Tryz.f6 8)) (aN Fh.inv d)) (ri:=fun d=>(gi d 0).rows) (ci:=fun d=>(gi d 1).int.toNat) hm (vF.kp [1500048]) (fun d=>by kernel_rfl) acj (by kernel_rfl) (by kernel_rfl) ace (by kernel_rfl) (by kernel_rfl) ach (fun d=>by kernel_rfl) (fun d=>by kernel_rfl) (fun d=>by kernel_rfl) (fun d=>by kernel_rfl) (fun d=>by kernel_rfl) (fun d=>by kernel_rfl) (fun d b=>by kernel_rfl) (fun d b=>rfl) (fun d b=>⟨rfl,rfl⟩) rfl rfl aci (fun d=>rfl)
def zM(d:List G):Option (List G) :=
 (a8 true (bV vG [.l ((eO [.str] [] [.s (gi d 0).str] [.l (gi d 1).rows] 0).map uV),.i (((eE [.str] [] [.s (gi d 0).str] 0):Nat):Int),.s (gi d 0).str,.l (gi d 1).rows,.i (((gi d 1).rows.length:Nat):Int),.i 0]) fun h g1=>(bif ((r9 (gi g1 0).rows)&&true) then (a8 true (dn (Fg [.l (gi g1 0).rows,.i (((gi g1 1).int.toNat:Nat):Int),.l []])) fun k g4=>(bif ((ae (gi g4 2).rows.length (gi g4 2).rows.length)&&true) then some [.l (gi g4 2).rows] else none)) else none))
def Fi:aG:=⟨6,[.s (.str),.s (.list ai)],[],[],[.s (.list [.str,.list ai])],[],[],[],zM⟩
theorem acm:aX P (t61.kp [1500048]) O1 Tryz.f6 Fi:=fun d=>by kernel_rfl
theorem acn:aV P Fi:=rX hm (vF.kp [1500048]) Tryz.func6 (by kernel_rfl) (ack.mono (by kernel_rfl)) acm (by kernel_rfl)
def t62:ak:=t61.bC Fi
theorem O2:aq P t62:=vF.aP acn

def zN(d:List G):Option (List G) :=
 (bif (ao 0 (gi (gi d 0).row 0).int) then (bif (au ((gi (gi d 0).row 0).int-1)) then (bif ((aB ((gi (gi d 0).row 0).int-1))&&(ao ((gi (gi d 0).row 0).int-1) (((gi (gi d 2).row 0).rows.length:Nat):Int))) then (bif ((Op.bytesLess (gi (gi d 1).row 0).str.toList (gi ((gi (gi d 2).row 0).rows.getD (((gi (gi d 0).row 0).int-1).toNat) []) 0).str.toList)||((gi (gi d 1).row 0).str.toList==(gi ((gi (gi d 2).row 0).rows.getD (((gi (gi d 0).row 0).int-1).toNat) []) 0).str.toList)) then some [.i 7] else some [.i 0]) else none) else none) else some [.i 0])
def Fj:aG:=⟨17,[.s (.cptr [.int .i64]),.s (.cptr [.str,.list ai]),.s (.cptr [.list [.str,.list ai]])],[],[],[.s (.int .i64)],[],[],[],zN⟩
theorem aco:aX P t62 az Tryz.f17 Fj:=fun d=>by kernel_rfl
theorem acp:aV P Fj:=aT hm O2 Tryz.func17 (aL _ _ _) aco
def t63:ak:=t62.bC Fj
theorem O3:aq P t63:=O2.aP acp

def zO(d:List G):Option (List G) :=
 some [.t ((gi (gi d 0).row 3).str.toList==(gi (gi d 1).row 0).str.toList)]
def Fk:aG:=⟨38,[.s (.row ai),.s (.cptr [.str,.list ai])],[],[],[.s (.bool)],[],[],[],zO⟩
theorem acq:aX P t63 az Tryz.f38 Fk:=fun d=>by kernel_rfl
theorem acr:aV P Fk:=aT hm O3 Tryz.func38 (aL _ _ _) acq
def t64:ak:=t63.bC Fk
theorem Fl:aq P t64:=O3.aP acr

def O4(d:List G):Option (Option Nat × List G) :=
 (bif (ao (gi d 3).int (gi d 2).int) then (bif ((aB (gi d 3).int)&&(ao (gi d 3).int (((gi d 0).rows.length:Nat):Int))) then (ay (zO [.l [(aM ai ((gi d 0).rows.getD (((gi d 3).int).toNat) []))],.l [(aM [.str,.list ai] (gi d 1).row)]]) fun g1=>(bif (gi g1 0).bool then some (some 0,[.i (gi d 3).int]) else (bif (au ((gi d 3).int+1)) then some (none,[.l (gi d 0).rows,.l [(aM [.str,.list ai] (gi d 1).row)],.i (gi d 2).int,.i ((gi d 3).int+1)]) else none))) else none) else some (some 1,[]))
def O5:bz:=⟨2,[],⟨19,[(0,.s (.list ai)),(1,.clo 38 [.cptr [.str,.list ai]]),(7,.s (.int .i64)),(8,.s (.int .i64))],[]⟩,[],[⟨.ret,⟨19,[(4,.s (.int .i64))],[]⟩,[]⟩,⟨.exit 0,⟨19,[],[]⟩,[]⟩],O4⟩
theorem acs:cy P t64 az 0 (cD Tryz.f25 2) O5:=fun d=>by kernel_rfl
def O6:LT:=az.add 0 O5
theorem acu:aA P 0 O6 (aU Tryz.f25):=aA.a hm Fl (aL _ _ _) acs
def O7(d:List G):Option (List G) :=
 (a8 true (bV O4 [.l (gi d 0).rows,.l [(aM [.str,.list ai] (gi d 1).row)],.i (((gi d 0).rows.length:Nat):Int),.i 0]) fun h g2=>(bif ae h 0 then some [.i (gi g2 0).int] else some [.i (-1)]))
def Fm:aG:=⟨25,[.s (.list ai),.clo 38 [.cptr [.str,.list ai]]],[],[],[.s (.int .i64)],[],[],[],O7⟩
theorem acv:aX P t64 O6 Tryz.f25 Fm:=fun d=>by kernel_rfl
theorem acw:aV P Fm:=aT hm Fl Tryz.func25 acu acv
def t65:ak:=t64.bC Fm
theorem O8:aq P t65:=Fl.aP acw

def O9(d:List G):Option (List G) :=
 (ay (O7 [.l (gi d 0).rows,.l [(aM [.str,.list ai] (gi d 1).row)]]) fun g1=>some [.t (ba 0 (gi g1 0).int)])
def Fo:aG:=⟨11,[.s (.list ai),.clo 38 [.cptr [.str,.list ai]]],[],[],[.s (.bool)],[],[],[],O9⟩
theorem acx:aX P t65 az Tryz.f11 Fo:=fun d=>by kernel_rfl
theorem acy:aV P Fo:=aT hm O8 Tryz.func11 (aL _ _ _) acx
def t66:ak:=t65.bC Fo
theorem O_:aq P t66:=O8.aP acy

def zP(d:List G):Option (List G) :=
 (ay (so [.s (gi (gi d 0).row 0).str]) fun g1=>(bif (!(gi g1 0).bool) then some [.i 3] else (ay (zN [.l [[.i (gi (gi d 1).row 0).int]],.l [(aM [.str,.list ai] (gi d 2).row)],.l [[.l (gi (gi d 3).row 0).rows]]]) fun g2=>(bif ((gi g2 0).int != 0) then some [.i (gi g2 0).int] else (ay (zp [.l (gi (gi d 0).row 1).rows]) fun g3=>(bif ((gi g3 0).int != 0) then some [.i (gi g3 0).int] else (ay (O9 [.l (gi (gi d 0).row 1).rows,.l [(aM [.str,.list ai] (gi d 0).row)]]) fun g4=>(bif (gi g4 0).bool then some [.i 6] else some [.i 0]))))))))
def Fp:aG:=⟨18,[.s (.row [.str,.list ai]),.clo 17 [.cptr [.int .i64],.cptr [.str,.list ai],.cptr [.list [.str,.list ai]]]],[],[],[.s (.int .i64)],[],[],[],zP⟩
theorem acz:aX P (t66.fY [11]) az Tryz.f18 Fp:=fun d=>by kernel_rfl
theorem acA:aV P Fp:=rX hm (O_.fY [11]) Tryz.func18 (by kernel_rfl) (aL _ _ _) acz (by kernel_rfl)
def t67:ak:=t66.bC Fp
theorem Fq:aq P t67:=O_.aP acA

def vI(d:List G):Option (Option Nat × List G) :=
 (bif (ao (gi d 3).int (gi d 2).int) then (bif ((aB (gi d 3).int)&&(ao (gi d 3).int (((gi d 1).rows.length:Nat):Int))) then (ay (zP [.l [(aM [.str,.list ai] ((gi d 1).rows.getD (((gi d 3).int).toNat) []))],.l [[.i (gi d 3).int]],.l [(aM [.str,.list ai] ((gi d 1).rows.getD (((gi d 3).int).toNat) []))],.l [[.l (gi d 0).rows]]]) fun g1=>(bif ((gi g1 0).int != 0) then some (some 0,[.i (gi g1 0).int]) else (bif (au ((gi d 3).int+1)) then some (none,[.l (gi d 0).rows,.l (gi d 1).rows,.i (gi d 2).int,.i ((gi d 3).int+1)]) else none))) else none) else some (some 1,[]))
def O':bz:=⟨4,[],⟨25,[(1,.s (.ptr 0 0)),(10,.s (.list [.str,.list ai])),(11,.s (.int .i64)),(12,.s (.int .i64))],[.box [.list [.str,.list ai]]]⟩,[.slot 1],[⟨.ret,⟨25,[(2,.s (.int .i64))],[]⟩,[]⟩,⟨.exit 0,⟨25,[],[]⟩,[]⟩],vI⟩
theorem acB:cy P (t67.fY [18]) az 0 (cD Tryz.f7 4) O':=fun d=>by kernel_rfl
def Pa:LT:=az.add 0 O'
theorem acC:aA P 0 Pa (aU Tryz.f7):=aA.add hm (Fq.fY [18]) (by kernel_rfl) (aL _ _ _) acB
def oz(d:List G):Option (List G) :=
 (bif (ao 100 (((gi d 0).rows.length:Nat):Int)) then some [.i 2] else (a8 true (bV vI [.l (gi d 0).rows,.l (gi d 0).rows,.i (((gi d 0).rows.length:Nat):Int),.i 0]) fun h g2=>(bif ae h 0 then some [.i (gi g2 0).int] else some [.i 0])))
def Fs:aG:=⟨7,[.s (.list [.str,.list ai])],[],[],[.s (.int .i64)],[],[],[],oz⟩
theorem acD:aX P (t67.fY [18]) Pa Tryz.f7 Fs:=fun d=>by kernel_rfl
theorem acE:aV P Fs:=rX hm (Fq.fY [18]) Tryz.func7 (by kernel_rfl) acC acD (by kernel_rfl)
def t68:ak:=t67.bC Fs
theorem Pb:aq P t68:=Fq.aP acE

def Ft(d:List G):Option (List G) :=
 (ay (lV [.i (gi d 0).int,.i 0,.i 3600000]) fun g1=>(bif (gi g1 0).bool then some [.i 1] else some [.i 0]))
def Fu:aG:=⟨45,[.s (.int .i64)],[],[],[.s (.int .i64)],[],[],[],Ft⟩
theorem acF:aX P t68 az Tryz.f45 Fu:=fun d=>by kernel_rfl
theorem acG:aV P Fu:=aT hm Pb Tryz.func45 (aL _ _ _) acF
def t69:ak:=t68.bC Fu
theorem Pc:aq P t69:=Pb.aP acG

def Fv(d:List G):Option (List G) :=
 (ay (iH [.s (gi (gi d 0).row 0).str,.s (gi d 1).str]) fun g1=>some [.i (gi g1 0).int])
def Fw:aG:=⟨87,[.s (.row [.str,.list ai]),.s (.str)],[],[],[.s (.int .i64)],[],[],[],Fv⟩
theorem acH:aX P t69 az Tryz.f87 Fw:=fun d=>by kernel_rfl
theorem acI:aV P Fw:=aT hm Pc Tryz.func87 (aL _ _ _) acH
def t70:ak:=t69.bC Fw
theorem Fx:aq P t70:=Pc.aP acI

def sE(d:List G):Option (Option Nat × List G) :=
 (bif (ao (gi d 3).int (gi d 4).int) then (bif (au ((gi d 3).int+(gi d 4).int)) then (bif (au (dW .u64 (IntKind.u64.wrap ((gi d 3).int+(gi d 4).int)) 1)) then (bif ((aB (dW .u64 (IntKind.u64.wrap ((gi d 3).int+(gi d 4).int)) 1))&&(ao (dW .u64 (IntKind.u64.wrap ((gi d 3).int+(gi d 4).int)) 1) (((gi d 0).rows.length:Nat):Int))) then (ay (Fv [.l [(aM [.str,.list ai] ((gi d 0).rows.getD ((dW .u64 (IntKind.u64.wrap ((gi d 3).int+(gi d 4).int)) 1).toNat) []))],.s (gi d 1).str]) fun g1=>(bif (ao (gi g1 0).int 0) then (bif (au ((dW .u64 (IntKind.u64.wrap ((gi d 3).int+(gi d 4).int)) 1)+1)) then some (none,[.l (gi d 0).rows,.s (gi d 1).str,.i (gi d 2).int,.i ((dW .u64 (IntKind.u64.wrap ((gi d 3).int+(gi d 4).int)) 1)+1),.i (gi d 4).int]) else none) else some (none,[.l (gi d 0).rows,.s (gi d 1).str,.i (gi d 2).int,.i (gi d 3).int,.i (dW .u64 (IntKind.u64.wrap ((gi d 3).int+(gi d 4).int)) 1)]))) else none) else none) else none) else some (some 0,[.l (gi d 0).rows,.s (gi d 1).str,.i (gi d 2).int,.i (gi d 3).int]))
def Pd:bz:=⟨3,[],⟨49,[(0,.s (.list [.str,.list ai])),(1,.s (.str)),(2,.s (.fn 87)),(8,.s (.int .i64)),(9,.s (.int .i64)),(10,.s (.int .i64))],[]⟩,[],[⟨.exit 0,⟨49,[(0,.s (.list [.str,.list ai])),(1,.s (.str)),(2,.s (.fn 87)),(8,.s (.int .i64)),(9,.s (.int .i64))],[]⟩,[]⟩],sE⟩
theorem acJ:cy P t70 az 0 (cD Tryz.f86 3) Pd:=fun d=>by kernel_rfl
def Pe:LT:=az.add 0 Pd
theorem acK:aA P 0 Pe (aU Tryz.f86):=aA.a hm Fx (aL _ _ _) acJ
def Fy(d:List G):Option (List G) :=
 (a8 true (bV sE [.l (gi d 0).rows,.s (gi d 1).str,.i (((gi d 0).rows.length:Nat):Int),.i 0,.i (((gi d 0).rows.length:Nat):Int)]) fun h g2=>(bif (ao (gi g2 3).int (gi g2 2).int) then (bif ((aB (gi g2 3).int)&&(ao (gi g2 3).int (((gi g2 0).rows.length:Nat):Int))) then (ay (Fv [.l [(aM [.str,.list ai] ((gi g2 0).rows.getD (((gi g2 3).int).toNat) []))],.s (gi g2 1).str]) fun g3=>some [.i (gi g2 3).int,.t ((gi g3 0).int==0)]) else none) else some [.i (gi g2 3).int,.t false]))
def Fz:aG:=⟨86,[.s (.list [.str,.list ai]),.s (.str),.s (.fn 87)],[],[],[.s (.int .i64),.s (.bool)],[],[],[],Fy⟩
theorem acL:aX P t70 Pe Tryz.f86 Fz:=fun d=>by kernel_rfl
theorem acM:aV P Fz:=aT hm Fx Tryz.func86 acK acL
def t71:ak:=t70.bC Fz
theorem Pf:aq P t71:=Fx.aP acM

def vJ(d:List G):Option (List G) :=
 (ay (Fy [.l (gi d 0).rows,.s (gi d 1).str]) fun g1=>some [.i (gi g1 0).int,.t (gi g1 1).bool])
def FA:aG:=⟨46,[.s (.list [.str,.list ai]),.s (.str)],[],[],[.s (.int .i64),.s (.bool)],[],[],[],vJ⟩
theorem acN:aX P t71 az Tryz.f46 FA:=fun d=>by kernel_rfl
theorem acO:aV P FA:=aT hm Pf Tryz.func46 (aL _ _ _) acN
def t72:ak:=t71.bC FA
theorem Pg:aq P t72:=Pf.aP acO

def Ph(d:List G):Option (List G) :=
 some [.l (gi d 0).rows,.i (gi d 1).int,.i (gi d 2).int,.l [],.i 0,.l [],.i 0]
def FB:aG:=⟨47,[.s (.list [.str,.list ai]),.s (.int .i64),.s (.int .i64)],[],[],[.s (.ptr 0 0)],[.box [.list [.str,.list ai],.int .i64,.int .i64,.map 1,.map 2],.map (.one (.int .i64)) (.one (.int .i64)),.map (.one (.int .i64)) (.one (.int .i64))],[.slot 0,.cell 0 3,.cell 0 4],[],Ph⟩
theorem acP:aX P t72 az Tryz.f47 FB:=fun d=>by kernel_rfl
theorem acQ:aV P FB:=aT hm Pg Tryz.func47 (aL _ _ _) acP
def t73:ak:=t72.cT FB
theorem FC:aq P t73:=Pg.aW acQ

def sF(d:List G):Option (Option Nat × List G) :=
 (bif (ao (gi d 5).int (gi d 4).int) then (bif ((aB (gi d 5).int)&&(ao (gi d 5).int (((gi d 3).rows.length:Nat):Int))) then (bif ((gi ((gi d 3).rows.getD (((gi d 5).int).toNat) []) 3).str.toList==(gi d 2).str.toList) then (bif (fe [.str,.int .i64] (gi d 0).rows [.s (gi ((gi d 3).rows.getD (((gi d 5).int).toNat) []) 2).str,.i (gi ((gi d 3).rows.getD (((gi d 5).int).toNat) []) 1).int]) then (bif ((ae (dm [.str,.int .i64] (gi d 0).rows [.s (gi ((gi d 3).rows.getD (((gi d 5).int).toNat) []) 2).str,.i (gi ((gi d 3).rows.getD (((gi d 5).int).toNat) []) 1).int]).length (dm [.str,.int .i64] (gi d 0).rows [.s (gi ((gi d 3).rows.getD (((gi d 5).int).toNat) []) 2).str,.i (gi ((gi d 3).rows.getD (((gi d 5).int).toNat) []) 1).int]).length)&&(decide (((dm [.str,.int .i64] (gi d 0).rows [.s (gi ((gi d 3).rows.getD (((gi d 5).int).toNat) []) 2).str,.i (gi ((gi d 3).rows.getD (((gi d 5).int).toNat) []) 1).int]).length+1)≤1048576))) then (bif ((rF (lL [.str,.int .i64] (gi d 0).rows [.s (gi ((gi d 3).rows.getD (((gi d 5).int).toNat) []) 2).str,.i (gi ((gi d 3).rows.getD (((gi d 5).int).toNat) []) 1).int] ((gi d 1).int.toNat)) (((lK [.str,.int .i64] (gi d 0).rows [.s (gi ((gi d 3).rows.getD (((gi d 5).int).toNat) []) 2).str,.i (gi ((gi d 3).rows.getD (((gi d 5).int).toNat) []) 1).int] ((gi d 1).int.toNat)):Nat):Int))&&(ae ((dm [.str,.int .i64] (gi d 0).rows [.s (gi ((gi d 3).rows.getD (((gi d 5).int).toNat) []) 2).str,.i (gi ((gi d 3).rows.getD (((gi d 5).int).toNat) []) 1).int])++([[.i (gi d 5).int]]:List (List G))).length ((dm [.str,.int .i64] (gi d 0).rows [.s (gi ((gi d 3).rows.getD (((gi d 5).int).toNat) []) 2).str,.i (gi ((gi d 3).rows.getD (((gi d 5).int).toNat) []) 1).int])++([[.i (gi d 5).int]]:List (List G))).length)) then (bif (au ((gi d 5).int+1)) then some (none,[.l (rE (lL [.str,.int .i64] (gi d 0).rows [.s (gi ((gi d 3).rows.getD (((gi d 5).int).toNat) []) 2).str,.i (gi ((gi d 3).rows.getD (((gi d 5).int).toNat) []) 1).int] ((gi d 1).int.toNat)) (((lK [.str,.int .i64] (gi d 0).rows [.s (gi ((gi d 3).rows.getD (((gi d 5).int).toNat) []) 2).str,.i (gi ((gi d 3).rows.getD (((gi d 5).int).toNat) []) 1).int] ((gi d 1).int.toNat)):Nat):Int) ((dm [.str,.int .i64] (gi d 0).rows [.s (gi ((gi d 3).rows.getD (((gi d 5).int).toNat) []) 2).str,.i (gi ((gi d 3).rows.getD (((gi d 5).int).toNat) []) 1).int])++([[.i (gi d 5).int]]:List (List G)))),.i (((eE [.str,.int .i64] (gi d 0).rows [.s (gi ((gi d 3).rows.getD (((gi d 5).int).toNat) []) 2).str,.i (gi ((gi d 3).rows.getD (((gi d 5).int).toNat) []) 1).int] ((gi d 1).int.toNat)):Nat):Int),.s (gi d 2).str,.l (gi d 3).rows,.i (gi d 4).int,.i ((gi d 5).int+1)]) else none) else none) else none) else none) else (bif (au ((gi d 5).int+1)) then some (none,[.l (gi d 0).rows,.i (((gi d 1).int.toNat:Nat):Int),.s (gi d 2).str,.l (gi d 3).rows,.i (gi d 4).int,.i ((gi d 5).int+1)]) else none)) else none) else some (some 0,[.l (gi d 0).rows,.i (((gi d 1).int.toNat:Nat):Int)]))
def Pj:bz:=⟨3,[],⟨36,[(1,.s (.str)),(5,.s (.map 0)),(10,.s (.list ai)),(11,.s (.int .i64)),(12,.s (.int .i64))],[.aO 1 (.agg [.str,.int .i64]) [.int .i64]]⟩,[.slot 5],[⟨.exit 0,⟨36,[(5,.s (.map 0))],[.aO 1 (.agg [.str,.int .i64]) [.int .i64]]⟩,[.slot 5]⟩],sF⟩
theorem acR:cy P t73 (az.jO [(2,[.aO 5 1]),(9,[.yx 5])]) 0 (cD Tryz.f180 3) Pj:=fun d=>by kernel_rfl
def Pk:LT:=(az.jO [(2,[.aO 5 1]),(9,[.yx 5])]).add 0 Pj
theorem acS:aA P 0 Pk (aU Tryz.f180):=aA.a hm FC (pT _) acR
def vK(d:List G):Option (List G) :=
 (a8 true (bV sF [.l [],.i 0,.s (gi d 1).str,.l (gi d 0).rows,.i (((gi d 0).rows.length:Nat):Int),.i 0]) fun h g1=>(bif ((yG (gi g1 0).rows)&&true) then some [.l (gi g1 0).rows,.i (((gi g1 1).int.toNat:Nat):Int)] else none))
def FD:aG:=⟨180,[.s (.list ai),.s (.str)],[],[],[.s (.map 0)],[.map (.agg [.str,.int .i64]) (.one (.list [.int .i64]))],[.slot 0],[],vK⟩
theorem acT:aX P t73 Pk Tryz.f180 FD:=fun d=>by kernel_rfl
theorem acU:aV P FD:=aT hm FC Tryz.func180 acS acT
def t74:ak:=t73.cT FD
theorem Pl:aq P t74:=FC.aW acU

def sG(d:List G):Option (List G) :=
 (bif (au ((gi (gi d 0).row 0).int-(gi (gi d 1).row 0).int)) then (bif (au ((gi (gi d 1).row 0).int-(gi (gi d 0).row 0).int)) then some [.i (if ((gi (gi d 1).row 0).int-(gi (gi d 0).row 0).int)>((gi (gi d 0).row 0).int-(gi (gi d 1).row 0).int) then ((gi (gi d 1).row 0).int-(gi (gi d 0).row 0).int) else ((gi (gi d 0).row 0).int-(gi (gi d 1).row 0).int))] else none) else none)
def FE:aG:=⟨200,[.s (.row ai),.s (.row ai)],[],[],[.s (.int .i64)],[],[],[],sG⟩
theorem acV:aX P t74 az Tryz.f200 FE:=fun d=>by kernel_rfl
theorem acW:aV P FE:=aT hm Pl Tryz.func200 (aL _ _ _) acV
def t75:ak:=t74.bC FE
theorem Pm:aq P t75:=Pl.aP acW

def sH(d:List G):Option (List G) :=
 (bif ((gi (gi d 0).row 2).str.toList==(gi (gi d 1).row 2).str.toList) then (bif ((gi (gi d 0).row 1).int==(gi (gi d 1).row 1).int) then (ay (sG [.l [(aM ai (gi d 0).row)],.l [(aM ai (gi d 1).row)]]) fun g1=>some [.t (ba (gi g1 0).int (gi d 2).int)]) else some [.t false]) else some [.t false])
def FF:aG:=⟨185,[.s (.row ai),.s (.row ai),.s (.int .i64)],[],[],[.s (.bool)],[],[],[],sH⟩
theorem acX:aX P t75 az Tryz.f185 FF:=fun d=>by kernel_rfl
theorem acY:aV P FF:=aT hm Pm Tryz.func185 (aL _ _ _) acX
def t76:ak:=t75.bC FF
theorem Pn:aq P t76:=Pm.aP acY

def vL(d:List G):Option (List G) :=
 (bif ((aB (gi d 6).int)&&(ao (gi d 6).int (((gi d 2).rows.length:Nat):Int))) then (bif ((aB (gi ((gi d 2).rows.getD (((gi d 6).int).toNat) []) 0).int)&&(ao (gi ((gi d 2).rows.getD (((gi d 6).int).toNat) []) 0).int (((gi d 0).rows.length:Nat):Int))) then (bif ((aB (gi d 7).int)&&(ao (gi d 7).int (((gi d 3).rows.length:Nat):Int))) then (bif ((aB (gi ((gi d 3).rows.getD (((gi d 7).int).toNat) []) 0).int)&&(ao (gi ((gi d 3).rows.getD (((gi d 7).int).toNat) []) 0).int (((gi d 1).rows.length:Nat):Int))) then (ay (sG [.l [(aM ai ((gi d 0).rows.getD (((gi ((gi d 2).rows.getD (((gi d 6).int).toNat) []) 0).int).toNat) []))],.l [(aM ai ((gi d 1).rows.getD (((gi ((gi d 3).rows.getD (((gi d 7).int).toNat) []) 0).int).toNat) []))]]) fun g1=>(bif (au (10000000000-(gi g1 0).int)) then (ay (sH [.l [(aM ai ((gi d 0).rows.getD (((gi ((gi d 2).rows.getD (((gi d 6).int).toNat) []) 0).int).toNat) []))],.l [(aM ai ((gi d 1).rows.getD (((gi ((gi d 3).rows.getD (((gi d 7).int).toNat) []) 0).int).toNat) []))],.i (gi d 4).int]) fun g2=>(bif ((((ae (gi d 5).rows.length (gi d 5).rows.length)&&true)&&true)&&true) then some [.l (gi d 0).rows,.l (gi d 1).rows,.l (gi d 2).rows,.l (gi d 3).rows,.i (gi d 4).int,.l (gi d 5).rows,.i (10000000000-(gi g1 0).int),.t (gi g2 0).bool] else none)) else none)) else none) else none) else none) else none)
def FG:aG:=⟨198,[.s (.ptr 0 0),.s (.int .i64),.s (.int .i64)],[.box [.list ai,.list ai,.list [.int .i64],.list [.int .i64],.int .i64,.vec 1 1],.vec [.list [.int .i64]] 0],[.slot 0,.cell 0 5],[.s (.int .i64),.s (.bool)],[.box [.list ai,.list ai,.list [.int .i64],.list [.int .i64],.int .i64,.vec 1 1],.vec [.list [.int .i64]] 0],[.fix 0,.fix 1],[],vL⟩
theorem acZ:aX P t76 (az.jO [(1,[.hole ai,.hole ai])]) Tryz.f198 FG:=fun d=>by kernel_rfl
theorem ac0:aV P FG:=aT hm Pn Tryz.func198 (pT _) acZ
def t77:ak:=t76.cT FG
theorem vM:aq P t77:=Pn.aW ac0

def vN(d:List G):Option (Option Nat × List G) :=
 (bif (au ((gi d 8).int-1)) then (bif ((((ae (gi d 5).rows.length (gi d 5).rows.length)&&true)&&true)&&((ae (gi d 6).rows.length (gi d 6).rows.length)&&true)) then some (some 0,[.l (gi d 0).rows,.l (gi d 1).rows,.l (gi d 2).rows,.l (gi d 3).rows,.i (gi d 4).int,.l (gi d 5).rows,.l (gi d 6).rows,.i (gi d 7).int,.i ((gi d 8).int-1)]) else none) else none)
def Po:bz:=⟨8,[],⟨118,[(0,.s (.ptr 0 0)),(2,.s (.int .i64)),(3,.s (.vec 2 1)),(4,.s (.int .i64))],[.box [.list ai,.list ai,.list [.int .i64],.list [.int .i64],.int .i64,.vec 1 1],.vec [.list [.int .i64]] 0,.vec [.int .i64] 0]⟩,[.fix 0,.cell 0 5,.slot 3],[⟨.normal,⟨118,[(0,.s (.ptr 0 0)),(2,.s (.int .i64)),(3,.s (.vec 2 1)),(4,.s (.int .i64))],[.box [.list ai,.list ai,.list [.int .i64],.list [.int .i64],.int .i64,.vec 1 1],.vec [.list [.int .i64]] 0,.vec [.int .i64] 0]⟩,[.fix 0,.cell 0 5,.slot 3]⟩],vN⟩
theorem ac1:gW P t77 az 1 (cutAt Tryz.f197 8) Po:=fun d=>by kernel_rfl
def FH:LT:=az.fX 1 Po
theorem ac2:aA P 1 FH (aU Tryz.f197):=aA.aC hm vM (aL _ _ _) ac1
def vO(d:List G):Option (Option Nat × List G) :=
 (bif (ba 0 (gi d 8).int) then (bif (au ((gi d 7).int+1)) then (bif ((aB ((gi d 7).int+1))&&(ao ((gi d 7).int+1) (((gi d 5).rows.length:Nat):Int))) then (bif (decide ((0+((gi d 7).int+1).toNat)<(gi d 5).rows.length)) then (bif ((aB (gi d 8).int)&&(ao (gi d 8).int (((gi ((gi d 5).rows.getD (0+((gi d 7).int+1).toNat) []) 0).rows.length:Nat):Int))) then (bif (au ((gi d 8).int+1)) then (bif ((aB ((gi d 8).int+1))&&(ao ((gi d 8).int+1) (((gi d 6).rows.length:Nat):Int))) then (bif (decide ((0+((gi d 8).int+1).toNat)<(gi d 6).rows.length)) then (bif ((aB (gi d 8).int)&&(ao (gi d 8).int (((gi d 6).rows.length:Nat):Int))) then (bif (decide ((0+((gi d 8).int).toNat)<(gi d 6).rows.length)) then (iE (((((ae (gi d 5).rows.length (gi d 5).rows.length)&&true)&&true)&&true)&&(vL [.l (gi d 0).rows,.l (gi d 1).rows,.l (gi d 2).rows,.l (gi d 3).rows,.i (gi d 4).int,.l (gi d 5).rows,.i (gi d 7).int,.i (gi d 8).int]).isSome) (vL [.l (gi d 0).rows,.l (gi d 1).rows,.l (gi d 2).rows,.l (gi d 3).rows,.i (gi d 4).int,.l (gi d 5).rows,.i (gi d 7).int,.i (gi d 8).int]) fun g1=>(bif (gi g1 7).bool then (bif ((aB (gi d 8).int)&&(ao (gi d 8).int (((gi d 6).rows.length:Nat):Int))) then (bif (decide ((0+((gi d 8).int).toNat)<((gi d 6).rows.set (0+((gi d 8).int).toNat) (bf [.int .i64] ((gi d 6).rows.getD (0+((gi d 8).int).toNat) []) 0 [.i (if (gi ((gi d 6).rows.getD (0+((gi d 8).int+1).toNat) []) 0).int>(gi ((gi ((gi d 5).rows.getD (0+((gi d 7).int+1).toNat) []) 0).rows.getD (((gi d 8).int).toNat) []) 0).int then (gi ((gi d 6).rows.getD (0+((gi d 8).int+1).toNat) []) 0).int else (gi ((gi ((gi d 5).rows.getD (0+((gi d 7).int+1).toNat) []) 0).rows.getD (((gi d 8).int).toNat) []) 0).int)])).length)) then (bif (au ((gi d 7).int+1)) then (bif ((aB ((gi d 7).int+1))&&(ao ((gi d 7).int+1) (((gi g1 5).rows.length:Nat):Int))) then (bif (decide ((0+((gi d 7).int+1).toNat)<(gi g1 5).rows.length)) then (bif (au ((gi d 8).int+1)) then (bif ((aB ((gi d 8).int+1))&&(ao ((gi d 8).int+1) (((gi ((gi g1 5).rows.getD (0+((gi d 7).int+1).toNat) []) 0).rows.length:Nat):Int))) then (bif (au ((gi g1 6).int+(gi ((gi ((gi g1 5).rows.getD (0+((gi d 7).int+1).toNat) []) 0).rows.getD (((gi d 8).int+1).toNat) []) 0).int)) then (bif ((aB (gi d 8).int)&&(ao (gi d 8).int (((gi d 6).rows.length:Nat):Int))) then (bif (decide ((0+((gi d 8).int).toNat)<((gi d 6).rows.set (0+((gi d 8).int).toNat) (bf [.int .i64] ((gi d 6).rows.getD (0+((gi d 8).int).toNat) []) 0 [.i (if (gi ((gi d 6).rows.getD (0+((gi d 8).int+1).toNat) []) 0).int>(gi ((gi ((gi d 5).rows.getD (0+((gi d 7).int+1).toNat) []) 0).rows.getD (((gi d 8).int).toNat) []) 0).int then (gi ((gi d 6).rows.getD (0+((gi d 8).int+1).toNat) []) 0).int else (gi ((gi ((gi d 5).rows.getD (0+((gi d 7).int+1).toNat) []) 0).rows.getD (((gi d 8).int).toNat) []) 0).int)])).length)) then (a8 ((((ae (gi g1 5).rows.length (gi g1 5).rows.length)&&true)&&true)&&((ae (gi d 6).rows.length (((gi d 6).rows.set (0+((gi d 8).int).toNat) (bf [.int .i64] ((gi d 6).rows.getD (0+((gi d 8).int).toNat) []) 0 [.i (if (gi ((gi d 6).rows.getD (0+((gi d 8).int+1).toNat) []) 0).int>(gi ((gi ((gi d 5).rows.getD (0+((gi d 7).int+1).toNat) []) 0).rows.getD (((gi d 8).int).toNat) []) 0).int then (gi ((gi d 6).rows.getD (0+((gi d 8).int+1).toNat) []) 0).int else (gi ((gi ((gi d 5).rows.getD (0+((gi d 7).int+1).toNat) []) 0).rows.getD (((gi d 8).int).toNat) []) 0).int)])).set (0+((gi d 8).int).toNat) (bf [.int .i64] (((gi d 6).rows.set (0+((gi d 8).int).toNat) (bf [.int .i64] ((gi d 6).rows.getD (0+((gi d 8).int).toNat) []) 0 [.i (if (gi ((gi d 6).rows.getD (0+((gi d 8).int+1).toNat) []) 0).int>(gi ((gi ((gi d 5).rows.getD (0+((gi d 7).int+1).toNat) []) 0).rows.getD (((gi d 8).int).toNat) []) 0).int then (gi ((gi d 6).rows.getD (0+((gi d 8).int+1).toNat) []) 0).int else (gi ((gi ((gi d 5).rows.getD (0+((gi d 7).int+1).toNat) []) 0).rows.getD (((gi d 8).int).toNat) []) 0).int)])).getD (0+((gi d 8).int).toNat) []) 0 [.i (if ((gi g1 6).int+(gi ((gi ((gi g1 5).rows.getD (0+((gi d 7).int+1).toNat) []) 0).rows.getD (((gi d 8).int+1).toNat) []) 0).int)>(gi (((gi d 6).rows.set (0+((gi d 8).int).toNat) (bf [.int .i64] ((gi d 6).rows.getD (0+((gi d 8).int).toNat) []) 0 [.i (if (gi ((gi d 6).rows.getD (0+((gi d 8).int+1).toNat) []) 0).int>(gi ((gi ((gi d 5).rows.getD (0+((gi d 7).int+1).toNat) []) 0).rows.getD (((gi d 8).int).toNat) []) 0).int then (gi ((gi d 6).rows.getD (0+((gi d 8).int+1).toNat) []) 0).int else (gi ((gi ((gi d 5).rows.getD (0+((gi d 7).int+1).toNat) []) 0).rows.getD (((gi d 8).int).toNat) []) 0).int)])).getD (0+((gi d 8).int).toNat) []) 0).int then ((gi g1 6).int+(gi ((gi ((gi g1 5).rows.getD (0+((gi d 7).int+1).toNat) []) 0).rows.getD (((gi d 8).int+1).toNat) []) 0).int) else (gi (((gi d 6).rows.set (0+((gi d 8).int).toNat) (bf [.int .i64] ((gi d 6).rows.getD (0+((gi d 8).int).toNat) []) 0 [.i (if (gi ((gi d 6).rows.getD (0+((gi d 8).int+1).toNat) []) 0).int>(gi ((gi ((gi d 5).rows.getD (0+((gi d 7).int+1).toNat) []) 0).rows.getD (((gi d 8).int).toNat) []) 0).int then (gi ((gi d 6).rows.getD (0+((gi d 8).int+1).toNat) []) 0).int else (gi ((gi ((gi d 5).rows.getD (0+((gi d 7).int+1).toNat) []) 0).rows.getD (((gi d 8).int).toNat) []) 0).int)])).getD (0+((gi d 8).int).toNat) []) 0).int)])).length)&&true)) (dn (vN [.l (gi g1 0).rows,.l (gi g1 1).rows,.l (gi g1 2).rows,.l (gi g1 3).rows,.i (gi g1 4).int,.l (gi g1 5).rows,.l (((gi d 6).rows.set (0+((gi d 8).int).toNat) (bf [.int .i64] ((gi d 6).rows.getD (0+((gi d 8).int).toNat) []) 0 [.i (if (gi ((gi d 6).rows.getD (0+((gi d 8).int+1).toNat) []) 0).int>(gi ((gi ((gi d 5).rows.getD (0+((gi d 7).int+1).toNat) []) 0).rows.getD (((gi d 8).int).toNat) []) 0).int then (gi ((gi d 6).rows.getD (0+((gi d 8).int+1).toNat) []) 0).int else (gi ((gi ((gi d 5).rows.getD (0+((gi d 7).int+1).toNat) []) 0).rows.getD (((gi d 8).int).toNat) []) 0).int)])).set (0+((gi d 8).int).toNat) (bf [.int .i64] (((gi d 6).rows.set (0+((gi d 8).int).toNat) (bf [.int .i64] ((gi d 6).rows.getD (0+((gi d 8).int).toNat) []) 0 [.i (if (gi ((gi d 6).rows.getD (0+((gi d 8).int+1).toNat) []) 0).int>(gi ((gi ((gi d 5).rows.getD (0+((gi d 7).int+1).toNat) []) 0).rows.getD (((gi d 8).int).toNat) []) 0).int then (gi ((gi d 6).rows.getD (0+((gi d 8).int+1).toNat) []) 0).int else (gi ((gi ((gi d 5).rows.getD (0+((gi d 7).int+1).toNat) []) 0).rows.getD (((gi d 8).int).toNat) []) 0).int)])).getD (0+((gi d 8).int).toNat) []) 0 [.i (if ((gi g1 6).int+(gi ((gi ((gi g1 5).rows.getD (0+((gi d 7).int+1).toNat) []) 0).rows.getD (((gi d 8).int+1).toNat) []) 0).int)>(gi (((gi d 6).rows.set (0+((gi d 8).int).toNat) (bf [.int .i64] ((gi d 6).rows.getD (0+((gi d 8).int).toNat) []) 0 [.i (if (gi ((gi d 6).rows.getD (0+((gi d 8).int+1).toNat) []) 0).int>(gi ((gi ((gi d 5).rows.getD (0+((gi d 7).int+1).toNat) []) 0).rows.getD (((gi d 8).int).toNat) []) 0).int then (gi ((gi d 6).rows.getD (0+((gi d 8).int+1).toNat) []) 0).int else (gi ((gi ((gi d 5).rows.getD (0+((gi d 7).int+1).toNat) []) 0).rows.getD (((gi d 8).int).toNat) []) 0).int)])).getD (0+((gi d 8).int).toNat) []) 0).int then ((gi g1 6).int+(gi ((gi ((gi g1 5).rows.getD (0+((gi d 7).int+1).toNat) []) 0).rows.getD (((gi d 8).int+1).toNat) []) 0).int) else (gi (((gi d 6).rows.set (0+((gi d 8).int).toNat) (bf [.int .i64] ((gi d 6).rows.getD (0+((gi d 8).int).toNat) []) 0 [.i (if (gi ((gi d 6).rows.getD (0+((gi d 8).int+1).toNat) []) 0).int>(gi ((gi ((gi d 5).rows.getD (0+((gi d 7).int+1).toNat) []) 0).rows.getD (((gi d 8).int).toNat) []) 0).int then (gi ((gi d 6).rows.getD (0+((gi d 8).int+1).toNat) []) 0).int else (gi ((gi ((gi d 5).rows.getD (0+((gi d 7).int+1).toNat) []) 0).rows.getD (((gi d 8).int).toNat) []) 0).int)])).getD (0+((gi d 8).int).toNat) []) 0).int)])),.i (gi d 7).int,.i (gi d 8).int])) fun h g2=>(bif ((((ae (gi g2 5).rows.length (gi g2 5).rows.length)&&true)&&true)&&((ae (gi g2 6).rows.length (gi g2 6).rows.length)&&true)) then some (none,[.l (gi g2 0).rows,.l (gi g2 1).rows,.l (gi g2 2).rows,.l (gi g2 3).rows,.i (gi g2 4).int,.l (gi g2 5).rows,.l (gi g2 6).rows,.i (gi g2 7).int,.i (gi g2 8).int]) else none)) else none) else none) else none) else none) else none) else none) else none) else none) else none) else none) else (a8 ((((ae (gi g1 5).rows.length (gi g1 5).rows.length)&&true)&&true)&&((ae (gi d 6).rows.length ((gi d 6).rows.set (0+((gi d 8).int).toNat) (bf [.int .i64] ((gi d 6).rows.getD (0+((gi d 8).int).toNat) []) 0 [.i (if (gi ((gi d 6).rows.getD (0+((gi d 8).int+1).toNat) []) 0).int>(gi ((gi ((gi d 5).rows.getD (0+((gi d 7).int+1).toNat) []) 0).rows.getD (((gi d 8).int).toNat) []) 0).int then (gi ((gi d 6).rows.getD (0+((gi d 8).int+1).toNat) []) 0).int else (gi ((gi ((gi d 5).rows.getD (0+((gi d 7).int+1).toNat) []) 0).rows.getD (((gi d 8).int).toNat) []) 0).int)])).length)&&true)) (dn (vN [.l (gi g1 0).rows,.l (gi g1 1).rows,.l (gi g1 2).rows,.l (gi g1 3).rows,.i (gi g1 4).int,.l (gi g1 5).rows,.l ((gi d 6).rows.set (0+((gi d 8).int).toNat) (bf [.int .i64] ((gi d 6).rows.getD (0+((gi d 8).int).toNat) []) 0 [.i (if (gi ((gi d 6).rows.getD (0+((gi d 8).int+1).toNat) []) 0).int>(gi ((gi ((gi d 5).rows.getD (0+((gi d 7).int+1).toNat) []) 0).rows.getD (((gi d 8).int).toNat) []) 0).int then (gi ((gi d 6).rows.getD (0+((gi d 8).int+1).toNat) []) 0).int else (gi ((gi ((gi d 5).rows.getD (0+((gi d 7).int+1).toNat) []) 0).rows.getD (((gi d 8).int).toNat) []) 0).int)])),.i (gi d 7).int,.i (gi d 8).int])) fun k g3=>(bif ((((ae (gi g3 5).rows.length (gi g3 5).rows.length)&&true)&&true)&&((ae (gi g3 6).rows.length (gi g3 6).rows.length)&&true)) then some (none,[.l (gi g3 0).rows,.l (gi g3 1).rows,.l (gi g3 2).rows,.l (gi g3 3).rows,.i (gi g3 4).int,.l (gi g3 5).rows,.l (gi g3 6).rows,.i (gi g3 7).int,.i (gi g3 8).int]) else none)))) else none) else none) else none) else none) else none) else none) else none) else none) else none) else (bif ((((ae (gi d 5).rows.length (gi d 5).rows.length)&&true)&&true)&&((ae (gi d 6).rows.length (gi d 6).rows.length)&&true)) then some (some 0,[.l (gi d 0).rows,.l (gi d 1).rows,.l (gi d 2).rows,.l (gi d 3).rows,.i (gi d 4).int,.l (gi d 5).rows,.l (gi d 6).rows,.i (gi d 7).int]) else none))
def Pp:bz:=⟨7,[],⟨118,[(0,.s (.ptr 0 0)),(2,.s (.int .i64)),(3,.s (.vec 2 1)),(4,.s (.int .i64))],[.box [.list ai,.list ai,.list [.int .i64],.list [.int .i64],.int .i64,.vec 1 1],.vec [.list [.int .i64]] 0,.vec [.int .i64] 0]⟩,[.fix 0,.cell 0 5,.slot 3],[⟨.exit 2,⟨118,[(0,.s (.ptr 0 0)),(2,.s (.int .i64)),(3,.s (.vec 2 1))],[.box [.list ai,.list ai,.list [.int .i64],.list [.int .i64],.int .i64,.vec 1 1],.vec [.list [.int .i64]] 0,.vec [.int .i64] 0]⟩,[.fix 0,.cell 0 5,.slot 3]⟩],vO⟩
theorem ac3:cy P t77 FH 1 (cD Tryz.f197 7) Pp:=fun d=>by kernel_rfl
def FI:LT:=FH.add 1 Pp
theorem ac4:aA P 1 FI (aU Tryz.f197):=aA.a hm vM ac2 ac3
def vP(d:List G):Option (Option Nat × List G) :=
 (bif (ba 0 (gi d 6).int) then (bif (au ((((gi d 3).rows.length:Nat):Int)+1)) then (bif ((aB ((((gi d 3).rows.length:Nat):Int)+1))&&((ba ((((gi d 3).rows.length:Nat):Int)+1) ((((gi d 3).rows.length:Nat):Int)+1))&&(ba ((((gi d 3).rows.length:Nat):Int)+1) 1048576))) then (bif (au ((((gi d 3).rows.length:Nat):Int)-1)) then (a8 ((((ae (gi d 5).rows.length (gi d 5).rows.length)&&true)&&true)&&((ae ((((gi d 3).rows.length:Nat):Int)+1).toNat (bO (((((gi d 3).rows.length:Nat):Int)+1).toNat) ([.i 0]:List G)).length)&&true)) (bV vO [.l (gi d 0).rows,.l (gi d 1).rows,.l (gi d 2).rows,.l (gi d 3).rows,.i (gi d 4).int,.l (gi d 5).rows,.l (bO (((((gi d 3).rows.length:Nat):Int)+1).toNat) ([.i 0]:List G)),.i (gi d 6).int,.i ((((gi d 3).rows.length:Nat):Int)-1)]) fun h g4=>(bif ((aB (gi g4 7).int)&&(ao (gi g4 7).int (((gi g4 5).rows.length:Nat):Int))) then (bif ((ae (gi g4 6).rows.length (gi g4 6).rows.length)&&(decide ((0+((gi g4 7).int).toNat)<(gi g4 5).rows.length))) then (bif (au ((gi g4 7).int-1)) then (bif ((((ae (gi g4 5).rows.length ((gi g4 5).rows.set (0+((gi g4 7).int).toNat) (bf [.list [.int .i64]] ((gi g4 5).rows.getD (0+((gi g4 7).int).toNat) []) 0 [.l (gi g4 6).rows])).length)&&true)&&true)&&true) then some (none,[.l (gi g4 0).rows,.l (gi g4 1).rows,.l (gi g4 2).rows,.l (gi g4 3).rows,.i (gi g4 4).int,.l ((gi g4 5).rows.set (0+((gi g4 7).int).toNat) (bf [.list [.int .i64]] ((gi g4 5).rows.getD (0+((gi g4 7).int).toNat) []) 0 [.l (gi g4 6).rows])),.i ((gi g4 7).int-1)]) else none) else none) else none) else none)) else none) else none) else none) else (bif ((((ae (gi d 5).rows.length (gi d 5).rows.length)&&true)&&true)&&true) then some (some 0,[.l (gi d 0).rows,.l (gi d 1).rows,.l (gi d 2).rows,.l (gi d 3).rows,.i (gi d 4).int,.l (gi d 5).rows]) else none))
def Pq:bz:=⟨3,[],⟨118,[(0,.s (.ptr 0 0)),(2,.s (.int .i64))],[.box [.list ai,.list ai,.list [.int .i64],.list [.int .i64],.int .i64,.vec 1 1],.vec [.list [.int .i64]] 0]⟩,[.fix 0,.cell 0 5],[⟨.exit 0,⟨118,[],[.box [.list ai,.list ai,.list [.int .i64],.list [.int .i64],.int .i64,.vec 1 1],.vec [.list [.int .i64]] 0]⟩,[.fix 0,.cell 0 5]⟩],vP⟩
theorem ac5:cy P t77 FI 1 (cD Tryz.f197 3) Pq:=fun d=>by kernel_rfl
def Pr:LT:=FI.add 1 Pq
theorem ac6:aA P 1 Pr (aU Tryz.f197):=aA.a hm vM ac4 ac5
def zQ(d:List G):Option (List G) :=
 (bif (au ((((gi d 2).rows.length:Nat):Int)+1)) then (bif ((aB ((((gi d 2).rows.length:Nat):Int)+1))&&((ba ((((gi d 2).rows.length:Nat):Int)+1) ((((gi d 2).rows.length:Nat):Int)+1))&&(ba ((((gi d 2).rows.length:Nat):Int)+1) 1048576))) then (bif (au ((((gi d 3).rows.length:Nat):Int)+1)) then (bif ((aB ((((gi d 3).rows.length:Nat):Int)+1))&&((ba ((((gi d 3).rows.length:Nat):Int)+1) ((((gi d 3).rows.length:Nat):Int)+1))&&(ba ((((gi d 3).rows.length:Nat):Int)+1) 1048576))) then (bif ((aB (((gi d 2).rows.length:Nat):Int))&&(ao (((gi d 2).rows.length:Nat):Int) ((((((gi d 2).rows.length:Nat):Int)+1).toNat:Nat):Int))) then (bif ((ae ((((gi d 3).rows.length:Nat):Int)+1).toNat (bO (((((gi d 3).rows.length:Nat):Int)+1).toNat) ([.i 0]:List G)).length)&&(decide ((0+(gi d 2).rows.length)<(bO (((((gi d 2).rows.length:Nat):Int)+1).toNat) ([.l []]:List G)).length))) then (bif (au ((((gi d 2).rows.length:Nat):Int)-1)) then (a8 ((((ae ((((gi d 2).rows.length:Nat):Int)+1).toNat ((bO (((((gi d 2).rows.length:Nat):Int)+1).toNat) ([.l []]:List G)).set (0+(gi d 2).rows.length) (bf [.list [.int .i64]] ((bO (((((gi d 2).rows.length:Nat):Int)+1).toNat) ([.l []]:List G)).getD (0+(gi d 2).rows.length) []) 0 [.l (bO (((((gi d 3).rows.length:Nat):Int)+1).toNat) ([.i 0]:List G))])).length)&&true)&&true)&&true) (bV vP [.l (gi d 0).rows,.l (gi d 1).rows,.l (gi d 2).rows,.l (gi d 3).rows,.i (gi d 4).int,.l ((bO (((((gi d 2).rows.length:Nat):Int)+1).toNat) ([.l []]:List G)).set (0+(gi d 2).rows.length) (bf [.list [.int .i64]] ((bO (((((gi d 2).rows.length:Nat):Int)+1).toNat) ([.l []]:List G)).getD (0+(gi d 2).rows.length) []) 0 [.l (bO (((((gi d 3).rows.length:Nat):Int)+1).toNat) ([.i 0]:List G))])),.i ((((gi d 2).rows.length:Nat):Int)-1)]) fun h g5=>(bif ((((ae (gi g5 5).rows.length (gi g5 5).rows.length)&&true)&&true)&&true) then some [.l (gi g5 0).rows,.l (gi g5 1).rows,.l (gi g5 2).rows,.l (gi g5 3).rows,.i (gi g5 4).int,.l (gi g5 5).rows] else none)) else none) else none) else none) else none) else none) else none) else none)
def FJ:aG:=⟨197,[.s (.ptr 0 0)],[.box [.list ai,.list ai,.list [.int .i64],.list [.int .i64],.int .i64,.list [.list [.int .i64]]]],[.slot 0],[],[.box [.list ai,.list ai,.list [.int .i64],.list [.int .i64],.int .i64,.list [.list [.int .i64]]]],[.fix 0],[],zQ⟩
theorem ac7:aX P t77 Pr Tryz.f197 FJ:=fun d=>by kernel_rfl
theorem ac8:aV P FJ:=aT hm vM Tryz.func197 ac6 ac7
def t78:ak:=t77.cT FJ
theorem Ps:aq P t78:=vM.aW ac8

def zR(d:List G):Option (List G) :=
 (bif ((aB (gi d 1).int)&&(ao (gi d 1).int (((gi (gi d 0).row 2).rows.length:Nat):Int))) then (bif ((aB (gi ((gi (gi d 0).row 2).rows.getD (((gi d 1).int).toNat) []) 0).int)&&(ao (gi ((gi (gi d 0).row 2).rows.getD (((gi d 1).int).toNat) []) 0).int (((gi (gi d 0).row 0).rows.length:Nat):Int))) then (bif ((aB (gi d 2).int)&&(ao (gi d 2).int (((gi (gi d 0).row 3).rows.length:Nat):Int))) then (bif ((aB (gi ((gi (gi d 0).row 3).rows.getD (((gi d 2).int).toNat) []) 0).int)&&(ao (gi ((gi (gi d 0).row 3).rows.getD (((gi d 2).int).toNat) []) 0).int (((gi (gi d 0).row 1).rows.length:Nat):Int))) then (ay (sG [.l [(aM ai ((gi (gi d 0).row 0).rows.getD (((gi ((gi (gi d 0).row 2).rows.getD (((gi d 1).int).toNat) []) 0).int).toNat) []))],.l [(aM ai ((gi (gi d 0).row 1).rows.getD (((gi ((gi (gi d 0).row 3).rows.getD (((gi d 2).int).toNat) []) 0).int).toNat) []))]]) fun g1=>(bif (au (10000000000-(gi g1 0).int)) then (ay (sH [.l [(aM ai ((gi (gi d 0).row 0).rows.getD (((gi ((gi (gi d 0).row 2).rows.getD (((gi d 1).int).toNat) []) 0).int).toNat) []))],.l [(aM ai ((gi (gi d 0).row 1).rows.getD (((gi ((gi (gi d 0).row 3).rows.getD (((gi d 2).int).toNat) []) 0).int).toNat) []))],.i (gi (gi d 0).row 4).int]) fun g2=>some [.i (10000000000-(gi g1 0).int),.t (gi g2 0).bool]) else none)) else none) else none) else none) else none)
def FL:aG:=⟨198,[.s (.cptr [.list ai,.list ai,.list [.int .i64],.list [.int .i64],.int .i64,.list [.list [.int .i64]]]),.s (.int .i64),.s (.int .i64)],[],[],[.s (.int .i64),.s (.bool)],[],[],[],zR⟩
theorem ac9:aX P t78 (az.jO [(1,[.hole ai,.hole ai])]) Tryz.f198 FL:=fun d=>by kernel_rfl
theorem ac_:aV P FL:=aT hm Ps Tryz.func198 (pT _) ac9
def t79:ak:=t78.bC FL
theorem vQ:aq P t79:=Ps.aP ac_

def sI(d:List G):Option (Option Nat × List G) :=
 (bif (gi d 12).bool then (bif ((aB (gi d 8).int)&&(ao (gi d 8).int (((gi d 2).rows.length:Nat):Int))) then (bif ((aB (gi d 9).int)&&(ao (gi d 9).int (((gi d 3).rows.length:Nat):Int))) then (bif ((ae (gi d 6).rows.length (gi d 6).rows.length)&&(decide (((gi d 6).rows.length+1)≤1048576))) then (bif (au ((gi d 9).int+1)) then (bif ((ae ((gi d 6).rows++([[.i (gi ((gi d 2).rows.getD (((gi d 8).int).toNat) []) 0).int,.i (gi ((gi d 3).rows.getD (((gi d 9).int).toNat) []) 0).int]]:List (List G))).length ((gi d 6).rows++([[.i (gi ((gi d 2).rows.getD (((gi d 8).int).toNat) []) 0).int,.i (gi ((gi d 3).rows.getD (((gi d 9).int).toNat) []) 0).int]]:List (List G))).length)&&true) then some (some 0,[.l (gi d 0).rows,.l (gi d 1).rows,.l (gi d 2).rows,.l (gi d 3).rows,.i (gi d 4).int,.l (gi d 5).rows,.l ((gi d 6).rows++([[.i (gi ((gi d 2).rows.getD (((gi d 8).int).toNat) []) 0).int,.i (gi ((gi d 3).rows.getD (((gi d 9).int).toNat) []) 0).int]]:List (List G))),.i ((gi d 9).int+1),.i (gi d 10).int,.i (gi d 11).int]) else none) else none) else none) else none) else none) else (bif ((ae (gi d 6).rows.length (gi d 6).rows.length)&&true) then some (some 1,[.l (gi d 0).rows,.l (gi d 1).rows,.l (gi d 2).rows,.l (gi d 3).rows,.i (gi d 4).int,.l (gi d 5).rows,.l (gi d 6).rows,.i (gi d 7).int,.i (gi d 8).int,.i (gi d 9).int,.i (gi d 10).int,.i (gi d 11).int]) else none))
def Pt:bz:=⟨12,[],⟨86,[(0,.s (.ptr 0 0)),(3,.s (.vec 1 2)),(4,.s (.int .i64)),(5,.s (.int .i64)),(6,.s (.int .i64)),(15,.s (.int .i64)),(16,.s (.int .i64)),(63,.s (.bool))],[.box [.list ai,.list ai,.list [.int .i64],.list [.int .i64],.int .i64,.list [.list [.int .i64]]],.vec [.int .i64,.int .i64] 0]⟩,[.fix 0,.slot 3],[⟨.exit 2,⟨86,[(0,.s (.ptr 0 0)),(3,.s (.vec 1 2)),(4,.s (.int .i64)),(15,.s (.int .i64)),(16,.s (.int .i64))],[.box [.list ai,.list ai,.list [.int .i64],.list [.int .i64],.int .i64,.list [.list [.int .i64]]],.vec [.int .i64,.int .i64] 0]⟩,[.fix 0,.slot 3]⟩,⟨.normal,⟨86,[(0,.s (.ptr 0 0)),(3,.s (.vec 1 2)),(4,.s (.int .i64)),(5,.s (.int .i64)),(6,.s (.int .i64)),(15,.s (.int .i64)),(16,.s (.int .i64))],[.box [.list ai,.list ai,.list [.int .i64],.list [.int .i64],.int .i64,.list [.list [.int .i64]]],.vec [.int .i64,.int .i64] 0]⟩,[.fix 0,.slot 3]⟩],sI⟩
theorem ac':gW P (t79.fY [198]) az 1 (cutAt Tryz.f181 12) Pt:=fun d=>by kernel_rfl
def FM:LT:=az.fX 1 Pt
theorem ada:aA P 1 FM (aU Tryz.f181):=aA.fX hm (vQ.fY [198]) (by kernel_rfl) (aL _ _ _) ac'
def qe(d:List G):Option (Option Nat × List G) :=
 (bif (ao (gi d 9).int (((gi d 3).rows.length:Nat):Int)) then (ay (zR [.l [[.l (gi d 0).rows,.l (gi d 1).rows,.l (gi d 2).rows,.l (gi d 3).rows,.i (gi d 4).int,.l (gi d 5).rows]],.i (gi d 8).int,.i (gi d 9).int]) fun g2=>(bif (gi g2 1).bool then (bif (au ((gi d 8).int+1)) then (bif ((aB ((gi d 8).int+1))&&(ao ((gi d 8).int+1) (((gi d 5).rows.length:Nat):Int))) then (bif (au ((gi d 9).int+1)) then (bif ((aB ((gi d 9).int+1))&&(ao ((gi d 9).int+1) (((gi ((gi d 5).rows.getD (((gi d 8).int+1).toNat) []) 0).rows.length:Nat):Int))) then (bif (au ((gi g2 0).int+(gi ((gi ((gi d 5).rows.getD (((gi d 8).int+1).toNat) []) 0).rows.getD (((gi d 9).int+1).toNat) []) 0).int)) then (bif ((aB (gi d 8).int)&&(ao (gi d 8).int (((gi d 5).rows.length:Nat):Int))) then (bif ((aB (gi d 7).int)&&(ao (gi d 7).int (((gi ((gi d 5).rows.getD (((gi d 8).int).toNat) []) 0).rows.length:Nat):Int))) then (a8 ((ae (gi d 6).rows.length (gi d 6).rows.length)&&true) (dn (sI [.l (gi d 0).rows,.l (gi d 1).rows,.l (gi d 2).rows,.l (gi d 3).rows,.i (gi d 4).int,.l (gi d 5).rows,.l (gi d 6).rows,.i (gi d 7).int,.i (gi d 8).int,.i (gi d 9).int,.i (gi d 10).int,.i (gi d 11).int,.t (((gi g2 0).int+(gi ((gi ((gi d 5).rows.getD (((gi d 8).int+1).toNat) []) 0).rows.getD (((gi d 9).int+1).toNat) []) 0).int)==(gi ((gi ((gi d 5).rows.getD (((gi d 8).int).toNat) []) 0).rows.getD (((gi d 7).int).toNat) []) 0).int)])) fun h g3=>(bif ae h 0 then (bif ((ae (gi g3 6).rows.length (gi g3 6).rows.length)&&true) then some (some 0,[.l (gi g3 0).rows,.l (gi g3 1).rows,.l (gi g3 2).rows,.l (gi g3 3).rows,.i (gi g3 4).int,.l (gi g3 5).rows,.l (gi g3 6).rows,.i (gi g3 7).int,.i (gi g3 8).int,.i (gi g3 9).int]) else none) else (bif (au ((gi g3 9).int+1)) then (bif ((ae (gi g3 6).rows.length (gi g3 6).rows.length)&&true) then some (none,[.l (gi g3 0).rows,.l (gi g3 1).rows,.l (gi g3 2).rows,.l (gi g3 3).rows,.i (gi g3 4).int,.l (gi g3 5).rows,.l (gi g3 6).rows,.i (gi g3 7).int,.i (gi g3 8).int,.i ((gi g3 9).int+1),.i (gi g3 10).int,.i (gi g3 11).int]) else none) else none))) else none) else none) else none) else none) else none) else none) else none) else (a8 ((ae (gi d 6).rows.length (gi d 6).rows.length)&&true) (dn (sI [.l (gi d 0).rows,.l (gi d 1).rows,.l (gi d 2).rows,.l (gi d 3).rows,.i (gi d 4).int,.l (gi d 5).rows,.l (gi d 6).rows,.i (gi d 7).int,.i (gi d 8).int,.i (gi d 9).int,.i (gi d 10).int,.i (gi d 11).int,.t false])) fun k g4=>(bif ae k 0 then (bif ((ae (gi g4 6).rows.length (gi g4 6).rows.length)&&true) then some (some 0,[.l (gi g4 0).rows,.l (gi g4 1).rows,.l (gi g4 2).rows,.l (gi g4 3).rows,.i (gi g4 4).int,.l (gi g4 5).rows,.l (gi g4 6).rows,.i (gi g4 7).int,.i (gi g4 8).int,.i (gi g4 9).int]) else none) else (bif (au ((gi g4 9).int+1)) then (bif ((ae (gi g4 6).rows.length (gi g4 6).rows.length)&&true) then some (none,[.l (gi g4 0).rows,.l (gi g4 1).rows,.l (gi g4 2).rows,.l (gi g4 3).rows,.i (gi g4 4).int,.l (gi g4 5).rows,.l (gi g4 6).rows,.i (gi g4 7).int,.i (gi g4 8).int,.i ((gi g4 9).int+1),.i (gi g4 10).int,.i (gi g4 11).int]) else none) else none))))) else (bif ((ae (gi d 6).rows.length (gi d 6).rows.length)&&true) then some (some 0,[.l (gi d 0).rows,.l (gi d 1).rows,.l (gi d 2).rows,.l (gi d 3).rows,.i (gi d 4).int,.l (gi d 5).rows,.l (gi d 6).rows,.i (gi d 7).int,.i (gi d 10).int,.i (gi d 11).int]) else none))
def Pu:bz:=⟨8,[],⟨86,[(0,.s (.ptr 0 0)),(3,.s (.vec 1 2)),(4,.s (.int .i64)),(5,.s (.int .i64)),(6,.s (.int .i64)),(15,.s (.int .i64)),(16,.s (.int .i64))],[.box [.list ai,.list ai,.list [.int .i64],.list [.int .i64],.int .i64,.list [.list [.int .i64]]],.vec [.int .i64,.int .i64] 0]⟩,[.fix 0,.slot 3],[⟨.exit 2,⟨86,[(0,.s (.ptr 0 0)),(3,.s (.vec 1 2)),(4,.s (.int .i64)),(15,.s (.int .i64)),(16,.s (.int .i64))],[.box [.list ai,.list ai,.list [.int .i64],.list [.int .i64],.int .i64,.list [.list [.int .i64]]],.vec [.int .i64,.int .i64] 0]⟩,[.fix 0,.slot 3]⟩],qe⟩
theorem adb:cy P (t79.fY [198]) FM 1 (cD Tryz.f181 8) Pu:=fun d=>by kernel_rfl
def FN:LT:=FM.add 1 Pu
theorem ade:aA P 1 FN (aU Tryz.f181):=aA.add hm (vQ.fY [198]) (by kernel_rfl) ada adb
def sJ(d:List G):Option (Option Nat × List G) :=
 (bif (ao (gi d 9).int (gi d 8).int) then (a8 ((ae (gi d 6).rows.length (gi d 6).rows.length)&&true) (bV qe [.l (gi d 0).rows,.l (gi d 1).rows,.l (gi d 2).rows,.l (gi d 3).rows,.i (gi d 4).int,.l (gi d 5).rows,.l (gi d 6).rows,.i (gi d 7).int,.i (gi d 9).int,.i (gi d 7).int,.i (gi d 8).int,.i (gi d 9).int]) fun h g5=>(bif (au ((gi g5 9).int+1)) then (bif ((ae (gi g5 6).rows.length (gi g5 6).rows.length)&&true) then some (none,[.l (gi g5 0).rows,.l (gi g5 1).rows,.l (gi g5 2).rows,.l (gi g5 3).rows,.i (gi g5 4).int,.l (gi g5 5).rows,.l (gi g5 6).rows,.i (gi g5 7).int,.i (gi g5 8).int,.i ((gi g5 9).int+1)]) else none) else none)) else (bif ((ae (gi d 6).rows.length (gi d 6).rows.length)&&true) then some (some 0,[.l (gi d 0).rows,.l (gi d 1).rows,.l (gi d 2).rows,.l (gi d 3).rows,.i (gi d 4).int,.l (gi d 5).rows,.l (gi d 6).rows]) else none))
def Pv:bz:=⟨5,[(3,[.int .i64,.int .i64])],⟨86,[(0,.s (.ptr 0 0)),(3,.s (.vec 1 2)),(4,.s (.int .i64)),(15,.s (.int .i64)),(16,.s (.int .i64))],[.box [.list ai,.list ai,.list [.int .i64],.list [.int .i64],.int .i64,.list [.list [.int .i64]]],.vec [.int .i64,.int .i64] 0]⟩,[.fix 0,.slot 3],[⟨.exit 0,⟨86,[(3,.s (.vec 1 2))],[.box [.list ai,.list ai,.list [.int .i64],.list [.int .i64],.int .i64,.list [.list [.int .i64]]],.vec [.int .i64,.int .i64] 0]⟩,[.fix 0,.slot 3]⟩],sJ⟩
theorem adf:cy P (t79.fY [198]) FN 1 (cD Tryz.f181 5) Pv:=fun d=>by kernel_rfl
def Pw:LT:=FN.add 1 Pv
theorem adg:aA P 1 Pw (aU Tryz.f181):=aA.add hm (vQ.fY [198]) (by kernel_rfl) ade adf
def zS(d:List G):Option (List G) :=
 (ay (zQ [.l (gi d 0).rows,.l (gi d 1).rows,.l (gi d 2).rows,.l (gi d 3).rows,.i (gi d 4).int,.l (gi d 5).rows]) fun g1=>(a8 true (bV sJ [.l (gi g1 0).rows,.l (gi g1 1).rows,.l (gi g1 2).rows,.l (gi g1 3).rows,.i (gi g1 4).int,.l (gi g1 5).rows,.l [],.i 0,.i (((gi g1 2).rows.length:Nat):Int),.i 0]) fun h g6=>(bif ((ae (gi g6 6).rows.length (gi g6 6).rows.length)&&true) then some [.l (gi g6 0).rows,.l (gi g6 1).rows,.l (gi g6 2).rows,.l (gi g6 3).rows,.i (gi g6 4).int,.l (gi g6 5).rows,.l (gi g6 6).rows] else none)))
def FO:aG:=⟨181,[.s (.ptr 0 0)],[.box [.list ai,.list ai,.list [.int .i64],.list [.int .i64],.int .i64,.list [.list [.int .i64]]]],[.slot 0],[.s (.list [.int .i64,.int .i64])],[.box [.list ai,.list ai,.list [.int .i64],.list [.int .i64],.int .i64,.list [.list [.int .i64]]]],[.fix 0],[],zS⟩
theorem adh:aX P (t79.fY [198]) Pw Tryz.f181 FO:=fun d=>by kernel_rfl
theorem adi:aV P FO:=rX hm (vQ.fY [198]) Tryz.func181 (by kernel_rfl) adg adh (by kernel_rfl)
def t80:ak:=t79.cT FO
theorem Px:aq P t80:=vQ.aW adi

def sK(d:List G):Option (List G) :=
 (bif (au ((gi (gi d 0).row 0).int-(gi (gi d 1).row 0).int)) then some [.i ((gi (gi d 0).row 0).int-(gi (gi d 1).row 0).int)] else none)
def FP:aG:=⟨183,[.s (.row [.int .i64,.int .i64]),.s (.row [.int .i64,.int .i64])],[],[],[.s (.int .i64)],[],[],[],sK⟩
theorem adj:aX P t80 az Tryz.f183 FP:=fun d=>by kernel_rfl
theorem Py:aV P FP:=aT hm Px Tryz.func183 (aL _ _ _) adj
def t81:ak:=t80.bC FP
theorem adk:aq P t81:=Px.aP Py

def sL(d:List G):Option (List G) :=
 sc sK d
def vR:aG:=⟨182,[.s (.vec 0 2),.s (.fn 183)],[.vec [.int .i64,.int .i64] 0],[.slot 0],[],[.vec [.int .i64,.int .i64] 0],[.fix 0],[],sL⟩
theorem adl:∀ d r,sL d=some r→dB P 182 (vR.args0 d) (aj (vR.H0 d)) (vR.out r) (aj (vR.H1 r)):=fun d r h=>W_ Tryz.XG [.int .i64,.int .i64] (by kernel_rfl) Tryz.isAgg198 Tryz.sizeOf198 183 (by kernel_rfl) sK (fun d r h=>Py d r h) d r h
def t82:ak:=t81.cT vR
theorem FQ:aq P t82:=adk.aW adl

def zT(r d:List G):Option (List G) :=
 (ay (zS [.l (gi d 1).rows,.l (gi d 3).rows,.l (gi (gi r 1).row 0).rows,.l (gi (cC [.str,.int .i64] (gi d 4).rows (aM [.str,.int .i64] (gi r 0).row) [.l []]) 0).rows,.i (gi d 7).int,.l []]) fun g3=>(bif ((ae (gi d 6).rows.length (gi d 6).rows.length)&&(decide (((gi d 6).rows.length+(gi g3 6).rows.length)≤1048576))) then (bif ((ae ((gi d 6).rows++(gi g3 6).rows).length ((gi d 6).rows++(gi g3 6).rows).length)&&true) then some [.s (gi d 0).str,.l (gi d 1).rows,.s (gi d 2).str,.l (gi d 3).rows,.l (gi d 4).rows,.i (((gi d 5).int.toNat:Nat):Int),.l ((gi d 6).rows++(gi g3 6).rows),.i (gi d 7).int,.i (((gi d 8).int.toNat:Nat):Int)] else none) else none))
def adm(d:List G)(b:Nat):List G:=[.s (gi d 0).str,.l (gi d 1).rows,.s (gi d 2).str,.l (gi d 3).rows,.l (gi d 6).rows,.i (((gi d 7).int.toNat:Nat):Int),.l (gi d 8).rows,.i (gi d 9).int,.i (b:Int)]
def adn(d:List G)(b:Nat):Bool:=((ae (gi d 8).rows.length (gi d 8).rows.length)&&true)
def zU:fh:=⟨⟨48,[(2,.s (.int .i64)),(3,.s (.ptr 0 0)),(4,.s (.ptr 1 0)),(8,.s (.map 2)),(9,.s (.vec 3 2)),(24,.s (.addr))],[.box [.str,.list ai],.box [.str,.list ai],.map (.agg [.str,.int .i64]) (.one (.list [.int .i64])),.vec [.int .i64,.int .i64] 0]⟩,[.slot 3,.slot 4,.slot 8,.slot 9],[],(.agg [.str,.int .i64]),(.one (.list [.int .i64])),2,0,23,24,25,26,27,fun d=>(gi d 8).int.toNat,adm,adn,zT⟩
theorem ado:jP P t82 az 0 zU (mR (cutAt Tryz.f154 3)) (pX (cutAt Tryz.f154 3)):=fun r d=>by kernel_rfl
def zV(d:List G):Option (Option Nat × List G) :=
 (iE (((ae (gi d 6).rows.length (gi d 6).rows.length)&&true)&&(sL [.l (gi d 6).rows]).isSome) (sL [.l (gi d 6).rows]) fun g4=>(bif ((ae (gi d 6).rows.length (gi g4 0).rows.length)&&true) then some (some 0,[.l (gi g4 0).rows]) else none))
def Pz:bz:=⟨8,[],⟨48,[(2,.s (.int .i64)),(3,.s (.ptr 0 0)),(4,.s (.ptr 1 0)),(8,.s (.map 2)),(9,.s (.vec 3 2)),(24,.s (.addr))],[.box [.str,.list ai],.box [.str,.list ai],.map (.agg [.str,.int .i64]) (.one (.list [.int .i64])),.vec [.int .i64,.int .i64] 0]⟩,[],[⟨.ret,⟨48,[(6,.s (.vec 0 2))],[.vec [.int .i64,.int .i64] 0]⟩,[.slot 6]⟩],zV⟩
theorem adp:gW P t82 az 0 (pW (cutAt Tryz.f154 3)) Pz:=fun d=>by kernel_rfl
def FR(d:List G):Option (Option Nat × List G) :=
 iU zU zV (gi d 4).rows ((gi d 5).int.toNat) d
def FT:bz:=⟨3,[(9,[.int .i64,.int .i64])],⟨48,[(2,.s (.int .i64)),(3,.s (.ptr 0 0)),(4,.s (.ptr 1 0)),(7,.s (.map 2)),(8,.s (.map 3)),(9,.s (.vec 4 2))],[.box [.str,.list ai],.box [.str,.list ai],.map (.agg [.str,.int .i64]) (.one (.list [.int .i64])),.map (.agg [.str,.int .i64]) (.one (.list [.int .i64])),.vec [.int .i64,.int .i64] 0]⟩,[.slot 3,.slot 4,.slot 7,.slot 8,.slot 9],[⟨.ret,⟨48,[(6,.s (.vec 0 2))],[.vec [.int .i64,.int .i64] 0]⟩,[.slot 6]⟩],FR⟩
def PA:LT:=az.fX 0 FT
theorem adq:aA P 0 PA (aU Tryz.f154):=aA.WD (q:=FT) (qr:=Pz) (sp:=zU) (r0:=3) (b0:=0) (r1:=4) (b1:=1) (r2:=5) (rows:=fun d=>(gi d 4).rows) (clock:=fun d=>(gi d 5).int.toNat) (pre:=fun d=>Dk P t82 (lb (cutAt Tryz.f154 3)) (aN FT.inv d)) hm FQ (by kernel_rfl) (aL _ _ _) (by kernel_rfl) (by kernel_rfl) ado (fun d=>by kernel_rfl) (fun d=>by kernel_rfl) (fun d=>by kernel_rfl) (fun d=>by kernel_rfl) (fun d=>by kernel_rfl) (fun d=>by kernel_rfl) (fun d b=>by kernel_rfl) (fun d b=>rfl) rfl rfl adp (fun d=>rfl)
def zW(d:List G):Option (List G) :=
 (ay (vK [.l (gi (gi d 0).row 1).rows,.s (gi (gi d 1).row 0).str]) fun g1=>(ay (vK [.l (gi (gi d 1).row 1).rows,.s (gi (gi d 0).row 0).str]) fun g2=>(a8 true (dn (FR [.s (gi (gi d 0).row 0).str,.l (gi (gi d 0).row 1).rows,.s (gi (gi d 1).row 0).str,.l (gi (gi d 1).row 1).rows,.l (gi g1 0).rows,.i (((gi g1 1).int.toNat:Nat):Int),.l (gi g2 0).rows,.i (((gi g2 1).int.toNat:Nat):Int),.l [],.i (gi d 2).int])) fun h g5=>(bif ((ae (gi g5 0).rows.length (gi g5 0).rows.length)&&true) then some [.l (gi g5 0).rows] else none))))
def FU:aG:=⟨154,[.s (.row [.str,.list ai]),.s (.row [.str,.list ai]),.s (.int .i64)],[],[],[.s (.list [.int .i64,.int .i64])],[],[],[],zW⟩
theorem ads:aX P t82 PA Tryz.f154 FU:=fun d=>by kernel_rfl
theorem adt:aV P FU:=aT hm FQ Tryz.func154 adq ads
def t83:ak:=t82.bC FU
theorem FV:aq P t83:=FQ.aP adt

def vS(d:List G):Option (Option Nat × List G) :=
 (bif (ao (gi d 12).int (gi d 11).int) then (bif ((aB (gi d 12).int)&&(ao (gi d 12).int (((gi d 10).rows.length:Nat):Int))) then (bif true then (bif (kZ (gi d 4).rows (fJ [.int .i64] (gi d 3).rows [.i (gi d 9).int])) then (bif true then (bif (kZ (gi d 7).rows (fJ [.int .i64] (gi d 6).rows [.i (gi d 9).int])) then (bif (au ((gi d 12).int+1)) then some (none,[.l (gi d 0).rows,.i (gi d 1).int,.i (gi d 2).int,.l (gi d 3).rows,.l (rH (gi d 4).rows (fJ [.int .i64] (gi d 3).rows [.i (gi d 9).int]) [.int .i64] [.i (gi ((gi d 10).rows.getD (((gi d 12).int).toNat) []) 0).int] [.i (gi ((gi d 10).rows.getD (((gi d 12).int).toNat) []) 1).int]),.i (((gi d 5).int.toNat:Nat):Int),.l (gi d 6).rows,.l (rH (gi d 7).rows (fJ [.int .i64] (gi d 6).rows [.i (gi d 9).int]) [.int .i64] [.i (gi ((gi d 10).rows.getD (((gi d 12).int).toNat) []) 1).int] [.t true]),.i (((gi d 8).int.toNat:Nat):Int),.i (gi d 9).int,.l (gi d 10).rows,.i (gi d 11).int,.i ((gi d 12).int+1)]) else none) else none) else none) else none) else none) else none) else some (some 0,[.l (gi d 0).rows,.i (gi d 1).int,.i (gi d 2).int,.l (gi d 3).rows,.l (gi d 4).rows,.i (((gi d 5).int.toNat:Nat):Int),.l (gi d 6).rows,.l (gi d 7).rows,.i (((gi d 8).int.toNat:Nat):Int)]))
def PB:bz:=⟨3,[],⟨75,[(0,.s (.ptr 0 0)),(1,.s (.int .i64)),(50,.s (.list [.int .i64,.int .i64])),(51,.s (.int .i64)),(52,.s (.int .i64))],[.box [.list [.str,.list ai],.int .i64,.int .i64,.map 1,.map 2],.mm 11 (.one (.int .i64)) (.one (.int .i64)) (.one (.int .i64)),.mm 12 (.one (.int .i64)) (.one (.int .i64)) (.one (.bool))]⟩,[.fix 0,.cell 0 3,.cell 0 4],[⟨.exit 0,⟨75,[],[.box [.list [.str,.list ai],.int .i64,.int .i64,.map 1,.map 2],.mm 11 (.one (.int .i64)) (.one (.int .i64)) (.one (.int .i64)),.mm 12 (.one (.int .i64)) (.one (.int .i64)) (.one (.bool))]⟩,[.fix 0,.cell 0 3,.cell 0 4]⟩],vS⟩
theorem adu:cy P t83 (az.jO [(1,[.r7,.r7])]) 3 (cD Tryz.f122 3) PB:=fun d=>by kernel_rfl
def PC:LT:=(az.jO [(1,[.r7,.r7])]).add 3 PB
theorem adv:aA P 3 PC (aU Tryz.f122):=aA.a hm FV (pT _) adu
def vT(d:List G):Option (List G) :=
 (bif true then (bif (!(Option.isNone (fJ [.int .i64] (gi d 3).rows [.i (gi d 9).int]))) then some [.l (gi d 0).rows,.i (gi d 1).int,.i (gi d 2).int,.l (gi d 3).rows,.l (gi d 4).rows,.i (((gi d 5).int.toNat:Nat):Int),.l (gi d 6).rows,.l (gi d 7).rows,.i (((gi d 8).int.toNat:Nat):Int)] else (bif (!dC [.int .i64] (gi d 3).rows [.i (gi d 9).int]) then (bif (rI ((gi d 3).rows++[[.l [[.i (gi d 9).int]],.i (-1),.i (((gi d 5).int.toNat:Nat):Int)]]) (((gi d 5).int.toNat:Nat):Int)) then (bif (!dC [.int .i64] (gi d 6).rows [.i (gi d 9).int]) then (bif (rI ((gi d 6).rows++[[.l [[.i (gi d 9).int]],.i (-1),.i (((gi d 8).int.toNat:Nat):Int)]]) (((gi d 8).int.toNat:Nat):Int)) then (bif ((aB (gi d 1).int)&&(ao (gi d 1).int (((gi d 0).rows.length:Nat):Int))) then (bif ((aB (gi d 9).int)&&(ao (gi d 9).int (((gi d 0).rows.length:Nat):Int))) then (ay (zW [.l [(aM [.str,.list ai] ((gi d 0).rows.getD (((gi d 1).int).toNat) []))],.l [(aM [.str,.list ai] ((gi d 0).rows.getD (((gi d 9).int).toNat) []))],.i (gi d 2).int]) fun g1=>(a8 true (bV vS [.l (gi d 0).rows,.i (gi d 1).int,.i (gi d 2).int,.l (rJ ((gi d 3).rows++[[.l [[.i (gi d 9).int]],.i (-1),.i (((gi d 5).int.toNat:Nat):Int)]]) (((gi d 5).int.toNat:Nat):Int) ((gi d 4).rows.length)),.l ((gi d 4).rows++[[.l [],.i 0]]),.i ((((gi d 5).int.toNat+1):Nat):Int),.l (rJ ((gi d 6).rows++[[.l [[.i (gi d 9).int]],.i (-1),.i (((gi d 8).int.toNat:Nat):Int)]]) (((gi d 8).int.toNat:Nat):Int) ((gi d 7).rows.length)),.l ((gi d 7).rows++[[.l [],.i 0]]),.i ((((gi d 8).int.toNat+1):Nat):Int),.i (gi d 9).int,.l (gi g1 0).rows,.i (((gi g1 0).rows.length:Nat):Int),.i 0]) fun h g2=>some [.l (gi g2 0).rows,.i (gi g2 1).int,.i (gi g2 2).int,.l (gi g2 3).rows,.l (gi g2 4).rows,.i (((gi g2 5).int.toNat:Nat):Int),.l (gi g2 6).rows,.l (gi g2 7).rows,.i (((gi g2 8).int.toNat:Nat):Int)])) else none) else none) else none) else none) else none) else none)) else none)
def FW:aG:=⟨122,[.s (.ptr 0 0),.s (.int .i64)],[.box [.list [.str,.list ai],.int .i64,.int .i64,.map 1,.map 2],.mm 11 (.one (.int .i64)) (.one (.int .i64)) (.one (.int .i64)),.mm 12 (.one (.int .i64)) (.one (.int .i64)) (.one (.bool))],[.slot 0,.cell 0 3,.cell 0 4],[],[.box [.list [.str,.list ai],.int .i64,.int .i64,.map 1,.map 2],.mm 11 (.one (.int .i64)) (.one (.int .i64)) (.one (.int .i64)),.mm 12 (.one (.int .i64)) (.one (.int .i64)) (.one (.bool))],[.fix 0,.fix 1,.fix 2],[],vT⟩
theorem adw:aX P t83 PC Tryz.f122 FW:=fun d=>by kernel_rfl
theorem adx:aV P FW:=aT hm FV Tryz.func122 adv adw
def t84:ak:=t83.cT FW
theorem PD:aq P t84:=FV.aW adx

def vU(d:List G):Option (List G) :=
 (bif ((gi (gi d 0).row 4).int==(gi (gi d 1).row 5).int) then some [.t ((gi (gi d 0).row 6).str.toList==(gi (gi d 1).row 7).str.toList)] else some [.t false])
def FX:aG:=⟨123,[.s (.row ai),.s (.row ai)],[],[],[.s (.bool)],[],[],[],vU⟩
theorem ady:aX P t84 az Tryz.f123 FX:=fun d=>by kernel_rfl
theorem adz:aV P FX:=aT hm PD Tryz.func123 (aL _ _ _) ady
def t85:ak:=t84.bC FX
theorem qf:aq P t85:=PD.aP adz

end
end Go.Proofs.gY
