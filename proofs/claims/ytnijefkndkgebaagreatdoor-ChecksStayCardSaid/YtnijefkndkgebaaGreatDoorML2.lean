/-
 What is proved here: functions of the program as functions on data. No condition.
-/
import Derived.Test.YtnijefkndkgebaaGreatDoorML1
set_option linter.all false
open Int renaming tdiv→mQ,tmod→ji
open Nat renaming beq→ad
namespace Go.Proofs.iE
open Go Go.AL Go.Proofs
noncomputable section
def mv(d:List G):Option (List G) :=
 (bif (aj (gi d 0).int (gi d 1).int) then some [.t true] else some [.t (aj (gi d 2).int (gi d 0).int)])
def Dp:aH:=⟨52,[.s (.int .i64),.s (.int .i64),.s (.int .i64)],[],[],[.s (.bool)],[],[],[],mv⟩
theorem ZC:aZ P t7 ay Tryz.f52 Dp:=fun d=>by kernel_rfl
theorem ZD:aX P Dp:=a7 hm MX Tryz.func52 (aN _ _ _) ZC
def t8:ak:=t7.bJ Dp
theorem MY:al P t8:=MX.aP ZD

def Dq(d:List G):Option (List G) :=
 (aB (mv [.i (gi d 0).int,.i 0,.i 345686399999]) fun g1=>some [.t (!(gi g1 0).bool)])
def Ds:aH:=⟨65,[.s (.int .i64)],[],[],[.s (.bool)],[],[],[],Dq⟩
theorem ZE:aZ P t8 ay Tryz.f65 Ds:=fun d=>by kernel_rfl
theorem ZF:aX P Ds:=a7 hm MY Tryz.func65 (aN _ _ _) ZE
def t9:ak:=t8.bJ Ds
theorem MZ:al P t9:=MY.aP ZF

def Dt(d:List G):Option (List G) :=
 (aB (mv [.i (gi d 0).int,.i 1,.i 3]) fun g1=>some [.t (!(gi g1 0).bool)])
def Du:aH:=⟨64,[.s (.int .i64)],[],[],[.s (.bool)],[],[],[],Dt⟩
theorem ZG:aZ P t9 ay Tryz.f64 Du:=fun d=>by kernel_rfl
theorem ZH:aX P Du:=a7 hm MZ Tryz.func64 (aN _ _ _) ZG
def t10:ak:=t9.bJ Du
theorem M0:al P t10:=MZ.aP ZH

def rK(d:List G):Option (List G) :=
 (bif (!((gi d 0).str.toList==(⟨#[]⟩:ByteArray).toList)) then (bif (bl (((gi d 0).str.size:Nat):Int) 40) then (bif (aj 0 (((gi d 0).str.size:Nat):Int)) then (aB (Dm [.s (⟨#[97,98,99,100,101,102,103,104,105,106,107,108,109,110,111,112,113,114,115,116,117,118,119,120,121,122]⟩:ByteArray),.i (((gi d 0).str.data.toList.getD 0 0).toNat:Int)]) fun g1=>(bif (bl 0 (gi g1 0).int) then (aB (zb [.s (gi d 0).str,.s (⟨#[97,98,99,100,101,102,103,104,105,106,107,108,109,110,111,112,113,114,115,116,117,118,119,120,121,122,48,49,50,51,52,53,54,55,56,57,45,95]⟩:ByteArray)]) fun g2=>some [.t ((gi g2 0).str.toList==(⟨#[]⟩:ByteArray).toList)]) else some [.t false])) else none) else some [.t false]) else some [.t false])
def Dv:aH:=⟨63,[.s (.str)],[],[],[.s (.bool)],[],[],[],rK⟩
theorem ZI:aZ P t10 ay Tryz.f63 Dv:=fun d=>by kernel_rfl
theorem ZJ:aX P Dv:=a7 hm M0 Tryz.func63 (aN _ _ _) ZI
def t11:ak:=t10.bJ Dv
theorem M1:al P t11:=M0.aP ZJ

def pM(d:List G):Option (List G) :=
 (aB (zd [.s (gi d 0).str]) fun g1=>some [.t (gi g1 1).bool])
def Dw:aH:=⟨115,[.s (.str)],[],[],[.s (.bool)],[],[],[],pM⟩
theorem ZK:aZ P t11 ay Tryz.f115 Dw:=fun d=>by kernel_rfl
theorem ZL:aX P Dw:=a7 hm M1 Tryz.func115 (aN _ _ _) ZK
def t12:ak:=t11.bJ Dw
theorem M2:al P t12:=M1.aP ZL

def ze(d:List G):Option (List G) :=
 (bif ((gi d 0).str.toList==(⟨#[]⟩:ByteArray).toList) then some [.t true] else (aB (rK [.s (gi d 0).str]) fun g1=>some [.t (gi g1 0).bool]))
def Dx:aH:=⟨142,[.s (.str)],[],[],[.s (.bool)],[],[],[],ze⟩
theorem ZM:aZ P t12 ay Tryz.f142 Dx:=fun d=>by kernel_rfl
theorem ZN:aX P Dx:=a7 hm M2 Tryz.func142 (aN _ _ _) ZM
def t13:ak:=t12.bJ Dx
theorem M3:al P t13:=M2.aP ZN

def zf(d:List G):Option (List G) :=
 (aB (Dq [.i (gi (gi d 0).row 0).int]) fun g1=>(bif (!(gi g1 0).bool) then some [.i 1] else (aB (Dt [.i (gi (gi d 0).row 1).int]) fun g2=>(bif (!(gi g2 0).bool) then some [.i 4] else (aB (rK [.s (gi (gi d 0).row 2).str]) fun g3=>(bif (!(gi g3 0).bool) then some [.i 5] else (aB (pM [.s (gi (gi d 0).row 3).str]) fun g4=>(bif (!(gi g4 0).bool) then some [.i 3] else (aB (mv [.i (gi (gi d 0).row 4).int,.i 0,.i 99999]) fun g5=>(bif (gi g5 0).bool then some [.i 1] else (aB (mv [.i (gi (gi d 0).row 5).int,.i 0,.i 99999]) fun g6=>(bif (gi g6 0).bool then some [.i 1] else (aB (ze [.s (gi (gi d 0).row 6).str]) fun g7=>(bif (!(gi g7 0).bool) then some [.i 5] else (aB (ze [.s (gi (gi d 0).row 7).str]) fun g8=>(bif (!(gi g8 0).bool) then some [.i 5] else some [.i 0]))))))))))))))))
def Dy:aH:=⟨104,[.s (.row ae)],[],[],[.s (.int .i64)],[],[],[],zf⟩
theorem ZO:aZ P t13 ay Tryz.f104 Dy:=fun d=>by kernel_rfl
theorem ZP:aX P Dy:=a7 hm M3 Tryz.func104 (aN _ _ _) ZO
def t14:ak:=t13.bJ Dy
theorem M4:al P t14:=M3.aP ZP

def zg(d:List G):Option (List G) :=
 some [.t ((gi d 0).int != (gi d 0).int)]
def Dz:aH:=⟨125,[.s (.int .i64)],[],[],[.s (.bool)],[],[],[],zg⟩
theorem ZQ:aZ P t14 ay Tryz.f125 Dz:=fun d=>by kernel_rfl
theorem ZR:aX P Dz:=a7 hm M4 Tryz.func125 (aN _ _ _) ZQ
def t15:ak:=t14.bJ Dz
theorem M5:al P t15:=M4.aP ZR

def rL(d:List G):Option (List G) :=
 (aB (zg [.i (gi d 0).int]) fun g1=>(aB (zg [.i (gi d 1).int]) fun g2=>(bif (gi g1 0).bool then (bif (gi g2 0).bool then some [.i 0] else some [.i (-1)]) else (bif (gi g2 0).bool then some [.i 1] else (bif (aj (gi d 0).int (gi d 1).int) then some [.i (-1)] else (bif (aj (gi d 1).int (gi d 0).int) then some [.i 1] else some [.i 0]))))))
def DA:aH:=⟨81,[.s (.int .i64),.s (.int .i64)],[],[],[.s (.int .i64)],[],[],[],rL⟩
theorem ZS:aZ P t15 ay Tryz.f81 DA:=fun d=>by kernel_rfl
theorem ZT:aX P DA:=a7 hm M5 Tryz.func81 (aN _ _ _) ZS
def t16:ak:=t15.bJ DA
theorem DB:al P t16:=M5.aP ZT

def rM(d:List G):Option (Option Nat × List G) :=
 (bif (aj (gi d 3).int (gi d 2).int) then (bif ((aw (gi d 3).int)&&(aj (gi d 3).int (((gi d 1).rows.length:Nat):Int))) then (bif ((gi ((gi d 1).rows.getD (((gi d 3).int).toNat) []) 0).int != (gi d 0).int) then some (some 0,[.i (gi ((gi d 1).rows.getD (((gi d 3).int).toNat) []) 0).int]) else (bif (aq ((gi d 3).int+1)) then some (none,[.i (gi d 0).int,.l (gi d 1).rows,.i (gi d 2).int,.i ((gi d 3).int+1)]) else none)) else none) else some (some 1,[.i (gi d 0).int]))
def M6:be:=⟨3,[],⟨18,[(3,.s (.int .i64)),(6,.s (.list [.int .i64])),(7,.s (.int .i64)),(8,.s (.int .i64))],[]⟩,[],[⟨.ret,⟨18,[(2,.s (.int .i64))],[]⟩,[]⟩,⟨.exit 0,⟨18,[(3,.s (.int .i64))],[]⟩,[]⟩],rM⟩
theorem ZU:bY P t16 ay 0 (b_ Tryz.f80 3) M6:=fun d=>by kernel_rfl
def M7:LT:=ay.add 0 M6
theorem ZV:ax P 0 M7 (aQ Tryz.f80):=ax.a hm DB (aN _ _ _) ZU
def pN(d:List G):Option (List G) :=
 (aM true (bD rM [.i 0,.l (gi d 0).rows,.i (((gi d 0).rows.length:Nat):Int),.i 0]) fun g g1=>(bif ad g 0 then some [.i (gi g1 0).int] else some [.i (gi g1 0).int]))
def DC:aH:=⟨80,[.s (.list [.int .i64])],[],[],[.s (.int .i64)],[],[],[],pN⟩
theorem ZW:aZ P t16 M7 Tryz.f80 DC:=fun d=>by kernel_rfl
theorem ZX:aX P DC:=a7 hm DB Tryz.func80 ZV ZW
def t17:ak:=t16.bJ DC
theorem M8:al P t17:=DB.aP ZX

def pO(d:List G):Option (List G) :=
 (aB (rL [.i (gi (gi d 0).row 0).int,.i (gi (gi d 1).row 0).int]) fun g1=>(aB (ic [.s (gi (gi d 0).row 3).str,.s (gi (gi d 1).row 3).str]) fun g2=>(aB (ic [.s (gi (gi d 0).row 2).str,.s (gi (gi d 1).row 2).str]) fun g3=>(aB (rL [.i (gi (gi d 0).row 1).int,.i (gi (gi d 1).row 1).int]) fun g4=>(aB (pN [.l [[.i (gi g1 0).int],[.i (gi g2 0).int],[.i (gi g3 0).int],[.i (gi g4 0).int]]]) fun g5=>some [.i (gi g5 0).int])))))
def DD:aH:=⟨43,[.s (.row ae),.s (.row ae)],[],[],[.s (.int .i64)],[],[],[],pO⟩
theorem ZY:aZ P t17 ay Tryz.f43 DD:=fun d=>by kernel_rfl
theorem ZZ:aX P DD:=a7 hm M8 Tryz.func43 (aN _ _ _) ZY
def t18:ak:=t17.bJ DD
theorem DE:al P t18:=M8.aP ZZ

def M9(d:List G):Option (Option Nat × List G) :=
 (bif (aj (gi d 3).int (gi d 2).int) then (bif ((aw (gi d 3).int)&&(aj (gi d 3).int (((gi d 1).rows.length:Nat):Int))) then (aB (zf [.l [(aD ae ((gi d 1).rows.getD (((gi d 3).int).toNat) []))]]) fun g1=>(bif ((gi g1 0).int != 0) then some (some 0,[.i (gi g1 0).int]) else (bif (aj 0 (gi d 3).int) then (bif (aq ((gi d 3).int-1)) then (bif ((aw ((gi d 3).int-1))&&(aj ((gi d 3).int-1) (((gi d 0).rows.length:Nat):Int))) then (aB (pO [.l [(aD ae ((gi d 0).rows.getD (((gi d 3).int-1).toNat) []))],.l [(aD ae ((gi d 1).rows.getD (((gi d 3).int).toNat) []))]]) fun g2=>(bif (bl 0 (gi g2 0).int) then some (some 0,[.i 7]) else (bif (aq ((gi d 3).int+1)) then some (none,[.l (gi d 0).rows,.l (gi d 1).rows,.i (gi d 2).int,.i ((gi d 3).int+1)]) else none))) else none) else none) else (bif (aq ((gi d 3).int+1)) then some (none,[.l (gi d 0).rows,.l (gi d 1).rows,.i (gi d 2).int,.i ((gi d 3).int+1)]) else none)))) else none) else some (some 1,[]))
def M_:be:=⟨4,[],⟨34,[(0,.s (.list ae)),(9,.s (.list ae)),(10,.s (.int .i64)),(11,.s (.int .i64))],[]⟩,[],[⟨.ret,⟨34,[(2,.s (.int .i64))],[]⟩,[]⟩,⟨.exit 0,⟨34,[],[]⟩,[]⟩],M9⟩
theorem Z0:bY P t18 ay 0 (b_ Tryz.f60 4) M_:=fun d=>by kernel_rfl
def Na:LT:=ay.add 0 M_
theorem Z1:ax P 0 Na (aQ Tryz.f60):=ax.a hm DE (aN _ _ _) Z0
def vk(d:List G):Option (List G) :=
 (bif (aj 2000 (((gi d 0).rows.length:Nat):Int)) then some [.i 2] else (aM true (bD M9 [.l (gi d 0).rows,.l (gi d 0).rows,.i (((gi d 0).rows.length:Nat):Int),.i 0]) fun g g3=>(bif ad g 0 then some [.i (gi g3 0).int] else some [.i 0])))
def DF:aH:=⟨60,[.s (.list ae)],[],[],[.s (.int .i64)],[],[],[],vk⟩
theorem Z2:aZ P t18 Na Tryz.f60 DF:=fun d=>by kernel_rfl
theorem Z3:aX P DF:=a7 hm DE Tryz.func60 Z1 Z2
def t19:ak:=t18.bJ DF
theorem Nb:al P t19:=DE.aP Z3

def Nc(d:List G):Option (List G) :=
 (aB (zd [.s (gi d 0).str]) fun g1=>some [.s (gi (gi g1 0).row 0).str])
def DG:aH:=⟨105,[.s (.str)],[],[],[.s (.str)],[],[],[],Nc⟩
theorem Z4:aZ P t19 ay Tryz.f105 DG:=fun d=>by kernel_rfl
theorem Z5:aX P DG:=a7 hm Nb Tryz.func105 (aN _ _ _) Z4
def t20:ak:=t19.bJ DG
theorem DH:al P t20:=Nb.aP Z5

def Nd(d:List G):Option (Option Nat × List G) :=
 (bif (aj (gi d 5).int (gi d 4).int) then (bif ((aw (gi d 5).int)&&(aj (gi d 5).int (((gi d 3).rows.length:Nat):Int))) then (aB (Nc [.s (gi ((gi d 3).rows.getD (((gi d 5).int).toNat) []) 3).str]) fun g1=>(bif (gi (az [.str,.str,.int .i64] (gi d 0).rows [.s (gi g1 0).str,.s (gi ((gi d 3).rows.getD (((gi d 5).int).toNat) []) 2).str,.i (gi ((gi d 3).rows.getD (((gi d 5).int).toNat) []) 1).int] [.t false]) 0).bool then (bif ((ad (gi d 2).rows.length (gi d 2).rows.length)&&(decide (((gi d 2).rows.length+1)≤1048576))) then (bif (aq ((gi d 5).int+1)) then (bif ((ad ((gi d 2).rows++([[.i (gi d 5).int]]:List (List G))).length ((gi d 2).rows++([[.i (gi d 5).int]]:List (List G))).length)&&true) then some (none,[.l (aL [.str,.str,.int .i64] (gi d 0).rows [.s (gi g1 0).str,.s (gi ((gi d 3).rows.getD (((gi d 5).int).toNat) []) 2).str,.i (gi ((gi d 3).rows.getD (((gi d 5).int).toNat) []) 1).int] [.t true] (gi d 1).int.toNat),.i (((bz [.str,.str,.int .i64] (gi d 0).rows [.s (gi g1 0).str,.s (gi ((gi d 3).rows.getD (((gi d 5).int).toNat) []) 2).str,.i (gi ((gi d 3).rows.getD (((gi d 5).int).toNat) []) 1).int] (gi d 1).int.toNat):Nat):Int),.l ((gi d 2).rows++([[.i (gi d 5).int]]:List (List G))),.l (gi d 3).rows,.i (gi d 4).int,.i ((gi d 5).int+1)]) else none) else none) else none) else (bif (aq ((gi d 5).int+1)) then (bif ((ad (gi d 2).rows.length (gi d 2).rows.length)&&true) then some (none,[.l (aL [.str,.str,.int .i64] (gi d 0).rows [.s (gi g1 0).str,.s (gi ((gi d 3).rows.getD (((gi d 5).int).toNat) []) 2).str,.i (gi ((gi d 3).rows.getD (((gi d 5).int).toNat) []) 1).int] [.t true] (gi d 1).int.toNat),.i (((bz [.str,.str,.int .i64] (gi d 0).rows [.s (gi g1 0).str,.s (gi ((gi d 3).rows.getD (((gi d 5).int).toNat) []) 2).str,.i (gi ((gi d 3).rows.getD (((gi d 5).int).toNat) []) 1).int] (gi d 1).int.toNat):Nat):Int),.l (gi d 2).rows,.l (gi d 3).rows,.i (gi d 4).int,.i ((gi d 5).int+1)]) else none) else none))) else none) else (bif ((ad (gi d 2).rows.length (gi d 2).rows.length)&&true) then some (some 0,[.l (gi d 2).rows]) else none))
def Nf:be:=⟨4,[(4,[.int .i64])],⟨35,[(3,.s (.map 0)),(4,.s (.vec 1 1)),(9,.s (.list ae)),(10,.s (.int .i64)),(11,.s (.int .i64))],[.map (.agg [.str,.str,.int .i64]) (.one (.bool)),.vec [.int .i64] 0]⟩,[.slot 3,.slot 4],[⟨.exit 0,⟨35,[(4,.s (.vec 0 1))],[.vec [.int .i64] 0]⟩,[.slot 4]⟩],Nd⟩
theorem Z6:bY P t20 (ay.iB [(6,[.hole [.str,.str,.int .i64]])]) 0 (b_ Tryz.f61 4) Nf:=fun d=>by kernel_rfl
def Ng:LT:=(ay.iB [(6,[.hole [.str,.str,.int .i64]])]).add 0 Nf
theorem Z7:ax P 0 Ng (aQ Tryz.f61):=ax.a hm DH (nK _) Z6
def Nh(d:List G):Option (List G) :=
 (aM true (bD Nd [.l [],.i 0,.l [],.l (gi d 0).rows,.i (((gi d 0).rows.length:Nat):Int),.i 0]) fun g g2=>(bif ((ad (gi g2 0).rows.length (gi g2 0).rows.length)&&true) then some [.l (gi g2 0).rows] else none))
def DI:aH:=⟨61,[.s (.list ae)],[],[],[.s (.list [.int .i64])],[],[],[],Nh⟩
theorem Z8:aZ P t20 Ng Tryz.f61 DI:=fun d=>by kernel_rfl
theorem Z9:aX P DI:=a7 hm DH Tryz.func61 Z7 Z8
def t21:ak:=t20.bJ DI
theorem Ni:al P t21:=DH.aP Z9

def Z_(d:List G):Option (List G) :=
 (aB (vk [.l (gi d 0).rows]) fun g1=>(bif ((gi g1 0).int != 0) then some [.l [],.i (gi g1 0).int] else (aB (Nh [.l (gi d 0).rows]) fun g2=>some [.l (gi g2 0).rows,.i 0])))
def DJ:aH:=⟨37,[.s (.list ae)],[],[],[.s (.list [.int .i64]),.s (.int .i64)],[],[],[],Z_⟩
theorem Z':aZ P t21 ay Tryz.f37 DJ:=fun d=>by kernel_rfl
theorem aaa:aX P DJ:=a7 hm Ni Tryz.func37 (aN _ _ _) Z'
def t22:ak:=t21.bJ DJ
theorem DK:al P t22:=Ni.aP aaa

def zh(d:List G):Option (Option Nat × List G) :=
 (bif (aj (gi d 2).int (gi d 1).int) then (bif (aq (mQ (gi d 2).int 2)) then (bif ((mQ (gi d 2).int 2)==1) then (bif ((aw (gi d 2).int)&&(aj (gi d 2).int (((gi d 0).str.size:Nat):Int))) then (bif (aj (((gi d 0).str.data.toList.getD (((gi d 2).int).toNat) 0).toNat:Int) 48) then some (some 0,[.t false]) else (bif ((aw (gi d 2).int)&&(aj (gi d 2).int (((gi d 0).str.size:Nat):Int))) then (bif (aj 57 (((gi d 0).str.data.toList.getD (((gi d 2).int).toNat) 0).toNat:Int)) then some (some 0,[.t false]) else (bif (aq ((gi d 2).int+1)) then some (none,[.s (gi d 0).str,.i (gi d 1).int,.i ((gi d 2).int+1)]) else none)) else none)) else none) else (bif ((mQ (gi d 2).int 2)==2) then (bif ((aw (gi d 2).int)&&(aj (gi d 2).int (((gi d 0).str.size:Nat):Int))) then (bif (aj (((gi d 0).str.data.toList.getD (((gi d 2).int).toNat) 0).toNat:Int) 97) then some (some 0,[.t false]) else (bif ((aw (gi d 2).int)&&(aj (gi d 2).int (((gi d 0).str.size:Nat):Int))) then (bif (aj 120 (((gi d 0).str.data.toList.getD (((gi d 2).int).toNat) 0).toNat:Int)) then some (some 0,[.t false]) else (bif (aq ((gi d 2).int+1)) then some (none,[.s (gi d 0).str,.i (gi d 1).int,.i ((gi d 2).int+1)]) else none)) else none)) else none) else (bif ((aw (gi d 2).int)&&(aj (gi d 2).int (((gi d 0).str.size:Nat):Int))) then (bif (aj (((gi d 0).str.data.toList.getD (((gi d 2).int).toNat) 0).toNat:Int) 97) then some (some 0,[.t false]) else (bif ((aw (gi d 2).int)&&(aj (gi d 2).int (((gi d 0).str.size:Nat):Int))) then (bif (aj 114 (((gi d 0).str.data.toList.getD (((gi d 2).int).toNat) 0).toNat:Int)) then some (some 0,[.t false]) else (bif (aq ((gi d 2).int+1)) then some (none,[.s (gi d 0).str,.i (gi d 1).int,.i ((gi d 2).int+1)]) else none)) else none)) else none))) else none) else some (some 1,[]))
def Nj:be:=⟨4,[],⟨43,[(0,.s (.str)),(20,.s (.int .i64)),(21,.s (.int .i64))],[]⟩,[],[⟨.ret,⟨43,[(2,.s (.bool))],[]⟩,[]⟩,⟨.exit 0,⟨43,[],[]⟩,[]⟩],zh⟩
theorem aab:bY P t22 ay 0 (b_ Tryz.f154 4) Nj:=fun d=>by kernel_rfl
def Nk:LT:=ay.add 0 Nj
theorem aac:ax P 0 Nk (aQ Tryz.f154):=ax.a hm DK (aN _ _ _) aab
def Nl(d:List G):Option (List G) :=
 (bif ((((gi d 0).str.size:Nat):Int) != 2) then (bif ((((gi d 0).str.size:Nat):Int) != 4) then (bif ((((gi d 0).str.size:Nat):Int) != 6) then some [.t false] else (aM true (bD zh [.s (gi d 0).str,.i (((gi d 0).str.size:Nat):Int),.i 0]) fun g g1=>(bif ad g 0 then some [.t (gi g1 0).bool] else some [.t true]))) else (aM true (bD zh [.s (gi d 0).str,.i (((gi d 0).str.size:Nat):Int),.i 0]) fun h g2=>(bif ad h 0 then some [.t (gi g2 0).bool] else some [.t true]))) else (aM true (bD zh [.s (gi d 0).str,.i (((gi d 0).str.size:Nat):Int),.i 0]) fun k g3=>(bif ad k 0 then some [.t (gi g3 0).bool] else some [.t true])))
def DL:aH:=⟨154,[.s (.str)],[],[],[.s (.bool)],[],[],[],Nl⟩
theorem aad:aZ P t22 Nk Tryz.f154 DL:=fun d=>by kernel_rfl
theorem aae:aX P DL:=a7 hm DK Tryz.func154 aac aad
def t23:ak:=t22.bJ DL
theorem Nn:al P t23:=DK.aP aae

def No(d:List G):Option (List G) :=
 (bif ((((gi d 0).str.size:Nat):Int)==6) then (aB (Nl [.s (gi d 0).str]) fun g1=>some [.t (gi g1 0).bool]) else some [.t false])
def DM:aH:=⟨116,[.s (.str)],[],[],[.s (.bool)],[],[],[],No⟩
theorem aaf:aZ P t23 ay Tryz.f116 DM:=fun d=>by kernel_rfl
theorem aag:aX P DM:=a7 hm Nn Tryz.func116 (aN _ _ _) aaf
def t24:ak:=t23.bJ DM
theorem DN:al P t24:=Nn.aP aag

def Np(d:List G):Option (Option Nat × List G) :=
 (bif (aj (gi d 3).int (gi d 2).int) then (bif ((aw (gi d 3).int)&&(aj (gi d 3).int (((gi d 1).rows.length:Nat):Int))) then (aB (pM [.s (gi ((gi d 1).rows.getD (((gi d 3).int).toNat) []) 0).str]) fun g1=>(bif (!(gi g1 0).bool) then some (some 0,[.i 3]) else (aB (rK [.s (gi ((gi d 1).rows.getD (((gi d 3).int).toNat) []) 1).str]) fun g2=>(bif (!(gi g2 0).bool) then some (some 0,[.i 5]) else (aB (mv [.i (gi ((gi d 1).rows.getD (((gi d 3).int).toNat) []) 2).int,.i 0,.i 1000000000000]) fun g3=>(bif (gi g3 0).bool then some (some 0,[.i 1]) else (bif (!((gi ((gi d 1).rows.getD (((gi d 3).int).toNat) []) 3).str.toList==(⟨#[]⟩:ByteArray).toList)) then (aB (No [.s (gi ((gi d 1).rows.getD (((gi d 3).int).toNat) []) 3).str]) fun g4=>(bif (!(gi g4 0).bool) then some (some 0,[.i 3]) else (bif (aj 0 (gi d 3).int) then (bif (aq ((gi d 3).int-1)) then (bif ((aw ((gi d 3).int-1))&&(aj ((gi d 3).int-1) (((gi d 0).rows.length:Nat):Int))) then (aB (ic [.s (gi ((gi d 0).rows.getD (((gi d 3).int-1).toNat) []) 1).str,.s (gi ((gi d 1).rows.getD (((gi d 3).int).toNat) []) 1).str]) fun g5=>(bif (aq ((gi d 3).int-1)) then (bif ((aw ((gi d 3).int-1))&&(aj ((gi d 3).int-1) (((gi d 0).rows.length:Nat):Int))) then (aB (ic [.s (gi ((gi d 0).rows.getD (((gi d 3).int-1).toNat) []) 0).str,.s (gi ((gi d 1).rows.getD (((gi d 3).int).toNat) []) 0).str]) fun g6=>(aB (pN [.l [[.i (gi g5 0).int],[.i (gi g6 0).int]]]) fun g7=>(bif (bl 0 (gi g7 0).int) then some (some 0,[.i 7]) else (bif (aq ((gi d 3).int+1)) then some (none,[.l (gi d 0).rows,.l (gi d 1).rows,.i (gi d 2).int,.i ((gi d 3).int+1)]) else none)))) else none) else none)) else none) else none) else (bif (aq ((gi d 3).int+1)) then some (none,[.l (gi d 0).rows,.l (gi d 1).rows,.i (gi d 2).int,.i ((gi d 3).int+1)]) else none)))) else (bif (aj 0 (gi d 3).int) then (bif (aq ((gi d 3).int-1)) then (bif ((aw ((gi d 3).int-1))&&(aj ((gi d 3).int-1) (((gi d 0).rows.length:Nat):Int))) then (aB (ic [.s (gi ((gi d 0).rows.getD (((gi d 3).int-1).toNat) []) 1).str,.s (gi ((gi d 1).rows.getD (((gi d 3).int).toNat) []) 1).str]) fun g8=>(bif (aq ((gi d 3).int-1)) then (bif ((aw ((gi d 3).int-1))&&(aj ((gi d 3).int-1) (((gi d 0).rows.length:Nat):Int))) then (aB (ic [.s (gi ((gi d 0).rows.getD (((gi d 3).int-1).toNat) []) 0).str,.s (gi ((gi d 1).rows.getD (((gi d 3).int).toNat) []) 0).str]) fun g9=>(aB (pN [.l [[.i (gi g8 0).int],[.i (gi g9 0).int]]]) fun g10=>(bif (bl 0 (gi g10 0).int) then some (some 0,[.i 7]) else (bif (aq ((gi d 3).int+1)) then some (none,[.l (gi d 0).rows,.l (gi d 1).rows,.i (gi d 2).int,.i ((gi d 3).int+1)]) else none)))) else none) else none)) else none) else none) else (bif (aq ((gi d 3).int+1)) then some (none,[.l (gi d 0).rows,.l (gi d 1).rows,.i (gi d 2).int,.i ((gi d 3).int+1)]) else none))))))))) else none) else some (some 1,[]))
def Nq:be:=⟨4,[],⟨66,[(0,.s (.list vd)),(8,.s (.list vd)),(9,.s (.int .i64)),(10,.s (.int .i64))],[]⟩,[],[⟨.ret,⟨66,[(2,.s (.int .i64))],[]⟩,[]⟩,⟨.exit 0,⟨66,[],[]⟩,[]⟩],Np⟩
theorem aah:bY P t24 ay 0 (b_ Tryz.f70 4) Nq:=fun d=>by kernel_rfl
def Nr:LT:=ay.add 0 Nq
theorem aai:ax P 0 Nr (aQ Tryz.f70):=ax.a hm DN (aN _ _ _) aah
def Ns(d:List G):Option (List G) :=
 (bif (aj 500 (((gi d 0).rows.length:Nat):Int)) then some [.i 2] else (aM true (bD Np [.l (gi d 0).rows,.l (gi d 0).rows,.i (((gi d 0).rows.length:Nat):Int),.i 0]) fun g g11=>(bif ad g 0 then some [.i (gi g11 0).int] else some [.i 0])))
def DO:aH:=⟨70,[.s (.list vd)],[],[],[.s (.int .i64)],[],[],[],Ns⟩
theorem aaj:aZ P t24 Nr Tryz.f70 DO:=fun d=>by kernel_rfl
theorem aak:aX P DO:=a7 hm DN Tryz.func70 aai aaj
def t25:ak:=t24.bJ DO
theorem DP:al P t25:=DN.aP aak

def mw(d:List G):Option (Option Nat × List G) :=
 (bif ((aw (IntKind.u8.wrap ((gi d 0).int)))&&(aj (IntKind.u8.wrap ((gi d 0).int)) 256)) then (bif (aq (((⟨#[0,1,2,2,3,3,3,3,4,4,4,4,4,4,4,4,5,5,5,5,5,5,5,5,5,5,5,5,5,5,5,5,6,6,6,6,6,6,6,6,6,6,6,6,6,6,6,6,6,6,6,6,6,6,6,6,6,6,6,6,6,6,6,6,7,7,7,7,7,7,7,7,7,7,7,7,7,7,7,7,7,7,7,7,7,7,7,7,7,7,7,7,7,7,7,7,7,7,7,7,7,7,7,7,7,7,7,7,7,7,7,7,7,7,7,7,7,7,7,7,7,7,7,7,7,7,7,7,8,8,8,8,8,8,8,8,8,8,8,8,8,8,8,8,8,8,8,8,8,8,8,8,8,8,8,8,8,8,8,8,8,8,8,8,8,8,8,8,8,8,8,8,8,8,8,8,8,8,8,8,8,8,8,8,8,8,8,8,8,8,8,8,8,8,8,8,8,8,8,8,8,8,8,8,8,8,8,8,8,8,8,8,8,8,8,8,8,8,8,8,8,8,8,8,8,8,8,8,8,8,8,8,8,8,8,8,8,8,8,8,8,8,8,8,8,8,8,8,8,8,8,8,8,8,8,8]⟩:ByteArray).data.toList.getD ((IntKind.u8.wrap ((gi d 0).int)).toNat) 0).toNat:Int)) then (bif (aq ((gi d 1).int+(((⟨#[0,1,2,2,3,3,3,3,4,4,4,4,4,4,4,4,5,5,5,5,5,5,5,5,5,5,5,5,5,5,5,5,6,6,6,6,6,6,6,6,6,6,6,6,6,6,6,6,6,6,6,6,6,6,6,6,6,6,6,6,6,6,6,6,7,7,7,7,7,7,7,7,7,7,7,7,7,7,7,7,7,7,7,7,7,7,7,7,7,7,7,7,7,7,7,7,7,7,7,7,7,7,7,7,7,7,7,7,7,7,7,7,7,7,7,7,7,7,7,7,7,7,7,7,7,7,7,7,8,8,8,8,8,8,8,8,8,8,8,8,8,8,8,8,8,8,8,8,8,8,8,8,8,8,8,8,8,8,8,8,8,8,8,8,8,8,8,8,8,8,8,8,8,8,8,8,8,8,8,8,8,8,8,8,8,8,8,8,8,8,8,8,8,8,8,8,8,8,8,8,8,8,8,8,8,8,8,8,8,8,8,8,8,8,8,8,8,8,8,8,8,8,8,8,8,8,8,8,8,8,8,8,8,8,8,8,8,8,8,8,8,8,8,8,8,8,8,8,8,8,8,8,8,8,8,8]⟩:ByteArray).data.toList.getD ((IntKind.u8.wrap ((gi d 0).int)).toNat) 0).toNat:Int))) then some (some 0,[.i ((gi d 1).int+(((⟨#[0,1,2,2,3,3,3,3,4,4,4,4,4,4,4,4,5,5,5,5,5,5,5,5,5,5,5,5,5,5,5,5,6,6,6,6,6,6,6,6,6,6,6,6,6,6,6,6,6,6,6,6,6,6,6,6,6,6,6,6,6,6,6,6,7,7,7,7,7,7,7,7,7,7,7,7,7,7,7,7,7,7,7,7,7,7,7,7,7,7,7,7,7,7,7,7,7,7,7,7,7,7,7,7,7,7,7,7,7,7,7,7,7,7,7,7,7,7,7,7,7,7,7,7,7,7,7,7,8,8,8,8,8,8,8,8,8,8,8,8,8,8,8,8,8,8,8,8,8,8,8,8,8,8,8,8,8,8,8,8,8,8,8,8,8,8,8,8,8,8,8,8,8,8,8,8,8,8,8,8,8,8,8,8,8,8,8,8,8,8,8,8,8,8,8,8,8,8,8,8,8,8,8,8,8,8,8,8,8,8,8,8,8,8,8,8,8,8,8,8,8,8,8,8,8,8,8,8,8,8,8,8,8,8,8,8,8,8,8,8,8,8,8,8,8,8,8,8,8,8,8,8,8,8,8,8]⟩:ByteArray).data.toList.getD ((IntKind.u8.wrap ((gi d 0).int)).toNat) 0).toNat:Int))]) else none) else none) else none)
def Nt:be:=⟨10,[],⟨25,[(0,.s (.int .u64)),(2,.s (.int .i64))],[]⟩,[],[⟨.ret,⟨25,[(2,.s (.int .i64))],[]⟩,[]⟩],mw⟩
theorem aal:eU P t25 ay 0 (cutAt Tryz.f172 10) Nt:=fun d=>by kernel_rfl
def Nu:LT:=ay.dP 0 Nt
theorem aam:ax P 0 Nu (aQ Tryz.f172):=ax.aC hm DP (aN _ _ _) aal
def Nv(d:List G):Option (List G) :=
 (bif (bl 4294967296 (gi d 0).int) then (bif (bl 65536 (dT .u64 (gi d 0).int 32)) then (bif (bl 256 (dT .u64 (dT .u64 (gi d 0).int 32) 16)) then (aM true (bV (mw [.i (dT .u64 (dT .u64 (dT .u64 (gi d 0).int 32) 16) 8),.i 56])) fun g g1=>some [.i (gi g1 0).int]) else (aM true (bV (mw [.i (dT .u64 (dT .u64 (gi d 0).int 32) 16),.i 48])) fun h g2=>some [.i (gi g2 0).int])) else (bif (bl 256 (dT .u64 (gi d 0).int 32)) then (aM true (bV (mw [.i (dT .u64 (dT .u64 (gi d 0).int 32) 8),.i 40])) fun k g3=>some [.i (gi g3 0).int]) else (aM true (bV (mw [.i (dT .u64 (gi d 0).int 32),.i 32])) fun q g4=>some [.i (gi g4 0).int]))) else (bif (bl 65536 (gi d 0).int) then (bif (bl 256 (dT .u64 (gi d 0).int 16)) then (aM true (bV (mw [.i (dT .u64 (dT .u64 (gi d 0).int 16) 8),.i 24])) fun u g5=>some [.i (gi g5 0).int]) else (aM true (bV (mw [.i (dT .u64 (gi d 0).int 16),.i 16])) fun v g6=>some [.i (gi g6 0).int])) else (bif (bl 256 (gi d 0).int) then (aM true (bV (mw [.i (dT .u64 (gi d 0).int 8),.i 8])) fun y g7=>some [.i (gi g7 0).int]) else (aM true (bV (mw [.i (gi d 0).int,.i 0])) fun B g8=>some [.i (gi g8 0).int]))))
def DQ:aH:=⟨172,[.s (.int .u64)],[],[],[.s (.int .i64)],[],[],[],Nv⟩
theorem aan:aZ P t25 Nu Tryz.f172 DQ:=fun d=>by kernel_rfl
theorem aao:aX P DQ:=a7 hm DP Tryz.func172 aam aan
def t26:ak:=t25.bJ DQ
theorem Nw:al P t26:=DP.aP aao

def Nx(d:List G):Option (List G) :=
 (aB (Nv [.i (gi d 0).int]) fun g1=>some [.i (gi g1 0).int])
def DR:aH:=⟨131,[.s (.int .u64)],[],[],[.s (.int .i64)],[],[],[],Nx⟩
theorem aap:aZ P t26 ay Tryz.f131 DR:=fun d=>by kernel_rfl
theorem aaq:aX P DR:=a7 hm Nw Tryz.func131 (aN _ _ _) aap
def t27:ak:=t26.bJ DR
theorem Ny:al P t27:=Nw.aP aaq

def Nz(d:List G):Option (List G) :=
 (aB (rL [.i (gi (gi d 1).row 1).int,.i (gi (gi d 0).row 1).int]) fun g1=>(aB (ic [.s (gi (gi d 0).row 2).str,.s (gi (gi d 1).row 2).str]) fun g2=>(aB (pN [.l [[.i (gi g1 0).int],[.i (gi g2 0).int]]]) fun g3=>some [.i (gi g3 0).int])))
def DS:aH:=⟨118,[.s (.row cw),.s (.row cw)],[],[],[.s (.int .i64)],[],[],[],Nz⟩
theorem aar:aZ P t27 ay Tryz.f118 DS:=fun d=>by kernel_rfl
theorem aas:aX P DS:=a7 hm Ny Tryz.func118 (aN _ _ _) aar
def t28:ak:=t27.bJ DS
theorem zi:al P t28:=Ny.aP aas

def NA(d:List G):Option (Option Nat × List G) :=
 (bif (aj (gi d 1).int (gi d 4).int) then (bif ((aw (gi d 4).int)&&(aj (gi d 4).int (((gi d 0).rows.length:Nat):Int))) then (bif (decide ((0+((gi d 4).int).toNat)<(gi d 0).rows.length)) then (bif (aq ((gi d 4).int-1)) then (bif ((aw ((gi d 4).int-1))&&(aj ((gi d 4).int-1) (((gi d 0).rows.length:Nat):Int))) then (bif (decide ((0+((gi d 4).int-1).toNat)<(gi d 0).rows.length)) then (aB (Nz [.l [(aD cw ((gi d 0).rows.getD (0+((gi d 4).int).toNat) []))],.l [(aD cw ((gi d 0).rows.getD (0+((gi d 4).int-1).toNat) []))]]) fun g1=>(bif (aj (gi g1 0).int 0) then (bif (aq ((gi d 4).int-1)) then (bif (aq ((gi d 4).int-1)) then (bif ((aw ((gi d 4).int-1))&&(aj ((gi d 4).int-1) (((gi d 0).rows.length:Nat):Int))) then (bif (decide ((0+((gi d 4).int-1).toNat)<(gi d 0).rows.length)) then (bif ((aw (gi d 4).int)&&(aj (gi d 4).int (((gi d 0).rows.length:Nat):Int))) then (bif (decide ((0+((gi d 4).int).toNat)<(gi d 0).rows.length)) then (bif ((aw (gi d 4).int)&&(aj (gi d 4).int (((gi d 0).rows.length:Nat):Int))) then (bif (decide ((0+((gi d 4).int).toNat)<(gi d 0).rows.length)) then (bif ((aw ((gi d 4).int-1))&&(aj ((gi d 4).int-1) (((gi d 0).rows.length:Nat):Int))) then (bif (decide ((0+((gi d 4).int-1).toNat)<((gi d 0).rows.set (0+((gi d 4).int).toNat) (aV cw ((gi d 0).rows.getD (0+((gi d 4).int).toNat) []) 0 (aD cw ((gi d 0).rows.getD (0+((gi d 4).int-1).toNat) [])))).length)) then (bif (aq ((gi d 4).int-1)) then (bif ((ad (gi d 0).rows.length (((gi d 0).rows.set (0+((gi d 4).int).toNat) (aV cw ((gi d 0).rows.getD (0+((gi d 4).int).toNat) []) 0 (aD cw ((gi d 0).rows.getD (0+((gi d 4).int-1).toNat) [])))).set (0+((gi d 4).int-1).toNat) (aV cw (((gi d 0).rows.set (0+((gi d 4).int).toNat) (aV cw ((gi d 0).rows.getD (0+((gi d 4).int).toNat) []) 0 (aD cw ((gi d 0).rows.getD (0+((gi d 4).int-1).toNat) [])))).getD (0+((gi d 4).int-1).toNat) []) 0 (aD cw ((gi d 0).rows.getD (0+((gi d 4).int).toNat) [])))).length)&&true) then some (none,[.l (((gi d 0).rows.set (0+((gi d 4).int).toNat) (aV cw ((gi d 0).rows.getD (0+((gi d 4).int).toNat) []) 0 (aD cw ((gi d 0).rows.getD (0+((gi d 4).int-1).toNat) [])))).set (0+((gi d 4).int-1).toNat) (aV cw (((gi d 0).rows.set (0+((gi d 4).int).toNat) (aV cw ((gi d 0).rows.getD (0+((gi d 4).int).toNat) []) 0 (aD cw ((gi d 0).rows.getD (0+((gi d 4).int-1).toNat) [])))).getD (0+((gi d 4).int-1).toNat) []) 0 (aD cw ((gi d 0).rows.getD (0+((gi d 4).int).toNat) [])))),.i (gi d 1).int,.i (gi d 2).int,.i (gi d 3).int,.i ((gi d 4).int-1)]) else none) else none) else none) else none) else none) else none) else none) else none) else none) else none) else none) else none) else (bif ((ad (gi d 0).rows.length (gi d 0).rows.length)&&true) then some (some 0,[.l (gi d 0).rows,.i (gi d 1).int,.i (gi d 2).int,.i (gi d 3).int]) else none))) else none) else none) else none) else none) else none) else (bif ((ad (gi d 0).rows.length (gi d 0).rows.length)&&true) then some (some 0,[.l (gi d 0).rows,.i (gi d 1).int,.i (gi d 2).int,.i (gi d 3).int]) else none))
def NB:be:=⟨4,[],⟨53,[(0,.s (.vec 0 3)),(1,.s (.int .i64)),(2,.s (.int .i64)),(3,.s (.fn 118)),(8,.s (.int .i64)),(9,.s (.int .i64))],[.vec cw 0]⟩,[.fix 0],[⟨.exit 2,⟨53,[(0,.s (.vec 0 3)),(1,.s (.int .i64)),(2,.s (.int .i64)),(3,.s (.fn 118)),(8,.s (.int .i64))],[.vec cw 0]⟩,[.fix 0]⟩],NA⟩
theorem aat:bY P t28 ay 1 (b_ Tryz.f190 4) NB:=fun d=>by kernel_rfl
def DT:LT:=ay.add 1 NB
theorem aau:ax P 1 DT (aQ Tryz.f190):=ax.a hm zi (aN _ _ _) aat
def NC(d:List G):Option (Option Nat × List G) :=
 (bif (aj (gi d 3).int (gi d 2).int) then (aM ((ad (gi d 0).rows.length (gi d 0).rows.length)&&true) (bD NA [.l (gi d 0).rows,.i (gi d 1).int,.i (gi d 2).int,.i (gi d 3).int,.i (gi d 3).int]) fun g g2=>(bif (aq ((gi g2 3).int+1)) then (bif ((ad (gi g2 0).rows.length (gi g2 0).rows.length)&&true) then some (none,[.l (gi g2 0).rows,.i (gi g2 1).int,.i (gi g2 2).int,.i ((gi g2 3).int+1)]) else none) else none)) else some (some 0,[.l (gi d 0).rows]))
def ND:be:=⟨1,[],⟨53,[(0,.s (.vec 0 3)),(1,.s (.int .i64)),(2,.s (.int .i64)),(3,.s (.fn 118)),(8,.s (.int .i64))],[.vec cw 0]⟩,[.fix 0],[⟨.exit 0,⟨53,[],[.vec cw 0]⟩,[.fix 0]⟩],NC⟩
theorem aav:bY P t28 DT 1 (b_ Tryz.f190 1) ND:=fun d=>by kernel_rfl
def NF:LT:=DT.add 1 ND
theorem aaw:ax P 1 NF (aQ Tryz.f190):=ax.a hm zi aau aav
def DU(d:List G):Option (List G) :=
 (bif (aq ((gi d 1).int+1)) then (aM ((ad (gi d 0).rows.length (gi d 0).rows.length)&&true) (bD NC [.l (gi d 0).rows,.i (gi d 1).int,.i (gi d 2).int,.i ((gi d 1).int+1)]) fun g g3=>some [.l (gi g3 0).rows]) else none)
def DV:aH:=⟨190,[.s (.vec 0 3),.s (.int .i64),.s (.int .i64),.s (.fn 118)],[.vec cw 0],[.slot 0],[],[.vec cw 0],[.fix 0],[],DU⟩
theorem aax:aZ P t28 NF Tryz.f190 DV:=fun d=>by kernel_rfl
theorem aay:aX P DV:=a7 hm zi Tryz.func190 aaw aax
def t29:ak:=t28.cq DV
theorem DW:al P t29:=zi.aW aay

def NG(d:List G):Option (Option Nat × List G) :=
 (bif (aq ((gi d 2).int-(gi d 1).int)) then (bif (bl ((gi d 2).int-(gi d 1).int) 12) then (eE (((ad (gi d 0).rows.length (gi d 0).rows.length)&&true)&&(DU [.l (gi d 0).rows,.i (gi d 1).int,.i (gi d 2).int]).isSome) (DU [.l (gi d 0).rows,.i (gi d 1).int,.i (gi d 2).int]) fun g1=>some (some 0,[.l (gi g1 0).rows])) else (bif ((gi d 3).int==0) then none else (bif (!(gi d 4).bool) then none else none))) else none)
def NH:be:=⟨2,[],⟨148,[(0,.s (.vec 0 3)),(1,.s (.int .i64)),(2,.s (.int .i64)),(3,.s (.int .i64)),(4,.s (.fn 118)),(10,.s (.bool)),(11,.s (.bool))],[.vec cw 0]⟩,[.fix 0],[⟨.ret,⟨148,[],[.vec cw 0]⟩,[.fix 0]⟩],NG⟩
theorem aaz:bY P t29 ay 1 (b_ Tryz.f155 2) NH:=fun d=>by kernel_rfl
def NI:LT:=ay.add 1 NH
theorem aaA:ax P 1 NI (aQ Tryz.f155):=ax.a hm DW (aN _ _ _) aaz
def DX(d:List G):Option (List G) :=
 (aM ((ad (gi d 0).rows.length (gi d 0).rows.length)&&true) (bD NG [.l (gi d 0).rows,.i (gi d 1).int,.i (gi d 2).int,.i (gi d 3).int,.t true,.t true]) fun g g2=>some [.l (gi g2 0).rows])
def DY:aH:=⟨155,[.s (.vec 0 3),.s (.int .i64),.s (.int .i64),.s (.int .i64),.s (.fn 118)],[.vec cw 0],[.slot 0],[],[.vec cw 0],[.fix 0],[],DX⟩
theorem aaB:aZ P t29 NI Tryz.f155 DY:=fun d=>by kernel_rfl
theorem aaC:aX P DY:=a7 hm DW Tryz.func155 aaA aaB
def t30:ak:=t29.cq DY
theorem NJ:al P t30:=DW.aW aaC

def DZ(d:List G):Option (List G) :=
 (aB (Nx [.i (IntKind.u64.wrap (((gi d 0).rows.length:Nat):Int))]) fun g1=>(eE (((ad (gi d 0).rows.length (gi d 0).rows.length)&&true)&&(DX [.l (gi d 0).rows,.i 0,.i (((gi d 0).rows.length:Nat):Int),.i (gi g1 0).int]).isSome) (DX [.l (gi d 0).rows,.i 0,.i (((gi d 0).rows.length:Nat):Int),.i (gi g1 0).int]) fun g2=>some [.l (gi g2 0).rows]))
def D0:aH:=⟨117,[.s (.vec 0 3),.s (.fn 118)],[.vec cw 0],[.slot 0],[],[.vec cw 0],[.fix 0],[],DZ⟩
theorem aaD:aZ P t30 ay Tryz.f117 D0:=fun d=>by kernel_rfl
theorem aaE:aX P D0:=a7 hm NJ Tryz.func117 (aN _ _ _) aaD
def t31:ak:=t30.cq D0
theorem zk:al P t31:=NJ.aW aaE

def D1(d:List G):Option (Option Nat × List G) :=
 (bif (gi d 4).bool then (bif (aq ((gi d 1).int-1)) then (bif ((aw ((gi d 1).int-1))&&(aj ((gi d 1).int-1) (((gi d 0).rows.length:Nat):Int))) then (bif (decide ((0+((gi d 1).int-1).toNat)<(gi d 0).rows.length)) then (bif ((aw (gi d 1).int)&&(aj (gi d 1).int (((gi d 0).rows.length:Nat):Int))) then (bif (decide ((0+((gi d 1).int).toNat)<(gi d 0).rows.length)) then (bif ((ad (gi d 0).rows.length ((gi d 0).rows.set (0+((gi d 1).int).toNat) (aV cw ((gi d 0).rows.getD (0+((gi d 1).int).toNat) []) 0 [.i (gi ((gi d 0).rows.getD (0+((gi d 1).int-1).toNat) []) 0).int])).length)&&true) then some (some 0,[.l ((gi d 0).rows.set (0+((gi d 1).int).toNat) (aV cw ((gi d 0).rows.getD (0+((gi d 1).int).toNat) []) 0 [.i (gi ((gi d 0).rows.getD (0+((gi d 1).int-1).toNat) []) 0).int])),.i (gi d 2).int,.i (gi d 3).int]) else none) else none) else none) else none) else none) else none) else (bif ((ad (gi d 0).rows.length (gi d 0).rows.length)&&true) then some (some 0,[.l (gi d 0).rows,.i (gi d 2).int,.i (gi d 3).int]) else none))
def NK:be:=⟨7,[],⟨45,[(0,.s (.vec 0 3)),(3,.s (.int .i64)),(7,.s (.int .i64)),(8,.s (.int .i64)),(32,.s (.bool))],[.vec cw 0]⟩,[.fix 0],[⟨.normal,⟨45,[(0,.s (.vec 0 3)),(7,.s (.int .i64)),(8,.s (.int .i64))],[.vec cw 0]⟩,[.fix 0]⟩],D1⟩
theorem aaF:eU P t31 ay 1 (cutAt Tryz.f71 7) NK:=fun d=>by kernel_rfl
def D2:LT:=ay.dP 1 NK
theorem aaG:ax P 1 D2 (aQ Tryz.f71):=ax.aC hm zk (aN _ _ _) aaF
def NL(d:List G):Option (Option Nat × List G) :=
 (bif (aj (gi d 2).int (gi d 1).int) then (bif (aq ((gi d 2).int+1)) then (bif ((aw (gi d 2).int)&&(aj (gi d 2).int (((gi d 0).rows.length:Nat):Int))) then (bif (decide ((0+((gi d 2).int).toNat)<(gi d 0).rows.length)) then (bif (aj 0 (gi d 2).int) then (bif ((aw (gi d 2).int)&&(aj (gi d 2).int (((gi d 0).rows.length:Nat):Int))) then (bif (decide ((0+((gi d 2).int).toNat)<((gi d 0).rows.set (0+((gi d 2).int).toNat) (aV cw ((gi d 0).rows.getD (0+((gi d 2).int).toNat) []) 0 [.i ((gi d 2).int+1)])).length)) then (bif (aq ((gi d 2).int-1)) then (bif ((aw ((gi d 2).int-1))&&(aj ((gi d 2).int-1) (((gi d 0).rows.length:Nat):Int))) then (bif (decide ((0+((gi d 2).int-1).toNat)<((gi d 0).rows.set (0+((gi d 2).int).toNat) (aV cw ((gi d 0).rows.getD (0+((gi d 2).int).toNat) []) 0 [.i ((gi d 2).int+1)])).length)) then (aM ((ad (gi d 0).rows.length ((gi d 0).rows.set (0+((gi d 2).int).toNat) (aV cw ((gi d 0).rows.getD (0+((gi d 2).int).toNat) []) 0 [.i ((gi d 2).int+1)])).length)&&true) (bV (D1 [.l ((gi d 0).rows.set (0+((gi d 2).int).toNat) (aV cw ((gi d 0).rows.getD (0+((gi d 2).int).toNat) []) 0 [.i ((gi d 2).int+1)])),.i (gi d 2).int,.i (gi d 1).int,.i (gi d 2).int,.t ((gi (((gi d 0).rows.set (0+((gi d 2).int).toNat) (aV cw ((gi d 0).rows.getD (0+((gi d 2).int).toNat) []) 0 [.i ((gi d 2).int+1)])).getD (0+((gi d 2).int).toNat) []) 1).int==(gi (((gi d 0).rows.set (0+((gi d 2).int).toNat) (aV cw ((gi d 0).rows.getD (0+((gi d 2).int).toNat) []) 0 [.i ((gi d 2).int+1)])).getD (0+((gi d 2).int-1).toNat) []) 1).int)])) fun g g2=>(bif (aq ((gi g2 2).int+1)) then (bif ((ad (gi g2 0).rows.length (gi g2 0).rows.length)&&true) then some (none,[.l (gi g2 0).rows,.i (gi g2 1).int,.i ((gi g2 2).int+1)]) else none) else none)) else none) else none) else none) else none) else none) else (aM ((ad (gi d 0).rows.length ((gi d 0).rows.set (0+((gi d 2).int).toNat) (aV cw ((gi d 0).rows.getD (0+((gi d 2).int).toNat) []) 0 [.i ((gi d 2).int+1)])).length)&&true) (bV (D1 [.l ((gi d 0).rows.set (0+((gi d 2).int).toNat) (aV cw ((gi d 0).rows.getD (0+((gi d 2).int).toNat) []) 0 [.i ((gi d 2).int+1)])),.i (gi d 2).int,.i (gi d 1).int,.i (gi d 2).int,.t false])) fun h g3=>(bif (aq ((gi g3 2).int+1)) then (bif ((ad (gi g3 0).rows.length (gi g3 0).rows.length)&&true) then some (none,[.l (gi g3 0).rows,.i (gi g3 1).int,.i ((gi g3 2).int+1)]) else none) else none))) else none) else none) else none) else (bif ((ad (gi d 0).rows.length (gi d 0).rows.length)&&true) then some (some 0,[.l (gi d 0).rows]) else none))
def NM:be:=⟨3,[],⟨45,[(0,.s (.vec 0 3)),(7,.s (.int .i64)),(8,.s (.int .i64))],[.vec cw 0]⟩,[.fix 0],[⟨.exit 0,⟨45,[(0,.s (.vec 0 3))],[.vec cw 0]⟩,[.fix 0]⟩],NL⟩
theorem aaH:bY P t31 D2 1 (b_ Tryz.f71 3) NM:=fun d=>by kernel_rfl
def NN:LT:=D2.add 1 NM
theorem aaI:ax P 1 NN (aQ Tryz.f71):=ax.a hm zk aaG aaH
def D3(d:List G):Option (List G) :=
 (eE (((ad (gi d 0).rows.length (gi d 0).rows.length)&&true)&&(DZ [.l (gi d 0).rows]).isSome) (DZ [.l (gi d 0).rows]) fun g1=>(aM ((ad (gi d 0).rows.length (gi g1 0).rows.length)&&true) (bD NL [.l (gi g1 0).rows,.i (((gi d 0).rows.length:Nat):Int),.i 0]) fun g g4=>(bif ((ad (gi g4 0).rows.length (gi g4 0).rows.length)&&true) then some [.l (gi g4 0).rows] else none)))
def D4:aH:=⟨71,[.s (.vec 0 3)],[.vec cw 0],[.slot 0],[.s (.vec 0 3)],[.vec cw 0],[.fix 0],[],D3⟩
theorem aaJ:aZ P t31 NN Tryz.f71 D4:=fun d=>by kernel_rfl
theorem aaK:aX P D4:=a7 hm zk Tryz.func71 aaI aaJ
def t32:ak:=t31.cq D4
theorem D5:al P t32:=zk.aW aaK

def NO(d:List G):Option (Option Nat × List G) :=
 (bif (aj (gi d 4).int (gi d 3).int) then (bif ((aw (gi d 4).int)&&(aj (gi d 4).int (((gi d 2).rows.length:Nat):Int))) then (bif ((gi ((gi d 2).rows.getD (((gi d 4).int).toNat) []) 1).str.toList==(gi d 1).str.toList) then (bif ((ad (gi d 0).rows.length (gi d 0).rows.length)&&(decide (((gi d 0).rows.length+1)≤1048576))) then (bif (aq ((gi d 4).int+1)) then (bif ((ad ((gi d 0).rows++([[.i 0,.i (gi ((gi d 2).rows.getD (((gi d 4).int).toNat) []) 2).int,.s (gi ((gi d 2).rows.getD (((gi d 4).int).toNat) []) 0).str]]:List (List G))).length ((gi d 0).rows++([[.i 0,.i (gi ((gi d 2).rows.getD (((gi d 4).int).toNat) []) 2).int,.s (gi ((gi d 2).rows.getD (((gi d 4).int).toNat) []) 0).str]]:List (List G))).length)&&true) then some (none,[.l ((gi d 0).rows++([[.i 0,.i (gi ((gi d 2).rows.getD (((gi d 4).int).toNat) []) 2).int,.s (gi ((gi d 2).rows.getD (((gi d 4).int).toNat) []) 0).str]]:List (List G))),.s (gi d 1).str,.l (gi d 2).rows,.i (gi d 3).int,.i ((gi d 4).int+1)]) else none) else none) else none) else (bif (aq ((gi d 4).int+1)) then (bif ((ad (gi d 0).rows.length (gi d 0).rows.length)&&true) then some (none,[.l (gi d 0).rows,.s (gi d 1).str,.l (gi d 2).rows,.i (gi d 3).int,.i ((gi d 4).int+1)]) else none) else none)) else none) else (bif ((ad (gi d 0).rows.length (gi d 0).rows.length)&&true) then some (some 0,[.l (gi d 0).rows]) else none))
def NP:be:=⟨8,[(7,cw)],⟨39,[(1,.s (.str)),(7,.s (.vec 0 3)),(18,.s (.list vd)),(19,.s (.int .i64)),(20,.s (.int .i64))],[.vec cw 0]⟩,[.slot 7],[⟨.exit 0,⟨39,[(7,.s (.vec 0 3))],[.vec cw 0]⟩,[.slot 7]⟩],NO⟩
theorem aaL:bY P t32 ay 0 (b_ Tryz.f39 8) NP:=fun d=>by kernel_rfl
def NQ:LT:=ay.add 0 NP
theorem aaM:ax P 0 NQ (aQ Tryz.f39):=ax.a hm D5 (aN _ _ _) aaL
def aaN(d:List G):Option (List G) :=
 (aB (Ns [.l (gi d 0).rows]) fun g1=>(bif ((gi g1 0).int != 0) then some [.l [],.i (gi g1 0).int] else (aB (rK [.s (gi d 1).str]) fun g2=>(bif (!(gi g2 0).bool) then some [.l [],.i 5] else (aM true (bD NO [.l [],.s (gi d 1).str,.l (gi d 0).rows,.i (((gi d 0).rows.length:Nat):Int),.i 0]) fun g g3=>(eE (((ad (gi g3 0).rows.length (gi g3 0).rows.length)&&true)&&(D3 [.l (gi g3 0).rows]).isSome) (D3 [.l (gi g3 0).rows]) fun g4=>(bif ((ad (gi g4 0).rows.length (gi g4 0).rows.length)&&true) then some [.l (gi g4 0).rows,.i 0] else none)))))))
def D6:aH:=⟨39,[.s (.list vd),.s (.str)],[],[],[.s (.list cw),.s (.int .i64)],[],[],[],aaN⟩
theorem aaO:aZ P t32 NQ Tryz.f39 D6:=fun d=>by kernel_rfl
theorem aaP:aX P D6:=a7 hm D5 Tryz.func39 aaM aaO
def t33:ak:=t32.bJ D6
theorem D7:al P t33:=D5.aP aaP

def NR(d:List G):Option (Option Nat × List G) :=
 (bif (aj (gi d 1).int (gi d 2).int) then (bif ((aw (gi d 2).int)&&(aj (gi d 2).int (((gi d 0).rows.length:Nat):Int))) then (bif (decide ((0+((gi d 2).int).toNat)<(gi d 0).rows.length)) then (bif ((aw (gi d 1).int)&&(aj (gi d 1).int (((gi d 0).rows.length:Nat):Int))) then (bif (decide ((0+((gi d 1).int).toNat)<(gi d 0).rows.length)) then (bif ((aw (gi d 1).int)&&(aj (gi d 1).int (((gi d 0).rows.length:Nat):Int))) then (bif (decide ((0+((gi d 1).int).toNat)<(gi d 0).rows.length)) then (bif ((aw (gi d 2).int)&&(aj (gi d 2).int (((gi d 0).rows.length:Nat):Int))) then (bif (decide ((0+((gi d 2).int).toNat)<((gi d 0).rows.set (0+((gi d 1).int).toNat) (aV [.int .i64] ((gi d 0).rows.getD (0+((gi d 1).int).toNat) []) 0 [.i (gi ((gi d 0).rows.getD (0+((gi d 2).int).toNat) []) 0).int])).length)) then (bif (aq ((gi d 1).int+1)) then (bif (aq ((gi d 2).int-1)) then (bif ((ad (gi d 0).rows.length (((gi d 0).rows.set (0+((gi d 1).int).toNat) (aV [.int .i64] ((gi d 0).rows.getD (0+((gi d 1).int).toNat) []) 0 [.i (gi ((gi d 0).rows.getD (0+((gi d 2).int).toNat) []) 0).int])).set (0+((gi d 2).int).toNat) (aV [.int .i64] (((gi d 0).rows.set (0+((gi d 1).int).toNat) (aV [.int .i64] ((gi d 0).rows.getD (0+((gi d 1).int).toNat) []) 0 [.i (gi ((gi d 0).rows.getD (0+((gi d 2).int).toNat) []) 0).int])).getD (0+((gi d 2).int).toNat) []) 0 [.i (gi ((gi d 0).rows.getD (0+((gi d 1).int).toNat) []) 0).int])).length)&&true) then some (none,[.l (((gi d 0).rows.set (0+((gi d 1).int).toNat) (aV [.int .i64] ((gi d 0).rows.getD (0+((gi d 1).int).toNat) []) 0 [.i (gi ((gi d 0).rows.getD (0+((gi d 2).int).toNat) []) 0).int])).set (0+((gi d 2).int).toNat) (aV [.int .i64] (((gi d 0).rows.set (0+((gi d 1).int).toNat) (aV [.int .i64] ((gi d 0).rows.getD (0+((gi d 1).int).toNat) []) 0 [.i (gi ((gi d 0).rows.getD (0+((gi d 2).int).toNat) []) 0).int])).getD (0+((gi d 2).int).toNat) []) 0 [.i (gi ((gi d 0).rows.getD (0+((gi d 1).int).toNat) []) 0).int])),.i ((gi d 1).int+1),.i ((gi d 2).int-1)]) else none) else none) else none) else none) else none) else none) else none) else none) else none) else none) else none) else some (some 0,[.l (gi d 0).rows]))
def NS:be:=⟨1,[],⟨28,[(0,.s (.vec 0 1)),(2,.s (.int .i64)),(3,.s (.int .i64))],[.vec [.int .i64] 0]⟩,[.fix 0],[⟨.exit 0,⟨28,[],[.vec [.int .i64] 0]⟩,[.fix 0]⟩],NR⟩
theorem aaQ:bY P t33 ay 1 (b_ Tryz.f201 1) NS:=fun d=>by kernel_rfl
def NT:LT:=ay.add 1 NS
theorem aaR:ax P 1 NT (aQ Tryz.f201):=ax.a hm D7 (aN _ _ _) aaQ
def aaS(d:List G):Option (List G) :=
 (bif (aq ((((gi d 0).rows.length:Nat):Int)-1)) then (aM ((ad (gi d 0).rows.length (gi d 0).rows.length)&&true) (bD NR [.l (gi d 0).rows,.i 0,.i ((((gi d 0).rows.length:Nat):Int)-1)]) fun g g1=>some [.l (gi g1 0).rows]) else none)
def D8:aH:=⟨201,[.s (.vec 0 1)],[.vec [.int .i64] 0],[.slot 0],[],[.vec [.int .i64] 0],[.fix 0],[],aaS⟩
theorem aaT:aZ P t33 NT Tryz.f201 D8:=fun d=>by kernel_rfl
theorem aaU:aX P D8:=a7 hm D7 Tryz.func201 aaR aaT
def t34:ak:=t33.cq D8
theorem D9:al P t34:=D7.aW aaU

def zl(r d:List G):Option (List G) :=
 (bif (aq ((gi (az [.int .i64] (gi d 6).rows [.i (gi (gi r 0).row 1).int] [.i 0]) 0).int+1)) then (bif ((((ad (gi d 3).rows.length (gi d 3).rows.length)&&true)&&true)&&true) then some [.l (gi d 0).rows,.l (gi d 1).rows,.l (gi d 2).rows,.l (gi d 3).rows,.l (gi d 4).rows,.i (((gi d 5).int.toNat:Nat):Int),.l (aL [.int .i64] (gi d 6).rows [.i (gi (gi r 0).row 1).int] [.i ((gi (az [.int .i64] (gi d 6).rows [.i (gi (gi r 0).row 1).int] [.i 0]) 0).int+1)] (gi d 7).int.toNat),.i (((bz [.int .i64] (gi d 6).rows [.i (gi (gi r 0).row 1).int] (gi d 7).int.toNat):Nat):Int),.i (((gi d 8).int.toNat:Nat):Int)] else none) else none)
def NU(d:List G)(b:Nat):List G:=[.l (gi d 0).rows,.l (gi d 1).rows,.l (gi d 2).rows,.l (gi d 3).rows,.l (gi d 4).rows,.i (((gi d 5).int.toNat:Nat):Int),.l (gi d 6).rows,.i (((gi d 7).int.toNat:Nat):Int),.i (b:Int)]
def aaV(d:List G)(b:Nat):Bool:=((((ad (gi d 3).rows.length (gi d 3).rows.length)&&true)&&true)&&true)
def kN:fj:=⟨⟨21,[(3,.s (.map 3)),(10,.s (.addr))],[.box [.vec 1 15,.list ae,.list [.str],.list [.int .i64],.map 2],.vec pL 0,.map (.agg [.str,.int .i64]) (.one (.bool)),.map (.one (.int .i64)) (.one (.int .i64))]⟩,[.fix 0,.cell 0 0,.cell 0 4,.slot 3],[],(.agg [.str,.int .i64]),(.one (.bool)),2,0,9,10,11,12,13,fun d=>(gi d 8).int.toNat,NU,aaV,zl⟩
theorem aaW:iV P t34 ay 3 kN (mo (cutAt Tryz.f122 2)) (pB (cutAt Tryz.f122 2)):=fun r d=>by kernel_rfl
def rN(d:List G):Option (Option Nat × List G) :=
 (bif ((((ad (gi d 3).rows.length (gi d 3).rows.length)&&true)&&true)&&true) then some (some 0,[.l (gi d 0).rows,.l (gi d 1).rows,.l (gi d 2).rows,.l (gi d 3).rows,.l (gi d 4).rows,.i (((gi d 5).int.toNat:Nat):Int),.l (gi d 6).rows,.i (((gi d 7).int.toNat:Nat):Int)]) else none)
def NV:be:=⟨6,[],⟨21,[(3,.s (.map 3)),(10,.s (.addr))],[.box [.vec 1 15,.list ae,.list [.str],.list [.int .i64],.map 2],.vec pL 0,.map (.agg [.str,.int .i64]) (.one (.bool)),.map (.one (.int .i64)) (.one (.int .i64))]⟩,[],[⟨.ret,⟨21,[(2,.s (.map 3))],[.box [.vec 1 15,.list ae,.list [.str],.list [.int .i64],.map 2],.vec pL 0,.map (.agg [.str,.int .i64]) (.one (.bool)),.map (.one (.int .i64)) (.one (.int .i64))]⟩,[.fix 0,.cell 0 0,.cell 0 4,.slot 2]⟩],rN⟩
theorem aaX:eU P t34 ay 3 (pA (cutAt Tryz.f122 2)) NV:=fun d=>by kernel_rfl
def NW(d:List G):Option (Option Nat × List G) :=
 iC kN rN (gi d 4).rows ((gi d 5).int.toNat) d
def D_:be:=⟨2,[],⟨21,[(0,.s (.ptr 0 0)),(3,.s (.map 3))],[.box [.vec 1 15,.list ae,.list [.str],.list [.int .i64],.map 2],.vec pL 0,.map (.agg [.str,.int .i64]) (.one (.bool)),.map (.one (.int .i64)) (.one (.int .i64))]⟩,[.fix 0,.cell 0 0,.cell 0 4,.slot 3],[⟨.ret,⟨21,[(2,.s (.map 3))],[.box [.vec 1 15,.list ae,.list [.str],.list [.int .i64],.map 2],.vec pL 0,.map (.agg [.str,.int .i64]) (.one (.bool)),.map (.one (.int .i64)) (.one (.int .i64))]⟩,[.fix 0,.cell 0 0,.cell 0 4,.slot 2]⟩],NW⟩
def NX:LT:=ay.dP 3 D_
theorem aaY:∀ r d d',zl r d=some d'→(gi d' 4).rows=(gi d 4).rows∧(gi d' 5).int.toNat=(gi d 5).int.toNat:=by
 intro r d d' h;unfold zl at h;simp only[Bool.cond_eq_ite]at h
 repeat' split at h
 all_goals first|(cases h; done)|(cases h; exact⟨rfl,rfl⟩)
theorem aaZ:ax P 3 NX (aQ Tryz.f122):=ax.Xh (q:=D_) (qr:=NV) (sp:=kN) (r0:=2) (b0:=0) (r1:=3) (b1:=1) (r2:=4) (rows:=fun d=>(gi d 4).rows) (clock:=fun d=>(gi d 5).int.toNat) (pre:=fun d=>C1 P t34 (kL (cutAt Tryz.f122 2)) (aR D_.inv d)) (ri:=fun d=>(gi d 4).rows) (ci:=fun d=>(gi d 5).int.toNat) hm D9 (fun d=>by kernel_rfl) aaY (by kernel_rfl) (by kernel_rfl) (aN _ _ _) (by kernel_rfl) (by kernel_rfl) aaW (fun d=>by kernel_rfl) (fun d=>by kernel_rfl) (fun d=>by kernel_rfl) (fun d=>by kernel_rfl) (fun d=>by kernel_rfl) (fun d=>by kernel_rfl) (fun d b=>by kernel_rfl) (fun d b=>rfl) (fun d b=>⟨rfl,rfl⟩) rfl rfl aaX (fun d=>rfl)
def NY(d:List G):Option (List G) :=
 (aM ((((ad (gi d 3).rows.length (gi d 3).rows.length)&&true)&&true)&&true) (bV (NW [.l (gi d 0).rows,.l (gi d 1).rows,.l (gi d 2).rows,.l (gi d 3).rows,.l (gi d 4).rows,.i (((gi d 5).int.toNat:Nat):Int),.l [],.i 0])) fun g g1=>(bif ((((ad (gi g1 3).rows.length (gi g1 3).rows.length)&&true)&&true)&&true) then some [.l (gi g1 0).rows,.l (gi g1 1).rows,.l (gi g1 2).rows,.l (gi g1 3).rows,.l (gi g1 4).rows,.i (((gi g1 5).int.toNat:Nat):Int),.l (gi g1 6).rows,.i (((gi g1 7).int.toNat:Nat):Int)] else none))
def zm:aH:=⟨122,[.s (.ptr 0 0)],[.box [.vec 1 15,.list ae,.list [.str],.list [.int .i64],.map 2],.vec pL 0,.map (.agg [.str,.int .i64]) (.one (.bool))],[.slot 0,.cell 0 0,.cell 0 4],[.s (.map 3)],[.box [.vec 1 15,.list ae,.list [.str],.list [.int .i64],.map 2],.vec pL 0,.map (.agg [.str,.int .i64]) (.one (.bool)),.map (.one (.int .i64)) (.one (.int .i64))],[.fix 0,.fix 1,.fix 2,.slot 0],[],NY⟩
theorem aa0:aZ P t34 NX Tryz.f122 zm:=fun d=>by kernel_rfl
theorem NZ:aX P zm:=a7 hm D9 Tryz.func122 aaZ aa0
def t35:ak:=t34.cq zm
theorem N0:al P t35:=D9.aW NZ

theorem aa1:uO P ⟨227,97,96,15,15,true⟩:=Xb Tryz.func227 (by kernel_rfl) rfl rfl rfl ⟨⟨_,_,_,_,_,_,rfl,⟨rfl,rfl,rfl⟩,⟨rfl,rfl,rfl⟩,⟨rfl,rfl,rfl⟩,⟨rfl,rfl,rfl⟩⟩,⟨_,_,_,_,rfl,⟨rfl,rfl,rfl⟩,⟨rfl,rfl,rfl⟩⟩,⟨_,_,_,_,_,rfl,⟨rfl,rfl,rfl⟩,⟨rfl,rfl,rfl⟩,⟨rfl,rfl,rfl⟩⟩,⟨_,_,_,_,_,_,_,_,_,_,rfl,⟨rfl,rfl,rfl⟩,⟨rfl,rfl,rfl⟩,⟨rfl,rfl,rfl⟩,⟨rfl,rfl,rfl⟩,⟨rfl,rfl,rfl⟩,⟨rfl,rfl,rfl⟩,⟨rfl,rfl,rfl⟩,⟨rfl,rfl,rfl⟩⟩⟩ (by kernel_rfl)
def aa2(d:List G):Option (Option Nat × List G) :=
 C' kN rN (gi d 4).rows ((gi d 5).int.toNat) d
theorem aa3(d x:List G)(b:Nat):(cD kN.st kN.ba [x] (kN.init d b)).bind rN=(cD kN.st kN.ba [x] (kN.init d 0)).bind rN:=by
 simp only[Xl,kN];unfold zl NU rN;dsimp +instances only[Lt,Lu];simp only[Xm,Option.bind_some,Option.bind_none];dsimp +instances only[Lt,Lu];simp only[Xi,Int.toNat_natCast,Xj,cond_true]
def N1(d:List G):Option (List G) :=
 (aM ((((ad (gi d 3).rows.length (gi d 3).rows.length)&&true)&&true)&&true) (bV (aa2 [.l (gi d 0).rows,.l (gi d 1).rows,.l (gi d 2).rows,.l (gi d 3).rows,.l (gi d 4).rows,.i (((gi d 5).int.toNat:Nat):Int),.l [],.i 0])) fun g g1=>(bif ((((ad (gi g1 3).rows.length (gi g1 3).rows.length)&&true)&&true)&&true) then some [.l (gi g1 0).rows,.l (gi g1 1).rows,.l (gi g1 2).rows,.l (gi g1 3).rows,.l (gi g1 4).rows,.i (((gi g1 5).int.toNat:Nat):Int),.l (gi g1 6).rows,.i (((gi g1 7).int.toNat:Nat):Int)] else none))
theorem aa4{d r:List G}(h:N1 d=some r):NY d=some r :=
 Xn (fun v g=>Xk (fun b=>rfl) (aa3 _) g) h
def aa5:aH:={ zm with F:=N1 }
def N2:ak:=t35.cq aa5
theorem aa6:al P N2:=N0.aW fun d r h=>NZ d r (aa4 h)
def N3:ak:=N2.inline P 225 Tryz.f225 []
theorem aa7:al P N3:=aa6.inline hm Tryz.func225 (by kernel_rfl) []
def N4:ak:=N3.inline P 226 Tryz.f226 []
theorem aa8:al P N4:=aa7.inline hm Tryz.func226 (by kernel_rfl) []
def N5:ak:=N4.inline P 198 Tryz.f198 []
theorem aa9:al P N5:=aa8.inline hm Tryz.func198 (by kernel_rfl) []
def N6:ak:=N5.inline P 156 Tryz.f156 []
theorem aa_:al P N6:=aa9.inline hm Tryz.func156 (by kernel_rfl) []
def N7:ak:=N6.inline P 119 Tryz.f119 []
theorem aa':al P N7:=aa_.inline hm Tryz.func119 (by kernel_rfl) []
def N8:ak:=N7.cV P 200 Tryz.f200
theorem aba:al P N8:=aa'.cV hm Tryz.func200 (by kernel_rfl) (by kernel_rfl)
def N9:ak:=N8.yU P ⟨227,97,96,15,15,true⟩ 3 157 Tryz.f157 [some [.int .i64]]
theorem abb:al P N9:=aba.yU hm aa1 Tryz.func157 (by kernel_rfl) (by kernel_rfl) [some [.int .i64]]
def N_:ak:=N9.cV P 95 Tryz.f95
theorem abc:al P N_:=abb.cV hm Tryz.func95 (by kernel_rfl) (by kernel_rfl)
def N':ak:=N_.cV P 202 Tryz.f202
theorem abd:al P N':=abc.cV hm Tryz.func202 (by kernel_rfl) (by kernel_rfl)
def Oa:ak:=N'.cV P 159 Tryz.f159
theorem abe:al P Oa:=abd.cV hm Tryz.func159 (by kernel_rfl) (by kernel_rfl)
def Ob:ak:=Oa.inline P 158 Tryz.f158 []
theorem abf:al P Ob:=abe.inline hm Tryz.func158 (by kernel_rfl) []
def Oc:ak:=Ob.cV P 120 Tryz.f120
theorem abg:al P Oc:=abf.cV hm Tryz.func120 (by kernel_rfl) (by kernel_rfl)
def Od:ak:=Oc.cV P 72 Tryz.f72
theorem abh:al P Od:=abg.cV hm Tryz.func72 (by kernel_rfl) (by kernel_rfl)
def Oe:ak:=Od.cV P 121 Tryz.f121
theorem abi:al P Oe:=abh.cV hm Tryz.func121 (by kernel_rfl) (by kernel_rfl)
def Of:ak:=Oe.cV P 73 Tryz.f73
theorem abj:al P Of:=abi.cV hm Tryz.func73 (by kernel_rfl) (by kernel_rfl)
def Og:ak:=Of.inline P 40 Tryz.f40 []
theorem abk:al P Og:=abj.inline hm Tryz.func40 (by kernel_rfl) []
def Oh:ak:=Og.inline P 107 Tryz.f107 []
theorem abl:al P Oh:=abk.inline hm Tryz.func107 (by kernel_rfl) []
def Oi:ak:=Oh.inline P 113 Tryz.f113 []
theorem abm:al P Oi:=abl.inline hm Tryz.func113 (by kernel_rfl) []
def Oj:ak:=Oi.inline P 106 Tryz.f106 []
theorem abn:al P Oj:=abm.inline hm Tryz.func106 (by kernel_rfl) []
def Ol:ak:=Oj.inline P 62 Tryz.f62 []
theorem abo:al P Ol:=abn.inline hm Tryz.func62 (by kernel_rfl) []
def Om:ak:=Ol.inline P 66 Tryz.f66 []
theorem abp:al P Om:=abo.inline hm Tryz.func66 (by kernel_rfl) []
def On:ak:=Om.inline P 152 Tryz.f152 []
theorem abq:al P On:=abp.inline hm Tryz.func152 (by kernel_rfl) []
def Oo:ak:=On.inline P 112 Tryz.f112 []
theorem abr:al P Oo:=abq.inline hm Tryz.func112 (by kernel_rfl) []
def Oq:ak:=Oo.cV P 163 Tryz.f163
theorem abt:al P Oq:=abr.cV hm Tryz.func163 (by kernel_rfl) (by kernel_rfl)
def Ot:ak:=Oq.cV P 130 Tryz.f130
theorem abu:al P Ot:=abt.cV hm Tryz.func130 (by kernel_rfl) (by kernel_rfl)
def Ou:ak:=Ot.cV P 89 Tryz.f89
theorem abv:al P Ou:=abu.cV hm Tryz.func89 (by kernel_rfl) (by kernel_rfl)
def Ov:ak:=Ou.cV P 114 Tryz.f114
theorem abw:al P Ov:=abv.cV hm Tryz.func114 (by kernel_rfl) (by kernel_rfl)
def Ow:ak:=Ov.cV P 68 Tryz.f68
theorem abx:al P Ow:=abw.cV hm Tryz.func68 (by kernel_rfl) (by kernel_rfl)
def Ox:ak:=Ow.cV P 69 Tryz.f69
theorem aby:al P Ox:=abx.cV hm Tryz.func69 (by kernel_rfl) (by kernel_rfl)
def Oy:ak:=Ox.cV P 111 Tryz.f111
theorem abz:al P Oy:=aby.cV hm Tryz.func111 (by kernel_rfl) (by kernel_rfl)
def Oz:ak:=Oy.cV P 67 Tryz.f67
theorem abA:al P Oz:=abz.cV hm Tryz.func67 (by kernel_rfl) (by kernel_rfl)
def OA:ak:=Oz.inline P 38 Tryz.f38 []
theorem abB:al P OA:=abA.inline hm Tryz.func38 (by kernel_rfl) []
def abC:ak:=OA.inline P 13 Tryz.f13 []
theorem abD:al P abC:=abB.inline hm Tryz.func13 (by kernel_rfl) []
theorem abE:cL P 9 [] (.lit (.bool true)):=dy (L:=ay) hm abD [] (fun _ _=>aN _ _ _) Tryz.func9 rfl (by kernel_rfl) (by kernel_rfl)
def vl(_:List G):Option (List G):=some [.t true]
def vm:aH:=⟨9,[],[],[],[.s (.bool)],[],[],[],vl⟩
theorem abF:∀ d r,vl d=some r→dB P 9 (vm.args0 d) (ao (vm.H0 d)) (vm.out r) (ao (vm.H1 r)):=fun d r h=>by
 cases (show some [G.t true]=some r from h);exact abE []
def t36:ak:=t35.bJ vm
theorem OB:al P t36:=N0.aP abF


def rO(d:List G):Option (List G) :=
 (bif (aj (gi d 1).int 1) then some [.i 0] else (bif (!((gi d 1).int==0)) then (bif (aj (ji (gi d 0).int (gi d 1).int) 0) then (bif (aq ((ji (gi d 0).int (gi d 1).int)+(gi d 1).int)) then some [.i ((ji (gi d 0).int (gi d 1).int)+(gi d 1).int)] else none) else some [.i (ji (gi d 0).int (gi d 1).int)]) else none))
def Ea:aH:=⟨53,[.s (.int .i64),.s (.int .i64)],[],[],[.s (.int .i64)],[],[],[],rO⟩
theorem abG:aZ P t36 ay Tryz.f53 Ea:=fun d=>by kernel_rfl
theorem abH:aX P Ea:=a7 hm OB Tryz.func53 (aN _ _ _) abG
def t37:ak:=t36.bJ Ea
theorem OC:al P t37:=OB.aP abH

def nO(d:List G):Option (List G) :=
 (bif (aq ((gi d 1).int+1)) then (bif ((((gi d 0).rows.length:Nat):Int)==0) then (bif (aq (((gi d 1).int+1)*7919)) then (aB (rO [.i (((gi d 1).int+1)*7919),.i (gi d 2).int]) fun g1=>some [.l (gi d 0).rows,.i ((gi d 1).int+1),.i (gi g1 0).int]) else none) else (bif (aq (((gi d 1).int+1)-1)) then (bif (!((((gi d 0).rows.length:Nat):Int)==0)) then (bif (aq (((gi d 1).int+1)-1)) then (bif ((!((((gi d 0).rows.length:Nat):Int)==0))&&(aq (mQ (((gi d 1).int+1)-1) (((gi d 0).rows.length:Nat):Int)))) then (bif ((aw (ji (((gi d 1).int+1)-1) (((gi d 0).rows.length:Nat):Int)))&&(aj (ji (((gi d 1).int+1)-1) (((gi d 0).rows.length:Nat):Int)) (((gi d 0).rows.length:Nat):Int))) then (aB (rO [.i (gi ((gi d 0).rows.getD ((ji (((gi d 1).int+1)-1) (((gi d 0).rows.length:Nat):Int)).toNat) []) 0).int,.i 1073741824]) fun g2=>(bif (aq (7919+(ji (((gi d 1).int+1)-1) (((gi d 0).rows.length:Nat):Int)))) then (bif (aq ((mQ (((gi d 1).int+1)-1) (((gi d 0).rows.length:Nat):Int))*(7919+(ji (((gi d 1).int+1)-1) (((gi d 0).rows.length:Nat):Int))))) then (bif (aq ((gi g2 0).int+((mQ (((gi d 1).int+1)-1) (((gi d 0).rows.length:Nat):Int))*(7919+(ji (((gi d 1).int+1)-1) (((gi d 0).rows.length:Nat):Int)))))) then (aB (rO [.i ((gi g2 0).int+((mQ (((gi d 1).int+1)-1) (((gi d 0).rows.length:Nat):Int))*(7919+(ji (((gi d 1).int+1)-1) (((gi d 0).rows.length:Nat):Int))))),.i (gi d 2).int]) fun g3=>some [.l (gi d 0).rows,.i ((gi d 1).int+1),.i (gi g3 0).int]) else none) else none) else none)) else none) else none) else none) else none) else none)) else none)
def Eb:aH:=⟨29,[.s (.ptr 0 0),.s (.int .i64)],[.box [.list [.int .i64],.int .i64]],[.slot 0],[.s (.int .i64)],[.box [.list [.int .i64],.int .i64]],[.fix 0],[],nO⟩
theorem abI:aZ P t37 ay Tryz.f29 Eb:=fun d=>by kernel_rfl
theorem abJ:aX P Eb:=a7 hm OC Tryz.func29 (aN _ _ _) abI
def t38:ak:=t37.cq Eb
theorem OD:al P t38:=OC.aW abJ

def vn(d:List G):Option (List G) :=
 (bif (aj (gi d 3).int (gi d 2).int) then some [.l (gi d 0).rows,.i (gi d 1).int,.i (gi d 2).int] else (bif (aq ((gi d 3).int-(gi d 2).int)) then (bif (aq (((gi d 3).int-(gi d 2).int)+1)) then (aB (nO [.l (gi d 0).rows,.i (gi d 1).int,.i (((gi d 3).int-(gi d 2).int)+1)]) fun g1=>(bif (aq ((gi d 2).int+(gi g1 2).int)) then some [.l (gi g1 0).rows,.i (gi g1 1).int,.i ((gi d 2).int+(gi g1 2).int)] else none)) else none) else none))
def Ec:aH:=⟨7,[.s (.ptr 0 0),.s (.int .i64),.s (.int .i64)],[.box [.list [.int .i64],.int .i64]],[.slot 0],[.s (.int .i64)],[.box [.list [.int .i64],.int .i64]],[.fix 0],[],vn⟩
theorem abK:aZ P t38 ay Tryz.f7 Ec:=fun d=>by kernel_rfl
theorem abL:aX P Ec:=a7 hm OD Tryz.func7 (aN _ _ _) abK
def t39:ak:=t38.cq Ec
theorem OE:al P t39:=OD.aW abL

def pP(d:List G):Option (List G) :=
 (aB (nO [.l (gi d 0).rows,.i (gi d 1).int,.i (((gi d 2).rows.length:Nat):Int)]) fun g1=>(bif ((aw (gi g1 2).int)&&(aj (gi g1 2).int (((gi d 2).rows.length:Nat):Int))) then some [.l (gi g1 0).rows,.i (gi g1 1).int,.i (gi ((gi d 2).rows.getD (((gi g1 2).int).toNat) []) 0).int] else none))
def Ed:aH:=⟨27,[.s (.ptr 0 0),.s (.list [.int .i64])],[.box [.list [.int .i64],.int .i64]],[.slot 0],[.s (.int .i64)],[.box [.list [.int .i64],.int .i64]],[.fix 0],[],pP⟩
theorem abM:aZ P t39 ay Tryz.f27 Ed:=fun d=>by kernel_rfl
theorem abN:aX P Ed:=a7 hm OE Tryz.func27 (aN _ _ _) abM
def t40:ak:=t39.cq Ed
theorem OF:al P t40:=OE.aW abN

def ly(d:List G):Option (List G) :=
 (aB (nO [.l (gi d 0).rows,.i (gi d 1).int,.i (((gi d 2).rows.length:Nat):Int)]) fun g1=>(bif ((aw (gi g1 2).int)&&(aj (gi g1 2).int (((gi d 2).rows.length:Nat):Int))) then some [.l (gi g1 0).rows,.i (gi g1 1).int,.s (gi ((gi d 2).rows.getD (((gi g1 2).int).toNat) []) 0).str] else none))
def Ee:aH:=⟨28,[.s (.ptr 0 0),.s (.list [.str])],[.box [.list [.int .i64],.int .i64]],[.slot 0],[.s (.str)],[.box [.list [.int .i64],.int .i64]],[.fix 0],[],ly⟩
theorem abO:aZ P t40 ay Tryz.f28 Ee:=fun d=>by kernel_rfl
theorem abP:aX P Ee:=a7 hm OF Tryz.func28 (aN _ _ _) abO
def t41:ak:=t40.cq Ee
theorem OG:al P t41:=OF.aW abP

def zn(d:List G):Option (List G) :=
 (aB (nO [.l (gi d 0).rows,.i (gi d 1).int,.i (gi d 2).int]) fun g1=>some [.l (gi g1 0).rows,.i (gi g1 1).int,.t ((gi g1 2).int==0)])
def Ef:aH:=⟨30,[.s (.ptr 0 0),.s (.int .i64)],[.box [.list [.int .i64],.int .i64]],[.slot 0],[.s (.bool)],[.box [.list [.int .i64],.int .i64]],[.fix 0],[],zn⟩
theorem abQ:aZ P t41 ay Tryz.f30 Ef:=fun d=>by kernel_rfl
theorem abR:aX P Ef:=a7 hm OG Tryz.func30 (aN _ _ _) abQ
def t42:ak:=t41.cq Ef
theorem OH:al P t42:=OG.aW abR

def vo(d:List G):Option (List G) :=
 (bif (aj (gi d 0).int 0) then some [.i (-1)] else (bif (aj 0 (gi d 0).int) then some [.i 1] else some [.i 0]))
def Eg:aH:=⟨55,[.s (.int .i64)],[],[],[.s (.int .i64)],[],[],[],vo⟩
theorem abS:aZ P t42 ay Tryz.f55 Eg:=fun d=>by kernel_rfl
theorem abT:aX P Eg:=a7 hm OH Tryz.func55 (aN _ _ _) abS
def t43:ak:=t42.bJ Eg
theorem OI:al P t43:=OH.aP abT

def rP(d:List G):Option (List G) :=
 (bif ((gi (gi d 0).row 0).int != (gi (gi d 1).row 0).int) then (bif (aq ((gi (gi d 0).row 0).int-(gi (gi d 1).row 0).int)) then (aB (vo [.i ((gi (gi d 0).row 0).int-(gi (gi d 1).row 0).int)]) fun g1=>some [.i (gi g1 0).int]) else none) else (bif (!((gi (gi d 0).row 3).str.toList==(gi (gi d 1).row 3).str.toList)) then (aB (ic [.s (gi (gi d 0).row 3).str,.s (gi (gi d 1).row 3).str]) fun g2=>some [.i (gi g2 0).int]) else (bif (!((gi (gi d 0).row 2).str.toList==(gi (gi d 1).row 2).str.toList)) then (aB (ic [.s (gi (gi d 0).row 2).str,.s (gi (gi d 1).row 2).str]) fun g3=>some [.i (gi g3 0).int]) else (bif (aq ((gi (gi d 0).row 1).int-(gi (gi d 1).row 1).int)) then (aB (vo [.i ((gi (gi d 0).row 1).int-(gi (gi d 1).row 1).int)]) fun g4=>some [.i (gi g4 0).int]) else none))))
def Eh:aH:=⟨32,[.s (.row ae),.s (.row ae)],[],[],[.s (.int .i64)],[],[],[],rP⟩
theorem abU:aZ P t43 ay Tryz.f32 Eh:=fun d=>by kernel_rfl
theorem abV:aX P Eh:=a7 hm OI Tryz.func32 (aN _ _ _) abU
def t44:ak:=t43.bJ Eh
theorem zo:al P t44:=OI.aP abV

def OJ(d:List G):Option (Option Nat × List G) :=
 (bif (aj (gi d 1).int (gi d 4).int) then (bif ((aw (gi d 4).int)&&(aj (gi d 4).int (((gi d 0).rows.length:Nat):Int))) then (bif (decide ((0+((gi d 4).int).toNat)<(gi d 0).rows.length)) then (bif (aq ((gi d 4).int-1)) then (bif ((aw ((gi d 4).int-1))&&(aj ((gi d 4).int-1) (((gi d 0).rows.length:Nat):Int))) then (bif (decide ((0+((gi d 4).int-1).toNat)<(gi d 0).rows.length)) then (aB (rP [.l [(aD ae ((gi d 0).rows.getD (0+((gi d 4).int).toNat) []))],.l [(aD ae ((gi d 0).rows.getD (0+((gi d 4).int-1).toNat) []))]]) fun g1=>(bif (aj (gi g1 0).int 0) then (bif (aq ((gi d 4).int-1)) then (bif (aq ((gi d 4).int-1)) then (bif ((aw ((gi d 4).int-1))&&(aj ((gi d 4).int-1) (((gi d 0).rows.length:Nat):Int))) then (bif (decide ((0+((gi d 4).int-1).toNat)<(gi d 0).rows.length)) then (bif ((aw (gi d 4).int)&&(aj (gi d 4).int (((gi d 0).rows.length:Nat):Int))) then (bif (decide ((0+((gi d 4).int).toNat)<(gi d 0).rows.length)) then (bif ((aw (gi d 4).int)&&(aj (gi d 4).int (((gi d 0).rows.length:Nat):Int))) then (bif (decide ((0+((gi d 4).int).toNat)<(gi d 0).rows.length)) then (bif ((aw ((gi d 4).int-1))&&(aj ((gi d 4).int-1) (((gi d 0).rows.length:Nat):Int))) then (bif (decide ((0+((gi d 4).int-1).toNat)<((gi d 0).rows.set (0+((gi d 4).int).toNat) (aV ae ((gi d 0).rows.getD (0+((gi d 4).int).toNat) []) 0 (aD ae ((gi d 0).rows.getD (0+((gi d 4).int-1).toNat) [])))).length)) then (bif (aq ((gi d 4).int-1)) then (bif ((ad (gi d 0).rows.length (((gi d 0).rows.set (0+((gi d 4).int).toNat) (aV ae ((gi d 0).rows.getD (0+((gi d 4).int).toNat) []) 0 (aD ae ((gi d 0).rows.getD (0+((gi d 4).int-1).toNat) [])))).set (0+((gi d 4).int-1).toNat) (aV ae (((gi d 0).rows.set (0+((gi d 4).int).toNat) (aV ae ((gi d 0).rows.getD (0+((gi d 4).int).toNat) []) 0 (aD ae ((gi d 0).rows.getD (0+((gi d 4).int-1).toNat) [])))).getD (0+((gi d 4).int-1).toNat) []) 0 (aD ae ((gi d 0).rows.getD (0+((gi d 4).int).toNat) [])))).length)&&true) then some (none,[.l (((gi d 0).rows.set (0+((gi d 4).int).toNat) (aV ae ((gi d 0).rows.getD (0+((gi d 4).int).toNat) []) 0 (aD ae ((gi d 0).rows.getD (0+((gi d 4).int-1).toNat) [])))).set (0+((gi d 4).int-1).toNat) (aV ae (((gi d 0).rows.set (0+((gi d 4).int).toNat) (aV ae ((gi d 0).rows.getD (0+((gi d 4).int).toNat) []) 0 (aD ae ((gi d 0).rows.getD (0+((gi d 4).int-1).toNat) [])))).getD (0+((gi d 4).int-1).toNat) []) 0 (aD ae ((gi d 0).rows.getD (0+((gi d 4).int).toNat) [])))),.i (gi d 1).int,.i (gi d 2).int,.i (gi d 3).int,.i ((gi d 4).int-1)]) else none) else none) else none) else none) else none) else none) else none) else none) else none) else none) else none) else none) else (bif ((ad (gi d 0).rows.length (gi d 0).rows.length)&&true) then some (some 0,[.l (gi d 0).rows,.i (gi d 1).int,.i (gi d 2).int,.i (gi d 3).int]) else none))) else none) else none) else none) else none) else none) else (bif ((ad (gi d 0).rows.length (gi d 0).rows.length)&&true) then some (some 0,[.l (gi d 0).rows,.i (gi d 1).int,.i (gi d 2).int,.i (gi d 3).int]) else none))
def OK:be:=⟨4,[],⟨53,[(0,.s (.vec 0 8)),(1,.s (.int .i64)),(2,.s (.int .i64)),(3,.s (.fn 32)),(8,.s (.int .i64)),(9,.s (.int .i64))],[.vec ae 0]⟩,[.fix 0],[⟨.exit 2,⟨53,[(0,.s (.vec 0 8)),(1,.s (.int .i64)),(2,.s (.int .i64)),(3,.s (.fn 32)),(8,.s (.int .i64))],[.vec ae 0]⟩,[.fix 0]⟩],OJ⟩
theorem abW:bY P t44 ay 1 (b_ Tryz.f95 4) OK:=fun d=>by kernel_rfl
def Ei:LT:=ay.add 1 OK
theorem abX:ax P 1 Ei (aQ Tryz.f95):=ax.a hm zo (aN _ _ _) abW
def OL(d:List G):Option (Option Nat × List G) :=
 (bif (aj (gi d 3).int (gi d 2).int) then (aM ((ad (gi d 0).rows.length (gi d 0).rows.length)&&true) (bD OJ [.l (gi d 0).rows,.i (gi d 1).int,.i (gi d 2).int,.i (gi d 3).int,.i (gi d 3).int]) fun g g2=>(bif (aq ((gi g2 3).int+1)) then (bif ((ad (gi g2 0).rows.length (gi g2 0).rows.length)&&true) then some (none,[.l (gi g2 0).rows,.i (gi g2 1).int,.i (gi g2 2).int,.i ((gi g2 3).int+1)]) else none) else none)) else some (some 0,[.l (gi d 0).rows]))
def OM:be:=⟨1,[],⟨53,[(0,.s (.vec 0 8)),(1,.s (.int .i64)),(2,.s (.int .i64)),(3,.s (.fn 32)),(8,.s (.int .i64))],[.vec ae 0]⟩,[.fix 0],[⟨.exit 0,⟨53,[],[.vec ae 0]⟩,[.fix 0]⟩],OL⟩
theorem abY:bY P t44 Ei 1 (b_ Tryz.f95 1) OM:=fun d=>by kernel_rfl
def ON:LT:=Ei.add 1 OM
theorem abZ:ax P 1 ON (aQ Tryz.f95):=ax.a hm zo abX abY
def vp(d:List G):Option (List G) :=
 (bif (aq ((gi d 1).int+1)) then (aM ((ad (gi d 0).rows.length (gi d 0).rows.length)&&true) (bD OL [.l (gi d 0).rows,.i (gi d 1).int,.i (gi d 2).int,.i ((gi d 1).int+1)]) fun g g3=>some [.l (gi g3 0).rows]) else none)
def Ej:aH:=⟨95,[.s (.vec 0 8),.s (.int .i64),.s (.int .i64),.s (.fn 32)],[.vec ae 0],[.slot 0],[],[.vec ae 0],[.fix 0],[],vp⟩
theorem ab0:aZ P t44 ON Tryz.f95 Ej:=fun d=>by kernel_rfl
theorem ab1:aX P Ej:=a7 hm zo Tryz.func95 abZ ab0
def t45:ak:=t44.cq Ej
theorem vq:al P t45:=zo.aW ab1

def OO(d:List G):Option (Option Nat × List G) :=
 (bif (bl (gi d 4).int (gi d 1).int) then (eE (((ad (gi d 0).rows.length (gi d 0).rows.length)&&true)&&(vp [.l (gi d 0).rows,.i (gi d 3).int,.i (gi d 4).int]).isSome) (vp [.l (gi d 0).rows,.i (gi d 3).int,.i (gi d 4).int]) fun g1=>(bif (aq ((gi d 4).int+(gi d 2).int)) then (bif ((ad (gi d 0).rows.length (gi g1 0).rows.length)&&true) then some (none,[.l (gi g1 0).rows,.i (gi d 1).int,.i (gi d 2).int,.i (gi d 4).int,.i ((gi d 4).int+(gi d 2).int)]) else none) else none)) else (bif ((ad (gi d 0).rows.length (gi d 0).rows.length)&&true) then some (some 0,[.l (gi d 0).rows,.i (gi d 1).int,.i (gi d 2).int,.i (gi d 3).int]) else none))
def OP:be:=⟨2,[],⟨63,[(0,.s (.vec 0 8)),(1,.s (.int .i64)),(2,.s (.fn 32)),(6,.s (.int .i64)),(7,.s (.int .i64)),(8,.s (.int .i64))],[.vec ae 0]⟩,[.fix 0],[⟨.exit 0,⟨63,[(0,.s (.vec 0 8)),(1,.s (.int .i64)),(2,.s (.fn 32)),(6,.s (.int .i64)),(7,.s (.int .i64))],[.vec ae 0]⟩,[.fix 0]⟩],OO⟩
theorem ab2:bY P t45 ay 1 (b_ Tryz.f54 2) OP:=fun d=>by kernel_rfl
def Ek:LT:=ay.add 1 OP
theorem ab3:ax P 1 Ek (aQ Tryz.f54):=ax.a hm vq (aN _ _ _) ab2
def OQ(d:List G):Option (Option Nat × List G) :=
 (bif (bl (gi d 4).int (gi d 1).int) then (bif (aq ((gi d 3).int+(gi d 2).int)) then none else none) else (bif ((ad (gi d 0).rows.length (gi d 0).rows.length)&&true) then some (some 0,[.l (gi d 0).rows,.i (gi d 1).int,.i (gi d 2).int,.i (gi d 3).int]) else none))
def OR:be:=⟨9,[],⟨63,[(0,.s (.vec 0 8)),(1,.s (.int .i64)),(2,.s (.fn 32)),(6,.s (.int .i64)),(7,.s (.int .i64)),(8,.s (.int .i64))],[.vec ae 0]⟩,[.fix 0],[⟨.exit 4,⟨63,[(0,.s (.vec 0 8)),(1,.s (.int .i64)),(2,.s (.fn 32)),(6,.s (.int .i64)),(7,.s (.int .i64))],[.vec ae 0]⟩,[.fix 0]⟩],OQ⟩
theorem ab4:bY P t45 Ek 1 (b_ Tryz.f54 9) OR:=fun d=>by kernel_rfl
def El:LT:=Ek.add 1 OR
theorem ab5:ax P 1 El (aQ Tryz.f54):=ax.a hm vq ab3 ab4
def OS(d:List G):Option (Option Nat × List G) :=
 (bif (aj (gi d 2).int (gi d 1).int) then (bif (aq (2*(gi d 2).int)) then (aM ((ad (gi d 0).rows.length (gi d 0).rows.length)&&true) (bD OQ [.l (gi d 0).rows,.i (gi d 1).int,.i (gi d 2).int,.i 0,.i (2*(gi d 2).int)]) fun g g4=>(bif (aq ((gi g4 3).int+(gi g4 2).int)) then (bif (aj ((gi g4 3).int+(gi g4 2).int) (gi g4 1).int) then none else (bif (aq ((gi g4 2).int*2)) then (bif ((ad (gi g4 0).rows.length (gi g4 0).rows.length)&&true) then some (none,[.l (gi g4 0).rows,.i (gi g4 1).int,.i ((gi g4 2).int*2)]) else none) else none)) else none)) else none) else some (some 0,[.l (gi d 0).rows]))
def OT:be:=⟨7,[],⟨63,[(0,.s (.vec 0 8)),(1,.s (.int .i64)),(2,.s (.fn 32)),(6,.s (.int .i64))],[.vec ae 0]⟩,[.fix 0],[⟨.exit 2,⟨63,[],[.vec ae 0]⟩,[.fix 0]⟩],OS⟩
theorem ab6:bY P t45 El 1 (b_ Tryz.f54 7) OT:=fun d=>by kernel_rfl
def OU:LT:=El.add 1 OT
theorem ab7:ax P 1 OU (aQ Tryz.f54):=ax.a hm vq ab5 ab6
def Em(d:List G):Option (List G) :=
 (aM ((ad (gi d 0).rows.length (gi d 0).rows.length)&&true) (bD OO [.l (gi d 0).rows,.i (gi d 1).int,.i 20,.i 0,.i 20]) fun g g2=>(eE (((ad (gi g2 0).rows.length (gi g2 0).rows.length)&&true)&&(vp [.l (gi g2 0).rows,.i (gi g2 3).int,.i (gi g2 1).int]).isSome) (vp [.l (gi g2 0).rows,.i (gi g2 3).int,.i (gi g2 1).int]) fun g3=>(aM ((ad (gi g2 0).rows.length (gi g3 0).rows.length)&&true) (bD OS [.l (gi g3 0).rows,.i (gi g2 1).int,.i (gi g2 2).int]) fun h g5=>some [.l (gi g5 0).rows])))
def En:aH:=⟨54,[.s (.vec 0 8),.s (.int .i64),.s (.fn 32)],[.vec ae 0],[.slot 0],[],[.vec ae 0],[.fix 0],[],Em⟩
theorem ab8:aZ P t45 OU Tryz.f54 En:=fun d=>by kernel_rfl
theorem ab9:aX P En:=a7 hm vq Tryz.func54 ab7 ab8
def t46:ak:=t45.cq En
theorem OV:al P t46:=vq.aW ab9

def Eo(d:List G):Option (List G) :=
 (eE (((ad (gi d 0).rows.length (gi d 0).rows.length)&&true)&&(Em [.l (gi d 0).rows,.i (((gi d 0).rows.length:Nat):Int)]).isSome) (Em [.l (gi d 0).rows,.i (((gi d 0).rows.length:Nat):Int)]) fun g1=>some [.l (gi g1 0).rows])
def Ep:aH:=⟨31,[.s (.vec 0 8),.s (.fn 32)],[.vec ae 0],[.slot 0],[],[.vec ae 0],[.fix 0],[],Eo⟩
theorem ab_:aZ P t46 ay Tryz.f31 Ep:=fun d=>by kernel_rfl
theorem ab':aX P Ep:=a7 hm OV Tryz.func31 (aN _ _ _) ab_
def t47:ak:=t46.cq Ep
theorem OW:al P t47:=OV.aW ab'

def vr(d:List G):Option (List G) :=
 (aB (rP [.l [(aD ae (gi d 0).row)],.l [(aD ae (gi d 1).row)]]) fun g1=>some [.t ((gi g1 0).int==0)])
def Er:aH:=⟨34,[.s (.row ae),.s (.row ae)],[],[],[.s (.bool)],[],[],[],vr⟩
theorem aca:aZ P t47 ay Tryz.f34 Er:=fun d=>by kernel_rfl
theorem acb:aX P Er:=a7 hm OW Tryz.func34 (aN _ _ _) aca
def t48:ak:=t47.bJ Er
theorem zp:al P t48:=OW.aP acb

def OX(d:List G):Option (Option Nat × List G) :=
 (bif (aj (gi d 4).int (((gi d 3).int.toNat:Nat):Int)) then (bif ((aw (gi d 4).int)&&(aj (gi d 4).int (((gi d 3).int.toNat:Nat):Int))) then (bif (decide (((gi d 2).int.toNat+((gi d 4).int).toNat)<(gi d 0).rows.length)) then (bif (aq ((gi d 4).int-1)) then (bif ((aw ((gi d 4).int-1))&&(aj ((gi d 4).int-1) (((gi d 3).int.toNat:Nat):Int))) then (bif (decide (((gi d 2).int.toNat+((gi d 4).int-1).toNat)<(gi d 0).rows.length)) then (aB (vr [.l [(aD ae ((gi d 0).rows.getD ((gi d 2).int.toNat+((gi d 4).int).toNat) []))],.l [(aD ae ((gi d 0).rows.getD ((gi d 2).int.toNat+((gi d 4).int-1).toNat) []))]]) fun g2=>(bif (!(gi g2 0).bool) then (bif ((aw (gi d 4).int)&&(aj (gi d 4).int (((gi d 3).int.toNat:Nat):Int))) then (bif (decide (((gi d 2).int.toNat+((gi d 4).int).toNat)<(gi d 0).rows.length)) then (bif ((aw (gi d 1).int)&&(aj (gi d 1).int (((gi d 0).rows.length:Nat):Int))) then (bif (decide ((0+((gi d 1).int).toNat)<(gi d 0).rows.length)) then (bif (aq ((gi d 1).int+1)) then (bif (aq ((gi d 4).int+1)) then (bif ((ad (gi d 0).rows.length ((gi d 0).rows.set (0+((gi d 1).int).toNat) (aV ae ((gi d 0).rows.getD (0+((gi d 1).int).toNat) []) 0 (aD ae ((gi d 0).rows.getD ((gi d 2).int.toNat+((gi d 4).int).toNat) [])))).length)&&true) then some (none,[.l ((gi d 0).rows.set (0+((gi d 1).int).toNat) (aV ae ((gi d 0).rows.getD (0+((gi d 1).int).toNat) []) 0 (aD ae ((gi d 0).rows.getD ((gi d 2).int.toNat+((gi d 4).int).toNat) [])))),.i ((gi d 1).int+1),.i (((gi d 2).int.toNat:Nat):Int),.i (((gi d 3).int.toNat:Nat):Int),.i ((gi d 4).int+1)]) else none) else none) else none) else none) else none) else none) else none) else (bif (aq ((gi d 4).int+1)) then (bif ((ad (gi d 0).rows.length (gi d 0).rows.length)&&true) then some (none,[.l (gi d 0).rows,.i (gi d 1).int,.i (((gi d 2).int.toNat:Nat):Int),.i (((gi d 3).int.toNat:Nat):Int),.i ((gi d 4).int+1)]) else none) else none))) else none) else none) else none) else none) else none) else (bif ((ad (gi d 0).rows.length (gi d 0).rows.length)&&true) then some (some 0,[.l (gi d 0).rows,.i (gi d 1).int]) else none))
def OY:be:=⟨9,[],⟨66,[(0,.s (.vec 0 8)),(1,.s (.fn 34)),(5,.s (.int .i64)),(6,.s (.sub 0 8)),(7,.s (.int .i64))],[.vec ae 0]⟩,[.fix 0],[⟨.exit 2,⟨66,[(0,.s (.vec 0 8)),(5,.s (.int .i64))],[.vec ae 0]⟩,[.fix 0]⟩],OX⟩
theorem acd:bY P t48 ay 1 (b_ Tryz.f33 9) OY:=fun d=>by kernel_rfl
def Es:LT:=ay.add 1 OY
theorem ace:ax P 1 Es (aQ Tryz.f33):=ax.a hm zp (aN _ _ _) acd
def OZ(d:List G):Option (Option Nat × List G) :=
 (bif (aj (gi d 1).int (((gi d 0).rows.length:Nat):Int)) then (bif ((aw (gi d 1).int)&&(aj (gi d 1).int (((gi d 0).rows.length:Nat):Int))) then (bif (decide ((0+((gi d 1).int).toNat)<(gi d 0).rows.length)) then (bif (aq ((gi d 1).int-1)) then (bif ((aw ((gi d 1).int-1))&&(aj ((gi d 1).int-1) (((gi d 0).rows.length:Nat):Int))) then (bif (decide ((0+((gi d 1).int-1).toNat)<(gi d 0).rows.length)) then (aB (vr [.l [(aD ae ((gi d 0).rows.getD (0+((gi d 1).int).toNat) []))],.l [(aD ae ((gi d 0).rows.getD (0+((gi d 1).int-1).toNat) []))]]) fun g1=>(bif (gi g1 0).bool then (bif ((aw (gi d 1).int)&&(bl (gi d 1).int (((gi d 0).rows.length:Nat):Int))) then (aM ((ad (gi d 0).rows.length (gi d 0).rows.length)&&true) (bD OX [.l (gi d 0).rows,.i (gi d 1).int,.i (((0+((gi d 1).int).toNat):Nat):Int),.i ((((gi d 0).rows.length-((gi d 1).int).toNat):Nat):Int),.i 1]) fun g g3=>(bif ((aw (gi g3 1).int)&&(bl (gi g3 1).int (((gi g3 0).rows.length:Nat):Int))) then (bif (Nat.ble ((0+((gi g3 1).int).toNat)+((gi g3 0).rows.length-((gi g3 1).int).toNat)) (gi g3 0).rows.length) then (bif ((aw (gi g3 1).int)&&(bl (gi g3 1).int (((gi g3 0).rows.length:Nat):Int))) then some (some 0,[.l ((gi g3 0).rows.take (0+((gi g3 1).int).toNat)++List.replicate ((gi g3 0).rows.length-((gi g3 1).int).toNat) [.i 0,.i 0,.s (⟨#[]⟩:ByteArray),.s (⟨#[]⟩:ByteArray),.i 0,.i 0,.s (⟨#[]⟩:ByteArray),.s (⟨#[]⟩:ByteArray)]++(gi g3 0).rows.drop ((0+((gi g3 1).int).toNat)+((gi g3 0).rows.length-((gi g3 1).int).toNat))),.i (((((gi g3 1).int).toNat-0):Nat):Int)]) else none) else none) else none)) else none) else (bif (aq ((gi d 1).int+1)) then (bif ((ad (gi d 0).rows.length (gi d 0).rows.length)&&true) then some (none,[.l (gi d 0).rows,.i ((gi d 1).int+1)]) else none) else none))) else none) else none) else none) else none) else none) else (bif ((ad (gi d 0).rows.length (gi d 0).rows.length)&&true) then some (some 1,[.l (gi d 0).rows]) else none))
def O0:be:=⟨4,[],⟨66,[(0,.s (.vec 0 8)),(1,.s (.fn 34)),(5,.s (.int .i64))],[.vec ae 0]⟩,[.fix 0],[⟨.ret,⟨66,[(4,.s (.pre 0 8))],[.vec ae 0]⟩,[.fix 0]⟩,⟨.exit 0,⟨66,[(0,.s (.vec 0 8))],[.vec ae 0]⟩,[.fix 0]⟩],OZ⟩
theorem acf:bY P t48 Es 1 (b_ Tryz.f33 4) O0:=fun d=>by kernel_rfl
def O1:LT:=Es.add 1 O0
theorem acg:ax P 1 O1 (aQ Tryz.f33):=ax.a hm zp ace acf
def Et(d:List G):Option (List G) :=
 (bif (aj (((gi d 0).rows.length:Nat):Int) 2) then some [.l (gi d 0).rows,.i (((gi d 0).rows.length:Nat):Int)] else (aM ((ad (gi d 0).rows.length (gi d 0).rows.length)&&true) (bD OZ [.l (gi d 0).rows,.i 1]) fun g g4=>(bif ad g 0 then some [.l (gi g4 0).rows,.i (((gi g4 1).int.toNat:Nat):Int)] else some [.l (gi g4 0).rows,.i (((gi g4 0).rows.length:Nat):Int)])))
def Eu:aH:=⟨33,[.s (.vec 0 8),.s (.fn 34)],[.vec ae 0],[.slot 0],[.s (.pre 0 8)],[.vec ae 0],[.fix 0],[],Et⟩
theorem ach:aZ P t48 O1 Tryz.f33 Eu:=fun d=>by kernel_rfl
theorem aci:aX P Eu:=a7 hm zp Tryz.func33 acg ach
def t49:ak:=t48.cq Eu
theorem nP:al P t49:=zp.aW aci

end
end Go.Proofs.iE
