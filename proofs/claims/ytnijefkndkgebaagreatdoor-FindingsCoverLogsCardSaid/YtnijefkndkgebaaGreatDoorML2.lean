/-
 What is proved here: functions of the program as functions on data. No condition.
-/
import Derived.Test.YtnijefkndkgebaaGreatDoorML1
set_option linter.all false
open Int renaming tdiv→mU,tmod→je
open Nat renaming beq→ad
namespace Go.Proofs.iE
open Go Go.AL Go.Proofs
noncomputable section
def mE(d:List G):Option (List G) :=
 (bif (ai (gi d 0).int (gi d 1).int) then some [.t true] else some [.t (ai (gi d 2).int (gi d 0).int)])
def Dn:aH:=⟨52,[.s (.int .i64),.s (.int .i64),.s (.int .i64)],[],[],[.s (.bool)],[],[],[],mE⟩
theorem ZJ:aX P t7 ay Tryz.f52 Dn:=fun d=>by kernel_rfl
theorem ZK:aV P Dn:=aU hm MV Tryz.func52 (aM _ _ _) ZJ
def t8:ak:=t7.bt Dn
theorem MW:al P t8:=MV.aP ZK

def Dp(d:List G):Option (List G) :=
 (aA (mE [.i (gi d 0).int,.i 0,.i 345686399999]) fun g1=>some [.t (!(gi g1 0).bool)])
def Dq:aH:=⟨65,[.s (.int .i64)],[],[],[.s (.bool)],[],[],[],Dp⟩
theorem ZL:aX P t8 ay Tryz.f65 Dq:=fun d=>by kernel_rfl
theorem ZM:aV P Dq:=aU hm MW Tryz.func65 (aM _ _ _) ZL
def t9:ak:=t8.bt Dq
theorem MX:al P t9:=MW.aP ZM

def Ds(d:List G):Option (List G) :=
 (aA (mE [.i (gi d 0).int,.i 1,.i 3]) fun g1=>some [.t (!(gi g1 0).bool)])
def Dt:aH:=⟨64,[.s (.int .i64)],[],[],[.s (.bool)],[],[],[],Ds⟩
theorem ZN:aX P t9 ay Tryz.f64 Dt:=fun d=>by kernel_rfl
theorem ZO:aV P Dt:=aU hm MX Tryz.func64 (aM _ _ _) ZN
def t10:ak:=t9.bt Dt
theorem MY:al P t10:=MX.aP ZO

def rQ(d:List G):Option (List G) :=
 (bif (!((gi d 0).str.toList==(⟨#[]⟩:ByteArray).toList)) then (bif (a_ (((gi d 0).str.size:Nat):Int) 40) then (bif (ai 0 (((gi d 0).str.size:Nat):Int)) then (aA (y8 [.s (⟨#[97,98,99,100,101,102,103,104,105,106,107,108,109,110,111,112,113,114,115,116,117,118,119,120,121,122]⟩:ByteArray),.i (((gi d 0).str.data.toList.getD 0 0).toNat:Int)]) fun g1=>(bif (a_ 0 (gi g1 0).int) then (aA (y9 [.s (gi d 0).str,.s (⟨#[97,98,99,100,101,102,103,104,105,106,107,108,109,110,111,112,113,114,115,116,117,118,119,120,121,122,48,49,50,51,52,53,54,55,56,57,45,95]⟩:ByteArray)]) fun g2=>some [.t ((gi g2 0).str.toList==(⟨#[]⟩:ByteArray).toList)]) else some [.t false])) else none) else some [.t false]) else some [.t false])
def Du:aH:=⟨63,[.s (.str)],[],[],[.s (.bool)],[],[],[],rQ⟩
theorem ZP:aX P t10 ay Tryz.f63 Du:=fun d=>by kernel_rfl
theorem ZQ:aV P Du:=aU hm MY Tryz.func63 (aM _ _ _) ZP
def t11:ak:=t10.bt Du
theorem MZ:al P t11:=MY.aP ZQ

def rR(d:List G):Option (List G) :=
 (aA (y_ [.s (gi d 0).str]) fun g1=>some [.t (gi g1 1).bool])
def Dv:aH:=⟨115,[.s (.str)],[],[],[.s (.bool)],[],[],[],rR⟩
theorem ZR:aX P t11 ay Tryz.f115 Dv:=fun d=>by kernel_rfl
theorem ZS:aV P Dv:=aU hm MZ Tryz.func115 (aM _ _ _) ZR
def t12:ak:=t11.bt Dv
theorem M0:al P t12:=MZ.aP ZS

def za(d:List G):Option (List G) :=
 (bif ((gi d 0).str.toList==(⟨#[]⟩:ByteArray).toList) then some [.t true] else (aA (rQ [.s (gi d 0).str]) fun g1=>some [.t (gi g1 0).bool]))
def Dw:aH:=⟨142,[.s (.str)],[],[],[.s (.bool)],[],[],[],za⟩
theorem ZT:aX P t12 ay Tryz.f142 Dw:=fun d=>by kernel_rfl
theorem ZU:aV P Dw:=aU hm M0 Tryz.func142 (aM _ _ _) ZT
def t13:ak:=t12.bt Dw
theorem M1:al P t13:=M0.aP ZU

def zb(d:List G):Option (List G) :=
 (aA (Dp [.i (gi (gi d 0).row 0).int]) fun g1=>(bif (!(gi g1 0).bool) then some [.i 1] else (aA (Ds [.i (gi (gi d 0).row 1).int]) fun g2=>(bif (!(gi g2 0).bool) then some [.i 4] else (aA (rQ [.s (gi (gi d 0).row 2).str]) fun g3=>(bif (!(gi g3 0).bool) then some [.i 5] else (aA (rR [.s (gi (gi d 0).row 3).str]) fun g4=>(bif (!(gi g4 0).bool) then some [.i 3] else (aA (mE [.i (gi (gi d 0).row 4).int,.i 0,.i 99999]) fun g5=>(bif (gi g5 0).bool then some [.i 1] else (aA (mE [.i (gi (gi d 0).row 5).int,.i 0,.i 99999]) fun g6=>(bif (gi g6 0).bool then some [.i 1] else (aA (za [.s (gi (gi d 0).row 6).str]) fun g7=>(bif (!(gi g7 0).bool) then some [.i 5] else (aA (za [.s (gi (gi d 0).row 7).str]) fun g8=>(bif (!(gi g8 0).bool) then some [.i 5] else some [.i 0]))))))))))))))))
def Dx:aH:=⟨104,[.s (.row ae)],[],[],[.s (.int .i64)],[],[],[],zb⟩
theorem ZV:aX P t13 ay Tryz.f104 Dx:=fun d=>by kernel_rfl
theorem ZW:aV P Dx:=aU hm M1 Tryz.func104 (aM _ _ _) ZV
def t14:ak:=t13.bt Dx
theorem M2:al P t14:=M1.aP ZW

def zd(d:List G):Option (List G) :=
 some [.t ((gi d 0).int != (gi d 0).int)]
def Dy:aH:=⟨125,[.s (.int .i64)],[],[],[.s (.bool)],[],[],[],zd⟩
theorem ZX:aX P t14 ay Tryz.f125 Dy:=fun d=>by kernel_rfl
theorem ZY:aV P Dy:=aU hm M2 Tryz.func125 (aM _ _ _) ZX
def t15:ak:=t14.bt Dy
theorem M3:al P t15:=M2.aP ZY

def rS(d:List G):Option (List G) :=
 (aA (zd [.i (gi d 0).int]) fun g1=>(aA (zd [.i (gi d 1).int]) fun g2=>(bif (gi g1 0).bool then (bif (gi g2 0).bool then some [.i 0] else some [.i (-1)]) else (bif (gi g2 0).bool then some [.i 1] else (bif (ai (gi d 0).int (gi d 1).int) then some [.i (-1)] else (bif (ai (gi d 1).int (gi d 0).int) then some [.i 1] else some [.i 0]))))))
def Dz:aH:=⟨81,[.s (.int .i64),.s (.int .i64)],[],[],[.s (.int .i64)],[],[],[],rS⟩
theorem ZZ:aX P t15 ay Tryz.f81 Dz:=fun d=>by kernel_rfl
theorem Z0:aV P Dz:=aU hm M3 Tryz.func81 (aM _ _ _) ZZ
def t16:ak:=t15.bt Dz
theorem DA:al P t16:=M3.aP Z0

def rT(d:List G):Option (Option Nat × List G) :=
 (bif (ai (gi d 3).int (gi d 2).int) then (bif ((aw (gi d 3).int)&&(ai (gi d 3).int (((gi d 1).rows.length:Nat):Int))) then (bif ((gi ((gi d 1).rows.getD (((gi d 3).int).toNat) []) 0).int != (gi d 0).int) then some (some 0,[.i (gi ((gi d 1).rows.getD (((gi d 3).int).toNat) []) 0).int]) else (bif (aq ((gi d 3).int+1)) then some (none,[.i (gi d 0).int,.l (gi d 1).rows,.i (gi d 2).int,.i ((gi d 3).int+1)]) else none)) else none) else some (some 1,[.i (gi d 0).int]))
def M4:be:=⟨3,[],⟨18,[(3,.s (.int .i64)),(6,.s (.list [.int .i64])),(7,.s (.int .i64)),(8,.s (.int .i64))],[]⟩,[],[⟨.ret,⟨18,[(2,.s (.int .i64))],[]⟩,[]⟩,⟨.exit 0,⟨18,[(3,.s (.int .i64))],[]⟩,[]⟩],rT⟩
theorem Z1:b_ P t16 ay 0 (cf Tryz.f80 3) M4:=fun d=>by kernel_rfl
def M5:LT:=ay.add 0 M4
theorem Z2:ax P 0 M5 (aQ Tryz.f80):=ax.a hm DA (aM _ _ _) Z1
def pI(d:List G):Option (List G) :=
 (aN true (bG rT [.i 0,.l (gi d 0).rows,.i (((gi d 0).rows.length:Nat):Int),.i 0]) fun g g1=>(bif ad g 0 then some [.i (gi g1 0).int] else some [.i (gi g1 0).int]))
def DB:aH:=⟨80,[.s (.list [.int .i64])],[],[],[.s (.int .i64)],[],[],[],pI⟩
theorem Z3:aX P t16 M5 Tryz.f80 DB:=fun d=>by kernel_rfl
theorem Z4:aV P DB:=aU hm DA Tryz.func80 Z2 Z3
def t17:ak:=t16.bt DB
theorem M6:al P t17:=DA.aP Z4

def pJ(d:List G):Option (List G) :=
 (aA (rS [.i (gi (gi d 0).row 0).int,.i (gi (gi d 1).row 0).int]) fun g1=>(aA (ij [.s (gi (gi d 0).row 3).str,.s (gi (gi d 1).row 3).str]) fun g2=>(aA (ij [.s (gi (gi d 0).row 2).str,.s (gi (gi d 1).row 2).str]) fun g3=>(aA (rS [.i (gi (gi d 0).row 1).int,.i (gi (gi d 1).row 1).int]) fun g4=>(aA (pI [.l [[.i (gi g1 0).int],[.i (gi g2 0).int],[.i (gi g3 0).int],[.i (gi g4 0).int]]]) fun g5=>some [.i (gi g5 0).int])))))
def DC:aH:=⟨43,[.s (.row ae),.s (.row ae)],[],[],[.s (.int .i64)],[],[],[],pJ⟩
theorem Z5:aX P t17 ay Tryz.f43 DC:=fun d=>by kernel_rfl
theorem Z6:aV P DC:=aU hm M6 Tryz.func43 (aM _ _ _) Z5
def t18:ak:=t17.bt DC
theorem DD:al P t18:=M6.aP Z6

def M7(d:List G):Option (Option Nat × List G) :=
 (bif (ai (gi d 3).int (gi d 2).int) then (bif ((aw (gi d 3).int)&&(ai (gi d 3).int (((gi d 1).rows.length:Nat):Int))) then (aA (zb [.l [(aF ae ((gi d 1).rows.getD (((gi d 3).int).toNat) []))]]) fun g1=>(bif ((gi g1 0).int != 0) then some (some 0,[.i (gi g1 0).int]) else (bif (ai 0 (gi d 3).int) then (bif (aq ((gi d 3).int-1)) then (bif ((aw ((gi d 3).int-1))&&(ai ((gi d 3).int-1) (((gi d 0).rows.length:Nat):Int))) then (aA (pJ [.l [(aF ae ((gi d 0).rows.getD (((gi d 3).int-1).toNat) []))],.l [(aF ae ((gi d 1).rows.getD (((gi d 3).int).toNat) []))]]) fun g2=>(bif (a_ 0 (gi g2 0).int) then some (some 0,[.i 7]) else (bif (aq ((gi d 3).int+1)) then some (none,[.l (gi d 0).rows,.l (gi d 1).rows,.i (gi d 2).int,.i ((gi d 3).int+1)]) else none))) else none) else none) else (bif (aq ((gi d 3).int+1)) then some (none,[.l (gi d 0).rows,.l (gi d 1).rows,.i (gi d 2).int,.i ((gi d 3).int+1)]) else none)))) else none) else some (some 1,[]))
def M8:be:=⟨4,[],⟨34,[(0,.s (.list ae)),(9,.s (.list ae)),(10,.s (.int .i64)),(11,.s (.int .i64))],[]⟩,[],[⟨.ret,⟨34,[(2,.s (.int .i64))],[]⟩,[]⟩,⟨.exit 0,⟨34,[],[]⟩,[]⟩],M7⟩
theorem Z7:b_ P t18 ay 0 (cf Tryz.f60 4) M8:=fun d=>by kernel_rfl
def M9:LT:=ay.add 0 M8
theorem Z8:ax P 0 M9 (aQ Tryz.f60):=ax.a hm DD (aM _ _ _) Z7
def ze(d:List G):Option (List G) :=
 (bif (ai 2000 (((gi d 0).rows.length:Nat):Int)) then some [.i 2] else (aN true (bG M7 [.l (gi d 0).rows,.l (gi d 0).rows,.i (((gi d 0).rows.length:Nat):Int),.i 0]) fun g g3=>(bif ad g 0 then some [.i (gi g3 0).int] else some [.i 0])))
def DE:aH:=⟨60,[.s (.list ae)],[],[],[.s (.int .i64)],[],[],[],ze⟩
theorem Z9:aX P t18 M9 Tryz.f60 DE:=fun d=>by kernel_rfl
theorem Z_:aV P DE:=aU hm DD Tryz.func60 Z8 Z9
def t19:ak:=t18.bt DE
theorem M_:al P t19:=DD.aP Z_

def Na(d:List G):Option (List G) :=
 (aA (y_ [.s (gi d 0).str]) fun g1=>some [.s (gi (gi g1 0).row 0).str])
def DF:aH:=⟨105,[.s (.str)],[],[],[.s (.str)],[],[],[],Na⟩
theorem Z':aX P t19 ay Tryz.f105 DF:=fun d=>by kernel_rfl
theorem aaa:aV P DF:=aU hm M_ Tryz.func105 (aM _ _ _) Z'
def t20:ak:=t19.bt DF
theorem DG:al P t20:=M_.aP aaa

def Nb(d:List G):Option (Option Nat × List G) :=
 (bif (ai (gi d 5).int (gi d 4).int) then (bif ((aw (gi d 5).int)&&(ai (gi d 5).int (((gi d 3).rows.length:Nat):Int))) then (aA (Na [.s (gi ((gi d 3).rows.getD (((gi d 5).int).toNat) []) 3).str]) fun g1=>(bif (gi (aB [.str,.str,.int .i64] (gi d 0).rows [.s (gi g1 0).str,.s (gi ((gi d 3).rows.getD (((gi d 5).int).toNat) []) 2).str,.i (gi ((gi d 3).rows.getD (((gi d 5).int).toNat) []) 1).int] [.t false]) 0).bool then (bif ((ad (gi d 2).rows.length (gi d 2).rows.length)&&(decide (((gi d 2).rows.length+1)≤1048576))) then (bif (aq ((gi d 5).int+1)) then (bif ((ad ((gi d 2).rows++([[.i (gi d 5).int]]:List (List G))).length ((gi d 2).rows++([[.i (gi d 5).int]]:List (List G))).length)&&true) then some (none,[.l (aL [.str,.str,.int .i64] (gi d 0).rows [.s (gi g1 0).str,.s (gi ((gi d 3).rows.getD (((gi d 5).int).toNat) []) 2).str,.i (gi ((gi d 3).rows.getD (((gi d 5).int).toNat) []) 1).int] [.t true] (gi d 1).int.toNat),.i (((bE [.str,.str,.int .i64] (gi d 0).rows [.s (gi g1 0).str,.s (gi ((gi d 3).rows.getD (((gi d 5).int).toNat) []) 2).str,.i (gi ((gi d 3).rows.getD (((gi d 5).int).toNat) []) 1).int] (gi d 1).int.toNat):Nat):Int),.l ((gi d 2).rows++([[.i (gi d 5).int]]:List (List G))),.l (gi d 3).rows,.i (gi d 4).int,.i ((gi d 5).int+1)]) else none) else none) else none) else (bif (aq ((gi d 5).int+1)) then (bif ((ad (gi d 2).rows.length (gi d 2).rows.length)&&true) then some (none,[.l (aL [.str,.str,.int .i64] (gi d 0).rows [.s (gi g1 0).str,.s (gi ((gi d 3).rows.getD (((gi d 5).int).toNat) []) 2).str,.i (gi ((gi d 3).rows.getD (((gi d 5).int).toNat) []) 1).int] [.t true] (gi d 1).int.toNat),.i (((bE [.str,.str,.int .i64] (gi d 0).rows [.s (gi g1 0).str,.s (gi ((gi d 3).rows.getD (((gi d 5).int).toNat) []) 2).str,.i (gi ((gi d 3).rows.getD (((gi d 5).int).toNat) []) 1).int] (gi d 1).int.toNat):Nat):Int),.l (gi d 2).rows,.l (gi d 3).rows,.i (gi d 4).int,.i ((gi d 5).int+1)]) else none) else none))) else none) else (bif ((ad (gi d 2).rows.length (gi d 2).rows.length)&&true) then some (some 0,[.l (gi d 2).rows]) else none))
def Nc:be:=⟨4,[(4,[.int .i64])],⟨35,[(3,.s (.map 0)),(4,.s (.vec 1 1)),(9,.s (.list ae)),(10,.s (.int .i64)),(11,.s (.int .i64))],[.map (.agg [.str,.str,.int .i64]) (.one (.bool)),.vec [.int .i64] 0]⟩,[.slot 3,.slot 4],[⟨.exit 0,⟨35,[(4,.s (.vec 0 1))],[.vec [.int .i64] 0]⟩,[.slot 4]⟩],Nb⟩
theorem aab:b_ P t20 (ay.iD [(6,[.hole [.str,.str,.int .i64]])]) 0 (cf Tryz.f61 4) Nc:=fun d=>by kernel_rfl
def Nd:LT:=(ay.iD [(6,[.hole [.str,.str,.int .i64]])]).add 0 Nc
theorem aac:ax P 0 Nd (aQ Tryz.f61):=ax.a hm DG (nN _) aab
def Nf(d:List G):Option (List G) :=
 (aN true (bG Nb [.l [],.i 0,.l [],.l (gi d 0).rows,.i (((gi d 0).rows.length:Nat):Int),.i 0]) fun g g2=>(bif ((ad (gi g2 0).rows.length (gi g2 0).rows.length)&&true) then some [.l (gi g2 0).rows] else none))
def DH:aH:=⟨61,[.s (.list ae)],[],[],[.s (.list [.int .i64])],[],[],[],Nf⟩
theorem aad:aX P t20 Nd Tryz.f61 DH:=fun d=>by kernel_rfl
theorem aae:aV P DH:=aU hm DG Tryz.func61 aac aad
def t21:ak:=t20.bt DH
theorem Ng:al P t21:=DG.aP aae

def aaf(d:List G):Option (List G) :=
 (aA (ze [.l (gi d 0).rows]) fun g1=>(bif ((gi g1 0).int != 0) then some [.l [],.i (gi g1 0).int] else (aA (Nf [.l (gi d 0).rows]) fun g2=>some [.l (gi g2 0).rows,.i 0])))
def DI:aH:=⟨37,[.s (.list ae)],[],[],[.s (.list [.int .i64]),.s (.int .i64)],[],[],[],aaf⟩
theorem aag:aX P t21 ay Tryz.f37 DI:=fun d=>by kernel_rfl
theorem aah:aV P DI:=aU hm Ng Tryz.func37 (aM _ _ _) aag
def t22:ak:=t21.bt DI
theorem DJ:al P t22:=Ng.aP aah

def zf(d:List G):Option (Option Nat × List G) :=
 (bif (ai (gi d 2).int (gi d 1).int) then (bif (aq (mU (gi d 2).int 2)) then (bif ((mU (gi d 2).int 2)==1) then (bif ((aw (gi d 2).int)&&(ai (gi d 2).int (((gi d 0).str.size:Nat):Int))) then (bif (ai (((gi d 0).str.data.toList.getD (((gi d 2).int).toNat) 0).toNat:Int) 48) then some (some 0,[.t false]) else (bif ((aw (gi d 2).int)&&(ai (gi d 2).int (((gi d 0).str.size:Nat):Int))) then (bif (ai 57 (((gi d 0).str.data.toList.getD (((gi d 2).int).toNat) 0).toNat:Int)) then some (some 0,[.t false]) else (bif (aq ((gi d 2).int+1)) then some (none,[.s (gi d 0).str,.i (gi d 1).int,.i ((gi d 2).int+1)]) else none)) else none)) else none) else (bif ((mU (gi d 2).int 2)==2) then (bif ((aw (gi d 2).int)&&(ai (gi d 2).int (((gi d 0).str.size:Nat):Int))) then (bif (ai (((gi d 0).str.data.toList.getD (((gi d 2).int).toNat) 0).toNat:Int) 97) then some (some 0,[.t false]) else (bif ((aw (gi d 2).int)&&(ai (gi d 2).int (((gi d 0).str.size:Nat):Int))) then (bif (ai 120 (((gi d 0).str.data.toList.getD (((gi d 2).int).toNat) 0).toNat:Int)) then some (some 0,[.t false]) else (bif (aq ((gi d 2).int+1)) then some (none,[.s (gi d 0).str,.i (gi d 1).int,.i ((gi d 2).int+1)]) else none)) else none)) else none) else (bif ((aw (gi d 2).int)&&(ai (gi d 2).int (((gi d 0).str.size:Nat):Int))) then (bif (ai (((gi d 0).str.data.toList.getD (((gi d 2).int).toNat) 0).toNat:Int) 97) then some (some 0,[.t false]) else (bif ((aw (gi d 2).int)&&(ai (gi d 2).int (((gi d 0).str.size:Nat):Int))) then (bif (ai 114 (((gi d 0).str.data.toList.getD (((gi d 2).int).toNat) 0).toNat:Int)) then some (some 0,[.t false]) else (bif (aq ((gi d 2).int+1)) then some (none,[.s (gi d 0).str,.i (gi d 1).int,.i ((gi d 2).int+1)]) else none)) else none)) else none))) else none) else some (some 1,[]))
def Nh:be:=⟨4,[],⟨43,[(0,.s (.str)),(20,.s (.int .i64)),(21,.s (.int .i64))],[]⟩,[],[⟨.ret,⟨43,[(2,.s (.bool))],[]⟩,[]⟩,⟨.exit 0,⟨43,[],[]⟩,[]⟩],zf⟩
theorem aai:b_ P t22 ay 0 (cf Tryz.f154 4) Nh:=fun d=>by kernel_rfl
def Ni:LT:=ay.add 0 Nh
theorem aaj:ax P 0 Ni (aQ Tryz.f154):=ax.a hm DJ (aM _ _ _) aai
def Nj(d:List G):Option (List G) :=
 (bif ((((gi d 0).str.size:Nat):Int) != 2) then (bif ((((gi d 0).str.size:Nat):Int) != 4) then (bif ((((gi d 0).str.size:Nat):Int) != 6) then some [.t false] else (aN true (bG zf [.s (gi d 0).str,.i (((gi d 0).str.size:Nat):Int),.i 0]) fun g g1=>(bif ad g 0 then some [.t (gi g1 0).bool] else some [.t true]))) else (aN true (bG zf [.s (gi d 0).str,.i (((gi d 0).str.size:Nat):Int),.i 0]) fun h g2=>(bif ad h 0 then some [.t (gi g2 0).bool] else some [.t true]))) else (aN true (bG zf [.s (gi d 0).str,.i (((gi d 0).str.size:Nat):Int),.i 0]) fun k g3=>(bif ad k 0 then some [.t (gi g3 0).bool] else some [.t true])))
def DK:aH:=⟨154,[.s (.str)],[],[],[.s (.bool)],[],[],[],Nj⟩
theorem aak:aX P t22 Ni Tryz.f154 DK:=fun d=>by kernel_rfl
theorem aal:aV P DK:=aU hm DJ Tryz.func154 aaj aak
def t23:ak:=t22.bt DK
theorem Nk:al P t23:=DJ.aP aal

def Nl(d:List G):Option (List G) :=
 (bif ((((gi d 0).str.size:Nat):Int)==6) then (aA (Nj [.s (gi d 0).str]) fun g1=>some [.t (gi g1 0).bool]) else some [.t false])
def DL:aH:=⟨116,[.s (.str)],[],[],[.s (.bool)],[],[],[],Nl⟩
theorem aam:aX P t23 ay Tryz.f116 DL:=fun d=>by kernel_rfl
theorem aan:aV P DL:=aU hm Nk Tryz.func116 (aM _ _ _) aam
def t24:ak:=t23.bt DL
theorem DM:al P t24:=Nk.aP aan

def Nn(d:List G):Option (Option Nat × List G) :=
 (bif (ai (gi d 3).int (gi d 2).int) then (bif ((aw (gi d 3).int)&&(ai (gi d 3).int (((gi d 1).rows.length:Nat):Int))) then (aA (rR [.s (gi ((gi d 1).rows.getD (((gi d 3).int).toNat) []) 0).str]) fun g1=>(bif (!(gi g1 0).bool) then some (some 0,[.i 3]) else (aA (rQ [.s (gi ((gi d 1).rows.getD (((gi d 3).int).toNat) []) 1).str]) fun g2=>(bif (!(gi g2 0).bool) then some (some 0,[.i 5]) else (aA (mE [.i (gi ((gi d 1).rows.getD (((gi d 3).int).toNat) []) 2).int,.i 0,.i 1000000000000]) fun g3=>(bif (gi g3 0).bool then some (some 0,[.i 1]) else (bif (!((gi ((gi d 1).rows.getD (((gi d 3).int).toNat) []) 3).str.toList==(⟨#[]⟩:ByteArray).toList)) then (aA (Nl [.s (gi ((gi d 1).rows.getD (((gi d 3).int).toNat) []) 3).str]) fun g4=>(bif (!(gi g4 0).bool) then some (some 0,[.i 3]) else (bif (ai 0 (gi d 3).int) then (bif (aq ((gi d 3).int-1)) then (bif ((aw ((gi d 3).int-1))&&(ai ((gi d 3).int-1) (((gi d 0).rows.length:Nat):Int))) then (aA (ij [.s (gi ((gi d 0).rows.getD (((gi d 3).int-1).toNat) []) 1).str,.s (gi ((gi d 1).rows.getD (((gi d 3).int).toNat) []) 1).str]) fun g5=>(bif (aq ((gi d 3).int-1)) then (bif ((aw ((gi d 3).int-1))&&(ai ((gi d 3).int-1) (((gi d 0).rows.length:Nat):Int))) then (aA (ij [.s (gi ((gi d 0).rows.getD (((gi d 3).int-1).toNat) []) 0).str,.s (gi ((gi d 1).rows.getD (((gi d 3).int).toNat) []) 0).str]) fun g6=>(aA (pI [.l [[.i (gi g5 0).int],[.i (gi g6 0).int]]]) fun g7=>(bif (a_ 0 (gi g7 0).int) then some (some 0,[.i 7]) else (bif (aq ((gi d 3).int+1)) then some (none,[.l (gi d 0).rows,.l (gi d 1).rows,.i (gi d 2).int,.i ((gi d 3).int+1)]) else none)))) else none) else none)) else none) else none) else (bif (aq ((gi d 3).int+1)) then some (none,[.l (gi d 0).rows,.l (gi d 1).rows,.i (gi d 2).int,.i ((gi d 3).int+1)]) else none)))) else (bif (ai 0 (gi d 3).int) then (bif (aq ((gi d 3).int-1)) then (bif ((aw ((gi d 3).int-1))&&(ai ((gi d 3).int-1) (((gi d 0).rows.length:Nat):Int))) then (aA (ij [.s (gi ((gi d 0).rows.getD (((gi d 3).int-1).toNat) []) 1).str,.s (gi ((gi d 1).rows.getD (((gi d 3).int).toNat) []) 1).str]) fun g8=>(bif (aq ((gi d 3).int-1)) then (bif ((aw ((gi d 3).int-1))&&(ai ((gi d 3).int-1) (((gi d 0).rows.length:Nat):Int))) then (aA (ij [.s (gi ((gi d 0).rows.getD (((gi d 3).int-1).toNat) []) 0).str,.s (gi ((gi d 1).rows.getD (((gi d 3).int).toNat) []) 0).str]) fun g9=>(aA (pI [.l [[.i (gi g8 0).int],[.i (gi g9 0).int]]]) fun g10=>(bif (a_ 0 (gi g10 0).int) then some (some 0,[.i 7]) else (bif (aq ((gi d 3).int+1)) then some (none,[.l (gi d 0).rows,.l (gi d 1).rows,.i (gi d 2).int,.i ((gi d 3).int+1)]) else none)))) else none) else none)) else none) else none) else (bif (aq ((gi d 3).int+1)) then some (none,[.l (gi d 0).rows,.l (gi d 1).rows,.i (gi d 2).int,.i ((gi d 3).int+1)]) else none))))))))) else none) else some (some 1,[]))
def No:be:=⟨4,[],⟨66,[(0,.s (.list uZ)),(8,.s (.list uZ)),(9,.s (.int .i64)),(10,.s (.int .i64))],[]⟩,[],[⟨.ret,⟨66,[(2,.s (.int .i64))],[]⟩,[]⟩,⟨.exit 0,⟨66,[],[]⟩,[]⟩],Nn⟩
theorem aao:b_ P t24 ay 0 (cf Tryz.f70 4) No:=fun d=>by kernel_rfl
def Np:LT:=ay.add 0 No
theorem aap:ax P 0 Np (aQ Tryz.f70):=ax.a hm DM (aM _ _ _) aao
def Nq(d:List G):Option (List G) :=
 (bif (ai 500 (((gi d 0).rows.length:Nat):Int)) then some [.i 2] else (aN true (bG Nn [.l (gi d 0).rows,.l (gi d 0).rows,.i (((gi d 0).rows.length:Nat):Int),.i 0]) fun g g11=>(bif ad g 0 then some [.i (gi g11 0).int] else some [.i 0])))
def DN:aH:=⟨70,[.s (.list uZ)],[],[],[.s (.int .i64)],[],[],[],Nq⟩
theorem aaq:aX P t24 Np Tryz.f70 DN:=fun d=>by kernel_rfl
theorem aar:aV P DN:=aU hm DM Tryz.func70 aap aaq
def t25:ak:=t24.bt DN
theorem DO:al P t25:=DM.aP aar

def mF(d:List G):Option (Option Nat × List G) :=
 (bif ((aw (IntKind.u8.wrap ((gi d 0).int)))&&(ai (IntKind.u8.wrap ((gi d 0).int)) 256)) then (bif (aq (((⟨#[0,1,2,2,3,3,3,3,4,4,4,4,4,4,4,4,5,5,5,5,5,5,5,5,5,5,5,5,5,5,5,5,6,6,6,6,6,6,6,6,6,6,6,6,6,6,6,6,6,6,6,6,6,6,6,6,6,6,6,6,6,6,6,6,7,7,7,7,7,7,7,7,7,7,7,7,7,7,7,7,7,7,7,7,7,7,7,7,7,7,7,7,7,7,7,7,7,7,7,7,7,7,7,7,7,7,7,7,7,7,7,7,7,7,7,7,7,7,7,7,7,7,7,7,7,7,7,7,8,8,8,8,8,8,8,8,8,8,8,8,8,8,8,8,8,8,8,8,8,8,8,8,8,8,8,8,8,8,8,8,8,8,8,8,8,8,8,8,8,8,8,8,8,8,8,8,8,8,8,8,8,8,8,8,8,8,8,8,8,8,8,8,8,8,8,8,8,8,8,8,8,8,8,8,8,8,8,8,8,8,8,8,8,8,8,8,8,8,8,8,8,8,8,8,8,8,8,8,8,8,8,8,8,8,8,8,8,8,8,8,8,8,8,8,8,8,8,8,8,8,8,8,8,8,8,8]⟩:ByteArray).data.toList.getD ((IntKind.u8.wrap ((gi d 0).int)).toNat) 0).toNat:Int)) then (bif (aq ((gi d 1).int+(((⟨#[0,1,2,2,3,3,3,3,4,4,4,4,4,4,4,4,5,5,5,5,5,5,5,5,5,5,5,5,5,5,5,5,6,6,6,6,6,6,6,6,6,6,6,6,6,6,6,6,6,6,6,6,6,6,6,6,6,6,6,6,6,6,6,6,7,7,7,7,7,7,7,7,7,7,7,7,7,7,7,7,7,7,7,7,7,7,7,7,7,7,7,7,7,7,7,7,7,7,7,7,7,7,7,7,7,7,7,7,7,7,7,7,7,7,7,7,7,7,7,7,7,7,7,7,7,7,7,7,8,8,8,8,8,8,8,8,8,8,8,8,8,8,8,8,8,8,8,8,8,8,8,8,8,8,8,8,8,8,8,8,8,8,8,8,8,8,8,8,8,8,8,8,8,8,8,8,8,8,8,8,8,8,8,8,8,8,8,8,8,8,8,8,8,8,8,8,8,8,8,8,8,8,8,8,8,8,8,8,8,8,8,8,8,8,8,8,8,8,8,8,8,8,8,8,8,8,8,8,8,8,8,8,8,8,8,8,8,8,8,8,8,8,8,8,8,8,8,8,8,8,8,8,8,8,8,8]⟩:ByteArray).data.toList.getD ((IntKind.u8.wrap ((gi d 0).int)).toNat) 0).toNat:Int))) then some (some 0,[.i ((gi d 1).int+(((⟨#[0,1,2,2,3,3,3,3,4,4,4,4,4,4,4,4,5,5,5,5,5,5,5,5,5,5,5,5,5,5,5,5,6,6,6,6,6,6,6,6,6,6,6,6,6,6,6,6,6,6,6,6,6,6,6,6,6,6,6,6,6,6,6,6,7,7,7,7,7,7,7,7,7,7,7,7,7,7,7,7,7,7,7,7,7,7,7,7,7,7,7,7,7,7,7,7,7,7,7,7,7,7,7,7,7,7,7,7,7,7,7,7,7,7,7,7,7,7,7,7,7,7,7,7,7,7,7,7,8,8,8,8,8,8,8,8,8,8,8,8,8,8,8,8,8,8,8,8,8,8,8,8,8,8,8,8,8,8,8,8,8,8,8,8,8,8,8,8,8,8,8,8,8,8,8,8,8,8,8,8,8,8,8,8,8,8,8,8,8,8,8,8,8,8,8,8,8,8,8,8,8,8,8,8,8,8,8,8,8,8,8,8,8,8,8,8,8,8,8,8,8,8,8,8,8,8,8,8,8,8,8,8,8,8,8,8,8,8,8,8,8,8,8,8,8,8,8,8,8,8,8,8,8,8,8,8]⟩:ByteArray).data.toList.getD ((IntKind.u8.wrap ((gi d 0).int)).toNat) 0).toNat:Int))]) else none) else none) else none)
def Nr:be:=⟨10,[],⟨25,[(0,.s (.int .u64)),(2,.s (.int .i64))],[]⟩,[],[⟨.ret,⟨25,[(2,.s (.int .i64))],[]⟩,[]⟩],mF⟩
theorem aas:fo P t25 ay 0 (cutAt Tryz.f172 10) Nr:=fun d=>by kernel_rfl
def Ns:LT:=ay.dZ 0 Nr
theorem aat:ax P 0 Ns (aQ Tryz.f172):=ax.aC hm DO (aM _ _ _) aas
def Nt(d:List G):Option (List G) :=
 (bif (a_ 4294967296 (gi d 0).int) then (bif (a_ 65536 (dY .u64 (gi d 0).int 32)) then (bif (a_ 256 (dY .u64 (dY .u64 (gi d 0).int 32) 16)) then (aN true (bW (mF [.i (dY .u64 (dY .u64 (dY .u64 (gi d 0).int 32) 16) 8),.i 56])) fun g g1=>some [.i (gi g1 0).int]) else (aN true (bW (mF [.i (dY .u64 (dY .u64 (gi d 0).int 32) 16),.i 48])) fun h g2=>some [.i (gi g2 0).int])) else (bif (a_ 256 (dY .u64 (gi d 0).int 32)) then (aN true (bW (mF [.i (dY .u64 (dY .u64 (gi d 0).int 32) 8),.i 40])) fun k g3=>some [.i (gi g3 0).int]) else (aN true (bW (mF [.i (dY .u64 (gi d 0).int 32),.i 32])) fun q g4=>some [.i (gi g4 0).int]))) else (bif (a_ 65536 (gi d 0).int) then (bif (a_ 256 (dY .u64 (gi d 0).int 16)) then (aN true (bW (mF [.i (dY .u64 (dY .u64 (gi d 0).int 16) 8),.i 24])) fun u g5=>some [.i (gi g5 0).int]) else (aN true (bW (mF [.i (dY .u64 (gi d 0).int 16),.i 16])) fun v g6=>some [.i (gi g6 0).int])) else (bif (a_ 256 (gi d 0).int) then (aN true (bW (mF [.i (dY .u64 (gi d 0).int 8),.i 8])) fun y g7=>some [.i (gi g7 0).int]) else (aN true (bW (mF [.i (gi d 0).int,.i 0])) fun B g8=>some [.i (gi g8 0).int]))))
def DP:aH:=⟨172,[.s (.int .u64)],[],[],[.s (.int .i64)],[],[],[],Nt⟩
theorem aau:aX P t25 Ns Tryz.f172 DP:=fun d=>by kernel_rfl
theorem aav:aV P DP:=aU hm DO Tryz.func172 aat aau
def t26:ak:=t25.bt DP
theorem Nu:al P t26:=DO.aP aav

def Nv(d:List G):Option (List G) :=
 (aA (Nt [.i (gi d 0).int]) fun g1=>some [.i (gi g1 0).int])
def DQ:aH:=⟨131,[.s (.int .u64)],[],[],[.s (.int .i64)],[],[],[],Nv⟩
theorem aaw:aX P t26 ay Tryz.f131 DQ:=fun d=>by kernel_rfl
theorem aax:aV P DQ:=aU hm Nu Tryz.func131 (aM _ _ _) aaw
def t27:ak:=t26.bt DQ
theorem Nw:al P t27:=Nu.aP aax

def Nx(d:List G):Option (List G) :=
 (aA (rS [.i (gi (gi d 1).row 1).int,.i (gi (gi d 0).row 1).int]) fun g1=>(aA (ij [.s (gi (gi d 0).row 2).str,.s (gi (gi d 1).row 2).str]) fun g2=>(aA (pI [.l [[.i (gi g1 0).int],[.i (gi g2 0).int]]]) fun g3=>some [.i (gi g3 0).int])))
def DR:aH:=⟨118,[.s (.row cy),.s (.row cy)],[],[],[.s (.int .i64)],[],[],[],Nx⟩
theorem aay:aX P t27 ay Tryz.f118 DR:=fun d=>by kernel_rfl
theorem aaz:aV P DR:=aU hm Nw Tryz.func118 (aM _ _ _) aay
def t28:ak:=t27.bt DR
theorem zg:al P t28:=Nw.aP aaz

def Ny(d:List G):Option (Option Nat × List G) :=
 (bif (ai (gi d 1).int (gi d 4).int) then (bif ((aw (gi d 4).int)&&(ai (gi d 4).int (((gi d 0).rows.length:Nat):Int))) then (bif (decide ((0+((gi d 4).int).toNat)<(gi d 0).rows.length)) then (bif (aq ((gi d 4).int-1)) then (bif ((aw ((gi d 4).int-1))&&(ai ((gi d 4).int-1) (((gi d 0).rows.length:Nat):Int))) then (bif (decide ((0+((gi d 4).int-1).toNat)<(gi d 0).rows.length)) then (aA (Nx [.l [(aF cy ((gi d 0).rows.getD (0+((gi d 4).int).toNat) []))],.l [(aF cy ((gi d 0).rows.getD (0+((gi d 4).int-1).toNat) []))]]) fun g1=>(bif (ai (gi g1 0).int 0) then (bif (aq ((gi d 4).int-1)) then (bif (aq ((gi d 4).int-1)) then (bif ((aw ((gi d 4).int-1))&&(ai ((gi d 4).int-1) (((gi d 0).rows.length:Nat):Int))) then (bif (decide ((0+((gi d 4).int-1).toNat)<(gi d 0).rows.length)) then (bif ((aw (gi d 4).int)&&(ai (gi d 4).int (((gi d 0).rows.length:Nat):Int))) then (bif (decide ((0+((gi d 4).int).toNat)<(gi d 0).rows.length)) then (bif ((aw (gi d 4).int)&&(ai (gi d 4).int (((gi d 0).rows.length:Nat):Int))) then (bif (decide ((0+((gi d 4).int).toNat)<(gi d 0).rows.length)) then (bif ((aw ((gi d 4).int-1))&&(ai ((gi d 4).int-1) (((gi d 0).rows.length:Nat):Int))) then (bif (decide ((0+((gi d 4).int-1).toNat)<((gi d 0).rows.set (0+((gi d 4).int).toNat) (a7 cy ((gi d 0).rows.getD (0+((gi d 4).int).toNat) []) 0 (aF cy ((gi d 0).rows.getD (0+((gi d 4).int-1).toNat) [])))).length)) then (bif (aq ((gi d 4).int-1)) then (bif ((ad (gi d 0).rows.length (((gi d 0).rows.set (0+((gi d 4).int).toNat) (a7 cy ((gi d 0).rows.getD (0+((gi d 4).int).toNat) []) 0 (aF cy ((gi d 0).rows.getD (0+((gi d 4).int-1).toNat) [])))).set (0+((gi d 4).int-1).toNat) (a7 cy (((gi d 0).rows.set (0+((gi d 4).int).toNat) (a7 cy ((gi d 0).rows.getD (0+((gi d 4).int).toNat) []) 0 (aF cy ((gi d 0).rows.getD (0+((gi d 4).int-1).toNat) [])))).getD (0+((gi d 4).int-1).toNat) []) 0 (aF cy ((gi d 0).rows.getD (0+((gi d 4).int).toNat) [])))).length)&&true) then some (none,[.l (((gi d 0).rows.set (0+((gi d 4).int).toNat) (a7 cy ((gi d 0).rows.getD (0+((gi d 4).int).toNat) []) 0 (aF cy ((gi d 0).rows.getD (0+((gi d 4).int-1).toNat) [])))).set (0+((gi d 4).int-1).toNat) (a7 cy (((gi d 0).rows.set (0+((gi d 4).int).toNat) (a7 cy ((gi d 0).rows.getD (0+((gi d 4).int).toNat) []) 0 (aF cy ((gi d 0).rows.getD (0+((gi d 4).int-1).toNat) [])))).getD (0+((gi d 4).int-1).toNat) []) 0 (aF cy ((gi d 0).rows.getD (0+((gi d 4).int).toNat) [])))),.i (gi d 1).int,.i (gi d 2).int,.i (gi d 3).int,.i ((gi d 4).int-1)]) else none) else none) else none) else none) else none) else none) else none) else none) else none) else none) else none) else none) else (bif ((ad (gi d 0).rows.length (gi d 0).rows.length)&&true) then some (some 0,[.l (gi d 0).rows,.i (gi d 1).int,.i (gi d 2).int,.i (gi d 3).int]) else none))) else none) else none) else none) else none) else none) else (bif ((ad (gi d 0).rows.length (gi d 0).rows.length)&&true) then some (some 0,[.l (gi d 0).rows,.i (gi d 1).int,.i (gi d 2).int,.i (gi d 3).int]) else none))
def Nz:be:=⟨4,[],⟨53,[(0,.s (.vec 0 3)),(1,.s (.int .i64)),(2,.s (.int .i64)),(3,.s (.fn 118)),(8,.s (.int .i64)),(9,.s (.int .i64))],[.vec cy 0]⟩,[.fix 0],[⟨.exit 2,⟨53,[(0,.s (.vec 0 3)),(1,.s (.int .i64)),(2,.s (.int .i64)),(3,.s (.fn 118)),(8,.s (.int .i64))],[.vec cy 0]⟩,[.fix 0]⟩],Ny⟩
theorem aaA:b_ P t28 ay 1 (cf Tryz.f190 4) Nz:=fun d=>by kernel_rfl
def DS:LT:=ay.add 1 Nz
theorem aaB:ax P 1 DS (aQ Tryz.f190):=ax.a hm zg (aM _ _ _) aaA
def NA(d:List G):Option (Option Nat × List G) :=
 (bif (ai (gi d 3).int (gi d 2).int) then (aN ((ad (gi d 0).rows.length (gi d 0).rows.length)&&true) (bG Ny [.l (gi d 0).rows,.i (gi d 1).int,.i (gi d 2).int,.i (gi d 3).int,.i (gi d 3).int]) fun g g2=>(bif (aq ((gi g2 3).int+1)) then (bif ((ad (gi g2 0).rows.length (gi g2 0).rows.length)&&true) then some (none,[.l (gi g2 0).rows,.i (gi g2 1).int,.i (gi g2 2).int,.i ((gi g2 3).int+1)]) else none) else none)) else some (some 0,[.l (gi d 0).rows]))
def NB:be:=⟨1,[],⟨53,[(0,.s (.vec 0 3)),(1,.s (.int .i64)),(2,.s (.int .i64)),(3,.s (.fn 118)),(8,.s (.int .i64))],[.vec cy 0]⟩,[.fix 0],[⟨.exit 0,⟨53,[],[.vec cy 0]⟩,[.fix 0]⟩],NA⟩
theorem aaC:b_ P t28 DS 1 (cf Tryz.f190 1) NB:=fun d=>by kernel_rfl
def NC:LT:=DS.add 1 NB
theorem aaD:ax P 1 NC (aQ Tryz.f190):=ax.a hm zg aaB aaC
def DT(d:List G):Option (List G) :=
 (bif (aq ((gi d 1).int+1)) then (aN ((ad (gi d 0).rows.length (gi d 0).rows.length)&&true) (bG NA [.l (gi d 0).rows,.i (gi d 1).int,.i (gi d 2).int,.i ((gi d 1).int+1)]) fun g g3=>some [.l (gi g3 0).rows]) else none)
def DU:aH:=⟨190,[.s (.vec 0 3),.s (.int .i64),.s (.int .i64),.s (.fn 118)],[.vec cy 0],[.slot 0],[],[.vec cy 0],[.fix 0],[],DT⟩
theorem aaE:aX P t28 NC Tryz.f190 DU:=fun d=>by kernel_rfl
theorem aaF:aV P DU:=aU hm zg Tryz.func190 aaD aaE
def t29:ak:=t28.cS DU
theorem DV:al P t29:=zg.aW aaF

def ND(d:List G):Option (Option Nat × List G) :=
 (bif (aq ((gi d 2).int-(gi d 1).int)) then (bif (a_ ((gi d 2).int-(gi d 1).int) 12) then (fP (((ad (gi d 0).rows.length (gi d 0).rows.length)&&true)&&(DT [.l (gi d 0).rows,.i (gi d 1).int,.i (gi d 2).int]).isSome) (DT [.l (gi d 0).rows,.i (gi d 1).int,.i (gi d 2).int]) fun g1=>some (some 0,[.l (gi g1 0).rows])) else (bif ((gi d 3).int==0) then none else (bif (!(gi d 4).bool) then none else none))) else none)
def NF:be:=⟨2,[],⟨148,[(0,.s (.vec 0 3)),(1,.s (.int .i64)),(2,.s (.int .i64)),(3,.s (.int .i64)),(4,.s (.fn 118)),(10,.s (.bool)),(11,.s (.bool))],[.vec cy 0]⟩,[.fix 0],[⟨.ret,⟨148,[],[.vec cy 0]⟩,[.fix 0]⟩],ND⟩
theorem aaG:b_ P t29 ay 1 (cf Tryz.f155 2) NF:=fun d=>by kernel_rfl
def NG:LT:=ay.add 1 NF
theorem aaH:ax P 1 NG (aQ Tryz.f155):=ax.a hm DV (aM _ _ _) aaG
def DW(d:List G):Option (List G) :=
 (aN ((ad (gi d 0).rows.length (gi d 0).rows.length)&&true) (bG ND [.l (gi d 0).rows,.i (gi d 1).int,.i (gi d 2).int,.i (gi d 3).int,.t true,.t true]) fun g g2=>some [.l (gi g2 0).rows])
def DX:aH:=⟨155,[.s (.vec 0 3),.s (.int .i64),.s (.int .i64),.s (.int .i64),.s (.fn 118)],[.vec cy 0],[.slot 0],[],[.vec cy 0],[.fix 0],[],DW⟩
theorem aaI:aX P t29 NG Tryz.f155 DX:=fun d=>by kernel_rfl
theorem aaJ:aV P DX:=aU hm DV Tryz.func155 aaH aaI
def t30:ak:=t29.cS DX
theorem NH:al P t30:=DV.aW aaJ

def DY(d:List G):Option (List G) :=
 (aA (Nv [.i (IntKind.u64.wrap (((gi d 0).rows.length:Nat):Int))]) fun g1=>(fP (((ad (gi d 0).rows.length (gi d 0).rows.length)&&true)&&(DW [.l (gi d 0).rows,.i 0,.i (((gi d 0).rows.length:Nat):Int),.i (gi g1 0).int]).isSome) (DW [.l (gi d 0).rows,.i 0,.i (((gi d 0).rows.length:Nat):Int),.i (gi g1 0).int]) fun g2=>some [.l (gi g2 0).rows]))
def DZ:aH:=⟨117,[.s (.vec 0 3),.s (.fn 118)],[.vec cy 0],[.slot 0],[],[.vec cy 0],[.fix 0],[],DY⟩
theorem aaK:aX P t30 ay Tryz.f117 DZ:=fun d=>by kernel_rfl
theorem aaL:aV P DZ:=aU hm NH Tryz.func117 (aM _ _ _) aaK
def t31:ak:=t30.cS DZ
theorem zh:al P t31:=NH.aW aaL

def D0(d:List G):Option (Option Nat × List G) :=
 (bif (gi d 4).bool then (bif (aq ((gi d 1).int-1)) then (bif ((aw ((gi d 1).int-1))&&(ai ((gi d 1).int-1) (((gi d 0).rows.length:Nat):Int))) then (bif (decide ((0+((gi d 1).int-1).toNat)<(gi d 0).rows.length)) then (bif ((aw (gi d 1).int)&&(ai (gi d 1).int (((gi d 0).rows.length:Nat):Int))) then (bif (decide ((0+((gi d 1).int).toNat)<(gi d 0).rows.length)) then (bif ((ad (gi d 0).rows.length ((gi d 0).rows.set (0+((gi d 1).int).toNat) (a7 cy ((gi d 0).rows.getD (0+((gi d 1).int).toNat) []) 0 [.i (gi ((gi d 0).rows.getD (0+((gi d 1).int-1).toNat) []) 0).int])).length)&&true) then some (some 0,[.l ((gi d 0).rows.set (0+((gi d 1).int).toNat) (a7 cy ((gi d 0).rows.getD (0+((gi d 1).int).toNat) []) 0 [.i (gi ((gi d 0).rows.getD (0+((gi d 1).int-1).toNat) []) 0).int])),.i (gi d 2).int,.i (gi d 3).int]) else none) else none) else none) else none) else none) else none) else (bif ((ad (gi d 0).rows.length (gi d 0).rows.length)&&true) then some (some 0,[.l (gi d 0).rows,.i (gi d 2).int,.i (gi d 3).int]) else none))
def NI:be:=⟨7,[],⟨45,[(0,.s (.vec 0 3)),(3,.s (.int .i64)),(7,.s (.int .i64)),(8,.s (.int .i64)),(32,.s (.bool))],[.vec cy 0]⟩,[.fix 0],[⟨.normal,⟨45,[(0,.s (.vec 0 3)),(7,.s (.int .i64)),(8,.s (.int .i64))],[.vec cy 0]⟩,[.fix 0]⟩],D0⟩
theorem aaM:fo P t31 ay 1 (cutAt Tryz.f71 7) NI:=fun d=>by kernel_rfl
def D1:LT:=ay.dZ 1 NI
theorem aaN:ax P 1 D1 (aQ Tryz.f71):=ax.aC hm zh (aM _ _ _) aaM
def NJ(d:List G):Option (Option Nat × List G) :=
 (bif (ai (gi d 2).int (gi d 1).int) then (bif (aq ((gi d 2).int+1)) then (bif ((aw (gi d 2).int)&&(ai (gi d 2).int (((gi d 0).rows.length:Nat):Int))) then (bif (decide ((0+((gi d 2).int).toNat)<(gi d 0).rows.length)) then (bif (ai 0 (gi d 2).int) then (bif ((aw (gi d 2).int)&&(ai (gi d 2).int (((gi d 0).rows.length:Nat):Int))) then (bif (decide ((0+((gi d 2).int).toNat)<((gi d 0).rows.set (0+((gi d 2).int).toNat) (a7 cy ((gi d 0).rows.getD (0+((gi d 2).int).toNat) []) 0 [.i ((gi d 2).int+1)])).length)) then (bif (aq ((gi d 2).int-1)) then (bif ((aw ((gi d 2).int-1))&&(ai ((gi d 2).int-1) (((gi d 0).rows.length:Nat):Int))) then (bif (decide ((0+((gi d 2).int-1).toNat)<((gi d 0).rows.set (0+((gi d 2).int).toNat) (a7 cy ((gi d 0).rows.getD (0+((gi d 2).int).toNat) []) 0 [.i ((gi d 2).int+1)])).length)) then (aN ((ad (gi d 0).rows.length ((gi d 0).rows.set (0+((gi d 2).int).toNat) (a7 cy ((gi d 0).rows.getD (0+((gi d 2).int).toNat) []) 0 [.i ((gi d 2).int+1)])).length)&&true) (bW (D0 [.l ((gi d 0).rows.set (0+((gi d 2).int).toNat) (a7 cy ((gi d 0).rows.getD (0+((gi d 2).int).toNat) []) 0 [.i ((gi d 2).int+1)])),.i (gi d 2).int,.i (gi d 1).int,.i (gi d 2).int,.t ((gi (((gi d 0).rows.set (0+((gi d 2).int).toNat) (a7 cy ((gi d 0).rows.getD (0+((gi d 2).int).toNat) []) 0 [.i ((gi d 2).int+1)])).getD (0+((gi d 2).int).toNat) []) 1).int==(gi (((gi d 0).rows.set (0+((gi d 2).int).toNat) (a7 cy ((gi d 0).rows.getD (0+((gi d 2).int).toNat) []) 0 [.i ((gi d 2).int+1)])).getD (0+((gi d 2).int-1).toNat) []) 1).int)])) fun g g2=>(bif (aq ((gi g2 2).int+1)) then (bif ((ad (gi g2 0).rows.length (gi g2 0).rows.length)&&true) then some (none,[.l (gi g2 0).rows,.i (gi g2 1).int,.i ((gi g2 2).int+1)]) else none) else none)) else none) else none) else none) else none) else none) else (aN ((ad (gi d 0).rows.length ((gi d 0).rows.set (0+((gi d 2).int).toNat) (a7 cy ((gi d 0).rows.getD (0+((gi d 2).int).toNat) []) 0 [.i ((gi d 2).int+1)])).length)&&true) (bW (D0 [.l ((gi d 0).rows.set (0+((gi d 2).int).toNat) (a7 cy ((gi d 0).rows.getD (0+((gi d 2).int).toNat) []) 0 [.i ((gi d 2).int+1)])),.i (gi d 2).int,.i (gi d 1).int,.i (gi d 2).int,.t false])) fun h g3=>(bif (aq ((gi g3 2).int+1)) then (bif ((ad (gi g3 0).rows.length (gi g3 0).rows.length)&&true) then some (none,[.l (gi g3 0).rows,.i (gi g3 1).int,.i ((gi g3 2).int+1)]) else none) else none))) else none) else none) else none) else (bif ((ad (gi d 0).rows.length (gi d 0).rows.length)&&true) then some (some 0,[.l (gi d 0).rows]) else none))
def NK:be:=⟨3,[],⟨45,[(0,.s (.vec 0 3)),(7,.s (.int .i64)),(8,.s (.int .i64))],[.vec cy 0]⟩,[.fix 0],[⟨.exit 0,⟨45,[(0,.s (.vec 0 3))],[.vec cy 0]⟩,[.fix 0]⟩],NJ⟩
theorem aaO:b_ P t31 D1 1 (cf Tryz.f71 3) NK:=fun d=>by kernel_rfl
def NL:LT:=D1.add 1 NK
theorem aaP:ax P 1 NL (aQ Tryz.f71):=ax.a hm zh aaN aaO
def D2(d:List G):Option (List G) :=
 (fP (((ad (gi d 0).rows.length (gi d 0).rows.length)&&true)&&(DY [.l (gi d 0).rows]).isSome) (DY [.l (gi d 0).rows]) fun g1=>(aN ((ad (gi d 0).rows.length (gi g1 0).rows.length)&&true) (bG NJ [.l (gi g1 0).rows,.i (((gi d 0).rows.length:Nat):Int),.i 0]) fun g g4=>(bif ((ad (gi g4 0).rows.length (gi g4 0).rows.length)&&true) then some [.l (gi g4 0).rows] else none)))
def D3:aH:=⟨71,[.s (.vec 0 3)],[.vec cy 0],[.slot 0],[.s (.vec 0 3)],[.vec cy 0],[.fix 0],[],D2⟩
theorem aaQ:aX P t31 NL Tryz.f71 D3:=fun d=>by kernel_rfl
theorem aaR:aV P D3:=aU hm zh Tryz.func71 aaP aaQ
def t32:ak:=t31.cS D3
theorem D4:al P t32:=zh.aW aaR

def NM(d:List G):Option (Option Nat × List G) :=
 (bif (ai (gi d 4).int (gi d 3).int) then (bif ((aw (gi d 4).int)&&(ai (gi d 4).int (((gi d 2).rows.length:Nat):Int))) then (bif ((gi ((gi d 2).rows.getD (((gi d 4).int).toNat) []) 1).str.toList==(gi d 1).str.toList) then (bif ((ad (gi d 0).rows.length (gi d 0).rows.length)&&(decide (((gi d 0).rows.length+1)≤1048576))) then (bif (aq ((gi d 4).int+1)) then (bif ((ad ((gi d 0).rows++([[.i 0,.i (gi ((gi d 2).rows.getD (((gi d 4).int).toNat) []) 2).int,.s (gi ((gi d 2).rows.getD (((gi d 4).int).toNat) []) 0).str]]:List (List G))).length ((gi d 0).rows++([[.i 0,.i (gi ((gi d 2).rows.getD (((gi d 4).int).toNat) []) 2).int,.s (gi ((gi d 2).rows.getD (((gi d 4).int).toNat) []) 0).str]]:List (List G))).length)&&true) then some (none,[.l ((gi d 0).rows++([[.i 0,.i (gi ((gi d 2).rows.getD (((gi d 4).int).toNat) []) 2).int,.s (gi ((gi d 2).rows.getD (((gi d 4).int).toNat) []) 0).str]]:List (List G))),.s (gi d 1).str,.l (gi d 2).rows,.i (gi d 3).int,.i ((gi d 4).int+1)]) else none) else none) else none) else (bif (aq ((gi d 4).int+1)) then (bif ((ad (gi d 0).rows.length (gi d 0).rows.length)&&true) then some (none,[.l (gi d 0).rows,.s (gi d 1).str,.l (gi d 2).rows,.i (gi d 3).int,.i ((gi d 4).int+1)]) else none) else none)) else none) else (bif ((ad (gi d 0).rows.length (gi d 0).rows.length)&&true) then some (some 0,[.l (gi d 0).rows]) else none))
def NN:be:=⟨8,[(7,cy)],⟨39,[(1,.s (.str)),(7,.s (.vec 0 3)),(18,.s (.list uZ)),(19,.s (.int .i64)),(20,.s (.int .i64))],[.vec cy 0]⟩,[.slot 7],[⟨.exit 0,⟨39,[(7,.s (.vec 0 3))],[.vec cy 0]⟩,[.slot 7]⟩],NM⟩
theorem aaS:b_ P t32 ay 0 (cf Tryz.f39 8) NN:=fun d=>by kernel_rfl
def NO:LT:=ay.add 0 NN
theorem aaT:ax P 0 NO (aQ Tryz.f39):=ax.a hm D4 (aM _ _ _) aaS
def aaU(d:List G):Option (List G) :=
 (aA (Nq [.l (gi d 0).rows]) fun g1=>(bif ((gi g1 0).int != 0) then some [.l [],.i (gi g1 0).int] else (aA (rQ [.s (gi d 1).str]) fun g2=>(bif (!(gi g2 0).bool) then some [.l [],.i 5] else (aN true (bG NM [.l [],.s (gi d 1).str,.l (gi d 0).rows,.i (((gi d 0).rows.length:Nat):Int),.i 0]) fun g g3=>(fP (((ad (gi g3 0).rows.length (gi g3 0).rows.length)&&true)&&(D2 [.l (gi g3 0).rows]).isSome) (D2 [.l (gi g3 0).rows]) fun g4=>(bif ((ad (gi g4 0).rows.length (gi g4 0).rows.length)&&true) then some [.l (gi g4 0).rows,.i 0] else none)))))))
def D5:aH:=⟨39,[.s (.list uZ),.s (.str)],[],[],[.s (.list cy),.s (.int .i64)],[],[],[],aaU⟩
theorem aaV:aX P t32 NO Tryz.f39 D5:=fun d=>by kernel_rfl
theorem aaW:aV P D5:=aU hm D4 Tryz.func39 aaT aaV
def t33:ak:=t32.bt D5
theorem D6:al P t33:=D4.aP aaW

def NP(d:List G):Option (Option Nat × List G) :=
 (bif (ai (gi d 1).int (gi d 2).int) then (bif ((aw (gi d 2).int)&&(ai (gi d 2).int (((gi d 0).rows.length:Nat):Int))) then (bif (decide ((0+((gi d 2).int).toNat)<(gi d 0).rows.length)) then (bif ((aw (gi d 1).int)&&(ai (gi d 1).int (((gi d 0).rows.length:Nat):Int))) then (bif (decide ((0+((gi d 1).int).toNat)<(gi d 0).rows.length)) then (bif ((aw (gi d 1).int)&&(ai (gi d 1).int (((gi d 0).rows.length:Nat):Int))) then (bif (decide ((0+((gi d 1).int).toNat)<(gi d 0).rows.length)) then (bif ((aw (gi d 2).int)&&(ai (gi d 2).int (((gi d 0).rows.length:Nat):Int))) then (bif (decide ((0+((gi d 2).int).toNat)<((gi d 0).rows.set (0+((gi d 1).int).toNat) (a7 [.int .i64] ((gi d 0).rows.getD (0+((gi d 1).int).toNat) []) 0 [.i (gi ((gi d 0).rows.getD (0+((gi d 2).int).toNat) []) 0).int])).length)) then (bif (aq ((gi d 1).int+1)) then (bif (aq ((gi d 2).int-1)) then (bif ((ad (gi d 0).rows.length (((gi d 0).rows.set (0+((gi d 1).int).toNat) (a7 [.int .i64] ((gi d 0).rows.getD (0+((gi d 1).int).toNat) []) 0 [.i (gi ((gi d 0).rows.getD (0+((gi d 2).int).toNat) []) 0).int])).set (0+((gi d 2).int).toNat) (a7 [.int .i64] (((gi d 0).rows.set (0+((gi d 1).int).toNat) (a7 [.int .i64] ((gi d 0).rows.getD (0+((gi d 1).int).toNat) []) 0 [.i (gi ((gi d 0).rows.getD (0+((gi d 2).int).toNat) []) 0).int])).getD (0+((gi d 2).int).toNat) []) 0 [.i (gi ((gi d 0).rows.getD (0+((gi d 1).int).toNat) []) 0).int])).length)&&true) then some (none,[.l (((gi d 0).rows.set (0+((gi d 1).int).toNat) (a7 [.int .i64] ((gi d 0).rows.getD (0+((gi d 1).int).toNat) []) 0 [.i (gi ((gi d 0).rows.getD (0+((gi d 2).int).toNat) []) 0).int])).set (0+((gi d 2).int).toNat) (a7 [.int .i64] (((gi d 0).rows.set (0+((gi d 1).int).toNat) (a7 [.int .i64] ((gi d 0).rows.getD (0+((gi d 1).int).toNat) []) 0 [.i (gi ((gi d 0).rows.getD (0+((gi d 2).int).toNat) []) 0).int])).getD (0+((gi d 2).int).toNat) []) 0 [.i (gi ((gi d 0).rows.getD (0+((gi d 1).int).toNat) []) 0).int])),.i ((gi d 1).int+1),.i ((gi d 2).int-1)]) else none) else none) else none) else none) else none) else none) else none) else none) else none) else none) else none) else some (some 0,[.l (gi d 0).rows]))
def NQ:be:=⟨1,[],⟨28,[(0,.s (.vec 0 1)),(2,.s (.int .i64)),(3,.s (.int .i64))],[.vec [.int .i64] 0]⟩,[.fix 0],[⟨.exit 0,⟨28,[],[.vec [.int .i64] 0]⟩,[.fix 0]⟩],NP⟩
theorem aaX:b_ P t33 ay 1 (cf Tryz.f201 1) NQ:=fun d=>by kernel_rfl
def NR:LT:=ay.add 1 NQ
theorem aaY:ax P 1 NR (aQ Tryz.f201):=ax.a hm D6 (aM _ _ _) aaX
def aaZ(d:List G):Option (List G) :=
 (bif (aq ((((gi d 0).rows.length:Nat):Int)-1)) then (aN ((ad (gi d 0).rows.length (gi d 0).rows.length)&&true) (bG NP [.l (gi d 0).rows,.i 0,.i ((((gi d 0).rows.length:Nat):Int)-1)]) fun g g1=>some [.l (gi g1 0).rows]) else none)
def D7:aH:=⟨201,[.s (.vec 0 1)],[.vec [.int .i64] 0],[.slot 0],[],[.vec [.int .i64] 0],[.fix 0],[],aaZ⟩
theorem aa0:aX P t33 NR Tryz.f201 D7:=fun d=>by kernel_rfl
theorem aa1:aV P D7:=aU hm D6 Tryz.func201 aaY aa0
def t34:ak:=t33.cS D7
theorem D8:al P t34:=D6.aW aa1

def zi(r d:List G):Option (List G) :=
 (bif (aq ((gi (aB [.int .i64] (gi d 6).rows [.i (gi (gi r 0).row 1).int] [.i 0]) 0).int+1)) then (bif ((((ad (gi d 3).rows.length (gi d 3).rows.length)&&true)&&true)&&true) then some [.l (gi d 0).rows,.l (gi d 1).rows,.l (gi d 2).rows,.l (gi d 3).rows,.l (gi d 4).rows,.i (((gi d 5).int.toNat:Nat):Int),.l (aL [.int .i64] (gi d 6).rows [.i (gi (gi r 0).row 1).int] [.i ((gi (aB [.int .i64] (gi d 6).rows [.i (gi (gi r 0).row 1).int] [.i 0]) 0).int+1)] (gi d 7).int.toNat),.i (((bE [.int .i64] (gi d 6).rows [.i (gi (gi r 0).row 1).int] (gi d 7).int.toNat):Nat):Int),.i (((gi d 8).int.toNat:Nat):Int)] else none) else none)
def NS(d:List G)(b:Nat):List G:=[.l (gi d 0).rows,.l (gi d 1).rows,.l (gi d 2).rows,.l (gi d 3).rows,.l (gi d 4).rows,.i (((gi d 5).int.toNat:Nat):Int),.l (gi d 6).rows,.i (((gi d 7).int.toNat:Nat):Int),.i (b:Int)]
def aa2(d:List G)(b:Nat):Bool:=((((ad (gi d 3).rows.length (gi d 3).rows.length)&&true)&&true)&&true)
def kO:fy:=⟨⟨21,[(3,.s (.map 3)),(10,.s (.addr))],[.box [.vec 1 15,.list ae,.list [.str],.list [.int .i64],.map 2],.vec pH 0,.map (.agg [.str,.int .i64]) (.one (.bool)),.map (.one (.int .i64)) (.one (.int .i64))]⟩,[.fix 0,.cell 0 0,.cell 0 4,.slot 3],[],(.agg [.str,.int .i64]),(.one (.bool)),2,0,9,10,11,12,13,fun d=>(gi d 8).int.toNat,NS,aa2,zi⟩
theorem aa3:jv P t34 ay 3 kO (nQ (cutAt Tryz.f122 2)) (rI (cutAt Tryz.f122 2)):=fun r d=>by kernel_rfl
def rU(d:List G):Option (Option Nat × List G) :=
 (bif ((((ad (gi d 3).rows.length (gi d 3).rows.length)&&true)&&true)&&true) then some (some 0,[.l (gi d 0).rows,.l (gi d 1).rows,.l (gi d 2).rows,.l (gi d 3).rows,.l (gi d 4).rows,.i (((gi d 5).int.toNat:Nat):Int),.l (gi d 6).rows,.i (((gi d 7).int.toNat:Nat):Int)]) else none)
def NT:be:=⟨6,[],⟨21,[(3,.s (.map 3)),(10,.s (.addr))],[.box [.vec 1 15,.list ae,.list [.str],.list [.int .i64],.map 2],.vec pH 0,.map (.agg [.str,.int .i64]) (.one (.bool)),.map (.one (.int .i64)) (.one (.int .i64))]⟩,[],[⟨.ret,⟨21,[(2,.s (.map 3))],[.box [.vec 1 15,.list ae,.list [.str],.list [.int .i64],.map 2],.vec pH 0,.map (.agg [.str,.int .i64]) (.one (.bool)),.map (.one (.int .i64)) (.one (.int .i64))]⟩,[.fix 0,.cell 0 0,.cell 0 4,.slot 2]⟩],rU⟩
theorem aa4:fo P t34 ay 3 (rH (cutAt Tryz.f122 2)) NT:=fun d=>by kernel_rfl
def NU(d:List G):Option (Option Nat × List G) :=
 jx kO rU (gi d 4).rows ((gi d 5).int.toNat) d
def D9:be:=⟨2,[],⟨21,[(0,.s (.ptr 0 0)),(3,.s (.map 3))],[.box [.vec 1 15,.list ae,.list [.str],.list [.int .i64],.map 2],.vec pH 0,.map (.agg [.str,.int .i64]) (.one (.bool)),.map (.one (.int .i64)) (.one (.int .i64))]⟩,[.fix 0,.cell 0 0,.cell 0 4,.slot 3],[⟨.ret,⟨21,[(2,.s (.map 3))],[.box [.vec 1 15,.list ae,.list [.str],.list [.int .i64],.map 2],.vec pH 0,.map (.agg [.str,.int .i64]) (.one (.bool)),.map (.one (.int .i64)) (.one (.int .i64))]⟩,[.fix 0,.cell 0 0,.cell 0 4,.slot 2]⟩],NU⟩
def NV:LT:=ay.dZ 3 D9
theorem aa5:∀ r d d',zi r d=some d'→(gi d' 4).rows=(gi d 4).rows∧(gi d' 5).int.toNat=(gi d 5).int.toNat:=by
 intro r d d' h;unfold zi at h;simp only[Bool.cond_eq_ite]at h
 repeat' split at h
 all_goals first|(cases h; done)|(cases h; exact⟨rfl,rfl⟩)
theorem aa6:ax P 3 NV (aQ Tryz.f122):=ax.Xo (q:=D9) (qr:=NT) (sp:=kO) (r0:=2) (b0:=0) (r1:=3) (b1:=1) (r2:=4) (rows:=fun d=>(gi d 4).rows) (clock:=fun d=>(gi d 5).int.toNat) (pre:=fun d=>Lk P t34 (lB (cutAt Tryz.f122 2)) (aR D9.inv d)) (ri:=fun d=>(gi d 4).rows) (ci:=fun d=>(gi d 5).int.toNat) hm D8 (fun d=>by kernel_rfl) aa5 (by kernel_rfl) (by kernel_rfl) (aM _ _ _) (by kernel_rfl) (by kernel_rfl) aa3 (fun d=>by kernel_rfl) (fun d=>by kernel_rfl) (fun d=>by kernel_rfl) (fun d=>by kernel_rfl) (fun d=>by kernel_rfl) (fun d=>by kernel_rfl) (fun d b=>by kernel_rfl) (fun d b=>rfl) (fun d b=>⟨rfl,rfl⟩) rfl rfl aa4 (fun d=>rfl)
def NW(d:List G):Option (List G) :=
 (aN ((((ad (gi d 3).rows.length (gi d 3).rows.length)&&true)&&true)&&true) (bW (NU [.l (gi d 0).rows,.l (gi d 1).rows,.l (gi d 2).rows,.l (gi d 3).rows,.l (gi d 4).rows,.i (((gi d 5).int.toNat:Nat):Int),.l [],.i 0])) fun g g1=>(bif ((((ad (gi g1 3).rows.length (gi g1 3).rows.length)&&true)&&true)&&true) then some [.l (gi g1 0).rows,.l (gi g1 1).rows,.l (gi g1 2).rows,.l (gi g1 3).rows,.l (gi g1 4).rows,.i (((gi g1 5).int.toNat:Nat):Int),.l (gi g1 6).rows,.i (((gi g1 7).int.toNat:Nat):Int)] else none))
def zk:aH:=⟨122,[.s (.ptr 0 0)],[.box [.vec 1 15,.list ae,.list [.str],.list [.int .i64],.map 2],.vec pH 0,.map (.agg [.str,.int .i64]) (.one (.bool))],[.slot 0,.cell 0 0,.cell 0 4],[.s (.map 3)],[.box [.vec 1 15,.list ae,.list [.str],.list [.int .i64],.map 2],.vec pH 0,.map (.agg [.str,.int .i64]) (.one (.bool)),.map (.one (.int .i64)) (.one (.int .i64))],[.fix 0,.fix 1,.fix 2,.slot 0],[],NW⟩
theorem aa7:aX P t34 NV Tryz.f122 zk:=fun d=>by kernel_rfl
theorem NX:aV P zk:=aU hm D8 Tryz.func122 aa6 aa7
def t35:ak:=t34.cS zk
theorem NY:al P t35:=D8.aW NX

theorem aa8:uM P ⟨227,97,96,15,15,true⟩:=Xi Tryz.func227 (by kernel_rfl) rfl rfl rfl ⟨⟨_,_,_,_,_,_,rfl,⟨rfl,rfl,rfl⟩,⟨rfl,rfl,rfl⟩,⟨rfl,rfl,rfl⟩,⟨rfl,rfl,rfl⟩⟩,⟨_,_,_,_,rfl,⟨rfl,rfl,rfl⟩,⟨rfl,rfl,rfl⟩⟩,⟨_,_,_,_,_,rfl,⟨rfl,rfl,rfl⟩,⟨rfl,rfl,rfl⟩,⟨rfl,rfl,rfl⟩⟩,⟨_,_,_,_,_,_,_,_,_,_,rfl,⟨rfl,rfl,rfl⟩,⟨rfl,rfl,rfl⟩,⟨rfl,rfl,rfl⟩,⟨rfl,rfl,rfl⟩,⟨rfl,rfl,rfl⟩,⟨rfl,rfl,rfl⟩,⟨rfl,rfl,rfl⟩,⟨rfl,rfl,rfl⟩⟩⟩ (by kernel_rfl)
def aa9(d:List G):Option (Option Nat × List G) :=
 C' kO rU (gi d 4).rows ((gi d 5).int.toNat) d
theorem aa_(d x:List G)(b:Nat):(cL kO.st kO.bf [x] (kO.init d b)).bind rU=(cL kO.st kO.bf [x] (kO.init d 0)).bind rU:=by
 simp only[Xs,kO];unfold zi NS rU;dsimp +instances only[Lw,Lx];simp only[Xt,Option.bind_some,Option.bind_none];dsimp +instances only[Lw,Lx];simp only[Xp,Int.toNat_natCast,Xq,cond_true]
def NZ(d:List G):Option (List G) :=
 (aN ((((ad (gi d 3).rows.length (gi d 3).rows.length)&&true)&&true)&&true) (bW (aa9 [.l (gi d 0).rows,.l (gi d 1).rows,.l (gi d 2).rows,.l (gi d 3).rows,.l (gi d 4).rows,.i (((gi d 5).int.toNat:Nat):Int),.l [],.i 0])) fun g g1=>(bif ((((ad (gi g1 3).rows.length (gi g1 3).rows.length)&&true)&&true)&&true) then some [.l (gi g1 0).rows,.l (gi g1 1).rows,.l (gi g1 2).rows,.l (gi g1 3).rows,.l (gi g1 4).rows,.i (((gi g1 5).int.toNat:Nat):Int),.l (gi g1 6).rows,.i (((gi g1 7).int.toNat:Nat):Int)] else none))
theorem aa'{d r:List G}(h:NZ d=some r):NW d=some r :=
 Xu (fun v g=>Xr (fun b=>rfl) (aa_ _) g) h
def aba:aH:={ zk with F:=NZ }
def N0:ak:=t35.cS aba
theorem abb:al P N0:=NY.aW fun d r h=>NX d r (aa' h)
def N1:ak:=N0.inline P 225 Tryz.f225 []
theorem abc:al P N1:=abb.inline hm Tryz.func225 (by kernel_rfl) []
def N2:ak:=N1.inline P 226 Tryz.f226 []
theorem abd:al P N2:=abc.inline hm Tryz.func226 (by kernel_rfl) []
def N3:ak:=N2.inline P 198 Tryz.f198 []
theorem abe:al P N3:=abd.inline hm Tryz.func198 (by kernel_rfl) []
def N4:ak:=N3.inline P 156 Tryz.f156 []
theorem abf:al P N4:=abe.inline hm Tryz.func156 (by kernel_rfl) []
def N5:ak:=N4.inline P 119 Tryz.f119 []
theorem abg:al P N5:=abf.inline hm Tryz.func119 (by kernel_rfl) []
def N6:ak:=N5.cW P 200 Tryz.f200
theorem abh:al P N6:=abg.cW hm Tryz.func200 (by kernel_rfl) (by kernel_rfl)
def N7:ak:=N6.yP P ⟨227,97,96,15,15,true⟩ 3 157 Tryz.f157 [some [.int .i64]]
theorem abi:al P N7:=abh.yP hm aa8 Tryz.func157 (by kernel_rfl) (by kernel_rfl) [some [.int .i64]]
def N8:ak:=N7.cW P 95 Tryz.f95
theorem abj:al P N8:=abi.cW hm Tryz.func95 (by kernel_rfl) (by kernel_rfl)
def N9:ak:=N8.cW P 202 Tryz.f202
theorem abk:al P N9:=abj.cW hm Tryz.func202 (by kernel_rfl) (by kernel_rfl)
def N_:ak:=N9.cW P 159 Tryz.f159
theorem abl:al P N_:=abk.cW hm Tryz.func159 (by kernel_rfl) (by kernel_rfl)
def N':ak:=N_.inline P 158 Tryz.f158 []
theorem abm:al P N':=abl.inline hm Tryz.func158 (by kernel_rfl) []
def Oa:ak:=N'.cW P 120 Tryz.f120
theorem abn:al P Oa:=abm.cW hm Tryz.func120 (by kernel_rfl) (by kernel_rfl)
def Ob:ak:=Oa.cW P 72 Tryz.f72
theorem abo:al P Ob:=abn.cW hm Tryz.func72 (by kernel_rfl) (by kernel_rfl)
def Oc:ak:=Ob.cW P 121 Tryz.f121
theorem abp:al P Oc:=abo.cW hm Tryz.func121 (by kernel_rfl) (by kernel_rfl)
def Od:ak:=Oc.cW P 73 Tryz.f73
theorem abq:al P Od:=abp.cW hm Tryz.func73 (by kernel_rfl) (by kernel_rfl)
def Oe:ak:=Od.inline P 40 Tryz.f40 []
theorem abr:al P Oe:=abq.inline hm Tryz.func40 (by kernel_rfl) []
def Of:ak:=Oe.inline P 107 Tryz.f107 []
theorem abt:al P Of:=abr.inline hm Tryz.func107 (by kernel_rfl) []
def Og:ak:=Of.inline P 113 Tryz.f113 []
theorem abu:al P Og:=abt.inline hm Tryz.func113 (by kernel_rfl) []
def Oh:ak:=Og.inline P 106 Tryz.f106 []
theorem abv:al P Oh:=abu.inline hm Tryz.func106 (by kernel_rfl) []
def Oi:ak:=Oh.inline P 62 Tryz.f62 []
theorem abw:al P Oi:=abv.inline hm Tryz.func62 (by kernel_rfl) []
def Oj:ak:=Oi.inline P 66 Tryz.f66 []
theorem abx:al P Oj:=abw.inline hm Tryz.func66 (by kernel_rfl) []
def Ol:ak:=Oj.inline P 152 Tryz.f152 []
theorem aby:al P Ol:=abx.inline hm Tryz.func152 (by kernel_rfl) []
def Om:ak:=Ol.inline P 112 Tryz.f112 []
theorem abz:al P Om:=aby.inline hm Tryz.func112 (by kernel_rfl) []
def On:ak:=Om.cW P 163 Tryz.f163
theorem abA:al P On:=abz.cW hm Tryz.func163 (by kernel_rfl) (by kernel_rfl)
def Oo:ak:=On.cW P 130 Tryz.f130
theorem abB:al P Oo:=abA.cW hm Tryz.func130 (by kernel_rfl) (by kernel_rfl)
def Oq:ak:=Oo.cW P 89 Tryz.f89
theorem abC:al P Oq:=abB.cW hm Tryz.func89 (by kernel_rfl) (by kernel_rfl)
def Ot:ak:=Oq.cW P 114 Tryz.f114
theorem abD:al P Ot:=abC.cW hm Tryz.func114 (by kernel_rfl) (by kernel_rfl)
def Ou:ak:=Ot.cW P 68 Tryz.f68
theorem abE:al P Ou:=abD.cW hm Tryz.func68 (by kernel_rfl) (by kernel_rfl)
def Ov:ak:=Ou.cW P 69 Tryz.f69
theorem abF:al P Ov:=abE.cW hm Tryz.func69 (by kernel_rfl) (by kernel_rfl)
def Ow:ak:=Ov.cW P 111 Tryz.f111
theorem abG:al P Ow:=abF.cW hm Tryz.func111 (by kernel_rfl) (by kernel_rfl)
def Ox:ak:=Ow.cW P 67 Tryz.f67
theorem abH:al P Ox:=abG.cW hm Tryz.func67 (by kernel_rfl) (by kernel_rfl)
def Oy:ak:=Ox.inline P 38 Tryz.f38 []
theorem abI:al P Oy:=abH.inline hm Tryz.func38 (by kernel_rfl) []
def abJ:ak:=Oy.inline P 13 Tryz.f13 []
theorem abK:al P abJ:=abI.inline hm Tryz.func13 (by kernel_rfl) []
theorem abL:cJ P 9 [] (.lit (.bool true)):=dz (L:=ay) hm abK [] (fun _ _=>aM _ _ _) Tryz.func9 rfl (by kernel_rfl) (by kernel_rfl)
def ve(_:List G):Option (List G):=some [.t true]
def vf:aH:=⟨9,[],[],[],[.s (.bool)],[],[],[],ve⟩
theorem abM:∀ d r,ve d=some r→dC P 9 (vf.args0 d) (ao (vf.H0 d)) (vf.out r) (ao (vf.H1 r)):=fun d r h=>by
 cases (show some [G.t true]=some r from h);exact abL []
def t36:ak:=t35.bt vf
theorem Oz:al P t36:=NY.aP abM


def rV(d:List G):Option (List G) :=
 (bif (ai (gi d 1).int 1) then some [.i 0] else (bif (!((gi d 1).int==0)) then (bif (ai (je (gi d 0).int (gi d 1).int) 0) then (bif (aq ((je (gi d 0).int (gi d 1).int)+(gi d 1).int)) then some [.i ((je (gi d 0).int (gi d 1).int)+(gi d 1).int)] else none) else some [.i (je (gi d 0).int (gi d 1).int)]) else none))
def D_:aH:=⟨53,[.s (.int .i64),.s (.int .i64)],[],[],[.s (.int .i64)],[],[],[],rV⟩
theorem abN:aX P t36 ay Tryz.f53 D_:=fun d=>by kernel_rfl
theorem abO:aV P D_:=aU hm Oz Tryz.func53 (aM _ _ _) abN
def t37:ak:=t36.bt D_
theorem OA:al P t37:=Oz.aP abO

def nS(d:List G):Option (List G) :=
 (bif (aq ((gi d 1).int+1)) then (bif ((((gi d 0).rows.length:Nat):Int)==0) then (bif (aq (((gi d 1).int+1)*7919)) then (aA (rV [.i (((gi d 1).int+1)*7919),.i (gi d 2).int]) fun g1=>some [.l (gi d 0).rows,.i ((gi d 1).int+1),.i (gi g1 0).int]) else none) else (bif (aq (((gi d 1).int+1)-1)) then (bif (!((((gi d 0).rows.length:Nat):Int)==0)) then (bif (aq (((gi d 1).int+1)-1)) then (bif ((!((((gi d 0).rows.length:Nat):Int)==0))&&(aq (mU (((gi d 1).int+1)-1) (((gi d 0).rows.length:Nat):Int)))) then (bif ((aw (je (((gi d 1).int+1)-1) (((gi d 0).rows.length:Nat):Int)))&&(ai (je (((gi d 1).int+1)-1) (((gi d 0).rows.length:Nat):Int)) (((gi d 0).rows.length:Nat):Int))) then (aA (rV [.i (gi ((gi d 0).rows.getD ((je (((gi d 1).int+1)-1) (((gi d 0).rows.length:Nat):Int)).toNat) []) 0).int,.i 1073741824]) fun g2=>(bif (aq (7919+(je (((gi d 1).int+1)-1) (((gi d 0).rows.length:Nat):Int)))) then (bif (aq ((mU (((gi d 1).int+1)-1) (((gi d 0).rows.length:Nat):Int))*(7919+(je (((gi d 1).int+1)-1) (((gi d 0).rows.length:Nat):Int))))) then (bif (aq ((gi g2 0).int+((mU (((gi d 1).int+1)-1) (((gi d 0).rows.length:Nat):Int))*(7919+(je (((gi d 1).int+1)-1) (((gi d 0).rows.length:Nat):Int)))))) then (aA (rV [.i ((gi g2 0).int+((mU (((gi d 1).int+1)-1) (((gi d 0).rows.length:Nat):Int))*(7919+(je (((gi d 1).int+1)-1) (((gi d 0).rows.length:Nat):Int))))),.i (gi d 2).int]) fun g3=>some [.l (gi d 0).rows,.i ((gi d 1).int+1),.i (gi g3 0).int]) else none) else none) else none)) else none) else none) else none) else none) else none)) else none)
def Ea:aH:=⟨29,[.s (.ptr 0 0),.s (.int .i64)],[.box [.list [.int .i64],.int .i64]],[.slot 0],[.s (.int .i64)],[.box [.list [.int .i64],.int .i64]],[.fix 0],[],nS⟩
theorem abP:aX P t37 ay Tryz.f29 Ea:=fun d=>by kernel_rfl
theorem abQ:aV P Ea:=aU hm OA Tryz.func29 (aM _ _ _) abP
def t38:ak:=t37.cS Ea
theorem OB:al P t38:=OA.aW abQ

def rW(d:List G):Option (List G) :=
 (bif (ai (gi d 3).int (gi d 2).int) then some [.l (gi d 0).rows,.i (gi d 1).int,.i (gi d 2).int] else (bif (aq ((gi d 3).int-(gi d 2).int)) then (bif (aq (((gi d 3).int-(gi d 2).int)+1)) then (aA (nS [.l (gi d 0).rows,.i (gi d 1).int,.i (((gi d 3).int-(gi d 2).int)+1)]) fun g1=>(bif (aq ((gi d 2).int+(gi g1 2).int)) then some [.l (gi g1 0).rows,.i (gi g1 1).int,.i ((gi d 2).int+(gi g1 2).int)] else none)) else none) else none))
def Eb:aH:=⟨7,[.s (.ptr 0 0),.s (.int .i64),.s (.int .i64)],[.box [.list [.int .i64],.int .i64]],[.slot 0],[.s (.int .i64)],[.box [.list [.int .i64],.int .i64]],[.fix 0],[],rW⟩
theorem abR:aX P t38 ay Tryz.f7 Eb:=fun d=>by kernel_rfl
theorem abS:aV P Eb:=aU hm OB Tryz.func7 (aM _ _ _) abR
def t39:ak:=t38.cS Eb
theorem OC:al P t39:=OB.aW abS

def pK(d:List G):Option (List G) :=
 (aA (nS [.l (gi d 0).rows,.i (gi d 1).int,.i (((gi d 2).rows.length:Nat):Int)]) fun g1=>(bif ((aw (gi g1 2).int)&&(ai (gi g1 2).int (((gi d 2).rows.length:Nat):Int))) then some [.l (gi g1 0).rows,.i (gi g1 1).int,.i (gi ((gi d 2).rows.getD (((gi g1 2).int).toNat) []) 0).int] else none))
def Ec:aH:=⟨27,[.s (.ptr 0 0),.s (.list [.int .i64])],[.box [.list [.int .i64],.int .i64]],[.slot 0],[.s (.int .i64)],[.box [.list [.int .i64],.int .i64]],[.fix 0],[],pK⟩
theorem abT:aX P t39 ay Tryz.f27 Ec:=fun d=>by kernel_rfl
theorem abU:aV P Ec:=aU hm OC Tryz.func27 (aM _ _ _) abT
def t40:ak:=t39.cS Ec
theorem OD:al P t40:=OC.aW abU

def lG(d:List G):Option (List G) :=
 (aA (nS [.l (gi d 0).rows,.i (gi d 1).int,.i (((gi d 2).rows.length:Nat):Int)]) fun g1=>(bif ((aw (gi g1 2).int)&&(ai (gi g1 2).int (((gi d 2).rows.length:Nat):Int))) then some [.l (gi g1 0).rows,.i (gi g1 1).int,.s (gi ((gi d 2).rows.getD (((gi g1 2).int).toNat) []) 0).str] else none))
def Ed:aH:=⟨28,[.s (.ptr 0 0),.s (.list [.str])],[.box [.list [.int .i64],.int .i64]],[.slot 0],[.s (.str)],[.box [.list [.int .i64],.int .i64]],[.fix 0],[],lG⟩
theorem abV:aX P t40 ay Tryz.f28 Ed:=fun d=>by kernel_rfl
theorem abW:aV P Ed:=aU hm OD Tryz.func28 (aM _ _ _) abV
def t41:ak:=t40.cS Ed
theorem OE:al P t41:=OD.aW abW

def zl(d:List G):Option (List G) :=
 (aA (nS [.l (gi d 0).rows,.i (gi d 1).int,.i (gi d 2).int]) fun g1=>some [.l (gi g1 0).rows,.i (gi g1 1).int,.t ((gi g1 2).int==0)])
def Ee:aH:=⟨30,[.s (.ptr 0 0),.s (.int .i64)],[.box [.list [.int .i64],.int .i64]],[.slot 0],[.s (.bool)],[.box [.list [.int .i64],.int .i64]],[.fix 0],[],zl⟩
theorem abX:aX P t41 ay Tryz.f30 Ee:=fun d=>by kernel_rfl
theorem abY:aV P Ee:=aU hm OE Tryz.func30 (aM _ _ _) abX
def t42:ak:=t41.cS Ee
theorem OF:al P t42:=OE.aW abY

def vg(d:List G):Option (List G) :=
 (bif (ai (gi d 0).int 0) then some [.i (-1)] else (bif (ai 0 (gi d 0).int) then some [.i 1] else some [.i 0]))
def Ef:aH:=⟨55,[.s (.int .i64)],[],[],[.s (.int .i64)],[],[],[],vg⟩
theorem abZ:aX P t42 ay Tryz.f55 Ef:=fun d=>by kernel_rfl
theorem ab0:aV P Ef:=aU hm OF Tryz.func55 (aM _ _ _) abZ
def t43:ak:=t42.bt Ef
theorem OG:al P t43:=OF.aP ab0

def pL(d:List G):Option (List G) :=
 (bif ((gi (gi d 0).row 0).int != (gi (gi d 1).row 0).int) then (bif (aq ((gi (gi d 0).row 0).int-(gi (gi d 1).row 0).int)) then (aA (vg [.i ((gi (gi d 0).row 0).int-(gi (gi d 1).row 0).int)]) fun g1=>some [.i (gi g1 0).int]) else none) else (bif (!((gi (gi d 0).row 3).str.toList==(gi (gi d 1).row 3).str.toList)) then (aA (ij [.s (gi (gi d 0).row 3).str,.s (gi (gi d 1).row 3).str]) fun g2=>some [.i (gi g2 0).int]) else (bif (!((gi (gi d 0).row 2).str.toList==(gi (gi d 1).row 2).str.toList)) then (aA (ij [.s (gi (gi d 0).row 2).str,.s (gi (gi d 1).row 2).str]) fun g3=>some [.i (gi g3 0).int]) else (bif (aq ((gi (gi d 0).row 1).int-(gi (gi d 1).row 1).int)) then (aA (vg [.i ((gi (gi d 0).row 1).int-(gi (gi d 1).row 1).int)]) fun g4=>some [.i (gi g4 0).int]) else none))))
def Eg:aH:=⟨32,[.s (.row ae),.s (.row ae)],[],[],[.s (.int .i64)],[],[],[],pL⟩
theorem ab1:aX P t43 ay Tryz.f32 Eg:=fun d=>by kernel_rfl
theorem ab2:aV P Eg:=aU hm OG Tryz.func32 (aM _ _ _) ab1
def t44:ak:=t43.bt Eg
theorem zm:al P t44:=OG.aP ab2

def OH(d:List G):Option (Option Nat × List G) :=
 (bif (ai (gi d 1).int (gi d 4).int) then (bif ((aw (gi d 4).int)&&(ai (gi d 4).int (((gi d 0).rows.length:Nat):Int))) then (bif (decide ((0+((gi d 4).int).toNat)<(gi d 0).rows.length)) then (bif (aq ((gi d 4).int-1)) then (bif ((aw ((gi d 4).int-1))&&(ai ((gi d 4).int-1) (((gi d 0).rows.length:Nat):Int))) then (bif (decide ((0+((gi d 4).int-1).toNat)<(gi d 0).rows.length)) then (aA (pL [.l [(aF ae ((gi d 0).rows.getD (0+((gi d 4).int).toNat) []))],.l [(aF ae ((gi d 0).rows.getD (0+((gi d 4).int-1).toNat) []))]]) fun g1=>(bif (ai (gi g1 0).int 0) then (bif (aq ((gi d 4).int-1)) then (bif (aq ((gi d 4).int-1)) then (bif ((aw ((gi d 4).int-1))&&(ai ((gi d 4).int-1) (((gi d 0).rows.length:Nat):Int))) then (bif (decide ((0+((gi d 4).int-1).toNat)<(gi d 0).rows.length)) then (bif ((aw (gi d 4).int)&&(ai (gi d 4).int (((gi d 0).rows.length:Nat):Int))) then (bif (decide ((0+((gi d 4).int).toNat)<(gi d 0).rows.length)) then (bif ((aw (gi d 4).int)&&(ai (gi d 4).int (((gi d 0).rows.length:Nat):Int))) then (bif (decide ((0+((gi d 4).int).toNat)<(gi d 0).rows.length)) then (bif ((aw ((gi d 4).int-1))&&(ai ((gi d 4).int-1) (((gi d 0).rows.length:Nat):Int))) then (bif (decide ((0+((gi d 4).int-1).toNat)<((gi d 0).rows.set (0+((gi d 4).int).toNat) (a7 ae ((gi d 0).rows.getD (0+((gi d 4).int).toNat) []) 0 (aF ae ((gi d 0).rows.getD (0+((gi d 4).int-1).toNat) [])))).length)) then (bif (aq ((gi d 4).int-1)) then (bif ((ad (gi d 0).rows.length (((gi d 0).rows.set (0+((gi d 4).int).toNat) (a7 ae ((gi d 0).rows.getD (0+((gi d 4).int).toNat) []) 0 (aF ae ((gi d 0).rows.getD (0+((gi d 4).int-1).toNat) [])))).set (0+((gi d 4).int-1).toNat) (a7 ae (((gi d 0).rows.set (0+((gi d 4).int).toNat) (a7 ae ((gi d 0).rows.getD (0+((gi d 4).int).toNat) []) 0 (aF ae ((gi d 0).rows.getD (0+((gi d 4).int-1).toNat) [])))).getD (0+((gi d 4).int-1).toNat) []) 0 (aF ae ((gi d 0).rows.getD (0+((gi d 4).int).toNat) [])))).length)&&true) then some (none,[.l (((gi d 0).rows.set (0+((gi d 4).int).toNat) (a7 ae ((gi d 0).rows.getD (0+((gi d 4).int).toNat) []) 0 (aF ae ((gi d 0).rows.getD (0+((gi d 4).int-1).toNat) [])))).set (0+((gi d 4).int-1).toNat) (a7 ae (((gi d 0).rows.set (0+((gi d 4).int).toNat) (a7 ae ((gi d 0).rows.getD (0+((gi d 4).int).toNat) []) 0 (aF ae ((gi d 0).rows.getD (0+((gi d 4).int-1).toNat) [])))).getD (0+((gi d 4).int-1).toNat) []) 0 (aF ae ((gi d 0).rows.getD (0+((gi d 4).int).toNat) [])))),.i (gi d 1).int,.i (gi d 2).int,.i (gi d 3).int,.i ((gi d 4).int-1)]) else none) else none) else none) else none) else none) else none) else none) else none) else none) else none) else none) else none) else (bif ((ad (gi d 0).rows.length (gi d 0).rows.length)&&true) then some (some 0,[.l (gi d 0).rows,.i (gi d 1).int,.i (gi d 2).int,.i (gi d 3).int]) else none))) else none) else none) else none) else none) else none) else (bif ((ad (gi d 0).rows.length (gi d 0).rows.length)&&true) then some (some 0,[.l (gi d 0).rows,.i (gi d 1).int,.i (gi d 2).int,.i (gi d 3).int]) else none))
def OI:be:=⟨4,[],⟨53,[(0,.s (.vec 0 8)),(1,.s (.int .i64)),(2,.s (.int .i64)),(3,.s (.fn 32)),(8,.s (.int .i64)),(9,.s (.int .i64))],[.vec ae 0]⟩,[.fix 0],[⟨.exit 2,⟨53,[(0,.s (.vec 0 8)),(1,.s (.int .i64)),(2,.s (.int .i64)),(3,.s (.fn 32)),(8,.s (.int .i64))],[.vec ae 0]⟩,[.fix 0]⟩],OH⟩
theorem ab3:b_ P t44 ay 1 (cf Tryz.f95 4) OI:=fun d=>by kernel_rfl
def Eh:LT:=ay.add 1 OI
theorem ab4:ax P 1 Eh (aQ Tryz.f95):=ax.a hm zm (aM _ _ _) ab3
def OJ(d:List G):Option (Option Nat × List G) :=
 (bif (ai (gi d 3).int (gi d 2).int) then (aN ((ad (gi d 0).rows.length (gi d 0).rows.length)&&true) (bG OH [.l (gi d 0).rows,.i (gi d 1).int,.i (gi d 2).int,.i (gi d 3).int,.i (gi d 3).int]) fun g g2=>(bif (aq ((gi g2 3).int+1)) then (bif ((ad (gi g2 0).rows.length (gi g2 0).rows.length)&&true) then some (none,[.l (gi g2 0).rows,.i (gi g2 1).int,.i (gi g2 2).int,.i ((gi g2 3).int+1)]) else none) else none)) else some (some 0,[.l (gi d 0).rows]))
def OK:be:=⟨1,[],⟨53,[(0,.s (.vec 0 8)),(1,.s (.int .i64)),(2,.s (.int .i64)),(3,.s (.fn 32)),(8,.s (.int .i64))],[.vec ae 0]⟩,[.fix 0],[⟨.exit 0,⟨53,[],[.vec ae 0]⟩,[.fix 0]⟩],OJ⟩
theorem ab5:b_ P t44 Eh 1 (cf Tryz.f95 1) OK:=fun d=>by kernel_rfl
def OL:LT:=Eh.add 1 OK
theorem ab6:ax P 1 OL (aQ Tryz.f95):=ax.a hm zm ab4 ab5
def vh(d:List G):Option (List G) :=
 (bif (aq ((gi d 1).int+1)) then (aN ((ad (gi d 0).rows.length (gi d 0).rows.length)&&true) (bG OJ [.l (gi d 0).rows,.i (gi d 1).int,.i (gi d 2).int,.i ((gi d 1).int+1)]) fun g g3=>some [.l (gi g3 0).rows]) else none)
def Ei:aH:=⟨95,[.s (.vec 0 8),.s (.int .i64),.s (.int .i64),.s (.fn 32)],[.vec ae 0],[.slot 0],[],[.vec ae 0],[.fix 0],[],vh⟩
theorem ab7:aX P t44 OL Tryz.f95 Ei:=fun d=>by kernel_rfl
theorem ab8:aV P Ei:=aU hm zm Tryz.func95 ab6 ab7
def t45:ak:=t44.cS Ei
theorem vj:al P t45:=zm.aW ab8

def OM(d:List G):Option (Option Nat × List G) :=
 (bif (a_ (gi d 4).int (gi d 1).int) then (fP (((ad (gi d 0).rows.length (gi d 0).rows.length)&&true)&&(vh [.l (gi d 0).rows,.i (gi d 3).int,.i (gi d 4).int]).isSome) (vh [.l (gi d 0).rows,.i (gi d 3).int,.i (gi d 4).int]) fun g1=>(bif (aq ((gi d 4).int+(gi d 2).int)) then (bif ((ad (gi d 0).rows.length (gi g1 0).rows.length)&&true) then some (none,[.l (gi g1 0).rows,.i (gi d 1).int,.i (gi d 2).int,.i (gi d 4).int,.i ((gi d 4).int+(gi d 2).int)]) else none) else none)) else (bif ((ad (gi d 0).rows.length (gi d 0).rows.length)&&true) then some (some 0,[.l (gi d 0).rows,.i (gi d 1).int,.i (gi d 2).int,.i (gi d 3).int]) else none))
def ON:be:=⟨2,[],⟨63,[(0,.s (.vec 0 8)),(1,.s (.int .i64)),(2,.s (.fn 32)),(6,.s (.int .i64)),(7,.s (.int .i64)),(8,.s (.int .i64))],[.vec ae 0]⟩,[.fix 0],[⟨.exit 0,⟨63,[(0,.s (.vec 0 8)),(1,.s (.int .i64)),(2,.s (.fn 32)),(6,.s (.int .i64)),(7,.s (.int .i64))],[.vec ae 0]⟩,[.fix 0]⟩],OM⟩
theorem ab9:b_ P t45 ay 1 (cf Tryz.f54 2) ON:=fun d=>by kernel_rfl
def Ej:LT:=ay.add 1 ON
theorem ab_:ax P 1 Ej (aQ Tryz.f54):=ax.a hm vj (aM _ _ _) ab9
def OO(d:List G):Option (Option Nat × List G) :=
 (bif (a_ (gi d 4).int (gi d 1).int) then (bif (aq ((gi d 3).int+(gi d 2).int)) then none else none) else (bif ((ad (gi d 0).rows.length (gi d 0).rows.length)&&true) then some (some 0,[.l (gi d 0).rows,.i (gi d 1).int,.i (gi d 2).int,.i (gi d 3).int]) else none))
def OP:be:=⟨9,[],⟨63,[(0,.s (.vec 0 8)),(1,.s (.int .i64)),(2,.s (.fn 32)),(6,.s (.int .i64)),(7,.s (.int .i64)),(8,.s (.int .i64))],[.vec ae 0]⟩,[.fix 0],[⟨.exit 4,⟨63,[(0,.s (.vec 0 8)),(1,.s (.int .i64)),(2,.s (.fn 32)),(6,.s (.int .i64)),(7,.s (.int .i64))],[.vec ae 0]⟩,[.fix 0]⟩],OO⟩
theorem ab':b_ P t45 Ej 1 (cf Tryz.f54 9) OP:=fun d=>by kernel_rfl
def Ek:LT:=Ej.add 1 OP
theorem aca:ax P 1 Ek (aQ Tryz.f54):=ax.a hm vj ab_ ab'
def OQ(d:List G):Option (Option Nat × List G) :=
 (bif (ai (gi d 2).int (gi d 1).int) then (bif (aq (2*(gi d 2).int)) then (aN ((ad (gi d 0).rows.length (gi d 0).rows.length)&&true) (bG OO [.l (gi d 0).rows,.i (gi d 1).int,.i (gi d 2).int,.i 0,.i (2*(gi d 2).int)]) fun g g4=>(bif (aq ((gi g4 3).int+(gi g4 2).int)) then (bif (ai ((gi g4 3).int+(gi g4 2).int) (gi g4 1).int) then none else (bif (aq ((gi g4 2).int*2)) then (bif ((ad (gi g4 0).rows.length (gi g4 0).rows.length)&&true) then some (none,[.l (gi g4 0).rows,.i (gi g4 1).int,.i ((gi g4 2).int*2)]) else none) else none)) else none)) else none) else some (some 0,[.l (gi d 0).rows]))
def OR:be:=⟨7,[],⟨63,[(0,.s (.vec 0 8)),(1,.s (.int .i64)),(2,.s (.fn 32)),(6,.s (.int .i64))],[.vec ae 0]⟩,[.fix 0],[⟨.exit 2,⟨63,[],[.vec ae 0]⟩,[.fix 0]⟩],OQ⟩
theorem acb:b_ P t45 Ek 1 (cf Tryz.f54 7) OR:=fun d=>by kernel_rfl
def OS:LT:=Ek.add 1 OR
theorem acd:ax P 1 OS (aQ Tryz.f54):=ax.a hm vj aca acb
def El(d:List G):Option (List G) :=
 (aN ((ad (gi d 0).rows.length (gi d 0).rows.length)&&true) (bG OM [.l (gi d 0).rows,.i (gi d 1).int,.i 20,.i 0,.i 20]) fun g g2=>(fP (((ad (gi g2 0).rows.length (gi g2 0).rows.length)&&true)&&(vh [.l (gi g2 0).rows,.i (gi g2 3).int,.i (gi g2 1).int]).isSome) (vh [.l (gi g2 0).rows,.i (gi g2 3).int,.i (gi g2 1).int]) fun g3=>(aN ((ad (gi g2 0).rows.length (gi g3 0).rows.length)&&true) (bG OQ [.l (gi g3 0).rows,.i (gi g2 1).int,.i (gi g2 2).int]) fun h g5=>some [.l (gi g5 0).rows])))
def Em:aH:=⟨54,[.s (.vec 0 8),.s (.int .i64),.s (.fn 32)],[.vec ae 0],[.slot 0],[],[.vec ae 0],[.fix 0],[],El⟩
theorem ace:aX P t45 OS Tryz.f54 Em:=fun d=>by kernel_rfl
theorem acf:aV P Em:=aU hm vj Tryz.func54 acd ace
def t46:ak:=t45.cS Em
theorem OT:al P t46:=vj.aW acf

def En(d:List G):Option (List G) :=
 (fP (((ad (gi d 0).rows.length (gi d 0).rows.length)&&true)&&(El [.l (gi d 0).rows,.i (((gi d 0).rows.length:Nat):Int)]).isSome) (El [.l (gi d 0).rows,.i (((gi d 0).rows.length:Nat):Int)]) fun g1=>some [.l (gi g1 0).rows])
def Eo:aH:=⟨31,[.s (.vec 0 8),.s (.fn 32)],[.vec ae 0],[.slot 0],[],[.vec ae 0],[.fix 0],[],En⟩
theorem acg:aX P t46 ay Tryz.f31 Eo:=fun d=>by kernel_rfl
theorem ach:aV P Eo:=aU hm OT Tryz.func31 (aM _ _ _) acg
def t47:ak:=t46.cS Eo
theorem OU:al P t47:=OT.aW ach

def vk(d:List G):Option (List G) :=
 (aA (pL [.l [(aF ae (gi d 0).row)],.l [(aF ae (gi d 1).row)]]) fun g1=>some [.t ((gi g1 0).int==0)])
def Ep:aH:=⟨34,[.s (.row ae),.s (.row ae)],[],[],[.s (.bool)],[],[],[],vk⟩
theorem aci:aX P t47 ay Tryz.f34 Ep:=fun d=>by kernel_rfl
theorem acj:aV P Ep:=aU hm OU Tryz.func34 (aM _ _ _) aci
def t48:ak:=t47.bt Ep
theorem zn:al P t48:=OU.aP acj

def OV(d:List G):Option (Option Nat × List G) :=
 (bif (ai (gi d 4).int (((gi d 3).int.toNat:Nat):Int)) then (bif ((aw (gi d 4).int)&&(ai (gi d 4).int (((gi d 3).int.toNat:Nat):Int))) then (bif (decide (((gi d 2).int.toNat+((gi d 4).int).toNat)<(gi d 0).rows.length)) then (bif (aq ((gi d 4).int-1)) then (bif ((aw ((gi d 4).int-1))&&(ai ((gi d 4).int-1) (((gi d 3).int.toNat:Nat):Int))) then (bif (decide (((gi d 2).int.toNat+((gi d 4).int-1).toNat)<(gi d 0).rows.length)) then (aA (vk [.l [(aF ae ((gi d 0).rows.getD ((gi d 2).int.toNat+((gi d 4).int).toNat) []))],.l [(aF ae ((gi d 0).rows.getD ((gi d 2).int.toNat+((gi d 4).int-1).toNat) []))]]) fun g2=>(bif (!(gi g2 0).bool) then (bif ((aw (gi d 4).int)&&(ai (gi d 4).int (((gi d 3).int.toNat:Nat):Int))) then (bif (decide (((gi d 2).int.toNat+((gi d 4).int).toNat)<(gi d 0).rows.length)) then (bif ((aw (gi d 1).int)&&(ai (gi d 1).int (((gi d 0).rows.length:Nat):Int))) then (bif (decide ((0+((gi d 1).int).toNat)<(gi d 0).rows.length)) then (bif (aq ((gi d 1).int+1)) then (bif (aq ((gi d 4).int+1)) then (bif ((ad (gi d 0).rows.length ((gi d 0).rows.set (0+((gi d 1).int).toNat) (a7 ae ((gi d 0).rows.getD (0+((gi d 1).int).toNat) []) 0 (aF ae ((gi d 0).rows.getD ((gi d 2).int.toNat+((gi d 4).int).toNat) [])))).length)&&true) then some (none,[.l ((gi d 0).rows.set (0+((gi d 1).int).toNat) (a7 ae ((gi d 0).rows.getD (0+((gi d 1).int).toNat) []) 0 (aF ae ((gi d 0).rows.getD ((gi d 2).int.toNat+((gi d 4).int).toNat) [])))),.i ((gi d 1).int+1),.i (((gi d 2).int.toNat:Nat):Int),.i (((gi d 3).int.toNat:Nat):Int),.i ((gi d 4).int+1)]) else none) else none) else none) else none) else none) else none) else none) else (bif (aq ((gi d 4).int+1)) then (bif ((ad (gi d 0).rows.length (gi d 0).rows.length)&&true) then some (none,[.l (gi d 0).rows,.i (gi d 1).int,.i (((gi d 2).int.toNat:Nat):Int),.i (((gi d 3).int.toNat:Nat):Int),.i ((gi d 4).int+1)]) else none) else none))) else none) else none) else none) else none) else none) else (bif ((ad (gi d 0).rows.length (gi d 0).rows.length)&&true) then some (some 0,[.l (gi d 0).rows,.i (gi d 1).int]) else none))
def OW:be:=⟨9,[],⟨66,[(0,.s (.vec 0 8)),(1,.s (.fn 34)),(5,.s (.int .i64)),(6,.s (.sub 0 8)),(7,.s (.int .i64))],[.vec ae 0]⟩,[.fix 0],[⟨.exit 2,⟨66,[(0,.s (.vec 0 8)),(5,.s (.int .i64))],[.vec ae 0]⟩,[.fix 0]⟩],OV⟩
theorem ack:b_ P t48 ay 1 (cf Tryz.f33 9) OW:=fun d=>by kernel_rfl
def Er:LT:=ay.add 1 OW
theorem acm:ax P 1 Er (aQ Tryz.f33):=ax.a hm zn (aM _ _ _) ack
def OX(d:List G):Option (Option Nat × List G) :=
 (bif (ai (gi d 1).int (((gi d 0).rows.length:Nat):Int)) then (bif ((aw (gi d 1).int)&&(ai (gi d 1).int (((gi d 0).rows.length:Nat):Int))) then (bif (decide ((0+((gi d 1).int).toNat)<(gi d 0).rows.length)) then (bif (aq ((gi d 1).int-1)) then (bif ((aw ((gi d 1).int-1))&&(ai ((gi d 1).int-1) (((gi d 0).rows.length:Nat):Int))) then (bif (decide ((0+((gi d 1).int-1).toNat)<(gi d 0).rows.length)) then (aA (vk [.l [(aF ae ((gi d 0).rows.getD (0+((gi d 1).int).toNat) []))],.l [(aF ae ((gi d 0).rows.getD (0+((gi d 1).int-1).toNat) []))]]) fun g1=>(bif (gi g1 0).bool then (bif ((aw (gi d 1).int)&&(a_ (gi d 1).int (((gi d 0).rows.length:Nat):Int))) then (aN ((ad (gi d 0).rows.length (gi d 0).rows.length)&&true) (bG OV [.l (gi d 0).rows,.i (gi d 1).int,.i (((0+((gi d 1).int).toNat):Nat):Int),.i ((((gi d 0).rows.length-((gi d 1).int).toNat):Nat):Int),.i 1]) fun g g3=>(bif ((aw (gi g3 1).int)&&(a_ (gi g3 1).int (((gi g3 0).rows.length:Nat):Int))) then (bif (Nat.ble ((0+((gi g3 1).int).toNat)+((gi g3 0).rows.length-((gi g3 1).int).toNat)) (gi g3 0).rows.length) then (bif ((aw (gi g3 1).int)&&(a_ (gi g3 1).int (((gi g3 0).rows.length:Nat):Int))) then some (some 0,[.l ((gi g3 0).rows.take (0+((gi g3 1).int).toNat)++List.replicate ((gi g3 0).rows.length-((gi g3 1).int).toNat) [.i 0,.i 0,.s (⟨#[]⟩:ByteArray),.s (⟨#[]⟩:ByteArray),.i 0,.i 0,.s (⟨#[]⟩:ByteArray),.s (⟨#[]⟩:ByteArray)]++(gi g3 0).rows.drop ((0+((gi g3 1).int).toNat)+((gi g3 0).rows.length-((gi g3 1).int).toNat))),.i (((((gi g3 1).int).toNat-0):Nat):Int)]) else none) else none) else none)) else none) else (bif (aq ((gi d 1).int+1)) then (bif ((ad (gi d 0).rows.length (gi d 0).rows.length)&&true) then some (none,[.l (gi d 0).rows,.i ((gi d 1).int+1)]) else none) else none))) else none) else none) else none) else none) else none) else (bif ((ad (gi d 0).rows.length (gi d 0).rows.length)&&true) then some (some 1,[.l (gi d 0).rows]) else none))
def OY:be:=⟨4,[],⟨66,[(0,.s (.vec 0 8)),(1,.s (.fn 34)),(5,.s (.int .i64))],[.vec ae 0]⟩,[.fix 0],[⟨.ret,⟨66,[(4,.s (.pre 0 8))],[.vec ae 0]⟩,[.fix 0]⟩,⟨.exit 0,⟨66,[(0,.s (.vec 0 8))],[.vec ae 0]⟩,[.fix 0]⟩],OX⟩
theorem acn:b_ P t48 Er 1 (cf Tryz.f33 4) OY:=fun d=>by kernel_rfl
def OZ:LT:=Er.add 1 OY
theorem aco:ax P 1 OZ (aQ Tryz.f33):=ax.a hm zn acm acn
def Es(d:List G):Option (List G) :=
 (bif (ai (((gi d 0).rows.length:Nat):Int) 2) then some [.l (gi d 0).rows,.i (((gi d 0).rows.length:Nat):Int)] else (aN ((ad (gi d 0).rows.length (gi d 0).rows.length)&&true) (bG OX [.l (gi d 0).rows,.i 1]) fun g g4=>(bif ad g 0 then some [.l (gi g4 0).rows,.i (((gi g4 1).int.toNat:Nat):Int)] else some [.l (gi g4 0).rows,.i (((gi g4 0).rows.length:Nat):Int)])))
def Et:aH:=⟨33,[.s (.vec 0 8),.s (.fn 34)],[.vec ae 0],[.slot 0],[.s (.pre 0 8)],[.vec ae 0],[.fix 0],[],Es⟩
theorem acp:aX P t48 OZ Tryz.f33 Et:=fun d=>by kernel_rfl
theorem acq:aV P Et:=aU hm zn Tryz.func33 aco acp
def t49:ak:=t48.cS Et
theorem nT:al P t49:=zn.aW acq

end
end Go.Proofs.iE
