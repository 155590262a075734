/-
 What is proved here: functions of the program as functions on data. No condition.
-/
import Derived.Test.YtdabjgppkghiaaaGreatDoorML1
set_option linter.all false
open Int renaming tdiv→eG,tmod→ij
open Nat renaming beq→ah
namespace Go.Proofs.jJ
open Go Go.AL Go.Proofs
noncomputable section
def jb(d:List G):Option (List G) :=
 (bif (au (gi d 0).int (gi d 1).int) then some [.t true] else some [.t (au (gi d 2).int (gi d 0).int)])
def Au:aG:=⟨31,[.s (.int .i64),.s (.int .i64),.s (.int .i64)],[],[],[.s (.bool)],[],[],[],jb⟩
theorem Rx:bp P t5 aF Tryz.f31 Au:=fun d=>by kernel_rfl
theorem Ry:bf P Au:=bB hm Hz Tryz.func31 (aT _ _ _) Rx
def t6:al:=t5.bF Au
theorem HA:ao P t6:=Hz.aP Ry

def pr(d:List G):Option (List G) :=
 (aA (jb [.i (gi d 0).int,.i 0,.i 345686399999]) fun g1=>some [.t (!(gi g1 0).bool)])
def Av:aG:=⟨21,[.s (.int .i64)],[],[],[.s (.bool)],[],[],[],pr⟩
theorem Rz:bp P t6 aF Tryz.f21 Av:=fun d=>by kernel_rfl
theorem RA:bf P Av:=bB hm HA Tryz.func21 (aT _ _ _) Rz
def t7:al:=t6.bF Av
theorem HB:ao P t7:=HA.aP RA

def nI(d:List G):Option (List G) :=
 (aA (jb [.i (gi d 0).int,.i 1,.i 3]) fun g1=>some [.t (!(gi g1 0).bool)])
def Aw:aG:=⟨20,[.s (.int .i64)],[],[],[.s (.bool)],[],[],[],nI⟩
theorem RB:bp P t7 aF Tryz.f20 Aw:=fun d=>by kernel_rfl
theorem RC:bf P Aw:=bB hm HB Tryz.func20 (aT _ _ _) RB
def t8:al:=t7.bF Aw
theorem HC:ao P t8:=HB.aP RC

def la(d:List G):Option (List G) :=
 (bif (!((gi d 0).str.toList==(⟨#[]⟩:ByteArray).toList)) then (bif (aZ (((gi d 0).str.size:Nat):Int) 40) then (bif (au 0 (((gi d 0).str.size:Nat):Int)) then (aA (wa [.s (⟨#[97,98,99,100,101,102,103,104,105,106,107,108,109,110,111,112,113,114,115,116,117,118,119,120,121,122]⟩:ByteArray),.i (((gi d 0).str.data.toList.getD 0 0).toNat:Int)]) fun g1=>(bif (aZ 0 (gi g1 0).int) then (aA (wb [.s (gi d 0).str,.s (⟨#[97,98,99,100,101,102,103,104,105,106,107,108,109,110,111,112,113,114,115,116,117,118,119,120,121,122,48,49,50,51,52,53,54,55,56,57,45,95]⟩:ByteArray)]) fun g2=>some [.t ((gi g2 0).str.toList==(⟨#[]⟩:ByteArray).toList)]) else some [.t false])) else none) else some [.t false]) else some [.t false])
def Ax:aG:=⟨19,[.s (.str)],[],[],[.s (.bool)],[],[],[],la⟩
theorem RD:bp P t8 aF Tryz.f19 Ax:=fun d=>by kernel_rfl
theorem RE:bf P Ax:=bB hm HC Tryz.func19 (aT _ _ _) RD
def t9:al:=t8.bF Ax
theorem HD:ao P t9:=HC.aP RE

def Ay(d:List G):Option (List G) :=
 (aA (we [.s (gi d 0).str]) fun g1=>some [.t (gi g1 1).bool])
def Az:aG:=⟨74,[.s (.str)],[],[],[.s (.bool)],[],[],[],Ay⟩
theorem RF:bp P t9 aF Tryz.f74 Az:=fun d=>by kernel_rfl
theorem RG:bf P Az:=bB hm HD Tryz.func74 (aT _ _ _) RF
def t10:al:=t9.bF Az
theorem HF:ao P t10:=HD.aP RG

def AA(d:List G):Option (List G) :=
 (bif ((gi d 0).str.toList==(⟨#[]⟩:ByteArray).toList) then some [.t true] else (aA (la [.s (gi d 0).str]) fun g1=>some [.t (gi g1 0).bool]))
def AB:aG:=⟨90,[.s (.str)],[],[],[.s (.bool)],[],[],[],AA⟩
theorem RH:bp P t10 aF Tryz.f90 AB:=fun d=>by kernel_rfl
theorem RI:bf P AB:=bB hm HF Tryz.func90 (aT _ _ _) RH
def t11:al:=t10.bF AB
theorem HG:ao P t11:=HF.aP RI

def HH(d:List G):Option (List G) :=
 (aA (pr [.i (gi (gi d 0).row 0).int]) fun g1=>(bif (!(gi g1 0).bool) then some [.i 1] else (aA (nI [.i (gi (gi d 0).row 1).int]) fun g2=>(bif (!(gi g2 0).bool) then some [.i 4] else (aA (la [.s (gi (gi d 0).row 2).str]) fun g3=>(bif (!(gi g3 0).bool) then some [.i 5] else (aA (Ay [.s (gi (gi d 0).row 3).str]) fun g4=>(bif (!(gi g4 0).bool) then some [.i 3] else (aA (jb [.i (gi (gi d 0).row 4).int,.i 0,.i 99999]) fun g5=>(bif (gi g5 0).bool then some [.i 1] else (aA (jb [.i (gi (gi d 0).row 5).int,.i 0,.i 99999]) fun g6=>(bif (gi g6 0).bool then some [.i 1] else (aA (AA [.s (gi (gi d 0).row 6).str]) fun g7=>(bif (!(gi g7 0).bool) then some [.i 5] else (aA (AA [.s (gi (gi d 0).row 7).str]) fun g8=>(bif (!(gi g8 0).bool) then some [.i 5] else some [.i 0]))))))))))))))))
def AD:aG:=⟨71,[.s (.row fk)],[],[],[.s (.int .i64)],[],[],[],HH⟩
theorem RJ:bp P t11 aF Tryz.f71 AD:=fun d=>by kernel_rfl
theorem RL:bf P AD:=bB hm HG Tryz.func71 (aT _ _ _) RJ
def t12:al:=t11.bF AD
theorem HI:ao P t12:=HG.aP RL

def wg(d:List G):Option (List G) :=
 some [.t ((gi d 0).int != (gi d 0).int)]
def AE:aG:=⟨57,[.s (.int .i64)],[],[],[.s (.bool)],[],[],[],wg⟩
theorem RM:bp P t12 aF Tryz.f57 AE:=fun d=>by kernel_rfl
theorem RN:bf P AE:=bB hm HI Tryz.func57 (aT _ _ _) RM
def t13:al:=t12.bF AE
theorem HJ:ao P t13:=HI.aP RN

def kh(d:List G):Option (List G) :=
 (aA (wg [.i (gi d 0).int]) fun g1=>(aA (wg [.i (gi d 1).int]) fun g2=>(bif (gi g1 0).bool then (bif (gi g2 0).bool then some [.i 0] else some [.i (-1)]) else (bif (gi g2 0).bool then some [.i 1] else (bif (au (gi d 0).int (gi d 1).int) then some [.i (-1)] else (bif (au (gi d 1).int (gi d 0).int) then some [.i 1] else some [.i 0]))))))
def AF:aG:=⟨37,[.s (.int .i64),.s (.int .i64)],[],[],[.s (.int .i64)],[],[],[],kh⟩
theorem RO:bp P t13 aF Tryz.f37 AF:=fun d=>by kernel_rfl
theorem RP:bf P AF:=bB hm HJ Tryz.func37 (aT _ _ _) RO
def t14:al:=t13.bF AF
theorem AG:ao P t14:=HJ.aP RP

def pt(d:List G):Option (Option Nat × List G) :=
 (bif (au (gi d 3).int (gi d 2).int) then (bif ((aO (gi d 3).int)&&(au (gi d 3).int (((gi d 1).rows.length:Nat):Int))) then (bif ((gi ((gi d 1).rows.getD (((gi d 3).int).toNat) []) 0).int != (gi d 0).int) then some (some 0,[.i (gi ((gi d 1).rows.getD (((gi d 3).int).toNat) []) 0).int]) else (bif (ar ((gi d 3).int+1)) then some (none,[.i (gi d 0).int,.l (gi d 1).rows,.i (gi d 2).int,.i ((gi d 3).int+1)]) else none)) else none) else some (some 1,[.i (gi d 0).int]))
def HK:bI:=⟨3,[],⟨18,[(3,.s (.int .i64)),(6,.s (.list [.int .i64])),(7,.s (.int .i64)),(8,.s (.int .i64))],[]⟩,[],[⟨.ret,⟨18,[(2,.s (.int .i64))],[]⟩,[]⟩,⟨.exit 0,⟨18,[(3,.s (.int .i64))],[]⟩,[]⟩],pt⟩
theorem RQ:cP P t14 aF 0 (cU Tryz.f58 3) HK:=fun d=>by kernel_rfl
def HL:LT:=aF.add 0 HK
theorem RR:ay P 0 HL (aY Tryz.f58):=ay.a hm AG (aT _ _ _) RQ
def mq(d:List G):Option (List G) :=
 (bD true (cf pt [.i 0,.l (gi d 0).rows,.i (((gi d 0).rows.length:Nat):Int),.i 0]) fun a g1=>(bif ah a 0 then some [.i (gi g1 0).int] else some [.i (gi g1 0).int]))
def AH:aG:=⟨58,[.s (.list [.int .i64])],[],[],[.s (.int .i64)],[],[],[],mq⟩
theorem RS:bp P t14 HL Tryz.f58 AH:=fun d=>by kernel_rfl
theorem RT:bf P AH:=bB hm AG Tryz.func58 RR RS
def t15:al:=t14.bF AH
theorem HM:ao P t15:=AG.aP RT

def HN(d:List G):Option (List G) :=
 (aA (kh [.i (gi (gi d 0).row 0).int,.i (gi (gi d 1).row 0).int]) fun g1=>(aA (iH [.s (gi (gi d 0).row 3).str,.s (gi (gi d 1).row 3).str]) fun g2=>(aA (iH [.s (gi (gi d 0).row 2).str,.s (gi (gi d 1).row 2).str]) fun g3=>(aA (kh [.i (gi (gi d 0).row 1).int,.i (gi (gi d 1).row 1).int]) fun g4=>(aA (mq [.l [[.i (gi g1 0).int],[.i (gi g2 0).int],[.i (gi g3 0).int],[.i (gi g4 0).int]]]) fun g5=>some [.i (gi g5 0).int])))))
def AI:aG:=⟨72,[.s (.row fk),.s (.row fk)],[],[],[.s (.int .i64)],[],[],[],HN⟩
theorem RU:bp P t15 aF Tryz.f72 AI:=fun d=>by kernel_rfl
theorem RV:bf P AI:=bB hm HM Tryz.func72 (aT _ _ _) RU
def t16:al:=t15.bF AI
theorem AJ:ao P t16:=HM.aP RV

def HO(d:List G):Option (Option Nat × List G) :=
 (bif (au (gi d 3).int (gi d 2).int) then (bif ((aO (gi d 3).int)&&(au (gi d 3).int (((gi d 1).rows.length:Nat):Int))) then (aA (HH [.l [(bM fk ((gi d 1).rows.getD (((gi d 3).int).toNat) []))]]) fun g1=>(bif ((gi g1 0).int != 0) then some (some 0,[.i (gi g1 0).int]) else (bif (au 0 (gi d 3).int) then (bif (ar ((gi d 3).int-1)) then (bif ((aO ((gi d 3).int-1))&&(au ((gi d 3).int-1) (((gi d 0).rows.length:Nat):Int))) then (aA (HN [.l [(bM fk ((gi d 0).rows.getD (((gi d 3).int-1).toNat) []))],.l [(bM fk ((gi d 1).rows.getD (((gi d 3).int).toNat) []))]]) fun g2=>(bif (aZ 0 (gi g2 0).int) then some (some 0,[.i 7]) else (bif (ar ((gi d 3).int+1)) then some (none,[.l (gi d 0).rows,.l (gi d 1).rows,.i (gi d 2).int,.i ((gi d 3).int+1)]) else none))) else none) else none) else (bif (ar ((gi d 3).int+1)) then some (none,[.l (gi d 0).rows,.l (gi d 1).rows,.i (gi d 2).int,.i ((gi d 3).int+1)]) else none)))) else none) else some (some 1,[]))
def HP:bI:=⟨4,[],⟨34,[(0,.s (.list fk)),(9,.s (.list fk)),(10,.s (.int .i64)),(11,.s (.int .i64))],[]⟩,[],[⟨.ret,⟨34,[(2,.s (.int .i64))],[]⟩,[]⟩,⟨.exit 0,⟨34,[],[]⟩,[]⟩],HO⟩
theorem RW:cP P t16 aF 0 (cU Tryz.f48 4) HP:=fun d=>by kernel_rfl
def HQ:LT:=aF.add 0 HP
theorem RX:ay P 0 HQ (aY Tryz.f48):=ay.a hm AJ (aT _ _ _) RW
def HR(d:List G):Option (List G) :=
 (bif (au 2000 (((gi d 0).rows.length:Nat):Int)) then some [.i 2] else (bD true (cf HO [.l (gi d 0).rows,.l (gi d 0).rows,.i (((gi d 0).rows.length:Nat):Int),.i 0]) fun a g3=>(bif ah a 0 then some [.i (gi g3 0).int] else some [.i 0])))
def AK:aG:=⟨48,[.s (.list fk)],[],[],[.s (.int .i64)],[],[],[],HR⟩
theorem RY:bp P t16 HQ Tryz.f48 AK:=fun d=>by kernel_rfl
theorem RZ:bf P AK:=bB hm AJ Tryz.func48 RX RY
def t17:al:=t16.bF AK
theorem HS:ao P t17:=AJ.aP RZ

def HT(d:List G):Option (List G) :=
 (aA (we [.s (gi d 0).str]) fun g1=>some [.s (gi (gi g1 0).row 0).str])
def AM:aG:=⟨73,[.s (.str)],[],[],[.s (.str)],[],[],[],HT⟩
theorem R0:bp P t17 aF Tryz.f73 AM:=fun d=>by kernel_rfl
theorem R1:bf P AM:=bB hm HS Tryz.func73 (aT _ _ _) R0
def t18:al:=t17.bF AM
theorem AN:ao P t18:=HS.aP R1

def HU(d:List G):Option (Option Nat × List G) :=
 (bif (au (gi d 5).int (gi d 4).int) then (bif ((aO (gi d 5).int)&&(au (gi d 5).int (((gi d 3).rows.length:Nat):Int))) then (aA (HT [.s (gi ((gi d 3).rows.getD (((gi d 5).int).toNat) []) 3).str]) fun g1=>(bif (gi (kR [.str,.str,.int .i64] (gi d 0).rows [.s (gi g1 0).str,.s (gi ((gi d 3).rows.getD (((gi d 5).int).toNat) []) 2).str,.i (gi ((gi d 3).rows.getD (((gi d 5).int).toNat) []) 1).int] [.t false]) 0).bool then (bif ((ah (gi d 2).rows.length (gi d 2).rows.length)&&(decide (((gi d 2).rows.length+1)≤1048576))) then (bif (ar ((gi d 5).int+1)) then (bif ((ah ((gi d 2).rows++([[.i (gi d 5).int]]:List (List G))).length ((gi d 2).rows++([[.i (gi d 5).int]]:List (List G))).length)&&true) then some (none,[.l (fB [.str,.str,.int .i64] (gi d 0).rows [.s (gi g1 0).str,.s (gi ((gi d 3).rows.getD (((gi d 5).int).toNat) []) 2).str,.i (gi ((gi d 3).rows.getD (((gi d 5).int).toNat) []) 1).int] [.t true] (gi d 1).int.toNat),.i (((dP [.str,.str,.int .i64] (gi d 0).rows [.s (gi g1 0).str,.s (gi ((gi d 3).rows.getD (((gi d 5).int).toNat) []) 2).str,.i (gi ((gi d 3).rows.getD (((gi d 5).int).toNat) []) 1).int] (gi d 1).int.toNat):Nat):Int),.l ((gi d 2).rows++([[.i (gi d 5).int]]:List (List G))),.l (gi d 3).rows,.i (gi d 4).int,.i ((gi d 5).int+1)]) else none) else none) else none) else (bif (ar ((gi d 5).int+1)) then (bif ((ah (gi d 2).rows.length (gi d 2).rows.length)&&true) then some (none,[.l (fB [.str,.str,.int .i64] (gi d 0).rows [.s (gi g1 0).str,.s (gi ((gi d 3).rows.getD (((gi d 5).int).toNat) []) 2).str,.i (gi ((gi d 3).rows.getD (((gi d 5).int).toNat) []) 1).int] [.t true] (gi d 1).int.toNat),.i (((dP [.str,.str,.int .i64] (gi d 0).rows [.s (gi g1 0).str,.s (gi ((gi d 3).rows.getD (((gi d 5).int).toNat) []) 2).str,.i (gi ((gi d 3).rows.getD (((gi d 5).int).toNat) []) 1).int] (gi d 1).int.toNat):Nat):Int),.l (gi d 2).rows,.l (gi d 3).rows,.i (gi d 4).int,.i ((gi d 5).int+1)]) else none) else none))) else none) else (bif ((ah (gi d 2).rows.length (gi d 2).rows.length)&&true) then some (some 0,[.l (gi d 2).rows]) else none))
def HV:bI:=⟨4,[(4,[.int .i64])],⟨35,[(3,.s (.map 0)),(4,.s (.vec 1 1)),(9,.s (.list fk)),(10,.s (.int .i64)),(11,.s (.int .i64))],[.map (.agg [.str,.str,.int .i64]) (.one (.bool)),.vec [.int .i64] 0]⟩,[.slot 3,.slot 4],[⟨.exit 0,⟨35,[(4,.s (.vec 0 1))],[.vec [.int .i64] 0]⟩,[.slot 4]⟩],HU⟩
theorem R2:cP P t18 (aF.rE [(6,[.hole [.str,.str,.int .i64]])]) 0 (cU Tryz.f49 4) HV:=fun d=>by kernel_rfl
def HW:LT:=(aF.rE [(6,[.hole [.str,.str,.int .i64]])]).add 0 HV
theorem R3:ay P 0 HW (aY Tryz.f49):=ay.a hm AN (Gj _) R2
def HX(d:List G):Option (List G) :=
 (bD true (cf HU [.l [],.i 0,.l [],.l (gi d 0).rows,.i (((gi d 0).rows.length:Nat):Int),.i 0]) fun a g2=>(bif ((ah (gi g2 0).rows.length (gi g2 0).rows.length)&&true) then some [.l (gi g2 0).rows] else none))
def AO:aG:=⟨49,[.s (.list fk)],[],[],[.s (.list [.int .i64])],[],[],[],HX⟩
theorem R4:bp P t18 HW Tryz.f49 AO:=fun d=>by kernel_rfl
theorem R5:bf P AO:=bB hm AN Tryz.func49 R3 R4
def t19:al:=t18.bF AO
theorem HY:ao P t19:=AN.aP R5

def R6(d:List G):Option (List G) :=
 (aA (HR [.l (gi d 0).rows]) fun g1=>(bif ((gi g1 0).int != 0) then some [.l [],.i (gi g1 0).int] else (aA (HX [.l (gi d 0).rows]) fun g2=>some [.l (gi g2 0).rows,.i 0])))
def AP:aG:=⟨27,[.s (.list fk)],[],[],[.s (.list [.int .i64]),.s (.int .i64)],[],[],[],R6⟩
theorem R7:bp P t19 aF Tryz.f27 AP:=fun d=>by kernel_rfl
theorem R8:bf P AP:=bB hm HY Tryz.func27 (aT _ _ _) R7
def t20:al:=t19.bF AP
theorem AQ:ao P t20:=HY.aP R8

def wh(d:List G):Option (Option Nat × List G) :=
 (bif (au (gi d 2).int (gi d 1).int) then (bif (ar (eG (gi d 2).int 2)) then (bif ((eG (gi d 2).int 2)==1) then (bif ((aO (gi d 2).int)&&(au (gi d 2).int (((gi d 0).str.size:Nat):Int))) then (bif (au (((gi d 0).str.data.toList.getD (((gi d 2).int).toNat) 0).toNat:Int) 48) then some (some 0,[.t false]) else (bif ((aO (gi d 2).int)&&(au (gi d 2).int (((gi d 0).str.size:Nat):Int))) then (bif (au 57 (((gi d 0).str.data.toList.getD (((gi d 2).int).toNat) 0).toNat:Int)) then some (some 0,[.t false]) else (bif (ar ((gi d 2).int+1)) then some (none,[.s (gi d 0).str,.i (gi d 1).int,.i ((gi d 2).int+1)]) else none)) else none)) else none) else (bif ((eG (gi d 2).int 2)==2) then (bif ((aO (gi d 2).int)&&(au (gi d 2).int (((gi d 0).str.size:Nat):Int))) then (bif (au (((gi d 0).str.data.toList.getD (((gi d 2).int).toNat) 0).toNat:Int) 97) then some (some 0,[.t false]) else (bif ((aO (gi d 2).int)&&(au (gi d 2).int (((gi d 0).str.size:Nat):Int))) then (bif (au 120 (((gi d 0).str.data.toList.getD (((gi d 2).int).toNat) 0).toNat:Int)) then some (some 0,[.t false]) else (bif (ar ((gi d 2).int+1)) then some (none,[.s (gi d 0).str,.i (gi d 1).int,.i ((gi d 2).int+1)]) else none)) else none)) else none) else (bif ((aO (gi d 2).int)&&(au (gi d 2).int (((gi d 0).str.size:Nat):Int))) then (bif (au (((gi d 0).str.data.toList.getD (((gi d 2).int).toNat) 0).toNat:Int) 97) then some (some 0,[.t false]) else (bif ((aO (gi d 2).int)&&(au (gi d 2).int (((gi d 0).str.size:Nat):Int))) then (bif (au 114 (((gi d 0).str.data.toList.getD (((gi d 2).int).toNat) 0).toNat:Int)) then some (some 0,[.t false]) else (bif (ar ((gi d 2).int+1)) then some (none,[.s (gi d 0).str,.i (gi d 1).int,.i ((gi d 2).int+1)]) else none)) else none)) else none))) else none) else some (some 1,[]))
def HZ:bI:=⟨4,[],⟨43,[(0,.s (.str)),(20,.s (.int .i64)),(21,.s (.int .i64))],[]⟩,[],[⟨.ret,⟨43,[(2,.s (.bool))],[]⟩,[]⟩,⟨.exit 0,⟨43,[],[]⟩,[]⟩],wh⟩
theorem R9:cP P t20 aF 0 (cU Tryz.f92 4) HZ:=fun d=>by kernel_rfl
def H5:LT:=aF.add 0 HZ
theorem R_:ay P 0 H5 (aY Tryz.f92):=ay.a hm AQ (aT _ _ _) R9
def H6(d:List G):Option (List G) :=
 (bif ((((gi d 0).str.size:Nat):Int) != 2) then (bif ((((gi d 0).str.size:Nat):Int) != 4) then (bif ((((gi d 0).str.size:Nat):Int) != 6) then some [.t false] else (bD true (cf wh [.s (gi d 0).str,.i (((gi d 0).str.size:Nat):Int),.i 0]) fun a g1=>(bif ah a 0 then some [.t (gi g1 0).bool] else some [.t true]))) else (bD true (cf wh [.s (gi d 0).str,.i (((gi d 0).str.size:Nat):Int),.i 0]) fun b g2=>(bif ah b 0 then some [.t (gi g2 0).bool] else some [.t true]))) else (bD true (cf wh [.s (gi d 0).str,.i (((gi d 0).str.size:Nat):Int),.i 0]) fun g g3=>(bif ah g 0 then some [.t (gi g3 0).bool] else some [.t true])))
def AR:aG:=⟨92,[.s (.str)],[],[],[.s (.bool)],[],[],[],H6⟩
theorem R':bp P t20 H5 Tryz.f92 AR:=fun d=>by kernel_rfl
theorem Sa:bf P AR:=bB hm AQ Tryz.func92 R_ R'
def t21:al:=t20.bF AR
theorem H7:ao P t21:=AQ.aP Sa

def H8(d:List G):Option (List G) :=
 (bif ((((gi d 0).str.size:Nat):Int)==6) then (aA (H6 [.s (gi d 0).str]) fun g1=>some [.t (gi g1 0).bool]) else some [.t false])
def AS:aG:=⟨75,[.s (.str)],[],[],[.s (.bool)],[],[],[],H8⟩
theorem Sb:bp P t21 aF Tryz.f75 AS:=fun d=>by kernel_rfl
theorem Sc:bf P AS:=bB hm H7 Tryz.func75 (aT _ _ _) Sb
def t22:al:=t21.bF AS
theorem AT:ao P t22:=H7.aP Sc

def H9(d:List G):Option (Option Nat × List G) :=
 (bif (au (gi d 3).int (gi d 2).int) then (bif ((aO (gi d 3).int)&&(au (gi d 3).int (((gi d 1).rows.length:Nat):Int))) then (aA (Ay [.s (gi ((gi d 1).rows.getD (((gi d 3).int).toNat) []) 0).str]) fun g1=>(bif (!(gi g1 0).bool) then some (some 0,[.i 3]) else (aA (la [.s (gi ((gi d 1).rows.getD (((gi d 3).int).toNat) []) 1).str]) fun g2=>(bif (!(gi g2 0).bool) then some (some 0,[.i 5]) else (aA (jb [.i (gi ((gi d 1).rows.getD (((gi d 3).int).toNat) []) 2).int,.i 0,.i 1000000000000]) fun g3=>(bif (gi g3 0).bool then some (some 0,[.i 1]) else (bif (!((gi ((gi d 1).rows.getD (((gi d 3).int).toNat) []) 3).str.toList==(⟨#[]⟩:ByteArray).toList)) then (aA (H8 [.s (gi ((gi d 1).rows.getD (((gi d 3).int).toNat) []) 3).str]) fun g4=>(bif (!(gi g4 0).bool) then some (some 0,[.i 3]) else (bif (au 0 (gi d 3).int) then (bif (ar ((gi d 3).int-1)) then (bif ((aO ((gi d 3).int-1))&&(au ((gi d 3).int-1) (((gi d 0).rows.length:Nat):Int))) then (aA (iH [.s (gi ((gi d 0).rows.getD (((gi d 3).int-1).toNat) []) 1).str,.s (gi ((gi d 1).rows.getD (((gi d 3).int).toNat) []) 1).str]) fun g5=>(bif (ar ((gi d 3).int-1)) then (bif ((aO ((gi d 3).int-1))&&(au ((gi d 3).int-1) (((gi d 0).rows.length:Nat):Int))) then (aA (iH [.s (gi ((gi d 0).rows.getD (((gi d 3).int-1).toNat) []) 0).str,.s (gi ((gi d 1).rows.getD (((gi d 3).int).toNat) []) 0).str]) fun g6=>(aA (mq [.l [[.i (gi g5 0).int],[.i (gi g6 0).int]]]) fun g7=>(bif (aZ 0 (gi g7 0).int) then some (some 0,[.i 7]) else (bif (ar ((gi d 3).int+1)) then some (none,[.l (gi d 0).rows,.l (gi d 1).rows,.i (gi d 2).int,.i ((gi d 3).int+1)]) else none)))) else none) else none)) else none) else none) else (bif (ar ((gi d 3).int+1)) then some (none,[.l (gi d 0).rows,.l (gi d 1).rows,.i (gi d 2).int,.i ((gi d 3).int+1)]) else none)))) else (bif (au 0 (gi d 3).int) then (bif (ar ((gi d 3).int-1)) then (bif ((aO ((gi d 3).int-1))&&(au ((gi d 3).int-1) (((gi d 0).rows.length:Nat):Int))) then (aA (iH [.s (gi ((gi d 0).rows.getD (((gi d 3).int-1).toNat) []) 1).str,.s (gi ((gi d 1).rows.getD (((gi d 3).int).toNat) []) 1).str]) fun g8=>(bif (ar ((gi d 3).int-1)) then (bif ((aO ((gi d 3).int-1))&&(au ((gi d 3).int-1) (((gi d 0).rows.length:Nat):Int))) then (aA (iH [.s (gi ((gi d 0).rows.getD (((gi d 3).int-1).toNat) []) 0).str,.s (gi ((gi d 1).rows.getD (((gi d 3).int).toNat) []) 0).str]) fun g9=>(aA (mq [.l [[.i (gi g8 0).int],[.i (gi g9 0).int]]]) fun g10=>(bif (aZ 0 (gi g10 0).int) then some (some 0,[.i 7]) else (bif (ar ((gi d 3).int+1)) then some (none,[.l (gi d 0).rows,.l (gi d 1).rows,.i (gi d 2).int,.i ((gi d 3).int+1)]) else none)))) else none) else none)) else none) else none) else (bif (ar ((gi d 3).int+1)) then some (none,[.l (gi d 0).rows,.l (gi d 1).rows,.i (gi d 2).int,.i ((gi d 3).int+1)]) else none))))))))) else none) else some (some 1,[]))
def H_:bI:=⟨4,[],⟨66,[(0,.s (.list r_)),(8,.s (.list r_)),(9,.s (.int .i64)),(10,.s (.int .i64))],[]⟩,[],[⟨.ret,⟨66,[(2,.s (.int .i64))],[]⟩,[]⟩,⟨.exit 0,⟨66,[],[]⟩,[]⟩],H9⟩
theorem Sd:cP P t22 aF 0 (cU Tryz.f50 4) H_:=fun d=>by kernel_rfl
def Ia:LT:=aF.add 0 H_
theorem Se:ay P 0 Ia (aY Tryz.f50):=ay.a hm AT (aT _ _ _) Sd
def Ib(d:List G):Option (List G) :=
 (bif (au 500 (((gi d 0).rows.length:Nat):Int)) then some [.i 2] else (bD true (cf H9 [.l (gi d 0).rows,.l (gi d 0).rows,.i (((gi d 0).rows.length:Nat):Int),.i 0]) fun a g11=>(bif ah a 0 then some [.i (gi g11 0).int] else some [.i 0])))
def AU:aG:=⟨50,[.s (.list r_)],[],[],[.s (.int .i64)],[],[],[],Ib⟩
theorem Sf:bp P t22 Ia Tryz.f50 AU:=fun d=>by kernel_rfl
theorem Sg:bf P AU:=bB hm AT Tryz.func50 Se Sf
def t23:al:=t22.bF AU
theorem AW:ao P t23:=AT.aP Sg

def lb(d:List G):Option (Option Nat × List G) :=
 (bif ((aO (IntKind.u8.wrap ((gi d 0).int)))&&(au (IntKind.u8.wrap ((gi d 0).int)) 256)) then (bif (ar (((⟨#[0,1,2,2,3,3,3,3,4,4,4,4,4,4,4,4,5,5,5,5,5,5,5,5,5,5,5,5,5,5,5,5,6,6,6,6,6,6,6,6,6,6,6,6,6,6,6,6,6,6,6,6,6,6,6,6,6,6,6,6,6,6,6,6,7,7,7,7,7,7,7,7,7,7,7,7,7,7,7,7,7,7,7,7,7,7,7,7,7,7,7,7,7,7,7,7,7,7,7,7,7,7,7,7,7,7,7,7,7,7,7,7,7,7,7,7,7,7,7,7,7,7,7,7,7,7,7,7,8,8,8,8,8,8,8,8,8,8,8,8,8,8,8,8,8,8,8,8,8,8,8,8,8,8,8,8,8,8,8,8,8,8,8,8,8,8,8,8,8,8,8,8,8,8,8,8,8,8,8,8,8,8,8,8,8,8,8,8,8,8,8,8,8,8,8,8,8,8,8,8,8,8,8,8,8,8,8,8,8,8,8,8,8,8,8,8,8,8,8,8,8,8,8,8,8,8,8,8,8,8,8,8,8,8,8,8,8,8,8,8,8,8,8,8,8,8,8,8,8,8,8,8,8,8,8,8]⟩:ByteArray).data.toList.getD ((IntKind.u8.wrap ((gi d 0).int)).toNat) 0).toNat:Int)) then (bif (ar ((gi d 1).int+(((⟨#[0,1,2,2,3,3,3,3,4,4,4,4,4,4,4,4,5,5,5,5,5,5,5,5,5,5,5,5,5,5,5,5,6,6,6,6,6,6,6,6,6,6,6,6,6,6,6,6,6,6,6,6,6,6,6,6,6,6,6,6,6,6,6,6,7,7,7,7,7,7,7,7,7,7,7,7,7,7,7,7,7,7,7,7,7,7,7,7,7,7,7,7,7,7,7,7,7,7,7,7,7,7,7,7,7,7,7,7,7,7,7,7,7,7,7,7,7,7,7,7,7,7,7,7,7,7,7,7,8,8,8,8,8,8,8,8,8,8,8,8,8,8,8,8,8,8,8,8,8,8,8,8,8,8,8,8,8,8,8,8,8,8,8,8,8,8,8,8,8,8,8,8,8,8,8,8,8,8,8,8,8,8,8,8,8,8,8,8,8,8,8,8,8,8,8,8,8,8,8,8,8,8,8,8,8,8,8,8,8,8,8,8,8,8,8,8,8,8,8,8,8,8,8,8,8,8,8,8,8,8,8,8,8,8,8,8,8,8,8,8,8,8,8,8,8,8,8,8,8,8,8,8,8,8,8,8]⟩:ByteArray).data.toList.getD ((IntKind.u8.wrap ((gi d 0).int)).toNat) 0).toNat:Int))) then some (some 0,[.i ((gi d 1).int+(((⟨#[0,1,2,2,3,3,3,3,4,4,4,4,4,4,4,4,5,5,5,5,5,5,5,5,5,5,5,5,5,5,5,5,6,6,6,6,6,6,6,6,6,6,6,6,6,6,6,6,6,6,6,6,6,6,6,6,6,6,6,6,6,6,6,6,7,7,7,7,7,7,7,7,7,7,7,7,7,7,7,7,7,7,7,7,7,7,7,7,7,7,7,7,7,7,7,7,7,7,7,7,7,7,7,7,7,7,7,7,7,7,7,7,7,7,7,7,7,7,7,7,7,7,7,7,7,7,7,7,8,8,8,8,8,8,8,8,8,8,8,8,8,8,8,8,8,8,8,8,8,8,8,8,8,8,8,8,8,8,8,8,8,8,8,8,8,8,8,8,8,8,8,8,8,8,8,8,8,8,8,8,8,8,8,8,8,8,8,8,8,8,8,8,8,8,8,8,8,8,8,8,8,8,8,8,8,8,8,8,8,8,8,8,8,8,8,8,8,8,8,8,8,8,8,8,8,8,8,8,8,8,8,8,8,8,8,8,8,8,8,8,8,8,8,8,8,8,8,8,8,8,8,8,8,8,8,8]⟩:ByteArray).data.toList.getD ((IntKind.u8.wrap ((gi d 0).int)).toNat) 0).toNat:Int))]) else none) else none) else none)
def Ic:bI:=⟨10,[],⟨25,[(0,.s (.int .u64)),(2,.s (.int .i64))],[]⟩,[],[⟨.ret,⟨25,[(2,.s (.int .i64))],[]⟩,[]⟩],lb⟩
theorem Si:jE P t23 aF 0 (cutAt Tryz.f111 10) Ic:=fun d=>by kernel_rfl
def Ie:LT:=aF.gk 0 Ic
theorem Sj:ay P 0 Ie (aY Tryz.f111):=ay.aC hm AW (aT _ _ _) Si
def If(d:List G):Option (List G) :=
 (bif (aZ 4294967296 (gi d 0).int) then (bif (aZ 65536 (eQ .u64 (gi d 0).int 32)) then (bif (aZ 256 (eQ .u64 (eQ .u64 (gi d 0).int 32) 16)) then (bD true (dR (lb [.i (eQ .u64 (eQ .u64 (eQ .u64 (gi d 0).int 32) 16) 8),.i 56])) fun a g1=>some [.i (gi g1 0).int]) else (bD true (dR (lb [.i (eQ .u64 (eQ .u64 (gi d 0).int 32) 16),.i 48])) fun b g2=>some [.i (gi g2 0).int])) else (bif (aZ 256 (eQ .u64 (gi d 0).int 32)) then (bD true (dR (lb [.i (eQ .u64 (eQ .u64 (gi d 0).int 32) 8),.i 40])) fun g g3=>some [.i (gi g3 0).int]) else (bD true (dR (lb [.i (eQ .u64 (gi d 0).int 32),.i 32])) fun h g4=>some [.i (gi g4 0).int]))) else (bif (aZ 65536 (gi d 0).int) then (bif (aZ 256 (eQ .u64 (gi d 0).int 16)) then (bD true (dR (lb [.i (eQ .u64 (eQ .u64 (gi d 0).int 16) 8),.i 24])) fun k g5=>some [.i (gi g5 0).int]) else (bD true (dR (lb [.i (eQ .u64 (gi d 0).int 16),.i 16])) fun l g6=>some [.i (gi g6 0).int])) else (bif (aZ 256 (gi d 0).int) then (bD true (dR (lb [.i (eQ .u64 (gi d 0).int 8),.i 8])) fun q g7=>some [.i (gi g7 0).int]) else (bD true (dR (lb [.i (gi d 0).int,.i 0])) fun r g8=>some [.i (gi g8 0).int]))))
def AX:aG:=⟨111,[.s (.int .u64)],[],[],[.s (.int .i64)],[],[],[],If⟩
theorem Sk:bp P t23 Ie Tryz.f111 AX:=fun d=>by kernel_rfl
theorem Sl:bf P AX:=bB hm AW Tryz.func111 Sj Sk
def t24:al:=t23.bF AX
theorem Ig:ao P t24:=AW.aP Sl

def Ih(d:List G):Option (List G) :=
 (aA (If [.i (gi d 0).int]) fun g1=>some [.i (gi g1 0).int])
def AY:aG:=⟨89,[.s (.int .u64)],[],[],[.s (.int .i64)],[],[],[],Ih⟩
theorem Sm:bp P t24 aF Tryz.f89 AY:=fun d=>by kernel_rfl
theorem Sn:bf P AY:=bB hm Ig Tryz.func89 (aT _ _ _) Sm
def t25:al:=t24.bF AY
theorem Ii:ao P t25:=Ig.aP Sn

def Ij(d:List G):Option (List G) :=
 (aA (kh [.i (gi (gi d 1).row 1).int,.i (gi (gi d 0).row 1).int]) fun g1=>(aA (iH [.s (gi (gi d 0).row 2).str,.s (gi (gi d 1).row 2).str]) fun g2=>(aA (mq [.l [[.i (gi g1 0).int],[.i (gi g2 0).int]]]) fun g3=>some [.i (gi g3 0).int])))
def AZ:aG:=⟨77,[.s (.row bP),.s (.row bP)],[],[],[.s (.int .i64)],[],[],[],Ij⟩
theorem Sp:bp P t25 aF Tryz.f77 AZ:=fun d=>by kernel_rfl
theorem Sq:bf P AZ:=bB hm Ii Tryz.func77 (aT _ _ _) Sp
def t26:al:=t25.bF AZ
theorem wk:ao P t26:=Ii.aP Sq

def Ik(d:List G):Option (Option Nat × List G) :=
 (bif (au (gi d 1).int (gi d 4).int) then (bif ((aO (gi d 4).int)&&(au (gi d 4).int (((gi d 0).rows.length:Nat):Int))) then (bif (decide ((0+((gi d 4).int).toNat)<(gi d 0).rows.length)) then (bif (ar ((gi d 4).int-1)) then (bif ((aO ((gi d 4).int-1))&&(au ((gi d 4).int-1) (((gi d 0).rows.length:Nat):Int))) then (bif (decide ((0+((gi d 4).int-1).toNat)<(gi d 0).rows.length)) then (aA (Ij [.l [(bM bP ((gi d 0).rows.getD (0+((gi d 4).int).toNat) []))],.l [(bM bP ((gi d 0).rows.getD (0+((gi d 4).int-1).toNat) []))]]) fun g1=>(bif (au (gi g1 0).int 0) then (bif (ar ((gi d 4).int-1)) then (bif (ar ((gi d 4).int-1)) then (bif ((aO ((gi d 4).int-1))&&(au ((gi d 4).int-1) (((gi d 0).rows.length:Nat):Int))) then (bif (decide ((0+((gi d 4).int-1).toNat)<(gi d 0).rows.length)) then (bif ((aO (gi d 4).int)&&(au (gi d 4).int (((gi d 0).rows.length:Nat):Int))) then (bif (decide ((0+((gi d 4).int).toNat)<(gi d 0).rows.length)) then (bif ((aO (gi d 4).int)&&(au (gi d 4).int (((gi d 0).rows.length:Nat):Int))) then (bif (decide ((0+((gi d 4).int).toNat)<(gi d 0).rows.length)) then (bif ((aO ((gi d 4).int-1))&&(au ((gi d 4).int-1) (((gi d 0).rows.length:Nat):Int))) then (bif (decide ((0+((gi d 4).int-1).toNat)<((gi d 0).rows.set (0+((gi d 4).int).toNat) (bT bP ((gi d 0).rows.getD (0+((gi d 4).int).toNat) []) 0 (bM bP ((gi d 0).rows.getD (0+((gi d 4).int-1).toNat) [])))).length)) then (bif (ar ((gi d 4).int-1)) then (bif ((ah (gi d 0).rows.length (((gi d 0).rows.set (0+((gi d 4).int).toNat) (bT bP ((gi d 0).rows.getD (0+((gi d 4).int).toNat) []) 0 (bM bP ((gi d 0).rows.getD (0+((gi d 4).int-1).toNat) [])))).set (0+((gi d 4).int-1).toNat) (bT bP (((gi d 0).rows.set (0+((gi d 4).int).toNat) (bT bP ((gi d 0).rows.getD (0+((gi d 4).int).toNat) []) 0 (bM bP ((gi d 0).rows.getD (0+((gi d 4).int-1).toNat) [])))).getD (0+((gi d 4).int-1).toNat) []) 0 (bM bP ((gi d 0).rows.getD (0+((gi d 4).int).toNat) [])))).length)&&true) then some (none,[.l (((gi d 0).rows.set (0+((gi d 4).int).toNat) (bT bP ((gi d 0).rows.getD (0+((gi d 4).int).toNat) []) 0 (bM bP ((gi d 0).rows.getD (0+((gi d 4).int-1).toNat) [])))).set (0+((gi d 4).int-1).toNat) (bT bP (((gi d 0).rows.set (0+((gi d 4).int).toNat) (bT bP ((gi d 0).rows.getD (0+((gi d 4).int).toNat) []) 0 (bM bP ((gi d 0).rows.getD (0+((gi d 4).int-1).toNat) [])))).getD (0+((gi d 4).int-1).toNat) []) 0 (bM bP ((gi d 0).rows.getD (0+((gi d 4).int).toNat) [])))),.i (gi d 1).int,.i (gi d 2).int,.i (gi d 3).int,.i ((gi d 4).int-1)]) else none) else none) else none) else none) else none) else none) else none) else none) else none) else none) else none) else none) else (bif ((ah (gi d 0).rows.length (gi d 0).rows.length)&&true) then some (some 0,[.l (gi d 0).rows,.i (gi d 1).int,.i (gi d 2).int,.i (gi d 3).int]) else none))) else none) else none) else none) else none) else none) else (bif ((ah (gi d 0).rows.length (gi d 0).rows.length)&&true) then some (some 0,[.l (gi d 0).rows,.i (gi d 1).int,.i (gi d 2).int,.i (gi d 3).int]) else none))
def Il:bI:=⟨4,[],⟨53,[(0,.s (.vec 0 3)),(1,.s (.int .i64)),(2,.s (.int .i64)),(3,.s (.fn 77)),(8,.s (.int .i64)),(9,.s (.int .i64))],[.vec bP 0]⟩,[.fix 0],[⟨.exit 2,⟨53,[(0,.s (.vec 0 3)),(1,.s (.int .i64)),(2,.s (.int .i64)),(3,.s (.fn 77)),(8,.s (.int .i64))],[.vec bP 0]⟩,[.fix 0]⟩],Ik⟩
theorem Sr:cP P t26 aF 1 (cU Tryz.f116 4) Il:=fun d=>by kernel_rfl
def A0:LT:=aF.add 1 Il
theorem Ss:ay P 1 A0 (aY Tryz.f116):=ay.a hm wk (aT _ _ _) Sr
def Im(d:List G):Option (Option Nat × List G) :=
 (bif (au (gi d 3).int (gi d 2).int) then (bD ((ah (gi d 0).rows.length (gi d 0).rows.length)&&true) (cf Ik [.l (gi d 0).rows,.i (gi d 1).int,.i (gi d 2).int,.i (gi d 3).int,.i (gi d 3).int]) fun a g2=>(bif (ar ((gi g2 3).int+1)) then (bif ((ah (gi g2 0).rows.length (gi g2 0).rows.length)&&true) then some (none,[.l (gi g2 0).rows,.i (gi g2 1).int,.i (gi g2 2).int,.i ((gi g2 3).int+1)]) else none) else none)) else some (some 0,[.l (gi d 0).rows]))
def Io:bI:=⟨1,[],⟨53,[(0,.s (.vec 0 3)),(1,.s (.int .i64)),(2,.s (.int .i64)),(3,.s (.fn 77)),(8,.s (.int .i64))],[.vec bP 0]⟩,[.fix 0],[⟨.exit 0,⟨53,[],[.vec bP 0]⟩,[.fix 0]⟩],Im⟩
theorem Su:cP P t26 A0 1 (cU Tryz.f116 1) Io:=fun d=>by kernel_rfl
def Ip:LT:=A0.add 1 Io
theorem Sv:ay P 1 Ip (aY Tryz.f116):=ay.a hm wk Ss Su
def A1(d:List G):Option (List G) :=
 (bif (ar ((gi d 1).int+1)) then (bD ((ah (gi d 0).rows.length (gi d 0).rows.length)&&true) (cf Im [.l (gi d 0).rows,.i (gi d 1).int,.i (gi d 2).int,.i ((gi d 1).int+1)]) fun a g3=>some [.l (gi g3 0).rows]) else none)
def A2:aG:=⟨116,[.s (.vec 0 3),.s (.int .i64),.s (.int .i64),.s (.fn 77)],[.vec bP 0],[.slot 0],[],[.vec bP 0],[.fix 0],[],A1⟩
theorem Sw:bp P t26 Ip Tryz.f116 A2:=fun d=>by kernel_rfl
theorem Sx:bf P A2:=bB hm wk Tryz.func116 Sv Sw
def t27:al:=t26.dt A2
theorem A3:ao P t27:=wk.aW Sx

def Iq(d:List G):Option (Option Nat × List G) :=
 (bif (ar ((gi d 2).int-(gi d 1).int)) then (bif (aZ ((gi d 2).int-(gi d 1).int) 12) then (hG (((ah (gi d 0).rows.length (gi d 0).rows.length)&&true)&&(A1 [.l (gi d 0).rows,.i (gi d 1).int,.i (gi d 2).int]).isSome) (A1 [.l (gi d 0).rows,.i (gi d 1).int,.i (gi d 2).int]) fun g1=>some (some 0,[.l (gi g1 0).rows])) else (bif ((gi d 3).int==0) then none else (bif (!(gi d 4).bool) then none else none))) else none)
def Ir:bI:=⟨2,[],⟨148,[(0,.s (.vec 0 3)),(1,.s (.int .i64)),(2,.s (.int .i64)),(3,.s (.int .i64)),(4,.s (.fn 77)),(10,.s (.bool)),(11,.s (.bool))],[.vec bP 0]⟩,[.fix 0],[⟨.ret,⟨148,[],[.vec bP 0]⟩,[.fix 0]⟩],Iq⟩
theorem Sy:cP P t27 aF 1 (cU Tryz.f93 2) Ir:=fun d=>by kernel_rfl
def It:LT:=aF.add 1 Ir
theorem Sz:ay P 1 It (aY Tryz.f93):=ay.a hm A3 (aT _ _ _) Sy
def A4(d:List G):Option (List G) :=
 (bD ((ah (gi d 0).rows.length (gi d 0).rows.length)&&true) (cf Iq [.l (gi d 0).rows,.i (gi d 1).int,.i (gi d 2).int,.i (gi d 3).int,.t true,.t true]) fun a g2=>some [.l (gi g2 0).rows])
def A5:aG:=⟨93,[.s (.vec 0 3),.s (.int .i64),.s (.int .i64),.s (.int .i64),.s (.fn 77)],[.vec bP 0],[.slot 0],[],[.vec bP 0],[.fix 0],[],A4⟩
theorem SA:bp P t27 It Tryz.f93 A5:=fun d=>by kernel_rfl
theorem SB:bf P A5:=bB hm A3 Tryz.func93 Sz SA
def t28:al:=t27.dt A5
theorem Iu:ao P t28:=A3.aW SB

def A6(d:List G):Option (List G) :=
 (aA (Ih [.i (IntKind.u64.wrap (((gi d 0).rows.length:Nat):Int))]) fun g1=>(hG (((ah (gi d 0).rows.length (gi d 0).rows.length)&&true)&&(A4 [.l (gi d 0).rows,.i 0,.i (((gi d 0).rows.length:Nat):Int),.i (gi g1 0).int]).isSome) (A4 [.l (gi d 0).rows,.i 0,.i (((gi d 0).rows.length:Nat):Int),.i (gi g1 0).int]) fun g2=>some [.l (gi g2 0).rows]))
def A7:aG:=⟨76,[.s (.vec 0 3),.s (.fn 77)],[.vec bP 0],[.slot 0],[],[.vec bP 0],[.fix 0],[],A6⟩
theorem SC:bp P t28 aF Tryz.f76 A7:=fun d=>by kernel_rfl
theorem SD:bf P A7:=bB hm Iu Tryz.func76 (aT _ _ _) SC
def t29:al:=t28.dt A7
theorem wm:ao P t29:=Iu.aW SD

def A8(d:List G):Option (Option Nat × List G) :=
 (bif (gi d 4).bool then (bif (ar ((gi d 1).int-1)) then (bif ((aO ((gi d 1).int-1))&&(au ((gi d 1).int-1) (((gi d 0).rows.length:Nat):Int))) then (bif (decide ((0+((gi d 1).int-1).toNat)<(gi d 0).rows.length)) then (bif ((aO (gi d 1).int)&&(au (gi d 1).int (((gi d 0).rows.length:Nat):Int))) then (bif (decide ((0+((gi d 1).int).toNat)<(gi d 0).rows.length)) then (bif ((ah (gi d 0).rows.length ((gi d 0).rows.set (0+((gi d 1).int).toNat) (bT bP ((gi d 0).rows.getD (0+((gi d 1).int).toNat) []) 0 [.i (gi ((gi d 0).rows.getD (0+((gi d 1).int-1).toNat) []) 0).int])).length)&&true) then some (some 0,[.l ((gi d 0).rows.set (0+((gi d 1).int).toNat) (bT bP ((gi d 0).rows.getD (0+((gi d 1).int).toNat) []) 0 [.i (gi ((gi d 0).rows.getD (0+((gi d 1).int-1).toNat) []) 0).int])),.i (gi d 2).int,.i (gi d 3).int]) else none) else none) else none) else none) else none) else none) else (bif ((ah (gi d 0).rows.length (gi d 0).rows.length)&&true) then some (some 0,[.l (gi d 0).rows,.i (gi d 2).int,.i (gi d 3).int]) else none))
def Iv:bI:=⟨7,[],⟨45,[(0,.s (.vec 0 3)),(3,.s (.int .i64)),(7,.s (.int .i64)),(8,.s (.int .i64)),(32,.s (.bool))],[.vec bP 0]⟩,[.fix 0],[⟨.normal,⟨45,[(0,.s (.vec 0 3)),(7,.s (.int .i64)),(8,.s (.int .i64))],[.vec bP 0]⟩,[.fix 0]⟩],A8⟩
theorem SE:jE P t29 aF 1 (cutAt Tryz.f51 7) Iv:=fun d=>by kernel_rfl
def A9:LT:=aF.gk 1 Iv
theorem SF:ay P 1 A9 (aY Tryz.f51):=ay.aC hm wm (aT _ _ _) SE
def Iw(d:List G):Option (Option Nat × List G) :=
 (bif (au (gi d 2).int (gi d 1).int) then (bif (ar ((gi d 2).int+1)) then (bif ((aO (gi d 2).int)&&(au (gi d 2).int (((gi d 0).rows.length:Nat):Int))) then (bif (decide ((0+((gi d 2).int).toNat)<(gi d 0).rows.length)) then (bif (au 0 (gi d 2).int) then (bif ((aO (gi d 2).int)&&(au (gi d 2).int (((gi d 0).rows.length:Nat):Int))) then (bif (decide ((0+((gi d 2).int).toNat)<((gi d 0).rows.set (0+((gi d 2).int).toNat) (bT bP ((gi d 0).rows.getD (0+((gi d 2).int).toNat) []) 0 [.i ((gi d 2).int+1)])).length)) then (bif (ar ((gi d 2).int-1)) then (bif ((aO ((gi d 2).int-1))&&(au ((gi d 2).int-1) (((gi d 0).rows.length:Nat):Int))) then (bif (decide ((0+((gi d 2).int-1).toNat)<((gi d 0).rows.set (0+((gi d 2).int).toNat) (bT bP ((gi d 0).rows.getD (0+((gi d 2).int).toNat) []) 0 [.i ((gi d 2).int+1)])).length)) then (bD ((ah (gi d 0).rows.length ((gi d 0).rows.set (0+((gi d 2).int).toNat) (bT bP ((gi d 0).rows.getD (0+((gi d 2).int).toNat) []) 0 [.i ((gi d 2).int+1)])).length)&&true) (dR (A8 [.l ((gi d 0).rows.set (0+((gi d 2).int).toNat) (bT bP ((gi d 0).rows.getD (0+((gi d 2).int).toNat) []) 0 [.i ((gi d 2).int+1)])),.i (gi d 2).int,.i (gi d 1).int,.i (gi d 2).int,.t ((gi (((gi d 0).rows.set (0+((gi d 2).int).toNat) (bT bP ((gi d 0).rows.getD (0+((gi d 2).int).toNat) []) 0 [.i ((gi d 2).int+1)])).getD (0+((gi d 2).int).toNat) []) 1).int==(gi (((gi d 0).rows.set (0+((gi d 2).int).toNat) (bT bP ((gi d 0).rows.getD (0+((gi d 2).int).toNat) []) 0 [.i ((gi d 2).int+1)])).getD (0+((gi d 2).int-1).toNat) []) 1).int)])) fun a g2=>(bif (ar ((gi g2 2).int+1)) then (bif ((ah (gi g2 0).rows.length (gi g2 0).rows.length)&&true) then some (none,[.l (gi g2 0).rows,.i (gi g2 1).int,.i ((gi g2 2).int+1)]) else none) else none)) else none) else none) else none) else none) else none) else (bD ((ah (gi d 0).rows.length ((gi d 0).rows.set (0+((gi d 2).int).toNat) (bT bP ((gi d 0).rows.getD (0+((gi d 2).int).toNat) []) 0 [.i ((gi d 2).int+1)])).length)&&true) (dR (A8 [.l ((gi d 0).rows.set (0+((gi d 2).int).toNat) (bT bP ((gi d 0).rows.getD (0+((gi d 2).int).toNat) []) 0 [.i ((gi d 2).int+1)])),.i (gi d 2).int,.i (gi d 1).int,.i (gi d 2).int,.t false])) fun b g3=>(bif (ar ((gi g3 2).int+1)) then (bif ((ah (gi g3 0).rows.length (gi g3 0).rows.length)&&true) then some (none,[.l (gi g3 0).rows,.i (gi g3 1).int,.i ((gi g3 2).int+1)]) else none) else none))) else none) else none) else none) else (bif ((ah (gi d 0).rows.length (gi d 0).rows.length)&&true) then some (some 0,[.l (gi d 0).rows]) else none))
def Ix:bI:=⟨3,[],⟨45,[(0,.s (.vec 0 3)),(7,.s (.int .i64)),(8,.s (.int .i64))],[.vec bP 0]⟩,[.fix 0],[⟨.exit 0,⟨45,[(0,.s (.vec 0 3))],[.vec bP 0]⟩,[.fix 0]⟩],Iw⟩
theorem SG:cP P t29 A9 1 (cU Tryz.f51 3) Ix:=fun d=>by kernel_rfl
def Iy:LT:=A9.add 1 Ix
theorem SH:ay P 1 Iy (aY Tryz.f51):=ay.a hm wm SF SG
def A_(d:List G):Option (List G) :=
 (hG (((ah (gi d 0).rows.length (gi d 0).rows.length)&&true)&&(A6 [.l (gi d 0).rows]).isSome) (A6 [.l (gi d 0).rows]) fun g1=>(bD ((ah (gi d 0).rows.length (gi g1 0).rows.length)&&true) (cf Iw [.l (gi g1 0).rows,.i (((gi d 0).rows.length:Nat):Int),.i 0]) fun a g4=>(bif ((ah (gi g4 0).rows.length (gi g4 0).rows.length)&&true) then some [.l (gi g4 0).rows] else none)))
def A':aG:=⟨51,[.s (.vec 0 3)],[.vec bP 0],[.slot 0],[.s (.vec 0 3)],[.vec bP 0],[.fix 0],[],A_⟩
theorem SI:bp P t29 Iy Tryz.f51 A':=fun d=>by kernel_rfl
theorem SJ:bf P A':=bB hm wm Tryz.func51 SH SI
def t30:al:=t29.dt A'
theorem Ba:ao P t30:=wm.aW SJ

def Iz(d:List G):Option (Option Nat × List G) :=
 (bif (au (gi d 4).int (gi d 3).int) then (bif ((aO (gi d 4).int)&&(au (gi d 4).int (((gi d 2).rows.length:Nat):Int))) then (bif ((gi ((gi d 2).rows.getD (((gi d 4).int).toNat) []) 1).str.toList==(gi d 1).str.toList) then (bif ((ah (gi d 0).rows.length (gi d 0).rows.length)&&(decide (((gi d 0).rows.length+1)≤1048576))) then (bif (ar ((gi d 4).int+1)) then (bif ((ah ((gi d 0).rows++([[.i 0,.i (gi ((gi d 2).rows.getD (((gi d 4).int).toNat) []) 2).int,.s (gi ((gi d 2).rows.getD (((gi d 4).int).toNat) []) 0).str]]:List (List G))).length ((gi d 0).rows++([[.i 0,.i (gi ((gi d 2).rows.getD (((gi d 4).int).toNat) []) 2).int,.s (gi ((gi d 2).rows.getD (((gi d 4).int).toNat) []) 0).str]]:List (List G))).length)&&true) then some (none,[.l ((gi d 0).rows++([[.i 0,.i (gi ((gi d 2).rows.getD (((gi d 4).int).toNat) []) 2).int,.s (gi ((gi d 2).rows.getD (((gi d 4).int).toNat) []) 0).str]]:List (List G))),.s (gi d 1).str,.l (gi d 2).rows,.i (gi d 3).int,.i ((gi d 4).int+1)]) else none) else none) else none) else (bif (ar ((gi d 4).int+1)) then (bif ((ah (gi d 0).rows.length (gi d 0).rows.length)&&true) then some (none,[.l (gi d 0).rows,.s (gi d 1).str,.l (gi d 2).rows,.i (gi d 3).int,.i ((gi d 4).int+1)]) else none) else none)) else none) else (bif ((ah (gi d 0).rows.length (gi d 0).rows.length)&&true) then some (some 0,[.l (gi d 0).rows]) else none))
def IA:bI:=⟨8,[(7,bP)],⟨39,[(1,.s (.str)),(7,.s (.vec 0 3)),(18,.s (.list r_)),(19,.s (.int .i64)),(20,.s (.int .i64))],[.vec bP 0]⟩,[.slot 7],[⟨.exit 0,⟨39,[(7,.s (.vec 0 3))],[.vec bP 0]⟩,[.slot 7]⟩],Iz⟩
theorem SL:cP P t30 aF 0 (cU Tryz.f28 8) IA:=fun d=>by kernel_rfl
def IB:LT:=aF.add 0 IA
theorem SM:ay P 0 IB (aY Tryz.f28):=ay.a hm Ba (aT _ _ _) SL
def SN(d:List G):Option (List G) :=
 (aA (Ib [.l (gi d 0).rows]) fun g1=>(bif ((gi g1 0).int != 0) then some [.l [],.i (gi g1 0).int] else (aA (la [.s (gi d 1).str]) fun g2=>(bif (!(gi g2 0).bool) then some [.l [],.i 5] else (bD true (cf Iz [.l [],.s (gi d 1).str,.l (gi d 0).rows,.i (((gi d 0).rows.length:Nat):Int),.i 0]) fun a g3=>(hG (((ah (gi g3 0).rows.length (gi g3 0).rows.length)&&true)&&(A_ [.l (gi g3 0).rows]).isSome) (A_ [.l (gi g3 0).rows]) fun g4=>(bif ((ah (gi g4 0).rows.length (gi g4 0).rows.length)&&true) then some [.l (gi g4 0).rows,.i 0] else none)))))))
def Bb:aG:=⟨28,[.s (.list r_),.s (.str)],[],[],[.s (.list bP),.s (.int .i64)],[],[],[],SN⟩
theorem SO:bp P t30 IB Tryz.f28 Bb:=fun d=>by kernel_rfl
theorem SP:bf P Bb:=bB hm Ba Tryz.func28 SM SO
def t31:al:=t30.bF Bb
theorem Bc:ao P t31:=Ba.aP SP

def IC(d:List G):Option (Option Nat × List G) :=
 (bif (au (gi d 1).int (gi d 2).int) then (bif ((aO (gi d 2).int)&&(au (gi d 2).int (((gi d 0).rows.length:Nat):Int))) then (bif (decide ((0+((gi d 2).int).toNat)<(gi d 0).rows.length)) then (bif ((aO (gi d 1).int)&&(au (gi d 1).int (((gi d 0).rows.length:Nat):Int))) then (bif (decide ((0+((gi d 1).int).toNat)<(gi d 0).rows.length)) then (bif ((aO (gi d 1).int)&&(au (gi d 1).int (((gi d 0).rows.length:Nat):Int))) then (bif (decide ((0+((gi d 1).int).toNat)<(gi d 0).rows.length)) then (bif ((aO (gi d 2).int)&&(au (gi d 2).int (((gi d 0).rows.length:Nat):Int))) then (bif (decide ((0+((gi d 2).int).toNat)<((gi d 0).rows.set (0+((gi d 1).int).toNat) (bT [.int .i64] ((gi d 0).rows.getD (0+((gi d 1).int).toNat) []) 0 [.i (gi ((gi d 0).rows.getD (0+((gi d 2).int).toNat) []) 0).int])).length)) then (bif (ar ((gi d 1).int+1)) then (bif (ar ((gi d 2).int-1)) then (bif ((ah (gi d 0).rows.length (((gi d 0).rows.set (0+((gi d 1).int).toNat) (bT [.int .i64] ((gi d 0).rows.getD (0+((gi d 1).int).toNat) []) 0 [.i (gi ((gi d 0).rows.getD (0+((gi d 2).int).toNat) []) 0).int])).set (0+((gi d 2).int).toNat) (bT [.int .i64] (((gi d 0).rows.set (0+((gi d 1).int).toNat) (bT [.int .i64] ((gi d 0).rows.getD (0+((gi d 1).int).toNat) []) 0 [.i (gi ((gi d 0).rows.getD (0+((gi d 2).int).toNat) []) 0).int])).getD (0+((gi d 2).int).toNat) []) 0 [.i (gi ((gi d 0).rows.getD (0+((gi d 1).int).toNat) []) 0).int])).length)&&true) then some (none,[.l (((gi d 0).rows.set (0+((gi d 1).int).toNat) (bT [.int .i64] ((gi d 0).rows.getD (0+((gi d 1).int).toNat) []) 0 [.i (gi ((gi d 0).rows.getD (0+((gi d 2).int).toNat) []) 0).int])).set (0+((gi d 2).int).toNat) (bT [.int .i64] (((gi d 0).rows.set (0+((gi d 1).int).toNat) (bT [.int .i64] ((gi d 0).rows.getD (0+((gi d 1).int).toNat) []) 0 [.i (gi ((gi d 0).rows.getD (0+((gi d 2).int).toNat) []) 0).int])).getD (0+((gi d 2).int).toNat) []) 0 [.i (gi ((gi d 0).rows.getD (0+((gi d 1).int).toNat) []) 0).int])),.i ((gi d 1).int+1),.i ((gi d 2).int-1)]) else none) else none) else none) else none) else none) else none) else none) else none) else none) else none) else none) else some (some 0,[.l (gi d 0).rows]))
def ID:bI:=⟨1,[],⟨28,[(0,.s (.vec 0 1)),(2,.s (.int .i64)),(3,.s (.int .i64))],[.vec [.int .i64] 0]⟩,[.fix 0],[⟨.exit 0,⟨28,[],[.vec [.int .i64] 0]⟩,[.fix 0]⟩],IC⟩
theorem SQ:cP P t31 aF 1 (cU Tryz.f127 1) ID:=fun d=>by kernel_rfl
def IE:LT:=aF.add 1 ID
theorem SR:ay P 1 IE (aY Tryz.f127):=ay.a hm Bc (aT _ _ _) SQ
def SS(d:List G):Option (List G) :=
 (bif (ar ((((gi d 0).rows.length:Nat):Int)-1)) then (bD ((ah (gi d 0).rows.length (gi d 0).rows.length)&&true) (cf IC [.l (gi d 0).rows,.i 0,.i ((((gi d 0).rows.length:Nat):Int)-1)]) fun a g1=>some [.l (gi g1 0).rows]) else none)
def Bd:aG:=⟨127,[.s (.vec 0 1)],[.vec [.int .i64] 0],[.slot 0],[],[.vec [.int .i64] 0],[.fix 0],[],SS⟩
theorem SU:bp P t31 IE Tryz.f127 Bd:=fun d=>by kernel_rfl
theorem SV:bf P Bd:=bB hm Bc Tryz.func127 SR SU
def t32:al:=t31.dt Bd
theorem Be:ao P t32:=Bc.aW SV

def wo(r d:List G):Option (List G) :=
 (bif (ar ((gi (kR [.int .i64] (gi d 6).rows [.i (gi (gi r 0).row 1).int] [.i 0]) 0).int+1)) then (bif ((((ah (gi d 3).rows.length (gi d 3).rows.length)&&true)&&true)&&true) then some [.l (gi d 0).rows,.l (gi d 1).rows,.l (gi d 2).rows,.l (gi d 3).rows,.l (gi d 4).rows,.i (((gi d 5).int.toNat:Nat):Int),.l (fB [.int .i64] (gi d 6).rows [.i (gi (gi r 0).row 1).int] [.i ((gi (kR [.int .i64] (gi d 6).rows [.i (gi (gi r 0).row 1).int] [.i 0]) 0).int+1)] (gi d 7).int.toNat),.i (((dP [.int .i64] (gi d 6).rows [.i (gi (gi r 0).row 1).int] (gi d 7).int.toNat):Nat):Int),.i (((gi d 8).int.toNat:Nat):Int)] else none) else none)
def IF(d:List G)(b:Nat):List G:=[.l (gi d 0).rows,.l (gi d 1).rows,.l (gi d 2).rows,.l (gi d 3).rows,.l (gi d 4).rows,.i (((gi d 5).int.toNat:Nat):Int),.l (gi d 6).rows,.i (((gi d 7).int.toNat:Nat):Int),.i (b:Int)]
def SX(d:List G)(b:Nat):Bool:=((((ah (gi d 3).rows.length (gi d 3).rows.length)&&true)&&true)&&true)
def jK:dS:=⟨⟨21,[(3,.s (.map 3)),(10,.s (.addr))],[.box [.vec 1 15,.list fk,.list [.str],.list [.int .i64],.map 2],.vec nH 0,.map (.agg [.str,.int .i64]) (.one (.bool)),.map (.one (.int .i64)) (.one (.int .i64))]⟩,[.fix 0,.cell 0 0,.cell 0 4,.slot 3],[],(.agg [.str,.int .i64]),(.one (.bool)),2,0,9,10,11,12,13,fun d=>(gi d 8).int.toNat,IF,SX,wo⟩
theorem SY:nB P t32 aF 3 jK (pk (cutAt Tryz.f81 2)) (rJ (cutAt Tryz.f81 2)):=fun r d=>by kernel_rfl
def pv(d:List G):Option (Option Nat × List G) :=
 (bif ((((ah (gi d 3).rows.length (gi d 3).rows.length)&&true)&&true)&&true) then some (some 0,[.l (gi d 0).rows,.l (gi d 1).rows,.l (gi d 2).rows,.l (gi d 3).rows,.l (gi d 4).rows,.i (((gi d 5).int.toNat:Nat):Int),.l (gi d 6).rows,.i (((gi d 7).int.toNat:Nat):Int)]) else none)
def IG:bI:=⟨6,[],⟨21,[(3,.s (.map 3)),(10,.s (.addr))],[.box [.vec 1 15,.list fk,.list [.str],.list [.int .i64],.map 2],.vec nH 0,.map (.agg [.str,.int .i64]) (.one (.bool)),.map (.one (.int .i64)) (.one (.int .i64))]⟩,[],[⟨.ret,⟨21,[(2,.s (.map 3))],[.box [.vec 1 15,.list fk,.list [.str],.list [.int .i64],.map 2],.vec nH 0,.map (.agg [.str,.int .i64]) (.one (.bool)),.map (.one (.int .i64)) (.one (.int .i64))]⟩,[.fix 0,.cell 0 0,.cell 0 4,.slot 2]⟩],pv⟩
theorem SZ:jE P t32 aF 3 (zQ (cutAt Tryz.f81 2)) IG:=fun d=>by kernel_rfl
def IH(d:List G):Option (Option Nat × List G) :=
 hY jK pv (gi d 4).rows ((gi d 5).int.toNat) d
def Bf:bI:=⟨2,[],⟨21,[(0,.s (.ptr 0 0)),(3,.s (.map 3))],[.box [.vec 1 15,.list fk,.list [.str],.list [.int .i64],.map 2],.vec nH 0,.map (.agg [.str,.int .i64]) (.one (.bool)),.map (.one (.int .i64)) (.one (.int .i64))]⟩,[.fix 0,.cell 0 0,.cell 0 4,.slot 3],[⟨.ret,⟨21,[(2,.s (.map 3))],[.box [.vec 1 15,.list fk,.list [.str],.list [.int .i64],.map 2],.vec nH 0,.map (.agg [.str,.int .i64]) (.one (.bool)),.map (.one (.int .i64)) (.one (.int .i64))]⟩,[.fix 0,.cell 0 0,.cell 0 4,.slot 2]⟩],IH⟩
def II:LT:=aF.gk 3 Bf
theorem S0:∀ r d d',wo r d=some d'→(gi d' 4).rows=(gi d 4).rows∧(gi d' 5).int.toNat=(gi d 5).int.toNat:=by
 intro r d d' h;unfold wo at h;simp only[Bool.cond_eq_ite]at h
 repeat' split at h
 all_goals first|(cases h; done)|(cases h; exact⟨rfl,rfl⟩)
theorem S1:ay P 3 II (aY Tryz.f81):=ay.PJ (q:=Bf) (qr:=IG) (sp:=jK) (r0:=2) (b0:=0) (r1:=3) (b1:=1) (r2:=4) (rows:=fun d=>(gi d 4).rows) (clock:=fun d=>(gi d 5).int.toNat) (pre:=fun d=>Ps P t32 (jH (cutAt Tryz.f81 2)) (aI Bf.inv d)) (ri:=fun d=>(gi d 4).rows) (ci:=fun d=>(gi d 5).int.toNat) hm Be (fun d=>by kernel_rfl) S0 (by kernel_rfl) (by kernel_rfl) (aT _ _ _) (by kernel_rfl) (by kernel_rfl) SY (fun d=>by kernel_rfl) (fun d=>by kernel_rfl) (fun d=>by kernel_rfl) (fun d=>by kernel_rfl) (fun d=>by kernel_rfl) (fun d=>by kernel_rfl) (fun d b=>by kernel_rfl) (fun d b=>rfl) (fun d b=>⟨rfl,rfl⟩) rfl rfl SZ (fun d=>rfl)
def IJ(d:List G):Option (List G) :=
 (bD ((((ah (gi d 3).rows.length (gi d 3).rows.length)&&true)&&true)&&true) (dR (IH [.l (gi d 0).rows,.l (gi d 1).rows,.l (gi d 2).rows,.l (gi d 3).rows,.l (gi d 4).rows,.i (((gi d 5).int.toNat:Nat):Int),.l [],.i 0])) fun a g1=>(bif ((((ah (gi g1 3).rows.length (gi g1 3).rows.length)&&true)&&true)&&true) then some [.l (gi g1 0).rows,.l (gi g1 1).rows,.l (gi g1 2).rows,.l (gi g1 3).rows,.l (gi g1 4).rows,.i (((gi g1 5).int.toNat:Nat):Int),.l (gi g1 6).rows,.i (((gi g1 7).int.toNat:Nat):Int)] else none))
def wq:aG:=⟨81,[.s (.ptr 0 0)],[.box [.vec 1 15,.list fk,.list [.str],.list [.int .i64],.map 2],.vec nH 0,.map (.agg [.str,.int .i64]) (.one (.bool))],[.slot 0,.cell 0 0,.cell 0 4],[.s (.map 3)],[.box [.vec 1 15,.list fk,.list [.str],.list [.int .i64],.map 2],.vec nH 0,.map (.agg [.str,.int .i64]) (.one (.bool)),.map (.one (.int .i64)) (.one (.int .i64))],[.fix 0,.fix 1,.fix 2,.slot 0],[],IJ⟩
theorem S2:bp P t32 II Tryz.f81 wq:=fun d=>by kernel_rfl
theorem IK:bf P wq:=bB hm Be Tryz.func81 S1 S2
def t33:al:=t32.dt wq
theorem IL:ao P t33:=Be.aW IK

theorem S3:rO P ⟨146,72,71,15,15,true⟩:=PD Tryz.func146 (by kernel_rfl) rfl rfl rfl ⟨⟨_,_,_,_,_,_,rfl,⟨rfl,rfl,rfl⟩,⟨rfl,rfl,rfl⟩,⟨rfl,rfl,rfl⟩,⟨rfl,rfl,rfl⟩⟩,⟨_,_,_,_,rfl,⟨rfl,rfl,rfl⟩,⟨rfl,rfl,rfl⟩⟩,⟨_,_,_,_,_,rfl,⟨rfl,rfl,rfl⟩,⟨rfl,rfl,rfl⟩,⟨rfl,rfl,rfl⟩⟩,⟨_,_,_,_,_,_,_,_,_,_,rfl,⟨rfl,rfl,rfl⟩,⟨rfl,rfl,rfl⟩,⟨rfl,rfl,rfl⟩,⟨rfl,rfl,rfl⟩,⟨rfl,rfl,rfl⟩,⟨rfl,rfl,rfl⟩,⟨rfl,rfl,rfl⟩,⟨rfl,rfl,rfl⟩⟩⟩ (by kernel_rfl)
def S4(d:List G):Option (Option Nat × List G) :=
 z8 jK pv (gi d 4).rows ((gi d 5).int.toNat) d
theorem S5(d x:List G)(b:Nat):(ch jK.st jK.a8 [x] (jK.init d b)).bind pv=(ch jK.st jK.a8 [x] (jK.init d 0)).bind pv:=by
 simp only[PN,jK];unfold wo IF pv;dsimp +instances only[GB,GC];simp only[PO,Option.bind_some,Option.bind_none];dsimp +instances only[GB,GC];simp only[PK,Int.toNat_natCast,PL,cond_true]
def IM(d:List G):Option (List G) :=
 (bD ((((ah (gi d 3).rows.length (gi d 3).rows.length)&&true)&&true)&&true) (dR (S4 [.l (gi d 0).rows,.l (gi d 1).rows,.l (gi d 2).rows,.l (gi d 3).rows,.l (gi d 4).rows,.i (((gi d 5).int.toNat:Nat):Int),.l [],.i 0])) fun a g1=>(bif ((((ah (gi g1 3).rows.length (gi g1 3).rows.length)&&true)&&true)&&true) then some [.l (gi g1 0).rows,.l (gi g1 1).rows,.l (gi g1 2).rows,.l (gi g1 3).rows,.l (gi g1 4).rows,.i (((gi g1 5).int.toNat:Nat):Int),.l (gi g1 6).rows,.i (((gi g1 7).int.toNat:Nat):Int)] else none))
theorem S6{d r:List G}(h:IM d=some r):IJ d=some r :=
 PQ (fun v a=>PM (fun b=>rfl) (S5 _) a) h
def S7:aG:={ wq with F:=IM }
def IN:al:=t33.dt S7
theorem S8:ao P IN:=IL.aW fun d r h=>IK d r (S6 h)
def IP:al:=IN.inline P 144 Tryz.f144 []
theorem S9:ao P IP:=S8.inline hm Tryz.func144 (by kernel_rfl) []
def IQ:al:=IP.inline P 145 Tryz.f145 []
theorem S_:ao P IQ:=S9.inline hm Tryz.func145 (by kernel_rfl) []
def IS:al:=IQ.inline P 124 Tryz.f124 []
theorem S':ao P IS:=S_.inline hm Tryz.func124 (by kernel_rfl) []
def IT:al:=IS.inline P 94 Tryz.f94 []
theorem Ta:ao P IT:=S'.inline hm Tryz.func94 (by kernel_rfl) []
def IU:al:=IT.inline P 78 Tryz.f78 []
theorem Tb:ao P IU:=Ta.inline hm Tryz.func78 (by kernel_rfl) []
def IV:al:=IU.ct P 126 Tryz.f126
theorem Tc:ao P IV:=Tb.ct hm Tryz.func126 (by kernel_rfl) (by kernel_rfl)
def IW:al:=IV.vV P ⟨146,72,71,15,15,true⟩ 3 95 Tryz.f95 [some [.int .i64]]
theorem Td:ao P IW:=Tc.vV hm S3 Tryz.func95 (by kernel_rfl) (by kernel_rfl) [some [.int .i64]]
def IX:al:=IW.ct P 147 Tryz.f147
theorem Te:ao P IX:=Td.ct hm Tryz.func147 (by kernel_rfl) (by kernel_rfl)
def IY:al:=IX.ct P 128 Tryz.f128
theorem Tf:ao P IY:=Te.ct hm Tryz.func128 (by kernel_rfl) (by kernel_rfl)
def IZ:al:=IY.ct P 97 Tryz.f97
theorem Tg:ao P IZ:=Tf.ct hm Tryz.func97 (by kernel_rfl) (by kernel_rfl)
def I0:al:=IZ.inline P 96 Tryz.f96 []
theorem Th:ao P I0:=Tg.inline hm Tryz.func96 (by kernel_rfl) []
def I1:al:=I0.ct P 79 Tryz.f79
theorem Ti:ao P I1:=Th.ct hm Tryz.func79 (by kernel_rfl) (by kernel_rfl)
def I2:al:=I1.ct P 52 Tryz.f52
theorem Tj:ao P I2:=Ti.ct hm Tryz.func52 (by kernel_rfl) (by kernel_rfl)
def I3:al:=I2.ct P 80 Tryz.f80
theorem Tk:ao P I3:=Tj.ct hm Tryz.func80 (by kernel_rfl) (by kernel_rfl)
def I4:al:=I3.ct P 53 Tryz.f53
theorem Tl:ao P I4:=Tk.ct hm Tryz.func53 (by kernel_rfl) (by kernel_rfl)
def I5:al:=I4.inline P 29 Tryz.f29 []
theorem Tm:ao P I5:=Tl.inline hm Tryz.func29 (by kernel_rfl) []
def I6:al:=I5.inline P 39 Tryz.f39 []
theorem Tn:ao P I6:=Tm.inline hm Tryz.func39 (by kernel_rfl) []
def I7:al:=I6.inline P 44 Tryz.f44 []
theorem To:ao P I7:=Tn.inline hm Tryz.func44 (by kernel_rfl) []
def I8:al:=I7.inline P 38 Tryz.f38 []
theorem Tp:ao P I8:=To.inline hm Tryz.func38 (by kernel_rfl) []
def I9:al:=I8.inline P 18 Tryz.f18 []
theorem Tq:ao P I9:=Tp.inline hm Tryz.func18 (by kernel_rfl) []
def I_:al:=I9.inline P 32 Tryz.f32 []
theorem Tr:ao P I_:=Tq.inline hm Tryz.func32 (by kernel_rfl) []
def I':al:=I_.inline P 67 Tryz.f67 []
theorem Ts:ao P I':=Tr.inline hm Tryz.func67 (by kernel_rfl) []
def Ja:al:=I'.inline P 43 Tryz.f43 []
theorem Tt:ao P Ja:=Ts.inline hm Tryz.func43 (by kernel_rfl) []
def Jb:al:=Ja.ct P 102 Tryz.f102
theorem Tu:ao P Jb:=Tt.ct hm Tryz.func102 (by kernel_rfl) (by kernel_rfl)
def Jc:al:=Jb.ct P 88 Tryz.f88
theorem Tv:ao P Jc:=Tu.ct hm Tryz.func88 (by kernel_rfl) (by kernel_rfl)
def Jd:al:=Jc.ct P 68 Tryz.f68
theorem Tw:ao P Jd:=Tv.ct hm Tryz.func68 (by kernel_rfl) (by kernel_rfl)
def Je:al:=Jd.ct P 45 Tryz.f45
theorem Tx:ao P Je:=Tw.ct hm Tryz.func45 (by kernel_rfl) (by kernel_rfl)
def Jf:al:=Je.ct P 22 Tryz.f22
theorem Ty:ao P Jf:=Tx.ct hm Tryz.func22 (by kernel_rfl) (by kernel_rfl)
def Jg:al:=Jf.ct P 34 Tryz.f34
theorem Tz:ao P Jg:=Ty.ct hm Tryz.func34 (by kernel_rfl) (by kernel_rfl)
def Jh:al:=Jg.ct P 54 Tryz.f54
theorem TA:ao P Jh:=Tz.ct hm Tryz.func54 (by kernel_rfl) (by kernel_rfl)
def Ji:al:=Jh.ct P 33 Tryz.f33
theorem TB:ao P Ji:=TA.ct hm Tryz.func33 (by kernel_rfl) (by kernel_rfl)
def Jj:al:=Ji.inline P 9 Tryz.f9 []
theorem TC:ao P Jj:=TB.inline hm Tryz.func9 (by kernel_rfl) []
def TD:al:=Jj.inline P 30 Tryz.f30 []
theorem TE:ao P TD:=TC.inline hm Tryz.func30 (by kernel_rfl) []
theorem TF:dE P 8 [] (.lit (.bool true)):=fR (L:=aF) hm TE [] (fun _ _=>aT _ _ _) Tryz.func8 rfl (by kernel_rfl) (by kernel_rfl)
def sf(_:List G):Option (List G):=some [.t true]
def sg:aG:=⟨8,[],[],[],[.s (.bool)],[],[],[],sf⟩
theorem TG:∀ d r,sf d=some r→c9 P 8 (sg.args0 d) (ai (sg.H0 d)) (sg.out r) (ai (sg.H1 r)):=fun d r h=>by
 cases (show some [G.t true]=some r from h);exact TF []
def t34:al:=t33.bF sg
theorem Jk:ao P t34:=IL.aP TG


def pz(d:List G):Option (List G) :=
 (bif (au (gi d 1).int 1) then some [.i 0] else (bif (!((gi d 1).int==0)) then (bif (au (ij (gi d 0).int (gi d 1).int) 0) then (bif (ar ((ij (gi d 0).int (gi d 1).int)+(gi d 1).int)) then some [.i ((ij (gi d 0).int (gi d 1).int)+(gi d 1).int)] else none) else some [.i (ij (gi d 0).int (gi d 1).int)]) else none))
def Bg:aG:=⟨35,[.s (.int .i64),.s (.int .i64)],[],[],[.s (.int .i64)],[],[],[],pz⟩
theorem TH:bp P t34 aF Tryz.f35 Bg:=fun d=>by kernel_rfl
theorem TI:bf P Bg:=bB hm Jk Tryz.func35 (aT _ _ _) TH
def t35:al:=t34.bF Bg
theorem Jl:ao P t35:=Jk.aP TI

def mr(d:List G):Option (List G) :=
 (bif (ar ((gi d 1).int+1)) then (bif ((((gi d 0).rows.length:Nat):Int)==0) then (bif (ar (((gi d 1).int+1)*7919)) then (aA (pz [.i (((gi d 1).int+1)*7919),.i (gi d 2).int]) fun g1=>some [.l (gi d 0).rows,.i ((gi d 1).int+1),.i (gi g1 0).int]) else none) else (bif (ar (((gi d 1).int+1)-1)) then (bif (!((((gi d 0).rows.length:Nat):Int)==0)) then (bif (ar (((gi d 1).int+1)-1)) then (bif ((!((((gi d 0).rows.length:Nat):Int)==0))&&(ar (eG (((gi d 1).int+1)-1) (((gi d 0).rows.length:Nat):Int)))) then (bif ((aO (ij (((gi d 1).int+1)-1) (((gi d 0).rows.length:Nat):Int)))&&(au (ij (((gi d 1).int+1)-1) (((gi d 0).rows.length:Nat):Int)) (((gi d 0).rows.length:Nat):Int))) then (aA (pz [.i (gi ((gi d 0).rows.getD ((ij (((gi d 1).int+1)-1) (((gi d 0).rows.length:Nat):Int)).toNat) []) 0).int,.i 1073741824]) fun g2=>(bif (ar (7919+(ij (((gi d 1).int+1)-1) (((gi d 0).rows.length:Nat):Int)))) then (bif (ar ((eG (((gi d 1).int+1)-1) (((gi d 0).rows.length:Nat):Int))*(7919+(ij (((gi d 1).int+1)-1) (((gi d 0).rows.length:Nat):Int))))) then (bif (ar ((gi g2 0).int+((eG (((gi d 1).int+1)-1) (((gi d 0).rows.length:Nat):Int))*(7919+(ij (((gi d 1).int+1)-1) (((gi d 0).rows.length:Nat):Int)))))) then (aA (pz [.i ((gi g2 0).int+((eG (((gi d 1).int+1)-1) (((gi d 0).rows.length:Nat):Int))*(7919+(ij (((gi d 1).int+1)-1) (((gi d 0).rows.length:Nat):Int))))),.i (gi d 2).int]) fun g3=>some [.l (gi d 0).rows,.i ((gi d 1).int+1),.i (gi g3 0).int]) else none) else none) else none)) else none) else none) else none) else none) else none)) else none)
def Bh:aG:=⟨12,[.s (.ptr 0 0),.s (.int .i64)],[.box [.list [.int .i64],.int .i64]],[.slot 0],[.s (.int .i64)],[.box [.list [.int .i64],.int .i64]],[.fix 0],[],mr⟩
theorem TJ:bp P t35 aF Tryz.f12 Bh:=fun d=>by kernel_rfl
theorem TK:bf P Bh:=bB hm Jl Tryz.func12 (aT _ _ _) TJ
def t36:al:=t35.dt Bh
theorem Jm:ao P t36:=Jl.aW TK

def nJ(d:List G):Option (List G) :=
 (aA (mr [.l (gi d 0).rows,.i (gi d 1).int,.i (gi d 2).int]) fun g1=>some [.l (gi g1 0).rows,.i (gi g1 1).int,.t ((gi g1 2).int==0)])
def Bi:aG:=⟨10,[.s (.ptr 0 0),.s (.int .i64)],[.box [.list [.int .i64],.int .i64]],[.slot 0],[.s (.bool)],[.box [.list [.int .i64],.int .i64]],[.fix 0],[],nJ⟩
theorem TL:bp P t36 aF Tryz.f10 Bi:=fun d=>by kernel_rfl
theorem TM:bf P Bi:=bB hm Jm Tryz.func10 (aT _ _ _) TL
def t37:al:=t36.dt Bi
theorem Jn:ao P t37:=Jm.aW TM

def ki(d:List G):Option (List G) :=
 (aA (mr [.l (gi d 0).rows,.i (gi d 1).int,.i (((gi d 2).rows.length:Nat):Int)]) fun g1=>(bif ((aO (gi g1 2).int)&&(au (gi g1 2).int (((gi d 2).rows.length:Nat):Int))) then some [.l (gi g1 0).rows,.i (gi g1 1).int,.i (gi ((gi d 2).rows.getD (((gi g1 2).int).toNat) []) 0).int] else none))
def Bj:aG:=⟨11,[.s (.ptr 0 0),.s (.list [.int .i64])],[.box [.list [.int .i64],.int .i64]],[.slot 0],[.s (.int .i64)],[.box [.list [.int .i64],.int .i64]],[.fix 0],[],ki⟩
theorem TN:bp P t37 aF Tryz.f11 Bj:=fun d=>by kernel_rfl
theorem TO:bf P Bj:=bB hm Jn Tryz.func11 (aT _ _ _) TN
def t38:al:=t37.dt Bj
theorem Jo:ao P t38:=Jn.aW TO

def wu(d:List G):Option (List G) :=
 (aA (mr [.l (gi d 0).rows,.i (gi d 1).int,.i (((gi d 2).rows.length:Nat):Int)]) fun g1=>(bif ((aO (gi g1 2).int)&&(au (gi g1 2).int (((gi d 2).rows.length:Nat):Int))) then some [.l (gi g1 0).rows,.i (gi g1 1).int,.s (gi ((gi d 2).rows.getD (((gi g1 2).int).toNat) []) 0).str] else none))
def Bk:aG:=⟨13,[.s (.ptr 0 0),.s (.list [.str])],[.box [.list [.int .i64],.int .i64]],[.slot 0],[.s (.str)],[.box [.list [.int .i64],.int .i64]],[.fix 0],[],wu⟩
theorem TP:bp P t38 aF Tryz.f13 Bk:=fun d=>by kernel_rfl
theorem TQ:bf P Bk:=bB hm Jo Tryz.func13 (aT _ _ _) TP
def t39:al:=t38.dt Bk
theorem Jp:ao P t39:=Jo.aW TQ

def sk(d:List G):Option (List G) :=
 (bif (au (gi d 3).int (gi d 2).int) then some [.l (gi d 0).rows,.i (gi d 1).int,.i (gi d 2).int] else (bif (ar ((gi d 3).int-(gi d 2).int)) then (bif (ar (((gi d 3).int-(gi d 2).int)+1)) then (aA (mr [.l (gi d 0).rows,.i (gi d 1).int,.i (((gi d 3).int-(gi d 2).int)+1)]) fun g1=>(bif (ar ((gi d 2).int+(gi g1 2).int)) then some [.l (gi g1 0).rows,.i (gi g1 1).int,.i ((gi d 2).int+(gi g1 2).int)] else none)) else none) else none))
def Bl:aG:=⟨5,[.s (.ptr 0 0),.s (.int .i64),.s (.int .i64)],[.box [.list [.int .i64],.int .i64]],[.slot 0],[.s (.int .i64)],[.box [.list [.int .i64],.int .i64]],[.fix 0],[],sk⟩
theorem TR:bp P t39 aF Tryz.f5 Bl:=fun d=>by kernel_rfl
theorem TS:bf P Bl:=bB hm Jp Tryz.func5 (aT _ _ _) TR
def t40:al:=t39.dt Bl
theorem Jq:ao P t40:=Jp.aW TS

def nK(d:List G):Option (List G) :=
 (aA (nJ [.l (gi d 0).rows,.i (gi d 1).int,.i 12]) fun g1=>(bif (gi g1 2).bool then (bif (ar ((gi d 2).int-1)) then (bif (ar ((gi d 3).int+1)) then (aA (ki [.l (gi g1 0).rows,.i (gi g1 1).int,.l [[.i ((gi d 2).int-1)],[.i ((gi d 3).int+1)],[.i (gi d 2).int],[.i (gi d 3).int],[.i (-1099511627776)],[.i 1099511627776]]]) fun g2=>some [.l (gi g2 0).rows,.i (gi g2 1).int,.i (gi g2 2).int]) else none) else none) else (aA (sk [.l (gi g1 0).rows,.i (gi g1 1).int,.i (gi d 2).int,.i (gi d 3).int]) fun g3=>some [.l (gi g3 0).rows,.i (gi g3 1).int,.i (gi g3 2).int])))
def Bm:aG:=⟨14,[.s (.ptr 0 0),.s (.int .i64),.s (.int .i64)],[.box [.list [.int .i64],.int .i64]],[.slot 0],[.s (.int .i64)],[.box [.list [.int .i64],.int .i64]],[.fix 0],[],nK⟩
theorem TT:bp P t40 aF Tryz.f14 Bm:=fun d=>by kernel_rfl
theorem TU:bf P Bm:=bB hm Jq Tryz.func14 (aT _ _ _) TT
def t41:al:=t40.dt Bm
theorem Bn:ao P t41:=Jq.aW TU

def sm(d:List G):Option (Option Nat × List G) :=
 (bif (au (gi d 4).int (gi d 3).int) then (bif ((aO (gi d 4).int)&&(au (gi d 4).int (((gi d 2).rows.length:Nat):Int))) then (bif (aZ (((gi d 1).rows.length:Nat):Int) (gi d 4).int) then some (some 0,[.i 1]) else (bif ((aO (gi d 4).int)&&(au (gi d 4).int (((gi d 1).rows.length:Nat):Int))) then (aA (kh [.i (gi ((gi d 2).rows.getD (((gi d 4).int).toNat) []) 0).int,.i (gi ((gi d 1).rows.getD (((gi d 4).int).toNat) []) 0).int]) fun g1=>(bif ((gi g1 0).int != 0) then some (some 0,[.i (gi g1 0).int]) else (bif (ar ((gi d 4).int+1)) then some (none,[.l (gi d 0).rows,.l (gi d 1).rows,.l (gi d 2).rows,.i (gi d 3).int,.i ((gi d 4).int+1)]) else none))) else none)) else none) else some (some 1,[.l (gi d 0).rows,.l (gi d 1).rows]))
def Jr:bI:=⟨2,[],⟨36,[(0,.s (.list [.int .i64])),(1,.s (.list [.int .i64])),(9,.s (.list [.int .i64])),(10,.s (.int .i64)),(11,.s (.int .i64))],[]⟩,[],[⟨.ret,⟨36,[(4,.s (.int .i64))],[]⟩,[]⟩,⟨.exit 0,⟨36,[(0,.s (.list [.int .i64])),(1,.s (.list [.int .i64]))],[]⟩,[]⟩],sm⟩
theorem TV:cP P t41 aF 0 (cU Tryz.f17 2) Jr:=fun d=>by kernel_rfl
def Js:LT:=aF.add 0 Jr
theorem TW:ay P 0 Js (aY Tryz.f17):=ay.a hm Bn (aT _ _ _) TV
def pA(d:List G):Option (List G) :=
 (bD true (cf sm [.l (gi d 0).rows,.l (gi d 1).rows,.l (gi d 0).rows,.i (((gi d 0).rows.length:Nat):Int),.i 0]) fun a g2=>(bif ah a 0 then some [.i (gi g2 0).int] else (bif (au (((gi g2 0).rows.length:Nat):Int) (((gi g2 1).rows.length:Nat):Int)) then some [.i (-1)] else some [.i 0])))
def Bo:aG:=⟨17,[.s (.list [.int .i64]),.s (.list [.int .i64])],[],[],[.s (.int .i64)],[],[],[],pA⟩
theorem TX:bp P t41 Js Tryz.f17 Bo:=fun d=>by kernel_rfl
theorem TY:bf P Bo:=bB hm Bn Tryz.func17 TW TX
def t42:al:=t41.bF Bo
theorem Jt:ao P t42:=Bn.aP TY

def pB(d:List G):Option (List G) :=
 (bif (!((gi (gi d 0).row 0).str.toList==(gi (gi d 1).row 0).str.toList)) then (bif (Op.bytesLess (gi (gi d 0).row 0).str.toList (gi (gi d 1).row 0).str.toList) then some [.i (-1)] else some [.i 1]) else (aA (pA [.l [[.i (gi (gi d 0).row 1).int],[.i (gi (gi d 0).row 2).int],[.i (gi (gi d 0).row 4).int]],.l [[.i (gi (gi d 1).row 1).int],[.i (gi (gi d 1).row 2).int],[.i (gi (gi d 1).row 4).int]]]) fun g1=>some [.i (gi g1 0).int]))
def Bp:aG:=⟨16,[.s (.row bg),.s (.row bg)],[],[],[.s (.int .i64)],[],[],[],pB⟩
theorem TZ:bp P t42 aF Tryz.f16 Bp:=fun d=>by kernel_rfl
theorem T0:bf P Bp:=bB hm Jt Tryz.func16 (aT _ _ _) TZ
def t43:al:=t42.bF Bp
theorem wv:ao P t43:=Jt.aP T0

def Ju(d:List G):Option (Option Nat × List G) :=
 (bif (au (gi d 1).int (gi d 4).int) then (bif ((aO (gi d 4).int)&&(au (gi d 4).int (((gi d 0).rows.length:Nat):Int))) then (bif (decide ((0+((gi d 4).int).toNat)<(gi d 0).rows.length)) then (bif (ar ((gi d 4).int-1)) then (bif ((aO ((gi d 4).int-1))&&(au ((gi d 4).int-1) (((gi d 0).rows.length:Nat):Int))) then (bif (decide ((0+((gi d 4).int-1).toNat)<(gi d 0).rows.length)) then (aA (pB [.l [(bM bg ((gi d 0).rows.getD (0+((gi d 4).int).toNat) []))],.l [(bM bg ((gi d 0).rows.getD (0+((gi d 4).int-1).toNat) []))]]) fun g1=>(bif (au (gi g1 0).int 0) then (bif (ar ((gi d 4).int-1)) then (bif (ar ((gi d 4).int-1)) then (bif ((aO ((gi d 4).int-1))&&(au ((gi d 4).int-1) (((gi d 0).rows.length:Nat):Int))) then (bif (decide ((0+((gi d 4).int-1).toNat)<(gi d 0).rows.length)) then (bif ((aO (gi d 4).int)&&(au (gi d 4).int (((gi d 0).rows.length:Nat):Int))) then (bif (decide ((0+((gi d 4).int).toNat)<(gi d 0).rows.length)) then (bif ((aO (gi d 4).int)&&(au (gi d 4).int (((gi d 0).rows.length:Nat):Int))) then (bif (decide ((0+((gi d 4).int).toNat)<(gi d 0).rows.length)) then (bif ((aO ((gi d 4).int-1))&&(au ((gi d 4).int-1) (((gi d 0).rows.length:Nat):Int))) then (bif (decide ((0+((gi d 4).int-1).toNat)<((gi d 0).rows.set (0+((gi d 4).int).toNat) (bT bg ((gi d 0).rows.getD (0+((gi d 4).int).toNat) []) 0 (bM bg ((gi d 0).rows.getD (0+((gi d 4).int-1).toNat) [])))).length)) then (bif (ar ((gi d 4).int-1)) then (bif ((ah (gi d 0).rows.length (((gi d 0).rows.set (0+((gi d 4).int).toNat) (bT bg ((gi d 0).rows.getD (0+((gi d 4).int).toNat) []) 0 (bM bg ((gi d 0).rows.getD (0+((gi d 4).int-1).toNat) [])))).set (0+((gi d 4).int-1).toNat) (bT bg (((gi d 0).rows.set (0+((gi d 4).int).toNat) (bT bg ((gi d 0).rows.getD (0+((gi d 4).int).toNat) []) 0 (bM bg ((gi d 0).rows.getD (0+((gi d 4).int-1).toNat) [])))).getD (0+((gi d 4).int-1).toNat) []) 0 (bM bg ((gi d 0).rows.getD (0+((gi d 4).int).toNat) [])))).length)&&true) then some (none,[.l (((gi d 0).rows.set (0+((gi d 4).int).toNat) (bT bg ((gi d 0).rows.getD (0+((gi d 4).int).toNat) []) 0 (bM bg ((gi d 0).rows.getD (0+((gi d 4).int-1).toNat) [])))).set (0+((gi d 4).int-1).toNat) (bT bg (((gi d 0).rows.set (0+((gi d 4).int).toNat) (bT bg ((gi d 0).rows.getD (0+((gi d 4).int).toNat) []) 0 (bM bg ((gi d 0).rows.getD (0+((gi d 4).int-1).toNat) [])))).getD (0+((gi d 4).int-1).toNat) []) 0 (bM bg ((gi d 0).rows.getD (0+((gi d 4).int).toNat) [])))),.i (gi d 1).int,.i (gi d 2).int,.i (gi d 3).int,.i ((gi d 4).int-1)]) else none) else none) else none) else none) else none) else none) else none) else none) else none) else none) else none) else none) else (bif ((ah (gi d 0).rows.length (gi d 0).rows.length)&&true) then some (some 0,[.l (gi d 0).rows,.i (gi d 1).int,.i (gi d 2).int,.i (gi d 3).int]) else none))) else none) else none) else none) else none) else none) else (bif ((ah (gi d 0).rows.length (gi d 0).rows.length)&&true) then some (some 0,[.l (gi d 0).rows,.i (gi d 1).int,.i (gi d 2).int,.i (gi d 3).int]) else none))
def Jv:bI:=⟨4,[],⟨53,[(0,.s (.vec 0 6)),(1,.s (.int .i64)),(2,.s (.int .i64)),(3,.s (.fn 16)),(8,.s (.int .i64)),(9,.s (.int .i64))],[.vec bg 0]⟩,[.fix 0],[⟨.exit 2,⟨53,[(0,.s (.vec 0 6)),(1,.s (.int .i64)),(2,.s (.int .i64)),(3,.s (.fn 16)),(8,.s (.int .i64))],[.vec bg 0]⟩,[.fix 0]⟩],Ju⟩
theorem T3:cP P t43 aF 1 (cU Tryz.f55 4) Jv:=fun d=>by kernel_rfl
def Bq:LT:=aF.add 1 Jv
theorem T4:ay P 1 Bq (aY Tryz.f55):=ay.a hm wv (aT _ _ _) T3
def Jw(d:List G):Option (Option Nat × List G) :=
 (bif (au (gi d 3).int (gi d 2).int) then (bD ((ah (gi d 0).rows.length (gi d 0).rows.length)&&true) (cf Ju [.l (gi d 0).rows,.i (gi d 1).int,.i (gi d 2).int,.i (gi d 3).int,.i (gi d 3).int]) fun a g2=>(bif (ar ((gi g2 3).int+1)) then (bif ((ah (gi g2 0).rows.length (gi g2 0).rows.length)&&true) then some (none,[.l (gi g2 0).rows,.i (gi g2 1).int,.i (gi g2 2).int,.i ((gi g2 3).int+1)]) else none) else none)) else some (some 0,[.l (gi d 0).rows]))
def Jx:bI:=⟨1,[],⟨53,[(0,.s (.vec 0 6)),(1,.s (.int .i64)),(2,.s (.int .i64)),(3,.s (.fn 16)),(8,.s (.int .i64))],[.vec bg 0]⟩,[.fix 0],[⟨.exit 0,⟨53,[],[.vec bg 0]⟩,[.fix 0]⟩],Jw⟩
theorem T5:cP P t43 Bq 1 (cU Tryz.f55 1) Jx:=fun d=>by kernel_rfl
def Jy:LT:=Bq.add 1 Jx
theorem T6:ay P 1 Jy (aY Tryz.f55):=ay.a hm wv T4 T5
def sn(d:List G):Option (List G) :=
 (bif (ar ((gi d 1).int+1)) then (bD ((ah (gi d 0).rows.length (gi d 0).rows.length)&&true) (cf Jw [.l (gi d 0).rows,.i (gi d 1).int,.i (gi d 2).int,.i ((gi d 1).int+1)]) fun a g3=>some [.l (gi g3 0).rows]) else none)
def Br:aG:=⟨55,[.s (.vec 0 6),.s (.int .i64),.s (.int .i64),.s (.fn 16)],[.vec bg 0],[.slot 0],[],[.vec bg 0],[.fix 0],[],sn⟩
theorem T7:bp P t43 Jy Tryz.f55 Br:=fun d=>by kernel_rfl
theorem T8:bf P Br:=bB hm wv Tryz.func55 T6 T7
def t44:al:=t43.dt Br
theorem so:ao P t44:=wv.aW T8

def Jz(d:List G):Option (Option Nat × List G) :=
 (bif (aZ (gi d 4).int (gi d 1).int) then (hG (((ah (gi d 0).rows.length (gi d 0).rows.length)&&true)&&(sn [.l (gi d 0).rows,.i (gi d 3).int,.i (gi d 4).int]).isSome) (sn [.l (gi d 0).rows,.i (gi d 3).int,.i (gi d 4).int]) fun g1=>(bif (ar ((gi d 4).int+(gi d 2).int)) then (bif ((ah (gi d 0).rows.length (gi g1 0).rows.length)&&true) then some (none,[.l (gi g1 0).rows,.i (gi d 1).int,.i (gi d 2).int,.i (gi d 4).int,.i ((gi d 4).int+(gi d 2).int)]) else none) else none)) else (bif ((ah (gi d 0).rows.length (gi d 0).rows.length)&&true) then some (some 0,[.l (gi d 0).rows,.i (gi d 1).int,.i (gi d 2).int,.i (gi d 3).int]) else none))
def JA:bI:=⟨2,[],⟨63,[(0,.s (.vec 0 6)),(1,.s (.int .i64)),(2,.s (.fn 16)),(6,.s (.int .i64)),(7,.s (.int .i64)),(8,.s (.int .i64))],[.vec bg 0]⟩,[.fix 0],[⟨.exit 0,⟨63,[(0,.s (.vec 0 6)),(1,.s (.int .i64)),(2,.s (.fn 16)),(6,.s (.int .i64)),(7,.s (.int .i64))],[.vec bg 0]⟩,[.fix 0]⟩],Jz⟩
theorem T9:cP P t44 aF 1 (cU Tryz.f36 2) JA:=fun d=>by kernel_rfl
def Bs:LT:=aF.add 1 JA
theorem T_:ay P 1 Bs (aY Tryz.f36):=ay.a hm so (aT _ _ _) T9
def JB(d:List G):Option (Option Nat × List G) :=
 (bif (aZ (gi d 4).int (gi d 1).int) then (bif (ar ((gi d 3).int+(gi d 2).int)) then none else none) else (bif ((ah (gi d 0).rows.length (gi d 0).rows.length)&&true) then some (some 0,[.l (gi d 0).rows,.i (gi d 1).int,.i (gi d 2).int,.i (gi d 3).int]) else none))
def JC:bI:=⟨9,[],⟨63,[(0,.s (.vec 0 6)),(1,.s (.int .i64)),(2,.s (.fn 16)),(6,.s (.int .i64)),(7,.s (.int .i64)),(8,.s (.int .i64))],[.vec bg 0]⟩,[.fix 0],[⟨.exit 4,⟨63,[(0,.s (.vec 0 6)),(1,.s (.int .i64)),(2,.s (.fn 16)),(6,.s (.int .i64)),(7,.s (.int .i64))],[.vec bg 0]⟩,[.fix 0]⟩],JB⟩
theorem Ua:cP P t44 Bs 1 (cU Tryz.f36 9) JC:=fun d=>by kernel_rfl
def Bt:LT:=Bs.add 1 JC
theorem Ub:ay P 1 Bt (aY Tryz.f36):=ay.a hm so T_ Ua
def JD(d:List G):Option (Option Nat × List G) :=
 (bif (au (gi d 2).int (gi d 1).int) then (bif (ar (2*(gi d 2).int)) then (bD ((ah (gi d 0).rows.length (gi d 0).rows.length)&&true) (cf JB [.l (gi d 0).rows,.i (gi d 1).int,.i (gi d 2).int,.i 0,.i (2*(gi d 2).int)]) fun a g4=>(bif (ar ((gi g4 3).int+(gi g4 2).int)) then (bif (au ((gi g4 3).int+(gi g4 2).int) (gi g4 1).int) then none else (bif (ar ((gi g4 2).int*2)) then (bif ((ah (gi g4 0).rows.length (gi g4 0).rows.length)&&true) then some (none,[.l (gi g4 0).rows,.i (gi g4 1).int,.i ((gi g4 2).int*2)]) else none) else none)) else none)) else none) else some (some 0,[.l (gi d 0).rows]))
def JE:bI:=⟨7,[],⟨63,[(0,.s (.vec 0 6)),(1,.s (.int .i64)),(2,.s (.fn 16)),(6,.s (.int .i64))],[.vec bg 0]⟩,[.fix 0],[⟨.exit 2,⟨63,[],[.vec bg 0]⟩,[.fix 0]⟩],JD⟩
theorem Uc:cP P t44 Bt 1 (cU Tryz.f36 7) JE:=fun d=>by kernel_rfl
def JF:LT:=Bt.add 1 JE
theorem Ud:ay P 1 JF (aY Tryz.f36):=ay.a hm so Ub Uc
def Bu(d:List G):Option (List G) :=
 (bD ((ah (gi d 0).rows.length (gi d 0).rows.length)&&true) (cf Jz [.l (gi d 0).rows,.i (gi d 1).int,.i 20,.i 0,.i 20]) fun a g2=>(hG (((ah (gi g2 0).rows.length (gi g2 0).rows.length)&&true)&&(sn [.l (gi g2 0).rows,.i (gi g2 3).int,.i (gi g2 1).int]).isSome) (sn [.l (gi g2 0).rows,.i (gi g2 3).int,.i (gi g2 1).int]) fun g3=>(bD ((ah (gi g2 0).rows.length (gi g3 0).rows.length)&&true) (cf JD [.l (gi g3 0).rows,.i (gi g2 1).int,.i (gi g2 2).int]) fun b g5=>some [.l (gi g5 0).rows])))
def Bv:aG:=⟨36,[.s (.vec 0 6),.s (.int .i64),.s (.fn 16)],[.vec bg 0],[.slot 0],[],[.vec bg 0],[.fix 0],[],Bu⟩
theorem Ue:bp P t44 JF Tryz.f36 Bv:=fun d=>by kernel_rfl
theorem Uf:bf P Bv:=bB hm so Tryz.func36 Ud Ue
def t45:al:=t44.dt Bv
theorem JG:ao P t45:=so.aW Uf

def wx(d:List G):Option (List G) :=
 (hG (((ah (gi d 0).rows.length (gi d 0).rows.length)&&true)&&(Bu [.l (gi d 0).rows,.i (((gi d 0).rows.length:Nat):Int)]).isSome) (Bu [.l (gi d 0).rows,.i (((gi d 0).rows.length:Nat):Int)]) fun g1=>some [.l (gi g1 0).rows])
def Bw:aG:=⟨15,[.s (.vec 0 6),.s (.fn 16)],[.vec bg 0],[.slot 0],[],[.vec bg 0],[.fix 0],[],wx⟩
theorem Ug:bp P t45 aF Tryz.f15 Bw:=fun d=>by kernel_rfl
theorem Uh:bf P Bw:=bB hm JG Tryz.func15 (aT _ _ _) Ug
def t46:al:=t45.dt Bw
theorem sq:ao P t46:=JG.aW Uh

end
end Go.Proofs.jJ
