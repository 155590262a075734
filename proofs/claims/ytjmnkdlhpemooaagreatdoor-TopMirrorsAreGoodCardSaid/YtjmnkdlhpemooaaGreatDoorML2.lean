/-
 What is proved here: functions of the program as functions on data. No condition.
-/
import Derived.Test.YtjmnkdlhpemooaaGreatDoorML1
set_option linter.all false
open Int renaming tdiv→nv,tmod→jB
open Nat renaming beq→ae
namespace Go.Proofs.gY
open Go Go.AL Go.Proofs
noncomputable section
def lV(d:List G):Option (List G) :=
 (bif (ao (gi d 0).int (gi d 1).int) then some [.t true] else some [.t (ao (gi d 2).int (gi d 0).int)])
def DJ:aG:=⟨23,[.s (.int .i64),.s (.int .i64),.s (.int .i64)],[],[],[.s (.bool)],[],[],[],lV⟩
theorem Zd:aX P t6 az Tryz.f23 DJ:=fun d=>by kernel_rfl
theorem Ze:aV P DJ:=aT hm MS Tryz.func23 (aL _ _ _) Zd
def t7:ak:=t6.bC DJ
theorem MT:aq P t7:=MS.aP Ze

def DK(d:List G):Option (List G) :=
 (ay (lV [.i (gi d 0).int,.i 0,.i 345686399999]) fun g1=>some [.t (!(gi g1 0).bool)])
def DL:aG:=⟨104,[.s (.int .i64)],[],[],[.s (.bool)],[],[],[],DK⟩
theorem Zf:aX P t7 az Tryz.f104 DL:=fun d=>by kernel_rfl
theorem Zg:aV P DL:=aT hm MT Tryz.func104 (aL _ _ _) Zf
def t8:ak:=t7.bC DL
theorem MU:aq P t8:=MT.aP Zg

def DM(d:List G):Option (List G) :=
 (ay (lV [.i (gi d 0).int,.i 1,.i 3]) fun g1=>some [.t (!(gi g1 0).bool)])
def DN:aG:=⟨105,[.s (.int .i64)],[],[],[.s (.bool)],[],[],[],DM⟩
theorem Zh:aX P t8 az Tryz.f105 DN:=fun d=>by kernel_rfl
theorem Zi:aV P DN:=aT hm MU Tryz.func105 (aL _ _ _) Zh
def t9:ak:=t8.bC DN
theorem MV:aq P t9:=MU.aP Zi

def sn(d:List G):Option (List G) :=
 (bif (!((gi d 0).str.toList==(⟨#[]⟩:ByteArray).toList)) then (bif (ba (((gi d 0).str.size:Nat):Int) 40) then (bif (ao 0 (((gi d 0).str.size:Nat):Int)) then (ay (zh [.s (⟨#[97,98,99,100,101,102,103,104,105,106,107,108,109,110,111,112,113,114,115,116,117,118,119,120,121,122]⟩:ByteArray),.i (((gi d 0).str.data.toList.getD 0 0).toNat:Int)]) fun g1=>(bif (ba 0 (gi g1 0).int) then (ay (zi [.s (gi d 0).str,.s (⟨#[97,98,99,100,101,102,103,104,105,106,107,108,109,110,111,112,113,114,115,116,117,118,119,120,121,122,48,49,50,51,52,53,54,55,56,57,45,95]⟩:ByteArray)]) fun g2=>some [.t ((gi g2 0).str.toList==(⟨#[]⟩:ByteArray).toList)]) else some [.t false])) else none) else some [.t false]) else some [.t false])
def DO:aG:=⟨41,[.s (.str)],[],[],[.s (.bool)],[],[],[],sn⟩
theorem Zj:aX P t9 az Tryz.f41 DO:=fun d=>by kernel_rfl
theorem Zk:aV P DO:=aT hm MV Tryz.func41 (aL _ _ _) Zj
def t10:ak:=t9.bC DO
theorem MW:aq P t10:=MV.aP Zk

def so(d:List G):Option (List G) :=
 (ay (zk [.s (gi d 0).str]) fun g1=>some [.t (gi g1 1).bool])
def DP:aG:=⟨36,[.s (.str)],[],[],[.s (.bool)],[],[],[],so⟩
theorem Zl:aX P t10 az Tryz.f36 DP:=fun d=>by kernel_rfl
theorem Zm:aV P DP:=aT hm MW Tryz.func36 (aL _ _ _) Zl
def t11:ak:=t10.bC DP
theorem MX:aq P t11:=MW.aP Zm

def zl(d:List G):Option (List G) :=
 (bif ((gi d 0).str.toList==(⟨#[]⟩:ByteArray).toList) then some [.t true] else (ay (sn [.s (gi d 0).str]) fun g1=>some [.t (gi g1 0).bool]))
def DQ:aG:=⟨106,[.s (.str)],[],[],[.s (.bool)],[],[],[],zl⟩
theorem Zn:aX P t11 az Tryz.f106 DQ:=fun d=>by kernel_rfl
theorem Zo:aV P DQ:=aT hm MX Tryz.func106 (aL _ _ _) Zn
def t12:ak:=t11.bC DQ
theorem MY:aq P t12:=MX.aP Zo

def zm(d:List G):Option (List G) :=
 (ay (DK [.i (gi (gi d 0).row 0).int]) fun g1=>(bif (!(gi g1 0).bool) then some [.i 1] else (ay (DM [.i (gi (gi d 0).row 1).int]) fun g2=>(bif (!(gi g2 0).bool) then some [.i 4] else (ay (sn [.s (gi (gi d 0).row 2).str]) fun g3=>(bif (!(gi g3 0).bool) then some [.i 5] else (ay (so [.s (gi (gi d 0).row 3).str]) fun g4=>(bif (!(gi g4 0).bool) then some [.i 3] else (ay (lV [.i (gi (gi d 0).row 4).int,.i 0,.i 99999]) fun g5=>(bif (gi g5 0).bool then some [.i 1] else (ay (lV [.i (gi (gi d 0).row 5).int,.i 0,.i 99999]) fun g6=>(bif (gi g6 0).bool then some [.i 1] else (ay (zl [.s (gi (gi d 0).row 6).str]) fun g7=>(bif (!(gi g7 0).bool) then some [.i 5] else (ay (zl [.s (gi (gi d 0).row 7).str]) fun g8=>(bif (!(gi g8 0).bool) then some [.i 5] else some [.i 0]))))))))))))))))
def DR:aG:=⟨72,[.s (.row ai)],[],[],[.s (.int .i64)],[],[],[],zm⟩
theorem Zp:aX P t12 az Tryz.f72 DR:=fun d=>by kernel_rfl
theorem Zq:aV P DR:=aT hm MY Tryz.func72 (aL _ _ _) Zp
def t13:ak:=t12.bC DR
theorem MZ:aq P t13:=MY.aP Zq

def zn(d:List G):Option (List G) :=
 some [.t ((gi d 0).int != (gi d 0).int)]
def DS:aG:=⟨117,[.s (.int .i64)],[],[],[.s (.bool)],[],[],[],zn⟩
theorem Zr:aX P t13 az Tryz.f117 DS:=fun d=>by kernel_rfl
theorem Zs:aV P DS:=aT hm MZ Tryz.func117 (aL _ _ _) Zr
def t14:ak:=t13.bC DS
theorem M0:aq P t14:=MZ.aP Zs

def sq(d:List G):Option (List G) :=
 (ay (zn [.i (gi d 0).int]) fun g1=>(ay (zn [.i (gi d 1).int]) fun g2=>(bif (gi g1 0).bool then (bif (gi g2 0).bool then some [.i 0] else some [.i (-1)]) else (bif (gi g2 0).bool then some [.i 1] else (bif (ao (gi d 0).int (gi d 1).int) then some [.i (-1)] else (bif (ao (gi d 1).int (gi d 0).int) then some [.i 1] else some [.i 0]))))))
def DT:aG:=⟨81,[.s (.int .i64),.s (.int .i64)],[],[],[.s (.int .i64)],[],[],[],sq⟩
theorem Zt:aX P t14 az Tryz.f81 DT:=fun d=>by kernel_rfl
theorem Zu:aV P DT:=aT hm M0 Tryz.func81 (aL _ _ _) Zt
def t15:ak:=t14.bC DT
theorem DU:aq P t15:=M0.aP Zu

def sr(d:List G):Option (Option Nat × List G) :=
 (bif (ao (gi d 3).int (gi d 2).int) then (bif ((aB (gi d 3).int)&&(ao (gi d 3).int (((gi d 1).rows.length:Nat):Int))) then (bif ((gi ((gi d 1).rows.getD (((gi d 3).int).toNat) []) 0).int != (gi d 0).int) then some (some 0,[.i (gi ((gi d 1).rows.getD (((gi d 3).int).toNat) []) 0).int]) else (bif (au ((gi d 3).int+1)) then some (none,[.i (gi d 0).int,.l (gi d 1).rows,.i (gi d 2).int,.i ((gi d 3).int+1)]) else none)) else none) else some (some 1,[.i (gi d 0).int]))
def M1:bz:=⟨3,[],⟨18,[(3,.s (.int .i64)),(6,.s (.list [.int .i64])),(7,.s (.int .i64)),(8,.s (.int .i64))],[]⟩,[],[⟨.ret,⟨18,[(2,.s (.int .i64))],[]⟩,[]⟩,⟨.exit 0,⟨18,[(3,.s (.int .i64))],[]⟩,[]⟩],sr⟩
theorem Zv:cy P t15 az 0 (cD Tryz.f76 3) M1:=fun d=>by kernel_rfl
def M2:LT:=az.add 0 M1
theorem Zw:aA P 0 M2 (aU Tryz.f76):=aA.a hm DU (aL _ _ _) Zv
def qb(d:List G):Option (List G) :=
 (a8 true (bV sr [.i 0,.l (gi d 0).rows,.i (((gi d 0).rows.length:Nat):Int),.i 0]) fun h g1=>(bif ae h 0 then some [.i (gi g1 0).int] else some [.i (gi g1 0).int]))
def DV:aG:=⟨76,[.s (.list [.int .i64])],[],[],[.s (.int .i64)],[],[],[],qb⟩
theorem Zx:aX P t15 M2 Tryz.f76 DV:=fun d=>by kernel_rfl
theorem Zy:aV P DV:=aT hm DU Tryz.func76 Zw Zx
def t16:ak:=t15.bC DV
theorem M3:aq P t16:=DU.aP Zy

def zo(d:List G):Option (List G) :=
 (ay (sq [.i (gi (gi d 0).row 0).int,.i (gi (gi d 1).row 0).int]) fun g1=>(ay (iH [.s (gi (gi d 0).row 3).str,.s (gi (gi d 1).row 3).str]) fun g2=>(ay (iH [.s (gi (gi d 0).row 2).str,.s (gi (gi d 1).row 2).str]) fun g3=>(ay (sq [.i (gi (gi d 0).row 1).int,.i (gi (gi d 1).row 1).int]) fun g4=>(ay (qb [.l [[.i (gi g1 0).int],[.i (gi g2 0).int],[.i (gi g3 0).int],[.i (gi g4 0).int]]]) fun g5=>some [.i (gi g5 0).int])))))
def DW:aG:=⟨73,[.s (.row ai),.s (.row ai)],[],[],[.s (.int .i64)],[],[],[],zo⟩
theorem Zz:aX P t16 az Tryz.f73 DW:=fun d=>by kernel_rfl
theorem ZA:aV P DW:=aT hm M3 Tryz.func73 (aL _ _ _) Zz
def t17:ak:=t16.bC DW
theorem DX:aq P t17:=M3.aP ZA

def M4(d:List G):Option (Option Nat × List G) :=
 (bif (ao (gi d 3).int (gi d 2).int) then (bif ((aB (gi d 3).int)&&(ao (gi d 3).int (((gi d 1).rows.length:Nat):Int))) then (ay (zm [.l [(aM ai ((gi d 1).rows.getD (((gi d 3).int).toNat) []))]]) fun g1=>(bif ((gi g1 0).int != 0) then some (some 0,[.i (gi g1 0).int]) else (bif (ao 0 (gi d 3).int) then (bif (au ((gi d 3).int-1)) then (bif ((aB ((gi d 3).int-1))&&(ao ((gi d 3).int-1) (((gi d 0).rows.length:Nat):Int))) then (ay (zo [.l [(aM ai ((gi d 0).rows.getD (((gi d 3).int-1).toNat) []))],.l [(aM ai ((gi d 1).rows.getD (((gi d 3).int).toNat) []))]]) fun g2=>(bif (ba 0 (gi g2 0).int) then some (some 0,[.i 7]) else (bif (au ((gi d 3).int+1)) then some (none,[.l (gi d 0).rows,.l (gi d 1).rows,.i (gi d 2).int,.i ((gi d 3).int+1)]) else none))) else none) else none) else (bif (au ((gi d 3).int+1)) then some (none,[.l (gi d 0).rows,.l (gi d 1).rows,.i (gi d 2).int,.i ((gi d 3).int+1)]) else none)))) else none) else some (some 1,[]))
def M5:bz:=⟨4,[],⟨34,[(0,.s (.list ai)),(9,.s (.list ai)),(10,.s (.int .i64)),(11,.s (.int .i64))],[]⟩,[],[⟨.ret,⟨34,[(2,.s (.int .i64))],[]⟩,[]⟩,⟨.exit 0,⟨34,[],[]⟩,[]⟩],M4⟩
theorem ZB:cy P t17 az 0 (cD Tryz.f37 4) M5:=fun d=>by kernel_rfl
def M6:LT:=az.add 0 M5
theorem ZC:aA P 0 M6 (aU Tryz.f37):=aA.a hm DX (aL _ _ _) ZB
def zp(d:List G):Option (List G) :=
 (bif (ao 2000 (((gi d 0).rows.length:Nat):Int)) then some [.i 2] else (a8 true (bV M4 [.l (gi d 0).rows,.l (gi d 0).rows,.i (((gi d 0).rows.length:Nat):Int),.i 0]) fun h g3=>(bif ae h 0 then some [.i (gi g3 0).int] else some [.i 0])))
def DY:aG:=⟨37,[.s (.list ai)],[],[],[.s (.int .i64)],[],[],[],zp⟩
theorem ZD:aX P t17 M6 Tryz.f37 DY:=fun d=>by kernel_rfl
theorem ZE:aV P DY:=aT hm DX Tryz.func37 ZC ZD
def t18:ak:=t17.bC DY
theorem M7:aq P t18:=DX.aP ZE

def M8(d:List G):Option (List G) :=
 (ay (zk [.s (gi d 0).str]) fun g1=>some [.s (gi (gi g1 0).row 0).str])
def DZ:aG:=⟨74,[.s (.str)],[],[],[.s (.str)],[],[],[],M8⟩
theorem ZF:aX P t18 az Tryz.f74 DZ:=fun d=>by kernel_rfl
theorem ZG:aV P DZ:=aT hm M7 Tryz.func74 (aL _ _ _) ZF
def t19:ak:=t18.bC DZ
theorem D0:aq P t19:=M7.aP ZG

def M9(d:List G):Option (Option Nat × List G) :=
 (bif (ao (gi d 5).int (gi d 4).int) then (bif ((aB (gi d 5).int)&&(ao (gi d 5).int (((gi d 3).rows.length:Nat):Int))) then (ay (M8 [.s (gi ((gi d 3).rows.getD (((gi d 5).int).toNat) []) 3).str]) fun g1=>(bif (gi (cC [.str,.str,.int .i64] (gi d 0).rows [.s (gi g1 0).str,.s (gi ((gi d 3).rows.getD (((gi d 5).int).toNat) []) 2).str,.i (gi ((gi d 3).rows.getD (((gi d 5).int).toNat) []) 1).int] [.t false]) 0).bool then (bif ((ae (gi d 2).rows.length (gi d 2).rows.length)&&(decide (((gi d 2).rows.length+1)≤1048576))) then (bif (au ((gi d 5).int+1)) then (bif ((ae ((gi d 2).rows++([[.i (gi d 5).int]]:List (List G))).length ((gi d 2).rows++([[.i (gi d 5).int]]:List (List G))).length)&&true) then some (none,[.l (eO [.str,.str,.int .i64] (gi d 0).rows [.s (gi g1 0).str,.s (gi ((gi d 3).rows.getD (((gi d 5).int).toNat) []) 2).str,.i (gi ((gi d 3).rows.getD (((gi d 5).int).toNat) []) 1).int] [.t true] (gi d 1).int.toNat),.i (((eE [.str,.str,.int .i64] (gi d 0).rows [.s (gi g1 0).str,.s (gi ((gi d 3).rows.getD (((gi d 5).int).toNat) []) 2).str,.i (gi ((gi d 3).rows.getD (((gi d 5).int).toNat) []) 1).int] (gi d 1).int.toNat):Nat):Int),.l ((gi d 2).rows++([[.i (gi d 5).int]]:List (List G))),.l (gi d 3).rows,.i (gi d 4).int,.i ((gi d 5).int+1)]) else none) else none) else none) else (bif (au ((gi d 5).int+1)) then (bif ((ae (gi d 2).rows.length (gi d 2).rows.length)&&true) then some (none,[.l (eO [.str,.str,.int .i64] (gi d 0).rows [.s (gi g1 0).str,.s (gi ((gi d 3).rows.getD (((gi d 5).int).toNat) []) 2).str,.i (gi ((gi d 3).rows.getD (((gi d 5).int).toNat) []) 1).int] [.t true] (gi d 1).int.toNat),.i (((eE [.str,.str,.int .i64] (gi d 0).rows [.s (gi g1 0).str,.s (gi ((gi d 3).rows.getD (((gi d 5).int).toNat) []) 2).str,.i (gi ((gi d 3).rows.getD (((gi d 5).int).toNat) []) 1).int] (gi d 1).int.toNat):Nat):Int),.l (gi d 2).rows,.l (gi d 3).rows,.i (gi d 4).int,.i ((gi d 5).int+1)]) else none) else none))) else none) else (bif ((ae (gi d 2).rows.length (gi d 2).rows.length)&&true) then some (some 0,[.l (gi d 2).rows]) else none))
def M_:bz:=⟨4,[(4,[.int .i64])],⟨35,[(3,.s (.map 0)),(4,.s (.vec 1 1)),(9,.s (.list ai)),(10,.s (.int .i64)),(11,.s (.int .i64))],[.map (.agg [.str,.str,.int .i64]) (.one (.bool)),.vec [.int .i64] 0]⟩,[.slot 3,.slot 4],[⟨.exit 0,⟨35,[(4,.s (.vec 0 1))],[.vec [.int .i64] 0]⟩,[.slot 4]⟩],M9⟩
theorem ZH:cy P t19 (az.jO [(6,[.hole [.str,.str,.int .i64]])]) 0 (cD Tryz.f39 4) M_:=fun d=>by kernel_rfl
def Na:LT:=(az.jO [(6,[.hole [.str,.str,.int .i64]])]).add 0 M_
theorem ZI:aA P 0 Na (aU Tryz.f39):=aA.a hm D0 (pT _) ZH
def Nb(d:List G):Option (List G) :=
 (a8 true (bV M9 [.l [],.i 0,.l [],.l (gi d 0).rows,.i (((gi d 0).rows.length:Nat):Int),.i 0]) fun h g2=>(bif ((ae (gi g2 0).rows.length (gi g2 0).rows.length)&&true) then some [.l (gi g2 0).rows] else none))
def D1:aG:=⟨39,[.s (.list ai)],[],[],[.s (.list [.int .i64])],[],[],[],Nb⟩
theorem ZJ:aX P t19 Na Tryz.f39 D1:=fun d=>by kernel_rfl
theorem ZK:aV P D1:=aT hm D0 Tryz.func39 ZI ZJ
def t20:ak:=t19.bC D1
theorem Nc:aq P t20:=D0.aP ZK

def ZL(d:List G):Option (List G) :=
 (ay (zp [.l (gi d 0).rows]) fun g1=>(bif ((gi g1 0).int != 0) then some [.l [],.i (gi g1 0).int] else (ay (Nb [.l (gi d 0).rows]) fun g2=>some [.l (gi g2 0).rows,.i 0])))
def D2:aG:=⟨19,[.s (.list ai)],[],[],[.s (.list [.int .i64]),.s (.int .i64)],[],[],[],ZL⟩
theorem ZM:aX P t20 az Tryz.f19 D2:=fun d=>by kernel_rfl
theorem ZN:aV P D2:=aT hm Nc Tryz.func19 (aL _ _ _) ZM
def t21:ak:=t20.bC D2
theorem D3:aq P t21:=Nc.aP ZN

def zq(d:List G):Option (Option Nat × List G) :=
 (bif (ao (gi d 2).int (gi d 1).int) then (bif (au (nv (gi d 2).int 2)) then (bif ((nv (gi d 2).int 2)==1) then (bif ((aB (gi d 2).int)&&(ao (gi d 2).int (((gi d 0).str.size:Nat):Int))) then (bif (ao (((gi d 0).str.data.toList.getD (((gi d 2).int).toNat) 0).toNat:Int) 48) then some (some 0,[.t false]) else (bif ((aB (gi d 2).int)&&(ao (gi d 2).int (((gi d 0).str.size:Nat):Int))) then (bif (ao 57 (((gi d 0).str.data.toList.getD (((gi d 2).int).toNat) 0).toNat:Int)) then some (some 0,[.t false]) else (bif (au ((gi d 2).int+1)) then some (none,[.s (gi d 0).str,.i (gi d 1).int,.i ((gi d 2).int+1)]) else none)) else none)) else none) else (bif ((nv (gi d 2).int 2)==2) then (bif ((aB (gi d 2).int)&&(ao (gi d 2).int (((gi d 0).str.size:Nat):Int))) then (bif (ao (((gi d 0).str.data.toList.getD (((gi d 2).int).toNat) 0).toNat:Int) 97) then some (some 0,[.t false]) else (bif ((aB (gi d 2).int)&&(ao (gi d 2).int (((gi d 0).str.size:Nat):Int))) then (bif (ao 120 (((gi d 0).str.data.toList.getD (((gi d 2).int).toNat) 0).toNat:Int)) then some (some 0,[.t false]) else (bif (au ((gi d 2).int+1)) then some (none,[.s (gi d 0).str,.i (gi d 1).int,.i ((gi d 2).int+1)]) else none)) else none)) else none) else (bif ((aB (gi d 2).int)&&(ao (gi d 2).int (((gi d 0).str.size:Nat):Int))) then (bif (ao (((gi d 0).str.data.toList.getD (((gi d 2).int).toNat) 0).toNat:Int) 97) then some (some 0,[.t false]) else (bif ((aB (gi d 2).int)&&(ao (gi d 2).int (((gi d 0).str.size:Nat):Int))) then (bif (ao 114 (((gi d 0).str.data.toList.getD (((gi d 2).int).toNat) 0).toNat:Int)) then some (some 0,[.t false]) else (bif (au ((gi d 2).int+1)) then some (none,[.s (gi d 0).str,.i (gi d 1).int,.i ((gi d 2).int+1)]) else none)) else none)) else none))) else none) else some (some 1,[]))
def Nd:bz:=⟨4,[],⟨43,[(0,.s (.str)),(20,.s (.int .i64)),(21,.s (.int .i64))],[]⟩,[],[⟨.ret,⟨43,[(2,.s (.bool))],[]⟩,[]⟩,⟨.exit 0,⟨43,[],[]⟩,[]⟩],zq⟩
theorem ZO:cy P t21 az 0 (cD Tryz.f107 4) Nd:=fun d=>by kernel_rfl
def Nf:LT:=az.add 0 Nd
theorem ZP:aA P 0 Nf (aU Tryz.f107):=aA.a hm D3 (aL _ _ _) ZO
def Ng(d:List G):Option (List G) :=
 (bif ((((gi d 0).str.size:Nat):Int) != 2) then (bif ((((gi d 0).str.size:Nat):Int) != 4) then (bif ((((gi d 0).str.size:Nat):Int) != 6) then some [.t false] else (a8 true (bV zq [.s (gi d 0).str,.i (((gi d 0).str.size:Nat):Int),.i 0]) fun h g1=>(bif ae h 0 then some [.t (gi g1 0).bool] else some [.t true]))) else (a8 true (bV zq [.s (gi d 0).str,.i (((gi d 0).str.size:Nat):Int),.i 0]) fun k g2=>(bif ae k 0 then some [.t (gi g2 0).bool] else some [.t true]))) else (a8 true (bV zq [.s (gi d 0).str,.i (((gi d 0).str.size:Nat):Int),.i 0]) fun q g3=>(bif ae q 0 then some [.t (gi g3 0).bool] else some [.t true])))
def D4:aG:=⟨107,[.s (.str)],[],[],[.s (.bool)],[],[],[],Ng⟩
theorem ZQ:aX P t21 Nf Tryz.f107 D4:=fun d=>by kernel_rfl
theorem ZR:aV P D4:=aT hm D3 Tryz.func107 ZP ZQ
def t22:ak:=t21.bC D4
theorem Nh:aq P t22:=D3.aP ZR

def Ni(d:List G):Option (List G) :=
 (bif ((((gi d 0).str.size:Nat):Int)==6) then (ay (Ng [.s (gi d 0).str]) fun g1=>some [.t (gi g1 0).bool]) else some [.t false])
def D5:aG:=⟨75,[.s (.str)],[],[],[.s (.bool)],[],[],[],Ni⟩
theorem ZS:aX P t22 az Tryz.f75 D5:=fun d=>by kernel_rfl
theorem ZT:aV P D5:=aT hm Nh Tryz.func75 (aL _ _ _) ZS
def t23:ak:=t22.bC D5
theorem D6:aq P t23:=Nh.aP ZT

def Nj(d:List G):Option (Option Nat × List G) :=
 (bif (ao (gi d 3).int (gi d 2).int) then (bif ((aB (gi d 3).int)&&(ao (gi d 3).int (((gi d 1).rows.length:Nat):Int))) then (ay (so [.s (gi ((gi d 1).rows.getD (((gi d 3).int).toNat) []) 0).str]) fun g1=>(bif (!(gi g1 0).bool) then some (some 0,[.i 3]) else (ay (sn [.s (gi ((gi d 1).rows.getD (((gi d 3).int).toNat) []) 1).str]) fun g2=>(bif (!(gi g2 0).bool) then some (some 0,[.i 5]) else (ay (lV [.i (gi ((gi d 1).rows.getD (((gi d 3).int).toNat) []) 2).int,.i 0,.i 1000000000000]) fun g3=>(bif (gi g3 0).bool then some (some 0,[.i 1]) else (bif (!((gi ((gi d 1).rows.getD (((gi d 3).int).toNat) []) 3).str.toList==(⟨#[]⟩:ByteArray).toList)) then (ay (Ni [.s (gi ((gi d 1).rows.getD (((gi d 3).int).toNat) []) 3).str]) fun g4=>(bif (!(gi g4 0).bool) then some (some 0,[.i 3]) else (bif (ao 0 (gi d 3).int) then (bif (au ((gi d 3).int-1)) then (bif ((aB ((gi d 3).int-1))&&(ao ((gi d 3).int-1) (((gi d 0).rows.length:Nat):Int))) then (ay (iH [.s (gi ((gi d 0).rows.getD (((gi d 3).int-1).toNat) []) 1).str,.s (gi ((gi d 1).rows.getD (((gi d 3).int).toNat) []) 1).str]) fun g5=>(bif (au ((gi d 3).int-1)) then (bif ((aB ((gi d 3).int-1))&&(ao ((gi d 3).int-1) (((gi d 0).rows.length:Nat):Int))) then (ay (iH [.s (gi ((gi d 0).rows.getD (((gi d 3).int-1).toNat) []) 0).str,.s (gi ((gi d 1).rows.getD (((gi d 3).int).toNat) []) 0).str]) fun g6=>(ay (qb [.l [[.i (gi g5 0).int],[.i (gi g6 0).int]]]) fun g7=>(bif (ba 0 (gi g7 0).int) then some (some 0,[.i 7]) else (bif (au ((gi d 3).int+1)) then some (none,[.l (gi d 0).rows,.l (gi d 1).rows,.i (gi d 2).int,.i ((gi d 3).int+1)]) else none)))) else none) else none)) else none) else none) else (bif (au ((gi d 3).int+1)) then some (none,[.l (gi d 0).rows,.l (gi d 1).rows,.i (gi d 2).int,.i ((gi d 3).int+1)]) else none)))) else (bif (ao 0 (gi d 3).int) then (bif (au ((gi d 3).int-1)) then (bif ((aB ((gi d 3).int-1))&&(ao ((gi d 3).int-1) (((gi d 0).rows.length:Nat):Int))) then (ay (iH [.s (gi ((gi d 0).rows.getD (((gi d 3).int-1).toNat) []) 1).str,.s (gi ((gi d 1).rows.getD (((gi d 3).int).toNat) []) 1).str]) fun g8=>(bif (au ((gi d 3).int-1)) then (bif ((aB ((gi d 3).int-1))&&(ao ((gi d 3).int-1) (((gi d 0).rows.length:Nat):Int))) then (ay (iH [.s (gi ((gi d 0).rows.getD (((gi d 3).int-1).toNat) []) 0).str,.s (gi ((gi d 1).rows.getD (((gi d 3).int).toNat) []) 0).str]) fun g9=>(ay (qb [.l [[.i (gi g8 0).int],[.i (gi g9 0).int]]]) fun g10=>(bif (ba 0 (gi g10 0).int) then some (some 0,[.i 7]) else (bif (au ((gi d 3).int+1)) then some (none,[.l (gi d 0).rows,.l (gi d 1).rows,.i (gi d 2).int,.i ((gi d 3).int+1)]) else none)))) else none) else none)) else none) else none) else (bif (au ((gi d 3).int+1)) then some (none,[.l (gi d 0).rows,.l (gi d 1).rows,.i (gi d 2).int,.i ((gi d 3).int+1)]) else none))))))))) else none) else some (some 1,[]))
def Nk:bz:=⟨4,[],⟨66,[(0,.s (.list vp)),(8,.s (.list vp)),(9,.s (.int .i64)),(10,.s (.int .i64))],[]⟩,[],[⟨.ret,⟨66,[(2,.s (.int .i64))],[]⟩,[]⟩,⟨.exit 0,⟨66,[],[]⟩,[]⟩],Nj⟩
theorem ZU:cy P t23 az 0 (cD Tryz.f40 4) Nk:=fun d=>by kernel_rfl
def Nl:LT:=az.add 0 Nk
theorem ZV:aA P 0 Nl (aU Tryz.f40):=aA.a hm D6 (aL _ _ _) ZU
def Nn(d:List G):Option (List G) :=
 (bif (ao 500 (((gi d 0).rows.length:Nat):Int)) then some [.i 2] else (a8 true (bV Nj [.l (gi d 0).rows,.l (gi d 0).rows,.i (((gi d 0).rows.length:Nat):Int),.i 0]) fun h g11=>(bif ae h 0 then some [.i (gi g11 0).int] else some [.i 0])))
def D7:aG:=⟨40,[.s (.list vp)],[],[],[.s (.int .i64)],[],[],[],Nn⟩
theorem ZW:aX P t23 Nl Tryz.f40 D7:=fun d=>by kernel_rfl
theorem ZX:aV P D7:=aT hm D6 Tryz.func40 ZV ZW
def t24:ak:=t23.bC D7
theorem D8:aq P t24:=D6.aP ZX

def mX(d:List G):Option (Option Nat × List G) :=
 (bif ((aB (IntKind.u8.wrap ((gi d 0).int)))&&(ao (IntKind.u8.wrap ((gi d 0).int)) 256)) then (bif (au (((⟨#[0,1,2,2,3,3,3,3,4,4,4,4,4,4,4,4,5,5,5,5,5,5,5,5,5,5,5,5,5,5,5,5,6,6,6,6,6,6,6,6,6,6,6,6,6,6,6,6,6,6,6,6,6,6,6,6,6,6,6,6,6,6,6,6,7,7,7,7,7,7,7,7,7,7,7,7,7,7,7,7,7,7,7,7,7,7,7,7,7,7,7,7,7,7,7,7,7,7,7,7,7,7,7,7,7,7,7,7,7,7,7,7,7,7,7,7,7,7,7,7,7,7,7,7,7,7,7,7,8,8,8,8,8,8,8,8,8,8,8,8,8,8,8,8,8,8,8,8,8,8,8,8,8,8,8,8,8,8,8,8,8,8,8,8,8,8,8,8,8,8,8,8,8,8,8,8,8,8,8,8,8,8,8,8,8,8,8,8,8,8,8,8,8,8,8,8,8,8,8,8,8,8,8,8,8,8,8,8,8,8,8,8,8,8,8,8,8,8,8,8,8,8,8,8,8,8,8,8,8,8,8,8,8,8,8,8,8,8,8,8,8,8,8,8,8,8,8,8,8,8,8,8,8,8,8,8]⟩:ByteArray).data.toList.getD ((IntKind.u8.wrap ((gi d 0).int)).toNat) 0).toNat:Int)) then (bif (au ((gi d 1).int+(((⟨#[0,1,2,2,3,3,3,3,4,4,4,4,4,4,4,4,5,5,5,5,5,5,5,5,5,5,5,5,5,5,5,5,6,6,6,6,6,6,6,6,6,6,6,6,6,6,6,6,6,6,6,6,6,6,6,6,6,6,6,6,6,6,6,6,7,7,7,7,7,7,7,7,7,7,7,7,7,7,7,7,7,7,7,7,7,7,7,7,7,7,7,7,7,7,7,7,7,7,7,7,7,7,7,7,7,7,7,7,7,7,7,7,7,7,7,7,7,7,7,7,7,7,7,7,7,7,7,7,8,8,8,8,8,8,8,8,8,8,8,8,8,8,8,8,8,8,8,8,8,8,8,8,8,8,8,8,8,8,8,8,8,8,8,8,8,8,8,8,8,8,8,8,8,8,8,8,8,8,8,8,8,8,8,8,8,8,8,8,8,8,8,8,8,8,8,8,8,8,8,8,8,8,8,8,8,8,8,8,8,8,8,8,8,8,8,8,8,8,8,8,8,8,8,8,8,8,8,8,8,8,8,8,8,8,8,8,8,8,8,8,8,8,8,8,8,8,8,8,8,8,8,8,8,8,8,8]⟩:ByteArray).data.toList.getD ((IntKind.u8.wrap ((gi d 0).int)).toNat) 0).toNat:Int))) then some (some 0,[.i ((gi d 1).int+(((⟨#[0,1,2,2,3,3,3,3,4,4,4,4,4,4,4,4,5,5,5,5,5,5,5,5,5,5,5,5,5,5,5,5,6,6,6,6,6,6,6,6,6,6,6,6,6,6,6,6,6,6,6,6,6,6,6,6,6,6,6,6,6,6,6,6,7,7,7,7,7,7,7,7,7,7,7,7,7,7,7,7,7,7,7,7,7,7,7,7,7,7,7,7,7,7,7,7,7,7,7,7,7,7,7,7,7,7,7,7,7,7,7,7,7,7,7,7,7,7,7,7,7,7,7,7,7,7,7,7,8,8,8,8,8,8,8,8,8,8,8,8,8,8,8,8,8,8,8,8,8,8,8,8,8,8,8,8,8,8,8,8,8,8,8,8,8,8,8,8,8,8,8,8,8,8,8,8,8,8,8,8,8,8,8,8,8,8,8,8,8,8,8,8,8,8,8,8,8,8,8,8,8,8,8,8,8,8,8,8,8,8,8,8,8,8,8,8,8,8,8,8,8,8,8,8,8,8,8,8,8,8,8,8,8,8,8,8,8,8,8,8,8,8,8,8,8,8,8,8,8,8,8,8,8,8,8,8]⟩:ByteArray).data.toList.getD ((IntKind.u8.wrap ((gi d 0).int)).toNat) 0).toNat:Int))]) else none) else none) else none)
def No:bz:=⟨10,[],⟨25,[(0,.s (.int .u64)),(2,.s (.int .i64))],[]⟩,[],[⟨.ret,⟨25,[(2,.s (.int .i64))],[]⟩,[]⟩],mX⟩
theorem ZY:gW P t24 az 0 (cutAt Tryz.f70 10) No:=fun d=>by kernel_rfl
def Np:LT:=az.fX 0 No
theorem ZZ:aA P 0 Np (aU Tryz.f70):=aA.aC hm D8 (aL _ _ _) ZY
def Nq(d:List G):Option (List G) :=
 (bif (ba 4294967296 (gi d 0).int) then (bif (ba 65536 (dW .u64 (gi d 0).int 32)) then (bif (ba 256 (dW .u64 (dW .u64 (gi d 0).int 32) 16)) then (a8 true (dn (mX [.i (dW .u64 (dW .u64 (dW .u64 (gi d 0).int 32) 16) 8),.i 56])) fun h g1=>some [.i (gi g1 0).int]) else (a8 true (dn (mX [.i (dW .u64 (dW .u64 (gi d 0).int 32) 16),.i 48])) fun k g2=>some [.i (gi g2 0).int])) else (bif (ba 256 (dW .u64 (gi d 0).int 32)) then (a8 true (dn (mX [.i (dW .u64 (dW .u64 (gi d 0).int 32) 8),.i 40])) fun q g3=>some [.i (gi g3 0).int]) else (a8 true (dn (mX [.i (dW .u64 (gi d 0).int 32),.i 32])) fun u g4=>some [.i (gi g4 0).int]))) else (bif (ba 65536 (gi d 0).int) then (bif (ba 256 (dW .u64 (gi d 0).int 16)) then (a8 true (dn (mX [.i (dW .u64 (dW .u64 (gi d 0).int 16) 8),.i 24])) fun v g5=>some [.i (gi g5 0).int]) else (a8 true (dn (mX [.i (dW .u64 (gi d 0).int 16),.i 16])) fun y g6=>some [.i (gi g6 0).int])) else (bif (ba 256 (gi d 0).int) then (a8 true (dn (mX [.i (dW .u64 (gi d 0).int 8),.i 8])) fun B g7=>some [.i (gi g7 0).int]) else (a8 true (dn (mX [.i (gi d 0).int,.i 0])) fun I g8=>some [.i (gi g8 0).int]))))
def D9:aG:=⟨70,[.s (.int .u64)],[],[],[.s (.int .i64)],[],[],[],Nq⟩
theorem Z0:aX P t24 Np Tryz.f70 D9:=fun d=>by kernel_rfl
theorem Z1:aV P D9:=aT hm D8 Tryz.func70 ZZ Z0
def t25:ak:=t24.bC D9
theorem Nr:aq P t25:=D8.aP Z1

def Ns(d:List G):Option (List G) :=
 (ay (Nq [.i (gi d 0).int]) fun g1=>some [.i (gi g1 0).int])
def D_:aG:=⟨35,[.s (.int .u64)],[],[],[.s (.int .i64)],[],[],[],Ns⟩
theorem Z2:aX P t25 az Tryz.f35 D_:=fun d=>by kernel_rfl
theorem Z3:aV P D_:=aT hm Nr Tryz.func35 (aL _ _ _) Z2
def t26:ak:=t25.bC D_
theorem Nt:aq P t26:=Nr.aP Z3

def Nu(d:List G):Option (List G) :=
 (ay (sq [.i (gi (gi d 1).row 1).int,.i (gi (gi d 0).row 1).int]) fun g1=>(ay (iH [.s (gi (gi d 0).row 2).str,.s (gi (gi d 1).row 2).str]) fun g2=>(ay (qb [.l [[.i (gi g1 0).int],[.i (gi g2 0).int]]]) fun g3=>some [.i (gi g3 0).int])))
def Ea:aG:=⟨80,[.s (.row cq),.s (.row cq)],[],[],[.s (.int .i64)],[],[],[],Nu⟩
theorem Z4:aX P t26 az Tryz.f80 Ea:=fun d=>by kernel_rfl
theorem Z5:aV P Ea:=aT hm Nt Tryz.func80 (aL _ _ _) Z4
def t27:ak:=t26.bC Ea
theorem zt:aq P t27:=Nt.aP Z5

def Nv(d:List G):Option (Option Nat × List G) :=
 (bif (ao (gi d 1).int (gi d 4).int) then (bif ((aB (gi d 4).int)&&(ao (gi d 4).int (((gi d 0).rows.length:Nat):Int))) then (bif (decide ((0+((gi d 4).int).toNat)<(gi d 0).rows.length)) then (bif (au ((gi d 4).int-1)) then (bif ((aB ((gi d 4).int-1))&&(ao ((gi d 4).int-1) (((gi d 0).rows.length:Nat):Int))) then (bif (decide ((0+((gi d 4).int-1).toNat)<(gi d 0).rows.length)) then (ay (Nu [.l [(aM cq ((gi d 0).rows.getD (0+((gi d 4).int).toNat) []))],.l [(aM cq ((gi d 0).rows.getD (0+((gi d 4).int-1).toNat) []))]]) fun g1=>(bif (ao (gi g1 0).int 0) then (bif (au ((gi d 4).int-1)) then (bif (au ((gi d 4).int-1)) then (bif ((aB ((gi d 4).int-1))&&(ao ((gi d 4).int-1) (((gi d 0).rows.length:Nat):Int))) then (bif (decide ((0+((gi d 4).int-1).toNat)<(gi d 0).rows.length)) then (bif ((aB (gi d 4).int)&&(ao (gi d 4).int (((gi d 0).rows.length:Nat):Int))) then (bif (decide ((0+((gi d 4).int).toNat)<(gi d 0).rows.length)) then (bif ((aB (gi d 4).int)&&(ao (gi d 4).int (((gi d 0).rows.length:Nat):Int))) then (bif (decide ((0+((gi d 4).int).toNat)<(gi d 0).rows.length)) then (bif ((aB ((gi d 4).int-1))&&(ao ((gi d 4).int-1) (((gi d 0).rows.length:Nat):Int))) then (bif (decide ((0+((gi d 4).int-1).toNat)<((gi d 0).rows.set (0+((gi d 4).int).toNat) (bf cq ((gi d 0).rows.getD (0+((gi d 4).int).toNat) []) 0 (aM cq ((gi d 0).rows.getD (0+((gi d 4).int-1).toNat) [])))).length)) then (bif (au ((gi d 4).int-1)) then (bif ((ae (gi d 0).rows.length (((gi d 0).rows.set (0+((gi d 4).int).toNat) (bf cq ((gi d 0).rows.getD (0+((gi d 4).int).toNat) []) 0 (aM cq ((gi d 0).rows.getD (0+((gi d 4).int-1).toNat) [])))).set (0+((gi d 4).int-1).toNat) (bf cq (((gi d 0).rows.set (0+((gi d 4).int).toNat) (bf cq ((gi d 0).rows.getD (0+((gi d 4).int).toNat) []) 0 (aM cq ((gi d 0).rows.getD (0+((gi d 4).int-1).toNat) [])))).getD (0+((gi d 4).int-1).toNat) []) 0 (aM cq ((gi d 0).rows.getD (0+((gi d 4).int).toNat) [])))).length)&&true) then some (none,[.l (((gi d 0).rows.set (0+((gi d 4).int).toNat) (bf cq ((gi d 0).rows.getD (0+((gi d 4).int).toNat) []) 0 (aM cq ((gi d 0).rows.getD (0+((gi d 4).int-1).toNat) [])))).set (0+((gi d 4).int-1).toNat) (bf cq (((gi d 0).rows.set (0+((gi d 4).int).toNat) (bf cq ((gi d 0).rows.getD (0+((gi d 4).int).toNat) []) 0 (aM cq ((gi d 0).rows.getD (0+((gi d 4).int-1).toNat) [])))).getD (0+((gi d 4).int-1).toNat) []) 0 (aM cq ((gi d 0).rows.getD (0+((gi d 4).int).toNat) [])))),.i (gi d 1).int,.i (gi d 2).int,.i (gi d 3).int,.i ((gi d 4).int-1)]) else none) else none) else none) else none) else none) else none) else none) else none) else none) else none) else none) else none) else (bif ((ae (gi d 0).rows.length (gi d 0).rows.length)&&true) then some (some 0,[.l (gi d 0).rows,.i (gi d 1).int,.i (gi d 2).int,.i (gi d 3).int]) else none))) else none) else none) else none) else none) else none) else (bif ((ae (gi d 0).rows.length (gi d 0).rows.length)&&true) then some (some 0,[.l (gi d 0).rows,.i (gi d 1).int,.i (gi d 2).int,.i (gi d 3).int]) else none))
def Nw:bz:=⟨4,[],⟨53,[(0,.s (.vec 0 3)),(1,.s (.int .i64)),(2,.s (.int .i64)),(3,.s (.fn 80)),(8,.s (.int .i64)),(9,.s (.int .i64))],[.vec cq 0]⟩,[.fix 0],[⟨.exit 2,⟨53,[(0,.s (.vec 0 3)),(1,.s (.int .i64)),(2,.s (.int .i64)),(3,.s (.fn 80)),(8,.s (.int .i64))],[.vec cq 0]⟩,[.fix 0]⟩],Nv⟩
theorem Z6:cy P t27 az 1 (cD Tryz.f141 4) Nw:=fun d=>by kernel_rfl
def Eb:LT:=az.add 1 Nw
theorem Z7:aA P 1 Eb (aU Tryz.f141):=aA.a hm zt (aL _ _ _) Z6
def Nx(d:List G):Option (Option Nat × List G) :=
 (bif (ao (gi d 3).int (gi d 2).int) then (a8 ((ae (gi d 0).rows.length (gi d 0).rows.length)&&true) (bV Nv [.l (gi d 0).rows,.i (gi d 1).int,.i (gi d 2).int,.i (gi d 3).int,.i (gi d 3).int]) fun h g2=>(bif (au ((gi g2 3).int+1)) then (bif ((ae (gi g2 0).rows.length (gi g2 0).rows.length)&&true) then some (none,[.l (gi g2 0).rows,.i (gi g2 1).int,.i (gi g2 2).int,.i ((gi g2 3).int+1)]) else none) else none)) else some (some 0,[.l (gi d 0).rows]))
def Ny:bz:=⟨1,[],⟨53,[(0,.s (.vec 0 3)),(1,.s (.int .i64)),(2,.s (.int .i64)),(3,.s (.fn 80)),(8,.s (.int .i64))],[.vec cq 0]⟩,[.fix 0],[⟨.exit 0,⟨53,[],[.vec cq 0]⟩,[.fix 0]⟩],Nx⟩
theorem Z8:cy P t27 Eb 1 (cD Tryz.f141 1) Ny:=fun d=>by kernel_rfl
def Nz:LT:=Eb.add 1 Ny
theorem Z9:aA P 1 Nz (aU Tryz.f141):=aA.a hm zt Z7 Z8
def Ec(d:List G):Option (List G) :=
 (bif (au ((gi d 1).int+1)) then (a8 ((ae (gi d 0).rows.length (gi d 0).rows.length)&&true) (bV Nx [.l (gi d 0).rows,.i (gi d 1).int,.i (gi d 2).int,.i ((gi d 1).int+1)]) fun h g3=>some [.l (gi g3 0).rows]) else none)
def Ed:aG:=⟨141,[.s (.vec 0 3),.s (.int .i64),.s (.int .i64),.s (.fn 80)],[.vec cq 0],[.slot 0],[],[.vec cq 0],[.fix 0],[],Ec⟩
theorem Z_:aX P t27 Nz Tryz.f141 Ed:=fun d=>by kernel_rfl
theorem Z':aV P Ed:=aT hm zt Tryz.func141 Z9 Z_
def t28:ak:=t27.cT Ed
theorem Ee:aq P t28:=zt.aW Z'

def NA(d:List G):Option (Option Nat × List G) :=
 (bif (au ((gi d 2).int-(gi d 1).int)) then (bif (ba ((gi d 2).int-(gi d 1).int) 12) then (iE (((ae (gi d 0).rows.length (gi d 0).rows.length)&&true)&&(Ec [.l (gi d 0).rows,.i (gi d 1).int,.i (gi d 2).int]).isSome) (Ec [.l (gi d 0).rows,.i (gi d 1).int,.i (gi d 2).int]) fun g1=>some (some 0,[.l (gi g1 0).rows])) else (bif ((gi d 3).int==0) then none else (bif (!(gi d 4).bool) then none else none))) else none)
def NB:bz:=⟨2,[],⟨148,[(0,.s (.vec 0 3)),(1,.s (.int .i64)),(2,.s (.int .i64)),(3,.s (.int .i64)),(4,.s (.fn 80)),(10,.s (.bool)),(11,.s (.bool))],[.vec cq 0]⟩,[.fix 0],[⟨.ret,⟨148,[],[.vec cq 0]⟩,[.fix 0]⟩],NA⟩
theorem aaa:cy P t28 az 1 (cD Tryz.f116 2) NB:=fun d=>by kernel_rfl
def NC:LT:=az.add 1 NB
theorem aab:aA P 1 NC (aU Tryz.f116):=aA.a hm Ee (aL _ _ _) aaa
def Ef(d:List G):Option (List G) :=
 (a8 ((ae (gi d 0).rows.length (gi d 0).rows.length)&&true) (bV NA [.l (gi d 0).rows,.i (gi d 1).int,.i (gi d 2).int,.i (gi d 3).int,.t true,.t true]) fun h g2=>some [.l (gi g2 0).rows])
def Eg:aG:=⟨116,[.s (.vec 0 3),.s (.int .i64),.s (.int .i64),.s (.int .i64),.s (.fn 80)],[.vec cq 0],[.slot 0],[],[.vec cq 0],[.fix 0],[],Ef⟩
theorem aac:aX P t28 NC Tryz.f116 Eg:=fun d=>by kernel_rfl
theorem aad:aV P Eg:=aT hm Ee Tryz.func116 aab aac
def t29:ak:=t28.cT Eg
theorem ND:aq P t29:=Ee.aW aad

def Eh(d:List G):Option (List G) :=
 (ay (Ns [.i (IntKind.u64.wrap (((gi d 0).rows.length:Nat):Int))]) fun g1=>(iE (((ae (gi d 0).rows.length (gi d 0).rows.length)&&true)&&(Ef [.l (gi d 0).rows,.i 0,.i (((gi d 0).rows.length:Nat):Int),.i (gi g1 0).int]).isSome) (Ef [.l (gi d 0).rows,.i 0,.i (((gi d 0).rows.length:Nat):Int),.i (gi g1 0).int]) fun g2=>some [.l (gi g2 0).rows]))
def Ei:aG:=⟨79,[.s (.vec 0 3),.s (.fn 80)],[.vec cq 0],[.slot 0],[],[.vec cq 0],[.fix 0],[],Eh⟩
theorem aae:aX P t29 az Tryz.f79 Ei:=fun d=>by kernel_rfl
theorem aaf:aV P Ei:=aT hm ND Tryz.func79 (aL _ _ _) aae
def t30:ak:=t29.cT Ei
theorem zu:aq P t30:=ND.aW aaf

def Ej(d:List G):Option (Option Nat × List G) :=
 (bif (gi d 4).bool then (bif (au ((gi d 1).int-1)) then (bif ((aB ((gi d 1).int-1))&&(ao ((gi d 1).int-1) (((gi d 0).rows.length:Nat):Int))) then (bif (decide ((0+((gi d 1).int-1).toNat)<(gi d 0).rows.length)) then (bif ((aB (gi d 1).int)&&(ao (gi d 1).int (((gi d 0).rows.length:Nat):Int))) then (bif (decide ((0+((gi d 1).int).toNat)<(gi d 0).rows.length)) then (bif ((ae (gi d 0).rows.length ((gi d 0).rows.set (0+((gi d 1).int).toNat) (bf cq ((gi d 0).rows.getD (0+((gi d 1).int).toNat) []) 0 [.i (gi ((gi d 0).rows.getD (0+((gi d 1).int-1).toNat) []) 0).int])).length)&&true) then some (some 0,[.l ((gi d 0).rows.set (0+((gi d 1).int).toNat) (bf cq ((gi d 0).rows.getD (0+((gi d 1).int).toNat) []) 0 [.i (gi ((gi d 0).rows.getD (0+((gi d 1).int-1).toNat) []) 0).int])),.i (gi d 2).int,.i (gi d 3).int]) else none) else none) else none) else none) else none) else none) else (bif ((ae (gi d 0).rows.length (gi d 0).rows.length)&&true) then some (some 0,[.l (gi d 0).rows,.i (gi d 2).int,.i (gi d 3).int]) else none))
def NF:bz:=⟨7,[],⟨45,[(0,.s (.vec 0 3)),(3,.s (.int .i64)),(7,.s (.int .i64)),(8,.s (.int .i64)),(32,.s (.bool))],[.vec cq 0]⟩,[.fix 0],[⟨.normal,⟨45,[(0,.s (.vec 0 3)),(7,.s (.int .i64)),(8,.s (.int .i64))],[.vec cq 0]⟩,[.fix 0]⟩],Ej⟩
theorem aag:gW P t30 az 1 (cutAt Tryz.f42 7) NF:=fun d=>by kernel_rfl
def Ek:LT:=az.fX 1 NF
theorem aah:aA P 1 Ek (aU Tryz.f42):=aA.aC hm zu (aL _ _ _) aag
def NG(d:List G):Option (Option Nat × List G) :=
 (bif (ao (gi d 2).int (gi d 1).int) then (bif (au ((gi d 2).int+1)) then (bif ((aB (gi d 2).int)&&(ao (gi d 2).int (((gi d 0).rows.length:Nat):Int))) then (bif (decide ((0+((gi d 2).int).toNat)<(gi d 0).rows.length)) then (bif (ao 0 (gi d 2).int) then (bif ((aB (gi d 2).int)&&(ao (gi d 2).int (((gi d 0).rows.length:Nat):Int))) then (bif (decide ((0+((gi d 2).int).toNat)<((gi d 0).rows.set (0+((gi d 2).int).toNat) (bf cq ((gi d 0).rows.getD (0+((gi d 2).int).toNat) []) 0 [.i ((gi d 2).int+1)])).length)) then (bif (au ((gi d 2).int-1)) then (bif ((aB ((gi d 2).int-1))&&(ao ((gi d 2).int-1) (((gi d 0).rows.length:Nat):Int))) then (bif (decide ((0+((gi d 2).int-1).toNat)<((gi d 0).rows.set (0+((gi d 2).int).toNat) (bf cq ((gi d 0).rows.getD (0+((gi d 2).int).toNat) []) 0 [.i ((gi d 2).int+1)])).length)) then (a8 ((ae (gi d 0).rows.length ((gi d 0).rows.set (0+((gi d 2).int).toNat) (bf cq ((gi d 0).rows.getD (0+((gi d 2).int).toNat) []) 0 [.i ((gi d 2).int+1)])).length)&&true) (dn (Ej [.l ((gi d 0).rows.set (0+((gi d 2).int).toNat) (bf cq ((gi d 0).rows.getD (0+((gi d 2).int).toNat) []) 0 [.i ((gi d 2).int+1)])),.i (gi d 2).int,.i (gi d 1).int,.i (gi d 2).int,.t ((gi (((gi d 0).rows.set (0+((gi d 2).int).toNat) (bf cq ((gi d 0).rows.getD (0+((gi d 2).int).toNat) []) 0 [.i ((gi d 2).int+1)])).getD (0+((gi d 2).int).toNat) []) 1).int==(gi (((gi d 0).rows.set (0+((gi d 2).int).toNat) (bf cq ((gi d 0).rows.getD (0+((gi d 2).int).toNat) []) 0 [.i ((gi d 2).int+1)])).getD (0+((gi d 2).int-1).toNat) []) 1).int)])) fun h g2=>(bif (au ((gi g2 2).int+1)) then (bif ((ae (gi g2 0).rows.length (gi g2 0).rows.length)&&true) then some (none,[.l (gi g2 0).rows,.i (gi g2 1).int,.i ((gi g2 2).int+1)]) else none) else none)) else none) else none) else none) else none) else none) else (a8 ((ae (gi d 0).rows.length ((gi d 0).rows.set (0+((gi d 2).int).toNat) (bf cq ((gi d 0).rows.getD (0+((gi d 2).int).toNat) []) 0 [.i ((gi d 2).int+1)])).length)&&true) (dn (Ej [.l ((gi d 0).rows.set (0+((gi d 2).int).toNat) (bf cq ((gi d 0).rows.getD (0+((gi d 2).int).toNat) []) 0 [.i ((gi d 2).int+1)])),.i (gi d 2).int,.i (gi d 1).int,.i (gi d 2).int,.t false])) fun k g3=>(bif (au ((gi g3 2).int+1)) then (bif ((ae (gi g3 0).rows.length (gi g3 0).rows.length)&&true) then some (none,[.l (gi g3 0).rows,.i (gi g3 1).int,.i ((gi g3 2).int+1)]) else none) else none))) else none) else none) else none) else (bif ((ae (gi d 0).rows.length (gi d 0).rows.length)&&true) then some (some 0,[.l (gi d 0).rows]) else none))
def NH:bz:=⟨3,[],⟨45,[(0,.s (.vec 0 3)),(7,.s (.int .i64)),(8,.s (.int .i64))],[.vec cq 0]⟩,[.fix 0],[⟨.exit 0,⟨45,[(0,.s (.vec 0 3))],[.vec cq 0]⟩,[.fix 0]⟩],NG⟩
theorem aai:cy P t30 Ek 1 (cD Tryz.f42 3) NH:=fun d=>by kernel_rfl
def NI:LT:=Ek.add 1 NH
theorem aaj:aA P 1 NI (aU Tryz.f42):=aA.a hm zu aah aai
def El(d:List G):Option (List G) :=
 (iE (((ae (gi d 0).rows.length (gi d 0).rows.length)&&true)&&(Eh [.l (gi d 0).rows]).isSome) (Eh [.l (gi d 0).rows]) fun g1=>(a8 ((ae (gi d 0).rows.length (gi g1 0).rows.length)&&true) (bV NG [.l (gi g1 0).rows,.i (((gi d 0).rows.length:Nat):Int),.i 0]) fun h g4=>(bif ((ae (gi g4 0).rows.length (gi g4 0).rows.length)&&true) then some [.l (gi g4 0).rows] else none)))
def Em:aG:=⟨42,[.s (.vec 0 3)],[.vec cq 0],[.slot 0],[.s (.vec 0 3)],[.vec cq 0],[.fix 0],[],El⟩
theorem aak:aX P t30 NI Tryz.f42 Em:=fun d=>by kernel_rfl
theorem aal:aV P Em:=aT hm zu Tryz.func42 aaj aak
def t31:ak:=t30.cT Em
theorem En:aq P t31:=zu.aW aal

def NJ(d:List G):Option (Option Nat × List G) :=
 (bif (ao (gi d 4).int (gi d 3).int) then (bif ((aB (gi d 4).int)&&(ao (gi d 4).int (((gi d 2).rows.length:Nat):Int))) then (bif ((gi ((gi d 2).rows.getD (((gi d 4).int).toNat) []) 1).str.toList==(gi d 1).str.toList) then (bif ((ae (gi d 0).rows.length (gi d 0).rows.length)&&(decide (((gi d 0).rows.length+1)≤1048576))) then (bif (au ((gi d 4).int+1)) then (bif ((ae ((gi d 0).rows++([[.i 0,.i (gi ((gi d 2).rows.getD (((gi d 4).int).toNat) []) 2).int,.s (gi ((gi d 2).rows.getD (((gi d 4).int).toNat) []) 0).str]]:List (List G))).length ((gi d 0).rows++([[.i 0,.i (gi ((gi d 2).rows.getD (((gi d 4).int).toNat) []) 2).int,.s (gi ((gi d 2).rows.getD (((gi d 4).int).toNat) []) 0).str]]:List (List G))).length)&&true) then some (none,[.l ((gi d 0).rows++([[.i 0,.i (gi ((gi d 2).rows.getD (((gi d 4).int).toNat) []) 2).int,.s (gi ((gi d 2).rows.getD (((gi d 4).int).toNat) []) 0).str]]:List (List G))),.s (gi d 1).str,.l (gi d 2).rows,.i (gi d 3).int,.i ((gi d 4).int+1)]) else none) else none) else none) else (bif (au ((gi d 4).int+1)) then (bif ((ae (gi d 0).rows.length (gi d 0).rows.length)&&true) then some (none,[.l (gi d 0).rows,.s (gi d 1).str,.l (gi d 2).rows,.i (gi d 3).int,.i ((gi d 4).int+1)]) else none) else none)) else none) else (bif ((ae (gi d 0).rows.length (gi d 0).rows.length)&&true) then some (some 0,[.l (gi d 0).rows]) else none))
def NK:bz:=⟨8,[(7,cq)],⟨39,[(1,.s (.str)),(7,.s (.vec 0 3)),(18,.s (.list vp)),(19,.s (.int .i64)),(20,.s (.int .i64))],[.vec cq 0]⟩,[.slot 7],[⟨.exit 0,⟨39,[(7,.s (.vec 0 3))],[.vec cq 0]⟩,[.slot 7]⟩],NJ⟩
theorem aam:cy P t31 az 0 (cD Tryz.f20 8) NK:=fun d=>by kernel_rfl
def NL:LT:=az.add 0 NK
theorem aan:aA P 0 NL (aU Tryz.f20):=aA.a hm En (aL _ _ _) aam
def aao(d:List G):Option (List G) :=
 (ay (Nn [.l (gi d 0).rows]) fun g1=>(bif ((gi g1 0).int != 0) then some [.l [],.i (gi g1 0).int] else (ay (sn [.s (gi d 1).str]) fun g2=>(bif (!(gi g2 0).bool) then some [.l [],.i 5] else (a8 true (bV NJ [.l [],.s (gi d 1).str,.l (gi d 0).rows,.i (((gi d 0).rows.length:Nat):Int),.i 0]) fun h g3=>(iE (((ae (gi g3 0).rows.length (gi g3 0).rows.length)&&true)&&(El [.l (gi g3 0).rows]).isSome) (El [.l (gi g3 0).rows]) fun g4=>(bif ((ae (gi g4 0).rows.length (gi g4 0).rows.length)&&true) then some [.l (gi g4 0).rows,.i 0] else none)))))))
def Eo:aG:=⟨20,[.s (.list vp),.s (.str)],[],[],[.s (.list cq),.s (.int .i64)],[],[],[],aao⟩
theorem aap:aX P t31 NL Tryz.f20 Eo:=fun d=>by kernel_rfl
theorem aaq:aV P Eo:=aT hm En Tryz.func20 aan aap
def t32:ak:=t31.bC Eo
theorem Ep:aq P t32:=En.aP aaq

def NM(d:List G):Option (Option Nat × List G) :=
 (bif (ao (gi d 1).int (gi d 2).int) then (bif ((aB (gi d 2).int)&&(ao (gi d 2).int (((gi d 0).rows.length:Nat):Int))) then (bif (decide ((0+((gi d 2).int).toNat)<(gi d 0).rows.length)) then (bif ((aB (gi d 1).int)&&(ao (gi d 1).int (((gi d 0).rows.length:Nat):Int))) then (bif (decide ((0+((gi d 1).int).toNat)<(gi d 0).rows.length)) then (bif ((aB (gi d 1).int)&&(ao (gi d 1).int (((gi d 0).rows.length:Nat):Int))) then (bif (decide ((0+((gi d 1).int).toNat)<(gi d 0).rows.length)) then (bif ((aB (gi d 2).int)&&(ao (gi d 2).int (((gi d 0).rows.length:Nat):Int))) then (bif (decide ((0+((gi d 2).int).toNat)<((gi d 0).rows.set (0+((gi d 1).int).toNat) (bf [.int .i64] ((gi d 0).rows.getD (0+((gi d 1).int).toNat) []) 0 [.i (gi ((gi d 0).rows.getD (0+((gi d 2).int).toNat) []) 0).int])).length)) then (bif (au ((gi d 1).int+1)) then (bif (au ((gi d 2).int-1)) then (bif ((ae (gi d 0).rows.length (((gi d 0).rows.set (0+((gi d 1).int).toNat) (bf [.int .i64] ((gi d 0).rows.getD (0+((gi d 1).int).toNat) []) 0 [.i (gi ((gi d 0).rows.getD (0+((gi d 2).int).toNat) []) 0).int])).set (0+((gi d 2).int).toNat) (bf [.int .i64] (((gi d 0).rows.set (0+((gi d 1).int).toNat) (bf [.int .i64] ((gi d 0).rows.getD (0+((gi d 1).int).toNat) []) 0 [.i (gi ((gi d 0).rows.getD (0+((gi d 2).int).toNat) []) 0).int])).getD (0+((gi d 2).int).toNat) []) 0 [.i (gi ((gi d 0).rows.getD (0+((gi d 1).int).toNat) []) 0).int])).length)&&true) then some (none,[.l (((gi d 0).rows.set (0+((gi d 1).int).toNat) (bf [.int .i64] ((gi d 0).rows.getD (0+((gi d 1).int).toNat) []) 0 [.i (gi ((gi d 0).rows.getD (0+((gi d 2).int).toNat) []) 0).int])).set (0+((gi d 2).int).toNat) (bf [.int .i64] (((gi d 0).rows.set (0+((gi d 1).int).toNat) (bf [.int .i64] ((gi d 0).rows.getD (0+((gi d 1).int).toNat) []) 0 [.i (gi ((gi d 0).rows.getD (0+((gi d 2).int).toNat) []) 0).int])).getD (0+((gi d 2).int).toNat) []) 0 [.i (gi ((gi d 0).rows.getD (0+((gi d 1).int).toNat) []) 0).int])),.i ((gi d 1).int+1),.i ((gi d 2).int-1)]) else none) else none) else none) else none) else none) else none) else none) else none) else none) else none) else none) else some (some 0,[.l (gi d 0).rows]))
def NN:bz:=⟨1,[],⟨28,[(0,.s (.vec 0 1)),(2,.s (.int .i64)),(3,.s (.int .i64))],[.vec [.int .i64] 0]⟩,[.fix 0],[⟨.exit 0,⟨28,[],[.vec [.int .i64] 0]⟩,[.fix 0]⟩],NM⟩
theorem aar:cy P t32 az 1 (cD Tryz.f152 1) NN:=fun d=>by kernel_rfl
def NO:LT:=az.add 1 NN
theorem aas:aA P 1 NO (aU Tryz.f152):=aA.a hm Ep (aL _ _ _) aar
def aat(d:List G):Option (List G) :=
 (bif (au ((((gi d 0).rows.length:Nat):Int)-1)) then (a8 ((ae (gi d 0).rows.length (gi d 0).rows.length)&&true) (bV NM [.l (gi d 0).rows,.i 0,.i ((((gi d 0).rows.length:Nat):Int)-1)]) fun h g1=>some [.l (gi g1 0).rows]) else none)
def Er:aG:=⟨152,[.s (.vec 0 1)],[.vec [.int .i64] 0],[.slot 0],[],[.vec [.int .i64] 0],[.fix 0],[],aat⟩
theorem aau:aX P t32 NO Tryz.f152 Er:=fun d=>by kernel_rfl
theorem aav:aV P Er:=aT hm Ep Tryz.func152 aas aau
def t33:ak:=t32.cT Er
theorem Es:aq P t33:=Ep.aW aav

def zw(r d:List G):Option (List G) :=
 (bif (au ((gi (cC [.int .i64] (gi d 6).rows [.i (gi (gi r 0).row 1).int] [.i 0]) 0).int+1)) then (bif ((((ae (gi d 3).rows.length (gi d 3).rows.length)&&true)&&true)&&true) then some [.l (gi d 0).rows,.l (gi d 1).rows,.l (gi d 2).rows,.l (gi d 3).rows,.l (gi d 4).rows,.i (((gi d 5).int.toNat:Nat):Int),.l (eO [.int .i64] (gi d 6).rows [.i (gi (gi r 0).row 1).int] [.i ((gi (cC [.int .i64] (gi d 6).rows [.i (gi (gi r 0).row 1).int] [.i 0]) 0).int+1)] (gi d 7).int.toNat),.i (((eE [.int .i64] (gi d 6).rows [.i (gi (gi r 0).row 1).int] (gi d 7).int.toNat):Nat):Int),.i (((gi d 8).int.toNat:Nat):Int)] else none) else none)
def NP(d:List G)(b:Nat):List G:=[.l (gi d 0).rows,.l (gi d 1).rows,.l (gi d 2).rows,.l (gi d 3).rows,.l (gi d 4).rows,.i (((gi d 5).int.toNat:Nat):Int),.l (gi d 6).rows,.i (((gi d 7).int.toNat:Nat):Int),.i (b:Int)]
def aaw(d:List G)(b:Nat):Bool:=((((ae (gi d 3).rows.length (gi d 3).rows.length)&&true)&&true)&&true)
def lh:fh:=⟨⟨21,[(3,.s (.map 3)),(10,.s (.addr))],[.box [.vec 1 15,.list ai,.list [.str],.list [.int .i64],.map 2],.vec qa 0,.map (.agg [.str,.int .i64]) (.one (.bool)),.map (.one (.int .i64)) (.one (.int .i64))]⟩,[.fix 0,.cell 0 0,.cell 0 4,.slot 3],[],(.agg [.str,.int .i64]),(.one (.bool)),2,0,9,10,11,12,13,fun d=>(gi d 8).int.toNat,NP,aaw,zw⟩
theorem aax:jP P t33 az 3 lh (mR (cutAt Tryz.f85 2)) (pX (cutAt Tryz.f85 2)):=fun r d=>by kernel_rfl
def su(d:List G):Option (Option Nat × List G) :=
 (bif ((((ae (gi d 3).rows.length (gi d 3).rows.length)&&true)&&true)&&true) then some (some 0,[.l (gi d 0).rows,.l (gi d 1).rows,.l (gi d 2).rows,.l (gi d 3).rows,.l (gi d 4).rows,.i (((gi d 5).int.toNat:Nat):Int),.l (gi d 6).rows,.i (((gi d 7).int.toNat:Nat):Int)]) else none)
def NQ:bz:=⟨6,[],⟨21,[(3,.s (.map 3)),(10,.s (.addr))],[.box [.vec 1 15,.list ai,.list [.str],.list [.int .i64],.map 2],.vec qa 0,.map (.agg [.str,.int .i64]) (.one (.bool)),.map (.one (.int .i64)) (.one (.int .i64))]⟩,[],[⟨.ret,⟨21,[(2,.s (.map 3))],[.box [.vec 1 15,.list ai,.list [.str],.list [.int .i64],.map 2],.vec qa 0,.map (.agg [.str,.int .i64]) (.one (.bool)),.map (.one (.int .i64)) (.one (.int .i64))]⟩,[.fix 0,.cell 0 0,.cell 0 4,.slot 2]⟩],su⟩
theorem aay:gW P t33 az 3 (pW (cutAt Tryz.f85 2)) NQ:=fun d=>by kernel_rfl
def NR(d:List G):Option (Option Nat × List G) :=
 iU lh su (gi d 4).rows ((gi d 5).int.toNat) d
def Et:bz:=⟨2,[],⟨21,[(0,.s (.ptr 0 0)),(3,.s (.map 3))],[.box [.vec 1 15,.list ai,.list [.str],.list [.int .i64],.map 2],.vec qa 0,.map (.agg [.str,.int .i64]) (.one (.bool)),.map (.one (.int .i64)) (.one (.int .i64))]⟩,[.fix 0,.cell 0 0,.cell 0 4,.slot 3],[⟨.ret,⟨21,[(2,.s (.map 3))],[.box [.vec 1 15,.list ai,.list [.str],.list [.int .i64],.map 2],.vec qa 0,.map (.agg [.str,.int .i64]) (.one (.bool)),.map (.one (.int .i64)) (.one (.int .i64))]⟩,[.fix 0,.cell 0 0,.cell 0 4,.slot 2]⟩],NR⟩
def NS:LT:=az.fX 3 Et
theorem aaz:∀ r d d',zw r d=some d'→(gi d' 4).rows=(gi d 4).rows∧(gi d' 5).int.toNat=(gi d 5).int.toNat:=by
 intro r d d' h;unfold zw at h;simp only[Bool.cond_eq_ite]at h
 repeat' split at h
 all_goals first|(cases h; done)|(cases h; exact⟨rfl,rfl⟩)
theorem aaA:aA P 3 NS (aU Tryz.f85):=aA.Lt (q:=Et) (qr:=NQ) (sp:=lh) (r0:=2) (b0:=0) (r1:=3) (b1:=1) (r2:=4) (rows:=fun d=>(gi d 4).rows) (clock:=fun d=>(gi d 5).int.toNat) (pre:=fun d=>Dk P t33 (lb (cutAt Tryz.f85 2)) (aN Et.inv d)) (ri:=fun d=>(gi d 4).rows) (ci:=fun d=>(gi d 5).int.toNat) hm Es (fun d=>by kernel_rfl) aaz (by kernel_rfl) (by kernel_rfl) (aL _ _ _) (by kernel_rfl) (by kernel_rfl) aax (fun d=>by kernel_rfl) (fun d=>by kernel_rfl) (fun d=>by kernel_rfl) (fun d=>by kernel_rfl) (fun d=>by kernel_rfl) (fun d=>by kernel_rfl) (fun d b=>by kernel_rfl) (fun d b=>rfl) (fun d b=>⟨rfl,rfl⟩) rfl rfl aay (fun d=>rfl)
def NT(d:List G):Option (List G) :=
 (a8 ((((ae (gi d 3).rows.length (gi d 3).rows.length)&&true)&&true)&&true) (dn (NR [.l (gi d 0).rows,.l (gi d 1).rows,.l (gi d 2).rows,.l (gi d 3).rows,.l (gi d 4).rows,.i (((gi d 5).int.toNat:Nat):Int),.l [],.i 0])) fun h g1=>(bif ((((ae (gi g1 3).rows.length (gi g1 3).rows.length)&&true)&&true)&&true) then some [.l (gi g1 0).rows,.l (gi g1 1).rows,.l (gi g1 2).rows,.l (gi g1 3).rows,.l (gi g1 4).rows,.i (((gi g1 5).int.toNat:Nat):Int),.l (gi g1 6).rows,.i (((gi g1 7).int.toNat:Nat):Int)] else none))
def zx:aG:=⟨85,[.s (.ptr 0 0)],[.box [.vec 1 15,.list ai,.list [.str],.list [.int .i64],.map 2],.vec qa 0,.map (.agg [.str,.int .i64]) (.one (.bool))],[.slot 0,.cell 0 0,.cell 0 4],[.s (.map 3)],[.box [.vec 1 15,.list ai,.list [.str],.list [.int .i64],.map 2],.vec qa 0,.map (.agg [.str,.int .i64]) (.one (.bool)),.map (.one (.int .i64)) (.one (.int .i64))],[.fix 0,.fix 1,.fix 2,.slot 0],[],NT⟩
theorem aaB:aX P t33 NS Tryz.f85 zx:=fun d=>by kernel_rfl
theorem NU:aV P zx:=aT hm Es Tryz.func85 aaA aaB
def t34:ak:=t33.cT zx
theorem NV:aq P t34:=Es.aW NU

theorem aaC:vd P ⟨172,66,65,15,15,true⟩:=WO Tryz.func172 (by kernel_rfl) rfl rfl rfl ⟨⟨_,_,_,_,_,_,rfl,⟨rfl,rfl,rfl⟩,⟨rfl,rfl,rfl⟩,⟨rfl,rfl,rfl⟩,⟨rfl,rfl,rfl⟩⟩,⟨_,_,_,_,rfl,⟨rfl,rfl,rfl⟩,⟨rfl,rfl,rfl⟩⟩,⟨_,_,_,_,_,rfl,⟨rfl,rfl,rfl⟩,⟨rfl,rfl,rfl⟩,⟨rfl,rfl,rfl⟩⟩,⟨_,_,_,_,_,_,_,_,_,_,rfl,⟨rfl,rfl,rfl⟩,⟨rfl,rfl,rfl⟩,⟨rfl,rfl,rfl⟩,⟨rfl,rfl,rfl⟩,⟨rfl,rfl,rfl⟩,⟨rfl,rfl,rfl⟩,⟨rfl,rfl,rfl⟩,⟨rfl,rfl,rfl⟩⟩⟩ (by kernel_rfl)
def aaD(d:List G):Option (Option Nat × List G) :=
 Dv lh su (gi d 4).rows ((gi d 5).int.toNat) d
theorem aaE(d x:List G)(b:Nat):(cG lh.st lh.aY [x] (lh.init d b)).bind su=(cG lh.st lh.aY [x] (lh.init d 0)).bind su:=by
 simp only[WY,lh];unfold zw NP su;dsimp +instances only[Lv,Lw];simp only[WZ,Option.bind_some,Option.bind_none];dsimp +instances only[Lv,Lw];simp only[WV,Int.toNat_natCast,WW,cond_true]
def NW(d:List G):Option (List G) :=
 (a8 ((((ae (gi d 3).rows.length (gi d 3).rows.length)&&true)&&true)&&true) (dn (aaD [.l (gi d 0).rows,.l (gi d 1).rows,.l (gi d 2).rows,.l (gi d 3).rows,.l (gi d 4).rows,.i (((gi d 5).int.toNat:Nat):Int),.l [],.i 0])) fun h g1=>(bif ((((ae (gi g1 3).rows.length (gi g1 3).rows.length)&&true)&&true)&&true) then some [.l (gi g1 0).rows,.l (gi g1 1).rows,.l (gi g1 2).rows,.l (gi g1 3).rows,.l (gi g1 4).rows,.i (((gi g1 5).int.toNat:Nat):Int),.l (gi g1 6).rows,.i (((gi g1 7).int.toNat:Nat):Int)] else none))
theorem aaF{d r:List G}(h:NW d=some r):NT d=some r :=
 W0 (fun v k=>WX (fun b=>rfl) (aaE _) k) h
def aaG:aG:={ zx with F:=NW }
def NX:ak:=t34.cT aaG
theorem aaH:aq P NX:=NV.aW fun d r h=>NU d r (aaF h)
def NY:ak:=NX.inline P 170 Tryz.f170 []
theorem aaI:aq P NY:=aaH.inline hm Tryz.func170 (by kernel_rfl) []
def NZ:ak:=NY.inline P 171 Tryz.f171 []
theorem aaJ:aq P NZ:=aaI.inline hm Tryz.func171 (by kernel_rfl) []
def N0:ak:=NZ.inline P 149 Tryz.f149 []
theorem aaK:aq P N0:=aaJ.inline hm Tryz.func149 (by kernel_rfl) []
def N1:ak:=N0.inline P 118 Tryz.f118 []
theorem aaL:aq P N1:=aaK.inline hm Tryz.func118 (by kernel_rfl) []
def N2:ak:=N1.inline P 82 Tryz.f82 []
theorem aaM:aq P N2:=aaL.inline hm Tryz.func82 (by kernel_rfl) []
def N3:ak:=N2.e9 P 151 Tryz.f151
theorem aaN:aq P N3:=aaM.e9 hm Tryz.func151 (by kernel_rfl) (by kernel_rfl)
def N4:ak:=N3.y5 P ⟨172,66,65,15,15,true⟩ 3 119 Tryz.f119 [some [.int .i64]]
theorem aaO:aq P N4:=aaN.y5 hm aaC Tryz.func119 (by kernel_rfl) (by kernel_rfl) [some [.int .i64]]
def N5:ak:=N4.e9 P 89 Tryz.f89
theorem aaP:aq P N5:=aaO.e9 hm Tryz.func89 (by kernel_rfl) (by kernel_rfl)
def N6:ak:=N5.e9 P 153 Tryz.f153
theorem aaQ:aq P N6:=aaP.e9 hm Tryz.func153 (by kernel_rfl) (by kernel_rfl)
def N7:ak:=N6.e9 P 121 Tryz.f121
theorem aaR:aq P N7:=aaQ.e9 hm Tryz.func121 (by kernel_rfl) (by kernel_rfl)
def N8:ak:=N7.inline P 120 Tryz.f120 []
theorem aaS:aq P N8:=aaR.inline hm Tryz.func120 (by kernel_rfl) []
def N9:ak:=N8.e9 P 83 Tryz.f83
theorem aaT:aq P N9:=aaS.e9 hm Tryz.func83 (by kernel_rfl) (by kernel_rfl)
def N_:ak:=N9.e9 P 43 Tryz.f43
theorem aaU:aq P N_:=aaT.e9 hm Tryz.func43 (by kernel_rfl) (by kernel_rfl)
def N':ak:=N_.e9 P 84 Tryz.f84
theorem aaV:aq P N':=aaU.e9 hm Tryz.func84 (by kernel_rfl) (by kernel_rfl)
def Oa:ak:=N'.e9 P 44 Tryz.f44
theorem aaW:aq P Oa:=aaV.e9 hm Tryz.func44 (by kernel_rfl) (by kernel_rfl)
def aaX:ak:=Oa.inline P 21 Tryz.f21 []
theorem aaY:aq P aaX:=aaW.inline hm Tryz.func21 (by kernel_rfl) []
theorem aaZ:cR P 8 [] (.lit (.bool true)):=dD (L:=az) hm aaY [] (fun _ _=>aL _ _ _) Tryz.func8 rfl (by kernel_rfl) (by kernel_rfl)
def zy(_:List G):Option (List G):=some [.t true]
def vw:aG:=⟨8,[],[],[],[.s (.bool)],[],[],[],zy⟩
theorem aa0:∀ d r,zy d=some r→dB P 8 (vw.args0 d) (aj (vw.H0 d)) (vw.out r) (aj (vw.H1 r)):=fun d r h=>by
 cases (show some [G.t true]=some r from h);exact aaZ []
def t35:ak:=t34.bC vw
theorem Ob:aq P t35:=NV.aP aa0


def sv(d:List G):Option (List G) :=
 (bif (ao (gi d 1).int 1) then some [.i 0] else (bif (!((gi d 1).int==0)) then (bif (ao (jB (gi d 0).int (gi d 1).int) 0) then (bif (au ((jB (gi d 0).int (gi d 1).int)+(gi d 1).int)) then some [.i ((jB (gi d 0).int (gi d 1).int)+(gi d 1).int)] else none) else some [.i (jB (gi d 0).int (gi d 1).int)]) else none))
def Eu:aG:=⟨33,[.s (.int .i64),.s (.int .i64)],[],[],[.s (.int .i64)],[],[],[],sv⟩
theorem aa1:aX P t35 az Tryz.f33 Eu:=fun d=>by kernel_rfl
theorem aa2:aV P Eu:=aT hm Ob Tryz.func33 (aL _ _ _) aa1
def t36:ak:=t35.bC Eu
theorem Oc:aq P t36:=Ob.aP aa2

def ox(d:List G):Option (List G) :=
 (bif (au ((gi d 1).int+1)) then (bif ((((gi d 0).rows.length:Nat):Int)==0) then (bif (au (((gi d 1).int+1)*7919)) then (ay (sv [.i (((gi d 1).int+1)*7919),.i (gi d 2).int]) fun g1=>some [.l (gi d 0).rows,.i ((gi d 1).int+1),.i (gi g1 0).int]) else none) else (bif (au (((gi d 1).int+1)-1)) then (bif (!((((gi d 0).rows.length:Nat):Int)==0)) then (bif (au (((gi d 1).int+1)-1)) then (bif ((!((((gi d 0).rows.length:Nat):Int)==0))&&(au (nv (((gi d 1).int+1)-1) (((gi d 0).rows.length:Nat):Int)))) then (bif ((aB (jB (((gi d 1).int+1)-1) (((gi d 0).rows.length:Nat):Int)))&&(ao (jB (((gi d 1).int+1)-1) (((gi d 0).rows.length:Nat):Int)) (((gi d 0).rows.length:Nat):Int))) then (ay (sv [.i (gi ((gi d 0).rows.getD ((jB (((gi d 1).int+1)-1) (((gi d 0).rows.length:Nat):Int)).toNat) []) 0).int,.i 1073741824]) fun g2=>(bif (au (7919+(jB (((gi d 1).int+1)-1) (((gi d 0).rows.length:Nat):Int)))) then (bif (au ((nv (((gi d 1).int+1)-1) (((gi d 0).rows.length:Nat):Int))*(7919+(jB (((gi d 1).int+1)-1) (((gi d 0).rows.length:Nat):Int))))) then (bif (au ((gi g2 0).int+((nv (((gi d 1).int+1)-1) (((gi d 0).rows.length:Nat):Int))*(7919+(jB (((gi d 1).int+1)-1) (((gi d 0).rows.length:Nat):Int)))))) then (ay (sv [.i ((gi g2 0).int+((nv (((gi d 1).int+1)-1) (((gi d 0).rows.length:Nat):Int))*(7919+(jB (((gi d 1).int+1)-1) (((gi d 0).rows.length:Nat):Int))))),.i (gi d 2).int]) fun g3=>some [.l (gi d 0).rows,.i ((gi d 1).int+1),.i (gi g3 0).int]) else none) else none) else none)) else none) else none) else none) else none) else none)) else none)
def Ev:aG:=⟨15,[.s (.ptr 0 0),.s (.int .i64)],[.box [.list [.int .i64],.int .i64]],[.slot 0],[.s (.int .i64)],[.box [.list [.int .i64],.int .i64]],[.fix 0],[],ox⟩
theorem aa3:aX P t36 az Tryz.f15 Ev:=fun d=>by kernel_rfl
theorem aa4:aV P Ev:=aT hm Oc Tryz.func15 (aL _ _ _) aa3
def t37:ak:=t36.cT Ev
theorem Od:aq P t37:=Oc.aW aa4

def vz(d:List G):Option (List G) :=
 (bif (ao (gi d 3).int (gi d 2).int) then some [.l (gi d 0).rows,.i (gi d 1).int,.i (gi d 2).int] else (bif (au ((gi d 3).int-(gi d 2).int)) then (bif (au (((gi d 3).int-(gi d 2).int)+1)) then (ay (ox [.l (gi d 0).rows,.i (gi d 1).int,.i (((gi d 3).int-(gi d 2).int)+1)]) fun g1=>(bif (au ((gi d 2).int+(gi g1 2).int)) then some [.l (gi g1 0).rows,.i (gi g1 1).int,.i ((gi d 2).int+(gi g1 2).int)] else none)) else none) else none))
def Ew:aG:=⟨5,[.s (.ptr 0 0),.s (.int .i64),.s (.int .i64)],[.box [.list [.int .i64],.int .i64]],[.slot 0],[.s (.int .i64)],[.box [.list [.int .i64],.int .i64]],[.fix 0],[],vz⟩
theorem aa5:aX P t37 az Tryz.f5 Ew:=fun d=>by kernel_rfl
theorem aa6:aV P Ew:=aT hm Od Tryz.func5 (aL _ _ _) aa5
def t38:ak:=t37.cT Ew
theorem Oe:aq P t38:=Od.aW aa6

def mY(d:List G):Option (List G) :=
 (ay (ox [.l (gi d 0).rows,.i (gi d 1).int,.i (((gi d 2).rows.length:Nat):Int)]) fun g1=>(bif ((aB (gi g1 2).int)&&(ao (gi g1 2).int (((gi d 2).rows.length:Nat):Int))) then some [.l (gi g1 0).rows,.i (gi g1 1).int,.i (gi ((gi d 2).rows.getD (((gi g1 2).int).toNat) []) 0).int] else none))
def Ex:aG:=⟨26,[.s (.ptr 0 0),.s (.list [.int .i64])],[.box [.list [.int .i64],.int .i64]],[.slot 0],[.s (.int .i64)],[.box [.list [.int .i64],.int .i64]],[.fix 0],[],mY⟩
theorem aa7:aX P t38 az Tryz.f26 Ex:=fun d=>by kernel_rfl
theorem aa8:aV P Ex:=aT hm Oe Tryz.func26 (aL _ _ _) aa7
def t39:ak:=t38.cT Ex
theorem Of:aq P t39:=Oe.aW aa8

def kz(d:List G):Option (List G) :=
 (ay (ox [.l (gi d 0).rows,.i (gi d 1).int,.i (((gi d 2).rows.length:Nat):Int)]) fun g1=>(bif ((aB (gi g1 2).int)&&(ao (gi g1 2).int (((gi d 2).rows.length:Nat):Int))) then some [.l (gi g1 0).rows,.i (gi g1 1).int,.s (gi ((gi d 2).rows.getD (((gi g1 2).int).toNat) []) 0).str] else none))
def Ey:aG:=⟨49,[.s (.ptr 0 0),.s (.list [.str])],[.box [.list [.int .i64],.int .i64]],[.slot 0],[.s (.str)],[.box [.list [.int .i64],.int .i64]],[.fix 0],[],kz⟩
theorem aa9:aX P t39 az Tryz.f49 Ey:=fun d=>by kernel_rfl
theorem aa_:aV P Ey:=aT hm Of Tryz.func49 (aL _ _ _) aa9
def t40:ak:=t39.cT Ey
theorem Og:aq P t40:=Of.aW aa_

def sw(d:List G):Option (List G) :=
 (ay (ox [.l (gi d 0).rows,.i (gi d 1).int,.i (gi d 2).int]) fun g1=>some [.l (gi g1 0).rows,.i (gi g1 1).int,.t ((gi g1 2).int==0)])
def Ez:aG:=⟨51,[.s (.ptr 0 0),.s (.int .i64)],[.box [.list [.int .i64],.int .i64]],[.slot 0],[.s (.bool)],[.box [.list [.int .i64],.int .i64]],[.fix 0],[],sw⟩
theorem aa':aX P t40 az Tryz.f51 Ez:=fun d=>by kernel_rfl
theorem aba:aV P Ez:=aT hm Og Tryz.func51 (aL _ _ _) aa'
def t41:ak:=t40.cT Ez
theorem Oh:aq P t41:=Og.aW aba

def zz(d:List G):Option (List G) :=
 (ay (sw [.l (gi d 0).rows,.i (gi d 1).int,.i 60]) fun g1=>(bif (gi g1 2).bool then (ay (kz [.l (gi g1 0).rows,.i (gi g1 1).int,.l [[.s (⟨#[]⟩:ByteArray)],[.s (⟨#[107,49]⟩:ByteArray)],[.s (⟨#[75,49,65,66]⟩:ByteArray)],[.s (⟨#[107,49,97,98,47]⟩:ByteArray)],[.s (⟨#[49,97]⟩:ByteArray)],[.s (⟨#[107,49,97,98,47,109,109,47,112]⟩:ByteArray)]]]) fun g2=>some [.l (gi g2 0).rows,.i (gi g2 1).int,.s (gi g2 2).str]) else (ay (kz [.l (gi g1 0).rows,.i (gi g1 1).int,.l [[.s (⟨#[107,49,97,98]⟩:ByteArray)],[.s (⟨#[107,49,97,97]⟩:ByteArray)],[.s (⟨#[107,49,97,98,47,52]⟩:ByteArray)],[.s (⟨#[111,104,50,97,98,99]⟩:ByteArray)],[.s (⟨#[111,104,50,97,98,100]⟩:ByteArray)],[.s (⟨#[119,49,97,119]⟩:ByteArray)],[.s (⟨#[110,49,109,109]⟩:ByteArray)],[.s (⟨#[103,51,120,121,122,47,112]⟩:ByteArray)]]]) fun g3=>some [.l (gi g3 0).rows,.i (gi g3 1).int,.s (gi g3 2).str])))
def EA:aG:=⟨50,[.s (.ptr 0 0)],[.box [.list [.int .i64],.int .i64]],[.slot 0],[.s (.str)],[.box [.list [.int .i64],.int .i64]],[.fix 0],[],zz⟩
theorem abb:aX P t41 az Tryz.f50 EA:=fun d=>by kernel_rfl
theorem abc:aV P EA:=aT hm Oh Tryz.func50 (aL _ _ _) abb
def t42:ak:=t41.cT EA
theorem Oi:aq P t42:=Oh.aW abc

def qc(d:List G):Option (List G) :=
 (ay (sw [.l (gi d 0).rows,.i (gi d 1).int,.i 12]) fun g1=>(bif (gi g1 2).bool then (bif (au ((gi d 2).int-1)) then (bif (au ((gi d 3).int+1)) then (ay (mY [.l (gi g1 0).rows,.i (gi g1 1).int,.l [[.i ((gi d 2).int-1)],[.i ((gi d 3).int+1)],[.i (gi d 2).int],[.i (gi d 3).int],[.i (-1099511627776)],[.i 1099511627776]]]) fun g2=>some [.l (gi g2 0).rows,.i (gi g2 1).int,.i (gi g2 2).int]) else none) else none) else (ay (vz [.l (gi g1 0).rows,.i (gi g1 1).int,.i (gi d 2).int,.i (gi d 3).int]) fun g3=>some [.l (gi g3 0).rows,.i (gi g3 1).int,.i (gi g3 2).int])))
def EB:aG:=⟨52,[.s (.ptr 0 0),.s (.int .i64),.s (.int .i64)],[.box [.list [.int .i64],.int .i64]],[.slot 0],[.s (.int .i64)],[.box [.list [.int .i64],.int .i64]],[.fix 0],[],qc⟩
theorem abd:aX P t42 az Tryz.f52 EB:=fun d=>by kernel_rfl
theorem abe:aV P EB:=aT hm Oi Tryz.func52 (aL _ _ _) abd
def t43:ak:=t42.cT EB
theorem Oj:aq P t43:=Oi.aW abe

def zA(d:List G):Option (List G) :=
 (ay (mY [.l (gi d 0).rows,.i (gi d 1).int,.l [[.i 1],[.i 1],[.i 2],[.i 3]]]) fun g1=>(ay (kz [.l (gi g1 0).rows,.i (gi g1 1).int,.l [[.s (⟨#[98,50,48]⟩:ByteArray)],[.s (⟨#[98,50,48]⟩:ByteArray)],[.s (⟨#[98,52,48]⟩:ByteArray)]]]) fun g2=>(ay (zz [.l (gi g2 0).rows,.i (gi g2 1).int]) fun g3=>(ay (mY [.l (gi g3 0).rows,.i (gi g3 1).int,.l [[.i 0],[.i 1],[.i 2],[.i 3],[.i 4],[.i 5],[.i 6],[.i 7]]]) fun g4=>(ay (mY [.l (gi g4 0).rows,.i (gi g4 1).int,.l [[.i 0],[.i 1],[.i 2],[.i 9]]]) fun g5=>(ay (kz [.l (gi g5 0).rows,.i (gi g5 1).int,.l [[.s (⟨#[]⟩:ByteArray)],[.s (⟨#[]⟩:ByteArray)],[.s (⟨#[102,105,110]⟩:ByteArray)]]]) fun g6=>(ay (kz [.l (gi g6 0).rows,.i (gi g6 1).int,.l [[.s (⟨#[]⟩:ByteArray)],[.s (⟨#[]⟩:ByteArray)],[.s (⟨#[117,115,97]⟩:ByteArray)]]]) fun g7=>(ay (sw [.l (gi g7 0).rows,.i (gi g7 1).int,.i 100]) fun g8=>(bif (gi g8 2).bool then (ay (ox [.l (gi g8 0).rows,.i (gi g8 1).int,.i 4]) fun g9=>(bif ((gi g9 2).int==0) then (ay (qc [.l (gi g9 0).rows,.i (gi g9 1).int,.i 0,.i 500]) fun g10=>(ay (qc [.l (gi g10 0).rows,.i (gi g10 1).int,.i 1,.i 3]) fun g11=>some [.l (gi g11 0).rows,.i (gi g11 1).int,.l [[.i (gi g10 2).int,.i (gi g11 2).int,.s (gi g2 2).str,.s (gi g3 2).str,.i (gi g4 2).int,.i (gi g5 2).int,.s (gi g6 2).str,.s (gi g7 2).str]]])) else (bif ((gi g9 2).int==1) then (ay (kz [.l (gi g9 0).rows,.i (gi g9 1).int,.l [[.s (⟨#[]⟩:ByteArray)],[.s (⟨#[66]⟩:ByteArray)],[.s (⟨#[98,50,48]⟩:ByteArray)]]]) fun g12=>some [.l (gi g12 0).rows,.i (gi g12 1).int,.l [[.i (gi d 2).int,.i (gi g1 2).int,.s (gi g12 2).str,.s (gi g3 2).str,.i (gi g4 2).int,.i (gi g5 2).int,.s (gi g6 2).str,.s (gi g7 2).str]]]) else (bif ((gi g9 2).int==2) then (ay (qc [.l (gi g9 0).rows,.i (gi g9 1).int,.i 0,.i 99999]) fun g13=>(ay (qc [.l (gi g13 0).rows,.i (gi g13 1).int,.i 0,.i 99999]) fun g14=>some [.l (gi g14 0).rows,.i (gi g14 1).int,.l [[.i (gi d 2).int,.i (gi g1 2).int,.s (gi g2 2).str,.s (gi g3 2).str,.i (gi g13 2).int,.i (gi g14 2).int,.s (gi g6 2).str,.s (gi g7 2).str]]])) else (ay (kz [.l (gi g9 0).rows,.i (gi g9 1).int,.l [[.s (⟨#[]⟩:ByteArray)],[.s (⟨#[65]⟩:ByteArray)]]]) fun g15=>(ay (kz [.l (gi g15 0).rows,.i (gi g15 1).int,.l [[.s (⟨#[49]⟩:ByteArray)],[.s (⟨#[117,115,97]⟩:ByteArray)]]]) fun g16=>some [.l (gi g16 0).rows,.i (gi g16 1).int,.l [[.i (gi d 2).int,.i (gi g1 2).int,.s (gi g2 2).str,.s (gi g3 2).str,.i (gi g4 2).int,.i (gi g5 2).int,.s (gi g15 2).str,.s (gi g16 2).str]]])))))) else some [.l (gi g8 0).rows,.i (gi g8 1).int,.l [[.i (gi d 2).int,.i (gi g1 2).int,.s (gi g2 2).str,.s (gi g3 2).str,.i (gi g4 2).int,.i (gi g5 2).int,.s (gi g6 2).str,.s (gi g7 2).str]]])))))))))
def EC:aG:=⟨27,[.s (.ptr 0 0),.s (.int .i64)],[.box [.list [.int .i64],.int .i64]],[.slot 0],[.s (.row ai)],[.box [.list [.int .i64],.int .i64]],[.fix 0],[],zA⟩
theorem abf:aX P t43 az Tryz.f27 EC:=fun d=>by kernel_rfl
theorem abg:aV P EC:=aT hm Oj Tryz.func27 (aL _ _ _) abf
def t44:ak:=t43.cT EC
theorem Ol:aq P t44:=Oj.aW abg

def vA(d:List G):Option (List G) :=
 (bif (ao (gi d 0).int 0) then some [.i (-1)] else (bif (ao 0 (gi d 0).int) then some [.i 1] else some [.i 0]))
def ED:aG:=⟨54,[.s (.int .i64)],[],[],[.s (.int .i64)],[],[],[],vA⟩
theorem abh:aX P t44 az Tryz.f54 ED:=fun d=>by kernel_rfl
theorem abi:aV P ED:=aT hm Ol Tryz.func54 (aL _ _ _) abh
def t45:ak:=t44.bC ED
theorem Om:aq P t45:=Ol.aP abi

def qd(d:List G):Option (List G) :=
 (bif ((gi (gi d 0).row 0).int != (gi (gi d 1).row 0).int) then (bif (au ((gi (gi d 0).row 0).int-(gi (gi d 1).row 0).int)) then (ay (vA [.i ((gi (gi d 0).row 0).int-(gi (gi d 1).row 0).int)]) fun g1=>some [.i (gi g1 0).int]) else none) else (bif (!((gi (gi d 0).row 3).str.toList==(gi (gi d 1).row 3).str.toList)) then (ay (iH [.s (gi (gi d 0).row 3).str,.s (gi (gi d 1).row 3).str]) fun g2=>some [.i (gi g2 0).int]) else (bif (!((gi (gi d 0).row 2).str.toList==(gi (gi d 1).row 2).str.toList)) then (ay (iH [.s (gi (gi d 0).row 2).str,.s (gi (gi d 1).row 2).str]) fun g3=>some [.i (gi g3 0).int]) else (bif (au ((gi (gi d 0).row 1).int-(gi (gi d 1).row 1).int)) then (ay (vA [.i ((gi (gi d 0).row 1).int-(gi (gi d 1).row 1).int)]) fun g4=>some [.i (gi g4 0).int]) else none))))
def EE:aG:=⟨29,[.s (.row ai),.s (.row ai)],[],[],[.s (.int .i64)],[],[],[],qd⟩
theorem abj:aX P t45 az Tryz.f29 EE:=fun d=>by kernel_rfl
theorem abk:aV P EE:=aT hm Om Tryz.func29 (aL _ _ _) abj
def t46:ak:=t45.bC EE
theorem zB:aq P t46:=Om.aP abk

def On(d:List G):Option (Option Nat × List G) :=
 (bif (ao (gi d 1).int (gi d 4).int) then (bif ((aB (gi d 4).int)&&(ao (gi d 4).int (((gi d 0).rows.length:Nat):Int))) then (bif (decide ((0+((gi d 4).int).toNat)<(gi d 0).rows.length)) then (bif (au ((gi d 4).int-1)) then (bif ((aB ((gi d 4).int-1))&&(ao ((gi d 4).int-1) (((gi d 0).rows.length:Nat):Int))) then (bif (decide ((0+((gi d 4).int-1).toNat)<(gi d 0).rows.length)) then (ay (qd [.l [(aM ai ((gi d 0).rows.getD (0+((gi d 4).int).toNat) []))],.l [(aM ai ((gi d 0).rows.getD (0+((gi d 4).int-1).toNat) []))]]) fun g1=>(bif (ao (gi g1 0).int 0) then (bif (au ((gi d 4).int-1)) then (bif (au ((gi d 4).int-1)) then (bif ((aB ((gi d 4).int-1))&&(ao ((gi d 4).int-1) (((gi d 0).rows.length:Nat):Int))) then (bif (decide ((0+((gi d 4).int-1).toNat)<(gi d 0).rows.length)) then (bif ((aB (gi d 4).int)&&(ao (gi d 4).int (((gi d 0).rows.length:Nat):Int))) then (bif (decide ((0+((gi d 4).int).toNat)<(gi d 0).rows.length)) then (bif ((aB (gi d 4).int)&&(ao (gi d 4).int (((gi d 0).rows.length:Nat):Int))) then (bif (decide ((0+((gi d 4).int).toNat)<(gi d 0).rows.length)) then (bif ((aB ((gi d 4).int-1))&&(ao ((gi d 4).int-1) (((gi d 0).rows.length:Nat):Int))) then (bif (decide ((0+((gi d 4).int-1).toNat)<((gi d 0).rows.set (0+((gi d 4).int).toNat) (bf ai ((gi d 0).rows.getD (0+((gi d 4).int).toNat) []) 0 (aM ai ((gi d 0).rows.getD (0+((gi d 4).int-1).toNat) [])))).length)) then (bif (au ((gi d 4).int-1)) then (bif ((ae (gi d 0).rows.length (((gi d 0).rows.set (0+((gi d 4).int).toNat) (bf ai ((gi d 0).rows.getD (0+((gi d 4).int).toNat) []) 0 (aM ai ((gi d 0).rows.getD (0+((gi d 4).int-1).toNat) [])))).set (0+((gi d 4).int-1).toNat) (bf ai (((gi d 0).rows.set (0+((gi d 4).int).toNat) (bf ai ((gi d 0).rows.getD (0+((gi d 4).int).toNat) []) 0 (aM ai ((gi d 0).rows.getD (0+((gi d 4).int-1).toNat) [])))).getD (0+((gi d 4).int-1).toNat) []) 0 (aM ai ((gi d 0).rows.getD (0+((gi d 4).int).toNat) [])))).length)&&true) then some (none,[.l (((gi d 0).rows.set (0+((gi d 4).int).toNat) (bf ai ((gi d 0).rows.getD (0+((gi d 4).int).toNat) []) 0 (aM ai ((gi d 0).rows.getD (0+((gi d 4).int-1).toNat) [])))).set (0+((gi d 4).int-1).toNat) (bf ai (((gi d 0).rows.set (0+((gi d 4).int).toNat) (bf ai ((gi d 0).rows.getD (0+((gi d 4).int).toNat) []) 0 (aM ai ((gi d 0).rows.getD (0+((gi d 4).int-1).toNat) [])))).getD (0+((gi d 4).int-1).toNat) []) 0 (aM ai ((gi d 0).rows.getD (0+((gi d 4).int).toNat) [])))),.i (gi d 1).int,.i (gi d 2).int,.i (gi d 3).int,.i ((gi d 4).int-1)]) else none) else none) else none) else none) else none) else none) else none) else none) else none) else none) else none) else none) else (bif ((ae (gi d 0).rows.length (gi d 0).rows.length)&&true) then some (some 0,[.l (gi d 0).rows,.i (gi d 1).int,.i (gi d 2).int,.i (gi d 3).int]) else none))) else none) else none) else none) else none) else none) else (bif ((ae (gi d 0).rows.length (gi d 0).rows.length)&&true) then some (some 0,[.l (gi d 0).rows,.i (gi d 1).int,.i (gi d 2).int,.i (gi d 3).int]) else none))
def Oo:bz:=⟨4,[],⟨53,[(0,.s (.vec 0 8)),(1,.s (.int .i64)),(2,.s (.int .i64)),(3,.s (.fn 29)),(8,.s (.int .i64)),(9,.s (.int .i64))],[.vec ai 0]⟩,[.fix 0],[⟨.exit 2,⟨53,[(0,.s (.vec 0 8)),(1,.s (.int .i64)),(2,.s (.int .i64)),(3,.s (.fn 29)),(8,.s (.int .i64))],[.vec ai 0]⟩,[.fix 0]⟩],On⟩
theorem abl:cy P t46 az 1 (cD Tryz.f89 4) Oo:=fun d=>by kernel_rfl
def EF:LT:=az.add 1 Oo
theorem abm:aA P 1 EF (aU Tryz.f89):=aA.a hm zB (aL _ _ _) abl
def Oq(d:List G):Option (Option Nat × List G) :=
 (bif (ao (gi d 3).int (gi d 2).int) then (a8 ((ae (gi d 0).rows.length (gi d 0).rows.length)&&true) (bV On [.l (gi d 0).rows,.i (gi d 1).int,.i (gi d 2).int,.i (gi d 3).int,.i (gi d 3).int]) fun h g2=>(bif (au ((gi g2 3).int+1)) then (bif ((ae (gi g2 0).rows.length (gi g2 0).rows.length)&&true) then some (none,[.l (gi g2 0).rows,.i (gi g2 1).int,.i (gi g2 2).int,.i ((gi g2 3).int+1)]) else none) else none)) else some (some 0,[.l (gi d 0).rows]))
def Ot:bz:=⟨1,[],⟨53,[(0,.s (.vec 0 8)),(1,.s (.int .i64)),(2,.s (.int .i64)),(3,.s (.fn 29)),(8,.s (.int .i64))],[.vec ai 0]⟩,[.fix 0],[⟨.exit 0,⟨53,[],[.vec ai 0]⟩,[.fix 0]⟩],Oq⟩
theorem abn:cy P t46 EF 1 (cD Tryz.f89 1) Ot:=fun d=>by kernel_rfl
def Ou:LT:=EF.add 1 Ot
theorem abo:aA P 1 Ou (aU Tryz.f89):=aA.a hm zB abm abn
def vB(d:List G):Option (List G) :=
 (bif (au ((gi d 1).int+1)) then (a8 ((ae (gi d 0).rows.length (gi d 0).rows.length)&&true) (bV Oq [.l (gi d 0).rows,.i (gi d 1).int,.i (gi d 2).int,.i ((gi d 1).int+1)]) fun h g3=>some [.l (gi g3 0).rows]) else none)
def EG:aG:=⟨89,[.s (.vec 0 8),.s (.int .i64),.s (.int .i64),.s (.fn 29)],[.vec ai 0],[.slot 0],[],[.vec ai 0],[.fix 0],[],vB⟩
theorem abp:aX P t46 Ou Tryz.f89 EG:=fun d=>by kernel_rfl
theorem abq:aV P EG:=aT hm zB Tryz.func89 abo abp
def t47:ak:=t46.cT EG
theorem vC:aq P t47:=zB.aW abq

def Ov(d:List G):Option (Option Nat × List G) :=
 (bif (ba (gi d 4).int (gi d 1).int) then (iE (((ae (gi d 0).rows.length (gi d 0).rows.length)&&true)&&(vB [.l (gi d 0).rows,.i (gi d 3).int,.i (gi d 4).int]).isSome) (vB [.l (gi d 0).rows,.i (gi d 3).int,.i (gi d 4).int]) fun g1=>(bif (au ((gi d 4).int+(gi d 2).int)) then (bif ((ae (gi d 0).rows.length (gi g1 0).rows.length)&&true) then some (none,[.l (gi g1 0).rows,.i (gi d 1).int,.i (gi d 2).int,.i (gi d 4).int,.i ((gi d 4).int+(gi d 2).int)]) else none) else none)) else (bif ((ae (gi d 0).rows.length (gi d 0).rows.length)&&true) then some (some 0,[.l (gi d 0).rows,.i (gi d 1).int,.i (gi d 2).int,.i (gi d 3).int]) else none))
def Ow:bz:=⟨2,[],⟨63,[(0,.s (.vec 0 8)),(1,.s (.int .i64)),(2,.s (.fn 29)),(6,.s (.int .i64)),(7,.s (.int .i64)),(8,.s (.int .i64))],[.vec ai 0]⟩,[.fix 0],[⟨.exit 0,⟨63,[(0,.s (.vec 0 8)),(1,.s (.int .i64)),(2,.s (.fn 29)),(6,.s (.int .i64)),(7,.s (.int .i64))],[.vec ai 0]⟩,[.fix 0]⟩],Ov⟩
theorem abr:cy P t47 az 1 (cD Tryz.f53 2) Ow:=fun d=>by kernel_rfl
def EH:LT:=az.add 1 Ow
theorem abt:aA P 1 EH (aU Tryz.f53):=aA.a hm vC (aL _ _ _) abr
def Ox(d:List G):Option (Option Nat × List G) :=
 (bif (ba (gi d 4).int (gi d 1).int) then (bif (au ((gi d 3).int+(gi d 2).int)) then none else none) else (bif ((ae (gi d 0).rows.length (gi d 0).rows.length)&&true) then some (some 0,[.l (gi d 0).rows,.i (gi d 1).int,.i (gi d 2).int,.i (gi d 3).int]) else none))
def Oy:bz:=⟨9,[],⟨63,[(0,.s (.vec 0 8)),(1,.s (.int .i64)),(2,.s (.fn 29)),(6,.s (.int .i64)),(7,.s (.int .i64)),(8,.s (.int .i64))],[.vec ai 0]⟩,[.fix 0],[⟨.exit 4,⟨63,[(0,.s (.vec 0 8)),(1,.s (.int .i64)),(2,.s (.fn 29)),(6,.s (.int .i64)),(7,.s (.int .i64))],[.vec ai 0]⟩,[.fix 0]⟩],Ox⟩
theorem abu:cy P t47 EH 1 (cD Tryz.f53 9) Oy:=fun d=>by kernel_rfl
def EI:LT:=EH.add 1 Oy
theorem abv:aA P 1 EI (aU Tryz.f53):=aA.a hm vC abt abu
def Oz(d:List G):Option (Option Nat × List G) :=
 (bif (ao (gi d 2).int (gi d 1).int) then (bif (au (2*(gi d 2).int)) then (a8 ((ae (gi d 0).rows.length (gi d 0).rows.length)&&true) (bV Ox [.l (gi d 0).rows,.i (gi d 1).int,.i (gi d 2).int,.i 0,.i (2*(gi d 2).int)]) fun h g4=>(bif (au ((gi g4 3).int+(gi g4 2).int)) then (bif (ao ((gi g4 3).int+(gi g4 2).int) (gi g4 1).int) then none else (bif (au ((gi g4 2).int*2)) then (bif ((ae (gi g4 0).rows.length (gi g4 0).rows.length)&&true) then some (none,[.l (gi g4 0).rows,.i (gi g4 1).int,.i ((gi g4 2).int*2)]) else none) else none)) else none)) else none) else some (some 0,[.l (gi d 0).rows]))
def OA:bz:=⟨7,[],⟨63,[(0,.s (.vec 0 8)),(1,.s (.int .i64)),(2,.s (.fn 29)),(6,.s (.int .i64))],[.vec ai 0]⟩,[.fix 0],[⟨.exit 2,⟨63,[],[.vec ai 0]⟩,[.fix 0]⟩],Oz⟩
theorem abw:cy P t47 EI 1 (cD Tryz.f53 7) OA:=fun d=>by kernel_rfl
def OB:LT:=EI.add 1 OA
theorem abx:aA P 1 OB (aU Tryz.f53):=aA.a hm vC abv abw
def EJ(d:List G):Option (List G) :=
 (a8 ((ae (gi d 0).rows.length (gi d 0).rows.length)&&true) (bV Ov [.l (gi d 0).rows,.i (gi d 1).int,.i 20,.i 0,.i 20]) fun h g2=>(iE (((ae (gi g2 0).rows.length (gi g2 0).rows.length)&&true)&&(vB [.l (gi g2 0).rows,.i (gi g2 3).int,.i (gi g2 1).int]).isSome) (vB [.l (gi g2 0).rows,.i (gi g2 3).int,.i (gi g2 1).int]) fun g3=>(a8 ((ae (gi g2 0).rows.length (gi g3 0).rows.length)&&true) (bV Oz [.l (gi g3 0).rows,.i (gi g2 1).int,.i (gi g2 2).int]) fun k g5=>some [.l (gi g5 0).rows])))
def EK:aG:=⟨53,[.s (.vec 0 8),.s (.int .i64),.s (.fn 29)],[.vec ai 0],[.slot 0],[],[.vec ai 0],[.fix 0],[],EJ⟩
theorem aby:aX P t47 OB Tryz.f53 EK:=fun d=>by kernel_rfl
theorem abz:aV P EK:=aT hm vC Tryz.func53 abx aby
def t48:ak:=t47.cT EK
theorem OC:aq P t48:=vC.aW abz

def zD(d:List G):Option (List G) :=
 (iE (((ae (gi d 0).rows.length (gi d 0).rows.length)&&true)&&(EJ [.l (gi d 0).rows,.i (((gi d 0).rows.length:Nat):Int)]).isSome) (EJ [.l (gi d 0).rows,.i (((gi d 0).rows.length:Nat):Int)]) fun g1=>some [.l (gi g1 0).rows])
def EL:aG:=⟨28,[.s (.vec 0 8),.s (.fn 29)],[.vec ai 0],[.slot 0],[],[.vec ai 0],[.fix 0],[],zD⟩
theorem abA:aX P t48 az Tryz.f28 EL:=fun d=>by kernel_rfl
theorem abB:aV P EL:=aT hm OC Tryz.func28 (aL _ _ _) abA
def t49:ak:=t48.cT EL
theorem OD:aq P t49:=OC.aW abB

def vD(d:List G):Option (List G) :=
 (ay (qd [.l [(aM ai (gi d 0).row)],.l [(aM ai (gi d 1).row)]]) fun g1=>some [.t ((gi g1 0).int==0)])
def EM:aG:=⟨31,[.s (.row ai),.s (.row ai)],[],[],[.s (.bool)],[],[],[],vD⟩
theorem abC:aX P t49 az Tryz.f31 EM:=fun d=>by kernel_rfl
theorem abD:aV P EM:=aT hm OD Tryz.func31 (aL _ _ _) abC
def t50:ak:=t49.bC EM
theorem zF:aq P t50:=OD.aP abD

def OE(d:List G):Option (Option Nat × List G) :=
 (bif (ao (gi d 4).int (((gi d 3).int.toNat:Nat):Int)) then (bif ((aB (gi d 4).int)&&(ao (gi d 4).int (((gi d 3).int.toNat:Nat):Int))) then (bif (decide (((gi d 2).int.toNat+((gi d 4).int).toNat)<(gi d 0).rows.length)) then (bif (au ((gi d 4).int-1)) then (bif ((aB ((gi d 4).int-1))&&(ao ((gi d 4).int-1) (((gi d 3).int.toNat:Nat):Int))) then (bif (decide (((gi d 2).int.toNat+((gi d 4).int-1).toNat)<(gi d 0).rows.length)) then (ay (vD [.l [(aM ai ((gi d 0).rows.getD ((gi d 2).int.toNat+((gi d 4).int).toNat) []))],.l [(aM ai ((gi d 0).rows.getD ((gi d 2).int.toNat+((gi d 4).int-1).toNat) []))]]) fun g2=>(bif (!(gi g2 0).bool) then (bif ((aB (gi d 4).int)&&(ao (gi d 4).int (((gi d 3).int.toNat:Nat):Int))) then (bif (decide (((gi d 2).int.toNat+((gi d 4).int).toNat)<(gi d 0).rows.length)) then (bif ((aB (gi d 1).int)&&(ao (gi d 1).int (((gi d 0).rows.length:Nat):Int))) then (bif (decide ((0+((gi d 1).int).toNat)<(gi d 0).rows.length)) then (bif (au ((gi d 1).int+1)) then (bif (au ((gi d 4).int+1)) then (bif ((ae (gi d 0).rows.length ((gi d 0).rows.set (0+((gi d 1).int).toNat) (bf ai ((gi d 0).rows.getD (0+((gi d 1).int).toNat) []) 0 (aM ai ((gi d 0).rows.getD ((gi d 2).int.toNat+((gi d 4).int).toNat) [])))).length)&&true) then some (none,[.l ((gi d 0).rows.set (0+((gi d 1).int).toNat) (bf ai ((gi d 0).rows.getD (0+((gi d 1).int).toNat) []) 0 (aM ai ((gi d 0).rows.getD ((gi d 2).int.toNat+((gi d 4).int).toNat) [])))),.i ((gi d 1).int+1),.i (((gi d 2).int.toNat:Nat):Int),.i (((gi d 3).int.toNat:Nat):Int),.i ((gi d 4).int+1)]) else none) else none) else none) else none) else none) else none) else none) else (bif (au ((gi d 4).int+1)) then (bif ((ae (gi d 0).rows.length (gi d 0).rows.length)&&true) then some (none,[.l (gi d 0).rows,.i (gi d 1).int,.i (((gi d 2).int.toNat:Nat):Int),.i (((gi d 3).int.toNat:Nat):Int),.i ((gi d 4).int+1)]) else none) else none))) else none) else none) else none) else none) else none) else (bif ((ae (gi d 0).rows.length (gi d 0).rows.length)&&true) then some (some 0,[.l (gi d 0).rows,.i (gi d 1).int]) else none))
def OF:bz:=⟨9,[],⟨66,[(0,.s (.vec 0 8)),(1,.s (.fn 31)),(5,.s (.int .i64)),(6,.s (.sub 0 8)),(7,.s (.int .i64))],[.vec ai 0]⟩,[.fix 0],[⟨.exit 2,⟨66,[(0,.s (.vec 0 8)),(5,.s (.int .i64))],[.vec ai 0]⟩,[.fix 0]⟩],OE⟩
theorem abE:cy P t50 az 1 (cD Tryz.f30 9) OF:=fun d=>by kernel_rfl
def EN:LT:=az.add 1 OF
theorem abF:aA P 1 EN (aU Tryz.f30):=aA.a hm zF (aL _ _ _) abE
def OG(d:List G):Option (Option Nat × List G) :=
 (bif (ao (gi d 1).int (((gi d 0).rows.length:Nat):Int)) then (bif ((aB (gi d 1).int)&&(ao (gi d 1).int (((gi d 0).rows.length:Nat):Int))) then (bif (decide ((0+((gi d 1).int).toNat)<(gi d 0).rows.length)) then (bif (au ((gi d 1).int-1)) then (bif ((aB ((gi d 1).int-1))&&(ao ((gi d 1).int-1) (((gi d 0).rows.length:Nat):Int))) then (bif (decide ((0+((gi d 1).int-1).toNat)<(gi d 0).rows.length)) then (ay (vD [.l [(aM ai ((gi d 0).rows.getD (0+((gi d 1).int).toNat) []))],.l [(aM ai ((gi d 0).rows.getD (0+((gi d 1).int-1).toNat) []))]]) fun g1=>(bif (gi g1 0).bool then (bif ((aB (gi d 1).int)&&(ba (gi d 1).int (((gi d 0).rows.length:Nat):Int))) then (a8 ((ae (gi d 0).rows.length (gi d 0).rows.length)&&true) (bV OE [.l (gi d 0).rows,.i (gi d 1).int,.i (((0+((gi d 1).int).toNat):Nat):Int),.i ((((gi d 0).rows.length-((gi d 1).int).toNat):Nat):Int),.i 1]) fun h g3=>(bif ((aB (gi g3 1).int)&&(ba (gi g3 1).int (((gi g3 0).rows.length:Nat):Int))) then (bif (Nat.ble ((0+((gi g3 1).int).toNat)+((gi g3 0).rows.length-((gi g3 1).int).toNat)) (gi g3 0).rows.length) then (bif ((aB (gi g3 1).int)&&(ba (gi g3 1).int (((gi g3 0).rows.length:Nat):Int))) then some (some 0,[.l ((gi g3 0).rows.take (0+((gi g3 1).int).toNat)++List.replicate ((gi g3 0).rows.length-((gi g3 1).int).toNat) [.i 0,.i 0,.s (⟨#[]⟩:ByteArray),.s (⟨#[]⟩:ByteArray),.i 0,.i 0,.s (⟨#[]⟩:ByteArray),.s (⟨#[]⟩:ByteArray)]++(gi g3 0).rows.drop ((0+((gi g3 1).int).toNat)+((gi g3 0).rows.length-((gi g3 1).int).toNat))),.i (((((gi g3 1).int).toNat-0):Nat):Int)]) else none) else none) else none)) else none) else (bif (au ((gi d 1).int+1)) then (bif ((ae (gi d 0).rows.length (gi d 0).rows.length)&&true) then some (none,[.l (gi d 0).rows,.i ((gi d 1).int+1)]) else none) else none))) else none) else none) else none) else none) else none) else (bif ((ae (gi d 0).rows.length (gi d 0).rows.length)&&true) then some (some 1,[.l (gi d 0).rows]) else none))
def OH:bz:=⟨4,[],⟨66,[(0,.s (.vec 0 8)),(1,.s (.fn 31)),(5,.s (.int .i64))],[.vec ai 0]⟩,[.fix 0],[⟨.ret,⟨66,[(4,.s (.pre 0 8))],[.vec ai 0]⟩,[.fix 0]⟩,⟨.exit 0,⟨66,[(0,.s (.vec 0 8))],[.vec ai 0]⟩,[.fix 0]⟩],OG⟩
theorem abG:cy P t50 EN 1 (cD Tryz.f30 4) OH:=fun d=>by kernel_rfl
def OI:LT:=EN.add 1 OH
theorem abH:aA P 1 OI (aU Tryz.f30):=aA.a hm zF abF abG
def EO(d:List G):Option (List G) :=
 (bif (ao (((gi d 0).rows.length:Nat):Int) 2) then some [.l (gi d 0).rows,.i (((gi d 0).rows.length:Nat):Int)] else (a8 ((ae (gi d 0).rows.length (gi d 0).rows.length)&&true) (bV OG [.l (gi d 0).rows,.i 1]) fun h g4=>(bif ae h 0 then some [.l (gi g4 0).rows,.i (((gi g4 1).int.toNat:Nat):Int)] else some [.l (gi g4 0).rows,.i (((gi g4 0).rows.length:Nat):Int)])))
def EP:aG:=⟨30,[.s (.vec 0 8),.s (.fn 31)],[.vec ai 0],[.slot 0],[.s (.pre 0 8)],[.vec ai 0],[.fix 0],[],EO⟩
theorem abI:aX P t50 OI Tryz.f30 EP:=fun d=>by kernel_rfl
theorem abJ:aV P EP:=aT hm zF Tryz.func30 abH abI
def t51:ak:=t50.cT EP
theorem ER:aq P t51:=zF.aW abJ

def sx(d:List G):Option (Option Nat × List G) :=
 (bif (ao (gi d 5).int (gi d 4).int) then (ay (mY [.l (gi d 0).rows,.i (gi d 1).int,.l [[.i 0],[.i 1],[.i 10],[.i 50],[.i 1000],[.i 40000],[.i 1500000]]]) fun g1=>(bif (au ((gi d 3).int+(gi g1 2).int)) then (ay (zA [.l (gi g1 0).rows,.i (gi g1 1).int,.i ((gi d 3).int+(gi g1 2).int)]) fun g2=>(bif ((ae (gi d 2).rows.length (gi d 2).rows.length)&&(decide (((gi d 2).rows.length+1)≤1048576))) then (bif (au ((gi d 5).int+1)) then (bif ((ae ((gi d 2).rows++([(aM ai (gi g2 2).row)]:List (List G))).length ((gi d 2).rows++([(aM ai (gi g2 2).row)]:List (List G))).length)&&true) then some (none,[.l (gi g2 0).rows,.i (gi g2 1).int,.l ((gi d 2).rows++([(aM ai (gi g2 2).row)]:List (List G))),.i ((gi d 3).int+(gi g1 2).int),.i (gi d 4).int,.i ((gi d 5).int+1)]) else none) else none) else none)) else none)) else (bif ((ae (gi d 2).rows.length (gi d 2).rows.length)&&true) then some (some 0,[.l (gi d 0).rows,.i (gi d 1).int,.l (gi d 2).rows]) else none))
def OJ:bz:=⟨4,[(5,ai)],⟨26,[(0,.s (.ptr 0 0)),(5,.s (.vec 1 8)),(6,.s (.int .i64)),(7,.s (.int .i64)),(8,.s (.int .i64))],[.box [.list [.int .i64],.int .i64],.vec ai 0]⟩,[.fix 0,.slot 5],[⟨.exit 0,⟨26,[(5,.s (.vec 1 8))],[.box [.list [.int .i64],.int .i64],.vec ai 0]⟩,[.fix 0,.slot 5]⟩],sx⟩
theorem abK:cy P t51 az 1 (cD Tryz.f13 4) OJ:=fun d=>by kernel_rfl
def OK:LT:=az.add 1 OJ
theorem abL:aA P 1 OK (aU Tryz.f13):=aA.a hm ER (aL _ _ _) abK
def zG(d:List G):Option (List G) :=
 (a8 true (bV sx [.l (gi d 0).rows,.i (gi d 1).int,.l [],.i 0,.i (gi d 2).int,.i 0]) fun h g3=>(iE (((ae (gi g3 2).rows.length (gi g3 2).rows.length)&&true)&&(zD [.l (gi g3 2).rows]).isSome) (zD [.l (gi g3 2).rows]) fun g4=>(iE (((ae (gi g3 2).rows.length (gi g4 0).rows.length)&&true)&&(EO [.l (gi g4 0).rows]).isSome) (EO [.l (gi g4 0).rows]) fun g5=>(bif ((Nat.ble (gi g5 1).int.toNat (gi g5 0).rows.length)&&true) then some [.l (gi g3 0).rows,.i (gi g3 1).int,.l ((gi g5 0).rows.take ((gi g5 1).int.toNat))] else none))))
def ES:aG:=⟨13,[.s (.ptr 0 0),.s (.int .i64)],[.box [.list [.int .i64],.int .i64]],[.slot 0],[.s (.rO ai)],[.box [.list [.int .i64],.int .i64]],[.fix 0],[],zG⟩
theorem abM:aX P t51 OK Tryz.f13 ES:=fun d=>by kernel_rfl
theorem abN:aV P ES:=aT hm ER Tryz.func13 abL abM
def t52:ak:=t51.cT ES
theorem OL:aq P t52:=ER.aW abN

end
end Go.Proofs.gY
