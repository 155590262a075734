/-
 What is proved here: functions of the program as functions on data. No condition.
-/
import Derived.Test.YtgglclbdiagpoaaGreatDoorML1
set_option linter.all false
open Go.Utf8 renaming encode→nG
open Int renaming tmod→jA,tdiv→ug
open Nat renaming beq→af,ble→bI
namespace Go.Proofs.iU
open Go Go.AL Go.Proofs
noncomputable section
def sP(d:List G):Option (List G) :=
 (bif (ak (gi d 1).int 1) then some [.i 0] else (bif (!((gi d 1).int==0)) then (bif (ak (jA (gi d 0).int (gi d 1).int) 0) then (bif (ay ((jA (gi d 0).int (gi d 1).int)+(gi d 1).int)) then some [.i ((jA (gi d 0).int (gi d 1).int)+(gi d 1).int)] else none) else some [.i (jA (gi d 0).int (gi d 1).int)]) else none))
def Ex:ax:=⟨43,[.s (.int .i64),.s (.int .i64)],[],[],[.s (.int .i64)],[],[],[],sP⟩
theorem Y6:aO P t5 az Tryz.f43 Ex:=fun d=>by kernel_rfl
theorem Y7:aM P Ex:=aN hm Nq Tryz.func43 (aT _ _ _) Y6
def t6:au:=t5.aS Ex
theorem Nr:aw P t6:=Nq.aP Y7

def lr(d:List G):Option (List G) :=
 (bif (ay ((gi d 1).int+1)) then (bif ((((gi d 0).rows.length:Nat):Int)==0) then (bif (ay (((gi d 1).int+1)*7919)) then (aj (sP [.i (((gi d 1).int+1)*7919),.i (gi d 2).int]) fun g1=>some [.l (gi d 0).rows,.i ((gi d 1).int+1),.i (gi g1 0).int]) else none) else (bif (ay (((gi d 1).int+1)-1)) then (bif (!((((gi d 0).rows.length:Nat):Int)==0)) then (bif (ay (((gi d 1).int+1)-1)) then (bif ((!((((gi d 0).rows.length:Nat):Int)==0))&&(ay (ug (((gi d 1).int+1)-1) (((gi d 0).rows.length:Nat):Int)))) then (bif ((aI (jA (((gi d 1).int+1)-1) (((gi d 0).rows.length:Nat):Int)))&&(ak (jA (((gi d 1).int+1)-1) (((gi d 0).rows.length:Nat):Int)) (((gi d 0).rows.length:Nat):Int))) then (aj (sP [.i (gi ((gi d 0).rows.getD ((jA (((gi d 1).int+1)-1) (((gi d 0).rows.length:Nat):Int)).toNat) []) 0).int,.i 1073741824]) fun g2=>(bif (ay (7919+(jA (((gi d 1).int+1)-1) (((gi d 0).rows.length:Nat):Int)))) then (bif (ay ((ug (((gi d 1).int+1)-1) (((gi d 0).rows.length:Nat):Int))*(7919+(jA (((gi d 1).int+1)-1) (((gi d 0).rows.length:Nat):Int))))) then (bif (ay ((gi g2 0).int+((ug (((gi d 1).int+1)-1) (((gi d 0).rows.length:Nat):Int))*(7919+(jA (((gi d 1).int+1)-1) (((gi d 0).rows.length:Nat):Int)))))) then (aj (sP [.i ((gi g2 0).int+((ug (((gi d 1).int+1)-1) (((gi d 0).rows.length:Nat):Int))*(7919+(jA (((gi d 1).int+1)-1) (((gi d 0).rows.length:Nat):Int))))),.i (gi d 2).int]) fun g3=>some [.l (gi d 0).rows,.i ((gi d 1).int+1),.i (gi g3 0).int]) else none) else none) else none)) else none) else none) else none) else none) else none)) else none)
def Ey:ax:=⟨16,[.s (.ptr 0 0),.s (.int .i64)],[.box [.list [.int .i64],.int .i64]],[.slot 0],[.s (.int .i64)],[.box [.list [.int .i64],.int .i64]],[.fix 0],[],lr⟩
theorem Y8:aO P t6 az Tryz.f16 Ey:=fun d=>by kernel_rfl
theorem Y9:aM P Ey:=aN hm Nr Tryz.func16 (aT _ _ _) Y8
def t7:au:=t6.c9 Ey
theorem Ns:aw P t7:=Nr.aW Y9

def kG(d:List G):Option (List G) :=
 (bif (ak (gi d 3).int (gi d 2).int) then some [.l (gi d 0).rows,.i (gi d 1).int,.i (gi d 2).int] else (bif (ay ((gi d 3).int-(gi d 2).int)) then (bif (ay (((gi d 3).int-(gi d 2).int)+1)) then (aj (lr [.l (gi d 0).rows,.i (gi d 1).int,.i (((gi d 3).int-(gi d 2).int)+1)]) fun g1=>(bif (ay ((gi d 2).int+(gi g1 2).int)) then some [.l (gi g1 0).rows,.i (gi g1 1).int,.i ((gi d 2).int+(gi g1 2).int)] else none)) else none) else none))
def Ez:ax:=⟨5,[.s (.ptr 0 0),.s (.int .i64),.s (.int .i64)],[.box [.list [.int .i64],.int .i64]],[.slot 0],[.s (.int .i64)],[.box [.list [.int .i64],.int .i64]],[.fix 0],[],kG⟩
theorem Y_:aO P t7 az Tryz.f5 Ez:=fun d=>by kernel_rfl
theorem Y':aM P Ez:=aN hm Ns Tryz.func5 (aT _ _ _) Y_
def t8:au:=t7.c9 Ez
theorem Nt:aw P t8:=Ns.aW Y'

def ql(d:List G):Option (List G) :=
 (aj (lr [.l (gi d 0).rows,.i (gi d 1).int,.i (((gi d 2).rows.length:Nat):Int)]) fun g1=>(bif ((aI (gi g1 2).int)&&(ak (gi g1 2).int (((gi d 2).rows.length:Nat):Int))) then some [.l (gi g1 0).rows,.i (gi g1 1).int,.s (gi ((gi d 2).rows.getD (((gi g1 2).int).toNat) []) 0).str] else none))
def EA:ax:=⟨18,[.s (.ptr 0 0),.s (.list [.str])],[.box [.list [.int .i64],.int .i64]],[.slot 0],[.s (.str)],[.box [.list [.int .i64],.int .i64]],[.fix 0],[],ql⟩
theorem Za:aO P t8 az Tryz.f18 EA:=fun d=>by kernel_rfl
theorem Zb:aM P EA:=aN hm Nt Tryz.func18 (aT _ _ _) Za
def t9:au:=t8.c9 EA
theorem EB:aw P t9:=Nt.aW Zb

def sQ(d:List G):Option (Option Nat × List G) :=
 (bif (ak (gi d 5).int (gi d 4).int) then (aj (kG [.l (gi d 0).rows,.i (gi d 1).int,.i 0,.i 2]) fun g1=>(bif (ay ((gi d 3).int+(gi g1 2).int)) then (aj (kG [.l (gi g1 0).rows,.i (gi g1 1).int,.i 1,.i 6]) fun g2=>(bif (aG (gi g2 2).int 3) then (aj (ql [.l (gi g2 0).rows,.i (gi g2 1).int,.l [[.s (⟨#[107,49,97,98]⟩:ByteArray)],[.s (⟨#[111,104,50,97,98,99,47,112]⟩:ByteArray)]]]) fun g3=>(aj (kG [.l (gi g3 0).rows,.i (gi g3 1).int,.i 0,.i 9]) fun g4=>(bif ((af (gi d 2).rows.length (gi d 2).rows.length)&&(decide (((gi d 2).rows.length+1)≤1048576))) then (bif (ay (((gi d 3).int+(gi g1 2).int)+1)) then (bif (ay ((gi d 5).int+1)) then (bif ((af ((gi d 2).rows++([[.i ((gi d 3).int+(gi g1 2).int),.i (gi g2 2).int,.s (gi g3 2).str,.i (gi g4 2).int]]:List (List G))).length ((gi d 2).rows++([[.i ((gi d 3).int+(gi g1 2).int),.i (gi g2 2).int,.s (gi g3 2).str,.i (gi g4 2).int]]:List (List G))).length)&&true) then some (none,[.l (gi g4 0).rows,.i (gi g4 1).int,.l ((gi d 2).rows++([[.i ((gi d 3).int+(gi g1 2).int),.i (gi g2 2).int,.s (gi g3 2).str,.i (gi g4 2).int]]:List (List G))),.i (((gi d 3).int+(gi g1 2).int)+1),.i (gi d 4).int,.i ((gi d 5).int+1)]) else none) else none) else none) else none))) else (bif ((af (gi d 2).rows.length (gi d 2).rows.length)&&(decide (((gi d 2).rows.length+1)≤1048576))) then (bif (ay (((gi d 3).int+(gi g1 2).int)+1)) then (bif (ay ((gi d 5).int+1)) then (bif ((af ((gi d 2).rows++([[.i ((gi d 3).int+(gi g1 2).int),.i (gi g2 2).int,.s (⟨#[]⟩:ByteArray),.i (-1)]]:List (List G))).length ((gi d 2).rows++([[.i ((gi d 3).int+(gi g1 2).int),.i (gi g2 2).int,.s (⟨#[]⟩:ByteArray),.i (-1)]]:List (List G))).length)&&true) then some (none,[.l (gi g2 0).rows,.i (gi g2 1).int,.l ((gi d 2).rows++([[.i ((gi d 3).int+(gi g1 2).int),.i (gi g2 2).int,.s (⟨#[]⟩:ByteArray),.i (-1)]]:List (List G))),.i (((gi d 3).int+(gi g1 2).int)+1),.i (gi d 4).int,.i ((gi d 5).int+1)]) else none) else none) else none) else none))) else none)) else (bif ((af (gi d 2).rows.length (gi d 2).rows.length)&&true) then some (some 0,[.l (gi d 0).rows,.i (gi d 1).int,.l (gi d 2).rows]) else none))
def Nu:bH:=⟨4,[(5,aQ)],⟨37,[(0,.s (.ptr 0 0)),(5,.s (.vec 1 4)),(6,.s (.int .i64)),(8,.s (.int .i64)),(9,.s (.int .i64))],[.box [.list [.int .i64],.int .i64],.vec aQ 0]⟩,[.fix 0,.slot 5],[⟨.exit 0,⟨37,[(5,.s (.vec 1 4))],[.box [.list [.int .i64],.int .i64],.vec aQ 0]⟩,[.fix 0,.slot 5]⟩],sQ⟩
theorem Zc:cP P t9 az 1 (cS Tryz.f14 4) Nu:=fun d=>by kernel_rfl
def Nv:LT:=az.add 1 Nu
theorem Zd:aJ P 1 Nv (ba Tryz.f14):=aJ.a hm EB (aT _ _ _) Zc
def zV(d:List G):Option (List G) :=
 (bh true (cu sQ [.l (gi d 0).rows,.i (gi d 1).int,.l [],.i 0,.i (gi d 2).int,.i 0]) fun g g5=>(bif ((af (gi g5 2).rows.length (gi g5 2).rows.length)&&true) then some [.l (gi g5 0).rows,.i (gi g5 1).int,.l (gi g5 2).rows] else none))
def vZ:ax:=⟨14,[.s (.ptr 0 0),.s (.int .i64)],[.box [.list [.int .i64],.int .i64]],[.slot 0],[.s (.list aQ)],[.box [.list [.int .i64],.int .i64]],[.fix 0],[],zV⟩
theorem Ze:aO P t9 Nv Tryz.f14 vZ:=fun d=>by kernel_rfl
theorem EC:aM P vZ:=aN hm EB Tryz.func14 Zd Ze
def t10:au:=t9.c9 vZ
theorem Nw:aw P t10:=EB.aW EC

def v_(d:List G):Option (List G) :=
 (aj (lr [.l (gi d 0).rows,.i (gi d 1).int,.i (gi d 2).int]) fun g1=>some [.l (gi g1 0).rows,.i (gi g1 1).int,.t ((gi g1 2).int==0)])
def ED:ax:=⟨15,[.s (.ptr 0 0),.s (.int .i64)],[.box [.list [.int .i64],.int .i64]],[.slot 0],[.s (.bool)],[.box [.list [.int .i64],.int .i64]],[.fix 0],[],v_⟩
theorem Zf:aO P t10 az Tryz.f15 ED:=fun d=>by kernel_rfl
theorem Zg:aM P ED:=aN hm Nw Tryz.func15 (aT _ _ _) Zf
def t11:au:=t10.c9 ED
theorem Nx:aw P t11:=Nw.aW Zg

def qm(d:List G):Option (List G) :=
 (aj (lr [.l (gi d 0).rows,.i (gi d 1).int,.i (((gi d 2).rows.length:Nat):Int)]) fun g1=>(bif ((aI (gi g1 2).int)&&(ak (gi g1 2).int (((gi d 2).rows.length:Nat):Int))) then some [.l (gi g1 0).rows,.i (gi g1 1).int,.i (gi ((gi d 2).rows.getD (((gi g1 2).int).toNat) []) 0).int] else none))
def EE:ax:=⟨19,[.s (.ptr 0 0),.s (.list [.int .i64])],[.box [.list [.int .i64],.int .i64]],[.slot 0],[.s (.int .i64)],[.box [.list [.int .i64],.int .i64]],[.fix 0],[],qm⟩
theorem Zh:aO P t11 az Tryz.f19 EE:=fun d=>by kernel_rfl
theorem Zi:aM P EE:=aN hm Nx Tryz.func19 (aT _ _ _) Zh
def t12:au:=t11.c9 EE
theorem Ny:aw P t12:=Nx.aW Zi

def wa(d:List G):Option (List G) :=
 (aj (v_ [.l (gi d 0).rows,.i (gi d 1).int,.i 12]) fun g1=>(bif (gi g1 2).bool then (bif (ay ((gi d 2).int-1)) then (bif (ay ((gi d 3).int+1)) then (aj (qm [.l (gi g1 0).rows,.i (gi g1 1).int,.l [[.i ((gi d 2).int-1)],[.i ((gi d 3).int+1)],[.i (gi d 2).int],[.i (gi d 3).int],[.i (-1099511627776)],[.i 1099511627776]]]) fun g2=>some [.l (gi g2 0).rows,.i (gi g2 1).int,.i (gi g2 2).int]) else none) else none) else (aj (kG [.l (gi g1 0).rows,.i (gi g1 1).int,.i (gi d 2).int,.i (gi d 3).int]) fun g3=>some [.l (gi g3 0).rows,.i (gi g3 1).int,.i (gi g3 2).int])))
def EF:ax:=⟨17,[.s (.ptr 0 0),.s (.int .i64),.s (.int .i64)],[.box [.list [.int .i64],.int .i64]],[.slot 0],[.s (.int .i64)],[.box [.list [.int .i64],.int .i64]],[.fix 0],[],wa⟩
theorem Zj:aO P t12 az Tryz.f17 EF:=fun d=>by kernel_rfl
theorem Zk:aM P EF:=aN hm Ny Tryz.func17 (aT _ _ _) Zj
def t13:au:=t12.c9 EF
theorem EG:aw P t13:=Ny.aW Zk

def sR(d:List G):Option (Option Nat × List G) :=
 (bif (ak (gi d 5).int (gi d 4).int) then (aj (kG [.l (gi d 0).rows,.i (gi d 1).int,.i 0,.i 2]) fun g1=>(bif (ay ((gi d 3).int+(gi g1 2).int)) then (aj (kG [.l (gi g1 0).rows,.i (gi g1 1).int,.i 1,.i 6]) fun g2=>(bif (aG (gi g2 2).int 3) then (aj (ql [.l (gi g2 0).rows,.i (gi g2 1).int,.l [[.s (⟨#[107,49,97,98]⟩:ByteArray)],[.s (⟨#[111,104,50,97,98,99,47,112]⟩:ByteArray)]]]) fun g3=>(aj (kG [.l (gi g3 0).rows,.i (gi g3 1).int,.i 0,.i 9]) fun g4=>(bif ((af (gi d 2).rows.length (gi d 2).rows.length)&&(decide (((gi d 2).rows.length+1)≤1048576))) then (bif (ay (((gi d 3).int+(gi g1 2).int)+1)) then (bif (ay ((gi d 5).int+1)) then (bif ((af ((gi d 2).rows++([[.i ((gi d 3).int+(gi g1 2).int),.i (gi g2 2).int,.s (gi g3 2).str,.i (gi g4 2).int]]:List (List G))).length ((gi d 2).rows++([[.i ((gi d 3).int+(gi g1 2).int),.i (gi g2 2).int,.s (gi g3 2).str,.i (gi g4 2).int]]:List (List G))).length)&&true) then some (none,[.l (gi g4 0).rows,.i (gi g4 1).int,.l ((gi d 2).rows++([[.i ((gi d 3).int+(gi g1 2).int),.i (gi g2 2).int,.s (gi g3 2).str,.i (gi g4 2).int]]:List (List G))),.i (((gi d 3).int+(gi g1 2).int)+1),.i (gi d 4).int,.i ((gi d 5).int+1)]) else none) else none) else none) else none))) else (bif ((af (gi d 2).rows.length (gi d 2).rows.length)&&(decide (((gi d 2).rows.length+1)≤1048576))) then (bif (ay (((gi d 3).int+(gi g1 2).int)+1)) then (bif (ay ((gi d 5).int+1)) then (bif ((af ((gi d 2).rows++([[.i ((gi d 3).int+(gi g1 2).int),.i (gi g2 2).int,.s (⟨#[]⟩:ByteArray),.i (-1)]]:List (List G))).length ((gi d 2).rows++([[.i ((gi d 3).int+(gi g1 2).int),.i (gi g2 2).int,.s (⟨#[]⟩:ByteArray),.i (-1)]]:List (List G))).length)&&true) then some (none,[.l (gi g2 0).rows,.i (gi g2 1).int,.l ((gi d 2).rows++([[.i ((gi d 3).int+(gi g1 2).int),.i (gi g2 2).int,.s (⟨#[]⟩:ByteArray),.i (-1)]]:List (List G))),.i (((gi d 3).int+(gi g1 2).int)+1),.i (gi d 4).int,.i ((gi d 5).int+1)]) else none) else none) else none) else none))) else none)) else (bif ((af (gi d 2).rows.length (gi d 2).rows.length)&&true) then some (some 0,[.l (gi d 0).rows,.i (gi d 1).int,.l (gi d 2).rows]) else none))
def Nz:bH:=⟨4,[(5,aQ)],⟨37,[(0,.s (.ptr 0 0)),(5,.s (.vec 1 4)),(6,.s (.int .i64)),(8,.s (.int .i64)),(9,.s (.int .i64))],[.box [.list [.int .i64],.int .i64],.vec aQ 0]⟩,[.fix 0,.slot 5],[⟨.exit 0,⟨37,[(5,.s (.vec 1 4))],[.box [.list [.int .i64],.int .i64],.vec aQ 0]⟩,[.fix 0,.slot 5]⟩],sR⟩
theorem Zl:cP P t13 az 1 (cS Tryz.f14 4) Nz:=fun d=>by kernel_rfl
def NA:LT:=az.add 1 Nz
theorem Zm:aJ P 1 NA (ba Tryz.f14):=aJ.a hm EG (aT _ _ _) Zl
def zW(d:List G):Option (List G) :=
 (bh true (cu sR [.l (gi d 0).rows,.i (gi d 1).int,.l [],.i 0,.i (gi d 2).int,.i 0]) fun g g5=>(bif ((af (gi g5 2).rows.length (gi g5 2).rows.length)&&true) then some [.l (gi g5 0).rows,.i (gi g5 1).int,.l (gi g5 2).rows] else none))
def EH:ax:=⟨14,[.s (.ptr 0 0),.s (.int .i64)],[.box [.list [.int .i64],.int .i64]],[.slot 0],[.s (.vec 1 4)],[.box [.list [.int .i64],.int .i64],.vec aQ 0],[.fix 0,.slot 0],[],zW⟩
theorem Zn:aO P t13 NA Tryz.f14 EH:=fun d=>by kernel_rfl
theorem Zo:aM P EH:=aN hm EG Tryz.func14 Zm Zn
def t14:au:=t13.c9 EH
theorem EI:aw P t14:=EG.aW Zo

def sS(d:List G):Option (Option Nat × List G) :=
 (bif (gi d 3).bool then (aj (lr [.l (gi d 0).rows,.i (gi d 1).int,.i (((gi d 2).rows.length:Nat):Int)]) fun g3=>(bif ((aI (gi g3 2).int)&&(ak (gi g3 2).int (((gi d 2).rows.length:Nat):Int))) then (aj (wa [.l (gi g3 0).rows,.i (gi g3 1).int,.i 0,.i 20]) fun g4=>(aj (wa [.l (gi g4 0).rows,.i (gi g4 1).int,.i 1,.i 6]) fun g5=>(bif (decide ((0+((gi g3 2).int).toNat)<(gi d 2).rows.length)) then (aj (ql [.l (gi g5 0).rows,.i (gi g5 1).int,.l [[.s (gi ((gi d 2).rows.getD (0+((gi g3 2).int).toNat) []) 2).str],[.s (⟨#[]⟩:ByteArray)],[.s (⟨#[107,49,97,98]⟩:ByteArray)],[.s (⟨#[65]⟩:ByteArray)]]]) fun g6=>(bif (decide ((0+((gi g3 2).int).toNat)<(gi d 2).rows.length)) then (aj (qm [.l (gi g6 0).rows,.i (gi g6 1).int,.l [[.i (gi ((gi d 2).rows.getD (0+((gi g3 2).int).toNat) []) 3).int],[.i (-1)],[.i 0],[.i (-2)],[.i 2000]]]) fun g7=>(bif (decide ((0+((gi g3 2).int).toNat)<(gi d 2).rows.length)) then (bif (decide ((0+((gi g3 2).int).toNat)<((gi d 2).rows.set (0+((gi g3 2).int).toNat) (a7 aQ ((gi d 2).rows.getD (0+((gi g3 2).int).toNat) []) 0 [.i (gi g4 2).int])).length)) then (bif (decide ((0+((gi g3 2).int).toNat)<(((gi d 2).rows.set (0+((gi g3 2).int).toNat) (a7 aQ ((gi d 2).rows.getD (0+((gi g3 2).int).toNat) []) 0 [.i (gi g4 2).int])).set (0+((gi g3 2).int).toNat) (a7 aQ (((gi d 2).rows.set (0+((gi g3 2).int).toNat) (a7 aQ ((gi d 2).rows.getD (0+((gi g3 2).int).toNat) []) 0 [.i (gi g4 2).int])).getD (0+((gi g3 2).int).toNat) []) 1 [.i (gi g5 2).int])).length)) then (bif (decide ((0+((gi g3 2).int).toNat)<((((gi d 2).rows.set (0+((gi g3 2).int).toNat) (a7 aQ ((gi d 2).rows.getD (0+((gi g3 2).int).toNat) []) 0 [.i (gi g4 2).int])).set (0+((gi g3 2).int).toNat) (a7 aQ (((gi d 2).rows.set (0+((gi g3 2).int).toNat) (a7 aQ ((gi d 2).rows.getD (0+((gi g3 2).int).toNat) []) 0 [.i (gi g4 2).int])).getD (0+((gi g3 2).int).toNat) []) 1 [.i (gi g5 2).int])).set (0+((gi g3 2).int).toNat) (a7 aQ ((((gi d 2).rows.set (0+((gi g3 2).int).toNat) (a7 aQ ((gi d 2).rows.getD (0+((gi g3 2).int).toNat) []) 0 [.i (gi g4 2).int])).set (0+((gi g3 2).int).toNat) (a7 aQ (((gi d 2).rows.set (0+((gi g3 2).int).toNat) (a7 aQ ((gi d 2).rows.getD (0+((gi g3 2).int).toNat) []) 0 [.i (gi g4 2).int])).getD (0+((gi g3 2).int).toNat) []) 1 [.i (gi g5 2).int])).getD (0+((gi g3 2).int).toNat) []) 2 [.s (gi g6 2).str])).length)) then (bif ((af (gi d 2).rows.length (((((gi d 2).rows.set (0+((gi g3 2).int).toNat) (a7 aQ ((gi d 2).rows.getD (0+((gi g3 2).int).toNat) []) 0 [.i (gi g4 2).int])).set (0+((gi g3 2).int).toNat) (a7 aQ (((gi d 2).rows.set (0+((gi g3 2).int).toNat) (a7 aQ ((gi d 2).rows.getD (0+((gi g3 2).int).toNat) []) 0 [.i (gi g4 2).int])).getD (0+((gi g3 2).int).toNat) []) 1 [.i (gi g5 2).int])).set (0+((gi g3 2).int).toNat) (a7 aQ ((((gi d 2).rows.set (0+((gi g3 2).int).toNat) (a7 aQ ((gi d 2).rows.getD (0+((gi g3 2).int).toNat) []) 0 [.i (gi g4 2).int])).set (0+((gi g3 2).int).toNat) (a7 aQ (((gi d 2).rows.set (0+((gi g3 2).int).toNat) (a7 aQ ((gi d 2).rows.getD (0+((gi g3 2).int).toNat) []) 0 [.i (gi g4 2).int])).getD (0+((gi g3 2).int).toNat) []) 1 [.i (gi g5 2).int])).getD (0+((gi g3 2).int).toNat) []) 2 [.s (gi g6 2).str])).set (0+((gi g3 2).int).toNat) (a7 aQ (((((gi d 2).rows.set (0+((gi g3 2).int).toNat) (a7 aQ ((gi d 2).rows.getD (0+((gi g3 2).int).toNat) []) 0 [.i (gi g4 2).int])).set (0+((gi g3 2).int).toNat) (a7 aQ (((gi d 2).rows.set (0+((gi g3 2).int).toNat) (a7 aQ ((gi d 2).rows.getD (0+((gi g3 2).int).toNat) []) 0 [.i (gi g4 2).int])).getD (0+((gi g3 2).int).toNat) []) 1 [.i (gi g5 2).int])).set (0+((gi g3 2).int).toNat) (a7 aQ ((((gi d 2).rows.set (0+((gi g3 2).int).toNat) (a7 aQ ((gi d 2).rows.getD (0+((gi g3 2).int).toNat) []) 0 [.i (gi g4 2).int])).set (0+((gi g3 2).int).toNat) (a7 aQ (((gi d 2).rows.set (0+((gi g3 2).int).toNat) (a7 aQ ((gi d 2).rows.getD (0+((gi g3 2).int).toNat) []) 0 [.i (gi g4 2).int])).getD (0+((gi g3 2).int).toNat) []) 1 [.i (gi g5 2).int])).getD (0+((gi g3 2).int).toNat) []) 2 [.s (gi g6 2).str])).getD (0+((gi g3 2).int).toNat) []) 3 [.i (gi g7 2).int])).length)&&true) then some (some 0,[.l (gi g7 0).rows,.i (gi g7 1).int,.l (((((gi d 2).rows.set (0+((gi g3 2).int).toNat) (a7 aQ ((gi d 2).rows.getD (0+((gi g3 2).int).toNat) []) 0 [.i (gi g4 2).int])).set (0+((gi g3 2).int).toNat) (a7 aQ (((gi d 2).rows.set (0+((gi g3 2).int).toNat) (a7 aQ ((gi d 2).rows.getD (0+((gi g3 2).int).toNat) []) 0 [.i (gi g4 2).int])).getD (0+((gi g3 2).int).toNat) []) 1 [.i (gi g5 2).int])).set (0+((gi g3 2).int).toNat) (a7 aQ ((((gi d 2).rows.set (0+((gi g3 2).int).toNat) (a7 aQ ((gi d 2).rows.getD (0+((gi g3 2).int).toNat) []) 0 [.i (gi g4 2).int])).set (0+((gi g3 2).int).toNat) (a7 aQ (((gi d 2).rows.set (0+((gi g3 2).int).toNat) (a7 aQ ((gi d 2).rows.getD (0+((gi g3 2).int).toNat) []) 0 [.i (gi g4 2).int])).getD (0+((gi g3 2).int).toNat) []) 1 [.i (gi g5 2).int])).getD (0+((gi g3 2).int).toNat) []) 2 [.s (gi g6 2).str])).set (0+((gi g3 2).int).toNat) (a7 aQ (((((gi d 2).rows.set (0+((gi g3 2).int).toNat) (a7 aQ ((gi d 2).rows.getD (0+((gi g3 2).int).toNat) []) 0 [.i (gi g4 2).int])).set (0+((gi g3 2).int).toNat) (a7 aQ (((gi d 2).rows.set (0+((gi g3 2).int).toNat) (a7 aQ ((gi d 2).rows.getD (0+((gi g3 2).int).toNat) []) 0 [.i (gi g4 2).int])).getD (0+((gi g3 2).int).toNat) []) 1 [.i (gi g5 2).int])).set (0+((gi g3 2).int).toNat) (a7 aQ ((((gi d 2).rows.set (0+((gi g3 2).int).toNat) (a7 aQ ((gi d 2).rows.getD (0+((gi g3 2).int).toNat) []) 0 [.i (gi g4 2).int])).set (0+((gi g3 2).int).toNat) (a7 aQ (((gi d 2).rows.set (0+((gi g3 2).int).toNat) (a7 aQ ((gi d 2).rows.getD (0+((gi g3 2).int).toNat) []) 0 [.i (gi g4 2).int])).getD (0+((gi g3 2).int).toNat) []) 1 [.i (gi g5 2).int])).getD (0+((gi g3 2).int).toNat) []) 2 [.s (gi g6 2).str])).getD (0+((gi g3 2).int).toNat) []) 3 [.i (gi g7 2).int]))]) else none) else none) else none) else none) else none)) else none)) else none))) else none)) else (bif ((af (gi d 2).rows.length (gi d 2).rows.length)&&true) then some (some 0,[.l (gi d 0).rows,.i (gi d 1).int,.l (gi d 2).rows]) else none))
def NB:bH:=⟨3,[],⟨54,[(0,.s (.ptr 0 0)),(5,.s (.vec 1 4)),(16,.s (.bool))],[.box [.list [.int .i64],.int .i64],.vec aQ 0]⟩,[.fix 0,.slot 5],[⟨.normal,⟨54,[(5,.s (.vec 1 4))],[.box [.list [.int .i64],.int .i64],.vec aQ 0]⟩,[.fix 0,.slot 5]⟩],sS⟩
theorem Zp:iQ P t14 az 1 (cutAt Tryz.f4 3) NB:=fun d=>by kernel_rfl
def NC:LT:=az.gQ 1 NB
theorem Zq:aJ P 1 NC (ba Tryz.f4):=aJ.aC hm EI (aT _ _ _) Zp
def zX(d:List G):Option (List G) :=
 (aj (zW [.l (gi d 0).rows,.i (gi d 1).int,.i (gi d 2).int]) fun g1=>(bif (ak 0 (((gi g1 2).rows.length:Nat):Int)) then (aj (v_ [.l (gi g1 0).rows,.i (gi g1 1).int,.i 6]) fun g2=>(bh ((af (gi g1 2).rows.length (gi g1 2).rows.length)&&true) (dD (sS [.l (gi g2 0).rows,.i (gi g2 1).int,.l (gi g1 2).rows,.t (gi g2 2).bool])) fun g g8=>(bif ((af (gi g8 2).rows.length (gi g8 2).rows.length)&&true) then some [.l (gi g8 0).rows,.i (gi g8 1).int,.l (gi g8 2).rows] else none))) else (bh ((af (gi g1 2).rows.length (gi g1 2).rows.length)&&true) (dD (sS [.l (gi g1 0).rows,.i (gi g1 1).int,.l (gi g1 2).rows,.t false])) fun h g9=>(bif ((af (gi g9 2).rows.length (gi g9 2).rows.length)&&true) then some [.l (gi g9 0).rows,.i (gi g9 1).int,.l (gi g9 2).rows] else none))))
def EJ:ax:=⟨4,[.s (.ptr 0 0),.s (.int .i64)],[.box [.list [.int .i64],.int .i64]],[.slot 0],[.s (.list aQ)],[.box [.list [.int .i64],.int .i64]],[.fix 0],[],zX⟩
theorem Zr:aO P t14 NC Tryz.f4 EJ:=fun d=>by kernel_rfl
theorem Zs:aM P EJ:=aN hm EI Tryz.func4 Zq Zr
def t15:au:=t14.c9 EJ
theorem ND:aw P t15:=EI.aW Zs

def zY(d:List G):Option (List G) :=
 some [.l [[.s (⟨#[]⟩:ByteArray)],[.s (⟨#[103,111,111,100]⟩:ByteArray)],[.s (⟨#[99,97,108,108]⟩:ByteArray)],[.s (⟨#[104,101,97,114,100]⟩:ByteArray)],[.s (⟨#[109,105,115,115,105,110,103]⟩:ByteArray)],[.s (⟨#[117,110,107,110,111,119,110]⟩:ByteArray)],[.s (⟨#[116,119,105,99,101]⟩:ByteArray)]]]
def EK:ax:=⟨32,[],[],[],[.s (.list [.str])],[],[],[],zY⟩
theorem Zt:aO P t15 az Tryz.f32 EK:=fun d=>by kernel_rfl
theorem Zu:aM P EK:=aN hm ND Tryz.func32 (aT _ _ _) Zt
def t16:au:=t15.aS EK
theorem NF:aw P t16:=ND.aP Zu

def zZ(d:List G):Option (List G) :=
 (bif ((gi d 0).str.toList==(⟨#[]⟩:ByteArray).toList) then some [.s (⟨#[45]⟩:ByteArray)] else some [.s (gi d 0).str])
def EL:ax:=⟨33,[.s (.str)],[],[],[.s (.str)],[],[],[],zZ⟩
theorem Zv:aO P t16 az Tryz.f33 EL:=fun d=>by kernel_rfl
theorem Zw:aM P EL:=aN hm NF Tryz.func33 (aT _ _ _) Zv
def t17:au:=t16.aS EL
theorem NG:aw P t17:=NF.aP Zw

def z6(d:List G):Option (List G) :=
 (bif ((gi d 2).str.toList==(⟨#[]⟩:ByteArray).toList) then some [.l (gi d 0).rows,.i (gi d 1).int,.s (gi d 3).str] else (bif ((gi d 3).str.toList==(⟨#[]⟩:ByteArray).toList) then some [.l (gi d 0).rows,.i (gi d 1).int,.s (gi d 3).str] else (aj (lr [.l (gi d 0).rows,.i (gi d 1).int,.i (((gi d 2).str.size:Nat):Int)]) fun g1=>(aj (lr [.l (gi g1 0).rows,.i (gi g1 1).int,.i (((gi d 3).str.size:Nat):Int)]) fun g2=>(bif ((aI (gi g2 2).int)&&(ak (gi g2 2).int (((gi d 3).str.size:Nat):Int))) then (aj (lr [.l (gi g2 0).rows,.i (gi g2 1).int,.i 3]) fun g3=>(bif ((gi g3 2).int==0) then (bif ((aI (gi g1 2).int)&&(aG (gi g1 2).int (((gi d 2).str.size:Nat):Int))) then (bif (bI (((gi d 2).str.extract 0 ((gi g1 2).int).toNat).size+(nG (IntKind.i32.wrap (((gi d 3).str.data.toList.getD (((gi g2 2).int).toNat) 0).toNat:Int))).size) 9223372036854775807) then (bif (ay ((gi g1 2).int+1)) then (bif ((aI ((gi g1 2).int+1))&&(aG ((gi g1 2).int+1) (((gi d 2).str.size:Nat):Int))) then (bif (bI ((((gi d 2).str.extract 0 ((gi g1 2).int).toNat)++(nG (IntKind.i32.wrap (((gi d 3).str.data.toList.getD (((gi g2 2).int).toNat) 0).toNat:Int)))).size+((gi d 2).str.extract ((gi g1 2).int+1).toNat (gi d 2).str.size).size) 9223372036854775807) then some [.l (gi g3 0).rows,.i (gi g3 1).int,.s ((((gi d 2).str.extract 0 ((gi g1 2).int).toNat)++(nG (IntKind.i32.wrap (((gi d 3).str.data.toList.getD (((gi g2 2).int).toNat) 0).toNat:Int))))++((gi d 2).str.extract ((gi g1 2).int+1).toNat (gi d 2).str.size))] else none) else none) else none) else none) else none) else (bif ((gi g3 2).int==1) then (bif ((aI (gi g1 2).int)&&(aG (gi g1 2).int (((gi d 2).str.size:Nat):Int))) then (bif (bI (((gi d 2).str.extract 0 ((gi g1 2).int).toNat).size+(nG (IntKind.i32.wrap (((gi d 3).str.data.toList.getD (((gi g2 2).int).toNat) 0).toNat:Int))).size) 9223372036854775807) then (bif ((aI (gi g1 2).int)&&(aG (gi g1 2).int (((gi d 2).str.size:Nat):Int))) then (bif (bI ((((gi d 2).str.extract 0 ((gi g1 2).int).toNat)++(nG (IntKind.i32.wrap (((gi d 3).str.data.toList.getD (((gi g2 2).int).toNat) 0).toNat:Int)))).size+((gi d 2).str.extract ((gi g1 2).int).toNat (gi d 2).str.size).size) 9223372036854775807) then some [.l (gi g3 0).rows,.i (gi g3 1).int,.s ((((gi d 2).str.extract 0 ((gi g1 2).int).toNat)++(nG (IntKind.i32.wrap (((gi d 3).str.data.toList.getD (((gi g2 2).int).toNat) 0).toNat:Int))))++((gi d 2).str.extract ((gi g1 2).int).toNat (gi d 2).str.size))] else none) else none) else none) else none) else (bif ((aI (gi g1 2).int)&&(aG (gi g1 2).int (((gi d 2).str.size:Nat):Int))) then (bif (ay ((gi g1 2).int+1)) then (bif ((aI ((gi g1 2).int+1))&&(aG ((gi g1 2).int+1) (((gi d 2).str.size:Nat):Int))) then (bif (bI (((gi d 2).str.extract 0 ((gi g1 2).int).toNat).size+((gi d 2).str.extract ((gi g1 2).int+1).toNat (gi d 2).str.size).size) 9223372036854775807) then some [.l (gi g3 0).rows,.i (gi g3 1).int,.s (((gi d 2).str.extract 0 ((gi g1 2).int).toNat)++((gi d 2).str.extract ((gi g1 2).int+1).toNat (gi d 2).str.size))] else none) else none) else none) else none)))) else none)))))
def EM:ax:=⟨20,[.s (.ptr 0 0),.s (.str),.s (.str)],[.box [.list [.int .i64],.int .i64]],[.slot 0],[.s (.str)],[.box [.list [.int .i64],.int .i64]],[.fix 0],[],z6⟩
theorem Zx:aO P t17 az Tryz.f20 EM:=fun d=>by kernel_rfl
theorem Zy:aM P EM:=aN hm NG Tryz.func20 (aT _ _ _) Zx
def t18:au:=t17.c9 EM
theorem NH:aw P t18:=NG.aW Zy

def jV(d:List G):Option (List G) :=
 (bif (ak (gi d 0).int (gi d 1).int) then some [.t true] else some [.t (ak (gi d 2).int (gi d 0).int)])
def EN:ax:=⟨58,[.s (.int .i64),.s (.int .i64),.s (.int .i64)],[],[],[.s (.bool)],[],[],[],jV⟩
theorem Zz:aO P t18 az Tryz.f58 EN:=fun d=>by kernel_rfl
theorem ZA:aM P EN:=aN hm NH Tryz.func58 (aT _ _ _) Zz
def t19:au:=t18.aS EN
theorem NI:aw P t19:=NH.aP ZA

def z7(d:List G):Option (List G) :=
 (bif (aG 97 (gi d 0).int) then some [.t (aG (gi d 0).int 122)] else some [.t false])
def EO:ax:=⟨167,[.s (.int .u8)],[],[],[.s (.bool)],[],[],[],z7⟩
theorem ZB:aO P t19 az Tryz.f167 EO:=fun d=>by kernel_rfl
theorem ZC:aM P EO:=aN hm NI Tryz.func167 (aT _ _ _) ZB
def t20:au:=t19.aS EO
theorem NJ:aw P t20:=NI.aP ZC

def wb(d:List G):Option (List G) :=
 (bif (aG 48 (gi d 0).int) then some [.t (aG (gi d 0).int 57)] else some [.t false])
def EP:ax:=⟨149,[.s (.int .u8)],[],[],[.s (.bool)],[],[],[],wb⟩
theorem ZD:aO P t20 az Tryz.f149 EP:=fun d=>by kernel_rfl
theorem ZE:aM P EP:=aN hm NJ Tryz.func149 (aT _ _ _) ZD
def t21:au:=t20.aS EP
theorem ER:aw P t21:=NJ.aP ZE

def z8(d:List G):Option (Option Nat × List G) :=
 (bif (ak (gi d 3).int (gi d 2).int) then (bif ((aI (gi d 3).int)&&(ak (gi d 3).int (((gi d 0).str.size:Nat):Int))) then (aj (z7 [.i (((gi d 0).str.data.toList.getD (((gi d 3).int).toNat) 0).toNat:Int)]) fun g1=>(bif (gi g1 0).bool then (bif (ay ((gi d 1).int+1)) then (bif (ay ((gi d 3).int+1)) then some (none,[.s (gi d 0).str,.i ((gi d 1).int+1),.i (gi d 2).int,.i ((gi d 3).int+1)]) else none) else none) else (bif ((aI (gi d 3).int)&&(ak (gi d 3).int (((gi d 0).str.size:Nat):Int))) then (aj (wb [.i (((gi d 0).str.data.toList.getD (((gi d 3).int).toNat) 0).toNat:Int)]) fun g2=>(bif (!(gi g2 0).bool) then some (some 0,[.i 0,.t false]) else (bif (ay ((gi d 3).int+1)) then some (none,[.s (gi d 0).str,.i (gi d 1).int,.i (gi d 2).int,.i ((gi d 3).int+1)]) else none))) else none))) else none) else some (some 1,[.i (gi d 1).int]))
def NK:bH:=⟨2,[],⟨25,[(0,.s (.str)),(2,.s (.int .i64)),(6,.s (.int .i64)),(7,.s (.int .i64))],[]⟩,[],[⟨.ret,⟨25,[(2,.s (.int .i64)),(3,.s (.bool))],[]⟩,[]⟩,⟨.exit 0,⟨25,[(2,.s (.int .i64))],[]⟩,[]⟩],z8⟩
theorem ZF:cP P t21 az 0 (cS Tryz.f148 2) NK:=fun d=>by kernel_rfl
def NL:LT:=az.add 0 NK
theorem ZG:aJ P 0 NL (ba Tryz.f148):=aJ.a hm ER (aT _ _ _) ZF
def sT(d:List G):Option (List G) :=
 (bh true (cu z8 [.s (gi d 0).str,.i 0,.i (((gi d 0).str.size:Nat):Int),.i 0]) fun g g3=>(bif af g 0 then some [.i (gi g3 0).int,.t (gi g3 1).bool] else some [.i (gi g3 0).int,.t true]))
def ES:ax:=⟨148,[.s (.str)],[],[],[.s (.int .i64),.s (.bool)],[],[],[],sT⟩
theorem ZH:aO P t21 NL Tryz.f148 ES:=fun d=>by kernel_rfl
theorem ZI:aM P ES:=aN hm ER Tryz.func148 ZG ZH
def t22:au:=t21.aS ES
theorem ZJ:aw P t22:=ER.aP ZI

def qn(d:List G):Option (List G) :=
 zM d
def we:ax:=⟨114,[.s (.str),.s (.int .i32)],[],[],[.s (.int .i64)],[],[],[],qn⟩
theorem ZK:∀ d r,qn d=some r→cq P 114 (we.args0 d) (ai (we.H0 d)) (we.out r) (ai (we.H1 r)):=fun d r h=>XY Tryz.Yw d r h
def t23:au:=t22.aS we
theorem NM:aw P t23:=ZJ.aP ZK

def ET(d:List G):Option (List G) :=
 some [.t (ak 8 (gi d 0).int)]
def EU:ax:=⟨115,[.s (.int .i64)],[],[],[.s (.bool)],[],[],[],ET⟩
theorem ZL:aO P t23 az Tryz.f115 EU:=fun d=>by kernel_rfl
theorem ZM:aM P EU:=aN hm NM Tryz.func115 (aT _ _ _) ZL
def t24:au:=t23.aS EU
theorem ZN:aw P t24:=NM.aP ZM

def wg(d:List G):Option (List G) :=
 zL d
def wh:ax:=⟨116,[.s (.str)],[],[],[.s (.row kz),.s (.bool)],[],[],[],wg⟩
theorem ZO:∀ d r,wg d=some r→cq P 116 (wh.args0 d) (ai (wh.H0 d)) (wh.out r) (ai (wh.H1 r)):=fun d r h=>XX Tryz.Yy (by kernel_rfl) d r h
def t25:au:=t24.aS wh
theorem NN:aw P t25:=ZN.aP ZO

def z_(d:List G):Option (List G) :=
 (bif ((aI (gi d 1).int)&&(ak (gi d 1).int 256)) then some [.t (gi ([[.t (gi (gi d 0).row 0).bool],[.t (gi (gi d 0).row 1).bool],[.t (gi (gi d 0).row 2).bool],[.t (gi (gi d 0).row 3).bool],[.t (gi (gi d 0).row 4).bool],[.t (gi (gi d 0).row 5).bool],[.t (gi (gi d 0).row 6).bool],[.t (gi (gi d 0).row 7).bool],[.t (gi (gi d 0).row 8).bool],[.t (gi (gi d 0).row 9).bool],[.t (gi (gi d 0).row 10).bool],[.t (gi (gi d 0).row 11).bool],[.t (gi (gi d 0).row 12).bool],[.t (gi (gi d 0).row 13).bool],[.t (gi (gi d 0).row 14).bool],[.t (gi (gi d 0).row 15).bool],[.t (gi (gi d 0).row 16).bool],[.t (gi (gi d 0).row 17).bool],[.t (gi (gi d 0).row 18).bool],[.t (gi (gi d 0).row 19).bool],[.t (gi (gi d 0).row 20).bool],[.t (gi (gi d 0).row 21).bool],[.t (gi (gi d 0).row 22).bool],[.t (gi (gi d 0).row 23).bool],[.t (gi (gi d 0).row 24).bool],[.t (gi (gi d 0).row 25).bool],[.t (gi (gi d 0).row 26).bool],[.t (gi (gi d 0).row 27).bool],[.t (gi (gi d 0).row 28).bool],[.t (gi (gi d 0).row 29).bool],[.t (gi (gi d 0).row 30).bool],[.t (gi (gi d 0).row 31).bool],[.t (gi (gi d 0).row 32).bool],[.t (gi (gi d 0).row 33).bool],[.t (gi (gi d 0).row 34).bool],[.t (gi (gi d 0).row 35).bool],[.t (gi (gi d 0).row 36).bool],[.t (gi (gi d 0).row 37).bool],[.t (gi (gi d 0).row 38).bool],[.t (gi (gi d 0).row 39).bool],[.t (gi (gi d 0).row 40).bool],[.t (gi (gi d 0).row 41).bool],[.t (gi (gi d 0).row 42).bool],[.t (gi (gi d 0).row 43).bool],[.t (gi (gi d 0).row 44).bool],[.t (gi (gi d 0).row 45).bool],[.t (gi (gi d 0).row 46).bool],[.t (gi (gi d 0).row 47).bool],[.t (gi (gi d 0).row 48).bool],[.t (gi (gi d 0).row 49).bool],[.t (gi (gi d 0).row 50).bool],[.t (gi (gi d 0).row 51).bool],[.t (gi (gi d 0).row 52).bool],[.t (gi (gi d 0).row 53).bool],[.t (gi (gi d 0).row 54).bool],[.t (gi (gi d 0).row 55).bool],[.t (gi (gi d 0).row 56).bool],[.t (gi (gi d 0).row 57).bool],[.t (gi (gi d 0).row 58).bool],[.t (gi (gi d 0).row 59).bool],[.t (gi (gi d 0).row 60).bool],[.t (gi (gi d 0).row 61).bool],[.t (gi (gi d 0).row 62).bool],[.t (gi (gi d 0).row 63).bool],[.t (gi (gi d 0).row 64).bool],[.t (gi (gi d 0).row 65).bool],[.t (gi (gi d 0).row 66).bool],[.t (gi (gi d 0).row 67).bool],[.t (gi (gi d 0).row 68).bool],[.t (gi (gi d 0).row 69).bool],[.t (gi (gi d 0).row 70).bool],[.t (gi (gi d 0).row 71).bool],[.t (gi (gi d 0).row 72).bool],[.t (gi (gi d 0).row 73).bool],[.t (gi (gi d 0).row 74).bool],[.t (gi (gi d 0).row 75).bool],[.t (gi (gi d 0).row 76).bool],[.t (gi (gi d 0).row 77).bool],[.t (gi (gi d 0).row 78).bool],[.t (gi (gi d 0).row 79).bool],[.t (gi (gi d 0).row 80).bool],[.t (gi (gi d 0).row 81).bool],[.t (gi (gi d 0).row 82).bool],[.t (gi (gi d 0).row 83).bool],[.t (gi (gi d 0).row 84).bool],[.t (gi (gi d 0).row 85).bool],[.t (gi (gi d 0).row 86).bool],[.t (gi (gi d 0).row 87).bool],[.t (gi (gi d 0).row 88).bool],[.t (gi (gi d 0).row 89).bool],[.t (gi (gi d 0).row 90).bool],[.t (gi (gi d 0).row 91).bool],[.t (gi (gi d 0).row 92).bool],[.t (gi (gi d 0).row 93).bool],[.t (gi (gi d 0).row 94).bool],[.t (gi (gi d 0).row 95).bool],[.t (gi (gi d 0).row 96).bool],[.t (gi (gi d 0).row 97).bool],[.t (gi (gi d 0).row 98).bool],[.t (gi (gi d 0).row 99).bool],[.t (gi (gi d 0).row 100).bool],[.t (gi (gi d 0).row 101).bool],[.t (gi (gi d 0).row 102).bool],[.t (gi (gi d 0).row 103).bool],[.t (gi (gi d 0).row 104).bool],[.t (gi (gi d 0).row 105).bool],[.t (gi (gi d 0).row 106).bool],[.t (gi (gi d 0).row 107).bool],[.t (gi (gi d 0).row 108).bool],[.t (gi (gi d 0).row 109).bool],[.t (gi (gi d 0).row 110).bool],[.t (gi (gi d 0).row 111).bool],[.t (gi (gi d 0).row 112).bool],[.t (gi (gi d 0).row 113).bool],[.t (gi (gi d 0).row 114).bool],[.t (gi (gi d 0).row 115).bool],[.t (gi (gi d 0).row 116).bool],[.t (gi (gi d 0).row 117).bool],[.t (gi (gi d 0).row 118).bool],[.t (gi (gi d 0).row 119).bool],[.t (gi (gi d 0).row 120).bool],[.t (gi (gi d 0).row 121).bool],[.t (gi (gi d 0).row 122).bool],[.t (gi (gi d 0).row 123).bool],[.t (gi (gi d 0).row 124).bool],[.t (gi (gi d 0).row 125).bool],[.t (gi (gi d 0).row 126).bool],[.t (gi (gi d 0).row 127).bool],[.t (gi (gi d 0).row 128).bool],[.t (gi (gi d 0).row 129).bool],[.t (gi (gi d 0).row 130).bool],[.t (gi (gi d 0).row 131).bool],[.t (gi (gi d 0).row 132).bool],[.t (gi (gi d 0).row 133).bool],[.t (gi (gi d 0).row 134).bool],[.t (gi (gi d 0).row 135).bool],[.t (gi (gi d 0).row 136).bool],[.t (gi (gi d 0).row 137).bool],[.t (gi (gi d 0).row 138).bool],[.t (gi (gi d 0).row 139).bool],[.t (gi (gi d 0).row 140).bool],[.t (gi (gi d 0).row 141).bool],[.t (gi (gi d 0).row 142).bool],[.t (gi (gi d 0).row 143).bool],[.t (gi (gi d 0).row 144).bool],[.t (gi (gi d 0).row 145).bool],[.t (gi (gi d 0).row 146).bool],[.t (gi (gi d 0).row 147).bool],[.t (gi (gi d 0).row 148).bool],[.t (gi (gi d 0).row 149).bool],[.t (gi (gi d 0).row 150).bool],[.t (gi (gi d 0).row 151).bool],[.t (gi (gi d 0).row 152).bool],[.t (gi (gi d 0).row 153).bool],[.t (gi (gi d 0).row 154).bool],[.t (gi (gi d 0).row 155).bool],[.t (gi (gi d 0).row 156).bool],[.t (gi (gi d 0).row 157).bool],[.t (gi (gi d 0).row 158).bool],[.t (gi (gi d 0).row 159).bool],[.t (gi (gi d 0).row 160).bool],[.t (gi (gi d 0).row 161).bool],[.t (gi (gi d 0).row 162).bool],[.t (gi (gi d 0).row 163).bool],[.t (gi (gi d 0).row 164).bool],[.t (gi (gi d 0).row 165).bool],[.t (gi (gi d 0).row 166).bool],[.t (gi (gi d 0).row 167).bool],[.t (gi (gi d 0).row 168).bool],[.t (gi (gi d 0).row 169).bool],[.t (gi (gi d 0).row 170).bool],[.t (gi (gi d 0).row 171).bool],[.t (gi (gi d 0).row 172).bool],[.t (gi (gi d 0).row 173).bool],[.t (gi (gi d 0).row 174).bool],[.t (gi (gi d 0).row 175).bool],[.t (gi (gi d 0).row 176).bool],[.t (gi (gi d 0).row 177).bool],[.t (gi (gi d 0).row 178).bool],[.t (gi (gi d 0).row 179).bool],[.t (gi (gi d 0).row 180).bool],[.t (gi (gi d 0).row 181).bool],[.t (gi (gi d 0).row 182).bool],[.t (gi (gi d 0).row 183).bool],[.t (gi (gi d 0).row 184).bool],[.t (gi (gi d 0).row 185).bool],[.t (gi (gi d 0).row 186).bool],[.t (gi (gi d 0).row 187).bool],[.t (gi (gi d 0).row 188).bool],[.t (gi (gi d 0).row 189).bool],[.t (gi (gi d 0).row 190).bool],[.t (gi (gi d 0).row 191).bool],[.t (gi (gi d 0).row 192).bool],[.t (gi (gi d 0).row 193).bool],[.t (gi (gi d 0).row 194).bool],[.t (gi (gi d 0).row 195).bool],[.t (gi (gi d 0).row 196).bool],[.t (gi (gi d 0).row 197).bool],[.t (gi (gi d 0).row 198).bool],[.t (gi (gi d 0).row 199).bool],[.t (gi (gi d 0).row 200).bool],[.t (gi (gi d 0).row 201).bool],[.t (gi (gi d 0).row 202).bool],[.t (gi (gi d 0).row 203).bool],[.t (gi (gi d 0).row 204).bool],[.t (gi (gi d 0).row 205).bool],[.t (gi (gi d 0).row 206).bool],[.t (gi (gi d 0).row 207).bool],[.t (gi (gi d 0).row 208).bool],[.t (gi (gi d 0).row 209).bool],[.t (gi (gi d 0).row 210).bool],[.t (gi (gi d 0).row 211).bool],[.t (gi (gi d 0).row 212).bool],[.t (gi (gi d 0).row 213).bool],[.t (gi (gi d 0).row 214).bool],[.t (gi (gi d 0).row 215).bool],[.t (gi (gi d 0).row 216).bool],[.t (gi (gi d 0).row 217).bool],[.t (gi (gi d 0).row 218).bool],[.t (gi (gi d 0).row 219).bool],[.t (gi (gi d 0).row 220).bool],[.t (gi (gi d 0).row 221).bool],[.t (gi (gi d 0).row 222).bool],[.t (gi (gi d 0).row 223).bool],[.t (gi (gi d 0).row 224).bool],[.t (gi (gi d 0).row 225).bool],[.t (gi (gi d 0).row 226).bool],[.t (gi (gi d 0).row 227).bool],[.t (gi (gi d 0).row 228).bool],[.t (gi (gi d 0).row 229).bool],[.t (gi (gi d 0).row 230).bool],[.t (gi (gi d 0).row 231).bool],[.t (gi (gi d 0).row 232).bool],[.t (gi (gi d 0).row 233).bool],[.t (gi (gi d 0).row 234).bool],[.t (gi (gi d 0).row 235).bool],[.t (gi (gi d 0).row 236).bool],[.t (gi (gi d 0).row 237).bool],[.t (gi (gi d 0).row 238).bool],[.t (gi (gi d 0).row 239).bool],[.t (gi (gi d 0).row 240).bool],[.t (gi (gi d 0).row 241).bool],[.t (gi (gi d 0).row 242).bool],[.t (gi (gi d 0).row 243).bool],[.t (gi (gi d 0).row 244).bool],[.t (gi (gi d 0).row 245).bool],[.t (gi (gi d 0).row 246).bool],[.t (gi (gi d 0).row 247).bool],[.t (gi (gi d 0).row 248).bool],[.t (gi (gi d 0).row 249).bool],[.t (gi (gi d 0).row 250).bool],[.t (gi (gi d 0).row 251).bool],[.t (gi (gi d 0).row 252).bool],[.t (gi (gi d 0).row 253).bool],[.t (gi (gi d 0).row 254).bool],[.t (gi (gi d 0).row 255).bool]].getD (((gi d 1).int).toNat) []) 0).bool] else none)
def EV:ax:=⟨117,[.s (.cptr kz),.s (.int .u8)],[],[],[.s (.bool)],[],[],[],z_⟩
theorem ZP:aO P t25 az Tryz.f117 EV:=fun d=>by kernel_rfl
theorem ZQ:aM P EV:=aN hm NN Tryz.func117 (aT _ _ _) ZP
def t26:au:=t25.aS EV
theorem NO:aw P t26:=NN.aP ZQ

def NP(d:List G):Option (List G) :=
 some [.t ((Ca .u8 (gi d 0).int 192) != 128)]
def EW:ax:=⟨153,[.s (.int .u8)],[],[],[.s (.bool)],[],[],[],NP⟩
theorem ZR:aO P t26 az Tryz.f153 EW:=fun d=>by kernel_rfl
theorem ZS:aM P EW:=aN hm NO Tryz.func153 (aT _ _ _) ZR
def t27:au:=t26.aS EW
theorem NQ:aw P t27:=NO.aP ZS

def EX(d:List G):Option (List G) :=
 (bif (ak (((gi d 0).str.size:Nat):Int) 1) then some [.i 65533,.i 0] else (bif (ak 0 (((gi d 0).str.size:Nat):Int)) then none else none))
def EY:ax:=⟨154,[.s (.str)],[],[],[.s (.int .i32),.s (.int .i64)],[],[],[],EX⟩
theorem ZT:aO P t27 az Tryz.f154 EY:=fun d=>by kernel_rfl
theorem ZU:aM P EY:=aN hm NQ Tryz.func154 (aT _ _ _) ZT
def t28:au:=t27.aS EY
theorem NR:aw P t28:=NQ.aP ZU

def EZ(d:List G):Option (List G) :=
 (bif (!((gi d 0).str.toList==(⟨#[]⟩:ByteArray).toList)) then (bif (ak 0 (((gi d 0).str.size:Nat):Int)) then (bif (ak (((gi d 0).str.data.toList.getD 0 0).toNat:Int) 128) then (bif (ak 0 (((gi d 0).str.size:Nat):Int)) then some [.i (IntKind.i32.wrap (((gi d 0).str.data.toList.getD 0 0).toNat:Int)),.i 1] else none) else (aj (EX [.s (gi d 0).str]) fun g1=>some [.i (gi g1 0).int,.i (gi g1 1).int])) else none) else (aj (EX [.s (gi d 0).str]) fun g2=>some [.i (gi g2 0).int,.i (gi g2 1).int]))
def E2:ax:=⟨121,[.s (.str)],[],[],[.s (.int .i32),.s (.int .i64)],[],[],[],EZ⟩
theorem ZV:aO P t28 az Tryz.f121 E2:=fun d=>by kernel_rfl
theorem ZW:aM P E2:=aN hm NR Tryz.func121 (aT _ _ _) ZV
def t29:au:=t28.aS E2
theorem E3:aw P t29:=NR.aP ZW

def NS(d:List G):Option (Option Nat × List G) :=
 (bif (aG (gi d 3).int (gi d 2).int) then (bif ((aI (gi d 2).int)&&(ak (gi d 2).int (((gi d 0).str.size:Nat):Int))) then (aj (NP [.i (((gi d 0).str.data.toList.getD (((gi d 2).int).toNat) 0).toNat:Int)]) fun g1=>(bif (gi g1 0).bool then some (some 0,[.s (gi d 0).str,.i (gi d 1).int,.i (gi d 2).int]) else (bif (ay ((gi d 2).int-1)) then some (none,[.s (gi d 0).str,.i (gi d 1).int,.i ((gi d 2).int-1),.i (gi d 3).int]) else none))) else none) else some (some 0,[.s (gi d 0).str,.i (gi d 1).int,.i (gi d 2).int]))
def NT:bH:=⟨10,[],⟨51,[(0,.s (.str)),(4,.s (.int .i64)),(5,.s (.int .i64)),(6,.s (.int .i64))],[]⟩,[],[⟨.exit 0,⟨51,[(0,.s (.str)),(4,.s (.int .i64)),(5,.s (.int .i64))],[]⟩,[]⟩],NS⟩
theorem ZX:cP P t29 az 0 (cS Tryz.f118 10) NT:=fun d=>by kernel_rfl
def NU:LT:=az.add 0 NT
theorem ZY:aJ P 0 NU (ba Tryz.f118):=aJ.a hm E3 (aT _ _ _) ZX
def wk(d:List G):Option (List G) :=
 (bif ((((gi d 0).str.size:Nat):Int)==0) then some [.i 65533,.i 0] else (bif (ay ((((gi d 0).str.size:Nat):Int)-1)) then (bif ((aI ((((gi d 0).str.size:Nat):Int)-1))&&(ak ((((gi d 0).str.size:Nat):Int)-1) (((gi d 0).str.size:Nat):Int))) then (bif (ak (IntKind.i32.wrap (((gi d 0).str.data.toList.getD (((((gi d 0).str.size:Nat):Int)-1).toNat) 0).toNat:Int)) 128) then some [.i (IntKind.i32.wrap (((gi d 0).str.data.toList.getD (((((gi d 0).str.size:Nat):Int)-1).toNat) 0).toNat:Int)),.i 1] else (bif (ay ((((gi d 0).str.size:Nat):Int)-4)) then (bif (ay (((((gi d 0).str.size:Nat):Int)-1)-1)) then (bh true (cu NS [.s (gi d 0).str,.i (((gi d 0).str.size:Nat):Int),.i (((((gi d 0).str.size:Nat):Int)-1)-1),.i (if 0>((((gi d 0).str.size:Nat):Int)-4) then 0 else ((((gi d 0).str.size:Nat):Int)-4))]) fun g g2=>(bif (ak (gi g2 2).int 0) then (bif ((aG 0 (gi g2 1).int)&&(aG (gi g2 1).int (((gi g2 0).str.size:Nat):Int))) then (aj (EZ [.s ((gi g2 0).str.extract 0 ((gi g2 1).int).toNat)]) fun g3=>(bif (ay (0+(gi g3 1).int)) then (bif ((0+(gi g3 1).int) != (gi g2 1).int) then some [.i 65533,.i 1] else some [.i (gi g3 0).int,.i (gi g3 1).int]) else none)) else none) else (bif ((aI (gi g2 2).int)&&((aG (gi g2 2).int (gi g2 1).int)&&(aG (gi g2 1).int (((gi g2 0).str.size:Nat):Int)))) then (aj (EZ [.s ((gi g2 0).str.extract ((gi g2 2).int).toNat ((gi g2 1).int).toNat)]) fun g4=>(bif (ay ((gi g2 2).int+(gi g4 1).int)) then (bif (((gi g2 2).int+(gi g4 1).int) != (gi g2 1).int) then some [.i 65533,.i 1] else some [.i (gi g4 0).int,.i (gi g4 1).int]) else none)) else none))) else none) else none)) else none) else none))
def E4:ax:=⟨118,[.s (.str)],[],[],[.s (.int .i32),.s (.int .i64)],[],[],[],wk⟩
theorem ZZ:aO P t29 NU Tryz.f118 E4:=fun d=>by kernel_rfl
theorem Z0:aM P E4:=aN hm E3 Tryz.func118 ZY ZZ
def t30:au:=t29.aS E4
theorem wm:aw P t30:=E3.aP Z0

def E5(d:List G):Option (Option Nat × List G) :=
 (bif (aG 0 (gi d 2).int) then (bif ((aI (gi d 2).int)&&(ak (gi d 2).int (((gi d 0).str.size:Nat):Int))) then (aj (z_ [.l [(be kz (gi d 1).row)],.i (((gi d 0).str.data.toList.getD (((gi d 2).int).toNat) 0).toNat:Int)]) fun g5=>(bif (gi g5 0).bool then some (some 0,[.i (gi d 2).int]) else (bif (ay ((gi d 2).int-1)) then some (none,[.s (gi d 0).str,.l [(be kz (gi d 1).row)],.i ((gi d 2).int-1)]) else none))) else none) else some (some 1,[]))
def NV:bH:=⟨14,[],⟨96,[(0,.s (.str)),(6,.s (.cptr kz)),(8,.s (.int .i64))],[]⟩,[],[⟨.ret,⟨96,[(4,.s (.int .i64))],[]⟩,[]⟩,⟨.exit 0,⟨96,[],[]⟩,[]⟩],E5⟩
theorem Z1:cP P t30 az 0 (cS Tryz.f84 14) NV:=fun d=>by kernel_rfl
def E6:LT:=az.add 0 NV
theorem Z2:aJ P 0 E6 (ba Tryz.f84):=aJ.a hm wm (aT _ _ _) Z1
def wo(d:List G):Option (Option Nat × List G) :=
 (bif (ak 0 (gi d 2).int) then (bif ((aI (gi d 2).int)&&(aG (gi d 2).int (((gi d 0).str.size:Nat):Int))) then (aj (wk [.s ((gi d 0).str.extract 0 ((gi d 2).int).toNat)]) fun g7=>(bif (ay ((gi d 2).int-(gi g7 1).int)) then (bif ((gi d 1).int==(gi g7 0).int) then some (some 0,[.i ((gi d 2).int-(gi g7 1).int)]) else some (none,[.s (gi d 0).str,.i (gi d 1).int,.i ((gi d 2).int-(gi g7 1).int)])) else none)) else none) else some (some 1,[]))
def NW:bH:=⟨24,[],⟨96,[(0,.s (.str)),(9,.s (.int .i32)),(10,.s (.int .i64))],[]⟩,[],[⟨.ret,⟨96,[(4,.s (.int .i64))],[]⟩,[]⟩,⟨.exit 2,⟨96,[],[]⟩,[]⟩],wo⟩
theorem Z3:cP P t30 E6 0 (cS Tryz.f84 24) NW:=fun d=>by kernel_rfl
def E7:LT:=E6.add 0 NW
theorem Z4:aJ P 0 E7 (ba Tryz.f84):=aJ.a hm wm Z2 Z3
def wq(d:List G):Option (Option Nat × List G) :=
 (bif (ak 0 (gi d 2).int) then (bif ((aI (gi d 2).int)&&(aG (gi d 2).int (((gi d 0).str.size:Nat):Int))) then (aj (wk [.s ((gi d 0).str.extract 0 ((gi d 2).int).toNat)]) fun g10=>(bif (ay ((gi d 2).int-(gi g10 1).int)) then (aj (qn [.s (gi d 1).str,.i (gi g10 0).int]) fun g11=>(bif (aG 0 (gi g11 0).int) then some (some 0,[.i ((gi d 2).int-(gi g10 1).int)]) else some (none,[.s (gi d 0).str,.s (gi d 1).str,.i ((gi d 2).int-(gi g10 1).int)]))) else none)) else none) else some (some 1,[]))
def NX:bH:=⟨31,[],⟨96,[(0,.s (.str)),(1,.s (.str)),(13,.s (.int .i64))],[]⟩,[],[⟨.ret,⟨96,[(4,.s (.int .i64))],[]⟩,[]⟩,⟨.exit 4,⟨96,[],[]⟩,[]⟩],wq⟩
theorem Z5:cP P t30 E7 0 (cS Tryz.f84 31) NX:=fun d=>by kernel_rfl
def NY:LT:=E7.add 0 NX
theorem Z6:aJ P 0 NY (ba Tryz.f84):=aJ.a hm wm Z4 Z5
def lu(d:List G):Option (List G) :=
 (bif ((gi d 1).str.toList==(⟨#[]⟩:ByteArray).toList) then some [.i (-1)] else (bif ((((gi d 0).str.size:Nat):Int)==1) then (bif (ak 0 (((gi d 0).str.size:Nat):Int)) then (bif (aG 128 (IntKind.i32.wrap (((gi d 0).str.data.toList.getD 0 0).toNat:Int))) then (aj (qn [.s (gi d 1).str,.i 65533]) fun g1=>(bif (aG 0 (gi g1 0).int) then some [.i 0] else some [.i (-1)])) else (aj (qn [.s (gi d 1).str,.i (IntKind.i32.wrap (((gi d 0).str.data.toList.getD 0 0).toNat:Int))]) fun g2=>(bif (aG 0 (gi g2 0).int) then some [.i 0] else some [.i (-1)]))) else none) else (aj (ET [.i (((gi d 0).str.size:Nat):Int)]) fun g3=>(bif (gi g3 0).bool then (aj (wg [.s (gi d 1).str]) fun g4=>(bif (gi g4 1).bool then (bif (ay ((((gi d 0).str.size:Nat):Int)-1)) then (bh true (cu E5 [.s (gi d 0).str,.l [(be kz (gi g4 0).row)],.i ((((gi d 0).str.size:Nat):Int)-1)]) fun t g6=>(bif af t 0 then some [.i (gi g6 0).int] else some [.i (-1)])) else none) else (bif ((((gi d 1).str.size:Nat):Int)==1) then (bif (ak 0 (((gi d 1).str.size:Nat):Int)) then (bif (aG 128 (IntKind.i32.wrap (((gi d 1).str.data.toList.getD 0 0).toNat:Int))) then (bh true (cu wo [.s (gi d 0).str,.i 65533,.i (((gi d 0).str.size:Nat):Int)]) fun u g8=>(bif af u 0 then some [.i (gi g8 0).int] else some [.i (-1)])) else (bh true (cu wo [.s (gi d 0).str,.i (IntKind.i32.wrap (((gi d 1).str.data.toList.getD 0 0).toNat:Int)),.i (((gi d 0).str.size:Nat):Int)]) fun v g9=>(bif af v 0 then some [.i (gi g9 0).int] else some [.i (-1)]))) else none) else (bh true (cu wq [.s (gi d 0).str,.s (gi d 1).str,.i (((gi d 0).str.size:Nat):Int)]) fun g g12=>(bif af g 0 then some [.i (gi g12 0).int] else some [.i (-1)]))))) else (bif ((((gi d 1).str.size:Nat):Int)==1) then (bif (ak 0 (((gi d 1).str.size:Nat):Int)) then (bif (aG 128 (IntKind.i32.wrap (((gi d 1).str.data.toList.getD 0 0).toNat:Int))) then (bh true (cu wo [.s (gi d 0).str,.i 65533,.i (((gi d 0).str.size:Nat):Int)]) fun h g13=>(bif af h 0 then some [.i (gi g13 0).int] else some [.i (-1)])) else (bh true (cu wo [.s (gi d 0).str,.i (IntKind.i32.wrap (((gi d 1).str.data.toList.getD 0 0).toNat:Int)),.i (((gi d 0).str.size:Nat):Int)]) fun k g14=>(bif af k 0 then some [.i (gi g14 0).int] else some [.i (-1)]))) else none) else (bh true (cu wq [.s (gi d 0).str,.s (gi d 1).str,.i (((gi d 0).str.size:Nat):Int)]) fun q g15=>(bif af q 0 then some [.i (gi g15 0).int] else some [.i (-1)])))))))
def E8:ax:=⟨84,[.s (.str),.s (.str)],[],[],[.s (.int .i64)],[],[],[],lu⟩
theorem Z7:aO P t30 NY Tryz.f84 E8:=fun d=>by kernel_rfl
theorem Z8:aM P E8:=aN hm wm Tryz.func84 Z6 Z7
def t31:au:=t30.aS E8
theorem NZ:aw P t31:=wm.aP Z8

def Ah(d:List G):Option (List G) :=
 (aj (sT [.s (gi d 0).str]) fun g1=>(bif (!(gi g1 1).bool) then some [.i 0,.t false] else (bif (ak 10 (((gi d 0).str.size:Nat):Int)) then some [.i 0,.t false] else (aj (lu [.s (gi d 0).str,.s (⟨#[48,49,50,51,52,53,54,55,56,57]⟩:ByteArray)]) fun g2=>(bif (ak (gi g2 0).int 1) then some [.i 0,.t false] else (bif (ak 3 (gi g2 0).int) then some [.i 0,.t false] else (bif (ay ((((gi d 0).str.size:Nat):Int)-(gi g2 0).int)) then (bif (ay (((((gi d 0).str.size:Nat):Int)-(gi g2 0).int)-1)) then (bif (ak (((((gi d 0).str.size:Nat):Int)-(gi g2 0).int)-1) 1) then some [.i 0,.t false] else (bif (ay ((((gi d 0).str.size:Nat):Int)-(gi g2 0).int)) then (bif (ay (((((gi d 0).str.size:Nat):Int)-(gi g2 0).int)-1)) then (bif (ak 4 (((((gi d 0).str.size:Nat):Int)-(gi g2 0).int)-1)) then some [.i 0,.t false] else (bif ((aI (gi g2 0).int)&&(aG (gi g2 0).int (((gi d 0).str.size:Nat):Int))) then (aj (sT [.s ((gi d 0).str.extract 0 ((gi g2 0).int).toNat)]) fun g3=>some [.i (gi g2 0).int,.t (ak 0 (gi g3 0).int)]) else none)) else none) else none)) else none) else none)))))))
def E9:ax:=⟨147,[.s (.str)],[],[],[.s (.int .i64),.s (.bool)],[],[],[],Ah⟩
theorem Z9:aO P t31 az Tryz.f147 E9:=fun d=>by kernel_rfl
theorem Z_:aM P E9:=aN hm NZ Tryz.func147 (aT _ _ _) Z9
def t32:au:=t31.aS E9
theorem N0:aw P t32:=NZ.aP Z_

def oM(d:List G):Option (List G) :=
 (aj (Ah [.s (gi d 0).str]) fun g1=>(bif (!(gi g1 1).bool) then some [.l [[.s (⟨#[]⟩:ByteArray),.s (⟨#[]⟩:ByteArray),.s (⟨#[]⟩:ByteArray),.i 0,.s (⟨#[]⟩:ByteArray)]],.t false] else (bif (ay ((gi g1 0).int+1)) then (bif ((aI ((gi g1 0).int+1))&&(aG ((gi g1 0).int+1) (((gi d 0).str.size:Nat):Int))) then (bif (ay ((gi g1 0).int+1)) then (bif ((aI ((gi g1 0).int+1))&&(aG ((gi g1 0).int+1) (((gi d 0).str.size:Nat):Int))) then some [.l [[.s (gi d 0).str,.s ((gi d 0).str.extract 0 ((gi g1 0).int+1).toNat),.s ((gi d 0).str.extract ((gi g1 0).int+1).toNat (gi d 0).str.size),.i 0,.s (⟨#[]⟩:ByteArray)]],.t true] else none) else none) else none) else none)))
def E_:ax:=⟨106,[.s (.str)],[],[],[.s (.row sN),.s (.bool)],[],[],[],oM⟩
theorem Z':aO P t32 az Tryz.f106 E_:=fun d=>by kernel_rfl
theorem aaa:aM P E_:=aN hm N0 Tryz.func106 (aT _ _ _) Z'
def t33:au:=t32.aS E_
theorem aab:aw P t33:=N0.aP aaa

def qo(d:List G):Option (List G) :=
 zI d
def wu:ax:=⟨95,[.s (.str),.s (.str)],[],[],[.s (.int .i64)],[],[],[],qo⟩
theorem aac:∀ d r,qo d=some r→cq P 95 (wu.args0 d) (ai (wu.H0 d)) (wu.out r) (ai (wu.H1 r)):=fun d r h=>XU Tryz.YA d r h
def t34:au:=t33.aS wu
theorem N1:aw P t34:=aab.aP aac

def wv(d:List G):Option (List G) :=
 (aj (qo [.s (gi d 0).str,.s (gi d 1).str]) fun g1=>(bif (aG 0 (gi g1 0).int) then (bif ((aI (gi g1 0).int)&&(aG (gi g1 0).int (((gi d 0).str.size:Nat):Int))) then (bif (ay ((gi g1 0).int+(((gi d 1).str.size:Nat):Int))) then (bif ((aI ((gi g1 0).int+(((gi d 1).str.size:Nat):Int)))&&(aG ((gi g1 0).int+(((gi d 1).str.size:Nat):Int)) (((gi d 0).str.size:Nat):Int))) then some [.s ((gi d 0).str.extract 0 ((gi g1 0).int).toNat),.s ((gi d 0).str.extract ((gi g1 0).int+(((gi d 1).str.size:Nat):Int)).toNat (gi d 0).str.size),.t true] else none) else none) else none) else some [.s (gi d 0).str,.s (⟨#[]⟩:ByteArray),.t false]))
def Fa:ax:=⟨70,[.s (.str),.s (.str)],[],[],[.s (.str),.s (.str),.s (.bool)],[],[],[],wv⟩
theorem aad:aO P t34 az Tryz.f70 Fa:=fun d=>by kernel_rfl
theorem aae:aM P Fa:=aN hm N1 Tryz.func70 (aT _ _ _) aad
def t35:au:=t34.aS Fa
theorem N2:aw P t35:=N1.aP aae

def lv(d:List G):Option (List G) :=
 (aj (wv [.s (gi d 0).str,.s (gi d 1).str]) fun g1=>some [.s (gi g1 0).str,.s (gi g1 1).str,.t (gi g1 2).bool])
def Fb:ax:=⟨54,[.s (.str),.s (.str)],[],[],[.s (.str),.s (.str),.s (.bool)],[],[],[],lv⟩
theorem aaf:aO P t35 az Tryz.f54 Fb:=fun d=>by kernel_rfl
theorem aag:aM P Fb:=aN hm N2 Tryz.func54 (aT _ _ _) aaf
def t36:au:=t35.aS Fb
theorem N3:aw P t36:=N2.aP aag

def sU(d:List G):Option (List G) :=
 (aj (sT [.s (gi d 0).str]) fun g1=>(bif (gi g1 1).bool then (bif (ak 0 (gi g1 0).int) then some [.t (aG (((gi d 0).str.size:Nat):Int) 4)] else some [.t false]) else some [.t false]))
def Fc:ax:=⟨107,[.s (.str)],[],[],[.s (.bool)],[],[],[],sU⟩
theorem aah:aO P t36 az Tryz.f107 Fc:=fun d=>by kernel_rfl
theorem aai:aM P Fc:=aN hm N3 Tryz.func107 (aT _ _ _) aah
def t37:au:=t36.aS Fc
theorem N4:aw P t37:=N3.aP aai

def sV(d:List G):Option (List G) :=
 (bif ((gi d 0).str.toList==(⟨#[112]⟩:ByteArray).toList) then some [.i 3,.s (⟨#[]⟩:ByteArray),.t true] else (bif ((gi d 0).str.toList==(⟨#[109]⟩:ByteArray).toList) then some [.i 4,.s (⟨#[]⟩:ByteArray),.t true] else (bif ((gi d 0).str.toList==(⟨#[109,109]⟩:ByteArray).toList) then some [.i 5,.s (⟨#[]⟩:ByteArray),.t true] else (bif ((gi d 0).str.toList==(⟨#[97,109]⟩:ByteArray).toList) then some [.i 6,.s (⟨#[]⟩:ByteArray),.t true] else (bif ((((gi d 0).str.size:Nat):Int)==1) then (bif (ak 0 (((gi d 0).str.size:Nat):Int)) then (aj (wb [.i (((gi d 0).str.data.toList.getD 0 0).toNat:Int)]) fun g1=>(bif (gi g1 0).bool then some [.i 2,.s (gi d 0).str,.t true] else (aj (sU [.s (gi d 0).str]) fun g2=>some [.i 1,.s (gi d 0).str,.t (gi g2 0).bool]))) else none) else (aj (sU [.s (gi d 0).str]) fun g3=>some [.i 1,.s (gi d 0).str,.t (gi g3 0).bool]))))))
def Fe:ax:=⟨108,[.s (.str)],[],[],[.s (.int .i64),.s (.str),.s (.bool)],[],[],[],sV⟩
theorem aaj:aO P t37 az Tryz.f108 Fe:=fun d=>by kernel_rfl
theorem aak:aM P Fe:=aN hm N4 Tryz.func108 (aT _ _ _) aaj
def t38:au:=t37.aS Fe
theorem N5:aw P t38:=N4.aP aak

def Ff(d:List G):Option (List G) :=
 (bif (ak 14 (((gi d 0).str.size:Nat):Int)) then some [.l [[.s (⟨#[]⟩:ByteArray),.s (⟨#[]⟩:ByteArray),.s (⟨#[]⟩:ByteArray),.i 0,.s (⟨#[]⟩:ByteArray)]],.t false] else (aj (oM [.s (gi d 0).str]) fun g1=>(bif (gi g1 1).bool then some [.l [(be sN (gi g1 0).row)],.t true] else (aj (lv [.s (gi d 0).str,.s (⟨#[47]⟩:ByteArray)]) fun g2=>(bif (!(gi g2 2).bool) then some [.l [[.s (⟨#[]⟩:ByteArray),.s (⟨#[]⟩:ByteArray),.s (⟨#[]⟩:ByteArray),.i 0,.s (⟨#[]⟩:ByteArray)]],.t false] else (aj (oM [.s (gi g2 1).str]) fun g3=>(bif (gi g3 1).bool then (aj (sU [.s (gi g2 0).str]) fun g4=>(bif (gi g4 0).bool then some [.l [[.s (gi (gi g3 0).row 0).str,.s (gi (gi g3 0).row 1).str,.s (gi (gi g3 0).row 2).str,.i 1,.s (gi g2 0).str]],.t true] else (aj (oM [.s (gi g2 0).str]) fun g5=>(aj (sV [.s (gi g2 1).str]) fun g6=>(bif (!(gi g5 1).bool) then some [.l [[.s (⟨#[]⟩:ByteArray),.s (⟨#[]⟩:ByteArray),.s (⟨#[]⟩:ByteArray),.i 0,.s (⟨#[]⟩:ByteArray)]],.t false] else (bif (!(gi g6 2).bool) then some [.l [[.s (⟨#[]⟩:ByteArray),.s (⟨#[]⟩:ByteArray),.s (⟨#[]⟩:ByteArray),.i 0,.s (⟨#[]⟩:ByteArray)]],.t false] else some [.l [[.s (gi (gi g5 0).row 0).str,.s (gi (gi g5 0).row 1).str,.s (gi (gi g5 0).row 2).str,.i (gi g6 0).int,.s (gi g6 1).str]],.t true])))))) else (aj (oM [.s (gi g2 0).str]) fun g7=>(aj (sV [.s (gi g2 1).str]) fun g8=>(bif (!(gi g7 1).bool) then some [.l [[.s (⟨#[]⟩:ByteArray),.s (⟨#[]⟩:ByteArray),.s (⟨#[]⟩:ByteArray),.i 0,.s (⟨#[]⟩:ByteArray)]],.t false] else (bif (!(gi g8 2).bool) then some [.l [[.s (⟨#[]⟩:ByteArray),.s (⟨#[]⟩:ByteArray),.s (⟨#[]⟩:ByteArray),.i 0,.s (⟨#[]⟩:ByteArray)]],.t false] else some [.l [[.s (gi (gi g7 0).row 0).str,.s (gi (gi g7 0).row 1).str,.s (gi (gi g7 0).row 2).str,.i (gi g8 0).int,.s (gi g8 1).str]],.t true])))))))))))
def Fg:ax:=⟨79,[.s (.str)],[],[],[.s (.row sN),.s (.bool)],[],[],[],Ff⟩
theorem aal:aO P t38 az Tryz.f79 Fg:=fun d=>by kernel_rfl
theorem aam:aM P Fg:=aN hm N5 Tryz.func79 (aT _ _ _) aal
def t39:au:=t38.aS Fg
theorem N6:aw P t39:=N5.aP aam

def qp(d:List G):Option (List G) :=
 (aj (Ff [.s (gi d 0).str]) fun g1=>some [.t (gi g1 1).bool])
def Fh:ax:=⟨59,[.s (.str)],[],[],[.s (.bool)],[],[],[],qp⟩
theorem aan:aO P t39 az Tryz.f59 Fh:=fun d=>by kernel_rfl
theorem aao:aM P Fh:=aN hm N6 Tryz.func59 (aT _ _ _) aan
def t40:au:=t39.aS Fh
theorem Fi:aw P t40:=N6.aP aao

def qt(d:List G):Option (Option Nat × List G) :=
 (aj (jV [.i (gi d 0).int,.i 0,.i 1999]) fun g1=>(bif (gi g1 0).bool then some (some 0,[.i 1]) else (aj (jV [.i (gi d 1).int,.i 1,.i 6]) fun g2=>(bif (gi g2 0).bool then some (some 0,[.i 4]) else (bif (!((gi d 2).str.toList==(⟨#[]⟩:ByteArray).toList)) then (aj (qp [.s (gi d 2).str]) fun g3=>(bif (!(gi g3 0).bool) then some (some 0,[.i 3]) else (aj (jV [.i (gi d 3).int,.i (-1),.i 1999]) fun g4=>(bif (gi g4 0).bool then some (some 0,[.i 1]) else (bif (!(((gi d 2).str.toList==(⟨#[]⟩:ByteArray).toList)==((gi d 3).int==(-1)))) then some (some 0,[.i 3]) else (bif (((gi d 2).str.toList==(⟨#[]⟩:ByteArray).toList)==(gi d 6).bool) then some (some 0,[.i 3]) else (bif (ak 0 (gi d 5).int) then (bif (ay ((gi d 5).int-1)) then (bif ((aI ((gi d 5).int-1))&&(ak ((gi d 5).int-1) (((gi d 4).rows.length:Nat):Int))) then (bif (aG (gi d 0).int (gi ((gi d 4).rows.getD (((gi d 5).int-1).toNat) []) 0).int) then some (some 0,[.i 7]) else some (some 0,[.i 0])) else none) else none) else some (some 0,[.i 0])))))))) else (aj (jV [.i (gi d 3).int,.i (-1),.i 1999]) fun g5=>(bif (gi g5 0).bool then some (some 0,[.i 1]) else (bif (!(((gi d 2).str.toList==(⟨#[]⟩:ByteArray).toList)==((gi d 3).int==(-1)))) then some (some 0,[.i 3]) else (bif (((gi d 2).str.toList==(⟨#[]⟩:ByteArray).toList)==(gi d 6).bool) then some (some 0,[.i 3]) else (bif (ak 0 (gi d 5).int) then (bif (ay ((gi d 5).int-1)) then (bif ((aI ((gi d 5).int-1))&&(ak ((gi d 5).int-1) (((gi d 4).rows.length:Nat):Int))) then (bif (aG (gi d 0).int (gi ((gi d 4).rows.getD (((gi d 5).int-1).toNat) []) 0).int) then some (some 0,[.i 7]) else some (some 0,[.i 0])) else none) else none) else some (some 0,[.i 0])))))))))))
def N7:bH:=⟨3,[],⟨75,[(0,.s (.list aQ)),(1,.s (.int .i64)),(5,.s (.ptr 0 0)),(6,.s (.bool))],[.box [.int .i64,.int .i64,.str,.int .i64]]⟩,[.slot 5],[⟨.ret,⟨75,[(4,.s (.int .i64))],[]⟩,[]⟩],qt⟩
theorem aap:iQ P t40 az 0 (cutAt Tryz.f44 3) N7:=fun d=>by kernel_rfl
def N8:LT:=az.gQ 0 N7
theorem aaq:aJ P 0 N8 (ba Tryz.f44):=aJ.aC hm Fi (aT _ _ _) aap
def Ai(d:List G):Option (List G) :=
 (bif ((aI (gi d 1).int)&&(ak (gi d 1).int (((gi d 0).rows.length:Nat):Int))) then (bif ((gi ((gi d 0).rows.getD (((gi d 1).int).toNat) []) 1).int==1) then (bh true (dD (qt [.i (gi ((gi d 0).rows.getD (((gi d 1).int).toNat) []) 0).int,.i (gi ((gi d 0).rows.getD (((gi d 1).int).toNat) []) 1).int,.s (gi ((gi d 0).rows.getD (((gi d 1).int).toNat) []) 2).str,.i (gi ((gi d 0).rows.getD (((gi d 1).int).toNat) []) 3).int,.l (gi d 0).rows,.i (gi d 1).int,.t true])) fun g g6=>some [.i (gi g6 0).int]) else (bif ((gi ((gi d 0).rows.getD (((gi d 1).int).toNat) []) 1).int==2) then (bh true (dD (qt [.i (gi ((gi d 0).rows.getD (((gi d 1).int).toNat) []) 0).int,.i (gi ((gi d 0).rows.getD (((gi d 1).int).toNat) []) 1).int,.s (gi ((gi d 0).rows.getD (((gi d 1).int).toNat) []) 2).str,.i (gi ((gi d 0).rows.getD (((gi d 1).int).toNat) []) 3).int,.l (gi d 0).rows,.i (gi d 1).int,.t true])) fun h g7=>some [.i (gi g7 0).int]) else (bh true (dD (qt [.i (gi ((gi d 0).rows.getD (((gi d 1).int).toNat) []) 0).int,.i (gi ((gi d 0).rows.getD (((gi d 1).int).toNat) []) 1).int,.s (gi ((gi d 0).rows.getD (((gi d 1).int).toNat) []) 2).str,.i (gi ((gi d 0).rows.getD (((gi d 1).int).toNat) []) 3).int,.l (gi d 0).rows,.i (gi d 1).int,.t ((gi ((gi d 0).rows.getD (((gi d 1).int).toNat) []) 1).int==3)])) fun k g8=>some [.i (gi g8 0).int]))) else none)
def Fj:ax:=⟨44,[.s (.list aQ),.s (.int .i64)],[],[],[.s (.int .i64)],[],[],[],Ai⟩
theorem aar:aO P t40 N8 Tryz.f44 Fj:=fun d=>by kernel_rfl
theorem aas:aM P Fj:=aN hm Fi Tryz.func44 aaq aar
def t41:au:=t40.aS Fj
theorem Fk:aw P t41:=Fi.aP aas

def Aj(d:List G):Option (Option Nat × List G) :=
 (bif (ak (gi d 2).int (gi d 1).int) then (aj (Ai [.l (gi d 0).rows,.i (gi d 2).int]) fun g1=>(bif ((gi g1 0).int != 0) then some (some 0,[.i (gi g1 0).int]) else (bif (ay ((gi d 2).int+1)) then some (none,[.l (gi d 0).rows,.i (gi d 1).int,.i ((gi d 2).int+1)]) else none))) else some (some 1,[]))
def N9:bH:=⟨4,[],⟨20,[(0,.s (.list aQ)),(9,.s (.int .i64)),(10,.s (.int .i64))],[]⟩,[],[⟨.ret,⟨20,[(2,.s (.int .i64))],[]⟩,[]⟩,⟨.exit 0,⟨20,[],[]⟩,[]⟩],Aj⟩
theorem aat:cP P t41 az 0 (cS Tryz.f21 4) N9:=fun d=>by kernel_rfl
def N_:LT:=az.add 0 N9
theorem aau:aJ P 0 N_ (ba Tryz.f21):=aJ.a hm Fk (aT _ _ _) aat
def l7(d:List G):Option (List G) :=
 (bif (ak 2000 (((gi d 0).rows.length:Nat):Int)) then some [.i 2] else (bh true (cu Aj [.l (gi d 0).rows,.i (((gi d 0).rows.length:Nat):Int),.i 0]) fun g g2=>(bif af g 0 then some [.i (gi g2 0).int] else some [.i 0])))
def Fl:ax:=⟨21,[.s (.list aQ)],[],[],[.s (.int .i64)],[],[],[],l7⟩
theorem aav:aO P t41 N_ Tryz.f21 Fl:=fun d=>by kernel_rfl
theorem aaw:aM P Fl:=aN hm Fk Tryz.func21 aau aav
def t42:au:=t41.aS Fl
theorem N':aw P t42:=Fk.aP aaw

def Ak(d:List G):Option (List G) :=
 some [.l [[.s (⟨#[]⟩:ByteArray)],[.s (⟨#[103,111,111,100]⟩:ByteArray)],[.s (⟨#[99,97,108,108]⟩:ByteArray)],[.s (⟨#[104,101,97,114,100]⟩:ByteArray)],[.s (⟨#[109,105,115,115,105,110,103]⟩:ByteArray)],[.s (⟨#[117,110,107,110,111,119,110]⟩:ByteArray)],[.s (⟨#[116,119,105,99,101]⟩:ByteArray)]]]
def Fm:ax:=⟨25,[],[],[],[.s (.list [.str])],[],[],[],Ak⟩
theorem aax:aO P t42 az Tryz.f25 Fm:=fun d=>by kernel_rfl
theorem aay:aM P Fm:=aN hm N' Tryz.func25 (aT _ _ _) aax
def t43:au:=t42.aS Fm
theorem Oa:aw P t43:=N'.aP aay

def Al(d:List G):Option (List G) :=
 (bif ((gi d 0).str.toList==(⟨#[]⟩:ByteArray).toList) then some [.s (⟨#[45]⟩:ByteArray)] else some [.s (gi d 0).str])
def Fo:ax:=⟨26,[.s (.str)],[],[],[.s (.str)],[],[],[],Al⟩
theorem aaz:aO P t43 az Tryz.f26 Fo:=fun d=>by kernel_rfl
theorem aaA:aM P Fo:=aN hm Oa Tryz.func26 (aT _ _ _) aaz
def t44:au:=t43.aS Fo
theorem Ob:aw P t44:=Oa.aP aaA

def oN(d:List G):Option (List G) :=
 (bif (aG (gi d 1).int (gi d 0).int) then some [.t (aG (gi d 0).int (gi d 2).int)] else some [.t false])
def Fp:ax:=⟨29,[.s (.int .i64),.s (.int .i64),.s (.int .i64)],[],[],[.s (.bool)],[],[],[],oN⟩
theorem aaB:aO P t44 az Tryz.f29 Fp:=fun d=>by kernel_rfl
theorem aaC:aM P Fp:=aN hm Ob Tryz.func29 (aT _ _ _) aaB
def t45:au:=t44.aS Fp
theorem Oc:aw P t45:=Ob.aP aaC

def sW(d:List G):Option (List G) :=
 (bif (aG (gi d 1).int (gi d 0).int) then some [.t (aG (gi d 0).int (gi d 2).int)] else some [.t false])
def Fq:ax:=⟨86,[.s (.int .i64),.s (.int .i64),.s (.int .i64)],[],[],[.s (.bool)],[],[],[],sW⟩
theorem aaD:aO P t45 az Tryz.f86 Fq:=fun d=>by kernel_rfl
theorem aaE:aM P Fq:=aN hm Oc Tryz.func86 (aT _ _ _) aaD
def t46:au:=t45.aS Fq
theorem aaF:aw P t46:=Oc.aP aaE

def sX(d:List G):Option (List G) :=
 zJ d
def wx:ax:=⟨65,[.s (.str),.s (.str)],[],[],[.s (.bool)],[],[],[],sX⟩
theorem aaG:∀ d r,sX d=some r→cq P 65 (wx.args0 d) (ai (wx.H0 d)) (wx.out r) (ai (wx.H1 r)):=fun d r h=>XV Tryz.YC d r h
def t47:au:=t46.aS wx
theorem Od:aw P t47:=aaF.aP aaG

def Am(d:List G):Option (List G) :=
 (bif (aG (((gi d 1).str.size:Nat):Int) (((gi d 0).str.size:Nat):Int)) then (bif (ay ((((gi d 0).str.size:Nat):Int)-(((gi d 1).str.size:Nat):Int))) then (bif ((aI ((((gi d 0).str.size:Nat):Int)-(((gi d 1).str.size:Nat):Int)))&&(aG ((((gi d 0).str.size:Nat):Int)-(((gi d 1).str.size:Nat):Int)) (((gi d 0).str.size:Nat):Int))) then some [.t (((gi d 0).str.extract ((((gi d 0).str.size:Nat):Int)-(((gi d 1).str.size:Nat):Int)).toNat (gi d 0).str.size).toList==(gi d 1).str.toList)] else none) else none) else some [.t false])
def Fs:ax:=⟨90,[.s (.str),.s (.str)],[],[],[.s (.bool)],[],[],[],Am⟩
theorem aaH:aO P t47 az Tryz.f90 Fs:=fun d=>by kernel_rfl
theorem aaI:aM P Fs:=aN hm Od Tryz.func90 (aT _ _ _) aaH
def t48:au:=t47.aS Fs
theorem Oe:aw P t48:=Od.aP aaI

def Ft(d:List G):Option (List G) :=
 (aj (Am [.s (gi d 0).str,.s (gi d 1).str]) fun g1=>(bif (!(gi g1 0).bool) then some [.s (gi d 0).str,.t false] else (bif (ay ((((gi d 0).str.size:Nat):Int)-(((gi d 1).str.size:Nat):Int))) then (bif ((aI ((((gi d 0).str.size:Nat):Int)-(((gi d 1).str.size:Nat):Int)))&&(aG ((((gi d 0).str.size:Nat):Int)-(((gi d 1).str.size:Nat):Int)) (((gi d 0).str.size:Nat):Int))) then some [.s ((gi d 0).str.extract 0 ((((gi d 0).str.size:Nat):Int)-(((gi d 1).str.size:Nat):Int)).toNat),.t true] else none) else none)))
def Fu:ax:=⟨67,[.s (.str),.s (.str)],[],[],[.s (.str),.s (.bool)],[],[],[],Ft⟩
theorem aaJ:aO P t48 az Tryz.f67 Fu:=fun d=>by kernel_rfl
theorem aaK:aM P Fu:=aN hm Oe Tryz.func67 (aT _ _ _) aaJ
def t49:au:=t48.aS Fu
theorem Of:aw P t49:=Oe.aP aaK

def An(d:List G):Option (List G) :=
 (aj (Ft [.s (gi d 0).str,.s (gi d 1).str]) fun g1=>some [.s (gi g1 0).str,.t (gi g1 1).bool])
def Fv:ax:=⟨49,[.s (.str),.s (.str)],[],[],[.s (.str),.s (.bool)],[],[],[],An⟩
theorem aaL:aO P t49 az Tryz.f49 Fv:=fun d=>by kernel_rfl
theorem aaM:aM P Fv:=aN hm Of Tryz.func49 (aT _ _ _) aaL
def t50:au:=t49.aS Fv
theorem aaN:aw P t50:=Of.aP aaM

def wy(d:List G):Option (List G) :=
 zG d
def wz:ax:=⟨68,[.s (.str),.s (.str),.s (.int .i64),.s (.int .i64)],[],[],[.s (.list [.str])],[],[],[],wy⟩
theorem aaO:∀ d r,wy d=some r→cq P 68 (wz.args0 d) (ai (wz.H0 d)) (wz.out r) (ai (wz.H1 r)):=fun d r h=>XR Tryz.YE (by kernel_rfl) d r h
def t51:au:=t50.aS wz
theorem Og:aw P t51:=aaN.aP aaO

def l8(d:List G):Option (List G) :=
 (aj (wy [.s (gi d 0).str,.s (gi d 1).str,.i 0,.i (-1)]) fun g1=>some [.l (gi g1 0).rows])
def Fw:ax:=⟨50,[.s (.str),.s (.str)],[],[],[.s (.list [.str])],[],[],[],l8⟩
theorem aaP:aO P t51 az Tryz.f50 Fw:=fun d=>by kernel_rfl
theorem aaQ:aM P Fw:=aN hm Og Tryz.func50 (aT _ _ _) aaP
def t52:au:=t51.aS Fw
theorem Oh:aw P t52:=Og.aP aaQ

def Ao(d:List G):Option (List G) :=
 (bif ((gi d 0).str.toList==(⟨#[]⟩:ByteArray).toList) then some [.l [],.t true] else (aj (An [.s (gi d 0).str,.s (⟨#[10]⟩:ByteArray)]) fun g1=>(aj (l8 [.s (gi g1 0).str,.s (⟨#[10]⟩:ByteArray)]) fun g2=>some [.l (gi g2 0).rows,.t (gi g1 1).bool])))
def Fx:ax:=⟨34,[.s (.str)],[],[],[.s (.list [.str]),.s (.bool)],[],[],[],Ao⟩
theorem aaR:aO P t52 az Tryz.f34 Fx:=fun d=>by kernel_rfl
theorem aaS:aM P Fx:=aN hm Oh Tryz.func34 (aT _ _ _) aaR
def t53:au:=t52.aS Fx
theorem Fy:aw P t53:=Oh.aP aaS

def wA(d:List G):Option (Option Nat × List G) :=
 (bif (ak (gi d 3).int (gi d 2).int) then (bif ((aI (gi d 3).int)&&(ak (gi d 3).int (((gi d 1).rows.length:Nat):Int))) then (bif ((gi ((gi d 1).rows.getD (((gi d 3).int).toNat) []) 0).str.toList==(⟨#[]⟩:ByteArray).toList) then some (some 0,[.l [],.t false]) else (bif (ay ((gi d 3).int+1)) then some (none,[.l (gi d 0).rows,.l (gi d 1).rows,.i (gi d 2).int,.i ((gi d 3).int+1)]) else none)) else none) else some (some 1,[.l (gi d 0).rows]))
def Oi:bH:=⟨3,[],⟨19,[(4,.s (.list [.str])),(9,.s (.list [.str])),(10,.s (.int .i64)),(11,.s (.int .i64))],[]⟩,[],[⟨.ret,⟨19,[(2,.s (.list [.str])),(3,.s (.bool))],[]⟩,[]⟩,⟨.exit 0,⟨19,[(4,.s (.list [.str]))],[]⟩,[]⟩],wA⟩
theorem aaT:cP P t53 az 0 (cS Tryz.f51 3) Oi:=fun d=>by kernel_rfl
def Oj:LT:=az.add 0 Oi
theorem aaU:aJ P 0 Oj (ba Tryz.f51):=aJ.a hm Fy (aT _ _ _) aaT
def Ap(d:List G):Option (List G) :=
 (aj (l8 [.s (gi d 0).str,.s (⟨#[32]⟩:ByteArray)]) fun g1=>(bh true (cu wA [.l (gi g1 0).rows,.l (gi g1 0).rows,.i (((gi g1 0).rows.length:Nat):Int),.i 0]) fun g g2=>(bif af g 0 then some [.l (gi g2 0).rows,.t (gi g2 1).bool] else some [.l (gi g2 0).rows,.t true])))
def Fz:ax:=⟨51,[.s (.str)],[],[],[.s (.list [.str]),.s (.bool)],[],[],[],Ap⟩
theorem aaV:aO P t53 Oj Tryz.f51 Fz:=fun d=>by kernel_rfl
theorem aaW:aM P Fz:=aN hm Fy Tryz.func51 aaU aaV
def t54:au:=t53.aS Fz
theorem FA:aw P t54:=Fy.aP aaW

def sY(d:List G):Option (Option Nat × List G) :=
 (bif (ak (gi d 3).int (gi d 2).int) then (bif ((aI (gi d 3).int)&&(ak (gi d 3).int (((gi d 0).rows.length:Nat):Int))) then (bif ((gi d 1).str.toList==(gi ((gi d 0).rows.getD (((gi d 3).int).toNat) []) 0).str.toList) then some (some 0,[.i (gi d 3).int]) else (bif (ay ((gi d 3).int+1)) then some (none,[.l (gi d 0).rows,.s (gi d 1).str,.i (gi d 2).int,.i ((gi d 3).int+1)]) else none)) else none) else some (some 1,[]))
def Ol:bH:=⟨2,[],⟨19,[(0,.s (.list [.str])),(1,.s (.str)),(7,.s (.int .i64)),(8,.s (.int .i64))],[]⟩,[],[⟨.ret,⟨19,[(4,.s (.int .i64))],[]⟩,[]⟩,⟨.exit 0,⟨19,[],[]⟩,[]⟩],sY⟩
theorem aaX:cP P t54 az 0 (cS Tryz.f40 2) Ol:=fun d=>by kernel_rfl
def Om:LT:=az.add 0 Ol
theorem aaY:aJ P 0 Om (ba Tryz.f40):=aJ.a hm FA (aT _ _ _) aaX
def qu(d:List G):Option (List G) :=
 (bh true (cu sY [.l (gi d 0).rows,.s (gi d 1).str,.i (((gi d 0).rows.length:Nat):Int),.i 0]) fun g g1=>(bif af g 0 then some [.i (gi g1 0).int] else some [.i (-1)]))
def FB:ax:=⟨40,[.s (.list [.str]),.s (.str)],[],[],[.s (.int .i64)],[],[],[],qu⟩
theorem aaZ:aO P t54 Om Tryz.f40 FB:=fun d=>by kernel_rfl
theorem aa0:aM P FB:=aN hm FA Tryz.func40 aaY aaZ
def t55:au:=t54.aS FB
theorem On:aw P t55:=FA.aP aa0

def wB(d:List G):Option (List G) :=
 (bif (aG (((gi d 1).str.size:Nat):Int) (((gi d 0).str.size:Nat):Int)) then (bif ((aI (((gi d 1).str.size:Nat):Int))&&(aG (((gi d 1).str.size:Nat):Int) (((gi d 0).str.size:Nat):Int))) then some [.t (((gi d 0).str.extract 0 (gi d 1).str.size).toList==(gi d 1).str.toList)] else none) else some [.t false])
def FC:ax:=⟨134,[.s (.str),.s (.str)],[],[],[.s (.bool)],[],[],[],wB⟩
theorem aa1:aO P t55 az Tryz.f134 FC:=fun d=>by kernel_rfl
theorem aa2:aM P FC:=aN hm On Tryz.func134 (aT _ _ _) aa1
def t56:au:=t55.aS FC
theorem Oo:aw P t56:=On.aP aa2

def FD(d:List G):Option (List G) :=
 (aj (wB [.s (gi d 0).str,.s (gi d 1).str]) fun g1=>(bif (!(gi g1 0).bool) then some [.s (gi d 0).str,.t false] else (bif ((aI (((gi d 1).str.size:Nat):Int))&&(aG (((gi d 1).str.size:Nat):Int) (((gi d 0).str.size:Nat):Int))) then some [.s ((gi d 0).str.extract (gi d 1).str.size (gi d 0).str.size),.t true] else none)))
def FE:ax:=⟨123,[.s (.str),.s (.str)],[],[],[.s (.str),.s (.bool)],[],[],[],FD⟩
theorem aa3:aO P t56 az Tryz.f123 FE:=fun d=>by kernel_rfl
theorem aa4:aM P FE:=aN hm Oo Tryz.func123 (aT _ _ _) aa3
def t57:au:=t56.aS FE
theorem Oq:aw P t57:=Oo.aP aa4

def Aq(d:List G):Option (List G) :=
 (aj (FD [.s (gi d 0).str,.s (gi d 1).str]) fun g1=>some [.s (gi g1 0).str,.t (gi g1 1).bool])
def FF:ax:=⟨93,[.s (.str),.s (.str)],[],[],[.s (.str),.s (.bool)],[],[],[],Aq⟩
theorem aa5:aO P t57 az Tryz.f93 FF:=fun d=>by kernel_rfl
theorem aa6:aM P FF:=aN hm Oq Tryz.func93 (aT _ _ _) aa5
def t58:au:=t57.aS FF
theorem aa7:aw P t58:=Oq.aP aa6

def nl(d:List G):Option (List G) :=
 vL d
def wC:ax:=⟨73,[.s (.str)],[],[],[.s (.int .i64),.s (.vm)],[],[],[],nl⟩
theorem aa8:∀ d r,nl d=some r→cq P 73 (wC.args0 d) (ai (wC.H0 d)) (wC.out r) (ai (wC.H1 r)):=fun d r h=>XT Tryz.YG d r h
def t59:au:=t58.aS wC
theorem Ot:aw P t59:=aa7.aP aa8

def Ar(d:List G):Option (List G) :=
 (aj (Aq [.s (gi d 0).str,.s (⟨#[45]⟩:ByteArray)]) fun g1=>(bif ((gi g1 0).str.toList==(⟨#[]⟩:ByteArray).toList) then some [.i 0,.t false] else (bif (ak (gi d 1).int (((gi g1 0).str.size:Nat):Int)) then some [.i 0,.t false] else (aj (kF [.s (gi g1 0).str,.s (⟨#[48,49,50,51,52,53,54,55,56,57]⟩:ByteArray)]) fun g2=>(bif (!((gi g2 0).str.toList==(⟨#[]⟩:ByteArray).toList)) then some [.i 0,.t false] else (bif (ak 0 (((gi g1 0).str.size:Nat):Int)) then (bif ((((gi g1 0).str.data.toList.getD 0 0).toNat:Int)==48) then (bif (ak 1 (((gi g1 0).str.size:Nat):Int)) then some [.i 0,.t false] else (bif (gi g1 1).bool then some [.i 0,.t false] else (aj (nl [.s (gi g1 0).str]) fun g3=>(bif (gi g1 1).bool then (bif (ay (0-(gi g3 0).int)) then some [.i (0-(gi g3 0).int),.t true] else none) else some [.i (gi g3 0).int,.t true])))) else (aj (nl [.s (gi g1 0).str]) fun g4=>(bif (gi g1 1).bool then (bif (ay (0-(gi g4 0).int)) then some [.i (0-(gi g4 0).int),.t true] else none) else some [.i (gi g4 0).int,.t true]))) else none))))))
def FG:ax:=⟨69,[.s (.str),.s (.int .i64)],[],[],[.s (.int .i64),.s (.bool)],[],[],[],Ar⟩
theorem aa9:aO P t59 az Tryz.f69 FG:=fun d=>by kernel_rfl
theorem aa_:aM P FG:=aN hm Ot Tryz.func69 (aT _ _ _) aa9
def t60:au:=t59.aS FG
theorem FH:aw P t60:=Ot.aP aa_

def As(d:List G):Option (Option Nat × List G) :=
 (bif (ak (gi d 3).int (gi d 2).int) then (bif ((aI (gi d 3).int)&&(ak (gi d 3).int (((gi d 1).rows.length:Nat):Int))) then (aj (Ar [.s (gi ((gi d 1).rows.getD (((gi d 3).int).toNat) []) 0).str,.i 15]) fun g1=>(bif (!(gi g1 1).bool) then some (some 0,[.l [],.t false]) else (bif ((af (gi d 0).rows.length (gi d 0).rows.length)&&(decide (((gi d 0).rows.length+1)≤1048576))) then (bif (ay ((gi d 3).int+1)) then (bif ((af ((gi d 0).rows++([[.i (gi g1 0).int]]:List (List G))).length ((gi d 0).rows++([[.i (gi g1 0).int]]:List (List G))).length)&&true) then some (none,[.l ((gi d 0).rows++([[.i (gi g1 0).int]]:List (List G))),.l (gi d 1).rows,.i (gi d 2).int,.i ((gi d 3).int+1)]) else none) else none) else none))) else none) else (bif ((af (gi d 0).rows.length (gi d 0).rows.length)&&true) then some (some 1,[.l (gi d 0).rows]) else none))
def Ou:bH:=⟨3,[(4,[.int .i64])],⟨28,[(4,.s (.vec 0 1)),(9,.s (.list [.str])),(10,.s (.int .i64)),(11,.s (.int .i64))],[.vec [.int .i64] 0]⟩,[.slot 4],[⟨.ret,⟨28,[(2,.s (.list [.int .i64])),(3,.s (.bool))],[]⟩,[]⟩,⟨.exit 0,⟨28,[(4,.s (.vec 0 1))],[.vec [.int .i64] 0]⟩,[.slot 4]⟩],As⟩
theorem aa':cP P t60 az 0 (cS Tryz.f52 3) Ou:=fun d=>by kernel_rfl
def Ov:LT:=az.add 0 Ou
theorem aba:aJ P 0 Ov (ba Tryz.f52):=aJ.a hm FH (aT _ _ _) aa'
def Au(d:List G):Option (List G) :=
 (bh true (cu As [.l [],.l (gi d 0).rows,.i (((gi d 0).rows.length:Nat):Int),.i 0]) fun g g2=>(bif af g 0 then some [.l (gi g2 0).rows,.t (gi g2 1).bool] else (bif ((af (gi g2 0).rows.length (gi g2 0).rows.length)&&true) then some [.l (gi g2 0).rows,.t true] else none)))
def FI:ax:=⟨52,[.s (.list [.str])],[],[],[.s (.list [.int .i64]),.s (.bool)],[],[],[],Au⟩
theorem abb:aO P t60 Ov Tryz.f52 FI:=fun d=>by kernel_rfl
theorem abc:aM P FI:=aN hm FH Tryz.func52 aba abb
def t61:au:=t60.aS FI
theorem Ow:aw P t61:=FH.aP abc

def Av(d:List G):Option (List G) :=
 (bif ((gi d 0).str.toList==(⟨#[45]⟩:ByteArray).toList) then some [.s (⟨#[]⟩:ByteArray)] else some [.s (gi d 0).str])
def FJ:ax:=⟨53,[.s (.str)],[],[],[.s (.str)],[],[],[],Av⟩
theorem abd:aO P t61 az Tryz.f53 FJ:=fun d=>by kernel_rfl
theorem abe:aM P FJ:=aN hm Ow Tryz.func53 (aT _ _ _) abd
def t62:au:=t61.aS FJ
theorem Ox:aw P t62:=Ow.aP abe

def Aw(d:List G):Option (List G) :=
 (aj (Ap [.s (gi d 0).str]) fun g1=>(bif (!(gi g1 1).bool) then some [.l [[.i 0,.i 0,.s (⟨#[]⟩:ByteArray),.i 0]],.t false] else (bif ((((gi g1 0).rows.length:Nat):Int) != 4) then some [.l [[.i 0,.i 0,.s (⟨#[]⟩:ByteArray),.i 0]],.t false] else (aj (Ak []) fun g2=>(bif (ak 1 (((gi g1 0).rows.length:Nat):Int)) then (aj (qu [.l (gi g2 0).rows,.s (gi ((gi g1 0).rows.getD 1 []) 0).str]) fun g3=>(bif (ak 0 (((gi g1 0).rows.length:Nat):Int)) then (bif (ak 3 (((gi g1 0).rows.length:Nat):Int)) then (aj (Au [.l [[.s (gi ((gi g1 0).rows.getD 0 []) 0).str],[.s (gi ((gi g1 0).rows.getD 3 []) 0).str]]]) fun g4=>(bif (!(gi g4 1).bool) then some [.l [[.i 0,.i 0,.s (⟨#[]⟩:ByteArray),.i 0]],.t false] else (bif (ak (gi g3 0).int 1) then some [.l [[.i 0,.i 0,.s (⟨#[]⟩:ByteArray),.i 0]],.t false] else (bif (ak 0 (((gi g4 0).rows.length:Nat):Int)) then (bif (ak 2 (((gi g1 0).rows.length:Nat):Int)) then (aj (Av [.s (gi ((gi g1 0).rows.getD 2 []) 0).str]) fun g5=>(bif (ak 1 (((gi g4 0).rows.length:Nat):Int)) then some [.l [[.i (gi ((gi g4 0).rows.getD 0 []) 0).int,.i (gi g3 0).int,.s (gi g5 0).str,.i (gi ((gi g4 0).rows.getD 1 []) 0).int]],.t true] else none)) else none) else none)))) else none) else none)) else none)))))
def FL:ax:=⟨35,[.s (.str)],[],[],[.s (.row aQ),.s (.bool)],[],[],[],Aw⟩
theorem abf:aO P t62 az Tryz.f35 FL:=fun d=>by kernel_rfl
theorem abg:aM P FL:=aN hm Ox Tryz.func35 (aT _ _ _) abf
def t63:au:=t62.aS FL
theorem FM:aw P t63:=Ox.aP abg

def Ax(d:List G):Option (Option Nat × List G) :=
 (bif (ak (gi d 5).int (gi d 4).int) then (bif ((aI (gi d 5).int)&&(ak (gi d 5).int (((gi d 3).rows.length:Nat):Int))) then (aj (Aw [.s (gi ((gi d 3).rows.getD (((gi d 5).int).toNat) []) 0).str]) fun g2=>(bif (!(gi g2 1).bool) then some (some 0,[.l [],.i (gi d 5).int,.i 9]) else (bif (!(gi d 2).bool) then (bif (ay ((((gi d 1).rows.length:Nat):Int)-1)) then (bif ((gi d 5).int==((((gi d 1).rows.length:Nat):Int)-1)) then some (some 0,[.l [],.i (gi d 5).int,.i 9]) else (bif ((af (gi d 0).rows.length (gi d 0).rows.length)&&(decide (((gi d 0).rows.length+1)≤1048576))) then (bif (ay ((gi d 5).int+1)) then (bif ((af ((gi d 0).rows++([(be aQ (gi g2 0).row)]:List (List G))).length ((gi d 0).rows++([(be aQ (gi g2 0).row)]:List (List G))).length)&&true) then some (none,[.l ((gi d 0).rows++([(be aQ (gi g2 0).row)]:List (List G))),.l (gi d 1).rows,.t (gi d 2).bool,.l (gi d 3).rows,.i (gi d 4).int,.i ((gi d 5).int+1)]) else none) else none) else none)) else none) else (bif ((af (gi d 0).rows.length (gi d 0).rows.length)&&(decide (((gi d 0).rows.length+1)≤1048576))) then (bif (ay ((gi d 5).int+1)) then (bif ((af ((gi d 0).rows++([(be aQ (gi g2 0).row)]:List (List G))).length ((gi d 0).rows++([(be aQ (gi g2 0).row)]:List (List G))).length)&&true) then some (none,[.l ((gi d 0).rows++([(be aQ (gi g2 0).row)]:List (List G))),.l (gi d 1).rows,.t (gi d 2).bool,.l (gi d 3).rows,.i (gi d 4).int,.i ((gi d 5).int+1)]) else none) else none) else none)))) else none) else (bif ((af (gi d 0).rows.length (gi d 0).rows.length)&&true) then some (some 1,[.l (gi d 0).rows]) else none))
def Oy:bH:=⟨6,[(7,aQ)],⟨58,[(5,.s (.list [.str])),(6,.s (.bool)),(7,.s (.vec 0 4)),(21,.s (.list [.str])),(22,.s (.int .i64)),(23,.s (.int .i64))],[.vec aQ 0]⟩,[.slot 7],[⟨.ret,⟨58,[(2,.s (.list aQ)),(3,.s (.int .i64)),(4,.s (.int .i64))],[]⟩,[]⟩,⟨.exit 0,⟨58,[(7,.s (.vec 0 4))],[.vec aQ 0]⟩,[.slot 7]⟩],Ax⟩
theorem abh:cP P (t63.fy [21]) az 0 (cS Tryz.f10 6) Oy:=fun d=>by kernel_rfl
def Oz:LT:=az.add 0 Oy
theorem abi:aJ P 0 Oz (ba Tryz.f10):=aJ.add hm (FM.fy [21]) (by kernel_rfl) (aT _ _ _) abh
def oO(d:List G):Option (List G) :=
 (bif (ak 200000 (((gi d 0).str.size:Nat):Int)) then some [.l [],.i 0,.i 2] else (aj (Ao [.s (gi d 0).str]) fun g1=>(bh true (cu Ax [.l [],.l (gi g1 0).rows,.t (gi g1 1).bool,.l (gi g1 0).rows,.i (((gi g1 0).rows.length:Nat):Int),.i 0]) fun g g3=>(bif af g 0 then some [.l (gi g3 0).rows,.i (gi g3 1).int,.i (gi g3 2).int] else (sw (((af (gi g3 0).rows.length (gi g3 0).rows.length)&&true)&&(l7 [.l (gi g3 0).rows]).isSome) (l7 [.l (gi g3 0).rows]) fun g4=>(bif ((gi g4 0).int != 0) then some [.l [],.i 0,.i (gi g4 0).int] else (bif ((af (gi g3 0).rows.length (gi g3 0).rows.length)&&true) then some [.l (gi g3 0).rows,.i 0,.i 0] else none)))))))
def FN:ax:=⟨10,[.s (.str)],[],[],[.s (.list aQ),.s (.int .i64),.s (.int .i64)],[],[],[],oO⟩
theorem abj:aO P (t63.fy [21]) Oz Tryz.f10 FN:=fun d=>by kernel_rfl
theorem abk:aM P FN:=qa hm (FM.fy [21]) Tryz.func10 (by kernel_rfl) abi abj (by kernel_rfl)
def t64:au:=t63.aS FN
theorem OA:aw P t64:=FM.aP abk

def Ay(d:List G):Option (List G) :=
 (aj (qu [.l (gi d 0).rows,.s (gi d 1).str]) fun g1=>some [.t (aG 0 (gi g1 0).int)])
def FO:ax:=⟨55,[.s (.list [.str]),.s (.str)],[],[],[.s (.bool)],[],[],[],Ay⟩
theorem abl:aO P t64 az Tryz.f55 FO:=fun d=>by kernel_rfl
theorem abm:aM P FO:=aN hm OA Tryz.func55 (aT _ _ _) abl
def t65:au:=t64.aS FO
theorem OB:aw P t65:=OA.aP abm

def Az(d:List G):Option (List G) :=
 (aj (l8 [.s (gi d 0).str,.s (⟨#[32]⟩:ByteArray)]) fun g1=>(aj (Ay [.l (gi g1 0).rows,.s (⟨#[]⟩:ByteArray)]) fun g2=>some [.l (gi g1 0).rows,.t (!(gi g2 0).bool)]))
def FP:ax:=⟨38,[.s (.str)],[],[],[.s (.list [.str]),.s (.bool)],[],[],[],Az⟩
theorem abn:aO P t65 az Tryz.f38 FP:=fun d=>by kernel_rfl
theorem abo:aM P FP:=aN hm OB Tryz.func38 (aT _ _ _) abn
def t66:au:=t65.aS FP
theorem OC:aw P t66:=OB.aP abo

def FQ(d:List G):Option (List G) :=
 (aj (wB [.s (gi d 0).str,.s (gi d 1).str]) fun g1=>(bif (gi g1 0).bool then (bif ((aI (((gi d 1).str.size:Nat):Int))&&(aG (((gi d 1).str.size:Nat):Int) (((gi d 0).str.size:Nat):Int))) then some [.s ((gi d 0).str.extract (gi d 1).str.size (gi d 0).str.size)] else none) else some [.s (gi d 0).str]))
def FR:ax:=⟨96,[.s (.str),.s (.str)],[],[],[.s (.str)],[],[],[],FQ⟩
theorem abp:aO P t66 az Tryz.f96 FR:=fun d=>by kernel_rfl
theorem abq:aM P FR:=aN hm OC Tryz.func96 (aT _ _ _) abp
def t67:au:=t66.aS FR
theorem OD:aw P t67:=OC.aP abq

def AA(d:List G):Option (List G) :=
 (aj (FQ [.s (gi d 0).str,.s (gi d 1).str]) fun g1=>some [.s (gi g1 0).str])
def FT:ax:=⟨71,[.s (.str),.s (.str)],[],[],[.s (.str)],[],[],[],AA⟩
theorem abr:aO P t67 az Tryz.f71 FT:=fun d=>by kernel_rfl
theorem abt:aM P FT:=aN hm OD Tryz.func71 (aT _ _ _) abr
def t68:au:=t67.aS FT
theorem FU:aw P t68:=OD.aP abt

def AB(d:List G):Option (Option Nat × List G) :=
 (bif (ak (gi d 3).int (gi d 2).int) then (bif ((aI (gi d 3).int)&&(ak (gi d 3).int (((gi d 0).str.size:Nat):Int))) then (aj (sO [.s (gi d 1).str,.i (((gi d 0).str.data.toList.getD (((gi d 3).int).toNat) 0).toNat:Int)]) fun g1=>(bif (ak (gi g1 0).int 0) then some (some 0,[.t false]) else (bif (ay ((gi d 3).int+1)) then some (none,[.s (gi d 0).str,.s (gi d 1).str,.i (gi d 2).int,.i ((gi d 3).int+1)]) else none))) else none) else some (some 1,[]))
def OE:bH:=⟨2,[],⟨18,[(0,.s (.str)),(1,.s (.str)),(7,.s (.int .i64)),(8,.s (.int .i64))],[]⟩,[],[⟨.ret,⟨18,[(4,.s (.bool))],[]⟩,[]⟩,⟨.exit 0,⟨18,[],[]⟩,[]⟩],AB⟩
theorem abu:cP P t68 az 0 (cS Tryz.f72 2) OE:=fun d=>by kernel_rfl
def OF:LT:=az.add 0 OE
theorem abv:aJ P 0 OF (ba Tryz.f72):=aJ.a hm FU (aT _ _ _) abu
def AD(d:List G):Option (List G) :=
 (bh true (cu AB [.s (gi d 0).str,.s (gi d 1).str,.i (((gi d 0).str.size:Nat):Int),.i 0]) fun g g2=>(bif af g 0 then some [.t (gi g2 0).bool] else some [.t true]))
def FV:ax:=⟨72,[.s (.str),.s (.str)],[],[],[.s (.bool)],[],[],[],AD⟩
theorem abw:aO P t68 OF Tryz.f72 FV:=fun d=>by kernel_rfl
theorem abx:aM P FV:=aN hm FU Tryz.func72 abv abw
def t69:au:=t68.aS FV
theorem OG:aw P t69:=FU.aP abx

def AE(d:List G):Option (List G) :=
 (aj (AA [.s (gi d 0).str,.s (⟨#[45]⟩:ByteArray)]) fun g1=>(bif ((gi g1 0).str.toList==(⟨#[]⟩:ByteArray).toList) then some [.i 0,.t false] else (bif (ak (gi d 1).int (((gi g1 0).str.size:Nat):Int)) then some [.i 0,.t false] else (aj (AD [.s (gi g1 0).str,.s (⟨#[48,49,50,51,52,53,54,55,56,57]⟩:ByteArray)]) fun g2=>(bif (!(gi g2 0).bool) then some [.i 0,.t false] else (aj (nl [.s (gi d 0).str]) fun g3=>(aj (l6 [.i (gi g3 0).int]) fun g4=>some [.i (gi g3 0).int,.t ((gi g4 0).str.toList==(gi d 0).str.toList)])))))))
def FW:ax:=⟨56,[.s (.str),.s (.int .i64)],[],[],[.s (.int .i64),.s (.bool)],[],[],[],AE⟩
theorem aby:aO P t69 az Tryz.f56 FW:=fun d=>by kernel_rfl
theorem abz:aM P FW:=aN hm OG Tryz.func56 (aT _ _ _) aby
def t70:au:=t69.aS FW
theorem FX:aw P t70:=OG.aP abz

end
end Go.Proofs.iU
