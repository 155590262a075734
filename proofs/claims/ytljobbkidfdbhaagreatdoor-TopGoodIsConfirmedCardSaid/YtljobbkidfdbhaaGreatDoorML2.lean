/-
 What is proved here: functions of the program as functions on data. No condition.
-/
import Derived.Test.YtljobbkidfdbhaaGreatDoorML1
set_option linter.all false
open Int renaming tdiv→nq,tmod→jt
open Nat renaming beq→ad
namespace Go.Proofs.fW
open Go Go.AL Go.Proofs
noncomputable section
def jg(d:List G):Option (List G) :=
 (bif (aj (gi d 0).int (gi d 1).int) then some [.t true] else some [.t (aj (gi d 2).int (gi d 0).int)])
def DA:aJ:=⟨60,[.s (.int .i64),.s (.int .i64),.s (.int .i64)],[],[],[.s (.bool)],[],[],[],jg⟩
theorem Xf:aZ P t6 aF Tryz.f60 DA:=fun d=>by kernel_rfl
theorem Xg:aY P DA:=a8 hm L7 Tryz.func60 (aT _ _ _) Xf
def t7:ar:=t6.bD DA
theorem L8:au P t7:=L7.aP Xg

def pU(d:List G):Option (List G) :=
 (aA (jg [.i (gi d 0).int,.i 0,.i 345686399999]) fun g1=>some [.t (!(gi g1 0).bool)])
def DB:aJ:=⟨52,[.s (.int .i64)],[],[],[.s (.bool)],[],[],[],pU⟩
theorem Xh:aZ P t7 aF Tryz.f52 DB:=fun d=>by kernel_rfl
theorem Xi:aY P DB:=a8 hm L8 Tryz.func52 (aT _ _ _) Xh
def t8:ar:=t7.bD DB
theorem L9:au P t8:=L8.aP Xi

def rX(d:List G):Option (List G) :=
 (aA (jg [.i (gi d 0).int,.i 1,.i 3]) fun g1=>some [.t (!(gi g1 0).bool)])
def DC:aJ:=⟨77,[.s (.int .i64)],[],[],[.s (.bool)],[],[],[],rX⟩
theorem Xj:aZ P t8 aF Tryz.f77 DC:=fun d=>by kernel_rfl
theorem Xk:aY P DC:=a8 hm L9 Tryz.func77 (aT _ _ _) Xj
def t9:ar:=t8.bD DC
theorem L_:au P t9:=L9.aP Xk

def og(d:List G):Option (List G) :=
 (bif (!((gi d 0).str.toList==(⟨#[]⟩:ByteArray).toList)) then (bif (be (((gi d 0).str.size:Nat):Int) 40) then (bif (aj 0 (((gi d 0).str.size:Nat):Int)) then (aA (Dz [.s (⟨#[97,98,99,100,101,102,103,104,105,106,107,108,109,110,111,112,113,114,115,116,117,118,119,120,121,122]⟩:ByteArray),.i (((gi d 0).str.data.toList.getD 0 0).toNat:Int)]) fun g1=>(bif (be 0 (gi g1 0).int) then (aA (zn [.s (gi d 0).str,.s (⟨#[97,98,99,100,101,102,103,104,105,106,107,108,109,110,111,112,113,114,115,116,117,118,119,120,121,122,48,49,50,51,52,53,54,55,56,57,45,95]⟩:ByteArray)]) fun g2=>some [.t ((gi g2 0).str.toList==(⟨#[]⟩:ByteArray).toList)]) else some [.t false])) else none) else some [.t false]) else some [.t false])
def DD:aJ:=⟨37,[.s (.str)],[],[],[.s (.bool)],[],[],[],og⟩
theorem Xl:aZ P t9 aF Tryz.f37 DD:=fun d=>by kernel_rfl
theorem Xm:aY P DD:=a8 hm L_ Tryz.func37 (aT _ _ _) Xl
def t10:ar:=t9.bD DD
theorem L':au P t10:=L_.aP Xm

def pV(d:List G):Option (List G) :=
 (aA (zo [.s (gi d 0).str]) fun g1=>some [.t (gi g1 1).bool])
def DE:aJ:=⟨45,[.s (.str)],[],[],[.s (.bool)],[],[],[],pV⟩
theorem Xn:aZ P t10 aF Tryz.f45 DE:=fun d=>by kernel_rfl
theorem Xo:aY P DE:=a8 hm L' Tryz.func45 (aT _ _ _) Xn
def t11:ar:=t10.bD DE
theorem Ma:au P t11:=L'.aP Xo

def vt(d:List G):Option (List G) :=
 (bif ((gi d 0).str.toList==(⟨#[]⟩:ByteArray).toList) then some [.t true] else (aA (og [.s (gi d 0).str]) fun g1=>some [.t (gi g1 0).bool]))
def DF:aJ:=⟨78,[.s (.str)],[],[],[.s (.bool)],[],[],[],vt⟩
theorem Xp:aZ P t11 aF Tryz.f78 DF:=fun d=>by kernel_rfl
theorem Xq:aY P DF:=a8 hm Ma Tryz.func78 (aT _ _ _) Xp
def t12:ar:=t11.bD DF
theorem Mb:au P t12:=Ma.aP Xq

def zp(d:List G):Option (List G) :=
 (aA (pU [.i (gi (gi d 0).row 0).int]) fun g1=>(bif (!(gi g1 0).bool) then some [.i 1] else (aA (rX [.i (gi (gi d 0).row 1).int]) fun g2=>(bif (!(gi g2 0).bool) then some [.i 4] else (aA (og [.s (gi (gi d 0).row 2).str]) fun g3=>(bif (!(gi g3 0).bool) then some [.i 5] else (aA (pV [.s (gi (gi d 0).row 3).str]) fun g4=>(bif (!(gi g4 0).bool) then some [.i 3] else (aA (jg [.i (gi (gi d 0).row 4).int,.i 0,.i 99999]) fun g5=>(bif (gi g5 0).bool then some [.i 1] else (aA (jg [.i (gi (gi d 0).row 5).int,.i 0,.i 99999]) fun g6=>(bif (gi g6 0).bool then some [.i 1] else (aA (vt [.s (gi (gi d 0).row 6).str]) fun g7=>(bif (!(gi g7 0).bool) then some [.i 5] else (aA (vt [.s (gi (gi d 0).row 7).str]) fun g8=>(bif (!(gi g8 0).bool) then some [.i 5] else some [.i 0]))))))))))))))))
def DG:aJ:=⟨48,[.s (.row ai)],[],[],[.s (.int .i64)],[],[],[],zp⟩
theorem Xr:aZ P t12 aF Tryz.f48 DG:=fun d=>by kernel_rfl
theorem Xs:aY P DG:=a8 hm Mb Tryz.func48 (aT _ _ _) Xr
def t13:ar:=t12.bD DG
theorem Mc:au P t13:=Mb.aP Xs

def zq(d:List G):Option (List G) :=
 some [.t ((gi d 0).int != (gi d 0).int)]
def DH:aJ:=⟨94,[.s (.int .i64)],[],[],[.s (.bool)],[],[],[],zq⟩
theorem Xt:aZ P t13 aF Tryz.f94 DH:=fun d=>by kernel_rfl
theorem Xu:aY P DH:=a8 hm Mc Tryz.func94 (aT _ _ _) Xt
def t14:ar:=t13.bD DH
theorem Md:au P t14:=Mc.aP Xu

def mN(d:List G):Option (List G) :=
 (aA (zq [.i (gi d 0).int]) fun g1=>(aA (zq [.i (gi d 1).int]) fun g2=>(bif (gi g1 0).bool then (bif (gi g2 0).bool then some [.i 0] else some [.i (-1)]) else (bif (gi g2 0).bool then some [.i 1] else (bif (aj (gi d 0).int (gi d 1).int) then some [.i (-1)] else (bif (aj (gi d 1).int (gi d 0).int) then some [.i 1] else some [.i 0]))))))
def DI:aJ:=⟨67,[.s (.int .i64),.s (.int .i64)],[],[],[.s (.int .i64)],[],[],[],mN⟩
theorem Xv:aZ P t14 aF Tryz.f67 DI:=fun d=>by kernel_rfl
theorem Xw:aY P DI:=a8 hm Md Tryz.func67 (aT _ _ _) Xv
def t15:ar:=t14.bD DI
theorem DJ:au P t15:=Md.aP Xw

def rY(d:List G):Option (Option Nat × List G) :=
 (bif (aj (gi d 3).int (gi d 2).int) then (bif ((az (gi d 3).int)&&(aj (gi d 3).int (((gi d 1).rows.length:Nat):Int))) then (bif ((gi ((gi d 1).rows.getD (((gi d 3).int).toNat) []) 0).int != (gi d 0).int) then some (some 0,[.i (gi ((gi d 1).rows.getD (((gi d 3).int).toNat) []) 0).int]) else (bif (ao ((gi d 3).int+1)) then some (none,[.i (gi d 0).int,.l (gi d 1).rows,.i (gi d 2).int,.i ((gi d 3).int+1)]) else none)) else none) else some (some 1,[.i (gi d 0).int]))
def Me:bx:=⟨3,[],⟨18,[(3,.s (.int .i64)),(6,.s (.list [.int .i64])),(7,.s (.int .i64)),(8,.s (.int .i64))],[]⟩,[],[⟨.ret,⟨18,[(2,.s (.int .i64))],[]⟩,[]⟩,⟨.exit 0,⟨18,[(3,.s (.int .i64))],[]⟩,[]⟩],rY⟩
theorem Xx:cu P t15 aF 0 (cA Tryz.f62 3) Me:=fun d=>by kernel_rfl
def Mf:LT:=aF.add 0 Me
theorem Xy:ay P 0 Mf (aU Tryz.f62):=ay.a hm DJ (aT _ _ _) Xx
def lG(d:List G):Option (List G) :=
 (aN true (bT rY [.i 0,.l (gi d 0).rows,.i (((gi d 0).rows.length:Nat):Int),.i 0]) fun g g1=>(bif ad g 0 then some [.i (gi g1 0).int] else some [.i (gi g1 0).int]))
def DK:aJ:=⟨62,[.s (.list [.int .i64])],[],[],[.s (.int .i64)],[],[],[],lG⟩
theorem Xz:aZ P t15 Mf Tryz.f62 DK:=fun d=>by kernel_rfl
theorem XA:aY P DK:=a8 hm DJ Tryz.func62 Xy Xz
def t16:ar:=t15.bD DK
theorem Mg:au P t16:=DJ.aP XA

def zt(d:List G):Option (List G) :=
 (aA (mN [.i (gi (gi d 0).row 0).int,.i (gi (gi d 1).row 0).int]) fun g1=>(aA (fM [.s (gi (gi d 0).row 3).str,.s (gi (gi d 1).row 3).str]) fun g2=>(aA (fM [.s (gi (gi d 0).row 2).str,.s (gi (gi d 1).row 2).str]) fun g3=>(aA (mN [.i (gi (gi d 0).row 1).int,.i (gi (gi d 1).row 1).int]) fun g4=>(aA (lG [.l [[.i (gi g1 0).int],[.i (gi g2 0).int],[.i (gi g3 0).int],[.i (gi g4 0).int]]]) fun g5=>some [.i (gi g5 0).int])))))
def DL:aJ:=⟨49,[.s (.row ai),.s (.row ai)],[],[],[.s (.int .i64)],[],[],[],zt⟩
theorem XB:aZ P t16 aF Tryz.f49 DL:=fun d=>by kernel_rfl
theorem XC:aY P DL:=a8 hm Mg Tryz.func49 (aT _ _ _) XB
def t17:ar:=t16.bD DL
theorem DM:au P t17:=Mg.aP XC

def Mh(d:List G):Option (Option Nat × List G) :=
 (bif (aj (gi d 3).int (gi d 2).int) then (bif ((az (gi d 3).int)&&(aj (gi d 3).int (((gi d 1).rows.length:Nat):Int))) then (aA (zp [.l [(aH ai ((gi d 1).rows.getD (((gi d 3).int).toNat) []))]]) fun g1=>(bif ((gi g1 0).int != 0) then some (some 0,[.i (gi g1 0).int]) else (bif (aj 0 (gi d 3).int) then (bif (ao ((gi d 3).int-1)) then (bif ((az ((gi d 3).int-1))&&(aj ((gi d 3).int-1) (((gi d 0).rows.length:Nat):Int))) then (aA (zt [.l [(aH ai ((gi d 0).rows.getD (((gi d 3).int-1).toNat) []))],.l [(aH ai ((gi d 1).rows.getD (((gi d 3).int).toNat) []))]]) fun g2=>(bif (be 0 (gi g2 0).int) then some (some 0,[.i 7]) else (bif (ao ((gi d 3).int+1)) then some (none,[.l (gi d 0).rows,.l (gi d 1).rows,.i (gi d 2).int,.i ((gi d 3).int+1)]) else none))) else none) else none) else (bif (ao ((gi d 3).int+1)) then some (none,[.l (gi d 0).rows,.l (gi d 1).rows,.i (gi d 2).int,.i ((gi d 3).int+1)]) else none)))) else none) else some (some 1,[]))
def Mi:bx:=⟨4,[],⟨34,[(0,.s (.list ai)),(9,.s (.list ai)),(10,.s (.int .i64)),(11,.s (.int .i64))],[]⟩,[],[⟨.ret,⟨34,[(2,.s (.int .i64))],[]⟩,[]⟩,⟨.exit 0,⟨34,[],[]⟩,[]⟩],Mh⟩
theorem XD:cu P t17 aF 0 (cA Tryz.f25 4) Mi:=fun d=>by kernel_rfl
def Mj:LT:=aF.add 0 Mi
theorem XE:ay P 0 Mj (aU Tryz.f25):=ay.a hm DM (aT _ _ _) XD
def zu(d:List G):Option (List G) :=
 (bif (aj 2000 (((gi d 0).rows.length:Nat):Int)) then some [.i 2] else (aN true (bT Mh [.l (gi d 0).rows,.l (gi d 0).rows,.i (((gi d 0).rows.length:Nat):Int),.i 0]) fun g g3=>(bif ad g 0 then some [.i (gi g3 0).int] else some [.i 0])))
def DN:aJ:=⟨25,[.s (.list ai)],[],[],[.s (.int .i64)],[],[],[],zu⟩
theorem XF:aZ P t17 Mj Tryz.f25 DN:=fun d=>by kernel_rfl
theorem XG:aY P DN:=a8 hm DM Tryz.func25 XE XF
def t18:ar:=t17.bD DN
theorem Mk:au P t18:=DM.aP XG

def vu(d:List G):Option (List G) :=
 (aA (zo [.s (gi d 0).str]) fun g1=>some [.s (gi (gi g1 0).row 0).str])
def DO:aJ:=⟨50,[.s (.str)],[],[],[.s (.str)],[],[],[],vu⟩
theorem XH:aZ P t18 aF Tryz.f50 DO:=fun d=>by kernel_rfl
theorem XI:aY P DO:=a8 hm Mk Tryz.func50 (aT _ _ _) XH
def t19:ar:=t18.bD DO
theorem DP:au P t19:=Mk.aP XI

def vw(d:List G):Option (Option Nat × List G) :=
 (bif (aj (gi d 5).int (gi d 4).int) then (bif ((az (gi d 5).int)&&(aj (gi d 5).int (((gi d 3).rows.length:Nat):Int))) then (aA (vu [.s (gi ((gi d 3).rows.getD (((gi d 5).int).toNat) []) 3).str]) fun g1=>(bif (gi (aw [.str,.str,.int .i64] (gi d 0).rows [.s (gi g1 0).str,.s (gi ((gi d 3).rows.getD (((gi d 5).int).toNat) []) 2).str,.i (gi ((gi d 3).rows.getD (((gi d 5).int).toNat) []) 1).int] [.t false]) 0).bool then (bif ((ad (gi d 2).rows.length (gi d 2).rows.length)&&(decide (((gi d 2).rows.length+1)≤1048576))) then (bif (ao ((gi d 5).int+1)) then (bif ((ad ((gi d 2).rows++([[.i (gi d 5).int]]:List (List G))).length ((gi d 2).rows++([[.i (gi d 5).int]]:List (List G))).length)&&true) then some (none,[.l (aI [.str,.str,.int .i64] (gi d 0).rows [.s (gi g1 0).str,.s (gi ((gi d 3).rows.getD (((gi d 5).int).toNat) []) 2).str,.i (gi ((gi d 3).rows.getD (((gi d 5).int).toNat) []) 1).int] [.t true] (gi d 1).int.toNat),.i (((bl [.str,.str,.int .i64] (gi d 0).rows [.s (gi g1 0).str,.s (gi ((gi d 3).rows.getD (((gi d 5).int).toNat) []) 2).str,.i (gi ((gi d 3).rows.getD (((gi d 5).int).toNat) []) 1).int] (gi d 1).int.toNat):Nat):Int),.l ((gi d 2).rows++([[.i (gi d 5).int]]:List (List G))),.l (gi d 3).rows,.i (gi d 4).int,.i ((gi d 5).int+1)]) else none) else none) else none) else (bif (ao ((gi d 5).int+1)) then (bif ((ad (gi d 2).rows.length (gi d 2).rows.length)&&true) then some (none,[.l (aI [.str,.str,.int .i64] (gi d 0).rows [.s (gi g1 0).str,.s (gi ((gi d 3).rows.getD (((gi d 5).int).toNat) []) 2).str,.i (gi ((gi d 3).rows.getD (((gi d 5).int).toNat) []) 1).int] [.t true] (gi d 1).int.toNat),.i (((bl [.str,.str,.int .i64] (gi d 0).rows [.s (gi g1 0).str,.s (gi ((gi d 3).rows.getD (((gi d 5).int).toNat) []) 2).str,.i (gi ((gi d 3).rows.getD (((gi d 5).int).toNat) []) 1).int] (gi d 1).int.toNat):Nat):Int),.l (gi d 2).rows,.l (gi d 3).rows,.i (gi d 4).int,.i ((gi d 5).int+1)]) else none) else none))) else none) else (bif ((ad (gi d 2).rows.length (gi d 2).rows.length)&&true) then some (some 0,[.l (gi d 2).rows]) else none))
def Ml:bx:=⟨4,[(4,[.int .i64])],⟨35,[(3,.s (.map 0)),(4,.s (.vec 1 1)),(9,.s (.list ai)),(10,.s (.int .i64)),(11,.s (.int .i64))],[.map (.agg [.str,.str,.int .i64]) (.one (.bool)),.vec [.int .i64] 0]⟩,[.slot 3,.slot 4],[⟨.exit 0,⟨35,[(4,.s (.vec 0 1))],[.vec [.int .i64] 0]⟩,[.slot 4]⟩],vw⟩
theorem XJ:cu P t19 (aF.iM [(6,[.hole [.str,.str,.int .i64]])]) 0 (cA Tryz.f26 4) Ml:=fun d=>by kernel_rfl
def Mm:LT:=(aF.iM [(6,[.hole [.str,.str,.int .i64]])]).add 0 Ml
theorem XK:ay P 0 Mm (aU Tryz.f26):=ay.a hm DP (n9 _) XJ
def zw(d:List G):Option (List G) :=
 (aN true (bT vw [.l [],.i 0,.l [],.l (gi d 0).rows,.i (((gi d 0).rows.length:Nat):Int),.i 0]) fun g g2=>(bif ((ad (gi g2 0).rows.length (gi g2 0).rows.length)&&true) then some [.l (gi g2 0).rows] else none))
def DQ:aJ:=⟨26,[.s (.list ai)],[],[],[.s (.list [.int .i64])],[],[],[],zw⟩
theorem XL:aZ P t19 Mm Tryz.f26 DQ:=fun d=>by kernel_rfl
theorem XM:aY P DQ:=a8 hm DP Tryz.func26 XK XL
def t20:ar:=t19.bD DQ
theorem Mn:au P t20:=DP.aP XM

def zx(d:List G):Option (List G) :=
 (aA (zu [.l (gi d 0).rows]) fun g1=>(bif ((gi g1 0).int != 0) then some [.l [],.i (gi g1 0).int] else (aA (zw [.l (gi d 0).rows]) fun g2=>some [.l (gi g2 0).rows,.i 0])))
def DR:aJ:=⟨8,[.s (.list ai)],[],[],[.s (.list [.int .i64]),.s (.int .i64)],[],[],[],zx⟩
theorem XN:aZ P t20 aF Tryz.f8 DR:=fun d=>by kernel_rfl
theorem XO:aY P DR:=a8 hm Mn Tryz.func8 (aT _ _ _) XN
def t21:ar:=t20.bD DR
theorem DS:au P t21:=Mn.aP XO

def zy(d:List G):Option (Option Nat × List G) :=
 (bif (aj (gi d 2).int (gi d 1).int) then (bif (ao (nq (gi d 2).int 2)) then (bif ((nq (gi d 2).int 2)==1) then (bif ((az (gi d 2).int)&&(aj (gi d 2).int (((gi d 0).str.size:Nat):Int))) then (bif (aj (((gi d 0).str.data.toList.getD (((gi d 2).int).toNat) 0).toNat:Int) 48) then some (some 0,[.t false]) else (bif ((az (gi d 2).int)&&(aj (gi d 2).int (((gi d 0).str.size:Nat):Int))) then (bif (aj 57 (((gi d 0).str.data.toList.getD (((gi d 2).int).toNat) 0).toNat:Int)) then some (some 0,[.t false]) else (bif (ao ((gi d 2).int+1)) then some (none,[.s (gi d 0).str,.i (gi d 1).int,.i ((gi d 2).int+1)]) else none)) else none)) else none) else (bif ((nq (gi d 2).int 2)==2) then (bif ((az (gi d 2).int)&&(aj (gi d 2).int (((gi d 0).str.size:Nat):Int))) then (bif (aj (((gi d 0).str.data.toList.getD (((gi d 2).int).toNat) 0).toNat:Int) 97) then some (some 0,[.t false]) else (bif ((az (gi d 2).int)&&(aj (gi d 2).int (((gi d 0).str.size:Nat):Int))) then (bif (aj 120 (((gi d 0).str.data.toList.getD (((gi d 2).int).toNat) 0).toNat:Int)) then some (some 0,[.t false]) else (bif (ao ((gi d 2).int+1)) then some (none,[.s (gi d 0).str,.i (gi d 1).int,.i ((gi d 2).int+1)]) else none)) else none)) else none) else (bif ((az (gi d 2).int)&&(aj (gi d 2).int (((gi d 0).str.size:Nat):Int))) then (bif (aj (((gi d 0).str.data.toList.getD (((gi d 2).int).toNat) 0).toNat:Int) 97) then some (some 0,[.t false]) else (bif ((az (gi d 2).int)&&(aj (gi d 2).int (((gi d 0).str.size:Nat):Int))) then (bif (aj 114 (((gi d 0).str.data.toList.getD (((gi d 2).int).toNat) 0).toNat:Int)) then some (some 0,[.t false]) else (bif (ao ((gi d 2).int+1)) then some (none,[.s (gi d 0).str,.i (gi d 1).int,.i ((gi d 2).int+1)]) else none)) else none)) else none))) else none) else some (some 1,[]))
def Mo:bx:=⟨4,[],⟨43,[(0,.s (.str)),(20,.s (.int .i64)),(21,.s (.int .i64))],[]⟩,[],[⟨.ret,⟨43,[(2,.s (.bool))],[]⟩,[]⟩,⟨.exit 0,⟨43,[],[]⟩,[]⟩],zy⟩
theorem XP:cu P t21 aF 0 (cA Tryz.f83 4) Mo:=fun d=>by kernel_rfl
def Mp:LT:=aF.add 0 Mo
theorem XQ:ay P 0 Mp (aU Tryz.f83):=ay.a hm DS (aT _ _ _) XP
def Mq(d:List G):Option (List G) :=
 (bif ((((gi d 0).str.size:Nat):Int) != 2) then (bif ((((gi d 0).str.size:Nat):Int) != 4) then (bif ((((gi d 0).str.size:Nat):Int) != 6) then some [.t false] else (aN true (bT zy [.s (gi d 0).str,.i (((gi d 0).str.size:Nat):Int),.i 0]) fun g g1=>(bif ad g 0 then some [.t (gi g1 0).bool] else some [.t true]))) else (aN true (bT zy [.s (gi d 0).str,.i (((gi d 0).str.size:Nat):Int),.i 0]) fun h g2=>(bif ad h 0 then some [.t (gi g2 0).bool] else some [.t true]))) else (aN true (bT zy [.s (gi d 0).str,.i (((gi d 0).str.size:Nat):Int),.i 0]) fun k g3=>(bif ad k 0 then some [.t (gi g3 0).bool] else some [.t true])))
def DT:aJ:=⟨83,[.s (.str)],[],[],[.s (.bool)],[],[],[],Mq⟩
theorem XR:aZ P t21 Mp Tryz.f83 DT:=fun d=>by kernel_rfl
theorem XT:aY P DT:=a8 hm DS Tryz.func83 XQ XR
def t22:ar:=t21.bD DT
theorem Mr:au P t22:=DS.aP XT

def Ms(d:List G):Option (List G) :=
 (bif ((((gi d 0).str.size:Nat):Int)==6) then (aA (Mq [.s (gi d 0).str]) fun g1=>some [.t (gi g1 0).bool]) else some [.t false])
def DU:aJ:=⟨61,[.s (.str)],[],[],[.s (.bool)],[],[],[],Ms⟩
theorem XU:aZ P t22 aF Tryz.f61 DU:=fun d=>by kernel_rfl
theorem XV:aY P DU:=a8 hm Mr Tryz.func61 (aT _ _ _) XU
def t23:ar:=t22.bD DU
theorem DV:au P t23:=Mr.aP XV

def Mt(d:List G):Option (Option Nat × List G) :=
 (bif (aj (gi d 3).int (gi d 2).int) then (bif ((az (gi d 3).int)&&(aj (gi d 3).int (((gi d 1).rows.length:Nat):Int))) then (aA (pV [.s (gi ((gi d 1).rows.getD (((gi d 3).int).toNat) []) 0).str]) fun g1=>(bif (!(gi g1 0).bool) then some (some 0,[.i 3]) else (aA (og [.s (gi ((gi d 1).rows.getD (((gi d 3).int).toNat) []) 1).str]) fun g2=>(bif (!(gi g2 0).bool) then some (some 0,[.i 5]) else (aA (jg [.i (gi ((gi d 1).rows.getD (((gi d 3).int).toNat) []) 2).int,.i 0,.i 1000000000000]) fun g3=>(bif (gi g3 0).bool then some (some 0,[.i 1]) else (bif (!((gi ((gi d 1).rows.getD (((gi d 3).int).toNat) []) 3).str.toList==(⟨#[]⟩:ByteArray).toList)) then (aA (Ms [.s (gi ((gi d 1).rows.getD (((gi d 3).int).toNat) []) 3).str]) fun g4=>(bif (!(gi g4 0).bool) then some (some 0,[.i 3]) else (bif (aj 0 (gi d 3).int) then (bif (ao ((gi d 3).int-1)) then (bif ((az ((gi d 3).int-1))&&(aj ((gi d 3).int-1) (((gi d 0).rows.length:Nat):Int))) then (aA (fM [.s (gi ((gi d 0).rows.getD (((gi d 3).int-1).toNat) []) 1).str,.s (gi ((gi d 1).rows.getD (((gi d 3).int).toNat) []) 1).str]) fun g5=>(bif (ao ((gi d 3).int-1)) then (bif ((az ((gi d 3).int-1))&&(aj ((gi d 3).int-1) (((gi d 0).rows.length:Nat):Int))) then (aA (fM [.s (gi ((gi d 0).rows.getD (((gi d 3).int-1).toNat) []) 0).str,.s (gi ((gi d 1).rows.getD (((gi d 3).int).toNat) []) 0).str]) fun g6=>(aA (lG [.l [[.i (gi g5 0).int],[.i (gi g6 0).int]]]) fun g7=>(bif (be 0 (gi g7 0).int) then some (some 0,[.i 7]) else (bif (ao ((gi d 3).int+1)) then some (none,[.l (gi d 0).rows,.l (gi d 1).rows,.i (gi d 2).int,.i ((gi d 3).int+1)]) else none)))) else none) else none)) else none) else none) else (bif (ao ((gi d 3).int+1)) then some (none,[.l (gi d 0).rows,.l (gi d 1).rows,.i (gi d 2).int,.i ((gi d 3).int+1)]) else none)))) else (bif (aj 0 (gi d 3).int) then (bif (ao ((gi d 3).int-1)) then (bif ((az ((gi d 3).int-1))&&(aj ((gi d 3).int-1) (((gi d 0).rows.length:Nat):Int))) then (aA (fM [.s (gi ((gi d 0).rows.getD (((gi d 3).int-1).toNat) []) 1).str,.s (gi ((gi d 1).rows.getD (((gi d 3).int).toNat) []) 1).str]) fun g8=>(bif (ao ((gi d 3).int-1)) then (bif ((az ((gi d 3).int-1))&&(aj ((gi d 3).int-1) (((gi d 0).rows.length:Nat):Int))) then (aA (fM [.s (gi ((gi d 0).rows.getD (((gi d 3).int-1).toNat) []) 0).str,.s (gi ((gi d 1).rows.getD (((gi d 3).int).toNat) []) 0).str]) fun g9=>(aA (lG [.l [[.i (gi g8 0).int],[.i (gi g9 0).int]]]) fun g10=>(bif (be 0 (gi g10 0).int) then some (some 0,[.i 7]) else (bif (ao ((gi d 3).int+1)) then some (none,[.l (gi d 0).rows,.l (gi d 1).rows,.i (gi d 2).int,.i ((gi d 3).int+1)]) else none)))) else none) else none)) else none) else none) else (bif (ao ((gi d 3).int+1)) then some (none,[.l (gi d 0).rows,.l (gi d 1).rows,.i (gi d 2).int,.i ((gi d 3).int+1)]) else none))))))))) else none) else some (some 1,[]))
def Mu:bx:=⟨4,[],⟨66,[(0,.s (.list vm)),(8,.s (.list vm)),(9,.s (.int .i64)),(10,.s (.int .i64))],[]⟩,[],[⟨.ret,⟨66,[(2,.s (.int .i64))],[]⟩,[]⟩,⟨.exit 0,⟨66,[],[]⟩,[]⟩],Mt⟩
theorem XW:cu P t23 aF 0 (cA Tryz.f36 4) Mu:=fun d=>by kernel_rfl
def Mv:LT:=aF.add 0 Mu
theorem XX:ay P 0 Mv (aU Tryz.f36):=ay.a hm DV (aT _ _ _) XW
def Mw(d:List G):Option (List G) :=
 (bif (aj 500 (((gi d 0).rows.length:Nat):Int)) then some [.i 2] else (aN true (bT Mt [.l (gi d 0).rows,.l (gi d 0).rows,.i (((gi d 0).rows.length:Nat):Int),.i 0]) fun g g11=>(bif ad g 0 then some [.i (gi g11 0).int] else some [.i 0])))
def DW:aJ:=⟨36,[.s (.list vm)],[],[],[.s (.int .i64)],[],[],[],Mw⟩
theorem XY:aZ P t23 Mv Tryz.f36 DW:=fun d=>by kernel_rfl
theorem XZ:aY P DW:=a8 hm DV Tryz.func36 XX XY
def t24:ar:=t23.bD DW
theorem DX:au P t24:=DV.aP XZ

def mO(d:List G):Option (Option Nat × List G) :=
 (bif ((az (IntKind.u8.wrap ((gi d 0).int)))&&(aj (IntKind.u8.wrap ((gi d 0).int)) 256)) then (bif (ao (((⟨#[0,1,2,2,3,3,3,3,4,4,4,4,4,4,4,4,5,5,5,5,5,5,5,5,5,5,5,5,5,5,5,5,6,6,6,6,6,6,6,6,6,6,6,6,6,6,6,6,6,6,6,6,6,6,6,6,6,6,6,6,6,6,6,6,7,7,7,7,7,7,7,7,7,7,7,7,7,7,7,7,7,7,7,7,7,7,7,7,7,7,7,7,7,7,7,7,7,7,7,7,7,7,7,7,7,7,7,7,7,7,7,7,7,7,7,7,7,7,7,7,7,7,7,7,7,7,7,7,8,8,8,8,8,8,8,8,8,8,8,8,8,8,8,8,8,8,8,8,8,8,8,8,8,8,8,8,8,8,8,8,8,8,8,8,8,8,8,8,8,8,8,8,8,8,8,8,8,8,8,8,8,8,8,8,8,8,8,8,8,8,8,8,8,8,8,8,8,8,8,8,8,8,8,8,8,8,8,8,8,8,8,8,8,8,8,8,8,8,8,8,8,8,8,8,8,8,8,8,8,8,8,8,8,8,8,8,8,8,8,8,8,8,8,8,8,8,8,8,8,8,8,8,8,8,8,8]⟩:ByteArray).data.toList.getD ((IntKind.u8.wrap ((gi d 0).int)).toNat) 0).toNat:Int)) then (bif (ao ((gi d 1).int+(((⟨#[0,1,2,2,3,3,3,3,4,4,4,4,4,4,4,4,5,5,5,5,5,5,5,5,5,5,5,5,5,5,5,5,6,6,6,6,6,6,6,6,6,6,6,6,6,6,6,6,6,6,6,6,6,6,6,6,6,6,6,6,6,6,6,6,7,7,7,7,7,7,7,7,7,7,7,7,7,7,7,7,7,7,7,7,7,7,7,7,7,7,7,7,7,7,7,7,7,7,7,7,7,7,7,7,7,7,7,7,7,7,7,7,7,7,7,7,7,7,7,7,7,7,7,7,7,7,7,7,8,8,8,8,8,8,8,8,8,8,8,8,8,8,8,8,8,8,8,8,8,8,8,8,8,8,8,8,8,8,8,8,8,8,8,8,8,8,8,8,8,8,8,8,8,8,8,8,8,8,8,8,8,8,8,8,8,8,8,8,8,8,8,8,8,8,8,8,8,8,8,8,8,8,8,8,8,8,8,8,8,8,8,8,8,8,8,8,8,8,8,8,8,8,8,8,8,8,8,8,8,8,8,8,8,8,8,8,8,8,8,8,8,8,8,8,8,8,8,8,8,8,8,8,8,8,8,8]⟩:ByteArray).data.toList.getD ((IntKind.u8.wrap ((gi d 0).int)).toNat) 0).toNat:Int))) then some (some 0,[.i ((gi d 1).int+(((⟨#[0,1,2,2,3,3,3,3,4,4,4,4,4,4,4,4,5,5,5,5,5,5,5,5,5,5,5,5,5,5,5,5,6,6,6,6,6,6,6,6,6,6,6,6,6,6,6,6,6,6,6,6,6,6,6,6,6,6,6,6,6,6,6,6,7,7,7,7,7,7,7,7,7,7,7,7,7,7,7,7,7,7,7,7,7,7,7,7,7,7,7,7,7,7,7,7,7,7,7,7,7,7,7,7,7,7,7,7,7,7,7,7,7,7,7,7,7,7,7,7,7,7,7,7,7,7,7,7,8,8,8,8,8,8,8,8,8,8,8,8,8,8,8,8,8,8,8,8,8,8,8,8,8,8,8,8,8,8,8,8,8,8,8,8,8,8,8,8,8,8,8,8,8,8,8,8,8,8,8,8,8,8,8,8,8,8,8,8,8,8,8,8,8,8,8,8,8,8,8,8,8,8,8,8,8,8,8,8,8,8,8,8,8,8,8,8,8,8,8,8,8,8,8,8,8,8,8,8,8,8,8,8,8,8,8,8,8,8,8,8,8,8,8,8,8,8,8,8,8,8,8,8,8,8,8,8]⟩:ByteArray).data.toList.getD ((IntKind.u8.wrap ((gi d 0).int)).toNat) 0).toNat:Int))]) else none) else none) else none)
def Mx:bx:=⟨10,[],⟨25,[(0,.s (.int .u64)),(2,.s (.int .i64))],[]⟩,[],[⟨.ret,⟨25,[(2,.s (.int .i64))],[]⟩,[]⟩],mO⟩
theorem X5:ft P t24 aF 0 (cutAt Tryz.f125 10) Mx:=fun d=>by kernel_rfl
def My:LT:=aF.d_ 0 Mx
theorem X6:ay P 0 My (aU Tryz.f125):=ay.aC hm DX (aT _ _ _) X5
def Mz(d:List G):Option (List G) :=
 (bif (be 4294967296 (gi d 0).int) then (bif (be 65536 (dT .u64 (gi d 0).int 32)) then (bif (be 256 (dT .u64 (dT .u64 (gi d 0).int 32) 16)) then (aN true (bU (mO [.i (dT .u64 (dT .u64 (dT .u64 (gi d 0).int 32) 16) 8),.i 56])) fun g g1=>some [.i (gi g1 0).int]) else (aN true (bU (mO [.i (dT .u64 (dT .u64 (gi d 0).int 32) 16),.i 48])) fun h g2=>some [.i (gi g2 0).int])) else (bif (be 256 (dT .u64 (gi d 0).int 32)) then (aN true (bU (mO [.i (dT .u64 (dT .u64 (gi d 0).int 32) 8),.i 40])) fun k g3=>some [.i (gi g3 0).int]) else (aN true (bU (mO [.i (dT .u64 (gi d 0).int 32),.i 32])) fun q g4=>some [.i (gi g4 0).int]))) else (bif (be 65536 (gi d 0).int) then (bif (be 256 (dT .u64 (gi d 0).int 16)) then (aN true (bU (mO [.i (dT .u64 (dT .u64 (gi d 0).int 16) 8),.i 24])) fun u g5=>some [.i (gi g5 0).int]) else (aN true (bU (mO [.i (dT .u64 (gi d 0).int 16),.i 16])) fun v g6=>some [.i (gi g6 0).int])) else (bif (be 256 (gi d 0).int) then (aN true (bU (mO [.i (dT .u64 (gi d 0).int 8),.i 8])) fun y g7=>some [.i (gi g7 0).int]) else (aN true (bU (mO [.i (gi d 0).int,.i 0])) fun B g8=>some [.i (gi g8 0).int]))))
def DY:aJ:=⟨125,[.s (.int .u64)],[],[],[.s (.int .i64)],[],[],[],Mz⟩
theorem X8:aZ P t24 My Tryz.f125 DY:=fun d=>by kernel_rfl
theorem X9:aY P DY:=a8 hm DX Tryz.func125 X6 X8
def t25:ar:=t24.bD DY
theorem MA:au P t25:=DX.aP X9

def MB(d:List G):Option (List G) :=
 (aA (Mz [.i (gi d 0).int]) fun g1=>some [.i (gi g1 0).int])
def DZ:aJ:=⟨93,[.s (.int .u64)],[],[],[.s (.int .i64)],[],[],[],MB⟩
theorem X_:aZ P t25 aF Tryz.f93 DZ:=fun d=>by kernel_rfl
theorem Ya:aY P DZ:=a8 hm MA Tryz.func93 (aT _ _ _) X_
def t26:ar:=t25.bD DZ
theorem MC:au P t26:=MA.aP Ya

def MD(d:List G):Option (List G) :=
 (aA (mN [.i (gi (gi d 1).row 1).int,.i (gi (gi d 0).row 1).int]) fun g1=>(aA (fM [.s (gi (gi d 0).row 2).str,.s (gi (gi d 1).row 2).str]) fun g2=>(aA (lG [.l [[.i (gi g1 0).int],[.i (gi g2 0).int]]]) fun g3=>some [.i (gi g3 0).int])))
def D0:aJ:=⟨66,[.s (.row cq),.s (.row cq)],[],[],[.s (.int .i64)],[],[],[],MD⟩
theorem Yb:aZ P t26 aF Tryz.f66 D0:=fun d=>by kernel_rfl
theorem Yc:aY P D0:=a8 hm MC Tryz.func66 (aT _ _ _) Yb
def t27:ar:=t26.bD D0
theorem zz:au P t27:=MC.aP Yc

def ME(d:List G):Option (Option Nat × List G) :=
 (bif (aj (gi d 1).int (gi d 4).int) then (bif ((az (gi d 4).int)&&(aj (gi d 4).int (((gi d 0).rows.length:Nat):Int))) then (bif (decide ((0+((gi d 4).int).toNat)<(gi d 0).rows.length)) then (bif (ao ((gi d 4).int-1)) then (bif ((az ((gi d 4).int-1))&&(aj ((gi d 4).int-1) (((gi d 0).rows.length:Nat):Int))) then (bif (decide ((0+((gi d 4).int-1).toNat)<(gi d 0).rows.length)) then (aA (MD [.l [(aH cq ((gi d 0).rows.getD (0+((gi d 4).int).toNat) []))],.l [(aH cq ((gi d 0).rows.getD (0+((gi d 4).int-1).toNat) []))]]) fun g1=>(bif (aj (gi g1 0).int 0) then (bif (ao ((gi d 4).int-1)) then (bif (ao ((gi d 4).int-1)) then (bif ((az ((gi d 4).int-1))&&(aj ((gi d 4).int-1) (((gi d 0).rows.length:Nat):Int))) then (bif (decide ((0+((gi d 4).int-1).toNat)<(gi d 0).rows.length)) then (bif ((az (gi d 4).int)&&(aj (gi d 4).int (((gi d 0).rows.length:Nat):Int))) then (bif (decide ((0+((gi d 4).int).toNat)<(gi d 0).rows.length)) then (bif ((az (gi d 4).int)&&(aj (gi d 4).int (((gi d 0).rows.length:Nat):Int))) then (bif (decide ((0+((gi d 4).int).toNat)<(gi d 0).rows.length)) then (bif ((az ((gi d 4).int-1))&&(aj ((gi d 4).int-1) (((gi d 0).rows.length:Nat):Int))) then (bif (decide ((0+((gi d 4).int-1).toNat)<((gi d 0).rows.set (0+((gi d 4).int).toNat) (bf cq ((gi d 0).rows.getD (0+((gi d 4).int).toNat) []) 0 (aH cq ((gi d 0).rows.getD (0+((gi d 4).int-1).toNat) [])))).length)) then (bif (ao ((gi d 4).int-1)) then (bif ((ad (gi d 0).rows.length (((gi d 0).rows.set (0+((gi d 4).int).toNat) (bf cq ((gi d 0).rows.getD (0+((gi d 4).int).toNat) []) 0 (aH cq ((gi d 0).rows.getD (0+((gi d 4).int-1).toNat) [])))).set (0+((gi d 4).int-1).toNat) (bf cq (((gi d 0).rows.set (0+((gi d 4).int).toNat) (bf cq ((gi d 0).rows.getD (0+((gi d 4).int).toNat) []) 0 (aH cq ((gi d 0).rows.getD (0+((gi d 4).int-1).toNat) [])))).getD (0+((gi d 4).int-1).toNat) []) 0 (aH cq ((gi d 0).rows.getD (0+((gi d 4).int).toNat) [])))).length)&&true) then some (none,[.l (((gi d 0).rows.set (0+((gi d 4).int).toNat) (bf cq ((gi d 0).rows.getD (0+((gi d 4).int).toNat) []) 0 (aH cq ((gi d 0).rows.getD (0+((gi d 4).int-1).toNat) [])))).set (0+((gi d 4).int-1).toNat) (bf cq (((gi d 0).rows.set (0+((gi d 4).int).toNat) (bf cq ((gi d 0).rows.getD (0+((gi d 4).int).toNat) []) 0 (aH cq ((gi d 0).rows.getD (0+((gi d 4).int-1).toNat) [])))).getD (0+((gi d 4).int-1).toNat) []) 0 (aH cq ((gi d 0).rows.getD (0+((gi d 4).int).toNat) [])))),.i (gi d 1).int,.i (gi d 2).int,.i (gi d 3).int,.i ((gi d 4).int-1)]) else none) else none) else none) else none) else none) else none) else none) else none) else none) else none) else none) else none) else (bif ((ad (gi d 0).rows.length (gi d 0).rows.length)&&true) then some (some 0,[.l (gi d 0).rows,.i (gi d 1).int,.i (gi d 2).int,.i (gi d 3).int]) else none))) else none) else none) else none) else none) else none) else (bif ((ad (gi d 0).rows.length (gi d 0).rows.length)&&true) then some (some 0,[.l (gi d 0).rows,.i (gi d 1).int,.i (gi d 2).int,.i (gi d 3).int]) else none))
def MF:bx:=⟨4,[],⟨53,[(0,.s (.vec 0 3)),(1,.s (.int .i64)),(2,.s (.int .i64)),(3,.s (.fn 66)),(8,.s (.int .i64)),(9,.s (.int .i64))],[.vec cq 0]⟩,[.fix 0],[⟨.exit 2,⟨53,[(0,.s (.vec 0 3)),(1,.s (.int .i64)),(2,.s (.int .i64)),(3,.s (.fn 66)),(8,.s (.int .i64))],[.vec cq 0]⟩,[.fix 0]⟩],ME⟩
theorem Yd:cu P t27 aF 1 (cA Tryz.f116 4) MF:=fun d=>by kernel_rfl
def D1:LT:=aF.add 1 MF
theorem Ye:ay P 1 D1 (aU Tryz.f116):=ay.a hm zz (aT _ _ _) Yd
def MG(d:List G):Option (Option Nat × List G) :=
 (bif (aj (gi d 3).int (gi d 2).int) then (aN ((ad (gi d 0).rows.length (gi d 0).rows.length)&&true) (bT ME [.l (gi d 0).rows,.i (gi d 1).int,.i (gi d 2).int,.i (gi d 3).int,.i (gi d 3).int]) fun g g2=>(bif (ao ((gi g2 3).int+1)) then (bif ((ad (gi g2 0).rows.length (gi g2 0).rows.length)&&true) then some (none,[.l (gi g2 0).rows,.i (gi g2 1).int,.i (gi g2 2).int,.i ((gi g2 3).int+1)]) else none) else none)) else some (some 0,[.l (gi d 0).rows]))
def MH:bx:=⟨1,[],⟨53,[(0,.s (.vec 0 3)),(1,.s (.int .i64)),(2,.s (.int .i64)),(3,.s (.fn 66)),(8,.s (.int .i64))],[.vec cq 0]⟩,[.fix 0],[⟨.exit 0,⟨53,[],[.vec cq 0]⟩,[.fix 0]⟩],MG⟩
theorem Yf:cu P t27 D1 1 (cA Tryz.f116 1) MH:=fun d=>by kernel_rfl
def MI:LT:=D1.add 1 MH
theorem Yg:ay P 1 MI (aU Tryz.f116):=ay.a hm zz Ye Yf
def D2(d:List G):Option (List G) :=
 (bif (ao ((gi d 1).int+1)) then (aN ((ad (gi d 0).rows.length (gi d 0).rows.length)&&true) (bT MG [.l (gi d 0).rows,.i (gi d 1).int,.i (gi d 2).int,.i ((gi d 1).int+1)]) fun g g3=>some [.l (gi g3 0).rows]) else none)
def D3:aJ:=⟨116,[.s (.vec 0 3),.s (.int .i64),.s (.int .i64),.s (.fn 66)],[.vec cq 0],[.slot 0],[],[.vec cq 0],[.fix 0],[],D2⟩
theorem Yh:aZ P t27 MI Tryz.f116 D3:=fun d=>by kernel_rfl
theorem Yi:aY P D3:=a8 hm zz Tryz.func116 Yg Yh
def t28:ar:=t27.c8 D3
theorem D4:au P t28:=zz.aW Yi

def MJ(d:List G):Option (Option Nat × List G) :=
 (bif (ao ((gi d 2).int-(gi d 1).int)) then (bif (be ((gi d 2).int-(gi d 1).int) 12) then (iK (((ad (gi d 0).rows.length (gi d 0).rows.length)&&true)&&(D2 [.l (gi d 0).rows,.i (gi d 1).int,.i (gi d 2).int]).isSome) (D2 [.l (gi d 0).rows,.i (gi d 1).int,.i (gi d 2).int]) fun g1=>some (some 0,[.l (gi g1 0).rows])) else (bif ((gi d 3).int==0) then none else (bif (!(gi d 4).bool) then none else none))) else none)
def MK:bx:=⟨2,[],⟨148,[(0,.s (.vec 0 3)),(1,.s (.int .i64)),(2,.s (.int .i64)),(3,.s (.int .i64)),(4,.s (.fn 66)),(10,.s (.bool)),(11,.s (.bool))],[.vec cq 0]⟩,[.fix 0],[⟨.ret,⟨148,[],[.vec cq 0]⟩,[.fix 0]⟩],MJ⟩
theorem Yj:cu P t28 aF 1 (cA Tryz.f92 2) MK:=fun d=>by kernel_rfl
def ML:LT:=aF.add 1 MK
theorem Yk:ay P 1 ML (aU Tryz.f92):=ay.a hm D4 (aT _ _ _) Yj
def D5(d:List G):Option (List G) :=
 (aN ((ad (gi d 0).rows.length (gi d 0).rows.length)&&true) (bT MJ [.l (gi d 0).rows,.i (gi d 1).int,.i (gi d 2).int,.i (gi d 3).int,.t true,.t true]) fun g g2=>some [.l (gi g2 0).rows])
def D6:aJ:=⟨92,[.s (.vec 0 3),.s (.int .i64),.s (.int .i64),.s (.int .i64),.s (.fn 66)],[.vec cq 0],[.slot 0],[],[.vec cq 0],[.fix 0],[],D5⟩
theorem Yl:aZ P t28 ML Tryz.f92 D6:=fun d=>by kernel_rfl
theorem Ym:aY P D6:=a8 hm D4 Tryz.func92 Yk Yl
def t29:ar:=t28.c8 D6
theorem MM:au P t29:=D4.aW Ym

def D7(d:List G):Option (List G) :=
 (aA (MB [.i (IntKind.u64.wrap (((gi d 0).rows.length:Nat):Int))]) fun g1=>(iK (((ad (gi d 0).rows.length (gi d 0).rows.length)&&true)&&(D5 [.l (gi d 0).rows,.i 0,.i (((gi d 0).rows.length:Nat):Int),.i (gi g1 0).int]).isSome) (D5 [.l (gi d 0).rows,.i 0,.i (((gi d 0).rows.length:Nat):Int),.i (gi g1 0).int]) fun g2=>some [.l (gi g2 0).rows]))
def D8:aJ:=⟨65,[.s (.vec 0 3),.s (.fn 66)],[.vec cq 0],[.slot 0],[],[.vec cq 0],[.fix 0],[],D7⟩
theorem Yn:aZ P t29 aF Tryz.f65 D8:=fun d=>by kernel_rfl
theorem Yo:aY P D8:=a8 hm MM Tryz.func65 (aT _ _ _) Yn
def t30:ar:=t29.c8 D8
theorem zA:au P t30:=MM.aW Yo

def D9(d:List G):Option (Option Nat × List G) :=
 (bif (gi d 4).bool then (bif (ao ((gi d 1).int-1)) then (bif ((az ((gi d 1).int-1))&&(aj ((gi d 1).int-1) (((gi d 0).rows.length:Nat):Int))) then (bif (decide ((0+((gi d 1).int-1).toNat)<(gi d 0).rows.length)) then (bif ((az (gi d 1).int)&&(aj (gi d 1).int (((gi d 0).rows.length:Nat):Int))) then (bif (decide ((0+((gi d 1).int).toNat)<(gi d 0).rows.length)) then (bif ((ad (gi d 0).rows.length ((gi d 0).rows.set (0+((gi d 1).int).toNat) (bf cq ((gi d 0).rows.getD (0+((gi d 1).int).toNat) []) 0 [.i (gi ((gi d 0).rows.getD (0+((gi d 1).int-1).toNat) []) 0).int])).length)&&true) then some (some 0,[.l ((gi d 0).rows.set (0+((gi d 1).int).toNat) (bf cq ((gi d 0).rows.getD (0+((gi d 1).int).toNat) []) 0 [.i (gi ((gi d 0).rows.getD (0+((gi d 1).int-1).toNat) []) 0).int])),.i (gi d 2).int,.i (gi d 3).int]) else none) else none) else none) else none) else none) else none) else (bif ((ad (gi d 0).rows.length (gi d 0).rows.length)&&true) then some (some 0,[.l (gi d 0).rows,.i (gi d 2).int,.i (gi d 3).int]) else none))
def MN:bx:=⟨7,[],⟨45,[(0,.s (.vec 0 3)),(3,.s (.int .i64)),(7,.s (.int .i64)),(8,.s (.int .i64)),(32,.s (.bool))],[.vec cq 0]⟩,[.fix 0],[⟨.normal,⟨45,[(0,.s (.vec 0 3)),(7,.s (.int .i64)),(8,.s (.int .i64))],[.vec cq 0]⟩,[.fix 0]⟩],D9⟩
theorem Yp:ft P t30 aF 1 (cutAt Tryz.f38 7) MN:=fun d=>by kernel_rfl
def D_:LT:=aF.d_ 1 MN
theorem Yq:ay P 1 D_ (aU Tryz.f38):=ay.aC hm zA (aT _ _ _) Yp
def MO(d:List G):Option (Option Nat × List G) :=
 (bif (aj (gi d 2).int (gi d 1).int) then (bif (ao ((gi d 2).int+1)) then (bif ((az (gi d 2).int)&&(aj (gi d 2).int (((gi d 0).rows.length:Nat):Int))) then (bif (decide ((0+((gi d 2).int).toNat)<(gi d 0).rows.length)) then (bif (aj 0 (gi d 2).int) then (bif ((az (gi d 2).int)&&(aj (gi d 2).int (((gi d 0).rows.length:Nat):Int))) then (bif (decide ((0+((gi d 2).int).toNat)<((gi d 0).rows.set (0+((gi d 2).int).toNat) (bf cq ((gi d 0).rows.getD (0+((gi d 2).int).toNat) []) 0 [.i ((gi d 2).int+1)])).length)) then (bif (ao ((gi d 2).int-1)) then (bif ((az ((gi d 2).int-1))&&(aj ((gi d 2).int-1) (((gi d 0).rows.length:Nat):Int))) then (bif (decide ((0+((gi d 2).int-1).toNat)<((gi d 0).rows.set (0+((gi d 2).int).toNat) (bf cq ((gi d 0).rows.getD (0+((gi d 2).int).toNat) []) 0 [.i ((gi d 2).int+1)])).length)) then (aN ((ad (gi d 0).rows.length ((gi d 0).rows.set (0+((gi d 2).int).toNat) (bf cq ((gi d 0).rows.getD (0+((gi d 2).int).toNat) []) 0 [.i ((gi d 2).int+1)])).length)&&true) (bU (D9 [.l ((gi d 0).rows.set (0+((gi d 2).int).toNat) (bf cq ((gi d 0).rows.getD (0+((gi d 2).int).toNat) []) 0 [.i ((gi d 2).int+1)])),.i (gi d 2).int,.i (gi d 1).int,.i (gi d 2).int,.t ((gi (((gi d 0).rows.set (0+((gi d 2).int).toNat) (bf cq ((gi d 0).rows.getD (0+((gi d 2).int).toNat) []) 0 [.i ((gi d 2).int+1)])).getD (0+((gi d 2).int).toNat) []) 1).int==(gi (((gi d 0).rows.set (0+((gi d 2).int).toNat) (bf cq ((gi d 0).rows.getD (0+((gi d 2).int).toNat) []) 0 [.i ((gi d 2).int+1)])).getD (0+((gi d 2).int-1).toNat) []) 1).int)])) fun g g2=>(bif (ao ((gi g2 2).int+1)) then (bif ((ad (gi g2 0).rows.length (gi g2 0).rows.length)&&true) then some (none,[.l (gi g2 0).rows,.i (gi g2 1).int,.i ((gi g2 2).int+1)]) else none) else none)) else none) else none) else none) else none) else none) else (aN ((ad (gi d 0).rows.length ((gi d 0).rows.set (0+((gi d 2).int).toNat) (bf cq ((gi d 0).rows.getD (0+((gi d 2).int).toNat) []) 0 [.i ((gi d 2).int+1)])).length)&&true) (bU (D9 [.l ((gi d 0).rows.set (0+((gi d 2).int).toNat) (bf cq ((gi d 0).rows.getD (0+((gi d 2).int).toNat) []) 0 [.i ((gi d 2).int+1)])),.i (gi d 2).int,.i (gi d 1).int,.i (gi d 2).int,.t false])) fun h g3=>(bif (ao ((gi g3 2).int+1)) then (bif ((ad (gi g3 0).rows.length (gi g3 0).rows.length)&&true) then some (none,[.l (gi g3 0).rows,.i (gi g3 1).int,.i ((gi g3 2).int+1)]) else none) else none))) else none) else none) else none) else (bif ((ad (gi d 0).rows.length (gi d 0).rows.length)&&true) then some (some 0,[.l (gi d 0).rows]) else none))
def MP:bx:=⟨3,[],⟨45,[(0,.s (.vec 0 3)),(7,.s (.int .i64)),(8,.s (.int .i64))],[.vec cq 0]⟩,[.fix 0],[⟨.exit 0,⟨45,[(0,.s (.vec 0 3))],[.vec cq 0]⟩,[.fix 0]⟩],MO⟩
theorem Yr:cu P t30 D_ 1 (cA Tryz.f38 3) MP:=fun d=>by kernel_rfl
def MQ:LT:=D_.add 1 MP
theorem Ys:ay P 1 MQ (aU Tryz.f38):=ay.a hm zA Yq Yr
def Ea(d:List G):Option (List G) :=
 (iK (((ad (gi d 0).rows.length (gi d 0).rows.length)&&true)&&(D7 [.l (gi d 0).rows]).isSome) (D7 [.l (gi d 0).rows]) fun g1=>(aN ((ad (gi d 0).rows.length (gi g1 0).rows.length)&&true) (bT MO [.l (gi g1 0).rows,.i (((gi d 0).rows.length:Nat):Int),.i 0]) fun g g4=>(bif ((ad (gi g4 0).rows.length (gi g4 0).rows.length)&&true) then some [.l (gi g4 0).rows] else none)))
def Eb:aJ:=⟨38,[.s (.vec 0 3)],[.vec cq 0],[.slot 0],[.s (.vec 0 3)],[.vec cq 0],[.fix 0],[],Ea⟩
theorem Yt:aZ P t30 MQ Tryz.f38 Eb:=fun d=>by kernel_rfl
theorem Yu:aY P Eb:=a8 hm zA Tryz.func38 Ys Yt
def t31:ar:=t30.c8 Eb
theorem Ec:au P t31:=zA.aW Yu

def MR(d:List G):Option (Option Nat × List G) :=
 (bif (aj (gi d 4).int (gi d 3).int) then (bif ((az (gi d 4).int)&&(aj (gi d 4).int (((gi d 2).rows.length:Nat):Int))) then (bif ((gi ((gi d 2).rows.getD (((gi d 4).int).toNat) []) 1).str.toList==(gi d 1).str.toList) then (bif ((ad (gi d 0).rows.length (gi d 0).rows.length)&&(decide (((gi d 0).rows.length+1)≤1048576))) then (bif (ao ((gi d 4).int+1)) then (bif ((ad ((gi d 0).rows++([[.i 0,.i (gi ((gi d 2).rows.getD (((gi d 4).int).toNat) []) 2).int,.s (gi ((gi d 2).rows.getD (((gi d 4).int).toNat) []) 0).str]]:List (List G))).length ((gi d 0).rows++([[.i 0,.i (gi ((gi d 2).rows.getD (((gi d 4).int).toNat) []) 2).int,.s (gi ((gi d 2).rows.getD (((gi d 4).int).toNat) []) 0).str]]:List (List G))).length)&&true) then some (none,[.l ((gi d 0).rows++([[.i 0,.i (gi ((gi d 2).rows.getD (((gi d 4).int).toNat) []) 2).int,.s (gi ((gi d 2).rows.getD (((gi d 4).int).toNat) []) 0).str]]:List (List G))),.s (gi d 1).str,.l (gi d 2).rows,.i (gi d 3).int,.i ((gi d 4).int+1)]) else none) else none) else none) else (bif (ao ((gi d 4).int+1)) then (bif ((ad (gi d 0).rows.length (gi d 0).rows.length)&&true) then some (none,[.l (gi d 0).rows,.s (gi d 1).str,.l (gi d 2).rows,.i (gi d 3).int,.i ((gi d 4).int+1)]) else none) else none)) else none) else (bif ((ad (gi d 0).rows.length (gi d 0).rows.length)&&true) then some (some 0,[.l (gi d 0).rows]) else none))
def MS:bx:=⟨8,[(7,cq)],⟨39,[(1,.s (.str)),(7,.s (.vec 0 3)),(18,.s (.list vm)),(19,.s (.int .i64)),(20,.s (.int .i64))],[.vec cq 0]⟩,[.slot 7],[⟨.exit 0,⟨39,[(7,.s (.vec 0 3))],[.vec cq 0]⟩,[.slot 7]⟩],MR⟩
theorem Yv:cu P t31 aF 0 (cA Tryz.f20 8) MS:=fun d=>by kernel_rfl
def MT:LT:=aF.add 0 MS
theorem Yw:ay P 0 MT (aU Tryz.f20):=ay.a hm Ec (aT _ _ _) Yv
def Yx(d:List G):Option (List G) :=
 (aA (Mw [.l (gi d 0).rows]) fun g1=>(bif ((gi g1 0).int != 0) then some [.l [],.i (gi g1 0).int] else (aA (og [.s (gi d 1).str]) fun g2=>(bif (!(gi g2 0).bool) then some [.l [],.i 5] else (aN true (bT MR [.l [],.s (gi d 1).str,.l (gi d 0).rows,.i (((gi d 0).rows.length:Nat):Int),.i 0]) fun g g3=>(iK (((ad (gi g3 0).rows.length (gi g3 0).rows.length)&&true)&&(Ea [.l (gi g3 0).rows]).isSome) (Ea [.l (gi g3 0).rows]) fun g4=>(bif ((ad (gi g4 0).rows.length (gi g4 0).rows.length)&&true) then some [.l (gi g4 0).rows,.i 0] else none)))))))
def Ed:aJ:=⟨20,[.s (.list vm),.s (.str)],[],[],[.s (.list cq),.s (.int .i64)],[],[],[],Yx⟩
theorem Yy:aZ P t31 MT Tryz.f20 Ed:=fun d=>by kernel_rfl
theorem Yz:aY P Ed:=a8 hm Ec Tryz.func20 Yw Yy
def t32:ar:=t31.bD Ed
theorem Ee:au P t32:=Ec.aP Yz

def MU(d:List G):Option (Option Nat × List G) :=
 (bif (aj (gi d 1).int (gi d 2).int) then (bif ((az (gi d 2).int)&&(aj (gi d 2).int (((gi d 0).rows.length:Nat):Int))) then (bif (decide ((0+((gi d 2).int).toNat)<(gi d 0).rows.length)) then (bif ((az (gi d 1).int)&&(aj (gi d 1).int (((gi d 0).rows.length:Nat):Int))) then (bif (decide ((0+((gi d 1).int).toNat)<(gi d 0).rows.length)) then (bif ((az (gi d 1).int)&&(aj (gi d 1).int (((gi d 0).rows.length:Nat):Int))) then (bif (decide ((0+((gi d 1).int).toNat)<(gi d 0).rows.length)) then (bif ((az (gi d 2).int)&&(aj (gi d 2).int (((gi d 0).rows.length:Nat):Int))) then (bif (decide ((0+((gi d 2).int).toNat)<((gi d 0).rows.set (0+((gi d 1).int).toNat) (bf [.int .i64] ((gi d 0).rows.getD (0+((gi d 1).int).toNat) []) 0 [.i (gi ((gi d 0).rows.getD (0+((gi d 2).int).toNat) []) 0).int])).length)) then (bif (ao ((gi d 1).int+1)) then (bif (ao ((gi d 2).int-1)) then (bif ((ad (gi d 0).rows.length (((gi d 0).rows.set (0+((gi d 1).int).toNat) (bf [.int .i64] ((gi d 0).rows.getD (0+((gi d 1).int).toNat) []) 0 [.i (gi ((gi d 0).rows.getD (0+((gi d 2).int).toNat) []) 0).int])).set (0+((gi d 2).int).toNat) (bf [.int .i64] (((gi d 0).rows.set (0+((gi d 1).int).toNat) (bf [.int .i64] ((gi d 0).rows.getD (0+((gi d 1).int).toNat) []) 0 [.i (gi ((gi d 0).rows.getD (0+((gi d 2).int).toNat) []) 0).int])).getD (0+((gi d 2).int).toNat) []) 0 [.i (gi ((gi d 0).rows.getD (0+((gi d 1).int).toNat) []) 0).int])).length)&&true) then some (none,[.l (((gi d 0).rows.set (0+((gi d 1).int).toNat) (bf [.int .i64] ((gi d 0).rows.getD (0+((gi d 1).int).toNat) []) 0 [.i (gi ((gi d 0).rows.getD (0+((gi d 2).int).toNat) []) 0).int])).set (0+((gi d 2).int).toNat) (bf [.int .i64] (((gi d 0).rows.set (0+((gi d 1).int).toNat) (bf [.int .i64] ((gi d 0).rows.getD (0+((gi d 1).int).toNat) []) 0 [.i (gi ((gi d 0).rows.getD (0+((gi d 2).int).toNat) []) 0).int])).getD (0+((gi d 2).int).toNat) []) 0 [.i (gi ((gi d 0).rows.getD (0+((gi d 1).int).toNat) []) 0).int])),.i ((gi d 1).int+1),.i ((gi d 2).int-1)]) else none) else none) else none) else none) else none) else none) else none) else none) else none) else none) else none) else some (some 0,[.l (gi d 0).rows]))
def MV:bx:=⟨1,[],⟨28,[(0,.s (.vec 0 1)),(2,.s (.int .i64)),(3,.s (.int .i64))],[.vec [.int .i64] 0]⟩,[.fix 0],[⟨.exit 0,⟨28,[],[.vec [.int .i64] 0]⟩,[.fix 0]⟩],MU⟩
theorem YA:cu P t32 aF 1 (cA Tryz.f129 1) MV:=fun d=>by kernel_rfl
def MW:LT:=aF.add 1 MV
theorem YB:ay P 1 MW (aU Tryz.f129):=ay.a hm Ee (aT _ _ _) YA
def YC(d:List G):Option (List G) :=
 (bif (ao ((((gi d 0).rows.length:Nat):Int)-1)) then (aN ((ad (gi d 0).rows.length (gi d 0).rows.length)&&true) (bT MU [.l (gi d 0).rows,.i 0,.i ((((gi d 0).rows.length:Nat):Int)-1)]) fun g g1=>some [.l (gi g1 0).rows]) else none)
def Ef:aJ:=⟨129,[.s (.vec 0 1)],[.vec [.int .i64] 0],[.slot 0],[],[.vec [.int .i64] 0],[.fix 0],[],YC⟩
theorem YD:aZ P t32 MW Tryz.f129 Ef:=fun d=>by kernel_rfl
theorem YE:aY P Ef:=a8 hm Ee Tryz.func129 YB YD
def t33:ar:=t32.c8 Ef
theorem Eg:au P t33:=Ee.aW YE

def zB(r d:List G):Option (List G) :=
 (bif (ao ((gi (aw [.int .i64] (gi d 6).rows [.i (gi (gi r 0).row 1).int] [.i 0]) 0).int+1)) then (bif ((((ad (gi d 3).rows.length (gi d 3).rows.length)&&true)&&true)&&true) then some [.l (gi d 0).rows,.l (gi d 1).rows,.l (gi d 2).rows,.l (gi d 3).rows,.l (gi d 4).rows,.i (((gi d 5).int.toNat:Nat):Int),.l (aI [.int .i64] (gi d 6).rows [.i (gi (gi r 0).row 1).int] [.i ((gi (aw [.int .i64] (gi d 6).rows [.i (gi (gi r 0).row 1).int] [.i 0]) 0).int+1)] (gi d 7).int.toNat),.i (((bl [.int .i64] (gi d 6).rows [.i (gi (gi r 0).row 1).int] (gi d 7).int.toNat):Nat):Int),.i (((gi d 8).int.toNat:Nat):Int)] else none) else none)
def MX(d:List G)(b:Nat):List G:=[.l (gi d 0).rows,.l (gi d 1).rows,.l (gi d 2).rows,.l (gi d 3).rows,.l (gi d 4).rows,.i (((gi d 5).int.toNat:Nat):Int),.l (gi d 6).rows,.i (((gi d 7).int.toNat:Nat):Int),.i (b:Int)]
def YF(d:List G)(b:Nat):Bool:=((((ad (gi d 3).rows.length (gi d 3).rows.length)&&true)&&true)&&true)
def kY:fv:=⟨⟨21,[(3,.s (.map 3)),(10,.s (.addr))],[.box [.vec 1 15,.list ai,.list [.str],.list [.int .i64],.map 2],.vec pS 0,.map (.agg [.str,.int .i64]) (.one (.bool)),.map (.one (.int .i64)) (.one (.int .i64))]⟩,[.fix 0,.cell 0 0,.cell 0 4,.slot 3],[],(.agg [.str,.int .i64]),(.one (.bool)),2,0,9,10,11,12,13,fun d=>(gi d 8).int.toNat,MX,YF,zB⟩
theorem YG:jJ P t33 aF 3 kY (ob (cutAt Tryz.f71 2)) (rP (cutAt Tryz.f71 2)):=fun r d=>by kernel_rfl
def rZ(d:List G):Option (Option Nat × List G) :=
 (bif ((((ad (gi d 3).rows.length (gi d 3).rows.length)&&true)&&true)&&true) then some (some 0,[.l (gi d 0).rows,.l (gi d 1).rows,.l (gi d 2).rows,.l (gi d 3).rows,.l (gi d 4).rows,.i (((gi d 5).int.toNat:Nat):Int),.l (gi d 6).rows,.i (((gi d 7).int.toNat:Nat):Int)]) else none)
def MY:bx:=⟨6,[],⟨21,[(3,.s (.map 3)),(10,.s (.addr))],[.box [.vec 1 15,.list ai,.list [.str],.list [.int .i64],.map 2],.vec pS 0,.map (.agg [.str,.int .i64]) (.one (.bool)),.map (.one (.int .i64)) (.one (.int .i64))]⟩,[],[⟨.ret,⟨21,[(2,.s (.map 3))],[.box [.vec 1 15,.list ai,.list [.str],.list [.int .i64],.map 2],.vec pS 0,.map (.agg [.str,.int .i64]) (.one (.bool)),.map (.one (.int .i64)) (.one (.int .i64))]⟩,[.fix 0,.cell 0 0,.cell 0 4,.slot 2]⟩],rZ⟩
theorem YH:ft P t33 aF 3 (rO (cutAt Tryz.f71 2)) MY:=fun d=>by kernel_rfl
def MZ(d:List G):Option (Option Nat × List G) :=
 jK kY rZ (gi d 4).rows ((gi d 5).int.toNat) d
def Eh:bx:=⟨2,[],⟨21,[(0,.s (.ptr 0 0)),(3,.s (.map 3))],[.box [.vec 1 15,.list ai,.list [.str],.list [.int .i64],.map 2],.vec pS 0,.map (.agg [.str,.int .i64]) (.one (.bool)),.map (.one (.int .i64)) (.one (.int .i64))]⟩,[.fix 0,.cell 0 0,.cell 0 4,.slot 3],[⟨.ret,⟨21,[(2,.s (.map 3))],[.box [.vec 1 15,.list ai,.list [.str],.list [.int .i64],.map 2],.vec pS 0,.map (.agg [.str,.int .i64]) (.one (.bool)),.map (.one (.int .i64)) (.one (.int .i64))]⟩,[.fix 0,.cell 0 0,.cell 0 4,.slot 2]⟩],MZ⟩
def M0:LT:=aF.d_ 3 Eh
theorem YI:∀ r d d',zB r d=some d'→(gi d' 4).rows=(gi d 4).rows∧(gi d' 5).int.toNat=(gi d 5).int.toNat:=by
 intro r d d' h;unfold zB at h;simp only[Bool.cond_eq_ite]at h
 repeat' split at h
 all_goals first|(cases h; done)|(cases h; exact⟨rfl,rfl⟩)
theorem YJ:ay P 3 M0 (aU Tryz.f71):=ay.Vw (q:=Eh) (qr:=MY) (sp:=kY) (r0:=2) (b0:=0) (r1:=3) (b1:=1) (r2:=4) (rows:=fun d=>(gi d 4).rows) (clock:=fun d=>(gi d 5).int.toNat) (pre:=fun d=>K4 P t33 (lC (cutAt Tryz.f71 2)) (aO Eh.inv d)) (ri:=fun d=>(gi d 4).rows) (ci:=fun d=>(gi d 5).int.toNat) hm Eg (fun d=>by kernel_rfl) YI (by kernel_rfl) (by kernel_rfl) (aT _ _ _) (by kernel_rfl) (by kernel_rfl) YG (fun d=>by kernel_rfl) (fun d=>by kernel_rfl) (fun d=>by kernel_rfl) (fun d=>by kernel_rfl) (fun d=>by kernel_rfl) (fun d=>by kernel_rfl) (fun d b=>by kernel_rfl) (fun d b=>rfl) (fun d b=>⟨rfl,rfl⟩) rfl rfl YH (fun d=>rfl)
def M1(d:List G):Option (List G) :=
 (aN ((((ad (gi d 3).rows.length (gi d 3).rows.length)&&true)&&true)&&true) (bU (MZ [.l (gi d 0).rows,.l (gi d 1).rows,.l (gi d 2).rows,.l (gi d 3).rows,.l (gi d 4).rows,.i (((gi d 5).int.toNat:Nat):Int),.l [],.i 0])) fun g g1=>(bif ((((ad (gi g1 3).rows.length (gi g1 3).rows.length)&&true)&&true)&&true) then some [.l (gi g1 0).rows,.l (gi g1 1).rows,.l (gi g1 2).rows,.l (gi g1 3).rows,.l (gi g1 4).rows,.i (((gi g1 5).int.toNat:Nat):Int),.l (gi g1 6).rows,.i (((gi g1 7).int.toNat:Nat):Int)] else none))
def zC:aJ:=⟨71,[.s (.ptr 0 0)],[.box [.vec 1 15,.list ai,.list [.str],.list [.int .i64],.map 2],.vec pS 0,.map (.agg [.str,.int .i64]) (.one (.bool))],[.slot 0,.cell 0 0,.cell 0 4],[.s (.map 3)],[.box [.vec 1 15,.list ai,.list [.str],.list [.int .i64],.map 2],.vec pS 0,.map (.agg [.str,.int .i64]) (.one (.bool)),.map (.one (.int .i64)) (.one (.int .i64))],[.fix 0,.fix 1,.fix 2,.slot 0],[],M1⟩
theorem YK:aZ P t33 M0 Tryz.f71 zC:=fun d=>by kernel_rfl
theorem M2:aY P zC:=a8 hm Eg Tryz.func71 YJ YK
def t34:ar:=t33.c8 zC
theorem M3:au P t34:=Eg.aW M2

theorem YL:u_ P ⟨151,74,73,15,15,true⟩:=Vq Tryz.func151 (by kernel_rfl) rfl rfl rfl ⟨⟨_,_,_,_,_,_,rfl,⟨rfl,rfl,rfl⟩,⟨rfl,rfl,rfl⟩,⟨rfl,rfl,rfl⟩,⟨rfl,rfl,rfl⟩⟩,⟨_,_,_,_,rfl,⟨rfl,rfl,rfl⟩,⟨rfl,rfl,rfl⟩⟩,⟨_,_,_,_,_,rfl,⟨rfl,rfl,rfl⟩,⟨rfl,rfl,rfl⟩,⟨rfl,rfl,rfl⟩⟩,⟨_,_,_,_,_,_,_,_,_,_,rfl,⟨rfl,rfl,rfl⟩,⟨rfl,rfl,rfl⟩,⟨rfl,rfl,rfl⟩,⟨rfl,rfl,rfl⟩,⟨rfl,rfl,rfl⟩,⟨rfl,rfl,rfl⟩,⟨rfl,rfl,rfl⟩,⟨rfl,rfl,rfl⟩⟩⟩ (by kernel_rfl)
def YM(d:List G):Option (Option Nat × List G) :=
 Dj kY rZ (gi d 4).rows ((gi d 5).int.toNat) d
theorem YN(d x:List G)(b:Nat):(cH kY.st kY.a7 [x] (kY.init d b)).bind rZ=(cH kY.st kY.a7 [x] (kY.init d 0)).bind rZ:=by
 simp only[VA,kY];unfold zB MX rZ;dsimp +instances only[Lf,Lg];simp only[VB,Option.bind_some,Option.bind_none];dsimp +instances only[Lf,Lg];simp only[Vx,Int.toNat_natCast,Vy,cond_true]
def M4(d:List G):Option (List G) :=
 (aN ((((ad (gi d 3).rows.length (gi d 3).rows.length)&&true)&&true)&&true) (bU (YM [.l (gi d 0).rows,.l (gi d 1).rows,.l (gi d 2).rows,.l (gi d 3).rows,.l (gi d 4).rows,.i (((gi d 5).int.toNat:Nat):Int),.l [],.i 0])) fun g g1=>(bif ((((ad (gi g1 3).rows.length (gi g1 3).rows.length)&&true)&&true)&&true) then some [.l (gi g1 0).rows,.l (gi g1 1).rows,.l (gi g1 2).rows,.l (gi g1 3).rows,.l (gi g1 4).rows,.i (((gi g1 5).int.toNat:Nat):Int),.l (gi g1 6).rows,.i (((gi g1 7).int.toNat:Nat):Int)] else none))
theorem YO{d r:List G}(h:M4 d=some r):M1 d=some r :=
 VC (fun v g=>Vz (fun b=>rfl) (YN _) g) h
def YP:aJ:={ zC with F:=M4 }
def M5:ar:=t34.c8 YP
theorem YQ:au P M5:=M3.aW fun d r h=>M2 d r (YO h)
def M6:ar:=M5.inline P 149 Tryz.f149 []
theorem YR:au P M6:=YQ.inline hm Tryz.func149 (by kernel_rfl) []
def M7:ar:=M6.inline P 150 Tryz.f150 []
theorem YS:au P M7:=YR.inline hm Tryz.func150 (by kernel_rfl) []
def M8:ar:=M7.inline P 126 Tryz.f126 []
theorem YT:au P M8:=YS.inline hm Tryz.func126 (by kernel_rfl) []
def M9:ar:=M8.inline P 95 Tryz.f95 []
theorem YU:au P M9:=YT.inline hm Tryz.func95 (by kernel_rfl) []
def M_:ar:=M9.inline P 68 Tryz.f68 []
theorem YV:au P M_:=YU.inline hm Tryz.func68 (by kernel_rfl) []
def Na:ar:=M_.eQ P 128 Tryz.f128
theorem YW:au P Na:=YV.eQ hm Tryz.func128 (by kernel_rfl) (by kernel_rfl)
def Nb:ar:=Na.y8 P ⟨151,74,73,15,15,true⟩ 3 96 Tryz.f96 [some [.int .i64]]
theorem YX:au P Nb:=YW.y8 hm YL Tryz.func96 (by kernel_rfl) (by kernel_rfl) [some [.int .i64]]
def Nc:ar:=Nb.eQ P 57 Tryz.f57
theorem YY:au P Nc:=YX.eQ hm Tryz.func57 (by kernel_rfl) (by kernel_rfl)
def Nd:ar:=Nc.eQ P 130 Tryz.f130
theorem YZ:au P Nd:=YY.eQ hm Tryz.func130 (by kernel_rfl) (by kernel_rfl)
def Nf:ar:=Nd.eQ P 98 Tryz.f98
theorem Y0:au P Nf:=YZ.eQ hm Tryz.func98 (by kernel_rfl) (by kernel_rfl)
def Ng:ar:=Nf.inline P 97 Tryz.f97 []
theorem Y1:au P Ng:=Y0.inline hm Tryz.func97 (by kernel_rfl) []
def Nh:ar:=Ng.eQ P 69 Tryz.f69
theorem Y2:au P Nh:=Y1.eQ hm Tryz.func69 (by kernel_rfl) (by kernel_rfl)
def Ni:ar:=Nh.eQ P 39 Tryz.f39
theorem Y3:au P Ni:=Y2.eQ hm Tryz.func39 (by kernel_rfl) (by kernel_rfl)
def Nj:ar:=Ni.eQ P 70 Tryz.f70
theorem Y4:au P Nj:=Y3.eQ hm Tryz.func70 (by kernel_rfl) (by kernel_rfl)
def Nk:ar:=Nj.eQ P 40 Tryz.f40
theorem Y5:au P Nk:=Y4.eQ hm Tryz.func40 (by kernel_rfl) (by kernel_rfl)
def Y6:ar:=Nk.inline P 21 Tryz.f21 []
theorem Y7:au P Y6:=Y5.inline hm Tryz.func21 (by kernel_rfl) []
theorem Y8:eg P 5 [] (.lit (.bool true)):=gv (L:=aF) hm Y7 [] (fun _ _=>aT _ _ _) Tryz.func5 rfl (by kernel_rfl) (by kernel_rfl)
def r7(_:List G):Option (List G):=some [.t true]
def vz:aJ:=⟨5,[],[],[],[.s (.bool)],[],[],[],r7⟩
theorem Y9:∀ d r,r7 d=some r→dG P 5 (vz.args0 d) (ak (vz.H0 d)) (vz.out r) (ak (vz.H1 r)):=fun d r h=>by
 cases (show some [G.t true]=some r from h);exact Y8 []
def t35:ar:=t34.bD vz
theorem Nl:au P t35:=M3.aP Y9


def r8(d:List G):Option (List G) :=
 (bif (aj (gi d 1).int 1) then some [.i 0] else (bif (!((gi d 1).int==0)) then (bif (aj (jt (gi d 0).int (gi d 1).int) 0) then (bif (ao ((jt (gi d 0).int (gi d 1).int)+(gi d 1).int)) then some [.i ((jt (gi d 0).int (gi d 1).int)+(gi d 1).int)] else none) else some [.i (jt (gi d 0).int (gi d 1).int)]) else none))
def Ei:aJ:=⟨32,[.s (.int .i64),.s (.int .i64)],[],[],[.s (.int .i64)],[],[],[],r8⟩
theorem Y_:aZ P t35 aF Tryz.f32 Ei:=fun d=>by kernel_rfl
theorem Y':aY P Ei:=a8 hm Nl Tryz.func32 (aT _ _ _) Y_
def t36:ar:=t35.bD Ei
theorem Nn:au P t36:=Nl.aP Y'

def oh(d:List G):Option (List G) :=
 (bif (ao ((gi d 1).int+1)) then (bif ((((gi d 0).rows.length:Nat):Int)==0) then (bif (ao (((gi d 1).int+1)*7919)) then (aA (r8 [.i (((gi d 1).int+1)*7919),.i (gi d 2).int]) fun g1=>some [.l (gi d 0).rows,.i ((gi d 1).int+1),.i (gi g1 0).int]) else none) else (bif (ao (((gi d 1).int+1)-1)) then (bif (!((((gi d 0).rows.length:Nat):Int)==0)) then (bif (ao (((gi d 1).int+1)-1)) then (bif ((!((((gi d 0).rows.length:Nat):Int)==0))&&(ao (nq (((gi d 1).int+1)-1) (((gi d 0).rows.length:Nat):Int)))) then (bif ((az (jt (((gi d 1).int+1)-1) (((gi d 0).rows.length:Nat):Int)))&&(aj (jt (((gi d 1).int+1)-1) (((gi d 0).rows.length:Nat):Int)) (((gi d 0).rows.length:Nat):Int))) then (aA (r8 [.i (gi ((gi d 0).rows.getD ((jt (((gi d 1).int+1)-1) (((gi d 0).rows.length:Nat):Int)).toNat) []) 0).int,.i 1073741824]) fun g2=>(bif (ao (7919+(jt (((gi d 1).int+1)-1) (((gi d 0).rows.length:Nat):Int)))) then (bif (ao ((nq (((gi d 1).int+1)-1) (((gi d 0).rows.length:Nat):Int))*(7919+(jt (((gi d 1).int+1)-1) (((gi d 0).rows.length:Nat):Int))))) then (bif (ao ((gi g2 0).int+((nq (((gi d 1).int+1)-1) (((gi d 0).rows.length:Nat):Int))*(7919+(jt (((gi d 1).int+1)-1) (((gi d 0).rows.length:Nat):Int)))))) then (aA (r8 [.i ((gi g2 0).int+((nq (((gi d 1).int+1)-1) (((gi d 0).rows.length:Nat):Int))*(7919+(jt (((gi d 1).int+1)-1) (((gi d 0).rows.length:Nat):Int))))),.i (gi d 2).int]) fun g3=>some [.l (gi d 0).rows,.i ((gi d 1).int+1),.i (gi g3 0).int]) else none) else none) else none)) else none) else none) else none) else none) else none)) else none)
def Ej:aJ:=⟨14,[.s (.ptr 0 0),.s (.int .i64)],[.box [.list [.int .i64],.int .i64]],[.slot 0],[.s (.int .i64)],[.box [.list [.int .i64],.int .i64]],[.fix 0],[],oh⟩
theorem Za:aZ P t36 aF Tryz.f14 Ej:=fun d=>by kernel_rfl
theorem Zb:aY P Ej:=a8 hm Nn Tryz.func14 (aT _ _ _) Za
def t37:ar:=t36.c8 Ej
theorem No:au P t37:=Nn.aW Zb

def vA(d:List G):Option (List G) :=
 (bif (aj (gi d 3).int (gi d 2).int) then some [.l (gi d 0).rows,.i (gi d 1).int,.i (gi d 2).int] else (bif (ao ((gi d 3).int-(gi d 2).int)) then (bif (ao (((gi d 3).int-(gi d 2).int)+1)) then (aA (oh [.l (gi d 0).rows,.i (gi d 1).int,.i (((gi d 3).int-(gi d 2).int)+1)]) fun g1=>(bif (ao ((gi d 2).int+(gi g1 2).int)) then some [.l (gi g1 0).rows,.i (gi g1 1).int,.i ((gi d 2).int+(gi g1 2).int)] else none)) else none) else none))
def Ek:aJ:=⟨11,[.s (.ptr 0 0),.s (.int .i64),.s (.int .i64)],[.box [.list [.int .i64],.int .i64]],[.slot 0],[.s (.int .i64)],[.box [.list [.int .i64],.int .i64]],[.fix 0],[],vA⟩
theorem Zc:aZ P t37 aF Tryz.f11 Ek:=fun d=>by kernel_rfl
theorem Zd:aY P Ek:=a8 hm No Tryz.func11 (aT _ _ _) Zc
def t38:ar:=t37.c8 Ek
theorem Np:au P t38:=No.aW Zd

def pW(d:List G):Option (List G) :=
 (aA (oh [.l (gi d 0).rows,.i (gi d 1).int,.i (((gi d 2).rows.length:Nat):Int)]) fun g1=>(bif ((az (gi g1 2).int)&&(aj (gi g1 2).int (((gi d 2).rows.length:Nat):Int))) then some [.l (gi g1 0).rows,.i (gi g1 1).int,.i (gi ((gi d 2).rows.getD (((gi g1 2).int).toNat) []) 0).int] else none))
def El:aJ:=⟨12,[.s (.ptr 0 0),.s (.list [.int .i64])],[.box [.list [.int .i64],.int .i64]],[.slot 0],[.s (.int .i64)],[.box [.list [.int .i64],.int .i64]],[.fix 0],[],pW⟩
theorem Ze:aZ P t38 aF Tryz.f12 El:=fun d=>by kernel_rfl
theorem Zf:aY P El:=a8 hm Np Tryz.func12 (aT _ _ _) Ze
def t39:ar:=t38.c8 El
theorem Nq:au P t39:=Np.aW Zf

def lH(d:List G):Option (List G) :=
 (aA (oh [.l (gi d 0).rows,.i (gi d 1).int,.i (((gi d 2).rows.length:Nat):Int)]) fun g1=>(bif ((az (gi g1 2).int)&&(aj (gi g1 2).int (((gi d 2).rows.length:Nat):Int))) then some [.l (gi g1 0).rows,.i (gi g1 1).int,.s (gi ((gi d 2).rows.getD (((gi g1 2).int).toNat) []) 0).str] else none))
def Em:aJ:=⟨13,[.s (.ptr 0 0),.s (.list [.str])],[.box [.list [.int .i64],.int .i64]],[.slot 0],[.s (.str)],[.box [.list [.int .i64],.int .i64]],[.fix 0],[],lH⟩
theorem Zg:aZ P t39 aF Tryz.f13 Em:=fun d=>by kernel_rfl
theorem Zh:aY P Em:=a8 hm Nq Tryz.func13 (aT _ _ _) Zg
def t40:ar:=t39.c8 Em
theorem Nr:au P t40:=Nq.aW Zh

def zD(d:List G):Option (List G) :=
 (aA (oh [.l (gi d 0).rows,.i (gi d 1).int,.i (gi d 2).int]) fun g1=>some [.l (gi g1 0).rows,.i (gi g1 1).int,.t ((gi g1 2).int==0)])
def En:aJ:=⟨15,[.s (.ptr 0 0),.s (.int .i64)],[.box [.list [.int .i64],.int .i64]],[.slot 0],[.s (.bool)],[.box [.list [.int .i64],.int .i64]],[.fix 0],[],zD⟩
theorem Zi:aZ P t40 aF Tryz.f15 En:=fun d=>by kernel_rfl
theorem Zj:aY P En:=a8 hm Nr Tryz.func15 (aT _ _ _) Zi
def t41:ar:=t40.c8 En
theorem Ns:au P t41:=Nr.aW Zj

def vB(d:List G):Option (List G) :=
 (bif (aj (gi d 0).int 0) then some [.i (-1)] else (bif (aj 0 (gi d 0).int) then some [.i 1] else some [.i 0]))
def Eo:aJ:=⟨34,[.s (.int .i64)],[],[],[.s (.int .i64)],[],[],[],vB⟩
theorem Zk:aZ P t41 aF Tryz.f34 Eo:=fun d=>by kernel_rfl
theorem Zl:aY P Eo:=a8 hm Ns Tryz.func34 (aT _ _ _) Zk
def t42:ar:=t41.bD Eo
theorem Nt:au P t42:=Ns.aP Zl

def r9(d:List G):Option (List G) :=
 (bif ((gi (gi d 0).row 0).int != (gi (gi d 1).row 0).int) then (bif (ao ((gi (gi d 0).row 0).int-(gi (gi d 1).row 0).int)) then (aA (vB [.i ((gi (gi d 0).row 0).int-(gi (gi d 1).row 0).int)]) fun g1=>some [.i (gi g1 0).int]) else none) else (bif (!((gi (gi d 0).row 3).str.toList==(gi (gi d 1).row 3).str.toList)) then (aA (fM [.s (gi (gi d 0).row 3).str,.s (gi (gi d 1).row 3).str]) fun g2=>some [.i (gi g2 0).int]) else (bif (!((gi (gi d 0).row 2).str.toList==(gi (gi d 1).row 2).str.toList)) then (aA (fM [.s (gi (gi d 0).row 2).str,.s (gi (gi d 1).row 2).str]) fun g3=>some [.i (gi g3 0).int]) else (bif (ao ((gi (gi d 0).row 1).int-(gi (gi d 1).row 1).int)) then (aA (vB [.i ((gi (gi d 0).row 1).int-(gi (gi d 1).row 1).int)]) fun g4=>some [.i (gi g4 0).int]) else none))))
def Ep:aJ:=⟨17,[.s (.row ai),.s (.row ai)],[],[],[.s (.int .i64)],[],[],[],r9⟩
theorem Zm:aZ P t42 aF Tryz.f17 Ep:=fun d=>by kernel_rfl
theorem Zn:aY P Ep:=a8 hm Nt Tryz.func17 (aT _ _ _) Zm
def t43:ar:=t42.bD Ep
theorem zF:au P t43:=Nt.aP Zn

def Nu(d:List G):Option (Option Nat × List G) :=
 (bif (aj (gi d 1).int (gi d 4).int) then (bif ((az (gi d 4).int)&&(aj (gi d 4).int (((gi d 0).rows.length:Nat):Int))) then (bif (decide ((0+((gi d 4).int).toNat)<(gi d 0).rows.length)) then (bif (ao ((gi d 4).int-1)) then (bif ((az ((gi d 4).int-1))&&(aj ((gi d 4).int-1) (((gi d 0).rows.length:Nat):Int))) then (bif (decide ((0+((gi d 4).int-1).toNat)<(gi d 0).rows.length)) then (aA (r9 [.l [(aH ai ((gi d 0).rows.getD (0+((gi d 4).int).toNat) []))],.l [(aH ai ((gi d 0).rows.getD (0+((gi d 4).int-1).toNat) []))]]) fun g1=>(bif (aj (gi g1 0).int 0) then (bif (ao ((gi d 4).int-1)) then (bif (ao ((gi d 4).int-1)) then (bif ((az ((gi d 4).int-1))&&(aj ((gi d 4).int-1) (((gi d 0).rows.length:Nat):Int))) then (bif (decide ((0+((gi d 4).int-1).toNat)<(gi d 0).rows.length)) then (bif ((az (gi d 4).int)&&(aj (gi d 4).int (((gi d 0).rows.length:Nat):Int))) then (bif (decide ((0+((gi d 4).int).toNat)<(gi d 0).rows.length)) then (bif ((az (gi d 4).int)&&(aj (gi d 4).int (((gi d 0).rows.length:Nat):Int))) then (bif (decide ((0+((gi d 4).int).toNat)<(gi d 0).rows.length)) then (bif ((az ((gi d 4).int-1))&&(aj ((gi d 4).int-1) (((gi d 0).rows.length:Nat):Int))) then (bif (decide ((0+((gi d 4).int-1).toNat)<((gi d 0).rows.set (0+((gi d 4).int).toNat) (bf ai ((gi d 0).rows.getD (0+((gi d 4).int).toNat) []) 0 (aH ai ((gi d 0).rows.getD (0+((gi d 4).int-1).toNat) [])))).length)) then (bif (ao ((gi d 4).int-1)) then (bif ((ad (gi d 0).rows.length (((gi d 0).rows.set (0+((gi d 4).int).toNat) (bf ai ((gi d 0).rows.getD (0+((gi d 4).int).toNat) []) 0 (aH ai ((gi d 0).rows.getD (0+((gi d 4).int-1).toNat) [])))).set (0+((gi d 4).int-1).toNat) (bf ai (((gi d 0).rows.set (0+((gi d 4).int).toNat) (bf ai ((gi d 0).rows.getD (0+((gi d 4).int).toNat) []) 0 (aH ai ((gi d 0).rows.getD (0+((gi d 4).int-1).toNat) [])))).getD (0+((gi d 4).int-1).toNat) []) 0 (aH ai ((gi d 0).rows.getD (0+((gi d 4).int).toNat) [])))).length)&&true) then some (none,[.l (((gi d 0).rows.set (0+((gi d 4).int).toNat) (bf ai ((gi d 0).rows.getD (0+((gi d 4).int).toNat) []) 0 (aH ai ((gi d 0).rows.getD (0+((gi d 4).int-1).toNat) [])))).set (0+((gi d 4).int-1).toNat) (bf ai (((gi d 0).rows.set (0+((gi d 4).int).toNat) (bf ai ((gi d 0).rows.getD (0+((gi d 4).int).toNat) []) 0 (aH ai ((gi d 0).rows.getD (0+((gi d 4).int-1).toNat) [])))).getD (0+((gi d 4).int-1).toNat) []) 0 (aH ai ((gi d 0).rows.getD (0+((gi d 4).int).toNat) [])))),.i (gi d 1).int,.i (gi d 2).int,.i (gi d 3).int,.i ((gi d 4).int-1)]) else none) else none) else none) else none) else none) else none) else none) else none) else none) else none) else none) else none) else (bif ((ad (gi d 0).rows.length (gi d 0).rows.length)&&true) then some (some 0,[.l (gi d 0).rows,.i (gi d 1).int,.i (gi d 2).int,.i (gi d 3).int]) else none))) else none) else none) else none) else none) else none) else (bif ((ad (gi d 0).rows.length (gi d 0).rows.length)&&true) then some (some 0,[.l (gi d 0).rows,.i (gi d 1).int,.i (gi d 2).int,.i (gi d 3).int]) else none))
def Nv:bx:=⟨4,[],⟨53,[(0,.s (.vec 0 8)),(1,.s (.int .i64)),(2,.s (.int .i64)),(3,.s (.fn 17)),(8,.s (.int .i64)),(9,.s (.int .i64))],[.vec ai 0]⟩,[.fix 0],[⟨.exit 2,⟨53,[(0,.s (.vec 0 8)),(1,.s (.int .i64)),(2,.s (.int .i64)),(3,.s (.fn 17)),(8,.s (.int .i64))],[.vec ai 0]⟩,[.fix 0]⟩],Nu⟩
theorem Zo:cu P t43 aF 1 (cA Tryz.f57 4) Nv:=fun d=>by kernel_rfl
def Er:LT:=aF.add 1 Nv
theorem Zp:ay P 1 Er (aU Tryz.f57):=ay.a hm zF (aT _ _ _) Zo
def Nw(d:List G):Option (Option Nat × List G) :=
 (bif (aj (gi d 3).int (gi d 2).int) then (aN ((ad (gi d 0).rows.length (gi d 0).rows.length)&&true) (bT Nu [.l (gi d 0).rows,.i (gi d 1).int,.i (gi d 2).int,.i (gi d 3).int,.i (gi d 3).int]) fun g g2=>(bif (ao ((gi g2 3).int+1)) then (bif ((ad (gi g2 0).rows.length (gi g2 0).rows.length)&&true) then some (none,[.l (gi g2 0).rows,.i (gi g2 1).int,.i (gi g2 2).int,.i ((gi g2 3).int+1)]) else none) else none)) else some (some 0,[.l (gi d 0).rows]))
def Nx:bx:=⟨1,[],⟨53,[(0,.s (.vec 0 8)),(1,.s (.int .i64)),(2,.s (.int .i64)),(3,.s (.fn 17)),(8,.s (.int .i64))],[.vec ai 0]⟩,[.fix 0],[⟨.exit 0,⟨53,[],[.vec ai 0]⟩,[.fix 0]⟩],Nw⟩
theorem Zq:cu P t43 Er 1 (cA Tryz.f57 1) Nx:=fun d=>by kernel_rfl
def Ny:LT:=Er.add 1 Nx
theorem Zr:ay P 1 Ny (aU Tryz.f57):=ay.a hm zF Zp Zq
def vC(d:List G):Option (List G) :=
 (bif (ao ((gi d 1).int+1)) then (aN ((ad (gi d 0).rows.length (gi d 0).rows.length)&&true) (bT Nw [.l (gi d 0).rows,.i (gi d 1).int,.i (gi d 2).int,.i ((gi d 1).int+1)]) fun g g3=>some [.l (gi g3 0).rows]) else none)
def Es:aJ:=⟨57,[.s (.vec 0 8),.s (.int .i64),.s (.int .i64),.s (.fn 17)],[.vec ai 0],[.slot 0],[],[.vec ai 0],[.fix 0],[],vC⟩
theorem Zs:aZ P t43 Ny Tryz.f57 Es:=fun d=>by kernel_rfl
theorem Zt:aY P Es:=a8 hm zF Tryz.func57 Zr Zs
def t44:ar:=t43.c8 Es
theorem vD:au P t44:=zF.aW Zt

def Nz(d:List G):Option (Option Nat × List G) :=
 (bif (be (gi d 4).int (gi d 1).int) then (iK (((ad (gi d 0).rows.length (gi d 0).rows.length)&&true)&&(vC [.l (gi d 0).rows,.i (gi d 3).int,.i (gi d 4).int]).isSome) (vC [.l (gi d 0).rows,.i (gi d 3).int,.i (gi d 4).int]) fun g1=>(bif (ao ((gi d 4).int+(gi d 2).int)) then (bif ((ad (gi d 0).rows.length (gi g1 0).rows.length)&&true) then some (none,[.l (gi g1 0).rows,.i (gi d 1).int,.i (gi d 2).int,.i (gi d 4).int,.i ((gi d 4).int+(gi d 2).int)]) else none) else none)) else (bif ((ad (gi d 0).rows.length (gi d 0).rows.length)&&true) then some (some 0,[.l (gi d 0).rows,.i (gi d 1).int,.i (gi d 2).int,.i (gi d 3).int]) else none))
def NA:bx:=⟨2,[],⟨63,[(0,.s (.vec 0 8)),(1,.s (.int .i64)),(2,.s (.fn 17)),(6,.s (.int .i64)),(7,.s (.int .i64)),(8,.s (.int .i64))],[.vec ai 0]⟩,[.fix 0],[⟨.exit 0,⟨63,[(0,.s (.vec 0 8)),(1,.s (.int .i64)),(2,.s (.fn 17)),(6,.s (.int .i64)),(7,.s (.int .i64))],[.vec ai 0]⟩,[.fix 0]⟩],Nz⟩
theorem Zu:cu P t44 aF 1 (cA Tryz.f33 2) NA:=fun d=>by kernel_rfl
def Et:LT:=aF.add 1 NA
theorem Zv:ay P 1 Et (aU Tryz.f33):=ay.a hm vD (aT _ _ _) Zu
def NB(d:List G):Option (Option Nat × List G) :=
 (bif (be (gi d 4).int (gi d 1).int) then (bif (ao ((gi d 3).int+(gi d 2).int)) then none else none) else (bif ((ad (gi d 0).rows.length (gi d 0).rows.length)&&true) then some (some 0,[.l (gi d 0).rows,.i (gi d 1).int,.i (gi d 2).int,.i (gi d 3).int]) else none))
def NC:bx:=⟨9,[],⟨63,[(0,.s (.vec 0 8)),(1,.s (.int .i64)),(2,.s (.fn 17)),(6,.s (.int .i64)),(7,.s (.int .i64)),(8,.s (.int .i64))],[.vec ai 0]⟩,[.fix 0],[⟨.exit 4,⟨63,[(0,.s (.vec 0 8)),(1,.s (.int .i64)),(2,.s (.fn 17)),(6,.s (.int .i64)),(7,.s (.int .i64))],[.vec ai 0]⟩,[.fix 0]⟩],NB⟩
theorem Zw:cu P t44 Et 1 (cA Tryz.f33 9) NC:=fun d=>by kernel_rfl
def Eu:LT:=Et.add 1 NC
theorem Zx:ay P 1 Eu (aU Tryz.f33):=ay.a hm vD Zv Zw
def ND(d:List G):Option (Option Nat × List G) :=
 (bif (aj (gi d 2).int (gi d 1).int) then (bif (ao (2*(gi d 2).int)) then (aN ((ad (gi d 0).rows.length (gi d 0).rows.length)&&true) (bT NB [.l (gi d 0).rows,.i (gi d 1).int,.i (gi d 2).int,.i 0,.i (2*(gi d 2).int)]) fun g g4=>(bif (ao ((gi g4 3).int+(gi g4 2).int)) then (bif (aj ((gi g4 3).int+(gi g4 2).int) (gi g4 1).int) then none else (bif (ao ((gi g4 2).int*2)) then (bif ((ad (gi g4 0).rows.length (gi g4 0).rows.length)&&true) then some (none,[.l (gi g4 0).rows,.i (gi g4 1).int,.i ((gi g4 2).int*2)]) else none) else none)) else none)) else none) else some (some 0,[.l (gi d 0).rows]))
def NF:bx:=⟨7,[],⟨63,[(0,.s (.vec 0 8)),(1,.s (.int .i64)),(2,.s (.fn 17)),(6,.s (.int .i64))],[.vec ai 0]⟩,[.fix 0],[⟨.exit 2,⟨63,[],[.vec ai 0]⟩,[.fix 0]⟩],ND⟩
theorem Zy:cu P t44 Eu 1 (cA Tryz.f33 7) NF:=fun d=>by kernel_rfl
def NG:LT:=Eu.add 1 NF
theorem Zz:ay P 1 NG (aU Tryz.f33):=ay.a hm vD Zx Zy
def Ev(d:List G):Option (List G) :=
 (aN ((ad (gi d 0).rows.length (gi d 0).rows.length)&&true) (bT Nz [.l (gi d 0).rows,.i (gi d 1).int,.i 20,.i 0,.i 20]) fun g g2=>(iK (((ad (gi g2 0).rows.length (gi g2 0).rows.length)&&true)&&(vC [.l (gi g2 0).rows,.i (gi g2 3).int,.i (gi g2 1).int]).isSome) (vC [.l (gi g2 0).rows,.i (gi g2 3).int,.i (gi g2 1).int]) fun g3=>(aN ((ad (gi g2 0).rows.length (gi g3 0).rows.length)&&true) (bT ND [.l (gi g3 0).rows,.i (gi g2 1).int,.i (gi g2 2).int]) fun h g5=>some [.l (gi g5 0).rows])))
def Ew:aJ:=⟨33,[.s (.vec 0 8),.s (.int .i64),.s (.fn 17)],[.vec ai 0],[.slot 0],[],[.vec ai 0],[.fix 0],[],Ev⟩
theorem ZA:aZ P t44 NG Tryz.f33 Ew:=fun d=>by kernel_rfl
theorem ZB:aY P Ew:=a8 hm vD Tryz.func33 Zz ZA
def t45:ar:=t44.c8 Ew
theorem NH:au P t45:=vD.aW ZB

def Ex(d:List G):Option (List G) :=
 (iK (((ad (gi d 0).rows.length (gi d 0).rows.length)&&true)&&(Ev [.l (gi d 0).rows,.i (((gi d 0).rows.length:Nat):Int)]).isSome) (Ev [.l (gi d 0).rows,.i (((gi d 0).rows.length:Nat):Int)]) fun g1=>some [.l (gi g1 0).rows])
def Ey:aJ:=⟨16,[.s (.vec 0 8),.s (.fn 17)],[.vec ai 0],[.slot 0],[],[.vec ai 0],[.fix 0],[],Ex⟩
theorem ZC:aZ P t45 aF Tryz.f16 Ey:=fun d=>by kernel_rfl
theorem ZD:aY P Ey:=a8 hm NH Tryz.func16 (aT _ _ _) ZC
def t46:ar:=t45.c8 Ey
theorem NI:au P t46:=NH.aW ZD

def vE(d:List G):Option (List G) :=
 (aA (r9 [.l [(aH ai (gi d 0).row)],.l [(aH ai (gi d 1).row)]]) fun g1=>some [.t ((gi g1 0).int==0)])
def Ez:aJ:=⟨19,[.s (.row ai),.s (.row ai)],[],[],[.s (.bool)],[],[],[],vE⟩
theorem ZE:aZ P t46 aF Tryz.f19 Ez:=fun d=>by kernel_rfl
theorem ZF:aY P Ez:=a8 hm NI Tryz.func19 (aT _ _ _) ZE
def t47:ar:=t46.bD Ez
theorem zG:au P t47:=NI.aP ZF

def NJ(d:List G):Option (Option Nat × List G) :=
 (bif (aj (gi d 4).int (((gi d 3).int.toNat:Nat):Int)) then (bif ((az (gi d 4).int)&&(aj (gi d 4).int (((gi d 3).int.toNat:Nat):Int))) then (bif (decide (((gi d 2).int.toNat+((gi d 4).int).toNat)<(gi d 0).rows.length)) then (bif (ao ((gi d 4).int-1)) then (bif ((az ((gi d 4).int-1))&&(aj ((gi d 4).int-1) (((gi d 3).int.toNat:Nat):Int))) then (bif (decide (((gi d 2).int.toNat+((gi d 4).int-1).toNat)<(gi d 0).rows.length)) then (aA (vE [.l [(aH ai ((gi d 0).rows.getD ((gi d 2).int.toNat+((gi d 4).int).toNat) []))],.l [(aH ai ((gi d 0).rows.getD ((gi d 2).int.toNat+((gi d 4).int-1).toNat) []))]]) fun g2=>(bif (!(gi g2 0).bool) then (bif ((az (gi d 4).int)&&(aj (gi d 4).int (((gi d 3).int.toNat:Nat):Int))) then (bif (decide (((gi d 2).int.toNat+((gi d 4).int).toNat)<(gi d 0).rows.length)) then (bif ((az (gi d 1).int)&&(aj (gi d 1).int (((gi d 0).rows.length:Nat):Int))) then (bif (decide ((0+((gi d 1).int).toNat)<(gi d 0).rows.length)) then (bif (ao ((gi d 1).int+1)) then (bif (ao ((gi d 4).int+1)) then (bif ((ad (gi d 0).rows.length ((gi d 0).rows.set (0+((gi d 1).int).toNat) (bf ai ((gi d 0).rows.getD (0+((gi d 1).int).toNat) []) 0 (aH ai ((gi d 0).rows.getD ((gi d 2).int.toNat+((gi d 4).int).toNat) [])))).length)&&true) then some (none,[.l ((gi d 0).rows.set (0+((gi d 1).int).toNat) (bf ai ((gi d 0).rows.getD (0+((gi d 1).int).toNat) []) 0 (aH ai ((gi d 0).rows.getD ((gi d 2).int.toNat+((gi d 4).int).toNat) [])))),.i ((gi d 1).int+1),.i (((gi d 2).int.toNat:Nat):Int),.i (((gi d 3).int.toNat:Nat):Int),.i ((gi d 4).int+1)]) else none) else none) else none) else none) else none) else none) else none) else (bif (ao ((gi d 4).int+1)) then (bif ((ad (gi d 0).rows.length (gi d 0).rows.length)&&true) then some (none,[.l (gi d 0).rows,.i (gi d 1).int,.i (((gi d 2).int.toNat:Nat):Int),.i (((gi d 3).int.toNat:Nat):Int),.i ((gi d 4).int+1)]) else none) else none))) else none) else none) else none) else none) else none) else (bif ((ad (gi d 0).rows.length (gi d 0).rows.length)&&true) then some (some 0,[.l (gi d 0).rows,.i (gi d 1).int]) else none))
def NK:bx:=⟨9,[],⟨66,[(0,.s (.vec 0 8)),(1,.s (.fn 19)),(5,.s (.int .i64)),(6,.s (.sub 0 8)),(7,.s (.int .i64))],[.vec ai 0]⟩,[.fix 0],[⟨.exit 2,⟨66,[(0,.s (.vec 0 8)),(5,.s (.int .i64))],[.vec ai 0]⟩,[.fix 0]⟩],NJ⟩
theorem ZG:cu P t47 aF 1 (cA Tryz.f18 9) NK:=fun d=>by kernel_rfl
def EA:LT:=aF.add 1 NK
theorem ZH:ay P 1 EA (aU Tryz.f18):=ay.a hm zG (aT _ _ _) ZG
def NL(d:List G):Option (Option Nat × List G) :=
 (bif (aj (gi d 1).int (((gi d 0).rows.length:Nat):Int)) then (bif ((az (gi d 1).int)&&(aj (gi d 1).int (((gi d 0).rows.length:Nat):Int))) then (bif (decide ((0+((gi d 1).int).toNat)<(gi d 0).rows.length)) then (bif (ao ((gi d 1).int-1)) then (bif ((az ((gi d 1).int-1))&&(aj ((gi d 1).int-1) (((gi d 0).rows.length:Nat):Int))) then (bif (decide ((0+((gi d 1).int-1).toNat)<(gi d 0).rows.length)) then (aA (vE [.l [(aH ai ((gi d 0).rows.getD (0+((gi d 1).int).toNat) []))],.l [(aH ai ((gi d 0).rows.getD (0+((gi d 1).int-1).toNat) []))]]) fun g1=>(bif (gi g1 0).bool then (bif ((az (gi d 1).int)&&(be (gi d 1).int (((gi d 0).rows.length:Nat):Int))) then (aN ((ad (gi d 0).rows.length (gi d 0).rows.length)&&true) (bT NJ [.l (gi d 0).rows,.i (gi d 1).int,.i (((0+((gi d 1).int).toNat):Nat):Int),.i ((((gi d 0).rows.length-((gi d 1).int).toNat):Nat):Int),.i 1]) fun g g3=>(bif ((az (gi g3 1).int)&&(be (gi g3 1).int (((gi g3 0).rows.length:Nat):Int))) then (bif (Nat.ble ((0+((gi g3 1).int).toNat)+((gi g3 0).rows.length-((gi g3 1).int).toNat)) (gi g3 0).rows.length) then (bif ((az (gi g3 1).int)&&(be (gi g3 1).int (((gi g3 0).rows.length:Nat):Int))) then some (some 0,[.l ((gi g3 0).rows.take (0+((gi g3 1).int).toNat)++List.replicate ((gi g3 0).rows.length-((gi g3 1).int).toNat) [.i 0,.i 0,.s (⟨#[]⟩:ByteArray),.s (⟨#[]⟩:ByteArray),.i 0,.i 0,.s (⟨#[]⟩:ByteArray),.s (⟨#[]⟩:ByteArray)]++(gi g3 0).rows.drop ((0+((gi g3 1).int).toNat)+((gi g3 0).rows.length-((gi g3 1).int).toNat))),.i (((((gi g3 1).int).toNat-0):Nat):Int)]) else none) else none) else none)) else none) else (bif (ao ((gi d 1).int+1)) then (bif ((ad (gi d 0).rows.length (gi d 0).rows.length)&&true) then some (none,[.l (gi d 0).rows,.i ((gi d 1).int+1)]) else none) else none))) else none) else none) else none) else none) else none) else (bif ((ad (gi d 0).rows.length (gi d 0).rows.length)&&true) then some (some 1,[.l (gi d 0).rows]) else none))
def NM:bx:=⟨4,[],⟨66,[(0,.s (.vec 0 8)),(1,.s (.fn 19)),(5,.s (.int .i64))],[.vec ai 0]⟩,[.fix 0],[⟨.ret,⟨66,[(4,.s (.pre 0 8))],[.vec ai 0]⟩,[.fix 0]⟩,⟨.exit 0,⟨66,[(0,.s (.vec 0 8))],[.vec ai 0]⟩,[.fix 0]⟩],NL⟩
theorem ZI:cu P t47 EA 1 (cA Tryz.f18 4) NM:=fun d=>by kernel_rfl
def NN:LT:=EA.add 1 NM
theorem ZJ:ay P 1 NN (aU Tryz.f18):=ay.a hm zG ZH ZI
def EB(d:List G):Option (List G) :=
 (bif (aj (((gi d 0).rows.length:Nat):Int) 2) then some [.l (gi d 0).rows,.i (((gi d 0).rows.length:Nat):Int)] else (aN ((ad (gi d 0).rows.length (gi d 0).rows.length)&&true) (bT NL [.l (gi d 0).rows,.i 1]) fun g g4=>(bif ad g 0 then some [.l (gi g4 0).rows,.i (((gi g4 1).int.toNat:Nat):Int)] else some [.l (gi g4 0).rows,.i (((gi g4 0).rows.length:Nat):Int)])))
def EC:aJ:=⟨18,[.s (.vec 0 8),.s (.fn 19)],[.vec ai 0],[.slot 0],[.s (.pre 0 8)],[.vec ai 0],[.fix 0],[],EB⟩
theorem ZK:aZ P t47 NN Tryz.f18 EC:=fun d=>by kernel_rfl
theorem ZL:aY P EC:=a8 hm zG Tryz.func18 ZJ ZK
def t48:ar:=t47.c8 EC
theorem om:au P t48:=zG.aW ZL

end
end Go.Proofs.fW
