/-
 What is proved here: functions of the program as functions on data. No condition.
-/
import Derived.Test.YtnijefkndkgebaaGreatDoorML1
set_option linter.all false
open Int renaming tdiv→mI,tmod→iX
open Nat renaming beq→ad
namespace Go.Proofs.iz
open Go Go.AL Go.Proofs
noncomputable section
def lk(d:List G):Option (List G) :=
 (bif (al (gi d 0).int (gi d 1).int) then some [.t true] else some [.t (al (gi d 2).int (gi d 0).int)])
def CR:aD:=⟨52,[.s (.int .i64),.s (.int .i64),.s (.int .i64)],[],[],[.s (.bool)],[],[],[],lk⟩
theorem YJ:aX P t7 ay Tryz.f52 CR:=fun d=>by kernel_rfl
theorem YK:aU P CR:=aY hm Me Tryz.func52 (aM _ _ _) YJ
def t8:aj:=t7.bf CR
theorem Mf:ak P t8:=Me.aP YK

def CS(d:List G):Option (List G) :=
 (aw (lk [.i (gi d 0).int,.i 0,.i 345686399999]) fun g1=>some [.t (!(gi g1 0).bool)])
def CT:aD:=⟨65,[.s (.int .i64)],[],[],[.s (.bool)],[],[],[],CS⟩
theorem YL:aX P t8 ay Tryz.f65 CT:=fun d=>by kernel_rfl
theorem YM:aU P CT:=aY hm Mf Tryz.func65 (aM _ _ _) YL
def t9:aj:=t8.bf CT
theorem Mg:ak P t9:=Mf.aP YM

def CU(d:List G):Option (List G) :=
 (aw (lk [.i (gi d 0).int,.i 1,.i 3]) fun g1=>some [.t (!(gi g1 0).bool)])
def CV:aD:=⟨64,[.s (.int .i64)],[],[],[.s (.bool)],[],[],[],CU⟩
theorem YN:aX P t9 ay Tryz.f64 CV:=fun d=>by kernel_rfl
theorem YO:aU P CV:=aY hm Mg Tryz.func64 (aM _ _ _) YN
def t10:aj:=t9.bf CV
theorem Mh:ak P t10:=Mg.aP YO

def rq(d:List G):Option (List G) :=
 (bif (!((gi d 0).str.toList==(⟨#[]⟩:ByteArray).toList)) then (bif (a8 (((gi d 0).str.size:Nat):Int) 40) then (bif (al 0 (((gi d 0).str.size:Nat):Int)) then (aw (yA [.s (⟨#[97,98,99,100,101,102,103,104,105,106,107,108,109,110,111,112,113,114,115,116,117,118,119,120,121,122]⟩:ByteArray),.i (((gi d 0).str.data.toList.getD 0 0).toNat:Int)]) fun g1=>(bif (a8 0 (gi g1 0).int) then (aw (yB [.s (gi d 0).str,.s (⟨#[97,98,99,100,101,102,103,104,105,106,107,108,109,110,111,112,113,114,115,116,117,118,119,120,121,122,48,49,50,51,52,53,54,55,56,57,45,95]⟩:ByteArray)]) fun g2=>some [.t ((gi g2 0).str.toList==(⟨#[]⟩:ByteArray).toList)]) else some [.t false])) else none) else some [.t false]) else some [.t false])
def CW:aD:=⟨63,[.s (.str)],[],[],[.s (.bool)],[],[],[],rq⟩
theorem YP:aX P t10 ay Tryz.f63 CW:=fun d=>by kernel_rfl
theorem YQ:aU P CW:=aY hm Mh Tryz.func63 (aM _ _ _) YP
def t11:aj:=t10.bf CW
theorem Mi:ak P t11:=Mh.aP YQ

def rr(d:List G):Option (List G) :=
 (aw (yC [.s (gi d 0).str]) fun g1=>some [.t (gi g1 1).bool])
def CX:aD:=⟨115,[.s (.str)],[],[],[.s (.bool)],[],[],[],rr⟩
theorem YR:aX P t11 ay Tryz.f115 CX:=fun d=>by kernel_rfl
theorem YS:aU P CX:=aY hm Mi Tryz.func115 (aM _ _ _) YR
def t12:aj:=t11.bf CX
theorem Mj:ak P t12:=Mi.aP YS

def yD(d:List G):Option (List G) :=
 (bif ((gi d 0).str.toList==(⟨#[]⟩:ByteArray).toList) then some [.t true] else (aw (rq [.s (gi d 0).str]) fun g1=>some [.t (gi g1 0).bool]))
def CY:aD:=⟨142,[.s (.str)],[],[],[.s (.bool)],[],[],[],yD⟩
theorem YT:aX P t12 ay Tryz.f142 CY:=fun d=>by kernel_rfl
theorem YU:aU P CY:=aY hm Mj Tryz.func142 (aM _ _ _) YT
def t13:aj:=t12.bf CY
theorem Mk:ak P t13:=Mj.aP YU

def yE(d:List G):Option (List G) :=
 (aw (CS [.i (gi (gi d 0).row 0).int]) fun g1=>(bif (!(gi g1 0).bool) then some [.i 1] else (aw (CU [.i (gi (gi d 0).row 1).int]) fun g2=>(bif (!(gi g2 0).bool) then some [.i 4] else (aw (rq [.s (gi (gi d 0).row 2).str]) fun g3=>(bif (!(gi g3 0).bool) then some [.i 5] else (aw (rr [.s (gi (gi d 0).row 3).str]) fun g4=>(bif (!(gi g4 0).bool) then some [.i 3] else (aw (lk [.i (gi (gi d 0).row 4).int,.i 0,.i 99999]) fun g5=>(bif (gi g5 0).bool then some [.i 1] else (aw (lk [.i (gi (gi d 0).row 5).int,.i 0,.i 99999]) fun g6=>(bif (gi g6 0).bool then some [.i 1] else (aw (yD [.s (gi (gi d 0).row 6).str]) fun g7=>(bif (!(gi g7 0).bool) then some [.i 5] else (aw (yD [.s (gi (gi d 0).row 7).str]) fun g8=>(bif (!(gi g8 0).bool) then some [.i 5] else some [.i 0]))))))))))))))))
def CZ:aD:=⟨104,[.s (.row ah)],[],[],[.s (.int .i64)],[],[],[],yE⟩
theorem YV:aX P t13 ay Tryz.f104 CZ:=fun d=>by kernel_rfl
theorem YW:aU P CZ:=aY hm Mk Tryz.func104 (aM _ _ _) YV
def t14:aj:=t13.bf CZ
theorem Ml:ak P t14:=Mk.aP YW

def yF(d:List G):Option (List G) :=
 some [.t ((gi d 0).int != (gi d 0).int)]
def C0:aD:=⟨125,[.s (.int .i64)],[],[],[.s (.bool)],[],[],[],yF⟩
theorem YX:aX P t14 ay Tryz.f125 C0:=fun d=>by kernel_rfl
theorem YY:aU P C0:=aY hm Ml Tryz.func125 (aM _ _ _) YX
def t15:aj:=t14.bf C0
theorem Mm:ak P t15:=Ml.aP YY

def ru(d:List G):Option (List G) :=
 (aw (yF [.i (gi d 0).int]) fun g1=>(aw (yF [.i (gi d 1).int]) fun g2=>(bif (gi g1 0).bool then (bif (gi g2 0).bool then some [.i 0] else some [.i (-1)]) else (bif (gi g2 0).bool then some [.i 1] else (bif (al (gi d 0).int (gi d 1).int) then some [.i (-1)] else (bif (al (gi d 1).int (gi d 0).int) then some [.i 1] else some [.i 0]))))))
def C1:aD:=⟨81,[.s (.int .i64),.s (.int .i64)],[],[],[.s (.int .i64)],[],[],[],ru⟩
theorem YZ:aX P t15 ay Tryz.f81 C1:=fun d=>by kernel_rfl
theorem Y0:aU P C1:=aY hm Mm Tryz.func81 (aM _ _ _) YZ
def t16:aj:=t15.bf C1
theorem C2:ak P t16:=Mm.aP Y0

def ry(d:List G):Option (Option Nat × List G) :=
 (bif (al (gi d 3).int (gi d 2).int) then (bif ((az (gi d 3).int)&&(al (gi d 3).int (((gi d 1).rows.length:Nat):Int))) then (bif ((gi ((gi d 1).rows.getD (((gi d 3).int).toNat) []) 0).int != (gi d 0).int) then some (some 0,[.i (gi ((gi d 1).rows.getD (((gi d 3).int).toNat) []) 0).int]) else (bif (aq ((gi d 3).int+1)) then some (none,[.i (gi d 0).int,.l (gi d 1).rows,.i (gi d 2).int,.i ((gi d 3).int+1)]) else none)) else none) else some (some 1,[.i (gi d 0).int]))
def Mn:bp:=⟨3,[],⟨18,[(3,.s (.int .i64)),(6,.s (.list [.int .i64])),(7,.s (.int .i64)),(8,.s (.int .i64))],[]⟩,[],[⟨.ret,⟨18,[(2,.s (.int .i64))],[]⟩,[]⟩,⟨.exit 0,⟨18,[(3,.s (.int .i64))],[]⟩,[]⟩],ry⟩
theorem Y1:cr P t16 ay 0 (cw Tryz.f80 3) Mn:=fun d=>by kernel_rfl
def Mo:LT:=ay.add 0 Mn
theorem Y2:ax P 0 Mo (aR Tryz.f80):=ax.a hm C2 (aM _ _ _) Y1
def pn(d:List G):Option (List G) :=
 (aO true (bQ ry [.i 0,.l (gi d 0).rows,.i (((gi d 0).rows.length:Nat):Int),.i 0]) fun g g1=>(bif ad g 0 then some [.i (gi g1 0).int] else some [.i (gi g1 0).int]))
def C3:aD:=⟨80,[.s (.list [.int .i64])],[],[],[.s (.int .i64)],[],[],[],pn⟩
theorem Y3:aX P t16 Mo Tryz.f80 C3:=fun d=>by kernel_rfl
theorem Y4:aU P C3:=aY hm C2 Tryz.func80 Y2 Y3
def t17:aj:=t16.bf C3
theorem Mp:ak P t17:=C2.aP Y4

def yG(d:List G):Option (List G) :=
 (aw (ru [.i (gi (gi d 0).row 0).int,.i (gi (gi d 1).row 0).int]) fun g1=>(aw (hG [.s (gi (gi d 0).row 3).str,.s (gi (gi d 1).row 3).str]) fun g2=>(aw (hG [.s (gi (gi d 0).row 2).str,.s (gi (gi d 1).row 2).str]) fun g3=>(aw (ru [.i (gi (gi d 0).row 1).int,.i (gi (gi d 1).row 1).int]) fun g4=>(aw (pn [.l [[.i (gi g1 0).int],[.i (gi g2 0).int],[.i (gi g3 0).int],[.i (gi g4 0).int]]]) fun g5=>some [.i (gi g5 0).int])))))
def C5:aD:=⟨43,[.s (.row ah),.s (.row ah)],[],[],[.s (.int .i64)],[],[],[],yG⟩
theorem Y5:aX P t17 ay Tryz.f43 C5:=fun d=>by kernel_rfl
theorem Y6:aU P C5:=aY hm Mp Tryz.func43 (aM _ _ _) Y5
def t18:aj:=t17.bf C5
theorem C6:ak P t18:=Mp.aP Y6

def Mq(d:List G):Option (Option Nat × List G) :=
 (bif (al (gi d 3).int (gi d 2).int) then (bif ((az (gi d 3).int)&&(al (gi d 3).int (((gi d 1).rows.length:Nat):Int))) then (aw (yE [.l [(aI ah ((gi d 1).rows.getD (((gi d 3).int).toNat) []))]]) fun g1=>(bif ((gi g1 0).int != 0) then some (some 0,[.i (gi g1 0).int]) else (bif (al 0 (gi d 3).int) then (bif (aq ((gi d 3).int-1)) then (bif ((az ((gi d 3).int-1))&&(al ((gi d 3).int-1) (((gi d 0).rows.length:Nat):Int))) then (aw (yG [.l [(aI ah ((gi d 0).rows.getD (((gi d 3).int-1).toNat) []))],.l [(aI ah ((gi d 1).rows.getD (((gi d 3).int).toNat) []))]]) fun g2=>(bif (a8 0 (gi g2 0).int) then some (some 0,[.i 7]) else (bif (aq ((gi d 3).int+1)) then some (none,[.l (gi d 0).rows,.l (gi d 1).rows,.i (gi d 2).int,.i ((gi d 3).int+1)]) else none))) else none) else none) else (bif (aq ((gi d 3).int+1)) then some (none,[.l (gi d 0).rows,.l (gi d 1).rows,.i (gi d 2).int,.i ((gi d 3).int+1)]) else none)))) else none) else some (some 1,[]))
def Mr:bp:=⟨4,[],⟨34,[(0,.s (.list ah)),(9,.s (.list ah)),(10,.s (.int .i64)),(11,.s (.int .i64))],[]⟩,[],[⟨.ret,⟨34,[(2,.s (.int .i64))],[]⟩,[]⟩,⟨.exit 0,⟨34,[],[]⟩,[]⟩],Mq⟩
theorem Y7:cr P t18 ay 0 (cw Tryz.f60 4) Mr:=fun d=>by kernel_rfl
def Ms:LT:=ay.add 0 Mr
theorem Y8:ax P 0 Ms (aR Tryz.f60):=ax.a hm C6 (aM _ _ _) Y7
def yH(d:List G):Option (List G) :=
 (bif (al 2000 (((gi d 0).rows.length:Nat):Int)) then some [.i 2] else (aO true (bQ Mq [.l (gi d 0).rows,.l (gi d 0).rows,.i (((gi d 0).rows.length:Nat):Int),.i 0]) fun g g3=>(bif ad g 0 then some [.i (gi g3 0).int] else some [.i 0])))
def C7:aD:=⟨60,[.s (.list ah)],[],[],[.s (.int .i64)],[],[],[],yH⟩
theorem Y9:aX P t18 Ms Tryz.f60 C7:=fun d=>by kernel_rfl
theorem Y_:aU P C7:=aY hm C6 Tryz.func60 Y8 Y9
def t19:aj:=t18.bf C7
theorem Mt:ak P t19:=C6.aP Y_

def Mu(d:List G):Option (List G) :=
 (aw (yC [.s (gi d 0).str]) fun g1=>some [.s (gi (gi g1 0).row 0).str])
def C8:aD:=⟨105,[.s (.str)],[],[],[.s (.str)],[],[],[],Mu⟩
theorem Y':aX P t19 ay Tryz.f105 C8:=fun d=>by kernel_rfl
theorem Za:aU P C8:=aY hm Mt Tryz.func105 (aM _ _ _) Y'
def t20:aj:=t19.bf C8
theorem C9:ak P t20:=Mt.aP Za

def Mv(d:List G):Option (Option Nat × List G) :=
 (bif (al (gi d 5).int (gi d 4).int) then (bif ((az (gi d 5).int)&&(al (gi d 5).int (((gi d 3).rows.length:Nat):Int))) then (aw (Mu [.s (gi ((gi d 3).rows.getD (((gi d 5).int).toNat) []) 3).str]) fun g1=>(bif (gi (aA [.str,.str,.int .i64] (gi d 0).rows [.s (gi g1 0).str,.s (gi ((gi d 3).rows.getD (((gi d 5).int).toNat) []) 2).str,.i (gi ((gi d 3).rows.getD (((gi d 5).int).toNat) []) 1).int] [.t false]) 0).bool then (bif ((ad (gi d 2).rows.length (gi d 2).rows.length)&&(decide (((gi d 2).rows.length+1)≤1048576))) then (bif (aq ((gi d 5).int+1)) then (bif ((ad ((gi d 2).rows++([[.i (gi d 5).int]]:List (List G))).length ((gi d 2).rows++([[.i (gi d 5).int]]:List (List G))).length)&&true) then some (none,[.l (aL [.str,.str,.int .i64] (gi d 0).rows [.s (gi g1 0).str,.s (gi ((gi d 3).rows.getD (((gi d 5).int).toNat) []) 2).str,.i (gi ((gi d 3).rows.getD (((gi d 5).int).toNat) []) 1).int] [.t true] (gi d 1).int.toNat),.i (((bD [.str,.str,.int .i64] (gi d 0).rows [.s (gi g1 0).str,.s (gi ((gi d 3).rows.getD (((gi d 5).int).toNat) []) 2).str,.i (gi ((gi d 3).rows.getD (((gi d 5).int).toNat) []) 1).int] (gi d 1).int.toNat):Nat):Int),.l ((gi d 2).rows++([[.i (gi d 5).int]]:List (List G))),.l (gi d 3).rows,.i (gi d 4).int,.i ((gi d 5).int+1)]) else none) else none) else none) else (bif (aq ((gi d 5).int+1)) then (bif ((ad (gi d 2).rows.length (gi d 2).rows.length)&&true) then some (none,[.l (aL [.str,.str,.int .i64] (gi d 0).rows [.s (gi g1 0).str,.s (gi ((gi d 3).rows.getD (((gi d 5).int).toNat) []) 2).str,.i (gi ((gi d 3).rows.getD (((gi d 5).int).toNat) []) 1).int] [.t true] (gi d 1).int.toNat),.i (((bD [.str,.str,.int .i64] (gi d 0).rows [.s (gi g1 0).str,.s (gi ((gi d 3).rows.getD (((gi d 5).int).toNat) []) 2).str,.i (gi ((gi d 3).rows.getD (((gi d 5).int).toNat) []) 1).int] (gi d 1).int.toNat):Nat):Int),.l (gi d 2).rows,.l (gi d 3).rows,.i (gi d 4).int,.i ((gi d 5).int+1)]) else none) else none))) else none) else (bif ((ad (gi d 2).rows.length (gi d 2).rows.length)&&true) then some (some 0,[.l (gi d 2).rows]) else none))
def Mw:bp:=⟨4,[(4,[.int .i64])],⟨35,[(3,.s (.map 0)),(4,.s (.vec 1 1)),(9,.s (.list ah)),(10,.s (.int .i64)),(11,.s (.int .i64))],[.map (.agg [.str,.str,.int .i64]) (.one (.bool)),.vec [.int .i64] 0]⟩,[.slot 3,.slot 4],[⟨.exit 0,⟨35,[(4,.s (.vec 0 1))],[.vec [.int .i64] 0]⟩,[.slot 4]⟩],Mv⟩
theorem Zb:cr P t20 (ay.jm [(6,[.hole [.str,.str,.int .i64]])]) 0 (cw Tryz.f61 4) Mw:=fun d=>by kernel_rfl
def Mx:LT:=(ay.jm [(6,[.hole [.str,.str,.int .i64]])]).add 0 Mw
theorem Zc:ax P 0 Mx (aR Tryz.f61):=ax.a hm C9 (oZ _) Zb
def My(d:List G):Option (List G) :=
 (aO true (bQ Mv [.l [],.i 0,.l [],.l (gi d 0).rows,.i (((gi d 0).rows.length:Nat):Int),.i 0]) fun g g2=>(bif ((ad (gi g2 0).rows.length (gi g2 0).rows.length)&&true) then some [.l (gi g2 0).rows] else none))
def C_:aD:=⟨61,[.s (.list ah)],[],[],[.s (.list [.int .i64])],[],[],[],My⟩
theorem Zd:aX P t20 Mx Tryz.f61 C_:=fun d=>by kernel_rfl
theorem Ze:aU P C_:=aY hm C9 Tryz.func61 Zc Zd
def t21:aj:=t20.bf C_
theorem Mz:ak P t21:=C9.aP Ze

def Zf(d:List G):Option (List G) :=
 (aw (yH [.l (gi d 0).rows]) fun g1=>(bif ((gi g1 0).int != 0) then some [.l [],.i (gi g1 0).int] else (aw (My [.l (gi d 0).rows]) fun g2=>some [.l (gi g2 0).rows,.i 0])))
def C':aD:=⟨37,[.s (.list ah)],[],[],[.s (.list [.int .i64]),.s (.int .i64)],[],[],[],Zf⟩
theorem Zg:aX P t21 ay Tryz.f37 C':=fun d=>by kernel_rfl
theorem Zh:aU P C':=aY hm Mz Tryz.func37 (aM _ _ _) Zg
def t22:aj:=t21.bf C'
theorem Da:ak P t22:=Mz.aP Zh

def yI(d:List G):Option (Option Nat × List G) :=
 (bif (al (gi d 2).int (gi d 1).int) then (bif (aq (mI (gi d 2).int 2)) then (bif ((mI (gi d 2).int 2)==1) then (bif ((az (gi d 2).int)&&(al (gi d 2).int (((gi d 0).str.size:Nat):Int))) then (bif (al (((gi d 0).str.data.toList.getD (((gi d 2).int).toNat) 0).toNat:Int) 48) then some (some 0,[.t false]) else (bif ((az (gi d 2).int)&&(al (gi d 2).int (((gi d 0).str.size:Nat):Int))) then (bif (al 57 (((gi d 0).str.data.toList.getD (((gi d 2).int).toNat) 0).toNat:Int)) then some (some 0,[.t false]) else (bif (aq ((gi d 2).int+1)) then some (none,[.s (gi d 0).str,.i (gi d 1).int,.i ((gi d 2).int+1)]) else none)) else none)) else none) else (bif ((mI (gi d 2).int 2)==2) then (bif ((az (gi d 2).int)&&(al (gi d 2).int (((gi d 0).str.size:Nat):Int))) then (bif (al (((gi d 0).str.data.toList.getD (((gi d 2).int).toNat) 0).toNat:Int) 97) then some (some 0,[.t false]) else (bif ((az (gi d 2).int)&&(al (gi d 2).int (((gi d 0).str.size:Nat):Int))) then (bif (al 120 (((gi d 0).str.data.toList.getD (((gi d 2).int).toNat) 0).toNat:Int)) then some (some 0,[.t false]) else (bif (aq ((gi d 2).int+1)) then some (none,[.s (gi d 0).str,.i (gi d 1).int,.i ((gi d 2).int+1)]) else none)) else none)) else none) else (bif ((az (gi d 2).int)&&(al (gi d 2).int (((gi d 0).str.size:Nat):Int))) then (bif (al (((gi d 0).str.data.toList.getD (((gi d 2).int).toNat) 0).toNat:Int) 97) then some (some 0,[.t false]) else (bif ((az (gi d 2).int)&&(al (gi d 2).int (((gi d 0).str.size:Nat):Int))) then (bif (al 114 (((gi d 0).str.data.toList.getD (((gi d 2).int).toNat) 0).toNat:Int)) then some (some 0,[.t false]) else (bif (aq ((gi d 2).int+1)) then some (none,[.s (gi d 0).str,.i (gi d 1).int,.i ((gi d 2).int+1)]) else none)) else none)) else none))) else none) else some (some 1,[]))
def MA:bp:=⟨4,[],⟨43,[(0,.s (.str)),(20,.s (.int .i64)),(21,.s (.int .i64))],[]⟩,[],[⟨.ret,⟨43,[(2,.s (.bool))],[]⟩,[]⟩,⟨.exit 0,⟨43,[],[]⟩,[]⟩],yI⟩
theorem Zi:cr P t22 ay 0 (cw Tryz.f154 4) MA:=fun d=>by kernel_rfl
def MB:LT:=ay.add 0 MA
theorem Zj:ax P 0 MB (aR Tryz.f154):=ax.a hm Da (aM _ _ _) Zi
def MC(d:List G):Option (List G) :=
 (bif ((((gi d 0).str.size:Nat):Int) != 2) then (bif ((((gi d 0).str.size:Nat):Int) != 4) then (bif ((((gi d 0).str.size:Nat):Int) != 6) then some [.t false] else (aO true (bQ yI [.s (gi d 0).str,.i (((gi d 0).str.size:Nat):Int),.i 0]) fun g g1=>(bif ad g 0 then some [.t (gi g1 0).bool] else some [.t true]))) else (aO true (bQ yI [.s (gi d 0).str,.i (((gi d 0).str.size:Nat):Int),.i 0]) fun h g2=>(bif ad h 0 then some [.t (gi g2 0).bool] else some [.t true]))) else (aO true (bQ yI [.s (gi d 0).str,.i (((gi d 0).str.size:Nat):Int),.i 0]) fun k g3=>(bif ad k 0 then some [.t (gi g3 0).bool] else some [.t true])))
def Db:aD:=⟨154,[.s (.str)],[],[],[.s (.bool)],[],[],[],MC⟩
theorem Zk:aX P t22 MB Tryz.f154 Db:=fun d=>by kernel_rfl
theorem Zl:aU P Db:=aY hm Da Tryz.func154 Zj Zk
def t23:aj:=t22.bf Db
theorem MD:ak P t23:=Da.aP Zl

def ME(d:List G):Option (List G) :=
 (bif ((((gi d 0).str.size:Nat):Int)==6) then (aw (MC [.s (gi d 0).str]) fun g1=>some [.t (gi g1 0).bool]) else some [.t false])
def Dc:aD:=⟨116,[.s (.str)],[],[],[.s (.bool)],[],[],[],ME⟩
theorem Zm:aX P t23 ay Tryz.f116 Dc:=fun d=>by kernel_rfl
theorem Zn:aU P Dc:=aY hm MD Tryz.func116 (aM _ _ _) Zm
def t24:aj:=t23.bf Dc
theorem Dd:ak P t24:=MD.aP Zn

def MF(d:List G):Option (Option Nat × List G) :=
 (bif (al (gi d 3).int (gi d 2).int) then (bif ((az (gi d 3).int)&&(al (gi d 3).int (((gi d 1).rows.length:Nat):Int))) then (aw (rr [.s (gi ((gi d 1).rows.getD (((gi d 3).int).toNat) []) 0).str]) fun g1=>(bif (!(gi g1 0).bool) then some (some 0,[.i 3]) else (aw (rq [.s (gi ((gi d 1).rows.getD (((gi d 3).int).toNat) []) 1).str]) fun g2=>(bif (!(gi g2 0).bool) then some (some 0,[.i 5]) else (aw (lk [.i (gi ((gi d 1).rows.getD (((gi d 3).int).toNat) []) 2).int,.i 0,.i 1000000000000]) fun g3=>(bif (gi g3 0).bool then some (some 0,[.i 1]) else (bif (!((gi ((gi d 1).rows.getD (((gi d 3).int).toNat) []) 3).str.toList==(⟨#[]⟩:ByteArray).toList)) then (aw (ME [.s (gi ((gi d 1).rows.getD (((gi d 3).int).toNat) []) 3).str]) fun g4=>(bif (!(gi g4 0).bool) then some (some 0,[.i 3]) else (bif (al 0 (gi d 3).int) then (bif (aq ((gi d 3).int-1)) then (bif ((az ((gi d 3).int-1))&&(al ((gi d 3).int-1) (((gi d 0).rows.length:Nat):Int))) then (aw (hG [.s (gi ((gi d 0).rows.getD (((gi d 3).int-1).toNat) []) 1).str,.s (gi ((gi d 1).rows.getD (((gi d 3).int).toNat) []) 1).str]) fun g5=>(bif (aq ((gi d 3).int-1)) then (bif ((az ((gi d 3).int-1))&&(al ((gi d 3).int-1) (((gi d 0).rows.length:Nat):Int))) then (aw (hG [.s (gi ((gi d 0).rows.getD (((gi d 3).int-1).toNat) []) 0).str,.s (gi ((gi d 1).rows.getD (((gi d 3).int).toNat) []) 0).str]) fun g6=>(aw (pn [.l [[.i (gi g5 0).int],[.i (gi g6 0).int]]]) fun g7=>(bif (a8 0 (gi g7 0).int) then some (some 0,[.i 7]) else (bif (aq ((gi d 3).int+1)) then some (none,[.l (gi d 0).rows,.l (gi d 1).rows,.i (gi d 2).int,.i ((gi d 3).int+1)]) else none)))) else none) else none)) else none) else none) else (bif (aq ((gi d 3).int+1)) then some (none,[.l (gi d 0).rows,.l (gi d 1).rows,.i (gi d 2).int,.i ((gi d 3).int+1)]) else none)))) else (bif (al 0 (gi d 3).int) then (bif (aq ((gi d 3).int-1)) then (bif ((az ((gi d 3).int-1))&&(al ((gi d 3).int-1) (((gi d 0).rows.length:Nat):Int))) then (aw (hG [.s (gi ((gi d 0).rows.getD (((gi d 3).int-1).toNat) []) 1).str,.s (gi ((gi d 1).rows.getD (((gi d 3).int).toNat) []) 1).str]) fun g8=>(bif (aq ((gi d 3).int-1)) then (bif ((az ((gi d 3).int-1))&&(al ((gi d 3).int-1) (((gi d 0).rows.length:Nat):Int))) then (aw (hG [.s (gi ((gi d 0).rows.getD (((gi d 3).int-1).toNat) []) 0).str,.s (gi ((gi d 1).rows.getD (((gi d 3).int).toNat) []) 0).str]) fun g9=>(aw (pn [.l [[.i (gi g8 0).int],[.i (gi g9 0).int]]]) fun g10=>(bif (a8 0 (gi g10 0).int) then some (some 0,[.i 7]) else (bif (aq ((gi d 3).int+1)) then some (none,[.l (gi d 0).rows,.l (gi d 1).rows,.i (gi d 2).int,.i ((gi d 3).int+1)]) else none)))) else none) else none)) else none) else none) else (bif (aq ((gi d 3).int+1)) then some (none,[.l (gi d 0).rows,.l (gi d 1).rows,.i (gi d 2).int,.i ((gi d 3).int+1)]) else none))))))))) else none) else some (some 1,[]))
def MG:bp:=⟨4,[],⟨66,[(0,.s (.list uH)),(8,.s (.list uH)),(9,.s (.int .i64)),(10,.s (.int .i64))],[]⟩,[],[⟨.ret,⟨66,[(2,.s (.int .i64))],[]⟩,[]⟩,⟨.exit 0,⟨66,[],[]⟩,[]⟩],MF⟩
theorem Zo:cr P t24 ay 0 (cw Tryz.f70 4) MG:=fun d=>by kernel_rfl
def MH:LT:=ay.add 0 MG
theorem Zp:ax P 0 MH (aR Tryz.f70):=ax.a hm Dd (aM _ _ _) Zo
def MI(d:List G):Option (List G) :=
 (bif (al 500 (((gi d 0).rows.length:Nat):Int)) then some [.i 2] else (aO true (bQ MF [.l (gi d 0).rows,.l (gi d 0).rows,.i (((gi d 0).rows.length:Nat):Int),.i 0]) fun g g11=>(bif ad g 0 then some [.i (gi g11 0).int] else some [.i 0])))
def De:aD:=⟨70,[.s (.list uH)],[],[],[.s (.int .i64)],[],[],[],MI⟩
theorem Zq:aX P t24 MH Tryz.f70 De:=fun d=>by kernel_rfl
theorem Zr:aU P De:=aY hm Dd Tryz.func70 Zp Zq
def t25:aj:=t24.bf De
theorem Df:ak P t25:=Dd.aP Zr

def mg(d:List G):Option (Option Nat × List G) :=
 (bif ((az (IntKind.u8.wrap ((gi d 0).int)))&&(al (IntKind.u8.wrap ((gi d 0).int)) 256)) then (bif (aq (((⟨#[0,1,2,2,3,3,3,3,4,4,4,4,4,4,4,4,5,5,5,5,5,5,5,5,5,5,5,5,5,5,5,5,6,6,6,6,6,6,6,6,6,6,6,6,6,6,6,6,6,6,6,6,6,6,6,6,6,6,6,6,6,6,6,6,7,7,7,7,7,7,7,7,7,7,7,7,7,7,7,7,7,7,7,7,7,7,7,7,7,7,7,7,7,7,7,7,7,7,7,7,7,7,7,7,7,7,7,7,7,7,7,7,7,7,7,7,7,7,7,7,7,7,7,7,7,7,7,7,8,8,8,8,8,8,8,8,8,8,8,8,8,8,8,8,8,8,8,8,8,8,8,8,8,8,8,8,8,8,8,8,8,8,8,8,8,8,8,8,8,8,8,8,8,8,8,8,8,8,8,8,8,8,8,8,8,8,8,8,8,8,8,8,8,8,8,8,8,8,8,8,8,8,8,8,8,8,8,8,8,8,8,8,8,8,8,8,8,8,8,8,8,8,8,8,8,8,8,8,8,8,8,8,8,8,8,8,8,8,8,8,8,8,8,8,8,8,8,8,8,8,8,8,8,8,8,8]⟩:ByteArray).data.toList.getD ((IntKind.u8.wrap ((gi d 0).int)).toNat) 0).toNat:Int)) then (bif (aq ((gi d 1).int+(((⟨#[0,1,2,2,3,3,3,3,4,4,4,4,4,4,4,4,5,5,5,5,5,5,5,5,5,5,5,5,5,5,5,5,6,6,6,6,6,6,6,6,6,6,6,6,6,6,6,6,6,6,6,6,6,6,6,6,6,6,6,6,6,6,6,6,7,7,7,7,7,7,7,7,7,7,7,7,7,7,7,7,7,7,7,7,7,7,7,7,7,7,7,7,7,7,7,7,7,7,7,7,7,7,7,7,7,7,7,7,7,7,7,7,7,7,7,7,7,7,7,7,7,7,7,7,7,7,7,7,8,8,8,8,8,8,8,8,8,8,8,8,8,8,8,8,8,8,8,8,8,8,8,8,8,8,8,8,8,8,8,8,8,8,8,8,8,8,8,8,8,8,8,8,8,8,8,8,8,8,8,8,8,8,8,8,8,8,8,8,8,8,8,8,8,8,8,8,8,8,8,8,8,8,8,8,8,8,8,8,8,8,8,8,8,8,8,8,8,8,8,8,8,8,8,8,8,8,8,8,8,8,8,8,8,8,8,8,8,8,8,8,8,8,8,8,8,8,8,8,8,8,8,8,8,8,8,8]⟩:ByteArray).data.toList.getD ((IntKind.u8.wrap ((gi d 0).int)).toNat) 0).toNat:Int))) then some (some 0,[.i ((gi d 1).int+(((⟨#[0,1,2,2,3,3,3,3,4,4,4,4,4,4,4,4,5,5,5,5,5,5,5,5,5,5,5,5,5,5,5,5,6,6,6,6,6,6,6,6,6,6,6,6,6,6,6,6,6,6,6,6,6,6,6,6,6,6,6,6,6,6,6,6,7,7,7,7,7,7,7,7,7,7,7,7,7,7,7,7,7,7,7,7,7,7,7,7,7,7,7,7,7,7,7,7,7,7,7,7,7,7,7,7,7,7,7,7,7,7,7,7,7,7,7,7,7,7,7,7,7,7,7,7,7,7,7,7,8,8,8,8,8,8,8,8,8,8,8,8,8,8,8,8,8,8,8,8,8,8,8,8,8,8,8,8,8,8,8,8,8,8,8,8,8,8,8,8,8,8,8,8,8,8,8,8,8,8,8,8,8,8,8,8,8,8,8,8,8,8,8,8,8,8,8,8,8,8,8,8,8,8,8,8,8,8,8,8,8,8,8,8,8,8,8,8,8,8,8,8,8,8,8,8,8,8,8,8,8,8,8,8,8,8,8,8,8,8,8,8,8,8,8,8,8,8,8,8,8,8,8,8,8,8,8,8]⟩:ByteArray).data.toList.getD ((IntKind.u8.wrap ((gi d 0).int)).toNat) 0).toNat:Int))]) else none) else none) else none)
def MJ:bp:=⟨10,[],⟨25,[(0,.s (.int .u64)),(2,.s (.int .i64))],[]⟩,[],[⟨.ret,⟨25,[(2,.s (.int .i64))],[]⟩,[]⟩],mg⟩
theorem Zs:fm P t25 ay 0 (cutAt Tryz.f172 10) MJ:=fun d=>by kernel_rfl
def MK:LT:=ay.dY 0 MJ
theorem Zt:ax P 0 MK (aR Tryz.f172):=ax.aC hm Df (aM _ _ _) Zs
def ML(d:List G):Option (List G) :=
 (bif (a8 4294967296 (gi d 0).int) then (bif (a8 65536 (dP .u64 (gi d 0).int 32)) then (bif (a8 256 (dP .u64 (dP .u64 (gi d 0).int 32) 16)) then (aO true (bU (mg [.i (dP .u64 (dP .u64 (dP .u64 (gi d 0).int 32) 16) 8),.i 56])) fun g g1=>some [.i (gi g1 0).int]) else (aO true (bU (mg [.i (dP .u64 (dP .u64 (gi d 0).int 32) 16),.i 48])) fun h g2=>some [.i (gi g2 0).int])) else (bif (a8 256 (dP .u64 (gi d 0).int 32)) then (aO true (bU (mg [.i (dP .u64 (dP .u64 (gi d 0).int 32) 8),.i 40])) fun k g3=>some [.i (gi g3 0).int]) else (aO true (bU (mg [.i (dP .u64 (gi d 0).int 32),.i 32])) fun q g4=>some [.i (gi g4 0).int]))) else (bif (a8 65536 (gi d 0).int) then (bif (a8 256 (dP .u64 (gi d 0).int 16)) then (aO true (bU (mg [.i (dP .u64 (dP .u64 (gi d 0).int 16) 8),.i 24])) fun u g5=>some [.i (gi g5 0).int]) else (aO true (bU (mg [.i (dP .u64 (gi d 0).int 16),.i 16])) fun v g6=>some [.i (gi g6 0).int])) else (bif (a8 256 (gi d 0).int) then (aO true (bU (mg [.i (dP .u64 (gi d 0).int 8),.i 8])) fun y g7=>some [.i (gi g7 0).int]) else (aO true (bU (mg [.i (gi d 0).int,.i 0])) fun B g8=>some [.i (gi g8 0).int]))))
def Dg:aD:=⟨172,[.s (.int .u64)],[],[],[.s (.int .i64)],[],[],[],ML⟩
theorem Zu:aX P t25 MK Tryz.f172 Dg:=fun d=>by kernel_rfl
theorem Zv:aU P Dg:=aY hm Df Tryz.func172 Zt Zu
def t26:aj:=t25.bf Dg
theorem MM:ak P t26:=Df.aP Zv

def MN(d:List G):Option (List G) :=
 (aw (ML [.i (gi d 0).int]) fun g1=>some [.i (gi g1 0).int])
def Dh:aD:=⟨131,[.s (.int .u64)],[],[],[.s (.int .i64)],[],[],[],MN⟩
theorem Zw:aX P t26 ay Tryz.f131 Dh:=fun d=>by kernel_rfl
theorem Zx:aU P Dh:=aY hm MM Tryz.func131 (aM _ _ _) Zw
def t27:aj:=t26.bf Dh
theorem MO:ak P t27:=MM.aP Zx

def MP(d:List G):Option (List G) :=
 (aw (ru [.i (gi (gi d 1).row 1).int,.i (gi (gi d 0).row 1).int]) fun g1=>(aw (hG [.s (gi (gi d 0).row 2).str,.s (gi (gi d 1).row 2).str]) fun g2=>(aw (pn [.l [[.i (gi g1 0).int],[.i (gi g2 0).int]]]) fun g3=>some [.i (gi g3 0).int])))
def Di:aD:=⟨118,[.s (.row ct),.s (.row ct)],[],[],[.s (.int .i64)],[],[],[],MP⟩
theorem Zy:aX P t27 ay Tryz.f118 Di:=fun d=>by kernel_rfl
theorem Zz:aU P Di:=aY hm MO Tryz.func118 (aM _ _ _) Zy
def t28:aj:=t27.bf Di
theorem yJ:ak P t28:=MO.aP Zz

def MQ(d:List G):Option (Option Nat × List G) :=
 (bif (al (gi d 1).int (gi d 4).int) then (bif ((az (gi d 4).int)&&(al (gi d 4).int (((gi d 0).rows.length:Nat):Int))) then (bif (decide ((0+((gi d 4).int).toNat)<(gi d 0).rows.length)) then (bif (aq ((gi d 4).int-1)) then (bif ((az ((gi d 4).int-1))&&(al ((gi d 4).int-1) (((gi d 0).rows.length:Nat):Int))) then (bif (decide ((0+((gi d 4).int-1).toNat)<(gi d 0).rows.length)) then (aw (MP [.l [(aI ct ((gi d 0).rows.getD (0+((gi d 4).int).toNat) []))],.l [(aI ct ((gi d 0).rows.getD (0+((gi d 4).int-1).toNat) []))]]) fun g1=>(bif (al (gi g1 0).int 0) then (bif (aq ((gi d 4).int-1)) then (bif (aq ((gi d 4).int-1)) then (bif ((az ((gi d 4).int-1))&&(al ((gi d 4).int-1) (((gi d 0).rows.length:Nat):Int))) then (bif (decide ((0+((gi d 4).int-1).toNat)<(gi d 0).rows.length)) then (bif ((az (gi d 4).int)&&(al (gi d 4).int (((gi d 0).rows.length:Nat):Int))) then (bif (decide ((0+((gi d 4).int).toNat)<(gi d 0).rows.length)) then (bif ((az (gi d 4).int)&&(al (gi d 4).int (((gi d 0).rows.length:Nat):Int))) then (bif (decide ((0+((gi d 4).int).toNat)<(gi d 0).rows.length)) then (bif ((az ((gi d 4).int-1))&&(al ((gi d 4).int-1) (((gi d 0).rows.length:Nat):Int))) then (bif (decide ((0+((gi d 4).int-1).toNat)<((gi d 0).rows.set (0+((gi d 4).int).toNat) (bg ct ((gi d 0).rows.getD (0+((gi d 4).int).toNat) []) 0 (aI ct ((gi d 0).rows.getD (0+((gi d 4).int-1).toNat) [])))).length)) then (bif (aq ((gi d 4).int-1)) then (bif ((ad (gi d 0).rows.length (((gi d 0).rows.set (0+((gi d 4).int).toNat) (bg ct ((gi d 0).rows.getD (0+((gi d 4).int).toNat) []) 0 (aI ct ((gi d 0).rows.getD (0+((gi d 4).int-1).toNat) [])))).set (0+((gi d 4).int-1).toNat) (bg ct (((gi d 0).rows.set (0+((gi d 4).int).toNat) (bg ct ((gi d 0).rows.getD (0+((gi d 4).int).toNat) []) 0 (aI ct ((gi d 0).rows.getD (0+((gi d 4).int-1).toNat) [])))).getD (0+((gi d 4).int-1).toNat) []) 0 (aI ct ((gi d 0).rows.getD (0+((gi d 4).int).toNat) [])))).length)&&true) then some (none,[.l (((gi d 0).rows.set (0+((gi d 4).int).toNat) (bg ct ((gi d 0).rows.getD (0+((gi d 4).int).toNat) []) 0 (aI ct ((gi d 0).rows.getD (0+((gi d 4).int-1).toNat) [])))).set (0+((gi d 4).int-1).toNat) (bg ct (((gi d 0).rows.set (0+((gi d 4).int).toNat) (bg ct ((gi d 0).rows.getD (0+((gi d 4).int).toNat) []) 0 (aI ct ((gi d 0).rows.getD (0+((gi d 4).int-1).toNat) [])))).getD (0+((gi d 4).int-1).toNat) []) 0 (aI ct ((gi d 0).rows.getD (0+((gi d 4).int).toNat) [])))),.i (gi d 1).int,.i (gi d 2).int,.i (gi d 3).int,.i ((gi d 4).int-1)]) else none) else none) else none) else none) else none) else none) else none) else none) else none) else none) else none) else none) else (bif ((ad (gi d 0).rows.length (gi d 0).rows.length)&&true) then some (some 0,[.l (gi d 0).rows,.i (gi d 1).int,.i (gi d 2).int,.i (gi d 3).int]) else none))) else none) else none) else none) else none) else none) else (bif ((ad (gi d 0).rows.length (gi d 0).rows.length)&&true) then some (some 0,[.l (gi d 0).rows,.i (gi d 1).int,.i (gi d 2).int,.i (gi d 3).int]) else none))
def MR:bp:=⟨4,[],⟨53,[(0,.s (.vec 0 3)),(1,.s (.int .i64)),(2,.s (.int .i64)),(3,.s (.fn 118)),(8,.s (.int .i64)),(9,.s (.int .i64))],[.vec ct 0]⟩,[.fix 0],[⟨.exit 2,⟨53,[(0,.s (.vec 0 3)),(1,.s (.int .i64)),(2,.s (.int .i64)),(3,.s (.fn 118)),(8,.s (.int .i64))],[.vec ct 0]⟩,[.fix 0]⟩],MQ⟩
theorem ZA:cr P t28 ay 1 (cw Tryz.f190 4) MR:=fun d=>by kernel_rfl
def Dj:LT:=ay.add 1 MR
theorem ZB:ax P 1 Dj (aR Tryz.f190):=ax.a hm yJ (aM _ _ _) ZA
def MS(d:List G):Option (Option Nat × List G) :=
 (bif (al (gi d 3).int (gi d 2).int) then (aO ((ad (gi d 0).rows.length (gi d 0).rows.length)&&true) (bQ MQ [.l (gi d 0).rows,.i (gi d 1).int,.i (gi d 2).int,.i (gi d 3).int,.i (gi d 3).int]) fun g g2=>(bif (aq ((gi g2 3).int+1)) then (bif ((ad (gi g2 0).rows.length (gi g2 0).rows.length)&&true) then some (none,[.l (gi g2 0).rows,.i (gi g2 1).int,.i (gi g2 2).int,.i ((gi g2 3).int+1)]) else none) else none)) else some (some 0,[.l (gi d 0).rows]))
def MT:bp:=⟨1,[],⟨53,[(0,.s (.vec 0 3)),(1,.s (.int .i64)),(2,.s (.int .i64)),(3,.s (.fn 118)),(8,.s (.int .i64))],[.vec ct 0]⟩,[.fix 0],[⟨.exit 0,⟨53,[],[.vec ct 0]⟩,[.fix 0]⟩],MS⟩
theorem ZC:cr P t28 Dj 1 (cw Tryz.f190 1) MT:=fun d=>by kernel_rfl
def MU:LT:=Dj.add 1 MT
theorem ZD:ax P 1 MU (aR Tryz.f190):=ax.a hm yJ ZB ZC
def Dk(d:List G):Option (List G) :=
 (bif (aq ((gi d 1).int+1)) then (aO ((ad (gi d 0).rows.length (gi d 0).rows.length)&&true) (bQ MS [.l (gi d 0).rows,.i (gi d 1).int,.i (gi d 2).int,.i ((gi d 1).int+1)]) fun g g3=>some [.l (gi g3 0).rows]) else none)
def Dl:aD:=⟨190,[.s (.vec 0 3),.s (.int .i64),.s (.int .i64),.s (.fn 118)],[.vec ct 0],[.slot 0],[],[.vec ct 0],[.fix 0],[],Dk⟩
theorem ZE:aX P t28 MU Tryz.f190 Dl:=fun d=>by kernel_rfl
theorem ZF:aU P Dl:=aY hm yJ Tryz.func190 ZD ZE
def t29:aj:=t28.c8 Dl
theorem Dm:ak P t29:=yJ.aW ZF

def MV(d:List G):Option (Option Nat × List G) :=
 (bif (aq ((gi d 2).int-(gi d 1).int)) then (bif (a8 ((gi d 2).int-(gi d 1).int) 12) then (ix (((ad (gi d 0).rows.length (gi d 0).rows.length)&&true)&&(Dk [.l (gi d 0).rows,.i (gi d 1).int,.i (gi d 2).int]).isSome) (Dk [.l (gi d 0).rows,.i (gi d 1).int,.i (gi d 2).int]) fun g1=>some (some 0,[.l (gi g1 0).rows])) else (bif ((gi d 3).int==0) then none else (bif (!(gi d 4).bool) then none else none))) else none)
def MW:bp:=⟨2,[],⟨148,[(0,.s (.vec 0 3)),(1,.s (.int .i64)),(2,.s (.int .i64)),(3,.s (.int .i64)),(4,.s (.fn 118)),(10,.s (.bool)),(11,.s (.bool))],[.vec ct 0]⟩,[.fix 0],[⟨.ret,⟨148,[],[.vec ct 0]⟩,[.fix 0]⟩],MV⟩
theorem ZG:cr P t29 ay 1 (cw Tryz.f155 2) MW:=fun d=>by kernel_rfl
def MX:LT:=ay.add 1 MW
theorem ZH:ax P 1 MX (aR Tryz.f155):=ax.a hm Dm (aM _ _ _) ZG
def Dn(d:List G):Option (List G) :=
 (aO ((ad (gi d 0).rows.length (gi d 0).rows.length)&&true) (bQ MV [.l (gi d 0).rows,.i (gi d 1).int,.i (gi d 2).int,.i (gi d 3).int,.t true,.t true]) fun g g2=>some [.l (gi g2 0).rows])
def Dp:aD:=⟨155,[.s (.vec 0 3),.s (.int .i64),.s (.int .i64),.s (.int .i64),.s (.fn 118)],[.vec ct 0],[.slot 0],[],[.vec ct 0],[.fix 0],[],Dn⟩
theorem ZI:aX P t29 MX Tryz.f155 Dp:=fun d=>by kernel_rfl
theorem ZJ:aU P Dp:=aY hm Dm Tryz.func155 ZH ZI
def t30:aj:=t29.c8 Dp
theorem MY:ak P t30:=Dm.aW ZJ

def Dq(d:List G):Option (List G) :=
 (aw (MN [.i (IntKind.u64.wrap (((gi d 0).rows.length:Nat):Int))]) fun g1=>(ix (((ad (gi d 0).rows.length (gi d 0).rows.length)&&true)&&(Dn [.l (gi d 0).rows,.i 0,.i (((gi d 0).rows.length:Nat):Int),.i (gi g1 0).int]).isSome) (Dn [.l (gi d 0).rows,.i 0,.i (((gi d 0).rows.length:Nat):Int),.i (gi g1 0).int]) fun g2=>some [.l (gi g2 0).rows]))
def Ds:aD:=⟨117,[.s (.vec 0 3),.s (.fn 118)],[.vec ct 0],[.slot 0],[],[.vec ct 0],[.fix 0],[],Dq⟩
theorem ZK:aX P t30 ay Tryz.f117 Ds:=fun d=>by kernel_rfl
theorem ZL:aU P Ds:=aY hm MY Tryz.func117 (aM _ _ _) ZK
def t31:aj:=t30.c8 Ds
theorem yK:ak P t31:=MY.aW ZL

def Dt(d:List G):Option (Option Nat × List G) :=
 (bif (gi d 4).bool then (bif (aq ((gi d 1).int-1)) then (bif ((az ((gi d 1).int-1))&&(al ((gi d 1).int-1) (((gi d 0).rows.length:Nat):Int))) then (bif (decide ((0+((gi d 1).int-1).toNat)<(gi d 0).rows.length)) then (bif ((az (gi d 1).int)&&(al (gi d 1).int (((gi d 0).rows.length:Nat):Int))) then (bif (decide ((0+((gi d 1).int).toNat)<(gi d 0).rows.length)) then (bif ((ad (gi d 0).rows.length ((gi d 0).rows.set (0+((gi d 1).int).toNat) (bg ct ((gi d 0).rows.getD (0+((gi d 1).int).toNat) []) 0 [.i (gi ((gi d 0).rows.getD (0+((gi d 1).int-1).toNat) []) 0).int])).length)&&true) then some (some 0,[.l ((gi d 0).rows.set (0+((gi d 1).int).toNat) (bg ct ((gi d 0).rows.getD (0+((gi d 1).int).toNat) []) 0 [.i (gi ((gi d 0).rows.getD (0+((gi d 1).int-1).toNat) []) 0).int])),.i (gi d 2).int,.i (gi d 3).int]) else none) else none) else none) else none) else none) else none) else (bif ((ad (gi d 0).rows.length (gi d 0).rows.length)&&true) then some (some 0,[.l (gi d 0).rows,.i (gi d 2).int,.i (gi d 3).int]) else none))
def MZ:bp:=⟨7,[],⟨45,[(0,.s (.vec 0 3)),(3,.s (.int .i64)),(7,.s (.int .i64)),(8,.s (.int .i64)),(32,.s (.bool))],[.vec ct 0]⟩,[.fix 0],[⟨.normal,⟨45,[(0,.s (.vec 0 3)),(7,.s (.int .i64)),(8,.s (.int .i64))],[.vec ct 0]⟩,[.fix 0]⟩],Dt⟩
theorem ZM:fm P t31 ay 1 (cutAt Tryz.f71 7) MZ:=fun d=>by kernel_rfl
def Du:LT:=ay.dY 1 MZ
theorem ZN:ax P 1 Du (aR Tryz.f71):=ax.aC hm yK (aM _ _ _) ZM
def M0(d:List G):Option (Option Nat × List G) :=
 (bif (al (gi d 2).int (gi d 1).int) then (bif (aq ((gi d 2).int+1)) then (bif ((az (gi d 2).int)&&(al (gi d 2).int (((gi d 0).rows.length:Nat):Int))) then (bif (decide ((0+((gi d 2).int).toNat)<(gi d 0).rows.length)) then (bif (al 0 (gi d 2).int) then (bif ((az (gi d 2).int)&&(al (gi d 2).int (((gi d 0).rows.length:Nat):Int))) then (bif (decide ((0+((gi d 2).int).toNat)<((gi d 0).rows.set (0+((gi d 2).int).toNat) (bg ct ((gi d 0).rows.getD (0+((gi d 2).int).toNat) []) 0 [.i ((gi d 2).int+1)])).length)) then (bif (aq ((gi d 2).int-1)) then (bif ((az ((gi d 2).int-1))&&(al ((gi d 2).int-1) (((gi d 0).rows.length:Nat):Int))) then (bif (decide ((0+((gi d 2).int-1).toNat)<((gi d 0).rows.set (0+((gi d 2).int).toNat) (bg ct ((gi d 0).rows.getD (0+((gi d 2).int).toNat) []) 0 [.i ((gi d 2).int+1)])).length)) then (aO ((ad (gi d 0).rows.length ((gi d 0).rows.set (0+((gi d 2).int).toNat) (bg ct ((gi d 0).rows.getD (0+((gi d 2).int).toNat) []) 0 [.i ((gi d 2).int+1)])).length)&&true) (bU (Dt [.l ((gi d 0).rows.set (0+((gi d 2).int).toNat) (bg ct ((gi d 0).rows.getD (0+((gi d 2).int).toNat) []) 0 [.i ((gi d 2).int+1)])),.i (gi d 2).int,.i (gi d 1).int,.i (gi d 2).int,.t ((gi (((gi d 0).rows.set (0+((gi d 2).int).toNat) (bg ct ((gi d 0).rows.getD (0+((gi d 2).int).toNat) []) 0 [.i ((gi d 2).int+1)])).getD (0+((gi d 2).int).toNat) []) 1).int==(gi (((gi d 0).rows.set (0+((gi d 2).int).toNat) (bg ct ((gi d 0).rows.getD (0+((gi d 2).int).toNat) []) 0 [.i ((gi d 2).int+1)])).getD (0+((gi d 2).int-1).toNat) []) 1).int)])) fun g g2=>(bif (aq ((gi g2 2).int+1)) then (bif ((ad (gi g2 0).rows.length (gi g2 0).rows.length)&&true) then some (none,[.l (gi g2 0).rows,.i (gi g2 1).int,.i ((gi g2 2).int+1)]) else none) else none)) else none) else none) else none) else none) else none) else (aO ((ad (gi d 0).rows.length ((gi d 0).rows.set (0+((gi d 2).int).toNat) (bg ct ((gi d 0).rows.getD (0+((gi d 2).int).toNat) []) 0 [.i ((gi d 2).int+1)])).length)&&true) (bU (Dt [.l ((gi d 0).rows.set (0+((gi d 2).int).toNat) (bg ct ((gi d 0).rows.getD (0+((gi d 2).int).toNat) []) 0 [.i ((gi d 2).int+1)])),.i (gi d 2).int,.i (gi d 1).int,.i (gi d 2).int,.t false])) fun h g3=>(bif (aq ((gi g3 2).int+1)) then (bif ((ad (gi g3 0).rows.length (gi g3 0).rows.length)&&true) then some (none,[.l (gi g3 0).rows,.i (gi g3 1).int,.i ((gi g3 2).int+1)]) else none) else none))) else none) else none) else none) else (bif ((ad (gi d 0).rows.length (gi d 0).rows.length)&&true) then some (some 0,[.l (gi d 0).rows]) else none))
def M1:bp:=⟨3,[],⟨45,[(0,.s (.vec 0 3)),(7,.s (.int .i64)),(8,.s (.int .i64))],[.vec ct 0]⟩,[.fix 0],[⟨.exit 0,⟨45,[(0,.s (.vec 0 3))],[.vec ct 0]⟩,[.fix 0]⟩],M0⟩
theorem ZO:cr P t31 Du 1 (cw Tryz.f71 3) M1:=fun d=>by kernel_rfl
def M2:LT:=Du.add 1 M1
theorem ZP:ax P 1 M2 (aR Tryz.f71):=ax.a hm yK ZN ZO
def Dv(d:List G):Option (List G) :=
 (ix (((ad (gi d 0).rows.length (gi d 0).rows.length)&&true)&&(Dq [.l (gi d 0).rows]).isSome) (Dq [.l (gi d 0).rows]) fun g1=>(aO ((ad (gi d 0).rows.length (gi g1 0).rows.length)&&true) (bQ M0 [.l (gi g1 0).rows,.i (((gi d 0).rows.length:Nat):Int),.i 0]) fun g g4=>(bif ((ad (gi g4 0).rows.length (gi g4 0).rows.length)&&true) then some [.l (gi g4 0).rows] else none)))
def Dw:aD:=⟨71,[.s (.vec 0 3)],[.vec ct 0],[.slot 0],[.s (.vec 0 3)],[.vec ct 0],[.fix 0],[],Dv⟩
theorem ZQ:aX P t31 M2 Tryz.f71 Dw:=fun d=>by kernel_rfl
theorem ZR:aU P Dw:=aY hm yK Tryz.func71 ZP ZQ
def t32:aj:=t31.c8 Dw
theorem Dx:ak P t32:=yK.aW ZR

def M3(d:List G):Option (Option Nat × List G) :=
 (bif (al (gi d 4).int (gi d 3).int) then (bif ((az (gi d 4).int)&&(al (gi d 4).int (((gi d 2).rows.length:Nat):Int))) then (bif ((gi ((gi d 2).rows.getD (((gi d 4).int).toNat) []) 1).str.toList==(gi d 1).str.toList) then (bif ((ad (gi d 0).rows.length (gi d 0).rows.length)&&(decide (((gi d 0).rows.length+1)≤1048576))) then (bif (aq ((gi d 4).int+1)) then (bif ((ad ((gi d 0).rows++([[.i 0,.i (gi ((gi d 2).rows.getD (((gi d 4).int).toNat) []) 2).int,.s (gi ((gi d 2).rows.getD (((gi d 4).int).toNat) []) 0).str]]:List (List G))).length ((gi d 0).rows++([[.i 0,.i (gi ((gi d 2).rows.getD (((gi d 4).int).toNat) []) 2).int,.s (gi ((gi d 2).rows.getD (((gi d 4).int).toNat) []) 0).str]]:List (List G))).length)&&true) then some (none,[.l ((gi d 0).rows++([[.i 0,.i (gi ((gi d 2).rows.getD (((gi d 4).int).toNat) []) 2).int,.s (gi ((gi d 2).rows.getD (((gi d 4).int).toNat) []) 0).str]]:List (List G))),.s (gi d 1).str,.l (gi d 2).rows,.i (gi d 3).int,.i ((gi d 4).int+1)]) else none) else none) else none) else (bif (aq ((gi d 4).int+1)) then (bif ((ad (gi d 0).rows.length (gi d 0).rows.length)&&true) then some (none,[.l (gi d 0).rows,.s (gi d 1).str,.l (gi d 2).rows,.i (gi d 3).int,.i ((gi d 4).int+1)]) else none) else none)) else none) else (bif ((ad (gi d 0).rows.length (gi d 0).rows.length)&&true) then some (some 0,[.l (gi d 0).rows]) else none))
def M4:bp:=⟨8,[(7,ct)],⟨39,[(1,.s (.str)),(7,.s (.vec 0 3)),(18,.s (.list uH)),(19,.s (.int .i64)),(20,.s (.int .i64))],[.vec ct 0]⟩,[.slot 7],[⟨.exit 0,⟨39,[(7,.s (.vec 0 3))],[.vec ct 0]⟩,[.slot 7]⟩],M3⟩
theorem ZS:cr P t32 ay 0 (cw Tryz.f39 8) M4:=fun d=>by kernel_rfl
def M5:LT:=ay.add 0 M4
theorem ZT:ax P 0 M5 (aR Tryz.f39):=ax.a hm Dx (aM _ _ _) ZS
def ZU(d:List G):Option (List G) :=
 (aw (MI [.l (gi d 0).rows]) fun g1=>(bif ((gi g1 0).int != 0) then some [.l [],.i (gi g1 0).int] else (aw (rq [.s (gi d 1).str]) fun g2=>(bif (!(gi g2 0).bool) then some [.l [],.i 5] else (aO true (bQ M3 [.l [],.s (gi d 1).str,.l (gi d 0).rows,.i (((gi d 0).rows.length:Nat):Int),.i 0]) fun g g3=>(ix (((ad (gi g3 0).rows.length (gi g3 0).rows.length)&&true)&&(Dv [.l (gi g3 0).rows]).isSome) (Dv [.l (gi g3 0).rows]) fun g4=>(bif ((ad (gi g4 0).rows.length (gi g4 0).rows.length)&&true) then some [.l (gi g4 0).rows,.i 0] else none)))))))
def Dy:aD:=⟨39,[.s (.list uH),.s (.str)],[],[],[.s (.list ct),.s (.int .i64)],[],[],[],ZU⟩
theorem ZV:aX P t32 M5 Tryz.f39 Dy:=fun d=>by kernel_rfl
theorem ZW:aU P Dy:=aY hm Dx Tryz.func39 ZT ZV
def t33:aj:=t32.bf Dy
theorem Dz:ak P t33:=Dx.aP ZW

def M6(d:List G):Option (Option Nat × List G) :=
 (bif (al (gi d 1).int (gi d 2).int) then (bif ((az (gi d 2).int)&&(al (gi d 2).int (((gi d 0).rows.length:Nat):Int))) then (bif (decide ((0+((gi d 2).int).toNat)<(gi d 0).rows.length)) then (bif ((az (gi d 1).int)&&(al (gi d 1).int (((gi d 0).rows.length:Nat):Int))) then (bif (decide ((0+((gi d 1).int).toNat)<(gi d 0).rows.length)) then (bif ((az (gi d 1).int)&&(al (gi d 1).int (((gi d 0).rows.length:Nat):Int))) then (bif (decide ((0+((gi d 1).int).toNat)<(gi d 0).rows.length)) then (bif ((az (gi d 2).int)&&(al (gi d 2).int (((gi d 0).rows.length:Nat):Int))) then (bif (decide ((0+((gi d 2).int).toNat)<((gi d 0).rows.set (0+((gi d 1).int).toNat) (bg [.int .i64] ((gi d 0).rows.getD (0+((gi d 1).int).toNat) []) 0 [.i (gi ((gi d 0).rows.getD (0+((gi d 2).int).toNat) []) 0).int])).length)) then (bif (aq ((gi d 1).int+1)) then (bif (aq ((gi d 2).int-1)) then (bif ((ad (gi d 0).rows.length (((gi d 0).rows.set (0+((gi d 1).int).toNat) (bg [.int .i64] ((gi d 0).rows.getD (0+((gi d 1).int).toNat) []) 0 [.i (gi ((gi d 0).rows.getD (0+((gi d 2).int).toNat) []) 0).int])).set (0+((gi d 2).int).toNat) (bg [.int .i64] (((gi d 0).rows.set (0+((gi d 1).int).toNat) (bg [.int .i64] ((gi d 0).rows.getD (0+((gi d 1).int).toNat) []) 0 [.i (gi ((gi d 0).rows.getD (0+((gi d 2).int).toNat) []) 0).int])).getD (0+((gi d 2).int).toNat) []) 0 [.i (gi ((gi d 0).rows.getD (0+((gi d 1).int).toNat) []) 0).int])).length)&&true) then some (none,[.l (((gi d 0).rows.set (0+((gi d 1).int).toNat) (bg [.int .i64] ((gi d 0).rows.getD (0+((gi d 1).int).toNat) []) 0 [.i (gi ((gi d 0).rows.getD (0+((gi d 2).int).toNat) []) 0).int])).set (0+((gi d 2).int).toNat) (bg [.int .i64] (((gi d 0).rows.set (0+((gi d 1).int).toNat) (bg [.int .i64] ((gi d 0).rows.getD (0+((gi d 1).int).toNat) []) 0 [.i (gi ((gi d 0).rows.getD (0+((gi d 2).int).toNat) []) 0).int])).getD (0+((gi d 2).int).toNat) []) 0 [.i (gi ((gi d 0).rows.getD (0+((gi d 1).int).toNat) []) 0).int])),.i ((gi d 1).int+1),.i ((gi d 2).int-1)]) else none) else none) else none) else none) else none) else none) else none) else none) else none) else none) else none) else some (some 0,[.l (gi d 0).rows]))
def M7:bp:=⟨1,[],⟨28,[(0,.s (.vec 0 1)),(2,.s (.int .i64)),(3,.s (.int .i64))],[.vec [.int .i64] 0]⟩,[.fix 0],[⟨.exit 0,⟨28,[],[.vec [.int .i64] 0]⟩,[.fix 0]⟩],M6⟩
theorem ZX:cr P t33 ay 1 (cw Tryz.f201 1) M7:=fun d=>by kernel_rfl
def M8:LT:=ay.add 1 M7
theorem ZY:ax P 1 M8 (aR Tryz.f201):=ax.a hm Dz (aM _ _ _) ZX
def ZZ(d:List G):Option (List G) :=
 (bif (aq ((((gi d 0).rows.length:Nat):Int)-1)) then (aO ((ad (gi d 0).rows.length (gi d 0).rows.length)&&true) (bQ M6 [.l (gi d 0).rows,.i 0,.i ((((gi d 0).rows.length:Nat):Int)-1)]) fun g g1=>some [.l (gi g1 0).rows]) else none)
def DA:aD:=⟨201,[.s (.vec 0 1)],[.vec [.int .i64] 0],[.slot 0],[],[.vec [.int .i64] 0],[.fix 0],[],ZZ⟩
theorem Z0:aX P t33 M8 Tryz.f201 DA:=fun d=>by kernel_rfl
theorem Z1:aU P DA:=aY hm Dz Tryz.func201 ZY Z0
def t34:aj:=t33.c8 DA
theorem DB:ak P t34:=Dz.aW Z1

def yL(r d:List G):Option (List G) :=
 (bif (aq ((gi (aA [.int .i64] (gi d 6).rows [.i (gi (gi r 0).row 1).int] [.i 0]) 0).int+1)) then (bif ((((ad (gi d 3).rows.length (gi d 3).rows.length)&&true)&&true)&&true) then some [.l (gi d 0).rows,.l (gi d 1).rows,.l (gi d 2).rows,.l (gi d 3).rows,.l (gi d 4).rows,.i (((gi d 5).int.toNat:Nat):Int),.l (aL [.int .i64] (gi d 6).rows [.i (gi (gi r 0).row 1).int] [.i ((gi (aA [.int .i64] (gi d 6).rows [.i (gi (gi r 0).row 1).int] [.i 0]) 0).int+1)] (gi d 7).int.toNat),.i (((bD [.int .i64] (gi d 6).rows [.i (gi (gi r 0).row 1).int] (gi d 7).int.toNat):Nat):Int),.i (((gi d 8).int.toNat:Nat):Int)] else none) else none)
def M9(d:List G)(b:Nat):List G:=[.l (gi d 0).rows,.l (gi d 1).rows,.l (gi d 2).rows,.l (gi d 3).rows,.l (gi d 4).rows,.i (((gi d 5).int.toNat:Nat):Int),.l (gi d 6).rows,.i (((gi d 7).int.toNat:Nat):Int),.i (b:Int)]
def Z2(d:List G)(b:Nat):Bool:=((((ad (gi d 3).rows.length (gi d 3).rows.length)&&true)&&true)&&true)
def kF:fp:=⟨⟨21,[(3,.s (.map 3)),(10,.s (.addr))],[.box [.vec 1 15,.list ah,.list [.str],.list [.int .i64],.map 2],.vec pk 0,.map (.agg [.str,.int .i64]) (.one (.bool)),.map (.one (.int .i64)) (.one (.int .i64))]⟩,[.fix 0,.cell 0 0,.cell 0 4,.slot 3],[],(.agg [.str,.int .i64]),(.one (.bool)),2,0,9,10,11,12,13,fun d=>(gi d 8).int.toNat,M9,Z2,yL⟩
theorem Z3:jn P t34 ay 3 kF (nF (cutAt Tryz.f122 2)) (qZ (cutAt Tryz.f122 2)):=fun r d=>by kernel_rfl
def rz(d:List G):Option (Option Nat × List G) :=
 (bif ((((ad (gi d 3).rows.length (gi d 3).rows.length)&&true)&&true)&&true) then some (some 0,[.l (gi d 0).rows,.l (gi d 1).rows,.l (gi d 2).rows,.l (gi d 3).rows,.l (gi d 4).rows,.i (((gi d 5).int.toNat:Nat):Int),.l (gi d 6).rows,.i (((gi d 7).int.toNat:Nat):Int)]) else none)
def M_:bp:=⟨6,[],⟨21,[(3,.s (.map 3)),(10,.s (.addr))],[.box [.vec 1 15,.list ah,.list [.str],.list [.int .i64],.map 2],.vec pk 0,.map (.agg [.str,.int .i64]) (.one (.bool)),.map (.one (.int .i64)) (.one (.int .i64))]⟩,[],[⟨.ret,⟨21,[(2,.s (.map 3))],[.box [.vec 1 15,.list ah,.list [.str],.list [.int .i64],.map 2],.vec pk 0,.map (.agg [.str,.int .i64]) (.one (.bool)),.map (.one (.int .i64)) (.one (.int .i64))]⟩,[.fix 0,.cell 0 0,.cell 0 4,.slot 2]⟩],rz⟩
theorem Z4:fm P t34 ay 3 (qY (cutAt Tryz.f122 2)) M_:=fun d=>by kernel_rfl
def Na(d:List G):Option (Option Nat × List G) :=
 jo kF rz (gi d 4).rows ((gi d 5).int.toNat) d
def DC:bp:=⟨2,[],⟨21,[(0,.s (.ptr 0 0)),(3,.s (.map 3))],[.box [.vec 1 15,.list ah,.list [.str],.list [.int .i64],.map 2],.vec pk 0,.map (.agg [.str,.int .i64]) (.one (.bool)),.map (.one (.int .i64)) (.one (.int .i64))]⟩,[.fix 0,.cell 0 0,.cell 0 4,.slot 3],[⟨.ret,⟨21,[(2,.s (.map 3))],[.box [.vec 1 15,.list ah,.list [.str],.list [.int .i64],.map 2],.vec pk 0,.map (.agg [.str,.int .i64]) (.one (.bool)),.map (.one (.int .i64)) (.one (.int .i64))]⟩,[.fix 0,.cell 0 0,.cell 0 4,.slot 2]⟩],Na⟩
def Nb:LT:=ay.dY 3 DC
theorem Z5:∀ r d d',yL r d=some d'→(gi d' 4).rows=(gi d 4).rows∧(gi d' 5).int.toNat=(gi d 5).int.toNat:=by
 intro r d d' h;unfold yL at h;simp only[Bool.cond_eq_ite]at h
 repeat' split at h
 all_goals first|(cases h; done)|(cases h; exact⟨rfl,rfl⟩)
theorem Z6:ax P 3 Nb (aR Tryz.f122):=ax.Wg (q:=DC) (qr:=M_) (sp:=kF) (r0:=2) (b0:=0) (r1:=3) (b1:=1) (r2:=4) (rows:=fun d=>(gi d 4).rows) (clock:=fun d=>(gi d 5).int.toNat) (pre:=fun d=>KE P t34 (lf (cutAt Tryz.f122 2)) (aQ DC.inv d)) (ri:=fun d=>(gi d 4).rows) (ci:=fun d=>(gi d 5).int.toNat) hm DB (fun d=>by kernel_rfl) Z5 (by kernel_rfl) (by kernel_rfl) (aM _ _ _) (by kernel_rfl) (by kernel_rfl) Z3 (fun d=>by kernel_rfl) (fun d=>by kernel_rfl) (fun d=>by kernel_rfl) (fun d=>by kernel_rfl) (fun d=>by kernel_rfl) (fun d=>by kernel_rfl) (fun d b=>by kernel_rfl) (fun d b=>rfl) (fun d b=>⟨rfl,rfl⟩) rfl rfl Z4 (fun d=>rfl)
def Nc(d:List G):Option (List G) :=
 (aO ((((ad (gi d 3).rows.length (gi d 3).rows.length)&&true)&&true)&&true) (bU (Na [.l (gi d 0).rows,.l (gi d 1).rows,.l (gi d 2).rows,.l (gi d 3).rows,.l (gi d 4).rows,.i (((gi d 5).int.toNat:Nat):Int),.l [],.i 0])) fun g g1=>(bif ((((ad (gi g1 3).rows.length (gi g1 3).rows.length)&&true)&&true)&&true) then some [.l (gi g1 0).rows,.l (gi g1 1).rows,.l (gi g1 2).rows,.l (gi g1 3).rows,.l (gi g1 4).rows,.i (((gi g1 5).int.toNat:Nat):Int),.l (gi g1 6).rows,.i (((gi g1 7).int.toNat:Nat):Int)] else none))
def yM:aD:=⟨122,[.s (.ptr 0 0)],[.box [.vec 1 15,.list ah,.list [.str],.list [.int .i64],.map 2],.vec pk 0,.map (.agg [.str,.int .i64]) (.one (.bool))],[.slot 0,.cell 0 0,.cell 0 4],[.s (.map 3)],[.box [.vec 1 15,.list ah,.list [.str],.list [.int .i64],.map 2],.vec pk 0,.map (.agg [.str,.int .i64]) (.one (.bool)),.map (.one (.int .i64)) (.one (.int .i64))],[.fix 0,.fix 1,.fix 2,.slot 0],[],Nc⟩
theorem Z7:aX P t34 Nb Tryz.f122 yM:=fun d=>by kernel_rfl
theorem Nd:aU P yM:=aY hm DB Tryz.func122 Z6 Z7
def t35:aj:=t34.c8 yM
theorem Nf:ak P t35:=DB.aW Nd

theorem Z8:uw P ⟨227,97,96,15,15,true⟩:=Wa Tryz.func227 (by kernel_rfl) rfl rfl rfl ⟨⟨_,_,_,_,_,_,rfl,⟨rfl,rfl,rfl⟩,⟨rfl,rfl,rfl⟩,⟨rfl,rfl,rfl⟩,⟨rfl,rfl,rfl⟩⟩,⟨_,_,_,_,rfl,⟨rfl,rfl,rfl⟩,⟨rfl,rfl,rfl⟩⟩,⟨_,_,_,_,_,rfl,⟨rfl,rfl,rfl⟩,⟨rfl,rfl,rfl⟩,⟨rfl,rfl,rfl⟩⟩,⟨_,_,_,_,_,_,_,_,_,_,rfl,⟨rfl,rfl,rfl⟩,⟨rfl,rfl,rfl⟩,⟨rfl,rfl,rfl⟩,⟨rfl,rfl,rfl⟩,⟨rfl,rfl,rfl⟩,⟨rfl,rfl,rfl⟩,⟨rfl,rfl,rfl⟩,⟨rfl,rfl,rfl⟩⟩⟩ (by kernel_rfl)
def Z9(d:List G):Option (Option Nat × List G) :=
 CE kF rz (gi d 4).rows ((gi d 5).int.toNat) d
theorem Z_(d x:List G)(b:Nat):(cJ kF.st kF.ba [x] (kF.init d b)).bind rz=(cJ kF.st kF.ba [x] (kF.init d 0)).bind rz:=by
 simp only[Wk,kF];unfold yL M9 rz;dsimp +instances only[KR,KS];simp only[Wl,Option.bind_some,Option.bind_none];dsimp +instances only[KR,KS];simp only[Wh,Int.toNat_natCast,Wi,cond_true]
def Ng(d:List G):Option (List G) :=
 (aO ((((ad (gi d 3).rows.length (gi d 3).rows.length)&&true)&&true)&&true) (bU (Z9 [.l (gi d 0).rows,.l (gi d 1).rows,.l (gi d 2).rows,.l (gi d 3).rows,.l (gi d 4).rows,.i (((gi d 5).int.toNat:Nat):Int),.l [],.i 0])) fun g g1=>(bif ((((ad (gi g1 3).rows.length (gi g1 3).rows.length)&&true)&&true)&&true) then some [.l (gi g1 0).rows,.l (gi g1 1).rows,.l (gi g1 2).rows,.l (gi g1 3).rows,.l (gi g1 4).rows,.i (((gi g1 5).int.toNat:Nat):Int),.l (gi g1 6).rows,.i (((gi g1 7).int.toNat:Nat):Int)] else none))
theorem Z'{d r:List G}(h:Ng d=some r):Nc d=some r :=
 Wm (fun v g=>Wj (fun b=>rfl) (Z_ _) g) h
def aaa:aD:={ yM with F:=Ng }
def Nh:aj:=t35.c8 aaa
theorem aab:ak P Nh:=Nf.aW fun d r h=>Nd d r (Z' h)
def Ni:aj:=Nh.inline P 225 Tryz.f225 []
theorem aac:ak P Ni:=aab.inline hm Tryz.func225 (by kernel_rfl) []
def Nj:aj:=Ni.inline P 226 Tryz.f226 []
theorem aad:ak P Nj:=aac.inline hm Tryz.func226 (by kernel_rfl) []
def Nk:aj:=Nj.inline P 198 Tryz.f198 []
theorem aae:ak P Nk:=aad.inline hm Tryz.func198 (by kernel_rfl) []
def Nl:aj:=Nk.inline P 156 Tryz.f156 []
theorem aaf:ak P Nl:=aae.inline hm Tryz.func156 (by kernel_rfl) []
def Nn:aj:=Nl.inline P 119 Tryz.f119 []
theorem aag:ak P Nn:=aaf.inline hm Tryz.func119 (by kernel_rfl) []
def No:aj:=Nn.cR P 200 Tryz.f200
theorem aah:ak P No:=aag.cR hm Tryz.func200 (by kernel_rfl) (by kernel_rfl)
def Np:aj:=No.yn P ⟨227,97,96,15,15,true⟩ 3 157 Tryz.f157 [some [.int .i64]]
theorem aai:ak P Np:=aah.yn hm Z8 Tryz.func157 (by kernel_rfl) (by kernel_rfl) [some [.int .i64]]
def Nq:aj:=Np.cR P 95 Tryz.f95
theorem aaj:ak P Nq:=aai.cR hm Tryz.func95 (by kernel_rfl) (by kernel_rfl)
def Nr:aj:=Nq.cR P 202 Tryz.f202
theorem aak:ak P Nr:=aaj.cR hm Tryz.func202 (by kernel_rfl) (by kernel_rfl)
def Ns:aj:=Nr.cR P 159 Tryz.f159
theorem aal:ak P Ns:=aak.cR hm Tryz.func159 (by kernel_rfl) (by kernel_rfl)
def Nt:aj:=Ns.inline P 158 Tryz.f158 []
theorem aam:ak P Nt:=aal.inline hm Tryz.func158 (by kernel_rfl) []
def Nu:aj:=Nt.cR P 120 Tryz.f120
theorem aan:ak P Nu:=aam.cR hm Tryz.func120 (by kernel_rfl) (by kernel_rfl)
def Nv:aj:=Nu.cR P 72 Tryz.f72
theorem aao:ak P Nv:=aan.cR hm Tryz.func72 (by kernel_rfl) (by kernel_rfl)
def Nw:aj:=Nv.cR P 121 Tryz.f121
theorem aap:ak P Nw:=aao.cR hm Tryz.func121 (by kernel_rfl) (by kernel_rfl)
def Nx:aj:=Nw.cR P 73 Tryz.f73
theorem aaq:ak P Nx:=aap.cR hm Tryz.func73 (by kernel_rfl) (by kernel_rfl)
def Ny:aj:=Nx.inline P 40 Tryz.f40 []
theorem aar:ak P Ny:=aaq.inline hm Tryz.func40 (by kernel_rfl) []
def Nz:aj:=Ny.inline P 107 Tryz.f107 []
theorem aas:ak P Nz:=aar.inline hm Tryz.func107 (by kernel_rfl) []
def NA:aj:=Nz.inline P 113 Tryz.f113 []
theorem aat:ak P NA:=aas.inline hm Tryz.func113 (by kernel_rfl) []
def NB:aj:=NA.inline P 106 Tryz.f106 []
theorem aau:ak P NB:=aat.inline hm Tryz.func106 (by kernel_rfl) []
def NC:aj:=NB.inline P 62 Tryz.f62 []
theorem aav:ak P NC:=aau.inline hm Tryz.func62 (by kernel_rfl) []
def ND:aj:=NC.inline P 66 Tryz.f66 []
theorem aaw:ak P ND:=aav.inline hm Tryz.func66 (by kernel_rfl) []
def NF:aj:=ND.inline P 152 Tryz.f152 []
theorem aax:ak P NF:=aaw.inline hm Tryz.func152 (by kernel_rfl) []
def NG:aj:=NF.inline P 112 Tryz.f112 []
theorem aay:ak P NG:=aax.inline hm Tryz.func112 (by kernel_rfl) []
def NH:aj:=NG.cR P 163 Tryz.f163
theorem aaz:ak P NH:=aay.cR hm Tryz.func163 (by kernel_rfl) (by kernel_rfl)
def NI:aj:=NH.cR P 130 Tryz.f130
theorem aaA:ak P NI:=aaz.cR hm Tryz.func130 (by kernel_rfl) (by kernel_rfl)
def NJ:aj:=NI.cR P 89 Tryz.f89
theorem aaB:ak P NJ:=aaA.cR hm Tryz.func89 (by kernel_rfl) (by kernel_rfl)
def NK:aj:=NJ.cR P 114 Tryz.f114
theorem aaC:ak P NK:=aaB.cR hm Tryz.func114 (by kernel_rfl) (by kernel_rfl)
def NL:aj:=NK.cR P 68 Tryz.f68
theorem aaD:ak P NL:=aaC.cR hm Tryz.func68 (by kernel_rfl) (by kernel_rfl)
def NM:aj:=NL.cR P 69 Tryz.f69
theorem aaE:ak P NM:=aaD.cR hm Tryz.func69 (by kernel_rfl) (by kernel_rfl)
def NN:aj:=NM.cR P 111 Tryz.f111
theorem aaF:ak P NN:=aaE.cR hm Tryz.func111 (by kernel_rfl) (by kernel_rfl)
def NO:aj:=NN.cR P 67 Tryz.f67
theorem aaG:ak P NO:=aaF.cR hm Tryz.func67 (by kernel_rfl) (by kernel_rfl)
def NP:aj:=NO.inline P 38 Tryz.f38 []
theorem aaH:ak P NP:=aaG.inline hm Tryz.func38 (by kernel_rfl) []
def aaI:aj:=NP.inline P 13 Tryz.f13 []
theorem aaJ:ak P aaI:=aaH.inline hm Tryz.func13 (by kernel_rfl) []
theorem aaK:cH P 9 [] (.lit (.bool true)):=dn (L:=ay) hm aaJ [] (fun _ _=>aM _ _ _) Tryz.func9 rfl (by kernel_rfl) (by kernel_rfl)
def rA(_:List G):Option (List G):=some [.t true]
def uN:aD:=⟨9,[],[],[],[.s (.bool)],[],[],[],rA⟩
theorem aaL:∀ d r,rA d=some r→dv P 9 (uN.args0 d) (ao (uN.H0 d)) (uN.out r) (ao (uN.H1 r)):=fun d r h=>by
 cases (show some [G.t true]=some r from h);exact aaK []
def t36:aj:=t35.bf uN
theorem NQ:ak P t36:=Nf.aP aaL


def rB(d:List G):Option (List G) :=
 (bif (al (gi d 1).int 1) then some [.i 0] else (bif (!((gi d 1).int==0)) then (bif (al (iX (gi d 0).int (gi d 1).int) 0) then (bif (aq ((iX (gi d 0).int (gi d 1).int)+(gi d 1).int)) then some [.i ((iX (gi d 0).int (gi d 1).int)+(gi d 1).int)] else none) else some [.i (iX (gi d 0).int (gi d 1).int)]) else none))
def DD:aD:=⟨53,[.s (.int .i64),.s (.int .i64)],[],[],[.s (.int .i64)],[],[],[],rB⟩
theorem aaM:aX P t36 ay Tryz.f53 DD:=fun d=>by kernel_rfl
theorem aaN:aU P DD:=aY hm NQ Tryz.func53 (aM _ _ _) aaM
def t37:aj:=t36.bf DD
theorem NR:ak P t37:=NQ.aP aaN

def nK(d:List G):Option (List G) :=
 (bif (aq ((gi d 1).int+1)) then (bif ((((gi d 0).rows.length:Nat):Int)==0) then (bif (aq (((gi d 1).int+1)*7919)) then (aw (rB [.i (((gi d 1).int+1)*7919),.i (gi d 2).int]) fun g1=>some [.l (gi d 0).rows,.i ((gi d 1).int+1),.i (gi g1 0).int]) else none) else (bif (aq (((gi d 1).int+1)-1)) then (bif (!((((gi d 0).rows.length:Nat):Int)==0)) then (bif (aq (((gi d 1).int+1)-1)) then (bif ((!((((gi d 0).rows.length:Nat):Int)==0))&&(aq (mI (((gi d 1).int+1)-1) (((gi d 0).rows.length:Nat):Int)))) then (bif ((az (iX (((gi d 1).int+1)-1) (((gi d 0).rows.length:Nat):Int)))&&(al (iX (((gi d 1).int+1)-1) (((gi d 0).rows.length:Nat):Int)) (((gi d 0).rows.length:Nat):Int))) then (aw (rB [.i (gi ((gi d 0).rows.getD ((iX (((gi d 1).int+1)-1) (((gi d 0).rows.length:Nat):Int)).toNat) []) 0).int,.i 1073741824]) fun g2=>(bif (aq (7919+(iX (((gi d 1).int+1)-1) (((gi d 0).rows.length:Nat):Int)))) then (bif (aq ((mI (((gi d 1).int+1)-1) (((gi d 0).rows.length:Nat):Int))*(7919+(iX (((gi d 1).int+1)-1) (((gi d 0).rows.length:Nat):Int))))) then (bif (aq ((gi g2 0).int+((mI (((gi d 1).int+1)-1) (((gi d 0).rows.length:Nat):Int))*(7919+(iX (((gi d 1).int+1)-1) (((gi d 0).rows.length:Nat):Int)))))) then (aw (rB [.i ((gi g2 0).int+((mI (((gi d 1).int+1)-1) (((gi d 0).rows.length:Nat):Int))*(7919+(iX (((gi d 1).int+1)-1) (((gi d 0).rows.length:Nat):Int))))),.i (gi d 2).int]) fun g3=>some [.l (gi d 0).rows,.i ((gi d 1).int+1),.i (gi g3 0).int]) else none) else none) else none)) else none) else none) else none) else none) else none)) else none)
def DE:aD:=⟨29,[.s (.ptr 0 0),.s (.int .i64)],[.box [.list [.int .i64],.int .i64]],[.slot 0],[.s (.int .i64)],[.box [.list [.int .i64],.int .i64]],[.fix 0],[],nK⟩
theorem aaO:aX P t37 ay Tryz.f29 DE:=fun d=>by kernel_rfl
theorem aaP:aU P DE:=aY hm NR Tryz.func29 (aM _ _ _) aaO
def t38:aj:=t37.c8 DE
theorem NS:ak P t38:=NR.aW aaP

def po(d:List G):Option (List G) :=
 (bif (al (gi d 3).int (gi d 2).int) then some [.l (gi d 0).rows,.i (gi d 1).int,.i (gi d 2).int] else (bif (aq ((gi d 3).int-(gi d 2).int)) then (bif (aq (((gi d 3).int-(gi d 2).int)+1)) then (aw (nK [.l (gi d 0).rows,.i (gi d 1).int,.i (((gi d 3).int-(gi d 2).int)+1)]) fun g1=>(bif (aq ((gi d 2).int+(gi g1 2).int)) then some [.l (gi g1 0).rows,.i (gi g1 1).int,.i ((gi d 2).int+(gi g1 2).int)] else none)) else none) else none))
def DF:aD:=⟨7,[.s (.ptr 0 0),.s (.int .i64),.s (.int .i64)],[.box [.list [.int .i64],.int .i64]],[.slot 0],[.s (.int .i64)],[.box [.list [.int .i64],.int .i64]],[.fix 0],[],po⟩
theorem aaQ:aX P t38 ay Tryz.f7 DF:=fun d=>by kernel_rfl
theorem aaR:aU P DF:=aY hm NS Tryz.func7 (aM _ _ _) aaQ
def t39:aj:=t38.c8 DF
theorem NT:ak P t39:=NS.aW aaR

def pq(d:List G):Option (List G) :=
 (aw (nK [.l (gi d 0).rows,.i (gi d 1).int,.i (((gi d 2).rows.length:Nat):Int)]) fun g1=>(bif ((az (gi g1 2).int)&&(al (gi g1 2).int (((gi d 2).rows.length:Nat):Int))) then some [.l (gi g1 0).rows,.i (gi g1 1).int,.i (gi ((gi d 2).rows.getD (((gi g1 2).int).toNat) []) 0).int] else none))
def DG:aD:=⟨27,[.s (.ptr 0 0),.s (.list [.int .i64])],[.box [.list [.int .i64],.int .i64]],[.slot 0],[.s (.int .i64)],[.box [.list [.int .i64],.int .i64]],[.fix 0],[],pq⟩
theorem aaS:aX P t39 ay Tryz.f27 DG:=fun d=>by kernel_rfl
theorem aaT:aU P DG:=aY hm NT Tryz.func27 (aM _ _ _) aaS
def t40:aj:=t39.c8 DG
theorem NU:ak P t40:=NT.aW aaT

def ll(d:List G):Option (List G) :=
 (aw (nK [.l (gi d 0).rows,.i (gi d 1).int,.i (((gi d 2).rows.length:Nat):Int)]) fun g1=>(bif ((az (gi g1 2).int)&&(al (gi g1 2).int (((gi d 2).rows.length:Nat):Int))) then some [.l (gi g1 0).rows,.i (gi g1 1).int,.s (gi ((gi d 2).rows.getD (((gi g1 2).int).toNat) []) 0).str] else none))
def DH:aD:=⟨28,[.s (.ptr 0 0),.s (.list [.str])],[.box [.list [.int .i64],.int .i64]],[.slot 0],[.s (.str)],[.box [.list [.int .i64],.int .i64]],[.fix 0],[],ll⟩
theorem aaU:aX P t40 ay Tryz.f28 DH:=fun d=>by kernel_rfl
theorem aaV:aU P DH:=aY hm NU Tryz.func28 (aM _ _ _) aaU
def t41:aj:=t40.c8 DH
theorem NV:ak P t41:=NU.aW aaV

def yN(d:List G):Option (List G) :=
 (aw (nK [.l (gi d 0).rows,.i (gi d 1).int,.i (gi d 2).int]) fun g1=>some [.l (gi g1 0).rows,.i (gi g1 1).int,.t ((gi g1 2).int==0)])
def DI:aD:=⟨30,[.s (.ptr 0 0),.s (.int .i64)],[.box [.list [.int .i64],.int .i64]],[.slot 0],[.s (.bool)],[.box [.list [.int .i64],.int .i64]],[.fix 0],[],yN⟩
theorem aaW:aX P t41 ay Tryz.f30 DI:=fun d=>by kernel_rfl
theorem aaX:aU P DI:=aY hm NV Tryz.func30 (aM _ _ _) aaW
def t42:aj:=t41.c8 DI
theorem NW:ak P t42:=NV.aW aaX

def uO(d:List G):Option (List G) :=
 (bif (al (gi d 0).int 0) then some [.i (-1)] else (bif (al 0 (gi d 0).int) then some [.i 1] else some [.i 0]))
def DJ:aD:=⟨55,[.s (.int .i64)],[],[],[.s (.int .i64)],[],[],[],uO⟩
theorem aaY:aX P t42 ay Tryz.f55 DJ:=fun d=>by kernel_rfl
theorem aaZ:aU P DJ:=aY hm NW Tryz.func55 (aM _ _ _) aaY
def t43:aj:=t42.bf DJ
theorem NX:ak P t43:=NW.aP aaZ

def pr(d:List G):Option (List G) :=
 (bif ((gi (gi d 0).row 0).int != (gi (gi d 1).row 0).int) then (bif (aq ((gi (gi d 0).row 0).int-(gi (gi d 1).row 0).int)) then (aw (uO [.i ((gi (gi d 0).row 0).int-(gi (gi d 1).row 0).int)]) fun g1=>some [.i (gi g1 0).int]) else none) else (bif (!((gi (gi d 0).row 3).str.toList==(gi (gi d 1).row 3).str.toList)) then (aw (hG [.s (gi (gi d 0).row 3).str,.s (gi (gi d 1).row 3).str]) fun g2=>some [.i (gi g2 0).int]) else (bif (!((gi (gi d 0).row 2).str.toList==(gi (gi d 1).row 2).str.toList)) then (aw (hG [.s (gi (gi d 0).row 2).str,.s (gi (gi d 1).row 2).str]) fun g3=>some [.i (gi g3 0).int]) else (bif (aq ((gi (gi d 0).row 1).int-(gi (gi d 1).row 1).int)) then (aw (uO [.i ((gi (gi d 0).row 1).int-(gi (gi d 1).row 1).int)]) fun g4=>some [.i (gi g4 0).int]) else none))))
def DK:aD:=⟨32,[.s (.row ah),.s (.row ah)],[],[],[.s (.int .i64)],[],[],[],pr⟩
theorem aa0:aX P t43 ay Tryz.f32 DK:=fun d=>by kernel_rfl
theorem aa1:aU P DK:=aY hm NX Tryz.func32 (aM _ _ _) aa0
def t44:aj:=t43.bf DK
theorem yO:ak P t44:=NX.aP aa1

def NY(d:List G):Option (Option Nat × List G) :=
 (bif (al (gi d 1).int (gi d 4).int) then (bif ((az (gi d 4).int)&&(al (gi d 4).int (((gi d 0).rows.length:Nat):Int))) then (bif (decide ((0+((gi d 4).int).toNat)<(gi d 0).rows.length)) then (bif (aq ((gi d 4).int-1)) then (bif ((az ((gi d 4).int-1))&&(al ((gi d 4).int-1) (((gi d 0).rows.length:Nat):Int))) then (bif (decide ((0+((gi d 4).int-1).toNat)<(gi d 0).rows.length)) then (aw (pr [.l [(aI ah ((gi d 0).rows.getD (0+((gi d 4).int).toNat) []))],.l [(aI ah ((gi d 0).rows.getD (0+((gi d 4).int-1).toNat) []))]]) fun g1=>(bif (al (gi g1 0).int 0) then (bif (aq ((gi d 4).int-1)) then (bif (aq ((gi d 4).int-1)) then (bif ((az ((gi d 4).int-1))&&(al ((gi d 4).int-1) (((gi d 0).rows.length:Nat):Int))) then (bif (decide ((0+((gi d 4).int-1).toNat)<(gi d 0).rows.length)) then (bif ((az (gi d 4).int)&&(al (gi d 4).int (((gi d 0).rows.length:Nat):Int))) then (bif (decide ((0+((gi d 4).int).toNat)<(gi d 0).rows.length)) then (bif ((az (gi d 4).int)&&(al (gi d 4).int (((gi d 0).rows.length:Nat):Int))) then (bif (decide ((0+((gi d 4).int).toNat)<(gi d 0).rows.length)) then (bif ((az ((gi d 4).int-1))&&(al ((gi d 4).int-1) (((gi d 0).rows.length:Nat):Int))) then (bif (decide ((0+((gi d 4).int-1).toNat)<((gi d 0).rows.set (0+((gi d 4).int).toNat) (bg ah ((gi d 0).rows.getD (0+((gi d 4).int).toNat) []) 0 (aI ah ((gi d 0).rows.getD (0+((gi d 4).int-1).toNat) [])))).length)) then (bif (aq ((gi d 4).int-1)) then (bif ((ad (gi d 0).rows.length (((gi d 0).rows.set (0+((gi d 4).int).toNat) (bg ah ((gi d 0).rows.getD (0+((gi d 4).int).toNat) []) 0 (aI ah ((gi d 0).rows.getD (0+((gi d 4).int-1).toNat) [])))).set (0+((gi d 4).int-1).toNat) (bg ah (((gi d 0).rows.set (0+((gi d 4).int).toNat) (bg ah ((gi d 0).rows.getD (0+((gi d 4).int).toNat) []) 0 (aI ah ((gi d 0).rows.getD (0+((gi d 4).int-1).toNat) [])))).getD (0+((gi d 4).int-1).toNat) []) 0 (aI ah ((gi d 0).rows.getD (0+((gi d 4).int).toNat) [])))).length)&&true) then some (none,[.l (((gi d 0).rows.set (0+((gi d 4).int).toNat) (bg ah ((gi d 0).rows.getD (0+((gi d 4).int).toNat) []) 0 (aI ah ((gi d 0).rows.getD (0+((gi d 4).int-1).toNat) [])))).set (0+((gi d 4).int-1).toNat) (bg ah (((gi d 0).rows.set (0+((gi d 4).int).toNat) (bg ah ((gi d 0).rows.getD (0+((gi d 4).int).toNat) []) 0 (aI ah ((gi d 0).rows.getD (0+((gi d 4).int-1).toNat) [])))).getD (0+((gi d 4).int-1).toNat) []) 0 (aI ah ((gi d 0).rows.getD (0+((gi d 4).int).toNat) [])))),.i (gi d 1).int,.i (gi d 2).int,.i (gi d 3).int,.i ((gi d 4).int-1)]) else none) else none) else none) else none) else none) else none) else none) else none) else none) else none) else none) else none) else (bif ((ad (gi d 0).rows.length (gi d 0).rows.length)&&true) then some (some 0,[.l (gi d 0).rows,.i (gi d 1).int,.i (gi d 2).int,.i (gi d 3).int]) else none))) else none) else none) else none) else none) else none) else (bif ((ad (gi d 0).rows.length (gi d 0).rows.length)&&true) then some (some 0,[.l (gi d 0).rows,.i (gi d 1).int,.i (gi d 2).int,.i (gi d 3).int]) else none))
def NZ:bp:=⟨4,[],⟨53,[(0,.s (.vec 0 8)),(1,.s (.int .i64)),(2,.s (.int .i64)),(3,.s (.fn 32)),(8,.s (.int .i64)),(9,.s (.int .i64))],[.vec ah 0]⟩,[.fix 0],[⟨.exit 2,⟨53,[(0,.s (.vec 0 8)),(1,.s (.int .i64)),(2,.s (.int .i64)),(3,.s (.fn 32)),(8,.s (.int .i64))],[.vec ah 0]⟩,[.fix 0]⟩],NY⟩
theorem aa2:cr P t44 ay 1 (cw Tryz.f95 4) NZ:=fun d=>by kernel_rfl
def DL:LT:=ay.add 1 NZ
theorem aa3:ax P 1 DL (aR Tryz.f95):=ax.a hm yO (aM _ _ _) aa2
def N0(d:List G):Option (Option Nat × List G) :=
 (bif (al (gi d 3).int (gi d 2).int) then (aO ((ad (gi d 0).rows.length (gi d 0).rows.length)&&true) (bQ NY [.l (gi d 0).rows,.i (gi d 1).int,.i (gi d 2).int,.i (gi d 3).int,.i (gi d 3).int]) fun g g2=>(bif (aq ((gi g2 3).int+1)) then (bif ((ad (gi g2 0).rows.length (gi g2 0).rows.length)&&true) then some (none,[.l (gi g2 0).rows,.i (gi g2 1).int,.i (gi g2 2).int,.i ((gi g2 3).int+1)]) else none) else none)) else some (some 0,[.l (gi d 0).rows]))
def N1:bp:=⟨1,[],⟨53,[(0,.s (.vec 0 8)),(1,.s (.int .i64)),(2,.s (.int .i64)),(3,.s (.fn 32)),(8,.s (.int .i64))],[.vec ah 0]⟩,[.fix 0],[⟨.exit 0,⟨53,[],[.vec ah 0]⟩,[.fix 0]⟩],N0⟩
theorem aa4:cr P t44 DL 1 (cw Tryz.f95 1) N1:=fun d=>by kernel_rfl
def N2:LT:=DL.add 1 N1
theorem aa5:ax P 1 N2 (aR Tryz.f95):=ax.a hm yO aa3 aa4
def uP(d:List G):Option (List G) :=
 (bif (aq ((gi d 1).int+1)) then (aO ((ad (gi d 0).rows.length (gi d 0).rows.length)&&true) (bQ N0 [.l (gi d 0).rows,.i (gi d 1).int,.i (gi d 2).int,.i ((gi d 1).int+1)]) fun g g3=>some [.l (gi g3 0).rows]) else none)
def DM:aD:=⟨95,[.s (.vec 0 8),.s (.int .i64),.s (.int .i64),.s (.fn 32)],[.vec ah 0],[.slot 0],[],[.vec ah 0],[.fix 0],[],uP⟩
theorem aa6:aX P t44 N2 Tryz.f95 DM:=fun d=>by kernel_rfl
theorem aa7:aU P DM:=aY hm yO Tryz.func95 aa5 aa6
def t45:aj:=t44.c8 DM
theorem uQ:ak P t45:=yO.aW aa7

def N3(d:List G):Option (Option Nat × List G) :=
 (bif (a8 (gi d 4).int (gi d 1).int) then (ix (((ad (gi d 0).rows.length (gi d 0).rows.length)&&true)&&(uP [.l (gi d 0).rows,.i (gi d 3).int,.i (gi d 4).int]).isSome) (uP [.l (gi d 0).rows,.i (gi d 3).int,.i (gi d 4).int]) fun g1=>(bif (aq ((gi d 4).int+(gi d 2).int)) then (bif ((ad (gi d 0).rows.length (gi g1 0).rows.length)&&true) then some (none,[.l (gi g1 0).rows,.i (gi d 1).int,.i (gi d 2).int,.i (gi d 4).int,.i ((gi d 4).int+(gi d 2).int)]) else none) else none)) else (bif ((ad (gi d 0).rows.length (gi d 0).rows.length)&&true) then some (some 0,[.l (gi d 0).rows,.i (gi d 1).int,.i (gi d 2).int,.i (gi d 3).int]) else none))
def N4:bp:=⟨2,[],⟨63,[(0,.s (.vec 0 8)),(1,.s (.int .i64)),(2,.s (.fn 32)),(6,.s (.int .i64)),(7,.s (.int .i64)),(8,.s (.int .i64))],[.vec ah 0]⟩,[.fix 0],[⟨.exit 0,⟨63,[(0,.s (.vec 0 8)),(1,.s (.int .i64)),(2,.s (.fn 32)),(6,.s (.int .i64)),(7,.s (.int .i64))],[.vec ah 0]⟩,[.fix 0]⟩],N3⟩
theorem aa8:cr P t45 ay 1 (cw Tryz.f54 2) N4:=fun d=>by kernel_rfl
def DN:LT:=ay.add 1 N4
theorem aa9:ax P 1 DN (aR Tryz.f54):=ax.a hm uQ (aM _ _ _) aa8
def N5(d:List G):Option (Option Nat × List G) :=
 (bif (a8 (gi d 4).int (gi d 1).int) then (bif (aq ((gi d 3).int+(gi d 2).int)) then none else none) else (bif ((ad (gi d 0).rows.length (gi d 0).rows.length)&&true) then some (some 0,[.l (gi d 0).rows,.i (gi d 1).int,.i (gi d 2).int,.i (gi d 3).int]) else none))
def N6:bp:=⟨9,[],⟨63,[(0,.s (.vec 0 8)),(1,.s (.int .i64)),(2,.s (.fn 32)),(6,.s (.int .i64)),(7,.s (.int .i64)),(8,.s (.int .i64))],[.vec ah 0]⟩,[.fix 0],[⟨.exit 4,⟨63,[(0,.s (.vec 0 8)),(1,.s (.int .i64)),(2,.s (.fn 32)),(6,.s (.int .i64)),(7,.s (.int .i64))],[.vec ah 0]⟩,[.fix 0]⟩],N5⟩
theorem aa_:cr P t45 DN 1 (cw Tryz.f54 9) N6:=fun d=>by kernel_rfl
def DO:LT:=DN.add 1 N6
theorem aa':ax P 1 DO (aR Tryz.f54):=ax.a hm uQ aa9 aa_
def N7(d:List G):Option (Option Nat × List G) :=
 (bif (al (gi d 2).int (gi d 1).int) then (bif (aq (2*(gi d 2).int)) then (aO ((ad (gi d 0).rows.length (gi d 0).rows.length)&&true) (bQ N5 [.l (gi d 0).rows,.i (gi d 1).int,.i (gi d 2).int,.i 0,.i (2*(gi d 2).int)]) fun g g4=>(bif (aq ((gi g4 3).int+(gi g4 2).int)) then (bif (al ((gi g4 3).int+(gi g4 2).int) (gi g4 1).int) then none else (bif (aq ((gi g4 2).int*2)) then (bif ((ad (gi g4 0).rows.length (gi g4 0).rows.length)&&true) then some (none,[.l (gi g4 0).rows,.i (gi g4 1).int,.i ((gi g4 2).int*2)]) else none) else none)) else none)) else none) else some (some 0,[.l (gi d 0).rows]))
def N8:bp:=⟨7,[],⟨63,[(0,.s (.vec 0 8)),(1,.s (.int .i64)),(2,.s (.fn 32)),(6,.s (.int .i64))],[.vec ah 0]⟩,[.fix 0],[⟨.exit 2,⟨63,[],[.vec ah 0]⟩,[.fix 0]⟩],N7⟩
theorem aba:cr P t45 DO 1 (cw Tryz.f54 7) N8:=fun d=>by kernel_rfl
def N9:LT:=DO.add 1 N8
theorem abb:ax P 1 N9 (aR Tryz.f54):=ax.a hm uQ aa' aba
def DP(d:List G):Option (List G) :=
 (aO ((ad (gi d 0).rows.length (gi d 0).rows.length)&&true) (bQ N3 [.l (gi d 0).rows,.i (gi d 1).int,.i 20,.i 0,.i 20]) fun g g2=>(ix (((ad (gi g2 0).rows.length (gi g2 0).rows.length)&&true)&&(uP [.l (gi g2 0).rows,.i (gi g2 3).int,.i (gi g2 1).int]).isSome) (uP [.l (gi g2 0).rows,.i (gi g2 3).int,.i (gi g2 1).int]) fun g3=>(aO ((ad (gi g2 0).rows.length (gi g3 0).rows.length)&&true) (bQ N7 [.l (gi g3 0).rows,.i (gi g2 1).int,.i (gi g2 2).int]) fun h g5=>some [.l (gi g5 0).rows])))
def DQ:aD:=⟨54,[.s (.vec 0 8),.s (.int .i64),.s (.fn 32)],[.vec ah 0],[.slot 0],[],[.vec ah 0],[.fix 0],[],DP⟩
theorem abc:aX P t45 N9 Tryz.f54 DQ:=fun d=>by kernel_rfl
theorem abd:aU P DQ:=aY hm uQ Tryz.func54 abb abc
def t46:aj:=t45.c8 DQ
theorem N_:ak P t46:=uQ.aW abd

def DR(d:List G):Option (List G) :=
 (ix (((ad (gi d 0).rows.length (gi d 0).rows.length)&&true)&&(DP [.l (gi d 0).rows,.i (((gi d 0).rows.length:Nat):Int)]).isSome) (DP [.l (gi d 0).rows,.i (((gi d 0).rows.length:Nat):Int)]) fun g1=>some [.l (gi g1 0).rows])
def DS:aD:=⟨31,[.s (.vec 0 8),.s (.fn 32)],[.vec ah 0],[.slot 0],[],[.vec ah 0],[.fix 0],[],DR⟩
theorem abe:aX P t46 ay Tryz.f31 DS:=fun d=>by kernel_rfl
theorem abf:aU P DS:=aY hm N_ Tryz.func31 (aM _ _ _) abe
def t47:aj:=t46.c8 DS
theorem N':ak P t47:=N_.aW abf

def uR(d:List G):Option (List G) :=
 (aw (pr [.l [(aI ah (gi d 0).row)],.l [(aI ah (gi d 1).row)]]) fun g1=>some [.t ((gi g1 0).int==0)])
def DT:aD:=⟨34,[.s (.row ah),.s (.row ah)],[],[],[.s (.bool)],[],[],[],uR⟩
theorem abg:aX P t47 ay Tryz.f34 DT:=fun d=>by kernel_rfl
theorem abh:aU P DT:=aY hm N' Tryz.func34 (aM _ _ _) abg
def t48:aj:=t47.bf DT
theorem yP:ak P t48:=N'.aP abh

def Oa(d:List G):Option (Option Nat × List G) :=
 (bif (al (gi d 4).int (((gi d 3).int.toNat:Nat):Int)) then (bif ((az (gi d 4).int)&&(al (gi d 4).int (((gi d 3).int.toNat:Nat):Int))) then (bif (decide (((gi d 2).int.toNat+((gi d 4).int).toNat)<(gi d 0).rows.length)) then (bif (aq ((gi d 4).int-1)) then (bif ((az ((gi d 4).int-1))&&(al ((gi d 4).int-1) (((gi d 3).int.toNat:Nat):Int))) then (bif (decide (((gi d 2).int.toNat+((gi d 4).int-1).toNat)<(gi d 0).rows.length)) then (aw (uR [.l [(aI ah ((gi d 0).rows.getD ((gi d 2).int.toNat+((gi d 4).int).toNat) []))],.l [(aI ah ((gi d 0).rows.getD ((gi d 2).int.toNat+((gi d 4).int-1).toNat) []))]]) fun g2=>(bif (!(gi g2 0).bool) then (bif ((az (gi d 4).int)&&(al (gi d 4).int (((gi d 3).int.toNat:Nat):Int))) then (bif (decide (((gi d 2).int.toNat+((gi d 4).int).toNat)<(gi d 0).rows.length)) then (bif ((az (gi d 1).int)&&(al (gi d 1).int (((gi d 0).rows.length:Nat):Int))) then (bif (decide ((0+((gi d 1).int).toNat)<(gi d 0).rows.length)) then (bif (aq ((gi d 1).int+1)) then (bif (aq ((gi d 4).int+1)) then (bif ((ad (gi d 0).rows.length ((gi d 0).rows.set (0+((gi d 1).int).toNat) (bg ah ((gi d 0).rows.getD (0+((gi d 1).int).toNat) []) 0 (aI ah ((gi d 0).rows.getD ((gi d 2).int.toNat+((gi d 4).int).toNat) [])))).length)&&true) then some (none,[.l ((gi d 0).rows.set (0+((gi d 1).int).toNat) (bg ah ((gi d 0).rows.getD (0+((gi d 1).int).toNat) []) 0 (aI ah ((gi d 0).rows.getD ((gi d 2).int.toNat+((gi d 4).int).toNat) [])))),.i ((gi d 1).int+1),.i (((gi d 2).int.toNat:Nat):Int),.i (((gi d 3).int.toNat:Nat):Int),.i ((gi d 4).int+1)]) else none) else none) else none) else none) else none) else none) else none) else (bif (aq ((gi d 4).int+1)) then (bif ((ad (gi d 0).rows.length (gi d 0).rows.length)&&true) then some (none,[.l (gi d 0).rows,.i (gi d 1).int,.i (((gi d 2).int.toNat:Nat):Int),.i (((gi d 3).int.toNat:Nat):Int),.i ((gi d 4).int+1)]) else none) else none))) else none) else none) else none) else none) else none) else (bif ((ad (gi d 0).rows.length (gi d 0).rows.length)&&true) then some (some 0,[.l (gi d 0).rows,.i (gi d 1).int]) else none))
def Ob:bp:=⟨9,[],⟨66,[(0,.s (.vec 0 8)),(1,.s (.fn 34)),(5,.s (.int .i64)),(6,.s (.sub 0 8)),(7,.s (.int .i64))],[.vec ah 0]⟩,[.fix 0],[⟨.exit 2,⟨66,[(0,.s (.vec 0 8)),(5,.s (.int .i64))],[.vec ah 0]⟩,[.fix 0]⟩],Oa⟩
theorem abi:cr P t48 ay 1 (cw Tryz.f33 9) Ob:=fun d=>by kernel_rfl
def DU:LT:=ay.add 1 Ob
theorem abj:ax P 1 DU (aR Tryz.f33):=ax.a hm yP (aM _ _ _) abi
def Oc(d:List G):Option (Option Nat × List G) :=
 (bif (al (gi d 1).int (((gi d 0).rows.length:Nat):Int)) then (bif ((az (gi d 1).int)&&(al (gi d 1).int (((gi d 0).rows.length:Nat):Int))) then (bif (decide ((0+((gi d 1).int).toNat)<(gi d 0).rows.length)) then (bif (aq ((gi d 1).int-1)) then (bif ((az ((gi d 1).int-1))&&(al ((gi d 1).int-1) (((gi d 0).rows.length:Nat):Int))) then (bif (decide ((0+((gi d 1).int-1).toNat)<(gi d 0).rows.length)) then (aw (uR [.l [(aI ah ((gi d 0).rows.getD (0+((gi d 1).int).toNat) []))],.l [(aI ah ((gi d 0).rows.getD (0+((gi d 1).int-1).toNat) []))]]) fun g1=>(bif (gi g1 0).bool then (bif ((az (gi d 1).int)&&(a8 (gi d 1).int (((gi d 0).rows.length:Nat):Int))) then (aO ((ad (gi d 0).rows.length (gi d 0).rows.length)&&true) (bQ Oa [.l (gi d 0).rows,.i (gi d 1).int,.i (((0+((gi d 1).int).toNat):Nat):Int),.i ((((gi d 0).rows.length-((gi d 1).int).toNat):Nat):Int),.i 1]) fun g g3=>(bif ((az (gi g3 1).int)&&(a8 (gi g3 1).int (((gi g3 0).rows.length:Nat):Int))) then (bif (Nat.ble ((0+((gi g3 1).int).toNat)+((gi g3 0).rows.length-((gi g3 1).int).toNat)) (gi g3 0).rows.length) then (bif ((az (gi g3 1).int)&&(a8 (gi g3 1).int (((gi g3 0).rows.length:Nat):Int))) then some (some 0,[.l ((gi g3 0).rows.take (0+((gi g3 1).int).toNat)++List.replicate ((gi g3 0).rows.length-((gi g3 1).int).toNat) [.i 0,.i 0,.s (⟨#[]⟩:ByteArray),.s (⟨#[]⟩:ByteArray),.i 0,.i 0,.s (⟨#[]⟩:ByteArray),.s (⟨#[]⟩:ByteArray)]++(gi g3 0).rows.drop ((0+((gi g3 1).int).toNat)+((gi g3 0).rows.length-((gi g3 1).int).toNat))),.i (((((gi g3 1).int).toNat-0):Nat):Int)]) else none) else none) else none)) else none) else (bif (aq ((gi d 1).int+1)) then (bif ((ad (gi d 0).rows.length (gi d 0).rows.length)&&true) then some (none,[.l (gi d 0).rows,.i ((gi d 1).int+1)]) else none) else none))) else none) else none) else none) else none) else none) else (bif ((ad (gi d 0).rows.length (gi d 0).rows.length)&&true) then some (some 1,[.l (gi d 0).rows]) else none))
def Od:bp:=⟨4,[],⟨66,[(0,.s (.vec 0 8)),(1,.s (.fn 34)),(5,.s (.int .i64))],[.vec ah 0]⟩,[.fix 0],[⟨.ret,⟨66,[(4,.s (.pre 0 8))],[.vec ah 0]⟩,[.fix 0]⟩,⟨.exit 0,⟨66,[(0,.s (.vec 0 8))],[.vec ah 0]⟩,[.fix 0]⟩],Oc⟩
theorem abk:cr P t48 DU 1 (cw Tryz.f33 4) Od:=fun d=>by kernel_rfl
def Oe:LT:=DU.add 1 Od
theorem abl:ax P 1 Oe (aR Tryz.f33):=ax.a hm yP abj abk
def DV(d:List G):Option (List G) :=
 (bif (al (((gi d 0).rows.length:Nat):Int) 2) then some [.l (gi d 0).rows,.i (((gi d 0).rows.length:Nat):Int)] else (aO ((ad (gi d 0).rows.length (gi d 0).rows.length)&&true) (bQ Oc [.l (gi d 0).rows,.i 1]) fun g g4=>(bif ad g 0 then some [.l (gi g4 0).rows,.i (((gi g4 1).int.toNat:Nat):Int)] else some [.l (gi g4 0).rows,.i (((gi g4 0).rows.length:Nat):Int)])))
def DW:aD:=⟨33,[.s (.vec 0 8),.s (.fn 34)],[.vec ah 0],[.slot 0],[.s (.pre 0 8)],[.vec ah 0],[.fix 0],[],DV⟩
theorem abm:aX P t48 Oe Tryz.f33 DW:=fun d=>by kernel_rfl
theorem abn:aU P DW:=aY hm yP Tryz.func33 abl abm
def t49:aj:=t48.c8 DW
theorem nL:ak P t49:=yP.aW abn

end
end Go.Proofs.iz
