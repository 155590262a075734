/-
 What is proved here: functions of the program as functions on data. No condition.
-/
import Derived.Test.YtiljbnkkhbennaaGreatDoorML1
set_option linter.all false
open Int renaming tdiv→za,tmod→zb
open Nat renaming beq→ab
namespace Go.Proofs.gl
open Go Go.AL Go.Proofs Tryz
noncomputable section
def kI(d:List G):Option (List G) :=
 (bif (ao (gi d 0).int (gi d 1).int) then some [.t true] else some [.t (ao (gi d 2).int (gi d 0).int)])
def Gf:aB:=⟨47,[.s (.int .i64),.s (.int .i64),.s (.int .i64)],[],[],[.s (.bool)],[],[],[],kI⟩
theorem acI:aV P t7 ay f47 Gf:=fun d=>by kernel_rfl
theorem acJ:aT P Gf:=aR hm PK func47 (aL _ _ _) acI
def t8:ai:=t7.bh Gf
theorem PL:ak P t8:=PK.aP acJ

def rZ(d:List G):Option (List G) :=
 (ar (kI [.i (gi d 0).int,.i 0,.i 345686399999]) fun g1=>some [.t (!(gi g1 0).bool)])
def Gg:aB:=⟨43,[.s (.int .i64)],[],[],[.s (.bool)],[],[],[],rZ⟩
theorem acK:aV P t8 ay f43 Gg:=fun d=>by kernel_rfl
theorem acL:aT P Gg:=aR hm PL func43 (aL _ _ _) acK
def t9:ai:=t8.bh Gg
theorem PM:ak P t9:=PL.aP acL

def Gh(d:List G):Option (List G) :=
 (ar (kI [.i (gi d 0).int,.i 1,.i 3]) fun g1=>some [.t (!(gi g1 0).bool)])
def Gi:aB:=⟨44,[.s (.int .i64)],[],[],[.s (.bool)],[],[],[],Gh⟩
theorem acM:aV P t9 ay f44 Gi:=fun d=>by kernel_rfl
theorem acN:aT P Gi:=aR hm PM func44 (aL _ _ _) acM
def t10:ai:=t9.bh Gi
theorem PN:ak P t10:=PM.aP acN

def nA(d:List G):Option (List G) :=
 let k:=(((gi d 0).str.size:Nat):Int); (bif (!((gi d 0).str.toList==(⟨#[]⟩:ByteArray).toList)) then (bif (bx k 40) then (bif (ao 0 k) then (ar (BD [.s (⟨#[97,98,99,100,101,102,103,104,105,106,107,108,109,110,111,112,113,114,115,116,117,118,119,120,121,122]⟩:ByteArray),.i (((gi d 0).str.data.toList.getD 0 0).toNat:Int)]) fun g1=>(bif (bx 0 (gi g1 0).int) then (ar (BE [.s (gi d 0).str,.s (⟨#[97,98,99,100,101,102,103,104,105,106,107,108,109,110,111,112,113,114,115,116,117,118,119,120,121,122,48,49,50,51,52,53,54,55,56,57,45,95]⟩:ByteArray)]) fun g2=>some [.t ((gi g2 0).str.toList==(⟨#[]⟩:ByteArray).toList)]) else some [.t false])) else none) else some [.t false]) else some [.t false])
def Gj:aB:=⟨45,[.s (.str)],[],[],[.s (.bool)],[],[],[],nA⟩
theorem acO:aV P t10 ay f45 Gj:=fun d=>by kernel_rfl
theorem acP:aT P Gj:=aR hm PN func45 (aL _ _ _) acO
def t11:ai:=t10.bh Gj
theorem PO:ak P t11:=PN.aP acP

def uo(d:List G):Option (List G) :=
 (ar (BF [.s (gi d 0).str]) fun g1=>some [.t (gi g1 1).bool])
def Gk:aB:=⟨46,[.s (.str)],[],[],[.s (.bool)],[],[],[],uo⟩
theorem acQ:aV P t11 ay f46 Gk:=fun d=>by kernel_rfl
theorem acR:aT P Gk:=aR hm PO func46 (aL _ _ _) acQ
def t12:ai:=t11.bh Gk
theorem PQ:ak P t12:=PO.aP acR

def BG(d:List G):Option (List G) :=
 (bif ((gi d 0).str.toList==(⟨#[]⟩:ByteArray).toList) then some [.t true] else (ar (nA [.s (gi d 0).str]) fun g1=>some [.t (gi g1 0).bool]))
def Gl:aB:=⟨48,[.s (.str)],[],[],[.s (.bool)],[],[],[],BG⟩
theorem acS:aV P t12 ay f48 Gl:=fun d=>by kernel_rfl
theorem acT:aT P Gl:=aR hm PQ func48 (aL _ _ _) acS
def t13:ai:=t12.bh Gl
theorem PR:ak P t13:=PQ.aP acT

def r7(d:List G):Option (List G) :=
 (ar (rZ [.i (gi (gi d 0).row 0).int]) fun g1=>(bif (!(gi g1 0).bool) then some [.i 1] else (ar (Gh [.i (gi (gi d 0).row 1).int]) fun g2=>(bif (!(gi g2 0).bool) then some [.i 4] else (ar (nA [.s (gi (gi d 0).row 2).str]) fun g3=>(bif (!(gi g3 0).bool) then some [.i 5] else (ar (uo [.s (gi (gi d 0).row 3).str]) fun g4=>(bif (!(gi g4 0).bool) then some [.i 3] else (ar (kI [.i (gi (gi d 0).row 4).int,.i 0,.i 99999]) fun g5=>(bif (gi g5 0).bool then some [.i 1] else (ar (kI [.i (gi (gi d 0).row 5).int,.i 0,.i 99999]) fun g6=>(bif (gi g6 0).bool then some [.i 1] else (ar (BG [.s (gi (gi d 0).row 6).str]) fun g7=>(bif (!(gi g7 0).bool) then some [.i 5] else (ar (BG [.s (gi (gi d 0).row 7).str]) fun g8=>(bif (!(gi g8 0).bool) then some [.i 5] else some [.i 0]))))))))))))))))
def Gm:aB:=⟨17,[.s (.row au)],[],[],[.s (.int .i64)],[],[],[],r7⟩
theorem acU:aV P t13 ay f17 Gm:=fun d=>by kernel_rfl
theorem acV:aT P Gm:=aR hm PR func17 (aL _ _ _) acU
def t14:ai:=t13.bh Gm
theorem PS:ak P t14:=PR.aP acV

def BH(d:List G):Option (List G) :=
 some [.t ((gi d 0).int != (gi d 0).int)]
def Gn:aB:=⟨80,[.s (.int .i64)],[],[],[.s (.bool)],[],[],[],BH⟩
theorem acW:aV P t14 ay f80 Gn:=fun d=>by kernel_rfl
theorem acX:aT P Gn:=aR hm PS func80 (aL _ _ _) acW
def t15:ai:=t14.bh Gn
theorem PT:ak P t15:=PS.aP acX

def qj(d:List G):Option (List G) :=
 (ar (BH [.i (gi d 0).int]) fun g1=>(ar (BH [.i (gi d 1).int]) fun g2=>(bif (gi g1 0).bool then (bif (gi g2 0).bool then some [.i 0] else some [.i (-1)]) else (bif (gi g2 0).bool then some [.i 1] else (bif (ao (gi d 0).int (gi d 1).int) then some [.i (-1)] else (bif (ao (gi d 1).int (gi d 0).int) then some [.i 1] else some [.i 0]))))))
def Gp:aB:=⟨50,[.s (.int .i64),.s (.int .i64)],[],[],[.s (.int .i64)],[],[],[],qj⟩
theorem acY:aV P t15 ay f50 Gp:=fun d=>by kernel_rfl
theorem acZ:aT P Gp:=aR hm PT func50 (aL _ _ _) acY
def t16:ai:=t15.bh Gp
theorem Gq:ak P t16:=PT.aP acZ

def uq(d:List G):Option (Option Nat × List G) :=
 let k:=gi ((gi d 1).rows.getD (((gi d 3).int).toNat) []) 0; (bif (ao (gi d 3).int (gi d 2).int) then (bif ((aJ (gi d 3).int)&&(ao (gi d 3).int (((gi d 1).rows.length:Nat):Int))) then (bif (k.int != (gi d 0).int) then some (some 0,[.i k.int]) else (bif (aw ((gi d 3).int+1)) then some (none,[.i (gi d 0).int,.l (gi d 1).rows,.i (gi d 2).int,.i ((gi d 3).int+1)]) else none)) else none) else some (some 1,[.i (gi d 0).int]))
def PU:be:=⟨3,[],⟨18,[(3,.s (.int .i64)),(6,.s (.list [.int .i64])),(7,.s (.int .i64)),(8,.s (.int .i64))],[]⟩,[],[⟨.ret,⟨18,[(2,.s (.int .i64))],[]⟩,[]⟩,⟨.exit 0,⟨18,[(3,.s (.int .i64))],[]⟩,[]⟩],uq⟩
theorem ac0:cy P t16 ay 0 (cB f49 3) PU:=fun d=>by kernel_rfl
def PV:LT:=ay.add 0 PU
theorem ac1:ax P 0 PV (aQ f49):=ax.a hm Gq (aL _ _ _) ac0
def nB(d:List G):Option (List G) :=
 (aO true (bX uq [.i 0,.l (gi d 0).rows,.i (((gi d 0).rows.length:Nat):Int),.i 0]) fun k g1=>(bif ab k 0 then some [.i (gi g1 0).int] else some [.i (gi g1 0).int]))
def Gr:aB:=⟨49,[.s (.list [.int .i64])],[],[],[.s (.int .i64)],[],[],[],nB⟩
theorem ac2:aV P t16 PV f49 Gr:=fun d=>by kernel_rfl
theorem ac3:aT P Gr:=aR hm Gq func49 ac1 ac2
def t17:ai:=t16.bh Gr
theorem PW:ak P t17:=Gq.aP ac3

def qk(d:List G):Option (List G) :=
 (ar (qj [.i (gi (gi d 0).row 0).int,.i (gi (gi d 1).row 0).int]) fun g1=>(ar (j8 [.s (gi (gi d 0).row 3).str,.s (gi (gi d 1).row 3).str]) fun g2=>(ar (j8 [.s (gi (gi d 0).row 2).str,.s (gi (gi d 1).row 2).str]) fun g3=>(ar (qj [.i (gi (gi d 0).row 1).int,.i (gi (gi d 1).row 1).int]) fun g4=>(ar (nB [.l [[.i (gi g1 0).int],[.i (gi g2 0).int],[.i (gi g3 0).int],[.i (gi g4 0).int]]]) fun g5=>some [.i (gi g5 0).int])))))
def Gs:aB:=⟨18,[.s (.row au),.s (.row au)],[],[],[.s (.int .i64)],[],[],[],qk⟩
theorem ac4:aV P t17 ay f18 Gs:=fun d=>by kernel_rfl
theorem PX:aT P Gs:=aR hm PW func18 (aL _ _ _) ac4
def t18:ai:=t17.bh Gs
theorem Gt:ak P t18:=PW.aP PX

def PY(d:List G):Option (Option Nat × List G) :=
 let k:=aU au ((gi d 1).rows.getD (((gi d 3).int).toNat) []); let z2:=(gi d 3).int-1; let z3:=(gi d 3).int+1; (bif (ao (gi d 3).int (gi d 2).int) then (bif ((aJ (gi d 3).int)&&(ao (gi d 3).int (((gi d 1).rows.length:Nat):Int))) then (ar (r7 [.l [k]]) fun g1=>(bif ((gi g1 0).int != 0) then some (some 0,[.i (gi g1 0).int]) else (bif (ao 0 (gi d 3).int) then (bif (aw z2) then (bif ((aJ z2)&&(ao z2 (((gi d 0).rows.length:Nat):Int))) then (ar (qk [.l [(aU au ((gi d 0).rows.getD (z2.toNat) []))],.l [k]]) fun g2=>(bif (bx 0 (gi g2 0).int) then some (some 0,[.i 7]) else (bif (aw z3) then some (none,[.l (gi d 0).rows,.l (gi d 1).rows,.i (gi d 2).int,.i z3]) else none))) else none) else none) else (bif (aw z3) then some (none,[.l (gi d 0).rows,.l (gi d 1).rows,.i (gi d 2).int,.i z3]) else none)))) else none) else some (some 1,[]))
def PZ:be:=⟨4,[],⟨34,[(0,.s (.list au)),(9,.s (.list au)),(10,.s (.int .i64)),(11,.s (.int .i64))],[]⟩,[],[⟨.ret,⟨34,[(2,.s (.int .i64))],[]⟩,[]⟩,⟨.exit 0,⟨34,[],[]⟩,[]⟩],PY⟩
theorem ac5:cy P t18 ay 0 (cB f7 4) PZ:=fun d=>by kernel_rfl
def P0:LT:=ay.add 0 PZ
theorem ac6:ax P 0 P0 (aQ f7):=ax.a hm Gt (aL _ _ _) ac5
def xA(d:List G):Option (List G) :=
 let k:=(((gi d 0).rows.length:Nat):Int); (bif (ao 2000 k) then some [.i 2] else (aO true (bX PY [.l (gi d 0).rows,.l (gi d 0).rows,.i k,.i 0]) fun q g3=>(bif ab q 0 then some [.i (gi g3 0).int] else some [.i 0])))
def Gu:aB:=⟨7,[.s (.list au)],[],[],[.s (.int .i64)],[],[],[],xA⟩
theorem ac7:aV P t18 P0 f7 Gu:=fun d=>by kernel_rfl
theorem ac8:aT P Gu:=aR hm Gt func7 ac6 ac7
def t19:ai:=t18.bh Gu
theorem P1:ak P t19:=Gt.aP ac8

def P2(d:List G):Option (List G) :=
 (ar (BF [.s (gi d 0).str]) fun g1=>some [.s (gi (gi g1 0).row 0).str])
def Gv:aB:=⟨94,[.s (.str)],[],[],[.s (.str)],[],[],[],P2⟩
theorem ac9:aV P t19 ay f94 Gv:=fun d=>by kernel_rfl
theorem ac_:aT P Gv:=aR hm P1 func94 (aL _ _ _) ac9
def t20:ai:=t19.bh Gv
theorem Gw:ak P t20:=P1.aP ac_

def P3(d:List G):Option (Option Nat × List G) :=
 let k:=(gi d 3).rows.getD (((gi d 5).int).toNat) []; let z2:=((gi d 2).rows++([[.i (gi d 5).int]]:List (List G))); let z3:=ab (gi d 2).rows.length (gi d 2).rows.length; let z4:=(gi d 5).int+1; (bif (ao (gi d 5).int (gi d 4).int) then (bif ((aJ (gi d 5).int)&&(ao (gi d 5).int (((gi d 3).rows.length:Nat):Int))) then (ar (P2 [.s (gi k 3).str]) fun g1=>let z5:=(((dM [.str,.str,.int .i64] (gi d 0).rows [.s (gi g1 0).str,.s (gi k 2).str,.i (gi k 1).int] (gi d 1).int.toNat):Nat):Int); let q:=dv [.str,.str,.int .i64] (gi d 0).rows [.s (gi g1 0).str,.s (gi k 2).str,.i (gi k 1).int] [.t true] (gi d 1).int.toNat; (bif (gi (bZ [.str,.str,.int .i64] (gi d 0).rows [.s (gi g1 0).str,.s (gi k 2).str,.i (gi k 1).int] [.t false]) 0).bool then (bif (z3&&(decide (((gi d 2).rows.length+1)≤1048576))) then (bif (aw z4) then (bif ((ab z2.length z2.length)&&true) then some (none,[.l q,.i z5,.l z2,.l (gi d 3).rows,.i (gi d 4).int,.i z4]) else none) else none) else none) else (bif (aw z4) then (bif (z3&&true) then some (none,[.l q,.i z5,.l (gi d 2).rows,.l (gi d 3).rows,.i (gi d 4).int,.i z4]) else none) else none))) else none) else (bif (z3&&true) then some (some 0,[.l (gi d 2).rows]) else none))
def P4:be:=⟨4,[(4,[.int .i64])],⟨35,[(3,.s (.map 0)),(4,.s (.vec 1 1)),(9,.s (.list au)),(10,.s (.int .i64)),(11,.s (.int .i64))],[.map (.agg [.str,.str,.int .i64]) (.one (.bool)),.vec [.int .i64] 0]⟩,[.slot 3,.slot 4],[⟨.exit 0,⟨35,[(4,.s (.vec 0 1))],[.vec [.int .i64] 0]⟩,[.slot 4]⟩],P3⟩
theorem ac':cy P t20 (ay.gA [(6,[.hole [.str,.str,.int .i64]])]) 0 (cB f56 4) P4:=fun d=>by kernel_rfl
def P5:LT:=(ay.gA [(6,[.hole [.str,.str,.int .i64]])]).add 0 P4
theorem ada:ax P 0 P5 (aQ f56):=ax.a hm Gw (nk _) ac'
def P6(d:List G):Option (List G) :=
 (aO true (bX P3 [.l [],.i 0,.l [],.l (gi d 0).rows,.i (((gi d 0).rows.length:Nat):Int),.i 0]) fun k g2=>(bif ((ab (gi g2 0).rows.length (gi g2 0).rows.length)&&true) then some [.l (gi g2 0).rows] else none))
def Gx:aB:=⟨56,[.s (.list au)],[],[],[.s (.list [.int .i64])],[],[],[],P6⟩
theorem adb:aV P t20 P5 f56 Gx:=fun d=>by kernel_rfl
theorem ade:aT P Gx:=aR hm Gw func56 ada adb
def t21:ai:=t20.bh Gx
theorem P7:ak P t21:=Gw.aP ade

def adf(d:List G):Option (List G) :=
 (ar (xA [.l (gi d 0).rows]) fun g1=>(bif ((gi g1 0).int != 0) then some [.l [],.i (gi g1 0).int] else (ar (P6 [.l (gi d 0).rows]) fun g2=>some [.l (gi g2 0).rows,.i 0])))
def Gy:aB:=⟨22,[.s (.list au)],[],[],[.s (.list [.int .i64]),.s (.int .i64)],[],[],[],adf⟩
theorem adg:aV P t21 ay f22 Gy:=fun d=>by kernel_rfl
theorem adh:aT P Gy:=aR hm P7 func22 (aL _ _ _) adg
def t22:ai:=t21.bh Gy
theorem Gz:ak P t22:=P7.aP adh

def P8(d:List G):Option (Option Nat × List G) :=
 let k:=((aJ (gi d 2).int)&&(ao (gi d 2).int (((gi d 0).str.size:Nat):Int))); let z2:=(((gi d 0).str.data.toList.getD (((gi d 2).int).toNat) 0).toNat:Int); let z3:=(gi d 2).int+1; let z4:=za (gi d 2).int 2; (bif (ao (gi d 2).int (gi d 1).int) then (bif (aw z4) then (bif (z4==1) then (bif k then (bif (ao z2 48) then some (some 0,[.t false]) else (bif k then (bif (ao 57 z2) then some (some 0,[.t false]) else (bif (aw z3) then some (none,[.s (gi d 0).str,.i (gi d 1).int,.i z3]) else none)) else none)) else none) else (bif (z4==2) then (bif k then (bif (ao z2 97) then some (some 0,[.t false]) else (bif k then (bif (ao 120 z2) then some (some 0,[.t false]) else (bif (aw z3) then some (none,[.s (gi d 0).str,.i (gi d 1).int,.i z3]) else none)) else none)) else none) else (bif k then (bif (ao z2 97) then some (some 0,[.t false]) else (bif k then (bif (ao 114 z2) then some (some 0,[.t false]) else (bif (aw z3) then some (none,[.s (gi d 0).str,.i (gi d 1).int,.i z3]) else none)) else none)) else none))) else none) else some (some 1,[]))
def P9:be:=⟨4,[],⟨43,[(0,.s (.str)),(20,.s (.int .i64)),(21,.s (.int .i64))],[]⟩,[],[⟨.ret,⟨43,[(2,.s (.bool))],[]⟩,[]⟩,⟨.exit 0,⟨43,[],[]⟩,[]⟩],P8⟩
theorem adi:cy P t22 ay 0 (cB f132 4) P9:=fun d=>by kernel_rfl
def P_:LT:=ay.add 0 P9
theorem adj:ax P 0 P_ (aQ f132):=ax.a hm Gz (aL _ _ _) adi
def P'(d:List G):Option (List G) :=
 let z2:=(((gi d 0).str.size:Nat):Int); let k:=bX P8 [.s (gi d 0).str,.i z2,.i 0]; (bif (z2 != 2) then (bif (z2 != 4) then (bif (z2 != 6) then some [.t false] else (aO true k fun q g1=>(bif ab q 0 then some [.t (gi g1 0).bool] else some [.t true]))) else (aO true k fun B g2=>(bif ab B 0 then some [.t (gi g2 0).bool] else some [.t true]))) else (aO true k fun I g3=>(bif ab I 0 then some [.t (gi g3 0).bool] else some [.t true])))
def GA:aB:=⟨132,[.s (.str)],[],[],[.s (.bool)],[],[],[],P'⟩
theorem adk:aV P t22 P_ f132 GA:=fun d=>by kernel_rfl
theorem adl:aT P GA:=aR hm Gz func132 adj adk
def t23:ai:=t22.bh GA
theorem Qa:ak P t23:=Gz.aP adl

def Qb(d:List G):Option (List G) :=
 (bif ((((gi d 0).str.size:Nat):Int)==6) then (ar (P' [.s (gi d 0).str]) fun g1=>some [.t (gi g1 0).bool]) else some [.t false])
def GB:aB:=⟨95,[.s (.str)],[],[],[.s (.bool)],[],[],[],Qb⟩
theorem adm:aV P t23 ay f95 GB:=fun d=>by kernel_rfl
theorem adn:aT P GB:=aR hm Qa func95 (aL _ _ _) adm
def t24:ai:=t23.bh GB
theorem GC:ak P t24:=Qa.aP adn

def Qc(d:List G):Option (Option Nat × List G) :=
 let k:=(gi d 1).rows.getD (((gi d 3).int).toNat) []; let z2:=((aJ ((gi d 3).int-1))&&(ao ((gi d 3).int-1) (((gi d 0).rows.length:Nat):Int))); let z3:=(gi d 0).rows.getD (((gi d 3).int-1).toNat) []; let z4:=(gi d 3).int+1; let z5:=aw ((gi d 3).int-1); let q:=j8 [.s (gi z3 1).str,.s (gi k 1).str]; let B:=j8 [.s (gi z3 0).str,.s (gi k 0).str]; (bif (ao (gi d 3).int (gi d 2).int) then (bif ((aJ (gi d 3).int)&&(ao (gi d 3).int (((gi d 1).rows.length:Nat):Int))) then (ar (uo [.s (gi k 0).str]) fun g1=>(bif (!(gi g1 0).bool) then some (some 0,[.i 3]) else (ar (nA [.s (gi k 1).str]) fun g2=>(bif (!(gi g2 0).bool) then some (some 0,[.i 5]) else (ar (kI [.i (gi k 2).int,.i 0,.i 1000000000000]) fun g3=>(bif (gi g3 0).bool then some (some 0,[.i 1]) else (bif (!((gi k 3).str.toList==(⟨#[]⟩:ByteArray).toList)) then (ar (Qb [.s (gi k 3).str]) fun g4=>(bif (!(gi g4 0).bool) then some (some 0,[.i 3]) else (bif (ao 0 (gi d 3).int) then (bif z5 then (bif z2 then (ar q fun g5=>(bif z5 then (bif z2 then (ar B fun g6=>(ar (nB [.l [[.i (gi g5 0).int],[.i (gi g6 0).int]]]) fun g7=>(bif (bx 0 (gi g7 0).int) then some (some 0,[.i 7]) else (bif (aw z4) then some (none,[.l (gi d 0).rows,.l (gi d 1).rows,.i (gi d 2).int,.i z4]) else none)))) else none) else none)) else none) else none) else (bif (aw z4) then some (none,[.l (gi d 0).rows,.l (gi d 1).rows,.i (gi d 2).int,.i z4]) else none)))) else (bif (ao 0 (gi d 3).int) then (bif z5 then (bif z2 then (ar q fun g8=>(bif z5 then (bif z2 then (ar B fun g9=>(ar (nB [.l [[.i (gi g8 0).int],[.i (gi g9 0).int]]]) fun g10=>(bif (bx 0 (gi g10 0).int) then some (some 0,[.i 7]) else (bif (aw z4) then some (none,[.l (gi d 0).rows,.l (gi d 1).rows,.i (gi d 2).int,.i z4]) else none)))) else none) else none)) else none) else none) else (bif (aw z4) then some (none,[.l (gi d 0).rows,.l (gi d 1).rows,.i (gi d 2).int,.i z4]) else none))))))))) else none) else some (some 1,[]))
def Qd:be:=⟨4,[],⟨66,[(0,.s (.list xr)),(8,.s (.list xr)),(9,.s (.int .i64)),(10,.s (.int .i64))],[]⟩,[],[⟨.ret,⟨66,[(2,.s (.int .i64))],[]⟩,[]⟩,⟨.exit 0,⟨66,[],[]⟩,[]⟩],Qc⟩
theorem ado:cy P t24 ay 0 (cB f57 4) Qd:=fun d=>by kernel_rfl
def Qe:LT:=ay.add 0 Qd
theorem adp:ax P 0 Qe (aQ f57):=ax.a hm GC (aL _ _ _) ado
def Qf(d:List G):Option (List G) :=
 let k:=(((gi d 0).rows.length:Nat):Int); (bif (ao 500 k) then some [.i 2] else (aO true (bX Qc [.l (gi d 0).rows,.l (gi d 0).rows,.i k,.i 0]) fun q g11=>(bif ab q 0 then some [.i (gi g11 0).int] else some [.i 0])))
def GD:aB:=⟨57,[.s (.list xr)],[],[],[.s (.int .i64)],[],[],[],Qf⟩
theorem adq:aV P t24 Qe f57 GD:=fun d=>by kernel_rfl
theorem ads:aT P GD:=aR hm GC func57 adp adq
def t25:ai:=t24.bh GD
theorem GF:ak P t25:=GC.aP ads

def oR(d:List G):Option (Option Nat × List G) :=
 let z2:=IntKind.u8.wrap ((gi d 0).int); let k:=(((⟨#[0,1,2,2,3,3,3,3,4,4,4,4,4,4,4,4,5,5,5,5,5,5,5,5,5,5,5,5,5,5,5,5,6,6,6,6,6,6,6,6,6,6,6,6,6,6,6,6,6,6,6,6,6,6,6,6,6,6,6,6,6,6,6,6,7,7,7,7,7,7,7,7,7,7,7,7,7,7,7,7,7,7,7,7,7,7,7,7,7,7,7,7,7,7,7,7,7,7,7,7,7,7,7,7,7,7,7,7,7,7,7,7,7,7,7,7,7,7,7,7,7,7,7,7,7,7,7,7,8,8,8,8,8,8,8,8,8,8,8,8,8,8,8,8,8,8,8,8,8,8,8,8,8,8,8,8,8,8,8,8,8,8,8,8,8,8,8,8,8,8,8,8,8,8,8,8,8,8,8,8,8,8,8,8,8,8,8,8,8,8,8,8,8,8,8,8,8,8,8,8,8,8,8,8,8,8,8,8,8,8,8,8,8,8,8,8,8,8,8,8,8,8,8,8,8,8,8,8,8,8,8,8,8,8,8,8,8,8,8,8,8,8,8,8,8,8,8,8,8,8,8,8,8,8,8,8]⟩:ByteArray).data.toList.getD (z2.toNat) 0).toNat:Int); (bif ((aJ z2)&&(ao z2 256)) then (bif (aw k) then (bif (aw ((gi d 1).int+k)) then some (some 0,[.i ((gi d 1).int+k)]) else none) else none) else none)
def Qg:be:=⟨10,[],⟨25,[(0,.s (.int .u64)),(2,.s (.int .i64))],[]⟩,[],[⟨.ret,⟨25,[(2,.s (.int .i64))],[]⟩,[]⟩],oR⟩
theorem adt:fm P t25 ay 0 (cutAt f92 10) Qg:=fun d=>by kernel_rfl
def Qh:LT:=ay.eP 0 Qg
theorem adu:ax P 0 Qh (aQ f92):=ax.aC hm GF (aL _ _ _) adt
def Qi(d:List G):Option (List G) :=
 let k:=kp .u64 (gi d 0).int 32; let z2:=kp .u64 (gi d 0).int 16; let z3:=kp .u64 k 16; (bif (bx 4294967296 (gi d 0).int) then (bif (bx 65536 k) then (bif (bx 256 z3) then (aO true (cf (oR [.i (kp .u64 z3 8),.i 56])) fun q g1=>some [.i (gi g1 0).int]) else (aO true (cf (oR [.i z3,.i 48])) fun B g2=>some [.i (gi g2 0).int])) else (bif (bx 256 k) then (aO true (cf (oR [.i (kp .u64 k 8),.i 40])) fun I g3=>some [.i (gi g3 0).int]) else (aO true (cf (oR [.i k,.i 32])) fun J g4=>some [.i (gi g4 0).int]))) else (bif (bx 65536 (gi d 0).int) then (bif (bx 256 z2) then (aO true (cf (oR [.i (kp .u64 z2 8),.i 24])) fun M g5=>some [.i (gi g5 0).int]) else (aO true (cf (oR [.i z2,.i 16])) fun N g6=>some [.i (gi g6 0).int])) else (bif (bx 256 (gi d 0).int) then (aO true (cf (oR [.i (kp .u64 (gi d 0).int 8),.i 8])) fun O g7=>some [.i (gi g7 0).int]) else (aO true (cf (oR [.i (gi d 0).int,.i 0])) fun U g8=>some [.i (gi g8 0).int]))))
def GG:aB:=⟨92,[.s (.int .u64)],[],[],[.s (.int .i64)],[],[],[],Qi⟩
theorem adv:aV P t25 Qh f92 GG:=fun d=>by kernel_rfl
theorem adw:aT P GG:=aR hm GF func92 adu adv
def t26:ai:=t25.bh GG
theorem Qj:ak P t26:=GF.aP adw

def Qk(d:List G):Option (List G) :=
 (ar (Qi [.i (gi d 0).int]) fun g1=>some [.i (gi g1 0).int])
def GH:aB:=⟨53,[.s (.int .u64)],[],[],[.s (.int .i64)],[],[],[],Qk⟩
theorem adx:aV P t26 ay f53 GH:=fun d=>by kernel_rfl
theorem ady:aT P GH:=aR hm Qj func53 (aL _ _ _) adx
def t27:ai:=t26.bh GH
theorem Ql:ak P t27:=Qj.aP ady

def Qm(d:List G):Option (List G) :=
 (ar (qj [.i (gi (gi d 1).row 1).int,.i (gi (gi d 0).row 1).int]) fun g1=>(ar (j8 [.s (gi (gi d 0).row 2).str,.s (gi (gi d 1).row 2).str]) fun g2=>(ar (nB [.l [[.i (gi g1 0).int],[.i (gi g2 0).int]]]) fun g3=>some [.i (gi g3 0).int])))
def GJ:aB:=⟨97,[.s (.row dW),.s (.row dW)],[],[],[.s (.int .i64)],[],[],[],Qm⟩
theorem adz:aV P t27 ay f97 GJ:=fun d=>by kernel_rfl
theorem adA:aT P GJ:=aR hm Ql func97 (aL _ _ _) adz
def t28:ai:=t27.bh GJ
theorem BI:ak P t28:=Ql.aP adA

def Qn(d:List G):Option (Option Nat × List G) :=
 let z2:=(gi d 4).int-1; let k:=(gi d 0).rows.set (0+((gi d 4).int).toNat) (dR dW ((gi d 0).rows.getD (0+((gi d 4).int).toNat) []) 0 (aU dW ((gi d 0).rows.getD (0+z2.toNat) []))); let z3:=(((gi d 0).rows.length:Nat):Int); let z4:=k.set (0+z2.toNat) (dR dW (k.getD (0+z2.toNat) []) 0 (aU dW ((gi d 0).rows.getD (0+((gi d 4).int).toNat) []))); let z5:=decide ((0+((gi d 4).int).toNat)<(gi d 0).rows.length); let q:=(aJ (gi d 4).int)&&(ao (gi d 4).int z3); let B:=(ab (gi d 0).rows.length (gi d 0).rows.length)&&true; let I:=decide ((0+z2.toNat)<(gi d 0).rows.length); let z9:=(aJ z2)&&(ao z2 z3); (bif (ao (gi d 1).int (gi d 4).int) then (bif q then (bif z5 then (bif (aw z2) then (bif z9 then (bif I then (ar (Qm [.l [(aU dW ((gi d 0).rows.getD (0+((gi d 4).int).toNat) []))],.l [(aU dW ((gi d 0).rows.getD (0+z2.toNat) []))]]) fun g1=>(bif (ao (gi g1 0).int 0) then (bif (aw z2) then (bif (aw z2) then (bif z9 then (bif I then (bif q then (bif z5 then (bif q then (bif z5 then (bif z9 then (bif (decide ((0+z2.toNat)<k.length)) then (bif (aw z2) then (bif ((ab (gi d 0).rows.length z4.length)&&true) then some (none,[.l z4,.i (gi d 1).int,.i (gi d 2).int,.i (gi d 3).int,.i z2]) else none) else none) else none) else none) else none) else none) else none) else none) else none) else none) else none) else none) else (bif B then some (some 0,[.l (gi d 0).rows,.i (gi d 1).int,.i (gi d 2).int,.i (gi d 3).int]) else none))) else none) else none) else none) else none) else none) else (bif B then some (some 0,[.l (gi d 0).rows,.i (gi d 1).int,.i (gi d 2).int,.i (gi d 3).int]) else none))
def Qo:be:=⟨4,[],⟨53,[(0,.s (.vec 0 3)),(1,.s (.int .i64)),(2,.s (.int .i64)),(3,.s (.fn 97)),(8,.s (.int .i64)),(9,.s (.int .i64))],[.vec dW 0]⟩,[.fix 0],[⟨.exit 2,⟨53,[(0,.s (.vec 0 3)),(1,.s (.int .i64)),(2,.s (.int .i64)),(3,.s (.fn 97)),(8,.s (.int .i64))],[.vec dW 0]⟩,[.fix 0]⟩],Qn⟩
theorem adB:cy P t28 ay 1 (cB f164 4) Qo:=fun d=>by kernel_rfl
def GL:LT:=ay.add 1 Qo
theorem adC:ax P 1 GL (aQ f164):=ax.a hm BI (aL _ _ _) adB
def Qp(d:List G):Option (Option Nat × List G) :=
 (bif (ao (gi d 3).int (gi d 2).int) then (aO ((ab (gi d 0).rows.length (gi d 0).rows.length)&&true) (bX Qn [.l (gi d 0).rows,.i (gi d 1).int,.i (gi d 2).int,.i (gi d 3).int,.i (gi d 3).int]) fun k g2=>(bif (aw ((gi g2 3).int+1)) then (bif ((ab (gi g2 0).rows.length (gi g2 0).rows.length)&&true) then some (none,[.l (gi g2 0).rows,.i (gi g2 1).int,.i (gi g2 2).int,.i ((gi g2 3).int+1)]) else none) else none)) else some (some 0,[.l (gi d 0).rows]))
def Qq:be:=⟨1,[],⟨53,[(0,.s (.vec 0 3)),(1,.s (.int .i64)),(2,.s (.int .i64)),(3,.s (.fn 97)),(8,.s (.int .i64))],[.vec dW 0]⟩,[.fix 0],[⟨.exit 0,⟨53,[],[.vec dW 0]⟩,[.fix 0]⟩],Qp⟩
theorem adD:cy P t28 GL 1 (cB f164 1) Qq:=fun d=>by kernel_rfl
def Qr:LT:=GL.add 1 Qq
theorem adE:ax P 1 Qr (aQ f164):=ax.a hm BI adC adD
def Qs(d:List G):Option (List G) :=
 (bif (aw ((gi d 1).int+1)) then (aO ((ab (gi d 0).rows.length (gi d 0).rows.length)&&true) (bX Qp [.l (gi d 0).rows,.i (gi d 1).int,.i (gi d 2).int,.i ((gi d 1).int+1)]) fun k g3=>some [.l (gi g3 0).rows]) else none)
def GM:aB:=⟨164,[.s (.vec 0 3),.s (.int .i64),.s (.int .i64),.s (.fn 97)],[.vec dW 0],[.slot 0],[],[.vec dW 0],[.fix 0],[],Qs⟩
theorem adF:aV P t28 Qr f164 GM:=fun d=>by kernel_rfl
theorem adG:aT P GM:=aR hm BI func164 adE adF
def t29:ai:=t28.cX GM
theorem GN:ak P t29:=BI.aW adG

def Qt(d:List G):Option (Option Nat × List G) :=
 let k:=Qs [.l (gi d 0).rows,.i (gi d 1).int,.i (gi d 2).int]; let z2:=(gi d 2).int-(gi d 1).int; (bif (aw z2) then (bif (bx z2 12) then (iF (((ab (gi d 0).rows.length (gi d 0).rows.length)&&true)&&k.isSome) k fun g1=>some (some 0,[.l (gi g1 0).rows])) else (bif ((gi d 3).int==0) then none else (bif (!(gi d 4).bool) then none else none))) else none)
def Qu:be:=⟨2,[],⟨148,[(0,.s (.vec 0 3)),(1,.s (.int .i64)),(2,.s (.int .i64)),(3,.s (.int .i64)),(4,.s (.fn 97)),(10,.s (.bool)),(11,.s (.bool))],[.vec dW 0]⟩,[.fix 0],[⟨.ret,⟨148,[],[.vec dW 0]⟩,[.fix 0]⟩],Qt⟩
theorem adH:cy P t29 ay 1 (cB f133 2) Qu:=fun d=>by kernel_rfl
def Qv:LT:=ay.add 1 Qu
theorem adI:ax P 1 Qv (aQ f133):=ax.a hm GN (aL _ _ _) adH
def Qw(d:List G):Option (List G) :=
 (aO ((ab (gi d 0).rows.length (gi d 0).rows.length)&&true) (bX Qt [.l (gi d 0).rows,.i (gi d 1).int,.i (gi d 2).int,.i (gi d 3).int,.t true,.t true]) fun k g2=>some [.l (gi g2 0).rows])
def GO:aB:=⟨133,[.s (.vec 0 3),.s (.int .i64),.s (.int .i64),.s (.int .i64),.s (.fn 97)],[.vec dW 0],[.slot 0],[],[.vec dW 0],[.fix 0],[],Qw⟩
theorem adJ:aV P t29 Qv f133 GO:=fun d=>by kernel_rfl
theorem adK:aT P GO:=aR hm GN func133 adI adJ
def t30:ai:=t29.cX GO
theorem Qx:ak P t30:=GN.aW adK

def Qy(d:List G):Option (List G) :=
 let k:=(((gi d 0).rows.length:Nat):Int); (ar (Qk [.i (IntKind.u64.wrap k)]) fun g1=>let z2:=Qw [.l (gi d 0).rows,.i 0,.i k,.i (gi g1 0).int]; (iF (((ab (gi d 0).rows.length (gi d 0).rows.length)&&true)&&z2.isSome) z2 fun g2=>some [.l (gi g2 0).rows]))
def GP:aB:=⟨96,[.s (.vec 0 3),.s (.fn 97)],[.vec dW 0],[.slot 0],[],[.vec dW 0],[.fix 0],[],Qy⟩
theorem adL:aV P t30 ay f96 GP:=fun d=>by kernel_rfl
theorem adM:aT P GP:=aR hm Qx func96 (aL _ _ _) adL
def t31:ai:=t30.cX GP
theorem BJ:ak P t31:=Qx.aW adM

def GQ(d:List G):Option (Option Nat × List G) :=
 let z2:=(gi d 1).int-1; let k:=(gi d 0).rows.set (0+((gi d 1).int).toNat) (dR dW ((gi d 0).rows.getD (0+((gi d 1).int).toNat) []) 0 [.i (gi ((gi d 0).rows.getD (0+z2.toNat) []) 0).int]); let z3:=(((gi d 0).rows.length:Nat):Int); (bif (gi d 4).bool then (bif (aw z2) then (bif ((aJ z2)&&(ao z2 z3)) then (bif (decide ((0+z2.toNat)<(gi d 0).rows.length)) then (bif ((aJ (gi d 1).int)&&(ao (gi d 1).int z3)) then (bif (decide ((0+((gi d 1).int).toNat)<(gi d 0).rows.length)) then (bif ((ab (gi d 0).rows.length k.length)&&true) then some (some 0,[.l k,.i (gi d 2).int,.i (gi d 3).int]) else none) else none) else none) else none) else none) else none) else (bif ((ab (gi d 0).rows.length (gi d 0).rows.length)&&true) then some (some 0,[.l (gi d 0).rows,.i (gi d 2).int,.i (gi d 3).int]) else none))
def Qz:be:=⟨7,[],⟨45,[(0,.s (.vec 0 3)),(3,.s (.int .i64)),(7,.s (.int .i64)),(8,.s (.int .i64)),(32,.s (.bool))],[.vec dW 0]⟩,[.fix 0],[⟨.normal,⟨45,[(0,.s (.vec 0 3)),(7,.s (.int .i64)),(8,.s (.int .i64))],[.vec dW 0]⟩,[.fix 0]⟩],GQ⟩
theorem adN:fm P t31 ay 1 (cutAt f58 7) Qz:=fun d=>by kernel_rfl
def GR:LT:=ay.eP 1 Qz
theorem adO:ax P 1 GR (aQ f58):=ax.aC hm BJ (aL _ _ _) adN
def QA(d:List G):Option (Option Nat × List G) :=
 let z2:=((aJ (gi d 2).int)&&(ao (gi d 2).int (((gi d 0).rows.length:Nat):Int))); let z3:=(gi d 2).int-1; let z5:=0+((gi d 2).int).toNat; let k:=(gi d 0).rows.set z5 (dR dW ((gi d 0).rows.getD z5 []) 0 [.i ((gi d 2).int+1)]); let z4:=(ab (gi d 0).rows.length k.length)&&true; (bif (ao (gi d 2).int (gi d 1).int) then (bif (aw ((gi d 2).int+1)) then (bif z2 then (bif (decide (z5<(gi d 0).rows.length)) then (bif (ao 0 (gi d 2).int) then (bif z2 then (bif (decide (z5<k.length)) then (bif (aw z3) then (bif ((aJ z3)&&(ao z3 (((gi d 0).rows.length:Nat):Int))) then (bif (decide ((0+z3.toNat)<k.length)) then (aO z4 (cf (GQ [.l k,.i (gi d 2).int,.i (gi d 1).int,.i (gi d 2).int,.t ((gi (k.getD z5 []) 1).int==(gi (k.getD (0+z3.toNat) []) 1).int)])) fun q g2=>(bif (aw ((gi g2 2).int+1)) then (bif ((ab (gi g2 0).rows.length (gi g2 0).rows.length)&&true) then some (none,[.l (gi g2 0).rows,.i (gi g2 1).int,.i ((gi g2 2).int+1)]) else none) else none)) else none) else none) else none) else none) else none) else (aO z4 (cf (GQ [.l k,.i (gi d 2).int,.i (gi d 1).int,.i (gi d 2).int,.t false])) fun B g3=>(bif (aw ((gi g3 2).int+1)) then (bif ((ab (gi g3 0).rows.length (gi g3 0).rows.length)&&true) then some (none,[.l (gi g3 0).rows,.i (gi g3 1).int,.i ((gi g3 2).int+1)]) else none) else none))) else none) else none) else none) else (bif ((ab (gi d 0).rows.length (gi d 0).rows.length)&&true) then some (some 0,[.l (gi d 0).rows]) else none))
def QB:be:=⟨3,[],⟨45,[(0,.s (.vec 0 3)),(7,.s (.int .i64)),(8,.s (.int .i64))],[.vec dW 0]⟩,[.fix 0],[⟨.exit 0,⟨45,[(0,.s (.vec 0 3))],[.vec dW 0]⟩,[.fix 0]⟩],QA⟩
theorem adP:cy P t31 GR 1 (cB f58 3) QB:=fun d=>by kernel_rfl
def QC:LT:=GR.add 1 QB
theorem adQ:ax P 1 QC (aQ f58):=ax.a hm BJ adO adP
def QD(d:List G):Option (List G) :=
 let k:=Qy [.l (gi d 0).rows]; (iF (((ab (gi d 0).rows.length (gi d 0).rows.length)&&true)&&k.isSome) k fun g1=>(aO ((ab (gi d 0).rows.length (gi g1 0).rows.length)&&true) (bX QA [.l (gi g1 0).rows,.i (((gi d 0).rows.length:Nat):Int),.i 0]) fun q g4=>(bif ((ab (gi g4 0).rows.length (gi g4 0).rows.length)&&true) then some [.l (gi g4 0).rows] else none)))
def GS:aB:=⟨58,[.s (.vec 0 3)],[.vec dW 0],[.slot 0],[.s (.vec 0 3)],[.vec dW 0],[.fix 0],[],QD⟩
theorem adR:aV P t31 QC f58 GS:=fun d=>by kernel_rfl
theorem adS:aT P GS:=aR hm BJ func58 adQ adR
def t32:ai:=t31.cX GS
theorem GU:ak P t32:=BJ.aW adS

def QE(d:List G):Option (Option Nat × List G) :=
 let k:=((gi d 0).rows++([[.i 0,.i (gi ((gi d 2).rows.getD (((gi d 4).int).toNat) []) 2).int,.s (gi ((gi d 2).rows.getD (((gi d 4).int).toNat) []) 0).str]]:List (List G))); let z2:=ab (gi d 0).rows.length (gi d 0).rows.length; let z3:=(gi d 4).int+1; (bif (ao (gi d 4).int (gi d 3).int) then (bif ((aJ (gi d 4).int)&&(ao (gi d 4).int (((gi d 2).rows.length:Nat):Int))) then (bif ((gi ((gi d 2).rows.getD (((gi d 4).int).toNat) []) 1).str.toList==(gi d 1).str.toList) then (bif (z2&&(decide (((gi d 0).rows.length+1)≤1048576))) then (bif (aw z3) then (bif ((ab k.length k.length)&&true) then some (none,[.l k,.s (gi d 1).str,.l (gi d 2).rows,.i (gi d 3).int,.i z3]) else none) else none) else none) else (bif (aw z3) then (bif (z2&&true) then some (none,[.l (gi d 0).rows,.s (gi d 1).str,.l (gi d 2).rows,.i (gi d 3).int,.i z3]) else none) else none)) else none) else (bif (z2&&true) then some (some 0,[.l (gi d 0).rows]) else none))
def QF:be:=⟨8,[(7,dW)],⟨39,[(1,.s (.str)),(7,.s (.vec 0 3)),(18,.s (.list xr)),(19,.s (.int .i64)),(20,.s (.int .i64))],[.vec dW 0]⟩,[.slot 7],[⟨.exit 0,⟨39,[(7,.s (.vec 0 3))],[.vec dW 0]⟩,[.slot 7]⟩],QE⟩
theorem adT:cy P t32 ay 0 (cB f23 8) QF:=fun d=>by kernel_rfl
def QG:LT:=ay.add 0 QF
theorem adU:ax P 0 QG (aQ f23):=ax.a hm GU (aL _ _ _) adT
def adV(d:List G):Option (List G) :=
 (ar (Qf [.l (gi d 0).rows]) fun g1=>(bif ((gi g1 0).int != 0) then some [.l [],.i (gi g1 0).int] else (ar (nA [.s (gi d 1).str]) fun g2=>(bif (!(gi g2 0).bool) then some [.l [],.i 5] else (aO true (bX QE [.l [],.s (gi d 1).str,.l (gi d 0).rows,.i (((gi d 0).rows.length:Nat):Int),.i 0]) fun q g3=>let k:=QD [.l (gi g3 0).rows]; (iF (((ab (gi g3 0).rows.length (gi g3 0).rows.length)&&true)&&k.isSome) k fun g4=>(bif ((ab (gi g4 0).rows.length (gi g4 0).rows.length)&&true) then some [.l (gi g4 0).rows,.i 0] else none)))))))
def GV:aB:=⟨23,[.s (.list xr),.s (.str)],[],[],[.s (.list dW),.s (.int .i64)],[],[],[],adV⟩
theorem adW:aV P t32 QG f23 GV:=fun d=>by kernel_rfl
theorem adX:aT P GV:=aR hm GU func23 adU adW
def t33:ai:=t32.bh GV
theorem GW:ak P t33:=GU.aP adX

def ur(d:List G):Option (Option Nat × List G) :=
 let z3:=(((gi d 0).rows.length:Nat):Int); let z4:=decide ((0+((gi d 1).int).toNat)<(gi d 0).rows.length); let z5:=(aJ (gi d 2).int)&&(ao (gi d 2).int z3); let B:=(aJ (gi d 1).int)&&(ao (gi d 1).int z3); let k:=0+((gi d 2).int).toNat; let q:=(gi d 0).rows.set (0+((gi d 1).int).toNat) (dR [.int .i64] ((gi d 0).rows.getD (0+((gi d 1).int).toNat) []) 0 [.i (gi ((gi d 0).rows.getD k []) 0).int]); let z2:=q.set k (dR [.int .i64] (q.getD k []) 0 [.i (gi ((gi d 0).rows.getD (0+((gi d 1).int).toNat) []) 0).int]); (bif (ao (gi d 1).int (gi d 2).int) then (bif z5 then (bif (decide (k<(gi d 0).rows.length)) then (bif B then (bif z4 then (bif B then (bif z4 then (bif z5 then (bif (decide (k<q.length)) then (bif (aw ((gi d 1).int+1)) then (bif (aw ((gi d 2).int-1)) then (bif ((ab (gi d 0).rows.length z2.length)&&true) then some (none,[.l z2,.i ((gi d 1).int+1),.i ((gi d 2).int-1)]) else none) else none) else none) else none) else none) else none) else none) else none) else none) else none) else none) else some (some 0,[.l (gi d 0).rows]))
def QH:be:=⟨1,[],⟨28,[(0,.s (.vec 0 1)),(2,.s (.int .i64)),(3,.s (.int .i64))],[.vec [.int .i64] 0]⟩,[.fix 0],[⟨.exit 0,⟨28,[],[.vec [.int .i64] 0]⟩,[.fix 0]⟩],ur⟩
theorem adY:cy P t33 ay 1 (cB f107 1) QH:=fun d=>by kernel_rfl
def QI:LT:=ay.add 1 QH
theorem adZ:ax P 1 QI (aQ f107):=ax.a hm GW (aL _ _ _) adY
def BK(d:List G):Option (List G) :=
 let k:=((((gi d 0).rows.length:Nat):Int)-1); (bif (aw k) then (aO ((ab (gi d 0).rows.length (gi d 0).rows.length)&&true) (bX ur [.l (gi d 0).rows,.i 0,.i k]) fun q g1=>some [.l (gi g1 0).rows]) else none)
def GX:aB:=⟨107,[.s (.vec 0 1)],[.vec [.int .i64] 0],[.slot 0],[],[.vec [.int .i64] 0],[.fix 0],[],BK⟩
theorem ad0:aV P t33 QI f107 GX:=fun d=>by kernel_rfl
theorem ad1:aT P GX:=aR hm GW func107 adZ ad0
def t34:ai:=t33.cX GX
theorem GY:ak P t34:=GW.aW ad1

def BL(r d:List G):Option (List G) :=
 let k:=(gi (bZ [.int .i64] (gi d 6).rows [.i (gi (gi r 0).row 1).int] [.i 0]) 0).int+1; (bif (aw k) then (bif ((((ab (gi d 3).rows.length (gi d 3).rows.length)&&true)&&true)&&true) then some [.l (gi d 0).rows,.l (gi d 1).rows,.l (gi d 2).rows,.l (gi d 3).rows,.l (gi d 4).rows,.i (((gi d 5).int.toNat:Nat):Int),.l (dv [.int .i64] (gi d 6).rows [.i (gi (gi r 0).row 1).int] [.i k] (gi d 7).int.toNat),.i (((dM [.int .i64] (gi d 6).rows [.i (gi (gi r 0).row 1).int] (gi d 7).int.toNat):Nat):Int),.i (((gi d 8).int.toNat:Nat):Int)] else none) else none)
def QJ(d:List G)(b:Nat):List G:=[.l (gi d 0).rows,.l (gi d 1).rows,.l (gi d 2).rows,.l (gi d 3).rows,.l (gi d 4).rows,.i (((gi d 5).int.toNat:Nat):Int),.l (gi d 6).rows,.i (((gi d 7).int.toNat:Nat):Int),.i (b:Int)]
def ad2(d:List G)(b:Nat):Bool:=((((ab (gi d 3).rows.length (gi d 3).rows.length)&&true)&&true)&&true)
def me:fK:=⟨⟨21,[(3,.s (.map 3)),(10,.s (.addr))],[.box [.vec 1 15,.list au,.list [.str],.list [.int .i64],.map 2],.vec aF 0,.map (.agg [.str,.int .i64]) (.one (.bool)),.map (.one (.int .i64)) (.one (.int .i64))]⟩,[.fix 0,.cell 0 0,.cell 0 4,.slot 3],[],(.agg [.str,.int .i64]),(.one (.bool)),2,0,9,10,11,12,13,fun d=>(gi d 8).int.toNat,QJ,ad2,BL⟩
theorem ad3:kF P t34 ay 3 me (oL (cutAt f99 2)) (rO (cutAt f99 2)):=fun r d=>by kernel_rfl
def uu(d:List G):Option (Option Nat × List G) :=
 (bif ((((ab (gi d 3).rows.length (gi d 3).rows.length)&&true)&&true)&&true) then some (some 0,[.l (gi d 0).rows,.l (gi d 1).rows,.l (gi d 2).rows,.l (gi d 3).rows,.l (gi d 4).rows,.i (((gi d 5).int.toNat:Nat):Int),.l (gi d 6).rows,.i (((gi d 7).int.toNat:Nat):Int)]) else none)
def QK:be:=⟨6,[],⟨21,[(3,.s (.map 3)),(10,.s (.addr))],[.box [.vec 1 15,.list au,.list [.str],.list [.int .i64],.map 2],.vec aF 0,.map (.agg [.str,.int .i64]) (.one (.bool)),.map (.one (.int .i64)) (.one (.int .i64))]⟩,[],[⟨.ret,⟨21,[(2,.s (.map 3))],[.box [.vec 1 15,.list au,.list [.str],.list [.int .i64],.map 2],.vec aF 0,.map (.agg [.str,.int .i64]) (.one (.bool)),.map (.one (.int .i64)) (.one (.int .i64))]⟩,[.fix 0,.cell 0 0,.cell 0 4,.slot 2]⟩],uu⟩
theorem ad4:fm P t34 ay 3 (nl (cutAt f99 2)) QK:=fun d=>by kernel_rfl
def QL(d:List G):Option (Option Nat × List G) :=
 jG me uu (gi d 4).rows ((gi d 5).int.toNat) d
def GZ:be:=⟨2,[],⟨21,[(0,.s (.ptr 0 0)),(3,.s (.map 3))],[.box [.vec 1 15,.list au,.list [.str],.list [.int .i64],.map 2],.vec aF 0,.map (.agg [.str,.int .i64]) (.one (.bool)),.map (.one (.int .i64)) (.one (.int .i64))]⟩,[.fix 0,.cell 0 0,.cell 0 4,.slot 3],[⟨.ret,⟨21,[(2,.s (.map 3))],[.box [.vec 1 15,.list au,.list [.str],.list [.int .i64],.map 2],.vec aF 0,.map (.agg [.str,.int .i64]) (.one (.bool)),.map (.one (.int .i64)) (.one (.int .i64))]⟩,[.fix 0,.cell 0 0,.cell 0 4,.slot 2]⟩],QL⟩
def QM:LT:=ay.eP 3 GZ
theorem ad5:∀ r d d',BL r d=some d'→(gi d' 4).rows=(gi d 4).rows∧(gi d' 5).int.toNat=(gi d 5).int.toNat:=by
 intro r d d' h;unfold BL at h;simp only[Bool.cond_eq_ite]at h
 repeat' split at h
 all_goals first|(cases h; done)|(cases h; exact⟨rfl,rfl⟩)
theorem ad6:ax P 3 QM (aQ f99):=ax.Ol (q:=GZ) (qr:=QK) (sp:=me) (r0:=2) (b0:=0) (r1:=3) (b1:=1) (r2:=4) (rows:=fun d=>(gi d 4).rows) (clock:=fun d=>(gi d 5).int.toNat) (pre:=fun d=>FU P t34 (l9 (cutAt f99 2)) (aM GZ.inv d)) (ri:=fun d=>(gi d 4).rows) (ci:=fun d=>(gi d 5).int.toNat) hm GY (fun d=>by kernel_rfl) ad5 (by kernel_rfl) (by kernel_rfl) (aL _ _ _) (by kernel_rfl) (by kernel_rfl) ad3 (fun d=>by kernel_rfl) (fun d=>by kernel_rfl) (fun d=>by kernel_rfl) (fun d=>by kernel_rfl) (fun d=>by kernel_rfl) (fun d=>by kernel_rfl) (fun d b=>by kernel_rfl) (fun d b=>rfl) (fun d b=>⟨rfl,rfl⟩) rfl rfl ad4 (fun d=>rfl)
def QN(d:List G):Option (List G) :=
 (aO ((((ab (gi d 3).rows.length (gi d 3).rows.length)&&true)&&true)&&true) (cf (QL [.l (gi d 0).rows,.l (gi d 1).rows,.l (gi d 2).rows,.l (gi d 3).rows,.l (gi d 4).rows,.i (((gi d 5).int.toNat:Nat):Int),.l [],.i 0])) fun k g1=>(bif ((((ab (gi g1 3).rows.length (gi g1 3).rows.length)&&true)&&true)&&true) then some [.l (gi g1 0).rows,.l (gi g1 1).rows,.l (gi g1 2).rows,.l (gi g1 3).rows,.l (gi g1 4).rows,.i (((gi g1 5).int.toNat:Nat):Int),.l (gi g1 6).rows,.i (((gi g1 7).int.toNat:Nat):Int)] else none))
def BM:aB:=⟨99,[.s (.ptr 0 0)],[.box [.vec 1 15,.list au,.list [.str],.list [.int .i64],.map 2],.vec aF 0,.map (.agg [.str,.int .i64]) (.one (.bool))],[.slot 0,.cell 0 0,.cell 0 4],[.s (.map 3)],[.box [.vec 1 15,.list au,.list [.str],.list [.int .i64],.map 2],.vec aF 0,.map (.agg [.str,.int .i64]) (.one (.bool)),.map (.one (.int .i64)) (.one (.int .i64))],[.fix 0,.fix 1,.fix 2,.slot 0],[],QN⟩
theorem ad7:aV P t34 QM f99 BM:=fun d=>by kernel_rfl
theorem QO:aT P BM:=aR hm GY func99 ad6 ad7
def t35:ai:=t34.cX BM
theorem QP:ak P t35:=GY.aW QO

theorem ad8:qh P ⟨143,30,76,15,15,true⟩:=Of func143 (by kernel_rfl) rfl rfl rfl ⟨⟨_,_,_,_,_,_,rfl,⟨rfl,rfl,rfl⟩,⟨rfl,rfl,rfl⟩,⟨rfl,rfl,rfl⟩,⟨rfl,rfl,rfl⟩⟩,⟨_,_,_,_,rfl,⟨rfl,rfl,rfl⟩,⟨rfl,rfl,rfl⟩⟩,⟨_,_,_,_,_,rfl,⟨rfl,rfl,rfl⟩,⟨rfl,rfl,rfl⟩,⟨rfl,rfl,rfl⟩⟩,⟨_,_,_,_,_,_,_,_,_,_,rfl,⟨rfl,rfl,rfl⟩,⟨rfl,rfl,rfl⟩,⟨rfl,rfl,rfl⟩,⟨rfl,rfl,rfl⟩,⟨rfl,rfl,rfl⟩,⟨rfl,rfl,rfl⟩,⟨rfl,rfl,rfl⟩,⟨rfl,rfl,rfl⟩⟩⟩ (by kernel_rfl)
def ad9(d:List G):Option (Option Nat × List G) :=
 F3 me uu (gi d 4).rows ((gi d 5).int.toNat) d
theorem ad_(d x:List G)(b:Nat):(cO me.st me.a7 [x] (me.init d b)).bind uu=(cO me.st me.a7 [x] (me.init d 0)).bind uu:=by
 simp only[aas,me];unfold BL QJ uu;dsimp +instances only[On,Oo];simp only[aat,Option.bind_some,Option.bind_none];dsimp +instances only[On,Oo];simp only[aap,Int.toNat_natCast,aaq,cond_true]
def QQ(d:List G):Option (List G) :=
 (aO ((((ab (gi d 3).rows.length (gi d 3).rows.length)&&true)&&true)&&true) (cf (ad9 [.l (gi d 0).rows,.l (gi d 1).rows,.l (gi d 2).rows,.l (gi d 3).rows,.l (gi d 4).rows,.i (((gi d 5).int.toNat:Nat):Int),.l [],.i 0])) fun k g1=>(bif ((((ab (gi g1 3).rows.length (gi g1 3).rows.length)&&true)&&true)&&true) then some [.l (gi g1 0).rows,.l (gi g1 1).rows,.l (gi g1 2).rows,.l (gi g1 3).rows,.l (gi g1 4).rows,.i (((gi g1 5).int.toNat:Nat):Int),.l (gi g1 6).rows,.i (((gi g1 7).int.toNat:Nat):Int)] else none))
theorem ad'{d r:List G}(h:QQ d=some r):QN d=some r :=
 aau (fun v k=>aar (fun b=>rfl) (ad_ _) k) h
def aea:aB:={ BM with F:=QQ }
def QR:ai:=t35.cX aea
theorem aeb:ak P QR:=QP.aW fun d r h=>QO d r (ad' h)
def QS:ai:=QR.inline P 141 f141 []
theorem aec:ak P QS:=aeb.inline hm func141 (by kernel_rfl) []
def QT:ai:=QS.inline P 142 f142 []
theorem aed:ak P QT:=aec.inline hm func142 (by kernel_rfl) []
def QU:ai:=QT.inline P 104 f104 []
theorem aee:ak P QU:=aed.inline hm func104 (by kernel_rfl) []
def QV:ai:=QU.inline P 65 f65 []
theorem aef:ak P QV:=aee.inline hm func65 (by kernel_rfl) []
def QW:ai:=QV.inline P 29 f29 []
theorem aeg:ak P QW:=aef.inline hm func29 (by kernel_rfl) []
def QX:ai:=QW.fe P 106 f106
theorem aeh:ak P QX:=aeg.fe hm func106 (by kernel_rfl) (by kernel_rfl)
def QY:ai:=QX.Bo P ⟨143,30,76,15,15,true⟩ 3 66 f66 [some [.int .i64]]
theorem aei:ak P QY:=aeh.Bo hm ad8 func66 (by kernel_rfl) (by kernel_rfl) [some [.int .i64]]
def QZ:ai:=QY.fe P 144 f144
theorem aej:ak P QZ:=aei.fe hm func144 (by kernel_rfl) (by kernel_rfl)
def Q0:ai:=QZ.fe P 108 f108
theorem aek:ak P Q0:=aej.fe hm func108 (by kernel_rfl) (by kernel_rfl)
def Q1:ai:=Q0.fe P 68 f68
theorem ael:ak P Q1:=aek.fe hm func68 (by kernel_rfl) (by kernel_rfl)
def Q2:ai:=Q1.inline P 67 f67 []
theorem aem:ak P Q2:=ael.inline hm func67 (by kernel_rfl) []
def Q3:ai:=Q2.fe P 30 f30
theorem aen:ak P Q3:=aem.fe hm func30 (by kernel_rfl) (by kernel_rfl)
def Q4:ai:=Q3.fe P 13 f13
theorem aeo:ak P Q4:=aen.fe hm func13 (by kernel_rfl) (by kernel_rfl)
def Q5:ai:=Q4.fe P 98 f98
theorem aep:ak P Q5:=aeo.fe hm func98 (by kernel_rfl) (by kernel_rfl)
def Q6:ai:=Q5.fe P 59 f59
theorem aeq:ak P Q6:=aep.fe hm func59 (by kernel_rfl) (by kernel_rfl)
def aer:ai:=Q6.inline P 24 f24 []
theorem aes:ak P aer:=aeq.inline hm func24 (by kernel_rfl) []
theorem aet:cV P 10 [] (.lit (.bool true)):=dS (L:=ay) hm aes [] (fun _ _=>aL _ _ _) func10 rfl (by kernel_rfl) (by kernel_rfl)
def BN(_:List G):Option (List G):=some [.t true]
def xB:aB:=⟨10,[],[],[],[.s (.bool)],[],[],[],BN⟩
theorem aeu:∀ d r,BN d=some r→dC P 10 (xB.args0 d) (aj (xB.H0 d)) (xB.out r) (aj (xB.H1 r)):=fun d r h=>by
 cases (show some [G.t true]=some r from h);exact aet []
def t36:ai:=t35.bh xB
theorem Q7:ak P t36:=QP.aP aeu


def uv(d:List G):Option (List G) :=
 let k:=zb (gi d 0).int (gi d 1).int; (bif (ao (gi d 1).int 1) then some [.i 0] else (bif (!((gi d 1).int==0)) then (bif (ao k 0) then (bif (aw (k+(gi d 1).int)) then some [.i (k+(gi d 1).int)] else none) else some [.i k]) else none))
def G0:aB:=⟨42,[.s (.int .i64),.s (.int .i64)],[],[],[.s (.int .i64)],[],[],[],uv⟩
theorem aev:aV P t36 ay f42 G0:=fun d=>by kernel_rfl
theorem aew:aT P G0:=aR hm Q7 func42 (aL _ _ _) aev
def t37:ai:=t36.bh G0
theorem Q8:ak P t37:=Q7.aP aew

def oS(d:List G):Option (List G) :=
 let k:=(((gi d 0).rows.length:Nat):Int); let z2:=(gi d 1).int+1; let z3:=zb (z2-1) k; let z4:=(za (z2-1) k)*(7919+z3); (bif (aw z2) then (bif (k==0) then (bif (aw (z2*7919)) then (ar (uv [.i (z2*7919),.i (gi d 2).int]) fun g1=>some [.l (gi d 0).rows,.i z2,.i (gi g1 0).int]) else none) else (bif (aw (z2-1)) then (bif (!(k==0)) then (bif (aw (z2-1)) then (bif ((!(k==0))&&(aw (za (z2-1) k))) then (bif ((aJ z3)&&(ao z3 k)) then (ar (uv [.i (gi ((gi d 0).rows.getD (z3.toNat) []) 0).int,.i 1073741824]) fun g2=>(bif (aw (7919+z3)) then (bif (aw z4) then (bif (aw ((gi g2 0).int+z4)) then (ar (uv [.i ((gi g2 0).int+z4),.i (gi d 2).int]) fun g3=>some [.l (gi d 0).rows,.i z2,.i (gi g3 0).int]) else none) else none) else none)) else none) else none) else none) else none) else none)) else none)
def G1:aB:=⟨16,[.s (.ptr 0 0),.s (.int .i64)],[.box [.list [.int .i64],.int .i64]],[.slot 0],[.s (.int .i64)],[.box [.list [.int .i64],.int .i64]],[.fix 0],[],oS⟩
theorem aex:aV P t37 ay f16 G1:=fun d=>by kernel_rfl
theorem aey:aT P G1:=aR hm Q8 func16 (aL _ _ _) aex
def t38:ai:=t37.cX G1
theorem Q9:ak P t38:=Q8.aW aey

def ql(d:List G):Option (List G) :=
 let k:=(gi d 3).int-(gi d 2).int; (bif (ao (gi d 3).int (gi d 2).int) then some [.l (gi d 0).rows,.i (gi d 1).int,.i (gi d 2).int] else (bif (aw k) then (bif (aw (k+1)) then (ar (oS [.l (gi d 0).rows,.i (gi d 1).int,.i (k+1)]) fun g1=>let z2:=(gi d 2).int+(gi g1 2).int; (bif (aw z2) then some [.l (gi g1 0).rows,.i (gi g1 1).int,.i z2] else none)) else none) else none))
def G2:aB:=⟨6,[.s (.ptr 0 0),.s (.int .i64),.s (.int .i64)],[.box [.list [.int .i64],.int .i64]],[.slot 0],[.s (.int .i64)],[.box [.list [.int .i64],.int .i64]],[.fix 0],[],ql⟩
theorem aez:aV P t38 ay f6 G2:=fun d=>by kernel_rfl
theorem aeA:aT P G2:=aR hm Q9 func6 (aL _ _ _) aez
def t39:ai:=t38.cX G2
theorem Q_:ak P t39:=Q9.aW aeA

def nC(d:List G):Option (List G) :=
 let k:=(((gi d 2).rows.length:Nat):Int); (ar (oS [.l (gi d 0).rows,.i (gi d 1).int,.i k]) fun g1=>(bif ((aJ (gi g1 2).int)&&(ao (gi g1 2).int k)) then some [.l (gi g1 0).rows,.i (gi g1 1).int,.i (gi ((gi d 2).rows.getD (((gi g1 2).int).toNat) []) 0).int] else none))
def G3:aB:=⟨31,[.s (.ptr 0 0),.s (.list [.int .i64])],[.box [.list [.int .i64],.int .i64]],[.slot 0],[.s (.int .i64)],[.box [.list [.int .i64],.int .i64]],[.fix 0],[],nC⟩
theorem aeB:aV P t39 ay f31 G3:=fun d=>by kernel_rfl
theorem aeC:aT P G3:=aR hm Q_ func31 (aL _ _ _) aeB
def t40:ai:=t39.cX G3
theorem Ra:ak P t40:=Q_.aW aeC

def iu(d:List G):Option (List G) :=
 let k:=(((gi d 2).rows.length:Nat):Int); (ar (oS [.l (gi d 0).rows,.i (gi d 1).int,.i k]) fun g1=>(bif ((aJ (gi g1 2).int)&&(ao (gi g1 2).int k)) then some [.l (gi g1 0).rows,.i (gi g1 1).int,.s (gi ((gi d 2).rows.getD (((gi g1 2).int).toNat) []) 0).str] else none))
def G4:aB:=⟨32,[.s (.ptr 0 0),.s (.list [.str])],[.box [.list [.int .i64],.int .i64]],[.slot 0],[.s (.str)],[.box [.list [.int .i64],.int .i64]],[.fix 0],[],iu⟩
theorem aeD:aV P t40 ay f32 G4:=fun d=>by kernel_rfl
theorem aeE:aT P G4:=aR hm Ra func32 (aL _ _ _) aeD
def t41:ai:=t40.cX G4
theorem Rb:ak P t41:=Ra.aW aeE

def r8(d:List G):Option (List G) :=
 (ar (oS [.l (gi d 0).rows,.i (gi d 1).int,.i (gi d 2).int]) fun g1=>some [.l (gi g1 0).rows,.i (gi g1 1).int,.t ((gi g1 2).int==0)])
def G5:aB:=⟨34,[.s (.ptr 0 0),.s (.int .i64)],[.box [.list [.int .i64],.int .i64]],[.slot 0],[.s (.bool)],[.box [.list [.int .i64],.int .i64]],[.fix 0],[],r8⟩
theorem aeF:aV P t41 ay f34 G5:=fun d=>by kernel_rfl
theorem aeG:aT P G5:=aR hm Rb func34 (aL _ _ _) aeF
def t42:ai:=t41.cX G5
theorem Rc:ak P t42:=Rb.aW aeG

def BO(d:List G):Option (List G) :=
 (ar (r8 [.l (gi d 0).rows,.i (gi d 1).int,.i 60]) fun g1=>(bif (gi g1 2).bool then (ar (iu [.l (gi g1 0).rows,.i (gi g1 1).int,.l [[.s (⟨#[]⟩:ByteArray)],[.s (⟨#[107,49]⟩:ByteArray)],[.s (⟨#[75,49,65,66]⟩:ByteArray)],[.s (⟨#[107,49,97,98,47]⟩:ByteArray)],[.s (⟨#[49,97]⟩:ByteArray)],[.s (⟨#[107,49,97,98,47,109,109,47,112]⟩:ByteArray)]]]) fun g2=>some [.l (gi g2 0).rows,.i (gi g2 1).int,.s (gi g2 2).str]) else (ar (iu [.l (gi g1 0).rows,.i (gi g1 1).int,.l [[.s (⟨#[107,49,97,98]⟩:ByteArray)],[.s (⟨#[107,49,97,97]⟩:ByteArray)],[.s (⟨#[107,49,97,98,47,52]⟩:ByteArray)],[.s (⟨#[111,104,50,97,98,99]⟩:ByteArray)],[.s (⟨#[111,104,50,97,98,100]⟩:ByteArray)],[.s (⟨#[119,49,97,119]⟩:ByteArray)],[.s (⟨#[110,49,109,109]⟩:ByteArray)],[.s (⟨#[103,51,120,121,122,47,112]⟩:ByteArray)]]]) fun g3=>some [.l (gi g3 0).rows,.i (gi g3 1).int,.s (gi g3 2).str])))
def G6:aB:=⟨69,[.s (.ptr 0 0)],[.box [.list [.int .i64],.int .i64]],[.slot 0],[.s (.str)],[.box [.list [.int .i64],.int .i64]],[.fix 0],[],BO⟩
theorem aeH:aV P t42 ay f69 G6:=fun d=>by kernel_rfl
theorem aeI:aT P G6:=aR hm Rc func69 (aL _ _ _) aeH
def t43:ai:=t42.cX G6
theorem Re:ak P t43:=Rc.aW aeI

def mf(d:List G):Option (List G) :=
 (ar (r8 [.l (gi d 0).rows,.i (gi d 1).int,.i 12]) fun g1=>(bif (gi g1 2).bool then (bif (aw ((gi d 2).int-1)) then (bif (aw ((gi d 3).int+1)) then (ar (nC [.l (gi g1 0).rows,.i (gi g1 1).int,.l [[.i ((gi d 2).int-1)],[.i ((gi d 3).int+1)],[.i (gi d 2).int],[.i (gi d 3).int],[.i (-1099511627776)],[.i 1099511627776]]]) fun g2=>some [.l (gi g2 0).rows,.i (gi g2 1).int,.i (gi g2 2).int]) else none) else none) else (ar (ql [.l (gi g1 0).rows,.i (gi g1 1).int,.i (gi d 2).int,.i (gi d 3).int]) fun g3=>some [.l (gi g3 0).rows,.i (gi g3 1).int,.i (gi g3 2).int])))
def G7:aB:=⟨35,[.s (.ptr 0 0),.s (.int .i64),.s (.int .i64)],[.box [.list [.int .i64],.int .i64]],[.slot 0],[.s (.int .i64)],[.box [.list [.int .i64],.int .i64]],[.fix 0],[],mf⟩
theorem aeJ:aV P t43 ay f35 G7:=fun d=>by kernel_rfl
theorem aeK:aT P G7:=aR hm Re func35 (aL _ _ _) aeJ
def t44:ai:=t43.cX G7
theorem Rf:ak P t44:=Re.aW aeK

def BP(d:List G):Option (List G) :=
 let k:=(⟨#[]⟩:ByteArray); let z2:=(⟨#[98,50,48]⟩:ByteArray); let z3:=(⟨#[117,115,97]⟩:ByteArray); (ar (nC [.l (gi d 0).rows,.i (gi d 1).int,.l [[.i 1],[.i 1],[.i 2],[.i 3]]]) fun g1=>(ar (iu [.l (gi g1 0).rows,.i (gi g1 1).int,.l [[.s z2],[.s z2],[.s (⟨#[98,52,48]⟩:ByteArray)]]]) fun g2=>(ar (BO [.l (gi g2 0).rows,.i (gi g2 1).int]) fun g3=>(ar (nC [.l (gi g3 0).rows,.i (gi g3 1).int,.l [[.i 0],[.i 1],[.i 2],[.i 3],[.i 4],[.i 5],[.i 6],[.i 7]]]) fun g4=>(ar (nC [.l (gi g4 0).rows,.i (gi g4 1).int,.l [[.i 0],[.i 1],[.i 2],[.i 9]]]) fun g5=>(ar (iu [.l (gi g5 0).rows,.i (gi g5 1).int,.l [[.s k],[.s k],[.s (⟨#[102,105,110]⟩:ByteArray)]]]) fun g6=>(ar (iu [.l (gi g6 0).rows,.i (gi g6 1).int,.l [[.s k],[.s k],[.s z3]]]) fun g7=>(ar (r8 [.l (gi g7 0).rows,.i (gi g7 1).int,.i 100]) fun g8=>(bif (gi g8 2).bool then (ar (oS [.l (gi g8 0).rows,.i (gi g8 1).int,.i 4]) fun g9=>(bif ((gi g9 2).int==0) then (ar (mf [.l (gi g9 0).rows,.i (gi g9 1).int,.i 0,.i 500]) fun g10=>(ar (mf [.l (gi g10 0).rows,.i (gi g10 1).int,.i 1,.i 3]) fun g11=>some [.l (gi g11 0).rows,.i (gi g11 1).int,.l [[.i (gi g10 2).int,.i (gi g11 2).int,.s (gi g2 2).str,.s (gi g3 2).str,.i (gi g4 2).int,.i (gi g5 2).int,.s (gi g6 2).str,.s (gi g7 2).str]]])) else (bif ((gi g9 2).int==1) then (ar (iu [.l (gi g9 0).rows,.i (gi g9 1).int,.l [[.s k],[.s (⟨#[66]⟩:ByteArray)],[.s z2]]]) fun g12=>some [.l (gi g12 0).rows,.i (gi g12 1).int,.l [[.i (gi d 2).int,.i (gi g1 2).int,.s (gi g12 2).str,.s (gi g3 2).str,.i (gi g4 2).int,.i (gi g5 2).int,.s (gi g6 2).str,.s (gi g7 2).str]]]) else (bif ((gi g9 2).int==2) then (ar (mf [.l (gi g9 0).rows,.i (gi g9 1).int,.i 0,.i 99999]) fun g13=>(ar (mf [.l (gi g13 0).rows,.i (gi g13 1).int,.i 0,.i 99999]) fun g14=>some [.l (gi g14 0).rows,.i (gi g14 1).int,.l [[.i (gi d 2).int,.i (gi g1 2).int,.s (gi g2 2).str,.s (gi g3 2).str,.i (gi g13 2).int,.i (gi g14 2).int,.s (gi g6 2).str,.s (gi g7 2).str]]])) else (ar (iu [.l (gi g9 0).rows,.i (gi g9 1).int,.l [[.s k],[.s (⟨#[65]⟩:ByteArray)]]]) fun g15=>(ar (iu [.l (gi g15 0).rows,.i (gi g15 1).int,.l [[.s (⟨#[49]⟩:ByteArray)],[.s z3]]]) fun g16=>some [.l (gi g16 0).rows,.i (gi g16 1).int,.l [[.i (gi d 2).int,.i (gi g1 2).int,.s (gi g2 2).str,.s (gi g3 2).str,.i (gi g4 2).int,.i (gi g5 2).int,.s (gi g15 2).str,.s (gi g16 2).str]]])))))) else some [.l (gi g8 0).rows,.i (gi g8 1).int,.l [[.i (gi d 2).int,.i (gi g1 2).int,.s (gi g2 2).str,.s (gi g3 2).str,.i (gi g4 2).int,.i (gi g5 2).int,.s (gi g6 2).str,.s (gi g7 2).str]]])))))))))
def G8:aB:=⟨33,[.s (.ptr 0 0),.s (.int .i64)],[.box [.list [.int .i64],.int .i64]],[.slot 0],[.s (.row au)],[.box [.list [.int .i64],.int .i64]],[.fix 0],[],BP⟩
theorem aeL:aV P t44 ay f33 G8:=fun d=>by kernel_rfl
theorem aeM:aT P G8:=aR hm Rf func33 (aL _ _ _) aeL
def t45:ai:=t44.cX G8
theorem Rg:ak P t45:=Rf.aW aeM

def xC(d:List G):Option (List G) :=
 (bif (ao (gi d 0).int 0) then some [.i (-1)] else (bif (ao 0 (gi d 0).int) then some [.i 1] else some [.i 0]))
def G9:aB:=⟨71,[.s (.int .i64)],[],[],[.s (.int .i64)],[],[],[],xC⟩
theorem aeN:aV P t45 ay f71 G9:=fun d=>by kernel_rfl
theorem aeO:aT P G9:=aR hm Rg func71 (aL _ _ _) aeN
def t46:ai:=t45.bh G9
theorem Rh:ak P t46:=Rg.aP aeO

def uw(d:List G):Option (List G) :=
 let k:=(gi (gi d 0).row 2).int-(gi (gi d 1).row 2).int; let z2:=(gi (gi d 0).row 1).int-(gi (gi d 1).row 1).int; (bif ((gi (gi d 0).row 2).int != (gi (gi d 1).row 2).int) then (bif (aw k) then (ar (xC [.i k]) fun g1=>some [.i (gi g1 0).int]) else none) else (bif (!((gi (gi d 0).row 0).str.toList==(gi (gi d 1).row 0).str.toList)) then (ar (j8 [.s (gi (gi d 0).row 0).str,.s (gi (gi d 1).row 0).str]) fun g2=>some [.i (gi g2 0).int]) else (bif (aw z2) then (ar (xC [.i z2]) fun g3=>some [.i (gi g3 0).int]) else none)))
def G_:aB:=⟨37,[.s (.row aF),.s (.row aF)],[],[],[.s (.int .i64)],[],[],[],uw⟩
theorem aeP:aV P t46 ay f37 G_:=fun d=>by kernel_rfl
theorem aeQ:aT P G_:=aR hm Rh func37 (aL _ _ _) aeP
def t47:ai:=t46.bh G_
theorem BQ:ak P t47:=Rh.aP aeQ

def Ri(d:List G):Option (Option Nat × List G) :=
 let z2:=(gi d 4).int-1; let k:=(gi d 0).rows.set (0+((gi d 4).int).toNat) (dR aF ((gi d 0).rows.getD (0+((gi d 4).int).toNat) []) 0 (aU aF ((gi d 0).rows.getD (0+z2.toNat) []))); let z3:=(((gi d 0).rows.length:Nat):Int); let z4:=k.set (0+z2.toNat) (dR aF (k.getD (0+z2.toNat) []) 0 (aU aF ((gi d 0).rows.getD (0+((gi d 4).int).toNat) []))); let z5:=decide ((0+((gi d 4).int).toNat)<(gi d 0).rows.length); let q:=(aJ (gi d 4).int)&&(ao (gi d 4).int z3); let B:=(ab (gi d 0).rows.length (gi d 0).rows.length)&&true; let I:=decide ((0+z2.toNat)<(gi d 0).rows.length); let z9:=(aJ z2)&&(ao z2 z3); (bif (ao (gi d 1).int (gi d 4).int) then (bif q then (bif z5 then (bif (aw z2) then (bif z9 then (bif I then (ar (uw [.l [(aU aF ((gi d 0).rows.getD (0+((gi d 4).int).toNat) []))],.l [(aU aF ((gi d 0).rows.getD (0+z2.toNat) []))]]) fun g1=>(bif (ao (gi g1 0).int 0) then (bif (aw z2) then (bif (aw z2) then (bif z9 then (bif I then (bif q then (bif z5 then (bif q then (bif z5 then (bif z9 then (bif (decide ((0+z2.toNat)<k.length)) then (bif (aw z2) then (bif ((ab (gi d 0).rows.length z4.length)&&true) then some (none,[.l z4,.i (gi d 1).int,.i (gi d 2).int,.i (gi d 3).int,.i z2]) else none) else none) else none) else none) else none) else none) else none) else none) else none) else none) else none) else none) else (bif B then some (some 0,[.l (gi d 0).rows,.i (gi d 1).int,.i (gi d 2).int,.i (gi d 3).int]) else none))) else none) else none) else none) else none) else none) else (bif B then some (some 0,[.l (gi d 0).rows,.i (gi d 1).int,.i (gi d 2).int,.i (gi d 3).int]) else none))
def Rj:be:=⟨4,[],⟨53,[(0,.s (.vec 0 15)),(1,.s (.int .i64)),(2,.s (.int .i64)),(3,.s (.fn 37)),(8,.s (.int .i64)),(9,.s (.int .i64))],[.vec aF 0]⟩,[.fix 0],[⟨.exit 2,⟨53,[(0,.s (.vec 0 15)),(1,.s (.int .i64)),(2,.s (.int .i64)),(3,.s (.fn 37)),(8,.s (.int .i64))],[.vec aF 0]⟩,[.fix 0]⟩],Ri⟩
theorem aeR:cy P t47 ay 1 (cB f109 4) Rj:=fun d=>by kernel_rfl
def G':LT:=ay.add 1 Rj
theorem aeS:ax P 1 G' (aQ f109):=ax.a hm BQ (aL _ _ _) aeR
def Rk(d:List G):Option (Option Nat × List G) :=
 (bif (ao (gi d 3).int (gi d 2).int) then (aO ((ab (gi d 0).rows.length (gi d 0).rows.length)&&true) (bX Ri [.l (gi d 0).rows,.i (gi d 1).int,.i (gi d 2).int,.i (gi d 3).int,.i (gi d 3).int]) fun k g2=>(bif (aw ((gi g2 3).int+1)) then (bif ((ab (gi g2 0).rows.length (gi g2 0).rows.length)&&true) then some (none,[.l (gi g2 0).rows,.i (gi g2 1).int,.i (gi g2 2).int,.i ((gi g2 3).int+1)]) else none) else none)) else some (some 0,[.l (gi d 0).rows]))
def Rl:be:=⟨1,[],⟨53,[(0,.s (.vec 0 15)),(1,.s (.int .i64)),(2,.s (.int .i64)),(3,.s (.fn 37)),(8,.s (.int .i64))],[.vec aF 0]⟩,[.fix 0],[⟨.exit 0,⟨53,[],[.vec aF 0]⟩,[.fix 0]⟩],Rk⟩
theorem aeT:cy P t47 G' 1 (cB f109 1) Rl:=fun d=>by kernel_rfl
def Rm:LT:=G'.add 1 Rl
theorem aeU:ax P 1 Rm (aQ f109):=ax.a hm BQ aeS aeT
def Ha(d:List G):Option (List G) :=
 (bif (aw ((gi d 1).int+1)) then (aO ((ab (gi d 0).rows.length (gi d 0).rows.length)&&true) (bX Rk [.l (gi d 0).rows,.i (gi d 1).int,.i (gi d 2).int,.i ((gi d 1).int+1)]) fun k g3=>some [.l (gi g3 0).rows]) else none)
def Hb:aB:=⟨109,[.s (.vec 0 15),.s (.int .i64),.s (.int .i64),.s (.fn 37)],[.vec aF 0],[.slot 0],[],[.vec aF 0],[.fix 0],[],Ha⟩
theorem aeV:aV P t47 Rm f109 Hb:=fun d=>by kernel_rfl
theorem aeW:aT P Hb:=aR hm BQ func109 aeU aeV
def t48:ai:=t47.cX Hb
theorem xD:ak P t48:=BQ.aW aeW

def Rn(d:List G):Option (Option Nat × List G) :=
 let k:=Ha [.l (gi d 0).rows,.i (gi d 3).int,.i (gi d 4).int]; let z2:=(ab (gi d 0).rows.length (gi d 0).rows.length)&&true; let z3:=(gi d 4).int+(gi d 2).int; (bif (bx (gi d 4).int (gi d 1).int) then (iF (z2&&k.isSome) k fun g1=>(bif (aw z3) then (bif ((ab (gi d 0).rows.length (gi g1 0).rows.length)&&true) then some (none,[.l (gi g1 0).rows,.i (gi d 1).int,.i (gi d 2).int,.i (gi d 4).int,.i z3]) else none) else none)) else (bif z2 then some (some 0,[.l (gi d 0).rows,.i (gi d 1).int,.i (gi d 2).int,.i (gi d 3).int]) else none))
def Ro:be:=⟨2,[],⟨63,[(0,.s (.vec 0 15)),(1,.s (.int .i64)),(2,.s (.fn 37)),(6,.s (.int .i64)),(7,.s (.int .i64)),(8,.s (.int .i64))],[.vec aF 0]⟩,[.fix 0],[⟨.exit 0,⟨63,[(0,.s (.vec 0 15)),(1,.s (.int .i64)),(2,.s (.fn 37)),(6,.s (.int .i64)),(7,.s (.int .i64))],[.vec aF 0]⟩,[.fix 0]⟩],Rn⟩
theorem aeX:cy P t48 ay 1 (cB f70 2) Ro:=fun d=>by kernel_rfl
def Hc:LT:=ay.add 1 Ro
theorem aeY:ax P 1 Hc (aQ f70):=ax.a hm xD (aL _ _ _) aeX
def Rp(d:List G):Option (Option Nat × List G) :=
 (bif (bx (gi d 4).int (gi d 1).int) then (bif (aw ((gi d 3).int+(gi d 2).int)) then none else none) else (bif ((ab (gi d 0).rows.length (gi d 0).rows.length)&&true) then some (some 0,[.l (gi d 0).rows,.i (gi d 1).int,.i (gi d 2).int,.i (gi d 3).int]) else none))
def Rq:be:=⟨9,[],⟨63,[(0,.s (.vec 0 15)),(1,.s (.int .i64)),(2,.s (.fn 37)),(6,.s (.int .i64)),(7,.s (.int .i64)),(8,.s (.int .i64))],[.vec aF 0]⟩,[.fix 0],[⟨.exit 4,⟨63,[(0,.s (.vec 0 15)),(1,.s (.int .i64)),(2,.s (.fn 37)),(6,.s (.int .i64)),(7,.s (.int .i64))],[.vec aF 0]⟩,[.fix 0]⟩],Rp⟩
theorem aeZ:cy P t48 Hc 1 (cB f70 9) Rq:=fun d=>by kernel_rfl
def Hd:LT:=Hc.add 1 Rq
theorem ae0:ax P 1 Hd (aQ f70):=ax.a hm xD aeY aeZ
def Rr(d:List G):Option (Option Nat × List G) :=
 (bif (ao (gi d 2).int (gi d 1).int) then (bif (aw (2*(gi d 2).int)) then (aO ((ab (gi d 0).rows.length (gi d 0).rows.length)&&true) (bX Rp [.l (gi d 0).rows,.i (gi d 1).int,.i (gi d 2).int,.i 0,.i (2*(gi d 2).int)]) fun q g4=>let k:=(gi g4 3).int+(gi g4 2).int; (bif (aw k) then (bif (ao k (gi g4 1).int) then none else (bif (aw ((gi g4 2).int*2)) then (bif ((ab (gi g4 0).rows.length (gi g4 0).rows.length)&&true) then some (none,[.l (gi g4 0).rows,.i (gi g4 1).int,.i ((gi g4 2).int*2)]) else none) else none)) else none)) else none) else some (some 0,[.l (gi d 0).rows]))
def Rs:be:=⟨7,[],⟨63,[(0,.s (.vec 0 15)),(1,.s (.int .i64)),(2,.s (.fn 37)),(6,.s (.int .i64))],[.vec aF 0]⟩,[.fix 0],[⟨.exit 2,⟨63,[],[.vec aF 0]⟩,[.fix 0]⟩],Rr⟩
theorem ae1:cy P t48 Hd 1 (cB f70 7) Rs:=fun d=>by kernel_rfl
def Rt:LT:=Hd.add 1 Rs
theorem ae2:ax P 1 Rt (aQ f70):=ax.a hm xD ae0 ae1
def Ru(d:List G):Option (List G) :=
 (aO ((ab (gi d 0).rows.length (gi d 0).rows.length)&&true) (bX Rn [.l (gi d 0).rows,.i (gi d 1).int,.i 20,.i 0,.i 20]) fun q g2=>let k:=Ha [.l (gi g2 0).rows,.i (gi g2 3).int,.i (gi g2 1).int]; (iF (((ab (gi g2 0).rows.length (gi g2 0).rows.length)&&true)&&k.isSome) k fun g3=>(aO ((ab (gi g2 0).rows.length (gi g3 0).rows.length)&&true) (bX Rr [.l (gi g3 0).rows,.i (gi g2 1).int,.i (gi g2 2).int]) fun B g5=>some [.l (gi g5 0).rows])))
def He:aB:=⟨70,[.s (.vec 0 15),.s (.int .i64),.s (.fn 37)],[.vec aF 0],[.slot 0],[],[.vec aF 0],[.fix 0],[],Ru⟩
theorem ae3:aV P t48 Rt f70 He:=fun d=>by kernel_rfl
theorem ae4:aT P He:=aR hm xD func70 ae2 ae3
def t49:ai:=t48.cX He
theorem Rv:ak P t49:=xD.aW ae4

def Hf(d:List G):Option (List G) :=
 let k:=(Ru [.l (gi d 0).rows,.i (((gi d 0).rows.length:Nat):Int)]); (iF (((ab (gi d 0).rows.length (gi d 0).rows.length)&&true)&&k.isSome) k fun g1=>some [.l (gi g1 0).rows])
def Hg:aB:=⟨36,[.s (.vec 0 15),.s (.fn 37)],[.vec aF 0],[.slot 0],[],[.vec aF 0],[.fix 0],[],Hf⟩
theorem ae5:aV P t49 ay f36 Hg:=fun d=>by kernel_rfl
theorem ae6:aT P Hg:=aR hm Rv func36 (aL _ _ _) ae5
def t50:ai:=t49.cX Hg
theorem ux:ak P t50:=Rv.aW ae6

end
end Go.Proofs.gl
