/-
 What is proved here: functions of the program as functions on data. No condition.
-/
import Derived.Test.YtopnkdaoanlaiaaGreatDoorML1
set_option linter.all false
open Int renaming tdiv→yq,tmod→yr
open Nat renaming beq→ab
namespace Go.Proofs.gq
open Go Go.AL Go.Proofs Tryz
noncomputable section
def kI(d:List G):Option (List G) :=
 (bif (aB (gi d 0).int (gi d 1).int) then some [.t true] else some [.t (aB (gi d 2).int (gi d 0).int)])
def Fs:ax:=⟨61,[.s (.int .i64),.s (.int .i64),.s (.int .i64)],[],[],[.s (.bool)],[],[],[],kI⟩
theorem ZR:aX P t7 au f61 Fs:=fun d=>by kernel_rfl
theorem ZS:aU P Fs:=ba hm NZ func61 (aG _ _ _) ZR
def t8:ah:=t7.bp Fs
theorem N0:ai P t8:=NZ.aP ZS

def rk(d:List G):Option (List G) :=
 (ao (kI [.i (gi d 0).int,.i 0,.i 345686399999]) fun g1=>some [.t (!(gi g1 0).bool)])
def Ft:ax:=⟨63,[.s (.int .i64)],[],[],[.s (.bool)],[],[],[],rk⟩
theorem ZT:aX P t8 au f63 Ft:=fun d=>by kernel_rfl
theorem ZU:aU P Ft:=ba hm N0 func63 (aG _ _ _) ZT
def t9:ah:=t8.bp Ft
theorem N1:ai P t9:=N0.aP ZU

def Fu(d:List G):Option (List G) :=
 (ao (kI [.i (gi d 0).int,.i 1,.i 3]) fun g1=>some [.t (!(gi g1 0).bool)])
def Fv:ax:=⟨62,[.s (.int .i64)],[],[],[.s (.bool)],[],[],[],Fu⟩
theorem ZV:aX P t9 au f62 Fv:=fun d=>by kernel_rfl
theorem ZW:aU P Fv:=ba hm N1 func62 (aG _ _ _) ZV
def t10:ah:=t9.bp Fv
theorem N2:ai P t10:=N1.aP ZW

def mJ(d:List G):Option (List G) :=
 let g:=(((gi d 0).str.size:Nat):Int); (bif (!((gi d 0).str.toList==(⟨#[]⟩:ByteArray).toList)) then (bif (bM g 40) then (bif (aB 0 g) then (ao (A3 [.s (⟨#[97,98,99,100,101,102,103,104,105,106,107,108,109,110,111,112,113,114,115,116,117,118,119,120,121,122]⟩:ByteArray),.i (((gi d 0).str.data.toList.getD 0 0).toNat:Int)]) fun g1=>(bif (bM 0 (gi g1 0).int) then (ao (A4 [.s (gi d 0).str,.s (⟨#[97,98,99,100,101,102,103,104,105,106,107,108,109,110,111,112,113,114,115,116,117,118,119,120,121,122,48,49,50,51,52,53,54,55,56,57,45,95]⟩:ByteArray)]) fun g2=>some [.t ((gi g2 0).str.toList==(⟨#[]⟩:ByteArray).toList)]) else some [.t false])) else none) else some [.t false]) else some [.t false])
def Fw:ax:=⟨60,[.s (.str)],[],[],[.s (.bool)],[],[],[],mJ⟩
theorem ZX:aX P t10 au f60 Fw:=fun d=>by kernel_rfl
theorem ZY:aU P Fw:=ba hm N2 func60 (aG _ _ _) ZX
def t11:ah:=t10.bp Fw
theorem N3:ai P t11:=N2.aP ZY

def wZ(d:List G):Option (List G) :=
 (ao (A5 [.s (gi d 0).str]) fun g1=>some [.t (gi g1 1).bool])
def Fx:ax:=⟨109,[.s (.str)],[],[],[.s (.bool)],[],[],[],wZ⟩
theorem ZZ:aX P t11 au f109 Fx:=fun d=>by kernel_rfl
theorem Z0:aU P Fx:=ba hm N3 func109 (aG _ _ _) ZZ
def t12:ah:=t11.bp Fx
theorem N4:ai P t12:=N3.aP Z0

def A6(d:List G):Option (List G) :=
 (bif ((gi d 0).str.toList==(⟨#[]⟩:ByteArray).toList) then some [.t true] else (ao (mJ [.s (gi d 0).str]) fun g1=>some [.t (gi g1 0).bool]))
def Fy:ax:=⟨134,[.s (.str)],[],[],[.s (.bool)],[],[],[],A6⟩
theorem Z1:aX P t12 au f134 Fy:=fun d=>by kernel_rfl
theorem Z2:aU P Fy:=ba hm N4 func134 (aG _ _ _) Z1
def t13:ah:=t12.bp Fy
theorem N5:ai P t13:=N4.aP Z2

def rm(d:List G):Option (List G) :=
 (ao (rk [.i (gi (gi d 0).row 0).int]) fun g1=>(bif (!(gi g1 0).bool) then some [.i 1] else (ao (Fu [.i (gi (gi d 0).row 1).int]) fun g2=>(bif (!(gi g2 0).bool) then some [.i 4] else (ao (mJ [.s (gi (gi d 0).row 2).str]) fun g3=>(bif (!(gi g3 0).bool) then some [.i 5] else (ao (wZ [.s (gi (gi d 0).row 3).str]) fun g4=>(bif (!(gi g4 0).bool) then some [.i 3] else (ao (kI [.i (gi (gi d 0).row 4).int,.i 0,.i 99999]) fun g5=>(bif (gi g5 0).bool then some [.i 1] else (ao (kI [.i (gi (gi d 0).row 5).int,.i 0,.i 99999]) fun g6=>(bif (gi g6 0).bool then some [.i 1] else (ao (A6 [.s (gi (gi d 0).row 6).str]) fun g7=>(bif (!(gi g7 0).bool) then some [.i 5] else (ao (A6 [.s (gi (gi d 0).row 7).str]) fun g8=>(bif (!(gi g8 0).bool) then some [.i 5] else some [.i 0]))))))))))))))))
def Fz:ax:=⟨98,[.s (.row aQ)],[],[],[.s (.int .i64)],[],[],[],rm⟩
theorem Z3:aX P t13 au f98 Fz:=fun d=>by kernel_rfl
theorem Z4:aU P Fz:=ba hm N5 func98 (aG _ _ _) Z3
def t14:ah:=t13.bp Fz
theorem N6:ai P t14:=N5.aP Z4

def A7(d:List G):Option (List G) :=
 some [.t ((gi d 0).int != (gi d 0).int)]
def FA:ax:=⟨87,[.s (.int .i64)],[],[],[.s (.bool)],[],[],[],A7⟩
theorem Z5:aX P t14 au f87 FA:=fun d=>by kernel_rfl
theorem Z6:aU P FA:=ba hm N6 func87 (aG _ _ _) Z5
def t15:ah:=t14.bp FA
theorem N7:ai P t15:=N6.aP Z6

def nJ(d:List G):Option (List G) :=
 (ao (A7 [.i (gi d 0).int]) fun g1=>(ao (A7 [.i (gi d 1).int]) fun g2=>(bif (gi g1 0).bool then (bif (gi g2 0).bool then some [.i 0] else some [.i (-1)]) else (bif (gi g2 0).bool then some [.i 1] else (bif (aB (gi d 0).int (gi d 1).int) then some [.i (-1)] else (bif (aB (gi d 1).int (gi d 0).int) then some [.i 1] else some [.i 0]))))))
def FB:ax:=⟨50,[.s (.int .i64),.s (.int .i64)],[],[],[.s (.int .i64)],[],[],[],nJ⟩
theorem Z7:aX P t15 au f50 FB:=fun d=>by kernel_rfl
theorem Z8:aU P FB:=ba hm N7 func50 (aG _ _ _) Z7
def t16:ah:=t15.bp FB
theorem FC:ai P t16:=N7.aP Z8

def tN(d:List G):Option (Option Nat × List G) :=
 let g:=gi ((gi d 1).rows.getD (((gi d 3).int).toNat) []) 0; (bif (aB (gi d 3).int (gi d 2).int) then (bif ((bD (gi d 3).int)&&(aB (gi d 3).int (((gi d 1).rows.length:Nat):Int))) then (bif (g.int != (gi d 0).int) then some (some 0,[.i g.int]) else (bif (az ((gi d 3).int+1)) then some (none,[.i (gi d 0).int,.l (gi d 1).rows,.i (gi d 2).int,.i ((gi d 3).int+1)]) else none)) else none) else some (some 1,[.i (gi d 0).int]))
def N8:bx:=⟨3,[],⟨18,[(3,.s (.int .i64)),(6,.s (.list [.int .i64])),(7,.s (.int .i64)),(8,.s (.int .i64))],[]⟩,[],[⟨.ret,⟨18,[(2,.s (.int .i64))],[]⟩,[]⟩,⟨.exit 0,⟨18,[(3,.s (.int .i64))],[]⟩,[]⟩],tN⟩
theorem Z9:cX P t16 au 0 (c9 f48 3) N8:=fun d=>by kernel_rfl
def N9:LT:=au.add 0 N8
theorem Z_:ay P 0 N9 (aN f48):=ay.a hm FC (aG _ _ _) Z9
def jR(d:List G):Option (List G) :=
 (aY true (cG tN [.i 0,.l (gi d 0).rows,.i (((gi d 0).rows.length:Nat):Int),.i 0]) fun g g1=>(bif ab g 0 then some [.i (gi g1 0).int] else some [.i (gi g1 0).int]))
def FD:ax:=⟨48,[.s (.list [.int .i64])],[],[],[.s (.int .i64)],[],[],[],jR⟩
theorem Z':aX P t16 N9 f48 FD:=fun d=>by kernel_rfl
theorem aaa:aU P FD:=ba hm FC func48 Z_ Z'
def t17:ah:=t16.bp FD
theorem N_:ai P t17:=FC.aP aaa

def pI(d:List G):Option (List G) :=
 (ao (nJ [.i (gi (gi d 0).row 0).int,.i (gi (gi d 1).row 0).int]) fun g1=>(ao (iD [.s (gi (gi d 0).row 3).str,.s (gi (gi d 1).row 3).str]) fun g2=>(ao (iD [.s (gi (gi d 0).row 2).str,.s (gi (gi d 1).row 2).str]) fun g3=>(ao (nJ [.i (gi (gi d 0).row 1).int,.i (gi (gi d 1).row 1).int]) fun g4=>(ao (jR [.l [[.i (gi g1 0).int],[.i (gi g2 0).int],[.i (gi g3 0).int],[.i (gi g4 0).int]]]) fun g5=>some [.i (gi g5 0).int])))))
def FE:ax:=⟨82,[.s (.row aQ),.s (.row aQ)],[],[],[.s (.int .i64)],[],[],[],pI⟩
theorem aab:aX P t17 au f82 FE:=fun d=>by kernel_rfl
theorem N':aU P FE:=ba hm N_ func82 (aG _ _ _) aab
def t18:ah:=t17.bp FE
theorem FF:ai P t18:=N_.aP N'

def Oa(d:List G):Option (Option Nat × List G) :=
 let g:=bh aQ ((gi d 1).rows.getD (((gi d 3).int).toNat) []); let z2:=(gi d 3).int-1; let z3:=(gi d 3).int+1; (bif (aB (gi d 3).int (gi d 2).int) then (bif ((bD (gi d 3).int)&&(aB (gi d 3).int (((gi d 1).rows.length:Nat):Int))) then (ao (rm [.l [g]]) fun g1=>(bif ((gi g1 0).int != 0) then some (some 0,[.i (gi g1 0).int]) else (bif (aB 0 (gi d 3).int) then (bif (az z2) then (bif ((bD z2)&&(aB z2 (((gi d 0).rows.length:Nat):Int))) then (ao (pI [.l [(bh aQ ((gi d 0).rows.getD (z2.toNat) []))],.l [g]]) fun g2=>(bif (bM 0 (gi g2 0).int) then some (some 0,[.i 7]) else (bif (az z3) then some (none,[.l (gi d 0).rows,.l (gi d 1).rows,.i (gi d 2).int,.i z3]) else none))) else none) else none) else (bif (az z3) then some (none,[.l (gi d 0).rows,.l (gi d 1).rows,.i (gi d 2).int,.i z3]) else none)))) else none) else some (some 1,[]))
def Ob:bx:=⟨4,[],⟨34,[(0,.s (.list aQ)),(9,.s (.list aQ)),(10,.s (.int .i64)),(11,.s (.int .i64))],[]⟩,[],[⟨.ret,⟨34,[(2,.s (.int .i64))],[]⟩,[]⟩,⟨.exit 0,⟨34,[],[]⟩,[]⟩],Oa⟩
theorem aac:cX P t18 au 0 (c9 f57 4) Ob:=fun d=>by kernel_rfl
def Oc:LT:=au.add 0 Ob
theorem aad:ay P 0 Oc (aN f57):=ay.a hm FF (aG _ _ _) aac
def Od(d:List G):Option (List G) :=
 let g:=(((gi d 0).rows.length:Nat):Int); (bif (aB 2000 g) then some [.i 2] else (aY true (cG Oa [.l (gi d 0).rows,.l (gi d 0).rows,.i g,.i 0]) fun k g3=>(bif ab k 0 then some [.i (gi g3 0).int] else some [.i 0])))
def FG:ax:=⟨57,[.s (.list aQ)],[],[],[.s (.int .i64)],[],[],[],Od⟩
theorem aae:aX P t18 Oc f57 FG:=fun d=>by kernel_rfl
theorem aaf:aU P FG:=ba hm FF func57 aad aae
def t19:ah:=t18.bp FG
theorem Oe:ai P t19:=FF.aP aaf

def Of(d:List G):Option (List G) :=
 (ao (A5 [.s (gi d 0).str]) fun g1=>some [.s (gi (gi g1 0).row 0).str])
def FH:ax:=⟨99,[.s (.str)],[],[],[.s (.str)],[],[],[],Of⟩
theorem aag:aX P t19 au f99 FH:=fun d=>by kernel_rfl
theorem aah:aU P FH:=ba hm Oe func99 (aG _ _ _) aag
def t20:ah:=t19.bp FH
theorem FI:ai P t20:=Oe.aP aah

def Og(d:List G):Option (Option Nat × List G) :=
 let g:=(gi d 3).rows.getD (((gi d 5).int).toNat) []; let z2:=((gi d 2).rows++([[.i (gi d 5).int]]:List (List G))); let z3:=ab (gi d 2).rows.length (gi d 2).rows.length; let z4:=(gi d 5).int+1; (bif (aB (gi d 5).int (gi d 4).int) then (bif ((bD (gi d 5).int)&&(aB (gi d 5).int (((gi d 3).rows.length:Nat):Int))) then (ao (Of [.s (gi g 3).str]) fun g1=>let z5:=(((dF [.str,.str,.int .i64] (gi d 0).rows [.s (gi g1 0).str,.s (gi g 2).str,.i (gi g 1).int] (gi d 1).int.toNat):Nat):Int); let k:=cu [.str,.str,.int .i64] (gi d 0).rows [.s (gi g1 0).str,.s (gi g 2).str,.i (gi g 1).int] [.t true] (gi d 1).int.toNat; (bif (gi (ch [.str,.str,.int .i64] (gi d 0).rows [.s (gi g1 0).str,.s (gi g 2).str,.i (gi g 1).int] [.t false]) 0).bool then (bif (z3&&(decide (((gi d 2).rows.length+1)≤1048576))) then (bif (az z4) then (bif ((ab z2.length z2.length)&&true) then some (none,[.l k,.i z5,.l z2,.l (gi d 3).rows,.i (gi d 4).int,.i z4]) else none) else none) else none) else (bif (az z4) then (bif (z3&&true) then some (none,[.l k,.i z5,.l (gi d 2).rows,.l (gi d 3).rows,.i (gi d 4).int,.i z4]) else none) else none))) else none) else (bif (z3&&true) then some (some 0,[.l (gi d 2).rows]) else none))
def Oh:bx:=⟨4,[(4,[.int .i64])],⟨35,[(3,.s (.map 0)),(4,.s (.vec 1 1)),(9,.s (.list aQ)),(10,.s (.int .i64)),(11,.s (.int .i64))],[.map (.agg [.str,.str,.int .i64]) (.one (.bool)),.vec [.int .i64] 0]⟩,[.slot 3,.slot 4],[⟨.exit 0,⟨35,[(4,.s (.vec 0 1))],[.vec [.int .i64] 0]⟩,[.slot 4]⟩],Og⟩
theorem aai:cX P t20 (au.iy [(6,[.hole [.str,.str,.int .i64]])]) 0 (c9 f58 4) Oh:=fun d=>by kernel_rfl
def Oi:LT:=(au.iy [(6,[.hole [.str,.str,.int .i64]])]).add 0 Oh
theorem aaj:ay P 0 Oi (aN f58):=ay.a hm FI (qS _) aai
def Oj(d:List G):Option (List G) :=
 (aY true (cG Og [.l [],.i 0,.l [],.l (gi d 0).rows,.i (((gi d 0).rows.length:Nat):Int),.i 0]) fun g g2=>(bif ((ab (gi g2 0).rows.length (gi g2 0).rows.length)&&true) then some [.l (gi g2 0).rows] else none))
def FJ:ax:=⟨58,[.s (.list aQ)],[],[],[.s (.list [.int .i64])],[],[],[],Oj⟩
theorem aak:aX P t20 Oi f58 FJ:=fun d=>by kernel_rfl
theorem aal:aU P FJ:=ba hm FI func58 aaj aak
def t21:ah:=t20.bp FJ
theorem Ol:ai P t21:=FI.aP aal

def aam(d:List G):Option (List G) :=
 (ao (Od [.l (gi d 0).rows]) fun g1=>(bif ((gi g1 0).int != 0) then some [.l [],.i (gi g1 0).int] else (ao (Oj [.l (gi d 0).rows]) fun g2=>some [.l (gi g2 0).rows,.i 0])))
def FL:ax:=⟨26,[.s (.list aQ)],[],[],[.s (.list [.int .i64]),.s (.int .i64)],[],[],[],aam⟩
theorem aan:aX P t21 au f26 FL:=fun d=>by kernel_rfl
theorem aao:aU P FL:=ba hm Ol func26 (aG _ _ _) aan
def t22:ah:=t21.bp FL
theorem FM:ai P t22:=Ol.aP aao

def Om(d:List G):Option (Option Nat × List G) :=
 let g:=((bD (gi d 2).int)&&(aB (gi d 2).int (((gi d 0).str.size:Nat):Int))); let z2:=(((gi d 0).str.data.toList.getD (((gi d 2).int).toNat) 0).toNat:Int); let z3:=(gi d 2).int+1; let z4:=yq (gi d 2).int 2; (bif (aB (gi d 2).int (gi d 1).int) then (bif (az z4) then (bif (z4==1) then (bif g then (bif (aB z2 48) then some (some 0,[.t false]) else (bif g then (bif (aB 57 z2) then some (some 0,[.t false]) else (bif (az z3) then some (none,[.s (gi d 0).str,.i (gi d 1).int,.i z3]) else none)) else none)) else none) else (bif (z4==2) then (bif g then (bif (aB z2 97) then some (some 0,[.t false]) else (bif g then (bif (aB 120 z2) then some (some 0,[.t false]) else (bif (az z3) then some (none,[.s (gi d 0).str,.i (gi d 1).int,.i z3]) else none)) else none)) else none) else (bif g then (bif (aB z2 97) then some (some 0,[.t false]) else (bif g then (bif (aB 114 z2) then some (some 0,[.t false]) else (bif (az z3) then some (none,[.s (gi d 0).str,.i (gi d 1).int,.i z3]) else none)) else none)) else none))) else none) else some (some 1,[]))
def On:bx:=⟨4,[],⟨43,[(0,.s (.str)),(20,.s (.int .i64)),(21,.s (.int .i64))],[]⟩,[],[⟨.ret,⟨43,[(2,.s (.bool))],[]⟩,[]⟩,⟨.exit 0,⟨43,[],[]⟩,[]⟩],Om⟩
theorem aap:cX P t22 au 0 (c9 f147 4) On:=fun d=>by kernel_rfl
def Oo:LT:=au.add 0 On
theorem aaq:ay P 0 Oo (aN f147):=ay.a hm FM (aG _ _ _) aap
def Oq(d:List G):Option (List G) :=
 let z2:=(((gi d 0).str.size:Nat):Int); let g:=cG Om [.s (gi d 0).str,.i z2,.i 0]; (bif (z2 != 2) then (bif (z2 != 4) then (bif (z2 != 6) then some [.t false] else (aY true g fun k g1=>(bif ab k 0 then some [.t (gi g1 0).bool] else some [.t true]))) else (aY true g fun q g2=>(bif ab q 0 then some [.t (gi g2 0).bool] else some [.t true]))) else (aY true g fun A g3=>(bif ab A 0 then some [.t (gi g3 0).bool] else some [.t true])))
def FN:ax:=⟨147,[.s (.str)],[],[],[.s (.bool)],[],[],[],Oq⟩
theorem aar:aX P t22 Oo f147 FN:=fun d=>by kernel_rfl
theorem aas:aU P FN:=ba hm FM func147 aaq aar
def t23:ah:=t22.bp FN
theorem Ot:ai P t23:=FM.aP aas

def Ou(d:List G):Option (List G) :=
 (bif ((((gi d 0).str.size:Nat):Int)==6) then (ao (Oq [.s (gi d 0).str]) fun g1=>some [.t (gi g1 0).bool]) else some [.t false])
def FO:ax:=⟨110,[.s (.str)],[],[],[.s (.bool)],[],[],[],Ou⟩
theorem aat:aX P t23 au f110 FO:=fun d=>by kernel_rfl
theorem aau:aU P FO:=ba hm Ot func110 (aG _ _ _) aat
def t24:ah:=t23.bp FO
theorem FP:ai P t24:=Ot.aP aau

def Ov(d:List G):Option (Option Nat × List G) :=
 let g:=(gi d 1).rows.getD (((gi d 3).int).toNat) []; let z2:=((bD ((gi d 3).int-1))&&(aB ((gi d 3).int-1) (((gi d 0).rows.length:Nat):Int))); let z3:=(gi d 0).rows.getD (((gi d 3).int-1).toNat) []; let z4:=(gi d 3).int+1; let z5:=az ((gi d 3).int-1); let k:=iD [.s (gi z3 1).str,.s (gi g 1).str]; let q:=iD [.s (gi z3 0).str,.s (gi g 0).str]; (bif (aB (gi d 3).int (gi d 2).int) then (bif ((bD (gi d 3).int)&&(aB (gi d 3).int (((gi d 1).rows.length:Nat):Int))) then (ao (wZ [.s (gi g 0).str]) fun g1=>(bif (!(gi g1 0).bool) then some (some 0,[.i 3]) else (ao (mJ [.s (gi g 1).str]) fun g2=>(bif (!(gi g2 0).bool) then some (some 0,[.i 5]) else (ao (kI [.i (gi g 2).int,.i 0,.i 1000000000000]) fun g3=>(bif (gi g3 0).bool then some (some 0,[.i 1]) else (bif (!((gi g 3).str.toList==(⟨#[]⟩:ByteArray).toList)) then (ao (Ou [.s (gi g 3).str]) fun g4=>(bif (!(gi g4 0).bool) then some (some 0,[.i 3]) else (bif (aB 0 (gi d 3).int) then (bif z5 then (bif z2 then (ao k fun g5=>(bif z5 then (bif z2 then (ao q fun g6=>(ao (jR [.l [[.i (gi g5 0).int],[.i (gi g6 0).int]]]) fun g7=>(bif (bM 0 (gi g7 0).int) then some (some 0,[.i 7]) else (bif (az z4) then some (none,[.l (gi d 0).rows,.l (gi d 1).rows,.i (gi d 2).int,.i z4]) else none)))) else none) else none)) else none) else none) else (bif (az z4) then some (none,[.l (gi d 0).rows,.l (gi d 1).rows,.i (gi d 2).int,.i z4]) else none)))) else (bif (aB 0 (gi d 3).int) then (bif z5 then (bif z2 then (ao k fun g8=>(bif z5 then (bif z2 then (ao q fun g9=>(ao (jR [.l [[.i (gi g8 0).int],[.i (gi g9 0).int]]]) fun g10=>(bif (bM 0 (gi g10 0).int) then some (some 0,[.i 7]) else (bif (az z4) then some (none,[.l (gi d 0).rows,.l (gi d 1).rows,.i (gi d 2).int,.i z4]) else none)))) else none) else none)) else none) else none) else (bif (az z4) then some (none,[.l (gi d 0).rows,.l (gi d 1).rows,.i (gi d 2).int,.i z4]) else none))))))))) else none) else some (some 1,[]))
def Ow:bx:=⟨4,[],⟨66,[(0,.s (.list wT)),(8,.s (.list wT)),(9,.s (.int .i64)),(10,.s (.int .i64))],[]⟩,[],[⟨.ret,⟨66,[(2,.s (.int .i64))],[]⟩,[]⟩,⟨.exit 0,⟨66,[],[]⟩,[]⟩],Ov⟩
theorem aav:cX P t24 au 0 (c9 f68 4) Ow:=fun d=>by kernel_rfl
def Ox:LT:=au.add 0 Ow
theorem aaw:ay P 0 Ox (aN f68):=ay.a hm FP (aG _ _ _) aav
def Oy(d:List G):Option (List G) :=
 let g:=(((gi d 0).rows.length:Nat):Int); (bif (aB 500 g) then some [.i 2] else (aY true (cG Ov [.l (gi d 0).rows,.l (gi d 0).rows,.i g,.i 0]) fun k g11=>(bif ab k 0 then some [.i (gi g11 0).int] else some [.i 0])))
def FQ:ax:=⟨68,[.s (.list wT)],[],[],[.s (.int .i64)],[],[],[],Oy⟩
theorem aax:aX P t24 Ox f68 FQ:=fun d=>by kernel_rfl
theorem aay:aU P FQ:=ba hm FP func68 aaw aax
def t25:ah:=t24.bp FQ
theorem FR:ai P t25:=FP.aP aay

def nK(d:List G):Option (Option Nat × List G) :=
 let z2:=IntKind.u8.wrap ((gi d 0).int); let g:=(((⟨#[0,1,2,2,3,3,3,3,4,4,4,4,4,4,4,4,5,5,5,5,5,5,5,5,5,5,5,5,5,5,5,5,6,6,6,6,6,6,6,6,6,6,6,6,6,6,6,6,6,6,6,6,6,6,6,6,6,6,6,6,6,6,6,6,7,7,7,7,7,7,7,7,7,7,7,7,7,7,7,7,7,7,7,7,7,7,7,7,7,7,7,7,7,7,7,7,7,7,7,7,7,7,7,7,7,7,7,7,7,7,7,7,7,7,7,7,7,7,7,7,7,7,7,7,7,7,7,7,8,8,8,8,8,8,8,8,8,8,8,8,8,8,8,8,8,8,8,8,8,8,8,8,8,8,8,8,8,8,8,8,8,8,8,8,8,8,8,8,8,8,8,8,8,8,8,8,8,8,8,8,8,8,8,8,8,8,8,8,8,8,8,8,8,8,8,8,8,8,8,8,8,8,8,8,8,8,8,8,8,8,8,8,8,8,8,8,8,8,8,8,8,8,8,8,8,8,8,8,8,8,8,8,8,8,8,8,8,8,8,8,8,8,8,8,8,8,8,8,8,8,8,8,8,8,8,8]⟩:ByteArray).data.toList.getD (z2.toNat) 0).toNat:Int); (bif ((bD z2)&&(aB z2 256)) then (bif (az g) then (bif (az ((gi d 1).int+g)) then some (some 0,[.i ((gi d 1).int+g)]) else none) else none) else none)
def Oz:bx:=⟨10,[],⟨25,[(0,.s (.int .u64)),(2,.s (.int .i64))],[]⟩,[],[⟨.ret,⟨25,[(2,.s (.int .i64))],[]⟩,[]⟩],nK⟩
theorem aaz:gl P t25 au 0 (cutAt f163 10) Oz:=fun d=>by kernel_rfl
def OA:LT:=au.fI 0 Oz
theorem aaA:ay P 0 OA (aN f163):=ay.aC hm FR (aG _ _ _) aaz
def OB(d:List G):Option (List G) :=
 let g:=l8 .u64 (gi d 0).int 32; let z2:=l8 .u64 (gi d 0).int 16; let z3:=l8 .u64 g 16; (bif (bM 4294967296 (gi d 0).int) then (bif (bM 65536 g) then (bif (bM 256 z3) then (aY true (cY (nK [.i (l8 .u64 z3 8),.i 56])) fun k g1=>some [.i (gi g1 0).int]) else (aY true (cY (nK [.i z3,.i 48])) fun q g2=>some [.i (gi g2 0).int])) else (bif (bM 256 g) then (aY true (cY (nK [.i (l8 .u64 g 8),.i 40])) fun A g3=>some [.i (gi g3 0).int]) else (aY true (cY (nK [.i g,.i 32])) fun B g4=>some [.i (gi g4 0).int]))) else (bif (bM 65536 (gi d 0).int) then (bif (bM 256 z2) then (aY true (cY (nK [.i (l8 .u64 z2 8),.i 24])) fun F g5=>some [.i (gi g5 0).int]) else (aY true (cY (nK [.i z2,.i 16])) fun I g6=>some [.i (gi g6 0).int])) else (bif (bM 256 (gi d 0).int) then (aY true (cY (nK [.i (l8 .u64 (gi d 0).int 8),.i 8])) fun J g7=>some [.i (gi g7 0).int]) else (aY true (cY (nK [.i (gi d 0).int,.i 0])) fun M g8=>some [.i (gi g8 0).int]))))
def FT:ax:=⟨163,[.s (.int .u64)],[],[],[.s (.int .i64)],[],[],[],OB⟩
theorem aaB:aX P t25 OA f163 FT:=fun d=>by kernel_rfl
theorem aaC:aU P FT:=ba hm FR func163 aaA aaB
def t26:ah:=t25.bp FT
theorem OC:ai P t26:=FR.aP aaC

def OD(d:List G):Option (List G) :=
 (ao (OB [.i (gi d 0).int]) fun g1=>some [.i (gi g1 0).int])
def FU:ax:=⟨122,[.s (.int .u64)],[],[],[.s (.int .i64)],[],[],[],OD⟩
theorem aaD:aX P t26 au f122 FU:=fun d=>by kernel_rfl
theorem aaE:aU P FU:=ba hm OC func122 (aG _ _ _) aaD
def t27:ah:=t26.bp FU
theorem OE:ai P t27:=OC.aP aaE

def OF(d:List G):Option (List G) :=
 (ao (nJ [.i (gi (gi d 1).row 1).int,.i (gi (gi d 0).row 1).int]) fun g1=>(ao (iD [.s (gi (gi d 0).row 2).str,.s (gi (gi d 1).row 2).str]) fun g2=>(ao (jR [.l [[.i (gi g1 0).int],[.i (gi g2 0).int]]]) fun g3=>some [.i (gi g3 0).int])))
def FV:ax:=⟨112,[.s (.row dR),.s (.row dR)],[],[],[.s (.int .i64)],[],[],[],OF⟩
theorem aaF:aX P t27 au f112 FV:=fun d=>by kernel_rfl
theorem aaG:aU P FV:=ba hm OE func112 (aG _ _ _) aaF
def t28:ah:=t27.bp FV
theorem A8:ai P t28:=OE.aP aaG

def OG(d:List G):Option (Option Nat × List G) :=
 let z2:=(gi d 4).int-1; let g:=(gi d 0).rows.set (0+((gi d 4).int).toNat) (fh dR ((gi d 0).rows.getD (0+((gi d 4).int).toNat) []) 0 (bh dR ((gi d 0).rows.getD (0+z2.toNat) []))); let z3:=(((gi d 0).rows.length:Nat):Int); let z4:=g.set (0+z2.toNat) (fh dR (g.getD (0+z2.toNat) []) 0 (bh dR ((gi d 0).rows.getD (0+((gi d 4).int).toNat) []))); let z5:=decide ((0+((gi d 4).int).toNat)<(gi d 0).rows.length); let k:=(bD (gi d 4).int)&&(aB (gi d 4).int z3); let q:=(ab (gi d 0).rows.length (gi d 0).rows.length)&&true; let A:=decide ((0+z2.toNat)<(gi d 0).rows.length); let z9:=(bD z2)&&(aB z2 z3); (bif (aB (gi d 1).int (gi d 4).int) then (bif k then (bif z5 then (bif (az z2) then (bif z9 then (bif A then (ao (OF [.l [(bh dR ((gi d 0).rows.getD (0+((gi d 4).int).toNat) []))],.l [(bh dR ((gi d 0).rows.getD (0+z2.toNat) []))]]) fun g1=>(bif (aB (gi g1 0).int 0) then (bif (az z2) then (bif (az z2) then (bif z9 then (bif A then (bif k then (bif z5 then (bif k then (bif z5 then (bif z9 then (bif (decide ((0+z2.toNat)<g.length)) then (bif (az z2) then (bif ((ab (gi d 0).rows.length z4.length)&&true) then some (none,[.l z4,.i (gi d 1).int,.i (gi d 2).int,.i (gi d 3).int,.i z2]) else none) else none) else none) else none) else none) else none) else none) else none) else none) else none) else none) else none) else (bif q then some (some 0,[.l (gi d 0).rows,.i (gi d 1).int,.i (gi d 2).int,.i (gi d 3).int]) else none))) else none) else none) else none) else none) else none) else (bif q then some (some 0,[.l (gi d 0).rows,.i (gi d 1).int,.i (gi d 2).int,.i (gi d 3).int]) else none))
def OH:bx:=⟨4,[],⟨53,[(0,.s (.vec 0 3)),(1,.s (.int .i64)),(2,.s (.int .i64)),(3,.s (.fn 112)),(8,.s (.int .i64)),(9,.s (.int .i64))],[.vec dR 0]⟩,[.fix 0],[⟨.exit 2,⟨53,[(0,.s (.vec 0 3)),(1,.s (.int .i64)),(2,.s (.int .i64)),(3,.s (.fn 112)),(8,.s (.int .i64))],[.vec dR 0]⟩,[.fix 0]⟩],OG⟩
theorem aaH:cX P t28 au 1 (c9 f199 4) OH:=fun d=>by kernel_rfl
def FW:LT:=au.add 1 OH
theorem aaI:ay P 1 FW (aN f199):=ay.a hm A8 (aG _ _ _) aaH
def OI(d:List G):Option (Option Nat × List G) :=
 (bif (aB (gi d 3).int (gi d 2).int) then (aY ((ab (gi d 0).rows.length (gi d 0).rows.length)&&true) (cG OG [.l (gi d 0).rows,.i (gi d 1).int,.i (gi d 2).int,.i (gi d 3).int,.i (gi d 3).int]) fun g g2=>(bif (az ((gi g2 3).int+1)) then (bif ((ab (gi g2 0).rows.length (gi g2 0).rows.length)&&true) then some (none,[.l (gi g2 0).rows,.i (gi g2 1).int,.i (gi g2 2).int,.i ((gi g2 3).int+1)]) else none) else none)) else some (some 0,[.l (gi d 0).rows]))
def OJ:bx:=⟨1,[],⟨53,[(0,.s (.vec 0 3)),(1,.s (.int .i64)),(2,.s (.int .i64)),(3,.s (.fn 112)),(8,.s (.int .i64))],[.vec dR 0]⟩,[.fix 0],[⟨.exit 0,⟨53,[],[.vec dR 0]⟩,[.fix 0]⟩],OI⟩
theorem aaJ:cX P t28 FW 1 (c9 f199 1) OJ:=fun d=>by kernel_rfl
def OK:LT:=FW.add 1 OJ
theorem aaK:ay P 1 OK (aN f199):=ay.a hm A8 aaI aaJ
def OL(d:List G):Option (List G) :=
 (bif (az ((gi d 1).int+1)) then (aY ((ab (gi d 0).rows.length (gi d 0).rows.length)&&true) (cG OI [.l (gi d 0).rows,.i (gi d 1).int,.i (gi d 2).int,.i ((gi d 1).int+1)]) fun g g3=>some [.l (gi g3 0).rows]) else none)
def FX:ax:=⟨199,[.s (.vec 0 3),.s (.int .i64),.s (.int .i64),.s (.fn 112)],[.vec dR 0],[.slot 0],[],[.vec dR 0],[.fix 0],[],OL⟩
theorem aaL:aX P t28 OK f199 FX:=fun d=>by kernel_rfl
theorem aaM:aU P FX:=ba hm A8 func199 aaK aaL
def t29:ah:=t28.cJ FX
theorem FY:ai P t29:=A8.aW aaM

def OM(d:List G):Option (Option Nat × List G) :=
 let g:=OL [.l (gi d 0).rows,.i (gi d 1).int,.i (gi d 2).int]; let z2:=(gi d 2).int-(gi d 1).int; (bif (az z2) then (bif (bM z2 12) then (gI (((ab (gi d 0).rows.length (gi d 0).rows.length)&&true)&&g.isSome) g fun g1=>some (some 0,[.l (gi g1 0).rows])) else (bif ((gi d 3).int==0) then none else (bif (!(gi d 4).bool) then none else none))) else none)
def ON:bx:=⟨2,[],⟨148,[(0,.s (.vec 0 3)),(1,.s (.int .i64)),(2,.s (.int .i64)),(3,.s (.int .i64)),(4,.s (.fn 112)),(10,.s (.bool)),(11,.s (.bool))],[.vec dR 0]⟩,[.fix 0],[⟨.ret,⟨148,[],[.vec dR 0]⟩,[.fix 0]⟩],OM⟩
theorem aaN:cX P t29 au 1 (c9 f148 2) ON:=fun d=>by kernel_rfl
def OO:LT:=au.add 1 ON
theorem aaO:ay P 1 OO (aN f148):=ay.a hm FY (aG _ _ _) aaN
def OP(d:List G):Option (List G) :=
 (aY ((ab (gi d 0).rows.length (gi d 0).rows.length)&&true) (cG OM [.l (gi d 0).rows,.i (gi d 1).int,.i (gi d 2).int,.i (gi d 3).int,.t true,.t true]) fun g g2=>some [.l (gi g2 0).rows])
def FZ:ax:=⟨148,[.s (.vec 0 3),.s (.int .i64),.s (.int .i64),.s (.int .i64),.s (.fn 112)],[.vec dR 0],[.slot 0],[],[.vec dR 0],[.fix 0],[],OP⟩
theorem aaP:aX P t29 OO f148 FZ:=fun d=>by kernel_rfl
theorem aaQ:aU P FZ:=ba hm FY func148 aaO aaP
def t30:ah:=t29.cJ FZ
theorem OQ:ai P t30:=FY.aW aaQ

def OR(d:List G):Option (List G) :=
 let g:=(((gi d 0).rows.length:Nat):Int); (ao (OD [.i (IntKind.u64.wrap g)]) fun g1=>let z2:=OP [.l (gi d 0).rows,.i 0,.i g,.i (gi g1 0).int]; (gI (((ab (gi d 0).rows.length (gi d 0).rows.length)&&true)&&z2.isSome) z2 fun g2=>some [.l (gi g2 0).rows]))
def F0:ax:=⟨111,[.s (.vec 0 3),.s (.fn 112)],[.vec dR 0],[.slot 0],[],[.vec dR 0],[.fix 0],[],OR⟩
theorem aaR:aX P t30 au f111 F0:=fun d=>by kernel_rfl
theorem aaS:aU P F0:=ba hm OQ func111 (aG _ _ _) aaR
def t31:ah:=t30.cJ F0
theorem A9:ai P t31:=OQ.aW aaS

def F1(d:List G):Option (Option Nat × List G) :=
 let z2:=(gi d 1).int-1; let g:=(gi d 0).rows.set (0+((gi d 1).int).toNat) (fh dR ((gi d 0).rows.getD (0+((gi d 1).int).toNat) []) 0 [.i (gi ((gi d 0).rows.getD (0+z2.toNat) []) 0).int]); let z3:=(((gi d 0).rows.length:Nat):Int); (bif (gi d 4).bool then (bif (az z2) then (bif ((bD z2)&&(aB z2 z3)) then (bif (decide ((0+z2.toNat)<(gi d 0).rows.length)) then (bif ((bD (gi d 1).int)&&(aB (gi d 1).int z3)) then (bif (decide ((0+((gi d 1).int).toNat)<(gi d 0).rows.length)) then (bif ((ab (gi d 0).rows.length g.length)&&true) then some (some 0,[.l g,.i (gi d 2).int,.i (gi d 3).int]) else none) else none) else none) else none) else none) else none) else (bif ((ab (gi d 0).rows.length (gi d 0).rows.length)&&true) then some (some 0,[.l (gi d 0).rows,.i (gi d 2).int,.i (gi d 3).int]) else none))
def OS:bx:=⟨7,[],⟨45,[(0,.s (.vec 0 3)),(3,.s (.int .i64)),(7,.s (.int .i64)),(8,.s (.int .i64)),(32,.s (.bool))],[.vec dR 0]⟩,[.fix 0],[⟨.normal,⟨45,[(0,.s (.vec 0 3)),(7,.s (.int .i64)),(8,.s (.int .i64))],[.vec dR 0]⟩,[.fix 0]⟩],F1⟩
theorem aaT:gl P t31 au 1 (cutAt f69 7) OS:=fun d=>by kernel_rfl
def F2:LT:=au.fI 1 OS
theorem aaU:ay P 1 F2 (aN f69):=ay.aC hm A9 (aG _ _ _) aaT
def OT(d:List G):Option (Option Nat × List G) :=
 let z2:=((bD (gi d 2).int)&&(aB (gi d 2).int (((gi d 0).rows.length:Nat):Int))); let z3:=(gi d 2).int-1; let z5:=0+((gi d 2).int).toNat; let g:=(gi d 0).rows.set z5 (fh dR ((gi d 0).rows.getD z5 []) 0 [.i ((gi d 2).int+1)]); let z4:=(ab (gi d 0).rows.length g.length)&&true; (bif (aB (gi d 2).int (gi d 1).int) then (bif (az ((gi d 2).int+1)) then (bif z2 then (bif (decide (z5<(gi d 0).rows.length)) then (bif (aB 0 (gi d 2).int) then (bif z2 then (bif (decide (z5<g.length)) then (bif (az z3) then (bif ((bD z3)&&(aB z3 (((gi d 0).rows.length:Nat):Int))) then (bif (decide ((0+z3.toNat)<g.length)) then (aY z4 (cY (F1 [.l g,.i (gi d 2).int,.i (gi d 1).int,.i (gi d 2).int,.t ((gi (g.getD z5 []) 1).int==(gi (g.getD (0+z3.toNat) []) 1).int)])) fun k g2=>(bif (az ((gi g2 2).int+1)) then (bif ((ab (gi g2 0).rows.length (gi g2 0).rows.length)&&true) then some (none,[.l (gi g2 0).rows,.i (gi g2 1).int,.i ((gi g2 2).int+1)]) else none) else none)) else none) else none) else none) else none) else none) else (aY z4 (cY (F1 [.l g,.i (gi d 2).int,.i (gi d 1).int,.i (gi d 2).int,.t false])) fun q g3=>(bif (az ((gi g3 2).int+1)) then (bif ((ab (gi g3 0).rows.length (gi g3 0).rows.length)&&true) then some (none,[.l (gi g3 0).rows,.i (gi g3 1).int,.i ((gi g3 2).int+1)]) else none) else none))) else none) else none) else none) else (bif ((ab (gi d 0).rows.length (gi d 0).rows.length)&&true) then some (some 0,[.l (gi d 0).rows]) else none))
def OU:bx:=⟨3,[],⟨45,[(0,.s (.vec 0 3)),(7,.s (.int .i64)),(8,.s (.int .i64))],[.vec dR 0]⟩,[.fix 0],[⟨.exit 0,⟨45,[(0,.s (.vec 0 3))],[.vec dR 0]⟩,[.fix 0]⟩],OT⟩
theorem aaV:cX P t31 F2 1 (c9 f69 3) OU:=fun d=>by kernel_rfl
def OV:LT:=F2.add 1 OU
theorem aaW:ay P 1 OV (aN f69):=ay.a hm A9 aaU aaV
def OW(d:List G):Option (List G) :=
 let g:=OR [.l (gi d 0).rows]; (gI (((ab (gi d 0).rows.length (gi d 0).rows.length)&&true)&&g.isSome) g fun g1=>(aY ((ab (gi d 0).rows.length (gi g1 0).rows.length)&&true) (cG OT [.l (gi g1 0).rows,.i (((gi d 0).rows.length:Nat):Int),.i 0]) fun k g4=>(bif ((ab (gi g4 0).rows.length (gi g4 0).rows.length)&&true) then some [.l (gi g4 0).rows] else none)))
def F3:ax:=⟨69,[.s (.vec 0 3)],[.vec dR 0],[.slot 0],[.s (.vec 0 3)],[.vec dR 0],[.fix 0],[],OW⟩
theorem aaX:aX P t31 OV f69 F3:=fun d=>by kernel_rfl
theorem aaY:aU P F3:=ba hm A9 func69 aaW aaX
def t32:ah:=t31.cJ F3
theorem F4:ai P t32:=A9.aW aaY

def OX(d:List G):Option (Option Nat × List G) :=
 let g:=((gi d 0).rows++([[.i 0,.i (gi ((gi d 2).rows.getD (((gi d 4).int).toNat) []) 2).int,.s (gi ((gi d 2).rows.getD (((gi d 4).int).toNat) []) 0).str]]:List (List G))); let z2:=ab (gi d 0).rows.length (gi d 0).rows.length; let z3:=(gi d 4).int+1; (bif (aB (gi d 4).int (gi d 3).int) then (bif ((bD (gi d 4).int)&&(aB (gi d 4).int (((gi d 2).rows.length:Nat):Int))) then (bif ((gi ((gi d 2).rows.getD (((gi d 4).int).toNat) []) 1).str.toList==(gi d 1).str.toList) then (bif (z2&&(decide (((gi d 0).rows.length+1)≤1048576))) then (bif (az z3) then (bif ((ab g.length g.length)&&true) then some (none,[.l g,.s (gi d 1).str,.l (gi d 2).rows,.i (gi d 3).int,.i z3]) else none) else none) else none) else (bif (az z3) then (bif (z2&&true) then some (none,[.l (gi d 0).rows,.s (gi d 1).str,.l (gi d 2).rows,.i (gi d 3).int,.i z3]) else none) else none)) else none) else (bif (z2&&true) then some (some 0,[.l (gi d 0).rows]) else none))
def OY:bx:=⟨8,[(7,dR)],⟨39,[(1,.s (.str)),(7,.s (.vec 0 3)),(18,.s (.list wT)),(19,.s (.int .i64)),(20,.s (.int .i64))],[.vec dR 0]⟩,[.slot 7],[⟨.exit 0,⟨39,[(7,.s (.vec 0 3))],[.vec dR 0]⟩,[.slot 7]⟩],OX⟩
theorem aaZ:cX P t32 au 0 (c9 f28 8) OY:=fun d=>by kernel_rfl
def OZ:LT:=au.add 0 OY
theorem aa0:ay P 0 OZ (aN f28):=ay.a hm F4 (aG _ _ _) aaZ
def aa1(d:List G):Option (List G) :=
 (ao (Oy [.l (gi d 0).rows]) fun g1=>(bif ((gi g1 0).int != 0) then some [.l [],.i (gi g1 0).int] else (ao (mJ [.s (gi d 1).str]) fun g2=>(bif (!(gi g2 0).bool) then some [.l [],.i 5] else (aY true (cG OX [.l [],.s (gi d 1).str,.l (gi d 0).rows,.i (((gi d 0).rows.length:Nat):Int),.i 0]) fun k g3=>let g:=OW [.l (gi g3 0).rows]; (gI (((ab (gi g3 0).rows.length (gi g3 0).rows.length)&&true)&&g.isSome) g fun g4=>(bif ((ab (gi g4 0).rows.length (gi g4 0).rows.length)&&true) then some [.l (gi g4 0).rows,.i 0] else none)))))))
def F5:ax:=⟨28,[.s (.list wT),.s (.str)],[],[],[.s (.list dR),.s (.int .i64)],[],[],[],aa1⟩
theorem aa2:aX P t32 OZ f28 F5:=fun d=>by kernel_rfl
theorem aa3:aU P F5:=ba hm F4 func28 aa0 aa2
def t33:ah:=t32.bp F5
theorem F6:ai P t33:=F4.aP aa3

def tO(d:List G):Option (Option Nat × List G) :=
 let z3:=(((gi d 0).rows.length:Nat):Int); let z4:=decide ((0+((gi d 1).int).toNat)<(gi d 0).rows.length); let z5:=(bD (gi d 2).int)&&(aB (gi d 2).int z3); let q:=(bD (gi d 1).int)&&(aB (gi d 1).int z3); let g:=0+((gi d 2).int).toNat; let k:=(gi d 0).rows.set (0+((gi d 1).int).toNat) (fh [.int .i64] ((gi d 0).rows.getD (0+((gi d 1).int).toNat) []) 0 [.i (gi ((gi d 0).rows.getD g []) 0).int]); let z2:=k.set g (fh [.int .i64] (k.getD g []) 0 [.i (gi ((gi d 0).rows.getD (0+((gi d 1).int).toNat) []) 0).int]); (bif (aB (gi d 1).int (gi d 2).int) then (bif z5 then (bif (decide (g<(gi d 0).rows.length)) then (bif q then (bif z4 then (bif q then (bif z4 then (bif z5 then (bif (decide (g<k.length)) then (bif (az ((gi d 1).int+1)) then (bif (az ((gi d 2).int-1)) then (bif ((ab (gi d 0).rows.length z2.length)&&true) then some (none,[.l z2,.i ((gi d 1).int+1),.i ((gi d 2).int-1)]) else none) else none) else none) else none) else none) else none) else none) else none) else none) else none) else none) else some (some 0,[.l (gi d 0).rows]))
def O0:bx:=⟨1,[],⟨28,[(0,.s (.vec 0 1)),(2,.s (.int .i64)),(3,.s (.int .i64))],[.vec [.int .i64] 0]⟩,[.fix 0],[⟨.exit 0,⟨28,[],[.vec [.int .i64] 0]⟩,[.fix 0]⟩],tO⟩
theorem aa4:cX P t33 au 1 (c9 f120 1) O0:=fun d=>by kernel_rfl
def O1:LT:=au.add 1 O0
theorem aa5:ay P 1 O1 (aN f120):=ay.a hm F6 (aG _ _ _) aa4
def A_(d:List G):Option (List G) :=
 let g:=((((gi d 0).rows.length:Nat):Int)-1); (bif (az g) then (aY ((ab (gi d 0).rows.length (gi d 0).rows.length)&&true) (cG tO [.l (gi d 0).rows,.i 0,.i g]) fun k g1=>some [.l (gi g1 0).rows]) else none)
def F7:ax:=⟨120,[.s (.vec 0 1)],[.vec [.int .i64] 0],[.slot 0],[],[.vec [.int .i64] 0],[.fix 0],[],A_⟩
theorem aa6:aX P t33 O1 f120 F7:=fun d=>by kernel_rfl
theorem aa7:aU P F7:=ba hm F6 func120 aa5 aa6
def t34:ah:=t33.cJ F7
theorem F8:ai P t34:=F6.aW aa7

def A'(r d:List G):Option (List G) :=
 let g:=(gi (ch [.int .i64] (gi d 6).rows [.i (gi (gi r 0).row 1).int] [.i 0]) 0).int+1; (bif (az g) then (bif ((((ab (gi d 3).rows.length (gi d 3).rows.length)&&true)&&true)&&true) then some [.l (gi d 0).rows,.l (gi d 1).rows,.l (gi d 2).rows,.l (gi d 3).rows,.l (gi d 4).rows,.i (((gi d 5).int.toNat:Nat):Int),.l (cu [.int .i64] (gi d 6).rows [.i (gi (gi r 0).row 1).int] [.i g] (gi d 7).int.toNat),.i (((dF [.int .i64] (gi d 6).rows [.i (gi (gi r 0).row 1).int] (gi d 7).int.toNat):Nat):Int),.i (((gi d 8).int.toNat:Nat):Int)] else none) else none)
def O2(d:List G)(b:Nat):List G:=[.l (gi d 0).rows,.l (gi d 1).rows,.l (gi d 2).rows,.l (gi d 3).rows,.l (gi d 4).rows,.i (((gi d 5).int.toNat:Nat):Int),.l (gi d 6).rows,.i (((gi d 7).int.toNat:Nat):Int),.i (b:Int)]
def aa8(d:List G)(b:Nat):Bool:=((((ab (gi d 3).rows.length (gi d 3).rows.length)&&true)&&true)&&true)
def lL:eB:=⟨⟨21,[(3,.s (.map 3)),(10,.s (.addr))],[.box [.vec 1 15,.list aQ,.list [.str],.list [.int .i64],.map 2],.vec aq 0,.map (.agg [.str,.int .i64]) (.one (.bool)),.map (.one (.int .i64)) (.one (.int .i64))]⟩,[.fix 0,.cell 0 0,.cell 0 4,.slot 3],[],(.agg [.str,.int .i64]),(.one (.bool)),2,0,9,10,11,12,13,fun d=>(gi d 8).int.toNat,O2,aa8,A'⟩
theorem aa9:lE P t34 au 3 lL (pA (cutAt f44 2)) (qU (cutAt f44 2)):=fun r d=>by kernel_rfl
def tP(d:List G):Option (Option Nat × List G) :=
 (bif ((((ab (gi d 3).rows.length (gi d 3).rows.length)&&true)&&true)&&true) then some (some 0,[.l (gi d 0).rows,.l (gi d 1).rows,.l (gi d 2).rows,.l (gi d 3).rows,.l (gi d 4).rows,.i (((gi d 5).int.toNat:Nat):Int),.l (gi d 6).rows,.i (((gi d 7).int.toNat:Nat):Int)]) else none)
def O3:bx:=⟨6,[],⟨21,[(3,.s (.map 3)),(10,.s (.addr))],[.box [.vec 1 15,.list aQ,.list [.str],.list [.int .i64],.map 2],.vec aq 0,.map (.agg [.str,.int .i64]) (.one (.bool)),.map (.one (.int .i64)) (.one (.int .i64))]⟩,[],[⟨.ret,⟨21,[(2,.s (.map 3))],[.box [.vec 1 15,.list aQ,.list [.str],.list [.int .i64],.map 2],.vec aq 0,.map (.agg [.str,.int .i64]) (.one (.bool)),.map (.one (.int .i64)) (.one (.int .i64))]⟩,[.fix 0,.cell 0 0,.cell 0 4,.slot 2]⟩],tP⟩
theorem aa_:gl P t34 au 3 (nC (cutAt f44 2)) O3:=fun d=>by kernel_rfl
def O4(d:List G):Option (Option Nat × List G) :=
 kF lL tP (gi d 4).rows ((gi d 5).int.toNat) d
def F9:bx:=⟨2,[],⟨21,[(0,.s (.ptr 0 0)),(3,.s (.map 3))],[.box [.vec 1 15,.list aQ,.list [.str],.list [.int .i64],.map 2],.vec aq 0,.map (.agg [.str,.int .i64]) (.one (.bool)),.map (.one (.int .i64)) (.one (.int .i64))]⟩,[.fix 0,.cell 0 0,.cell 0 4,.slot 3],[⟨.ret,⟨21,[(2,.s (.map 3))],[.box [.vec 1 15,.list aQ,.list [.str],.list [.int .i64],.map 2],.vec aq 0,.map (.agg [.str,.int .i64]) (.one (.bool)),.map (.one (.int .i64)) (.one (.int .i64))]⟩,[.fix 0,.cell 0 0,.cell 0 4,.slot 2]⟩],O4⟩
def O5:LT:=au.fI 3 F9
theorem aa':∀ r d d',A' r d=some d'→(gi d' 4).rows=(gi d 4).rows∧(gi d' 5).int.toNat=(gi d 5).int.toNat:=by
 intro r d d' h;unfold A' at h;simp only[Bool.cond_eq_ite]at h
 repeat' split at h
 all_goals first|(cases h; done)|(cases h; exact⟨rfl,rfl⟩)
theorem aba:ay P 3 O5 (aN f44):=ay.E9 (q:=F9) (qr:=O3) (sp:=lL) (r0:=2) (b0:=0) (r1:=3) (b1:=1) (r2:=4) (rows:=fun d=>(gi d 4).rows) (clock:=fun d=>(gi d 5).int.toNat) (pre:=fun d=>Aw P t34 (nD (cutAt f44 2)) (aM F9.inv d)) (ri:=fun d=>(gi d 4).rows) (ci:=fun d=>(gi d 5).int.toNat) hm F8 (fun d=>by kernel_rfl) aa' (by kernel_rfl) (by kernel_rfl) (aG _ _ _) (by kernel_rfl) (by kernel_rfl) aa9 (fun d=>by kernel_rfl) (fun d=>by kernel_rfl) (fun d=>by kernel_rfl) (fun d=>by kernel_rfl) (fun d=>by kernel_rfl) (fun d=>by kernel_rfl) (fun d b=>by kernel_rfl) (fun d b=>rfl) (fun d b=>⟨rfl,rfl⟩) rfl rfl aa_ (fun d=>rfl)
def O6(d:List G):Option (List G) :=
 (aY ((((ab (gi d 3).rows.length (gi d 3).rows.length)&&true)&&true)&&true) (cY (O4 [.l (gi d 0).rows,.l (gi d 1).rows,.l (gi d 2).rows,.l (gi d 3).rows,.l (gi d 4).rows,.i (((gi d 5).int.toNat:Nat):Int),.l [],.i 0])) fun g g1=>(bif ((((ab (gi g1 3).rows.length (gi g1 3).rows.length)&&true)&&true)&&true) then some [.l (gi g1 0).rows,.l (gi g1 1).rows,.l (gi g1 2).rows,.l (gi g1 3).rows,.l (gi g1 4).rows,.i (((gi g1 5).int.toNat:Nat):Int),.l (gi g1 6).rows,.i (((gi g1 7).int.toNat:Nat):Int)] else none))
def Ba:ax:=⟨44,[.s (.ptr 0 0)],[.box [.vec 1 15,.list aQ,.list [.str],.list [.int .i64],.map 2],.vec aq 0,.map (.agg [.str,.int .i64]) (.one (.bool))],[.slot 0,.cell 0 0,.cell 0 4],[.s (.map 3)],[.box [.vec 1 15,.list aQ,.list [.str],.list [.int .i64],.map 2],.vec aq 0,.map (.agg [.str,.int .i64]) (.one (.bool)),.map (.one (.int .i64)) (.one (.int .i64))],[.fix 0,.fix 1,.fix 2,.slot 0],[],O6⟩
theorem abb:aX P t34 O5 f44 Ba:=fun d=>by kernel_rfl
theorem O7:aU P Ba:=ba hm F8 func44 aba abb
def t35:ah:=t34.cJ Ba
theorem O8:ai P t35:=F8.aW O7

theorem abc:pB P ⟨153,26,49,15,15,true⟩:=Ma func153 (by kernel_rfl) rfl rfl rfl ⟨⟨_,_,_,_,_,_,rfl,⟨rfl,rfl,rfl⟩,⟨rfl,rfl,rfl⟩,⟨rfl,rfl,rfl⟩,⟨rfl,rfl,rfl⟩⟩,⟨_,_,_,_,rfl,⟨rfl,rfl,rfl⟩,⟨rfl,rfl,rfl⟩⟩,⟨_,_,_,_,_,rfl,⟨rfl,rfl,rfl⟩,⟨rfl,rfl,rfl⟩,⟨rfl,rfl,rfl⟩⟩,⟨_,_,_,_,_,_,_,_,_,_,rfl,⟨rfl,rfl,rfl⟩,⟨rfl,rfl,rfl⟩,⟨rfl,rfl,rfl⟩,⟨rfl,rfl,rfl⟩,⟨rfl,rfl,rfl⟩,⟨rfl,rfl,rfl⟩,⟨rfl,rfl,rfl⟩,⟨rfl,rfl,rfl⟩⟩⟩ (by kernel_rfl)
def abd(d:List G):Option (Option Nat × List G) :=
 E_ lL tP (gi d 4).rows ((gi d 5).int.toNat) d
theorem abe(d x:List G)(b:Nat):(cQ lL.st lL.br [x] (lL.init d b)).bind tP=(cQ lL.st lL.br [x] (lL.init d 0)).bind tP:=by
 simp only[W_,lL];unfold A' O2 tP;dsimp +instances only[Mg,Mh];simp only[Xa,Option.bind_some,Option.bind_none];dsimp +instances only[Mg,Mh];simp only[W7,Int.toNat_natCast,W8,cond_true]
def O9(d:List G):Option (List G) :=
 (aY ((((ab (gi d 3).rows.length (gi d 3).rows.length)&&true)&&true)&&true) (cY (abd [.l (gi d 0).rows,.l (gi d 1).rows,.l (gi d 2).rows,.l (gi d 3).rows,.l (gi d 4).rows,.i (((gi d 5).int.toNat:Nat):Int),.l [],.i 0])) fun g g1=>(bif ((((ab (gi g1 3).rows.length (gi g1 3).rows.length)&&true)&&true)&&true) then some [.l (gi g1 0).rows,.l (gi g1 1).rows,.l (gi g1 2).rows,.l (gi g1 3).rows,.l (gi g1 4).rows,.i (((gi g1 5).int.toNat:Nat):Int),.l (gi g1 6).rows,.i (((gi g1 7).int.toNat:Nat):Int)] else none))
theorem abf{d r:List G}(h:O9 d=some r):O6 d=some r :=
 Xb (fun v g=>W9 (fun b=>rfl) (abe _) g) h
def abg:ax:={ Ba with F:=O9 }
def O_:ah:=t35.cJ abg
theorem abh:ai P O_:=O8.aW fun d r h=>O7 d r (abf h)
def O':ah:=O_.inline P 151 f151 []
theorem abi:ai P O':=abh.inline hm func151 (by kernel_rfl) []
def Pa:ah:=O'.inline P 152 f152 []
theorem abj:ai P Pa:=abi.inline hm func152 (by kernel_rfl) []
def Pb:ah:=Pa.inline P 117 f117 []
theorem abk:ai P Pb:=abj.inline hm func117 (by kernel_rfl) []
def Pc:ah:=Pb.inline P 78 f78 []
theorem abl:ai P Pc:=abk.inline hm func78 (by kernel_rfl) []
def Pd:ah:=Pc.inline P 41 f41 []
theorem abm:ai P Pd:=abl.inline hm func41 (by kernel_rfl) []
def Pe:ah:=Pd.cy P 119 f119
theorem abn:ai P Pe:=abm.cy hm func119 (by kernel_rfl) (by kernel_rfl)
def Pf:ah:=Pe.AD P ⟨153,26,49,15,15,true⟩ 3 79 f79 [some [.int .i64]]
theorem abo:ai P Pf:=abn.AD hm abc func79 (by kernel_rfl) (by kernel_rfl) [some [.int .i64]]
def Pg:ah:=Pf.cy P 154 f154
theorem abp:ai P Pg:=abo.cy hm func154 (by kernel_rfl) (by kernel_rfl)
def Ph:ah:=Pg.cy P 121 f121
theorem abq:ai P Ph:=abp.cy hm func121 (by kernel_rfl) (by kernel_rfl)
def Pj:ah:=Ph.cy P 81 f81
theorem abr:ai P Pj:=abq.cy hm func81 (by kernel_rfl) (by kernel_rfl)
def Pk:ah:=Pj.inline P 80 f80 []
theorem abt:ai P Pk:=abr.inline hm func80 (by kernel_rfl) []
def Pl:ah:=Pk.cy P 42 f42
theorem abu:ai P Pl:=abt.cy hm func42 (by kernel_rfl) (by kernel_rfl)
def Pm:ah:=Pl.cy P 20 f20
theorem abv:ai P Pm:=abu.cy hm func20 (by kernel_rfl) (by kernel_rfl)
def Pn:ah:=Pm.cy P 43 f43
theorem abw:ai P Pn:=abv.cy hm func43 (by kernel_rfl) (by kernel_rfl)
def Po:ah:=Pn.cy P 21 f21
theorem abx:ai P Po:=abw.cy hm func21 (by kernel_rfl) (by kernel_rfl)
def Pp:ah:=Po.inline P 6 f6 []
theorem aby:ai P Pp:=abx.inline hm func6 (by kernel_rfl) []
def Pq:ah:=Pp.inline P 101 f101 []
theorem abz:ai P Pq:=aby.inline hm func101 (by kernel_rfl) []
def Pr:ah:=Pq.inline P 107 f107 []
theorem abA:ai P Pr:=abz.inline hm func107 (by kernel_rfl) []
def Pt:ah:=Pr.inline P 100 f100 []
theorem abB:ai P Pt:=abA.inline hm func100 (by kernel_rfl) []
def Pu:ah:=Pt.inline P 59 f59 []
theorem abC:ai P Pu:=abB.inline hm func59 (by kernel_rfl) []
def Pv:ah:=Pu.inline P 64 f64 []
theorem abD:ai P Pv:=abC.inline hm func64 (by kernel_rfl) []
def Pw:ah:=Pv.inline P 144 f144 []
theorem abE:ai P Pw:=abD.inline hm func144 (by kernel_rfl) []
def Px:ah:=Pw.inline P 106 f106 []
theorem abF:ai P Px:=abE.inline hm func106 (by kernel_rfl) []
def Py:ah:=Px.cy P 244 f244
theorem abG:ai P Py:=abF.cy hm func244 (by kernel_rfl) (by kernel_rfl)
def Pz:ah:=Py.cy P 198 f198
theorem abH:ai P Pz:=abG.cy hm func198 (by kernel_rfl) (by kernel_rfl)
def PA:ah:=Pz.cy P 145 f145
theorem abI:ai P PA:=abH.cy hm func145 (by kernel_rfl) (by kernel_rfl)
def PB:ah:=PA.cy P 108 f108
theorem abJ:ai P PB:=abI.cy hm func108 (by kernel_rfl) (by kernel_rfl)
def PC:ah:=PB.cy P 66 f66
theorem abK:ai P PC:=abJ.cy hm func66 (by kernel_rfl) (by kernel_rfl)
def PD:ah:=PC.cy P 67 f67
theorem abL:ai P PD:=abK.cy hm func67 (by kernel_rfl) (by kernel_rfl)
def PE:ah:=PD.cy P 105 f105
theorem abM:ai P PE:=abL.cy hm func105 (by kernel_rfl) (by kernel_rfl)
def PF:ah:=PE.cy P 65 f65
theorem abN:ai P PF:=abM.cy hm func65 (by kernel_rfl) (by kernel_rfl)
def PG:ah:=PF.inline P 27 f27 []
theorem abO:ai P PG:=abN.inline hm func27 (by kernel_rfl) []
def abP:ah:=PG.inline P 9 f9 []
theorem abQ:ai P abP:=abO.inline hm func9 (by kernel_rfl) []
theorem abR:cV P 16 [] (.lit (.bool true)):=dV (L:=au) hm abQ [] (fun _ _=>aG _ _ _) func16 rfl (by kernel_rfl) (by kernel_rfl)
def Bb(_:List G):Option (List G):=some [.t true]
def w6:ax:=⟨16,[],[],[],[.s (.bool)],[],[],[],Bb⟩
theorem abS:∀ d r,Bb d=some r→cg P 16 (w6.args0 d) (aj (w6.H0 d)) (w6.out r) (aj (w6.H1 r)):=fun d r h=>by
 cases (show some [G.t true]=some r from h);exact abR []
def t36:ah:=t35.bp w6
theorem PH:ai P t36:=O8.aP abS


def tQ(d:List G):Option (List G) :=
 let g:=yr (gi d 0).int (gi d 1).int; (bif (aB (gi d 1).int 1) then some [.i 0] else (bif (!((gi d 1).int==0)) then (bif (aB g 0) then (bif (az (g+(gi d 1).int)) then some [.i (g+(gi d 1).int)] else none) else some [.i g]) else none))
def F_:ax:=⟨40,[.s (.int .i64),.s (.int .i64)],[],[],[.s (.int .i64)],[],[],[],tQ⟩
theorem abT:aX P t36 au f40 F_:=fun d=>by kernel_rfl
theorem abU:aU P F_:=ba hm PH func40 (aG _ _ _) abT
def t37:ah:=t36.bp F_
theorem PI:ai P t37:=PH.aP abU

def nL(d:List G):Option (List G) :=
 let g:=(((gi d 0).rows.length:Nat):Int); let z2:=(gi d 1).int+1; let z3:=yr (z2-1) g; let z4:=(yq (z2-1) g)*(7919+z3); (bif (az z2) then (bif (g==0) then (bif (az (z2*7919)) then (ao (tQ [.i (z2*7919),.i (gi d 2).int]) fun g1=>some [.l (gi d 0).rows,.i z2,.i (gi g1 0).int]) else none) else (bif (az (z2-1)) then (bif (!(g==0)) then (bif (az (z2-1)) then (bif ((!(g==0))&&(az (yq (z2-1) g))) then (bif ((bD z3)&&(aB z3 g)) then (ao (tQ [.i (gi ((gi d 0).rows.getD (z3.toNat) []) 0).int,.i 1073741824]) fun g2=>(bif (az (7919+z3)) then (bif (az z4) then (bif (az ((gi g2 0).int+z4)) then (ao (tQ [.i ((gi g2 0).int+z4),.i (gi d 2).int]) fun g3=>some [.l (gi d 0).rows,.i z2,.i (gi g3 0).int]) else none) else none) else none)) else none) else none) else none) else none) else none)) else none)
def F':ax:=⟨19,[.s (.ptr 0 0),.s (.int .i64)],[.box [.list [.int .i64],.int .i64]],[.slot 0],[.s (.int .i64)],[.box [.list [.int .i64],.int .i64]],[.fix 0],[],nL⟩
theorem abV:aX P t37 au f19 F':=fun d=>by kernel_rfl
theorem abW:aU P F':=ba hm PI func19 (aG _ _ _) abV
def t38:ah:=t37.cJ F'
theorem PJ:ai P t38:=PI.aW abW

def pJ(d:List G):Option (List G) :=
 let g:=(gi d 3).int-(gi d 2).int; (bif (aB (gi d 3).int (gi d 2).int) then some [.l (gi d 0).rows,.i (gi d 1).int,.i (gi d 2).int] else (bif (az g) then (bif (az (g+1)) then (ao (nL [.l (gi d 0).rows,.i (gi d 1).int,.i (g+1)]) fun g1=>let z2:=(gi d 2).int+(gi g1 2).int; (bif (az z2) then some [.l (gi g1 0).rows,.i (gi g1 1).int,.i z2] else none)) else none) else none))
def Ga:ax:=⟨5,[.s (.ptr 0 0),.s (.int .i64),.s (.int .i64)],[.box [.list [.int .i64],.int .i64]],[.slot 0],[.s (.int .i64)],[.box [.list [.int .i64],.int .i64]],[.fix 0],[],pJ⟩
theorem abX:aX P t38 au f5 Ga:=fun d=>by kernel_rfl
theorem abY:aU P Ga:=ba hm PJ func5 (aG _ _ _) abX
def t39:ah:=t38.cJ Ga
theorem PK:ai P t39:=PJ.aW abY

def mL(d:List G):Option (List G) :=
 let g:=(((gi d 2).rows.length:Nat):Int); (ao (nL [.l (gi d 0).rows,.i (gi d 1).int,.i g]) fun g1=>(bif ((bD (gi g1 2).int)&&(aB (gi g1 2).int g)) then some [.l (gi g1 0).rows,.i (gi g1 1).int,.i (gi ((gi d 2).rows.getD (((gi g1 2).int).toNat) []) 0).int] else none))
def Gb:ax:=⟨29,[.s (.ptr 0 0),.s (.list [.int .i64])],[.box [.list [.int .i64],.int .i64]],[.slot 0],[.s (.int .i64)],[.box [.list [.int .i64],.int .i64]],[.fix 0],[],mL⟩
theorem abZ:aX P t39 au f29 Gb:=fun d=>by kernel_rfl
theorem ab0:aU P Gb:=ba hm PK func29 (aG _ _ _) abZ
def t40:ah:=t39.cJ Gb
theorem PL:ai P t40:=PK.aW ab0

def gL(d:List G):Option (List G) :=
 let g:=(((gi d 2).rows.length:Nat):Int); (ao (nL [.l (gi d 0).rows,.i (gi d 1).int,.i g]) fun g1=>(bif ((bD (gi g1 2).int)&&(aB (gi g1 2).int g)) then some [.l (gi g1 0).rows,.i (gi g1 1).int,.s (gi ((gi d 2).rows.getD (((gi g1 2).int).toNat) []) 0).str] else none))
def Gc:ax:=⟨30,[.s (.ptr 0 0),.s (.list [.str])],[.box [.list [.int .i64],.int .i64]],[.slot 0],[.s (.str)],[.box [.list [.int .i64],.int .i64]],[.fix 0],[],gL⟩
theorem ab1:aX P t40 au f30 Gc:=fun d=>by kernel_rfl
theorem ab2:aU P Gc:=ba hm PL func30 (aG _ _ _) ab1
def t41:ah:=t40.cJ Gc
theorem PM:ai P t41:=PL.aW ab2

def rq(d:List G):Option (List G) :=
 (ao (nL [.l (gi d 0).rows,.i (gi d 1).int,.i (gi d 2).int]) fun g1=>some [.l (gi g1 0).rows,.i (gi g1 1).int,.t ((gi g1 2).int==0)])
def Gd:ax:=⟨32,[.s (.ptr 0 0),.s (.int .i64)],[.box [.list [.int .i64],.int .i64]],[.slot 0],[.s (.bool)],[.box [.list [.int .i64],.int .i64]],[.fix 0],[],rq⟩
theorem ab3:aX P t41 au f32 Gd:=fun d=>by kernel_rfl
theorem ab4:aU P Gd:=ba hm PM func32 (aG _ _ _) ab3
def t42:ah:=t41.cJ Gd
theorem PN:ai P t42:=PM.aW ab4

def Bc(d:List G):Option (List G) :=
 (ao (rq [.l (gi d 0).rows,.i (gi d 1).int,.i 60]) fun g1=>(bif (gi g1 2).bool then (ao (gL [.l (gi g1 0).rows,.i (gi g1 1).int,.l [[.s (⟨#[]⟩:ByteArray)],[.s (⟨#[107,49]⟩:ByteArray)],[.s (⟨#[75,49,65,66]⟩:ByteArray)],[.s (⟨#[107,49,97,98,47]⟩:ByteArray)],[.s (⟨#[49,97]⟩:ByteArray)],[.s (⟨#[107,49,97,98,47,109,109,47,112]⟩:ByteArray)]]]) fun g2=>some [.l (gi g2 0).rows,.i (gi g2 1).int,.s (gi g2 2).str]) else (ao (gL [.l (gi g1 0).rows,.i (gi g1 1).int,.l [[.s (⟨#[107,49,97,98]⟩:ByteArray)],[.s (⟨#[107,49,97,97]⟩:ByteArray)],[.s (⟨#[107,49,97,98,47,52]⟩:ByteArray)],[.s (⟨#[111,104,50,97,98,99]⟩:ByteArray)],[.s (⟨#[111,104,50,97,98,100]⟩:ByteArray)],[.s (⟨#[119,49,97,119]⟩:ByteArray)],[.s (⟨#[110,49,109,109]⟩:ByteArray)],[.s (⟨#[103,51,120,121,122,47,112]⟩:ByteArray)]]]) fun g3=>some [.l (gi g3 0).rows,.i (gi g3 1).int,.s (gi g3 2).str])))
def Ge:ax:=⟨70,[.s (.ptr 0 0)],[.box [.list [.int .i64],.int .i64]],[.slot 0],[.s (.str)],[.box [.list [.int .i64],.int .i64]],[.fix 0],[],Bc⟩
theorem ab5:aX P t42 au f70 Ge:=fun d=>by kernel_rfl
theorem ab6:aU P Ge:=ba hm PN func70 (aG _ _ _) ab5
def t43:ah:=t42.cJ Ge
theorem PO:ai P t43:=PN.aW ab6

def lM(d:List G):Option (List G) :=
 (ao (rq [.l (gi d 0).rows,.i (gi d 1).int,.i 12]) fun g1=>(bif (gi g1 2).bool then (bif (az ((gi d 2).int-1)) then (bif (az ((gi d 3).int+1)) then (ao (mL [.l (gi g1 0).rows,.i (gi g1 1).int,.l [[.i ((gi d 2).int-1)],[.i ((gi d 3).int+1)],[.i (gi d 2).int],[.i (gi d 3).int],[.i (-1099511627776)],[.i 1099511627776]]]) fun g2=>some [.l (gi g2 0).rows,.i (gi g2 1).int,.i (gi g2 2).int]) else none) else none) else (ao (pJ [.l (gi g1 0).rows,.i (gi g1 1).int,.i (gi d 2).int,.i (gi d 3).int]) fun g3=>some [.l (gi g3 0).rows,.i (gi g3 1).int,.i (gi g3 2).int])))
def Gf:ax:=⟨33,[.s (.ptr 0 0),.s (.int .i64),.s (.int .i64)],[.box [.list [.int .i64],.int .i64]],[.slot 0],[.s (.int .i64)],[.box [.list [.int .i64],.int .i64]],[.fix 0],[],lM⟩
theorem ab7:aX P t43 au f33 Gf:=fun d=>by kernel_rfl
theorem ab8:aU P Gf:=ba hm PO func33 (aG _ _ _) ab7
def t44:ah:=t43.cJ Gf
theorem PQ:ai P t44:=PO.aW ab8

def Bd(d:List G):Option (List G) :=
 let g:=(⟨#[]⟩:ByteArray); let z2:=(⟨#[98,50,48]⟩:ByteArray); let z3:=(⟨#[117,115,97]⟩:ByteArray); (ao (mL [.l (gi d 0).rows,.i (gi d 1).int,.l [[.i 1],[.i 1],[.i 2],[.i 3]]]) fun g1=>(ao (gL [.l (gi g1 0).rows,.i (gi g1 1).int,.l [[.s z2],[.s z2],[.s (⟨#[98,52,48]⟩:ByteArray)]]]) fun g2=>(ao (Bc [.l (gi g2 0).rows,.i (gi g2 1).int]) fun g3=>(ao (mL [.l (gi g3 0).rows,.i (gi g3 1).int,.l [[.i 0],[.i 1],[.i 2],[.i 3],[.i 4],[.i 5],[.i 6],[.i 7]]]) fun g4=>(ao (mL [.l (gi g4 0).rows,.i (gi g4 1).int,.l [[.i 0],[.i 1],[.i 2],[.i 9]]]) fun g5=>(ao (gL [.l (gi g5 0).rows,.i (gi g5 1).int,.l [[.s g],[.s g],[.s (⟨#[102,105,110]⟩:ByteArray)]]]) fun g6=>(ao (gL [.l (gi g6 0).rows,.i (gi g6 1).int,.l [[.s g],[.s g],[.s z3]]]) fun g7=>(ao (rq [.l (gi g7 0).rows,.i (gi g7 1).int,.i 100]) fun g8=>(bif (gi g8 2).bool then (ao (nL [.l (gi g8 0).rows,.i (gi g8 1).int,.i 4]) fun g9=>(bif ((gi g9 2).int==0) then (ao (lM [.l (gi g9 0).rows,.i (gi g9 1).int,.i 0,.i 500]) fun g10=>(ao (lM [.l (gi g10 0).rows,.i (gi g10 1).int,.i 1,.i 3]) fun g11=>some [.l (gi g11 0).rows,.i (gi g11 1).int,.l [[.i (gi g10 2).int,.i (gi g11 2).int,.s (gi g2 2).str,.s (gi g3 2).str,.i (gi g4 2).int,.i (gi g5 2).int,.s (gi g6 2).str,.s (gi g7 2).str]]])) else (bif ((gi g9 2).int==1) then (ao (gL [.l (gi g9 0).rows,.i (gi g9 1).int,.l [[.s g],[.s (⟨#[66]⟩:ByteArray)],[.s z2]]]) fun g12=>some [.l (gi g12 0).rows,.i (gi g12 1).int,.l [[.i (gi d 2).int,.i (gi g1 2).int,.s (gi g12 2).str,.s (gi g3 2).str,.i (gi g4 2).int,.i (gi g5 2).int,.s (gi g6 2).str,.s (gi g7 2).str]]]) else (bif ((gi g9 2).int==2) then (ao (lM [.l (gi g9 0).rows,.i (gi g9 1).int,.i 0,.i 99999]) fun g13=>(ao (lM [.l (gi g13 0).rows,.i (gi g13 1).int,.i 0,.i 99999]) fun g14=>some [.l (gi g14 0).rows,.i (gi g14 1).int,.l [[.i (gi d 2).int,.i (gi g1 2).int,.s (gi g2 2).str,.s (gi g3 2).str,.i (gi g13 2).int,.i (gi g14 2).int,.s (gi g6 2).str,.s (gi g7 2).str]]])) else (ao (gL [.l (gi g9 0).rows,.i (gi g9 1).int,.l [[.s g],[.s (⟨#[65]⟩:ByteArray)]]]) fun g15=>(ao (gL [.l (gi g15 0).rows,.i (gi g15 1).int,.l [[.s (⟨#[49]⟩:ByteArray)],[.s z3]]]) fun g16=>some [.l (gi g16 0).rows,.i (gi g16 1).int,.l [[.i (gi d 2).int,.i (gi g1 2).int,.s (gi g2 2).str,.s (gi g3 2).str,.i (gi g4 2).int,.i (gi g5 2).int,.s (gi g15 2).str,.s (gi g16 2).str]]])))))) else some [.l (gi g8 0).rows,.i (gi g8 1).int,.l [[.i (gi d 2).int,.i (gi g1 2).int,.s (gi g2 2).str,.s (gi g3 2).str,.i (gi g4 2).int,.i (gi g5 2).int,.s (gi g6 2).str,.s (gi g7 2).str]]])))))))))
def Gg:ax:=⟨31,[.s (.ptr 0 0),.s (.int .i64)],[.box [.list [.int .i64],.int .i64]],[.slot 0],[.s (.row aQ)],[.box [.list [.int .i64],.int .i64]],[.fix 0],[],Bd⟩
theorem ab9:aX P t44 au f31 Gg:=fun d=>by kernel_rfl
theorem ab_:aU P Gg:=ba hm PQ func31 (aG _ _ _) ab9
def t45:ah:=t44.cJ Gg
theorem PR:ai P t45:=PQ.aW ab_

def w7(d:List G):Option (List G) :=
 (bif (aB (gi d 0).int 0) then some [.i (-1)] else (bif (aB 0 (gi d 0).int) then some [.i 1] else some [.i 0]))
def Gh:ax:=⟨72,[.s (.int .i64)],[],[],[.s (.int .i64)],[],[],[],w7⟩
theorem ab':aX P t45 au f72 Gh:=fun d=>by kernel_rfl
theorem aca:aU P Gh:=ba hm PR func72 (aG _ _ _) ab'
def t46:ah:=t45.bp Gh
theorem PS:ai P t46:=PR.aP aca

def pK(d:List G):Option (List G) :=
 let g:=(gi (gi d 0).row 2).int-(gi (gi d 1).row 2).int; let z2:=(gi (gi d 0).row 1).int-(gi (gi d 1).row 1).int; (bif ((gi (gi d 0).row 2).int != (gi (gi d 1).row 2).int) then (bif (az g) then (ao (w7 [.i g]) fun g1=>some [.i (gi g1 0).int]) else none) else (bif (!((gi (gi d 0).row 0).str.toList==(gi (gi d 1).row 0).str.toList)) then (ao (iD [.s (gi (gi d 0).row 0).str,.s (gi (gi d 1).row 0).str]) fun g2=>some [.i (gi g2 0).int]) else (bif (az z2) then (ao (w7 [.i z2]) fun g3=>some [.i (gi g3 0).int]) else none)))
def Gi:ax:=⟨35,[.s (.row aq),.s (.row aq)],[],[],[.s (.int .i64)],[],[],[],pK⟩
theorem acb:aX P t46 au f35 Gi:=fun d=>by kernel_rfl
theorem acd:aU P Gi:=ba hm PS func35 (aG _ _ _) acb
def t47:ah:=t46.bp Gi
theorem Be:ai P t47:=PS.aP acd

def PT(d:List G):Option (Option Nat × List G) :=
 let z2:=(gi d 4).int-1; let g:=(gi d 0).rows.set (0+((gi d 4).int).toNat) (fh aq ((gi d 0).rows.getD (0+((gi d 4).int).toNat) []) 0 (bh aq ((gi d 0).rows.getD (0+z2.toNat) []))); let z3:=(((gi d 0).rows.length:Nat):Int); let z4:=g.set (0+z2.toNat) (fh aq (g.getD (0+z2.toNat) []) 0 (bh aq ((gi d 0).rows.getD (0+((gi d 4).int).toNat) []))); let z5:=decide ((0+((gi d 4).int).toNat)<(gi d 0).rows.length); let k:=(bD (gi d 4).int)&&(aB (gi d 4).int z3); let q:=(ab (gi d 0).rows.length (gi d 0).rows.length)&&true; let A:=decide ((0+z2.toNat)<(gi d 0).rows.length); let z9:=(bD z2)&&(aB z2 z3); (bif (aB (gi d 1).int (gi d 4).int) then (bif k then (bif z5 then (bif (az z2) then (bif z9 then (bif A then (ao (pK [.l [(bh aq ((gi d 0).rows.getD (0+((gi d 4).int).toNat) []))],.l [(bh aq ((gi d 0).rows.getD (0+z2.toNat) []))]]) fun g1=>(bif (aB (gi g1 0).int 0) then (bif (az z2) then (bif (az z2) then (bif z9 then (bif A then (bif k then (bif z5 then (bif k then (bif z5 then (bif z9 then (bif (decide ((0+z2.toNat)<g.length)) then (bif (az z2) then (bif ((ab (gi d 0).rows.length z4.length)&&true) then some (none,[.l z4,.i (gi d 1).int,.i (gi d 2).int,.i (gi d 3).int,.i z2]) else none) else none) else none) else none) else none) else none) else none) else none) else none) else none) else none) else none) else (bif q then some (some 0,[.l (gi d 0).rows,.i (gi d 1).int,.i (gi d 2).int,.i (gi d 3).int]) else none))) else none) else none) else none) else none) else none) else (bif q then some (some 0,[.l (gi d 0).rows,.i (gi d 1).int,.i (gi d 2).int,.i (gi d 3).int]) else none))
def PU:bx:=⟨4,[],⟨53,[(0,.s (.vec 0 15)),(1,.s (.int .i64)),(2,.s (.int .i64)),(3,.s (.fn 35)),(8,.s (.int .i64)),(9,.s (.int .i64))],[.vec aq 0]⟩,[.fix 0],[⟨.exit 2,⟨53,[(0,.s (.vec 0 15)),(1,.s (.int .i64)),(2,.s (.int .i64)),(3,.s (.fn 35)),(8,.s (.int .i64))],[.vec aq 0]⟩,[.fix 0]⟩],PT⟩
theorem ace:cX P t47 au 1 (c9 f113 4) PU:=fun d=>by kernel_rfl
def Gj:LT:=au.add 1 PU
theorem acf:ay P 1 Gj (aN f113):=ay.a hm Be (aG _ _ _) ace
def PV(d:List G):Option (Option Nat × List G) :=
 (bif (aB (gi d 3).int (gi d 2).int) then (aY ((ab (gi d 0).rows.length (gi d 0).rows.length)&&true) (cG PT [.l (gi d 0).rows,.i (gi d 1).int,.i (gi d 2).int,.i (gi d 3).int,.i (gi d 3).int]) fun g g2=>(bif (az ((gi g2 3).int+1)) then (bif ((ab (gi g2 0).rows.length (gi g2 0).rows.length)&&true) then some (none,[.l (gi g2 0).rows,.i (gi g2 1).int,.i (gi g2 2).int,.i ((gi g2 3).int+1)]) else none) else none)) else some (some 0,[.l (gi d 0).rows]))
def PW:bx:=⟨1,[],⟨53,[(0,.s (.vec 0 15)),(1,.s (.int .i64)),(2,.s (.int .i64)),(3,.s (.fn 35)),(8,.s (.int .i64))],[.vec aq 0]⟩,[.fix 0],[⟨.exit 0,⟨53,[],[.vec aq 0]⟩,[.fix 0]⟩],PV⟩
theorem acg:cX P t47 Gj 1 (c9 f113 1) PW:=fun d=>by kernel_rfl
def PX:LT:=Gj.add 1 PW
theorem ach:ay P 1 PX (aN f113):=ay.a hm Be acf acg
def Gk(d:List G):Option (List G) :=
 (bif (az ((gi d 1).int+1)) then (aY ((ab (gi d 0).rows.length (gi d 0).rows.length)&&true) (cG PV [.l (gi d 0).rows,.i (gi d 1).int,.i (gi d 2).int,.i ((gi d 1).int+1)]) fun g g3=>some [.l (gi g3 0).rows]) else none)
def Gl:ax:=⟨113,[.s (.vec 0 15),.s (.int .i64),.s (.int .i64),.s (.fn 35)],[.vec aq 0],[.slot 0],[],[.vec aq 0],[.fix 0],[],Gk⟩
theorem aci:aX P t47 PX f113 Gl:=fun d=>by kernel_rfl
theorem acj:aU P Gl:=ba hm Be func113 ach aci
def t48:ah:=t47.cJ Gl
theorem w9:ai P t48:=Be.aW acj

def PY(d:List G):Option (Option Nat × List G) :=
 let g:=Gk [.l (gi d 0).rows,.i (gi d 3).int,.i (gi d 4).int]; let z2:=(ab (gi d 0).rows.length (gi d 0).rows.length)&&true; let z3:=(gi d 4).int+(gi d 2).int; (bif (bM (gi d 4).int (gi d 1).int) then (gI (z2&&g.isSome) g fun g1=>(bif (az z3) then (bif ((ab (gi d 0).rows.length (gi g1 0).rows.length)&&true) then some (none,[.l (gi g1 0).rows,.i (gi d 1).int,.i (gi d 2).int,.i (gi d 4).int,.i z3]) else none) else none)) else (bif z2 then some (some 0,[.l (gi d 0).rows,.i (gi d 1).int,.i (gi d 2).int,.i (gi d 3).int]) else none))
def PZ:bx:=⟨2,[],⟨63,[(0,.s (.vec 0 15)),(1,.s (.int .i64)),(2,.s (.fn 35)),(6,.s (.int .i64)),(7,.s (.int .i64)),(8,.s (.int .i64))],[.vec aq 0]⟩,[.fix 0],[⟨.exit 0,⟨63,[(0,.s (.vec 0 15)),(1,.s (.int .i64)),(2,.s (.fn 35)),(6,.s (.int .i64)),(7,.s (.int .i64))],[.vec aq 0]⟩,[.fix 0]⟩],PY⟩
theorem ack:cX P t48 au 1 (c9 f71 2) PZ:=fun d=>by kernel_rfl
def Gm:LT:=au.add 1 PZ
theorem acm:ay P 1 Gm (aN f71):=ay.a hm w9 (aG _ _ _) ack
def P0(d:List G):Option (Option Nat × List G) :=
 (bif (bM (gi d 4).int (gi d 1).int) then (bif (az ((gi d 3).int+(gi d 2).int)) then none else none) else (bif ((ab (gi d 0).rows.length (gi d 0).rows.length)&&true) then some (some 0,[.l (gi d 0).rows,.i (gi d 1).int,.i (gi d 2).int,.i (gi d 3).int]) else none))
def P1:bx:=⟨9,[],⟨63,[(0,.s (.vec 0 15)),(1,.s (.int .i64)),(2,.s (.fn 35)),(6,.s (.int .i64)),(7,.s (.int .i64)),(8,.s (.int .i64))],[.vec aq 0]⟩,[.fix 0],[⟨.exit 4,⟨63,[(0,.s (.vec 0 15)),(1,.s (.int .i64)),(2,.s (.fn 35)),(6,.s (.int .i64)),(7,.s (.int .i64))],[.vec aq 0]⟩,[.fix 0]⟩],P0⟩
theorem acn:cX P t48 Gm 1 (c9 f71 9) P1:=fun d=>by kernel_rfl
def Gn:LT:=Gm.add 1 P1
theorem aco:ay P 1 Gn (aN f71):=ay.a hm w9 acm acn
def P2(d:List G):Option (Option Nat × List G) :=
 (bif (aB (gi d 2).int (gi d 1).int) then (bif (az (2*(gi d 2).int)) then (aY ((ab (gi d 0).rows.length (gi d 0).rows.length)&&true) (cG P0 [.l (gi d 0).rows,.i (gi d 1).int,.i (gi d 2).int,.i 0,.i (2*(gi d 2).int)]) fun k g4=>let g:=(gi g4 3).int+(gi g4 2).int; (bif (az g) then (bif (aB g (gi g4 1).int) then none else (bif (az ((gi g4 2).int*2)) then (bif ((ab (gi g4 0).rows.length (gi g4 0).rows.length)&&true) then some (none,[.l (gi g4 0).rows,.i (gi g4 1).int,.i ((gi g4 2).int*2)]) else none) else none)) else none)) else none) else some (some 0,[.l (gi d 0).rows]))
def P3:bx:=⟨7,[],⟨63,[(0,.s (.vec 0 15)),(1,.s (.int .i64)),(2,.s (.fn 35)),(6,.s (.int .i64))],[.vec aq 0]⟩,[.fix 0],[⟨.exit 2,⟨63,[],[.vec aq 0]⟩,[.fix 0]⟩],P2⟩
theorem acp:cX P t48 Gn 1 (c9 f71 7) P3:=fun d=>by kernel_rfl
def P4:LT:=Gn.add 1 P3
theorem acq:ay P 1 P4 (aN f71):=ay.a hm w9 aco acp
def P5(d:List G):Option (List G) :=
 (aY ((ab (gi d 0).rows.length (gi d 0).rows.length)&&true) (cG PY [.l (gi d 0).rows,.i (gi d 1).int,.i 20,.i 0,.i 20]) fun k g2=>let g:=Gk [.l (gi g2 0).rows,.i (gi g2 3).int,.i (gi g2 1).int]; (gI (((ab (gi g2 0).rows.length (gi g2 0).rows.length)&&true)&&g.isSome) g fun g3=>(aY ((ab (gi g2 0).rows.length (gi g3 0).rows.length)&&true) (cG P2 [.l (gi g3 0).rows,.i (gi g2 1).int,.i (gi g2 2).int]) fun q g5=>some [.l (gi g5 0).rows])))
def Gp:ax:=⟨71,[.s (.vec 0 15),.s (.int .i64),.s (.fn 35)],[.vec aq 0],[.slot 0],[],[.vec aq 0],[.fix 0],[],P5⟩
theorem acr:aX P t48 P4 f71 Gp:=fun d=>by kernel_rfl
theorem acs:aU P Gp:=ba hm w9 func71 acq acr
def t49:ah:=t48.cJ Gp
theorem P6:ai P t49:=w9.aW acs

def Gq(d:List G):Option (List G) :=
 let g:=(P5 [.l (gi d 0).rows,.i (((gi d 0).rows.length:Nat):Int)]); (gI (((ab (gi d 0).rows.length (gi d 0).rows.length)&&true)&&g.isSome) g fun g1=>some [.l (gi g1 0).rows])
def Gr:ax:=⟨34,[.s (.vec 0 15),.s (.fn 35)],[.vec aq 0],[.slot 0],[],[.vec aq 0],[.fix 0],[],Gq⟩
theorem acu:aX P t49 au f34 Gr:=fun d=>by kernel_rfl
theorem acv:aU P Gr:=ba hm P6 func34 (aG _ _ _) acu
def t50:ah:=t49.cJ Gr
theorem tR:ai P t50:=P6.aW acv

end
end Go.Proofs.gq
