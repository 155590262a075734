/-
 What is proved here: functions of the program as functions on data. No condition.
-/
import Derived.Test.YtdabjgppkghiaaaGreatDoorML2
set_option linter.all false
open Int renaming tdiv→eG
open List renaming map_inj_left→CM
open Nat renaming beq→ah
namespace Go.Proofs.jJ
open Go Go.AL Go.Proofs
noncomputable section
def pC(d:List G):Option (Option Nat × List G) :=
 (bif (aZ (gi d 10).int 3) then (aA (nJ [.l (gi d 0).rows,.i (gi d 1).int,.i 2]) fun g6=>(bif (gi g6 2).bool then (bif ((ah (gi d 8).rows.length (gi d 8).rows.length)&&(decide (((gi d 8).rows.length+1)≤1048576))) then (bif (ar ((gi d 10).int+1)) then (bif ((((ah ((gi d 8).rows++([[.i (gi d 10).int]]:List (List G))).length ((gi d 8).rows++([[.i (gi d 10).int]]:List (List G))).length)&&true)&&true)&&((ah (gi d 2).rows.length (gi d 2).rows.length)&&true)) then some (none,[.l (gi g6 0).rows,.i (gi g6 1).int,.l (gi d 2).rows,.s (gi d 3).str,.i (gi d 4).int,.i (gi d 5).int,.i (gi d 6).int,.i (gi d 7).int,.l ((gi d 8).rows++([[.i (gi d 10).int]]:List (List G))),.s (gi d 9).str,.i ((gi d 10).int+1),.l (gi d 11).rows,.i (gi d 12).int,.i (gi d 13).int]) else none) else none) else none) else (bif (ar ((gi d 10).int+1)) then (bif ((((ah (gi d 8).rows.length (gi d 8).rows.length)&&true)&&true)&&((ah (gi d 2).rows.length (gi d 2).rows.length)&&true)) then some (none,[.l (gi g6 0).rows,.i (gi g6 1).int,.l (gi d 2).rows,.s (gi d 3).str,.i (gi d 4).int,.i (gi d 5).int,.i (gi d 6).int,.i (gi d 7).int,.l (gi d 8).rows,.s (gi d 9).str,.i ((gi d 10).int+1),.l (gi d 11).rows,.i (gi d 12).int,.i (gi d 13).int]) else none) else none))) else (bif ((((ah (gi d 8).rows.length (gi d 8).rows.length)&&true)&&true)&&((ah (gi d 2).rows.length (gi d 2).rows.length)&&true)) then some (some 0,[.l (gi d 0).rows,.i (gi d 1).int,.l (gi d 2).rows,.s (gi d 3).str,.i (gi d 4).int,.i (gi d 5).int,.i (gi d 6).int,.i (gi d 7).int,.l (gi d 8).rows,.s (gi d 9).str,.l (gi d 11).rows,.i (gi d 12).int,.i (gi d 13).int]) else none))
def JH:bI:=⟨10,[],⟨102,[(0,.s (.ptr 0 0)),(3,.s (.vec 1 6)),(5,.s (.str)),(6,.s (.ptr 2 0)),(7,.s (.int .i64)),(8,.s (.list [.str])),(9,.s (.int .i64)),(10,.s (.int .i64))],[.box [.list [.int .i64],.int .i64],.vec bg 0,.box [.str,.int .i64,.int .i64,.vec 3 1,.int .i64,.int .i64],.vec [.int .i64] 0]⟩,[.fix 0,.slot 3,.slot 6,.cell 2 3],[⟨.exit 2,⟨102,[(0,.s (.ptr 0 0)),(3,.s (.vec 1 6)),(5,.s (.str)),(6,.s (.ptr 2 0)),(8,.s (.list [.str])),(9,.s (.int .i64)),(10,.s (.int .i64))],[.box [.list [.int .i64],.int .i64],.vec bg 0,.box [.str,.int .i64,.int .i64,.vec 3 1,.int .i64,.int .i64],.vec [.int .i64] 0]⟩,[.fix 0,.slot 3,.slot 6,.cell 2 3]⟩],pC⟩
theorem Ui:cP P (t46.j_ [2100022]) (aF.rE [(9,[.vt 6 3 [.int .i64]]),(25,[.vu 6 3])]) 1 (cU Tryz.f4 10) JH:=fun d=>by kernel_rfl
def Bx:LT:=(aF.rE [(9,[.vt 6 3 [.int .i64]]),(25,[.vu 6 3])]).add 1 JH
theorem Uj:ay P 1 Bx (aY Tryz.f4):=ay.add hm (sq.j_ [2100022]) (by kernel_rfl) (Gj _) Ui
def sr(d:List G):Option (Option Nat × List G) :=
 (aA (nJ [.l (gi d 0).rows,.i (gi d 1).int,.i 50]) fun g8=>(bif (gi g8 2).bool then (aA (mr [.l (gi g8 0).rows,.i (gi g8 1).int,.i 4]) fun g9=>(bif ((gi g9 2).int==0) then (aA (wu [.l (gi g9 0).rows,.i (gi g9 1).int,.l [[.s (gi d 9).str],[.s (⟨#[]⟩:ByteArray)],[.s (⟨#[65]⟩:ByteArray)]]]) fun g10=>(aA (nK [.l (gi g10 0).rows,.i (gi g10 1).int,.i 0,.i 300]) fun g11=>(bif ((ah (gi d 8).rows.length (gi d 8).rows.length)&&true) then (bif ((ah (gi d 2).rows.length (gi d 2).rows.length)&&(decide (((gi d 2).rows.length+1)≤1048576))) then (bif ((ah ((gi d 2).rows++([[.s (gi g10 2).str,.i (gi g11 2).int,.i (gi d 5).int,.l (gi d 8).rows,.i (gi d 6).int,.i (gi d 7).int]]:List (List G))).length ((gi d 2).rows++([[.s (gi g10 2).str,.i (gi g11 2).int,.i (gi d 5).int,.l (gi d 8).rows,.i (gi d 6).int,.i (gi d 7).int]]:List (List G))).length)&&true) then some (some 0,[.l (gi g11 0).rows,.i (gi g11 1).int,.l ((gi d 2).rows++([[.s (gi g10 2).str,.i (gi g11 2).int,.i (gi d 5).int,.l (gi d 8).rows,.i (gi d 6).int,.i (gi d 7).int]]:List (List G))),.l (gi d 10).rows,.i (gi d 11).int,.i (gi d 12).int]) else none) else none) else none))) else (bif ((gi g9 2).int==1) then (aA (nK [.l (gi g9 0).rows,.i (gi g9 1).int,.i 1,.i 30000000000]) fun g12=>(bif ((ah (gi d 8).rows.length (gi d 8).rows.length)&&true) then (bif ((ah (gi d 2).rows.length (gi d 2).rows.length)&&(decide (((gi d 2).rows.length+1)≤1048576))) then (bif ((ah ((gi d 2).rows++([[.s (gi d 3).str,.i (gi d 4).int,.i (gi g12 2).int,.l (gi d 8).rows,.i (gi d 6).int,.i (gi d 7).int]]:List (List G))).length ((gi d 2).rows++([[.s (gi d 3).str,.i (gi d 4).int,.i (gi g12 2).int,.l (gi d 8).rows,.i (gi d 6).int,.i (gi d 7).int]]:List (List G))).length)&&true) then some (some 0,[.l (gi g12 0).rows,.i (gi g12 1).int,.l ((gi d 2).rows++([[.s (gi d 3).str,.i (gi d 4).int,.i (gi g12 2).int,.l (gi d 8).rows,.i (gi d 6).int,.i (gi d 7).int]]:List (List G))),.l (gi d 10).rows,.i (gi d 11).int,.i (gi d 12).int]) else none) else none) else none)) else (bif ((gi g9 2).int==2) then (aA (ki [.l (gi g9 0).rows,.i (gi g9 1).int,.l [[.i 0],[.i 1],[.i 3],[.i 4]]]) fun g13=>(bif ((ah (gi d 8).rows.length (gi d 8).rows.length)&&(decide (((gi d 8).rows.length+1)≤1048576))) then (bif ((ah ((gi d 8).rows++([[.i (gi g13 2).int]]:List (List G))).length ((gi d 8).rows++([[.i (gi g13 2).int]]:List (List G))).length)&&true) then (bif ((ah (gi d 2).rows.length (gi d 2).rows.length)&&(decide (((gi d 2).rows.length+1)≤1048576))) then (bif ((ah ((gi d 2).rows++([[.s (gi d 3).str,.i (gi d 4).int,.i (gi d 5).int,.l ((gi d 8).rows++([[.i (gi g13 2).int]]:List (List G))),.i (gi d 6).int,.i (gi d 7).int]]:List (List G))).length ((gi d 2).rows++([[.s (gi d 3).str,.i (gi d 4).int,.i (gi d 5).int,.l ((gi d 8).rows++([[.i (gi g13 2).int]]:List (List G))),.i (gi d 6).int,.i (gi d 7).int]]:List (List G))).length)&&true) then some (some 0,[.l (gi g13 0).rows,.i (gi g13 1).int,.l ((gi d 2).rows++([[.s (gi d 3).str,.i (gi d 4).int,.i (gi d 5).int,.l ((gi d 8).rows++([[.i (gi g13 2).int]]:List (List G))),.i (gi d 6).int,.i (gi d 7).int]]:List (List G))),.l (gi d 10).rows,.i (gi d 11).int,.i (gi d 12).int]) else none) else none) else none) else none)) else (aA (nK [.l (gi g9 0).rows,.i (gi g9 1).int,.i 0,.i 100]) fun g14=>(aA (nK [.l (gi g14 0).rows,.i (gi g14 1).int,.i 1,.i 345686400000]) fun g15=>(bif ((ah (gi d 8).rows.length (gi d 8).rows.length)&&true) then (bif ((ah (gi d 2).rows.length (gi d 2).rows.length)&&(decide (((gi d 2).rows.length+1)≤1048576))) then (bif ((ah ((gi d 2).rows++([[.s (gi d 3).str,.i (gi d 4).int,.i (gi d 5).int,.l (gi d 8).rows,.i (gi g14 2).int,.i (gi g15 2).int]]:List (List G))).length ((gi d 2).rows++([[.s (gi d 3).str,.i (gi d 4).int,.i (gi d 5).int,.l (gi d 8).rows,.i (gi g14 2).int,.i (gi g15 2).int]]:List (List G))).length)&&true) then some (some 0,[.l (gi g15 0).rows,.i (gi g15 1).int,.l ((gi d 2).rows++([[.s (gi d 3).str,.i (gi d 4).int,.i (gi d 5).int,.l (gi d 8).rows,.i (gi g14 2).int,.i (gi g15 2).int]]:List (List G))),.l (gi d 10).rows,.i (gi d 11).int,.i (gi d 12).int]) else none) else none) else none))))))) else (bif ((ah (gi d 8).rows.length (gi d 8).rows.length)&&true) then (bif ((ah (gi d 2).rows.length (gi d 2).rows.length)&&(decide (((gi d 2).rows.length+1)≤1048576))) then (bif ((ah ((gi d 2).rows++([[.s (gi d 3).str,.i (gi d 4).int,.i (gi d 5).int,.l (gi d 8).rows,.i (gi d 6).int,.i (gi d 7).int]]:List (List G))).length ((gi d 2).rows++([[.s (gi d 3).str,.i (gi d 4).int,.i (gi d 5).int,.l (gi d 8).rows,.i (gi d 6).int,.i (gi d 7).int]]:List (List G))).length)&&true) then some (some 0,[.l (gi g8 0).rows,.i (gi g8 1).int,.l ((gi d 2).rows++([[.s (gi d 3).str,.i (gi d 4).int,.i (gi d 5).int,.l (gi d 8).rows,.i (gi d 6).int,.i (gi d 7).int]]:List (List G))),.l (gi d 10).rows,.i (gi d 11).int,.i (gi d 12).int]) else none) else none) else none)))
def JI:bI:=⟨16,[],⟨102,[(0,.s (.ptr 0 0)),(3,.s (.vec 1 6)),(5,.s (.str)),(6,.s (.ptr 2 0)),(8,.s (.list [.str])),(9,.s (.int .i64)),(10,.s (.int .i64))],[.box [.list [.int .i64],.int .i64],.vec bg 0,.box [.str,.int .i64,.int .i64,.vec 3 1,.int .i64,.int .i64],.vec [.int .i64] 0]⟩,[.fix 0,.slot 3,.slot 6,.cell 2 3],[⟨.normal,⟨102,[(0,.s (.ptr 0 0)),(3,.s (.vec 1 6)),(8,.s (.list [.str])),(9,.s (.int .i64)),(10,.s (.int .i64))],[.box [.list [.int .i64],.int .i64],.vec bg 0]⟩,[.fix 0,.slot 3]⟩],sr⟩
theorem Uk:jE P (t46.j_ [2100022]) Bx 1 (cutAt Tryz.f4 16) JI:=fun d=>by kernel_rfl
def By:LT:=Bx.gk 1 JI
theorem Ul:ay P 1 By (aY Tryz.f4):=ay.gk hm (sq.j_ [2100022]) (by kernel_rfl) Uj Uk
def su(d:List G):Option (Option Nat × List G) :=
 (bif (au (gi d 5).int (gi d 4).int) then (bif ((aO (gi d 5).int)&&(au (gi d 5).int (((gi d 3).rows.length:Nat):Int))) then (aA (nJ [.l (gi d 0).rows,.i (gi d 1).int,.i 5]) fun g1=>(bif (gi g1 2).bool then (bif (ar ((gi d 5).int+1)) then (bif ((ah (gi d 2).rows.length (gi d 2).rows.length)&&true) then some (none,[.l (gi g1 0).rows,.i (gi g1 1).int,.l (gi d 2).rows,.l (gi d 3).rows,.i (gi d 4).int,.i ((gi d 5).int+1)]) else none) else none) else (aA (ki [.l (gi g1 0).rows,.i (gi g1 1).int,.l [[.i 0],[.i 100],[.i 150],[.i 200]]]) fun g2=>(aA (ki [.l (gi g2 0).rows,.i (gi g2 1).int,.l [[.i 0],[.i 0],[.i 50]]]) fun g3=>(aA (ki [.l (gi g3 0).rows,.i (gi g3 1).int,.l [[.i 20],[.i 50],[.i 100]]]) fun g4=>(bif (ar ((gi g2 2).int+(gi g4 2).int)) then (aA (ki [.l (gi g4 0).rows,.i (gi g4 1).int,.l [[.i 50],[.i 1000]]]) fun g5=>(bif (ar ((gi g3 2).int+(gi g5 2).int)) then (bD ((ah (gi d 2).rows.length (gi d 2).rows.length)&&true) (cf pC [.l (gi g5 0).rows,.i (gi g5 1).int,.l (gi d 2).rows,.s (gi ((gi d 3).rows.getD (((gi d 5).int).toNat) []) 0).str,.i (gi g2 2).int,.i ((gi g2 2).int+(gi g4 2).int),.i (gi g3 2).int,.i ((gi g3 2).int+(gi g5 2).int),.l [],.s (gi ((gi d 3).rows.getD (((gi d 5).int).toNat) []) 0).str,.i 1,.l (gi d 3).rows,.i (gi d 4).int,.i (gi d 5).int]) fun g g7=>(bif ((((gi g7 8).rows.length:Nat):Int)==0) then (bD ((ah (gi g7 2).rows.length (gi g7 2).rows.length)&&true) (dR (sr [.l (gi g7 0).rows,.i (gi g7 1).int,.l (gi g7 2).rows,.s (gi g7 3).str,.i (gi g7 4).int,.i (gi g7 5).int,.i (gi g7 6).int,.i (gi g7 7).int,.l [[.i 1]],.s (gi g7 9).str,.l (gi g7 10).rows,.i (gi g7 11).int,.i (gi g7 12).int])) fun a g16=>(bif (ar ((gi g16 5).int+1)) then (bif ((ah (gi g16 2).rows.length (gi g16 2).rows.length)&&true) then some (none,[.l (gi g16 0).rows,.i (gi g16 1).int,.l (gi g16 2).rows,.l (gi g16 3).rows,.i (gi g16 4).int,.i ((gi g16 5).int+1)]) else none) else none)) else (bD ((((ah (gi g7 8).rows.length (gi g7 8).rows.length)&&true)&&true)&&((ah (gi g7 2).rows.length (gi g7 2).rows.length)&&true)) (dR (sr [.l (gi g7 0).rows,.i (gi g7 1).int,.l (gi g7 2).rows,.s (gi g7 3).str,.i (gi g7 4).int,.i (gi g7 5).int,.i (gi g7 6).int,.i (gi g7 7).int,.l (gi g7 8).rows,.s (gi g7 9).str,.l (gi g7 10).rows,.i (gi g7 11).int,.i (gi g7 12).int])) fun b g17=>(bif (ar ((gi g17 5).int+1)) then (bif ((ah (gi g17 2).rows.length (gi g17 2).rows.length)&&true) then some (none,[.l (gi g17 0).rows,.i (gi g17 1).int,.l (gi g17 2).rows,.l (gi g17 3).rows,.i (gi g17 4).int,.i ((gi g17 5).int+1)]) else none) else none)))) else none)) else none)))))) else none) else (bif ((ah (gi d 2).rows.length (gi d 2).rows.length)&&true) then some (some 0,[.l (gi d 0).rows,.i (gi d 1).int,.l (gi d 2).rows]) else none))
def JJ:bI:=⟨3,[(3,bg)],⟨102,[(0,.s (.ptr 0 0)),(3,.s (.vec 1 6)),(8,.s (.list [.str])),(9,.s (.int .i64)),(10,.s (.int .i64))],[.box [.list [.int .i64],.int .i64],.vec bg 0]⟩,[.fix 0,.slot 3],[⟨.exit 0,⟨102,[(3,.s (.vec 1 6))],[.box [.list [.int .i64],.int .i64],.vec bg 0]⟩,[.fix 0,.slot 3]⟩],su⟩
theorem Um:cP P (t46.j_ [2100022]) By 1 (cU Tryz.f4 3) JJ:=fun d=>by kernel_rfl
def JK:LT:=By.add 1 JJ
theorem Un:ay P 1 JK (aY Tryz.f4):=ay.add hm (sq.j_ [2100022]) (by kernel_rfl) Ul Um
def wy(d:List G):Option (List G) :=
 (bD true (cf su [.l (gi d 0).rows,.i (gi d 1).int,.l [],.l [[.s (⟨#[102,117,108,108]⟩:ByteArray)],[.s (⟨#[102,117,108,108]⟩:ByteArray)],[.s (⟨#[102,117,108,108]⟩:ByteArray)],[.s (⟨#[115,109,97,108,108]⟩:ByteArray)]],.i 4,.i 0]) fun a g18=>(hG (((ah (gi g18 2).rows.length (gi g18 2).rows.length)&&true)&&(wx [.l (gi g18 2).rows]).isSome) (wx [.l (gi g18 2).rows]) fun g19=>(bif ((ah (gi g18 2).rows.length (gi g19 0).rows.length)&&true) then some [.l (gi g18 0).rows,.i (gi g18 1).int,.l (gi g19 0).rows] else none)))
def Bz:aG:=⟨4,[.s (.ptr 0 0)],[.box [.list [.int .i64],.int .i64]],[.slot 0],[.s (.list bg)],[.box [.list [.int .i64],.int .i64]],[.fix 0],[],wy⟩
theorem Uo:bp P (t46.j_ [2100022]) JK Tryz.f4 Bz:=fun d=>by kernel_rfl
theorem Up:bf P Bz:=zD hm (sq.j_ [2100022]) Tryz.func4 (by kernel_rfl) Un Uo (by kernel_rfl)
def t47:al:=t46.dt Bz
theorem BA:ao P t47:=sq.aW Up

def sv(d:List G):Option (Option Nat × List G) :=
 (bif (au (gi d 3).int (gi d 2).int) then (bif ((aO (gi d 3).int)&&(au (gi d 3).int (((gi d 1).rows.length:Nat):Int))) then (aA (nI [.i (gi ((gi d 1).rows.getD (((gi d 3).int).toNat) []) 0).int]) fun g1=>(bif (!(gi g1 0).bool) then some (some 0,[.i 4]) else (bif (au 0 (gi d 3).int) then (bif (ar ((gi d 3).int-1)) then (bif ((aO ((gi d 3).int-1))&&(au ((gi d 3).int-1) (((gi d 0).rows.length:Nat):Int))) then (bif (aZ (gi ((gi d 1).rows.getD (((gi d 3).int).toNat) []) 0).int (gi ((gi d 0).rows.getD (((gi d 3).int-1).toNat) []) 0).int) then some (some 0,[.i 7]) else (bif (ar ((gi d 3).int+1)) then some (none,[.l (gi d 0).rows,.l (gi d 1).rows,.i (gi d 2).int,.i ((gi d 3).int+1)]) else none)) else none) else none) else (bif (ar ((gi d 3).int+1)) then some (none,[.l (gi d 0).rows,.l (gi d 1).rows,.i (gi d 2).int,.i ((gi d 3).int+1)]) else none)))) else none) else some (some 1,[]))
def JL:bI:=⟨4,[],⟨30,[(0,.s (.list [.int .i64])),(8,.s (.list [.int .i64])),(9,.s (.int .i64)),(10,.s (.int .i64))],[]⟩,[],[⟨.ret,⟨30,[(2,.s (.int .i64))],[]⟩,[]⟩,⟨.exit 0,⟨30,[],[]⟩,[]⟩],sv⟩
theorem Uq:cP P t47 aF 0 (cU Tryz.f38 4) JL:=fun d=>by kernel_rfl
def JM:LT:=aF.add 0 JL
theorem Ur:ay P 0 JM (aY Tryz.f38):=ay.a hm BA (aT _ _ _) Uq
def wz(d:List G):Option (List G) :=
 (bif ((((gi d 0).rows.length:Nat):Int)==0) then some [.i 8] else (bD true (cf sv [.l (gi d 0).rows,.l (gi d 0).rows,.i (((gi d 0).rows.length:Nat):Int),.i 0]) fun a g2=>(bif ah a 0 then some [.i (gi g2 0).int] else some [.i 0])))
def BB:aG:=⟨38,[.s (.list [.int .i64])],[],[],[.s (.int .i64)],[],[],[],wz⟩
theorem Us:bp P t47 JM Tryz.f38 BB:=fun d=>by kernel_rfl
theorem Ut:bf P BB:=bB hm BA Tryz.func38 Ur Us
def t48:al:=t47.bF BB
theorem JN:ao P t48:=BA.aP Ut

def wA(d:List G):Option (List G) :=
 (bif (ar ((gi (gi d 0).row 1).int-1)) then (aA (jb [.i (gi (gi d 0).row 0).int,.i 0,.i ((gi (gi d 0).row 1).int-1)]) fun g1=>(bif (!(gi g1 0).bool) then some [.t (aZ (gi (gi d 0).row 1).int 345686400000)] else some [.t false])) else none)
def BC:aG:=⟨39,[.s (.row [.int .i64,.int .i64])],[],[],[.s (.bool)],[],[],[],wA⟩
theorem Uu:bp P t48 aF Tryz.f39 BC:=fun d=>by kernel_rfl
theorem Uv:bf P BC:=bB hm JN Tryz.func39 (aT _ _ _) Uu
def t49:al:=t48.bF BC
theorem JO:ao P t49:=JN.aP Uv

def wB(d:List G):Option (List G) :=
 (aA (iH [.s (gi (gi d 0).row 0).str,.s (gi (gi d 1).row 0).str]) fun g1=>(aA (kh [.i (gi (gi d 0).row 1).int,.i (gi (gi d 1).row 1).int]) fun g2=>(aA (kh [.i (gi (gi d 0).row 2).int,.i (gi (gi d 1).row 2).int]) fun g3=>(aA (kh [.i (gi (gi d 0).row 4).int,.i (gi (gi d 1).row 4).int]) fun g4=>(aA (mq [.l [[.i (gi g1 0).int],[.i (gi g2 0).int],[.i (gi g3 0).int],[.i (gi g4 0).int]]]) fun g5=>some [.i (gi g5 0).int])))))
def BD:aG:=⟨40,[.s (.row bg),.s (.row bg)],[],[],[.s (.int .i64)],[],[],[],wB⟩
theorem Uw:bp P t49 aF Tryz.f40 BD:=fun d=>by kernel_rfl
theorem Ux:bf P BD:=bB hm JO Tryz.func40 (aT _ _ _) Uw
def t50:al:=t49.bF BD
theorem BE:ao P t50:=JO.aP Ux

def sw(d:List G):Option (Option Nat × List G) :=
 (bif (au (gi d 3).int (gi d 2).int) then (bif ((aO (gi d 3).int)&&(au (gi d 3).int (((gi d 1).rows.length:Nat):Int))) then (aA (la [.s (gi ((gi d 1).rows.getD (((gi d 3).int).toNat) []) 0).str]) fun g1=>(bif (!(gi g1 0).bool) then some (some 0,[.i 5]) else (bif (ar ((gi ((gi d 1).rows.getD (((gi d 3).int).toNat) []) 2).int-1)) then (aA (jb [.i (gi ((gi d 1).rows.getD (((gi d 3).int).toNat) []) 1).int,.i 0,.i ((gi ((gi d 1).rows.getD (((gi d 3).int).toNat) []) 2).int-1)]) fun g2=>(bif (gi g2 0).bool then some (some 0,[.i 1]) else (bif (au 30000000000 (gi ((gi d 1).rows.getD (((gi d 3).int).toNat) []) 2).int) then some (some 0,[.i 1]) else (aA (wz [.l (gi ((gi d 1).rows.getD (((gi d 3).int).toNat) []) 3).rows]) fun g3=>(bif ((gi g3 0).int != 0) then some (some 0,[.i (gi g3 0).int]) else (aA (wA [.l [[.i (gi ((gi d 1).rows.getD (((gi d 3).int).toNat) []) 4).int,.i (gi ((gi d 1).rows.getD (((gi d 3).int).toNat) []) 5).int]]]) fun g4=>(bif (!(gi g4 0).bool) then some (some 0,[.i 1]) else (bif (au 0 (gi d 3).int) then (bif (ar ((gi d 3).int-1)) then (bif ((aO ((gi d 3).int-1))&&(au ((gi d 3).int-1) (((gi d 0).rows.length:Nat):Int))) then (aA (wB [.l [(bM bg ((gi d 0).rows.getD (((gi d 3).int-1).toNat) []))],.l [(bM bg ((gi d 1).rows.getD (((gi d 3).int).toNat) []))]]) fun g5=>(bif (aZ 0 (gi g5 0).int) then some (some 0,[.i 7]) else (bif (ar ((gi d 3).int+1)) then some (none,[.l (gi d 0).rows,.l (gi d 1).rows,.i (gi d 2).int,.i ((gi d 3).int+1)]) else none))) else none) else none) else (bif (ar ((gi d 3).int+1)) then some (none,[.l (gi d 0).rows,.l (gi d 1).rows,.i (gi d 2).int,.i ((gi d 3).int+1)]) else none))))))))) else none))) else none) else some (some 1,[]))
def JP:bI:=⟨4,[],⟨54,[(0,.s (.list bg)),(9,.s (.list bg)),(10,.s (.int .i64)),(11,.s (.int .i64))],[]⟩,[],[⟨.ret,⟨54,[(2,.s (.int .i64))],[]⟩,[]⟩,⟨.exit 0,⟨54,[],[]⟩,[]⟩],sw⟩
theorem Uy:cP P t50 aF 0 (cU Tryz.f18 4) JP:=fun d=>by kernel_rfl
def JQ:LT:=aF.add 0 JP
theorem Uz:ay P 0 JQ (aY Tryz.f18):=ay.a hm BE (aT _ _ _) Uy
def sx(d:List G):Option (List G) :=
 (bif (au 500 (((gi d 0).rows.length:Nat):Int)) then some [.i 2] else (bD true (cf sw [.l (gi d 0).rows,.l (gi d 0).rows,.i (((gi d 0).rows.length:Nat):Int),.i 0]) fun a g6=>(bif ah a 0 then some [.i (gi g6 0).int] else some [.i 0])))
def BF:aG:=⟨18,[.s (.list bg)],[],[],[.s (.int .i64)],[],[],[],sx⟩
theorem UA:bp P t50 JQ Tryz.f18 BF:=fun d=>by kernel_rfl
theorem UB:bf P BF:=bB hm BE Tryz.func18 Uz UA
def t51:al:=t50.bF BF
theorem JR:ao P t51:=BE.aP UB

def sA(d:List G):Option (List G) :=
 (bif (aZ (gi (gi d 0).row 0).int (gi d 1).int) then some [.t (au (gi d 1).int (gi (gi d 0).row 1).int)] else some [.t false])
def BG:aG:=⟨44,[.s (.row [.int .i64,.int .i64]),.s (.int .i64)],[],[],[.s (.bool)],[],[],[],sA⟩
theorem UC:bp P t51 aF Tryz.f44 BG:=fun d=>by kernel_rfl
theorem UD:bf P BG:=bB hm JR Tryz.func44 (aT _ _ _) UC
def t52:al:=t51.bF BG
theorem BH:ao P t52:=JR.aP UD

def pD(d:List G):Option (Option Nat × List G) :=
 (bif (au (gi d 3).int (gi d 2).int) then (bif ((aO (gi d 3).int)&&(au (gi d 3).int (((gi d 0).rows.length:Nat):Int))) then (bif ((gi d 1).int==(gi ((gi d 0).rows.getD (((gi d 3).int).toNat) []) 0).int) then some (some 0,[.i (gi d 3).int]) else (bif (ar ((gi d 3).int+1)) then some (none,[.l (gi d 0).rows,.i (gi d 1).int,.i (gi d 2).int,.i ((gi d 3).int+1)]) else none)) else none) else some (some 1,[]))
def JS:bI:=⟨2,[],⟨19,[(0,.s (.list [.int .i64])),(1,.s (.int .i64)),(7,.s (.int .i64)),(8,.s (.int .i64))],[]⟩,[],[⟨.ret,⟨19,[(4,.s (.int .i64))],[]⟩,[]⟩,⟨.exit 0,⟨19,[],[]⟩,[]⟩],pD⟩
theorem UE:cP P t52 aF 0 (cU Tryz.f67 2) JS:=fun d=>by kernel_rfl
def JT:LT:=aF.add 0 JS
theorem UF:ay P 0 JT (aY Tryz.f67):=ay.a hm BH (aT _ _ _) UE
def BI(d:List G):Option (List G) :=
 (bD true (cf pD [.l (gi d 0).rows,.i (gi d 1).int,.i (((gi d 0).rows.length:Nat):Int),.i 0]) fun a g1=>(bif ah a 0 then some [.i (gi g1 0).int] else some [.i (-1)]))
def BJ:aG:=⟨67,[.s (.list [.int .i64]),.s (.int .i64)],[],[],[.s (.int .i64)],[],[],[],BI⟩
theorem UG:bp P t52 JT Tryz.f67 BJ:=fun d=>by kernel_rfl
theorem UH:bf P BJ:=bB hm BH Tryz.func67 UF UG
def t53:al:=t52.bF BJ
theorem JU:ao P t53:=BH.aP UH

def wC(d:List G):Option (List G) :=
 (aA (BI [.l (gi d 0).rows,.i (gi d 1).int]) fun g1=>some [.t (aZ 0 (gi g1 0).int)])
def BK:aG:=⟨43,[.s (.list [.int .i64]),.s (.int .i64)],[],[],[.s (.bool)],[],[],[],wC⟩
theorem UI:bp P t53 aF Tryz.f43 BK:=fun d=>by kernel_rfl
theorem UJ:bf P BK:=bB hm JU Tryz.func43 (aT _ _ _) UI
def t54:al:=t53.bF BK
theorem JV:ao P t54:=JU.aP UJ

def sB(d:List G):Option (List G) :=
 (bif (ar ((gi (gi d 0).row 0).int-(gi (gi d 1).row 0).int)) then some [.i ((gi (gi d 0).row 0).int-(gi (gi d 1).row 0).int)] else none)
def BL:aG:=⟨69,[.s (.row [.int .i64,.int .i64]),.s (.row [.int .i64,.int .i64])],[],[],[.s (.int .i64)],[],[],[],sB⟩
theorem UK:bp P t54 aF Tryz.f69 BL:=fun d=>by kernel_rfl
theorem JW:bf P BL:=bB hm JV Tryz.func69 (aT _ _ _) UK
def t55:al:=t54.bF BL
theorem UL:ao P t55:=JV.aP JW

def sC(d:List G):Option (List G) :=
 rV sB d
def sD:aG:=⟨68,[.s (.vec 0 2),.s (.fn 69)],[.vec [.int .i64,.int .i64] 0],[.slot 0],[],[.vec [.int .i64,.int .i64] 0],[.fix 0],[],sC⟩
theorem UM:∀ d r,sC d=some r→c9 P 68 (sD.args0 d) (ai (sD.H0 d)) (sD.out r) (ai (sD.H1 r)):=fun d r h=>P2 Tryz.QL [.int .i64,.int .i64] (by kernel_rfl) Tryz.isAgg36 Tryz.sizeOf36 69 (by kernel_rfl) sB (fun d r h=>JW d r h) d r h
def t56:al:=t55.dt sD
theorem wD:ao P t56:=UL.aW UM

def nL(d:List G):Option (Option Nat × List G) :=
 (bif (gi d 7).bool then (bif ((aO (gi d 4).int)&&(au (gi d 4).int (((gi d 1).rows.length:Nat):Int))) then (bif (decide ((0+((gi d 4).int).toNat)<(gi d 1).rows.length)) then (bif ((aO (gi d 4).int)&&(au (gi d 4).int (((gi d 1).rows.length:Nat):Int))) then (bif (decide ((0+((gi d 4).int).toNat)<(gi d 1).rows.length)) then (bif ((ah (gi d 1).rows.length ((gi d 1).rows.set (0+((gi d 4).int).toNat) (bT [.int .i64,.int .i64] ((gi d 1).rows.getD (0+((gi d 4).int).toNat) []) 1 [.i (if (gi d 3).int>(gi ((gi d 1).rows.getD (0+((gi d 4).int).toNat) []) 1).int then (gi d 3).int else (gi ((gi d 1).rows.getD (0+((gi d 4).int).toNat) []) 1).int)])).length)&&((ah (gi d 0).rows.length (gi d 0).rows.length)&&true)) then some (some 0,[.l (gi d 0).rows,.l ((gi d 1).rows.set (0+((gi d 4).int).toNat) (bT [.int .i64,.int .i64] ((gi d 1).rows.getD (0+((gi d 4).int).toNat) []) 1 [.i (if (gi d 3).int>(gi ((gi d 1).rows.getD (0+((gi d 4).int).toNat) []) 1).int then (gi d 3).int else (gi ((gi d 1).rows.getD (0+((gi d 4).int).toNat) []) 1).int)])),.i (gi d 5).int,.i (gi d 6).int]) else none) else none) else none) else none) else none) else (bif ((ah (gi d 1).rows.length (gi d 1).rows.length)&&(decide (((gi d 1).rows.length+1)≤1048576))) then (bif ((ah ((gi d 1).rows++([[.i (gi d 2).int,.i (gi d 3).int]]:List (List G))).length ((gi d 1).rows++([[.i (gi d 2).int,.i (gi d 3).int]]:List (List G))).length)&&((ah (gi d 0).rows.length (gi d 0).rows.length)&&true)) then some (some 0,[.l (gi d 0).rows,.l ((gi d 1).rows++([[.i (gi d 2).int,.i (gi d 3).int]]:List (List G))),.i (gi d 5).int,.i (gi d 6).int]) else none) else none))
def JX:bI:=⟨8,[],⟨48,[(3,.s (.vec 1 2)),(5,.s (.ptr 2 0)),(6,.s (.int .i64)),(9,.s (.vec 0 2)),(10,.s (.int .i64)),(11,.s (.int .i64)),(29,.s (.bool))],[.vec [.int .i64,.int .i64] 0,.vec [.int .i64,.int .i64] 0,.box [.int .i64,.int .i64]]⟩,[.fix 0,.slot 3,.slot 5],[⟨.normal,⟨48,[(3,.s (.vec 1 2)),(9,.s (.vec 0 2)),(10,.s (.int .i64)),(11,.s (.int .i64))],[.vec [.int .i64,.int .i64] 0,.vec [.int .i64,.int .i64] 0]⟩,[.fix 0,.slot 3]⟩],nL⟩
theorem UN:jE P t56 aF 1 (cutAt Tryz.f45 8) JX:=fun d=>by kernel_rfl
def BM:LT:=aF.gk 1 JX
theorem UO:ay P 1 BM (aY Tryz.f45):=ay.aC hm wD (aT _ _ _) UN
def sE(d:List G):Option (Option Nat × List G) :=
 (bif (au (gi d 3).int (gi d 2).int) then (bif ((aO (gi d 3).int)&&(au (gi d 3).int (((gi d 0).rows.length:Nat):Int))) then (bif (decide ((0+((gi d 3).int).toNat)<(gi d 0).rows.length)) then (bif (ar ((((gi d 1).rows.length:Nat):Int)-1)) then (bif (aZ 0 ((((gi d 1).rows.length:Nat):Int)-1)) then (bif ((aO ((((gi d 1).rows.length:Nat):Int)-1))&&(au ((((gi d 1).rows.length:Nat):Int)-1) (((gi d 1).rows.length:Nat):Int))) then (bif (decide ((0+((((gi d 1).rows.length:Nat):Int)-1).toNat)<(gi d 1).rows.length)) then (bD ((ah (gi d 1).rows.length (gi d 1).rows.length)&&((ah (gi d 0).rows.length (gi d 0).rows.length)&&true)) (dR (nL [.l (gi d 0).rows,.l (gi d 1).rows,.i (gi ((gi d 0).rows.getD (0+((gi d 3).int).toNat) []) 0).int,.i (gi ((gi d 0).rows.getD (0+((gi d 3).int).toNat) []) 1).int,.i ((((gi d 1).rows.length:Nat):Int)-1),.i (gi d 2).int,.i (gi d 3).int,.t (aZ (gi ((gi d 0).rows.getD (0+((gi d 3).int).toNat) []) 0).int (gi ((gi d 1).rows.getD (0+((((gi d 1).rows.length:Nat):Int)-1).toNat) []) 1).int)])) fun a g2=>(bif (ar ((gi g2 3).int+1)) then (bif ((ah (gi g2 1).rows.length (gi g2 1).rows.length)&&((ah (gi g2 0).rows.length (gi g2 0).rows.length)&&true)) then some (none,[.l (gi g2 0).rows,.l (gi g2 1).rows,.i (gi g2 2).int,.i ((gi g2 3).int+1)]) else none) else none)) else none) else none) else (bD ((ah (gi d 1).rows.length (gi d 1).rows.length)&&((ah (gi d 0).rows.length (gi d 0).rows.length)&&true)) (dR (nL [.l (gi d 0).rows,.l (gi d 1).rows,.i (gi ((gi d 0).rows.getD (0+((gi d 3).int).toNat) []) 0).int,.i (gi ((gi d 0).rows.getD (0+((gi d 3).int).toNat) []) 1).int,.i ((((gi d 1).rows.length:Nat):Int)-1),.i (gi d 2).int,.i (gi d 3).int,.t false])) fun b g3=>(bif (ar ((gi g3 3).int+1)) then (bif ((ah (gi g3 1).rows.length (gi g3 1).rows.length)&&((ah (gi g3 0).rows.length (gi g3 0).rows.length)&&true)) then some (none,[.l (gi g3 0).rows,.l (gi g3 1).rows,.i (gi g3 2).int,.i ((gi g3 3).int+1)]) else none) else none))) else none) else none) else none) else (bif ((ah (gi d 1).rows.length (gi d 1).rows.length)&&true) then some (some 0,[.l (gi d 0).rows,.l (gi d 1).rows]) else none))
def JY:bI:=⟨4,[(3,[.int .i64,.int .i64])],⟨48,[(3,.s (.vec 1 2)),(9,.s (.vec 0 2)),(10,.s (.int .i64)),(11,.s (.int .i64))],[.vec [.int .i64,.int .i64] 0,.vec [.int .i64,.int .i64] 0]⟩,[.fix 0,.slot 3],[⟨.exit 0,⟨48,[(3,.s (.vec 1 2))],[.vec [.int .i64,.int .i64] 0,.vec [.int .i64,.int .i64] 0]⟩,[.fix 0,.slot 3]⟩],sE⟩
theorem UP:cP P t56 BM 1 (cU Tryz.f45 4) JY:=fun d=>by kernel_rfl
def JZ:LT:=BM.add 1 JY
theorem UQ:ay P 1 JZ (aY Tryz.f45):=ay.a hm wD UO UP
def sF(d:List G):Option (List G) :=
 (hG (((ah (gi d 0).rows.length (gi d 0).rows.length)&&true)&&(sC [.l (gi d 0).rows]).isSome) (sC [.l (gi d 0).rows]) fun g1=>(bD ((ah (gi d 0).rows.length (gi g1 0).rows.length)&&true) (cf sE [.l (gi g1 0).rows,.l [],.i (((gi d 0).rows.length:Nat):Int),.i 0]) fun a g4=>(bif ((ah (gi g4 1).rows.length (gi g4 1).rows.length)&&true) then some [.l (gi g4 0).rows,.l (gi g4 1).rows] else none)))
def BN:aG:=⟨45,[.s (.vec 0 2)],[.vec [.int .i64,.int .i64] 0],[.slot 0],[.s (.list [.int .i64,.int .i64])],[.vec [.int .i64,.int .i64] 0],[.fix 0],[],sF⟩
theorem UR:bp P t56 JZ Tryz.f45 BN:=fun d=>by kernel_rfl
theorem US:bf P BN:=bB hm wD Tryz.func45 UQ UR
def t57:al:=t56.dt BN
theorem BO:ao P t57:=wD.aW US

def sG(d:List G):Option (Option Nat × List G) :=
 (bif (au (gi d 6).int (gi d 5).int) then (bif ((aO (gi d 6).int)&&(au (gi d 6).int (((gi d 4).rows.length:Nat):Int))) then (bif ((gi ((gi d 4).rows.getD (((gi d 6).int).toNat) []) 0).str.toList==(gi d 1).str.toList) then (bif ((gi d 2).int==0) then (aA (sA [.l [[.i (gi ((gi d 4).rows.getD (((gi d 6).int).toNat) []) 4).int,.i (gi ((gi d 4).rows.getD (((gi d 6).int).toNat) []) 5).int]],.i (gi d 3).int]) fun g1=>(bif (gi g1 0).bool then (bif ((ah (gi d 0).rows.length (gi d 0).rows.length)&&(decide (((gi d 0).rows.length+1)≤1048576))) then (bif (ar ((gi d 6).int+1)) then (bif ((ah ((gi d 0).rows++([[.i (gi ((gi d 4).rows.getD (((gi d 6).int).toNat) []) 1).int,.i (gi ((gi d 4).rows.getD (((gi d 6).int).toNat) []) 2).int]]:List (List G))).length ((gi d 0).rows++([[.i (gi ((gi d 4).rows.getD (((gi d 6).int).toNat) []) 1).int,.i (gi ((gi d 4).rows.getD (((gi d 6).int).toNat) []) 2).int]]:List (List G))).length)&&true) then some (none,[.l ((gi d 0).rows++([[.i (gi ((gi d 4).rows.getD (((gi d 6).int).toNat) []) 1).int,.i (gi ((gi d 4).rows.getD (((gi d 6).int).toNat) []) 2).int]]:List (List G))),.s (gi d 1).str,.i (gi d 2).int,.i (gi d 3).int,.l (gi d 4).rows,.i (gi d 5).int,.i ((gi d 6).int+1)]) else none) else none) else none) else (bif (ar ((gi d 6).int+1)) then (bif ((ah (gi d 0).rows.length (gi d 0).rows.length)&&true) then some (none,[.l (gi d 0).rows,.s (gi d 1).str,.i (gi d 2).int,.i (gi d 3).int,.l (gi d 4).rows,.i (gi d 5).int,.i ((gi d 6).int+1)]) else none) else none))) else (aA (wC [.l (gi ((gi d 4).rows.getD (((gi d 6).int).toNat) []) 3).rows,.i (gi d 2).int]) fun g2=>(bif (gi g2 0).bool then (aA (sA [.l [[.i (gi ((gi d 4).rows.getD (((gi d 6).int).toNat) []) 4).int,.i (gi ((gi d 4).rows.getD (((gi d 6).int).toNat) []) 5).int]],.i (gi d 3).int]) fun g3=>(bif (gi g3 0).bool then (bif ((ah (gi d 0).rows.length (gi d 0).rows.length)&&(decide (((gi d 0).rows.length+1)≤1048576))) then (bif (ar ((gi d 6).int+1)) then (bif ((ah ((gi d 0).rows++([[.i (gi ((gi d 4).rows.getD (((gi d 6).int).toNat) []) 1).int,.i (gi ((gi d 4).rows.getD (((gi d 6).int).toNat) []) 2).int]]:List (List G))).length ((gi d 0).rows++([[.i (gi ((gi d 4).rows.getD (((gi d 6).int).toNat) []) 1).int,.i (gi ((gi d 4).rows.getD (((gi d 6).int).toNat) []) 2).int]]:List (List G))).length)&&true) then some (none,[.l ((gi d 0).rows++([[.i (gi ((gi d 4).rows.getD (((gi d 6).int).toNat) []) 1).int,.i (gi ((gi d 4).rows.getD (((gi d 6).int).toNat) []) 2).int]]:List (List G))),.s (gi d 1).str,.i (gi d 2).int,.i (gi d 3).int,.l (gi d 4).rows,.i (gi d 5).int,.i ((gi d 6).int+1)]) else none) else none) else none) else (bif (ar ((gi d 6).int+1)) then (bif ((ah (gi d 0).rows.length (gi d 0).rows.length)&&true) then some (none,[.l (gi d 0).rows,.s (gi d 1).str,.i (gi d 2).int,.i (gi d 3).int,.l (gi d 4).rows,.i (gi d 5).int,.i ((gi d 6).int+1)]) else none) else none))) else (bif (ar ((gi d 6).int+1)) then (bif ((ah (gi d 0).rows.length (gi d 0).rows.length)&&true) then some (none,[.l (gi d 0).rows,.s (gi d 1).str,.i (gi d 2).int,.i (gi d 3).int,.l (gi d 4).rows,.i (gi d 5).int,.i ((gi d 6).int+1)]) else none) else none)))) else (bif (ar ((gi d 6).int+1)) then (bif ((ah (gi d 0).rows.length (gi d 0).rows.length)&&true) then some (none,[.l (gi d 0).rows,.s (gi d 1).str,.i (gi d 2).int,.i (gi d 3).int,.l (gi d 4).rows,.i (gi d 5).int,.i ((gi d 6).int+1)]) else none) else none)) else none) else (bif ((ah (gi d 0).rows.length (gi d 0).rows.length)&&true) then some (some 0,[.l (gi d 0).rows]) else none))
def J0:bI:=⟨3,[(9,[.int .i64,.int .i64])],⟨49,[(1,.s (.str)),(2,.s (.int .i64)),(3,.s (.int .i64)),(9,.s (.vec 0 2)),(12,.s (.list bg)),(13,.s (.int .i64)),(14,.s (.int .i64))],[.vec [.int .i64,.int .i64] 0]⟩,[.slot 9],[⟨.exit 0,⟨49,[(9,.s (.vec 0 2))],[.vec [.int .i64,.int .i64] 0]⟩,[.slot 9]⟩],sG⟩
theorem UT:cP P t57 aF 0 (cU Tryz.f22 3) J0:=fun d=>by kernel_rfl
def J1:LT:=aF.add 0 J0
theorem UU:ay P 0 J1 (aY Tryz.f22):=ay.a hm BO (aT _ _ _) UT
def sH(d:List G):Option (List G) :=
 (bD true (cf sG [.l [],.s (gi d 1).str,.i (gi d 2).int,.i (gi d 3).int,.l (gi d 0).rows,.i (((gi d 0).rows.length:Nat):Int),.i 0]) fun a g4=>(hG (((ah (gi g4 0).rows.length (gi g4 0).rows.length)&&true)&&(sF [.l (gi g4 0).rows]).isSome) (sF [.l (gi g4 0).rows]) fun g5=>some [.l (gi g5 1).rows]))
def BP:aG:=⟨22,[.s (.list bg),.s (.str),.s (.int .i64),.s (.int .i64)],[],[],[.s (.list [.int .i64,.int .i64])],[],[],[],sH⟩
theorem UW:bp P t57 J1 Tryz.f22 BP:=fun d=>by kernel_rfl
theorem UX:bf P BP:=bB hm BO Tryz.func22 UU UW
def t58:al:=t57.bF BP
theorem J2:ao P t58:=BO.aP UX

def wE(d:List G):Option (List G) :=
 (aA (sx [.l (gi d 0).rows]) fun g1=>(bif ((gi g1 0).int != 0) then some [.l [],.i (gi g1 0).int] else (aA (la [.s (gi d 1).str]) fun g2=>(bif (!(gi g2 0).bool) then some [.l [],.i 5] else (aA (nI [.i (gi d 2).int]) fun g3=>(bif (!(gi g3 0).bool) then some [.l [],.i 4] else (aA (pr [.i (gi d 3).int]) fun g4=>(bif (!(gi g4 0).bool) then some [.l [],.i 1] else (aA (sH [.l (gi d 0).rows,.s (gi d 1).str,.i (gi d 2).int,.i (gi d 3).int]) fun g5=>some [.l (gi g5 0).rows,.i 0])))))))))
def BQ:aG:=⟨6,[.s (.list bg),.s (.str),.s (.int .i64),.s (.int .i64)],[],[],[.s (.list [.int .i64,.int .i64]),.s (.int .i64)],[],[],[],wE⟩
theorem UY:bp P t58 aF Tryz.f6 BQ:=fun d=>by kernel_rfl
theorem UZ:bf P BQ:=bB hm J2 Tryz.func6 (aT _ _ _) UY
def t59:al:=t58.bF BQ
theorem J3:ao P t59:=J2.aP UZ

def sI(d:List G):Option (List G) :=
 (bif (aZ (gi d 1).int (gi d 0).int) then some [.t (aZ (gi d 0).int (gi d 2).int)] else some [.t false])
def BR:aG:=⟨24,[.s (.int .i64),.s (.int .i64),.s (.int .i64)],[],[],[.s (.bool)],[],[],[],sI⟩
theorem U0:bp P t59 aF Tryz.f24 BR:=fun d=>by kernel_rfl
theorem U1:bf P BR:=bB hm J3 Tryz.func24 (aT _ _ _) U0
def t60:al:=t59.bF BR
theorem BS:ao P t60:=J3.aP U1

def J4(d:List G):Option (Option Nat × List G) :=
 (bif (au (gi d 3).int (gi d 2).int) then (bif ((aO (gi d 3).int)&&(au (gi d 3).int (((gi d 0).str.size:Nat):Int))) then (aA (wa [.s (gi d 1).str,.i (((gi d 0).str.data.toList.getD (((gi d 3).int).toNat) 0).toNat:Int)]) fun g1=>(bif (au (gi g1 0).int 0) then some (some 0,[.t false]) else (bif (ar ((gi d 3).int+1)) then some (none,[.s (gi d 0).str,.s (gi d 1).str,.i (gi d 2).int,.i ((gi d 3).int+1)]) else none))) else none) else some (some 1,[]))
def J5:bI:=⟨2,[],⟨18,[(0,.s (.str)),(1,.s (.str)),(7,.s (.int .i64)),(8,.s (.int .i64))],[]⟩,[],[⟨.ret,⟨18,[(4,.s (.bool))],[]⟩,[]⟩,⟨.exit 0,⟨18,[],[]⟩,[]⟩],J4⟩
theorem U2:cP P t60 aF 0 (cU Tryz.f46 2) J5:=fun d=>by kernel_rfl
def J6:LT:=aF.add 0 J5
theorem U3:ay P 0 J6 (aY Tryz.f46):=ay.a hm BS (aT _ _ _) U2
def BT(d:List G):Option (List G) :=
 (bD true (cf J4 [.s (gi d 0).str,.s (gi d 1).str,.i (((gi d 0).str.size:Nat):Int),.i 0]) fun a g2=>(bif ah a 0 then some [.t (gi g2 0).bool] else some [.t true]))
def BU:aG:=⟨46,[.s (.str),.s (.str)],[],[],[.s (.bool)],[],[],[],BT⟩
theorem U4:bp P t60 J6 Tryz.f46 BU:=fun d=>by kernel_rfl
theorem U5:bf P BU:=bB hm BS Tryz.func46 U3 U4
def t61:al:=t60.bF BU
theorem J7:ao P t61:=BS.aP U5

def BV(d:List G):Option (List G) :=
 (aA (sI [.i (((gi d 0).str.size:Nat):Int),.i 1,.i 40]) fun g1=>(bif (gi g1 0).bool then (bif (aZ 1 (((gi d 0).str.size:Nat):Int)) then (aA (BT [.s ((gi d 0).str.extract 0 1),.s (⟨#[97,98,99,100,101,102,103,104,105,106,107,108,109,110,111,112,113,114,115,116,117,118,119,120,121,122]⟩:ByteArray)]) fun g2=>(bif (gi g2 0).bool then (aA (BT [.s (gi d 0).str,.s (⟨#[97,98,99,100,101,102,103,104,105,106,107,108,109,110,111,112,113,114,115,116,117,118,119,120,121,122,48,49,50,51,52,53,54,55,56,57,45,95]⟩:ByteArray)]) fun g3=>some [.t (gi g3 0).bool]) else some [.t false])) else none) else some [.t false]))
def BW:aG:=⟨23,[.s (.str)],[],[],[.s (.bool)],[],[],[],BV⟩
theorem U6:bp P t61 aF Tryz.f23 BW:=fun d=>by kernel_rfl
theorem U7:bf P BW:=bB hm J7 Tryz.func23 (aT _ _ _) U6
def t62:al:=t61.bF BW
theorem J8:ao P t62:=J7.aP U7

def wF(d:List G):Option (List G) :=
 (bif (au (gi (gi d 0).row 0).int 0) then some [.i 1] else (bif (aZ (gi (gi d 0).row 1).int (gi (gi d 0).row 0).int) then some [.i 1] else (bif (au 345686400000 (gi (gi d 0).row 1).int) then some [.i 1] else some [.i 0])))
def BX:aG:=⟨25,[.s (.row [.int .i64,.int .i64])],[],[],[.s (.int .i64)],[],[],[],wF⟩
theorem U8:bp P t62 aF Tryz.f25 BX:=fun d=>by kernel_rfl
theorem U9:bf P BX:=bB hm J8 Tryz.func25 (aT _ _ _) U8
def t63:al:=t62.bF BX
theorem wG:ao P t63:=J8.aP U9

def pE(d:List G):Option (Option Nat × List G) :=
 (bif (au (gi d 13).int (gi d 12).int) then (bif ((aO (gi d 13).int)&&(au (gi d 13).int (((gi d 11).rows.length:Nat):Int))) then (aA (sI [.i (gi ((gi d 11).rows.getD (((gi d 13).int).toNat) []) 0).int,.i 1,.i 3]) fun g2=>(bif (!(gi g2 0).bool) then some (some 0,[.i 4]) else (bif (au 0 (gi d 13).int) then (bif (ar ((gi d 13).int-1)) then (bif ((aO ((gi d 13).int-1))&&(au ((gi d 13).int-1) (((gi d 3).rows.length:Nat):Int))) then (bif (aZ (gi ((gi d 11).rows.getD (((gi d 13).int).toNat) []) 0).int (gi ((gi d 3).rows.getD (((gi d 13).int-1).toNat) []) 0).int) then some (some 0,[.i 7]) else (bif (ar ((gi d 13).int+1)) then some (none,[.s (gi d 0).str,.i (gi d 1).int,.i (gi d 2).int,.l (gi d 3).rows,.i (gi d 4).int,.i (gi d 5).int,.l (gi d 6).rows,.i (gi d 7).int,.l (gi d 8).rows,.i (gi d 9).int,.i (gi d 10).int,.l (gi d 11).rows,.i (gi d 12).int,.i ((gi d 13).int+1)]) else none)) else none) else none) else (bif (ar ((gi d 13).int+1)) then some (none,[.s (gi d 0).str,.i (gi d 1).int,.i (gi d 2).int,.l (gi d 3).rows,.i (gi d 4).int,.i (gi d 5).int,.l (gi d 6).rows,.i (gi d 7).int,.l (gi d 8).rows,.i (gi d 9).int,.i (gi d 10).int,.l (gi d 11).rows,.i (gi d 12).int,.i ((gi d 13).int+1)]) else none)))) else none) else some (some 1,[.s (gi d 0).str,.i (gi d 1).int,.i (gi d 2).int,.l (gi d 3).rows,.i (gi d 4).int,.i (gi d 5).int,.l (gi d 6).rows,.i (gi d 7).int,.l (gi d 8).rows,.i (gi d 9).int,.i (gi d 10).int]))
def J9:bI:=⟨13,[],⟨110,[(0,.s (.list bg)),(3,.s (.int .i64)),(4,.s (.ptr 0 0)),(13,.s (.list bg)),(14,.s (.int .i64)),(15,.s (.int .i64)),(47,.s (.list [.int .i64])),(48,.s (.int .i64)),(49,.s (.int .i64))],[.box [.str,.int .i64,.int .i64,.list [.int .i64],.int .i64,.int .i64]]⟩,[.slot 4],[⟨.ret,⟨110,[(2,.s (.int .i64))],[]⟩,[]⟩,⟨.exit 3,⟨110,[(0,.s (.list bg)),(3,.s (.int .i64)),(4,.s (.ptr 0 0)),(13,.s (.list bg)),(14,.s (.int .i64)),(15,.s (.int .i64))],[.box [.str,.int .i64,.int .i64,.list [.int .i64],.int .i64,.int .i64]]⟩,[.slot 4]⟩],pE⟩
theorem U_:cP P t63 aF 0 (cU Tryz.f7 13) J9:=fun d=>by kernel_rfl
def BY:LT:=aF.add 0 J9
theorem U':ay P 0 BY (aY Tryz.f7):=ay.a hm wG (aT _ _ _) U_
def sJ(d:List G):Option (Option Nat × List G) :=
 (bif (au (gi d 3).int (gi d 2).int) then (bif ((aO (gi d 3).int)&&(au (gi d 3).int (((gi d 1).rows.length:Nat):Int))) then (aA (BV [.s (gi ((gi d 1).rows.getD (((gi d 3).int).toNat) []) 0).str]) fun g1=>(bif (!(gi g1 0).bool) then some (some 0,[.i 5]) else (bif (au (gi ((gi d 1).rows.getD (((gi d 3).int).toNat) []) 1).int 0) then some (some 0,[.i 1]) else (bif (aZ (gi ((gi d 1).rows.getD (((gi d 3).int).toNat) []) 2).int (gi ((gi d 1).rows.getD (((gi d 3).int).toNat) []) 1).int) then some (some 0,[.i 1]) else (bif (au 30000000000 (gi ((gi d 1).rows.getD (((gi d 3).int).toNat) []) 2).int) then some (some 0,[.i 1]) else (bif ((((gi ((gi d 1).rows.getD (((gi d 3).int).toNat) []) 3).rows.length:Nat):Int)==0) then some (some 0,[.i 8]) else (bD true (cf pE [.s (gi ((gi d 1).rows.getD (((gi d 3).int).toNat) []) 0).str,.i (gi ((gi d 1).rows.getD (((gi d 3).int).toNat) []) 1).int,.i (gi ((gi d 1).rows.getD (((gi d 3).int).toNat) []) 2).int,.l (gi ((gi d 1).rows.getD (((gi d 3).int).toNat) []) 3).rows,.i (gi ((gi d 1).rows.getD (((gi d 3).int).toNat) []) 4).int,.i (gi ((gi d 1).rows.getD (((gi d 3).int).toNat) []) 5).int,.l (gi d 0).rows,.i (gi d 3).int,.l (gi d 1).rows,.i (gi d 2).int,.i (gi d 3).int,.l (gi ((gi d 1).rows.getD (((gi d 3).int).toNat) []) 3).rows,.i (((gi ((gi d 1).rows.getD (((gi d 3).int).toNat) []) 3).rows.length:Nat):Int),.i 0]) fun a g3=>(bif ah a 0 then some (some 0,[.i (gi g3 0).int]) else (aA (wF [.l [[.i (gi g3 4).int,.i (gi g3 5).int]]]) fun g4=>(bif ((gi g4 0).int != 0) then some (some 0,[.i (gi g4 0).int]) else (bif (au 0 (gi g3 7).int) then (bif (ar ((gi g3 7).int-1)) then (bif ((aO ((gi g3 7).int-1))&&(au ((gi g3 7).int-1) (((gi g3 6).rows.length:Nat):Int))) then (aA (iH [.s (gi ((gi g3 6).rows.getD (((gi g3 7).int-1).toNat) []) 0).str,.s (gi g3 0).str]) fun g5=>(bif ((gi g5 0).int==0) then (aA (pA [.l [[.i (gi ((gi g3 6).rows.getD (((gi g3 7).int-1).toNat) []) 1).int],[.i (gi ((gi g3 6).rows.getD (((gi g3 7).int-1).toNat) []) 2).int],[.i (gi ((gi g3 6).rows.getD (((gi g3 7).int-1).toNat) []) 4).int]],.l [[.i (gi g3 1).int],[.i (gi g3 2).int],[.i (gi g3 4).int]]]) fun g6=>(bif (aZ 0 (gi g6 0).int) then some (some 0,[.i 7]) else (bif (ar ((gi g3 10).int+1)) then some (none,[.l (gi g3 6).rows,.l (gi g3 8).rows,.i (gi g3 9).int,.i ((gi g3 10).int+1)]) else none))) else (bif (aZ 0 (gi g5 0).int) then some (some 0,[.i 7]) else (bif (ar ((gi g3 10).int+1)) then some (none,[.l (gi g3 6).rows,.l (gi g3 8).rows,.i (gi g3 9).int,.i ((gi g3 10).int+1)]) else none)))) else none) else none) else (bif (ar ((gi g3 10).int+1)) then some (none,[.l (gi g3 6).rows,.l (gi g3 8).rows,.i (gi g3 9).int,.i ((gi g3 10).int+1)]) else none)))))))))))) else none) else some (some 1,[]))
def J_:bI:=⟨4,[],⟨110,[(0,.s (.list bg)),(13,.s (.list bg)),(14,.s (.int .i64)),(15,.s (.int .i64))],[]⟩,[],[⟨.ret,⟨110,[(2,.s (.int .i64))],[]⟩,[]⟩,⟨.exit 0,⟨110,[],[]⟩,[]⟩],sJ⟩
theorem Va:cP P t63 BY 0 (cU Tryz.f7 4) J_:=fun d=>by kernel_rfl
def J':LT:=BY.add 0 J_
theorem Vb:ay P 0 J' (aY Tryz.f7):=ay.a hm wG U' Va
def wH(d:List G):Option (List G) :=
 (bif (au 500 (((gi d 0).rows.length:Nat):Int)) then some [.i 2] else (bD true (cf sJ [.l (gi d 0).rows,.l (gi d 0).rows,.i (((gi d 0).rows.length:Nat):Int),.i 0]) fun a g7=>(bif ah a 0 then some [.i (gi g7 0).int] else some [.i 0])))
def BZ:aG:=⟨7,[.s (.list bg)],[],[],[.s (.int .i64)],[],[],[],wH⟩
theorem Vc:bp P t63 J' Tryz.f7 BZ:=fun d=>by kernel_rfl
theorem Vd:bf P BZ:=bB hm wG Tryz.func7 Vb Vc
def t64:al:=t63.bF BZ
theorem Ka:ao P t64:=wG.aP Vd

def wI(d:List G):Option (List G) :=
 (bif (ar (eG (gi d 1).int 2)) then (bif (ar ((gi d 0).int-(eG (gi d 1).int 2))) then (bif (ar (((gi d 0).int-(eG (gi d 1).int 2))+(gi d 1).int)) then some [.l [[.i ((gi d 0).int-(eG (gi d 1).int 2)),.i (((gi d 0).int-(eG (gi d 1).int 2))+(gi d 1).int)]]] else none) else none) else none)
def B0:aG:=⟨32,[.s (.int .i64),.s (.int .i64)],[],[],[.s (.row [.int .i64,.int .i64])],[],[],[],wI⟩
theorem Ve:bp P t64 aF Tryz.f32 B0:=fun d=>by kernel_rfl
theorem Vf:bf P B0:=bB hm Ka Tryz.func32 (aT _ _ _) Ve
def t65:al:=t64.bF B0
theorem Kb:ao P t65:=Ka.aP Vf

def wJ(d:List G):Option (List G) :=
 (bif (aZ (gi (gi d 0).row 0).int (gi (gi d 1).row 0).int) then some [.t (aZ (gi (gi d 1).row 1).int (gi (gi d 0).row 1).int)] else some [.t false])
def B1:aG:=⟨34,[.s (.row [.int .i64,.int .i64]),.s (.cptr [.int .i64,.int .i64])],[],[],[.s (.bool)],[],[],[],wJ⟩
theorem Vg:bp P t65 aF Tryz.f34 B1:=fun d=>by kernel_rfl
theorem Vh:bf P B1:=bB hm Kb Tryz.func34 (aT _ _ _) Vg
def t66:al:=t65.bF B1
theorem B2:ao P t66:=Kb.aP Vh

def sK(d:List G):Option (Option Nat × List G) :=
 (bif (au (gi d 3).int (gi d 2).int) then (bif ((aO (gi d 3).int)&&(au (gi d 3).int (((gi d 0).rows.length:Nat):Int))) then (aA (wJ [.l [(bM [.int .i64,.int .i64] ((gi d 0).rows.getD (((gi d 3).int).toNat) []))],.l [(bM [.int .i64,.int .i64] (gi d 1).row)]]) fun g1=>(bif (gi g1 0).bool then some (some 0,[.i (gi d 3).int]) else (bif (ar ((gi d 3).int+1)) then some (none,[.l (gi d 0).rows,.l [(bM [.int .i64,.int .i64] (gi d 1).row)],.i (gi d 2).int,.i ((gi d 3).int+1)]) else none))) else none) else some (some 1,[]))
def Kc:bI:=⟨2,[],⟨19,[(0,.s (.list [.int .i64,.int .i64])),(1,.clo 34 [.cptr [.int .i64,.int .i64]]),(7,.s (.int .i64)),(8,.s (.int .i64))],[]⟩,[],[⟨.ret,⟨19,[(4,.s (.int .i64))],[]⟩,[]⟩,⟨.exit 0,⟨19,[],[]⟩,[]⟩],sK⟩
theorem Vi:cP P t66 aF 0 (cU Tryz.f54 2) Kc:=fun d=>by kernel_rfl
def Ke:LT:=aF.add 0 Kc
theorem Vj:ay P 0 Ke (aY Tryz.f54):=ay.a hm B2 (aT _ _ _) Vi
def B3(d:List G):Option (List G) :=
 (bD true (cf sK [.l (gi d 0).rows,.l [(bM [.int .i64,.int .i64] (gi d 1).row)],.i (((gi d 0).rows.length:Nat):Int),.i 0]) fun a g2=>(bif ah a 0 then some [.i (gi g2 0).int] else some [.i (-1)]))
def B4:aG:=⟨54,[.s (.list [.int .i64,.int .i64]),.clo 34 [.cptr [.int .i64,.int .i64]]],[],[],[.s (.int .i64)],[],[],[],B3⟩
theorem Vk:bp P t66 Ke Tryz.f54 B4:=fun d=>by kernel_rfl
theorem Vl:bf P B4:=bB hm B2 Tryz.func54 Vj Vk
def t67:al:=t66.bF B4
theorem Kf:ao P t67:=B2.aP Vl

def wK(d:List G):Option (List G) :=
 (aA (B3 [.l (gi d 0).rows,.l [(bM [.int .i64,.int .i64] (gi d 1).row)]]) fun g1=>some [.t (aZ 0 (gi g1 0).int)])
def B5:aG:=⟨33,[.s (.list [.int .i64,.int .i64]),.clo 34 [.cptr [.int .i64,.int .i64]]],[],[],[.s (.bool)],[],[],[],wK⟩
theorem Vm:bp P t67 aF Tryz.f33 B5:=fun d=>by kernel_rfl
theorem Vn:bf P B5:=bB hm Kf Tryz.func33 (aT _ _ _) Vm
def t68:al:=t67.bF B5
theorem Kg:ao P t68:=Kf.aP Vn

def sL(d:List G):Option (List G) :=
 (aA (sx [.l (gi d 0).rows]) fun g1=>(bif ((gi g1 0).int != 0) then some [.t false,.i (gi g1 0).int] else (aA (la [.s (gi d 1).str]) fun g2=>(bif (!(gi g2 0).bool) then some [.t false,.i 5] else (aA (jb [.i (gi d 2).int,.i 0,.i 30000000000]) fun g3=>(bif (gi g3 0).bool then some [.t false,.i 1] else (aA (jb [.i (gi d 3).int,.i 1,.i 100000]) fun g4=>(bif (gi g4 0).bool then some [.t false,.i 1] else (aA (nI [.i (gi d 4).int]) fun g5=>(bif (!(gi g5 0).bool) then some [.t false,.i 4] else (aA (pr [.i (gi d 5).int]) fun g6=>(bif (!(gi g6 0).bool) then some [.t false,.i 1] else (aA (wI [.i (gi d 2).int,.i (gi d 3).int]) fun g7=>(aA (sH [.l (gi d 0).rows,.s (gi d 1).str,.i (gi d 4).int,.i (gi d 5).int]) fun g8=>(aA (wK [.l (gi g8 0).rows,.l [(bM [.int .i64,.int .i64] (gi g7 0).row)]]) fun g9=>some [.t (gi g9 0).bool,.i 0])))))))))))))))
def B6:aG:=⟨9,[.s (.list bg),.s (.str),.s (.int .i64),.s (.int .i64),.s (.int .i64),.s (.int .i64)],[],[],[.s (.bool),.s (.int .i64)],[],[],[],sL⟩
theorem Vo:bp P (t68.vr [33]) aF Tryz.f9 B6:=fun d=>by kernel_rfl
theorem Vp:bf P B6:=zD hm (Kg.vr [33]) Tryz.func9 (by kernel_rfl) (aT _ _ _) Vo (by kernel_rfl)
def t69:al:=t68.bF B6
theorem wL:ao P t69:=Kg.aP Vp

def sM(r d:List G):Option (List G) :=
 (bif (au (gi (gi r 0).row 0).int 0) then some [.l (gi d 0).rows,.i (gi d 1).int,.l (gi d 2).rows,.l (gi d 3).rows,.i (gi d 4).int,.i (gi d 5).int,.i (((gi d 6).int.toNat:Nat):Int)] else (bif (au 30000000000 (gi (gi r 0).row 0).int) then some [.l (gi d 0).rows,.i (gi d 1).int,.l (gi d 2).rows,.l (gi d 3).rows,.i (gi d 4).int,.i (gi d 5).int,.i (((gi d 6).int.toNat:Nat):Int)] else (aA (sL [.l (gi d 0).rows,.s (⟨#[102,117,108,108]⟩:ByteArray),.i (gi (gi r 0).row 0).int,.i 1,.i 1,.i (gi d 1).int]) fun g6=>(bif ((gi g6 1).int != 0) then none else (bif (!((gi g6 0).bool==(gi (gi r 1).row 0).bool)) then none else some [.l (gi d 0).rows,.i (gi d 1).int,.l (gi d 2).rows,.l (gi d 3).rows,.i (gi d 4).int,.i (gi d 5).int,.i (((gi d 6).int.toNat:Nat):Int)])))))
def B7(d:List G)(b:Nat):List G:=[.l (gi d 2).rows,.i (gi d 3).int,.l (gi d 4).rows,.l (gi d 5).rows,.i (gi d 6).int,.i (gi d 7).int,.i (b:Int)]
def Vq(d:List G)(b:Nat):Bool:=true
def ic:dS:=⟨⟨103,[(4,.s (.list bg)),(5,.s (.int .i64)),(6,.s (.list [.int .i64,.int .i64])),(36,.s (.list [.int .i64,.int .i64])),(37,.s (.int .i64)),(38,.s (.int .i64)),(75,.s (.addr))],[]⟩,[],[],(.one (.int .i64)),(.one (.bool)),1,0,74,75,76,77,78,fun d=>(gi d 6).int.toNat,B7,Vq,sM⟩
theorem Vr:rH P t69 aF 0 ic (pk (Code.seq (cutAt Tryz.f3 11) .skip)) (rJ (Code.seq (cutAt Tryz.f3 11) .skip)) 3:=fun r d=>by kernel_rfl
def Vs(d:List G):Option (Option Nat × List G) :=
 some (some 0,[.l (gi d 0).rows,.i (gi d 1).int,.l (gi d 2).rows,.l (gi d 3).rows,.i (gi d 4).int,.i (gi d 5).int])
def fS:List Nat:=[3,7,11,14]
def wM(σ:List Nat):List Nat:=[0,1,2,4,5,6,8,9,10,12,13]++σ++[15]
def lf(d:List G)(i:Nat):List G:=match i with
 |3=>[.i (gi d 0).int]
 |7=>[.i ((gi d 1).int-1)]
 |11=>[.i ((gi d 0).int-1)]
 |_=>[.i (gi d 1).int]
def pF(i:Nat):List G:=match i with
 |3=>[.t true]
 |7=>[.t true]
 |_=>[.t false]
def mu(σ:List Nat)(d:List G):List (List G) × Nat:=σ.foldl (fun s i=>(fB [.int .i64] s.1 (lf d i) (pF i) s.2,dP [.int .i64] s.1 (lf d i) s.2)) ([],0)
def sN(d:List G):Bool:=ar ((gi d 1).int-1)&&(ar ((gi d 0).int-1)&&true)
def sO(d:List G):Option (Option Nat × List G) :=
 mn (bW 4 fS) fun σ=>bif sN d then hY ic Vs (mu σ d).1 (mu σ d).2 d else none
def wN:bI:=⟨11,[],⟨103,[(4,.s (.list bg)),(5,.s (.int .i64)),(6,.s (.list [.int .i64,.int .i64])),(9,.s (.ptr 0 0)),(36,.s (.list [.int .i64,.int .i64])),(37,.s (.int .i64)),(38,.s (.int .i64))],[.box [.int .i64,.int .i64]]⟩,[.slot 9],[⟨.normal,⟨103,[(4,.s (.list bg)),(5,.s (.int .i64)),(6,.s (.list [.int .i64,.int .i64])),(36,.s (.list [.int .i64,.int .i64])),(37,.s (.int .i64)),(38,.s (.int .i64))],[]⟩,[]⟩],sO⟩
theorem wp_ops:jH (Code.seq (cutAt Tryz.f3 11) .skip)=jH (Code.seq (cutAt Tryz.f3 11) .skip):=rfl
def B8(σ:List Nat):Array Oper:=fj (jH (Code.seq (cutAt Tryz.f3 11) .skip)) (wM σ) σ fS
def sP(σ:List Nat)(d:List G):aj:=P9 P t69 (B8 σ) (aI wN.inv d)
theorem Vt:((bW 4 fS).all fun σ=>k9 (jH (Code.seq (cutAt Tryz.f3 11) .skip)) (wM σ)&&jx t69.pf (fj (jH (Code.seq (cutAt Tryz.f3 11) .skip)) (wM σ) σ fS))=true:=by kernel_rfl
theorem Vu(d:List G):(bW 4 fS).map (fun σ=>(lS P t69 (B8 σ) (B8 σ).toList 0 (aI wN.inv d) ⟨[],[]⟩ fun s=>.done .normal s).mh)=(bW 4 fS).map fun σ=>some (sN d,.normal,sP σ d):=by kernel_rfl
theorem Vv(d:List G):(bW 4 fS).map (fun σ=>(sP σ d).eval (.tmp ic.y))=(bW 4 fS).map fun _=>.map ic.id:=by kernel_rfl
theorem Vw(d:List G):(bW 4 fS).map (fun σ=>(sP σ d).H[ic.id]?)=(bW 4 fS).map fun σ=>some (.map ic.K ic.V (mu σ d).1 (mu σ d).2):=by kernel_rfl
theorem Vx(d:List G)(b:Nat):(bW 4 fS).map (fun σ=>eJ 0 ic.inv ic.ps (fi ic.opens (ic.s2 (sP σ d) b)))=(bW 4 fS).map fun _=>some (ic.side d b,ic.init d b):=by kernel_rfl
def B9:LT:=aF.gk 0 wN
theorem Vy:ay P 0 B9 (aY Tryz.f3):=ay.Qe (q:=wN) (o:=⟨.normal,⟨103,[(4,.s (.list bg)),(5,.s (.int .i64)),(6,.s (.list [.int .i64,.int .i64])),(36,.s (.list [.int .i64,.int .i64])),(37,.s (.int .i64)),(38,.s (.int .i64))],[]⟩,[]⟩) (sp:=ic) (r0:=11) (b0:=2) (r1:=12) (b1:=3) (r2:=13) (I:=fS) (c:=wM) (rows:=fun σ d=>(mu σ d).1) (clock:=fun σ d=>(mu σ d).2) (sd:=fun _ d=>sN d) (pre:=sP) (es:=fun _=>true) (e:=fun d=>[.l (gi d 0).rows,.i (gi d 1).int,.l (gi d 2).rows,.l (gi d 3).rows,.i (gi d 4).int,.i (gi d 5).int]) hm wL (by kernel_rfl) (aT _ _ _) rfl rfl rfl rfl (by kernel_rfl) (by kernel_rfl) Vr (fun d=>by kernel_rfl) (fun d=>by kernel_rfl) (fun d=>by kernel_rfl) (by kernel_rfl) (by kernel_rfl) Vt
 (fun σ a d=>CM.1 (Vu d) σ a) (fun σ a d=>CM.1 (Vv d) σ a) (fun σ a d=>CM.1 (Vw d) σ a) (fun σ a d b=>CM.1 (Vx d b) σ a) (fun d b=>rfl) rfl rfl (fun d=>by kernel_rfl) (fun d=>rfl)
def sQ(d:List G):Option (Option Nat × List G) :=
 (bif (au (gi d 5).int (gi d 4).int) then (bif ((aO (gi d 5).int)&&(au (gi d 5).int (((gi d 3).rows.length:Nat):Int))) then (bif (aZ (gi ((gi d 3).rows.getD (((gi d 5).int).toNat) []) 1).int (gi ((gi d 3).rows.getD (((gi d 5).int).toNat) []) 0).int) then some (some 0,[.t false]) else (bif (au 0 (gi d 5).int) then (bif (ar ((gi d 5).int-1)) then (bif ((aO ((gi d 5).int-1))&&(au ((gi d 5).int-1) (((gi d 2).rows.length:Nat):Int))) then (bif (aZ (gi ((gi d 3).rows.getD (((gi d 5).int).toNat) []) 0).int (gi ((gi d 2).rows.getD (((gi d 5).int-1).toNat) []) 1).int) then some (some 0,[.t false]) else (bD true (dR (sO [.i (gi ((gi d 3).rows.getD (((gi d 5).int).toNat) []) 0).int,.i (gi ((gi d 3).rows.getD (((gi d 5).int).toNat) []) 1).int,.l (gi d 0).rows,.i (gi d 1).int,.l (gi d 2).rows,.l (gi d 3).rows,.i (gi d 4).int,.i (gi d 5).int])) fun a g7=>(bif (ar ((gi g7 5).int+1)) then some (none,[.l (gi g7 0).rows,.i (gi g7 1).int,.l (gi g7 2).rows,.l (gi g7 3).rows,.i (gi g7 4).int,.i ((gi g7 5).int+1)]) else none))) else none) else none) else (bD true (dR (sO [.i (gi ((gi d 3).rows.getD (((gi d 5).int).toNat) []) 0).int,.i (gi ((gi d 3).rows.getD (((gi d 5).int).toNat) []) 1).int,.l (gi d 0).rows,.i (gi d 1).int,.l (gi d 2).rows,.l (gi d 3).rows,.i (gi d 4).int,.i (gi d 5).int])) fun b g8=>(bif (ar ((gi g8 5).int+1)) then some (none,[.l (gi g8 0).rows,.i (gi g8 1).int,.l (gi g8 2).rows,.l (gi g8 3).rows,.i (gi g8 4).int,.i ((gi g8 5).int+1)]) else none)))) else none) else some (some 1,[]))
def Kh:bI:=⟨7,[],⟨103,[(4,.s (.list bg)),(5,.s (.int .i64)),(6,.s (.list [.int .i64,.int .i64])),(36,.s (.list [.int .i64,.int .i64])),(37,.s (.int .i64)),(38,.s (.int .i64))],[]⟩,[],[⟨.ret,⟨103,[(2,.s (.bool))],[]⟩,[]⟩,⟨.exit 0,⟨103,[],[]⟩,[]⟩],sQ⟩
theorem Vz:cP P t69 B9 0 (cU Tryz.f3 7) Kh:=fun d=>by kernel_rfl
def Ki:LT:=B9.add 0 Kh
theorem VA:ay P 0 Ki (aY Tryz.f3):=ay.a hm wL Vy Vz
def B_(d:List G):Option (List G) :=
 (aA (wy [.l (gi d 0).rows,.i 0]) fun g1=>(aA (sk [.l (gi g1 0).rows,.i (gi g1 1).int,.i 0,.i 200]) fun g2=>(aA (wE [.l (gi g1 2).rows,.s (⟨#[102,117,108,108]⟩:ByteArray),.i 1,.i (gi g2 2).int]) fun g3=>(bif ((gi g3 1).int != 0) then (aA (wH [.l (gi g1 2).rows]) fun g4=>(bif ((gi g4 0).int==(gi g3 1).int) then (aA (sf []) fun g5=>some [.t (gi g5 0).bool]) else some [.t false])) else (bD true (cf sQ [.l (gi g1 2).rows,.i (gi g2 2).int,.l (gi g3 0).rows,.l (gi g3 0).rows,.i (((gi g3 0).rows.length:Nat):Int),.i 0]) fun a g9=>(bif ah a 0 then some [.t (gi g9 0).bool] else (aA (sf []) fun g10=>some [.t (gi g10 0).bool])))))))
def Ca:aG:=⟨3,[.s (.list [.int .i64])],[],[],[.s (.bool)],[],[],[],B_⟩
theorem VB:bp P t69 Ki Tryz.f3 Ca:=fun d=>by kernel_rfl
theorem Kj:bf P Ca:=bB hm wL Tryz.func3 VA VB
def t70:al:=t69.bF Ca
theorem XV:ao P t70:=wL.aP Kj

end
end Go.Proofs.jJ
