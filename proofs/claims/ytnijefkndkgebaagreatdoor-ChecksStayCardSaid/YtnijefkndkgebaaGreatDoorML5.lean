/-
 What is proved here: functions of the program as functions on data. No condition.
-/
import Derived.Test.YtnijefkndkgebaaGreatDoorML4
set_option linter.all false
open Nat renaming beq→ad
namespace Go.Proofs.iE
open Go Go.AL Go.Proofs
noncomputable section
def vQ(d:List G):Option (Option Nat × List G) :=
 (bif (aj (gi d 7).int (gi d 6).int) then (bif ((aw (gi d 7).int)&&(aj (gi d 7).int (((gi d 5).rows.length:Nat):Int))) then (aB (zM [.l [(aD [.str,.list ae] ((gi d 5).rows.getD (((gi d 7).int).toNat) []))]]) fun g1=>(bif ((gi g1 0).int != 0) then some (some 0,[.i (gi g1 0).int]) else (bif (aq ((gi d 7).int+1)) then some (none,[.s (gi d 0).str,.l (gi d 1).rows,.s (gi d 2).str,.l (gi d 3).rows,.i (gi d 4).int,.l (gi d 5).rows,.i (gi d 6).int,.i ((gi d 7).int+1)]) else none))) else none) else some (some 1,[.s (gi d 0).str,.l (gi d 1).rows,.s (gi d 2).str,.l (gi d 3).rows,.i (gi d 4).int]))
def Qw:be:=⟨2,[],⟨31,[(2,.s (.int .i64)),(3,.s (.ptr 0 0)),(4,.s (.ptr 1 0)),(12,.s (.list [.str,.list ae])),(13,.s (.int .i64)),(14,.s (.int .i64))],[.box [.str,.list ae],.box [.str,.list ae]]⟩,[.slot 3,.slot 4],[⟨.ret,⟨31,[(6,.s (.int .i64))],[]⟩,[]⟩,⟨.exit 0,⟨31,[(2,.s (.int .i64)),(3,.s (.ptr 0 0)),(4,.s (.ptr 1 0))],[.box [.str,.list ae],.box [.str,.list ae]]⟩,[.slot 3,.slot 4]⟩],vQ⟩
theorem ae4:bY P t93 ay 0 (b_ Tryz.f46 2) Qw:=fun d=>by kernel_rfl
def Qx:LT:=ay.add 0 Qw
theorem ae5:ax P 0 Qx (aQ Tryz.f46):=ax.a hm F2 (aN _ _ _) ae4
def zN(d:List G):Option (List G) :=
 (aM true (bD vQ [.s (gi (gi d 0).row 0).str,.l (gi (gi d 0).row 1).rows,.s (gi (gi d 1).row 0).str,.l (gi (gi d 1).row 1).rows,.i (gi d 2).int,.l [(aD [.str,.list ae] (gi d 0).row),(aD [.str,.list ae] (gi d 1).row)],.i 2,.i 0]) fun g g2=>(bif ad g 0 then some [.i (gi g2 0).int] else (bif ((gi g2 0).str.toList==(gi g2 2).str.toList) then some [.i 6] else (aB (rW [.i (gi g2 4).int]) fun g3=>some [.i (gi g3 0).int]))))
def F3:aH:=⟨46,[.s (.row [.str,.list ae]),.s (.row [.str,.list ae]),.s (.int .i64)],[],[],[.s (.int .i64)],[],[],[],zN⟩
theorem ae6:aZ P t93 Qx Tryz.f46 F3:=fun d=>by kernel_rfl
theorem ae7:aX P F3:=a7 hm F2 Tryz.func46 ae5 ae6
def t94:ak:=t93.bJ F3
theorem F4:al P t94:=F2.aP ae7

def zO(r d:List G):Option (List G) :=
 (aB (vD [.l (gi d 1).rows,.l (gi d 3).rows,.l (gi (gi r 1).row 0).rows,.l (gi (az [.str,.int .i64] (gi d 4).rows (aD [.str,.int .i64] (gi r 0).row) [.l []]) 0).rows,.i (gi d 7).int,.l []]) fun g3=>(bif ((ad (gi d 6).rows.length (gi d 6).rows.length)&&(decide (((gi d 6).rows.length+(gi g3 6).rows.length)≤1048576))) then (bif ((ad ((gi d 6).rows++(gi g3 6).rows).length ((gi d 6).rows++(gi g3 6).rows).length)&&true) then some [.s (gi d 0).str,.l (gi d 1).rows,.s (gi d 2).str,.l (gi d 3).rows,.l (gi d 4).rows,.i (((gi d 5).int.toNat:Nat):Int),.l ((gi d 6).rows++(gi g3 6).rows),.i (gi d 7).int,.i (((gi d 8).int.toNat:Nat):Int)] else none) else none))
def ae8(d:List G)(b:Nat):List G:=[.s (gi d 0).str,.l (gi d 1).rows,.s (gi d 2).str,.l (gi d 3).rows,.l (gi d 6).rows,.i (((gi d 7).int.toNat:Nat):Int),.l (gi d 8).rows,.i (gi d 9).int,.i (b:Int)]
def ae9(d:List G)(b:Nat):Bool:=((ad (gi d 8).rows.length (gi d 8).rows.length)&&true)
def zP:fj:=⟨⟨48,[(2,.s (.int .i64)),(3,.s (.ptr 0 0)),(4,.s (.ptr 1 0)),(8,.s (.map 2)),(9,.s (.vec 3 2)),(24,.s (.addr))],[.box [.str,.list ae],.box [.str,.list ae],.map (.agg [.str,.int .i64]) (.one (.list [.int .i64])),.vec [.int .i64,.int .i64] 0]⟩,[.slot 3,.slot 4,.slot 8,.slot 9],[],(.agg [.str,.int .i64]),(.one (.list [.int .i64])),2,0,23,24,25,26,27,fun d=>(gi d 8).int.toNat,ae8,ae9,zO⟩
theorem ae_:iV P t94 ay 0 zP (mo (cutAt Tryz.f47 3)) (pB (cutAt Tryz.f47 3)):=fun r d=>by kernel_rfl
def zQ(d:List G):Option (Option Nat × List G) :=
 (eE (((ad (gi d 6).rows.length (gi d 6).rows.length)&&true)&&(nR [.l (gi d 6).rows]).isSome) (nR [.l (gi d 6).rows]) fun g4=>(bif ((ad (gi d 6).rows.length (gi g4 0).rows.length)&&true) then some (some 0,[.l (gi g4 0).rows]) else none))
def Qy:be:=⟨8,[],⟨48,[(2,.s (.int .i64)),(3,.s (.ptr 0 0)),(4,.s (.ptr 1 0)),(8,.s (.map 2)),(9,.s (.vec 3 2)),(24,.s (.addr))],[.box [.str,.list ae],.box [.str,.list ae],.map (.agg [.str,.int .i64]) (.one (.list [.int .i64])),.vec [.int .i64,.int .i64] 0]⟩,[],[⟨.ret,⟨48,[(6,.s (.vec 0 2))],[.vec [.int .i64,.int .i64] 0]⟩,[.slot 6]⟩],zQ⟩
theorem ae':eU P t94 ay 0 (pA (cutAt Tryz.f47 3)) Qy:=fun d=>by kernel_rfl
def F5(d:List G):Option (Option Nat × List G) :=
 iC zP zQ (gi d 4).rows ((gi d 5).int.toNat) d
def F6:be:=⟨3,[(9,[.int .i64,.int .i64])],⟨48,[(2,.s (.int .i64)),(3,.s (.ptr 0 0)),(4,.s (.ptr 1 0)),(7,.s (.map 2)),(8,.s (.map 3)),(9,.s (.vec 4 2))],[.box [.str,.list ae],.box [.str,.list ae],.map (.agg [.str,.int .i64]) (.one (.list [.int .i64])),.map (.agg [.str,.int .i64]) (.one (.list [.int .i64])),.vec [.int .i64,.int .i64] 0]⟩,[.slot 3,.slot 4,.slot 7,.slot 8,.slot 9],[⟨.ret,⟨48,[(6,.s (.vec 0 2))],[.vec [.int .i64,.int .i64] 0]⟩,[.slot 6]⟩],F5⟩
def Qz:LT:=ay.dP 0 F6
theorem afa:ax P 0 Qz (aQ Tryz.f47):=ax.Li (q:=F6) (qr:=Qy) (sp:=zP) (r0:=3) (b0:=0) (r1:=4) (b1:=1) (r2:=5) (rows:=fun d=>(gi d 4).rows) (clock:=fun d=>(gi d 5).int.toNat) (pre:=fun d=>C1 P t94 (kL (cutAt Tryz.f47 3)) (aR F6.inv d)) hm F4 (by kernel_rfl) (aN _ _ _) (by kernel_rfl) (by kernel_rfl) ae_ (fun d=>by kernel_rfl) (fun d=>by kernel_rfl) (fun d=>by kernel_rfl) (fun d=>by kernel_rfl) (fun d=>by kernel_rfl) (fun d=>by kernel_rfl) (fun d b=>by kernel_rfl) (fun d b=>rfl) rfl rfl ae' (fun d=>rfl)
def zR(d:List G):Option (List G) :=
 (aB (pR [.l (gi (gi d 0).row 1).rows,.s (gi (gi d 1).row 0).str]) fun g1=>(aB (pR [.l (gi (gi d 1).row 1).rows,.s (gi (gi d 0).row 0).str]) fun g2=>(aM true (bV (F5 [.s (gi (gi d 0).row 0).str,.l (gi (gi d 0).row 1).rows,.s (gi (gi d 1).row 0).str,.l (gi (gi d 1).row 1).rows,.l (gi g1 0).rows,.i (((gi g1 1).int.toNat:Nat):Int),.l (gi g2 0).rows,.i (((gi g2 1).int.toNat:Nat):Int),.l [],.i (gi d 2).int])) fun g g5=>(bif ((ad (gi g5 0).rows.length (gi g5 0).rows.length)&&true) then some [.l (gi g5 0).rows] else none))))
def F7:aH:=⟨47,[.s (.row [.str,.list ae]),.s (.row [.str,.list ae]),.s (.int .i64)],[],[],[.s (.vec 0 2)],[.vec [.int .i64,.int .i64] 0],[.slot 0],[],zR⟩
theorem afb:aZ P t94 Qz Tryz.f47 F7:=fun d=>by kernel_rfl
theorem afc:aX P F7:=a7 hm F4 Tryz.func47 afa afb
def t95:ak:=t94.cq F7
theorem QA:al P t95:=F4.aW afc

def zT(d:List G):Option (List G) :=
 (aB (zN [.l [(aD [.str,.list ae] (gi d 0).row)],.l [(aD [.str,.list ae] (gi d 1).row)],.i (gi d 2).int]) fun g1=>(bif ((gi g1 0).int != 0) then some [.l [],.i (gi g1 0).int] else (aB (zR [.l [(aD [.str,.list ae] (gi d 0).row)],.l [(aD [.str,.list ae] (gi d 1).row)],.i (gi d 2).int]) fun g2=>(bif ((ad (gi g2 0).rows.length (gi g2 0).rows.length)&&true) then some [.l (gi g2 0).rows,.i 0] else none))))
def F8:aH:=⟨19,[.s (.row [.str,.list ae]),.s (.row [.str,.list ae]),.s (.int .i64)],[],[],[.s (.vec 0 2),.s (.int .i64)],[.vec [.int .i64,.int .i64] 0],[.slot 0],[(6,[.int .i64,.int .i64])],zT⟩
theorem afd:aZ P t95 ay Tryz.f19 F8:=fun d=>by kernel_rfl
theorem afe:aX P F8:=a7 hm QA Tryz.func19 (aN _ _ _) afd
def t96:ak:=t95.cq F8
theorem F9:al P t96:=QA.aW afe

def zU(d:List G):Option (Option Nat × List G) :=
 (bif (aj (gi d 4).int (gi d 3).int) then (bif ((aw (gi d 4).int)&&(aj (gi d 4).int (((gi d 0).rows.length:Nat):Int))) then (bif (decide ((0+((gi d 4).int).toNat)<(gi d 0).rows.length)) then (bif (aq ((gi d 4).int+1)) then (bif ((ad (gi d 0).rows.length ((gi d 0).rows.set (0+((gi d 4).int).toNat) (aV [.int .i64,.int .i64] ((gi d 0).rows.getD (0+((gi d 4).int).toNat) []) 0 [.i (gi d 1).int,.i (gi d 2).int])).length)&&true) then some (none,[.l ((gi d 0).rows.set (0+((gi d 4).int).toNat) (aV [.int .i64,.int .i64] ((gi d 0).rows.getD (0+((gi d 4).int).toNat) []) 0 [.i (gi d 1).int,.i (gi d 2).int])),.i (gi d 1).int,.i (gi d 2).int,.i (gi d 3).int,.i ((gi d 4).int+1)]) else none) else none) else none) else none) else some (some 0,[.l (gi d 0).rows]))
def QB:be:=⟨2,[],⟨14,[(0,.s (.vec 0 2)),(2,.s (.ptr 1 0)),(5,.s (.int .i64)),(6,.s (.int .i64))],[.vec [.int .i64,.int .i64] 0,.box [.int .i64,.int .i64]]⟩,[.fix 0,.slot 2],[⟨.exit 0,⟨14,[],[.vec [.int .i64,.int .i64] 0]⟩,[.fix 0]⟩],zU⟩
theorem aff:bY P t96 ay 1 (b_ Tryz.f20 2) QB:=fun d=>by kernel_rfl
def QC:LT:=ay.add 1 QB
theorem afg:ax P 1 QC (aQ Tryz.f20):=ax.a hm F9 (aN _ _ _) aff
def vR(d:List G):Option (List G) :=
 (aM ((ad (gi d 0).rows.length (gi d 0).rows.length)&&true) (bD zU [.l (gi d 0).rows,.i 0,.i 0,.i (((gi d 0).rows.length:Nat):Int),.i 0]) fun g g1=>some [.l (gi g1 0).rows])
def F_:aH:=⟨20,[.s (.vec 0 2)],[.vec [.int .i64,.int .i64] 0],[.slot 0],[],[.vec [.int .i64,.int .i64] 0],[.fix 0],[],vR⟩
theorem afh:aZ P t96 QC Tryz.f20 F_:=fun d=>by kernel_rfl
theorem afi:aX P F_:=a7 hm F9 Tryz.func20 afg afh
def t97:ak:=t96.cq F_
theorem F':al P t97:=F9.aW afi

def QD(d:List G):Option (Option Nat × List G) :=
 (bif (aj (gi d 3).int (gi d 2).int) then (bif ((aw (gi d 3).int)&&(aj (gi d 3).int (((gi d 0).rows.length:Nat):Int))) then (bif ((aw (gi d 3).int)&&(aj (gi d 3).int (((gi d 1).rows.length:Nat):Int))) then (bif (!(a_ ae (aD ae ((gi d 0).rows.getD (((gi d 3).int).toNat) [])) (aD ae ((gi d 1).rows.getD (((gi d 3).int).toNat) [])))) then some (some 0,[.t false]) else (bif (aq ((gi d 3).int+1)) then some (none,[.l (gi d 0).rows,.l (gi d 1).rows,.i (gi d 2).int,.i ((gi d 3).int+1)]) else none)) else none) else none) else some (some 1,[]))
def QE:be:=⟨4,[],⟨26,[(0,.s (.list ae)),(1,.s (.list ae)),(12,.s (.int .i64)),(13,.s (.int .i64))],[]⟩,[],[⟨.ret,⟨26,[(4,.s (.bool))],[]⟩,[]⟩,⟨.exit 0,⟨26,[],[]⟩,[]⟩],QD⟩
theorem afj:bY P t97 ay 0 (b_ Tryz.f48 4) QE:=fun d=>by kernel_rfl
def QF:LT:=ay.add 0 QE
theorem afk:ax P 0 QF (aQ Tryz.f48):=ax.a hm F' (aN _ _ _) afj
def Ga(d:List G):Option (List G) :=
 (bif ((((gi d 0).rows.length:Nat):Int) != (((gi d 1).rows.length:Nat):Int)) then some [.t false] else (aM true (bD QD [.l (gi d 0).rows,.l (gi d 1).rows,.i (((gi d 0).rows.length:Nat):Int),.i 0]) fun g g1=>(bif ad g 0 then some [.t (gi g1 0).bool] else some [.t true])))
def Gb:aH:=⟨48,[.s (.list ae),.s (.list ae)],[],[],[.s (.bool)],[],[],[],Ga⟩
theorem afl:aZ P t97 QF Tryz.f48 Gb:=fun d=>by kernel_rfl
theorem afm:aX P Gb:=a7 hm F' Tryz.func48 afk afl
def t98:ak:=t97.bJ Gb
theorem QG:al P t98:=F'.aP afm

def Gc(d:List G):Option (List G) :=
 (bif ((gi (gi d 0).row 0).str.toList==(gi (gi d 1).row 0).str.toList) then (aB (Ga [.l (gi (gi d 0).row 1).rows,.l (gi (gi d 1).row 1).rows]) fun g1=>some [.t (gi g1 0).bool]) else some [.t false])
def Gd:aH:=⟨22,[.s (.row [.str,.list ae]),.s (.row [.str,.list ae])],[],[],[.s (.bool)],[],[],[],Gc⟩
theorem afn:aZ P t98 ay Tryz.f22 Gd:=fun d=>by kernel_rfl
theorem afo:aX P Gd:=a7 hm QG Tryz.func22 (aN _ _ _) afn
def t99:ak:=t98.bJ Gd
theorem Ge:al P t99:=QG.aP afo

def vS(d:List G):Option (Option Nat × List G) :=
 (bif (aj (gi d 3).int (gi d 2).int) then (bif ((aw (gi d 3).int)&&(aj (gi d 3).int (((gi d 1).rows.length:Nat):Int))) then (bif ((aw (gi d 3).int)&&(aj (gi d 3).int (((gi d 0).rows.length:Nat):Int))) then (aB (Gc [.l [(aD [.str,.list ae] ((gi d 1).rows.getD (((gi d 3).int).toNat) []))],.l [(aD [.str,.list ae] ((gi d 0).rows.getD (((gi d 3).int).toNat) []))]]) fun g1=>(bif (!(gi g1 0).bool) then some (some 0,[.t false]) else (bif (aq ((gi d 3).int+1)) then some (none,[.l (gi d 0).rows,.l (gi d 1).rows,.i (gi d 2).int,.i ((gi d 3).int+1)]) else none))) else none) else none) else some (some 1,[]))
def QH:be:=⟨4,[],⟨32,[(1,.s (.list [.str,.list ae])),(2,.s (.fn 22)),(15,.s (.list [.str,.list ae])),(16,.s (.int .i64)),(17,.s (.int .i64))],[]⟩,[],[⟨.ret,⟨32,[(6,.s (.bool))],[]⟩,[]⟩,⟨.exit 0,⟨32,[],[]⟩,[]⟩],vS⟩
theorem afp:bY P t99 ay 0 (b_ Tryz.f21 4) QH:=fun d=>by kernel_rfl
def QI:LT:=ay.add 0 QH
theorem afq:ax P 0 QI (aQ Tryz.f21):=ax.a hm Ge (aN _ _ _) afp
def vT(d:List G):Option (List G) :=
 (bif ((((gi d 0).rows.length:Nat):Int) != (((gi d 1).rows.length:Nat):Int)) then some [.t false] else (aM true (bD vS [.l (gi d 1).rows,.l (gi d 0).rows,.i (((gi d 0).rows.length:Nat):Int),.i 0]) fun g g2=>(bif ad g 0 then some [.t (gi g2 0).bool] else some [.t true])))
def Gf:aH:=⟨21,[.s (.list [.str,.list ae]),.s (.list [.str,.list ae]),.s (.fn 22)],[],[],[.s (.bool)],[],[],[],vT⟩
theorem afr:aZ P t99 QI Tryz.f21 Gf:=fun d=>by kernel_rfl
theorem afs:aX P Gf:=a7 hm Ge Tryz.func21 afq afr
def t100:ak:=t99.bJ Gf
theorem Gg:al P t100:=Ge.aP afs

def su(d:List G):Option (Option Nat × List G) :=
 (bif (aj (gi d 4).int (gi d 3).int) then (bif ((aw (gi d 4).int)&&(aj (gi d 4).int (((gi d 2).rows.length:Nat):Int))) then (aB (sn [.l (gi d 0).rows,.s (gi ((gi d 2).rows.getD (((gi d 4).int).toNat) []) 0).str,.i 60]) fun g3=>(eE (((ad (gi g3 0).rows.length (gi g3 0).rows.length)&&true)&&(pU [.l (gi g3 0).rows]).isSome) (pU [.l (gi g3 0).rows]) fun g4=>(aB (sq [.l (gi d 0).rows,.s (gi ((gi d 2).rows.getD (((gi d 4).int).toNat) []) 0).str,.i 60]) fun g5=>(eE (((ad (gi g5 0).rows.length (gi g5 0).rows.length)&&true)&&(pU [.l (gi g5 0).rows]).isSome) (pU [.l (gi g5 0).rows]) fun g6=>(aB (zK [.l (gi d 0).rows,.s (gi ((gi d 2).rows.getD (((gi d 4).int).toNat) []) 0).str,.i 60]) fun g7=>(eE (((ad (gi g7 0).rows.length (gi g7 0).rows.length)&&true)&&(vP [.l (gi g7 0).rows]).isSome) (vP [.l (gi g7 0).rows]) fun g8=>(bif (aq ((gi d 4).int+1)) then some (none,[.l (gi d 0).rows,.l (gi d 1).rows,.l (gi d 2).rows,.i (gi d 3).int,.i ((gi d 4).int+1)]) else none))))))) else none) else some (some 0,[.l (gi d 0).rows,.l (gi d 1).rows]))
def QJ:be:=⟨4,[],⟨79,[(5,.s (.list [.str,.list ae])),(6,.s (.list [.str,.list ae])),(27,.s (.list [.str])),(28,.s (.int .i64)),(29,.s (.int .i64))],[]⟩,[],[⟨.exit 0,⟨79,[(5,.s (.list [.str,.list ae])),(6,.s (.list [.str,.list ae]))],[]⟩,[]⟩],su⟩
theorem aft:bY P t100 ay 0 (b_ Tryz.f4 4) QJ:=fun d=>by kernel_rfl
def QK:LT:=ay.add 0 QJ
theorem afu:ax P 0 QK (aQ Tryz.f4):=ax.a hm Gg (aN _ _ _) aft
def Gh(d:List G):Option (List G) :=
 (aB (vt [.l (gi d 0).rows,.i 0]) fun g1=>(aB (vt [.l (gi d 0).rows,.i 0]) fun g2=>(aM true (bD su [.l (gi g1 2).rows,.l (gi g2 2).rows,.l [[.s (⟨#[107,49,97,98]⟩:ByteArray)],[.s (⟨#[111,104,50,97,98,99]⟩:ByteArray)]],.i 2,.i 0]) fun g g9=>(bif (aj 1 (((gi g9 0).rows.length:Nat):Int)) then (bif (aj 0 (((gi g9 0).rows.length:Nat):Int)) then (bif (aj 1 (((gi g9 0).rows.length:Nat):Int)) then (aB (zT [.l [(aD [.str,.list ae] ((gi g9 0).rows.getD 0 []))],.l [(aD [.str,.list ae] ((gi g9 0).rows.getD 1 []))],.i 60]) fun g10=>(eE (((ad (gi g10 0).rows.length (gi g10 0).rows.length)&&true)&&(vR [.l (gi g10 0).rows]).isSome) (vR [.l (gi g10 0).rows]) fun g11=>(aB (vT [.l (gi g9 0).rows,.l (gi g9 1).rows]) fun g12=>(bif (gi g12 0).bool then (aB (vl []) fun g13=>some [.t (gi g13 0).bool]) else some [.t false])))) else none) else none) else (aB (vT [.l (gi g9 0).rows,.l (gi g9 1).rows]) fun g14=>(bif (gi g14 0).bool then (aB (vl []) fun g15=>some [.t (gi g15 0).bool]) else some [.t false]))))))
def Gi:aH:=⟨4,[.s (.list [.int .i64])],[],[],[.s (.bool)],[],[],[],Gh⟩
theorem afv:aZ P t100 QK Tryz.f4 Gi:=fun d=>by kernel_rfl
theorem QL:aX P Gi:=a7 hm Gg Tryz.func4 afu afv
def t101:ak:=t100.bJ Gi
theorem ail:al P t101:=Gg.aP QL

end
end Go.Proofs.iE
