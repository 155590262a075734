/-
 What is proved here: functions of the program as functions on data. No condition.
-/
import Derived.Test.YtpaljghdgljgiaaGreatDoorML1
set_option linter.all false
open Int renaming tmod->Bu,tdiv->Fo
open Nat renaming beq->ar,blt->cS
namespace Go.Proofs.jq
open Go Go.AL Go.Proofs Tryz
noncomputable section
def wC(d:LG):Option LG :=
 let g:=Bu (gi d 0).iV (gi d 1).iV; (bif (ax (gi d 1).iV 1) then some [.i 0] else (gd (!((gi d 1).iV==0)) (bif (ax g 0) then (gd (aB (g+(gi d 1).iV)) (some [.i (g+(gi d 1).iV)])) else some [.i g])))
def aba:aO:=⟨44,[aq,aq],[],[],[aq],[],[],[],wC⟩
def t8:aH:=t7.bp aba
theorem abb:aJ P t8:=cY aa' func44

def ph(d:LG):Option LG :=
 let h:=(((gi d 0).rZ.length:Nat):Int); let g:=(gi d 1).iV+1; let k:=Bu (g-1) h; let q:=(Fo (g-1) h)*(7919+k); (gd (aB g) (bif (h==0) then (gd (aB (g*7919)) (aG (wC [.i (g*7919),.i (gi d 2).iV]) fun y=>some [.l (gi d 0).rZ,.i g,.i (gi y 0).iV])) else (gd (aB (g-1)) (gd (!(h==0)) (gd (aB (g-1)) (gd ((!(h==0))&&(aB (Fo (g-1) h))) (gd ((aM k)&&(ax k h)) (aG (wC [.i (gi ((gi d 0).rZ.getD (k.toNat) []) 0).iV,.i 1073741824]) fun v=>(gd (aB (7919+k)) (gd (aB q) (gd (aB ((gi v 0).iV+q)) (aG (wC [.i ((gi v 0).iV+q),.i (gi d 2).iV]) fun I=>some [.l (gi d 0).rZ,.i g,.i (gi I 0).iV]))))))))))))
def abc:aO:=⟨22,[.s (.ptr 0 0),aq],[.box [.list [.I],.I]],[.ay 0],[aq],[.box [.list [.I],.I]],[.fix 0],[],ph⟩
def t9:aH:=t8.dO abc
theorem abd:aJ P t9:=nq abb func22

def wD(d:LG):Option LG :=
 let g:=(gi d 3).iV-(gi d 2).iV; (bif (ax (gi d 3).iV (gi d 2).iV) then some [.l (gi d 0).rZ,.i (gi d 1).iV,.i (gi d 2).iV] else (gd (aB g) (gd (aB (g+1)) (aG (ph [.l (gi d 0).rZ,.i (gi d 1).iV,.i (g+1)]) fun h=>let k:=(gi d 2).iV+(gi h 2).iV; (gd (aB k) (some [.l (gi h 0).rZ,.i (gi h 1).iV,.i k]))))))
def abe:aO:=⟨39,[.s (.ptr 0 0),aq,aq],[.box [.list [.I],.I]],[.ay 0],[aq],[.box [.list [.I],.I]],[.fix 0],[],wD⟩
def t10:aH:=t9.dO abe
theorem abf:aJ P t10:=nq abd func39

def lN(d:LG):Option LG :=
 let h:=(((gi d 2).rZ.length:Nat):Int); (aG (ph [.l (gi d 0).rZ,.i (gi d 1).iV,.i h]) fun g=>(gd ((aM (gi g 2).iV)&&(ax (gi g 2).iV h)) (some [.l (gi g 0).rZ,.i (gi g 1).iV,.i (gi ((gi d 2).rZ.getD (((gi g 2).iV).toNat) []) 0).iV])))
def abg:aO:=⟨7,[.s (.ptr 0 0),gR],[.box [.list [.I],.I]],[.ay 0],[aq],[.box [.list [.I],.I]],[.fix 0],[],lN⟩
def t11:aH:=t10.dO abg
theorem abh:aJ P t11:=nq abf func7

def iU(d:LG):Option LG :=
 let h:=(((gi d 2).rZ.length:Nat):Int); (aG (ph [.l (gi d 0).rZ,.i (gi d 1).iV,.i h]) fun g=>(gd ((aM (gi g 2).iV)&&(ax (gi g 2).iV h)) (some [.l (gi g 0).rZ,.i (gi g 1).iV,.s (gi ((gi d 2).rZ.getD (((gi g 2).iV).toNat) []) 0).sV])))
def abi:aO:=⟨6,[.s (.ptr 0 0),.s (.list [.str])],[.box [.list [.I],.I]],[.ay 0],[cL],[.box [.list [.I],.I]],[.fix 0],[],iU⟩
def t12:aH:=t11.dO abi
theorem abj:aJ P t12:=nq abh func6

def rL(d:LG):Option LG :=
 (aG (ph [.l (gi d 0).rZ,.i (gi d 1).iV,.i (gi d 2).iV]) fun g=>some [.l (gi g 0).rZ,.i (gi g 1).iV,.t ((gi g 2).iV==0)])
def abk:aO:=⟨21,[.s (.ptr 0 0),aq],[.box [.list [.I],.I]],[.ay 0],[da],[.box [.list [.I],.I]],[.fix 0],[],rL⟩
def t13:aH:=t12.dO abk
theorem abl:aJ P t13:=nq abj func21

def rM(d:LG):Option LG :=
 (bif (ax (gi d 0).iV 0) then some [.i (-1)] else (bif (ax 0 (gi d 0).iV) then some [.i 1] else some [.i 0]))
def abm:aO:=⟨64,[aq],[],[],[aq],[],[],[],rM⟩
def t14:aH:=t13.bp abm
theorem abn:aJ P t14:=cY abl func64

def ub(d:LG):Option LG :=
 let g:=(gi (gi d 0).rV 0).iV-(gi (gi d 1).rV 0).iV; let h:=(gi (gi d 0).rV 1).iV-(gi (gi d 1).rV 1).iV; (bif ((gi (gi d 0).rV 0).iV != (gi (gi d 1).rV 0).iV) then (gd (aB g) (aG (rM [.i g]) fun k=>some [.i (gi k 0).iV])) else (bif (!((gi (gi d 0).rV 3).sV.toList==(gi (gi d 1).rV 3).sV.toList)) then (aG (ox [.s (gi (gi d 0).rV 3).sV,.s (gi (gi d 1).rV 3).sV]) fun q=>some [.i (gi q 0).iV]) else (bif (!((gi (gi d 0).rV 2).sV.toList==(gi (gi d 1).rV 2).sV.toList)) then (aG (ox [.s (gi (gi d 0).rV 2).sV,.s (gi (gi d 1).rV 2).sV]) fun v=>some [.i (gi v 0).iV]) else (gd (aB h) (aG (rM [.i h]) fun y=>some [.i (gi y 0).iV])))))
def abo:aO:=⟨41,[.s (.row aK),.s (.row aK)],[],[],[aq],[],[],[],ub⟩
def t15:aH:=t14.bp abo
theorem Im:aJ P t15:=cY abn func41

def PF(d:LG):Option (Option Nat × LG) :=
 let g:=(gi d 4).iV-1; let h:=(gi d 0).rZ.set (0+((gi d 4).iV).toNat) (eo aK ((gi d 0).rZ.getD (0+((gi d 4).iV).toNat) []) 0 (a8 aK ((gi d 0).rZ.getD (0+g.toNat) []))); let y:=(((gi d 0).rZ.length:Nat):Int); let I:=h.set (0+g.toNat) (eo aK (h.getD (0+g.toNat) []) 0 (a8 aK ((gi d 0).rZ.getD (0+((gi d 4).iV).toNat) []))); let k:=decide ((0+((gi d 4).iV).toNat)<(gi d 0).rZ.length); let q:=(aM (gi d 4).iV)&&(ax (gi d 4).iV y); let M:=(ar (gi d 0).rZ.length (gi d 0).rZ.length)&&true; let N:=decide ((0+g.toNat)<(gi d 0).rZ.length); let v:=(aM g)&&(ax g y); (bif (ax (gi d 1).iV (gi d 4).iV) then (gd q (gd k (gd (aB g) (gd v (gd N (aG (ub [.l [(a8 aK ((gi d 0).rZ.getD (0+((gi d 4).iV).toNat) []))],.l [(a8 aK ((gi d 0).rZ.getD (0+g.toNat) []))]]) fun O=>(bif (ax (gi O 0).iV 0) then (gd (aB g) (gd (aB g) (gd v (gd N (gd q (gd k (gd q (gd k (gd v (gd (decide ((0+g.toNat)<h.length)) (gd (aB g) (gd ((ar (gi d 0).rZ.length I.length)&&true) (some (none,[.l I,.i (gi d 1).iV,.i (gi d 2).iV,.i (gi d 3).iV,.i g])))))))))))))) else (gd M (some (some 0,[.l (gi d 0).rZ,.i (gi d 1).iV,.i (gi d 2).iV,.i (gi d 3).iV])))))))))) else (gd M (some (some 0,[.l (gi d 0).rZ,.i (gi d 1).iV,.i (gi d 2).iV,.i (gi d 3).iV]))))
abbrev k8:List bS:=[.vQ aK 0]
abbrev rN:List bS:=[.box [.list [.I],.I],.a7 1 (.one (.str)) aK,.map (.one (.str)) (.one .I)]
abbrev rO:List bS:=[.box [.list [.I],.list [.I],.list [.I]],.vQ [.I] 0]
abbrev uc:List bS:=[.box [.list aK,.list aK,.list [.I],.list [.I],.I,.list [.list [.I]]],.vQ [.I,.I] 0]
abbrev wE:List bS:=[.box [.list [.str,.list aK],.I,.I,.map 1,.map 2],.mm 11 (.one .I) (.one .I) (.one .I),.mm 12 (.one .I) (.one .I) (.one (.bool))]
abbrev zQ:List bS:=[.box [.str,.list aK],.box [.str,.list aK],.box [.list [.I,.I],.I],.cM 1 [.list [.I,.I],.I]]
abbrev Du:List bS:=[.box [.list aK,.list aK,.list [.I],.list [.I],.I,.vQ 1 1],.vQ [.list [.I]] 0,.vQ [.I] 0]
abbrev Dv:List bS:=[.vQ [.I,.I] 0]
abbrev Dw:List bS:=[.box [.str,.list aK],.box [.str,.list aK],.bH 1 (.one (.str)) [.I]]
abbrev Io:List bS:=[.box [.list [.I],.I],.vQ [.str,.list aK] 0]
abbrev PG:List bS:=[.box [.list aK,.list aK,.list [.I],.list [.I],.I,.vQ 1 1],.vQ [.list [.I]] 0]
abbrev PH:List bS:=[.box [.str,.list aK],.box [.str,.list aK],.map (.agg [.str,.I]) (.one (.list [.I])),.vQ [.I,.I] 0]
abbrev PI:List bS:=[.box [.list [.str,.list aK],.I,.I,.map 1,.map 2],.mm 11 (.one .I) (.one .I) (.one .I),.mm 12 (.one .I) (.one .I) (.one (.bool)),.box [.I,.I,.str,.str,.I,.I,.str,.str]]
abbrev PJ:List bS:=[.box [.I,.I,.I,.I,.I,.I,.I],.box [.I,.I,.I,.I,.I,.I,.I]]
abbrev PK:List bS:=[.box [.I,.I,.I,.I,.I,.I,.I],.vQ [.str,.str] 0]
abbrev PL:List bS:=[.box [.str,.list aK],.box [.str,.list aK],.vQ [.I,.I] 0]
abbrev PM:List bS:=[.box [.str,.list aK],.box [.I,.I,.str,.str,.I,.I,.str,.str],.vQ dp 0]
abbrev PN:List bS:=[.box [.I,.I,.I,.I,.I,.I,.I]]
abbrev ud:List (Nat × Sh):=[(4,aq)]
abbrev wF:List (Nat × Sh):=[(0,.s (.ptr 0 0)),(3,.s (.list [.str])),(4,.s (.map 1)),(5,aq),(6,.s (.map 2)),(24,aq),(25,aq)]
abbrev wG:List (Nat × Sh):=[(2,aq)]
abbrev zR:List (Nat × Sh):=[(0,cL),(1,cL),(5,.s (.ptr 0 0)),(6,aq),(7,.s (.vQ 1 1)),(12,aq),(13,aq),(21,aq),(22,aq)]
abbrev Ip:List (Nat × Sh):=[(0,.s (.ptr 0 0)),(2,aq),(3,.s (.vQ 2 1)),(4,aq)]
abbrev Iq:List (Nat × Sh):=[(0,.s (.ptr 0 0)),(3,.s (.vQ 1 2)),(4,aq),(15,aq),(16,aq)]
abbrev PO:List (Nat × Sh):=[(0,.s (.vQ 0 8)),(1,aq),(2,aq),(3,.s (.fn 41)),(8,aq)]
abbrev PQ:List (Nat × Sh):=[(0,.s (.vQ 0 8)),(1,aq),(2,.s (.fn 41)),(6,aq),(7,aq),(8,aq)]
abbrev PR:List (Nat × Sh):=[(0,.s (.vQ 0 8)),(1,aq),(2,.s (.fn 41)),(6,aq),(7,aq)]
abbrev PS:List (Nat × Sh):=[(0,jH),(9,jH),(10,aq),(11,aq)]
abbrev PT:List (Nat × Sh):=[(0,.s (.ptr 0 0)),(3,.s (.vQ 1 2)),(4,aq),(5,aq),(6,aq),(15,aq),(16,aq)]
abbrev PU:List (Nat × Sh):=[(2,aq),(3,.s (.ptr 0 0)),(4,.s (.ptr 1 0)),(8,.s (.map 2)),(9,.s (.vQ 3 2)),(24,OK)]
abbrev PV:List (Nat × Sh):=[(2,gR),(3,gR),(4,aq),(5,.s (.ptr 0 0)),(6,.s (.ptr 1 0)),(10,.s (.ptr 2 0)),(11,.s (.pre 3 1)),(13,aq)]
abbrev PW:List (Nat × Sh):=[(2,aq),(3,.s (.ptr 0 0)),(4,.s (.ptr 1 0)),(7,.s (.map 2)),(20,.s (.list [.str,.list aK])),(21,aq),(22,aq)]
abbrev PX:List (Nat × Sh):=[(2,aq),(3,.s (.ptr 0 0)),(4,.s (.ptr 1 0)),(14,.s (.vQ 2 2)),(70,OK)]
abbrev PY:List (Nat × Sh):=[(2,aq),(3,aq),(5,.s (.ptr 0 0)),(9,.s (.ptr 1 0)),(10,.s (.vQ 2 4)),(22,.s (.list [.str,.list aK])),(23,aq),(24,aq)]
def abp:bG:=⟨4,[],⟨53,[(0,.s (.vQ 0 8)),(1,aq),(2,aq),(3,.s (.fn 41)),(8,aq),(9,aq)],k8⟩,[.fix 0],[⟨.exit 2,⟨53,PO,k8⟩,[.fix 0]⟩],PF⟩
def PZ:LT:=bJ.add 1 abp
theorem abq:aZ P 1 PZ (bk f83):=lA Im (bL _ _ _)
def P0(d:LG):Option (Option Nat × LG) :=
 (bif (ax (gi d 3).iV (gi d 2).iV) then (bh ((ar (gi d 0).rZ.length (gi d 0).rZ.length)&&true) (cn PF [.l (gi d 0).rZ,.i (gi d 1).iV,.i (gi d 2).iV,.i (gi d 3).iV,.i (gi d 3).iV]) fun h g=>(gd (aB ((gi g 3).iV+1)) (gd ((ar (gi g 0).rZ.length (gi g 0).rZ.length)&&true) (some (none,[.l (gi g 0).rZ,.i (gi g 1).iV,.i (gi g 2).iV,.i ((gi g 3).iV+1)]))))) else some (some 0,[.l (gi d 0).rZ]))
def abr:bG:=⟨1,[],⟨53,PO,k8⟩,[.fix 0],[⟨.exit 0,⟨53,[],k8⟩,[.fix 0]⟩],P0⟩
def abt:LT:=PZ.add 1 abr
theorem abu:aZ P 1 abt (bk f83):=lA Im abq
def Ir(d:LG):Option LG :=
 (gd (aB ((gi d 1).iV+1)) (bh ((ar (gi d 0).rZ.length (gi d 0).rZ.length)&&true) (cn P0 [.l (gi d 0).rZ,.i (gi d 1).iV,.i (gi d 2).iV,.i ((gi d 1).iV+1)]) fun h g=>some [.l (gi g 0).rZ]))
def abv:aO:=⟨83,[.s (.vQ 0 8),aq,aq,.s (.fn 41)],[.vQ aK 0],[.ay 0],[],[.vQ aK 0],[.fix 0],[],Ir⟩
def t16:aH:=t15.dO abv
theorem Dx:aJ P t16:=tW Im func83 abu

def P1(d:LG):Option (Option Nat × LG) :=
 let g:=Ir [.l (gi d 0).rZ,.i (gi d 3).iV,.i (gi d 4).iV]; let h:=(ar (gi d 0).rZ.length (gi d 0).rZ.length)&&true; let k:=(gi d 4).iV+(gi d 2).iV; (bif (bC (gi d 4).iV (gi d 1).iV) then (mz (h&&g.isSome) g fun q=>(gd (aB k) (gd ((ar (gi d 0).rZ.length (gi q 0).rZ.length)&&true) (some (none,[.l (gi q 0).rZ,.i (gi d 1).iV,.i (gi d 2).iV,.i (gi d 4).iV,.i k]))))) else (gd h (some (some 0,[.l (gi d 0).rZ,.i (gi d 1).iV,.i (gi d 2).iV,.i (gi d 3).iV]))))
def abw:bG:=⟨2,[],⟨63,PQ,k8⟩,[.fix 0],[⟨.exit 0,⟨63,PR,k8⟩,[.fix 0]⟩],P1⟩
def P2:LT:=bJ.add 1 abw
theorem abx:aZ P 1 P2 (bk f63):=lA Dx (bL _ _ _)
def P3(d:LG):Option (Option Nat × LG) :=
 (bif (bC (gi d 4).iV (gi d 1).iV) then (gd (aB ((gi d 3).iV+(gi d 2).iV)) none) else (gd ((ar (gi d 0).rZ.length (gi d 0).rZ.length)&&true) (some (some 0,[.l (gi d 0).rZ,.i (gi d 1).iV,.i (gi d 2).iV,.i (gi d 3).iV]))))
def aby:bG:=⟨9,[],⟨63,PQ,k8⟩,[.fix 0],[⟨.exit 4,⟨63,PR,k8⟩,[.fix 0]⟩],P3⟩
def P4:LT:=P2.add 1 aby
theorem abz:aZ P 1 P4 (bk f63):=lA Dx abx
def P5(d:LG):Option (Option Nat × LG) :=
 (bif (ax (gi d 2).iV (gi d 1).iV) then (gd (aB (2*(gi d 2).iV)) (bh ((ar (gi d 0).rZ.length (gi d 0).rZ.length)&&true) (cn P3 [.l (gi d 0).rZ,.i (gi d 1).iV,.i (gi d 2).iV,.i 0,.i (2*(gi d 2).iV)]) fun k g=>let h:=(gi g 3).iV+(gi g 2).iV; (gd (aB h) (bif (ax h (gi g 1).iV) then none else (gd (aB ((gi g 2).iV*2)) (gd ((ar (gi g 0).rZ.length (gi g 0).rZ.length)&&true) (some (none,[.l (gi g 0).rZ,.i (gi g 1).iV,.i ((gi g 2).iV*2)])))))))) else some (some 0,[.l (gi d 0).rZ]))
def abA:bG:=⟨7,[],⟨63,[(0,.s (.vQ 0 8)),(1,aq),(2,.s (.fn 41)),(6,aq)],k8⟩,[.fix 0],[⟨.exit 2,⟨63,[],k8⟩,[.fix 0]⟩],P5⟩
def abB:LT:=P4.add 1 abA
theorem abC:aZ P 1 abB (bk f63):=lA Dx abz
def P6(d:LG):Option LG :=
 (bh ((ar (gi d 0).rZ.length (gi d 0).rZ.length)&&true) (cn P1 [.l (gi d 0).rZ,.i (gi d 1).iV,.i 20,.i 0,.i 20]) fun v g=>let h:=Ir [.l (gi g 0).rZ,.i (gi g 3).iV,.i (gi g 1).iV]; (mz (((ar (gi g 0).rZ.length (gi g 0).rZ.length)&&true)&&h.isSome) h fun k=>(bh ((ar (gi g 0).rZ.length (gi k 0).rZ.length)&&true) (cn P5 [.l (gi k 0).rZ,.i (gi g 1).iV,.i (gi g 2).iV]) fun y q=>some [.l (gi q 0).rZ])))
def abD:aO:=⟨63,[.s (.vQ 0 8),aq,.s (.fn 41)],[.vQ aK 0],[.ay 0],[],[.vQ aK 0],[.fix 0],[],P6⟩
def t17:aH:=t16.dO abD
theorem abE:aJ P t17:=tW Dx func63 abC

def P7(d:LG):Option LG :=
 let g:=(P6 [.l (gi d 0).rZ,.i (((gi d 0).rZ.length:Nat):Int)]); (mz (((ar (gi d 0).rZ.length (gi d 0).rZ.length)&&true)&&g.isSome) g fun h=>some [.l (gi h 0).rZ])
def abF:aO:=⟨40,[.s (.vQ 0 8),.s (.fn 41)],[.vQ aK 0],[.ay 0],[],[.vQ aK 0],[.fix 0],[],P7⟩
def t18:aH:=t17.dO abF
theorem abG:aJ P t18:=nq abE func40

def zT(d:LG):Option LG :=
 (aG (ub [.l [(a8 aK (gi d 0).rV)],.l [(a8 aK (gi d 1).rV)]]) fun g=>some [.t ((gi g 0).iV==0)])
def abH:aO:=⟨43,[.s (.row aK),.s (.row aK)],[],[],[da],[],[],[],zT⟩
def t19:aH:=t18.bp abH
theorem Is:aJ P t19:=cY abG func43

def P8(d:LG):Option (Option Nat × LG) :=
 let g:=(((gi d 3).iV.toNat:Nat):Int); let q:=(gi d 2).iV.toNat+((gi d 4).iV).toNat; let y:=(gi d 0).rZ.set (0+((gi d 1).iV).toNat) (eo aK ((gi d 0).rZ.getD (0+((gi d 1).iV).toNat) []) 0 (a8 aK ((gi d 0).rZ.getD q []))); let h:=(gi d 4).iV-1; let I:=(ar (gi d 0).rZ.length (gi d 0).rZ.length)&&true; let k:=(gi d 4).iV+1; let M:=(aM (gi d 4).iV)&&(ax (gi d 4).iV g); let N:=decide (q<(gi d 0).rZ.length); let O:=(((gi d 2).iV.toNat:Nat):Int); let v:=(gi d 2).iV.toNat+h.toNat; (bif (ax (gi d 4).iV g) then (gd M (gd N (gd (aB h) (gd ((aM h)&&(ax h g)) (gd (decide (v<(gi d 0).rZ.length)) (aG (zT [.l [(a8 aK ((gi d 0).rZ.getD q []))],.l [(a8 aK ((gi d 0).rZ.getD v []))]]) fun U=>(bif (!(gi U 0).bV) then (gd M (gd N (gd ((aM (gi d 1).iV)&&(ax (gi d 1).iV (((gi d 0).rZ.length:Nat):Int))) (gd (decide ((0+((gi d 1).iV).toNat)<(gi d 0).rZ.length)) (gd (aB ((gi d 1).iV+1)) (gd (aB k) (gd ((ar (gi d 0).rZ.length y.length)&&true) (some (none,[.l y,.i ((gi d 1).iV+1),.i O,.i g,.i k]))))))))) else (gd (aB k) (gd I (some (none,[.l (gi d 0).rZ,.i (gi d 1).iV,.i O,.i g,.i k]))))))))))) else (gd I (some (some 0,[.l (gi d 0).rZ,.i (gi d 1).iV]))))
def abI:bG:=⟨9,[],⟨66,[(0,.s (.vQ 0 8)),(1,.s (.fn 43)),(5,aq),(6,.s (.sub 0 8)),(7,aq)],k8⟩,[.fix 0],[⟨.exit 2,⟨66,[(0,.s (.vQ 0 8)),(5,aq)],k8⟩,[.fix 0]⟩],P8⟩
def P9:LT:=bJ.add 1 abI
theorem abJ:aZ P 1 P9 (bk f42):=lA Is (bL _ _ _)
def P_(d:LG):Option (Option Nat × LG) :=
 let v:=(ar (gi d 0).rZ.length (gi d 0).rZ.length)&&true; let k:=(((gi d 0).rZ.length:Nat):Int); let h:=(gi d 1).iV-1; let q:=(⟨#[]⟩:BY); let y:=0+((gi d 1).iV).toNat; (bif (ax (gi d 1).iV k) then (gd ((aM (gi d 1).iV)&&(ax (gi d 1).iV k)) (gd (decide (y<(gi d 0).rZ.length)) (gd (aB h) (gd ((aM h)&&(ax h k)) (gd (decide ((0+h.toNat)<(gi d 0).rZ.length)) (aG (zT [.l [(a8 aK ((gi d 0).rZ.getD y []))],.l [(a8 aK ((gi d 0).rZ.getD (0+h.toNat) []))]]) fun O=>(bif (gi O 0).bV then (gd ((aM (gi d 1).iV)&&(bC (gi d 1).iV k)) (bh v (cn P8 [.l (gi d 0).rZ,.i (gi d 1).iV,.i ((y:Nat):Int),.i ((((gi d 0).rZ.length-((gi d 1).iV).toNat):Nat):Int),.i 1]) fun U g=>let I:=(gi g 0).rZ.length-((gi g 1).iV).toNat; let N:=((aM (gi g 1).iV)&&(bC (gi g 1).iV (((gi g 0).rZ.length:Nat):Int))); let M:=0+((gi g 1).iV).toNat; (gd N (gd (Nat.ble (M+I) (gi g 0).rZ.length) (gd N (some (some 0,[.l ((gi g 0).rZ.take M++List.replicate I [.i 0,.i 0,.s q,.s q,.i 0,.i 0,.s q,.s q]++(gi g 0).rZ.drop (M+I)),.i (((((gi g 1).iV).toNat-0):Nat):Int)]))))))) else (gd (aB ((gi d 1).iV+1)) (gd v (some (none,[.l (gi d 0).rZ,.i ((gi d 1).iV+1)]))))))))))) else (gd v (some (some 1,[.l (gi d 0).rZ]))))
def abK:bG:=⟨4,[],⟨66,[(0,.s (.vQ 0 8)),(1,.s (.fn 43)),(5,aq)],k8⟩,[.fix 0],[⟨.ret,⟨66,[(4,.s (.pre 0 8))],k8⟩,[.fix 0]⟩,⟨.exit 0,⟨66,[(0,.s (.vQ 0 8))],k8⟩,[.fix 0]⟩],P_⟩
def abL:LT:=P9.add 1 abK
theorem abM:aZ P 1 abL (bk f42):=lA Is abJ
def P'(d:LG):Option LG :=
 let h:=(((gi d 0).rZ.length:Nat):Int); (bif (ax h 2) then some [.l (gi d 0).rZ,.i h] else (bh ((ar (gi d 0).rZ.length (gi d 0).rZ.length)&&true) (cn P_ [.l (gi d 0).rZ,.i 1]) fun k g=>(bif ar k 0 then some [.l (gi g 0).rZ,.i (((gi g 1).iV.toNat:Nat):Int)] else some [.l (gi g 0).rZ,.i (((gi g 0).rZ.length:Nat):Int)])))
def abN:aO:=⟨42,[.s (.vQ 0 8),.s (.fn 43)],[.vQ aK 0],[.ay 0],[.s (.pre 0 8)],[.vQ aK 0],[.fix 0],[],P'⟩
def t20:aH:=t19.dO abN
theorem rP:aJ P t20:=tW Is func42 abM

def lO(d:LG):Option (Option Nat × LG) :=
 (gd (aB ((gi d 9).iV+1)) (some (some 0,[.l (gi d 0).rZ,.i (gi d 1).iV,.l (gi d 2).rZ,.i (((gi d 3).iV.toNat:Nat):Int),.l (gi d 4).rZ,.i (((gi d 5).iV.toNat:Nat):Int),.l (gi d 6).rZ,.i (gi d 7).iV,.i (gi d 8).iV,.i ((gi d 9).iV+1)])))
def abO:bG:=⟨30,[],⟨161,wF,rN⟩,[.fix 0,.ay 4,.ay 6],[⟨.normal,⟨161,wF,rN⟩,[.fix 0,.ay 4,.ay 6]⟩],lO⟩
def Qa:LT:=(bJ.tQ [(3,[.a7 4 1]),(14,[.hole aK]),(38,[.HS 16,.freeze 16])]).fU 1 abO
theorem abP:aZ P 1 Qa (bk f20):=aZ.fU hm (rP.jn [1500080]) (by kernel_rfl) (qk _) (fun d=>by kernel_rfl)
def wH(d:LG):Option (Option Nat × LG) :=
 let g:=fg [.str] (gi d 2).rZ [.s (gi d 8).sV]; let h:=(g++([(a8 aK (gi d 9).rV)]:LL)); let k:=gn [.str] (gi d 2).rZ [.s (gi d 8).sV]; let q:=(((gi d 5).iV.toNat:Nat):Int); (bif (gi d 12).bV then (gd (eT [.str] (gi d 2).rZ [.s (gi d 8).sV]) (gd ((ar g.length g.length)&&(decide ((g.length+1)<=1048576))) (gd (ar h.length h.length) (some (some 0,[.l (gi d 0).rZ,.i (gi d 1).iV,.l (od [.str] k [.s (gi d 8).sV] h (gi d 3).iV.toNat),.i (((dG [.str] k [.s (gi d 8).sV] (gi d 3).iV.toNat):Nat):Int),.l (gi d 4).rZ,.i q,.l (gi d 6).rZ,.i (gi d 7).iV,.i (gi d 10).iV,.i (gi d 11).iV]))))) else some (some 0,[.l (gi d 0).rZ,.i (gi d 1).iV,.l (gi d 2).rZ,.i (((gi d 3).iV.toNat:Nat):Int),.l (gi d 4).rZ,.i q,.l (gi d 6).rZ,.i (gi d 7).iV,.i (gi d 10).iV,.i (gi d 11).iV]))
def abQ:bG:=⟨29,[],⟨161,[(0,.s (.ptr 0 0)),(3,.s (.list [.str])),(4,.s (.map 1)),(5,aq),(6,.s (.map 2)),(8,cL),(12,.s (.cptr aK)),(24,aq),(25,aq),(130,da)],rN⟩,[.fix 0,.ay 4,.ay 6],[⟨.normal,⟨161,wF,rN⟩,[.fix 0,.ay 4,.ay 6]⟩],wH⟩
def Qb:LT:=Qa.fU 1 abQ
theorem abR:aZ P 1 Qb (bk f20):=aZ.fU hm (rP.jn [1500080]) (by kernel_rfl) abP (fun d=>by kernel_rfl)
def wI(d:LG):Option (Option Nat × LG) :=
 let q:=(((gi d 3).iV.toNat:Nat):Int); let v:=(((gi d 5).iV.toNat:Nat):Int); let y:=a8 aK (gi d 9).rV; (bif (!((gi (gi d 9).rV 3).sV.toList==(gi d 8).sV.toList)) then (aG (rL [.l (gi d 0).rZ,.i (gi d 1).iV,.i 8]) fun k=>(bh true (dC (wH [.l (gi k 0).rZ,.i (gi k 1).iV,.l (gi d 2).rZ,.i q,.l (gi d 4).rZ,.i v,.l (gi d 6).rZ,.i (gi d 7).iV,.s (gi d 8).sV,.l [y],.i (gi d 10).iV,.i (gi d 11).iV,.t (!(gi k 2).bV)])) fun I g=>some (some 0,[.l (gi g 0).rZ,.i (gi g 1).iV,.l (gi g 2).rZ,.i (((gi g 3).iV.toNat:Nat):Int),.l (gi g 4).rZ,.i (((gi g 5).iV.toNat:Nat):Int),.l (gi g 6).rZ,.i (gi g 7).iV,.i (gi g 8).iV,.i (gi g 9).iV]))) else (bh true (dC (wH [.l (gi d 0).rZ,.i (gi d 1).iV,.l (gi d 2).rZ,.i q,.l (gi d 4).rZ,.i v,.l (gi d 6).rZ,.i (gi d 7).iV,.s (gi d 8).sV,.l [y],.i (gi d 10).iV,.i (gi d 11).iV,.t false])) fun M h=>some (some 0,[.l (gi h 0).rZ,.i (gi h 1).iV,.l (gi h 2).rZ,.i (((gi h 3).iV.toNat:Nat):Int),.l (gi h 4).rZ,.i (((gi h 5).iV.toNat:Nat):Int),.l (gi h 6).rZ,.i (gi h 7).iV,.i (gi h 8).iV,.i (gi h 9).iV])))
def abS:bG:=⟨28,[],⟨161,[(0,.s (.ptr 0 0)),(3,.s (.list [.str])),(4,.s (.map 1)),(5,aq),(6,.s (.map 2)),(8,cL),(12,.s (.cptr aK)),(24,aq),(25,aq)],rN⟩,[.fix 0,.ay 4,.ay 6],[⟨.normal,⟨161,wF,rN⟩,[.fix 0,.ay 4,.ay 6]⟩],wI⟩
def Qc:LT:=Qb.fU 1 abS
theorem abT:aZ P 1 Qc (bk f20):=aZ.fU hm (rP.jn [1500080]) (by kernel_rfl) abR (fun d=>by kernel_rfl)
def pj(d:LG):Option (Option Nat × LG) :=
 let k:=fg [.str] (gi d 2).rZ [.s (gi d 16).sV]; let q:=(k++([[.i (gi d 6).iV,.i (gi d 7).iV,.s (gi d 8).sV,.s (gi d 9).sV,.i (gi d 10).iV,.i (gi d 11).iV,.s (gi d 12).sV,.s (gi d 13).sV]]:LL)); let v:=gn [.str] (gi d 2).rZ [.s (gi d 16).sV]; let y:=(((gi d 5).iV.toNat:Nat):Int); let I:=a8 aK (gi d 18).rV; (bif (!((gi d 9).sV.toList==(gi d 16).sV.toList)) then (gd (eT [.str] (gi d 2).rZ [.s (gi d 16).sV]) (gd ((ar k.length k.length)&&(decide ((k.length+1)<=1048576))) (gd (ar q.length q.length) (bh true (dC (wI [.l (gi d 0).rZ,.i (gi d 1).iV,.l (od [.str] v [.s (gi d 16).sV] q (gi d 3).iV.toNat),.i (((dG [.str] v [.s (gi d 16).sV] (gi d 3).iV.toNat):Nat):Int),.l (gi d 4).rZ,.i y,.l (gi d 14).rZ,.i (gi d 15).iV,.s (gi d 17).sV,.l [I],.i (gi d 19).iV,.i (gi d 20).iV])) fun M g=>some (some 0,[.l (gi g 0).rZ,.i (gi g 1).iV,.l (gi g 2).rZ,.i (((gi g 3).iV.toNat:Nat):Int),.l (gi g 4).rZ,.i (((gi g 5).iV.toNat:Nat):Int),.l (gi g 6).rZ,.i (gi g 7).iV,.i (gi g 8).iV,.i (gi g 9).iV]))))) else (bh true (dC (wI [.l (gi d 0).rZ,.i (gi d 1).iV,.l (gi d 2).rZ,.i (((gi d 3).iV.toNat:Nat):Int),.l (gi d 4).rZ,.i y,.l (gi d 14).rZ,.i (gi d 15).iV,.s (gi d 17).sV,.l [I],.i (gi d 19).iV,.i (gi d 20).iV])) fun N h=>some (some 0,[.l (gi h 0).rZ,.i (gi h 1).iV,.l (gi h 2).rZ,.i (((gi h 3).iV.toNat:Nat):Int),.l (gi h 4).rZ,.i (((gi h 5).iV.toNat:Nat):Int),.l (gi h 6).rZ,.i (gi h 7).iV,.i (gi h 8).iV,.i (gi h 9).iV])))
def abU:bG:=⟨26,[],⟨161,[(0,.s (.ptr 0 0)),(3,.s (.list [.str])),(4,.s (.map 1)),(5,aq),(6,.s (.map 2)),(7,cL),(8,cL),(11,.s (.ptr 3 0)),(12,.s (.cptr aK)),(24,aq),(25,aq)],[.box [.list [.I],.I],.a7 1 (.one (.str)) aK,.map (.one (.str)) (.one .I),.box [.I,.I,.str,.str,.I,.I,.str,.str]]⟩,[.fix 0,.ay 4,.ay 6,.ay 11],[⟨.normal,⟨161,wF,rN⟩,[.fix 0,.ay 4,.ay 6]⟩],pj⟩
def Qd:LT:=Qc.fU 1 abU
theorem abV:aZ P 1 Qd (bk f20):=aZ.fU hm (rP.jn [1500080]) (by kernel_rfl) abT (fun d=>by kernel_rfl)
def wK(d:LG):Option (Option Nat × LG) :=
 let z1:=(((gi d 3).iV.toNat:Nat):Int); let I:=(⟨#[]⟩:BY); let O:=(⟨#[120]⟩:BY); let z4:=(⟨#[111,104,50,97,98,100]⟩:BY); let z5:=(⟨#[98,50,48]⟩:BY); let z6:=(⟨#[111,104,50,97,98,99]⟩:BY); let z7:=(⟨#[119,49,97,120]⟩:BY); let z8:=(⟨#[107,49,97,97]⟩:BY); let z9:=(⟨#[98,52,48]⟩:BY); (bif (ax (gi d 9).iV (gi d 8).iV) then (aG (lN [.l (gi d 0).rZ,.i (gi d 1).iV,.l [[.i 0],[.i 20],[.i 100],[.i 1000]]]) fun g3=>let q:=(gi d 7).iV+(gi g3 2).iV; (gd (aB q) (aG (iU [.l (gi g3 0).rZ,.i (gi g3 1).iV,.l (gi d 6).rZ]) fun h=>let z11:=ew [.str] (gi d 4).rZ [.s (gi h 2).sV] [.i ((gi (dn [.str] (gi d 4).rZ [.s (gi h 2).sV] [.i 0]) 0).iV+1)] (gi d 5).iV.toNat; let z12:=dG [.str] (gi d 4).rZ [.s (gi h 2).sV] (gi d 5).iV.toNat; (aG (iU [.l (gi h 0).rZ,.i (gi h 1).iV,.l [[.s (⟨#[107,49,97,98]⟩:BY)],[.s z6],[.s z4],[.s (⟨#[119,49,97,119]⟩:BY)],[.s (⟨#[110,49,109,109]⟩:BY)]]]) fun g=>let z13:=ew [.str] z11 [.s (gi g 2).sV] [.i ((gi (dn [.str] z11 [.s (gi g 2).sV] [.i 0]) 0).iV+1)] z12; let y:=gi (dn [.str] z13 [.s (gi g 2).sV] [.i 0]) 0; let N:=gi (dn [.str] z13 [.s (gi h 2).sV] [.i 0]) 0; let z16:=(((dG [.str] z11 [.s (gi g 2).sV] z12):Nat):Int); (bif ((gi h 2).sV.toList==(gi g 2).sV.toList) then (bh true (dC (lO [.l (gi g 0).rZ,.i (gi g 1).iV,.l (gi d 2).rZ,.i z1,.l (gi d 4).rZ,.i (((gi d 5).iV.toNat:Nat):Int),.l (gi d 6).rZ,.i q,.i (gi d 8).iV,.i (gi d 9).iV])) fun cg6 g6=>some (none,[.l (gi g6 0).rZ,.i (gi g6 1).iV,.l (gi g6 2).rZ,.i (((gi g6 3).iV.toNat:Nat):Int),.l (gi g6 4).rZ,.i (((gi g6 5).iV.toNat:Nat):Int),.l (gi g6 6).rZ,.i (gi g6 7).iV,.i (gi g6 8).iV,.i (gi g6 9).iV])) else (gd (aB ((gi (dn [.str] (gi d 4).rZ [.s (gi h 2).sV] [.i 0]) 0).iV+1)) (gd (aB ((gi (dn [.str] z11 [.s (gi g 2).sV] [.i 0]) 0).iV+1)) (aG (iU [.l (gi g 0).rZ,.i (gi g 1).iV,.l [[.s z5],[.s z5],[.s z9]]]) fun M=>(aG (lN [.l (gi M 0).rZ,.i (gi M 1).iV,.l [[.i 1],[.i 1],[.i 2]]]) fun v=>(aG (lN [.l (gi v 0).rZ,.i (gi v 1).iV,.l [[.i 0],[.i 10],[.i 30],[.i 60],[.i 200]]]) fun g9=>let z17:=q+(gi g9 2).iV; (gd (aB z17) (aG (ph [.l (gi g9 0).rZ,.i (gi g9 1).iV,.i 8]) fun k=>(bif ((gi k 2).iV==0) then (aG (iU [.l (gi k 0).rZ,.i (gi k 1).iV,.l [[.s z4],[.s z6],[.s z8],[.s z7]]]) fun g11=>(bh true (dC (pj [.l (gi g11 0).rZ,.i (gi g11 1).iV,.l (gi d 2).rZ,.i z1,.l z13,.i z16,.i q,.i (gi v 2).iV,.s (gi M 2).sV,.s (gi g11 2).sV,.i N.iV,.i y.iV,.s I,.s O,.l (gi d 6).rZ,.i q,.s (gi h 2).sV,.s (gi g 2).sV,.l [[.i z17,.i (gi v 2).iV,.s (gi M 2).sV,.s (gi h 2).sV,.i y.iV,.i N.iV,.s O,.s I]],.i (gi d 8).iV,.i (gi d 9).iV])) fun cg17 U=>(bh true (dC (lO [.l (gi U 0).rZ,.i (gi U 1).iV,.l (gi U 2).rZ,.i (((gi U 3).iV.toNat:Nat):Int),.l (gi U 4).rZ,.i (((gi U 5).iV.toNat:Nat):Int),.l (gi U 6).rZ,.i (gi U 7).iV,.i (gi U 8).iV,.i (gi U 9).iV])) fun cg18 V=>some (none,[.l (gi V 0).rZ,.i (gi V 1).iV,.l (gi V 2).rZ,.i (((gi V 3).iV.toNat:Nat):Int),.l (gi V 4).rZ,.i (((gi V 5).iV.toNat:Nat):Int),.l (gi V 6).rZ,.i (gi V 7).iV,.i (gi V 8).iV,.i (gi V 9).iV])))) else (bif ((gi k 2).iV==1) then (aG (iU [.l (gi k 0).rZ,.i (gi k 1).iV,.l [[.s z8],[.s z4],[.s z7]]]) fun g19=>(bh true (dC (pj [.l (gi g19 0).rZ,.i (gi g19 1).iV,.l (gi d 2).rZ,.i z1,.l z13,.i z16,.i q,.i (gi v 2).iV,.s (gi M 2).sV,.s (gi g 2).sV,.i N.iV,.i y.iV,.s I,.s O,.l (gi d 6).rZ,.i q,.s (gi h 2).sV,.s (gi g 2).sV,.l [[.i z17,.i (gi v 2).iV,.s (gi M 2).sV,.s (gi g19 2).sV,.i y.iV,.i N.iV,.s O,.s I]],.i (gi d 8).iV,.i (gi d 9).iV])) fun cg20 W=>(bh true (dC (lO [.l (gi W 0).rZ,.i (gi W 1).iV,.l (gi W 2).rZ,.i (((gi W 3).iV.toNat:Nat):Int),.l (gi W 4).rZ,.i (((gi W 5).iV.toNat:Nat):Int),.l (gi W 6).rZ,.i (gi W 7).iV,.i (gi W 8).iV,.i (gi W 9).iV])) fun cg21 g21=>some (none,[.l (gi g21 0).rZ,.i (gi g21 1).iV,.l (gi g21 2).rZ,.i (((gi g21 3).iV.toNat:Nat):Int),.l (gi g21 4).rZ,.i (((gi g21 5).iV.toNat:Nat):Int),.l (gi g21 6).rZ,.i (gi g21 7).iV,.i (gi g21 8).iV,.i (gi g21 9).iV])))) else (bif ((gi k 2).iV==2) then (gd (aB (y.iV+1)) (bh true (dC (pj [.l (gi k 0).rZ,.i (gi k 1).iV,.l (gi d 2).rZ,.i z1,.l z13,.i z16,.i q,.i (gi v 2).iV,.s (gi M 2).sV,.s (gi g 2).sV,.i N.iV,.i (y.iV+1),.s I,.s O,.l (gi d 6).rZ,.i q,.s (gi h 2).sV,.s (gi g 2).sV,.l [[.i z17,.i (gi v 2).iV,.s (gi M 2).sV,.s (gi h 2).sV,.i y.iV,.i N.iV,.s O,.s I]],.i (gi d 8).iV,.i (gi d 9).iV])) fun cg22 g22=>(bh true (dC (lO [.l (gi g22 0).rZ,.i (gi g22 1).iV,.l (gi g22 2).rZ,.i (((gi g22 3).iV.toNat:Nat):Int),.l (gi g22 4).rZ,.i (((gi g22 5).iV.toNat:Nat):Int),.l (gi g22 6).rZ,.i (gi g22 7).iV,.i (gi g22 8).iV,.i (gi g22 9).iV])) fun cg23 g23=>some (none,[.l (gi g23 0).rZ,.i (gi g23 1).iV,.l (gi g23 2).rZ,.i (((gi g23 3).iV.toNat:Nat):Int),.l (gi g23 4).rZ,.i (((gi g23 5).iV.toNat:Nat):Int),.l (gi g23 6).rZ,.i (gi g23 7).iV,.i (gi g23 8).iV,.i (gi g23 9).iV])))) else (bif ((gi k 2).iV==3) then (bh true (dC (pj [.l (gi k 0).rZ,.i (gi k 1).iV,.l (gi d 2).rZ,.i z1,.l z13,.i z16,.i q,.i (gi v 2).iV,.s (gi M 2).sV,.s (gi g 2).sV,.i N.iV,.i y.iV,.s I,.s I,.l (gi d 6).rZ,.i q,.s (gi h 2).sV,.s (gi g 2).sV,.l [[.i z17,.i (gi v 2).iV,.s (gi M 2).sV,.s (gi h 2).sV,.i y.iV,.i N.iV,.s O,.s I]],.i (gi d 8).iV,.i (gi d 9).iV])) fun cg24 g24=>(bh true (dC (lO [.l (gi g24 0).rZ,.i (gi g24 1).iV,.l (gi g24 2).rZ,.i (((gi g24 3).iV.toNat:Nat):Int),.l (gi g24 4).rZ,.i (((gi g24 5).iV.toNat:Nat):Int),.l (gi g24 6).rZ,.i (gi g24 7).iV,.i (gi g24 8).iV,.i (gi g24 9).iV])) fun cg25 g25=>some (none,[.l (gi g25 0).rZ,.i (gi g25 1).iV,.l (gi g25 2).rZ,.i (((gi g25 3).iV.toNat:Nat):Int),.l (gi g25 4).rZ,.i (((gi g25 5).iV.toNat:Nat):Int),.l (gi g25 6).rZ,.i (gi g25 7).iV,.i (gi g25 8).iV,.i (gi g25 9).iV]))) else (bif ((gi k 2).iV==4) then (aG (iU [.l (gi k 0).rZ,.i (gi k 1).iV,.l [[.s z9],[.s z5]]]) fun g26=>(bh true (dC (pj [.l (gi g26 0).rZ,.i (gi g26 1).iV,.l (gi d 2).rZ,.i z1,.l z13,.i z16,.i q,.i (gi v 2).iV,.s (gi M 2).sV,.s (gi g 2).sV,.i N.iV,.i y.iV,.s I,.s O,.l (gi d 6).rZ,.i q,.s (gi h 2).sV,.s (gi g 2).sV,.l [[.i z17,.i (gi v 2).iV,.s (gi g26 2).sV,.s (gi h 2).sV,.i y.iV,.i N.iV,.s O,.s I]],.i (gi d 8).iV,.i (gi d 9).iV])) fun cg27 g27=>(bh true (dC (lO [.l (gi g27 0).rZ,.i (gi g27 1).iV,.l (gi g27 2).rZ,.i (((gi g27 3).iV.toNat:Nat):Int),.l (gi g27 4).rZ,.i (((gi g27 5).iV.toNat:Nat):Int),.l (gi g27 6).rZ,.i (gi g27 7).iV,.i (gi g27 8).iV,.i (gi g27 9).iV])) fun cg28 g28=>some (none,[.l (gi g28 0).rZ,.i (gi g28 1).iV,.l (gi g28 2).rZ,.i (((gi g28 3).iV.toNat:Nat):Int),.l (gi g28 4).rZ,.i (((gi g28 5).iV.toNat:Nat):Int),.l (gi g28 6).rZ,.i (gi g28 7).iV,.i (gi g28 8).iV,.i (gi g28 9).iV])))) else (bh true (dC (pj [.l (gi k 0).rZ,.i (gi k 1).iV,.l (gi d 2).rZ,.i z1,.l z13,.i z16,.i q,.i (gi v 2).iV,.s (gi M 2).sV,.s (gi g 2).sV,.i N.iV,.i y.iV,.s I,.s O,.l (gi d 6).rZ,.i q,.s (gi h 2).sV,.s (gi g 2).sV,.l [[.i z17,.i (gi v 2).iV,.s (gi M 2).sV,.s (gi h 2).sV,.i y.iV,.i N.iV,.s O,.s I]],.i (gi d 8).iV,.i (gi d 9).iV])) fun cg29 g29=>(bh true (dC (lO [.l (gi g29 0).rZ,.i (gi g29 1).iV,.l (gi g29 2).rZ,.i (((gi g29 3).iV.toNat:Nat):Int),.l (gi g29 4).rZ,.i (((gi g29 5).iV.toNat:Nat):Int),.l (gi g29 6).rZ,.i (gi g29 7).iV,.i (gi g29 8).iV,.i (gi g29 9).iV])) fun cg30 g30=>some (none,[.l (gi g30 0).rZ,.i (gi g30 1).iV,.l (gi g30 2).rZ,.i (((gi g30 3).iV.toNat:Nat):Int),.l (gi g30 4).rZ,.i (((gi g30 5).iV.toNat:Nat):Int),.l (gi g30 6).rZ,.i (gi g30 7).iV,.i (gi g30 8).iV,.i (gi g30 9).iV])))))))))))))))))))) else some (some 0,[.l (gi d 0).rZ,.i (gi d 1).iV,.l (gi d 2).rZ,.i z1,.l (gi d 6).rZ]))
def abW:bG:=⟨6,[],⟨161,wF,rN⟩,[.fix 0,.ay 4,.ay 6],[⟨.exit 0,⟨161,[(3,.s (.list [.str])),(4,.s (.map 1))],[.box [.list [.I],.I],.a7 1 (.one (.str)) aK]⟩,[.fix 0,.ay 4]⟩],wK⟩
def Qe:LT:=Qd.add 1 abW
theorem abX:aZ P 1 Qe (bk f20):=aZ.add hm (rP.jn [1500080]) (by kernel_rfl) abV (fun d=>by kernel_rfl)
def wL(d:LG):Option (Option Nat × LG) :=
 let h:=gi ((gi d 5).rZ.getD (((gi d 7).iV).toNat) []) 0; let k:=fg [.str] (gi d 2).rZ [.s h.sV]; let y:=ar (gi d 4).rZ.length (gi d 4).rZ.length; let I:=P7 [.l k]; (bif (ax (gi d 7).iV (gi d 6).iV) then (gd ((aM (gi d 7).iV)&&(ax (gi d 7).iV (((gi d 5).rZ.length:Nat):Int))) (gd (eT [.str] (gi d 2).rZ [.s h.sV]) (mz (((ar k.length k.length)&&true)&&I.isSome) I fun v=>let M:=P' [.l (gi v 0).rZ]; (mz (((ar k.length (gi v 0).rZ.length)&&true)&&M.isSome) M fun g=>let q:=((gi d 4).rZ++([[.s h.sV,.l ((gi g 0).rZ.take ((gi g 1).iV.toNat))]]:LL)); (gd ((Nat.ble (gi g 1).iV.toNat (gi g 0).rZ.length)&&((ar (gi g 1).iV.toNat ((gi g 0).rZ.take ((gi g 1).iV.toNat)).length)&&true)) (gd (y&&(decide (((gi d 4).rZ.length+1)<=1048576))) (gd (aB ((gi d 7).iV+1)) (gd ((ar q.length q.length)&&true) (some (none,[.l (gi d 0).rZ,.i (gi d 1).iV,.l (gn [.str] (gi d 2).rZ [.s h.sV]),.i (((gi d 3).iV.toNat:Nat):Int),.l q,.l (gi d 5).rZ,.i (gi d 6).iV,.i ((gi d 7).iV+1)])))))))))) else (gd (y&&true) (some (some 0,[.l (gi d 0).rZ,.i (gi d 1).iV,.l (gi d 4).rZ]))))
def abY:bG:=⟨33,[(13,[.str,.list aK])],⟨161,[(4,.s (.map 1)),(13,.s (.vQ 2 2)),(140,.s (.list [.str])),(141,aq),(142,aq)],[.box [.list [.I],.I],.a7 1 (.one (.str)) aK,.vQ [.str,.list aK] 0]⟩,[.fix 0,.ay 4,.ay 13],[⟨.exit 3,⟨161,[(13,.s (.vQ 1 2))],Io⟩,[.fix 0,.ay 13]⟩],wL⟩
def abZ:LT:=Qe.add 1 abY
theorem ab0:aZ P 1 abZ (bk f20):=aZ.add hm (rP.jn [1500080]) (by kernel_rfl) abX (fun d=>by kernel_rfl)
def Dy(d:LG):Option LG :=
 (aG (wD [.l (gi d 0).rZ,.i (gi d 1).iV,.i 1,.i 4]) fun k=>(gd ((aM (gi k 2).iV)&&(bC (gi k 2).iV 4)) (aG (wD [.l (gi k 0).rZ,.i (gi k 1).iV,.i 0,.i 14]) fun q=>(bh true (cn wK [.l (gi q 0).rZ,.i (gi q 1).iV,.l [],.i 0,.l [],.i 0,.l (([[.s (⟨#[107,49,97,98]⟩:BY)],[.s (⟨#[111,104,50,97,98,99]⟩:BY)],[.s (⟨#[111,104,50,97,98,100]⟩:BY)],[.s (⟨#[119,49,97,119]⟩:BY)]]:LL).take (((gi k 2).iV).toNat)),.i 0,.i (gi q 2).iV,.i 0]) fun v g=>(bh true (cn wL [.l (gi g 0).rZ,.i (gi g 1).iV,.l (gi g 2).rZ,.i (((gi g 3).iV.toNat:Nat):Int),.l [],.l (gi g 4).rZ,.i (((gi g 4).rZ.length:Nat):Int),.i 0]) fun y h=>(gd ((ar (gi h 2).rZ.length (gi h 2).rZ.length)&&true) (some [.l (gi h 0).rZ,.i (gi h 1).iV,.l (gi h 2).rZ])))))))
def ab1:aO:=⟨20,[.s (.ptr 0 0)],[.box [.list [.I],.I]],[.ay 0],[.s (.vQ 1 2)],[.box [.list [.I],.I],.vQ [.str,.list aK] 0],[.fix 0,.ay 0],[],Dy⟩
def t21:aH:=t20.dO ab1
theorem ab2:aJ P t21:=rP.aW (mw hm (rP.jn [1500080]) func20 (by kernel_rfl) ab0 (fun d=>by kernel_rfl) (by kernel_rfl))

def Dz(d:LG):Option LG :=
 (aG (rL [.l (gi d 0).rZ,.i (gi d 1).iV,.i 60]) fun g=>(bif (gi g 2).bV then (aG (iU [.l (gi g 0).rZ,.i (gi g 1).iV,.l [[.s (⟨#[]⟩:BY)],[.s (⟨#[107,49]⟩:BY)],[.s (⟨#[75,49,65,66]⟩:BY)],[.s (⟨#[107,49,97,98,47]⟩:BY)],[.s (⟨#[49,97]⟩:BY)],[.s (⟨#[107,49,97,98,47,109,109,47,112]⟩:BY)]]]) fun h=>some [.l (gi h 0).rZ,.i (gi h 1).iV,.s (gi h 2).sV]) else (aG (iU [.l (gi g 0).rZ,.i (gi g 1).iV,.l [[.s (⟨#[107,49,97,98]⟩:BY)],[.s (⟨#[107,49,97,97]⟩:BY)],[.s (⟨#[107,49,97,98,47,52]⟩:BY)],[.s (⟨#[111,104,50,97,98,99]⟩:BY)],[.s (⟨#[111,104,50,97,98,100]⟩:BY)],[.s (⟨#[119,49,97,119]⟩:BY)],[.s (⟨#[110,49,109,109]⟩:BY)],[.s (⟨#[103,51,120,121,122,47,112]⟩:BY)]]]) fun k=>some [.l (gi k 0).rZ,.i (gi k 1).iV,.s (gi k 2).sV])))
def ab3:aO:=⟨45,[.s (.ptr 0 0)],[.box [.list [.I],.I]],[.ay 0],[cL],[.box [.list [.I],.I]],[.fix 0],[],Dz⟩
def t22:aH:=t21.dO ab3
theorem ab4:aJ P t22:=nq ab2 func45

def ue(d:LG):Option LG :=
 (aG (rL [.l (gi d 0).rZ,.i (gi d 1).iV,.i 12]) fun g=>(bif (gi g 2).bV then (gd (aB ((gi d 2).iV-1)) (gd (aB ((gi d 3).iV+1)) (aG (lN [.l (gi g 0).rZ,.i (gi g 1).iV,.l [[.i ((gi d 2).iV-1)],[.i ((gi d 3).iV+1)],[.i (gi d 2).iV],[.i (gi d 3).iV],[.i (-1099511627776)],[.i 1099511627776]]]) fun h=>some [.l (gi h 0).rZ,.i (gi h 1).iV,.i (gi h 2).iV]))) else (aG (wD [.l (gi g 0).rZ,.i (gi g 1).iV,.i (gi d 2).iV,.i (gi d 3).iV]) fun k=>some [.l (gi k 0).rZ,.i (gi k 1).iV,.i (gi k 2).iV])))
def ab5:aO:=⟨46,[.s (.ptr 0 0),aq,aq],[.box [.list [.I],.I]],[.ay 0],[aq],[.box [.list [.I],.I]],[.fix 0],[],ue⟩
def t23:aH:=t22.dO ab5
theorem ab6:aJ P t23:=nq ab4 func46

def DA(d:LG):Option LG :=
 let k:=(⟨#[]⟩:BY); let z2:=(⟨#[98,50,48]⟩:BY); let z3:=(⟨#[117,115,97]⟩:BY); (aG (lN [.l (gi d 0).rZ,.i (gi d 1).iV,.l [[.i 1],[.i 1],[.i 2],[.i 3]]]) fun q=>(aG (iU [.l (gi q 0).rZ,.i (gi q 1).iV,.l [[.s z2],[.s z2],[.s (⟨#[98,52,48]⟩:BY)]]]) fun v=>(aG (Dz [.l (gi v 0).rZ,.i (gi v 1).iV]) fun h=>(aG (lN [.l (gi h 0).rZ,.i (gi h 1).iV,.l [[.i 0],[.i 1],[.i 2],[.i 3],[.i 4],[.i 5],[.i 6],[.i 7]]]) fun y=>(aG (lN [.l (gi y 0).rZ,.i (gi y 1).iV,.l [[.i 0],[.i 1],[.i 2],[.i 9]]]) fun I=>(aG (iU [.l (gi I 0).rZ,.i (gi I 1).iV,.l [[.s k],[.s k],[.s (⟨#[102,105,110]⟩:BY)]]]) fun M=>(aG (iU [.l (gi M 0).rZ,.i (gi M 1).iV,.l [[.s k],[.s k],[.s z3]]]) fun N=>(aG (rL [.l (gi N 0).rZ,.i (gi N 1).iV,.i 100]) fun O=>(bif (gi O 2).bV then (aG (ph [.l (gi O 0).rZ,.i (gi O 1).iV,.i 4]) fun g=>(bif ((gi g 2).iV==0) then (aG (ue [.l (gi g 0).rZ,.i (gi g 1).iV,.i 0,.i 500]) fun U=>(aG (ue [.l (gi U 0).rZ,.i (gi U 1).iV,.i 1,.i 3]) fun V=>some [.l (gi V 0).rZ,.i (gi V 1).iV,.l [[.i (gi U 2).iV,.i (gi V 2).iV,.s (gi v 2).sV,.s (gi h 2).sV,.i (gi y 2).iV,.i (gi I 2).iV,.s (gi M 2).sV,.s (gi N 2).sV]]])) else (bif ((gi g 2).iV==1) then (aG (iU [.l (gi g 0).rZ,.i (gi g 1).iV,.l [[.s k],[.s (⟨#[66]⟩:BY)],[.s z2]]]) fun W=>some [.l (gi W 0).rZ,.i (gi W 1).iV,.l [[.i (gi d 2).iV,.i (gi q 2).iV,.s (gi W 2).sV,.s (gi h 2).sV,.i (gi y 2).iV,.i (gi I 2).iV,.s (gi M 2).sV,.s (gi N 2).sV]]]) else (bif ((gi g 2).iV==2) then (aG (ue [.l (gi g 0).rZ,.i (gi g 1).iV,.i 0,.i 99999]) fun g13=>(aG (ue [.l (gi g13 0).rZ,.i (gi g13 1).iV,.i 0,.i 99999]) fun g14=>some [.l (gi g14 0).rZ,.i (gi g14 1).iV,.l [[.i (gi d 2).iV,.i (gi q 2).iV,.s (gi v 2).sV,.s (gi h 2).sV,.i (gi g13 2).iV,.i (gi g14 2).iV,.s (gi M 2).sV,.s (gi N 2).sV]]])) else (aG (iU [.l (gi g 0).rZ,.i (gi g 1).iV,.l [[.s k],[.s (⟨#[65]⟩:BY)]]]) fun g15=>(aG (iU [.l (gi g15 0).rZ,.i (gi g15 1).iV,.l [[.s (⟨#[49]⟩:BY)],[.s z3]]]) fun g16=>some [.l (gi g16 0).rZ,.i (gi g16 1).iV,.l [[.i (gi d 2).iV,.i (gi q 2).iV,.s (gi v 2).sV,.s (gi h 2).sV,.i (gi y 2).iV,.i (gi I 2).iV,.s (gi g15 2).sV,.s (gi g16 2).sV]]])))))) else some [.l (gi O 0).rZ,.i (gi O 1).iV,.l [[.i (gi d 2).iV,.i (gi q 2).iV,.s (gi v 2).sV,.s (gi h 2).sV,.i (gi y 2).iV,.i (gi I 2).iV,.s (gi M 2).sV,.s (gi N 2).sV]]])))))))))
def ab7:aO:=⟨24,[.s (.ptr 0 0),aq],[.box [.list [.I],.I]],[.ay 0],[.s (.row aK)],[.box [.list [.I],.I]],[.fix 0],[],DA⟩
def t24:aH:=t23.dO ab7
theorem DB:aJ P t24:=nq ab6 func24

def It(d:LG):Option LG :=
 (gd (cS 0 (gi d 0).rZ.length) (gd (decide ((gi d 0).rZ.length<=1048576)) (gd ((ar (gi d 0).rZ.length (gi d 0).rZ.length)&&true) (some [.l (gi d 0).rZ]))))
def DC:aO:=⟨23,[jH],[],[],[.s (.vQ 0 8)],[.vQ aK 0],[.ay 0],[],It⟩
theorem ab8:iT P DC:=jU hm DB func23 (bL _ _ _) (fun d=>by kernel_rfl)
def Qf:aO:={ DC with args:=[.s (.CC true)],opens:=[(2,aK)],F:=fun _=>some [.l []] }
theorem ab9:iT P Qf:=fun d r h=>CN hm DB (sp:=Qf) func23 (by kernel_rfl) (bL _ _ _) (fun d=>by kernel_rfl) (by kernel_rfl) h
def Qg:aO:={ DC with args:=[.s (.CC false)],opens:=[(2,aK)],F:=fun _=>some [.l []] }
theorem ab_:iT P Qg:=fun d r h=>CN hm DB (sp:=Qg) func23 (by kernel_rfl) (bL _ _ _) (fun d=>by kernel_rfl) (by kernel_rfl) h
def wM(d:LG):Option LG:=bif cS 0 (gi d 0).rZ.length then It d else some [.l []]
def Iu:aO:={ DC with F:=wM }
theorem ab':iT P Iu:=fun d r (h:wM d=some r)=>by
 unfold wM at h;cases hb:cS 0 (gi d 0).rZ.length with
 |true=>rw[hb]at h; exact ab8 d r h
 | false =>
  rw[hb]at h;cases h;have e:(d.headD default).rZ=[]:=by
   have:¬ 0<(gi d 0).rZ.length:=fun g=>by
    have k:cS 0 (gi d 0).rZ.length=true:=by rw[Nat.blt_eq]; exact g
    rw[k]at hb;cases hb
   exact List.eq_nil_of_length_eq_zero (Nat.eq_zero_of_not_pos this)
  have ha:Iu.gD d=[.listF aK []]:=by
   rw[<-e];rfl
  rw[ha];exact YN (ab9 d [.l []] rfl) (ab_ d [.l []] rfl)
def t25:aH:=t24.dO Iu
theorem Qh:aJ P t25:=DB.aW ab'

def zU(d:LG):Option (Option Nat × LG) :=
 let N:=(((gi d 2).rZ.length:Nat):Int); (bif (gi d 3).bV then (aG (ph [.l (gi d 0).rZ,.i (gi d 1).iV,.i N]) fun h=>let g:=0+((gi h 2).iV).toNat; let O:=(gi d 2).rZ.getD g []; let U:=decide (g<(gi d 2).rZ.length); (gd ((aM (gi h 2).iV)&&(ax (gi h 2).iV N)) (gd U (aG (iU [.l (gi h 0).rZ,.i (gi h 1).iV,.l [[.s (gi O 0).sV],[.s (⟨#[]⟩:BY)],[.s (⟨#[107,49,97,98]⟩:BY)],[.s (⟨#[119,49,97,119]⟩:BY)]]]) fun q=>let v:=(gi d 2).rZ.set g (eo [.str,.list aK] O 0 [.s (gi q 2).sV]); let V:=v.getD g []; let W:=decide (g<v.length); (gd U (gd W (aG (wM [.l (gi V 1).rZ]) fun k=>(aG (lN [.l (gi q 0).rZ,.i (gi q 1).iV,.l [[.i 0],[.i 100000]]]) fun y=>(aG (DA [.l (gi y 0).rZ,.i (gi y 1).iV,.i (gi y 2).iV]) fun I=>let M:=((gi k 0).rZ++([(a8 aK (gi I 2).rV)]:LL)); let z9:=v.set g (eo [.str,.list aK] V 1 [.l M]); (gd ((ar (gi k 0).rZ.length (gi k 0).rZ.length)&&(decide (((gi k 0).rZ.length+1)<=1048576))) (gd ((ar M.length M.length)&&W) (gd ((ar (gi d 2).rZ.length z9.length)&&true) (some (some 0,[.l (gi I 0).rZ,.i (gi I 1).iV,.l z9])))))))))))))) else (gd ((ar (gi d 2).rZ.length (gi d 2).rZ.length)&&true) (some (some 0,[.l (gi d 0).rZ,.i (gi d 1).iV,.l (gi d 2).rZ]))))
def aca:bG:=⟨3,[],⟨46,[(0,.s (.ptr 0 0)),(3,.s (.vQ 1 2)),(13,da)],Io⟩,[.fix 0,.ay 3],[⟨.normal,⟨46,[(3,.s (.vQ 1 2))],Io⟩,[.fix 0,.ay 3]⟩],zU⟩
def acb:LT:=bJ.fU 1 aca
theorem acd:aZ P 1 acb (bk f4):=lC Qh (bL _ _ _)
def DD(d:LG):Option LG :=
 (aG (Dy [.l (gi d 0).rZ,.i (gi d 1).iV]) fun g=>let v:=(ar (gi g 2).rZ.length (gi g 2).rZ.length)&&true; (bif (ax 0 (((gi g 2).rZ.length:Nat):Int)) then (aG (rL [.l (gi g 0).rZ,.i (gi g 1).iV,.i 12]) fun q=>(bh v (dC (zU [.l (gi q 0).rZ,.i (gi q 1).iV,.l (gi g 2).rZ,.t (gi q 2).bV])) fun y h=>(gd ((ar (gi h 2).rZ.length (gi h 2).rZ.length)&&true) (some [.l (gi h 0).rZ,.i (gi h 1).iV,.l (gi h 2).rZ])))) else (bh v (dC (zU [.l (gi g 0).rZ,.i (gi g 1).iV,.l (gi g 2).rZ,.t false])) fun I k=>(gd ((ar (gi k 2).rZ.length (gi k 2).rZ.length)&&true) (some [.l (gi k 0).rZ,.i (gi k 1).iV,.l (gi k 2).rZ])))))
def ace:aO:=⟨4,[.s (.ptr 0 0)],[.box [.list [.I],.I]],[.ay 0],[.s (.list [.str,.list aK])],[.box [.list [.I],.I]],[.fix 0],[],DD⟩
def t26:aH:=t25.dO ace
theorem acf:aJ P t26:=tW Qh func4 acd

def DE(d:LG):Option LG :=
 (aG (lN [.l (gi d 0).rZ,.i (gi d 1).iV,.l [[.i 0],[.i 10],[.i 29],[.i 30],[.i 60],[.i 60],[.i 200],[.i 1000],[.i (-1)],[.i 3600000],[.i 3600001]]]) fun g=>some [.l (gi g 0).rZ,.i (gi g 1).iV,.i (gi g 2).iV])
def acg:aO:=⟨5,[.s (.ptr 0 0)],[.box [.list [.I],.I]],[.ay 0],[aq],[.box [.list [.I],.I]],[.fix 0],[],DE⟩
def t27:aH:=t26.dO acg
theorem ach:aJ P t27:=nq acf func5

def zV(d:LG):Option LG :=
 (aG (Ik [.s (gi d 0).sV]) fun g=>some [.t (gi g 1).bV])
def aci:aO:=⟨86,[cL],[],[],[da],[],[],[],zV⟩
def t28:aH:=t27.bp aci
theorem acj:aJ P t28:=cY ach func86

def DF(d:LG):Option LG :=
 let g:=(gi (gi d 0).rV 0).iV-1; let h:=gi ((gi (gi d 2).rV 0).rZ.getD (g.toNat) []) 0; (bif (ax 0 (gi (gi d 0).rV 0).iV) then (gd (aB g) (gd ((aM g)&&(ax g (((gi (gi d 2).rV 0).rZ.length:Nat):Int))) (bif ((Op.bytesLess (gi (gi d 1).rV 0).sV.toList h.sV.toList)||((gi (gi d 1).rV 0).sV.toList==h.sV.toList)) then some [.i 7] else some [.i 0]))) else some [.i 0])
def ack:aO:=⟨66,[.s (.cptr [.I]),.s (.cptr [.str,.list aK]),.s (.cptr [.list [.str,.list aK]])],[],[],[aq],[],[],[],DF⟩
def t29:aH:=t28.bp ack
theorem acm:aJ P t29:=cY acj func66

def pk(d:LG):Option LG :=
 (bif (ax (gi d 0).iV (gi d 1).iV) then some [.t true] else some [.t (ax (gi d 2).iV (gi d 0).iV)])
def acn:aO:=⟨29,[aq,aq,aq],[],[],[da],[],[],[],pk⟩
def t30:aH:=t29.bp acn
theorem aco:aJ P t30:=cY acm func29

def Iv(d:LG):Option LG :=
 (aG (pk [.i (gi d 0).iV,.i 0,.i 345686399999]) fun g=>some [.t (!(gi g 0).bV)])
def acp:aO:=⟨145,[aq],[],[],[da],[],[],[],Iv⟩
def t31:aH:=t30.bp acp
theorem acq:aJ P t31:=cY aco func145

def Iw(d:LG):Option LG :=
 (aG (pk [.i (gi d 0).iV,.i 1,.i 3]) fun g=>some [.t (!(gi g 0).bV)])
def acr:aO:=⟨146,[aq],[],[],[da],[],[],[],Iw⟩
def t32:aH:=t31.bp acr
theorem acs:aJ P t32:=cY acq func146

def DG(d:LG):Option LG :=
 let g:=(((gi d 0).sV.size:Nat):Int); (bif (!((gi d 0).sV.toList==(⟨#[]⟩:BY).toList)) then (bif (bC g 40) then (gd (ax 0 g) (aG (Ds [.s (⟨#[97,98,99,100,101,102,103,104,105,106,107,108,109,110,111,112,113,114,115,116,117,118,119,120,121,122]⟩:BY),.i (((gi d 0).sV.data.toList.getD 0 0).toNat:Int)]) fun h=>(bif (bC 0 (gi h 0).iV) then (aG (Dt [.s (gi d 0).sV,.s (⟨#[97,98,99,100,101,102,103,104,105,106,107,108,109,110,111,112,113,114,115,116,117,118,119,120,121,122,48,49,50,51,52,53,54,55,56,57,45,95]⟩:BY)]) fun k=>some [.t ((gi k 0).sV.toList==(⟨#[]⟩:BY).toList)]) else some [.t false]))) else some [.t false]) else some [.t false])
def acu:aO:=⟨147,[cL],[],[],[da],[],[],[],DG⟩
def t33:aH:=t32.bp acu
theorem acv:aJ P t33:=cY acs func147

def DH(d:LG):Option LG :=
 (bif ((gi d 0).sV.toList==(⟨#[]⟩:BY).toList) then some [.t true] else (aG (DG [.s (gi d 0).sV]) fun g=>some [.t (gi g 0).bV]))
def acw:aO:=⟨148,[cL],[],[],[da],[],[],[],DH⟩
def t34:aH:=t33.bp acw
theorem acx:aJ P t34:=cY acv func148

def DI(d:LG):Option LG :=
 (aG (Iv [.i (gi (gi d 0).rV 0).iV]) fun g=>(bif (!(gi g 0).bV) then some [.i 1] else (aG (Iw [.i (gi (gi d 0).rV 1).iV]) fun h=>(bif (!(gi h 0).bV) then some [.i 4] else (aG (DG [.s (gi (gi d 0).rV 2).sV]) fun k=>(bif (!(gi k 0).bV) then some [.i 5] else (aG (zV [.s (gi (gi d 0).rV 3).sV]) fun q=>(bif (!(gi q 0).bV) then some [.i 3] else (aG (pk [.i (gi (gi d 0).rV 4).iV,.i 0,.i 99999]) fun v=>(bif (gi v 0).bV then some [.i 1] else (aG (pk [.i (gi (gi d 0).rV 5).iV,.i 0,.i 99999]) fun y=>(bif (gi y 0).bV then some [.i 1] else (aG (DH [.s (gi (gi d 0).rV 6).sV]) fun I=>(bif (!(gi I 0).bV) then some [.i 5] else (aG (DH [.s (gi (gi d 0).rV 7).sV]) fun M=>(bif (!(gi M 0).bV) then some [.i 5] else some [.i 0]))))))))))))))))
def acy:aO:=⟨112,[.s (.row aK)],[],[],[aq],[],[],[],DI⟩
def t35:aH:=t34.bp acy
theorem acz:aJ P t35:=cY acx func112

def DJ(d:LG):Option LG :=
 some [.t ((gi d 0).iV != (gi d 0).iV)]
def acA:aO:=⟨176,[aq],[],[],[da],[],[],[],DJ⟩
def t36:aH:=t35.bp acA
theorem acB:aJ P t36:=cY acz func176

def wN(d:LG):Option LG :=
 (aG (DJ [.i (gi d 0).iV]) fun h=>(aG (DJ [.i (gi d 1).iV]) fun g=>(bif (gi h 0).bV then (bif (gi g 0).bV then some [.i 0] else some [.i (-1)]) else (bif (gi g 0).bV then some [.i 1] else (bif (ax (gi d 0).iV (gi d 1).iV) then some [.i (-1)] else (bif (ax (gi d 1).iV (gi d 0).iV) then some [.i 1] else some [.i 0]))))))
def acC:aO:=⟨150,[aq,aq],[],[],[aq],[],[],[],wN⟩
def t37:aH:=t36.bp acC
theorem Qi:aJ P t37:=cY acB func150

def wO(d:LG):Option (Option Nat × LG) :=
 let g:=gi ((gi d 1).rZ.getD (((gi d 3).iV).toNat) []) 0; (bif (ax (gi d 3).iV (gi d 2).iV) then (gd ((aM (gi d 3).iV)&&(ax (gi d 3).iV (((gi d 1).rZ.length:Nat):Int))) (bif (g.iV != (gi d 0).iV) then some (some 0,[.i g.iV]) else (gd (aB ((gi d 3).iV+1)) (some (none,[.i (gi d 0).iV,.l (gi d 1).rZ,.i (gi d 2).iV,.i ((gi d 3).iV+1)]))))) else some (some 1,[.i (gi d 0).iV]))
def acD:bG:=⟨3,[],⟨18,[(3,aq),(6,gR),(7,aq),(8,aq)],[]⟩,[],[⟨.ret,⟨18,wG,[]⟩,[]⟩,⟨.exit 0,⟨18,[(3,aq)],[]⟩,[]⟩],wO⟩
def acE:LT:=bJ.add 0 acD
theorem acF:aZ P 0 acE (bk f149):=lA Qi (bL _ _ _)
def DK(d:LG):Option LG :=
 (bh true (cn wO [.i 0,.l (gi d 0).rZ,.i (((gi d 0).rZ.length:Nat):Int),.i 0]) fun h g=>(bif ar h 0 then some [.i (gi g 0).iV] else some [.i (gi g 0).iV]))
def acG:aO:=⟨149,[gR],[],[],[aq],[],[],[],DK⟩
def t38:aH:=t37.bp acG
theorem acH:aJ P t38:=tP Qi func149 acF

def DL(d:LG):Option LG :=
 (aG (wN [.i (gi (gi d 0).rV 0).iV,.i (gi (gi d 1).rV 0).iV]) fun g=>(aG (ox [.s (gi (gi d 0).rV 3).sV,.s (gi (gi d 1).rV 3).sV]) fun h=>(aG (ox [.s (gi (gi d 0).rV 2).sV,.s (gi (gi d 1).rV 2).sV]) fun k=>(aG (wN [.i (gi (gi d 0).rV 1).iV,.i (gi (gi d 1).rV 1).iV]) fun q=>(aG (DK [.l [[.i (gi g 0).iV],[.i (gi h 0).iV],[.i (gi k 0).iV],[.i (gi q 0).iV]]]) fun v=>some [.i (gi v 0).iV])))))
def acI:aO:=⟨113,[.s (.row aK),.s (.row aK)],[],[],[aq],[],[],[],DL⟩
def t39:aH:=t38.bp acI
theorem Qj:aJ P t39:=cY acH func113

def Qk(d:LG):Option (Option Nat × LG) :=
 let k:=a8 aK ((gi d 1).rZ.getD (((gi d 3).iV).toNat) []); let g:=(gi d 3).iV-1; let h:=(gi d 3).iV+1; (bif (ax (gi d 3).iV (gi d 2).iV) then (gd ((aM (gi d 3).iV)&&(ax (gi d 3).iV (((gi d 1).rZ.length:Nat):Int))) (aG (DI [.l [k]]) fun q=>(bif ((gi q 0).iV != 0) then some (some 0,[.i (gi q 0).iV]) else (bif (ax 0 (gi d 3).iV) then (gd (aB g) (gd ((aM g)&&(ax g (((gi d 0).rZ.length:Nat):Int))) (aG (DL [.l [(a8 aK ((gi d 0).rZ.getD (g.toNat) []))],.l [k]]) fun v=>(bif (bC 0 (gi v 0).iV) then some (some 0,[.i 7]) else (gd (aB h) (some (none,[.l (gi d 0).rZ,.l (gi d 1).rZ,.i (gi d 2).iV,.i h]))))))) else (gd (aB h) (some (none,[.l (gi d 0).rZ,.l (gi d 1).rZ,.i (gi d 2).iV,.i h]))))))) else some (some 1,[]))
def acJ:bG:=⟨4,[],⟨34,PS,[]⟩,[],[⟨.ret,⟨34,wG,[]⟩,[]⟩,⟨.exit 0,⟨34,[],[]⟩,[]⟩],Qk⟩
def acK:LT:=bJ.add 0 acJ
theorem acL:aZ P 0 acK (bk f87):=lA Qj (bL _ _ _)
def Ix(d:LG):Option LG :=
 let g:=(((gi d 0).rZ.length:Nat):Int); (bif (ax 2000 g) then some [.i 2] else (bh true (cn Qk [.l (gi d 0).rZ,.l (gi d 0).rZ,.i g,.i 0]) fun h k=>(bif ar h 0 then some [.i (gi k 0).iV] else some [.i 0])))
def acM:aO:=⟨87,[jH],[],[],[aq],[],[],[],Ix⟩
def t40:aH:=t39.bp acM
theorem acN:aJ P t40:=tP Qj func87 acL

def DM(d:LG):Option LG :=
 some [.t ((gi (gi d 0).rV 3).sV.toList==(gi (gi d 1).rV 0).sV.toList)]
def acO:aO:=⟨88,[.s (.row aK),.s (.cptr [.str,.list aK])],[],[],[da],[],[],[],DM⟩
def t41:aH:=t40.bp acO
theorem Ql:aJ P t41:=cY acN func88

def Qm(d:LG):Option (Option Nat × LG) :=
 let g:=a8 [.str,.list aK] (gi d 1).rV; (bif (ax (gi d 3).iV (gi d 2).iV) then (gd ((aM (gi d 3).iV)&&(ax (gi d 3).iV (((gi d 0).rZ.length:Nat):Int))) (aG (DM [.l [(a8 aK ((gi d 0).rZ.getD (((gi d 3).iV).toNat) []))],.l [g]]) fun h=>(bif (gi h 0).bV then some (some 0,[.i (gi d 3).iV]) else (gd (aB ((gi d 3).iV+1)) (some (none,[.l (gi d 0).rZ,.l [g],.i (gi d 2).iV,.i ((gi d 3).iV+1)])))))) else some (some 1,[]))
def acP:bG:=⟨2,[],⟨19,[(0,jH),(1,.clo 88 [.cptr [.str,.list aK]]),(7,aq),(8,aq)],[]⟩,[],[⟨.ret,⟨19,ud,[]⟩,[]⟩,⟨.exit 0,⟨19,[],[]⟩,[]⟩],Qm⟩
def acQ:LT:=bJ.add 0 acP
theorem acR:aZ P 0 acQ (bk f102):=lA Ql (bL _ _ _)
def Qn(d:LG):Option LG :=
 (bh true (cn Qm [.l (gi d 0).rZ,.l [(a8 [.str,.list aK] (gi d 1).rV)],.i (((gi d 0).rZ.length:Nat):Int),.i 0]) fun g h=>(bif ar g 0 then some [.i (gi h 0).iV] else some [.i (-1)]))
def acS:aO:=⟨102,[jH,.clo 88 [.cptr [.str,.list aK]]],[],[],[aq],[],[],[],Qn⟩
def t42:aH:=t41.bp acS
theorem acT:aJ P t42:=tP Ql func102 acR

def Qo(d:LG):Option LG :=
 (aG (Qn [.l (gi d 0).rZ,.l [(a8 [.str,.list aK] (gi d 1).rV)]]) fun g=>some [.t (bC 0 (gi g 0).iV)])
def acU:aO:=⟨74,[jH,.clo 88 [.cptr [.str,.list aK]]],[],[],[da],[],[],[],Qo⟩
def t43:aH:=t42.bp acU
theorem Qp:aJ P t43:=cY acT func74

def DN(d:LG):Option LG :=
 (aG (zV [.s (gi (gi d 0).rV 0).sV]) fun k=>(bif (!(gi k 0).bV) then some [.i 3] else (aG (DF [.l [[.i (gi (gi d 1).rV 0).iV]],.l [(a8 [.str,.list aK] (gi d 2).rV)],.l [[.l (gi (gi d 3).rV 0).rZ]]]) fun g=>(bif ((gi g 0).iV != 0) then some [.i (gi g 0).iV] else (aG (Ix [.l (gi (gi d 0).rV 1).rZ]) fun h=>(bif ((gi h 0).iV != 0) then some [.i (gi h 0).iV] else (aG (Qo [.l (gi (gi d 0).rV 1).rZ,.l [(a8 [.str,.list aK] (gi d 0).rV)]]) fun q=>(bif (gi q 0).bV then some [.i 6] else some [.i 0]))))))))
def acV:aO:=⟨67,[nr,.clo 66 [.cptr [.I],.cptr [.str,.list aK],.cptr [.list [.str,.list aK]]]],[],[],[aq],[],[],[],DN⟩
def t44:aH:=t43.bp acV
theorem Iy:aJ P t44:=Qp.aP (mw hm (Qp.kC [74]) func67 (by kernel_rfl) (bL _ _ _) (fun d=>by kernel_rfl) (by kernel_rfl))

end
end Go.Proofs.jq
