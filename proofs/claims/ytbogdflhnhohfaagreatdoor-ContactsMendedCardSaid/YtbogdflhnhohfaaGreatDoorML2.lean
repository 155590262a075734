/-
 What is proved here: functions of the program as functions on data. No condition.
-/
import Derived.Test.YtbogdflhnhohfaaGreatDoorML1
set_option linter.all false
open Int renaming tmod->B0,tdiv->F6
open Nat renaming beq->aG,blt->dq
namespace Go.Proofs.iQ
open Go Go.AL Go.Proofs Tryz
noncomputable section
def wY(d:LG):Option LG :=
 let g:=B0 (gi d 0).iV (gi d 1).iV; (bif (aO (gi d 1).iV 1) then some [.i 0] else (gd (!((gi d 1).iV==0)) (bif (aO g 0) then (gd (ay (g+(gi d 1).iV)) (some [.i (g+(gi d 1).iV)])) else some [.i g])))
def acu:aL:=⟨47,[ak,ak],[],[],[ak],[],[],[],wY⟩
def t8:aD:=t7.bk acu
def acv:aI P t8:=cU acs func47

def pE(d:LG):Option LG :=
 let h:=(lI (gi d 0).rZ); let g:=(gi d 1).iV+1; let k:=B0 (g-1) h; let q:=(F6 (g-1) h)*(7919+k); (gd (ay g) (bif (h==0) then (gd (ay (g*7919)) (aB (wY [.i (g*7919),.i (gi d 2).iV]) fun y=>some [.l (gi d 0).rZ,.i g,.i (gi y 0).iV])) else (gd (ay (g-1)) (gd (!(h==0)) (gd (ay (g-1)) (gd ((!(h==0))&&(ay (F6 (g-1) h))) (gd (nL k h) (aB (wY [.i (gi ((gi d 0).rZ.getD (k.toNat) []) 0).iV,.i 1073741824]) fun v=>(gd (ay (7919+k)) (gd (ay q) (gd (ay ((gi v 0).iV+q)) (aB (wY [.i ((gi v 0).iV+q),.i (gi d 2).iV]) fun I=>some [.l (gi d 0).rZ,.i g,.i (gi I 0).iV]))))))))))))
def acw:aL:=⟨19,[.s (.ptr 0 0),ak],[.box [.list [.I],.I]],[.aq 0],[ak],[.box [.list [.I],.I]],[.fix 0],[],pE⟩
def t9:aD:=t8.dm acw
def acx:aI P t9:=mL acv func19

def wZ(d:LG):Option LG :=
 let g:=(gi d 3).iV-(gi d 2).iV; (bif (aO (gi d 3).iV (gi d 2).iV) then some (kp d 0 [.l,.i,.i] []) else (gd (ay g) (gd (ay (g+1)) (aB (pE [.l (gi d 0).rZ,.i (gi d 1).iV,.i (g+1)]) fun h=>let k:=(gi d 2).iV+(gi h 2).iV; (gd (ay k) (some [.l (gi h 0).rZ,.i (gi h 1).iV,.i k]))))))
def acy:aL:=⟨45,[.s (.ptr 0 0),ak,ak],[.box [.list [.I],.I]],[.aq 0],[ak],[.box [.list [.I],.I]],[.fix 0],[],wZ⟩
def t10:aD:=t9.dm acy
def acz:aI P t10:=mL acx func45

def mO(d:LG):Option LG :=
 let h:=(lI (gi d 2).rZ); (aB (pE [.l (gi d 0).rZ,.i (gi d 1).iV,.i h]) fun g=>(gd (nL (gi g 2).iV h) (some [.l (gi g 0).rZ,.i (gi g 1).iV,.i (gi ((gi d 2).rZ.getD (((gi g 2).iV).toNat) []) 0).iV])))
def acA:aL:=⟨22,[.s (.ptr 0 0),gQ],[.box [.list [.I],.I]],[.aq 0],[ak],[.box [.list [.I],.I]],[.fix 0],[],mO⟩
def t11:aD:=t10.dm acA
def acB:aI P t11:=mL acz func22

def jg(d:LG):Option LG :=
 let h:=(lI (gi d 2).rZ); (aB (pE [.l (gi d 0).rZ,.i (gi d 1).iV,.i h]) fun g=>(gd (nL (gi g 2).iV h) (some [.l (gi g 0).rZ,.i (gi g 1).iV,.s (gi ((gi d 2).rZ.getD (((gi g 2).iV).toNat) []) 0).sV])))
def acC:aL:=⟨6,[.s (.ptr 0 0),.s (.list [.str])],[.box [.list [.I],.I]],[.aq 0],[bR],[.box [.list [.I],.I]],[.fix 0],[],jg⟩
def t12:aD:=t11.dm acC
def acD:aI P t12:=mL acB func6

def rY(d:LG):Option LG :=
 (aB (pE (kp d 0 [.l,.i,.i] [])) fun g=>some [.l (gi g 0).rZ,.i (gi g 1).iV,.t ((gi g 2).iV==0)])
def acE:aL:=⟨18,[.s (.ptr 0 0),ak],[.box [.list [.I],.I]],[.aq 0],[cN],[.box [.list [.I],.I]],[.fix 0],[],rY⟩
def t13:aD:=t12.dm acE
def acF:aI P t13:=mL acD func18

def r7(d:LG):Option LG :=
 (bif (aO (gi d 0).iV 0) then some [.i (-1)] else (bif (aO 0 (gi d 0).iV) then some [.i 1] else some [.i 0]))
def acG:aL:=⟨72,[ak],[],[],[ak],[],[],[],r7⟩
def t14:aD:=t13.bk acG
def acH:aI P t14:=cU acF func72

def r8(d:LG):Option LG :=
 let g:=(gi (gi d 0).rV 0).iV-(gi (gi d 1).rV 0).iV; let h:=(gi (gi d 0).rV 1).iV-(gi (gi d 1).rV 1).iV; (bif ((gi (gi d 0).rV 0).iV != (gi (gi d 1).rV 0).iV) then (gd (ay g) (aB (r7 [.i g]) fun k=>some [.i (gi k 0).iV])) else (bif (!((gi (gi d 0).rV 3).sV.toList==(gi (gi d 1).rV 3).sV.toList)) then (aB (oP [.s (gi (gi d 0).rV 3).sV,.s (gi (gi d 1).rV 3).sV]) fun q=>some [.i (gi q 0).iV]) else (bif (!((gi (gi d 0).rV 2).sV.toList==(gi (gi d 1).rV 2).sV.toList)) then (aB (oP [.s (gi (gi d 0).rV 2).sV,.s (gi (gi d 1).rV 2).sV]) fun v=>some [.i (gi v 0).iV]) else (gd (ay h) (aB (r7 [.i h]) fun y=>some [.i (gi y 0).iV])))))
def acI:aL:=⟨38,[.s (.row au),.s (.row au)],[],[],[ak],[],[],[],r8⟩
def t15:aD:=t14.bk acI
def I7:aI P t15:=cU acH func38

def Qz(d:LG):Option (Option Nat × LG) :=
 let g:=(gi d 4).iV-1; let h:=(gi d 0).rZ.set (0+((gi d 4).iV).toNat) (dV au ((gi d 0).rZ.getD (0+((gi d 4).iV).toNat) []) 0 (aQ au ((gi d 0).rZ.getD (0+g.toNat) []))); let y:=(lI (gi d 0).rZ); let I:=h.set (0+g.toNat) (dV au (h.getD (0+g.toNat) []) 0 (aQ au ((gi d 0).rZ.getD (0+((gi d 4).iV).toNat) []))); let k:=decide ((0+((gi d 4).iV).toNat)<(gi d 0).rZ.length); let q:=nL (gi d 4).iV y; let M:=bE (gi d 0).rZ; let N:=decide ((0+g.toNat)<(gi d 0).rZ.length); let v:=nL g y; (bif (aO (gi d 1).iV (gi d 4).iV) then (gd q (gd k (gd (ay g) (gd v (gd N (aB (r8 [.l [(aQ au ((gi d 0).rZ.getD (0+((gi d 4).iV).toNat) []))],.l [(aQ au ((gi d 0).rZ.getD (0+g.toNat) []))]]) fun O=>(bif (aO (gi O 0).iV 0) then (gd (ay g) (gd (ay g) (gd v (gd N (gd q (gd k (gd q (gd k (gd v (gd (decide ((0+g.toNat)<h.length)) (gd (ay g) (gd ((aG (gi d 0).rZ.length I.length)&&true) (some (none,.l I::kp d 1 [.i,.i,.i] [.i g])))))))))))))) else (gd M (some (some 0,kp d 0 [.l,.i,.i,.i] [])))))))))) else (gd M (some (some 0,kp d 0 [.l,.i,.i,.i] []))))
abbrev dn:List bX:=[.vQ au 0]
abbrev r9:List bX:=[.box [.list [.I],.I],.a7 1 (.one (.str)) au,.map (.one (.str)) (.one .I)]
abbrev r_:List bX:=[.box [.list [.I],.list [.I],.list [.I]],.vQ [.I] 0]
abbrev uu:List bX:=[.box [.list au,.list au,.list [.I],.list [.I],.I,.list [.list [.I]]],.vQ [.I,.I] 0]
abbrev w5:List bX:=[.box [.list [.str,.list au],.I,.I,.map 1,.map 2],.mm 11 (.one .I) (.one .I) (.one .I),.mm 12 (.one .I) (.one .I) (.one (.bool))]
abbrev Ax:List bX:=[.box [.str,.list au],.box [.str,.list au],.box [.list [.I,.I],.I],.cM 1 [.list [.I,.I],.I]]
abbrev DY:List bX:=[.box [.list au,.list au,.list [.I],.list [.I],.I,.vQ 1 1],.vQ [.list [.I]] 0,.vQ [.I] 0]
abbrev DZ:List bX:=[.vQ [.I,.I] 0]
abbrev D0:List bX:=[.vQ au 0,.box [.I,.I,.str,.str,.I,.I,.str,.str]]
abbrev D1:List bX:=[.box [.str,.list au],.box [.str,.list au],.bJ 1 (.one (.str)) [.I]]
abbrev I8:List bX:=[.box [.list [.I],.I],.vQ [.str,.list au] 0]
abbrev QA:List bX:=[.box [.list au,.list au,.list [.I],.list [.I],.I,.vQ 1 1],.vQ [.list [.I]] 0]
abbrev QB:List bX:=[.box [.str,.list au],.box [.str,.list au],.map (.agg [.str,.I]) (.one (.list [.I])),.vQ [.I,.I] 0]
abbrev QC:List bX:=[.box [.list [.str,.list au],.I,.I,.map 1,.map 2],.mm 11 (.one .I) (.one .I) (.one .I),.mm 12 (.one .I) (.one .I) (.one (.bool)),.box [.I,.I,.str,.str,.I,.I,.str,.str]]
abbrev QD:List bX:=[.vQ au 0,.box [.I,.I,.str,.I],.box [.I,.I,.str,.str,.I,.I,.str,.str]]
abbrev QE:List bX:=[.box [.str,.list au],.box [.str,.list au],.vQ [.I,.I] 0]
abbrev QF:List bX:=[.box [.str,.list au],.box [.I,.I,.str,.str,.I,.I,.str,.str],.vQ dz 0]
abbrev sc:List (Nat × Sh):=[(4,ak)]
abbrev w6:List (Nat × Sh):=[(0,.s (.ptr 0 0)),(3,.s (.list [.str])),(4,.s (.map 1)),(5,ak),(6,.s (.map 2)),(24,ak),(25,ak)]
abbrev w7:List (Nat × Sh):=[(2,ak)]
abbrev Ay:List (Nat × Sh):=[(0,bR),(1,bR),(5,.s (.ptr 0 0)),(6,ak),(7,.s (.vQ 1 1)),(12,ak),(13,ak),(21,ak),(22,ak)]
abbrev I9:List (Nat × Sh):=[(0,.s (.vQ 0 8)),(5,ak)]
abbrev I_:List (Nat × Sh):=[(0,.s (.ptr 0 0)),(2,ak),(3,.s (.vQ 2 1)),(4,ak)]
abbrev I':List (Nat × Sh):=[(0,.s (.ptr 0 0)),(3,.s (.vQ 1 2)),(4,ak),(15,ak),(16,ak)]
abbrev Ja:List (Nat × Sh):=[(0,.s (.list [.str,.list au])),(9,ak),(11,.s (.vQ 0 8)),(29,.s (.list dz)),(30,ak),(31,ak)]
abbrev Jb:List (Nat × Sh):=[(0,.s (.list [.str,.list au])),(1,bR),(7,.s (.vQ 0 8)),(15,.s (.list dz)),(16,ak),(17,ak)]
abbrev QG:List (Nat × Sh):=[(0,.s (.vQ 0 8)),(1,ak),(2,ak),(3,.s (.fn 38)),(8,ak)]
abbrev QH:List (Nat × Sh):=[(0,.s (.vQ 0 8)),(1,ak),(2,.s (.fn 38)),(6,ak),(7,ak),(8,ak)]
abbrev QI:List (Nat × Sh):=[(0,.s (.vQ 0 8)),(1,ak),(2,.s (.fn 38)),(6,ak),(7,ak)]
abbrev QJ:List (Nat × Sh):=[(0,fK),(9,fK),(10,ak),(11,ak)]
abbrev QK:List (Nat × Sh):=[(0,.s (.ptr 0 0)),(3,.s (.vQ 1 2)),(4,ak),(5,ak),(6,ak),(15,ak),(16,ak)]
abbrev QL:List (Nat × Sh):=[(2,ak),(3,.s (.ptr 0 0)),(4,.s (.ptr 1 0)),(8,.s (.map 2)),(9,.s (.vQ 3 2)),(24,PF)]
abbrev QM:List (Nat × Sh):=[(0,.s (.vQ 0 8)),(1,ak),(2,ak),(3,.s (.fn 26)),(8,ak)]
abbrev QN:List (Nat × Sh):=[(0,.s (.vQ 0 8)),(1,ak),(2,.s (.fn 26)),(6,ak),(7,ak),(8,ak)]
abbrev QO:List (Nat × Sh):=[(0,.s (.vQ 0 8)),(1,ak),(2,.s (.fn 26)),(6,ak),(7,ak)]
abbrev QP:List (Nat × Sh):=[(0,.s (.list [.str,.list au])),(9,ak),(11,.s (.vQ 0 8)),(14,.s (.ptr 1 0)),(29,.s (.list dz)),(30,ak),(31,ak)]
abbrev QQ:List (Nat × Sh):=[(2,gQ),(3,gQ),(4,ak),(5,.s (.ptr 0 0)),(6,.s (.ptr 1 0)),(10,.s (.ptr 2 0)),(11,.s (.pre 3 1)),(13,ak)]
abbrev QR:List (Nat × Sh):=[(2,ak),(3,.s (.ptr 0 0)),(4,.s (.ptr 1 0)),(7,.s (.map 2)),(20,.s (.list [.str,.list au])),(21,ak),(22,ak)]
abbrev QS:List (Nat × Sh):=[(2,ak),(3,.s (.ptr 0 0)),(4,.s (.ptr 1 0)),(14,.s (.vQ 2 2)),(70,PF)]
abbrev QT:List (Nat × Sh):=[(2,ak),(3,ak),(5,.s (.ptr 0 0)),(9,.s (.ptr 1 0)),(10,.s (.vQ 2 4)),(22,.s (.list [.str,.list au])),(23,ak),(24,ak)]
abbrev QU:List (Nat × Sh):=[(0,.s (.list [.str,.list au])),(1,bR),(7,.s (.vQ 0 8)),(10,.s (.ptr 1 0)),(15,.s (.list dz)),(16,ak),(17,ak)]
def acJ:br:=⟨4,[],⟨53,[(0,.s (.vQ 0 8)),(1,ak),(2,ak),(3,.s (.fn 38)),(8,ak),(9,ak)],dn⟩,[.fix 0],[⟨.exit 2,⟨53,QG,dn⟩,[.fix 0]⟩],Qz⟩
def QV:LT:=bH.add 1 acJ
def acK:aT P 1 QV (be f80):=lA I7 (bI _ _ _)
def QW(d:LG):Option (Option Nat × LG) :=
 (bif (aO (gi d 3).iV (gi d 2).iV) then (ba (bE (gi d 0).rZ) (bN Qz (kp d 0 [.l,.i,.i,.i] [.i (gi d 3).iV])) fun h g=>(gd (ay ((gi g 3).iV+1)) (gd (bE (gi g 0).rZ) (some (none,kp g 0 [.l,.i,.i] [.i ((gi g 3).iV+1)]))))) else eQ [.l (gi d 0).rZ])
def acL:br:=⟨1,[],⟨53,QG,dn⟩,[.fix 0],[⟨.exit 0,⟨53,[],dn⟩,[.fix 0]⟩],QW⟩
def acM:LT:=QV.add 1 acL
def acN:aT P 1 acM (be f80):=lA I7 acK
def Jc(d:LG):Option LG :=
 (gd (ay ((gi d 1).iV+1)) (ba (bE (gi d 0).rZ) (bN QW (kp d 0 [.l,.i,.i] [.i ((gi d 1).iV+1)])) fun h g=>some [.l (gi g 0).rZ]))
def acO:aL:=⟨80,[.s (.vQ 0 8),ak,ak,.s (.fn 38)],[.vQ au 0],[.aq 0],[],[.vQ au 0],[.fix 0],[],Jc⟩
def t16:aD:=t15.dm acO
def D2:aI P t16:=tW I7 func80 acN

def QX(d:LG):Option (Option Nat × LG) :=
 let g:=Jc [.l (gi d 0).rZ,.i (gi d 3).iV,.i (gi d 4).iV]; let h:=bE (gi d 0).rZ; let k:=(gi d 4).iV+(gi d 2).iV; (bif (bp (gi d 4).iV (gi d 1).iV) then (jf (h&&g.isSome) g fun q=>(gd (ay k) (gd ((aG (gi d 0).rZ.length (gi q 0).rZ.length)&&true) (nQ [.l (gi q 0).rZ,.i (gi d 1).iV,.i (gi d 2).iV,.i (gi d 4).iV,.i k])))) else (gd h (some (some 0,kp d 0 [.l,.i,.i,.i] []))))
def acP:br:=⟨2,[],⟨63,QH,dn⟩,[.fix 0],[⟨.exit 0,⟨63,QI,dn⟩,[.fix 0]⟩],QX⟩
def QY:LT:=bH.add 1 acP
def acQ:aT P 1 QY (be f57):=lA D2 (bI _ _ _)
def QZ(d:LG):Option (Option Nat × LG) :=
 (bif (bp (gi d 4).iV (gi d 1).iV) then (gd (ay ((gi d 3).iV+(gi d 2).iV)) none) else (gd (bE (gi d 0).rZ) (some (some 0,kp d 0 [.l,.i,.i,.i] []))))
def acR:br:=⟨9,[],⟨63,QH,dn⟩,[.fix 0],[⟨.exit 4,⟨63,QI,dn⟩,[.fix 0]⟩],QZ⟩
def Q0:LT:=QY.add 1 acR
def acS:aT P 1 Q0 (be f57):=lA D2 acQ
def Q1(d:LG):Option (Option Nat × LG) :=
 (bif (aO (gi d 2).iV (gi d 1).iV) then (gd (ay (2*(gi d 2).iV)) (ba (bE (gi d 0).rZ) (bN QZ (kp d 0 [.l,.i,.i] [.i 0,.i (2*(gi d 2).iV)])) fun k g=>let h:=(gi g 3).iV+(gi g 2).iV; (gd (ay h) (bif (aO h (gi g 1).iV) then none else (gd (ay ((gi g 2).iV*2)) (gd (bE (gi g 0).rZ) (nQ [.l (gi g 0).rZ,.i (gi g 1).iV,.i ((gi g 2).iV*2)]))))))) else eQ [.l (gi d 0).rZ])
def acT:br:=⟨7,[],⟨63,[(0,.s (.vQ 0 8)),(1,ak),(2,.s (.fn 38)),(6,ak)],dn⟩,[.fix 0],[⟨.exit 2,⟨63,[],dn⟩,[.fix 0]⟩],Q1⟩
def acU:LT:=Q0.add 1 acT
def acV:aT P 1 acU (be f57):=lA D2 acS
def Q2(d:LG):Option LG :=
 (ba (bE (gi d 0).rZ) (bN QX [.l (gi d 0).rZ,.i (gi d 1).iV,.i 20,.i 0,.i 20]) fun v g=>let h:=Jc [.l (gi g 0).rZ,.i (gi g 3).iV,.i (gi g 1).iV]; (jf ((bE (gi g 0).rZ)&&h.isSome) h fun k=>(ba ((aG (gi g 0).rZ.length (gi k 0).rZ.length)&&true) (bN Q1 [.l (gi k 0).rZ,.i (gi g 1).iV,.i (gi g 2).iV]) fun y q=>some [.l (gi q 0).rZ])))
def acW:aL:=⟨57,[.s (.vQ 0 8),ak,.s (.fn 38)],[.vQ au 0],[.aq 0],[],[.vQ au 0],[.fix 0],[],Q2⟩
def t17:aD:=t16.dm acW
def acX:aI P t17:=tW D2 func57 acV

def D3(d:LG):Option LG :=
 let g:=(Q2 [.l (gi d 0).rZ,.i (lI (gi d 0).rZ)]); (jf ((bE (gi d 0).rZ)&&g.isSome) g fun h=>some [.l (gi h 0).rZ])
def acY:aL:=⟨25,[.s (.vQ 0 8),.s (.fn 38)],[.vQ au 0],[.aq 0],[],[.vQ au 0],[.fix 0],[],D3⟩
def t18:aD:=t17.dm acY
def acZ:aI P t18:=mL acX func25

def Az(d:LG):Option LG :=
 (aB (r8 [.l [(aQ au (gi d 0).rV)],.l [(aQ au (gi d 1).rV)]]) fun g=>some [.t ((gi g 0).iV==0)])
def ac0:aL:=⟨46,[.s (.row au),.s (.row au)],[],[],[cN],[],[],[],Az⟩
def t19:aD:=t18.bk ac0
def Jd:aI P t19:=cU acZ func46

def Q3(d:LG):Option (Option Nat × LG) :=
 let g:=(((gi d 3).iV.toNat:Nat):Int); let k:=(gi d 2).iV.toNat+((gi d 4).iV).toNat; let y:=(gi d 0).rZ.set (0+((gi d 1).iV).toNat) (dV au ((gi d 0).rZ.getD (0+((gi d 1).iV).toNat) []) 0 (aQ au ((gi d 0).rZ.getD k []))); let q:=(gi d 4).iV-1; let I:=bE (gi d 0).rZ; let h:=(gi d 4).iV+1; let M:=nL (gi d 4).iV g; let N:=decide (k<(gi d 0).rZ.length); let O:=(((gi d 2).iV.toNat:Nat):Int); let v:=(gi d 2).iV.toNat+q.toNat; (bif (aO (gi d 4).iV g) then (gd M (gd N (gd (ay q) (gd (nL q g) (gd (decide (v<(gi d 0).rZ.length)) (aB (Az [.l [(aQ au ((gi d 0).rZ.getD k []))],.l [(aQ au ((gi d 0).rZ.getD v []))]]) fun U=>(bif (!(gi U 0).bV) then (gd M (gd N (gd (nL (gi d 1).iV (lI (gi d 0).rZ)) (gd (decide ((0+((gi d 1).iV).toNat)<(gi d 0).rZ.length)) (gd (ay ((gi d 1).iV+1)) (gd (ay h) (gd ((aG (gi d 0).rZ.length y.length)&&true) (nQ [.l y,.i ((gi d 1).iV+1),.i O,.i g,.i h])))))))) else (gd (ay h) (gd I (nQ [.l (gi d 0).rZ,.i (gi d 1).iV,.i O,.i g,.i h])))))))))) else (gd I (eQ [.l (gi d 0).rZ,.i (gi d 1).iV])))
def ac1:br:=⟨9,[],⟨66,[(0,.s (.vQ 0 8)),(1,.s (.fn 46)),(5,ak),(6,.s (.sub 0 8)),(7,ak)],dn⟩,[.fix 0],[⟨.exit 2,⟨66,I9,dn⟩,[.fix 0]⟩],Q3⟩
def Q4:LT:=bH.add 1 ac1
def ac2:aT P 1 Q4 (be f27):=lA Jd (bI _ _ _)
def Q5(d:LG):Option (Option Nat × LG) :=
 let v:=bE (gi d 0).rZ; let h:=(lI (gi d 0).rZ); let k:=(gi d 1).iV-1; let q:=(⟨#[]⟩:BY); let y:=0+((gi d 1).iV).toNat; (bif (aO (gi d 1).iV h) then (gd (nL (gi d 1).iV h) (gd (decide (y<(gi d 0).rZ.length)) (gd (ay k) (gd (nL k h) (gd (decide ((0+k.toNat)<(gi d 0).rZ.length)) (aB (Az [.l [(aQ au ((gi d 0).rZ.getD y []))],.l [(aQ au ((gi d 0).rZ.getD (0+k.toNat) []))]]) fun O=>(bif (gi O 0).bV then (gd ((cJ (gi d 1).iV)&&(bp (gi d 1).iV h)) (ba v (bN Q3 [.l (gi d 0).rZ,.i (gi d 1).iV,.i ((y:Nat):Int),.i ((((gi d 0).rZ.length-((gi d 1).iV).toNat):Nat):Int),.i 1]) fun U g=>let I:=(gi g 0).rZ.length-((gi g 1).iV).toNat; let N:=((cJ (gi g 1).iV)&&(bp (gi g 1).iV (lI (gi g 0).rZ))); let M:=0+((gi g 1).iV).toNat; (gd N (gd (Nat.ble (M+I) (gi g 0).rZ.length) (gd N (eQ [.l ((gi g 0).rZ.take M++List.replicate I [.i 0,.i 0,.s q,.s q,.i 0,.i 0,.s q,.s q]++(gi g 0).rZ.drop (M+I)),.i (((((gi g 1).iV).toNat-0):Nat):Int)])))))) else (gd (ay ((gi d 1).iV+1)) (gd v (nQ [.l (gi d 0).rZ,.i ((gi d 1).iV+1)])))))))))) else (gd v (eR [.l (gi d 0).rZ])))
def ac3:br:=⟨4,[],⟨66,[(0,.s (.vQ 0 8)),(1,.s (.fn 46)),(5,ak)],dn⟩,[.fix 0],[⟨.ret,⟨66,[(4,.s (.pre 0 8))],dn⟩,[.fix 0]⟩,⟨.exit 0,⟨66,[(0,.s (.vQ 0 8))],dn⟩,[.fix 0]⟩],Q5⟩
def ac4:LT:=Q4.add 1 ac3
def ac5:aT P 1 ac4 (be f27):=lA Jd ac2
def Q6(d:LG):Option LG :=
 let h:=(lI (gi d 0).rZ); (bif (aO h 2) then some [.l (gi d 0).rZ,.i h] else (ba (bE (gi d 0).rZ) (bN Q5 [.l (gi d 0).rZ,.i 1]) fun k g=>(bif aG k 0 then some [.l (gi g 0).rZ,.i (((gi g 1).iV.toNat:Nat):Int)] else some [.l (gi g 0).rZ,.i (lI (gi g 0).rZ)])))
def ac6:aL:=⟨27,[.s (.vQ 0 8),.s (.fn 46)],[.vQ au 0],[.aq 0],[.s (.pre 0 8)],[.vQ au 0],[.fix 0],[],Q6⟩
def t20:aD:=t19.dm ac6
def sd:aI P t20:=tW Jd func27 ac5

def l6(d:LG):Option (Option Nat × LG) :=
 (gd (ay ((gi d 9).iV+1)) (some (some 0,kp d 0 [.l,.i,.l] (.i (((gi d 3).iV.toNat:Nat):Int)::.l (gi d 4).rZ::.i (((gi d 5).iV.toNat:Nat):Int)::kp d 6 [.l,.i,.i] [.i ((gi d 9).iV+1)]))))
def ac7:br:=⟨30,[],⟨161,w6,r9⟩,[.fix 0,.aq 4,.aq 6],[⟨.normal,⟨161,w6,r9⟩,[.fix 0,.aq 4,.aq 6]⟩],l6⟩
def Q7:LT:=(bH.rU [(3,[.a7 4 1]),(14,[.hole au]),(38,[.IC 16,.freeze 16])]).fl 1 ac7
def ac8:aT P 1 Q7 (be f17):=aT.fl hm (sd.jz [1500083]) (by kernel_rfl) (pt _) (fun d=>by kernel_rfl)
def w8(d:LG):Option (Option Nat × LG) :=
 let g:=fj [.str] (gi d 2).rZ [.s (gi d 8).sV]; let h:=(g++([(aQ au (gi d 9).rV)]:LL)); let k:=gp [.str] (gi d 2).rZ [.s (gi d 8).sV]; let q:=(((gi d 5).iV.toNat:Nat):Int); (bif (gi d 12).bV then (gd (eY [.str] (gi d 2).rZ [.s (gi d 8).sV]) (gd ((aG g.length g.length)&&(decide ((g.length+1)<=1048576))) (gd (aG h.length h.length) (eQ [.l (gi d 0).rZ,.i (gi d 1).iV,.l (oH [.str] k [.s (gi d 8).sV] h (gi d 3).iV.toNat),.i (((dL [.str] k [.s (gi d 8).sV] (gi d 3).iV.toNat):Nat):Int),.l (gi d 4).rZ,.i q,.l (gi d 6).rZ,.i (gi d 7).iV,.i (gi d 10).iV,.i (gi d 11).iV])))) else some (some 0,kp d 0 [.l,.i,.l] [.i (((gi d 3).iV.toNat:Nat):Int),.l (gi d 4).rZ,.i q,.l (gi d 6).rZ,.i (gi d 7).iV,.i (gi d 10).iV,.i (gi d 11).iV]))
def ac9:br:=⟨29,[],⟨161,[(0,.s (.ptr 0 0)),(3,.s (.list [.str])),(4,.s (.map 1)),(5,ak),(6,.s (.map 2)),(8,bR),(12,.s (.cptr au)),(24,ak),(25,ak),(130,cN)],r9⟩,[.fix 0,.aq 4,.aq 6],[⟨.normal,⟨161,w6,r9⟩,[.fix 0,.aq 4,.aq 6]⟩],w8⟩
def Q8:LT:=Q7.fl 1 ac9
def ac_:aT P 1 Q8 (be f17):=aT.fl hm (sd.jz [1500083]) (by kernel_rfl) ac8 (fun d=>by kernel_rfl)
def w9(d:LG):Option (Option Nat × LG) :=
 let q:=(((gi d 3).iV.toNat:Nat):Int); let v:=(((gi d 5).iV.toNat:Nat):Int); let y:=aQ au (gi d 9).rV; (bif (!((gi (gi d 9).rV 3).sV.toList==(gi d 8).sV.toList)) then (aB (rY [.l (gi d 0).rZ,.i (gi d 1).iV,.i 8]) fun k=>(ba true (cW (w8 (.l (gi k 0).rZ::.i (gi k 1).iV::.l (gi d 2).rZ::.i q::.l (gi d 4).rZ::.i v::kp d 6 [.l,.i,.s] [.l [y],.i (gi d 10).iV,.i (gi d 11).iV,.t (!(gi k 2).bV)]))) fun I g=>some (some 0,kp g 0 [.l,.i,.l] (.i (((gi g 3).iV.toNat:Nat):Int)::.l (gi g 4).rZ::.i (((gi g 5).iV.toNat:Nat):Int)::kp g 6 [.l,.i,.i,.i] [])))) else (ba true (cW (w8 (kp d 0 [.l,.i,.l] (.i q::.l (gi d 4).rZ::.i v::kp d 6 [.l,.i,.s] [.l [y],.i (gi d 10).iV,.i (gi d 11).iV,.t false])))) fun M h=>some (some 0,kp h 0 [.l,.i,.l] (.i (((gi h 3).iV.toNat:Nat):Int)::.l (gi h 4).rZ::.i (((gi h 5).iV.toNat:Nat):Int)::kp h 6 [.l,.i,.i,.i] []))))
def ac':br:=⟨28,[],⟨161,[(0,.s (.ptr 0 0)),(3,.s (.list [.str])),(4,.s (.map 1)),(5,ak),(6,.s (.map 2)),(8,bR),(12,.s (.cptr au)),(24,ak),(25,ak)],r9⟩,[.fix 0,.aq 4,.aq 6],[⟨.normal,⟨161,w6,r9⟩,[.fix 0,.aq 4,.aq 6]⟩],w9⟩
def Q9:LT:=Q8.fl 1 ac'
def ada:aT P 1 Q9 (be f17):=aT.fl hm (sd.jz [1500083]) (by kernel_rfl) ac_ (fun d=>by kernel_rfl)
def pF(d:LG):Option (Option Nat × LG) :=
 let k:=fj [.str] (gi d 2).rZ [.s (gi d 16).sV]; let q:=(k++([(kp d 6 [.i,.i,.s,.s,.i,.i,.s,.s] [])]:LL)); let v:=gp [.str] (gi d 2).rZ [.s (gi d 16).sV]; let y:=(((gi d 5).iV.toNat:Nat):Int); let I:=aQ au (gi d 18).rV; (bif (!((gi d 9).sV.toList==(gi d 16).sV.toList)) then (gd (eY [.str] (gi d 2).rZ [.s (gi d 16).sV]) (gd ((aG k.length k.length)&&(decide ((k.length+1)<=1048576))) (gd (aG q.length q.length) (ba true (cW (w9 [.l (gi d 0).rZ,.i (gi d 1).iV,.l (oH [.str] v [.s (gi d 16).sV] q (gi d 3).iV.toNat),.i (((dL [.str] v [.s (gi d 16).sV] (gi d 3).iV.toNat):Nat):Int),.l (gi d 4).rZ,.i y,.l (gi d 14).rZ,.i (gi d 15).iV,.s (gi d 17).sV,.l [I],.i (gi d 19).iV,.i (gi d 20).iV])) fun M g=>some (some 0,kp g 0 [.l,.i,.l] (.i (((gi g 3).iV.toNat:Nat):Int)::.l (gi g 4).rZ::.i (((gi g 5).iV.toNat:Nat):Int)::kp g 6 [.l,.i,.i,.i] [])))))) else (ba true (cW (w9 (kp d 0 [.l,.i,.l] [.i (((gi d 3).iV.toNat:Nat):Int),.l (gi d 4).rZ,.i y,.l (gi d 14).rZ,.i (gi d 15).iV,.s (gi d 17).sV,.l [I],.i (gi d 19).iV,.i (gi d 20).iV]))) fun N h=>some (some 0,kp h 0 [.l,.i,.l] (.i (((gi h 3).iV.toNat:Nat):Int)::.l (gi h 4).rZ::.i (((gi h 5).iV.toNat:Nat):Int)::kp h 6 [.l,.i,.i,.i] []))))
def adb:br:=⟨26,[],⟨161,[(0,.s (.ptr 0 0)),(3,.s (.list [.str])),(4,.s (.map 1)),(5,ak),(6,.s (.map 2)),(7,bR),(8,bR),(11,.s (.ptr 3 0)),(12,.s (.cptr au)),(24,ak),(25,ak)],[.box [.list [.I],.I],.a7 1 (.one (.str)) au,.map (.one (.str)) (.one .I),.box [.I,.I,.str,.str,.I,.I,.str,.str]]⟩,[.fix 0,.aq 4,.aq 6,.aq 11],[⟨.normal,⟨161,w6,r9⟩,[.fix 0,.aq 4,.aq 6]⟩],pF⟩
def Q_:LT:=Q9.fl 1 adb
def ade:aT P 1 Q_ (be f17):=aT.fl hm (sd.jz [1500083]) (by kernel_rfl) ada (fun d=>by kernel_rfl)
def w_(d:LG):Option (Option Nat × LG) :=
 let V:=(((gi d 3).iV.toNat:Nat):Int); let I:=(⟨#[]⟩:BY); let O:=(⟨#[120]⟩:BY); let z4:=(⟨#[111,104,50,97,98,100]⟩:BY); let z5:=(⟨#[98,50,48]⟩:BY); let z6:=(⟨#[111,104,50,97,98,99]⟩:BY); let z7:=(⟨#[119,49,97,120]⟩:BY); let z8:=(⟨#[107,49,97,97]⟩:BY); let z9:=(⟨#[98,52,48]⟩:BY); (bif (aO (gi d 9).iV (gi d 8).iV) then (aB (mO [.l (gi d 0).rZ,.i (gi d 1).iV,.l [[.i 0],[.i 20],[.i 100],[.i 1000]]]) fun g3=>let q:=(gi d 7).iV+(gi g3 2).iV; (gd (ay q) (aB (jg [.l (gi g3 0).rZ,.i (gi g3 1).iV,.l (gi d 6).rZ]) fun h=>let z11:=eG [.str] (gi d 4).rZ [.s (gi h 2).sV] [.i ((gi (dv [.str] (gi d 4).rZ [.s (gi h 2).sV] [.i 0]) 0).iV+1)] (gi d 5).iV.toNat; let z12:=dL [.str] (gi d 4).rZ [.s (gi h 2).sV] (gi d 5).iV.toNat; (aB (jg [.l (gi h 0).rZ,.i (gi h 1).iV,.l [[.s (⟨#[107,49,97,98]⟩:BY)],[.s z6],[.s z4],[.s (⟨#[119,49,97,119]⟩:BY)],[.s (⟨#[110,49,109,109]⟩:BY)]]]) fun g=>let U:=eG [.str] z11 [.s (gi g 2).sV] [.i ((gi (dv [.str] z11 [.s (gi g 2).sV] [.i 0]) 0).iV+1)] z12; let y:=gi (dv [.str] U [.s (gi g 2).sV] [.i 0]) 0; let N:=gi (dv [.str] U [.s (gi h 2).sV] [.i 0]) 0; let z16:=(((dL [.str] z11 [.s (gi g 2).sV] z12):Nat):Int); (bif ((gi h 2).sV.toList==(gi g 2).sV.toList) then (ba true (cW (l6 [.l (gi g 0).rZ,.i (gi g 1).iV,.l (gi d 2).rZ,.i V,.l (gi d 4).rZ,.i (((gi d 5).iV.toNat:Nat):Int),.l (gi d 6).rZ,.i q,.i (gi d 8).iV,.i (gi d 9).iV])) fun cg6 g6=>some (none,kp g6 0 [.l,.i,.l] (.i (((gi g6 3).iV.toNat:Nat):Int)::.l (gi g6 4).rZ::.i (((gi g6 5).iV.toNat:Nat):Int)::kp g6 6 [.l,.i,.i,.i] []))) else (gd (ay ((gi (dv [.str] (gi d 4).rZ [.s (gi h 2).sV] [.i 0]) 0).iV+1)) (gd (ay ((gi (dv [.str] z11 [.s (gi g 2).sV] [.i 0]) 0).iV+1)) (aB (jg [.l (gi g 0).rZ,.i (gi g 1).iV,.l [[.s z5],[.s z5],[.s z9]]]) fun M=>(aB (mO [.l (gi M 0).rZ,.i (gi M 1).iV,.l [[.i 1],[.i 1],[.i 2]]]) fun v=>(aB (mO [.l (gi v 0).rZ,.i (gi v 1).iV,.l [[.i 0],[.i 10],[.i 30],[.i 60],[.i 200]]]) fun g9=>let W:=q+(gi g9 2).iV; (gd (ay W) (aB (pE [.l (gi g9 0).rZ,.i (gi g9 1).iV,.i 8]) fun k=>(bif ((gi k 2).iV==0) then (aB (jg [.l (gi k 0).rZ,.i (gi k 1).iV,.l [[.s z4],[.s z6],[.s z8],[.s z7]]]) fun g11=>(ba true (cW (pF [.l (gi g11 0).rZ,.i (gi g11 1).iV,.l (gi d 2).rZ,.i V,.l U,.i z16,.i q,.i (gi v 2).iV,.s (gi M 2).sV,.s (gi g11 2).sV,.i N.iV,.i y.iV,.s I,.s O,.l (gi d 6).rZ,.i q,.s (gi h 2).sV,.s (gi g 2).sV,.l [[.i W,.i (gi v 2).iV,.s (gi M 2).sV,.s (gi h 2).sV,.i y.iV,.i N.iV,.s O,.s I]],.i (gi d 8).iV,.i (gi d 9).iV])) fun cg17 g17=>(ba true (cW (l6 (kp g17 0 [.l,.i,.l] (.i (((gi g17 3).iV.toNat:Nat):Int)::.l (gi g17 4).rZ::.i (((gi g17 5).iV.toNat:Nat):Int)::kp g17 6 [.l,.i,.i,.i] [])))) fun cg18 g18=>some (none,kp g18 0 [.l,.i,.l] (.i (((gi g18 3).iV.toNat:Nat):Int)::.l (gi g18 4).rZ::.i (((gi g18 5).iV.toNat:Nat):Int)::kp g18 6 [.l,.i,.i,.i] []))))) else (bif ((gi k 2).iV==1) then (aB (jg [.l (gi k 0).rZ,.i (gi k 1).iV,.l [[.s z8],[.s z4],[.s z7]]]) fun g19=>(ba true (cW (pF [.l (gi g19 0).rZ,.i (gi g19 1).iV,.l (gi d 2).rZ,.i V,.l U,.i z16,.i q,.i (gi v 2).iV,.s (gi M 2).sV,.s (gi g 2).sV,.i N.iV,.i y.iV,.s I,.s O,.l (gi d 6).rZ,.i q,.s (gi h 2).sV,.s (gi g 2).sV,.l [[.i W,.i (gi v 2).iV,.s (gi M 2).sV,.s (gi g19 2).sV,.i y.iV,.i N.iV,.s O,.s I]],.i (gi d 8).iV,.i (gi d 9).iV])) fun cg20 g20=>(ba true (cW (l6 (kp g20 0 [.l,.i,.l] (.i (((gi g20 3).iV.toNat:Nat):Int)::.l (gi g20 4).rZ::.i (((gi g20 5).iV.toNat:Nat):Int)::kp g20 6 [.l,.i,.i,.i] [])))) fun cg21 g21=>some (none,kp g21 0 [.l,.i,.l] (.i (((gi g21 3).iV.toNat:Nat):Int)::.l (gi g21 4).rZ::.i (((gi g21 5).iV.toNat:Nat):Int)::kp g21 6 [.l,.i,.i,.i] []))))) else (bif ((gi k 2).iV==2) then (gd (ay (y.iV+1)) (ba true (cW (pF [.l (gi k 0).rZ,.i (gi k 1).iV,.l (gi d 2).rZ,.i V,.l U,.i z16,.i q,.i (gi v 2).iV,.s (gi M 2).sV,.s (gi g 2).sV,.i N.iV,.i (y.iV+1),.s I,.s O,.l (gi d 6).rZ,.i q,.s (gi h 2).sV,.s (gi g 2).sV,.l [[.i W,.i (gi v 2).iV,.s (gi M 2).sV,.s (gi h 2).sV,.i y.iV,.i N.iV,.s O,.s I]],.i (gi d 8).iV,.i (gi d 9).iV])) fun cg22 g22=>(ba true (cW (l6 (kp g22 0 [.l,.i,.l] (.i (((gi g22 3).iV.toNat:Nat):Int)::.l (gi g22 4).rZ::.i (((gi g22 5).iV.toNat:Nat):Int)::kp g22 6 [.l,.i,.i,.i] [])))) fun cg23 g23=>some (none,kp g23 0 [.l,.i,.l] (.i (((gi g23 3).iV.toNat:Nat):Int)::.l (gi g23 4).rZ::.i (((gi g23 5).iV.toNat:Nat):Int)::kp g23 6 [.l,.i,.i,.i] []))))) else (bif ((gi k 2).iV==3) then (ba true (cW (pF [.l (gi k 0).rZ,.i (gi k 1).iV,.l (gi d 2).rZ,.i V,.l U,.i z16,.i q,.i (gi v 2).iV,.s (gi M 2).sV,.s (gi g 2).sV,.i N.iV,.i y.iV,.s I,.s I,.l (gi d 6).rZ,.i q,.s (gi h 2).sV,.s (gi g 2).sV,.l [[.i W,.i (gi v 2).iV,.s (gi M 2).sV,.s (gi h 2).sV,.i y.iV,.i N.iV,.s O,.s I]],.i (gi d 8).iV,.i (gi d 9).iV])) fun cg24 g24=>(ba true (cW (l6 (kp g24 0 [.l,.i,.l] (.i (((gi g24 3).iV.toNat:Nat):Int)::.l (gi g24 4).rZ::.i (((gi g24 5).iV.toNat:Nat):Int)::kp g24 6 [.l,.i,.i,.i] [])))) fun cg25 g25=>some (none,kp g25 0 [.l,.i,.l] (.i (((gi g25 3).iV.toNat:Nat):Int)::.l (gi g25 4).rZ::.i (((gi g25 5).iV.toNat:Nat):Int)::kp g25 6 [.l,.i,.i,.i] [])))) else (bif ((gi k 2).iV==4) then (aB (jg [.l (gi k 0).rZ,.i (gi k 1).iV,.l [[.s z9],[.s z5]]]) fun g26=>(ba true (cW (pF [.l (gi g26 0).rZ,.i (gi g26 1).iV,.l (gi d 2).rZ,.i V,.l U,.i z16,.i q,.i (gi v 2).iV,.s (gi M 2).sV,.s (gi g 2).sV,.i N.iV,.i y.iV,.s I,.s O,.l (gi d 6).rZ,.i q,.s (gi h 2).sV,.s (gi g 2).sV,.l [[.i W,.i (gi v 2).iV,.s (gi g26 2).sV,.s (gi h 2).sV,.i y.iV,.i N.iV,.s O,.s I]],.i (gi d 8).iV,.i (gi d 9).iV])) fun cg27 g27=>(ba true (cW (l6 (kp g27 0 [.l,.i,.l] (.i (((gi g27 3).iV.toNat:Nat):Int)::.l (gi g27 4).rZ::.i (((gi g27 5).iV.toNat:Nat):Int)::kp g27 6 [.l,.i,.i,.i] [])))) fun cg28 g28=>some (none,kp g28 0 [.l,.i,.l] (.i (((gi g28 3).iV.toNat:Nat):Int)::.l (gi g28 4).rZ::.i (((gi g28 5).iV.toNat:Nat):Int)::kp g28 6 [.l,.i,.i,.i] []))))) else (ba true (cW (pF [.l (gi k 0).rZ,.i (gi k 1).iV,.l (gi d 2).rZ,.i V,.l U,.i z16,.i q,.i (gi v 2).iV,.s (gi M 2).sV,.s (gi g 2).sV,.i N.iV,.i y.iV,.s I,.s O,.l (gi d 6).rZ,.i q,.s (gi h 2).sV,.s (gi g 2).sV,.l [[.i W,.i (gi v 2).iV,.s (gi M 2).sV,.s (gi h 2).sV,.i y.iV,.i N.iV,.s O,.s I]],.i (gi d 8).iV,.i (gi d 9).iV])) fun cg29 g29=>(ba true (cW (l6 (kp g29 0 [.l,.i,.l] (.i (((gi g29 3).iV.toNat:Nat):Int)::.l (gi g29 4).rZ::.i (((gi g29 5).iV.toNat:Nat):Int)::kp g29 6 [.l,.i,.i,.i] [])))) fun cg30 g30=>some (none,kp g30 0 [.l,.i,.l] (.i (((gi g30 3).iV.toNat:Nat):Int)::.l (gi g30 4).rZ::.i (((gi g30 5).iV.toNat:Nat):Int)::kp g30 6 [.l,.i,.i,.i] []))))))))))))))))))))) else some (some 0,kp d 0 [.l,.i,.l] [.i V,.l (gi d 6).rZ]))
def adf:br:=⟨6,[],⟨161,w6,r9⟩,[.fix 0,.aq 4,.aq 6],[⟨.exit 0,⟨161,[(3,.s (.list [.str])),(4,.s (.map 1))],[.box [.list [.I],.I],.a7 1 (.one (.str)) au]⟩,[.fix 0,.aq 4]⟩],w_⟩
def Ra:LT:=Q_.add 1 adf
def adg:aT P 1 Ra (be f17):=aT.add hm (sd.jz [1500083]) (by kernel_rfl) ade (fun d=>by kernel_rfl)
def xa(d:LG):Option (Option Nat × LG) :=
 let h:=gi ((gi d 5).rZ.getD (((gi d 7).iV).toNat) []) 0; let k:=fj [.str] (gi d 2).rZ [.s h.sV]; let v:=aG (gi d 4).rZ.length (gi d 4).rZ.length; let y:=D3 [.l k]; (bif (aO (gi d 7).iV (gi d 6).iV) then (gd (nL (gi d 7).iV (lI (gi d 5).rZ)) (gd (eY [.str] (gi d 2).rZ [.s h.sV]) (jf ((bE k)&&y.isSome) y fun q=>let I:=Q6 [.l (gi q 0).rZ]; (jf (((aG k.length (gi q 0).rZ.length)&&true)&&I.isSome) I fun g=>let M:=((gi d 4).rZ++([[.s h.sV,.l ((gi g 0).rZ.take ((gi g 1).iV.toNat))]]:LL)); (gd ((Nat.ble (gi g 1).iV.toNat (gi g 0).rZ.length)&&((aG (gi g 1).iV.toNat ((gi g 0).rZ.take ((gi g 1).iV.toNat)).length)&&true)) (gd (v&&(decide (((gi d 4).rZ.length+1)<=1048576))) (gd (ay ((gi d 7).iV+1)) (gd (bE M) (nQ [.l (gi d 0).rZ,.i (gi d 1).iV,.l (gp [.str] (gi d 2).rZ [.s h.sV]),.i (((gi d 3).iV.toNat:Nat):Int),.l M,.l (gi d 5).rZ,.i (gi d 6).iV,.i ((gi d 7).iV+1)]))))))))) else (gd (v&&true) (eQ [.l (gi d 0).rZ,.i (gi d 1).iV,.l (gi d 4).rZ])))
def adh:br:=⟨33,[(13,[.str,.list au])],⟨161,[(4,.s (.map 1)),(13,.s (.vQ 2 2)),(140,.s (.list [.str])),(141,ak),(142,ak)],[.box [.list [.I],.I],.a7 1 (.one (.str)) au,.vQ [.str,.list au] 0]⟩,[.fix 0,.aq 4,.aq 13],[⟨.exit 3,⟨161,[(13,.s (.vQ 1 2))],I8⟩,[.fix 0,.aq 13]⟩],xa⟩
def adi:LT:=Ra.add 1 adh
def adj:aT P 1 adi (be f17):=aT.add hm (sd.jz [1500083]) (by kernel_rfl) adg (fun d=>by kernel_rfl)
def D4(d:LG):Option LG :=
 (aB (wZ [.l (gi d 0).rZ,.i (gi d 1).iV,.i 1,.i 4]) fun g=>(gd ((cJ (gi g 2).iV)&&(bp (gi g 2).iV 4)) (aB (wZ [.l (gi g 0).rZ,.i (gi g 1).iV,.i 0,.i 14]) fun k=>(ba true (bN w_ [.l (gi k 0).rZ,.i (gi k 1).iV,.l [],.i 0,.l [],.i 0,.l (([[.s (⟨#[107,49,97,98]⟩:BY)],[.s (⟨#[111,104,50,97,98,99]⟩:BY)],[.s (⟨#[111,104,50,97,98,100]⟩:BY)],[.s (⟨#[119,49,97,119]⟩:BY)]]:LL).take (((gi g 2).iV).toNat)),.i 0,.i (gi k 2).iV,.i 0]) fun v h=>(ba true (bN xa (kp h 0 [.l,.i,.l] [.i (((gi h 3).iV.toNat:Nat):Int),.l [],.l (gi h 4).rZ,.i (lI (gi h 4).rZ),.i 0])) fun y q=>(gd (bE (gi q 2).rZ) (some (kp q 0 [.l,.i,.l] []))))))))
def adk:aL:=⟨17,[.s (.ptr 0 0)],[.box [.list [.I],.I]],[.aq 0],[.s (.vQ 1 2)],[.box [.list [.I],.I],.vQ [.str,.list au] 0],[.fix 0,.aq 0],[],D4⟩
def t21:aD:=t20.dm adk
def adl:aI P t21:=sd.aW (lZ hm (sd.jz [1500083]) func17 (by kernel_rfl) adj (fun d=>by kernel_rfl) (by kernel_rfl))

def D5(d:LG):Option LG :=
 (aB (rY [.l (gi d 0).rZ,.i (gi d 1).iV,.i 60]) fun g=>(bif (gi g 2).bV then (aB (jg [.l (gi g 0).rZ,.i (gi g 1).iV,.l [[.s (⟨#[]⟩:BY)],[.s (⟨#[107,49]⟩:BY)],[.s (⟨#[75,49,65,66]⟩:BY)],[.s (⟨#[107,49,97,98,47]⟩:BY)],[.s (⟨#[49,97]⟩:BY)],[.s (⟨#[107,49,97,98,47,109,109,47,112]⟩:BY)]]]) fun h=>some (kp h 0 [.l,.i,.s] [])) else (aB (jg [.l (gi g 0).rZ,.i (gi g 1).iV,.l [[.s (⟨#[107,49,97,98]⟩:BY)],[.s (⟨#[107,49,97,97]⟩:BY)],[.s (⟨#[107,49,97,98,47,52]⟩:BY)],[.s (⟨#[111,104,50,97,98,99]⟩:BY)],[.s (⟨#[111,104,50,97,98,100]⟩:BY)],[.s (⟨#[119,49,97,119]⟩:BY)],[.s (⟨#[110,49,109,109]⟩:BY)],[.s (⟨#[103,51,120,121,122,47,112]⟩:BY)]]]) fun k=>some (kp k 0 [.l,.i,.s] []))))
def adm:aL:=⟨48,[.s (.ptr 0 0)],[.box [.list [.I],.I]],[.aq 0],[bR],[.box [.list [.I],.I]],[.fix 0],[],D5⟩
def t22:aD:=t21.dm adm
def adn:aI P t22:=mL adl func48

def uv(d:LG):Option LG :=
 (aB (rY [.l (gi d 0).rZ,.i (gi d 1).iV,.i 12]) fun g=>(bif (gi g 2).bV then (gd (ay ((gi d 2).iV-1)) (gd (ay ((gi d 3).iV+1)) (aB (mO [.l (gi g 0).rZ,.i (gi g 1).iV,.l [[.i ((gi d 2).iV-1)],[.i ((gi d 3).iV+1)],[.i (gi d 2).iV],[.i (gi d 3).iV],[.i (-1099511627776)],[.i 1099511627776]]]) fun h=>some (kp h 0 [.l,.i,.i] [])))) else (aB (wZ [.l (gi g 0).rZ,.i (gi g 1).iV,.i (gi d 2).iV,.i (gi d 3).iV]) fun k=>some (kp k 0 [.l,.i,.i] []))))
def ado:aL:=⟨49,[.s (.ptr 0 0),ak,ak],[.box [.list [.I],.I]],[.aq 0],[ak],[.box [.list [.I],.I]],[.fix 0],[],uv⟩
def t23:aD:=t22.dm ado
def adp:aI P t23:=mL adn func49

def D6(d:LG):Option LG :=
 let k:=(⟨#[]⟩:BY); let z2:=(⟨#[98,50,48]⟩:BY); let z3:=(⟨#[117,115,97]⟩:BY); (aB (mO [.l (gi d 0).rZ,.i (gi d 1).iV,.l [[.i 1],[.i 1],[.i 2],[.i 3]]]) fun q=>(aB (jg [.l (gi q 0).rZ,.i (gi q 1).iV,.l [[.s z2],[.s z2],[.s (⟨#[98,52,48]⟩:BY)]]]) fun v=>(aB (D5 [.l (gi v 0).rZ,.i (gi v 1).iV]) fun h=>(aB (mO [.l (gi h 0).rZ,.i (gi h 1).iV,.l [[.i 0],[.i 1],[.i 2],[.i 3],[.i 4],[.i 5],[.i 6],[.i 7]]]) fun y=>(aB (mO [.l (gi y 0).rZ,.i (gi y 1).iV,.l [[.i 0],[.i 1],[.i 2],[.i 9]]]) fun I=>(aB (jg [.l (gi I 0).rZ,.i (gi I 1).iV,.l [[.s k],[.s k],[.s (⟨#[102,105,110]⟩:BY)]]]) fun M=>(aB (jg [.l (gi M 0).rZ,.i (gi M 1).iV,.l [[.s k],[.s k],[.s z3]]]) fun N=>(aB (rY [.l (gi N 0).rZ,.i (gi N 1).iV,.i 100]) fun O=>(bif (gi O 2).bV then (aB (pE [.l (gi O 0).rZ,.i (gi O 1).iV,.i 4]) fun g=>(bif ((gi g 2).iV==0) then (aB (uv [.l (gi g 0).rZ,.i (gi g 1).iV,.i 0,.i 500]) fun U=>(aB (uv [.l (gi U 0).rZ,.i (gi U 1).iV,.i 1,.i 3]) fun V=>some [.l (gi V 0).rZ,.i (gi V 1).iV,.l [[.i (gi U 2).iV,.i (gi V 2).iV,.s (gi v 2).sV,.s (gi h 2).sV,.i (gi y 2).iV,.i (gi I 2).iV,.s (gi M 2).sV,.s (gi N 2).sV]]])) else (bif ((gi g 2).iV==1) then (aB (jg [.l (gi g 0).rZ,.i (gi g 1).iV,.l [[.s k],[.s (⟨#[66]⟩:BY)],[.s z2]]]) fun W=>some [.l (gi W 0).rZ,.i (gi W 1).iV,.l [[.i (gi d 2).iV,.i (gi q 2).iV,.s (gi W 2).sV,.s (gi h 2).sV,.i (gi y 2).iV,.i (gi I 2).iV,.s (gi M 2).sV,.s (gi N 2).sV]]]) else (bif ((gi g 2).iV==2) then (aB (uv [.l (gi g 0).rZ,.i (gi g 1).iV,.i 0,.i 99999]) fun g13=>(aB (uv [.l (gi g13 0).rZ,.i (gi g13 1).iV,.i 0,.i 99999]) fun g14=>some [.l (gi g14 0).rZ,.i (gi g14 1).iV,.l [[.i (gi d 2).iV,.i (gi q 2).iV,.s (gi v 2).sV,.s (gi h 2).sV,.i (gi g13 2).iV,.i (gi g14 2).iV,.s (gi M 2).sV,.s (gi N 2).sV]]])) else (aB (jg [.l (gi g 0).rZ,.i (gi g 1).iV,.l [[.s k],[.s (⟨#[65]⟩:BY)]]]) fun g15=>(aB (jg [.l (gi g15 0).rZ,.i (gi g15 1).iV,.l [[.s (⟨#[49]⟩:BY)],[.s z3]]]) fun g16=>some [.l (gi g16 0).rZ,.i (gi g16 1).iV,.l [[.i (gi d 2).iV,.i (gi q 2).iV,.s (gi v 2).sV,.s (gi h 2).sV,.i (gi y 2).iV,.i (gi I 2).iV,.s (gi g15 2).sV,.s (gi g16 2).sV]]])))))) else some [.l (gi O 0).rZ,.i (gi O 1).iV,.l [[.i (gi d 2).iV,.i (gi q 2).iV,.s (gi v 2).sV,.s (gi h 2).sV,.i (gi y 2).iV,.i (gi I 2).iV,.s (gi M 2).sV,.s (gi N 2).sV]]])))))))))
def adq:aL:=⟨21,[.s (.ptr 0 0),ak],[.box [.list [.I],.I]],[.aq 0],[.s (.row au)],[.box [.list [.I],.I]],[.fix 0],[],D6⟩
def t24:aD:=t23.dm adq
def D7:aI P t24:=mL adp func21

def Je(d:LG):Option LG :=
 (gd (dq 0 (gi d 0).rZ.length) (gd (decide ((gi d 0).rZ.length<=1048576)) (gd (bE (gi d 0).rZ) (some [.l (gi d 0).rZ]))))
def D8:aL:=⟨20,[fK],[],[],[.s (.vQ 0 8)],[.vQ au 0],[.aq 0],[],Je⟩
def ads:iO P D8:=jR hm D7 func20 (bI _ _ _) (fun d=>by kernel_rfl)
def Rb:aL:={ D8 with args:=[.s (.C9 true)],opens:=[(2,au)],F:=fun _=>some [.l []] }
def adt:iO P Rb:=fun d r h=>Di hm D7 (sp:=Rb) func20 (by kernel_rfl) (bI _ _ _) (fun d=>by kernel_rfl) (by kernel_rfl) h
def Rc:aL:={ D8 with args:=[.s (.C9 false)],opens:=[(2,au)],F:=fun _=>some [.l []] }
def adu:iO P Rc:=fun d r h=>Di hm D7 (sp:=Rc) func20 (by kernel_rfl) (bI _ _ _) (fun d=>by kernel_rfl) (by kernel_rfl) h
def xb(d:LG):Option LG:=bif dq 0 (gi d 0).rZ.length then Je d else some [.l []]
def Jf:aL:={ D8 with F:=xb }
def adv:iO P Jf:=fun d r (h:xb d=some r)=>by
 unfold xb at h;cases hb:dq 0 (gi d 0).rZ.length with
 |true=>rw[hb]at h; exact ads d r h
 | false =>
  rw[hb]at h;cases h;have e:(d.headD default).rZ=[]:=by
   have:¬ 0<(gi d 0).rZ.length:=fun g=>by
    have k:dq 0 (gi d 0).rZ.length=true:=by rw[Nat.blt_eq]; exact g
    rw[k]at hb;cases hb
   exact List.eq_nil_of_length_eq_zero (Nat.eq_zero_of_not_pos this)
  have ha:Jf.gE d=[.listF au []]:=by
   rw[<-e];rfl
  rw[ha];exact Z7 (adt d [.l []] rfl) (adu d [.l []] rfl)
def t25:aD:=t24.dm Jf
def Re:aI P t25:=D7.aW adv

def AA(d:LG):Option (Option Nat × LG) :=
 let M:=(lI (gi d 2).rZ); (bif (gi d 3).bV then (aB (pE [.l (gi d 0).rZ,.i (gi d 1).iV,.i M]) fun h=>let g:=0+((gi h 2).iV).toNat; let N:=(gi d 2).rZ.getD g []; let O:=decide (g<(gi d 2).rZ.length); (gd (nL (gi h 2).iV M) (gd O (aB (jg [.l (gi h 0).rZ,.i (gi h 1).iV,.l [[.s (gi N 0).sV],[.s (⟨#[]⟩:BY)],[.s (⟨#[107,49,97,98]⟩:BY)],[.s (⟨#[119,49,97,119]⟩:BY)]]]) fun q=>let v:=(gi d 2).rZ.set g (dV [.str,.list au] N 0 [.s (gi q 2).sV]); let U:=v.getD g []; let V:=decide (g<v.length); (gd O (gd V (aB (xb [.l (gi U 1).rZ]) fun k=>(aB (mO [.l (gi q 0).rZ,.i (gi q 1).iV,.l [[.i 0],[.i 100000]]]) fun g6=>(aB (D6 (kp g6 0 [.l,.i,.i] [])) fun y=>let I:=((gi k 0).rZ++([(aQ au (gi y 2).rV)]:LL)); let W:=v.set g (dV [.str,.list au] U 1 [.l I]); (gd ((aG (gi k 0).rZ.length (gi k 0).rZ.length)&&(decide (((gi k 0).rZ.length+1)<=1048576))) (gd ((aG I.length I.length)&&V) (gd ((aG (gi d 2).rZ.length W.length)&&true) (eQ [.l (gi y 0).rZ,.i (gi y 1).iV,.l W]))))))))))))) else (gd (bE (gi d 2).rZ) (some (some 0,kp d 0 [.l,.i,.l] []))))
def adw:br:=⟨3,[],⟨46,[(0,.s (.ptr 0 0)),(3,.s (.vQ 1 2)),(13,cN)],I8⟩,[.fix 0,.aq 3],[⟨.normal,⟨46,[(3,.s (.vQ 1 2))],I8⟩,[.fix 0,.aq 3]⟩],AA⟩
def adx:LT:=bH.fl 1 adw
def ady:aT P 1 adx (be f4):=lC Re (bI _ _ _)
def D9(d:LG):Option LG :=
 (aB (D4 [.l (gi d 0).rZ,.i (gi d 1).iV]) fun g=>let k:=bE (gi g 2).rZ; (bif (aO 0 (lI (gi g 2).rZ)) then (aB (rY [.l (gi g 0).rZ,.i (gi g 1).iV,.i 12]) fun h=>(ba k (cW (AA [.l (gi h 0).rZ,.i (gi h 1).iV,.l (gi g 2).rZ,.t (gi h 2).bV])) fun y q=>(gd (bE (gi q 2).rZ) (some (kp q 0 [.l,.i,.l] []))))) else (ba k (cW (AA (kp g 0 [.l,.i,.l] [.t false]))) fun I v=>(gd (bE (gi v 2).rZ) (some (kp v 0 [.l,.i,.l] []))))))
def adz:aL:=⟨4,[.s (.ptr 0 0)],[.box [.list [.I],.I]],[.aq 0],[.s (.list [.str,.list au])],[.box [.list [.I],.I]],[.fix 0],[],D9⟩
def t26:aD:=t25.dm adz
def adA:aI P t26:=tW Re func4 ady

def D_(d:LG):Option LG :=
 (aB (mO [.l (gi d 0).rZ,.i (gi d 1).iV,.l [[.i 0],[.i 10],[.i 29],[.i 30],[.i 60],[.i 60],[.i 200],[.i 1000],[.i (-1)],[.i 3600000],[.i 3600001]]]) fun g=>some (kp g 0 [.l,.i,.i] []))
def adB:aL:=⟨5,[.s (.ptr 0 0)],[.box [.list [.I],.I]],[.aq 0],[ak],[.box [.list [.I],.I]],[.fix 0],[],D_⟩
def t27:aD:=t26.dm adB
def adC:aI P t27:=mL adA func5

def AB(d:LG):Option LG :=
 (aB (I5 [.s (gi d 0).sV]) fun g=>some [.t (gi g 1).bV])
def adD:aL:=⟨94,[bR],[],[],[cN],[],[],[],AB⟩
def t28:aD:=t27.bk adD
def adE:aI P t28:=cU adC func94

def Ea(d:LG):Option LG :=
 let g:=(gi (gi d 0).rV 0).iV-1; let h:=gi ((gi (gi d 2).rV 0).rZ.getD (g.toNat) []) 0; (bif (aO 0 (gi (gi d 0).rV 0).iV) then (gd (ay g) (gd (nL g (((gi (gi d 2).rV 0).rZ.length:Nat):Int)) (bif ((Op.bytesLess (gi (gi d 1).rV 0).sV.toList h.sV.toList)||((gi (gi d 1).rV 0).sV.toList==h.sV.toList)) then some [.i 7] else some [.i 0]))) else some [.i 0])
def adF:aL:=⟨75,[.s (.cptr [.I]),.s (.cptr [.str,.list au]),.s (.cptr [.list [.str,.list au]])],[],[],[ak],[],[],[],Ea⟩
def t29:aD:=t28.bk adF
def adG:aI P t29:=cU adE func75

def se(d:LG):Option LG :=
 (bif (aO (gi d 0).iV (gi d 1).iV) then some [.t true] else some [.t (aO (gi d 2).iV (gi d 0).iV)])
def adH:aL:=⟨77,[ak,ak,ak],[],[],[cN],[],[],[],se⟩
def t30:aD:=t29.bk adH
def adI:aI P t30:=cU adG func77

def Jg(d:LG):Option LG :=
 (aB (se [.i (gi d 0).iV,.i 0,.i 345686399999]) fun g=>some [.t (!(gi g 0).bV)])
def adJ:aL:=⟨142,[ak],[],[],[cN],[],[],[],Jg⟩
def t31:aD:=t30.bk adJ
def adK:aI P t31:=cU adI func142

def Jh(d:LG):Option LG :=
 (aB (se [.i (gi d 0).iV,.i 1,.i 3]) fun g=>some [.t (!(gi g 0).bV)])
def adL:aL:=⟨143,[ak],[],[],[cN],[],[],[],Jh⟩
def t32:aD:=t31.bk adL
def adM:aI P t32:=cU adK func143

def Eb(d:LG):Option LG :=
 let g:=(((gi d 0).sV.size:Nat):Int); (bif (!((gi d 0).sV.toList==(⟨#[]⟩:BY).toList)) then (bif (bp g 40) then (gd (aO 0 g) (aB (DW [.s (⟨#[97,98,99,100,101,102,103,104,105,106,107,108,109,110,111,112,113,114,115,116,117,118,119,120,121,122]⟩:BY),.i (((gi d 0).sV.data.toList.getD 0 0).toNat:Int)]) fun h=>(bif (bp 0 (gi h 0).iV) then (aB (DX [.s (gi d 0).sV,.s (⟨#[97,98,99,100,101,102,103,104,105,106,107,108,109,110,111,112,113,114,115,116,117,118,119,120,121,122,48,49,50,51,52,53,54,55,56,57,45,95]⟩:BY)]) fun k=>some [.t ((gi k 0).sV.toList==(⟨#[]⟩:BY).toList)]) else some [.t false]))) else some [.t false]) else some [.t false])
def adN:aL:=⟨144,[bR],[],[],[cN],[],[],[],Eb⟩
def t33:aD:=t32.bk adN
def adO:aI P t33:=cU adM func144

def Ec(d:LG):Option LG :=
 (bif ((gi d 0).sV.toList==(⟨#[]⟩:BY).toList) then some [.t true] else (aB (Eb [.s (gi d 0).sV]) fun g=>some [.t (gi g 0).bV]))
def adP:aL:=⟨145,[bR],[],[],[cN],[],[],[],Ec⟩
def t34:aD:=t33.bk adP
def adQ:aI P t34:=cU adO func145

def Ed(d:LG):Option LG :=
 (aB (Jg [.i (gi (gi d 0).rV 0).iV]) fun g=>(bif (!(gi g 0).bV) then some [.i 1] else (aB (Jh [.i (gi (gi d 0).rV 1).iV]) fun h=>(bif (!(gi h 0).bV) then some [.i 4] else (aB (Eb [.s (gi (gi d 0).rV 2).sV]) fun k=>(bif (!(gi k 0).bV) then some [.i 5] else (aB (AB [.s (gi (gi d 0).rV 3).sV]) fun q=>(bif (!(gi q 0).bV) then some [.i 3] else (aB (se [.i (gi (gi d 0).rV 4).iV,.i 0,.i 99999]) fun v=>(bif (gi v 0).bV then some [.i 1] else (aB (se [.i (gi (gi d 0).rV 5).iV,.i 0,.i 99999]) fun y=>(bif (gi y 0).bV then some [.i 1] else (aB (Ec [.s (gi (gi d 0).rV 6).sV]) fun I=>(bif (!(gi I 0).bV) then some [.i 5] else (aB (Ec [.s (gi (gi d 0).rV 7).sV]) fun M=>(bif (!(gi M 0).bV) then some [.i 5] else some [.i 0]))))))))))))))))
def adR:aL:=⟨118,[.s (.row au)],[],[],[ak],[],[],[],Ed⟩
def t35:aD:=t34.bk adR
def adS:aI P t35:=cU adQ func118

def Ee(d:LG):Option LG :=
 some [.t ((gi d 0).iV != (gi d 0).iV)]
def adT:aL:=⟨82,[ak],[],[],[cN],[],[],[],Ee⟩
def t36:aD:=t35.bk adT
def adU:aI P t36:=cU adS func82

def xc(d:LG):Option LG :=
 (aB (Ee [.i (gi d 0).iV]) fun h=>(aB (Ee [.i (gi d 1).iV]) fun g=>(bif (gi h 0).bV then (bif (gi g 0).bV then some [.i 0] else some [.i (-1)]) else (bif (gi g 0).bV then some [.i 1] else (bif (aO (gi d 0).iV (gi d 1).iV) then some [.i (-1)] else (bif (aO (gi d 1).iV (gi d 0).iV) then some [.i 1] else some [.i 0]))))))
def adV:aL:=⟨59,[ak,ak],[],[],[ak],[],[],[],xc⟩
def t37:aD:=t36.bk adV
def Rf:aI P t37:=cU adU func59

def xd(d:LG):Option (Option Nat × LG) :=
 let g:=gi ((gi d 1).rZ.getD (((gi d 3).iV).toNat) []) 0; (bif (aO (gi d 3).iV (gi d 2).iV) then (gd (nL (gi d 3).iV (lI (gi d 1).rZ)) (bif (g.iV != (gi d 0).iV) then eQ [.i g.iV] else (gd (ay ((gi d 3).iV+1)) (some (none,kp d 0 [.i,.l,.i] [.i ((gi d 3).iV+1)]))))) else eR [.i (gi d 0).iV])
def adW:br:=⟨3,[],⟨18,[(3,ak),(6,gQ),(7,ak),(8,ak)],[]⟩,[],[⟨.ret,⟨18,w7,[]⟩,[]⟩,⟨.exit 0,⟨18,[(3,ak)],[]⟩,[]⟩],xd⟩
def adX:LT:=bH.add 0 adW
def adY:aT P 0 adX (be f58):=lA Rf (bI _ _ _)
def Ef(d:LG):Option LG :=
 (ba true (bN xd [.i 0,.l (gi d 0).rZ,.i (lI (gi d 0).rZ),.i 0]) fun h g=>(bif aG h 0 then some [.i (gi g 0).iV] else some [.i (gi g 0).iV]))
def adZ:aL:=⟨58,[gQ],[],[],[ak],[],[],[],Ef⟩
def t38:aD:=t37.bk adZ
def ad0:aI P t38:=tP Rf func58 adY

def uw(d:LG):Option LG :=
 (aB (xc [.i (gi (gi d 0).rV 0).iV,.i (gi (gi d 1).rV 0).iV]) fun g=>(aB (oP [.s (gi (gi d 0).rV 3).sV,.s (gi (gi d 1).rV 3).sV]) fun h=>(aB (oP [.s (gi (gi d 0).rV 2).sV,.s (gi (gi d 1).rV 2).sV]) fun k=>(aB (xc [.i (gi (gi d 0).rV 1).iV,.i (gi (gi d 1).rV 1).iV]) fun q=>(aB (Ef [.l [[.i (gi g 0).iV],[.i (gi h 0).iV],[.i (gi k 0).iV],[.i (gi q 0).iV]]]) fun v=>some [.i (gi v 0).iV])))))
def ad1:aL:=⟨26,[.s (.row au),.s (.row au)],[],[],[ak],[],[],[],uw⟩
def t39:aD:=t38.bk ad1
def Rg:aI P t39:=cU ad0 func26

def Rh(d:LG):Option (Option Nat × LG) :=
 let k:=aQ au ((gi d 1).rZ.getD (((gi d 3).iV).toNat) []); let h:=(gi d 3).iV-1; let g:=(gi d 3).iV+1; (bif (aO (gi d 3).iV (gi d 2).iV) then (gd (nL (gi d 3).iV (lI (gi d 1).rZ)) (aB (Ed [.l [k]]) fun q=>(bif ((gi q 0).iV != 0) then eQ [.i (gi q 0).iV] else (bif (aO 0 (gi d 3).iV) then (gd (ay h) (gd (nL h (lI (gi d 0).rZ)) (aB (uw [.l [(aQ au ((gi d 0).rZ.getD (h.toNat) []))],.l [k]]) fun v=>(bif (bp 0 (gi v 0).iV) then eQ [.i 7] else (gd (ay g) (some (none,kp d 0 [.l,.l,.i] [.i g]))))))) else (gd (ay g) (some (none,kp d 0 [.l,.l,.i] [.i g]))))))) else eR [])
def ad2:br:=⟨4,[],⟨34,QJ,[]⟩,[],[⟨.ret,⟨34,w7,[]⟩,[]⟩,⟨.exit 0,⟨34,[],[]⟩,[]⟩],Rh⟩
def ad3:LT:=bH.add 0 ad2
def ad4:aT P 0 ad3 (be f95):=lA Rg (bI _ _ _)
def Ji(d:LG):Option LG :=
 let g:=(lI (gi d 0).rZ); (bif (aO 2000 g) then some [.i 2] else (ba true (bN Rh [.l (gi d 0).rZ,.l (gi d 0).rZ,.i g,.i 0]) fun h k=>(bif aG h 0 then some [.i (gi k 0).iV] else some [.i 0])))
def ad5:aL:=⟨95,[fK],[],[],[ak],[],[],[],Ji⟩
def t40:aD:=t39.bk ad5
def ad6:aI P t40:=tP Rg func95 ad4

def Eg(d:LG):Option LG :=
 some [.t ((gi (gi d 0).rV 3).sV.toList==(gi (gi d 1).rV 0).sV.toList)]
def ad7:aL:=⟨96,[.s (.row au),.s (.cptr [.str,.list au])],[],[],[cN],[],[],[],Eg⟩
def t41:aD:=t40.bk ad7
def Ri:aI P t41:=cU ad6 func96

def Rj(d:LG):Option (Option Nat × LG) :=
 let g:=aQ [.str,.list au] (gi d 1).rV; (bif (aO (gi d 3).iV (gi d 2).iV) then (gd (nL (gi d 3).iV (lI (gi d 0).rZ)) (aB (Eg [.l [(aQ au ((gi d 0).rZ.getD (((gi d 3).iV).toNat) []))],.l [g]]) fun h=>(bif (gi h 0).bV then eQ [.i (gi d 3).iV] else (gd (ay ((gi d 3).iV+1)) (nQ [.l (gi d 0).rZ,.l [g],.i (gi d 2).iV,.i ((gi d 3).iV+1)]))))) else eR [])
def ad8:br:=⟨2,[],⟨19,[(0,fK),(1,.clo 96 [.cptr [.str,.list au]]),(7,ak),(8,ak)],[]⟩,[],[⟨.ret,⟨19,sc,[]⟩,[]⟩,⟨.exit 0,⟨19,[],[]⟩,[]⟩],Rj⟩
def ad9:LT:=bH.add 0 ad8
def ad_:aT P 0 ad9 (be f83):=lA Ri (bI _ _ _)
def Rk(d:LG):Option LG :=
 (ba true (bN Rj [.l (gi d 0).rZ,.l [(aQ [.str,.list au] (gi d 1).rV)],.i (lI (gi d 0).rZ),.i 0]) fun g h=>(bif aG g 0 then some [.i (gi h 0).iV] else some [.i (-1)]))
def ad':aL:=⟨83,[fK,.clo 96 [.cptr [.str,.list au]]],[],[],[ak],[],[],[],Rk⟩
def t42:aD:=t41.bk ad'
def aea:aI P t42:=tP Ri func83 ad_

def Rl(d:LG):Option LG :=
 (aB (Rk [.l (gi d 0).rZ,.l [(aQ [.str,.list au] (gi d 1).rV)]]) fun g=>some [.t (bp 0 (gi g 0).iV)])
def aeb:aL:=⟨60,[fK,.clo 96 [.cptr [.str,.list au]]],[],[],[cN],[],[],[],Rl⟩
def t43:aD:=t42.bk aeb
def Rm:aI P t43:=cU aea func60

def Eh(d:LG):Option LG :=
 (aB (AB [.s (gi (gi d 0).rV 0).sV]) fun k=>(bif (!(gi k 0).bV) then some [.i 3] else (aB (Ea [.l [[.i (gi (gi d 1).rV 0).iV]],.l [(aQ [.str,.list au] (gi d 2).rV)],.l [[.l (gi (gi d 3).rV 0).rZ]]]) fun g=>(bif ((gi g 0).iV != 0) then some [.i (gi g 0).iV] else (aB (Ji [.l (gi (gi d 0).rV 1).rZ]) fun h=>(bif ((gi h 0).iV != 0) then some [.i (gi h 0).iV] else (aB (Rl [.l (gi (gi d 0).rV 1).rZ,.l [(aQ [.str,.list au] (gi d 0).rV)]]) fun q=>(bif (gi q 0).bV then some [.i 6] else some [.i 0]))))))))
def aec:aL:=⟨76,[mM,.clo 75 [.cptr [.I],.cptr [.str,.list au],.cptr [.list [.str,.list au]]]],[],[],[ak],[],[],[],Eh⟩
def t44:aD:=t43.bk aec
def Jj:aI P t44:=Rm.aP (lZ hm (Rm.ka [60]) func76 (by kernel_rfl) (bI _ _ _) (fun d=>by kernel_rfl) (by kernel_rfl))

end
end Go.Proofs.iQ
