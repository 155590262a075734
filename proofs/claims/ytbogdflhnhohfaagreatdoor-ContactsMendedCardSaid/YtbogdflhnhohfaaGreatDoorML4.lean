/-
 What is proved here: functions of the program as functions on data. No condition.
-/
import Derived.Test.YtbogdflhnhohfaaGreatDoorML3
set_option linter.all false
open List renaming isEmpty->amA
open Nat renaming beq->aG
namespace Go.Proofs.iQ
open Go Go.AL Go.Proofs Tryz
noncomputable section
def xy(d:LG):Option (Option Nat × LG) :=
 let g:=(gi d 12).rZ.getD (((gi d 14).iV).toNat) []; let q:=(aG (gi d 11).rZ.length (gi d 11).rZ.length)&&(decide (((gi d 11).rZ.length+1)<=1048576)); let U:=((gi d 11).rZ++([[.i (gi d 14).iV,.i 6,.s (⟨#[]⟩:BY),.i (-1)]]:LL)); let V:=(((dL [.str,.str,.I] (gi d 9).rZ [.s (gi g 3).sV,.s (gi g 2).sV,.i (gi g 1).iV] (gi d 10).iV.toNat):Nat):Int); let k:=(gi d 14).iV+1; let v:=(((gi d 5).iV.toNat:Nat):Int); let y:=(((gi d 8).iV.toNat:Nat):Int); (bif (aO (gi d 14).iV (gi d 13).iV) then (gd (nL (gi d 14).iV (lI (gi d 12).rZ)) (bif (gi (dv [.str,.str,.I] (gi d 9).rZ [.s (gi g 3).sV,.s (gi g 2).sV,.i (gi g 1).iV] [.t false]) 0).bV then (gd q (gd (ay k) (gd (bE U) (some (none,kp d 0 [.l,.i,.i,.l,.l] [.i v,.l (gi d 6).rZ,.l (gi d 7).rZ,.i y,.l (gi d 9).rZ,.i (((gi d 10).iV.toNat:Nat):Int),.l U,.l (gi d 12).rZ,.i (gi d 13).iV,.i k]))))) else (aB (Ev (kp d 0 [.l,.i,.i,.l,.l] [.i v,.l (gi d 6).rZ,.l (gi d 7).rZ,.i y,.i (gi d 14).iV])) fun h=>let M:=((gi d 11).rZ++([(aQ dz (gi h 9).rV)]:LL)); let W:=bE M; let N:=(((gi h 5).iV.toNat:Nat):Int); let O:=(((gi h 8).iV.toNat:Nat):Int); (bif ((gi (gi h 9).rV 1).iV==1) then (gd q (gd (ay k) (gd W (some (none,kp h 0 [.l,.i,.i,.l,.l] [.i N,.l (gi h 6).rZ,.l (gi h 7).rZ,.i O,.l (eG [.str,.str,.I] (gi d 9).rZ [.s (gi g 3).sV,.s (gi g 2).sV,.i (gi g 1).iV] [.t true] (gi d 10).iV.toNat),.i V,.l M,.l (gi d 12).rZ,.i (gi d 13).iV,.i k]))))) else (gd q (gd (ay k) (gd W (some (none,kp h 0 [.l,.i,.i,.l,.l] [.i N,.l (gi h 6).rZ,.l (gi h 7).rZ,.i O,.l (eG [.str,.str,.I] (gi d 9).rZ [.s (gi g 3).sV,.s (gi g 2).sV,.i (gi g 1).iV] [.t ((gi (gi h 9).rV 1).iV==3)] (gi d 10).iV.toNat),.i V,.l M,.l (gi d 12).rZ,.i (gi d 13).iV,.i k]))))))))) else (gd (bE (gi d 11).rZ) (some (some 0,kp d 0 [.l,.i,.i,.l,.l] [.i v,.l (gi d 6).rZ,.l (gi d 7).rZ,.i y,.l (gi d 11).rZ]))))
def afu:br:=⟨4,[(4,dz)],⟨62,[(0,.s (.ptr 0 0)),(3,.s (.map 3)),(4,.s (.vQ 4 4)),(20,fK),(21,ak),(22,ak)],[.box [.list [.str,.list au],.I,.I,.map 1,.map 2],.mm 11 (.one .I) (.one .I) (.one .I),.mm 12 (.one .I) (.one .I) (.one (.bool)),.map (.agg [.str,.str,.I]) (.one (.bool)),.vQ dz 0]⟩,[.fix 0,.cell 0 3,.cell 0 4,.aq 3,.aq 4],[⟨.exit 0,⟨62,[(4,.s (.vQ 3 4))],[.box [.list [.str,.list au],.I,.I,.map 1,.map 2],.mm 11 (.one .I) (.one .I) (.one .I),.mm 12 (.one .I) (.one .I) (.one (.bool)),.vQ dz 0]⟩,[.fix 0,.cell 0 3,.cell 0 4,.aq 4]⟩],xy⟩
def afv:LT:=(bH.rU [(0,[.Dm 0 3 11 (.one .I) (.one .I),.Dm 0 4 12 (.one .I) (.one (.bool))]),(13,[.forget 0,.forget 1,.forget 2])]).add 3 afu
def afw:aT P 3 afv (be f53):=lA RG (pt _)
def Ew(d:LG):Option LG :=
 let g:=gi ((gi d 0).rZ.getD (((gi d 1).iV).toNat) []) 1; (gd ((amA (gi d 3).rZ)&&((amA (gi d 5).rZ)&&true)) (gd (nL (gi d 1).iV (lI (gi d 0).rZ)) (ba true (bN xy (kp d 0 [.l,.i,.i] [.l [],.l [],.i (((gi d 4).iV.toNat:Nat):Int),.l [],.l [],.i (((gi d 6).iV.toNat:Nat):Int),.l [],.i 0,.l [],.l g.rZ,.i (lI g.rZ),.i 0])) fun k h=>(gd (bE (gi h 9).rZ) (some [.l [],.l [],.l [],.l (gi h 9).rZ])))))
def afx:aL:=⟨53,[.s (.ptr 0 0)],[.box [.list [.str,.list au],.I,.I,.map 1,.map 2],.map (.one .I) (.one .I),.map (.one .I) (.one .I)],[.aq 0,.cell 0 3,.cell 0 4],[.s (.list dz)],[.vQ [] 1,.vQ [] 1,.vQ [] 1],[.fix 0,.fix 1,.fix 2],[],Ew⟩
def t67:aD:=t66.dm afx
def afy:aI P t67:=tW RG func53 afw

def kg(d:LG):Option LG :=
 (aB (l7 [.l (gi d 0).rZ]) fun k=>(bif ((gi k 0).iV != 0) then some [.l [],.i 0,.i (gi k 0).iV] else (aB (Ei [.i (gi d 2).iV]) fun q=>(bif ((gi q 0).iV != 0) then some [.l [],.i 0,.i (gi q 0).iV] else (aB (ux [.l (gi d 0).rZ,.s (gi d 1).sV]) fun h=>(bif (!(gi h 1).bV) then some [.l [],.i 0,.i 8] else (aB (Ro [.l (gi d 0).rZ,.i (gi h 0).iV,.i (gi d 2).iV]) fun g=>(aB (Ew (kp g 0 [.l,.i,.i,.l] [.i (((gi g 4).iV.toNat:Nat):Int),.l (gi g 5).rZ,.i (((gi g 6).iV.toNat:Nat):Int)])) fun v=>some [.l (gi v 3).rZ,.i (gi h 0).iV,.i 0]))))))))
def afz:aL:=⟨23,[.s (.list [.str,.list au]),bR,ak],[],[],[.s (.list dz),ak,ak],[],[],[],kg⟩
def t68:aD:=t67.bk afz
def RH:aI P t68:=cU afy func23

def AN(d:LG):Option (Option Nat × LG) :=
 let h:=(gi d 3).rZ.getD (((gi d 5).iV).toNat) []; let k:=((gi d 0).rZ++([(aQ au ((gi ((gi d 1).rZ.getD (((gi d 2).iV).toNat) []) 1).rZ.getD (((gi h 0).iV).toNat) []))]:LL)); let q:=aG (gi d 0).rZ.length (gi d 0).rZ.length; let v:=(nL (gi h 0).iV (((gi ((gi d 1).rZ.getD (((gi d 2).iV).toNat) []) 1).rZ.length:Nat):Int)); let y:=(nL (gi d 2).iV (lI (gi d 1).rZ)); let g:=(gi d 5).iV+1; let I:=q&&(decide (((gi d 0).rZ.length+1)<=1048576)); let M:=bE k; (bif (aO (gi d 5).iV (gi d 4).iV) then (gd (nL (gi d 5).iV (lI (gi d 3).rZ)) (bif ((gi h 1).iV==1) then (gd y (gd v (gd I (gd (ay g) (gd M (some (none,.l k::kp d 1 [.l,.i,.l,.i] [.i g]))))))) else (bif ((gi h 1).iV==5) then (gd y (gd v (gd I (gd (ay g) (gd M (some (none,.l k::kp d 1 [.l,.i,.l,.i] [.i g]))))))) else (gd (ay g) (gd (q&&true) (some (none,kp d 0 [.l,.l,.i,.l,.i] [.i g]))))))) else (gd (q&&true) (eQ [.l (gi d 0).rZ])))
def afA:br:=⟨6,[(11,au)],⟨53,[(0,.s (.list [.str,.list au])),(9,ak),(11,.s (.vQ 0 8)),(25,.s (.list dz)),(26,ak),(27,ak)],dn⟩,[.aq 11],[⟨.exit 0,⟨53,[(11,.s (.vQ 0 8))],dn⟩,[.aq 11]⟩],AN⟩
def afB:LT:=bH.add 0 afA
def afC:aT P 0 afB (be f7):=lA RH (bI _ _ _)
def xz(d:LG):Option LG :=
 (aB (kg (kp d 0 [.l,.s,.i] [])) fun g=>(bif ((gi g 2).iV != 0) then some [.l [],.i (gi g 2).iV] else (ba true (bN AN [.l [],.l (gi d 0).rZ,.i (gi g 1).iV,.l (gi g 0).rZ,.i (lI (gi g 0).rZ),.i 0]) fun k h=>(gd (bE (gi h 0).rZ) (some [.l (gi h 0).rZ,.i 0])))))
def afD:aL:=⟨7,[.s (.list [.str,.list au]),bR,ak],[],[],[fK,ak],[],[],[],xz⟩
def t69:aD:=t68.bk afD
def Jp:aI P t69:=tP RH func7 afC

def RI(d:LG):Option (Option Nat × LG) :=
 let g:=(gi d 4).iV-1; let h:=(gi d 0).rZ.set (0+((gi d 4).iV).toNat) (dV au ((gi d 0).rZ.getD (0+((gi d 4).iV).toNat) []) 0 (aQ au ((gi d 0).rZ.getD (0+g.toNat) []))); let y:=(lI (gi d 0).rZ); let I:=h.set (0+g.toNat) (dV au (h.getD (0+g.toNat) []) 0 (aQ au ((gi d 0).rZ.getD (0+((gi d 4).iV).toNat) []))); let k:=decide ((0+((gi d 4).iV).toNat)<(gi d 0).rZ.length); let q:=nL (gi d 4).iV y; let M:=bE (gi d 0).rZ; let N:=decide ((0+g.toNat)<(gi d 0).rZ.length); let v:=nL g y; (bif (aO (gi d 1).iV (gi d 4).iV) then (gd q (gd k (gd (ay g) (gd v (gd N (aB (uw [.l [(aQ au ((gi d 0).rZ.getD (0+((gi d 4).iV).toNat) []))],.l [(aQ au ((gi d 0).rZ.getD (0+g.toNat) []))]]) fun O=>(bif (aO (gi O 0).iV 0) then (gd (ay g) (gd (ay g) (gd v (gd N (gd q (gd k (gd q (gd k (gd v (gd (decide ((0+g.toNat)<h.length)) (gd (ay g) (gd ((aG (gi d 0).rZ.length I.length)&&true) (some (none,.l I::kp d 1 [.i,.i,.i] [.i g])))))))))))))) else (gd M (some (some 0,kp d 0 [.l,.i,.i,.i] [])))))))))) else (gd M (some (some 0,kp d 0 [.l,.i,.i,.i] []))))
def afE:br:=⟨4,[],⟨53,[(0,.s (.vQ 0 8)),(1,ak),(2,ak),(3,.s (.fn 26)),(8,ak),(9,ak)],dn⟩,[.fix 0],[⟨.exit 2,⟨53,QM,dn⟩,[.fix 0]⟩],RI⟩
def RJ:LT:=bH.add 1 afE
def afF:aT P 1 RJ (be f80):=lA Jp (bI _ _ _)
def RL(d:LG):Option (Option Nat × LG) :=
 (bif (aO (gi d 3).iV (gi d 2).iV) then (ba (bE (gi d 0).rZ) (bN RI (kp d 0 [.l,.i,.i,.i] [.i (gi d 3).iV])) fun h g=>(gd (ay ((gi g 3).iV+1)) (gd (bE (gi g 0).rZ) (some (none,kp g 0 [.l,.i,.i] [.i ((gi g 3).iV+1)]))))) else eQ [.l (gi d 0).rZ])
def afG:br:=⟨1,[],⟨53,QM,dn⟩,[.fix 0],[⟨.exit 0,⟨53,[],dn⟩,[.fix 0]⟩],RL⟩
def afH:LT:=RJ.add 1 afG
def afI:aT P 1 afH (be f80):=lA Jp afF
def Jq(d:LG):Option LG :=
 (gd (ay ((gi d 1).iV+1)) (ba (bE (gi d 0).rZ) (bN RL (kp d 0 [.l,.i,.i] [.i ((gi d 1).iV+1)])) fun h g=>some [.l (gi g 0).rZ]))
def afJ:aL:=⟨80,[.s (.vQ 0 8),ak,ak,.s (.fn 26)],[.vQ au 0],[.aq 0],[],[.vQ au 0],[.fix 0],[],Jq⟩
def t70:aD:=t69.dm afJ
def Ex:aI P t70:=tW Jp func80 afI

def RM(d:LG):Option (Option Nat × LG) :=
 let g:=Jq [.l (gi d 0).rZ,.i (gi d 3).iV,.i (gi d 4).iV]; let h:=bE (gi d 0).rZ; let k:=(gi d 4).iV+(gi d 2).iV; (bif (bp (gi d 4).iV (gi d 1).iV) then (jf (h&&g.isSome) g fun q=>(gd (ay k) (gd ((aG (gi d 0).rZ.length (gi q 0).rZ.length)&&true) (nQ [.l (gi q 0).rZ,.i (gi d 1).iV,.i (gi d 2).iV,.i (gi d 4).iV,.i k])))) else (gd h (some (some 0,kp d 0 [.l,.i,.i,.i] []))))
def afK:br:=⟨2,[],⟨63,QN,dn⟩,[.fix 0],[⟨.exit 0,⟨63,QO,dn⟩,[.fix 0]⟩],RM⟩
def RN:LT:=bH.add 1 afK
def afL:aT P 1 RN (be f57):=lA Ex (bI _ _ _)
def RO(d:LG):Option (Option Nat × LG) :=
 (bif (bp (gi d 4).iV (gi d 1).iV) then (gd (ay ((gi d 3).iV+(gi d 2).iV)) none) else (gd (bE (gi d 0).rZ) (some (some 0,kp d 0 [.l,.i,.i,.i] []))))
def afM:br:=⟨9,[],⟨63,QN,dn⟩,[.fix 0],[⟨.exit 4,⟨63,QO,dn⟩,[.fix 0]⟩],RO⟩
def RP:LT:=RN.add 1 afM
def afN:aT P 1 RP (be f57):=lA Ex afL
def RQ(d:LG):Option (Option Nat × LG) :=
 (bif (aO (gi d 2).iV (gi d 1).iV) then (gd (ay (2*(gi d 2).iV)) (ba (bE (gi d 0).rZ) (bN RO (kp d 0 [.l,.i,.i] [.i 0,.i (2*(gi d 2).iV)])) fun k g=>let h:=(gi g 3).iV+(gi g 2).iV; (gd (ay h) (bif (aO h (gi g 1).iV) then none else (gd (ay ((gi g 2).iV*2)) (gd (bE (gi g 0).rZ) (nQ [.l (gi g 0).rZ,.i (gi g 1).iV,.i ((gi g 2).iV*2)]))))))) else eQ [.l (gi d 0).rZ])
def afO:br:=⟨7,[],⟨63,[(0,.s (.vQ 0 8)),(1,ak),(2,.s (.fn 26)),(6,ak)],dn⟩,[.fix 0],[⟨.exit 2,⟨63,[],dn⟩,[.fix 0]⟩],RQ⟩
def afP:LT:=RP.add 1 afO
def afQ:aT P 1 afP (be f57):=lA Ex afN
def RS(d:LG):Option LG :=
 (ba (bE (gi d 0).rZ) (bN RM [.l (gi d 0).rZ,.i (gi d 1).iV,.i 20,.i 0,.i 20]) fun v g=>let h:=Jq [.l (gi g 0).rZ,.i (gi g 3).iV,.i (gi g 1).iV]; (jf ((bE (gi g 0).rZ)&&h.isSome) h fun k=>(ba ((aG (gi g 0).rZ.length (gi k 0).rZ.length)&&true) (bN RQ [.l (gi k 0).rZ,.i (gi g 1).iV,.i (gi g 2).iV]) fun y q=>some [.l (gi q 0).rZ])))
def afR:aL:=⟨57,[.s (.vQ 0 8),ak,.s (.fn 26)],[.vQ au 0],[.aq 0],[],[.vQ au 0],[.fix 0],[],RS⟩
def t71:aD:=t70.dm afR
def afS:aI P t71:=tW Ex func57 afQ

def Jr(d:LG):Option LG :=
 let g:=(RS [.l (gi d 0).rZ,.i (lI (gi d 0).rZ)]); (jf ((bE (gi d 0).rZ)&&g.isSome) g fun h=>some [.l (gi h 0).rZ])
def afT:aL:=⟨25,[.s (.vQ 0 8),.s (.fn 26)],[.vQ au 0],[.aq 0],[],[.vQ au 0],[.fix 0],[],Jr⟩
def t72:aD:=t71.dm afT
def afU:aI P t72:=mL afS func25

def AO(d:LG):Option LG :=
 (aB (uw [.l [(aQ au (gi d 0).rV)],.l [(aQ au (gi d 1).rV)]]) fun g=>some [.t ((gi g 0).iV==0)])
def afV:aL:=⟨28,[.s (.row au),.s (.row au)],[],[],[cN],[],[],[],AO⟩
def t73:aD:=t72.bk afV
def Js:aI P t73:=cU afU func28

def RT(d:LG):Option (Option Nat × LG) :=
 let g:=(((gi d 3).iV.toNat:Nat):Int); let k:=(gi d 2).iV.toNat+((gi d 4).iV).toNat; let y:=(gi d 0).rZ.set (0+((gi d 1).iV).toNat) (dV au ((gi d 0).rZ.getD (0+((gi d 1).iV).toNat) []) 0 (aQ au ((gi d 0).rZ.getD k []))); let q:=(gi d 4).iV-1; let I:=bE (gi d 0).rZ; let h:=(gi d 4).iV+1; let M:=nL (gi d 4).iV g; let N:=decide (k<(gi d 0).rZ.length); let O:=(((gi d 2).iV.toNat:Nat):Int); let v:=(gi d 2).iV.toNat+q.toNat; (bif (aO (gi d 4).iV g) then (gd M (gd N (gd (ay q) (gd (nL q g) (gd (decide (v<(gi d 0).rZ.length)) (aB (AO [.l [(aQ au ((gi d 0).rZ.getD k []))],.l [(aQ au ((gi d 0).rZ.getD v []))]]) fun U=>(bif (!(gi U 0).bV) then (gd M (gd N (gd (nL (gi d 1).iV (lI (gi d 0).rZ)) (gd (decide ((0+((gi d 1).iV).toNat)<(gi d 0).rZ.length)) (gd (ay ((gi d 1).iV+1)) (gd (ay h) (gd ((aG (gi d 0).rZ.length y.length)&&true) (nQ [.l y,.i ((gi d 1).iV+1),.i O,.i g,.i h])))))))) else (gd (ay h) (gd I (nQ [.l (gi d 0).rZ,.i (gi d 1).iV,.i O,.i g,.i h])))))))))) else (gd I (eQ [.l (gi d 0).rZ,.i (gi d 1).iV])))
def afW:br:=⟨9,[],⟨66,[(0,.s (.vQ 0 8)),(1,.s (.fn 28)),(5,ak),(6,.s (.sub 0 8)),(7,ak)],dn⟩,[.fix 0],[⟨.exit 2,⟨66,I9,dn⟩,[.fix 0]⟩],RT⟩
def RU:LT:=bH.add 1 afW
def afX:aT P 1 RU (be f27):=lA Js (bI _ _ _)
def RV(d:LG):Option (Option Nat × LG) :=
 let v:=bE (gi d 0).rZ; let h:=(lI (gi d 0).rZ); let k:=(gi d 1).iV-1; let q:=(⟨#[]⟩:BY); let y:=0+((gi d 1).iV).toNat; (bif (aO (gi d 1).iV h) then (gd (nL (gi d 1).iV h) (gd (decide (y<(gi d 0).rZ.length)) (gd (ay k) (gd (nL k h) (gd (decide ((0+k.toNat)<(gi d 0).rZ.length)) (aB (AO [.l [(aQ au ((gi d 0).rZ.getD y []))],.l [(aQ au ((gi d 0).rZ.getD (0+k.toNat) []))]]) fun O=>(bif (gi O 0).bV then (gd ((cJ (gi d 1).iV)&&(bp (gi d 1).iV h)) (ba v (bN RT [.l (gi d 0).rZ,.i (gi d 1).iV,.i ((y:Nat):Int),.i ((((gi d 0).rZ.length-((gi d 1).iV).toNat):Nat):Int),.i 1]) fun U g=>let I:=(gi g 0).rZ.length-((gi g 1).iV).toNat; let N:=((cJ (gi g 1).iV)&&(bp (gi g 1).iV (lI (gi g 0).rZ))); let M:=0+((gi g 1).iV).toNat; (gd N (gd (Nat.ble (M+I) (gi g 0).rZ.length) (gd N (eQ [.l ((gi g 0).rZ.take M++List.replicate I [.i 0,.i 0,.s q,.s q,.i 0,.i 0,.s q,.s q]++(gi g 0).rZ.drop (M+I)),.i (((((gi g 1).iV).toNat-0):Nat):Int)])))))) else (gd (ay ((gi d 1).iV+1)) (gd v (nQ [.l (gi d 0).rZ,.i ((gi d 1).iV+1)])))))))))) else (gd v (eR [.l (gi d 0).rZ])))
def afY:br:=⟨4,[],⟨66,[(0,.s (.vQ 0 8)),(1,.s (.fn 28)),(5,ak)],dn⟩,[.fix 0],[⟨.ret,⟨66,[(4,.s (.pre 0 8))],dn⟩,[.fix 0]⟩,⟨.exit 0,⟨66,[(0,.s (.vQ 0 8))],dn⟩,[.fix 0]⟩],RV⟩
def afZ:LT:=RU.add 1 afY
def af0:aT P 1 afZ (be f27):=lA Js afX
def RW(d:LG):Option LG :=
 let h:=(lI (gi d 0).rZ); (bif (aO h 2) then some [.l (gi d 0).rZ,.i h] else (ba (bE (gi d 0).rZ) (bN RV [.l (gi d 0).rZ,.i 1]) fun k g=>(bif aG k 0 then some [.l (gi g 0).rZ,.i (((gi g 1).iV.toNat:Nat):Int)] else some [.l (gi g 0).rZ,.i (lI (gi g 0).rZ)])))
def af1:aL:=⟨27,[.s (.vQ 0 8),.s (.fn 28)],[.vQ au 0],[.aq 0],[.s (.pre 0 8)],[.vQ au 0],[.fix 0],[],RW⟩
def t74:aD:=t73.dm af1
def Ey:aI P t74:=tW Js func27 af0

def AP(d:LG):Option (Option Nat × LG) :=
 let g:=bE (gi d 0).rZ; (bif (gi d 19).bV then (gd g (some (some 0,.l (gi d 0).rZ::kp d 13 [.l,.i,.l,.i,.i] []))) else (bif ((gi d 18).iV==2) then (gd g (some (some 1,.l (gi d 0).rZ::kp d 5 [.i,.i,.s] (.s (gi d 3).sV::kp d 9 [.i,.i,.s,.s,.l,.i,.l,.i,.i] [])))) else (bif ((gi d 18).iV==3) then (aB (ux [.l (gi d 13).rZ,.s (gi d 3).sV]) fun h=>let k:=gi ((gi d 13).rZ.getD (((gi h 0).iV).toNat) []) 1; let q:=k.rZ.getD (((gi d 4).iV).toNat) []; (gd (nL (gi h 0).iV (lI (gi d 13).rZ)) (gd (nL (gi d 4).iV (lI k.rZ)) (gd g (some (some 1,.l (gi d 0).rZ::kp d 5 [.i,.i,.s,.s,.i] (.i (gi q 4).iV::.s (gi d 11).sV::.s (gi q 6).sV::kp d 13 [.l,.i,.l,.i,.i] []))))))) else (gd g (some (some 1,.l (gi d 0).rZ::kp d 5 [.i,.i,.s,.s,.i,.i,.s,.s,.l,.i,.l,.i,.i] []))))))
def af2:br:=⟨12,[],⟨87,[(0,.s (.list [.str,.list au])),(9,ak),(11,.s (.vQ 0 8)),(13,.s (.ptr 1 0)),(14,.s (.ptr 2 0)),(29,.s (.list dz)),(30,ak),(31,ak),(45,ak),(46,cN)],QD⟩,[.aq 11,.aq 13,.aq 14],[⟨.exit 1,⟨87,Ja,dn⟩,[.aq 11]⟩,⟨.normal,⟨87,QP,D0⟩,[.aq 11,.aq 14]⟩],AP⟩
def RX:LT:=bH.fl 0 af2
def af3:aT P 0 RX (be f8):=lC Ey (bI _ _ _)
def Ez(d:LG):Option (Option Nat × LG) :=
 let g:=((gi d 0).rZ++([(kp d 1 [.i,.i,.s,.s,.i,.i,.s,.s] [])]:LL)); (gd ((aG (gi d 0).rZ.length (gi d 0).rZ.length)&&(decide (((gi d 0).rZ.length+1)<=1048576))) (gd (bE g) (some (some 0,.l g::kp d 9 [.l,.i,.l,.i,.i] []))))
def af4:br:=⟨18,[],⟨87,QP,D0⟩,[.aq 11,.aq 14],[⟨.normal,⟨87,Ja,dn⟩,[.aq 11]⟩],Ez⟩
def RY:LT:=RX.fl 0 af4
def af5:aT P 0 RY (be f8):=lC Ey af3
def xA(d:LG):Option (Option Nat × LG) :=
 let g:=(gi d 3).rZ.getD (((gi d 5).iV).toNat) []; let I:=(gi ((gi d 1).rZ.getD (((gi d 2).iV).toNat) []) 1).rZ.getD (((gi g 0).iV).toNat) []; let y:=bE (gi d 0).rZ; (bif (aO (gi d 5).iV (gi d 4).iV) then (gd (nL (gi d 5).iV (lI (gi d 3).rZ)) (gd (nL (gi d 2).iV (lI (gi d 1).rZ)) (gd (nL (gi g 0).iV (((gi ((gi d 1).rZ.getD (((gi d 2).iV).toNat) []) 1).rZ.length:Nat):Int)) (bif ((gi g 1).iV==4) then (ba y (cW (AP (.l (gi d 0).rZ::kp g 0 [.i,.i,.s,.i] (kp I 0 [.i,.i,.s,.s,.i,.i,.s,.s] (kp d 1 [.l,.i,.l,.i,.i] [.i (gi g 1).iV,.t ((gi g 1).iV==4)]))))) fun O h=>let M:=bE (gi h 0).rZ; (bif aG O 0 then (gd (ay ((gi h 5).iV+1)) (gd M (some (none,kp h 0 [.l,.l,.i,.l,.i] [.i ((gi h 5).iV+1)])))) else (ba M (cW (Ez (kp h 0 [.l,.i,.i,.s,.s,.i,.i,.s,.s,.l,.i,.l,.i,.i] []))) fun V q=>(gd (ay ((gi q 5).iV+1)) (gd (bE (gi q 0).rZ) (some (none,kp q 0 [.l,.l,.i,.l,.i] [.i ((gi q 5).iV+1)]))))))) else (ba y (cW (AP (.l (gi d 0).rZ::kp g 0 [.i,.i,.s,.i] (kp I 0 [.i,.i,.s,.s,.i,.i,.s,.s] (kp d 1 [.l,.i,.l,.i,.i] [.i (gi g 1).iV,.t ((gi g 1).iV==6)]))))) fun U k=>let N:=bE (gi k 0).rZ; (bif aG U 0 then (gd (ay ((gi k 5).iV+1)) (gd N (some (none,kp k 0 [.l,.l,.i,.l,.i] [.i ((gi k 5).iV+1)])))) else (ba N (cW (Ez (kp k 0 [.l,.i,.i,.s,.s,.i,.i,.s,.s,.l,.i,.l,.i,.i] []))) fun W v=>(gd (ay ((gi v 5).iV+1)) (gd (bE (gi v 0).rZ) (some (none,kp v 0 [.l,.l,.i,.l,.i] [.i ((gi v 5).iV+1)]))))))))))) else (gd y (eQ [.l (gi d 0).rZ])))
def af6:br:=⟨6,[(11,au)],⟨87,Ja,dn⟩,[.aq 11],[⟨.exit 0,⟨87,[(11,.s (.vQ 0 8))],dn⟩,[.aq 11]⟩],xA⟩
def af7:LT:=RY.add 0 af6
def af8:aT P 0 af7 (be f8):=lA Ey af5
def xB(d:LG):Option LG :=
 (aB (kg (kp d 0 [.l,.s,.i] [])) fun g=>(bif ((gi g 2).iV != 0) then some [.l [],.i (gi g 2).iV] else (ba true (bN xA [.l [],.l (gi d 0).rZ,.i (gi g 1).iV,.l (gi g 0).rZ,.i (lI (gi g 0).rZ),.i 0]) fun I k=>let q:=Jr [.l (gi k 0).rZ]; (jf ((bE (gi k 0).rZ)&&q.isSome) q fun v=>let y:=RW [.l (gi v 0).rZ]; (jf (((aG (gi k 0).rZ.length (gi v 0).rZ.length)&&true)&&y.isSome) y fun h=>(gd ((Nat.ble (gi h 1).iV.toNat (gi h 0).rZ.length)&&true) (some [.l ((gi h 0).rZ.take ((gi h 1).iV.toNat)),.i 0])))))))
def af9:aL:=⟨8,[.s (.list [.str,.list au]),bR,ak],[],[],[.s (.tV au),ak],[],[],[],xB⟩
def t75:aD:=t74.bk af9
def af_:aI P t75:=tP Ey func8 af8

def EA(d:LG):Option LG :=
 (bif ((gi d 0).iV==2) then some [.t true] else (bif ((gi d 0).iV==3) then some [.t true] else some [.t ((gi d 0).iV==4)]))
def af':aL:=⟨29,[ak],[],[],[cN],[],[],[],EA⟩
def t76:aD:=t75.bk af'
def aga:aI P t76:=cU af_ func29

def EB(d:LG):Option LG :=
 (aB (AM [.s (gi (gi d 0).rV 3).sV,.s (gi (gi d 1).rV 0).sV]) fun g=>(aB (uy [.l [(aQ au (gi d 2).rV)],.l [(aQ au (gi d 0).rV)],.i (gi (gi d 3).rV 0).iV]) fun h=>(bif (gi h 0).bV then (bif (bp 1 (gi g 0).iV) then some [.t (bp (gi g 0).iV 2)] else some [.t false]) else some [.t false])))
def agb:aL:=⟨61,[.s (.row au),.s (.cptr [.str]),.s (.cptr au),.s (.cptr [.I])],[],[],[cN],[],[],[],EB⟩
def t77:aD:=t76.bk agb
def RZ:aI P t77:=cU aga func61

def AQ(d:LG):Option (Option Nat × LG) :=
 let g:=aQ au (gi d 2).rV; (bif (aO (gi d 5).iV (gi d 4).iV) then (gd (nL (gi d 5).iV (lI (gi d 0).rZ)) (aB (EB [.l [(aQ au ((gi d 0).rZ.getD (((gi d 5).iV).toNat) []))],.l [[.s (gi (gi d 1).rV 0).sV]],.l [g],.l [[.i (gi (gi d 3).rV 0).iV]]]) fun h=>(bif (gi h 0).bV then eQ [.i (gi d 5).iV] else (gd (ay ((gi d 5).iV+1)) (nQ [.l (gi d 0).rZ,.l [[.s (gi (gi d 1).rV 0).sV]],.l [g],.l [[.i (gi (gi d 3).rV 0).iV]],.i (gi d 4).iV,.i ((gi d 5).iV+1)]))))) else eR [])
def agc:br:=⟨2,[],⟨19,[(0,fK),(1,.clo 61 [.cptr [.str],.cptr au,.cptr [.I]]),(7,ak),(8,ak)],[]⟩,[],[⟨.ret,⟨19,sc,[]⟩,[]⟩,⟨.exit 0,⟨19,[],[]⟩,[]⟩],AQ⟩
def agd:LT:=bH.add 0 agc
def age:aT P 0 agd (be f83):=lA RZ (bI _ _ _)
def Jt(d:LG):Option LG :=
 (ba true (bN AQ [.l (gi d 0).rZ,.l [[.s (gi (gi d 1).rV 0).sV]],.l [(aQ au (gi d 2).rV)],.l [[.i (gi (gi d 3).rV 0).iV]],.i (lI (gi d 0).rZ),.i 0]) fun g h=>(bif aG g 0 then some [.i (gi h 0).iV] else some [.i (-1)]))
def agf:aL:=⟨83,[fK,.clo 61 [.cptr [.str],.cptr au,.cptr [.I]]],[],[],[ak],[],[],[],Jt⟩
def t78:aD:=t77.bk agf
def agh:aI P t78:=tP RZ func83 age

def Ju(d:LG):Option LG :=
 (aB (Jt [.l (gi d 0).rZ,.l [[.s (gi (gi d 1).rV 0).sV]],.l [(aQ au (gi d 2).rV)],.l [[.i (gi (gi d 3).rV 0).iV]]]) fun g=>some [.t (bp 0 (gi g 0).iV)])
def agi:aL:=⟨60,[fK,.clo 61 [.cptr [.str],.cptr au,.cptr [.I]]],[],[],[cN],[],[],[],Ju⟩
def t79:aD:=t78.bk agi
def R0:aI P t79:=cU agh func60

def EC(d:LG):Option LG :=
 (aB (Ju [.l (gi (gi d 0).rV 1).rZ,.l [[.s (gi d 2).sV]],.l [(aQ au (gi d 1).rV)],.l [[.i (gi d 3).iV]]]) fun g=>some [.t (gi g 0).bV])
def agj:aL:=⟨30,[mM,.s (.row au),bR,ak],[],[],[cN],[],[],[],EC⟩
def t80:aD:=t79.bk agj
def Jv:aI P t80:=R0.aP (lZ hm (R0.ka [60]) func30 (by kernel_rfl) (bI _ _ _) (fun d=>by kernel_rfl) (by kernel_rfl))

def ED(d:LG):Option (Option Nat × LG) :=
 let g:=bE (gi d 0).rZ; (bif (gi d 21).bV then (gd g (some (some 0,kp d 0 [.l,.i,.i,.s,.i] (kp d 13 [.l,.s,.i,.i] (.s (gi d 8).sV::kp d 18 [.l,.i,.i] []))))) else (gd g (some (some 0,kp d 0 [.l,.i,.i,.s,.i] (kp d 13 [.l,.s,.i,.i,.s,.l,.i,.i] [])))))
def agk:br:=⟨14,[],⟨82,[(0,.s (.list [.str,.list au])),(1,bR),(2,ak),(9,ak),(11,.s (.vQ 0 2)),(13,.s (.ptr 1 0)),(14,bR),(15,.s (.ptr 2 0)),(29,.s (.list dz)),(30,ak),(31,ak),(69,cN)],[.vQ [.str,.str] 0,.box [.I,.I,.str,.I],.box [.I,.I,.str,.str,.I,.I,.str,.str]]⟩,[.aq 11,.aq 13,.aq 15],[⟨.normal,⟨82,[(0,.s (.list [.str,.list au])),(1,bR),(2,ak),(9,ak),(11,.s (.vQ 0 2)),(13,.s (.ptr 1 0)),(14,bR),(29,.s (.list dz)),(30,ak),(31,ak)],[.vQ [.str,.str] 0,.box [.I,.I,.str,.I]]⟩,[.aq 11,.aq 13]⟩],ED⟩
def R4:LT:=bH.fl 0 agk
def agl:aT P 0 R4 (be f9):=lC Jv (bI _ _ _)
def xC(d:LG):Option (Option Nat × LG) :=
 let k:=(gi d 5).rZ.getD (((gi d 7).iV).toNat) []; let q:=(gi ((gi d 1).rZ.getD (((gi d 4).iV).toNat) []) 1).rZ.getD (((gi k 0).iV).toNat) []; let M:=aG (gi d 0).rZ.length (gi d 0).rZ.length; let v:=(gi d 7).iV+1; let N:=(lI (gi d 1).rZ); let y:=M&&true; (bif (aO (gi d 7).iV (gi d 6).iV) then (gd (nL (gi d 7).iV (lI (gi d 5).rZ)) (aB (EA [.i (gi k 1).iV]) fun W=>(bif (!(gi W 0).bV) then (gd (ay v) (gd y (some (none,kp d 0 [.l,.l,.s,.i,.i,.l,.i] [.i v])))) else (gd (nL (gi d 4).iV N) (gd (nL (gi k 0).iV (((gi ((gi d 1).rZ.getD (((gi d 4).iV).toNat) []) 1).rZ.length:Nat):Int)) (bif ((gi k 1).iV==4) then (aB (ux [.l (gi d 1).rZ,.s (gi q 3).sV]) fun I=>(bif (gi I 1).bV then (gd (nL (gi I 0).iV N) (aB (EC [.l [(aQ [.str,.list au] ((gi d 1).rZ.getD (((gi I 0).iV).toNat) []))],.l [(aQ au q)],.s (gi d 2).sV,.i (gi d 3).iV]) fun g4=>(ba y (cW (ED (.l (gi d 0).rZ::kp k 0 [.i,.i,.s,.i] (kp q 0 [.i,.i,.s,.s,.i,.i,.s,.s] (kp d 1 [.l,.s,.i,.i] (.s (gi d 2).sV::kp d 5 [.l,.i,.i] [.t (gi g4 0).bV])))))) fun cg5 g=>(aB (mN [.i (gi g 1).iV]) fun g6=>let O:=((gi g 0).rZ++([[.s (gi g6 0).sV,.s (gi g 9).sV]]:LL)); (gd ((aG (gi g 0).rZ.length (gi g 0).rZ.length)&&(decide (((gi g 0).rZ.length+1)<=1048576))) (gd (ay ((gi g 12).iV+1)) (gd (bE O) (some (none,.l O::kp g 5 [.l,.s,.i,.i] [.l (gi g 10).rZ,.i (gi g 11).iV,.i ((gi g 12).iV+1)]))))))))) else (ba y (cW (ED (.l (gi d 0).rZ::kp k 0 [.i,.i,.s,.i] (kp q 0 [.i,.i,.s,.s,.i,.i,.s,.s] (kp d 1 [.l,.s,.i,.i] (.s (gi d 2).sV::kp d 5 [.l,.i,.i] [.t false])))))) fun cg7 h=>(aB (mN [.i (gi h 1).iV]) fun g8=>let U:=((gi h 0).rZ++([[.s (gi g8 0).sV,.s (gi h 9).sV]]:LL)); (gd ((aG (gi h 0).rZ.length (gi h 0).rZ.length)&&(decide (((gi h 0).rZ.length+1)<=1048576))) (gd (ay ((gi h 12).iV+1)) (gd (bE U) (some (none,.l U::kp h 5 [.l,.s,.i,.i] [.l (gi h 10).rZ,.i (gi h 11).iV,.i ((gi h 12).iV+1)]))))))))) else (aB (mN [.i (gi k 0).iV]) fun g9=>let V:=((gi d 0).rZ++([[.s (gi g9 0).sV,.s (gi d 2).sV]]:LL)); (gd (M&&(decide (((gi d 0).rZ.length+1)<=1048576))) (gd (ay v) (gd (bE V) (some (none,.l V::kp d 1 [.l,.s,.i,.i,.l,.i] [.i v])))))))))))) else (gd y (eQ [.l (gi d 0).rZ])))
def agm:br:=⟨6,[(11,[.str,.str])],⟨82,[(0,.s (.list [.str,.list au])),(1,bR),(2,ak),(9,ak),(11,.s (.vQ 0 2)),(29,.s (.list dz)),(30,ak),(31,ak)],[.vQ [.str,.str] 0]⟩,[.aq 11],[⟨.exit 0,⟨82,[(11,.s (.vQ 0 2))],[.vQ [.str,.str] 0]⟩,[.aq 11]⟩],xC⟩
def agn:LT:=R4.add 0 agm
def ago:aT P 0 agn (be f9):=lA Jv agl
def xD(d:LG):Option LG :=
 (aB (kg (kp d 0 [.l,.s,.i] [])) fun g=>(bif ((gi g 2).iV != 0) then some [.l [],.i (gi g 2).iV] else (ba true (bN xC (.l []::kp d 0 [.l,.s,.i] [.i (gi g 1).iV,.l (gi g 0).rZ,.i (lI (gi g 0).rZ),.i 0])) fun k h=>(gd (bE (gi h 0).rZ) (some [.l (gi h 0).rZ,.i 0])))))
def agp:aL:=⟨9,[.s (.list [.str,.list au]),bR,ak],[],[],[.s (.list [.str,.str]),ak],[],[],[],xD⟩
def t81:aD:=t80.bk agp
def agq:aI P t81:=tP Jv func9 ago

def AR(d:LG):Option LG :=
 (aB (I6 [.s (gi d 0).sV]) fun g=>some [.t (gi g 1).bV])
def agr:aL:=⟨65,[bR],[],[],[cN],[],[],[],AR⟩
def t82:aD:=t81.bk agr
def ags:aI P t82:=cU agq func65

def oQ(d:LG):Option LG :=
 (bif (bp (gi d 1).iV (gi d 0).iV) then some [.t (bp (gi d 0).iV (gi d 2).iV)] else some [.t false])
def agt:aL:=⟨42,[ak,ak,ak],[],[],[cN],[],[],[],oQ⟩
def t83:aD:=t82.bk agt
def agu:aI P t83:=cU ags func42

def Jw(d:LG):Option LG :=
 (aB (oQ [.i (gi d 0).iV,.i 0,.i 345686399999]) fun g=>some [.t (gi g 0).bV])
def agv:aL:=⟨133,[ak],[],[],[cN],[],[],[],Jw⟩
def t84:aD:=t83.bk agv
def R5:aI P t84:=cU agu func133

def R6(d:LG):Option (Option Nat × LG) :=
 (bif (aO (gi d 3).iV (gi d 2).iV) then (gd (nL (gi d 3).iV (((gi d 0).sV.size:Nat):Int)) (aB (DW [.s (gi d 1).sV,.i (((gi d 0).sV.data.toList.getD (((gi d 3).iV).toNat) 0).toNat:Int)]) fun g=>(bif (aO (gi g 0).iV 0) then eQ [.t false] else (gd (ay ((gi d 3).iV+1)) (some (none,kp d 0 [.s,.s,.i] [.i ((gi d 3).iV+1)])))))) else eR [])
def agw:br:=⟨2,[],⟨18,[(0,bR),(1,bR),(7,ak),(8,ak)],[]⟩,[],[⟨.ret,⟨18,[(4,cN)],[]⟩,[]⟩,⟨.exit 0,⟨18,[],[]⟩,[]⟩],R6⟩
def agx:LT:=bH.add 0 agw
def agy:aT P 0 agx (be f159):=lA R5 (bI _ _ _)
def Jx(d:LG):Option LG :=
 (ba true (bN R6 [.s (gi d 0).sV,.s (gi d 1).sV,.i (((gi d 0).sV.size:Nat):Int),.i 0]) fun g h=>(bif aG g 0 then some [.t (gi h 0).bV] else some [.t true]))
def agz:aL:=⟨159,[bR,bR],[],[],[cN],[],[],[],Jx⟩
def t85:aD:=t84.bk agz
def agA:aI P t85:=tP R5 func159 agy

def AS(d:LG):Option LG :=
 let g:=(((gi d 0).sV.size:Nat):Int); (aB (oQ [.i g,.i 1,.i 40]) fun h=>(bif (gi h 0).bV then (gd (bp 1 g) (aB (Jx [.s ((gi d 0).sV.extract 0 1),.s (⟨#[97,98,99,100,101,102,103,104,105,106,107,108,109,110,111,112,113,114,115,116,117,118,119,120,121,122]⟩:BY)]) fun k=>(bif (gi k 0).bV then (aB (Jx [.s (gi d 0).sV,.s (⟨#[97,98,99,100,101,102,103,104,105,106,107,108,109,110,111,112,113,114,115,116,117,118,119,120,121,122,48,49,50,51,52,53,54,55,56,57,45,95]⟩:BY)]) fun q=>some [.t (gi q 0).bV]) else some [.t false]))) else some [.t false]))
def agB:aL:=⟨134,[bR],[],[],[cN],[],[],[],AS⟩
def t86:aD:=t85.bk agB
def agC:aI P t86:=cU agA func134

def EE(d:LG):Option LG :=
 let g:=(!((gi (gi d 0).rV 7).sV.toList==(⟨#[]⟩:BY).toList)); let h:=AS [.s (gi (gi d 0).rV 7).sV]; (aB (Jw [.i (gi (gi d 0).rV 0).iV]) fun k=>(bif (!(gi k 0).bV) then some [.i 1] else (aB (oQ [.i (gi (gi d 0).rV 1).iV,.i 1,.i 3]) fun q=>(bif (!(gi q 0).bV) then some [.i 4] else (aB (AS [.s (gi (gi d 0).rV 2).sV]) fun v=>(bif (!(gi v 0).bV) then some [.i 5] else (aB (AR [.s (gi (gi d 0).rV 3).sV]) fun y=>(bif (!(gi y 0).bV) then some [.i 3] else (aB (oQ [.i (gi (gi d 0).rV 4).iV,.i 0,.i 99999]) fun I=>(bif (!(gi I 0).bV) then some [.i 1] else (aB (oQ [.i (gi (gi d 0).rV 5).iV,.i 0,.i 99999]) fun M=>(bif (!(gi M 0).bV) then some [.i 1] else (bif (!((gi (gi d 0).rV 6).sV.toList==(⟨#[]⟩:BY).toList)) then (aB (AS [.s (gi (gi d 0).rV 6).sV]) fun N=>(bif (!(gi N 0).bV) then some [.i 5] else (bif g then (aB h fun O=>(bif (!(gi O 0).bV) then some [.i 5] else some [.i 0])) else some [.i 0]))) else (bif g then (aB h fun U=>(bif (!(gi U 0).bV) then some [.i 5] else some [.i 0])) else some [.i 0]))))))))))))))
def agD:aL:=⟨111,[.s (.row au)],[],[],[ak],[],[],[],EE⟩
def t87:aD:=t86.bk agD
def R7:aI P t87:=cU agC func111

def R8(d:LG):Option (Option Nat × LG) :=
 let k:=aQ au ((gi d 1).rZ.getD (((gi d 3).iV).toNat) []); let h:=(gi d 3).iV-1; let g:=(gi d 3).iV+1; (bif (aO (gi d 3).iV (gi d 2).iV) then (gd (nL (gi d 3).iV (lI (gi d 1).rZ)) (aB (EE [.l [k]]) fun q=>(bif ((gi q 0).iV != 0) then eQ [.i (gi q 0).iV] else (bif (aO 0 (gi d 3).iV) then (gd (ay h) (gd (nL h (lI (gi d 0).rZ)) (aB (r8 [.l [(aQ au ((gi d 0).rZ.getD (h.toNat) []))],.l [k]]) fun v=>(bif (bp 0 (gi v 0).iV) then eQ [.i 7] else (gd (ay g) (some (none,kp d 0 [.l,.l,.i] [.i g]))))))) else (gd (ay g) (some (none,kp d 0 [.l,.l,.i] [.i g]))))))) else eR [])
def agE:br:=⟨4,[],⟨34,QJ,[]⟩,[],[⟨.ret,⟨34,w7,[]⟩,[]⟩,⟨.exit 0,⟨34,[],[]⟩,[]⟩],R8⟩
def agF:LT:=bH.add 0 agE
def agG:aT P 0 agF (be f87):=lA R7 (bI _ _ _)
def Jy(d:LG):Option LG :=
 let g:=(lI (gi d 0).rZ); (bif (aO 2000 g) then some [.i 2] else (ba true (bN R8 [.l (gi d 0).rZ,.l (gi d 0).rZ,.i g,.i 0]) fun h k=>(bif aG h 0 then some [.i (gi k 0).iV] else some [.i 0])))
def agH:aL:=⟨87,[fK],[],[],[ak],[],[],[],Jy⟩
def t88:aD:=t87.bk agH
def agI:aI P t88:=tP R7 func87 agG

def EF(d:LG):Option LG :=
 some [.t ((gi (gi d 0).rV 3).sV.toList==(gi (gi d 1).rV 0).sV.toList)]
def agJ:aL:=⟨88,[.s (.row au),.s (.cptr [.str,.list au])],[],[],[cN],[],[],[],EF⟩
def t89:aD:=t88.bk agJ
def R9:aI P t89:=cU agI func88

def R_(d:LG):Option (Option Nat × LG) :=
 let g:=aQ [.str,.list au] (gi d 1).rV; (bif (aO (gi d 3).iV (gi d 2).iV) then (gd (nL (gi d 3).iV (lI (gi d 0).rZ)) (aB (EF [.l [(aQ au ((gi d 0).rZ.getD (((gi d 3).iV).toNat) []))],.l [g]]) fun h=>(bif (gi h 0).bV then eQ [.i (gi d 3).iV] else (gd (ay ((gi d 3).iV+1)) (nQ [.l (gi d 0).rZ,.l [g],.i (gi d 2).iV,.i ((gi d 3).iV+1)]))))) else eR [])
def agK:br:=⟨2,[],⟨19,[(0,fK),(1,.clo 88 [.cptr [.str,.list au]]),(7,ak),(8,ak)],[]⟩,[],[⟨.ret,⟨19,sc,[]⟩,[]⟩,⟨.exit 0,⟨19,[],[]⟩,[]⟩],R_⟩
def agL:LT:=bH.add 0 agK
def agM:aT P 0 agL (be f83):=lA R9 (bI _ _ _)
def R'(d:LG):Option LG :=
 (ba true (bN R_ [.l (gi d 0).rZ,.l [(aQ [.str,.list au] (gi d 1).rV)],.i (lI (gi d 0).rZ),.i 0]) fun g h=>(bif aG g 0 then some [.i (gi h 0).iV] else some [.i (-1)]))
def agN:aL:=⟨83,[fK,.clo 88 [.cptr [.str,.list au]]],[],[],[ak],[],[],[],R'⟩
def t90:aD:=t89.bk agN
def agO:aI P t90:=tP R9 func83 agM

def Sa(d:LG):Option LG :=
 (aB (R' [.l (gi d 0).rZ,.l [(aQ [.str,.list au] (gi d 1).rV)]]) fun g=>some [.t (bp 0 (gi g 0).iV)])
def agP:aL:=⟨60,[fK,.clo 88 [.cptr [.str,.list au]]],[],[],[cN],[],[],[],Sa⟩
def t91:aD:=t90.bk agP
def Sb:aI P t91:=cU agO func60

def EG(d:LG):Option LG :=
 (aB (AR [.s (gi (gi d 0).rV 0).sV]) fun h=>(bif (!(gi h 0).bV) then some [.i 3] else (aB (Jy [.l (gi (gi d 0).rV 1).rZ]) fun g=>(bif ((gi g 0).iV != 0) then some [.i (gi g 0).iV] else (aB (Sa [.l (gi (gi d 0).rV 1).rZ,.l [(aQ [.str,.list au] (gi d 0).rV)]]) fun k=>(bif (gi k 0).bV then some [.i 6] else some [.i 0]))))))
def agQ:aL:=⟨66,[mM],[],[],[ak],[],[],[],EG⟩
def t92:aD:=t91.bk agQ
def Sc:aI P t92:=Sb.aP (lZ hm (Sb.ka [60]) func66 (by kernel_rfl) (bI _ _ _) (fun d=>by kernel_rfl) (by kernel_rfl))

def xE(d:LG):Option (Option Nat × LG) :=
 let g:=(gi d 1).rZ.getD (((gi d 3).iV).toNat) []; let k:=(gi d 3).iV-1; let q:=EG [.l [(aQ [.str,.list au] g)]]; let h:=(gi d 3).iV+1; let v:=gi ((gi d 0).rZ.getD (k.toNat) []) 0; (bif (aO (gi d 3).iV (gi d 2).iV) then (gd (nL (gi d 3).iV (lI (gi d 1).rZ)) (aB (AR [.s (gi g 0).sV]) fun M=>(bif (!(gi M 0).bV) then eQ [.i 3] else (bif (aO 0 (gi d 3).iV) then (gd (ay k) (gd (nL k (lI (gi d 0).rZ)) (bif ((Op.bytesLess (gi g 0).sV.toList v.sV.toList)||((gi g 0).sV.toList==v.sV.toList)) then eQ [.i 7] else (aB q fun y=>(bif ((gi y 0).iV != 0) then eQ [.i (gi y 0).iV] else (gd (ay h) (some (none,kp d 0 [.l,.l,.i] [.i h])))))))) else (aB q fun I=>(bif ((gi I 0).iV != 0) then eQ [.i (gi I 0).iV] else (gd (ay h) (some (none,kp d 0 [.l,.l,.i] [.i h]))))))))) else eR [])
def agR:br:=⟨4,[],⟨39,[(0,.s (.list [.str,.list au])),(9,.s (.list [.str,.list au])),(10,ak),(11,ak)],[]⟩,[],[⟨.ret,⟨39,w7,[]⟩,[]⟩,⟨.exit 0,⟨39,[],[]⟩,[]⟩],xE⟩
def agS:LT:=bH.add 0 agR
def agT:aT P 0 agS (be f33):=lA Sc (bI _ _ _)
def EH(d:LG):Option LG :=
 let g:=(lI (gi d 0).rZ); (bif (aO 100 g) then some [.i 2] else (ba true (bN xE [.l (gi d 0).rZ,.l (gi d 0).rZ,.i g,.i 0]) fun h k=>(bif aG h 0 then some [.i (gi k 0).iV] else some [.i 0])))
def agU:aL:=⟨33,[.s (.list [.str,.list au])],[],[],[ak],[],[],[],EH⟩
def t93:aD:=t92.bk agU
def agV:aI P t93:=tP Sc func33 agT

def EI(d:LG):Option LG :=
 (aB (oQ [.i (gi d 0).iV,.i 0,.i 3600000]) fun g=>(bif (!(gi g 0).bV) then some [.i 1] else some [.i 0]))
def agW:aL:=⟨34,[ak],[],[],[ak],[],[],[],EI⟩
def t94:aD:=t93.bk agW
def agX:aI P t94:=cU agV func34

def Sd(d:LG):Option LG :=
 some [.t ((gi (gi d 0).rV 0).sV.toList==(gi (gi d 1).rV 0).sV.toList)]
def agY:aL:=⟨68,[mM,.s (.cptr [.str])],[],[],[cN],[],[],[],Sd⟩
def t95:aD:=t94.bk agY
def Se:aI P t95:=cU agX func68

def sn(d:LG):Option (Option Nat × LG) :=
 (bif (aO (gi d 3).iV (gi d 2).iV) then (gd (nL (gi d 3).iV (lI (gi d 0).rZ)) (aB (Sd [.l [(aQ [.str,.list au] ((gi d 0).rZ.getD (((gi d 3).iV).toNat) []))],.l [[.s (gi (gi d 1).rV 0).sV]]]) fun g=>(bif (gi g 0).bV then eQ [.i (gi d 3).iV] else (gd (ay ((gi d 3).iV+1)) (nQ [.l (gi d 0).rZ,.l [[.s (gi (gi d 1).rV 0).sV]],.i (gi d 2).iV,.i ((gi d 3).iV+1)]))))) else eR [])
def agZ:br:=⟨2,[],⟨19,[(0,.s (.list [.str,.list au])),(1,.clo 68 [.cptr [.str]]),(7,ak),(8,ak)],[]⟩,[],[⟨.ret,⟨19,sc,[]⟩,[]⟩,⟨.exit 0,⟨19,[],[]⟩,[]⟩],sn⟩
def ag0:LT:=bH.add 0 agZ
def ag1:aT P 0 ag0 (be f67):=lA Se (bI _ _ _)
def EJ(d:LG):Option LG :=
 (ba true (bN sn [.l (gi d 0).rZ,.l [[.s (gi (gi d 1).rV 0).sV]],.i (lI (gi d 0).rZ),.i 0]) fun g h=>(bif aG g 0 then some [.i (gi h 0).iV] else some [.i (-1)]))
def ag2:aL:=⟨67,[.s (.list [.str,.list au]),.clo 68 [.cptr [.str]]],[],[],[ak],[],[],[],EJ⟩
def t96:aD:=t95.bk ag2
def Sf:aI P t96:=tP Se func67 ag1

def kK(d:LG):Option LG :=
 (aB (EJ [.l (gi d 0).rZ,.l [[.s (gi d 1).sV]]]) fun g=>some [.i (gi g 0).iV])
def ag3:aL:=⟨36,[.s (.list [.str,.list au]),bR],[],[],[ak],[],[],[],kK⟩
def t97:aD:=t96.bk ag3
def ag4:aI P t97:=Sf.aP (lZ hm (Sf.ka [67]) func36 (by kernel_rfl) (bI _ _ _) (fun d=>by kernel_rfl) (by kernel_rfl))

def EK(d:LG):Option LG :=
 (bif (gi d 0).bV then some [.i (gi d 1).iV] else some [.i 0])
def ag5:aL:=⟨35,[cN,ak],[],[],[ak],[],[],[],EK⟩
def t98:aD:=t97.bk ag5
def Sg:aI P t98:=cU ag4 func35

def uA(d:LG):Option (Option Nat × LG) :=
 let g:=gi ((gi d 0).rZ.getD (((gi d 2).iV).toNat) []) 0; (bif (aO (gi d 2).iV (gi d 1).iV) then (gd (nL (gi d 2).iV (lI (gi d 0).rZ)) (bif (g.iV != 0) then eQ [.i g.iV] else (gd (ay ((gi d 2).iV+1)) (nQ [.l (gi d 0).rZ,.i (gi d 1).iV,.i ((gi d 2).iV+1)])))) else eR [])
def ag6:br:=⟨2,[],⟨15,[(5,gQ),(6,ak),(7,ak)],[]⟩,[],[⟨.ret,⟨15,w7,[]⟩,[]⟩,⟨.exit 0,⟨15,[],[]⟩,[]⟩],uA⟩
def ag7:LT:=bH.add 0 ag6
def ag8:aT P 0 ag7 (be f32):=lA Sg (bI _ _ _)
def EL(d:LG):Option LG :=
 (ba true (bN uA [.l (gi d 0).rZ,.i (lI (gi d 0).rZ),.i 0]) fun g h=>(bif aG g 0 then some [.i (gi h 0).iV] else some [.i 0]))
def ag9:aL:=⟨32,[gQ],[],[],[ak],[],[],[],EL⟩
def t99:aD:=t98.bk ag9
def ag_:aI P t99:=tP Sg func32 ag8

def EM(d:LG):Option LG :=
 (aB (EH [.l (gi d 0).rZ]) fun g=>(aB (EI [.i (gi d 1).iV]) fun h=>(aB (kK [.l (gi d 0).rZ,.s (gi d 2).sV]) fun k=>(aB (EK [.t (aO (gi k 0).iV 0),.i 8]) fun q=>(aB (EL [.l [[.i (gi g 0).iV],[.i (gi h 0).iV],[.i (gi q 0).iV]]]) fun v=>some [.i (gi v 0).iV])))))
def ag':aL:=⟨10,[.s (.list [.str,.list au]),ak,bR],[],[],[ak],[],[],[],EM⟩
def t100:aD:=t99.bk ag'
def aha:aI P t100:=cU ag_ func10

def EN(d:LG):Option LG :=
 let g:=(gi (gi d 1).rV 1).rZ.getD (((gi (gi d 0).rV 0).iV).toNat) []; let h:=gi (gi d 0).rV 1; (gd (nL (gi (gi d 0).rV 0).iV (((gi (gi d 1).rV 1).rZ.length:Nat):Int)) (bif ((gi g 3).sV.toList==(gi (gi d 2).rV 3).sV.toList) then (bif ((gi g 2).sV.toList==(gi (gi d 2).rV 2).sV.toList) then (bif ((gi g 1).iV==(gi (gi d 2).rV 1).iV) then (bif (h.iV==1) then some [.t true] else (bif (h.iV==3) then some [.t true] else some [.t (h.iV==6)])) else some [.t false]) else some [.t false]) else some [.t false]))
def ahb:aL:=⟨70,[.s (.row dz),.s (.cptr [.str,.list au]),.s (.cptr au)],[],[],[cN],[],[],[],EN⟩
def t101:aD:=t100.bk ahb
def Si:aI P t101:=cU aha func70

def AT(d:LG):Option (Option Nat × LG) :=
 let g:=aQ [.str,.list au] (gi d 1).rV; let h:=aQ au (gi d 2).rV; (bif (aO (gi d 4).iV (gi d 3).iV) then (gd (nL (gi d 4).iV (lI (gi d 0).rZ)) (aB (EN [.l [(aQ dz ((gi d 0).rZ.getD (((gi d 4).iV).toNat) []))],.l [g],.l [h]]) fun k=>(bif (gi k 0).bV then eQ [.i (gi d 4).iV] else (gd (ay ((gi d 4).iV+1)) (nQ [.l (gi d 0).rZ,.l [g],.l [h],.i (gi d 3).iV,.i ((gi d 4).iV+1)]))))) else eR [])
def ahc:br:=⟨2,[],⟨19,[(0,.s (.list dz)),(1,.clo 70 [.cptr [.str,.list au],.cptr au]),(7,ak),(8,ak)],[]⟩,[],[⟨.ret,⟨19,sc,[]⟩,[]⟩,⟨.exit 0,⟨19,[],[]⟩,[]⟩],AT⟩
def ahd:LT:=bH.add 0 ahc
def ahe:aT P 0 ahd (be f89):=lA Si (bI _ _ _)
def Jz(d:LG):Option LG :=
 (ba true (bN AT [.l (gi d 0).rZ,.l [(aQ [.str,.list au] (gi d 1).rV)],.l [(aQ au (gi d 2).rV)],.i (lI (gi d 0).rZ),.i 0]) fun g h=>(bif aG g 0 then some [.i (gi h 0).iV] else some [.i (-1)]))
def ahf:aL:=⟨89,[.s (.list dz),.clo 70 [.cptr [.str,.list au],.cptr au]],[],[],[ak],[],[],[],Jz⟩
def t102:aD:=t101.bk ahf
def ahg:aI P t102:=tP Si func89 ahe

def EO(d:LG):Option LG :=
 (aB (Jz [.l (gi d 0).rZ,.l [(aQ [.str,.list au] (gi d 1).rV)],.l [(aQ au (gi d 2).rV)]]) fun g=>some [.t (bp 0 (gi g 0).iV)])
def ahh:aL:=⟨69,[.s (.list dz),.clo 70 [.cptr [.str,.list au],.cptr au]],[],[],[cN],[],[],[],EO⟩
def t103:aD:=t102.bk ahh
def Sj:aI P t103:=cU ahg func69

def qD(d:LG):Option (Option Nat × LG) :=
 let g:=(lI (gi d 1).rZ); (bif (aO (gi d 4).iV (gi d 3).iV) then (gd (nL (gi d 4).iV (lI (gi d 2).rZ)) (bif (bp g (gi d 4).iV) then eQ [.i 1] else (gd (nL (gi d 4).iV g) (aB (xc [.i (gi ((gi d 2).rZ.getD (((gi d 4).iV).toNat) []) 0).iV,.i (gi ((gi d 1).rZ.getD (((gi d 4).iV).toNat) []) 0).iV]) fun h=>(bif ((gi h 0).iV != 0) then eQ [.i (gi h 0).iV] else (gd (ay ((gi d 4).iV+1)) (some (none,kp d 0 [.l,.l,.l,.i] [.i ((gi d 4).iV+1)])))))))) else eR [.l (gi d 0).rZ,.l (gi d 1).rZ])
def ahi:br:=⟨2,[],⟨36,[(0,gQ),(1,gQ),(9,gQ),(10,ak),(11,ak)],[]⟩,[],[⟨.ret,⟨36,sc,[]⟩,[]⟩,⟨.exit 0,⟨36,[(0,gQ),(1,gQ)],[]⟩,[]⟩],qD⟩
def ahj:LT:=bH.add 0 ahi
def ahk:aT P 0 ahj (be f162):=lA Sj (bI _ _ _)
def EP(d:LG):Option LG :=
 (ba true (bN qD [.l (gi d 0).rZ,.l (gi d 1).rZ,.l (gi d 0).rZ,.i (lI (gi d 0).rZ),.i 0]) fun h g=>(bif aG h 0 then some [.i (gi g 0).iV] else (bif (aO (lI (gi g 0).rZ) (lI (gi g 1).rZ)) then some [.i (-1)] else some [.i 0])))
def ahl:aL:=⟨162,[gQ,gQ],[],[],[ak],[],[],[],EP⟩
def t104:aD:=t103.bk ahl
def ahm:aI P t104:=tP Sj func162 ahk

def JA(d:LG):Option LG :=
 (aB (EP [.l [[.i (gi (gi d 0).rV 0).iV],[.i (gi (gi d 0).rV 1).iV]],.l [[.i (gi (gi d 1).rV 0).iV],[.i (gi (gi d 1).rV 1).iV]]]) fun g=>some [.i (gi g 0).iV])
def ahn:aL:=⟨161,[.s (.row [.I,.I]),.s (.row [.I,.I])],[],[],[ak],[],[],[],JA⟩
def t105:aD:=t104.bk ahn
def Sk:aI P t105:=cU ahm func161

def uB(d:LG):Option (Option Nat × LG) :=
 let g:=(lI (gi d 1).rZ); (bif (aO (gi d 4).iV (gi d 3).iV) then (gd (nL (gi d 4).iV (lI (gi d 2).rZ)) (bif (bp g (gi d 4).iV) then eQ [.i 1] else (gd (nL (gi d 4).iV g) (aB (JA [.l [(aQ [.I,.I] ((gi d 2).rZ.getD (((gi d 4).iV).toNat) []))],.l [(aQ [.I,.I] ((gi d 1).rZ.getD (((gi d 4).iV).toNat) []))]]) fun h=>(bif ((gi h 0).iV != 0) then eQ [.i (gi h 0).iV] else (gd (ay ((gi d 4).iV+1)) (some (none,kp d 0 [.l,.l,.l,.i] [.i ((gi d 4).iV+1)])))))))) else eR [.l (gi d 0).rZ,.l (gi d 1).rZ])
def aho:br:=⟨2,[],⟨39,[(0,.s (.list [.I,.I])),(1,.s (.list [.I,.I])),(2,.s (.fn 161)),(11,.s (.list [.I,.I])),(12,ak),(13,ak)],[]⟩,[],[⟨.ret,⟨39,[(6,ak)],[]⟩,[]⟩,⟨.exit 0,⟨39,[(0,.s (.list [.I,.I])),(1,.s (.list [.I,.I]))],[]⟩,[]⟩],uB⟩
def ahp:LT:=bH.add 0 aho
def ahq:aT P 0 ahp (be f160):=lA Sk (bI _ _ _)
def ER(d:LG):Option LG :=
 (ba true (bN uB [.l (gi d 0).rZ,.l (gi d 1).rZ,.l (gi d 0).rZ,.i (lI (gi d 0).rZ),.i 0]) fun h g=>(bif aG h 0 then some [.i (gi g 0).iV] else (bif (aO (lI (gi g 0).rZ) (lI (gi g 1).rZ)) then some [.i (-1)] else some [.i 0])))
def ahr:aL:=⟨160,[.s (.list [.I,.I]),.s (.list [.I,.I]),.s (.fn 161)],[],[],[ak],[],[],[],ER⟩
def t106:aD:=t105.bk ahr
def ahs:aI P t106:=tP Sk func160 ahq

def xF(d:LG):Option LG :=
 let g:=(((gi (gi d 0).rV 0).rZ.length:Nat):Int); let h:=(((gi (gi d 1).rV 0).rZ.length:Nat):Int); (bif (g != h) then some [.t (aO h g)] else (bif ((gi (gi d 0).rV 1).iV != (gi (gi d 1).rV 1).iV) then some [.t (aO (gi (gi d 0).rV 1).iV (gi (gi d 1).rV 1).iV)] else (aB (ER [.l (gi (gi d 0).rV 0).rZ,.l (gi (gi d 1).rV 0).rZ]) fun k=>some [.t (aO (gi k 0).iV 0)])))
def aht:aL:=⟨135,[.s (.row [.list [.I,.I],.I]),.s (.row [.list [.I,.I],.I])],[],[],[cN],[],[],[],xF⟩
def t107:aD:=t106.bk aht
def ahu:aI P t107:=cU ahs func135

def AU(d:LG):Option LG :=
 let g:=(gi d 0).iV-(gi d 1).iV; let h:=(gi d 1).iV-(gi d 0).iV; (gd (ay g) (gd (ay h) (some [.i (if h>g then h else g)])))
def ahv:aL:=⟨73,[ak,ak],[],[],[ak],[],[],[],AU⟩
def t108:aD:=t107.bk ahv
def ahw:aI P t108:=cU ahu func73

def xG(d:LG):Option LG :=
 (bif ((gi (gi d 0).rV 2).sV.toList==(gi (gi d 1).rV 2).sV.toList) then (bif ((gi (gi d 0).rV 1).iV==(gi (gi d 1).rV 1).iV) then (aB (AU [.i (gi (gi d 0).rV 0).iV,.i (gi (gi d 1).rV 0).iV]) fun g=>some [.t (bp (gi g 0).iV (gi d 2).iV)]) else some [.t false]) else some [.t false])
def ahx:aL:=⟨41,[.s (.row au),.s (.row au),ak],[],[],[cN],[],[],[],xG⟩
def t109:aD:=t108.bk ahx
def AW:aI P t109:=cU ahw func41

end
end Go.Proofs.iQ
