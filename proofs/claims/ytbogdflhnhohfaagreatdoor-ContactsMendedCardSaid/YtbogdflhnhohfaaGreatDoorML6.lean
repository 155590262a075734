/-
 What is proved here: functions of the program as functions on data. No condition.
-/
import Derived.Test.YtbogdflhnhohfaaGreatDoorML5
set_option linter.all false
open Nat renaming beq->aG
namespace Go.Proofs.iQ
open Go Go.AL Go.Proofs Tryz
noncomputable section
def E8(d:LG):Option LG :=
 let g:=gi (gi d 0).rV 1; (bif (g.iV==2) then some [.t true] else (bif (g.iV==3) then some [.t true] else some [.t (g.iV==4)]))
def aiI:aL:=⟨40,[.s (.row dz)],[],[],[cN],[],[],[],E8⟩
def t128:aD:=t127.bk aiI
def JI:aI P t128:=cU aiH func40

def xM(d:LG):Option (Option Nat × LG) :=
 let h:=bE (gi d 2).rZ; let g:=(gi d 24).iV+1; let k:=(gi d 22).rZ.getD (((gi d 24).iV).toNat) []; (bif (aO (gi d 24).iV (gi d 23).iV) then (gd (nL (gi d 24).iV (lI (gi d 22).rZ)) (aB (xG [.l [(kp d 7 [.i,.i,.s,.s,.i,.i,.s,.s] [])],.l [(aQ au k)],.i (gi d 17).iV]) fun q=>(bif (gi q 0).bV then (aB (A4 [.s (gi k 3).sV,.s (gi d 16).sV]) fun v=>(aB (oQ [.i (gi v 0).iV,.i 1,.i 2]) fun y=>(bif (gi y 0).bV then (gd (ay g) (gd h (some (none,kp d 0 [.s,.l,.l,.i,.i,.s,.i,.i,.i,.s,.s,.i,.i,.s,.s,.l,.s,.i] (.s (gi d 10).sV::kp d 19 [.l,.i,.i,.l,.i] [.i g]))))) else (gd (ay g) (gd h (some (none,kp d 0 [.s,.l,.l,.i,.i,.s,.i,.i,.i,.s,.s,.i,.i,.s,.s,.l,.s,.i,.s,.l,.i,.i,.l,.i] [.i g]))))))) else (gd (ay g) (gd h (some (none,kp d 0 [.s,.l,.l,.i,.i,.s,.i,.i,.i,.s,.s,.i,.i,.s,.s,.l,.s,.i,.s,.l,.i,.i,.l,.i] [.i g]))))))) else (gd h (some (some 0,kp d 0 [.s,.l,.l,.i,.i,.s,.i] (kp d 15 [.l,.s,.i,.s,.l,.i,.i] [])))))
def aiJ:br:=⟨11,[],⟨80,[(0,.s (.list [.str,.list au])),(1,bR),(2,ak),(7,.s (.ptr 0 0)),(8,.s (.vQ 1 2)),(10,.s (.ptr 2 0)),(11,bR),(12,.s (.ptr 3 0)),(24,.s (.list dz)),(25,ak),(26,ak),(50,fK),(51,ak),(52,ak)],[.box [.str,.list au],.vQ [.str,.str] 0,.box [.I,.I,.str,.I],.box [.I,.I,.str,.str,.I,.I,.str,.str]]⟩,[.aq 7,.aq 8,.aq 10,.aq 12],[⟨.exit 2,⟨80,[(0,.s (.list [.str,.list au])),(1,bR),(2,ak),(7,.s (.ptr 0 0)),(8,.s (.vQ 1 2)),(10,.s (.ptr 2 0)),(11,bR),(24,.s (.list dz)),(25,ak),(26,ak)],[.box [.str,.list au],.vQ [.str,.str] 0,.box [.I,.I,.str,.I]]⟩,[.aq 7,.aq 8,.aq 10]⟩],xM⟩
def SL:LT:=bH.add 0 aiJ
def aiK:aT P 0 SL (be f13):=lA JI (bI _ _ _)
def xN(d:LG):Option (Option Nat × LG) :=
 let h:=(gi d 6).rZ.getD (((gi d 8).iV).toNat) []; let v:=(gi d 1).rZ.getD (((gi h 0).iV).toNat) []; let k:=aG (gi d 2).rZ.length (gi d 2).rZ.length; let q:=(gi d 8).iV+1; (bif (aO (gi d 8).iV (gi d 7).iV) then (gd (nL (gi d 8).iV (lI (gi d 6).rZ)) (aB (E8 [.l [(aQ dz h)]]) fun U=>(bif (!(gi U 0).bV) then (gd (ay q) (gd (k&&true) (some (none,kp d 0 [.s,.l,.l,.l,.s,.i,.l,.i] [.i q])))) else (gd (nL (gi h 0).iV (lI (gi d 1).rZ)) (bif ((gi h 1).iV==4) then (aB (kK [.l (gi d 3).rZ,.s (gi v 3).sV]) fun y=>let I:=gi ((gi d 3).rZ.getD (((gi y 0).iV).toNat) []) 1; (gd (nL (gi y 0).iV (lI (gi d 3).rZ)) (ba (k&&true) (bN xM (kp d 0 [.s,.l,.l] (kp h 0 [.i,.i,.s,.i] (kp v 0 [.i,.i,.s,.s,.i,.i,.s,.s] (kp d 3 [.l,.s,.i] (.s (gi d 4).sV::kp d 6 [.l,.i,.i] [.l I.rZ,.i (lI I.rZ),.i 0])))))) fun W g=>(aB (mN [.i (gi g 3).iV]) fun V=>let M:=((gi g 2).rZ++([[.s (gi V 0).sV,.s (gi g 10).sV]]:LL)); (gd ((aG (gi g 2).rZ.length (gi g 2).rZ.length)&&(decide (((gi g 2).rZ.length+1)<=1048576))) (gd (ay ((gi g 13).iV+1)) (gd (bE M) (some (none,.s (gi g 0).sV::.l (gi g 1).rZ::.l M::kp g 7 [.l,.s,.i] [.l (gi g 11).rZ,.i (gi g 12).iV,.i ((gi g 13).iV+1)]))))))))) else (aB (mN [.i (gi h 0).iV]) fun O=>let N:=((gi d 2).rZ++([[.s (gi O 0).sV,.s (gi d 4).sV]]:LL)); (gd (k&&(decide (((gi d 2).rZ.length+1)<=1048576))) (gd (ay q) (gd (bE N) (some (none,.s (gi d 0).sV::.l (gi d 1).rZ::.l N::kp d 3 [.l,.s,.i,.l,.i] [.i q]))))))))))) else (gd (k&&true) (eQ [.l (gi d 2).rZ])))
def aiL:br:=⟨4,[(8,[.str,.str])],⟨80,[(0,.s (.list [.str,.list au])),(1,bR),(2,ak),(7,.s (.ptr 0 0)),(8,.s (.vQ 1 2)),(24,.s (.list dz)),(25,ak),(26,ak)],[.box [.str,.list au],.vQ [.str,.str] 0]⟩,[.aq 7,.aq 8],[⟨.exit 0,⟨80,[(8,.s (.vQ 0 2))],[.vQ [.str,.str] 0]⟩,[.aq 8]⟩],xN⟩
def aiM:LT:=SL.add 0 aiL
def aiN:aT P 0 aiM (be f13):=lA JI aiK
def E9(d:LG):Option LG :=
 (aB (kK [.l (gi d 0).rZ,.s (gi d 1).sV]) fun h=>let k:=(gi d 0).rZ.getD (((gi h 0).iV).toNat) []; (gd (nL (gi h 0).iV (lI (gi d 0).rZ)) (aB (xK (kp d 0 [.l,.s,.i] [])) fun q=>(ba true (bN xN (.s (gi k 0).sV::.l (gi k 1).rZ::.l []::kp d 0 [.l,.s,.i] [.l (gi q 0).rZ,.i (lI (gi q 0).rZ),.i 0])) fun v g=>(gd (bE (gi g 0).rZ) (some [.l (gi g 0).rZ]))))))
def aiO:aL:=⟨13,[.s (.list [.str,.list au]),bR,ak],[],[],[.s (.list [.str,.str])],[],[],[],E9⟩
def t129:aD:=t128.bk aiO
def SM:aI P t129:=tP JI func13 aiN

def A'(d:LG):Option (Option Nat × LG) :=
 (bif (aO (gi d 3).iV (gi d 2).iV) then (gd (nL (gi d 3).iV (lI (gi d 0).rZ)) (gd (nL (gi d 3).iV (lI (gi d 1).rZ)) (bif (!(bq au (aQ au ((gi d 0).rZ.getD (((gi d 3).iV).toNat) [])) (aQ au ((gi d 1).rZ.getD (((gi d 3).iV).toNat) [])))) then eQ [.t false] else (gd (ay ((gi d 3).iV+1)) (some (none,kp d 0 [.l,.l,.i] [.i ((gi d 3).iV+1)])))))) else eR [])
def aiP:br:=⟨4,[],⟨26,[(0,fK),(1,fK),(12,ak),(13,ak)],[]⟩,[],[⟨.ret,⟨26,[(4,cN)],[]⟩,[]⟩,⟨.exit 0,⟨26,[],[]⟩,[]⟩],A'⟩
def aiQ:LT:=bH.add 0 aiP
def aiR:aT P 0 aiQ (be f14):=lA SM (bI _ _ _)
def uC(d:LG):Option LG :=
 let g:=(lI (gi d 0).rZ); (bif (g != (lI (gi d 1).rZ)) then some [.t false] else (ba true (bN A' [.l (gi d 0).rZ,.l (gi d 1).rZ,.i g,.i 0]) fun h k=>(bif aG h 0 then some [.t (gi k 0).bV] else some [.t true])))
def aiS:aL:=⟨14,[fK,fK],[],[],[cN],[],[],[],uC⟩
def t130:aD:=t129.bk aiS
def SN:aI P t130:=tP SM func14 aiR

def Ba(d:LG):Option (Option Nat × LG) :=
 (bif (aO (gi d 3).iV (gi d 2).iV) then (gd (nL (gi d 3).iV (lI (gi d 0).rZ)) (gd (nL (gi d 3).iV (lI (gi d 1).rZ)) (bif (!(bq [.str,.str] (aQ [.str,.str] ((gi d 0).rZ.getD (((gi d 3).iV).toNat) [])) (aQ [.str,.str] ((gi d 1).rZ.getD (((gi d 3).iV).toNat) [])))) then eQ [.t false] else (gd (ay ((gi d 3).iV+1)) (some (none,kp d 0 [.l,.l,.i] [.i ((gi d 3).iV+1)])))))) else eR [])
def aiT:br:=⟨4,[],⟨26,[(0,.s (.list [.str,.str])),(1,.s (.list [.str,.str])),(12,ak),(13,ak)],[]⟩,[],[⟨.ret,⟨26,[(4,cN)],[]⟩,[]⟩,⟨.exit 0,⟨26,[],[]⟩,[]⟩],Ba⟩
def aiU:LT:=bH.add 0 aiT
def aiV:aT P 0 aiU (be f15):=lA SN (bI _ _ _)
def Bb(d:LG):Option LG :=
 let g:=(lI (gi d 0).rZ); (bif (g != (lI (gi d 1).rZ)) then some [.t false] else (ba true (bN Ba [.l (gi d 0).rZ,.l (gi d 1).rZ,.i g,.i 0]) fun h k=>(bif aG h 0 then some [.t (gi k 0).bV] else some [.t true])))
def aiW:aL:=⟨15,[.s (.list [.str,.str]),.s (.list [.str,.str])],[],[],[cN],[],[],[],Bb⟩
def t131:aD:=t130.bk aiW
def aiX:aI P t131:=tP SN func15 aiV

def JJ(d:LG):Option LG :=
 (aB (kg (kp d 0 [.l,.s,.i] [])) fun g=>some [.l (gi g 0).rZ,.i (gi g 2).iV])
def aiY:aL:=⟨44,[.s (.list [.str,.list au]),bR,ak],[],[],[.s (.list dz),ak],[],[],[],JJ⟩
def t132:aD:=t131.bk aiY
def aiZ:aI P t132:=cU aiX func44

def Bc(d:LG):Option LG :=
 let h:=(⟨#[107,49,97,98]⟩:BY); let g:=(⟨#[]⟩:BY); let q:=(⟨#[119,49,97,119]⟩:BY); (aB (JJ [.l [[.s h,.l [[.i 5,.i 1,.s (⟨#[98]⟩:BY),.s q,.i 1,.i 2,.s g,.s g]]],[.s q,.l [[.i 9,.i 1,.s (⟨#[98]⟩:BY),.s h,.i 2,.i 1,.s g,.s g]]]],.s h,.i 4]) fun k=>let v:=(lI (gi k 0).rZ); (bif ((gi k 1).iV==0) then (bif (v==1) then (gd (aO 0 v) (some [.t ((gi ((gi k 0).rZ.getD 0 []) 1).iV==1)])) else some [.t false]) else some [.t false]))
def ai0:aL:=⟨16,[],[],[],[cN],[],[],[],Bc⟩
def t133:aD:=t132.bk ai0
def SO:aI P t133:=tP aiZ func16 (pt [(3,[.Dn 1 1 au,.Dn 2 1 au])])

def JK(d:LG):Option LG :=
 (aB (D9 [.l (gi d 0).rZ,.i 0]) fun g=>(aB (D_ [.l (gi g 0).rZ,.i (gi g 1).iV]) fun h=>(aB (jg [.l (gi h 0).rZ,.i (gi h 1).iV,.l [[.s (⟨#[107,49,97,98]⟩:BY)],[.s (⟨#[111,104,50,97,98,99]⟩:BY)],[.s (⟨#[111,104,50,97,98,100]⟩:BY)],[.s (⟨#[122,122]⟩:BY)]]]) fun k=>(aB (xz [.l (gi g 2).rZ,.s (gi k 2).sV,.i (gi h 2).iV]) fun v=>(aB (xB [.l (gi g 2).rZ,.s (gi k 2).sV,.i (gi h 2).iV]) fun y=>(aB (xD [.l (gi g 2).rZ,.s (gi k 2).sV,.i (gi h 2).iV]) fun I=>(aB (EM [.l (gi g 2).rZ,.i (gi h 2).iV,.s (gi k 2).sV]) fun q=>let M:=(gi v 1).iV==(gi q 0).iV; let N:=(gi y 1).iV==(gi q 0).iV; let O:=(gi I 1).iV==(gi q 0).iV; (bif ((gi q 0).iV==0) then (aB (E4 [.l (gi g 2).rZ,.s (gi k 2).sV,.i (gi h 2).iV]) fun g8=>(aB (E7 [.l (gi g 2).rZ,.s (gi k 2).sV,.i (gi h 2).iV]) fun g9=>(aB (E9 [.l (gi g 2).rZ,.s (gi k 2).sV,.i (gi h 2).iV]) fun U=>(bif M then (aB (uC [.l (gi v 0).rZ,.l (gi g8 0).rZ]) fun V=>(bif (gi V 0).bV then (bif N then (aB (uC [.l (gi y 0).rZ,.l (gi g9 0).rZ]) fun W=>(bif (gi W 0).bV then (bif O then (aB (Bb [.l (gi I 0).rZ,.l (gi U 0).rZ]) fun g13=>(bif (gi g13 0).bV then (aB (Bc []) fun g14=>some [.t (gi g14 0).bV]) else some [.t false])) else some [.t false]) else some [.t false])) else some [.t false]) else some [.t false])) else some [.t false])))) else (bif M then (aB (uC [.l (gi v 0).rZ,.l []]) fun g15=>(bif (gi g15 0).bV then (bif N then (aB (uC [.l (gi y 0).rZ,.l []]) fun g16=>(bif (gi g16 0).bV then (bif O then (aB (Bb [.l (gi I 0).rZ,.l []]) fun g17=>(bif (gi g17 0).bV then (aB (Bc []) fun g18=>some [.t (gi g18 0).bV]) else some [.t false])) else some [.t false]) else some [.t false])) else some [.t false]) else some [.t false])) else some [.t false])))))))))
def SP:aL:=⟨3,[gQ],[],[],[cN],[],[],[],JK⟩
def SQ:iO P SP:=jR hm SO func3 (bI _ _ _) (fun d=>by kernel_rfl)
def t134:aD:=t133.bk SP
def am8:aI P t134:=SO.aP SQ

end
end Go.Proofs.iQ
