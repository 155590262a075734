/-
 What is proved here: functions of the program as functions on data. No condition.
-/
import Derived.Test.YtmhkodhaodcfdaaGreatDoorML3
set_option linter.all false
open Go.Lib renaming indexByte->eN
open Go.Op renaming bytesLess->fA
open Int renaming tmod->dS,tdiv->eW
open Nat renaming beq->aH,ble->bf
namespace Go.Proofs.jL
open Go Go.AL Go.Proofs Tryz
noncomputable section
def D0(d:LG):Option LG :=
 let a:=(⟨#[]⟩:BY); let B:=(⟨#[53,57]⟩:BY); let V:=(⟨#[50,51]⟩:BY); (aj (DX [.s (gi d 0).sV]) fun b=>let g:=gi ((gi b 0).rZ.getD 4 []) 0; let z5:=(lI (gi b 0).rZ); let y:=gi ((gi b 0).rZ.getD 5 []) 0; let F:=((g.sV.size:Nat):Int); let W:=g.sV.extract 4 g.sV.size; (bif (!(gi b 1).bV) then some [.l [[.i 0,.i 0,.s a,.s a,.i 0,.i 0,.s a,.s a]],.i 0,.t false] else (bif (z5 != 10) then some [.l [[.i 0,.i 0,.s a,.s a,.i 0,.i 0,.s a,.s a]],.i 0,.t false] else (gd (aK 0 z5) (bif (!((gi ((gi b 0).rZ.getD 0 []) 0).sV.toList==(⟨#[81,83,79,58]⟩:BY).toList)) then some [.l [[.i 0,.i 0,.s a,.s a,.i 0,.i 0,.s a,.s a]],.i 0,.t false] else (gd (aK 1 z5) (aj (zY [.s (gi ((gi b 0).rZ.getD 1 []) 0).sV,.i 15]) fun v=>(gd (aK 3 z5) (aj (DZ [.s (gi ((gi b 0).rZ.getD 3 []) 0).sV]) fun X=>let Y:=(gi X 0).iV*86400000; (gd (aK 4 z5) (bif (F != 6) then some [.l [[.i 0,.i 0,.s a,.s a,.i 0,.i 0,.s a,.s a]],.i 0,.t false] else (aj (tS [.s g.sV,.s (⟨#[48,49,50,51,52,53,54,55,56,57]⟩:BY)]) fun g4=>(bif (!(gi g4 0).bV) then some [.l [[.i 0,.i 0,.s a,.s a,.i 0,.i 0,.s a,.s a]],.i 0,.t false] else (gd (aR 2 F) (bif (!((fA (g.sV.extract 0 2).toList V.toList)||((g.sV.extract 0 2).toList==V.toList))) then some [.l [[.i 0,.i 0,.s a,.s a,.i 0,.i 0,.s a,.s a]],.i 0,.t false] else (gd (aR 4 F) (bif (!((fA (g.sV.extract 2 4).toList B.toList)||((g.sV.extract 2 4).toList==B.toList))) then some [.l [[.i 0,.i 0,.s a,.s a,.i 0,.i 0,.s a,.s a]],.i 0,.t false] else (gd (aR 4 F) (bif (!((fA W.toList B.toList)||(W.toList==B.toList))) then some [.l [[.i 0,.i 0,.s a,.s a,.i 0,.i 0,.s a,.s a]],.i 0,.t false] else (gd (bf (1+g.sV.size) 9223372036854775807) (aj (lY [.s ((⟨#[49]⟩:BY)++g.sV)]) fun N=>let O:=eW (gi N 0).iV 10000; let U:=eW (gi N 0).iV 100; let I:=(dS O 100)*3600; let J:=(dS U 100)*60; let M:=(I+J)+(dS (gi N 0).iV 100); let h:=Y+(M*1000); (aj (zB []) fun g6=>(gd (aK 2 z5) (aj (ue [.l (gi g6 0).rZ,.s (gi ((gi b 0).rZ.getD 2 []) 0).sV]) fun w=>(gd (aK 5 z5) (gd (aK 7 z5) (aj (zZ [.s (gi ((gi b 0).rZ.getD 7 []) 0).sV]) fun z=>(gd (aK 9 z5) (aj (zZ [.s (gi ((gi b 0).rZ.getD 9 []) 0).sV]) fun A=>(gd (aF Y) (gd (aF O) (gd (aF I) (gd (aF U) (gd (aF J) (gd (aF (I+J)) (gd (aF M) (gd (aF (M*1000)) (gd (aF h) (gd (aK 6 z5) (aj (z_ [.s (gi ((gi b 0).rZ.getD 6 []) 0).sV]) fun k=>(gd (aK 8 z5) (aj (z_ [.s (gi ((gi b 0).rZ.getD 8 []) 0).sV]) fun q=>(bif (gi v 1).bV then (bif (gi X 1).bV then (bif (gi k 1).bV then (bif (gi q 1).bV then some [.l [[.i h,.i (gi w 0).iV,.s a,.s y.sV,.i (gi k 0).iV,.i (gi q 0).iV,.s (gi z 0).sV,.s (gi A 0).sV]],.i (gi v 0).iV,.t (aK 0 (gi w 0).iV)] else some [.l [[.i h,.i (gi w 0).iV,.s a,.s y.sV,.i (gi k 0).iV,.i (gi q 0).iV,.s (gi z 0).sV,.s (gi A 0).sV]],.i (gi v 0).iV,.t false]) else some [.l [[.i h,.i (gi w 0).iV,.s a,.s y.sV,.i (gi k 0).iV,.i (gi q 0).iV,.s (gi z 0).sV,.s (gi A 0).sV]],.i (gi v 0).iV,.t false]) else some [.l [[.i h,.i (gi w 0).iV,.s a,.s y.sV,.i (gi k 0).iV,.i (gi q 0).iV,.s (gi z 0).sV,.s (gi A 0).sV]],.i (gi v 0).iV,.t false]) else some [.l [[.i h,.i (gi w 0).iV,.s a,.s y.sV,.i (gi k 0).iV,.i (gi q 0).iV,.s (gi z 0).sV,.s (gi A 0).sV]],.i (gi v 0).iV,.t false])))))))))))))))))))))))))))))))))))))))))))
def aeR:aM:=⟨70,[aS],[],[],[.s (.row bI),az,bP],[],[],[],D0⟩
def t127:aJ:=t126.aZ aeR
def aeS:aL P t127:=tP aeQ func70 (CR [(10,[.hole bI])])

def D1(d:LG):Option LG :=
 let g:=((bE (gi d 4).rZ)&&true)&&true; let v:=(aH (gi d 4).rZ.length (gi d 4).rZ.length)&&(decide (((gi d 4).rZ.length+1)<=1048576)); let b:=(gi d 0).iV+1; let k:=(⟨#[]⟩:BY); (gd (aF b) (bif ((gi d 6).sV.toList==k.toList) then (gd g (some (.i b::kp d 1 [.t,.s,.t,.l,.t] [.t true]))) else (bif (!(gi d 1).bV) then (aj (ud [.s (gi d 6).sV,.s (⟨#[67,65,76,76,58,32]⟩:BY)]) fun h=>(bif (gi h 1).bV then (bif (!((gi h 0).sV.toList==k.toList)) then (aj (tT [.s (gi h 0).sV,.s (⟨#[32]⟩:BY)]) fun N=>(gd g (some (.i b::.t true::.s (gi h 0).sV::kp d 3 [.t,.l,.t] [.t (!(gi N 0).bV)])))) else (gd g (some (.i b::.t true::.s (gi h 0).sV::kp d 3 [.t,.l,.t] [.t false])))) else (gd g (some (.i b::.t true::.s (gi h 0).sV::kp d 3 [.t,.l,.t] [.t false]))))) else (bif (gi d 3).bV then (gd g (some (.i b::kp d 1 [.t,.s,.t,.l,.t] [.t false]))) else (bif ((gi d 6).sV.toList==(⟨#[69,78,68]⟩:BY).toList) then (gd g (some [.i b,.t (gi d 1).bV,.s (gi d 2).sV,.t true,.l (gi d 4).rZ,.t (gi d 5).bV,.t true])) else (aj (D0 [.s (gi d 6).sV]) fun a=>let z5:=((gi d 4).rZ++([(bF bI (gi a 0).rV)]:LL)); let q:=(gi (gi a 0).rV 2).sV.toList==k.toList; let z:=((bE z5)&&true)&&true; let O:=gi (gi a 0).rV 0; let U:=gi (gi a 0).rV 1; let B:=gi (gi a 0).rV 3; let F:=gi (gi a 0).rV 4; let I:=gi (gi a 0).rV 5; let J:=gi (gi a 0).rV 6; let M:=gi (gi a 0).rV 7; (bif (!(gi a 2).bV) then (gd g (some (.i b::kp d 1 [.t,.s,.t,.l,.t] [.t false]))) else (bif (aR 0 (gi a 1).iV) then (bif (aR (gi a 1).iV 30000000) then (gd (aF (1000*(gi a 1).iV)) (aj (zX [.l (gi (gi d 7).rV 0).rZ,.i (1000*(gi a 1).iV)]) fun A=>let w:=((gi d 4).rZ++([[.i O.iV,.i U.iV,.s (gi A 0).sV,.s B.sV,.i F.iV,.i I.iV,.s J.sV,.s M.sV]]:LL)); let y:=(gi A 0).sV.toList==k.toList; (gd v (gd (((bE w)&&true)&&true) (some (.i b::kp d 1 [.t,.s,.t] [.l w,.t y,.t (!y)])))))) else (gd v (gd z (some (.i b::kp d 1 [.t,.s,.t] [.l z5,.t q,.t (!q)]))))) else (gd v (gd z (some (.i b::kp d 1 [.t,.s,.t] [.l z5,.t q,.t (!q)]))))))))))))
def aeT:aM:=⟨67,[aS,.s (.ptr 0 0),.s (.ptr 1 0),.s (.ptr 2 0),.s (.ptr 3 0),.s (.cptr [.list cw]),.s (.ptr 4 0),.s (.ptr 6 0)],[.box [.I],.box [.bool],.box [.str],.box [.bool],.box [.vQ 5 8],.vQ bI 0,.box [.bool]],[.aO 1,.aO 2,.aO 3,.aO 4,.aO 6,.cell 4 0,.aO 7],[bP],[.box [.I],.box [.bool],.box [.str],.box [.bool],.box [.vQ 5 8],.vQ bI 1,.box [.bool]],[.fix 0,.fix 1,.fix 2,.fix 3,.fix 4,.fix 5,.fix 6],[],D1⟩
def t128:aJ:=t127.dK aeT
def Qv:aL P t128:=kE aeS func67

def r8(d:LG):Option (Option Nat × LG) :=
 let b:=((bE (gi d 5).rZ)&&true)&&true; (bif (!((gi d 7).sV.toList==(⟨#[]⟩:BY).toList)) then (aj (oR [.s (gi d 7).sV,.s (⟨#[10]⟩:BY)]) fun g=>let h:=D1 (kp d 0 [.i,.t,.s,.t] [.l (gi d 5).rZ,.t (gi d 6).bV,.s (gi g 0).sV,.l [[.l (gi d 4).rZ]]]); (bif (!(gi g 2).bV) then (gd b (some (some 0,kp d 0 [.i,.t,.s,.t,.l,.l,.t] [.i (gi d 8).iV,.t false]))) else (iY (b&&h.isSome) h fun a=>let k:=((bE (gi a 4).rZ)&&true)&&true; (bif (!(gi a 6).bV) then (gd k (some (some 0,kp a 0 [.i,.t,.s,.t] [.l (gi d 4).rZ,.l (gi a 4).rZ,.t (gi a 5).bV,.i (gi d 8).iV,.t false]))) else (gd (aF ((gi d 8).iV+1)) (gd k (some (none,kp a 0 [.i,.t,.s,.t] [.l (gi d 4).rZ,.l (gi a 4).rZ,.t (gi a 5).bV,.s (gi g 1).sV,.i ((gi d 8).iV+1)])))))))) else (gd b (some (some 1,kp d 0 [.i,.t,.s,.t,.l,.l,.t] []))))
def aeU:bS:=⟨2,[],⟨30,[(0,aS),(1,.clo 67 [.ptr 0 0,.ptr 1 0,.ptr 2 0,.ptr 3 0,.ptr 4 0,.ptr 5 0,.ptr 7 0]),(6,az)],Io⟩,[.fix 0,.fix 1,.fix 2,.fix 3,.fix 4,.fix 5,.cell 5 0,.fix 7],[⟨.ret,⟨30,[(4,az),(5,bP)],Io⟩,[.fix 0,.fix 1,.fix 2,.fix 3,.fix 4,.fix 5,.cell 5 0,.fix 7]⟩,⟨.exit 0,⟨30,[],Io⟩,[.fix 0,.fix 1,.fix 2,.fix 3,.fix 4,.fix 5,.cell 5 0,.fix 7]⟩],r8⟩
def aeV:LT:=dc.add 8 aeU
def aeW:ba P 8 aeV (bp f66):=lA Qv (dx _ _ _)
def D2(d:LG):Option LG :=
 (bT (((bE (gi d 5).rZ)&&true)&&true) (cd r8 (kp d 0 [.i,.t,.s,.t,.l,.l,.t,.s] [.i 0])) fun g a=>let b:=((bE (gi a 5).rZ)&&true)&&true; (bif aH g 0 then (gd b (some (kp a 0 [.i,.t,.s,.t,.l,.l,.t,.i,.t] []))) else (gd b (some (kp a 0 [.i,.t,.s,.t,.l,.l,.t] [.i 0,.t true])))))
def aeX:aM:=⟨66,[aS,.clo 67 [.ptr 0 0,.ptr 1 0,.ptr 2 0,.ptr 3 0,.ptr 4 0,.ptr 5 0,.ptr 7 0]],[.box [.I],.box [.bool],.box [.str],.box [.bool],.box [.list cw],.box [.vQ 6 8],.vQ bI 0,.box [.bool]],[.cap 1 0,.cap 1 1,.cap 1 2,.cap 1 3,.cap 1 4,.cap 1 5,.cell 5 0,.cap 1 6],[az,bP],[.box [.I],.box [.bool],.box [.str],.box [.bool],.box [.list cw],.box [.vQ 6 8],.vQ bI 1,.box [.bool]],[.fix 0,.fix 1,.fix 2,.fix 3,.fix 4,.fix 5,.fix 6,.fix 7],[],D2⟩
def t129:aJ:=t128.dK aeX
def Qw:aL P t129:=tW Qv func66 aeW

def Qx(d:LG):Option (Option Nat × LG) :=
 (bif (aK (gi d 3).iV (gi d 2).iV) then (gd (nL (gi d 3).iV (lI (gi d 0).rZ)) (gd (nL (gi d 3).iV (lI (gi d 1).rZ)) (bif (!(kz bI (bF bI ((gi d 0).rZ.getD (((gi d 3).iV).toNat) [])) (bF bI ((gi d 1).rZ.getD (((gi d 3).iV).toNat) [])))) then eQ [.t false] else (gd (aF ((gi d 3).iV+1)) (some (none,kp d 0 [.l,.l,.i] [.i ((gi d 3).iV+1)])))))) else eR [])
def aeY:bS:=⟨4,[],⟨26,[(0,gT),(1,gT),(12,az),(13,az)],[]⟩,[],[⟨.ret,⟨26,[(4,bP)],[]⟩,[]⟩,⟨.exit 0,⟨26,[],[]⟩,[]⟩],Qx⟩
def aeZ:LT:=dc.add 0 aeY
def ae0:ba P 0 aeZ (bp f20):=lA Qw (dx _ _ _)
def D3(d:LG):Option LG :=
 let a:=(lI (gi d 0).rZ); (bif (a != (lI (gi d 1).rZ)) then some [.t false] else (bT true (cd Qx [.l (gi d 0).rZ,.l (gi d 1).rZ,.i a,.i 0]) fun b g=>(bif aH b 0 then some [.t (gi g 0).bV] else some [.t true])))
def ae1:aM:=⟨20,[gT,gT],[],[],[bP],[],[],[],D3⟩
def t130:aJ:=t129.aZ ae1
def ae2:aL P t130:=tP Qw func20 ae0

def Qy(d:LG):Option LG :=
 (aj (DE [.s (gi d 0).sV]) fun a=>some [.s (gi (gi a 0).rV 0).sV])
def ae3:aM:=⟨155,[aS],[],[],[aS],[],[],[],Qy⟩
def t131:aJ:=t130.aZ ae3
def Qz:aL P t131:=bL ae2 func155

def QA(d:LG):Option (Option Nat × LG) :=
 let a:=(gi d 3).rZ.getD (((gi d 5).iV).toNat) []; let k:=((gi d 2).rZ++([[.i (gi d 5).iV]]:LL)); let g:=aH (gi d 2).rZ.length (gi d 2).rZ.length; let b:=(gi d 5).iV+1; (bif (aK (gi d 5).iV (gi d 4).iV) then (gd (nL (gi d 5).iV (lI (gi d 3).rZ)) (aj (Qy [.s (gi a 3).sV]) fun h=>let z5:=(((nR [.str,.str,.I] (gi d 0).rZ [.s (gi h 0).sV,.s (gi a 2).sV,.i (gi a 1).iV] (gi d 1).iV.toNat):Nat):Int); let q:=ye [.str,.str,.I] (gi d 0).rZ [.s (gi h 0).sV,.s (gi a 2).sV,.i (gi a 1).iV] [.t true] (gi d 1).iV.toNat; (bif (gi (tn [.str,.str,.I] (gi d 0).rZ [.s (gi h 0).sV,.s (gi a 2).sV,.i (gi a 1).iV] [.t false]) 0).bV then (gd (g&&(decide (((gi d 2).rZ.length+1)<=1048576))) (gd (aF b) (gd (bE k) (nQ [.l q,.i z5,.l k,.l (gi d 3).rZ,.i (gi d 4).iV,.i b])))) else (gd (aF b) (gd (g&&true) (some (none,.l q::.i z5::kp d 2 [.l,.l,.i] [.i b]))))))) else (gd (g&&true) (eQ [.l (gi d 2).rZ])))
def ae4:bS:=⟨4,[(4,[.I])],⟨35,[(3,.s (.map 0)),(4,.s (.vQ 1 1)),(9,gT),(10,az),(11,az)],[.map (.agg [.str,.str,.I]) (.one (.bool)),.vQ [.I] 0]⟩,[.aO 3,.aO 4],[⟨.exit 0,⟨35,[(4,.s (.vQ 0 1))],[.vQ [.I] 0]⟩,[.aO 4]⟩],QA⟩
def ae5:LT:=(dc.CQ [(6,[.hole [.str,.str,.I]])]).add 0 ae4
def ae6:ba P 0 ae5 (bp f113):=lA Qz (CR _)
def QB(d:LG):Option LG :=
 (bT true (cd QA [.l [],.i 0,.l [],.l (gi d 0).rZ,.i (lI (gi d 0).rZ),.i 0]) fun b a=>(gd (bE (gi a 0).rZ) (some [.l (gi a 0).rZ])))
def ae7:aM:=⟨113,[gT],[],[],[mP],[],[],[],QB⟩
def t132:aJ:=t131.aZ ae7
def ae8:aL P t132:=tP Qz func113 ae6

def QC(d:LG):Option LG :=
 (aj (wJ [.l (gi d 0).rZ]) fun a=>(bif ((gi a 0).iV != 0) then some [.l [],.i (gi a 0).iV] else (aj (QB [.l (gi d 0).rZ]) fun b=>some [.l (gi b 0).rZ,.i 0])))
def ae9:aM:=⟨74,[gT],[],[],[mP,az],[],[],[],QC⟩
def t133:aJ:=t132.aZ ae9
def QD:aL P t133:=bL ae8 func74

def QE(d:LG):Option (Option Nat × LG) :=
 (bif (aK (gi d 3).iV (gi d 2).iV) then (gd (nL (gi d 3).iV (lI (gi d 0).rZ)) (gd (nL (gi d 3).iV (lI (gi d 1).rZ)) (bif ((gi ((gi d 0).rZ.getD (((gi d 3).iV).toNat) []) 0).iV != (gi ((gi d 1).rZ.getD (((gi d 3).iV).toNat) []) 0).iV) then eQ [.t false] else (gd (aF ((gi d 3).iV+1)) (some (none,kp d 0 [.l,.l,.i] [.i ((gi d 3).iV+1)])))))) else eR [])
def ae_:bS:=⟨4,[],⟨26,[(0,mP),(1,mP),(12,az),(13,az)],[]⟩,[],[⟨.ret,⟨26,[(4,bP)],[]⟩,[]⟩,⟨.exit 0,⟨26,[],[]⟩,[]⟩],QE⟩
def ae':LT:=dc.add 0 ae_
def afa:ba P 0 ae' (bp f75):=lA QD (dx _ _ _)
def QF(d:LG):Option LG :=
 let a:=(lI (gi d 0).rZ); (bif (a != (lI (gi d 1).rZ)) then some [.t false] else (bT true (cd QE [.l (gi d 0).rZ,.l (gi d 1).rZ,.i a,.i 0]) fun b g=>(bif aH b 0 then some [.t (gi g 0).bV] else some [.t true])))
def afb:aM:=⟨75,[mP,mP],[],[],[bP],[],[],[],QF⟩
def t134:aJ:=t133.aZ afb
def afc:aL P t134:=tP QD func75 afa

def D4(d:LG):Option LG :=
 let a:=(⟨#[]⟩:BY); let b:=(⟨#[107,49,97,98]⟩:BY); (aj (QC [.l [[.i 0,.i 1,.s (⟨#[98]⟩:BY),.s b,.i 0,.i 0,.s a,.s a],[.i 5,.i 1,.s (⟨#[98]⟩:BY),.s b,.i 0,.i 0,.s a,.s a]]]) fun g=>(bif ((gi g 1).iV==0) then (aj (QF [.l (gi g 0).rZ,.l [[.i 1]]]) fun h=>some [.t (gi h 0).bV]) else some [.t false]))
def afd:aM:=⟨21,[],[],[],[bP],[],[],[],D4⟩
def t135:aJ:=t134.aZ afd
def afe:aL P t135:=bL afc func21

attribute [instance] Tt
def aff:aL P t135:=afe.qi
def Ah(d:LG):Option LG :=
 C6 d
def QG:aM:=⟨177,[aS,aS],[],[],[bP],[],[],[],Ah⟩
def afg:gR P QG:=fun d r h=>YD rfl Tryz.Zi (by kernel_rfl) d r h
def t136:aJ:=t135.aZ QG
def afh:aL P t136:=aff.aP afg

def Ai(d:LG):Option LG :=
 (aj (wC [.i (((gi d 0).sV.size:Nat):Int),.i (gi d 1).iV,.i (gi d 2).iV]) fun a=>(bif (gi a 0).bV then (aj (lV [.s (gi d 0).sV,.s (⟨#[97,98,99,100,101,102,103,104,105,106,107,108,109,110,111,112,113,114,115,116,117,118,119,120,121,122,48,49,50,51,52,53,54,55,56,57]⟩:BY)]) fun b=>(bif ((gi b 0).sV.toList==(⟨#[]⟩:BY).toList) then (aj (Ah [.s (gi d 0).sV,.s (⟨#[97,98,99,100,101,102,103,104,105,106,107,108,109,110,111,112,113,114,115,116,117,118,119,120,121,122]⟩:BY)]) fun g=>some [.t (gi g 0).bV]) else some [.t false])) else some [.t false]))
def afi:aM:=⟨175,[aS,az,az],[],[],[bP],[],[],[],Ai⟩
def t137:aJ:=t136.aZ afi
def afj:aL P t137:=bL afh func175

def wN(d:LG):Option LG :=
 let b:=(((gi d 0).sV.size:Nat):Int); (aj (rR [.s (gi d 0).sV,.s (⟨#[48,49,50,51,52,53,54,55,56,57]⟩:BY)]) fun a=>let g:=(b-1)-(gi a 0).iV; (aj (Ai [.s (gi d 0).sV,.i 3,.i 10]) fun h=>(bif (!(gi h 0).bV) then some [.i (-1)] else (aj (wC [.i (gi a 0).iV,.i 1,.i 3]) fun k=>(bif (!(gi k 0).bV) then some [.i (-1)] else (gd (aF (b-1)) (gd (aF g) (aj (wC [.i g,.i 1,.i 4]) fun q=>(bif (!(gi q 0).bV) then some [.i (-1)] else (gd ((cA (gi a 0).iV)&&(aR (gi a 0).iV b)) (aj (Ah [.s ((gi d 0).sV.extract 0 ((gi a 0).iV).toNat),.s (⟨#[97,98,99,100,101,102,103,104,105,106,107,108,109,110,111,112,113,114,115,116,117,118,119,120,121,122]⟩:BY)]) fun t=>(bif (!(gi t 0).bV) then some [.i (-1)] else some [.i (gi a 0).iV]))))))))))))
def afk:aM:=⟨137,[aS],[],[],[az],[],[],[],wN⟩
def t138:aJ:=t137.aZ afk
def afl:aL P t138:=bL afj func137

def Aj(d:LG):Option LG :=
 let g:=(((gi d 0).sV.size:Nat):Int); (aj (wN [.s (gi d 0).sV]) fun h=>let a:=(gi h 0).iV+1; let b:=(cA a)&&(aR a g); (gd (aF a) (gd b (gd (aF a) (gd b (some [.l [[.s (gi d 0).sV,.s ((gi d 0).sV.extract 0 a.toNat),.s ((gi d 0).sV.extract a.toNat (gi d 0).sV.size),.i 0,.s (⟨#[]⟩:BY)]]]))))))
def afm:aM:=⟨136,[aS],[],[],[.s (.row wu)],[],[],[],Aj⟩
def t139:aJ:=t138.aZ afm
def afn:aL P t139:=bL afl func136

def Ak(d:LG):Option LG :=
 (aj (Ai [.s (gi d 0).sV,.i 1,.i 4]) fun a=>some [.t (gi a 0).bV])
def afo:aM:=⟨138,[aS],[],[],[bP],[],[],[],Ak⟩
def t140:aJ:=t139.aZ afo
def afp:aL P t140:=bL afn func138

def IG(d:LG):Option LG :=
 let a:=(⟨#[]⟩:BY); let z2:=(⟨#[48,49,50,51,52,53,54,55,56,57]⟩:BY); let z3:=(⟨#[109,109]⟩:BY); let z4:=(⟨#[97,109]⟩:BY); (aj (oR [.s (gi d 0).sV,.s (⟨#[47]⟩:BY)]) fun b=>let z5:=Ak [.s (gi b 1).sV]; let F:=Aj [.s (gi b 0).sV]; let I:=wN [.s (gi b 0).sV]; let V:=((gi b 1).sV.toList==(⟨#[112]⟩:BY).toList); let W:=((gi b 1).sV.toList==(⟨#[109]⟩:BY).toList); let M:=tT [.s z2,.s (gi b 1).sV]; let N:=((((gi b 1).sV.size:Nat):Int)==1); let O:=(gi b 1).sV.toList==z3.toList; let U:=(gi b 1).sV.toList==z4.toList; (bif (aK 14 (((gi d 0).sV.size:Nat):Int)) then some [.l [[.s a,.s a,.s a,.i 0,.s a]],.t false] else (bif (!(gi b 2).bV) then (aj I fun g2=>(bif (aK (gi g2 0).iV 0) then some [.l [[.s a,.s a,.s a,.i 0,.s a]],.t false] else (aj F fun g3=>some [.l [(bF wu (gi g3 0).rV)],.t true]))) else (aj (wN [.s (gi b 1).sV]) fun g4=>(bif (aR 0 (gi g4 0).iV) then (aj (Ak [.s (gi b 0).sV]) fun g5=>(bif (gi g5 0).bV then (aj (Aj [.s (gi b 1).sV]) fun J=>some [.l [[.s (gi (gi J 0).rV 0).sV,.s (gi (gi J 0).rV 1).sV,.s (gi (gi J 0).rV 2).sV,.i 1,.s (gi b 0).sV]],.t true]) else (aj I fun g7=>(bif (aK (gi g7 0).iV 0) then some [.l [[.s a,.s a,.s a,.i 0,.s a]],.t false] else (aj F fun B=>let g:=gi (gi B 0).rV 0; let h:=gi (gi B 0).rV 1; let k:=gi (gi B 0).rV 2; let y:=gi (gi B 0).rV 4; (bif V then some [.l [[.s g.sV,.s h.sV,.s k.sV,.i 3,.s y.sV]],.t true] else (bif W then some [.l [[.s g.sV,.s h.sV,.s k.sV,.i 4,.s y.sV]],.t true] else (bif O then some [.l [[.s g.sV,.s h.sV,.s k.sV,.i 5,.s y.sV]],.t true] else (bif U then some [.l [[.s g.sV,.s h.sV,.s k.sV,.i 6,.s y.sV]],.t true] else (bif N then (aj M fun g9=>(bif (gi g9 0).bV then some [.l [[.s g.sV,.s h.sV,.s k.sV,.i 2,.s (gi b 1).sV]],.t true] else (aj z5 fun X=>(bif (gi X 0).bV then some [.l [[.s g.sV,.s h.sV,.s k.sV,.i 1,.s (gi b 1).sV]],.t true] else some [.l [[.s a,.s a,.s a,.i 0,.s a]],.t false])))) else (aj z5 fun Y=>(bif (gi Y 0).bV then some [.l [[.s g.sV,.s h.sV,.s k.sV,.i 1,.s (gi b 1).sV]],.t true] else some [.l [[.s a,.s a,.s a,.i 0,.s a]],.t false])))))))))))) else (aj I fun g12=>(bif (aK (gi g12 0).iV 0) then some [.l [[.s a,.s a,.s a,.i 0,.s a]],.t false] else (aj F fun z=>let q:=gi (gi z 0).rV 0; let v:=gi (gi z 0).rV 1; let w:=gi (gi z 0).rV 2; let A:=gi (gi z 0).rV 4; (bif V then some [.l [[.s q.sV,.s v.sV,.s w.sV,.i 3,.s A.sV]],.t true] else (bif W then some [.l [[.s q.sV,.s v.sV,.s w.sV,.i 4,.s A.sV]],.t true] else (bif O then some [.l [[.s q.sV,.s v.sV,.s w.sV,.i 5,.s A.sV]],.t true] else (bif U then some [.l [[.s q.sV,.s v.sV,.s w.sV,.i 6,.s A.sV]],.t true] else (bif N then (aj M fun g14=>(bif (gi g14 0).bV then some [.l [[.s q.sV,.s v.sV,.s w.sV,.i 2,.s (gi b 1).sV]],.t true] else (aj z5 fun g15=>(bif (gi g15 0).bV then some [.l [[.s q.sV,.s v.sV,.s w.sV,.i 1,.s (gi b 1).sV]],.t true] else some [.l [[.s a,.s a,.s a,.i 0,.s a]],.t false])))) else (aj z5 fun g16=>(bif (gi g16 0).bV then some [.l [[.s q.sV,.s v.sV,.s w.sV,.i 1,.s (gi b 1).sV]],.t true] else some [.l [[.s a,.s a,.s a,.i 0,.s a]],.t false])))))))))))))))
def afq:aM:=⟨98,[aS],[],[],[.s (.row wu),bP],[],[],[],IG⟩
def t141:aJ:=t140.aZ afq
def afr:aL P t141:=bL afp func98

def ug(d:LG):Option LG :=
 (aj (IG [.s (gi d 0).sV]) fun a=>some [.t (gi a 1).bV])
def afs:aM:=⟨58,[aS],[],[],[bP],[],[],[],ug⟩
def t142:aJ:=t141.aZ afs
def aft:aL P t142:=bL afr func58

def wO(d:LG):Option LG :=
 let a:=(!((gi (gi d 0).rV 7).sV.toList==(⟨#[]⟩:BY).toList)); let b:=ql [.s (gi (gi d 0).rV 7).sV]; (aj (Dl [.i (gi (gi d 0).rV 0).iV]) fun g=>(bif (!(gi g 0).bV) then some [.i 1] else (aj (oQ [.i (gi (gi d 0).rV 1).iV,.i 1,.i 3]) fun h=>(bif (!(gi h 0).bV) then some [.i 4] else (aj (ql [.s (gi (gi d 0).rV 2).sV]) fun k=>(bif (!(gi k 0).bV) then some [.i 5] else (aj (ug [.s (gi (gi d 0).rV 3).sV]) fun q=>(bif (!(gi q 0).bV) then some [.i 3] else (aj (oQ [.i (gi (gi d 0).rV 4).iV,.i 0,.i 99999]) fun t=>(bif (!(gi t 0).bV) then some [.i 1] else (aj (oQ [.i (gi (gi d 0).rV 5).iV,.i 0,.i 99999]) fun v=>(bif (!(gi v 0).bV) then some [.i 1] else (bif (!((gi (gi d 0).rV 6).sV.toList==(⟨#[]⟩:BY).toList)) then (aj (ql [.s (gi (gi d 0).rV 6).sV]) fun w=>(bif (!(gi w 0).bV) then some [.i 5] else (bif a then (aj b fun y=>(bif (!(gi y 0).bV) then some [.i 5] else some [.i 0])) else some [.i 0]))) else (bif a then (aj b fun z=>(bif (!(gi z 0).bV) then some [.i 5] else some [.i 0])) else some [.i 0]))))))))))))))
def afu:aM:=⟨99,[.s (.row bI)],[],[],[az],[],[],[],wO⟩
def t143:aJ:=t142.aZ afu
def QH:aL P t143:=bL aft func99

def QI(d:LG):Option (Option Nat × LG) :=
 let g:=bF bI ((gi d 1).rZ.getD (((gi d 3).iV).toNat) []); let b:=(gi d 3).iV-1; let a:=(gi d 3).iV+1; (bif (aK (gi d 3).iV (gi d 2).iV) then (gd (nL (gi d 3).iV (lI (gi d 1).rZ)) (aj (wO [.l [g]]) fun h=>(bif ((gi h 0).iV != 0) then eQ [.i (gi h 0).iV] else (bif (aK 0 (gi d 3).iV) then (gd (aF b) (gd (nL b (lI (gi d 0).rZ)) (aj (nZ [.l [(bF bI ((gi d 0).rZ.getD (b.toNat) []))],.l [g]]) fun k=>(bif (aR 0 (gi k 0).iV) then eQ [.i 7] else (gd (aF a) (some (none,kp d 0 [.l,.l,.i] [.i a]))))))) else (gd (aF a) (some (none,kp d 0 [.l,.l,.i] [.i a]))))))) else eR [])
def afv:bS:=⟨4,[],⟨34,Pq,[]⟩,[],[⟨.ret,⟨34,qk,[]⟩,[]⟩,⟨.exit 0,⟨34,[],[]⟩,[]⟩],QI⟩
def afw:LT:=dc.add 0 afv
def afx:ba P 0 afw (bp f59):=lA QH (dx _ _ _)
def wP(d:LG):Option LG :=
 let a:=(lI (gi d 0).rZ); (bif (aK 2000 a) then some [.i 2] else (bT true (cd QI [.l (gi d 0).rZ,.l (gi d 0).rZ,.i a,.i 0]) fun b g=>(bif aH b 0 then some [.i (gi g 0).iV] else some [.i 0])))
def afy:aM:=⟨59,[gT],[],[],[az],[],[],[],wP⟩
def t144:aJ:=t143.aZ afy
def QJ:aL P t144:=tP QH func59 afx

def wQ(d:LG):Option (Option Nat × LG) :=
 (bif (aK (gi d 3).iV 5) then (aj (zw (kp d 0 [.l,.i,.i] [])) fun a=>(aj (wP [.l (gi a 2).rZ]) fun b=>(bif ((gi b 0).iV==0) then some (some 0,kp a 0 [.l,.i,.l] []) else (gd (aF ((gi d 3).iV+1)) (nQ [.l (gi a 0).rZ,.i (gi a 1).iV,.i (gi d 2).iV,.i ((gi d 3).iV+1)]))))) else eR [.l (gi d 0).rZ,.i (gi d 1).iV])
def afz:bS:=⟨2,[],⟨16,[(0,.s (.ptr 0 0)),(1,az),(6,az)],zn⟩,[.fix 0],[⟨.ret,⟨16,[(4,gT)],zn⟩,[.fix 0]⟩,⟨.exit 0,⟨16,[],zn⟩,[.fix 0]⟩],wQ⟩
def afA:LT:=dc.add 1 afz
def afB:ba P 1 afA (bp f33):=lA QJ (dx _ _ _)
def D5(d:LG):Option LG :=
 (bT true (cd wQ (kp d 0 [.l,.i,.i] [.i 0])) fun b a=>(bif aH b 0 then some (kp a 0 [.l,.i,.l] []) else some [.l (gi a 0).rZ,.i (gi a 1).iV,.l []]))
def afC:aM:=⟨33,[.s (.ptr 0 0),az],[.box [.list [.I],.I]],[.aO 0],[gT],[.box [.list [.I],.I]],[.fix 0],[],D5⟩
def t145:aJ:=t144.dK afC
def afD:aL P t145:=tW QJ func33 afB

def uh(d:LG):Option LG :=
 y_ d
def QK:aM:=⟨65,[.s (.list [.str]),aS],[],[],[aS],[],[],[],uh⟩
def afE:gR P QK:=fun d r h=>Yy rfl Tryz.Zj Tryz.Zr d r h
def t146:aJ:=t145.aZ QK
def QL:aL P t146:=afD.aP afE

def wR(d:LG):Option (Option Nat × LG) :=
 let a:=(gi d 2).rZ.getD (((gi d 4).iV).toNat) []; let b:=eW (dS (gi a 0).iV 86400000) 1000; let q:=eW (gi a 0).iV 86400000; (bif (aK (gi d 4).iV (gi d 3).iV) then (gd (nL (gi d 4).iV (lI (gi d 2).rZ)) (aj (tU [.l (gi d 0).rZ,.s (gi a 2).sV]) fun g=>let t:=eW (gi ((gi d 0).rZ.getD (((gi g 0).iV).toNat) []) 1).iV 1000; (bif (aK (gi g 0).iV 0) then eQ [.s (⟨#[]⟩:BY),.i 8] else (gd (aF b) (gd (nL (gi g 0).iV (lI (gi d 0).rZ)) (gd (aF t) (aj (lk [.i t]) fun J=>(aj (zB []) fun v=>(gd (nL (gi a 1).iV (lI (gi v 0).rZ)) (gd (aF q) (aj (tX [.i q]) fun M=>(gd (aF (eW b 3600)) (aj (rS [.i (eW b 3600)]) fun w=>(gd (aF (eW b 60)) (aj (rS [.i (dS (eW b 60) 60)]) fun y=>let z5:=(gi w 0).sV++(gi y 0).sV; (gd (bf ((gi w 0).sV.size+(gi y 0).sV.size) 9223372036854775807) (aj (rS [.i (dS b 60)]) fun h=>(gd (bf (z5.size+(gi h 0).sV.size) 9223372036854775807) (aj (zD [.i (gi a 4).iV]) fun A=>(aj (zE [.s (gi a 6).sV]) fun B=>(aj (zD [.i (gi a 5).iV]) fun F=>(aj (zE [.s (gi a 7).sV]) fun I=>(aj (uh [.l [[.s (⟨#[81,83,79,58]⟩:BY)],[.s (gi J 0).sV],[.s (gi ((gi v 0).rZ.getD (((gi a 1).iV).toNat) []) 0).sV],[.s (gi M 0).sV],[.s (z5++(gi h 0).sV)],[.s (gi a 3).sV],[.s (gi A 0).sV],[.s (gi B 0).sV],[.s (gi F 0).sV],[.s (gi I 0).sV]],.s (⟨#[32]⟩:BY)]) fun k=>let z:=((gi k 0).sV++(⟨#[10]⟩:BY)); (gd (bf ((gi k 0).sV.size+1) 9223372036854775807) (gd (bf ((gi d 1).sV.size+z.size) 9223372036854775807) (gd (aF ((gi d 4).iV+1)) (nQ [.l (gi d 0).rZ,.s ((gi d 1).sV++z),.l (gi d 2).rZ,.i (gi d 3).iV,.i ((gi d 4).iV+1)]))))))))))))))))))))))))))) else eR [.s (gi d 1).sV])
def afF:bS:=⟨11,[],⟨103,[(0,.s (.list cw)),(10,aS),(32,gT),(33,az),(34,az)],[]⟩,[],[⟨.ret,⟨103,[(6,aS),(7,az)],[]⟩,[]⟩,⟨.exit 0,⟨103,[(10,aS)],[]⟩,[]⟩],wR⟩
def afG:LT:=dc.add 0 afF
def afH:ba P 0 afG (bp f17):=lA QL (dx _ _ _)
def oS(d:LG):Option LG :=
 let g:=((⟨#[67,65,76,76,58,32]⟩:BY)++(gi d 1).sV); let b:=(⟨#[]⟩:BY); let h:=(⟨#[69,78,68,10]⟩:BY); (aj (tV [.l (gi d 0).rZ]) fun k=>(bif ((gi k 0).iV != 0) then some [.s b,.i (gi k 0).iV] else (aj (ug [.s (gi d 1).sV]) fun v=>(bif (!(gi v 0).bV) then some [.s b,.i 3] else (aj (wP [.l (gi d 2).rZ]) fun q=>(bif ((gi q 0).iV != 0) then some [.s b,.i (gi q 0).iV] else (gd (bf (6+(gi d 1).sV.size) 9223372036854775807) (gd (bf (g.size+1) 9223372036854775807) (bT true (cd wR [.l (gi d 0).rZ,.s (g++(⟨#[10]⟩:BY)),.l (gi d 2).rZ,.i (lI (gi d 2).rZ),.i 0]) fun t a=>(bif aH t 0 then some [.s (gi a 0).sV,.i (gi a 1).iV] else (gd (bf ((gi a 0).sV.size+4) 9223372036854775807) (bif (aK 200000 ((((gi a 0).sV++h).size:Nat):Int)) then some [.s b,.i 2] else some [.s ((gi a 0).sV++h),.i 0]))))))))))))
def afI:aM:=⟨17,[.s (.list cw),aS,gT],[],[],[aS,az],[],[],[],oS⟩
def t147:aJ:=t146.aZ afI
def IH:aL P t147:=tP QL func17 afH

def D6(d:LG):Option (Option Nat × LG) :=
 (bif (aK (gi d 4).iV (gi d 3).iV) then (aj (Dw (kp d 0 [.l,.i,.s] [.s (⟨#[32,10,48,45,57,67,87,69,78,68]⟩:BY)])) fun a=>(gd (aF ((gi d 4).iV+1)) (some (none,kp a 0 [.l,.i,.s] [.i (gi d 3).iV,.i ((gi d 4).iV+1)])))) else some (some 0,kp d 0 [.l,.i,.s] []))
def afJ:bS:=⟨14,[],⟨66,[(1,.s (.ptr 1 0)),(7,.s (.ptr 2 0)),(58,az),(59,az)],Pl⟩,[.fix 0,.aO 1,.aO 7],[⟨.exit 2,⟨66,[(7,.s (.ptr 1 0))],[.box [.list [.I],.I],.box [.str]]⟩,[.fix 0,.aO 7]⟩],D6⟩
def II:LT:=dc.add 1 afJ
def afK:ba P 1 II (bp f9):=lA IH (dx _ _ _)
def r9(s:BY):Int:=Il s 10
def QM:∀(l:List UInt8) (c:UInt8),eN l c<l.length
 | [],c=>by
  unfold eN;simp
 | b::l,c=>by
  have a:=QM l c;unfold eN;rw[List.length_cons];split
  ·omega
  ·split
   ·omega
   ·omega
def afL(s:BY):r9 s<s.size:=by
 have h:=QM s.data.toList (10:Int).toNat.toUInt8;have e:s.size=s.data.toList.length:=by cases s; simp[ByteArray.size]
 rw[e];exact h
def afM:tM P 81 r9:=⟨by kernel_rfl,fun s=>yH (vs:=[.string s,.int .u8 10]) fun w=>(Proofs.Any.strings_IndexByte Tryz.O7 s 10 w).mono fun e w' h=>⟨h.1,h.2▸Ext.refl w⟩,fun s=>afL s⟩
def lnf:C0 P ⟨80,9,81⟩:=Yh func80 (by kernel_rfl) rfl rfl rfl ⟨⟨_,_,_,rfl,⟨rfl,rfl,rfl⟩,⟨rfl,rfl,rfl⟩,⟨rfl,⟨_,_,rfl⟩,rfl⟩⟩,⟨_,rfl,⟨rfl,rfl,rfl⟩⟩,⟨_,_,_,_,rfl,⟨rfl,rfl,rfl⟩,⟨rfl,rfl,rfl⟩,⟨rfl,rfl,rfl⟩⟩,⟨_,_,rfl,⟨rfl,rfl,rfl⟩,⟨rfl,⟨_,_,rfl⟩,rfl⟩⟩,⟨_,_,_,_,_,_,_,_,_,_,rfl,⟨rfl,rfl,rfl⟩,⟨rfl,rfl,rfl⟩,⟨rfl,⟨_,_,rfl⟩,rfl⟩,⟨rfl,rfl,rfl⟩,⟨rfl,rfl,rfl⟩,⟨rfl,rfl,rfl⟩,⟨rfl,⟨_,_,rfl⟩,rfl⟩,⟨rfl,rfl,rfl⟩,⟨rfl,rfl,rfl⟩,⟨rfl,rfl,rfl⟩⟩,⟨_,_,_,rfl,⟨rfl,rfl,rfl⟩,⟨rfl,rfl,rfl⟩,⟨rfl,rfl,rfl⟩⟩,⟨_,_,_,_,_,_,rfl,⟨rfl,rfl,rfl⟩,⟨rfl,rfl,rfl⟩,⟨rfl,rfl,rfl⟩,⟨rfl,rfl,rfl⟩⟩,by kernel_rfl⟩ (by kernel_rfl) (by kernel_rfl)
def Al(h r:BY)(d:LG):Option LG :=
 let g:=((gi d 2).sV++(⟨#[10]⟩:BY)); let w:=(⟨#[81,83,79,58,32]⟩:BY); let y:=bf ((gi d 2).sV.size+1) 9223372036854775807; let z:=(⟨#[32]⟩:BY); let z5:=bf ((gi d 2).sV.size+h.size) 9223372036854775807; let F:=bf (g.size+h.size) 9223372036854775807; (aj (Dv [.s h,.s z,.i 3]) fun A=>let I:=gi ((gi A 0).rZ.getD 2 []) 0; let J:=(lI (gi A 0).rZ); (gd (aK 0 J) (bif ((gi ((gi A 0).rZ.getD 0 []) 0).sV.toList==(⟨#[81,83,79,58]⟩:BY).toList) then (aj (kF [.l (gi d 0).rZ,.i (gi d 1).iV,.i 3]) fun k=>(bif (gi k 2).bV then (aj (lW [.l (gi k 0).rZ,.i (gi k 1).iV,.l [[.i 7010],[.i 14001],[.i 14349],[.i 1800],[.i 10100]]]) fun B=>(aj (lk [.i (gi B 2).iV]) fun t=>let v:=((w++(gi t 0).sV)++z)++I.sV; (gd (bf (5+(gi t 0).sV.size) 9223372036854775807) (gd (bf ((w++(gi t 0).sV).size+1) 9223372036854775807) (gd (aK 2 J) (gd (bf (((w++(gi t 0).sV)++z).size+I.sV.size) 9223372036854775807) (aj (kF [.l (gi B 0).rZ,.i (gi B 1).iV,.i 8]) fun q=>(bif (gi q 2).bV then (gd y (gd (bf (g.size+v.size) 9223372036854775807) (some [.l (gi q 0).rZ,.i (gi q 1).iV,.s (g++v),.s r]))) else (gd (bf ((gi d 2).sV.size+v.size) 9223372036854775807) (some [.l (gi q 0).rZ,.i (gi q 1).iV,.s ((gi d 2).sV++v),.s r])))))))))) else (aj (kF [.l (gi k 0).rZ,.i (gi k 1).iV,.i 8]) fun a=>(bif (gi a 2).bV then (gd y (gd F (some [.l (gi a 0).rZ,.i (gi a 1).iV,.s (g++h),.s r]))) else (gd z5 (some [.l (gi a 0).rZ,.i (gi a 1).iV,.s ((gi d 2).sV++h),.s r])))))) else (aj (kF [.l (gi d 0).rZ,.i (gi d 1).iV,.i 8]) fun b=>(bif (gi b 2).bV then (gd y (gd F (some [.l (gi b 0).rZ,.i (gi b 1).iV,.s (g++h),.s r]))) else (gd z5 (some [.l (gi b 0).rZ,.i (gi b 1).iV,.s ((gi d 2).sV++h),.s r])))))))
def afO(d:LG):LG:=[.l (gi d 0).rZ,.i (gi d 1).iV,.s (gi d 2).sV,.s (gi d 3).sV]
def afP(d:LG):Bool:=true
def n5:wb:=⟨⟨66,[(1,.s (.ptr 1 0)),(7,.s (.ptr 2 0)),(27,.clo 80 [.ptr 3 0])],[.box [.list [.I],.I],.box [.ptr 0 0],.box [.str],.box [.str]]⟩,[.fix 0,.aO 1,.aO 7,.cap 27 0],[],3,28,fun d=>(gi d 3).sV,afO,afP,Al⟩
def afQ:C1 P t147 dc n5 (CU (ij f9 5)) (CV (ij f9 5)):=fun h r d=>by kernel_rfl
def D7(d:LG):Option (Option Nat × LG) :=
 (aj (lW [.l (gi d 0).rZ,.i (gi d 1).iV,.l [[.i 0],[.i 0],[.i 0],[.i 1],[.i 2]]]) fun a=>(bT true (cd D6 [.l (gi a 0).rZ,.i (gi a 1).iV,.s (gi d 2).sV,.i (gi a 2).iV,.i 0]) fun g b=>some (some 0,kp b 0 [.l,.i,.s] [])))
def afR:bS:=⟨13,[],⟨66,[(1,.s (.ptr 1 0)),(7,.s (.ptr 2 0)),(27,.clo 80 [.ptr 3 0])],[.box [.list [.I],.I],.box [.ptr 0 0],.box [.str],.box [.str]]⟩,[],[⟨.ret,⟨66,[(2,aS)],zn⟩,[.fix 0]⟩],D7⟩
def IJ(d:LG):Option (Option Nat × LG) :=
 y9 r9 n5 D7 d
def IK:bS:=⟨5,[],⟨66,[(1,.s (.ptr 1 0)),(5,aS),(7,.s (.ptr 2 0))],Pl⟩,[.fix 0,.aO 1,.aO 7],[⟨.ret,⟨66,[(2,aS)],zn⟩,[.fix 0]⟩],IJ⟩
def afS:LT:=II.mH 1 IK
def afT:ba P 1 afS (bp f9):=ba.Yk (i:=⟨80,9,81⟩) (q:=IK) (qr:=afR) (sp:=n5) (b:=0) (g:=27) (wd:=0) (L0:=dc) (pre:=fun d=>preB P t147 II (ij f9 5) (cW IK.inv d)) hm IH lnf afM (by kernel_rfl) afK (fun _ _=>dx _ _ _) (by kernel_rfl) afQ (by kernel_rfl) (by kernel_rfl) (fun d=>by kernel_rfl) (fun d=>by kernel_rfl) (fun d=>by kernel_rfl) (fun d=>by kernel_rfl) (fun d=>by kernel_rfl) rfl rfl (fun d=>by kernel_rfl) (fun d=>rfl)
def D8(d:LG):Option LG :=
 let g:=(⟨#[111,104,50,97,98,99]⟩:BY); (aj (rP [.l (gi d 0).rZ,.i (gi d 1).iV,.i 0,.i 4]) fun k=>(aj (D5 (kp k 0 [.l,.i,.i] [])) fun a=>(aj (ll [.l (gi a 0).rZ,.i (gi a 1).iV,.l [[.s g],[.s g],[.s (⟨#[107,49,97,98,47,52]⟩:BY)]]]) fun b=>(aj (oS [.l [[.s (⟨#[98,52,48]⟩:BY),.i 7000000,.i 7300000],[.s (⟨#[98,50,48]⟩:BY),.i 14000000,.i 14350000]],.s (gi b 2).sV,.l (gi a 2).rZ]) fun q=>(bT true (rG (IJ [.l (gi b 0).rZ,.i (gi b 1).iV,.s (⟨#[]⟩:BY),.s (gi q 0).sV])) fun t h=>some (kp h 0 [.l,.i,.s] []))))))
def afU:aM:=⟨9,[.s (.ptr 0 0)],[.box [.list [.I],.I]],[.aO 0],[aS],[.box [.list [.I],.I]],[.fix 0],[],D8⟩
def t148:aJ:=t147.dK afU
def afV:aL P t148:=tW IH func9 afT

def Am(d:LG):Option LG :=
 (aj (uh [.l (gi d 0).rZ,.s (⟨#[32]⟩:BY)]) fun a=>(gd (bf ((gi a 0).sV.size+1) 9223372036854775807) (some [.s ((gi a 0).sV++(⟨#[10]⟩:BY))])))
def afW:aM:=⟨43,[.s (.list [.str])],[],[],[aS],[],[],[],Am⟩
def t149:aJ:=t148.aZ afW
def afX:aL P t149:=bL afV func43

def ui(d:LG):Option LG :=
 C3 d
def QN:aM:=⟨42,[.s (.ptr 0 0),aS],[.cD 0 75 5],[.aO 0],[az,.s (.any)],[.cD 0 75 5],[.fix 0],[],ui⟩
def afY:gR P QN:=fun d r h=>Yu Tryz.Zk Tryz.Zs rfl d r h
def t150:aJ:=t149.dK QN
def afZ:aL P t150:=afX.aW afY

def D9(d:LG):Option LG :=
 H7 d
def QO:aM:=⟨129,[aS,az],[],[],[aS],[],[],[],D9⟩
def af0:gR P QO:=fun d r h=>YG rfl Tryz.Zl Tryz.Zt d r h
def t151:aJ:=t150.aZ QO
def af1:aL P t151:=afZ.aP af0

def n7(d:LG):Option LG :=
 (aj (lk [.i (gi d 0).iV]) fun a=>let b:=((gi d 1).iV-(((gi a 0).sV.size:Nat):Int)); (gd (aF b) (aj (D9 [.s (⟨#[48]⟩:BY),.i (if b>0 then b else 0)]) fun g=>(gd (bf ((gi g 0).sV.size+(gi a 0).sV.size) 9223372036854775807) (some [.s ((gi g 0).sV++(gi a 0).sV)])))))
def af2:aM:=⟨89,[az,az],[],[],[aS],[],[],[],n7⟩
def t152:aJ:=t151.aZ af2
def af3:aL P t152:=bL af1 func89

def D_(d:LG):Option LG :=
 let a:=eW (dS (gi d 0).iV 86400000) 1000; let b:=(⟨#[45]⟩:BY); let h:=eW (gi d 0).iV 86400000; (gd (aF h) (aj (ub [.i h]) fun g=>(gd (aF a) (aj (n7 [.i (gi g 0).iV,.i 4]) fun k=>let q:=(gi k 0).sV++b; (gd (bf ((gi k 0).sV.size+1) 9223372036854775807) (aj (n7 [.i (gi g 1).iV,.i 2]) fun t=>let z5:=q++(gi t 0).sV; (gd (bf (q.size+(gi t 0).sV.size) 9223372036854775807) (gd (bf (z5.size+1) 9223372036854775807) (aj (n7 [.i (gi g 2).iV,.i 2]) fun v=>(gd (bf ((z5++b).size+(gi v 0).sV.size) 9223372036854775807) (gd (aF (eW a 3600)) (aj (n7 [.i (eW a 3600),.i 2]) fun w=>(gd (aF (eW a 60)) (aj (n7 [.i (dS (eW a 60) 60),.i 2]) fun y=>let z:=(gi w 0).sV++(gi y 0).sV; (gd (bf ((gi w 0).sV.size+(gi y 0).sV.size) 9223372036854775807) (aj (n7 [.i (dS a 60),.i 2]) fun A=>(gd (bf (z.size+(gi A 0).sV.size) 9223372036854775807) (some [.s ((z5++b)++(gi v 0).sV),.s (z++(gi A 0).sV)]))))))))))))))))))
def af4:aM:=⟨46,[az],[],[],[aS,aS],[],[],[],D_⟩
def t153:aJ:=t152.aZ af4
def af5:aL P t153:=bL af3 func46

def IL(d:LG):Option LG :=
 Ov d
def QP:aM:=⟨50,[.s (.ptr 0 0)],[.cD 0 75 5],[.aO 0],[az],[.cD 0 75 5],[.fix 0],[],IL⟩
def af6:gR P QP:=fun d r h=>Yv Tryz.Zn rfl d r h
def t154:aJ:=t153.dK QP
def af7:aL P t154:=af5.aW af6

def IM(d:LG):Option LG :=
 Ow d
def QQ:aM:=⟨51,[.s (.ptr 0 0)],[.cD 0 75 5],[.aO 0],[aS],[.cD 0 75 5],[.fix 0],[],IM⟩
def af8:gR P QQ:=fun d r h=>Yw Tryz.Zo Tryz.Zu rfl d r h
def t155:aJ:=t154.dK QQ
def IN:aL P t155:=af7.aW af8

def wS(d:LG):Option (Option Nat × LG) :=
 let a:=(gi d 2).rZ.getD (((gi d 4).iV).toNat) []; (bif (aK (gi d 4).iV (gi d 3).iV) then (gd (nL (gi d 4).iV (lI (gi d 2).rZ)) (aj (DK [.l (gi d 1).rZ,.l [(bF bI a)]]) fun b=>let g:=eW (gi ((gi d 1).rZ.getD (((gi b 0).iV).toNat) []) 1).iV 1000; (bif (aK (gi b 0).iV 0) then eQ [.s (⟨#[]⟩:BY),.i 8] else (aj (D_ [.i (gi a 0).iV]) fun h=>(gd (nL (gi b 0).iV (lI (gi d 1).rZ)) (gd (aF g) (aj (lk [.i g]) fun A=>(aj (zM []) fun k=>(gd (nL (gi a 1).iV (lI (gi k 0).rZ)) (aj (zN [.i (gi a 4).iV]) fun q=>(aj (zO [.s (gi a 6).sV]) fun t=>(aj (zN [.i (gi a 5).iV]) fun v=>(aj (zO [.s (gi a 7).sV]) fun w=>(aj (Am [.l [[.s (⟨#[81,83,79,58]⟩:BY)],[.s (gi A 0).sV],[.s (gi ((gi k 0).rZ.getD (((gi a 1).iV).toNat) []) 0).sV],[.s (gi h 0).sV],[.s (gi h 1).sV],[.s (gi a 3).sV],[.s (gi q 0).sV],[.s (gi t 0).sV],[.s (gi v 0).sV],[.s (gi w 0).sV]]]) fun y=>(aj (ui [.s (gi d 0).sV,.s (gi y 0).sV]) fun z=>(gd (aF ((gi d 4).iV+1)) (some (none,.s (gi z 0).sV::kp d 1 [.l,.l,.i] [.i ((gi d 4).iV+1)])))))))))))))))))) else eR [.s (gi d 0).sV])
def af9:bS:=⟨12,[],⟨86,[(0,.s (.list cw)),(10,.s (.ptr 0 0)),(33,gT),(34,az),(35,az)],[.cD 0 75 5]⟩,[.aO 10],[⟨.ret,⟨86,[(6,aS),(7,az)],[]⟩,[]⟩,⟨.exit 0,⟨86,[(10,.s (.ptr 0 0))],[.cD 0 75 5]⟩,[.aO 10]⟩],wS⟩
def af_:LT:=dc.add 0 af9
def af':ba P 0 af_ (bp f11):=ba.add hm (IN.lf [44]) (by kernel_rfl) (dx _ _ _) (fun d=>by kernel_rfl)
def r_(d:LG):Option LG :=
 let a:=(⟨#[]⟩:BY); (aj (tZ [.l (gi d 0).rZ]) fun h=>(bif ((gi h 0).iV != 0) then some [.s a,.i (gi h 0).iV] else (aj (rU [.s (gi d 1).sV]) fun w=>(bif (!(gi w 0).bV) then some [.s a,.i 3] else (aj (wJ [.l (gi d 2).rZ]) fun k=>(bif ((gi k 0).iV != 0) then some [.s a,.i (gi k 0).iV] else (aj (Am [.l [[.s (⟨#[67,65,76,76,58]⟩:BY)],[.s (gi d 1).sV]]]) fun y=>(aj (ui [.s a,.s (gi y 0).sV]) fun z=>(bT true (cd wS [.s (gi z 0).sV,.l (gi d 0).rZ,.l (gi d 2).rZ,.i (lI (gi d 2).rZ),.i 0]) fun q b=>(bif aH q 0 then some [.s (gi b 0).sV,.i (gi b 1).iV] else (aj (ui [.s (gi b 0).sV,.s (⟨#[69,78,68,10]⟩:BY)]) fun t=>(aj (IL [.s (gi t 0).sV]) fun g=>(bif (aK 200000 (gi g 1).iV) then some [.s a,.i 2] else (aj (IM [.s (gi g 0).sV]) fun v=>some [.s (gi v 1).sV,.i 0]))))))))))))))
def aga:aM:=⟨11,[.s (.list cw),aS,gT],[],[],[aS,az],[],[],[],r_⟩
def t156:aJ:=t155.aZ aga
def IP:aL P t156:=IN.aP (qc hm (IN.lf [44]) func11 (by kernel_rfl) af' (fun d=>by kernel_rfl) (by kernel_rfl))

def qo(d:LG):Option (Option Nat × LG) :=
 let g:=((bE (gi d 1).rZ)&&true)&&true; let a:=(gi d 3).iV-1; let b:=(gi d 3).iV+1; let h:=(lI (gi d 1).rZ); let z5:=0+((gi d 3).iV).toNat; (bif (aK (gi d 3).iV (gi d 2).iV) then (bif (aK 0 (gi d 3).iV) then (gd (aF a) (gd (nL a h) (gd (decide ((0+a.toNat)<(gi d 1).rZ.length)) (gd (nL (gi d 3).iV h) (gd (decide (z5<(gi d 1).rZ.length)) (aj (nZ [.l [(bF bI ((gi d 1).rZ.getD (0+a.toNat) []))],.l [(bF bI ((gi d 1).rZ.getD z5 []))]]) fun k=>(bif ((gi k 0).iV==0) then eQ [.s (⟨#[]⟩:BY),.l [],.i 0,.i 6] else (gd (aF b) (gd g (some (none,kp d 0 [.s,.l,.i] [.i b]))))))))))) else (gd (aF b) (gd g (some (none,kp d 0 [.s,.l,.i] [.i b]))))) else (gd g (eR [.s (gi d 0).sV,.l (gi d 1).rZ])))
def agb:bS:=⟨20,[],⟨78,[(9,.s (.ptr 0 0)),(13,.s (.ptr 1 0)),(51,az),(52,az)],[.box [.str],.box [.vQ 2 8],.vQ bI 0]⟩,[.aO 9,.aO 13,.cell 1 0],[⟨.ret,⟨78,Ip,[]⟩,[]⟩,⟨.exit 1,⟨78,[(9,.s (.ptr 0 0)),(13,.s (.ptr 1 0))],[.box [.str],.box [.vQ 2 8],.vQ bI 0]⟩,[.aO 9,.aO 13,.cell 1 0]⟩],qo⟩
def agc:LT:=(dc.CQ [(9,[.CB 13 0 bI])]).add 0 agb
def agd:ba P 0 agc (bp f18):=ba.add hm (IP.lf [59]) (by kernel_rfl) (CR _) (fun d=>by kernel_rfl)
def sa(d:LG):Option LG :=
 let b:=(⟨#[]⟩:BY); (aj (tV [.l (gi d 0).rZ]) fun h=>(bif ((gi h 0).iV != 0) then some [.s b,.l [],.i 0,.i (gi h 0).iV] else (bif (aK 200000 (((gi d 1).sV.size:Nat):Int)) then some [.s b,.l [],.i 0,.i 2] else (aj (D2 [.i 0,.t false,.s b,.t false,.l (gi d 0).rZ,.l [],.t false,.s (gi d 1).sV]) fun a=>let k:=zt [.l (gi a 5).rZ]; (bif (gi a 6).bV then some [.s b,.l [],.i (gi a 7).iV,.i 8] else (bif (!(gi a 8).bV) then some [.s b,.l [],.i (gi a 7).iV,.i 9] else (bif (!(gi a 3).bV) then some [.s b,.l [],.i (gi a 0).iV,.i 9] else (aj (ug [.s (gi a 2).sV]) fun A=>(bif (!(gi A 0).bV) then some [.s b,.l [],.i 0,.i 3] else (iY ((bE (gi a 5).rZ)&&k.isSome) k fun q=>(bT ((((aH (gi a 5).rZ.length (gi q 0).rZ.length)&&true)&&true)&&true) (cd qo [.s (gi a 2).sV,.l (gi q 0).rZ,.i (lI (gi a 5).rZ),.i 0]) fun z g=>let v:=bE (gi g 1).rZ; let w:=wP [.l (gi g 1).rZ]; (bif aH z 0 then some (kp g 0 [.s,.l,.i,.i] []) else (iY (v&&w.isSome) w fun y=>(bif ((gi y 0).iV != 0) then some [.s b,.l [],.i 0,.i (gi y 0).iV] else (gd v (some [.s (gi g 0).sV,.l (gi g 1).rZ,.i 0,.i 0]))))))))))))))))
def age:aM:=⟨18,[.s (.list cw),aS],[],[],[aS,gT,az,az],[],[],[],sa⟩
def t157:aJ:=t156.aZ age
def IQ:aL P t157:=IP.aP (qc hm (IP.lf [59]) func18 (by kernel_rfl) agd (fun d=>by kernel_rfl) (by kernel_rfl))

def An(d:LG):Option (Option Nat × LG) :=
 let q:=oS [.l (gi d 0).rZ,.s (gi d 2).sV,.l (gi d 3).rZ]; let v:=sa [.l (gi d 0).rZ,.s (gi d 4).sV]; let w:=tV [.l (gi d 0).rZ]; let y:=tZ [.l (gi d 0).rZ]; let z5:=(gi d 7).iV==(gi d 14).iV; (bif ((gi d 14).iV==0) then (aj (zX [.l (gi d 0).rZ,.i (gi d 1).iV]) fun g=>(aj q fun h=>(aj v fun a=>(aj y fun z=>(aj w fun A=>(bif ((gi z 0).iV==(gi A 0).iV) then (bif z5 then (bif ((gi d 5).sV.toList==(gi g 0).sV.toList) then (bif ((gi d 6).bV==(!((gi g 0).sV.toList==(⟨#[]⟩:BY).toList))) then (bif ((gi d 9).iV==(gi h 1).iV) then (bif ((gi d 8).sV.toList==(gi h 0).sV.toList) then (bif ((gi d 13).iV==(gi a 3).iV) then (bif ((gi d 10).sV.toList==(gi a 0).sV.toList) then (aj (D3 [.l (gi d 11).rZ,.l (gi a 1).rZ]) fun B=>(bif (gi B 0).bV then (bif ((gi d 12).iV==(gi a 2).iV) then (aj (D4 []) fun F=>eQ [.t (gi F 0).bV]) else eQ [.t false]) else eQ [.t false])) else eQ [.t false]) else eQ [.t false]) else eQ [.t false]) else eQ [.t false]) else eQ [.t false]) else eQ [.t false]) else eQ [.t false]) else eQ [.t false])))))) else (aj q fun k=>(aj v fun b=>(aj y fun I=>(aj w fun J=>(bif ((gi I 0).iV==(gi J 0).iV) then (bif z5 then (bif ((gi d 5).sV.toList==(⟨#[]⟩:BY).toList) then (bif ((gi d 6).bV==false) then (bif ((gi d 9).iV==(gi k 1).iV) then (bif ((gi d 8).sV.toList==(gi k 0).sV.toList) then (bif ((gi d 13).iV==(gi b 3).iV) then (bif ((gi d 10).sV.toList==(gi b 0).sV.toList) then (aj (D3 [.l (gi d 11).rZ,.l (gi b 1).rZ]) fun M=>(bif (gi M 0).bV then (bif ((gi d 12).iV==(gi b 2).iV) then (aj (D4 []) fun N=>eQ [.t (gi N 0).bV]) else eQ [.t false]) else eQ [.t false])) else eQ [.t false]) else eQ [.t false]) else eQ [.t false]) else eQ [.t false]) else eQ [.t false]) else eQ [.t false]) else eQ [.t false]) else eQ [.t false]))))))
def agf:bS:=⟨7,[],⟨148,[(4,.s (.list cw)),(5,az),(6,aS),(7,gT),(8,aS),(9,aS),(10,bP),(11,az),(12,aS),(13,az),(14,aS),(15,gT),(16,az),(17,az),(18,az)],[]⟩,[],[⟨.ret,⟨148,[(2,bP)],[]⟩,[]⟩],An⟩
def agh:LT:=dc.mH 0 agf
def agi:ba P 0 agh (bp f3):=lC IQ (dx _ _ _)
def IS(d:LG):Option LG :=
 (aj (Dh [.l (gi d 0).rZ,.i 0]) fun a=>(aj (Di [.l (gi a 0).rZ,.i (gi a 1).iV]) fun b=>(aj (zp [.l (gi b 0).rZ,.i (gi b 1).iV]) fun g=>(aj (rP [.l (gi g 0).rZ,.i (gi g 1).iV,.i 0,.i 6]) fun M=>(aj (zw (kp M 0 [.l,.i,.i] [])) fun h=>(aj (D8 [.l (gi h 0).rZ,.i (gi h 1).iV]) fun q=>(aj (wE [.l (gi a 2).rZ,.i (gi b 2).iV]) fun w=>(aj (r_ [.l (gi a 2).rZ,.s (gi g 2).sV,.l (gi h 2).rZ]) fun k=>(aj (uf [.l (gi a 2).rZ,.s (gi q 2).sV]) fun y=>(aj (tV [.l (gi a 2).rZ]) fun v=>(bif (aK (gi b 2).iV 0) then (aj (zT [.t true,.i 1]) fun z=>(aj (zV [.l [[.i (gi v 0).iV],[.i (gi z 0).iV]]]) fun A=>(bT true (rG (An (.l (gi a 2).rZ::.i (gi b 2).iV::.s (gi g 2).sV::.l (gi h 2).rZ::.s (gi q 2).sV::kp w 0 [.s,.t,.i] (.s (gi k 0).sV::.i (gi k 1).iV::kp y 0 [.s,.l,.i,.i] [.i (gi A 0).iV])))) fun N B=>some [.t (gi B 0).bV]))) else (aj (zT [.t (aK 30000000000 (gi b 2).iV),.i 1]) fun F=>(aj (zV [.l [[.i (gi v 0).iV],[.i (gi F 0).iV]]]) fun I=>(bT true (rG (An (.l (gi a 2).rZ::.i (gi b 2).iV::.s (gi g 2).sV::.l (gi h 2).rZ::.s (gi q 2).sV::kp w 0 [.s,.t,.i] (.s (gi k 0).sV::.i (gi k 1).iV::kp y 0 [.s,.l,.i,.i] [.i (gi I 0).iV])))) fun O J=>some [.t (gi J 0).bV]))))))))))))))
def QR:aM:=⟨3,[mP],[],[],[bP],[],[],[],IS⟩
def QT:gR P QR:=Y0 hm IQ func3 agi (fun d=>by kernel_rfl)
def t158:aJ:=t157.aZ QR
def akT:aL P t158:=IQ.aP QT

end
end Go.Proofs.jL
