/-
 What is proved here: functions of the program as functions on data. No condition.
-/
import Derived.Test.YtpgfflhcmodgdaaGreatDoorML3
set_option linter.all false
open List renaming replicate->cn,isEmpty->aso
open Nat renaming beq->aD,ble->dv
namespace Go.Proofs.jI
open Go Go.AL Go.Proofs Tryz
noncomputable section
def uH(d:LG):bp:=
 (gd (aA ((d.iV 10)+1)) (gd (bE (d.rZ 3)) (some (some 0,kp d 0 [.l,.l,.l,.l,.s,.s,.i,.i,.i,.i] [.i ((d.iV 10)+1)]))))
def akB:bA:=⟨19,[],⟨129,CU,uD⟩,q_,[⟨.normal,⟨129,CU,uD⟩,q_⟩],uH⟩
def Vy:LT:=bx.gv 0 akB
def akC:aT P 0 Vy (bf f178):=lC zM (bG _ _ _)
def zN(d:LG):bp:=
 let k:=(nL (d.iV 7) (lI (d.rZ 3))); let v:=decide ((0+(d.iV 7).toNat)<(d.rZ 3).length); let h:=(d.iV 7)-2; let y:=(d.rZ 3).set (0+(d.iV 7).toNat) (eh [.I] ((d.rZ 3).getD (0+(d.iV 7).toNat) []) 0 [.i (if ((gi ((d.rZ 1).gR h) 0).iV+1)<(gi ((d.rZ 3).getD (0+(d.iV 7).toNat) []) 0).iV then ((gi ((d.rZ 1).gR h) 0).iV+1) else (gi ((d.rZ 3).getD (0+(d.iV 7).toNat) []) 0).iV)]); (bif (d.bV 12) then (gd k (gd v (gd (aA h) (gd (nL h (lI (d.rZ 1))) (gd (aA ((gi ((d.rZ 1).gR h) 0).iV+1)) (gd k (gd v (gd ((aD (d.rZ 3).length y.length)&&true) (some (some 0,kp d 0 [.l,.l,.l] (.l y::kp d 4 [.s,.s,.i] (kp d 8 [.i,.i,.i,.i] [])))))))))))) else (gd (bE (d.rZ 3)) (some (some 0,kp d 0 [.l,.l,.l,.l,.s,.s,.i] (kp d 8 [.i,.i,.i,.i] [])))))
def akD:bA:=⟨18,[],⟨129,[(0,dn),(1,dn),(5,.s (.ptr 0 0)),(6,al),(7,.s (.vQ 1 1)),(8,al),(12,al),(13,al),(21,al),(22,al),(99,dG)],uD⟩,q_,[⟨.normal,⟨129,CU,uD⟩,q_⟩],zN⟩
def Vz:LT:=Vy.gv 0 akD
def akE:aT P 0 Vz (bf f178):=lC zM akC
def zO(d:LG):bp:=
 let h:=(d.iV 7)-1; let v:=(d.rZ 3).set (0+(d.iV 7).toNat) (eh [.I] ((d.rZ 3).getD (0+(d.iV 7).toNat) []) 0 [.i (if ((gi ((d.rZ 2).gR h) 0).iV+(d.iV 8))<(if ((gi ((d.rZ 3).getD (0+h.toNat) []) 0).iV+1)<((gi ((d.rZ 2).gR (d.iV 7)) 0).iV+1) then ((gi ((d.rZ 3).getD (0+h.toNat) []) 0).iV+1) else ((gi ((d.rZ 2).gR (d.iV 7)) 0).iV+1)) then ((gi ((d.rZ 2).gR h) 0).iV+(d.iV 8)) else (if ((gi ((d.rZ 3).getD (0+h.toNat) []) 0).iV+1)<((gi ((d.rZ 2).gR (d.iV 7)) 0).iV+1) then ((gi ((d.rZ 3).getD (0+h.toNat) []) 0).iV+1) else ((gi ((d.rZ 2).gR (d.iV 7)) 0).iV+1)))]); let y:=c7 (zN (kp d 0 [.l,.l,.l] (.l v::kp d 4 [.s,.s,.i,.i] (kp d 9 [.i,.i,.i,.i] [.t false])))); let k:=(aD (d.rZ 3).length v.length)&&true; let M:=(d.iV 6)-1; let N:=(d.iV 7)-2; let O:=(d.iV 6)-2; let z8:=(lI (d.rZ 2)); let z9:=(lI (d.rZ 3)); let U:=(((d.sV 4).size:Nat):Int); let W:=(((d.sV 5).size:Nat):Int); (gd (nL (d.iV 7) z8) (gd (aA ((gi ((d.rZ 2).gR (d.iV 7)) 0).iV+1)) (gd (aA h) (gd (nL h z9) (gd (decide ((0+h.toNat)<(d.rZ 3).length)) (gd (aA ((gi ((d.rZ 3).getD (0+h.toNat) []) 0).iV+1)) (gd (aA h) (gd (nL h z8) (gd (aA ((gi ((d.rZ 2).gR h) 0).iV+(d.iV 8))) (gd (nL (d.iV 7) z9) (gd (decide ((0+(d.iV 7).toNat)<(d.rZ 3).length)) (bif (aN 1 (d.iV 6)) then (bif (aN 1 (d.iV 7)) then (gd (aA M) (gd (nL M U) (gd (aA N) (gd (nL N W) (bif ((((d.sV 4).data.toList.getD (M.toNat) 0).toNat:Int)==(((d.sV 5).data.toList.getD (N.toNat) 0).toNat:Int)) then (gd (aA O) (gd (nL O U) (gd (aA h) (gd (nL h W) (be k (c7 (zN (kp d 0 [.l,.l,.l] (.l v::kp d 4 [.s,.s,.i,.i] (kp d 9 [.i,.i,.i,.i] [.t ((((d.sV 4).data.toList.getD (O.toNat) 0).toNat:Int)==(((d.sV 5).data.toList.getD (h.toNat) 0).toNat:Int))]))))) fun cg3 g3=>(gd (bE (g3.rZ 3)) (some (some 0,kp g3 0 [.l,.l,.l,.l,.s,.s,.i,.i,.i,.i,.i] [])))))))) else (be k y fun cg4 g4=>(gd (bE (g4.rZ 3)) (some (some 0,kp g4 0 [.l,.l,.l,.l,.s,.s,.i,.i,.i,.i,.i] []))))))))) else (be k y fun cg5 g5=>(gd (bE (g5.rZ 3)) (some (some 0,kp g5 0 [.l,.l,.l,.l,.s,.s,.i,.i,.i,.i,.i] []))))) else (be k y fun cg6 g6=>(gd (bE (g6.rZ 3)) (some (some 0,kp g6 0 [.l,.l,.l,.l,.s,.s,.i,.i,.i,.i,.i] []))))))))))))))))
def akF:bA:=⟨16,[],⟨129,[(0,dn),(1,dn),(5,.s (.ptr 0 0)),(6,al),(7,.s (.vQ 1 1)),(8,al),(9,al),(12,al),(13,al),(21,al),(22,al)],uD⟩,q_,[⟨.normal,⟨129,CU,uD⟩,q_⟩],zO⟩
def VA:LT:=Vz.gv 0 akF
def akG:aT P 0 VA (bf f178):=lC zM akE
def zP(d:LG):bp:=
 let h:=0+(d.iV 10).toNat; let k:=bE (d.rZ 3); let N:=(d.rZ 3).set h (eh [.I] ((d.rZ 3).getD h []) 0 [.i (d.iV 10)]); let O:=(d.rZ 3).set h (eh [.I] ((d.rZ 3).getD h []) 0 [.i (d.iV 6)]); let U:=(nL (d.iV 10) (lI (d.rZ 3))); let v:=(d.iV 10)-1; let y:=(d.iV 6)-1; let W:=decide (h<(d.rZ 3).length); (bif (aN (d.iV 10) (d.iV 9)) then (bif ((d.iV 6)==0) then (gd U (gd W (be ((aD (d.rZ 3).length N.length)&&true) (c7 (uH (kp d 0 [.l,.l,.l] (.l N::kp d 4 [.s,.s,.i,.i,.i,.i,.i] [])))) fun cg1 g1=>(gd (bE (g1.rZ 3)) (some (none,kp g1 0 [.l,.l,.l,.l,.s,.s,.i,.i,.i,.i,.i] [])))))) else (bif ((d.iV 10)==0) then (gd U (gd W (be ((aD (d.rZ 3).length O.length)&&true) (c7 (uH (kp d 0 [.l,.l,.l] (.l O::kp d 4 [.s,.s,.i,.i,.i,.i,.i] [])))) fun cg2 g2=>(gd (bE (g2.rZ 3)) (some (none,kp g2 0 [.l,.l,.l,.l,.s,.s,.i,.i,.i,.i,.i] [])))))) else (gd (aA y) (gd (nL y (((d.sV 4).size:Nat):Int)) (gd (aA v) (gd (nL v (((d.sV 5).size:Nat):Int)) (bif ((((d.sV 4).data.toList.getD (y.toNat) 0).toNat:Int)==(((d.sV 5).data.toList.getD (v.toNat) 0).toNat:Int)) then (be k (c7 (zO (kp d 0 [.l,.l,.l,.l,.s,.s,.i] (.i (d.iV 10)::.i 0::kp d 7 [.i,.i,.i,.i] [])))) fun cg7 g7=>(be (bE (g7.rZ 3)) (c7 (uH (kp g7 0 [.l,.l,.l,.l,.s,.s,.i,.i,.i,.i,.i] []))) fun cg8 g8=>(gd (bE (g8.rZ 3)) (some (none,kp g8 0 [.l,.l,.l,.l,.s,.s,.i,.i,.i,.i,.i] []))))) else (be k (c7 (zO (kp d 0 [.l,.l,.l,.l,.s,.s,.i] (.i (d.iV 10)::.i 1::kp d 7 [.i,.i,.i,.i] [])))) fun cg9 g9=>(be (bE (g9.rZ 3)) (c7 (uH (kp g9 0 [.l,.l,.l,.l,.s,.s,.i,.i,.i,.i,.i] []))) fun cg10 M=>(gd (bE (M.rZ 3)) (some (none,kp M 0 [.l,.l,.l,.l,.s,.s,.i,.i,.i,.i,.i] [])))))))))))) else (gd k (some (some 0,kp d 0 [.l,.l,.l,.l,.s,.s] [.i (d.iV 7),.i (d.iV 8)]))))
def akH:bA:=⟨7,[],⟨129,CU,uD⟩,q_,[⟨.exit 2,⟨129,[(0,dn),(1,dn),(5,.s (.ptr 0 0)),(7,.s (.vQ 1 1)),(12,al),(13,al)],uD⟩,q_⟩],zP⟩
def VB:LT:=VA.add 0 akH
def akI:aT P 0 VB (bf f178):=lA zM akG
def zQ(d:LG):bp:=
 let h:=((((d.sV 4).size:Nat):Int)+1); let v:=(cn (h.toNat) ([.i 0]:LG)); (bif (aN (d.iV 6) (d.iV 5)) then (gd (aA h) (gd ((cO h)&&((bq h h)&&(bq h 1048576))) (be ((aD h.toNat v.length)&&true) (bR zP (kp d 0 [.l,.l,.l] [.l v,.s (d.sV 3),.s (d.sV 4),.i (d.iV 6),.i (d.iV 5),.i (d.iV 6),.i ((h.toNat:Nat):Int),.i 0])) fun y k=>(gd (aA ((k.iV 7)+1)) (gd (((bE (k.rZ 3))&&true)&&true) (some (none,kp k 1 [.l,.l,.l,.s,.s,.i] [.i ((k.iV 7)+1)]))))))) else some (some 0,kp d 0 [.l,.l,.l] [.s (d.sV 4)]))
def akJ:bA:=⟨3,[],⟨129,[(0,dn),(1,dn),(5,.s (.ptr 0 0)),(12,al),(13,al)],[.box [.list [.I],.list [.I],.list [.I]]]⟩,q9,[⟨.exit 0,⟨129,[(1,dn),(5,.s (.ptr 0 0))],[.box [.list [.I],.list [.I],.list [.I]]]⟩,q9⟩],zQ⟩
def akK:LT:=VB.add 0 akJ
def akL:aT P 0 akK (bf f178):=lA zM akI
def HP(d:LG):Option LG:=
 let k:=((((d.sV 0).size:Nat):Int)+1); (gd (aA k) (be true (bR zQ [.l [],.l [],.l [],.s (d.sV 0),.s (d.sV 1),.i k,.i 0]) fun y h=>let v:=(((h.sV 3).size:Nat):Int); (gd (nL v (lI (h.rZ 2))) (some [.i (gi ((h.rZ 2).getD ((h.sV 3).size) []) 0).iV]))))
def akM:aL:=⟨178,[dn,dn],[],[],[al],[],[],[],HP⟩
def t77:aF:=t76.bu akM
def VC:aH P t77:=tP zM func178 akL

def zR(d:LG):bp:=
 let k:=(d.nN 5); let v:=(d.nN 8); let h:=(d.iV 20)+1; let y:=(d.rZ 18).gR (d.iV 20); let M:=o9 [.I] (d.rZ 6) [.i (d.iV 17)]; (bif (aN (d.iV 20) (d.iV 19)) then (gd (nL (d.iV 20) (lI (d.rZ 18))) (gd (nL (d.iV 1) (lI (d.rZ 0))) (bif ((y.sV 3).toList==(gi ((d.rZ 0).gR (d.iV 1)) 0).sV.toList) then (aI (zI [.l [(kp d 9 [.i,.i,.s,.s,.i,.i,.s,.s] [])],.l [(bg a_ y)],.i (d.iV 2)]) fun N=>(bif (N.bV 0) then (gd true (gd (qa (d.rZ 7) M) (bif (!(gi (cR [.I] ((gi (mC (d.rZ 7) M) 0).rZ) [.i (d.iV 20)] [.t false]) 0).bV) then (aI (Db [.l [(bg a_ y)],.l [(kp d 9 [.i,.i,.s,.s,.i,.i,.s,.s] [])]]) fun O=>(bif (O.bV 0) then some (some 0,kp d 0 [.l,.i,.i,.l,.l] [.i k,.l (d.rZ 6),.l (d.rZ 7),.i v,.i (d.iV 20)]) else (gd (aA h) (some (none,kp d 0 [.l,.i,.i,.l,.l] (.i k::.l (d.rZ 6)::.l (d.rZ 7)::.i v::kp d 9 [.i,.i,.s,.s,.i,.i,.s,.s,.i,.l,.i] [.i h])))))) else (gd (aA h) (some (none,kp d 0 [.l,.i,.i,.l,.l] (.i k::.l (d.rZ 6)::.l (d.rZ 7)::.i v::kp d 9 [.i,.i,.s,.s,.i,.i,.s,.s,.i,.l,.i] [.i h]))))))) else (gd (aA h) (some (none,kp d 0 [.l,.i,.i,.l,.l] (.i k::.l (d.rZ 6)::.l (d.rZ 7)::.i v::kp d 9 [.i,.i,.s,.s,.i,.i,.s,.s,.i,.l,.i] [.i h])))))) else (gd (aA h) (some (none,kp d 0 [.l,.i,.i,.l,.l] (.i k::.l (d.rZ 6)::.l (d.rZ 7)::.i v::kp d 9 [.i,.i,.s,.s,.i,.i,.s,.s,.i,.l,.i] [.i h]))))))) else some (some 1,kp d 0 [.l,.i,.i,.l,.l] [.i k,.l (d.rZ 6),.l (d.rZ 7),.i v]))
def akN:bA:=⟨5,[],⟨79,[(0,.s (.ptr 0 0)),(2,al),(4,.s (.ptr 3 0)),(31,kA),(32,al),(33,al)],Uq⟩,Tn,[⟨.ret,⟨79,[(6,al)],nG⟩,zg⟩,⟨.exit 0,⟨79,[],nG⟩,zg⟩],zR⟩
def akO:LT:=bx.add 3 akN
def akP:aT P 3 akO (bf f137):=lA VC (bG _ _ _)
def HQ(d:LG):Option LG:=
 let v:=(d.iV 10).toNat; let y:=(d.nN 5); let I:=(d.nN 8); (gd (nL (d.iV 10) (lI (d.rZ 0))) (aI (HP [.s (gi ((d.rZ 0).getD v []) 0).sV,.s (gi (d.rV 9) 3).sV]) fun W=>(bif (aN 2 (W.iV 0)) then some (kp d 0 [.l,.i,.i,.l,.l] [.i y,.l (d.rZ 6),.l (d.rZ 7),.i I,.i (-1)]) else (aI (Da (kp d 0 [.l,.i,.i,.l,.l] [.i y,.l (d.rZ 6),.l (d.rZ 7),.i I,.i (d.iV 10)])) fun k=>let M:=gi ((k.rZ 0).getD v []) 1; (gd (nL (d.iV 10) (lI (k.rZ 0))) (be true (bR zR (kp k 0 [.l,.i,.i,.l,.l] [.i (k.nN 5),.l (k.rZ 6),.l (k.rZ 7),.i (k.nN 8),.i (gi (d.rV 9) 0).iV,.i (gi (d.rV 9) 1).iV,.s (gi (d.rV 9) 2).sV,.s (gi (d.rV 9) 3).sV,.i (gi (d.rV 9) 4).iV,.i (gi (d.rV 9) 5).iV,.s (gi (d.rV 9) 6).sV,.s (gi (d.rV 9) 7).sV,.i (d.iV 10),.l M.rZ,.i (lI M.rZ),.i 0])) fun U h=>let N:=(h.nN 5); let O:=(h.nN 8); (bif aD U 0 then some (kp h 0 [.l,.i,.i,.l,.l] [.i N,.l (h.rZ 6),.l (h.rZ 7),.i O,.i (h.iV 9)]) else some (kp h 0 [.l,.i,.i,.l,.l] [.i N,.l (h.rZ 6),.l (h.rZ 7),.i O,.i (-1)]))))))))
def akQ:aL:=⟨137,[.s (.ptr 0 0),.s (.row a_),al],nG,zf,[al],nG,sx,[],HQ⟩
def t78:aF:=t77.du akQ
def VD:aH P t78:=tW VC func137 akP

def zT(d:LG):bp:=
 let k:=(d.iV 21)+1; let v:=(d.nN 5); let y:=(d.nN 8); (bif (aN (d.iV 21) (d.iV 20)) then (gd (nL (d.iV 21) (lI (d.rZ 19))) (bif ((d.iV 21)==(d.iV 1)) then (gd (aA k) (some (none,kp d 0 [.l,.i,.i,.l,.l] (.i v::.l (d.rZ 6)::.l (d.rZ 7)::.i y::kp d 9 [.i,.i,.s,.s,.i,.i,.s,.s,.i,.i,.l,.i] [.i k])))) else (bif ((gi ((d.rZ 19).gR (d.iV 21)) 0).sV.toList==(d.sV 12).toList) then (gd (aA k) (some (none,kp d 0 [.l,.i,.i,.l,.l] (.i v::.l (d.rZ 6)::.l (d.rZ 7)::.i y::kp d 9 [.i,.i,.s,.s,.i,.i,.s,.s,.i,.i,.l,.i] [.i k])))) else (aI (HQ (kp d 0 [.l,.i,.i,.l,.l] [.i v,.l (d.rZ 6),.l (d.rZ 7),.i y,.l [(kp d 9 [.i,.i,.s,.s,.i,.i,.s,.s] [])],.i (d.iV 21)])) fun h=>let I:=(h.nN 5); let M:=(h.nN 8); (bif (bq 0 (h.iV 9)) then (bif (bq 0 (d.iV 17)) then some (some 0,kp h 0 [.l,.i,.i,.l,.l] [.i I,.l (h.rZ 6),.l (h.rZ 7),.i M,.i (-1),.i (-1)]) else (gd (aA k) (some (none,kp h 0 [.l,.i,.i,.l,.l] (.i I::.l (h.rZ 6)::.l (h.rZ 7)::.i M::kp d 9 [.i,.i,.s,.s,.i,.i,.s,.s] [.i (d.iV 21),.i (h.iV 9),.l (d.rZ 19),.i (d.iV 20),.i k]))))) else (gd (aA k) (some (none,kp h 0 [.l,.i,.i,.l,.l] (.i I::.l (h.rZ 6)::.l (h.rZ 7)::.i M::kp d 9 [.i,.i,.s,.s,.i,.i,.s,.s,.i,.i,.l,.i] [.i k]))))))))) else some (some 1,kp d 0 [.l,.i,.i,.l,.l] [.i v,.l (d.rZ 6),.l (d.rZ 7),.i y,.i (d.iV 17),.i (d.iV 18)]))
def akR:bA:=⟨3,[],⟨45,[(0,.s (.ptr 0 0)),(3,.s (.ptr 3 0)),(4,al),(5,al),(12,.s (.list c8)),(13,al),(14,al)],Uq⟩,[.fix 0,.cell 0 3,.cell 0 4,.aM 3],[⟨.ret,⟨45,[(4,al),(5,al)],nG⟩,zg⟩,⟨.exit 0,⟨45,[(4,al),(5,al)],nG⟩,zg⟩],zT⟩
def akS:LT:=bx.add 3 akR
def akT:aT P 3 akS (bf f93):=lA VD (bG _ _ _)
def uI(d:LG):Option LG:=
 (be true (bR zT (kp d 0 [.l,.i,.i,.l,.l] [.i (d.nN 5),.l (d.rZ 6),.l (d.rZ 7),.i (d.nN 8),.i (gi (d.rV 9) 0).iV,.i (gi (d.rV 9) 1).iV,.s (gi (d.rV 9) 2).sV,.s (gi (d.rV 9) 3).sV,.i (gi (d.rV 9) 4).iV,.i (gi (d.rV 9) 5).iV,.s (gi (d.rV 9) 6).sV,.s (gi (d.rV 9) 7).sV,.i (-1),.i 0,.l (d.rZ 0),.i (lI (d.rZ 0)),.i 0])) fun y h=>let k:=(h.nN 5); let v:=(h.nN 8); (bif aD y 0 then some (kp h 0 [.l,.i,.i,.l,.l] [.i k,.l (h.rZ 6),.l (h.rZ 7),.i v,.i (h.iV 9),.i (h.iV 10)]) else some (kp h 0 [.l,.i,.i,.l,.l] [.i k,.l (h.rZ 6),.l (h.rZ 7),.i v,.i (h.iV 9),.i (h.iV 10)])))
def akU:aL:=⟨93,[.s (.ptr 0 0),.s (.row a_)],nG,zf,[al,al],nG,sx,[],uI⟩
def t79:aF:=t78.du akU
def akV:aH P t79:=tW VD func93 akT

def HR(d:LG):Option LG:=
 let M:=(gi ((d.rZ 0).gR (d.iV 1)) 1).rZ.gR (d.iV 9); let N:=(⟨#[]⟩:BY); let z3:=(d.nN 5); let z4:=(d.nN 8); let z5:=bg a_ M; (gd (nL (d.iV 1) (lI (d.rZ 0))) (gd (nL (d.iV 9) (((gi ((d.rZ 0).gR (d.iV 1)) 1).rZ.length:Nat):Int)) (aI (w7 [.l (d.rZ 0),.s (M.sV 3)]) fun y=>(bif (y.bV 1) then (aI (Da (kp d 0 [.l,.i,.i,.l,.l] [.i z3,.l (d.rZ 6),.l (d.rZ 7),.i z4,.i (y.iV 0)])) fun h=>let z7:=(h.nN 5); let z8:=(h.nN 8); let z9:=gi ((h.rZ 0).gR (y.iV 0)) 1; let U:=o9 [.I] (h.rZ 3) [.i (y.iV 0)]; let O:=gi (cR [.I] ((gi (mC (h.rZ 4) U) 0).rZ) [.i (d.iV 9)] [.i 0]) 0; (gd true (gd (qa (h.rZ 4) U) (bif (dJ [.I] ((gi (mC (h.rZ 4) U) 0).rZ) [.i (d.iV 9)]) then (gd (nL (y.iV 0) (lI (h.rZ 0))) (gd (nL O.iV (lI z9.rZ)) (aI (Db [.l [(bg a_ (z9.rZ.gR (O.iV)))],.l [z5]]) fun g3=>(bif (g3.bV 0) then some (kp h 0 [.l,.i,.i,.l,.l] [.i z7,.l (h.rZ 6),.l (h.rZ 7),.i z8,.l [[.i (d.iV 9),.i 1,.s (M.sV 3),.i O.iV]]]) else some (kp h 0 [.l,.i,.i,.l,.l] [.i z7,.l (h.rZ 6),.l (h.rZ 7),.i z8,.l [[.i (d.iV 9),.i 3,.s (M.sV 3),.i O.iV]]]))))) else (aI (uI (kp h 0 [.l,.i,.i,.l,.l] [.i z7,.l (h.rZ 6),.l (h.rZ 7),.i z8,.l [z5]])) fun k=>let W:=(k.nN 5); let z12:=(k.nN 8); (bif (bq 0 (k.iV 9)) then (gd (nL (k.iV 9) (lI (k.rZ 0))) (some (kp k 0 [.l,.i,.i,.l,.l] [.i W,.l (k.rZ 6),.l (k.rZ 7),.i z12,.l [[.i (d.iV 9),.i 2,.s (gi ((k.rZ 0).gR (k.iV 9)) 0).sV,.i (k.iV 10)]]]))) else (bif (y.bV 1) then some (kp k 0 [.l,.i,.i,.l,.l] [.i W,.l (k.rZ 6),.l (k.rZ 7),.i z12,.l [[.i (d.iV 9),.i 4,.s N,.i (-1)]]]) else some (kp k 0 [.l,.i,.i,.l,.l] [.i W,.l (k.rZ 6),.l (k.rZ 7),.i z12,.l [[.i (d.iV 9),.i 5,.s N,.i (-1)]]])))))))) else (aI (uI (kp d 0 [.l,.i,.i,.l,.l] [.i z3,.l (d.rZ 6),.l (d.rZ 7),.i z4,.l [z5]])) fun v=>let z13:=(v.nN 5); let z14:=(v.nN 8); (bif (bq 0 (v.iV 9)) then (gd (nL (v.iV 9) (lI (v.rZ 0))) (some (kp v 0 [.l,.i,.i,.l,.l] [.i z13,.l (v.rZ 6),.l (v.rZ 7),.i z14,.l [[.i (d.iV 9),.i 2,.s (gi ((v.rZ 0).gR (v.iV 9)) 0).sV,.i (v.iV 10)]]]))) else (bif (y.bV 1) then some (kp v 0 [.l,.i,.i,.l,.l] [.i z13,.l (v.rZ 6),.l (v.rZ 7),.i z14,.l [[.i (d.iV 9),.i 4,.s N,.i (-1)]]]) else some (kp v 0 [.l,.i,.i,.l,.l] [.i z13,.l (v.rZ 6),.l (v.rZ 7),.i z14,.l [[.i (d.iV 9),.i 5,.s N,.i (-1)]]]))))))))
def akW:aL:=⟨66,CQ,nG,zf,[.s (.row gy)],nG,sx,[],HR⟩
def t80:aF:=t79.du akW
def VE:aH P t80:=nE akV func66

def zV(d:LG):bp:=
 let h:=(d.rZ 12).gR (d.iV 14); let y:=(aD (d.rZ 11).length (d.rZ 11).length)&&(decide (((d.rZ 11).length+1)<=1048576)); let z3:=((d.rZ 11)++([[.i (d.iV 14),.i 6,.s (⟨#[]⟩:BY),.i (-1)]]:LL)); let z4:=(((dK [.str,.str,.I] (d.rZ 9) [.s (h.sV 3),.s (h.sV 2),.i (h.iV 1)] (d.iV 10).toNat):Nat):Int); let v:=(d.iV 14)+1; let M:=(d.nN 5); let N:=(d.nN 8); (bif (aN (d.iV 14) (d.iV 13)) then (gd (nL (d.iV 14) (lI (d.rZ 12))) (bif (gi (cR [.str,.str,.I] (d.rZ 9) [.s (h.sV 3),.s (h.sV 2),.i (h.iV 1)] [.t false]) 0).bV then (gd y (gd (aA v) (gd (bE z3) (some (none,kp d 0 [.l,.i,.i,.l,.l] [.i M,.l (d.rZ 6),.l (d.rZ 7),.i N,.l (d.rZ 9),.i (d.nN 10),.l z3,.l (d.rZ 12),.i (d.iV 13),.i v]))))) else (aI (HR (kp d 0 [.l,.i,.i,.l,.l] [.i M,.l (d.rZ 6),.l (d.rZ 7),.i N,.i (d.iV 14)])) fun k=>let O:=((d.rZ 11)++([(bg gy (k.rV 9))]:LL)); let z9:=bE O; let U:=(k.nN 5); let W:=(k.nN 8); (bif ((gi (k.rV 9) 1).iV==1) then (gd y (gd (aA v) (gd z9 (some (none,kp k 0 [.l,.i,.i,.l,.l] [.i U,.l (k.rZ 6),.l (k.rZ 7),.i W,.l (dV [.str,.str,.I] (d.rZ 9) [.s (h.sV 3),.s (h.sV 2),.i (h.iV 1)] [.t true] (d.iV 10).toNat),.i z4,.l O,.l (d.rZ 12),.i (d.iV 13),.i v]))))) else (gd y (gd (aA v) (gd z9 (some (none,kp k 0 [.l,.i,.i,.l,.l] [.i U,.l (k.rZ 6),.l (k.rZ 7),.i W,.l (dV [.str,.str,.I] (d.rZ 9) [.s (h.sV 3),.s (h.sV 2),.i (h.iV 1)] [.t ((gi (k.rV 9) 1).iV==3)] (d.iV 10).toNat),.i z4,.l O,.l (d.rZ 12),.i (d.iV 13),.i v]))))))))) else (gd (bE (d.rZ 11)) (some (some 0,kp d 0 [.l,.i,.i,.l,.l] [.i M,.l (d.rZ 6),.l (d.rZ 7),.i N,.l (d.rZ 11)]))))
def akX:bA:=⟨4,[(4,gy)],⟨62,[(0,.s (.ptr 0 0)),(3,.s (.map 3)),(4,.s (.vQ 4 4)),(20,kA),(21,al),(22,al)],[.box [.list c8,.I,.I,.map 1,.map 2],.mm 11 (.one .I) (.one .I) (.one .I),.mm 12 (.one .I) (.one .I) (.one (.bool)),.map (.agg [.str,.str,.I]) (.one (.bool)),.vQ gy 0]⟩,[.fix 0,.cell 0 3,.cell 0 4,.aM 3,.aM 4],[⟨.exit 0,⟨62,[(4,.s (.vQ 3 4))],[.box [.list c8,.I,.I,.map 1,.map 2],.mm 11 (.one .I) (.one .I) (.one .I),.mm 12 (.one .I) (.one .I) (.one (.bool)),.vQ gy 0]⟩,Tn⟩],zV⟩
def akY:LT:=(bx.sk [(0,[.Gd 0 3 11 (.one .I) (.one .I),.Gd 0 4 12 (.one .I) (.one (.bool))]),(13,[.forget 0,.forget 1,.forget 2])]).add 3 akX
def akZ:aT P 3 akY (bf f39):=lA VE (qS _)
def Dc(d:LG):Option LG:=
 let h:=gi ((d.rZ 0).gR (d.iV 1)) 1; (gd ((aso (d.rZ 3))&&((aso (d.rZ 5))&&true)) (gd (nL (d.iV 1) (lI (d.rZ 0))) (be true (bR zV (kp d 0 [.l,.i,.i] [.l [],.l [],.i (d.nN 4),.l [],.l [],.i (d.nN 6),.l [],.i 0,.l [],.l h.rZ,.i (lI h.rZ),.i 0])) fun v k=>(gd (bE (k.rZ 9)) (some [.l [],.l [],.l [],.l (k.rZ 9)])))))
def ak0:aL:=⟨39,ux,Tl,zf,G3,[.vQ [] 1,.vQ [] 1,.vQ [] 1],sx,[],Dc⟩
def t81:aF:=t80.du ak0
def VF:aH P t81:=tW VE func39 akZ

def Dd(d:LG):bp:=
 let v:=gi ((d.rZ 14).gR (d.iV 16)) 1; let h:=0+((v.iV).toNat*1); let k:=((([(d.iV 7),(d.iV 8),(d.iV 9),(d.iV 10),(d.iV 11),(d.iV 12),(d.iV 13)]:List Int).getD h 0)+1); let y:=nL v.iV 7; (bif (aN (d.iV 16) (d.iV 15)) then (gd (nL (d.iV 16) (lI (d.rZ 14))) (gd y (gd (Nat.blt h 7) (gd (aA k) (gd y (gd (Nat.blt h 7) (gd (aA ((d.iV 16)+1)) (some (none,kp d 0 [.i,.i,.i,.i,.i,.i,.i] [.i (bif aD h 0 then k else (d.iV 7)),.i (bif aD h 1 then k else (d.iV 8)),.i (bif aD h 2 then k else (d.iV 9)),.i (bif aD h 3 then k else (d.iV 10)),.i (bif aD h 4 then k else (d.iV 11)),.i (bif aD h 5 then k else (d.iV 12)),.i (bif aD h 6 then k else (d.iV 13)),.l (d.rZ 14),.i (d.iV 15),.i ((d.iV 16)+1)]))))))))) else some (some 0,kp d 0 [.i,.i,.i,.i,.i,.i,.i,.i,.i,.i,.i,.i,.i,.i] []))
def ak1:bA:=⟨3,[],⟨20,[(2,.s (.ptr 0 0)),(3,.s (.ptr 1 0)),(6,.s (.list gy)),(7,al),(8,al)],Ur⟩,CR,[⟨.exit 0,⟨20,[(2,.s (.ptr 0 0)),(3,.s (.ptr 1 0))],Ur⟩,CR⟩],Dd⟩
def ak2:LT:=bx.add 0 ak1
def ak3:aT P 0 ak2 (bf f37):=lA VF (bG _ _ _)
def HS(d:LG):Option LG:=
 (be true (bR Dd [.i 0,.i 0,.i 0,.i 0,.i 0,.i 0,.i 0,.i 0,.i 0,.i 0,.i 0,.i 0,.i 0,.i 0,.l (d.rZ 0),.i (lI (d.rZ 0)),.i 0]) fun k h=>some [.l [(kp h 7 [.i,.i,.i,.i,.i,.i,.i] [])]])
def ak4:aL:=⟨37,G3,[],[],[.s (.row [.I,.I,.I,.I,.I,.I,.I])],[],[],[],HS⟩
def t82:aF:=t81.bu ak4
def VG:aH P t82:=tP VF func37 ak3

def De(d:LG):bp:=
 let v:=(d.rZ 3).gR (d.iV 5); let y:=(lI (v.rZ 1)); let z3:=(⟨#[47]⟩:BY); let I:=aD (d.rZ 0).length (d.rZ 0).length; (bif (aN (d.iV 5) (d.iV 4)) then (gd (nL (d.iV 5) (lI (d.rZ 3))) (aI (M9 [.l (d.rZ 1),.i (d.iV 5),.i (d.iV 2)]) fun h=>(aI (Dc (kp h 0 [.l,.i,.i,.l] [.i (h.nN 4),.l (h.rZ 5),.i (h.nN 6)])) fun g4=>(aI (HS [.l (g4.rZ 3)]) fun k=>let M:=(y-(gi (k.rV 0) 5).iV)-(gi (k.rV 0) 6).iV; (gd (aA (y-(gi (k.rV 0) 5).iV)) (gd (aA M) (aI (mM [.i (gi (k.rV 0) 1).iV]) fun N=>let O:=(N.sV 0)++z3; (gd (dv ((N.sV 0).size+1) 9223372036854775807) (aI (mM [.i M]) fun U=>let W:=((d.rZ 0)++([[.s (v.sV 0),.s (O++(U.sV 0))]]:LL)); (gd (dv (O.size+(U.sV 0).size) 9223372036854775807) (gd (I&&(decide (((d.rZ 0).length+1)<=1048576))) (gd (aA ((d.iV 5)+1)) (gd (bE W) (some (none,.l W::kp d 1 [.l,.i,.l,.i] [.i ((d.iV 5)+1)]))))))))))))))) else (gd (I&&true) (eQ [.l (d.rZ 0)])))
def ak5:bA:=⟨9,[(8,[.str,.str])],⟨60,[(0,.s (.list c8)),(1,al),(8,.s (.vQ 0 2)),(23,.s (.list c8)),(24,al),(25,al)],sD⟩,[.aM 8],[⟨.exit 0,⟨60,[(8,.s (.vQ 0 2))],sD⟩,[.aM 8]⟩],De⟩
def ak6:LT:=bx.add 0 ak5
def ak7:aT P 0 ak6 (bf f9):=lA VG (bG _ _ _)
def uJ(d:LG):Option LG:=
 (aI (oA [.l (d.rZ 0)]) fun h=>(bif ((h.iV 0) != 0) then some [.l [],.i (h.iV 0)] else (aI (C5 [.i (d.iV 1)]) fun k=>(bif ((k.iV 0) != 0) then some [.l [],.i (k.iV 0)] else (be true (bR De [.l [],.l (d.rZ 0),.i (d.iV 1),.l (d.rZ 0),.i (lI (d.rZ 0)),.i 0]) fun y v=>(gd (bE (v.rZ 0)) (some [.l (v.rZ 0),.i 0])))))))
def ak8:aL:=⟨9,G0,[],[],Tk,[],[],[],uJ⟩
def t83:aF:=t82.bu ak8
def ak9:aH P t83:=tP VG func9 ak7

def Df(d:LG):Option LG:=
 (aI (MP [.s (d.sV 0)]) fun h=>some [.t (h.bV 1)])
def ak_:aL:=⟨40,[dn],[],[],[dG],[],[],[],Df⟩
def t84:aF:=t83.bu ak_
def ak':aH P t84:=dQ ak9 func40

def sF(d:LG):Option LG:=
 (bif (bq (d.iV 1) (d.iV 0)) then some [.t (bq (d.iV 0) (d.iV 2))] else some [.t false])
def ala:aL:=⟨42,[al,al,al],[],[],[dG],[],[],[],sF⟩
def t85:aF:=t84.bu ala
def alb:aH P t85:=dQ ak' func42

def Nb(d:LG):Option LG:=
 (aI (sF [.i (d.iV 0),.i 0,.i 345686399999]) fun h=>some [.t (h.bV 0)])
def alc:aL:=⟨144,[al],[],[],[dG],[],[],[],Nb⟩
def t86:aF:=t85.bu alc
def VH:aH P t86:=dQ alb func144

def VJ(d:LG):bp:=
 (bif (aN (d.iV 3) (d.iV 2)) then (gd (nL (d.iV 3) (((d.sV 0).size:Nat):Int)) (aI (G5 [.s (d.sV 1),.i (((d.sV 0).data.toList.getD ((d.iV 3).toNat) 0).toNat:Int)]) fun h=>(bif (aN (h.iV 0) 0) then eQ [.t false] else (gd (aA ((d.iV 3)+1)) (some (none,kp d 0 [.s,.s,.i] [.i ((d.iV 3)+1)])))))) else eR [])
def ald:bA:=⟨2,[],⟨18,[(0,dn),(1,dn),(7,al),(8,al)],[]⟩,[],[⟨.ret,⟨18,[(4,dG)],[]⟩,[]⟩,⟨.exit 0,⟨18,[],[]⟩,[]⟩],VJ⟩
def ale:LT:=bx.add 0 ald
def alf:aT P 0 ale (bf f188):=lA VH (bG _ _ _)
def Nc(d:LG):Option LG:=
 (be true (bR VJ [.s (d.sV 0),.s (d.sV 1),.i (((d.sV 0).size:Nat):Int),.i 0]) fun h k=>(bif aD h 0 then some [.t (k.bV 0)] else some [.t true]))
def alg:aL:=⟨188,[dn,dn],[],[],[dG],[],[],[],Nc⟩
def t87:aF:=t86.bu alg
def alh:aH P t87:=tP VH func188 alf

def Dg(d:LG):Option LG:=
 let h:=(((d.sV 0).size:Nat):Int); (aI (sF [.i h,.i 1,.i 40]) fun k=>(bif (k.bV 0) then (gd (bq 1 h) (aI (Nc [.s ((d.sV 0).extract 0 1),.s (⟨#[97,98,99,100,101,102,103,104,105,106,107,108,109,110,111,112,113,114,115,116,117,118,119,120,121,122]⟩:BY)]) fun v=>(bif (v.bV 0) then (aI (Nc [.s (d.sV 0),.s (⟨#[97,98,99,100,101,102,103,104,105,106,107,108,109,110,111,112,113,114,115,116,117,118,119,120,121,122,48,49,50,51,52,53,54,55,56,57,45,95]⟩:BY)]) fun y=>some [.t (y.bV 0)]) else some [.t false]))) else some [.t false]))
def ali:aL:=⟨145,[dn],[],[],[dG],[],[],[],Dg⟩
def t88:aF:=t87.bu ali
def alj:aH P t88:=dQ alh func145

def HT(d:LG):Option LG:=
 let h:=(!((gi (d.rV 0) 7).sV.toList==(⟨#[]⟩:BY).toList)); let k:=Dg [.s (gi (d.rV 0) 7).sV]; (aI (Nb [.i (gi (d.rV 0) 0).iV]) fun v=>(bif (!(v.bV 0)) then some [.i 1] else (aI (sF [.i (gi (d.rV 0) 1).iV,.i 1,.i 3]) fun y=>(bif (!(y.bV 0)) then some [.i 4] else (aI (Dg [.s (gi (d.rV 0) 2).sV]) fun I=>(bif (!(I.bV 0)) then some [.i 5] else (aI (Df [.s (gi (d.rV 0) 3).sV]) fun M=>(bif (!(M.bV 0)) then some [.i 3] else (aI (sF [.i (gi (d.rV 0) 4).iV,.i 0,.i 99999]) fun N=>(bif (!(N.bV 0)) then some [.i 1] else (aI (sF [.i (gi (d.rV 0) 5).iV,.i 0,.i 99999]) fun O=>(bif (!(O.bV 0)) then some [.i 1] else (bif (!((gi (d.rV 0) 6).sV.toList==(⟨#[]⟩:BY).toList)) then (aI (Dg [.s (gi (d.rV 0) 6).sV]) fun U=>(bif (!(U.bV 0)) then some [.i 5] else (bif h then (aI k fun W=>(bif (!(W.bV 0)) then some [.i 5] else some [.i 0])) else some [.i 0]))) else (bif h then (aI k fun g9=>(bif (!(g9.bV 0)) then some [.i 5] else some [.i 0])) else some [.i 0]))))))))))))))
def alk:aL:=⟨99,MH,[],[],[al],[],[],[],HT⟩
def t89:aF:=t88.bu alk
def VK:aH P t89:=dQ alj func99

def VL(d:LG):bp:=
 let v:=bg a_ ((d.rZ 1).gR (d.iV 3)); let k:=(d.iV 3)-1; let h:=(d.iV 3)+1; (bif (aN (d.iV 3) (d.iV 2)) then (gd (nL (d.iV 3) (lI (d.rZ 1))) (aI (HT [.l [v]]) fun y=>(bif ((y.iV 0) != 0) then eQ [.i (y.iV 0)] else (bif (aN 0 (d.iV 3)) then (gd (aA k) (gd (nL k (lI (d.rZ 0))) (aI (wW [.l [(bg a_ ((d.rZ 0).gR k))],.l [v]]) fun I=>(bif (bq 0 (I.iV 0)) then eQ [.i 7] else (gd (aA h) (some (none,kp d 0 [.l,.l,.i] [.i h]))))))) else (gd (aA h) (some (none,kp d 0 [.l,.l,.i] [.i h]))))))) else eR [])
def alm:bA:=⟨4,[],⟨34,Ux,[]⟩,[],[⟨.ret,⟨34,wY,[]⟩,[]⟩,⟨.exit 0,⟨34,[],[]⟩,[]⟩],VL⟩
def aln:LT:=bx.add 0 alm
def alo:aT P 0 aln (bf f68):=lA VK (bG _ _ _)
def Nd(d:LG):Option LG:=
 let h:=(lI (d.rZ 0)); (bif (aN 2000 h) then some [.i 2] else (be true (bR VL [.l (d.rZ 0),.l (d.rZ 0),.i h,.i 0]) fun k v=>(bif aD k 0 then some [.i (v.iV 0)] else some [.i 0])))
def alp:aL:=⟨68,[kA],[],[],[al],[],[],[],Nd⟩
def t90:aF:=t89.bu alp
def alq:aH P t90:=tP VK func68 alo

def HU(d:LG):Option LG:=
 some [.t ((gi (d.rV 0) 3).sV.toList==(gi (d.rV 1) 0).sV.toList)]
def alr:aL:=⟨70,Th,[],[],[dG],[],[],[],HU⟩
def t91:aF:=t90.bu alr
def VM:aH P t91:=dQ alq func70

def VN(d:LG):bp:=
 let h:=bg [.str,.list a_] (d.rV 1); (bif (aN (d.iV 3) (d.iV 2)) then (gd (nL (d.iV 3) (lI (d.rZ 0))) (aI (HU [.l [(bg a_ ((d.rZ 0).gR (d.iV 3)))],.l [h]]) fun k=>(bif (k.bV 0) then eQ [.i (d.iV 3)] else (gd (aA ((d.iV 3)+1)) (nQ [.l (d.rZ 0),.l [h],.i (d.iV 2),.i ((d.iV 3)+1)]))))) else eR [])
def als:bA:=⟨2,[],⟨19,[(0,kA),(1,.clo 70 [.cptr [.str,.list a_]]),(7,al),(8,al)],[]⟩,[],[⟨.ret,⟨19,uF,[]⟩,[]⟩,⟨.exit 0,⟨19,[],[]⟩,[]⟩],VN⟩
def alu:LT:=bx.add 0 als
def alv:aT P 0 alu (bf f100):=lA VM (bG _ _ _)
def VO(d:LG):Option LG:=
 (be true (bR VN [.l (d.rZ 0),.l [(bg [.str,.list a_] (d.rV 1))],.i (lI (d.rZ 0)),.i 0]) fun h k=>(bif aD h 0 then some [.i (k.iV 0)] else some [.i (-1)]))
def alw:aL:=⟨100,To,[],[],[al],[],[],[],VO⟩
def t92:aF:=t91.bu alw
def alx:aH P t92:=tP VM func100 alv

def VP(d:LG):Option LG:=
 (aI (VO [.l (d.rZ 0),.l [(bg [.str,.list a_] (d.rV 1))]]) fun h=>some [.t (bq 0 (h.iV 0))])
def aly:aL:=⟨69,To,[],[],[dG],[],[],[],VP⟩
def t93:aF:=t92.bu aly
def VQ:aH P t93:=dQ alx func69

def HV(d:LG):Option LG:=
 (aI (Df [.s (gi (d.rV 0) 0).sV]) fun k=>(bif (!(k.bV 0)) then some [.i 3] else (aI (Nd [.l (gi (d.rV 0) 1).rZ]) fun h=>(bif ((h.iV 0) != 0) then some [.i (h.iV 0)] else (aI (VP [.l (gi (d.rV 0) 1).rZ,.l [(bg [.str,.list a_] (d.rV 0))]]) fun v=>(bif (v.bV 0) then some [.i 6] else some [.i 0]))))))
def alz:aL:=⟨41,[po],[],[],[al],[],[],[],HV⟩
def t94:aF:=t93.bu alz
def VR:aH P t94:=VQ.aP (nC hm (VQ.kQ [69]) func41 aB (bG _ _ _) (fun d=>by kernel_rfl) aB)

def zW(d:LG):bp:=
 let h:=(d.rZ 1).gR (d.iV 3); let v:=(d.iV 3)-1; let y:=HV [.l [(bg [.str,.list a_] h)]]; let k:=(d.iV 3)+1; let I:=gi ((d.rZ 0).gR v) 0; (bif (aN (d.iV 3) (d.iV 2)) then (gd (nL (d.iV 3) (lI (d.rZ 1))) (aI (Df [.s (h.sV 0)]) fun O=>(bif (!(O.bV 0)) then eQ [.i 3] else (bif (aN 0 (d.iV 3)) then (gd (aA v) (gd (nL v (lI (d.rZ 0))) (bif ((Op.bytesLess (h.sV 0).toList I.sV.toList)||((h.sV 0).toList==I.sV.toList)) then eQ [.i 7] else (aI y fun M=>(bif ((M.iV 0) != 0) then eQ [.i (M.iV 0)] else (gd (aA k) (some (none,kp d 0 [.l,.l,.i] [.i k])))))))) else (aI y fun N=>(bif ((N.iV 0) != 0) then eQ [.i (N.iV 0)] else (gd (aA k) (some (none,kp d 0 [.l,.l,.i] [.i k]))))))))) else eR [])
def alA:bA:=⟨4,[],⟨39,[(0,.s (.list c8)),(9,.s (.list c8)),(10,al),(11,al)],[]⟩,[],[⟨.ret,⟨39,wY,[]⟩,[]⟩,⟨.exit 0,⟨39,[],[]⟩,[]⟩],zW⟩
def alB:LT:=bx.add 0 alA
def alC:aT P 0 alB (bf f10):=lA VR (bG _ _ _)
def Dh(d:LG):Option LG:=
 let h:=(lI (d.rZ 0)); (bif (aN 100 h) then some [.i 2] else (be true (bR zW [.l (d.rZ 0),.l (d.rZ 0),.i h,.i 0]) fun k v=>(bif aD k 0 then some [.i (v.iV 0)] else some [.i 0])))
def alD:aL:=⟨10,uy,[],[],[al],[],[],[],Dh⟩
def t95:aF:=t94.bu alD
def alE:aH P t95:=tP VR func10 alC

def Di(d:LG):Option LG:=
 (bif (d.bV 0) then some [.i (d.iV 1)] else some [.i 0])
def alF:aL:=⟨12,[dG,al],[],[],[al],[],[],[],Di⟩
def t96:aF:=t95.bu alF
def VS:aH P t96:=dQ alE func12

def uK(d:LG):bp:=
 let h:=gi ((d.rZ 0).gR (d.iV 2)) 0; (bif (aN (d.iV 2) (d.iV 1)) then (gd (nL (d.iV 2) (lI (d.rZ 0))) (bif (h.iV != 0) then eQ [.i h.iV] else (gd (aA ((d.iV 2)+1)) (nQ [.l (d.rZ 0),.i (d.iV 1),.i ((d.iV 2)+1)])))) else eR [])
def alG:bA:=⟨2,[],⟨15,[(5,ja),(6,al),(7,al)],[]⟩,[],[⟨.ret,⟨15,wY,[]⟩,[]⟩,⟨.exit 0,⟨15,[],[]⟩,[]⟩],uK⟩
def alH:LT:=bx.add 0 alG
def alI:aT P 0 alH (bf f11):=lA VS (bG _ _ _)
def qm(d:LG):Option LG:=
 (be true (bR uK [.l (d.rZ 0),.i (lI (d.rZ 0)),.i 0]) fun h k=>(bif aD h 0 then some [.i (k.iV 0)] else some [.i 0]))
def alJ:aL:=⟨11,[ja],[],[],[al],[],[],[],qm⟩
def t97:aF:=t96.bu alJ
def alK:aH P t97:=tP VS func11 alI

def Dj(d:LG):Option LG:=
 (aI (sF [.i (d.iV 0),.i 0,.i 3600000]) fun h=>(bif (!(h.bV 0)) then some [.i 1] else some [.i 0]))
def alL:aL:=⟨13,[al],[],[],[al],[],[],[],Dj⟩
def t98:aF:=t97.bu alL
def alM:aH P t98:=dQ alK func13

def VT(d:LG):Option LG:=
 some [.t ((gi (d.rV 0) 0).sV.toList==(gi (d.rV 1) 0).sV.toList)]
def alN:aL:=⟨102,[po,.s (.cptr [.str])],[],[],[dG],[],[],[],VT⟩
def t99:aF:=t98.bu alN
def VU:aH P t99:=dQ alM func102

def Dk(d:LG):bp:=
 (bif (aN (d.iV 3) (d.iV 2)) then (gd (nL (d.iV 3) (lI (d.rZ 0))) (aI (VT [.l [(bg [.str,.list a_] ((d.rZ 0).gR (d.iV 3)))],.l [[.s (gi (d.rV 1) 0).sV]]]) fun h=>(bif (h.bV 0) then eQ [.i (d.iV 3)] else (gd (aA ((d.iV 3)+1)) (nQ [.l (d.rZ 0),.l [[.s (gi (d.rV 1) 0).sV]],.i (d.iV 2),.i ((d.iV 3)+1)]))))) else eR [])
def alO:bA:=⟨2,[],⟨19,[(0,.s (.list c8)),(1,.clo 102 [.cptr [.str]]),(7,al),(8,al)],[]⟩,[],[⟨.ret,⟨19,uF,[]⟩,[]⟩,⟨.exit 0,⟨19,[],[]⟩,[]⟩],Dk⟩
def alP:LT:=bx.add 0 alO
def alQ:aT P 0 alP (bf f101):=lA VU (bG _ _ _)
def Nf(d:LG):Option LG:=
 (be true (bR Dk [.l (d.rZ 0),.l [[.s (gi (d.rV 1) 0).sV]],.i (lI (d.rZ 0)),.i 0]) fun h k=>(bif aD h 0 then some [.i (k.iV 0)] else some [.i (-1)]))
def alR:aL:=⟨101,[.s (.list c8),.clo 102 [.cptr [.str]]],[],[],[al],[],[],[],Nf⟩
def t100:aF:=t99.bu alR
def VV:aH P t100:=tP VU func101 alQ

def xc(d:LG):Option LG:=
 (aI (Nf [.l (d.rZ 0),.l [[.s (d.sV 1)]]]) fun h=>some [.i (h.iV 0)])
def alS:aL:=⟨71,MI,[],[],[al],[],[],[],xc⟩
def t101:aF:=t100.bu alS
def Ng:aH P t101:=VV.aP (nC hm (VV.kQ [101]) func71 aB (bG _ _ _) (fun d=>by kernel_rfl) aB)

def Nh(d:LG):bp:=
 let h:=(d.nN 3); let v:=(d.iV 2).toNat+(d.iV 4).toNat; let M:=(d.rZ 0).set (0+(d.iV 1).toNat) (eh [.str] ((d.rZ 0).getD (0+(d.iV 1).toNat) []) 0 [.s (gi ((d.rZ 0).getD v []) 0).sV]); let y:=(d.iV 4)-1; let N:=bE (d.rZ 0); let k:=(d.iV 4)+1; let O:=nL (d.iV 4) h; let U:=decide (v<(d.rZ 0).length); let W:=(d.nN 2); let I:=(d.iV 2).toNat+y.toNat; (bif (aN (d.iV 4) h) then (gd O (gd U (gd (aA y) (gd (nL y h) (gd (decide (I<(d.rZ 0).length)) (bif (!((gi ((d.rZ 0).getD v []) 0).sV.toList==(gi ((d.rZ 0).getD I []) 0).sV.toList)) then (gd O (gd U (gd (nL (d.iV 1) (lI (d.rZ 0))) (gd (decide ((0+(d.iV 1).toNat)<(d.rZ 0).length)) (gd (aA ((d.iV 1)+1)) (gd (aA k) (gd ((aD (d.rZ 0).length M.length)&&true) (nQ [.l M,.i ((d.iV 1)+1),.i W,.i h,.i k])))))))) else (gd (aA k) (gd N (nQ [.l (d.rZ 0),.i (d.iV 1),.i W,.i h,.i k]))))))))) else (gd N (eQ [.l (d.rZ 0),.i (d.iV 1)])))
def alT:bA:=⟨9,[],⟨61,[(0,.s (.vQ 0 1)),(3,al),(4,.s (.sub 0 1)),(5,al)],jb⟩,eI,[⟨.exit 2,⟨61,[(0,.s (.vQ 0 1)),(3,al)],jb⟩,eI⟩],Nh⟩
def VW:LT:=bx.add 1 alT
def alU:aT P 1 VW (bf f72):=lA Ng (bG _ _ _)
def HW(d:LG):bp:=
 let y:=bE (d.rZ 0); let k:=(lI (d.rZ 0)); let v:=(d.iV 1)-1; let I:=0+(d.iV 1).toNat; (bif (aN (d.iV 1) k) then (gd (nL (d.iV 1) k) (gd (decide (I<(d.rZ 0).length)) (gd (aA v) (gd (nL v k) (gd (decide ((0+v.toNat)<(d.rZ 0).length)) (bif ((gi ((d.rZ 0).getD I []) 0).sV.toList==(gi ((d.rZ 0).getD (0+v.toNat) []) 0).sV.toList) then (gd ((cO (d.iV 1))&&(bq (d.iV 1) k)) (be y (bR Nh [.l (d.rZ 0),.i (d.iV 1),.i ((I:Nat):Int),.i ((((d.rZ 0).length-(d.iV 1).toNat):Nat):Int),.i 1]) fun U h=>let M:=(h.rZ 0).length-(h.iV 1).toNat; let O:=((cO (h.iV 1))&&(bq (h.iV 1) (lI (h.rZ 0)))); let N:=0+(h.iV 1).toNat; (gd O (gd (dv (N+M) (h.rZ 0).length) (gd O (eQ [.l ((h.rZ 0).take N++cn M [.s (⟨#[]⟩:BY)]++(h.rZ 0).drop (N+M)),.i ((((h.iV 1).toNat-0):Nat):Int)])))))) else (gd (aA ((d.iV 1)+1)) (gd y (nQ [.l (d.rZ 0),.i ((d.iV 1)+1)]))))))))) else (gd y (eR [.l (d.rZ 0)])))
def alV:bA:=⟨4,[],⟨61,[(0,.s (.vQ 0 1)),(3,al)],jb⟩,eI,[⟨.ret,⟨61,[(2,.s (.pre 0 1))],jb⟩,eI⟩,⟨.exit 0,⟨61,[(0,.s (.vQ 0 1))],jb⟩,eI⟩],HW⟩
def alW:LT:=VW.add 1 alV
def alX:aT P 1 alW (bf f72):=lA Ng alU
def zX(d:LG):Option LG:=
 let k:=(lI (d.rZ 0)); (bif (aN k 2) then some [.l (d.rZ 0),.i k] else (be (bE (d.rZ 0)) (bR HW [.l (d.rZ 0),.i 1]) fun v h=>(bif aD v 0 then some [.l (h.rZ 0),.i (h.nN 1)] else some [.l (h.rZ 0),.i (lI (h.rZ 0))])))
def alY:aL:=⟨72,MK,jb,iu,[.s (.pre 0 1)],jb,eI,[],zX⟩
def t102:aF:=t101.du alY
def Ni:aH P t102:=tW Ng func72 alX

def Dl(d:LG):bp:=
 let v:=((d.rZ 0)++([[.s (gi ((d.rZ 5).gR (d.iV 7)) 3).sV]]:LL)); let k:=aD (d.rZ 0).length (d.rZ 0).length; let h:=(d.iV 7)+1; (bif (aN (d.iV 7) (d.iV 6)) then (gd (nL (d.iV 7) (lI (d.rZ 5))) (aI (xc [.l (d.rZ 1),.s (gi ((d.rZ 5).gR (d.iV 7)) 3).sV]) fun y=>(bif (aN (y.iV 0) 0) then (gd (k&&(decide (((d.rZ 0).length+1)<=1048576))) (gd (aA h) (gd (bE v) (some (none,.l v::kp d 1 [.l,.l,.i,.i,.l,.i] [.i h]))))) else (gd (aA h) (gd (k&&true) (some (none,kp d 0 [.l,.l,.l,.i,.i,.l,.i] [.i h]))))))) else (gd (k&&true) (some (some 0,kp d 0 [.l,.l,.l,.i,.i] []))))
def alZ:bA:=⟨6,[],⟨37,UC,jb⟩,uz,[⟨.exit 2,⟨37,Ha,jb⟩,uz⟩],Dl⟩
def VX:LT:=bx.add 0 alZ
def al0:aT P 0 VX (bf f43):=lA Ni (bG _ _ _)
def zY(d:LG):bp:=
 let k:=bE (d.rZ 0); let v:=gi ((d.rZ 2).gR (d.iV 4)) 1; (bif (aN (d.iV 4) (d.iV 3)) then (gd (nL (d.iV 4) (lI (d.rZ 2))) (be k (bR Dl (kp d 0 [.l,.l,.l,.i,.i] [.l v.rZ,.i (lI v.rZ),.i 0])) fun y h=>(gd (aA ((h.iV 4)+1)) (gd (bE (h.rZ 0)) (some (none,kp h 0 [.l,.l,.l,.i] [.i ((h.iV 4)+1)])))))) else (gd k (eQ [.l (d.rZ 0)])))
def al1:bA:=⟨3,[(3,[.str])],⟨37,Ha,jb⟩,uz,[⟨.exit 0,⟨37,[(3,.s (.vQ 0 1))],jb⟩,uz⟩],zY⟩
def al2:LT:=VX.add 0 al1
def al3:aT P 0 al2 (bf f43):=lA Ni al0
def HX(d:LG):Option LG:=
 (be true (bR zY [.l [],.l (d.rZ 0),.l (d.rZ 0),.i (lI (d.rZ 0)),.i 0]) fun M k=>let v:=zC [.l (k.rZ 0)]; (i_ ((bE (k.rZ 0))&&v.isSome) v fun y=>let I:=zX [.l (y.rZ 0)]; (i_ (((aD (k.rZ 0).length (y.rZ 0).length)&&true)&&I.isSome) I fun h=>(gd ((dv (h.iV 1).toNat (h.rZ 0).length)&&true) (some [.l ((h.rZ 0).take ((h.iV 1).toNat))])))))
def al4:aL:=⟨43,uy,[],[],[.s (.wy [.str])],[],[],[],HX⟩
def t103:aF:=t102.bu al4
def Nj:aH P t103:=tP Ni func43 al3

def Dm(d:LG):bp:=
 let h:=(d.iV 9)+1; (bif (aN (d.iV 9) (d.iV 8)) then (gd (nL (d.iV 9) (lI (d.rZ 7))) (bif ((gi ((d.rZ 7).gR (d.iV 9)) 3).sV.toList==(d.sV 0).toList) then (gd (aA ((d.iV 3)+1)) (gd (aA h) (some (none,kp d 0 [.s,.i,.i] (.i ((d.iV 3)+1)::kp d 4 [.l,.i,.i,.l,.i] [.i h]))))) else (gd (aA h) (some (none,kp d 0 [.s,.i,.i,.i,.l,.i,.i,.l,.i] [.i h]))))) else some (some 0,kp d 0 [.s,.i,.i,.i,.l,.i,.i] []))
def al5:bA:=⟨7,[],⟨43,[(1,dn),(6,al),(7,al),(10,al),(13,.s (.list c8)),(14,al),(15,al),(20,kA),(21,al),(22,al)],[]⟩,[],[⟨.exit 2,⟨43,[(1,dn),(6,al),(7,al),(10,al),(13,.s (.list c8)),(14,al),(15,al)],[]⟩,[]⟩],Dm⟩
def VY:LT:=bx.add 0 al5
def al6:aT P 0 VY (bf f44):=lA Nj (bG _ _ _)
def Dn(d:LG):bp:=
 let y:=gi ((d.rZ 3).gR (d.iV 5)) 1; (bif (aN (d.iV 5) (d.iV 4)) then (gd (nL (d.iV 5) (lI (d.rZ 3))) (be true (bR Dm (kp d 0 [.s,.i,.i] (.i 0::kp d 3 [.l,.i,.i] [.l y.rZ,.i (lI y.rZ),.i 0]))) fun I h=>let v:=(h.iV 2)+(h.iV 3); let k:=(h.iV 6)+1; (gd (aA v) (bif (aN 0 (h.iV 3)) then (gd (aA ((h.iV 1)+1)) (gd (aA k) (nQ [.s (h.sV 0),.i ((h.iV 1)+1),.i v,.l (h.rZ 4),.i (h.iV 5),.i k]))) else (gd (aA k) (nQ [.s (h.sV 0),.i (h.iV 1),.i v,.l (h.rZ 4),.i (h.iV 5),.i k])))))) else eQ [.i (d.iV 1),.i (d.iV 2)])
def al7:bA:=⟨3,[],⟨43,[(1,dn),(6,al),(7,al),(13,.s (.list c8)),(14,al),(15,al)],[]⟩,[],[⟨.exit 0,⟨43,[(6,al),(7,al)],[]⟩,[]⟩],Dn⟩
def al8:LT:=VY.add 0 al7
def al9:aT P 0 al8 (bf f44):=lA Nj al6
def Dp(d:LG):Option LG:=
 (be true (bR Dn [.s (d.sV 1),.i 0,.i 0,.l (d.rZ 0),.i (lI (d.rZ 0)),.i 0]) fun k h=>some [.i (h.iV 0),.i (h.iV 1)])
def al_:aL:=⟨44,MI,[],[],[al,al],[],[],[],Dp⟩
def t104:aF:=t103.bu al_
def Nk:aH P t104:=tP Nj func44 al9

def Dq(d:LG):bp:=
 let v:=gi ((d.rZ 4).gR (d.iV 6)) 0; let k:=aD (d.rZ 0).length (d.rZ 0).length; let h:=(d.iV 6)+1; (bif (aN (d.iV 6) (d.iV 5)) then (gd (nL (d.iV 6) (lI (d.rZ 4))) (aI (Dp [.l (d.rZ 1),.s v.sV]) fun I=>(bif ((I.iV 0)==(d.iV 3)) then (aI (mM [.i (d.iV 3)]) fun M=>let y:=((d.rZ 0)++([[.s v.sV,.s (M.sV 0)]]:LL)); (gd (k&&(decide (((d.rZ 0).length+1)<=1048576))) (gd (aA h) (gd (bE y) (some (none,.l y::kp d 1 [.l,.i,.i,.l,.i] [.i h])))))) else (gd (aA h) (gd (k&&true) (some (none,kp d 0 [.l,.l,.i,.i,.l,.i] [.i h]))))))) else (gd (k&&true) (some (some 0,kp d 0 [.l,.l,.i,.i] []))))
def al':bA:=⟨6,[],⟨43,[(0,.s (.list c8)),(1,al),(5,.s (.vQ 0 2)),(6,al),(19,.s (.list [.str])),(20,al),(21,al)],sD⟩,q9,[⟨.exit 2,⟨43,UD,sD⟩,q9⟩],Dq⟩
def VZ:LT:=bx.add 0 al'
def ama:aT P 0 VZ (bf f14):=lA Nk (bG _ _ _)
def zZ(d:LG):bp:=
 let k:=bE (d.rZ 0); (bif (bq (d.iV 2) (d.iV 3)) then (aI (HX [.l (d.rZ 1)]) fun v=>(be k (bR Dq (kp d 0 [.l,.l,.i,.i] [.l (v.rZ 0),.i (lI (v.rZ 0)),.i 0])) fun y h=>(gd (aA ((h.iV 3)-1)) (gd (bE (h.rZ 0)) (some (none,kp h 0 [.l,.l,.i] [.i ((h.iV 3)-1)])))))) else (gd k (eQ [.l (d.rZ 0)])))
def amb:bA:=⟨3,[(5,[.str,.str])],⟨43,UD,sD⟩,q9,[⟨.exit 0,⟨43,[(5,.s (.vQ 0 2))],sD⟩,q9⟩],zZ⟩
def amc:LT:=VZ.add 0 amb
def amd:aT P 0 amc (bf f14):=lA Nk ama
def z_(d:LG):Option LG:=
 (be true (bR zZ [.l [],.l (d.rZ 0),.i (d.iV 1),.i (lI (d.rZ 0))]) fun k h=>(gd (bE (h.rZ 0)) (some [.l (h.rZ 0)])))
def ame:aL:=⟨14,G0,[],[],[.s (.list [.str,.str])],[],[],[],z_⟩
def t105:aF:=t104.bu ame
def amf:aH P t105:=tP Nk func14 amd

def uL(d:LG):Option LG:=
 (aI (Dp [.l (gi (d.rV 1) 0).rZ,.s (d.sV 0)]) fun h=>some [.t ((h.iV 1) != 1)])
def amg:aL:=⟨46,[dn,.s (.cptr [.list c8])],[],[],[dG],[],[],[],uL⟩
def t106:aF:=t105.bu amg
def V0:aH P t106:=dQ amf func46

def HY(d:LG):bp:=
 (bif (aN (d.iV 3) (d.iV 2)) then (gd (nL (d.iV 3) (lI (d.rZ 0))) (aI (uL [.s (gi ((d.rZ 0).gR (d.iV 3)) 0).sV,.l [[.l (gi (d.rV 1) 0).rZ]]]) fun h=>(bif (h.bV 0) then eQ [.i (d.iV 3)] else (gd (aA ((d.iV 3)+1)) (nQ [.l (d.rZ 0),.l [[.l (gi (d.rV 1) 0).rZ]],.i (d.iV 2),.i ((d.iV 3)+1)]))))) else eR [])
def amh:bA:=⟨2,[],⟨19,[(0,.s (.list [.str])),(1,.clo 46 [.cptr [.list c8]]),(7,al),(8,al)],[]⟩,[],[⟨.ret,⟨19,uF,[]⟩,[]⟩,⟨.exit 0,⟨19,[],[]⟩,[]⟩],HY⟩
def ami:LT:=bx.add 0 amh
def amj:aT P 0 ami (bf f73):=lA V0 (bG _ _ _)
def HZ(d:LG):Option LG:=
 (be true (bR HY [.l (d.rZ 0),.l [[.l (gi (d.rV 1) 0).rZ]],.i (lI (d.rZ 0)),.i 0]) fun h k=>(bif aD h 0 then some [.i (k.iV 0)] else some [.i (-1)]))
def amk:aL:=⟨73,[.s (.list [.str]),.clo 46 [.cptr [.list c8]]],[],[],[al],[],[],[],HZ⟩
def t107:aF:=t106.bu amk
def Nl:aH P t107:=tP V0 func73 amj

end
end Go.Proofs.jI
