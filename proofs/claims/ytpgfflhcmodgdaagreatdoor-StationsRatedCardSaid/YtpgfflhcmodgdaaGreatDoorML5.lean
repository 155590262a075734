/-
 What is proved here: functions of the program as functions on data. No condition.
-/
import Derived.Test.YtpgfflhcmodgdaaGreatDoorML4
set_option linter.all false
open List renaming replicate->cn
open Nat renaming beq->aD,ble->dv,blt->dy
namespace Go.Proofs.jI
open Go Go.AL Go.Proofs Tryz
noncomputable section
def V3(d:LG):bp:=
 let v:=((d.rZ 0)++([[.s (gi ((d.rZ 5).gR (d.iV 7)) 3).sV]]:LL)); let k:=aD (d.rZ 0).length (d.rZ 0).length; let h:=(d.iV 7)+1; (bif (aN (d.iV 7) (d.iV 6)) then (gd (nL (d.iV 7) (lI (d.rZ 5))) (aI (xc [.l (d.rZ 1),.s (gi ((d.rZ 5).gR (d.iV 7)) 3).sV]) fun y=>(bif (aN (y.iV 0) 0) then (gd (k&&(decide (((d.rZ 0).length+1)<=1048576))) (gd (aA h) (gd (bE v) (some (none,.l v::kp d 1 [.l,.l,.i,.i,.l,.i] [.i h]))))) else (gd (aA h) (gd (k&&true) (some (none,kp d 0 [.l,.l,.l,.i,.i,.l,.i] [.i h]))))))) else (gd (k&&true) (some (some 0,kp d 0 [.l,.l,.l,.i,.i] []))))
def aml:bA:=⟨6,[],⟨37,UC,jb⟩,uz,[⟨.exit 2,⟨37,Ha,jb⟩,uz⟩],V3⟩
def V4:LT:=bx.add 0 aml
def amm:aT P 0 V4 (bf f43):=lA Nl (bG _ _ _)
def Nn(d:LG):bp:=
 let k:=bE (d.rZ 0); let v:=gi ((d.rZ 2).gR (d.iV 4)) 1; (bif (aN (d.iV 4) (d.iV 3)) then (gd (nL (d.iV 4) (lI (d.rZ 2))) (be k (bR V3 (kp d 0 [.l,.l,.l,.i,.i] [.l v.rZ,.i (lI v.rZ),.i 0])) fun y h=>(gd (aA ((h.iV 4)+1)) (gd (bE (h.rZ 0)) (some (none,kp h 0 [.l,.l,.l,.i] [.i ((h.iV 4)+1)])))))) else (gd k (eQ [.l (d.rZ 0)])))
def amn:bA:=⟨3,[(3,[.str])],⟨37,Ha,jb⟩,uz,[⟨.exit 0,⟨37,[(3,.s (.vQ 0 1))],jb⟩,uz⟩],Nn⟩
def amo:LT:=V4.add 0 amn
def amp:aT P 0 amo (bf f43):=lA Nl amm
def H5(d:LG):Option LG:=
 (be true (bR Nn [.l [],.l (d.rZ 0),.l (d.rZ 0),.i (lI (d.rZ 0)),.i 0]) fun N h=>let v:=zC [.l (h.rZ 0)]; (i_ ((bE (h.rZ 0))&&v.isSome) v fun y=>let I:=zX [.l (y.rZ 0)]; (i_ (((aD (h.rZ 0).length (y.rZ 0).length)&&true)&&I.isSome) I fun k=>let M:=(k.rZ 0).take ((k.iV 1).toNat); (gd ((aD (k.iV 1).toNat M.length)&&true) (some [.l M])))))
def amq:aL:=⟨43,uy,[],[],MK,jb,iu,[(1000002,[])],H5⟩
def t108:aF:=t107.du amq
def No:aH P t108:=tW Nl func43 amp

def Ah(d:LG):bp:=
 let k:=(lI (d.rZ 0)); let I:=bE (d.rZ 0); let h:=(d.iV 3)+1; let v:=gi (d.rV 1) 0; let y:=0+(d.iV 3).toNat; let M:=(d.rZ 0).set (0+(d.iV 2).toNat) (eh [.str] ((d.rZ 0).getD (0+(d.iV 2).toNat) []) 0 [.s (gi ((d.rZ 0).getD y []) 0).sV]); (bif (aN (d.iV 3) k) then (gd (nL (d.iV 3) k) (gd (decide (y<(d.rZ 0).length)) (aI (uL [.s (gi ((d.rZ 0).getD y []) 0).sV,.l [[.l v.rZ]]]) fun N=>(bif (!(N.bV 0)) then (gd (nL (d.iV 2) k) (gd (decide ((0+(d.iV 2).toNat)<(d.rZ 0).length)) (gd (aA ((d.iV 2)+1)) (gd (aA h) (gd ((aD (d.rZ 0).length M.length)&&true) (nQ [.l M,.l [[.l v.rZ]],.i ((d.iV 2)+1),.i h])))))) else (gd (aA h) (gd I (nQ [.l (d.rZ 0),.l [[.l v.rZ]],.i (d.iV 2),.i h]))))))) else (gd I (eQ [.l (d.rZ 0),.i (d.iV 2)])))
def amr:bA:=⟨5,[],⟨42,[(0,.s (.vQ 0 1)),(1,.clo 46 [.cptr [.list c8]]),(5,al),(6,al)],jb⟩,eI,[⟨.exit 0,⟨42,[(0,.s (.vQ 0 1)),(5,al)],jb⟩,eI⟩],Ah⟩
def ams:LT:=bx.add 1 amr
def amt:aT P 1 ams (bf f45):=aT.add hm (No.kQ [73]) aB (bG _ _ _) (fun d=>by kernel_rfl)
def H6(d:LG):Option LG:=
 let I:=HZ [.l (d.rZ 0),.l [[.l (gi (d.rV 1) 0).rZ]]]; let M:=bE (d.rZ 0); (i_ (M&&I.isSome) I fun k=>(bif ((k.iV 0)==(-1)) then some [.l (d.rZ 0),.i (lI (d.rZ 0))] else (gd (aA ((k.iV 0)+1)) (be M (bR Ah [.l (d.rZ 0),.l [[.l (gi (d.rV 1) 0).rZ]],.i (k.iV 0),.i ((k.iV 0)+1)]) fun O h=>let v:=(h.rZ 0).length-(h.iV 1).toNat; let N:=((cO (h.iV 1))&&(bq (h.iV 1) (lI (h.rZ 0)))); let y:=0+(h.iV 1).toNat; (gd N (gd (dv (y+v) (h.rZ 0).length) (gd N (some [.l ((h.rZ 0).take y++cn v [.s (⟨#[]⟩:BY)]++(h.rZ 0).drop (y+v)),.i ((((h.iV 1).toNat-0):Nat):Int)]))))))))
def amu:aL:=⟨45,[.s (.vQ 0 1),.clo 46 [.cptr [.list c8]]],jb,iu,[.s (.pre 0 1)],jb,eI,[],H6⟩
def t109:aF:=t108.du amu
def amv:aH P t109:=No.aW (nC hm (No.kQ [73]) func45 aB amt (fun d=>by kernel_rfl) aB)

def Ai(d:LG):Option LG:=
 (aI (H5 [.l (d.rZ 0)]) fun k=>let v:=H6 [.l (k.rZ 0),.l [[.l (d.rZ 0)]]]; (i_ ((bE (k.rZ 0))&&v.isSome) v fun h=>(gd ((dv (h.iV 1).toNat (h.rZ 0).length)&&true) (some [.l ((h.rZ 0).take ((h.iV 1).toNat))]))))
def amw:aL:=⟨15,uy,[],[],[.s (.wy [.str])],[],[],[],Ai⟩
def t110:aF:=t109.bu amw
def amx:aH P t110:=dQ amv func15

def H7(d:LG):Option LG:=
 let h:=(gi (d.rV 1) 1).rZ.gR ((gi (d.rV 0) 0).iV); let k:=gi (d.rV 0) 1; (gd (nL (gi (d.rV 0) 0).iV (((gi (d.rV 1) 1).rZ.length:Nat):Int)) (bif ((h.sV 3).toList==(gi (d.rV 2) 3).sV.toList) then (bif ((h.sV 2).toList==(gi (d.rV 2) 2).sV.toList) then (bif ((h.iV 1)==(gi (d.rV 2) 1).iV) then (bif (k.iV==1) then some [.t true] else (bif (k.iV==3) then some [.t true] else some [.t (k.iV==6)])) else some [.t false]) else some [.t false]) else some [.t false]))
def amy:aL:=⟨75,[.s (.row gy),.s (.cptr [.str,.list a_]),.s (.cptr a_)],[],[],[dG],[],[],[],H7⟩
def t111:aF:=t110.bu amy
def V5:aH P t111:=dQ amx func75

def Ds(d:LG):bp:=
 let h:=bg [.str,.list a_] (d.rV 1); let k:=bg a_ (d.rV 2); (bif (aN (d.iV 4) (d.iV 3)) then (gd (nL (d.iV 4) (lI (d.rZ 0))) (aI (H7 [.l [(bg gy ((d.rZ 0).gR (d.iV 4)))],.l [h],.l [k]]) fun v=>(bif (v.bV 0) then eQ [.i (d.iV 4)] else (gd (aA ((d.iV 4)+1)) (nQ [.l (d.rZ 0),.l [h],.l [k],.i (d.iV 3),.i ((d.iV 4)+1)]))))) else eR [])
def amz:bA:=⟨2,[],⟨19,[(0,.s (.list gy)),(1,.clo 75 [.cptr [.str,.list a_],.cptr a_]),(7,al),(8,al)],[]⟩,[],[⟨.ret,⟨19,uF,[]⟩,[]⟩,⟨.exit 0,⟨19,[],[]⟩,[]⟩],Ds⟩
def amA:LT:=bx.add 0 amz
def amB:aT P 0 amA (bf f103):=lA V5 (bG _ _ _)
def Np(d:LG):Option LG:=
 (be true (bR Ds [.l (d.rZ 0),.l [(bg [.str,.list a_] (d.rV 1))],.l [(bg a_ (d.rV 2))],.i (lI (d.rZ 0)),.i 0]) fun h k=>(bif aD h 0 then some [.i (k.iV 0)] else some [.i (-1)]))
def amC:aL:=⟨103,Tp,[],[],[al],[],[],[],Np⟩
def t112:aF:=t111.bu amC
def amD:aH P t112:=tP V5 func103 amB

def H8(d:LG):Option LG:=
 (aI (Np [.l (d.rZ 0),.l [(bg [.str,.list a_] (d.rV 1))],.l [(bg a_ (d.rV 2))]]) fun h=>some [.t (bq 0 (h.iV 0))])
def amE:aL:=⟨74,Tp,[],[],[dG],[],[],[],H8⟩
def t113:aF:=t112.bu amE
def V6:aH P t113:=dQ amD func74

def sG(d:LG):bp:=
 let h:=(lI (d.rZ 1)); (bif (aN (d.iV 4) (d.iV 3)) then (gd (nL (d.iV 4) (lI (d.rZ 2))) (bif (bq h (d.iV 4)) then eQ [.i 1] else (gd (nL (d.iV 4) h) (aI (zq [.i (gi ((d.rZ 2).gR (d.iV 4)) 0).iV,.i (gi ((d.rZ 1).gR (d.iV 4)) 0).iV]) fun k=>(bif ((k.iV 0) != 0) then eQ [.i (k.iV 0)] else (gd (aA ((d.iV 4)+1)) (some (none,kp d 0 [.l,.l,.l,.i] [.i ((d.iV 4)+1)])))))))) else eR [.l (d.rZ 0),.l (d.rZ 1)])
def amF:bA:=⟨2,[],⟨36,[(0,ja),(1,ja),(9,ja),(10,al),(11,al)],[]⟩,[],[⟨.ret,⟨36,uF,[]⟩,[]⟩,⟨.exit 0,⟨36,[(0,ja),(1,ja)],[]⟩,[]⟩],sG⟩
def amG:LT:=bx.add 0 amF
def amH:aT P 0 amG (bf f222):=lA V6 (bG _ _ _)
def H9(d:LG):Option LG:=
 (be true (bR sG [.l (d.rZ 0),.l (d.rZ 1),.l (d.rZ 0),.i (lI (d.rZ 0)),.i 0]) fun k h=>(bif aD k 0 then some [.i (h.iV 0)] else (bif (aN (lI (h.rZ 0)) (lI (h.rZ 1))) then some [.i (-1)] else some [.i 0])))
def amI:aL:=⟨222,[ja,ja],[],[],[al],[],[],[],H9⟩
def t114:aF:=t113.bu amI
def amJ:aH P t114:=tP V6 func222 amH

def Nq(d:LG):Option LG:=
 (aI (H9 [.l [[.i (gi (d.rV 0) 0).iV],[.i (gi (d.rV 0) 1).iV]],.l [[.i (gi (d.rV 1) 0).iV],[.i (gi (d.rV 1) 1).iV]]]) fun h=>some [.i (h.iV 0)])
def amK:aL:=⟨221,MM,[],[],[al],[],[],[],Nq⟩
def t115:aF:=t114.bu amK
def V7:aH P t115:=dQ amJ func221

def xd(d:LG):bp:=
 let h:=(lI (d.rZ 1)); (bif (aN (d.iV 4) (d.iV 3)) then (gd (nL (d.iV 4) (lI (d.rZ 2))) (bif (bq h (d.iV 4)) then eQ [.i 1] else (gd (nL (d.iV 4) h) (aI (Nq [.l [(bg [.I,.I] ((d.rZ 2).gR (d.iV 4)))],.l [(bg [.I,.I] ((d.rZ 1).gR (d.iV 4)))]]) fun k=>(bif ((k.iV 0) != 0) then eQ [.i (k.iV 0)] else (gd (aA ((d.iV 4)+1)) (some (none,kp d 0 [.l,.l,.l,.i] [.i ((d.iV 4)+1)])))))))) else eR [.l (d.rZ 0),.l (d.rZ 1)])
def amL:bA:=⟨2,[],⟨39,[(0,.s (.list [.I,.I])),(1,.s (.list [.I,.I])),(2,.s (.fn 221)),(11,.s (.list [.I,.I])),(12,al),(13,al)],[]⟩,[],[⟨.ret,⟨39,[(6,al)],[]⟩,[]⟩,⟨.exit 0,⟨39,[(0,.s (.list [.I,.I])),(1,.s (.list [.I,.I]))],[]⟩,[]⟩],xd⟩
def amM:LT:=bx.add 0 amL
def amN:aT P 0 amM (bf f220):=lA V7 (bG _ _ _)
def H_(d:LG):Option LG:=
 (be true (bR xd [.l (d.rZ 0),.l (d.rZ 1),.l (d.rZ 0),.i (lI (d.rZ 0)),.i 0]) fun k h=>(bif aD k 0 then some [.i (h.iV 0)] else (bif (aN (lI (h.rZ 0)) (lI (h.rZ 1))) then some [.i (-1)] else some [.i 0])))
def amO:aL:=⟨220,[.s (.list [.I,.I]),.s (.list [.I,.I]),.s (.fn 221)],[],[],[al],[],[],[],H_⟩
def t116:aF:=t115.bu amO
def amP:aH P t116:=tP V7 func220 amN

def Aj(d:LG):Option LG:=
 let h:=(((gi (d.rV 0) 0).rZ.length:Nat):Int); let k:=(((gi (d.rV 1) 0).rZ.length:Nat):Int); (bif (h != k) then some [.t (aN k h)] else (bif ((gi (d.rV 0) 1).iV != (gi (d.rV 1) 1).iV) then some [.t (aN (gi (d.rV 0) 1).iV (gi (d.rV 1) 1).iV)] else (aI (H_ [.l (gi (d.rV 0) 0).rZ,.l (gi (d.rV 1) 0).rZ]) fun v=>some [.t (aN (v.iV 0) 0)])))
def amQ:aL:=⟨189,[.s (.row [.list [.I,.I],.I]),.s (.row [.list [.I,.I],.I])],[],[],[dG],[],[],[],Aj⟩
def t117:aF:=t116.bu amQ
def amR:aH P t117:=dQ amP func189

def Dt(d:LG):Option LG:=
 let h:=(d.iV 0)-(d.iV 1); let k:=(d.iV 1)-(d.iV 0); (gd (aA h) (gd (aA k) (some [.i (if k>h then k else h)])))
def amS:aL:=⟨190,[al,al],[],[],[al],[],[],[],Dt⟩
def t118:aF:=t117.bu amS
def amT:aH P t118:=dQ amR func190

def Du(d:LG):Option LG:=
 (bif ((gi (d.rV 0) 2).sV.toList==(gi (d.rV 1) 2).sV.toList) then (bif ((gi (d.rV 0) 1).iV==(gi (d.rV 1) 1).iV) then (aI (Dt [.i (gi (d.rV 0) 0).iV,.i (gi (d.rV 1) 0).iV]) fun h=>some [.t (bq (h.iV 0) (d.iV 2))]) else some [.t false]) else some [.t false])
def amU:aL:=⟨152,Tm,[],[],[dG],[],[],[],Du⟩
def t119:aF:=t118.bu amU
def Dv:aH P t119:=dQ amT func152

def Dw(d:LG):bp:=
 let h:=((lI (d.rZ 9))+1); let k:=(d.nN 11); let v:=(cn (h.toNat) ([.l [],.i 0]:LG)); let y:=(d.nN 7); let I:=0+(d.iV 13).toNat; (bif (aN (d.iV 13) (d.iV 12)) then (gd (aA h) (gd ((cO h)&&((bq h h)&&(bq h 1048576))) (gd (nL (d.iV 13) k) (gd (((aD h.toNat v.length)&&(dy 0 h.toNat))&&((aD I (d.rZ 6).length)&&(dy I (d.iV 7).toNat))) (gd (aA ((d.iV 13)+1)) (some (none,kp d 0 [.s,.l,.s,.l,.l,.i] ((.l ((d.rZ 6)++[[.l v]]))::.i y::kp d 8 [.l,.l,.i] [.i k,.i (d.iV 12),.i ((d.iV 13)+1)])))))))) else some (some 0,kp d 0 [.s,.l,.s,.l,.l,.i,.l] (.i y::kp d 8 [.l,.l,.i] [.i k])))
def amV:bA:=⟨3,[],⟨139,[(2,ja),(3,ja),(4,al),(5,.s (.ptr 0 0)),(6,.s (.ptr 1 0)),(10,.s (.ptr 2 0)),(11,.s (.pre 3 1)),(26,al),(27,al)],CT⟩,CS,[⟨.exit 0,⟨139,[(2,ja),(3,ja),(4,al),(5,.s (.ptr 0 0)),(6,.s (.ptr 1 0)),(10,.s (.ptr 2 0)),(11,.s (.pre 3 1))],CT⟩,CS⟩],Dw⟩
def V8:LT:=(bx.sk [(2,[.cZ 11 1]),(17,[.hole a_,.hole a_]),(20,[.hole [.list [.I,.I],.I]])]).add 0 amV
def amW:aT P 0 V8 (bf f146):=aT.add hm (Dv.kz [2100150]) aB (qS _) (fun d=>by kernel_rfl)
def Dx(d:LG):bp:=
 let v:=(d.iV 13).toNat; let y:=(d.nN 11); let M:=(d.iV 13)+1; let z8:=gi ((d.rZ 8).gR (d.iV 12)) 0; let O:=nL (d.iV 12) y; let z12:=(nL (d.iV 12) (lI (d.rZ 8))); let z13:=(nL (d.iV 13) (lI (d.rZ 9))); let z15:=gi ((d.rZ 9).getD v []) 0; let U:=(d.nN 7); let k:=(d.iV 13)-1; let z20:=Du [.l [(bg a_ ((d.rZ 1).gR (z8.iV)))],.l [(bg a_ ((d.rZ 3).gR (z15.iV)))],.i (d.iV 10)]; let z22:=Dt [.i (gi ((d.rZ 1).gR (z8.iV)) 0).iV,.i (gi ((d.rZ 3).gR (z15.iV)) 0).iV]; let W:=(d.iV 12)+1; let z3:=lR (d.rZ 6) (0+W.toNat); let z10:=dy (0+W.toNat) (d.rZ 6).length; let z21:=z3.gR M; let z1:=(([[.i z8.iV,.i z15.iV]]:LL)++(z21.rZ 0)); let z24:=(nL z15.iV (lI (d.rZ 3))); let z25:=(nL z8.iV (lI (d.rZ 1))); let z27:=nL W y; let z28:=decide ((1+(z21.rZ 0).length)<=1048576); let z29:=(nL M (lI z3)); let z30:=z3.getD v []; let z31:=bE z1; let z32:=z10&&(dy M.toNat z3.length); let z33:=0+(d.iV 12).toNat; let h:=lR (d.rZ 6) z33; let N:=dy z33 (d.rZ 6).length; let z9:=(nL (d.iV 13) (lI h)); let z14:=N&&(dy (d.iV 13).toNat h.length); let z17:=(d.rZ 6).set z33 [.l (h.set v (eh [.list [.I,.I],.I] (h.getD v []) 0 [.l (z30.rZ 0),.i (z30.iV 1)]))]; let z26:=h.gR M; let z16:=(d.rZ 6).set z33 [.l (h.set v (eh [.list [.I,.I],.I] (h.getD v []) 0 [.l (z26.rZ 0),.i (z26.iV 1)]))]; (bif (bq 0 (d.iV 13)) then (gd (aA W) (gd z27 (gd z10 (gd (nL (d.iV 13) (lI z3)) (gd (z10&&(dy (d.iV 13).toNat z3.length)) (gd O (gd N (gd (aA M) (gd (nL M (lI h)) (gd (N&&(dy M.toNat h.length)) (aI (Aj [.l [[.l (z26.rZ 0),.i (z26.iV 1)]],.l [[.l (z30.rZ 0),.i (z30.iV 1)]]]) fun g2=>(bif (g2.bV 0) then (gd z12 (gd z25 (gd z13 (gd z24 (aI z20 fun g3=>(bif (g3.bV 0) then (gd (aA W) (gd z27 (gd z10 (gd (aA M) (gd z29 (gd z32 (gd z12 (gd z13 (gd z28 (aI z22 fun g4=>let z34:=(z21.iV 1)+(g4.iV 0); (gd (aA z34) (gd z31 (aI (Aj [.l [[.l z1,.i z34]],.l [[.l (z26.rZ 0),.i (z26.iV 1)]]]) fun g5=>(bif (g5.bV 0) then (gd O (gd N (gd z9 (gd z14 (gd (aA k) (some (none,kp d 0 [.s,.l,.s,.l,.l,.i] (.l ((d.rZ 6).set z33 [.l (h.set v (eh [.list [.I,.I],.I] (h.getD v []) 0 [.l z1,.i z34]))])::.i U::kp d 8 [.l,.l,.i] [.i y,.i (d.iV 12),.i k])))))))) else (gd O (gd N (gd z9 (gd z14 (gd (aA k) (some (none,kp d 0 [.s,.l,.s,.l,.l,.i] (.l z16::.i U::kp d 8 [.l,.l,.i] [.i y,.i (d.iV 12),.i k])))))))))))))))))))))) else (gd O (gd N (gd z9 (gd z14 (gd (aA k) (some (none,kp d 0 [.s,.l,.s,.l,.l,.i] (.l z16::.i U::kp d 8 [.l,.l,.i] [.i y,.i (d.iV 12),.i k])))))))))))))) else (gd z12 (gd z25 (gd z13 (gd z24 (aI z20 fun g6=>(bif (g6.bV 0) then (gd (aA W) (gd z27 (gd z10 (gd (aA M) (gd z29 (gd z32 (gd z12 (gd z13 (gd z28 (aI z22 fun g7=>let z35:=(z21.iV 1)+(g7.iV 0); (gd (aA z35) (gd z31 (aI (Aj [.l [[.l z1,.i z35]],.l [[.l (z30.rZ 0),.i (z30.iV 1)]]]) fun g8=>(bif (g8.bV 0) then (gd O (gd N (gd z9 (gd z14 (gd (aA k) (some (none,kp d 0 [.s,.l,.s,.l,.l,.i] (.l ((d.rZ 6).set z33 [.l (h.set v (eh [.list [.I,.I],.I] (h.getD v []) 0 [.l z1,.i z35]))])::.i U::kp d 8 [.l,.l,.i] [.i y,.i (d.iV 12),.i k])))))))) else (gd O (gd N (gd z9 (gd z14 (gd (aA k) (some (none,kp d 0 [.s,.l,.s,.l,.l,.i] (.l z17::.i U::kp d 8 [.l,.l,.i] [.i y,.i (d.iV 12),.i k])))))))))))))))))))))) else (gd O (gd N (gd z9 (gd z14 (gd (aA k) (some (none,kp d 0 [.s,.l,.s,.l,.l,.i] (.l z17::.i U::kp d 8 [.l,.l,.i] [.i y,.i (d.iV 12),.i k])))))))))))))))))))))))))) else some (some 0,kp d 0 [.s,.l,.s,.l,.l,.i,.l] (.i U::kp d 8 [.l,.l,.i] [.i y,.i (d.iV 12)])))
def amX:bA:=⟨11,[],⟨139,[(2,ja),(3,ja),(4,al),(5,.s (.ptr 0 0)),(6,.s (.ptr 1 0)),(10,.s (.ptr 2 0)),(11,.s (.pre 3 1)),(13,al),(14,al)],CT⟩,CS,[⟨.exit 4,⟨139,UE,CT⟩,CS⟩],Dx⟩
def V9:LT:=V8.add 0 amX
def amY:aT P 0 V9 (bf f146):=aT.add hm (Dv.kz [2100150]) aB amW (fun d=>by kernel_rfl)
def Dy(d:LG):bp:=
 let k:=((lI (d.rZ 9))-1); let v:=(d.nN 11); let y:=(d.nN 7); (bif (bq 0 (d.iV 12)) then (gd (aA k) (be true (bR Dx (kp d 0 [.s,.l,.s,.l,.l,.i,.l] (.i y::kp d 8 [.l,.l,.i] [.i v,.i (d.iV 12),.i k]))) fun I h=>(gd (aA ((h.iV 12)-1)) (some (none,kp h 0 [.s,.l,.s,.l,.l,.i,.l] (.i (h.nN 7)::kp h 8 [.l,.l,.i] [.i (h.nN 11),.i ((h.iV 12)-1)])))))) else some (some 0,kp d 4 [.l,.i,.l] [.i y,.i v]))
def amZ:bA:=⟨8,[],⟨139,UE,CT⟩,CS,[⟨.exit 2,⟨139,[(10,.s (.ptr 0 0)),(11,.s (.pre 1 1))],[.box [.list [.I,.I],.I],.cZ 1 [.list [.I,.I],.I]]⟩,[.aM 10,.aM 11]⟩],Dy⟩
def am0:LT:=V9.add 0 amZ
def am1:aT P 0 am0 (bf f146):=aT.add hm (Dv.kz [2100150]) aB amY (fun d=>by kernel_rfl)
def Ia(d:LG):Option LG:=
 let h:=((lI (d.rZ 2))+1); let I:=(cn (h.toNat) ([.l []]:LG)); (gd (aA h) (gd ((cO h)&&((bq h h)&&(bq h 1048576))) (gd ((dy 0 I.length)&&true) (be true (bR Dw (.s (gi (d.rV 0) 0).sV::.l (gi (d.rV 0) 1).rZ::.s (gi (d.rV 1) 0).sV::.l (gi (d.rV 1) 1).rZ::.l []::.i 0::.l []::.i (lI I)::kp d 2 [.l,.l,.i] [.i ((h.toNat:Nat):Int),.i ((h.toNat:Nat):Int),.i 0])) fun U k=>let M:=((lI (k.rZ 8))-1); (gd (aA M) (be true (bR Dy (kp k 0 [.s,.l,.s,.l,.l,.i,.l] (.i (k.nN 7)::kp k 8 [.l,.l,.i] [.i (k.nN 11),.i M]))) fun O y=>let v:=lR (y.rZ 2) 0; let N:=dy 0 (y.rZ 2).length; (gd (aN 0 (y.nN 4)) (gd N (gd (aN 0 (lI v)) (gd (N&&(dy 0 v.length)) (some [.l [[.l (gi (v.getD 0 []) 0).rZ,.i (gi (v.getD 0 []) 1).iV]]])))))))))))
def am2:aL:=⟨146,[po,po,ja,ja,al],[],[],[.s (.row [.list [.I,.I],.I])],[],[],[],Ia⟩
def t120:aF:=t119.bu am2
def V_:aH P t120:=Dv.aP (nC hm (Dv.kz [2100150]) func146 aB am1 (fun d=>by kernel_rfl) aB)

def Ak(d:LG):Option LG:=
 let h:=(gi (d.rV 0) 0).iV-(gi (d.rV 1) 0).iV; (gd (aA h) (aI (uB [.i h]) fun k=>some [.i (k.iV 0)]))
def Wa:aL:=⟨148,MM,[],[],[al],[],[],[],Ak⟩
def Wb:iL P Wa:=l5 hm V_ func148 (bG _ _ _) (fun d=>by kernel_rfl)
def t121:aF:=t120.bu Wa
def am3:aH P t121:=V_.aP Wb

def Ib(d:LG):Option LG:=
 wO Ak d
def Wc:aL:=⟨147,[.s (.vQ 0 2),.s (.fn 148)],uE,iu,[],uE,eI,[],Ib⟩
def am4:iL P Wc:=fun d r h=>SI Tryz.Tb [.I,.I] aB isAgg178 sizeOf178 148 aB Ak (fun d r h=>Wb d r h) d r h
def t122:aF:=t121.du Wc
def Dz:aH P t122:=am3.aW am4

def rj(d:LG):bp:=
 let y:=([[.i (d.iV 13)]]:LL); let M:=nL (d.iV 7) 2; let N:=(d.rZ 11).gR (d.iV 13); let z1:=((N.sV 2)++(⟨#[32]⟩:BY)); let I:=(d.iV 13)+1; let U:=aD (d.iV 7).toNat 0; let z7:=(d.nN 5); (bif (aN (d.iV 13) (d.iV 12)) then (gd (nL (d.iV 13) (lI (d.rZ 11))) (gd M (bif ((N.sV 3).toList==(gi (([[.s (d.sV 2)],[.s (d.sV 0)]]:LL).gR (d.iV 7)) 0).sV.toList) then (gd (dv ((N.sV 2).size+1) 9223372036854775807) (aI (mM [.i (N.iV 1)]) fun g1=>let k:=z1++(g1.sV 0); let v:=oh [.str] (d.rZ 4) [.s k] 0; let h:=oh [.str] (d.rZ 4) [.s k] 1; let O:=iq [.str] (d.rZ 4) [.s k]; let W:=(((dK [.str] O [.s k] (d.iV 5).toNat):Nat):Int); let z13:=aD h.length h.length; let z14:=aD v.length v.length; (gd (dv (z1.size+(g1.sV 0).size) 9223372036854775807) (gd (fG [.str] (d.rZ 4) [.s k]) (gd M (bif U then (gd (z14&&(decide ((v.length+1)<=1048576))) (gd M (gd U (gd ((aD (v++y).length (v++y).length)&&z13) (gd (aA I) (some (none,kp d 0 [.s,.l,.s,.l] ((.l (wb [.str] O [.s k] (v++y) h (d.iV 5).toNat))::.i W::kp d 6 [.i,.i,.l,.i,.i,.l,.i] [.i I])))))))) else (gd (z13&&(decide ((h.length+1)<=1048576))) (gd M (bif U then none else (gd (z14&&(aD (h++y).length (h++y).length)) (gd (aA I) (some (none,kp d 0 [.s,.l,.s,.l] ((.l (wb [.str] O [.s k] v (h++y) (d.iV 5).toNat))::.i W::kp d 6 [.i,.i,.l,.i,.i,.l,.i] [.i I])))))))))))))) else (gd (aA I) (some (none,kp d 0 [.s,.l,.s,.l,.l] (.i z7::kp d 6 [.i,.i,.l,.i,.i,.l,.i] [.i I]))))))) else some (some 0,kp d 0 [.s,.l,.s,.l,.l] (.i z7::.i (d.iV 6)::kp d 8 [.l,.i,.i] [])))
def am5:bA:=⟨6,[],⟨89,[(2,al),(3,.s (.ptr 0 0)),(4,.s (.ptr 1 0)),(7,.s (.map 2)),(8,al),(20,.s (.list c8)),(21,al),(22,al),(28,kA),(29,al),(30,al)],G8⟩,G4,[⟨.exit 2,⟨89,UF,G8⟩,G4⟩],rj⟩
def Wd:LT:=(bx.sk [(2,[.bU 7 1]),(15,[.Ma 7])]).add 0 am5
def am6:aT P 0 Wd (bf f105):=aT.add hm (Dz.kz [1500181]) aB (qS _) (fun d=>by kernel_rfl)
def rk(d:LG):bp:=
 let k:=gi ((d.rZ 7).gR (d.iV 9)) 1; let v:=(d.nN 5); (bif (aN (d.iV 9) (d.iV 8)) then (gd (nL (d.iV 9) (lI (d.rZ 7))) (be true (bR rj (kp d 0 [.s,.l,.s,.l,.l] (.i v::.i (d.iV 6)::.i (d.iV 9)::kp d 7 [.l,.i,.i] [.l k.rZ,.i (lI k.rZ),.i 0]))) fun y h=>(gd (aA ((h.iV 9)+1)) (some (none,kp h 0 [.s,.l,.s,.l,.l] (.i (h.nN 5)::kp h 6 [.i,.l,.i] [.i ((h.iV 9)+1)])))))) else some (some 0,kp d 0 [.s,.l,.s,.l,.l] [.i v,.i (d.iV 6)]))
def am7:bA:=⟨3,[],⟨89,UF,G8⟩,G4,[⟨.exit 0,⟨89,[(2,al),(3,.s (.ptr 0 0)),(4,.s (.ptr 1 0)),(7,.s (.map 2))],G8⟩,G4⟩],rk⟩
def Nr:LT:=Wd.add 0 am7
def am8:aT P 0 Nr (bf f105):=aT.add hm (Dz.kz [1500181]) aB am6 (fun d=>by kernel_rfl)
def Ic(r d:LG):Option LG:=
 (aI (Ia [.l [(bg [.str,.list a_] d)],.l [[.s (d.sV 2),.l (d.rZ 3)]],.l (gi (r.rV 1) 0).rZ,.l (gi (r.rV 1) 1).rZ,.i (d.iV 5)]) fun h=>let k:=(d.rZ 4)++(gi (h.rV 0) 0).rZ; (gd ((aD (d.rZ 4).length (d.rZ 4).length)&&(decide (((d.rZ 4).length+(gi (h.rV 0) 0).rZ.length)<=1048576))) (gd (bE k) (some (kp d 0 [.s,.l,.s,.l] [.l k,.i (d.iV 5),.i (d.nN 6)])))))
def am9(d:LG)(b:Nat):LG:=(kp d 0 [.s,.l,.s,.l] [.l (d.rZ 6),.i (d.iV 7),.i (b:Int)])
def am_(d:LG)(b:Nat):Bool:=(bE (d.rZ 6))
def Ie:lx:=⟨⟨89,UG,Us⟩,[.aM 3,.aM 4,.aM 14],[],(.one (.str)),(.agg [.list [.I],.list [.I]]),2,0,69,70,71,72,73,fun d=>(gi d 6).iV.toNat,am9,am_,Ic⟩
def am':wL P (t122.kz [1500181]) Nr 0 Ie (Cx (gP f105 16)) (GA (gP f105 16)):=fun r d=>by kernel_rfl
def If(d:LG):bp:=
 let h:=Ib [.l (d.rZ 4)]; (i_ ((bE (d.rZ 4))&&h.isSome) h fun k=>(gd ((aD (d.rZ 4).length (k.rZ 0).length)&&true) (eQ [.l (k.rZ 0)])))
def ana:bA:=⟨20,[],⟨89,UG,Us⟩,[],[⟨.ret,⟨89,[(6,.s (.vQ 0 2))],uE⟩,[.aM 6]⟩],If⟩
def Ns(d:LG):bp:=
 sn Ie If (d.rZ 4) ((d.iV 5).toNat) d
def Nt:bA:=⟨16,[(14,[.I,.I])],⟨89,[(2,al),(3,.s (.ptr 0 0)),(4,.s (.ptr 1 0)),(7,.s (.map 2)),(14,.s (.vQ 3 2))],[.box [.str,.list a_],.box [.str,.list a_],.map (.one (.str)) (.agg [.list [.I],.list [.I]]),.vQ [.I,.I] 0]⟩,[.aM 3,.aM 4,.aM 7,.aM 14],[⟨.ret,⟨89,[(6,.s (.vQ 0 2))],uE⟩,[.aM 6]⟩],Ns⟩
def anb:LT:=Nr.gv 0 Nt
def anc:aT P 0 anb (bf f105):=aT.Sv (q:=Nt) (qr:=ana) (sp:=Ie) (r0:=16) (b0:=4) (r1:=17) (b1:=5) (r2:=18) (rZ:=fun d=>(gi d 4).rZ) (clock:=fun d=>(gi d 5).iV.toNat) (pre:=fun d=>Su P (t122.kz [1500181]) (yU (gP f105 16)) (b_ Nt.inv d)) hm (Dz.kz [1500181]) aB am8 aB aB am' (fun d=>by kernel_rfl) (fun d=>by kernel_rfl) (fun d=>by kernel_rfl) (fun d=>by kernel_rfl) (fun d=>by kernel_rfl) (fun d=>by kernel_rfl) (fun d b=>by kernel_rfl) (fun d b=>rfl) rfl rfl (fun d=>by kernel_rfl) (fun d=>rfl)
def DA(d:LG):Option LG:=
 (be true (bR rk [.s (gi (d.rV 0) 0).sV,.l (gi (d.rV 0) 1).rZ,.s (gi (d.rV 1) 0).sV,.l (gi (d.rV 1) 1).rZ,.l [],.i 0,.i (d.iV 2),.l [(bg [.str,.list a_] (d.rV 0)),(bg [.str,.list a_] (d.rV 1))],.i 2,.i 0]) fun v h=>(gd ((ui (h.rZ 4))&&true) (be true (c7 (Ns (kp h 0 [.s,.l,.s,.l,.l] [.i (h.nN 5),.l [],.i (h.iV 6)]))) fun y k=>(gd (bE (k.rZ 0)) (some [.l (k.rZ 0)])))))
def ane:aL:=⟨105,[po,po,al],[],[],ML,[],[],[],DA⟩
def t123:aF:=t122.bu ane
def We:aH P t123:=Dz.aP (nC hm (Dz.kz [1500181]) func105 aB anc (fun d=>by kernel_rfl) aB)

def DB(d:LG):bp:=
 let h:=(d.rZ 1).gR (d.iV 3); (bif (aN (d.iV 3) (d.iV 2)) then (gd (nL (d.iV 3) (lI (d.rZ 1))) (bif ((h.iV 0)==(d.iV 0)) then eQ [.i (h.iV 1)] else (gd (aA ((d.iV 3)+1)) (some (none,kp d 0 [.i,.l,.i] [.i ((d.iV 3)+1)]))))) else eR [])
def anf:bA:=⟨2,[],⟨20,[(1,al),(7,.s (.list [.I,.I])),(8,al),(9,al)],[]⟩,[],[⟨.ret,⟨20,uF,[]⟩,[]⟩,⟨.exit 0,⟨20,[],[]⟩,[]⟩],DB⟩
def ang:LT:=bx.add 0 anf
def anh:aT P 0 ang (bf f104):=lA We (bG _ _ _)
def Ig(d:LG):Option LG:=
 (be true (bR DB [.i (d.iV 1),.l (d.rZ 0),.i (lI (d.rZ 0)),.i 0]) fun h k=>(bif aD h 0 then some [.i (k.iV 0)] else some [.i (-1)]))
def ani:aL:=⟨104,[.s (.list [.I,.I]),al],[],[],[al],[],[],[],Ig⟩
def t124:aF:=t123.bu ani
def anj:aH P t124:=tP We func104 anh

def DC(d:LG):Option LG:=
 (bif ((gi (d.rV 0) 5).iV==(gi (d.rV 1) 4).iV) then some [.t ((gi (d.rV 0) 7).sV.toList==(gi (d.rV 1) 6).sV.toList)] else some [.t false])
def ank:aL:=⟨106,zd,[],[],[dG],[],[],[],DC⟩
def t125:aF:=t124.bu ank
def Wf:aH P t125:=dQ anj func106

def l6(X:LG->Option LG):aL:=⟨192,[al,al,.s (.ptr 0 0),.s (.ptr 1 0),.s (.ptr 2 0),.s (.ptr 4 0)],[.box [.str],.box [.str],.box [.map 3],.map (.agg [.I,.I]) (.one .I),.box [.FY 192 [0,1,2,4]]],[.aM 2,.aM 3,.aM 4,.cell 2 0,.aM 5],[al],[.box [.str],.box [.str],.box [.map 3],.map (.agg [.I,.I]) (.one .I),.box [.FY 192 [0,1,2,4]]],[.fix 0,.fix 1,.fix 2,.fix 3,.fix 4],[],X⟩
def Am(O:LG->Option LG)(d:LG):Option LG:=
 (bif ((d.iV 4)==(((d.sV 0).size:Nat):Int)) then (gd (aA ((((d.sV 0).size:Nat):Int)-(d.iV 4))) (gd (aA (((((d.sV 0).size:Nat):Int)-(d.iV 4))+(((d.sV 1).size:Nat):Int))) (gd (aA ((((((d.sV 0).size:Nat):Int)-(d.iV 4))+(((d.sV 1).size:Nat):Int))-(d.iV 5))) (some (kp d 0 [.s,.s,.l] [.i (d.nN 3),.i ((((((d.sV 0).size:Nat):Int)-(d.iV 4))+(((d.sV 1).size:Nat):Int))-(d.iV 5))]))))) else (bif ((d.iV 5)==(((d.sV 1).size:Nat):Int)) then (gd (aA ((((d.sV 0).size:Nat):Int)-(d.iV 4))) (gd (aA (((((d.sV 0).size:Nat):Int)-(d.iV 4))+(((d.sV 1).size:Nat):Int))) (gd (aA ((((((d.sV 0).size:Nat):Int)-(d.iV 4))+(((d.sV 1).size:Nat):Int))-(d.iV 5))) (some (kp d 0 [.s,.s,.l] [.i (d.nN 3),.i ((((((d.sV 0).size:Nat):Int)-(d.iV 4))+(((d.sV 1).size:Nat):Int))-(d.iV 5))]))))) else (bif (dJ [.I,.I] (d.rZ 2) [.i (d.iV 4),.i (d.iV 5)]) then some (kp d 0 [.s,.s,.l] [.i (d.nN 3),.i (gi (cR [.I,.I] (d.rZ 2) [.i (d.iV 4),.i (d.iV 5)] [.i 0]) 0).iV]) else (gd (aA ((d.iV 4)+1)) (aI (O (kp d 0 [.s,.s,.l] [.i (d.nN 3),.i ((d.iV 4)+1),.i (d.iV 5)])) fun v=>(gd (aA ((d.iV 5)+1)) (aI (O (kp v 0 [.s,.s,.l] [.i (v.nN 3),.i (d.iV 4),.i ((d.iV 5)+1)])) fun y=>(gd (aA ((d.iV 4)+1)) (gd (aA ((d.iV 5)+1)) (aI (O (kp y 0 [.s,.s,.l] [.i (y.nN 3),.i ((d.iV 4)+1),.i ((d.iV 5)+1)])) fun h=>(gd (aA ((ch (h.iV 4) (ch (y.iV 4) (v.iV 4)))+1)) (gd (nL (d.iV 4) (((h.sV 0).size:Nat):Int)) (gd (nL (d.iV 5) (((h.sV 1).size:Nat):Int)) (bif ((((h.sV 0).data.toList.getD ((d.iV 4).toNat) 0).toNat:Int)==(((h.sV 1).data.toList.getD ((d.iV 5).toNat) 0).toNat:Int)) then (gd (aA ((d.iV 4)+1)) (gd (aA ((d.iV 5)+1)) (aI (O (kp h 0 [.s,.s,.l] [.i (h.nN 3),.i ((d.iV 4)+1),.i ((d.iV 5)+1)])) fun k=>(gd (aA ((d.iV 4)+1)) (bif (aN ((d.iV 4)+1) (((k.sV 0).size:Nat):Int)) then (gd (aA ((d.iV 5)+1)) (bif (aN ((d.iV 5)+1) (((k.sV 1).size:Nat):Int)) then (gd (nL (d.iV 4) (((k.sV 0).size:Nat):Int)) (gd (aA ((d.iV 5)+1)) (gd (nL ((d.iV 5)+1) (((k.sV 1).size:Nat):Int)) (bif ((((k.sV 0).data.toList.getD ((d.iV 4).toNat) 0).toNat:Int)==(((k.sV 1).data.toList.getD (((d.iV 5)+1).toNat) 0).toNat:Int)) then (gd (aA ((d.iV 4)+1)) (gd (nL ((d.iV 4)+1) (((k.sV 0).size:Nat):Int)) (gd (nL (d.iV 5) (((k.sV 1).size:Nat):Int)) (bif ((((k.sV 0).data.toList.getD (((d.iV 4)+1).toNat) 0).toNat:Int)==(((k.sV 1).data.toList.getD ((d.iV 5).toNat) 0).toNat:Int)) then (gd (aA ((d.iV 4)+2)) (gd (aA ((d.iV 5)+2)) (aI (O (kp k 0 [.s,.s,.l] [.i (k.nN 3),.i ((d.iV 4)+2),.i ((d.iV 5)+2)])) fun M=>(gd (aA ((M.iV 4)+1)) (some [.s (M.sV 0),.s (M.sV 1),.l (dV [.I,.I] (M.rZ 2) [.i (d.iV 4),.i (d.iV 5)] [.i (if ((M.iV 4)+1)<(if (k.iV 4)<((ch (h.iV 4) (ch (y.iV 4) (v.iV 4)))+1) then (k.iV 4) else ((ch (h.iV 4) (ch (y.iV 4) (v.iV 4)))+1)) then ((M.iV 4)+1) else (if (k.iV 4)<((ch (h.iV 4) (ch (y.iV 4) (v.iV 4)))+1) then (k.iV 4) else ((ch (h.iV 4) (ch (y.iV 4) (v.iV 4)))+1)))] (M.iV 3).toNat),.i (((dK [.I,.I] (M.rZ 2) [.i (d.iV 4),.i (d.iV 5)] (M.iV 3).toNat):Nat):Int),.i (if ((M.iV 4)+1)<(if (k.iV 4)<((ch (h.iV 4) (ch (y.iV 4) (v.iV 4)))+1) then (k.iV 4) else ((ch (h.iV 4) (ch (y.iV 4) (v.iV 4)))+1)) then ((M.iV 4)+1) else (if (k.iV 4)<((ch (h.iV 4) (ch (y.iV 4) (v.iV 4)))+1) then (k.iV 4) else ((ch (h.iV 4) (ch (y.iV 4) (v.iV 4)))+1)))]))))) else some [.s (k.sV 0),.s (k.sV 1),.l (dV [.I,.I] (k.rZ 2) [.i (d.iV 4),.i (d.iV 5)] [.i (if (k.iV 4)<((ch (h.iV 4) (ch (y.iV 4) (v.iV 4)))+1) then (k.iV 4) else ((ch (h.iV 4) (ch (y.iV 4) (v.iV 4)))+1))] (k.iV 3).toNat),.i (((dK [.I,.I] (k.rZ 2) [.i (d.iV 4),.i (d.iV 5)] (k.iV 3).toNat):Nat):Int),.i (if (k.iV 4)<((ch (h.iV 4) (ch (y.iV 4) (v.iV 4)))+1) then (k.iV 4) else ((ch (h.iV 4) (ch (y.iV 4) (v.iV 4)))+1))])))) else some [.s (k.sV 0),.s (k.sV 1),.l (dV [.I,.I] (k.rZ 2) [.i (d.iV 4),.i (d.iV 5)] [.i (if (k.iV 4)<((ch (h.iV 4) (ch (y.iV 4) (v.iV 4)))+1) then (k.iV 4) else ((ch (h.iV 4) (ch (y.iV 4) (v.iV 4)))+1))] (k.iV 3).toNat),.i (((dK [.I,.I] (k.rZ 2) [.i (d.iV 4),.i (d.iV 5)] (k.iV 3).toNat):Nat):Int),.i (if (k.iV 4)<((ch (h.iV 4) (ch (y.iV 4) (v.iV 4)))+1) then (k.iV 4) else ((ch (h.iV 4) (ch (y.iV 4) (v.iV 4)))+1))])))) else some [.s (k.sV 0),.s (k.sV 1),.l (dV [.I,.I] (k.rZ 2) [.i (d.iV 4),.i (d.iV 5)] [.i (if (k.iV 4)<((ch (h.iV 4) (ch (y.iV 4) (v.iV 4)))+1) then (k.iV 4) else ((ch (h.iV 4) (ch (y.iV 4) (v.iV 4)))+1))] (k.iV 3).toNat),.i (((dK [.I,.I] (k.rZ 2) [.i (d.iV 4),.i (d.iV 5)] (k.iV 3).toNat):Nat):Int),.i (if (k.iV 4)<((ch (h.iV 4) (ch (y.iV 4) (v.iV 4)))+1) then (k.iV 4) else ((ch (h.iV 4) (ch (y.iV 4) (v.iV 4)))+1))])) else some [.s (k.sV 0),.s (k.sV 1),.l (dV [.I,.I] (k.rZ 2) [.i (d.iV 4),.i (d.iV 5)] [.i (if (k.iV 4)<((ch (h.iV 4) (ch (y.iV 4) (v.iV 4)))+1) then (k.iV 4) else ((ch (h.iV 4) (ch (y.iV 4) (v.iV 4)))+1))] (k.iV 3).toNat),.i (((dK [.I,.I] (k.rZ 2) [.i (d.iV 4),.i (d.iV 5)] (k.iV 3).toNat):Nat):Int),.i (if (k.iV 4)<((ch (h.iV 4) (ch (y.iV 4) (v.iV 4)))+1) then (k.iV 4) else ((ch (h.iV 4) (ch (y.iV 4) (v.iV 4)))+1))]))))) else (gd (aA ((d.iV 4)+1)) (bif (aN ((d.iV 4)+1) (((h.sV 0).size:Nat):Int)) then (gd (aA ((d.iV 5)+1)) (bif (aN ((d.iV 5)+1) (((h.sV 1).size:Nat):Int)) then (gd (nL (d.iV 4) (((h.sV 0).size:Nat):Int)) (gd (aA ((d.iV 5)+1)) (gd (nL ((d.iV 5)+1) (((h.sV 1).size:Nat):Int)) (bif ((((h.sV 0).data.toList.getD ((d.iV 4).toNat) 0).toNat:Int)==(((h.sV 1).data.toList.getD (((d.iV 5)+1).toNat) 0).toNat:Int)) then (gd (aA ((d.iV 4)+1)) (gd (nL ((d.iV 4)+1) (((h.sV 0).size:Nat):Int)) (gd (nL (d.iV 5) (((h.sV 1).size:Nat):Int)) (bif ((((h.sV 0).data.toList.getD (((d.iV 4)+1).toNat) 0).toNat:Int)==(((h.sV 1).data.toList.getD ((d.iV 5).toNat) 0).toNat:Int)) then (gd (aA ((d.iV 4)+2)) (gd (aA ((d.iV 5)+2)) (aI (O (kp h 0 [.s,.s,.l] [.i (h.nN 3),.i ((d.iV 4)+2),.i ((d.iV 5)+2)])) fun N=>(gd (aA ((N.iV 4)+1)) (some [.s (N.sV 0),.s (N.sV 1),.l (dV [.I,.I] (N.rZ 2) [.i (d.iV 4),.i (d.iV 5)] [.i (if ((N.iV 4)+1)<((ch (h.iV 4) (ch (y.iV 4) (v.iV 4)))+1) then ((N.iV 4)+1) else ((ch (h.iV 4) (ch (y.iV 4) (v.iV 4)))+1))] (N.iV 3).toNat),.i (((dK [.I,.I] (N.rZ 2) [.i (d.iV 4),.i (d.iV 5)] (N.iV 3).toNat):Nat):Int),.i (if ((N.iV 4)+1)<((ch (h.iV 4) (ch (y.iV 4) (v.iV 4)))+1) then ((N.iV 4)+1) else ((ch (h.iV 4) (ch (y.iV 4) (v.iV 4)))+1))]))))) else some [.s (h.sV 0),.s (h.sV 1),.l (dV [.I,.I] (h.rZ 2) [.i (d.iV 4),.i (d.iV 5)] [.i ((ch (h.iV 4) (ch (y.iV 4) (v.iV 4)))+1)] (h.iV 3).toNat),.i (((dK [.I,.I] (h.rZ 2) [.i (d.iV 4),.i (d.iV 5)] (h.iV 3).toNat):Nat):Int),.i ((ch (h.iV 4) (ch (y.iV 4) (v.iV 4)))+1)])))) else some [.s (h.sV 0),.s (h.sV 1),.l (dV [.I,.I] (h.rZ 2) [.i (d.iV 4),.i (d.iV 5)] [.i ((ch (h.iV 4) (ch (y.iV 4) (v.iV 4)))+1)] (h.iV 3).toNat),.i (((dK [.I,.I] (h.rZ 2) [.i (d.iV 4),.i (d.iV 5)] (h.iV 3).toNat):Nat):Int),.i ((ch (h.iV 4) (ch (y.iV 4) (v.iV 4)))+1)])))) else some [.s (h.sV 0),.s (h.sV 1),.l (dV [.I,.I] (h.rZ 2) [.i (d.iV 4),.i (d.iV 5)] [.i ((ch (h.iV 4) (ch (y.iV 4) (v.iV 4)))+1)] (h.iV 3).toNat),.i (((dK [.I,.I] (h.rZ 2) [.i (d.iV 4),.i (d.iV 5)] (h.iV 3).toNat):Nat):Int),.i ((ch (h.iV 4) (ch (y.iV 4) (v.iV 4)))+1)])) else some [.s (h.sV 0),.s (h.sV 1),.l (dV [.I,.I] (h.rZ 2) [.i (d.iV 4),.i (d.iV 5)] [.i ((ch (h.iV 4) (ch (y.iV 4) (v.iV 4)))+1)] (h.iV 3).toNat),.i (((dK [.I,.I] (h.rZ 2) [.i (d.iV 4),.i (d.iV 5)] (h.iV 3).toNat):Nat):Int),.i ((ch (h.iV 4) (ch (y.iV 4) (v.iV 4)))+1)]))))))))))))))))
def anl(h:LG->Option LG):uf P (t125.du (l6 h)) bx f192 (l6 (Am h)):=fun d=>by kernel_rfl
def anm(k:LG->Option LG) (v:∀d r,k d=some r->fL P 192 ((l6 k).ew d) (ay ((l6 k).H0 d)) ((l6 k).out r) (ay ((l6 k).H1 r))):∀d r,Am k d=some r->fL P 192 ((l6 k).ew d) (ay ((l6 k).H0 d)) ((l6 k).out r) (ay ((l6 k).H1 r)):=fun d r h=>F7 hm (Wf.aW v) (sp:=l6 (Am k)) func192 aB (bG _ _ _) (anl k) aB h
def rm:Nat->LG->Option LG
 |0,_=>none
 |n+1,d=>Am (rm n) d
def Wg:∀ n d r,rm n d=some r->fL P 192 ((l6 (rm n)).ew d) (ay ((l6 (rm n)).H0 d)) ((l6 (rm n)).out r) (ay ((l6 (rm n)).H1 r))
 |0,_,_,h=>nomatch h
 |n+1,d,r,h=>anm (rm n) (Wg n) d r h
def Wh(d:LG):Option LG:=rm 40 d
def Wi:aL:=l6 Wh
def ann:iL P Wi:=Wg 40
def t126:aF:=t125.du Wi
def ano:aH P t126:=Wf.aW ann

def Ih(d:LG):Option LG:=
 (aI (Wh [.s (d.sV 0),.s (d.sV 1),.l [],.i 0,.i 0,.i 0]) fun h=>some [.i (h.iV 4)])
def anp:aL:=⟨149,[dn,dn],[],[],[al],[],[],[],Ih⟩
def t127:aF:=t126.bu anp
def anq:aH P t127:=dQ ano func149

def Wj(d:LG):Option LG:=
 some [.t ((gi (d.rV 0) 1).iV==(gi (d.rV 1) 0).iV)]
def anr:aL:=⟨151,[.s (.row [.I,.I]),.s (.cptr [.I])],[],[],[dG],[],[],[],Wj⟩
def t128:aF:=t127.bu anr
def Wk:aH P t128:=dQ anq func151

def DD(d:LG):bp:=
 (bif (aN (d.iV 3) (d.iV 2)) then (gd (nL (d.iV 3) (lI (d.rZ 0))) (aI (Wj [.l [(bg [.I,.I] ((d.rZ 0).gR (d.iV 3)))],.l [[.i (gi (d.rV 1) 0).iV]]]) fun h=>(bif (h.bV 0) then eQ [.i (d.iV 3)] else (gd (aA ((d.iV 3)+1)) (nQ [.l (d.rZ 0),.l [[.i (gi (d.rV 1) 0).iV]],.i (d.iV 2),.i ((d.iV 3)+1)]))))) else eR [])
def ant:bA:=⟨2,[],⟨19,[(0,.s (.list [.I,.I])),(1,.clo 151 [.cptr [.I]]),(7,al),(8,al)],[]⟩,[],[⟨.ret,⟨19,uF,[]⟩,[]⟩,⟨.exit 0,⟨19,[],[]⟩,[]⟩],DD⟩
def anu:LT:=bx.add 0 ant
def anv:aT P 0 anu (bf f193):=lA Wk (bG _ _ _)
def Nu(d:LG):Option LG:=
 (be true (bR DD [.l (d.rZ 0),.l [[.i (gi (d.rV 1) 0).iV]],.i (lI (d.rZ 0)),.i 0]) fun h k=>(bif aD h 0 then some [.i (k.iV 0)] else some [.i (-1)]))
def anw:aL:=⟨193,Tq,[],[],[al],[],[],[],Nu⟩
def t129:aF:=t128.bu anw
def anx:aH P t129:=tP Wk func193 anv

def Ii(d:LG):Option LG:=
 (aI (Nu [.l (d.rZ 0),.l [[.i (gi (d.rV 1) 0).iV]]]) fun h=>some [.t (bq 0 (h.iV 0))])
def anz:aL:=⟨150,Tq,[],[],[dG],[],[],[],Ii⟩
def t130:aF:=t129.bu anz
def Ij:aH P t130:=dQ anx func150

def An(d:LG):bp:=
 let y:=aD (d.rZ 10).length (d.rZ 10).length; let I:=((d.rZ 10)++([[.i (d.iV 13),.i 2,.s (d.sV 11),.i (d.iV 21)]]:LL)); let h:=(d.iV 21)+1; let v:=(d.rZ 19).gR (d.iV 21); let k:=y&&true; (bif (aN (d.iV 21) (d.iV 20)) then (gd (nL (d.iV 21) (lI (d.rZ 19))) (aI (Ii [.l (d.rZ 15),.l [[.i (d.iV 21)]]]) fun M=>(bif ((v.sV 3).toList==(d.sV 0).toList) then (aI (Du [.l [(kp d 2 [.i,.i,.s,.s,.i,.i,.s,.s] [])],.l [(bg a_ v)],.i (d.iV 14)]) fun N=>(bif (N.bV 0) then (bif (!(M.bV 0)) then (aI (DC [.l [(kp d 2 [.i,.i,.s,.s,.i,.i,.s,.s] [])],.l [(bg a_ v)]]) fun O=>(bif (O.bV 0) then (gd (y&&(decide (((d.rZ 10).length+1)<=1048576))) (gd (bE I) (some (some 0,kp d 0 [.s,.l,.i,.i,.s,.s,.i,.i,.s,.s] (.l I::.i (d.iV 13)::.i (d.iV 14)::kp d 16 [.l,.i,.i] []))))) else (gd (aA h) (gd k (some (none,kp d 0 [.s,.l,.i,.i,.s,.s,.i,.i,.s,.s,.l,.s,.l,.i,.i,.l,.l,.i,.i,.l,.i] [.i h])))))) else (gd (aA h) (gd k (some (none,kp d 0 [.s,.l,.i,.i,.s,.s,.i,.i,.s,.s,.l,.s,.l,.i,.i,.l,.l,.i,.i,.l,.i] [.i h]))))) else (gd (aA h) (gd k (some (none,kp d 0 [.s,.l,.i,.i,.s,.s,.i,.i,.s,.s,.l,.s,.l,.i,.i,.l,.l,.i,.i,.l,.i] [.i h])))))) else (gd (aA h) (gd k (some (none,kp d 0 [.s,.l,.i,.i,.s,.s,.i,.i,.s,.s,.l,.s,.l,.i,.i,.l,.l,.i,.i,.l,.i] [.i h]))))))) else (gd k (some (some 0,kp d 0 [.s,.l,.i,.i,.s,.s,.i,.i,.s,.s,.l] (.i (d.iV 13)::.i (d.iV 14)::kp d 16 [.l,.i,.i] [])))))
def anA:bA:=⟨9,[],⟨94,[(2,al),(3,al),(5,.s (.ptr 0 0)),(9,.s (.ptr 1 0)),(10,.s (.vQ 2 4)),(12,.s (.ptr 3 0)),(13,.s (.list [.I,.I])),(22,.s (.list c8)),(23,al),(24,al),(53,kA),(54,al),(55,al)],[.box [.str,.list a_],.box [.I,.I,.str,.str,.I,.I,.str,.str],.vQ gy 0,.box [.str,.list a_]]⟩,[.aM 5,.aM 9,.aM 10,.aM 12],[⟨.exit 2,⟨94,UH,Ut⟩,Tr⟩],An⟩
def Wl:LT:=bx.add 0 anA
def anB:aT P 0 Wl (bf f107):=aT.add hm (Ij.kQ [150]) aB (bG _ _ _) (fun d=>by kernel_rfl)
def qn(d:LG):bp:=
 let h:=(d.rZ 13).gR (d.iV 15); let v:=bE (d.rZ 10); let k:=(d.iV 15)+1; (bif (aN (d.iV 15) (d.iV 14)) then (gd (nL (d.iV 15) (lI (d.rZ 13))) (bif ((h.sV 0).toList==(d.sV 0).toList) then (gd (aA k) (gd v (some (none,kp d 0 [.s,.l,.i,.i,.s,.s,.i,.i,.s,.s,.l,.i,.i,.l,.i] [.i k])))) else (bif ((h.sV 0).toList==(d.sV 5).toList) then (gd (aA k) (gd v (some (none,kp d 0 [.s,.l,.i,.i,.s,.s,.i,.i,.s,.s,.l,.i,.i,.l,.i] [.i k])))) else (aI (Ih [.s (h.sV 0),.s (d.sV 5)]) fun I=>(bif (aN 2 (I.iV 0)) then (gd (aA k) (gd v (some (none,kp d 0 [.s,.l,.i,.i,.s,.s,.i,.i,.s,.s,.l,.i,.i,.l,.i] [.i k])))) else (aI (DA [.l [(bg [.str,.list a_] d)],.l [(bg [.str,.list a_] h)],.i (d.iV 12)]) fun M=>(be v (bR An (kp d 0 [.s,.l,.i,.i,.s,.s,.i,.i,.s,.s,.l] (.s (h.sV 0)::.l (h.rZ 1)::.i (d.iV 11)::.i (d.iV 12)::.l (M.rZ 0)::kp d 13 [.l,.i,.i] [.l (h.rZ 1),.i (lI (h.rZ 1)),.i 0]))) fun N y=>(gd (aA ((y.iV 15)+1)) (gd (bE (y.rZ 10)) (some (none,kp y 0 [.s,.l,.i,.i,.s,.s,.i,.i,.s,.s,.l,.i,.i,.l,.i] [.i ((y.iV 15)+1)]))))))))))) else (gd v (eQ [.l (d.rZ 10)])))
def anC:bA:=⟨4,[(10,gy)],⟨94,UH,Ut⟩,Tr,[⟨.exit 0,⟨94,[(10,.s (.vQ 0 4))],[.vQ gy 0]⟩,[.aM 10]⟩],qn⟩
def anD:LT:=Wl.add 0 anC
def anE:aT P 0 anD (bf f107):=aT.add hm (Ij.kQ [150]) aB anB (fun d=>by kernel_rfl)
def DE(d:LG):Option LG:=
 let k:=(gi (d.rV 1) 1).rZ.gR (d.iV 2); (gd (nL (d.iV 2) (((gi (d.rV 1) 1).rZ.length:Nat):Int)) (be true (bR qn (.s (gi (d.rV 1) 0).sV::.l (gi (d.rV 1) 1).rZ::kp k 0 [.i,.i,.s,.s,.i,.i,.s,.s] [.l [],.i (d.iV 2),.i (d.iV 3),.l (d.rZ 0),.i (lI (d.rZ 0)),.i 0])) fun v h=>(gd (bE (h.rZ 0)) (some [.l (h.rZ 0)]))))
def anF:aL:=⟨107,[.s (.list c8),po,al,al],[],[],G3,[],[],[],DE⟩
def t131:aF:=t130.bu anF
def anG:aH P t131:=Ij.aP (nC hm (Ij.kQ [150]) func107 aB anE (fun d=>by kernel_rfl) aB)

def Ik(d:LG):Option LG:=
 let k:=(gi (d.rV 1) 1).rZ.gR (d.iV 2); let I:=DE [.l (d.rZ 0),.l [(bg [.str,.list a_] (d.rV 1))],.i (d.iV 2),.i (d.iV 3)]; let M:=(⟨#[]⟩:BY); let z4:=(lI (d.rZ 0)); (gd (nL (d.iV 2) (((gi (d.rV 1) 1).rZ.length:Nat):Int)) (aI (xc [.l (d.rZ 0),.s (k.sV 3)]) fun v=>let N:=bif (bq 0 (v.iV 0)) then some [.l [[.i (d.iV 2),.i 4,.s M,.i (-1)]]] else some [.l [[.i (d.iV 2),.i 5,.s M,.i (-1)]]]; let y:=(d.rZ 0).gR (v.iV 0); let O:=nL (v.iV 0) z4; (bif (bq 0 (v.iV 0)) then (gd O (aI (DA [.l [(bg [.str,.list a_] (d.rV 1))],.l [(bg [.str,.list a_] y)],.i (d.iV 3)]) fun g2=>(aI (Ig [.l (g2.rZ 0),.i (d.iV 2)]) fun h=>(bif (bq 0 (h.iV 0)) then (gd O (gd (nL (h.iV 0) (lI (y.rZ 1))) (aI (DC [.l [(bg a_ k)],.l [(bg a_ ((y.rZ 1).gR (h.iV 0)))]]) fun g4=>(bif (g4.bV 0) then some [.l [[.i (d.iV 2),.i 1,.s (k.sV 3),.i (h.iV 0)]]] else some [.l [[.i (d.iV 2),.i 3,.s (k.sV 3),.i (h.iV 0)]]])))) else (aI I fun U=>let W:=(lI (U.rZ 0)); (bif (W==1) then (gd (aN 0 W) (some [.l [(bg gy ((U.rZ 0).getD 0 []))]])) else N)))))) else (aI I fun g6=>let z9:=(lI (g6.rZ 0)); (bif (z9==1) then (gd (aN 0 z9) (some [.l [(bg gy ((g6.rZ 0).getD 0 []))]])) else N)))))
def anH:aL:=⟨76,[.s (.list c8),po,al,al],[],[],[.s (.row gy)],[],[],[],Ik⟩
def t132:aF:=t131.bu anH
def Nv:aH P t132:=dQ anG func76

def DF(d:LG):bp:=
 let v:=((d.rZ 2)++([[.i (d.iV 7),.i 6,.s (⟨#[]⟩:BY),.i (-1)]]:LL)); let y:=H8 [.l (d.rZ 2),.l [(bg [.str,.list a_] d)],.l [(bg a_ ((d.rZ 5).gR (d.iV 7)))]]; let k:=aD (d.rZ 2).length (d.rZ 2).length; let I:=k&&(decide (((d.rZ 2).length+1)<=1048576)); let h:=(d.iV 7)+1; (bif (aN (d.iV 7) (d.iV 6)) then (gd (nL (d.iV 7) (lI (d.rZ 5))) (i_ ((k&&true)&&y.isSome) y fun N=>(bif (!(N.bV 0)) then (aI (Ik [.l (d.rZ 3),.l [(bg [.str,.list a_] d)],.i (d.iV 7),.i (d.iV 4)]) fun O=>let M:=((d.rZ 2)++([(bg gy (O.rV 0))]:LL)); (gd I (gd (aA h) (gd (bE M) (some (none,.s (d.sV 0)::.l (d.rZ 1)::.l M::kp d 3 [.l,.i,.l,.i] [.i h])))))) else (gd I (gd (aA h) (gd (bE v) (some (none,.s (d.sV 0)::.l (d.rZ 1)::.l v::kp d 3 [.l,.i,.l,.i] [.i h])))))))) else (gd (k&&true) (eQ [.l (d.rZ 2)])))
def anI:bA:=⟨4,[(8,gy)],⟨45,[(0,.s (.list c8)),(2,al),(7,.s (.ptr 0 0)),(8,.s (.vQ 1 4)),(20,kA),(21,al),(22,al)],[.box [.str,.list a_],.vQ gy 0]⟩,[.aM 7,.aM 8],[⟨.exit 0,⟨45,[(8,.s (.vQ 0 4))],[.vQ gy 0]⟩,[.aM 8]⟩],DF⟩
def anJ:LT:=bx.add 0 anI
def anK:aT P 0 anJ (bf f47):=aT.add hm (Nv.kQ [74]) aB (bG _ _ _) (fun d=>by kernel_rfl)
def Il(d:LG):Option LG:=
 (aI (xc [.l (d.rZ 0),.s (d.sV 1)]) fun k=>let h:=(d.rZ 0).gR (k.iV 0); (gd (nL (k.iV 0) (lI (d.rZ 0))) (be true (bR DF [.s (h.sV 0),.l (h.rZ 1),.l [],.l (d.rZ 0),.i (d.iV 2),.l (h.rZ 1),.i (lI (h.rZ 1)),.i 0]) fun y v=>(gd (bE (v.rZ 0)) (some [.l (v.rZ 0)])))))
def anL:aL:=⟨47,MN,[],[],G3,[],[],[],Il⟩
def t133:aF:=t132.bu anL
def Nw:aH P t133:=Nv.aP (nC hm (Nv.kQ [74]) func47 aB anK (fun d=>by kernel_rfl) aB)

end
end Go.Proofs.jI
