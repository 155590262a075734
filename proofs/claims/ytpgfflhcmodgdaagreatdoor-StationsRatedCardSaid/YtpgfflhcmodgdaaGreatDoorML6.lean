/-
 What is proved here: functions of the program as functions on data. No condition.
-/
import Derived.Test.YtpgfflhcmodgdaaGreatDoorML5
set_option linter.all false
open Nat renaming beq->aD
namespace Go.Proofs.jI
open Go Go.AL Go.Proofs Tryz
noncomputable section
def Ao(d:LG):bp:=
 let k:=bE (d.rZ 0); let v:=gi ((d.rZ 10).gR (d.iV 12)) 1; let h:=(d.iV 12)+1; let y:=(d.iV 5)+1; let I:=(d.iV 6)+1; (bif (aN (d.iV 12) (d.iV 11)) then (gd (nL (d.iV 12) (lI (d.rZ 10))) (bif (v.iV==1) then (gd (aA y) (bif (v.iV != 5) then (bif (v.iV != 6) then (gd (aA I) (gd (aA h) (gd k (some (none,kp d 0 [.l,.s,.l,.l,.i] (.i y::.i I::kp d 7 [.l,.i,.i,.l,.i] [.i h])))))) else (gd (aA h) (gd k (some (none,kp d 0 [.l,.s,.l,.l,.i] (.i y::kp d 6 [.i,.l,.i,.i,.l,.i] [.i h])))))) else (gd (aA h) (gd k (some (none,kp d 0 [.l,.s,.l,.l,.i] (.i y::kp d 6 [.i,.l,.i,.i,.l,.i] [.i h]))))))) else (bif (v.iV != 5) then (bif (v.iV != 6) then (gd (aA I) (gd (aA h) (gd k (some (none,kp d 0 [.l,.s,.l,.l,.i,.i] (.i I::kp d 7 [.l,.i,.i,.l,.i] [.i h])))))) else (gd (aA h) (gd k (some (none,kp d 0 [.l,.s,.l,.l,.i,.i,.i,.l,.i,.i,.l,.i] [.i h]))))) else (gd (aA h) (gd k (some (none,kp d 0 [.l,.s,.l,.l,.i,.i,.i,.l,.i,.i,.l,.i] [.i h]))))))) else (gd k (some (some 0,kp d 0 [.l,.s,.l,.l,.i,.i,.i,.l,.i,.i] []))))
def anM:bA:=⟨7,[],⟨58,[(0,.s (.list c8)),(1,al),(5,.s (.vQ 0 2)),(7,.s (.ptr 1 0)),(8,al),(9,al),(12,.s (.list c8)),(13,al),(14,al),(22,.s (.list gy)),(23,al),(24,al)],[.vQ [.str,.str] 0,.box [.str,.list a_]]⟩,q_,[⟨.exit 2,⟨58,[(0,.s (.list c8)),(1,al),(5,.s (.vQ 0 2)),(7,.s (.ptr 1 0)),(8,al),(9,al),(12,.s (.list c8)),(13,al),(14,al)],[.vQ [.str,.str] 0,.box [.str,.list a_]]⟩,q_⟩],Ao⟩
def Wm:LT:=bx.add 0 anM
def anN:aT P 0 Wm (bf f16):=lA Nw (bG _ _ _)
def DG(d:LG):bp:=
 let k:=(d.rZ 3).gR (d.iV 5); let v:=bE (d.rZ 0); let U:=(⟨#[47]⟩:BY); (bif (aN (d.iV 5) (d.iV 4)) then (gd (nL (d.iV 5) (lI (d.rZ 3))) (aI (Il [.l (d.rZ 1),.s (k.sV 0),.i (d.iV 2)]) fun y=>(be v (bR Ao (.l (d.rZ 0)::.s (k.sV 0)::.l (k.rZ 1)::.l (d.rZ 1)::.i (d.iV 2)::.i 0::.i 0::kp d 3 [.l,.i,.i] [.l (y.rZ 0),.i (lI (y.rZ 0)),.i 0])) fun W h=>(aI (mM [.i (h.iV 5)]) fun I=>let M:=(I.sV 0)++U; (gd (Nat.ble ((I.sV 0).size+1) 9223372036854775807) (aI (mM [.i (h.iV 6)]) fun N=>let O:=((h.rZ 0)++([[.s (h.sV 1),.s (M++(N.sV 0))]]:LL)); (gd (Nat.ble (M.size+(N.sV 0).size) 9223372036854775807) (gd ((aD (h.rZ 0).length (h.rZ 0).length)&&(decide (((h.rZ 0).length+1)<=1048576))) (gd (aA ((h.iV 9)+1)) (gd (bE O) (nQ [.l O,.l (h.rZ 3),.i (h.iV 4),.l (h.rZ 7),.i (h.iV 8),.i ((h.iV 9)+1)]))))))))))) else (gd v (eQ [.l (d.rZ 0)])))
def anO:bA:=⟨3,[(5,[.str,.str])],⟨58,[(0,.s (.list c8)),(1,al),(5,.s (.vQ 0 2)),(12,.s (.list c8)),(13,al),(14,al)],sD⟩,q9,[⟨.exit 0,⟨58,[(5,.s (.vQ 0 2))],sD⟩,q9⟩],DG⟩
def anP:LT:=Wm.add 0 anO
def anQ:aT P 0 anP (bf f16):=lA Nw anN
def uM(d:LG):Option LG:=
 (be true (bR DG [.l [],.l (d.rZ 0),.i (d.iV 1),.l (d.rZ 0),.i (lI (d.rZ 0)),.i 0]) fun k h=>(gd (bE (h.rZ 0)) (some [.l (h.rZ 0)])))
def anR:aL:=⟨16,G0,[],[],[.s (.list [.str,.str])],[],[],[],uM⟩
def t134:aF:=t133.bu anR
def Wn:aH P t134:=tP Nw func16 anQ

def DH(d:LG):bp:=
 (bif (aN (d.iV 3) (d.iV 2)) then (gd (nL (d.iV 3) (lI (d.rZ 0))) (gd (nL (d.iV 3) (lI (d.rZ 1))) (bif (!(aZ [.str,.str] (bg [.str,.str] ((d.rZ 0).gR (d.iV 3))) (bg [.str,.str] ((d.rZ 1).gR (d.iV 3))))) then eQ [.t false] else (gd (aA ((d.iV 3)+1)) (some (none,kp d 0 [.l,.l,.i] [.i ((d.iV 3)+1)])))))) else eR [])
def anS:bA:=⟨4,[],⟨26,[(0,.s (.list [.str,.str])),(1,.s (.list [.str,.str])),(12,al),(13,al)],[]⟩,[],[⟨.ret,⟨26,[(4,dG)],[]⟩,[]⟩,⟨.exit 0,⟨26,[],[]⟩,[]⟩],DH⟩
def anT:LT:=bx.add 0 anS
def anU:aT P 0 anT (bf f17):=lA Wn (bG _ _ _)
def Ap(d:LG):Option LG:=
 let h:=(lI (d.rZ 0)); (bif (h != (lI (d.rZ 1))) then some [.t false] else (be true (bR DH [.l (d.rZ 0),.l (d.rZ 1),.i h,.i 0]) fun k v=>(bif aD k 0 then some [.t (v.bV 0)] else some [.t true])))
def anV:aL:=⟨17,[.s (.list [.str,.str]),.s (.list [.str,.str])],[],[],[dG],[],[],[],Ap⟩
def t135:aF:=t134.bu anV
def Wo:aH P t135:=tP Wn func17 anU

def DI(d:LG):bp:=
 (bif (aN (d.iV 3) (d.iV 2)) then (gd (nL (d.iV 3) (lI (d.rZ 0))) (gd (nL (d.iV 3) (lI (d.rZ 1))) (bif (!((gi ((d.rZ 0).gR (d.iV 3)) 0).sV.toList==(gi ((d.rZ 1).gR (d.iV 3)) 0).sV.toList)) then eQ [.t false] else (gd (aA ((d.iV 3)+1)) (some (none,kp d 0 [.l,.l,.i] [.i ((d.iV 3)+1)])))))) else eR [])
def anW:bA:=⟨4,[],⟨26,[(0,.s (.list [.str])),(1,.s (.list [.str])),(12,al),(13,al)],[]⟩,[],[⟨.ret,⟨26,[(4,dG)],[]⟩,[]⟩,⟨.exit 0,⟨26,[],[]⟩,[]⟩],DI⟩
def anX:LT:=bx.add 0 anW
def anY:aT P 0 anX (bf f18):=lA Wo (bG _ _ _)
def Im(d:LG):Option LG:=
 let h:=(lI (d.rZ 0)); (bif (h != (lI (d.rZ 1))) then some [.t false] else (be true (bR DI [.l (d.rZ 0),.l (d.rZ 1),.i h,.i 0]) fun k v=>(bif aD k 0 then some [.t (v.bV 0)] else some [.t true])))
def anZ:aL:=⟨18,[.s (.list [.str]),.s (.list [.str])],[],[],[dG],[],[],[],Im⟩
def t136:aF:=t135.bu anZ
def an0:aH P t136:=tP Wo func18 anY

def DJ(d:LG):Option LG:=
 (aI (oA [.l (d.rZ 0)]) fun v=>(bif ((v.iV 0) != 0) then some [.l [],.i 0,.i (v.iV 0)] else (aI (C5 [.i (d.iV 2)]) fun y=>(bif ((y.iV 0) != 0) then some [.l [],.i 0,.i (y.iV 0)] else (aI (w7 [.l (d.rZ 0),.s (d.sV 1)]) fun k=>(bif (!(k.bV 1)) then some [.l [],.i 0,.i 8] else (aI (M9 [.l (d.rZ 0),.i (k.iV 0),.i (d.iV 2)]) fun h=>(aI (Dc (kp h 0 [.l,.i,.i,.l] [.i (h.nN 4),.l (h.rZ 5),.i (h.nN 6)])) fun I=>some [.l (I.rZ 3),.i (k.iV 0),.i 0]))))))))
def an1:aL:=⟨77,MN,[],[],[.s (.list gy),al,al],[],[],[],DJ⟩
def t137:aF:=t136.bu an1
def an2:aH P t137:=dQ an0 func77

def Nx(d:LG):Option LG:=
 (aI (DJ (kp d 0 [.l,.s,.i] [])) fun h=>some [.l (h.rZ 0),.i (h.iV 2)])
def an3:aL:=⟨48,MN,[],[],[.s (.list gy),al],[],[],[],Nx⟩
def t138:aF:=t137.bu an3
def an4:aH P t138:=dQ an2 func48

def DK(d:LG):Option LG:=
 let k:=(⟨#[107,49,97,98]⟩:BY); let h:=(⟨#[]⟩:BY); let y:=(⟨#[119,49,97,119]⟩:BY); (aI (Nx [.l [[.s k,.l [[.i 5,.i 1,.s (⟨#[98]⟩:BY),.s y,.i 1,.i 2,.s h,.s h]]],[.s y,.l [[.i 9,.i 1,.s (⟨#[98]⟩:BY),.s k,.i 2,.i 1,.s h,.s h]]]],.s k,.i 4]) fun v=>let I:=(lI (v.rZ 0)); (bif ((v.iV 1)==0) then (bif (I==1) then (gd (aN 0 I) (some [.t ((gi ((v.rZ 0).getD 0 []) 1).iV==1)])) else some [.t false]) else some [.t false]))
def an5:aL:=⟨19,[],[],[],[dG],[],[],[],DK⟩
def t139:aF:=t138.bu an5
def Io:aH P t139:=tP an4 func19 (qS [(3,[.Ge 1 1 a_,.Ge 2 1 a_])])

def DL(d:LG):bp:=
 let h:=Im [.l (d.rZ 4),.l (d.rZ 13)]; let k:=Ap [.l (d.rZ 2),.l (d.rZ 11)]; let v:=(d.iV 7)==(d.iV 10); let y:=(d.iV 3)==(d.iV 9); let I:=(d.iV 5)==(d.iV 8); (bif ((d.iV 10)==0) then (aI (uM [.l (d.rZ 0),.i (d.iV 1)]) fun M=>(bif y then (aI k fun N=>(bif (N.bV 0) then (bif I then (aI h fun O=>(bif (O.bV 0) then (bif v then (aI (Ap [.l (d.rZ 6),.l (M.rZ 0)]) fun U=>(bif (U.bV 0) then (aI (DK []) fun W=>eQ [.t (W.bV 0)]) else eQ [.t false])) else eQ [.t false]) else eQ [.t false])) else eQ [.t false]) else eQ [.t false])) else eQ [.t false])) else (bif y then (aI k fun g19=>(bif (g19.bV 0) then (bif I then (aI h fun g20=>(bif (g20.bV 0) then (bif v then (aI (Ap [.l (d.rZ 6),.l (d.rZ 12)]) fun g21=>(bif (g21.bV 0) then (aI (DK []) fun g22=>eQ [.t (g22.bV 0)]) else eQ [.t false])) else eQ [.t false]) else eQ [.t false])) else eQ [.t false]) else eQ [.t false])) else eQ [.t false]))
def an6:bA:=⟨14,[],⟨108,UI,[]⟩,[],[⟨.ret,⟨108,[(2,dG)],[]⟩,[]⟩],DL⟩
def Wp:LT:=bx.gv 0 an6
def an7:aT P 0 Wp (bf f3):=lC Io (bG _ _ _)
def sH(d:LG):bp:=
 (bif ((d.iV 8)==0) then (aI (Ai [.l (d.rZ 0)]) fun h=>(be true (c7 (DL (kp d 0 [.l,.i,.l,.i,.l,.i,.l,.i,.i,.i,.i,.l,.l] [.l (h.rZ 0)]))) fun y k=>eQ [.t (k.bV 0)])) else (be true (c7 (DL (kp d 0 [.l,.i,.l,.i,.l,.i,.l,.i,.i,.i,.i,.l,.l,.l] []))) fun I v=>eQ [.t (v.bV 0)]))
def an8:bA:=⟨12,[],⟨108,UI,[]⟩,[],[⟨.ret,⟨108,[(2,dG)],[]⟩,[]⟩],sH⟩
def an9:LT:=Wp.gv 0 an8
def an_:aT P 0 an9 (bf f3):=lC Io an7
def Ny(d:LG):Option LG:=
 (aI (Hk [.l (d.rZ 0),.i 0]) fun h=>(aI (Hl [.l (h.rZ 0),.i (h.iV 1)]) fun k=>let z1:=Dj [.i (k.iV 2)]; (aI (nF [.l (k.rZ 0),.i (k.iV 1),.l [[.i 1],[.i 1],[.i 2],[.i 3],[.i 0],[.i 101]]]) fun N=>let z2:=z_ [.l (h.rZ 2),.i (N.iV 2)]; (aI (zB [.l (h.rZ 2),.i (N.iV 2)]) fun v=>(aI (zF [.l (h.rZ 2)]) fun y=>(aI (uJ [.l (h.rZ 2),.i (k.iV 2)]) fun I=>(aI (Dh [.l (h.rZ 2)]) fun M=>(bif (aN (N.iV 2) 1) then (aI (Di [.t true,.i 1]) fun g8=>(aI (qm [.l [[.i (M.iV 0)],[.i (g8.iV 0)]]]) fun U=>(aI z1 fun g10=>(aI (qm [.l [[.i (M.iV 0)],[.i (g10.iV 0)]]]) fun W=>(bif ((U.iV 0)==0) then (aI z2 fun g12=>(be true (c7 (sH [.l (h.rZ 2),.i (k.iV 2),.l (v.rZ 0),.i (v.iV 1),.l (y.rZ 0),.i (y.iV 1),.l (I.rZ 0),.i (I.iV 1),.i (M.iV 0),.i (U.iV 0),.i (W.iV 0),.l (g12.rZ 0),.l [],.l []])) fun cg25 g25=>some [.t (g25.bV 0)])) else (be true (c7 (sH [.l (h.rZ 2),.i (k.iV 2),.l (v.rZ 0),.i (v.iV 1),.l (y.rZ 0),.i (y.iV 1),.l (I.rZ 0),.i (I.iV 1),.i (M.iV 0),.i (U.iV 0),.i (W.iV 0),.l [],.l [],.l []])) fun cg26 g26=>some [.t (g26.bV 0)])))))) else (aI (Di [.t (aN 100 (N.iV 2)),.i 1]) fun g27=>(aI (qm [.l [[.i (M.iV 0)],[.i (g27.iV 0)]]]) fun O=>(aI z1 fun g29=>(aI (qm [.l [[.i (M.iV 0)],[.i (g29.iV 0)]]]) fun g30=>(bif ((O.iV 0)==0) then (aI z2 fun g31=>(be true (c7 (sH [.l (h.rZ 2),.i (k.iV 2),.l (v.rZ 0),.i (v.iV 1),.l (y.rZ 0),.i (y.iV 1),.l (I.rZ 0),.i (I.iV 1),.i (M.iV 0),.i (O.iV 0),.i (g30.iV 0),.l (g31.rZ 0),.l [],.l []])) fun cg32 g32=>some [.t (g32.bV 0)])) else (be true (c7 (sH [.l (h.rZ 2),.i (k.iV 2),.l (v.rZ 0),.i (v.iV 1),.l (y.rZ 0),.i (y.iV 1),.l (I.rZ 0),.i (I.iV 1),.i (M.iV 0),.i (O.iV 0),.i (g30.iV 0),.l [],.l [],.l []])) fun cg33 g33=>some [.t (g33.bV 0)]))))))))))))))
def Wq:aL:=⟨3,[ja],[],[],[dG],[],[],[],Ny⟩
def Wr:iL P Wq:=l5 hm Io func3 an_ (fun d=>by kernel_rfl)
def t140:aF:=t139.bu Wq
def as2:aH P t140:=Io.aP Wr

end
end Go.Proofs.jI
