/-
 What is proved here: functions of the program as functions on data. No condition.
-/
import Derived.Test.YtpgfflhcmodgdaaGreatDoorML1
set_option linter.all false
open Int renaming tmod->Ew,tdiv->Jt
open Nat renaming beq->aD,blt->dy
namespace Go.Proofs.jI
open Go Go.AL Go.Proofs Tryz
noncomputable section
def zh(d:LG):Option LG:=
 let h:=Ew (d.iV 0) (d.iV 1); (bif (aN (d.iV 1) 1) then some [.i 0] else (gd (!((d.iV 1)==0)) (bif (aN h 0) then (gd (aA (h+(d.iV 1))) (some [.i (h+(d.iV 1))])) else some [.i h])))
def aha:aL:=⟨54,[al,al],[],[],[al],[],[],[],zh⟩
def t8:aF:=t7.bu aha
def ahb:aH P t8:=dQ ag' func54

def ra(d:LG):Option LG:=
 let k:=(lI (d.rZ 0)); let h:=(d.iV 1)+1; let v:=Ew (h-1) k; let y:=(Jt (h-1) k)*(7919+v); (gd (aA h) (bif (k==0) then (gd (aA (h*7919)) (aI (zh [.i (h*7919),.i (d.iV 2)]) fun M=>some [.l (d.rZ 0),.i h,.i (M.iV 0)])) else (gd (aA (h-1)) (gd (!(k==0)) (gd (aA (h-1)) (gd ((!(k==0))&&(aA (Jt (h-1) k))) (gd (nL v k) (aI (zh [.i (gi ((d.rZ 0).gR v) 0).iV,.i 1073741824]) fun I=>(gd (aA (7919+v)) (gd (aA y) (gd (aA ((I.iV 0)+y)) (aI (zh [.i ((I.iV 0)+y),.i (d.iV 2)]) fun N=>some [.l (d.rZ 0),.i h,.i (N.iV 0)]))))))))))))
def ahc:aL:=⟨22,CQ,jJ,iu,[al],jJ,eI,[],ra⟩
def t9:aF:=t8.du ahc
def ahd:aH P t9:=nE ahb func22

def zi(d:LG):Option LG:=
 let h:=(d.iV 3)-(d.iV 2); (bif (aN (d.iV 3) (d.iV 2)) then some (kp d 0 [.l,.i,.i] []) else (gd (aA h) (gd (aA (h+1)) (aI (ra [.l (d.rZ 0),.i (d.iV 1),.i (h+1)]) fun k=>let v:=(d.iV 2)+(k.iV 2); (gd (aA v) (some [.l (k.rZ 0),.i (k.iV 1),.i v]))))))
def ahe:aL:=⟨49,MG,jJ,iu,[al],jJ,eI,[],zi⟩
def t10:aF:=t9.du ahe
def ahf:aH P t10:=nE ahd func49

def nF(d:LG):Option LG:=
 let k:=(lI (d.rZ 2)); (aI (ra [.l (d.rZ 0),.i (d.iV 1),.i k]) fun h=>(gd (nL (h.iV 2) k) (some [.l (h.rZ 0),.i (h.iV 1),.i (gi ((d.rZ 2).gR (h.iV 2)) 0).iV])))
def ahg:aL:=⟨6,[.s (.ptr 0 0),ja],jJ,iu,[al],jJ,eI,[],nF⟩
def t11:aF:=t10.du ahg
def ahh:aH P t11:=nE ahf func6

def kB(d:LG):Option LG:=
 let k:=(lI (d.rZ 2)); (aI (ra [.l (d.rZ 0),.i (d.iV 1),.i k]) fun h=>(gd (nL (h.iV 2) k) (some [.l (h.rZ 0),.i (h.iV 1),.s (gi ((d.rZ 2).gR (h.iV 2)) 0).sV])))
def ahi:aL:=⟨23,[.s (.ptr 0 0),.s (.list [.str])],jJ,iu,[dn],jJ,eI,[],kB⟩
def t12:aF:=t11.du ahi
def ahj:aH P t12:=nE ahh func23

def uA(d:LG):Option LG:=
 (aI (ra (kp d 0 [.l,.i,.i] [])) fun h=>some [.l (h.rZ 0),.i (h.iV 1),.t ((h.iV 2)==0)])
def ahk:aL:=⟨21,CQ,jJ,iu,[dG],jJ,eI,[],uA⟩
def t13:aF:=t12.du ahk
def ahl:aH P t13:=nE ahj func21

def uB(d:LG):Option LG:=
 (bif (aN (d.iV 0) 0) then some [.i (-1)] else (bif (aN 0 (d.iV 0)) then some [.i 1] else some [.i 0]))
def ahm:aL:=⟨79,[al],[],[],[al],[],[],[],uB⟩
def t14:aF:=t13.bu ahm
def ahn:aH P t14:=dQ ahl func79

def wW(d:LG):Option LG:=
 let h:=(gi (d.rV 0) 0).iV-(gi (d.rV 1) 0).iV; let k:=(gi (d.rV 0) 1).iV-(gi (d.rV 1) 1).iV; (bif ((gi (d.rV 0) 0).iV != (gi (d.rV 1) 0).iV) then (gd (aA h) (aI (uB [.i h]) fun v=>some [.i (v.iV 0)])) else (bif (!((gi (d.rV 0) 3).sV.toList==(gi (d.rV 1) 3).sV.toList)) then (aI (pn [.s (gi (d.rV 0) 3).sV,.s (gi (d.rV 1) 3).sV]) fun y=>some [.i (y.iV 0)]) else (bif (!((gi (d.rV 0) 2).sV.toList==(gi (d.rV 1) 2).sV.toList)) then (aI (pn [.s (gi (d.rV 0) 2).sV,.s (gi (d.rV 1) 2).sV]) fun I=>some [.i (I.iV 0)]) else (gd (aA k) (aI (uB [.i k]) fun M=>some [.i (M.iV 0)])))))
def aho:aL:=⟨51,zd,[],[],[al],[],[],[],wW⟩
def t15:aF:=t14.bu aho
def MQ:aH P t15:=dQ ahn func51

def Uo(d:LG):bp:=
 let h:=(d.iV 4)-1; let k:=(d.rZ 0).set (0+(d.iV 4).toNat) (eh a_ ((d.rZ 0).getD (0+(d.iV 4).toNat) []) 0 (bg a_ ((d.rZ 0).getD (0+h.toNat) []))); let M:=(lI (d.rZ 0)); let N:=k.set (0+h.toNat) (eh a_ (k.getD (0+h.toNat) []) 0 (bg a_ ((d.rZ 0).getD (0+(d.iV 4).toNat) []))); let v:=decide ((0+(d.iV 4).toNat)<(d.rZ 0).length); let y:=nL (d.iV 4) M; let O:=bE (d.rZ 0); let U:=decide ((0+h.toNat)<(d.rZ 0).length); let I:=nL h M; (bif (aN (d.iV 1) (d.iV 4)) then (gd y (gd v (gd (aA h) (gd I (gd U (aI (wW [.l [(bg a_ ((d.rZ 0).getD (0+(d.iV 4).toNat) []))],.l [(bg a_ ((d.rZ 0).getD (0+h.toNat) []))]]) fun W=>(bif (aN (W.iV 0) 0) then (gd (aA h) (gd (aA h) (gd I (gd U (gd y (gd v (gd y (gd v (gd I (gd (decide ((0+h.toNat)<k.length)) (gd (aA h) (gd ((aD (d.rZ 0).length N.length)&&true) (some (none,.l N::kp d 1 [.i,.i,.i] [.i h])))))))))))))) else (gd O (some (some 0,kp d 0 [.l,.i,.i,.i] [])))))))))) else (gd O (some (some 0,kp d 0 [.l,.i,.i,.i] []))))
abbrev jb:List bY:=[.vQ [.str] 0]
abbrev iM:List bY:=[.vQ a_ 0]
abbrev sD:List bY:=[.vQ [.str,.str] 0]
abbrev uC:List bY:=[.box [.list [.I],.I],.ba 1 (.one (.str)) a_,.map (.one (.str)) (.one .I)]
abbrev uD:List bY:=[.box [.list [.I],.list [.I],.list [.I]],.vQ [.I] 0]
abbrev wX:List bY:=[.box [.list a_,.list a_,.list [.I],.list [.I],.I,.list [.list [.I]]],.vQ [.I,.I] 0]
abbrev pq:List bY:=[.vQ [.str] 0,.box [.map 2],.map (.one (.str)) (.one .I)]
abbrev nG:List bY:=[.box [.list c8,.I,.I,.map 1,.map 2],.mm 11 (.one .I) (.one .I) (.one .I),.mm 12 (.one .I) (.one .I) (.one (.bool))]
abbrev CT:List bY:=[.box [.str,.list a_],.box [.str,.list a_],.box [.list [.I,.I],.I],.cZ 1 [.list [.I,.I],.I]]
abbrev G7:List bY:=[.box [.list a_,.list a_,.list [.I],.list [.I],.I,.vQ 1 1],.vQ [.list [.I]] 0,.vQ [.I] 0]
abbrev uE:List bY:=[.vQ [.I,.I] 0]
abbrev G8:List bY:=[.box [.str,.list a_],.box [.str,.list a_],.bU 1 (.one (.str)) [.I]]
abbrev G9:List bY:=[.box [.list [.I],.I],.vQ c8 0]
abbrev G_:List bY:=[.map (.one (.str)) (.one .I),.map (.one (.str)) (.one .I)]
abbrev G':List bY:=[.box [.list a_,.list a_,.list [.I],.list [.I],.I,.vQ 1 1],.vQ [.list [.I]] 0]
abbrev Up:List bY:=[.box [.str,.list a_],.box [.str,.list a_],.map (.agg [.str,.I]) (.one (.list [.I])),.vQ [.I,.I] 0]
abbrev Uq:List bY:=[.box [.list c8,.I,.I,.map 1,.map 2],.mm 11 (.one .I) (.one .I) (.one .I),.mm 12 (.one .I) (.one .I) (.one (.bool)),.box [.I,.I,.str,.str,.I,.I,.str,.str]]
abbrev Ur:List bY:=[.box [.I,.I,.I,.I,.I,.I,.I],.box [.I,.I,.I,.I,.I,.I,.I]]
abbrev Us:List bY:=[.box [.str,.list a_],.box [.str,.list a_],.vQ [.I,.I] 0]
abbrev Ut:List bY:=[.box [.str,.list a_],.box [.I,.I,.str,.str,.I,.I,.str,.str],.vQ gy 0]
abbrev uF:List (Nat × Sh):=[(4,al)]
abbrev wY:List (Nat × Sh):=[(2,al)]
abbrev zk:List (Nat × Sh):=[(0,.s (.ptr 0 0)),(3,.s (.list [.str])),(4,.s (.map 1)),(5,al),(6,.s (.map 2)),(24,al),(25,al)]
abbrev CU:List (Nat × Sh):=[(0,dn),(1,dn),(5,.s (.ptr 0 0)),(6,al),(7,.s (.vQ 1 1)),(12,al),(13,al),(21,al),(22,al)]
abbrev Ha:List (Nat × Sh):=[(0,.s (.list c8)),(3,.s (.vQ 0 1)),(8,.s (.list c8)),(9,al),(10,al)]
abbrev MR:List (Nat × Sh):=[(0,.s (.ptr 0 0)),(2,al),(3,.s (.vQ 2 1)),(4,al)]
abbrev MS:List (Nat × Sh):=[(0,.s (.ptr 0 0)),(3,.s (.vQ 1 2)),(4,al),(15,al),(16,al)]
abbrev Uu:List (Nat × Sh):=[(0,.s (.vQ 0 8)),(1,al),(2,al),(3,.s (.fn 51)),(8,al)]
abbrev Uv:List (Nat × Sh):=[(0,.s (.vQ 0 8)),(1,al),(2,.s (.fn 51)),(6,al),(7,al),(8,al)]
abbrev Uw:List (Nat × Sh):=[(0,.s (.vQ 0 8)),(1,al),(2,.s (.fn 51)),(6,al),(7,al)]
abbrev Ux:List (Nat × Sh):=[(0,kA),(9,kA),(10,al),(11,al)]
abbrev Uy:List (Nat × Sh):=[(0,.s (.list c8)),(2,.s (.map 0)),(3,.s (.map 1)),(13,.s (.list c8)),(14,al),(15,al)]
abbrev Uz:List (Nat × Sh):=[(0,.s (.vQ 0 1)),(1,al),(2,al),(3,.clo 31 [.ptr 1 0]),(8,al)]
abbrev UA:List (Nat × Sh):=[(0,.s (.ptr 0 0)),(3,.s (.vQ 1 2)),(4,al),(5,al),(6,al),(15,al),(16,al)]
abbrev UB:List (Nat × Sh):=[(2,al),(3,.s (.ptr 0 0)),(4,.s (.ptr 1 0)),(8,.s (.map 2)),(9,.s (.vQ 3 2)),(24,Tg)]
abbrev UC:List (Nat × Sh):=[(0,.s (.list c8)),(3,.s (.vQ 0 1)),(8,.s (.list c8)),(9,al),(10,al),(15,kA),(16,al),(17,al)]
abbrev UD:List (Nat × Sh):=[(0,.s (.list c8)),(1,al),(5,.s (.vQ 0 2)),(6,al)]
abbrev UE:List (Nat × Sh):=[(2,ja),(3,ja),(4,al),(5,.s (.ptr 0 0)),(6,.s (.ptr 1 0)),(10,.s (.ptr 2 0)),(11,.s (.pre 3 1)),(13,al)]
abbrev UF:List (Nat × Sh):=[(2,al),(3,.s (.ptr 0 0)),(4,.s (.ptr 1 0)),(7,.s (.map 2)),(20,.s (.list c8)),(21,al),(22,al)]
abbrev UG:List (Nat × Sh):=[(2,al),(3,.s (.ptr 0 0)),(4,.s (.ptr 1 0)),(14,.s (.vQ 2 2)),(70,Tg)]
abbrev UH:List (Nat × Sh):=[(2,al),(3,al),(5,.s (.ptr 0 0)),(9,.s (.ptr 1 0)),(10,.s (.vQ 2 4)),(22,.s (.list c8)),(23,al),(24,al)]
abbrev UI:List (Nat × Sh):=[(4,.s (.list c8)),(5,al),(7,.s (.list [.str,.str])),(8,al),(9,.s (.list [.str])),(10,al),(11,.s (.list [.str,.str])),(12,al),(13,al),(14,al),(15,al),(16,.s (.list [.str,.str])),(17,.s (.list [.str,.str])),(18,.s (.list [.str]))]
def ahp:bA:=⟨4,[],⟨53,[(0,.s (.vQ 0 8)),(1,al),(2,al),(3,.s (.fn 51)),(8,al),(9,al)],iM⟩,eI,[⟨.exit 2,⟨53,Uu,iM⟩,eI⟩],Uo⟩
def UJ:LT:=bx.add 1 ahp
def ahq:aT P 1 UJ (bf f108):=lA MQ (bG _ _ _)
def UK(d:LG):bp:=
 (bif (aN (d.iV 3) (d.iV 2)) then (be (bE (d.rZ 0)) (bR Uo (kp d 0 [.l,.i,.i,.i] [.i (d.iV 3)])) fun k h=>(gd (aA ((h.iV 3)+1)) (gd (bE (h.rZ 0)) (some (none,kp h 0 [.l,.i,.i] [.i ((h.iV 3)+1)]))))) else eQ [.l (d.rZ 0)])
def ahr:bA:=⟨1,[],⟨53,Uu,iM⟩,eI,[⟨.exit 0,⟨53,[],iM⟩,eI⟩],UK⟩
def ahs:LT:=UJ.add 1 ahr
def aht:aT P 1 ahs (bf f108):=lA MQ ahq
def MT(d:LG):Option LG:=
 (gd (aA ((d.iV 1)+1)) (be (bE (d.rZ 0)) (bR UK (kp d 0 [.l,.i,.i] [.i ((d.iV 1)+1)])) fun k h=>some [.l (h.rZ 0)]))
def ahu:aL:=⟨108,[.s (.vQ 0 8),al,al,.s (.fn 51)],iM,iu,[],iM,eI,[],MT⟩
def t16:aF:=t15.du ahu
def Hb:aH P t16:=tW MQ func108 aht

def UL(d:LG):bp:=
 let h:=MT [.l (d.rZ 0),.i (d.iV 3),.i (d.iV 4)]; let k:=bE (d.rZ 0); let v:=(d.iV 4)+(d.iV 2); (bif (bq (d.iV 4) (d.iV 1)) then (i_ (k&&h.isSome) h fun y=>(gd (aA v) (gd ((aD (d.rZ 0).length (y.rZ 0).length)&&true) (nQ [.l (y.rZ 0),.i (d.iV 1),.i (d.iV 2),.i (d.iV 4),.i v])))) else (gd k (some (some 0,kp d 0 [.l,.i,.i,.i] []))))
def ahv:bA:=⟨2,[],⟨63,Uv,iM⟩,eI,[⟨.exit 0,⟨63,Uw,iM⟩,eI⟩],UL⟩
def UM:LT:=bx.add 1 ahv
def ahw:aT P 1 UM (bf f78):=lA Hb (bG _ _ _)
def UN(d:LG):bp:=
 (bif (bq (d.iV 4) (d.iV 1)) then (gd (aA ((d.iV 3)+(d.iV 2))) none) else (gd (bE (d.rZ 0)) (some (some 0,kp d 0 [.l,.i,.i,.i] []))))
def ahx:bA:=⟨9,[],⟨63,Uv,iM⟩,eI,[⟨.exit 4,⟨63,Uw,iM⟩,eI⟩],UN⟩
def UO:LT:=UM.add 1 ahx
def ahy:aT P 1 UO (bf f78):=lA Hb ahw
def UP(d:LG):bp:=
 (bif (aN (d.iV 2) (d.iV 1)) then (gd (aA (2*(d.iV 2))) (be (bE (d.rZ 0)) (bR UN (kp d 0 [.l,.i,.i] [.i 0,.i (2*(d.iV 2))])) fun v h=>let k:=(h.iV 3)+(h.iV 2); (gd (aA k) (bif (aN k (h.iV 1)) then none else (gd (aA ((h.iV 2)*2)) (gd (bE (h.rZ 0)) (nQ [.l (h.rZ 0),.i (h.iV 1),.i ((h.iV 2)*2)]))))))) else eQ [.l (d.rZ 0)])
def ahz:bA:=⟨7,[],⟨63,[(0,.s (.vQ 0 8)),(1,al),(2,.s (.fn 51)),(6,al)],iM⟩,eI,[⟨.exit 2,⟨63,[],iM⟩,eI⟩],UP⟩
def ahA:LT:=UO.add 1 ahz
def ahB:aT P 1 ahA (bf f78):=lA Hb ahy
def UQ(d:LG):Option LG:=
 (be (bE (d.rZ 0)) (bR UL [.l (d.rZ 0),.i (d.iV 1),.i 20,.i 0,.i 20]) fun I h=>let k:=MT [.l (h.rZ 0),.i (h.iV 3),.i (h.iV 1)]; (i_ ((bE (h.rZ 0))&&k.isSome) k fun v=>(be ((aD (h.rZ 0).length (v.rZ 0).length)&&true) (bR UP [.l (v.rZ 0),.i (h.iV 1),.i (h.iV 2)]) fun M y=>some [.l (y.rZ 0)])))
def ahC:aL:=⟨78,[.s (.vQ 0 8),al,.s (.fn 51)],iM,iu,[],iM,eI,[],UQ⟩
def t17:aF:=t16.du ahC
def ahD:aH P t17:=tW Hb func78 ahB

def UR(d:LG):Option LG:=
 let h:=(UQ [.l (d.rZ 0),.i (lI (d.rZ 0))]); (i_ ((bE (d.rZ 0))&&h.isSome) h fun k=>some [.l (k.rZ 0)])
def ahE:aL:=⟨50,[.s (.vQ 0 8),.s (.fn 51)],iM,iu,[],iM,eI,[],UR⟩
def t18:aF:=t17.du ahE
def ahF:aH P t18:=nE ahD func50

def CV(d:LG):Option LG:=
 (aI (wW [.l [(bg a_ (d.rV 0))],.l [(bg a_ (d.rV 1))]]) fun h=>some [.t ((h.iV 0)==0)])
def ahG:aL:=⟨53,zd,[],[],[dG],[],[],[],CV⟩
def t19:aF:=t18.bu ahG
def MU:aH P t19:=dQ ahF func53

def US(d:LG):bp:=
 let h:=(d.nN 3); let v:=(d.iV 2).toNat+(d.iV 4).toNat; let M:=(d.rZ 0).set (0+(d.iV 1).toNat) (eh a_ ((d.rZ 0).getD (0+(d.iV 1).toNat) []) 0 (bg a_ ((d.rZ 0).getD v []))); let y:=(d.iV 4)-1; let N:=bE (d.rZ 0); let k:=(d.iV 4)+1; let O:=nL (d.iV 4) h; let U:=decide (v<(d.rZ 0).length); let W:=(d.nN 2); let I:=(d.iV 2).toNat+y.toNat; (bif (aN (d.iV 4) h) then (gd O (gd U (gd (aA y) (gd (nL y h) (gd (decide (I<(d.rZ 0).length)) (aI (CV [.l [(bg a_ ((d.rZ 0).getD v []))],.l [(bg a_ ((d.rZ 0).getD I []))]]) fun g2=>(bif (!(g2.bV 0)) then (gd O (gd U (gd (nL (d.iV 1) (lI (d.rZ 0))) (gd (decide ((0+(d.iV 1).toNat)<(d.rZ 0).length)) (gd (aA ((d.iV 1)+1)) (gd (aA k) (gd ((aD (d.rZ 0).length M.length)&&true) (nQ [.l M,.i ((d.iV 1)+1),.i W,.i h,.i k])))))))) else (gd (aA k) (gd N (nQ [.l (d.rZ 0),.i (d.iV 1),.i W,.i h,.i k])))))))))) else (gd N (eQ [.l (d.rZ 0),.i (d.iV 1)])))
def ahH:bA:=⟨9,[],⟨66,[(0,.s (.vQ 0 8)),(1,.s (.fn 53)),(5,al),(6,.s (.sub 0 8)),(7,al)],iM⟩,eI,[⟨.exit 2,⟨66,[(0,.s (.vQ 0 8)),(5,al)],iM⟩,eI⟩],US⟩
def UT:LT:=bx.add 1 ahH
def ahI:aT P 1 UT (bf f52):=lA MU (bG _ _ _)
def UU(d:LG):bp:=
 let I:=bE (d.rZ 0); let k:=(lI (d.rZ 0)); let v:=(d.iV 1)-1; let y:=(⟨#[]⟩:BY); let M:=0+(d.iV 1).toNat; (bif (aN (d.iV 1) k) then (gd (nL (d.iV 1) k) (gd (decide (M<(d.rZ 0).length)) (gd (aA v) (gd (nL v k) (gd (decide ((0+v.toNat)<(d.rZ 0).length)) (aI (CV [.l [(bg a_ ((d.rZ 0).getD M []))],.l [(bg a_ ((d.rZ 0).getD (0+v.toNat) []))]]) fun W=>(bif (W.bV 0) then (gd ((cO (d.iV 1))&&(bq (d.iV 1) k)) (be I (bR US [.l (d.rZ 0),.i (d.iV 1),.i ((M:Nat):Int),.i ((((d.rZ 0).length-(d.iV 1).toNat):Nat):Int),.i 1]) fun cg3 h=>let N:=(h.rZ 0).length-(h.iV 1).toNat; let U:=((cO (h.iV 1))&&(bq (h.iV 1) (lI (h.rZ 0)))); let O:=0+(h.iV 1).toNat; (gd U (gd (Nat.ble (O+N) (h.rZ 0).length) (gd U (eQ [.l ((h.rZ 0).take O++List.replicate N [.i 0,.i 0,.s y,.s y,.i 0,.i 0,.s y,.s y]++(h.rZ 0).drop (O+N)),.i ((((h.iV 1).toNat-0):Nat):Int)])))))) else (gd (aA ((d.iV 1)+1)) (gd I (nQ [.l (d.rZ 0),.i ((d.iV 1)+1)])))))))))) else (gd I (eR [.l (d.rZ 0)])))
def ahJ:bA:=⟨4,[],⟨66,[(0,.s (.vQ 0 8)),(1,.s (.fn 53)),(5,al)],iM⟩,eI,[⟨.ret,⟨66,[(4,.s (.pre 0 8))],iM⟩,eI⟩,⟨.exit 0,⟨66,[(0,.s (.vQ 0 8))],iM⟩,eI⟩],UU⟩
def ahK:LT:=UT.add 1 ahJ
def ahL:aT P 1 ahK (bf f52):=lA MU ahI
def UW(d:LG):Option LG:=
 let k:=(lI (d.rZ 0)); (bif (aN k 2) then some [.l (d.rZ 0),.i k] else (be (bE (d.rZ 0)) (bR UU [.l (d.rZ 0),.i 1]) fun v h=>(bif aD v 0 then some [.l (h.rZ 0),.i (h.nN 1)] else some [.l (h.rZ 0),.i (lI (h.rZ 0))])))
def ahM:aL:=⟨52,[.s (.vQ 0 8),.s (.fn 53)],iM,iu,[.s (.pre 0 8)],iM,eI,[],UW⟩
def t20:aF:=t19.du ahM
def uG:aH P t20:=tW MU func52 ahL

def nH(d:LG):bp:=
 (gd (aA ((d.iV 9)+1)) (some (some 0,kp d 0 [.l,.i,.l] (.i (d.nN 3)::.l (d.rZ 4)::.i (d.nN 5)::kp d 6 [.l,.i,.i] [.i ((d.iV 9)+1)]))))
def ahN:bA:=⟨30,[],⟨161,zk,uC⟩,uw,[⟨.normal,⟨161,zk,uC⟩,uw⟩],nH⟩
def UX:LT:=(bx.sk [(3,[.ba 4 1]),(14,[.hole a_]),(38,[.L9 16,.freeze 16])]).gv 1 ahN
def ahO:aT P 1 UX (bf f20):=aT.gv hm (uG.kz [1500089]) aB (qS _) (fun d=>by kernel_rfl)
def zl(d:LG):bp:=
 let h:=fY [.str] (d.rZ 2) [.s (d.sV 8)]; let k:=(h++([(bg a_ (d.rV 9))]:LL)); let v:=iq [.str] (d.rZ 2) [.s (d.sV 8)]; let y:=(d.nN 5); (bif (d.bV 12) then (gd (fG [.str] (d.rZ 2) [.s (d.sV 8)]) (gd ((aD h.length h.length)&&(decide ((h.length+1)<=1048576))) (gd (aD k.length k.length) (eQ [.l (d.rZ 0),.i (d.iV 1),.l (p_ [.str] v [.s (d.sV 8)] k (d.iV 3).toNat),.i (((dK [.str] v [.s (d.sV 8)] (d.iV 3).toNat):Nat):Int),.l (d.rZ 4),.i y,.l (d.rZ 6),.i (d.iV 7),.i (d.iV 10),.i (d.iV 11)])))) else some (some 0,kp d 0 [.l,.i,.l] [.i (d.nN 3),.l (d.rZ 4),.i y,.l (d.rZ 6),.i (d.iV 7),.i (d.iV 10),.i (d.iV 11)]))
def ahP:bA:=⟨29,[],⟨161,[(0,.s (.ptr 0 0)),(3,.s (.list [.str])),(4,.s (.map 1)),(5,al),(6,.s (.map 2)),(8,dn),(12,.s (.cptr a_)),(24,al),(25,al),(130,dG)],uC⟩,uw,[⟨.normal,⟨161,zk,uC⟩,uw⟩],zl⟩
def UY:LT:=UX.gv 1 ahP
def ahQ:aT P 1 UY (bf f20):=aT.gv hm (uG.kz [1500089]) aB ahO (fun d=>by kernel_rfl)
def zm(d:LG):bp:=
 let y:=(d.nN 3); let I:=(d.nN 5); let M:=bg a_ (d.rV 9); (bif (!((gi (d.rV 9) 3).sV.toList==(d.sV 8).toList)) then (aI (uA [.l (d.rZ 0),.i (d.iV 1),.i 8]) fun v=>(be true (c7 (zl (.l (v.rZ 0)::.i (v.iV 1)::.l (d.rZ 2)::.i y::.l (d.rZ 4)::.i I::kp d 6 [.l,.i,.s] [.l [M],.i (d.iV 10),.i (d.iV 11),.t (!(v.bV 2))]))) fun N h=>some (some 0,kp h 0 [.l,.i,.l] (.i (h.nN 3)::.l (h.rZ 4)::.i (h.nN 5)::kp h 6 [.l,.i,.i,.i] [])))) else (be true (c7 (zl (kp d 0 [.l,.i,.l] (.i y::.l (d.rZ 4)::.i I::kp d 6 [.l,.i,.s] [.l [M],.i (d.iV 10),.i (d.iV 11),.t false])))) fun O k=>some (some 0,kp k 0 [.l,.i,.l] (.i (k.nN 3)::.l (k.rZ 4)::.i (k.nN 5)::kp k 6 [.l,.i,.i,.i] []))))
def ahR:bA:=⟨28,[],⟨161,[(0,.s (.ptr 0 0)),(3,.s (.list [.str])),(4,.s (.map 1)),(5,al),(6,.s (.map 2)),(8,dn),(12,.s (.cptr a_)),(24,al),(25,al)],uC⟩,uw,[⟨.normal,⟨161,zk,uC⟩,uw⟩],zm⟩
def UZ:LT:=UY.gv 1 ahR
def ahS:aT P 1 UZ (bf f20):=aT.gv hm (uG.kz [1500089]) aB ahQ (fun d=>by kernel_rfl)
def rb(d:LG):bp:=
 let v:=fY [.str] (d.rZ 2) [.s (d.sV 16)]; let y:=(v++([(kp d 6 [.i,.i,.s,.s,.i,.i,.s,.s] [])]:LL)); let I:=iq [.str] (d.rZ 2) [.s (d.sV 16)]; let M:=(d.nN 5); let N:=bg a_ (d.rV 18); (bif (!((d.sV 9).toList==(d.sV 16).toList)) then (gd (fG [.str] (d.rZ 2) [.s (d.sV 16)]) (gd ((aD v.length v.length)&&(decide ((v.length+1)<=1048576))) (gd (aD y.length y.length) (be true (c7 (zm [.l (d.rZ 0),.i (d.iV 1),.l (p_ [.str] I [.s (d.sV 16)] y (d.iV 3).toNat),.i (((dK [.str] I [.s (d.sV 16)] (d.iV 3).toNat):Nat):Int),.l (d.rZ 4),.i M,.l (d.rZ 14),.i (d.iV 15),.s (d.sV 17),.l [N],.i (d.iV 19),.i (d.iV 20)])) fun O h=>some (some 0,kp h 0 [.l,.i,.l] (.i (h.nN 3)::.l (h.rZ 4)::.i (h.nN 5)::kp h 6 [.l,.i,.i,.i] [])))))) else (be true (c7 (zm (kp d 0 [.l,.i,.l] [.i (d.nN 3),.l (d.rZ 4),.i M,.l (d.rZ 14),.i (d.iV 15),.s (d.sV 17),.l [N],.i (d.iV 19),.i (d.iV 20)]))) fun U k=>some (some 0,kp k 0 [.l,.i,.l] (.i (k.nN 3)::.l (k.rZ 4)::.i (k.nN 5)::kp k 6 [.l,.i,.i,.i] []))))
def ahT:bA:=⟨26,[],⟨161,[(0,.s (.ptr 0 0)),(3,.s (.list [.str])),(4,.s (.map 1)),(5,al),(6,.s (.map 2)),(7,dn),(8,dn),(11,.s (.ptr 3 0)),(12,.s (.cptr a_)),(24,al),(25,al)],[.box [.list [.I],.I],.ba 1 (.one (.str)) a_,.map (.one (.str)) (.one .I),.box [.I,.I,.str,.str,.I,.I,.str,.str]]⟩,[.fix 0,.aM 4,.aM 6,.aM 11],[⟨.normal,⟨161,zk,uC⟩,uw⟩],rb⟩
def U0:LT:=UZ.gv 1 ahT
def ahU:aT P 1 U0 (bf f20):=aT.gv hm (uG.kz [1500089]) aB ahS (fun d=>by kernel_rfl)
def zn(d:LG):bp:=
 let z1:=(d.nN 3); let N:=(⟨#[]⟩:BY); let W:=(⟨#[120]⟩:BY); let z4:=(⟨#[111,104,50,97,98,100]⟩:BY); let z5:=(⟨#[98,50,48]⟩:BY); let z6:=(⟨#[111,104,50,97,98,99]⟩:BY); let z7:=(⟨#[119,49,97,120]⟩:BY); let z8:=(⟨#[107,49,97,97]⟩:BY); let z9:=(⟨#[98,52,48]⟩:BY); (bif (aN (d.iV 9) (d.iV 8)) then (aI (nF [.l (d.rZ 0),.i (d.iV 1),.l [[.i 0],[.i 20],[.i 100],[.i 1000]]]) fun g3=>let y:=(d.iV 7)+(g3.iV 2); (gd (aA y) (aI (kB [.l (g3.rZ 0),.i (g3.iV 1),.l (d.rZ 6)]) fun k=>let z11:=dV [.str] (d.rZ 4) [.s (k.sV 2)] [.i ((gi (cR [.str] (d.rZ 4) [.s (k.sV 2)] [.i 0]) 0).iV+1)] (d.iV 5).toNat; let z12:=dK [.str] (d.rZ 4) [.s (k.sV 2)] (d.iV 5).toNat; (aI (kB [.l (k.rZ 0),.i (k.iV 1),.l [[.s (⟨#[107,49,97,98]⟩:BY)],[.s z6],[.s z4],[.s (⟨#[119,49,97,119]⟩:BY)],[.s (⟨#[110,49,109,109]⟩:BY)]]]) fun h=>let z13:=dV [.str] z11 [.s (h.sV 2)] [.i ((gi (cR [.str] z11 [.s (h.sV 2)] [.i 0]) 0).iV+1)] z12; let M:=gi (cR [.str] z13 [.s (h.sV 2)] [.i 0]) 0; let U:=gi (cR [.str] z13 [.s (k.sV 2)] [.i 0]) 0; let z16:=(((dK [.str] z11 [.s (h.sV 2)] z12):Nat):Int); (bif ((k.sV 2).toList==(h.sV 2).toList) then (be true (c7 (nH [.l (h.rZ 0),.i (h.iV 1),.l (d.rZ 2),.i z1,.l (d.rZ 4),.i (d.nN 5),.l (d.rZ 6),.i y,.i (d.iV 8),.i (d.iV 9)])) fun cg6 g6=>some (none,kp g6 0 [.l,.i,.l] (.i (g6.nN 3)::.l (g6.rZ 4)::.i (g6.nN 5)::kp g6 6 [.l,.i,.i,.i] []))) else (gd (aA ((gi (cR [.str] (d.rZ 4) [.s (k.sV 2)] [.i 0]) 0).iV+1)) (gd (aA ((gi (cR [.str] z11 [.s (h.sV 2)] [.i 0]) 0).iV+1)) (aI (kB [.l (h.rZ 0),.i (h.iV 1),.l [[.s z5],[.s z5],[.s z9]]]) fun O=>(aI (nF [.l (O.rZ 0),.i (O.iV 1),.l [[.i 1],[.i 1],[.i 2]]]) fun I=>(aI (nF [.l (I.rZ 0),.i (I.iV 1),.l [[.i 0],[.i 10],[.i 30],[.i 60],[.i 200]]]) fun g9=>let z17:=y+(g9.iV 2); (gd (aA z17) (aI (ra [.l (g9.rZ 0),.i (g9.iV 1),.i 8]) fun v=>(bif ((v.iV 2)==0) then (aI (kB [.l (v.rZ 0),.i (v.iV 1),.l [[.s z4],[.s z6],[.s z8],[.s z7]]]) fun g11=>(be true (c7 (rb [.l (g11.rZ 0),.i (g11.iV 1),.l (d.rZ 2),.i z1,.l z13,.i z16,.i y,.i (I.iV 2),.s (O.sV 2),.s (g11.sV 2),.i U.iV,.i M.iV,.s N,.s W,.l (d.rZ 6),.i y,.s (k.sV 2),.s (h.sV 2),.l [[.i z17,.i (I.iV 2),.s (O.sV 2),.s (k.sV 2),.i M.iV,.i U.iV,.s W,.s N]],.i (d.iV 8),.i (d.iV 9)])) fun cg17 g17=>(be true (c7 (nH (kp g17 0 [.l,.i,.l] (.i (g17.nN 3)::.l (g17.rZ 4)::.i (g17.nN 5)::kp g17 6 [.l,.i,.i,.i] [])))) fun cg18 g18=>some (none,kp g18 0 [.l,.i,.l] (.i (g18.nN 3)::.l (g18.rZ 4)::.i (g18.nN 5)::kp g18 6 [.l,.i,.i,.i] []))))) else (bif ((v.iV 2)==1) then (aI (kB [.l (v.rZ 0),.i (v.iV 1),.l [[.s z8],[.s z4],[.s z7]]]) fun g19=>(be true (c7 (rb [.l (g19.rZ 0),.i (g19.iV 1),.l (d.rZ 2),.i z1,.l z13,.i z16,.i y,.i (I.iV 2),.s (O.sV 2),.s (h.sV 2),.i U.iV,.i M.iV,.s N,.s W,.l (d.rZ 6),.i y,.s (k.sV 2),.s (h.sV 2),.l [[.i z17,.i (I.iV 2),.s (O.sV 2),.s (g19.sV 2),.i M.iV,.i U.iV,.s W,.s N]],.i (d.iV 8),.i (d.iV 9)])) fun cg20 g20=>(be true (c7 (nH (kp g20 0 [.l,.i,.l] (.i (g20.nN 3)::.l (g20.rZ 4)::.i (g20.nN 5)::kp g20 6 [.l,.i,.i,.i] [])))) fun cg21 g21=>some (none,kp g21 0 [.l,.i,.l] (.i (g21.nN 3)::.l (g21.rZ 4)::.i (g21.nN 5)::kp g21 6 [.l,.i,.i,.i] []))))) else (bif ((v.iV 2)==2) then (gd (aA (M.iV+1)) (be true (c7 (rb [.l (v.rZ 0),.i (v.iV 1),.l (d.rZ 2),.i z1,.l z13,.i z16,.i y,.i (I.iV 2),.s (O.sV 2),.s (h.sV 2),.i U.iV,.i (M.iV+1),.s N,.s W,.l (d.rZ 6),.i y,.s (k.sV 2),.s (h.sV 2),.l [[.i z17,.i (I.iV 2),.s (O.sV 2),.s (k.sV 2),.i M.iV,.i U.iV,.s W,.s N]],.i (d.iV 8),.i (d.iV 9)])) fun cg22 g22=>(be true (c7 (nH (kp g22 0 [.l,.i,.l] (.i (g22.nN 3)::.l (g22.rZ 4)::.i (g22.nN 5)::kp g22 6 [.l,.i,.i,.i] [])))) fun cg23 g23=>some (none,kp g23 0 [.l,.i,.l] (.i (g23.nN 3)::.l (g23.rZ 4)::.i (g23.nN 5)::kp g23 6 [.l,.i,.i,.i] []))))) else (bif ((v.iV 2)==3) then (be true (c7 (rb [.l (v.rZ 0),.i (v.iV 1),.l (d.rZ 2),.i z1,.l z13,.i z16,.i y,.i (I.iV 2),.s (O.sV 2),.s (h.sV 2),.i U.iV,.i M.iV,.s N,.s N,.l (d.rZ 6),.i y,.s (k.sV 2),.s (h.sV 2),.l [[.i z17,.i (I.iV 2),.s (O.sV 2),.s (k.sV 2),.i M.iV,.i U.iV,.s W,.s N]],.i (d.iV 8),.i (d.iV 9)])) fun cg24 g24=>(be true (c7 (nH (kp g24 0 [.l,.i,.l] (.i (g24.nN 3)::.l (g24.rZ 4)::.i (g24.nN 5)::kp g24 6 [.l,.i,.i,.i] [])))) fun cg25 g25=>some (none,kp g25 0 [.l,.i,.l] (.i (g25.nN 3)::.l (g25.rZ 4)::.i (g25.nN 5)::kp g25 6 [.l,.i,.i,.i] [])))) else (bif ((v.iV 2)==4) then (aI (kB [.l (v.rZ 0),.i (v.iV 1),.l [[.s z9],[.s z5]]]) fun g26=>(be true (c7 (rb [.l (g26.rZ 0),.i (g26.iV 1),.l (d.rZ 2),.i z1,.l z13,.i z16,.i y,.i (I.iV 2),.s (O.sV 2),.s (h.sV 2),.i U.iV,.i M.iV,.s N,.s W,.l (d.rZ 6),.i y,.s (k.sV 2),.s (h.sV 2),.l [[.i z17,.i (I.iV 2),.s (g26.sV 2),.s (k.sV 2),.i M.iV,.i U.iV,.s W,.s N]],.i (d.iV 8),.i (d.iV 9)])) fun cg27 g27=>(be true (c7 (nH (kp g27 0 [.l,.i,.l] (.i (g27.nN 3)::.l (g27.rZ 4)::.i (g27.nN 5)::kp g27 6 [.l,.i,.i,.i] [])))) fun cg28 g28=>some (none,kp g28 0 [.l,.i,.l] (.i (g28.nN 3)::.l (g28.rZ 4)::.i (g28.nN 5)::kp g28 6 [.l,.i,.i,.i] []))))) else (be true (c7 (rb [.l (v.rZ 0),.i (v.iV 1),.l (d.rZ 2),.i z1,.l z13,.i z16,.i y,.i (I.iV 2),.s (O.sV 2),.s (h.sV 2),.i U.iV,.i M.iV,.s N,.s W,.l (d.rZ 6),.i y,.s (k.sV 2),.s (h.sV 2),.l [[.i z17,.i (I.iV 2),.s (O.sV 2),.s (k.sV 2),.i M.iV,.i U.iV,.s W,.s N]],.i (d.iV 8),.i (d.iV 9)])) fun cg29 g29=>(be true (c7 (nH (kp g29 0 [.l,.i,.l] (.i (g29.nN 3)::.l (g29.rZ 4)::.i (g29.nN 5)::kp g29 6 [.l,.i,.i,.i] [])))) fun cg30 g30=>some (none,kp g30 0 [.l,.i,.l] (.i (g30.nN 3)::.l (g30.rZ 4)::.i (g30.nN 5)::kp g30 6 [.l,.i,.i,.i] []))))))))))))))))))))) else some (some 0,kp d 0 [.l,.i,.l] [.i z1,.l (d.rZ 6)]))
def ahV:bA:=⟨6,[],⟨161,zk,uC⟩,uw,[⟨.exit 0,⟨161,[(3,.s (.list [.str])),(4,.s (.map 1))],[.box [.list [.I],.I],.ba 1 (.one (.str)) a_]⟩,[.fix 0,.aM 4]⟩],zn⟩
def U1:LT:=U0.add 1 ahV
def ahW:aT P 1 U1 (bf f20):=aT.add hm (uG.kz [1500089]) aB ahU (fun d=>by kernel_rfl)
def zo(d:LG):bp:=
 let k:=gi ((d.rZ 5).gR (d.iV 7)) 0; let v:=fY [.str] (d.rZ 2) [.s k.sV]; let I:=aD (d.rZ 4).length (d.rZ 4).length; let M:=UR [.l v]; (bif (aN (d.iV 7) (d.iV 6)) then (gd (nL (d.iV 7) (lI (d.rZ 5))) (gd (fG [.str] (d.rZ 2) [.s k.sV]) (i_ ((bE v)&&M.isSome) M fun y=>let N:=UW [.l (y.rZ 0)]; (i_ (((aD v.length (y.rZ 0).length)&&true)&&N.isSome) N fun h=>let O:=((d.rZ 4)++([[.s k.sV,.l ((h.rZ 0).take ((h.iV 1).toNat))]]:LL)); (gd ((Nat.ble (h.iV 1).toNat (h.rZ 0).length)&&((aD (h.iV 1).toNat ((h.rZ 0).take ((h.iV 1).toNat)).length)&&true)) (gd (I&&(decide (((d.rZ 4).length+1)<=1048576))) (gd (aA ((d.iV 7)+1)) (gd (bE O) (nQ [.l (d.rZ 0),.i (d.iV 1),.l (iq [.str] (d.rZ 2) [.s k.sV]),.i (d.nN 3),.l O,.l (d.rZ 5),.i (d.iV 6),.i ((d.iV 7)+1)]))))))))) else (gd (I&&true) (eQ [.l (d.rZ 0),.i (d.iV 1),.l (d.rZ 4)])))
def ahX:bA:=⟨33,[(13,[.str,.list a_])],⟨161,[(4,.s (.map 1)),(13,.s (.vQ 2 2)),(140,.s (.list [.str])),(141,al),(142,al)],[.box [.list [.I],.I],.ba 1 (.one (.str)) a_,.vQ c8 0]⟩,[.fix 0,.aM 4,.aM 13],[⟨.exit 3,⟨161,[(13,.s (.vQ 1 2))],G9⟩,[.fix 0,.aM 13]⟩],zo⟩
def ahY:LT:=U1.add 1 ahX
def ahZ:aT P 1 ahY (bf f20):=aT.add hm (uG.kz [1500089]) aB ahW (fun d=>by kernel_rfl)
def Hc(d:LG):Option LG:=
 (aI (zi [.l (d.rZ 0),.i (d.iV 1),.i 1,.i 4]) fun h=>(gd ((cO (h.iV 2))&&(bq (h.iV 2) 4)) (aI (zi [.l (h.rZ 0),.i (h.iV 1),.i 0,.i 14]) fun v=>(be true (bR zn [.l (v.rZ 0),.i (v.iV 1),.l [],.i 0,.l [],.i 0,.l (([[.s (⟨#[107,49,97,98]⟩:BY)],[.s (⟨#[111,104,50,97,98,99]⟩:BY)],[.s (⟨#[111,104,50,97,98,100]⟩:BY)],[.s (⟨#[119,49,97,119]⟩:BY)]]:LL).take ((h.iV 2).toNat)),.i 0,.i (v.iV 2),.i 0]) fun I k=>(be true (bR zo (kp k 0 [.l,.i,.l] [.i (k.nN 3),.l [],.l (k.rZ 4),.i (lI (k.rZ 4)),.i 0])) fun M y=>(gd (bE (y.rZ 2)) (some (kp y 0 [.l,.i,.l] []))))))))
def ah0:aL:=⟨20,ux,jJ,iu,[.s (.vQ 1 2)],G9,[.fix 0,.aM 0],[],Hc⟩
def t21:aF:=t20.du ah0
def ah1:aH P t21:=uG.aW (nC hm (uG.kz [1500089]) func20 aB ahZ (fun d=>by kernel_rfl) aB)

def Hd(d:LG):Option LG:=
 (aI (uA [.l (d.rZ 0),.i (d.iV 1),.i 60]) fun h=>(bif (h.bV 2) then (aI (kB [.l (h.rZ 0),.i (h.iV 1),.l [[.s (⟨#[]⟩:BY)],[.s (⟨#[107,49]⟩:BY)],[.s (⟨#[75,49,65,66]⟩:BY)],[.s (⟨#[107,49,97,98,47]⟩:BY)],[.s (⟨#[49,97]⟩:BY)],[.s (⟨#[107,49,97,98,47,109,109,47,112]⟩:BY)]]]) fun k=>some (kp k 0 [.l,.i,.s] [])) else (aI (kB [.l (h.rZ 0),.i (h.iV 1),.l [[.s (⟨#[107,49,97,98]⟩:BY)],[.s (⟨#[107,49,97,97]⟩:BY)],[.s (⟨#[107,49,97,98,47,52]⟩:BY)],[.s (⟨#[111,104,50,97,98,99]⟩:BY)],[.s (⟨#[111,104,50,97,98,100]⟩:BY)],[.s (⟨#[119,49,97,119]⟩:BY)],[.s (⟨#[110,49,109,109]⟩:BY)],[.s (⟨#[103,51,120,121,122,47,112]⟩:BY)]]]) fun v=>some (kp v 0 [.l,.i,.s] []))))
def ah2:aL:=⟨55,ux,jJ,iu,[dn],jJ,eI,[],Hd⟩
def t22:aF:=t21.du ah2
def ah3:aH P t22:=nE ah1 func55

def wZ(d:LG):Option LG:=
 (aI (uA [.l (d.rZ 0),.i (d.iV 1),.i 12]) fun h=>(bif (h.bV 2) then (gd (aA ((d.iV 2)-1)) (gd (aA ((d.iV 3)+1)) (aI (nF [.l (h.rZ 0),.i (h.iV 1),.l [[.i ((d.iV 2)-1)],[.i ((d.iV 3)+1)],[.i (d.iV 2)],[.i (d.iV 3)],[.i (-1099511627776)],[.i 1099511627776]]]) fun k=>some (kp k 0 [.l,.i,.i] [])))) else (aI (zi [.l (h.rZ 0),.i (h.iV 1),.i (d.iV 2),.i (d.iV 3)]) fun v=>some (kp v 0 [.l,.i,.i] []))))
def ah4:aL:=⟨56,MG,jJ,iu,[al],jJ,eI,[],wZ⟩
def t23:aF:=t22.du ah4
def ah5:aH P t23:=nE ah3 func56

def He(d:LG):Option LG:=
 let v:=(⟨#[]⟩:BY); let z2:=(⟨#[98,50,48]⟩:BY); let z3:=(⟨#[117,115,97]⟩:BY); (aI (nF [.l (d.rZ 0),.i (d.iV 1),.l [[.i 1],[.i 1],[.i 2],[.i 3]]]) fun y=>(aI (kB [.l (y.rZ 0),.i (y.iV 1),.l [[.s z2],[.s z2],[.s (⟨#[98,52,48]⟩:BY)]]]) fun I=>(aI (Hd [.l (I.rZ 0),.i (I.iV 1)]) fun k=>(aI (nF [.l (k.rZ 0),.i (k.iV 1),.l [[.i 0],[.i 1],[.i 2],[.i 3],[.i 4],[.i 5],[.i 6],[.i 7]]]) fun M=>(aI (nF [.l (M.rZ 0),.i (M.iV 1),.l [[.i 0],[.i 1],[.i 2],[.i 9]]]) fun N=>(aI (kB [.l (N.rZ 0),.i (N.iV 1),.l [[.s v],[.s v],[.s (⟨#[102,105,110]⟩:BY)]]]) fun O=>(aI (kB [.l (O.rZ 0),.i (O.iV 1),.l [[.s v],[.s v],[.s z3]]]) fun U=>(aI (uA [.l (U.rZ 0),.i (U.iV 1),.i 100]) fun W=>(bif (W.bV 2) then (aI (ra [.l (W.rZ 0),.i (W.iV 1),.i 4]) fun h=>(bif ((h.iV 2)==0) then (aI (wZ [.l (h.rZ 0),.i (h.iV 1),.i 0,.i 500]) fun g10=>(aI (wZ [.l (g10.rZ 0),.i (g10.iV 1),.i 1,.i 3]) fun g11=>some [.l (g11.rZ 0),.i (g11.iV 1),.l [[.i (g10.iV 2),.i (g11.iV 2),.s (I.sV 2),.s (k.sV 2),.i (M.iV 2),.i (N.iV 2),.s (O.sV 2),.s (U.sV 2)]]])) else (bif ((h.iV 2)==1) then (aI (kB [.l (h.rZ 0),.i (h.iV 1),.l [[.s v],[.s (⟨#[66]⟩:BY)],[.s z2]]]) fun g12=>some [.l (g12.rZ 0),.i (g12.iV 1),.l [[.i (d.iV 2),.i (y.iV 2),.s (g12.sV 2),.s (k.sV 2),.i (M.iV 2),.i (N.iV 2),.s (O.sV 2),.s (U.sV 2)]]]) else (bif ((h.iV 2)==2) then (aI (wZ [.l (h.rZ 0),.i (h.iV 1),.i 0,.i 99999]) fun g13=>(aI (wZ [.l (g13.rZ 0),.i (g13.iV 1),.i 0,.i 99999]) fun g14=>some [.l (g14.rZ 0),.i (g14.iV 1),.l [[.i (d.iV 2),.i (y.iV 2),.s (I.sV 2),.s (k.sV 2),.i (g13.iV 2),.i (g14.iV 2),.s (O.sV 2),.s (U.sV 2)]]])) else (aI (kB [.l (h.rZ 0),.i (h.iV 1),.l [[.s v],[.s (⟨#[65]⟩:BY)]]]) fun g15=>(aI (kB [.l (g15.rZ 0),.i (g15.iV 1),.l [[.s (⟨#[49]⟩:BY)],[.s z3]]]) fun g16=>some [.l (g16.rZ 0),.i (g16.iV 1),.l [[.i (d.iV 2),.i (y.iV 2),.s (I.sV 2),.s (k.sV 2),.i (M.iV 2),.i (N.iV 2),.s (g15.sV 2),.s (g16.sV 2)]]])))))) else some [.l (W.rZ 0),.i (W.iV 1),.l [[.i (d.iV 2),.i (y.iV 2),.s (I.sV 2),.s (k.sV 2),.i (M.iV 2),.i (N.iV 2),.s (O.sV 2),.s (U.sV 2)]]])))))))))
def ah6:aL:=⟨25,CQ,jJ,iu,MH,jJ,eI,[],He⟩
def t24:aF:=t23.du ah6
def Hg:aH P t24:=nE ah5 func25

def MV(d:LG):Option LG:=
 (gd (dy 0 (d.rZ 0).length) (gd (decide ((d.rZ 0).length<=1048576)) (gd (bE (d.rZ 0)) (some [.l (d.rZ 0)]))))
def Hh:aL:=⟨24,[kA],[],[],[.s (.vQ 0 8)],iM,iu,[],MV⟩
def ah7:iL P Hh:=l5 hm Hg func24 (bG _ _ _) (fun d=>by kernel_rfl)
def U2:aL:={ Hh with args:=[.s (.FX true)],opens:=[(2,a_)],F:=fun _=>some [.l []] }
def ah8:iL P U2:=fun d r h=>F7 hm Hg (sp:=U2) func24 aB (bG _ _ _) (fun d=>by kernel_rfl) aB h
def U3:aL:={ Hh with args:=[.s (.FX false)],opens:=[(2,a_)],F:=fun _=>some [.l []] }
def ah9:iL P U3:=fun d r h=>F7 hm Hg (sp:=U3) func24 aB (bG _ _ _) (fun d=>by kernel_rfl) aB h
def zp(d:LG):Option LG:=bif dy 0 (d.rZ 0).length then MV d else some [.l []]
def MW:aL:={ Hh with F:=zp }
def ah_:iL P MW:=fun d r (h:zp d=some r)=>by
 unfold zp at h;cases hb:dy 0 (d.rZ 0).length with
 |true=>rw[hb]at h; exact ah7 d r h
 |false=>
  rw[hb]at h;cases h;have e:(d.headD default).rZ=[]:=by
   have:¬ 0<(d.rZ 0).length:=fun k=>by
    have v:dy 0 (d.rZ 0).length=true:=by rw[Nat.blt_eq]; exact k
    rw[v]at hb;cases hb
   exact List.eq_nil_of_length_eq_zero (Nat.eq_zero_of_not_pos this)
  have ha:MW.ew d=[.listF a_ []]:=by
   rw[<-e];rfl
  rw[ha];exact aeh (ah8 d [.l []] rfl) (ah9 d [.l []] rfl)
def t25:aF:=t24.du MW
def U4:aH P t25:=Hg.aW ah_

def CW(d:LG):bp:=
 let O:=(lI (d.rZ 2)); (bif (d.bV 3) then (aI (ra [.l (d.rZ 0),.i (d.iV 1),.i O]) fun k=>let h:=0+(k.iV 2).toNat; let U:=(d.rZ 2).getD h []; let W:=decide (h<(d.rZ 2).length); (gd (nL (k.iV 2) O) (gd W (aI (kB [.l (k.rZ 0),.i (k.iV 1),.l [[.s (U.sV 0)],[.s (⟨#[]⟩:BY)],[.s (⟨#[107,49,97,98]⟩:BY)],[.s (⟨#[119,49,97,119]⟩:BY)]]]) fun y=>let I:=(d.rZ 2).set h (eh [.str,.list a_] U 0 [.s (y.sV 2)]); let z6:=I.getD h []; let z7:=decide (h<I.length); (gd W (gd z7 (aI (zp [.l (z6.rZ 1)]) fun v=>(aI (nF [.l (y.rZ 0),.i (y.iV 1),.l [[.i 0],[.i 100000]]]) fun g6=>(aI (He (kp g6 0 [.l,.i,.i] [])) fun M=>let N:=((v.rZ 0)++([(bg a_ (M.rV 2))]:LL)); let z9:=I.set h (eh [.str,.list a_] z6 1 [.l N]); (gd ((aD (v.rZ 0).length (v.rZ 0).length)&&(decide (((v.rZ 0).length+1)<=1048576))) (gd ((aD N.length N.length)&&z7) (gd ((aD (d.rZ 2).length z9.length)&&true) (eQ [.l (M.rZ 0),.i (M.iV 1),.l z9]))))))))))))) else (gd (bE (d.rZ 2)) (some (some 0,kp d 0 [.l,.i,.l] []))))
def ah':bA:=⟨3,[],⟨46,[(0,.s (.ptr 0 0)),(3,.s (.vQ 1 2)),(13,dG)],G9⟩,sw,[⟨.normal,⟨46,[(3,.s (.vQ 1 2))],G9⟩,sw⟩],CW⟩
def aia:LT:=bx.gv 1 ah'
def aib:aT P 1 aia (bf f4):=lC U4 (bG _ _ _)
def Hk(d:LG):Option LG:=
 (aI (Hc [.l (d.rZ 0),.i (d.iV 1)]) fun h=>let v:=bE (h.rZ 2); (bif (aN 0 (lI (h.rZ 2))) then (aI (uA [.l (h.rZ 0),.i (h.iV 1),.i 12]) fun k=>(be v (c7 (CW [.l (k.rZ 0),.i (k.iV 1),.l (h.rZ 2),.t (k.bV 2)])) fun M y=>(gd (bE (y.rZ 2)) (some (kp y 0 [.l,.i,.l] []))))) else (be v (c7 (CW (kp h 0 [.l,.i,.l] [.t false]))) fun N I=>(gd (bE (I.rZ 2)) (some (kp I 0 [.l,.i,.l] []))))))
def aic:aL:=⟨4,ux,jJ,iu,uy,jJ,eI,[],Hk⟩
def t26:aF:=t25.du aic
def aid:aH P t26:=tW U4 func4 aib

def Hl(d:LG):Option LG:=
 (aI (nF [.l (d.rZ 0),.i (d.iV 1),.l [[.i 0],[.i 10],[.i 29],[.i 30],[.i 60],[.i 60],[.i 200],[.i 1000],[.i (-1)],[.i 3600000],[.i 3600001]]]) fun h=>some (kp h 0 [.l,.i,.i] []))
def aie:aL:=⟨5,ux,jJ,iu,[al],jJ,eI,[],Hl⟩
def t27:aF:=t26.du aie
def aif:aH P t27:=nE aid func5

def CX(d:LG):Option LG:=
 (aI (MO [.s (d.sV 0)]) fun h=>some [.t (h.bV 1)])
def aih:aL:=⟨80,[dn],[],[],[dG],[],[],[],CX⟩
def t28:aF:=t27.bu aih
def aii:aH P t28:=dQ aif func80

def Hm(d:LG):Option LG:=
 let h:=(gi (d.rV 0) 0).iV-1; let k:=gi ((gi (d.rV 2) 0).rZ.gR h) 0; (bif (aN 0 (gi (d.rV 0) 0).iV) then (gd (aA h) (gd (nL h (((gi (d.rV 2) 0).rZ.length:Nat):Int)) (bif ((Op.bytesLess (gi (d.rV 1) 0).sV.toList k.sV.toList)||((gi (d.rV 1) 0).sV.toList==k.sV.toList)) then some [.i 7] else some [.i 0]))) else some [.i 0])
def aij:aL:=⟨57,[.s (.cptr [.I]),.s (.cptr [.str,.list a_]),.s (.cptr [.list c8])],[],[],[al],[],[],[],Hm⟩
def t29:aF:=t28.bu aij
def aik:aH P t29:=dQ aii func57

def qi(d:LG):Option LG:=
 (bif (aN (d.iV 0) (d.iV 1)) then some [.t true] else some [.t (aN (d.iV 2) (d.iV 0))])
def ail:aL:=⟨27,[al,al,al],[],[],[dG],[],[],[],qi⟩
def t30:aF:=t29.bu ail
def aim:aH P t30:=dQ aik func27

def MX(d:LG):Option LG:=
 (aI (qi [.i (d.iV 0),.i 0,.i 345686399999]) fun h=>some [.t (!(h.bV 0))])
def ain:aL:=⟨157,[al],[],[],[dG],[],[],[],MX⟩
def t31:aF:=t30.bu ain
def aio:aH P t31:=dQ aim func157

def MY(d:LG):Option LG:=
 (aI (qi [.i (d.iV 0),.i 1,.i 3]) fun h=>some [.t (!(h.bV 0))])
def aip:aL:=⟨158,[al],[],[],[dG],[],[],[],MY⟩
def t32:aF:=t31.bu aip
def aiq:aH P t32:=dQ aio func158

def Hn(d:LG):Option LG:=
 let h:=(((d.sV 0).size:Nat):Int); (bif (!((d.sV 0).toList==(⟨#[]⟩:BY).toList)) then (bif (bq h 40) then (gd (aN 0 h) (aI (G5 [.s (⟨#[97,98,99,100,101,102,103,104,105,106,107,108,109,110,111,112,113,114,115,116,117,118,119,120,121,122]⟩:BY),.i (((d.sV 0).data.toList.getD 0 0).toNat:Int)]) fun k=>(bif (bq 0 (k.iV 0)) then (aI (G6 [.s (d.sV 0),.s (⟨#[97,98,99,100,101,102,103,104,105,106,107,108,109,110,111,112,113,114,115,116,117,118,119,120,121,122,48,49,50,51,52,53,54,55,56,57,45,95]⟩:BY)]) fun v=>some [.t ((v.sV 0).toList==(⟨#[]⟩:BY).toList)]) else some [.t false]))) else some [.t false]) else some [.t false])
def air:aL:=⟨159,[dn],[],[],[dG],[],[],[],Hn⟩
def t33:aF:=t32.bu air
def ais:aH P t33:=dQ aiq func159

def Ho(d:LG):Option LG:=
 (bif ((d.sV 0).toList==(⟨#[]⟩:BY).toList) then some [.t true] else (aI (Hn [.s (d.sV 0)]) fun h=>some [.t (h.bV 0)]))
def ait:aL:=⟨160,[dn],[],[],[dG],[],[],[],Ho⟩
def t34:aF:=t33.bu ait
def aiu:aH P t34:=dQ ais func160

def Hp(d:LG):Option LG:=
 (aI (MX [.i (gi (d.rV 0) 0).iV]) fun h=>(bif (!(h.bV 0)) then some [.i 1] else (aI (MY [.i (gi (d.rV 0) 1).iV]) fun k=>(bif (!(k.bV 0)) then some [.i 4] else (aI (Hn [.s (gi (d.rV 0) 2).sV]) fun v=>(bif (!(v.bV 0)) then some [.i 5] else (aI (CX [.s (gi (d.rV 0) 3).sV]) fun y=>(bif (!(y.bV 0)) then some [.i 3] else (aI (qi [.i (gi (d.rV 0) 4).iV,.i 0,.i 99999]) fun I=>(bif (I.bV 0) then some [.i 1] else (aI (qi [.i (gi (d.rV 0) 5).iV,.i 0,.i 99999]) fun M=>(bif (M.bV 0) then some [.i 1] else (aI (Ho [.s (gi (d.rV 0) 6).sV]) fun N=>(bif (!(N.bV 0)) then some [.i 5] else (aI (Ho [.s (gi (d.rV 0) 7).sV]) fun O=>(bif (!(O.bV 0)) then some [.i 5] else some [.i 0]))))))))))))))))
def aiv:aL:=⟨111,MH,[],[],[al],[],[],[],Hp⟩
def t35:aF:=t34.bu aiv
def aiw:aH P t35:=dQ aiu func111

def Hq(d:LG):Option LG:=
 some [.t ((d.iV 0) != (d.iV 0))]
def aix:aL:=⟨199,[al],[],[],[dG],[],[],[],Hq⟩
def t36:aF:=t35.bu aix
def aiy:aH P t36:=dQ aiw func199

def zq(d:LG):Option LG:=
 (aI (Hq [.i (d.iV 0)]) fun k=>(aI (Hq [.i (d.iV 1)]) fun h=>(bif (k.bV 0) then (bif (h.bV 0) then some [.i 0] else some [.i (-1)]) else (bif (h.bV 0) then some [.i 1] else (bif (aN (d.iV 0) (d.iV 1)) then some [.i (-1)] else (bif (aN (d.iV 1) (d.iV 0)) then some [.i 1] else some [.i 0]))))))
def aiz:aL:=⟨161,[al,al],[],[],[al],[],[],[],zq⟩
def t37:aF:=t36.bu aiz
def U5:aH P t37:=dQ aiy func161

def pr(d:LG):bp:=
 let h:=gi ((d.rZ 1).gR (d.iV 3)) 0; (bif (aN (d.iV 3) (d.iV 2)) then (gd (nL (d.iV 3) (lI (d.rZ 1))) (bif (h.iV != (d.iV 0)) then eQ [.i h.iV] else (gd (aA ((d.iV 3)+1)) (some (none,kp d 0 [.i,.l,.i] [.i ((d.iV 3)+1)]))))) else eR [.i (d.iV 0)])
def aiA:bA:=⟨3,[],⟨18,[(3,al),(6,ja),(7,al),(8,al)],[]⟩,[],[⟨.ret,⟨18,wY,[]⟩,[]⟩,⟨.exit 0,⟨18,[(3,al)],[]⟩,[]⟩],pr⟩
def aiB:LT:=bx.add 0 aiA
def aiC:aT P 0 aiB (bf f32):=lA U5 (bG _ _ _)
def w6(d:LG):Option LG:=
 (be true (bR pr [.i 0,.l (d.rZ 0),.i (lI (d.rZ 0)),.i 0]) fun k h=>(bif aD k 0 then some [.i (h.iV 0)] else some [.i (h.iV 0)]))
def aiD:aL:=⟨32,[ja],[],[],[al],[],[],[],w6⟩
def t38:aF:=t37.bu aiD
def aiE:aH P t38:=tP U5 func32 aiC

def Hr(d:LG):Option LG:=
 (aI (zq [.i (gi (d.rV 0) 0).iV,.i (gi (d.rV 1) 0).iV]) fun h=>(aI (pn [.s (gi (d.rV 0) 3).sV,.s (gi (d.rV 1) 3).sV]) fun k=>(aI (pn [.s (gi (d.rV 0) 2).sV,.s (gi (d.rV 1) 2).sV]) fun v=>(aI (zq [.i (gi (d.rV 0) 1).iV,.i (gi (d.rV 1) 1).iV]) fun y=>(aI (w6 [.l [[.i (h.iV 0)],[.i (k.iV 0)],[.i (v.iV 0)],[.i (y.iV 0)]]]) fun I=>some [.i (I.iV 0)])))))
def aiF:aL:=⟨112,zd,[],[],[al],[],[],[],Hr⟩
def t39:aF:=t38.bu aiF
def U6:aH P t39:=dQ aiE func112

def U7(d:LG):bp:=
 let v:=bg a_ ((d.rZ 1).gR (d.iV 3)); let k:=(d.iV 3)-1; let h:=(d.iV 3)+1; (bif (aN (d.iV 3) (d.iV 2)) then (gd (nL (d.iV 3) (lI (d.rZ 1))) (aI (Hp [.l [v]]) fun y=>(bif ((y.iV 0) != 0) then eQ [.i (y.iV 0)] else (bif (aN 0 (d.iV 3)) then (gd (aA k) (gd (nL k (lI (d.rZ 0))) (aI (Hr [.l [(bg a_ ((d.rZ 0).gR k))],.l [v]]) fun I=>(bif (bq 0 (I.iV 0)) then eQ [.i 7] else (gd (aA h) (some (none,kp d 0 [.l,.l,.i] [.i h]))))))) else (gd (aA h) (some (none,kp d 0 [.l,.l,.i] [.i h]))))))) else eR [])
def aiG:bA:=⟨4,[],⟨34,Ux,[]⟩,[],[⟨.ret,⟨34,wY,[]⟩,[]⟩,⟨.exit 0,⟨34,[],[]⟩,[]⟩],U7⟩
def aiH:LT:=bx.add 0 aiG
def aiI:aT P 0 aiH (bf f81):=lA U6 (bG _ _ _)
def MZ(d:LG):Option LG:=
 let h:=(lI (d.rZ 0)); (bif (aN 2000 h) then some [.i 2] else (be true (bR U7 [.l (d.rZ 0),.l (d.rZ 0),.i h,.i 0]) fun k v=>(bif aD k 0 then some [.i (v.iV 0)] else some [.i 0])))
def aiJ:aL:=⟨81,[kA],[],[],[al],[],[],[],MZ⟩
def t40:aF:=t39.bu aiJ
def aiK:aH P t40:=tP U6 func81 aiI

def Hs(d:LG):Option LG:=
 some [.t ((gi (d.rV 0) 3).sV.toList==(gi (d.rV 1) 0).sV.toList)]
def aiL:aL:=⟨82,Th,[],[],[dG],[],[],[],Hs⟩
def t41:aF:=t40.bu aiL
def U8:aH P t41:=dQ aiK func82

def U9(d:LG):bp:=
 let h:=bg [.str,.list a_] (d.rV 1); (bif (aN (d.iV 3) (d.iV 2)) then (gd (nL (d.iV 3) (lI (d.rZ 0))) (aI (Hs [.l [(bg a_ ((d.rZ 0).gR (d.iV 3)))],.l [h]]) fun k=>(bif (k.bV 0) then eQ [.i (d.iV 3)] else (gd (aA ((d.iV 3)+1)) (nQ [.l (d.rZ 0),.l [h],.i (d.iV 2),.i ((d.iV 3)+1)]))))) else eR [])
def aiM:bA:=⟨2,[],⟨19,[(0,kA),(1,.clo 82 [.cptr [.str,.list a_]]),(7,al),(8,al)],[]⟩,[],[⟨.ret,⟨19,uF,[]⟩,[]⟩,⟨.exit 0,⟨19,[],[]⟩,[]⟩],U9⟩
def aiN:LT:=bx.add 0 aiM
def aiO:aT P 0 aiN (bf f100):=lA U8 (bG _ _ _)
def U_(d:LG):Option LG:=
 (be true (bR U9 [.l (d.rZ 0),.l [(bg [.str,.list a_] (d.rV 1))],.i (lI (d.rZ 0)),.i 0]) fun h k=>(bif aD h 0 then some [.i (k.iV 0)] else some [.i (-1)]))
def aiP:aL:=⟨100,Ti,[],[],[al],[],[],[],U_⟩
def t42:aF:=t41.bu aiP
def aiQ:aH P t42:=tP U8 func100 aiO

def U'(d:LG):Option LG:=
 (aI (U_ [.l (d.rZ 0),.l [(bg [.str,.list a_] (d.rV 1))]]) fun h=>some [.t (bq 0 (h.iV 0))])
def aiR:aL:=⟨69,Ti,[],[],[dG],[],[],[],U'⟩
def t43:aF:=t42.bu aiR
def Va:aH P t43:=dQ aiQ func69

def Ht(d:LG):Option LG:=
 (aI (CX [.s (gi (d.rV 0) 0).sV]) fun v=>(bif (!(v.bV 0)) then some [.i 3] else (aI (Hm [.l [[.i (gi (d.rV 1) 0).iV]],.l [(bg [.str,.list a_] (d.rV 2))],.l [[.l (gi (d.rV 3) 0).rZ]]]) fun h=>(bif ((h.iV 0) != 0) then some [.i (h.iV 0)] else (aI (MZ [.l (gi (d.rV 0) 1).rZ]) fun k=>(bif ((k.iV 0) != 0) then some [.i (k.iV 0)] else (aI (U' [.l (gi (d.rV 0) 1).rZ,.l [(bg [.str,.list a_] (d.rV 0))]]) fun y=>(bif (y.bV 0) then some [.i 6] else some [.i 0]))))))))
def aiS:aL:=⟨58,[po,.clo 57 [.cptr [.I],.cptr [.str,.list a_],.cptr [.list c8]]],[],[],[al],[],[],[],Ht⟩
def t44:aF:=t43.bu aiS
def M0:aH P t44:=Va.aP (nC hm (Va.kQ [69]) func58 aB (bG _ _ _) (fun d=>by kernel_rfl) aB)

end
end Go.Proofs.jI
