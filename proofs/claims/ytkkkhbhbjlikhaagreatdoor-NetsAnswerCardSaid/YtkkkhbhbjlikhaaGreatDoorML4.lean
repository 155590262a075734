/-
 What is proved here: functions of the program as functions on data. No condition.
-/
import Derived.Test.YtkkkhbhbjlikhaaGreatDoorML3
set_option linter.all false
open Nat renaming beq->aA,ble->bW
namespace Go.Proofs.h_
open Go Go.AL Go.Proofs Tryz
noncomputable section
def jy(X:LG->Option LG):aI:=⟨202,[aD,.s (.ptr 0 0),.s (.ptr 2 0)],[.box [.vQ 1 15],.vQ aY 0,.box [.yF 202 [0,2]]],[.aU 1,.cell 0 0,.aU 2],[dY],[.box [.vQ 1 15],.vQ aY 0,.box [.yF 202 [0,2]]],[.fix 0,.fix 1,.fix 2],[],X⟩
def HT(q:LG->Option LG)(d:LG):bk:=
 (bif (ba (d.iV 2) (lI (d.rZ 0))) then (gd (nL (d.iV 2) (lI (d.rZ 0))) (gd (decide ((0+(d.iV 2).toNat)<(d.rZ 0).length)) (bif ((gi ((d.rZ 0).getD (0+(d.iV 2).toNat) []) 3).iV==5) then (gd (nL (d.iV 2) (lI (d.rZ 0))) (gd (decide ((0+(d.iV 2).toNat)<(d.rZ 0).length)) (gd (nL (d.iV 1) (lI (d.rZ 0))) (gd (decide ((0+(d.iV 1).toNat)<(d.rZ 0).length)) (bif ((gi ((d.rZ 0).getD (0+(d.iV 2).toNat) []) 13).sV.toList==(gi ((d.rZ 0).getD (0+(d.iV 1).toNat) []) 0).sV.toList) then (gd (nL (d.iV 2) (lI (d.rZ 0))) (gd (decide ((0+(d.iV 2).toNat)<(d.rZ 0).length)) (gd (nL (d.iV 1) (lI (d.rZ 0))) (gd (decide ((0+(d.iV 1).toNat)<(d.rZ 0).length)) (bif ((gi ((d.rZ 0).getD (0+(d.iV 2).toNat) []) 14).iV==(gi ((d.rZ 0).getD (0+(d.iV 1).toNat) []) 1).iV) then (gx ((((bE (d.rZ 0))&&true)&&true)&&(q [.l (d.rZ 0),.i (d.iV 2)]).isSome) (q [.l (d.rZ 0),.i (d.iV 2)]) fun g=>(bif (g.bV 1) then (gd (((bE (g.rZ 0))&&true)&&true) (eQ [.l (g.rZ 0),.t false])) else (gd (aM ((d.iV 2)+1)) (gd (((bE (g.rZ 0))&&true)&&true) (nQ [.l (g.rZ 0),.i (d.iV 1),.i ((d.iV 2)+1)]))))) else (gd (aM ((d.iV 2)+1)) (gd (((bE (d.rZ 0))&&true)&&true) (nQ [.l (d.rZ 0),.i (d.iV 1),.i ((d.iV 2)+1)])))))))) else (gd (aM ((d.iV 2)+1)) (gd (((bE (d.rZ 0))&&true)&&true) (nQ [.l (d.rZ 0),.i (d.iV 1),.i ((d.iV 2)+1)])))))))) else (gd (aM ((d.iV 2)+1)) (gd (((bE (d.rZ 0))&&true)&&true) (nQ [.l (d.rZ 0),.i (d.iV 1),.i ((d.iV 2)+1)])))))) else (gd (((bE (d.rZ 0))&&true)&&true) (eR [.l (d.rZ 0)])))
def Wy(d:LG->Option LG):bF:=⟨2,[],⟨51,[(0,aD),(1,.s (.ptr 0 0)),(2,.s (.ptr 2 0)),(5,aD)],MB⟩,[.fix 0,.cell 0 0,.fix 2],[⟨.ret,⟨51,[(4,dY)],MB⟩,[.fix 0,.cell 0 0,.fix 2]⟩,⟨.exit 0,⟨51,[],MB⟩,[.fix 0,.cell 0 0,.fix 2]⟩],HT d⟩
def alL(g:LG->Option LG):wz P (t98.df (jy g)) bz 3 (yE f202 2) (Wy g):=fun d=>by kernel_rfl
def Wz(d:LG->Option LG):LT:=bz.add 3 (Wy d)
def alM(g:LG->Option LG) (q:∀d r,g d=some r->e_ P 202 ((jy g).dR d) (aF ((jy g).H0 d)) ((jy g).out r) (aF ((jy g).H1 r))):aQ P 3 (Wz g) (bf f202):=aQ.add hm (Nc.aW q) aj (bN _ _ _) (alL g)
def CY(A:LG->Option LG)(d:LG):Option LG:=
 (gd (aM ((d.iV 1)+1)) (bp (((bE (d.rZ 0))&&true)&&true) (bR (HT A) [.l (d.rZ 0),.i (d.iV 1),.i ((d.iV 1)+1)]) fun q g=>(bif aA q 0 then (gd (((bE (g.rZ 0))&&true)&&true) (some [.l (g.rZ 0),.t (g.bV 1)])) else (gd (((bE (g.rZ 0))&&true)&&true) (some [.l (g.rZ 0),.t true])))))
def alN(g:LG->Option LG):uk P (t98.df (jy g)) (Wz g) f202 (jy (CY g)):=fun d=>by kernel_rfl
def alO(g:LG->Option LG) (q:∀d r,g d=some r->e_ P 202 ((jy g).dR d) (aF ((jy g).H0 d)) ((jy g).out r) (aF ((jy g).H1 r))):∀d r,CY g d=some r->e_ P 202 ((jy g).dR d) (aF ((jy g).H0 d)) ((jy g).out r) (aF ((jy g).H1 r)):=fun d r h=>RY hm (Nc.aW q) (sp:=jy (CY g)) func202 aj (alM g q) (alN g) aj h
def rf:Nat->LG->Option LG
 |0,_=>none
 |n+1,d=>CY (rf n) d
def WA:∀ n d r,rf n d=some r->e_ P 202 ((jy (rf n)).dR d) (aF ((jy (rf n)).H0 d)) ((jy (rf n)).out r) (aF ((jy (rf n)).H1 r))
 |0,_,_,h=>nomatch h
 |n+1,d,r,h=>alO (rf n) (WA n) d r h
def Nd(d:LG):Option LG:=rf 40 d
def WB:aI:=jy Nd
def alP:ff P WB:=WA 40
def t99:ar:=t98.df WB
def Nf:aw P t99:=Nc.aW alP

def HU(d:LG):bk:=
 let q:=((d.rZ 0)++([(bu aY ((d.rZ 2).gR (d.iV 4)))]:LL)); let A:=aA (d.rZ 0).length (d.rZ 0).length; let g:=(d.iV 4)+1; let B:=((A&&true)&&true)&&true; (bif (ba (d.iV 4) (d.iV 3)) then (gd (nL (d.iV 4) (lI (d.rZ 2))) (bif (cw (gi ((d.rZ 2).gR (d.iV 4)) 2).iV (d.iV 1)) then (gd (A&&(decide (((d.rZ 0).length+1)<=1048576))) (gd (aM g) (gd (((bE q)&&true)&&true) (some (none,.l q::kp d 1 [.i,.l,.i] [.i g]))))) else (gd (aM g) (gd B (some (none,kp d 0 [.l,.i,.l,.i] [.i g])))))) else (gd B (eQ [.l (d.rZ 0)])))
def alQ:bF:=⟨3,[],⟨41,[(1,aD),(5,.s (.ptr 0 0)),(11,.s (.list aY)),(12,aD),(13,aD)],[.box [.vQ 1 15],.vQ aY 0]⟩,[.aU 5,.cell 0 0],[⟨.exit 0,⟨41,[(5,.s (.ptr 0 0))],[.box [.vQ 1 15],.vQ aY 0]⟩,[.aU 5,.cell 0 0]⟩],HU⟩
def WC:LT:=(bz.np [(2,[.jX 5 0 aY])]).add 0 alQ
def alR:aQ P 0 WC (bf f148):=lA Nf (uq _)
def HV(d:LG):bk:=
 let B:=((d.rZ 1)++([[.i (d.iV 3)]]:LL)); let A:=aA (d.rZ 1).length (d.rZ 1).length; let F:=Nd [.l (d.rZ 0),.i (d.iV 3)]; let g:=(d.iV 3)+1; (bif (ba (d.iV 3) (d.iV 2)) then (gx ((((bE (d.rZ 0))&&true)&&true)&&F.isSome) F fun q=>let z5:=(bE (q.rZ 0))&&true; (bif (q.bV 1) then (gd (A&&(decide (((d.rZ 1).length+1)<=1048576))) (gd (aM g) (gd (z5&&(bE B)) (nQ [.l (q.rZ 0),.l B,.i (d.iV 2),.i g])))) else (gd (aM g) (gd (z5&&(A&&true)) (nQ [.l (q.rZ 0),.l (d.rZ 1),.i (d.iV 2),.i g]))))) else (gd (A&&true) (eQ [.l (d.rZ 1)])))
def alS:bF:=⟨12,[(9,[.I])],⟨41,[(8,.s (.ptr 0 0)),(9,.s (.vQ 3 1)),(28,aD),(29,aD)],[.box [.yF 202 [1,0]],.box [.vQ 2 15],.vQ aY 0,.vQ [.I] 0]⟩,[.aU 8,.FI 0 0 0,.cell 1 0,.aU 9],[⟨.exit 2,⟨41,[(9,.s (.vQ 0 1))],mM⟩,[.aU 9]⟩],HV⟩
def alT:LT:=WC.add 0 alS
def alU:aQ P 0 alT (bf f148):=lA Nf alR
def zR(d:LG):Option LG:=
 (bp true (bR HU [.l [],.i (d.iV 1),.l (d.rZ 0),.i (lI (d.rZ 0)),.i 0]) fun A g=>(bp (((bE (g.rZ 0))&&true)&&true) (bR HV [.l (g.rZ 0),.l [],.i (lI (g.rZ 0)),.i 0]) fun B q=>(gd (bE (q.rZ 0)) (some [.l (q.rZ 0)]))))
def alV:aI:=⟨148,oC,[],[],[gV],[],[],[],zR⟩
def t100:ar:=t99.bx alV
def alW:aw P t100:=tP Nf func148 alU

def CZ(d:LG):Option LG:=
 let g:=(gi (d.rV 0) 0).iV-(gi (d.rV 1) 0).iV; let q:=(gi (d.rV 0) 1).iV-(gi (d.rV 1) 1).iV; (bif ((gi (d.rV 0) 0).iV != (gi (d.rV 1) 0).iV) then (gd (aM g) (az (qX [.i g]) fun A=>some [.i (A.iV 0)])) else (bif (!((gi (d.rV 0) 3).sV.toList==(gi (d.rV 1) 3).sV.toList)) then (az (kF [.s (gi (d.rV 0) 3).sV,.s (gi (d.rV 1) 3).sV]) fun B=>some [.i (B.iV 0)]) else (bif (!((gi (d.rV 0) 2).sV.toList==(gi (d.rV 1) 2).sV.toList)) then (az (kF [.s (gi (d.rV 0) 2).sV,.s (gi (d.rV 1) 2).sV]) fun F=>some [.i (F.iV 0)]) else (gd (aM q) (az (qX [.i q]) fun I=>some [.i (I.iV 0)])))))
def alX:aI:=⟨150,TZ,[],[],[aD],[],[],[],CZ⟩
def t101:ar:=t100.bx alX
def alY:aw P t101:=cU alW func150

def C0(d:LG):Option LG:=
 (az (CZ [.l [[.i (gi (d.rV 0) 4).iV,.i (gi (d.rV 0) 5).iV,.s (gi (d.rV 0) 6).sV,.s (gi (d.rV 0) 7).sV,.i (gi (d.rV 0) 8).iV,.i (gi (d.rV 0) 9).iV,.s (gi (d.rV 0) 10).sV,.s (gi (d.rV 0) 11).sV]],.l [[.i (gi (d.rV 1) 4).iV,.i (gi (d.rV 1) 5).iV,.s (gi (d.rV 1) 6).sV,.s (gi (d.rV 1) 7).sV,.i (gi (d.rV 1) 8).iV,.i (gi (d.rV 1) 9).iV,.s (gi (d.rV 1) 10).sV,.s (gi (d.rV 1) 11).sV]]]) fun g=>some [.t ((g.iV 0)==0)])
def alZ:aI:=⟨149,T3,[],[],[dY],[],[],[],C0⟩
def t102:ar:=t101.bx alZ
def WD:aw P t102:=cU alY func149

def WE(d:LG):bk:=
 let g:=bu aY (d.rV 1); (bif (ba (d.iV 3) (d.iV 2)) then (gd (nL (d.iV 3) (lI (d.rZ 0))) (az (C0 [.l [(bu aY ((d.rZ 0).gR (d.iV 3)))],.l [g]]) fun q=>(bif (q.bV 0) then eQ [.i (d.iV 3)] else (gd (aM ((d.iV 3)+1)) (nQ [.l (d.rZ 0),.l [g],.i (d.iV 2),.i ((d.iV 3)+1)]))))) else eR [])
def al0:bF:=⟨2,[],⟨19,[(0,.s (.list aY)),(1,.clo 149 [.cptr aY]),(7,aD),(8,aD)],[]⟩,[],[⟨.ret,⟨19,zp,[]⟩,[]⟩,⟨.exit 0,⟨19,[],[]⟩,[]⟩],WE⟩
def al1:LT:=bz.add 0 al0
def al2:aQ P 0 al1 (bf f53):=lA WD (bN _ _ _)
def Ng(d:LG):Option LG:=
 (bp true (bR WE [.l (d.rZ 0),.l [(bu aY (d.rV 1))],.i (lI (d.rZ 0)),.i 0]) fun g q=>(bif aA g 0 then some [.i (q.iV 0)] else some [.i (-1)]))
def al3:aI:=⟨53,T5,[],[],[aD],[],[],[],Ng⟩
def t103:ar:=t102.bx al3
def al4:aw P t103:=tP WD func53 al2

def HW(d:LG):Option LG:=
 (az (Ng [.l (d.rZ 0),.l [(bu aY (d.rV 1))]]) fun g=>some [.t (cw 0 (g.iV 0))])
def al5:aI:=⟨25,T5,[],[],[dY],[],[],[],HW⟩
def t104:ar:=t103.bx al5
def WG:aw P t104:=cU al4 func25

def xa(d:LG):Option LG:=
 (az (CZ [.l [[.i (gi (d.rV 0) 4).iV,.i (gi (d.rV 0) 5).iV,.s (gi (d.rV 0) 6).sV,.s (gi (d.rV 0) 7).sV,.i (gi (d.rV 0) 8).iV,.i (gi (d.rV 0) 9).iV,.s (gi (d.rV 0) 10).sV,.s (gi (d.rV 0) 11).sV]],.l [[.i (gi (d.rV 1) 4).iV,.i (gi (d.rV 1) 5).iV,.s (gi (d.rV 1) 6).sV,.s (gi (d.rV 1) 7).sV,.i (gi (d.rV 1) 8).iV,.i (gi (d.rV 1) 9).iV,.s (gi (d.rV 1) 10).sV,.s (gi (d.rV 1) 11).sV]]]) fun g=>some [.i (g.iV 0)])
def WH:aI:=⟨152,GL,[],[],[aD],[],[],[],xa⟩
def WI:ff P WH:=zf hm WG func152 (bN _ _ _) (fun d=>by kernel_rfl)
def t105:ar:=t104.bx WH
def al6:aw P t105:=WG.aP WI

def Nh(d:LG):Option LG:=
 sr xa d
def WJ:aI:=⟨151,[.s (.vQ 0 15),.s (.fn 152)],ia,gH,[],ia,ep,[],Nh⟩
def al7:ff P WJ:=fun d r h=>F9 Tryz.afJ aY aj isAgg42 sizeOf42 152 aj xa (fun d r h=>WI d r h) d r h
def t106:ar:=t105.df WJ
def Ni:aw P t106:=al6.aW al7

def C1(d:LG):bk:=
 let A:=gi ((d.rZ 3).gR (d.iV 5)) 0; let I:=bu aY ((d.rZ 2).gR (A.iV)); let q:=aA (d.rZ 0).length (d.rZ 0).length; let B:=aA (d.rZ 1).length (d.rZ 1).length; let z5:=((d.rZ 1)++([[.i A.iV]]:LL)); let F:=((d.rZ 0)++([I]:LL)); let g:=(d.iV 5)+1; let J:=HW [.l (d.rZ 0),.l [I]]; (bif (ba (d.iV 5) (d.iV 4)) then (gd (nL (d.iV 5) (lI (d.rZ 3))) (gd (nL A.iV (lI (d.rZ 2))) (bif ((gi ((d.rZ 2).gR (A.iV)) 3).iV != 1) then (gd (aM g) (gd (q&&(B&&true)) (some (none,kp d 0 [.l,.l,.l,.l,.i] [.i g])))) else (gx ((q&&true)&&J.isSome) J fun M=>(bif (M.bV 0) then (gd (B&&(decide (((d.rZ 1).length+1)<=1048576))) (gd (aM g) (gd (q&&(bE z5)) (some (none,.l (d.rZ 0)::.l z5::kp d 2 [.l,.l,.i] [.i g]))))) else (gd (q&&(decide (((d.rZ 0).length+1)<=1048576))) (gd (aM g) (gd ((aA F.length F.length)&&(B&&true)) (some (none,.l F::kp d 1 [.l,.l,.l,.i] [.i g])))))))))) else (gd (q&&(B&&true)) (eQ [.l (d.rZ 0),.l (d.rZ 1)])))
def al8:bF:=⟨4,[(7,[.I]),(6,aY)],⟨44,[(0,.s (.list aY)),(6,.s (.vQ 0 15)),(7,.s (.vQ 1 1)),(13,gV),(14,aD),(15,aD)],[.vQ aY 0,.vQ [.I] 0]⟩,[.aU 6,.aU 7],[⟨.exit 0,⟨44,[(6,.s (.vQ 0 15)),(7,.s (.vQ 1 1))],[.vQ aY 0,.vQ [.I] 0]⟩,[.aU 6,.aU 7]⟩],C1⟩
def al9:LT:=bz.add 0 al8
def al_:aQ P 0 al9 (bf f104):=aQ.add hm (Ni.mG [25]) aj (bN _ _ _) (fun d=>by kernel_rfl)
def xb(d:LG):Option LG:=
 (az (zR [.l (d.rZ 0),.i (d.iV 1)]) fun q=>(bp true (bR C1 [.l [],.l [],.l (d.rZ 0),.l (q.rZ 0),.i (lI (q.rZ 0)),.i 0]) fun F g=>let A:=Nh [.l (g.rZ 0)]; (gx ((bE (g.rZ 0))&&A.isSome) A fun B=>(gd ((aA (g.rZ 0).length (B.rZ 0).length)&&(bE (g.rZ 1))) (some [.l (B.rZ 0),.l (g.rZ 1)])))))
def al':aI:=⟨104,oC,[],[],[.s (.list aY),gV],[],[],[],xb⟩
def t107:ar:=t106.bx al'
def WK:aw P t107:=Ni.aP (qJ hm (Ni.mG [25]) func104 aj al_ (fun d=>by kernel_rfl) aj)

def HX(d:LG):bk:=
 let g:=((d.rZ 0)++([[.i (gi ((d.rZ 2).gR (d.iV 4)) 4).iV,.i (gi ((d.rZ 2).gR (d.iV 4)) 5).iV,.s (gi ((d.rZ 2).gR (d.iV 4)) 6).sV,.s (gi ((d.rZ 2).gR (d.iV 4)) 7).sV,.i (gi ((d.rZ 2).gR (d.iV 4)) 8).iV,.i (gi ((d.rZ 2).gR (d.iV 4)) 9).iV,.s (gi ((d.rZ 2).gR (d.iV 4)) 10).sV,.s (gi ((d.rZ 2).gR (d.iV 4)) 11).sV]]:LL)); let q:=aA (d.rZ 0).length (d.rZ 0).length; (bif (ba (d.iV 4) (d.iV 3)) then (gd (nL (d.iV 4) (lI (d.rZ 2))) (gd (q&&(decide (((d.rZ 0).length+1)<=1048576))) (gd (aM ((d.iV 4)+1)) (gd (bE g) (some (none,.l g::kp d 1 [.l,.l,.i] [.i ((d.iV 4)+1)])))))) else (gd (q&&true) (eQ [.l (d.rZ 0),.l (d.rZ 1)])))
def ama:bF:=⟨4,[(8,dt)],⟨31,[(7,gV),(8,.s (.vQ 0 8)),(17,.s (.list aY)),(18,aD),(19,aD)],[.vQ dt 0]⟩,[.aU 8],[⟨.exit 0,⟨31,[(7,gV),(8,.s (.vQ 0 8))],[.vQ dt 0]⟩,[.aU 8]⟩],HX⟩
def amb:LT:=bz.add 0 ama
def amc:aQ P 0 amb (bf f60):=lA WK (bN _ _ _)
def xc(d:LG):Option LG:=
 (az (xb [.l (d.rZ 0),.i (d.iV 1)]) fun g=>(bp true (bR HX [.l [],.l (g.rZ 1),.l (g.rZ 0),.i (lI (g.rZ 0)),.i 0]) fun A q=>(gd (bE (q.rZ 0)) (some [.l (q.rZ 0),.l (q.rZ 1)]))))
def amd:aI:=⟨60,oC,[],[],[kG,gV],[],[],[],xc⟩
def t108:ar:=t107.bx amd
def ame:aw P t108:=tP WK func60 amc

def Nj(d:LG):Option LG:=
 some [.l [[.s (⟨#[]⟩:BY)],[.s (⟨#[99,111,100,101]⟩:BY)],[.s (⟨#[118,111,105,99,101]⟩:BY)],[.s (⟨#[100,97,116,97]⟩:BY)]]]
def amf:aI:=⟨106,[],[],[],sB,[],[],[],Nj⟩
def t109:ar:=t108.bx amf
def amg:aw P t109:=cU ame func106

def zS(d:LG):Option LG:=
 (bif ((d.sV 0).toList==(⟨#[]⟩:BY).toList) then some [.s (⟨#[45]⟩:BY)] else some [.s (d.sV 0)])
def amh:aI:=⟨63,[bY],[],[],[bY],[],[],[],zS⟩
def t110:ar:=t109.bx amh
def WL:aw P t110:=cU amg func63

def HY(d:LG):bk:=
 let g:=gi ((d.rZ 2).gR (d.iV 4)) 0; let q:=((d.rZ 0)++([(bu aY ((d.rZ 1).gR (g.iV)))]:LL)); let A:=aA (d.rZ 0).length (d.rZ 0).length; (bif (ba (d.iV 4) (d.iV 3)) then (gd (nL (d.iV 4) (lI (d.rZ 2))) (gd (nL g.iV (lI (d.rZ 1))) (gd (A&&(decide (((d.rZ 0).length+1)<=1048576))) (gd (aM ((d.iV 4)+1)) (gd (bE q) (some (none,.l q::kp d 1 [.l,.l,.i] [.i ((d.iV 4)+1)]))))))) else (gd (A&&true) (eQ [.l (d.rZ 0)])))
def ami:bF:=⟨3,[(5,aY)],⟨25,Vb,ia⟩,zl,[⟨.exit 0,⟨25,[(5,.s (.vQ 0 15))],ia⟩,zl⟩],HY⟩
def amj:LT:=bz.add 0 ami
def amk:aQ P 0 amj (bf f107):=lA WL (bN _ _ _)
def HZ(d:LG):Option LG:=
 (az (zR [.l (d.rZ 0),.i (d.iV 1)]) fun g=>(bp true (bR HY [.l [],.l (d.rZ 0),.l (g.rZ 0),.i (lI (g.rZ 0)),.i 0]) fun A q=>(gd (bE (q.rZ 0)) (some [.l (q.rZ 0)]))))
def aml:aI:=⟨107,oC,[],[],GN,[],[],[],HZ⟩
def t111:ar:=t110.bx aml
def WM:aw P t111:=tP WL func107 amk

def WN(d:LG):bk:=
 let g:=gi ((d.rZ 2).gR (d.iV 4)) 0; let q:=((d.rZ 0)++([(bu aY ((d.rZ 1).gR (g.iV)))]:LL)); let A:=aA (d.rZ 0).length (d.rZ 0).length; (bif (ba (d.iV 4) (d.iV 3)) then (gd (nL (d.iV 4) (lI (d.rZ 2))) (gd (nL g.iV (lI (d.rZ 1))) (gd (A&&(decide (((d.rZ 0).length+1)<=1048576))) (gd (aM ((d.iV 4)+1)) (gd (bE q) (some (none,.l q::kp d 1 [.l,.l,.i] [.i ((d.iV 4)+1)]))))))) else (gd (A&&true) (eQ [.l (d.rZ 0)])))
def amm:bF:=⟨3,[(5,aY)],⟨25,Vb,ia⟩,zl,[⟨.exit 0,⟨25,[(5,.s (.vQ 0 15))],ia⟩,zl⟩],WN⟩
def amn:LT:=bz.add 0 amm
def amo:aQ P 0 amn (bf f107):=lA WM (bN _ _ _)
def WO(d:LG):Option LG:=
 (az (zR [.l (d.rZ 0),.i (d.iV 1)]) fun g=>(bp true (bR WN [.l [],.l (d.rZ 0),.l (g.rZ 0),.i (lI (g.rZ 0)),.i 0]) fun A q=>(gd (bE (q.rZ 0)) (some [.l (q.rZ 0)]))))
def amp:aI:=⟨107,oC,[],[],[.s (.vQ 0 15)],ia,gH,[],WO⟩
def t112:ar:=t111.df amp
def amq:aw P t112:=tW WM func107 amo

def sK(d:LG):Option LG:=
 Cv d
def WQ:aI:=⟨111,GK,j5,gH,[],j5,ep,[],sK⟩
def amr:ff P WQ:=fun d r h=>aeO Tryz.Mr d r h
def t113:ar:=t112.df WQ
def Nk:aw P t113:=amq.aW amr

def Nl(d:LG):bk:=
 let g:=(d.nN 3); let A:=(d.iV 2).toNat+(d.iV 4).toNat; let I:=(d.rZ 0).set (0+(d.iV 1).toNat) (iW [.str] ((d.rZ 0).getD (0+(d.iV 1).toNat) []) 0 [.s (gi ((d.rZ 0).getD A []) 0).sV]); let B:=(d.iV 4)-1; let z5:=bE (d.rZ 0); let q:=(d.iV 4)+1; let J:=nL (d.iV 4) g; let M:=decide (A<(d.rZ 0).length); let N:=(d.nN 2); let F:=(d.iV 2).toNat+B.toNat; (bif (ba (d.iV 4) g) then (gd J (gd M (gd (aM B) (gd (nL B g) (gd (decide (F<(d.rZ 0).length)) (bif (!((gi ((d.rZ 0).getD A []) 0).sV.toList==(gi ((d.rZ 0).getD F []) 0).sV.toList)) then (gd J (gd M (gd (nL (d.iV 1) (lI (d.rZ 0))) (gd (decide ((0+(d.iV 1).toNat)<(d.rZ 0).length)) (gd (aM ((d.iV 1)+1)) (gd (aM q) (gd ((aA (d.rZ 0).length I.length)&&true) (nQ [.l I,.i ((d.iV 1)+1),.i N,.i g,.i q])))))))) else (gd (aM q) (gd z5 (nQ [.l (d.rZ 0),.i (d.iV 1),.i N,.i g,.i q]))))))))) else (gd z5 (eQ [.l (d.rZ 0),.i (d.iV 1)])))
def ams:bF:=⟨9,[],⟨61,[(0,.s (.vQ 0 1)),(3,aD),(4,.s (.sub 0 1)),(5,aD)],j5⟩,ep,[⟨.exit 2,⟨61,[(0,.s (.vQ 0 1)),(3,aD)],j5⟩,ep⟩],Nl⟩
def WR:LT:=bz.add 1 ams
def amt:aQ P 1 WR (bf f112):=lA Nk (bN _ _ _)
def H5(d:LG):bk:=
 let B:=bE (d.rZ 0); let q:=(lI (d.rZ 0)); let A:=(d.iV 1)-1; let F:=0+(d.iV 1).toNat; (bif (ba (d.iV 1) q) then (gd (nL (d.iV 1) q) (gd (decide (F<(d.rZ 0).length)) (gd (aM A) (gd (nL A q) (gd (decide ((0+A.toNat)<(d.rZ 0).length)) (bif ((gi ((d.rZ 0).getD F []) 0).sV.toList==(gi ((d.rZ 0).getD (0+A.toNat) []) 0).sV.toList) then (gd ((eg (d.iV 1))&&(cw (d.iV 1) q)) (bp B (bR Nl [.l (d.rZ 0),.i (d.iV 1),.i ((F:Nat):Int),.i ((((d.rZ 0).length-(d.iV 1).toNat):Nat):Int),.i 1]) fun M g=>let z5:=(g.rZ 0).length-(g.iV 1).toNat; let J:=((eg (g.iV 1))&&(cw (g.iV 1) (lI (g.rZ 0)))); let I:=0+(g.iV 1).toNat; (gd J (gd (bW (I+z5) (g.rZ 0).length) (gd J (eQ [.l ((g.rZ 0).take I++List.replicate z5 [.s (⟨#[]⟩:BY)]++(g.rZ 0).drop (I+z5)),.i ((((g.iV 1).toNat-0):Nat):Int)])))))) else (gd (aM ((d.iV 1)+1)) (gd B (nQ [.l (d.rZ 0),.i ((d.iV 1)+1)]))))))))) else (gd B (eR [.l (d.rZ 0)])))
def amu:bF:=⟨4,[],⟨61,[(0,.s (.vQ 0 1)),(3,aD)],j5⟩,ep,[⟨.ret,⟨61,[(2,.s (.pre 0 1))],j5⟩,ep⟩,⟨.exit 0,⟨61,[(0,.s (.vQ 0 1))],j5⟩,ep⟩],H5⟩
def amv:LT:=WR.add 1 amu
def amw:aQ P 1 amv (bf f112):=lA Nk amt
def sM(d:LG):Option LG:=
 let q:=(lI (d.rZ 0)); (bif (ba q 2) then some [.l (d.rZ 0),.i q] else (bp (bE (d.rZ 0)) (bR H5 [.l (d.rZ 0),.i 1]) fun A g=>(bif aA A 0 then some [.l (g.rZ 0),.i (g.nN 1)] else some [.l (g.rZ 0),.i (lI (g.rZ 0))])))
def amx:aI:=⟨112,GK,j5,gH,[.s (.pre 0 1)],j5,ep,[],sM⟩
def t114:ar:=t113.df amx
def WS:aw P t114:=tW Nk func112 amw

def H6(d:LG):bk:=
 let g:=((d.rZ 1)++([[.s (gi ((d.rZ 0).getD (0+(d.iV 3).toNat) []) 0).sV]]:LL)); let q:=aA (d.rZ 1).length (d.rZ 1).length; (bif (ba (d.iV 3) (d.iV 2)) then (gd (nL (d.iV 3) (lI (d.rZ 0))) (gd (decide ((0+(d.iV 3).toNat)<(d.rZ 0).length)) (gd (q&&(decide (((d.rZ 1).length+1)<=1048576))) (gd (aM ((d.iV 3)+1)) (gd ((aA g.length g.length)&&(bE (d.rZ 0))) (nQ [.l (d.rZ 0),.l g,.i (d.iV 2),.i ((d.iV 3)+1)])))))) else (gd (q&&true) (eQ [.l (d.rZ 0),.l (d.rZ 1)])))
def amy:bF:=⟨3,[(3,[.str])],⟨22,[(3,.s (.vQ 1 1)),(6,.s (.vQ 0 15)),(7,aD),(8,aD)],[.vQ aY 0,.vQ [.str] 0]⟩,[.fix 0,.aU 3],[⟨.exit 0,⟨22,[(3,.s (.vQ 1 1))],[.vQ aY 0,.vQ [.str] 0]⟩,[.fix 0,.aU 3]⟩],H6⟩
def amz:LT:=bz.add 1 amy
def amA:aQ P 1 amz (bf f108):=lA WS (bN _ _ _)
def H7(d:LG):Option LG:=
 (bp (bE (d.rZ 0)) (bR H6 [.l (d.rZ 0),.l [],.i (lI (d.rZ 0)),.i 0]) fun I g=>let A:=sK [.l (g.rZ 1)]; (gx ((bE (g.rZ 1))&&A.isSome) A fun B=>let F:=sM [.l (B.rZ 0)]; (gx (((aA (g.rZ 1).length (B.rZ 0).length)&&true)&&F.isSome) F fun q=>(gd ((bW (q.iV 1).toNat (q.rZ 0).length)&&true) (some [.l (g.rZ 0),.l ((q.rZ 0).take ((q.iV 1).toNat))])))))
def amB:aI:=⟨108,[.s (.vQ 0 15)],ia,gH,[.s (.wh [.str])],ia,ep,[],H7⟩
def t115:ar:=t114.df amB
def H8:aw P t115:=tW WS func108 amA

def C2(d:LG):bk:=
 let q:=(aA (d.rZ 0).length (d.rZ 0).length)&&((aA (d.rZ 1).length (d.rZ 1).length)&&(bE (d.rZ 0))); let A:=(d.rZ 0).getD (0+(d.iV 11).toNat) []; let g:=(d.iV 11)+1; (bif (ba (d.iV 11) (d.iV 10)) then (gd (nL (d.iV 11) (lI (d.rZ 0))) (gd (decide ((0+(d.iV 11).toNat)<(d.rZ 0).length)) (bif ((A.sV 0).toList==(d.sV 6).toList) then (bif ((A.iV 3)==2) then (gd (aM g) (gd q (some (none,kp d 0 [.l,.l,.s] (.s (A.sV 12)::kp d 4 [.i,.l,.s,.l,.i,.i,.i] [.i g]))))) else (gd (aM g) (gd q (some (none,kp d 0 [.l,.l,.s,.s,.i,.l,.s,.l,.i,.i,.i] [.i g]))))) else (gd (aM g) (gd q (some (none,kp d 0 [.l,.l,.s,.s,.i,.l,.s,.l,.i,.i,.i] [.i g]))))))) else (gd ((aA (d.rZ 0).length (d.rZ 0).length)&&(bE (d.rZ 1))) (some (some 0,kp d 0 [.l,.l,.s,.s,.i,.l,.s,.l,.i,.i] []))))
def amC:bF:=⟨9,[],⟨74,[(5,.s (.vQ 0 15)),(6,.s (.list aY)),(8,.s (.vQ 1 3)),(10,bY),(11,.s (.ptr 2 0)),(26,.s (.list [.str])),(27,aD),(28,aD),(34,.s (.vQ 0 15)),(35,aD),(36,aD)],GZ⟩,GR,[⟨.exit 2,⟨74,[(5,.s (.vQ 0 15)),(6,.s (.list aY)),(8,.s (.vQ 1 3)),(10,bY),(11,.s (.ptr 2 0)),(26,.s (.list [.str])),(27,aD),(28,aD)],GZ⟩,GR⟩],C2⟩
def WT:LT:=bz.add 0 amC
def amD:aQ P 0 WT (bf f62):=lA H8 (bN _ _ _)
def C3(d:LG):bk:=
 let q:=(aA (d.rZ 0).length (d.rZ 0).length)&&(bE (d.rZ 1)); let g:=(d.iV 12)+1; (bif (ba (d.iV 12) (d.iV 11)) then (gd (nL (d.iV 12) (lI (d.rZ 10))) (bif ((gi ((d.rZ 10).gR (d.iV 12)) 0).sV.toList==(d.sV 6).toList) then (gd (aM ((d.iV 4)+1)) (gd (aM g) (gd q (some (none,kp d 0 [.l,.l,.s,.s] (.i ((d.iV 4)+1)::kp d 5 [.l,.s,.l,.i,.i,.l,.i] [.i g])))))) else (gd (aM g) (gd q (some (none,kp d 0 [.l,.l,.s,.s,.i,.l,.s,.l,.i,.i,.l,.i] [.i g])))))) else (gd q (some (some 0,kp d 0 [.l,.l,.s,.s,.i,.l] (kp d 7 [.l,.i,.i] [])))))
def amE:bF:=⟨15,[],⟨74,[(5,.s (.vQ 0 15)),(6,.s (.list aY)),(8,.s (.vQ 1 3)),(10,bY),(11,.s (.ptr 2 0)),(26,.s (.list [.str])),(27,aD),(28,aD),(53,.s (.list aY)),(54,aD),(55,aD)],GZ⟩,GR,[⟨.exit 4,⟨74,[(5,.s (.vQ 0 15)),(6,.s (.list aY)),(8,.s (.vQ 1 3)),(11,.s (.ptr 2 0)),(26,.s (.list [.str])),(27,aD),(28,aD)],GZ⟩,GR⟩],C3⟩
def WU:LT:=WT.add 0 amE
def amF:aQ P 0 WU (bf f62):=lA H8 amD
def C4(d:LG):bk:=
 let A:=gi ((d.rZ 3).gR (d.iV 5)) 0; let B:=aA (d.rZ 0).length (d.rZ 0).length; let F:=aA (d.rZ 1).length (d.rZ 1).length; (bif (ba (d.iV 5) (d.iV 4)) then (gd (nL (d.iV 5) (lI (d.rZ 3))) (bp (B&&(F&&(B&&true))) (bR C2 (.l (d.rZ 0)::.l (d.rZ 1)::.s A.sV::.s (⟨#[]⟩:BY)::.i 0::.l (d.rZ 2)::.s A.sV::kp d 3 [.l,.i,.i] [.i (lI (d.rZ 0)),.i 0])) fun J q=>(bp ((aA (q.rZ 0).length (q.rZ 0).length)&&(bE (q.rZ 1))) (bR C3 (kp q 0 [.l,.l,.s,.s,.i,.l,.s,.l,.i,.i] [.l (q.rZ 5),.i (lI (q.rZ 5)),.i 0])) fun M g=>let I:=((g.rZ 1)++([(kp g 2 [.s,.s,.i] [])]:LL)); (gd ((aA (g.rZ 1).length (g.rZ 1).length)&&(decide (((g.rZ 1).length+1)<=1048576))) (gd (aM ((g.iV 8)+1)) (gd ((aA (g.rZ 0).length (g.rZ 0).length)&&(bE I)) (some (none,.l (g.rZ 0)::.l I::kp g 5 [.l,.l,.i] [.i ((g.iV 8)+1)])))))))) else (gd (F&&true) (eQ [.l (d.rZ 1)])))
def amG:bF:=⟨5,[(8,lG)],⟨74,[(5,.s (.vQ 0 15)),(6,.s (.list aY)),(8,.s (.vQ 1 3)),(26,.s (.list [.str])),(27,aD),(28,aD)],[.vQ aY 0,.vQ lG 0]⟩,[.aU 5,.aU 8],[⟨.exit 0,⟨74,[(8,.s (.vQ 0 3))],[.vQ lG 0]⟩,[.aU 8]⟩],C4⟩
def amH:LT:=WU.add 0 amG
def amI:aQ P 0 amH (bf f62):=lA H8 amF
def H9(d:LG):Option LG:=
 (az (WO [.l (d.rZ 0),.i (d.iV 1)]) fun q=>let A:=H7 [.l (q.rZ 0)]; (az (xb [.l (d.rZ 0),.i (d.iV 1)]) fun F=>(gx ((bE (q.rZ 0))&&A.isSome) A fun g=>(bp ((aA (q.rZ 0).length (g.rZ 0).length)&&true) (bR C4 [.l (g.rZ 0),.l [],.l (F.rZ 0),.l (g.rZ 1),.i (lI (g.rZ 1)),.i 0]) fun I B=>(gd (bE (B.rZ 0)) (some [.l (B.rZ 0)]))))))
def amJ:aI:=⟨62,oC,[],[],[.s (.list lG)],[],[],[],H9⟩
def t116:ar:=t115.bx amJ
def amK:aw P t116:=tP H8 func62 amI

def H_(d:LG):Option LG:=
 let g:=(gi (d.rV 0) 8).iV==(gi (d.rV 2) 1).iV; (bif ((gi (d.rV 0) 0).sV.toList==(gi (d.rV 1) 0).sV.toList) then (bif ((gi (d.rV 0) 3).iV==4) then some [.t g] else (bif ((gi (d.rV 0) 3).iV==1) then some [.t g] else some [.t false])) else some [.t false])
def amL:aI:=⟨154,[.s (.row aY),.s (.cptr aY),.s (.cptr [.str,.I])],[],[],[dY],[],[],[],H_⟩
def t117:ar:=t116.bx amL
def WV:aw P t117:=cU amK func154

def zT(d:LG):bk:=
 let g:=bu [.str,.I] (d.rV 2); let q:=bu aY (d.rV 1); (bif (ba (d.iV 4) (d.iV 3)) then (gd (nL (d.iV 4) (lI (d.rZ 0))) (az (H_ [.l [(bu aY ((d.rZ 0).gR (d.iV 4)))],.l [q],.l [g]]) fun A=>(bif (A.bV 0) then eQ [.i (d.iV 4)] else (gd (aM ((d.iV 4)+1)) (nQ [.l (d.rZ 0),.l [q],.l [g],.i (d.iV 3),.i ((d.iV 4)+1)]))))) else eR [])
def amM:bF:=⟨2,[],⟨19,[(0,.s (.list aY)),(1,.clo 154 [.cptr aY,.cptr [.str,.I]]),(7,aD),(8,aD)],[]⟩,[],[⟨.ret,⟨19,zp,[]⟩,[]⟩,⟨.exit 0,⟨19,[],[]⟩,[]⟩],zT⟩
def amN:LT:=bz.add 0 amM
def amO:aQ P 0 amN (bf f53):=lA WV (bN _ _ _)
def Nn(d:LG):Option LG:=
 (bp true (bR zT [.l (d.rZ 0),.l [(bu aY (d.rV 1))],.l [(bu [.str,.I] (d.rV 2))],.i (lI (d.rZ 0)),.i 0]) fun g q=>(bif aA g 0 then some [.i (q.iV 0)] else some [.i (-1)]))
def amP:aI:=⟨53,T6,[],[],[aD],[],[],[],Nn⟩
def t118:ar:=t117.bx amP
def amQ:aw P t118:=tP WV func53 amO

def Ia(d:LG):Option LG:=
 (az (Nn [.l (d.rZ 0),.l [(bu aY (d.rV 1))],.l [(bu [.str,.I] (d.rV 2))]]) fun g=>some [.t (cw 0 (g.iV 0))])
def amR:aI:=⟨25,T6,[],[],[dY],[],[],[],Ia⟩
def t119:ar:=t118.bx amR
def WW:aw P t119:=cU amQ func25

def zU(d:LG):bk:=
 (bif (ba (d.iV 4) (d.iV 3)) then (gd (nL (d.iV 4) (lI (d.rZ 2))) (bif (aK [.str,.I] (bu [.str,.I] d) (bu [.str,.I] ((d.rZ 2).gR (d.iV 4)))) then eQ [.i (d.iV 4)] else (gd (aM ((d.iV 4)+1)) (some (none,kp d 0 [.s,.i,.l,.i] [.i ((d.iV 4)+1)]))))) else eR [])
def amS:bF:=⟨2,[],⟨19,[(0,.s (.list [.str,.I])),(3,.s (.ptr 0 0)),(7,aD),(8,aD)],[.box [.str,.I]]⟩,wR,[⟨.ret,⟨19,zp,[]⟩,[]⟩,⟨.exit 0,⟨19,[],[]⟩,[]⟩],zU⟩
def amT:LT:=bz.add 0 amS
def amU:aQ P 0 amT (bf f205):=lA WW (bN _ _ _)
def No(d:LG):Option LG:=
 (bp true (bR zU [.s (gi (d.rV 1) 0).sV,.i (gi (d.rV 1) 1).iV,.l (d.rZ 0),.i (lI (d.rZ 0)),.i 0]) fun g q=>(bif aA g 0 then some [.i (q.iV 0)] else some [.i (-1)]))
def amV:aI:=⟨205,T7,[],[],[aD],[],[],[],No⟩
def t120:ar:=t119.bx amV
def amW:aw P t120:=tP WW func205 amU

def C5(d:LG):Option LG:=
 (az (No [.l (d.rZ 0),.l [(bu [.str,.I] (d.rV 1))]]) fun g=>some [.t (cw 0 (g.iV 0))])
def amX:aI:=⟨155,T7,[],[],[dY],[],[],[],C5⟩
def t121:ar:=t120.bx amX
def WX:aw P t121:=cU amW func155

def xd(d:LG):Option LG:=
 let g:=(gi (d.rV 0) 1).iV-(gi (d.rV 1) 1).iV; (bif (!((gi (d.rV 0) 0).sV.toList==(gi (d.rV 1) 0).sV.toList)) then (az (kF [.s (gi (d.rV 0) 0).sV,.s (gi (d.rV 1) 0).sV]) fun q=>some [.i (q.iV 0)]) else (gd (aM g) (az (qX [.i g]) fun A=>some [.i (A.iV 0)])))
def WY:aI:=⟨157,T0,[],[],[aD],[],[],[],xd⟩
def WZ:ff P WY:=zf hm WX func157 (bN _ _ _) (fun d=>by kernel_rfl)
def t122:ar:=t121.bx WY
def amY:aw P t122:=WX.aP WZ

def Np(d:LG):Option LG:=
 sr xd d
def W0:aI:=⟨156,[.s (.vQ 0 2),.s (.fn 157)],GQ,gH,[],GQ,ep,[],Np⟩
def amZ:ff P W0:=fun d r h=>F9 Tryz.afL [.str,.I] aj isAgg140 sizeOf140 157 aj xd (fun d r h=>WZ d r h) d r h
def t123:ar:=t122.df W0
def Nq:aw P t123:=amY.aW amZ

def Ib(d:LG):bk:=
 let q:=(d.rZ 2).gR (d.iV 4); let B:=aA (d.rZ 0).length (d.rZ 0).length; let g:=(d.iV 4)+1; let F:=((d.rZ 0)++([[.s (q.sV 0),.i (q.iV 8)]]:LL)); let z5:=C5 [.l (d.rZ 0),.l [[.s (q.sV 0),.i (q.iV 8)]]]; let A:=B&&true; (bif (ba (d.iV 4) (d.iV 3)) then (gd (nL (d.iV 4) (lI (d.rZ 2))) (gd (aM g) (gd ((eg g)&&(cw g (lI (d.rZ 1)))) (az (Ia [.l ((d.rZ 1).drop (g.toNat)),.l [(bu aY q)],.l [[.s (q.sV 0),.i (q.iV 8)]]]) fun I=>(bif ((q.iV 3)==3) then (bif (!(I.bV 0)) then (gx (A&&z5.isSome) z5 fun J=>(bif (!(J.bV 0)) then (gd (B&&(decide (((d.rZ 0).length+1)<=1048576))) (gd (aM g) (gd (bE F) (some (none,.l F::kp d 1 [.l,.l,.i] [.i g]))))) else (gd (aM g) (gd A (some (none,kp d 0 [.l,.l,.l,.i] [.i g])))))) else (gd (aM g) (gd A (some (none,kp d 0 [.l,.l,.l,.i] [.i g]))))) else (gd (aM g) (gd A (some (none,kp d 0 [.l,.l,.l,.i] [.i g]))))))))) else (gd A (eQ [.l (d.rZ 0)])))
def am0:bF:=⟨4,[(6,[.str,.I])],⟨54,[(5,.s (.list aY)),(6,.s (.vQ 0 2)),(14,.s (.list aY)),(15,aD),(16,aD)],[.vQ [.str,.I] 0]⟩,uH,[⟨.exit 0,⟨54,[(6,.s (.vQ 0 2))],[.vQ [.str,.I] 0]⟩,uH⟩],Ib⟩
def am1:LT:=bz.add 0 am0
def am2:aQ P 0 am1 (bf f109):=aQ.add hm ((Nq.mG [25,155]).nm [107]) aj (bN _ _ _) (fun d=>by kernel_rfl)
def zV(d:LG):Option LG:=
 (az (HZ [.l (d.rZ 0),.i (d.iV 1)]) fun g=>(bp true (bR Ib [.l [],.l (g.rZ 0),.l (g.rZ 0),.i (lI (g.rZ 0)),.i 0]) fun F q=>let A:=Np [.l (q.rZ 0)]; (gx ((bE (q.rZ 0))&&A.isSome) A fun B=>(gd ((aA (q.rZ 0).length (B.rZ 0).length)&&true) (some [.l (B.rZ 0)])))))
def am3:aI:=⟨109,oC,[],[],[.s (.list [.str,.I])],[],[],[],zV⟩
def t124:ar:=t123.bx am3
def Ic:aw P t124:=Nq.aP (qJ hm ((Nq.mG [25,155]).nm [107]) func109 aj am2 (fun d=>by kernel_rfl) aj)

def Ie(d:LG):bk:=
 let g:=gi ((d.rZ 4).gR (d.iV 6)) 4; (bif (ba (d.iV 6) (d.iV 5)) then (gd (nL (d.iV 6) (lI (d.rZ 4))) (gd (aM ((d.iV 6)+1)) (some (none,.l (cH [.I] (d.rZ 0) [.i g.iV] [.t true] (d.iV 1).toNat)::.i (((dI [.I] (d.rZ 0) [.i g.iV] (d.iV 1).toNat):Nat):Int)::kp d 2 [.l,.i,.l,.i] [.i ((d.iV 6)+1)])))) else eQ [.l (d.rZ 0),.i (d.nN 1),.l (d.rZ 2),.i (d.iV 3)])
def am4:bF:=⟨4,[],⟨52,[(0,.s (.list aY)),(1,aD),(6,.s (.map 0)),(21,kG),(22,aD),(23,aD)],CH⟩,uH,[⟨.exit 0,⟨52,[(0,.s (.list aY)),(1,aD),(6,.s (.map 0))],CH⟩,uH⟩],Ie⟩
def W1:LT:=bz.add 0 am4
def am5:aQ P 0 W1 (bf f64):=lA Ic (bN _ _ _)
def If(d:LG):bk:=
 let g:=gi ((d.rZ 2).gR (d.iV 4)) 1; (bif (ba (d.iV 4) (d.iV 3)) then (gd (nL (d.iV 4) (lI (d.rZ 2))) (gd (aM ((d.iV 4)+1)) (nQ [.l (cH [.I] (d.rZ 0) [.i g.iV] [.t true] (d.iV 1).toNat),.i (((dI [.I] (d.rZ 0) [.i g.iV] (d.iV 1).toNat):Nat):Int),.l (d.rZ 2),.i (d.iV 3),.i ((d.iV 4)+1)]))) else eQ [.l (d.rZ 0),.i (d.nN 1)])
def am6:bF:=⟨9,[],⟨52,[(6,.s (.map 0)),(33,.s (.list [.str,.I])),(34,aD),(35,aD)],CH⟩,uH,[⟨.exit 2,⟨52,[(6,.s (.map 0))],CH⟩,uH⟩],If⟩
def W2:LT:=W1.add 0 am6
def am7:aQ P 0 W2 (bf f64):=lA Ic am5
def zW(d:LG):bk:=
 (bif (cw (d.iV 2) 99999) then (bif (!(gi (da [.I] (d.rZ 0) [.i (d.iV 2)] [.t false]) 0).bV) then eQ [.i (d.iV 2),.i 0] else (gd (aM ((d.iV 2)+1)) (nQ [.l (d.rZ 0),.i (d.nN 1),.i ((d.iV 2)+1)]))) else eR [])
def am8:bF:=⟨14,[],⟨52,[(6,.s (.map 0)),(13,aD)],CH⟩,uH,[⟨.ret,⟨52,[(4,aD),(5,aD)],[]⟩,[]⟩,⟨.exit 4,⟨52,[],[]⟩,[]⟩],zW⟩
def am9:LT:=W2.add 0 am8
def am_:aQ P 0 am9 (bf f64):=lA Ic am7
def C6(d:LG):Option LG:=
 (az (xc [.l (d.rZ 0),.i (d.iV 1)]) fun q=>(bp true (bR Ie [.l [],.i 0,.l (d.rZ 0),.i (d.iV 1),.l (q.rZ 0),.i (lI (q.rZ 0)),.i 0]) fun J g=>(az (zV [.l (g.rZ 2),.i (g.iV 3)]) fun A=>(bp true (bR If [.l (g.rZ 0),.i (g.nN 1),.l (A.rZ 0),.i (lI (A.rZ 0)),.i 0]) fun M B=>(bp true (bR zW [.l (B.rZ 0),.i (B.nN 1),.i 1]) fun I F=>(bif aA I 0 then some [.i (F.iV 0),.i (F.iV 1)] else some [.i 0,.i 12]))))))
def am':aI:=⟨64,oC,[],[],[aD,aD],[],[],[],C6⟩
def t125:ar:=t124.bx am'
def W3:aw P t125:=tP Ic func64 am_

def Ig(d:LG):bk:=
 let g:=(d.rZ 1).gR (d.iV 3); let q:=aA (d.rZ 0).length (d.rZ 0).length; (bif (ba (d.iV 3) (d.iV 2)) then (gd (nL (d.iV 3) (lI (d.rZ 1))) (az (gz [.i (g.iV 1)]) fun B=>let A:=((d.rZ 0)++([[.s (g.sV 0),.s (B.sV 0)]]:LL)); (gd (q&&(decide (((d.rZ 0).length+1)<=1048576))) (gd (aM ((d.iV 3)+1)) (gd (bE A) (nQ [.l A,.l (d.rZ 1),.i (d.iV 2),.i ((d.iV 3)+1)])))))) else (gd (q&&true) (eQ [.l (d.rZ 0)])))
def ana:bF:=⟨3,[(5,[.str,.str])],⟨27,[(5,.s (.vQ 0 2)),(10,.s (.list [.str,.I])),(11,aD),(12,aD)],CI⟩,zl,[⟨.exit 0,⟨27,[(5,.s (.vQ 0 2))],CI⟩,zl⟩],Ig⟩
def anb:LT:=bz.add 0 ana
def anc:aQ P 0 anb (bf f65):=lA W3 (bN _ _ _)
def zX(d:LG):Option LG:=
 (az (zV [.l (d.rZ 0),.i (d.iV 1)]) fun g=>(bp true (bR Ig [.l [],.l (g.rZ 0),.i (lI (g.rZ 0)),.i 0]) fun A q=>(gd (bE (q.rZ 0)) (some [.l (q.rZ 0)]))))
def ane:aI:=⟨65,oC,[],[],CF,[],[],[],zX⟩
def t126:ar:=t125.bx ane
def anf:aw P t126:=tP W3 func65 anc

def Ih(d:LG):Option LG:=
 (az (GX [.s (d.sV 0)]) fun g=>some [.s (gi (g.rV 0) 0).sV])
def ang:aI:=⟨116,[bY],[],[],[bY],[],[],[],Ih⟩
def t127:ar:=t126.bx ang
def anh:aw P t127:=cU anf func116

def C7(d:LG):Option LG:=
 (bif ((gi (d.rV 0) 2).sV.toList==(gi (d.rV 1) 2).sV.toList) then (bif ((gi (d.rV 0) 1).iV==(gi (d.rV 1) 1).iV) then (az (Ih [.s (gi (d.rV 0) 3).sV]) fun g=>(az (Ih [.s (gi (d.rV 1) 3).sV]) fun q=>some [.t ((g.sV 0).toList==(q.sV 0).toList)])) else some [.t false]) else some [.t false])
def ani:aI:=⟨115,[.s (.row dt),.s (.cptr dt)],[],[],[dY],[],[],[],C7⟩
def t128:ar:=t127.bx ani
def W4:aw P t128:=cU anh func115

def W5(d:LG):bk:=
 let g:=bu dt (d.rV 1); (bif (ba (d.iV 3) (d.iV 2)) then (gd (nL (d.iV 3) (lI (d.rZ 0))) (az (C7 [.l [(bu dt ((d.rZ 0).gR (d.iV 3)))],.l [g]]) fun q=>(bif (q.bV 0) then eQ [.i (d.iV 3)] else (gd (aM ((d.iV 3)+1)) (nQ [.l (d.rZ 0),.l [g],.i (d.iV 2),.i ((d.iV 3)+1)]))))) else eR [])
def anj:bF:=⟨2,[],⟨19,[(0,kG),(1,.clo 115 [.cptr dt]),(7,aD),(8,aD)],[]⟩,[],[⟨.ret,⟨19,zp,[]⟩,[]⟩,⟨.exit 0,⟨19,[],[]⟩,[]⟩],W5⟩
def ank:LT:=bz.add 0 anj
def anl:aQ P 0 ank (bf f161):=lA W4 (bN _ _ _)
def Nr(d:LG):Option LG:=
 (bp true (bR W5 [.l (d.rZ 0),.l [(bu dt (d.rV 1))],.i (lI (d.rZ 0)),.i 0]) fun g q=>(bif aA g 0 then some [.i (q.iV 0)] else some [.i (-1)]))
def anm:aI:=⟨161,[kG,.clo 115 [.cptr dt]],[],[],[aD],[],[],[],Nr⟩
def t129:ar:=t128.bx anm
def ann:aw P t129:=tP W4 func161 anl

def Ii(d:LG):Option LG:=
 (az (Nr [.l (d.rZ 0),.l [(bu dt (d.rV 1))]]) fun g=>some [.t (cw 0 (g.iV 0))])
def ano:aI:=⟨114,[kG,.clo 115 [.cptr dt]],[],[],[dY],[],[],[],Ii⟩
def t130:ar:=t129.bx ano
def Ns:aw P t130:=cU ann func114

def C8(d:LG):bk:=
 let A:=((d.rZ 0)++([[.i (d.iV 4)]]:LL)); let q:=aA (d.rZ 0).length (d.rZ 0).length; let g:=(d.iV 4)+1; (bif (ba (d.iV 4) (d.iV 3)) then (gd (nL (d.iV 4) (lI (d.rZ 2))) (gd ((eg (d.iV 4))&&(cw (d.iV 4) (lI (d.rZ 1)))) (az (Ii [.l ((d.rZ 1).take ((d.iV 4).toNat)),.l [(bu dt ((d.rZ 2).gR (d.iV 4)))]]) fun B=>(bif (B.bV 0) then (gd (q&&(decide (((d.rZ 0).length+1)<=1048576))) (gd (aM g) (gd (bE A) (some (none,.l A::kp d 1 [.l,.l,.i] [.i g]))))) else (gd (aM g) (gd (q&&true) (some (none,kp d 0 [.l,.l,.l,.i] [.i g])))))))) else (gd (q&&true) (eQ [.l (d.rZ 0)])))
def anp:bF:=⟨3,[(3,[.I])],⟨24,[(0,kG),(3,.s (.vQ 0 1)),(6,kG),(7,aD),(8,aD)],mM⟩,wR,[⟨.exit 0,⟨24,[(3,.s (.vQ 0 1))],mM⟩,wR⟩],C8⟩
def anq:LT:=bz.add 0 anp
def anr:aQ P 0 anq (bf f68):=aQ.add hm (Ns.mG [114]) aj (bN _ _ _) (fun d=>by kernel_rfl)
def C9(d:LG):Option LG:=
 (bp true (bR C8 [.l [],.l (d.rZ 0),.l (d.rZ 0),.i (lI (d.rZ 0)),.i 0]) fun q g=>(gd (bE (g.rZ 0)) (some [.l (g.rZ 0)])))
def ant:aI:=⟨68,[kG],[],[],[gV],[],[],[],C9⟩
def t131:ar:=t130.bx ant
def anu:aw P t131:=Ns.aP (qJ hm (Ns.mG [114]) func68 aj anr (fun d=>by kernel_rfl) aj)

def Nt(d:LG):Option LG:=
 let g:=(((d.sV 1).size:Nat):Int); (az (wY [.s (d.sV 0),.s (d.sV 1)]) fun q=>(bif (q.bV 0) then (gd ((eg g)&&(cw g (((d.sV 0).size:Nat):Int))) (some [.s ((d.sV 0).extract (d.sV 1).size (d.sV 0).size)])) else some [.s (d.sV 0)]))
def anv:aI:=⟨118,l9,[],[],[bY],[],[],[],Nt⟩
def t132:ar:=t131.bx anv
def anw:aw P t132:=cU anu func118

def Ij(d:LG):Option LG:=
 (az (Nt [.s (d.sV 0),.s (d.sV 1)]) fun g=>some [.s (g.sV 0)])
def anx:aI:=⟨70,l9,[],[],[bY],[],[],[],Ij⟩
def t133:ar:=t132.bx anx
def anz:aw P t133:=cU anw func70

def Ik(d:LG):Option LG:=
 (az (Ij [.s (d.sV 0),.s (⟨#[45]⟩:BY)]) fun g=>(bif ((g.sV 0).toList==(⟨#[]⟩:BY).toList) then some [.i 0,.t false] else (bif (ba (d.iV 1) (((g.sV 0).size:Nat):Int)) then some [.i 0,.t false] else (az (zQ [.s (g.sV 0),.s (⟨#[48,49,50,51,52,53,54,55,56,57]⟩:BY)]) fun A=>(bif (!(A.bV 0)) then some [.i 0,.t false] else (az (wZ [.s (d.sV 0)]) fun q=>(az (gz [.i (q.iV 0)]) fun B=>some [.i (q.iV 0),.t ((B.sV 0).toList==(d.sV 0).toList)])))))))
def anA:aI:=⟨34,[bY,aD],[],[],[aD,dY],[],[],[],Ik⟩
def t134:ar:=t133.bx anA
def anB:aw P t134:=cU anz func34

attribute [instance] drF
def anC:aw P t134:=anB.pK
def oI(d:LG):Option LG:=
 y5 d
def W6:aI:=⟨105,[.s (.wh [.str]),bY],[],[],[bY],[],[],[],oI⟩
def anD:ff P W6:=fun d r h=>ae1 rfl Tryz.afB Tryz.afV d r h
def t135:ar:=t134.df W6
def anE:aw P t135:=anC.aW anD

def mN(d:LG):Option LG:=
 (az (oI [.l (d.rZ 0),.s (⟨#[32]⟩:BY)]) fun g=>(gd (bW ((g.sV 0).size+1) 9223372036854775807) (some [.s ((g.sV 0)++(⟨#[10]⟩:BY))])))
def anF:aI:=⟨88,sB,[],[],[bY],[],[],[],mN⟩
def t136:ar:=t135.bx anF
def anG:aw P t136:=cU anE func88

def Il(d:LG):Option LG:=
 (az (zB [.l [[.s (d.sV 2)]]]) fun g=>let q:=(ba 0 (lI (g.rZ 0))); let A:=gi ((g.rZ 0).getD 0 []) 0; (bif (!(g.bV 1)) then some [.l (d.rZ 0),.i (d.iV 1),.s (⟨#[]⟩:BY),.i 9] else (gd q (az (sF [.i A.iV]) fun B=>(bif (!(B.bV 0)) then some [.l (d.rZ 0),.i (d.iV 1),.s (⟨#[]⟩:BY),.i 1] else (gd q (az (mN [.l [[.s (⟨#[111,107]⟩:BY)]]]) fun F=>some [.l (d.rZ 0),.i A.iV,.s (F.sV 0),.i 0])))))))
def anH:aI:=⟨47,Mw,GS,gH,[bY,aD],GS,ep,[],Il⟩
def t137:ar:=t136.df anH
def anI:aw P t137:=pS anG func47

def C_(d:LG):Option LG:=
 (az (gz [.i (d.iV 0)]) fun g=>(az (mN [.l [[.s (⟨#[101,114,114,111,114]⟩:BY)],[.s (g.sV 0)]]]) fun q=>some [.s (q.sV 0)]))
def anJ:aI:=⟨49,[aD],[],[],[bY],[],[],[],C_⟩
def t138:ar:=t137.bx anJ
def anK:aw P t138:=cU anI func49

def Im(d:LG):Option LG:=
 let g:=gi (d.rV 0) 1; (az (gz [.i (gi (d.rV 0) 0).iV]) fun A=>(az (MV []) fun q=>(gd (nL g.iV (lI (q.rZ 0))) (az (gz [.i (gi (d.rV 0) 4).iV]) fun B=>(az (zK [.s (gi (d.rV 0) 6).sV]) fun F=>(az (gz [.i (gi (d.rV 0) 5).iV]) fun I=>(az (zK [.s (gi (d.rV 0) 7).sV]) fun J=>(az (mN [.l [[.s (A.sV 0)],[.s (gi ((q.rZ 0).gR (g.iV)) 0).sV],[.s (gi (d.rV 0) 2).sV],[.s (gi (d.rV 0) 3).sV],[.s (B.sV 0)],[.s (F.sV 0)],[.s (I.sV 0)],[.s (J.sV 0)]]]) fun M=>some [.s (M.sV 0)]))))))))
def anL:aI:=⟨91,wO,[],[],[bY],[],[],[],Im⟩
def t139:ar:=t138.bx anL
def anM:aw P t139:=cU anK func91

def C'(d:LG):Option LG:=
 F_ d
def W7:aI:=⟨187,[.clo 254 [.ptr 0 0]],T8,[.cap 0 0,.cell 0 0],sB,T8,uI,[],C'⟩
def anN:ff P W7:=fun d r h=>aeg (ρ:=Tryz.TU) (ρ':=Tryz.TT) rfl Tryz.afT { Tryz.afS with } (fun m=>⟨fun wF oF cap ss W hH g q=>callsIn_wide.2 (Proofs.AnyM.slices_Sort_string Tryz.Mr wF oF cap ss W hH g q),fun p cap W=>callsIn_wide.2 (Proofs.AnyM.slices_Sort_string_none Tryz.Mr p cap W)⟩) aj aj (.one (.bool)) d r h
def t140:ar:=t139.df W7
def W8:aw P t140:=anM.aW anN

def Io(d:LG):bk:=
 let g:=gi ((d.rZ 8).gR (d.iV 10)) 0; let q:=(d.nN 5); (bif (ba (d.iV 10) (d.iV 9)) then (gd (nL (d.iV 10) (lI (d.rZ 8))) (gd (aM ((d.iV 10)+1)) (some (none,kp d 0 [.l,.l,.l,.l,.l] [.i q,.l (cH [.str] (d.rZ 6) [.s g.sV] [.t true] (d.iV 7).toNat),.i (((dI [.str] (d.rZ 6) [.s g.sV] (d.iV 7).toNat):Nat):Int),.l (d.rZ 8),.i (d.iV 9),.i ((d.iV 10)+1)])))) else some (some 0,kp d 0 [.l,.l,.l,.l,.l] [.i q,.l (d.rZ 6),.i (d.nN 7)]))
def anO:bF:=⟨3,[],⟨23,[(3,.s (.map 2)),(10,.s (.list aY)),(11,aD),(12,aD)],wV⟩,zk,[⟨.exit 0,⟨23,[(3,.s (.map 2))],wV⟩,zk⟩],Io⟩
def anP:LT:=bz.add 2 anO
def anQ:aQ P 2 anP (bf f137):=lA W8 (bN _ _ _)
def Ip(d:LG):Option LG:=
 (bp true (bR Io (kp d 0 [.l,.l,.l,.l,.l] [.i (d.nN 5),.l [],.i 0,.l (d.rZ 0),.i (lI (d.rZ 0)),.i 0])) fun A g=>(az (C' [.l (g.rZ 6),.i (g.nN 7)]) fun q=>some (kp g 0 [.l,.l,.l,.l,.l] [.i (g.nN 5),.l (q.rZ 2)])))
def anR:aI:=⟨137,oB,jx,qV,sB,jx,uI,[],Ip⟩
def t141:ar:=t140.df anR
def Iq:aw P t141:=tW W8 func137 anQ

def Da(d:LG):bk:=
 let q:=bE (d.rZ 6); let A:=(d.nN 5); let B:=(d.rZ 14).gR (d.iV 16); let g:=(d.iV 16)+1; (bif (ba (d.iV 16) (d.iV 15)) then (gd (nL (d.iV 16) (lI (d.rZ 14))) (bif ((B.sV 0).toList==(d.sV 10).toList) then (bif ((B.iV 3)==2) then (gd (aM g) (gd q (some (none,kp d 0 [.l,.l,.l,.l,.l] (.i A::.l (d.rZ 6)::.s (d.sV 7)::.s (B.sV 12)::kp d 9 [.i,.s,.l,.i,.i,.l,.i] [.i g]))))) else (gd (aM g) (gd q (some (none,kp d 0 [.l,.l,.l,.l,.l] (.i A::kp d 6 [.l,.s,.s,.i,.s,.l,.i,.i,.l,.i] [.i g])))))) else (gd (aM g) (gd q (some (none,kp d 0 [.l,.l,.l,.l,.l] (.i A::kp d 6 [.l,.s,.s,.i,.s,.l,.i,.i,.l,.i] [.i g]))))))) else (gd q (some (some 0,kp d 0 [.l,.l,.l,.l,.l] (.i A::kp d 6 [.l,.s,.s,.i,.s,.l,.i,.i] [])))))
def anS:bF:=⟨7,[],⟨65,[(0,.s (.ptr 0 0)),(3,.s (.vQ 2 3)),(5,bY),(6,.s (.ptr 3 0)),(12,.s (.list [.str])),(13,aD),(14,aD),(23,.s (.list aY)),(24,aD),(25,aD)],G0⟩,GU,[⟨.exit 2,⟨65,[(0,.s (.ptr 0 0)),(3,.s (.vQ 2 3)),(5,bY),(6,.s (.ptr 3 0)),(12,.s (.list [.str])),(13,aD),(14,aD)],G0⟩,GU⟩],Da⟩
def W9:LT:=bz.add 2 anS
def anT:aQ P 2 W9 (bf f92):=lA Iq (bN _ _ _)
def Db(d:LG):bk:=
 let q:=bE (d.rZ 6); let A:=(d.nN 5); let g:=(d.iV 16)+1; (bif (ba (d.iV 16) (d.iV 15)) then (gd (nL (d.iV 16) (lI (d.rZ 14))) (bif ((gi ((d.rZ 14).gR (d.iV 16)) 0).sV.toList==(d.sV 10).toList) then (gd (aM ((d.iV 9)+1)) (gd (aM g) (gd q (some (none,kp d 0 [.l,.l,.l,.l,.l] (.i A::kp d 6 [.l,.s,.s] (.i ((d.iV 9)+1)::kp d 10 [.s,.l,.i,.i,.l,.i] [.i g]))))))) else (gd (aM g) (gd q (some (none,kp d 0 [.l,.l,.l,.l,.l] (.i A::kp d 6 [.l,.s,.s,.i,.s,.l,.i,.i,.l,.i] [.i g]))))))) else (gd q (some (some 0,kp d 0 [.l,.l,.l,.l,.l] (.i A::kp d 6 [.l,.s,.s,.i] (kp d 11 [.l,.i,.i] []))))))
def anU:bF:=⟨13,[],⟨65,[(0,.s (.ptr 0 0)),(3,.s (.vQ 2 3)),(5,bY),(6,.s (.ptr 3 0)),(12,.s (.list [.str])),(13,aD),(14,aD),(45,.s (.list [.str])),(46,aD),(47,aD)],G0⟩,GU,[⟨.exit 4,⟨65,[(0,.s (.ptr 0 0)),(3,.s (.vQ 2 3)),(6,.s (.ptr 3 0)),(12,.s (.list [.str])),(13,aD),(14,aD)],G0⟩,GU⟩],Db⟩
def W_:LT:=W9.add 2 anU
def anV:aQ P 2 W_ (bf f92):=lA Iq anT
def Dc(d:LG):bk:=
 let A:=bE (d.rZ 6); let B:=gi ((d.rZ 7).gR (d.iV 9)) 0; let F:=(d.nN 5); (bif (ba (d.iV 9) (d.iV 8)) then (gd (nL (d.iV 9) (lI (d.rZ 7))) (bp A (bR Da (kp d 0 [.l,.l,.l,.l,.l] (.i F::.l (d.rZ 6)::.s B.sV::.s (⟨#[]⟩:BY)::.i 0::.s B.sV::kp d 7 [.l,.i,.i] [.l (d.rZ 0),.i (lI (d.rZ 0)),.i 0]))) fun J q=>(bp (bE (q.rZ 6)) (bR Db (kp q 0 [.l,.l,.l,.l,.l] (.i (q.nN 5)::kp q 6 [.l,.s,.s,.i,.s,.l,.i,.i] [.l (q.rZ 2),.i (lI (q.rZ 2)),.i 0]))) fun M g=>let I:=((g.rZ 6)++([(kp g 7 [.s,.s,.i] [])]:LL)); (gd ((aA (g.rZ 6).length (g.rZ 6).length)&&(decide (((g.rZ 6).length+1)<=1048576))) (gd (aM ((g.iV 12)+1)) (gd (bE I) (some (none,kp g 0 [.l,.l,.l,.l,.l] [.i (g.nN 5),.l I,.l (g.rZ 10),.i (g.iV 11),.i ((g.iV 12)+1)])))))))) else (gd A (some (some 0,kp d 0 [.l,.l,.l,.l,.l] [.i F,.l (d.rZ 6)]))))
def anW:bF:=⟨3,[(3,lG)],⟨65,[(0,.s (.ptr 0 0)),(3,.s (.vQ 2 3)),(12,.s (.list [.str])),(13,aD),(14,aD)],U7⟩,zk,[⟨.exit 0,⟨65,[(3,.s (.vQ 2 3))],U7⟩,zk⟩],Dc⟩
def anX:LT:=W_.add 2 anW
def anY:aQ P 2 anX (bf f92):=lA Iq anV
def Ir(d:LG):Option LG:=
 (az (Ip (kp d 0 [.l,.l,.l,.l,.l] [.i (d.nN 5)])) fun g=>(bp true (bR Dc (kp g 0 [.l,.l,.l,.l,.l] [.i (g.nN 5),.l [],.l (g.rZ 6),.i (lI (g.rZ 6)),.i 0])) fun A q=>(gd (bE (q.rZ 6)) (some (kp q 0 [.l,.l,.l,.l,.l] [.i (q.nN 5),.l (q.rZ 6)])))))
def anZ:aI:=⟨92,oB,jx,qV,[.s (.list lG)],jx,uI,[],Ir⟩
def t142:ar:=t141.df anZ
def Xa:aw P t142:=tW Iq func92 anY

def Dd(d:LG):bk:=
 let g:=(d.rZ 1).gR (d.iV 3); (bif (ba (d.iV 3) (d.iV 2)) then (gd (nL (d.iV 3) (lI (d.rZ 1))) (az (mN [.l [[.s (g.sV 0)],[.s (g.sV 1)]]]) fun q=>(gd (bW ((d.sV 0).size+(q.sV 0).size) 9223372036854775807) (gd (aM ((d.iV 3)+1)) (nQ [.s ((d.sV 0)++(q.sV 0)),.l (d.rZ 1),.i (d.iV 2),.i ((d.iV 3)+1)]))))) else eQ [.s (d.sV 0)])
def an0:bF:=⟨3,[],⟨22,[(3,bY),(6,.s (.list [.str,.str])),(7,aD),(8,aD)],[]⟩,[],[⟨.exit 0,⟨22,[(3,bY)],[]⟩,[]⟩],Dd⟩
def an1:LT:=bz.add 0 an0
def an2:aQ P 0 an1 (bf f94):=lA Xa (bN _ _ _)
def De(d:LG):Option LG:=
 (bp true (bR Dd [.s (⟨#[]⟩:BY),.l (d.rZ 0),.i (lI (d.rZ 0)),.i 0]) fun q g=>some [.s (g.sV 0)])
def an3:aI:=⟨94,CF,[],[],[bY],[],[],[],De⟩
def t143:ar:=t142.bx an3
def Nu:aw P t143:=tP Xa func94 an2

end
end Go.Proofs.h_
