/-
 What is proved here: functions of the program as functions on data. No condition.
-/
import Derived.Test.YtkkkhbhbjlikhaaGreatDoorML1
set_option linter.all false
set_option backward.dsimp.instances true
open Int renaming tmod->Em,tdiv->Jt
open Nat renaming beq->aA
namespace Go.Proofs.h_
open Go Go.AL Go.Proofs Tryz
noncomputable section
def zm(d:LG):bk:=
 let A:=(lI (d.rZ 0)); let B:=decide ((0+(d.iV 1).toNat)<(d.rZ 0).length); let z5:=nL (d.iV 2) A; let F:=nL (d.iV 1) A; let g:=0+(d.iV 2).toNat; let q:=(d.rZ 0).set (0+(d.iV 1).toNat) (iW [.I] ((d.rZ 0).getD (0+(d.iV 1).toNat) []) 0 [.i (gi ((d.rZ 0).getD g []) 0).iV]); let J:=q.set g (iW [.I] (q.getD g []) 0 [.i (gi ((d.rZ 0).getD (0+(d.iV 1).toNat) []) 0).iV]); (bif (ba (d.iV 1) (d.iV 2)) then (gd z5 (gd (decide (g<(d.rZ 0).length)) (gd F (gd B (gd F (gd B (gd z5 (gd (decide (g<q.length)) (gd (aM ((d.iV 1)+1)) (gd (aM ((d.iV 2)-1)) (gd ((aA (d.rZ 0).length J.length)&&true) (nQ [.l J,.i ((d.iV 1)+1),.i ((d.iV 2)-1)])))))))))))) else eQ [.l (d.rZ 0)])
abbrev j5:List cq:=[.vQ [.str] 0]
abbrev ia:List cq:=[.vQ aY 0]
abbrev mM:List cq:=[.vQ [.I] 0]
abbrev wU:List cq:=[.box [.vQ 1 15,.vQ 2 8,.vQ 3 1,.vQ 4 1,.map 5],.vQ aY 0,.vQ dt 0,.vQ [.str] 0,.vQ [.I] 0,.map (.agg [.str,.I]) (.one (.bool)),.map (.agg dt) (.agg aY)]
abbrev wV:List cq:=[.box [.list aY,.list dt,.list [.str],.list [.I],.map 1],.map (.agg [.str,.I]) (.one (.bool)),.map (.one (.str)) (.one (.bool))]
abbrev zn:List cq:=[.box [.vQ 1 15,.list dt,.list [.str],.list [.I],.map 2],.vQ aY 0,.map (.agg [.str,.I]) (.one (.bool)),.map (.one .I) (.one .I)]
abbrev CH:List cq:=[.map (.one .I) (.one (.bool))]
abbrev CI:List cq:=[.vQ [.str,.str] 0]
abbrev GY:List cq:=[.box [.list [.I],.I],.vQ aY 0,.map (.one (.str)) (.one .I),.box [.str,.I,.I,.I,.I,.I,.str,.str,.I,.I,.str,.str,.str,.str,.I]]
abbrev jx:List cq:=[.box [.list aY,.list dt,.list [.str],.list [.I],.map 1],.map (.agg [.str,.I]) (.one (.bool))]
abbrev GZ:List cq:=[.vQ aY 0,.vQ lG 0,.box [.str,.str,.I]]
abbrev G0:List cq:=[.box [.list aY,.list dt,.list [.str],.list [.I],.map 1],.map (.agg [.str,.I]) (.one (.bool)),.vQ lG 0,.box [.str,.str,.I]]
abbrev Mz:List cq:=[.box [.list [.I],.I],.vQ aY 0,.map (.one (.str)) (.one .I)]
abbrev MA:List cq:=[.box [.vQ 1 15,.vQ 2 8,.vQ 3 1,.vQ 4 1,.map 5],.vQ aY 0,.vQ dt 0,.vQ [.str] 0,.vQ [.I] 0,.map (.agg [.str,.I]) (.one (.bool)),.map (.agg dt) (.agg aY),.box [.str,.I,.I,.I,.I,.I,.str,.str,.I,.I,.str,.str,.str,.str,.I]]
abbrev CJ:List cq:=[.box [.list aY,.list dt,.list [.str],.list [.I],.map 1],.map (.agg [.str,.I]) (.one (.bool)),.map (.one .I) (.one .I)]
abbrev MB:List cq:=[.box [.vQ 1 15],.vQ aY 0,.box [.yF 202 [0,2]]]
abbrev MC:List cq:=[.box [.list aY,.list dt,.list [.str],.list [.I],.map 1],.map (.agg [.str,.I]) (.one (.bool)),.map (.one .I) (.one .I),.map (.one .I) (.one .I),.vQ [.str,.str] 0]
abbrev MD:List cq:=[.box [.list aY,.list dt,.list [.str],.list [.I],.map 1],.map (.agg [.str,.I]) (.one (.bool)),.map (.one .I) (.one .I),.map (.one .I) (.one .I),.map (.one .I) (.one .I)]
abbrev ME:List cq:=[.bI 1 (.one .I) [.str],.map (.one .I) (.one (.bool)),.map (.one .I) (.one (.bool))]
abbrev MF:List cq:=[.box [.list aY],.box [.str],.box [.I],.box [.str]]
abbrev U7:List cq:=[.box [.list aY,.list dt,.list [.str],.list [.I],.map 1],.map (.agg [.str,.I]) (.one (.bool)),.vQ lG 0]
abbrev U8:List cq:=[.bI 1 (.one .I) [.str],.map (.one .I) (.one (.bool)),.map (.one .I) (.one (.bool)),.map (.one .I) (.one (.bool))]
abbrev zo:List (Nat × Sh):=[(2,aD)]
abbrev zp:List (Nat × Sh):=[(4,aD)]
abbrev CK:List (Nat × Sh):=[(0,.s (.list aY)),(6,.s (.ptr 0 0)),(7,.s (.map 6)),(21,gV),(22,aD),(23,aD)]
abbrev MG:List (Nat × Sh):=[(0,.s (.ptr 0 0)),(5,.s (.vQ 1 15)),(6,aD),(7,.s (.map 2)),(8,.s (.ptr 3 0)),(10,aD),(11,aD)]
abbrev MH:List (Nat × Sh):=[(0,.s (.ptr 0 0)),(5,.s (.vQ 1 15)),(6,aD),(7,.s (.map 2)),(10,aD),(11,aD)]
abbrev U9:List (Nat × Sh):=[(0,.s (.vQ 0 15)),(1,aD),(2,aD),(3,.s (.fn 18)),(8,aD)]
abbrev U_:List (Nat × Sh):=[(0,.s (.vQ 0 15)),(1,aD),(2,.s (.fn 18)),(6,aD),(7,aD),(8,aD)]
abbrev U':List (Nat × Sh):=[(0,.s (.vQ 0 15)),(1,aD),(2,.s (.fn 18)),(6,aD),(7,aD)]
abbrev Va:List (Nat × Sh):=[(0,.s (.list aY)),(6,.s (.ptr 0 0)),(7,.s (.map 6)),(9,aD),(10,.s (.ptr 7 0)),(21,gV),(22,aD),(23,aD)]
abbrev Vb:List (Nat × Sh):=[(0,.s (.list aY)),(5,.s (.vQ 0 15)),(10,gV),(11,aD),(12,aD)]
abbrev Vc:List (Nat × Sh):=[(0,.s (.ptr 0 0)),(1,aD),(5,.s (.map 2)),(14,wN)]
abbrev Vd:List (Nat × Sh):=[(0,.s (.ptr 0 0)),(4,.s (.map 3)),(5,.s (.map 4)),(17,wN)]
abbrev Ve:List (Nat × Sh):=[(5,.s (.map 0)),(6,.s (.map 1)),(7,.s (.list aY)),(9,.s (.map 2)),(34,.s (.list [.str,.I])),(35,aD),(36,aD)]
abbrev Vg:List (Nat × Sh):=[(5,.s (.map 0)),(6,.s (.map 1)),(9,.s (.map 2)),(12,.s (.map 3)),(69,.s (.list aY)),(70,aD),(71,aD)]
def ahl:bF:=⟨1,[],⟨28,[(0,.s (.vQ 0 1)),(2,aD),(3,aD)],mM⟩,ep,[⟨.exit 0,⟨28,[],mM⟩,ep⟩],zm⟩
def ahm:LT:=bz.add 1 ahl
def ahn:aQ P 1 ahm (bf f185):=lA U6 (bN _ _ _)
def G1(d:LG):Option LG:=
 let g:=((lI (d.rZ 0))-1); (gd (aM g) (bp (bE (d.rZ 0)) (bR zm [.l (d.rZ 0),.i 0,.i g]) fun A q=>some [.l (q.rZ 0)]))
def aho:aI:=⟨185,GK,mM,gH,[],mM,ep,[],G1⟩
def t8:ar:=t7.df aho
def MI:aw P t8:=tW U6 func185 ahn

def G2(r d:LG):Option LG:=
 let g:=(gi (da [.I] (d.rZ 6) [.i (gi (r.rV 0) 1).iV] [.i 0]) 0).iV+1; (gd (aM g) (gd (((bE (d.rZ 3))&&true)&&true) (some (kp d 0 [.l,.l,.l,.l,.l] [.i (d.nN 5),.l (cH [.I] (d.rZ 6) [.i (gi (r.rV 0) 1).iV] [.i g] (d.iV 7).toNat),.i (((dI [.I] (d.rZ 6) [.i (gi (r.rV 0) 1).iV] (d.iV 7).toNat):Nat):Int),.i (d.nN 8)]))))
def Vh(d:LG)(b:Nat):LG:=(kp d 0 [.l,.l,.l,.l,.l] [.i (d.nN 5),.l (d.rZ 6),.i (d.nN 7),.i (b:Int)])
def ahp(d:LG)(b:Nat):Bool:=(((bE (d.rZ 3))&&true)&&true)
def pT:gp:=⟨⟨21,[(3,.s (.map 3)),(10,wN)],zn⟩,[.fix 0,.cell 0 0,.cell 0 4,.aU 3],[],(.agg [.str,.I]),(.one (.bool)),2,0,9,10,11,12,13,fun d=>(gi d 8).iV.toNat,Vh,ahp,G2⟩
def ahq:kW P t8 bz 3 pT (om (bS f102 2)) (qM (bS f102 2)):=fun r d=>by kernel_rfl
def zq(d:LG):bk:=
 (gd (((bE (d.rZ 3))&&true)&&true) (some (some 0,kp d 0 [.l,.l,.l,.l,.l] [.i (d.nN 5),.l (d.rZ 6),.i (d.nN 7)])))
def ahr:bF:=⟨6,[],⟨21,[(3,.s (.map 3)),(10,wN)],zn⟩,[],[⟨.ret,⟨21,[(2,.s (.map 3))],zn⟩,TY⟩],zq⟩
def Vi(d:LG):bk:=
 kX pT zq (d.rZ 4) ((d.iV 5).toNat) d
def MJ:bF:=⟨2,[],⟨21,[(0,.s (.ptr 0 0)),(3,.s (.map 3))],zn⟩,[.fix 0,.cell 0 0,.cell 0 4,.aU 3],[⟨.ret,⟨21,[(2,.s (.map 3))],zn⟩,TY⟩],Vi⟩
def ahs:LT:=bz.gF 3 MJ
def aht:∀r d g,G2 r d=some g->(gi g 4).rZ=(gi d 4).rZ/\(gi g 5).iV.toNat=(gi d 5).iV.toNat:=by
 intro r d g h;unfold G2 at h;simp only[Bool.cond_eq_ite]at h
 repeat' split at h
 all_goals first|(cases h; done)|(cases h; exact⟨rfl,rfl⟩)
def ahu:aQ P 3 ahs (bf f102):=aQ.L1 (q:=MJ) (qr:=ahr) (sp:=pT) (r0:=2) (b0:=0) (r1:=3) (b1:=1) (r2:=4) (rZ:=fun d=>(gi d 4).rZ) (aL:=fun d=>(gi d 5).iV.toNat) (pre:=fun d=>Cb P t8 (mH (bS f102 2)) (aX MJ.inv d)) (ri:=fun d=>(gi d 4).rZ) (ci:=fun d=>(gi d 5).iV.toNat) hm MI (fun d=>by kernel_rfl) aht aj aj (bN _ _ _) aj aj ahq (fun d=>by kernel_rfl) (fun d=>by kernel_rfl) (fun d=>by kernel_rfl) (fun d=>by kernel_rfl) (fun d=>by kernel_rfl) (fun d=>by kernel_rfl) (fun d b=>by kernel_rfl) (fun d b=>rfl) (fun d b=>⟨rfl,rfl⟩) rfl rfl (fun d=>by kernel_rfl) (fun d=>rfl)
def Vj(d:LG):Option LG:=
 (bp (((bE (d.rZ 3))&&true)&&true) (fa (Vi (kp d 0 [.l,.l,.l,.l,.l] [.i (d.nN 5),.l [],.i 0]))) fun q g=>(gd (((bE (g.rZ 3))&&true)&&true) (some (kp g 0 [.l,.l,.l,.l,.l] [.i (g.nN 5),.l (g.rZ 6),.i (g.nN 7)]))))
def MK:aI:=⟨102,oB,[.box [.vQ 1 15,.list dt,.list [.str],.list [.I],.map 2],.vQ aY 0,.map (.agg [.str,.I]) (.one (.bool))],[.aU 0,.cell 0 0,.cell 0 4],[.s (.map 3)],zn,[.fix 0,.fix 1,.fix 2,.aU 0],[],Vj⟩
def Vk:ff P MK:=zf hm MI func102 ahu (fun d=>by kernel_rfl)
def t9:ar:=t8.df MK
def Vl:aw P t9:=MI.aW Vk

def ahv:uv P ⟨244,26,42,15,15,true⟩:=SB func244 aj rfl rfl rfl ⟨⟨_,_,_,_,_,_,rfl,⟨rfl,rfl,rfl⟩,⟨rfl,rfl,rfl⟩,⟨rfl,rfl,rfl⟩,⟨rfl,rfl,rfl⟩⟩,⟨_,_,_,_,rfl,⟨rfl,rfl,rfl⟩,⟨rfl,rfl,rfl⟩⟩,⟨_,_,_,_,_,rfl,⟨rfl,rfl,rfl⟩,⟨rfl,rfl,rfl⟩,⟨rfl,rfl,rfl⟩⟩,⟨_,_,_,_,_,_,_,_,_,_,rfl,⟨rfl,rfl,rfl⟩,⟨rfl,rfl,rfl⟩,⟨rfl,rfl,rfl⟩,⟨rfl,rfl,rfl⟩,⟨rfl,rfl,rfl⟩,⟨rfl,rfl,rfl⟩,⟨rfl,rfl,rfl⟩,⟨rfl,rfl,rfl⟩⟩⟩ aj
def ahw(d:LG):bk:=
 L2 pT zq (d.rZ 4) ((d.iV 5).toNat) d
def ahx(d x:LG)(b:Nat):(dc pT.st pT.bJ [x] (pT.init d b)).bind zq=(dc pT.st pT.bJ [x] (pT.init d 0)).bind zq:=by
 simp only[ad2,pT];unfold G2 Vh zq;dsimp only[List.iV,List.rZ,List.nN,List.sV,List.rV,kp,bE,gd,SF,SG];simp only[ad3,Option.bind_some,Option.bind_none];dsimp only[List.iV,List.rZ,List.nN,List.sV,List.rV,kp,bE,gd,SF,SG];simp only[adZ,Int.toNat_natCast,ad0,cT]
def Vm(d:LG):Option LG:=
 (bp (((bE (d.rZ 3))&&true)&&true) (fa (ahw (kp d 0 [.l,.l,.l,.l,.l] [.i (d.nN 5),.l [],.i 0]))) fun q g=>(gd (((bE (g.rZ 3))&&true)&&true) (some (kp g 0 [.l,.l,.l,.l,.l] [.i (g.nN 5),.l (g.rZ 6),.i (g.nN 7)]))))
def ahy{d r:LG}(h:Vm d=some r):Vj d=some r:=
 ad4 (fun v g=>ad1 (fun b=>rfl) (ahx _) g) h
def ahz:aI:={ MK with F:=Vm }
def Vn:ar:=t9.df ahz
def ahA:aw P Vn:=Vl.aW fun d r h=>Vk d r (ahy h)
def Vo:ar:=Vn.inline P 78 f78 []
def ahB:aw P Vo:=ahA.inline hm func78 aj []
def Vp:ar:=Vo.inline P 79 f79 []
def ahC:aw P Vp:=ahB.inline hm func79 aj []
def Vq:ar:=Vp.inline P 77 f77 []
def ahD:aw P Vq:=ahC.inline hm func77 aj []
def Vr:ar:=Vq.inline P 80 f80 []
def ahE:aw P Vr:=ahD.inline hm func80 aj []
def Vs:ar:=Vr.inline P 81 f81 []
def ahF:aw P Vs:=ahE.inline hm func81 aj []
def Vt:ar:=Vs.inline P 42 f42 []
def ahG:aw P Vt:=ahF.inline hm func42 aj []
def Vu:ar:=Vt.inline P 19 f19 []
def ahH:aw P Vu:=ahG.inline hm func19 aj []
def Vv:ar:=Vu.inline P 100 f100 []
def ahI:aw P Vv:=ahH.inline hm func100 aj []
def Vw:ar:=Vv.fx P 184 f184
def ahJ:aw P Vw:=ahI.fx hm func184 aj aj
def Vx:ar:=Vw.F4 P ⟨244,26,42,15,15,true⟩ 3 132 f132 [some [.I]]
def ahK:aw P Vx:=ahJ.F4 hm ahv func132 aj aj [some [.I]]
def Vy:ar:=Vx.inline P 217 f217 []
def ahL:aw P Vy:=ahK.inline hm func217 aj []
def Vz:ar:=Vy.inline P 159 f159 []
def ahM:aw P Vz:=ahL.inline hm func159 aj []
def VA:ar:=Vz.fx P 245 f245
def ahN:aw P VA:=ahM.fx hm func245 aj aj
def VB:ar:=VA.fx P 186 f186
def ahO:aw P VB:=ahN.fx hm func186 aj aj
def VC:ar:=VB.fx P 134 f134
def ahP:aw P VC:=ahO.fx hm func134 aj aj
def VD:ar:=VC.inline P 133 f133 []
def ahQ:aw P VD:=ahP.inline hm func133 aj []
def VE:ar:=VD.fx P 90 f90
def ahR:aw P VE:=ahQ.fx hm func90 aj aj
def VF:ar:=VE.fx P 54 f54
def ahS:aw P VF:=ahR.fx hm func54 aj aj
def VG:ar:=VF.fx P 101 f101
def ahT:aw P VG:=ahS.fx hm func101 aj aj
def VH:ar:=VG.fx P 55 f55
def ahU:aw P VH:=ahT.fx hm func55 aj aj
def ahV:ar:=VH.inline P 28 f28 []
def ahW:aw P ahV:=ahU.inline hm func28 aj []
def ahX:eA P 9 [] (.lit (.bool true)):=fZ (L:=bz) hm ahW [] (fun _ _=>bN _ _ _) func9 rfl aj aj
def zt(_:LG):Option LG:=some [.t true]
def VI:aI:=⟨9,[],[],[],[dY],[],[],[],zt⟩
def ahY:ff P VI:=fun d r (h:zt d=some r)=>by
 cases (show some [G.t true]=some r from h);exact ahX []
def t10:ar:=t9.bx VI
def ahZ:aw P t10:=Vl.aP ahY


def zu(d:LG):Option LG:=
 let g:=Em (d.iV 0) (d.iV 1); (bif (ba (d.iV 1) 1) then some [.i 0] else (gd (!((d.iV 1)==0)) (bif (ba g 0) then (gd (aM (g+(d.iV 1))) (some [.i (g+(d.iV 1))])) else some [.i g])))
def ah0:aI:=⟨38,[aD,aD],[],[],[aD],[],[],[],zu⟩
def t11:ar:=t10.bx ah0
def ah1:aw P t11:=cU ahZ func38

def sC(d:LG):Option LG:=
 let q:=(lI (d.rZ 0)); let g:=(d.iV 1)+1; let A:=Em (g-1) q; let B:=(Jt (g-1) q)*(7919+A); (gd (aM g) (bif (q==0) then (gd (aM (g*7919)) (az (zu [.i (g*7919),.i (d.iV 2)]) fun I=>some [.l (d.rZ 0),.i g,.i (I.iV 0)])) else (gd (aM (g-1)) (gd (!(q==0)) (gd (aM (g-1)) (gd ((!(q==0))&&(aM (Jt (g-1) q))) (gd (nL A q) (az (zu [.i (gi ((d.rZ 0).gR A) 0).iV,.i 1073741824]) fun F=>(gd (aM (7919+A)) (gd (aM B) (gd (aM ((F.iV 0)+B)) (az (zu [.i ((F.iV 0)+B),.i (d.iV 2)]) fun J=>some [.l (d.rZ 0),.i g,.i (J.iV 0)]))))))))))))
def ah2:aI:=⟨15,zh,jL,gH,[aD],jL,ep,[],sC⟩
def t12:ar:=t11.df ah2
def ah3:aw P t12:=pS ah1 func15

def sD(d:LG):Option LG:=
 let g:=(d.iV 3)-(d.iV 2); (bif (ba (d.iV 3) (d.iV 2)) then some (kp d 0 [.l,.i,.i] []) else (gd (aM g) (gd (aM (g+1)) (az (sC [.l (d.rZ 0),.i (d.iV 1),.i (g+1)]) fun q=>let A:=(d.iV 2)+(q.iV 2); (gd (aM A) (some [.l (q.rZ 0),.i (q.iV 1),.i A]))))))
def ah4:aI:=⟨5,[.s (.ptr 0 0),aD,aD],jL,gH,[aD],jL,ep,[],sD⟩
def t13:ar:=t12.df ah4
def ah5:aw P t13:=pS ah3 func5

def qW(d:LG):Option LG:=
 let q:=(lI (d.rZ 2)); (az (sC [.l (d.rZ 0),.i (d.iV 1),.i q]) fun g=>(gd (nL (g.iV 2) q) (some [.l (g.rZ 0),.i (g.iV 1),.i (gi ((d.rZ 2).gR (g.iV 2)) 0).iV])))
def ah6:aI:=⟨11,[.s (.ptr 0 0),gV],jL,gH,[aD],jL,ep,[],qW⟩
def t14:ar:=t13.df ah6
def ah7:aw P t14:=pS ah5 func11

def jM(d:LG):Option LG:=
 let q:=(lI (d.rZ 2)); (az (sC [.l (d.rZ 0),.i (d.iV 1),.i q]) fun g=>(gd (nL (g.iV 2) q) (some [.l (g.rZ 0),.i (g.iV 1),.s (gi ((d.rZ 2).gR (g.iV 2)) 0).sV])))
def ah8:aI:=⟨12,[.s (.ptr 0 0),.s (.list [.str])],jL,gH,[bY],jL,ep,[],jM⟩
def t15:ar:=t14.df ah8
def ah9:aw P t15:=pS ah7 func12

def uJ(d:LG):Option LG:=
 (az (sC (kp d 0 [.l,.i,.i] [])) fun g=>some [.l (g.rZ 0),.i (g.iV 1),.t ((g.iV 2)==0)])
def ah_:aI:=⟨14,zh,jL,gH,[dY],jL,ep,[],uJ⟩
def t16:ar:=t15.df ah_
def ah':aw P t16:=pS ah9 func14

def G3(d:LG):Option LG:=
 (az (uJ [.l (d.rZ 0),.i (d.iV 1),.i 60]) fun g=>(bif (g.bV 2) then (az (jM [.l (g.rZ 0),.i (g.iV 1),.l [[.s (⟨#[]⟩:BY)],[.s (⟨#[107,49]⟩:BY)],[.s (⟨#[75,49,65,66]⟩:BY)],[.s (⟨#[107,49,97,98,47]⟩:BY)],[.s (⟨#[49,97]⟩:BY)],[.s (⟨#[107,49,97,98,47,109,109,47,112]⟩:BY)]]]) fun q=>some (kp q 0 [.l,.i,.s] [])) else (az (jM [.l (g.rZ 0),.i (g.iV 1),.l [[.s (⟨#[107,49,97,98]⟩:BY)],[.s (⟨#[107,49,97,97]⟩:BY)],[.s (⟨#[107,49,97,98,47,52]⟩:BY)],[.s (⟨#[111,104,50,97,98,99]⟩:BY)],[.s (⟨#[111,104,50,97,98,100]⟩:BY)],[.s (⟨#[119,49,97,119]⟩:BY)],[.s (⟨#[110,49,109,109]⟩:BY)],[.s (⟨#[103,51,120,121,122,47,112]⟩:BY)]]]) fun A=>some (kp A 0 [.l,.i,.s] []))))
def aia:aI:=⟨37,oB,jL,gH,[bY],jL,ep,[],G3⟩
def t17:ar:=t16.df aia
def aib:aw P t17:=pS ah' func37

def pU(d:LG):Option LG:=
 (az (uJ [.l (d.rZ 0),.i (d.iV 1),.i 12]) fun g=>(bif (g.bV 2) then (gd (aM ((d.iV 2)-1)) (gd (aM ((d.iV 3)+1)) (az (qW [.l (g.rZ 0),.i (g.iV 1),.l [[.i ((d.iV 2)-1)],[.i ((d.iV 3)+1)],[.i (d.iV 2)],[.i (d.iV 3)],[.i (-1099511627776)],[.i 1099511627776]]]) fun q=>some (kp q 0 [.l,.i,.i] [])))) else (az (sD [.l (g.rZ 0),.i (g.iV 1),.i (d.iV 2),.i (d.iV 3)]) fun A=>some (kp A 0 [.l,.i,.i] []))))
def aic:aI:=⟨16,[.s (.ptr 0 0),aD,aD],jL,gH,[aD],jL,ep,[],pU⟩
def t18:ar:=t17.df aic
def aid:aw P t18:=pS aib func16

def G4(d:LG):Option LG:=
 let A:=(⟨#[]⟩:BY); let z2:=(⟨#[98,50,48]⟩:BY); let z3:=(⟨#[117,115,97]⟩:BY); (az (qW [.l (d.rZ 0),.i (d.iV 1),.l [[.i 1],[.i 1],[.i 2],[.i 3]]]) fun B=>(az (jM [.l (B.rZ 0),.i (B.iV 1),.l [[.s z2],[.s z2],[.s (⟨#[98,52,48]⟩:BY)]]]) fun F=>(az (G3 [.l (F.rZ 0),.i (F.iV 1)]) fun q=>(az (qW [.l (q.rZ 0),.i (q.iV 1),.l [[.i 0],[.i 1],[.i 2],[.i 3],[.i 4],[.i 5],[.i 6],[.i 7]]]) fun I=>(az (qW [.l (I.rZ 0),.i (I.iV 1),.l [[.i 0],[.i 1],[.i 2],[.i 9]]]) fun J=>(az (jM [.l (J.rZ 0),.i (J.iV 1),.l [[.s A],[.s A],[.s (⟨#[102,105,110]⟩:BY)]]]) fun M=>(az (jM [.l (M.rZ 0),.i (M.iV 1),.l [[.s A],[.s A],[.s z3]]]) fun N=>(az (uJ [.l (N.rZ 0),.i (N.iV 1),.i 100]) fun O=>(bif (O.bV 2) then (az (sC [.l (O.rZ 0),.i (O.iV 1),.i 4]) fun g=>(bif ((g.iV 2)==0) then (az (pU [.l (g.rZ 0),.i (g.iV 1),.i 0,.i 500]) fun U=>(az (pU [.l (U.rZ 0),.i (U.iV 1),.i 1,.i 3]) fun W=>some [.l (W.rZ 0),.i (W.iV 1),.l [[.i (U.iV 2),.i (W.iV 2),.s (F.sV 2),.s (q.sV 2),.i (I.iV 2),.i (J.iV 2),.s (M.sV 2),.s (N.sV 2)]]])) else (bif ((g.iV 2)==1) then (az (jM [.l (g.rZ 0),.i (g.iV 1),.l [[.s A],[.s (⟨#[66]⟩:BY)],[.s z2]]]) fun Y=>some [.l (Y.rZ 0),.i (Y.iV 1),.l [[.i (d.iV 2),.i (B.iV 2),.s (Y.sV 2),.s (q.sV 2),.i (I.iV 2),.i (J.iV 2),.s (M.sV 2),.s (N.sV 2)]]]) else (bif ((g.iV 2)==2) then (az (pU [.l (g.rZ 0),.i (g.iV 1),.i 0,.i 99999]) fun g13=>(az (pU [.l (g13.rZ 0),.i (g13.iV 1),.i 0,.i 99999]) fun g14=>some [.l (g14.rZ 0),.i (g14.iV 1),.l [[.i (d.iV 2),.i (B.iV 2),.s (F.sV 2),.s (q.sV 2),.i (g13.iV 2),.i (g14.iV 2),.s (M.sV 2),.s (N.sV 2)]]])) else (az (jM [.l (g.rZ 0),.i (g.iV 1),.l [[.s A],[.s (⟨#[65]⟩:BY)]]]) fun g15=>(az (jM [.l (g15.rZ 0),.i (g15.iV 1),.l [[.s (⟨#[49]⟩:BY)],[.s z3]]]) fun g16=>some [.l (g16.rZ 0),.i (g16.iV 1),.l [[.i (d.iV 2),.i (B.iV 2),.s (F.sV 2),.s (q.sV 2),.i (I.iV 2),.i (J.iV 2),.s (g15.sV 2),.s (g16.sV 2)]]])))))) else some [.l (O.rZ 0),.i (O.iV 1),.l [[.i (d.iV 2),.i (B.iV 2),.s (F.sV 2),.s (q.sV 2),.i (I.iV 2),.i (J.iV 2),.s (M.sV 2),.s (N.sV 2)]]])))))))))
def aie:aI:=⟨13,zh,jL,gH,wO,jL,ep,[],G4⟩
def t19:ar:=t18.df aie
def aif:aw P t19:=pS aid func13

def qX(d:LG):Option LG:=
 (bif (ba (d.iV 0) 0) then some [.i (-1)] else (bif (ba 0 (d.iV 0)) then some [.i 1] else some [.i 0]))
def aih:aI:=⟨40,[aD],[],[],[aD],[],[],[],qX⟩
def t20:ar:=t19.bx aih
def aii:aw P t20:=cU aif func40

def zw(d:LG):Option LG:=
 let g:=(gi (d.rV 0) 2).iV-(gi (d.rV 1) 2).iV; let q:=(gi (d.rV 0) 1).iV-(gi (d.rV 1) 1).iV; (bif ((gi (d.rV 0) 2).iV != (gi (d.rV 1) 2).iV) then (gd (aM g) (az (qX [.i g]) fun A=>some [.i (A.iV 0)])) else (bif (!((gi (d.rV 0) 0).sV.toList==(gi (d.rV 1) 0).sV.toList)) then (az (kF [.s (gi (d.rV 0) 0).sV,.s (gi (d.rV 1) 0).sV]) fun B=>some [.i (B.iV 0)]) else (gd (aM q) (az (qX [.i q]) fun F=>some [.i (F.iV 0)]))))
def aij:aI:=⟨18,GL,[],[],[aD],[],[],[],zw⟩
def t21:ar:=t20.bx aij
def ML:aw P t21:=cU aii func18

def VJ(d:LG):bk:=
 let g:=(d.iV 4)-1; let q:=(d.rZ 0).set (0+(d.iV 4).toNat) (iW aY ((d.rZ 0).getD (0+(d.iV 4).toNat) []) 0 (bu aY ((d.rZ 0).getD (0+g.toNat) []))); let F:=(lI (d.rZ 0)); let I:=q.set (0+g.toNat) (iW aY (q.getD (0+g.toNat) []) 0 (bu aY ((d.rZ 0).getD (0+(d.iV 4).toNat) []))); let z5:=decide ((0+(d.iV 4).toNat)<(d.rZ 0).length); let A:=nL (d.iV 4) F; let J:=bE (d.rZ 0); let M:=decide ((0+g.toNat)<(d.rZ 0).length); let B:=nL g F; (bif (ba (d.iV 1) (d.iV 4)) then (gd A (gd z5 (gd (aM g) (gd B (gd M (az (zw [.l [(bu aY ((d.rZ 0).getD (0+(d.iV 4).toNat) []))],.l [(bu aY ((d.rZ 0).getD (0+g.toNat) []))]]) fun N=>(bif (ba (N.iV 0) 0) then (gd (aM g) (gd (aM g) (gd B (gd M (gd A (gd z5 (gd A (gd z5 (gd B (gd (decide ((0+g.toNat)<q.length)) (gd (aM g) (gd ((aA (d.rZ 0).length I.length)&&true) (some (none,.l I::kp d 1 [.i,.i,.i] [.i g])))))))))))))) else (gd J (some (some 0,kp d 0 [.l,.i,.i,.i] [])))))))))) else (gd J (some (some 0,kp d 0 [.l,.i,.i,.i] []))))
def aik:bF:=⟨4,[],⟨53,[(0,.s (.vQ 0 15)),(1,aD),(2,aD),(3,.s (.fn 18)),(8,aD),(9,aD)],ia⟩,ep,[⟨.exit 2,⟨53,U9,ia⟩,ep⟩],VJ⟩
def VK:LT:=bz.add 1 aik
def ail:aQ P 1 VK (bf f74):=lA ML (bN _ _ _)
def VL(d:LG):bk:=
 (bif (ba (d.iV 3) (d.iV 2)) then (bp (bE (d.rZ 0)) (bR VJ (kp d 0 [.l,.i,.i,.i] [.i (d.iV 3)])) fun q g=>(gd (aM ((g.iV 3)+1)) (gd (bE (g.rZ 0)) (some (none,kp g 0 [.l,.i,.i] [.i ((g.iV 3)+1)]))))) else eQ [.l (d.rZ 0)])
def aim:bF:=⟨1,[],⟨53,U9,ia⟩,ep,[⟨.exit 0,⟨53,[],ia⟩,ep⟩],VL⟩
def ain:LT:=VK.add 1 aim
def aio:aQ P 1 ain (bf f74):=lA ML ail
def MM(d:LG):Option LG:=
 (gd (aM ((d.iV 1)+1)) (bp (bE (d.rZ 0)) (bR VL (kp d 0 [.l,.i,.i] [.i ((d.iV 1)+1)])) fun q g=>some [.l (g.rZ 0)]))
def aip:aI:=⟨74,[.s (.vQ 0 15),aD,aD,.s (.fn 18)],ia,gH,[],ia,ep,[],MM⟩
def t22:ar:=t21.df aip
def G5:aw P t22:=tW ML func74 aio

def VM(d:LG):bk:=
 let g:=MM [.l (d.rZ 0),.i (d.iV 3),.i (d.iV 4)]; let q:=bE (d.rZ 0); let A:=(d.iV 4)+(d.iV 2); (bif (cw (d.iV 4) (d.iV 1)) then (gx (q&&g.isSome) g fun B=>(gd (aM A) (gd ((aA (d.rZ 0).length (B.rZ 0).length)&&true) (nQ [.l (B.rZ 0),.i (d.iV 1),.i (d.iV 2),.i (d.iV 4),.i A])))) else (gd q (some (some 0,kp d 0 [.l,.i,.i,.i] []))))
def aiq:bF:=⟨2,[],⟨63,U_,ia⟩,ep,[⟨.exit 0,⟨63,U',ia⟩,ep⟩],VM⟩
def VN:LT:=bz.add 1 aiq
def air:aQ P 1 VN (bf f39):=lA G5 (bN _ _ _)
def VO(d:LG):bk:=
 (bif (cw (d.iV 4) (d.iV 1)) then (gd (aM ((d.iV 3)+(d.iV 2))) none) else (gd (bE (d.rZ 0)) (some (some 0,kp d 0 [.l,.i,.i,.i] []))))
def ais:bF:=⟨9,[],⟨63,U_,ia⟩,ep,[⟨.exit 4,⟨63,U',ia⟩,ep⟩],VO⟩
def VP:LT:=VN.add 1 ais
def ait:aQ P 1 VP (bf f39):=lA G5 air
def VQ(d:LG):bk:=
 (bif (ba (d.iV 2) (d.iV 1)) then (gd (aM (2*(d.iV 2))) (bp (bE (d.rZ 0)) (bR VO (kp d 0 [.l,.i,.i] [.i 0,.i (2*(d.iV 2))])) fun A g=>let q:=(g.iV 3)+(g.iV 2); (gd (aM q) (bif (ba q (g.iV 1)) then none else (gd (aM ((g.iV 2)*2)) (gd (bE (g.rZ 0)) (nQ [.l (g.rZ 0),.i (g.iV 1),.i ((g.iV 2)*2)]))))))) else eQ [.l (d.rZ 0)])
def aiu:bF:=⟨7,[],⟨63,[(0,.s (.vQ 0 15)),(1,aD),(2,.s (.fn 18)),(6,aD)],ia⟩,ep,[⟨.exit 2,⟨63,[],ia⟩,ep⟩],VQ⟩
def aiv:LT:=VP.add 1 aiu
def aiw:aQ P 1 aiv (bf f39):=lA G5 ait
def VR(d:LG):Option LG:=
 (bp (bE (d.rZ 0)) (bR VM [.l (d.rZ 0),.i (d.iV 1),.i 20,.i 0,.i 20]) fun F g=>let q:=MM [.l (g.rZ 0),.i (g.iV 3),.i (g.iV 1)]; (gx ((bE (g.rZ 0))&&q.isSome) q fun A=>(bp ((aA (g.rZ 0).length (A.rZ 0).length)&&true) (bR VQ [.l (A.rZ 0),.i (g.iV 1),.i (g.iV 2)]) fun I B=>some [.l (B.rZ 0)])))
def aix:aI:=⟨39,[.s (.vQ 0 15),aD,.s (.fn 18)],ia,gH,[],ia,ep,[],VR⟩
def t23:ar:=t22.df aix
def aiy:aw P t23:=tW G5 func39 aiw

def MN(d:LG):Option LG:=
 let g:=(VR [.l (d.rZ 0),.i (lI (d.rZ 0))]); (gx ((bE (d.rZ 0))&&g.isSome) g fun q=>some [.l (q.rZ 0)])
def aiz:aI:=⟨17,[.s (.vQ 0 15),.s (.fn 18)],ia,gH,[],ia,ep,[],MN⟩
def t24:ar:=t23.df aiz
def CL:aw P t24:=pS aiy func17

def sE(d:LG):bk:=
 let g:=((d.rZ 2)++([(kp d 5 [.s,.i,.i,.i,.i,.i,.s,.s,.i,.i,.s,.s,.s,.s,.i] [])]:LL)); (gd ((aA (d.rZ 2).length (d.rZ 2).length)&&(decide (((d.rZ 2).length+1)<=1048576))) (gd (bE g) (some (some 0,.l (d.rZ 0)::.i (d.iV 1)::.l g::.l (d.rZ 3)::.i (d.nN 4)::kp d 20 [.i,.i,.i] []))))
def aiA:bF:=⟨28,[],⟨115,MG,GY⟩,GM,[⟨.normal,⟨115,MH,Mz⟩,Mu⟩],sE⟩
def VS:LT:=bz.gF 1 aiA
def aiB:aQ P 1 VS (bf f4):=lC CL (bN _ _ _)
def uK(d:LG):bk:=
 let q:=bE (d.rZ 2); let A:=(d.nN 4); let z3:=(⟨#[]⟩:BY); let z4:=(⟨#[115,97]⟩:BY); (az (uJ [.l (d.rZ 0),.i (d.iV 1),.i 100]) fun B=>(bif (B.bV 2) then (az (sC [.l (B.rZ 0),.i (B.iV 1),.i 4]) fun g=>(bif ((g.iV 2)==0) then (az (jM [.l (g.rZ 0),.i (g.iV 1),.l [[.s z3],[.s z4]]]) fun g8=>(az (pU [.l (g8.rZ 0),.i (g8.iV 1),.i 1,.i 9]) fun g9=>(bp q (fa (sE (.l (g9.rZ 0)::.i (g9.iV 1)::.l (d.rZ 2)::.l (d.rZ 3)::.i A::.s (g8.sV 2)::.i (g9.iV 2)::kp d 7 [.i,.i,.i,.i,.s,.s,.i,.i,.s,.s,.s,.s,.i,.i,.i,.i] []))) fun cg10 F=>(gd (bE (F.rZ 2)) (some (some 0,kp F 0 [.l,.i,.l,.l] (.i (F.nN 4)::kp F 5 [.i,.i,.i] []))))))) else (bif ((g.iV 2)==1) then (az (pU [.l (g.rZ 0),.i (g.iV 1),.i 1,.i 5]) fun O=>(bp q (fa (sE (.l (O.rZ 0)::.i (O.iV 1)::.l (d.rZ 2)::.l (d.rZ 3)::.i A::kp d 5 [.s,.i,.i] (.i (O.iV 2)::kp d 9 [.i,.i,.s,.s,.i,.i,.s,.s,.s,.s,.i,.i,.i,.i] [])))) fun cg12 I=>(gd (bE (I.rZ 2)) (some (some 0,kp I 0 [.l,.i,.l,.l] (.i (I.nN 4)::kp I 5 [.i,.i,.i] [])))))) else (bif ((g.iV 2)==2) then (az (jM [.l (g.rZ 0),.i (g.iV 1),.l [[.s z3],[.s (⟨#[98,50,48]⟩:BY)]]]) fun U=>(az (jM [.l (U.rZ 0),.i (U.iV 1),.l [[.s z3],[.s z4]]]) fun W=>(bp q (fa (sE (.l (W.rZ 0)::.i (W.iV 1)::.l (d.rZ 2)::.l (d.rZ 3)::.i A::kp d 5 [.s,.i,.i,.i,.i,.i,.s,.s,.i,.i,.s,.s] (.s (U.sV 2)::.s (W.sV 2)::kp d 19 [.i,.i,.i,.i] [])))) fun cg15 J=>(gd (bE (J.rZ 2)) (some (some 0,kp J 0 [.l,.i,.l,.l] (.i (J.nN 4)::kp J 5 [.i,.i,.i] []))))))) else (az (pU [.l (g.rZ 0),.i (g.iV 1),.i 1,.i 99999]) fun Y=>(az (pU [.l (Y.rZ 0),.i (Y.iV 1),.i 0,.i 5]) fun g17=>(bp q (fa (sE (.l (g17.rZ 0)::.i (g17.iV 1)::.l (d.rZ 2)::.l (d.rZ 3)::.i A::kp d 5 [.s,.i,.i,.i,.i,.i,.s,.s] (.i (Y.iV 2)::kp d 14 [.i,.s,.s,.s,.s] (.i (g17.iV 2)::kp d 20 [.i,.i,.i] []))))) fun cg18 M=>(gd (bE (M.rZ 2)) (some (some 0,kp M 0 [.l,.i,.l,.l] (.i (M.nN 4)::kp M 5 [.i,.i,.i] []))))))))))) else (bp q (fa (sE (.l (B.rZ 0)::.i (B.iV 1)::.l (d.rZ 2)::.l (d.rZ 3)::.i A::kp d 5 [.s,.i,.i,.i,.i,.i,.s,.s,.i,.i,.s,.s,.s,.s,.i,.i,.i,.i] []))) fun cg19 N=>(gd (bE (N.rZ 2)) (some (some 0,kp N 0 [.l,.i,.l,.l] (.i (N.nN 4)::kp N 5 [.i,.i,.i] [])))))))
def aiC:bF:=⟨19,[],⟨115,MG,GY⟩,GM,[⟨.normal,⟨115,MH,Mz⟩,Mu⟩],uK⟩
def VT:LT:=VS.gF 1 aiC
def aiD:aQ P 1 VT (bf f4):=lC CL aiB
def CM(d:LG):bk:=
 let F:=bE (d.rZ 2); let I:=(d.nN 4); let B:=(⟨#[115,97]⟩:BY); let J:=gi (da [.str] (d.rZ 3) [.s B] [.i 0]) 0; (bif (d.bV 23) then (az (sD [.l (d.rZ 0),.i (d.iV 1),.i 1,.i 7]) fun g=>(gd F (some (some 0,.l (g.rZ 0)::.i (g.iV 1)::.l (d.rZ 2)::.l (d.rZ 3)::.i I::kp d 5 [.s,.i,.i,.i,.i,.i,.s,.s] (.i (g.iV 2)::kp d 14 [.i,.s,.s,.s,.s,.i,.i,.i,.i] []))))) else (az (jM [.l (d.rZ 0),.i (d.iV 1),.l [[.s B],[.s B],[.s (⟨#[115,98]⟩:BY)]]]) fun q=>(az (sD [.l (q.rZ 0),.i (q.iV 1),.i 1,.i (if J.iV>1 then J.iV else 1)]) fun A=>(gd F (some (some 0,.l (A.rZ 0)::.i (A.iV 1)::.l (d.rZ 2)::.l (d.rZ 3)::.i I::kp d 5 [.s,.i,.i,.i,.i,.i,.s,.s,.i,.i,.s,.s,.s] (.s (q.sV 2)::.i (A.iV 2)::kp d 20 [.i,.i,.i] [])))))))
def aiE:bF:=⟨18,[],⟨115,[(0,.s (.ptr 0 0)),(5,.s (.vQ 1 15)),(6,aD),(7,.s (.map 2)),(8,.s (.ptr 3 0)),(10,aD),(11,aD),(65,dY)],GY⟩,GM,[⟨.normal,⟨115,MG,GY⟩,GM⟩],CM⟩
def VU:LT:=VT.gF 1 aiE
def aiF:aQ P 1 VU (bf f4):=lC CL aiD
def zx(d:LG):bk:=
 let g:=(⟨#[]⟩:BY); let O:=bE (d.rZ 2); let z3:=(⟨#[115,97]⟩:BY); (bif (ba (d.iV 7) (d.iV 6)) then (az (qW [.l (d.rZ 0),.i (d.iV 1),.l [[.i 0],[.i 1],[.i 5]]]) fun g1=>let A:=(d.iV 5)+(g1.iV 2); (gd (aM A) (az (jM [.l (g1.rZ 0),.i (g1.iV 1),.l [[.s z3],[.s z3],[.s (⟨#[115,98]⟩:BY)],[.s (⟨#[115,99]⟩:BY)]]]) fun B=>let z5:=cH [.str] (d.rZ 3) [.s (B.sV 2)] [.i ((gi (da [.str] (d.rZ 3) [.s (B.sV 2)] [.i 0]) 0).iV+1)] (d.iV 4).toNat; let Y:=(((dI [.str] (d.rZ 3) [.s (B.sV 2)] (d.iV 4).toNat):Nat):Int); let z7:=gi (da [.str] z5 [.s (B.sV 2)] [.i 0]) 0; (az (qW [.l (B.rZ 0),.i (B.iV 1),.l [[.i 1],[.i 1],[.i 1],[.i 1],[.i 2],[.i 3],[.i 3],[.i 4],[.i 5]]]) fun q=>(gd (aM ((gi (da [.str] (d.rZ 3) [.s (B.sV 2)] [.i 0]) 0).iV+1)) (bif ((q.iV 2)==1) then (gd (aM (A-3)) (az (sD [.l (q.rZ 0),.i (q.iV 1),.i (if (A-3)>0 then (A-3) else 0),.i A]) fun g4=>(az (G4 (kp g4 0 [.l,.i,.i] [])) fun F=>(bp O (fa (uK [.l (F.rZ 0),.i (F.iV 1),.l (d.rZ 2),.l z5,.i Y,.s (B.sV 2),.i z7.iV,.i A,.i (q.iV 2),.i (gi (F.rV 2) 0).iV,.i (gi (F.rV 2) 1).iV,.s (gi (F.rV 2) 2).sV,.s (gi (F.rV 2) 3).sV,.i (gi (F.rV 2) 4).iV,.i (gi (F.rV 2) 5).iV,.s (gi (F.rV 2) 6).sV,.s (gi (F.rV 2) 7).sV,.s g,.s g,.i 0,.i A,.i (d.iV 6),.i (d.iV 7)])) fun cg20 I=>(gd (aM ((I.iV 7)+1)) (gd (bE (I.rZ 2)) (some (none,kp I 0 [.l,.i,.l,.l] [.i (I.nN 4),.i (I.iV 5),.i (I.iV 6),.i ((I.iV 7)+1)])))))))) else (bif ((q.iV 2)==2) then (az (jM [.l (q.rZ 0),.i (q.iV 1),.l [[.s (⟨#[98,50,48]⟩:BY)],[.s (⟨#[98,52,48]⟩:BY)]]]) fun g21=>(bp O (fa (uK [.l (g21.rZ 0),.i (g21.iV 1),.l (d.rZ 2),.l z5,.i Y,.s (B.sV 2),.i z7.iV,.i A,.i (q.iV 2),.i 0,.i 0,.s g,.s g,.i 0,.i 0,.s g,.s g,.s (g21.sV 2),.s g,.i 0,.i A,.i (d.iV 6),.i (d.iV 7)])) fun cg22 J=>(gd (aM ((J.iV 7)+1)) (gd (bE (J.rZ 2)) (some (none,kp J 0 [.l,.i,.l,.l] [.i (J.nN 4),.i (J.iV 5),.i (J.iV 6),.i ((J.iV 7)+1)])))))) else (bif ((q.iV 2)==3) then (bp O (fa (CM [.l (q.rZ 0),.i (q.iV 1),.l (d.rZ 2),.l z5,.i Y,.s (B.sV 2),.i z7.iV,.i A,.i (q.iV 2),.i 0,.i 0,.s g,.s g,.i 0,.i 0,.s g,.s g,.s g,.s g,.i 0,.i A,.i (d.iV 6),.i (d.iV 7),.t ((q.iV 2)==3)])) fun cg26 U=>(bp (bE (U.rZ 2)) (fa (uK (kp U 0 [.l,.i,.l,.l] (.i (U.nN 4)::kp U 5 [.s,.i,.i,.i,.i,.i,.s,.s,.i,.i,.s,.s,.s,.s,.i,.i,.i,.i] [])))) fun cg27 M=>(gd (aM ((M.iV 7)+1)) (gd (bE (M.rZ 2)) (some (none,kp M 0 [.l,.i,.l,.l] [.i (M.nN 4),.i (M.iV 5),.i (M.iV 6),.i ((M.iV 7)+1)])))))) else (bp O (fa (CM [.l (q.rZ 0),.i (q.iV 1),.l (d.rZ 2),.l z5,.i Y,.s (B.sV 2),.i z7.iV,.i A,.i (q.iV 2),.i 0,.i 0,.s g,.s g,.i 0,.i 0,.s g,.s g,.s g,.s g,.i 0,.i A,.i (d.iV 6),.i (d.iV 7),.t ((q.iV 2)==4)])) fun cg28 W=>(bp (bE (W.rZ 2)) (fa (uK (kp W 0 [.l,.i,.l,.l] (.i (W.nN 4)::kp W 5 [.s,.i,.i,.i,.i,.i,.s,.s,.i,.i,.s,.s,.s,.s,.i,.i,.i,.i] [])))) fun cg29 N=>(gd (aM ((N.iV 7)+1)) (gd (bE (N.rZ 2)) (some (none,kp N 0 [.l,.i,.l,.l] [.i (N.nN 4),.i (N.iV 5),.i (N.iV 6),.i ((N.iV 7)+1)])))))))))))))) else (gd O (some (some 0,kp d 0 [.l,.i,.l] []))))
def aiG:bF:=⟨5,[(5,aY)],⟨115,MH,Mz⟩,Mu,[⟨.exit 0,⟨115,[(5,.s (.vQ 1 15))],[.box [.list [.I],.I],.vQ aY 0]⟩,[.fix 0,.aU 5]⟩],zx⟩
def aiH:LT:=VU.add 1 aiG
def aiI:aQ P 1 aiH (bf f4):=lA CL aiF
def CN(d:LG):Option LG:=
 (bp true (bR zx [.l (d.rZ 0),.i (d.iV 1),.l [],.l [],.i 0,.i 0,.i (d.iV 2),.i 0]) fun B g=>let A:=MN [.l (g.rZ 2)]; (gx ((bE (g.rZ 2))&&A.isSome) A fun q=>(gd ((aA (g.rZ 2).length (q.rZ 0).length)&&true) (some [.l (g.rZ 0),.i (g.iV 1),.l (q.rZ 0)]))))
def aiJ:aI:=⟨4,zh,jL,gH,GN,jL,ep,[],CN⟩
def t25:ar:=t24.df aiJ
def VV:aw P t25:=tW CL func4 aiI

def G6(d:LG):bk:=
 (bif (ba (d.iV 4) (d.iV 3)) then (az (jM [.l (d.rZ 0),.i (d.iV 1),.l [[.s (⟨#[108,111,103,10]⟩:BY)],[.s (⟨#[100,101,115,107,115,10]⟩:BY)],[.s (⟨#[110,101,120,116,10]⟩:BY)],[.s (⟨#[104,101,108,100,10]⟩:BY)],[.s (⟨#[99,108,97,115,104,101,115,10]⟩:BY)],[.s (⟨#[100,117,112,101,115,10]⟩:BY)],[.s (⟨#[97,116,32,48,10]⟩:BY)],[.s (⟨#[97,116,32,54,48,10]⟩:BY)],[.s (⟨#[97,116,32,49,48,10]⟩:BY)],[.s (⟨#[97,116,32,45,49,10]⟩:BY)],[.s (⟨#[97,116,32,120,10]⟩:BY)],[.s (⟨#[104,101,121,10]⟩:BY)],[.s (⟨#[110,101,120,116,32,49,10]⟩:BY)],[.s (⟨#[10]⟩:BY)],[.s (⟨#[97,116,32,32,53,10]⟩:BY)]]]) fun g=>(gd (Nat.ble ((d.sV 2).size+(g.sV 2).size) 9223372036854775807) (gd (aM ((d.iV 4)+1)) (nQ [.l (g.rZ 0),.i (g.iV 1),.s ((d.sV 2)++(g.sV 2)),.i (d.iV 3),.i ((d.iV 4)+1)])))) else some (some 0,kp d 0 [.l,.i,.s] []))
def aiK:bF:=⟨3,[],⟨22,[(0,.s (.ptr 0 0)),(3,bY),(5,aD),(6,aD)],[.box [.list [.I],.I]]⟩,ep,[⟨.exit 0,⟨22,[(0,.s (.ptr 0 0)),(3,bY)],[.box [.list [.I],.I]]⟩,ep⟩],G6⟩
def aiL:LT:=bz.add 1 aiK
def aiM:aQ P 1 aiL (bf f6):=lA VV (bN _ _ _)
def G7(d:LG):Option LG:=
 (az (sD [.l (d.rZ 0),.i (d.iV 1),.i 0,.i 5]) fun B=>(bp true (bR G6 [.l (B.rZ 0),.i (B.iV 1),.s (⟨#[]⟩:BY),.i (B.iV 2),.i 0]) fun F g=>(az (uJ [.l (g.rZ 0),.i (g.iV 1),.i 20]) fun q=>(bif (q.bV 2) then (az (jM [.l (q.rZ 0),.i (q.iV 1),.l [[.s (⟨#[108,111,103]⟩:BY)],[.s (⟨#[120]⟩:BY)]]]) fun A=>(gd (Nat.ble ((g.sV 2).size+(A.sV 2).size) 9223372036854775807) (some [.l (A.rZ 0),.i (A.iV 1),.s ((g.sV 2)++(A.sV 2))]))) else some [.l (q.rZ 0),.i (q.iV 1),.s (g.sV 2)]))))
def aiN:aI:=⟨6,oB,jL,gH,[bY],jL,ep,[],G7⟩
def t26:ar:=t25.df aiN
def aiO:aw P t26:=tW VV func6 aiM

def uL(d:LG):Option LG:=
 let g:=(((d.sV 0).size:Nat):Int); (bif (!((d.sV 0).toList==(⟨#[]⟩:BY).toList)) then (bif (cw g 40) then (gd (ba 0 g) (az (CG [.s (⟨#[97,98,99,100,101,102,103,104,105,106,107,108,109,110,111,112,113,114,115,116,117,118,119,120,121,122]⟩:BY),.i (((d.sV 0).data.toList.getD 0 0).toNat:Int)]) fun q=>(bif (cw 0 (q.iV 0)) then (az (wT [.s (d.sV 0),.s (⟨#[97,98,99,100,101,102,103,104,105,106,107,108,109,110,111,112,113,114,115,116,117,118,119,120,121,122,48,49,50,51,52,53,54,55,56,57,45,95]⟩:BY)]) fun A=>some [.t ((A.sV 0).toList==(⟨#[]⟩:BY).toList)]) else some [.t false]))) else some [.t false]) else some [.t false])
def aiP:aI:=⟨77,[bY],[],[],[dY],[],[],[],uL⟩
def t27:ar:=t26.bx aiP
def aiQ:aw P t27:=cU aiO func77

def pV(d:LG):Option LG:=
 (bif (ba (d.iV 0) (d.iV 1)) then some [.t true] else some [.t (ba (d.iV 2) (d.iV 0))])
def aiR:aI:=⟨78,[aD,aD,aD],[],[],[dY],[],[],[],pV⟩
def t28:ar:=t27.bx aiR
def aiS:aw P t28:=cU aiQ func78

def sF(d:LG):Option LG:=
 (az (pV [.i (d.iV 0),.i 0,.i 345686399999]) fun g=>some [.t (!(g.bV 0))])
def aiT:aI:=⟨79,[aD],[],[],[dY],[],[],[],sF⟩
def t29:ar:=t28.bx aiT
def aiU:aw P t29:=cU aiS func79

def MO(d:LG):Option LG:=
 (az (pV [.i (d.iV 0),.i 1,.i 3]) fun g=>some [.t (!(g.bV 0))])
def aiV:aI:=⟨237,[aD],[],[],[dY],[],[],[],MO⟩
def t30:ar:=t29.bx aiV
def aiW:aw P t30:=cU aiU func237

def G8(d:LG):Option LG:=
 (az (GW [.s (d.sV 0)]) fun g=>some [.t (g.bV 1)])
def aiX:aI:=⟨238,[bY],[],[],[dY],[],[],[],G8⟩
def t31:ar:=t30.bx aiX
def aiY:aw P t31:=cU aiW func238

def G9(d:LG):Option LG:=
 (bif ((d.sV 0).toList==(⟨#[]⟩:BY).toList) then some [.t true] else (az (uL [.s (d.sV 0)]) fun g=>some [.t (g.bV 0)]))
def aiZ:aI:=⟨239,[bY],[],[],[dY],[],[],[],G9⟩
def t32:ar:=t31.bx aiZ
def ai0:aw P t32:=cU aiY func239

def wW(d:LG):Option LG:=
 (az (sF [.i (gi (d.rV 0) 0).iV]) fun g=>(bif (!(g.bV 0)) then some [.i 1] else (az (MO [.i (gi (d.rV 0) 1).iV]) fun q=>(bif (!(q.bV 0)) then some [.i 4] else (az (uL [.s (gi (d.rV 0) 2).sV]) fun A=>(bif (!(A.bV 0)) then some [.i 5] else (az (G8 [.s (gi (d.rV 0) 3).sV]) fun B=>(bif (!(B.bV 0)) then some [.i 3] else (az (pV [.i (gi (d.rV 0) 4).iV,.i 0,.i 99999]) fun F=>(bif (F.bV 0) then some [.i 1] else (az (pV [.i (gi (d.rV 0) 5).iV,.i 0,.i 99999]) fun I=>(bif (I.bV 0) then some [.i 1] else (az (G9 [.s (gi (d.rV 0) 6).sV]) fun J=>(bif (!(J.bV 0)) then some [.i 5] else (az (G9 [.s (gi (d.rV 0) 7).sV]) fun M=>(bif (!(M.bV 0)) then some [.i 5] else some [.i 0]))))))))))))))))
def ai1:aI:=⟨179,wO,[],[],[aD],[],[],[],wW⟩
def t33:ar:=t32.bx ai1
def ai2:aw P t33:=cU ai0 func179

def G_(d:LG):Option LG:=
 (az (wW [.l [[.i (gi (d.rV 0) 4).iV,.i (gi (d.rV 0) 5).iV,.s (gi (d.rV 0) 6).sV,.s (gi (d.rV 0) 7).sV,.i (gi (d.rV 0) 8).iV,.i (gi (d.rV 0) 9).iV,.s (gi (d.rV 0) 10).sV,.s (gi (d.rV 0) 11).sV]]]) fun g=>(bif ((g.iV 0) != 0) then some [.i (g.iV 0)] else (bif (ba (gi (d.rV 0) 2).iV (gi (d.rV 0) 4).iV) then some [.i 1] else some [.i 0])))
def ai3:aI:=⟨125,CE,[],[],[aD],[],[],[],G_⟩
def t34:ar:=t33.bx ai3
def ai4:aw P t34:=cU ai2 func125

def qY(d:LG):Option LG:=
 let g:=gi (d.rV 0) 3; (bif (g.iV==1) then (az (G_ [.l [(bu aY (d.rV 0))]]) fun q=>some [.i (q.iV 0)]) else (bif (g.iV==2) then (az (uL [.s (gi (d.rV 0) 12).sV]) fun A=>(bif (!(A.bV 0)) then some [.i 5] else some [.i 0])) else (bif (g.iV==5) then (az (uL [.s (gi (d.rV 0) 13).sV]) fun B=>(bif (!(B.bV 0)) then some [.i 5] else (az (pV [.i (gi (d.rV 0) 14).iV,.i 1,.i 1000000]) fun F=>(bif (F.bV 0) then some [.i 1] else some [.i 0])))) else (az (pV [.i (gi (d.rV 0) 8).iV,.i 1,.i 99999]) fun I=>(bif (I.bV 0) then some [.i 1] else some [.i 0])))))
def ai5:aI:=⟨80,CE,[],[],[aD],[],[],[],qY⟩
def t35:ar:=t34.bx ai5
def ai6:aw P t35:=cU ai4 func80

def oD(d:LG):Option LG:=
 let g:=(⟨#[]⟩:BY); let q:=gi (d.rV 0) 3; let A:=bif (q.iV==2) then (bif (q.iV==5) then some [.t true] else (bif ((gi (d.rV 0) 13).sV.toList==g.toList) then some [.t ((gi (d.rV 0) 14).iV==0)] else some [.t false])) else (bif ((gi (d.rV 0) 12).sV.toList==g.toList) then (bif (q.iV==5) then some [.t true] else (bif ((gi (d.rV 0) 13).sV.toList==g.toList) then some [.t ((gi (d.rV 0) 14).iV==0)] else some [.t false])) else some [.t false]); let B:=bif (q.iV==1) then A else (bif (aK dt [.i (gi (d.rV 0) 4).iV,.i (gi (d.rV 0) 5).iV,.s (gi (d.rV 0) 6).sV,.s (gi (d.rV 0) 7).sV,.i (gi (d.rV 0) 8).iV,.i (gi (d.rV 0) 9).iV,.s (gi (d.rV 0) 10).sV,.s (gi (d.rV 0) 11).sV] [.i 0,.i 0,.s g,.s g,.i (gi (d.rV 0) 8).iV,.i 0,.s g,.s g]) then A else some [.t false]); (bif (q.iV==3) then B else (bif (q.iV==4) then B else (bif (q.iV==1) then A else (bif (aK dt [.i (gi (d.rV 0) 4).iV,.i (gi (d.rV 0) 5).iV,.s (gi (d.rV 0) 6).sV,.s (gi (d.rV 0) 7).sV,.i (gi (d.rV 0) 8).iV,.i (gi (d.rV 0) 9).iV,.s (gi (d.rV 0) 10).sV,.s (gi (d.rV 0) 11).sV] [.i 0,.i 0,.s g,.s g,.i 0,.i 0,.s g,.s g]) then A else some [.t false]))))
def ai7:aI:=⟨81,CE,[],[],[dY],[],[],[],oD⟩
def t36:ar:=t35.bx ai7
def ai8:aw P t36:=cU ai6 func81

def G'(d:LG):Option LG:=
 let g:=bu aY (d.rV 0); (az (uL [.s (gi (d.rV 0) 0).sV]) fun A=>(bif (!(A.bV 0)) then some [.i 5] else (az (pV [.i (gi (d.rV 0) 1).iV,.i 1,.i 1000000]) fun B=>(bif (B.bV 0) then some [.i 1] else (az (sF [.i (gi (d.rV 0) 2).iV]) fun F=>(bif (!(F.bV 0)) then some [.i 1] else (az (pV [.i (gi (d.rV 0) 3).iV,.i 1,.i 5]) fun I=>(bif (I.bV 0) then some [.i 4] else (az (qY [.l [g]]) fun q=>(bif ((q.iV 0) != 0) then some [.i (q.iV 0)] else (az (oD [.l [g]]) fun J=>(bif (!(J.bV 0)) then some [.i 3] else some [.i 0]))))))))))))
def ai9:aI:=⟨42,CE,[],[],[aD],[],[],[],G'⟩
def t37:ar:=t36.bx ai9
def ai_:aw P t37:=cU ai8 func42

def Ha(d:LG):Option LG:=
 some [.t ((d.iV 0) != (d.iV 0))]
def ai':aI:=⟨126,[aD],[],[],[dY],[],[],[],Ha⟩
def t38:ar:=t37.bx ai'
def aja:aw P t38:=cU ai_ func126

def uM(d:LG):Option LG:=
 (az (Ha [.i (d.iV 0)]) fun q=>(az (Ha [.i (d.iV 1)]) fun g=>(bif (q.bV 0) then (bif (g.bV 0) then some [.i 0] else some [.i (-1)]) else (bif (g.bV 0) then some [.i 1] else (bif (ba (d.iV 0) (d.iV 1)) then some [.i (-1)] else (bif (ba (d.iV 1) (d.iV 0)) then some [.i 1] else some [.i 0]))))))
def ajb:aI:=⟨83,[aD,aD],[],[],[aD],[],[],[],uM⟩
def t39:ar:=t38.bx ajb
def VW:aw P t39:=cU aja func83

def zy(d:LG):bk:=
 let g:=gi ((d.rZ 1).gR (d.iV 3)) 0; (bif (ba (d.iV 3) (d.iV 2)) then (gd (nL (d.iV 3) (lI (d.rZ 1))) (bif (g.iV != (d.iV 0)) then eQ [.i g.iV] else (gd (aM ((d.iV 3)+1)) (some (none,kp d 0 [.i,.l,.i] [.i ((d.iV 3)+1)]))))) else eR [.i (d.iV 0)])
def ajc:bF:=⟨3,[],⟨18,[(3,aD),(6,gV),(7,aD),(8,aD)],[]⟩,[],[⟨.ret,⟨18,zo,[]⟩,[]⟩,⟨.exit 0,⟨18,[(3,aD)],[]⟩,[]⟩],zy⟩
def ajd:LT:=bz.add 0 ajc
def aje:aQ P 0 ajd (bf f82):=lA VW (bN _ _ _)
def qZ(d:LG):Option LG:=
 (bp true (bR zy [.i 0,.l (d.rZ 0),.i (lI (d.rZ 0)),.i 0]) fun q g=>(bif aA q 0 then some [.i (g.iV 0)] else some [.i (g.iV 0)]))
def ajf:aI:=⟨82,[gV],[],[],[aD],[],[],[],qZ⟩
def t40:ar:=t39.bx ajf
def ajg:aw P t40:=tP VW func82 aje

def Hb(d:LG):Option LG:=
 (az (uM [.i (gi (d.rV 0) 2).iV,.i (gi (d.rV 1) 2).iV]) fun g=>(az (kF [.s (gi (d.rV 0) 0).sV,.s (gi (d.rV 1) 0).sV]) fun q=>(az (uM [.i (gi (d.rV 0) 1).iV,.i (gi (d.rV 1) 1).iV]) fun A=>(az (qZ [.l [[.i (g.iV 0)],[.i (q.iV 0)],[.i (A.iV 0)]]]) fun B=>some [.i (B.iV 0)]))))
def ajh:aI:=⟨43,GL,[],[],[aD],[],[],[],Hb⟩
def t41:ar:=t40.bx ajh
def MP:aw P t41:=cU ajg func43

def CO(d:LG):bk:=
 let A:=bu aY ((d.rZ 1).gR (d.iV 3)); let q:=(d.iV 3)-1; let g:=(d.iV 3)+1; (bif (ba (d.iV 3) (d.iV 2)) then (gd (nL (d.iV 3) (lI (d.rZ 1))) (az (G' [.l [A]]) fun B=>(bif ((B.iV 0) != 0) then eQ [.i (B.iV 0)] else (bif (ba 0 (d.iV 3)) then (gd (aM q) (gd (nL q (lI (d.rZ 0))) (az (Hb [.l [(bu aY ((d.rZ 0).gR q))],.l [A]]) fun F=>(bif (cw 0 (F.iV 0)) then eQ [.i 7] else (gd (aM g) (some (none,kp d 0 [.l,.l,.i] [.i g]))))))) else (gd (aM g) (some (none,kp d 0 [.l,.l,.i] [.i g]))))))) else eR [.l (d.rZ 0)])
def aji:bF:=⟨4,[],⟨56,[(0,.s (.list aY)),(13,.s (.list aY)),(14,aD),(15,aD)],[]⟩,[],[⟨.ret,⟨56,zo,[]⟩,[]⟩,⟨.exit 0,⟨56,[(0,.s (.list aY))],[]⟩,[]⟩],CO⟩
def VX:LT:=bz.add 0 aji
def ajj:aQ P 0 VX (bf f19):=lA MP (bN _ _ _)
def CP(d:LG):bk:=
 let g:=bu [.str,.I] ((d.rZ 2).gR (d.iV 4)); (bif (ba (d.iV 4) (d.iV 3)) then (gd (nL (d.iV 4) (lI (d.rZ 2))) (bif (gi (da [.str,.I] (d.rZ 0) g [.t false]) 0).bV then eQ [.i 6] else (gd (aM ((d.iV 4)+1)) (nQ [.l (cH [.str,.I] (d.rZ 0) g [.t true] (d.iV 1).toNat),.i (((dI [.str,.I] (d.rZ 0) g (d.iV 1).toNat):Nat):Int),.l (d.rZ 2),.i (d.iV 3),.i ((d.iV 4)+1)])))) else eR [])
def ajk:bF:=⟨14,[],⟨56,[(6,.s (.map 0)),(39,.s (.list aY)),(40,aD),(41,aD)],[.map (.agg [.str,.I]) (.one (.bool))]⟩,uH,[⟨.ret,⟨56,zo,[]⟩,[]⟩,⟨.exit 2,⟨56,[],[]⟩,[]⟩],CP⟩
def ajl:LT:=VX.add 0 ajk
def ajm:aQ P 0 ajl (bf f19):=lA MP ajj
def CQ(d:LG):Option LG:=
 let q:=(lI (d.rZ 0)); (bif (ba 2000 q) then some [.i 2] else (bp true (bR CO [.l (d.rZ 0),.l (d.rZ 0),.i q,.i 0]) fun A g=>(bif aA A 0 then some [.i (g.iV 0)] else (bp true (bR CP [.l [],.i 0,.l (g.rZ 0),.i (lI (g.rZ 0)),.i 0]) fun B F=>(bif aA B 0 then some [.i (F.iV 0)] else some [.i 0])))))
def ajn:aI:=⟨19,GN,[],[],[aD],[],[],[],CQ⟩
def t42:ar:=t41.bx ajn
def ajo:aw P t42:=tP MP func19 ajm

def zA(d:LG):Option LG:=
 let q:=(((d.sV 0).size:Nat):Int); let g:=(q-(((d.sV 1).size:Nat):Int)); (bif (cw (((d.sV 1).size:Nat):Int) q) then (gd (aM g) (gd ((eg g)&&(cw g q)) (some [.t (((d.sV 0).extract g.toNat (d.sV 0).size).toList==(d.sV 1).toList)]))) else some [.t false])
def ajp:aI:=⟨56,l9,[],[],[dY],[],[],[],zA⟩
def t43:ar:=t42.bx ajp
def ajq:aw P t43:=cU ajo func56

def MQ(d:LG):Option LG:=
 let g:=((((d.sV 0).size:Nat):Int)-(((d.sV 1).size:Nat):Int)); (az (zA [.s (d.sV 0),.s (d.sV 1)]) fun q=>(bif (!(q.bV 0)) then some [.s (d.sV 0),.t false] else (gd (aM g) (gd ((eg g)&&(cw g (((d.sV 0).size:Nat):Int))) (some [.s ((d.sV 0).extract 0 g.toNat),.t true])))))
def ajr:aI:=⟨84,l9,[],[],[bY,dY],[],[],[],MQ⟩
def t44:ar:=t43.bx ajr
def ajs:aw P t44:=cU ajq func84

def Hc(d:LG):Option LG:=
 (az (MQ [.s (d.sV 0),.s (d.sV 1)]) fun g=>some [.s (g.sV 0),.t (g.bV 1)])
def ajt:aI:=⟨44,l9,[],[],[bY,dY],[],[],[],Hc⟩
def t45:ar:=t44.bx ajt
def aju:aw P t45:=cU ajs func44

def Hd(d:LG):Option LG:=
 Gv d
def VY:aI:=⟨85,[bY,bY,aD,aD],[],[],sB,[],[],[],Hd⟩
def ajv:ff P VY:=fun d r h=>ae2 Tryz.afy aj d r h
def t46:ar:=t45.bx VY
def ajw:aw P t46:=aju.aP ajv

def wX(d:LG):Option LG:=
 (az (Hd [.s (d.sV 0),.s (d.sV 1),.i 0,.i (-1)]) fun g=>some [.l (g.rZ 0)])
def ajx:aI:=⟨45,l9,[],[],sB,[],[],[],wX⟩
def t47:ar:=t46.bx ajx
def ajy:aw P t47:=cU ajw func45

def He(d:LG):Option LG:=
 (bif ((d.sV 0).toList==(⟨#[]⟩:BY).toList) then some [.l [],.t true] else (az (Hc [.s (d.sV 0),.s (⟨#[10]⟩:BY)]) fun g=>(az (wX [.s (g.sV 0),.s (⟨#[10]⟩:BY)]) fun q=>some [.l (q.rZ 0),.t (g.bV 1)])))
def ajz:aI:=⟨20,[bY],[],[],[.s (.list [.str]),dY],[],[],[],He⟩
def t48:ar:=t47.bx ajz
def ajA:aw P t48:=cU ajy func20

def wY(d:LG):Option LG:=
 let g:=(cw (((d.sV 1).size:Nat):Int) (((d.sV 0).size:Nat):Int)); (bif g then (gd ((eg (((d.sV 1).size:Nat):Int))&&g) (some [.t (((d.sV 0).extract 0 (d.sV 1).size).toList==(d.sV 1).toList)])) else some [.t false])
def ajB:aI:=⟨117,l9,[],[],[dY],[],[],[],wY⟩
def t49:ar:=t48.bx ajB
def ajC:aw P t49:=cU ajA func117

def Hg(d:LG):Option LG:=
 let g:=(((d.sV 1).size:Nat):Int); (az (wY [.s (d.sV 0),.s (d.sV 1)]) fun q=>(bif (!(q.bV 0)) then some [.s (d.sV 0),.t false] else (gd ((eg g)&&(cw g (((d.sV 0).size:Nat):Int))) (some [.s ((d.sV 0).extract (d.sV 1).size (d.sV 0).size),.t true]))))
def ajD:aI:=⟨69,l9,[],[],[bY,dY],[],[],[],Hg⟩
def t50:ar:=t49.bx ajD
def ajE:aw P t50:=cU ajC func69

def sG(d:LG):Option LG:=
 (az (Hg [.s (d.sV 0),.s (d.sV 1)]) fun g=>some [.s (g.sV 0),.t (g.bV 1)])
def ajF:aI:=⟨33,l9,[],[],[bY,dY],[],[],[],sG⟩
def t51:ar:=t50.bx ajF
def ajG:aw P t51:=cU ajE func33

def wZ(d:LG):Option LG:=
 Cx d
def VZ:aI:=⟨72,[bY],[],[],[aD,.s (.BN)],[],[],[],wZ⟩
def ajH:ff P VZ:=fun d r h=>ae3 Tryz.afA d r h
def t52:ar:=t51.bx VZ
def ajI:aw P t52:=ajG.aP ajH

def Hh(d:LG):Option LG:=
 (az (sG [.s (d.sV 0),.s (⟨#[45]⟩:BY)]) fun g=>let q:=(((g.sV 0).size:Nat):Int); let F:=wZ [.s (g.sV 0)]; (bif ((g.sV 0).toList==(⟨#[]⟩:BY).toList) then some [.i 0,.t false] else (bif (ba (d.iV 1) q) then some [.i 0,.t false] else (az (wT [.s (g.sV 0),.s (⟨#[48,49,50,51,52,53,54,55,56,57]⟩:BY)]) fun I=>(bif (!((I.sV 0).toList==(⟨#[]⟩:BY).toList)) then some [.i 0,.t false] else (gd (ba 0 q) (bif ((((g.sV 0).data.toList.getD 0 0).toNat:Int)==48) then (bif (ba 1 q) then some [.i 0,.t false] else (bif (g.bV 1) then some [.i 0,.t false] else (az F fun A=>(bif (g.bV 1) then (gd (aM (0-(A.iV 0))) (some [.i (0-(A.iV 0)),.t true])) else some [.i (A.iV 0),.t true])))) else (az F fun B=>(bif (g.bV 1) then (gd (aM (0-(B.iV 0))) (some [.i (0-(B.iV 0)),.t true])) else some [.i (B.iV 0),.t true])))))))))
def ajJ:aI:=⟨130,[bY,aD],[],[],[aD,dY],[],[],[],Hh⟩
def t53:ar:=t52.bx ajJ
def V0:aw P t53:=cU ajI func130

def Hk(d:LG):bk:=
 let g:=aA (d.rZ 0).length (d.rZ 0).length; (bif (ba (d.iV 3) (d.iV 2)) then (gd (nL (d.iV 3) (lI (d.rZ 1))) (az (Hh [.s (gi ((d.rZ 1).gR (d.iV 3)) 0).sV,.i 15]) fun q=>let A:=((d.rZ 0)++([[.i (q.iV 0)]]:LL)); (bif (!(q.bV 1)) then eQ [.l [],.t false] else (gd (g&&(decide (((d.rZ 0).length+1)<=1048576))) (gd (aM ((d.iV 3)+1)) (gd (bE A) (nQ [.l A,.l (d.rZ 1),.i (d.iV 2),.i ((d.iV 3)+1)]))))))) else (gd (g&&true) (eR [.l (d.rZ 0)])))
def ajK:bF:=⟨3,[(4,[.I])],⟨28,[(4,.s (.vQ 0 1)),(9,.s (.list [.str])),(10,aD),(11,aD)],mM⟩,wP,[⟨.ret,⟨28,[(2,gV),(3,dY)],[]⟩,[]⟩,⟨.exit 0,⟨28,[(4,.s (.vQ 0 1))],mM⟩,wP⟩],Hk⟩
def ajL:LT:=bz.add 0 ajK
def ajM:aQ P 0 ajL (bf f87):=lA V0 (bN _ _ _)
def zB(d:LG):Option LG:=
 (bp true (bR Hk [.l [],.l (d.rZ 0),.i (lI (d.rZ 0)),.i 0]) fun q g=>(bif aA q 0 then some [.l (g.rZ 0),.t (g.bV 1)] else (gd (bE (g.rZ 0)) (some [.l (g.rZ 0),.t true]))))
def ajN:aI:=⟨87,sB,[],[],[gV,dY],[],[],[],zB⟩
def t54:ar:=t53.bx ajN
def V2:aw P t54:=tP V0 func87 ajM

def Hl(d:LG):bk:=
 (bif (ba (d.iV 3) (d.iV 2)) then (gd (nL (d.iV 3) (lI (d.rZ 0))) (bif ((d.sV 1).toList==(gi ((d.rZ 0).gR (d.iV 3)) 0).sV.toList) then eQ [.i (d.iV 3)] else (gd (aM ((d.iV 3)+1)) (some (none,kp d 0 [.l,.s,.i] [.i ((d.iV 3)+1)]))))) else eR [])
def ajO:bF:=⟨2,[],⟨19,[(0,.s (.list [.str])),(1,bY),(7,aD),(8,aD)],[]⟩,[],[⟨.ret,⟨19,zp,[]⟩,[]⟩,⟨.exit 0,⟨19,[],[]⟩,[]⟩],Hl⟩
def ajP:LT:=bz.add 0 ajO
def ajQ:aQ P 0 ajP (bf f131):=lA V2 (bN _ _ _)
def Hm(d:LG):Option LG:=
 (bp true (bR Hl [.l (d.rZ 0),.s (d.sV 1),.i (lI (d.rZ 0)),.i 0]) fun g q=>(bif aA g 0 then some [.i (q.iV 0)] else some [.i (-1)]))
def ajR:aI:=⟨131,[.s (.list [.str]),bY],[],[],[aD],[],[],[],Hm⟩
def t55:ar:=t54.bx ajR
def ajS:aw P t55:=tP V2 func131 ajQ

def Hn(d:LG):Option LG:=
 (az (Hm [.l (d.rZ 0),.s (d.sV 1)]) fun g=>some [.t (cw 0 (g.iV 0))])
def ajT:aI:=⟨89,[.s (.list [.str]),bY],[],[],[dY],[],[],[],Hn⟩
def t56:ar:=t55.bx ajT
def ajU:aw P t56:=cU ajS func89

def t57:ar:=t56.fx P 184 f184
def V3:aw P t57:=ajU.fx hm func184 aj aj

end
end Go.Proofs.h_
