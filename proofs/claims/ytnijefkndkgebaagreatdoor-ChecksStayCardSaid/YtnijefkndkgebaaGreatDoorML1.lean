/-
 What is proved here: functions of the program as functions on data. No condition.
-/
import Derived.Test.YtnijefkndkgebaaGreatDoorML0
set_option linter.all false
open List renaming mem_cons→bZ,not_mem_nil→sZ
open Prod.mk renaming injEq→bg
namespace Go.Proofs.iE
open Go Go.AL Go.Proofs
noncomputable section
def L':ak:=t5.inline P 214 Tryz.f214 []
theorem Ym:al P L':=L_.inline hm Tryz.func214 (by kernel_rfl) []
def Ma:ak:=L'.inline P 238 Tryz.f238 []
theorem Yn:al P Ma:=Ym.inline hm Tryz.func238 (by kernel_rfl) []
def Mb:ak:=Ma.inline P 215 Tryz.f215 []
theorem Yo:al P Mb:=Yn.inline hm Tryz.func215 (by kernel_rfl) []
def Mc:ak:=Mb.inline P 178 Tryz.f178 []
theorem Yp:al P Mc:=Yo.inline hm Tryz.func178 (by kernel_rfl) []
def Md:ak:=Mc.inline P 136 Tryz.f136 []
theorem Yq:al P Md:=Yp.inline hm Tryz.func136 (by kernel_rfl) []
def Me:ak:=Md.inline P 98 Tryz.f98 []
theorem Yr:al P Me:=Yq.inline hm Tryz.func98 (by kernel_rfl) []
def Mf:ak:=Me.inline P 147 Tryz.f147 []
theorem Ys:al P Mf:=Yr.inline hm Tryz.func147 (by kernel_rfl) []
def Mg:ak:=Mf.inline P 216 Tryz.f216 []
theorem Yt:al P Mg:=Ys.inline hm Tryz.func216 (by kernel_rfl) []
def Mh:ak:=Mg.inline P 179 Tryz.f179 []
theorem Yu:al P Mh:=Yt.inline hm Tryz.func179 (by kernel_rfl) []
def Mi:ak:=Mh.inline P 180 Tryz.f180 []
theorem Yv:al P Mi:=Yu.inline hm Tryz.func180 (by kernel_rfl) []
def Mj:ak:=Mi.inline P 181 Tryz.f181 []
theorem Yw:al P Mj:=Yv.inline hm Tryz.func181 (by kernel_rfl) []
def Mk:ak:=Mj.inline P 221 Tryz.f221 []
theorem Yx:al P Mk:=Yw.inline hm Tryz.func221 (by kernel_rfl) []
def Ml:ak:=Mk.inline P 188 Tryz.f188 []
theorem Yy:al P Ml:=Yx.inline hm Tryz.func188 (by kernel_rfl) []
def Mm:ak:=Ml.inline P 217 Tryz.f217 []
theorem Yz:al P Mm:=Yy.inline hm Tryz.func217 (by kernel_rfl) []
def Mn:ak:=Mm.inline P 182 Tryz.f182 []
theorem YA:al P Mn:=Yz.inline hm Tryz.func182 (by kernel_rfl) []
def Mo:ak:=Mn.inline P 137 Tryz.f137 []
theorem YB:al P Mo:=YA.inline hm Tryz.func137 (by kernel_rfl) []
def Mp:ak:=Mo.inline P 220 Tryz.f220 []
theorem YC:al P Mp:=YB.inline hm Tryz.func220 (by kernel_rfl) []
def Mq:ak:=Mp.inline P 239 Tryz.f239 []
theorem YD:al P Mq:=YC.inline hm Tryz.func239 (by kernel_rfl) []
def Mr:ak:=Mq.inline P 219 Tryz.f219 []
theorem YE:al P Mr:=YD.inline hm Tryz.func219 (by kernel_rfl) []
def Ms:ak:=Mr.inline P 218 Tryz.f218 []
theorem YF:al P Ms:=YE.inline hm Tryz.func218 (by kernel_rfl) []
def Mt:ak:=Ms.inline P 184 Tryz.f184 []
theorem YG:al P Mt:=YF.inline hm Tryz.func184 (by kernel_rfl) []
def Mu:ak:=Mt.inline P 185 Tryz.f185 []
theorem YH:al P Mu:=YG.inline hm Tryz.func185 (by kernel_rfl) []
def YI:ak:=Mu.inline P 186 Tryz.f186 []
theorem iF:al P YI:=YH.inline hm Tryz.func186 (by kernel_rfl) []
def Mv:List (ByteArray × List G):=[(⟨#[]⟩,[.l [[.s ⟨#[]⟩,.s ⟨#[]⟩,.s ⟨#[]⟩,.i 0,.s ⟨#[]⟩]],.t false]),(⟨#[107,49]⟩,[.l [[.s ⟨#[]⟩,.s ⟨#[]⟩,.s ⟨#[]⟩,.i 0,.s ⟨#[]⟩]],.t false]),(⟨#[75,49,65,66]⟩,[.l [[.s ⟨#[]⟩,.s ⟨#[]⟩,.s ⟨#[]⟩,.i 0,.s ⟨#[]⟩]],.t false]),(⟨#[107,49,97,98,47]⟩,[.l [[.s ⟨#[]⟩,.s ⟨#[]⟩,.s ⟨#[]⟩,.i 0,.s ⟨#[]⟩]],.t false]),(⟨#[49,97]⟩,[.l [[.s ⟨#[]⟩,.s ⟨#[]⟩,.s ⟨#[]⟩,.i 0,.s ⟨#[]⟩]],.t false]),(⟨#[107,49,97,98,47,109,109,47,112]⟩,[.l [[.s ⟨#[]⟩,.s ⟨#[]⟩,.s ⟨#[]⟩,.i 0,.s ⟨#[]⟩]],.t false]),(⟨#[107,49,97,98]⟩,[.l [[.s ⟨#[107,49,97,98]⟩,.s ⟨#[107,49]⟩,.s ⟨#[97,98]⟩,.i 0,.s ⟨#[]⟩]],.t true]),(⟨#[107,49,97,97]⟩,[.l [[.s ⟨#[107,49,97,97]⟩,.s ⟨#[107,49]⟩,.s ⟨#[97,97]⟩,.i 0,.s ⟨#[]⟩]],.t true]),(⟨#[107,49,97,98,47,52]⟩,[.l [[.s ⟨#[107,49,97,98]⟩,.s ⟨#[107,49]⟩,.s ⟨#[97,98]⟩,.i 2,.s ⟨#[52]⟩]],.t true]),(⟨#[111,104,50,97,98,99]⟩,[.l [[.s ⟨#[111,104,50,97,98,99]⟩,.s ⟨#[111,104,50]⟩,.s ⟨#[97,98,99]⟩,.i 0,.s ⟨#[]⟩]],.t true]),(⟨#[111,104,50,97,98,100]⟩,[.l [[.s ⟨#[111,104,50,97,98,100]⟩,.s ⟨#[111,104,50]⟩,.s ⟨#[97,98,100]⟩,.i 0,.s ⟨#[]⟩]],.t true]),(⟨#[119,49,97,119]⟩,[.l [[.s ⟨#[119,49,97,119]⟩,.s ⟨#[119,49]⟩,.s ⟨#[97,119]⟩,.i 0,.s ⟨#[]⟩]],.t true]),(⟨#[110,49,109,109]⟩,[.l [[.s ⟨#[110,49,109,109]⟩,.s ⟨#[110,49]⟩,.s ⟨#[109,109]⟩,.i 0,.s ⟨#[]⟩]],.t true]),(⟨#[103,51,120,121,122,47,112]⟩,[.l [[.s ⟨#[103,51,120,121,122]⟩,.s ⟨#[103,51]⟩,.s ⟨#[120,121,122]⟩,.i 3,.s ⟨#[]⟩]],.t true]),(⟨#[119,49,97,120]⟩,[.l [[.s ⟨#[119,49,97,120]⟩,.s ⟨#[119,49]⟩,.s ⟨#[97,120]⟩,.i 0,.s ⟨#[]⟩]],.t true])]
def zd(d:List G):Option (List G):=vc Mv (gi d 0).str
def fu:aH:=⟨143,[.s (.str)],[],[],[.s (.row L8),.s (.bool)],[],[],[],zd⟩
theorem YJ:cL P 143 [aS ⟨#[]⟩] (fu.out [.l [[.s ⟨#[]⟩,.s ⟨#[]⟩,.s ⟨#[]⟩,.i 0,.s ⟨#[]⟩]],.t false]):=dy (L:=ay) hm iF [] (fun _ _=>aN _ _ _) Tryz.func143 rfl (by kernel_rfl) (by kernel_rfl)
theorem YK:cL P 143 [aS ⟨#[107,49]⟩] (fu.out [.l [[.s ⟨#[]⟩,.s ⟨#[]⟩,.s ⟨#[]⟩,.i 0,.s ⟨#[]⟩]],.t false]):=dy (L:=ay) hm iF [] (fun _ _=>aN _ _ _) Tryz.func143 rfl (by kernel_rfl) (by kernel_rfl)
theorem YL:cL P 143 [aS ⟨#[75,49,65,66]⟩] (fu.out [.l [[.s ⟨#[]⟩,.s ⟨#[]⟩,.s ⟨#[]⟩,.i 0,.s ⟨#[]⟩]],.t false]):=dy (L:=ay) hm iF [] (fun _ _=>aN _ _ _) Tryz.func143 rfl (by kernel_rfl) (by kernel_rfl)
theorem YM:cL P 143 [aS ⟨#[107,49,97,98,47]⟩] (fu.out [.l [[.s ⟨#[]⟩,.s ⟨#[]⟩,.s ⟨#[]⟩,.i 0,.s ⟨#[]⟩]],.t false]):=dy (L:=ay) hm iF [] (fun _ _=>aN _ _ _) Tryz.func143 rfl (by kernel_rfl) (by kernel_rfl)
theorem YN:cL P 143 [aS ⟨#[49,97]⟩] (fu.out [.l [[.s ⟨#[]⟩,.s ⟨#[]⟩,.s ⟨#[]⟩,.i 0,.s ⟨#[]⟩]],.t false]):=dy (L:=ay) hm iF [] (fun _ _=>aN _ _ _) Tryz.func143 rfl (by kernel_rfl) (by kernel_rfl)
theorem YO:cL P 143 [aS ⟨#[107,49,97,98,47,109,109,47,112]⟩] (fu.out [.l [[.s ⟨#[]⟩,.s ⟨#[]⟩,.s ⟨#[]⟩,.i 0,.s ⟨#[]⟩]],.t false]):=dy (L:=ay) hm iF [] (fun _ _=>aN _ _ _) Tryz.func143 rfl (by kernel_rfl) (by kernel_rfl)
theorem YP:cL P 143 [aS ⟨#[107,49,97,98]⟩] (fu.out [.l [[.s ⟨#[107,49,97,98]⟩,.s ⟨#[107,49]⟩,.s ⟨#[97,98]⟩,.i 0,.s ⟨#[]⟩]],.t true]):=dy (L:=ay) hm iF [] (fun _ _=>aN _ _ _) Tryz.func143 rfl (by kernel_rfl) (by kernel_rfl)
theorem YQ:cL P 143 [aS ⟨#[107,49,97,97]⟩] (fu.out [.l [[.s ⟨#[107,49,97,97]⟩,.s ⟨#[107,49]⟩,.s ⟨#[97,97]⟩,.i 0,.s ⟨#[]⟩]],.t true]):=dy (L:=ay) hm iF [] (fun _ _=>aN _ _ _) Tryz.func143 rfl (by kernel_rfl) (by kernel_rfl)
theorem YR:cL P 143 [aS ⟨#[107,49,97,98,47,52]⟩] (fu.out [.l [[.s ⟨#[107,49,97,98]⟩,.s ⟨#[107,49]⟩,.s ⟨#[97,98]⟩,.i 2,.s ⟨#[52]⟩]],.t true]):=dy (L:=ay) hm iF [] (fun _ _=>aN _ _ _) Tryz.func143 rfl (by kernel_rfl) (by kernel_rfl)
theorem YS:cL P 143 [aS ⟨#[111,104,50,97,98,99]⟩] (fu.out [.l [[.s ⟨#[111,104,50,97,98,99]⟩,.s ⟨#[111,104,50]⟩,.s ⟨#[97,98,99]⟩,.i 0,.s ⟨#[]⟩]],.t true]):=dy (L:=ay) hm iF [] (fun _ _=>aN _ _ _) Tryz.func143 rfl (by kernel_rfl) (by kernel_rfl)
theorem YT:cL P 143 [aS ⟨#[111,104,50,97,98,100]⟩] (fu.out [.l [[.s ⟨#[111,104,50,97,98,100]⟩,.s ⟨#[111,104,50]⟩,.s ⟨#[97,98,100]⟩,.i 0,.s ⟨#[]⟩]],.t true]):=dy (L:=ay) hm iF [] (fun _ _=>aN _ _ _) Tryz.func143 rfl (by kernel_rfl) (by kernel_rfl)
theorem YU:cL P 143 [aS ⟨#[119,49,97,119]⟩] (fu.out [.l [[.s ⟨#[119,49,97,119]⟩,.s ⟨#[119,49]⟩,.s ⟨#[97,119]⟩,.i 0,.s ⟨#[]⟩]],.t true]):=dy (L:=ay) hm iF [] (fun _ _=>aN _ _ _) Tryz.func143 rfl (by kernel_rfl) (by kernel_rfl)
theorem YV:cL P 143 [aS ⟨#[110,49,109,109]⟩] (fu.out [.l [[.s ⟨#[110,49,109,109]⟩,.s ⟨#[110,49]⟩,.s ⟨#[109,109]⟩,.i 0,.s ⟨#[]⟩]],.t true]):=dy (L:=ay) hm iF [] (fun _ _=>aN _ _ _) Tryz.func143 rfl (by kernel_rfl) (by kernel_rfl)
theorem YW:cL P 143 [aS ⟨#[103,51,120,121,122,47,112]⟩] (fu.out [.l [[.s ⟨#[103,51,120,121,122]⟩,.s ⟨#[103,51]⟩,.s ⟨#[120,121,122]⟩,.i 3,.s ⟨#[]⟩]],.t true]):=dy (L:=ay) hm iF [] (fun _ _=>aN _ _ _) Tryz.func143 rfl (by kernel_rfl) (by kernel_rfl)
theorem YX:cL P 143 [aS ⟨#[119,49,97,120]⟩] (fu.out [.l [[.s ⟨#[119,49,97,120]⟩,.s ⟨#[119,49]⟩,.s ⟨#[97,120]⟩,.i 0,.s ⟨#[]⟩]],.t true]):=dy (L:=ay) hm iF [] (fun _ _=>aN _ _ _) Tryz.func143 rfl (by kernel_rfl) (by kernel_rfl)
theorem YY:∀ d r,zd d=some r→dB P 143 (fu.args0 d) (ao (fu.H0 d)) (fu.out r) (ao (fu.H1 r)):=fun d r h=>by
 have h:=Dl h;have key:cL P 143 [aS (gi d 0).str] (fu.out r):=by
  generalize (gi d 0).str=s at h;simp only[Mv,bZ,sZ,or_false,bg]at h;rcases h with⟨rfl,rfl⟩|⟨rfl,rfl⟩|⟨rfl,rfl⟩|⟨rfl,rfl⟩|⟨rfl,rfl⟩|⟨rfl,rfl⟩|⟨rfl,rfl⟩|⟨rfl,rfl⟩|⟨rfl,rfl⟩|⟨rfl,rfl⟩|⟨rfl,rfl⟩|⟨rfl,rfl⟩|⟨rfl,rfl⟩|⟨rfl,rfl⟩|⟨rfl,rfl⟩
  ·exact YJ
  ·exact YK
  ·exact YL
  ·exact YM
  ·exact YN
  ·exact YO
  ·exact YP
  ·exact YQ
  ·exact YR
  ·exact YS
  ·exact YT
  ·exact YU
  ·exact YV
  ·exact YW
  ·exact YX
 exact key []
def t6:ak:=t5.bJ fu
theorem Mw:al P t6:=L_.aP YY
def Mx:ak:=t6.inline P 214 Tryz.f214 []
theorem YZ:al P Mx:=Mw.inline hm Tryz.func214 (by kernel_rfl) []
def My:ak:=Mx.inline P 238 Tryz.f238 []
theorem Y0:al P My:=YZ.inline hm Tryz.func238 (by kernel_rfl) []
def Mz:ak:=My.inline P 215 Tryz.f215 []
theorem Y1:al P Mz:=Y0.inline hm Tryz.func215 (by kernel_rfl) []
def MA:ak:=Mz.inline P 178 Tryz.f178 []
theorem Y2:al P MA:=Y1.inline hm Tryz.func178 (by kernel_rfl) []
def MB:ak:=MA.inline P 136 Tryz.f136 []
theorem Y3:al P MB:=Y2.inline hm Tryz.func136 (by kernel_rfl) []
def MC:ak:=MB.inline P 98 Tryz.f98 []
theorem Y4:al P MC:=Y3.inline hm Tryz.func98 (by kernel_rfl) []
def MD:ak:=MC.inline P 147 Tryz.f147 []
theorem Y5:al P MD:=Y4.inline hm Tryz.func147 (by kernel_rfl) []
def ME:ak:=MD.inline P 216 Tryz.f216 []
theorem Y6:al P ME:=Y5.inline hm Tryz.func216 (by kernel_rfl) []
def MF:ak:=ME.inline P 179 Tryz.f179 []
theorem Y7:al P MF:=Y6.inline hm Tryz.func179 (by kernel_rfl) []
def MG:ak:=MF.inline P 180 Tryz.f180 []
theorem Y8:al P MG:=Y7.inline hm Tryz.func180 (by kernel_rfl) []
def MH:ak:=MG.inline P 181 Tryz.f181 []
theorem Y9:al P MH:=Y8.inline hm Tryz.func181 (by kernel_rfl) []
def MI:ak:=MH.inline P 221 Tryz.f221 []
theorem Y_:al P MI:=Y9.inline hm Tryz.func221 (by kernel_rfl) []
def MJ:ak:=MI.inline P 188 Tryz.f188 []
theorem Y':al P MJ:=Y_.inline hm Tryz.func188 (by kernel_rfl) []
def MK:ak:=MJ.inline P 217 Tryz.f217 []
theorem Za:al P MK:=Y'.inline hm Tryz.func217 (by kernel_rfl) []
def ML:ak:=MK.inline P 182 Tryz.f182 []
theorem Zb:al P ML:=Za.inline hm Tryz.func182 (by kernel_rfl) []
def MM:ak:=ML.inline P 137 Tryz.f137 []
theorem Zc:al P MM:=Zb.inline hm Tryz.func137 (by kernel_rfl) []
def MN:ak:=MM.inline P 139 Tryz.f139 []
theorem Zd:al P MN:=Zc.inline hm Tryz.func139 (by kernel_rfl) []
def MO:ak:=MN.inline P 183 Tryz.f183 []
theorem Ze:al P MO:=Zd.inline hm Tryz.func183 (by kernel_rfl) []
def MP:ak:=MO.inline P 140 Tryz.f140 []
theorem Zf:al P MP:=Ze.inline hm Tryz.func140 (by kernel_rfl) []
def MQ:ak:=MP.inline P 138 Tryz.f138 []
theorem Zg:al P MQ:=Zf.inline hm Tryz.func138 (by kernel_rfl) []
def MR:ak:=MQ.inline P 100 Tryz.f100 []
theorem Zh:al P MR:=Zg.inline hm Tryz.func100 (by kernel_rfl) []
def MS:ak:=MR.inline P 99 Tryz.f99 []
theorem Zi:al P MS:=Zh.inline hm Tryz.func99 (by kernel_rfl) []
def MT:ak:=MS.inline P 101 Tryz.f101 []
theorem Zj:al P MT:=Zi.inline hm Tryz.func101 (by kernel_rfl) []
def MU:ak:=MT.inline P 141 Tryz.f141 []
theorem Zk:al P MU:=Zj.inline hm Tryz.func141 (by kernel_rfl) []
def Zl:ak:=MU.inline P 102 Tryz.f102 []
theorem iG:al P Zl:=Zk.inline hm Tryz.func102 (by kernel_rfl) []
def MV:List (ByteArray × List G):=[(⟨#[]⟩,[.l [[.s ⟨#[]⟩,.s ⟨#[]⟩,.s ⟨#[]⟩,.i 0,.s ⟨#[]⟩]],.t false]),(⟨#[107,49]⟩,[.l [[.s ⟨#[]⟩,.s ⟨#[]⟩,.s ⟨#[]⟩,.i 0,.s ⟨#[]⟩]],.t false]),(⟨#[75,49,65,66]⟩,[.l [[.s ⟨#[]⟩,.s ⟨#[]⟩,.s ⟨#[]⟩,.i 0,.s ⟨#[]⟩]],.t false]),(⟨#[107,49,97,98,47]⟩,[.l [[.s ⟨#[]⟩,.s ⟨#[]⟩,.s ⟨#[]⟩,.i 0,.s ⟨#[]⟩]],.t false]),(⟨#[49,97]⟩,[.l [[.s ⟨#[]⟩,.s ⟨#[]⟩,.s ⟨#[]⟩,.i 0,.s ⟨#[]⟩]],.t false]),(⟨#[107,49,97,98,47,109,109,47,112]⟩,[.l [[.s ⟨#[]⟩,.s ⟨#[]⟩,.s ⟨#[]⟩,.i 0,.s ⟨#[]⟩]],.t false]),(⟨#[107,49,97,98]⟩,[.l [[.s ⟨#[107,49,97,98]⟩,.s ⟨#[107,49]⟩,.s ⟨#[97,98]⟩,.i 0,.s ⟨#[]⟩]],.t true]),(⟨#[107,49,97,97]⟩,[.l [[.s ⟨#[107,49,97,97]⟩,.s ⟨#[107,49]⟩,.s ⟨#[97,97]⟩,.i 0,.s ⟨#[]⟩]],.t true]),(⟨#[107,49,97,98,47,52]⟩,[.l [[.s ⟨#[107,49,97,98]⟩,.s ⟨#[107,49]⟩,.s ⟨#[97,98]⟩,.i 2,.s ⟨#[52]⟩]],.t true]),(⟨#[111,104,50,97,98,99]⟩,[.l [[.s ⟨#[111,104,50,97,98,99]⟩,.s ⟨#[111,104,50]⟩,.s ⟨#[97,98,99]⟩,.i 0,.s ⟨#[]⟩]],.t true]),(⟨#[111,104,50,97,98,100]⟩,[.l [[.s ⟨#[111,104,50,97,98,100]⟩,.s ⟨#[111,104,50]⟩,.s ⟨#[97,98,100]⟩,.i 0,.s ⟨#[]⟩]],.t true]),(⟨#[119,49,97,119]⟩,[.l [[.s ⟨#[119,49,97,119]⟩,.s ⟨#[119,49]⟩,.s ⟨#[97,119]⟩,.i 0,.s ⟨#[]⟩]],.t true]),(⟨#[110,49,109,109]⟩,[.l [[.s ⟨#[110,49,109,109]⟩,.s ⟨#[110,49]⟩,.s ⟨#[109,109]⟩,.i 0,.s ⟨#[]⟩]],.t true]),(⟨#[103,51,120,121,122,47,112]⟩,[.l [[.s ⟨#[103,51,120,121,122]⟩,.s ⟨#[103,51]⟩,.s ⟨#[120,121,122]⟩,.i 3,.s ⟨#[]⟩]],.t true]),(⟨#[119,49,97,120]⟩,[.l [[.s ⟨#[119,49,97,120]⟩,.s ⟨#[119,49]⟩,.s ⟨#[97,120]⟩,.i 0,.s ⟨#[]⟩]],.t true])]
def MW(d:List G):Option (List G):=vc MV (gi d 0).str
def fv:aH:=⟨57,[.s (.str)],[],[],[.s (.row L8),.s (.bool)],[],[],[],MW⟩
theorem Zm:cL P 57 [aS ⟨#[]⟩] (fv.out [.l [[.s ⟨#[]⟩,.s ⟨#[]⟩,.s ⟨#[]⟩,.i 0,.s ⟨#[]⟩]],.t false]):=dy (L:=ay) hm iG [] (fun _ _=>aN _ _ _) Tryz.func57 rfl (by kernel_rfl) (by kernel_rfl)
theorem Zn:cL P 57 [aS ⟨#[107,49]⟩] (fv.out [.l [[.s ⟨#[]⟩,.s ⟨#[]⟩,.s ⟨#[]⟩,.i 0,.s ⟨#[]⟩]],.t false]):=dy (L:=ay) hm iG [] (fun _ _=>aN _ _ _) Tryz.func57 rfl (by kernel_rfl) (by kernel_rfl)
theorem Zo:cL P 57 [aS ⟨#[75,49,65,66]⟩] (fv.out [.l [[.s ⟨#[]⟩,.s ⟨#[]⟩,.s ⟨#[]⟩,.i 0,.s ⟨#[]⟩]],.t false]):=dy (L:=ay) hm iG [] (fun _ _=>aN _ _ _) Tryz.func57 rfl (by kernel_rfl) (by kernel_rfl)
theorem Zp:cL P 57 [aS ⟨#[107,49,97,98,47]⟩] (fv.out [.l [[.s ⟨#[]⟩,.s ⟨#[]⟩,.s ⟨#[]⟩,.i 0,.s ⟨#[]⟩]],.t false]):=dy (L:=ay) hm iG [] (fun _ _=>aN _ _ _) Tryz.func57 rfl (by kernel_rfl) (by kernel_rfl)
theorem Zq:cL P 57 [aS ⟨#[49,97]⟩] (fv.out [.l [[.s ⟨#[]⟩,.s ⟨#[]⟩,.s ⟨#[]⟩,.i 0,.s ⟨#[]⟩]],.t false]):=dy (L:=ay) hm iG [] (fun _ _=>aN _ _ _) Tryz.func57 rfl (by kernel_rfl) (by kernel_rfl)
theorem Zr:cL P 57 [aS ⟨#[107,49,97,98,47,109,109,47,112]⟩] (fv.out [.l [[.s ⟨#[]⟩,.s ⟨#[]⟩,.s ⟨#[]⟩,.i 0,.s ⟨#[]⟩]],.t false]):=dy (L:=ay) hm iG [] (fun _ _=>aN _ _ _) Tryz.func57 rfl (by kernel_rfl) (by kernel_rfl)
theorem Zs:cL P 57 [aS ⟨#[107,49,97,98]⟩] (fv.out [.l [[.s ⟨#[107,49,97,98]⟩,.s ⟨#[107,49]⟩,.s ⟨#[97,98]⟩,.i 0,.s ⟨#[]⟩]],.t true]):=dy (L:=ay) hm iG [] (fun _ _=>aN _ _ _) Tryz.func57 rfl (by kernel_rfl) (by kernel_rfl)
theorem Zt:cL P 57 [aS ⟨#[107,49,97,97]⟩] (fv.out [.l [[.s ⟨#[107,49,97,97]⟩,.s ⟨#[107,49]⟩,.s ⟨#[97,97]⟩,.i 0,.s ⟨#[]⟩]],.t true]):=dy (L:=ay) hm iG [] (fun _ _=>aN _ _ _) Tryz.func57 rfl (by kernel_rfl) (by kernel_rfl)
theorem Zu:cL P 57 [aS ⟨#[107,49,97,98,47,52]⟩] (fv.out [.l [[.s ⟨#[107,49,97,98]⟩,.s ⟨#[107,49]⟩,.s ⟨#[97,98]⟩,.i 2,.s ⟨#[52]⟩]],.t true]):=dy (L:=ay) hm iG [] (fun _ _=>aN _ _ _) Tryz.func57 rfl (by kernel_rfl) (by kernel_rfl)
theorem Zv:cL P 57 [aS ⟨#[111,104,50,97,98,99]⟩] (fv.out [.l [[.s ⟨#[111,104,50,97,98,99]⟩,.s ⟨#[111,104,50]⟩,.s ⟨#[97,98,99]⟩,.i 0,.s ⟨#[]⟩]],.t true]):=dy (L:=ay) hm iG [] (fun _ _=>aN _ _ _) Tryz.func57 rfl (by kernel_rfl) (by kernel_rfl)
theorem Zw:cL P 57 [aS ⟨#[111,104,50,97,98,100]⟩] (fv.out [.l [[.s ⟨#[111,104,50,97,98,100]⟩,.s ⟨#[111,104,50]⟩,.s ⟨#[97,98,100]⟩,.i 0,.s ⟨#[]⟩]],.t true]):=dy (L:=ay) hm iG [] (fun _ _=>aN _ _ _) Tryz.func57 rfl (by kernel_rfl) (by kernel_rfl)
theorem Zx:cL P 57 [aS ⟨#[119,49,97,119]⟩] (fv.out [.l [[.s ⟨#[119,49,97,119]⟩,.s ⟨#[119,49]⟩,.s ⟨#[97,119]⟩,.i 0,.s ⟨#[]⟩]],.t true]):=dy (L:=ay) hm iG [] (fun _ _=>aN _ _ _) Tryz.func57 rfl (by kernel_rfl) (by kernel_rfl)
theorem Zy:cL P 57 [aS ⟨#[110,49,109,109]⟩] (fv.out [.l [[.s ⟨#[110,49,109,109]⟩,.s ⟨#[110,49]⟩,.s ⟨#[109,109]⟩,.i 0,.s ⟨#[]⟩]],.t true]):=dy (L:=ay) hm iG [] (fun _ _=>aN _ _ _) Tryz.func57 rfl (by kernel_rfl) (by kernel_rfl)
theorem Zz:cL P 57 [aS ⟨#[103,51,120,121,122,47,112]⟩] (fv.out [.l [[.s ⟨#[103,51,120,121,122]⟩,.s ⟨#[103,51]⟩,.s ⟨#[120,121,122]⟩,.i 3,.s ⟨#[]⟩]],.t true]):=dy (L:=ay) hm iG [] (fun _ _=>aN _ _ _) Tryz.func57 rfl (by kernel_rfl) (by kernel_rfl)
theorem ZA:cL P 57 [aS ⟨#[119,49,97,120]⟩] (fv.out [.l [[.s ⟨#[119,49,97,120]⟩,.s ⟨#[119,49]⟩,.s ⟨#[97,120]⟩,.i 0,.s ⟨#[]⟩]],.t true]):=dy (L:=ay) hm iG [] (fun _ _=>aN _ _ _) Tryz.func57 rfl (by kernel_rfl) (by kernel_rfl)
theorem ZB:∀ d r,MW d=some r→dB P 57 (fv.args0 d) (ao (fv.H0 d)) (fv.out r) (ao (fv.H1 r)):=fun d r h=>by
 have h:=Dl h;have key:cL P 57 [aS (gi d 0).str] (fv.out r):=by
  generalize (gi d 0).str=s at h;simp only[MV,bZ,sZ,or_false,bg]at h;rcases h with⟨rfl,rfl⟩|⟨rfl,rfl⟩|⟨rfl,rfl⟩|⟨rfl,rfl⟩|⟨rfl,rfl⟩|⟨rfl,rfl⟩|⟨rfl,rfl⟩|⟨rfl,rfl⟩|⟨rfl,rfl⟩|⟨rfl,rfl⟩|⟨rfl,rfl⟩|⟨rfl,rfl⟩|⟨rfl,rfl⟩|⟨rfl,rfl⟩|⟨rfl,rfl⟩
  ·exact Zm
  ·exact Zn
  ·exact Zo
  ·exact Zp
  ·exact Zq
  ·exact Zr
  ·exact Zs
  ·exact Zt
  ·exact Zu
  ·exact Zv
  ·exact Zw
  ·exact Zx
  ·exact Zy
  ·exact Zz
  ·exact ZA
 exact key []
def t7:ak:=t6.bJ fv
theorem MX:al P t7:=Mw.aP ZB
end
end Go.Proofs.iE
