/-
 What is proved here: functions of the program as functions on data. No condition.
-/
import Derived.Test.YtnijefkndkgebaaGreatDoorML0
set_option linter.all false
open List renaming mem_cons→bY,not_mem_nil→oD
open Prod.mk renaming injEq→bh
namespace Go.Proofs.iE
open Go Go.AL Go.Proofs
noncomputable section
def L9:ak:=t5.inline P 214 Tryz.f214 []
theorem Yt:al P L9:=L8.inline hm Tryz.func214 (by kernel_rfl) []
def L_:ak:=L9.inline P 238 Tryz.f238 []
theorem Yu:al P L_:=Yt.inline hm Tryz.func238 (by kernel_rfl) []
def Ma:ak:=L_.inline P 215 Tryz.f215 []
theorem Yv:al P Ma:=Yu.inline hm Tryz.func215 (by kernel_rfl) []
def Mb:ak:=Ma.inline P 178 Tryz.f178 []
theorem Yw:al P Mb:=Yv.inline hm Tryz.func178 (by kernel_rfl) []
def Mc:ak:=Mb.inline P 136 Tryz.f136 []
theorem Yx:al P Mc:=Yw.inline hm Tryz.func136 (by kernel_rfl) []
def Md:ak:=Mc.inline P 98 Tryz.f98 []
theorem Yy:al P Md:=Yx.inline hm Tryz.func98 (by kernel_rfl) []
def Me:ak:=Md.inline P 147 Tryz.f147 []
theorem Yz:al P Me:=Yy.inline hm Tryz.func147 (by kernel_rfl) []
def Mf:ak:=Me.inline P 216 Tryz.f216 []
theorem YA:al P Mf:=Yz.inline hm Tryz.func216 (by kernel_rfl) []
def Mg:ak:=Mf.inline P 179 Tryz.f179 []
theorem YB:al P Mg:=YA.inline hm Tryz.func179 (by kernel_rfl) []
def Mh:ak:=Mg.inline P 180 Tryz.f180 []
theorem YC:al P Mh:=YB.inline hm Tryz.func180 (by kernel_rfl) []
def Mi:ak:=Mh.inline P 181 Tryz.f181 []
theorem YD:al P Mi:=YC.inline hm Tryz.func181 (by kernel_rfl) []
def Mj:ak:=Mi.inline P 221 Tryz.f221 []
theorem YE:al P Mj:=YD.inline hm Tryz.func221 (by kernel_rfl) []
def Mk:ak:=Mj.inline P 188 Tryz.f188 []
theorem YF:al P Mk:=YE.inline hm Tryz.func188 (by kernel_rfl) []
def Ml:ak:=Mk.inline P 217 Tryz.f217 []
theorem YG:al P Ml:=YF.inline hm Tryz.func217 (by kernel_rfl) []
def Mm:ak:=Ml.inline P 182 Tryz.f182 []
theorem YH:al P Mm:=YG.inline hm Tryz.func182 (by kernel_rfl) []
def Mn:ak:=Mm.inline P 137 Tryz.f137 []
theorem YI:al P Mn:=YH.inline hm Tryz.func137 (by kernel_rfl) []
def Mo:ak:=Mn.inline P 220 Tryz.f220 []
theorem YJ:al P Mo:=YI.inline hm Tryz.func220 (by kernel_rfl) []
def Mp:ak:=Mo.inline P 239 Tryz.f239 []
theorem YK:al P Mp:=YJ.inline hm Tryz.func239 (by kernel_rfl) []
def Mq:ak:=Mp.inline P 219 Tryz.f219 []
theorem YL:al P Mq:=YK.inline hm Tryz.func219 (by kernel_rfl) []
def Mr:ak:=Mq.inline P 218 Tryz.f218 []
theorem YM:al P Mr:=YL.inline hm Tryz.func218 (by kernel_rfl) []
def Ms:ak:=Mr.inline P 184 Tryz.f184 []
theorem YN:al P Ms:=YM.inline hm Tryz.func184 (by kernel_rfl) []
def Mt:ak:=Ms.inline P 185 Tryz.f185 []
theorem YO:al P Mt:=YN.inline hm Tryz.func185 (by kernel_rfl) []
def YP:ak:=Mt.inline P 186 Tryz.f186 []
theorem iF:al P YP:=YO.inline hm Tryz.func186 (by kernel_rfl) []
def Mu:List (ByteArray × List G):=[(⟨#[]⟩,[.l [[.s ⟨#[]⟩,.s ⟨#[]⟩,.s ⟨#[]⟩,.i 0,.s ⟨#[]⟩]],.t false]),(⟨#[107,49]⟩,[.l [[.s ⟨#[]⟩,.s ⟨#[]⟩,.s ⟨#[]⟩,.i 0,.s ⟨#[]⟩]],.t false]),(⟨#[75,49,65,66]⟩,[.l [[.s ⟨#[]⟩,.s ⟨#[]⟩,.s ⟨#[]⟩,.i 0,.s ⟨#[]⟩]],.t false]),(⟨#[107,49,97,98,47]⟩,[.l [[.s ⟨#[]⟩,.s ⟨#[]⟩,.s ⟨#[]⟩,.i 0,.s ⟨#[]⟩]],.t false]),(⟨#[49,97]⟩,[.l [[.s ⟨#[]⟩,.s ⟨#[]⟩,.s ⟨#[]⟩,.i 0,.s ⟨#[]⟩]],.t false]),(⟨#[107,49,97,98,47,109,109,47,112]⟩,[.l [[.s ⟨#[]⟩,.s ⟨#[]⟩,.s ⟨#[]⟩,.i 0,.s ⟨#[]⟩]],.t false]),(⟨#[107,49,97,98]⟩,[.l [[.s ⟨#[107,49,97,98]⟩,.s ⟨#[107,49]⟩,.s ⟨#[97,98]⟩,.i 0,.s ⟨#[]⟩]],.t true]),(⟨#[107,49,97,97]⟩,[.l [[.s ⟨#[107,49,97,97]⟩,.s ⟨#[107,49]⟩,.s ⟨#[97,97]⟩,.i 0,.s ⟨#[]⟩]],.t true]),(⟨#[107,49,97,98,47,52]⟩,[.l [[.s ⟨#[107,49,97,98]⟩,.s ⟨#[107,49]⟩,.s ⟨#[97,98]⟩,.i 2,.s ⟨#[52]⟩]],.t true]),(⟨#[111,104,50,97,98,99]⟩,[.l [[.s ⟨#[111,104,50,97,98,99]⟩,.s ⟨#[111,104,50]⟩,.s ⟨#[97,98,99]⟩,.i 0,.s ⟨#[]⟩]],.t true]),(⟨#[111,104,50,97,98,100]⟩,[.l [[.s ⟨#[111,104,50,97,98,100]⟩,.s ⟨#[111,104,50]⟩,.s ⟨#[97,98,100]⟩,.i 0,.s ⟨#[]⟩]],.t true]),(⟨#[119,49,97,119]⟩,[.l [[.s ⟨#[119,49,97,119]⟩,.s ⟨#[119,49]⟩,.s ⟨#[97,119]⟩,.i 0,.s ⟨#[]⟩]],.t true]),(⟨#[110,49,109,109]⟩,[.l [[.s ⟨#[110,49,109,109]⟩,.s ⟨#[110,49]⟩,.s ⟨#[109,109]⟩,.i 0,.s ⟨#[]⟩]],.t true]),(⟨#[103,51,120,121,122,47,112]⟩,[.l [[.s ⟨#[103,51,120,121,122]⟩,.s ⟨#[103,51]⟩,.s ⟨#[120,121,122]⟩,.i 3,.s ⟨#[]⟩]],.t true]),(⟨#[119,49,97,120]⟩,[.l [[.s ⟨#[119,49,97,120]⟩,.s ⟨#[119,49]⟩,.s ⟨#[97,120]⟩,.i 0,.s ⟨#[]⟩]],.t true])]
def y_(d:List G):Option (List G):=uY Mu (gi d 0).str
def fA:aH:=⟨143,[.s (.str)],[],[],[.s (.row L6),.s (.bool)],[],[],[],y_⟩
theorem YQ:cJ P 143 [aS ⟨#[]⟩] (fA.out [.l [[.s ⟨#[]⟩,.s ⟨#[]⟩,.s ⟨#[]⟩,.i 0,.s ⟨#[]⟩]],.t false]):=dz (L:=ay) hm iF [] (fun _ _=>aM _ _ _) Tryz.func143 rfl (by kernel_rfl) (by kernel_rfl)
theorem YR:cJ P 143 [aS ⟨#[107,49]⟩] (fA.out [.l [[.s ⟨#[]⟩,.s ⟨#[]⟩,.s ⟨#[]⟩,.i 0,.s ⟨#[]⟩]],.t false]):=dz (L:=ay) hm iF [] (fun _ _=>aM _ _ _) Tryz.func143 rfl (by kernel_rfl) (by kernel_rfl)
theorem YS:cJ P 143 [aS ⟨#[75,49,65,66]⟩] (fA.out [.l [[.s ⟨#[]⟩,.s ⟨#[]⟩,.s ⟨#[]⟩,.i 0,.s ⟨#[]⟩]],.t false]):=dz (L:=ay) hm iF [] (fun _ _=>aM _ _ _) Tryz.func143 rfl (by kernel_rfl) (by kernel_rfl)
theorem YT:cJ P 143 [aS ⟨#[107,49,97,98,47]⟩] (fA.out [.l [[.s ⟨#[]⟩,.s ⟨#[]⟩,.s ⟨#[]⟩,.i 0,.s ⟨#[]⟩]],.t false]):=dz (L:=ay) hm iF [] (fun _ _=>aM _ _ _) Tryz.func143 rfl (by kernel_rfl) (by kernel_rfl)
theorem YU:cJ P 143 [aS ⟨#[49,97]⟩] (fA.out [.l [[.s ⟨#[]⟩,.s ⟨#[]⟩,.s ⟨#[]⟩,.i 0,.s ⟨#[]⟩]],.t false]):=dz (L:=ay) hm iF [] (fun _ _=>aM _ _ _) Tryz.func143 rfl (by kernel_rfl) (by kernel_rfl)
theorem YV:cJ P 143 [aS ⟨#[107,49,97,98,47,109,109,47,112]⟩] (fA.out [.l [[.s ⟨#[]⟩,.s ⟨#[]⟩,.s ⟨#[]⟩,.i 0,.s ⟨#[]⟩]],.t false]):=dz (L:=ay) hm iF [] (fun _ _=>aM _ _ _) Tryz.func143 rfl (by kernel_rfl) (by kernel_rfl)
theorem YW:cJ P 143 [aS ⟨#[107,49,97,98]⟩] (fA.out [.l [[.s ⟨#[107,49,97,98]⟩,.s ⟨#[107,49]⟩,.s ⟨#[97,98]⟩,.i 0,.s ⟨#[]⟩]],.t true]):=dz (L:=ay) hm iF [] (fun _ _=>aM _ _ _) Tryz.func143 rfl (by kernel_rfl) (by kernel_rfl)
theorem YX:cJ P 143 [aS ⟨#[107,49,97,97]⟩] (fA.out [.l [[.s ⟨#[107,49,97,97]⟩,.s ⟨#[107,49]⟩,.s ⟨#[97,97]⟩,.i 0,.s ⟨#[]⟩]],.t true]):=dz (L:=ay) hm iF [] (fun _ _=>aM _ _ _) Tryz.func143 rfl (by kernel_rfl) (by kernel_rfl)
theorem YY:cJ P 143 [aS ⟨#[107,49,97,98,47,52]⟩] (fA.out [.l [[.s ⟨#[107,49,97,98]⟩,.s ⟨#[107,49]⟩,.s ⟨#[97,98]⟩,.i 2,.s ⟨#[52]⟩]],.t true]):=dz (L:=ay) hm iF [] (fun _ _=>aM _ _ _) Tryz.func143 rfl (by kernel_rfl) (by kernel_rfl)
theorem YZ:cJ P 143 [aS ⟨#[111,104,50,97,98,99]⟩] (fA.out [.l [[.s ⟨#[111,104,50,97,98,99]⟩,.s ⟨#[111,104,50]⟩,.s ⟨#[97,98,99]⟩,.i 0,.s ⟨#[]⟩]],.t true]):=dz (L:=ay) hm iF [] (fun _ _=>aM _ _ _) Tryz.func143 rfl (by kernel_rfl) (by kernel_rfl)
theorem Y0:cJ P 143 [aS ⟨#[111,104,50,97,98,100]⟩] (fA.out [.l [[.s ⟨#[111,104,50,97,98,100]⟩,.s ⟨#[111,104,50]⟩,.s ⟨#[97,98,100]⟩,.i 0,.s ⟨#[]⟩]],.t true]):=dz (L:=ay) hm iF [] (fun _ _=>aM _ _ _) Tryz.func143 rfl (by kernel_rfl) (by kernel_rfl)
theorem Y1:cJ P 143 [aS ⟨#[119,49,97,119]⟩] (fA.out [.l [[.s ⟨#[119,49,97,119]⟩,.s ⟨#[119,49]⟩,.s ⟨#[97,119]⟩,.i 0,.s ⟨#[]⟩]],.t true]):=dz (L:=ay) hm iF [] (fun _ _=>aM _ _ _) Tryz.func143 rfl (by kernel_rfl) (by kernel_rfl)
theorem Y2:cJ P 143 [aS ⟨#[110,49,109,109]⟩] (fA.out [.l [[.s ⟨#[110,49,109,109]⟩,.s ⟨#[110,49]⟩,.s ⟨#[109,109]⟩,.i 0,.s ⟨#[]⟩]],.t true]):=dz (L:=ay) hm iF [] (fun _ _=>aM _ _ _) Tryz.func143 rfl (by kernel_rfl) (by kernel_rfl)
theorem Y3:cJ P 143 [aS ⟨#[103,51,120,121,122,47,112]⟩] (fA.out [.l [[.s ⟨#[103,51,120,121,122]⟩,.s ⟨#[103,51]⟩,.s ⟨#[120,121,122]⟩,.i 3,.s ⟨#[]⟩]],.t true]):=dz (L:=ay) hm iF [] (fun _ _=>aM _ _ _) Tryz.func143 rfl (by kernel_rfl) (by kernel_rfl)
theorem Y4:cJ P 143 [aS ⟨#[119,49,97,120]⟩] (fA.out [.l [[.s ⟨#[119,49,97,120]⟩,.s ⟨#[119,49]⟩,.s ⟨#[97,120]⟩,.i 0,.s ⟨#[]⟩]],.t true]):=dz (L:=ay) hm iF [] (fun _ _=>aM _ _ _) Tryz.func143 rfl (by kernel_rfl) (by kernel_rfl)
theorem Y5:∀ d r,y_ d=some r→dC P 143 (fA.args0 d) (ao (fA.H0 d)) (fA.out r) (ao (fA.H1 r)):=fun d r h=>by
 have h:=Dk h;have key:cJ P 143 [aS (gi d 0).str] (fA.out r):=by
  generalize (gi d 0).str=s at h;simp only[Mu,bY,oD,or_false,bh]at h;rcases h with⟨rfl,rfl⟩|⟨rfl,rfl⟩|⟨rfl,rfl⟩|⟨rfl,rfl⟩|⟨rfl,rfl⟩|⟨rfl,rfl⟩|⟨rfl,rfl⟩|⟨rfl,rfl⟩|⟨rfl,rfl⟩|⟨rfl,rfl⟩|⟨rfl,rfl⟩|⟨rfl,rfl⟩|⟨rfl,rfl⟩|⟨rfl,rfl⟩|⟨rfl,rfl⟩
  ·exact YQ
  ·exact YR
  ·exact YS
  ·exact YT
  ·exact YU
  ·exact YV
  ·exact YW
  ·exact YX
  ·exact YY
  ·exact YZ
  ·exact Y0
  ·exact Y1
  ·exact Y2
  ·exact Y3
  ·exact Y4
 exact key []
def t6:ak:=t5.bt fA
theorem Mv:al P t6:=L8.aP Y5
def Mw:ak:=t6.inline P 214 Tryz.f214 []
theorem Y6:al P Mw:=Mv.inline hm Tryz.func214 (by kernel_rfl) []
def Mx:ak:=Mw.inline P 238 Tryz.f238 []
theorem Y7:al P Mx:=Y6.inline hm Tryz.func238 (by kernel_rfl) []
def My:ak:=Mx.inline P 215 Tryz.f215 []
theorem Y8:al P My:=Y7.inline hm Tryz.func215 (by kernel_rfl) []
def Mz:ak:=My.inline P 178 Tryz.f178 []
theorem Y9:al P Mz:=Y8.inline hm Tryz.func178 (by kernel_rfl) []
def MA:ak:=Mz.inline P 136 Tryz.f136 []
theorem Y_:al P MA:=Y9.inline hm Tryz.func136 (by kernel_rfl) []
def MB:ak:=MA.inline P 98 Tryz.f98 []
theorem Y':al P MB:=Y_.inline hm Tryz.func98 (by kernel_rfl) []
def MC:ak:=MB.inline P 147 Tryz.f147 []
theorem Za:al P MC:=Y'.inline hm Tryz.func147 (by kernel_rfl) []
def MD:ak:=MC.inline P 216 Tryz.f216 []
theorem Zb:al P MD:=Za.inline hm Tryz.func216 (by kernel_rfl) []
def ME:ak:=MD.inline P 179 Tryz.f179 []
theorem Zc:al P ME:=Zb.inline hm Tryz.func179 (by kernel_rfl) []
def MF:ak:=ME.inline P 180 Tryz.f180 []
theorem Zd:al P MF:=Zc.inline hm Tryz.func180 (by kernel_rfl) []
def MG:ak:=MF.inline P 181 Tryz.f181 []
theorem Ze:al P MG:=Zd.inline hm Tryz.func181 (by kernel_rfl) []
def MH:ak:=MG.inline P 221 Tryz.f221 []
theorem Zf:al P MH:=Ze.inline hm Tryz.func221 (by kernel_rfl) []
def MI:ak:=MH.inline P 188 Tryz.f188 []
theorem Zg:al P MI:=Zf.inline hm Tryz.func188 (by kernel_rfl) []
def MJ:ak:=MI.inline P 217 Tryz.f217 []
theorem Zh:al P MJ:=Zg.inline hm Tryz.func217 (by kernel_rfl) []
def MK:ak:=MJ.inline P 182 Tryz.f182 []
theorem Zi:al P MK:=Zh.inline hm Tryz.func182 (by kernel_rfl) []
def ML:ak:=MK.inline P 137 Tryz.f137 []
theorem Zj:al P ML:=Zi.inline hm Tryz.func137 (by kernel_rfl) []
def MM:ak:=ML.inline P 139 Tryz.f139 []
theorem Zk:al P MM:=Zj.inline hm Tryz.func139 (by kernel_rfl) []
def MN:ak:=MM.inline P 183 Tryz.f183 []
theorem Zl:al P MN:=Zk.inline hm Tryz.func183 (by kernel_rfl) []
def MO:ak:=MN.inline P 140 Tryz.f140 []
theorem Zm:al P MO:=Zl.inline hm Tryz.func140 (by kernel_rfl) []
def MP:ak:=MO.inline P 138 Tryz.f138 []
theorem Zn:al P MP:=Zm.inline hm Tryz.func138 (by kernel_rfl) []
def MQ:ak:=MP.inline P 100 Tryz.f100 []
theorem Zo:al P MQ:=Zn.inline hm Tryz.func100 (by kernel_rfl) []
def MR:ak:=MQ.inline P 99 Tryz.f99 []
theorem Zp:al P MR:=Zo.inline hm Tryz.func99 (by kernel_rfl) []
def MS:ak:=MR.inline P 101 Tryz.f101 []
theorem Zq:al P MS:=Zp.inline hm Tryz.func101 (by kernel_rfl) []
def MT:ak:=MS.inline P 141 Tryz.f141 []
theorem Zr:al P MT:=Zq.inline hm Tryz.func141 (by kernel_rfl) []
def Zs:ak:=MT.inline P 102 Tryz.f102 []
theorem iG:al P Zs:=Zr.inline hm Tryz.func102 (by kernel_rfl) []
def MU:List (ByteArray × List G):=[(⟨#[]⟩,[.l [[.s ⟨#[]⟩,.s ⟨#[]⟩,.s ⟨#[]⟩,.i 0,.s ⟨#[]⟩]],.t false]),(⟨#[107,49]⟩,[.l [[.s ⟨#[]⟩,.s ⟨#[]⟩,.s ⟨#[]⟩,.i 0,.s ⟨#[]⟩]],.t false]),(⟨#[75,49,65,66]⟩,[.l [[.s ⟨#[]⟩,.s ⟨#[]⟩,.s ⟨#[]⟩,.i 0,.s ⟨#[]⟩]],.t false]),(⟨#[107,49,97,98,47]⟩,[.l [[.s ⟨#[]⟩,.s ⟨#[]⟩,.s ⟨#[]⟩,.i 0,.s ⟨#[]⟩]],.t false]),(⟨#[49,97]⟩,[.l [[.s ⟨#[]⟩,.s ⟨#[]⟩,.s ⟨#[]⟩,.i 0,.s ⟨#[]⟩]],.t false]),(⟨#[107,49,97,98,47,109,109,47,112]⟩,[.l [[.s ⟨#[]⟩,.s ⟨#[]⟩,.s ⟨#[]⟩,.i 0,.s ⟨#[]⟩]],.t false]),(⟨#[107,49,97,98]⟩,[.l [[.s ⟨#[107,49,97,98]⟩,.s ⟨#[107,49]⟩,.s ⟨#[97,98]⟩,.i 0,.s ⟨#[]⟩]],.t true]),(⟨#[107,49,97,97]⟩,[.l [[.s ⟨#[107,49,97,97]⟩,.s ⟨#[107,49]⟩,.s ⟨#[97,97]⟩,.i 0,.s ⟨#[]⟩]],.t true]),(⟨#[107,49,97,98,47,52]⟩,[.l [[.s ⟨#[107,49,97,98]⟩,.s ⟨#[107,49]⟩,.s ⟨#[97,98]⟩,.i 2,.s ⟨#[52]⟩]],.t true]),(⟨#[111,104,50,97,98,99]⟩,[.l [[.s ⟨#[111,104,50,97,98,99]⟩,.s ⟨#[111,104,50]⟩,.s ⟨#[97,98,99]⟩,.i 0,.s ⟨#[]⟩]],.t true]),(⟨#[111,104,50,97,98,100]⟩,[.l [[.s ⟨#[111,104,50,97,98,100]⟩,.s ⟨#[111,104,50]⟩,.s ⟨#[97,98,100]⟩,.i 0,.s ⟨#[]⟩]],.t true]),(⟨#[119,49,97,119]⟩,[.l [[.s ⟨#[119,49,97,119]⟩,.s ⟨#[119,49]⟩,.s ⟨#[97,119]⟩,.i 0,.s ⟨#[]⟩]],.t true]),(⟨#[110,49,109,109]⟩,[.l [[.s ⟨#[110,49,109,109]⟩,.s ⟨#[110,49]⟩,.s ⟨#[109,109]⟩,.i 0,.s ⟨#[]⟩]],.t true]),(⟨#[103,51,120,121,122,47,112]⟩,[.l [[.s ⟨#[103,51,120,121,122]⟩,.s ⟨#[103,51]⟩,.s ⟨#[120,121,122]⟩,.i 3,.s ⟨#[]⟩]],.t true]),(⟨#[119,49,97,120]⟩,[.l [[.s ⟨#[119,49,97,120]⟩,.s ⟨#[119,49]⟩,.s ⟨#[97,120]⟩,.i 0,.s ⟨#[]⟩]],.t true])]
def Dm(d:List G):Option (List G):=uY MU (gi d 0).str
def fB:aH:=⟨57,[.s (.str)],[],[],[.s (.row L6),.s (.bool)],[],[],[],Dm⟩
theorem Zt:cJ P 57 [aS ⟨#[]⟩] (fB.out [.l [[.s ⟨#[]⟩,.s ⟨#[]⟩,.s ⟨#[]⟩,.i 0,.s ⟨#[]⟩]],.t false]):=dz (L:=ay) hm iG [] (fun _ _=>aM _ _ _) Tryz.func57 rfl (by kernel_rfl) (by kernel_rfl)
theorem Zu:cJ P 57 [aS ⟨#[107,49]⟩] (fB.out [.l [[.s ⟨#[]⟩,.s ⟨#[]⟩,.s ⟨#[]⟩,.i 0,.s ⟨#[]⟩]],.t false]):=dz (L:=ay) hm iG [] (fun _ _=>aM _ _ _) Tryz.func57 rfl (by kernel_rfl) (by kernel_rfl)
theorem Zv:cJ P 57 [aS ⟨#[75,49,65,66]⟩] (fB.out [.l [[.s ⟨#[]⟩,.s ⟨#[]⟩,.s ⟨#[]⟩,.i 0,.s ⟨#[]⟩]],.t false]):=dz (L:=ay) hm iG [] (fun _ _=>aM _ _ _) Tryz.func57 rfl (by kernel_rfl) (by kernel_rfl)
theorem Zw:cJ P 57 [aS ⟨#[107,49,97,98,47]⟩] (fB.out [.l [[.s ⟨#[]⟩,.s ⟨#[]⟩,.s ⟨#[]⟩,.i 0,.s ⟨#[]⟩]],.t false]):=dz (L:=ay) hm iG [] (fun _ _=>aM _ _ _) Tryz.func57 rfl (by kernel_rfl) (by kernel_rfl)
theorem Zx:cJ P 57 [aS ⟨#[49,97]⟩] (fB.out [.l [[.s ⟨#[]⟩,.s ⟨#[]⟩,.s ⟨#[]⟩,.i 0,.s ⟨#[]⟩]],.t false]):=dz (L:=ay) hm iG [] (fun _ _=>aM _ _ _) Tryz.func57 rfl (by kernel_rfl) (by kernel_rfl)
theorem Zy:cJ P 57 [aS ⟨#[107,49,97,98,47,109,109,47,112]⟩] (fB.out [.l [[.s ⟨#[]⟩,.s ⟨#[]⟩,.s ⟨#[]⟩,.i 0,.s ⟨#[]⟩]],.t false]):=dz (L:=ay) hm iG [] (fun _ _=>aM _ _ _) Tryz.func57 rfl (by kernel_rfl) (by kernel_rfl)
theorem Zz:cJ P 57 [aS ⟨#[107,49,97,98]⟩] (fB.out [.l [[.s ⟨#[107,49,97,98]⟩,.s ⟨#[107,49]⟩,.s ⟨#[97,98]⟩,.i 0,.s ⟨#[]⟩]],.t true]):=dz (L:=ay) hm iG [] (fun _ _=>aM _ _ _) Tryz.func57 rfl (by kernel_rfl) (by kernel_rfl)
theorem ZA:cJ P 57 [aS ⟨#[107,49,97,97]⟩] (fB.out [.l [[.s ⟨#[107,49,97,97]⟩,.s ⟨#[107,49]⟩,.s ⟨#[97,97]⟩,.i 0,.s ⟨#[]⟩]],.t true]):=dz (L:=ay) hm iG [] (fun _ _=>aM _ _ _) Tryz.func57 rfl (by kernel_rfl) (by kernel_rfl)
theorem ZB:cJ P 57 [aS ⟨#[107,49,97,98,47,52]⟩] (fB.out [.l [[.s ⟨#[107,49,97,98]⟩,.s ⟨#[107,49]⟩,.s ⟨#[97,98]⟩,.i 2,.s ⟨#[52]⟩]],.t true]):=dz (L:=ay) hm iG [] (fun _ _=>aM _ _ _) Tryz.func57 rfl (by kernel_rfl) (by kernel_rfl)
theorem ZC:cJ P 57 [aS ⟨#[111,104,50,97,98,99]⟩] (fB.out [.l [[.s ⟨#[111,104,50,97,98,99]⟩,.s ⟨#[111,104,50]⟩,.s ⟨#[97,98,99]⟩,.i 0,.s ⟨#[]⟩]],.t true]):=dz (L:=ay) hm iG [] (fun _ _=>aM _ _ _) Tryz.func57 rfl (by kernel_rfl) (by kernel_rfl)
theorem ZD:cJ P 57 [aS ⟨#[111,104,50,97,98,100]⟩] (fB.out [.l [[.s ⟨#[111,104,50,97,98,100]⟩,.s ⟨#[111,104,50]⟩,.s ⟨#[97,98,100]⟩,.i 0,.s ⟨#[]⟩]],.t true]):=dz (L:=ay) hm iG [] (fun _ _=>aM _ _ _) Tryz.func57 rfl (by kernel_rfl) (by kernel_rfl)
theorem ZE:cJ P 57 [aS ⟨#[119,49,97,119]⟩] (fB.out [.l [[.s ⟨#[119,49,97,119]⟩,.s ⟨#[119,49]⟩,.s ⟨#[97,119]⟩,.i 0,.s ⟨#[]⟩]],.t true]):=dz (L:=ay) hm iG [] (fun _ _=>aM _ _ _) Tryz.func57 rfl (by kernel_rfl) (by kernel_rfl)
theorem ZF:cJ P 57 [aS ⟨#[110,49,109,109]⟩] (fB.out [.l [[.s ⟨#[110,49,109,109]⟩,.s ⟨#[110,49]⟩,.s ⟨#[109,109]⟩,.i 0,.s ⟨#[]⟩]],.t true]):=dz (L:=ay) hm iG [] (fun _ _=>aM _ _ _) Tryz.func57 rfl (by kernel_rfl) (by kernel_rfl)
theorem ZG:cJ P 57 [aS ⟨#[103,51,120,121,122,47,112]⟩] (fB.out [.l [[.s ⟨#[103,51,120,121,122]⟩,.s ⟨#[103,51]⟩,.s ⟨#[120,121,122]⟩,.i 3,.s ⟨#[]⟩]],.t true]):=dz (L:=ay) hm iG [] (fun _ _=>aM _ _ _) Tryz.func57 rfl (by kernel_rfl) (by kernel_rfl)
theorem ZH:cJ P 57 [aS ⟨#[119,49,97,120]⟩] (fB.out [.l [[.s ⟨#[119,49,97,120]⟩,.s ⟨#[119,49]⟩,.s ⟨#[97,120]⟩,.i 0,.s ⟨#[]⟩]],.t true]):=dz (L:=ay) hm iG [] (fun _ _=>aM _ _ _) Tryz.func57 rfl (by kernel_rfl) (by kernel_rfl)
theorem ZI:∀ d r,Dm d=some r→dC P 57 (fB.args0 d) (ao (fB.H0 d)) (fB.out r) (ao (fB.H1 r)):=fun d r h=>by
 have h:=Dk h;have key:cJ P 57 [aS (gi d 0).str] (fB.out r):=by
  generalize (gi d 0).str=s at h;simp only[MU,bY,oD,or_false,bh]at h;rcases h with⟨rfl,rfl⟩|⟨rfl,rfl⟩|⟨rfl,rfl⟩|⟨rfl,rfl⟩|⟨rfl,rfl⟩|⟨rfl,rfl⟩|⟨rfl,rfl⟩|⟨rfl,rfl⟩|⟨rfl,rfl⟩|⟨rfl,rfl⟩|⟨rfl,rfl⟩|⟨rfl,rfl⟩|⟨rfl,rfl⟩|⟨rfl,rfl⟩|⟨rfl,rfl⟩
  ·exact Zt
  ·exact Zu
  ·exact Zv
  ·exact Zw
  ·exact Zx
  ·exact Zy
  ·exact Zz
  ·exact ZA
  ·exact ZB
  ·exact ZC
  ·exact ZD
  ·exact ZE
  ·exact ZF
  ·exact ZG
  ·exact ZH
 exact key []
def t7:ak:=t6.bt fB
theorem MV:al P t7:=Mv.aP ZI
end
end Go.Proofs.iE
