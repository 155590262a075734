/-
 What is proved here: functions of the program as functions on data. No condition.
-/
import Derived.Test.YtjmnkdlhpemooaaGreatDoorML0
set_option linter.all false
open List renaming mem_cons→bR,not_mem_nil→nt
open Prod.mk renaming injEq→a7
namespace Go.Proofs.gY
open Go Go.AL Go.Proofs
noncomputable section
def L7:ak:=t4.inline P 135 Tryz.f135 []
theorem XR:aq P L7:=L6.inline hm Tryz.func135 (by kernel_rfl) []
def L8:ak:=L7.inline P 163 Tryz.f163 []
theorem XT:aq P L8:=XR.inline hm Tryz.func163 (by kernel_rfl) []
def L9:ak:=L8.inline P 134 Tryz.f134 []
theorem XU:aq P L9:=XT.inline hm Tryz.func134 (by kernel_rfl) []
def L_:ak:=L9.inline P 111 Tryz.f111 []
theorem XV:aq P L_:=XU.inline hm Tryz.func111 (by kernel_rfl) []
def L':ak:=L_.inline P 137 Tryz.f137 []
theorem XW:aq P L':=XV.inline hm Tryz.func137 (by kernel_rfl) []
def Ma:ak:=L'.inline P 164 Tryz.f164 []
theorem XX:aq P Ma:=XW.inline hm Tryz.func164 (by kernel_rfl) []
def Mb:ak:=Ma.inline P 138 Tryz.f138 []
theorem XY:aq P Mb:=XX.inline hm Tryz.func138 (by kernel_rfl) []
def Mc:ak:=Mb.inline P 166 Tryz.f166 []
theorem XZ:aq P Mc:=XY.inline hm Tryz.func166 (by kernel_rfl) []
def Md:ak:=Mc.inline P 140 Tryz.f140 []
theorem X5:aq P Md:=XZ.inline hm Tryz.func140 (by kernel_rfl) []
def Me:ak:=Md.inline P 189 Tryz.f189 []
theorem X6:aq P Me:=X5.inline hm Tryz.func189 (by kernel_rfl) []
def Mf:ak:=Me.inline P 191 Tryz.f191 []
theorem X8:aq P Mf:=X6.inline hm Tryz.func191 (by kernel_rfl) []
def Mg:ak:=Mf.inline P 165 Tryz.f165 []
theorem X9:aq P Mg:=X8.inline hm Tryz.func165 (by kernel_rfl) []
def Mh:ak:=Mg.inline P 186 Tryz.f186 []
theorem X_:aq P Mh:=X9.inline hm Tryz.func186 (by kernel_rfl) []
def Mi:ak:=Mh.inline P 157 Tryz.f157 []
theorem Ya:aq P Mi:=X_.inline hm Tryz.func157 (by kernel_rfl) []
def Mj:ak:=Mi.inline P 132 Tryz.f132 []
theorem Yb:aq P Mj:=Ya.inline hm Tryz.func132 (by kernel_rfl) []
def Mk:ak:=Mj.inline P 100 Tryz.f100 []
theorem Yc:aq P Mk:=Yb.inline hm Tryz.func100 (by kernel_rfl) []
def Ml:ak:=Mk.inline P 201 Tryz.f201 []
theorem Yd:aq P Ml:=Yc.inline hm Tryz.func201 (by kernel_rfl) []
def Mm:ak:=Ml.inline P 190 Tryz.f190 []
theorem Ye:aq P Mm:=Yd.inline hm Tryz.func190 (by kernel_rfl) []
def Mn:ak:=Mm.inline P 162 Tryz.f162 []
theorem Yf:aq P Mn:=Ye.inline hm Tryz.func162 (by kernel_rfl) []
def Mo:ak:=Mn.inline P 133 Tryz.f133 []
theorem Yg:aq P Mo:=Yf.inline hm Tryz.func133 (by kernel_rfl) []
def Mp:ak:=Mo.inline P 101 Tryz.f101 []
theorem Yh:aq P Mp:=Yg.inline hm Tryz.func101 (by kernel_rfl) []
def Mq:ak:=Mp.inline P 102 Tryz.f102 []
theorem Yi:aq P Mq:=Yh.inline hm Tryz.func102 (by kernel_rfl) []
def Yj:ak:=Mq.inline P 103 Tryz.f103 []
theorem iW:aq P Yj:=Yi.inline hm Tryz.func103 (by kernel_rfl) []
def Mr:List (ByteArray × List G):=[(⟨#[]⟩,[.l [[.s ⟨#[]⟩,.s ⟨#[]⟩,.s ⟨#[]⟩,.i 0,.s ⟨#[]⟩]],.t false]),(⟨#[107,49]⟩,[.l [[.s ⟨#[]⟩,.s ⟨#[]⟩,.s ⟨#[]⟩,.i 0,.s ⟨#[]⟩]],.t false]),(⟨#[75,49,65,66]⟩,[.l [[.s ⟨#[]⟩,.s ⟨#[]⟩,.s ⟨#[]⟩,.i 0,.s ⟨#[]⟩]],.t false]),(⟨#[107,49,97,98,47]⟩,[.l [[.s ⟨#[]⟩,.s ⟨#[]⟩,.s ⟨#[]⟩,.i 0,.s ⟨#[]⟩]],.t false]),(⟨#[49,97]⟩,[.l [[.s ⟨#[]⟩,.s ⟨#[]⟩,.s ⟨#[]⟩,.i 0,.s ⟨#[]⟩]],.t false]),(⟨#[107,49,97,98,47,109,109,47,112]⟩,[.l [[.s ⟨#[]⟩,.s ⟨#[]⟩,.s ⟨#[]⟩,.i 0,.s ⟨#[]⟩]],.t false]),(⟨#[107,49,97,98]⟩,[.l [[.s ⟨#[107,49,97,98]⟩,.s ⟨#[107,49]⟩,.s ⟨#[97,98]⟩,.i 0,.s ⟨#[]⟩]],.t true]),(⟨#[107,49,97,97]⟩,[.l [[.s ⟨#[107,49,97,97]⟩,.s ⟨#[107,49]⟩,.s ⟨#[97,97]⟩,.i 0,.s ⟨#[]⟩]],.t true]),(⟨#[107,49,97,98,47,52]⟩,[.l [[.s ⟨#[107,49,97,98]⟩,.s ⟨#[107,49]⟩,.s ⟨#[97,98]⟩,.i 2,.s ⟨#[52]⟩]],.t true]),(⟨#[111,104,50,97,98,99]⟩,[.l [[.s ⟨#[111,104,50,97,98,99]⟩,.s ⟨#[111,104,50]⟩,.s ⟨#[97,98,99]⟩,.i 0,.s ⟨#[]⟩]],.t true]),(⟨#[111,104,50,97,98,100]⟩,[.l [[.s ⟨#[111,104,50,97,98,100]⟩,.s ⟨#[111,104,50]⟩,.s ⟨#[97,98,100]⟩,.i 0,.s ⟨#[]⟩]],.t true]),(⟨#[119,49,97,119]⟩,[.l [[.s ⟨#[119,49,97,119]⟩,.s ⟨#[119,49]⟩,.s ⟨#[97,119]⟩,.i 0,.s ⟨#[]⟩]],.t true]),(⟨#[110,49,109,109]⟩,[.l [[.s ⟨#[110,49,109,109]⟩,.s ⟨#[110,49]⟩,.s ⟨#[109,109]⟩,.i 0,.s ⟨#[]⟩]],.t true]),(⟨#[103,51,120,121,122,47,112]⟩,[.l [[.s ⟨#[103,51,120,121,122]⟩,.s ⟨#[103,51]⟩,.s ⟨#[120,121,122]⟩,.i 3,.s ⟨#[]⟩]],.t true]),(⟨#[103,52,122,122,122]⟩,[.l [[.s ⟨#[103,52,122,122,122]⟩,.s ⟨#[103,52]⟩,.s ⟨#[122,122,122]⟩,.i 0,.s ⟨#[]⟩]],.t true])]
def zk(d:List G):Option (List G):=vo Mr (gi d 0).str
def fM:aG:=⟨71,[.s (.str)],[],[],[.s (.row L4),.s (.bool)],[],[],[],zk⟩
theorem Yk:cR P 71 [aS ⟨#[]⟩] (fM.out [.l [[.s ⟨#[]⟩,.s ⟨#[]⟩,.s ⟨#[]⟩,.i 0,.s ⟨#[]⟩]],.t false]):=dD (L:=az) hm iW [] (fun _ _=>aL _ _ _) Tryz.func71 rfl (by kernel_rfl) (by kernel_rfl)
theorem Yl:cR P 71 [aS ⟨#[107,49]⟩] (fM.out [.l [[.s ⟨#[]⟩,.s ⟨#[]⟩,.s ⟨#[]⟩,.i 0,.s ⟨#[]⟩]],.t false]):=dD (L:=az) hm iW [] (fun _ _=>aL _ _ _) Tryz.func71 rfl (by kernel_rfl) (by kernel_rfl)
theorem Ym:cR P 71 [aS ⟨#[75,49,65,66]⟩] (fM.out [.l [[.s ⟨#[]⟩,.s ⟨#[]⟩,.s ⟨#[]⟩,.i 0,.s ⟨#[]⟩]],.t false]):=dD (L:=az) hm iW [] (fun _ _=>aL _ _ _) Tryz.func71 rfl (by kernel_rfl) (by kernel_rfl)
theorem Yn:cR P 71 [aS ⟨#[107,49,97,98,47]⟩] (fM.out [.l [[.s ⟨#[]⟩,.s ⟨#[]⟩,.s ⟨#[]⟩,.i 0,.s ⟨#[]⟩]],.t false]):=dD (L:=az) hm iW [] (fun _ _=>aL _ _ _) Tryz.func71 rfl (by kernel_rfl) (by kernel_rfl)
theorem Yo:cR P 71 [aS ⟨#[49,97]⟩] (fM.out [.l [[.s ⟨#[]⟩,.s ⟨#[]⟩,.s ⟨#[]⟩,.i 0,.s ⟨#[]⟩]],.t false]):=dD (L:=az) hm iW [] (fun _ _=>aL _ _ _) Tryz.func71 rfl (by kernel_rfl) (by kernel_rfl)
theorem Yp:cR P 71 [aS ⟨#[107,49,97,98,47,109,109,47,112]⟩] (fM.out [.l [[.s ⟨#[]⟩,.s ⟨#[]⟩,.s ⟨#[]⟩,.i 0,.s ⟨#[]⟩]],.t false]):=dD (L:=az) hm iW [] (fun _ _=>aL _ _ _) Tryz.func71 rfl (by kernel_rfl) (by kernel_rfl)
theorem Yq:cR P 71 [aS ⟨#[107,49,97,98]⟩] (fM.out [.l [[.s ⟨#[107,49,97,98]⟩,.s ⟨#[107,49]⟩,.s ⟨#[97,98]⟩,.i 0,.s ⟨#[]⟩]],.t true]):=dD (L:=az) hm iW [] (fun _ _=>aL _ _ _) Tryz.func71 rfl (by kernel_rfl) (by kernel_rfl)
theorem Yr:cR P 71 [aS ⟨#[107,49,97,97]⟩] (fM.out [.l [[.s ⟨#[107,49,97,97]⟩,.s ⟨#[107,49]⟩,.s ⟨#[97,97]⟩,.i 0,.s ⟨#[]⟩]],.t true]):=dD (L:=az) hm iW [] (fun _ _=>aL _ _ _) Tryz.func71 rfl (by kernel_rfl) (by kernel_rfl)
theorem Ys:cR P 71 [aS ⟨#[107,49,97,98,47,52]⟩] (fM.out [.l [[.s ⟨#[107,49,97,98]⟩,.s ⟨#[107,49]⟩,.s ⟨#[97,98]⟩,.i 2,.s ⟨#[52]⟩]],.t true]):=dD (L:=az) hm iW [] (fun _ _=>aL _ _ _) Tryz.func71 rfl (by kernel_rfl) (by kernel_rfl)
theorem Yt:cR P 71 [aS ⟨#[111,104,50,97,98,99]⟩] (fM.out [.l [[.s ⟨#[111,104,50,97,98,99]⟩,.s ⟨#[111,104,50]⟩,.s ⟨#[97,98,99]⟩,.i 0,.s ⟨#[]⟩]],.t true]):=dD (L:=az) hm iW [] (fun _ _=>aL _ _ _) Tryz.func71 rfl (by kernel_rfl) (by kernel_rfl)
theorem Yu:cR P 71 [aS ⟨#[111,104,50,97,98,100]⟩] (fM.out [.l [[.s ⟨#[111,104,50,97,98,100]⟩,.s ⟨#[111,104,50]⟩,.s ⟨#[97,98,100]⟩,.i 0,.s ⟨#[]⟩]],.t true]):=dD (L:=az) hm iW [] (fun _ _=>aL _ _ _) Tryz.func71 rfl (by kernel_rfl) (by kernel_rfl)
theorem Yv:cR P 71 [aS ⟨#[119,49,97,119]⟩] (fM.out [.l [[.s ⟨#[119,49,97,119]⟩,.s ⟨#[119,49]⟩,.s ⟨#[97,119]⟩,.i 0,.s ⟨#[]⟩]],.t true]):=dD (L:=az) hm iW [] (fun _ _=>aL _ _ _) Tryz.func71 rfl (by kernel_rfl) (by kernel_rfl)
theorem Yw:cR P 71 [aS ⟨#[110,49,109,109]⟩] (fM.out [.l [[.s ⟨#[110,49,109,109]⟩,.s ⟨#[110,49]⟩,.s ⟨#[109,109]⟩,.i 0,.s ⟨#[]⟩]],.t true]):=dD (L:=az) hm iW [] (fun _ _=>aL _ _ _) Tryz.func71 rfl (by kernel_rfl) (by kernel_rfl)
theorem Yx:cR P 71 [aS ⟨#[103,51,120,121,122,47,112]⟩] (fM.out [.l [[.s ⟨#[103,51,120,121,122]⟩,.s ⟨#[103,51]⟩,.s ⟨#[120,121,122]⟩,.i 3,.s ⟨#[]⟩]],.t true]):=dD (L:=az) hm iW [] (fun _ _=>aL _ _ _) Tryz.func71 rfl (by kernel_rfl) (by kernel_rfl)
theorem Yy:cR P 71 [aS ⟨#[103,52,122,122,122]⟩] (fM.out [.l [[.s ⟨#[103,52,122,122,122]⟩,.s ⟨#[103,52]⟩,.s ⟨#[122,122,122]⟩,.i 0,.s ⟨#[]⟩]],.t true]):=dD (L:=az) hm iW [] (fun _ _=>aL _ _ _) Tryz.func71 rfl (by kernel_rfl) (by kernel_rfl)
theorem Yz:∀ d r,zk d=some r→dB P 71 (fM.args0 d) (aj (fM.H0 d)) (fM.out r) (aj (fM.H1 r)):=fun d r h=>by
 have h:=DH h;have key:cR P 71 [aS (gi d 0).str] (fM.out r):=by
  generalize (gi d 0).str=s at h;simp only[Mr,bR,nt,or_false,a7]at h;rcases h with⟨rfl,rfl⟩|⟨rfl,rfl⟩|⟨rfl,rfl⟩|⟨rfl,rfl⟩|⟨rfl,rfl⟩|⟨rfl,rfl⟩|⟨rfl,rfl⟩|⟨rfl,rfl⟩|⟨rfl,rfl⟩|⟨rfl,rfl⟩|⟨rfl,rfl⟩|⟨rfl,rfl⟩|⟨rfl,rfl⟩|⟨rfl,rfl⟩|⟨rfl,rfl⟩
  ·exact Yk
  ·exact Yl
  ·exact Ym
  ·exact Yn
  ·exact Yo
  ·exact Yp
  ·exact Yq
  ·exact Yr
  ·exact Ys
  ·exact Yt
  ·exact Yu
  ·exact Yv
  ·exact Yw
  ·exact Yx
  ·exact Yy
 exact key []
def t5:ak:=t4.bC fM
theorem Ms:aq P t5:=L6.aP Yz
def Mt:ak:=t5.inline P 189 Tryz.f189 []
theorem YA:aq P Mt:=Ms.inline hm Tryz.func189 (by kernel_rfl) []
def Mu:ak:=Mt.inline P 201 Tryz.f201 []
theorem YB:aq P Mu:=YA.inline hm Tryz.func201 (by kernel_rfl) []
def Mv:ak:=Mu.inline P 190 Tryz.f190 []
theorem YC:aq P Mv:=YB.inline hm Tryz.func190 (by kernel_rfl) []
def Mw:ak:=Mv.inline P 162 Tryz.f162 []
theorem YD:aq P Mw:=YC.inline hm Tryz.func162 (by kernel_rfl) []
def Mx:ak:=Mw.inline P 133 Tryz.f133 []
theorem YE:aq P Mx:=YD.inline hm Tryz.func133 (by kernel_rfl) []
def My:ak:=Mx.inline P 101 Tryz.f101 []
theorem YF:aq P My:=YE.inline hm Tryz.func101 (by kernel_rfl) []
def Mz:ak:=My.inline P 111 Tryz.f111 []
theorem YG:aq P Mz:=YF.inline hm Tryz.func111 (by kernel_rfl) []
def MA:ak:=Mz.inline P 137 Tryz.f137 []
theorem YH:aq P MA:=YG.inline hm Tryz.func137 (by kernel_rfl) []
def MB:ak:=MA.inline P 164 Tryz.f164 []
theorem YI:aq P MB:=YH.inline hm Tryz.func164 (by kernel_rfl) []
def MC:ak:=MB.inline P 138 Tryz.f138 []
theorem YJ:aq P MC:=YI.inline hm Tryz.func138 (by kernel_rfl) []
def MD:ak:=MC.inline P 166 Tryz.f166 []
theorem YK:aq P MD:=YJ.inline hm Tryz.func166 (by kernel_rfl) []
def ME:ak:=MD.inline P 140 Tryz.f140 []
theorem YL:aq P ME:=YK.inline hm Tryz.func140 (by kernel_rfl) []
def MF:ak:=ME.inline P 191 Tryz.f191 []
theorem YM:aq P MF:=YL.inline hm Tryz.func191 (by kernel_rfl) []
def MG:ak:=MF.inline P 165 Tryz.f165 []
theorem YN:aq P MG:=YM.inline hm Tryz.func165 (by kernel_rfl) []
def MH:ak:=MG.inline P 186 Tryz.f186 []
theorem YO:aq P MH:=YN.inline hm Tryz.func186 (by kernel_rfl) []
def MI:ak:=MH.inline P 157 Tryz.f157 []
theorem YP:aq P MI:=YO.inline hm Tryz.func157 (by kernel_rfl) []
def MJ:ak:=MI.inline P 159 Tryz.f159 []
theorem YQ:aq P MJ:=YP.inline hm Tryz.func159 (by kernel_rfl) []
def MK:ak:=MJ.inline P 187 Tryz.f187 []
theorem YR:aq P MK:=YQ.inline hm Tryz.func187 (by kernel_rfl) []
def ML:ak:=MK.inline P 160 Tryz.f160 []
theorem YS:aq P ML:=YR.inline hm Tryz.func160 (by kernel_rfl) []
def MM:ak:=ML.inline P 158 Tryz.f158 []
theorem YT:aq P MM:=YS.inline hm Tryz.func158 (by kernel_rfl) []
def MN:ak:=MM.inline P 128 Tryz.f128 []
theorem YU:aq P MN:=YT.inline hm Tryz.func128 (by kernel_rfl) []
def MO:ak:=MN.inline P 127 Tryz.f127 []
theorem YV:aq P MO:=YU.inline hm Tryz.func127 (by kernel_rfl) []
def MP:ak:=MO.inline P 129 Tryz.f129 []
theorem YW:aq P MP:=YV.inline hm Tryz.func129 (by kernel_rfl) []
def MQ:ak:=MP.inline P 161 Tryz.f161 []
theorem YX:aq P MQ:=YW.inline hm Tryz.func161 (by kernel_rfl) []
def YY:ak:=MQ.inline P 130 Tryz.f130 []
theorem iX:aq P YY:=YX.inline hm Tryz.func130 (by kernel_rfl) []
def MR:List (ByteArray × List G):=[(⟨#[]⟩,[.l [[.s ⟨#[]⟩,.s ⟨#[]⟩,.s ⟨#[]⟩,.i 0,.s ⟨#[]⟩]],.t false]),(⟨#[107,49]⟩,[.l [[.s ⟨#[]⟩,.s ⟨#[]⟩,.s ⟨#[]⟩,.i 0,.s ⟨#[]⟩]],.t false]),(⟨#[75,49,65,66]⟩,[.l [[.s ⟨#[]⟩,.s ⟨#[]⟩,.s ⟨#[]⟩,.i 0,.s ⟨#[]⟩]],.t false]),(⟨#[107,49,97,98,47]⟩,[.l [[.s ⟨#[]⟩,.s ⟨#[]⟩,.s ⟨#[]⟩,.i 0,.s ⟨#[]⟩]],.t false]),(⟨#[49,97]⟩,[.l [[.s ⟨#[]⟩,.s ⟨#[]⟩,.s ⟨#[]⟩,.i 0,.s ⟨#[]⟩]],.t false]),(⟨#[107,49,97,98,47,109,109,47,112]⟩,[.l [[.s ⟨#[]⟩,.s ⟨#[]⟩,.s ⟨#[]⟩,.i 0,.s ⟨#[]⟩]],.t false]),(⟨#[107,49,97,98]⟩,[.l [[.s ⟨#[107,49,97,98]⟩,.s ⟨#[107,49]⟩,.s ⟨#[97,98]⟩,.i 0,.s ⟨#[]⟩]],.t true]),(⟨#[107,49,97,97]⟩,[.l [[.s ⟨#[107,49,97,97]⟩,.s ⟨#[107,49]⟩,.s ⟨#[97,97]⟩,.i 0,.s ⟨#[]⟩]],.t true]),(⟨#[107,49,97,98,47,52]⟩,[.l [[.s ⟨#[107,49,97,98]⟩,.s ⟨#[107,49]⟩,.s ⟨#[97,98]⟩,.i 2,.s ⟨#[52]⟩]],.t true]),(⟨#[111,104,50,97,98,99]⟩,[.l [[.s ⟨#[111,104,50,97,98,99]⟩,.s ⟨#[111,104,50]⟩,.s ⟨#[97,98,99]⟩,.i 0,.s ⟨#[]⟩]],.t true]),(⟨#[111,104,50,97,98,100]⟩,[.l [[.s ⟨#[111,104,50,97,98,100]⟩,.s ⟨#[111,104,50]⟩,.s ⟨#[97,98,100]⟩,.i 0,.s ⟨#[]⟩]],.t true]),(⟨#[119,49,97,119]⟩,[.l [[.s ⟨#[119,49,97,119]⟩,.s ⟨#[119,49]⟩,.s ⟨#[97,119]⟩,.i 0,.s ⟨#[]⟩]],.t true]),(⟨#[110,49,109,109]⟩,[.l [[.s ⟨#[110,49,109,109]⟩,.s ⟨#[110,49]⟩,.s ⟨#[109,109]⟩,.i 0,.s ⟨#[]⟩]],.t true]),(⟨#[103,51,120,121,122,47,112]⟩,[.l [[.s ⟨#[103,51,120,121,122]⟩,.s ⟨#[103,51]⟩,.s ⟨#[120,121,122]⟩,.i 3,.s ⟨#[]⟩]],.t true]),(⟨#[103,52,122,122,122]⟩,[.l [[.s ⟨#[103,52,122,122,122]⟩,.s ⟨#[103,52]⟩,.s ⟨#[122,122,122]⟩,.i 0,.s ⟨#[]⟩]],.t true])]
def DI(d:List G):Option (List G):=vo MR (gi d 0).str
def fN:aG:=⟨93,[.s (.str)],[],[],[.s (.row L4),.s (.bool)],[],[],[],DI⟩
theorem YZ:cR P 93 [aS ⟨#[]⟩] (fN.out [.l [[.s ⟨#[]⟩,.s ⟨#[]⟩,.s ⟨#[]⟩,.i 0,.s ⟨#[]⟩]],.t false]):=dD (L:=az) hm iX [] (fun _ _=>aL _ _ _) Tryz.func93 rfl (by kernel_rfl) (by kernel_rfl)
theorem Y0:cR P 93 [aS ⟨#[107,49]⟩] (fN.out [.l [[.s ⟨#[]⟩,.s ⟨#[]⟩,.s ⟨#[]⟩,.i 0,.s ⟨#[]⟩]],.t false]):=dD (L:=az) hm iX [] (fun _ _=>aL _ _ _) Tryz.func93 rfl (by kernel_rfl) (by kernel_rfl)
theorem Y1:cR P 93 [aS ⟨#[75,49,65,66]⟩] (fN.out [.l [[.s ⟨#[]⟩,.s ⟨#[]⟩,.s ⟨#[]⟩,.i 0,.s ⟨#[]⟩]],.t false]):=dD (L:=az) hm iX [] (fun _ _=>aL _ _ _) Tryz.func93 rfl (by kernel_rfl) (by kernel_rfl)
theorem Y2:cR P 93 [aS ⟨#[107,49,97,98,47]⟩] (fN.out [.l [[.s ⟨#[]⟩,.s ⟨#[]⟩,.s ⟨#[]⟩,.i 0,.s ⟨#[]⟩]],.t false]):=dD (L:=az) hm iX [] (fun _ _=>aL _ _ _) Tryz.func93 rfl (by kernel_rfl) (by kernel_rfl)
theorem Y3:cR P 93 [aS ⟨#[49,97]⟩] (fN.out [.l [[.s ⟨#[]⟩,.s ⟨#[]⟩,.s ⟨#[]⟩,.i 0,.s ⟨#[]⟩]],.t false]):=dD (L:=az) hm iX [] (fun _ _=>aL _ _ _) Tryz.func93 rfl (by kernel_rfl) (by kernel_rfl)
theorem Y4:cR P 93 [aS ⟨#[107,49,97,98,47,109,109,47,112]⟩] (fN.out [.l [[.s ⟨#[]⟩,.s ⟨#[]⟩,.s ⟨#[]⟩,.i 0,.s ⟨#[]⟩]],.t false]):=dD (L:=az) hm iX [] (fun _ _=>aL _ _ _) Tryz.func93 rfl (by kernel_rfl) (by kernel_rfl)
theorem Y5:cR P 93 [aS ⟨#[107,49,97,98]⟩] (fN.out [.l [[.s ⟨#[107,49,97,98]⟩,.s ⟨#[107,49]⟩,.s ⟨#[97,98]⟩,.i 0,.s ⟨#[]⟩]],.t true]):=dD (L:=az) hm iX [] (fun _ _=>aL _ _ _) Tryz.func93 rfl (by kernel_rfl) (by kernel_rfl)
theorem Y6:cR P 93 [aS ⟨#[107,49,97,97]⟩] (fN.out [.l [[.s ⟨#[107,49,97,97]⟩,.s ⟨#[107,49]⟩,.s ⟨#[97,97]⟩,.i 0,.s ⟨#[]⟩]],.t true]):=dD (L:=az) hm iX [] (fun _ _=>aL _ _ _) Tryz.func93 rfl (by kernel_rfl) (by kernel_rfl)
theorem Y7:cR P 93 [aS ⟨#[107,49,97,98,47,52]⟩] (fN.out [.l [[.s ⟨#[107,49,97,98]⟩,.s ⟨#[107,49]⟩,.s ⟨#[97,98]⟩,.i 2,.s ⟨#[52]⟩]],.t true]):=dD (L:=az) hm iX [] (fun _ _=>aL _ _ _) Tryz.func93 rfl (by kernel_rfl) (by kernel_rfl)
theorem Y8:cR P 93 [aS ⟨#[111,104,50,97,98,99]⟩] (fN.out [.l [[.s ⟨#[111,104,50,97,98,99]⟩,.s ⟨#[111,104,50]⟩,.s ⟨#[97,98,99]⟩,.i 0,.s ⟨#[]⟩]],.t true]):=dD (L:=az) hm iX [] (fun _ _=>aL _ _ _) Tryz.func93 rfl (by kernel_rfl) (by kernel_rfl)
theorem Y9:cR P 93 [aS ⟨#[111,104,50,97,98,100]⟩] (fN.out [.l [[.s ⟨#[111,104,50,97,98,100]⟩,.s ⟨#[111,104,50]⟩,.s ⟨#[97,98,100]⟩,.i 0,.s ⟨#[]⟩]],.t true]):=dD (L:=az) hm iX [] (fun _ _=>aL _ _ _) Tryz.func93 rfl (by kernel_rfl) (by kernel_rfl)
theorem Y_:cR P 93 [aS ⟨#[119,49,97,119]⟩] (fN.out [.l [[.s ⟨#[119,49,97,119]⟩,.s ⟨#[119,49]⟩,.s ⟨#[97,119]⟩,.i 0,.s ⟨#[]⟩]],.t true]):=dD (L:=az) hm iX [] (fun _ _=>aL _ _ _) Tryz.func93 rfl (by kernel_rfl) (by kernel_rfl)
theorem Y':cR P 93 [aS ⟨#[110,49,109,109]⟩] (fN.out [.l [[.s ⟨#[110,49,109,109]⟩,.s ⟨#[110,49]⟩,.s ⟨#[109,109]⟩,.i 0,.s ⟨#[]⟩]],.t true]):=dD (L:=az) hm iX [] (fun _ _=>aL _ _ _) Tryz.func93 rfl (by kernel_rfl) (by kernel_rfl)
theorem Za:cR P 93 [aS ⟨#[103,51,120,121,122,47,112]⟩] (fN.out [.l [[.s ⟨#[103,51,120,121,122]⟩,.s ⟨#[103,51]⟩,.s ⟨#[120,121,122]⟩,.i 3,.s ⟨#[]⟩]],.t true]):=dD (L:=az) hm iX [] (fun _ _=>aL _ _ _) Tryz.func93 rfl (by kernel_rfl) (by kernel_rfl)
theorem Zb:cR P 93 [aS ⟨#[103,52,122,122,122]⟩] (fN.out [.l [[.s ⟨#[103,52,122,122,122]⟩,.s ⟨#[103,52]⟩,.s ⟨#[122,122,122]⟩,.i 0,.s ⟨#[]⟩]],.t true]):=dD (L:=az) hm iX [] (fun _ _=>aL _ _ _) Tryz.func93 rfl (by kernel_rfl) (by kernel_rfl)
theorem Zc:∀ d r,DI d=some r→dB P 93 (fN.args0 d) (aj (fN.H0 d)) (fN.out r) (aj (fN.H1 r)):=fun d r h=>by
 have h:=DH h;have key:cR P 93 [aS (gi d 0).str] (fN.out r):=by
  generalize (gi d 0).str=s at h;simp only[MR,bR,nt,or_false,a7]at h;rcases h with⟨rfl,rfl⟩|⟨rfl,rfl⟩|⟨rfl,rfl⟩|⟨rfl,rfl⟩|⟨rfl,rfl⟩|⟨rfl,rfl⟩|⟨rfl,rfl⟩|⟨rfl,rfl⟩|⟨rfl,rfl⟩|⟨rfl,rfl⟩|⟨rfl,rfl⟩|⟨rfl,rfl⟩|⟨rfl,rfl⟩|⟨rfl,rfl⟩|⟨rfl,rfl⟩
  ·exact YZ
  ·exact Y0
  ·exact Y1
  ·exact Y2
  ·exact Y3
  ·exact Y4
  ·exact Y5
  ·exact Y6
  ·exact Y7
  ·exact Y8
  ·exact Y9
  ·exact Y_
  ·exact Y'
  ·exact Za
  ·exact Zb
 exact key []
def t6:ak:=t5.bC fN
theorem MS:aq P t6:=Ms.aP Zc
end
end Go.Proofs.gY
