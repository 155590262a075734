/-
 What is proved here: functions of the program as functions on data. No condition.
-/
import Derived.Test.YtnijefkndkgebaaGreatDoorML0
set_option linter.all false
open List renaming mem_cons→bV,not_mem_nil→od
open Prod.mk renaming injEq→be
namespace Go.Proofs.iz
open Go Go.AL Go.Proofs
noncomputable section
def Lq:aj:=t5.inline P 214 Tryz.f214 []
theorem Xl:ak P Lq:=Lp.inline hm Tryz.func214 (by kernel_rfl) []
def Lr:aj:=Lq.inline P 238 Tryz.f238 []
theorem Xm:ak P Lr:=Xl.inline hm Tryz.func238 (by kernel_rfl) []
def Ls:aj:=Lr.inline P 215 Tryz.f215 []
theorem Xn:ak P Ls:=Xm.inline hm Tryz.func215 (by kernel_rfl) []
def Lt:aj:=Ls.inline P 178 Tryz.f178 []
theorem Xo:ak P Lt:=Xn.inline hm Tryz.func178 (by kernel_rfl) []
def Lu:aj:=Lt.inline P 136 Tryz.f136 []
theorem Xp:ak P Lu:=Xo.inline hm Tryz.func136 (by kernel_rfl) []
def Lv:aj:=Lu.inline P 98 Tryz.f98 []
theorem Xq:ak P Lv:=Xp.inline hm Tryz.func98 (by kernel_rfl) []
def Lw:aj:=Lv.inline P 147 Tryz.f147 []
theorem Xr:ak P Lw:=Xq.inline hm Tryz.func147 (by kernel_rfl) []
def Lx:aj:=Lw.inline P 216 Tryz.f216 []
theorem Xs:ak P Lx:=Xr.inline hm Tryz.func216 (by kernel_rfl) []
def Ly:aj:=Lx.inline P 179 Tryz.f179 []
theorem Xt:ak P Ly:=Xs.inline hm Tryz.func179 (by kernel_rfl) []
def Lz:aj:=Ly.inline P 180 Tryz.f180 []
theorem Xu:ak P Lz:=Xt.inline hm Tryz.func180 (by kernel_rfl) []
def LA:aj:=Lz.inline P 181 Tryz.f181 []
theorem Xv:ak P LA:=Xu.inline hm Tryz.func181 (by kernel_rfl) []
def LB:aj:=LA.inline P 221 Tryz.f221 []
theorem Xw:ak P LB:=Xv.inline hm Tryz.func221 (by kernel_rfl) []
def LC:aj:=LB.inline P 188 Tryz.f188 []
theorem Xx:ak P LC:=Xw.inline hm Tryz.func188 (by kernel_rfl) []
def LD:aj:=LC.inline P 217 Tryz.f217 []
theorem Xy:ak P LD:=Xx.inline hm Tryz.func217 (by kernel_rfl) []
def LF:aj:=LD.inline P 182 Tryz.f182 []
theorem Xz:ak P LF:=Xy.inline hm Tryz.func182 (by kernel_rfl) []
def LG:aj:=LF.inline P 137 Tryz.f137 []
theorem XA:ak P LG:=Xz.inline hm Tryz.func137 (by kernel_rfl) []
def LH:aj:=LG.inline P 220 Tryz.f220 []
theorem XB:ak P LH:=XA.inline hm Tryz.func220 (by kernel_rfl) []
def LI:aj:=LH.inline P 239 Tryz.f239 []
theorem XC:ak P LI:=XB.inline hm Tryz.func239 (by kernel_rfl) []
def LJ:aj:=LI.inline P 219 Tryz.f219 []
theorem XD:ak P LJ:=XC.inline hm Tryz.func219 (by kernel_rfl) []
def LK:aj:=LJ.inline P 218 Tryz.f218 []
theorem XE:ak P LK:=XD.inline hm Tryz.func218 (by kernel_rfl) []
def LL:aj:=LK.inline P 184 Tryz.f184 []
theorem XF:ak P LL:=XE.inline hm Tryz.func184 (by kernel_rfl) []
def LM:aj:=LL.inline P 185 Tryz.f185 []
theorem XG:ak P LM:=XF.inline hm Tryz.func185 (by kernel_rfl) []
def XH:aj:=LM.inline P 186 Tryz.f186 []
theorem iA:ak P XH:=XG.inline hm Tryz.func186 (by kernel_rfl) []
def LN:List (ByteArray × List G):=[(⟨#[]⟩,[.l [[.s ⟨#[]⟩,.s ⟨#[]⟩,.s ⟨#[]⟩,.i 0,.s ⟨#[]⟩]],.t false]),(⟨#[107,49]⟩,[.l [[.s ⟨#[]⟩,.s ⟨#[]⟩,.s ⟨#[]⟩,.i 0,.s ⟨#[]⟩]],.t false]),(⟨#[75,49,65,66]⟩,[.l [[.s ⟨#[]⟩,.s ⟨#[]⟩,.s ⟨#[]⟩,.i 0,.s ⟨#[]⟩]],.t false]),(⟨#[107,49,97,98,47]⟩,[.l [[.s ⟨#[]⟩,.s ⟨#[]⟩,.s ⟨#[]⟩,.i 0,.s ⟨#[]⟩]],.t false]),(⟨#[49,97]⟩,[.l [[.s ⟨#[]⟩,.s ⟨#[]⟩,.s ⟨#[]⟩,.i 0,.s ⟨#[]⟩]],.t false]),(⟨#[107,49,97,98,47,109,109,47,112]⟩,[.l [[.s ⟨#[]⟩,.s ⟨#[]⟩,.s ⟨#[]⟩,.i 0,.s ⟨#[]⟩]],.t false]),(⟨#[107,49,97,98]⟩,[.l [[.s ⟨#[107,49,97,98]⟩,.s ⟨#[107,49]⟩,.s ⟨#[97,98]⟩,.i 0,.s ⟨#[]⟩]],.t true]),(⟨#[107,49,97,97]⟩,[.l [[.s ⟨#[107,49,97,97]⟩,.s ⟨#[107,49]⟩,.s ⟨#[97,97]⟩,.i 0,.s ⟨#[]⟩]],.t true]),(⟨#[107,49,97,98,47,52]⟩,[.l [[.s ⟨#[107,49,97,98]⟩,.s ⟨#[107,49]⟩,.s ⟨#[97,98]⟩,.i 2,.s ⟨#[52]⟩]],.t true]),(⟨#[111,104,50,97,98,99]⟩,[.l [[.s ⟨#[111,104,50,97,98,99]⟩,.s ⟨#[111,104,50]⟩,.s ⟨#[97,98,99]⟩,.i 0,.s ⟨#[]⟩]],.t true]),(⟨#[111,104,50,97,98,100]⟩,[.l [[.s ⟨#[111,104,50,97,98,100]⟩,.s ⟨#[111,104,50]⟩,.s ⟨#[97,98,100]⟩,.i 0,.s ⟨#[]⟩]],.t true]),(⟨#[119,49,97,119]⟩,[.l [[.s ⟨#[119,49,97,119]⟩,.s ⟨#[119,49]⟩,.s ⟨#[97,119]⟩,.i 0,.s ⟨#[]⟩]],.t true]),(⟨#[110,49,109,109]⟩,[.l [[.s ⟨#[110,49,109,109]⟩,.s ⟨#[110,49]⟩,.s ⟨#[109,109]⟩,.i 0,.s ⟨#[]⟩]],.t true]),(⟨#[103,51,120,121,122,47,112]⟩,[.l [[.s ⟨#[103,51,120,121,122]⟩,.s ⟨#[103,51]⟩,.s ⟨#[120,121,122]⟩,.i 3,.s ⟨#[]⟩]],.t true]),(⟨#[119,49,97,120]⟩,[.l [[.s ⟨#[119,49,97,120]⟩,.s ⟨#[119,49]⟩,.s ⟨#[97,120]⟩,.i 0,.s ⟨#[]⟩]],.t true])]
def yC(d:List G):Option (List G):=uG LN (gi d 0).str
def fq:aD:=⟨143,[.s (.str)],[],[],[.s (.row Ln),.s (.bool)],[],[],[],yC⟩
theorem XI:cH P 143 [aS ⟨#[]⟩] (fq.out [.l [[.s ⟨#[]⟩,.s ⟨#[]⟩,.s ⟨#[]⟩,.i 0,.s ⟨#[]⟩]],.t false]):=dn (L:=ay) hm iA [] (fun _ _=>aM _ _ _) Tryz.func143 rfl (by kernel_rfl) (by kernel_rfl)
theorem XJ:cH P 143 [aS ⟨#[107,49]⟩] (fq.out [.l [[.s ⟨#[]⟩,.s ⟨#[]⟩,.s ⟨#[]⟩,.i 0,.s ⟨#[]⟩]],.t false]):=dn (L:=ay) hm iA [] (fun _ _=>aM _ _ _) Tryz.func143 rfl (by kernel_rfl) (by kernel_rfl)
theorem XK:cH P 143 [aS ⟨#[75,49,65,66]⟩] (fq.out [.l [[.s ⟨#[]⟩,.s ⟨#[]⟩,.s ⟨#[]⟩,.i 0,.s ⟨#[]⟩]],.t false]):=dn (L:=ay) hm iA [] (fun _ _=>aM _ _ _) Tryz.func143 rfl (by kernel_rfl) (by kernel_rfl)
theorem XL:cH P 143 [aS ⟨#[107,49,97,98,47]⟩] (fq.out [.l [[.s ⟨#[]⟩,.s ⟨#[]⟩,.s ⟨#[]⟩,.i 0,.s ⟨#[]⟩]],.t false]):=dn (L:=ay) hm iA [] (fun _ _=>aM _ _ _) Tryz.func143 rfl (by kernel_rfl) (by kernel_rfl)
theorem XM:cH P 143 [aS ⟨#[49,97]⟩] (fq.out [.l [[.s ⟨#[]⟩,.s ⟨#[]⟩,.s ⟨#[]⟩,.i 0,.s ⟨#[]⟩]],.t false]):=dn (L:=ay) hm iA [] (fun _ _=>aM _ _ _) Tryz.func143 rfl (by kernel_rfl) (by kernel_rfl)
theorem XN:cH P 143 [aS ⟨#[107,49,97,98,47,109,109,47,112]⟩] (fq.out [.l [[.s ⟨#[]⟩,.s ⟨#[]⟩,.s ⟨#[]⟩,.i 0,.s ⟨#[]⟩]],.t false]):=dn (L:=ay) hm iA [] (fun _ _=>aM _ _ _) Tryz.func143 rfl (by kernel_rfl) (by kernel_rfl)
theorem XO:cH P 143 [aS ⟨#[107,49,97,98]⟩] (fq.out [.l [[.s ⟨#[107,49,97,98]⟩,.s ⟨#[107,49]⟩,.s ⟨#[97,98]⟩,.i 0,.s ⟨#[]⟩]],.t true]):=dn (L:=ay) hm iA [] (fun _ _=>aM _ _ _) Tryz.func143 rfl (by kernel_rfl) (by kernel_rfl)
theorem XP:cH P 143 [aS ⟨#[107,49,97,97]⟩] (fq.out [.l [[.s ⟨#[107,49,97,97]⟩,.s ⟨#[107,49]⟩,.s ⟨#[97,97]⟩,.i 0,.s ⟨#[]⟩]],.t true]):=dn (L:=ay) hm iA [] (fun _ _=>aM _ _ _) Tryz.func143 rfl (by kernel_rfl) (by kernel_rfl)
theorem XQ:cH P 143 [aS ⟨#[107,49,97,98,47,52]⟩] (fq.out [.l [[.s ⟨#[107,49,97,98]⟩,.s ⟨#[107,49]⟩,.s ⟨#[97,98]⟩,.i 2,.s ⟨#[52]⟩]],.t true]):=dn (L:=ay) hm iA [] (fun _ _=>aM _ _ _) Tryz.func143 rfl (by kernel_rfl) (by kernel_rfl)
theorem XR:cH P 143 [aS ⟨#[111,104,50,97,98,99]⟩] (fq.out [.l [[.s ⟨#[111,104,50,97,98,99]⟩,.s ⟨#[111,104,50]⟩,.s ⟨#[97,98,99]⟩,.i 0,.s ⟨#[]⟩]],.t true]):=dn (L:=ay) hm iA [] (fun _ _=>aM _ _ _) Tryz.func143 rfl (by kernel_rfl) (by kernel_rfl)
theorem XT:cH P 143 [aS ⟨#[111,104,50,97,98,100]⟩] (fq.out [.l [[.s ⟨#[111,104,50,97,98,100]⟩,.s ⟨#[111,104,50]⟩,.s ⟨#[97,98,100]⟩,.i 0,.s ⟨#[]⟩]],.t true]):=dn (L:=ay) hm iA [] (fun _ _=>aM _ _ _) Tryz.func143 rfl (by kernel_rfl) (by kernel_rfl)
theorem XU:cH P 143 [aS ⟨#[119,49,97,119]⟩] (fq.out [.l [[.s ⟨#[119,49,97,119]⟩,.s ⟨#[119,49]⟩,.s ⟨#[97,119]⟩,.i 0,.s ⟨#[]⟩]],.t true]):=dn (L:=ay) hm iA [] (fun _ _=>aM _ _ _) Tryz.func143 rfl (by kernel_rfl) (by kernel_rfl)
theorem XV:cH P 143 [aS ⟨#[110,49,109,109]⟩] (fq.out [.l [[.s ⟨#[110,49,109,109]⟩,.s ⟨#[110,49]⟩,.s ⟨#[109,109]⟩,.i 0,.s ⟨#[]⟩]],.t true]):=dn (L:=ay) hm iA [] (fun _ _=>aM _ _ _) Tryz.func143 rfl (by kernel_rfl) (by kernel_rfl)
theorem XW:cH P 143 [aS ⟨#[103,51,120,121,122,47,112]⟩] (fq.out [.l [[.s ⟨#[103,51,120,121,122]⟩,.s ⟨#[103,51]⟩,.s ⟨#[120,121,122]⟩,.i 3,.s ⟨#[]⟩]],.t true]):=dn (L:=ay) hm iA [] (fun _ _=>aM _ _ _) Tryz.func143 rfl (by kernel_rfl) (by kernel_rfl)
theorem XX:cH P 143 [aS ⟨#[119,49,97,120]⟩] (fq.out [.l [[.s ⟨#[119,49,97,120]⟩,.s ⟨#[119,49]⟩,.s ⟨#[97,120]⟩,.i 0,.s ⟨#[]⟩]],.t true]):=dn (L:=ay) hm iA [] (fun _ _=>aM _ _ _) Tryz.func143 rfl (by kernel_rfl) (by kernel_rfl)
theorem XY:∀ d r,yC d=some r→dv P 143 (fq.args0 d) (ao (fq.H0 d)) (fq.out r) (ao (fq.H1 r)):=fun d r h=>by
 have h:=CP h;have key:cH P 143 [aS (gi d 0).str] (fq.out r):=by
  generalize (gi d 0).str=s at h;simp only[LN,bV,od,or_false,be]at h;rcases h with⟨rfl,rfl⟩|⟨rfl,rfl⟩|⟨rfl,rfl⟩|⟨rfl,rfl⟩|⟨rfl,rfl⟩|⟨rfl,rfl⟩|⟨rfl,rfl⟩|⟨rfl,rfl⟩|⟨rfl,rfl⟩|⟨rfl,rfl⟩|⟨rfl,rfl⟩|⟨rfl,rfl⟩|⟨rfl,rfl⟩|⟨rfl,rfl⟩|⟨rfl,rfl⟩
  ·exact XI
  ·exact XJ
  ·exact XK
  ·exact XL
  ·exact XM
  ·exact XN
  ·exact XO
  ·exact XP
  ·exact XQ
  ·exact XR
  ·exact XT
  ·exact XU
  ·exact XV
  ·exact XW
  ·exact XX
 exact key []
def t6:aj:=t5.bf fq
theorem LO:ak P t6:=Lp.aP XY
def LP:aj:=t6.inline P 214 Tryz.f214 []
theorem XZ:ak P LP:=LO.inline hm Tryz.func214 (by kernel_rfl) []
def LQ:aj:=LP.inline P 238 Tryz.f238 []
theorem X5:ak P LQ:=XZ.inline hm Tryz.func238 (by kernel_rfl) []
def LR:aj:=LQ.inline P 215 Tryz.f215 []
theorem X6:ak P LR:=X5.inline hm Tryz.func215 (by kernel_rfl) []
def LS:aj:=LR.inline P 178 Tryz.f178 []
theorem X8:ak P LS:=X6.inline hm Tryz.func178 (by kernel_rfl) []
def LU:aj:=LS.inline P 136 Tryz.f136 []
theorem X9:ak P LU:=X8.inline hm Tryz.func136 (by kernel_rfl) []
def LV:aj:=LU.inline P 98 Tryz.f98 []
theorem X_:ak P LV:=X9.inline hm Tryz.func98 (by kernel_rfl) []
def LW:aj:=LV.inline P 147 Tryz.f147 []
theorem Ya:ak P LW:=X_.inline hm Tryz.func147 (by kernel_rfl) []
def LX:aj:=LW.inline P 216 Tryz.f216 []
theorem Yb:ak P LX:=Ya.inline hm Tryz.func216 (by kernel_rfl) []
def LY:aj:=LX.inline P 179 Tryz.f179 []
theorem Yc:ak P LY:=Yb.inline hm Tryz.func179 (by kernel_rfl) []
def LZ:aj:=LY.inline P 180 Tryz.f180 []
theorem Yd:ak P LZ:=Yc.inline hm Tryz.func180 (by kernel_rfl) []
def L0:aj:=LZ.inline P 181 Tryz.f181 []
theorem Ye:ak P L0:=Yd.inline hm Tryz.func181 (by kernel_rfl) []
def L1:aj:=L0.inline P 221 Tryz.f221 []
theorem Yf:ak P L1:=Ye.inline hm Tryz.func221 (by kernel_rfl) []
def L2:aj:=L1.inline P 188 Tryz.f188 []
theorem Yg:ak P L2:=Yf.inline hm Tryz.func188 (by kernel_rfl) []
def L3:aj:=L2.inline P 217 Tryz.f217 []
theorem Yh:ak P L3:=Yg.inline hm Tryz.func217 (by kernel_rfl) []
def L4:aj:=L3.inline P 182 Tryz.f182 []
theorem Yi:ak P L4:=Yh.inline hm Tryz.func182 (by kernel_rfl) []
def L5:aj:=L4.inline P 137 Tryz.f137 []
theorem Yj:ak P L5:=Yi.inline hm Tryz.func137 (by kernel_rfl) []
def L6:aj:=L5.inline P 139 Tryz.f139 []
theorem Yk:ak P L6:=Yj.inline hm Tryz.func139 (by kernel_rfl) []
def L7:aj:=L6.inline P 183 Tryz.f183 []
theorem Yl:ak P L7:=Yk.inline hm Tryz.func183 (by kernel_rfl) []
def L8:aj:=L7.inline P 140 Tryz.f140 []
theorem Ym:ak P L8:=Yl.inline hm Tryz.func140 (by kernel_rfl) []
def L9:aj:=L8.inline P 138 Tryz.f138 []
theorem Yn:ak P L9:=Ym.inline hm Tryz.func138 (by kernel_rfl) []
def L_:aj:=L9.inline P 100 Tryz.f100 []
theorem Yo:ak P L_:=Yn.inline hm Tryz.func100 (by kernel_rfl) []
def Ma:aj:=L_.inline P 99 Tryz.f99 []
theorem Yp:ak P Ma:=Yo.inline hm Tryz.func99 (by kernel_rfl) []
def Mb:aj:=Ma.inline P 101 Tryz.f101 []
theorem Yq:ak P Mb:=Yp.inline hm Tryz.func101 (by kernel_rfl) []
def Mc:aj:=Mb.inline P 141 Tryz.f141 []
theorem Yr:ak P Mc:=Yq.inline hm Tryz.func141 (by kernel_rfl) []
def Ys:aj:=Mc.inline P 102 Tryz.f102 []
theorem iB:ak P Ys:=Yr.inline hm Tryz.func102 (by kernel_rfl) []
def Md:List (ByteArray × List G):=[(⟨#[]⟩,[.l [[.s ⟨#[]⟩,.s ⟨#[]⟩,.s ⟨#[]⟩,.i 0,.s ⟨#[]⟩]],.t false]),(⟨#[107,49]⟩,[.l [[.s ⟨#[]⟩,.s ⟨#[]⟩,.s ⟨#[]⟩,.i 0,.s ⟨#[]⟩]],.t false]),(⟨#[75,49,65,66]⟩,[.l [[.s ⟨#[]⟩,.s ⟨#[]⟩,.s ⟨#[]⟩,.i 0,.s ⟨#[]⟩]],.t false]),(⟨#[107,49,97,98,47]⟩,[.l [[.s ⟨#[]⟩,.s ⟨#[]⟩,.s ⟨#[]⟩,.i 0,.s ⟨#[]⟩]],.t false]),(⟨#[49,97]⟩,[.l [[.s ⟨#[]⟩,.s ⟨#[]⟩,.s ⟨#[]⟩,.i 0,.s ⟨#[]⟩]],.t false]),(⟨#[107,49,97,98,47,109,109,47,112]⟩,[.l [[.s ⟨#[]⟩,.s ⟨#[]⟩,.s ⟨#[]⟩,.i 0,.s ⟨#[]⟩]],.t false]),(⟨#[107,49,97,98]⟩,[.l [[.s ⟨#[107,49,97,98]⟩,.s ⟨#[107,49]⟩,.s ⟨#[97,98]⟩,.i 0,.s ⟨#[]⟩]],.t true]),(⟨#[107,49,97,97]⟩,[.l [[.s ⟨#[107,49,97,97]⟩,.s ⟨#[107,49]⟩,.s ⟨#[97,97]⟩,.i 0,.s ⟨#[]⟩]],.t true]),(⟨#[107,49,97,98,47,52]⟩,[.l [[.s ⟨#[107,49,97,98]⟩,.s ⟨#[107,49]⟩,.s ⟨#[97,98]⟩,.i 2,.s ⟨#[52]⟩]],.t true]),(⟨#[111,104,50,97,98,99]⟩,[.l [[.s ⟨#[111,104,50,97,98,99]⟩,.s ⟨#[111,104,50]⟩,.s ⟨#[97,98,99]⟩,.i 0,.s ⟨#[]⟩]],.t true]),(⟨#[111,104,50,97,98,100]⟩,[.l [[.s ⟨#[111,104,50,97,98,100]⟩,.s ⟨#[111,104,50]⟩,.s ⟨#[97,98,100]⟩,.i 0,.s ⟨#[]⟩]],.t true]),(⟨#[119,49,97,119]⟩,[.l [[.s ⟨#[119,49,97,119]⟩,.s ⟨#[119,49]⟩,.s ⟨#[97,119]⟩,.i 0,.s ⟨#[]⟩]],.t true]),(⟨#[110,49,109,109]⟩,[.l [[.s ⟨#[110,49,109,109]⟩,.s ⟨#[110,49]⟩,.s ⟨#[109,109]⟩,.i 0,.s ⟨#[]⟩]],.t true]),(⟨#[103,51,120,121,122,47,112]⟩,[.l [[.s ⟨#[103,51,120,121,122]⟩,.s ⟨#[103,51]⟩,.s ⟨#[120,121,122]⟩,.i 3,.s ⟨#[]⟩]],.t true]),(⟨#[119,49,97,120]⟩,[.l [[.s ⟨#[119,49,97,120]⟩,.s ⟨#[119,49]⟩,.s ⟨#[97,120]⟩,.i 0,.s ⟨#[]⟩]],.t true])]
def CQ(d:List G):Option (List G):=uG Md (gi d 0).str
def ft:aD:=⟨57,[.s (.str)],[],[],[.s (.row Ln),.s (.bool)],[],[],[],CQ⟩
theorem Yt:cH P 57 [aS ⟨#[]⟩] (ft.out [.l [[.s ⟨#[]⟩,.s ⟨#[]⟩,.s ⟨#[]⟩,.i 0,.s ⟨#[]⟩]],.t false]):=dn (L:=ay) hm iB [] (fun _ _=>aM _ _ _) Tryz.func57 rfl (by kernel_rfl) (by kernel_rfl)
theorem Yu:cH P 57 [aS ⟨#[107,49]⟩] (ft.out [.l [[.s ⟨#[]⟩,.s ⟨#[]⟩,.s ⟨#[]⟩,.i 0,.s ⟨#[]⟩]],.t false]):=dn (L:=ay) hm iB [] (fun _ _=>aM _ _ _) Tryz.func57 rfl (by kernel_rfl) (by kernel_rfl)
theorem Yv:cH P 57 [aS ⟨#[75,49,65,66]⟩] (ft.out [.l [[.s ⟨#[]⟩,.s ⟨#[]⟩,.s ⟨#[]⟩,.i 0,.s ⟨#[]⟩]],.t false]):=dn (L:=ay) hm iB [] (fun _ _=>aM _ _ _) Tryz.func57 rfl (by kernel_rfl) (by kernel_rfl)
theorem Yw:cH P 57 [aS ⟨#[107,49,97,98,47]⟩] (ft.out [.l [[.s ⟨#[]⟩,.s ⟨#[]⟩,.s ⟨#[]⟩,.i 0,.s ⟨#[]⟩]],.t false]):=dn (L:=ay) hm iB [] (fun _ _=>aM _ _ _) Tryz.func57 rfl (by kernel_rfl) (by kernel_rfl)
theorem Yx:cH P 57 [aS ⟨#[49,97]⟩] (ft.out [.l [[.s ⟨#[]⟩,.s ⟨#[]⟩,.s ⟨#[]⟩,.i 0,.s ⟨#[]⟩]],.t false]):=dn (L:=ay) hm iB [] (fun _ _=>aM _ _ _) Tryz.func57 rfl (by kernel_rfl) (by kernel_rfl)
theorem Yy:cH P 57 [aS ⟨#[107,49,97,98,47,109,109,47,112]⟩] (ft.out [.l [[.s ⟨#[]⟩,.s ⟨#[]⟩,.s ⟨#[]⟩,.i 0,.s ⟨#[]⟩]],.t false]):=dn (L:=ay) hm iB [] (fun _ _=>aM _ _ _) Tryz.func57 rfl (by kernel_rfl) (by kernel_rfl)
theorem Yz:cH P 57 [aS ⟨#[107,49,97,98]⟩] (ft.out [.l [[.s ⟨#[107,49,97,98]⟩,.s ⟨#[107,49]⟩,.s ⟨#[97,98]⟩,.i 0,.s ⟨#[]⟩]],.t true]):=dn (L:=ay) hm iB [] (fun _ _=>aM _ _ _) Tryz.func57 rfl (by kernel_rfl) (by kernel_rfl)
theorem YA:cH P 57 [aS ⟨#[107,49,97,97]⟩] (ft.out [.l [[.s ⟨#[107,49,97,97]⟩,.s ⟨#[107,49]⟩,.s ⟨#[97,97]⟩,.i 0,.s ⟨#[]⟩]],.t true]):=dn (L:=ay) hm iB [] (fun _ _=>aM _ _ _) Tryz.func57 rfl (by kernel_rfl) (by kernel_rfl)
theorem YB:cH P 57 [aS ⟨#[107,49,97,98,47,52]⟩] (ft.out [.l [[.s ⟨#[107,49,97,98]⟩,.s ⟨#[107,49]⟩,.s ⟨#[97,98]⟩,.i 2,.s ⟨#[52]⟩]],.t true]):=dn (L:=ay) hm iB [] (fun _ _=>aM _ _ _) Tryz.func57 rfl (by kernel_rfl) (by kernel_rfl)
theorem YC:cH P 57 [aS ⟨#[111,104,50,97,98,99]⟩] (ft.out [.l [[.s ⟨#[111,104,50,97,98,99]⟩,.s ⟨#[111,104,50]⟩,.s ⟨#[97,98,99]⟩,.i 0,.s ⟨#[]⟩]],.t true]):=dn (L:=ay) hm iB [] (fun _ _=>aM _ _ _) Tryz.func57 rfl (by kernel_rfl) (by kernel_rfl)
theorem YD:cH P 57 [aS ⟨#[111,104,50,97,98,100]⟩] (ft.out [.l [[.s ⟨#[111,104,50,97,98,100]⟩,.s ⟨#[111,104,50]⟩,.s ⟨#[97,98,100]⟩,.i 0,.s ⟨#[]⟩]],.t true]):=dn (L:=ay) hm iB [] (fun _ _=>aM _ _ _) Tryz.func57 rfl (by kernel_rfl) (by kernel_rfl)
theorem YE:cH P 57 [aS ⟨#[119,49,97,119]⟩] (ft.out [.l [[.s ⟨#[119,49,97,119]⟩,.s ⟨#[119,49]⟩,.s ⟨#[97,119]⟩,.i 0,.s ⟨#[]⟩]],.t true]):=dn (L:=ay) hm iB [] (fun _ _=>aM _ _ _) Tryz.func57 rfl (by kernel_rfl) (by kernel_rfl)
theorem YF:cH P 57 [aS ⟨#[110,49,109,109]⟩] (ft.out [.l [[.s ⟨#[110,49,109,109]⟩,.s ⟨#[110,49]⟩,.s ⟨#[109,109]⟩,.i 0,.s ⟨#[]⟩]],.t true]):=dn (L:=ay) hm iB [] (fun _ _=>aM _ _ _) Tryz.func57 rfl (by kernel_rfl) (by kernel_rfl)
theorem YG:cH P 57 [aS ⟨#[103,51,120,121,122,47,112]⟩] (ft.out [.l [[.s ⟨#[103,51,120,121,122]⟩,.s ⟨#[103,51]⟩,.s ⟨#[120,121,122]⟩,.i 3,.s ⟨#[]⟩]],.t true]):=dn (L:=ay) hm iB [] (fun _ _=>aM _ _ _) Tryz.func57 rfl (by kernel_rfl) (by kernel_rfl)
theorem YH:cH P 57 [aS ⟨#[119,49,97,120]⟩] (ft.out [.l [[.s ⟨#[119,49,97,120]⟩,.s ⟨#[119,49]⟩,.s ⟨#[97,120]⟩,.i 0,.s ⟨#[]⟩]],.t true]):=dn (L:=ay) hm iB [] (fun _ _=>aM _ _ _) Tryz.func57 rfl (by kernel_rfl) (by kernel_rfl)
theorem YI:∀ d r,CQ d=some r→dv P 57 (ft.args0 d) (ao (ft.H0 d)) (ft.out r) (ao (ft.H1 r)):=fun d r h=>by
 have h:=CP h;have key:cH P 57 [aS (gi d 0).str] (ft.out r):=by
  generalize (gi d 0).str=s at h;simp only[Md,bV,od,or_false,be]at h;rcases h with⟨rfl,rfl⟩|⟨rfl,rfl⟩|⟨rfl,rfl⟩|⟨rfl,rfl⟩|⟨rfl,rfl⟩|⟨rfl,rfl⟩|⟨rfl,rfl⟩|⟨rfl,rfl⟩|⟨rfl,rfl⟩|⟨rfl,rfl⟩|⟨rfl,rfl⟩|⟨rfl,rfl⟩|⟨rfl,rfl⟩|⟨rfl,rfl⟩|⟨rfl,rfl⟩
  ·exact Yt
  ·exact Yu
  ·exact Yv
  ·exact Yw
  ·exact Yx
  ·exact Yy
  ·exact Yz
  ·exact YA
  ·exact YB
  ·exact YC
  ·exact YD
  ·exact YE
  ·exact YF
  ·exact YG
  ·exact YH
 exact key []
def t7:aj:=t6.bf ft
theorem Me:ak P t7:=LO.aP YI
end
end Go.Proofs.iz
