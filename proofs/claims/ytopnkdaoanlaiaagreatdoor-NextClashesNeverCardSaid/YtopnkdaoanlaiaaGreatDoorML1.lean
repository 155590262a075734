/-
 What is proved here: functions of the program as functions on data. No condition.
-/
import Derived.Test.YtopnkdaoanlaiaaGreatDoorML0
set_option linter.all false
open List renaming mem_cons→bI,not_mem_nil→iL
open Prod.mk renaming injEq→aZ
namespace Go.Proofs.gq
open Go Go.AL Go.Proofs Tryz
noncomputable section
def M':ah:=t5.inline P 240 f240 []
theorem YD:ai P M':=M_.inline hm func240 (by kernel_rfl) []
def Na:ah:=M'.inline P 270 f270 []
theorem YE:ai P Na:=YD.inline hm func270 (by kernel_rfl) []
def Nb:ah:=Na.inline P 239 f239 []
theorem YF:ai P Nb:=YE.inline hm func239 (by kernel_rfl) []
def Nc:ah:=Nb.inline P 139 f139 []
theorem YG:ai P Nc:=YF.inline hm func139 (by kernel_rfl) []
def Nd:ah:=Nc.inline P 194 f194 []
theorem YH:ai P Nd:=YG.inline hm func194 (by kernel_rfl) []
def Nf:ah:=Nd.inline P 241 f241 []
theorem YI:ai P Nf:=YH.inline hm func241 (by kernel_rfl) []
def Ng:ah:=Nf.inline P 195 f195 []
theorem YJ:ai P Ng:=YI.inline hm func195 (by kernel_rfl) []
def Nh:ah:=Ng.inline P 243 f243 []
theorem YK:ai P Nh:=YJ.inline hm func243 (by kernel_rfl) []
def Ni:ah:=Nh.inline P 197 f197 []
theorem YL:ai P Ni:=YK.inline hm func197 (by kernel_rfl) []
def Nj:ah:=Ni.inline P 271 f271 []
theorem YM:ai P Nj:=YL.inline hm func271 (by kernel_rfl) []
def Nk:ah:=Nj.inline P 272 f272 []
theorem YN:ai P Nk:=YM.inline hm func272 (by kernel_rfl) []
def Nl:ah:=Nk.inline P 242 f242 []
theorem YO:ai P Nl:=YN.inline hm func242 (by kernel_rfl) []
def Nn:ah:=Nl.inline P 278 f278 []
theorem YP:ai P Nn:=YO.inline hm func278 (by kernel_rfl) []
def No:ah:=Nn.inline P 255 f255 []
theorem YQ:ai P No:=YP.inline hm func255 (by kernel_rfl) []
def Np:ah:=No.inline P 237 f237 []
theorem YR:ai P Np:=YQ.inline hm func237 (by kernel_rfl) []
def Nq:ah:=Np.inline P 189 f189 []
theorem YS:ai P Nq:=YR.inline hm func189 (by kernel_rfl) []
def Nr:ah:=Nq.inline P 283 f283 []
theorem YT:ai P Nr:=YS.inline hm func283 (by kernel_rfl) []
def Ns:ah:=Nr.inline P 281 f281 []
theorem YU:ai P Ns:=YT.inline hm func281 (by kernel_rfl) []
def Nt:ah:=Ns.inline P 269 f269 []
theorem YV:ai P Nt:=YU.inline hm func269 (by kernel_rfl) []
def Nu:ah:=Nt.inline P 238 f238 []
theorem YW:ai P Nu:=YV.inline hm func238 (by kernel_rfl) []
def Nv:ah:=Nu.inline P 190 f190 []
theorem YX:ai P Nv:=YW.inline hm func190 (by kernel_rfl) []
def Nw:ah:=Nv.inline P 191 f191 []
theorem YY:ai P Nw:=YX.inline hm func191 (by kernel_rfl) []
def YZ:ah:=Nw.inline P 192 f192 []
theorem jt:ai P YZ:=YY.inline hm func192 (by kernel_rfl) []
def Nx:List (ByteArray × List G):=[(⟨#[]⟩,[.l [[.s ⟨#[]⟩,.s ⟨#[]⟩,.s ⟨#[]⟩,.i 0,.s ⟨#[]⟩]],.t false]),(⟨#[107,49]⟩,[.l [[.s ⟨#[]⟩,.s ⟨#[]⟩,.s ⟨#[]⟩,.i 0,.s ⟨#[]⟩]],.t false]),(⟨#[75,49,65,66]⟩,[.l [[.s ⟨#[]⟩,.s ⟨#[]⟩,.s ⟨#[]⟩,.i 0,.s ⟨#[]⟩]],.t false]),(⟨#[107,49,97,98,47]⟩,[.l [[.s ⟨#[]⟩,.s ⟨#[]⟩,.s ⟨#[]⟩,.i 0,.s ⟨#[]⟩]],.t false]),(⟨#[49,97]⟩,[.l [[.s ⟨#[]⟩,.s ⟨#[]⟩,.s ⟨#[]⟩,.i 0,.s ⟨#[]⟩]],.t false]),(⟨#[107,49,97,98,47,109,109,47,112]⟩,[.l [[.s ⟨#[]⟩,.s ⟨#[]⟩,.s ⟨#[]⟩,.i 0,.s ⟨#[]⟩]],.t false]),(⟨#[107,49,97,98]⟩,[.l [[.s ⟨#[107,49,97,98]⟩,.s ⟨#[107,49]⟩,.s ⟨#[97,98]⟩,.i 0,.s ⟨#[]⟩]],.t true]),(⟨#[107,49,97,97]⟩,[.l [[.s ⟨#[107,49,97,97]⟩,.s ⟨#[107,49]⟩,.s ⟨#[97,97]⟩,.i 0,.s ⟨#[]⟩]],.t true]),(⟨#[107,49,97,98,47,52]⟩,[.l [[.s ⟨#[107,49,97,98]⟩,.s ⟨#[107,49]⟩,.s ⟨#[97,98]⟩,.i 2,.s ⟨#[52]⟩]],.t true]),(⟨#[111,104,50,97,98,99]⟩,[.l [[.s ⟨#[111,104,50,97,98,99]⟩,.s ⟨#[111,104,50]⟩,.s ⟨#[97,98,99]⟩,.i 0,.s ⟨#[]⟩]],.t true]),(⟨#[111,104,50,97,98,100]⟩,[.l [[.s ⟨#[111,104,50,97,98,100]⟩,.s ⟨#[111,104,50]⟩,.s ⟨#[97,98,100]⟩,.i 0,.s ⟨#[]⟩]],.t true]),(⟨#[119,49,97,119]⟩,[.l [[.s ⟨#[119,49,97,119]⟩,.s ⟨#[119,49]⟩,.s ⟨#[97,119]⟩,.i 0,.s ⟨#[]⟩]],.t true]),(⟨#[110,49,109,109]⟩,[.l [[.s ⟨#[110,49,109,109]⟩,.s ⟨#[110,49]⟩,.s ⟨#[109,109]⟩,.i 0,.s ⟨#[]⟩]],.t true]),(⟨#[103,51,120,121,122,47,112]⟩,[.l [[.s ⟨#[103,51,120,121,122]⟩,.s ⟨#[103,51]⟩,.s ⟨#[120,121,122]⟩,.i 3,.s ⟨#[]⟩]],.t true])]
def A5(d:List G):Option (List G):=wS Nx (gi d 0).str
def fV:ax:=⟨135,[.s (.str)],[],[],[.s (.row M8),.s (.bool)],[],[],[],A5⟩
theorem Y0:cV P 135 [aS ⟨#[]⟩] (fV.out [.l [[.s ⟨#[]⟩,.s ⟨#[]⟩,.s ⟨#[]⟩,.i 0,.s ⟨#[]⟩]],.t false]):=dV (L:=au) hm jt [] (fun _ _=>aG _ _ _) func135 rfl (by kernel_rfl) (by kernel_rfl)
theorem Y1:cV P 135 [aS ⟨#[107,49]⟩] (fV.out [.l [[.s ⟨#[]⟩,.s ⟨#[]⟩,.s ⟨#[]⟩,.i 0,.s ⟨#[]⟩]],.t false]):=dV (L:=au) hm jt [] (fun _ _=>aG _ _ _) func135 rfl (by kernel_rfl) (by kernel_rfl)
theorem Y2:cV P 135 [aS ⟨#[75,49,65,66]⟩] (fV.out [.l [[.s ⟨#[]⟩,.s ⟨#[]⟩,.s ⟨#[]⟩,.i 0,.s ⟨#[]⟩]],.t false]):=dV (L:=au) hm jt [] (fun _ _=>aG _ _ _) func135 rfl (by kernel_rfl) (by kernel_rfl)
theorem Y3:cV P 135 [aS ⟨#[107,49,97,98,47]⟩] (fV.out [.l [[.s ⟨#[]⟩,.s ⟨#[]⟩,.s ⟨#[]⟩,.i 0,.s ⟨#[]⟩]],.t false]):=dV (L:=au) hm jt [] (fun _ _=>aG _ _ _) func135 rfl (by kernel_rfl) (by kernel_rfl)
theorem Y4:cV P 135 [aS ⟨#[49,97]⟩] (fV.out [.l [[.s ⟨#[]⟩,.s ⟨#[]⟩,.s ⟨#[]⟩,.i 0,.s ⟨#[]⟩]],.t false]):=dV (L:=au) hm jt [] (fun _ _=>aG _ _ _) func135 rfl (by kernel_rfl) (by kernel_rfl)
theorem Y5:cV P 135 [aS ⟨#[107,49,97,98,47,109,109,47,112]⟩] (fV.out [.l [[.s ⟨#[]⟩,.s ⟨#[]⟩,.s ⟨#[]⟩,.i 0,.s ⟨#[]⟩]],.t false]):=dV (L:=au) hm jt [] (fun _ _=>aG _ _ _) func135 rfl (by kernel_rfl) (by kernel_rfl)
theorem Y6:cV P 135 [aS ⟨#[107,49,97,98]⟩] (fV.out [.l [[.s ⟨#[107,49,97,98]⟩,.s ⟨#[107,49]⟩,.s ⟨#[97,98]⟩,.i 0,.s ⟨#[]⟩]],.t true]):=dV (L:=au) hm jt [] (fun _ _=>aG _ _ _) func135 rfl (by kernel_rfl) (by kernel_rfl)
theorem Y7:cV P 135 [aS ⟨#[107,49,97,97]⟩] (fV.out [.l [[.s ⟨#[107,49,97,97]⟩,.s ⟨#[107,49]⟩,.s ⟨#[97,97]⟩,.i 0,.s ⟨#[]⟩]],.t true]):=dV (L:=au) hm jt [] (fun _ _=>aG _ _ _) func135 rfl (by kernel_rfl) (by kernel_rfl)
theorem Y8:cV P 135 [aS ⟨#[107,49,97,98,47,52]⟩] (fV.out [.l [[.s ⟨#[107,49,97,98]⟩,.s ⟨#[107,49]⟩,.s ⟨#[97,98]⟩,.i 2,.s ⟨#[52]⟩]],.t true]):=dV (L:=au) hm jt [] (fun _ _=>aG _ _ _) func135 rfl (by kernel_rfl) (by kernel_rfl)
theorem Y9:cV P 135 [aS ⟨#[111,104,50,97,98,99]⟩] (fV.out [.l [[.s ⟨#[111,104,50,97,98,99]⟩,.s ⟨#[111,104,50]⟩,.s ⟨#[97,98,99]⟩,.i 0,.s ⟨#[]⟩]],.t true]):=dV (L:=au) hm jt [] (fun _ _=>aG _ _ _) func135 rfl (by kernel_rfl) (by kernel_rfl)
theorem Y_:cV P 135 [aS ⟨#[111,104,50,97,98,100]⟩] (fV.out [.l [[.s ⟨#[111,104,50,97,98,100]⟩,.s ⟨#[111,104,50]⟩,.s ⟨#[97,98,100]⟩,.i 0,.s ⟨#[]⟩]],.t true]):=dV (L:=au) hm jt [] (fun _ _=>aG _ _ _) func135 rfl (by kernel_rfl) (by kernel_rfl)
theorem Y':cV P 135 [aS ⟨#[119,49,97,119]⟩] (fV.out [.l [[.s ⟨#[119,49,97,119]⟩,.s ⟨#[119,49]⟩,.s ⟨#[97,119]⟩,.i 0,.s ⟨#[]⟩]],.t true]):=dV (L:=au) hm jt [] (fun _ _=>aG _ _ _) func135 rfl (by kernel_rfl) (by kernel_rfl)
theorem Za:cV P 135 [aS ⟨#[110,49,109,109]⟩] (fV.out [.l [[.s ⟨#[110,49,109,109]⟩,.s ⟨#[110,49]⟩,.s ⟨#[109,109]⟩,.i 0,.s ⟨#[]⟩]],.t true]):=dV (L:=au) hm jt [] (fun _ _=>aG _ _ _) func135 rfl (by kernel_rfl) (by kernel_rfl)
theorem Zb:cV P 135 [aS ⟨#[103,51,120,121,122,47,112]⟩] (fV.out [.l [[.s ⟨#[103,51,120,121,122]⟩,.s ⟨#[103,51]⟩,.s ⟨#[120,121,122]⟩,.i 3,.s ⟨#[]⟩]],.t true]):=dV (L:=au) hm jt [] (fun _ _=>aG _ _ _) func135 rfl (by kernel_rfl) (by kernel_rfl)
theorem Zc:∀ d r,A5 d=some r→cg P 135 (fV.args0 d) (aj (fV.H0 d)) (fV.out r) (aj (fV.H1 r)):=fun d r h=>by
 have h:=Fp h;have key:cV P 135 [aS (gi d 0).str] (fV.out r):=by
  generalize (gi d 0).str=s at h;simp only[Nx,bI,iL,or_false,aZ]at h;rcases h with⟨rfl,rfl⟩|⟨rfl,rfl⟩|⟨rfl,rfl⟩|⟨rfl,rfl⟩|⟨rfl,rfl⟩|⟨rfl,rfl⟩|⟨rfl,rfl⟩|⟨rfl,rfl⟩|⟨rfl,rfl⟩|⟨rfl,rfl⟩|⟨rfl,rfl⟩|⟨rfl,rfl⟩|⟨rfl,rfl⟩|⟨rfl,rfl⟩
  ·exact Y0
  ·exact Y1
  ·exact Y2
  ·exact Y3
  ·exact Y4
  ·exact Y5
  ·exact Y6
  ·exact Y7
  ·exact Y8
  ·exact Y9
  ·exact Y_
  ·exact Y'
  ·exact Za
  ·exact Zb
 exact key []
def t6:ah:=t5.bp fV
theorem Ny:ai P t6:=M_.aP Zc
def Nz:ah:=t6.inline P 272 f272 []
theorem Zd:ai P Nz:=Ny.inline hm func272 (by kernel_rfl) []
def NA:ah:=Nz.inline P 283 f283 []
theorem Ze:ai P NA:=Zd.inline hm func283 (by kernel_rfl) []
def NB:ah:=NA.inline P 281 f281 []
theorem Zf:ai P NB:=Ze.inline hm func281 (by kernel_rfl) []
def NC:ah:=NB.inline P 269 f269 []
theorem Zg:ai P NC:=Zf.inline hm func269 (by kernel_rfl) []
def ND:ah:=NC.inline P 238 f238 []
theorem Zh:ai P ND:=Zg.inline hm func238 (by kernel_rfl) []
def NF:ah:=ND.inline P 190 f190 []
theorem Zi:ai P NF:=Zh.inline hm func190 (by kernel_rfl) []
def NG:ah:=NF.inline P 139 f139 []
theorem Zj:ai P NG:=Zi.inline hm func139 (by kernel_rfl) []
def NH:ah:=NG.inline P 194 f194 []
theorem Zk:ai P NH:=Zj.inline hm func194 (by kernel_rfl) []
def NI:ah:=NH.inline P 241 f241 []
theorem Zl:ai P NI:=Zk.inline hm func241 (by kernel_rfl) []
def NJ:ah:=NI.inline P 195 f195 []
theorem Zm:ai P NJ:=Zl.inline hm func195 (by kernel_rfl) []
def NK:ah:=NJ.inline P 243 f243 []
theorem Zn:ai P NK:=Zm.inline hm func243 (by kernel_rfl) []
def NL:ah:=NK.inline P 197 f197 []
theorem Zo:ai P NL:=Zn.inline hm func197 (by kernel_rfl) []
def NM:ah:=NL.inline P 271 f271 []
theorem Zp:ai P NM:=Zo.inline hm func271 (by kernel_rfl) []
def NN:ah:=NM.inline P 242 f242 []
theorem Zq:ai P NN:=Zp.inline hm func242 (by kernel_rfl) []
def NO:ah:=NN.inline P 278 f278 []
theorem Zr:ai P NO:=Zq.inline hm func278 (by kernel_rfl) []
def NP:ah:=NO.inline P 255 f255 []
theorem Zs:ai P NP:=Zr.inline hm func255 (by kernel_rfl) []
def NQ:ah:=NP.inline P 257 f257 []
theorem Zt:ai P NQ:=Zs.inline hm func257 (by kernel_rfl) []
def NR:ah:=NQ.inline P 279 f279 []
theorem Zu:ai P NR:=Zt.inline hm func279 (by kernel_rfl) []
def NS:ah:=NR.inline P 258 f258 []
theorem Zv:ai P NS:=Zu.inline hm func258 (by kernel_rfl) []
def NT:ah:=NS.inline P 256 f256 []
theorem Zw:ai P NT:=Zv.inline hm func256 (by kernel_rfl) []
def NU:ah:=NT.inline P 209 f209 []
theorem Zx:ai P NU:=Zw.inline hm func209 (by kernel_rfl) []
def NV:ah:=NU.inline P 208 f208 []
theorem Zy:ai P NV:=Zx.inline hm func208 (by kernel_rfl) []
def NW:ah:=NV.inline P 210 f210 []
theorem Zz:ai P NW:=Zy.inline hm func210 (by kernel_rfl) []
def NX:ah:=NW.inline P 259 f259 []
theorem ZA:ai P NX:=Zz.inline hm func259 (by kernel_rfl) []
def ZB:ah:=NX.inline P 211 f211 []
theorem ju:ai P ZB:=ZA.inline hm func211 (by kernel_rfl) []
def NY:List (ByteArray × List G):=[(⟨#[]⟩,[.l [[.s ⟨#[]⟩,.s ⟨#[]⟩,.s ⟨#[]⟩,.i 0,.s ⟨#[]⟩]],.t false]),(⟨#[107,49]⟩,[.l [[.s ⟨#[]⟩,.s ⟨#[]⟩,.s ⟨#[]⟩,.i 0,.s ⟨#[]⟩]],.t false]),(⟨#[75,49,65,66]⟩,[.l [[.s ⟨#[]⟩,.s ⟨#[]⟩,.s ⟨#[]⟩,.i 0,.s ⟨#[]⟩]],.t false]),(⟨#[107,49,97,98,47]⟩,[.l [[.s ⟨#[]⟩,.s ⟨#[]⟩,.s ⟨#[]⟩,.i 0,.s ⟨#[]⟩]],.t false]),(⟨#[49,97]⟩,[.l [[.s ⟨#[]⟩,.s ⟨#[]⟩,.s ⟨#[]⟩,.i 0,.s ⟨#[]⟩]],.t false]),(⟨#[107,49,97,98,47,109,109,47,112]⟩,[.l [[.s ⟨#[]⟩,.s ⟨#[]⟩,.s ⟨#[]⟩,.i 0,.s ⟨#[]⟩]],.t false]),(⟨#[107,49,97,98]⟩,[.l [[.s ⟨#[107,49,97,98]⟩,.s ⟨#[107,49]⟩,.s ⟨#[97,98]⟩,.i 0,.s ⟨#[]⟩]],.t true]),(⟨#[107,49,97,97]⟩,[.l [[.s ⟨#[107,49,97,97]⟩,.s ⟨#[107,49]⟩,.s ⟨#[97,97]⟩,.i 0,.s ⟨#[]⟩]],.t true]),(⟨#[107,49,97,98,47,52]⟩,[.l [[.s ⟨#[107,49,97,98]⟩,.s ⟨#[107,49]⟩,.s ⟨#[97,98]⟩,.i 2,.s ⟨#[52]⟩]],.t true]),(⟨#[111,104,50,97,98,99]⟩,[.l [[.s ⟨#[111,104,50,97,98,99]⟩,.s ⟨#[111,104,50]⟩,.s ⟨#[97,98,99]⟩,.i 0,.s ⟨#[]⟩]],.t true]),(⟨#[111,104,50,97,98,100]⟩,[.l [[.s ⟨#[111,104,50,97,98,100]⟩,.s ⟨#[111,104,50]⟩,.s ⟨#[97,98,100]⟩,.i 0,.s ⟨#[]⟩]],.t true]),(⟨#[119,49,97,119]⟩,[.l [[.s ⟨#[119,49,97,119]⟩,.s ⟨#[119,49]⟩,.s ⟨#[97,119]⟩,.i 0,.s ⟨#[]⟩]],.t true]),(⟨#[110,49,109,109]⟩,[.l [[.s ⟨#[110,49,109,109]⟩,.s ⟨#[110,49]⟩,.s ⟨#[109,109]⟩,.i 0,.s ⟨#[]⟩]],.t true]),(⟨#[103,51,120,121,122,47,112]⟩,[.l [[.s ⟨#[103,51,120,121,122]⟩,.s ⟨#[103,51]⟩,.s ⟨#[120,121,122]⟩,.i 3,.s ⟨#[]⟩]],.t true])]
def Fq(d:List G):Option (List G):=wS NY (gi d 0).str
def fW:ax:=⟨150,[.s (.str)],[],[],[.s (.row M8),.s (.bool)],[],[],[],Fq⟩
theorem ZC:cV P 150 [aS ⟨#[]⟩] (fW.out [.l [[.s ⟨#[]⟩,.s ⟨#[]⟩,.s ⟨#[]⟩,.i 0,.s ⟨#[]⟩]],.t false]):=dV (L:=au) hm ju [] (fun _ _=>aG _ _ _) func150 rfl (by kernel_rfl) (by kernel_rfl)
theorem ZD:cV P 150 [aS ⟨#[107,49]⟩] (fW.out [.l [[.s ⟨#[]⟩,.s ⟨#[]⟩,.s ⟨#[]⟩,.i 0,.s ⟨#[]⟩]],.t false]):=dV (L:=au) hm ju [] (fun _ _=>aG _ _ _) func150 rfl (by kernel_rfl) (by kernel_rfl)
theorem ZE:cV P 150 [aS ⟨#[75,49,65,66]⟩] (fW.out [.l [[.s ⟨#[]⟩,.s ⟨#[]⟩,.s ⟨#[]⟩,.i 0,.s ⟨#[]⟩]],.t false]):=dV (L:=au) hm ju [] (fun _ _=>aG _ _ _) func150 rfl (by kernel_rfl) (by kernel_rfl)
theorem ZF:cV P 150 [aS ⟨#[107,49,97,98,47]⟩] (fW.out [.l [[.s ⟨#[]⟩,.s ⟨#[]⟩,.s ⟨#[]⟩,.i 0,.s ⟨#[]⟩]],.t false]):=dV (L:=au) hm ju [] (fun _ _=>aG _ _ _) func150 rfl (by kernel_rfl) (by kernel_rfl)
theorem ZG:cV P 150 [aS ⟨#[49,97]⟩] (fW.out [.l [[.s ⟨#[]⟩,.s ⟨#[]⟩,.s ⟨#[]⟩,.i 0,.s ⟨#[]⟩]],.t false]):=dV (L:=au) hm ju [] (fun _ _=>aG _ _ _) func150 rfl (by kernel_rfl) (by kernel_rfl)
theorem ZH:cV P 150 [aS ⟨#[107,49,97,98,47,109,109,47,112]⟩] (fW.out [.l [[.s ⟨#[]⟩,.s ⟨#[]⟩,.s ⟨#[]⟩,.i 0,.s ⟨#[]⟩]],.t false]):=dV (L:=au) hm ju [] (fun _ _=>aG _ _ _) func150 rfl (by kernel_rfl) (by kernel_rfl)
theorem ZI:cV P 150 [aS ⟨#[107,49,97,98]⟩] (fW.out [.l [[.s ⟨#[107,49,97,98]⟩,.s ⟨#[107,49]⟩,.s ⟨#[97,98]⟩,.i 0,.s ⟨#[]⟩]],.t true]):=dV (L:=au) hm ju [] (fun _ _=>aG _ _ _) func150 rfl (by kernel_rfl) (by kernel_rfl)
theorem ZJ:cV P 150 [aS ⟨#[107,49,97,97]⟩] (fW.out [.l [[.s ⟨#[107,49,97,97]⟩,.s ⟨#[107,49]⟩,.s ⟨#[97,97]⟩,.i 0,.s ⟨#[]⟩]],.t true]):=dV (L:=au) hm ju [] (fun _ _=>aG _ _ _) func150 rfl (by kernel_rfl) (by kernel_rfl)
theorem ZK:cV P 150 [aS ⟨#[107,49,97,98,47,52]⟩] (fW.out [.l [[.s ⟨#[107,49,97,98]⟩,.s ⟨#[107,49]⟩,.s ⟨#[97,98]⟩,.i 2,.s ⟨#[52]⟩]],.t true]):=dV (L:=au) hm ju [] (fun _ _=>aG _ _ _) func150 rfl (by kernel_rfl) (by kernel_rfl)
theorem ZL:cV P 150 [aS ⟨#[111,104,50,97,98,99]⟩] (fW.out [.l [[.s ⟨#[111,104,50,97,98,99]⟩,.s ⟨#[111,104,50]⟩,.s ⟨#[97,98,99]⟩,.i 0,.s ⟨#[]⟩]],.t true]):=dV (L:=au) hm ju [] (fun _ _=>aG _ _ _) func150 rfl (by kernel_rfl) (by kernel_rfl)
theorem ZM:cV P 150 [aS ⟨#[111,104,50,97,98,100]⟩] (fW.out [.l [[.s ⟨#[111,104,50,97,98,100]⟩,.s ⟨#[111,104,50]⟩,.s ⟨#[97,98,100]⟩,.i 0,.s ⟨#[]⟩]],.t true]):=dV (L:=au) hm ju [] (fun _ _=>aG _ _ _) func150 rfl (by kernel_rfl) (by kernel_rfl)
theorem ZN:cV P 150 [aS ⟨#[119,49,97,119]⟩] (fW.out [.l [[.s ⟨#[119,49,97,119]⟩,.s ⟨#[119,49]⟩,.s ⟨#[97,119]⟩,.i 0,.s ⟨#[]⟩]],.t true]):=dV (L:=au) hm ju [] (fun _ _=>aG _ _ _) func150 rfl (by kernel_rfl) (by kernel_rfl)
theorem ZO:cV P 150 [aS ⟨#[110,49,109,109]⟩] (fW.out [.l [[.s ⟨#[110,49,109,109]⟩,.s ⟨#[110,49]⟩,.s ⟨#[109,109]⟩,.i 0,.s ⟨#[]⟩]],.t true]):=dV (L:=au) hm ju [] (fun _ _=>aG _ _ _) func150 rfl (by kernel_rfl) (by kernel_rfl)
theorem ZP:cV P 150 [aS ⟨#[103,51,120,121,122,47,112]⟩] (fW.out [.l [[.s ⟨#[103,51,120,121,122]⟩,.s ⟨#[103,51]⟩,.s ⟨#[120,121,122]⟩,.i 3,.s ⟨#[]⟩]],.t true]):=dV (L:=au) hm ju [] (fun _ _=>aG _ _ _) func150 rfl (by kernel_rfl) (by kernel_rfl)
theorem ZQ:∀ d r,Fq d=some r→cg P 150 (fW.args0 d) (aj (fW.H0 d)) (fW.out r) (aj (fW.H1 r)):=fun d r h=>by
 have h:=Fp h;have key:cV P 150 [aS (gi d 0).str] (fW.out r):=by
  generalize (gi d 0).str=s at h;simp only[NY,bI,iL,or_false,aZ]at h;rcases h with⟨rfl,rfl⟩|⟨rfl,rfl⟩|⟨rfl,rfl⟩|⟨rfl,rfl⟩|⟨rfl,rfl⟩|⟨rfl,rfl⟩|⟨rfl,rfl⟩|⟨rfl,rfl⟩|⟨rfl,rfl⟩|⟨rfl,rfl⟩|⟨rfl,rfl⟩|⟨rfl,rfl⟩|⟨rfl,rfl⟩|⟨rfl,rfl⟩
  ·exact ZC
  ·exact ZD
  ·exact ZE
  ·exact ZF
  ·exact ZG
  ·exact ZH
  ·exact ZI
  ·exact ZJ
  ·exact ZK
  ·exact ZL
  ·exact ZM
  ·exact ZN
  ·exact ZO
  ·exact ZP
 exact key []
def t7:ah:=t6.bp fW
theorem NZ:ai P t7:=Ny.aP ZQ
end
end Go.Proofs.gq
