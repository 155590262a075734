/-
 What is proved here: functions of the program as functions on data. No condition.
-/
import Derived.Test.YtljobbkidfdbhaaGreatDoorML0
set_option linter.all false
namespace Go.Proofs.fW
open Go Go.AL Go.Proofs
noncomputable section
def LJ:ar:=t5.inline P 136 Tryz.f136 []
theorem WB:au P LJ:=LI.inline hm Tryz.func136 (by kernel_rfl) []
def LK:ar:=LJ.inline P 167 Tryz.f167 []
theorem WC:au P LK:=WB.inline hm Tryz.func167 (by kernel_rfl) []
def LL:ar:=LK.inline P 135 Tryz.f135 []
theorem WD:au P LL:=WC.inline hm Tryz.func135 (by kernel_rfl) []
def LM:ar:=LL.inline P 87 Tryz.f87 []
theorem WE:au P LM:=WD.inline hm Tryz.func87 (by kernel_rfl) []
def LN:ar:=LM.inline P 112 Tryz.f112 []
theorem WG:au P LN:=WE.inline hm Tryz.func112 (by kernel_rfl) []
def LO:ar:=LN.inline P 141 Tryz.f141 []
theorem WH:au P LO:=WG.inline hm Tryz.func141 (by kernel_rfl) []
def LP:ar:=LO.inline P 113 Tryz.f113 []
theorem WI:au P LP:=WH.inline hm Tryz.func113 (by kernel_rfl) []
def LQ:ar:=LP.inline P 143 Tryz.f143 []
theorem WJ:au P LQ:=WI.inline hm Tryz.func143 (by kernel_rfl) []
def LR:ar:=LQ.inline P 115 Tryz.f115 []
theorem WK:au P LR:=WJ.inline hm Tryz.func115 (by kernel_rfl) []
def LS:ar:=LR.inline P 170 Tryz.f170 []
theorem WL:au P LS:=WK.inline hm Tryz.func170 (by kernel_rfl) []
def LU:ar:=LS.inline P 171 Tryz.f171 []
theorem WM:au P LU:=WL.inline hm Tryz.func171 (by kernel_rfl) []
def LV:ar:=LU.inline P 142 Tryz.f142 []
theorem WN:au P LV:=WM.inline hm Tryz.func142 (by kernel_rfl) []
def LW:ar:=LV.inline P 182 Tryz.f182 []
theorem WO:au P LW:=WN.inline hm Tryz.func182 (by kernel_rfl) []
def LX:ar:=LW.inline P 165 Tryz.f165 []
theorem WQ:au P LX:=WO.inline hm Tryz.func165 (by kernel_rfl) []
def LY:ar:=LX.inline P 133 Tryz.f133 []
theorem WR:au P LY:=WQ.inline hm Tryz.func133 (by kernel_rfl) []
def LZ:ar:=LY.inline P 102 Tryz.f102 []
theorem WS:au P LZ:=WR.inline hm Tryz.func102 (by kernel_rfl) []
def L0:ar:=LZ.inline P 193 Tryz.f193 []
theorem WT:au P L0:=WS.inline hm Tryz.func193 (by kernel_rfl) []
def L1:ar:=L0.inline P 183 Tryz.f183 []
theorem WU:au P L1:=WT.inline hm Tryz.func183 (by kernel_rfl) []
def L2:ar:=L1.inline P 166 Tryz.f166 []
theorem WV:au P L2:=WU.inline hm Tryz.func166 (by kernel_rfl) []
def L3:ar:=L2.inline P 134 Tryz.f134 []
theorem WW:au P L3:=WV.inline hm Tryz.func134 (by kernel_rfl) []
def L4:ar:=L3.inline P 103 Tryz.f103 []
theorem WX:au P L4:=WW.inline hm Tryz.func103 (by kernel_rfl) []
def L5:ar:=L4.inline P 104 Tryz.f104 []
theorem WY:au P L5:=WX.inline hm Tryz.func104 (by kernel_rfl) []
def WZ:ar:=L5.inline P 105 Tryz.f105 []
theorem iN:au P WZ:=WY.inline hm Tryz.func105 (by kernel_rfl) []
def L6:List (ByteArray × List G):=[(⟨#[]⟩,[.l [[.s ⟨#[]⟩,.s ⟨#[]⟩,.s ⟨#[]⟩,.i 0,.s ⟨#[]⟩]],.t false]),(⟨#[107,49]⟩,[.l [[.s ⟨#[]⟩,.s ⟨#[]⟩,.s ⟨#[]⟩,.i 0,.s ⟨#[]⟩]],.t false]),(⟨#[75,49,65,66]⟩,[.l [[.s ⟨#[]⟩,.s ⟨#[]⟩,.s ⟨#[]⟩,.i 0,.s ⟨#[]⟩]],.t false]),(⟨#[107,49,97,98,47]⟩,[.l [[.s ⟨#[]⟩,.s ⟨#[]⟩,.s ⟨#[]⟩,.i 0,.s ⟨#[]⟩]],.t false]),(⟨#[49,97]⟩,[.l [[.s ⟨#[]⟩,.s ⟨#[]⟩,.s ⟨#[]⟩,.i 0,.s ⟨#[]⟩]],.t false]),(⟨#[107,49,97,98,47,109,109,47,112]⟩,[.l [[.s ⟨#[]⟩,.s ⟨#[]⟩,.s ⟨#[]⟩,.i 0,.s ⟨#[]⟩]],.t false]),(⟨#[107,49,97,98]⟩,[.l [[.s ⟨#[107,49,97,98]⟩,.s ⟨#[107,49]⟩,.s ⟨#[97,98]⟩,.i 0,.s ⟨#[]⟩]],.t true]),(⟨#[107,49,97,97]⟩,[.l [[.s ⟨#[107,49,97,97]⟩,.s ⟨#[107,49]⟩,.s ⟨#[97,97]⟩,.i 0,.s ⟨#[]⟩]],.t true]),(⟨#[107,49,97,98,47,52]⟩,[.l [[.s ⟨#[107,49,97,98]⟩,.s ⟨#[107,49]⟩,.s ⟨#[97,98]⟩,.i 2,.s ⟨#[52]⟩]],.t true]),(⟨#[111,104,50,97,98,99]⟩,[.l [[.s ⟨#[111,104,50,97,98,99]⟩,.s ⟨#[111,104,50]⟩,.s ⟨#[97,98,99]⟩,.i 0,.s ⟨#[]⟩]],.t true]),(⟨#[111,104,50,97,98,100]⟩,[.l [[.s ⟨#[111,104,50,97,98,100]⟩,.s ⟨#[111,104,50]⟩,.s ⟨#[97,98,100]⟩,.i 0,.s ⟨#[]⟩]],.t true]),(⟨#[119,49,97,119]⟩,[.l [[.s ⟨#[119,49,97,119]⟩,.s ⟨#[119,49]⟩,.s ⟨#[97,119]⟩,.i 0,.s ⟨#[]⟩]],.t true]),(⟨#[110,49,109,109]⟩,[.l [[.s ⟨#[110,49,109,109]⟩,.s ⟨#[110,49]⟩,.s ⟨#[109,109]⟩,.i 0,.s ⟨#[]⟩]],.t true]),(⟨#[103,51,120,121,122,47,112]⟩,[.l [[.s ⟨#[103,51,120,121,122]⟩,.s ⟨#[103,51]⟩,.s ⟨#[120,121,122]⟩,.i 3,.s ⟨#[]⟩]],.t true]),(⟨#[119,49,97,120]⟩,[.l [[.s ⟨#[119,49,97,120]⟩,.s ⟨#[119,49]⟩,.s ⟨#[97,120]⟩,.i 0,.s ⟨#[]⟩]],.t true])]
def zo(d:List G):Option (List G):=zm L6 (gi d 0).str
def fx:aJ:=⟨75,[.s (.str)],[],[],[.s (.row Wq),.s (.bool)],[],[],[],zo⟩
theorem W0:eg P 75 [aS ⟨#[]⟩] (fx.out [.l [[.s ⟨#[]⟩,.s ⟨#[]⟩,.s ⟨#[]⟩,.i 0,.s ⟨#[]⟩]],.t false]):=gv (L:=aF) hm iN [] (fun _ _=>aT _ _ _) Tryz.func75 rfl (by kernel_rfl) (by kernel_rfl)
theorem W1:eg P 75 [aS ⟨#[107,49]⟩] (fx.out [.l [[.s ⟨#[]⟩,.s ⟨#[]⟩,.s ⟨#[]⟩,.i 0,.s ⟨#[]⟩]],.t false]):=gv (L:=aF) hm iN [] (fun _ _=>aT _ _ _) Tryz.func75 rfl (by kernel_rfl) (by kernel_rfl)
theorem W2:eg P 75 [aS ⟨#[75,49,65,66]⟩] (fx.out [.l [[.s ⟨#[]⟩,.s ⟨#[]⟩,.s ⟨#[]⟩,.i 0,.s ⟨#[]⟩]],.t false]):=gv (L:=aF) hm iN [] (fun _ _=>aT _ _ _) Tryz.func75 rfl (by kernel_rfl) (by kernel_rfl)
theorem W3:eg P 75 [aS ⟨#[107,49,97,98,47]⟩] (fx.out [.l [[.s ⟨#[]⟩,.s ⟨#[]⟩,.s ⟨#[]⟩,.i 0,.s ⟨#[]⟩]],.t false]):=gv (L:=aF) hm iN [] (fun _ _=>aT _ _ _) Tryz.func75 rfl (by kernel_rfl) (by kernel_rfl)
theorem W4:eg P 75 [aS ⟨#[49,97]⟩] (fx.out [.l [[.s ⟨#[]⟩,.s ⟨#[]⟩,.s ⟨#[]⟩,.i 0,.s ⟨#[]⟩]],.t false]):=gv (L:=aF) hm iN [] (fun _ _=>aT _ _ _) Tryz.func75 rfl (by kernel_rfl) (by kernel_rfl)
theorem W5:eg P 75 [aS ⟨#[107,49,97,98,47,109,109,47,112]⟩] (fx.out [.l [[.s ⟨#[]⟩,.s ⟨#[]⟩,.s ⟨#[]⟩,.i 0,.s ⟨#[]⟩]],.t false]):=gv (L:=aF) hm iN [] (fun _ _=>aT _ _ _) Tryz.func75 rfl (by kernel_rfl) (by kernel_rfl)
theorem W6:eg P 75 [aS ⟨#[107,49,97,98]⟩] (fx.out [.l [[.s ⟨#[107,49,97,98]⟩,.s ⟨#[107,49]⟩,.s ⟨#[97,98]⟩,.i 0,.s ⟨#[]⟩]],.t true]):=gv (L:=aF) hm iN [] (fun _ _=>aT _ _ _) Tryz.func75 rfl (by kernel_rfl) (by kernel_rfl)
theorem W7:eg P 75 [aS ⟨#[107,49,97,97]⟩] (fx.out [.l [[.s ⟨#[107,49,97,97]⟩,.s ⟨#[107,49]⟩,.s ⟨#[97,97]⟩,.i 0,.s ⟨#[]⟩]],.t true]):=gv (L:=aF) hm iN [] (fun _ _=>aT _ _ _) Tryz.func75 rfl (by kernel_rfl) (by kernel_rfl)
theorem W8:eg P 75 [aS ⟨#[107,49,97,98,47,52]⟩] (fx.out [.l [[.s ⟨#[107,49,97,98]⟩,.s ⟨#[107,49]⟩,.s ⟨#[97,98]⟩,.i 2,.s ⟨#[52]⟩]],.t true]):=gv (L:=aF) hm iN [] (fun _ _=>aT _ _ _) Tryz.func75 rfl (by kernel_rfl) (by kernel_rfl)
theorem W9:eg P 75 [aS ⟨#[111,104,50,97,98,99]⟩] (fx.out [.l [[.s ⟨#[111,104,50,97,98,99]⟩,.s ⟨#[111,104,50]⟩,.s ⟨#[97,98,99]⟩,.i 0,.s ⟨#[]⟩]],.t true]):=gv (L:=aF) hm iN [] (fun _ _=>aT _ _ _) Tryz.func75 rfl (by kernel_rfl) (by kernel_rfl)
theorem W_:eg P 75 [aS ⟨#[111,104,50,97,98,100]⟩] (fx.out [.l [[.s ⟨#[111,104,50,97,98,100]⟩,.s ⟨#[111,104,50]⟩,.s ⟨#[97,98,100]⟩,.i 0,.s ⟨#[]⟩]],.t true]):=gv (L:=aF) hm iN [] (fun _ _=>aT _ _ _) Tryz.func75 rfl (by kernel_rfl) (by kernel_rfl)
theorem Xa:eg P 75 [aS ⟨#[119,49,97,119]⟩] (fx.out [.l [[.s ⟨#[119,49,97,119]⟩,.s ⟨#[119,49]⟩,.s ⟨#[97,119]⟩,.i 0,.s ⟨#[]⟩]],.t true]):=gv (L:=aF) hm iN [] (fun _ _=>aT _ _ _) Tryz.func75 rfl (by kernel_rfl) (by kernel_rfl)
theorem Xb:eg P 75 [aS ⟨#[110,49,109,109]⟩] (fx.out [.l [[.s ⟨#[110,49,109,109]⟩,.s ⟨#[110,49]⟩,.s ⟨#[109,109]⟩,.i 0,.s ⟨#[]⟩]],.t true]):=gv (L:=aF) hm iN [] (fun _ _=>aT _ _ _) Tryz.func75 rfl (by kernel_rfl) (by kernel_rfl)
theorem Xc:eg P 75 [aS ⟨#[103,51,120,121,122,47,112]⟩] (fx.out [.l [[.s ⟨#[103,51,120,121,122]⟩,.s ⟨#[103,51]⟩,.s ⟨#[120,121,122]⟩,.i 3,.s ⟨#[]⟩]],.t true]):=gv (L:=aF) hm iN [] (fun _ _=>aT _ _ _) Tryz.func75 rfl (by kernel_rfl) (by kernel_rfl)
theorem Xd:eg P 75 [aS ⟨#[119,49,97,120]⟩] (fx.out [.l [[.s ⟨#[119,49,97,120]⟩,.s ⟨#[119,49]⟩,.s ⟨#[97,120]⟩,.i 0,.s ⟨#[]⟩]],.t true]):=gv (L:=aF) hm iN [] (fun _ _=>aT _ _ _) Tryz.func75 rfl (by kernel_rfl) (by kernel_rfl)
theorem Xe:∀ d r,zo d=some r→dG P 75 (fx.args0 d) (ak (fx.H0 d)) (fx.out r) (ak (fx.H1 r)):=fun d r h=>by
 have h:=LG h;have key:eg P 75 [aS (gi d 0).str] (fx.out r):=by
  generalize (gi d 0).str=s at h;simp only[L6,List.mem_cons,List.not_mem_nil,or_false,Prod.mk.injEq]at h;rcases h with⟨rfl,rfl⟩|⟨rfl,rfl⟩|⟨rfl,rfl⟩|⟨rfl,rfl⟩|⟨rfl,rfl⟩|⟨rfl,rfl⟩|⟨rfl,rfl⟩|⟨rfl,rfl⟩|⟨rfl,rfl⟩|⟨rfl,rfl⟩|⟨rfl,rfl⟩|⟨rfl,rfl⟩|⟨rfl,rfl⟩|⟨rfl,rfl⟩|⟨rfl,rfl⟩
  ·exact W0
  ·exact W1
  ·exact W2
  ·exact W3
  ·exact W4
  ·exact W5
  ·exact W6
  ·exact W7
  ·exact W8
  ·exact W9
  ·exact W_
  ·exact Xa
  ·exact Xb
  ·exact Xc
  ·exact Xd
 exact key []
def t6:ar:=t5.bD fx
theorem L7:au P t6:=LI.aP Xe
end
end Go.Proofs.fW
