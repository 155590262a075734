/-
 What is proved here: functions of the program as functions on data. No condition.
-/
import Derived.Test.YtdabjgppkghiaaaGreatDoorML0
set_option linter.all false
namespace Go.Proofs.jJ
open Go Go.AL Go.Proofs
noncomputable section
def Ha:al:=t4.inline P 140 Tryz.f140 []
theorem QV:ao P Ha:=G'.inline hm Tryz.func140 (by kernel_rfl) []
def Hb:al:=Ha.inline P 158 Tryz.f158 []
theorem QW:ao P Hb:=QV.inline hm Tryz.func158 (by kernel_rfl) []
def Hc:al:=Hb.inline P 139 Tryz.f139 []
theorem QX:ao P Hc:=QW.inline hm Tryz.func139 (by kernel_rfl) []
def Hd:al:=Hc.inline P 62 Tryz.f62 []
theorem QY:ao P Hd:=QX.inline hm Tryz.func62 (by kernel_rfl) []
def He:al:=Hd.inline P 84 Tryz.f84 []
theorem QZ:ao P He:=QY.inline hm Tryz.func84 (by kernel_rfl) []
def Hf:al:=He.inline P 99 Tryz.f99 []
theorem Q0:ao P Hf:=QZ.inline hm Tryz.func99 (by kernel_rfl) []
def Hg:al:=Hf.inline P 85 Tryz.f85 []
theorem Q1:ao P Hg:=Q0.inline hm Tryz.func85 (by kernel_rfl) []
def Hh:al:=Hg.inline P 101 Tryz.f101 []
theorem Q2:ao P Hh:=Q1.inline hm Tryz.func101 (by kernel_rfl) []
def Hk:al:=Hh.inline P 87 Tryz.f87 []
theorem Q3:ao P Hk:=Q2.inline hm Tryz.func87 (by kernel_rfl) []
def Hl:al:=Hk.inline P 129 Tryz.f129 []
theorem Q4:ao P Hl:=Q3.inline hm Tryz.func129 (by kernel_rfl) []
def Hm:al:=Hl.inline P 130 Tryz.f130 []
theorem Q5:ao P Hm:=Q4.inline hm Tryz.func130 (by kernel_rfl) []
def Hn:al:=Hm.inline P 100 Tryz.f100 []
theorem Q6:ao P Hn:=Q5.inline hm Tryz.func100 (by kernel_rfl) []
def Ho:al:=Hn.inline P 164 Tryz.f164 []
theorem Q7:ao P Ho:=Q6.inline hm Tryz.func164 (by kernel_rfl) []
def Hp:al:=Ho.inline P 156 Tryz.f156 []
theorem Q8:ao P Hp:=Q7.inline hm Tryz.func156 (by kernel_rfl) []
def Hq:al:=Hp.inline P 137 Tryz.f137 []
theorem Q9:ao P Hq:=Q8.inline hm Tryz.func137 (by kernel_rfl) []
def Hr:al:=Hq.inline P 112 Tryz.f112 []
theorem Q_:ao P Hr:=Q9.inline hm Tryz.func112 (by kernel_rfl) []
def Hs:al:=Hr.inline P 167 Tryz.f167 []
theorem Ra:ao P Hs:=Q_.inline hm Tryz.func167 (by kernel_rfl) []
def Ht:al:=Hs.inline P 165 Tryz.f165 []
theorem Rb:ao P Ht:=Ra.inline hm Tryz.func165 (by kernel_rfl) []
def Hu:al:=Ht.inline P 157 Tryz.f157 []
theorem Rc:ao P Hu:=Rb.inline hm Tryz.func157 (by kernel_rfl) []
def Hv:al:=Hu.inline P 138 Tryz.f138 []
theorem Re:ao P Hv:=Rc.inline hm Tryz.func138 (by kernel_rfl) []
def Hw:al:=Hv.inline P 113 Tryz.f113 []
theorem Rf:ao P Hw:=Re.inline hm Tryz.func113 (by kernel_rfl) []
def Hx:al:=Hw.inline P 114 Tryz.f114 []
theorem Rg:ao P Hx:=Rf.inline hm Tryz.func114 (by kernel_rfl) []
def Rh:al:=Hx.inline P 115 Tryz.f115 []
theorem ia:ao P Rh:=Rg.inline hm Tryz.func115 (by kernel_rfl) []
def Hy:List (ByteArray × List G):=[(⟨#[]⟩,[.l [[.s ⟨#[]⟩,.s ⟨#[]⟩,.s ⟨#[]⟩,.i 0,.s ⟨#[]⟩]],.t false]),(⟨#[107,49]⟩,[.l [[.s ⟨#[]⟩,.s ⟨#[]⟩,.s ⟨#[]⟩,.i 0,.s ⟨#[]⟩]],.t false]),(⟨#[75,49,65,66]⟩,[.l [[.s ⟨#[]⟩,.s ⟨#[]⟩,.s ⟨#[]⟩,.i 0,.s ⟨#[]⟩]],.t false]),(⟨#[107,49,97,98,47]⟩,[.l [[.s ⟨#[]⟩,.s ⟨#[]⟩,.s ⟨#[]⟩,.i 0,.s ⟨#[]⟩]],.t false]),(⟨#[49,97]⟩,[.l [[.s ⟨#[]⟩,.s ⟨#[]⟩,.s ⟨#[]⟩,.i 0,.s ⟨#[]⟩]],.t false]),(⟨#[107,49,97,98,47,109,109,47,112]⟩,[.l [[.s ⟨#[]⟩,.s ⟨#[]⟩,.s ⟨#[]⟩,.i 0,.s ⟨#[]⟩]],.t false]),(⟨#[107,49,97,98]⟩,[.l [[.s ⟨#[107,49,97,98]⟩,.s ⟨#[107,49]⟩,.s ⟨#[97,98]⟩,.i 0,.s ⟨#[]⟩]],.t true]),(⟨#[107,49,97,97]⟩,[.l [[.s ⟨#[107,49,97,97]⟩,.s ⟨#[107,49]⟩,.s ⟨#[97,97]⟩,.i 0,.s ⟨#[]⟩]],.t true]),(⟨#[107,49,97,98,47,52]⟩,[.l [[.s ⟨#[107,49,97,98]⟩,.s ⟨#[107,49]⟩,.s ⟨#[97,98]⟩,.i 2,.s ⟨#[52]⟩]],.t true]),(⟨#[111,104,50,97,98,99]⟩,[.l [[.s ⟨#[111,104,50,97,98,99]⟩,.s ⟨#[111,104,50]⟩,.s ⟨#[97,98,99]⟩,.i 0,.s ⟨#[]⟩]],.t true]),(⟨#[111,104,50,97,98,100]⟩,[.l [[.s ⟨#[111,104,50,97,98,100]⟩,.s ⟨#[111,104,50]⟩,.s ⟨#[97,98,100]⟩,.i 0,.s ⟨#[]⟩]],.t true]),(⟨#[119,49,97,119]⟩,[.l [[.s ⟨#[119,49,97,119]⟩,.s ⟨#[119,49]⟩,.s ⟨#[97,119]⟩,.i 0,.s ⟨#[]⟩]],.t true]),(⟨#[110,49,109,109]⟩,[.l [[.s ⟨#[110,49,109,109]⟩,.s ⟨#[110,49]⟩,.s ⟨#[109,109]⟩,.i 0,.s ⟨#[]⟩]],.t true]),(⟨#[103,51,120,121,122,47,112]⟩,[.l [[.s ⟨#[103,51,120,121,122]⟩,.s ⟨#[103,51]⟩,.s ⟨#[120,121,122]⟩,.i 3,.s ⟨#[]⟩]],.t true])]
def we(d:List G):Option (List G):=v_ Hy (gi d 0).str
def eV:aG:=⟨91,[.s (.str)],[],[],[.s (.row QM),.s (.bool)],[],[],[],we⟩
theorem Ri:dE P 91 [aS ⟨#[]⟩] (eV.out [.l [[.s ⟨#[]⟩,.s ⟨#[]⟩,.s ⟨#[]⟩,.i 0,.s ⟨#[]⟩]],.t false]):=fR (L:=aF) hm ia [] (fun _ _=>aT _ _ _) Tryz.func91 rfl (by kernel_rfl) (by kernel_rfl)
theorem Rj:dE P 91 [aS ⟨#[107,49]⟩] (eV.out [.l [[.s ⟨#[]⟩,.s ⟨#[]⟩,.s ⟨#[]⟩,.i 0,.s ⟨#[]⟩]],.t false]):=fR (L:=aF) hm ia [] (fun _ _=>aT _ _ _) Tryz.func91 rfl (by kernel_rfl) (by kernel_rfl)
theorem Rk:dE P 91 [aS ⟨#[75,49,65,66]⟩] (eV.out [.l [[.s ⟨#[]⟩,.s ⟨#[]⟩,.s ⟨#[]⟩,.i 0,.s ⟨#[]⟩]],.t false]):=fR (L:=aF) hm ia [] (fun _ _=>aT _ _ _) Tryz.func91 rfl (by kernel_rfl) (by kernel_rfl)
theorem Rl:dE P 91 [aS ⟨#[107,49,97,98,47]⟩] (eV.out [.l [[.s ⟨#[]⟩,.s ⟨#[]⟩,.s ⟨#[]⟩,.i 0,.s ⟨#[]⟩]],.t false]):=fR (L:=aF) hm ia [] (fun _ _=>aT _ _ _) Tryz.func91 rfl (by kernel_rfl) (by kernel_rfl)
theorem Rm:dE P 91 [aS ⟨#[49,97]⟩] (eV.out [.l [[.s ⟨#[]⟩,.s ⟨#[]⟩,.s ⟨#[]⟩,.i 0,.s ⟨#[]⟩]],.t false]):=fR (L:=aF) hm ia [] (fun _ _=>aT _ _ _) Tryz.func91 rfl (by kernel_rfl) (by kernel_rfl)
theorem Rn:dE P 91 [aS ⟨#[107,49,97,98,47,109,109,47,112]⟩] (eV.out [.l [[.s ⟨#[]⟩,.s ⟨#[]⟩,.s ⟨#[]⟩,.i 0,.s ⟨#[]⟩]],.t false]):=fR (L:=aF) hm ia [] (fun _ _=>aT _ _ _) Tryz.func91 rfl (by kernel_rfl) (by kernel_rfl)
theorem Ro:dE P 91 [aS ⟨#[107,49,97,98]⟩] (eV.out [.l [[.s ⟨#[107,49,97,98]⟩,.s ⟨#[107,49]⟩,.s ⟨#[97,98]⟩,.i 0,.s ⟨#[]⟩]],.t true]):=fR (L:=aF) hm ia [] (fun _ _=>aT _ _ _) Tryz.func91 rfl (by kernel_rfl) (by kernel_rfl)
theorem Rp:dE P 91 [aS ⟨#[107,49,97,97]⟩] (eV.out [.l [[.s ⟨#[107,49,97,97]⟩,.s ⟨#[107,49]⟩,.s ⟨#[97,97]⟩,.i 0,.s ⟨#[]⟩]],.t true]):=fR (L:=aF) hm ia [] (fun _ _=>aT _ _ _) Tryz.func91 rfl (by kernel_rfl) (by kernel_rfl)
theorem Rq:dE P 91 [aS ⟨#[107,49,97,98,47,52]⟩] (eV.out [.l [[.s ⟨#[107,49,97,98]⟩,.s ⟨#[107,49]⟩,.s ⟨#[97,98]⟩,.i 2,.s ⟨#[52]⟩]],.t true]):=fR (L:=aF) hm ia [] (fun _ _=>aT _ _ _) Tryz.func91 rfl (by kernel_rfl) (by kernel_rfl)
theorem Rr:dE P 91 [aS ⟨#[111,104,50,97,98,99]⟩] (eV.out [.l [[.s ⟨#[111,104,50,97,98,99]⟩,.s ⟨#[111,104,50]⟩,.s ⟨#[97,98,99]⟩,.i 0,.s ⟨#[]⟩]],.t true]):=fR (L:=aF) hm ia [] (fun _ _=>aT _ _ _) Tryz.func91 rfl (by kernel_rfl) (by kernel_rfl)
theorem Rs:dE P 91 [aS ⟨#[111,104,50,97,98,100]⟩] (eV.out [.l [[.s ⟨#[111,104,50,97,98,100]⟩,.s ⟨#[111,104,50]⟩,.s ⟨#[97,98,100]⟩,.i 0,.s ⟨#[]⟩]],.t true]):=fR (L:=aF) hm ia [] (fun _ _=>aT _ _ _) Tryz.func91 rfl (by kernel_rfl) (by kernel_rfl)
theorem Rt:dE P 91 [aS ⟨#[119,49,97,119]⟩] (eV.out [.l [[.s ⟨#[119,49,97,119]⟩,.s ⟨#[119,49]⟩,.s ⟨#[97,119]⟩,.i 0,.s ⟨#[]⟩]],.t true]):=fR (L:=aF) hm ia [] (fun _ _=>aT _ _ _) Tryz.func91 rfl (by kernel_rfl) (by kernel_rfl)
theorem Ru:dE P 91 [aS ⟨#[110,49,109,109]⟩] (eV.out [.l [[.s ⟨#[110,49,109,109]⟩,.s ⟨#[110,49]⟩,.s ⟨#[109,109]⟩,.i 0,.s ⟨#[]⟩]],.t true]):=fR (L:=aF) hm ia [] (fun _ _=>aT _ _ _) Tryz.func91 rfl (by kernel_rfl) (by kernel_rfl)
theorem Rv:dE P 91 [aS ⟨#[103,51,120,121,122,47,112]⟩] (eV.out [.l [[.s ⟨#[103,51,120,121,122]⟩,.s ⟨#[103,51]⟩,.s ⟨#[120,121,122]⟩,.i 3,.s ⟨#[]⟩]],.t true]):=fR (L:=aF) hm ia [] (fun _ _=>aT _ _ _) Tryz.func91 rfl (by kernel_rfl) (by kernel_rfl)
theorem Rw:∀ d r,we d=some r→c9 P 91 (eV.args0 d) (ai (eV.H0 d)) (eV.out r) (ai (eV.H1 r)):=fun d r h=>by
 have h:=G9 h;have key:dE P 91 [aS (gi d 0).str] (eV.out r):=by
  generalize (gi d 0).str=s at h;simp only[Hy,List.mem_cons,List.not_mem_nil,or_false,Prod.mk.injEq]at h;rcases h with⟨rfl,rfl⟩|⟨rfl,rfl⟩|⟨rfl,rfl⟩|⟨rfl,rfl⟩|⟨rfl,rfl⟩|⟨rfl,rfl⟩|⟨rfl,rfl⟩|⟨rfl,rfl⟩|⟨rfl,rfl⟩|⟨rfl,rfl⟩|⟨rfl,rfl⟩|⟨rfl,rfl⟩|⟨rfl,rfl⟩|⟨rfl,rfl⟩
  ·exact Ri
  ·exact Rj
  ·exact Rk
  ·exact Rl
  ·exact Rm
  ·exact Rn
  ·exact Ro
  ·exact Rp
  ·exact Rq
  ·exact Rr
  ·exact Rs
  ·exact Rt
  ·exact Ru
  ·exact Rv
 exact key []
def t5:al:=t4.bF eV
theorem Hz:ao P t5:=G'.aP Rw
end
end Go.Proofs.jJ
