/-
 What is proved here: functions of the program as functions on data. No condition.
-/
import Derived.Test.YtiljbnkkhbennaaGreatDoorML0
set_option linter.all false
open List renaming mem_cons→bN,not_mem_nil→mM
open Prod.mk renaming injEq→a8
namespace Go.Proofs.gl
open Go Go.AL Go.Proofs Tryz
noncomputable section
def OY:ai:=t5.inline P 162 f162 []
theorem abo:ak P OY:=OX.inline hm func162 (by kernel_rfl) []
def OZ:ai:=OY.inline P 192 f192 []
theorem abp:ak P OZ:=abo.inline hm func192 (by kernel_rfl) []
def O0:ai:=OZ.inline P 161 f161 []
theorem abq:ak P O0:=abp.inline hm func161 (by kernel_rfl) []
def O1:ai:=O0.inline P 116 f116 []
theorem abr:ak P O1:=abq.inline hm func116 (by kernel_rfl) []
def O2:ai:=O1.inline P 155 f155 []
theorem abt:ak P O2:=abr.inline hm func155 (by kernel_rfl) []
def O3:ai:=O2.inline P 187 f187 []
theorem abu:ak P O3:=abt.inline hm func187 (by kernel_rfl) []
def O4:ai:=O3.inline P 156 f156 []
theorem abv:ak P O4:=abu.inline hm func156 (by kernel_rfl) []
def O5:ai:=O4.inline P 189 f189 []
theorem abw:ak P O5:=abv.inline hm func189 (by kernel_rfl) []
def O6:ai:=O5.inline P 158 f158 []
theorem abx:ak P O6:=abw.inline hm func158 (by kernel_rfl) []
def O7:ai:=O6.inline P 209 f209 []
theorem aby:ak P O7:=abx.inline hm func209 (by kernel_rfl) []
def O8:ai:=O7.inline P 210 f210 []
theorem abz:ak P O8:=aby.inline hm func210 (by kernel_rfl) []
def O9:ai:=O8.inline P 188 f188 []
theorem abA:ak P O9:=abz.inline hm func188 (by kernel_rfl) []
def O_:ai:=O9.inline P 212 f212 []
theorem abB:ak P O_:=abA.inline hm func212 (by kernel_rfl) []
def O':ai:=O_.inline P 190 f190 []
theorem abC:ak P O':=abB.inline hm func190 (by kernel_rfl) []
def Pa:ai:=O'.inline P 159 f159 []
theorem abD:ak P Pa:=abC.inline hm func159 (by kernel_rfl) []
def Pb:ai:=Pa.inline P 121 f121 []
theorem abE:ak P Pb:=abD.inline hm func121 (by kernel_rfl) []
def Pc:ai:=Pb.inline P 220 f220 []
theorem abF:ak P Pc:=abE.inline hm func220 (by kernel_rfl) []
def Pd:ai:=Pc.inline P 213 f213 []
theorem abG:ak P Pd:=abF.inline hm func213 (by kernel_rfl) []
def Pe:ai:=Pd.inline P 191 f191 []
theorem abH:ak P Pe:=abG.inline hm func191 (by kernel_rfl) []
def Pf:ai:=Pe.inline P 160 f160 []
theorem abI:ak P Pf:=abH.inline hm func160 (by kernel_rfl) []
def Pg:ai:=Pf.inline P 122 f122 []
theorem abJ:ak P Pg:=abI.inline hm func122 (by kernel_rfl) []
def Ph:ai:=Pg.inline P 123 f123 []
theorem abK:ak P Ph:=abJ.inline hm func123 (by kernel_rfl) []
def abL:ai:=Ph.inline P 124 f124 []
theorem jH:ak P abL:=abK.inline hm func124 (by kernel_rfl) []
def Pj:List (ByteArray × List G):=[(⟨#[]⟩,[.l [[.s ⟨#[]⟩,.s ⟨#[]⟩,.s ⟨#[]⟩,.i 0,.s ⟨#[]⟩]],.t false]),(⟨#[107,49]⟩,[.l [[.s ⟨#[]⟩,.s ⟨#[]⟩,.s ⟨#[]⟩,.i 0,.s ⟨#[]⟩]],.t false]),(⟨#[75,49,65,66]⟩,[.l [[.s ⟨#[]⟩,.s ⟨#[]⟩,.s ⟨#[]⟩,.i 0,.s ⟨#[]⟩]],.t false]),(⟨#[107,49,97,98,47]⟩,[.l [[.s ⟨#[]⟩,.s ⟨#[]⟩,.s ⟨#[]⟩,.i 0,.s ⟨#[]⟩]],.t false]),(⟨#[49,97]⟩,[.l [[.s ⟨#[]⟩,.s ⟨#[]⟩,.s ⟨#[]⟩,.i 0,.s ⟨#[]⟩]],.t false]),(⟨#[107,49,97,98,47,109,109,47,112]⟩,[.l [[.s ⟨#[]⟩,.s ⟨#[]⟩,.s ⟨#[]⟩,.i 0,.s ⟨#[]⟩]],.t false]),(⟨#[107,49,97,98]⟩,[.l [[.s ⟨#[107,49,97,98]⟩,.s ⟨#[107,49]⟩,.s ⟨#[97,98]⟩,.i 0,.s ⟨#[]⟩]],.t true]),(⟨#[107,49,97,97]⟩,[.l [[.s ⟨#[107,49,97,97]⟩,.s ⟨#[107,49]⟩,.s ⟨#[97,97]⟩,.i 0,.s ⟨#[]⟩]],.t true]),(⟨#[107,49,97,98,47,52]⟩,[.l [[.s ⟨#[107,49,97,98]⟩,.s ⟨#[107,49]⟩,.s ⟨#[97,98]⟩,.i 2,.s ⟨#[52]⟩]],.t true]),(⟨#[111,104,50,97,98,99]⟩,[.l [[.s ⟨#[111,104,50,97,98,99]⟩,.s ⟨#[111,104,50]⟩,.s ⟨#[97,98,99]⟩,.i 0,.s ⟨#[]⟩]],.t true]),(⟨#[111,104,50,97,98,100]⟩,[.l [[.s ⟨#[111,104,50,97,98,100]⟩,.s ⟨#[111,104,50]⟩,.s ⟨#[97,98,100]⟩,.i 0,.s ⟨#[]⟩]],.t true]),(⟨#[119,49,97,119]⟩,[.l [[.s ⟨#[119,49,97,119]⟩,.s ⟨#[119,49]⟩,.s ⟨#[97,119]⟩,.i 0,.s ⟨#[]⟩]],.t true]),(⟨#[110,49,109,109]⟩,[.l [[.s ⟨#[110,49,109,109]⟩,.s ⟨#[110,49]⟩,.s ⟨#[109,109]⟩,.i 0,.s ⟨#[]⟩]],.t true]),(⟨#[103,51,120,121,122,47,112]⟩,[.l [[.s ⟨#[103,51,120,121,122]⟩,.s ⟨#[103,51]⟩,.s ⟨#[120,121,122]⟩,.i 3,.s ⟨#[]⟩]],.t true]),(⟨#[103,52,122,122,122]⟩,[.l [[.s ⟨#[103,52,122,122,122]⟩,.s ⟨#[103,52]⟩,.s ⟨#[122,122,122]⟩,.i 0,.s ⟨#[]⟩]],.t true])]
def BF(d:List G):Option (List G):=xq Pj (gi d 0).str
def gn:aB:=⟨79,[.s (.str)],[],[],[.s (.row OV),.s (.bool)],[],[],[],BF⟩
theorem abM:cV P 79 [aS ⟨#[]⟩] (gn.out [.l [[.s ⟨#[]⟩,.s ⟨#[]⟩,.s ⟨#[]⟩,.i 0,.s ⟨#[]⟩]],.t false]):=dS (L:=ay) hm jH [] (fun _ _=>aL _ _ _) func79 rfl (by kernel_rfl) (by kernel_rfl)
theorem abN:cV P 79 [aS ⟨#[107,49]⟩] (gn.out [.l [[.s ⟨#[]⟩,.s ⟨#[]⟩,.s ⟨#[]⟩,.i 0,.s ⟨#[]⟩]],.t false]):=dS (L:=ay) hm jH [] (fun _ _=>aL _ _ _) func79 rfl (by kernel_rfl) (by kernel_rfl)
theorem abO:cV P 79 [aS ⟨#[75,49,65,66]⟩] (gn.out [.l [[.s ⟨#[]⟩,.s ⟨#[]⟩,.s ⟨#[]⟩,.i 0,.s ⟨#[]⟩]],.t false]):=dS (L:=ay) hm jH [] (fun _ _=>aL _ _ _) func79 rfl (by kernel_rfl) (by kernel_rfl)
theorem abP:cV P 79 [aS ⟨#[107,49,97,98,47]⟩] (gn.out [.l [[.s ⟨#[]⟩,.s ⟨#[]⟩,.s ⟨#[]⟩,.i 0,.s ⟨#[]⟩]],.t false]):=dS (L:=ay) hm jH [] (fun _ _=>aL _ _ _) func79 rfl (by kernel_rfl) (by kernel_rfl)
theorem abQ:cV P 79 [aS ⟨#[49,97]⟩] (gn.out [.l [[.s ⟨#[]⟩,.s ⟨#[]⟩,.s ⟨#[]⟩,.i 0,.s ⟨#[]⟩]],.t false]):=dS (L:=ay) hm jH [] (fun _ _=>aL _ _ _) func79 rfl (by kernel_rfl) (by kernel_rfl)
theorem abR:cV P 79 [aS ⟨#[107,49,97,98,47,109,109,47,112]⟩] (gn.out [.l [[.s ⟨#[]⟩,.s ⟨#[]⟩,.s ⟨#[]⟩,.i 0,.s ⟨#[]⟩]],.t false]):=dS (L:=ay) hm jH [] (fun _ _=>aL _ _ _) func79 rfl (by kernel_rfl) (by kernel_rfl)
theorem abS:cV P 79 [aS ⟨#[107,49,97,98]⟩] (gn.out [.l [[.s ⟨#[107,49,97,98]⟩,.s ⟨#[107,49]⟩,.s ⟨#[97,98]⟩,.i 0,.s ⟨#[]⟩]],.t true]):=dS (L:=ay) hm jH [] (fun _ _=>aL _ _ _) func79 rfl (by kernel_rfl) (by kernel_rfl)
theorem abT:cV P 79 [aS ⟨#[107,49,97,97]⟩] (gn.out [.l [[.s ⟨#[107,49,97,97]⟩,.s ⟨#[107,49]⟩,.s ⟨#[97,97]⟩,.i 0,.s ⟨#[]⟩]],.t true]):=dS (L:=ay) hm jH [] (fun _ _=>aL _ _ _) func79 rfl (by kernel_rfl) (by kernel_rfl)
theorem abU:cV P 79 [aS ⟨#[107,49,97,98,47,52]⟩] (gn.out [.l [[.s ⟨#[107,49,97,98]⟩,.s ⟨#[107,49]⟩,.s ⟨#[97,98]⟩,.i 2,.s ⟨#[52]⟩]],.t true]):=dS (L:=ay) hm jH [] (fun _ _=>aL _ _ _) func79 rfl (by kernel_rfl) (by kernel_rfl)
theorem abV:cV P 79 [aS ⟨#[111,104,50,97,98,99]⟩] (gn.out [.l [[.s ⟨#[111,104,50,97,98,99]⟩,.s ⟨#[111,104,50]⟩,.s ⟨#[97,98,99]⟩,.i 0,.s ⟨#[]⟩]],.t true]):=dS (L:=ay) hm jH [] (fun _ _=>aL _ _ _) func79 rfl (by kernel_rfl) (by kernel_rfl)
theorem abW:cV P 79 [aS ⟨#[111,104,50,97,98,100]⟩] (gn.out [.l [[.s ⟨#[111,104,50,97,98,100]⟩,.s ⟨#[111,104,50]⟩,.s ⟨#[97,98,100]⟩,.i 0,.s ⟨#[]⟩]],.t true]):=dS (L:=ay) hm jH [] (fun _ _=>aL _ _ _) func79 rfl (by kernel_rfl) (by kernel_rfl)
theorem abX:cV P 79 [aS ⟨#[119,49,97,119]⟩] (gn.out [.l [[.s ⟨#[119,49,97,119]⟩,.s ⟨#[119,49]⟩,.s ⟨#[97,119]⟩,.i 0,.s ⟨#[]⟩]],.t true]):=dS (L:=ay) hm jH [] (fun _ _=>aL _ _ _) func79 rfl (by kernel_rfl) (by kernel_rfl)
theorem abY:cV P 79 [aS ⟨#[110,49,109,109]⟩] (gn.out [.l [[.s ⟨#[110,49,109,109]⟩,.s ⟨#[110,49]⟩,.s ⟨#[109,109]⟩,.i 0,.s ⟨#[]⟩]],.t true]):=dS (L:=ay) hm jH [] (fun _ _=>aL _ _ _) func79 rfl (by kernel_rfl) (by kernel_rfl)
theorem abZ:cV P 79 [aS ⟨#[103,51,120,121,122,47,112]⟩] (gn.out [.l [[.s ⟨#[103,51,120,121,122]⟩,.s ⟨#[103,51]⟩,.s ⟨#[120,121,122]⟩,.i 3,.s ⟨#[]⟩]],.t true]):=dS (L:=ay) hm jH [] (fun _ _=>aL _ _ _) func79 rfl (by kernel_rfl) (by kernel_rfl)
theorem ab0:cV P 79 [aS ⟨#[103,52,122,122,122]⟩] (gn.out [.l [[.s ⟨#[103,52,122,122,122]⟩,.s ⟨#[103,52]⟩,.s ⟨#[122,122,122]⟩,.i 0,.s ⟨#[]⟩]],.t true]):=dS (L:=ay) hm jH [] (fun _ _=>aL _ _ _) func79 rfl (by kernel_rfl) (by kernel_rfl)
theorem ab1:∀ d r,BF d=some r→dC P 79 (gn.args0 d) (aj (gn.H0 d)) (gn.out r) (aj (gn.H1 r)):=fun d r h=>by
 have h:=Gd h;have key:cV P 79 [aS (gi d 0).str] (gn.out r):=by
  generalize (gi d 0).str=s at h;simp only[Pj,bN,mM,or_false,a8]at h;rcases h with⟨rfl,rfl⟩|⟨rfl,rfl⟩|⟨rfl,rfl⟩|⟨rfl,rfl⟩|⟨rfl,rfl⟩|⟨rfl,rfl⟩|⟨rfl,rfl⟩|⟨rfl,rfl⟩|⟨rfl,rfl⟩|⟨rfl,rfl⟩|⟨rfl,rfl⟩|⟨rfl,rfl⟩|⟨rfl,rfl⟩|⟨rfl,rfl⟩|⟨rfl,rfl⟩
  ·exact abM
  ·exact abN
  ·exact abO
  ·exact abP
  ·exact abQ
  ·exact abR
  ·exact abS
  ·exact abT
  ·exact abU
  ·exact abV
  ·exact abW
  ·exact abX
  ·exact abY
  ·exact abZ
  ·exact ab0
 exact key []
def t6:ai:=t5.bh gn
theorem Pk:ak P t6:=OX.aP ab1
def Pl:ai:=t6.inline P 210 f210 []
theorem ab2:ak P Pl:=Pk.inline hm func210 (by kernel_rfl) []
def Pm:ai:=Pl.inline P 220 f220 []
theorem ab3:ak P Pm:=ab2.inline hm func220 (by kernel_rfl) []
def Pn:ai:=Pm.inline P 213 f213 []
theorem ab4:ak P Pn:=ab3.inline hm func213 (by kernel_rfl) []
def Po:ai:=Pn.inline P 191 f191 []
theorem ab5:ak P Po:=ab4.inline hm func191 (by kernel_rfl) []
def Pp:ai:=Po.inline P 160 f160 []
theorem ab6:ak P Pp:=ab5.inline hm func160 (by kernel_rfl) []
def Pq:ai:=Pp.inline P 122 f122 []
theorem ab7:ak P Pq:=ab6.inline hm func122 (by kernel_rfl) []
def Pr:ai:=Pq.inline P 116 f116 []
theorem ab8:ak P Pr:=ab7.inline hm func116 (by kernel_rfl) []
def Ps:ai:=Pr.inline P 155 f155 []
theorem ab9:ak P Ps:=ab8.inline hm func155 (by kernel_rfl) []
def Pt:ai:=Ps.inline P 187 f187 []
theorem ab_:ak P Pt:=ab9.inline hm func187 (by kernel_rfl) []
def Pu:ai:=Pt.inline P 156 f156 []
theorem ab':ak P Pu:=ab_.inline hm func156 (by kernel_rfl) []
def Pv:ai:=Pu.inline P 189 f189 []
theorem aca:ak P Pv:=ab'.inline hm func189 (by kernel_rfl) []
def Pw:ai:=Pv.inline P 158 f158 []
theorem acb:ak P Pw:=aca.inline hm func158 (by kernel_rfl) []
def Px:ai:=Pw.inline P 209 f209 []
theorem acd:ak P Px:=acb.inline hm func209 (by kernel_rfl) []
def Py:ai:=Px.inline P 188 f188 []
theorem ace:ak P Py:=acd.inline hm func188 (by kernel_rfl) []
def Pz:ai:=Py.inline P 212 f212 []
theorem acf:ak P Pz:=ace.inline hm func212 (by kernel_rfl) []
def PA:ai:=Pz.inline P 190 f190 []
theorem acg:ak P PA:=acf.inline hm func190 (by kernel_rfl) []
def PB:ai:=PA.inline P 206 f206 []
theorem ach:ak P PB:=acg.inline hm func206 (by kernel_rfl) []
def PC:ai:=PB.inline P 219 f219 []
theorem aci:ak P PC:=ach.inline hm func219 (by kernel_rfl) []
def PD:ai:=PC.inline P 207 f207 []
theorem acj:ak P PD:=aci.inline hm func207 (by kernel_rfl) []
def PE:ai:=PD.inline P 205 f205 []
theorem ack:ak P PE:=acj.inline hm func205 (by kernel_rfl) []
def PF:ai:=PE.inline P 184 f184 []
theorem acm:ak P PF:=ack.inline hm func184 (by kernel_rfl) []
def PG:ai:=PF.inline P 183 f183 []
theorem acn:ak P PG:=acm.inline hm func183 (by kernel_rfl) []
def PH:ai:=PG.inline P 185 f185 []
theorem aco:ak P PH:=acn.inline hm func185 (by kernel_rfl) []
def PI:ai:=PH.inline P 208 f208 []
theorem acp:ak P PI:=aco.inline hm func208 (by kernel_rfl) []
def acq:ai:=PI.inline P 186 f186 []
theorem jI:ak P acq:=acp.inline hm func186 (by kernel_rfl) []
def PJ:List (ByteArray × List G):=[(⟨#[]⟩,[.l [[.s ⟨#[]⟩,.s ⟨#[]⟩,.s ⟨#[]⟩,.i 0,.s ⟨#[]⟩]],.t false]),(⟨#[107,49]⟩,[.l [[.s ⟨#[]⟩,.s ⟨#[]⟩,.s ⟨#[]⟩,.i 0,.s ⟨#[]⟩]],.t false]),(⟨#[75,49,65,66]⟩,[.l [[.s ⟨#[]⟩,.s ⟨#[]⟩,.s ⟨#[]⟩,.i 0,.s ⟨#[]⟩]],.t false]),(⟨#[107,49,97,98,47]⟩,[.l [[.s ⟨#[]⟩,.s ⟨#[]⟩,.s ⟨#[]⟩,.i 0,.s ⟨#[]⟩]],.t false]),(⟨#[49,97]⟩,[.l [[.s ⟨#[]⟩,.s ⟨#[]⟩,.s ⟨#[]⟩,.i 0,.s ⟨#[]⟩]],.t false]),(⟨#[107,49,97,98,47,109,109,47,112]⟩,[.l [[.s ⟨#[]⟩,.s ⟨#[]⟩,.s ⟨#[]⟩,.i 0,.s ⟨#[]⟩]],.t false]),(⟨#[107,49,97,98]⟩,[.l [[.s ⟨#[107,49,97,98]⟩,.s ⟨#[107,49]⟩,.s ⟨#[97,98]⟩,.i 0,.s ⟨#[]⟩]],.t true]),(⟨#[107,49,97,97]⟩,[.l [[.s ⟨#[107,49,97,97]⟩,.s ⟨#[107,49]⟩,.s ⟨#[97,97]⟩,.i 0,.s ⟨#[]⟩]],.t true]),(⟨#[107,49,97,98,47,52]⟩,[.l [[.s ⟨#[107,49,97,98]⟩,.s ⟨#[107,49]⟩,.s ⟨#[97,98]⟩,.i 2,.s ⟨#[52]⟩]],.t true]),(⟨#[111,104,50,97,98,99]⟩,[.l [[.s ⟨#[111,104,50,97,98,99]⟩,.s ⟨#[111,104,50]⟩,.s ⟨#[97,98,99]⟩,.i 0,.s ⟨#[]⟩]],.t true]),(⟨#[111,104,50,97,98,100]⟩,[.l [[.s ⟨#[111,104,50,97,98,100]⟩,.s ⟨#[111,104,50]⟩,.s ⟨#[97,98,100]⟩,.i 0,.s ⟨#[]⟩]],.t true]),(⟨#[119,49,97,119]⟩,[.l [[.s ⟨#[119,49,97,119]⟩,.s ⟨#[119,49]⟩,.s ⟨#[97,119]⟩,.i 0,.s ⟨#[]⟩]],.t true]),(⟨#[110,49,109,109]⟩,[.l [[.s ⟨#[110,49,109,109]⟩,.s ⟨#[110,49]⟩,.s ⟨#[109,109]⟩,.i 0,.s ⟨#[]⟩]],.t true]),(⟨#[103,51,120,121,122,47,112]⟩,[.l [[.s ⟨#[103,51,120,121,122]⟩,.s ⟨#[103,51]⟩,.s ⟨#[120,121,122]⟩,.i 3,.s ⟨#[]⟩]],.t true]),(⟨#[103,52,122,122,122]⟩,[.l [[.s ⟨#[103,52,122,122,122]⟩,.s ⟨#[103,52]⟩,.s ⟨#[122,122,122]⟩,.i 0,.s ⟨#[]⟩]],.t true])]
def Ge(d:List G):Option (List G):=xq PJ (gi d 0).str
def gp:aB:=⟨153,[.s (.str)],[],[],[.s (.row OV),.s (.bool)],[],[],[],Ge⟩
theorem acr:cV P 153 [aS ⟨#[]⟩] (gp.out [.l [[.s ⟨#[]⟩,.s ⟨#[]⟩,.s ⟨#[]⟩,.i 0,.s ⟨#[]⟩]],.t false]):=dS (L:=ay) hm jI [] (fun _ _=>aL _ _ _) func153 rfl (by kernel_rfl) (by kernel_rfl)
theorem acs:cV P 153 [aS ⟨#[107,49]⟩] (gp.out [.l [[.s ⟨#[]⟩,.s ⟨#[]⟩,.s ⟨#[]⟩,.i 0,.s ⟨#[]⟩]],.t false]):=dS (L:=ay) hm jI [] (fun _ _=>aL _ _ _) func153 rfl (by kernel_rfl) (by kernel_rfl)
theorem acu:cV P 153 [aS ⟨#[75,49,65,66]⟩] (gp.out [.l [[.s ⟨#[]⟩,.s ⟨#[]⟩,.s ⟨#[]⟩,.i 0,.s ⟨#[]⟩]],.t false]):=dS (L:=ay) hm jI [] (fun _ _=>aL _ _ _) func153 rfl (by kernel_rfl) (by kernel_rfl)
theorem acv:cV P 153 [aS ⟨#[107,49,97,98,47]⟩] (gp.out [.l [[.s ⟨#[]⟩,.s ⟨#[]⟩,.s ⟨#[]⟩,.i 0,.s ⟨#[]⟩]],.t false]):=dS (L:=ay) hm jI [] (fun _ _=>aL _ _ _) func153 rfl (by kernel_rfl) (by kernel_rfl)
theorem acw:cV P 153 [aS ⟨#[49,97]⟩] (gp.out [.l [[.s ⟨#[]⟩,.s ⟨#[]⟩,.s ⟨#[]⟩,.i 0,.s ⟨#[]⟩]],.t false]):=dS (L:=ay) hm jI [] (fun _ _=>aL _ _ _) func153 rfl (by kernel_rfl) (by kernel_rfl)
theorem acx:cV P 153 [aS ⟨#[107,49,97,98,47,109,109,47,112]⟩] (gp.out [.l [[.s ⟨#[]⟩,.s ⟨#[]⟩,.s ⟨#[]⟩,.i 0,.s ⟨#[]⟩]],.t false]):=dS (L:=ay) hm jI [] (fun _ _=>aL _ _ _) func153 rfl (by kernel_rfl) (by kernel_rfl)
theorem acy:cV P 153 [aS ⟨#[107,49,97,98]⟩] (gp.out [.l [[.s ⟨#[107,49,97,98]⟩,.s ⟨#[107,49]⟩,.s ⟨#[97,98]⟩,.i 0,.s ⟨#[]⟩]],.t true]):=dS (L:=ay) hm jI [] (fun _ _=>aL _ _ _) func153 rfl (by kernel_rfl) (by kernel_rfl)
theorem acz:cV P 153 [aS ⟨#[107,49,97,97]⟩] (gp.out [.l [[.s ⟨#[107,49,97,97]⟩,.s ⟨#[107,49]⟩,.s ⟨#[97,97]⟩,.i 0,.s ⟨#[]⟩]],.t true]):=dS (L:=ay) hm jI [] (fun _ _=>aL _ _ _) func153 rfl (by kernel_rfl) (by kernel_rfl)
theorem acA:cV P 153 [aS ⟨#[107,49,97,98,47,52]⟩] (gp.out [.l [[.s ⟨#[107,49,97,98]⟩,.s ⟨#[107,49]⟩,.s ⟨#[97,98]⟩,.i 2,.s ⟨#[52]⟩]],.t true]):=dS (L:=ay) hm jI [] (fun _ _=>aL _ _ _) func153 rfl (by kernel_rfl) (by kernel_rfl)
theorem acB:cV P 153 [aS ⟨#[111,104,50,97,98,99]⟩] (gp.out [.l [[.s ⟨#[111,104,50,97,98,99]⟩,.s ⟨#[111,104,50]⟩,.s ⟨#[97,98,99]⟩,.i 0,.s ⟨#[]⟩]],.t true]):=dS (L:=ay) hm jI [] (fun _ _=>aL _ _ _) func153 rfl (by kernel_rfl) (by kernel_rfl)
theorem acC:cV P 153 [aS ⟨#[111,104,50,97,98,100]⟩] (gp.out [.l [[.s ⟨#[111,104,50,97,98,100]⟩,.s ⟨#[111,104,50]⟩,.s ⟨#[97,98,100]⟩,.i 0,.s ⟨#[]⟩]],.t true]):=dS (L:=ay) hm jI [] (fun _ _=>aL _ _ _) func153 rfl (by kernel_rfl) (by kernel_rfl)
theorem acD:cV P 153 [aS ⟨#[119,49,97,119]⟩] (gp.out [.l [[.s ⟨#[119,49,97,119]⟩,.s ⟨#[119,49]⟩,.s ⟨#[97,119]⟩,.i 0,.s ⟨#[]⟩]],.t true]):=dS (L:=ay) hm jI [] (fun _ _=>aL _ _ _) func153 rfl (by kernel_rfl) (by kernel_rfl)
theorem acE:cV P 153 [aS ⟨#[110,49,109,109]⟩] (gp.out [.l [[.s ⟨#[110,49,109,109]⟩,.s ⟨#[110,49]⟩,.s ⟨#[109,109]⟩,.i 0,.s ⟨#[]⟩]],.t true]):=dS (L:=ay) hm jI [] (fun _ _=>aL _ _ _) func153 rfl (by kernel_rfl) (by kernel_rfl)
theorem acF:cV P 153 [aS ⟨#[103,51,120,121,122,47,112]⟩] (gp.out [.l [[.s ⟨#[103,51,120,121,122]⟩,.s ⟨#[103,51]⟩,.s ⟨#[120,121,122]⟩,.i 3,.s ⟨#[]⟩]],.t true]):=dS (L:=ay) hm jI [] (fun _ _=>aL _ _ _) func153 rfl (by kernel_rfl) (by kernel_rfl)
theorem acG:cV P 153 [aS ⟨#[103,52,122,122,122]⟩] (gp.out [.l [[.s ⟨#[103,52,122,122,122]⟩,.s ⟨#[103,52]⟩,.s ⟨#[122,122,122]⟩,.i 0,.s ⟨#[]⟩]],.t true]):=dS (L:=ay) hm jI [] (fun _ _=>aL _ _ _) func153 rfl (by kernel_rfl) (by kernel_rfl)
theorem acH:∀ d r,Ge d=some r→dC P 153 (gp.args0 d) (aj (gp.H0 d)) (gp.out r) (aj (gp.H1 r)):=fun d r h=>by
 have h:=Gd h;have key:cV P 153 [aS (gi d 0).str] (gp.out r):=by
  generalize (gi d 0).str=s at h;simp only[PJ,bN,mM,or_false,a8]at h;rcases h with⟨rfl,rfl⟩|⟨rfl,rfl⟩|⟨rfl,rfl⟩|⟨rfl,rfl⟩|⟨rfl,rfl⟩|⟨rfl,rfl⟩|⟨rfl,rfl⟩|⟨rfl,rfl⟩|⟨rfl,rfl⟩|⟨rfl,rfl⟩|⟨rfl,rfl⟩|⟨rfl,rfl⟩|⟨rfl,rfl⟩|⟨rfl,rfl⟩|⟨rfl,rfl⟩
  ·exact acr
  ·exact acs
  ·exact acu
  ·exact acv
  ·exact acw
  ·exact acx
  ·exact acy
  ·exact acz
  ·exact acA
  ·exact acB
  ·exact acC
  ·exact acD
  ·exact acE
  ·exact acF
  ·exact acG
 exact key []
def t7:ai:=t6.bh gp
theorem PK:ak P t7:=Pk.aP acH
end
end Go.Proofs.gl
