/-
 What is proved: functions as functions on data. No condition.
-/
import Derived.Test.YtomcmchdbdnclaaGreatDoorML0
set_option linter.all false
open List renaming mem_cons->bC,not_mem_nil->nr
open Prod.mk renaming injEq->aU
namespace Go.Proofs.iy
open Go Go.AL Go.Proofs Tryz
noncomputable section
def PT:au:=t5.inline P 181 f181 []
theorem acq:aw P PT:=PS.inline hm func181 (by kernel_rfl) []
def PU:au:=PT.inline P 189 f189 []
theorem acr:aw P PU:=acq.inline hm func189 (by kernel_rfl) []
def PV:au:=PU.inline P 182 f182 []
theorem acs:aw P PV:=acr.inline hm func182 (by kernel_rfl) []
def PW:au:=PV.inline P 158 f158 []
theorem acu:aw P PW:=acs.inline hm func158 (by kernel_rfl) []
def PX:au:=PW.inline P 132 f132 []
theorem acv:aw P PX:=acu.inline hm func132 (by kernel_rfl) []
def PY:au:=PX.inline P 90 f90 []
theorem acw:aw P PY:=acv.inline hm func90 (by kernel_rfl) []
def PZ:au:=PY.inline P 183 f183 []
theorem acx:aw P PZ:=acw.inline hm func183 (by kernel_rfl) []
def P0:au:=PZ.inline P 159 f159 []
theorem acy:aw P P0:=acx.inline hm func159 (by kernel_rfl) []
def P1:au:=P0.inline P 160 f160 []
theorem acz:aw P P1:=acy.inline hm func160 (by kernel_rfl) []
def P2:au:=P1.inline P 161 f161 []
theorem acA:aw P P2:=acz.inline hm func161 (by kernel_rfl) []
def P3:au:=P2.inline P 162 f162 []
theorem acB:aw P P3:=acA.inline hm func162 (by kernel_rfl) []
def P4:au:=P3.inline P 184 f184 []
theorem acC:aw P P4:=acB.inline hm func184 (by kernel_rfl) []
def P5:au:=P4.inline P 190 f190 []
theorem acD:aw P P5:=acC.inline hm func190 (by kernel_rfl) []
def P6:au:=P5.inline P 185 f185 []
theorem acE:aw P P6:=acD.inline hm func185 (by kernel_rfl) []
def P7:au:=P6.inline P 163 f163 []
theorem acF:aw P P7:=acE.inline hm func163 (by kernel_rfl) []
def P8:au:=P7.inline P 133 f133 []
theorem acG:aw P P8:=acF.inline hm func133 (by kernel_rfl) []
def P9:au:=P8.inline P 155 f155 []
theorem acH:aw P P9:=acG.inline hm func155 (by kernel_rfl) []
def P_:au:=P9.inline P 172 f172 []
theorem acI:aw P P_:=acH.inline hm func172 (by kernel_rfl) []
def P':au:=P_.inline P 154 f154 []
theorem acJ:aw P P':=acI.inline hm func154 (by kernel_rfl) []
def Qa:au:=P'.inline P 153 f153 []
theorem acK:aw P Qa:=acJ.inline hm func153 (by kernel_rfl) []
def Qb:au:=Qa.inline P 124 f124 []
theorem acL:aw P Qb:=acK.inline hm func124 (by kernel_rfl) []
def Qc:au:=Qb.inline P 125 f125 []
theorem acM:aw P Qc:=acL.inline hm func125 (by kernel_rfl) []
def acN:au:=Qc.inline P 126 f126 []
theorem jY:aw P acN:=acM.inline hm func126 (by kernel_rfl) []
def Qd:List (ByteArray × List G):=[(⟨#[]⟩,[.l [[.s ⟨#[]⟩,.s ⟨#[]⟩,.s ⟨#[]⟩,.i 0,.s ⟨#[]⟩]],.t false]),(⟨#[107,49]⟩,[.l [[.s ⟨#[]⟩,.s ⟨#[]⟩,.s ⟨#[]⟩,.i 0,.s ⟨#[]⟩]],.t false]),(⟨#[75,49,65,66]⟩,[.l [[.s ⟨#[]⟩,.s ⟨#[]⟩,.s ⟨#[]⟩,.i 0,.s ⟨#[]⟩]],.t false]),(⟨#[107,49,97,98,47]⟩,[.l [[.s ⟨#[]⟩,.s ⟨#[]⟩,.s ⟨#[]⟩,.i 0,.s ⟨#[]⟩]],.t false]),(⟨#[49,97]⟩,[.l [[.s ⟨#[]⟩,.s ⟨#[]⟩,.s ⟨#[]⟩,.i 0,.s ⟨#[]⟩]],.t false]),(⟨#[107,49,97,98,47,109,109,47,112]⟩,[.l [[.s ⟨#[]⟩,.s ⟨#[]⟩,.s ⟨#[]⟩,.i 0,.s ⟨#[]⟩]],.t false]),(⟨#[107,49,97,98]⟩,[.l [[.s ⟨#[107,49,97,98]⟩,.s ⟨#[107,49]⟩,.s ⟨#[97,98]⟩,.i 0,.s ⟨#[]⟩]],.t true]),(⟨#[107,49,97,97]⟩,[.l [[.s ⟨#[107,49,97,97]⟩,.s ⟨#[107,49]⟩,.s ⟨#[97,97]⟩,.i 0,.s ⟨#[]⟩]],.t true]),(⟨#[107,49,97,98,47,52]⟩,[.l [[.s ⟨#[107,49,97,98]⟩,.s ⟨#[107,49]⟩,.s ⟨#[97,98]⟩,.i 2,.s ⟨#[52]⟩]],.t true]),(⟨#[111,104,50,97,98,99]⟩,[.l [[.s ⟨#[111,104,50,97,98,99]⟩,.s ⟨#[111,104,50]⟩,.s ⟨#[97,98,99]⟩,.i 0,.s ⟨#[]⟩]],.t true]),(⟨#[111,104,50,97,98,100]⟩,[.l [[.s ⟨#[111,104,50,97,98,100]⟩,.s ⟨#[111,104,50]⟩,.s ⟨#[97,98,100]⟩,.i 0,.s ⟨#[]⟩]],.t true]),(⟨#[119,49,97,119]⟩,[.l [[.s ⟨#[119,49,97,119]⟩,.s ⟨#[119,49]⟩,.s ⟨#[97,119]⟩,.i 0,.s ⟨#[]⟩]],.t true]),(⟨#[110,49,109,109]⟩,[.l [[.s ⟨#[110,49,109,109]⟩,.s ⟨#[110,49]⟩,.s ⟨#[109,109]⟩,.i 0,.s ⟨#[]⟩]],.t true]),(⟨#[103,51,120,121,122,47,112]⟩,[.l [[.s ⟨#[103,51,120,121,122]⟩,.s ⟨#[103,51]⟩,.s ⟨#[120,121,122]⟩,.i 3,.s ⟨#[]⟩]],.t true]),(⟨#[119,49,97,120]⟩,[.l [[.s ⟨#[119,49,97,120]⟩,.s ⟨#[119,49]⟩,.s ⟨#[97,120]⟩,.i 0,.s ⟨#[]⟩]],.t true])]
def G7(d:List G):Option (List G):=yy Qd (gi d 0).str
def gM:aH:=⟨87,[cO],[],[],[.s (.row PQ),dj],[],[],[],G7⟩
theorem acO:c7 P 87 [aS ⟨#[]⟩] (gM.out [.l [[.s ⟨#[]⟩,.s ⟨#[]⟩,.s ⟨#[]⟩,.i 0,.s ⟨#[]⟩]],.t false]):=eg (L:=aA) hm jY [] (fun _ _=>aO _ _ _) func87 rfl (by kernel_rfl) (by kernel_rfl)
theorem acP:c7 P 87 [aS ⟨#[107,49]⟩] (gM.out [.l [[.s ⟨#[]⟩,.s ⟨#[]⟩,.s ⟨#[]⟩,.i 0,.s ⟨#[]⟩]],.t false]):=eg (L:=aA) hm jY [] (fun _ _=>aO _ _ _) func87 rfl (by kernel_rfl) (by kernel_rfl)
theorem acQ:c7 P 87 [aS ⟨#[75,49,65,66]⟩] (gM.out [.l [[.s ⟨#[]⟩,.s ⟨#[]⟩,.s ⟨#[]⟩,.i 0,.s ⟨#[]⟩]],.t false]):=eg (L:=aA) hm jY [] (fun _ _=>aO _ _ _) func87 rfl (by kernel_rfl) (by kernel_rfl)
theorem acR:c7 P 87 [aS ⟨#[107,49,97,98,47]⟩] (gM.out [.l [[.s ⟨#[]⟩,.s ⟨#[]⟩,.s ⟨#[]⟩,.i 0,.s ⟨#[]⟩]],.t false]):=eg (L:=aA) hm jY [] (fun _ _=>aO _ _ _) func87 rfl (by kernel_rfl) (by kernel_rfl)
theorem acS:c7 P 87 [aS ⟨#[49,97]⟩] (gM.out [.l [[.s ⟨#[]⟩,.s ⟨#[]⟩,.s ⟨#[]⟩,.i 0,.s ⟨#[]⟩]],.t false]):=eg (L:=aA) hm jY [] (fun _ _=>aO _ _ _) func87 rfl (by kernel_rfl) (by kernel_rfl)
theorem acT:c7 P 87 [aS ⟨#[107,49,97,98,47,109,109,47,112]⟩] (gM.out [.l [[.s ⟨#[]⟩,.s ⟨#[]⟩,.s ⟨#[]⟩,.i 0,.s ⟨#[]⟩]],.t false]):=eg (L:=aA) hm jY [] (fun _ _=>aO _ _ _) func87 rfl (by kernel_rfl) (by kernel_rfl)
theorem acU:c7 P 87 [aS ⟨#[107,49,97,98]⟩] (gM.out [.l [[.s ⟨#[107,49,97,98]⟩,.s ⟨#[107,49]⟩,.s ⟨#[97,98]⟩,.i 0,.s ⟨#[]⟩]],.t true]):=eg (L:=aA) hm jY [] (fun _ _=>aO _ _ _) func87 rfl (by kernel_rfl) (by kernel_rfl)
theorem acV:c7 P 87 [aS ⟨#[107,49,97,97]⟩] (gM.out [.l [[.s ⟨#[107,49,97,97]⟩,.s ⟨#[107,49]⟩,.s ⟨#[97,97]⟩,.i 0,.s ⟨#[]⟩]],.t true]):=eg (L:=aA) hm jY [] (fun _ _=>aO _ _ _) func87 rfl (by kernel_rfl) (by kernel_rfl)
theorem acW:c7 P 87 [aS ⟨#[107,49,97,98,47,52]⟩] (gM.out [.l [[.s ⟨#[107,49,97,98]⟩,.s ⟨#[107,49]⟩,.s ⟨#[97,98]⟩,.i 2,.s ⟨#[52]⟩]],.t true]):=eg (L:=aA) hm jY [] (fun _ _=>aO _ _ _) func87 rfl (by kernel_rfl) (by kernel_rfl)
theorem acX:c7 P 87 [aS ⟨#[111,104,50,97,98,99]⟩] (gM.out [.l [[.s ⟨#[111,104,50,97,98,99]⟩,.s ⟨#[111,104,50]⟩,.s ⟨#[97,98,99]⟩,.i 0,.s ⟨#[]⟩]],.t true]):=eg (L:=aA) hm jY [] (fun _ _=>aO _ _ _) func87 rfl (by kernel_rfl) (by kernel_rfl)
theorem acY:c7 P 87 [aS ⟨#[111,104,50,97,98,100]⟩] (gM.out [.l [[.s ⟨#[111,104,50,97,98,100]⟩,.s ⟨#[111,104,50]⟩,.s ⟨#[97,98,100]⟩,.i 0,.s ⟨#[]⟩]],.t true]):=eg (L:=aA) hm jY [] (fun _ _=>aO _ _ _) func87 rfl (by kernel_rfl) (by kernel_rfl)
theorem acZ:c7 P 87 [aS ⟨#[119,49,97,119]⟩] (gM.out [.l [[.s ⟨#[119,49,97,119]⟩,.s ⟨#[119,49]⟩,.s ⟨#[97,119]⟩,.i 0,.s ⟨#[]⟩]],.t true]):=eg (L:=aA) hm jY [] (fun _ _=>aO _ _ _) func87 rfl (by kernel_rfl) (by kernel_rfl)
theorem ac0:c7 P 87 [aS ⟨#[110,49,109,109]⟩] (gM.out [.l [[.s ⟨#[110,49,109,109]⟩,.s ⟨#[110,49]⟩,.s ⟨#[109,109]⟩,.i 0,.s ⟨#[]⟩]],.t true]):=eg (L:=aA) hm jY [] (fun _ _=>aO _ _ _) func87 rfl (by kernel_rfl) (by kernel_rfl)
theorem ac1:c7 P 87 [aS ⟨#[103,51,120,121,122,47,112]⟩] (gM.out [.l [[.s ⟨#[103,51,120,121,122]⟩,.s ⟨#[103,51]⟩,.s ⟨#[120,121,122]⟩,.i 3,.s ⟨#[]⟩]],.t true]):=eg (L:=aA) hm jY [] (fun _ _=>aO _ _ _) func87 rfl (by kernel_rfl) (by kernel_rfl)
theorem ac2:c7 P 87 [aS ⟨#[119,49,97,120]⟩] (gM.out [.l [[.s ⟨#[119,49,97,120]⟩,.s ⟨#[119,49]⟩,.s ⟨#[97,120]⟩,.i 0,.s ⟨#[]⟩]],.t true]):=eg (L:=aA) hm jY [] (fun _ _=>aO _ _ _) func87 rfl (by kernel_rfl) (by kernel_rfl)
theorem ac3:∀ d r,G7 d=some r->dn P 87 (gM.args0 d) (ah (gM.H0 d)) (gM.out r) (ah (gM.H1 r)):=fun d r h=>by
 have h:=G6 h;have key:c7 P 87 [aS (gi d 0).str] (gM.out r):=by
  generalize (gi d 0).str=s at h;simp only[Qd,bC,nr,or_false,aU]at h;rcases h with⟨rfl,rfl⟩|⟨rfl,rfl⟩|⟨rfl,rfl⟩|⟨rfl,rfl⟩|⟨rfl,rfl⟩|⟨rfl,rfl⟩|⟨rfl,rfl⟩|⟨rfl,rfl⟩|⟨rfl,rfl⟩|⟨rfl,rfl⟩|⟨rfl,rfl⟩|⟨rfl,rfl⟩|⟨rfl,rfl⟩|⟨rfl,rfl⟩|⟨rfl,rfl⟩
  ·exact acO
  ·exact acP
  ·exact acQ
  ·exact acR
  ·exact acS
  ·exact acT
  ·exact acU
  ·exact acV
  ·exact acW
  ·exact acX
  ·exact acY
  ·exact acZ
  ·exact ac0
  ·exact ac1
  ·exact ac2
 exact key []
def t6:au:=t5.br gM
theorem Qe:aw P t6:=PS.aP ac3
def Qf:au:=t6.inline P 181 f181 []
theorem ac4:aw P Qf:=Qe.inline hm func181 (by kernel_rfl) []
def Qg:au:=Qf.inline P 189 f189 []
theorem ac5:aw P Qg:=ac4.inline hm func189 (by kernel_rfl) []
def Qh:au:=Qg.inline P 182 f182 []
theorem ac6:aw P Qh:=ac5.inline hm func182 (by kernel_rfl) []
def Qi:au:=Qh.inline P 158 f158 []
theorem ac7:aw P Qi:=ac6.inline hm func158 (by kernel_rfl) []
def Qj:au:=Qi.inline P 132 f132 []
theorem ac8:aw P Qj:=ac7.inline hm func132 (by kernel_rfl) []
def Qk:au:=Qj.inline P 90 f90 []
theorem ac9:aw P Qk:=ac8.inline hm func90 (by kernel_rfl) []
def Ql:au:=Qk.inline P 183 f183 []
theorem ac_:aw P Ql:=ac9.inline hm func183 (by kernel_rfl) []
def Qm:au:=Ql.inline P 159 f159 []
theorem ac':aw P Qm:=ac_.inline hm func159 (by kernel_rfl) []
def Qn:au:=Qm.inline P 160 f160 []
theorem ada:aw P Qn:=ac'.inline hm func160 (by kernel_rfl) []
def Qo:au:=Qn.inline P 161 f161 []
theorem adb:aw P Qo:=ada.inline hm func161 (by kernel_rfl) []
def Qp:au:=Qo.inline P 162 f162 []
theorem ade:aw P Qp:=adb.inline hm func162 (by kernel_rfl) []
def Qq:au:=Qp.inline P 184 f184 []
theorem adf:aw P Qq:=ade.inline hm func184 (by kernel_rfl) []
def Qr:au:=Qq.inline P 190 f190 []
theorem adg:aw P Qr:=adf.inline hm func190 (by kernel_rfl) []
def Qs:au:=Qr.inline P 185 f185 []
theorem adh:aw P Qs:=adg.inline hm func185 (by kernel_rfl) []
def Qt:au:=Qs.inline P 163 f163 []
theorem adi:aw P Qt:=adh.inline hm func163 (by kernel_rfl) []
def Qu:au:=Qt.inline P 133 f133 []
theorem adj:aw P Qu:=adi.inline hm func133 (by kernel_rfl) []
def Qv:au:=Qu.inline P 135 f135 []
theorem adk:aw P Qv:=adj.inline hm func135 (by kernel_rfl) []
def Qw:au:=Qv.inline P 164 f164 []
theorem adl:aw P Qw:=adk.inline hm func164 (by kernel_rfl) []
def Qx:au:=Qw.inline P 136 f136 []
theorem adm:aw P Qx:=adl.inline hm func136 (by kernel_rfl) []
def Qy:au:=Qx.inline P 134 f134 []
theorem adn:aw P Qy:=adm.inline hm func134 (by kernel_rfl) []
def Qz:au:=Qy.inline P 92 f92 []
theorem ado:aw P Qz:=adn.inline hm func92 (by kernel_rfl) []
def QA:au:=Qz.inline P 91 f91 []
theorem adp:aw P QA:=ado.inline hm func91 (by kernel_rfl) []
def QB:au:=QA.inline P 93 f93 []
theorem adq:aw P QB:=adp.inline hm func93 (by kernel_rfl) []
def QC:au:=QB.inline P 137 f137 []
theorem ads:aw P QC:=adq.inline hm func137 (by kernel_rfl) []
def adt:au:=QC.inline P 94 f94 []
theorem jZ:aw P adt:=ads.inline hm func94 (by kernel_rfl) []
def QD:List (ByteArray × List G):=[(⟨#[]⟩,[.l [[.s ⟨#[]⟩,.s ⟨#[]⟩,.s ⟨#[]⟩,.i 0,.s ⟨#[]⟩]],.t false]),(⟨#[107,49]⟩,[.l [[.s ⟨#[]⟩,.s ⟨#[]⟩,.s ⟨#[]⟩,.i 0,.s ⟨#[]⟩]],.t false]),(⟨#[75,49,65,66]⟩,[.l [[.s ⟨#[]⟩,.s ⟨#[]⟩,.s ⟨#[]⟩,.i 0,.s ⟨#[]⟩]],.t false]),(⟨#[107,49,97,98,47]⟩,[.l [[.s ⟨#[]⟩,.s ⟨#[]⟩,.s ⟨#[]⟩,.i 0,.s ⟨#[]⟩]],.t false]),(⟨#[49,97]⟩,[.l [[.s ⟨#[]⟩,.s ⟨#[]⟩,.s ⟨#[]⟩,.i 0,.s ⟨#[]⟩]],.t false]),(⟨#[107,49,97,98,47,109,109,47,112]⟩,[.l [[.s ⟨#[]⟩,.s ⟨#[]⟩,.s ⟨#[]⟩,.i 0,.s ⟨#[]⟩]],.t false]),(⟨#[107,49,97,98]⟩,[.l [[.s ⟨#[107,49,97,98]⟩,.s ⟨#[107,49]⟩,.s ⟨#[97,98]⟩,.i 0,.s ⟨#[]⟩]],.t true]),(⟨#[107,49,97,97]⟩,[.l [[.s ⟨#[107,49,97,97]⟩,.s ⟨#[107,49]⟩,.s ⟨#[97,97]⟩,.i 0,.s ⟨#[]⟩]],.t true]),(⟨#[107,49,97,98,47,52]⟩,[.l [[.s ⟨#[107,49,97,98]⟩,.s ⟨#[107,49]⟩,.s ⟨#[97,98]⟩,.i 2,.s ⟨#[52]⟩]],.t true]),(⟨#[111,104,50,97,98,99]⟩,[.l [[.s ⟨#[111,104,50,97,98,99]⟩,.s ⟨#[111,104,50]⟩,.s ⟨#[97,98,99]⟩,.i 0,.s ⟨#[]⟩]],.t true]),(⟨#[111,104,50,97,98,100]⟩,[.l [[.s ⟨#[111,104,50,97,98,100]⟩,.s ⟨#[111,104,50]⟩,.s ⟨#[97,98,100]⟩,.i 0,.s ⟨#[]⟩]],.t true]),(⟨#[119,49,97,119]⟩,[.l [[.s ⟨#[119,49,97,119]⟩,.s ⟨#[119,49]⟩,.s ⟨#[97,119]⟩,.i 0,.s ⟨#[]⟩]],.t true]),(⟨#[110,49,109,109]⟩,[.l [[.s ⟨#[110,49,109,109]⟩,.s ⟨#[110,49]⟩,.s ⟨#[109,109]⟩,.i 0,.s ⟨#[]⟩]],.t true]),(⟨#[103,51,120,121,122,47,112]⟩,[.l [[.s ⟨#[103,51,120,121,122]⟩,.s ⟨#[103,51]⟩,.s ⟨#[120,121,122]⟩,.i 3,.s ⟨#[]⟩]],.t true]),(⟨#[119,49,97,120]⟩,[.l [[.s ⟨#[119,49,97,120]⟩,.s ⟨#[119,49]⟩,.s ⟨#[97,120]⟩,.i 0,.s ⟨#[]⟩]],.t true])]
def G8(d:List G):Option (List G):=yy QD (gi d 0).str
def gN:aH:=⟨64,[cO],[],[],[.s (.row PQ),dj],[],[],[],G8⟩
theorem adu:c7 P 64 [aS ⟨#[]⟩] (gN.out [.l [[.s ⟨#[]⟩,.s ⟨#[]⟩,.s ⟨#[]⟩,.i 0,.s ⟨#[]⟩]],.t false]):=eg (L:=aA) hm jZ [] (fun _ _=>aO _ _ _) func64 rfl (by kernel_rfl) (by kernel_rfl)
theorem adv:c7 P 64 [aS ⟨#[107,49]⟩] (gN.out [.l [[.s ⟨#[]⟩,.s ⟨#[]⟩,.s ⟨#[]⟩,.i 0,.s ⟨#[]⟩]],.t false]):=eg (L:=aA) hm jZ [] (fun _ _=>aO _ _ _) func64 rfl (by kernel_rfl) (by kernel_rfl)
theorem adw:c7 P 64 [aS ⟨#[75,49,65,66]⟩] (gN.out [.l [[.s ⟨#[]⟩,.s ⟨#[]⟩,.s ⟨#[]⟩,.i 0,.s ⟨#[]⟩]],.t false]):=eg (L:=aA) hm jZ [] (fun _ _=>aO _ _ _) func64 rfl (by kernel_rfl) (by kernel_rfl)
theorem adx:c7 P 64 [aS ⟨#[107,49,97,98,47]⟩] (gN.out [.l [[.s ⟨#[]⟩,.s ⟨#[]⟩,.s ⟨#[]⟩,.i 0,.s ⟨#[]⟩]],.t false]):=eg (L:=aA) hm jZ [] (fun _ _=>aO _ _ _) func64 rfl (by kernel_rfl) (by kernel_rfl)
theorem ady:c7 P 64 [aS ⟨#[49,97]⟩] (gN.out [.l [[.s ⟨#[]⟩,.s ⟨#[]⟩,.s ⟨#[]⟩,.i 0,.s ⟨#[]⟩]],.t false]):=eg (L:=aA) hm jZ [] (fun _ _=>aO _ _ _) func64 rfl (by kernel_rfl) (by kernel_rfl)
theorem adz:c7 P 64 [aS ⟨#[107,49,97,98,47,109,109,47,112]⟩] (gN.out [.l [[.s ⟨#[]⟩,.s ⟨#[]⟩,.s ⟨#[]⟩,.i 0,.s ⟨#[]⟩]],.t false]):=eg (L:=aA) hm jZ [] (fun _ _=>aO _ _ _) func64 rfl (by kernel_rfl) (by kernel_rfl)
theorem adA:c7 P 64 [aS ⟨#[107,49,97,98]⟩] (gN.out [.l [[.s ⟨#[107,49,97,98]⟩,.s ⟨#[107,49]⟩,.s ⟨#[97,98]⟩,.i 0,.s ⟨#[]⟩]],.t true]):=eg (L:=aA) hm jZ [] (fun _ _=>aO _ _ _) func64 rfl (by kernel_rfl) (by kernel_rfl)
theorem adB:c7 P 64 [aS ⟨#[107,49,97,97]⟩] (gN.out [.l [[.s ⟨#[107,49,97,97]⟩,.s ⟨#[107,49]⟩,.s ⟨#[97,97]⟩,.i 0,.s ⟨#[]⟩]],.t true]):=eg (L:=aA) hm jZ [] (fun _ _=>aO _ _ _) func64 rfl (by kernel_rfl) (by kernel_rfl)
theorem adC:c7 P 64 [aS ⟨#[107,49,97,98,47,52]⟩] (gN.out [.l [[.s ⟨#[107,49,97,98]⟩,.s ⟨#[107,49]⟩,.s ⟨#[97,98]⟩,.i 2,.s ⟨#[52]⟩]],.t true]):=eg (L:=aA) hm jZ [] (fun _ _=>aO _ _ _) func64 rfl (by kernel_rfl) (by kernel_rfl)
theorem adD:c7 P 64 [aS ⟨#[111,104,50,97,98,99]⟩] (gN.out [.l [[.s ⟨#[111,104,50,97,98,99]⟩,.s ⟨#[111,104,50]⟩,.s ⟨#[97,98,99]⟩,.i 0,.s ⟨#[]⟩]],.t true]):=eg (L:=aA) hm jZ [] (fun _ _=>aO _ _ _) func64 rfl (by kernel_rfl) (by kernel_rfl)
theorem adE:c7 P 64 [aS ⟨#[111,104,50,97,98,100]⟩] (gN.out [.l [[.s ⟨#[111,104,50,97,98,100]⟩,.s ⟨#[111,104,50]⟩,.s ⟨#[97,98,100]⟩,.i 0,.s ⟨#[]⟩]],.t true]):=eg (L:=aA) hm jZ [] (fun _ _=>aO _ _ _) func64 rfl (by kernel_rfl) (by kernel_rfl)
theorem adF:c7 P 64 [aS ⟨#[119,49,97,119]⟩] (gN.out [.l [[.s ⟨#[119,49,97,119]⟩,.s ⟨#[119,49]⟩,.s ⟨#[97,119]⟩,.i 0,.s ⟨#[]⟩]],.t true]):=eg (L:=aA) hm jZ [] (fun _ _=>aO _ _ _) func64 rfl (by kernel_rfl) (by kernel_rfl)
theorem adG:c7 P 64 [aS ⟨#[110,49,109,109]⟩] (gN.out [.l [[.s ⟨#[110,49,109,109]⟩,.s ⟨#[110,49]⟩,.s ⟨#[109,109]⟩,.i 0,.s ⟨#[]⟩]],.t true]):=eg (L:=aA) hm jZ [] (fun _ _=>aO _ _ _) func64 rfl (by kernel_rfl) (by kernel_rfl)
theorem adH:c7 P 64 [aS ⟨#[103,51,120,121,122,47,112]⟩] (gN.out [.l [[.s ⟨#[103,51,120,121,122]⟩,.s ⟨#[103,51]⟩,.s ⟨#[120,121,122]⟩,.i 3,.s ⟨#[]⟩]],.t true]):=eg (L:=aA) hm jZ [] (fun _ _=>aO _ _ _) func64 rfl (by kernel_rfl) (by kernel_rfl)
theorem adI:c7 P 64 [aS ⟨#[119,49,97,120]⟩] (gN.out [.l [[.s ⟨#[119,49,97,120]⟩,.s ⟨#[119,49]⟩,.s ⟨#[97,120]⟩,.i 0,.s ⟨#[]⟩]],.t true]):=eg (L:=aA) hm jZ [] (fun _ _=>aO _ _ _) func64 rfl (by kernel_rfl) (by kernel_rfl)
theorem adJ:∀ d r,G8 d=some r->dn P 64 (gN.args0 d) (ah (gN.H0 d)) (gN.out r) (ah (gN.H1 r)):=fun d r h=>by
 have h:=G6 h;have key:c7 P 64 [aS (gi d 0).str] (gN.out r):=by
  generalize (gi d 0).str=s at h;simp only[QD,bC,nr,or_false,aU]at h;rcases h with⟨rfl,rfl⟩|⟨rfl,rfl⟩|⟨rfl,rfl⟩|⟨rfl,rfl⟩|⟨rfl,rfl⟩|⟨rfl,rfl⟩|⟨rfl,rfl⟩|⟨rfl,rfl⟩|⟨rfl,rfl⟩|⟨rfl,rfl⟩|⟨rfl,rfl⟩|⟨rfl,rfl⟩|⟨rfl,rfl⟩|⟨rfl,rfl⟩|⟨rfl,rfl⟩
  ·exact adu
  ·exact adv
  ·exact adw
  ·exact adx
  ·exact ady
  ·exact adz
  ·exact adA
  ·exact adB
  ·exact adC
  ·exact adD
  ·exact adE
  ·exact adF
  ·exact adG
  ·exact adH
  ·exact adI
 exact key []
def t7:au:=t6.br gN
theorem QE:aw P t7:=Qe.aP adJ
end
end Go.Proofs.iy
