/-
 What is proved here: functions of the program as functions on data. No condition.
-/
import Derived.Test.YtpgfflhcmodgdaaGreatDoorML0
set_option linter.all false
open List renaming mem_cons->c_,not_mem_nil->pQ
open Prod.mk renaming injEq->bM
namespace Go.Proofs.jI
open Go Go.AL Go.Proofs Tryz
noncomputable section
def Tz:aF:=t5.inline P 209 f209 []
def afU:aH P Tz:=Ty.inline hm func209 aB []
def TA:aF:=Tz.inline P 233 f233 []
def afV:aH P TA:=afU.inline hm func233 aB []
def TB:aF:=TA.inline P 210 f210 []
def afW:aH P TB:=afV.inline hm func210 aB []
def TC:aF:=TB.inline P 180 f180 []
def afX:aH P TC:=afW.inline hm func180 aB []
def TD:aF:=TC.inline P 138 f138 []
def afY:aH P TD:=afX.inline hm func138 aB []
def TE:aF:=TD.inline P 94 f94 []
def afZ:aH P TE:=afY.inline hm func94 aB []
def TF:aF:=TE.inline P 211 f211 []
def af0:aH P TF:=afZ.inline hm func211 aB []
def TG:aF:=TF.inline P 181 f181 []
def af1:aH P TG:=af0.inline hm func181 aB []
def TH:aF:=TG.inline P 182 f182 []
def af2:aH P TH:=af1.inline hm func182 aB []
def TI:aF:=TH.inline P 183 f183 []
def af3:aH P TI:=af2.inline hm func183 aB []
def TJ:aF:=TI.inline P 184 f184 []
def af4:aH P TJ:=af3.inline hm func184 aB []
def TK:aF:=TJ.inline P 212 f212 []
def af5:aH P TK:=af4.inline hm func212 aB []
def TL:aF:=TK.inline P 234 f234 []
def af6:aH P TL:=af5.inline hm func234 aB []
def TM:aF:=TL.inline P 213 f213 []
def af7:aH P TM:=af6.inline hm func213 aB []
def TN:aF:=TM.inline P 185 f185 []
def af8:aH P TN:=af7.inline hm func185 aB []
def TO:aF:=TN.inline P 139 f139 []
def af9:aH P TO:=af8.inline hm func139 aB []
def TP:aF:=TO.inline P 197 f197 []
def af_:aH P TP:=af9.inline hm func197 aB []
def TQ:aF:=TP.inline P 231 f231 []
def af':aH P TQ:=af_.inline hm func231 aB []
def TR:aF:=TQ.inline P 196 f196 []
def aga:aH P TR:=af'.inline hm func196 aB []
def TS:aF:=TR.inline P 195 f195 []
def agb:aH P TS:=aga.inline hm func195 aB []
def TT:aF:=TS.inline P 154 f154 []
def agc:aH P TT:=agb.inline hm func154 aB []
def TU:aF:=TT.inline P 155 f155 []
def agd:aH P TU:=agc.inline hm func155 aB []
def age:aF:=TU.inline P 156 f156 []
def mN:aH P age:=agd.inline hm func156 aB []
def TV:List (BY × LG):=[(⟨#[]⟩,[.l [[.s ⟨#[]⟩,.s ⟨#[]⟩,.s ⟨#[]⟩,.i 0,.s ⟨#[]⟩]],.t false]),(⟨#[107,49]⟩,[.l [[.s ⟨#[]⟩,.s ⟨#[]⟩,.s ⟨#[]⟩,.i 0,.s ⟨#[]⟩]],.t false]),(⟨#[75,49,65,66]⟩,[.l [[.s ⟨#[]⟩,.s ⟨#[]⟩,.s ⟨#[]⟩,.i 0,.s ⟨#[]⟩]],.t false]),(⟨#[107,49,97,98,47]⟩,[.l [[.s ⟨#[]⟩,.s ⟨#[]⟩,.s ⟨#[]⟩,.i 0,.s ⟨#[]⟩]],.t false]),(⟨#[49,97]⟩,[.l [[.s ⟨#[]⟩,.s ⟨#[]⟩,.s ⟨#[]⟩,.i 0,.s ⟨#[]⟩]],.t false]),(⟨#[107,49,97,98,47,109,109,47,112]⟩,[.l [[.s ⟨#[]⟩,.s ⟨#[]⟩,.s ⟨#[]⟩,.i 0,.s ⟨#[]⟩]],.t false]),(⟨#[107,49,97,98]⟩,[.l [[.s ⟨#[107,49,97,98]⟩,.s ⟨#[107,49]⟩,.s ⟨#[97,98]⟩,.i 0,.s ⟨#[]⟩]],.t true]),(⟨#[107,49,97,97]⟩,[.l [[.s ⟨#[107,49,97,97]⟩,.s ⟨#[107,49]⟩,.s ⟨#[97,97]⟩,.i 0,.s ⟨#[]⟩]],.t true]),(⟨#[107,49,97,98,47,52]⟩,[.l [[.s ⟨#[107,49,97,98]⟩,.s ⟨#[107,49]⟩,.s ⟨#[97,98]⟩,.i 2,.s ⟨#[52]⟩]],.t true]),(⟨#[111,104,50,97,98,99]⟩,[.l [[.s ⟨#[111,104,50,97,98,99]⟩,.s ⟨#[111,104,50]⟩,.s ⟨#[97,98,99]⟩,.i 0,.s ⟨#[]⟩]],.t true]),(⟨#[111,104,50,97,98,100]⟩,[.l [[.s ⟨#[111,104,50,97,98,100]⟩,.s ⟨#[111,104,50]⟩,.s ⟨#[97,98,100]⟩,.i 0,.s ⟨#[]⟩]],.t true]),(⟨#[119,49,97,119]⟩,[.l [[.s ⟨#[119,49,97,119]⟩,.s ⟨#[119,49]⟩,.s ⟨#[97,119]⟩,.i 0,.s ⟨#[]⟩]],.t true]),(⟨#[110,49,109,109]⟩,[.l [[.s ⟨#[110,49,109,109]⟩,.s ⟨#[110,49]⟩,.s ⟨#[109,109]⟩,.i 0,.s ⟨#[]⟩]],.t true]),(⟨#[103,51,120,121,122,47,112]⟩,[.l [[.s ⟨#[103,51,120,121,122]⟩,.s ⟨#[103,51]⟩,.s ⟨#[120,121,122]⟩,.i 3,.s ⟨#[]⟩]],.t true]),(⟨#[119,49,97,120]⟩,[.l [[.s ⟨#[119,49,97,120]⟩,.s ⟨#[119,49]⟩,.s ⟨#[97,120]⟩,.i 0,.s ⟨#[]⟩]],.t true])]
def MO(d:LG):Option LG:=CP TV (d.sV 0)
def kU:aL:=⟨110,[dn],[],[],[.s (.row Tf),dG],[],[],[],MO⟩
def agf:eM P 110 [aS ⟨#[]⟩] (kU.out [.l [[.s ⟨#[]⟩,.s ⟨#[]⟩,.s ⟨#[]⟩,.i 0,.s ⟨#[]⟩]],.t false]):=fZ (L:=bx) hm mN [] (fun _ _=>bG _ _ _) func110 rfl aB aB
def agh:eM P 110 [aS ⟨#[107,49]⟩] (kU.out [.l [[.s ⟨#[]⟩,.s ⟨#[]⟩,.s ⟨#[]⟩,.i 0,.s ⟨#[]⟩]],.t false]):=fZ (L:=bx) hm mN [] (fun _ _=>bG _ _ _) func110 rfl aB aB
def agi:eM P 110 [aS ⟨#[75,49,65,66]⟩] (kU.out [.l [[.s ⟨#[]⟩,.s ⟨#[]⟩,.s ⟨#[]⟩,.i 0,.s ⟨#[]⟩]],.t false]):=fZ (L:=bx) hm mN [] (fun _ _=>bG _ _ _) func110 rfl aB aB
def agj:eM P 110 [aS ⟨#[107,49,97,98,47]⟩] (kU.out [.l [[.s ⟨#[]⟩,.s ⟨#[]⟩,.s ⟨#[]⟩,.i 0,.s ⟨#[]⟩]],.t false]):=fZ (L:=bx) hm mN [] (fun _ _=>bG _ _ _) func110 rfl aB aB
def agk:eM P 110 [aS ⟨#[49,97]⟩] (kU.out [.l [[.s ⟨#[]⟩,.s ⟨#[]⟩,.s ⟨#[]⟩,.i 0,.s ⟨#[]⟩]],.t false]):=fZ (L:=bx) hm mN [] (fun _ _=>bG _ _ _) func110 rfl aB aB
def agl:eM P 110 [aS ⟨#[107,49,97,98,47,109,109,47,112]⟩] (kU.out [.l [[.s ⟨#[]⟩,.s ⟨#[]⟩,.s ⟨#[]⟩,.i 0,.s ⟨#[]⟩]],.t false]):=fZ (L:=bx) hm mN [] (fun _ _=>bG _ _ _) func110 rfl aB aB
def agm:eM P 110 [aS ⟨#[107,49,97,98]⟩] (kU.out [.l [[.s ⟨#[107,49,97,98]⟩,.s ⟨#[107,49]⟩,.s ⟨#[97,98]⟩,.i 0,.s ⟨#[]⟩]],.t true]):=fZ (L:=bx) hm mN [] (fun _ _=>bG _ _ _) func110 rfl aB aB
def agn:eM P 110 [aS ⟨#[107,49,97,97]⟩] (kU.out [.l [[.s ⟨#[107,49,97,97]⟩,.s ⟨#[107,49]⟩,.s ⟨#[97,97]⟩,.i 0,.s ⟨#[]⟩]],.t true]):=fZ (L:=bx) hm mN [] (fun _ _=>bG _ _ _) func110 rfl aB aB
def ago:eM P 110 [aS ⟨#[107,49,97,98,47,52]⟩] (kU.out [.l [[.s ⟨#[107,49,97,98]⟩,.s ⟨#[107,49]⟩,.s ⟨#[97,98]⟩,.i 2,.s ⟨#[52]⟩]],.t true]):=fZ (L:=bx) hm mN [] (fun _ _=>bG _ _ _) func110 rfl aB aB
def agp:eM P 110 [aS ⟨#[111,104,50,97,98,99]⟩] (kU.out [.l [[.s ⟨#[111,104,50,97,98,99]⟩,.s ⟨#[111,104,50]⟩,.s ⟨#[97,98,99]⟩,.i 0,.s ⟨#[]⟩]],.t true]):=fZ (L:=bx) hm mN [] (fun _ _=>bG _ _ _) func110 rfl aB aB
def agq:eM P 110 [aS ⟨#[111,104,50,97,98,100]⟩] (kU.out [.l [[.s ⟨#[111,104,50,97,98,100]⟩,.s ⟨#[111,104,50]⟩,.s ⟨#[97,98,100]⟩,.i 0,.s ⟨#[]⟩]],.t true]):=fZ (L:=bx) hm mN [] (fun _ _=>bG _ _ _) func110 rfl aB aB
def agr:eM P 110 [aS ⟨#[119,49,97,119]⟩] (kU.out [.l [[.s ⟨#[119,49,97,119]⟩,.s ⟨#[119,49]⟩,.s ⟨#[97,119]⟩,.i 0,.s ⟨#[]⟩]],.t true]):=fZ (L:=bx) hm mN [] (fun _ _=>bG _ _ _) func110 rfl aB aB
def ags:eM P 110 [aS ⟨#[110,49,109,109]⟩] (kU.out [.l [[.s ⟨#[110,49,109,109]⟩,.s ⟨#[110,49]⟩,.s ⟨#[109,109]⟩,.i 0,.s ⟨#[]⟩]],.t true]):=fZ (L:=bx) hm mN [] (fun _ _=>bG _ _ _) func110 rfl aB aB
def agt:eM P 110 [aS ⟨#[103,51,120,121,122,47,112]⟩] (kU.out [.l [[.s ⟨#[103,51,120,121,122]⟩,.s ⟨#[103,51]⟩,.s ⟨#[120,121,122]⟩,.i 3,.s ⟨#[]⟩]],.t true]):=fZ (L:=bx) hm mN [] (fun _ _=>bG _ _ _) func110 rfl aB aB
def agu:eM P 110 [aS ⟨#[119,49,97,120]⟩] (kU.out [.l [[.s ⟨#[119,49,97,120]⟩,.s ⟨#[119,49]⟩,.s ⟨#[97,120]⟩,.i 0,.s ⟨#[]⟩]],.t true]):=fZ (L:=bx) hm mN [] (fun _ _=>bG _ _ _) func110 rfl aB aB
def agv:iL P kU:=fun d r (h:MO d=some r)=>by
 have h:=MF h;have key:eM P 110 [aS (d.sV 0)] (kU.out r):=by
  generalize (d.sV 0)=s at h;simp only[TV,c_,pQ,or_false,bM]at h;rcases h with⟨rfl,rfl⟩|⟨rfl,rfl⟩|⟨rfl,rfl⟩|⟨rfl,rfl⟩|⟨rfl,rfl⟩|⟨rfl,rfl⟩|⟨rfl,rfl⟩|⟨rfl,rfl⟩|⟨rfl,rfl⟩|⟨rfl,rfl⟩|⟨rfl,rfl⟩|⟨rfl,rfl⟩|⟨rfl,rfl⟩|⟨rfl,rfl⟩|⟨rfl,rfl⟩
  ·exact agf
  ·exact agh
  ·exact agi
  ·exact agj
  ·exact agk
  ·exact agl
  ·exact agm
  ·exact agn
  ·exact ago
  ·exact agp
  ·exact agq
  ·exact agr
  ·exact ags
  ·exact agt
  ·exact agu
 exact key []
def t6:aF:=t5.bu kU
def TW:aH P t6:=Ty.aP agv
def TX:aF:=t6.inline P 209 f209 []
def agw:aH P TX:=TW.inline hm func209 aB []
def TY:aF:=TX.inline P 233 f233 []
def agx:aH P TY:=agw.inline hm func233 aB []
def TZ:aF:=TY.inline P 210 f210 []
def agy:aH P TZ:=agx.inline hm func210 aB []
def T0:aF:=TZ.inline P 180 f180 []
def agz:aH P T0:=agy.inline hm func180 aB []
def T3:aF:=T0.inline P 138 f138 []
def agA:aH P T3:=agz.inline hm func138 aB []
def T4:aF:=T3.inline P 94 f94 []
def agB:aH P T4:=agA.inline hm func94 aB []
def T5:aF:=T4.inline P 211 f211 []
def agC:aH P T5:=agB.inline hm func211 aB []
def T6:aF:=T5.inline P 181 f181 []
def agD:aH P T6:=agC.inline hm func181 aB []
def T8:aF:=T6.inline P 182 f182 []
def agE:aH P T8:=agD.inline hm func182 aB []
def T9:aF:=T8.inline P 183 f183 []
def agF:aH P T9:=agE.inline hm func183 aB []
def T_:aF:=T9.inline P 184 f184 []
def agG:aH P T_:=agF.inline hm func184 aB []
def Ua:aF:=T_.inline P 212 f212 []
def agH:aH P Ua:=agG.inline hm func212 aB []
def Ub:aF:=Ua.inline P 234 f234 []
def agI:aH P Ub:=agH.inline hm func234 aB []
def Uc:aF:=Ub.inline P 213 f213 []
def agJ:aH P Uc:=agI.inline hm func213 aB []
def Ud:aF:=Uc.inline P 185 f185 []
def agK:aH P Ud:=agJ.inline hm func185 aB []
def Ue:aF:=Ud.inline P 139 f139 []
def agL:aH P Ue:=agK.inline hm func139 aB []
def Uf:aF:=Ue.inline P 141 f141 []
def agM:aH P Uf:=agL.inline hm func141 aB []
def Ug:aF:=Uf.inline P 187 f187 []
def agN:aH P Ug:=agM.inline hm func187 aB []
def Uh:aF:=Ug.inline P 142 f142 []
def agO:aH P Uh:=agN.inline hm func142 aB []
def Ui:aF:=Uh.inline P 140 f140 []
def agP:aH P Ui:=agO.inline hm func140 aB []
def Uj:aF:=Ui.inline P 96 f96 []
def agQ:aH P Uj:=agP.inline hm func96 aB []
def Uk:aF:=Uj.inline P 95 f95 []
def agR:aH P Uk:=agQ.inline hm func95 aB []
def Ul:aF:=Uk.inline P 97 f97 []
def agS:aH P Ul:=agR.inline hm func97 aB []
def Um:aF:=Ul.inline P 143 f143 []
def agT:aH P Um:=agS.inline hm func143 aB []
def agU:aF:=Um.inline P 98 f98 []
def mO:aH P agU:=agT.inline hm func98 aB []
def Un:List (BY × LG):=[(⟨#[]⟩,[.l [[.s ⟨#[]⟩,.s ⟨#[]⟩,.s ⟨#[]⟩,.i 0,.s ⟨#[]⟩]],.t false]),(⟨#[107,49]⟩,[.l [[.s ⟨#[]⟩,.s ⟨#[]⟩,.s ⟨#[]⟩,.i 0,.s ⟨#[]⟩]],.t false]),(⟨#[75,49,65,66]⟩,[.l [[.s ⟨#[]⟩,.s ⟨#[]⟩,.s ⟨#[]⟩,.i 0,.s ⟨#[]⟩]],.t false]),(⟨#[107,49,97,98,47]⟩,[.l [[.s ⟨#[]⟩,.s ⟨#[]⟩,.s ⟨#[]⟩,.i 0,.s ⟨#[]⟩]],.t false]),(⟨#[49,97]⟩,[.l [[.s ⟨#[]⟩,.s ⟨#[]⟩,.s ⟨#[]⟩,.i 0,.s ⟨#[]⟩]],.t false]),(⟨#[107,49,97,98,47,109,109,47,112]⟩,[.l [[.s ⟨#[]⟩,.s ⟨#[]⟩,.s ⟨#[]⟩,.i 0,.s ⟨#[]⟩]],.t false]),(⟨#[107,49,97,98]⟩,[.l [[.s ⟨#[107,49,97,98]⟩,.s ⟨#[107,49]⟩,.s ⟨#[97,98]⟩,.i 0,.s ⟨#[]⟩]],.t true]),(⟨#[107,49,97,97]⟩,[.l [[.s ⟨#[107,49,97,97]⟩,.s ⟨#[107,49]⟩,.s ⟨#[97,97]⟩,.i 0,.s ⟨#[]⟩]],.t true]),(⟨#[107,49,97,98,47,52]⟩,[.l [[.s ⟨#[107,49,97,98]⟩,.s ⟨#[107,49]⟩,.s ⟨#[97,98]⟩,.i 2,.s ⟨#[52]⟩]],.t true]),(⟨#[111,104,50,97,98,99]⟩,[.l [[.s ⟨#[111,104,50,97,98,99]⟩,.s ⟨#[111,104,50]⟩,.s ⟨#[97,98,99]⟩,.i 0,.s ⟨#[]⟩]],.t true]),(⟨#[111,104,50,97,98,100]⟩,[.l [[.s ⟨#[111,104,50,97,98,100]⟩,.s ⟨#[111,104,50]⟩,.s ⟨#[97,98,100]⟩,.i 0,.s ⟨#[]⟩]],.t true]),(⟨#[119,49,97,119]⟩,[.l [[.s ⟨#[119,49,97,119]⟩,.s ⟨#[119,49]⟩,.s ⟨#[97,119]⟩,.i 0,.s ⟨#[]⟩]],.t true]),(⟨#[110,49,109,109]⟩,[.l [[.s ⟨#[110,49,109,109]⟩,.s ⟨#[110,49]⟩,.s ⟨#[109,109]⟩,.i 0,.s ⟨#[]⟩]],.t true]),(⟨#[103,51,120,121,122,47,112]⟩,[.l [[.s ⟨#[103,51,120,121,122]⟩,.s ⟨#[103,51]⟩,.s ⟨#[120,121,122]⟩,.i 3,.s ⟨#[]⟩]],.t true]),(⟨#[119,49,97,120]⟩,[.l [[.s ⟨#[119,49,97,120]⟩,.s ⟨#[119,49]⟩,.s ⟨#[97,120]⟩,.i 0,.s ⟨#[]⟩]],.t true])]
def MP(d:LG):Option LG:=CP Un (d.sV 0)
def kV:aL:=⟨67,[dn],[],[],[.s (.row Tf),dG],[],[],[],MP⟩
def agV:eM P 67 [aS ⟨#[]⟩] (kV.out [.l [[.s ⟨#[]⟩,.s ⟨#[]⟩,.s ⟨#[]⟩,.i 0,.s ⟨#[]⟩]],.t false]):=fZ (L:=bx) hm mO [] (fun _ _=>bG _ _ _) func67 rfl aB aB
def agW:eM P 67 [aS ⟨#[107,49]⟩] (kV.out [.l [[.s ⟨#[]⟩,.s ⟨#[]⟩,.s ⟨#[]⟩,.i 0,.s ⟨#[]⟩]],.t false]):=fZ (L:=bx) hm mO [] (fun _ _=>bG _ _ _) func67 rfl aB aB
def agX:eM P 67 [aS ⟨#[75,49,65,66]⟩] (kV.out [.l [[.s ⟨#[]⟩,.s ⟨#[]⟩,.s ⟨#[]⟩,.i 0,.s ⟨#[]⟩]],.t false]):=fZ (L:=bx) hm mO [] (fun _ _=>bG _ _ _) func67 rfl aB aB
def agY:eM P 67 [aS ⟨#[107,49,97,98,47]⟩] (kV.out [.l [[.s ⟨#[]⟩,.s ⟨#[]⟩,.s ⟨#[]⟩,.i 0,.s ⟨#[]⟩]],.t false]):=fZ (L:=bx) hm mO [] (fun _ _=>bG _ _ _) func67 rfl aB aB
def agZ:eM P 67 [aS ⟨#[49,97]⟩] (kV.out [.l [[.s ⟨#[]⟩,.s ⟨#[]⟩,.s ⟨#[]⟩,.i 0,.s ⟨#[]⟩]],.t false]):=fZ (L:=bx) hm mO [] (fun _ _=>bG _ _ _) func67 rfl aB aB
def ag0:eM P 67 [aS ⟨#[107,49,97,98,47,109,109,47,112]⟩] (kV.out [.l [[.s ⟨#[]⟩,.s ⟨#[]⟩,.s ⟨#[]⟩,.i 0,.s ⟨#[]⟩]],.t false]):=fZ (L:=bx) hm mO [] (fun _ _=>bG _ _ _) func67 rfl aB aB
def ag1:eM P 67 [aS ⟨#[107,49,97,98]⟩] (kV.out [.l [[.s ⟨#[107,49,97,98]⟩,.s ⟨#[107,49]⟩,.s ⟨#[97,98]⟩,.i 0,.s ⟨#[]⟩]],.t true]):=fZ (L:=bx) hm mO [] (fun _ _=>bG _ _ _) func67 rfl aB aB
def ag2:eM P 67 [aS ⟨#[107,49,97,97]⟩] (kV.out [.l [[.s ⟨#[107,49,97,97]⟩,.s ⟨#[107,49]⟩,.s ⟨#[97,97]⟩,.i 0,.s ⟨#[]⟩]],.t true]):=fZ (L:=bx) hm mO [] (fun _ _=>bG _ _ _) func67 rfl aB aB
def ag3:eM P 67 [aS ⟨#[107,49,97,98,47,52]⟩] (kV.out [.l [[.s ⟨#[107,49,97,98]⟩,.s ⟨#[107,49]⟩,.s ⟨#[97,98]⟩,.i 2,.s ⟨#[52]⟩]],.t true]):=fZ (L:=bx) hm mO [] (fun _ _=>bG _ _ _) func67 rfl aB aB
def ag4:eM P 67 [aS ⟨#[111,104,50,97,98,99]⟩] (kV.out [.l [[.s ⟨#[111,104,50,97,98,99]⟩,.s ⟨#[111,104,50]⟩,.s ⟨#[97,98,99]⟩,.i 0,.s ⟨#[]⟩]],.t true]):=fZ (L:=bx) hm mO [] (fun _ _=>bG _ _ _) func67 rfl aB aB
def ag5:eM P 67 [aS ⟨#[111,104,50,97,98,100]⟩] (kV.out [.l [[.s ⟨#[111,104,50,97,98,100]⟩,.s ⟨#[111,104,50]⟩,.s ⟨#[97,98,100]⟩,.i 0,.s ⟨#[]⟩]],.t true]):=fZ (L:=bx) hm mO [] (fun _ _=>bG _ _ _) func67 rfl aB aB
def ag6:eM P 67 [aS ⟨#[119,49,97,119]⟩] (kV.out [.l [[.s ⟨#[119,49,97,119]⟩,.s ⟨#[119,49]⟩,.s ⟨#[97,119]⟩,.i 0,.s ⟨#[]⟩]],.t true]):=fZ (L:=bx) hm mO [] (fun _ _=>bG _ _ _) func67 rfl aB aB
def ag7:eM P 67 [aS ⟨#[110,49,109,109]⟩] (kV.out [.l [[.s ⟨#[110,49,109,109]⟩,.s ⟨#[110,49]⟩,.s ⟨#[109,109]⟩,.i 0,.s ⟨#[]⟩]],.t true]):=fZ (L:=bx) hm mO [] (fun _ _=>bG _ _ _) func67 rfl aB aB
def ag8:eM P 67 [aS ⟨#[103,51,120,121,122,47,112]⟩] (kV.out [.l [[.s ⟨#[103,51,120,121,122]⟩,.s ⟨#[103,51]⟩,.s ⟨#[120,121,122]⟩,.i 3,.s ⟨#[]⟩]],.t true]):=fZ (L:=bx) hm mO [] (fun _ _=>bG _ _ _) func67 rfl aB aB
def ag9:eM P 67 [aS ⟨#[119,49,97,120]⟩] (kV.out [.l [[.s ⟨#[119,49,97,120]⟩,.s ⟨#[119,49]⟩,.s ⟨#[97,120]⟩,.i 0,.s ⟨#[]⟩]],.t true]):=fZ (L:=bx) hm mO [] (fun _ _=>bG _ _ _) func67 rfl aB aB
def ag_:iL P kV:=fun d r (h:MP d=some r)=>by
 have h:=MF h;have key:eM P 67 [aS (d.sV 0)] (kV.out r):=by
  generalize (d.sV 0)=s at h;simp only[Un,c_,pQ,or_false,bM]at h;rcases h with⟨rfl,rfl⟩|⟨rfl,rfl⟩|⟨rfl,rfl⟩|⟨rfl,rfl⟩|⟨rfl,rfl⟩|⟨rfl,rfl⟩|⟨rfl,rfl⟩|⟨rfl,rfl⟩|⟨rfl,rfl⟩|⟨rfl,rfl⟩|⟨rfl,rfl⟩|⟨rfl,rfl⟩|⟨rfl,rfl⟩|⟨rfl,rfl⟩|⟨rfl,rfl⟩
  ·exact agV
  ·exact agW
  ·exact agX
  ·exact agY
  ·exact agZ
  ·exact ag0
  ·exact ag1
  ·exact ag2
  ·exact ag3
  ·exact ag4
  ·exact ag5
  ·exact ag6
  ·exact ag7
  ·exact ag8
  ·exact ag9
 exact key []
def t7:aF:=t6.bu kV
def ag':aH P t7:=TW.aP ag_
end
end Go.Proofs.jI
