/-
 What is proved here: functions of the program as functions on data. No condition.
-/
import Derived.Test.YtkkkhbhbjlikhaaGreatDoorML0
set_option linter.all false
open List renaming mem_cons->cy,not_mem_nil->ke
open Prod.mk renaming injEq->cr
namespace Go.Proofs.h_
open Go Go.AL Go.Proofs Tryz
noncomputable section
def Ui:ar:=t5.inline P 242 f242 []
def af8:aw P Ui:=Uh.inline hm func242 aj []
def Uj:ar:=Ui.inline P 296 f296 []
def af9:aw P Uj:=af8.inline hm func296 aj []
def Uk:ar:=Uj.inline P 243 f243 []
def af_:aw P Uk:=af9.inline hm func243 aj []
def Ul:ar:=Uk.inline P 183 f183 []
def af':aw P Ul:=af_.inline hm func183 aj []
def Um:ar:=Ul.inline P 259 f259 []
def aga:aw P Um:=af'.inline hm func259 aj []
def Un:ar:=Um.inline P 197 f197 []
def agb:aw P Un:=aga.inline hm func197 aj []
def Uo:ar:=Un.inline P 174 f174 []
def agc:aw P Uo:=agb.inline hm func174 aj []
def Up:ar:=Uo.inline P 234 f234 []
def agd:aw P Up:=agc.inline hm func234 aj []
def Uq:ar:=Up.inline P 240 f240 []
def age:aw P Uq:=agd.inline hm func240 aj []
def Ur:ar:=Uq.inline P 181 f181 []
def agf:aw P Ur:=age.inline hm func181 aj []
def Us:ar:=Ur.inline P 294 f294 []
def agh:aw P Us:=agf.inline hm func294 aj []
def Ut:ar:=Us.inline P 236 f236 []
def agi:aw P Ut:=agh.inline hm func236 aj []
def Uu:ar:=Ut.inline P 319 f319 []
def agj:aw P Uu:=agi.inline hm func319 aj []
def Uv:ar:=Uu.inline P 293 f293 []
def agk:aw P Uv:=agj.inline hm func293 aj []
def Uw:ar:=Uv.inline P 309 f309 []
def agl:aw P Uw:=agk.inline hm func309 aj []
def Ux:ar:=Uw.inline P 260 f260 []
def agm:aw P Ux:=agl.inline hm func260 aj []
def Uy:ar:=Ux.inline P 331 f331 []
def agn:aw P Uy:=agm.inline hm func331 aj []
def Uz:ar:=Uy.inline P 333 f333 []
def ago:aw P Uz:=agn.inline hm func333 aj []
def UA:ar:=Uz.inline P 330 f330 []
def agp:aw P UA:=ago.inline hm func330 aj []
def UB:ar:=UA.inline P 329 f329 []
def agq:aw P UB:=agp.inline hm func329 aj []
def UC:ar:=UB.inline P 320 f320 []
def agr:aw P UC:=agq.inline hm func320 aj []
def UD:ar:=UC.inline P 321 f321 []
def ags:aw P UD:=agr.inline hm func321 aj []
def agt:ar:=UD.inline P 322 f322 []
def mJ:aw P agt:=ags.inline hm func322 aj []
def UE:List (BY × LG):=[(⟨#[]⟩,[.l [[.s ⟨#[]⟩,.s ⟨#[]⟩,.s ⟨#[]⟩,.i 0,.s ⟨#[]⟩]],.t false]),(⟨#[107,49]⟩,[.l [[.s ⟨#[]⟩,.s ⟨#[]⟩,.s ⟨#[]⟩,.i 0,.s ⟨#[]⟩]],.t false]),(⟨#[75,49,65,66]⟩,[.l [[.s ⟨#[]⟩,.s ⟨#[]⟩,.s ⟨#[]⟩,.i 0,.s ⟨#[]⟩]],.t false]),(⟨#[107,49,97,98,47]⟩,[.l [[.s ⟨#[]⟩,.s ⟨#[]⟩,.s ⟨#[]⟩,.i 0,.s ⟨#[]⟩]],.t false]),(⟨#[49,97]⟩,[.l [[.s ⟨#[]⟩,.s ⟨#[]⟩,.s ⟨#[]⟩,.i 0,.s ⟨#[]⟩]],.t false]),(⟨#[107,49,97,98,47,109,109,47,112]⟩,[.l [[.s ⟨#[]⟩,.s ⟨#[]⟩,.s ⟨#[]⟩,.i 0,.s ⟨#[]⟩]],.t false]),(⟨#[107,49,97,98]⟩,[.l [[.s ⟨#[107,49,97,98]⟩,.s ⟨#[107,49]⟩,.s ⟨#[97,98]⟩,.i 0,.s ⟨#[]⟩]],.t true]),(⟨#[107,49,97,97]⟩,[.l [[.s ⟨#[107,49,97,97]⟩,.s ⟨#[107,49]⟩,.s ⟨#[97,97]⟩,.i 0,.s ⟨#[]⟩]],.t true]),(⟨#[107,49,97,98,47,52]⟩,[.l [[.s ⟨#[107,49,97,98]⟩,.s ⟨#[107,49]⟩,.s ⟨#[97,98]⟩,.i 2,.s ⟨#[52]⟩]],.t true]),(⟨#[111,104,50,97,98,99]⟩,[.l [[.s ⟨#[111,104,50,97,98,99]⟩,.s ⟨#[111,104,50]⟩,.s ⟨#[97,98,99]⟩,.i 0,.s ⟨#[]⟩]],.t true]),(⟨#[111,104,50,97,98,100]⟩,[.l [[.s ⟨#[111,104,50,97,98,100]⟩,.s ⟨#[111,104,50]⟩,.s ⟨#[97,98,100]⟩,.i 0,.s ⟨#[]⟩]],.t true]),(⟨#[119,49,97,119]⟩,[.l [[.s ⟨#[119,49,97,119]⟩,.s ⟨#[119,49]⟩,.s ⟨#[97,119]⟩,.i 0,.s ⟨#[]⟩]],.t true]),(⟨#[110,49,109,109]⟩,[.l [[.s ⟨#[110,49,109,109]⟩,.s ⟨#[110,49]⟩,.s ⟨#[109,109]⟩,.i 0,.s ⟨#[]⟩]],.t true]),(⟨#[103,51,120,121,122,47,112]⟩,[.l [[.s ⟨#[103,51,120,121,122]⟩,.s ⟨#[103,51]⟩,.s ⟨#[120,121,122]⟩,.i 3,.s ⟨#[]⟩]],.t true])]
def GW(d:LG):Option LG:=CD UE (d.sV 0)
def la:aI:=⟨295,[bY],[],[],[.s (.row TX),dY],[],[],[],GW⟩
def agu:eA P 295 [aS ⟨#[]⟩] (la.out [.l [[.s ⟨#[]⟩,.s ⟨#[]⟩,.s ⟨#[]⟩,.i 0,.s ⟨#[]⟩]],.t false]):=fZ (L:=bz) hm mJ [] (fun _ _=>bN _ _ _) func295 rfl aj aj
def agv:eA P 295 [aS ⟨#[107,49]⟩] (la.out [.l [[.s ⟨#[]⟩,.s ⟨#[]⟩,.s ⟨#[]⟩,.i 0,.s ⟨#[]⟩]],.t false]):=fZ (L:=bz) hm mJ [] (fun _ _=>bN _ _ _) func295 rfl aj aj
def agw:eA P 295 [aS ⟨#[75,49,65,66]⟩] (la.out [.l [[.s ⟨#[]⟩,.s ⟨#[]⟩,.s ⟨#[]⟩,.i 0,.s ⟨#[]⟩]],.t false]):=fZ (L:=bz) hm mJ [] (fun _ _=>bN _ _ _) func295 rfl aj aj
def agx:eA P 295 [aS ⟨#[107,49,97,98,47]⟩] (la.out [.l [[.s ⟨#[]⟩,.s ⟨#[]⟩,.s ⟨#[]⟩,.i 0,.s ⟨#[]⟩]],.t false]):=fZ (L:=bz) hm mJ [] (fun _ _=>bN _ _ _) func295 rfl aj aj
def agy:eA P 295 [aS ⟨#[49,97]⟩] (la.out [.l [[.s ⟨#[]⟩,.s ⟨#[]⟩,.s ⟨#[]⟩,.i 0,.s ⟨#[]⟩]],.t false]):=fZ (L:=bz) hm mJ [] (fun _ _=>bN _ _ _) func295 rfl aj aj
def agz:eA P 295 [aS ⟨#[107,49,97,98,47,109,109,47,112]⟩] (la.out [.l [[.s ⟨#[]⟩,.s ⟨#[]⟩,.s ⟨#[]⟩,.i 0,.s ⟨#[]⟩]],.t false]):=fZ (L:=bz) hm mJ [] (fun _ _=>bN _ _ _) func295 rfl aj aj
def agA:eA P 295 [aS ⟨#[107,49,97,98]⟩] (la.out [.l [[.s ⟨#[107,49,97,98]⟩,.s ⟨#[107,49]⟩,.s ⟨#[97,98]⟩,.i 0,.s ⟨#[]⟩]],.t true]):=fZ (L:=bz) hm mJ [] (fun _ _=>bN _ _ _) func295 rfl aj aj
def agB:eA P 295 [aS ⟨#[107,49,97,97]⟩] (la.out [.l [[.s ⟨#[107,49,97,97]⟩,.s ⟨#[107,49]⟩,.s ⟨#[97,97]⟩,.i 0,.s ⟨#[]⟩]],.t true]):=fZ (L:=bz) hm mJ [] (fun _ _=>bN _ _ _) func295 rfl aj aj
def agC:eA P 295 [aS ⟨#[107,49,97,98,47,52]⟩] (la.out [.l [[.s ⟨#[107,49,97,98]⟩,.s ⟨#[107,49]⟩,.s ⟨#[97,98]⟩,.i 2,.s ⟨#[52]⟩]],.t true]):=fZ (L:=bz) hm mJ [] (fun _ _=>bN _ _ _) func295 rfl aj aj
def agD:eA P 295 [aS ⟨#[111,104,50,97,98,99]⟩] (la.out [.l [[.s ⟨#[111,104,50,97,98,99]⟩,.s ⟨#[111,104,50]⟩,.s ⟨#[97,98,99]⟩,.i 0,.s ⟨#[]⟩]],.t true]):=fZ (L:=bz) hm mJ [] (fun _ _=>bN _ _ _) func295 rfl aj aj
def agE:eA P 295 [aS ⟨#[111,104,50,97,98,100]⟩] (la.out [.l [[.s ⟨#[111,104,50,97,98,100]⟩,.s ⟨#[111,104,50]⟩,.s ⟨#[97,98,100]⟩,.i 0,.s ⟨#[]⟩]],.t true]):=fZ (L:=bz) hm mJ [] (fun _ _=>bN _ _ _) func295 rfl aj aj
def agF:eA P 295 [aS ⟨#[119,49,97,119]⟩] (la.out [.l [[.s ⟨#[119,49,97,119]⟩,.s ⟨#[119,49]⟩,.s ⟨#[97,119]⟩,.i 0,.s ⟨#[]⟩]],.t true]):=fZ (L:=bz) hm mJ [] (fun _ _=>bN _ _ _) func295 rfl aj aj
def agG:eA P 295 [aS ⟨#[110,49,109,109]⟩] (la.out [.l [[.s ⟨#[110,49,109,109]⟩,.s ⟨#[110,49]⟩,.s ⟨#[109,109]⟩,.i 0,.s ⟨#[]⟩]],.t true]):=fZ (L:=bz) hm mJ [] (fun _ _=>bN _ _ _) func295 rfl aj aj
def agH:eA P 295 [aS ⟨#[103,51,120,121,122,47,112]⟩] (la.out [.l [[.s ⟨#[103,51,120,121,122]⟩,.s ⟨#[103,51]⟩,.s ⟨#[120,121,122]⟩,.i 3,.s ⟨#[]⟩]],.t true]):=fZ (L:=bz) hm mJ [] (fun _ _=>bN _ _ _) func295 rfl aj aj
def agI:ff P la:=fun d r (h:GW d=some r)=>by
 have h:=Mt h;have key:eA P 295 [aS (d.sV 0)] (la.out r):=by
  generalize (d.sV 0)=s at h;simp only[UE,cy,ke,or_false,cr]at h;rcases h with⟨rfl,rfl⟩|⟨rfl,rfl⟩|⟨rfl,rfl⟩|⟨rfl,rfl⟩|⟨rfl,rfl⟩|⟨rfl,rfl⟩|⟨rfl,rfl⟩|⟨rfl,rfl⟩|⟨rfl,rfl⟩|⟨rfl,rfl⟩|⟨rfl,rfl⟩|⟨rfl,rfl⟩|⟨rfl,rfl⟩|⟨rfl,rfl⟩
  ·exact agu
  ·exact agv
  ·exact agw
  ·exact agx
  ·exact agy
  ·exact agz
  ·exact agA
  ·exact agB
  ·exact agC
  ·exact agD
  ·exact agE
  ·exact agF
  ·exact agG
  ·exact agH
 exact key []
def t6:ar:=t5.bx la
def UF:aw P t6:=Uh.aP agI
def UG:ar:=t6.inline P 242 f242 []
def agJ:aw P UG:=UF.inline hm func242 aj []
def UH:ar:=UG.inline P 296 f296 []
def agK:aw P UH:=agJ.inline hm func296 aj []
def UI:ar:=UH.inline P 243 f243 []
def agL:aw P UI:=agK.inline hm func243 aj []
def UJ:ar:=UI.inline P 183 f183 []
def agM:aw P UJ:=agL.inline hm func183 aj []
def UK:ar:=UJ.inline P 259 f259 []
def agN:aw P UK:=agM.inline hm func259 aj []
def UL:ar:=UK.inline P 197 f197 []
def agO:aw P UL:=agN.inline hm func197 aj []
def UM:ar:=UL.inline P 174 f174 []
def agP:aw P UM:=agO.inline hm func174 aj []
def UN:ar:=UM.inline P 234 f234 []
def agQ:aw P UN:=agP.inline hm func234 aj []
def UO:ar:=UN.inline P 240 f240 []
def agR:aw P UO:=agQ.inline hm func240 aj []
def UP:ar:=UO.inline P 181 f181 []
def agS:aw P UP:=agR.inline hm func181 aj []
def UQ:ar:=UP.inline P 294 f294 []
def agT:aw P UQ:=agS.inline hm func294 aj []
def UR:ar:=UQ.inline P 236 f236 []
def agU:aw P UR:=agT.inline hm func236 aj []
def US:ar:=UR.inline P 319 f319 []
def agV:aw P US:=agU.inline hm func319 aj []
def UT:ar:=US.inline P 293 f293 []
def agW:aw P UT:=agV.inline hm func293 aj []
def UU:ar:=UT.inline P 309 f309 []
def agX:aw P UU:=agW.inline hm func309 aj []
def UW:ar:=UU.inline P 260 f260 []
def agY:aw P UW:=agX.inline hm func260 aj []
def UX:ar:=UW.inline P 262 f262 []
def agZ:aw P UX:=agY.inline hm func262 aj []
def UY:ar:=UX.inline P 310 f310 []
def ag0:aw P UY:=agZ.inline hm func310 aj []
def UZ:ar:=UY.inline P 263 f263 []
def ag1:aw P UZ:=ag0.inline hm func263 aj []
def U0:ar:=UZ.inline P 261 f261 []
def ag2:aw P U0:=ag1.inline hm func261 aj []
def U1:ar:=U0.inline P 199 f199 []
def ag3:aw P U1:=ag2.inline hm func199 aj []
def U2:ar:=U1.inline P 198 f198 []
def ag4:aw P U2:=ag3.inline hm func198 aj []
def U3:ar:=U2.inline P 200 f200 []
def ag5:aw P U3:=ag4.inline hm func200 aj []
def U4:ar:=U3.inline P 129 f129 []
def ag6:aw P U4:=ag5.inline hm func129 aj []
def ag7:ar:=U4.inline P 201 f201 []
def mL:aw P ag7:=ag6.inline hm func201 aj []
def U5:List (BY × LG):=[(⟨#[]⟩,[.l [[.s ⟨#[]⟩,.s ⟨#[]⟩,.s ⟨#[]⟩,.i 0,.s ⟨#[]⟩]],.t false]),(⟨#[107,49]⟩,[.l [[.s ⟨#[]⟩,.s ⟨#[]⟩,.s ⟨#[]⟩,.i 0,.s ⟨#[]⟩]],.t false]),(⟨#[75,49,65,66]⟩,[.l [[.s ⟨#[]⟩,.s ⟨#[]⟩,.s ⟨#[]⟩,.i 0,.s ⟨#[]⟩]],.t false]),(⟨#[107,49,97,98,47]⟩,[.l [[.s ⟨#[]⟩,.s ⟨#[]⟩,.s ⟨#[]⟩,.i 0,.s ⟨#[]⟩]],.t false]),(⟨#[49,97]⟩,[.l [[.s ⟨#[]⟩,.s ⟨#[]⟩,.s ⟨#[]⟩,.i 0,.s ⟨#[]⟩]],.t false]),(⟨#[107,49,97,98,47,109,109,47,112]⟩,[.l [[.s ⟨#[]⟩,.s ⟨#[]⟩,.s ⟨#[]⟩,.i 0,.s ⟨#[]⟩]],.t false]),(⟨#[107,49,97,98]⟩,[.l [[.s ⟨#[107,49,97,98]⟩,.s ⟨#[107,49]⟩,.s ⟨#[97,98]⟩,.i 0,.s ⟨#[]⟩]],.t true]),(⟨#[107,49,97,97]⟩,[.l [[.s ⟨#[107,49,97,97]⟩,.s ⟨#[107,49]⟩,.s ⟨#[97,97]⟩,.i 0,.s ⟨#[]⟩]],.t true]),(⟨#[107,49,97,98,47,52]⟩,[.l [[.s ⟨#[107,49,97,98]⟩,.s ⟨#[107,49]⟩,.s ⟨#[97,98]⟩,.i 2,.s ⟨#[52]⟩]],.t true]),(⟨#[111,104,50,97,98,99]⟩,[.l [[.s ⟨#[111,104,50,97,98,99]⟩,.s ⟨#[111,104,50]⟩,.s ⟨#[97,98,99]⟩,.i 0,.s ⟨#[]⟩]],.t true]),(⟨#[111,104,50,97,98,100]⟩,[.l [[.s ⟨#[111,104,50,97,98,100]⟩,.s ⟨#[111,104,50]⟩,.s ⟨#[97,98,100]⟩,.i 0,.s ⟨#[]⟩]],.t true]),(⟨#[119,49,97,119]⟩,[.l [[.s ⟨#[119,49,97,119]⟩,.s ⟨#[119,49]⟩,.s ⟨#[97,119]⟩,.i 0,.s ⟨#[]⟩]],.t true]),(⟨#[110,49,109,109]⟩,[.l [[.s ⟨#[110,49,109,109]⟩,.s ⟨#[110,49]⟩,.s ⟨#[109,109]⟩,.i 0,.s ⟨#[]⟩]],.t true]),(⟨#[103,51,120,121,122,47,112]⟩,[.l [[.s ⟨#[103,51,120,121,122]⟩,.s ⟨#[103,51]⟩,.s ⟨#[120,121,122]⟩,.i 3,.s ⟨#[]⟩]],.t true])]
def GX(d:LG):Option LG:=CD U5 (d.sV 0)
def lb:aI:=⟨146,[bY],[],[],[.s (.row TX),dY],[],[],[],GX⟩
def ag8:eA P 146 [aS ⟨#[]⟩] (lb.out [.l [[.s ⟨#[]⟩,.s ⟨#[]⟩,.s ⟨#[]⟩,.i 0,.s ⟨#[]⟩]],.t false]):=fZ (L:=bz) hm mL [] (fun _ _=>bN _ _ _) func146 rfl aj aj
def ag9:eA P 146 [aS ⟨#[107,49]⟩] (lb.out [.l [[.s ⟨#[]⟩,.s ⟨#[]⟩,.s ⟨#[]⟩,.i 0,.s ⟨#[]⟩]],.t false]):=fZ (L:=bz) hm mL [] (fun _ _=>bN _ _ _) func146 rfl aj aj
def ag_:eA P 146 [aS ⟨#[75,49,65,66]⟩] (lb.out [.l [[.s ⟨#[]⟩,.s ⟨#[]⟩,.s ⟨#[]⟩,.i 0,.s ⟨#[]⟩]],.t false]):=fZ (L:=bz) hm mL [] (fun _ _=>bN _ _ _) func146 rfl aj aj
def ag':eA P 146 [aS ⟨#[107,49,97,98,47]⟩] (lb.out [.l [[.s ⟨#[]⟩,.s ⟨#[]⟩,.s ⟨#[]⟩,.i 0,.s ⟨#[]⟩]],.t false]):=fZ (L:=bz) hm mL [] (fun _ _=>bN _ _ _) func146 rfl aj aj
def aha:eA P 146 [aS ⟨#[49,97]⟩] (lb.out [.l [[.s ⟨#[]⟩,.s ⟨#[]⟩,.s ⟨#[]⟩,.i 0,.s ⟨#[]⟩]],.t false]):=fZ (L:=bz) hm mL [] (fun _ _=>bN _ _ _) func146 rfl aj aj
def ahb:eA P 146 [aS ⟨#[107,49,97,98,47,109,109,47,112]⟩] (lb.out [.l [[.s ⟨#[]⟩,.s ⟨#[]⟩,.s ⟨#[]⟩,.i 0,.s ⟨#[]⟩]],.t false]):=fZ (L:=bz) hm mL [] (fun _ _=>bN _ _ _) func146 rfl aj aj
def ahc:eA P 146 [aS ⟨#[107,49,97,98]⟩] (lb.out [.l [[.s ⟨#[107,49,97,98]⟩,.s ⟨#[107,49]⟩,.s ⟨#[97,98]⟩,.i 0,.s ⟨#[]⟩]],.t true]):=fZ (L:=bz) hm mL [] (fun _ _=>bN _ _ _) func146 rfl aj aj
def ahd:eA P 146 [aS ⟨#[107,49,97,97]⟩] (lb.out [.l [[.s ⟨#[107,49,97,97]⟩,.s ⟨#[107,49]⟩,.s ⟨#[97,97]⟩,.i 0,.s ⟨#[]⟩]],.t true]):=fZ (L:=bz) hm mL [] (fun _ _=>bN _ _ _) func146 rfl aj aj
def ahe:eA P 146 [aS ⟨#[107,49,97,98,47,52]⟩] (lb.out [.l [[.s ⟨#[107,49,97,98]⟩,.s ⟨#[107,49]⟩,.s ⟨#[97,98]⟩,.i 2,.s ⟨#[52]⟩]],.t true]):=fZ (L:=bz) hm mL [] (fun _ _=>bN _ _ _) func146 rfl aj aj
def ahf:eA P 146 [aS ⟨#[111,104,50,97,98,99]⟩] (lb.out [.l [[.s ⟨#[111,104,50,97,98,99]⟩,.s ⟨#[111,104,50]⟩,.s ⟨#[97,98,99]⟩,.i 0,.s ⟨#[]⟩]],.t true]):=fZ (L:=bz) hm mL [] (fun _ _=>bN _ _ _) func146 rfl aj aj
def ahg:eA P 146 [aS ⟨#[111,104,50,97,98,100]⟩] (lb.out [.l [[.s ⟨#[111,104,50,97,98,100]⟩,.s ⟨#[111,104,50]⟩,.s ⟨#[97,98,100]⟩,.i 0,.s ⟨#[]⟩]],.t true]):=fZ (L:=bz) hm mL [] (fun _ _=>bN _ _ _) func146 rfl aj aj
def ahh:eA P 146 [aS ⟨#[119,49,97,119]⟩] (lb.out [.l [[.s ⟨#[119,49,97,119]⟩,.s ⟨#[119,49]⟩,.s ⟨#[97,119]⟩,.i 0,.s ⟨#[]⟩]],.t true]):=fZ (L:=bz) hm mL [] (fun _ _=>bN _ _ _) func146 rfl aj aj
def ahi:eA P 146 [aS ⟨#[110,49,109,109]⟩] (lb.out [.l [[.s ⟨#[110,49,109,109]⟩,.s ⟨#[110,49]⟩,.s ⟨#[109,109]⟩,.i 0,.s ⟨#[]⟩]],.t true]):=fZ (L:=bz) hm mL [] (fun _ _=>bN _ _ _) func146 rfl aj aj
def ahj:eA P 146 [aS ⟨#[103,51,120,121,122,47,112]⟩] (lb.out [.l [[.s ⟨#[103,51,120,121,122]⟩,.s ⟨#[103,51]⟩,.s ⟨#[120,121,122]⟩,.i 3,.s ⟨#[]⟩]],.t true]):=fZ (L:=bz) hm mL [] (fun _ _=>bN _ _ _) func146 rfl aj aj
def ahk:ff P lb:=fun d r (h:GX d=some r)=>by
 have h:=Mt h;have key:eA P 146 [aS (d.sV 0)] (lb.out r):=by
  generalize (d.sV 0)=s at h;simp only[U5,cy,ke,or_false,cr]at h;rcases h with⟨rfl,rfl⟩|⟨rfl,rfl⟩|⟨rfl,rfl⟩|⟨rfl,rfl⟩|⟨rfl,rfl⟩|⟨rfl,rfl⟩|⟨rfl,rfl⟩|⟨rfl,rfl⟩|⟨rfl,rfl⟩|⟨rfl,rfl⟩|⟨rfl,rfl⟩|⟨rfl,rfl⟩|⟨rfl,rfl⟩|⟨rfl,rfl⟩
  ·exact ag8
  ·exact ag9
  ·exact ag_
  ·exact ag'
  ·exact aha
  ·exact ahb
  ·exact ahc
  ·exact ahd
  ·exact ahe
  ·exact ahf
  ·exact ahg
  ·exact ahh
  ·exact ahi
  ·exact ahj
 exact key []
def t7:ar:=t6.bx lb
def U6:aw P t7:=UF.aP ahk
end
end Go.Proofs.h_
