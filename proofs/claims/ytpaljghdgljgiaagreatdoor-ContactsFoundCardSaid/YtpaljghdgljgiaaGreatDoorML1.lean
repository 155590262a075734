/-
 What is proved here: functions of the program as functions on data. No condition.
-/
import Derived.Test.YtpaljghdgljgiaaGreatDoorML0
set_option linter.all false
open List renaming mem_cons->cq,not_mem_nil->oK
open Prod.mk renaming injEq->bo
namespace Go.Proofs.jq
open Go Go.AL Go.Proofs Tryz
noncomputable section
def OS:aH:=t5.inline P 182 f182 []
theorem ZV:aJ P OS:=OR.inline hm func182 (by kernel_rfl) []
def OT:aH:=OS.inline P 196 f196 []
theorem ZW:aJ P OT:=ZV.inline hm func196 (by kernel_rfl) []
def OU:aH:=OT.inline P 183 f183 []
theorem ZX:aJ P OU:=ZW.inline hm func183 (by kernel_rfl) []
def OV:aH:=OU.inline P 158 f158 []
theorem ZY:aJ P OV:=ZX.inline hm func158 (by kernel_rfl) []
def OW:aH:=OV.inline P 121 f121 []
theorem ZZ:aJ P OW:=ZY.inline hm func121 (by kernel_rfl) []
def OX:aH:=OW.inline P 96 f96 []
theorem Z0:aJ P OX:=ZZ.inline hm func96 (by kernel_rfl) []
def OY:aH:=OX.inline P 184 f184 []
theorem Z1:aJ P OY:=Z0.inline hm func184 (by kernel_rfl) []
def OZ:aH:=OY.inline P 159 f159 []
theorem Z2:aJ P OZ:=Z1.inline hm func159 (by kernel_rfl) []
def O0:aH:=OZ.inline P 160 f160 []
theorem Z3:aJ P O0:=Z2.inline hm func160 (by kernel_rfl) []
def O1:aH:=O0.inline P 161 f161 []
theorem Z4:aJ P O1:=Z3.inline hm func161 (by kernel_rfl) []
def O2:aH:=O1.inline P 162 f162 []
theorem Z5:aJ P O2:=Z4.inline hm func162 (by kernel_rfl) []
def O3:aH:=O2.inline P 185 f185 []
theorem Z6:aJ P O3:=Z5.inline hm func185 (by kernel_rfl) []
def O4:aH:=O3.inline P 197 f197 []
theorem Z7:aJ P O4:=Z6.inline hm func197 (by kernel_rfl) []
def O5:aH:=O4.inline P 186 f186 []
theorem Z8:aJ P O5:=Z7.inline hm func186 (by kernel_rfl) []
def O6:aH:=O5.inline P 163 f163 []
theorem Z9:aJ P O6:=Z8.inline hm func163 (by kernel_rfl) []
def O7:aH:=O6.inline P 122 f122 []
theorem Z_:aJ P O7:=Z9.inline hm func122 (by kernel_rfl) []
def O8:aH:=O7.inline P 174 f174 []
theorem Z':aJ P O8:=Z_.inline hm func174 (by kernel_rfl) []
def O9:aH:=O8.inline P 194 f194 []
theorem aaa:aJ P O9:=Z'.inline hm func194 (by kernel_rfl) []
def O_:aH:=O9.inline P 173 f173 []
theorem aab:aJ P O_:=aaa.inline hm func173 (by kernel_rfl) []
def O':aH:=O_.inline P 172 f172 []
theorem aac:aJ P O':=aab.inline hm func172 (by kernel_rfl) []
def Pa:aH:=O'.inline P 142 f142 []
theorem aad:aJ P Pa:=aac.inline hm func142 (by kernel_rfl) []
def Pb:aH:=Pa.inline P 143 f143 []
theorem aae:aJ P Pb:=aad.inline hm func143 (by kernel_rfl) []
def aaf:aH:=Pb.inline P 144 f144 []
theorem k5:aJ P aaf:=aae.inline hm func144 (by kernel_rfl) []
def Pc:List (BY × LG):=[(⟨#[]⟩,[.l [[.s ⟨#[]⟩,.s ⟨#[]⟩,.s ⟨#[]⟩,.i 0,.s ⟨#[]⟩]],.t false]),(⟨#[107,49]⟩,[.l [[.s ⟨#[]⟩,.s ⟨#[]⟩,.s ⟨#[]⟩,.i 0,.s ⟨#[]⟩]],.t false]),(⟨#[75,49,65,66]⟩,[.l [[.s ⟨#[]⟩,.s ⟨#[]⟩,.s ⟨#[]⟩,.i 0,.s ⟨#[]⟩]],.t false]),(⟨#[107,49,97,98,47]⟩,[.l [[.s ⟨#[]⟩,.s ⟨#[]⟩,.s ⟨#[]⟩,.i 0,.s ⟨#[]⟩]],.t false]),(⟨#[49,97]⟩,[.l [[.s ⟨#[]⟩,.s ⟨#[]⟩,.s ⟨#[]⟩,.i 0,.s ⟨#[]⟩]],.t false]),(⟨#[107,49,97,98,47,109,109,47,112]⟩,[.l [[.s ⟨#[]⟩,.s ⟨#[]⟩,.s ⟨#[]⟩,.i 0,.s ⟨#[]⟩]],.t false]),(⟨#[107,49,97,98]⟩,[.l [[.s ⟨#[107,49,97,98]⟩,.s ⟨#[107,49]⟩,.s ⟨#[97,98]⟩,.i 0,.s ⟨#[]⟩]],.t true]),(⟨#[107,49,97,97]⟩,[.l [[.s ⟨#[107,49,97,97]⟩,.s ⟨#[107,49]⟩,.s ⟨#[97,97]⟩,.i 0,.s ⟨#[]⟩]],.t true]),(⟨#[107,49,97,98,47,52]⟩,[.l [[.s ⟨#[107,49,97,98]⟩,.s ⟨#[107,49]⟩,.s ⟨#[97,98]⟩,.i 2,.s ⟨#[52]⟩]],.t true]),(⟨#[111,104,50,97,98,99]⟩,[.l [[.s ⟨#[111,104,50,97,98,99]⟩,.s ⟨#[111,104,50]⟩,.s ⟨#[97,98,99]⟩,.i 0,.s ⟨#[]⟩]],.t true]),(⟨#[111,104,50,97,98,100]⟩,[.l [[.s ⟨#[111,104,50,97,98,100]⟩,.s ⟨#[111,104,50]⟩,.s ⟨#[97,98,100]⟩,.i 0,.s ⟨#[]⟩]],.t true]),(⟨#[119,49,97,119]⟩,[.l [[.s ⟨#[119,49,97,119]⟩,.s ⟨#[119,49]⟩,.s ⟨#[97,119]⟩,.i 0,.s ⟨#[]⟩]],.t true]),(⟨#[110,49,109,109]⟩,[.l [[.s ⟨#[110,49,109,109]⟩,.s ⟨#[110,49]⟩,.s ⟨#[109,109]⟩,.i 0,.s ⟨#[]⟩]],.t true]),(⟨#[103,51,120,121,122,47,112]⟩,[.l [[.s ⟨#[103,51,120,121,122]⟩,.s ⟨#[103,51]⟩,.s ⟨#[120,121,122]⟩,.i 3,.s ⟨#[]⟩]],.t true]),(⟨#[119,49,97,120]⟩,[.l [[.s ⟨#[119,49,97,120]⟩,.s ⟨#[119,49]⟩,.s ⟨#[97,120]⟩,.i 0,.s ⟨#[]⟩]],.t true])]
def Ik(d:LG):Option LG:=zP Pc (gi d 0).sV
def jI:aO:=⟨111,[cL],[],[],[.s (.row OJ),da],[],[],[],Ik⟩
theorem aag:dM P 111 [aS ⟨#[]⟩] (jI.out [.l [[.s ⟨#[]⟩,.s ⟨#[]⟩,.s ⟨#[]⟩,.i 0,.s ⟨#[]⟩]],.t false]):=fh (L:=bJ) hm k5 [] (fun _ _=>bL _ _ _) func111 rfl (by kernel_rfl) (by kernel_rfl)
theorem aah:dM P 111 [aS ⟨#[107,49]⟩] (jI.out [.l [[.s ⟨#[]⟩,.s ⟨#[]⟩,.s ⟨#[]⟩,.i 0,.s ⟨#[]⟩]],.t false]):=fh (L:=bJ) hm k5 [] (fun _ _=>bL _ _ _) func111 rfl (by kernel_rfl) (by kernel_rfl)
theorem aai:dM P 111 [aS ⟨#[75,49,65,66]⟩] (jI.out [.l [[.s ⟨#[]⟩,.s ⟨#[]⟩,.s ⟨#[]⟩,.i 0,.s ⟨#[]⟩]],.t false]):=fh (L:=bJ) hm k5 [] (fun _ _=>bL _ _ _) func111 rfl (by kernel_rfl) (by kernel_rfl)
theorem aaj:dM P 111 [aS ⟨#[107,49,97,98,47]⟩] (jI.out [.l [[.s ⟨#[]⟩,.s ⟨#[]⟩,.s ⟨#[]⟩,.i 0,.s ⟨#[]⟩]],.t false]):=fh (L:=bJ) hm k5 [] (fun _ _=>bL _ _ _) func111 rfl (by kernel_rfl) (by kernel_rfl)
theorem aak:dM P 111 [aS ⟨#[49,97]⟩] (jI.out [.l [[.s ⟨#[]⟩,.s ⟨#[]⟩,.s ⟨#[]⟩,.i 0,.s ⟨#[]⟩]],.t false]):=fh (L:=bJ) hm k5 [] (fun _ _=>bL _ _ _) func111 rfl (by kernel_rfl) (by kernel_rfl)
theorem aal:dM P 111 [aS ⟨#[107,49,97,98,47,109,109,47,112]⟩] (jI.out [.l [[.s ⟨#[]⟩,.s ⟨#[]⟩,.s ⟨#[]⟩,.i 0,.s ⟨#[]⟩]],.t false]):=fh (L:=bJ) hm k5 [] (fun _ _=>bL _ _ _) func111 rfl (by kernel_rfl) (by kernel_rfl)
theorem aam:dM P 111 [aS ⟨#[107,49,97,98]⟩] (jI.out [.l [[.s ⟨#[107,49,97,98]⟩,.s ⟨#[107,49]⟩,.s ⟨#[97,98]⟩,.i 0,.s ⟨#[]⟩]],.t true]):=fh (L:=bJ) hm k5 [] (fun _ _=>bL _ _ _) func111 rfl (by kernel_rfl) (by kernel_rfl)
theorem aan:dM P 111 [aS ⟨#[107,49,97,97]⟩] (jI.out [.l [[.s ⟨#[107,49,97,97]⟩,.s ⟨#[107,49]⟩,.s ⟨#[97,97]⟩,.i 0,.s ⟨#[]⟩]],.t true]):=fh (L:=bJ) hm k5 [] (fun _ _=>bL _ _ _) func111 rfl (by kernel_rfl) (by kernel_rfl)
theorem aao:dM P 111 [aS ⟨#[107,49,97,98,47,52]⟩] (jI.out [.l [[.s ⟨#[107,49,97,98]⟩,.s ⟨#[107,49]⟩,.s ⟨#[97,98]⟩,.i 2,.s ⟨#[52]⟩]],.t true]):=fh (L:=bJ) hm k5 [] (fun _ _=>bL _ _ _) func111 rfl (by kernel_rfl) (by kernel_rfl)
theorem aap:dM P 111 [aS ⟨#[111,104,50,97,98,99]⟩] (jI.out [.l [[.s ⟨#[111,104,50,97,98,99]⟩,.s ⟨#[111,104,50]⟩,.s ⟨#[97,98,99]⟩,.i 0,.s ⟨#[]⟩]],.t true]):=fh (L:=bJ) hm k5 [] (fun _ _=>bL _ _ _) func111 rfl (by kernel_rfl) (by kernel_rfl)
theorem aaq:dM P 111 [aS ⟨#[111,104,50,97,98,100]⟩] (jI.out [.l [[.s ⟨#[111,104,50,97,98,100]⟩,.s ⟨#[111,104,50]⟩,.s ⟨#[97,98,100]⟩,.i 0,.s ⟨#[]⟩]],.t true]):=fh (L:=bJ) hm k5 [] (fun _ _=>bL _ _ _) func111 rfl (by kernel_rfl) (by kernel_rfl)
theorem aar:dM P 111 [aS ⟨#[119,49,97,119]⟩] (jI.out [.l [[.s ⟨#[119,49,97,119]⟩,.s ⟨#[119,49]⟩,.s ⟨#[97,119]⟩,.i 0,.s ⟨#[]⟩]],.t true]):=fh (L:=bJ) hm k5 [] (fun _ _=>bL _ _ _) func111 rfl (by kernel_rfl) (by kernel_rfl)
theorem aas:dM P 111 [aS ⟨#[110,49,109,109]⟩] (jI.out [.l [[.s ⟨#[110,49,109,109]⟩,.s ⟨#[110,49]⟩,.s ⟨#[109,109]⟩,.i 0,.s ⟨#[]⟩]],.t true]):=fh (L:=bJ) hm k5 [] (fun _ _=>bL _ _ _) func111 rfl (by kernel_rfl) (by kernel_rfl)
theorem aat:dM P 111 [aS ⟨#[103,51,120,121,122,47,112]⟩] (jI.out [.l [[.s ⟨#[103,51,120,121,122]⟩,.s ⟨#[103,51]⟩,.s ⟨#[120,121,122]⟩,.i 3,.s ⟨#[]⟩]],.t true]):=fh (L:=bJ) hm k5 [] (fun _ _=>bL _ _ _) func111 rfl (by kernel_rfl) (by kernel_rfl)
theorem aau:dM P 111 [aS ⟨#[119,49,97,120]⟩] (jI.out [.l [[.s ⟨#[119,49,97,120]⟩,.s ⟨#[119,49]⟩,.s ⟨#[97,120]⟩,.i 0,.s ⟨#[]⟩]],.t true]):=fh (L:=bJ) hm k5 [] (fun _ _=>bL _ _ _) func111 rfl (by kernel_rfl) (by kernel_rfl)
theorem aav:iT P jI:=fun d r (h:Ik d=some r)=>by
 have h:=Ij h;have key:dM P 111 [aS (gi d 0).sV] (jI.out r):=by
  generalize (gi d 0).sV=s at h;simp only[Pc,cq,oK,or_false,bo]at h;rcases h with⟨rfl,rfl⟩|⟨rfl,rfl⟩|⟨rfl,rfl⟩|⟨rfl,rfl⟩|⟨rfl,rfl⟩|⟨rfl,rfl⟩|⟨rfl,rfl⟩|⟨rfl,rfl⟩|⟨rfl,rfl⟩|⟨rfl,rfl⟩|⟨rfl,rfl⟩|⟨rfl,rfl⟩|⟨rfl,rfl⟩|⟨rfl,rfl⟩|⟨rfl,rfl⟩
  ·exact aag
  ·exact aah
  ·exact aai
  ·exact aaj
  ·exact aak
  ·exact aal
  ·exact aam
  ·exact aan
  ·exact aao
  ·exact aap
  ·exact aaq
  ·exact aar
  ·exact aas
  ·exact aat
  ·exact aau
 exact key []
def t6:aH:=t5.bp jI
theorem Pd:aJ P t6:=OR.aP aav
def Pe:aH:=t6.inline P 182 f182 []
theorem aaw:aJ P Pe:=Pd.inline hm func182 (by kernel_rfl) []
def Pf:aH:=Pe.inline P 196 f196 []
theorem aax:aJ P Pf:=aaw.inline hm func196 (by kernel_rfl) []
def Pg:aH:=Pf.inline P 183 f183 []
theorem aay:aJ P Pg:=aax.inline hm func183 (by kernel_rfl) []
def Ph:aH:=Pg.inline P 158 f158 []
theorem aaz:aJ P Ph:=aay.inline hm func158 (by kernel_rfl) []
def Pj:aH:=Ph.inline P 121 f121 []
theorem aaA:aJ P Pj:=aaz.inline hm func121 (by kernel_rfl) []
def Pk:aH:=Pj.inline P 96 f96 []
theorem aaB:aJ P Pk:=aaA.inline hm func96 (by kernel_rfl) []
def Pl:aH:=Pk.inline P 184 f184 []
theorem aaC:aJ P Pl:=aaB.inline hm func184 (by kernel_rfl) []
def Pm:aH:=Pl.inline P 159 f159 []
theorem aaD:aJ P Pm:=aaC.inline hm func159 (by kernel_rfl) []
def Pn:aH:=Pm.inline P 160 f160 []
theorem aaE:aJ P Pn:=aaD.inline hm func160 (by kernel_rfl) []
def Po:aH:=Pn.inline P 161 f161 []
theorem aaF:aJ P Po:=aaE.inline hm func161 (by kernel_rfl) []
def Pp:aH:=Po.inline P 162 f162 []
theorem aaG:aJ P Pp:=aaF.inline hm func162 (by kernel_rfl) []
def Pq:aH:=Pp.inline P 185 f185 []
theorem aaH:aJ P Pq:=aaG.inline hm func185 (by kernel_rfl) []
def Pr:aH:=Pq.inline P 197 f197 []
theorem aaI:aJ P Pr:=aaH.inline hm func197 (by kernel_rfl) []
def Pt:aH:=Pr.inline P 186 f186 []
theorem aaJ:aJ P Pt:=aaI.inline hm func186 (by kernel_rfl) []
def Pu:aH:=Pt.inline P 163 f163 []
theorem aaK:aJ P Pu:=aaJ.inline hm func163 (by kernel_rfl) []
def Pv:aH:=Pu.inline P 122 f122 []
theorem aaL:aJ P Pv:=aaK.inline hm func122 (by kernel_rfl) []
def Pw:aH:=Pv.inline P 124 f124 []
theorem aaM:aJ P Pw:=aaL.inline hm func124 (by kernel_rfl) []
def Px:aH:=Pw.inline P 165 f165 []
theorem aaN:aJ P Px:=aaM.inline hm func165 (by kernel_rfl) []
def Py:aH:=Px.inline P 125 f125 []
theorem aaO:aJ P Py:=aaN.inline hm func125 (by kernel_rfl) []
def Pz:aH:=Py.inline P 123 f123 []
theorem aaP:aJ P Pz:=aaO.inline hm func123 (by kernel_rfl) []
def PA:aH:=Pz.inline P 98 f98 []
theorem aaQ:aJ P PA:=aaP.inline hm func98 (by kernel_rfl) []
def PB:aH:=PA.inline P 97 f97 []
theorem aaR:aJ P PB:=aaQ.inline hm func97 (by kernel_rfl) []
def PC:aH:=PB.inline P 99 f99 []
theorem aaS:aJ P PC:=aaR.inline hm func99 (by kernel_rfl) []
def PD:aH:=PC.inline P 126 f126 []
theorem aaT:aJ P PD:=aaS.inline hm func126 (by kernel_rfl) []
def aaU:aH:=PD.inline P 100 f100 []
theorem k6:aJ P aaU:=aaT.inline hm func100 (by kernel_rfl) []
def PE:List (BY × LG):=[(⟨#[]⟩,[.l [[.s ⟨#[]⟩,.s ⟨#[]⟩,.s ⟨#[]⟩,.i 0,.s ⟨#[]⟩]],.t false]),(⟨#[107,49]⟩,[.l [[.s ⟨#[]⟩,.s ⟨#[]⟩,.s ⟨#[]⟩,.i 0,.s ⟨#[]⟩]],.t false]),(⟨#[75,49,65,66]⟩,[.l [[.s ⟨#[]⟩,.s ⟨#[]⟩,.s ⟨#[]⟩,.i 0,.s ⟨#[]⟩]],.t false]),(⟨#[107,49,97,98,47]⟩,[.l [[.s ⟨#[]⟩,.s ⟨#[]⟩,.s ⟨#[]⟩,.i 0,.s ⟨#[]⟩]],.t false]),(⟨#[49,97]⟩,[.l [[.s ⟨#[]⟩,.s ⟨#[]⟩,.s ⟨#[]⟩,.i 0,.s ⟨#[]⟩]],.t false]),(⟨#[107,49,97,98,47,109,109,47,112]⟩,[.l [[.s ⟨#[]⟩,.s ⟨#[]⟩,.s ⟨#[]⟩,.i 0,.s ⟨#[]⟩]],.t false]),(⟨#[107,49,97,98]⟩,[.l [[.s ⟨#[107,49,97,98]⟩,.s ⟨#[107,49]⟩,.s ⟨#[97,98]⟩,.i 0,.s ⟨#[]⟩]],.t true]),(⟨#[107,49,97,97]⟩,[.l [[.s ⟨#[107,49,97,97]⟩,.s ⟨#[107,49]⟩,.s ⟨#[97,97]⟩,.i 0,.s ⟨#[]⟩]],.t true]),(⟨#[107,49,97,98,47,52]⟩,[.l [[.s ⟨#[107,49,97,98]⟩,.s ⟨#[107,49]⟩,.s ⟨#[97,98]⟩,.i 2,.s ⟨#[52]⟩]],.t true]),(⟨#[111,104,50,97,98,99]⟩,[.l [[.s ⟨#[111,104,50,97,98,99]⟩,.s ⟨#[111,104,50]⟩,.s ⟨#[97,98,99]⟩,.i 0,.s ⟨#[]⟩]],.t true]),(⟨#[111,104,50,97,98,100]⟩,[.l [[.s ⟨#[111,104,50,97,98,100]⟩,.s ⟨#[111,104,50]⟩,.s ⟨#[97,98,100]⟩,.i 0,.s ⟨#[]⟩]],.t true]),(⟨#[119,49,97,119]⟩,[.l [[.s ⟨#[119,49,97,119]⟩,.s ⟨#[119,49]⟩,.s ⟨#[97,119]⟩,.i 0,.s ⟨#[]⟩]],.t true]),(⟨#[110,49,109,109]⟩,[.l [[.s ⟨#[110,49,109,109]⟩,.s ⟨#[110,49]⟩,.s ⟨#[109,109]⟩,.i 0,.s ⟨#[]⟩]],.t true]),(⟨#[103,51,120,121,122,47,112]⟩,[.l [[.s ⟨#[103,51,120,121,122]⟩,.s ⟨#[103,51]⟩,.s ⟨#[120,121,122]⟩,.i 3,.s ⟨#[]⟩]],.t true]),(⟨#[119,49,97,120]⟩,[.l [[.s ⟨#[119,49,97,120]⟩,.s ⟨#[119,49]⟩,.s ⟨#[97,120]⟩,.i 0,.s ⟨#[]⟩]],.t true])]
def Il(d:LG):Option LG:=zP PE (gi d 0).sV
def jJ:aO:=⟨72,[cL],[],[],[.s (.row OJ),da],[],[],[],Il⟩
theorem aaV:dM P 72 [aS ⟨#[]⟩] (jJ.out [.l [[.s ⟨#[]⟩,.s ⟨#[]⟩,.s ⟨#[]⟩,.i 0,.s ⟨#[]⟩]],.t false]):=fh (L:=bJ) hm k6 [] (fun _ _=>bL _ _ _) func72 rfl (by kernel_rfl) (by kernel_rfl)
theorem aaW:dM P 72 [aS ⟨#[107,49]⟩] (jJ.out [.l [[.s ⟨#[]⟩,.s ⟨#[]⟩,.s ⟨#[]⟩,.i 0,.s ⟨#[]⟩]],.t false]):=fh (L:=bJ) hm k6 [] (fun _ _=>bL _ _ _) func72 rfl (by kernel_rfl) (by kernel_rfl)
theorem aaX:dM P 72 [aS ⟨#[75,49,65,66]⟩] (jJ.out [.l [[.s ⟨#[]⟩,.s ⟨#[]⟩,.s ⟨#[]⟩,.i 0,.s ⟨#[]⟩]],.t false]):=fh (L:=bJ) hm k6 [] (fun _ _=>bL _ _ _) func72 rfl (by kernel_rfl) (by kernel_rfl)
theorem aaY:dM P 72 [aS ⟨#[107,49,97,98,47]⟩] (jJ.out [.l [[.s ⟨#[]⟩,.s ⟨#[]⟩,.s ⟨#[]⟩,.i 0,.s ⟨#[]⟩]],.t false]):=fh (L:=bJ) hm k6 [] (fun _ _=>bL _ _ _) func72 rfl (by kernel_rfl) (by kernel_rfl)
theorem aaZ:dM P 72 [aS ⟨#[49,97]⟩] (jJ.out [.l [[.s ⟨#[]⟩,.s ⟨#[]⟩,.s ⟨#[]⟩,.i 0,.s ⟨#[]⟩]],.t false]):=fh (L:=bJ) hm k6 [] (fun _ _=>bL _ _ _) func72 rfl (by kernel_rfl) (by kernel_rfl)
theorem aa0:dM P 72 [aS ⟨#[107,49,97,98,47,109,109,47,112]⟩] (jJ.out [.l [[.s ⟨#[]⟩,.s ⟨#[]⟩,.s ⟨#[]⟩,.i 0,.s ⟨#[]⟩]],.t false]):=fh (L:=bJ) hm k6 [] (fun _ _=>bL _ _ _) func72 rfl (by kernel_rfl) (by kernel_rfl)
theorem aa1:dM P 72 [aS ⟨#[107,49,97,98]⟩] (jJ.out [.l [[.s ⟨#[107,49,97,98]⟩,.s ⟨#[107,49]⟩,.s ⟨#[97,98]⟩,.i 0,.s ⟨#[]⟩]],.t true]):=fh (L:=bJ) hm k6 [] (fun _ _=>bL _ _ _) func72 rfl (by kernel_rfl) (by kernel_rfl)
theorem aa2:dM P 72 [aS ⟨#[107,49,97,97]⟩] (jJ.out [.l [[.s ⟨#[107,49,97,97]⟩,.s ⟨#[107,49]⟩,.s ⟨#[97,97]⟩,.i 0,.s ⟨#[]⟩]],.t true]):=fh (L:=bJ) hm k6 [] (fun _ _=>bL _ _ _) func72 rfl (by kernel_rfl) (by kernel_rfl)
theorem aa3:dM P 72 [aS ⟨#[107,49,97,98,47,52]⟩] (jJ.out [.l [[.s ⟨#[107,49,97,98]⟩,.s ⟨#[107,49]⟩,.s ⟨#[97,98]⟩,.i 2,.s ⟨#[52]⟩]],.t true]):=fh (L:=bJ) hm k6 [] (fun _ _=>bL _ _ _) func72 rfl (by kernel_rfl) (by kernel_rfl)
theorem aa4:dM P 72 [aS ⟨#[111,104,50,97,98,99]⟩] (jJ.out [.l [[.s ⟨#[111,104,50,97,98,99]⟩,.s ⟨#[111,104,50]⟩,.s ⟨#[97,98,99]⟩,.i 0,.s ⟨#[]⟩]],.t true]):=fh (L:=bJ) hm k6 [] (fun _ _=>bL _ _ _) func72 rfl (by kernel_rfl) (by kernel_rfl)
theorem aa5:dM P 72 [aS ⟨#[111,104,50,97,98,100]⟩] (jJ.out [.l [[.s ⟨#[111,104,50,97,98,100]⟩,.s ⟨#[111,104,50]⟩,.s ⟨#[97,98,100]⟩,.i 0,.s ⟨#[]⟩]],.t true]):=fh (L:=bJ) hm k6 [] (fun _ _=>bL _ _ _) func72 rfl (by kernel_rfl) (by kernel_rfl)
theorem aa6:dM P 72 [aS ⟨#[119,49,97,119]⟩] (jJ.out [.l [[.s ⟨#[119,49,97,119]⟩,.s ⟨#[119,49]⟩,.s ⟨#[97,119]⟩,.i 0,.s ⟨#[]⟩]],.t true]):=fh (L:=bJ) hm k6 [] (fun _ _=>bL _ _ _) func72 rfl (by kernel_rfl) (by kernel_rfl)
theorem aa7:dM P 72 [aS ⟨#[110,49,109,109]⟩] (jJ.out [.l [[.s ⟨#[110,49,109,109]⟩,.s ⟨#[110,49]⟩,.s ⟨#[109,109]⟩,.i 0,.s ⟨#[]⟩]],.t true]):=fh (L:=bJ) hm k6 [] (fun _ _=>bL _ _ _) func72 rfl (by kernel_rfl) (by kernel_rfl)
theorem aa8:dM P 72 [aS ⟨#[103,51,120,121,122,47,112]⟩] (jJ.out [.l [[.s ⟨#[103,51,120,121,122]⟩,.s ⟨#[103,51]⟩,.s ⟨#[120,121,122]⟩,.i 3,.s ⟨#[]⟩]],.t true]):=fh (L:=bJ) hm k6 [] (fun _ _=>bL _ _ _) func72 rfl (by kernel_rfl) (by kernel_rfl)
theorem aa9:dM P 72 [aS ⟨#[119,49,97,120]⟩] (jJ.out [.l [[.s ⟨#[119,49,97,120]⟩,.s ⟨#[119,49]⟩,.s ⟨#[97,120]⟩,.i 0,.s ⟨#[]⟩]],.t true]):=fh (L:=bJ) hm k6 [] (fun _ _=>bL _ _ _) func72 rfl (by kernel_rfl) (by kernel_rfl)
theorem aa_:iT P jJ:=fun d r (h:Il d=some r)=>by
 have h:=Ij h;have key:dM P 72 [aS (gi d 0).sV] (jJ.out r):=by
  generalize (gi d 0).sV=s at h;simp only[PE,cq,oK,or_false,bo]at h;rcases h with⟨rfl,rfl⟩|⟨rfl,rfl⟩|⟨rfl,rfl⟩|⟨rfl,rfl⟩|⟨rfl,rfl⟩|⟨rfl,rfl⟩|⟨rfl,rfl⟩|⟨rfl,rfl⟩|⟨rfl,rfl⟩|⟨rfl,rfl⟩|⟨rfl,rfl⟩|⟨rfl,rfl⟩|⟨rfl,rfl⟩|⟨rfl,rfl⟩|⟨rfl,rfl⟩
  ·exact aaV
  ·exact aaW
  ·exact aaX
  ·exact aaY
  ·exact aaZ
  ·exact aa0
  ·exact aa1
  ·exact aa2
  ·exact aa3
  ·exact aa4
  ·exact aa5
  ·exact aa6
  ·exact aa7
  ·exact aa8
  ·exact aa9
 exact key []
def t7:aH:=t6.bp jJ
theorem aa':aJ P t7:=Pd.aP aa_
end
end Go.Proofs.jq
