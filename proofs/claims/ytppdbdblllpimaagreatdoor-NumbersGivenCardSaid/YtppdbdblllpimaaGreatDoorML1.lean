/-
 What is proved here: functions of the program as functions on data. No condition.
-/
import Derived.Test.YtppdbdblllpimaaGreatDoorML0
set_option linter.all false
open List renaming mem_cons→bC,not_mem_nil→jD
open Prod.mk renaming injEq→be
namespace Go.Proofs.gT
open Go Go.AL Go.Proofs Tryz
noncomputable section
def ON:ah:=t5.inline P 255 f255 []
theorem Z_:aj P ON:=OM.inline hm func255 (by kernel_rfl) []
def OO:ah:=ON.inline P 261 f261 []
theorem Z':aj P OO:=Z_.inline hm func261 (by kernel_rfl) []
def OP:ah:=OO.inline P 256 f256 []
theorem aaa:aj P OP:=Z'.inline hm func256 (by kernel_rfl) []
def OQ:ah:=OP.inline P 243 f243 []
theorem aab:aj P OQ:=aaa.inline hm func243 (by kernel_rfl) []
def OR:ah:=OQ.inline P 223 f223 []
theorem aac:aj P OR:=aab.inline hm func223 (by kernel_rfl) []
def OS:ah:=OR.inline P 197 f197 []
theorem aad:aj P OS:=aac.inline hm func197 (by kernel_rfl) []
def OT:ah:=OS.inline P 235 f235 []
theorem aae:aj P OT:=aad.inline hm func235 (by kernel_rfl) []
def OU:ah:=OT.inline P 257 f257 []
theorem aaf:aj P OU:=aae.inline hm func257 (by kernel_rfl) []
def OV:ah:=OU.inline P 244 f244 []
theorem aag:aj P OV:=aaf.inline hm func244 (by kernel_rfl) []
def OW:ah:=OV.inline P 245 f245 []
theorem aah:aj P OW:=aag.inline hm func245 (by kernel_rfl) []
def OX:ah:=OW.inline P 246 f246 []
theorem aai:aj P OX:=aah.inline hm func246 (by kernel_rfl) []
def OY:ah:=OX.inline P 259 f259 []
theorem aaj:aj P OY:=aai.inline hm func259 (by kernel_rfl) []
def OZ:ah:=OY.inline P 249 f249 []
theorem aak:aj P OZ:=aaj.inline hm func249 (by kernel_rfl) []
def O0:ah:=OZ.inline P 258 f258 []
theorem aal:aj P O0:=aak.inline hm func258 (by kernel_rfl) []
def O1:ah:=O0.inline P 247 f247 []
theorem aam:aj P O1:=aal.inline hm func247 (by kernel_rfl) []
def O2:ah:=O1.inline P 224 f224 []
theorem aan:aj P O2:=aam.inline hm func224 (by kernel_rfl) []
def O3:ah:=O2.inline P 267 f267 []
theorem aao:aj P O3:=aan.inline hm func267 (by kernel_rfl) []
def O4:ah:=O3.inline P 268 f268 []
theorem aap:aj P O4:=aao.inline hm func268 (by kernel_rfl) []
def O5:ah:=O4.inline P 266 f266 []
theorem aaq:aj P O5:=aap.inline hm func266 (by kernel_rfl) []
def O6:ah:=O5.inline P 265 f265 []
theorem aar:aj P O6:=aaq.inline hm func265 (by kernel_rfl) []
def O7:ah:=O6.inline P 262 f262 []
theorem aas:aj P O7:=aar.inline hm func262 (by kernel_rfl) []
def O8:ah:=O7.inline P 263 f263 []
theorem aat:aj P O8:=aas.inline hm func263 (by kernel_rfl) []
def aau:ah:=O8.inline P 264 f264 []
theorem jU:aj P aau:=aat.inline hm func264 (by kernel_rfl) []
def O9:List (ByteArray × List G):=[(⟨#[]⟩,[.l [[.s ⟨#[]⟩,.s ⟨#[]⟩,.s ⟨#[]⟩,.i 0,.s ⟨#[]⟩]],.t false]),(⟨#[107,49]⟩,[.l [[.s ⟨#[]⟩,.s ⟨#[]⟩,.s ⟨#[]⟩,.i 0,.s ⟨#[]⟩]],.t false]),(⟨#[75,49,65,66]⟩,[.l [[.s ⟨#[]⟩,.s ⟨#[]⟩,.s ⟨#[]⟩,.i 0,.s ⟨#[]⟩]],.t false]),(⟨#[107,49,97,98,47]⟩,[.l [[.s ⟨#[]⟩,.s ⟨#[]⟩,.s ⟨#[]⟩,.i 0,.s ⟨#[]⟩]],.t false]),(⟨#[49,97]⟩,[.l [[.s ⟨#[]⟩,.s ⟨#[]⟩,.s ⟨#[]⟩,.i 0,.s ⟨#[]⟩]],.t false]),(⟨#[107,49,97,98,47,109,109,47,112]⟩,[.l [[.s ⟨#[]⟩,.s ⟨#[]⟩,.s ⟨#[]⟩,.i 0,.s ⟨#[]⟩]],.t false]),(⟨#[107,49,97,98]⟩,[.l [[.s ⟨#[107,49,97,98]⟩,.s ⟨#[107,49]⟩,.s ⟨#[97,98]⟩,.i 0,.s ⟨#[]⟩]],.t true]),(⟨#[107,49,97,97]⟩,[.l [[.s ⟨#[107,49,97,97]⟩,.s ⟨#[107,49]⟩,.s ⟨#[97,97]⟩,.i 0,.s ⟨#[]⟩]],.t true]),(⟨#[107,49,97,98,47,52]⟩,[.l [[.s ⟨#[107,49,97,98]⟩,.s ⟨#[107,49]⟩,.s ⟨#[97,98]⟩,.i 2,.s ⟨#[52]⟩]],.t true]),(⟨#[111,104,50,97,98,99]⟩,[.l [[.s ⟨#[111,104,50,97,98,99]⟩,.s ⟨#[111,104,50]⟩,.s ⟨#[97,98,99]⟩,.i 0,.s ⟨#[]⟩]],.t true]),(⟨#[111,104,50,97,98,100]⟩,[.l [[.s ⟨#[111,104,50,97,98,100]⟩,.s ⟨#[111,104,50]⟩,.s ⟨#[97,98,100]⟩,.i 0,.s ⟨#[]⟩]],.t true]),(⟨#[119,49,97,119]⟩,[.l [[.s ⟨#[119,49,97,119]⟩,.s ⟨#[119,49]⟩,.s ⟨#[97,119]⟩,.i 0,.s ⟨#[]⟩]],.t true]),(⟨#[110,49,109,109]⟩,[.l [[.s ⟨#[110,49,109,109]⟩,.s ⟨#[110,49]⟩,.s ⟨#[109,109]⟩,.i 0,.s ⟨#[]⟩]],.t true]),(⟨#[103,51,120,121,122,47,112]⟩,[.l [[.s ⟨#[103,51,120,121,122]⟩,.s ⟨#[103,51]⟩,.s ⟨#[120,121,122]⟩,.i 3,.s ⟨#[]⟩]],.t true])]
def GY(d:List G):Option (List G):=xX O9 (gi d 0).str
def gD:aA:=⟨260,[.s (.str)],[],[],[.s (.row OK),.s (.bool)],[],[],[],GY⟩
theorem aav:dc P 260 [aS ⟨#[]⟩] (gD.out [.l [[.s ⟨#[]⟩,.s ⟨#[]⟩,.s ⟨#[]⟩,.i 0,.s ⟨#[]⟩]],.t false]):=eh (L:=az) hm jU [] (fun _ _=>aK _ _ _) func260 rfl (by kernel_rfl) (by kernel_rfl)
theorem aaw:dc P 260 [aS ⟨#[107,49]⟩] (gD.out [.l [[.s ⟨#[]⟩,.s ⟨#[]⟩,.s ⟨#[]⟩,.i 0,.s ⟨#[]⟩]],.t false]):=eh (L:=az) hm jU [] (fun _ _=>aK _ _ _) func260 rfl (by kernel_rfl) (by kernel_rfl)
theorem aax:dc P 260 [aS ⟨#[75,49,65,66]⟩] (gD.out [.l [[.s ⟨#[]⟩,.s ⟨#[]⟩,.s ⟨#[]⟩,.i 0,.s ⟨#[]⟩]],.t false]):=eh (L:=az) hm jU [] (fun _ _=>aK _ _ _) func260 rfl (by kernel_rfl) (by kernel_rfl)
theorem aay:dc P 260 [aS ⟨#[107,49,97,98,47]⟩] (gD.out [.l [[.s ⟨#[]⟩,.s ⟨#[]⟩,.s ⟨#[]⟩,.i 0,.s ⟨#[]⟩]],.t false]):=eh (L:=az) hm jU [] (fun _ _=>aK _ _ _) func260 rfl (by kernel_rfl) (by kernel_rfl)
theorem aaz:dc P 260 [aS ⟨#[49,97]⟩] (gD.out [.l [[.s ⟨#[]⟩,.s ⟨#[]⟩,.s ⟨#[]⟩,.i 0,.s ⟨#[]⟩]],.t false]):=eh (L:=az) hm jU [] (fun _ _=>aK _ _ _) func260 rfl (by kernel_rfl) (by kernel_rfl)
theorem aaA:dc P 260 [aS ⟨#[107,49,97,98,47,109,109,47,112]⟩] (gD.out [.l [[.s ⟨#[]⟩,.s ⟨#[]⟩,.s ⟨#[]⟩,.i 0,.s ⟨#[]⟩]],.t false]):=eh (L:=az) hm jU [] (fun _ _=>aK _ _ _) func260 rfl (by kernel_rfl) (by kernel_rfl)
theorem aaB:dc P 260 [aS ⟨#[107,49,97,98]⟩] (gD.out [.l [[.s ⟨#[107,49,97,98]⟩,.s ⟨#[107,49]⟩,.s ⟨#[97,98]⟩,.i 0,.s ⟨#[]⟩]],.t true]):=eh (L:=az) hm jU [] (fun _ _=>aK _ _ _) func260 rfl (by kernel_rfl) (by kernel_rfl)
theorem aaC:dc P 260 [aS ⟨#[107,49,97,97]⟩] (gD.out [.l [[.s ⟨#[107,49,97,97]⟩,.s ⟨#[107,49]⟩,.s ⟨#[97,97]⟩,.i 0,.s ⟨#[]⟩]],.t true]):=eh (L:=az) hm jU [] (fun _ _=>aK _ _ _) func260 rfl (by kernel_rfl) (by kernel_rfl)
theorem aaD:dc P 260 [aS ⟨#[107,49,97,98,47,52]⟩] (gD.out [.l [[.s ⟨#[107,49,97,98]⟩,.s ⟨#[107,49]⟩,.s ⟨#[97,98]⟩,.i 2,.s ⟨#[52]⟩]],.t true]):=eh (L:=az) hm jU [] (fun _ _=>aK _ _ _) func260 rfl (by kernel_rfl) (by kernel_rfl)
theorem aaE:dc P 260 [aS ⟨#[111,104,50,97,98,99]⟩] (gD.out [.l [[.s ⟨#[111,104,50,97,98,99]⟩,.s ⟨#[111,104,50]⟩,.s ⟨#[97,98,99]⟩,.i 0,.s ⟨#[]⟩]],.t true]):=eh (L:=az) hm jU [] (fun _ _=>aK _ _ _) func260 rfl (by kernel_rfl) (by kernel_rfl)
theorem aaF:dc P 260 [aS ⟨#[111,104,50,97,98,100]⟩] (gD.out [.l [[.s ⟨#[111,104,50,97,98,100]⟩,.s ⟨#[111,104,50]⟩,.s ⟨#[97,98,100]⟩,.i 0,.s ⟨#[]⟩]],.t true]):=eh (L:=az) hm jU [] (fun _ _=>aK _ _ _) func260 rfl (by kernel_rfl) (by kernel_rfl)
theorem aaG:dc P 260 [aS ⟨#[119,49,97,119]⟩] (gD.out [.l [[.s ⟨#[119,49,97,119]⟩,.s ⟨#[119,49]⟩,.s ⟨#[97,119]⟩,.i 0,.s ⟨#[]⟩]],.t true]):=eh (L:=az) hm jU [] (fun _ _=>aK _ _ _) func260 rfl (by kernel_rfl) (by kernel_rfl)
theorem aaH:dc P 260 [aS ⟨#[110,49,109,109]⟩] (gD.out [.l [[.s ⟨#[110,49,109,109]⟩,.s ⟨#[110,49]⟩,.s ⟨#[109,109]⟩,.i 0,.s ⟨#[]⟩]],.t true]):=eh (L:=az) hm jU [] (fun _ _=>aK _ _ _) func260 rfl (by kernel_rfl) (by kernel_rfl)
theorem aaI:dc P 260 [aS ⟨#[103,51,120,121,122,47,112]⟩] (gD.out [.l [[.s ⟨#[103,51,120,121,122]⟩,.s ⟨#[103,51]⟩,.s ⟨#[120,121,122]⟩,.i 3,.s ⟨#[]⟩]],.t true]):=eh (L:=az) hm jU [] (fun _ _=>aK _ _ _) func260 rfl (by kernel_rfl) (by kernel_rfl)
theorem aaJ:∀ d r,GY d=some r→cz P 260 (gD.args0 d) (ai (gD.H0 d)) (gD.out r) (ai (gD.H1 r)):=fun d r h=>by
 have h:=GX h;have key:dc P 260 [aS (gi d 0).str] (gD.out r):=by
  generalize (gi d 0).str=s at h;simp only[O9,bC,jD,or_false,be]at h;rcases h with⟨rfl,rfl⟩|⟨rfl,rfl⟩|⟨rfl,rfl⟩|⟨rfl,rfl⟩|⟨rfl,rfl⟩|⟨rfl,rfl⟩|⟨rfl,rfl⟩|⟨rfl,rfl⟩|⟨rfl,rfl⟩|⟨rfl,rfl⟩|⟨rfl,rfl⟩|⟨rfl,rfl⟩|⟨rfl,rfl⟩|⟨rfl,rfl⟩
  ·exact aav
  ·exact aaw
  ·exact aax
  ·exact aay
  ·exact aaz
  ·exact aaA
  ·exact aaB
  ·exact aaC
  ·exact aaD
  ·exact aaE
  ·exact aaF
  ·exact aaG
  ·exact aaH
  ·exact aaI
 exact key []
def t6:ah:=t5.bz gD
theorem O_:aj P t6:=OM.aP aaJ
def O':ah:=t6.inline P 255 f255 []
theorem aaK:aj P O':=O_.inline hm func255 (by kernel_rfl) []
def Pa:ah:=O'.inline P 261 f261 []
theorem aaL:aj P Pa:=aaK.inline hm func261 (by kernel_rfl) []
def Pb:ah:=Pa.inline P 256 f256 []
theorem aaM:aj P Pb:=aaL.inline hm func256 (by kernel_rfl) []
def Pc:ah:=Pb.inline P 243 f243 []
theorem aaN:aj P Pc:=aaM.inline hm func243 (by kernel_rfl) []
def Pd:ah:=Pc.inline P 223 f223 []
theorem aaO:aj P Pd:=aaN.inline hm func223 (by kernel_rfl) []
def Pe:ah:=Pd.inline P 197 f197 []
theorem aaP:aj P Pe:=aaO.inline hm func197 (by kernel_rfl) []
def Pf:ah:=Pe.inline P 235 f235 []
theorem aaQ:aj P Pf:=aaP.inline hm func235 (by kernel_rfl) []
def Pg:ah:=Pf.inline P 257 f257 []
theorem aaR:aj P Pg:=aaQ.inline hm func257 (by kernel_rfl) []
def Ph:ah:=Pg.inline P 244 f244 []
theorem aaS:aj P Ph:=aaR.inline hm func244 (by kernel_rfl) []
def Pj:ah:=Ph.inline P 245 f245 []
theorem aaT:aj P Pj:=aaS.inline hm func245 (by kernel_rfl) []
def Pk:ah:=Pj.inline P 246 f246 []
theorem aaU:aj P Pk:=aaT.inline hm func246 (by kernel_rfl) []
def Pl:ah:=Pk.inline P 259 f259 []
theorem aaV:aj P Pl:=aaU.inline hm func259 (by kernel_rfl) []
def Pm:ah:=Pl.inline P 249 f249 []
theorem aaW:aj P Pm:=aaV.inline hm func249 (by kernel_rfl) []
def Pn:ah:=Pm.inline P 258 f258 []
theorem aaX:aj P Pn:=aaW.inline hm func258 (by kernel_rfl) []
def Po:ah:=Pn.inline P 247 f247 []
theorem aaY:aj P Po:=aaX.inline hm func247 (by kernel_rfl) []
def Pp:ah:=Po.inline P 224 f224 []
theorem aaZ:aj P Pp:=aaY.inline hm func224 (by kernel_rfl) []
def Pq:ah:=Pp.inline P 226 f226 []
theorem aa0:aj P Pq:=aaZ.inline hm func226 (by kernel_rfl) []
def Pr:ah:=Pq.inline P 248 f248 []
theorem aa1:aj P Pr:=aa0.inline hm func248 (by kernel_rfl) []
def Pt:ah:=Pr.inline P 227 f227 []
theorem aa2:aj P Pt:=aa1.inline hm func227 (by kernel_rfl) []
def Pu:ah:=Pt.inline P 225 f225 []
theorem aa3:aj P Pu:=aa2.inline hm func225 (by kernel_rfl) []
def Pv:ah:=Pu.inline P 199 f199 []
theorem aa4:aj P Pv:=aa3.inline hm func199 (by kernel_rfl) []
def Pw:ah:=Pv.inline P 198 f198 []
theorem aa5:aj P Pw:=aa4.inline hm func198 (by kernel_rfl) []
def Px:ah:=Pw.inline P 200 f200 []
theorem aa6:aj P Px:=aa5.inline hm func200 (by kernel_rfl) []
def Py:ah:=Px.inline P 228 f228 []
theorem aa7:aj P Py:=aa6.inline hm func228 (by kernel_rfl) []
def aa8:ah:=Py.inline P 201 f201 []
theorem jV:aj P aa8:=aa7.inline hm func201 (by kernel_rfl) []
def Pz:List (ByteArray × List G):=[(⟨#[]⟩,[.l [[.s ⟨#[]⟩,.s ⟨#[]⟩,.s ⟨#[]⟩,.i 0,.s ⟨#[]⟩]],.t false]),(⟨#[107,49]⟩,[.l [[.s ⟨#[]⟩,.s ⟨#[]⟩,.s ⟨#[]⟩,.i 0,.s ⟨#[]⟩]],.t false]),(⟨#[75,49,65,66]⟩,[.l [[.s ⟨#[]⟩,.s ⟨#[]⟩,.s ⟨#[]⟩,.i 0,.s ⟨#[]⟩]],.t false]),(⟨#[107,49,97,98,47]⟩,[.l [[.s ⟨#[]⟩,.s ⟨#[]⟩,.s ⟨#[]⟩,.i 0,.s ⟨#[]⟩]],.t false]),(⟨#[49,97]⟩,[.l [[.s ⟨#[]⟩,.s ⟨#[]⟩,.s ⟨#[]⟩,.i 0,.s ⟨#[]⟩]],.t false]),(⟨#[107,49,97,98,47,109,109,47,112]⟩,[.l [[.s ⟨#[]⟩,.s ⟨#[]⟩,.s ⟨#[]⟩,.i 0,.s ⟨#[]⟩]],.t false]),(⟨#[107,49,97,98]⟩,[.l [[.s ⟨#[107,49,97,98]⟩,.s ⟨#[107,49]⟩,.s ⟨#[97,98]⟩,.i 0,.s ⟨#[]⟩]],.t true]),(⟨#[107,49,97,97]⟩,[.l [[.s ⟨#[107,49,97,97]⟩,.s ⟨#[107,49]⟩,.s ⟨#[97,97]⟩,.i 0,.s ⟨#[]⟩]],.t true]),(⟨#[107,49,97,98,47,52]⟩,[.l [[.s ⟨#[107,49,97,98]⟩,.s ⟨#[107,49]⟩,.s ⟨#[97,98]⟩,.i 2,.s ⟨#[52]⟩]],.t true]),(⟨#[111,104,50,97,98,99]⟩,[.l [[.s ⟨#[111,104,50,97,98,99]⟩,.s ⟨#[111,104,50]⟩,.s ⟨#[97,98,99]⟩,.i 0,.s ⟨#[]⟩]],.t true]),(⟨#[111,104,50,97,98,100]⟩,[.l [[.s ⟨#[111,104,50,97,98,100]⟩,.s ⟨#[111,104,50]⟩,.s ⟨#[97,98,100]⟩,.i 0,.s ⟨#[]⟩]],.t true]),(⟨#[119,49,97,119]⟩,[.l [[.s ⟨#[119,49,97,119]⟩,.s ⟨#[119,49]⟩,.s ⟨#[97,119]⟩,.i 0,.s ⟨#[]⟩]],.t true]),(⟨#[110,49,109,109]⟩,[.l [[.s ⟨#[110,49,109,109]⟩,.s ⟨#[110,49]⟩,.s ⟨#[109,109]⟩,.i 0,.s ⟨#[]⟩]],.t true]),(⟨#[103,51,120,121,122,47,112]⟩,[.l [[.s ⟨#[103,51,120,121,122]⟩,.s ⟨#[103,51]⟩,.s ⟨#[120,121,122]⟩,.i 3,.s ⟨#[]⟩]],.t true])]
def GZ(d:List G):Option (List G):=xX Pz (gi d 0).str
def gE:aA:=⟨143,[.s (.str)],[],[],[.s (.row OK),.s (.bool)],[],[],[],GZ⟩
theorem aa9:dc P 143 [aS ⟨#[]⟩] (gE.out [.l [[.s ⟨#[]⟩,.s ⟨#[]⟩,.s ⟨#[]⟩,.i 0,.s ⟨#[]⟩]],.t false]):=eh (L:=az) hm jV [] (fun _ _=>aK _ _ _) func143 rfl (by kernel_rfl) (by kernel_rfl)
theorem aa_:dc P 143 [aS ⟨#[107,49]⟩] (gE.out [.l [[.s ⟨#[]⟩,.s ⟨#[]⟩,.s ⟨#[]⟩,.i 0,.s ⟨#[]⟩]],.t false]):=eh (L:=az) hm jV [] (fun _ _=>aK _ _ _) func143 rfl (by kernel_rfl) (by kernel_rfl)
theorem aa':dc P 143 [aS ⟨#[75,49,65,66]⟩] (gE.out [.l [[.s ⟨#[]⟩,.s ⟨#[]⟩,.s ⟨#[]⟩,.i 0,.s ⟨#[]⟩]],.t false]):=eh (L:=az) hm jV [] (fun _ _=>aK _ _ _) func143 rfl (by kernel_rfl) (by kernel_rfl)
theorem aba:dc P 143 [aS ⟨#[107,49,97,98,47]⟩] (gE.out [.l [[.s ⟨#[]⟩,.s ⟨#[]⟩,.s ⟨#[]⟩,.i 0,.s ⟨#[]⟩]],.t false]):=eh (L:=az) hm jV [] (fun _ _=>aK _ _ _) func143 rfl (by kernel_rfl) (by kernel_rfl)
theorem abb:dc P 143 [aS ⟨#[49,97]⟩] (gE.out [.l [[.s ⟨#[]⟩,.s ⟨#[]⟩,.s ⟨#[]⟩,.i 0,.s ⟨#[]⟩]],.t false]):=eh (L:=az) hm jV [] (fun _ _=>aK _ _ _) func143 rfl (by kernel_rfl) (by kernel_rfl)
theorem abc:dc P 143 [aS ⟨#[107,49,97,98,47,109,109,47,112]⟩] (gE.out [.l [[.s ⟨#[]⟩,.s ⟨#[]⟩,.s ⟨#[]⟩,.i 0,.s ⟨#[]⟩]],.t false]):=eh (L:=az) hm jV [] (fun _ _=>aK _ _ _) func143 rfl (by kernel_rfl) (by kernel_rfl)
theorem abd:dc P 143 [aS ⟨#[107,49,97,98]⟩] (gE.out [.l [[.s ⟨#[107,49,97,98]⟩,.s ⟨#[107,49]⟩,.s ⟨#[97,98]⟩,.i 0,.s ⟨#[]⟩]],.t true]):=eh (L:=az) hm jV [] (fun _ _=>aK _ _ _) func143 rfl (by kernel_rfl) (by kernel_rfl)
theorem abe:dc P 143 [aS ⟨#[107,49,97,97]⟩] (gE.out [.l [[.s ⟨#[107,49,97,97]⟩,.s ⟨#[107,49]⟩,.s ⟨#[97,97]⟩,.i 0,.s ⟨#[]⟩]],.t true]):=eh (L:=az) hm jV [] (fun _ _=>aK _ _ _) func143 rfl (by kernel_rfl) (by kernel_rfl)
theorem abf:dc P 143 [aS ⟨#[107,49,97,98,47,52]⟩] (gE.out [.l [[.s ⟨#[107,49,97,98]⟩,.s ⟨#[107,49]⟩,.s ⟨#[97,98]⟩,.i 2,.s ⟨#[52]⟩]],.t true]):=eh (L:=az) hm jV [] (fun _ _=>aK _ _ _) func143 rfl (by kernel_rfl) (by kernel_rfl)
theorem abg:dc P 143 [aS ⟨#[111,104,50,97,98,99]⟩] (gE.out [.l [[.s ⟨#[111,104,50,97,98,99]⟩,.s ⟨#[111,104,50]⟩,.s ⟨#[97,98,99]⟩,.i 0,.s ⟨#[]⟩]],.t true]):=eh (L:=az) hm jV [] (fun _ _=>aK _ _ _) func143 rfl (by kernel_rfl) (by kernel_rfl)
theorem abh:dc P 143 [aS ⟨#[111,104,50,97,98,100]⟩] (gE.out [.l [[.s ⟨#[111,104,50,97,98,100]⟩,.s ⟨#[111,104,50]⟩,.s ⟨#[97,98,100]⟩,.i 0,.s ⟨#[]⟩]],.t true]):=eh (L:=az) hm jV [] (fun _ _=>aK _ _ _) func143 rfl (by kernel_rfl) (by kernel_rfl)
theorem abi:dc P 143 [aS ⟨#[119,49,97,119]⟩] (gE.out [.l [[.s ⟨#[119,49,97,119]⟩,.s ⟨#[119,49]⟩,.s ⟨#[97,119]⟩,.i 0,.s ⟨#[]⟩]],.t true]):=eh (L:=az) hm jV [] (fun _ _=>aK _ _ _) func143 rfl (by kernel_rfl) (by kernel_rfl)
theorem abj:dc P 143 [aS ⟨#[110,49,109,109]⟩] (gE.out [.l [[.s ⟨#[110,49,109,109]⟩,.s ⟨#[110,49]⟩,.s ⟨#[109,109]⟩,.i 0,.s ⟨#[]⟩]],.t true]):=eh (L:=az) hm jV [] (fun _ _=>aK _ _ _) func143 rfl (by kernel_rfl) (by kernel_rfl)
theorem abk:dc P 143 [aS ⟨#[103,51,120,121,122,47,112]⟩] (gE.out [.l [[.s ⟨#[103,51,120,121,122]⟩,.s ⟨#[103,51]⟩,.s ⟨#[120,121,122]⟩,.i 3,.s ⟨#[]⟩]],.t true]):=eh (L:=az) hm jV [] (fun _ _=>aK _ _ _) func143 rfl (by kernel_rfl) (by kernel_rfl)
theorem abl:∀ d r,GZ d=some r→cz P 143 (gE.args0 d) (ai (gE.H0 d)) (gE.out r) (ai (gE.H1 r)):=fun d r h=>by
 have h:=GX h;have key:dc P 143 [aS (gi d 0).str] (gE.out r):=by
  generalize (gi d 0).str=s at h;simp only[Pz,bC,jD,or_false,be]at h;rcases h with⟨rfl,rfl⟩|⟨rfl,rfl⟩|⟨rfl,rfl⟩|⟨rfl,rfl⟩|⟨rfl,rfl⟩|⟨rfl,rfl⟩|⟨rfl,rfl⟩|⟨rfl,rfl⟩|⟨rfl,rfl⟩|⟨rfl,rfl⟩|⟨rfl,rfl⟩|⟨rfl,rfl⟩|⟨rfl,rfl⟩|⟨rfl,rfl⟩
  ·exact aa9
  ·exact aa_
  ·exact aa'
  ·exact aba
  ·exact abb
  ·exact abc
  ·exact abd
  ·exact abe
  ·exact abf
  ·exact abg
  ·exact abh
  ·exact abi
  ·exact abj
  ·exact abk
 exact key []
def t7:ah:=t6.bz gE
theorem G0:aj P t7:=O_.aP abl
end
end Go.Proofs.gT
