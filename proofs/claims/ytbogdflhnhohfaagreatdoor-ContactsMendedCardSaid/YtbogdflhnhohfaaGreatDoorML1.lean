/-
 What is proved here: functions of the program as functions on data. No condition.
-/
import Derived.Test.YtbogdflhnhohfaaGreatDoorML0
set_option linter.all false
open List renaming mem_cons->cq,not_mem_nil->qQ
open Prod.mk renaming injEq->bo
namespace Go.Proofs.iQ
open Go Go.AL Go.Proofs Tryz
noncomputable section
def PN:aD:=t5.inline P 180 f180 []
def aa':aI P PN:=PM.inline hm func180 (by kernel_rfl) []
def PO:aD:=PN.inline P 198 f198 []
def aba:aI P PO:=aa'.inline hm func198 (by kernel_rfl) []
def PQ:aD:=PO.inline P 181 f181 []
def abb:aI P PQ:=aba.inline hm func181 (by kernel_rfl) []
def PR:aD:=PQ.inline P 151 f151 []
def abc:aI P PR:=abb.inline hm func151 (by kernel_rfl) []
def PS:aD:=PR.inline P 127 f127 []
def abd:aI P PS:=abc.inline hm func127 (by kernel_rfl) []
def PT:aD:=PS.inline P 106 f106 []
def abe:aI P PT:=abd.inline hm func106 (by kernel_rfl) []
def PU:aD:=PT.inline P 182 f182 []
def abf:aI P PU:=abe.inline hm func182 (by kernel_rfl) []
def PV:aD:=PU.inline P 152 f152 []
def abg:aI P PV:=abf.inline hm func152 (by kernel_rfl) []
def PW:aD:=PV.inline P 153 f153 []
def abh:aI P PW:=abg.inline hm func153 (by kernel_rfl) []
def PX:aD:=PW.inline P 154 f154 []
def abi:aI P PX:=abh.inline hm func154 (by kernel_rfl) []
def PY:aD:=PX.inline P 155 f155 []
def abj:aI P PY:=abi.inline hm func155 (by kernel_rfl) []
def PZ:aD:=PY.inline P 183 f183 []
def abk:aI P PZ:=abj.inline hm func183 (by kernel_rfl) []
def P0:aD:=PZ.inline P 199 f199 []
def abl:aI P P0:=abk.inline hm func199 (by kernel_rfl) []
def P1:aD:=P0.inline P 184 f184 []
def abm:aI P P1:=abl.inline hm func184 (by kernel_rfl) []
def P2:aD:=P1.inline P 156 f156 []
def abn:aI P P2:=abm.inline hm func156 (by kernel_rfl) []
def P3:aD:=P2.inline P 128 f128 []
def abo:aI P P3:=abn.inline hm func128 (by kernel_rfl) []
def P4:aD:=P3.inline P 174 f174 []
def abp:aI P P4:=abo.inline hm func174 (by kernel_rfl) []
def P5:aD:=P4.inline P 196 f196 []
def abq:aI P P5:=abp.inline hm func196 (by kernel_rfl) []
def P6:aD:=P5.inline P 173 f173 []
def abr:aI P P6:=abq.inline hm func173 (by kernel_rfl) []
def P7:aD:=P6.inline P 172 f172 []
def abt:aI P P7:=abr.inline hm func172 (by kernel_rfl) []
def P8:aD:=P7.inline P 139 f139 []
def abu:aI P P8:=abt.inline hm func139 (by kernel_rfl) []
def P9:aD:=P8.inline P 140 f140 []
def abv:aI P P9:=abu.inline hm func140 (by kernel_rfl) []
def abw:aD:=P9.inline P 141 f141 []
def lq:aI P abw:=abv.inline hm func141 (by kernel_rfl) []
def P_:List (BY × LG):=[(⟨#[]⟩,[.l [[.s ⟨#[]⟩,.s ⟨#[]⟩,.s ⟨#[]⟩,.i 0,.s ⟨#[]⟩]],.t false]),(⟨#[107,49]⟩,[.l [[.s ⟨#[]⟩,.s ⟨#[]⟩,.s ⟨#[]⟩,.i 0,.s ⟨#[]⟩]],.t false]),(⟨#[75,49,65,66]⟩,[.l [[.s ⟨#[]⟩,.s ⟨#[]⟩,.s ⟨#[]⟩,.i 0,.s ⟨#[]⟩]],.t false]),(⟨#[107,49,97,98,47]⟩,[.l [[.s ⟨#[]⟩,.s ⟨#[]⟩,.s ⟨#[]⟩,.i 0,.s ⟨#[]⟩]],.t false]),(⟨#[49,97]⟩,[.l [[.s ⟨#[]⟩,.s ⟨#[]⟩,.s ⟨#[]⟩,.i 0,.s ⟨#[]⟩]],.t false]),(⟨#[107,49,97,98,47,109,109,47,112]⟩,[.l [[.s ⟨#[]⟩,.s ⟨#[]⟩,.s ⟨#[]⟩,.i 0,.s ⟨#[]⟩]],.t false]),(⟨#[107,49,97,98]⟩,[.l [[.s ⟨#[107,49,97,98]⟩,.s ⟨#[107,49]⟩,.s ⟨#[97,98]⟩,.i 0,.s ⟨#[]⟩]],.t true]),(⟨#[107,49,97,97]⟩,[.l [[.s ⟨#[107,49,97,97]⟩,.s ⟨#[107,49]⟩,.s ⟨#[97,97]⟩,.i 0,.s ⟨#[]⟩]],.t true]),(⟨#[107,49,97,98,47,52]⟩,[.l [[.s ⟨#[107,49,97,98]⟩,.s ⟨#[107,49]⟩,.s ⟨#[97,98]⟩,.i 2,.s ⟨#[52]⟩]],.t true]),(⟨#[111,104,50,97,98,99]⟩,[.l [[.s ⟨#[111,104,50,97,98,99]⟩,.s ⟨#[111,104,50]⟩,.s ⟨#[97,98,99]⟩,.i 0,.s ⟨#[]⟩]],.t true]),(⟨#[111,104,50,97,98,100]⟩,[.l [[.s ⟨#[111,104,50,97,98,100]⟩,.s ⟨#[111,104,50]⟩,.s ⟨#[97,98,100]⟩,.i 0,.s ⟨#[]⟩]],.t true]),(⟨#[119,49,97,119]⟩,[.l [[.s ⟨#[119,49,97,119]⟩,.s ⟨#[119,49]⟩,.s ⟨#[97,119]⟩,.i 0,.s ⟨#[]⟩]],.t true]),(⟨#[110,49,109,109]⟩,[.l [[.s ⟨#[110,49,109,109]⟩,.s ⟨#[110,49]⟩,.s ⟨#[109,109]⟩,.i 0,.s ⟨#[]⟩]],.t true]),(⟨#[103,51,120,121,122,47,112]⟩,[.l [[.s ⟨#[103,51,120,121,122]⟩,.s ⟨#[103,51]⟩,.s ⟨#[120,121,122]⟩,.i 3,.s ⟨#[]⟩]],.t true]),(⟨#[119,49,97,120]⟩,[.l [[.s ⟨#[119,49,97,120]⟩,.s ⟨#[119,49]⟩,.s ⟨#[97,120]⟩,.i 0,.s ⟨#[]⟩]],.t true])]
def I5(d:LG):Option LG:=Aw P_ (gi d 0).sV
def jS:aL:=⟨117,[bR],[],[],[.s (.row PE),cN],[],[],[],I5⟩
def abx:dP P 117 [aS ⟨#[]⟩] (jS.out [.l [[.s ⟨#[]⟩,.s ⟨#[]⟩,.s ⟨#[]⟩,.i 0,.s ⟨#[]⟩]],.t false]):=fk (L:=bH) hm lq [] (fun _ _=>bI _ _ _) func117 rfl (by kernel_rfl) (by kernel_rfl)
def aby:dP P 117 [aS ⟨#[107,49]⟩] (jS.out [.l [[.s ⟨#[]⟩,.s ⟨#[]⟩,.s ⟨#[]⟩,.i 0,.s ⟨#[]⟩]],.t false]):=fk (L:=bH) hm lq [] (fun _ _=>bI _ _ _) func117 rfl (by kernel_rfl) (by kernel_rfl)
def abz:dP P 117 [aS ⟨#[75,49,65,66]⟩] (jS.out [.l [[.s ⟨#[]⟩,.s ⟨#[]⟩,.s ⟨#[]⟩,.i 0,.s ⟨#[]⟩]],.t false]):=fk (L:=bH) hm lq [] (fun _ _=>bI _ _ _) func117 rfl (by kernel_rfl) (by kernel_rfl)
def abA:dP P 117 [aS ⟨#[107,49,97,98,47]⟩] (jS.out [.l [[.s ⟨#[]⟩,.s ⟨#[]⟩,.s ⟨#[]⟩,.i 0,.s ⟨#[]⟩]],.t false]):=fk (L:=bH) hm lq [] (fun _ _=>bI _ _ _) func117 rfl (by kernel_rfl) (by kernel_rfl)
def abB:dP P 117 [aS ⟨#[49,97]⟩] (jS.out [.l [[.s ⟨#[]⟩,.s ⟨#[]⟩,.s ⟨#[]⟩,.i 0,.s ⟨#[]⟩]],.t false]):=fk (L:=bH) hm lq [] (fun _ _=>bI _ _ _) func117 rfl (by kernel_rfl) (by kernel_rfl)
def abC:dP P 117 [aS ⟨#[107,49,97,98,47,109,109,47,112]⟩] (jS.out [.l [[.s ⟨#[]⟩,.s ⟨#[]⟩,.s ⟨#[]⟩,.i 0,.s ⟨#[]⟩]],.t false]):=fk (L:=bH) hm lq [] (fun _ _=>bI _ _ _) func117 rfl (by kernel_rfl) (by kernel_rfl)
def abD:dP P 117 [aS ⟨#[107,49,97,98]⟩] (jS.out [.l [[.s ⟨#[107,49,97,98]⟩,.s ⟨#[107,49]⟩,.s ⟨#[97,98]⟩,.i 0,.s ⟨#[]⟩]],.t true]):=fk (L:=bH) hm lq [] (fun _ _=>bI _ _ _) func117 rfl (by kernel_rfl) (by kernel_rfl)
def abE:dP P 117 [aS ⟨#[107,49,97,97]⟩] (jS.out [.l [[.s ⟨#[107,49,97,97]⟩,.s ⟨#[107,49]⟩,.s ⟨#[97,97]⟩,.i 0,.s ⟨#[]⟩]],.t true]):=fk (L:=bH) hm lq [] (fun _ _=>bI _ _ _) func117 rfl (by kernel_rfl) (by kernel_rfl)
def abF:dP P 117 [aS ⟨#[107,49,97,98,47,52]⟩] (jS.out [.l [[.s ⟨#[107,49,97,98]⟩,.s ⟨#[107,49]⟩,.s ⟨#[97,98]⟩,.i 2,.s ⟨#[52]⟩]],.t true]):=fk (L:=bH) hm lq [] (fun _ _=>bI _ _ _) func117 rfl (by kernel_rfl) (by kernel_rfl)
def abG:dP P 117 [aS ⟨#[111,104,50,97,98,99]⟩] (jS.out [.l [[.s ⟨#[111,104,50,97,98,99]⟩,.s ⟨#[111,104,50]⟩,.s ⟨#[97,98,99]⟩,.i 0,.s ⟨#[]⟩]],.t true]):=fk (L:=bH) hm lq [] (fun _ _=>bI _ _ _) func117 rfl (by kernel_rfl) (by kernel_rfl)
def abH:dP P 117 [aS ⟨#[111,104,50,97,98,100]⟩] (jS.out [.l [[.s ⟨#[111,104,50,97,98,100]⟩,.s ⟨#[111,104,50]⟩,.s ⟨#[97,98,100]⟩,.i 0,.s ⟨#[]⟩]],.t true]):=fk (L:=bH) hm lq [] (fun _ _=>bI _ _ _) func117 rfl (by kernel_rfl) (by kernel_rfl)
def abI:dP P 117 [aS ⟨#[119,49,97,119]⟩] (jS.out [.l [[.s ⟨#[119,49,97,119]⟩,.s ⟨#[119,49]⟩,.s ⟨#[97,119]⟩,.i 0,.s ⟨#[]⟩]],.t true]):=fk (L:=bH) hm lq [] (fun _ _=>bI _ _ _) func117 rfl (by kernel_rfl) (by kernel_rfl)
def abJ:dP P 117 [aS ⟨#[110,49,109,109]⟩] (jS.out [.l [[.s ⟨#[110,49,109,109]⟩,.s ⟨#[110,49]⟩,.s ⟨#[109,109]⟩,.i 0,.s ⟨#[]⟩]],.t true]):=fk (L:=bH) hm lq [] (fun _ _=>bI _ _ _) func117 rfl (by kernel_rfl) (by kernel_rfl)
def abK:dP P 117 [aS ⟨#[103,51,120,121,122,47,112]⟩] (jS.out [.l [[.s ⟨#[103,51,120,121,122]⟩,.s ⟨#[103,51]⟩,.s ⟨#[120,121,122]⟩,.i 3,.s ⟨#[]⟩]],.t true]):=fk (L:=bH) hm lq [] (fun _ _=>bI _ _ _) func117 rfl (by kernel_rfl) (by kernel_rfl)
def abL:dP P 117 [aS ⟨#[119,49,97,120]⟩] (jS.out [.l [[.s ⟨#[119,49,97,120]⟩,.s ⟨#[119,49]⟩,.s ⟨#[97,120]⟩,.i 0,.s ⟨#[]⟩]],.t true]):=fk (L:=bH) hm lq [] (fun _ _=>bI _ _ _) func117 rfl (by kernel_rfl) (by kernel_rfl)
def abM:iO P jS:=fun d r (h:I5 d=some r)=>by
 have h:=I4 h;have key:dP P 117 [aS (gi d 0).sV] (jS.out r):=by
  generalize (gi d 0).sV=s at h;simp only[P_,cq,qQ,or_false,bo]at h;rcases h with⟨rfl,rfl⟩|⟨rfl,rfl⟩|⟨rfl,rfl⟩|⟨rfl,rfl⟩|⟨rfl,rfl⟩|⟨rfl,rfl⟩|⟨rfl,rfl⟩|⟨rfl,rfl⟩|⟨rfl,rfl⟩|⟨rfl,rfl⟩|⟨rfl,rfl⟩|⟨rfl,rfl⟩|⟨rfl,rfl⟩|⟨rfl,rfl⟩|⟨rfl,rfl⟩
  ·exact abx
  ·exact aby
  ·exact abz
  ·exact abA
  ·exact abB
  ·exact abC
  ·exact abD
  ·exact abE
  ·exact abF
  ·exact abG
  ·exact abH
  ·exact abI
  ·exact abJ
  ·exact abK
  ·exact abL
 exact key []
def t6:aD:=t5.bk jS
def P':aI P t6:=PM.aP abM
def Qa:aD:=t6.inline P 180 f180 []
def abN:aI P Qa:=P'.inline hm func180 (by kernel_rfl) []
def Qb:aD:=Qa.inline P 198 f198 []
def abO:aI P Qb:=abN.inline hm func198 (by kernel_rfl) []
def Qc:aD:=Qb.inline P 181 f181 []
def abP:aI P Qc:=abO.inline hm func181 (by kernel_rfl) []
def Qd:aD:=Qc.inline P 151 f151 []
def abQ:aI P Qd:=abP.inline hm func151 (by kernel_rfl) []
def Qe:aD:=Qd.inline P 127 f127 []
def abR:aI P Qe:=abQ.inline hm func127 (by kernel_rfl) []
def Qf:aD:=Qe.inline P 106 f106 []
def abS:aI P Qf:=abR.inline hm func106 (by kernel_rfl) []
def Qg:aD:=Qf.inline P 182 f182 []
def abT:aI P Qg:=abS.inline hm func182 (by kernel_rfl) []
def Qh:aD:=Qg.inline P 152 f152 []
def abU:aI P Qh:=abT.inline hm func152 (by kernel_rfl) []
def Qi:aD:=Qh.inline P 153 f153 []
def abV:aI P Qi:=abU.inline hm func153 (by kernel_rfl) []
def Qj:aD:=Qi.inline P 154 f154 []
def abW:aI P Qj:=abV.inline hm func154 (by kernel_rfl) []
def Qk:aD:=Qj.inline P 155 f155 []
def abX:aI P Qk:=abW.inline hm func155 (by kernel_rfl) []
def Ql:aD:=Qk.inline P 183 f183 []
def abY:aI P Ql:=abX.inline hm func183 (by kernel_rfl) []
def Qm:aD:=Ql.inline P 199 f199 []
def abZ:aI P Qm:=abY.inline hm func199 (by kernel_rfl) []
def Qn:aD:=Qm.inline P 184 f184 []
def ab0:aI P Qn:=abZ.inline hm func184 (by kernel_rfl) []
def Qo:aD:=Qn.inline P 156 f156 []
def ab1:aI P Qo:=ab0.inline hm func156 (by kernel_rfl) []
def Qp:aD:=Qo.inline P 128 f128 []
def ab2:aI P Qp:=ab1.inline hm func128 (by kernel_rfl) []
def Qq:aD:=Qp.inline P 130 f130 []
def ab3:aI P Qq:=ab2.inline hm func130 (by kernel_rfl) []
def Qr:aD:=Qq.inline P 158 f158 []
def ab4:aI P Qr:=ab3.inline hm func158 (by kernel_rfl) []
def Qs:aD:=Qr.inline P 131 f131 []
def ab5:aI P Qs:=ab4.inline hm func131 (by kernel_rfl) []
def Qt:aD:=Qs.inline P 129 f129 []
def ab6:aI P Qt:=ab5.inline hm func129 (by kernel_rfl) []
def Qu:aD:=Qt.inline P 108 f108 []
def ab7:aI P Qu:=ab6.inline hm func108 (by kernel_rfl) []
def Qv:aD:=Qu.inline P 107 f107 []
def ab8:aI P Qv:=ab7.inline hm func107 (by kernel_rfl) []
def Qw:aD:=Qv.inline P 109 f109 []
def ab9:aI P Qw:=ab8.inline hm func109 (by kernel_rfl) []
def Qx:aD:=Qw.inline P 132 f132 []
def ab_:aI P Qx:=ab9.inline hm func132 (by kernel_rfl) []
def ab':aD:=Qx.inline P 110 f110 []
def lr:aI P ab':=ab_.inline hm func110 (by kernel_rfl) []
def Qy:List (BY × LG):=[(⟨#[]⟩,[.l [[.s ⟨#[]⟩,.s ⟨#[]⟩,.s ⟨#[]⟩,.i 0,.s ⟨#[]⟩]],.t false]),(⟨#[107,49]⟩,[.l [[.s ⟨#[]⟩,.s ⟨#[]⟩,.s ⟨#[]⟩,.i 0,.s ⟨#[]⟩]],.t false]),(⟨#[75,49,65,66]⟩,[.l [[.s ⟨#[]⟩,.s ⟨#[]⟩,.s ⟨#[]⟩,.i 0,.s ⟨#[]⟩]],.t false]),(⟨#[107,49,97,98,47]⟩,[.l [[.s ⟨#[]⟩,.s ⟨#[]⟩,.s ⟨#[]⟩,.i 0,.s ⟨#[]⟩]],.t false]),(⟨#[49,97]⟩,[.l [[.s ⟨#[]⟩,.s ⟨#[]⟩,.s ⟨#[]⟩,.i 0,.s ⟨#[]⟩]],.t false]),(⟨#[107,49,97,98,47,109,109,47,112]⟩,[.l [[.s ⟨#[]⟩,.s ⟨#[]⟩,.s ⟨#[]⟩,.i 0,.s ⟨#[]⟩]],.t false]),(⟨#[107,49,97,98]⟩,[.l [[.s ⟨#[107,49,97,98]⟩,.s ⟨#[107,49]⟩,.s ⟨#[97,98]⟩,.i 0,.s ⟨#[]⟩]],.t true]),(⟨#[107,49,97,97]⟩,[.l [[.s ⟨#[107,49,97,97]⟩,.s ⟨#[107,49]⟩,.s ⟨#[97,97]⟩,.i 0,.s ⟨#[]⟩]],.t true]),(⟨#[107,49,97,98,47,52]⟩,[.l [[.s ⟨#[107,49,97,98]⟩,.s ⟨#[107,49]⟩,.s ⟨#[97,98]⟩,.i 2,.s ⟨#[52]⟩]],.t true]),(⟨#[111,104,50,97,98,99]⟩,[.l [[.s ⟨#[111,104,50,97,98,99]⟩,.s ⟨#[111,104,50]⟩,.s ⟨#[97,98,99]⟩,.i 0,.s ⟨#[]⟩]],.t true]),(⟨#[111,104,50,97,98,100]⟩,[.l [[.s ⟨#[111,104,50,97,98,100]⟩,.s ⟨#[111,104,50]⟩,.s ⟨#[97,98,100]⟩,.i 0,.s ⟨#[]⟩]],.t true]),(⟨#[119,49,97,119]⟩,[.l [[.s ⟨#[119,49,97,119]⟩,.s ⟨#[119,49]⟩,.s ⟨#[97,119]⟩,.i 0,.s ⟨#[]⟩]],.t true]),(⟨#[110,49,109,109]⟩,[.l [[.s ⟨#[110,49,109,109]⟩,.s ⟨#[110,49]⟩,.s ⟨#[109,109]⟩,.i 0,.s ⟨#[]⟩]],.t true]),(⟨#[103,51,120,121,122,47,112]⟩,[.l [[.s ⟨#[103,51,120,121,122]⟩,.s ⟨#[103,51]⟩,.s ⟨#[120,121,122]⟩,.i 3,.s ⟨#[]⟩]],.t true]),(⟨#[119,49,97,120]⟩,[.l [[.s ⟨#[119,49,97,120]⟩,.s ⟨#[119,49]⟩,.s ⟨#[97,120]⟩,.i 0,.s ⟨#[]⟩]],.t true])]
def I6(d:LG):Option LG:=Aw Qy (gi d 0).sV
def jT:aL:=⟨86,[bR],[],[],[.s (.row PE),cN],[],[],[],I6⟩
def aca:dP P 86 [aS ⟨#[]⟩] (jT.out [.l [[.s ⟨#[]⟩,.s ⟨#[]⟩,.s ⟨#[]⟩,.i 0,.s ⟨#[]⟩]],.t false]):=fk (L:=bH) hm lr [] (fun _ _=>bI _ _ _) func86 rfl (by kernel_rfl) (by kernel_rfl)
def acb:dP P 86 [aS ⟨#[107,49]⟩] (jT.out [.l [[.s ⟨#[]⟩,.s ⟨#[]⟩,.s ⟨#[]⟩,.i 0,.s ⟨#[]⟩]],.t false]):=fk (L:=bH) hm lr [] (fun _ _=>bI _ _ _) func86 rfl (by kernel_rfl) (by kernel_rfl)
def acd:dP P 86 [aS ⟨#[75,49,65,66]⟩] (jT.out [.l [[.s ⟨#[]⟩,.s ⟨#[]⟩,.s ⟨#[]⟩,.i 0,.s ⟨#[]⟩]],.t false]):=fk (L:=bH) hm lr [] (fun _ _=>bI _ _ _) func86 rfl (by kernel_rfl) (by kernel_rfl)
def ace:dP P 86 [aS ⟨#[107,49,97,98,47]⟩] (jT.out [.l [[.s ⟨#[]⟩,.s ⟨#[]⟩,.s ⟨#[]⟩,.i 0,.s ⟨#[]⟩]],.t false]):=fk (L:=bH) hm lr [] (fun _ _=>bI _ _ _) func86 rfl (by kernel_rfl) (by kernel_rfl)
def acf:dP P 86 [aS ⟨#[49,97]⟩] (jT.out [.l [[.s ⟨#[]⟩,.s ⟨#[]⟩,.s ⟨#[]⟩,.i 0,.s ⟨#[]⟩]],.t false]):=fk (L:=bH) hm lr [] (fun _ _=>bI _ _ _) func86 rfl (by kernel_rfl) (by kernel_rfl)
def acg:dP P 86 [aS ⟨#[107,49,97,98,47,109,109,47,112]⟩] (jT.out [.l [[.s ⟨#[]⟩,.s ⟨#[]⟩,.s ⟨#[]⟩,.i 0,.s ⟨#[]⟩]],.t false]):=fk (L:=bH) hm lr [] (fun _ _=>bI _ _ _) func86 rfl (by kernel_rfl) (by kernel_rfl)
def ach:dP P 86 [aS ⟨#[107,49,97,98]⟩] (jT.out [.l [[.s ⟨#[107,49,97,98]⟩,.s ⟨#[107,49]⟩,.s ⟨#[97,98]⟩,.i 0,.s ⟨#[]⟩]],.t true]):=fk (L:=bH) hm lr [] (fun _ _=>bI _ _ _) func86 rfl (by kernel_rfl) (by kernel_rfl)
def aci:dP P 86 [aS ⟨#[107,49,97,97]⟩] (jT.out [.l [[.s ⟨#[107,49,97,97]⟩,.s ⟨#[107,49]⟩,.s ⟨#[97,97]⟩,.i 0,.s ⟨#[]⟩]],.t true]):=fk (L:=bH) hm lr [] (fun _ _=>bI _ _ _) func86 rfl (by kernel_rfl) (by kernel_rfl)
def acj:dP P 86 [aS ⟨#[107,49,97,98,47,52]⟩] (jT.out [.l [[.s ⟨#[107,49,97,98]⟩,.s ⟨#[107,49]⟩,.s ⟨#[97,98]⟩,.i 2,.s ⟨#[52]⟩]],.t true]):=fk (L:=bH) hm lr [] (fun _ _=>bI _ _ _) func86 rfl (by kernel_rfl) (by kernel_rfl)
def ack:dP P 86 [aS ⟨#[111,104,50,97,98,99]⟩] (jT.out [.l [[.s ⟨#[111,104,50,97,98,99]⟩,.s ⟨#[111,104,50]⟩,.s ⟨#[97,98,99]⟩,.i 0,.s ⟨#[]⟩]],.t true]):=fk (L:=bH) hm lr [] (fun _ _=>bI _ _ _) func86 rfl (by kernel_rfl) (by kernel_rfl)
def acm:dP P 86 [aS ⟨#[111,104,50,97,98,100]⟩] (jT.out [.l [[.s ⟨#[111,104,50,97,98,100]⟩,.s ⟨#[111,104,50]⟩,.s ⟨#[97,98,100]⟩,.i 0,.s ⟨#[]⟩]],.t true]):=fk (L:=bH) hm lr [] (fun _ _=>bI _ _ _) func86 rfl (by kernel_rfl) (by kernel_rfl)
def acn:dP P 86 [aS ⟨#[119,49,97,119]⟩] (jT.out [.l [[.s ⟨#[119,49,97,119]⟩,.s ⟨#[119,49]⟩,.s ⟨#[97,119]⟩,.i 0,.s ⟨#[]⟩]],.t true]):=fk (L:=bH) hm lr [] (fun _ _=>bI _ _ _) func86 rfl (by kernel_rfl) (by kernel_rfl)
def aco:dP P 86 [aS ⟨#[110,49,109,109]⟩] (jT.out [.l [[.s ⟨#[110,49,109,109]⟩,.s ⟨#[110,49]⟩,.s ⟨#[109,109]⟩,.i 0,.s ⟨#[]⟩]],.t true]):=fk (L:=bH) hm lr [] (fun _ _=>bI _ _ _) func86 rfl (by kernel_rfl) (by kernel_rfl)
def acp:dP P 86 [aS ⟨#[103,51,120,121,122,47,112]⟩] (jT.out [.l [[.s ⟨#[103,51,120,121,122]⟩,.s ⟨#[103,51]⟩,.s ⟨#[120,121,122]⟩,.i 3,.s ⟨#[]⟩]],.t true]):=fk (L:=bH) hm lr [] (fun _ _=>bI _ _ _) func86 rfl (by kernel_rfl) (by kernel_rfl)
def acq:dP P 86 [aS ⟨#[119,49,97,120]⟩] (jT.out [.l [[.s ⟨#[119,49,97,120]⟩,.s ⟨#[119,49]⟩,.s ⟨#[97,120]⟩,.i 0,.s ⟨#[]⟩]],.t true]):=fk (L:=bH) hm lr [] (fun _ _=>bI _ _ _) func86 rfl (by kernel_rfl) (by kernel_rfl)
def acr:iO P jT:=fun d r (h:I6 d=some r)=>by
 have h:=I4 h;have key:dP P 86 [aS (gi d 0).sV] (jT.out r):=by
  generalize (gi d 0).sV=s at h;simp only[Qy,cq,qQ,or_false,bo]at h;rcases h with⟨rfl,rfl⟩|⟨rfl,rfl⟩|⟨rfl,rfl⟩|⟨rfl,rfl⟩|⟨rfl,rfl⟩|⟨rfl,rfl⟩|⟨rfl,rfl⟩|⟨rfl,rfl⟩|⟨rfl,rfl⟩|⟨rfl,rfl⟩|⟨rfl,rfl⟩|⟨rfl,rfl⟩|⟨rfl,rfl⟩|⟨rfl,rfl⟩|⟨rfl,rfl⟩
  ·exact aca
  ·exact acb
  ·exact acd
  ·exact ace
  ·exact acf
  ·exact acg
  ·exact ach
  ·exact aci
  ·exact acj
  ·exact ack
  ·exact acm
  ·exact acn
  ·exact aco
  ·exact acp
  ·exact acq
 exact key []
def t7:aD:=t6.bk jT
def acs:aI P t7:=P'.aP acr
end
end Go.Proofs.iQ
