/-
 What is proved here: functions of the program as functions on data. No condition.
-/
import Derived.Test.YtmhkodhaodcfdaaGreatDoorML2
set_option linter.all false
open Int renaming tmod->dS
open Nat renaming beq->aH
namespace Go.Proofs.jL
open Go Go.AL Go.Proofs Tryz
noncomputable section
def Dy(d:LG):Option LG :=
 (aj (Iz [.l (gi d 0).rZ,.l [(bF cw (gi d 1).rV)]]) fun a=>some [.t (aR 0 (gi a 0).iV)])
def ab4:aM:=⟨72,[.s (.list cw),.clo 73 [.cptr cw]],[],[],[bP],[],[],[],Dy⟩
def t62:aJ:=t61.aZ ab4
def Dz:aL P t62:=bL ab3 func72

def zF(d:LG):Option (Option Nat × LG) :=
 let a:=(gi d 1).rZ.getD (((gi d 3).iV).toNat) []; let g:=(gi d 3).iV-1; let b:=(gi d 3).iV+1; (bif (aK (gi d 3).iV (gi d 2).iV) then (gd (nL (gi d 3).iV (lI (gi d 1).rZ)) (aj (rT [.s (gi a 0).sV]) fun h=>(bif (!(gi h 0).bV) then eQ [.i 5] else (aj (lX [.i (gi a 1).iV,.i 0,.i 30000000000]) fun k=>(bif (gi k 0).bV then eQ [.i 1] else (aj (lX [.i (gi a 2).iV,.i 0,.i 30000000000]) fun q=>(bif (gi q 0).bV then eQ [.i 1] else (bif ((dS (gi a 1).iV 1000) != 0) then eQ [.i 1] else (bif ((dS (gi a 2).iV 1000) != 0) then eQ [.i 1] else (bif (aR (gi a 2).iV (gi a 1).iV) then eQ [.i 1] else (bif (aK 0 (gi d 3).iV) then (gd (aF g) (gd (nL g (lI (gi d 0).rZ)) (bif (aK (gi a 1).iV (gi ((gi d 0).rZ.getD (g.toNat) []) 2).iV) then eQ [.i 7] else (gd (aF b) (some (none,kp d 0 [.l,.l,.i] [.i b])))))) else (gd (aF b) (some (none,kp d 0 [.l,.l,.i] [.i b])))))))))))))) else eR [.l (gi d 0).rZ])
def ab5:bS:=⟨4,[],⟨78,Pp,[]⟩,[],[⟨.ret,⟨78,qk,[]⟩,[]⟩,⟨.exit 0,⟨78,[(0,.s (.list cw))],[]⟩,[]⟩],zF⟩
def P4:LT:=dc.add 0 ab5
def ab6:ba P 0 P4 (bp f19):=ba.add hm (Dz.lf [72]) (by kernel_rfl) (dx _ _ _) (fun d=>by kernel_rfl)
def zG(d:LG):Option (Option Nat × LG) :=
 (bif (aK (gi d 3).iV (gi d 2).iV) then (gd (nL (gi d 3).iV (lI (gi d 1).rZ)) (gd ((cA (gi d 3).iV)&&(aR (gi d 3).iV (lI (gi d 0).rZ))) (aj (Dy [.l ((gi d 0).rZ.take (((gi d 3).iV).toNat)),.l [(bF cw ((gi d 1).rZ.getD (((gi d 3).iV).toNat) []))]]) fun a=>(bif (gi a 0).bV then eQ [.i 6] else (gd (aF ((gi d 3).iV+1)) (some (none,kp d 0 [.l,.l,.i] [.i ((gi d 3).iV+1)]))))))) else eR [])
def ab7:bS:=⟨14,[],⟨78,[(0,.s (.list cw)),(65,.s (.list cw)),(66,az),(67,az)],[]⟩,[],[⟨.ret,⟨78,qk,[]⟩,[]⟩,⟨.exit 3,⟨78,[],[]⟩,[]⟩],zG⟩
def ab8:LT:=P4.add 0 ab7
def ab9:ba P 0 ab8 (bp f19):=ba.add hm (Dz.lf [72]) (by kernel_rfl) ab6 (fun d=>by kernel_rfl)
def tZ(d:LG):Option LG :=
 let b:=(lI (gi d 0).rZ); (bif (aK 30 b) then some [.i 2] else (bT true (cd zF [.l (gi d 0).rZ,.l (gi d 0).rZ,.i b,.i 0]) fun g a=>(bif aH g 0 then some [.i (gi a 0).iV] else (bT true (cd zG [.l (gi a 0).rZ,.l (gi a 0).rZ,.i (lI (gi a 0).rZ),.i 0]) fun h k=>(bif aH h 0 then some [.i (gi k 0).iV] else some [.i 0])))))
def ab_:aM:=⟨19,[.s (.list cw)],[],[],[az],[],[],[],tZ⟩
def t63:aJ:=t62.aZ ab_
def ab':aL P t63:=Dz.aP (qc hm (Dz.lf [72]) func19 (by kernel_rfl) ab9 (fun d=>by kernel_rfl) (by kernel_rfl))

def DA(d:LG):Option LG :=
 (bif (aR (gi (gi d 0).rV 1).iV (gi (gi d 1).rV 0).iV) then some [.t (aK (gi (gi d 1).rV 0).iV (gi (gi d 0).rV 2).iV)] else some [.t false])
def aca:aM:=⟨84,[.s (.row cw),.s (.cptr [.I])],[],[],[bP],[],[],[],DA⟩
def t64:aJ:=t63.aZ aca
def P5:aL P t64:=bL ab' func84

def P6(d:LG):Option (Option Nat × LG) :=
 (bif (aK (gi d 3).iV (gi d 2).iV) then (gd (nL (gi d 3).iV (lI (gi d 0).rZ)) (aj (DA [.l [(bF cw ((gi d 0).rZ.getD (((gi d 3).iV).toNat) []))],.l [[.i (gi (gi d 1).rV 0).iV]]]) fun a=>(bif (gi a 0).bV then eQ [.i (gi d 3).iV] else (gd (aF ((gi d 3).iV+1)) (nQ [.l (gi d 0).rZ,.l [[.i (gi (gi d 1).rV 0).iV]],.i (gi d 2).iV,.i ((gi d 3).iV+1)]))))) else eR [])
def acb:bS:=⟨2,[],⟨19,[(0,.s (.list cw)),(1,.clo 84 [.cptr [.I]]),(7,az),(8,az)],[]⟩,[],[⟨.ret,⟨19,rQ,[]⟩,[]⟩,⟨.exit 0,⟨19,[],[]⟩,[]⟩],P6⟩
def acd:LT:=dc.add 0 acb
def ace:ba P 0 acd (bp f44):=lA P5 (dx _ _ _)
def IA(d:LG):Option LG :=
 (bT true (cd P6 [.l (gi d 0).rZ,.l [[.i (gi (gi d 1).rV 0).iV]],.i (lI (gi d 0).rZ),.i 0]) fun a b=>(bif aH a 0 then some [.i (gi b 0).iV] else some [.i (-1)]))
def acf:aM:=⟨44,[.s (.list cw),.clo 84 [.cptr [.I]]],[],[],[az],[],[],[],IA⟩
def t65:aJ:=t64.aZ acf
def P7:aL P t65:=tP P5 func44 ace

def zH(d:LG):Option LG :=
 (aj (IA [.l (gi d 0).rZ,.l [[.i (gi d 1).iV]]]) fun a=>some [.i (gi a 0).iV])
def acg:aM:=⟨39,[.s (.list cw),az],[],[],[az],[],[],[],zH⟩
def t66:aJ:=t65.aZ acg
def ach:aL P t66:=P7.aP (qc hm (P7.lf [44]) func39 (by kernel_rfl) (dx _ _ _) (fun d=>by kernel_rfl) (by kernel_rfl))

def wE(d:LG):Option LG :=
 let a:=(⟨#[]⟩:BY); (aj (tZ [.l (gi d 0).rZ]) fun g=>(bif ((gi g 0).iV != 0) then some [.s a,.t false,.i (gi g 0).iV] else (aj (lX [.i (gi d 1).iV,.i 0,.i 30000000000]) fun h=>(bif (gi h 0).bV then some [.s a,.t false,.i 1] else (aj (zH [.l (gi d 0).rZ,.i (gi d 1).iV]) fun b=>(bif (aK (gi b 0).iV 0) then some [.s a,.t false,.i 0] else (gd (nL (gi b 0).iV (lI (gi d 0).rZ)) (some [.s (gi ((gi d 0).rZ.getD (((gi b 0).iV).toNat) []) 0).sV,.t true,.i 0]))))))))
def aci:aM:=⟨10,[.s (.list cw),az],[],[],[aS,bP,az],[],[],[],wE⟩
def t67:aJ:=t66.aZ aci
def acj:aL P t67:=bL ach func10

def DB(d:LG):Option LG :=
 (bif (aR 97 (gi d 0).iV) then some [.t (aR (gi d 0).iV 122)] else some [.t false])
def ack:aM:=⟨198,[.s (.int .u8)],[],[],[bP],[],[],[],DB⟩
def t68:aJ:=t67.aZ ack
def acm:aL P t68:=bL acj func198

def zI(d:LG):Option LG :=
 (bif (aR 48 (gi d 0).iV) then some [.t (aR (gi d 0).iV 57)] else some [.t false])
def acn:aM:=⟨168,[.s (.int .u8)],[],[],[bP],[],[],[],zI⟩
def t69:aJ:=t68.aZ acn
def P8:aL P t69:=bL acm func168

def DC(d:LG):Option (Option Nat × LG) :=
 let b:=(nL (gi d 3).iV (((gi d 0).sV.size:Nat):Int)); let g:=(((gi d 0).sV.data.toList.getD (((gi d 3).iV).toNat) 0).toNat:Int); let a:=(gi d 3).iV+1; (bif (aK (gi d 3).iV (gi d 2).iV) then (gd b (aj (DB [.i g]) fun h=>(bif (gi h 0).bV then (gd (aF ((gi d 1).iV+1)) (gd (aF a) (nQ [.s (gi d 0).sV,.i ((gi d 1).iV+1),.i (gi d 2).iV,.i a]))) else (gd b (aj (zI [.i g]) fun k=>(bif (!(gi k 0).bV) then eQ [.i 0,.t false] else (gd (aF a) (some (none,kp d 0 [.s,.i,.i] [.i a]))))))))) else eR [.i (gi d 1).iV])
def aco:bS:=⟨2,[],⟨25,[(0,aS),(2,az),(6,az),(7,az)],[]⟩,[],[⟨.ret,⟨25,[(2,az),(3,bP)],[]⟩,[]⟩,⟨.exit 0,⟨25,qk,[]⟩,[]⟩],DC⟩
def acp:LT:=dc.add 0 aco
def acq:ba P 0 acp (bp f167):=lA P8 (dx _ _ _)
def wF(d:LG):Option LG :=
 (bT true (cd DC [.s (gi d 0).sV,.i 0,.i (((gi d 0).sV.size:Nat):Int),.i 0]) fun b a=>(bif aH b 0 then some [.i (gi a 0).iV,.t (gi a 1).bV] else some [.i (gi a 0).iV,.t true]))
def acr:aM:=⟨167,[aS],[],[],[az,bP],[],[],[],wF⟩
def t70:aJ:=t69.aZ acr
def acs:aL P t70:=tP P8 func167 acq

def DD(d:LG):Option LG :=
 let g:=(((gi d 0).sV.size:Nat):Int); (aj (wF [.s (gi d 0).sV]) fun h=>(bif (!(gi h 1).bV) then some [.i 0,.t false] else (bif (aK 10 g) then some [.i 0,.t false] else (aj (rR [.s (gi d 0).sV,.s (⟨#[48,49,50,51,52,53,54,55,56,57]⟩:BY)]) fun a=>let b:=g-(gi a 0).iV; (bif (aK (gi a 0).iV 1) then some [.i 0,.t false] else (bif (aK 3 (gi a 0).iV) then some [.i 0,.t false] else (gd (aF b) (gd (aF (b-1)) (bif (aK (b-1) 1) then some [.i 0,.t false] else (gd (aF b) (gd (aF (b-1)) (bif (aK 4 (b-1)) then some [.i 0,.t false] else (gd ((cA (gi a 0).iV)&&(aR (gi a 0).iV g)) (aj (wF [.s ((gi d 0).sV.extract 0 ((gi a 0).iV).toNat)]) fun k=>some [.i (gi a 0).iV,.t (aK 0 (gi k 0).iV)]))))))))))))))
def acu:aM:=⟨166,[aS],[],[],[az,bP],[],[],[],DD⟩
def t71:aJ:=t70.aZ acu
def acv:aL P t71:=bL acs func166

def t_(d:LG):Option LG :=
 let b:=(⟨#[]⟩:BY); let k:=(((gi d 0).sV.size:Nat):Int); (aj (DD [.s (gi d 0).sV]) fun g=>let a:=(gi g 0).iV+1; let h:=(cA a)&&(aR a k); (bif (!(gi g 1).bV) then some [.l [[.s b,.s b,.s b,.i 0,.s b]],.t false] else (gd (aF a) (gd h (gd (aF a) (gd h (some [.l [[.s (gi d 0).sV,.s ((gi d 0).sV.extract 0 a.toNat),.s ((gi d 0).sV.extract a.toNat (gi d 0).sV.size),.i 0,.s b]],.t true])))))))
def acw:aM:=⟨121,[aS],[],[],[.s (.row wu),bP],[],[],[],t_⟩
def t72:aJ:=t71.aZ acw
def acx:aL P t72:=bL acv func121

def zJ(d:LG):Option LG :=
 (aj (wF [.s (gi d 0).sV]) fun a=>(bif (gi a 1).bV then (bif (aK 0 (gi a 0).iV) then some [.t (aR (((gi d 0).sV.size:Nat):Int) 4)] else some [.t false]) else some [.t false]))
def acy:aM:=⟨122,[aS],[],[],[bP],[],[],[],zJ⟩
def t73:aJ:=t72.aZ acy
def acz:aL P t73:=bL acx func122

def zK(d:LG):Option LG :=
 let a:=(⟨#[]⟩:BY); let b:=zJ [.s (gi d 0).sV]; let g:=(((gi d 0).sV.size:Nat):Int); (bif ((gi d 0).sV.toList==(⟨#[112]⟩:BY).toList) then some [.i 3,.s a,.t true] else (bif ((gi d 0).sV.toList==(⟨#[109]⟩:BY).toList) then some [.i 4,.s a,.t true] else (bif ((gi d 0).sV.toList==(⟨#[109,109]⟩:BY).toList) then some [.i 5,.s a,.t true] else (bif ((gi d 0).sV.toList==(⟨#[97,109]⟩:BY).toList) then some [.i 6,.s a,.t true] else (bif (g==1) then (gd (aK 0 g) (aj (zI [.i (((gi d 0).sV.data.toList.getD 0 0).toNat:Int)]) fun h=>(bif (gi h 0).bV then some [.i 2,.s (gi d 0).sV,.t true] else (aj b fun k=>some [.i 1,.s (gi d 0).sV,.t (gi k 0).bV])))) else (aj b fun q=>some [.i 1,.s (gi d 0).sV,.t (gi q 0).bV]))))))
def acA:aM:=⟨123,[aS],[],[],[az,aS,bP],[],[],[],zK⟩
def t74:aJ:=t73.aZ acA
def acB:aL P t74:=bL acz func123

def DE(d:LG):Option LG :=
 let a:=(⟨#[]⟩:BY); (bif (aK 14 (((gi d 0).sV.size:Nat):Int)) then some [.l [[.s a,.s a,.s a,.i 0,.s a]],.t false] else (aj (t_ [.s (gi d 0).sV]) fun w=>(bif (gi w 1).bV then some [.l [(bF wu (gi w 0).rV)],.t true] else (aj (oR [.s (gi d 0).sV,.s (⟨#[47]⟩:BY)]) fun b=>let y:=t_ [.s (gi b 0).sV]; let z:=zK [.s (gi b 1).sV]; (bif (!(gi b 2).bV) then some [.l [[.s a,.s a,.s a,.i 0,.s a]],.t false] else (aj (t_ [.s (gi b 1).sV]) fun g=>(bif (gi g 1).bV then (aj (zJ [.s (gi b 0).sV]) fun A=>(bif (gi A 0).bV then some [.l [[.s (gi (gi g 0).rV 0).sV,.s (gi (gi g 0).rV 1).sV,.s (gi (gi g 0).rV 2).sV,.i 1,.s (gi b 0).sV]],.t true] else (aj y fun h=>(aj z fun q=>(bif (!(gi h 1).bV) then some [.l [[.s a,.s a,.s a,.i 0,.s a]],.t false] else (bif (!(gi q 2).bV) then some [.l [[.s a,.s a,.s a,.i 0,.s a]],.t false] else some [.l [[.s (gi (gi h 0).rV 0).sV,.s (gi (gi h 0).rV 1).sV,.s (gi (gi h 0).rV 2).sV,.i (gi q 0).iV,.s (gi q 1).sV]],.t true])))))) else (aj y fun k=>(aj z fun v=>(bif (!(gi k 1).bV) then some [.l [[.s a,.s a,.s a,.i 0,.s a]],.t false] else (bif (!(gi v 2).bV) then some [.l [[.s a,.s a,.s a,.i 0,.s a]],.t false] else some [.l [[.s (gi (gi k 0).rV 0).sV,.s (gi (gi k 0).rV 1).sV,.s (gi (gi k 0).rV 2).sV,.i (gi v 0).iV,.s (gi v 1).sV]],.t true])))))))))))
def acC:aM:=⟨85,[aS],[],[],[.s (.row wu),bP],[],[],[],DE⟩
def t75:aJ:=t74.aZ acC
def acD:aL P t75:=bL acB func85

def rU(d:LG):Option LG :=
 (aj (DE [.s (gi d 0).sV]) fun a=>some [.t (gi a 1).bV])
def acE:aM:=⟨40,[aS],[],[],[bP],[],[],[],rU⟩
def t76:aJ:=t75.aZ acE
def acF:aL P t76:=bL acD func40

def DF(d:LG):Option LG :=
 (aj (lX [.i (gi d 0).iV,.i 0,.i 345686399999]) fun a=>some [.t (!(gi a 0).bV)])
def acG:aM:=⟨124,[az],[],[],[bP],[],[],[],DF⟩
def t77:aJ:=t76.aZ acG
def acH:aL P t77:=bL acF func124

def DG(d:LG):Option LG :=
 (aj (lX [.i (gi d 0).iV,.i 1,.i 3]) fun a=>some [.t (!(gi a 0).bV)])
def acI:aM:=⟨125,[az],[],[],[bP],[],[],[],DG⟩
def t78:aJ:=t77.aZ acI
def acJ:aL P t78:=bL acH func125

def wG(d:LG):Option LG :=
 (bif ((gi d 0).sV.toList==(⟨#[]⟩:BY).toList) then some [.t true] else (aj (rT [.s (gi d 0).sV]) fun a=>some [.t (gi a 0).bV]))
def acK:aM:=⟨126,[aS],[],[],[bP],[],[],[],wG⟩
def t79:aJ:=t78.aZ acK
def acL:aL P t79:=bL acJ func126

def wH(d:LG):Option LG :=
 (aj (DF [.i (gi (gi d 0).rV 0).iV]) fun a=>(bif (!(gi a 0).bV) then some [.i 1] else (aj (DG [.i (gi (gi d 0).rV 1).iV]) fun b=>(bif (!(gi b 0).bV) then some [.i 4] else (aj (rT [.s (gi (gi d 0).rV 2).sV]) fun g=>(bif (!(gi g 0).bV) then some [.i 5] else (aj (rU [.s (gi (gi d 0).rV 3).sV]) fun h=>(bif (!(gi h 0).bV) then some [.i 3] else (aj (lX [.i (gi (gi d 0).rV 4).iV,.i 0,.i 99999]) fun k=>(bif (gi k 0).bV then some [.i 1] else (aj (lX [.i (gi (gi d 0).rV 5).iV,.i 0,.i 99999]) fun q=>(bif (gi q 0).bV then some [.i 1] else (aj (wG [.s (gi (gi d 0).rV 6).sV]) fun t=>(bif (!(gi t 0).bV) then some [.i 5] else (aj (wG [.s (gi (gi d 0).rV 7).sV]) fun v=>(bif (!(gi v 0).bV) then some [.i 5] else some [.i 0]))))))))))))))))
def acM:aM:=⟨86,[.s (.row bI)],[],[],[az],[],[],[],wH⟩
def t80:aJ:=t79.aZ acM
def acN:aL P t80:=bL acL func86

def DH(d:LG):Option LG :=
 some [.t ((gi d 0).iV != (gi d 0).iV)]
def acO:aM:=⟨135,[az],[],[],[bP],[],[],[],DH⟩
def t81:aJ:=t80.aZ acO
def acP:aL P t81:=bL acN func135

def zL(d:LG):Option LG :=
 (aj (DH [.i (gi d 0).iV]) fun b=>(aj (DH [.i (gi d 1).iV]) fun a=>(bif (gi b 0).bV then (bif (gi a 0).bV then some [.i 0] else some [.i (-1)]) else (bif (gi a 0).bV then some [.i 1] else (bif (aK (gi d 0).iV (gi d 1).iV) then some [.i (-1)] else (bif (aK (gi d 1).iV (gi d 0).iV) then some [.i 1] else some [.i 0]))))))
def acQ:aM:=⟨95,[az,az],[],[],[az],[],[],[],zL⟩
def t82:aJ:=t81.aZ acQ
def P9:aL P t82:=bL acP func95

def wI(d:LG):Option (Option Nat × LG) :=
 let a:=gi ((gi d 1).rZ.getD (((gi d 3).iV).toNat) []) 0; (bif (aK (gi d 3).iV (gi d 2).iV) then (gd (nL (gi d 3).iV (lI (gi d 1).rZ)) (bif (a.iV != (gi d 0).iV) then eQ [.i a.iV] else (gd (aF ((gi d 3).iV+1)) (some (none,kp d 0 [.i,.l,.i] [.i ((gi d 3).iV+1)]))))) else eR [.i (gi d 0).iV])
def acR:bS:=⟨3,[],⟨18,[(3,az),(6,mP),(7,az),(8,az)],[]⟩,[],[⟨.ret,⟨18,qk,[]⟩,[]⟩,⟨.exit 0,⟨18,[(3,az)],[]⟩,[]⟩],wI⟩
def acS:LT:=dc.add 0 acR
def acT:ba P 0 acS (bp f94):=lA P9 (dx _ _ _)
def DI(d:LG):Option LG :=
 (bT true (cd wI [.i 0,.l (gi d 0).rZ,.i (lI (gi d 0).rZ),.i 0]) fun b a=>(bif aH b 0 then some [.i (gi a 0).iV] else some [.i (gi a 0).iV]))
def acU:aM:=⟨94,[mP],[],[],[az],[],[],[],DI⟩
def t83:aJ:=t82.aZ acU
def acV:aL P t83:=tP P9 func94 acT

def qm(d:LG):Option LG :=
 (aj (zL [.i (gi (gi d 0).rV 0).iV,.i (gi (gi d 1).rV 0).iV]) fun a=>(aj (lj [.s (gi (gi d 0).rV 3).sV,.s (gi (gi d 1).rV 3).sV]) fun b=>(aj (lj [.s (gi (gi d 0).rV 2).sV,.s (gi (gi d 1).rV 2).sV]) fun g=>(aj (zL [.i (gi (gi d 0).rV 1).iV,.i (gi (gi d 1).rV 1).iV]) fun h=>(aj (DI [.l [[.i (gi a 0).iV],[.i (gi b 0).iV],[.i (gi g 0).iV],[.i (gi h 0).iV]]]) fun k=>some [.i (gi k 0).iV])))))
def acW:aM:=⟨54,[.s (.row bI),.s (.row bI)],[],[],[az],[],[],[],qm⟩
def t84:aJ:=t83.aZ acW
def P_:aL P t84:=bL acV func54

def P'(d:LG):Option (Option Nat × LG) :=
 let g:=bF bI ((gi d 1).rZ.getD (((gi d 3).iV).toNat) []); let b:=(gi d 3).iV-1; let a:=(gi d 3).iV+1; (bif (aK (gi d 3).iV (gi d 2).iV) then (gd (nL (gi d 3).iV (lI (gi d 1).rZ)) (aj (wH [.l [g]]) fun h=>(bif ((gi h 0).iV != 0) then eQ [.i (gi h 0).iV] else (bif (aK 0 (gi d 3).iV) then (gd (aF b) (gd (nL b (lI (gi d 0).rZ)) (aj (qm [.l [(bF bI ((gi d 0).rZ.getD (b.toNat) []))],.l [g]]) fun k=>(bif (aR 0 (gi k 0).iV) then eQ [.i 7] else (gd (aF a) (some (none,kp d 0 [.l,.l,.i] [.i a]))))))) else (gd (aF a) (some (none,kp d 0 [.l,.l,.i] [.i a]))))))) else eR [])
def acX:bS:=⟨4,[],⟨34,Pq,[]⟩,[],[⟨.ret,⟨34,qk,[]⟩,[]⟩,⟨.exit 0,⟨34,[],[]⟩,[]⟩],P'⟩
def acY:LT:=dc.add 0 acX
def acZ:ba P 0 acY (bp f41):=lA P_ (dx _ _ _)
def wJ(d:LG):Option LG :=
 let a:=(lI (gi d 0).rZ); (bif (aK 2000 a) then some [.i 2] else (bT true (cd P' [.l (gi d 0).rZ,.l (gi d 0).rZ,.i a,.i 0]) fun b g=>(bif aH b 0 then some [.i (gi g 0).iV] else some [.i 0])))
def ac0:aM:=⟨41,[gT],[],[],[az],[],[],[],wJ⟩
def t85:aJ:=t84.aZ ac0
def ac1:aL P t85:=tP P_ func41 acZ

def DJ(d:LG):Option LG :=
 some [.t ((gi (gi d 0).rV 0).sV.toList==(gi (gi d 1).rV 2).sV.toList)]
def ac2:aM:=⟨45,[.s (.row cw),.s (.cptr bI)],[],[],[bP],[],[],[],DJ⟩
def t86:aJ:=t85.aZ ac2
def Qa:aL P t86:=bL ac1 func45

def Qb(d:LG):Option (Option Nat × LG) :=
 let a:=bF bI (gi d 1).rV; (bif (aK (gi d 3).iV (gi d 2).iV) then (gd (nL (gi d 3).iV (lI (gi d 0).rZ)) (aj (DJ [.l [(bF cw ((gi d 0).rZ.getD (((gi d 3).iV).toNat) []))],.l [a]]) fun b=>(bif (gi b 0).bV then eQ [.i (gi d 3).iV] else (gd (aF ((gi d 3).iV+1)) (nQ [.l (gi d 0).rZ,.l [a],.i (gi d 2).iV,.i ((gi d 3).iV+1)]))))) else eR [])
def ac3:bS:=⟨2,[],⟨19,[(0,.s (.list cw)),(1,.clo 45 [.cptr bI]),(7,az),(8,az)],[]⟩,[],[⟨.ret,⟨19,rQ,[]⟩,[]⟩,⟨.exit 0,⟨19,[],[]⟩,[]⟩],Qb⟩
def ac4:LT:=dc.add 0 ac3
def ac5:ba P 0 ac4 (bp f44):=lA Qa (dx _ _ _)
def DK(d:LG):Option LG :=
 (bT true (cd Qb [.l (gi d 0).rZ,.l [(bF bI (gi d 1).rV)],.i (lI (gi d 0).rZ),.i 0]) fun a b=>(bif aH a 0 then some [.i (gi b 0).iV] else some [.i (-1)]))
def ac6:aM:=⟨44,[.s (.list cw),.clo 45 [.cptr bI]],[],[],[az],[],[],[],DK⟩
def t87:aJ:=t86.aZ ac6
def ac7:aL P t87:=tP Qa func44 ac5

def ua(d:LG):Option LG :=
 let a:=(gi d 1).iV-1; let b:=(([31,28,31,30,31,30,31,31,30,31,30,31]:List Int).getD (a.toNat) 0); let g:=nL a 12; (bif ((gi d 1).iV==2) then (bif ((dS (gi d 0).iV 4)==0) then (bif ((dS (gi d 0).iV 100) != 0) then some [.i 29] else (bif ((dS (gi d 0).iV 400)==0) then some [.i 29] else (gd (aF a) (gd g (some [.i b]))))) else (gd (aF a) (gd g (some [.i b])))) else (gd (aF a) (gd g (some [.i b]))))
def ac8:aM:=⟨128,[az,az],[],[],[az],[],[],[],ua⟩
def t88:aJ:=t87.aZ ac8
def Qc:aL P t88:=bL ac7 func128

def wK(d:LG):Option (Option Nat × LG) :=
 let g:=ua [.i (gi d 1).iV,.i (gi d 2).iV]; let a:=(gi d 2).iV+1; (aj g fun h=>(bif (aR (gi h 0).iV (gi d 0).iV) then (aj g fun k=>let b:=(gi d 0).iV-(gi k 0).iV; (gd (aF b) (gd (aF a) (bif (aK 12 a) then (gd (aF ((gi d 1).iV+1)) (nQ [.i b,.i ((gi d 1).iV+1),.i 1])) else nQ [.i b,.i (gi d 1).iV,.i a])))) else some (some 0,kp d 0 [.i,.i,.i] [])))
def ac9:bS:=⟨2,[],⟨25,[(0,az),(2,az),(3,az)],[]⟩,[],[⟨.exit 0,⟨25,[(0,az),(2,az),(3,az)],[]⟩,[]⟩],wK⟩
def ac_:LT:=dc.add 0 ac9
def ac':ba P 0 ac_ (bp f88):=lA Qc (dx _ _ _)
def ub(d:LG):Option LG :=
 (bT true (cd wK [.i (gi d 0).iV,.i 2024,.i 1]) fun b a=>(gd (aF ((gi a 0).iV+1)) (some [.i (gi a 1).iV,.i (gi a 2).iV,.i ((gi a 0).iV+1)])))
def ada:aM:=⟨88,[az],[],[],[az,az,az],[],[],[],ub⟩
def t89:aJ:=t88.aZ ada
def adb:aL P t89:=tP Qc func88 ac'

def zM(d:LG):Option LG :=
 some [.l [[.s (⟨#[]⟩:BY)],[.s (⟨#[67,87]⟩:BY)],[.s (⟨#[80,72]⟩:BY)],[.s (⟨#[82,89]⟩:BY)]]]
def ade:aM:=⟨47,[],[],[],[.s (.list [.str])],[],[],[],zM⟩
def t90:aJ:=t89.aZ ade
def adf:aL P t90:=bL adb func47

def zN(d:LG):Option LG :=
 (bif ((gi d 0).iV==0) then some [.s (⟨#[45]⟩:BY)] else (aj (lk [.i (gi d 0).iV]) fun a=>some [.s (gi a 0).sV]))
def adg:aM:=⟨48,[az],[],[],[aS],[],[],[],zN⟩
def t91:aJ:=t90.aZ adg
def adh:aL P t91:=bL adf func48

def zO(d:LG):Option LG :=
 (bif ((gi d 0).sV.toList==(⟨#[]⟩:BY).toList) then some [.s (⟨#[45]⟩:BY)] else some [.s (gi d 0).sV])
def adi:aM:=⟨49,[aS],[],[],[aS],[],[],[],zO⟩
def t92:aJ:=t91.aZ adi
def adj:aL P t92:=bL adh func49

def DL(d:LG):Option LG :=
 let b:=(((gi d 0).sV.size:Nat):Int); let a:=(b-(((gi d 1).sV.size:Nat):Int)); (bif (aR (((gi d 1).sV.size:Nat):Int) b) then (gd (aF a) (gd ((cA a)&&(aR a b)) (some [.t (((gi d 0).sV.extract a.toNat (gi d 0).sV.size).toList==(gi d 1).sV.toList)]))) else some [.t false])
def adk:aM:=⟨171,[aS,aS],[],[],[bP],[],[],[],DL⟩
def t93:aJ:=t92.aZ adk
def adl:aL P t93:=bL adj func171

def IB(d:LG):Option LG :=
 let a:=((((gi d 0).sV.size:Nat):Int)-(((gi d 1).sV.size:Nat):Int)); (aj (DL [.s (gi d 0).sV,.s (gi d 1).sV]) fun b=>(bif (!(gi b 0).bV) then some [.s (gi d 0).sV,.t false] else (gd (aF a) (gd ((cA a)&&(aR a (((gi d 0).sV.size:Nat):Int))) (some [.s ((gi d 0).sV.extract 0 a.toNat),.t true])))))
def adm:aM:=⟨130,[aS,aS],[],[],[aS,bP],[],[],[],IB⟩
def t94:aJ:=t93.aZ adm
def adn:aL P t94:=bL adl func130

def DM(d:LG):Option LG :=
 (aj (IB [.s (gi d 0).sV,.s (gi d 1).sV]) fun a=>some [.s (gi a 0).sV,.t (gi a 1).bV])
def ado:aM:=⟨90,[aS,aS],[],[],[aS,bP],[],[],[],DM⟩
def t95:aJ:=t94.aZ ado
def adp:aL P t95:=bL adn func90

def n4(d:LG):Option LG :=
 (aj (tY [.s (gi d 0).sV,.s (gi d 1).sV,.i 0,.i (-1)]) fun a=>some [.l (gi a 0).rZ])
def adq:aM:=⟨91,[aS,aS],[],[],[.s (.list [.str])],[],[],[],n4⟩
def t96:aJ:=t95.aZ adq
def ads:aL P t96:=bL adp func91

def DN(d:LG):Option LG :=
 (bif ((gi d 0).sV.toList==(⟨#[]⟩:BY).toList) then some [.l [],.t true] else (aj (DM [.s (gi d 0).sV,.s (⟨#[10]⟩:BY)]) fun a=>(aj (n4 [.s (gi a 0).sV,.s (⟨#[10]⟩:BY)]) fun b=>some [.l (gi b 0).rZ,.t (gi a 1).bV])))
def adt:aM:=⟨52,[aS],[],[],[.s (.list [.str]),bP],[],[],[],DN⟩
def t97:aJ:=t96.aZ adt
def Qd:aL P t97:=bL ads func52

def zP(d:LG):Option (Option Nat × LG) :=
 (bif (aK (gi d 3).iV (gi d 2).iV) then (gd (nL (gi d 3).iV (lI (gi d 1).rZ)) (bif ((gi ((gi d 1).rZ.getD (((gi d 3).iV).toNat) []) 0).sV.toList==(⟨#[]⟩:BY).toList) then eQ [.l [],.t false] else (gd (aF ((gi d 3).iV+1)) (some (none,kp d 0 [.l,.l,.i] [.i ((gi d 3).iV+1)]))))) else eR [.l (gi d 0).rZ])
def adu:bS:=⟨3,[],⟨19,[(4,.s (.list [.str])),(9,.s (.list [.str])),(10,az),(11,az)],[]⟩,[],[⟨.ret,⟨19,[(2,.s (.list [.str])),(3,bP)],[]⟩,[]⟩,⟨.exit 0,⟨19,[(4,.s (.list [.str]))],[]⟩,[]⟩],zP⟩
def adv:LT:=dc.add 0 adu
def adw:ba P 0 adv (bp f92):=lA Qd (dx _ _ _)
def DO(d:LG):Option LG :=
 (aj (n4 [.s (gi d 0).sV,.s (⟨#[32]⟩:BY)]) fun a=>(bT true (cd zP [.l (gi a 0).rZ,.l (gi a 0).rZ,.i (lI (gi a 0).rZ),.i 0]) fun g b=>(bif aH g 0 then some [.l (gi b 0).rZ,.t (gi b 1).bV] else some [.l (gi b 0).rZ,.t true])))
def adx:aM:=⟨92,[aS],[],[],[.s (.list [.str]),bP],[],[],[],DO⟩
def t98:aJ:=t97.aZ adx
def ady:aL P t98:=tP Qd func92 adw

def uc(d:LG):Option LG :=
 let a:=(aR (((gi d 1).sV.size:Nat):Int) (((gi d 0).sV.size:Nat):Int)); (bif a then (gd ((cA (((gi d 1).sV.size:Nat):Int))&&a) (some [.t (((gi d 0).sV.extract 0 (gi d 1).sV.size).toList==(gi d 1).sV.toList)])) else some [.t false])
def adz:aM:=⟨142,[aS,aS],[],[],[bP],[],[],[],uc⟩
def t99:aJ:=t98.aZ adz
def adA:aL P t99:=bL ady func142

def DP(d:LG):Option LG :=
 let a:=(((gi d 1).sV.size:Nat):Int); (aj (uc [.s (gi d 0).sV,.s (gi d 1).sV]) fun b=>(bif (!(gi b 0).bV) then some [.s (gi d 0).sV,.t false] else (gd ((cA a)&&(aR a (((gi d 0).sV.size:Nat):Int))) (some [.s ((gi d 0).sV.extract (gi d 1).sV.size (gi d 0).sV.size),.t true]))))
def adB:aM:=⟨103,[aS,aS],[],[],[aS,bP],[],[],[],DP⟩
def t100:aJ:=t99.aZ adB
def adC:aL P t100:=bL adA func103

def ud(d:LG):Option LG :=
 (aj (DP [.s (gi d 0).sV,.s (gi d 1).sV]) fun a=>some [.s (gi a 0).sV,.t (gi a 1).bV])
def adD:aM:=⟨68,[aS,aS],[],[],[aS,bP],[],[],[],ud⟩
def t101:aJ:=t100.aZ adD
def adE:aL P t101:=bL adC func68

def lY(d:LG):Option LG :=
 tN d
def Qe:aM:=⟨108,[aS],[],[],[az,.s (.yL)],[],[],[],lY⟩
def adF:gR P Qe:=fun d r h=>YA Tryz.Zg d r h
def t102:aJ:=t101.aZ Qe
def adG:aL P t102:=adE.aP adF

def zQ(d:LG):Option LG :=
 (aj (ud [.s (gi d 0).sV,.s (⟨#[45]⟩:BY)]) fun a=>let b:=(((gi a 0).sV.size:Nat):Int); let k:=lY [.s (gi a 0).sV]; (bif ((gi a 0).sV.toList==(⟨#[]⟩:BY).toList) then some [.i 0,.t false] else (bif (aK (gi d 1).iV b) then some [.i 0,.t false] else (aj (lV [.s (gi a 0).sV,.s (⟨#[48,49,50,51,52,53,54,55,56,57]⟩:BY)]) fun q=>(bif (!((gi q 0).sV.toList==(⟨#[]⟩:BY).toList)) then some [.i 0,.t false] else (gd (aK 0 b) (bif ((((gi a 0).sV.data.toList.getD 0 0).toNat:Int)==48) then (bif (aK 1 b) then some [.i 0,.t false] else (bif (gi a 1).bV then some [.i 0,.t false] else (aj k fun g=>(bif (gi a 1).bV then (gd (aF (0-(gi g 0).iV)) (some [.i (0-(gi g 0).iV),.t true])) else some [.i (gi g 0).iV,.t true])))) else (aj k fun h=>(bif (gi a 1).bV then (gd (aF (0-(gi h 0).iV)) (some [.i (0-(gi h 0).iV),.t true])) else some [.i (gi h 0).iV,.t true])))))))))
def adH:aM:=⟨131,[aS,az],[],[],[az,bP],[],[],[],zQ⟩
def t103:aJ:=t102.aZ adH
def Qf:aL P t103:=bL adG func131

def wL(d:LG):Option (Option Nat × LG) :=
 (bif (aK (gi d 3).iV (gi d 2).iV) then (gd (nL (gi d 3).iV (lI (gi d 0).rZ)) (bif ((gi d 1).sV.toList==(gi ((gi d 0).rZ.getD (((gi d 3).iV).toNat) []) 0).sV.toList) then eQ [.i (gi d 3).iV] else (gd (aF ((gi d 3).iV+1)) (some (none,kp d 0 [.l,.s,.i] [.i ((gi d 3).iV+1)]))))) else eR [])
def adI:bS:=⟨2,[],⟨19,[(0,.s (.list [.str])),(1,aS),(7,az),(8,az)],[]⟩,[],[⟨.ret,⟨19,rQ,[]⟩,[]⟩,⟨.exit 0,⟨19,[],[]⟩,[]⟩],wL⟩
def adJ:LT:=dc.add 0 adI
def adK:ba P 0 adJ (bp f109):=lA Qf (dx _ _ _)
def ue(d:LG):Option LG :=
 (bT true (cd wL [.l (gi d 0).rZ,.s (gi d 1).sV,.i (lI (gi d 0).rZ),.i 0]) fun a b=>(bif aH a 0 then some [.i (gi b 0).iV] else some [.i (-1)]))
def adL:aM:=⟨109,[.s (.list [.str]),aS],[],[],[az],[],[],[],ue⟩
def t104:aJ:=t103.aZ adL
def adM:aL P t104:=tP Qf func109 adK

def rW(d:LG):Option LG :=
 (bif ((((gi d 0).sV.size:Nat):Int) != (gi d 1).iV) then some [.i 0,.t false] else (aj (lV [.s (gi d 0).sV,.s (⟨#[48,49,50,51,52,53,54,55,56,57]⟩:BY)]) fun a=>(bif (!((gi a 0).sV.toList==(⟨#[]⟩:BY).toList)) then some [.i 0,.t false] else (aj (lY [.s (gi d 0).sV]) fun b=>some [.i (gi b 0).iV,.t true]))))
def adN:aM:=⟨172,[aS,az],[],[],[az,bP],[],[],[],rW⟩
def t105:aJ:=t104.aZ adN
def Qg:aL P t105:=bL adM func172

def wM(d:LG):Option (Option Nat × LG) :=
 let a:=(gi d 4).iV+1; let h:=ua [.i (gi d 3).iV,.i (gi d 4).iV]; let b:=(gi d 3).iV+1; (bif (aK (gi d 3).iV (gi d 0).iV) then (aj h fun k=>let g:=(gi d 2).iV+(gi k 0).iV; (gd (aF g) (gd (aF a) (bif (aK 12 a) then (gd (aF b) (nQ [.i (gi d 0).iV,.i (gi d 1).iV,.i g,.i b,.i 1])) else nQ [.i (gi d 0).iV,.i (gi d 1).iV,.i g,.i (gi d 3).iV,.i a])))) else (bif (aK (gi d 4).iV (gi d 1).iV) then (aj h fun q=>let z5:=(gi d 2).iV+(gi q 0).iV; (gd (aF z5) (gd (aF a) (bif (aK 12 a) then (gd (aF b) (nQ [.i (gi d 0).iV,.i (gi d 1).iV,.i z5,.i b,.i 1])) else nQ [.i (gi d 0).iV,.i (gi d 1).iV,.i z5,.i (gi d 3).iV,.i a])))) else eQ [.i (gi d 2).iV]))
def adO:bS:=⟨6,[],⟨57,[(0,az),(1,az),(11,az),(12,az),(13,az)],[]⟩,[],[⟨.exit 0,⟨57,[(11,az)],[]⟩,[]⟩],wM⟩
def adP:LT:=dc.add 0 adO
def adQ:ba P 0 adP (bp f173):=lA Qg (dx _ _ _)
def DQ(d:LG):Option LG :=
 (aj (ub [.i 4000]) fun b=>(aj (lX [.i (gi d 0).iV,.i 2024,.i (gi b 0).iV]) fun g=>(bif (gi g 0).bV then some [.i 0,.t false] else (aj (lX [.i (gi d 1).iV,.i 1,.i 12]) fun h=>(bif (gi h 0).bV then some [.i 0,.t false] else (aj (ua [.i (gi d 0).iV,.i (gi d 1).iV]) fun k=>(aj (lX [.i (gi d 2).iV,.i 1,.i (gi k 0).iV]) fun q=>(bif (gi q 0).bV then some [.i 0,.t false] else (gd (aF ((gi d 2).iV-1)) (bT true (cd wM [.i (gi d 0).iV,.i (gi d 1).iV,.i ((gi d 2).iV-1),.i 2024,.i 1]) fun v a=>some [.i (gi a 0).iV,.t (aR (gi a 0).iV 4000)]))))))))))
def adR:aM:=⟨173,[az,az,az],[],[],[az,bP],[],[],[],DQ⟩
def t106:aJ:=t105.aZ adR
def Qh:aL P t106:=tP Qg func173 adQ

def rX(d:LG):Option (Option Nat × LG) :=
 let b:=(aH (gi d 0).rZ.length (gi d 0).rZ.length)&&(decide (((gi d 0).rZ.length+1)<=1048576)); let g:=gi ((gi d 1).rZ.getD (((gi d 3).iV).toNat) []) 0; let a:=(gi d 3).iV+1; (bif (aK (gi d 3).iV (gi d 2).iV) then (gd (nL (gi d 3).iV (lI (gi d 1).rZ)) (bif ((gi d 3).iV==0) then (aj (rW [.s g.sV,.i 4]) fun h=>let k:=((gi d 0).rZ++([[.i (gi h 0).iV]]:LL)); (bif (!(gi h 1).bV) then eQ [.i 0,.t false] else (gd b (gd (aF a) (gd (bE k) (nQ [.l k,.l (gi d 1).rZ,.i (gi d 2).iV,.i a])))))) else (aj (rW [.s g.sV,.i 2]) fun q=>let z5:=((gi d 0).rZ++([[.i (gi q 0).iV]]:LL)); (bif (!(gi q 1).bV) then eQ [.i 0,.t false] else (gd b (gd (aF a) (gd (bE z5) (nQ [.l z5,.l (gi d 1).rZ,.i (gi d 2).iV,.i a])))))))) else (gd (bE (gi d 0).rZ) (eR [.l (gi d 0).rZ])))
def adS:bS:=⟨6,[(7,[.I])],⟨112,[(7,.s (.vQ 0 1)),(40,.s (.list [.str])),(41,az),(42,az)],[.vQ [.I] 0]⟩,[.aO 7],[⟨.ret,⟨112,[(4,az),(5,bP)],[]⟩,[]⟩,⟨.exit 0,⟨112,[(7,.s (.vQ 0 1))],[.vQ [.I] 0]⟩,[.aO 7]⟩],rX⟩
def adT:LT:=dc.add 0 adS
def adU:ba P 0 adT (bp f132):=lA Qh (dx _ _ _)
def DR(d:LG):Option LG :=
 let g:=(((gi d 1).sV.size:Nat):Int); (aj (n4 [.s (gi d 0).sV,.s (⟨#[45]⟩:BY)]) fun h=>let k:=(lI (gi h 0).rZ); (bif (k != 3) then some [.i 0,.t false] else (bif (g != 6) then some [.i 0,.t false] else (gd (aK 0 k) (gd (aK 1 k) (gd (aK 2 k) (gd (aR 2 g) (gd (aR 4 g) (gd (aR 4 g) (bT true (cd rX [.l [],.l [[.s (gi ((gi h 0).rZ.getD 0 []) 0).sV],[.s (gi ((gi h 0).rZ.getD 1 []) 0).sV],[.s (gi ((gi h 0).rZ.getD 2 []) 0).sV],[.s ((gi d 1).sV.extract 0 2)],[.s ((gi d 1).sV.extract 2 4)],[.s ((gi d 1).sV.extract 4 (gi d 1).sV.size)]],.i 6,.i 0]) fun F a=>let b:=(lI (gi a 0).rZ); let y:=decide (3<(gi a 0).rZ.length); let z:=decide (4<(gi a 0).rZ.length); let A:=decide (5<(gi a 0).rZ.length); let v:=gi ((gi a 0).rZ.getD 3 []) 0; let w:=(v.iV*60)+(gi ((gi a 0).rZ.getD 4 []) 0).iV; let z5:=(w*60)+(gi ((gi a 0).rZ.getD 5 []) 0).iV; (bif aH F 0 then some [.i (gi a 0).iV,.t (gi a 1).bV] else (gd (aK 0 b) (gd (decide (0<(gi a 0).rZ.length)) (gd (aK 1 b) (gd (decide (1<(gi a 0).rZ.length)) (gd (aK 2 b) (gd (decide (2<(gi a 0).rZ.length)) (aj (DQ [.i (gi ((gi a 0).rZ.getD 0 []) 0).iV,.i (gi ((gi a 0).rZ.getD 1 []) 0).iV,.i (gi ((gi a 0).rZ.getD 2 []) 0).iV]) fun B=>let q:=(gi B 0).iV*86400000; (bif (!(gi B 1).bV) then some [.i 0,.t false] else (gd (aK 3 b) (gd y (bif (aR 24 v.iV) then some [.i 0,.t false] else (gd (aK 4 b) (gd z (bif (aR 60 (gi ((gi a 0).rZ.getD 4 []) 0).iV) then some [.i 0,.t false] else (gd (aK 5 b) (gd A (bif (aR 60 (gi ((gi a 0).rZ.getD 5 []) 0).iV) then some [.i 0,.t false] else (gd (aF q) (gd (aK 3 b) (gd y (gd (aF (v.iV*60)) (gd (aK 4 b) (gd z (gd (aF w) (gd (aF (w*60)) (gd (aK 5 b) (gd A (gd (aF z5) (gd (aF (z5*1000)) (gd (aF (q+(z5*1000))) (some [.i (q+(z5*1000)),.t true]))))))))))))))))))))))))))))))))))))))))))
def adV:aM:=⟨132,[aS,aS],[],[],[az,bP],[],[],[],DR⟩
def t107:aJ:=t106.aZ adV
def adW:aL P t107:=tP Qh func132 adU

def zR(d:LG):Option LG :=
 (bif ((gi d 0).sV.toList==(⟨#[45]⟩:BY).toList) then some [.i 0,.t true] else (aj (zQ [.s (gi d 0).sV,.i 15]) fun a=>(bif (gi a 1).bV then some [.i (gi a 0).iV,.t ((gi a 0).iV != 0)] else some [.i (gi a 0).iV,.t false])))
def adX:aM:=⟨133,[aS],[],[],[az,bP],[],[],[],zR⟩
def t108:aJ:=t107.aZ adX
def adY:aL P t108:=bL adW func133

def zS(d:LG):Option LG :=
 (bif ((gi d 0).sV.toList==(⟨#[45]⟩:BY).toList) then some [.s (⟨#[]⟩:BY)] else some [.s (gi d 0).sV])
def adZ:aM:=⟨134,[aS],[],[],[aS],[],[],[],zS⟩
def t109:aJ:=t108.aZ adZ
def ad0:aL P t109:=bL adY func134

def DS(d:LG):Option LG :=
 let b:=((bE (gi d 4).rZ)&&true)&&true; let a:=(lI (gi d 5).rZ); let y:=gi ((gi d 5).rZ.getD 5 []) 0; (bif (a != 10) then (gd b (some (kp d 0 [.l,.s,.t,.t,.l] [.i 9]))) else (gd (aK 0 a) (bif (!((gi ((gi d 5).rZ.getD 0 []) 0).sV.toList==(⟨#[81,83,79,58]⟩:BY).toList)) then (gd b (some (kp d 0 [.l,.s,.t,.t,.l] [.i 9]))) else (gd (aK 1 a) (aj (zQ [.s (gi ((gi d 5).rZ.getD 1 []) 0).sV,.i 15]) fun g=>(aj (zM []) fun z=>(gd (aK 2 a) (aj (ue [.l (gi z 0).rZ,.s (gi ((gi d 5).rZ.getD 2 []) 0).sV]) fun k=>(gd (aK 3 a) (gd (aK 4 a) (aj (DR [.s (gi ((gi d 5).rZ.getD 3 []) 0).sV,.s (gi ((gi d 5).rZ.getD 4 []) 0).sV]) fun q=>(gd (aK 6 a) (aj (zR [.s (gi ((gi d 5).rZ.getD 6 []) 0).sV]) fun v=>(gd (aK 8 a) (aj (zR [.s (gi ((gi d 5).rZ.getD 8 []) 0).sV]) fun w=>(bif (!(gi g 1).bV) then (gd b (some (kp d 0 [.l,.s,.t,.t,.l] [.i 9]))) else (bif (!(gi q 1).bV) then (gd b (some (kp d 0 [.l,.s,.t,.t,.l] [.i 9]))) else (bif (!(gi v 1).bV) then (gd b (some (kp d 0 [.l,.s,.t,.t,.l] [.i 9]))) else (bif (!(gi w 1).bV) then (gd b (some (kp d 0 [.l,.s,.t,.t,.l] [.i 9]))) else (bif (aK (gi k 0).iV 1) then (gd b (some (kp d 0 [.l,.s,.t,.t,.l] [.i 9]))) else (bif (aR (gi g 0).iV 30000000) then (gd (aF ((gi g 0).iV*1000)) (aj (zH [.l (gi d 0).rZ,.i ((gi g 0).iV*1000)]) fun h=>let A:=gi ((gi d 0).rZ.getD (((gi h 0).iV).toNat) []) 0; (bif (aK (gi h 0).iV 0) then (gd b (some (kp d 0 [.l,.s,.t,.t,.l] [.i 8]))) else (gd (nL (gi h 0).iV (lI (gi d 0).rZ)) (gd (aK 5 a) (gd (aK 7 a) (aj (zS [.s (gi ((gi d 5).rZ.getD 7 []) 0).sV]) fun B=>(gd (aK 9 a) (aj (zS [.s (gi ((gi d 5).rZ.getD 9 []) 0).sV]) fun F=>let z5:=((gi d 4).rZ++([[.i (gi q 0).iV,.i (gi k 0).iV,.s A.sV,.s y.sV,.i (gi v 0).iV,.i (gi w 0).iV,.s (gi B 0).sV,.s (gi F 0).sV]]:LL)); (gd ((aH (gi d 4).rZ.length (gi d 4).rZ.length)&&(decide (((gi d 4).rZ.length+1)<=1048576))) (gd (((bE z5)&&true)&&true) (some (kp d 0 [.l,.s,.t,.t] [.l z5,.i 0]))))))))))))) else (gd b (some (kp d 0 [.l,.s,.t,.t,.l] [.i 8]))))))))))))))))))))))))
def ad1:aM:=⟨93,[.s (.ptr 0 0),.s (.list [.str])],[.box [.list cw,.str,.bool,.bool,.vQ 1 8],.vQ bI 0],[.aO 0,.cell 0 4],[az],[.box [.list cw,.str,.bool,.bool,.vQ 1 8],.vQ bI 1],[.fix 0,.fix 1],[],DS⟩
def t110:aJ:=t109.dK ad1
def ad2:aL P t110:=kE ad0 func93

def DT(d:LG):Option LG :=
 let a:=((bE (gi d 4).rZ)&&true)&&true; (bif ((gi d 5).sV.toList==(⟨#[]⟩:BY).toList) then (gd a (some (kp d 0 [.l,.s,.t,.t,.l] [.i 0]))) else (aj (DO [.s (gi d 5).sV]) fun b=>let h:=DS (kp d 0 [.l,.s,.t,.t,.l] [.l (gi b 0).rZ]); let g:=(lI (gi b 0).rZ); (bif (!(gi b 1).bV) then (gd a (some (kp d 0 [.l,.s,.t,.t,.l] [.i 9]))) else (bif (gi d 3).bV then (gd a (some (kp d 0 [.l,.s,.t,.t,.l] [.i 9]))) else (bif (!(gi d 2).bV) then (bif (g != 2) then (gd a (some (kp d 0 [.l,.s,.t,.t,.l] [.i 9]))) else (gd (aK 0 g) (bif (!((gi ((gi b 0).rZ.getD 0 []) 0).sV.toList==(⟨#[67,65,76,76,58]⟩:BY).toList)) then (gd a (some (kp d 0 [.l,.s,.t,.t,.l] [.i 9]))) else (gd (aK 1 g) (gd a (some [.l (gi d 0).rZ,.s (gi ((gi b 0).rZ.getD 1 []) 0).sV,.t true,.t (gi d 3).bV,.l (gi d 4).rZ,.i 0])))))) else (bif ((gi d 5).sV.toList==(⟨#[69,78,68]⟩:BY).toList) then (gd a (some (kp d 0 [.l,.s,.t] [.t true,.l (gi d 4).rZ,.i 0]))) else (iY (a&&h.isSome) h fun k=>(gd (((bE (gi k 4).rZ)&&true)&&true) (some (kp k 0 [.l,.s,.t,.t,.l,.i] []))))))))))
def ad3:aM:=⟨53,[.s (.ptr 0 0),aS],[.box [.list cw,.str,.bool,.bool,.vQ 1 8],.vQ bI 0],[.aO 0,.cell 0 4],[az],[.box [.list cw,.str,.bool,.bool,.vQ 1 8],.vQ bI 1],[.fix 0,.fix 1],[],DT⟩
def t111:aJ:=t110.dK ad3
def IC:aL P t111:=kE ad2 func53

def Qi(d:LG):Option (Option Nat × LG) :=
 let a:=(gi d 4).iV-1; let b:=(gi d 0).rZ.set (0+((gi d 4).iV).toNat) (fN bI ((gi d 0).rZ.getD (0+((gi d 4).iV).toNat) []) 0 (bF bI ((gi d 0).rZ.getD (0+a.toNat) []))); let k:=(lI (gi d 0).rZ); let q:=b.set (0+a.toNat) (fN bI (b.getD (0+a.toNat) []) 0 (bF bI ((gi d 0).rZ.getD (0+((gi d 4).iV).toNat) []))); let z5:=decide ((0+((gi d 4).iV).toNat)<(gi d 0).rZ.length); let g:=nL (gi d 4).iV k; let t:=bE (gi d 0).rZ; let v:=decide ((0+a.toNat)<(gi d 0).rZ.length); let h:=nL a k; (bif (aK (gi d 1).iV (gi d 4).iV) then (gd g (gd z5 (gd (aF a) (gd h (gd v (aj (qm [.l [(bF bI ((gi d 0).rZ.getD (0+((gi d 4).iV).toNat) []))],.l [(bF bI ((gi d 0).rZ.getD (0+a.toNat) []))]]) fun w=>(bif (aK (gi w 0).iV 0) then (gd (aF a) (gd (aF a) (gd h (gd v (gd g (gd z5 (gd g (gd z5 (gd h (gd (decide ((0+a.toNat)<b.length)) (gd (aF a) (gd ((aH (gi d 0).rZ.length q.length)&&true) (some (none,.l q::kp d 1 [.i,.i,.i] [.i a])))))))))))))) else (gd t (some (some 0,kp d 0 [.l,.i,.i,.i] [])))))))))) else (gd t (some (some 0,kp d 0 [.l,.i,.i,.i] []))))
def ad4:bS:=⟨4,[],⟨53,[(0,.s (.vQ 0 8)),(1,az),(2,az),(3,.s (.fn 54)),(8,az),(9,az)],fW⟩,[.fix 0],[⟨.exit 2,⟨53,Pr,fW⟩,[.fix 0]⟩],Qi⟩
def Qj:LT:=dc.add 1 ad4
def ad5:ba P 1 Qj (bp f114):=lA IC (dx _ _ _)
def Qk(d:LG):Option (Option Nat × LG) :=
 (bif (aK (gi d 3).iV (gi d 2).iV) then (bT (bE (gi d 0).rZ) (cd Qi (kp d 0 [.l,.i,.i,.i] [.i (gi d 3).iV])) fun b a=>(gd (aF ((gi a 3).iV+1)) (gd (bE (gi a 0).rZ) (some (none,kp a 0 [.l,.i,.i] [.i ((gi a 3).iV+1)]))))) else eQ [.l (gi d 0).rZ])
def ad6:bS:=⟨1,[],⟨53,Pr,fW⟩,[.fix 0],[⟨.exit 0,⟨53,[],fW⟩,[.fix 0]⟩],Qk⟩
def ad7:LT:=Qj.add 1 ad6
def ad8:ba P 1 ad7 (bp f114):=lA IC ad5
def ID(d:LG):Option LG :=
 (gd (aF ((gi d 1).iV+1)) (bT (bE (gi d 0).rZ) (cd Qk (kp d 0 [.l,.i,.i] [.i ((gi d 1).iV+1)])) fun b a=>some [.l (gi a 0).rZ]))
def ad9:aM:=⟨114,[.s (.vQ 0 8),az,az,.s (.fn 54)],[.vQ bI 0],[.aO 0],[],[.vQ bI 0],[.fix 0],[],ID⟩
def t112:aJ:=t111.dK ad9
def DU:aL P t112:=tW IC func114 ad8

def Ql(d:LG):Option (Option Nat × LG) :=
 let a:=ID [.l (gi d 0).rZ,.i (gi d 3).iV,.i (gi d 4).iV]; let b:=bE (gi d 0).rZ; let g:=(gi d 4).iV+(gi d 2).iV; (bif (aR (gi d 4).iV (gi d 1).iV) then (iY (b&&a.isSome) a fun h=>(gd (aF g) (gd ((aH (gi d 0).rZ.length (gi h 0).rZ.length)&&true) (nQ [.l (gi h 0).rZ,.i (gi d 1).iV,.i (gi d 2).iV,.i (gi d 4).iV,.i g])))) else (gd b (some (some 0,kp d 0 [.l,.i,.i,.i] []))))
def ad_:bS:=⟨2,[],⟨63,Pt,fW⟩,[.fix 0],[⟨.exit 0,⟨63,Pu,fW⟩,[.fix 0]⟩],Ql⟩
def Qm:LT:=dc.add 1 ad_
def ad':ba P 1 Qm (bp f77):=lA DU (dx _ _ _)
def Qn(d:LG):Option (Option Nat × LG) :=
 (bif (aR (gi d 4).iV (gi d 1).iV) then (gd (aF ((gi d 3).iV+(gi d 2).iV)) none) else (gd (bE (gi d 0).rZ) (some (some 0,kp d 0 [.l,.i,.i,.i] []))))
def aea:bS:=⟨9,[],⟨63,Pt,fW⟩,[.fix 0],[⟨.exit 4,⟨63,Pu,fW⟩,[.fix 0]⟩],Qn⟩
def Qo:LT:=Qm.add 1 aea
def aeb:ba P 1 Qo (bp f77):=lA DU ad'
def Qp(d:LG):Option (Option Nat × LG) :=
 (bif (aK (gi d 2).iV (gi d 1).iV) then (gd (aF (2*(gi d 2).iV)) (bT (bE (gi d 0).rZ) (cd Qn (kp d 0 [.l,.i,.i] [.i 0,.i (2*(gi d 2).iV)])) fun g a=>let b:=(gi a 3).iV+(gi a 2).iV; (gd (aF b) (bif (aK b (gi a 1).iV) then none else (gd (aF ((gi a 2).iV*2)) (gd (bE (gi a 0).rZ) (nQ [.l (gi a 0).rZ,.i (gi a 1).iV,.i ((gi a 2).iV*2)]))))))) else eQ [.l (gi d 0).rZ])
def aec:bS:=⟨7,[],⟨63,[(0,.s (.vQ 0 8)),(1,az),(2,.s (.fn 54)),(6,az)],fW⟩,[.fix 0],[⟨.exit 2,⟨63,[],fW⟩,[.fix 0]⟩],Qp⟩
def aed:LT:=Qo.add 1 aec
def aee:ba P 1 aed (bp f77):=lA DU aeb
def Qq(d:LG):Option LG :=
 (bT (bE (gi d 0).rZ) (cd Ql [.l (gi d 0).rZ,.i (gi d 1).iV,.i 20,.i 0,.i 20]) fun k a=>let b:=ID [.l (gi a 0).rZ,.i (gi a 3).iV,.i (gi a 1).iV]; (iY ((bE (gi a 0).rZ)&&b.isSome) b fun g=>(bT ((aH (gi a 0).rZ.length (gi g 0).rZ.length)&&true) (cd Qp [.l (gi g 0).rZ,.i (gi a 1).iV,.i (gi a 2).iV]) fun q h=>some [.l (gi h 0).rZ])))
def aef:aM:=⟨77,[.s (.vQ 0 8),az,.s (.fn 54)],[.vQ bI 0],[.aO 0],[],[.vQ bI 0],[.fix 0],[],Qq⟩
def t113:aJ:=t112.dK aef
def aeg:aL P t113:=tW DU func77 aee

def IE(d:LG):Option LG :=
 let a:=(Qq [.l (gi d 0).rZ,.i (lI (gi d 0).rZ)]); (iY ((bE (gi d 0).rZ)&&a.isSome) a fun b=>some [.l (gi b 0).rZ])
def aeh:aM:=⟨29,[.s (.vQ 0 8),.s (.fn 54)],[.vQ bI 0],[.aO 0],[],[.vQ bI 0],[.fix 0],[],IE⟩
def t114:aJ:=t113.dK aeh
def DV:aL P t114:=kE aeg func29

def rY(d:LG):Option (Option Nat × LG) :=
 let g:=DT (kp d 0 [.l,.s,.t,.t,.l] [.s (gi ((gi d 7).rZ.getD (((gi d 9).iV).toNat) []) 0).sV]); let h:=((bE (gi d 4).rZ)&&true)&&true; let b:=(gi d 9).iV+1; let k:=((lI (gi d 5).rZ)-1); let z5:=(⟨#[]⟩:BY); (bif (aK (gi d 9).iV (gi d 8).iV) then (gd (nL (gi d 9).iV (lI (gi d 7).rZ)) (iY (h&&g.isSome) g fun a=>let q:=((bE (gi a 4).rZ)&&true)&&true; (bif (!(gi d 6).bV) then (gd (aF k) (bif ((gi d 9).iV==k) then eQ [.s z5,.l [],.i (gi d 9).iV,.i 9] else (bif ((gi a 5).iV != 0) then eQ [.s z5,.l [],.i (gi d 9).iV,.i (gi a 5).iV] else (gd (aF b) (gd q (some (none,kp a 0 [.l,.s,.t,.t,.l] (kp d 5 [.l,.t,.l,.i] [.i b])))))))) else (bif ((gi a 5).iV != 0) then eQ [.s z5,.l [],.i (gi d 9).iV,.i (gi a 5).iV] else (gd (aF b) (gd q (some (none,kp a 0 [.l,.s,.t,.t,.l] (kp d 5 [.l,.t,.l,.i] [.i b]))))))))) else (gd h (some (some 1,kp d 0 [.l,.s,.t,.t,.l,.l] []))))
def aei:bS:=⟨9,[],⟨117,[(9,.s (.list [.str])),(10,bP),(11,.s (.ptr 0 0)),(33,.s (.list [.str])),(34,az),(35,az)],Df⟩,[.aO 11,.cell 0 4],[⟨.ret,⟨117,Ip,[]⟩,[]⟩,⟨.exit 0,⟨117,[(9,.s (.list [.str])),(11,.s (.ptr 0 0))],Df⟩,[.aO 11,.cell 0 4]⟩],rY⟩
def Qr:LT:=(dc.CQ [(8,[.CB 11 4 bI])]).add 0 aei
def aej:ba P 0 Qr (bp f12):=ba.add hm (DV.lf [41]) (by kernel_rfl) (CR _) (fun d=>by kernel_rfl)
def r7(d:LG):Option (Option Nat × LG) :=
 let g:=((bE (gi d 4).rZ)&&true)&&true; let b:=(lI (gi d 4).rZ); let a:=(gi d 5).iV-1; let h:=0+((gi d 5).iV).toNat; (bif (aK (gi d 5).iV b) then (gd (aF a) (gd (nL a b) (gd (decide ((0+a.toNat)<(gi d 4).rZ.length)) (gd (nL (gi d 5).iV b) (gd (decide (h<(gi d 4).rZ.length)) (aj (qm [.l [(bF bI ((gi d 4).rZ.getD (0+a.toNat) []))],.l [(bF bI ((gi d 4).rZ.getD h []))]]) fun k=>(bif ((gi k 0).iV==0) then eQ [.s (⟨#[]⟩:BY),.l [],.i 0,.i 6] else (gd (aF ((gi d 5).iV+1)) (gd g (some (none,kp d 0 [.l,.s,.t,.t,.l] [.i ((gi d 5).iV+1)]))))))))))) else (gd g (some (some 1,kp d 0 [.l,.s,.t,.t,.l] []))))
def aek:bS:=⟨23,[],⟨117,[(11,.s (.ptr 0 0)),(15,az)],Df⟩,[.aO 11,.cell 0 4],[⟨.ret,⟨117,Ip,[]⟩,[]⟩,⟨.exit 2,⟨117,[(11,.s (.ptr 0 0))],Df⟩,[.aO 11,.cell 0 4]⟩],r7⟩
def ael:LT:=Qr.add 0 aek
def aem:ba P 0 ael (bp f12):=ba.add hm (DV.lf [41]) (by kernel_rfl) aej (fun d=>by kernel_rfl)
def uf(d:LG):Option LG :=
 let b:=(⟨#[]⟩:BY); (aj (tZ [.l (gi d 0).rZ]) fun k=>(bif ((gi k 0).iV != 0) then some [.s b,.l [],.i 0,.i (gi k 0).iV] else (bif (aK 200000 (((gi d 1).sV.size:Nat):Int)) then some [.s b,.l [],.i 0,.i 2] else (aj (DN [.s (gi d 1).sV]) fun h=>(bT true (cd rY [.l (gi d 0).rZ,.s b,.t false,.t false,.l [],.l (gi h 0).rZ,.t (gi h 1).bV,.l (gi h 0).rZ,.i (lI (gi h 0).rZ),.i 0]) fun A a=>let q:=IE [.l (gi a 4).rZ]; (bif aH A 0 then some (kp a 0 [.s,.l,.i,.i] []) else (bif (!(gi a 3).bV) then some [.s b,.l [],.i (lI (gi a 5).rZ),.i 9] else (aj (rU [.s (gi a 1).sV]) fun F=>(bif (!(gi F 0).bV) then some [.s b,.l [],.i 0,.i 3] else (iY ((bE (gi a 4).rZ)&&q.isSome) q fun v=>(bT ((((aH (gi a 4).rZ.length (gi v 0).rZ.length)&&true)&&true)&&true) (cd r7 (kp a 0 [.l,.s,.t,.t] [.l (gi v 0).rZ,.i 1])) fun B g=>let w:=bE (gi g 4).rZ; let y:=wJ [.l (gi g 4).rZ]; (bif aH B 0 then some (kp g 0 [.s,.l,.i,.i] []) else (iY (w&&y.isSome) y fun z=>(bif ((gi z 0).iV != 0) then some [.s b,.l [],.i 0,.i (gi z 0).iV] else (gd w (some [.s (gi g 1).sV,.l (gi g 4).rZ,.i 0,.i 0]))))))))))))))))
def aen:aM:=⟨12,[.s (.list cw),aS],[],[],[aS,gT,az,az],[],[],[],uf⟩
def t115:aJ:=t114.aZ aen
def aeo:aL P t115:=DV.aP (qc hm (DV.lf [41]) func12 (by kernel_rfl) aem (fun d=>by kernel_rfl) (by kernel_rfl))

def zT(d:LG):Option LG :=
 (bif (gi d 0).bV then some [.i (gi d 1).iV] else some [.i 0])
def aep:aM:=⟨15,[bP,az],[],[],[az],[],[],[],zT⟩
def t116:aJ:=t115.aZ aep
def Qs:aL P t116:=bL aeo func15

def zU(d:LG):Option (Option Nat × LG) :=
 let a:=gi ((gi d 0).rZ.getD (((gi d 2).iV).toNat) []) 0; (bif (aK (gi d 2).iV (gi d 1).iV) then (gd (nL (gi d 2).iV (lI (gi d 0).rZ)) (bif (a.iV != 0) then eQ [.i a.iV] else (gd (aF ((gi d 2).iV+1)) (nQ [.l (gi d 0).rZ,.i (gi d 1).iV,.i ((gi d 2).iV+1)])))) else eR [])
def aeq:bS:=⟨2,[],⟨15,[(5,mP),(6,az),(7,az)],[]⟩,[],[⟨.ret,⟨15,qk,[]⟩,[]⟩,⟨.exit 0,⟨15,[],[]⟩,[]⟩],zU⟩
def aer:LT:=dc.add 0 aeq
def aes:ba P 0 aer (bp f13):=lA Qs (dx _ _ _)
def zV(d:LG):Option LG :=
 (bT true (cd zU [.l (gi d 0).rZ,.i (lI (gi d 0).rZ),.i 0]) fun a b=>(bif aH a 0 then some [.i (gi b 0).iV] else some [.i 0]))
def aet:aM:=⟨13,[mP],[],[],[az],[],[],[],zV⟩
def t117:aJ:=t116.aZ aet
def Qt:aL P t117:=tP Qs func13 aes

def zW(d:LG):Option (Option Nat × LG) :=
 let b:=(gi d 1).rZ.getD (((gi d 3).iV).toNat) []; let a:=(gi d 3).iV+1; (bif (aK (gi d 3).iV (gi d 2).iV) then (gd (nL (gi d 3).iV (lI (gi d 1).rZ)) (bif (aR (gi b 1).iV (gi d 0).iV) then (bif (aK (gi d 0).iV (gi b 2).iV) then eQ [.s (gi b 0).sV] else (gd (aF a) (some (none,kp d 0 [.i,.l,.i] [.i a])))) else (gd (aF a) (some (none,kp d 0 [.i,.l,.i] [.i a]))))) else eR [])
def aeu:bS:=⟨2,[],⟨26,[(1,az),(7,.s (.list cw)),(8,az),(9,az)],[]⟩,[],[⟨.ret,⟨26,[(4,aS)],[]⟩,[]⟩,⟨.exit 0,⟨26,[],[]⟩,[]⟩],zW⟩
def aev:LT:=dc.add 0 aeu
def aew:ba P 0 aev (bp f16):=lA Qt (dx _ _ _)
def zX(d:LG):Option LG :=
 (bT true (cd zW [.i (gi d 1).iV,.l (gi d 0).rZ,.i (lI (gi d 0).rZ),.i 0]) fun a b=>(bif aH a 0 then some [.s (gi b 0).sV] else some [.s (⟨#[]⟩:BY)]))
def aex:aM:=⟨16,[.s (.list cw),az],[],[],[aS],[],[],[],zX⟩
def t118:aJ:=t117.aZ aex
def aey:aL P t118:=tP Qt func16 aew

def DW(d:LG):Option LG :=
 (aj (ue [.l (gi d 0).rZ,.s (gi d 1).sV]) fun a=>some [.t (aR 0 (gi a 0).iV)])
def aez:aM:=⟨144,[.s (.list [.str]),aS],[],[],[bP],[],[],[],DW⟩
def t119:aJ:=t118.aZ aez
def aeA:aL P t119:=bL aey func144

def DX(d:LG):Option LG :=
 (aj (n4 [.s (gi d 0).sV,.s (⟨#[32]⟩:BY)]) fun a=>(aj (DW [.l (gi a 0).rZ,.s (⟨#[]⟩:BY)]) fun b=>some [.l (gi a 0).rZ,.t (!(gi b 0).bV)]))
def aeB:aM:=⟨105,[aS],[],[],[.s (.list [.str]),bP],[],[],[],DX⟩
def t120:aJ:=t119.aZ aeB
def aeC:aL P t120:=bL aeA func105

def IF(d:LG):Option LG :=
 let a:=(((gi d 1).sV.size:Nat):Int); (aj (uc [.s (gi d 0).sV,.s (gi d 1).sV]) fun b=>(bif (gi b 0).bV then (gd ((cA a)&&(aR a (((gi d 0).sV.size:Nat):Int))) (some [.s ((gi d 0).sV.extract (gi d 1).sV.size (gi d 0).sV.size)])) else some [.s (gi d 0).sV]))
def aeD:aM:=⟨182,[aS,aS],[],[],[aS],[],[],[],IF⟩
def t121:aJ:=t120.aZ aeD
def aeE:aL P t121:=bL aeC func182

def DY(d:LG):Option LG :=
 (aj (IF [.s (gi d 0).sV,.s (gi d 1).sV]) fun a=>some [.s (gi a 0).sV])
def aeF:aM:=⟨145,[aS,aS],[],[],[aS],[],[],[],DY⟩
def t122:aJ:=t121.aZ aeF
def aeG:aL P t122:=bL aeE func145

def zY(d:LG):Option LG :=
 (aj (DY [.s (gi d 0).sV,.s (⟨#[45]⟩:BY)]) fun a=>(bif ((gi a 0).sV.toList==(⟨#[]⟩:BY).toList) then some [.i 0,.t false] else (bif (aK (gi d 1).iV (((gi a 0).sV.size:Nat):Int)) then some [.i 0,.t false] else (aj (tS [.s (gi a 0).sV,.s (⟨#[48,49,50,51,52,53,54,55,56,57]⟩:BY)]) fun g=>(bif (!(gi g 0).bV) then some [.i 0,.t false] else (aj (lY [.s (gi d 0).sV]) fun b=>(aj (lk [.i (gi b 0).iV]) fun h=>some [.i (gi b 0).iV,.t ((gi h 0).sV.toList==(gi d 0).sV.toList)])))))))
def aeH:aM:=⟨106,[aS,az],[],[],[az,bP],[],[],[],zY⟩
def t123:aJ:=t122.aZ aeH
def Qu:aL P t123:=bL aeG func106

def qn(d:LG):Option (Option Nat × LG) :=
 let a:=Int.tdiv ((gi d 1).iV+(gi d 2).iV) 2; (bif (aK (gi d 1).iV (gi d 2).iV) then (gd (aF ((gi d 1).iV+(gi d 2).iV)) (gd (aF a) (aj (tX [.i a]) fun b=>(bif (!(Op.bytesLess (gi b 0).sV.toList (gi d 0).sV.toList)) then nQ [.s (gi d 0).sV,.i (gi d 1).iV,.i a] else (gd (aF (a+1)) (nQ [.s (gi d 0).sV,.i (a+1),.i (gi d 2).iV])))))) else eQ [.s (gi d 0).sV,.i (gi d 1).iV])
def aeI:bS:=⟨2,[],⟨26,[(0,aS),(4,az),(5,az)],[]⟩,[],[⟨.exit 0,⟨26,[(0,aS),(4,az)],[]⟩,[]⟩],qn⟩
def aeJ:LT:=dc.add 0 aeI
def aeK:ba P 0 aeJ (bp f107):=lA Qu (dx _ _ _)
def DZ(d:LG):Option LG :=
 (bT true (cd qn [.s (gi d 0).sV,.i 0,.i 4000]) fun g a=>(aj (tX [.i (gi a 1).iV]) fun b=>some [.i (gi a 1).iV,.t ((gi b 0).sV.toList==(gi a 0).sV.toList)]))
def aeL:aM:=⟨107,[aS],[],[],[az,bP],[],[],[],DZ⟩
def t124:aJ:=t123.aZ aeL
def aeM:aL P t124:=tP Qu func107 aeK

def zZ(d:LG):Option LG :=
 (bif ((gi d 0).sV.toList==(⟨#[45]⟩:BY).toList) then some [.s (⟨#[]⟩:BY)] else some [.s (gi d 0).sV])
def aeN:aM:=⟨110,[aS],[],[],[aS],[],[],[],zZ⟩
def t125:aJ:=t124.aZ aeN
def aeO:aL P t125:=bL aeM func110

def z_(d:LG):Option LG :=
 (bif ((gi d 0).sV.toList==(⟨#[45]⟩:BY).toList) then some [.i 0,.t true] else (aj (zY [.s (gi d 0).sV,.i 15]) fun a=>(bif (gi a 1).bV then some [.i (gi a 0).iV,.t ((gi a 0).iV != 0)] else some [.i (gi a 0).iV,.t false])))
def aeP:aM:=⟨111,[aS],[],[],[az,bP],[],[],[],z_⟩
def t126:aJ:=t125.aZ aeP
def aeQ:aL P t126:=bL aeO func111

end
end Go.Proofs.jL
