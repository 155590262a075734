/-
 What is proved here: functions of the program as functions on data. No condition.
-/
import Derived.Test.YtmhkodhaodcfdaaGreatDoorML1
set_option linter.all false
open Int renaming tmod->dS,tdiv->eW
open Nat renaming beq->aH,ble->bf
namespace Go.Proofs.jL
open Go Go.AL Go.Proofs Tryz
noncomputable section
def wx(d:LG):Option LG :=
 let a:=dS (gi d 0).iV (gi d 1).iV; (bif (aK (gi d 1).iV 1) then some [.i 0] else (gd (!((gi d 1).iV==0)) (bif (aK a 0) then (gd (aF (a+(gi d 1).iV)) (some [.i (a+(gi d 1).iV)])) else some [.i a])))
def ZH:aM:=⟨76,[az,az],[],[],[az],[],[],[],wx⟩
def t6:aJ:=t5.aZ ZH
def ZI:aL P t6:=bL ZG func76

def mQ(d:LG):Option LG :=
 let b:=(lI (gi d 0).rZ); let a:=(gi d 1).iV+1; let g:=dS (a-1) b; let h:=(eW (a-1) b)*(7919+g); (gd (aF a) (bif (b==0) then (gd (aF (a*7919)) (aj (wx [.i (a*7919),.i (gi d 2).iV]) fun q=>some [.l (gi d 0).rZ,.i a,.i (gi q 0).iV])) else (gd (aF (a-1)) (gd (!(b==0)) (gd (aF (a-1)) (gd ((!(b==0))&&(aF (eW (a-1) b))) (gd (nL g b) (aj (wx [.i (gi ((gi d 0).rZ.getD (g.toNat) []) 0).iV,.i 1073741824]) fun k=>(gd (aF (7919+g)) (gd (aF h) (gd (aF ((gi k 0).iV+h)) (aj (wx [.i ((gi k 0).iV+h),.i (gi d 2).iV]) fun t=>some [.l (gi d 0).rZ,.i a,.i (gi t 0).iV]))))))))))))
def ZJ:aM:=⟨24,[.s (.ptr 0 0),az],[.box [.list [.I],.I]],[.aO 0],[az],[.box [.list [.I],.I]],[.fix 0],[],mQ⟩
def t7:aJ:=t6.dK ZJ
def ZK:aL P t7:=kE ZI func24

def kF(d:LG):Option LG :=
 (aj (mQ (kp d 0 [.l,.i,.i] [])) fun a=>some [.l (gi a 0).rZ,.i (gi a 1).iV,.t ((gi a 2).iV==0)])
def ZL:aM:=⟨23,[.s (.ptr 0 0),az],[.box [.list [.I],.I]],[.aO 0],[bP],[.box [.list [.I],.I]],[.fix 0],[],kF⟩
def t8:aJ:=t7.dK ZL
def ZM:aL P t8:=kE ZK func23

def ll(d:LG):Option LG :=
 let b:=(lI (gi d 2).rZ); (aj (mQ [.l (gi d 0).rZ,.i (gi d 1).iV,.i b]) fun a=>(gd (nL (gi a 2).iV b) (some [.l (gi a 0).rZ,.i (gi a 1).iV,.s (gi ((gi d 2).rZ.getD (((gi a 2).iV).toNat) []) 0).sV])))
def ZN:aM:=⟨25,[.s (.ptr 0 0),.s (.list [.str])],[.box [.list [.I],.I]],[.aO 0],[aS],[.box [.list [.I],.I]],[.fix 0],[],ll⟩
def t9:aJ:=t8.dK ZN
def ZO:aL P t9:=kE ZM func25

def lW(d:LG):Option LG :=
 let b:=(lI (gi d 2).rZ); (aj (mQ [.l (gi d 0).rZ,.i (gi d 1).iV,.i b]) fun a=>(gd (nL (gi a 2).iV b) (some [.l (gi a 0).rZ,.i (gi a 1).iV,.i (gi ((gi d 2).rZ.getD (((gi a 2).iV).toNat) []) 0).iV])))
def ZP:aM:=⟨27,[.s (.ptr 0 0),mP],[.box [.list [.I],.I]],[.aO 0],[az],[.box [.list [.I],.I]],[.fix 0],[],lW⟩
def t10:aJ:=t9.dK ZP
def ZQ:aL P t10:=kE ZO func27

def rP(d:LG):Option LG :=
 let a:=(gi d 3).iV-(gi d 2).iV; (bif (aK (gi d 3).iV (gi d 2).iV) then some (kp d 0 [.l,.i,.i] []) else (gd (aF a) (gd (aF (a+1)) (aj (mQ [.l (gi d 0).rZ,.i (gi d 1).iV,.i (a+1)]) fun b=>let g:=(gi d 2).iV+(gi b 2).iV; (gd (aF g) (some [.l (gi b 0).rZ,.i (gi b 1).iV,.i g]))))))
def ZR:aM:=⟨8,[.s (.ptr 0 0),az,az],[.box [.list [.I],.I]],[.aO 0],[az],[.box [.list [.I],.I]],[.fix 0],[],rP⟩
def t11:aJ:=t10.dK ZR
def ZS:aL P t11:=kE ZQ func8

def nY(d:LG):Option LG :=
 (aj (kF [.l (gi d 0).rZ,.i (gi d 1).iV,.i 12]) fun a=>(bif (gi a 2).bV then (gd (aF ((gi d 2).iV-1)) (gd (aF ((gi d 3).iV+1)) (aj (lW [.l (gi a 0).rZ,.i (gi a 1).iV,.l [[.i ((gi d 2).iV-1)],[.i ((gi d 3).iV+1)],[.i (gi d 2).iV],[.i (gi d 3).iV],[.i (-1099511627776)],[.i 1099511627776]]]) fun b=>some (kp b 0 [.l,.i,.i] [])))) else (aj (rP [.l (gi a 0).rZ,.i (gi a 1).iV,.i (gi d 2).iV,.i (gi d 3).iV]) fun g=>some (kp g 0 [.l,.i,.i] []))))
def ZT:aM:=⟨26,[.s (.ptr 0 0),az,az],[.box [.list [.I],.I]],[.aO 0],[az],[.box [.list [.I],.I]],[.fix 0],[],nY⟩
def t12:aJ:=t11.dK ZT
def Pk:aL P t12:=kE ZS func26

def wy(d:LG):Option (Option Nat × LG) :=
 let h:=((gi d 2).rZ++([(bF cw ((gi d 3).rZ.getD (((gi d 5).iV).toNat) []))]:LL)); let g:=aH (gi d 2).rZ.length (gi d 2).rZ.length; let b:=(gi d 5).iV+1; (bif (aK (gi d 5).iV (gi d 4).iV) then (gd (nL (gi d 5).iV (lI (gi d 3).rZ)) (aj (kF [.l (gi d 0).rZ,.i (gi d 1).iV,.i 8]) fun a=>(bif (!(gi a 2).bV) then (gd (g&&(decide (((gi d 2).rZ.length+1)<=1048576))) (gd (aF b) (gd (bE h) (nQ [.l (gi a 0).rZ,.i (gi a 1).iV,.l h,.l (gi d 3).rZ,.i (gi d 4).iV,.i b])))) else (gd (aF b) (gd (g&&true) (some (none,.l (gi a 0).rZ::.i (gi a 1).iV::kp d 2 [.l,.l,.i] [.i b]))))))) else (gd (g&&true) (some (some 0,kp d 0 [.l,.i,.l] []))))
abbrev fW:List cH:=[.vQ bI 0]
abbrev zn:List cH:=[.box [.list [.I],.I]]
abbrev De:List cH:=[.box [.list [.I],.I],.vQ cw 0]
abbrev Df:List cH:=[.box [.list cw,.str,.bool,.bool,.vQ 1 8],.vQ bI 0]
abbrev Io:List cH:=[.box [.I],.box [.bool],.box [.str],.box [.bool],.box [.list cw],.box [.vQ 6 8],.vQ bI 1,.box [.bool]]
abbrev Pl:List cH:=[.box [.list [.I],.I],.box [.ptr 0 0],.box [.str]]
abbrev qk:List (Nat × Sh):=[(2,az)]
abbrev rQ:List (Nat × Sh):=[(4,az)]
abbrev Ip:List (Nat × Sh):=[(4,aS),(5,gT),(6,az),(7,az)]
abbrev Pm:List (Nat × Sh):=[(0,.s (.vQ 0 8)),(1,az),(2,az),(3,.s (.fn 30)),(8,az)]
abbrev Pn:List (Nat × Sh):=[(0,.s (.vQ 0 8)),(1,az),(2,.s (.fn 30)),(6,az),(7,az),(8,az)]
abbrev Po:List (Nat × Sh):=[(0,.s (.vQ 0 8)),(1,az),(2,.s (.fn 30)),(6,az),(7,az)]
abbrev Pp:List (Nat × Sh):=[(0,.s (.list cw)),(10,.s (.list cw)),(11,az),(12,az)]
abbrev Pq:List (Nat × Sh):=[(0,gT),(9,gT),(10,az),(11,az)]
abbrev Pr:List (Nat × Sh):=[(0,.s (.vQ 0 8)),(1,az),(2,az),(3,.s (.fn 54)),(8,az)]
abbrev Pt:List (Nat × Sh):=[(0,.s (.vQ 0 8)),(1,az),(2,.s (.fn 54)),(6,az),(7,az),(8,az)]
abbrev Pu:List (Nat × Sh):=[(0,.s (.vQ 0 8)),(1,az),(2,.s (.fn 54)),(6,az),(7,az)]
def ZU:bS:=⟨3,[(3,cw)],⟨25,[(0,.s (.ptr 0 0)),(3,.s (.vQ 1 3)),(10,.s (.list cw)),(11,az),(12,az)],De⟩,[.fix 0,.aO 3],[⟨.exit 0,⟨25,[(3,.s (.vQ 1 3))],De⟩,[.fix 0,.aO 3]⟩],wy⟩
def ZV:LT:=dc.add 1 ZU
def ZW:ba P 1 ZV (bp f22):=lA Pk (dx _ _ _)
def Dg(d:LG):Option LG :=
 (bT true (cd wy [.l (gi d 0).rZ,.i (gi d 1).iV,.l [],.l [[.s (⟨#[98,49,54,48]⟩:BY),.i 1800000,.i 2000000],[.s (⟨#[98,52,48]⟩:BY),.i 7000000,.i 7300000],[.s (⟨#[98,51,48]⟩:BY),.i 7300000,.i 10150000],[.s (⟨#[98,50,48]⟩:BY),.i 14000000,.i 14350000]],.i 4,.i 0]) fun b a=>(gd (bE (gi a 2).rZ) (some (kp a 0 [.l,.i,.l] []))))
def ZX:aM:=⟨22,[.s (.ptr 0 0)],[.box [.list [.I],.I]],[.aO 0],[.s (.vQ 1 3)],[.box [.list [.I],.I],.vQ cw 0],[.fix 0,.aO 0],[],Dg⟩
def t13:aJ:=t12.dK ZX
def Pv:aL P t13:=tW Pk func22 ZW

def zo(d:LG):Option (Option Nat × LG) :=
 let w:=(lI (gi d 2).rZ); (bif (gi d 3).bV then (aj (mQ [.l (gi d 0).rZ,.i (gi d 1).iV,.i w]) fun g=>let a:=0+((gi g 2).iV).toNat; let b:=(gi d 2).rZ.getD a []; let h:=decide (a<(gi d 2).rZ.length); (gd (nL (gi g 2).iV w) (gd h (aj (ll [.l (gi g 0).rZ,.i (gi g 1).iV,.l [[.s (gi b 0).sV],[.s (⟨#[]⟩:BY)],[.s (⟨#[98,50,48]⟩:BY)]]]) fun q=>let z5:=(gi d 2).rZ.set a (fN cw b 0 [.s (gi q 2).sV]); let z:=z5.getD a []; (aj (nY [.l (gi q 0).rZ,.i (gi q 1).iV,.i 0,.i 20000]) fun k=>let t:=z5.set a (fN cw z 1 [.i (1000*(gi k 2).iV)]); (gd (aF (1000*(gi k 2).iV)) (gd h (gd h (gd (aF ((gi b 2).iV+1)) (aj (lW [.l (gi k 0).rZ,.i (gi k 1).iV,.l [[.i (gi b 2).iV],[.i ((gi b 2).iV+1)],[.i 30000000000],[.i 30000001000],[.i 0]]]) fun v=>let y:=t.set a (fN cw (t.getD a []) 2 [.i (gi v 2).iV]); (gd h (gd (decide (a<z5.length)) (gd (decide (a<t.length)) (gd ((aH (gi d 2).rZ.length y.length)&&true) (eQ [.l (gi v 0).rZ,.i (gi v 1).iV,.l y]))))))))))))))) else (gd (bE (gi d 2).rZ) (some (some 0,kp d 0 [.l,.i,.l] []))))
def ZY:bS:=⟨3,[],⟨52,[(0,.s (.ptr 0 0)),(3,.s (.vQ 1 3)),(13,bP)],De⟩,[.fix 0,.aO 3],[⟨.normal,⟨52,[(3,.s (.vQ 1 3))],De⟩,[.fix 0,.aO 3]⟩],zo⟩
def ZZ:LT:=dc.mH 1 ZY
def Z0:ba P 1 ZZ (bp f4):=lC Pv (dx _ _ _)
def Dh(d:LG):Option LG :=
 (aj (Dg [.l (gi d 0).rZ,.i (gi d 1).iV]) fun a=>let g:=bE (gi a 2).rZ; (bif (aK 0 (lI (gi a 2).rZ)) then (aj (kF [.l (gi a 0).rZ,.i (gi a 1).iV,.i 12]) fun b=>(bT g (rG (zo [.l (gi b 0).rZ,.i (gi b 1).iV,.l (gi a 2).rZ,.t (gi b 2).bV])) fun q h=>(gd (bE (gi h 2).rZ) (some (kp h 0 [.l,.i,.l] []))))) else (bT g (rG (zo (kp a 0 [.l,.i,.l] [.t false]))) fun v k=>(gd (bE (gi k 2).rZ) (some (kp k 0 [.l,.i,.l] []))))))
def Z1:aM:=⟨4,[.s (.ptr 0 0)],[.box [.list [.I],.I]],[.aO 0],[.s (.list cw)],[.box [.list [.I],.I]],[.fix 0],[],Dh⟩
def t14:aJ:=t13.dK Z1
def Z2:aL P t14:=tW Pv func4 Z0

def Di(d:LG):Option LG :=
 (aj (kF [.l (gi d 0).rZ,.i (gi d 1).iV,.i 15]) fun a=>(bif (gi a 2).bV then (aj (nY [.l (gi a 0).rZ,.i (gi a 1).iV,.i 0,.i 30000000000]) fun b=>some (kp b 0 [.l,.i,.i] [])) else (aj (lW [.l (gi a 0).rZ,.i (gi a 1).iV,.l [[.i 0],[.i 1799999],[.i 1800000],[.i 7000000],[.i 7299999],[.i 7300000],[.i 14025000],[.i 14349999],[.i 14350000],[.i 30000000000]]]) fun g=>some (kp g 0 [.l,.i,.i] []))))
def Z3:aM:=⟨5,[.s (.ptr 0 0)],[.box [.list [.I],.I]],[.aO 0],[az],[.box [.list [.I],.I]],[.fix 0],[],Di⟩
def t15:aJ:=t14.dK Z3
def Z4:aL P t15:=kE Z2 func5

def zp(d:LG):Option LG :=
 (aj (kF [.l (gi d 0).rZ,.i (gi d 1).iV,.i 60]) fun a=>(bif (gi a 2).bV then (aj (ll [.l (gi a 0).rZ,.i (gi a 1).iV,.l [[.s (⟨#[]⟩:BY)],[.s (⟨#[107,49]⟩:BY)],[.s (⟨#[75,49,65,66]⟩:BY)],[.s (⟨#[107,49,97,98,47]⟩:BY)],[.s (⟨#[49,97]⟩:BY)],[.s (⟨#[107,49,97,98,47,109,109,47,112]⟩:BY)]]]) fun b=>some (kp b 0 [.l,.i,.s] [])) else (aj (ll [.l (gi a 0).rZ,.i (gi a 1).iV,.l [[.s (⟨#[107,49,97,98]⟩:BY)],[.s (⟨#[107,49,97,97]⟩:BY)],[.s (⟨#[107,49,97,98,47,52]⟩:BY)],[.s (⟨#[111,104,50,97,98,99]⟩:BY)],[.s (⟨#[111,104,50,97,98,100]⟩:BY)],[.s (⟨#[119,49,97,119]⟩:BY)],[.s (⟨#[110,49,109,109]⟩:BY)],[.s (⟨#[103,51,120,121,122,47,112]⟩:BY)]]]) fun g=>some (kp g 0 [.l,.i,.s] []))))
def Z5:aM:=⟨6,[.s (.ptr 0 0)],[.box [.list [.I],.I]],[.aO 0],[aS],[.box [.list [.I],.I]],[.fix 0],[],zp⟩
def t16:aJ:=t15.dK Z5
def Z6:aL P t16:=kE Z4 func6

def Dj(d:LG):Option LG :=
 let g:=(⟨#[]⟩:BY); let N:=(⟨#[98,50,48]⟩:BY); let O:=(⟨#[117,115,97]⟩:BY); (aj (lW [.l (gi d 0).rZ,.i (gi d 1).iV,.l [[.i 1],[.i 1],[.i 2],[.i 3]]]) fun h=>(aj (ll [.l (gi h 0).rZ,.i (gi h 1).iV,.l [[.s N],[.s N],[.s (⟨#[98,52,48]⟩:BY)]]]) fun k=>(aj (zp [.l (gi k 0).rZ,.i (gi k 1).iV]) fun b=>(aj (lW [.l (gi b 0).rZ,.i (gi b 1).iV,.l [[.i 0],[.i 1],[.i 2],[.i 3],[.i 4],[.i 5],[.i 6],[.i 7]]]) fun q=>(aj (lW [.l (gi q 0).rZ,.i (gi q 1).iV,.l [[.i 0],[.i 1],[.i 2],[.i 9]]]) fun t=>(aj (ll [.l (gi t 0).rZ,.i (gi t 1).iV,.l [[.s g],[.s g],[.s (⟨#[102,105,110]⟩:BY)]]]) fun v=>(aj (ll [.l (gi v 0).rZ,.i (gi v 1).iV,.l [[.s g],[.s g],[.s O]]]) fun w=>(aj (kF [.l (gi w 0).rZ,.i (gi w 1).iV,.i 100]) fun y=>(bif (gi y 2).bV then (aj (mQ [.l (gi y 0).rZ,.i (gi y 1).iV,.i 4]) fun a=>(bif ((gi a 2).iV==0) then (aj (nY [.l (gi a 0).rZ,.i (gi a 1).iV,.i 0,.i 500]) fun z=>(aj (nY [.l (gi z 0).rZ,.i (gi z 1).iV,.i 1,.i 3]) fun A=>some [.l (gi A 0).rZ,.i (gi A 1).iV,.l [[.i (gi z 2).iV,.i (gi A 2).iV,.s (gi k 2).sV,.s (gi b 2).sV,.i (gi q 2).iV,.i (gi t 2).iV,.s (gi v 2).sV,.s (gi w 2).sV]]])) else (bif ((gi a 2).iV==1) then (aj (ll [.l (gi a 0).rZ,.i (gi a 1).iV,.l [[.s g],[.s (⟨#[66]⟩:BY)],[.s N]]]) fun B=>some [.l (gi B 0).rZ,.i (gi B 1).iV,.l [[.i (gi d 2).iV,.i (gi h 2).iV,.s (gi B 2).sV,.s (gi b 2).sV,.i (gi q 2).iV,.i (gi t 2).iV,.s (gi v 2).sV,.s (gi w 2).sV]]]) else (bif ((gi a 2).iV==2) then (aj (nY [.l (gi a 0).rZ,.i (gi a 1).iV,.i 0,.i 99999]) fun F=>(aj (nY [.l (gi F 0).rZ,.i (gi F 1).iV,.i 0,.i 99999]) fun I=>some [.l (gi I 0).rZ,.i (gi I 1).iV,.l [[.i (gi d 2).iV,.i (gi h 2).iV,.s (gi k 2).sV,.s (gi b 2).sV,.i (gi F 2).iV,.i (gi I 2).iV,.s (gi v 2).sV,.s (gi w 2).sV]]])) else (aj (ll [.l (gi a 0).rZ,.i (gi a 1).iV,.l [[.s g],[.s (⟨#[65]⟩:BY)]]]) fun J=>(aj (ll [.l (gi J 0).rZ,.i (gi J 1).iV,.l [[.s (⟨#[49]⟩:BY)],[.s O]]]) fun M=>some [.l (gi M 0).rZ,.i (gi M 1).iV,.l [[.i (gi d 2).iV,.i (gi h 2).iV,.s (gi k 2).sV,.s (gi b 2).sV,.i (gi q 2).iV,.i (gi t 2).iV,.s (gi J 2).sV,.s (gi M 2).sV]]])))))) else some [.l (gi y 0).rZ,.i (gi y 1).iV,.l [[.i (gi d 2).iV,.i (gi h 2).iV,.s (gi k 2).sV,.s (gi b 2).sV,.i (gi q 2).iV,.i (gi t 2).iV,.s (gi v 2).sV,.s (gi w 2).sV]]])))))))))
def Z7:aM:=⟨28,[.s (.ptr 0 0),az],[.box [.list [.I],.I]],[.aO 0],[.s (.row bI)],[.box [.list [.I],.I]],[.fix 0],[],Dj⟩
def t17:aJ:=t16.dK Z7
def Z8:aL P t17:=kE Z6 func28

def zq(d:LG):Option LG :=
 (bif (aK (gi d 0).iV 0) then some [.i (-1)] else (bif (aK 0 (gi d 0).iV) then some [.i 1] else some [.i 0]))
def Z9:aM:=⟨78,[az],[],[],[az],[],[],[],zq⟩
def t18:aJ:=t17.aZ Z9
def Z_:aL P t18:=bL Z8 func78

def nZ(d:LG):Option LG :=
 let a:=(gi (gi d 0).rV 0).iV-(gi (gi d 1).rV 0).iV; let b:=(gi (gi d 0).rV 1).iV-(gi (gi d 1).rV 1).iV; (bif ((gi (gi d 0).rV 0).iV != (gi (gi d 1).rV 0).iV) then (gd (aF a) (aj (zq [.i a]) fun g=>some [.i (gi g 0).iV])) else (bif (!((gi (gi d 0).rV 3).sV.toList==(gi (gi d 1).rV 3).sV.toList)) then (aj (lj [.s (gi (gi d 0).rV 3).sV,.s (gi (gi d 1).rV 3).sV]) fun h=>some [.i (gi h 0).iV]) else (bif (!((gi (gi d 0).rV 2).sV.toList==(gi (gi d 1).rV 2).sV.toList)) then (aj (lj [.s (gi (gi d 0).rV 2).sV,.s (gi (gi d 1).rV 2).sV]) fun k=>some [.i (gi k 0).iV]) else (gd (aF b) (aj (zq [.i b]) fun q=>some [.i (gi q 0).iV])))))
def Z':aM:=⟨30,[.s (.row bI),.s (.row bI)],[],[],[az],[],[],[],nZ⟩
def t19:aJ:=t18.aZ Z'
def Iq:aL P t19:=bL Z_ func30

def Pw(d:LG):Option (Option Nat × LG) :=
 let a:=(gi d 4).iV-1; let b:=(gi d 0).rZ.set (0+((gi d 4).iV).toNat) (fN bI ((gi d 0).rZ.getD (0+((gi d 4).iV).toNat) []) 0 (bF bI ((gi d 0).rZ.getD (0+a.toNat) []))); let k:=(lI (gi d 0).rZ); let q:=b.set (0+a.toNat) (fN bI (b.getD (0+a.toNat) []) 0 (bF bI ((gi d 0).rZ.getD (0+((gi d 4).iV).toNat) []))); let z5:=decide ((0+((gi d 4).iV).toNat)<(gi d 0).rZ.length); let g:=nL (gi d 4).iV k; let t:=bE (gi d 0).rZ; let v:=decide ((0+a.toNat)<(gi d 0).rZ.length); let h:=nL a k; (bif (aK (gi d 1).iV (gi d 4).iV) then (gd g (gd z5 (gd (aF a) (gd h (gd v (aj (nZ [.l [(bF bI ((gi d 0).rZ.getD (0+((gi d 4).iV).toNat) []))],.l [(bF bI ((gi d 0).rZ.getD (0+a.toNat) []))]]) fun w=>(bif (aK (gi w 0).iV 0) then (gd (aF a) (gd (aF a) (gd h (gd v (gd g (gd z5 (gd g (gd z5 (gd h (gd (decide ((0+a.toNat)<b.length)) (gd (aF a) (gd ((aH (gi d 0).rZ.length q.length)&&true) (some (none,.l q::kp d 1 [.i,.i,.i] [.i a])))))))))))))) else (gd t (some (some 0,kp d 0 [.l,.i,.i,.i] [])))))))))) else (gd t (some (some 0,kp d 0 [.l,.i,.i,.i] []))))
def aaa:bS:=⟨4,[],⟨53,[(0,.s (.vQ 0 8)),(1,az),(2,az),(3,.s (.fn 30)),(8,az),(9,az)],fW⟩,[.fix 0],[⟨.exit 2,⟨53,Pm,fW⟩,[.fix 0]⟩],Pw⟩
def Px:LT:=dc.add 1 aaa
def aab:ba P 1 Px (bp f114):=lA Iq (dx _ _ _)
def Py(d:LG):Option (Option Nat × LG) :=
 (bif (aK (gi d 3).iV (gi d 2).iV) then (bT (bE (gi d 0).rZ) (cd Pw (kp d 0 [.l,.i,.i,.i] [.i (gi d 3).iV])) fun b a=>(gd (aF ((gi a 3).iV+1)) (gd (bE (gi a 0).rZ) (some (none,kp a 0 [.l,.i,.i] [.i ((gi a 3).iV+1)]))))) else eQ [.l (gi d 0).rZ])
def aac:bS:=⟨1,[],⟨53,Pm,fW⟩,[.fix 0],[⟨.exit 0,⟨53,[],fW⟩,[.fix 0]⟩],Py⟩
def aad:LT:=Px.add 1 aac
def aae:ba P 1 aad (bp f114):=lA Iq aab
def Ir(d:LG):Option LG :=
 (gd (aF ((gi d 1).iV+1)) (bT (bE (gi d 0).rZ) (cd Py (kp d 0 [.l,.i,.i] [.i ((gi d 1).iV+1)])) fun b a=>some [.l (gi a 0).rZ]))
def aaf:aM:=⟨114,[.s (.vQ 0 8),az,az,.s (.fn 30)],[.vQ bI 0],[.aO 0],[],[.vQ bI 0],[.fix 0],[],Ir⟩
def t20:aJ:=t19.dK aaf
def Dk:aL P t20:=tW Iq func114 aae

def Pz(d:LG):Option (Option Nat × LG) :=
 let a:=Ir [.l (gi d 0).rZ,.i (gi d 3).iV,.i (gi d 4).iV]; let b:=bE (gi d 0).rZ; let g:=(gi d 4).iV+(gi d 2).iV; (bif (aR (gi d 4).iV (gi d 1).iV) then (iY (b&&a.isSome) a fun h=>(gd (aF g) (gd ((aH (gi d 0).rZ.length (gi h 0).rZ.length)&&true) (nQ [.l (gi h 0).rZ,.i (gi d 1).iV,.i (gi d 2).iV,.i (gi d 4).iV,.i g])))) else (gd b (some (some 0,kp d 0 [.l,.i,.i,.i] []))))
def aag:bS:=⟨2,[],⟨63,Pn,fW⟩,[.fix 0],[⟨.exit 0,⟨63,Po,fW⟩,[.fix 0]⟩],Pz⟩
def PA:LT:=dc.add 1 aag
def aah:ba P 1 PA (bp f77):=lA Dk (dx _ _ _)
def PB(d:LG):Option (Option Nat × LG) :=
 (bif (aR (gi d 4).iV (gi d 1).iV) then (gd (aF ((gi d 3).iV+(gi d 2).iV)) none) else (gd (bE (gi d 0).rZ) (some (some 0,kp d 0 [.l,.i,.i,.i] []))))
def aai:bS:=⟨9,[],⟨63,Pn,fW⟩,[.fix 0],[⟨.exit 4,⟨63,Po,fW⟩,[.fix 0]⟩],PB⟩
def PC:LT:=PA.add 1 aai
def aaj:ba P 1 PC (bp f77):=lA Dk aah
def PD(d:LG):Option (Option Nat × LG) :=
 (bif (aK (gi d 2).iV (gi d 1).iV) then (gd (aF (2*(gi d 2).iV)) (bT (bE (gi d 0).rZ) (cd PB (kp d 0 [.l,.i,.i] [.i 0,.i (2*(gi d 2).iV)])) fun g a=>let b:=(gi a 3).iV+(gi a 2).iV; (gd (aF b) (bif (aK b (gi a 1).iV) then none else (gd (aF ((gi a 2).iV*2)) (gd (bE (gi a 0).rZ) (nQ [.l (gi a 0).rZ,.i (gi a 1).iV,.i ((gi a 2).iV*2)]))))))) else eQ [.l (gi d 0).rZ])
def aak:bS:=⟨7,[],⟨63,[(0,.s (.vQ 0 8)),(1,az),(2,.s (.fn 30)),(6,az)],fW⟩,[.fix 0],[⟨.exit 2,⟨63,[],fW⟩,[.fix 0]⟩],PD⟩
def aal:LT:=PC.add 1 aak
def aam:ba P 1 aal (bp f77):=lA Dk aaj
def PE(d:LG):Option LG :=
 (bT (bE (gi d 0).rZ) (cd Pz [.l (gi d 0).rZ,.i (gi d 1).iV,.i 20,.i 0,.i 20]) fun k a=>let b:=Ir [.l (gi a 0).rZ,.i (gi a 3).iV,.i (gi a 1).iV]; (iY ((bE (gi a 0).rZ)&&b.isSome) b fun g=>(bT ((aH (gi a 0).rZ.length (gi g 0).rZ.length)&&true) (cd PD [.l (gi g 0).rZ,.i (gi a 1).iV,.i (gi a 2).iV]) fun q h=>some [.l (gi h 0).rZ])))
def aan:aM:=⟨77,[.s (.vQ 0 8),az,.s (.fn 30)],[.vQ bI 0],[.aO 0],[],[.vQ bI 0],[.fix 0],[],PE⟩
def t21:aJ:=t20.dK aan
def aao:aL P t21:=tW Dk func77 aam

def zt(d:LG):Option LG :=
 let a:=(PE [.l (gi d 0).rZ,.i (lI (gi d 0).rZ)]); (iY ((bE (gi d 0).rZ)&&a.isSome) a fun b=>some [.l (gi b 0).rZ])
def aap:aM:=⟨29,[.s (.vQ 0 8),.s (.fn 30)],[.vQ bI 0],[.aO 0],[],[.vQ bI 0],[.fix 0],[],zt⟩
def t22:aJ:=t21.dK aap
def aaq:aL P t22:=kE aao func29

def zu(d:LG):Option LG :=
 (aj (nZ [.l [(bF bI (gi d 0).rV)],.l [(bF bI (gi d 1).rV)]]) fun a=>some [.t ((gi a 0).iV==0)])
def aar:aM:=⟨32,[.s (.row bI),.s (.row bI)],[],[],[bP],[],[],[],zu⟩
def t23:aJ:=t22.aZ aar
def Is:aL P t23:=bL aaq func32

def PF(d:LG):Option (Option Nat × LG) :=
 let a:=(((gi d 3).iV.toNat:Nat):Int); let g:=(gi d 2).iV.toNat+((gi d 4).iV).toNat; let q:=(gi d 0).rZ.set (0+((gi d 1).iV).toNat) (fN bI ((gi d 0).rZ.getD (0+((gi d 1).iV).toNat) []) 0 (bF bI ((gi d 0).rZ.getD g []))); let h:=(gi d 4).iV-1; let z5:=bE (gi d 0).rZ; let b:=(gi d 4).iV+1; let t:=nL (gi d 4).iV a; let v:=decide (g<(gi d 0).rZ.length); let w:=(((gi d 2).iV.toNat:Nat):Int); let k:=(gi d 2).iV.toNat+h.toNat; (bif (aK (gi d 4).iV a) then (gd t (gd v (gd (aF h) (gd (nL h a) (gd (decide (k<(gi d 0).rZ.length)) (aj (zu [.l [(bF bI ((gi d 0).rZ.getD g []))],.l [(bF bI ((gi d 0).rZ.getD k []))]]) fun y=>(bif (!(gi y 0).bV) then (gd t (gd v (gd (nL (gi d 1).iV (lI (gi d 0).rZ)) (gd (decide ((0+((gi d 1).iV).toNat)<(gi d 0).rZ.length)) (gd (aF ((gi d 1).iV+1)) (gd (aF b) (gd ((aH (gi d 0).rZ.length q.length)&&true) (nQ [.l q,.i ((gi d 1).iV+1),.i w,.i a,.i b])))))))) else (gd (aF b) (gd z5 (nQ [.l (gi d 0).rZ,.i (gi d 1).iV,.i w,.i a,.i b])))))))))) else (gd z5 (eQ [.l (gi d 0).rZ,.i (gi d 1).iV])))
def aas:bS:=⟨9,[],⟨66,[(0,.s (.vQ 0 8)),(1,.s (.fn 32)),(5,az),(6,.s (.sub 0 8)),(7,az)],fW⟩,[.fix 0],[⟨.exit 2,⟨66,[(0,.s (.vQ 0 8)),(5,az)],fW⟩,[.fix 0]⟩],PF⟩
def PG:LT:=dc.add 1 aas
def aat:ba P 1 PG (bp f31):=lA Is (dx _ _ _)
def PH(d:LG):Option (Option Nat × LG) :=
 let k:=bE (gi d 0).rZ; let b:=(lI (gi d 0).rZ); let g:=(gi d 1).iV-1; let h:=(⟨#[]⟩:BY); let z5:=0+((gi d 1).iV).toNat; (bif (aK (gi d 1).iV b) then (gd (nL (gi d 1).iV b) (gd (decide (z5<(gi d 0).rZ.length)) (gd (aF g) (gd (nL g b) (gd (decide ((0+g.toNat)<(gi d 0).rZ.length)) (aj (zu [.l [(bF bI ((gi d 0).rZ.getD z5 []))],.l [(bF bI ((gi d 0).rZ.getD (0+g.toNat) []))]]) fun w=>(bif (gi w 0).bV then (gd ((cA (gi d 1).iV)&&(aR (gi d 1).iV b)) (bT k (cd PF [.l (gi d 0).rZ,.i (gi d 1).iV,.i ((z5:Nat):Int),.i ((((gi d 0).rZ.length-((gi d 1).iV).toNat):Nat):Int),.i 1]) fun y a=>let q:=(gi a 0).rZ.length-((gi a 1).iV).toNat; let v:=((cA (gi a 1).iV)&&(aR (gi a 1).iV (lI (gi a 0).rZ))); let t:=0+((gi a 1).iV).toNat; (gd v (gd (bf (t+q) (gi a 0).rZ.length) (gd v (eQ [.l ((gi a 0).rZ.take t++List.replicate q [.i 0,.i 0,.s h,.s h,.i 0,.i 0,.s h,.s h]++(gi a 0).rZ.drop (t+q)),.i (((((gi a 1).iV).toNat-0):Nat):Int)])))))) else (gd (aF ((gi d 1).iV+1)) (gd k (nQ [.l (gi d 0).rZ,.i ((gi d 1).iV+1)])))))))))) else (gd k (eR [.l (gi d 0).rZ])))
def aau:bS:=⟨4,[],⟨66,[(0,.s (.vQ 0 8)),(1,.s (.fn 32)),(5,az)],fW⟩,[.fix 0],[⟨.ret,⟨66,[(4,.s (.pre 0 8))],fW⟩,[.fix 0]⟩,⟨.exit 0,⟨66,[(0,.s (.vQ 0 8))],fW⟩,[.fix 0]⟩],PH⟩
def aav:LT:=PG.add 1 aau
def aaw:ba P 1 aav (bp f31):=lA Is aat
def PI(d:LG):Option LG :=
 let b:=(lI (gi d 0).rZ); (bif (aK b 2) then some [.l (gi d 0).rZ,.i b] else (bT (bE (gi d 0).rZ) (cd PH [.l (gi d 0).rZ,.i 1]) fun g a=>(bif aH g 0 then some [.l (gi a 0).rZ,.i (((gi a 1).iV.toNat:Nat):Int)] else some [.l (gi a 0).rZ,.i (lI (gi a 0).rZ)])))
def aax:aM:=⟨31,[.s (.vQ 0 8),.s (.fn 32)],[.vQ bI 0],[.aO 0],[.s (.pre 0 8)],[.vQ bI 0],[.fix 0],[],PI⟩
def t24:aJ:=t23.dK aax
def PJ:aL P t24:=tW Is func31 aaw

def wz(d:LG):Option (Option Nat × LG) :=
 let h:=aH (gi d 2).rZ.length (gi d 2).rZ.length; (bif (aK (gi d 5).iV (gi d 4).iV) then (aj (lW [.l (gi d 0).rZ,.i (gi d 1).iV,.l [[.i 0],[.i 1],[.i 10],[.i 50],[.i 1000],[.i 40000],[.i 1500000]]]) fun a=>let b:=(gi d 3).iV+(gi a 2).iV; (gd (aF b) (aj (Dj [.l (gi a 0).rZ,.i (gi a 1).iV,.i b]) fun g=>let k:=((gi d 2).rZ++([(bF bI (gi g 2).rV)]:LL)); (gd (h&&(decide (((gi d 2).rZ.length+1)<=1048576))) (gd (aF ((gi d 5).iV+1)) (gd (bE k) (nQ [.l (gi g 0).rZ,.i (gi g 1).iV,.l k,.i b,.i (gi d 4).iV,.i ((gi d 5).iV+1)]))))))) else (gd (h&&true) (some (some 0,kp d 0 [.l,.i,.l] []))))
def aay:bS:=⟨4,[(5,bI)],⟨26,[(0,.s (.ptr 0 0)),(5,.s (.vQ 1 8)),(6,az),(7,az),(8,az)],[.box [.list [.I],.I],.vQ bI 0]⟩,[.fix 0,.aO 5],[⟨.exit 0,⟨26,[(5,.s (.vQ 1 8))],[.box [.list [.I],.I],.vQ bI 0]⟩,[.fix 0,.aO 5]⟩],wz⟩
def aaz:LT:=dc.add 1 aay
def aaA:ba P 1 aaz (bp f7):=lA PJ (dx _ _ _)
def zw(d:LG):Option LG :=
 (bT true (cd wz [.l (gi d 0).rZ,.i (gi d 1).iV,.l [],.i 0,.i (gi d 2).iV,.i 0]) fun q a=>let g:=zt [.l (gi a 2).rZ]; (iY ((bE (gi a 2).rZ)&&g.isSome) g fun h=>let k:=PI [.l (gi h 0).rZ]; (iY (((aH (gi a 2).rZ.length (gi h 0).rZ.length)&&true)&&k.isSome) k fun b=>(gd ((bf (gi b 1).iV.toNat (gi b 0).rZ.length)&&true) (some [.l (gi a 0).rZ,.i (gi a 1).iV,.l ((gi b 0).rZ.take ((gi b 1).iV.toNat))])))))
def aaB:aM:=⟨7,[.s (.ptr 0 0),az],[.box [.list [.I],.I]],[.aO 0],[.s (.vP bI)],[.box [.list [.I],.I]],[.fix 0],[],zw⟩
def t25:aJ:=t24.dK aaB
def aaC:aL P t25:=tW PJ func7 aaA

def oQ(d:LG):Option LG :=
 (bif (aR (gi d 1).iV (gi d 0).iV) then some [.t (aR (gi d 0).iV (gi d 2).iV)] else some [.t false])
def aaD:aM:=⟨56,[az,az,az],[],[],[bP],[],[],[],oQ⟩
def t26:aJ:=t25.aZ aaD
def aaE:aL P t26:=bL aaC func56

def Dl(d:LG):Option LG :=
 (aj (oQ [.i (gi d 0).iV,.i 0,.i 345686399999]) fun a=>some [.t (gi a 0).bV])
def aaF:aM:=⟨139,[az],[],[],[bP],[],[],[],Dl⟩
def t27:aJ:=t26.aZ aaF
def PK:aL P t27:=bL aaE func139

def Dm(d:LG):Option (Option Nat × LG) :=
 (bif (aK (gi d 3).iV (gi d 2).iV) then (gd (nL (gi d 3).iV (((gi d 0).sV.size:Nat):Int)) (aj (wv [.s (gi d 1).sV,.i (((gi d 0).sV.data.toList.getD (((gi d 3).iV).toNat) 0).toNat:Int)]) fun a=>(bif (aK (gi a 0).iV 0) then eQ [.t false] else (gd (aF ((gi d 3).iV+1)) (some (none,kp d 0 [.s,.s,.i] [.i ((gi d 3).iV+1)])))))) else eR [])
def aaG:bS:=⟨2,[],⟨18,[(0,aS),(1,aS),(7,az),(8,az)],[]⟩,[],[⟨.ret,⟨18,[(4,bP)],[]⟩,[]⟩,⟨.exit 0,⟨18,[],[]⟩,[]⟩],Dm⟩
def aaH:LT:=dc.add 0 aaG
def aaI:ba P 0 aaH (bp f96):=lA PK (dx _ _ _)
def tS(d:LG):Option LG :=
 (bT true (cd Dm [.s (gi d 0).sV,.s (gi d 1).sV,.i (((gi d 0).sV.size:Nat):Int),.i 0]) fun a b=>(bif aH a 0 then some [.t (gi b 0).bV] else some [.t true]))
def aaJ:aM:=⟨96,[aS,aS],[],[],[bP],[],[],[],tS⟩
def t28:aJ:=t27.aZ aaJ
def aaK:aL P t28:=tP PK func96 aaI

def ql(d:LG):Option LG :=
 let a:=(((gi d 0).sV.size:Nat):Int); (aj (oQ [.i a,.i 1,.i 40]) fun b=>(bif (gi b 0).bV then (gd (aR 1 a) (aj (tS [.s ((gi d 0).sV.extract 0 1),.s (⟨#[97,98,99,100,101,102,103,104,105,106,107,108,109,110,111,112,113,114,115,116,117,118,119,120,121,122]⟩:BY)]) fun g=>(bif (gi g 0).bV then (aj (tS [.s (gi d 0).sV,.s (⟨#[97,98,99,100,101,102,103,104,105,106,107,108,109,110,111,112,113,114,115,116,117,118,119,120,121,122,48,49,50,51,52,53,54,55,56,57,45,95]⟩:BY)]) fun h=>some [.t (gi h 0).bV]) else some [.t false]))) else some [.t false]))
def aaL:aM:=⟨55,[aS],[],[],[bP],[],[],[],ql⟩
def t29:aJ:=t28.aZ aaL
def aaM:aL P t29:=bL aaK func55

def wA(d:LG):Option LG :=
 C5 d
def PL:aM:=⟨143,[aS,aS],[],[],[az],[],[],[],wA⟩
def aaN:gR P PL:=fun d r h=>YB Tryz.Y8 d r h
def t30:aJ:=t29.aZ PL
def aaO:aL P t30:=aaM.aP aaN

def zx(d:LG):Option LG :=
 let h:=(((gi d 1).sV.size:Nat):Int); let g:=(((gi d 0).sV.size:Nat):Int); (aj (wA [.s (gi d 0).sV,.s (gi d 1).sV]) fun a=>let b:=(gi a 0).iV+h; (bif (aR 0 (gi a 0).iV) then (gd ((cA (gi a 0).iV)&&(aR (gi a 0).iV g)) (gd (aF b) (gd ((cA b)&&(aR b g)) (some [.s ((gi d 0).sV.extract 0 ((gi a 0).iV).toNat),.s ((gi d 0).sV.extract b.toNat (gi d 0).sV.size),.t true])))) else some [.s (gi d 0).sV,.s (⟨#[]⟩:BY),.t false]))
def aaP:aM:=⟨141,[aS,aS],[],[],[aS,aS,bP],[],[],[],zx⟩
def t31:aJ:=t30.aZ aaP
def aaQ:aL P t31:=bL aaO func141

def oR(d:LG):Option LG :=
 (aj (zx [.s (gi d 0).sV,.s (gi d 1).sV]) fun a=>some (kp a 0 [.s,.s,.t] []))
def aaR:aM:=⟨102,[aS,aS],[],[],[aS,aS,bP],[],[],[],oR⟩
def t32:aJ:=t31.aZ aaR
def aaS:aL P t32:=bL aaQ func102

def wB(d:LG):Option LG :=
 C8 d
def PM:aM:=⟨201,[aS,.s (.int .i32)],[],[],[az],[],[],[],wB⟩
def aaT:gR P PM:=fun d r h=>YF Tryz.Y_ d r h
def t33:aJ:=t32.aZ PM
def aaU:aL P t33:=aaS.aP aaT

def It(d:LG):Option LG :=
 some [.t (aK 8 (gi d 0).iV)]
def aaV:aM:=⟨202,[az],[],[],[bP],[],[],[],It⟩
def t34:aJ:=t33.aZ aaV
def aaW:aL P t34:=bL aaU func202

def Dn(d:LG):Option LG :=
 C7 d
def PN:aM:=⟨150,[aS],[],[],[.s (.row mM),bP],[],[],[],Dn⟩
def aaX:gR P PN:=fun d r h=>YE Tryz.Za (by kernel_rfl) d r h
def t35:aJ:=t34.aZ PN
def aaY:aL P t35:=aaW.aP aaX

def Dp(d:LG):Option LG :=
 (gd (nL (gi d 1).iV 256) (some [.t (gi ([[.t (gi (gi d 0).rV 0).bV],[.t (gi (gi d 0).rV 1).bV],[.t (gi (gi d 0).rV 2).bV],[.t (gi (gi d 0).rV 3).bV],[.t (gi (gi d 0).rV 4).bV],[.t (gi (gi d 0).rV 5).bV],[.t (gi (gi d 0).rV 6).bV],[.t (gi (gi d 0).rV 7).bV],[.t (gi (gi d 0).rV 8).bV],[.t (gi (gi d 0).rV 9).bV],[.t (gi (gi d 0).rV 10).bV],[.t (gi (gi d 0).rV 11).bV],[.t (gi (gi d 0).rV 12).bV],[.t (gi (gi d 0).rV 13).bV],[.t (gi (gi d 0).rV 14).bV],[.t (gi (gi d 0).rV 15).bV],[.t (gi (gi d 0).rV 16).bV],[.t (gi (gi d 0).rV 17).bV],[.t (gi (gi d 0).rV 18).bV],[.t (gi (gi d 0).rV 19).bV],[.t (gi (gi d 0).rV 20).bV],[.t (gi (gi d 0).rV 21).bV],[.t (gi (gi d 0).rV 22).bV],[.t (gi (gi d 0).rV 23).bV],[.t (gi (gi d 0).rV 24).bV],[.t (gi (gi d 0).rV 25).bV],[.t (gi (gi d 0).rV 26).bV],[.t (gi (gi d 0).rV 27).bV],[.t (gi (gi d 0).rV 28).bV],[.t (gi (gi d 0).rV 29).bV],[.t (gi (gi d 0).rV 30).bV],[.t (gi (gi d 0).rV 31).bV],[.t (gi (gi d 0).rV 32).bV],[.t (gi (gi d 0).rV 33).bV],[.t (gi (gi d 0).rV 34).bV],[.t (gi (gi d 0).rV 35).bV],[.t (gi (gi d 0).rV 36).bV],[.t (gi (gi d 0).rV 37).bV],[.t (gi (gi d 0).rV 38).bV],[.t (gi (gi d 0).rV 39).bV],[.t (gi (gi d 0).rV 40).bV],[.t (gi (gi d 0).rV 41).bV],[.t (gi (gi d 0).rV 42).bV],[.t (gi (gi d 0).rV 43).bV],[.t (gi (gi d 0).rV 44).bV],[.t (gi (gi d 0).rV 45).bV],[.t (gi (gi d 0).rV 46).bV],[.t (gi (gi d 0).rV 47).bV],[.t (gi (gi d 0).rV 48).bV],[.t (gi (gi d 0).rV 49).bV],[.t (gi (gi d 0).rV 50).bV],[.t (gi (gi d 0).rV 51).bV],[.t (gi (gi d 0).rV 52).bV],[.t (gi (gi d 0).rV 53).bV],[.t (gi (gi d 0).rV 54).bV],[.t (gi (gi d 0).rV 55).bV],[.t (gi (gi d 0).rV 56).bV],[.t (gi (gi d 0).rV 57).bV],[.t (gi (gi d 0).rV 58).bV],[.t (gi (gi d 0).rV 59).bV],[.t (gi (gi d 0).rV 60).bV],[.t (gi (gi d 0).rV 61).bV],[.t (gi (gi d 0).rV 62).bV],[.t (gi (gi d 0).rV 63).bV],[.t (gi (gi d 0).rV 64).bV],[.t (gi (gi d 0).rV 65).bV],[.t (gi (gi d 0).rV 66).bV],[.t (gi (gi d 0).rV 67).bV],[.t (gi (gi d 0).rV 68).bV],[.t (gi (gi d 0).rV 69).bV],[.t (gi (gi d 0).rV 70).bV],[.t (gi (gi d 0).rV 71).bV],[.t (gi (gi d 0).rV 72).bV],[.t (gi (gi d 0).rV 73).bV],[.t (gi (gi d 0).rV 74).bV],[.t (gi (gi d 0).rV 75).bV],[.t (gi (gi d 0).rV 76).bV],[.t (gi (gi d 0).rV 77).bV],[.t (gi (gi d 0).rV 78).bV],[.t (gi (gi d 0).rV 79).bV],[.t (gi (gi d 0).rV 80).bV],[.t (gi (gi d 0).rV 81).bV],[.t (gi (gi d 0).rV 82).bV],[.t (gi (gi d 0).rV 83).bV],[.t (gi (gi d 0).rV 84).bV],[.t (gi (gi d 0).rV 85).bV],[.t (gi (gi d 0).rV 86).bV],[.t (gi (gi d 0).rV 87).bV],[.t (gi (gi d 0).rV 88).bV],[.t (gi (gi d 0).rV 89).bV],[.t (gi (gi d 0).rV 90).bV],[.t (gi (gi d 0).rV 91).bV],[.t (gi (gi d 0).rV 92).bV],[.t (gi (gi d 0).rV 93).bV],[.t (gi (gi d 0).rV 94).bV],[.t (gi (gi d 0).rV 95).bV],[.t (gi (gi d 0).rV 96).bV],[.t (gi (gi d 0).rV 97).bV],[.t (gi (gi d 0).rV 98).bV],[.t (gi (gi d 0).rV 99).bV],[.t (gi (gi d 0).rV 100).bV],[.t (gi (gi d 0).rV 101).bV],[.t (gi (gi d 0).rV 102).bV],[.t (gi (gi d 0).rV 103).bV],[.t (gi (gi d 0).rV 104).bV],[.t (gi (gi d 0).rV 105).bV],[.t (gi (gi d 0).rV 106).bV],[.t (gi (gi d 0).rV 107).bV],[.t (gi (gi d 0).rV 108).bV],[.t (gi (gi d 0).rV 109).bV],[.t (gi (gi d 0).rV 110).bV],[.t (gi (gi d 0).rV 111).bV],[.t (gi (gi d 0).rV 112).bV],[.t (gi (gi d 0).rV 113).bV],[.t (gi (gi d 0).rV 114).bV],[.t (gi (gi d 0).rV 115).bV],[.t (gi (gi d 0).rV 116).bV],[.t (gi (gi d 0).rV 117).bV],[.t (gi (gi d 0).rV 118).bV],[.t (gi (gi d 0).rV 119).bV],[.t (gi (gi d 0).rV 120).bV],[.t (gi (gi d 0).rV 121).bV],[.t (gi (gi d 0).rV 122).bV],[.t (gi (gi d 0).rV 123).bV],[.t (gi (gi d 0).rV 124).bV],[.t (gi (gi d 0).rV 125).bV],[.t (gi (gi d 0).rV 126).bV],[.t (gi (gi d 0).rV 127).bV],[.t (gi (gi d 0).rV 128).bV],[.t (gi (gi d 0).rV 129).bV],[.t (gi (gi d 0).rV 130).bV],[.t (gi (gi d 0).rV 131).bV],[.t (gi (gi d 0).rV 132).bV],[.t (gi (gi d 0).rV 133).bV],[.t (gi (gi d 0).rV 134).bV],[.t (gi (gi d 0).rV 135).bV],[.t (gi (gi d 0).rV 136).bV],[.t (gi (gi d 0).rV 137).bV],[.t (gi (gi d 0).rV 138).bV],[.t (gi (gi d 0).rV 139).bV],[.t (gi (gi d 0).rV 140).bV],[.t (gi (gi d 0).rV 141).bV],[.t (gi (gi d 0).rV 142).bV],[.t (gi (gi d 0).rV 143).bV],[.t (gi (gi d 0).rV 144).bV],[.t (gi (gi d 0).rV 145).bV],[.t (gi (gi d 0).rV 146).bV],[.t (gi (gi d 0).rV 147).bV],[.t (gi (gi d 0).rV 148).bV],[.t (gi (gi d 0).rV 149).bV],[.t (gi (gi d 0).rV 150).bV],[.t (gi (gi d 0).rV 151).bV],[.t (gi (gi d 0).rV 152).bV],[.t (gi (gi d 0).rV 153).bV],[.t (gi (gi d 0).rV 154).bV],[.t (gi (gi d 0).rV 155).bV],[.t (gi (gi d 0).rV 156).bV],[.t (gi (gi d 0).rV 157).bV],[.t (gi (gi d 0).rV 158).bV],[.t (gi (gi d 0).rV 159).bV],[.t (gi (gi d 0).rV 160).bV],[.t (gi (gi d 0).rV 161).bV],[.t (gi (gi d 0).rV 162).bV],[.t (gi (gi d 0).rV 163).bV],[.t (gi (gi d 0).rV 164).bV],[.t (gi (gi d 0).rV 165).bV],[.t (gi (gi d 0).rV 166).bV],[.t (gi (gi d 0).rV 167).bV],[.t (gi (gi d 0).rV 168).bV],[.t (gi (gi d 0).rV 169).bV],[.t (gi (gi d 0).rV 170).bV],[.t (gi (gi d 0).rV 171).bV],[.t (gi (gi d 0).rV 172).bV],[.t (gi (gi d 0).rV 173).bV],[.t (gi (gi d 0).rV 174).bV],[.t (gi (gi d 0).rV 175).bV],[.t (gi (gi d 0).rV 176).bV],[.t (gi (gi d 0).rV 177).bV],[.t (gi (gi d 0).rV 178).bV],[.t (gi (gi d 0).rV 179).bV],[.t (gi (gi d 0).rV 180).bV],[.t (gi (gi d 0).rV 181).bV],[.t (gi (gi d 0).rV 182).bV],[.t (gi (gi d 0).rV 183).bV],[.t (gi (gi d 0).rV 184).bV],[.t (gi (gi d 0).rV 185).bV],[.t (gi (gi d 0).rV 186).bV],[.t (gi (gi d 0).rV 187).bV],[.t (gi (gi d 0).rV 188).bV],[.t (gi (gi d 0).rV 189).bV],[.t (gi (gi d 0).rV 190).bV],[.t (gi (gi d 0).rV 191).bV],[.t (gi (gi d 0).rV 192).bV],[.t (gi (gi d 0).rV 193).bV],[.t (gi (gi d 0).rV 194).bV],[.t (gi (gi d 0).rV 195).bV],[.t (gi (gi d 0).rV 196).bV],[.t (gi (gi d 0).rV 197).bV],[.t (gi (gi d 0).rV 198).bV],[.t (gi (gi d 0).rV 199).bV],[.t (gi (gi d 0).rV 200).bV],[.t (gi (gi d 0).rV 201).bV],[.t (gi (gi d 0).rV 202).bV],[.t (gi (gi d 0).rV 203).bV],[.t (gi (gi d 0).rV 204).bV],[.t (gi (gi d 0).rV 205).bV],[.t (gi (gi d 0).rV 206).bV],[.t (gi (gi d 0).rV 207).bV],[.t (gi (gi d 0).rV 208).bV],[.t (gi (gi d 0).rV 209).bV],[.t (gi (gi d 0).rV 210).bV],[.t (gi (gi d 0).rV 211).bV],[.t (gi (gi d 0).rV 212).bV],[.t (gi (gi d 0).rV 213).bV],[.t (gi (gi d 0).rV 214).bV],[.t (gi (gi d 0).rV 215).bV],[.t (gi (gi d 0).rV 216).bV],[.t (gi (gi d 0).rV 217).bV],[.t (gi (gi d 0).rV 218).bV],[.t (gi (gi d 0).rV 219).bV],[.t (gi (gi d 0).rV 220).bV],[.t (gi (gi d 0).rV 221).bV],[.t (gi (gi d 0).rV 222).bV],[.t (gi (gi d 0).rV 223).bV],[.t (gi (gi d 0).rV 224).bV],[.t (gi (gi d 0).rV 225).bV],[.t (gi (gi d 0).rV 226).bV],[.t (gi (gi d 0).rV 227).bV],[.t (gi (gi d 0).rV 228).bV],[.t (gi (gi d 0).rV 229).bV],[.t (gi (gi d 0).rV 230).bV],[.t (gi (gi d 0).rV 231).bV],[.t (gi (gi d 0).rV 232).bV],[.t (gi (gi d 0).rV 233).bV],[.t (gi (gi d 0).rV 234).bV],[.t (gi (gi d 0).rV 235).bV],[.t (gi (gi d 0).rV 236).bV],[.t (gi (gi d 0).rV 237).bV],[.t (gi (gi d 0).rV 238).bV],[.t (gi (gi d 0).rV 239).bV],[.t (gi (gi d 0).rV 240).bV],[.t (gi (gi d 0).rV 241).bV],[.t (gi (gi d 0).rV 242).bV],[.t (gi (gi d 0).rV 243).bV],[.t (gi (gi d 0).rV 244).bV],[.t (gi (gi d 0).rV 245).bV],[.t (gi (gi d 0).rV 246).bV],[.t (gi (gi d 0).rV 247).bV],[.t (gi (gi d 0).rV 248).bV],[.t (gi (gi d 0).rV 249).bV],[.t (gi (gi d 0).rV 250).bV],[.t (gi (gi d 0).rV 251).bV],[.t (gi (gi d 0).rV 252).bV],[.t (gi (gi d 0).rV 253).bV],[.t (gi (gi d 0).rV 254).bV],[.t (gi (gi d 0).rV 255).bV]].getD (((gi d 1).iV).toNat) []) 0).bV]))
def aaZ:aM:=⟨188,[.s (.cptr mM),.s (.int .u8)],[],[],[bP],[],[],[],Dp⟩
def t36:aJ:=t35.aZ aaZ
def aa0:aL P t36:=bL aaY func188

def PO(d:LG):Option LG :=
 some [.t ((FD .u8 (gi d 0).iV 192) != 128)]
def aa1:aM:=⟨208,[.s (.int .u8)],[],[],[bP],[],[],[],PO⟩
def t37:aJ:=t36.aZ aa1
def aa2:aL P t37:=bL aa0 func208

def PQ(d:LG):Option LG :=
 let a:=(((gi d 0).sV.size:Nat):Int); (bif (aK a 1) then some [.i 65533,.i 0] else (gd (aK 0 a) none))
def aa3:aM:=⟨192,[aS],[],[],[.s (.int .i32),az],[],[],[],PQ⟩
def t38:aJ:=t37.aZ aa3
def aa4:aL P t38:=bL aa2 func192

def Iu(d:LG):Option LG :=
 let a:=(((gi d 0).sV.data.toList.getD 0 0).toNat:Int); let b:=PQ [.s (gi d 0).sV]; let g:=(aK 0 (((gi d 0).sV.size:Nat):Int)); (bif (!((gi d 0).sV.toList==(⟨#[]⟩:BY).toList)) then (gd g (bif (aK a 128) then (gd g (some [.i (IntKind.i32.wrap a),.i 1])) else (aj b fun h=>some [.i (gi h 0).iV,.i (gi h 1).iV]))) else (aj b fun k=>some [.i (gi k 0).iV,.i (gi k 1).iV]))
def aa5:aM:=⟨160,[aS],[],[],[.s (.int .i32),az],[],[],[],Iu⟩
def t39:aJ:=t38.aZ aa5
def PR:aL P t39:=bL aa4 func160

def PS(d:LG):Option (Option Nat × LG) :=
 (bif (aR (gi d 3).iV (gi d 2).iV) then (gd (nL (gi d 2).iV (((gi d 0).sV.size:Nat):Int)) (aj (PO [.i (((gi d 0).sV.data.toList.getD (((gi d 2).iV).toNat) 0).toNat:Int)]) fun a=>(bif (gi a 0).bV then some (some 0,kp d 0 [.s,.i,.i] []) else (gd (aF ((gi d 2).iV-1)) (nQ [.s (gi d 0).sV,.i (gi d 1).iV,.i ((gi d 2).iV-1),.i (gi d 3).iV]))))) else some (some 0,kp d 0 [.s,.i,.i] []))
def aa6:bS:=⟨10,[],⟨51,[(0,aS),(4,az),(5,az),(6,az)],[]⟩,[],[⟨.exit 0,⟨51,[(0,aS),(4,az),(5,az)],[]⟩,[]⟩],PS⟩
def aa7:LT:=dc.add 0 aa6
def aa8:ba P 0 aa7 (bp f190):=lA PR (dx _ _ _)
def zy(d:LG):Option LG :=
 let b:=(((gi d 0).sV.size:Nat):Int); let k:=(IntKind.i32.wrap (((gi d 0).sV.data.toList.getD ((b-1).toNat) 0).toNat:Int)); (bif (b==0) then some [.i 65533,.i 0] else (gd (aF (b-1)) (gd (nL (b-1) b) (bif (aK k 128) then some [.i k,.i 1] else (gd (aF (b-4)) (gd (aF ((b-1)-1)) (bT true (cd PS [.s (gi d 0).sV,.i b,.i ((b-1)-1),.i (if 0>(b-4) then 0 else (b-4))]) fun v a=>let q:=(aR (gi a 1).iV (((gi a 0).sV.size:Nat):Int)); (bif (aK (gi a 2).iV 0) then (gd ((aR 0 (gi a 1).iV)&&q) (aj (Iu [.s ((gi a 0).sV.extract 0 ((gi a 1).iV).toNat)]) fun g=>(gd (aF (0+(gi g 1).iV)) (bif ((0+(gi g 1).iV) != (gi a 1).iV) then some [.i 65533,.i 1] else some [.i (gi g 0).iV,.i (gi g 1).iV])))) else (gd ((cA (gi a 2).iV)&&((aR (gi a 2).iV (gi a 1).iV)&&q)) (aj (Iu [.s ((gi a 0).sV.extract ((gi a 2).iV).toNat ((gi a 1).iV).toNat)]) fun h=>let t:=(gi a 2).iV+(gi h 1).iV; (gd (aF t) (bif (t != (gi a 1).iV) then some [.i 65533,.i 1] else some [.i (gi h 0).iV,.i (gi h 1).iV]))))))))))))
def aa9:aM:=⟨190,[aS],[],[],[.s (.int .i32),az],[],[],[],zy⟩
def t40:aJ:=t39.aZ aa9
def Dq:aL P t40:=tP PR func190 aa8

def Iv(d:LG):Option (Option Nat × LG) :=
 (bif (aR 0 (gi d 2).iV) then (gd (nL (gi d 2).iV (((gi d 0).sV.size:Nat):Int)) (aj (Dp [.l [(bF mM (gi d 1).rV)],.i (((gi d 0).sV.data.toList.getD (((gi d 2).iV).toNat) 0).toNat:Int)]) fun a=>(bif (gi a 0).bV then eQ [.i (gi d 2).iV] else (gd (aF ((gi d 2).iV-1)) (nQ [.s (gi d 0).sV,.l [(bF mM (gi d 1).rV)],.i ((gi d 2).iV-1)]))))) else eR [])
def aa_:bS:=⟨14,[],⟨96,[(0,aS),(6,.s (.cptr mM)),(8,az)],[]⟩,[],[⟨.ret,⟨96,rQ,[]⟩,[]⟩,⟨.exit 0,⟨96,[],[]⟩,[]⟩],Iv⟩
def PT:LT:=dc.add 0 aa_
def aa':ba P 0 PT (bp f174):=lA Dq (dx _ _ _)
def Iw(d:LG):Option (Option Nat × LG) :=
 (bif (aK 0 (gi d 2).iV) then (gd ((cA (gi d 2).iV)&&(aR (gi d 2).iV (((gi d 0).sV.size:Nat):Int))) (aj (zy [.s ((gi d 0).sV.extract 0 ((gi d 2).iV).toNat)]) fun b=>let a:=(gi d 2).iV-(gi b 1).iV; (gd (aF a) (bif ((gi d 1).iV==(gi b 0).iV) then eQ [.i a] else nQ [.s (gi d 0).sV,.i (gi d 1).iV,.i a])))) else eR [])
def aba:bS:=⟨24,[],⟨96,[(0,aS),(9,.s (.int .i32)),(10,az)],[]⟩,[],[⟨.ret,⟨96,rQ,[]⟩,[]⟩,⟨.exit 2,⟨96,[],[]⟩,[]⟩],Iw⟩
def PU:LT:=PT.add 0 aba
def abb:ba P 0 PU (bp f174):=lA Dq aa'
def Ix(d:LG):Option (Option Nat × LG) :=
 (bif (aK 0 (gi d 2).iV) then (gd ((cA (gi d 2).iV)&&(aR (gi d 2).iV (((gi d 0).sV.size:Nat):Int))) (aj (zy [.s ((gi d 0).sV.extract 0 ((gi d 2).iV).toNat)]) fun b=>let a:=(gi d 2).iV-(gi b 1).iV; (gd (aF a) (aj (wB [.s (gi d 1).sV,.i (gi b 0).iV]) fun g=>(bif (aR 0 (gi g 0).iV) then eQ [.i a] else nQ [.s (gi d 0).sV,.s (gi d 1).sV,.i a]))))) else eR [])
def abc:bS:=⟨31,[],⟨96,[(0,aS),(1,aS),(13,az)],[]⟩,[],[⟨.ret,⟨96,rQ,[]⟩,[]⟩,⟨.exit 4,⟨96,[],[]⟩,[]⟩],Ix⟩
def abd:LT:=PU.add 0 abc
def abe:ba P 0 abd (bp f174):=lA Dq abb
def rR(d:LG):Option LG :=
 let a:=(((gi d 0).sV.size:Nat):Int); let g:=(IntKind.i32.wrap (((gi d 1).sV.data.toList.getD 0 0).toNat:Int)); let b:=(((gi d 1).sV.size:Nat):Int); let h:=cd Ix [.s (gi d 0).sV,.s (gi d 1).sV,.i a]; let z5:=(IntKind.i32.wrap (((gi d 0).sV.data.toList.getD 0 0).toNat:Int)); let k:=cd Iw [.s (gi d 0).sV,.i 65533,.i a]; let q:=cd Iw [.s (gi d 0).sV,.i g,.i a]; (bif ((gi d 1).sV.toList==(⟨#[]⟩:BY).toList) then some [.i (-1)] else (bif (a==1) then (gd (aK 0 a) (bif (aR 128 z5) then (aj (wB [.s (gi d 1).sV,.i 65533]) fun O=>(bif (aR 0 (gi O 0).iV) then some [.i 0] else some [.i (-1)])) else (aj (wB [.s (gi d 1).sV,.i z5]) fun U=>(bif (aR 0 (gi U 0).iV) then some [.i 0] else some [.i (-1)])))) else (aj (It [.i a]) fun V=>(bif (gi V 0).bV then (aj (Dn [.s (gi d 1).sV]) fun t=>(bif (gi t 1).bV then (gd (aF (a-1)) (bT true (cd Iv [.s (gi d 0).sV,.l [(bF mM (gi t 0).rV)],.i (a-1)]) fun A W=>(bif aH A 0 then some [.i (gi W 0).iV] else some [.i (-1)]))) else (bif (b==1) then (gd (aK 0 b) (bif (aR 128 g) then (bT true k fun B X=>(bif aH B 0 then some [.i (gi X 0).iV] else some [.i (-1)])) else (bT true q fun F Y=>(bif aH F 0 then some [.i (gi Y 0).iV] else some [.i (-1)])))) else (bT true h fun v I=>(bif aH v 0 then some [.i (gi I 0).iV] else some [.i (-1)]))))) else (bif (b==1) then (gd (aK 0 b) (bif (aR 128 g) then (bT true k fun w J=>(bif aH w 0 then some [.i (gi J 0).iV] else some [.i (-1)])) else (bT true q fun y M=>(bif aH y 0 then some [.i (gi M 0).iV] else some [.i (-1)])))) else (bT true h fun z N=>(bif aH z 0 then some [.i (gi N 0).iV] else some [.i (-1)])))))))
def abf:aM:=⟨174,[aS,aS],[],[],[az],[],[],[],rR⟩
def t41:aJ:=t40.aZ abf
def abg:aL P t41:=tP Dq func174 abe

def wC(d:LG):Option LG :=
 (bif (aR (gi d 1).iV (gi d 0).iV) then some [.t (aR (gi d 0).iV (gi d 2).iV)] else some [.t false])
def abh:aM:=⟨176,[az,az,az],[],[],[bP],[],[],[],wC⟩
def t42:aJ:=t41.aZ abh
def abi:aL P t42:=bL abg func176

def tT(d:LG):Option LG :=
 zb d
def PV:aM:=⟨69,[aS,aS],[],[],[bP],[],[],[],tT⟩
def abj:gR P PV:=fun d r h=>YC Tryz.Zc d r h
def t43:aJ:=t42.aZ PV
def abk:aL P t43:=abi.aP abj

def Ds(d:LG):Option LG :=
 some [.t ((gi (gi d 0).rV 0).sV.toList==(gi (gi d 1).rV 0).sV.toList)]
def abl:aM:=⟨97,[.s (.row cw),.s (.cptr [.str])],[],[],[bP],[],[],[],Ds⟩
def t44:aJ:=t43.aZ abl
def PW:aL P t44:=bL abk func97

def PX(d:LG):Option (Option Nat × LG) :=
 (bif (aK (gi d 3).iV (gi d 2).iV) then (gd (nL (gi d 3).iV (lI (gi d 0).rZ)) (aj (Ds [.l [(bF cw ((gi d 0).rZ.getD (((gi d 3).iV).toNat) []))],.l [[.s (gi (gi d 1).rV 0).sV]]]) fun a=>(bif (gi a 0).bV then eQ [.i (gi d 3).iV] else (gd (aF ((gi d 3).iV+1)) (nQ [.l (gi d 0).rZ,.l [[.s (gi (gi d 1).rV 0).sV]],.i (gi d 2).iV,.i ((gi d 3).iV+1)]))))) else eR [])
def abm:bS:=⟨2,[],⟨19,[(0,.s (.list cw)),(1,.clo 97 [.cptr [.str]]),(7,az),(8,az)],[]⟩,[],[⟨.ret,⟨19,rQ,[]⟩,[]⟩,⟨.exit 0,⟨19,[],[]⟩,[]⟩],PX⟩
def abn:LT:=dc.add 0 abm
def abo:ba P 0 abn (bp f44):=lA PW (dx _ _ _)
def Dt(d:LG):Option LG :=
 (bT true (cd PX [.l (gi d 0).rZ,.l [[.s (gi (gi d 1).rV 0).sV]],.i (lI (gi d 0).rZ),.i 0]) fun a b=>(bif aH a 0 then some [.i (gi b 0).iV] else some [.i (-1)]))
def abp:aM:=⟨44,[.s (.list cw),.clo 97 [.cptr [.str]]],[],[],[az],[],[],[],Dt⟩
def t45:aJ:=t44.aZ abp
def PY:aL P t45:=tP PW func44 abo

def tU(d:LG):Option LG :=
 (aj (Dt [.l (gi d 0).rZ,.l [[.s (gi d 1).sV]]]) fun a=>some [.i (gi a 0).iV])
def abq:aM:=⟨57,[.s (.list cw),aS],[],[],[az],[],[],[],tU⟩
def t46:aJ:=t45.aZ abq
def Iy:aL P t46:=PY.aP (qc hm (PY.lf [44]) func57 (by kernel_rfl) (dx _ _ _) (fun d=>by kernel_rfl) (by kernel_rfl))

def zz(d:LG):Option (Option Nat × LG) :=
 let a:=(gi d 1).rZ.getD (((gi d 3).iV).toNat) []; let g:=(gi d 3).iV-1; let b:=(gi d 3).iV+1; (bif (aK (gi d 3).iV (gi d 2).iV) then (gd (nL (gi d 3).iV (lI (gi d 1).rZ)) (aj (ql [.s (gi a 0).sV]) fun h=>(bif (!(gi h 0).bV) then eQ [.i 5] else (aj (oQ [.i (gi a 1).iV,.i 0,.i 30000000000]) fun k=>(bif (!(gi k 0).bV) then eQ [.i 1] else (gd (aF ((gi a 1).iV+1)) (aj (oQ [.i (gi a 2).iV,.i ((gi a 1).iV+1),.i 30000000000]) fun q=>(bif (!(gi q 0).bV) then eQ [.i 1] else (bif ((dS (gi a 1).iV 1000) != 0) then eQ [.i 1] else (bif ((dS (gi a 2).iV 1000) != 0) then eQ [.i 1] else (bif (aK 0 (gi d 3).iV) then (gd (aF g) (gd (nL g (lI (gi d 0).rZ)) (bif (aK (gi a 1).iV (gi ((gi d 0).rZ.getD (g.toNat) []) 2).iV) then eQ [.i 7] else (gd (aF b) (some (none,kp d 0 [.l,.l,.i] [.i b])))))) else (gd (aF b) (some (none,kp d 0 [.l,.l,.i] [.i b])))))))))))))) else eR [.l (gi d 0).rZ])
def abr:bS:=⟨4,[],⟨78,Pp,[]⟩,[],[⟨.ret,⟨78,qk,[]⟩,[]⟩,⟨.exit 0,⟨78,[(0,.s (.list cw))],[]⟩,[]⟩],zz⟩
def PZ:LT:=dc.add 0 abr
def abt:ba P 0 PZ (bp f14):=lA Iy (dx _ _ _)
def zA(d:LG):Option (Option Nat × LG) :=
 (bif (aK (gi d 3).iV (gi d 2).iV) then (gd (nL (gi d 3).iV (lI (gi d 1).rZ)) (gd ((cA (gi d 3).iV)&&(aR (gi d 3).iV (lI (gi d 0).rZ))) (aj (tU [.l ((gi d 0).rZ.take (((gi d 3).iV).toNat)),.s (gi ((gi d 1).rZ.getD (((gi d 3).iV).toNat) []) 0).sV]) fun a=>(bif (aR 0 (gi a 0).iV) then eQ [.i 6] else (gd (aF ((gi d 3).iV+1)) (some (none,kp d 0 [.l,.l,.i] [.i ((gi d 3).iV+1)]))))))) else eR [])
def abu:bS:=⟨14,[],⟨78,[(0,.s (.list cw)),(63,.s (.list cw)),(64,az),(65,az)],[]⟩,[],[⟨.ret,⟨78,qk,[]⟩,[]⟩,⟨.exit 3,⟨78,[],[]⟩,[]⟩],zA⟩
def abv:LT:=PZ.add 0 abu
def abw:ba P 0 abv (bp f14):=lA Iy abt
def tV(d:LG):Option LG :=
 let b:=(lI (gi d 0).rZ); (bif (aK 30 b) then some [.i 2] else (bT true (cd zz [.l (gi d 0).rZ,.l (gi d 0).rZ,.i b,.i 0]) fun g a=>(bif aH g 0 then some [.i (gi a 0).iV] else (bT true (cd zA [.l (gi a 0).rZ,.l (gi a 0).rZ,.i (lI (gi a 0).rZ),.i 0]) fun h k=>(bif aH h 0 then some [.i (gi k 0).iV] else some [.i 0])))))
def abx:aM:=⟨14,[.s (.list cw)],[],[],[az],[],[],[],tV⟩
def t47:aJ:=t46.aZ abx
def aby:aL P t47:=tP Iy func14 abw

def zB(d:LG):Option LG :=
 some [.l [[.s (⟨#[]⟩:BY)],[.s (⟨#[67,87]⟩:BY)],[.s (⟨#[80,72]⟩:BY)],[.s (⟨#[82,89]⟩:BY)]]]
def abz:aM:=⟨60,[],[],[],[.s (.list [.str])],[],[],[],zB⟩
def t48:aJ:=t47.aZ abz
def abA:aL P t48:=bL aby func60

def Du(d:LG):Option LG :=
 let a:=(gi d 1).iV-1; let b:=(gi (([[.i 31],[.i 28],[.i 31],[.i 30],[.i 31],[.i 30],[.i 31],[.i 31],[.i 30],[.i 31],[.i 30],[.i 31]]:LL).getD (a.toNat) []) 0); let g:=nL a 12; let h:=(dS (gi d 0).iV 400)==0; (bif ((gi d 1).iV==2) then (bif ((dS (gi d 0).iV 4)==0) then (bif ((dS (gi d 0).iV 100) != 0) then some [.i 29] else (bif h then some [.i 29] else (gd (aF a) (gd g (some [.i b.iV]))))) else (bif h then some [.i 29] else (gd (aF a) (gd g (some [.i b.iV]))))) else (gd (aF a) (gd g (some [.i b.iV]))))
def abB:aM:=⟨100,[az,az],[],[],[az],[],[],[],Du⟩
def t49:aJ:=t48.aZ abB
def abC:aL P t49:=bL abA func100

def rS(d:LG):Option LG :=
 (gd (aF (100+(gi d 0).iV)) (aj (lk [.i (100+(gi d 0).iV)]) fun a=>(gd (aR 1 (((gi a 0).sV.size:Nat):Int)) (some [.s ((gi a 0).sV.extract 1 (gi a 0).sV.size)]))))
def abD:aM:=⟨62,[az],[],[],[aS],[],[],[],rS⟩
def t50:aJ:=t49.aZ abD
def P0:aL P t50:=bL abC func62

def wD(d:LG):Option (Option Nat × LG) :=
 let g:=Du [.i (gi d 1).iV,.i (gi d 2).iV]; let a:=(gi d 2).iV+1; (aj g fun h=>(bif (aR (gi h 0).iV (gi d 0).iV) then (aj g fun k=>let b:=(gi d 0).iV-(gi k 0).iV; (gd (aF b) (gd (aF a) (bif (aK 12 a) then (gd (aF ((gi d 1).iV+1)) (nQ [.i b,.i ((gi d 1).iV+1),.i 1])) else nQ [.i b,.i (gi d 1).iV,.i a])))) else some (some 0,kp d 0 [.i,.i,.i] [])))
def abE:bS:=⟨2,[],⟨32,[(0,az),(3,az),(4,az)],[]⟩,[],[⟨.exit 0,⟨32,[(0,az),(3,az),(4,az)],[]⟩,[]⟩],wD⟩
def abF:LT:=dc.add 0 abE
def abG:ba P 0 abF (bp f61):=lA P0 (dx _ _ _)
def tX(d:LG):Option LG :=
 let b:=(⟨#[45]⟩:BY); (bT true (cd wD [.i (gi d 0).iV,.i 2024,.i 1]) fun v a=>(aj (lk [.i (gi a 1).iV]) fun h=>let k:=(gi h 0).sV++b; (gd (bf ((gi h 0).sV.size+1) 9223372036854775807) (aj (rS [.i (gi a 2).iV]) fun q=>let g:=k++(gi q 0).sV; (gd (bf (k.size+(gi q 0).sV.size) 9223372036854775807) (gd (bf (g.size+1) 9223372036854775807) (gd (aF ((gi a 0).iV+1)) (aj (rS [.i ((gi a 0).iV+1)]) fun t=>(gd (bf ((g++b).size+(gi t 0).sV.size) 9223372036854775807) (some [.s ((g++b)++(gi t 0).sV)]))))))))))
def abH:aM:=⟨61,[az],[],[],[aS],[],[],[],tX⟩
def t51:aJ:=t50.aZ abH
def abI:aL P t51:=tP P0 func61 abG

def zD(d:LG):Option LG :=
 (bif ((gi d 0).iV==0) then some [.s (⟨#[45]⟩:BY)] else (aj (lk [.i (gi d 0).iV]) fun a=>some [.s (gi a 0).sV]))
def abJ:aM:=⟨63,[az],[],[],[aS],[],[],[],zD⟩
def t52:aJ:=t51.aZ abJ
def abK:aL P t52:=bL abI func63

def zE(d:LG):Option LG :=
 (bif ((gi d 0).sV.toList==(⟨#[]⟩:BY).toList) then some [.s (⟨#[45]⟩:BY)] else some [.s (gi d 0).sV])
def abL:aM:=⟨64,[aS],[],[],[aS],[],[],[],zE⟩
def t53:aJ:=t52.aZ abL
def abM:aL P t53:=bL abK func64

def t54:aJ:=t53.oM P 34 f34
def abN:aL P t54:=abM.oM hm func34 (by kernel_rfl) (by kernel_rfl)

def tY(d:LG):Option LG :=
 za d
def P1:aM:=⟨82,[aS,aS,az,az],[],[],[.s (.list [.str])],[],[],[],tY⟩
def abO:gR P P1:=fun d r h=>Yz Tryz.Ze (by kernel_rfl) d r h
def t55:aJ:=t54.aZ P1
def abP:aL P t55:=abN.aP abO

def Dv(d:LG):Option LG :=
 (aj (tY [.s (gi d 0).sV,.s (gi d 1).sV,.i 0,.i (gi d 2).iV]) fun a=>some [.l (gi a 0).rZ])
def abQ:aM:=⟨35,[aS,aS,az],[],[],[.s (.list [.str])],[],[],[],Dv⟩
def t56:aJ:=t55.aZ abQ
def abR:aL P t56:=bL abP func35

def Dw(d:LG):Option LG :=
 let v:=(((gi d 2).sV.size:Nat):Int); let y:=(((gi d 3).sV.size:Nat):Int); (bif ((gi d 2).sV.toList==(⟨#[]⟩:BY).toList) then some [.l (gi d 0).rZ,.i (gi d 1).iV,.s (gi d 3).sV] else (bif ((gi d 3).sV.toList==(⟨#[]⟩:BY).toList) then some [.l (gi d 0).rZ,.i (gi d 1).iV,.s (gi d 3).sV] else (aj (mQ [.l (gi d 0).rZ,.i (gi d 1).iV,.i v]) fun b=>let g:=(gi d 2).sV.extract 0 ((gi b 2).iV).toNat; let z5:=(cA (gi b 2).iV)&&(aR (gi b 2).iV v); let h:=(gi b 2).iV+1; let q:=(gi d 2).sV.extract h.toNat (gi d 2).sV.size; let z:=(gi d 2).sV.extract ((gi b 2).iV).toNat (gi d 2).sV.size; let A:=(cA h)&&(aR h v); (aj (mQ [.l (gi b 0).rZ,.i (gi b 1).iV,.i y]) fun t=>let k:=(Utf8.encode (IntKind.i32.wrap (((gi d 3).sV.data.toList.getD (((gi t 2).iV).toNat) 0).toNat:Int))); let w:=bf (g.size+k.size) 9223372036854775807; (gd (nL (gi t 2).iV y) (aj (mQ [.l (gi t 0).rZ,.i (gi t 1).iV,.i 3]) fun a=>(bif ((gi a 2).iV==0) then (gd z5 (gd w (gd (aF h) (gd A (gd (bf ((g++k).size+q.size) 9223372036854775807) (some [.l (gi a 0).rZ,.i (gi a 1).iV,.s ((g++k)++q)])))))) else (bif ((gi a 2).iV==1) then (gd z5 (gd w (gd z5 (gd (bf ((g++k).size+z.size) 9223372036854775807) (some [.l (gi a 0).rZ,.i (gi a 1).iV,.s ((g++k)++z)]))))) else (gd z5 (gd (aF h) (gd A (gd (bf (g.size+q.size) 9223372036854775807) (some [.l (gi a 0).rZ,.i (gi a 1).iV,.s (g++q)])))))))))))))
def abS:aM:=⟨37,[.s (.ptr 0 0),aS,aS],[.box [.list [.I],.I]],[.aO 0],[aS],[.box [.list [.I],.I]],[.fix 0],[],Dw⟩
def t57:aJ:=t56.dK abS
def abT:aL P t57:=kE abR func37

def rT(d:LG):Option LG :=
 let a:=(((gi d 0).sV.size:Nat):Int); (bif (!((gi d 0).sV.toList==(⟨#[]⟩:BY).toList)) then (bif (aR a 40) then (gd (aK 0 a) (aj (wv [.s (⟨#[97,98,99,100,101,102,103,104,105,106,107,108,109,110,111,112,113,114,115,116,117,118,119,120,121,122]⟩:BY),.i (((gi d 0).sV.data.toList.getD 0 0).toNat:Int)]) fun b=>(bif (aR 0 (gi b 0).iV) then (aj (lV [.s (gi d 0).sV,.s (⟨#[97,98,99,100,101,102,103,104,105,106,107,108,109,110,111,112,113,114,115,116,117,118,119,120,121,122,48,49,50,51,52,53,54,55,56,57,45,95]⟩:BY)]) fun g=>some [.t ((gi g 0).sV.toList==(⟨#[]⟩:BY).toList)]) else some [.t false]))) else some [.t false]) else some [.t false])
def abU:aM:=⟨71,[aS],[],[],[bP],[],[],[],rT⟩
def t58:aJ:=t57.aZ abU
def abV:aL P t58:=bL abT func71

def lX(d:LG):Option LG :=
 (bif (aK (gi d 0).iV (gi d 1).iV) then some [.t true] else some [.t (aK (gi d 2).iV (gi d 0).iV)])
def abW:aM:=⟨38,[az,az,az],[],[],[bP],[],[],[],lX⟩
def t59:aJ:=t58.aZ abW
def abX:aL P t59:=bL abV func38

def Dx(d:LG):Option LG :=
 some [.t ((gi (gi d 0).rV 0).sV.toList==(gi (gi d 1).rV 0).sV.toList)]
def abY:aM:=⟨73,[.s (.row cw),.s (.cptr cw)],[],[],[bP],[],[],[],Dx⟩
def t60:aJ:=t59.aZ abY
def P2:aL P t60:=bL abX func73

def P3(d:LG):Option (Option Nat × LG) :=
 let a:=bF cw (gi d 1).rV; (bif (aK (gi d 3).iV (gi d 2).iV) then (gd (nL (gi d 3).iV (lI (gi d 0).rZ)) (aj (Dx [.l [(bF cw ((gi d 0).rZ.getD (((gi d 3).iV).toNat) []))],.l [a]]) fun b=>(bif (gi b 0).bV then eQ [.i (gi d 3).iV] else (gd (aF ((gi d 3).iV+1)) (nQ [.l (gi d 0).rZ,.l [a],.i (gi d 2).iV,.i ((gi d 3).iV+1)]))))) else eR [])
def abZ:bS:=⟨2,[],⟨19,[(0,.s (.list cw)),(1,.clo 73 [.cptr cw]),(7,az),(8,az)],[]⟩,[],[⟨.ret,⟨19,rQ,[]⟩,[]⟩,⟨.exit 0,⟨19,[],[]⟩,[]⟩],P3⟩
def ab0:LT:=dc.add 0 abZ
def ab1:ba P 0 ab0 (bp f44):=lA P2 (dx _ _ _)
def Iz(d:LG):Option LG :=
 (bT true (cd P3 [.l (gi d 0).rZ,.l [(bF cw (gi d 1).rV)],.i (lI (gi d 0).rZ),.i 0]) fun a b=>(bif aH a 0 then some [.i (gi b 0).iV] else some [.i (-1)]))
def ab2:aM:=⟨44,[.s (.list cw),.clo 73 [.cptr cw]],[],[],[az],[],[],[],Iz⟩
def t61:aJ:=t60.aZ ab2
def ab3:aL P t61:=tP P2 func44 ab1

end
end Go.Proofs.jL
