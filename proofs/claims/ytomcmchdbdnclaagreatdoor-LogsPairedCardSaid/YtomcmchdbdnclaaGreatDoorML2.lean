/-
 What is proved: functions as functions on data. No condition.
-/
import Derived.Test.YtomcmchdbdnclaaGreatDoorML1
set_option linter.all false
open Int renaming tmod->Aq,tdiv->Ef
open Nat renaming beq->ai,blt->cC
namespace Go.Proofs.iy
open Go Go.AL Go.Proofs Tryz
noncomputable section
def u6(d:List G):Option (List G) :=
 let g:=Aq (gi d 0).int (gi d 1).int; (bif (aj (gi d 1).int 1) then some [.i 0] else (bif (!((gi d 1).int==0)) then (bif (aj g 0) then (bif (ao (g+(gi d 1).int)) then some [.i (g+(gi d 1).int)] else none) else some [.i g]) else none))
def G9:aH:=⟨24,[ad,ad],[],[],[ad],[],[],[],u6⟩
theorem adK:aX P t7 aA f24 G9:=fun d=>by kernel_rfl
theorem adL:aY P G9:=aV hm QE func24 (aO _ _ _) adK
def t8:au:=t7.br G9
theorem QF:aw P t8:=QE.aP adL

def l_(d:List G):Option (List G) :=
 let g:=(((gi d 0).rows.length:Nat):Int); let z2:=(gi d 1).int+1; let z3:=Aq (z2-1) g; let z4:=(Ef (z2-1) g)*(7919+z3); (bif (ao z2) then (bif (g==0) then (bif (ao (z2*7919)) then (ar (u6 [.i (z2*7919),.i (gi d 2).int]) fun g1=>some [.l (gi d 0).rows,.i z2,.i (gi g1 0).int]) else none) else (bif (ao (z2-1)) then (bif (!(g==0)) then (bif (ao (z2-1)) then (bif ((!(g==0))&&(ao (Ef (z2-1) g))) then (bif ((az z3)&&(aj z3 g)) then (ar (u6 [.i (gi ((gi d 0).rows.getD (z3.toNat) []) 0).int,.i 1073741824]) fun g2=>(bif (ao (7919+z3)) then (bif (ao z4) then (bif (ao ((gi g2 0).int+z4)) then (ar (u6 [.i ((gi g2 0).int+z4),.i (gi d 2).int]) fun g3=>some [.l (gi d 0).rows,.i z2,.i (gi g3 0).int]) else none) else none) else none)) else none) else none) else none) else none) else none)) else none)
def G_:aH:=⟨7,[.s (.ptr 0 0),ad],[.box [.list [.int .i64],.int .i64]],[.slot 0],[ad],[.box [.list [.int .i64],.int .i64]],[.fix 0],[],l_⟩
theorem adM:aX P t8 aA f7 G_:=fun d=>by kernel_rfl
theorem adN:aY P G_:=aV hm QF func7 (aO _ _ _) adM
def t9:au:=t8.du G_
theorem QG:aw P t9:=QF.aW adN

def qt(d:List G):Option (List G) :=
 let g:=(gi d 3).int-(gi d 2).int; (bif (aj (gi d 3).int (gi d 2).int) then some [.l (gi d 0).rows,.i (gi d 1).int,.i (gi d 2).int] else (bif (ao g) then (bif (ao (g+1)) then (ar (l_ [.l (gi d 0).rows,.i (gi d 1).int,.i (g+1)]) fun g1=>let z2:=(gi d 2).int+(gi g1 2).int; (bif (ao z2) then some [.l (gi g1 0).rows,.i (gi g1 1).int,.i z2] else none)) else none) else none))
def G':aH:=⟨9,[.s (.ptr 0 0),ad,ad],[.box [.list [.int .i64],.int .i64]],[.slot 0],[ad],[.box [.list [.int .i64],.int .i64]],[.fix 0],[],qt⟩
theorem adO:aX P t9 aA f9 G':=fun d=>by kernel_rfl
theorem adP:aY P G':=aV hm QG func9 (aO _ _ _) adO
def t10:au:=t9.du G'
theorem QH:aw P t10:=QG.aW adP

def kL(d:List G):Option (List G) :=
 let g:=(((gi d 2).rows.length:Nat):Int); (ar (l_ [.l (gi d 0).rows,.i (gi d 1).int,.i g]) fun g1=>(bif ((az (gi g1 2).int)&&(aj (gi g1 2).int g)) then some [.l (gi g1 0).rows,.i (gi g1 1).int,.i (gi ((gi d 2).rows.getD (((gi g1 2).int).toNat) []) 0).int] else none))
def Ha:aH:=⟨10,[.s (.ptr 0 0),fj],[.box [.list [.int .i64],.int .i64]],[.slot 0],[ad],[.box [.list [.int .i64],.int .i64]],[.fix 0],[],kL⟩
theorem adQ:aX P t10 aA f10 Ha:=fun d=>by kernel_rfl
theorem adR:aY P Ha:=aV hm QH func10 (aO _ _ _) adQ
def t11:au:=t10.du Ha
theorem QI:aw P t11:=QH.aW adR

def gW(d:List G):Option (List G) :=
 let g:=(((gi d 2).rows.length:Nat):Int); (ar (l_ [.l (gi d 0).rows,.i (gi d 1).int,.i g]) fun g1=>(bif ((az (gi g1 2).int)&&(aj (gi g1 2).int g)) then some [.l (gi g1 0).rows,.i (gi g1 1).int,.s (gi ((gi d 2).rows.getD (((gi g1 2).int).toNat) []) 0).str] else none))
def Hb:aH:=⟨11,[.s (.ptr 0 0),.s (.list [.str])],[.box [.list [.int .i64],.int .i64]],[.slot 0],[cO],[.box [.list [.int .i64],.int .i64]],[.fix 0],[],gW⟩
theorem adS:aX P t11 aA f11 Hb:=fun d=>by kernel_rfl
theorem adT:aY P Hb:=aV hm QI func11 (aO _ _ _) adS
def t12:au:=t11.du Hb
theorem QJ:aw P t12:=QI.aW adT

def mY(d:List G):Option (List G) :=
 (ar (l_ [.l (gi d 0).rows,.i (gi d 1).int,.i (gi d 2).int]) fun g1=>some [.l (gi g1 0).rows,.i (gi g1 1).int,.t ((gi g1 2).int==0)])
def Hc:aH:=⟨8,[.s (.ptr 0 0),ad],[.box [.list [.int .i64],.int .i64]],[.slot 0],[dj],[.box [.list [.int .i64],.int .i64]],[.fix 0],[],mY⟩
theorem adU:aX P t12 aA f8 Hc:=fun d=>by kernel_rfl
theorem adV:aY P Hc:=aV hm QJ func8 (aO _ _ _) adU
def t13:au:=t12.du Hc
theorem QK:aw P t13:=QJ.aW adV

def qu(d:List G):Option (List G) :=
 (bif (aj (gi d 0).int 0) then some [.i (-1)] else (bif (aj 0 (gi d 0).int) then some [.i 1] else some [.i 0]))
def Hd:aH:=⟨34,[ad],[],[],[ad],[],[],[],qu⟩
theorem adW:aX P t13 aA f34 Hd:=fun d=>by kernel_rfl
theorem adX:aY P Hd:=aV hm QK func34 (aO _ _ _) adW
def t14:au:=t13.br Hd
theorem QL:aw P t14:=QK.aP adX

def sD(d:List G):Option (List G) :=
 let g:=(gi (gi d 0).row 0).int-(gi (gi d 1).row 0).int; let z2:=(gi (gi d 0).row 1).int-(gi (gi d 1).row 1).int; (bif ((gi (gi d 0).row 0).int != (gi (gi d 1).row 0).int) then (bif (ao g) then (ar (qu [.i g]) fun g1=>some [.i (gi g1 0).int]) else none) else (bif (!((gi (gi d 0).row 3).str.toList==(gi (gi d 1).row 3).str.toList)) then (ar (mX [.s (gi (gi d 0).row 3).str,.s (gi (gi d 1).row 3).str]) fun g2=>some [.i (gi g2 0).int]) else (bif (!((gi (gi d 0).row 2).str.toList==(gi (gi d 1).row 2).str.toList)) then (ar (mX [.s (gi (gi d 0).row 2).str,.s (gi (gi d 1).row 2).str]) fun g3=>some [.i (gi g3 0).int]) else (bif (ao z2) then (ar (qu [.i z2]) fun g4=>some [.i (gi g4 0).int]) else none))))
def He:aH:=⟨41,[.s (.row aq),.s (.row aq)],[],[],[ad],[],[],[],sD⟩
theorem adY:aX P t14 aA f41 He:=fun d=>by kernel_rfl
theorem adZ:aY P He:=aV hm QL func41 (aO _ _ _) adY
def t15:au:=t14.br He
theorem Cu:aw P t15:=QL.aP adZ

def QM(d:List G):Option (Option Nat × List G) :=
 let z2:=(gi d 4).int-1; let g:=(gi d 0).rows.set (0+((gi d 4).int).toNat) (dx aq ((gi d 0).rows.getD (0+((gi d 4).int).toNat) []) 0 (aT aq ((gi d 0).rows.getD (0+z2.toNat) []))); let z3:=(((gi d 0).rows.length:Nat):Int); let z4:=g.set (0+z2.toNat) (dx aq (g.getD (0+z2.toNat) []) 0 (aT aq ((gi d 0).rows.getD (0+((gi d 4).int).toNat) []))); let z5:=decide ((0+((gi d 4).int).toNat)<(gi d 0).rows.length); let k:=(az (gi d 4).int)&&(aj (gi d 4).int z3); let q:=(ai (gi d 0).rows.length (gi d 0).rows.length)&&true; let u:=decide ((0+z2.toNat)<(gi d 0).rows.length); let z9:=(az z2)&&(aj z2 z3); (bif (aj (gi d 1).int (gi d 4).int) then (bif k then (bif z5 then (bif (ao z2) then (bif z9 then (bif u then (ar (sD [.l [(aT aq ((gi d 0).rows.getD (0+((gi d 4).int).toNat) []))],.l [(aT aq ((gi d 0).rows.getD (0+z2.toNat) []))]]) fun g1=>(bif (aj (gi g1 0).int 0) then (bif (ao z2) then (bif (ao z2) then (bif z9 then (bif u then (bif k then (bif z5 then (bif k then (bif z5 then (bif z9 then (bif (decide ((0+z2.toNat)<g.length)) then (bif (ao z2) then (bif ((ai (gi d 0).rows.length z4.length)&&true) then some (none,[.l z4,.i (gi d 1).int,.i (gi d 2).int,.i (gi d 3).int,.i z2]) else none) else none) else none) else none) else none) else none) else none) else none) else none) else none) else none) else none) else (bif q then some (some 0,[.l (gi d 0).rows,.i (gi d 1).int,.i (gi d 2).int,.i (gi d 3).int]) else none))) else none) else none) else none) else none) else none) else (bif q then some (some 0,[.l (gi d 0).rows,.i (gi d 1).int,.i (gi d 2).int,.i (gi d 3).int]) else none))
abbrev j5:List bA:=[.vec aq 0]
abbrev qv:List bA:=[.box [.list [.int .i64],.int .i64],.aJ 1 (.one (.str)) aq,.map (.one (.str)) (.one (.int .i64))]
abbrev qw:List bA:=[.box [.list [.int .i64],.list [.int .i64],.list [.int .i64]],.vec [.int .i64] 0]
abbrev sE:List bA:=[.box [.list aq,.list aq,.list [.int .i64],.list [.int .i64],.int .i64,.list [.list [.int .i64]]],.vec [.int .i64,.int .i64] 0]
abbrev u7:List bA:=[.box [.list [.str,.list aq],.int .i64,.int .i64,.map 1,.map 2],.mm 11 (.one (.int .i64)) (.one (.int .i64)) (.one (.int .i64)),.mm 12 (.one (.int .i64)) (.one (.int .i64)) (.one (.bool))]
abbrev yE:List bA:=[.box [.str,.list aq],.box [.str,.list aq]]
abbrev yF:List bA:=[.box [.str,.list aq],.box [.str,.list aq],.box [.list [.int .i64,.int .i64],.int .i64],.b_ 1 [.list [.int .i64,.int .i64],.int .i64]]
abbrev Cv:List bA:=[.box [.list aq,.list aq,.list [.int .i64],.list [.int .i64],.int .i64,.vec 1 1],.vec [.list [.int .i64]] 0,.vec [.int .i64] 0]
abbrev Cw:List bA:=[.vec [.int .i64,.int .i64] 0]
abbrev Cx:List bA:=[.box [.str,.list aq],.box [.str,.list aq],.bp 1 (.one (.str)) [.int .i64]]
abbrev Hg:List bA:=[.box [.list [.int .i64],.int .i64],.vec [.str,.list aq] 0]
abbrev Hh:List bA:=[.box [.str,.list aq],.box [.str,.list aq],.map (.agg [.str,.int .i64]) (.one (.list [.int .i64])),.vec [.int .i64] 0,.box [.str,.int .i64]]
abbrev Hk:List bA:=[.box [.str,.list aq],.box [.str,.list aq],.map (.agg [.str,.int .i64]) (.one (.list [.int .i64])),.vec [.int .i64] 0]
abbrev QN:List bA:=[.box [.list aq,.list aq,.list [.int .i64],.list [.int .i64],.int .i64,.vec 1 1],.vec [.list [.int .i64]] 0]
abbrev QO:List bA:=[.box [.str,.list aq],.box [.str,.list aq],.map (.agg [.str,.int .i64]) (.one (.list [.int .i64])),.vec [.int .i64,.int .i64] 0]
abbrev QP:List bA:=[.box [.str,.list aq],.box [.str,.list aq],.vec [.int .i64,.int .i64] 0]
abbrev QQ:List bA:=[.box [.str,.list aq],.box [.str,.list aq],.map (.one (.int .i64)) (.one (.int .i64)),.box [.int .i64,.int .i64,.str,.str,.int .i64,.int .i64,.str,.str]]
abbrev QR:List bA:=[.box [.str,.list aq],.box [.str,.list aq],.map (.one (.int .i64)) (.one (.int .i64))]
abbrev QS:List bA:=[.box [.list [.str,.list aq],.int .i64,.int .i64,.map 1,.map 2],.mm 11 (.one (.int .i64)) (.one (.int .i64)) (.one (.int .i64)),.mm 12 (.one (.int .i64)) (.one (.int .i64)) (.one (.bool)),.box [.int .i64,.int .i64,.str,.str,.int .i64,.int .i64,.str,.str]]
abbrev u9:List (Nat × Sh):=[(0,.s (.ptr 0 0)),(3,.s (.list [.str])),(4,.s (.map 1)),(5,ad),(6,.s (.map 2)),(24,ad),(25,ad)]
abbrev yG:List (Nat × Sh):=[(2,ad)]
abbrev yH:List (Nat × Sh):=[(0,cO),(1,cO),(5,.s (.ptr 0 0)),(6,ad),(7,.s (.vec 1 1)),(12,ad),(13,ad),(21,ad),(22,ad)]
abbrev Hl:List (Nat × Sh):=[(0,.s (.ptr 0 0)),(2,ad),(3,.s (.vec 2 1)),(4,ad)]
abbrev Hm:List (Nat × Sh):=[(0,.s (.ptr 0 0)),(3,.s (.vec 1 2)),(4,ad),(15,ad),(16,ad)]
abbrev Hn:List (Nat × Sh):=[(2,ad),(3,.s (.ptr 0 0)),(4,.s (.ptr 1 0)),(8,.s (.map 2)),(9,.s (.vec 3 1)),(28,sx)]
abbrev QT:List (Nat × Sh):=[(0,.s (.vec 0 8)),(1,ad),(2,ad),(3,.s (.fn 41)),(8,ad)]
abbrev QU:List (Nat × Sh):=[(0,.s (.vec 0 8)),(1,ad),(2,.s (.fn 41)),(6,ad),(7,ad),(8,ad)]
abbrev QV:List (Nat × Sh):=[(0,.s (.vec 0 8)),(1,ad),(2,.s (.fn 41)),(6,ad),(7,ad)]
abbrev QW:List (Nat × Sh):=[(0,gL),(9,gL),(10,ad),(11,ad)]
abbrev QX:List (Nat × Sh):=[(2,ad),(3,.s (.ptr 0 0)),(4,.s (.ptr 1 0)),(12,.s (.list [.str,.list aq])),(13,ad),(14,ad)]
abbrev QY:List (Nat × Sh):=[(0,.s (.ptr 0 0)),(3,.s (.vec 1 2)),(4,ad),(5,ad),(6,ad),(15,ad),(16,ad)]
abbrev QZ:List (Nat × Sh):=[(2,ad),(3,.s (.ptr 0 0)),(4,.s (.ptr 1 0)),(8,.s (.map 2)),(9,.s (.vec 3 2)),(24,sx)]
abbrev Q0:List (Nat × Sh):=[(2,ad),(3,.s (.ptr 0 0)),(4,.s (.ptr 1 0)),(8,.s (.map 2)),(9,.s (.vec 3 1)),(10,.s (.ptr 4 0)),(28,sx),(34,fj),(35,ad),(36,ad)]
abbrev Q1:List (Nat × Sh):=[(10,fj),(11,ad),(12,ad),(13,ad)]
abbrev Q2:List (Nat × Sh):=[(2,fj),(3,fj),(4,ad),(5,.s (.ptr 0 0)),(6,.s (.ptr 1 0)),(10,.s (.ptr 2 0)),(11,.s (.pre 3 1)),(13,ad)]
abbrev Q3:List (Nat × Sh):=[(2,ad),(3,.s (.ptr 0 0)),(4,.s (.ptr 1 0)),(7,.s (.map 2)),(20,.s (.list [.str,.list aq])),(21,ad),(22,ad)]
abbrev Q4:List (Nat × Sh):=[(2,ad),(3,.s (.ptr 0 0)),(4,.s (.ptr 1 0)),(14,.s (.vec 2 2)),(70,sx)]
abbrev Q5:List (Nat × Sh):=[(2,ad),(3,.s (.ptr 0 0)),(4,.s (.ptr 1 0)),(8,ad),(9,ad),(10,.s (.map 2)),(12,.s (.ptr 3 0)),(19,gL),(20,ad),(21,ad),(26,gL),(27,ad),(28,ad)]
abbrev Q6:List (Nat × Sh):=[(2,ad),(3,.s (.ptr 0 0)),(4,.s (.ptr 1 0)),(8,ad),(9,ad),(10,.s (.map 2)),(19,gL),(20,ad),(21,ad)]
def Q7:bq:=⟨4,[],⟨53,[(0,.s (.vec 0 8)),(1,ad),(2,ad),(3,.s (.fn 41)),(8,ad),(9,ad)],j5⟩,[.fix 0],[⟨.exit 2,⟨53,QT,j5⟩,[.fix 0]⟩],QM⟩
theorem ad0:cA P t15 aA 1 (cF f98 4) Q7:=fun d=>by kernel_rfl
def Ho:LT:=aA.add 1 Q7
theorem ad1:ay P 1 Ho (a6 f98):=ay.a hm Cu (aO _ _ _) ad0
def Q8(d:List G):Option (Option Nat × List G) :=
 (bif (aj (gi d 3).int (gi d 2).int) then (aR ((ai (gi d 0).rows.length (gi d 0).rows.length)&&true) (bV QM [.l (gi d 0).rows,.i (gi d 1).int,.i (gi d 2).int,.i (gi d 3).int,.i (gi d 3).int]) fun g g2=>(bif (ao ((gi g2 3).int+1)) then (bif ((ai (gi g2 0).rows.length (gi g2 0).rows.length)&&true) then some (none,[.l (gi g2 0).rows,.i (gi g2 1).int,.i (gi g2 2).int,.i ((gi g2 3).int+1)]) else none) else none)) else some (some 0,[.l (gi d 0).rows]))
def Q9:bq:=⟨1,[],⟨53,QT,j5⟩,[.fix 0],[⟨.exit 0,⟨53,[],j5⟩,[.fix 0]⟩],Q8⟩
theorem ad2:cA P t15 Ho 1 (cF f98 1) Q9:=fun d=>by kernel_rfl
def Q_:LT:=Ho.add 1 Q9
theorem ad3:ay P 1 Q_ (a6 f98):=ay.a hm Cu ad1 ad2
def Hp(d:List G):Option (List G) :=
 (bif (ao ((gi d 1).int+1)) then (aR ((ai (gi d 0).rows.length (gi d 0).rows.length)&&true) (bV Q8 [.l (gi d 0).rows,.i (gi d 1).int,.i (gi d 2).int,.i ((gi d 1).int+1)]) fun g g3=>some [.l (gi g3 0).rows]) else none)
def Hq:aH:=⟨98,[.s (.vec 0 8),ad,ad,.s (.fn 41)],[.vec aq 0],[.slot 0],[],[.vec aq 0],[.fix 0],[],Hp⟩
theorem ad4:aX P t15 Q_ f98 Hq:=fun d=>by kernel_rfl
theorem ad5:aY P Hq:=aV hm Cu func98 ad3 ad4
def t16:au:=t15.du Hq
theorem yI:aw P t16:=Cu.aW ad5

def Ra(d:List G):Option (Option Nat × List G) :=
 let g:=Hp [.l (gi d 0).rows,.i (gi d 3).int,.i (gi d 4).int]; let z2:=(ai (gi d 0).rows.length (gi d 0).rows.length)&&true; let z3:=(gi d 4).int+(gi d 2).int; (bif (aZ (gi d 4).int (gi d 1).int) then (lu (z2&&g.isSome) g fun g1=>(bif (ao z3) then (bif ((ai (gi d 0).rows.length (gi g1 0).rows.length)&&true) then some (none,[.l (gi g1 0).rows,.i (gi d 1).int,.i (gi d 2).int,.i (gi d 4).int,.i z3]) else none) else none)) else (bif z2 then some (some 0,[.l (gi d 0).rows,.i (gi d 1).int,.i (gi d 2).int,.i (gi d 3).int]) else none))
def Rb:bq:=⟨2,[],⟨63,QU,j5⟩,[.fix 0],[⟨.exit 0,⟨63,QV,j5⟩,[.fix 0]⟩],Ra⟩
theorem ad6:cA P t16 aA 1 (cF f66 2) Rb:=fun d=>by kernel_rfl
def Hr:LT:=aA.add 1 Rb
theorem ad7:ay P 1 Hr (a6 f66):=ay.a hm yI (aO _ _ _) ad6
def Rc(d:List G):Option (Option Nat × List G) :=
 (bif (aZ (gi d 4).int (gi d 1).int) then (bif (ao ((gi d 3).int+(gi d 2).int)) then none else none) else (bif ((ai (gi d 0).rows.length (gi d 0).rows.length)&&true) then some (some 0,[.l (gi d 0).rows,.i (gi d 1).int,.i (gi d 2).int,.i (gi d 3).int]) else none))
def Re:bq:=⟨9,[],⟨63,QU,j5⟩,[.fix 0],[⟨.exit 4,⟨63,QV,j5⟩,[.fix 0]⟩],Rc⟩
theorem ad8:cA P t16 Hr 1 (cF f66 9) Re:=fun d=>by kernel_rfl
def Hs:LT:=Hr.add 1 Re
theorem ad9:ay P 1 Hs (a6 f66):=ay.a hm yI ad7 ad8
def Rf(d:List G):Option (Option Nat × List G) :=
 (bif (aj (gi d 2).int (gi d 1).int) then (bif (ao (2*(gi d 2).int)) then (aR ((ai (gi d 0).rows.length (gi d 0).rows.length)&&true) (bV Rc [.l (gi d 0).rows,.i (gi d 1).int,.i (gi d 2).int,.i 0,.i (2*(gi d 2).int)]) fun k g4=>let g:=(gi g4 3).int+(gi g4 2).int; (bif (ao g) then (bif (aj g (gi g4 1).int) then none else (bif (ao ((gi g4 2).int*2)) then (bif ((ai (gi g4 0).rows.length (gi g4 0).rows.length)&&true) then some (none,[.l (gi g4 0).rows,.i (gi g4 1).int,.i ((gi g4 2).int*2)]) else none) else none)) else none)) else none) else some (some 0,[.l (gi d 0).rows]))
def Rg:bq:=⟨7,[],⟨63,[(0,.s (.vec 0 8)),(1,ad),(2,.s (.fn 41)),(6,ad)],j5⟩,[.fix 0],[⟨.exit 2,⟨63,[],j5⟩,[.fix 0]⟩],Rf⟩
theorem ad_:cA P t16 Hs 1 (cF f66 7) Rg:=fun d=>by kernel_rfl
def Rh:LT:=Hs.add 1 Rg
theorem ad':ay P 1 Rh (a6 f66):=ay.a hm yI ad9 ad_
def Ri(d:List G):Option (List G) :=
 (aR ((ai (gi d 0).rows.length (gi d 0).rows.length)&&true) (bV Ra [.l (gi d 0).rows,.i (gi d 1).int,.i 20,.i 0,.i 20]) fun k g2=>let g:=Hp [.l (gi g2 0).rows,.i (gi g2 3).int,.i (gi g2 1).int]; (lu (((ai (gi g2 0).rows.length (gi g2 0).rows.length)&&true)&&g.isSome) g fun g3=>(aR ((ai (gi g2 0).rows.length (gi g3 0).rows.length)&&true) (bV Rf [.l (gi g3 0).rows,.i (gi g2 1).int,.i (gi g2 2).int]) fun q g5=>some [.l (gi g5 0).rows])))
def Ht:aH:=⟨66,[.s (.vec 0 8),ad,.s (.fn 41)],[.vec aq 0],[.slot 0],[],[.vec aq 0],[.fix 0],[],Ri⟩
theorem aea:aX P t16 Rh f66 Ht:=fun d=>by kernel_rfl
theorem aeb:aY P Ht:=aV hm yI func66 ad' aea
def t17:au:=t16.du Ht
theorem Rj:aw P t17:=yI.aW aeb

def Rk(d:List G):Option (List G) :=
 let g:=(Ri [.l (gi d 0).rows,.i (((gi d 0).rows.length:Nat):Int)]); (lu (((ai (gi d 0).rows.length (gi d 0).rows.length)&&true)&&g.isSome) g fun g1=>some [.l (gi g1 0).rows])
def Hu:aH:=⟨40,[.s (.vec 0 8),.s (.fn 41)],[.vec aq 0],[.slot 0],[],[.vec aq 0],[.fix 0],[],Rk⟩
theorem aec:aX P t17 aA f40 Hu:=fun d=>by kernel_rfl
theorem aed:aY P Hu:=aV hm Rj func40 (aO _ _ _) aec
def t18:au:=t17.du Hu
theorem Rl:aw P t18:=Rj.aW aed

def yJ(d:List G):Option (List G) :=
 (ar (sD [.l [(aT aq (gi d 0).row)],.l [(aT aq (gi d 1).row)]]) fun g1=>some [.t ((gi g1 0).int==0)])
def Hv:aH:=⟨43,[.s (.row aq),.s (.row aq)],[],[],[dj],[],[],[],yJ⟩
theorem aee:aX P t18 aA f43 Hv:=fun d=>by kernel_rfl
theorem aef:aY P Hv:=aV hm Rl func43 (aO _ _ _) aee
def t19:au:=t18.br Hv
theorem Cy:aw P t19:=Rl.aP aef

def Rm(d:List G):Option (Option Nat × List G) :=
 let z2:=(((gi d 3).int.toNat:Nat):Int); let z3:=(gi d 2).int.toNat+((gi d 4).int).toNat; let q:=(gi d 0).rows.set (0+((gi d 1).int).toNat) (dx aq ((gi d 0).rows.getD (0+((gi d 1).int).toNat) []) 0 (aT aq ((gi d 0).rows.getD z3 []))); let z4:=(gi d 4).int-1; let z5:=(ai (gi d 0).rows.length (gi d 0).rows.length)&&true; let g:=(gi d 4).int+1; let u:=(az (gi d 4).int)&&(aj (gi d 4).int z2); let v:=decide (z3<(gi d 0).rows.length); let z9:=(((gi d 2).int.toNat:Nat):Int); let k:=(gi d 2).int.toNat+z4.toNat; (bif (aj (gi d 4).int z2) then (bif u then (bif v then (bif (ao z4) then (bif ((az z4)&&(aj z4 z2)) then (bif (decide (k<(gi d 0).rows.length)) then (ar (yJ [.l [(aT aq ((gi d 0).rows.getD z3 []))],.l [(aT aq ((gi d 0).rows.getD k []))]]) fun g2=>(bif (!(gi g2 0).bool) then (bif u then (bif v then (bif ((az (gi d 1).int)&&(aj (gi d 1).int (((gi d 0).rows.length:Nat):Int))) then (bif (decide ((0+((gi d 1).int).toNat)<(gi d 0).rows.length)) then (bif (ao ((gi d 1).int+1)) then (bif (ao g) then (bif ((ai (gi d 0).rows.length q.length)&&true) then some (none,[.l q,.i ((gi d 1).int+1),.i z9,.i z2,.i g]) else none) else none) else none) else none) else none) else none) else none) else (bif (ao g) then (bif z5 then some (none,[.l (gi d 0).rows,.i (gi d 1).int,.i z9,.i z2,.i g]) else none) else none))) else none) else none) else none) else none) else none) else (bif z5 then some (some 0,[.l (gi d 0).rows,.i (gi d 1).int]) else none))
def Rn:bq:=⟨9,[],⟨66,[(0,.s (.vec 0 8)),(1,.s (.fn 43)),(5,ad),(6,.s (.sub 0 8)),(7,ad)],j5⟩,[.fix 0],[⟨.exit 2,⟨66,[(0,.s (.vec 0 8)),(5,ad)],j5⟩,[.fix 0]⟩],Rm⟩
theorem aeg:cA P t19 aA 1 (cF f42 9) Rn:=fun d=>by kernel_rfl
def Hw:LT:=aA.add 1 Rn
theorem aeh:ay P 1 Hw (a6 f42):=ay.a hm Cy (aO _ _ _) aeg
def Ro(d:List G):Option (Option Nat × List G) :=
 let g:=(ai (gi d 0).rows.length (gi d 0).rows.length)&&true; let z2:=(((gi d 0).rows.length:Nat):Int); let z3:=(gi d 1).int-1; let z4:=(⟨#[]⟩:ByteArray); let z5:=0+((gi d 1).int).toNat; (bif (aj (gi d 1).int z2) then (bif ((az (gi d 1).int)&&(aj (gi d 1).int z2)) then (bif (decide (z5<(gi d 0).rows.length)) then (bif (ao z3) then (bif ((az z3)&&(aj z3 z2)) then (bif (decide ((0+z3.toNat)<(gi d 0).rows.length)) then (ar (yJ [.l [(aT aq ((gi d 0).rows.getD z5 []))],.l [(aT aq ((gi d 0).rows.getD (0+z3.toNat) []))]]) fun g1=>(bif (gi g1 0).bool then (bif ((az (gi d 1).int)&&(aZ (gi d 1).int z2)) then (aR g (bV Rm [.l (gi d 0).rows,.i (gi d 1).int,.i ((z5:Nat):Int),.i ((((gi d 0).rows.length-((gi d 1).int).toNat):Nat):Int),.i 1]) fun v g3=>let k:=(gi g3 0).rows.length-((gi g3 1).int).toNat; let u:=((az (gi g3 1).int)&&(aZ (gi g3 1).int (((gi g3 0).rows.length:Nat):Int))); let q:=0+((gi g3 1).int).toNat; (bif u then (bif (Nat.ble (q+k) (gi g3 0).rows.length) then (bif u then some (some 0,[.l ((gi g3 0).rows.take q++List.replicate k [.i 0,.i 0,.s z4,.s z4,.i 0,.i 0,.s z4,.s z4]++(gi g3 0).rows.drop (q+k)),.i (((((gi g3 1).int).toNat-0):Nat):Int)]) else none) else none) else none)) else none) else (bif (ao ((gi d 1).int+1)) then (bif g then some (none,[.l (gi d 0).rows,.i ((gi d 1).int+1)]) else none) else none))) else none) else none) else none) else none) else none) else (bif g then some (some 1,[.l (gi d 0).rows]) else none))
def Rp:bq:=⟨4,[],⟨66,[(0,.s (.vec 0 8)),(1,.s (.fn 43)),(5,ad)],j5⟩,[.fix 0],[⟨.ret,⟨66,[(4,.s (.pre 0 8))],j5⟩,[.fix 0]⟩,⟨.exit 0,⟨66,[(0,.s (.vec 0 8))],j5⟩,[.fix 0]⟩],Ro⟩
theorem aei:cA P t19 Hw 1 (cF f42 4) Rp:=fun d=>by kernel_rfl
def Rq:LT:=Hw.add 1 Rp
theorem aej:ay P 1 Rq (a6 f42):=ay.a hm Cy aeh aei
def Rr(d:List G):Option (List G) :=
 let g:=(((gi d 0).rows.length:Nat):Int); (bif (aj g 2) then some [.l (gi d 0).rows,.i g] else (aR ((ai (gi d 0).rows.length (gi d 0).rows.length)&&true) (bV Ro [.l (gi d 0).rows,.i 1]) fun k g4=>(bif ai k 0 then some [.l (gi g4 0).rows,.i (((gi g4 1).int.toNat:Nat):Int)] else some [.l (gi g4 0).rows,.i (((gi g4 0).rows.length:Nat):Int)])))
def Hx:aH:=⟨42,[.s (.vec 0 8),.s (.fn 43)],[.vec aq 0],[.slot 0],[.s (.pre 0 8)],[.vec aq 0],[.fix 0],[],Rr⟩
theorem aek:aX P t19 Rq f42 Hx:=fun d=>by kernel_rfl
theorem ael:aY P Hx:=aV hm Cy func42 aej aek
def t20:au:=t19.du Hx
theorem qx:aw P t20:=Cy.aW ael

def kM(d:List G):Option (Option Nat × List G) :=
 (bif (ao ((gi d 9).int+1)) then some (some 0,[.l (gi d 0).rows,.i (gi d 1).int,.l (gi d 2).rows,.i (((gi d 3).int.toNat:Nat):Int),.l (gi d 4).rows,.i (((gi d 5).int.toNat:Nat):Int),.l (gi d 6).rows,.i (gi d 7).int,.i (gi d 8).int,.i ((gi d 9).int+1)]) else none)
def Rs:bq:=⟨30,[],⟨161,u9,qv⟩,[.fix 0,.slot 4,.slot 6],[⟨.normal,⟨161,u9,qv⟩,[.fix 0,.slot 4,.slot 6]⟩],kM⟩
theorem aem:gx P (t20.dL [1500080]) (aA.iU [(3,[.aJ 4 1]),(14,[.hole aq]),(38,[.BQ 16,.freeze 16])]) 1 (cutAt f21 30) Rs:=fun d=>by kernel_rfl
def Hy:LT:=(aA.iU [(3,[.aJ 4 1]),(14,[.hole aq]),(38,[.BQ 16,.freeze 16])]).eL 1 Rs
theorem aen:ay P 1 Hy (a6 f21):=ay.eL hm (qx.dL [1500080]) (by kernel_rfl) (nM _) aem
def u_(d:List G):Option (Option Nat × List G) :=
 let g:=ef [.str] (gi d 2).rows [.s (gi d 8).str]; let z2:=(g++([(aT aq (gi d 9).row)]:List (List G))); let z3:=fH [.str] (gi d 2).rows [.s (gi d 8).str]; let z4:=(((gi d 5).int.toNat:Nat):Int); (bif (gi d 12).bool then (bif (dO [.str] (gi d 2).rows [.s (gi d 8).str]) then (bif ((ai g.length g.length)&&(decide ((g.length+1)<=1048576))) then (bif (ai z2.length z2.length) then some (some 0,[.l (gi d 0).rows,.i (gi d 1).int,.l (mP [.str] z3 [.s (gi d 8).str] z2 (gi d 3).int.toNat),.i (((dE [.str] z3 [.s (gi d 8).str] (gi d 3).int.toNat):Nat):Int),.l (gi d 4).rows,.i z4,.l (gi d 6).rows,.i (gi d 7).int,.i (gi d 10).int,.i (gi d 11).int]) else none) else none) else none) else some (some 0,[.l (gi d 0).rows,.i (gi d 1).int,.l (gi d 2).rows,.i (((gi d 3).int.toNat:Nat):Int),.l (gi d 4).rows,.i z4,.l (gi d 6).rows,.i (gi d 7).int,.i (gi d 10).int,.i (gi d 11).int]))
def Rt:bq:=⟨29,[],⟨161,[(0,.s (.ptr 0 0)),(3,.s (.list [.str])),(4,.s (.map 1)),(5,ad),(6,.s (.map 2)),(8,cO),(12,.s (.cptr aq)),(24,ad),(25,ad),(130,dj)],qv⟩,[.fix 0,.slot 4,.slot 6],[⟨.normal,⟨161,u9,qv⟩,[.fix 0,.slot 4,.slot 6]⟩],u_⟩
theorem aeo:gx P (t20.dL [1500080]) Hy 1 (cutAt f21 29) Rt:=fun d=>by kernel_rfl
def Hz:LT:=Hy.eL 1 Rt
theorem aep:ay P 1 Hz (a6 f21):=ay.eL hm (qx.dL [1500080]) (by kernel_rfl) aen aeo
def vc(d:List G):Option (Option Nat × List G) :=
 let g:=(((gi d 3).int.toNat:Nat):Int); let z2:=(((gi d 5).int.toNat:Nat):Int); let z3:=aT aq (gi d 9).row; (bif (!((gi (gi d 9).row 3).str.toList==(gi d 8).str.toList)) then (ar (mY [.l (gi d 0).rows,.i (gi d 1).int,.i 8]) fun g12=>(aR true (cG (u_ [.l (gi g12 0).rows,.i (gi g12 1).int,.l (gi d 2).rows,.i g,.l (gi d 4).rows,.i z2,.l (gi d 6).rows,.i (gi d 7).int,.s (gi d 8).str,.l [z3],.i (gi d 10).int,.i (gi d 11).int,.t (!(gi g12 2).bool)])) fun k g13=>some (some 0,[.l (gi g13 0).rows,.i (gi g13 1).int,.l (gi g13 2).rows,.i (((gi g13 3).int.toNat:Nat):Int),.l (gi g13 4).rows,.i (((gi g13 5).int.toNat:Nat):Int),.l (gi g13 6).rows,.i (gi g13 7).int,.i (gi g13 8).int,.i (gi g13 9).int]))) else (aR true (cG (u_ [.l (gi d 0).rows,.i (gi d 1).int,.l (gi d 2).rows,.i g,.l (gi d 4).rows,.i z2,.l (gi d 6).rows,.i (gi d 7).int,.s (gi d 8).str,.l [z3],.i (gi d 10).int,.i (gi d 11).int,.t false])) fun q g14=>some (some 0,[.l (gi g14 0).rows,.i (gi g14 1).int,.l (gi g14 2).rows,.i (((gi g14 3).int.toNat:Nat):Int),.l (gi g14 4).rows,.i (((gi g14 5).int.toNat:Nat):Int),.l (gi g14 6).rows,.i (gi g14 7).int,.i (gi g14 8).int,.i (gi g14 9).int])))
def Ru:bq:=⟨28,[],⟨161,[(0,.s (.ptr 0 0)),(3,.s (.list [.str])),(4,.s (.map 1)),(5,ad),(6,.s (.map 2)),(8,cO),(12,.s (.cptr aq)),(24,ad),(25,ad)],qv⟩,[.fix 0,.slot 4,.slot 6],[⟨.normal,⟨161,u9,qv⟩,[.fix 0,.slot 4,.slot 6]⟩],vc⟩
theorem aeq:gx P (t20.dL [1500080]) Hz 1 (cutAt f21 28) Ru:=fun d=>by kernel_rfl
def HA:LT:=Hz.eL 1 Ru
theorem aer:ay P 1 HA (a6 f21):=ay.eL hm (qx.dL [1500080]) (by kernel_rfl) aep aeq
def nQ(d:List G):Option (Option Nat × List G) :=
 let z2:=ef [.str] (gi d 2).rows [.s (gi d 16).str]; let g:=(z2++([[.i (gi d 6).int,.i (gi d 7).int,.s (gi d 8).str,.s (gi d 9).str,.i (gi d 10).int,.i (gi d 11).int,.s (gi d 12).str,.s (gi d 13).str]]:List (List G))); let z3:=fH [.str] (gi d 2).rows [.s (gi d 16).str]; let z4:=(((gi d 5).int.toNat:Nat):Int); let z5:=aT aq (gi d 18).row; (bif (!((gi d 9).str.toList==(gi d 16).str.toList)) then (bif (dO [.str] (gi d 2).rows [.s (gi d 16).str]) then (bif ((ai z2.length z2.length)&&(decide ((z2.length+1)<=1048576))) then (bif (ai g.length g.length) then (aR true (cG (vc [.l (gi d 0).rows,.i (gi d 1).int,.l (mP [.str] z3 [.s (gi d 16).str] g (gi d 3).int.toNat),.i (((dE [.str] z3 [.s (gi d 16).str] (gi d 3).int.toNat):Nat):Int),.l (gi d 4).rows,.i z4,.l (gi d 14).rows,.i (gi d 15).int,.s (gi d 17).str,.l [z5],.i (gi d 19).int,.i (gi d 20).int])) fun k g15=>some (some 0,[.l (gi g15 0).rows,.i (gi g15 1).int,.l (gi g15 2).rows,.i (((gi g15 3).int.toNat:Nat):Int),.l (gi g15 4).rows,.i (((gi g15 5).int.toNat:Nat):Int),.l (gi g15 6).rows,.i (gi g15 7).int,.i (gi g15 8).int,.i (gi g15 9).int])) else none) else none) else none) else (aR true (cG (vc [.l (gi d 0).rows,.i (gi d 1).int,.l (gi d 2).rows,.i (((gi d 3).int.toNat:Nat):Int),.l (gi d 4).rows,.i z4,.l (gi d 14).rows,.i (gi d 15).int,.s (gi d 17).str,.l [z5],.i (gi d 19).int,.i (gi d 20).int])) fun q g16=>some (some 0,[.l (gi g16 0).rows,.i (gi g16 1).int,.l (gi g16 2).rows,.i (((gi g16 3).int.toNat:Nat):Int),.l (gi g16 4).rows,.i (((gi g16 5).int.toNat:Nat):Int),.l (gi g16 6).rows,.i (gi g16 7).int,.i (gi g16 8).int,.i (gi g16 9).int])))
def Rv:bq:=⟨26,[],⟨161,[(0,.s (.ptr 0 0)),(3,.s (.list [.str])),(4,.s (.map 1)),(5,ad),(6,.s (.map 2)),(7,cO),(8,cO),(11,.s (.ptr 3 0)),(12,.s (.cptr aq)),(24,ad),(25,ad)],[.box [.list [.int .i64],.int .i64],.aJ 1 (.one (.str)) aq,.map (.one (.str)) (.one (.int .i64)),.box [.int .i64,.int .i64,.str,.str,.int .i64,.int .i64,.str,.str]]⟩,[.fix 0,.slot 4,.slot 6,.slot 11],[⟨.normal,⟨161,u9,qv⟩,[.fix 0,.slot 4,.slot 6]⟩],nQ⟩
theorem aes:gx P (t20.dL [1500080]) HA 1 (cutAt f21 26) Rv:=fun d=>by kernel_rfl
def HB:LT:=HA.eL 1 Rv
theorem aet:ay P 1 HB (a6 f21):=ay.eL hm (qx.dL [1500080]) (by kernel_rfl) aer aes
def vd(d:List G):Option (Option Nat × List G) :=
 let O:=(((gi d 3).int.toNat:Nat):Int); let z2:=(⟨#[]⟩:ByteArray); let z3:=(⟨#[120]⟩:ByteArray); let z4:=(⟨#[111,104,50,97,98,100]⟩:ByteArray); let z5:=(⟨#[98,50,48]⟩:ByteArray); let z6:=(⟨#[111,104,50,97,98,99]⟩:ByteArray); let z7:=(⟨#[119,49,97,120]⟩:ByteArray); let z8:=(⟨#[107,49,97,97]⟩:ByteArray); let z9:=(⟨#[98,52,48]⟩:ByteArray); (bif (aj (gi d 9).int (gi d 8).int) then (ar (kL [.l (gi d 0).rows,.i (gi d 1).int,.l [[.i 0],[.i 20],[.i 100],[.i 1000]]]) fun g3=>let g:=(gi d 7).int+(gi g3 2).int; (bif (ao g) then (ar (gW [.l (gi g3 0).rows,.i (gi g3 1).int,.l (gi d 6).rows]) fun g4=>let V:=fx [.str] (gi d 4).rows [.s (gi g4 2).str] [.i ((gi (cS [.str] (gi d 4).rows [.s (gi g4 2).str] [.i 0]) 0).int+1)] (gi d 5).int.toNat; let z12:=dE [.str] (gi d 4).rows [.s (gi g4 2).str] (gi d 5).int.toNat; (ar (gW [.l (gi g4 0).rows,.i (gi g4 1).int,.l [[.s (⟨#[107,49,97,98]⟩:ByteArray)],[.s z6],[.s z4],[.s (⟨#[119,49,97,119]⟩:ByteArray)],[.s (⟨#[110,49,109,109]⟩:ByteArray)]]]) fun g5=>let N:=fx [.str] V [.s (gi g5 2).str] [.i ((gi (cS [.str] V [.s (gi g5 2).str] [.i 0]) 0).int+1)] z12; let k:=gi (cS [.str] N [.s (gi g5 2).str] [.i 0]) 0; let q:=gi (cS [.str] N [.s (gi g4 2).str] [.i 0]) 0; let U:=(((dE [.str] V [.s (gi g5 2).str] z12):Nat):Int); (bif ((gi g4 2).str.toList==(gi g5 2).str.toList) then (aR true (cG (kM [.l (gi g5 0).rows,.i (gi g5 1).int,.l (gi d 2).rows,.i O,.l (gi d 4).rows,.i (((gi d 5).int.toNat:Nat):Int),.l (gi d 6).rows,.i g,.i (gi d 8).int,.i (gi d 9).int])) fun cg6 g6=>some (none,[.l (gi g6 0).rows,.i (gi g6 1).int,.l (gi g6 2).rows,.i (((gi g6 3).int.toNat:Nat):Int),.l (gi g6 4).rows,.i (((gi g6 5).int.toNat:Nat):Int),.l (gi g6 6).rows,.i (gi g6 7).int,.i (gi g6 8).int,.i (gi g6 9).int])) else (bif (ao ((gi (cS [.str] (gi d 4).rows [.s (gi g4 2).str] [.i 0]) 0).int+1)) then (bif (ao ((gi (cS [.str] V [.s (gi g5 2).str] [.i 0]) 0).int+1)) then (ar (gW [.l (gi g5 0).rows,.i (gi g5 1).int,.l [[.s z5],[.s z5],[.s z9]]]) fun g7=>(ar (kL [.l (gi g7 0).rows,.i (gi g7 1).int,.l [[.i 1],[.i 1],[.i 2]]]) fun g8=>(ar (kL [.l (gi g8 0).rows,.i (gi g8 1).int,.l [[.i 0],[.i 10],[.i 30],[.i 60],[.i 200]]]) fun g9=>let z17:=g+(gi g9 2).int; (bif (ao z17) then (ar (l_ [.l (gi g9 0).rows,.i (gi g9 1).int,.i 8]) fun g10=>(bif ((gi g10 2).int==0) then (ar (gW [.l (gi g10 0).rows,.i (gi g10 1).int,.l [[.s z4],[.s z6],[.s z8],[.s z7]]]) fun g11=>(aR true (cG (nQ [.l (gi g11 0).rows,.i (gi g11 1).int,.l (gi d 2).rows,.i O,.l N,.i U,.i g,.i (gi g8 2).int,.s (gi g7 2).str,.s (gi g11 2).str,.i q.int,.i k.int,.s z2,.s z3,.l (gi d 6).rows,.i g,.s (gi g4 2).str,.s (gi g5 2).str,.l [[.i z17,.i (gi g8 2).int,.s (gi g7 2).str,.s (gi g4 2).str,.i k.int,.i q.int,.s z3,.s z2]],.i (gi d 8).int,.i (gi d 9).int])) fun cg17 g17=>(aR true (cG (kM [.l (gi g17 0).rows,.i (gi g17 1).int,.l (gi g17 2).rows,.i (((gi g17 3).int.toNat:Nat):Int),.l (gi g17 4).rows,.i (((gi g17 5).int.toNat:Nat):Int),.l (gi g17 6).rows,.i (gi g17 7).int,.i (gi g17 8).int,.i (gi g17 9).int])) fun cg18 g18=>some (none,[.l (gi g18 0).rows,.i (gi g18 1).int,.l (gi g18 2).rows,.i (((gi g18 3).int.toNat:Nat):Int),.l (gi g18 4).rows,.i (((gi g18 5).int.toNat:Nat):Int),.l (gi g18 6).rows,.i (gi g18 7).int,.i (gi g18 8).int,.i (gi g18 9).int])))) else (bif ((gi g10 2).int==1) then (ar (gW [.l (gi g10 0).rows,.i (gi g10 1).int,.l [[.s z8],[.s z4],[.s z7]]]) fun g19=>(aR true (cG (nQ [.l (gi g19 0).rows,.i (gi g19 1).int,.l (gi d 2).rows,.i O,.l N,.i U,.i g,.i (gi g8 2).int,.s (gi g7 2).str,.s (gi g5 2).str,.i q.int,.i k.int,.s z2,.s z3,.l (gi d 6).rows,.i g,.s (gi g4 2).str,.s (gi g5 2).str,.l [[.i z17,.i (gi g8 2).int,.s (gi g7 2).str,.s (gi g19 2).str,.i k.int,.i q.int,.s z3,.s z2]],.i (gi d 8).int,.i (gi d 9).int])) fun cg20 g20=>(aR true (cG (kM [.l (gi g20 0).rows,.i (gi g20 1).int,.l (gi g20 2).rows,.i (((gi g20 3).int.toNat:Nat):Int),.l (gi g20 4).rows,.i (((gi g20 5).int.toNat:Nat):Int),.l (gi g20 6).rows,.i (gi g20 7).int,.i (gi g20 8).int,.i (gi g20 9).int])) fun cg21 g21=>some (none,[.l (gi g21 0).rows,.i (gi g21 1).int,.l (gi g21 2).rows,.i (((gi g21 3).int.toNat:Nat):Int),.l (gi g21 4).rows,.i (((gi g21 5).int.toNat:Nat):Int),.l (gi g21 6).rows,.i (gi g21 7).int,.i (gi g21 8).int,.i (gi g21 9).int])))) else (bif ((gi g10 2).int==2) then (bif (ao (k.int+1)) then (aR true (cG (nQ [.l (gi g10 0).rows,.i (gi g10 1).int,.l (gi d 2).rows,.i O,.l N,.i U,.i g,.i (gi g8 2).int,.s (gi g7 2).str,.s (gi g5 2).str,.i q.int,.i (k.int+1),.s z2,.s z3,.l (gi d 6).rows,.i g,.s (gi g4 2).str,.s (gi g5 2).str,.l [[.i z17,.i (gi g8 2).int,.s (gi g7 2).str,.s (gi g4 2).str,.i k.int,.i q.int,.s z3,.s z2]],.i (gi d 8).int,.i (gi d 9).int])) fun cg22 g22=>(aR true (cG (kM [.l (gi g22 0).rows,.i (gi g22 1).int,.l (gi g22 2).rows,.i (((gi g22 3).int.toNat:Nat):Int),.l (gi g22 4).rows,.i (((gi g22 5).int.toNat:Nat):Int),.l (gi g22 6).rows,.i (gi g22 7).int,.i (gi g22 8).int,.i (gi g22 9).int])) fun cg23 g23=>some (none,[.l (gi g23 0).rows,.i (gi g23 1).int,.l (gi g23 2).rows,.i (((gi g23 3).int.toNat:Nat):Int),.l (gi g23 4).rows,.i (((gi g23 5).int.toNat:Nat):Int),.l (gi g23 6).rows,.i (gi g23 7).int,.i (gi g23 8).int,.i (gi g23 9).int]))) else none) else (bif ((gi g10 2).int==3) then (aR true (cG (nQ [.l (gi g10 0).rows,.i (gi g10 1).int,.l (gi d 2).rows,.i O,.l N,.i U,.i g,.i (gi g8 2).int,.s (gi g7 2).str,.s (gi g5 2).str,.i q.int,.i k.int,.s z2,.s z2,.l (gi d 6).rows,.i g,.s (gi g4 2).str,.s (gi g5 2).str,.l [[.i z17,.i (gi g8 2).int,.s (gi g7 2).str,.s (gi g4 2).str,.i k.int,.i q.int,.s z3,.s z2]],.i (gi d 8).int,.i (gi d 9).int])) fun cg24 g24=>(aR true (cG (kM [.l (gi g24 0).rows,.i (gi g24 1).int,.l (gi g24 2).rows,.i (((gi g24 3).int.toNat:Nat):Int),.l (gi g24 4).rows,.i (((gi g24 5).int.toNat:Nat):Int),.l (gi g24 6).rows,.i (gi g24 7).int,.i (gi g24 8).int,.i (gi g24 9).int])) fun cg25 u=>some (none,[.l (gi u 0).rows,.i (gi u 1).int,.l (gi u 2).rows,.i (((gi u 3).int.toNat:Nat):Int),.l (gi u 4).rows,.i (((gi u 5).int.toNat:Nat):Int),.l (gi u 6).rows,.i (gi u 7).int,.i (gi u 8).int,.i (gi u 9).int]))) else (bif ((gi g10 2).int==4) then (ar (gW [.l (gi g10 0).rows,.i (gi g10 1).int,.l [[.s z9],[.s z5]]]) fun W=>(aR true (cG (nQ [.l (gi W 0).rows,.i (gi W 1).int,.l (gi d 2).rows,.i O,.l N,.i U,.i g,.i (gi g8 2).int,.s (gi g7 2).str,.s (gi g5 2).str,.i q.int,.i k.int,.s z2,.s z3,.l (gi d 6).rows,.i g,.s (gi g4 2).str,.s (gi g5 2).str,.l [[.i z17,.i (gi g8 2).int,.s (gi W 2).str,.s (gi g4 2).str,.i k.int,.i q.int,.s z3,.s z2]],.i (gi d 8).int,.i (gi d 9).int])) fun cg27 v=>(aR true (cG (kM [.l (gi v 0).rows,.i (gi v 1).int,.l (gi v 2).rows,.i (((gi v 3).int.toNat:Nat):Int),.l (gi v 4).rows,.i (((gi v 5).int.toNat:Nat):Int),.l (gi v 6).rows,.i (gi v 7).int,.i (gi v 8).int,.i (gi v 9).int])) fun cg28 y=>some (none,[.l (gi y 0).rows,.i (gi y 1).int,.l (gi y 2).rows,.i (((gi y 3).int.toNat:Nat):Int),.l (gi y 4).rows,.i (((gi y 5).int.toNat:Nat):Int),.l (gi y 6).rows,.i (gi y 7).int,.i (gi y 8).int,.i (gi y 9).int])))) else (aR true (cG (nQ [.l (gi g10 0).rows,.i (gi g10 1).int,.l (gi d 2).rows,.i O,.l N,.i U,.i g,.i (gi g8 2).int,.s (gi g7 2).str,.s (gi g5 2).str,.i q.int,.i k.int,.s z2,.s z3,.l (gi d 6).rows,.i g,.s (gi g4 2).str,.s (gi g5 2).str,.l [[.i z17,.i (gi g8 2).int,.s (gi g7 2).str,.s (gi g4 2).str,.i k.int,.i q.int,.s z3,.s z2]],.i (gi d 8).int,.i (gi d 9).int])) fun cg29 I=>(aR true (cG (kM [.l (gi I 0).rows,.i (gi I 1).int,.l (gi I 2).rows,.i (((gi I 3).int.toNat:Nat):Int),.l (gi I 4).rows,.i (((gi I 5).int.toNat:Nat):Int),.l (gi I 6).rows,.i (gi I 7).int,.i (gi I 8).int,.i (gi I 9).int])) fun cg30 M=>some (none,[.l (gi M 0).rows,.i (gi M 1).int,.l (gi M 2).rows,.i (((gi M 3).int.toNat:Nat):Int),.l (gi M 4).rows,.i (((gi M 5).int.toNat:Nat):Int),.l (gi M 6).rows,.i (gi M 7).int,.i (gi M 8).int,.i (gi M 9).int]))))))))) else none)))) else none) else none)))) else none)) else some (some 0,[.l (gi d 0).rows,.i (gi d 1).int,.l (gi d 2).rows,.i O,.l (gi d 6).rows]))
def Rw:bq:=⟨6,[],⟨161,u9,qv⟩,[.fix 0,.slot 4,.slot 6],[⟨.exit 0,⟨161,[(3,.s (.list [.str])),(4,.s (.map 1))],[.box [.list [.int .i64],.int .i64],.aJ 1 (.one (.str)) aq]⟩,[.fix 0,.slot 4]⟩],vd⟩
theorem aeu:cA P (t20.dL [1500080]) HB 1 (cF f21 6) Rw:=fun d=>by kernel_rfl
def HC:LT:=HB.add 1 Rw
theorem aev:ay P 1 HC (a6 f21):=ay.add hm (qx.dL [1500080]) (by kernel_rfl) aet aeu
def ve(d:List G):Option (Option Nat × List G) :=
 let k:=gi ((gi d 5).rows.getD (((gi d 7).int).toNat) []) 0; let z2:=ef [.str] (gi d 2).rows [.s k.str]; let z3:=ai (gi d 4).rows.length (gi d 4).rows.length; let z4:=Rk [.l z2]; (bif (aj (gi d 7).int (gi d 6).int) then (bif ((az (gi d 7).int)&&(aj (gi d 7).int (((gi d 5).rows.length:Nat):Int))) then (bif (dO [.str] (gi d 2).rows [.s k.str]) then (lu (((ai z2.length z2.length)&&true)&&z4.isSome) z4 fun u=>let z5:=Rr [.l (gi u 0).rows]; (lu (((ai z2.length (gi u 0).rows.length)&&true)&&z5.isSome) z5 fun g=>let q:=((gi d 4).rows++([[.s k.str,.l ((gi g 0).rows.take ((gi g 1).int.toNat))]]:List (List G))); (bif ((Nat.ble (gi g 1).int.toNat (gi g 0).rows.length)&&((ai (gi g 1).int.toNat ((gi g 0).rows.take ((gi g 1).int.toNat)).length)&&true)) then (bif (z3&&(decide (((gi d 4).rows.length+1)<=1048576))) then (bif (ao ((gi d 7).int+1)) then (bif ((ai q.length q.length)&&true) then some (none,[.l (gi d 0).rows,.i (gi d 1).int,.l (fH [.str] (gi d 2).rows [.s k.str]),.i (((gi d 3).int.toNat:Nat):Int),.l q,.l (gi d 5).rows,.i (gi d 6).int,.i ((gi d 7).int+1)]) else none) else none) else none) else none))) else none) else none) else (bif (z3&&true) then some (some 0,[.l (gi d 0).rows,.i (gi d 1).int,.l (gi d 4).rows]) else none))
def Rx:bq:=⟨33,[(13,[.str,.list aq])],⟨161,[(4,.s (.map 1)),(13,.s (.vec 2 2)),(140,.s (.list [.str])),(141,ad),(142,ad)],[.box [.list [.int .i64],.int .i64],.aJ 1 (.one (.str)) aq,.vec [.str,.list aq] 0]⟩,[.fix 0,.slot 4,.slot 13],[⟨.exit 3,⟨161,[(13,.s (.vec 1 2))],Hg⟩,[.fix 0,.slot 13]⟩],ve⟩
theorem aew:cA P (t20.dL [1500080]) HC 1 (cF f21 33) Rx:=fun d=>by kernel_rfl
def Ry:LT:=HC.add 1 Rx
theorem aex:ay P 1 Ry (a6 f21):=ay.add hm (qx.dL [1500080]) (by kernel_rfl) aev aew
def Cz(d:List G):Option (List G) :=
 (ar (qt [.l (gi d 0).rows,.i (gi d 1).int,.i 1,.i 4]) fun g1=>(bif ((az (gi g1 2).int)&&(aZ (gi g1 2).int 4)) then (ar (qt [.l (gi g1 0).rows,.i (gi g1 1).int,.i 0,.i 14]) fun g2=>(aR true (bV vd [.l (gi g2 0).rows,.i (gi g2 1).int,.l [],.i 0,.l [],.i 0,.l (([[.s (⟨#[107,49,97,98]⟩:ByteArray)],[.s (⟨#[111,104,50,97,98,99]⟩:ByteArray)],[.s (⟨#[111,104,50,97,98,100]⟩:ByteArray)],[.s (⟨#[119,49,97,119]⟩:ByteArray)]]:List (List G)).take (((gi g1 2).int).toNat)),.i 0,.i (gi g2 2).int,.i 0]) fun q g=>(aR true (bV ve [.l (gi g 0).rows,.i (gi g 1).int,.l (gi g 2).rows,.i (((gi g 3).int.toNat:Nat):Int),.l [],.l (gi g 4).rows,.i (((gi g 4).rows.length:Nat):Int),.i 0]) fun u k=>(bif ((ai (gi k 2).rows.length (gi k 2).rows.length)&&true) then some [.l (gi k 0).rows,.i (gi k 1).int,.l (gi k 2).rows] else none)))) else none))
def HD:aH:=⟨21,[.s (.ptr 0 0)],[.box [.list [.int .i64],.int .i64]],[.slot 0],[.s (.vec 1 2)],[.box [.list [.int .i64],.int .i64],.vec [.str,.list aq] 0],[.fix 0,.slot 0],[],Cz⟩
theorem aey:aX P (t20.dL [1500080]) Ry f21 HD:=fun d=>by kernel_rfl
theorem aez:aY P HD:=oT hm (qx.dL [1500080]) func21 (by kernel_rfl) aex aey (by kernel_rfl)
def t21:au:=t20.du HD
theorem Rz:aw P t21:=qx.aW aez

def yK(d:List G):Option (List G) :=
 (ar (mY [.l (gi d 0).rows,.i (gi d 1).int,.i 60]) fun g1=>(bif (gi g1 2).bool then (ar (gW [.l (gi g1 0).rows,.i (gi g1 1).int,.l [[.s (⟨#[]⟩:ByteArray)],[.s (⟨#[107,49]⟩:ByteArray)],[.s (⟨#[75,49,65,66]⟩:ByteArray)],[.s (⟨#[107,49,97,98,47]⟩:ByteArray)],[.s (⟨#[49,97]⟩:ByteArray)],[.s (⟨#[107,49,97,98,47,109,109,47,112]⟩:ByteArray)]]]) fun g2=>some [.l (gi g2 0).rows,.i (gi g2 1).int,.s (gi g2 2).str]) else (ar (gW [.l (gi g1 0).rows,.i (gi g1 1).int,.l [[.s (⟨#[107,49,97,98]⟩:ByteArray)],[.s (⟨#[107,49,97,97]⟩:ByteArray)],[.s (⟨#[107,49,97,98,47,52]⟩:ByteArray)],[.s (⟨#[111,104,50,97,98,99]⟩:ByteArray)],[.s (⟨#[111,104,50,97,98,100]⟩:ByteArray)],[.s (⟨#[119,49,97,119]⟩:ByteArray)],[.s (⟨#[110,49,109,109]⟩:ByteArray)],[.s (⟨#[103,51,120,121,122,47,112]⟩:ByteArray)]]]) fun g3=>some [.l (gi g3 0).rows,.i (gi g3 1).int,.s (gi g3 2).str])))
def HF:aH:=⟨6,[.s (.ptr 0 0)],[.box [.list [.int .i64],.int .i64]],[.slot 0],[cO],[.box [.list [.int .i64],.int .i64]],[.fix 0],[],yK⟩
theorem aeA:aX P t21 aA f6 HF:=fun d=>by kernel_rfl
theorem aeB:aY P HF:=aV hm Rz func6 (aO _ _ _) aeA
def t22:au:=t21.du HF
theorem RA:aw P t22:=Rz.aW aeB

def sF(d:List G):Option (List G) :=
 (ar (mY [.l (gi d 0).rows,.i (gi d 1).int,.i 12]) fun g1=>(bif (gi g1 2).bool then (bif (ao ((gi d 2).int-1)) then (bif (ao ((gi d 3).int+1)) then (ar (kL [.l (gi g1 0).rows,.i (gi g1 1).int,.l [[.i ((gi d 2).int-1)],[.i ((gi d 3).int+1)],[.i (gi d 2).int],[.i (gi d 3).int],[.i (-1099511627776)],[.i 1099511627776]]]) fun g2=>some [.l (gi g2 0).rows,.i (gi g2 1).int,.i (gi g2 2).int]) else none) else none) else (ar (qt [.l (gi g1 0).rows,.i (gi g1 1).int,.i (gi d 2).int,.i (gi d 3).int]) fun g3=>some [.l (gi g3 0).rows,.i (gi g3 1).int,.i (gi g3 2).int])))
def HG:aH:=⟨44,[.s (.ptr 0 0),ad,ad],[.box [.list [.int .i64],.int .i64]],[.slot 0],[ad],[.box [.list [.int .i64],.int .i64]],[.fix 0],[],sF⟩
theorem aeC:aX P t22 aA f44 HG:=fun d=>by kernel_rfl
theorem aeD:aY P HG:=aV hm RA func44 (aO _ _ _) aeC
def t23:au:=t22.du HG
theorem RB:aw P t23:=RA.aW aeD

def CA(d:List G):Option (List G) :=
 let g:=(⟨#[]⟩:ByteArray); let z2:=(⟨#[98,50,48]⟩:ByteArray); let z3:=(⟨#[117,115,97]⟩:ByteArray); (ar (kL [.l (gi d 0).rows,.i (gi d 1).int,.l [[.i 1],[.i 1],[.i 2],[.i 3]]]) fun g1=>(ar (gW [.l (gi g1 0).rows,.i (gi g1 1).int,.l [[.s z2],[.s z2],[.s (⟨#[98,52,48]⟩:ByteArray)]]]) fun g2=>(ar (yK [.l (gi g2 0).rows,.i (gi g2 1).int]) fun g3=>(ar (kL [.l (gi g3 0).rows,.i (gi g3 1).int,.l [[.i 0],[.i 1],[.i 2],[.i 3],[.i 4],[.i 5],[.i 6],[.i 7]]]) fun g4=>(ar (kL [.l (gi g4 0).rows,.i (gi g4 1).int,.l [[.i 0],[.i 1],[.i 2],[.i 9]]]) fun g5=>(ar (gW [.l (gi g5 0).rows,.i (gi g5 1).int,.l [[.s g],[.s g],[.s (⟨#[102,105,110]⟩:ByteArray)]]]) fun g6=>(ar (gW [.l (gi g6 0).rows,.i (gi g6 1).int,.l [[.s g],[.s g],[.s z3]]]) fun g7=>(ar (mY [.l (gi g7 0).rows,.i (gi g7 1).int,.i 100]) fun g8=>(bif (gi g8 2).bool then (ar (l_ [.l (gi g8 0).rows,.i (gi g8 1).int,.i 4]) fun g9=>(bif ((gi g9 2).int==0) then (ar (sF [.l (gi g9 0).rows,.i (gi g9 1).int,.i 0,.i 500]) fun g10=>(ar (sF [.l (gi g10 0).rows,.i (gi g10 1).int,.i 1,.i 3]) fun g11=>some [.l (gi g11 0).rows,.i (gi g11 1).int,.l [[.i (gi g10 2).int,.i (gi g11 2).int,.s (gi g2 2).str,.s (gi g3 2).str,.i (gi g4 2).int,.i (gi g5 2).int,.s (gi g6 2).str,.s (gi g7 2).str]]])) else (bif ((gi g9 2).int==1) then (ar (gW [.l (gi g9 0).rows,.i (gi g9 1).int,.l [[.s g],[.s (⟨#[66]⟩:ByteArray)],[.s z2]]]) fun g12=>some [.l (gi g12 0).rows,.i (gi g12 1).int,.l [[.i (gi d 2).int,.i (gi g1 2).int,.s (gi g12 2).str,.s (gi g3 2).str,.i (gi g4 2).int,.i (gi g5 2).int,.s (gi g6 2).str,.s (gi g7 2).str]]]) else (bif ((gi g9 2).int==2) then (ar (sF [.l (gi g9 0).rows,.i (gi g9 1).int,.i 0,.i 99999]) fun g13=>(ar (sF [.l (gi g13 0).rows,.i (gi g13 1).int,.i 0,.i 99999]) fun g14=>some [.l (gi g14 0).rows,.i (gi g14 1).int,.l [[.i (gi d 2).int,.i (gi g1 2).int,.s (gi g2 2).str,.s (gi g3 2).str,.i (gi g13 2).int,.i (gi g14 2).int,.s (gi g6 2).str,.s (gi g7 2).str]]])) else (ar (gW [.l (gi g9 0).rows,.i (gi g9 1).int,.l [[.s g],[.s (⟨#[65]⟩:ByteArray)]]]) fun g15=>(ar (gW [.l (gi g15 0).rows,.i (gi g15 1).int,.l [[.s (⟨#[49]⟩:ByteArray)],[.s z3]]]) fun g16=>some [.l (gi g16 0).rows,.i (gi g16 1).int,.l [[.i (gi d 2).int,.i (gi g1 2).int,.s (gi g2 2).str,.s (gi g3 2).str,.i (gi g4 2).int,.i (gi g5 2).int,.s (gi g15 2).str,.s (gi g16 2).str]]])))))) else some [.l (gi g8 0).rows,.i (gi g8 1).int,.l [[.i (gi d 2).int,.i (gi g1 2).int,.s (gi g2 2).str,.s (gi g3 2).str,.i (gi g4 2).int,.i (gi g5 2).int,.s (gi g6 2).str,.s (gi g7 2).str]]])))))))))
def HH:aH:=⟨23,[.s (.ptr 0 0),ad],[.box [.list [.int .i64],.int .i64]],[.slot 0],[.s (.row aq)],[.box [.list [.int .i64],.int .i64]],[.fix 0],[],CA⟩
theorem aeE:aX P t23 aA f23 HH:=fun d=>by kernel_rfl
theorem aeF:aY P HH:=aV hm RB func23 (aO _ _ _) aeE
def t24:au:=t23.du HH
theorem CB:aw P t24:=RB.aW aeF

def HJ(d:List G):Option (List G) :=
 (bif (cC 0 (gi d 0).rows.length) then (bif (decide ((gi d 0).rows.length<=1048576)) then (bif ((ai (gi d 0).rows.length (gi d 0).rows.length)&&true) then some [.l (gi d 0).rows] else none) else none) else none)
def yL:aH:=⟨22,[gL],[],[],[.s (.vec 0 8)],[.vec aq 0],[.slot 0],[],HJ⟩
theorem aeG:aX P t24 aA f22 yL:=fun d=>by kernel_rfl
theorem aeH:aY P yL:=aV hm CB func22 (aO _ _ _) aeG
def sG:aH:={ yL with args:=[.s (.BC true)],opens:=[(2,aq)],F:=fun _=>some [.l []] }
theorem aeI:aX P t24 aA f22 sG:=fun d=>by kernel_rfl
theorem aeJ:∀ d r,sG.F d=some r->dn P 22 (sG.args0 d) (ah (sG.H0 d)) (sG.out r) (ah (sG.H1 r)):=fun d r h=>GC hm CB (sp:=sG) func22 (by kernel_rfl) (aO _ _ _) aeI (by kernel_rfl) h
def sH:aH:={ yL with args:=[.s (.BC false)],opens:=[(2,aq)],F:=fun _=>some [.l []] }
theorem aeK:aX P t24 aA f22 sH:=fun d=>by kernel_rfl
theorem aeL:∀ d r,sH.F d=some r->dn P 22 (sH.args0 d) (ah (sH.H0 d)) (sH.out r) (ah (sH.H1 r)):=fun d r h=>GC hm CB (sp:=sH) func22 (by kernel_rfl) (aO _ _ _) aeK (by kernel_rfl) h
def vf(d:List G):Option (List G):=bif cC 0 (gi d 0).rows.length then HJ d else some [.l []]
def vg:aH:={ yL with F:=vf }
theorem aeM:∀ d r,vf d=some r->dn P 22 (vg.args0 d) (ah (vg.H0 d)) (vg.out r) (ah (vg.H1 r)):=fun d r h=>by
 unfold vf at h;cases hb:cC 0 (gi d 0).rows.length with
 |true=>rw[hb]at h; exact aeH d r h
 | false =>
  rw[hb]at h;cases h;have e:(d.headD default).rows=[]:=by
   have:¬ 0<(gi d 0).rows.length:=fun g=>by
    have k:cC 0 (gi d 0).rows.length=true:=by rw[Nat.blt_eq]; exact g
    rw[k]at hb;cases hb
   exact List.eq_nil_of_length_eq_zero (Nat.eq_zero_of_not_pos this)
  have ha:vg.args0 d=[.listF aq []]:=by
   rw[<-e];rfl
  rw[ha];exact abd (aeJ d [.l []] rfl) (aeL d [.l []] rfl)
def t25:au:=t24.du vg
theorem HK:aw P t25:=CB.aW aeM

def yM(d:List G):Option (Option Nat × List G) :=
 let k:=(((gi d 2).rows.length:Nat):Int); (bif (gi d 3).bool then (ar (l_ [.l (gi d 0).rows,.i (gi d 1).int,.i k]) fun g3=>let z2:=0+((gi g3 2).int).toNat; let z3:=(gi d 2).rows.getD z2 []; let z4:=decide (z2<(gi d 2).rows.length); (bif ((az (gi g3 2).int)&&(aj (gi g3 2).int k)) then (bif z4 then (ar (gW [.l (gi g3 0).rows,.i (gi g3 1).int,.l [[.s (gi z3 0).str],[.s (⟨#[]⟩:ByteArray)],[.s (⟨#[107,49,97,98]⟩:ByteArray)],[.s (⟨#[119,49,97,119]⟩:ByteArray)]]]) fun g4=>let z5:=(gi d 2).rows.set z2 (dx [.str,.list aq] z3 0 [.s (gi g4 2).str]); let q:=z5.getD z2 []; let u:=decide (z2<z5.length); (bif z4 then (bif u then (ar (vf [.l (gi q 1).rows]) fun g5=>(ar (kL [.l (gi g4 0).rows,.i (gi g4 1).int,.l [[.i 0],[.i 100000]]]) fun g6=>(ar (CA [.l (gi g6 0).rows,.i (gi g6 1).int,.i (gi g6 2).int]) fun g7=>let g:=((gi g5 0).rows++([(aT aq (gi g7 2).row)]:List (List G))); let z9:=z5.set z2 (dx [.str,.list aq] q 1 [.l g]); (bif ((ai (gi g5 0).rows.length (gi g5 0).rows.length)&&(decide (((gi g5 0).rows.length+1)<=1048576))) then (bif ((ai g.length g.length)&&u) then (bif ((ai (gi d 2).rows.length z9.length)&&true) then some (some 0,[.l (gi g7 0).rows,.i (gi g7 1).int,.l z9]) else none) else none) else none)))) else none) else none)) else none) else none)) else (bif ((ai (gi d 2).rows.length (gi d 2).rows.length)&&true) then some (some 0,[.l (gi d 0).rows,.i (gi d 1).int,.l (gi d 2).rows]) else none))
def RC:bq:=⟨3,[],⟨46,[(0,.s (.ptr 0 0)),(3,.s (.vec 1 2)),(13,dj)],Hg⟩,[.fix 0,.slot 3],[⟨.normal,⟨46,[(3,.s (.vec 1 2))],Hg⟩,[.fix 0,.slot 3]⟩],yM⟩
theorem aeN:gx P t25 aA 1 (cutAt f4 3) RC:=fun d=>by kernel_rfl
def RD:LT:=aA.eL 1 RC
theorem aeO:ay P 1 RD (a6 f4):=ay.aC hm HK (aO _ _ _) aeN
def CC(d:List G):Option (List G) :=
 (ar (Cz [.l (gi d 0).rows,.i (gi d 1).int]) fun g1=>let g:=(ai (gi g1 2).rows.length (gi g1 2).rows.length)&&true; (bif (aj 0 (((gi g1 2).rows.length:Nat):Int)) then (ar (mY [.l (gi g1 0).rows,.i (gi g1 1).int,.i 12]) fun g2=>(aR g (cG (yM [.l (gi g2 0).rows,.i (gi g2 1).int,.l (gi g1 2).rows,.t (gi g2 2).bool])) fun k g8=>(bif ((ai (gi g8 2).rows.length (gi g8 2).rows.length)&&true) then some [.l (gi g8 0).rows,.i (gi g8 1).int,.l (gi g8 2).rows] else none))) else (aR g (cG (yM [.l (gi g1 0).rows,.i (gi g1 1).int,.l (gi g1 2).rows,.t false])) fun q g9=>(bif ((ai (gi g9 2).rows.length (gi g9 2).rows.length)&&true) then some [.l (gi g9 0).rows,.i (gi g9 1).int,.l (gi g9 2).rows] else none))))
def HL:aH:=⟨4,[.s (.ptr 0 0)],[.box [.list [.int .i64],.int .i64]],[.slot 0],[.s (.list [.str,.list aq])],[.box [.list [.int .i64],.int .i64]],[.fix 0],[],CC⟩
theorem aeP:aX P t25 RD f4 HL:=fun d=>by kernel_rfl
theorem aeQ:aY P HL:=aV hm HK func4 aeO aeP
def t26:au:=t25.du HL
theorem RE:aw P t26:=HK.aW aeQ

def CD(d:List G):Option (List G) :=
 (ar (kL [.l (gi d 0).rows,.i (gi d 1).int,.l [[.i 0],[.i 10],[.i 29],[.i 30],[.i 60],[.i 60],[.i 200],[.i 1000],[.i (-1)],[.i 3600000],[.i 3600001]]]) fun g1=>some [.l (gi g1 0).rows,.i (gi g1 1).int,.i (gi g1 2).int])
def HM:aH:=⟨5,[.s (.ptr 0 0)],[.box [.list [.int .i64],.int .i64]],[.slot 0],[ad],[.box [.list [.int .i64],.int .i64]],[.fix 0],[],CD⟩
theorem aeR:aX P t26 aA f5 HM:=fun d=>by kernel_rfl
theorem aeS:aY P HM:=aV hm RE func5 (aO _ _ _) aeR
def t27:au:=t26.du HM
theorem RF:aw P t27:=RE.aW aeS

def vh(d:List G):Option (List G) :=
 (ar (G7 [.s (gi d 0).str]) fun g1=>some [.t (gi g1 1).bool])
def HN:aH:=⟨61,[cO],[],[],[dj],[],[],[],vh⟩
theorem aeT:aX P t27 aA f61 HN:=fun d=>by kernel_rfl
theorem aeU:aY P HN:=aV hm RF func61 (aO _ _ _) aeT
def t28:au:=t27.br HN
theorem RG:aw P t28:=RF.aP aeU

def RH(d:List G):Option (List G) :=
 some [.i 0]
def HO:aH:=⟨45,[],[],[],[ad],[],[],[],RH⟩
theorem aeV:aX P t28 aA f45 HO:=fun d=>by kernel_rfl
theorem aeW:aY P HO:=aV hm RG func45 (aO _ _ _) aeV
def t29:au:=t28.br HO
theorem RI:aw P t29:=RG.aP aeW

def m_(d:List G):Option (List G) :=
 (bif (aj (gi d 0).int (gi d 1).int) then some [.t true] else some [.t (aj (gi d 2).int (gi d 0).int)])
def HP:aH:=⟨50,[ad,ad,ad],[],[],[dj],[],[],[],m_⟩
theorem aeX:aX P t29 aA f50 HP:=fun d=>by kernel_rfl
theorem aeY:aY P HP:=aV hm RI func50 (aO _ _ _) aeX
def t30:au:=t29.br HP
theorem RJ:aw P t30:=RI.aP aeY

def HQ(d:List G):Option (List G) :=
 (ar (m_ [.i (gi d 0).int,.i 0,.i 345686399999]) fun g1=>some [.t (!(gi g1 0).bool)])
def HR:aH:=⟨127,[ad],[],[],[dj],[],[],[],HQ⟩
theorem aeZ:aX P t30 aA f127 HR:=fun d=>by kernel_rfl
theorem ae0:aY P HR:=aV hm RJ func127 (aO _ _ _) aeZ
def t31:au:=t30.br HR
theorem RL:aw P t31:=RJ.aP ae0

def HS(d:List G):Option (List G) :=
 (ar (m_ [.i (gi d 0).int,.i 1,.i 3]) fun g1=>some [.t (!(gi g1 0).bool)])
def HT:aH:=⟨128,[ad],[],[],[dj],[],[],[],HS⟩
theorem ae1:aX P t31 aA f128 HT:=fun d=>by kernel_rfl
theorem ae2:aY P HT:=aV hm RL func128 (aO _ _ _) ae1
def t32:au:=t31.br HT
theorem RM:aw P t32:=RL.aP ae2

def CE(d:List G):Option (List G) :=
 let g:=(((gi d 0).str.size:Nat):Int); (bif (!((gi d 0).str.toList==(⟨#[]⟩:ByteArray).toList)) then (bif (aZ g 40) then (bif (aj 0 g) then (ar (Cr [.s (⟨#[97,98,99,100,101,102,103,104,105,106,107,108,109,110,111,112,113,114,115,116,117,118,119,120,121,122]⟩:ByteArray),.i (((gi d 0).str.data.toList.getD 0 0).toNat:Int)]) fun g1=>(bif (aZ 0 (gi g1 0).int) then (ar (Cs [.s (gi d 0).str,.s (⟨#[97,98,99,100,101,102,103,104,105,106,107,108,109,110,111,112,113,114,115,116,117,118,119,120,121,122,48,49,50,51,52,53,54,55,56,57,45,95]⟩:ByteArray)]) fun g2=>some [.t ((gi g2 0).str.toList==(⟨#[]⟩:ByteArray).toList)]) else some [.t false])) else none) else some [.t false]) else some [.t false])
def HU:aH:=⟨129,[cO],[],[],[dj],[],[],[],CE⟩
theorem ae3:aX P t32 aA f129 HU:=fun d=>by kernel_rfl
theorem ae4:aY P HU:=aV hm RM func129 (aO _ _ _) ae3
def t33:au:=t32.br HU
theorem RN:aw P t33:=RM.aP ae4

def CF(d:List G):Option (List G) :=
 (bif ((gi d 0).str.toList==(⟨#[]⟩:ByteArray).toList) then some [.t true] else (ar (CE [.s (gi d 0).str]) fun g1=>some [.t (gi g1 0).bool]))
def HV:aH:=⟨130,[cO],[],[],[dj],[],[],[],CF⟩
theorem ae5:aX P t33 aA f130 HV:=fun d=>by kernel_rfl
theorem ae6:aY P HV:=aV hm RN func130 (aO _ _ _) ae5
def t34:au:=t33.br HV
theorem RO:aw P t34:=RN.aP ae6

def CG(d:List G):Option (List G) :=
 (ar (HQ [.i (gi (gi d 0).row 0).int]) fun g1=>(bif (!(gi g1 0).bool) then some [.i 1] else (ar (HS [.i (gi (gi d 0).row 1).int]) fun g2=>(bif (!(gi g2 0).bool) then some [.i 4] else (ar (CE [.s (gi (gi d 0).row 2).str]) fun g3=>(bif (!(gi g3 0).bool) then some [.i 5] else (ar (vh [.s (gi (gi d 0).row 3).str]) fun g4=>(bif (!(gi g4 0).bool) then some [.i 3] else (ar (m_ [.i (gi (gi d 0).row 4).int,.i 0,.i 99999]) fun g5=>(bif (gi g5 0).bool then some [.i 1] else (ar (m_ [.i (gi (gi d 0).row 5).int,.i 0,.i 99999]) fun g6=>(bif (gi g6 0).bool then some [.i 1] else (ar (CF [.s (gi (gi d 0).row 6).str]) fun g7=>(bif (!(gi g7 0).bool) then some [.i 5] else (ar (CF [.s (gi (gi d 0).row 7).str]) fun g8=>(bif (!(gi g8 0).bool) then some [.i 5] else some [.i 0]))))))))))))))))
def HW:aH:=⟨88,[.s (.row aq)],[],[],[ad],[],[],[],CG⟩
theorem ae7:aX P t34 aA f88 HW:=fun d=>by kernel_rfl
theorem ae8:aY P HW:=aV hm RO func88 (aO _ _ _) ae7
def t35:au:=t34.br HW
theorem RP:aw P t35:=RO.aP ae8

def CH(d:List G):Option (List G) :=
 some [.t ((gi d 0).int != (gi d 0).int)]
def HX:aH:=⟨146,[ad],[],[],[dj],[],[],[],CH⟩
theorem ae9:aX P t35 aA f146 HX:=fun d=>by kernel_rfl
theorem ae_:aY P HX:=aV hm RP func146 (aO _ _ _) ae9
def t36:au:=t35.br HX
theorem RQ:aw P t36:=RP.aP ae_

def vj(d:List G):Option (List G) :=
 (ar (CH [.i (gi d 0).int]) fun g1=>(ar (CH [.i (gi d 1).int]) fun g2=>(bif (gi g1 0).bool then (bif (gi g2 0).bool then some [.i 0] else some [.i (-1)]) else (bif (gi g2 0).bool then some [.i 1] else (bif (aj (gi d 0).int (gi d 1).int) then some [.i (-1)] else (bif (aj (gi d 1).int (gi d 0).int) then some [.i 1] else some [.i 0]))))))
def HY:aH:=⟨118,[ad,ad],[],[],[ad],[],[],[],vj⟩
theorem ae':aX P t36 aA f118 HY:=fun d=>by kernel_rfl
theorem afa:aY P HY:=aV hm RQ func118 (aO _ _ _) ae'
def t37:au:=t36.br HY
theorem HZ:aw P t37:=RQ.aP afa

def vk(d:List G):Option (Option Nat × List G) :=
 let g:=gi ((gi d 1).rows.getD (((gi d 3).int).toNat) []) 0; (bif (aj (gi d 3).int (gi d 2).int) then (bif ((az (gi d 3).int)&&(aj (gi d 3).int (((gi d 1).rows.length:Nat):Int))) then (bif (g.int != (gi d 0).int) then some (some 0,[.i g.int]) else (bif (ao ((gi d 3).int+1)) then some (none,[.i (gi d 0).int,.l (gi d 1).rows,.i (gi d 2).int,.i ((gi d 3).int+1)]) else none)) else none) else some (some 1,[.i (gi d 0).int]))
def RR:bq:=⟨3,[],⟨18,[(3,ad),(6,fj),(7,ad),(8,ad)],[]⟩,[],[⟨.ret,⟨18,yG,[]⟩,[]⟩,⟨.exit 0,⟨18,[(3,ad)],[]⟩,[]⟩],vk⟩
theorem afb:cA P t37 aA 0 (cF f131 3) RR:=fun d=>by kernel_rfl
def RS:LT:=aA.add 0 RR
theorem afc:ay P 0 RS (a6 f131):=ay.a hm HZ (aO _ _ _) afb
def CJ(d:List G):Option (List G) :=
 (aR true (bV vk [.i 0,.l (gi d 0).rows,.i (((gi d 0).rows.length:Nat):Int),.i 0]) fun g g1=>(bif ai g 0 then some [.i (gi g1 0).int] else some [.i (gi g1 0).int]))
def H4:aH:=⟨131,[fj],[],[],[ad],[],[],[],CJ⟩
theorem afd:aX P t37 RS f131 H4:=fun d=>by kernel_rfl
theorem afe:aY P H4:=aV hm HZ func131 afc afd
def t38:au:=t37.br H4
theorem RT:aw P t38:=HZ.aP afe

def CK(d:List G):Option (List G) :=
 (ar (vj [.i (gi (gi d 0).row 0).int,.i (gi (gi d 1).row 0).int]) fun g1=>(ar (mX [.s (gi (gi d 0).row 3).str,.s (gi (gi d 1).row 3).str]) fun g2=>(ar (mX [.s (gi (gi d 0).row 2).str,.s (gi (gi d 1).row 2).str]) fun g3=>(ar (vj [.i (gi (gi d 0).row 1).int,.i (gi (gi d 1).row 1).int]) fun g4=>(ar (CJ [.l [[.i (gi g1 0).int],[.i (gi g2 0).int],[.i (gi g3 0).int],[.i (gi g4 0).int]]]) fun g5=>some [.i (gi g5 0).int])))))
def H5:aH:=⟨89,[.s (.row aq),.s (.row aq)],[],[],[ad],[],[],[],CK⟩
theorem aff:aX P t38 aA f89 H5:=fun d=>by kernel_rfl
theorem afg:aY P H5:=aV hm RT func89 (aO _ _ _) aff
def t39:au:=t38.br H5
theorem H6:aw P t39:=RT.aP afg

def RU(d:List G):Option (Option Nat × List G) :=
 let g:=aT aq ((gi d 1).rows.getD (((gi d 3).int).toNat) []); let z2:=(gi d 3).int-1; let z3:=(gi d 3).int+1; (bif (aj (gi d 3).int (gi d 2).int) then (bif ((az (gi d 3).int)&&(aj (gi d 3).int (((gi d 1).rows.length:Nat):Int))) then (ar (CG [.l [g]]) fun g1=>(bif ((gi g1 0).int != 0) then some (some 0,[.i (gi g1 0).int]) else (bif (aj 0 (gi d 3).int) then (bif (ao z2) then (bif ((az z2)&&(aj z2 (((gi d 0).rows.length:Nat):Int))) then (ar (CK [.l [(aT aq ((gi d 0).rows.getD (z2.toNat) []))],.l [g]]) fun g2=>(bif (aZ 0 (gi g2 0).int) then some (some 0,[.i 7]) else (bif (ao z3) then some (none,[.l (gi d 0).rows,.l (gi d 1).rows,.i (gi d 2).int,.i z3]) else none))) else none) else none) else (bif (ao z3) then some (none,[.l (gi d 0).rows,.l (gi d 1).rows,.i (gi d 2).int,.i z3]) else none)))) else none) else some (some 1,[]))
def RV:bq:=⟨4,[],⟨34,QW,[]⟩,[],[⟨.ret,⟨34,yG,[]⟩,[]⟩,⟨.exit 0,⟨34,[],[]⟩,[]⟩],RU⟩
theorem afh:cA P t39 aA 0 (cF f62 4) RV:=fun d=>by kernel_rfl
def RW:LT:=aA.add 0 RV
theorem afi:ay P 0 RW (a6 f62):=ay.a hm H6 (aO _ _ _) afh
def CL(d:List G):Option (List G) :=
 let g:=(((gi d 0).rows.length:Nat):Int); (bif (aj 2000 g) then some [.i 2] else (aR true (bV RU [.l (gi d 0).rows,.l (gi d 0).rows,.i g,.i 0]) fun k g3=>(bif ai k 0 then some [.i (gi g3 0).int] else some [.i 0])))
def H7:aH:=⟨62,[gL],[],[],[ad],[],[],[],CL⟩
theorem afj:aX P t39 RW f62 H7:=fun d=>by kernel_rfl
theorem afk:aY P H7:=aV hm H6 func62 afi afj
def t40:au:=t39.br H7
theorem RX:aw P t40:=H6.aP afk

def vl(d:List G):Option (List G) :=
 some [.t ((gi (gi d 0).row 3).str.toList==(gi (gi d 1).row 0).str.toList)]
def H8:aH:=⟨63,[.s (.row aq),.s (.cptr [.str,.list aq])],[],[],[dj],[],[],[],vl⟩
theorem afl:aX P t40 aA f63 H8:=fun d=>by kernel_rfl
theorem afm:aY P H8:=aV hm RX func63 (aO _ _ _) afl
def t41:au:=t40.br H8
theorem H9:aw P t41:=RX.aP afm

def RY(d:List G):Option (Option Nat × List G) :=
 let g:=aT [.str,.list aq] (gi d 1).row; (bif (aj (gi d 3).int (gi d 2).int) then (bif ((az (gi d 3).int)&&(aj (gi d 3).int (((gi d 0).rows.length:Nat):Int))) then (ar (vl [.l [(aT aq ((gi d 0).rows.getD (((gi d 3).int).toNat) []))],.l [g]]) fun g1=>(bif (gi g1 0).bool then some (some 0,[.i (gi d 3).int]) else (bif (ao ((gi d 3).int+1)) then some (none,[.l (gi d 0).rows,.l [g],.i (gi d 2).int,.i ((gi d 3).int+1)]) else none))) else none) else some (some 1,[]))
def RZ:bq:=⟨2,[],⟨19,[(0,gL),(1,.clo 63 [.cptr [.str,.list aq]]),(7,ad),(8,ad)],[]⟩,[],[⟨.ret,⟨19,[(4,ad)],[]⟩,[]⟩,⟨.exit 0,⟨19,[],[]⟩,[]⟩],RY⟩
theorem afn:cA P t41 aA 0 (cF f72 2) RZ:=fun d=>by kernel_rfl
def R0:LT:=aA.add 0 RZ
theorem afo:ay P 0 R0 (a6 f72):=ay.a hm H9 (aO _ _ _) afn
def R3(d:List G):Option (List G) :=
 (aR true (bV RY [.l (gi d 0).rows,.l [(aT [.str,.list aq] (gi d 1).row)],.i (((gi d 0).rows.length:Nat):Int),.i 0]) fun g g2=>(bif ai g 0 then some [.i (gi g2 0).int] else some [.i (-1)]))
def H_:aH:=⟨72,[gL,.clo 63 [.cptr [.str,.list aq]]],[],[],[ad],[],[],[],R3⟩
theorem afp:aX P t41 R0 f72 H_:=fun d=>by kernel_rfl
theorem afq:aY P H_:=aV hm H9 func72 afo afp
def t42:au:=t41.br H_
theorem R4:aw P t42:=H9.aP afq

def Ia(d:List G):Option (List G) :=
 (ar (R3 [.l (gi d 0).rows,.l [(aT [.str,.list aq] (gi d 1).row)]]) fun g1=>some [.t (aZ 0 (gi g1 0).int)])
def Ib:aH:=⟨53,[gL,.clo 63 [.cptr [.str,.list aq]]],[],[],[dj],[],[],[],Ia⟩
theorem afr:aX P t42 aA f53 Ib:=fun d=>by kernel_rfl
theorem afs:aY P Ib:=aV hm R4 func53 (aO _ _ _) afr
def t43:au:=t42.br Ib
theorem R5:aw P t43:=R4.aP afs

def CM(d:List G):Option (List G) :=
 (ar (vh [.s (gi (gi d 0).row 0).str]) fun g1=>(bif (!(gi g1 0).bool) then some [.i 3] else (ar (RH []) fun g2=>(bif ((gi g2 0).int != 0) then some [.i (gi g2 0).int] else (ar (CL [.l (gi (gi d 0).row 1).rows]) fun g3=>(bif ((gi g3 0).int != 0) then some [.i (gi g3 0).int] else (ar (Ia [.l (gi (gi d 0).row 1).rows,.l [(aT [.str,.list aq] (gi d 0).row)]]) fun g4=>(bif (gi g4 0).bool then some [.i 6] else some [.i 0]))))))))
def Ic:aH:=⟨37,[gz,.s (.fn 45)],[],[],[ad],[],[],[],CM⟩
theorem aft:aX P (t43.gV [53]) aA f37 Ic:=fun d=>by kernel_rfl
theorem afu:aY P Ic:=oT hm (R5.gV [53]) func37 (by kernel_rfl) (aO _ _ _) aft (by kernel_rfl)
def t44:au:=t43.br Ic
theorem R6:aw P t44:=R5.aP afu

def yN(d:List G):Option (List G) :=
 (ar (m_ [.i (gi d 0).int,.i 0,.i 3600000]) fun g1=>(bif (gi g1 0).bool then some [.i 1] else some [.i 0]))
def Ie:aH:=⟨46,[ad],[],[],[ad],[],[],[],yN⟩
theorem afv:aX P t44 aA f46 Ie:=fun d=>by kernel_rfl
theorem afw:aY P Ie:=aV hm R6 func46 (aO _ _ _) afv
def t45:au:=t44.br Ie
theorem If:aw P t45:=R6.aP afw

end
end Go.Proofs.iy
