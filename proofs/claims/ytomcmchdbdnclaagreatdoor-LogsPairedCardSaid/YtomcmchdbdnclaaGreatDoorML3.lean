/-
 What is proved: functions as functions on data. No condition.
-/
import Derived.Test.YtomcmchdbdnclaaGreatDoorML2
set_option linter.all false
open List renaming replicate->bQ
open Nat renaming beq->ai
namespace Go.Proofs.iy
open Go Go.AL Go.Proofs Tryz
noncomputable section
def Ig(d:List G):Option (Option Nat × List G) :=
 (bif (aj (gi d 7).int (gi d 6).int) then (bif ((az (gi d 7).int)&&(aj (gi d 7).int (((gi d 5).rows.length:Nat):Int))) then (ar (CM [.l [(aT [.str,.list aq] ((gi d 5).rows.getD (((gi d 7).int).toNat) []))]]) fun g1=>(bif ((gi g1 0).int != 0) then some (some 0,[.i (gi g1 0).int]) else (bif (ao ((gi d 7).int+1)) then some (none,[.s (gi d 0).str,.l (gi d 1).rows,.s (gi d 2).str,.l (gi d 3).rows,.i (gi d 4).int,.l (gi d 5).rows,.i (gi d 6).int,.i ((gi d 7).int+1)]) else none))) else none) else some (some 1,[.s (gi d 0).str,.l (gi d 1).rows,.s (gi d 2).str,.l (gi d 3).rows,.i (gi d 4).int]))
def R7:bq:=⟨2,[],⟨31,QX,yE⟩,[.slot 3,.slot 4],[⟨.ret,⟨31,[(6,ad)],[]⟩,[]⟩,⟨.exit 0,⟨31,[(2,ad),(3,.s (.ptr 0 0)),(4,.s (.ptr 1 0))],yE⟩,[.slot 3,.slot 4]⟩],Ig⟩
theorem afx:cA P t45 aA 0 (cF f25 2) R7:=fun d=>by kernel_rfl
def R8:LT:=aA.add 0 R7
theorem afy:ay P 0 R8 (a6 f25):=ay.a hm If (aO _ _ _) afx
def vm(d:List G):Option (List G) :=
 (aR true (bV Ig [.s (gi (gi d 0).row 0).str,.l (gi (gi d 0).row 1).rows,.s (gi (gi d 1).row 0).str,.l (gi (gi d 1).row 1).rows,.i (gi d 2).int,.l [(aT [.str,.list aq] (gi d 0).row),(aT [.str,.list aq] (gi d 1).row)],.i 2,.i 0]) fun g g2=>(bif ai g 0 then some [.i (gi g2 0).int] else (bif ((gi g2 0).str.toList==(gi g2 2).str.toList) then some [.i 6] else (ar (yN [.i (gi g2 4).int]) fun g3=>some [.i (gi g3 0).int]))))
def Ih:aH:=⟨25,[gz,gz,ad],[],[],[ad],[],[],[],vm⟩
theorem afz:aX P t45 R8 f25 Ih:=fun d=>by kernel_rfl
theorem afA:aY P Ih:=aV hm If func25 afy afz
def t46:au:=t45.br Ih
theorem Ii:aw P t46:=If.aP afA

def vn(d:List G):Option (Option Nat × List G) :=
 let g:=(gi d 3).rows.getD (((gi d 5).int).toNat) []; let z2:=ef [.str,.int .i64] (gi d 0).rows [.s (gi g 2).str,.i (gi g 1).int]; let z3:=(((oK [.str,.int .i64] (gi d 0).rows [.s (gi g 2).str,.i (gi g 1).int] ((gi d 1).int.toNat)):Nat):Int); let z4:=oL [.str,.int .i64] (gi d 0).rows [.s (gi g 2).str,.i (gi g 1).int] ((gi d 1).int.toNat); let z5:=(z2++([[.i (gi d 5).int]]:List (List G))); let k:=(gi d 5).int+1; let q:=(((gi d 1).int.toNat:Nat):Int); (bif (aj (gi d 5).int (gi d 4).int) then (bif ((az (gi d 5).int)&&(aj (gi d 5).int (((gi d 3).rows.length:Nat):Int))) then (bif ((gi g 3).str.toList==(gi d 2).str.toList) then (bif (dO [.str,.int .i64] (gi d 0).rows [.s (gi g 2).str,.i (gi g 1).int]) then (bif ((ai z2.length z2.length)&&(decide ((z2.length+1)<=1048576))) then (bif ((uo z4 z3)&&(ai z5.length z5.length)) then (bif (ao k) then some (none,[.l (um z4 z3 z5),.i (((dE [.str,.int .i64] (gi d 0).rows [.s (gi g 2).str,.i (gi g 1).int] ((gi d 1).int.toNat)):Nat):Int),.s (gi d 2).str,.l (gi d 3).rows,.i (gi d 4).int,.i k]) else none) else none) else none) else none) else (bif (ao k) then some (none,[.l (gi d 0).rows,.i q,.s (gi d 2).str,.l (gi d 3).rows,.i (gi d 4).int,.i k]) else none)) else none) else some (some 0,[.l (gi d 0).rows,.i q]))
def R9:bq:=⟨3,[],⟨36,[(1,cO),(5,.s (.map 0)),(10,gL),(11,ad),(12,ad)],[.aJ 1 (.agg [.str,.int .i64]) [.int .i64]]⟩,[.slot 5],[⟨.exit 0,⟨36,[(5,.s (.map 0))],[.aJ 1 (.agg [.str,.int .i64]) [.int .i64]]⟩,[.slot 5]⟩],vn⟩
theorem afB:cA P t46 (aA.iU [(2,[.aJ 5 1]),(9,[.BR 5])]) 0 (cF f47 3) R9:=fun d=>by kernel_rfl
def R_:LT:=(aA.iU [(2,[.aJ 5 1]),(9,[.BR 5])]).add 0 R9
theorem afC:ay P 0 R_ (a6 f47):=ay.a hm Ii (nM _) afB
def sI(d:List G):Option (List G) :=
 (aR true (bV vn [.l [],.i 0,.s (gi d 1).str,.l (gi d 0).rows,.i (((gi d 0).rows.length:Nat):Int),.i 0]) fun g g1=>(bif ((ql (gi g1 0).rows)&&true) then some [.l (gi g1 0).rows,.i (((gi g1 1).int.toNat:Nat):Int)] else none))
def Ij:aH:=⟨47,[gL,cO],[],[],[.s (.map 0)],[.map (.agg [.str,.int .i64]) (.one (.list [.int .i64]))],[.slot 0],[],sI⟩
theorem afD:aX P t46 R_ f47 Ij:=fun d=>by kernel_rfl
theorem afE:aY P Ij:=aV hm Ii func47 afC afD
def t47:au:=t46.du Ij
theorem R':aw P t47:=Ii.aW afE

def vo(d:List G):Option (List G) :=
 let g:=(gi (gi d 0).row 0).int-(gi (gi d 1).row 0).int; let z2:=(gi (gi d 1).row 0).int-(gi (gi d 0).row 0).int; (bif (ao g) then (bif (ao z2) then some [.i (if z2>g then z2 else g)] else none) else none)
def Ik:aH:=⟨101,[.s (.row aq),.s (.row aq)],[],[],[ad],[],[],[],vo⟩
theorem afF:aX P t47 aA f101 Ik:=fun d=>by kernel_rfl
theorem afG:aY P Ik:=aV hm R' func101 (aO _ _ _) afF
def t48:au:=t47.br Ik
theorem Sa:aw P t48:=R'.aP afG

def vp(d:List G):Option (List G) :=
 (bif ((gi (gi d 0).row 2).str.toList==(gi (gi d 1).row 2).str.toList) then (bif ((gi (gi d 0).row 1).int==(gi (gi d 1).row 1).int) then (ar (vo [.l [(aT aq (gi d 0).row)],.l [(aT aq (gi d 1).row)]]) fun g1=>some [.t (aZ (gi g1 0).int (gi d 2).int)]) else some [.t false]) else some [.t false])
def Il:aH:=⟨102,[.s (.row aq),.s (.row aq),ad],[],[],[dj],[],[],[],vp⟩
theorem afH:aX P t48 aA f102 Il:=fun d=>by kernel_rfl
theorem afI:aY P Il:=aV hm Sa func102 (aO _ _ _) afH
def t49:au:=t48.br Il
theorem Sb:aw P t49:=Sa.aP afI

def CN(d:List G):Option (List G) :=
 let g:=gi ((gi d 2).rows.getD (((gi d 6).int).toNat) []) 0; let z2:=gi ((gi d 3).rows.getD (((gi d 7).int).toNat) []) 0; let z3:=aT aq ((gi d 0).rows.getD ((g.int).toNat) []); let z4:=aT aq ((gi d 1).rows.getD ((z2.int).toNat) []); (bif ((az (gi d 6).int)&&(aj (gi d 6).int (((gi d 2).rows.length:Nat):Int))) then (bif ((az g.int)&&(aj g.int (((gi d 0).rows.length:Nat):Int))) then (bif ((az (gi d 7).int)&&(aj (gi d 7).int (((gi d 3).rows.length:Nat):Int))) then (bif ((az z2.int)&&(aj z2.int (((gi d 1).rows.length:Nat):Int))) then (ar (vo [.l [z3],.l [z4]]) fun g1=>let z5:=10000000000-(gi g1 0).int; (bif (ao z5) then (ar (vp [.l [z3],.l [z4],.i (gi d 4).int]) fun g2=>(bif ((((ai (gi d 5).rows.length (gi d 5).rows.length)&&true)&&true)&&true) then some [.l (gi d 0).rows,.l (gi d 1).rows,.l (gi d 2).rows,.l (gi d 3).rows,.i (gi d 4).int,.l (gi d 5).rows,.i z5,.t (gi g2 0).bool] else none)) else none)) else none) else none) else none) else none)
def Im:aH:=⟨69,[.s (.ptr 0 0),ad,ad],[.box [.list aq,.list aq,.list [.int .i64],.list [.int .i64],.int .i64,.vec 1 1],.vec [.list [.int .i64]] 0],[.slot 0,.cell 0 5],[ad,dj],[.box [.list aq,.list aq,.list [.int .i64],.list [.int .i64],.int .i64,.vec 1 1],.vec [.list [.int .i64]] 0],[.fix 0,.fix 1],[],CN⟩
theorem afJ:aX P t49 (aA.iU [(1,[.hole aq,.hole aq])]) f69 Im:=fun d=>by kernel_rfl
theorem afK:aY P Im:=aV hm Sb func69 (nM _) afJ
def t50:au:=t49.du Im
theorem yO:aw P t50:=Sb.aW afK

def yP(d:List G):Option (Option Nat × List G) :=
 (bif (ao ((gi d 8).int-1)) then (bif ((((ai (gi d 5).rows.length (gi d 5).rows.length)&&true)&&true)&&((ai (gi d 6).rows.length (gi d 6).rows.length)&&true)) then some (some 0,[.l (gi d 0).rows,.l (gi d 1).rows,.l (gi d 2).rows,.l (gi d 3).rows,.i (gi d 4).int,.l (gi d 5).rows,.l (gi d 6).rows,.i (gi d 7).int,.i ((gi d 8).int-1)]) else none) else none)
def Sc:bq:=⟨8,[],⟨118,Hl,Cv⟩,[.fix 0,.cell 0 5,.slot 3],[⟨.normal,⟨118,Hl,Cv⟩,[.fix 0,.cell 0 5,.slot 3]⟩],yP⟩
theorem afL:gx P t50 aA 1 (cutAt f68 8) Sc:=fun d=>by kernel_rfl
def Io:LT:=aA.eL 1 Sc
theorem afM:ay P 1 Io (a6 f68):=ay.aC hm yO (aO _ _ _) afL
def yQ(d:List G):Option (Option Nat × List G) :=
 let z2:=0+((gi d 8).int).toNat; let z4:=(gi d 8).int+1; let z5:=CN [.l (gi d 0).rows,.l (gi d 1).rows,.l (gi d 2).rows,.l (gi d 3).rows,.i (gi d 4).int,.l (gi d 5).rows,.i (gi d 7).int,.i (gi d 8).int]; let u:=((az (gi d 8).int)&&(aj (gi d 8).int (((gi d 6).rows.length:Nat):Int))); let g:=(gi d 7).int+1; let z3:=0+g.toNat; let k:=(gi d 6).rows.set z2 (dx [.int .i64] ((gi d 6).rows.getD z2 []) 0 [.i (if (gi ((gi d 6).rows.getD (0+z4.toNat) []) 0).int>(gi ((gi ((gi d 5).rows.getD z3 []) 0).rows.getD (((gi d 8).int).toNat) []) 0).int then (gi ((gi d 6).rows.getD (0+z4.toNat) []) 0).int else (gi ((gi ((gi d 5).rows.getD z3 []) 0).rows.getD (((gi d 8).int).toNat) []) 0).int)]); let I:=((ai (gi d 5).rows.length (gi d 5).rows.length)&&true)&&true; let z9:=k.getD z2 []; let v:=decide (z2<k.length); (bif (aZ 0 (gi d 8).int) then (bif (ao g) then (bif ((az g)&&(aj g (((gi d 5).rows.length:Nat):Int))) then (bif (decide (z3<(gi d 5).rows.length)) then (bif ((az (gi d 8).int)&&(aj (gi d 8).int (((gi ((gi d 5).rows.getD z3 []) 0).rows.length:Nat):Int))) then (bif (ao z4) then (bif ((az z4)&&(aj z4 (((gi d 6).rows.length:Nat):Int))) then (bif (decide ((0+z4.toNat)<(gi d 6).rows.length)) then (bif u then (bif (decide (z2<(gi d 6).rows.length)) then (lu ((I&&true)&&z5.isSome) z5 fun g1=>let q:=(gi g1 6).int+(gi ((gi ((gi g1 5).rows.getD z3 []) 0).rows.getD (z4.toNat) []) 0).int; let z12:=k.set z2 (dx [.int .i64] z9 0 [.i (if q>(gi z9 0).int then q else (gi z9 0).int)]); let y:=((ai (gi g1 5).rows.length (gi g1 5).rows.length)&&true)&&true; (bif (gi g1 7).bool then (bif u then (bif v then (bif (ao g) then (bif ((az g)&&(aj g (((gi g1 5).rows.length:Nat):Int))) then (bif (decide (z3<(gi g1 5).rows.length)) then (bif (ao z4) then (bif ((az z4)&&(aj z4 (((gi ((gi g1 5).rows.getD z3 []) 0).rows.length:Nat):Int))) then (bif (ao q) then (bif u then (bif v then (aR (y&&((ai (gi d 6).rows.length z12.length)&&true)) (cG (yP [.l (gi g1 0).rows,.l (gi g1 1).rows,.l (gi g1 2).rows,.l (gi g1 3).rows,.i (gi g1 4).int,.l (gi g1 5).rows,.l z12,.i (gi d 7).int,.i (gi d 8).int])) fun M g2=>(bif ((((ai (gi g2 5).rows.length (gi g2 5).rows.length)&&true)&&true)&&((ai (gi g2 6).rows.length (gi g2 6).rows.length)&&true)) then some (none,[.l (gi g2 0).rows,.l (gi g2 1).rows,.l (gi g2 2).rows,.l (gi g2 3).rows,.i (gi g2 4).int,.l (gi g2 5).rows,.l (gi g2 6).rows,.i (gi g2 7).int,.i (gi g2 8).int]) else none)) else none) else none) else none) else none) else none) else none) else none) else none) else none) else none) else (aR (y&&((ai (gi d 6).rows.length k.length)&&true)) (cG (yP [.l (gi g1 0).rows,.l (gi g1 1).rows,.l (gi g1 2).rows,.l (gi g1 3).rows,.i (gi g1 4).int,.l (gi g1 5).rows,.l k,.i (gi d 7).int,.i (gi d 8).int])) fun N g3=>(bif ((((ai (gi g3 5).rows.length (gi g3 5).rows.length)&&true)&&true)&&((ai (gi g3 6).rows.length (gi g3 6).rows.length)&&true)) then some (none,[.l (gi g3 0).rows,.l (gi g3 1).rows,.l (gi g3 2).rows,.l (gi g3 3).rows,.i (gi g3 4).int,.l (gi g3 5).rows,.l (gi g3 6).rows,.i (gi g3 7).int,.i (gi g3 8).int]) else none)))) else none) else none) else none) else none) else none) else none) else none) else none) else none) else (bif (I&&((ai (gi d 6).rows.length (gi d 6).rows.length)&&true)) then some (some 0,[.l (gi d 0).rows,.l (gi d 1).rows,.l (gi d 2).rows,.l (gi d 3).rows,.i (gi d 4).int,.l (gi d 5).rows,.l (gi d 6).rows,.i (gi d 7).int]) else none))
def Sd:bq:=⟨7,[],⟨118,Hl,Cv⟩,[.fix 0,.cell 0 5,.slot 3],[⟨.exit 2,⟨118,[(0,.s (.ptr 0 0)),(2,ad),(3,.s (.vec 2 1))],Cv⟩,[.fix 0,.cell 0 5,.slot 3]⟩],yQ⟩
theorem afN:cA P t50 Io 1 (cF f68 7) Sd:=fun d=>by kernel_rfl
def Ip:LT:=Io.add 1 Sd
theorem afO:ay P 1 Ip (a6 f68):=ay.a hm yO afM afN
def yR(d:List G):Option (Option Nat × List G) :=
 let g:=(((gi d 3).rows.length:Nat):Int); let z2:=((ai (gi d 5).rows.length (gi d 5).rows.length)&&true)&&true; let z3:=(bQ ((g+1).toNat) ([.i 0]:List G)); (bif (aZ 0 (gi d 6).int) then (bif (ao (g+1)) then (bif ((az (g+1))&&((aZ (g+1) (g+1))&&(aZ (g+1) 1048576))) then (bif (ao (g-1)) then (aR (z2&&((ai (g+1).toNat z3.length)&&true)) (bV yQ [.l (gi d 0).rows,.l (gi d 1).rows,.l (gi d 2).rows,.l (gi d 3).rows,.i (gi d 4).int,.l (gi d 5).rows,.l z3,.i (gi d 6).int,.i (g-1)]) fun k g4=>let z4:=(gi g4 5).rows.set (0+((gi g4 7).int).toNat) (dx [.list [.int .i64]] ((gi g4 5).rows.getD (0+((gi g4 7).int).toNat) []) 0 [.l (gi g4 6).rows]); (bif ((az (gi g4 7).int)&&(aj (gi g4 7).int (((gi g4 5).rows.length:Nat):Int))) then (bif ((ai (gi g4 6).rows.length (gi g4 6).rows.length)&&(decide ((0+((gi g4 7).int).toNat)<(gi g4 5).rows.length))) then (bif (ao ((gi g4 7).int-1)) then (bif ((((ai (gi g4 5).rows.length z4.length)&&true)&&true)&&true) then some (none,[.l (gi g4 0).rows,.l (gi g4 1).rows,.l (gi g4 2).rows,.l (gi g4 3).rows,.i (gi g4 4).int,.l z4,.i ((gi g4 7).int-1)]) else none) else none) else none) else none)) else none) else none) else none) else (bif (z2&&true) then some (some 0,[.l (gi d 0).rows,.l (gi d 1).rows,.l (gi d 2).rows,.l (gi d 3).rows,.i (gi d 4).int,.l (gi d 5).rows]) else none))
def Se:bq:=⟨3,[],⟨118,[(0,.s (.ptr 0 0)),(2,ad)],QN⟩,[.fix 0,.cell 0 5],[⟨.exit 0,⟨118,[],QN⟩,[.fix 0,.cell 0 5]⟩],yR⟩
theorem afP:cA P t50 Ip 1 (cF f68 3) Se:=fun d=>by kernel_rfl
def Sf:LT:=Ip.add 1 Se
theorem afQ:ay P 1 Sf (a6 f68):=ay.a hm yO afO afP
def CO(d:List G):Option (List G) :=
 let g:=(((gi d 2).rows.length:Nat):Int); let z2:=((((gi d 3).rows.length:Nat):Int)+1); let z3:=((bQ ((g+1).toNat) ([.l []]:List G)).set (0+(gi d 2).rows.length) (dx [.list [.int .i64]] ((bQ ((g+1).toNat) ([.l []]:List G)).getD (0+(gi d 2).rows.length) []) 0 [.l (bQ (z2.toNat) ([.i 0]:List G))])); (bif (ao (g+1)) then (bif ((az (g+1))&&((aZ (g+1) (g+1))&&(aZ (g+1) 1048576))) then (bif (ao z2) then (bif ((az z2)&&((aZ z2 z2)&&(aZ z2 1048576))) then (bif ((az g)&&(aj g (((g+1).toNat:Nat):Int))) then (bif ((ai z2.toNat (bQ (z2.toNat) ([.i 0]:List G)).length)&&(decide ((0+(gi d 2).rows.length)<(bQ ((g+1).toNat) ([.l []]:List G)).length))) then (bif (ao (g-1)) then (aR ((((ai (g+1).toNat z3.length)&&true)&&true)&&true) (bV yR [.l (gi d 0).rows,.l (gi d 1).rows,.l (gi d 2).rows,.l (gi d 3).rows,.i (gi d 4).int,.l z3,.i (g-1)]) fun k g5=>(bif ((((ai (gi g5 5).rows.length (gi g5 5).rows.length)&&true)&&true)&&true) then some [.l (gi g5 0).rows,.l (gi g5 1).rows,.l (gi g5 2).rows,.l (gi g5 3).rows,.i (gi g5 4).int,.l (gi g5 5).rows] else none)) else none) else none) else none) else none) else none) else none) else none)
def Iq:aH:=⟨68,[.s (.ptr 0 0)],[.box [.list aq,.list aq,.list [.int .i64],.list [.int .i64],.int .i64,.list [.list [.int .i64]]]],[.slot 0],[],[.box [.list aq,.list aq,.list [.int .i64],.list [.int .i64],.int .i64,.list [.list [.int .i64]]]],[.fix 0],[],CO⟩
theorem afR:aX P t50 Sf f68 Iq:=fun d=>by kernel_rfl
theorem afS:aY P Iq:=aV hm yO func68 afQ afR
def t51:au:=t50.du Iq
theorem Sg:aw P t51:=yO.aW afS

def CP(d:List G):Option (List G) :=
 let g:=gi ((gi (gi d 0).row 2).rows.getD (((gi d 1).int).toNat) []) 0; let z2:=gi ((gi (gi d 0).row 3).rows.getD (((gi d 2).int).toNat) []) 0; let z3:=aT aq ((gi (gi d 0).row 0).rows.getD ((g.int).toNat) []); let z4:=aT aq ((gi (gi d 0).row 1).rows.getD ((z2.int).toNat) []); (bif ((az (gi d 1).int)&&(aj (gi d 1).int (((gi (gi d 0).row 2).rows.length:Nat):Int))) then (bif ((az g.int)&&(aj g.int (((gi (gi d 0).row 0).rows.length:Nat):Int))) then (bif ((az (gi d 2).int)&&(aj (gi d 2).int (((gi (gi d 0).row 3).rows.length:Nat):Int))) then (bif ((az z2.int)&&(aj z2.int (((gi (gi d 0).row 1).rows.length:Nat):Int))) then (ar (vo [.l [z3],.l [z4]]) fun g1=>let z5:=10000000000-(gi g1 0).int; (bif (ao z5) then (ar (vp [.l [z3],.l [z4],.i (gi (gi d 0).row 4).int]) fun g2=>some [.i z5,.t (gi g2 0).bool]) else none)) else none) else none) else none) else none)
def Ir:aH:=⟨69,[.s (.cptr [.list aq,.list aq,.list [.int .i64],.list [.int .i64],.int .i64,.list [.list [.int .i64]]]),ad,ad],[],[],[ad,dj],[],[],[],CP⟩
theorem afT:aX P t51 (aA.iU [(1,[.hole aq,.hole aq])]) f69 Ir:=fun d=>by kernel_rfl
theorem afU:aY P Ir:=aV hm Sg func69 (nM _) afT
def t52:au:=t51.br Ir
theorem yS:aw P t52:=Sg.aP afU

def vq(d:List G):Option (Option Nat × List G) :=
 let g:=((gi d 6).rows++([[.i (gi ((gi d 2).rows.getD (((gi d 8).int).toNat) []) 0).int,.i (gi ((gi d 3).rows.getD (((gi d 9).int).toNat) []) 0).int]]:List (List G))); let z2:=ai (gi d 6).rows.length (gi d 6).rows.length; (bif (gi d 12).bool then (bif ((az (gi d 8).int)&&(aj (gi d 8).int (((gi d 2).rows.length:Nat):Int))) then (bif ((az (gi d 9).int)&&(aj (gi d 9).int (((gi d 3).rows.length:Nat):Int))) then (bif (z2&&(decide (((gi d 6).rows.length+1)<=1048576))) then (bif (ao ((gi d 9).int+1)) then (bif ((ai g.length g.length)&&true) then some (some 0,[.l (gi d 0).rows,.l (gi d 1).rows,.l (gi d 2).rows,.l (gi d 3).rows,.i (gi d 4).int,.l (gi d 5).rows,.l g,.i ((gi d 9).int+1),.i (gi d 10).int,.i (gi d 11).int]) else none) else none) else none) else none) else none) else (bif (z2&&true) then some (some 1,[.l (gi d 0).rows,.l (gi d 1).rows,.l (gi d 2).rows,.l (gi d 3).rows,.i (gi d 4).int,.l (gi d 5).rows,.l (gi d 6).rows,.i (gi d 7).int,.i (gi d 8).int,.i (gi d 9).int,.i (gi d 10).int,.i (gi d 11).int]) else none))
def Si:bq:=⟨12,[],⟨86,[(0,.s (.ptr 0 0)),(3,.s (.vec 1 2)),(4,ad),(5,ad),(6,ad),(15,ad),(16,ad),(63,dj)],sE⟩,[.fix 0,.slot 3],[⟨.exit 2,⟨86,Hm,sE⟩,[.fix 0,.slot 3]⟩,⟨.normal,⟨86,QY,sE⟩,[.fix 0,.slot 3]⟩],vq⟩
theorem afV:gx P (t52.gV [69]) aA 1 (cutAt f48 12) Si:=fun d=>by kernel_rfl
def Is:LT:=aA.eL 1 Si
theorem afW:ay P 1 Is (a6 f48):=ay.eL hm (yS.gV [69]) (by kernel_rfl) (aO _ _ _) afV
def sJ(d:List G):Option (Option Nat × List G) :=
 let k:=(ai (gi d 6).rows.length (gi d 6).rows.length)&&true; let z3:=(gi d 9).int+1; let z4:=gi ((gi d 5).rows.getD (((gi d 8).int).toNat) []) 0; let z5:=(((gi d 5).rows.length:Nat):Int); let g:=(gi d 8).int+1; let z2:=gi ((gi d 5).rows.getD (g.toNat) []) 0; let q:=gi (z2.rows.getD (z3.toNat) []) 0; (bif (aj (gi d 9).int (((gi d 3).rows.length:Nat):Int)) then (ar (CP [.l [[.l (gi d 0).rows,.l (gi d 1).rows,.l (gi d 2).rows,.l (gi d 3).rows,.i (gi d 4).int,.l (gi d 5).rows]],.i (gi d 8).int,.i (gi d 9).int]) fun g2=>(bif (gi g2 1).bool then (bif (ao g) then (bif ((az g)&&(aj g z5)) then (bif (ao z3) then (bif ((az z3)&&(aj z3 ((z2.rows.length:Nat):Int))) then (bif (ao ((gi g2 0).int+q.int)) then (bif ((az (gi d 8).int)&&(aj (gi d 8).int z5)) then (bif ((az (gi d 7).int)&&(aj (gi d 7).int ((z4.rows.length:Nat):Int))) then (aR k (cG (vq [.l (gi d 0).rows,.l (gi d 1).rows,.l (gi d 2).rows,.l (gi d 3).rows,.i (gi d 4).int,.l (gi d 5).rows,.l (gi d 6).rows,.i (gi d 7).int,.i (gi d 8).int,.i (gi d 9).int,.i (gi d 10).int,.i (gi d 11).int,.t (((gi g2 0).int+q.int)==(gi (z4.rows.getD (((gi d 7).int).toNat) []) 0).int)])) fun v g3=>let u:=(ai (gi g3 6).rows.length (gi g3 6).rows.length)&&true; (bif ai v 0 then (bif u then some (some 0,[.l (gi g3 0).rows,.l (gi g3 1).rows,.l (gi g3 2).rows,.l (gi g3 3).rows,.i (gi g3 4).int,.l (gi g3 5).rows,.l (gi g3 6).rows,.i (gi g3 7).int,.i (gi g3 8).int,.i (gi g3 9).int]) else none) else (bif (ao ((gi g3 9).int+1)) then (bif u then some (none,[.l (gi g3 0).rows,.l (gi g3 1).rows,.l (gi g3 2).rows,.l (gi g3 3).rows,.i (gi g3 4).int,.l (gi g3 5).rows,.l (gi g3 6).rows,.i (gi g3 7).int,.i (gi g3 8).int,.i ((gi g3 9).int+1),.i (gi g3 10).int,.i (gi g3 11).int]) else none) else none))) else none) else none) else none) else none) else none) else none) else none) else (aR k (cG (vq [.l (gi d 0).rows,.l (gi d 1).rows,.l (gi d 2).rows,.l (gi d 3).rows,.i (gi d 4).int,.l (gi d 5).rows,.l (gi d 6).rows,.i (gi d 7).int,.i (gi d 8).int,.i (gi d 9).int,.i (gi d 10).int,.i (gi d 11).int,.t false])) fun y g4=>let z9:=(ai (gi g4 6).rows.length (gi g4 6).rows.length)&&true; (bif ai y 0 then (bif z9 then some (some 0,[.l (gi g4 0).rows,.l (gi g4 1).rows,.l (gi g4 2).rows,.l (gi g4 3).rows,.i (gi g4 4).int,.l (gi g4 5).rows,.l (gi g4 6).rows,.i (gi g4 7).int,.i (gi g4 8).int,.i (gi g4 9).int]) else none) else (bif (ao ((gi g4 9).int+1)) then (bif z9 then some (none,[.l (gi g4 0).rows,.l (gi g4 1).rows,.l (gi g4 2).rows,.l (gi g4 3).rows,.i (gi g4 4).int,.l (gi g4 5).rows,.l (gi g4 6).rows,.i (gi g4 7).int,.i (gi g4 8).int,.i ((gi g4 9).int+1),.i (gi g4 10).int,.i (gi g4 11).int]) else none) else none))))) else (bif k then some (some 0,[.l (gi d 0).rows,.l (gi d 1).rows,.l (gi d 2).rows,.l (gi d 3).rows,.i (gi d 4).int,.l (gi d 5).rows,.l (gi d 6).rows,.i (gi d 7).int,.i (gi d 10).int,.i (gi d 11).int]) else none))
def Sj:bq:=⟨8,[],⟨86,QY,sE⟩,[.fix 0,.slot 3],[⟨.exit 2,⟨86,Hm,sE⟩,[.fix 0,.slot 3]⟩],sJ⟩
theorem afX:cA P (t52.gV [69]) Is 1 (cF f48 8) Sj:=fun d=>by kernel_rfl
def It:LT:=Is.add 1 Sj
theorem afY:ay P 1 It (a6 f48):=ay.add hm (yS.gV [69]) (by kernel_rfl) afW afX
def vr(d:List G):Option (Option Nat × List G) :=
 let g:=(ai (gi d 6).rows.length (gi d 6).rows.length)&&true; (bif (aj (gi d 9).int (gi d 8).int) then (aR g (bV sJ [.l (gi d 0).rows,.l (gi d 1).rows,.l (gi d 2).rows,.l (gi d 3).rows,.i (gi d 4).int,.l (gi d 5).rows,.l (gi d 6).rows,.i (gi d 7).int,.i (gi d 9).int,.i (gi d 7).int,.i (gi d 8).int,.i (gi d 9).int]) fun k g5=>(bif (ao ((gi g5 9).int+1)) then (bif ((ai (gi g5 6).rows.length (gi g5 6).rows.length)&&true) then some (none,[.l (gi g5 0).rows,.l (gi g5 1).rows,.l (gi g5 2).rows,.l (gi g5 3).rows,.i (gi g5 4).int,.l (gi g5 5).rows,.l (gi g5 6).rows,.i (gi g5 7).int,.i (gi g5 8).int,.i ((gi g5 9).int+1)]) else none) else none)) else (bif g then some (some 0,[.l (gi d 0).rows,.l (gi d 1).rows,.l (gi d 2).rows,.l (gi d 3).rows,.i (gi d 4).int,.l (gi d 5).rows,.l (gi d 6).rows]) else none))
def Sk:bq:=⟨5,[(3,[.int .i64,.int .i64])],⟨86,Hm,sE⟩,[.fix 0,.slot 3],[⟨.exit 0,⟨86,[(3,.s (.vec 1 2))],sE⟩,[.fix 0,.slot 3]⟩],vr⟩
theorem afZ:cA P (t52.gV [69]) It 1 (cF f48 5) Sk:=fun d=>by kernel_rfl
def Sl:LT:=It.add 1 Sk
theorem af0:ay P 1 Sl (a6 f48):=ay.add hm (yS.gV [69]) (by kernel_rfl) afY afZ
def CQ(d:List G):Option (List G) :=
 (ar (CO [.l (gi d 0).rows,.l (gi d 1).rows,.l (gi d 2).rows,.l (gi d 3).rows,.i (gi d 4).int,.l (gi d 5).rows]) fun g1=>(aR true (bV vr [.l (gi g1 0).rows,.l (gi g1 1).rows,.l (gi g1 2).rows,.l (gi g1 3).rows,.i (gi g1 4).int,.l (gi g1 5).rows,.l [],.i 0,.i (((gi g1 2).rows.length:Nat):Int),.i 0]) fun g g6=>(bif ((ai (gi g6 6).rows.length (gi g6 6).rows.length)&&true) then some [.l (gi g6 0).rows,.l (gi g6 1).rows,.l (gi g6 2).rows,.l (gi g6 3).rows,.i (gi g6 4).int,.l (gi g6 5).rows,.l (gi g6 6).rows] else none)))
def Iu:aH:=⟨48,[.s (.ptr 0 0)],[.box [.list aq,.list aq,.list [.int .i64],.list [.int .i64],.int .i64,.list [.list [.int .i64]]]],[.slot 0],[.s (.list [.int .i64,.int .i64])],[.box [.list aq,.list aq,.list [.int .i64],.list [.int .i64],.int .i64,.list [.list [.int .i64]]]],[.fix 0],[],CQ⟩
theorem af1:aX P (t52.gV [69]) Sl f48 Iu:=fun d=>by kernel_rfl
theorem af2:aY P Iu:=oT hm (yS.gV [69]) func48 (by kernel_rfl) af0 af1 (by kernel_rfl)
def t53:au:=t52.du Iu
theorem Sn:aw P t53:=yS.aW af2

def vt(d:List G):Option (List G) :=
 let g:=(gi (gi d 0).row 0).int-(gi (gi d 1).row 0).int; (bif (ao g) then some [.i g] else none)
def Iv:aH:=⟨49,[.s (.row [.int .i64,.int .i64]),.s (.row [.int .i64,.int .i64])],[],[],[ad],[],[],[],vt⟩
theorem af3:aX P t53 aA f49 Iv:=fun d=>by kernel_rfl
theorem Sp:aY P Iv:=aV hm Sn func49 (aO _ _ _) af3
def t54:au:=t53.br Iv
theorem af4:aw P t54:=Sn.aP Sp

def yT(d:List G):Option (List G) :=
 sk vt d
def yU:aH:=⟨32,[.s (.vec 0 2),.s (.fn 49)],[.vec [.int .i64,.int .i64] 0],[.slot 0],[],[.vec [.int .i64,.int .i64] 0],[.fix 0],[],yT⟩
theorem af5:∀ d r,yT d=some r->dn P 32 (yU.args0 d) (ah (yU.H0 d)) (yU.out r) (ah (yU.H1 r)):=fun d r h=>Pn Tryz.PL [.int .i64,.int .i64] (by kernel_rfl) Tryz.isAgg53 Tryz.sizeOf53 49 (by kernel_rfl) vt (fun d r h=>Sp d r h) d r h
def t55:au:=t54.du yU
theorem Iw:aw P t55:=af4.aW af5

def CR(r d:List G):Option (List G) :=
 (ar (CQ [.l (gi d 1).rows,.l (gi d 3).rows,.l (gi (gi r 1).row 0).rows,.l (gi (cS [.str,.int .i64] (gi d 4).rows (aT [.str,.int .i64] (gi r 0).row) [.l []]) 0).rows,.i (gi d 7).int,.l []]) fun g3=>let g:=(gi d 6).rows++(gi g3 6).rows; (bif ((ai (gi d 6).rows.length (gi d 6).rows.length)&&(decide (((gi d 6).rows.length+(gi g3 6).rows.length)<=1048576))) then (bif ((ai g.length g.length)&&true) then some [.s (gi d 0).str,.l (gi d 1).rows,.s (gi d 2).str,.l (gi d 3).rows,.l (gi d 4).rows,.i (((gi d 5).int.toNat:Nat):Int),.l g,.i (gi d 7).int,.i (((gi d 8).int.toNat:Nat):Int)] else none) else none))
def af6(d:List G)(b:Nat):List G:=[.s (gi d 0).str,.l (gi d 1).rows,.s (gi d 2).str,.l (gi d 3).rows,.l (gi d 6).rows,.i (((gi d 7).int.toNat:Nat):Int),.l (gi d 8).rows,.i (gi d 9).int,.i (b:Int)]
def af7(d:List G)(b:Nat):Bool:=((ai (gi d 8).rows.length (gi d 8).rows.length)&&true)
def CS:iu:=⟨⟨48,QZ,QO⟩,[.slot 3,.slot 4,.slot 8,.slot 9],[],(.agg [.str,.int .i64]),(.one (.list [.int .i64])),2,0,23,24,25,26,27,fun d=>(gi d 8).int.toNat,af6,af7,CR⟩
theorem af8:oW P t55 aA 0 CS (sc (cutAt f26 3)) (uT (cutAt f26 3)):=fun r d=>by kernel_rfl
def CT(d:List G):Option (Option Nat × List G) :=
 let g:=yT [.l (gi d 6).rows]; (lu (((ai (gi d 6).rows.length (gi d 6).rows.length)&&true)&&g.isSome) g fun g4=>(bif ((ai (gi d 6).rows.length (gi g4 0).rows.length)&&true) then some (some 0,[.l (gi g4 0).rows]) else none))
def Sq:bq:=⟨8,[],⟨48,QZ,QO⟩,[],[⟨.ret,⟨48,[(6,.s (.vec 0 2))],Cw⟩,[.slot 6]⟩],CT⟩
theorem af9:gx P t55 aA 0 (uS (cutAt f26 3)) Sq:=fun d=>by kernel_rfl
def Ix(d:List G):Option (Option Nat × List G) :=
 lv CS CT (gi d 4).rows ((gi d 5).int.toNat) d
def Iy:bq:=⟨3,[(9,[.int .i64,.int .i64])],⟨48,[(2,ad),(3,.s (.ptr 0 0)),(4,.s (.ptr 1 0)),(7,.s (.map 2)),(8,.s (.map 3)),(9,.s (.vec 4 2))],[.box [.str,.list aq],.box [.str,.list aq],.map (.agg [.str,.int .i64]) (.one (.list [.int .i64])),.map (.agg [.str,.int .i64]) (.one (.list [.int .i64])),.vec [.int .i64,.int .i64] 0]⟩,[.slot 3,.slot 4,.slot 7,.slot 8,.slot 9],[⟨.ret,⟨48,[(6,.s (.vec 0 2))],Cw⟩,[.slot 6]⟩],Ix⟩
def Sr:LT:=aA.eL 0 Iy
theorem af_:ay P 0 Sr (a6 f26):=ay.Cd (q:=Iy) (qr:=Sq) (sp:=CS) (r0:=3) (b0:=0) (r1:=4) (b1:=1) (r2:=5) (rows:=fun d=>(gi d 4).rows) (clock:=fun d=>(gi d 5).int.toNat) (pre:=fun d=>Cc P t55 (qo (cutAt f26 3)) (bH Iy.inv d)) hm Iw (by kernel_rfl) (aO _ _ _) (by kernel_rfl) (by kernel_rfl) af8 (fun d=>by kernel_rfl) (fun d=>by kernel_rfl) (fun d=>by kernel_rfl) (fun d=>by kernel_rfl) (fun d=>by kernel_rfl) (fun d=>by kernel_rfl) (fun d b=>by kernel_rfl) (fun d b=>rfl) rfl rfl af9 (fun d=>rfl)
def yV(d:List G):Option (List G) :=
 (ar (sI [.l (gi (gi d 0).row 1).rows,.s (gi (gi d 1).row 0).str]) fun g1=>(ar (sI [.l (gi (gi d 1).row 1).rows,.s (gi (gi d 0).row 0).str]) fun g2=>(aR true (cG (Ix [.s (gi (gi d 0).row 0).str,.l (gi (gi d 0).row 1).rows,.s (gi (gi d 1).row 0).str,.l (gi (gi d 1).row 1).rows,.l (gi g1 0).rows,.i (((gi g1 1).int.toNat:Nat):Int),.l (gi g2 0).rows,.i (((gi g2 1).int.toNat:Nat):Int),.l [],.i (gi d 2).int])) fun g g5=>(bif ((ai (gi g5 0).rows.length (gi g5 0).rows.length)&&true) then some [.l (gi g5 0).rows] else none))))
def Iz:aH:=⟨26,[gz,gz,ad],[],[],[.s (.list [.int .i64,.int .i64])],[],[],[],yV⟩
theorem af':aX P t55 Sr f26 Iz:=fun d=>by kernel_rfl
theorem aga:aY P Iz:=aV hm Iw func26 af_ af'
def t56:au:=t55.br Iz
theorem Ss:aw P t56:=Iw.aP aga

def vu(d:List G):Option (List G) :=
 let g:=aT [.str,.list aq] (gi d 0).row; let z2:=aT [.str,.list aq] (gi d 1).row; (ar (vm [.l [g],.l [z2],.i (gi d 2).int]) fun g1=>(bif ((gi g1 0).int != 0) then some [.l [],.i (gi g1 0).int] else (ar (yV [.l [g],.l [z2],.i (gi d 2).int]) fun g2=>some [.l (gi g2 0).rows,.i 0])))
def IA:aH:=⟨12,[gz,gz,ad],[],[],[.s (.list [.int .i64,.int .i64]),ad],[],[],[],vu⟩
theorem agb:aX P t56 aA f12 IA:=fun d=>by kernel_rfl
theorem agc:aY P IA:=aV hm Ss func12 (aO _ _ _) agb
def t57:au:=t56.br IA
theorem agd:aw P t57:=Ss.aP agc

def yW(d:List G):Option (List G) :=
 Cg d
def yX:aH:=⟨51,[.s (.vec 0 1)],[.vec [.int .i64] 0],[.slot 0],[],[.vec [.int .i64] 0],[.fix 0],[],yW⟩
theorem age:∀ d r,yW d=some r->dn P 51 (yX.args0 d) (ah (yX.H0 d)) (yX.out r) (ah (yX.H1 r)):=fun d r h=>abF Tryz.ace d r h
def t58:au:=t57.du yX
theorem yY:aw P t58:=agd.aW age

def vw(d:List G):Option (Option Nat × List G) :=
 let z2:=ai (gi d 6).rows.length (gi d 6).rows.length; let z4:=(((gi d 11).int.toNat:Nat):Int); let z5:=(((gi d 5).int.toNat:Nat):Int); let k:=gi ((gi d 15).rows.getD (((gi d 17).int).toNat) []) 0; let q:=(gi ((gi d 1).rows.getD (((gi d 10).int).toNat) []) 0).int-(gi ((gi d 3).rows.getD ((k.int).toNat) []) 0).int; let z3:=((gi d 6).rows++([[.i q]]:List (List G))); let g:=(gi d 17).int+1; (bif (aj (gi d 17).int (gi d 16).int) then (bif ((az (gi d 17).int)&&(aj (gi d 17).int (((gi d 15).rows.length:Nat):Int))) then (bif ((az (gi d 10).int)&&(aj (gi d 10).int (((gi d 1).rows.length:Nat):Int))) then (bif ((az k.int)&&(aj k.int (((gi d 3).rows.length:Nat):Int))) then (bif (ao q) then (bif (ao (0-(gi d 9).int)) then (ar (m_ [.i q,.i (0-(gi d 9).int),.i (gi d 9).int]) fun g3=>(bif (!(gi g3 0).bool) then (bif (z2&&(decide (((gi d 6).rows.length+1)<=1048576))) then (bif (ao g) then (bif ((ai z3.length z3.length)&&true) then some (none,[.s (gi d 0).str,.l (gi d 1).rows,.s (gi d 2).str,.l (gi d 3).rows,.l (gi d 4).rows,.i z5,.l z3,.s (gi d 7).str,.i (gi d 8).int,.i (gi d 9).int,.i (gi d 10).int,.i z4,.l (gi d 12).rows,.i (gi d 13).int,.i (gi d 14).int,.l (gi d 15).rows,.i (gi d 16).int,.i g]) else none) else none) else none) else (bif (ao g) then (bif (z2&&true) then some (none,[.s (gi d 0).str,.l (gi d 1).rows,.s (gi d 2).str,.l (gi d 3).rows,.l (gi d 4).rows,.i z5,.l (gi d 6).rows,.s (gi d 7).str,.i (gi d 8).int,.i (gi d 9).int,.i (gi d 10).int,.i z4,.l (gi d 12).rows,.i (gi d 13).int,.i (gi d 14).int,.l (gi d 15).rows,.i (gi d 16).int,.i g]) else none) else none))) else none) else none) else none) else none) else none) else (bif (z2&&true) then some (some 0,[.s (gi d 0).str,.l (gi d 1).rows,.s (gi d 2).str,.l (gi d 3).rows,.l (gi d 4).rows,.i z5,.l (gi d 6).rows,.s (gi d 7).str,.i (gi d 8).int,.i (gi d 9).int,.i z4,.l (gi d 12).rows,.i (gi d 13).int,.i (gi d 14).int]) else none))
def Su:bq:=⟨10,[],⟨76,[(2,ad),(3,.s (.ptr 0 0)),(4,.s (.ptr 1 0)),(8,.s (.map 2)),(9,.s (.vec 3 1)),(10,.s (.ptr 4 0)),(13,ad),(28,sx),(34,fj),(35,ad),(36,ad),(42,fj),(43,ad),(44,ad)],Hh⟩,[.slot 3,.slot 4,.slot 8,.slot 9,.slot 10],[⟨.exit 4,⟨76,Q0,Hh⟩,[.slot 3,.slot 4,.slot 8,.slot 9,.slot 10]⟩],vw⟩
theorem agf:cA P t58 aA 0 (cF f27 10) Su:=fun d=>by kernel_rfl
def IB:LT:=aA.add 0 Su
theorem agh:ay P 0 IB (a6 f27):=ay.a hm yY (aO _ _ _) agf
def vz(d:List G):Option (Option Nat × List G) :=
 let g:=gi (cS [.str,.int .i64] (gi d 4).rows [.s (gi d 7).str,.i (gi d 8).int] [.l []]) 0; let z2:=(ai (gi d 6).rows.length (gi d 6).rows.length)&&true; let z3:=(((gi d 10).int.toNat:Nat):Int); let z4:=(((gi d 5).int.toNat:Nat):Int); (bif (aj (gi d 13).int (gi d 12).int) then (bif ((az (gi d 13).int)&&(aj (gi d 13).int (((gi d 11).rows.length:Nat):Int))) then (aR z2 (bV vw [.s (gi d 0).str,.l (gi d 1).rows,.s (gi d 2).str,.l (gi d 3).rows,.l (gi d 4).rows,.i z4,.l (gi d 6).rows,.s (gi d 7).str,.i (gi d 8).int,.i (gi d 9).int,.i (gi ((gi d 11).rows.getD (((gi d 13).int).toNat) []) 0).int,.i z3,.l (gi d 11).rows,.i (gi d 12).int,.i (gi d 13).int,.l g.rows,.i ((g.rows.length:Nat):Int),.i 0]) fun k g4=>(bif (ao ((gi g4 13).int+1)) then (bif ((ai (gi g4 6).rows.length (gi g4 6).rows.length)&&true) then some (none,[.s (gi g4 0).str,.l (gi g4 1).rows,.s (gi g4 2).str,.l (gi g4 3).rows,.l (gi g4 4).rows,.i (((gi g4 5).int.toNat:Nat):Int),.l (gi g4 6).rows,.s (gi g4 7).str,.i (gi g4 8).int,.i (gi g4 9).int,.i (((gi g4 10).int.toNat:Nat):Int),.l (gi g4 11).rows,.i (gi g4 12).int,.i ((gi g4 13).int+1)]) else none) else none)) else none) else (bif z2 then some (some 0,[.s (gi d 0).str,.l (gi d 1).rows,.s (gi d 2).str,.l (gi d 3).rows,.l (gi d 4).rows,.i z4,.l (gi d 6).rows,.i (gi d 9).int,.i z3]) else none))
def Sv:bq:=⟨7,[],⟨76,Q0,Hh⟩,[.slot 3,.slot 4,.slot 8,.slot 9,.slot 10],[⟨.exit 2,⟨76,Hn,Hk⟩,[.slot 3,.slot 4,.slot 8,.slot 9]⟩],vz⟩
theorem agi:cA P t58 IB 0 (cF f27 7) Sv:=fun d=>by kernel_rfl
def CU:LT:=IB.add 0 Sv
theorem agj:ay P 0 CU (a6 f27):=ay.a hm yY agh agi
def CV(r d:List G):Option (List G) :=
 (aR ((ai (gi d 6).rows.length (gi d 6).rows.length)&&true) (bV vz [.s (gi d 0).str,.l (gi d 1).rows,.s (gi d 2).str,.l (gi d 3).rows,.l (gi d 4).rows,.i (((gi d 5).int.toNat:Nat):Int),.l (gi d 6).rows,.s (gi (gi r 0).row 0).str,.i (gi (gi r 0).row 1).int,.i (gi d 7).int,.i (((gi d 8).int.toNat:Nat):Int),.l (gi (gi r 1).row 0).rows,.i (((gi (gi r 1).row 0).rows.length:Nat):Int),.i 0]) fun g g5=>(bif ((ai (gi g5 6).rows.length (gi g5 6).rows.length)&&true) then some [.s (gi g5 0).str,.l (gi g5 1).rows,.s (gi g5 2).str,.l (gi g5 3).rows,.l (gi g5 4).rows,.i (((gi g5 5).int.toNat:Nat):Int),.l (gi g5 6).rows,.i (gi g5 7).int,.i (((gi g5 8).int.toNat:Nat):Int)] else none))
def agk(d:List G)(b:Nat):List G:=[.s (gi d 0).str,.l (gi d 1).rows,.s (gi d 2).str,.l (gi d 3).rows,.l (gi d 6).rows,.i (((gi d 7).int.toNat:Nat):Int),.l (gi d 8).rows,.i (gi d 9).int,.i (b:Int)]
def agl(d:List G)(b:Nat):Bool:=((ai (gi d 8).rows.length (gi d 8).rows.length)&&true)
def CW:iu:=⟨⟨76,Hn,Hk⟩,[.slot 3,.slot 4,.slot 8,.slot 9],[],(.agg [.str,.int .i64]),(.one (.list [.int .i64])),2,0,27,28,29,30,31,fun d=>(gi d 8).int.toNat,agk,agl,CV⟩
theorem agm:oW P t58 CU 0 CW (sc (cutAt f27 3)) (uT (cutAt f27 3)):=fun r d=>by kernel_rfl
def CX(d:List G):Option (Option Nat × List G) :=
 let g:=yW [.l (gi d 6).rows]; (lu (((ai (gi d 6).rows.length (gi d 6).rows.length)&&true)&&g.isSome) g fun g6=>(bif ((ai (gi d 6).rows.length (gi g6 0).rows.length)&&true) then some (some 0,[.l (gi g6 0).rows]) else none))
def Sw:bq:=⟨17,[],⟨76,Hn,Hk⟩,[],[⟨.ret,⟨76,[(6,.s (.vec 0 1))],[.vec [.int .i64] 0]⟩,[.slot 6]⟩],CX⟩
theorem agn:gx P t58 CU 0 (uS (cutAt f27 3)) Sw:=fun d=>by kernel_rfl
def IC(d:List G):Option (Option Nat × List G) :=
 lv CW CX (gi d 4).rows ((gi d 5).int.toNat) d
def ID:bq:=⟨3,[(9,[.int .i64])],⟨76,[(2,ad),(3,.s (.ptr 0 0)),(4,.s (.ptr 1 0)),(7,.s (.map 2)),(8,.s (.map 3)),(9,.s (.vec 4 1))],[.box [.str,.list aq],.box [.str,.list aq],.map (.agg [.str,.int .i64]) (.one (.list [.int .i64])),.map (.agg [.str,.int .i64]) (.one (.list [.int .i64])),.vec [.int .i64] 0]⟩,[.slot 3,.slot 4,.slot 7,.slot 8,.slot 9],[⟨.ret,⟨76,[(6,.s (.vec 0 1))],[.vec [.int .i64] 0]⟩,[.slot 6]⟩],IC⟩
def Sx:LT:=CU.eL 0 ID
theorem ago:ay P 0 Sx (a6 f27):=ay.Cd (q:=ID) (qr:=Sw) (sp:=CW) (r0:=3) (b0:=0) (r1:=4) (b1:=1) (r2:=5) (rows:=fun d=>(gi d 4).rows) (clock:=fun d=>(gi d 5).int.toNat) (pre:=fun d=>Cc P t58 (qo (cutAt f27 3)) (bH ID.inv d)) hm yY (by kernel_rfl) agj (by kernel_rfl) (by kernel_rfl) agm (fun d=>by kernel_rfl) (fun d=>by kernel_rfl) (fun d=>by kernel_rfl) (fun d=>by kernel_rfl) (fun d=>by kernel_rfl) (fun d=>by kernel_rfl) (fun d b=>by kernel_rfl) (fun d b=>rfl) rfl rfl agn (fun d=>rfl)
def CY(d:List G):Option (List G) :=
 (ar (sI [.l (gi (gi d 0).row 1).rows,.s (gi (gi d 1).row 0).str]) fun g1=>(ar (sI [.l (gi (gi d 1).row 1).rows,.s (gi (gi d 0).row 0).str]) fun g2=>(aR true (cG (IC [.s (gi (gi d 0).row 0).str,.l (gi (gi d 0).row 1).rows,.s (gi (gi d 1).row 0).str,.l (gi (gi d 1).row 1).rows,.l (gi g1 0).rows,.i (((gi g1 1).int.toNat:Nat):Int),.l (gi g2 0).rows,.i (((gi g2 1).int.toNat:Nat):Int),.l [],.i (gi d 2).int])) fun g g7=>(bif ((ai (gi g7 0).rows.length (gi g7 0).rows.length)&&true) then some [.l (gi g7 0).rows] else none))))
def IE:aH:=⟨27,[gz,gz,ad],[],[],[fj],[],[],[],CY⟩
theorem agp:aX P t58 Sx f27 IE:=fun d=>by kernel_rfl
theorem agq:aY P IE:=aV hm yY func27 ago agp
def t59:au:=t58.br IE
theorem CZ:aw P t59:=yY.aP agq

def yZ(d:List G):Option (Option Nat × List G) :=
 let g:=(((gi d 0).rows.length:Nat):Int); (bif (aj (gi d 3).int g) then (bif ((az (gi d 3).int)&&(aj (gi d 3).int g)) then (bif (aj 0 g) then (bif ((gi ((gi d 0).rows.getD (((gi d 3).int).toNat) []) 0).int==(gi ((gi d 0).rows.getD 0 []) 0).int) then (bif (ao ((gi d 3).int+1)) then some (none,[.l (gi d 0).rows,.i (gi d 1).int,.i (gi d 2).int,.i ((gi d 3).int+1)]) else none) else some (some 0,[.l (gi d 0).rows,.i (gi d 1).int,.i (gi d 2).int,.i (gi d 3).int])) else none) else none) else some (some 0,[.l (gi d 0).rows,.i (gi d 1).int,.i (gi d 2).int,.i (gi d 3).int]))
def Sy:bq:=⟨8,[],⟨74,Q1,[]⟩,[],[⟨.exit 2,⟨74,Q1,[]⟩,[]⟩],yZ⟩
theorem agr:cA P t59 aA 0 (cF f13 8) Sy:=fun d=>by kernel_rfl
def IF:LT:=aA.add 0 Sy
theorem ags:ay P 0 IF (a6 f13):=ay.a hm CZ (aO _ _ _) agr
def y8(d:List G):Option (Option Nat × List G) :=
 (bif (aj 0 (((gi d 0).rows.length:Nat):Int)) then (aR true (bV yZ [.l (gi d 0).rows,.i (gi d 1).int,.i (gi d 2).int,.i 1]) fun k g3=>let g:=((az (gi g3 3).int)&&(aZ (gi g3 3).int (((gi g3 0).rows.length:Nat):Int))); let z2:=gi ((gi g3 0).rows.getD 0 []) 0; let z3:=(gi g3 0).rows.drop (((gi g3 3).int).toNat); let z4:=0-(gi g3 1).int; (bif (aj 0 (((gi g3 0).rows.length:Nat):Int)) then (bif (aj (gi g3 2).int (gi g3 3).int) then (bif g then some (none,[.l z3,.i z2.int,.i (gi g3 3).int]) else none) else (bif ((gi g3 3).int==(gi g3 2).int) then (bif (ao (0-z2.int)) then (bif (ao z4) then (bif (aj (if (0-z2.int)>z2.int then (0-z2.int) else z2.int) (if z4>(gi g3 1).int then z4 else (gi g3 1).int)) then (bif g then some (none,[.l z3,.i z2.int,.i (gi g3 3).int]) else none) else (bif g then some (none,[.l z3,.i (gi g3 1).int,.i (gi g3 2).int]) else none)) else none) else none) else (bif g then some (none,[.l z3,.i (gi g3 1).int,.i (gi g3 2).int]) else none))) else none)) else some (some 0,[.i (gi d 1).int,.i (gi d 2).int]))
def Sz:bq:=⟨6,[],⟨74,[(10,fj),(11,ad),(12,ad)],[]⟩,[],[⟨.exit 0,⟨74,[(11,ad),(12,ad)],[]⟩,[]⟩],y8⟩
theorem agt:cA P t59 IF 0 (cF f13 6) Sz:=fun d=>by kernel_rfl
def SA:LT:=IF.add 0 Sz
theorem agu:ay P 0 SA (a6 f13):=ay.a hm CZ ags agt
def vD(d:List G):Option (List G) :=
 let g:=aT [.str,.list aq] (gi d 0).row; let z2:=aT [.str,.list aq] (gi d 1).row; (ar (vm [.l [g],.l [z2],.i (gi d 2).int]) fun g1=>(bif ((gi g1 0).int != 0) then some [.i 0,.i 0,.i (gi g1 0).int] else (ar (CY [.l [g],.l [z2],.i (gi d 2).int]) fun g2=>(aR true (bV y8 [.l (gi g2 0).rows,.i 0,.i 0]) fun k g4=>some [.i (gi g4 0).int,.i (gi g4 1).int,.i 0]))))
def IG:aH:=⟨13,[gz,gz,ad],[],[],[ad,ad,ad],[],[],[],vD⟩
theorem agv:aX P t59 SA f13 IG:=fun d=>by kernel_rfl
theorem agw:aY P IG:=aV hm CZ func13 agu agv
def t60:au:=t59.br IG
theorem SB:aw P t60:=CZ.aP agw

def y9(d:List G):Option (List G) :=
 (ar (G8 [.s (gi d 0).str]) fun g1=>some [.t (gi g1 1).bool])
def IH:aH:=⟨38,[cO],[],[],[dj],[],[],[],y9⟩
theorem agx:aX P t60 aA f38 IH:=fun d=>by kernel_rfl
theorem agy:aY P IH:=aV hm SB func38 (aO _ _ _) agx
def t61:au:=t60.br IH
theorem SC:aw P t61:=SB.aP agy

def oZ(d:List G):Option (List G) :=
 (bif (aZ (gi d 1).int (gi d 0).int) then some [.t (aZ (gi d 0).int (gi d 2).int)] else some [.t false])
def II:aH:=⟨55,[ad,ad,ad],[],[],[dj],[],[],[],oZ⟩
theorem agz:aX P t61 aA f55 II:=fun d=>by kernel_rfl
theorem agA:aY P II:=aV hm SC func55 (aO _ _ _) agz
def t62:au:=t61.br II
theorem SD:aw P t62:=SC.aP agA

def IJ(d:List G):Option (List G) :=
 (ar (oZ [.i (gi d 0).int,.i 0,.i 345686399999]) fun g1=>some [.t (gi g1 0).bool])
def IK:aH:=⟨112,[ad],[],[],[dj],[],[],[],IJ⟩
theorem agB:aX P t62 aA f112 IK:=fun d=>by kernel_rfl
theorem agC:aY P IK:=aV hm SD func112 (aO _ _ _) agB
def t63:au:=t62.br IK
theorem IL:aw P t63:=SD.aP agC

def SE(d:List G):Option (Option Nat × List G) :=
 (bif (aj (gi d 3).int (gi d 2).int) then (bif ((az (gi d 3).int)&&(aj (gi d 3).int (((gi d 0).str.size:Nat):Int))) then (ar (Cr [.s (gi d 1).str,.i (((gi d 0).str.data.toList.getD (((gi d 3).int).toNat) 0).toNat:Int)]) fun g1=>(bif (aj (gi g1 0).int 0) then some (some 0,[.t false]) else (bif (ao ((gi d 3).int+1)) then some (none,[.s (gi d 0).str,.s (gi d 1).str,.i (gi d 2).int,.i ((gi d 3).int+1)]) else none))) else none) else some (some 1,[]))
def SF:bq:=⟨2,[],⟨18,[(0,cO),(1,cO),(7,ad),(8,ad)],[]⟩,[],[⟨.ret,⟨18,[(4,dj)],[]⟩,[]⟩,⟨.exit 0,⟨18,[],[]⟩,[]⟩],SE⟩
theorem agD:cA P t63 aA 0 (cF f147 2) SF:=fun d=>by kernel_rfl
def SG:LT:=aA.add 0 SF
theorem agE:ay P 0 SG (a6 f147):=ay.a hm IL (aO _ _ _) agD
def IM(d:List G):Option (List G) :=
 (aR true (bV SE [.s (gi d 0).str,.s (gi d 1).str,.i (((gi d 0).str.size:Nat):Int),.i 0]) fun g g2=>(bif ai g 0 then some [.t (gi g2 0).bool] else some [.t true]))
def IN:aH:=⟨147,[cO,cO],[],[],[dj],[],[],[],IM⟩
theorem agF:aX P t63 SG f147 IN:=fun d=>by kernel_rfl
theorem agG:aY P IN:=aV hm IL func147 agE agF
def t64:au:=t63.br IN
theorem SH:aw P t64:=IL.aP agG

def y_(d:List G):Option (List G) :=
 let g:=(((gi d 0).str.size:Nat):Int); (ar (oZ [.i g,.i 1,.i 40]) fun g1=>(bif (gi g1 0).bool then (bif (aZ 1 g) then (ar (IM [.s ((gi d 0).str.extract 0 1),.s (⟨#[97,98,99,100,101,102,103,104,105,106,107,108,109,110,111,112,113,114,115,116,117,118,119,120,121,122]⟩:ByteArray)]) fun g2=>(bif (gi g2 0).bool then (ar (IM [.s (gi d 0).str,.s (⟨#[97,98,99,100,101,102,103,104,105,106,107,108,109,110,111,112,113,114,115,116,117,118,119,120,121,122,48,49,50,51,52,53,54,55,56,57,45,95]⟩:ByteArray)]) fun g3=>some [.t (gi g3 0).bool]) else some [.t false])) else none) else some [.t false]))
def IP:aH:=⟨113,[cO],[],[],[dj],[],[],[],y_⟩
theorem agH:aX P t64 aA f113 IP:=fun d=>by kernel_rfl
theorem agI:aY P IP:=aV hm SH func113 (aO _ _ _) agH
def t65:au:=t64.br IP
theorem SI:aw P t65:=SH.aP agI

def C0(d:List G):Option (List G) :=
 let g:=(!((gi (gi d 0).row 7).str.toList==(⟨#[]⟩:ByteArray).toList)); let z2:=y_ [.s (gi (gi d 0).row 7).str]; (ar (IJ [.i (gi (gi d 0).row 0).int]) fun g1=>(bif (!(gi g1 0).bool) then some [.i 1] else (ar (oZ [.i (gi (gi d 0).row 1).int,.i 1,.i 3]) fun g2=>(bif (!(gi g2 0).bool) then some [.i 4] else (ar (y_ [.s (gi (gi d 0).row 2).str]) fun g3=>(bif (!(gi g3 0).bool) then some [.i 5] else (ar (y9 [.s (gi (gi d 0).row 3).str]) fun g4=>(bif (!(gi g4 0).bool) then some [.i 3] else (ar (oZ [.i (gi (gi d 0).row 4).int,.i 0,.i 99999]) fun g5=>(bif (!(gi g5 0).bool) then some [.i 1] else (ar (oZ [.i (gi (gi d 0).row 5).int,.i 0,.i 99999]) fun g6=>(bif (!(gi g6 0).bool) then some [.i 1] else (bif (!((gi (gi d 0).row 6).str.toList==(⟨#[]⟩:ByteArray).toList)) then (ar (y_ [.s (gi (gi d 0).row 6).str]) fun g7=>(bif (!(gi g7 0).bool) then some [.i 5] else (bif g then (ar z2 fun g8=>(bif (!(gi g8 0).bool) then some [.i 5] else some [.i 0])) else some [.i 0]))) else (bif g then (ar z2 fun g9=>(bif (!(gi g9 0).bool) then some [.i 5] else some [.i 0])) else some [.i 0]))))))))))))))
def IQ:aH:=⟨71,[.s (.row aq)],[],[],[ad],[],[],[],C0⟩
theorem agJ:aX P t65 aA f71 IQ:=fun d=>by kernel_rfl
theorem agK:aY P IQ:=aV hm SI func71 (aO _ _ _) agJ
def t66:au:=t65.br IQ
theorem IS:aw P t66:=SI.aP agK

def SJ(d:List G):Option (Option Nat × List G) :=
 let g:=aT aq ((gi d 1).rows.getD (((gi d 3).int).toNat) []); let z2:=(gi d 3).int-1; let z3:=(gi d 3).int+1; (bif (aj (gi d 3).int (gi d 2).int) then (bif ((az (gi d 3).int)&&(aj (gi d 3).int (((gi d 1).rows.length:Nat):Int))) then (ar (C0 [.l [g]]) fun g1=>(bif ((gi g1 0).int != 0) then some (some 0,[.i (gi g1 0).int]) else (bif (aj 0 (gi d 3).int) then (bif (ao z2) then (bif ((az z2)&&(aj z2 (((gi d 0).rows.length:Nat):Int))) then (ar (sD [.l [(aT aq ((gi d 0).rows.getD (z2.toNat) []))],.l [g]]) fun g2=>(bif (aZ 0 (gi g2 0).int) then some (some 0,[.i 7]) else (bif (ao z3) then some (none,[.l (gi d 0).rows,.l (gi d 1).rows,.i (gi d 2).int,.i z3]) else none))) else none) else none) else (bif (ao z3) then some (none,[.l (gi d 0).rows,.l (gi d 1).rows,.i (gi d 2).int,.i z3]) else none)))) else none) else some (some 1,[]))
def SL:bq:=⟨4,[],⟨34,QW,[]⟩,[],[⟨.ret,⟨34,yG,[]⟩,[]⟩,⟨.exit 0,⟨34,[],[]⟩,[]⟩],SJ⟩
theorem agL:cA P t66 aA 0 (cF f52 4) SL:=fun d=>by kernel_rfl
def SM:LT:=aA.add 0 SL
theorem agM:ay P 0 SM (a6 f52):=ay.a hm IS (aO _ _ _) agL
def IT(d:List G):Option (List G) :=
 let g:=(((gi d 0).rows.length:Nat):Int); (bif (aj 2000 g) then some [.i 2] else (aR true (bV SJ [.l (gi d 0).rows,.l (gi d 0).rows,.i g,.i 0]) fun k g3=>(bif ai k 0 then some [.i (gi g3 0).int] else some [.i 0])))
def IU:aH:=⟨52,[gL],[],[],[ad],[],[],[],IT⟩
theorem agN:aX P t66 SM f52 IU:=fun d=>by kernel_rfl
theorem agO:aY P IU:=aV hm IS func52 agM agN
def t67:au:=t66.br IU
theorem SN:aw P t67:=IS.aP agO

def C1(d:List G):Option (List G) :=
 some [.t ((gi (gi d 0).row 3).str.toList==(gi (gi d 1).row 0).str.toList)]
def IV:aH:=⟨54,[.s (.row aq),.s (.cptr [.str,.list aq])],[],[],[dj],[],[],[],C1⟩
theorem agP:aX P t67 aA f54 IV:=fun d=>by kernel_rfl
theorem agQ:aY P IV:=aV hm SN func54 (aO _ _ _) agP
def t68:au:=t67.br IV
theorem IW:aw P t68:=SN.aP agQ

def SO(d:List G):Option (Option Nat × List G) :=
 let g:=aT [.str,.list aq] (gi d 1).row; (bif (aj (gi d 3).int (gi d 2).int) then (bif ((az (gi d 3).int)&&(aj (gi d 3).int (((gi d 0).rows.length:Nat):Int))) then (ar (C1 [.l [(aT aq ((gi d 0).rows.getD (((gi d 3).int).toNat) []))],.l [g]]) fun g1=>(bif (gi g1 0).bool then some (some 0,[.i (gi d 3).int]) else (bif (ao ((gi d 3).int+1)) then some (none,[.l (gi d 0).rows,.l [g],.i (gi d 2).int,.i ((gi d 3).int+1)]) else none))) else none) else some (some 1,[]))
def SP:bq:=⟨2,[],⟨19,[(0,gL),(1,.clo 54 [.cptr [.str,.list aq]]),(7,ad),(8,ad)],[]⟩,[],[⟨.ret,⟨19,[(4,ad)],[]⟩,[]⟩,⟨.exit 0,⟨19,[],[]⟩,[]⟩],SO⟩
theorem agR:cA P t68 aA 0 (cF f72 2) SP:=fun d=>by kernel_rfl
def SQ:LT:=aA.add 0 SP
theorem agS:ay P 0 SQ (a6 f72):=ay.a hm IW (aO _ _ _) agR
def SR(d:List G):Option (List G) :=
 (aR true (bV SO [.l (gi d 0).rows,.l [(aT [.str,.list aq] (gi d 1).row)],.i (((gi d 0).rows.length:Nat):Int),.i 0]) fun g g2=>(bif ai g 0 then some [.i (gi g2 0).int] else some [.i (-1)]))
def IX:aH:=⟨72,[gL,.clo 54 [.cptr [.str,.list aq]]],[],[],[ad],[],[],[],SR⟩
theorem agT:aX P t68 SQ f72 IX:=fun d=>by kernel_rfl
theorem agU:aY P IX:=aV hm IW func72 agS agT
def t69:au:=t68.br IX
theorem SS:aw P t69:=IW.aP agU

def SU(d:List G):Option (List G) :=
 (ar (SR [.l (gi d 0).rows,.l [(aT [.str,.list aq] (gi d 1).row)]]) fun g1=>some [.t (aZ 0 (gi g1 0).int)])
def IY:aH:=⟨53,[gL,.clo 54 [.cptr [.str,.list aq]]],[],[],[dj],[],[],[],SU⟩
theorem agV:aX P t69 aA f53 IY:=fun d=>by kernel_rfl
theorem agW:aY P IY:=aV hm SS func53 (aO _ _ _) agV
def t70:au:=t69.br IY
theorem SV:aw P t70:=SS.aP agW

def za(d:List G):Option (List G) :=
 (ar (y9 [.s (gi (gi d 0).row 0).str]) fun g1=>(bif (!(gi g1 0).bool) then some [.i 3] else (ar (IT [.l (gi (gi d 0).row 1).rows]) fun g2=>(bif ((gi g2 0).int != 0) then some [.i (gi g2 0).int] else (ar (SU [.l (gi (gi d 0).row 1).rows,.l [(aT [.str,.list aq] (gi d 0).row)]]) fun g3=>(bif (gi g3 0).bool then some [.i 6] else some [.i 0]))))))
def IZ:aH:=⟨28,[gz],[],[],[ad],[],[],[],za⟩
theorem agX:aX P (t70.gV [53]) aA f28 IZ:=fun d=>by kernel_rfl
theorem agY:aY P IZ:=oT hm (SV.gV [53]) func28 (by kernel_rfl) (aO _ _ _) agX (by kernel_rfl)
def t71:au:=t70.br IZ
theorem SX:aw P t71:=SV.aP agY

def C2(d:List G):Option (List G) :=
 (ar (oZ [.i (gi d 0).int,.i 0,.i 3600000]) fun g1=>(bif (!(gi g1 0).bool) then some [.i 1] else some [.i 0]))
def I0:aH:=⟨29,[ad],[],[],[ad],[],[],[],C2⟩
theorem agZ:aX P t71 aA f29 I0:=fun d=>by kernel_rfl
theorem ag0:aY P I0:=aV hm SX func29 (aO _ _ _) agZ
def t72:au:=t71.br I0
theorem I1:aw P t72:=SX.aP ag0

def I2(d:List G):Option (Option Nat × List G) :=
 (bif (aj (gi d 7).int (gi d 6).int) then (bif ((az (gi d 7).int)&&(aj (gi d 7).int (((gi d 5).rows.length:Nat):Int))) then (ar (za [.l [(aT [.str,.list aq] ((gi d 5).rows.getD (((gi d 7).int).toNat) []))]]) fun g1=>(bif ((gi g1 0).int != 0) then some (some 0,[.i (gi g1 0).int]) else (bif (ao ((gi d 7).int+1)) then some (none,[.s (gi d 0).str,.l (gi d 1).rows,.s (gi d 2).str,.l (gi d 3).rows,.i (gi d 4).int,.l (gi d 5).rows,.i (gi d 6).int,.i ((gi d 7).int+1)]) else none))) else none) else some (some 1,[.s (gi d 0).str,.l (gi d 1).rows,.s (gi d 2).str,.l (gi d 3).rows,.i (gi d 4).int]))
def SY:bq:=⟨2,[],⟨31,QX,yE⟩,[.slot 3,.slot 4],[⟨.ret,⟨31,[(6,ad)],[]⟩,[]⟩,⟨.exit 0,⟨31,[(2,ad),(3,.s (.ptr 0 0)),(4,.s (.ptr 1 0))],yE⟩,[.slot 3,.slot 4]⟩],I2⟩
theorem ag1:cA P t72 aA 0 (cF f14 2) SY:=fun d=>by kernel_rfl
def SZ:LT:=aA.add 0 SY
theorem ag2:ay P 0 SZ (a6 f14):=ay.a hm I1 (aO _ _ _) ag1
def C3(d:List G):Option (List G) :=
 (aR true (bV I2 [.s (gi (gi d 0).row 0).str,.l (gi (gi d 0).row 1).rows,.s (gi (gi d 1).row 0).str,.l (gi (gi d 1).row 1).rows,.i (gi d 2).int,.l [(aT [.str,.list aq] (gi d 0).row),(aT [.str,.list aq] (gi d 1).row)],.i 2,.i 0]) fun g g2=>(bif ai g 0 then some [.i (gi g2 0).int] else (bif ((gi g2 0).str.toList==(gi g2 2).str.toList) then some [.i 6] else (ar (C2 [.i (gi g2 4).int]) fun g3=>some [.i (gi g3 0).int]))))
def I3:aH:=⟨14,[gz,gz,ad],[],[],[ad],[],[],[],C3⟩
theorem ag3:aX P t72 SZ f14 I3:=fun d=>by kernel_rfl
theorem ag4:aY P I3:=aV hm I1 func14 ag2 ag3
def t73:au:=t72.br I3
theorem I4:aw P t73:=I1.aP ag4

def o9(d:List G):Option (Option Nat × List G) :=
 let g:=(((gi d 1).rows.length:Nat):Int); (bif (aj (gi d 4).int (gi d 3).int) then (bif ((az (gi d 4).int)&&(aj (gi d 4).int (((gi d 2).rows.length:Nat):Int))) then (bif (aZ g (gi d 4).int) then some (some 0,[.i 1]) else (bif ((az (gi d 4).int)&&(aj (gi d 4).int g)) then (ar (vj [.i (gi ((gi d 2).rows.getD (((gi d 4).int).toNat) []) 0).int,.i (gi ((gi d 1).rows.getD (((gi d 4).int).toNat) []) 0).int]) fun g1=>(bif ((gi g1 0).int != 0) then some (some 0,[.i (gi g1 0).int]) else (bif (ao ((gi d 4).int+1)) then some (none,[.l (gi d 0).rows,.l (gi d 1).rows,.l (gi d 2).rows,.i (gi d 3).int,.i ((gi d 4).int+1)]) else none))) else none)) else none) else some (some 1,[.l (gi d 0).rows,.l (gi d 1).rows]))
def S0:bq:=⟨2,[],⟨36,[(0,fj),(1,fj),(9,fj),(10,ad),(11,ad)],[]⟩,[],[⟨.ret,⟨36,[(4,ad)],[]⟩,[]⟩,⟨.exit 0,⟨36,[(0,fj),(1,fj)],[]⟩,[]⟩],o9⟩
theorem ag5:cA P t73 aA 0 (cF f76 2) S0:=fun d=>by kernel_rfl
def S1:LT:=aA.add 0 S0
theorem ag6:ay P 0 S1 (a6 f76):=ay.a hm I4 (aO _ _ _) ag5
def C5(d:List G):Option (List G) :=
 (aR true (bV o9 [.l (gi d 0).rows,.l (gi d 1).rows,.l (gi d 0).rows,.i (((gi d 0).rows.length:Nat):Int),.i 0]) fun g g2=>(bif ai g 0 then some [.i (gi g2 0).int] else (bif (aj (((gi g2 0).rows.length:Nat):Int) (((gi g2 1).rows.length:Nat):Int)) then some [.i (-1)] else some [.i 0])))
def I5:aH:=⟨76,[fj,fj],[],[],[ad],[],[],[],C5⟩
theorem ag7:aX P t73 S1 f76 I5:=fun d=>by kernel_rfl
theorem ag8:aY P I5:=aV hm I4 func76 ag6 ag7
def t74:au:=t73.br I5
theorem S2:aw P t74:=I4.aP ag8

def I6(d:List G):Option (List G) :=
 (ar (C5 [.l [[.i (gi (gi d 0).row 0).int],[.i (gi (gi d 0).row 1).int]],.l [[.i (gi (gi d 1).row 0).int],[.i (gi (gi d 1).row 1).int]]]) fun g1=>some [.i (gi g1 0).int])
def I7:aH:=⟨75,[.s (.row [.int .i64,.int .i64]),.s (.row [.int .i64,.int .i64])],[],[],[ad],[],[],[],I6⟩
theorem ag9:aX P t74 aA f75 I7:=fun d=>by kernel_rfl
theorem ag_:aY P I7:=aV hm S2 func75 (aO _ _ _) ag9
def t75:au:=t74.br I7
theorem I8:aw P t75:=S2.aP ag_

def sK(d:List G):Option (Option Nat × List G) :=
 let g:=(((gi d 1).rows.length:Nat):Int); (bif (aj (gi d 4).int (gi d 3).int) then (bif ((az (gi d 4).int)&&(aj (gi d 4).int (((gi d 2).rows.length:Nat):Int))) then (bif (aZ g (gi d 4).int) then some (some 0,[.i 1]) else (bif ((az (gi d 4).int)&&(aj (gi d 4).int g)) then (ar (I6 [.l [(aT [.int .i64,.int .i64] ((gi d 2).rows.getD (((gi d 4).int).toNat) []))],.l [(aT [.int .i64,.int .i64] ((gi d 1).rows.getD (((gi d 4).int).toNat) []))]]) fun g1=>(bif ((gi g1 0).int != 0) then some (some 0,[.i (gi g1 0).int]) else (bif (ao ((gi d 4).int+1)) then some (none,[.l (gi d 0).rows,.l (gi d 1).rows,.l (gi d 2).rows,.i (gi d 3).int,.i ((gi d 4).int+1)]) else none))) else none)) else none) else some (some 1,[.l (gi d 0).rows,.l (gi d 1).rows]))
def S3:bq:=⟨2,[],⟨39,[(0,.s (.list [.int .i64,.int .i64])),(1,.s (.list [.int .i64,.int .i64])),(2,.s (.fn 75)),(11,.s (.list [.int .i64,.int .i64])),(12,ad),(13,ad)],[]⟩,[],[⟨.ret,⟨39,[(6,ad)],[]⟩,[]⟩,⟨.exit 0,⟨39,[(0,.s (.list [.int .i64,.int .i64])),(1,.s (.list [.int .i64,.int .i64]))],[]⟩,[]⟩],sK⟩
theorem ag':cA P t75 aA 0 (cF f74 2) S3:=fun d=>by kernel_rfl
def S4:LT:=aA.add 0 S3
theorem aha:ay P 0 S4 (a6 f74):=ay.a hm I8 (aO _ _ _) ag'
def C6(d:List G):Option (List G) :=
 (aR true (bV sK [.l (gi d 0).rows,.l (gi d 1).rows,.l (gi d 0).rows,.i (((gi d 0).rows.length:Nat):Int),.i 0]) fun g g2=>(bif ai g 0 then some [.i (gi g2 0).int] else (bif (aj (((gi g2 0).rows.length:Nat):Int) (((gi g2 1).rows.length:Nat):Int)) then some [.i (-1)] else some [.i 0])))
def I9:aH:=⟨74,[.s (.list [.int .i64,.int .i64]),.s (.list [.int .i64,.int .i64]),.s (.fn 75)],[],[],[ad],[],[],[],C6⟩
theorem ahb:aX P t75 S4 f74 I9:=fun d=>by kernel_rfl
theorem ahc:aY P I9:=aV hm I8 func74 aha ahb
def t76:au:=t75.br I9
theorem S5:aw P t76:=I8.aP ahc

def vE(d:List G):Option (List G) :=
 let g:=(((gi (gi d 0).row 0).rows.length:Nat):Int); let z2:=(((gi (gi d 1).row 0).rows.length:Nat):Int); (bif (g != z2) then some [.t (aj z2 g)] else (bif ((gi (gi d 0).row 1).int != (gi (gi d 1).row 1).int) then some [.t (aj (gi (gi d 0).row 1).int (gi (gi d 1).row 1).int)] else (ar (C6 [.l (gi (gi d 0).row 0).rows,.l (gi (gi d 1).row 0).rows]) fun g1=>some [.t (aj (gi g1 0).int 0)])))
def I_:aH:=⟨57,[.s (.row [.list [.int .i64,.int .i64],.int .i64]),.s (.row [.list [.int .i64,.int .i64],.int .i64])],[],[],[dj],[],[],[],vE⟩
theorem ahd:aX P t76 aA f57 I_:=fun d=>by kernel_rfl
theorem ahe:aY P I_:=aV hm S5 func57 (aO _ _ _) ahd
def t77:au:=t76.br I_
theorem S6:aw P t77:=S5.aP ahe

def vF(d:List G):Option (List G) :=
 let g:=(gi d 0).int-(gi d 1).int; let z2:=(gi d 1).int-(gi d 0).int; (bif (ao g) then (bif (ao z2) then some [.i (if z2>g then z2 else g)] else none) else none)
def I':aH:=⟨35,[ad,ad],[],[],[ad],[],[],[],vF⟩
theorem ahf:aX P t77 aA f35 I':=fun d=>by kernel_rfl
theorem ahg:aY P I':=aV hm S6 func35 (aO _ _ _) ahf
def t78:au:=t77.br I'
theorem S7:aw P t78:=S6.aP ahg

def C7(d:List G):Option (List G) :=
 (bif ((gi (gi d 0).row 2).str.toList==(gi (gi d 1).row 2).str.toList) then (bif ((gi (gi d 0).row 1).int==(gi (gi d 1).row 1).int) then (ar (vF [.i (gi (gi d 0).row 0).int,.i (gi (gi d 1).row 0).int]) fun g1=>some [.t (aZ (gi g1 0).int (gi d 2).int)]) else some [.t false]) else some [.t false])
def Ja:aH:=⟨58,[.s (.row aq),.s (.row aq),ad],[],[],[dj],[],[],[],C7⟩
theorem ahh:aX P t78 aA f58 Ja:=fun d=>by kernel_rfl
theorem ahi:aY P Ja:=aV hm S7 func58 (aO _ _ _) ahh
def t79:au:=t78.br Ja
theorem zb:aw P t79:=S7.aP ahi

end
end Go.Proofs.iy
