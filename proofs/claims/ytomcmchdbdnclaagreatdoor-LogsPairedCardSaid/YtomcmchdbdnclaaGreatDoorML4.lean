/-
 What is proved: functions as functions on data. No condition.
-/
import Derived.Test.YtomcmchdbdnclaaGreatDoorML3
set_option linter.all false
open Go.Op renaming bytesLess->pk
open List renaming replicate->bQ
open Nat renaming beq->ai,blt->cC
namespace Go.Proofs.iy
open Go Go.AL Go.Proofs Tryz
noncomputable section
def zd(d:List G):Option (Option Nat × List G) :=
 let g:=((((gi d 9).rows.length:Nat):Int)+1); let z2:=(((gi d 11).int.toNat:Nat):Int); let z3:=(bQ (g.toNat) ([.l [],.i 0]:List G)); let z4:=(((gi d 7).int.toNat:Nat):Int); let z5:=0+((gi d 13).int).toNat; (bif (aj (gi d 13).int (gi d 12).int) then (bif (ao g) then (bif ((az g)&&((aZ g g)&&(aZ g 1048576))) then (bif ((az (gi d 13).int)&&(aj (gi d 13).int z2)) then (bif (((ai g.toNat z3.length)&&(cC 0 g.toNat))&&((ai z5 (gi d 6).rows.length)&&(cC z5 (gi d 7).int.toNat))) then (bif (ao ((gi d 13).int+1)) then some (none,[.s (gi d 0).str,.l (gi d 1).rows,.s (gi d 2).str,.l (gi d 3).rows,.l (gi d 4).rows,.i (gi d 5).int,.l ((gi d 6).rows++[[.l z3]]),.i z4,.l (gi d 8).rows,.l (gi d 9).rows,.i (gi d 10).int,.i z2,.i (gi d 12).int,.i ((gi d 13).int+1)]) else none) else none) else none) else none) else none) else some (some 0,[.s (gi d 0).str,.l (gi d 1).rows,.s (gi d 2).str,.l (gi d 3).rows,.l (gi d 4).rows,.i (gi d 5).int,.l (gi d 6).rows,.i z4,.l (gi d 8).rows,.l (gi d 9).rows,.i (gi d 10).int,.i z2]))
def S8:bq:=⟨3,[],⟨139,[(2,fj),(3,fj),(4,ad),(5,.s (.ptr 0 0)),(6,.s (.ptr 1 0)),(10,.s (.ptr 2 0)),(11,.s (.pre 3 1)),(26,ad),(27,ad)],yF⟩,[.slot 5,.slot 6,.slot 10,.slot 11],[⟨.exit 0,⟨139,[(2,fj),(3,fj),(4,ad),(5,.s (.ptr 0 0)),(6,.s (.ptr 1 0)),(10,.s (.ptr 2 0)),(11,.s (.pre 3 1))],yF⟩,[.slot 5,.slot 6,.slot 10,.slot 11]⟩],zd⟩
theorem ahj:cA P (t79.dL [2100040]) (aA.iU [(2,[.b_ 11 1]),(17,[.hole aq,.hole aq]),(20,[.hole [.list [.int .i64,.int .i64],.int .i64]])]) 0 (cF f31 3) S8:=fun d=>by kernel_rfl
def Jb:LT:=(aA.iU [(2,[.b_ 11 1]),(17,[.hole aq,.hole aq]),(20,[.hole [.list [.int .i64,.int .i64],.int .i64]])]).add 0 S8
theorem ahk:ay P 0 Jb (a6 f31):=ay.add hm (zb.dL [2100040]) (by kernel_rfl) (nM _) ahj
def ze(d:List G):Option (Option Nat × List G) :=
 let z5:=((gi d 13).int).toNat; let q:=(((gi d 11).int.toNat:Nat):Int); let k:=(gi d 13).int+1; let U:=gi ((gi d 8).rows.getD (((gi d 12).int).toNat) []) 0; let u:=(az (gi d 12).int)&&(aj (gi d 12).int q); let z12:=((az (gi d 12).int)&&(aj (gi d 12).int (((gi d 8).rows.length:Nat):Int))); let V:=((az (gi d 13).int)&&(aj (gi d 13).int (((gi d 9).rows.length:Nat):Int))); let N:=gi ((gi d 9).rows.getD z5 []) 0; let v:=(((gi d 7).int.toNat:Nat):Int); let g:=(gi d 13).int-1; let z20:=C7 [.l [(aT aq ((gi d 1).rows.getD ((U.int).toNat) []))],.l [(aT aq ((gi d 3).rows.getD ((N.int).toNat) []))],.i (gi d 10).int]; let z22:=vF [.i (gi ((gi d 1).rows.getD ((U.int).toNat) []) 0).int,.i (gi ((gi d 3).rows.getD ((N.int).toNat) []) 0).int]; let z23:=(gi d 12).int+1; let z3:=jv (gi d 6).rows (0+z23.toNat); let O:=cC (0+z23.toNat) (gi d 6).rows.length; let z21:=z3.getD (k.toNat) []; let M:=(([[.i U.int,.i N.int]]:List (List G))++(gi z21 0).rows); let z24:=((az N.int)&&(aj N.int (((gi d 3).rows.length:Nat):Int))); let z25:=((az U.int)&&(aj U.int (((gi d 1).rows.length:Nat):Int))); let z27:=(az z23)&&(aj z23 q); let z28:=decide ((1+(gi z21 0).rows.length)<=1048576); let z29:=((az k)&&(aj k ((z3.length:Nat):Int))); let y:=z3.getD z5 []; let z31:=(ai M.length M.length)&&true; let z32:=O&&(cC k.toNat z3.length); let z33:=0+((gi d 12).int).toNat; let z2:=jv (gi d 6).rows z33; let z4:=cC z33 (gi d 6).rows.length; let z9:=((az (gi d 13).int)&&(aj (gi d 13).int ((z2.length:Nat):Int))); let I:=z4&&(cC ((gi d 13).int).toNat z2.length); let z17:=(gi d 6).rows.set z33 [.l (z2.set z5 (dx [.list [.int .i64,.int .i64],.int .i64] (z2.getD z5 []) 0 [.l (gi y 0).rows,.i (gi y 1).int]))]; let z26:=z2.getD (k.toNat) []; let z16:=(gi d 6).rows.set z33 [.l (z2.set z5 (dx [.list [.int .i64,.int .i64],.int .i64] (z2.getD z5 []) 0 [.l (gi z26 0).rows,.i (gi z26 1).int]))]; (bif (aZ 0 (gi d 13).int) then (bif (ao z23) then (bif z27 then (bif O then (bif ((az (gi d 13).int)&&(aj (gi d 13).int ((z3.length:Nat):Int))) then (bif (O&&(cC ((gi d 13).int).toNat z3.length)) then (bif u then (bif z4 then (bif (ao k) then (bif ((az k)&&(aj k ((z2.length:Nat):Int))) then (bif (z4&&(cC k.toNat z2.length)) then (ar (vE [.l [[.l (gi z26 0).rows,.i (gi z26 1).int]],.l [[.l (gi y 0).rows,.i (gi y 1).int]]]) fun g2=>(bif (gi g2 0).bool then (bif z12 then (bif z25 then (bif V then (bif z24 then (ar z20 fun g3=>(bif (gi g3 0).bool then (bif (ao z23) then (bif z27 then (bif O then (bif (ao k) then (bif z29 then (bif z32 then (bif z12 then (bif V then (bif z28 then (ar z22 fun g4=>let W:=(gi z21 1).int+(gi g4 0).int; (bif (ao W) then (bif z31 then (ar (vE [.l [[.l M,.i W]],.l [[.l (gi z26 0).rows,.i (gi z26 1).int]]]) fun g5=>(bif (gi g5 0).bool then (bif u then (bif z4 then (bif z9 then (bif I then (bif (ao g) then some (none,[.s (gi d 0).str,.l (gi d 1).rows,.s (gi d 2).str,.l (gi d 3).rows,.l (gi d 4).rows,.i (gi d 5).int,.l ((gi d 6).rows.set z33 [.l (z2.set z5 (dx [.list [.int .i64,.int .i64],.int .i64] (z2.getD z5 []) 0 [.l M,.i W]))]),.i v,.l (gi d 8).rows,.l (gi d 9).rows,.i (gi d 10).int,.i q,.i (gi d 12).int,.i g]) else none) else none) else none) else none) else none) else (bif u then (bif z4 then (bif z9 then (bif I then (bif (ao g) then some (none,[.s (gi d 0).str,.l (gi d 1).rows,.s (gi d 2).str,.l (gi d 3).rows,.l (gi d 4).rows,.i (gi d 5).int,.l z16,.i v,.l (gi d 8).rows,.l (gi d 9).rows,.i (gi d 10).int,.i q,.i (gi d 12).int,.i g]) else none) else none) else none) else none) else none))) else none) else none)) else none) else none) else none) else none) else none) else none) else none) else none) else none) else (bif u then (bif z4 then (bif z9 then (bif I then (bif (ao g) then some (none,[.s (gi d 0).str,.l (gi d 1).rows,.s (gi d 2).str,.l (gi d 3).rows,.l (gi d 4).rows,.i (gi d 5).int,.l z16,.i v,.l (gi d 8).rows,.l (gi d 9).rows,.i (gi d 10).int,.i q,.i (gi d 12).int,.i g]) else none) else none) else none) else none) else none))) else none) else none) else none) else none) else (bif z12 then (bif z25 then (bif V then (bif z24 then (ar z20 fun g6=>(bif (gi g6 0).bool then (bif (ao z23) then (bif z27 then (bif O then (bif (ao k) then (bif z29 then (bif z32 then (bif z12 then (bif V then (bif z28 then (ar z22 fun g7=>let z35:=(gi z21 1).int+(gi g7 0).int; (bif (ao z35) then (bif z31 then (ar (vE [.l [[.l M,.i z35]],.l [[.l (gi y 0).rows,.i (gi y 1).int]]]) fun g8=>(bif (gi g8 0).bool then (bif u then (bif z4 then (bif z9 then (bif I then (bif (ao g) then some (none,[.s (gi d 0).str,.l (gi d 1).rows,.s (gi d 2).str,.l (gi d 3).rows,.l (gi d 4).rows,.i (gi d 5).int,.l ((gi d 6).rows.set z33 [.l (z2.set z5 (dx [.list [.int .i64,.int .i64],.int .i64] (z2.getD z5 []) 0 [.l M,.i z35]))]),.i v,.l (gi d 8).rows,.l (gi d 9).rows,.i (gi d 10).int,.i q,.i (gi d 12).int,.i g]) else none) else none) else none) else none) else none) else (bif u then (bif z4 then (bif z9 then (bif I then (bif (ao g) then some (none,[.s (gi d 0).str,.l (gi d 1).rows,.s (gi d 2).str,.l (gi d 3).rows,.l (gi d 4).rows,.i (gi d 5).int,.l z17,.i v,.l (gi d 8).rows,.l (gi d 9).rows,.i (gi d 10).int,.i q,.i (gi d 12).int,.i g]) else none) else none) else none) else none) else none))) else none) else none)) else none) else none) else none) else none) else none) else none) else none) else none) else none) else (bif u then (bif z4 then (bif z9 then (bif I then (bif (ao g) then some (none,[.s (gi d 0).str,.l (gi d 1).rows,.s (gi d 2).str,.l (gi d 3).rows,.l (gi d 4).rows,.i (gi d 5).int,.l z17,.i v,.l (gi d 8).rows,.l (gi d 9).rows,.i (gi d 10).int,.i q,.i (gi d 12).int,.i g]) else none) else none) else none) else none) else none))) else none) else none) else none) else none))) else none) else none) else none) else none) else none) else none) else none) else none) else none) else none) else some (some 0,[.s (gi d 0).str,.l (gi d 1).rows,.s (gi d 2).str,.l (gi d 3).rows,.l (gi d 4).rows,.i (gi d 5).int,.l (gi d 6).rows,.i v,.l (gi d 8).rows,.l (gi d 9).rows,.i (gi d 10).int,.i q,.i (gi d 12).int]))
def S9:bq:=⟨11,[],⟨139,[(2,fj),(3,fj),(4,ad),(5,.s (.ptr 0 0)),(6,.s (.ptr 1 0)),(10,.s (.ptr 2 0)),(11,.s (.pre 3 1)),(13,ad),(14,ad)],yF⟩,[.slot 5,.slot 6,.slot 10,.slot 11],[⟨.exit 4,⟨139,Q2,yF⟩,[.slot 5,.slot 6,.slot 10,.slot 11]⟩],ze⟩
theorem ahl:cA P (t79.dL [2100040]) Jb 0 (cF f31 11) S9:=fun d=>by kernel_rfl
def Jc:LT:=Jb.add 0 S9
theorem ahm:ay P 0 Jc (a6 f31):=ay.add hm (zb.dL [2100040]) (by kernel_rfl) ahk ahl
def zf(d:List G):Option (Option Nat × List G) :=
 let g:=((((gi d 9).rows.length:Nat):Int)-1); let z2:=(((gi d 11).int.toNat:Nat):Int); let z3:=(((gi d 7).int.toNat:Nat):Int); (bif (aZ 0 (gi d 12).int) then (bif (ao g) then (aR true (bV ze [.s (gi d 0).str,.l (gi d 1).rows,.s (gi d 2).str,.l (gi d 3).rows,.l (gi d 4).rows,.i (gi d 5).int,.l (gi d 6).rows,.i z3,.l (gi d 8).rows,.l (gi d 9).rows,.i (gi d 10).int,.i z2,.i (gi d 12).int,.i g]) fun k g9=>(bif (ao ((gi g9 12).int-1)) then some (none,[.s (gi g9 0).str,.l (gi g9 1).rows,.s (gi g9 2).str,.l (gi g9 3).rows,.l (gi g9 4).rows,.i (gi g9 5).int,.l (gi g9 6).rows,.i (((gi g9 7).int.toNat:Nat):Int),.l (gi g9 8).rows,.l (gi g9 9).rows,.i (gi g9 10).int,.i (((gi g9 11).int.toNat:Nat):Int),.i ((gi g9 12).int-1)]) else none)) else none) else some (some 0,[.l (gi d 4).rows,.i (gi d 5).int,.l (gi d 6).rows,.i z3,.i z2]))
def S_:bq:=⟨8,[],⟨139,Q2,yF⟩,[.slot 5,.slot 6,.slot 10,.slot 11],[⟨.exit 2,⟨139,[(10,.s (.ptr 0 0)),(11,.s (.pre 1 1))],[.box [.list [.int .i64,.int .i64],.int .i64],.b_ 1 [.list [.int .i64,.int .i64],.int .i64]]⟩,[.slot 10,.slot 11]⟩],zf⟩
theorem ahn:cA P (t79.dL [2100040]) Jc 0 (cF f31 8) S_:=fun d=>by kernel_rfl
def S':LT:=Jc.add 0 S_
theorem aho:ay P 0 S' (a6 f31):=ay.add hm (zb.dL [2100040]) (by kernel_rfl) ahm ahn
def C8(d:List G):Option (List G) :=
 let g:=((((gi d 2).rows.length:Nat):Int)+1); let z2:=(bQ (g.toNat) ([.l []]:List G)); (bif (ao g) then (bif ((az g)&&((aZ g g)&&(aZ g 1048576))) then (bif ((cC 0 z2.length)&&true) then (aR true (bV zd [.s (gi (gi d 0).row 0).str,.l (gi (gi d 0).row 1).rows,.s (gi (gi d 1).row 0).str,.l (gi (gi d 1).row 1).rows,.l [],.i 0,.l [],.i ((z2.length:Nat):Int),.l (gi d 2).rows,.l (gi d 3).rows,.i (gi d 4).int,.i ((g.toNat:Nat):Int),.i ((g.toNat:Nat):Int),.i 0]) fun q g1=>let z3:=((((gi g1 8).rows.length:Nat):Int)-1); (bif (ao z3) then (aR true (bV zf [.s (gi g1 0).str,.l (gi g1 1).rows,.s (gi g1 2).str,.l (gi g1 3).rows,.l (gi g1 4).rows,.i (gi g1 5).int,.l (gi g1 6).rows,.i (((gi g1 7).int.toNat:Nat):Int),.l (gi g1 8).rows,.l (gi g1 9).rows,.i (gi g1 10).int,.i (((gi g1 11).int.toNat:Nat):Int),.i z3]) fun k g10=>let z4:=jv (gi g10 2).rows 0; let z5:=cC 0 (gi g10 2).rows.length; (bif (aj 0 (((gi g10 4).int.toNat:Nat):Int)) then (bif z5 then (bif (aj 0 ((z4.length:Nat):Int)) then (bif (z5&&(cC 0 z4.length)) then some [.l [[.l (gi (z4.getD 0 []) 0).rows,.i (gi (z4.getD 0 []) 1).int]]] else none) else none) else none) else none)) else none)) else none) else none) else none)
def Jd:aH:=⟨31,[gz,gz,fj,fj,ad],[],[],[.s (.row [.list [.int .i64,.int .i64],.int .i64])],[],[],[],C8⟩
theorem ahp:aX P (t79.dL [2100040]) S' f31 Jd:=fun d=>by kernel_rfl
theorem ahq:aY P Jd:=oT hm (zb.dL [2100040]) func31 (by kernel_rfl) aho ahp (by kernel_rfl)
def t80:au:=t79.br Jd
theorem Ta:aw P t80:=zb.aP ahq

def vG(d:List G):Option (List G) :=
 let g:=(gi (gi d 0).row 0).int-(gi (gi d 1).row 0).int; (bif (ao g) then (ar (qu [.i g]) fun g1=>some [.i (gi g1 0).int]) else none)
def Je:aH:=⟨33,[.s (.row [.int .i64,.int .i64]),.s (.row [.int .i64,.int .i64])],[],[],[ad],[],[],[],vG⟩
theorem ahr:aX P t80 aA f33 Je:=fun d=>by kernel_rfl
theorem Tb:aY P Je:=aV hm Ta func33 (aO _ _ _) ahr
def t81:au:=t80.br Je
theorem ahs:aw P t81:=Ta.aP Tb

def zg(d:List G):Option (List G) :=
 sk vG d
def zh:aH:=⟨32,[.s (.vec 0 2),.s (.fn 33)],[.vec [.int .i64,.int .i64] 0],[.slot 0],[],[.vec [.int .i64,.int .i64] 0],[.fix 0],[],zg⟩
theorem aht:∀ d r,zg d=some r->dn P 32 (zh.args0 d) (ah (zh.H0 d)) (zh.out r) (ah (zh.H1 r)):=fun d r h=>Pn Tryz.PL [.int .i64,.int .i64] (by kernel_rfl) Tryz.isAgg53 Tryz.sizeOf53 33 (by kernel_rfl) vG (fun d r h=>Tb d r h) d r h
def t82:au:=t81.du zh
theorem zi:aw P t82:=ahs.aW aht

def nR(d:List G):Option (Option Nat × List G) :=
 let z2:=([[.i (gi d 13).int]]:List (List G)); let z3:=(az (gi d 7).int)&&(aj (gi d 7).int 2); let z4:=(gi d 11).rows.getD (((gi d 13).int).toNat) []; let I:=((gi z4 2).str++(⟨#[32]⟩:ByteArray)); let z5:=(gi d 13).int+1; let u:=ai ((gi d 7).int).toNat 0; let M:=(((gi d 5).int.toNat:Nat):Int); (bif (aj (gi d 13).int (gi d 12).int) then (bif ((az (gi d 13).int)&&(aj (gi d 13).int (((gi d 11).rows.length:Nat):Int))) then (bif z3 then (bif ((gi z4 3).str.toList==(gi (([[.s (gi d 2).str],[.s (gi d 0).str]]:List (List G)).getD (((gi d 7).int).toNat) []) 0).str.toList) then (bif (Nat.ble ((gi z4 2).str.size+1) 9223372036854775807) then (ar (u5 [.i (gi z4 1).int]) fun g1=>let k:=I++(gi g1 0).str; let z9:=ln [.str] (gi d 4).rows [.s k] 0; let g:=ln [.str] (gi d 4).rows [.s k] 1; let q:=fH [.str] (gi d 4).rows [.s k]; let z12:=(((dE [.str] q [.s k] (gi d 5).int.toNat):Nat):Int); let v:=ai g.length g.length; let y:=ai z9.length z9.length; (bif (Nat.ble (I.size+(gi g1 0).str.size) 9223372036854775807) then (bif (dO [.str] (gi d 4).rows [.s k]) then (bif z3 then (bif u then (bif (y&&(decide ((z9.length+1)<=1048576))) then (bif z3 then (bif u then (bif ((ai (z9++z2).length (z9++z2).length)&&v) then (bif (ao z5) then some (none,[.s (gi d 0).str,.l (gi d 1).rows,.s (gi d 2).str,.l (gi d 3).rows,.l (rS [.str] q [.s k] (z9++z2) g (gi d 5).int.toNat),.i z12,.i (gi d 6).int,.i (gi d 7).int,.l (gi d 8).rows,.i (gi d 9).int,.i (gi d 10).int,.l (gi d 11).rows,.i (gi d 12).int,.i z5]) else none) else none) else none) else none) else none) else (bif (v&&(decide ((g.length+1)<=1048576))) then (bif z3 then (bif u then none else (bif (y&&(ai (g++z2).length (g++z2).length)) then (bif (ao z5) then some (none,[.s (gi d 0).str,.l (gi d 1).rows,.s (gi d 2).str,.l (gi d 3).rows,.l (rS [.str] q [.s k] z9 (g++z2) (gi d 5).int.toNat),.i z12,.i (gi d 6).int,.i (gi d 7).int,.l (gi d 8).rows,.i (gi d 9).int,.i (gi d 10).int,.l (gi d 11).rows,.i (gi d 12).int,.i z5]) else none) else none)) else none) else none)) else none) else none) else none)) else none) else (bif (ao z5) then some (none,[.s (gi d 0).str,.l (gi d 1).rows,.s (gi d 2).str,.l (gi d 3).rows,.l (gi d 4).rows,.i M,.i (gi d 6).int,.i (gi d 7).int,.l (gi d 8).rows,.i (gi d 9).int,.i (gi d 10).int,.l (gi d 11).rows,.i (gi d 12).int,.i z5]) else none)) else none) else none) else some (some 0,[.s (gi d 0).str,.l (gi d 1).rows,.s (gi d 2).str,.l (gi d 3).rows,.l (gi d 4).rows,.i M,.i (gi d 6).int,.l (gi d 8).rows,.i (gi d 9).int,.i (gi d 10).int]))
def Tc:bq:=⟨6,[],⟨89,[(2,ad),(3,.s (.ptr 0 0)),(4,.s (.ptr 1 0)),(7,.s (.map 2)),(8,ad),(20,.s (.list [.str,.list aq])),(21,ad),(22,ad),(28,gL),(29,ad),(30,ad)],Cx⟩,[.slot 3,.slot 4,.slot 7],[⟨.exit 2,⟨89,Q3,Cx⟩,[.slot 3,.slot 4,.slot 7]⟩],nR⟩
theorem ahu:cA P (t82.dL [1500063]) (aA.iU [(2,[.bp 7 1]),(15,[.BT 7])]) 0 (cF f15 6) Tc:=fun d=>by kernel_rfl
def Jf:LT:=(aA.iU [(2,[.bp 7 1]),(15,[.BT 7])]).add 0 Tc
theorem ahv:ay P 0 Jf (a6 f15):=ay.add hm (zi.dL [1500063]) (by kernel_rfl) (nM _) ahu
def nS(d:List G):Option (Option Nat × List G) :=
 let g:=gi ((gi d 7).rows.getD (((gi d 9).int).toNat) []) 1; let z2:=(((gi d 5).int.toNat:Nat):Int); (bif (aj (gi d 9).int (gi d 8).int) then (bif ((az (gi d 9).int)&&(aj (gi d 9).int (((gi d 7).rows.length:Nat):Int))) then (aR true (bV nR [.s (gi d 0).str,.l (gi d 1).rows,.s (gi d 2).str,.l (gi d 3).rows,.l (gi d 4).rows,.i z2,.i (gi d 6).int,.i (gi d 9).int,.l (gi d 7).rows,.i (gi d 8).int,.i (gi d 9).int,.l g.rows,.i ((g.rows.length:Nat):Int),.i 0]) fun k g2=>(bif (ao ((gi g2 9).int+1)) then some (none,[.s (gi g2 0).str,.l (gi g2 1).rows,.s (gi g2 2).str,.l (gi g2 3).rows,.l (gi g2 4).rows,.i (((gi g2 5).int.toNat:Nat):Int),.i (gi g2 6).int,.l (gi g2 7).rows,.i (gi g2 8).int,.i ((gi g2 9).int+1)]) else none)) else none) else some (some 0,[.s (gi d 0).str,.l (gi d 1).rows,.s (gi d 2).str,.l (gi d 3).rows,.l (gi d 4).rows,.i z2,.i (gi d 6).int]))
def Td:bq:=⟨3,[],⟨89,Q3,Cx⟩,[.slot 3,.slot 4,.slot 7],[⟨.exit 0,⟨89,[(2,ad),(3,.s (.ptr 0 0)),(4,.s (.ptr 1 0)),(7,.s (.map 2))],Cx⟩,[.slot 3,.slot 4,.slot 7]⟩],nS⟩
theorem ahw:cA P (t82.dL [1500063]) Jf 0 (cF f15 3) Td:=fun d=>by kernel_rfl
def C9:LT:=Jf.add 0 Td
theorem ahx:ay P 0 C9 (a6 f15):=ay.add hm (zi.dL [1500063]) (by kernel_rfl) ahv ahw
def C_(r d:List G):Option (List G) :=
 (ar (C8 [.l [(aT [.str,.list aq] d)],.l [[.s (gi d 2).str,.l (gi d 3).rows]],.l (gi (gi r 1).row 0).rows,.l (gi (gi r 1).row 1).rows,.i (gi d 5).int]) fun g4=>let g:=(gi d 4).rows++(gi (gi g4 0).row 0).rows; (bif ((ai (gi d 4).rows.length (gi d 4).rows.length)&&(decide (((gi d 4).rows.length+(gi (gi g4 0).row 0).rows.length)<=1048576))) then (bif ((ai g.length g.length)&&true) then some [.s (gi d 0).str,.l (gi d 1).rows,.s (gi d 2).str,.l (gi d 3).rows,.l g,.i (gi d 5).int,.i (((gi d 6).int.toNat:Nat):Int)] else none) else none))
def ahy(d:List G)(b:Nat):List G:=[.s (gi d 0).str,.l (gi d 1).rows,.s (gi d 2).str,.l (gi d 3).rows,.l (gi d 6).rows,.i (gi d 7).int,.i (b:Int)]
def ahz(d:List G)(b:Nat):Bool:=((ai (gi d 6).rows.length (gi d 6).rows.length)&&true)
def C':iu:=⟨⟨89,Q4,QP⟩,[.slot 3,.slot 4,.slot 14],[],(.one (.str)),(.agg [.list [.int .i64],.list [.int .i64]]),2,0,69,70,71,72,73,fun d=>(gi d 6).int.toNat,ahy,ahz,C_⟩
theorem ahA:oW P (t82.dL [1500063]) C9 0 C' (sc (cutAt f15 16)) (uT (cutAt f15 16)):=fun r d=>by kernel_rfl
def Da(d:List G):Option (Option Nat × List G) :=
 let g:=zg [.l (gi d 4).rows]; (lu (((ai (gi d 4).rows.length (gi d 4).rows.length)&&true)&&g.isSome) g fun g5=>(bif ((ai (gi d 4).rows.length (gi g5 0).rows.length)&&true) then some (some 0,[.l (gi g5 0).rows]) else none))
def Te:bq:=⟨20,[],⟨89,Q4,QP⟩,[],[⟨.ret,⟨89,[(6,.s (.vec 0 2))],Cw⟩,[.slot 6]⟩],Da⟩
theorem ahB:gx P (t82.dL [1500063]) C9 0 (uS (cutAt f15 16)) Te:=fun d=>by kernel_rfl
def Jg(d:List G):Option (Option Nat × List G) :=
 lv C' Da (gi d 4).rows ((gi d 5).int.toNat) d
def Jh:bq:=⟨16,[(14,[.int .i64,.int .i64])],⟨89,[(2,ad),(3,.s (.ptr 0 0)),(4,.s (.ptr 1 0)),(7,.s (.map 2)),(14,.s (.vec 3 2))],[.box [.str,.list aq],.box [.str,.list aq],.map (.one (.str)) (.agg [.list [.int .i64],.list [.int .i64]]),.vec [.int .i64,.int .i64] 0]⟩,[.slot 3,.slot 4,.slot 7,.slot 14],[⟨.ret,⟨89,[(6,.s (.vec 0 2))],Cw⟩,[.slot 6]⟩],Jg⟩
def Tf:LT:=C9.eL 0 Jh
theorem ahC:ay P 0 Tf (a6 f15):=ay.Cd (q:=Jh) (qr:=Te) (sp:=C') (r0:=16) (b0:=4) (r1:=17) (b1:=5) (r2:=18) (rows:=fun d=>(gi d 4).rows) (clock:=fun d=>(gi d 5).int.toNat) (pre:=fun d=>Cc P (t82.dL [1500063]) (qo (cutAt f15 16)) (bH Jh.inv d)) hm (zi.dL [1500063]) (by kernel_rfl) ahx (by kernel_rfl) (by kernel_rfl) ahA (fun d=>by kernel_rfl) (fun d=>by kernel_rfl) (fun d=>by kernel_rfl) (fun d=>by kernel_rfl) (fun d=>by kernel_rfl) (fun d=>by kernel_rfl) (fun d b=>by kernel_rfl) (fun d b=>rfl) rfl rfl ahB (fun d=>rfl)
def Db(d:List G):Option (List G) :=
 (aR true (bV nS [.s (gi (gi d 0).row 0).str,.l (gi (gi d 0).row 1).rows,.s (gi (gi d 1).row 0).str,.l (gi (gi d 1).row 1).rows,.l [],.i 0,.i (gi d 2).int,.l [(aT [.str,.list aq] (gi d 0).row),(aT [.str,.list aq] (gi d 1).row)],.i 2,.i 0]) fun g g3=>(bif ((ql (gi g3 4).rows)&&true) then (aR true (cG (Jg [.s (gi g3 0).str,.l (gi g3 1).rows,.s (gi g3 2).str,.l (gi g3 3).rows,.l (gi g3 4).rows,.i (((gi g3 5).int.toNat:Nat):Int),.l [],.i (gi g3 6).int])) fun k g6=>(bif ((ai (gi g6 0).rows.length (gi g6 0).rows.length)&&true) then some [.l (gi g6 0).rows] else none)) else none))
def Ji:aH:=⟨15,[gz,gz,ad],[],[],[.s (.list [.int .i64,.int .i64])],[],[],[],Db⟩
theorem ahD:aX P (t82.dL [1500063]) Tf f15 Ji:=fun d=>by kernel_rfl
theorem ahE:aY P Ji:=oT hm (zi.dL [1500063]) func15 (by kernel_rfl) ahC ahD (by kernel_rfl)
def t83:au:=t82.br Ji
theorem vH:aw P t83:=zi.aP ahE

def zk(d:List G):Option (Option Nat × List G) :=
 let g:=(gi d 6).int-(gi d 14).int; let z2:=(gi (cS [.int .i64] (gi d 4).rows [.i g] [.i 0]) 0).int+1; (bif (gi d 31).bool then (bif (ao g) then (bif (ao z2) then some (some 0,[.s (gi d 0).str,.l (gi d 1).rows,.s (gi d 2).str,.l (gi d 3).rows,.l (fx [.int .i64] (gi d 4).rows [.i g] [.i z2] (gi d 5).int.toNat),.i (((dE [.int .i64] (gi d 4).rows [.i g] (gi d 5).int.toNat):Nat):Int),.i (gi d 6).int,.i (gi d 7).int,.s (gi d 8).str,.s (gi d 9).str,.i (gi d 10).int,.i (gi d 11).int,.s (gi d 12).str,.s (gi d 13).str,.i (gi d 22).int,.i (gi d 23).int,.i (gi d 24).int,.l (gi d 25).rows,.i (gi d 26).int,.i (gi d 27).int,.l (gi d 28).rows,.i (gi d 29).int,.i (gi d 30).int]) else none) else none) else some (some 0,[.s (gi d 0).str,.l (gi d 1).rows,.s (gi d 2).str,.l (gi d 3).rows,.l (gi d 4).rows,.i (((gi d 5).int.toNat:Nat):Int),.i (gi d 6).int,.i (gi d 7).int,.s (gi d 8).str,.s (gi d 9).str,.i (gi d 10).int,.i (gi d 11).int,.s (gi d 12).str,.s (gi d 13).str,.i (gi d 22).int,.i (gi d 23).int,.i (gi d 24).int,.l (gi d 25).rows,.i (gi d 26).int,.i (gi d 27).int,.l (gi d 28).rows,.i (gi d 29).int,.i (gi d 30).int]))
def Tg:bq:=⟨10,[],⟨118,[(2,ad),(3,.s (.ptr 0 0)),(4,.s (.ptr 1 0)),(8,ad),(9,ad),(10,.s (.map 2)),(12,.s (.ptr 3 0)),(14,.s (.ptr 4 0)),(19,gL),(20,ad),(21,ad),(26,gL),(27,ad),(28,ad),(66,dj)],[.box [.str,.list aq],.box [.str,.list aq],.map (.one (.int .i64)) (.one (.int .i64)),.box [.int .i64,.int .i64,.str,.str,.int .i64,.int .i64,.str,.str],.box [.int .i64,.int .i64,.str,.str,.int .i64,.int .i64,.str,.str]]⟩,[.slot 3,.slot 4,.slot 10,.slot 12,.slot 14],[⟨.normal,⟨118,Q5,QQ⟩,[.slot 3,.slot 4,.slot 10,.slot 12]⟩],zk⟩
theorem ahF:gx P t83 aA 0 (cutAt f16 10) Tg:=fun d=>by kernel_rfl
def Jj:LT:=aA.eL 0 Tg
theorem ahG:ay P 0 Jj (a6 f16):=ay.aC hm vH (aO _ _ _) ahF
def vI(d:List G):Option (Option Nat × List G) :=
 let z2:=(gi d 20).rows.getD (((gi d 22).int).toNat) []; let z3:=(((gi d 5).int.toNat:Nat):Int); let g:=cG (zk [.s (gi d 0).str,.l (gi d 1).rows,.s (gi d 2).str,.l (gi d 3).rows,.l (gi d 4).rows,.i z3,.i (gi d 6).int,.i (gi d 7).int,.s (gi d 8).str,.s (gi d 9).str,.i (gi d 10).int,.i (gi d 11).int,.s (gi d 12).str,.s (gi d 13).str,.i (gi z2 0).int,.i (gi z2 1).int,.s (gi z2 2).str,.s (gi z2 3).str,.i (gi z2 4).int,.i (gi z2 5).int,.s (gi z2 6).str,.s (gi z2 7).str,.i (gi d 14).int,.i (gi d 15).int,.i (gi d 16).int,.l (gi d 17).rows,.i (gi d 18).int,.i (gi d 19).int,.l (gi d 20).rows,.i (gi d 21).int,.i (gi d 22).int,.t false]); (bif (aj (gi d 22).int (gi d 21).int) then (bif ((az (gi d 22).int)&&(aj (gi d 22).int (((gi d 20).rows.length:Nat):Int))) then (bif ((gi d 9).str.toList==(gi d 2).str.toList) then (bif ((gi z2 3).str.toList==(gi d 0).str.toList) then (bif ((gi d 8).str.toList==(gi z2 2).str.toList) then (bif ((gi d 7).int==(gi z2 1).int) then (ar (vF [.i (gi d 6).int,.i (gi z2 0).int]) fun g1=>(aR true (cG (zk [.s (gi d 0).str,.l (gi d 1).rows,.s (gi d 2).str,.l (gi d 3).rows,.l (gi d 4).rows,.i z3,.i (gi d 6).int,.i (gi d 7).int,.s (gi d 8).str,.s (gi d 9).str,.i (gi d 10).int,.i (gi d 11).int,.s (gi d 12).str,.s (gi d 13).str,.i (gi z2 0).int,.i (gi z2 1).int,.s (gi z2 2).str,.s (gi z2 3).str,.i (gi z2 4).int,.i (gi z2 5).int,.s (gi z2 6).str,.s (gi z2 7).str,.i (gi d 14).int,.i (gi d 15).int,.i (gi d 16).int,.l (gi d 17).rows,.i (gi d 18).int,.i (gi d 19).int,.l (gi d 20).rows,.i (gi d 21).int,.i (gi d 22).int,.t (aZ (gi g1 0).int (gi d 14).int)])) fun k g2=>(bif (ao ((gi g2 22).int+1)) then some (none,[.s (gi g2 0).str,.l (gi g2 1).rows,.s (gi g2 2).str,.l (gi g2 3).rows,.l (gi g2 4).rows,.i (((gi g2 5).int.toNat:Nat):Int),.i (gi g2 6).int,.i (gi g2 7).int,.s (gi g2 8).str,.s (gi g2 9).str,.i (gi g2 10).int,.i (gi g2 11).int,.s (gi g2 12).str,.s (gi g2 13).str,.i (gi g2 14).int,.i (gi g2 15).int,.i (gi g2 16).int,.l (gi g2 17).rows,.i (gi g2 18).int,.i (gi g2 19).int,.l (gi g2 20).rows,.i (gi g2 21).int,.i ((gi g2 22).int+1)]) else none))) else (aR true g fun q g3=>(bif (ao ((gi g3 22).int+1)) then some (none,[.s (gi g3 0).str,.l (gi g3 1).rows,.s (gi g3 2).str,.l (gi g3 3).rows,.l (gi g3 4).rows,.i (((gi g3 5).int.toNat:Nat):Int),.i (gi g3 6).int,.i (gi g3 7).int,.s (gi g3 8).str,.s (gi g3 9).str,.i (gi g3 10).int,.i (gi g3 11).int,.s (gi g3 12).str,.s (gi g3 13).str,.i (gi g3 14).int,.i (gi g3 15).int,.i (gi g3 16).int,.l (gi g3 17).rows,.i (gi g3 18).int,.i (gi g3 19).int,.l (gi g3 20).rows,.i (gi g3 21).int,.i ((gi g3 22).int+1)]) else none))) else (aR true g fun u g4=>(bif (ao ((gi g4 22).int+1)) then some (none,[.s (gi g4 0).str,.l (gi g4 1).rows,.s (gi g4 2).str,.l (gi g4 3).rows,.l (gi g4 4).rows,.i (((gi g4 5).int.toNat:Nat):Int),.i (gi g4 6).int,.i (gi g4 7).int,.s (gi g4 8).str,.s (gi g4 9).str,.i (gi g4 10).int,.i (gi g4 11).int,.s (gi g4 12).str,.s (gi g4 13).str,.i (gi g4 14).int,.i (gi g4 15).int,.i (gi g4 16).int,.l (gi g4 17).rows,.i (gi g4 18).int,.i (gi g4 19).int,.l (gi g4 20).rows,.i (gi g4 21).int,.i ((gi g4 22).int+1)]) else none))) else (aR true g fun v g5=>(bif (ao ((gi g5 22).int+1)) then some (none,[.s (gi g5 0).str,.l (gi g5 1).rows,.s (gi g5 2).str,.l (gi g5 3).rows,.l (gi g5 4).rows,.i (((gi g5 5).int.toNat:Nat):Int),.i (gi g5 6).int,.i (gi g5 7).int,.s (gi g5 8).str,.s (gi g5 9).str,.i (gi g5 10).int,.i (gi g5 11).int,.s (gi g5 12).str,.s (gi g5 13).str,.i (gi g5 14).int,.i (gi g5 15).int,.i (gi g5 16).int,.l (gi g5 17).rows,.i (gi g5 18).int,.i (gi g5 19).int,.l (gi g5 20).rows,.i (gi g5 21).int,.i ((gi g5 22).int+1)]) else none))) else (aR true g fun y g6=>(bif (ao ((gi g6 22).int+1)) then some (none,[.s (gi g6 0).str,.l (gi g6 1).rows,.s (gi g6 2).str,.l (gi g6 3).rows,.l (gi g6 4).rows,.i (((gi g6 5).int.toNat:Nat):Int),.i (gi g6 6).int,.i (gi g6 7).int,.s (gi g6 8).str,.s (gi g6 9).str,.i (gi g6 10).int,.i (gi g6 11).int,.s (gi g6 12).str,.s (gi g6 13).str,.i (gi g6 14).int,.i (gi g6 15).int,.i (gi g6 16).int,.l (gi g6 17).rows,.i (gi g6 18).int,.i (gi g6 19).int,.l (gi g6 20).rows,.i (gi g6 21).int,.i ((gi g6 22).int+1)]) else none))) else none) else some (some 0,[.s (gi d 0).str,.l (gi d 1).rows,.s (gi d 2).str,.l (gi d 3).rows,.l (gi d 4).rows,.i z3,.i (gi d 14).int,.i (gi d 15).int,.i (gi d 16).int,.l (gi d 17).rows,.i (gi d 18).int,.i (gi d 19).int]))
def Th:bq:=⟨7,[],⟨118,Q5,QQ⟩,[.slot 3,.slot 4,.slot 10,.slot 12],[⟨.exit 2,⟨118,Q6,QR⟩,[.slot 3,.slot 4,.slot 10]⟩],vI⟩
theorem ahH:cA P t83 Jj 0 (cF f16 7) Th:=fun d=>by kernel_rfl
def Jk:LT:=Jj.add 0 Th
theorem ahI:ay P 0 Jk (a6 f16):=ay.a hm vH ahG ahH
def vJ(d:List G):Option (Option Nat × List G) :=
 let g:=(gi d 9).rows.getD (((gi d 11).int).toNat) []; let z2:=(((gi d 5).int.toNat:Nat):Int); (bif (aj (gi d 11).int (gi d 10).int) then (bif ((az (gi d 11).int)&&(aj (gi d 11).int (((gi d 9).rows.length:Nat):Int))) then (aR true (bV vI [.s (gi d 0).str,.l (gi d 1).rows,.s (gi d 2).str,.l (gi d 3).rows,.l (gi d 4).rows,.i z2,.i (gi g 0).int,.i (gi g 1).int,.s (gi g 2).str,.s (gi g 3).str,.i (gi g 4).int,.i (gi g 5).int,.s (gi g 6).str,.s (gi g 7).str,.i (gi d 6).int,.i (gi d 7).int,.i (gi d 8).int,.l (gi d 9).rows,.i (gi d 10).int,.i (gi d 11).int,.l (gi d 3).rows,.i (((gi d 3).rows.length:Nat):Int),.i 0]) fun k g7=>(bif (ao ((gi g7 11).int+1)) then some (none,[.s (gi g7 0).str,.l (gi g7 1).rows,.s (gi g7 2).str,.l (gi g7 3).rows,.l (gi g7 4).rows,.i (((gi g7 5).int.toNat:Nat):Int),.i (gi g7 6).int,.i (gi g7 7).int,.i (gi g7 8).int,.l (gi g7 9).rows,.i (gi g7 10).int,.i ((gi g7 11).int+1)]) else none)) else none) else some (some 0,[.l (gi d 4).rows,.i z2,.i (gi d 7).int,.i (gi d 8).int]))
def Ti:bq:=⟨4,[],⟨118,Q6,QR⟩,[.slot 3,.slot 4,.slot 10],[⟨.exit 0,⟨118,[(8,ad),(9,ad),(10,.s (.map 0))],[.map (.one (.int .i64)) (.one (.int .i64))]⟩,[.slot 10]⟩],vJ⟩
theorem ahJ:cA P t83 Jk 0 (cF f16 4) Ti:=fun d=>by kernel_rfl
def Dc:LT:=Jk.add 0 Ti
theorem ahK:ay P 0 Dc (a6 f16):=ay.a hm vH ahI ahJ
def Dd(r d:List G):Option (List G) :=
 let g:=(((gi d 2).int.toNat:Nat):Int); let z2:=gi (gi r 0).row 0; let z3:=gi (gi r 1).row 0; let z4:=0-(gi d 0).int; (bif (aj (gi d 1).int z3.int) then some [.i z2.int,.i z3.int,.i g] else (bif (z3.int==(gi d 1).int) then (bif (ao (0-z2.int)) then (bif (ao z4) then (bif (aj (if (0-z2.int)>z2.int then (0-z2.int) else z2.int) (if z4>(gi d 0).int then z4 else (gi d 0).int)) then some [.i z2.int,.i z3.int,.i g] else (bif (ao z4) then (bif (z2.int==z4) then (bif (aj z2.int (gi d 0).int) then some [.i z2.int,.i z3.int,.i g] else some [.i (gi d 0).int,.i (gi d 1).int,.i g]) else some [.i (gi d 0).int,.i (gi d 1).int,.i g]) else none)) else none) else none) else some [.i (gi d 0).int,.i (gi d 1).int,.i g]))
def ahL(d:List G)(b:Nat):List G:=[.i (gi d 2).int,.i (gi d 3).int,.i (b:Int)]
def ahM(d:List G)(b:Nat):Bool:=true
def De:iu:=⟨⟨118,[(8,ad),(9,ad),(78,sx)],[]⟩,[],[],(.one (.int .i64)),(.one (.int .i64)),0,0,77,78,79,80,81,fun d=>(gi d 2).int.toNat,ahL,ahM,Dd⟩
theorem ahN:oW P t83 Dc 0 De (sc (cutAt f16 13)) (uT (cutAt f16 13)):=fun r d=>by kernel_rfl
def Jl(d:List G):Option (Option Nat × List G) :=
 some (some 0,[.i (gi d 0).int,.i (gi d 1).int])
def Tj:bq:=⟨18,[],⟨118,[(8,ad),(9,ad),(78,sx)],[]⟩,[],[⟨.ret,⟨118,[(6,ad),(7,ad)],[]⟩,[]⟩],Jl⟩
theorem ahO:gx P t83 Dc 0 (uS (cutAt f16 13)) Tj:=fun d=>by kernel_rfl
def Jm(d:List G):Option (Option Nat × List G) :=
 lv De Jl (gi d 0).rows ((gi d 1).int.toNat) d
def Jo:bq:=⟨13,[],⟨118,[(8,ad),(9,ad),(10,.s (.map 0))],[.map (.one (.int .i64)) (.one (.int .i64))]⟩,[.slot 10],[⟨.ret,⟨118,[(6,ad),(7,ad)],[]⟩,[]⟩],Jm⟩
def Tk:LT:=Dc.eL 0 Jo
theorem ahP:ay P 0 Tk (a6 f16):=ay.Cd (q:=Jo) (qr:=Tj) (sp:=De) (r0:=13) (b0:=4) (r1:=14) (b1:=5) (r2:=15) (rows:=fun d=>(gi d 0).rows) (clock:=fun d=>(gi d 1).int.toNat) (pre:=fun d=>Cc P t83 (qo (cutAt f16 13)) (bH Jo.inv d)) hm vH (by kernel_rfl) ahK (by kernel_rfl) (by kernel_rfl) ahN (fun d=>by kernel_rfl) (fun d=>by kernel_rfl) (fun d=>by kernel_rfl) (fun d=>by kernel_rfl) (fun d=>by kernel_rfl) (fun d=>by kernel_rfl) (fun d b=>by kernel_rfl) (fun d b=>rfl) rfl rfl ahO (fun d=>rfl)
def Df(d:List G):Option (List G) :=
 let g:=gi (gi d 0).row 1; (aR true (bV vJ [.s (gi (gi d 0).row 0).str,.l g.rows,.s (gi (gi d 1).row 0).str,.l (gi (gi d 1).row 1).rows,.l [],.i 0,.i (gi d 2).int,.i 0,.i 0,.l g.rows,.i ((g.rows.length:Nat):Int),.i 0]) fun k g8=>(aR true (cG (Jm [.l (gi g8 0).rows,.i (((gi g8 1).int.toNat:Nat):Int),.i (gi g8 2).int,.i (gi g8 3).int])) fun q g9=>some [.i (gi g9 0).int,.i (gi g9 1).int]))
def Jp:aH:=⟨16,[gz,gz,ad],[],[],[ad,ad],[],[],[],Df⟩
theorem ahQ:aX P t83 Tk f16 Jp:=fun d=>by kernel_rfl
theorem ahR:aY P Jp:=aV hm vH func16 ahP ahQ
def t84:au:=t83.br Jp
theorem Tl:aw P t84:=vH.aP ahR

def Dg(d:List G):Option (List G) :=
 let g:=(gi (gi d 0).row 0).int-1; let z2:=gi ((gi (gi d 2).row 0).rows.getD (g.toNat) []) 0; (bif (aj 0 (gi (gi d 0).row 0).int) then (bif (ao g) then (bif ((az g)&&(aj g (((gi (gi d 2).row 0).rows.length:Nat):Int))) then (bif ((pk (gi (gi d 1).row 0).str.toList z2.str.toList)||((gi (gi d 1).row 0).str.toList==z2.str.toList)) then some [.i 7] else some [.i 0]) else none) else none) else some [.i 0])
def Jq:aH:=⟨36,[.s (.cptr [.int .i64]),.s (.cptr [.str,.list aq]),.s (.cptr [.list [.str,.list aq]])],[],[],[ad],[],[],[],Dg⟩
theorem ahS:aX P t84 aA f36 Jq:=fun d=>by kernel_rfl
theorem ahT:aY P Jq:=aV hm Tl func36 (aO _ _ _) ahS
def t85:au:=t84.br Jq
theorem Tm:aw P t85:=Tl.aP ahT

def Dh(d:List G):Option (List G) :=
 (ar (vh [.s (gi (gi d 0).row 0).str]) fun g1=>(bif (!(gi g1 0).bool) then some [.i 3] else (ar (Dg [.l [[.i (gi (gi d 1).row 0).int]],.l [(aT [.str,.list aq] (gi d 2).row)],.l [[.l (gi (gi d 3).row 0).rows]]]) fun g2=>(bif ((gi g2 0).int != 0) then some [.i (gi g2 0).int] else (ar (CL [.l (gi (gi d 0).row 1).rows]) fun g3=>(bif ((gi g3 0).int != 0) then some [.i (gi g3 0).int] else (ar (Ia [.l (gi (gi d 0).row 1).rows,.l [(aT [.str,.list aq] (gi d 0).row)]]) fun g4=>(bif (gi g4 0).bool then some [.i 6] else some [.i 0]))))))))
def Jr:aH:=⟨37,[gz,.clo 36 [.cptr [.int .i64],.cptr [.str,.list aq],.cptr [.list [.str,.list aq]]]],[],[],[ad],[],[],[],Dh⟩
theorem ahU:aX P (t85.gV [53]) aA f37 Jr:=fun d=>by kernel_rfl
theorem ahV:aY P Jr:=oT hm (Tm.gV [53]) func37 (by kernel_rfl) (aO _ _ _) ahU (by kernel_rfl)
def t86:au:=t85.br Jr
theorem Js:aw P t86:=Tm.aP ahV

def vK(d:List G):Option (Option Nat × List G) :=
 let g:=aT [.str,.list aq] ((gi d 1).rows.getD (((gi d 3).int).toNat) []); (bif (aj (gi d 3).int (gi d 2).int) then (bif ((az (gi d 3).int)&&(aj (gi d 3).int (((gi d 1).rows.length:Nat):Int))) then (ar (Dh [.l [g],.l [[.i (gi d 3).int]],.l [g],.l [[.l (gi d 0).rows]]]) fun g1=>(bif ((gi g1 0).int != 0) then some (some 0,[.i (gi g1 0).int]) else (bif (ao ((gi d 3).int+1)) then some (none,[.l (gi d 0).rows,.l (gi d 1).rows,.i (gi d 2).int,.i ((gi d 3).int+1)]) else none))) else none) else some (some 1,[]))
def Tn:bq:=⟨4,[],⟨25,[(1,.s (.ptr 0 0)),(10,.s (.list [.str,.list aq])),(11,ad),(12,ad)],[.box [.list [.str,.list aq]]]⟩,[.slot 1],[⟨.ret,⟨25,yG,[]⟩,[]⟩,⟨.exit 0,⟨25,[],[]⟩,[]⟩],vK⟩
theorem ahW:cA P (t86.gV [37]) aA 0 (cF f17 4) Tn:=fun d=>by kernel_rfl
def To:LT:=aA.add 0 Tn
theorem ahX:ay P 0 To (a6 f17):=ay.add hm (Js.gV [37]) (by kernel_rfl) (aO _ _ _) ahW
def vL(d:List G):Option (List G) :=
 let g:=(((gi d 0).rows.length:Nat):Int); (bif (aj 100 g) then some [.i 2] else (aR true (bV vK [.l (gi d 0).rows,.l (gi d 0).rows,.i g,.i 0]) fun k g2=>(bif ai k 0 then some [.i (gi g2 0).int] else some [.i 0])))
def Jt:aH:=⟨17,[.s (.list [.str,.list aq])],[],[],[ad],[],[],[],vL⟩
theorem ahY:aX P (t86.gV [37]) To f17 Jt:=fun d=>by kernel_rfl
theorem ahZ:aY P Jt:=oT hm (Js.gV [37]) func17 (by kernel_rfl) ahX ahY (by kernel_rfl)
def t87:au:=t86.br Jt
theorem Ju:aw P t87:=Js.aP ahZ

def vM(d:List G):Option (Option Nat × List G) :=
 let g:=(gi d 1).rows.getD (((gi d 3).int).toNat) []; let z2:=(gi d 3).int-1; let z3:=za [.l [(aT [.str,.list aq] g)]]; let z4:=(gi d 3).int+1; let z5:=gi ((gi d 0).rows.getD (z2.toNat) []) 0; (bif (aj (gi d 3).int (gi d 2).int) then (bif ((az (gi d 3).int)&&(aj (gi d 3).int (((gi d 1).rows.length:Nat):Int))) then (ar (y9 [.s (gi g 0).str]) fun g1=>(bif (!(gi g1 0).bool) then some (some 0,[.i 3]) else (bif (aj 0 (gi d 3).int) then (bif (ao z2) then (bif ((az z2)&&(aj z2 (((gi d 0).rows.length:Nat):Int))) then (bif ((pk (gi g 0).str.toList z5.str.toList)||((gi g 0).str.toList==z5.str.toList)) then some (some 0,[.i 7]) else (ar z3 fun g2=>(bif ((gi g2 0).int != 0) then some (some 0,[.i (gi g2 0).int]) else (bif (ao z4) then some (none,[.l (gi d 0).rows,.l (gi d 1).rows,.i (gi d 2).int,.i z4]) else none)))) else none) else none) else (ar z3 fun g3=>(bif ((gi g3 0).int != 0) then some (some 0,[.i (gi g3 0).int]) else (bif (ao z4) then some (none,[.l (gi d 0).rows,.l (gi d 1).rows,.i (gi d 2).int,.i z4]) else none)))))) else none) else some (some 1,[]))
def Tp:bq:=⟨4,[],⟨39,[(0,.s (.list [.str,.list aq])),(9,.s (.list [.str,.list aq])),(10,ad),(11,ad)],[]⟩,[],[⟨.ret,⟨39,yG,[]⟩,[]⟩,⟨.exit 0,⟨39,[],[]⟩,[]⟩],vM⟩
theorem ah0:cA P t87 aA 0 (cF f18 4) Tp:=fun d=>by kernel_rfl
def Tq:LT:=aA.add 0 Tp
theorem ah1:ay P 0 Tq (a6 f18):=ay.a hm Ju (aO _ _ _) ah0
def Di(d:List G):Option (List G) :=
 let g:=(((gi d 0).rows.length:Nat):Int); (bif (aj 100 g) then some [.i 2] else (aR true (bV vM [.l (gi d 0).rows,.l (gi d 0).rows,.i g,.i 0]) fun k g4=>(bif ai k 0 then some [.i (gi g4 0).int] else some [.i 0])))
def Jv:aH:=⟨18,[.s (.list [.str,.list aq])],[],[],[ad],[],[],[],Di⟩
theorem ah2:aX P t87 Tq f18 Jv:=fun d=>by kernel_rfl
theorem ah3:aY P Jv:=aV hm Ju func18 ah1 ah2
def t88:au:=t87.br Jv
theorem Jw:aw P t88:=Ju.aP ah3

def zl(d:List G):Option (Option Nat × List G) :=
 (bif (aj (gi d 3).int (gi d 2).int) then (bif ((az (gi d 3).int)&&(aj (gi d 3).int (((gi d 0).rows.length:Nat):Int))) then (bif ((az (gi d 3).int)&&(aj (gi d 3).int (((gi d 1).rows.length:Nat):Int))) then (bif (!(a8 [.int .i64,.int .i64] (aT [.int .i64,.int .i64] ((gi d 0).rows.getD (((gi d 3).int).toNat) [])) (aT [.int .i64,.int .i64] ((gi d 1).rows.getD (((gi d 3).int).toNat) [])))) then some (some 0,[.t false]) else (bif (ao ((gi d 3).int+1)) then some (none,[.l (gi d 0).rows,.l (gi d 1).rows,.i (gi d 2).int,.i ((gi d 3).int+1)]) else none)) else none) else none) else some (some 1,[]))
def Tr:bq:=⟨4,[],⟨26,[(0,.s (.list [.int .i64,.int .i64])),(1,.s (.list [.int .i64,.int .i64])),(12,ad),(13,ad)],[]⟩,[],[⟨.ret,⟨26,[(4,dj)],[]⟩,[]⟩,⟨.exit 0,⟨26,[],[]⟩,[]⟩],zl⟩
theorem ah4:cA P t88 aA 0 (cF f19 4) Tr:=fun d=>by kernel_rfl
def Ts:LT:=aA.add 0 Tr
theorem ah5:ay P 0 Ts (a6 f19):=ay.a hm Jw (aO _ _ _) ah4
def zm(d:List G):Option (List G) :=
 let g:=(((gi d 0).rows.length:Nat):Int); (bif (g != (((gi d 1).rows.length:Nat):Int)) then some [.t false] else (aR true (bV zl [.l (gi d 0).rows,.l (gi d 1).rows,.i g,.i 0]) fun k g1=>(bif ai k 0 then some [.t (gi g1 0).bool] else some [.t true])))
def Jx:aH:=⟨19,[.s (.list [.int .i64,.int .i64]),.s (.list [.int .i64,.int .i64])],[],[],[dj],[],[],[],zm⟩
theorem ah6:aX P t88 Ts f19 Jx:=fun d=>by kernel_rfl
theorem ah7:aY P Jx:=aV hm Jw func19 ah5 ah6
def t89:au:=t88.br Jx
theorem Tt:aw P t89:=Jw.aP ah7

def Jy(d:List G):Option (List G) :=
 (ar (mX [.s (gi (gi d 0).row 0).str,.s (gi d 1).str]) fun g1=>some [.i (gi g1 0).int])
def Jz:aH:=⟨139,[gz,cO],[],[],[ad],[],[],[],Jy⟩
theorem ah8:aX P t89 aA f139 Jz:=fun d=>by kernel_rfl
theorem ah9:aY P Jz:=aV hm Tt func139 (aO _ _ _) ah8
def t90:au:=t89.br Jz
theorem JA:aw P t90:=Tt.aP ah9

def vN(d:List G):Option (Option Nat × List G) :=
 let g:=tD .u64 (IntKind.u64.wrap ((gi d 3).int+(gi d 4).int)) 1; (bif (aj (gi d 3).int (gi d 4).int) then (bif (ao ((gi d 3).int+(gi d 4).int)) then (bif (ao g) then (bif ((az g)&&(aj g (((gi d 0).rows.length:Nat):Int))) then (ar (Jy [.l [(aT [.str,.list aq] ((gi d 0).rows.getD (g.toNat) []))],.s (gi d 1).str]) fun g1=>(bif (aj (gi g1 0).int 0) then (bif (ao (g+1)) then some (none,[.l (gi d 0).rows,.s (gi d 1).str,.i (gi d 2).int,.i (g+1),.i (gi d 4).int]) else none) else some (none,[.l (gi d 0).rows,.s (gi d 1).str,.i (gi d 2).int,.i (gi d 3).int,.i g]))) else none) else none) else none) else some (some 0,[.l (gi d 0).rows,.s (gi d 1).str,.i (gi d 2).int,.i (gi d 3).int]))
def Tu:bq:=⟨3,[],⟨49,[(0,.s (.list [.str,.list aq])),(1,cO),(2,.s (.fn 139)),(8,ad),(9,ad),(10,ad)],[]⟩,[],[⟨.exit 0,⟨49,[(0,.s (.list [.str,.list aq])),(1,cO),(2,.s (.fn 139)),(8,ad),(9,ad)],[]⟩,[]⟩],vN⟩
theorem ah_:cA P t90 aA 0 (cF f138 3) Tu:=fun d=>by kernel_rfl
def Tv:LT:=aA.add 0 Tu
theorem ah':ay P 0 Tv (a6 f138):=ay.a hm JA (aO _ _ _) ah_
def JB(d:List G):Option (List G) :=
 let g:=(((gi d 0).rows.length:Nat):Int); (aR true (bV vN [.l (gi d 0).rows,.s (gi d 1).str,.i g,.i 0,.i g]) fun k g2=>(bif (aj (gi g2 3).int (gi g2 2).int) then (bif ((az (gi g2 3).int)&&(aj (gi g2 3).int (((gi g2 0).rows.length:Nat):Int))) then (ar (Jy [.l [(aT [.str,.list aq] ((gi g2 0).rows.getD (((gi g2 3).int).toNat) []))],.s (gi g2 1).str]) fun g3=>some [.i (gi g2 3).int,.t ((gi g3 0).int==0)]) else none) else some [.i (gi g2 3).int,.t false]))
def JD:aH:=⟨138,[.s (.list [.str,.list aq]),cO,.s (.fn 139)],[],[],[ad,dj],[],[],[],JB⟩
theorem aia:aX P t90 Tv f138 JD:=fun d=>by kernel_rfl
theorem aib:aY P JD:=aV hm JA func138 ah' aia
def t91:au:=t90.br JD
theorem Tw:aw P t91:=JA.aP aib

def zn(d:List G):Option (List G) :=
 (ar (JB [.l (gi d 0).rows,.s (gi d 1).str]) fun g1=>some [.i (gi g1 0).int,.t (gi g1 1).bool])
def JE:aH:=⟨95,[.s (.list [.str,.list aq]),cO],[],[],[ad,dj],[],[],[],zn⟩
theorem aic:aX P t91 aA f95 JE:=fun d=>by kernel_rfl
theorem aid:aY P JE:=aV hm Tw func95 (aO _ _ _) aic
def t92:au:=t91.br JE
theorem Tx:aw P t92:=Tw.aP aid

def Ty(d:List G):Option (List G) :=
 some [.l (gi d 0).rows,.i (gi d 1).int,.i (gi d 2).int,.l [],.i 0,.l [],.i 0]
def JF:aH:=⟨96,[.s (.list [.str,.list aq]),ad,ad],[],[],[.s (.ptr 0 0)],[.box [.list [.str,.list aq],.int .i64,.int .i64,.map 1,.map 2],.map (.one (.int .i64)) (.one (.int .i64)),.map (.one (.int .i64)) (.one (.int .i64))],[.slot 0,.cell 0 3,.cell 0 4],[],Ty⟩
theorem aie:aX P t92 aA f96 JF:=fun d=>by kernel_rfl
theorem aif:aY P JF:=aV hm Tx func96 (aO _ _ _) aie
def t93:au:=t92.du JF
theorem JG:aw P t93:=Tx.aW aif

def zo(d:List G):Option (Option Nat × List G) :=
 let g:=(gi d 10).rows.getD (((gi d 12).int).toNat) []; let z2:=lX [.int .i64] (gi d 3).rows [.i (gi d 9).int]; let z3:=lX [.int .i64] (gi d 6).rows [.i (gi d 9).int]; let z4:=(((gi d 5).int.toNat:Nat):Int); let z5:=(((gi d 8).int.toNat:Nat):Int); (bif (aj (gi d 12).int (gi d 11).int) then (bif ((az (gi d 12).int)&&(aj (gi d 12).int (((gi d 10).rows.length:Nat):Int))) then (bif true then (bif (mQ (gi d 4).rows z2) then (bif true then (bif (mQ (gi d 7).rows z3) then (bif (ao ((gi d 12).int+1)) then some (none,[.l (gi d 0).rows,.i (gi d 1).int,.i (gi d 2).int,.l (gi d 3).rows,.l (uu (gi d 4).rows z2 [.int .i64] [.i (gi g 0).int] [.i (gi g 1).int]),.i z4,.l (gi d 6).rows,.l (uu (gi d 7).rows z3 [.int .i64] [.i (gi g 1).int] [.t true]),.i z5,.i (gi d 9).int,.l (gi d 10).rows,.i (gi d 11).int,.i ((gi d 12).int+1)]) else none) else none) else none) else none) else none) else none) else some (some 0,[.l (gi d 0).rows,.i (gi d 1).int,.i (gi d 2).int,.l (gi d 3).rows,.l (gi d 4).rows,.i z4,.l (gi d 6).rows,.l (gi d 7).rows,.i z5]))
def Tz:bq:=⟨3,[],⟨75,[(0,.s (.ptr 0 0)),(1,ad),(50,.s (.list [.int .i64,.int .i64])),(51,ad),(52,ad)],u7⟩,[.fix 0,.cell 0 3,.cell 0 4],[⟨.exit 0,⟨75,[],u7⟩,[.fix 0,.cell 0 3,.cell 0 4]⟩],zo⟩
theorem aih:cA P t93 (aA.iU [(1,[.uO,.uO])]) 3 (cF f165 3) Tz:=fun d=>by kernel_rfl
def TA:LT:=(aA.iU [(1,[.uO,.uO])]).add 3 Tz
theorem aii:ay P 3 TA (a6 f165):=ay.a hm JG (nM _) aih
def zp(d:List G):Option (List G) :=
 let g:=(((gi d 5).int.toNat:Nat):Int); let z2:=(((gi d 8).int.toNat:Nat):Int); let z3:=(gi d 3).rows++[[.l [[.i (gi d 9).int]],.i (-1),.i g]]; let z4:=(gi d 6).rows++[[.l [[.i (gi d 9).int]],.i (-1),.i z2]]; let z5:=(((gi d 0).rows.length:Nat):Int); (bif true then (bif (!(Option.isNone (lX [.int .i64] (gi d 3).rows [.i (gi d 9).int]))) then some [.l (gi d 0).rows,.i (gi d 1).int,.i (gi d 2).int,.l (gi d 3).rows,.l (gi d 4).rows,.i g,.l (gi d 6).rows,.l (gi d 7).rows,.i z2] else (bif (!dK [.int .i64] (gi d 3).rows [.i (gi d 9).int]) then (bif (uv z3 g) then (bif (!dK [.int .i64] (gi d 6).rows [.i (gi d 9).int]) then (bif (uv z4 z2) then (bif ((az (gi d 1).int)&&(aj (gi d 1).int z5)) then (bif ((az (gi d 9).int)&&(aj (gi d 9).int z5)) then (ar (yV [.l [(aT [.str,.list aq] ((gi d 0).rows.getD (((gi d 1).int).toNat) []))],.l [(aT [.str,.list aq] ((gi d 0).rows.getD (((gi d 9).int).toNat) []))],.i (gi d 2).int]) fun g1=>(aR true (bV zo [.l (gi d 0).rows,.i (gi d 1).int,.i (gi d 2).int,.l (uw z3 g ((gi d 4).rows.length)),.l ((gi d 4).rows++[[.l [],.i 0]]),.i ((((gi d 5).int.toNat+1):Nat):Int),.l (uw z4 z2 ((gi d 7).rows.length)),.l ((gi d 7).rows++[[.l [],.i 0]]),.i ((((gi d 8).int.toNat+1):Nat):Int),.i (gi d 9).int,.l (gi g1 0).rows,.i (((gi g1 0).rows.length:Nat):Int),.i 0]) fun k g2=>some [.l (gi g2 0).rows,.i (gi g2 1).int,.i (gi g2 2).int,.l (gi g2 3).rows,.l (gi g2 4).rows,.i (((gi g2 5).int.toNat:Nat):Int),.l (gi g2 6).rows,.l (gi g2 7).rows,.i (((gi g2 8).int.toNat:Nat):Int)])) else none) else none) else none) else none) else none) else none)) else none)
def JH:aH:=⟨165,[.s (.ptr 0 0),ad],[.box [.list [.str,.list aq],.int .i64,.int .i64,.map 1,.map 2],.mm 11 (.one (.int .i64)) (.one (.int .i64)) (.one (.int .i64)),.mm 12 (.one (.int .i64)) (.one (.int .i64)) (.one (.bool))],[.slot 0,.cell 0 3,.cell 0 4],[],[.box [.list [.str,.list aq],.int .i64,.int .i64,.map 1,.map 2],.mm 11 (.one (.int .i64)) (.one (.int .i64)) (.one (.int .i64)),.mm 12 (.one (.int .i64)) (.one (.int .i64)) (.one (.bool))],[.fix 0,.fix 1,.fix 2],[],zp⟩
theorem aij:aX P t93 TA f165 JH:=fun d=>by kernel_rfl
theorem aik:aY P JH:=aV hm JG func165 aii aij
def t94:au:=t93.du JH
theorem TB:aw P t94:=JG.aW aik

def zq(d:List G):Option (List G) :=
 (bif ((gi (gi d 0).row 4).int==(gi (gi d 1).row 5).int) then some [.t ((gi (gi d 0).row 6).str.toList==(gi (gi d 1).row 7).str.toList)] else some [.t false])
def JI:aH:=⟨166,[.s (.row aq),.s (.row aq)],[],[],[dj],[],[],[],zq⟩
theorem ail:aX P t94 aA f166 JI:=fun d=>by kernel_rfl
theorem aim:aY P JI:=aV hm TB func166 (aO _ _ _) ail
def t95:au:=t94.br JI
theorem sL:aw P t95:=TB.aP aim

def qy(d:List G):Option (Option Nat × List G) :=
 (bif (ao ((gi d 10).int+1)) then (bif ((ai (gi d 3).rows.length (gi d 3).rows.length)&&true) then some (some 0,[.l (gi d 0).rows,.l (gi d 1).rows,.l (gi d 2).rows,.l (gi d 3).rows,.s (gi d 4).str,.s (gi d 5).str,.i (gi d 6).int,.i (gi d 7).int,.i (gi d 8).int,.i (gi d 9).int,.i ((gi d 10).int+1)]) else none) else none)
def TC:bq:=⟨19,[],⟨129,yH,qw⟩,[.slot 5,.slot 7],[⟨.normal,⟨129,yH,qw⟩,[.slot 5,.slot 7]⟩],qy⟩
theorem ain:gx P t95 aA 0 (cutAt f191 19) TC:=fun d=>by kernel_rfl
def JJ:LT:=aA.eL 0 TC
theorem aio:ay P 0 JJ (a6 f191):=ay.aC hm sL (aO _ _ _) ain
def vO(d:List G):Option (Option Nat × List G) :=
 let z2:=((az (gi d 7).int)&&(aj (gi d 7).int (((gi d 3).rows.length:Nat):Int))); let z3:=decide ((0+((gi d 7).int).toNat)<(gi d 3).rows.length); let z4:=(gi d 7).int-2; let g:=(gi d 3).rows.set (0+((gi d 7).int).toNat) (dx [.int .i64] ((gi d 3).rows.getD (0+((gi d 7).int).toNat) []) 0 [.i (if ((gi ((gi d 1).rows.getD (z4.toNat) []) 0).int+1)<(gi ((gi d 3).rows.getD (0+((gi d 7).int).toNat) []) 0).int then ((gi ((gi d 1).rows.getD (z4.toNat) []) 0).int+1) else (gi ((gi d 3).rows.getD (0+((gi d 7).int).toNat) []) 0).int)]); (bif (gi d 12).bool then (bif z2 then (bif z3 then (bif (ao z4) then (bif ((az z4)&&(aj z4 (((gi d 1).rows.length:Nat):Int))) then (bif (ao ((gi ((gi d 1).rows.getD (z4.toNat) []) 0).int+1)) then (bif z2 then (bif z3 then (bif ((ai (gi d 3).rows.length g.length)&&true) then some (some 0,[.l (gi d 0).rows,.l (gi d 1).rows,.l (gi d 2).rows,.l g,.s (gi d 4).str,.s (gi d 5).str,.i (gi d 6).int,.i (gi d 8).int,.i (gi d 9).int,.i (gi d 10).int,.i (gi d 11).int]) else none) else none) else none) else none) else none) else none) else none) else none) else (bif ((ai (gi d 3).rows.length (gi d 3).rows.length)&&true) then some (some 0,[.l (gi d 0).rows,.l (gi d 1).rows,.l (gi d 2).rows,.l (gi d 3).rows,.s (gi d 4).str,.s (gi d 5).str,.i (gi d 6).int,.i (gi d 8).int,.i (gi d 9).int,.i (gi d 10).int,.i (gi d 11).int]) else none))
def TD:bq:=⟨18,[],⟨129,[(0,cO),(1,cO),(5,.s (.ptr 0 0)),(6,ad),(7,.s (.vec 1 1)),(8,ad),(12,ad),(13,ad),(21,ad),(22,ad),(99,dj)],qw⟩,[.slot 5,.slot 7],[⟨.normal,⟨129,yH,qw⟩,[.slot 5,.slot 7]⟩],vO⟩
theorem aip:gx P t95 JJ 0 (cutAt f191 18) TD:=fun d=>by kernel_rfl
def JK:LT:=JJ.eL 0 TD
theorem aiq:ay P 0 JK (a6 f191):=ay.aC hm sL aio aip
def vP(d:List G):Option (Option Nat × List G) :=
 let z3:=(gi d 7).int-1; let q:=(gi d 3).rows.set (0+((gi d 7).int).toNat) (dx [.int .i64] ((gi d 3).rows.getD (0+((gi d 7).int).toNat) []) 0 [.i (if ((gi ((gi d 2).rows.getD (z3.toNat) []) 0).int+(gi d 8).int)<(if ((gi ((gi d 3).rows.getD (0+z3.toNat) []) 0).int+1)<((gi ((gi d 2).rows.getD (((gi d 7).int).toNat) []) 0).int+1) then ((gi ((gi d 3).rows.getD (0+z3.toNat) []) 0).int+1) else ((gi ((gi d 2).rows.getD (((gi d 7).int).toNat) []) 0).int+1)) then ((gi ((gi d 2).rows.getD (z3.toNat) []) 0).int+(gi d 8).int) else (if ((gi ((gi d 3).rows.getD (0+z3.toNat) []) 0).int+1)<((gi ((gi d 2).rows.getD (((gi d 7).int).toNat) []) 0).int+1) then ((gi ((gi d 3).rows.getD (0+z3.toNat) []) 0).int+1) else ((gi ((gi d 2).rows.getD (((gi d 7).int).toNat) []) 0).int+1)))]); let z2:=cG (vO [.l (gi d 0).rows,.l (gi d 1).rows,.l (gi d 2).rows,.l q,.s (gi d 4).str,.s (gi d 5).str,.i (gi d 6).int,.i (gi d 7).int,.i (gi d 9).int,.i (gi d 10).int,.i (gi d 11).int,.i (gi d 12).int,.t false]); let z4:=(ai (gi d 3).rows.length q.length)&&true; let z5:=(gi d 6).int-1; let g:=(gi d 7).int-2; let k:=(gi d 6).int-2; let y:=(((gi d 2).rows.length:Nat):Int); let z9:=(((gi d 3).rows.length:Nat):Int); let u:=(((gi d 4).str.size:Nat):Int); let v:=(((gi d 5).str.size:Nat):Int); (bif ((az (gi d 7).int)&&(aj (gi d 7).int y)) then (bif (ao ((gi ((gi d 2).rows.getD (((gi d 7).int).toNat) []) 0).int+1)) then (bif (ao z3) then (bif ((az z3)&&(aj z3 z9)) then (bif (decide ((0+z3.toNat)<(gi d 3).rows.length)) then (bif (ao ((gi ((gi d 3).rows.getD (0+z3.toNat) []) 0).int+1)) then (bif (ao z3) then (bif ((az z3)&&(aj z3 y)) then (bif (ao ((gi ((gi d 2).rows.getD (z3.toNat) []) 0).int+(gi d 8).int)) then (bif ((az (gi d 7).int)&&(aj (gi d 7).int z9)) then (bif (decide ((0+((gi d 7).int).toNat)<(gi d 3).rows.length)) then (bif (aj 1 (gi d 6).int) then (bif (aj 1 (gi d 7).int) then (bif (ao z5) then (bif ((az z5)&&(aj z5 u)) then (bif (ao g) then (bif ((az g)&&(aj g v)) then (bif ((((gi d 4).str.data.toList.getD (z5.toNat) 0).toNat:Int)==(((gi d 5).str.data.toList.getD (g.toNat) 0).toNat:Int)) then (bif (ao k) then (bif ((az k)&&(aj k u)) then (bif (ao z3) then (bif ((az z3)&&(aj z3 v)) then (aR z4 (cG (vO [.l (gi d 0).rows,.l (gi d 1).rows,.l (gi d 2).rows,.l q,.s (gi d 4).str,.s (gi d 5).str,.i (gi d 6).int,.i (gi d 7).int,.i (gi d 9).int,.i (gi d 10).int,.i (gi d 11).int,.i (gi d 12).int,.t ((((gi d 4).str.data.toList.getD (k.toNat) 0).toNat:Int)==(((gi d 5).str.data.toList.getD (z3.toNat) 0).toNat:Int))])) fun I g3=>(bif ((ai (gi g3 3).rows.length (gi g3 3).rows.length)&&true) then some (some 0,[.l (gi g3 0).rows,.l (gi g3 1).rows,.l (gi g3 2).rows,.l (gi g3 3).rows,.s (gi g3 4).str,.s (gi g3 5).str,.i (gi g3 6).int,.i (gi g3 7).int,.i (gi g3 8).int,.i (gi g3 9).int,.i (gi g3 10).int]) else none)) else none) else none) else none) else none) else (aR z4 z2 fun M g4=>(bif ((ai (gi g4 3).rows.length (gi g4 3).rows.length)&&true) then some (some 0,[.l (gi g4 0).rows,.l (gi g4 1).rows,.l (gi g4 2).rows,.l (gi g4 3).rows,.s (gi g4 4).str,.s (gi g4 5).str,.i (gi g4 6).int,.i (gi g4 7).int,.i (gi g4 8).int,.i (gi g4 9).int,.i (gi g4 10).int]) else none))) else none) else none) else none) else none) else (aR z4 z2 fun N g5=>(bif ((ai (gi g5 3).rows.length (gi g5 3).rows.length)&&true) then some (some 0,[.l (gi g5 0).rows,.l (gi g5 1).rows,.l (gi g5 2).rows,.l (gi g5 3).rows,.s (gi g5 4).str,.s (gi g5 5).str,.i (gi g5 6).int,.i (gi g5 7).int,.i (gi g5 8).int,.i (gi g5 9).int,.i (gi g5 10).int]) else none))) else (aR z4 z2 fun O g6=>(bif ((ai (gi g6 3).rows.length (gi g6 3).rows.length)&&true) then some (some 0,[.l (gi g6 0).rows,.l (gi g6 1).rows,.l (gi g6 2).rows,.l (gi g6 3).rows,.s (gi g6 4).str,.s (gi g6 5).str,.i (gi g6 6).int,.i (gi g6 7).int,.i (gi g6 8).int,.i (gi g6 9).int,.i (gi g6 10).int]) else none))) else none) else none) else none) else none) else none) else none) else none) else none) else none) else none) else none)
def TE:bq:=⟨16,[],⟨129,[(0,cO),(1,cO),(5,.s (.ptr 0 0)),(6,ad),(7,.s (.vec 1 1)),(8,ad),(9,ad),(12,ad),(13,ad),(21,ad),(22,ad)],qw⟩,[.slot 5,.slot 7],[⟨.normal,⟨129,yH,qw⟩,[.slot 5,.slot 7]⟩],vP⟩
theorem air:gx P t95 JK 0 (cutAt f191 16) TE:=fun d=>by kernel_rfl
def JL:LT:=JK.eL 0 TE
theorem ais:ay P 0 JL (a6 f191):=ay.aC hm sL aiq air
def vQ(d:List G):Option (Option Nat × List G) :=
 let g:=0+((gi d 10).int).toNat; let z2:=(ai (gi d 3).rows.length (gi d 3).rows.length)&&true; let z3:=(gi d 3).rows.set g (dx [.int .i64] ((gi d 3).rows.getD g []) 0 [.i (gi d 10).int]); let z4:=(gi d 3).rows.set g (dx [.int .i64] ((gi d 3).rows.getD g []) 0 [.i (gi d 6).int]); let z5:=((az (gi d 10).int)&&(aj (gi d 10).int (((gi d 3).rows.length:Nat):Int))); let k:=(gi d 10).int-1; let q:=(gi d 6).int-1; let u:=decide (g<(gi d 3).rows.length); (bif (aj (gi d 10).int (gi d 9).int) then (bif ((gi d 6).int==0) then (bif z5 then (bif u then (aR ((ai (gi d 3).rows.length z3.length)&&true) (cG (qy [.l (gi d 0).rows,.l (gi d 1).rows,.l (gi d 2).rows,.l z3,.s (gi d 4).str,.s (gi d 5).str,.i (gi d 6).int,.i (gi d 7).int,.i (gi d 8).int,.i (gi d 9).int,.i (gi d 10).int])) fun y g1=>(bif ((ai (gi g1 3).rows.length (gi g1 3).rows.length)&&true) then some (none,[.l (gi g1 0).rows,.l (gi g1 1).rows,.l (gi g1 2).rows,.l (gi g1 3).rows,.s (gi g1 4).str,.s (gi g1 5).str,.i (gi g1 6).int,.i (gi g1 7).int,.i (gi g1 8).int,.i (gi g1 9).int,.i (gi g1 10).int]) else none)) else none) else none) else (bif ((gi d 10).int==0) then (bif z5 then (bif u then (aR ((ai (gi d 3).rows.length z4.length)&&true) (cG (qy [.l (gi d 0).rows,.l (gi d 1).rows,.l (gi d 2).rows,.l z4,.s (gi d 4).str,.s (gi d 5).str,.i (gi d 6).int,.i (gi d 7).int,.i (gi d 8).int,.i (gi d 9).int,.i (gi d 10).int])) fun I g2=>(bif ((ai (gi g2 3).rows.length (gi g2 3).rows.length)&&true) then some (none,[.l (gi g2 0).rows,.l (gi g2 1).rows,.l (gi g2 2).rows,.l (gi g2 3).rows,.s (gi g2 4).str,.s (gi g2 5).str,.i (gi g2 6).int,.i (gi g2 7).int,.i (gi g2 8).int,.i (gi g2 9).int,.i (gi g2 10).int]) else none)) else none) else none) else (bif (ao q) then (bif ((az q)&&(aj q (((gi d 4).str.size:Nat):Int))) then (bif (ao k) then (bif ((az k)&&(aj k (((gi d 5).str.size:Nat):Int))) then (bif ((((gi d 4).str.data.toList.getD (q.toNat) 0).toNat:Int)==(((gi d 5).str.data.toList.getD (k.toNat) 0).toNat:Int)) then (aR z2 (cG (vP [.l (gi d 0).rows,.l (gi d 1).rows,.l (gi d 2).rows,.l (gi d 3).rows,.s (gi d 4).str,.s (gi d 5).str,.i (gi d 6).int,.i (gi d 10).int,.i 0,.i (gi d 7).int,.i (gi d 8).int,.i (gi d 9).int,.i (gi d 10).int])) fun M g7=>(aR ((ai (gi g7 3).rows.length (gi g7 3).rows.length)&&true) (cG (qy [.l (gi g7 0).rows,.l (gi g7 1).rows,.l (gi g7 2).rows,.l (gi g7 3).rows,.s (gi g7 4).str,.s (gi g7 5).str,.i (gi g7 6).int,.i (gi g7 7).int,.i (gi g7 8).int,.i (gi g7 9).int,.i (gi g7 10).int])) fun N g8=>(bif ((ai (gi g8 3).rows.length (gi g8 3).rows.length)&&true) then some (none,[.l (gi g8 0).rows,.l (gi g8 1).rows,.l (gi g8 2).rows,.l (gi g8 3).rows,.s (gi g8 4).str,.s (gi g8 5).str,.i (gi g8 6).int,.i (gi g8 7).int,.i (gi g8 8).int,.i (gi g8 9).int,.i (gi g8 10).int]) else none))) else (aR z2 (cG (vP [.l (gi d 0).rows,.l (gi d 1).rows,.l (gi d 2).rows,.l (gi d 3).rows,.s (gi d 4).str,.s (gi d 5).str,.i (gi d 6).int,.i (gi d 10).int,.i 1,.i (gi d 7).int,.i (gi d 8).int,.i (gi d 9).int,.i (gi d 10).int])) fun O g9=>(aR ((ai (gi g9 3).rows.length (gi g9 3).rows.length)&&true) (cG (qy [.l (gi g9 0).rows,.l (gi g9 1).rows,.l (gi g9 2).rows,.l (gi g9 3).rows,.s (gi g9 4).str,.s (gi g9 5).str,.i (gi g9 6).int,.i (gi g9 7).int,.i (gi g9 8).int,.i (gi g9 9).int,.i (gi g9 10).int])) fun v g10=>(bif ((ai (gi g10 3).rows.length (gi g10 3).rows.length)&&true) then some (none,[.l (gi g10 0).rows,.l (gi g10 1).rows,.l (gi g10 2).rows,.l (gi g10 3).rows,.s (gi g10 4).str,.s (gi g10 5).str,.i (gi g10 6).int,.i (gi g10 7).int,.i (gi g10 8).int,.i (gi g10 9).int,.i (gi g10 10).int]) else none)))) else none) else none) else none) else none))) else (bif z2 then some (some 0,[.l (gi d 0).rows,.l (gi d 1).rows,.l (gi d 2).rows,.l (gi d 3).rows,.s (gi d 4).str,.s (gi d 5).str,.i (gi d 7).int,.i (gi d 8).int]) else none))
def TF:bq:=⟨7,[],⟨129,yH,qw⟩,[.slot 5,.slot 7],[⟨.exit 2,⟨129,[(0,cO),(1,cO),(5,.s (.ptr 0 0)),(7,.s (.vec 1 1)),(12,ad),(13,ad)],qw⟩,[.slot 5,.slot 7]⟩],vQ⟩
theorem ait:cA P t95 JL 0 (cF f191 7) TF:=fun d=>by kernel_rfl
def JM:LT:=JL.add 0 TF
theorem aiu:ay P 0 JM (a6 f191):=ay.a hm sL ais ait
def vR(d:List G):Option (Option Nat × List G) :=
 let g:=((((gi d 4).str.size:Nat):Int)+1); let z2:=(bQ (g.toNat) ([.i 0]:List G)); (bif (aj (gi d 6).int (gi d 5).int) then (bif (ao g) then (bif ((az g)&&((aZ g g)&&(aZ g 1048576))) then (aR ((ai g.toNat z2.length)&&true) (bV vQ [.l (gi d 0).rows,.l (gi d 1).rows,.l (gi d 2).rows,.l z2,.s (gi d 3).str,.s (gi d 4).str,.i (gi d 6).int,.i (gi d 5).int,.i (gi d 6).int,.i ((g.toNat:Nat):Int),.i 0]) fun k g11=>(bif (ao ((gi g11 7).int+1)) then (bif ((((ai (gi g11 3).rows.length (gi g11 3).rows.length)&&true)&&true)&&true) then some (none,[.l (gi g11 1).rows,.l (gi g11 2).rows,.l (gi g11 3).rows,.s (gi g11 4).str,.s (gi g11 5).str,.i (gi g11 6).int,.i ((gi g11 7).int+1)]) else none) else none)) else none) else none) else some (some 0,[.l (gi d 0).rows,.l (gi d 1).rows,.l (gi d 2).rows,.s (gi d 4).str]))
def TG:bq:=⟨3,[],⟨129,[(0,cO),(1,cO),(5,.s (.ptr 0 0)),(12,ad),(13,ad)],[.box [.list [.int .i64],.list [.int .i64],.list [.int .i64]]]⟩,[.slot 5],[⟨.exit 0,⟨129,[(1,cO),(5,.s (.ptr 0 0))],[.box [.list [.int .i64],.list [.int .i64],.list [.int .i64]]]⟩,[.slot 5]⟩],vR⟩
theorem aiv:cA P t95 JM 0 (cF f191 3) TG:=fun d=>by kernel_rfl
def TH:LT:=JM.add 0 TG
theorem aiw:ay P 0 TH (a6 f191):=ay.a hm sL aiu aiv
def Dj(d:List G):Option (List G) :=
 let g:=((((gi d 0).str.size:Nat):Int)+1); (bif (ao g) then (aR true (bV vR [.l [],.l [],.l [],.s (gi d 0).str,.s (gi d 1).str,.i g,.i 0]) fun k g12=>let z2:=(((gi g12 3).str.size:Nat):Int); (bif ((az z2)&&(aj z2 (((gi g12 2).rows.length:Nat):Int))) then some [.i (gi ((gi g12 2).rows.getD ((gi g12 3).str.size) []) 0).int] else none)) else none)
def JN:aH:=⟨191,[cO,cO],[],[],[ad],[],[],[],Dj⟩
theorem aix:aX P t95 TH f191 JN:=fun d=>by kernel_rfl
theorem aiy:aY P JN:=aV hm sL func191 aiw aix
def t96:au:=t95.br JN
theorem JO:aw P t96:=sL.aP aiy

end
end Go.Proofs.iy
