/-
 What is proved here: functions of the program as functions on data. No condition.
-/
import Derived.Test.YtiljbnkkhbennaaGreatDoorML2
set_option linter.all false
open Nat renaming beq→ab
namespace Go.Proofs.gl
open Go Go.AL Go.Proofs Tryz
noncomputable section
def oT(d:List G):Option (Option Nat × List G) :=
 let k:=((gi d 2).rows++([[.s (gi d 5).str,.i (gi d 6).int,.i (gi d 7).int,.i (gi d 8).int,.i (gi d 9).int,.i (gi d 10).int,.s (gi d 11).str,.s (gi d 12).str,.i (gi d 13).int,.i (gi d 14).int,.s (gi d 15).str,.s (gi d 16).str,.s (gi d 17).str,.s (gi d 18).str,.i (gi d 19).int]]:List (List G))); (bif ((ab (gi d 2).rows.length (gi d 2).rows.length)&&(decide (((gi d 2).rows.length+1)≤1048576))) then (bif ((ab k.length k.length)&&true) then some (some 0,[.l (gi d 0).rows,.i (gi d 1).int,.l k,.l (gi d 3).rows,.i (((gi d 4).int.toNat:Nat):Int),.i (gi d 20).int,.i (gi d 21).int,.i (gi d 22).int]) else none) else none)
def Rw:be:=⟨28,[],⟨115,[(0,.s (.ptr 0 0)),(5,.s (.vec 1 15)),(6,.s (.int .i64)),(7,.s (.map 2)),(8,.s (.ptr 3 0)),(10,.s (.int .i64)),(11,.s (.int .i64))],[.box [.list [.int .i64],.int .i64],.vec aF 0,.map (.one (.str)) (.one (.int .i64)),.box [.str,.int .i64,.int .i64,.int .i64,.int .i64,.int .i64,.str,.str,.int .i64,.int .i64,.str,.str,.str,.str,.int .i64]]⟩,[.fix 0,.slot 5,.slot 7,.slot 8],[⟨.normal,⟨115,[(0,.s (.ptr 0 0)),(5,.s (.vec 1 15)),(6,.s (.int .i64)),(7,.s (.map 2)),(10,.s (.int .i64)),(11,.s (.int .i64))],[.box [.list [.int .i64],.int .i64],.vec aF 0,.map (.one (.str)) (.one (.int .i64))]⟩,[.fix 0,.slot 5,.slot 7]⟩],oT⟩
theorem ae7:fm P t50 ay 1 (cutAt f14 28) Rw:=fun d=>by kernel_rfl
def Hh:LT:=ay.eP 1 Rw
theorem ae8:ax P 1 Hh (aQ f14):=ax.aC hm ux (aL _ _ _) ae7
def qm(d:List G):Option (Option Nat × List G) :=
 let k:=(ab (gi d 2).rows.length (gi d 2).rows.length)&&true; let z2:=(((gi d 4).int.toNat:Nat):Int); let z3:=(⟨#[]⟩:ByteArray); let z4:=(⟨#[115,97]⟩:ByteArray); (ar (r8 [.l (gi d 0).rows,.i (gi d 1).int,.i 100]) fun g6=>(bif (gi g6 2).bool then (ar (oS [.l (gi g6 0).rows,.i (gi g6 1).int,.i 4]) fun g7=>(bif ((gi g7 2).int==0) then (ar (iu [.l (gi g7 0).rows,.i (gi g7 1).int,.l [[.s z3],[.s z4]]]) fun g8=>(ar (mf [.l (gi g8 0).rows,.i (gi g8 1).int,.i 1,.i 9]) fun g9=>(aO k (cf (oT [.l (gi g9 0).rows,.i (gi g9 1).int,.l (gi d 2).rows,.l (gi d 3).rows,.i z2,.s (gi g8 2).str,.i (gi g9 2).int,.i (gi d 7).int,.i (gi d 8).int,.i (gi d 9).int,.i (gi d 10).int,.s (gi d 11).str,.s (gi d 12).str,.i (gi d 13).int,.i (gi d 14).int,.s (gi d 15).str,.s (gi d 16).str,.s (gi d 17).str,.s (gi d 18).str,.i (gi d 19).int,.i (gi d 20).int,.i (gi d 21).int,.i (gi d 22).int])) fun q g10=>(bif ((ab (gi g10 2).rows.length (gi g10 2).rows.length)&&true) then some (some 0,[.l (gi g10 0).rows,.i (gi g10 1).int,.l (gi g10 2).rows,.l (gi g10 3).rows,.i (((gi g10 4).int.toNat:Nat):Int),.i (gi g10 5).int,.i (gi g10 6).int,.i (gi g10 7).int]) else none)))) else (bif ((gi g7 2).int==1) then (ar (mf [.l (gi g7 0).rows,.i (gi g7 1).int,.i 1,.i 5]) fun g11=>(aO k (cf (oT [.l (gi g11 0).rows,.i (gi g11 1).int,.l (gi d 2).rows,.l (gi d 3).rows,.i z2,.s (gi d 5).str,.i (gi d 6).int,.i (gi d 7).int,.i (gi g11 2).int,.i (gi d 9).int,.i (gi d 10).int,.s (gi d 11).str,.s (gi d 12).str,.i (gi d 13).int,.i (gi d 14).int,.s (gi d 15).str,.s (gi d 16).str,.s (gi d 17).str,.s (gi d 18).str,.i (gi d 19).int,.i (gi d 20).int,.i (gi d 21).int,.i (gi d 22).int])) fun B g12=>(bif ((ab (gi g12 2).rows.length (gi g12 2).rows.length)&&true) then some (some 0,[.l (gi g12 0).rows,.i (gi g12 1).int,.l (gi g12 2).rows,.l (gi g12 3).rows,.i (((gi g12 4).int.toNat:Nat):Int),.i (gi g12 5).int,.i (gi g12 6).int,.i (gi g12 7).int]) else none))) else (bif ((gi g7 2).int==2) then (ar (iu [.l (gi g7 0).rows,.i (gi g7 1).int,.l [[.s z3],[.s (⟨#[98,50,48]⟩:ByteArray)]]]) fun g13=>(ar (iu [.l (gi g13 0).rows,.i (gi g13 1).int,.l [[.s z3],[.s z4]]]) fun g14=>(aO k (cf (oT [.l (gi g14 0).rows,.i (gi g14 1).int,.l (gi d 2).rows,.l (gi d 3).rows,.i z2,.s (gi d 5).str,.i (gi d 6).int,.i (gi d 7).int,.i (gi d 8).int,.i (gi d 9).int,.i (gi d 10).int,.s (gi d 11).str,.s (gi d 12).str,.i (gi d 13).int,.i (gi d 14).int,.s (gi d 15).str,.s (gi d 16).str,.s (gi g13 2).str,.s (gi g14 2).str,.i (gi d 19).int,.i (gi d 20).int,.i (gi d 21).int,.i (gi d 22).int])) fun I g15=>(bif ((ab (gi g15 2).rows.length (gi g15 2).rows.length)&&true) then some (some 0,[.l (gi g15 0).rows,.i (gi g15 1).int,.l (gi g15 2).rows,.l (gi g15 3).rows,.i (((gi g15 4).int.toNat:Nat):Int),.i (gi g15 5).int,.i (gi g15 6).int,.i (gi g15 7).int]) else none)))) else (ar (mf [.l (gi g7 0).rows,.i (gi g7 1).int,.i 1,.i 99999]) fun g16=>(ar (mf [.l (gi g16 0).rows,.i (gi g16 1).int,.i 0,.i 5]) fun g17=>(aO k (cf (oT [.l (gi g17 0).rows,.i (gi g17 1).int,.l (gi d 2).rows,.l (gi d 3).rows,.i z2,.s (gi d 5).str,.i (gi d 6).int,.i (gi d 7).int,.i (gi d 8).int,.i (gi d 9).int,.i (gi d 10).int,.s (gi d 11).str,.s (gi d 12).str,.i (gi g16 2).int,.i (gi d 14).int,.s (gi d 15).str,.s (gi d 16).str,.s (gi d 17).str,.s (gi d 18).str,.i (gi g17 2).int,.i (gi d 20).int,.i (gi d 21).int,.i (gi d 22).int])) fun J g18=>(bif ((ab (gi g18 2).rows.length (gi g18 2).rows.length)&&true) then some (some 0,[.l (gi g18 0).rows,.i (gi g18 1).int,.l (gi g18 2).rows,.l (gi g18 3).rows,.i (((gi g18 4).int.toNat:Nat):Int),.i (gi g18 5).int,.i (gi g18 6).int,.i (gi g18 7).int]) else none)))))))) else (aO k (cf (oT [.l (gi g6 0).rows,.i (gi g6 1).int,.l (gi d 2).rows,.l (gi d 3).rows,.i z2,.s (gi d 5).str,.i (gi d 6).int,.i (gi d 7).int,.i (gi d 8).int,.i (gi d 9).int,.i (gi d 10).int,.s (gi d 11).str,.s (gi d 12).str,.i (gi d 13).int,.i (gi d 14).int,.s (gi d 15).str,.s (gi d 16).str,.s (gi d 17).str,.s (gi d 18).str,.i (gi d 19).int,.i (gi d 20).int,.i (gi d 21).int,.i (gi d 22).int])) fun M g19=>(bif ((ab (gi g19 2).rows.length (gi g19 2).rows.length)&&true) then some (some 0,[.l (gi g19 0).rows,.i (gi g19 1).int,.l (gi g19 2).rows,.l (gi g19 3).rows,.i (((gi g19 4).int.toNat:Nat):Int),.i (gi g19 5).int,.i (gi g19 6).int,.i (gi g19 7).int]) else none))))
def Rx:be:=⟨19,[],⟨115,[(0,.s (.ptr 0 0)),(5,.s (.vec 1 15)),(6,.s (.int .i64)),(7,.s (.map 2)),(8,.s (.ptr 3 0)),(10,.s (.int .i64)),(11,.s (.int .i64))],[.box [.list [.int .i64],.int .i64],.vec aF 0,.map (.one (.str)) (.one (.int .i64)),.box [.str,.int .i64,.int .i64,.int .i64,.int .i64,.int .i64,.str,.str,.int .i64,.int .i64,.str,.str,.str,.str,.int .i64]]⟩,[.fix 0,.slot 5,.slot 7,.slot 8],[⟨.normal,⟨115,[(0,.s (.ptr 0 0)),(5,.s (.vec 1 15)),(6,.s (.int .i64)),(7,.s (.map 2)),(10,.s (.int .i64)),(11,.s (.int .i64))],[.box [.list [.int .i64],.int .i64],.vec aF 0,.map (.one (.str)) (.one (.int .i64))]⟩,[.fix 0,.slot 5,.slot 7]⟩],qm⟩
theorem ae9:fm P t50 Hh 1 (cutAt f14 19) Rx:=fun d=>by kernel_rfl
def Hk:LT:=Hh.eP 1 Rx
theorem ae_:ax P 1 Hk (aQ f14):=ax.aC hm ux ae8 ae9
def xE(d:List G):Option (Option Nat × List G) :=
 let z2:=(ab (gi d 2).rows.length (gi d 2).rows.length)&&true; let z3:=(((gi d 4).int.toNat:Nat):Int); let z4:=(⟨#[115,97]⟩:ByteArray); let q:=gi (bZ [.str] (gi d 3).rows [.s z4] [.i 0]) 0; (bif (gi d 23).bool then (ar (ql [.l (gi d 0).rows,.i (gi d 1).int,.i 1,.i 7]) fun g23=>(bif z2 then some (some 0,[.l (gi g23 0).rows,.i (gi g23 1).int,.l (gi d 2).rows,.l (gi d 3).rows,.i z3,.s (gi d 5).str,.i (gi d 6).int,.i (gi d 7).int,.i (gi d 8).int,.i (gi d 9).int,.i (gi d 10).int,.s (gi d 11).str,.s (gi d 12).str,.i (gi g23 2).int,.i (gi d 14).int,.s (gi d 15).str,.s (gi d 16).str,.s (gi d 17).str,.s (gi d 18).str,.i (gi d 19).int,.i (gi d 20).int,.i (gi d 21).int,.i (gi d 22).int]) else none)) else (ar (iu [.l (gi d 0).rows,.i (gi d 1).int,.l [[.s z4],[.s z4],[.s (⟨#[115,98]⟩:ByteArray)]]]) fun g24=>(ar (ql [.l (gi g24 0).rows,.i (gi g24 1).int,.i 1,.i (if q.int>1 then q.int else 1)]) fun k=>(bif z2 then some (some 0,[.l (gi k 0).rows,.i (gi k 1).int,.l (gi d 2).rows,.l (gi d 3).rows,.i z3,.s (gi d 5).str,.i (gi d 6).int,.i (gi d 7).int,.i (gi d 8).int,.i (gi d 9).int,.i (gi d 10).int,.s (gi d 11).str,.s (gi d 12).str,.i (gi d 13).int,.i (gi d 14).int,.s (gi d 15).str,.s (gi d 16).str,.s (gi d 17).str,.s (gi g24 2).str,.i (gi k 2).int,.i (gi d 20).int,.i (gi d 21).int,.i (gi d 22).int]) else none))))
def Ry:be:=⟨18,[],⟨115,[(0,.s (.ptr 0 0)),(5,.s (.vec 1 15)),(6,.s (.int .i64)),(7,.s (.map 2)),(8,.s (.ptr 3 0)),(10,.s (.int .i64)),(11,.s (.int .i64)),(65,.s (.bool))],[.box [.list [.int .i64],.int .i64],.vec aF 0,.map (.one (.str)) (.one (.int .i64)),.box [.str,.int .i64,.int .i64,.int .i64,.int .i64,.int .i64,.str,.str,.int .i64,.int .i64,.str,.str,.str,.str,.int .i64]]⟩,[.fix 0,.slot 5,.slot 7,.slot 8],[⟨.normal,⟨115,[(0,.s (.ptr 0 0)),(5,.s (.vec 1 15)),(6,.s (.int .i64)),(7,.s (.map 2)),(8,.s (.ptr 3 0)),(10,.s (.int .i64)),(11,.s (.int .i64))],[.box [.list [.int .i64],.int .i64],.vec aF 0,.map (.one (.str)) (.one (.int .i64)),.box [.str,.int .i64,.int .i64,.int .i64,.int .i64,.int .i64,.str,.str,.int .i64,.int .i64,.str,.str,.str,.str,.int .i64]]⟩,[.fix 0,.slot 5,.slot 7,.slot 8]⟩],xE⟩
theorem ae':fm P t50 Hk 1 (cutAt f14 18) Ry:=fun d=>by kernel_rfl
def Hl:LT:=Hk.eP 1 Ry
theorem afa:ax P 1 Hl (aQ f14):=ax.aC hm ux ae_ ae'
def uy(d:List G):Option (Option Nat × List G) :=
 let B:=(⟨#[]⟩:ByteArray); let z2:=(ab (gi d 2).rows.length (gi d 2).rows.length)&&true; let z3:=(⟨#[115,97]⟩:ByteArray); (bif (ao (gi d 7).int (gi d 6).int) then (ar (nC [.l (gi d 0).rows,.i (gi d 1).int,.l [[.i 0],[.i 1],[.i 5]]]) fun g1=>let z4:=(gi d 5).int+(gi g1 2).int; (bif (aw z4) then (ar (iu [.l (gi g1 0).rows,.i (gi g1 1).int,.l [[.s z3],[.s z3],[.s (⟨#[115,98]⟩:ByteArray)],[.s (⟨#[115,99]⟩:ByteArray)]]]) fun g2=>let z5:=dv [.str] (gi d 3).rows [.s (gi g2 2).str] [.i ((gi (bZ [.str] (gi d 3).rows [.s (gi g2 2).str] [.i 0]) 0).int+1)] (gi d 4).int.toNat; let M:=(((dM [.str] (gi d 3).rows [.s (gi g2 2).str] (gi d 4).int.toNat):Nat):Int); let N:=gi (bZ [.str] z5 [.s (gi g2 2).str] [.i 0]) 0; (ar (nC [.l (gi g2 0).rows,.i (gi g2 1).int,.l [[.i 1],[.i 1],[.i 1],[.i 1],[.i 2],[.i 3],[.i 3],[.i 4],[.i 5]]]) fun g3=>(bif (aw ((gi (bZ [.str] (gi d 3).rows [.s (gi g2 2).str] [.i 0]) 0).int+1)) then (bif ((gi g3 2).int==1) then (bif (aw (z4-3)) then (ar (ql [.l (gi g3 0).rows,.i (gi g3 1).int,.i (if (z4-3)>0 then (z4-3) else 0),.i z4]) fun g4=>(ar (BP [.l (gi g4 0).rows,.i (gi g4 1).int,.i (gi g4 2).int]) fun g5=>(aO z2 (cf (qm [.l (gi g5 0).rows,.i (gi g5 1).int,.l (gi d 2).rows,.l z5,.i M,.s (gi g2 2).str,.i N.int,.i z4,.i (gi g3 2).int,.i (gi (gi g5 2).row 0).int,.i (gi (gi g5 2).row 1).int,.s (gi (gi g5 2).row 2).str,.s (gi (gi g5 2).row 3).str,.i (gi (gi g5 2).row 4).int,.i (gi (gi g5 2).row 5).int,.s (gi (gi g5 2).row 6).str,.s (gi (gi g5 2).row 7).str,.s B,.s B,.i 0,.i z4,.i (gi d 6).int,.i (gi d 7).int])) fun O g20=>(bif (aw ((gi g20 7).int+1)) then (bif ((ab (gi g20 2).rows.length (gi g20 2).rows.length)&&true) then some (none,[.l (gi g20 0).rows,.i (gi g20 1).int,.l (gi g20 2).rows,.l (gi g20 3).rows,.i (((gi g20 4).int.toNat:Nat):Int),.i (gi g20 5).int,.i (gi g20 6).int,.i ((gi g20 7).int+1)]) else none) else none)))) else none) else (bif ((gi g3 2).int==2) then (ar (iu [.l (gi g3 0).rows,.i (gi g3 1).int,.l [[.s (⟨#[98,50,48]⟩:ByteArray)],[.s (⟨#[98,52,48]⟩:ByteArray)]]]) fun g21=>(aO z2 (cf (qm [.l (gi g21 0).rows,.i (gi g21 1).int,.l (gi d 2).rows,.l z5,.i M,.s (gi g2 2).str,.i N.int,.i z4,.i (gi g3 2).int,.i 0,.i 0,.s B,.s B,.i 0,.i 0,.s B,.s B,.s (gi g21 2).str,.s B,.i 0,.i z4,.i (gi d 6).int,.i (gi d 7).int])) fun U g22=>(bif (aw ((gi g22 7).int+1)) then (bif ((ab (gi g22 2).rows.length (gi g22 2).rows.length)&&true) then some (none,[.l (gi g22 0).rows,.i (gi g22 1).int,.l (gi g22 2).rows,.l (gi g22 3).rows,.i (((gi g22 4).int.toNat:Nat):Int),.i (gi g22 5).int,.i (gi g22 6).int,.i ((gi g22 7).int+1)]) else none) else none))) else (bif ((gi g3 2).int==3) then (aO z2 (cf (xE [.l (gi g3 0).rows,.i (gi g3 1).int,.l (gi d 2).rows,.l z5,.i M,.s (gi g2 2).str,.i N.int,.i z4,.i (gi g3 2).int,.i 0,.i 0,.s B,.s B,.i 0,.i 0,.s B,.s B,.s B,.s B,.i 0,.i z4,.i (gi d 6).int,.i (gi d 7).int,.t ((gi g3 2).int==3)])) fun V k=>(aO ((ab (gi k 2).rows.length (gi k 2).rows.length)&&true) (cf (qm [.l (gi k 0).rows,.i (gi k 1).int,.l (gi k 2).rows,.l (gi k 3).rows,.i (((gi k 4).int.toNat:Nat):Int),.s (gi k 5).str,.i (gi k 6).int,.i (gi k 7).int,.i (gi k 8).int,.i (gi k 9).int,.i (gi k 10).int,.s (gi k 11).str,.s (gi k 12).str,.i (gi k 13).int,.i (gi k 14).int,.s (gi k 15).str,.s (gi k 16).str,.s (gi k 17).str,.s (gi k 18).str,.i (gi k 19).int,.i (gi k 20).int,.i (gi k 21).int,.i (gi k 22).int])) fun W I=>(bif (aw ((gi I 7).int+1)) then (bif ((ab (gi I 2).rows.length (gi I 2).rows.length)&&true) then some (none,[.l (gi I 0).rows,.i (gi I 1).int,.l (gi I 2).rows,.l (gi I 3).rows,.i (((gi I 4).int.toNat:Nat):Int),.i (gi I 5).int,.i (gi I 6).int,.i ((gi I 7).int+1)]) else none) else none))) else (aO z2 (cf (xE [.l (gi g3 0).rows,.i (gi g3 1).int,.l (gi d 2).rows,.l z5,.i M,.s (gi g2 2).str,.i N.int,.i z4,.i (gi g3 2).int,.i 0,.i 0,.s B,.s B,.i 0,.i 0,.s B,.s B,.s B,.s B,.i 0,.i z4,.i (gi d 6).int,.i (gi d 7).int,.t ((gi g3 2).int==4)])) fun cg28 q=>(aO ((ab (gi q 2).rows.length (gi q 2).rows.length)&&true) (cf (qm [.l (gi q 0).rows,.i (gi q 1).int,.l (gi q 2).rows,.l (gi q 3).rows,.i (((gi q 4).int.toNat:Nat):Int),.s (gi q 5).str,.i (gi q 6).int,.i (gi q 7).int,.i (gi q 8).int,.i (gi q 9).int,.i (gi q 10).int,.s (gi q 11).str,.s (gi q 12).str,.i (gi q 13).int,.i (gi q 14).int,.s (gi q 15).str,.s (gi q 16).str,.s (gi q 17).str,.s (gi q 18).str,.i (gi q 19).int,.i (gi q 20).int,.i (gi q 21).int,.i (gi q 22).int])) fun cg29 J=>(bif (aw ((gi J 7).int+1)) then (bif ((ab (gi J 2).rows.length (gi J 2).rows.length)&&true) then some (none,[.l (gi J 0).rows,.i (gi J 1).int,.l (gi J 2).rows,.l (gi J 3).rows,.i (((gi J 4).int.toNat:Nat):Int),.i (gi J 5).int,.i (gi J 6).int,.i ((gi J 7).int+1)]) else none) else none)))))) else none))) else none)) else (bif z2 then some (some 0,[.l (gi d 0).rows,.i (gi d 1).int,.l (gi d 2).rows]) else none))
def Rz:be:=⟨5,[(5,aF)],⟨115,[(0,.s (.ptr 0 0)),(5,.s (.vec 1 15)),(6,.s (.int .i64)),(7,.s (.map 2)),(10,.s (.int .i64)),(11,.s (.int .i64))],[.box [.list [.int .i64],.int .i64],.vec aF 0,.map (.one (.str)) (.one (.int .i64))]⟩,[.fix 0,.slot 5,.slot 7],[⟨.exit 0,⟨115,[(5,.s (.vec 1 15))],[.box [.list [.int .i64],.int .i64],.vec aF 0]⟩,[.fix 0,.slot 5]⟩],uy⟩
theorem afb:cy P t50 Hl 1 (cB f14 5) Rz:=fun d=>by kernel_rfl
def RA:LT:=Hl.add 1 Rz
theorem afc:ax P 1 RA (aQ f14):=ax.a hm ux afa afb
def xF(d:List G):Option (List G) :=
 (aO true (bX uy [.l (gi d 0).rows,.i (gi d 1).int,.l [],.l [],.i 0,.i 0,.i (gi d 2).int,.i 0]) fun I k=>let B:=Hf [.l (gi k 2).rows]; (iF (((ab (gi k 2).rows.length (gi k 2).rows.length)&&true)&&B.isSome) B fun q=>(bif ((ab (gi k 2).rows.length (gi q 0).rows.length)&&true) then some [.l (gi k 0).rows,.i (gi k 1).int,.l (gi q 0).rows] else none)))
def Hm:aB:=⟨14,[.s (.ptr 0 0),.s (.int .i64)],[.box [.list [.int .i64],.int .i64]],[.slot 0],[.s (.list aF)],[.box [.list [.int .i64],.int .i64]],[.fix 0],[],xF⟩
theorem afd:aV P t50 RA f14 Hm:=fun d=>by kernel_rfl
theorem afe:aT P Hm:=aR hm ux func14 afc afd
def t51:ai:=t50.cX Hm
theorem RB:ak P t51:=ux.aW afe

def lu(d:List G):Option (List G) :=
 (bif (bx (gi d 1).int (gi d 0).int) then some [.t (bx (gi d 0).int (gi d 2).int)] else some [.t false])
def Hn:aB:=⟨73,[.s (.int .i64),.s (.int .i64),.s (.int .i64)],[],[],[.s (.bool)],[],[],[],lu⟩
theorem aff:aV P t51 ay f73 Hn:=fun d=>by kernel_rfl
theorem afg:aT P Hn:=aR hm RB func73 (aL _ _ _) aff
def t52:ai:=t51.bh Hn
theorem Ho:ak P t52:=RB.aP afg

def RC(d:List G):Option (Option Nat × List G) :=
 (bif (ao (gi d 3).int (gi d 2).int) then (bif ((aJ (gi d 3).int)&&(ao (gi d 3).int (((gi d 0).str.size:Nat):Int))) then (ar (BD [.s (gi d 1).str,.i (((gi d 0).str.data.toList.getD (((gi d 3).int).toNat) 0).toNat:Int)]) fun g1=>(bif (ao (gi g1 0).int 0) then some (some 0,[.t false]) else (bif (aw ((gi d 3).int+1)) then some (none,[.s (gi d 0).str,.s (gi d 1).str,.i (gi d 2).int,.i ((gi d 3).int+1)]) else none))) else none) else some (some 1,[]))
def RD:be:=⟨2,[],⟨18,[(0,.s (.str)),(1,.s (.str)),(7,.s (.int .i64)),(8,.s (.int .i64))],[]⟩,[],[⟨.ret,⟨18,[(4,.s (.bool))],[]⟩,[]⟩,⟨.exit 0,⟨18,[],[]⟩,[]⟩],RC⟩
theorem afh:cy P t52 ay 0 (cB f111 2) RD:=fun d=>by kernel_rfl
def RE:LT:=ay.add 0 RD
theorem afi:ax P 0 RE (aQ f111):=ax.a hm Ho (aL _ _ _) afh
def Hp(d:List G):Option (List G) :=
 (aO true (bX RC [.s (gi d 0).str,.s (gi d 1).str,.i (((gi d 0).str.size:Nat):Int),.i 0]) fun k g2=>(bif ab k 0 then some [.t (gi g2 0).bool] else some [.t true]))
def Hq:aB:=⟨111,[.s (.str),.s (.str)],[],[],[.s (.bool)],[],[],[],Hp⟩
theorem afj:aV P t52 RE f111 Hq:=fun d=>by kernel_rfl
theorem afk:aT P Hq:=aR hm Ho func111 afi afj
def t53:ai:=t52.bh Hq
theorem RF:ak P t53:=Ho.aP afk

def oU(d:List G):Option (List G) :=
 let k:=(((gi d 0).str.size:Nat):Int); (ar (lu [.i k,.i 1,.i 40]) fun g1=>(bif (gi g1 0).bool then (bif (bx 1 k) then (ar (Hp [.s ((gi d 0).str.extract 0 1),.s (⟨#[97,98,99,100,101,102,103,104,105,106,107,108,109,110,111,112,113,114,115,116,117,118,119,120,121,122]⟩:ByteArray)]) fun g2=>(bif (gi g2 0).bool then (ar (Hp [.s (gi d 0).str,.s (⟨#[97,98,99,100,101,102,103,104,105,106,107,108,109,110,111,112,113,114,115,116,117,118,119,120,121,122,48,49,50,51,52,53,54,55,56,57,45,95]⟩:ByteArray)]) fun g3=>some [.t (gi g3 0).bool]) else some [.t false])) else none) else some [.t false]))
def Hr:aB:=⟨72,[.s (.str)],[],[],[.s (.bool)],[],[],[],oU⟩
theorem afl:aV P t53 ay f72 Hr:=fun d=>by kernel_rfl
theorem afm:aT P Hr:=aR hm RF func72 (aL _ _ _) afl
def t54:ai:=t53.bh Hr
theorem RG:ak P t54:=RF.aP afm

def xG(d:List G):Option (List G) :=
 (ar (lu [.i (gi d 0).int,.i 0,.i 345686399999]) fun g1=>some [.t (gi g1 0).bool])
def Hs:aB:=⟨74,[.s (.int .i64)],[],[],[.s (.bool)],[],[],[],xG⟩
theorem afn:aV P t54 ay f74 Hs:=fun d=>by kernel_rfl
theorem afo:aT P Hs:=aR hm RG func74 (aL _ _ _) afn
def t55:ai:=t54.bh Hs
theorem RH:ak P t55:=RG.aP afo

def Ht(d:List G):Option (List G) :=
 (ar (Ge [.s (gi d 0).str]) fun g1=>some [.t (gi g1 1).bool])
def Hu:aB:=⟨112,[.s (.str)],[],[],[.s (.bool)],[],[],[],Ht⟩
theorem afp:aV P t55 ay f112 Hu:=fun d=>by kernel_rfl
theorem afq:aT P Hu:=aR hm RH func112 (aL _ _ _) afp
def t56:ai:=t55.bh Hu
theorem RI:ak P t56:=RH.aP afq

def xH(d:List G):Option (List G) :=
 let k:=(!((gi (gi d 0).row 7).str.toList==(⟨#[]⟩:ByteArray).toList)); let z2:=oU [.s (gi (gi d 0).row 7).str]; (ar (xG [.i (gi (gi d 0).row 0).int]) fun g1=>(bif (!(gi g1 0).bool) then some [.i 1] else (ar (lu [.i (gi (gi d 0).row 1).int,.i 1,.i 3]) fun g2=>(bif (!(gi g2 0).bool) then some [.i 4] else (ar (oU [.s (gi (gi d 0).row 2).str]) fun g3=>(bif (!(gi g3 0).bool) then some [.i 5] else (ar (Ht [.s (gi (gi d 0).row 3).str]) fun g4=>(bif (!(gi g4 0).bool) then some [.i 3] else (ar (lu [.i (gi (gi d 0).row 4).int,.i 0,.i 99999]) fun g5=>(bif (!(gi g5 0).bool) then some [.i 1] else (ar (lu [.i (gi (gi d 0).row 5).int,.i 0,.i 99999]) fun g6=>(bif (!(gi g6 0).bool) then some [.i 1] else (bif (!((gi (gi d 0).row 6).str.toList==(⟨#[]⟩:ByteArray).toList)) then (ar (oU [.s (gi (gi d 0).row 6).str]) fun g7=>(bif (!(gi g7 0).bool) then some [.i 5] else (bif k then (ar z2 fun g8=>(bif (!(gi g8 0).bool) then some [.i 5] else some [.i 0])) else some [.i 0]))) else (bif k then (ar z2 fun g9=>(bif (!(gi g9 0).bool) then some [.i 5] else some [.i 0])) else some [.i 0]))))))))))))))
def Hv:aB:=⟨75,[.s (.row au)],[],[],[.s (.int .i64)],[],[],[],xH⟩
theorem afr:aV P t56 ay f75 Hv:=fun d=>by kernel_rfl
theorem afs:aT P Hv:=aR hm RI func75 (aL _ _ _) afr
def t57:ai:=t56.bh Hv
theorem RJ:ak P t57:=RI.aP afs

def BR(d:List G):Option (List G) :=
 let k:=(⟨#[]⟩:ByteArray); let z2:=gi (gi d 0).row 3; let z3:=gi (gi d 0).row 2; let z4:=aU aF (gi d 0).row; let z5:=gi (gi d 0).row 0; let q:=gi (gi d 0).row 1; let B:=gi (gi d 0).row 8; let I:=gi (gi d 0).row 4; (ar (oU [.s z5.str]) fun g1=>(bif (!(gi g1 0).bool) then some [.i 5] else (ar (lu [.i q.int,.i 1,.i 1000000]) fun g2=>(bif (!(gi g2 0).bool) then some [.i 1] else (ar (xG [.i z3.int]) fun g3=>(bif (!(gi g3 0).bool) then some [.i 1] else (ar (lu [.i z2.int,.i 1,.i 5]) fun g4=>(bif (!(gi g4 0).bool) then some [.i 4] else (bif (z2.int==1) then (ar (xH [.l [[.i I.int,.i (gi (gi d 0).row 5).int,.s (gi (gi d 0).row 6).str,.s (gi (gi d 0).row 7).str,.i B.int,.i (gi (gi d 0).row 9).int,.s (gi (gi d 0).row 10).str,.s (gi (gi d 0).row 11).str]]]) fun g5=>(bif ((gi g5 0).int != 0) then some [.i (gi g5 0).int] else (bif (ao z3.int I.int) then some [.i 1] else (bif (!(aI aF z4 [.s z5.str,.i q.int,.i z3.int,.i z2.int,.i I.int,.i (gi (gi d 0).row 5).int,.s (gi (gi d 0).row 6).str,.s (gi (gi d 0).row 7).str,.i B.int,.i (gi (gi d 0).row 9).int,.s (gi (gi d 0).row 10).str,.s (gi (gi d 0).row 11).str,.s k,.s k,.i 0])) then some [.i 3] else some [.i 0])))) else (bif (z2.int==2) then (ar (oU [.s (gi (gi d 0).row 12).str]) fun g6=>(bif (!(gi g6 0).bool) then some [.i 5] else (bif (!(aI aF z4 [.s z5.str,.i q.int,.i z3.int,.i z2.int,.i 0,.i 0,.s k,.s k,.i 0,.i 0,.s k,.s k,.s (gi (gi d 0).row 12).str,.s k,.i 0])) then some [.i 3] else some [.i 0]))) else (bif (z2.int==5) then (ar (oU [.s (gi (gi d 0).row 13).str]) fun g7=>(bif (!(gi g7 0).bool) then some [.i 5] else (ar (lu [.i (gi (gi d 0).row 14).int,.i 1,.i 1000000]) fun g8=>(bif (!(gi g8 0).bool) then some [.i 1] else (bif (!(aI aF z4 [.s z5.str,.i q.int,.i z3.int,.i z2.int,.i 0,.i 0,.s k,.s k,.i 0,.i 0,.s k,.s k,.s k,.s (gi (gi d 0).row 13).str,.i (gi (gi d 0).row 14).int])) then some [.i 3] else some [.i 0]))))) else (ar (lu [.i B.int,.i 1,.i 99999]) fun g9=>(bif (!(gi g9 0).bool) then some [.i 1] else (bif (!(aI aF z4 [.s z5.str,.i q.int,.i z3.int,.i z2.int,.i 0,.i 0,.s k,.s k,.i B.int,.i 0,.s k,.s k,.s k,.s k,.i 0])) then some [.i 3] else some [.i 0]))))))))))))))
def Hw:aB:=⟨38,[.s (.row aF)],[],[],[.s (.int .i64)],[],[],[],BR⟩
theorem aft:aV P t57 ay f38 Hw:=fun d=>by kernel_rfl
theorem afu:aT P Hw:=aR hm RJ func38 (aL _ _ _) aft
def t58:ai:=t57.bh Hw
theorem RL:ak P t58:=RJ.aP afu

def BS(d:List G):Option (List G) :=
 (bif ((gi (gi d 0).row 0).str.toList==(gi (gi d 1).row 0).str.toList) then some [.t ((gi (gi d 0).row 1).int==(gi (gi d 1).row 1).int)] else some [.t false])
def Hx:aB:=⟨41,[.s (.row aF),.s (.row aF)],[],[],[.s (.bool)],[],[],[],BS⟩
theorem afv:aV P t58 ay f41 Hx:=fun d=>by kernel_rfl
theorem afw:aT P Hx:=aR hm RL func41 (aL _ _ _) afv
def t59:ai:=t58.bh Hx
theorem RM:ak P t59:=RL.aP afw

def BT(d:List G):Option (List G) :=
 (ar (BS [.l [(aU aF (gi d 0).row)],.l [(aU aF (gi d 1).row)]]) fun g1=>some [.t (gi g1 0).bool])
def Hy:aB:=⟨40,[.s (.row aF),.s (.cptr aF)],[],[],[.s (.bool)],[],[],[],BT⟩
theorem afx:aV P t59 ay f40 Hy:=fun d=>by kernel_rfl
theorem afy:aT P Hy:=aR hm RM func40 (aL _ _ _) afx
def t60:ai:=t59.bh Hy
theorem Hz:ak P t60:=RM.aP afy

def BU(d:List G):Option (Option Nat × List G) :=
 let k:=aU aF (gi d 1).row; (bif (ao (gi d 3).int (gi d 2).int) then (bif ((aJ (gi d 3).int)&&(ao (gi d 3).int (((gi d 0).rows.length:Nat):Int))) then (ar (BT [.l [(aU aF ((gi d 0).rows.getD (((gi d 3).int).toNat) []))],.l [k]]) fun g1=>(bif (gi g1 0).bool then some (some 0,[.i (gi d 3).int]) else (bif (aw ((gi d 3).int+1)) then some (none,[.l (gi d 0).rows,.l [k],.i (gi d 2).int,.i ((gi d 3).int+1)]) else none))) else none) else some (some 1,[]))
def RN:be:=⟨2,[],⟨19,[(0,.s (.list aF)),(1,.clo 40 [.cptr aF]),(7,.s (.int .i64)),(8,.s (.int .i64))],[]⟩,[],[⟨.ret,⟨19,[(4,.s (.int .i64))],[]⟩,[]⟩,⟨.exit 0,⟨19,[],[]⟩,[]⟩],BU⟩
theorem afz:cy P t60 ay 0 (cB f76 2) RN:=fun d=>by kernel_rfl
def RO:LT:=ay.add 0 RN
theorem afA:ax P 0 RO (aQ f76):=ax.a hm Hz (aL _ _ _) afz
def BV(d:List G):Option (List G) :=
 (aO true (bX BU [.l (gi d 0).rows,.l [(aU aF (gi d 1).row)],.i (((gi d 0).rows.length:Nat):Int),.i 0]) fun k g2=>(bif ab k 0 then some [.i (gi g2 0).int] else some [.i (-1)]))
def HA:aB:=⟨76,[.s (.list aF),.clo 40 [.cptr aF]],[],[],[.s (.int .i64)],[],[],[],BV⟩
theorem afB:aV P t60 RO f76 HA:=fun d=>by kernel_rfl
theorem afC:aT P HA:=aR hm Hz func76 afA afB
def t61:ai:=t60.bh HA
theorem RP:ak P t61:=Hz.aP afC

def BW(d:List G):Option (List G) :=
 (ar (BV [.l (gi d 0).rows,.l [(aU aF (gi d 1).row)]]) fun g1=>some [.t (bx 0 (gi g1 0).int)])
def HB:aB:=⟨39,[.s (.list aF),.clo 40 [.cptr aF]],[],[],[.s (.bool)],[],[],[],BW⟩
theorem afD:aV P t61 ay f39 HB:=fun d=>by kernel_rfl
theorem afE:aT P HB:=aR hm RP func39 (aL _ _ _) afD
def t62:ai:=t61.bh HB
theorem BX:ak P t62:=RP.aP afE

def xI(d:List G):Option (Option Nat × List G) :=
 let k:=aU aF ((gi d 1).rows.getD (((gi d 3).int).toNat) []); let z2:=(gi d 3).int-1; let z3:=(gi d 3).int+1; (bif (ao (gi d 3).int (gi d 2).int) then (bif ((aJ (gi d 3).int)&&(ao (gi d 3).int (((gi d 1).rows.length:Nat):Int))) then (ar (BR [.l [k]]) fun g1=>(bif ((gi g1 0).int != 0) then some (some 0,[.i (gi g1 0).int]) else (bif (ao 0 (gi d 3).int) then (bif (aw z2) then (bif ((aJ z2)&&(ao z2 (((gi d 0).rows.length:Nat):Int))) then (ar (uw [.l [(aU aF ((gi d 0).rows.getD (z2.toNat) []))],.l [k]]) fun g2=>(bif (bx 0 (gi g2 0).int) then some (some 0,[.i 7]) else (bif (aw z3) then some (none,[.l (gi d 0).rows,.l (gi d 1).rows,.i (gi d 2).int,.i z3]) else none))) else none) else none) else (bif (aw z3) then some (none,[.l (gi d 0).rows,.l (gi d 1).rows,.i (gi d 2).int,.i z3]) else none)))) else none) else some (some 1,[.l (gi d 0).rows]))
def RQ:be:=⟨4,[],⟨49,[(0,.s (.list aF)),(11,.s (.list aF)),(12,.s (.int .i64)),(13,.s (.int .i64))],[]⟩,[],[⟨.ret,⟨49,[(2,.s (.int .i64))],[]⟩,[]⟩,⟨.exit 0,⟨49,[(0,.s (.list aF))],[]⟩,[]⟩],xI⟩
theorem afF:cy P (t62.fV [39]) ay 0 (cB f15 4) RQ:=fun d=>by kernel_rfl
def HC:LT:=ay.add 0 RQ
theorem afG:ax P 0 HC (aQ f15):=ax.add hm (BX.fV [39]) (by kernel_rfl) (aL _ _ _) afF
def xJ(d:List G):Option (Option Nat × List G) :=
 (bif (ao (gi d 3).int (gi d 2).int) then (bif ((aJ (gi d 3).int)&&(ao (gi d 3).int (((gi d 1).rows.length:Nat):Int))) then (bif ((aJ (gi d 3).int)&&(bx (gi d 3).int (((gi d 0).rows.length:Nat):Int))) then (ar (BW [.l ((gi d 0).rows.take (((gi d 3).int).toNat)),.l [(aU aF ((gi d 1).rows.getD (((gi d 3).int).toNat) []))]]) fun g4=>(bif (gi g4 0).bool then some (some 0,[.i 6]) else (bif (aw ((gi d 3).int+1)) then some (none,[.l (gi d 0).rows,.l (gi d 1).rows,.i (gi d 2).int,.i ((gi d 3).int+1)]) else none))) else none) else none) else some (some 1,[]))
def RR:be:=⟨13,[],⟨49,[(0,.s (.list aF)),(36,.s (.list aF)),(37,.s (.int .i64)),(38,.s (.int .i64))],[]⟩,[],[⟨.ret,⟨49,[(2,.s (.int .i64))],[]⟩,[]⟩,⟨.exit 2,⟨49,[],[]⟩,[]⟩],xJ⟩
theorem afH:cy P (t62.fV [39]) HC 0 (cB f15 13) RR:=fun d=>by kernel_rfl
def RS:LT:=HC.add 0 RR
theorem afI:ax P 0 RS (aQ f15):=ax.add hm (BX.fV [39]) (by kernel_rfl) afG afH
def uz(d:List G):Option (List G) :=
 let k:=(((gi d 0).rows.length:Nat):Int); (bif (ao 2000 k) then some [.i 2] else (aO true (bX xI [.l (gi d 0).rows,.l (gi d 0).rows,.i k,.i 0]) fun q g3=>(bif ab q 0 then some [.i (gi g3 0).int] else (aO true (bX xJ [.l (gi g3 0).rows,.l (gi g3 0).rows,.i (((gi g3 0).rows.length:Nat):Int),.i 0]) fun B g5=>(bif ab B 0 then some [.i (gi g5 0).int] else some [.i 0])))))
def HD:aB:=⟨15,[.s (.list aF)],[],[],[.s (.int .i64)],[],[],[],uz⟩
theorem afJ:aV P (t62.fV [39]) RS f15 HD:=fun d=>by kernel_rfl
theorem afK:aT P HD:=tW hm (BX.fV [39]) func15 (by kernel_rfl) afI afJ (by kernel_rfl)
def t63:ai:=t62.bh HD
theorem HF:ak P t63:=BX.aP afK

def BY(d:List G):Option (Option Nat × List G) :=
 (bif (ao (gi d 3).int 5) then (ar (xF [.l (gi d 0).rows,.i (gi d 1).int,.i (gi d 2).int]) fun g1=>(ar (uz [.l (gi g1 2).rows]) fun g2=>(bif ((gi g2 0).int==0) then some (some 0,[.l (gi g1 0).rows,.i (gi g1 1).int,.l (gi g1 2).rows]) else (bif (aw ((gi d 3).int+1)) then some (none,[.l (gi g1 0).rows,.i (gi g1 1).int,.i (gi d 2).int,.i ((gi d 3).int+1)]) else none)))) else some (some 1,[.l (gi d 0).rows,.i (gi d 1).int]))
def RT:be:=⟨2,[],⟨16,[(0,.s (.ptr 0 0)),(1,.s (.int .i64)),(6,.s (.int .i64))],[.box [.list [.int .i64],.int .i64]]⟩,[.fix 0],[⟨.ret,⟨16,[(4,.s (.list aF))],[.box [.list [.int .i64],.int .i64]]⟩,[.fix 0]⟩,⟨.exit 0,⟨16,[],[.box [.list [.int .i64],.int .i64]]⟩,[.fix 0]⟩],BY⟩
theorem afL:cy P t63 ay 1 (cB f5 2) RT:=fun d=>by kernel_rfl
def RU:LT:=ay.add 1 RT
theorem afM:ax P 1 RU (aQ f5):=ax.a hm HF (aL _ _ _) afL
def BZ(d:List G):Option (List G) :=
 (aO true (bX BY [.l (gi d 0).rows,.i (gi d 1).int,.i (gi d 2).int,.i 0]) fun k g3=>(bif ab k 0 then some [.l (gi g3 0).rows,.i (gi g3 1).int,.l (gi g3 2).rows] else some [.l (gi g3 0).rows,.i (gi g3 1).int,.l []]))
def HG:aB:=⟨5,[.s (.ptr 0 0),.s (.int .i64)],[.box [.list [.int .i64],.int .i64]],[.slot 0],[.s (.list aF)],[.box [.list [.int .i64],.int .i64]],[.fix 0],[],BZ⟩
theorem afN:aV P t63 RU f5 HG:=fun d=>by kernel_rfl
theorem afO:aT P HG:=aR hm HF func5 afM afN
def t64:ai:=t63.cX HG
theorem RV:ak P t64:=HF.aW afO

def B0(d:List G):Option (List G) :=
 (ar (r7 [.l [[.i (gi (gi d 0).row 4).int,.i (gi (gi d 0).row 5).int,.s (gi (gi d 0).row 6).str,.s (gi (gi d 0).row 7).str,.i (gi (gi d 0).row 8).int,.i (gi (gi d 0).row 9).int,.s (gi (gi d 0).row 10).str,.s (gi (gi d 0).row 11).str]]]) fun g1=>(bif ((gi g1 0).int != 0) then some [.i (gi g1 0).int] else (bif (ao (gi (gi d 0).row 2).int (gi (gi d 0).row 4).int) then some [.i 1] else some [.i 0])))
def HH:aB:=⟨178,[.s (.row aF)],[],[],[.s (.int .i64)],[],[],[],B0⟩
theorem afP:aV P t64 ay f178 HH:=fun d=>by kernel_rfl
theorem afQ:aT P HH:=aR hm RV func178 (aL _ _ _) afP
def t65:ai:=t64.bh HH
theorem RW:ak P t65:=RV.aP afQ

def nD(d:List G):Option (List G) :=
 let k:=gi (gi d 0).row 3; (bif (k.int==1) then (ar (B0 [.l [(aU aF (gi d 0).row)]]) fun g1=>some [.i (gi g1 0).int]) else (bif (k.int==2) then (ar (nA [.s (gi (gi d 0).row 12).str]) fun g2=>(bif (!(gi g2 0).bool) then some [.i 5] else some [.i 0])) else (bif (k.int==5) then (ar (nA [.s (gi (gi d 0).row 13).str]) fun g3=>(bif (!(gi g3 0).bool) then some [.i 5] else (ar (kI [.i (gi (gi d 0).row 14).int,.i 1,.i 1000000]) fun g4=>(bif (gi g4 0).bool then some [.i 1] else some [.i 0])))) else (ar (kI [.i (gi (gi d 0).row 8).int,.i 1,.i 99999]) fun g5=>(bif (gi g5 0).bool then some [.i 1] else some [.i 0])))))
def HI:aB:=⟨141,[.s (.row aF)],[],[],[.s (.int .i64)],[],[],[],nD⟩
theorem afR:aV P t65 ay f141 HI:=fun d=>by kernel_rfl
theorem afS:aT P HI:=aR hm RW func141 (aL _ _ _) afR
def t66:ai:=t65.bh HI
theorem RX:ak P t66:=RW.aP afS

def lv(d:List G):Option (List G) :=
 let z3:=(⟨#[]⟩:ByteArray); let z4:=gi (gi d 0).row 3; let k:=bif (z4.int==2) then (bif (z4.int==5) then some [.t true] else (bif ((gi (gi d 0).row 13).str.toList==z3.toList) then some [.t ((gi (gi d 0).row 14).int==0)] else some [.t false])) else (bif ((gi (gi d 0).row 12).str.toList==z3.toList) then (bif (z4.int==5) then some [.t true] else (bif ((gi (gi d 0).row 13).str.toList==z3.toList) then some [.t ((gi (gi d 0).row 14).int==0)] else some [.t false])) else some [.t false]); let z2:=bif (z4.int==1) then k else (bif (aI au [.i (gi (gi d 0).row 4).int,.i (gi (gi d 0).row 5).int,.s (gi (gi d 0).row 6).str,.s (gi (gi d 0).row 7).str,.i (gi (gi d 0).row 8).int,.i (gi (gi d 0).row 9).int,.s (gi (gi d 0).row 10).str,.s (gi (gi d 0).row 11).str] [.i 0,.i 0,.s z3,.s z3,.i (gi (gi d 0).row 8).int,.i 0,.s z3,.s z3]) then k else some [.t false]); (bif (z4.int==3) then z2 else (bif (z4.int==4) then z2 else (bif (z4.int==1) then k else (bif (aI au [.i (gi (gi d 0).row 4).int,.i (gi (gi d 0).row 5).int,.s (gi (gi d 0).row 6).str,.s (gi (gi d 0).row 7).str,.i (gi (gi d 0).row 8).int,.i (gi (gi d 0).row 9).int,.s (gi (gi d 0).row 10).str,.s (gi (gi d 0).row 11).str] [.i 0,.i 0,.s z3,.s z3,.i 0,.i 0,.s z3,.s z3]) then k else some [.t false]))))
def HJ:aB:=⟨142,[.s (.row aF)],[],[],[.s (.bool)],[],[],[],lv⟩
theorem afT:aV P t66 ay f142 HJ:=fun d=>by kernel_rfl
theorem afU:aT P HJ:=aR hm RX func142 (aL _ _ _) afT
def t67:ai:=t66.bh HJ
theorem RY:ak P t67:=RX.aP afU

def B1(d:List G):Option (List G) :=
 let k:=aU aF (gi d 0).row; (ar (nA [.s (gi (gi d 0).row 0).str]) fun g1=>(bif (!(gi g1 0).bool) then some [.i 5] else (ar (kI [.i (gi (gi d 0).row 1).int,.i 1,.i 1000000]) fun g2=>(bif (gi g2 0).bool then some [.i 1] else (ar (rZ [.i (gi (gi d 0).row 2).int]) fun g3=>(bif (!(gi g3 0).bool) then some [.i 1] else (ar (kI [.i (gi (gi d 0).row 3).int,.i 1,.i 5]) fun g4=>(bif (gi g4 0).bool then some [.i 4] else (ar (nD [.l [k]]) fun g5=>(bif ((gi g5 0).int != 0) then some [.i (gi g5 0).int] else (ar (lv [.l [k]]) fun g6=>(bif (!(gi g6 0).bool) then some [.i 3] else some [.i 0]))))))))))))
def HK:aB:=⟨104,[.s (.row aF)],[],[],[.s (.int .i64)],[],[],[],B1⟩
theorem afV:aV P t67 ay f104 HK:=fun d=>by kernel_rfl
theorem afW:aT P HK:=aR hm RY func104 (aL _ _ _) afV
def t68:ai:=t67.bh HK
theorem RZ:ak P t68:=RY.aP afW

def B2(d:List G):Option (List G) :=
 (ar (qj [.i (gi (gi d 0).row 2).int,.i (gi (gi d 1).row 2).int]) fun g1=>(ar (j8 [.s (gi (gi d 0).row 0).str,.s (gi (gi d 1).row 0).str]) fun g2=>(ar (qj [.i (gi (gi d 0).row 1).int,.i (gi (gi d 1).row 1).int]) fun g3=>(ar (nB [.l [[.i (gi g1 0).int],[.i (gi g2 0).int],[.i (gi g3 0).int]]]) fun g4=>some [.i (gi g4 0).int]))))
def HL:aB:=⟨105,[.s (.row aF),.s (.row aF)],[],[],[.s (.int .i64)],[],[],[],B2⟩
theorem afX:aV P t68 ay f105 HL:=fun d=>by kernel_rfl
theorem afY:aT P HL:=aR hm RZ func105 (aL _ _ _) afX
def t69:ai:=t68.bh HL
theorem B3:ak P t69:=RZ.aP afY

def xK(d:List G):Option (Option Nat × List G) :=
 let k:=aU aF ((gi d 1).rows.getD (((gi d 3).int).toNat) []); let z2:=(gi d 3).int-1; let z3:=(gi d 3).int+1; (bif (ao (gi d 3).int (gi d 2).int) then (bif ((aJ (gi d 3).int)&&(ao (gi d 3).int (((gi d 1).rows.length:Nat):Int))) then (ar (B1 [.l [k]]) fun g1=>(bif ((gi g1 0).int != 0) then some (some 0,[.i (gi g1 0).int]) else (bif (ao 0 (gi d 3).int) then (bif (aw z2) then (bif ((aJ z2)&&(ao z2 (((gi d 0).rows.length:Nat):Int))) then (ar (B2 [.l [(aU aF ((gi d 0).rows.getD (z2.toNat) []))],.l [k]]) fun g2=>(bif (bx 0 (gi g2 0).int) then some (some 0,[.i 7]) else (bif (aw z3) then some (none,[.l (gi d 0).rows,.l (gi d 1).rows,.i (gi d 2).int,.i z3]) else none))) else none) else none) else (bif (aw z3) then some (none,[.l (gi d 0).rows,.l (gi d 1).rows,.i (gi d 2).int,.i z3]) else none)))) else none) else some (some 1,[.l (gi d 0).rows]))
def R0:be:=⟨4,[],⟨56,[(0,.s (.list aF)),(13,.s (.list aF)),(14,.s (.int .i64)),(15,.s (.int .i64))],[]⟩,[],[⟨.ret,⟨56,[(2,.s (.int .i64))],[]⟩,[]⟩,⟨.exit 0,⟨56,[(0,.s (.list aF))],[]⟩,[]⟩],xK⟩
theorem afZ:cy P t69 ay 0 (cB f65 4) R0:=fun d=>by kernel_rfl
def HM:LT:=ay.add 0 R0
theorem af0:ax P 0 HM (aQ f65):=ax.a hm B3 (aL _ _ _) afZ
def xL(d:List G):Option (Option Nat × List G) :=
 let k:=aU [.str,.int .i64] ((gi d 2).rows.getD (((gi d 4).int).toNat) []); (bif (ao (gi d 4).int (gi d 3).int) then (bif ((aJ (gi d 4).int)&&(ao (gi d 4).int (((gi d 2).rows.length:Nat):Int))) then (bif (gi (bZ [.str,.int .i64] (gi d 0).rows k [.t false]) 0).bool then some (some 0,[.i 6]) else (bif (aw ((gi d 4).int+1)) then some (none,[.l (dv [.str,.int .i64] (gi d 0).rows k [.t true] (gi d 1).int.toNat),.i (((dM [.str,.int .i64] (gi d 0).rows k (gi d 1).int.toNat):Nat):Int),.l (gi d 2).rows,.i (gi d 3).int,.i ((gi d 4).int+1)]) else none)) else none) else some (some 1,[]))
def R3:be:=⟨14,[],⟨56,[(6,.s (.map 0)),(39,.s (.list aF)),(40,.s (.int .i64)),(41,.s (.int .i64))],[.map (.agg [.str,.int .i64]) (.one (.bool))]⟩,[.slot 6],[⟨.ret,⟨56,[(2,.s (.int .i64))],[]⟩,[]⟩,⟨.exit 2,⟨56,[],[]⟩,[]⟩],xL⟩
theorem af1:cy P t69 HM 0 (cB f65 14) R3:=fun d=>by kernel_rfl
def R4:LT:=HM.add 0 R3
theorem af2:ax P 0 R4 (aQ f65):=ax.a hm B3 af0 af1
def xM(d:List G):Option (List G) :=
 let k:=(((gi d 0).rows.length:Nat):Int); (bif (ao 2000 k) then some [.i 2] else (aO true (bX xK [.l (gi d 0).rows,.l (gi d 0).rows,.i k,.i 0]) fun q g3=>(bif ab q 0 then some [.i (gi g3 0).int] else (aO true (bX xL [.l [],.i 0,.l (gi g3 0).rows,.i (((gi g3 0).rows.length:Nat):Int),.i 0]) fun B g4=>(bif ab B 0 then some [.i (gi g4 0).int] else some [.i 0])))))
def HN:aB:=⟨65,[.s (.list aF)],[],[],[.s (.int .i64)],[],[],[],xM⟩
theorem af3:aV P t69 R4 f65 HN:=fun d=>by kernel_rfl
theorem af4:aT P HN:=aR hm B3 func65 af2 af3
def t70:ai:=t69.bh HN
theorem R5:ak P t70:=B3.aP af4

def B4(d:List G):Option (List G) :=
 (ar (xM [.l (gi d 0).rows]) fun g1=>(bif ((gi g1 0).int != 0) then some [.i (gi g1 0).int] else (ar (rZ [.i (gi d 1).int]) fun g2=>(bif (!(gi g2 0).bool) then some [.i 1] else some [.i 0]))))
def HO:aB:=⟨29,[.s (.list aF),.s (.int .i64)],[],[],[.s (.int .i64)],[],[],[],B4⟩
theorem af5:aV P t70 ay f29 HO:=fun d=>by kernel_rfl
theorem af6:aT P HO:=aR hm R5 func29 (aL _ _ _) af5
def t71:ai:=t70.bh HO
theorem af7:ak P t71:=R5.aP af6

def t72:ai:=t71.fe P 106 f106
theorem HP:ak P t72:=af7.fe hm func106 (by kernel_rfl) (by kernel_rfl)

theorem af8:qh P ⟨143,30,76,15,15,true⟩:=Of func143 (by kernel_rfl) rfl rfl rfl ⟨⟨_,_,_,_,_,_,rfl,⟨rfl,rfl,rfl⟩,⟨rfl,rfl,rfl⟩,⟨rfl,rfl,rfl⟩,⟨rfl,rfl,rfl⟩⟩,⟨_,_,_,_,rfl,⟨rfl,rfl,rfl⟩,⟨rfl,rfl,rfl⟩⟩,⟨_,_,_,_,_,rfl,⟨rfl,rfl,rfl⟩,⟨rfl,rfl,rfl⟩,⟨rfl,rfl,rfl⟩⟩,⟨_,_,_,_,_,_,_,_,_,_,rfl,⟨rfl,rfl,rfl⟩,⟨rfl,rfl,rfl⟩,⟨rfl,rfl,rfl⟩,⟨rfl,rfl,rfl⟩,⟨rfl,rfl,rfl⟩,⟨rfl,rfl,rfl⟩,⟨rfl,rfl,rfl⟩,⟨rfl,rfl,rfl⟩⟩⟩ (by kernel_rfl)
def HQ(i:Int)(r d:List G):Option (List G) :=
 let k:=((gi d 3).rows++([[.i i]]:List (List G))); let z2:=ab (gi d 3).rows.length (gi d 3).rows.length; let z3:=(((gi d 2).int.toNat:Nat):Int); let z4:=(((ab k.length k.length)&&true)&&true)&&true; let z5:=((z2&&true)&&true)&&true; (bif (ao (gi d 0).int (gi r 2).int) then (bif z5 then some [.i (gi d 0).int,.l (gi d 1).rows,.i z3,.l (gi d 3).rows] else none) else (bif (gi (bZ [.str,.int .i64] (gi d 1).rows (aU [.str,.int .i64] r) [.t false]) 0).bool then (bif z5 then some [.i (gi d 0).int,.l (gi d 1).rows,.i z3,.l (gi d 3).rows] else none) else (bif (z2&&(decide (((gi d 3).rows.length+1)≤1048576))) then (bif ((gi r 3).int==5) then (bif z4 then some [.i (gi d 0).int,.l (dv [.str,.int .i64] (gi d 1).rows [.s (gi r 13).str,.i (gi r 14).int] [.t true] (gi d 2).int.toNat),.i (((dM [.str,.int .i64] (gi d 1).rows [.s (gi r 13).str,.i (gi r 14).int] (gi d 2).int.toNat):Nat):Int),.l k] else none) else (bif z4 then some [.i (gi d 0).int,.l (gi d 1).rows,.i z3,.l k] else none)) else none)))
def R6(d:List G):List G:=[.i (gi d 0).int,.l (gi d 1).rows,.i (((gi d 2).int.toNat:Nat):Int),.l []]
def R7(d:List G):Bool:=true
def uB:ug:=⟨⟨43,[(3,.s (.ptr 0 0)),(5,.s (.ptr 1 0)),(6,.s (.ptr 3 0))],[.box [.int .i64],.box [.map 2],.map (.agg [.str,.int .i64]) (.one (.bool)),.box [.vec 4 1],.vec [.int .i64] 1]⟩,[.slot 3,.slot 5,.cell 1 0,.slot 6,.cell 3 0],[],aF,true,15,5,12,13,R6,R7,HQ⟩
theorem af9:Br P t72 (ay.gA [(2,[.gz 6 0 [.int .i64]]),(3,[.gz 6 0 [.int .i64]])]) uB (Bs (cutAt f66 3)) (Bt (cutAt f66 3)):=fun i r d=>by kernel_rfl
def HR(d:List G):Option (Option Nat × List G) :=
 let k:=BK [.l (gi d 3).rows]; (iF (((ab (gi d 3).rows.length (gi d 3).rows.length)&&true)&&k.isSome) k fun g1=>(bif ((ab (gi d 3).rows.length (gi g1 0).rows.length)&&true) then some (some 0,[.l (gi g1 0).rows]) else none))
def R8:be:=⟨10,[],⟨43,[(3,.s (.ptr 0 0)),(5,.s (.ptr 1 0)),(6,.s (.ptr 3 0))],[.box [.int .i64],.box [.map 2],.map (.agg [.str,.int .i64]) (.one (.bool)),.box [.vec 4 1],.vec [.int .i64] 1]⟩,[],[⟨.ret,⟨43,[(4,.s (.vec 0 1))],[.vec [.int .i64] 0]⟩,[.slot 4]⟩],HR⟩
theorem af_:fm P t72 (ay.gA [(2,[.gz 6 0 [.int .i64]]),(3,[.gz 6 0 [.int .i64]])]) 0 (nl (cutAt f66 3)) R8:=fun d=>by kernel_rfl
def B5(d:List G):Option (Option Nat × List G) :=
 xh uB HR ((gi d 3).rows) d
def HS:be:=⟨3,[],⟨43,[(0,.s (.list aF)),(3,.s (.ptr 0 0)),(5,.s (.ptr 1 0)),(6,.s (.ptr 3 0))],[.box [.int .i64],.box [.map 2],.map (.agg [.str,.int .i64]) (.one (.bool)),.box [.nil]]⟩,[.slot 3,.slot 5,.cell 1 0,.slot 6],[⟨.ret,⟨43,[(4,.s (.vec 0 1))],[.vec [.int .i64] 0]⟩,[.slot 4]⟩],B5⟩
def R9:LT:=(ay.gA [(2,[.gz 6 0 [.int .i64]]),(3,[.gz 6 0 [.int .i64]])]).eP 0 HS
theorem af':ax P 0 R9 (aQ f66):=ax.aaI (i:=⟨143,30,76,15,15,true⟩) (q:=HS) (qr:=R8) (sp:=uB) (b:=0) (g:=11) (wd:=0) (L0:=(ay.gA [(2,[.gz 6 0 [.int .i64]]),(3,[.gz 6 0 [.int .i64]])])) (rows:=fun d=>(gi d 3).rows) (pre:=fun d=>preB P t72 (ay.gA [(2,[.gz 6 0 [.int .i64]]),(3,[.gz 6 0 [.int .i64]])]) (cutAt f66 3) (aM HS.inv d)) hm HP af8 (by kernel_rfl) (nk _) (fun _ _=>nk _) (by kernel_rfl) af9 (by kernel_rfl) (by kernel_rfl) (fun d=>by kernel_rfl) (fun d=>by kernel_rfl) (fun d=>by kernel_rfl) (fun d=>by kernel_rfl) (fun d=>by kernel_rfl) rfl rfl af_ (fun d=>rfl)
def B6(d:List G):Option (List G) :=
 (aO true (cf (B5 [.i (gi d 1).int,.l [],.i 0,.l (gi d 0).rows])) fun k g2=>(bif ((ab (gi g2 0).rows.length (gi g2 0).rows.length)&&true) then some [.l (gi g2 0).rows] else none))
def HT:aB:=⟨66,[.s (.list aF),.s (.int .i64)],[],[],[.s (.list [.int .i64])],[],[],[],B6⟩
theorem aga:aV P t72 R9 f66 HT:=fun d=>by kernel_rfl
theorem agb:aT P HT:=aR hm HP func66 af' aga
def t73:ai:=t72.bh HT
theorem R_:ak P t73:=HP.aP agb

def B7(d:List G):Option (List G) :=
 some [.l [[.i (gi (gi d 0).row 0).int,.i (gi (gi d 0).row 1).int,.s (gi (gi d 0).row 2).str,.s (gi (gi d 0).row 3).str,.i 0,.i 0,.s (⟨#[]⟩:ByteArray),.s (⟨#[]⟩:ByteArray)]]]
def HU:aB:=⟨67,[.s (.row au)],[],[],[.s (.row au)],[],[],[],B7⟩
theorem agc:aV P t73 ay f67 HU:=fun d=>by kernel_rfl
theorem agd:aT P HU:=aR hm R_ func67 (aL _ _ _) agc
def t74:ai:=t73.bh HU
theorem age:ak P t74:=R_.aP agd

def B8(d:List G):Option (List G) :=
 rR qk d
def xN:aB:=⟨68,[.s (.vec 0 8),.s (.fn 18)],[.vec au 0],[.slot 0],[],[.vec au 0],[.fix 0],[],B8⟩
theorem agf:∀ d r,B8 d=some r→dC P 68 (xN.args0 d) (aj (xN.H0 d)) (xN.out r) (aj (xN.H1 r)):=fun d r h=>Ow Tryz.aa' au (by kernel_rfl) Tryz.isAgg56 Tryz.sizeOf56 18 (by kernel_rfl) qk (fun d r h=>PX d r h) d r h
def t75:ai:=t74.cX xN
theorem r9:ak P t75:=age.aW agf

def uC(d:List G):Option (Option Nat × List G) :=
 let k:=((gi d 1).rows++([[.i (gi d 12).int,.i (gi d 13).int,.s (gi d 14).str,.s (gi d 15).str,.i (gi d 16).int,.i (gi d 17).int,.s (gi d 18).str,.s (gi d 19).str]]:List (List G))); let z2:=B7 [.l [[.i (gi d 12).int,.i (gi d 13).int,.s (gi d 14).str,.s (gi d 15).str,.i (gi d 16).int,.i (gi d 17).int,.s (gi d 18).str,.s (gi d 19).str]]]; let z3:=(ab (gi d 2).rows.length (gi d 2).rows.length)&&((ab (gi d 3).rows.length (gi d 3).rows.length)&&true); let z4:=((gi d 3).rows++([[.i (gi d 24).int]]:List (List G))); let z5:=ab (gi d 0).rows.length (gi d 0).rows.length; let q:=ab (gi d 1).rows.length (gi d 1).rows.length; let B:=(((gi d 5).int.toNat:Nat):Int); let I:=(((gi d 7).int.toNat:Nat):Int); (bif ((gi d 11).int != 1) then (bif (((z5&&(q&&z3))&&true)&&true) then some (some 0,[.l (gi d 0).rows,.l (gi d 1).rows,.l (gi d 2).rows,.l (gi d 3).rows,.l (gi d 4).rows,.i B,.l (gi d 6).rows,.i I,.l (gi d 23).rows,.l (gi d 25).rows,.i (gi d 26).int,.i (gi d 27).int]) else none) else (ar z2 fun g2=>(bif (du au (gi d 6).rows (aU au (gi g2 0).row)) then (bif ((ab (gi d 3).rows.length (gi d 3).rows.length)&&(decide (((gi d 3).rows.length+1)≤1048576))) then (bif (((z5&&(q&&((ab (gi d 2).rows.length (gi d 2).rows.length)&&((ab z4.length z4.length)&&true))))&&true)&&true) then some (some 0,[.l (gi d 0).rows,.l (gi d 1).rows,.l (gi d 2).rows,.l z4,.l (gi d 4).rows,.i B,.l (gi d 6).rows,.i I,.l (gi d 23).rows,.l (gi d 25).rows,.i (gi d 26).int,.i (gi d 27).int]) else none) else none) else (ar z2 fun g3=>let z9:=aU au (gi g3 0).row; (bif (q&&(decide (((gi d 1).rows.length+1)≤1048576))) then (bif (((z5&&((ab k.length k.length)&&z3))&&true)&&true) then some (some 1,[.l (gi d 0).rows,.l k,.l (gi d 2).rows,.l (gi d 3).rows,.l (gi d 4).rows,.i B,.l (dv au (gi d 6).rows z9 [.s (gi d 8).str,.i (gi d 9).int,.i (gi d 10).int,.i (gi d 11).int,.i (gi d 12).int,.i (gi d 13).int,.s (gi d 14).str,.s (gi d 15).str,.i (gi d 16).int,.i (gi d 17).int,.s (gi d 18).str,.s (gi d 19).str,.s (gi d 20).str,.s (gi d 21).str,.i (gi d 22).int] (gi d 7).int.toNat),.i (((dM au (gi d 6).rows z9 (gi d 7).int.toNat):Nat):Int),.l (gi d 23).rows,.l (gi d 25).rows,.i (gi d 26).int,.i (gi d 27).int]) else none) else none)))))
def R':be:=⟨14,[],⟨143,[(0,.s (.list aF)),(6,.s (.ptr 0 0)),(7,.s (.map 6)),(9,.s (.int .i64)),(10,.s (.ptr 7 0)),(21,.s (.list [.int .i64])),(22,.s (.int .i64)),(23,.s (.int .i64))],[.box [.vec 1 15,.vec 2 8,.vec 3 1,.vec 4 1,.map 5],.vec aF 0,.vec au 0,.vec [.str] 0,.vec [.int .i64] 0,.map (.agg [.str,.int .i64]) (.one (.bool)),.map (.agg au) (.agg aF),.box [.str,.int .i64,.int .i64,.int .i64,.int .i64,.int .i64,.str,.str,.int .i64,.int .i64,.str,.str,.str,.str,.int .i64]]⟩,[.slot 6,.cell 0 0,.cell 0 1,.cell 0 2,.cell 0 3,.cell 0 4,.slot 7,.slot 10],[⟨.exit 1,⟨143,[(0,.s (.list aF)),(6,.s (.ptr 0 0)),(7,.s (.map 6)),(21,.s (.list [.int .i64])),(22,.s (.int .i64)),(23,.s (.int .i64))],[.box [.vec 1 15,.vec 2 8,.vec 3 1,.vec 4 1,.map 5],.vec aF 0,.vec au 0,.vec [.str] 0,.vec [.int .i64] 0,.map (.agg [.str,.int .i64]) (.one (.bool)),.map (.agg au) (.agg aF)]⟩,[.slot 6,.cell 0 0,.cell 0 1,.cell 0 2,.cell 0 3,.cell 0 4,.slot 7]⟩,⟨.normal,⟨143,[(0,.s (.list aF)),(6,.s (.ptr 0 0)),(7,.s (.map 6)),(21,.s (.list [.int .i64])),(22,.s (.int .i64)),(23,.s (.int .i64))],[.box [.vec 1 15,.vec 2 8,.vec 3 1,.vec 4 1,.map 5],.vec aF 0,.vec au 0,.vec [.str] 0,.vec [.int .i64] 0,.map (.agg [.str,.int .i64]) (.one (.bool)),.map (.agg au) (.agg aF)]⟩,[.slot 6,.cell 0 0,.cell 0 1,.cell 0 2,.cell 0 3,.cell 0 4,.slot 7]⟩],uC⟩
theorem agh:fm P t75 (ay.gA [(3,[.gz 6 0 aF,.gz 6 3 [.int .i64],.gz 6 1 au,.gz 6 2 [.str]])]) 0 (cutAt f30 14) R':=fun d=>by kernel_rfl
def HV:LT:=(ay.gA [(3,[.gz 6 0 aF,.gz 6 3 [.int .i64],.gz 6 1 au,.gz 6 2 [.str]])]).eP 0 R'
theorem agi:ax P 0 HV (aQ f30):=ax.aC hm r9 (nk _) agh
def uD(d:List G):Option (Option Nat × List G) :=
 (bif (aw ((gi d 11).int+1)) then (bif ((((ab (gi d 0).rows.length (gi d 0).rows.length)&&((ab (gi d 1).rows.length (gi d 1).rows.length)&&((ab (gi d 2).rows.length (gi d 2).rows.length)&&((ab (gi d 3).rows.length (gi d 3).rows.length)&&true))))&&true)&&true) then some (some 0,[.l (gi d 0).rows,.l (gi d 1).rows,.l (gi d 2).rows,.l (gi d 3).rows,.l (gi d 4).rows,.i (((gi d 5).int.toNat:Nat):Int),.l (gi d 6).rows,.i (((gi d 7).int.toNat:Nat):Int),.l (gi d 8).rows,.l (gi d 9).rows,.i (gi d 10).int,.i ((gi d 11).int+1)]) else none) else none)
def Sa:be:=⟨20,[],⟨143,[(0,.s (.list aF)),(6,.s (.ptr 0 0)),(7,.s (.map 6)),(21,.s (.list [.int .i64])),(22,.s (.int .i64)),(23,.s (.int .i64))],[.box [.vec 1 15,.vec 2 8,.vec 3 1,.vec 4 1,.map 5],.vec aF 0,.vec au 0,.vec [.str] 0,.vec [.int .i64] 0,.map (.agg [.str,.int .i64]) (.one (.bool)),.map (.agg au) (.agg aF)]⟩,[.slot 6,.cell 0 0,.cell 0 1,.cell 0 2,.cell 0 3,.cell 0 4,.slot 7],[⟨.normal,⟨143,[(0,.s (.list aF)),(6,.s (.ptr 0 0)),(7,.s (.map 6)),(21,.s (.list [.int .i64])),(22,.s (.int .i64)),(23,.s (.int .i64))],[.box [.vec 1 15,.vec 2 8,.vec 3 1,.vec 4 1,.map 5],.vec aF 0,.vec au 0,.vec [.str] 0,.vec [.int .i64] 0,.map (.agg [.str,.int .i64]) (.one (.bool)),.map (.agg au) (.agg aF)]⟩,[.slot 6,.cell 0 0,.cell 0 1,.cell 0 2,.cell 0 3,.cell 0 4,.slot 7]⟩],uD⟩
theorem agj:fm P t75 HV 0 (cutAt f30 20) Sa:=fun d=>by kernel_rfl
def HW:LT:=HV.eP 0 Sa
theorem agk:ax P 0 HW (aQ f30):=ax.aC hm r9 agi agj
def xO(d:List G):Option (Option Nat × List G) :=
 let k:=(((ab (gi d 0).rows.length (gi d 0).rows.length)&&((ab (gi d 1).rows.length (gi d 1).rows.length)&&((ab (gi d 2).rows.length (gi d 2).rows.length)&&((ab (gi d 3).rows.length (gi d 3).rows.length)&&true))))&&true)&&true; let z2:=(((gi d 5).int.toNat:Nat):Int); let z3:=(((gi d 7).int.toNat:Nat):Int); (bif (gi d 28).bool then (bif k then some (some 0,[.l (gi d 0).rows,.l (gi d 1).rows,.l (gi d 2).rows,.l (gi d 3).rows,.l (rA [.str,.int .i64] (gi d 4).rows [.s (gi d 8).str,.i (gi d 16).int]),.i z2,.l (gi d 6).rows,.i z3,.s (gi d 8).str,.i (gi d 9).int,.i (gi d 10).int,.i (gi d 11).int,.i (gi d 12).int,.i (gi d 13).int,.s (gi d 14).str,.s (gi d 15).str,.i (gi d 16).int,.i (gi d 17).int,.s (gi d 18).str,.s (gi d 19).str,.s (gi d 20).str,.s (gi d 21).str,.i (gi d 22).int,.l (gi d 23).rows,.i (gi d 24).int,.l (gi d 25).rows,.i (gi d 26).int,.i (gi d 27).int]) else none) else (bif k then some (some 0,[.l (gi d 0).rows,.l (gi d 1).rows,.l (gi d 2).rows,.l (gi d 3).rows,.l (gi d 4).rows,.i z2,.l (gi d 6).rows,.i z3,.s (gi d 8).str,.i (gi d 9).int,.i (gi d 10).int,.i (gi d 11).int,.i (gi d 12).int,.i (gi d 13).int,.s (gi d 14).str,.s (gi d 15).str,.i (gi d 16).int,.i (gi d 17).int,.s (gi d 18).str,.s (gi d 19).str,.s (gi d 20).str,.s (gi d 21).str,.i (gi d 22).int,.l (gi d 23).rows,.i (gi d 24).int,.l (gi d 25).rows,.i (gi d 26).int,.i (gi d 27).int]) else none))
def Sb:be:=⟨13,[],⟨143,[(0,.s (.list aF)),(6,.s (.ptr 0 0)),(7,.s (.map 6)),(9,.s (.int .i64)),(10,.s (.ptr 7 0)),(21,.s (.list [.int .i64])),(22,.s (.int .i64)),(23,.s (.int .i64)),(55,.s (.bool))],[.box [.vec 1 15,.vec 2 8,.vec 3 1,.vec 4 1,.map 5],.vec aF 0,.vec au 0,.vec [.str] 0,.vec [.int .i64] 0,.map (.agg [.str,.int .i64]) (.one (.bool)),.map (.agg au) (.agg aF),.box [.str,.int .i64,.int .i64,.int .i64,.int .i64,.int .i64,.str,.str,.int .i64,.int .i64,.str,.str,.str,.str,.int .i64]]⟩,[.slot 6,.cell 0 0,.cell 0 1,.cell 0 2,.cell 0 3,.cell 0 4,.slot 7,.slot 10],[⟨.normal,⟨143,[(0,.s (.list aF)),(6,.s (.ptr 0 0)),(7,.s (.map 6)),(9,.s (.int .i64)),(10,.s (.ptr 7 0)),(21,.s (.list [.int .i64])),(22,.s (.int .i64)),(23,.s (.int .i64))],[.box [.vec 1 15,.vec 2 8,.vec 3 1,.vec 4 1,.map 5],.vec aF 0,.vec au 0,.vec [.str] 0,.vec [.int .i64] 0,.map (.agg [.str,.int .i64]) (.one (.bool)),.map (.agg au) (.agg aF),.box [.str,.int .i64,.int .i64,.int .i64,.int .i64,.int .i64,.str,.str,.int .i64,.int .i64,.str,.str,.str,.str,.int .i64]]⟩,[.slot 6,.cell 0 0,.cell 0 1,.cell 0 2,.cell 0 3,.cell 0 4,.slot 7,.slot 10]⟩],xO⟩
theorem agl:fm P t75 HW 0 (cutAt f30 13) Sb:=fun d=>by kernel_rfl
def HX:LT:=HW.eP 0 Sb
theorem agm:ax P 0 HX (aQ f30):=ax.aC hm r9 agk agl
def uE(d:List G):Option (Option Nat × List G) :=
 let z3:=gi ((gi d 9).rows.getD (((gi d 11).int).toNat) []) 0; let k:=(gi d 8).rows.getD ((z3.int).toNat) []; let z4:=((gi d 0).rows++([(aU aF k)]:List (List G))); let z2:=(((ab z4.length z4.length)&&((ab (gi d 1).rows.length (gi d 1).rows.length)&&((ab (gi d 2).rows.length (gi d 2).rows.length)&&((ab (gi d 3).rows.length (gi d 3).rows.length)&&true))))&&true)&&true; let z5:=(((gi d 7).int.toNat:Nat):Int); let q:=(((gi d 5).int.toNat:Nat):Int); let M:=ab (gi d 0).rows.length (gi d 0).rows.length; (bif (ao (gi d 11).int (gi d 10).int) then (bif ((aJ (gi d 11).int)&&(ao (gi d 11).int (((gi d 9).rows.length:Nat):Int))) then (bif ((aJ z3.int)&&(ao z3.int (((gi d 8).rows.length:Nat):Int))) then (bif (M&&(decide (((gi d 0).rows.length+1)≤1048576))) then (bif ((gi k 3).int==3) then (aO z2 (cf (uC [.l z4,.l (gi d 1).rows,.l (gi d 2).rows,.l (gi d 3).rows,.l (dv [.str,.int .i64] (gi d 4).rows [.s (gi k 0).str,.i (gi k 8).int] [.t true] (gi d 5).int.toNat),.i (((dM [.str,.int .i64] (gi d 4).rows [.s (gi k 0).str,.i (gi k 8).int] (gi d 5).int.toNat):Nat):Int),.l (gi d 6).rows,.i z5,.s (gi k 0).str,.i (gi k 1).int,.i (gi k 2).int,.i (gi k 3).int,.i (gi k 4).int,.i (gi k 5).int,.s (gi k 6).str,.s (gi k 7).str,.i (gi k 8).int,.i (gi k 9).int,.s (gi k 10).str,.s (gi k 11).str,.s (gi k 12).str,.s (gi k 13).str,.i (gi k 14).int,.l (gi d 8).rows,.i z3.int,.l (gi d 9).rows,.i (gi d 10).int,.i (gi d 11).int])) fun U g4=>let N:=(cf (uD [.l (gi g4 0).rows,.l (gi g4 1).rows,.l (gi g4 2).rows,.l (gi g4 3).rows,.l (gi g4 4).rows,.i (((gi g4 5).int.toNat:Nat):Int),.l (gi g4 6).rows,.i (((gi g4 7).int.toNat:Nat):Int),.l (gi g4 8).rows,.l (gi g4 9).rows,.i (gi g4 10).int,.i (gi g4 11).int])); let z9:=(((ab (gi g4 0).rows.length (gi g4 0).rows.length)&&((ab (gi g4 1).rows.length (gi g4 1).rows.length)&&((ab (gi g4 2).rows.length (gi g4 2).rows.length)&&((ab (gi g4 3).rows.length (gi g4 3).rows.length)&&true))))&&true)&&true; (bif ab U 0 then (aO z9 N fun cg5 g5=>(bif ((((ab (gi g5 0).rows.length (gi g5 0).rows.length)&&((ab (gi g5 1).rows.length (gi g5 1).rows.length)&&((ab (gi g5 2).rows.length (gi g5 2).rows.length)&&((ab (gi g5 3).rows.length (gi g5 3).rows.length)&&true))))&&true)&&true) then some (none,[.l (gi g5 0).rows,.l (gi g5 1).rows,.l (gi g5 2).rows,.l (gi g5 3).rows,.l (gi g5 4).rows,.i (((gi g5 5).int.toNat:Nat):Int),.l (gi g5 6).rows,.i (((gi g5 7).int.toNat:Nat):Int),.l (gi g5 8).rows,.l (gi g5 9).rows,.i (gi g5 10).int,.i (gi g5 11).int]) else none)) else (aO z9 N fun cg6 g6=>(bif ((((ab (gi g6 0).rows.length (gi g6 0).rows.length)&&((ab (gi g6 1).rows.length (gi g6 1).rows.length)&&((ab (gi g6 2).rows.length (gi g6 2).rows.length)&&((ab (gi g6 3).rows.length (gi g6 3).rows.length)&&true))))&&true)&&true) then some (none,[.l (gi g6 0).rows,.l (gi g6 1).rows,.l (gi g6 2).rows,.l (gi g6 3).rows,.l (gi g6 4).rows,.i (((gi g6 5).int.toNat:Nat):Int),.l (gi g6 6).rows,.i (((gi g6 7).int.toNat:Nat):Int),.l (gi g6 8).rows,.l (gi g6 9).rows,.i (gi g6 10).int,.i (gi g6 11).int]) else none)))) else (bif ((gi k 3).int==4) then (aO z2 (cf (xO [.l z4,.l (gi d 1).rows,.l (gi d 2).rows,.l (gi d 3).rows,.l (gi d 4).rows,.i q,.l (gi d 6).rows,.i z5,.s (gi k 0).str,.i (gi k 1).int,.i (gi k 2).int,.i (gi k 3).int,.i (gi k 4).int,.i (gi k 5).int,.s (gi k 6).str,.s (gi k 7).str,.i (gi k 8).int,.i (gi k 9).int,.s (gi k 10).str,.s (gi k 11).str,.s (gi k 12).str,.s (gi k 13).str,.i (gi k 14).int,.l (gi d 8).rows,.i z3.int,.l (gi d 9).rows,.i (gi d 10).int,.i (gi d 11).int,.t ((gi k 3).int==4)])) fun cg7 g7=>(aO ((((ab (gi g7 0).rows.length (gi g7 0).rows.length)&&((ab (gi g7 1).rows.length (gi g7 1).rows.length)&&((ab (gi g7 2).rows.length (gi g7 2).rows.length)&&((ab (gi g7 3).rows.length (gi g7 3).rows.length)&&true))))&&true)&&true) (cf (uC [.l (gi g7 0).rows,.l (gi g7 1).rows,.l (gi g7 2).rows,.l (gi g7 3).rows,.l (gi g7 4).rows,.i (((gi g7 5).int.toNat:Nat):Int),.l (gi g7 6).rows,.i (((gi g7 7).int.toNat:Nat):Int),.s (gi g7 8).str,.i (gi g7 9).int,.i (gi g7 10).int,.i (gi g7 11).int,.i (gi g7 12).int,.i (gi g7 13).int,.s (gi g7 14).str,.s (gi g7 15).str,.i (gi g7 16).int,.i (gi g7 17).int,.s (gi g7 18).str,.s (gi g7 19).str,.s (gi g7 20).str,.s (gi g7 21).str,.i (gi g7 22).int,.l (gi g7 23).rows,.i (gi g7 24).int,.l (gi g7 25).rows,.i (gi g7 26).int,.i (gi g7 27).int])) fun V g8=>let B:=(cf (uD [.l (gi g8 0).rows,.l (gi g8 1).rows,.l (gi g8 2).rows,.l (gi g8 3).rows,.l (gi g8 4).rows,.i (((gi g8 5).int.toNat:Nat):Int),.l (gi g8 6).rows,.i (((gi g8 7).int.toNat:Nat):Int),.l (gi g8 8).rows,.l (gi g8 9).rows,.i (gi g8 10).int,.i (gi g8 11).int])); let I:=(((ab (gi g8 0).rows.length (gi g8 0).rows.length)&&((ab (gi g8 1).rows.length (gi g8 1).rows.length)&&((ab (gi g8 2).rows.length (gi g8 2).rows.length)&&((ab (gi g8 3).rows.length (gi g8 3).rows.length)&&true))))&&true)&&true; (bif ab V 0 then (aO I B fun cg9 g9=>(bif ((((ab (gi g9 0).rows.length (gi g9 0).rows.length)&&((ab (gi g9 1).rows.length (gi g9 1).rows.length)&&((ab (gi g9 2).rows.length (gi g9 2).rows.length)&&((ab (gi g9 3).rows.length (gi g9 3).rows.length)&&true))))&&true)&&true) then some (none,[.l (gi g9 0).rows,.l (gi g9 1).rows,.l (gi g9 2).rows,.l (gi g9 3).rows,.l (gi g9 4).rows,.i (((gi g9 5).int.toNat:Nat):Int),.l (gi g9 6).rows,.i (((gi g9 7).int.toNat:Nat):Int),.l (gi g9 8).rows,.l (gi g9 9).rows,.i (gi g9 10).int,.i (gi g9 11).int]) else none)) else (aO I B fun W g10=>(bif ((((ab (gi g10 0).rows.length (gi g10 0).rows.length)&&((ab (gi g10 1).rows.length (gi g10 1).rows.length)&&((ab (gi g10 2).rows.length (gi g10 2).rows.length)&&((ab (gi g10 3).rows.length (gi g10 3).rows.length)&&true))))&&true)&&true) then some (none,[.l (gi g10 0).rows,.l (gi g10 1).rows,.l (gi g10 2).rows,.l (gi g10 3).rows,.l (gi g10 4).rows,.i (((gi g10 5).int.toNat:Nat):Int),.l (gi g10 6).rows,.i (((gi g10 7).int.toNat:Nat):Int),.l (gi g10 8).rows,.l (gi g10 9).rows,.i (gi g10 10).int,.i (gi g10 11).int]) else none))))) else (aO z2 (cf (xO [.l z4,.l (gi d 1).rows,.l (gi d 2).rows,.l (gi d 3).rows,.l (gi d 4).rows,.i q,.l (gi d 6).rows,.i z5,.s (gi k 0).str,.i (gi k 1).int,.i (gi k 2).int,.i (gi k 3).int,.i (gi k 4).int,.i (gi k 5).int,.s (gi k 6).str,.s (gi k 7).str,.i (gi k 8).int,.i (gi k 9).int,.s (gi k 10).str,.s (gi k 11).str,.s (gi k 12).str,.s (gi k 13).str,.i (gi k 14).int,.l (gi d 8).rows,.i z3.int,.l (gi d 9).rows,.i (gi d 10).int,.i (gi d 11).int,.t ((gi k 3).int==1)])) fun cg11 g11=>(aO ((((ab (gi g11 0).rows.length (gi g11 0).rows.length)&&((ab (gi g11 1).rows.length (gi g11 1).rows.length)&&((ab (gi g11 2).rows.length (gi g11 2).rows.length)&&((ab (gi g11 3).rows.length (gi g11 3).rows.length)&&true))))&&true)&&true) (cf (uC [.l (gi g11 0).rows,.l (gi g11 1).rows,.l (gi g11 2).rows,.l (gi g11 3).rows,.l (gi g11 4).rows,.i (((gi g11 5).int.toNat:Nat):Int),.l (gi g11 6).rows,.i (((gi g11 7).int.toNat:Nat):Int),.s (gi g11 8).str,.i (gi g11 9).int,.i (gi g11 10).int,.i (gi g11 11).int,.i (gi g11 12).int,.i (gi g11 13).int,.s (gi g11 14).str,.s (gi g11 15).str,.i (gi g11 16).int,.i (gi g11 17).int,.s (gi g11 18).str,.s (gi g11 19).str,.s (gi g11 20).str,.s (gi g11 21).str,.i (gi g11 22).int,.l (gi g11 23).rows,.i (gi g11 24).int,.l (gi g11 25).rows,.i (gi g11 26).int,.i (gi g11 27).int])) fun O g12=>let z12:=(cf (uD [.l (gi g12 0).rows,.l (gi g12 1).rows,.l (gi g12 2).rows,.l (gi g12 3).rows,.l (gi g12 4).rows,.i (((gi g12 5).int.toNat:Nat):Int),.l (gi g12 6).rows,.i (((gi g12 7).int.toNat:Nat):Int),.l (gi g12 8).rows,.l (gi g12 9).rows,.i (gi g12 10).int,.i (gi g12 11).int])); let J:=(((ab (gi g12 0).rows.length (gi g12 0).rows.length)&&((ab (gi g12 1).rows.length (gi g12 1).rows.length)&&((ab (gi g12 2).rows.length (gi g12 2).rows.length)&&((ab (gi g12 3).rows.length (gi g12 3).rows.length)&&true))))&&true)&&true; (bif ab O 0 then (aO J z12 fun cg13 g13=>(bif ((((ab (gi g13 0).rows.length (gi g13 0).rows.length)&&((ab (gi g13 1).rows.length (gi g13 1).rows.length)&&((ab (gi g13 2).rows.length (gi g13 2).rows.length)&&((ab (gi g13 3).rows.length (gi g13 3).rows.length)&&true))))&&true)&&true) then some (none,[.l (gi g13 0).rows,.l (gi g13 1).rows,.l (gi g13 2).rows,.l (gi g13 3).rows,.l (gi g13 4).rows,.i (((gi g13 5).int.toNat:Nat):Int),.l (gi g13 6).rows,.i (((gi g13 7).int.toNat:Nat):Int),.l (gi g13 8).rows,.l (gi g13 9).rows,.i (gi g13 10).int,.i (gi g13 11).int]) else none)) else (aO J z12 fun cg14 g14=>(bif ((((ab (gi g14 0).rows.length (gi g14 0).rows.length)&&((ab (gi g14 1).rows.length (gi g14 1).rows.length)&&((ab (gi g14 2).rows.length (gi g14 2).rows.length)&&((ab (gi g14 3).rows.length (gi g14 3).rows.length)&&true))))&&true)&&true) then some (none,[.l (gi g14 0).rows,.l (gi g14 1).rows,.l (gi g14 2).rows,.l (gi g14 3).rows,.l (gi g14 4).rows,.i (((gi g14 5).int.toNat:Nat):Int),.l (gi g14 6).rows,.i (((gi g14 7).int.toNat:Nat):Int),.l (gi g14 8).rows,.l (gi g14 9).rows,.i (gi g14 10).int,.i (gi g14 11).int]) else none))))))) else none) else none) else none) else (bif (((M&&((ab (gi d 1).rows.length (gi d 1).rows.length)&&((ab (gi d 2).rows.length (gi d 2).rows.length)&&((ab (gi d 3).rows.length (gi d 3).rows.length)&&true))))&&true)&&true) then some (some 0,[.l (gi d 0).rows,.l (gi d 1).rows,.l (gi d 2).rows,.l (gi d 3).rows,.l (gi d 4).rows,.i q,.l (gi d 6).rows,.i z5]) else none))
def Sc:be:=⟨4,[],⟨143,[(0,.s (.list aF)),(6,.s (.ptr 0 0)),(7,.s (.map 6)),(21,.s (.list [.int .i64])),(22,.s (.int .i64)),(23,.s (.int .i64))],[.box [.vec 1 15,.vec 2 8,.vec 3 1,.vec 4 1,.map 5],.vec aF 0,.vec au 0,.vec [.str] 0,.vec [.int .i64] 0,.map (.agg [.str,.int .i64]) (.one (.bool)),.map (.agg au) (.agg aF)]⟩,[.slot 6,.cell 0 0,.cell 0 1,.cell 0 2,.cell 0 3,.cell 0 4,.slot 7],[⟨.exit 0,⟨143,[(6,.s (.ptr 0 0)),(7,.s (.map 6))],[.box [.vec 1 15,.vec 2 8,.vec 3 1,.vec 4 1,.map 5],.vec aF 0,.vec au 0,.vec [.str] 0,.vec [.int .i64] 0,.map (.agg [.str,.int .i64]) (.one (.bool)),.map (.agg au) (.agg aF)]⟩,[.slot 6,.cell 0 0,.cell 0 1,.cell 0 2,.cell 0 3,.cell 0 4,.slot 7]⟩],uE⟩
theorem agn:cy P t75 HX 0 (cB f30 4) Sc:=fun d=>by kernel_rfl
def HY:LT:=HX.add 0 Sc
theorem ago:ax P 0 HY (aQ f30):=ax.a hm r9 agm agn
def xP(d:List G):Option (Option Nat × List G) :=
 let k:=(⟨#[]⟩:ByteArray); let z2:=ab (gi d 1).rows.length (gi d 1).rows.length; let z3:=(ab (gi d 3).rows.length (gi d 3).rows.length)&&true; let z4:=ab (gi d 2).rows.length (gi d 2).rows.length; let z5:=ab (gi d 0).rows.length (gi d 0).rows.length; let B:=(((gi d 5).int.toNat:Nat):Int); let I:=0+((gi d 9).int).toNat; (bif (ao (gi d 9).int (gi d 8).int) then (bif ((aJ (gi d 9).int)&&(ao (gi d 9).int (((gi d 1).rows.length:Nat):Int))) then (bif (decide (I<(gi d 1).rows.length)) then (ar (B7 [.l [(aU au ((gi d 1).rows.getD I []))]]) fun g17=>let q:=((gi d 2).rows++([[.s (gi (bZ au (gi d 6).rows (aU au (gi g17 0).row) [.s k,.i 0,.i 0,.i 0,.i 0,.i 0,.s k,.s k,.i 0,.i 0,.s k,.s k,.s k,.s k,.i 0]) 0).str]]:List (List G))); (bif (z4&&(decide (((gi d 2).rows.length+1)≤1048576))) then (bif (aw ((gi d 9).int+1)) then (bif (((z5&&(z2&&((ab q.length q.length)&&z3)))&&true)&&(z2&&true)) then some (none,[.l (gi d 0).rows,.l (gi d 1).rows,.l q,.l (gi d 3).rows,.l (gi d 4).rows,.i B,.l (gi d 6).rows,.i (((gi d 7).int.toNat:Nat):Int),.i (gi d 8).int,.i ((gi d 9).int+1)]) else none) else none) else none)) else none) else none) else (bif (((z5&&(z2&&(z4&&z3)))&&true)&&true) then some (some 0,[.l (gi d 0).rows,.l (gi d 1).rows,.l (gi d 2).rows,.l (gi d 3).rows,.l (gi d 4).rows,.i B]) else none))
def Sd:be:=⟨25,[],⟨143,[(6,.s (.ptr 0 0)),(7,.s (.map 6)),(121,.s (.vec 2 8)),(122,.s (.int .i64)),(123,.s (.int .i64))],[.box [.vec 1 15,.vec 2 8,.vec 3 1,.vec 4 1,.map 5],.vec aF 0,.vec au 0,.vec [.str] 0,.vec [.int .i64] 0,.map (.agg [.str,.int .i64]) (.one (.bool)),.map (.agg au) (.agg aF)]⟩,[.slot 6,.cell 0 0,.cell 0 1,.cell 0 2,.cell 0 3,.cell 0 4,.slot 7],[⟨.exit 3,⟨143,[(6,.s (.ptr 0 0))],[.box [.vec 1 15,.vec 2 8,.vec 3 1,.vec 4 1,.map 5],.vec aF 0,.vec au 0,.vec [.str] 0,.vec [.int .i64] 0,.map (.agg [.str,.int .i64]) (.one (.bool))]⟩,[.slot 6,.cell 0 0,.cell 0 1,.cell 0 2,.cell 0 3,.cell 0 4]⟩],xP⟩
theorem agp:cy P t75 HY 0 (cB f30 25) Sd:=fun d=>by kernel_rfl
def Se:LT:=HY.add 0 Sd
theorem agq:ax P 0 Se (aQ f30):=ax.a hm r9 ago agp
def B9(d:List G):Option (List G) :=
 (ar (B6 [.l (gi d 0).rows,.i (gi d 1).int]) fun g1=>(aO true (bX uE [.l [],.l [],.l [],.l [],.l [],.i 0,.l [],.i 0,.l (gi d 0).rows,.l (gi g1 0).rows,.i (((gi g1 0).rows.length:Nat):Int),.i 0]) fun q g15=>let k:=B8 [.l (gi g15 1).rows]; let z2:=(((gi g15 1).rows.length:Nat):Int); (bif (ao 2000 z2) then none else (iF (((ab (gi g15 1).rows.length (gi g15 1).rows.length)&&true)&&k.isSome) k fun g16=>let z3:=ab (gi g15 1).rows.length (gi g16 0).rows.length; (aO ((((ab (gi g15 0).rows.length (gi g15 0).rows.length)&&(z3&&((ab (gi g15 2).rows.length (gi g15 2).rows.length)&&((ab (gi g15 3).rows.length (gi g15 3).rows.length)&&true))))&&true)&&(z3&&true)) (bX xP [.l (gi g15 0).rows,.l (gi g16 0).rows,.l (gi g15 2).rows,.l (gi g15 3).rows,.l (gi g15 4).rows,.i (((gi g15 5).int.toNat:Nat):Int),.l (gi g15 6).rows,.i (((gi g15 7).int.toNat:Nat):Int),.i z2,.i 0]) fun B g18=>(bif ((((ab (gi g18 0).rows.length (gi g18 0).rows.length)&&((ab (gi g18 1).rows.length (gi g18 1).rows.length)&&((ab (gi g18 2).rows.length (gi g18 2).rows.length)&&((ab (gi g18 3).rows.length (gi g18 3).rows.length)&&true))))&&true)&&true) then some [.l (gi g18 0).rows,.l (gi g18 1).rows,.l (gi g18 2).rows,.l (gi g18 3).rows,.l (gi g18 4).rows,.i (((gi g18 5).int.toNat:Nat):Int),.i 0] else none))))))
def HZ:aB:=⟨30,[.s (.list aF),.s (.int .i64)],[],[],[.s (.ptr 0 0),.s (.int .i64)],[.box [.list aF,.list au,.list [.str],.list [.int .i64],.map 1],.map (.agg [.str,.int .i64]) (.one (.bool))],[.slot 0,.cell 0 4],[],B9⟩
theorem agr:aV P t75 Se f30 HZ:=fun d=>by kernel_rfl
theorem ags:aT P HZ:=aR hm r9 func30 agq agr
def t76:ai:=t75.cX HZ
theorem agt:ak P t76:=r9.aW ags

def t77:ai:=t76.nq P 13 f13
theorem Sf:ak P t77:=agt.nq hm func13 (by kernel_rfl) (by kernel_rfl)

def B_(d:List G):Option (List G) :=
 (ar (B4 [.l (gi d 0).rows,.i (gi d 1).int]) fun g3=>(bif ((gi g3 0).int != 0) then (bif ((gi g3 0).int != 0) then some [.l [],.l [],.i (gi g3 0).int] else none) else (ar (B9 [.l (gi d 0).rows,.i (gi d 1).int]) fun g4=>(bif ((gi g4 6).int != 0) then some [.l [],.l [],.i (gi g4 6).int] else some [.l (gi g4 1).rows,.l (gi g4 3).rows,.i 0]))))
def H5:aB:=⟨4,[.s (.list aF),.s (.int .i64)],[],[],[.s (.list au),.s (.list [.int .i64]),.s (.int .i64)],[],[],[],B_⟩
theorem agu:aV P t77 ay f4 H5:=fun d=>by kernel_rfl
theorem agv:aT P H5:=aR hm Sf func4 (aL _ _ _) agu
def t78:ai:=t77.bh H5
theorem agw:ak P t78:=Sf.aP agv

def xQ(d:List G):Option (List G) :=
 Bu d
def xR:aB:=⟨19,[.s (.vec 0 1)],[.vec [.str] 0],[.slot 0],[],[.vec [.str] 0],[.fix 0],[],xQ⟩
theorem agx:∀ d r,xQ d=some r→dC P 19 (xR.args0 d) (aj (xR.H0 d)) (xR.out r) (aj (xR.H1 r)):=fun d r h=>aaJ Tryz.abd d r h
def t79:ai:=t78.cX xR
theorem xS:ak P t79:=agw.aW agx

end
end Go.Proofs.gl
