/-
 What is proved here: functions of the program as functions on data. No condition.
-/
import Derived.Test.YtppdbdblllpimaaGreatDoorML1
set_option linter.all false
open Int renaming tmod→zH,tdiv→DS
open Nat renaming beq→ab
namespace Go.Proofs.gT
open Go Go.AL Go.Proofs Tryz
noncomputable section
def uO(d:List G):Option (Option Nat × List G) :=
 let z3:=(((gi d 0).rows.length:Nat):Int); let z4:=decide ((0+((gi d 1).int).toNat)<(gi d 0).rows.length); let z5:=(a_ (gi d 2).int)&&(aB (gi d 2).int z3); let q:=(a_ (gi d 1).int)&&(aB (gi d 1).int z3); let g:=0+((gi d 2).int).toNat; let k:=(gi d 0).rows.set (0+((gi d 1).int).toNat) (fP [.int .i64] ((gi d 0).rows.getD (0+((gi d 1).int).toNat) []) 0 [.i (gi ((gi d 0).rows.getD g []) 0).int]); let z2:=k.set g (fP [.int .i64] (k.getD g []) 0 [.i (gi ((gi d 0).rows.getD (0+((gi d 1).int).toNat) []) 0).int]); (bif (aB (gi d 1).int (gi d 2).int) then (bif z5 then (bif (decide (g<(gi d 0).rows.length)) then (bif q then (bif z4 then (bif q then (bif z4 then (bif z5 then (bif (decide (g<k.length)) then (bif (aw ((gi d 1).int+1)) then (bif (aw ((gi d 2).int-1)) then (bif ((ab (gi d 0).rows.length z2.length)&&true) then some (none,[.l z2,.i ((gi d 1).int+1),.i ((gi d 2).int-1)]) else none) else none) else none) else none) else none) else none) else none) else none) else none) else none) else none) else some (some 0,[.l (gi d 0).rows]))
def PA:bq:=⟨1,[],⟨28,[(0,.s (.vec 0 1)),(2,.s (.int .i64)),(3,.s (.int .i64))],[.vec [.int .i64] 0]⟩,[.fix 0],[⟨.exit 0,⟨28,[],[.vec [.int .i64] 0]⟩,[.fix 0]⟩],uO⟩
theorem abm:cW P t7 az 1 (cX f135 1) PA:=fun d=>by kernel_rfl
def PB:LT:=az.add 1 PA
theorem abn:ax P 1 PB (aN f135):=ax.a hm G0 (aK _ _ _) abm
def BZ(d:List G):Option (List G) :=
 let g:=((((gi d 0).rows.length:Nat):Int)-1); (bif (aw g) then (a7 ((ab (gi d 0).rows.length (gi d 0).rows.length)&&true) (cd uO [.l (gi d 0).rows,.i 0,.i g]) fun k g1=>some [.l (gi g1 0).rows]) else none)
def G1:aA:=⟨135,[.s (.vec 0 1)],[.vec [.int .i64] 0],[.slot 0],[],[.vec [.int .i64] 0],[.fix 0],[],BZ⟩
theorem abo:bf P t7 PB f135 G1:=fun d=>by kernel_rfl
theorem abp:aZ P G1:=bt hm G0 func135 abn abo
def t8:ah:=t7.cP G1
theorem G2:aj P t8:=G0.aW abp

def B0(r d:List G):Option (List G) :=
 let g:=(gi (bZ [.int .i64] (gi d 6).rows [.i (gi (gi r 0).row 1).int] [.i 0]) 0).int+1; (bif (aw g) then (bif ((((ab (gi d 3).rows.length (gi d 3).rows.length)&&true)&&true)&&true) then some [.l (gi d 0).rows,.l (gi d 1).rows,.l (gi d 2).rows,.l (gi d 3).rows,.l (gi d 4).rows,.i (((gi d 5).int.toNat:Nat):Int),.l (bK [.int .i64] (gi d 6).rows [.i (gi (gi r 0).row 1).int] [.i g] (gi d 7).int.toNat),.i (((cU [.int .i64] (gi d 6).rows [.i (gi (gi r 0).row 1).int] (gi d 7).int.toNat):Nat):Int),.i (((gi d 8).int.toNat:Nat):Int)] else none) else none)
def PC(d:List G)(b:Nat):List G:=[.l (gi d 0).rows,.l (gi d 1).rows,.l (gi d 2).rows,.l (gi d 3).rows,.l (gi d 4).rows,.i (((gi d 5).int.toNat:Nat):Int),.l (gi d 6).rows,.i (((gi d 7).int.toNat:Nat):Int),.i (b:Int)]
def abq(d:List G)(b:Nat):Bool:=((((ab (gi d 3).rows.length (gi d 3).rows.length)&&true)&&true)&&true)
def mr:eu:=⟨⟨21,[(3,.s (.map 3)),(10,.s (.addr))],[.box [.vec 1 15,.list aY,.list [.str],.list [.int .i64],.map 2],.vec ak 0,.map (.agg [.str,.int .i64]) (.one (.bool)),.map (.one (.int .i64)) (.one (.int .i64))]⟩,[.fix 0,.cell 0 0,.cell 0 4,.slot 3],[],(.agg [.str,.int .i64]),(.one (.bool)),2,0,9,10,11,12,13,fun d=>(gi d 8).int.toNat,PC,abq,B0⟩
theorem abr:iH P t8 az 3 mr (lu (cutAt f51 2)) (np (cutAt f51 2)):=fun r d=>by kernel_rfl
def uP(d:List G):Option (Option Nat × List G) :=
 (bif ((((ab (gi d 3).rows.length (gi d 3).rows.length)&&true)&&true)&&true) then some (some 0,[.l (gi d 0).rows,.l (gi d 1).rows,.l (gi d 2).rows,.l (gi d 3).rows,.l (gi d 4).rows,.i (((gi d 5).int.toNat:Nat):Int),.l (gi d 6).rows,.i (((gi d 7).int.toNat:Nat):Int)]) else none)
def PD:bq:=⟨6,[],⟨21,[(3,.s (.map 3)),(10,.s (.addr))],[.box [.vec 1 15,.list aY,.list [.str],.list [.int .i64],.map 2],.vec ak 0,.map (.agg [.str,.int .i64]) (.one (.bool)),.map (.one (.int .i64)) (.one (.int .i64))]⟩,[],[⟨.ret,⟨21,[(2,.s (.map 3))],[.box [.vec 1 15,.list aY,.list [.str],.list [.int .i64],.map 2],.vec ak 0,.map (.agg [.str,.int .i64]) (.one (.bool)),.map (.one (.int .i64)) (.one (.int .i64))]⟩,[.fix 0,.cell 0 0,.cell 0 4,.slot 2]⟩],uP⟩
theorem abt:gh P t8 az 3 (ls (cutAt f51 2)) PD:=fun d=>by kernel_rfl
def PE(d:List G):Option (Option Nat × List G) :=
 iI mr uP (gi d 4).rows ((gi d 5).int.toNat) d
def G3:bq:=⟨2,[],⟨21,[(0,.s (.ptr 0 0)),(3,.s (.map 3))],[.box [.vec 1 15,.list aY,.list [.str],.list [.int .i64],.map 2],.vec ak 0,.map (.agg [.str,.int .i64]) (.one (.bool)),.map (.one (.int .i64)) (.one (.int .i64))]⟩,[.fix 0,.cell 0 0,.cell 0 4,.slot 3],[⟨.ret,⟨21,[(2,.s (.map 3))],[.box [.vec 1 15,.list aY,.list [.str],.list [.int .i64],.map 2],.vec ak 0,.map (.agg [.str,.int .i64]) (.one (.bool)),.map (.one (.int .i64)) (.one (.int .i64))]⟩,[.fix 0,.cell 0 0,.cell 0 4,.slot 2]⟩],PE⟩
def PF:LT:=az.ff 3 G3
theorem abu:∀ r d d',B0 r d=some d'→(gi d' 4).rows=(gi d 4).rows∧(gi d' 5).int.toNat=(gi d 5).int.toNat:=by
 intro r d d' h;unfold B0 at h;simp only[Bool.cond_eq_ite]at h
 repeat' split at h
 all_goals first|(cases h; done)|(cases h; exact⟨rfl,rfl⟩)
theorem abv:ax P 3 PF (aN f51):=ax.Gv (q:=G3) (qr:=PD) (sp:=mr) (r0:=2) (b0:=0) (r1:=3) (b1:=1) (r2:=4) (rows:=fun d=>(gi d 4).rows) (clock:=fun d=>(gi d 5).int.toNat) (pre:=fun d=>xz P t8 (jP (cutAt f51 2)) (aF G3.inv d)) (ri:=fun d=>(gi d 4).rows) (ci:=fun d=>(gi d 5).int.toNat) hm G2 (fun d=>by kernel_rfl) abu (by kernel_rfl) (by kernel_rfl) (aK _ _ _) (by kernel_rfl) (by kernel_rfl) abr (fun d=>by kernel_rfl) (fun d=>by kernel_rfl) (fun d=>by kernel_rfl) (fun d=>by kernel_rfl) (fun d=>by kernel_rfl) (fun d=>by kernel_rfl) (fun d b=>by kernel_rfl) (fun d b=>rfl) (fun d b=>⟨rfl,rfl⟩) rfl rfl abt (fun d=>rfl)
def PG(d:List G):Option (List G) :=
 (a7 ((((ab (gi d 3).rows.length (gi d 3).rows.length)&&true)&&true)&&true) (dD (PE [.l (gi d 0).rows,.l (gi d 1).rows,.l (gi d 2).rows,.l (gi d 3).rows,.l (gi d 4).rows,.i (((gi d 5).int.toNat:Nat):Int),.l [],.i 0])) fun g g1=>(bif ((((ab (gi g1 3).rows.length (gi g1 3).rows.length)&&true)&&true)&&true) then some [.l (gi g1 0).rows,.l (gi g1 1).rows,.l (gi g1 2).rows,.l (gi g1 3).rows,.l (gi g1 4).rows,.i (((gi g1 5).int.toNat:Nat):Int),.l (gi g1 6).rows,.i (((gi g1 7).int.toNat:Nat):Int)] else none))
def B1:aA:=⟨51,[.s (.ptr 0 0)],[.box [.vec 1 15,.list aY,.list [.str],.list [.int .i64],.map 2],.vec ak 0,.map (.agg [.str,.int .i64]) (.one (.bool))],[.slot 0,.cell 0 0,.cell 0 4],[.s (.map 3)],[.box [.vec 1 15,.list aY,.list [.str],.list [.int .i64],.map 2],.vec ak 0,.map (.agg [.str,.int .i64]) (.one (.bool)),.map (.one (.int .i64)) (.one (.int .i64))],[.fix 0,.fix 1,.fix 2,.slot 0],[],PG⟩
theorem abw:bf P t8 PF f51 B1:=fun d=>by kernel_rfl
theorem PH:aZ P B1:=bt hm G2 func51 abv abw
def t9:ah:=t8.cP B1
theorem PI:aj P t9:=G2.aW PH

theorem abx:qi P ⟨178,26,51,15,15,true⟩:=NL func178 (by kernel_rfl) rfl rfl rfl ⟨⟨_,_,_,_,_,_,rfl,⟨rfl,rfl,rfl⟩,⟨rfl,rfl,rfl⟩,⟨rfl,rfl,rfl⟩,⟨rfl,rfl,rfl⟩⟩,⟨_,_,_,_,rfl,⟨rfl,rfl,rfl⟩,⟨rfl,rfl,rfl⟩⟩,⟨_,_,_,_,_,rfl,⟨rfl,rfl,rfl⟩,⟨rfl,rfl,rfl⟩,⟨rfl,rfl,rfl⟩⟩,⟨_,_,_,_,_,_,_,_,_,_,rfl,⟨rfl,rfl,rfl⟩,⟨rfl,rfl,rfl⟩,⟨rfl,rfl,rfl⟩,⟨rfl,rfl,rfl⟩,⟨rfl,rfl,rfl⟩,⟨rfl,rfl,rfl⟩,⟨rfl,rfl,rfl⟩,⟨rfl,rfl,rfl⟩⟩⟩ (by kernel_rfl)
def aby(d:List G):Option (Option Nat × List G) :=
 Gw mr uP (gi d 4).rows ((gi d 5).int.toNat) d
theorem abz(d x:List G)(b:Nat):(bP mr.st mr.aT [x] (mr.init d b)).bind uP=(bP mr.st mr.aT [x] (mr.init d 0)).bind uP:=by
 simp only[YC,mr];unfold B0 PC uP;dsimp +instances only[NR,NS];simp only[YD,Option.bind_some,Option.bind_none];dsimp +instances only[NR,NS];simp only[Yz,Int.toNat_natCast,YA,cond_true]
def PJ(d:List G):Option (List G) :=
 (a7 ((((ab (gi d 3).rows.length (gi d 3).rows.length)&&true)&&true)&&true) (dD (aby [.l (gi d 0).rows,.l (gi d 1).rows,.l (gi d 2).rows,.l (gi d 3).rows,.l (gi d 4).rows,.i (((gi d 5).int.toNat:Nat):Int),.l [],.i 0])) fun g g1=>(bif ((((ab (gi g1 3).rows.length (gi g1 3).rows.length)&&true)&&true)&&true) then some [.l (gi g1 0).rows,.l (gi g1 1).rows,.l (gi g1 2).rows,.l (gi g1 3).rows,.l (gi g1 4).rows,.i (((gi g1 5).int.toNat:Nat):Int),.l (gi g1 6).rows,.i (((gi g1 7).int.toNat:Nat):Int)] else none))
theorem abA{d r:List G}(h:PJ d=some r):PG d=some r :=
 YE (fun v g=>YB (fun b=>rfl) (abz _) g) h
def abB:aA:={ B1 with F:=PJ }
def PK:ah:=t9.cP abB
theorem abC:aj P PK:=PI.aW fun d r h=>PH d r (abA h)
def PL:ah:=PK.inline P 133 f133 []
theorem abD:aj P PL:=abC.inline hm func133 (by kernel_rfl) []
def PM:ah:=PL.inline P 86 f86 []
theorem abE:aj P PM:=abD.inline hm func86 (by kernel_rfl) []
def PN:ah:=PM.inline P 175 f175 []
theorem abF:aj P PN:=abE.inline hm func175 (by kernel_rfl) []
def PO:ah:=PN.inline P 176 f176 []
theorem abG:aj P PO:=abF.inline hm func176 (by kernel_rfl) []
def PQ:ah:=PO.inline P 177 f177 []
theorem abH:aj P PQ:=abG.inline hm func177 (by kernel_rfl) []
def PR:ah:=PQ.inline P 131 f131 []
theorem abI:aj P PR:=abH.inline hm func131 (by kernel_rfl) []
def PS:ah:=PR.inline P 85 f85 []
theorem abJ:aj P PS:=abI.inline hm func85 (by kernel_rfl) []
def PT:ah:=PS.inline P 48 f48 []
theorem abK:aj P PT:=abJ.inline hm func48 (by kernel_rfl) []
def PU:ah:=PT.dZ P 134 f134
theorem abL:aj P PU:=abK.dZ hm func134 (by kernel_rfl) (by kernel_rfl)
def PV:ah:=PU.Bs P ⟨178,26,51,15,15,true⟩ 3 87 f87 [some [.int .i64]]
theorem abM:aj P PV:=abL.Bs hm abx func87 (by kernel_rfl) (by kernel_rfl) [some [.int .i64]]
def PW:ah:=PV.inline P 117 f117 []
theorem abN:aj P PW:=abM.inline hm func117 (by kernel_rfl) []
def PX:ah:=PW.inline P 77 f77 []
theorem abO:aj P PX:=abN.inline hm func77 (by kernel_rfl) []
def PY:ah:=PX.dZ P 179 f179
theorem abP:aj P PY:=abO.dZ hm func179 (by kernel_rfl) (by kernel_rfl)
def PZ:ah:=PY.dZ P 136 f136
theorem abQ:aj P PZ:=abP.dZ hm func136 (by kernel_rfl) (by kernel_rfl)
def P1:ah:=PZ.dZ P 89 f89
theorem abR:aj P P1:=abQ.dZ hm func89 (by kernel_rfl) (by kernel_rfl)
def P2:ah:=P1.inline P 88 f88 []
theorem abS:aj P P2:=abR.inline hm func88 (by kernel_rfl) []
def P3:ah:=P2.dZ P 49 f49
theorem abT:aj P P3:=abS.dZ hm func49 (by kernel_rfl) (by kernel_rfl)
def P4:ah:=P3.dZ P 26 f26
theorem abU:aj P P4:=abT.dZ hm func26 (by kernel_rfl) (by kernel_rfl)
def P5:ah:=P4.dZ P 50 f50
theorem abV:aj P P5:=abU.dZ hm func50 (by kernel_rfl) (by kernel_rfl)
def P6:ah:=P5.dZ P 27 f27
theorem abW:aj P P6:=abV.dZ hm func27 (by kernel_rfl) (by kernel_rfl)
def abX:ah:=P6.inline P 7 f7 []
theorem abY:aj P abX:=abW.inline hm func7 (by kernel_rfl) []
theorem abZ:dc P 17 [] (.lit (.bool true)):=eh (L:=az) hm abY [] (fun _ _=>aK _ _ _) func17 rfl (by kernel_rfl) (by kernel_rfl)
def uQ(_:List G):Option (List G):=some [.t true]
def x6:aA:=⟨17,[],[],[],[.s (.bool)],[],[],[],uQ⟩
theorem ab0:∀ d r,uQ d=some r→cz P 17 (x6.args0 d) (ai (x6.H0 d)) (x6.out r) (ai (x6.H1 r)):=fun d r h=>by
 cases (show some [G.t true]=some r from h);exact abZ []
def t10:ah:=t9.bz x6
theorem P7:aj P t10:=PI.aP ab0


def uR(d:List G):Option (List G) :=
 let g:=zH (gi d 0).int (gi d 1).int; (bif (aB (gi d 1).int 1) then some [.i 0] else (bif (!((gi d 1).int==0)) then (bif (aB g 0) then (bif (aw (g+(gi d 1).int)) then some [.i (g+(gi d 1).int)] else none) else some [.i g]) else none))
def G4:aA:=⟨44,[.s (.int .i64),.s (.int .i64)],[],[],[.s (.int .i64)],[],[],[],uR⟩
theorem ab1:bf P t10 az f44 G4:=fun d=>by kernel_rfl
theorem ab2:aZ P G4:=bt hm P7 func44 (aK _ _ _) ab1
def t11:ah:=t10.bz G4
theorem P8:aj P t11:=P7.aP ab2

def oJ(d:List G):Option (List G) :=
 let g:=(((gi d 0).rows.length:Nat):Int); let z2:=(gi d 1).int+1; let z3:=zH (z2-1) g; let z4:=(DS (z2-1) g)*(7919+z3); (bif (aw z2) then (bif (g==0) then (bif (aw (z2*7919)) then (ar (uR [.i (z2*7919),.i (gi d 2).int]) fun g1=>some [.l (gi d 0).rows,.i z2,.i (gi g1 0).int]) else none) else (bif (aw (z2-1)) then (bif (!(g==0)) then (bif (aw (z2-1)) then (bif ((!(g==0))&&(aw (DS (z2-1) g))) then (bif ((a_ z3)&&(aB z3 g)) then (ar (uR [.i (gi ((gi d 0).rows.getD (z3.toNat) []) 0).int,.i 1073741824]) fun g2=>(bif (aw (7919+z3)) then (bif (aw z4) then (bif (aw ((gi g2 0).int+z4)) then (ar (uR [.i ((gi g2 0).int+z4),.i (gi d 2).int]) fun g3=>some [.l (gi d 0).rows,.i z2,.i (gi g3 0).int]) else none) else none) else none)) else none) else none) else none) else none) else none)) else none)
def G5:aA:=⟨22,[.s (.ptr 0 0),.s (.int .i64)],[.box [.list [.int .i64],.int .i64]],[.slot 0],[.s (.int .i64)],[.box [.list [.int .i64],.int .i64]],[.fix 0],[],oJ⟩
theorem ab3:bf P t11 az f22 G5:=fun d=>by kernel_rfl
theorem ab4:aZ P G5:=bt hm P8 func22 (aK _ _ _) ab3
def t12:ah:=t11.cP G5
theorem P9:aj P t12:=P8.aW ab4

def qo(d:List G):Option (List G) :=
 let g:=(gi d 3).int-(gi d 2).int; (bif (aB (gi d 3).int (gi d 2).int) then some [.l (gi d 0).rows,.i (gi d 1).int,.i (gi d 2).int] else (bif (aw g) then (bif (aw (g+1)) then (ar (oJ [.l (gi d 0).rows,.i (gi d 1).int,.i (g+1)]) fun g1=>let z2:=(gi d 2).int+(gi g1 2).int; (bif (aw z2) then some [.l (gi g1 0).rows,.i (gi g1 1).int,.i z2] else none)) else none) else none))
def G6:aA:=⟨5,[.s (.ptr 0 0),.s (.int .i64),.s (.int .i64)],[.box [.list [.int .i64],.int .i64]],[.slot 0],[.s (.int .i64)],[.box [.list [.int .i64],.int .i64]],[.fix 0],[],qo⟩
theorem ab5:bf P t12 az f5 G6:=fun d=>by kernel_rfl
theorem ab6:aZ P G6:=bt hm P9 func5 (aK _ _ _) ab5
def t13:ah:=t12.cP G6
theorem P_:aj P t13:=P9.aW ab6

def mu(d:List G):Option (List G) :=
 let g:=(((gi d 2).rows.length:Nat):Int); (ar (oJ [.l (gi d 0).rows,.i (gi d 1).int,.i g]) fun g1=>(bif ((a_ (gi g1 2).int)&&(aB (gi g1 2).int g)) then some [.l (gi g1 0).rows,.i (gi g1 1).int,.i (gi ((gi d 2).rows.getD (((gi g1 2).int).toNat) []) 0).int] else none))
def G7:aA:=⟨18,[.s (.ptr 0 0),.s (.list [.int .i64])],[.box [.list [.int .i64],.int .i64]],[.slot 0],[.s (.int .i64)],[.box [.list [.int .i64],.int .i64]],[.fix 0],[],mu⟩
theorem ab7:bf P t13 az f18 G7:=fun d=>by kernel_rfl
theorem ab8:aZ P G7:=bt hm P_ func18 (aK _ _ _) ab7
def t14:ah:=t13.cP G7
theorem P':aj P t14:=P_.aW ab8

def iu(d:List G):Option (List G) :=
 let g:=(((gi d 2).rows.length:Nat):Int); (ar (oJ [.l (gi d 0).rows,.i (gi d 1).int,.i g]) fun g1=>(bif ((a_ (gi g1 2).int)&&(aB (gi g1 2).int g)) then some [.l (gi g1 0).rows,.i (gi g1 1).int,.s (gi ((gi d 2).rows.getD (((gi g1 2).int).toNat) []) 0).str] else none))
def G8:aA:=⟨19,[.s (.ptr 0 0),.s (.list [.str])],[.box [.list [.int .i64],.int .i64]],[.slot 0],[.s (.str)],[.box [.list [.int .i64],.int .i64]],[.fix 0],[],iu⟩
theorem ab9:bf P t14 az f19 G8:=fun d=>by kernel_rfl
theorem ab_:aZ P G8:=bt hm P' func19 (aK _ _ _) ab9
def t15:ah:=t14.cP G8
theorem Qa:aj P t15:=P'.aW ab_

def r8(d:List G):Option (List G) :=
 (ar (oJ [.l (gi d 0).rows,.i (gi d 1).int,.i (gi d 2).int]) fun g1=>some [.l (gi g1 0).rows,.i (gi g1 1).int,.t ((gi g1 2).int==0)])
def G9:aA:=⟨21,[.s (.ptr 0 0),.s (.int .i64)],[.box [.list [.int .i64],.int .i64]],[.slot 0],[.s (.bool)],[.box [.list [.int .i64],.int .i64]],[.fix 0],[],r8⟩
theorem ab':bf P t15 az f21 G9:=fun d=>by kernel_rfl
theorem aca:aZ P G9:=bt hm Qa func21 (aK _ _ _) ab'
def t16:ah:=t15.cP G9
theorem Qb:aj P t16:=Qa.aW aca

def B2(d:List G):Option (List G) :=
 (ar (r8 [.l (gi d 0).rows,.i (gi d 1).int,.i 60]) fun g1=>(bif (gi g1 2).bool then (ar (iu [.l (gi g1 0).rows,.i (gi g1 1).int,.l [[.s (⟨#[]⟩:ByteArray)],[.s (⟨#[107,49]⟩:ByteArray)],[.s (⟨#[75,49,65,66]⟩:ByteArray)],[.s (⟨#[107,49,97,98,47]⟩:ByteArray)],[.s (⟨#[49,97]⟩:ByteArray)],[.s (⟨#[107,49,97,98,47,109,109,47,112]⟩:ByteArray)]]]) fun g2=>some [.l (gi g2 0).rows,.i (gi g2 1).int,.s (gi g2 2).str]) else (ar (iu [.l (gi g1 0).rows,.i (gi g1 1).int,.l [[.s (⟨#[107,49,97,98]⟩:ByteArray)],[.s (⟨#[107,49,97,97]⟩:ByteArray)],[.s (⟨#[107,49,97,98,47,52]⟩:ByteArray)],[.s (⟨#[111,104,50,97,98,99]⟩:ByteArray)],[.s (⟨#[111,104,50,97,98,100]⟩:ByteArray)],[.s (⟨#[119,49,97,119]⟩:ByteArray)],[.s (⟨#[110,49,109,109]⟩:ByteArray)],[.s (⟨#[103,51,120,121,122,47,112]⟩:ByteArray)]]]) fun g3=>some [.l (gi g3 0).rows,.i (gi g3 1).int,.s (gi g3 2).str])))
def G_:aA:=⟨43,[.s (.ptr 0 0)],[.box [.list [.int .i64],.int .i64]],[.slot 0],[.s (.str)],[.box [.list [.int .i64],.int .i64]],[.fix 0],[],B2⟩
theorem acb:bf P t16 az f43 G_:=fun d=>by kernel_rfl
theorem acd:aZ P G_:=bt hm Qb func43 (aK _ _ _) acb
def t17:ah:=t16.cP G_
theorem Qc:aj P t17:=Qb.aW acd

def mv(d:List G):Option (List G) :=
 (ar (r8 [.l (gi d 0).rows,.i (gi d 1).int,.i 12]) fun g1=>(bif (gi g1 2).bool then (bif (aw ((gi d 2).int-1)) then (bif (aw ((gi d 3).int+1)) then (ar (mu [.l (gi g1 0).rows,.i (gi g1 1).int,.l [[.i ((gi d 2).int-1)],[.i ((gi d 3).int+1)],[.i (gi d 2).int],[.i (gi d 3).int],[.i (-1099511627776)],[.i 1099511627776]]]) fun g2=>some [.l (gi g2 0).rows,.i (gi g2 1).int,.i (gi g2 2).int]) else none) else none) else (ar (qo [.l (gi g1 0).rows,.i (gi g1 1).int,.i (gi d 2).int,.i (gi d 3).int]) fun g3=>some [.l (gi g3 0).rows,.i (gi g3 1).int,.i (gi g3 2).int])))
def G':aA:=⟨23,[.s (.ptr 0 0),.s (.int .i64),.s (.int .i64)],[.box [.list [.int .i64],.int .i64]],[.slot 0],[.s (.int .i64)],[.box [.list [.int .i64],.int .i64]],[.fix 0],[],mv⟩
theorem ace:bf P t17 az f23 G':=fun d=>by kernel_rfl
theorem acf:aZ P G':=bt hm Qc func23 (aK _ _ _) ace
def t18:ah:=t17.cP G'
theorem Qd:aj P t18:=Qc.aW acf

def B3(d:List G):Option (List G) :=
 let g:=(⟨#[]⟩:ByteArray); let z2:=(⟨#[98,50,48]⟩:ByteArray); let z3:=(⟨#[117,115,97]⟩:ByteArray); (ar (mu [.l (gi d 0).rows,.i (gi d 1).int,.l [[.i 1],[.i 1],[.i 2],[.i 3]]]) fun g1=>(ar (iu [.l (gi g1 0).rows,.i (gi g1 1).int,.l [[.s z2],[.s z2],[.s (⟨#[98,52,48]⟩:ByteArray)]]]) fun g2=>(ar (B2 [.l (gi g2 0).rows,.i (gi g2 1).int]) fun g3=>(ar (mu [.l (gi g3 0).rows,.i (gi g3 1).int,.l [[.i 0],[.i 1],[.i 2],[.i 3],[.i 4],[.i 5],[.i 6],[.i 7]]]) fun g4=>(ar (mu [.l (gi g4 0).rows,.i (gi g4 1).int,.l [[.i 0],[.i 1],[.i 2],[.i 9]]]) fun g5=>(ar (iu [.l (gi g5 0).rows,.i (gi g5 1).int,.l [[.s g],[.s g],[.s (⟨#[102,105,110]⟩:ByteArray)]]]) fun g6=>(ar (iu [.l (gi g6 0).rows,.i (gi g6 1).int,.l [[.s g],[.s g],[.s z3]]]) fun g7=>(ar (r8 [.l (gi g7 0).rows,.i (gi g7 1).int,.i 100]) fun g8=>(bif (gi g8 2).bool then (ar (oJ [.l (gi g8 0).rows,.i (gi g8 1).int,.i 4]) fun g9=>(bif ((gi g9 2).int==0) then (ar (mv [.l (gi g9 0).rows,.i (gi g9 1).int,.i 0,.i 500]) fun g10=>(ar (mv [.l (gi g10 0).rows,.i (gi g10 1).int,.i 1,.i 3]) fun g11=>some [.l (gi g11 0).rows,.i (gi g11 1).int,.l [[.i (gi g10 2).int,.i (gi g11 2).int,.s (gi g2 2).str,.s (gi g3 2).str,.i (gi g4 2).int,.i (gi g5 2).int,.s (gi g6 2).str,.s (gi g7 2).str]]])) else (bif ((gi g9 2).int==1) then (ar (iu [.l (gi g9 0).rows,.i (gi g9 1).int,.l [[.s g],[.s (⟨#[66]⟩:ByteArray)],[.s z2]]]) fun g12=>some [.l (gi g12 0).rows,.i (gi g12 1).int,.l [[.i (gi d 2).int,.i (gi g1 2).int,.s (gi g12 2).str,.s (gi g3 2).str,.i (gi g4 2).int,.i (gi g5 2).int,.s (gi g6 2).str,.s (gi g7 2).str]]]) else (bif ((gi g9 2).int==2) then (ar (mv [.l (gi g9 0).rows,.i (gi g9 1).int,.i 0,.i 99999]) fun g13=>(ar (mv [.l (gi g13 0).rows,.i (gi g13 1).int,.i 0,.i 99999]) fun g14=>some [.l (gi g14 0).rows,.i (gi g14 1).int,.l [[.i (gi d 2).int,.i (gi g1 2).int,.s (gi g2 2).str,.s (gi g3 2).str,.i (gi g13 2).int,.i (gi g14 2).int,.s (gi g6 2).str,.s (gi g7 2).str]]])) else (ar (iu [.l (gi g9 0).rows,.i (gi g9 1).int,.l [[.s g],[.s (⟨#[65]⟩:ByteArray)]]]) fun g15=>(ar (iu [.l (gi g15 0).rows,.i (gi g15 1).int,.l [[.s (⟨#[49]⟩:ByteArray)],[.s z3]]]) fun g16=>some [.l (gi g16 0).rows,.i (gi g16 1).int,.l [[.i (gi d 2).int,.i (gi g1 2).int,.s (gi g2 2).str,.s (gi g3 2).str,.i (gi g4 2).int,.i (gi g5 2).int,.s (gi g15 2).str,.s (gi g16 2).str]]])))))) else some [.l (gi g8 0).rows,.i (gi g8 1).int,.l [[.i (gi d 2).int,.i (gi g1 2).int,.s (gi g2 2).str,.s (gi g3 2).str,.i (gi g4 2).int,.i (gi g5 2).int,.s (gi g6 2).str,.s (gi g7 2).str]]])))))))))
def Ha:aA:=⟨20,[.s (.ptr 0 0),.s (.int .i64)],[.box [.list [.int .i64],.int .i64]],[.slot 0],[.s (.row aY)],[.box [.list [.int .i64],.int .i64]],[.fix 0],[],B3⟩
theorem acg:bf P t18 az f20 Ha:=fun d=>by kernel_rfl
theorem ach:aZ P Ha:=bt hm Qd func20 (aK _ _ _) acg
def t19:ah:=t18.cP Ha
theorem Qe:aj P t19:=Qd.aW ach

def nC(d:List G):Option (List G) :=
 (bif (aB (gi d 0).int 0) then some [.i (-1)] else (bif (aB 0 (gi d 0).int) then some [.i 1] else some [.i 0]))
def Hb:aA:=⟨46,[.s (.int .i64)],[],[],[.s (.int .i64)],[],[],[],nC⟩
theorem aci:bf P t19 az f46 Hb:=fun d=>by kernel_rfl
theorem acj:aZ P Hb:=bt hm Qe func46 (aK _ _ _) aci
def t20:ah:=t19.bz Hb
theorem Qf:aj P t20:=Qe.aP acj

def uS(d:List G):Option (List G) :=
 let g:=(gi (gi d 0).row 2).int-(gi (gi d 1).row 2).int; let z2:=(gi (gi d 0).row 1).int-(gi (gi d 1).row 1).int; (bif ((gi (gi d 0).row 2).int != (gi (gi d 1).row 2).int) then (bif (aw g) then (ar (nC [.i g]) fun g1=>some [.i (gi g1 0).int]) else none) else (bif (!((gi (gi d 0).row 0).str.toList==(gi (gi d 1).row 0).str.toList)) then (ar (ir [.s (gi (gi d 0).row 0).str,.s (gi (gi d 1).row 0).str]) fun g2=>some [.i (gi g2 0).int]) else (bif (aw z2) then (ar (nC [.i z2]) fun g3=>some [.i (gi g3 0).int]) else none)))
def Hc:aA:=⟨25,[.s (.row ak),.s (.row ak)],[],[],[.s (.int .i64)],[],[],[],uS⟩
theorem ack:bf P t20 az f25 Hc:=fun d=>by kernel_rfl
theorem acm:aZ P Hc:=bt hm Qf func25 (aK _ _ _) ack
def t21:ah:=t20.bz Hc
theorem B4:aj P t21:=Qf.aP acm

def Qg(d:List G):Option (Option Nat × List G) :=
 let z2:=(gi d 4).int-1; let g:=(gi d 0).rows.set (0+((gi d 4).int).toNat) (fP ak ((gi d 0).rows.getD (0+((gi d 4).int).toNat) []) 0 (aR ak ((gi d 0).rows.getD (0+z2.toNat) []))); let z3:=(((gi d 0).rows.length:Nat):Int); let z4:=g.set (0+z2.toNat) (fP ak (g.getD (0+z2.toNat) []) 0 (aR ak ((gi d 0).rows.getD (0+((gi d 4).int).toNat) []))); let z5:=decide ((0+((gi d 4).int).toNat)<(gi d 0).rows.length); let k:=(a_ (gi d 4).int)&&(aB (gi d 4).int z3); let q:=(ab (gi d 0).rows.length (gi d 0).rows.length)&&true; let A:=decide ((0+z2.toNat)<(gi d 0).rows.length); let z9:=(a_ z2)&&(aB z2 z3); (bif (aB (gi d 1).int (gi d 4).int) then (bif k then (bif z5 then (bif (aw z2) then (bif z9 then (bif A then (ar (uS [.l [(aR ak ((gi d 0).rows.getD (0+((gi d 4).int).toNat) []))],.l [(aR ak ((gi d 0).rows.getD (0+z2.toNat) []))]]) fun g1=>(bif (aB (gi g1 0).int 0) then (bif (aw z2) then (bif (aw z2) then (bif z9 then (bif A then (bif k then (bif z5 then (bif k then (bif z5 then (bif z9 then (bif (decide ((0+z2.toNat)<g.length)) then (bif (aw z2) then (bif ((ab (gi d 0).rows.length z4.length)&&true) then some (none,[.l z4,.i (gi d 1).int,.i (gi d 2).int,.i (gi d 3).int,.i z2]) else none) else none) else none) else none) else none) else none) else none) else none) else none) else none) else none) else none) else (bif q then some (some 0,[.l (gi d 0).rows,.i (gi d 1).int,.i (gi d 2).int,.i (gi d 3).int]) else none))) else none) else none) else none) else none) else none) else (bif q then some (some 0,[.l (gi d 0).rows,.i (gi d 1).int,.i (gi d 2).int,.i (gi d 3).int]) else none))
def Qh:bq:=⟨4,[],⟨53,[(0,.s (.vec 0 15)),(1,.s (.int .i64)),(2,.s (.int .i64)),(3,.s (.fn 25)),(8,.s (.int .i64)),(9,.s (.int .i64))],[.vec ak 0]⟩,[.fix 0],[⟨.exit 2,⟨53,[(0,.s (.vec 0 15)),(1,.s (.int .i64)),(2,.s (.int .i64)),(3,.s (.fn 25)),(8,.s (.int .i64))],[.vec ak 0]⟩,[.fix 0]⟩],Qg⟩
theorem acn:cW P t21 az 1 (cX f82 4) Qh:=fun d=>by kernel_rfl
def Hd:LT:=az.add 1 Qh
theorem aco:ax P 1 Hd (aN f82):=ax.a hm B4 (aK _ _ _) acn
def Qi(d:List G):Option (Option Nat × List G) :=
 (bif (aB (gi d 3).int (gi d 2).int) then (a7 ((ab (gi d 0).rows.length (gi d 0).rows.length)&&true) (cd Qg [.l (gi d 0).rows,.i (gi d 1).int,.i (gi d 2).int,.i (gi d 3).int,.i (gi d 3).int]) fun g g2=>(bif (aw ((gi g2 3).int+1)) then (bif ((ab (gi g2 0).rows.length (gi g2 0).rows.length)&&true) then some (none,[.l (gi g2 0).rows,.i (gi g2 1).int,.i (gi g2 2).int,.i ((gi g2 3).int+1)]) else none) else none)) else some (some 0,[.l (gi d 0).rows]))
def Qj:bq:=⟨1,[],⟨53,[(0,.s (.vec 0 15)),(1,.s (.int .i64)),(2,.s (.int .i64)),(3,.s (.fn 25)),(8,.s (.int .i64))],[.vec ak 0]⟩,[.fix 0],[⟨.exit 0,⟨53,[],[.vec ak 0]⟩,[.fix 0]⟩],Qi⟩
theorem acp:cW P t21 Hd 1 (cX f82 1) Qj:=fun d=>by kernel_rfl
def Qk:LT:=Hd.add 1 Qj
theorem acq:ax P 1 Qk (aN f82):=ax.a hm B4 aco acp
def He(d:List G):Option (List G) :=
 (bif (aw ((gi d 1).int+1)) then (a7 ((ab (gi d 0).rows.length (gi d 0).rows.length)&&true) (cd Qi [.l (gi d 0).rows,.i (gi d 1).int,.i (gi d 2).int,.i ((gi d 1).int+1)]) fun g g3=>some [.l (gi g3 0).rows]) else none)
def Hg:aA:=⟨82,[.s (.vec 0 15),.s (.int .i64),.s (.int .i64),.s (.fn 25)],[.vec ak 0],[.slot 0],[],[.vec ak 0],[.fix 0],[],He⟩
theorem acr:bf P t21 Qk f82 Hg:=fun d=>by kernel_rfl
theorem acs:aZ P Hg:=bt hm B4 func82 acq acr
def t22:ah:=t21.cP Hg
theorem x7:aj P t22:=B4.aW acs

def Ql(d:List G):Option (Option Nat × List G) :=
 let g:=He [.l (gi d 0).rows,.i (gi d 3).int,.i (gi d 4).int]; let z2:=(ab (gi d 0).rows.length (gi d 0).rows.length)&&true; let z3:=(gi d 4).int+(gi d 2).int; (bif (bM (gi d 4).int (gi d 1).int) then (fS (z2&&g.isSome) g fun g1=>(bif (aw z3) then (bif ((ab (gi d 0).rows.length (gi g1 0).rows.length)&&true) then some (none,[.l (gi g1 0).rows,.i (gi d 1).int,.i (gi d 2).int,.i (gi d 4).int,.i z3]) else none) else none)) else (bif z2 then some (some 0,[.l (gi d 0).rows,.i (gi d 1).int,.i (gi d 2).int,.i (gi d 3).int]) else none))
def Qm:bq:=⟨2,[],⟨63,[(0,.s (.vec 0 15)),(1,.s (.int .i64)),(2,.s (.fn 25)),(6,.s (.int .i64)),(7,.s (.int .i64)),(8,.s (.int .i64))],[.vec ak 0]⟩,[.fix 0],[⟨.exit 0,⟨63,[(0,.s (.vec 0 15)),(1,.s (.int .i64)),(2,.s (.fn 25)),(6,.s (.int .i64)),(7,.s (.int .i64))],[.vec ak 0]⟩,[.fix 0]⟩],Ql⟩
theorem acu:cW P t22 az 1 (cX f45 2) Qm:=fun d=>by kernel_rfl
def Hh:LT:=az.add 1 Qm
theorem acv:ax P 1 Hh (aN f45):=ax.a hm x7 (aK _ _ _) acu
def Qn(d:List G):Option (Option Nat × List G) :=
 (bif (bM (gi d 4).int (gi d 1).int) then (bif (aw ((gi d 3).int+(gi d 2).int)) then none else none) else (bif ((ab (gi d 0).rows.length (gi d 0).rows.length)&&true) then some (some 0,[.l (gi d 0).rows,.i (gi d 1).int,.i (gi d 2).int,.i (gi d 3).int]) else none))
def Qo:bq:=⟨9,[],⟨63,[(0,.s (.vec 0 15)),(1,.s (.int .i64)),(2,.s (.fn 25)),(6,.s (.int .i64)),(7,.s (.int .i64)),(8,.s (.int .i64))],[.vec ak 0]⟩,[.fix 0],[⟨.exit 4,⟨63,[(0,.s (.vec 0 15)),(1,.s (.int .i64)),(2,.s (.fn 25)),(6,.s (.int .i64)),(7,.s (.int .i64))],[.vec ak 0]⟩,[.fix 0]⟩],Qn⟩
theorem acw:cW P t22 Hh 1 (cX f45 9) Qo:=fun d=>by kernel_rfl
def Hk:LT:=Hh.add 1 Qo
theorem acx:ax P 1 Hk (aN f45):=ax.a hm x7 acv acw
def Qp(d:List G):Option (Option Nat × List G) :=
 (bif (aB (gi d 2).int (gi d 1).int) then (bif (aw (2*(gi d 2).int)) then (a7 ((ab (gi d 0).rows.length (gi d 0).rows.length)&&true) (cd Qn [.l (gi d 0).rows,.i (gi d 1).int,.i (gi d 2).int,.i 0,.i (2*(gi d 2).int)]) fun k g4=>let g:=(gi g4 3).int+(gi g4 2).int; (bif (aw g) then (bif (aB g (gi g4 1).int) then none else (bif (aw ((gi g4 2).int*2)) then (bif ((ab (gi g4 0).rows.length (gi g4 0).rows.length)&&true) then some (none,[.l (gi g4 0).rows,.i (gi g4 1).int,.i ((gi g4 2).int*2)]) else none) else none)) else none)) else none) else some (some 0,[.l (gi d 0).rows]))
def Qq:bq:=⟨7,[],⟨63,[(0,.s (.vec 0 15)),(1,.s (.int .i64)),(2,.s (.fn 25)),(6,.s (.int .i64))],[.vec ak 0]⟩,[.fix 0],[⟨.exit 2,⟨63,[],[.vec ak 0]⟩,[.fix 0]⟩],Qp⟩
theorem acy:cW P t22 Hk 1 (cX f45 7) Qq:=fun d=>by kernel_rfl
def Qr:LT:=Hk.add 1 Qq
theorem acz:ax P 1 Qr (aN f45):=ax.a hm x7 acx acy
def Qs(d:List G):Option (List G) :=
 (a7 ((ab (gi d 0).rows.length (gi d 0).rows.length)&&true) (cd Ql [.l (gi d 0).rows,.i (gi d 1).int,.i 20,.i 0,.i 20]) fun k g2=>let g:=He [.l (gi g2 0).rows,.i (gi g2 3).int,.i (gi g2 1).int]; (fS (((ab (gi g2 0).rows.length (gi g2 0).rows.length)&&true)&&g.isSome) g fun g3=>(a7 ((ab (gi g2 0).rows.length (gi g3 0).rows.length)&&true) (cd Qp [.l (gi g3 0).rows,.i (gi g2 1).int,.i (gi g2 2).int]) fun q g5=>some [.l (gi g5 0).rows])))
def Hl:aA:=⟨45,[.s (.vec 0 15),.s (.int .i64),.s (.fn 25)],[.vec ak 0],[.slot 0],[],[.vec ak 0],[.fix 0],[],Qs⟩
theorem acA:bf P t22 Qr f45 Hl:=fun d=>by kernel_rfl
theorem acB:aZ P Hl:=bt hm x7 func45 acz acA
def t23:ah:=t22.cP Hl
theorem Qt:aj P t23:=x7.aW acB

def Hm(d:List G):Option (List G) :=
 let g:=(Qs [.l (gi d 0).rows,.i (((gi d 0).rows.length:Nat):Int)]); (fS (((ab (gi d 0).rows.length (gi d 0).rows.length)&&true)&&g.isSome) g fun g1=>some [.l (gi g1 0).rows])
def Hn:aA:=⟨24,[.s (.vec 0 15),.s (.fn 25)],[.vec ak 0],[.slot 0],[],[.vec ak 0],[.fix 0],[],Hm⟩
theorem acC:bf P t23 az f24 Hn:=fun d=>by kernel_rfl
theorem acD:aZ P Hn:=bt hm Qt func24 (aK _ _ _) acC
def t24:ah:=t23.cP Hn
theorem uT:aj P t24:=Qt.aW acD

def oK(d:List G):Option (Option Nat × List G) :=
 let g:=((gi d 2).rows++([[.s (gi d 5).str,.i (gi d 6).int,.i (gi d 7).int,.i (gi d 8).int,.i (gi d 9).int,.i (gi d 10).int,.s (gi d 11).str,.s (gi d 12).str,.i (gi d 13).int,.i (gi d 14).int,.s (gi d 15).str,.s (gi d 16).str,.s (gi d 17).str,.s (gi d 18).str,.i (gi d 19).int]]:List (List G))); (bif ((ab (gi d 2).rows.length (gi d 2).rows.length)&&(decide (((gi d 2).rows.length+1)≤1048576))) then (bif ((ab g.length g.length)&&true) then some (some 0,[.l (gi d 0).rows,.i (gi d 1).int,.l g,.l (gi d 3).rows,.i (((gi d 4).int.toNat:Nat):Int),.i (gi d 20).int,.i (gi d 21).int,.i (gi d 22).int]) else none) else none)
def Qu:bq:=⟨28,[],⟨115,[(0,.s (.ptr 0 0)),(5,.s (.vec 1 15)),(6,.s (.int .i64)),(7,.s (.map 2)),(8,.s (.ptr 3 0)),(10,.s (.int .i64)),(11,.s (.int .i64))],[.box [.list [.int .i64],.int .i64],.vec ak 0,.map (.one (.str)) (.one (.int .i64)),.box [.str,.int .i64,.int .i64,.int .i64,.int .i64,.int .i64,.str,.str,.int .i64,.int .i64,.str,.str,.str,.str,.int .i64]]⟩,[.fix 0,.slot 5,.slot 7,.slot 8],[⟨.normal,⟨115,[(0,.s (.ptr 0 0)),(5,.s (.vec 1 15)),(6,.s (.int .i64)),(7,.s (.map 2)),(10,.s (.int .i64)),(11,.s (.int .i64))],[.box [.list [.int .i64],.int .i64],.vec ak 0,.map (.one (.str)) (.one (.int .i64))]⟩,[.fix 0,.slot 5,.slot 7]⟩],oK⟩
theorem acE:gh P t24 az 1 (cutAt f4 28) Qu:=fun d=>by kernel_rfl
def Ho:LT:=az.ff 1 Qu
theorem acF:ax P 1 Ho (aN f4):=ax.aC hm uT (aK _ _ _) acE
def qp(d:List G):Option (Option Nat × List G) :=
 let g:=(ab (gi d 2).rows.length (gi d 2).rows.length)&&true; let z2:=(((gi d 4).int.toNat:Nat):Int); let z3:=(⟨#[]⟩:ByteArray); let z4:=(⟨#[115,97]⟩:ByteArray); (ar (r8 [.l (gi d 0).rows,.i (gi d 1).int,.i 100]) fun g6=>(bif (gi g6 2).bool then (ar (oJ [.l (gi g6 0).rows,.i (gi g6 1).int,.i 4]) fun g7=>(bif ((gi g7 2).int==0) then (ar (iu [.l (gi g7 0).rows,.i (gi g7 1).int,.l [[.s z3],[.s z4]]]) fun g8=>(ar (mv [.l (gi g8 0).rows,.i (gi g8 1).int,.i 1,.i 9]) fun g9=>(a7 g (dD (oK [.l (gi g9 0).rows,.i (gi g9 1).int,.l (gi d 2).rows,.l (gi d 3).rows,.i z2,.s (gi g8 2).str,.i (gi g9 2).int,.i (gi d 7).int,.i (gi d 8).int,.i (gi d 9).int,.i (gi d 10).int,.s (gi d 11).str,.s (gi d 12).str,.i (gi d 13).int,.i (gi d 14).int,.s (gi d 15).str,.s (gi d 16).str,.s (gi d 17).str,.s (gi d 18).str,.i (gi d 19).int,.i (gi d 20).int,.i (gi d 21).int,.i (gi d 22).int])) fun k g10=>(bif ((ab (gi g10 2).rows.length (gi g10 2).rows.length)&&true) then some (some 0,[.l (gi g10 0).rows,.i (gi g10 1).int,.l (gi g10 2).rows,.l (gi g10 3).rows,.i (((gi g10 4).int.toNat:Nat):Int),.i (gi g10 5).int,.i (gi g10 6).int,.i (gi g10 7).int]) else none)))) else (bif ((gi g7 2).int==1) then (ar (mv [.l (gi g7 0).rows,.i (gi g7 1).int,.i 1,.i 5]) fun g11=>(a7 g (dD (oK [.l (gi g11 0).rows,.i (gi g11 1).int,.l (gi d 2).rows,.l (gi d 3).rows,.i z2,.s (gi d 5).str,.i (gi d 6).int,.i (gi d 7).int,.i (gi g11 2).int,.i (gi d 9).int,.i (gi d 10).int,.s (gi d 11).str,.s (gi d 12).str,.i (gi d 13).int,.i (gi d 14).int,.s (gi d 15).str,.s (gi d 16).str,.s (gi d 17).str,.s (gi d 18).str,.i (gi d 19).int,.i (gi d 20).int,.i (gi d 21).int,.i (gi d 22).int])) fun q g12=>(bif ((ab (gi g12 2).rows.length (gi g12 2).rows.length)&&true) then some (some 0,[.l (gi g12 0).rows,.i (gi g12 1).int,.l (gi g12 2).rows,.l (gi g12 3).rows,.i (((gi g12 4).int.toNat:Nat):Int),.i (gi g12 5).int,.i (gi g12 6).int,.i (gi g12 7).int]) else none))) else (bif ((gi g7 2).int==2) then (ar (iu [.l (gi g7 0).rows,.i (gi g7 1).int,.l [[.s z3],[.s (⟨#[98,50,48]⟩:ByteArray)]]]) fun g13=>(ar (iu [.l (gi g13 0).rows,.i (gi g13 1).int,.l [[.s z3],[.s z4]]]) fun g14=>(a7 g (dD (oK [.l (gi g14 0).rows,.i (gi g14 1).int,.l (gi d 2).rows,.l (gi d 3).rows,.i z2,.s (gi d 5).str,.i (gi d 6).int,.i (gi d 7).int,.i (gi d 8).int,.i (gi d 9).int,.i (gi d 10).int,.s (gi d 11).str,.s (gi d 12).str,.i (gi d 13).int,.i (gi d 14).int,.s (gi d 15).str,.s (gi d 16).str,.s (gi g13 2).str,.s (gi g14 2).str,.i (gi d 19).int,.i (gi d 20).int,.i (gi d 21).int,.i (gi d 22).int])) fun A g15=>(bif ((ab (gi g15 2).rows.length (gi g15 2).rows.length)&&true) then some (some 0,[.l (gi g15 0).rows,.i (gi g15 1).int,.l (gi g15 2).rows,.l (gi g15 3).rows,.i (((gi g15 4).int.toNat:Nat):Int),.i (gi g15 5).int,.i (gi g15 6).int,.i (gi g15 7).int]) else none)))) else (ar (mv [.l (gi g7 0).rows,.i (gi g7 1).int,.i 1,.i 99999]) fun g16=>(ar (mv [.l (gi g16 0).rows,.i (gi g16 1).int,.i 0,.i 5]) fun g17=>(a7 g (dD (oK [.l (gi g17 0).rows,.i (gi g17 1).int,.l (gi d 2).rows,.l (gi d 3).rows,.i z2,.s (gi d 5).str,.i (gi d 6).int,.i (gi d 7).int,.i (gi d 8).int,.i (gi d 9).int,.i (gi d 10).int,.s (gi d 11).str,.s (gi d 12).str,.i (gi g16 2).int,.i (gi d 14).int,.s (gi d 15).str,.s (gi d 16).str,.s (gi d 17).str,.s (gi d 18).str,.i (gi g17 2).int,.i (gi d 20).int,.i (gi d 21).int,.i (gi d 22).int])) fun B g18=>(bif ((ab (gi g18 2).rows.length (gi g18 2).rows.length)&&true) then some (some 0,[.l (gi g18 0).rows,.i (gi g18 1).int,.l (gi g18 2).rows,.l (gi g18 3).rows,.i (((gi g18 4).int.toNat:Nat):Int),.i (gi g18 5).int,.i (gi g18 6).int,.i (gi g18 7).int]) else none)))))))) else (a7 g (dD (oK [.l (gi g6 0).rows,.i (gi g6 1).int,.l (gi d 2).rows,.l (gi d 3).rows,.i z2,.s (gi d 5).str,.i (gi d 6).int,.i (gi d 7).int,.i (gi d 8).int,.i (gi d 9).int,.i (gi d 10).int,.s (gi d 11).str,.s (gi d 12).str,.i (gi d 13).int,.i (gi d 14).int,.s (gi d 15).str,.s (gi d 16).str,.s (gi d 17).str,.s (gi d 18).str,.i (gi d 19).int,.i (gi d 20).int,.i (gi d 21).int,.i (gi d 22).int])) fun F g19=>(bif ((ab (gi g19 2).rows.length (gi g19 2).rows.length)&&true) then some (some 0,[.l (gi g19 0).rows,.i (gi g19 1).int,.l (gi g19 2).rows,.l (gi g19 3).rows,.i (((gi g19 4).int.toNat:Nat):Int),.i (gi g19 5).int,.i (gi g19 6).int,.i (gi g19 7).int]) else none))))
def Qv:bq:=⟨19,[],⟨115,[(0,.s (.ptr 0 0)),(5,.s (.vec 1 15)),(6,.s (.int .i64)),(7,.s (.map 2)),(8,.s (.ptr 3 0)),(10,.s (.int .i64)),(11,.s (.int .i64))],[.box [.list [.int .i64],.int .i64],.vec ak 0,.map (.one (.str)) (.one (.int .i64)),.box [.str,.int .i64,.int .i64,.int .i64,.int .i64,.int .i64,.str,.str,.int .i64,.int .i64,.str,.str,.str,.str,.int .i64]]⟩,[.fix 0,.slot 5,.slot 7,.slot 8],[⟨.normal,⟨115,[(0,.s (.ptr 0 0)),(5,.s (.vec 1 15)),(6,.s (.int .i64)),(7,.s (.map 2)),(10,.s (.int .i64)),(11,.s (.int .i64))],[.box [.list [.int .i64],.int .i64],.vec ak 0,.map (.one (.str)) (.one (.int .i64))]⟩,[.fix 0,.slot 5,.slot 7]⟩],qp⟩
theorem acG:gh P t24 Ho 1 (cutAt f4 19) Qv:=fun d=>by kernel_rfl
def Hp:LT:=Ho.ff 1 Qv
theorem acH:ax P 1 Hp (aN f4):=ax.aC hm uT acF acG
def x8(d:List G):Option (Option Nat × List G) :=
 let z2:=(ab (gi d 2).rows.length (gi d 2).rows.length)&&true; let z3:=(((gi d 4).int.toNat:Nat):Int); let z4:=(⟨#[115,97]⟩:ByteArray); let k:=gi (bZ [.str] (gi d 3).rows [.s z4] [.i 0]) 0; (bif (gi d 23).bool then (ar (qo [.l (gi d 0).rows,.i (gi d 1).int,.i 1,.i 7]) fun g23=>(bif z2 then some (some 0,[.l (gi g23 0).rows,.i (gi g23 1).int,.l (gi d 2).rows,.l (gi d 3).rows,.i z3,.s (gi d 5).str,.i (gi d 6).int,.i (gi d 7).int,.i (gi d 8).int,.i (gi d 9).int,.i (gi d 10).int,.s (gi d 11).str,.s (gi d 12).str,.i (gi g23 2).int,.i (gi d 14).int,.s (gi d 15).str,.s (gi d 16).str,.s (gi d 17).str,.s (gi d 18).str,.i (gi d 19).int,.i (gi d 20).int,.i (gi d 21).int,.i (gi d 22).int]) else none)) else (ar (iu [.l (gi d 0).rows,.i (gi d 1).int,.l [[.s z4],[.s z4],[.s (⟨#[115,98]⟩:ByteArray)]]]) fun g24=>(ar (qo [.l (gi g24 0).rows,.i (gi g24 1).int,.i 1,.i (if k.int>1 then k.int else 1)]) fun g=>(bif z2 then some (some 0,[.l (gi g 0).rows,.i (gi g 1).int,.l (gi d 2).rows,.l (gi d 3).rows,.i z3,.s (gi d 5).str,.i (gi d 6).int,.i (gi d 7).int,.i (gi d 8).int,.i (gi d 9).int,.i (gi d 10).int,.s (gi d 11).str,.s (gi d 12).str,.i (gi d 13).int,.i (gi d 14).int,.s (gi d 15).str,.s (gi d 16).str,.s (gi d 17).str,.s (gi g24 2).str,.i (gi g 2).int,.i (gi d 20).int,.i (gi d 21).int,.i (gi d 22).int]) else none))))
def Qw:bq:=⟨18,[],⟨115,[(0,.s (.ptr 0 0)),(5,.s (.vec 1 15)),(6,.s (.int .i64)),(7,.s (.map 2)),(8,.s (.ptr 3 0)),(10,.s (.int .i64)),(11,.s (.int .i64)),(65,.s (.bool))],[.box [.list [.int .i64],.int .i64],.vec ak 0,.map (.one (.str)) (.one (.int .i64)),.box [.str,.int .i64,.int .i64,.int .i64,.int .i64,.int .i64,.str,.str,.int .i64,.int .i64,.str,.str,.str,.str,.int .i64]]⟩,[.fix 0,.slot 5,.slot 7,.slot 8],[⟨.normal,⟨115,[(0,.s (.ptr 0 0)),(5,.s (.vec 1 15)),(6,.s (.int .i64)),(7,.s (.map 2)),(8,.s (.ptr 3 0)),(10,.s (.int .i64)),(11,.s (.int .i64))],[.box [.list [.int .i64],.int .i64],.vec ak 0,.map (.one (.str)) (.one (.int .i64)),.box [.str,.int .i64,.int .i64,.int .i64,.int .i64,.int .i64,.str,.str,.int .i64,.int .i64,.str,.str,.str,.str,.int .i64]]⟩,[.fix 0,.slot 5,.slot 7,.slot 8]⟩],x8⟩
theorem acI:gh P t24 Hp 1 (cutAt f4 18) Qw:=fun d=>by kernel_rfl
def Hq:LT:=Hp.ff 1 Qw
theorem acJ:ax P 1 Hq (aN f4):=ax.aC hm uT acH acI
def uU(d:List G):Option (Option Nat × List G) :=
 let q:=(⟨#[]⟩:ByteArray); let z2:=(ab (gi d 2).rows.length (gi d 2).rows.length)&&true; let z3:=(⟨#[115,97]⟩:ByteArray); (bif (aB (gi d 7).int (gi d 6).int) then (ar (mu [.l (gi d 0).rows,.i (gi d 1).int,.l [[.i 0],[.i 1],[.i 5]]]) fun g1=>let z4:=(gi d 5).int+(gi g1 2).int; (bif (aw z4) then (ar (iu [.l (gi g1 0).rows,.i (gi g1 1).int,.l [[.s z3],[.s z3],[.s (⟨#[115,98]⟩:ByteArray)],[.s (⟨#[115,99]⟩:ByteArray)]]]) fun g2=>let z5:=bK [.str] (gi d 3).rows [.s (gi g2 2).str] [.i ((gi (bZ [.str] (gi d 3).rows [.s (gi g2 2).str] [.i 0]) 0).int+1)] (gi d 4).int.toNat; let F:=(((cU [.str] (gi d 3).rows [.s (gi g2 2).str] (gi d 4).int.toNat):Nat):Int); let I:=gi (bZ [.str] z5 [.s (gi g2 2).str] [.i 0]) 0; (ar (mu [.l (gi g2 0).rows,.i (gi g2 1).int,.l [[.i 1],[.i 1],[.i 1],[.i 1],[.i 2],[.i 3],[.i 3],[.i 4],[.i 5]]]) fun g3=>(bif (aw ((gi (bZ [.str] (gi d 3).rows [.s (gi g2 2).str] [.i 0]) 0).int+1)) then (bif ((gi g3 2).int==1) then (bif (aw (z4-3)) then (ar (qo [.l (gi g3 0).rows,.i (gi g3 1).int,.i (if (z4-3)>0 then (z4-3) else 0),.i z4]) fun g4=>(ar (B3 [.l (gi g4 0).rows,.i (gi g4 1).int,.i (gi g4 2).int]) fun g5=>(a7 z2 (dD (qp [.l (gi g5 0).rows,.i (gi g5 1).int,.l (gi d 2).rows,.l z5,.i F,.s (gi g2 2).str,.i I.int,.i z4,.i (gi g3 2).int,.i (gi (gi g5 2).row 0).int,.i (gi (gi g5 2).row 1).int,.s (gi (gi g5 2).row 2).str,.s (gi (gi g5 2).row 3).str,.i (gi (gi g5 2).row 4).int,.i (gi (gi g5 2).row 5).int,.s (gi (gi g5 2).row 6).str,.s (gi (gi g5 2).row 7).str,.s q,.s q,.i 0,.i z4,.i (gi d 6).int,.i (gi d 7).int])) fun J g20=>(bif (aw ((gi g20 7).int+1)) then (bif ((ab (gi g20 2).rows.length (gi g20 2).rows.length)&&true) then some (none,[.l (gi g20 0).rows,.i (gi g20 1).int,.l (gi g20 2).rows,.l (gi g20 3).rows,.i (((gi g20 4).int.toNat:Nat):Int),.i (gi g20 5).int,.i (gi g20 6).int,.i ((gi g20 7).int+1)]) else none) else none)))) else none) else (bif ((gi g3 2).int==2) then (ar (iu [.l (gi g3 0).rows,.i (gi g3 1).int,.l [[.s (⟨#[98,50,48]⟩:ByteArray)],[.s (⟨#[98,52,48]⟩:ByteArray)]]]) fun g21=>(a7 z2 (dD (qp [.l (gi g21 0).rows,.i (gi g21 1).int,.l (gi d 2).rows,.l z5,.i F,.s (gi g2 2).str,.i I.int,.i z4,.i (gi g3 2).int,.i 0,.i 0,.s q,.s q,.i 0,.i 0,.s q,.s q,.s (gi g21 2).str,.s q,.i 0,.i z4,.i (gi d 6).int,.i (gi d 7).int])) fun M g22=>(bif (aw ((gi g22 7).int+1)) then (bif ((ab (gi g22 2).rows.length (gi g22 2).rows.length)&&true) then some (none,[.l (gi g22 0).rows,.i (gi g22 1).int,.l (gi g22 2).rows,.l (gi g22 3).rows,.i (((gi g22 4).int.toNat:Nat):Int),.i (gi g22 5).int,.i (gi g22 6).int,.i ((gi g22 7).int+1)]) else none) else none))) else (bif ((gi g3 2).int==3) then (a7 z2 (dD (x8 [.l (gi g3 0).rows,.i (gi g3 1).int,.l (gi d 2).rows,.l z5,.i F,.s (gi g2 2).str,.i I.int,.i z4,.i (gi g3 2).int,.i 0,.i 0,.s q,.s q,.i 0,.i 0,.s q,.s q,.s q,.s q,.i 0,.i z4,.i (gi d 6).int,.i (gi d 7).int,.t ((gi g3 2).int==3)])) fun N g=>(a7 ((ab (gi g 2).rows.length (gi g 2).rows.length)&&true) (dD (qp [.l (gi g 0).rows,.i (gi g 1).int,.l (gi g 2).rows,.l (gi g 3).rows,.i (((gi g 4).int.toNat:Nat):Int),.s (gi g 5).str,.i (gi g 6).int,.i (gi g 7).int,.i (gi g 8).int,.i (gi g 9).int,.i (gi g 10).int,.s (gi g 11).str,.s (gi g 12).str,.i (gi g 13).int,.i (gi g 14).int,.s (gi g 15).str,.s (gi g 16).str,.s (gi g 17).str,.s (gi g 18).str,.i (gi g 19).int,.i (gi g 20).int,.i (gi g 21).int,.i (gi g 22).int])) fun O A=>(bif (aw ((gi A 7).int+1)) then (bif ((ab (gi A 2).rows.length (gi A 2).rows.length)&&true) then some (none,[.l (gi A 0).rows,.i (gi A 1).int,.l (gi A 2).rows,.l (gi A 3).rows,.i (((gi A 4).int.toNat:Nat):Int),.i (gi A 5).int,.i (gi A 6).int,.i ((gi A 7).int+1)]) else none) else none))) else (a7 z2 (dD (x8 [.l (gi g3 0).rows,.i (gi g3 1).int,.l (gi d 2).rows,.l z5,.i F,.s (gi g2 2).str,.i I.int,.i z4,.i (gi g3 2).int,.i 0,.i 0,.s q,.s q,.i 0,.i 0,.s q,.s q,.s q,.s q,.i 0,.i z4,.i (gi d 6).int,.i (gi d 7).int,.t ((gi g3 2).int==4)])) fun R k=>(a7 ((ab (gi k 2).rows.length (gi k 2).rows.length)&&true) (dD (qp [.l (gi k 0).rows,.i (gi k 1).int,.l (gi k 2).rows,.l (gi k 3).rows,.i (((gi k 4).int.toNat:Nat):Int),.s (gi k 5).str,.i (gi k 6).int,.i (gi k 7).int,.i (gi k 8).int,.i (gi k 9).int,.i (gi k 10).int,.s (gi k 11).str,.s (gi k 12).str,.i (gi k 13).int,.i (gi k 14).int,.s (gi k 15).str,.s (gi k 16).str,.s (gi k 17).str,.s (gi k 18).str,.i (gi k 19).int,.i (gi k 20).int,.i (gi k 21).int,.i (gi k 22).int])) fun U B=>(bif (aw ((gi B 7).int+1)) then (bif ((ab (gi B 2).rows.length (gi B 2).rows.length)&&true) then some (none,[.l (gi B 0).rows,.i (gi B 1).int,.l (gi B 2).rows,.l (gi B 3).rows,.i (((gi B 4).int.toNat:Nat):Int),.i (gi B 5).int,.i (gi B 6).int,.i ((gi B 7).int+1)]) else none) else none)))))) else none))) else none)) else (bif z2 then some (some 0,[.l (gi d 0).rows,.i (gi d 1).int,.l (gi d 2).rows]) else none))
def Qx:bq:=⟨5,[(5,ak)],⟨115,[(0,.s (.ptr 0 0)),(5,.s (.vec 1 15)),(6,.s (.int .i64)),(7,.s (.map 2)),(10,.s (.int .i64)),(11,.s (.int .i64))],[.box [.list [.int .i64],.int .i64],.vec ak 0,.map (.one (.str)) (.one (.int .i64))]⟩,[.fix 0,.slot 5,.slot 7],[⟨.exit 0,⟨115,[(5,.s (.vec 1 15))],[.box [.list [.int .i64],.int .i64],.vec ak 0]⟩,[.fix 0,.slot 5]⟩],uU⟩
theorem acK:cW P t24 Hq 1 (cX f4 5) Qx:=fun d=>by kernel_rfl
def Qy:LT:=Hq.add 1 Qx
theorem acL:ax P 1 Qy (aN f4):=ax.a hm uT acJ acK
def x9(d:List G):Option (List G) :=
 (a7 true (cd uU [.l (gi d 0).rows,.i (gi d 1).int,.l [],.l [],.i 0,.i 0,.i (gi d 2).int,.i 0]) fun A g=>let q:=Hm [.l (gi g 2).rows]; (fS (((ab (gi g 2).rows.length (gi g 2).rows.length)&&true)&&q.isSome) q fun k=>(bif ((ab (gi g 2).rows.length (gi k 0).rows.length)&&true) then some [.l (gi g 0).rows,.i (gi g 1).int,.l (gi k 0).rows] else none)))
def Hr:aA:=⟨4,[.s (.ptr 0 0),.s (.int .i64)],[.box [.list [.int .i64],.int .i64]],[.slot 0],[.s (.list ak)],[.box [.list [.int .i64],.int .i64]],[.fix 0],[],x9⟩
theorem acM:bf P t24 Qy f4 Hr:=fun d=>by kernel_rfl
theorem acN:aZ P Hr:=bt hm uT func4 acL acM
def t25:ah:=t24.cP Hr
theorem Qz:aj P t25:=uT.aW acN

def B5(d:List G):Option (List G) :=
 (ar (mu [.l (gi d 0).rows,.i (gi d 1).int,.l [[.i 0],[.i 3],[.i 10],[.i 20],[.i 40],[.i 60],[.i 60],[.i (-1)]]]) fun g1=>some [.l (gi g1 0).rows,.i (gi g1 1).int,.i (gi g1 2).int])
def Hs:aA:=⟨6,[.s (.ptr 0 0)],[.box [.list [.int .i64],.int .i64]],[.slot 0],[.s (.int .i64)],[.box [.list [.int .i64],.int .i64]],[.fix 0],[],B5⟩
theorem acO:bf P t25 az f6 Hs:=fun d=>by kernel_rfl
theorem acP:aZ P Hs:=bt hm Qz func6 (aK _ _ _) acO
def t26:ah:=t25.cP Hs
theorem QA:aj P t26:=Qz.aW acP

def qs(d:List G):Option (List G) :=
 let g:=(((gi d 0).str.size:Nat):Int); (bif (!((gi d 0).str.toList==(⟨#[]⟩:ByteArray).toList)) then (bif (bM g 40) then (bif (aB 0 g) then (ar (BX [.s (⟨#[97,98,99,100,101,102,103,104,105,106,107,108,109,110,111,112,113,114,115,116,117,118,119,120,121,122]⟩:ByteArray),.i (((gi d 0).str.data.toList.getD 0 0).toNat:Int)]) fun g1=>(bif (bM 0 (gi g1 0).int) then (ar (BY [.s (gi d 0).str,.s (⟨#[97,98,99,100,101,102,103,104,105,106,107,108,109,110,111,112,113,114,115,116,117,118,119,120,121,122,48,49,50,51,52,53,54,55,56,57,45,95]⟩:ByteArray)]) fun g2=>some [.t ((gi g2 0).str.toList==(⟨#[]⟩:ByteArray).toList)]) else some [.t false])) else none) else some [.t false]) else some [.t false])
def Ht:aA:=⟨175,[.s (.str)],[],[],[.s (.bool)],[],[],[],qs⟩
theorem acQ:bf P t26 az f175 Ht:=fun d=>by kernel_rfl
theorem acR:aZ P Ht:=bt hm QA func175 (aK _ _ _) acQ
def t27:ah:=t26.bz Ht
theorem QB:aj P t27:=QA.aP acR

def mw(d:List G):Option (List G) :=
 (bif (aB (gi d 0).int (gi d 1).int) then some [.t true] else some [.t (aB (gi d 2).int (gi d 0).int)])
def Hu:aA:=⟨133,[.s (.int .i64),.s (.int .i64),.s (.int .i64)],[],[],[.s (.bool)],[],[],[],mw⟩
theorem acS:bf P t27 az f133 Hu:=fun d=>by kernel_rfl
theorem acT:aZ P Hu:=bt hm QB func133 (aK _ _ _) acS
def t28:ah:=t27.bz Hu
theorem QC:aj P t28:=QB.aP acT

def r9(d:List G):Option (List G) :=
 (ar (mw [.i (gi d 0).int,.i 0,.i 345686399999]) fun g1=>some [.t (!(gi g1 0).bool)])
def Hv:aA:=⟨86,[.s (.int .i64)],[],[],[.s (.bool)],[],[],[],r9⟩
theorem acU:bf P t28 az f86 Hv:=fun d=>by kernel_rfl
theorem acV:aZ P Hv:=bt hm QC func86 (aK _ _ _) acU
def t29:ah:=t28.bz Hv
theorem QD:aj P t29:=QC.aP acV

def Hw(d:List G):Option (List G) :=
 (ar (mw [.i (gi d 0).int,.i 1,.i 3]) fun g1=>some [.t (!(gi g1 0).bool)])
def Hx:aA:=⟨251,[.s (.int .i64)],[],[],[.s (.bool)],[],[],[],Hw⟩
theorem acW:bf P t29 az f251 Hx:=fun d=>by kernel_rfl
theorem acX:aZ P Hx:=bt hm QD func251 (aK _ _ _) acW
def t30:ah:=t29.bz Hx
theorem QE:aj P t30:=QD.aP acX

def B6(d:List G):Option (List G) :=
 (ar (GY [.s (gi d 0).str]) fun g1=>some [.t (gi g1 1).bool])
def Hy:aA:=⟨252,[.s (.str)],[],[],[.s (.bool)],[],[],[],B6⟩
theorem acY:bf P t30 az f252 Hy:=fun d=>by kernel_rfl
theorem acZ:aZ P Hy:=bt hm QE func252 (aK _ _ _) acY
def t31:ah:=t30.bz Hy
theorem QF:aj P t31:=QE.aP acZ

def B7(d:List G):Option (List G) :=
 (bif ((gi d 0).str.toList==(⟨#[]⟩:ByteArray).toList) then some [.t true] else (ar (qs [.s (gi d 0).str]) fun g1=>some [.t (gi g1 0).bool]))
def Hz:aA:=⟨253,[.s (.str)],[],[],[.s (.bool)],[],[],[],B7⟩
theorem ac0:bf P t31 az f253 Hz:=fun d=>by kernel_rfl
theorem ac1:aZ P Hz:=bt hm QF func253 (aK _ _ _) ac0
def t32:ah:=t31.bz Hz
theorem QG:aj P t32:=QF.aP ac1

def uV(d:List G):Option (List G) :=
 (ar (r9 [.i (gi (gi d 0).row 0).int]) fun g1=>(bif (!(gi g1 0).bool) then some [.i 1] else (ar (Hw [.i (gi (gi d 0).row 1).int]) fun g2=>(bif (!(gi g2 0).bool) then some [.i 4] else (ar (qs [.s (gi (gi d 0).row 2).str]) fun g3=>(bif (!(gi g3 0).bool) then some [.i 5] else (ar (B6 [.s (gi (gi d 0).row 3).str]) fun g4=>(bif (!(gi g4 0).bool) then some [.i 3] else (ar (mw [.i (gi (gi d 0).row 4).int,.i 0,.i 99999]) fun g5=>(bif (gi g5 0).bool then some [.i 1] else (ar (mw [.i (gi (gi d 0).row 5).int,.i 0,.i 99999]) fun g6=>(bif (gi g6 0).bool then some [.i 1] else (ar (B7 [.s (gi (gi d 0).row 6).str]) fun g7=>(bif (!(gi g7 0).bool) then some [.i 5] else (ar (B7 [.s (gi (gi d 0).row 7).str]) fun g8=>(bif (!(gi g8 0).bool) then some [.i 5] else some [.i 0]))))))))))))))))
def HA:aA:=⟨240,[.s (.row aY)],[],[],[.s (.int .i64)],[],[],[],uV⟩
theorem ac2:bf P t32 az f240 HA:=fun d=>by kernel_rfl
theorem ac3:aZ P HA:=bt hm QG func240 (aK _ _ _) ac2
def t33:ah:=t32.bz HA
theorem QH:aj P t33:=QG.aP ac3

def B8(d:List G):Option (List G) :=
 (ar (uV [.l [[.i (gi (gi d 0).row 4).int,.i (gi (gi d 0).row 5).int,.s (gi (gi d 0).row 6).str,.s (gi (gi d 0).row 7).str,.i (gi (gi d 0).row 8).int,.i (gi (gi d 0).row 9).int,.s (gi (gi d 0).row 10).str,.s (gi (gi d 0).row 11).str]]]) fun g1=>(bif ((gi g1 0).int != 0) then some [.i (gi g1 0).int] else (bif (aB (gi (gi d 0).row 2).int (gi (gi d 0).row 4).int) then some [.i 1] else some [.i 0])))
def HB:aA:=⟨215,[.s (.row ak)],[],[],[.s (.int .i64)],[],[],[],B8⟩
theorem ac4:bf P t33 az f215 HB:=fun d=>by kernel_rfl
theorem ac5:aZ P HB:=bt hm QH func215 (aK _ _ _) ac4
def t34:ah:=t33.bz HB
theorem QI:aj P t34:=QH.aP ac5

def nD(d:List G):Option (List G) :=
 let g:=gi (gi d 0).row 3; (bif (g.int==1) then (ar (B8 [.l [(aR ak (gi d 0).row)]]) fun g1=>some [.i (gi g1 0).int]) else (bif (g.int==2) then (ar (qs [.s (gi (gi d 0).row 12).str]) fun g2=>(bif (!(gi g2 0).bool) then some [.i 5] else some [.i 0])) else (bif (g.int==5) then (ar (qs [.s (gi (gi d 0).row 13).str]) fun g3=>(bif (!(gi g3 0).bool) then some [.i 5] else (ar (mw [.i (gi (gi d 0).row 14).int,.i 1,.i 1000000]) fun g4=>(bif (gi g4 0).bool then some [.i 1] else some [.i 0])))) else (ar (mw [.i (gi (gi d 0).row 8).int,.i 1,.i 99999]) fun g5=>(bif (gi g5 0).bool then some [.i 1] else some [.i 0])))))
def HC:aA:=⟨176,[.s (.row ak)],[],[],[.s (.int .i64)],[],[],[],nD⟩
theorem ac6:bf P t34 az f176 HC:=fun d=>by kernel_rfl
theorem ac7:aZ P HC:=bt hm QI func176 (aK _ _ _) ac6
def t35:ah:=t34.bz HC
theorem QJ:aj P t35:=QI.aP ac7

def lA(d:List G):Option (List G) :=
 let z3:=(⟨#[]⟩:ByteArray); let z4:=gi (gi d 0).row 3; let g:=bif (z4.int==2) then (bif (z4.int==5) then some [.t true] else (bif ((gi (gi d 0).row 13).str.toList==z3.toList) then some [.t ((gi (gi d 0).row 14).int==0)] else some [.t false])) else (bif ((gi (gi d 0).row 12).str.toList==z3.toList) then (bif (z4.int==5) then some [.t true] else (bif ((gi (gi d 0).row 13).str.toList==z3.toList) then some [.t ((gi (gi d 0).row 14).int==0)] else some [.t false])) else some [.t false]); let z2:=bif (z4.int==1) then g else (bif (aq aY [.i (gi (gi d 0).row 4).int,.i (gi (gi d 0).row 5).int,.s (gi (gi d 0).row 6).str,.s (gi (gi d 0).row 7).str,.i (gi (gi d 0).row 8).int,.i (gi (gi d 0).row 9).int,.s (gi (gi d 0).row 10).str,.s (gi (gi d 0).row 11).str] [.i 0,.i 0,.s z3,.s z3,.i (gi (gi d 0).row 8).int,.i 0,.s z3,.s z3]) then g else some [.t false]); (bif (z4.int==3) then z2 else (bif (z4.int==4) then z2 else (bif (z4.int==1) then g else (bif (aq aY [.i (gi (gi d 0).row 4).int,.i (gi (gi d 0).row 5).int,.s (gi (gi d 0).row 6).str,.s (gi (gi d 0).row 7).str,.i (gi (gi d 0).row 8).int,.i (gi (gi d 0).row 9).int,.s (gi (gi d 0).row 10).str,.s (gi (gi d 0).row 11).str] [.i 0,.i 0,.s z3,.s z3,.i 0,.i 0,.s z3,.s z3]) then g else some [.t false]))))
def HD:aA:=⟨177,[.s (.row ak)],[],[],[.s (.bool)],[],[],[],lA⟩
theorem ac8:bf P t35 az f177 HD:=fun d=>by kernel_rfl
theorem ac9:aZ P HD:=bt hm QJ func177 (aK _ _ _) ac8
def t36:ah:=t35.bz HD
theorem QK:aj P t36:=QJ.aP ac9

def B9(d:List G):Option (List G) :=
 let g:=aR ak (gi d 0).row; (ar (qs [.s (gi (gi d 0).row 0).str]) fun g1=>(bif (!(gi g1 0).bool) then some [.i 5] else (ar (mw [.i (gi (gi d 0).row 1).int,.i 1,.i 1000000]) fun g2=>(bif (gi g2 0).bool then some [.i 1] else (ar (r9 [.i (gi (gi d 0).row 2).int]) fun g3=>(bif (!(gi g3 0).bool) then some [.i 1] else (ar (mw [.i (gi (gi d 0).row 3).int,.i 1,.i 5]) fun g4=>(bif (gi g4 0).bool then some [.i 4] else (ar (nD [.l [g]]) fun g5=>(bif ((gi g5 0).int != 0) then some [.i (gi g5 0).int] else (ar (lA [.l [g]]) fun g6=>(bif (!(gi g6 0).bool) then some [.i 3] else some [.i 0]))))))))))))
def HF:aA:=⟨131,[.s (.row ak)],[],[],[.s (.int .i64)],[],[],[],B9⟩
theorem ac_:bf P t36 az f131 HF:=fun d=>by kernel_rfl
theorem ac':aZ P HF:=bt hm QK func131 (aK _ _ _) ac_
def t37:ah:=t36.bz HF
theorem QL:aj P t37:=QK.aP ac'

def B_(d:List G):Option (List G) :=
 some [.t ((gi d 0).int != (gi d 0).int)]
def HG:aA:=⟨94,[.s (.int .i64)],[],[],[.s (.bool)],[],[],[],B_⟩
theorem ada:bf P t37 az f94 HG:=fun d=>by kernel_rfl
theorem adb:aZ P HG:=bt hm QL func94 (aK _ _ _) ada
def t38:ah:=t37.bz HG
theorem QM:aj P t38:=QL.aP adb

def qt(d:List G):Option (List G) :=
 (ar (B_ [.i (gi d 0).int]) fun g1=>(ar (B_ [.i (gi d 1).int]) fun g2=>(bif (gi g1 0).bool then (bif (gi g2 0).bool then some [.i 0] else some [.i (-1)]) else (bif (gi g2 0).bool then some [.i 1] else (bif (aB (gi d 0).int (gi d 1).int) then some [.i (-1)] else (bif (aB (gi d 1).int (gi d 0).int) then some [.i 1] else some [.i 0]))))))
def HI:aA:=⟨56,[.s (.int .i64),.s (.int .i64)],[],[],[.s (.int .i64)],[],[],[],qt⟩
theorem ade:bf P t38 az f56 HI:=fun d=>by kernel_rfl
theorem adf:aZ P HI:=bt hm QM func56 (aK _ _ _) ade
def t39:ah:=t38.bz HI
theorem HJ:aj P t39:=QM.aP adf

def uW(d:List G):Option (Option Nat × List G) :=
 let g:=gi ((gi d 1).rows.getD (((gi d 3).int).toNat) []) 0; (bif (aB (gi d 3).int (gi d 2).int) then (bif ((a_ (gi d 3).int)&&(aB (gi d 3).int (((gi d 1).rows.length:Nat):Int))) then (bif (g.int != (gi d 0).int) then some (some 0,[.i g.int]) else (bif (aw ((gi d 3).int+1)) then some (none,[.i (gi d 0).int,.l (gi d 1).rows,.i (gi d 2).int,.i ((gi d 3).int+1)]) else none)) else none) else some (some 1,[.i (gi d 0).int]))
def QN:bq:=⟨3,[],⟨18,[(3,.s (.int .i64)),(6,.s (.list [.int .i64])),(7,.s (.int .i64)),(8,.s (.int .i64))],[]⟩,[],[⟨.ret,⟨18,[(2,.s (.int .i64))],[]⟩,[]⟩,⟨.exit 0,⟨18,[(3,.s (.int .i64))],[]⟩,[]⟩],uW⟩
theorem adg:cW P t39 az 0 (cX f55 3) QN:=fun d=>by kernel_rfl
def QO:LT:=az.add 0 QN
theorem adh:ax P 0 QO (aN f55):=ax.a hm HJ (aK _ _ _) adg
def nE(d:List G):Option (List G) :=
 (a7 true (cd uW [.i 0,.l (gi d 0).rows,.i (((gi d 0).rows.length:Nat):Int),.i 0]) fun g g1=>(bif ab g 0 then some [.i (gi g1 0).int] else some [.i (gi g1 0).int]))
def HK:aA:=⟨55,[.s (.list [.int .i64])],[],[],[.s (.int .i64)],[],[],[],nE⟩
theorem adi:bf P t39 QO f55 HK:=fun d=>by kernel_rfl
theorem adj:aZ P HK:=bt hm HJ func55 adh adi
def t40:ah:=t39.bz HK
theorem QP:aj P t40:=HJ.aP adj

def Ca(d:List G):Option (List G) :=
 (ar (qt [.i (gi (gi d 0).row 2).int,.i (gi (gi d 1).row 2).int]) fun g1=>(ar (ir [.s (gi (gi d 0).row 0).str,.s (gi (gi d 1).row 0).str]) fun g2=>(ar (qt [.i (gi (gi d 0).row 1).int,.i (gi (gi d 1).row 1).int]) fun g3=>(ar (nE [.l [[.i (gi g1 0).int],[.i (gi g2 0).int],[.i (gi g3 0).int]]]) fun g4=>some [.i (gi g4 0).int]))))
def HL:aA:=⟨132,[.s (.row ak),.s (.row ak)],[],[],[.s (.int .i64)],[],[],[],Ca⟩
theorem adk:bf P t40 az f132 HL:=fun d=>by kernel_rfl
theorem adl:aZ P HL:=bt hm QP func132 (aK _ _ _) adk
def t41:ah:=t40.bz HL
theorem Cb:aj P t41:=QP.aP adl

def x_(d:List G):Option (Option Nat × List G) :=
 let g:=aR ak ((gi d 1).rows.getD (((gi d 3).int).toNat) []); let z2:=(gi d 3).int-1; let z3:=(gi d 3).int+1; (bif (aB (gi d 3).int (gi d 2).int) then (bif ((a_ (gi d 3).int)&&(aB (gi d 3).int (((gi d 1).rows.length:Nat):Int))) then (ar (B9 [.l [g]]) fun g1=>(bif ((gi g1 0).int != 0) then some (some 0,[.i (gi g1 0).int]) else (bif (aB 0 (gi d 3).int) then (bif (aw z2) then (bif ((a_ z2)&&(aB z2 (((gi d 0).rows.length:Nat):Int))) then (ar (Ca [.l [(aR ak ((gi d 0).rows.getD (z2.toNat) []))],.l [g]]) fun g2=>(bif (bM 0 (gi g2 0).int) then some (some 0,[.i 7]) else (bif (aw z3) then some (none,[.l (gi d 0).rows,.l (gi d 1).rows,.i (gi d 2).int,.i z3]) else none))) else none) else none) else (bif (aw z3) then some (none,[.l (gi d 0).rows,.l (gi d 1).rows,.i (gi d 2).int,.i z3]) else none)))) else none) else some (some 1,[.l (gi d 0).rows]))
def QQ:bq:=⟨4,[],⟨56,[(0,.s (.list ak)),(13,.s (.list ak)),(14,.s (.int .i64)),(15,.s (.int .i64))],[]⟩,[],[⟨.ret,⟨56,[(2,.s (.int .i64))],[]⟩,[]⟩,⟨.exit 0,⟨56,[(0,.s (.list ak))],[]⟩,[]⟩],x_⟩
theorem adm:cW P t41 az 0 (cX f85 4) QQ:=fun d=>by kernel_rfl
def HM:LT:=az.add 0 QQ
theorem adn:ax P 0 HM (aN f85):=ax.a hm Cb (aK _ _ _) adm
def ya(d:List G):Option (Option Nat × List G) :=
 let g:=aR [.str,.int .i64] ((gi d 2).rows.getD (((gi d 4).int).toNat) []); (bif (aB (gi d 4).int (gi d 3).int) then (bif ((a_ (gi d 4).int)&&(aB (gi d 4).int (((gi d 2).rows.length:Nat):Int))) then (bif (gi (bZ [.str,.int .i64] (gi d 0).rows g [.t false]) 0).bool then some (some 0,[.i 6]) else (bif (aw ((gi d 4).int+1)) then some (none,[.l (bK [.str,.int .i64] (gi d 0).rows g [.t true] (gi d 1).int.toNat),.i (((cU [.str,.int .i64] (gi d 0).rows g (gi d 1).int.toNat):Nat):Int),.l (gi d 2).rows,.i (gi d 3).int,.i ((gi d 4).int+1)]) else none)) else none) else some (some 1,[]))
def QR:bq:=⟨14,[],⟨56,[(6,.s (.map 0)),(39,.s (.list ak)),(40,.s (.int .i64)),(41,.s (.int .i64))],[.map (.agg [.str,.int .i64]) (.one (.bool))]⟩,[.slot 6],[⟨.ret,⟨56,[(2,.s (.int .i64))],[]⟩,[]⟩,⟨.exit 2,⟨56,[],[]⟩,[]⟩],ya⟩
theorem ado:cW P t41 HM 0 (cX f85 14) QR:=fun d=>by kernel_rfl
def QS:LT:=HM.add 0 QR
theorem adp:ax P 0 QS (aN f85):=ax.a hm Cb adn ado
def yb(d:List G):Option (List G) :=
 let g:=(((gi d 0).rows.length:Nat):Int); (bif (aB 2000 g) then some [.i 2] else (a7 true (cd x_ [.l (gi d 0).rows,.l (gi d 0).rows,.i g,.i 0]) fun k g3=>(bif ab k 0 then some [.i (gi g3 0).int] else (a7 true (cd ya [.l [],.i 0,.l (gi g3 0).rows,.i (((gi g3 0).rows.length:Nat):Int),.i 0]) fun q g4=>(bif ab q 0 then some [.i (gi g4 0).int] else some [.i 0])))))
def HN:aA:=⟨85,[.s (.list ak)],[],[],[.s (.int .i64)],[],[],[],yb⟩
theorem adq:bf P t41 QS f85 HN:=fun d=>by kernel_rfl
theorem ads:aZ P HN:=bt hm Cb func85 adp adq
def t42:ah:=t41.bz HN
theorem QT:aj P t42:=Cb.aP ads

def uX(d:List G):Option (List G) :=
 (ar (yb [.l (gi d 0).rows]) fun g1=>(bif ((gi g1 0).int != 0) then some [.i (gi g1 0).int] else (ar (r9 [.i (gi d 1).int]) fun g2=>(bif (!(gi g2 0).bool) then some [.i 1] else some [.i 0]))))
def HO:aA:=⟨48,[.s (.list ak),.s (.int .i64)],[],[],[.s (.int .i64)],[],[],[],uX⟩
theorem adt:bf P t42 az f48 HO:=fun d=>by kernel_rfl
theorem adu:aZ P HO:=bt hm QT func48 (aK _ _ _) adt
def t43:ah:=t42.bz HO
theorem adv:aj P t43:=QT.aP adu

def t44:ah:=t43.dZ P 134 f134
theorem HP:aj P t44:=adv.dZ hm func134 (by kernel_rfl) (by kernel_rfl)

theorem adw:qi P ⟨178,26,51,15,15,true⟩:=NL func178 (by kernel_rfl) rfl rfl rfl ⟨⟨_,_,_,_,_,_,rfl,⟨rfl,rfl,rfl⟩,⟨rfl,rfl,rfl⟩,⟨rfl,rfl,rfl⟩,⟨rfl,rfl,rfl⟩⟩,⟨_,_,_,_,rfl,⟨rfl,rfl,rfl⟩,⟨rfl,rfl,rfl⟩⟩,⟨_,_,_,_,_,rfl,⟨rfl,rfl,rfl⟩,⟨rfl,rfl,rfl⟩,⟨rfl,rfl,rfl⟩⟩,⟨_,_,_,_,_,_,_,_,_,_,rfl,⟨rfl,rfl,rfl⟩,⟨rfl,rfl,rfl⟩,⟨rfl,rfl,rfl⟩,⟨rfl,rfl,rfl⟩,⟨rfl,rfl,rfl⟩,⟨rfl,rfl,rfl⟩,⟨rfl,rfl,rfl⟩,⟨rfl,rfl,rfl⟩⟩⟩ (by kernel_rfl)
def HQ(i:Int)(r d:List G):Option (List G) :=
 let g:=((gi d 3).rows++([[.i i]]:List (List G))); let z2:=ab (gi d 3).rows.length (gi d 3).rows.length; let z3:=(((gi d 2).int.toNat:Nat):Int); let z4:=(((ab g.length g.length)&&true)&&true)&&true; let z5:=((z2&&true)&&true)&&true; (bif (aB (gi d 0).int (gi r 2).int) then (bif z5 then some [.i (gi d 0).int,.l (gi d 1).rows,.i z3,.l (gi d 3).rows] else none) else (bif (gi (bZ [.str,.int .i64] (gi d 1).rows (aR [.str,.int .i64] r) [.t false]) 0).bool then (bif z5 then some [.i (gi d 0).int,.l (gi d 1).rows,.i z3,.l (gi d 3).rows] else none) else (bif (z2&&(decide (((gi d 3).rows.length+1)≤1048576))) then (bif ((gi r 3).int==5) then (bif z4 then some [.i (gi d 0).int,.l (bK [.str,.int .i64] (gi d 1).rows [.s (gi r 13).str,.i (gi r 14).int] [.t true] (gi d 2).int.toNat),.i (((cU [.str,.int .i64] (gi d 1).rows [.s (gi r 13).str,.i (gi r 14).int] (gi d 2).int.toNat):Nat):Int),.l g] else none) else (bif z4 then some [.i (gi d 0).int,.l (gi d 1).rows,.i z3,.l g] else none)) else none)))
def QU(d:List G):List G:=[.i (gi d 0).int,.l (gi d 1).rows,.i (((gi d 2).int.toNat:Nat):Int),.l []]
def QV(d:List G):Bool:=true
def uY:uy:=⟨⟨43,[(3,.s (.ptr 0 0)),(5,.s (.ptr 1 0)),(6,.s (.ptr 3 0))],[.box [.int .i64],.box [.map 2],.map (.agg [.str,.int .i64]) (.one (.bool)),.box [.vec 4 1],.vec [.int .i64] 1]⟩,[.slot 3,.slot 5,.cell 1 0,.slot 6,.cell 3 0],[],ak,true,15,5,12,13,QU,QV,HQ⟩
theorem adx:BA P t44 (az.ja [(2,[.e_ 6 0 [.int .i64]]),(3,[.e_ 6 0 [.int .i64]])]) uY (BB (cutAt f87 3)) (BC (cutAt f87 3)):=fun i r d=>by kernel_rfl
def HR(d:List G):Option (Option Nat × List G) :=
 let g:=BZ [.l (gi d 3).rows]; (fS (((ab (gi d 3).rows.length (gi d 3).rows.length)&&true)&&g.isSome) g fun g1=>(bif ((ab (gi d 3).rows.length (gi g1 0).rows.length)&&true) then some (some 0,[.l (gi g1 0).rows]) else none))
def QW:bq:=⟨10,[],⟨43,[(3,.s (.ptr 0 0)),(5,.s (.ptr 1 0)),(6,.s (.ptr 3 0))],[.box [.int .i64],.box [.map 2],.map (.agg [.str,.int .i64]) (.one (.bool)),.box [.vec 4 1],.vec [.int .i64] 1]⟩,[],[⟨.ret,⟨43,[(4,.s (.vec 0 1))],[.vec [.int .i64] 0]⟩,[.slot 4]⟩],HR⟩
theorem ady:gh P t44 (az.ja [(2,[.e_ 6 0 [.int .i64]]),(3,[.e_ 6 0 [.int .i64]])]) 0 (ls (cutAt f87 3)) QW:=fun d=>by kernel_rfl
def Cc(d:List G):Option (Option Nat × List G) :=
 xL uY HR ((gi d 3).rows) d
def HS:bq:=⟨3,[],⟨43,[(0,.s (.list ak)),(3,.s (.ptr 0 0)),(5,.s (.ptr 1 0)),(6,.s (.ptr 3 0))],[.box [.int .i64],.box [.map 2],.map (.agg [.str,.int .i64]) (.one (.bool)),.box [.nil]]⟩,[.slot 3,.slot 5,.cell 1 0,.slot 6],[⟨.ret,⟨43,[(4,.s (.vec 0 1))],[.vec [.int .i64] 0]⟩,[.slot 4]⟩],Cc⟩
def QX:LT:=(az.ja [(2,[.e_ 6 0 [.int .i64]]),(3,[.e_ 6 0 [.int .i64]])]).ff 0 HS
theorem adz:ax P 0 QX (aN f87):=ax.YY (i:=⟨178,26,51,15,15,true⟩) (q:=HS) (qr:=QW) (sp:=uY) (b:=0) (g:=11) (wd:=0) (L0:=(az.ja [(2,[.e_ 6 0 [.int .i64]]),(3,[.e_ 6 0 [.int .i64]])])) (rows:=fun d=>(gi d 3).rows) (pre:=fun d=>preB P t44 (az.ja [(2,[.e_ 6 0 [.int .i64]]),(3,[.e_ 6 0 [.int .i64]])]) (cutAt f87 3) (aF HS.inv d)) hm HP adw (by kernel_rfl) (rT _) (fun _ _=>rT _) (by kernel_rfl) adx (by kernel_rfl) (by kernel_rfl) (fun d=>by kernel_rfl) (fun d=>by kernel_rfl) (fun d=>by kernel_rfl) (fun d=>by kernel_rfl) (fun d=>by kernel_rfl) rfl rfl ady (fun d=>rfl)
def Cd(d:List G):Option (List G) :=
 (a7 true (dD (Cc [.i (gi d 1).int,.l [],.i 0,.l (gi d 0).rows])) fun g g2=>(bif ((ab (gi g2 0).rows.length (gi g2 0).rows.length)&&true) then some [.l (gi g2 0).rows] else none))
def HT:aA:=⟨87,[.s (.list ak),.s (.int .i64)],[],[],[.s (.list [.int .i64])],[],[],[],Cd⟩
theorem adA:bf P t44 QX f87 HT:=fun d=>by kernel_rfl
theorem adB:aZ P HT:=bt hm HP func87 adz adA
def t45:ah:=t44.bz HT
theorem QY:aj P t45:=HP.aP adB

def Ce(d:List G):Option (List G) :=
 some [.l [[.i (gi (gi d 0).row 0).int,.i (gi (gi d 0).row 1).int,.s (gi (gi d 0).row 2).str,.s (gi (gi d 0).row 3).str,.i 0,.i 0,.s (⟨#[]⟩:ByteArray),.s (⟨#[]⟩:ByteArray)]]]
def HU:aA:=⟨88,[.s (.row aY)],[],[],[.s (.row aY)],[],[],[],Ce⟩
theorem adC:bf P t45 az f88 HU:=fun d=>by kernel_rfl
theorem adD:aZ P HU:=bt hm QY func88 (aK _ _ _) adC
def t46:ah:=t45.bz HU
theorem QZ:aj P t46:=QY.aP adD

def r_(d:List G):Option (List G) :=
 (ar (qt [.i (gi (gi d 0).row 0).int,.i (gi (gi d 1).row 0).int]) fun g1=>(ar (ir [.s (gi (gi d 0).row 3).str,.s (gi (gi d 1).row 3).str]) fun g2=>(ar (ir [.s (gi (gi d 0).row 2).str,.s (gi (gi d 1).row 2).str]) fun g3=>(ar (qt [.i (gi (gi d 0).row 1).int,.i (gi (gi d 1).row 1).int]) fun g4=>(ar (nE [.l [[.i (gi g1 0).int],[.i (gi g2 0).int],[.i (gi g3 0).int],[.i (gi g4 0).int]]]) fun g5=>some [.i (gi g5 0).int])))))
def HV:aA:=⟨90,[.s (.row aY),.s (.row aY)],[],[],[.s (.int .i64)],[],[],[],r_⟩
theorem adE:bf P t46 az f90 HV:=fun d=>by kernel_rfl
theorem Q0:aZ P HV:=bt hm QZ func90 (aK _ _ _) adE
def t47:ah:=t46.bz HV
theorem adF:aj P t47:=QZ.aP Q0

def Cf(d:List G):Option (List G) :=
 oE r_ d
def yc:aA:=⟨89,[.s (.vec 0 8),.s (.fn 90)],[.vec aY 0],[.slot 0],[],[.vec aY 0],[.fix 0],[],Cf⟩
theorem adG:∀ d r,Cf d=some r→cz P 89 (yc.args0 d) (ai (yc.H0 d)) (yc.out r) (ai (yc.H1 r)):=fun d r h=>Bw Tryz.ZP aY (by kernel_rfl) Tryz.isAgg49 Tryz.sizeOf49 90 (by kernel_rfl) r_ (fun d r h=>Q0 d r h) d r h
def t48:ah:=t47.cP yc
theorem sa:aj P t48:=adF.aW adG

end
end Go.Proofs.gT
