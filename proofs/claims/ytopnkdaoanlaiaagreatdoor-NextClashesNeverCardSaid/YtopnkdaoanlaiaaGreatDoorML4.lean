/-
 What is proved here: functions of the program as functions on data. No condition.
-/
import Derived.Test.YtopnkdaoanlaiaaGreatDoorML3
set_option linter.all false
open Bool renaming cond_eq_ite→I6
open Nat renaming beq→ab,blt→eE
namespace Go.Proofs.gq
open Go Go.AL Go.Proofs Tryz
noncomputable section
def tY(d:List G):Option (Option Nat × List G) :=
 let g:=(((gi d 5).int.toNat:Nat):Int); let z2:=(gi d 10).int+1; let z3:=(((gi d 7).int.toNat:Nat):Int); let z4:=(((gi d 9).int.toNat:Nat):Int); (bif (bM (gi d 10).int 99999) then (bif ((gi (ch [.int .i64] (gi d 6).rows [.i (gi d 10).int] [.i 0]) 0).int==0) then (bif ((gi (ch [.int .i64] (gi d 8).rows [.i (gi d 10).int] [.i 0]) 0).int==0) then some (some 0,[.l (gi d 0).rows,.l (gi d 1).rows,.l (gi d 2).rows,.l (gi d 3).rows,.l (gi d 4).rows,.i g,.i (gi d 10).int,.i 0]) else (bif (az z2) then some (none,[.l (gi d 0).rows,.l (gi d 1).rows,.l (gi d 2).rows,.l (gi d 3).rows,.l (gi d 4).rows,.i g,.l (gi d 6).rows,.i z3,.l (gi d 8).rows,.i z4,.i z2]) else none)) else (bif (az z2) then some (none,[.l (gi d 0).rows,.l (gi d 1).rows,.l (gi d 2).rows,.l (gi d 3).rows,.l (gi d 4).rows,.i g,.l (gi d 6).rows,.i z3,.l (gi d 8).rows,.i z4,.i z2]) else none)) else some (some 1,[.l (gi d 0).rows,.l (gi d 1).rows,.l (gi d 2).rows,.l (gi d 3).rows,.l (gi d 4).rows,.i g]))
def QR:bx:=⟨3,[],⟨26,[(4,.s (.map 2)),(5,.s (.map 3)),(6,.s (.int .i64))],[.box [.list aq,.list aQ,.list [.str],.list [.int .i64],.map 1],.map (.agg [.str,.int .i64]) (.one (.bool)),.map (.one (.int .i64)) (.one (.int .i64)),.map (.one (.int .i64)) (.one (.int .i64))]⟩,[.fix 0,.cell 0 4,.slot 4,.slot 5],[⟨.ret,⟨26,[(2,.s (.int .i64)),(3,.s (.int .i64))],[.box [.list aq,.list aQ,.list [.str],.list [.int .i64],.map 1],.map (.agg [.str,.int .i64]) (.one (.bool))]⟩,[.fix 0,.cell 0 4]⟩,⟨.exit 0,⟨26,[],[.box [.list aq,.list aQ,.list [.str],.list [.int .i64],.map 1],.map (.agg [.str,.int .i64]) (.one (.bool))]⟩,[.fix 0,.cell 0 4]⟩],tY⟩
theorem ad5:cX P t79 au 2 (c9 f21 3) QR:=fun d=>by kernel_rfl
def QS:LT:=au.add 2 QR
theorem ad6:ay P 2 QS (aN f21):=ay.a hm By (aG _ _ _) ad5
def G'(d:List G):List G:=[.l (gi d 0).rows,.l (gi d 1).rows,.l (gi d 2).rows,.l (gi d 3).rows,.l (gi d 4).rows,.i (((gi d 5).int.toNat:Nat):Int)]
def Bz(d g1:List G):List G:=[.l (gi g1 0).rows,.l (gi g1 1).rows,.l (gi g1 2).rows,.l (gi g1 3).rows,.l (gi g1 4).rows,.i (((gi g1 5).int.toNat:Nat):Int)]
def BA(d g1 g2:List G):Option (List G) :=
 (aY true (cG tY [.l (gi g2 0).rows,.l (gi g2 1).rows,.l (gi g2 2).rows,.l (gi g2 3).rows,.l (gi g2 4).rows,.i (((gi g2 5).int.toNat:Nat):Int),.l (gi g1 6).rows,.i (((gi g1 7).int.toNat:Nat):Int),.l (gi g2 6).rows,.i (((gi g2 7).int.toNat:Nat):Int),.i 1]) fun k g3=>let g:=(((gi g3 5).int.toNat:Nat):Int); (bif ab k 0 then some [.l (gi g3 0).rows,.l (gi g3 1).rows,.l (gi g3 2).rows,.l (gi g3 3).rows,.l (gi g3 4).rows,.i g,.i (gi g3 6).int,.i (gi g3 7).int] else some [.l (gi g3 0).rows,.l (gi g3 1).rows,.l (gi g3 2).rows,.l (gi g3 3).rows,.l (gi g3 4).rows,.i g,.i 0,.i 12]))
def tZ(d:List G):Option (List G):=ao (nO (G' d)) fun g1=>tD rA nP ((gi (jS (Bz d g1)) 4).rows) ((gi (jS (Bz d g1)) 5).int.toNat) (jS (Bz d g1)) fun g2=>BA d g1 g2
def rB:ax:=⟨21,[.s (.ptr 0 0)],[.box [.list aq,.list aQ,.list [.str],.list [.int .i64],.map 1],.map (.agg [.str,.int .i64]) (.one (.bool))],[.slot 0,.cell 0 4],[.s (.int .i64),.s (.int .i64)],[.box [.list aq,.list aQ,.list [.str],.list [.int .i64],.map 1],.map (.agg [.str,.int .i64]) (.one (.bool))],[.fix 0,.fix 1],[],tZ⟩
def lN(d g1:List G):al:=sL P (t79.cJ { xk with F:=fun _=>some g1 }) f21 rB 3 d
theorem ad7:∀ d,(bQ P t79 au (tC f21) ⟨dY (rB.args0 d) (f21).ntmps,rB.H0 d⟩ fun x s=>match x with | .normal=>ef P t79 (g_ f21) ((g_ f21).toList.take 3) s fun s=>.done .normal s|_=>.fail).leaf tA=ao (nO (G' d)) fun g1=>some (lN d g1):=fun d=>by kernel_rfl
theorem ad8:∀ d g1 e,(ef P t79 (g_ f21) ((g_ f21).toList.drop 4) ⟨(lN d g1).fr.set 10 (iB mN (pE f21 3 (lN d g1)) (lN d g1).H e).1,(iB mN (pE f21 3 (lN d g1)) (lN d g1).H e).2⟩ fun s=>bQ P t79 QS (AU f21) s .done).leaf (eY P (f21).results.toList rB)=BA d g1 e:=fun d g1 e=>by kernel_rfl
theorem ad9:∀ d g1,eU (lN d g1).den.eval (wK f21 3).op=some (mN.f,(pE f21 3 (lN d g1))):=fun d g1=>by kernel_rfl
theorem ad_:∀ d g1,wJ mN (pE f21 3 (lN d g1)) (lN d g1).H=some (true,Bz d g1):=fun d g1=>by kernel_rfl
theorem ad':aU P rB:=fun d r h=>by
 have h:tZ d=some r:=h;unfold tZ at h;obtain⟨g1,k,h⟩:=MF h;obtain⟨aL,g,hk⟩:=MH h;exact MG (sp:=rB) hm By By func21 (by kernel_rfl) (ff.lG (QQ _ aL g)) (by kernel_rfl) (by kernel_rfl) (r0:=tC f21) (id:=1) (ops:=g_ f21) (rest:=AU f21) (by kernel_rfl) ad6 (l1:=(g_ f21).toList.take 3) (oc:=wK f21 3) (l2:=(g_ f21).toList.drop 4) (by kernel_rfl) (by kernel_rfl) (t:=10) (by kernel_rfl) (S1:=lN d g1) ((ad7 d).trans (by rw[k]; rfl)) (ad9 d g1) (ad_ d g1) (tl:=BA d g1) (ad8 d g1) hk
def t80:ah:=t79.cJ rB
theorem QT:ai P t80:=By.aW ad'

def xl(d:List G):Option (List G) :=
 (ao (rr [.l (gi d 0).rows,.i (gi d 1).int]) fun g3=>(bif ((gi g3 0).int != 0) then (bif ((gi g3 0).int != 0) then some [.i 0,.i (gi g3 0).int] else none) else (ao (ry [.l (gi d 0).rows,.i (gi d 1).int]) fun g4=>(bif ((gi g4 6).int != 0) then some [.i 0,.i (gi g4 6).int] else (ao (tZ [.l (gi g4 0).rows,.l (gi g4 1).rows,.l (gi g4 2).rows,.l (gi g4 3).rows,.l (gi g4 4).rows,.i (((gi g4 5).int.toNat:Nat):Int)]) fun g5=>some [.i (gi g5 6).int,.i (gi g5 7).int])))))
def Ha:ax:=⟨6,[.s (.list aq),.s (.int .i64)],[],[],[.s (.int .i64),.s (.int .i64)],[],[],[],xl⟩
theorem aea:aX P t80 au f6 Ha:=fun d=>by kernel_rfl
theorem aeb:aU P Ha:=ba hm QT func6 (aG _ _ _) aea
def t81:ah:=t80.bp Ha
theorem QU:ai P t81:=QT.aP aeb

def xm(d:List G):Option (List G) :=
 (ao (rr [.l (gi d 0).rows,.i (gi d 1).int]) fun g1=>(bif ((gi g1 0).int != 0) then (bif ((gi g1 0).int != 0) then some [.l [],.l [],.i (gi g1 0).int] else none) else (ao (ry [.l (gi d 0).rows,.i (gi d 1).int]) fun g2=>(bif ((gi g2 6).int != 0) then some [.l [],.l [],.i (gi g2 6).int] else some [.l (gi g2 1).rows,.l (gi g2 3).rows,.i 0]))))
def Hb:ax:=⟨7,[.s (.list aq),.s (.int .i64)],[],[],[.s (.list aQ),.s (.list [.int .i64]),.s (.int .i64)],[],[],[],xm⟩
theorem aec:aX P t81 au f7 Hb:=fun d=>by kernel_rfl
theorem aed:aU P Hb:=ba hm QU func7 (aG _ _ _) aec
def t82:ah:=t81.bp Hb
theorem aee:ai P t82:=QU.aP aed

def t83:ah:=t82.cy P 46 f46
theorem QV:ai P t83:=aee.cy hm func46 (by kernel_rfl) (by kernel_rfl)

def rC(d:List G):Option (List G) :=
 (ao (iD [.s (gi (gi d 0).row 0).str,.s (gi (gi d 1).row 0).str]) fun g1=>(ao (nJ [.i (gi (gi d 0).row 1).int,.i (gi (gi d 1).row 1).int]) fun g2=>(ao (jR [.l [[.i (gi g1 0).int],[.i (gi g2 0).int]]]) fun g3=>some [.i (gi g3 0).int])))
def Hc:ax:=⟨47,[.s (.row [.str,.int .i64]),.s (.row [.str,.int .i64])],[],[],[.s (.int .i64)],[],[],[],rC⟩
theorem aef:aX P t83 au f47 Hc:=fun d=>by kernel_rfl
theorem QW:aU P Hc:=ba hm QV func47 (aG _ _ _) aef
def t84:ah:=t83.bp Hc
theorem aeg:ai P t84:=QV.aP QW

def xn(d:List G):Option (List G) :=
 qY rC d
def xo:ax:=⟨84,[.s (.vec 0 2),.s (.fn 47)],[.vec [.str,.int .i64] 0],[.slot 0],[],[.vec [.str,.int .i64] 0],[.fix 0],[],xn⟩
theorem aeh:∀ d r,xn d=some r→cg P 84 (xo.args0 d) (aj (xo.H0 d)) (xo.out r) (aj (xo.H1 r)):=fun d r h=>Mm Tryz.Yk [.str,.int .i64] (by kernel_rfl) Tryz.isAgg98 Tryz.sizeOf98 47 (by kernel_rfl) rC (fun d r h=>QW d r h) d r h
def t85:ah:=t84.cJ xo
theorem t_:ai P t85:=aeg.aW aeh

theorem aei:AQ P (.agg [.str,.int .i64]) 85:=Mt t_ func85 (by kernel_rfl) rfl rfl rfl ⟨_,_,_,rfl,⟨rfl,rfl,rfl⟩,⟨rfl,rfl,rfl⟩,by kernel_rfl,by kernel_rfl⟩ ⟨_,_,rfl,rfl,rfl,rfl,rfl,rfl,rfl⟩ ⟨_,_,rfl,rfl,rfl,rfl⟩ ⟨_,_,_,_,_,_,rfl,⟨rfl,rfl,rfl⟩,⟨rfl,rfl,rfl⟩⟩ (s2:=iR P t85 (.agg [.str,.int .i64]) (AT f85)) (s3:=fun l it g=>my P t85 (MA f85) (iR P t85 (.agg [.str,.int .i64]) (AT f85) l it g)) (fun l it g=>by kernel_rfl) (fun l it g=>by kernel_rfl) (fun l it g=>by kernel_rfl) (fun l it g=>by kernel_rfl) (fun l it g=>by kernel_rfl) (fun l it g=>by kernel_rfl) (fun l it g=>by kernel_rfl)
def Hd(r:List G):List G:=[.s (gi (gi r 0).row 0).str,.i (gi (gi r 0).row 1).int]
def kL(d:List G)(p:List (List G)):List G:=[.l (fU d),.i ((mC d:Nat):Int),.l (p.map Hd)]
def He(r d:List G):Option (List G) :=
 let z:=((gi d 2).rows++([[.s (gi r 0).str,.i (gi r 1).int]]:List (List G))); bif ((ab (gi d 2).rows.length (gi d 2).rows.length)&&(decide ((gi d 2).rows.length+1≤1048576))) then (bif ((((ab z.length z.length)&&true)&&true)&&true) then some [.l (gi d 0).rows,.i (((gi d 1).int.toNat:Nat):Int),.l z] else none) else none
theorem aej:∀ d p r,p.length<1048576→He (gi r 0).row (kL d p)=some (kL d (p++[r])):=fun d p r h=>by
 have h1:p.length+1≤1048576:=h;simp[He,kL,Hd,gi,G.rows,G.int,h1]
def BB(e:List G):Option (List G):=bif (ab (gi e 2).rows.length (gi e 2).rows.length&&true) then some [.l (gi e 0).rows,.i (((gi e 1).int.toNat:Nat):Int),.l (gi e 2).rows] else none
theorem QX:∀ d p,BB (kL d p)=some (kL d p):=fun d p=>by simp[BB,kL,gi,G.rows,G.int]
def Hg:ax:=⟨123,[.s .nil,.clo 85 [.ptr 0 0]],[.box [.map 1],.map (.agg [.str,.int .i64]) (.one (.bool))],[.cap 1 0,.cell 0 0],[.s (.vec 2 2)],[.box [.map 1],.map (.agg [.str,.int .i64]) (.one (.bool)),.vec [.str,.int .i64] 0],[.fix 0,.fix 1,.slot 0],[],fun _=>none⟩
theorem aek:∀ d,jQ d=true→gp P Hg d (fun p=>p.Perm (fU d)) (kL d):=fun d aL=>MB (V:=(.one (.bool))) (sp:=Hg) (fn:=f123) (L0:=au.iy [(1,[.eZ 2 0 [.str,.int .i64]])]) hm t_ aei (fun _ _=>qS _) func123 (by kernel_rfl) (by kernel_rfl) (r0:=Mv f123) (r1:=Mw f123) (assign:=Mx f123) (body:=My f123) (rest:=Mz f123) (b:=0) (g:=6) (p0:=7) (by kernel_rfl) (by kernel_rfl) (inv:=⟨13,[(2,.s (.ptr 2 0))],[.box [.map 1],.map (.agg [.str,.int .i64]) (.one (.bool)),.box [.vec 3 2],.vec [.str,.int .i64] 0]⟩) (ps:=[.fix 0,.fix 1,.fix 2,.cell 2 0]) (psr:=[.fix 0,.fix 1,.fix 2,.cell 2 0]) (pre:=Mu P t85 (au.iy [(1,[.eZ 2 0 [.str,.int .i64]])]) f123 Hg) (D:=kL) (st:=He) (tl:=BB) (R:=kL) (fun d=>by kernel_rfl) (fun d=>by kernel_rfl) (fun d=>by kernel_rfl) (fun d=>by kernel_rfl) (fun d=>by kernel_rfl) (fun d=>by kernel_rfl) (fun d p=>by kernel_rfl) (fun r d=>by kernel_rfl) aej (fun d=>by kernel_rfl) QX aL
def QY:ax:=⟨83,[.clo 85 [.ptr 0 0]],[.box [.map 1],.map (.agg [.str,.int .i64]) (.one (.bool))],[.cap 0 0,.cell 0 0],[.s (.vec 2 2)],[.box [.map 1],.map (.agg [.str,.int .i64]) (.one (.bool)),.vec [.str,.int .i64] 0],[.fix 0,.fix 1,.slot 0],[],fun _=>none⟩
theorem ael:∀ d,jQ d=true→gp P QY d (fun p=>p.Perm (fU d)) (kL d):=MD hm t_ func83 (by kernel_rfl) aek (by kernel_rfl) rfl (l1:=[_]) (l2:=[_]) rfl rfl rfl (s1:=AS P t85 f83 QY) (fun d=>by kernel_rfl) (fun d=>by kernel_rfl) (fun d=>by kernel_rfl) (tl:=BB) (fun d e=>by kernel_rfl) QX
def Hh(e:List G):Option (List G):=gI ((ab (gi e 2).rows.length (gi e 2).rows.length&&true)&&(xn [.l (gi e 2).rows]).isSome) (xn [.l (gi e 2).rows]) fun g=>bif (ab (gi e 2).rows.length (gi g 0).rows.length&&true) then some [.l (gi e 0).rows,.i (((gi e 1).int.toNat:Nat):Int),.l (gi g 0).rows] else none
def BC(d:List G):Option (List G):=tz kL Hh d
def Hk:ax:=⟨45,[.clo 85 [.ptr 0 0],.s (.fn 47)],[.box [.map 1],.map (.agg [.str,.int .i64]) (.one (.bool))],[.cap 0 0,.cell 0 0],[.s (.vec 2 2)],[.box [.map 1],.map (.agg [.str,.int .i64]) (.one (.bool)),.vec [.str,.int .i64] 0],[.fix 0,.fix 1,.slot 0],[],BC⟩
theorem aem:aU P Hk:=MC hm t_ t_ func45 (by kernel_rfl) ael (by kernel_rfl) rfl (l1:=[_]) (l2:=[_]) rfl rfl rfl (s1:=AS P t85 f45 Hk) (fun d=>by kernel_rfl) (fun d=>by kernel_rfl) (fun d=>by kernel_rfl) (tl:=Hh) (fun d e=>by kernel_rfl) (fun _=>rfl)
def t86:ah:=t85.cJ Hk
theorem Hl:ai P t86:=t_.aW aem

def BD(d:List G):Option (Option Nat × List G) :=
 let g:=(gi d 7).rows.getD (0+((gi d 9).int).toNat) []; let z2:=ab (gi d 6).rows.length (gi d 6).rows.length; let z3:=(((gi d 5).int.toNat:Nat):Int); (bif (aB (gi d 9).int (gi d 8).int) then (bif ((bD (gi d 9).int)&&(aB (gi d 9).int (((gi d 7).rows.length:Nat):Int))) then (bif (decide ((0+((gi d 9).int).toNat)<(gi d 7).rows.length)) then (ao (pH [.i (gi g 1).int]) fun g2=>let z4:=((gi d 6).rows++([[.s (gi g 0).str,.s (gi g2 0).str]]:List (List G))); (bif (z2&&(decide (((gi d 6).rows.length+1)≤1048576))) then (bif (az ((gi d 9).int+1)) then (bif ((ab z4.length z4.length)&&((ab (gi d 7).rows.length (gi d 7).rows.length)&&true)) then some (none,[.l (gi d 0).rows,.l (gi d 1).rows,.l (gi d 2).rows,.l (gi d 3).rows,.l (gi d 4).rows,.i z3,.l z4,.l (gi d 7).rows,.i (gi d 8).int,.i ((gi d 9).int+1)]) else none) else none) else none)) else none) else none) else (bif (z2&&true) then some (some 0,[.l (gi d 0).rows,.l (gi d 1).rows,.l (gi d 2).rows,.l (gi d 3).rows,.l (gi d 4).rows,.i z3,.l (gi d 6).rows]) else none))
def QZ:bx:=⟨4,[(4,[.str,.str])],⟨30,[(4,.s (.vec 2 2)),(13,.s (.vec 3 2)),(14,.s (.int .i64)),(15,.s (.int .i64))],[.box [.list aq,.list aQ,.list [.str],.list [.int .i64],.map 1],.map (.agg [.str,.int .i64]) (.one (.bool)),.vec [.str,.str] 0,.vec [.str,.int .i64] 0]⟩,[.fix 0,.cell 0 4,.slot 4,.slot 13],[⟨.exit 0,⟨30,[(4,.s (.vec 2 2))],[.box [.list aq,.list aQ,.list [.str],.list [.int .i64],.map 1],.map (.agg [.str,.int .i64]) (.one (.bool)),.vec [.str,.str] 0]⟩,[.fix 0,.cell 0 4,.slot 4]⟩],BD⟩
theorem aen:cX P t86 au 2 (c9 f22 4) QZ:=fun d=>by kernel_rfl
def Q0:LT:=au.add 2 QZ
theorem aeo:ay P 2 Q0 (aN f22):=ay.a hm Hl (aG _ _ _) aen
def BE(d:List G):Option (List G) :=
 (ao (BC [.l (gi d 4).rows,.i (((gi d 5).int.toNat:Nat):Int)]) fun g1=>(aY ((ab (gi g1 2).rows.length (gi g1 2).rows.length)&&true) (cG BD [.l (gi d 0).rows,.l (gi d 1).rows,.l (gi d 2).rows,.l (gi d 3).rows,.l (gi g1 0).rows,.i (((gi g1 1).int.toNat:Nat):Int),.l [],.l (gi g1 2).rows,.i (((gi g1 2).rows.length:Nat):Int),.i 0]) fun g g3=>(bif ((ab (gi g3 6).rows.length (gi g3 6).rows.length)&&true) then some [.l (gi g3 0).rows,.l (gi g3 1).rows,.l (gi g3 2).rows,.l (gi g3 3).rows,.l (gi g3 4).rows,.i (((gi g3 5).int.toNat:Nat):Int),.l (gi g3 6).rows] else none)))
def Hm:ax:=⟨22,[.s (.ptr 0 0)],[.box [.list aq,.list aQ,.list [.str],.list [.int .i64],.map 1],.map (.agg [.str,.int .i64]) (.one (.bool))],[.slot 0,.cell 0 4],[.s (.list [.str,.str])],[.box [.list aq,.list aQ,.list [.str],.list [.int .i64],.map 1],.map (.agg [.str,.int .i64]) (.one (.bool))],[.fix 0,.fix 1],[],BE⟩
theorem aep:aX P t86 Q0 f22 Hm:=fun d=>by kernel_rfl
theorem aeq:aU P Hm:=ba hm Hl func22 aeo aep
def t87:ah:=t86.cJ Hm
theorem Q1:ai P t87:=Hl.aW aeq

def xp(d:List G):Option (List G) :=
 (ao (rr [.l (gi d 0).rows,.i (gi d 1).int]) fun g1=>(bif ((gi g1 0).int != 0) then (bif ((gi g1 0).int != 0) then some [.l [],.i (gi g1 0).int] else none) else (ao (ry [.l (gi d 0).rows,.i (gi d 1).int]) fun g2=>(bif ((gi g2 6).int != 0) then some [.l [],.i (gi g2 6).int] else (ao (BE [.l (gi g2 0).rows,.l (gi g2 1).rows,.l (gi g2 2).rows,.l (gi g2 3).rows,.l (gi g2 4).rows,.i (((gi g2 5).int.toNat:Nat):Int)]) fun g3=>some [.l (gi g3 6).rows,.i 0])))))
def Hn:ax:=⟨8,[.s (.list aq),.s (.int .i64)],[],[],[.s (.list [.str,.str]),.s (.int .i64)],[],[],[],xp⟩
theorem aer:aX P t87 au f8 Hn:=fun d=>by kernel_rfl
theorem aes:aU P Hn:=ba hm Q1 func8 (aG _ _ _) aer
def t88:ah:=t87.bp Hn
theorem Ho:ai P t88:=Q1.aP aes

def Q2(d:List G):Option (Option Nat × List G) :=
 let g:=gi ((gi d 0).rows.getD (((gi d 2).int).toNat) []) 0; (bif (aB (gi d 2).int (gi d 1).int) then (bif ((bD (gi d 2).int)&&(aB (gi d 2).int (((gi d 0).rows.length:Nat):Int))) then (bif (g.int != 0) then some (some 0,[.i g.int]) else (bif (az ((gi d 2).int+1)) then some (none,[.l (gi d 0).rows,.i (gi d 1).int,.i ((gi d 2).int+1)]) else none)) else none) else some (some 1,[]))
def Q3:bx:=⟨2,[],⟨15,[(5,.s (.list [.int .i64])),(6,.s (.int .i64)),(7,.s (.int .i64))],[]⟩,[],[⟨.ret,⟨15,[(2,.s (.int .i64))],[]⟩,[]⟩,⟨.exit 0,⟨15,[],[]⟩,[]⟩],Q2⟩
theorem aet:cX P t88 au 0 (c9 f9 2) Q3:=fun d=>by kernel_rfl
def Q4:LT:=au.add 0 Q3
theorem aeu:ay P 0 Q4 (aN f9):=ay.a hm Ho (aG _ _ _) aet
def Hp(d:List G):Option (List G) :=
 (aY true (cG Q2 [.l (gi d 0).rows,.i (((gi d 0).rows.length:Nat):Int),.i 0]) fun g g1=>(bif ab g 0 then some [.i (gi g1 0).int] else some [.i 0]))
def Hq:ax:=⟨9,[.s (.list [.int .i64])],[],[],[.s (.int .i64)],[],[],[],Hp⟩
theorem aev:aX P t88 Q4 f9 Hq:=fun d=>by kernel_rfl
theorem aew:aU P Hq:=ba hm Ho func9 aeu aev
def t89:ah:=t88.bp Hq
theorem BF:ai P t89:=Ho.aP aew

def Hr(d:List G):Option (List G) :=
 (bif (eE 0 (gi d 0).rows.length) then (bif (decide ((gi d 0).rows.length≤1048576)) then (bif ((ab (gi d 0).rows.length (gi d 0).rows.length)&&true) then some [.l (gi d 0).rows] else none) else none) else none)
def xq:ax:=⟨13,[.s (.list aq)],[],[],[.s (.vec 0 15)],[.vec aq 0],[.slot 0],[],Hr⟩
theorem aex:aX P t89 au f13 xq:=fun d=>by kernel_rfl
theorem aey:aU P xq:=ba hm BF func13 (aG _ _ _) aex
def rD:ax:={ xq with args:=[.s (.zM true)],opens:=[(2,aq)],F:=fun _=>some [.l []] }
theorem aez:aX P t89 au f13 rD:=fun d=>by kernel_rfl
theorem aeA:∀ d r,rD.F d=some r→cg P 13 (rD.args0 d) (aj (rD.H0 d)) (rD.out r) (aj (rD.H1 r)):=fun d r h=>EF hm BF (sp:=rD) func13 (by kernel_rfl) (aG _ _ _) aez (by kernel_rfl) h
def rE:ax:={ xq with args:=[.s (.zM false)],opens:=[(2,aq)],F:=fun _=>some [.l []] }
theorem aeB:aX P t89 au f13 rE:=fun d=>by kernel_rfl
theorem aeC:∀ d r,rE.F d=some r→cg P 13 (rE.args0 d) (aj (rE.H0 d)) (rE.out r) (aj (rE.H1 r)):=fun d r h=>EF hm BF (sp:=rE) func13 (by kernel_rfl) (aG _ _ _) aeB (by kernel_rfl) h
def ua(d:List G):Option (List G):=bif eE 0 (gi d 0).rows.length then Hr d else some [.l []]
def ub:ax:={ xq with F:=ua }
theorem aeD:∀ d r,ua d=some r→cg P 13 (ub.args0 d) (aj (ub.H0 d)) (ub.out r) (aj (ub.H1 r)):=fun d r h=>by
 unfold ua at h;cases g:eE 0 (gi d 0).rows.length with
 |true=>rw[g]at h; exact aey d r h
 | false =>
  rw[g]at h;cases h;have e:(d.headD default).rows=[]:=by
   have:¬ 0<(gi d 0).rows.length:=fun k=>by
    have q:eE 0 (gi d 0).rows.length=true:=by rw[Nat.blt_eq]; exact k
    rw[q]at g;cases g
   exact List.eq_nil_of_length_eq_zero (Nat.eq_zero_of_not_pos this)
  have A:ub.args0 d=[.listF aq []]:=by
   rw[←e];rfl
  rw[A];exact WT (aeA d [.l []] rfl) (aeC d [.l []] rfl)
def t90:ah:=t89.cJ ub
theorem aeE:ai P t90:=BF.aW aeD

def Hs(d:List G):Option (List G) :=
 Fi d
def Q5:ax:=⟨53,[.s (.map 0)],[.map (.one (.int .i64)) (.one (.int .i64))],[.slot 0],[.s (.map 1)],[.map (.one (.int .i64)) (.one (.int .i64)),.map (.one (.int .i64)) (.one (.int .i64))],[.fix 0,.slot 0],[],Hs⟩
theorem aeF:aU P Q5:=fun d r h=>XJ Tryz.Yo (.one (.int .i64)) (.one (.int .i64)) d r h
def t91:ah:=t90.cJ Q5
theorem aeG:ai P t91:=aeE.aW aeF

def t92:ah:=t91.cy P 55 f55
theorem aeH:ai P t92:=aeG.cy hm func55 (by kernel_rfl) (by kernel_rfl)

def uc(d:List G):Option (List G) :=
 AH d
def xr:ax:=⟨94,[.s (.vec 0 1)],[.vec [.int .i64] 0],[.slot 0],[],[.vec [.int .i64] 0],[.fix 0],[],uc⟩
theorem aeI:∀ d r,uc d=some r→cg P 94 (xr.args0 d) (aj (xr.H0 d)) (xr.out r) (aj (xr.H1 r)):=fun d r h=>Xq Tryz.Ym d r h
def t93:ah:=t92.cJ xr
theorem ud:ai P t93:=aeH.aW aeI

theorem aeJ:AQ P (.one (.int .i64)) 95:=Mt ud func95 (by kernel_rfl) rfl rfl rfl ⟨_,_,_,rfl,⟨rfl,rfl,rfl⟩,⟨rfl,rfl,rfl⟩,by kernel_rfl,by kernel_rfl⟩ ⟨_,_,rfl,rfl,rfl,rfl,rfl,rfl,rfl⟩ ⟨_,_,rfl,rfl,rfl,rfl⟩ ⟨_,_,_,_,_,_,rfl,⟨rfl,rfl,rfl⟩,⟨rfl,rfl,rfl⟩⟩ (s2:=iR P t93 (.one (.int .i64)) (AT f95)) (s3:=fun l it g=>my P t93 (MA f95) (iR P t93 (.one (.int .i64)) (AT f95) l it g)) (fun l it g=>by kernel_rfl) (fun l it g=>by kernel_rfl) (fun l it g=>by kernel_rfl) (fun l it g=>by kernel_rfl) (fun l it g=>by kernel_rfl) (fun l it g=>by kernel_rfl) (fun l it g=>by kernel_rfl)
def Ht(r:List G):List G:=[.i (gi (gi r 0).row 0).int]
def kM(d:List G)(p:List (List G)):List G:=[.l (fU d),.i ((mC d:Nat):Int),.l (p.map Ht)]
def Hu(r d:List G):Option (List G) :=
 let z:=((gi d 2).rows++([[.i (gi r 0).int]]:List (List G))); bif ((ab (gi d 2).rows.length (gi d 2).rows.length)&&(decide ((gi d 2).rows.length+1≤1048576))) then (bif ((((ab z.length z.length)&&true)&&true)&&true) then some [.l (gi d 0).rows,.i (((gi d 1).int.toNat:Nat):Int),.l z] else none) else none
theorem aeK:∀ d p r,p.length<1048576→Hu (gi r 0).row (kM d p)=some (kM d (p++[r])):=fun d p r h=>by
 have h1:p.length+1≤1048576:=h;simp[Hu,kM,Ht,gi,G.rows,G.int,h1]
def BG(e:List G):Option (List G):=bif (ab (gi e 2).rows.length (gi e 2).rows.length&&true) then some [.l (gi e 0).rows,.i (((gi e 1).int.toNat:Nat):Int),.l (gi e 2).rows] else none
theorem Q6:∀ d p,BG (kM d p)=some (kM d p):=fun d p=>by simp[BG,kM,gi,G.rows,G.int]
def Hv:ax:=⟨129,[.s .nil,.clo 95 [.ptr 0 0]],[.box [.map 1],.map (.one (.int .i64)) (.one (.int .i64))],[.cap 1 0,.cell 0 0],[.s (.vec 2 1)],[.box [.map 1],.map (.one (.int .i64)) (.one (.int .i64)),.vec [.int .i64] 0],[.fix 0,.fix 1,.slot 0],[],fun _=>none⟩
theorem aeL:∀ d,jQ d=true→gp P Hv d (fun p=>p.Perm (fU d)) (kM d):=fun d aL=>MB (V:=(.one (.int .i64))) (sp:=Hv) (fn:=f129) (L0:=au.iy [(1,[.eZ 2 0 [.int .i64]])]) hm ud aeJ (fun _ _=>qS _) func129 (by kernel_rfl) (by kernel_rfl) (r0:=Mv f129) (r1:=Mw f129) (assign:=Mx f129) (body:=My f129) (rest:=Mz f129) (b:=0) (g:=6) (p0:=7) (by kernel_rfl) (by kernel_rfl) (inv:=⟨13,[(2,.s (.ptr 2 0))],[.box [.map 1],.map (.one (.int .i64)) (.one (.int .i64)),.box [.vec 3 1],.vec [.int .i64] 0]⟩) (ps:=[.fix 0,.fix 1,.fix 2,.cell 2 0]) (psr:=[.fix 0,.fix 1,.fix 2,.cell 2 0]) (pre:=Mu P t93 (au.iy [(1,[.eZ 2 0 [.int .i64]])]) f129 Hv) (D:=kM) (st:=Hu) (tl:=BG) (R:=kM) (fun d=>by kernel_rfl) (fun d=>by kernel_rfl) (fun d=>by kernel_rfl) (fun d=>by kernel_rfl) (fun d=>by kernel_rfl) (fun d=>by kernel_rfl) (fun d p=>by kernel_rfl) (fun r d=>by kernel_rfl) aeK (fun d=>by kernel_rfl) Q6 aL
def Q7:ax:=⟨93,[.clo 95 [.ptr 0 0]],[.box [.map 1],.map (.one (.int .i64)) (.one (.int .i64))],[.cap 0 0,.cell 0 0],[.s (.vec 2 1)],[.box [.map 1],.map (.one (.int .i64)) (.one (.int .i64)),.vec [.int .i64] 0],[.fix 0,.fix 1,.slot 0],[],fun _=>none⟩
theorem aeM:∀ d,jQ d=true→gp P Q7 d (fun p=>p.Perm (fU d)) (kM d):=MD hm ud func93 (by kernel_rfl) aeL (by kernel_rfl) rfl (l1:=[_]) (l2:=[_]) rfl rfl rfl (s1:=AS P t93 f93 Q7) (fun d=>by kernel_rfl) (fun d=>by kernel_rfl) (fun d=>by kernel_rfl) (tl:=BG) (fun d e=>by kernel_rfl) Q6
def Hw(e:List G):Option (List G):=gI ((ab (gi e 2).rows.length (gi e 2).rows.length&&true)&&(uc [.l (gi e 2).rows]).isSome) (uc [.l (gi e 2).rows]) fun g=>bif (ab (gi e 2).rows.length (gi g 0).rows.length&&true) then some [.l (gi e 0).rows,.i (((gi e 1).int.toNat:Nat):Int),.l (gi g 0).rows] else none
def BH(d:List G):Option (List G):=tz kM Hw d
def Hx:ax:=⟨54,[.clo 95 [.ptr 0 0]],[.box [.map 1],.map (.one (.int .i64)) (.one (.int .i64))],[.cap 0 0,.cell 0 0],[.s (.vec 2 1)],[.box [.map 1],.map (.one (.int .i64)) (.one (.int .i64)),.vec [.int .i64] 0],[.fix 0,.fix 1,.slot 0],[],BH⟩
theorem aeN:aU P Hx:=MC hm ud ud func54 (by kernel_rfl) aeM (by kernel_rfl) rfl (l1:=[_]) (l2:=[_]) rfl rfl rfl (s1:=AS P t93 f54 Hx) (fun d=>by kernel_rfl) (fun d=>by kernel_rfl) (fun d=>by kernel_rfl) (tl:=Hw) (fun d e=>by kernel_rfl) (fun _=>rfl)
def t94:ah:=t93.cJ Hx
theorem aeO:ai P t94:=ud.aW aeN

def t95:ah:=t94.cy P 97 f97
theorem aeP:ai P t95:=aeO.cy hm func97 (by kernel_rfl) (by kernel_rfl)

attribute [instance] TC
theorem aeQ:ai P t95:=aeP.lG
def mO(d:List G):Option (List G) :=
 wL d
def xu:ax:=⟨52,[.s (.td [.str]),.s (.str)],[],[],[.s (.str)],[],[],[],mO⟩
theorem aeR:∀ d r,mO d=some r→cg P 52 (xu.args0 d) (aj (xu.H0 d)) (xu.out r) (aj (xu.H1 r)):=fun d r h=>XL rfl Tryz.Ye Tryz.Ys d r h
def t96:ah:=t95.cJ xu
theorem Hy:ai P t96:=aeQ.aW aeR

def BI(d:List G):Option (Option Nat × List G) :=
 let g:=ab (gi d 0).rows.length (gi d 0).rows.length; (bif (aB (gi d 3).int (gi d 2).int) then (bif ((bD (gi d 3).int)&&(aB (gi d 3).int (((gi d 1).rows.length:Nat):Int))) then (ao (pH [.i (gi ((gi d 1).rows.getD (((gi d 3).int).toNat) []) 0).int]) fun g1=>let z2:=((gi d 0).rows++([[.s (gi g1 0).str]]:List (List G))); (bif (g&&(decide (((gi d 0).rows.length+1)≤1048576))) then (bif (az ((gi d 3).int+1)) then (bif ((ab z2.length z2.length)&&true) then some (none,[.l z2,.l (gi d 1).rows,.i (gi d 2).int,.i ((gi d 3).int+1)]) else none) else none) else none)) else none) else (bif (g&&true) then some (some 0,[.l (gi d 0).rows]) else none))
def Q8:bx:=⟨3,[(3,[.str])],⟨20,[(3,.s (.vec 0 1)),(6,.s (.list [.int .i64])),(7,.s (.int .i64)),(8,.s (.int .i64))],[.vec [.str] 0]⟩,[.slot 3],[⟨.exit 0,⟨20,[(3,.s (.vec 0 1))],[.vec [.str] 0]⟩,[.slot 3]⟩],BI⟩
theorem aeS:cX P t96 au 0 (c9 f24 3) Q8:=fun d=>by kernel_rfl
def Q9:LT:=au.add 0 Q8
theorem aeT:ay P 0 Q9 (aN f24):=ay.a hm Hy (aG _ _ _) aeS
def BJ(d:List G):Option (List G) :=
 (aY true (cG BI [.l [],.l (gi d 0).rows,.i (((gi d 0).rows.length:Nat):Int),.i 0]) fun k g2=>let g:=(mO [.l ((gi g2 0).rows.take ((gi g2 0).rows.length)),.s (⟨#[32]⟩:ByteArray)]); (gI (((Nat.ble (gi g2 0).rows.length (gi g2 0).rows.length)&&true)&&g.isSome) g fun g3=>some [.s (gi g3 0).str]))
def Hz:ax:=⟨24,[.s (.list [.int .i64])],[],[],[.s (.str)],[],[],[],BJ⟩
theorem aeU:aX P t96 Q9 f24 Hz:=fun d=>by kernel_rfl
theorem aeV:aU P Hz:=ba hm Hy func24 aeT aeU
def t97:ah:=t96.bp Hz
theorem Q_:ai P t97:=Hy.aP aeV

def xv(d:List G):Option (List G) :=
 (ao (BJ [.l [[.i (gi d 0).int]]]) fun g1=>some [.s (gi g1 0).str])
def HA:ax:=⟨12,[.s (.int .i64)],[],[],[.s (.str)],[],[],[],xv⟩
theorem aeW:aX P t97 au f12 HA:=fun d=>by kernel_rfl
theorem aeX:aU P HA:=ba hm Q_ func12 (aG _ _ _) aeW
def t98:ah:=t97.bp HA
theorem Ra:ai P t98:=Q_.aP aeX

def BK(d:List G):Option (List G) :=
 (ao (xv [.i (gi (gi d 1).row 0).int]) fun g1=>some [.t ((gi (gi d 0).row 1).str.toList==(gi g1 0).str.toList)])
def HB:ax:=⟨11,[.s (.row [.str,.str]),.s (.cptr [.int .i64])],[],[],[.s (.bool)],[],[],[],BK⟩
theorem aeY:aX P t98 au f11 HB:=fun d=>by kernel_rfl
theorem aeZ:aU P HB:=ba hm Ra func11 (aG _ _ _) aeY
def t99:ah:=t98.bp HB
theorem HC:ai P t99:=Ra.aP aeZ

def BL(d:List G):Option (Option Nat × List G) :=
 (bif (aB (gi d 3).int (gi d 2).int) then (bif ((bD (gi d 3).int)&&(aB (gi d 3).int (((gi d 0).rows.length:Nat):Int))) then (ao (BK [.l [(bh [.str,.str] ((gi d 0).rows.getD (((gi d 3).int).toNat) []))],.l [[.i (gi (gi d 1).row 0).int]]]) fun g1=>(bif (gi g1 0).bool then some (some 0,[.i (gi d 3).int]) else (bif (az ((gi d 3).int+1)) then some (none,[.l (gi d 0).rows,.l [[.i (gi (gi d 1).row 0).int]],.i (gi d 2).int,.i ((gi d 3).int+1)]) else none))) else none) else some (some 1,[]))
def Rb:bx:=⟨2,[],⟨19,[(0,.s (.list [.str,.str])),(1,.clo 11 [.cptr [.int .i64]]),(7,.s (.int .i64)),(8,.s (.int .i64))],[]⟩,[],[⟨.ret,⟨19,[(4,.s (.int .i64))],[]⟩,[]⟩,⟨.exit 0,⟨19,[],[]⟩,[]⟩],BL⟩
theorem ae0:cX P t99 au 0 (c9 f23 2) Rb:=fun d=>by kernel_rfl
def Rc:LT:=au.add 0 Rb
theorem ae1:ay P 0 Rc (aN f23):=ay.a hm HC (aG _ _ _) ae0
def BM(d:List G):Option (List G) :=
 (aY true (cG BL [.l (gi d 0).rows,.l [[.i (gi (gi d 1).row 0).int]],.i (((gi d 0).rows.length:Nat):Int),.i 0]) fun g g2=>(bif ab g 0 then some [.i (gi g2 0).int] else some [.i (-1)]))
def HD:ax:=⟨23,[.s (.list [.str,.str]),.clo 11 [.cptr [.int .i64]]],[],[],[.s (.int .i64)],[],[],[],BM⟩
theorem ae2:aX P t99 Rc f23 HD:=fun d=>by kernel_rfl
theorem ae3:aU P HD:=ba hm HC func23 ae1 ae2
def t100:ah:=t99.bp HD
theorem Re:ai P t100:=HC.aP ae3

def BN(d:List G):Option (List G) :=
 (ao (BM [.l (gi d 0).rows,.l [[.i (gi (gi d 1).row 0).int]]]) fun g1=>some [.t (bM 0 (gi g1 0).int)])
def HF:ax:=⟨10,[.s (.list [.str,.str]),.clo 11 [.cptr [.int .i64]]],[],[],[.s (.bool)],[],[],[],BN⟩
theorem ae4:aX P t100 au f10 HF:=fun d=>by kernel_rfl
theorem ae5:aU P HF:=ba hm Re func10 (aG _ _ _) ae4
def t101:ah:=t100.bp HF
theorem ae6:ai P t101:=Re.aP ae5

def xw(d:List G):Option (List G) :=
 AG d
def xy:ax:=⟨96,[.clo 133 [.ptr 0 0]],[.box [.map 1],.map (.one (.str)) (.one (.bool))],[.cap 0 0,.cell 0 0],[.s (.list [.str])],[.box [.map 1],.map (.one (.str)) (.one (.bool))],[.fix 0,.fix 1],[],xw⟩
theorem ae7:∀ d r,xw d=some r→cg P 96 (xy.args0 d) (aj (xy.H0 d)) (xy.out r) (aj (xy.H1 r)):=fun d r h=>Xp (ρ:=Tryz.M3) (ρ':=Tryz.M2) rfl Tryz.Yq { Tryz.Yp with } (fun m=>⟨fun wG off cap ss W hH hblk g=>callsIn_wide.2 (Proofs.AnyM.slices_Sort_string Tryz.M4 wG off cap ss W hH hblk g),fun p cap W=>callsIn_wide.2 (Proofs.AnyM.slices_Sort_string_none Tryz.M4 p cap W)⟩) (by kernel_rfl) (by kernel_rfl) (.one (.bool)) d r h
def t102:ah:=t101.cJ xy
theorem BO:ai P t102:=ae6.aW ae7

def xz(d:List G):Option (Option Nat × List G) :=
 let g:=(((gi d 5).int.toNat:Nat):Int); let z2:=gi ((gi d 2).rows.getD (((gi d 11).int).toNat) []) 0; let z3:=(gi d 11).int+1; let z4:=(((gi d 7).int.toNat:Nat):Int); (bif (aB (gi d 11).int (gi d 10).int) then (bif ((bD (gi d 11).int)&&(aB (gi d 11).int (((gi d 9).rows.length:Nat):Int))) then (bif ((gi ((gi d 9).rows.getD (((gi d 11).int).toNat) []) 4).int==(gi d 8).int) then (bif ((bD (gi d 11).int)&&(aB (gi d 11).int (((gi d 2).rows.length:Nat):Int))) then (bif (az z3) then some (none,[.l (gi d 0).rows,.l (gi d 1).rows,.l (gi d 2).rows,.l (gi d 3).rows,.l (gi d 4).rows,.i g,.l (cu [.str] (gi d 6).rows [.s z2.str] [.t true] (gi d 7).int.toNat),.i (((dF [.str] (gi d 6).rows [.s z2.str] (gi d 7).int.toNat):Nat):Int),.i (gi d 8).int,.l (gi d 9).rows,.i (gi d 10).int,.i z3]) else none) else none) else (bif (az z3) then some (none,[.l (gi d 0).rows,.l (gi d 1).rows,.l (gi d 2).rows,.l (gi d 3).rows,.l (gi d 4).rows,.i g,.l (gi d 6).rows,.i z4,.i (gi d 8).int,.l (gi d 9).rows,.i (gi d 10).int,.i z3]) else none)) else none) else some (some 0,[.l (gi d 0).rows,.l (gi d 1).rows,.l (gi d 2).rows,.l (gi d 3).rows,.l (gi d 4).rows,.i g,.l (gi d 6).rows,.i z4]))
def Rf:bx:=⟨8,[],⟨52,[(0,.s (.ptr 0 0)),(1,.s (.int .i64)),(5,.s (.map 2)),(29,.s (.list aQ)),(30,.s (.int .i64)),(31,.s (.int .i64))],[.box [.list aq,.list aQ,.list [.str],.list [.int .i64],.map 1],.map (.agg [.str,.int .i64]) (.one (.bool)),.map (.one (.str)) (.one (.bool))]⟩,[.fix 0,.cell 0 4,.slot 5],[⟨.exit 2,⟨52,[(5,.s (.map 2))],[.box [.list aq,.list aQ,.list [.str],.list [.int .i64],.map 1],.map (.agg [.str,.int .i64]) (.one (.bool)),.map (.one (.str)) (.one (.bool))]⟩,[.fix 0,.cell 0 4,.slot 5]⟩],xz⟩
theorem ae8:cX P t102 au 2 (c9 f56 8) Rf:=fun d=>by kernel_rfl
def BP:LT:=au.add 2 Rf
theorem ae9:ay P 2 BP (aN f56):=ay.a hm BO (aG _ _ _) ae8
def rF(r d:List G):Option (List G) :=
 let g:=(((gi d 5).int.toNat:Nat):Int); let z2:=(((gi d 9).int.toNat:Nat):Int); (bif ((gi (gi r 0).row 1).int==(gi d 8).int) then some [.l (gi d 0).rows,.l (gi d 1).rows,.l (gi d 2).rows,.l (gi d 3).rows,.l (gi d 4).rows,.i g,.l (cu [.str] (gi d 6).rows [.s (gi (gi r 0).row 0).str] [.t true] (gi d 7).int.toNat),.i (((dF [.str] (gi d 6).rows [.s (gi (gi r 0).row 0).str] (gi d 7).int.toNat):Nat):Int),.i (gi d 8).int,.i z2] else some [.l (gi d 0).rows,.l (gi d 1).rows,.l (gi d 2).rows,.l (gi d 3).rows,.l (gi d 4).rows,.i g,.l (gi d 6).rows,.i (((gi d 7).int.toNat:Nat):Int),.i (gi d 8).int,.i z2])
def ae_(d:List G)(b:Nat):List G:=[.l (gi d 0).rows,.l (gi d 1).rows,.l (gi d 2).rows,.l (gi d 3).rows,.l (gi d 4).rows,.i (((gi d 5).int.toNat:Nat):Int),.l (gi d 6).rows,.i (((gi d 7).int.toNat:Nat):Int),.i (gi d 8).int,.i (b:Int)]
def ae'(d:List G)(b:Nat):Bool:=true
def rG:eB:=⟨⟨52,[(0,.s (.ptr 0 0)),(1,.s (.int .i64)),(5,.s (.map 2)),(14,.s (.addr))],[.box [.list aq,.list aQ,.list [.str],.list [.int .i64],.map 1],.map (.agg [.str,.int .i64]) (.one (.bool)),.map (.one (.str)) (.one (.bool))]⟩,[.fix 0,.cell 0 4,.slot 5],[],(.agg [.str,.int .i64]),(.one (.bool)),1,0,13,14,15,16,17,fun d=>(gi d 9).int.toNat,ae_,ae',rF⟩
theorem afa:lE P t102 BP 2 rG (pA (cutAt f56 2)) (qU (cutAt f56 2)):=fun r d=>by kernel_rfl
def BQ(d:List G):Option (Option Nat × List G) :=
 (aY true (cG xz [.l (gi d 0).rows,.l (gi d 1).rows,.l (gi d 2).rows,.l (gi d 3).rows,.l (gi d 4).rows,.i (((gi d 5).int.toNat:Nat):Int),.l (gi d 6).rows,.i (((gi d 7).int.toNat:Nat):Int),.i (gi d 8).int,.l (gi d 1).rows,.i (((gi d 1).rows.length:Nat):Int),.i 0]) fun g g1=>(ao (xw [.l (gi g1 6).rows,.i (((gi g1 7).int.toNat:Nat):Int)]) fun g2=>some (some 0,[.l (gi g1 0).rows,.l (gi g1 1).rows,.l (gi g1 2).rows,.l (gi g1 3).rows,.l (gi g1 4).rows,.i (((gi g1 5).int.toNat:Nat):Int),.l (gi g2 2).rows])))
def Rg:bx:=⟨7,[],⟨52,[(0,.s (.ptr 0 0)),(1,.s (.int .i64)),(5,.s (.map 2)),(14,.s (.addr))],[.box [.list aq,.list aQ,.list [.str],.list [.int .i64],.map 1],.map (.agg [.str,.int .i64]) (.one (.bool)),.map (.one (.str)) (.one (.bool))]⟩,[],[⟨.ret,⟨52,[(4,.s (.list [.str]))],[.box [.list aq,.list aQ,.list [.str],.list [.int .i64],.map 1],.map (.agg [.str,.int .i64]) (.one (.bool))]⟩,[.fix 0,.cell 0 4]⟩],BQ⟩
theorem afb:gl P t102 BP 2 (nC (cutAt f56 2)) Rg:=fun d=>by kernel_rfl
def HG(d:List G):Option (Option Nat × List G) :=
 kF rG BQ (gi d 4).rows ((gi d 5).int.toNat) d
def HI:bx:=⟨2,[],⟨52,[(0,.s (.ptr 0 0)),(1,.s (.int .i64)),(5,.s (.map 2))],[.box [.list aq,.list aQ,.list [.str],.list [.int .i64],.map 1],.map (.agg [.str,.int .i64]) (.one (.bool)),.map (.one (.str)) (.one (.bool))]⟩,[.fix 0,.cell 0 4,.slot 5],[⟨.ret,⟨52,[(4,.s (.list [.str]))],[.box [.list aq,.list aQ,.list [.str],.list [.int .i64],.map 1],.map (.agg [.str,.int .i64]) (.one (.bool))]⟩,[.fix 0,.cell 0 4]⟩],HG⟩
def Rh:LT:=BP.fI 2 HI
theorem afc:∀ r d d',rF r d=some d'→(gi d' 4).rows=(gi d 4).rows∧(gi d' 5).int.toNat=(gi d 5).int.toNat:=by
 intro r d d' h;unfold rF at h;simp only[I6]at h
 repeat' split at h
 all_goals first|(cases h; done)|(cases h; exact⟨rfl,rfl⟩)
theorem afd:ay P 2 Rh (aN f56):=ay.E9 (q:=HI) (qr:=Rg) (sp:=rG) (r0:=2) (b0:=0) (r1:=3) (b1:=1) (r2:=4) (rows:=fun d=>(gi d 4).rows) (clock:=fun d=>(gi d 5).int.toNat) (pre:=fun d=>Aw P t102 (nD (cutAt f56 2)) (aM HI.inv d)) (ri:=fun d=>(gi d 4).rows) (ci:=fun d=>(gi d 5).int.toNat) hm BO (fun d=>by kernel_rfl) afc (by kernel_rfl) (by kernel_rfl) ae9 (by kernel_rfl) (by kernel_rfl) afa (fun d=>by kernel_rfl) (fun d=>by kernel_rfl) (fun d=>by kernel_rfl) (fun d=>by kernel_rfl) (fun d=>by kernel_rfl) (fun d=>by kernel_rfl) (fun d b=>by kernel_rfl) (fun d b=>rfl) (fun d b=>⟨rfl,rfl⟩) rfl rfl afb (fun d=>rfl)
def BR(d:List G):Option (List G) :=
 (aY true (cY (HG [.l (gi d 0).rows,.l (gi d 1).rows,.l (gi d 2).rows,.l (gi d 3).rows,.l (gi d 4).rows,.i (((gi d 5).int.toNat:Nat):Int),.l [],.i 0,.i (gi d 6).int])) fun g g3=>some [.l (gi g3 0).rows,.l (gi g3 1).rows,.l (gi g3 2).rows,.l (gi g3 3).rows,.l (gi g3 4).rows,.i (((gi g3 5).int.toNat:Nat):Int),.l (gi g3 6).rows])
def HJ:ax:=⟨56,[.s (.ptr 0 0),.s (.int .i64)],[.box [.list aq,.list aQ,.list [.str],.list [.int .i64],.map 1],.map (.agg [.str,.int .i64]) (.one (.bool))],[.slot 0,.cell 0 4],[.s (.list [.str])],[.box [.list aq,.list aQ,.list [.str],.list [.int .i64],.map 1],.map (.agg [.str,.int .i64]) (.one (.bool))],[.fix 0,.fix 1],[],BR⟩
theorem afe:aX P t102 Rh f56 HJ:=fun d=>by kernel_rfl
theorem aff:aU P HJ:=ba hm BO func56 afd afe
def t103:ah:=t102.cJ HJ
theorem xA:ai P t103:=BO.aW aff

def xB(d:List G):Option (Option Nat × List G) :=
 let k:=gi ((gi d 13).rows.getD (0+((gi d 15).int).toNat) []) 0; let z2:=ab (gi d 12).rows.length (gi d 12).rows.length; let z3:=(((gi d 5).int.toNat:Nat):Int); let z4:=(((gi d 7).int.toNat:Nat):Int); let z5:=(((gi d 9).int.toNat:Nat):Int); let q:=(ab (gi d 13).rows.length (gi d 13).rows.length)&&true; let g:=(gi d 15).int+1; let A:=(((gi d 11).int.toNat:Nat):Int); (bif (aB (gi d 15).int (gi d 14).int) then (bif ((bD (gi d 15).int)&&(aB (gi d 15).int (((gi d 13).rows.length:Nat):Int))) then (bif (decide ((0+((gi d 15).int).toNat)<(gi d 13).rows.length)) then (bif (aB 1 (gi (ch [.int .i64] (gi d 10).rows [.i k.int] [.i 0]) 0).int) then (ao (pH [.i k.int]) fun g5=>(ao (BR [.l (gi d 0).rows,.l (gi d 1).rows,.l (gi d 2).rows,.l (gi d 3).rows,.l (gi d 4).rows,.i z3,.i k.int]) fun g6=>(ao (mO [.l (gi g6 6).rows,.s (⟨#[32]⟩:ByteArray)]) fun g7=>let z9:=((gi d 12).rows++([[.s (gi g5 0).str,.s (gi g7 0).str]]:List (List G))); (bif (z2&&(decide (((gi d 12).rows.length+1)≤1048576))) then (bif (az g) then (bif ((ab z9.length z9.length)&&q) then some (none,[.l (gi g6 0).rows,.l (gi g6 1).rows,.l (gi g6 2).rows,.l (gi g6 3).rows,.l (gi g6 4).rows,.i (((gi g6 5).int.toNat:Nat):Int),.l (gi d 6).rows,.i z4,.l (gi d 8).rows,.i z5,.l (gi d 10).rows,.i A,.l z9,.l (gi d 13).rows,.i (gi d 14).int,.i g]) else none) else none) else none)))) else (bif (az g) then (bif (z2&&q) then some (none,[.l (gi d 0).rows,.l (gi d 1).rows,.l (gi d 2).rows,.l (gi d 3).rows,.l (gi d 4).rows,.i z3,.l (gi d 6).rows,.i z4,.l (gi d 8).rows,.i z5,.l (gi d 10).rows,.i A,.l (gi d 12).rows,.l (gi d 13).rows,.i (gi d 14).int,.i g]) else none) else none)) else none) else none) else (bif (z2&&true) then some (some 0,[.l (gi d 0).rows,.l (gi d 1).rows,.l (gi d 2).rows,.l (gi d 3).rows,.l (gi d 4).rows,.i z3,.l (gi d 6).rows,.i z4,.l (gi d 8).rows,.i z5,.l (gi d 12).rows]) else none))
def Ri:bx:=⟨9,[(7,[.str,.str])],⟨53,[(0,.s (.ptr 0 0)),(5,.s (.map 4)),(7,.s (.vec 5 2)),(31,.s (.vec 6 1)),(32,.s (.int .i64)),(33,.s (.int .i64))],[.box [.list aq,.list aQ,.list [.str],.list [.int .i64],.map 1],.map (.agg [.str,.int .i64]) (.one (.bool)),.map (.one (.int .i64)) (.one (.int .i64)),.map (.one (.int .i64)) (.one (.int .i64)),.map (.one (.int .i64)) (.one (.int .i64)),.vec [.str,.str] 0,.vec [.int .i64] 0]⟩,[.fix 0,.cell 0 4,.fix 2,.fix 3,.slot 5,.slot 7,.slot 31],[⟨.exit 2,⟨53,[(7,.s (.vec 4 2))],[.box [.list aq,.list aQ,.list [.str],.list [.int .i64],.map 1],.map (.agg [.str,.int .i64]) (.one (.bool)),.map (.one (.int .i64)) (.one (.int .i64)),.map (.one (.int .i64)) (.one (.int .i64)),.vec [.str,.str] 0]⟩,[.fix 0,.cell 0 4,.fix 2,.fix 3,.slot 7]⟩],xB⟩
theorem afg:cX P t103 au 4 (c9 f25 9) Ri:=fun d=>by kernel_rfl
def BS:LT:=au.add 4 Ri
theorem afh:ay P 4 BS (aN f25):=ay.a hm xA (aG _ _ _) afg
def rH(r d:List G):Option (List G) :=
 let g:=(gi (ch [.int .i64] (gi d 10).rows [.i (gi (gi r 0).row 0).int] [.i 0]) 0).int+(gi (ch [.int .i64] (gi d 8).rows [.i (gi (gi r 0).row 0).int] [.i 0]) 0).int; (bif (az g) then some [.l (gi d 0).rows,.l (gi d 1).rows,.l (gi d 2).rows,.l (gi d 3).rows,.l (gi d 4).rows,.i (((gi d 5).int.toNat:Nat):Int),.l (gi d 6).rows,.i (((gi d 7).int.toNat:Nat):Int),.l (gi d 8).rows,.i (((gi d 9).int.toNat:Nat):Int),.l (cu [.int .i64] (gi d 10).rows [.i (gi (gi r 0).row 0).int] [.i g] (gi d 11).int.toNat),.i (((dF [.int .i64] (gi d 10).rows [.i (gi (gi r 0).row 0).int] (gi d 11).int.toNat):Nat):Int),.i (((gi d 12).int.toNat:Nat):Int)] else none)
def afi(d:List G)(b:Nat):List G:=[.l (gi d 0).rows,.l (gi d 1).rows,.l (gi d 2).rows,.l (gi d 3).rows,.l (gi d 4).rows,.i (((gi d 5).int.toNat:Nat):Int),.l (gi d 6).rows,.i (((gi d 7).int.toNat:Nat):Int),.l (gi d 8).rows,.i (((gi d 9).int.toNat:Nat):Int),.l (gi d 10).rows,.i (((gi d 11).int.toNat:Nat):Int),.i (b:Int)]
def afj(d:List G)(b:Nat):Bool:=true
def rI:eB:=⟨⟨53,[(0,.s (.ptr 0 0)),(4,.s (.map 3)),(5,.s (.map 4)),(17,.s (.addr))],[.box [.list aq,.list aQ,.list [.str],.list [.int .i64],.map 1],.map (.agg [.str,.int .i64]) (.one (.bool)),.map (.one (.int .i64)) (.one (.int .i64)),.map (.one (.int .i64)) (.one (.int .i64)),.map (.one (.int .i64)) (.one (.int .i64))]⟩,[.fix 0,.cell 0 4,.fix 2,.fix 3,.slot 5],[],(.one (.int .i64)),(.one (.int .i64)),3,0,16,17,18,19,20,fun d=>(gi d 12).int.toNat,afi,afj,rH⟩
theorem afk:lE P t103 BS 4 rI (pA (cutAt f25 3)) (qU (cutAt f25 3)):=fun r d=>by kernel_rfl
def BT(d:List G):Option (Option Nat × List G) :=
 (ao (BH [.l (gi d 10).rows,.i (((gi d 11).int.toNat:Nat):Int)]) fun g4=>(aY ((ab (gi g4 2).rows.length (gi g4 2).rows.length)&&true) (cG xB [.l (gi d 0).rows,.l (gi d 1).rows,.l (gi d 2).rows,.l (gi d 3).rows,.l (gi d 4).rows,.i (((gi d 5).int.toNat:Nat):Int),.l (gi d 6).rows,.i (((gi d 7).int.toNat:Nat):Int),.l (gi d 8).rows,.i (((gi d 9).int.toNat:Nat):Int),.l (gi g4 0).rows,.i (((gi g4 1).int.toNat:Nat):Int),.l [],.l (gi g4 2).rows,.i (((gi g4 2).rows.length:Nat):Int),.i 0]) fun g g8=>(bif ((ab (gi g8 10).rows.length (gi g8 10).rows.length)&&true) then some (some 0,[.l (gi g8 0).rows,.l (gi g8 1).rows,.l (gi g8 2).rows,.l (gi g8 3).rows,.l (gi g8 4).rows,.i (((gi g8 5).int.toNat:Nat):Int),.l (gi g8 6).rows,.i (((gi g8 7).int.toNat:Nat):Int),.l (gi g8 8).rows,.i (((gi g8 9).int.toNat:Nat):Int),.l (gi g8 10).rows]) else none)))
def Rj:bx:=⟨7,[],⟨53,[(0,.s (.ptr 0 0)),(4,.s (.map 3)),(5,.s (.map 4)),(17,.s (.addr))],[.box [.list aq,.list aQ,.list [.str],.list [.int .i64],.map 1],.map (.agg [.str,.int .i64]) (.one (.bool)),.map (.one (.int .i64)) (.one (.int .i64)),.map (.one (.int .i64)) (.one (.int .i64)),.map (.one (.int .i64)) (.one (.int .i64))]⟩,[],[⟨.ret,⟨53,[(2,.s (.vec 4 2))],[.box [.list aq,.list aQ,.list [.str],.list [.int .i64],.map 1],.map (.agg [.str,.int .i64]) (.one (.bool)),.map (.one (.int .i64)) (.one (.int .i64)),.map (.one (.int .i64)) (.one (.int .i64)),.vec [.str,.str] 0]⟩,[.fix 0,.cell 0 4,.fix 2,.fix 3,.slot 2]⟩],BT⟩
theorem afl:gl P t103 BS 4 (nC (cutAt f25 3)) Rj:=fun d=>by kernel_rfl
def HK(d:List G):Option (Option Nat × List G) :=
 kF rI BT (gi d 8).rows ((gi d 9).int.toNat) d
def HL:bx:=⟨3,[],⟨53,[(0,.s (.ptr 0 0)),(4,.s (.map 3)),(5,.s (.map 4))],[.box [.list aq,.list aQ,.list [.str],.list [.int .i64],.map 1],.map (.agg [.str,.int .i64]) (.one (.bool)),.map (.one (.int .i64)) (.one (.int .i64)),.map (.one (.int .i64)) (.one (.int .i64)),.map (.one (.int .i64)) (.one (.int .i64))]⟩,[.fix 0,.cell 0 4,.fix 2,.fix 3,.slot 5],[⟨.ret,⟨53,[(2,.s (.vec 4 2))],[.box [.list aq,.list aQ,.list [.str],.list [.int .i64],.map 1],.map (.agg [.str,.int .i64]) (.one (.bool)),.map (.one (.int .i64)) (.one (.int .i64)),.map (.one (.int .i64)) (.one (.int .i64)),.vec [.str,.str] 0]⟩,[.fix 0,.cell 0 4,.fix 2,.fix 3,.slot 2]⟩],HK⟩
def Rk:LT:=BS.fI 4 HL
theorem afm:∀ r d d',rH r d=some d'→(gi d' 8).rows=(gi d 8).rows∧(gi d' 9).int.toNat=(gi d 9).int.toNat:=by
 intro r d d' h;unfold rH at h;simp only[I6]at h
 repeat' split at h
 all_goals first|(cases h; done)|(cases h; exact⟨rfl,rfl⟩)
theorem afn:ay P 4 Rk (aN f25):=ay.E9 (q:=HL) (qr:=Rj) (sp:=rI) (r0:=3) (b0:=0) (r1:=4) (b1:=1) (r2:=5) (rows:=fun d=>(gi d 8).rows) (clock:=fun d=>(gi d 9).int.toNat) (pre:=fun d=>Aw P t103 (nD (cutAt f25 3)) (aM HL.inv d)) (ri:=fun d=>(gi d 8).rows) (ci:=fun d=>(gi d 9).int.toNat) hm xA (fun d=>by kernel_rfl) afm (by kernel_rfl) (by kernel_rfl) afh (by kernel_rfl) (by kernel_rfl) afk (fun d=>by kernel_rfl) (fun d=>by kernel_rfl) (fun d=>by kernel_rfl) (fun d=>by kernel_rfl) (fun d=>by kernel_rfl) (fun d=>by kernel_rfl) (fun d b=>by kernel_rfl) (fun d b=>rfl) (fun d b=>⟨rfl,rfl⟩) rfl rfl afl (fun d=>rfl)
def HM(d:List G):List G:=[.l (gi d 0).rows,.l (gi d 1).rows,.l (gi d 2).rows,.l (gi d 3).rows,.l (gi d 4).rows,.i (((gi d 5).int.toNat:Nat):Int)]
def BU(d g1:List G):List G:=[.l (gi g1 0).rows,.l (gi g1 1).rows,.l (gi g1 2).rows,.l (gi g1 3).rows,.l (gi g1 4).rows,.i (((gi g1 5).int.toNat:Nat):Int)]
def BV(d g1 g2:List G):Option (List G) :=
 (ao (Hs [.l (gi g1 6).rows,.i (((gi g1 7).int.toNat:Nat):Int)]) fun g3=>(aY true (cY (HK [.l (gi g2 0).rows,.l (gi g2 1).rows,.l (gi g2 2).rows,.l (gi g2 3).rows,.l (gi g2 4).rows,.i (((gi g2 5).int.toNat:Nat):Int),.l (gi g3 0).rows,.i (((gi g3 1).int.toNat:Nat):Int),.l (gi g2 6).rows,.i (((gi g2 7).int.toNat:Nat):Int),.l (gi g3 2).rows,.i (((gi g3 3).int.toNat:Nat):Int)])) fun g g9=>(bif ((ab (gi g9 10).rows.length (gi g9 10).rows.length)&&true) then some [.l (gi g9 0).rows,.l (gi g9 1).rows,.l (gi g9 2).rows,.l (gi g9 3).rows,.l (gi g9 4).rows,.i (((gi g9 5).int.toNat:Nat):Int),.l (gi g9 10).rows] else none)))
def ue(d:List G):Option (List G):=ao (nO (HM d)) fun g1=>tD rA nP ((gi (jS (BU d g1)) 4).rows) ((gi (jS (BU d g1)) 5).int.toNat) (jS (BU d g1)) fun g2=>BV d g1 g2
def rJ:ax:=⟨25,[.s (.ptr 0 0)],[.box [.list aq,.list aQ,.list [.str],.list [.int .i64],.map 1],.map (.agg [.str,.int .i64]) (.one (.bool))],[.slot 0,.cell 0 4],[.s (.list [.str,.str])],[.box [.list aq,.list aQ,.list [.str],.list [.int .i64],.map 1],.map (.agg [.str,.int .i64]) (.one (.bool))],[.fix 0,.fix 1],[],ue⟩
def lO(d g1:List G):al:=sL P (t103.cJ { xk with F:=fun _=>some g1 }) f25 rJ 3 d
theorem afo:∀ d,(bQ P t103 au (tC f25) ⟨dY (rJ.args0 d) (f25).ntmps,rJ.H0 d⟩ fun x s=>match x with | .normal=>ef P t103 (g_ f25) ((g_ f25).toList.take 3) s fun s=>.done .normal s|_=>.fail).leaf tA=ao (nO (HM d)) fun g1=>some (lO d g1):=fun d=>by kernel_rfl
theorem afp:∀ d g1 e,(ef P t103 (g_ f25) ((g_ f25).toList.drop 4) ⟨(lO d g1).fr.set 13 (iB mN (pE f25 3 (lO d g1)) (lO d g1).H e).1,(iB mN (pE f25 3 (lO d g1)) (lO d g1).H e).2⟩ fun s=>bQ P t103 Rk (AU f25) s .done).leaf (eY P (f25).results.toList rJ)=BV d g1 e:=fun d g1 e=>by kernel_rfl
theorem afq:∀ d g1,eU (lO d g1).den.eval (wK f25 3).op=some (mN.f,(pE f25 3 (lO d g1))):=fun d g1=>by kernel_rfl
theorem afr:∀ d g1,wJ mN (pE f25 3 (lO d g1)) (lO d g1).H=some (true,BU d g1):=fun d g1=>by kernel_rfl
theorem afs:aU P rJ:=fun d r h=>by
 have h:ue d=some r:=h;unfold ue at h;obtain⟨g1,k,h⟩:=MF h;obtain⟨aL,g,hk⟩:=MH h;exact MG (sp:=rJ) hm xA xA func25 (by kernel_rfl) (ff.lG (QQ _ aL g)) (by kernel_rfl) (by kernel_rfl) (r0:=tC f25) (id:=1) (ops:=g_ f25) (rest:=AU f25) (by kernel_rfl) (afn.mono (by kernel_rfl)) (l1:=(g_ f25).toList.take 3) (oc:=wK f25 3) (l2:=(g_ f25).toList.drop 4) (by kernel_rfl) (by kernel_rfl) (t:=13) (by kernel_rfl) (S1:=lO d g1) ((afo d).trans (by rw[k]; rfl)) (afq d g1) (afr d g1) (tl:=BV d g1) (afp d g1) hk
def t104:ah:=t103.cJ rJ
theorem Rl:ai P t104:=xA.aW afs

def xC(d:List G):Option (List G) :=
 (ao (rr [.l (gi d 0).rows,.i (gi d 1).int]) fun g1=>(bif ((gi g1 0).int != 0) then (bif ((gi g1 0).int != 0) then some [.l [],.i (gi g1 0).int] else none) else (ao (ry [.l (gi d 0).rows,.i (gi d 1).int]) fun g2=>(bif ((gi g2 6).int != 0) then some [.l [],.i (gi g2 6).int] else (ao (ue [.l (gi g2 0).rows,.l (gi g2 1).rows,.l (gi g2 2).rows,.l (gi g2 3).rows,.l (gi g2 4).rows,.i (((gi g2 5).int.toNat:Nat):Int)]) fun g3=>some [.l (gi g3 6).rows,.i 0])))))
def HN:ax:=⟨14,[.s (.list aq),.s (.int .i64)],[],[],[.s (.list [.str,.str]),.s (.int .i64)],[],[],[],xC⟩
theorem aft:aX P t104 au f14 HN:=fun d=>by kernel_rfl
theorem afu:aU P HN:=ba hm Rl func14 (aG _ _ _) aft
def t105:ah:=t104.bp HN
theorem Rm:ai P t105:=Rl.aP afu

def BW(d:List G):Option (List G) :=
 (ao (xv [.i (gi (gi d 1).row 0).int]) fun g1=>some [.t ((gi (gi d 0).row 0).str.toList==(gi g1 0).str.toList)])
def HO:ax:=⟨15,[.s (.row [.str,.str]),.s (.cptr [.int .i64])],[],[],[.s (.bool)],[],[],[],BW⟩
theorem afv:aX P t105 au f15 HO:=fun d=>by kernel_rfl
theorem afw:aU P HO:=ba hm Rm func15 (aG _ _ _) afv
def t106:ah:=t105.bp HO
theorem HP:ai P t106:=Rm.aP afw

def BX(d:List G):Option (Option Nat × List G) :=
 (bif (aB (gi d 3).int (gi d 2).int) then (bif ((bD (gi d 3).int)&&(aB (gi d 3).int (((gi d 0).rows.length:Nat):Int))) then (ao (BW [.l [(bh [.str,.str] ((gi d 0).rows.getD (((gi d 3).int).toNat) []))],.l [[.i (gi (gi d 1).row 0).int]]]) fun g1=>(bif (gi g1 0).bool then some (some 0,[.i (gi d 3).int]) else (bif (az ((gi d 3).int+1)) then some (none,[.l (gi d 0).rows,.l [[.i (gi (gi d 1).row 0).int]],.i (gi d 2).int,.i ((gi d 3).int+1)]) else none))) else none) else some (some 1,[]))
def Rn:bx:=⟨2,[],⟨19,[(0,.s (.list [.str,.str])),(1,.clo 15 [.cptr [.int .i64]]),(7,.s (.int .i64)),(8,.s (.int .i64))],[]⟩,[],[⟨.ret,⟨19,[(4,.s (.int .i64))],[]⟩,[]⟩,⟨.exit 0,⟨19,[],[]⟩,[]⟩],BX⟩
theorem afx:cX P t106 au 0 (c9 f23 2) Rn:=fun d=>by kernel_rfl
def Ro:LT:=au.add 0 Rn
theorem afy:ay P 0 Ro (aN f23):=ay.a hm HP (aG _ _ _) afx
def BY(d:List G):Option (List G) :=
 (aY true (cG BX [.l (gi d 0).rows,.l [[.i (gi (gi d 1).row 0).int]],.i (((gi d 0).rows.length:Nat):Int),.i 0]) fun g g2=>(bif ab g 0 then some [.i (gi g2 0).int] else some [.i (-1)]))
def HQ:ax:=⟨23,[.s (.list [.str,.str]),.clo 15 [.cptr [.int .i64]]],[],[],[.s (.int .i64)],[],[],[],BY⟩
theorem afz:aX P t106 Ro f23 HQ:=fun d=>by kernel_rfl
theorem afA:aU P HQ:=ba hm HP func23 afy afz
def t107:ah:=t106.bp HQ
theorem Rp:ai P t107:=HP.aP afA

def BZ(d:List G):Option (List G) :=
 (ao (BY [.l (gi d 0).rows,.l [[.i (gi (gi d 1).row 0).int]]]) fun g1=>some [.t (bM 0 (gi g1 0).int)])
def HR:ax:=⟨10,[.s (.list [.str,.str]),.clo 15 [.cptr [.int .i64]]],[],[],[.s (.bool)],[],[],[],BZ⟩
theorem afB:aX P t107 au f10 HR:=fun d=>by kernel_rfl
theorem afC:aU P HR:=ba hm Rp func10 (aG _ _ _) afB
def t108:ah:=t107.bp HR
theorem B0:ai P t108:=Rp.aP afC

def xD(d:List G):Option (Option Nat × List G) :=
 let g:=gi ((gi d 5).rows.getD (((gi d 7).int).toNat) []) 4; (bif (aB (gi d 7).int (gi d 6).int) then (bif ((bD (gi d 7).int)&&(aB (gi d 7).int (((gi d 5).rows.length:Nat):Int))) then (bif (az ((gi d 7).int+1)) then some (none,[.i (gi d 0).int,.l (cu [.int .i64] (gi d 1).rows [.i g.int] [.t true] (gi d 2).int.toNat),.i (((dF [.int .i64] (gi d 1).rows [.i g.int] (gi d 2).int.toNat):Nat):Int),.l (gi d 3).rows,.l (gi d 4).rows,.l (gi d 5).rows,.i (gi d 6).int,.i ((gi d 7).int+1)]) else none) else none) else some (some 0,[.i (gi d 0).int,.l (gi d 1).rows,.i (((gi d 2).int.toNat:Nat):Int),.l (gi d 3).rows,.l (gi d 4).rows]))
def Rq:bx:=⟨10,[],⟨104,[(4,.s (.list aq)),(5,.s (.ptr 0 0)),(10,.s (.list [.str,.str])),(12,.s (.map 1)),(49,.s (.list aQ)),(50,.s (.int .i64)),(51,.s (.int .i64))],[.box [.int .i64],.map (.one (.int .i64)) (.one (.bool))]⟩,[.slot 5,.slot 12],[⟨.exit 0,⟨104,[(4,.s (.list aq)),(5,.s (.ptr 0 0)),(10,.s (.list [.str,.str])),(12,.s (.map 1))],[.box [.int .i64],.map (.one (.int .i64)) (.one (.bool))]⟩,[.slot 5,.slot 12]⟩],xD⟩
theorem afD:cX P (t108.jn [10,14]) (au.iy [(22,[.freeze 16])]) 0 (c9 f3 10) Rq:=fun d=>by kernel_rfl
def HS:LT:=(au.iy [(22,[.freeze 16])]).add 0 Rq
theorem afE:ay P 0 HS (aN f3):=ay.add hm (B0.jn [10,14]) (by kernel_rfl) (qS _) afD
def xE(d:List G):Option (Option Nat × List G) :=
 let g:=(((gi d 2).int.toNat:Nat):Int); let z2:=(gi d 3).int+1; (bif (aB (gi d 3).int (gi d 0).int) then (bif (!(gi (ch [.int .i64] (gi d 1).rows [.i (gi d 3).int] [.t false]) 0).bool) then (ao (BN [.l (gi d 5).rows,.l [[.i (gi d 3).int]]]) fun g8=>(bif (!(gi g8 0).bool) then some (some 0,[.t false]) else (bif (az z2) then some (none,[.i (gi d 0).int,.l (gi d 1).rows,.i g,.i z2,.l (gi d 4).rows,.l (gi d 5).rows]) else none))) else (bif (az z2) then some (none,[.i (gi d 0).int,.l (gi d 1).rows,.i g,.i z2,.l (gi d 4).rows,.l (gi d 5).rows]) else none)) else some (some 1,[.i (gi d 0).int,.l (gi d 1).rows,.i g,.l (gi d 4).rows]))
def Rr:bx:=⟨15,[],⟨104,[(4,.s (.list aq)),(5,.s (.ptr 0 0)),(10,.s (.list [.str,.str])),(12,.s (.map 1)),(15,.s (.ptr 2 0))],[.box [.int .i64],.map (.one (.int .i64)) (.one (.bool)),.box [.int .i64]]⟩,[.slot 5,.slot 12,.slot 15],[⟨.ret,⟨104,[(2,.s (.bool))],[]⟩,[]⟩,⟨.exit 2,⟨104,[(4,.s (.list aq)),(5,.s (.ptr 0 0)),(12,.s (.map 1))],[.box [.int .i64],.map (.one (.int .i64)) (.one (.bool))]⟩,[.slot 5,.slot 12]⟩],xE⟩
theorem afF:cX P (t108.jn [10,14]) HS 0 (c9 f3 15) Rr:=fun d=>by kernel_rfl
def Rt:LT:=HS.add 0 Rr
theorem afG:ay P 0 Rt (aN f3):=ay.add hm (B0.jn [10,14]) (by kernel_rfl) afE afF
def HT(d:List G):Option (List G) :=
 let g:=(⟨#[]⟩:ByteArray); let z2:=(⟨#[122,122]⟩:ByteArray); (ao (pJ [.l (gi d 0).rows,.i 0,.i 0,.i 18]) fun g1=>(ao (Bo [.l (gi g1 0).rows,.i (gi g1 1).int,.i (gi g1 2).int]) fun g2=>(ao (xl [.l (gi g2 2).rows,.i 500]) fun g3=>(ao (xm [.l (gi g2 2).rows,.i 500]) fun g4=>(ao (xp [.l (gi g2 2).rows,.i 500]) fun g5=>(ao (Hp [.l [[.i (gi g3 1).int],[.i (gi g4 2).int],[.i (gi g5 1).int]]]) fun g6=>(bif ((gi g6 0).int != 0) then some [.t false] else (aY true (cG xD [.i (gi g3 0).int,.l [],.i 0,.l (gi g2 2).rows,.l (gi g5 0).rows,.l (gi g4 0).rows,.i (((gi g4 0).rows.length:Nat):Int),.i 0]) fun q g7=>(aY true (cG xE [.i (gi g7 0).int,.l (gi g7 1).rows,.i (((gi g7 2).int.toNat:Nat):Int),.i 1,.l (gi g7 3).rows,.l (gi g7 4).rows]) fun k g9=>let z3:=([[.s z2,.i 1,.i 600,.i 3,.i 0,.i 0,.s g,.s g,.i (gi g9 0).int,.i 0,.s g,.s g,.s g,.s g,.i 0]]:List (List G)); (bif ab k 0 then some [.t (gi g9 0).bool] else (ao (ua [.l (gi g9 3).rows]) fun g10=>let z4:=(gi g10 0).rows++z3; (bif ((ab (gi g10 0).rows.length (gi g10 0).rows.length)&&(decide (((gi g10 0).rows.length+1)≤1048576))) then (bif ((ab z4.length z4.length)&&true) then (ao (xC [.l z4,.i 600]) fun g11=>(bif ((gi g11 1).int==0) then (bif (!(gi (ch [.int .i64] (gi g9 1).rows [.i (gi g9 0).int] [.t false]) 0).bool) then (ao (BZ [.l (gi g11 0).rows,.l [[.i (gi g9 0).int]]]) fun g12=>(bif (!(gi g12 0).bool) then (ao (Bb []) fun g13=>some [.t (gi g13 0).bool]) else some [.t false])) else some [.t false]) else some [.t false])) else none) else none))))))))))))
def HU:ax:=⟨3,[.s (.list [.int .i64])],[],[],[.s (.bool)],[],[],[],HT⟩
theorem afH:aX P (t108.jn [10,14]) Rt f3 HU:=fun d=>by kernel_rfl
theorem Ru:aU P HU:=EG hm (B0.jn [10,14]) func3 (by kernel_rfl) afG afH (by kernel_rfl)
def t109:ah:=t108.bp HU
theorem aji:ai P t109:=B0.aP Ru

end
end Go.Proofs.gq
