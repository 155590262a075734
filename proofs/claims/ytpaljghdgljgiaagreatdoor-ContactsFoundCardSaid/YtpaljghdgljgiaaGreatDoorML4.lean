/-
 What is proved here: functions of the program as functions on data. No condition.
-/
import Derived.Test.YtpaljghdgljgiaaGreatDoorML3
set_option linter.all false
open List renaming replicate->cC,isEmpty->akw
open Nat renaming beq->ar,blt->cS
namespace Go.Proofs.jq
open Go Go.AL Go.Proofs Tryz
noncomputable section
def w9(d:LG):Option (Option Nat × LG) :=
 let h:=(gi d 12).rZ.getD (((gi d 14).iV).toNat) []; let v:=(ar (gi d 11).rZ.length (gi d 11).rZ.length)&&(decide (((gi d 11).rZ.length+1)<=1048576)); let y:=((gi d 11).rZ++([[.i (gi d 14).iV,.i 6,.s (⟨#[]⟩:BY),.i (-1)]]:LL)); let V:=(((dG [.str,.str,.I] (gi d 9).rZ [.s (gi h 3).sV,.s (gi h 2).sV,.i (gi h 1).iV] (gi d 10).iV.toNat):Nat):Int); let k:=(gi d 14).iV+1; let M:=(((gi d 5).iV.toNat:Nat):Int); let N:=(((gi d 8).iV.toNat:Nat):Int); (bif (ax (gi d 14).iV (gi d 13).iV) then (gd ((aM (gi d 14).iV)&&(ax (gi d 14).iV (((gi d 12).rZ.length:Nat):Int))) (bif (gi (dn [.str,.str,.I] (gi d 9).rZ [.s (gi h 3).sV,.s (gi h 2).sV,.i (gi h 1).iV] [.t false]) 0).bV then (gd v (gd (aB k) (gd ((ar y.length y.length)&&true) (some (none,[.l (gi d 0).rZ,.i (gi d 1).iV,.i (gi d 2).iV,.l (gi d 3).rZ,.l (gi d 4).rZ,.i M,.l (gi d 6).rZ,.l (gi d 7).rZ,.i N,.l (gi d 9).rZ,.i (((gi d 10).iV.toNat:Nat):Int),.l y,.l (gi d 12).rZ,.i (gi d 13).iV,.i k]))))) else (aG (D1 [.l (gi d 0).rZ,.i (gi d 1).iV,.i (gi d 2).iV,.l (gi d 3).rZ,.l (gi d 4).rZ,.i M,.l (gi d 6).rZ,.l (gi d 7).rZ,.i N,.i (gi d 14).iV]) fun g=>let q:=((gi d 11).rZ++([(a8 dp (gi g 9).rV)]:LL)); let W:=(ar q.length q.length)&&true; let O:=(((gi g 5).iV.toNat:Nat):Int); let U:=(((gi g 8).iV.toNat:Nat):Int); (bif ((gi (gi g 9).rV 1).iV==1) then (gd v (gd (aB k) (gd W (some (none,[.l (gi g 0).rZ,.i (gi g 1).iV,.i (gi g 2).iV,.l (gi g 3).rZ,.l (gi g 4).rZ,.i O,.l (gi g 6).rZ,.l (gi g 7).rZ,.i U,.l (ew [.str,.str,.I] (gi d 9).rZ [.s (gi h 3).sV,.s (gi h 2).sV,.i (gi h 1).iV] [.t true] (gi d 10).iV.toNat),.i V,.l q,.l (gi d 12).rZ,.i (gi d 13).iV,.i k]))))) else (gd v (gd (aB k) (gd W (some (none,[.l (gi g 0).rZ,.i (gi g 1).iV,.i (gi g 2).iV,.l (gi g 3).rZ,.l (gi g 4).rZ,.i O,.l (gi g 6).rZ,.l (gi g 7).rZ,.i U,.l (ew [.str,.str,.I] (gi d 9).rZ [.s (gi h 3).sV,.s (gi h 2).sV,.i (gi h 1).iV] [.t ((gi (gi g 9).rV 1).iV==3)] (gi d 10).iV.toNat),.i V,.l q,.l (gi d 12).rZ,.i (gi d 13).iV,.i k]))))))))) else (gd ((ar (gi d 11).rZ.length (gi d 11).rZ.length)&&true) (some (some 0,[.l (gi d 0).rZ,.i (gi d 1).iV,.i (gi d 2).iV,.l (gi d 3).rZ,.l (gi d 4).rZ,.i M,.l (gi d 6).rZ,.l (gi d 7).rZ,.i N,.l (gi d 11).rZ]))))
def aee:bG:=⟨4,[(4,dp)],⟨62,[(0,.s (.ptr 0 0)),(3,.s (.map 3)),(4,.s (.vQ 4 4)),(20,jH),(21,aq),(22,aq)],[.box [.list [.str,.list aK],.I,.I,.map 1,.map 2],.mm 11 (.one .I) (.one .I) (.one .I),.mm 12 (.one .I) (.one .I) (.one (.bool)),.map (.agg [.str,.str,.I]) (.one (.bool)),.vQ dp 0]⟩,[.fix 0,.cell 0 3,.cell 0 4,.ay 3,.ay 4],[⟨.exit 0,⟨62,[(4,.s (.vQ 3 4))],[.box [.list [.str,.list aK],.I,.I,.map 1,.map 2],.mm 11 (.one .I) (.one .I) (.one .I),.mm 12 (.one .I) (.one .I) (.one (.bool)),.vQ dp 0]⟩,[.fix 0,.cell 0 3,.cell 0 4,.ay 4]⟩],w9⟩
def aef:LT:=(bJ.tQ [(0,[.CS 0 3 11 (.one .I) (.one .I),.CS 0 4 12 (.one .I) (.one (.bool))]),(13,[.forget 0,.forget 1,.forget 2])]).add 3 aee
theorem aeg:aZ P 3 aef (bk f51):=lA QJ (qk _)
def D2(d:LG):Option LG :=
 let h:=gi ((gi d 0).rZ.getD (((gi d 1).iV).toNat) []) 1; (gd ((akw (gi d 3).rZ)&&((akw (gi d 5).rZ)&&true)) (gd ((aM (gi d 1).iV)&&(ax (gi d 1).iV (((gi d 0).rZ.length:Nat):Int))) (bh true (cn w9 [.l (gi d 0).rZ,.i (gi d 1).iV,.i (gi d 2).iV,.l [],.l [],.i (((gi d 4).iV.toNat:Nat):Int),.l [],.l [],.i (((gi d 6).iV.toNat:Nat):Int),.l [],.i 0,.l [],.l h.rZ,.i ((h.rZ.length:Nat):Int),.i 0]) fun k g=>(gd ((ar (gi g 9).rZ.length (gi g 9).rZ.length)&&true) (some [.l [],.l [],.l [],.l (gi g 9).rZ])))))
def aeh:aO:=⟨51,[.s (.ptr 0 0)],[.box [.list [.str,.list aK],.I,.I,.map 1,.map 2],.map (.one .I) (.one .I),.map (.one .I) (.one .I)],[.ay 0,.cell 0 3,.cell 0 4],[.s (.list dp)],[.vQ [] 1,.vQ [] 1,.vQ [] 1],[.fix 0,.fix 1,.fix 2],[],D2⟩
def t67:aH:=t66.dO aeh
theorem aei:aJ P t67:=tW QJ func51 aeg

def kD(d:LG):Option LG :=
 (aG (oy [.l (gi d 0).rZ]) fun k=>(bif ((gi k 0).iV != 0) then some [.l [],.i 0,.i (gi k 0).iV] else (aG (DO [.i (gi d 2).iV]) fun q=>(bif ((gi q 0).iV != 0) then some [.l [],.i 0,.i (gi q 0).iV] else (aG (zW [.l (gi d 0).rZ,.s (gi d 1).sV]) fun h=>(bif (!(gi h 1).bV) then some [.l [],.i 0,.i 8] else (aG (Qr [.l (gi d 0).rZ,.i (gi h 0).iV,.i (gi d 2).iV]) fun g=>(aG (D2 [.l (gi g 0).rZ,.i (gi g 1).iV,.i (gi g 2).iV,.l (gi g 3).rZ,.i (((gi g 4).iV.toNat:Nat):Int),.l (gi g 5).rZ,.i (((gi g 6).iV.toNat:Nat):Int)]) fun v=>some [.l (gi v 3).rZ,.i (gi h 0).iV,.i 0]))))))))
def aej:aO:=⟨25,[.s (.list [.str,.list aK]),cL,aq],[],[],[.s (.list dp),aq,aq],[],[],[],kD⟩
def t68:aH:=t67.bp aej
theorem aek:aJ P t68:=cY aei func25

def rS(d:LG):Option LG :=
 (aG (kD [.l (gi d 0).rZ,.s (gi d 1).sV,.i (gi d 2).iV]) fun g=>some [.l (gi g 0).rZ,.i (gi g 2).iV])
def ael:aO:=⟨8,[.s (.list [.str,.list aK]),cL,aq],[],[],[.s (.list dp),aq],[],[],[],rS⟩
def t69:aH:=t68.bp ael
theorem QK:aJ P t69:=cY aek func8

def Am(d:LG):Option (Option Nat × LG) :=
 let k:=gi ((gi d 14).rZ.getD (((gi d 16).iV).toNat) []) 1; let g:=0+((k.iV).toNat*1); let h:=((([(gi d 7).iV,(gi d 8).iV,(gi d 9).iV,(gi d 10).iV,(gi d 11).iV,(gi d 12).iV,(gi d 13).iV]:List Int).getD g 0)+1); let q:=(aM k.iV)&&(ax k.iV 7); (bif (ax (gi d 16).iV (gi d 15).iV) then (gd ((aM (gi d 16).iV)&&(ax (gi d 16).iV (((gi d 14).rZ.length:Nat):Int))) (gd q (gd (cS g 7) (gd (aB h) (gd q (gd (cS g 7) (gd (aB ((gi d 16).iV+1)) (some (none,[.i (gi d 0).iV,.i (gi d 1).iV,.i (gi d 2).iV,.i (gi d 3).iV,.i (gi d 4).iV,.i (gi d 5).iV,.i (gi d 6).iV,.i (bif ar g 0 then h else (gi d 7).iV),.i (bif ar g 1 then h else (gi d 8).iV),.i (bif ar g 2 then h else (gi d 9).iV),.i (bif ar g 3 then h else (gi d 10).iV),.i (bif ar g 4 then h else (gi d 11).iV),.i (bif ar g 5 then h else (gi d 12).iV),.i (bif ar g 6 then h else (gi d 13).iV),.l (gi d 14).rZ,.i (gi d 15).iV,.i ((gi d 16).iV+1)]))))))))) else some (some 0,[.i (gi d 0).iV,.i (gi d 1).iV,.i (gi d 2).iV,.i (gi d 3).iV,.i (gi d 4).iV,.i (gi d 5).iV,.i (gi d 6).iV,.i (gi d 7).iV,.i (gi d 8).iV,.i (gi d 9).iV,.i (gi d 10).iV,.i (gi d 11).iV,.i (gi d 12).iV,.i (gi d 13).iV]))
def aem:bG:=⟨3,[],⟨20,[(2,.s (.ptr 0 0)),(3,.s (.ptr 1 0)),(6,.s (.list dp)),(7,aq),(8,aq)],PJ⟩,[.ay 2,.ay 3],[⟨.exit 0,⟨20,[(2,.s (.ptr 0 0)),(3,.s (.ptr 1 0))],PJ⟩,[.ay 2,.ay 3]⟩],Am⟩
def aen:LT:=bJ.add 0 aem
theorem aeo:aZ P 0 aen (bk f26):=lA QK (bL _ _ _)
def D3(d:LG):Option LG :=
 (bh true (cn Am [.i 0,.i 0,.i 0,.i 0,.i 0,.i 0,.i 0,.i 0,.i 0,.i 0,.i 0,.i 0,.i 0,.i 0,.l (gi d 0).rZ,.i (((gi d 0).rZ.length:Nat):Int),.i 0]) fun h g=>some [.l [[.i (gi g 7).iV,.i (gi g 8).iV,.i (gi g 9).iV,.i (gi g 10).iV,.i (gi g 11).iV,.i (gi g 12).iV,.i (gi g 13).iV]]])
def aep:aO:=⟨26,[.s (.list dp)],[],[],[.s (.row [.I,.I,.I,.I,.I,.I,.I])],[],[],[],D3⟩
def t70:aH:=t69.bp aep
theorem aeq:aJ P t70:=tP QK func26 aeo

def QL(d:LG):Option LG :=
 some [.l [[.s (⟨#[]⟩:BY)],[.s (⟨#[103,111,111,100]⟩:BY)],[.s (⟨#[99,97,108,108]⟩:BY)],[.s (⟨#[104,101,97,114,100]⟩:BY)],[.s (⟨#[109,105,115,115,105,110,103]⟩:BY)],[.s (⟨#[117,110,107,110,111,119,110]⟩:BY)],[.s (⟨#[116,119,105,99,101]⟩:BY)]]]
def aer:aO:=⟨27,[],[],[],[.s (.list [.str])],[],[],[],QL⟩
def t71:aH:=t70.bp aer
theorem QM:aJ P t71:=cY aeq func27

def nt(d:LG):Option (Option Nat × LG) :=
 let q:=gi ((gi d 8).rZ.getD (((gi d 10).iV).toNat) []) 0; let h:=ar (gi d 7).rZ.length (gi d 7).rZ.length; let g:=(gi d 10).iV+1; let v:=0+(((gi d 10).iV).toNat*1); (bif (ax (gi d 10).iV (gi d 9).iV) then (gd ((aM (gi d 10).iV)&&(ax (gi d 10).iV (((gi d 8).rZ.length:Nat):Int))) (bif (!(q.sV.toList==(⟨#[]⟩:BY).toList)) then (gd ((aM (gi d 10).iV)&&(ax (gi d 10).iV 7)) (gd (cS v 7) (aG (pg [.i (([(gi d 0).iV,(gi d 1).iV,(gi d 2).iV,(gi d 3).iV,(gi d 4).iV,(gi d 5).iV,(gi d 6).iV]:List Int).getD v 0)]) fun y=>let k:=((gi d 7).rZ++([[.s q.sV,.s (gi y 0).sV]]:LL)); (gd (h&&(decide (((gi d 7).rZ.length+1)<=1048576))) (gd (aB g) (gd ((ar k.length k.length)&&true) (some (none,[.i (gi d 0).iV,.i (gi d 1).iV,.i (gi d 2).iV,.i (gi d 3).iV,.i (gi d 4).iV,.i (gi d 5).iV,.i (gi d 6).iV,.l k,.l (gi d 8).rZ,.i (gi d 9).iV,.i g])))))))) else (gd (aB g) (gd (h&&true) (some (none,[.i (gi d 0).iV,.i (gi d 1).iV,.i (gi d 2).iV,.i (gi d 3).iV,.i (gi d 4).iV,.i (gi d 5).iV,.i (gi d 6).iV,.l (gi d 7).rZ,.l (gi d 8).rZ,.i (gi d 9).iV,.i g])))))) else (gd (h&&true) (some (some 0,[.l (gi d 7).rZ]))))
def aes:bG:=⟨7,[(12,[.str,.str])],⟨48,[(11,.s (.ptr 0 0)),(12,.s (.vQ 1 2)),(28,.s (.list [.str])),(29,aq),(30,aq)],PK⟩,[.ay 11,.ay 12],[⟨.exit 0,⟨48,[(12,.s (.vQ 0 2))],[.vQ [.str,.str] 0]⟩,[.ay 12]⟩],nt⟩
def aet:LT:=bJ.add 0 aes
theorem aeu:aZ P 0 aet (bk f9):=lA QM (bL _ _ _)
def w_(d:LG):Option LG :=
 (aG (kD [.l (gi d 0).rZ,.s (gi d 1).sV,.i (gi d 2).iV]) fun h=>(bif ((gi h 2).iV != 0) then some [.l [],.i (gi h 2).iV] else (aG (D3 [.l (gi h 0).rZ]) fun g=>(aG (QL []) fun q=>(bh true (cn nt [.i (gi (gi g 0).rV 0).iV,.i (gi (gi g 0).rV 1).iV,.i (gi (gi g 0).rV 2).iV,.i (gi (gi g 0).rV 3).iV,.i (gi (gi g 0).rV 4).iV,.i (gi (gi g 0).rV 5).iV,.i (gi (gi g 0).rV 6).iV,.l [],.l (gi q 0).rZ,.i (((gi q 0).rZ.length:Nat):Int),.i 0]) fun v k=>(gd ((ar (gi k 0).rZ.length (gi k 0).rZ.length)&&true) (some [.l (gi k 0).rZ,.i 0])))))))
def aev:aO:=⟨9,[.s (.list [.str,.list aK]),cL,aq],[],[],[.s (.list [.str,.str]),aq],[],[],[],w_⟩
def t72:aH:=t71.bp aev
theorem aew:aJ P t72:=tP QM func9 aeu

def D4(d:LG):Option LG :=
 (bif ((gi d 0).iV==2) then some [.t true] else (bif ((gi d 0).iV==3) then some [.t true] else some [.t ((gi d 0).iV==4)]))
def aex:aO:=⟨30,[aq],[],[],[da],[],[],[],D4⟩
def t73:aH:=t72.bp aex
theorem QN:aJ P t73:=cY aew func30

def xa(d:LG):Option (Option Nat × LG) :=
 let g:=(gi d 4).iV+1; let h:=(gi d 1).iV+(1+(gi d 0).iV); (bif (ax (gi d 4).iV (gi d 3).iV) then (gd ((aM (gi d 4).iV)&&(ax (gi d 4).iV (((gi d 2).rZ.length:Nat):Int))) (aG (D4 [.i (gi ((gi d 2).rZ.getD (((gi d 4).iV).toNat) []) 1).iV]) fun k=>(bif (gi k 0).bV then (gd (aB (1+(gi d 0).iV)) (gd (aB h) (gd (aB g) (some (none,[.i (gi d 0).iV,.i h,.l (gi d 2).rZ,.i (gi d 3).iV,.i g]))))) else (gd (aB g) (some (none,[.i (gi d 0).iV,.i (gi d 1).iV,.l (gi d 2).rZ,.i (gi d 3).iV,.i g])))))) else some (some 0,[.i (gi d 1).iV]))
def aey:bG:=⟨8,[],⟨44,[(3,aq),(13,aq),(29,.s (.list dp)),(30,aq),(31,aq)],[]⟩,[],[⟨.exit 0,⟨44,[(13,aq)],[]⟩,[]⟩],xa⟩
def aez:LT:=bJ.add 0 aey
theorem aeA:aZ P 0 aez (bk f10):=lA QN (bL _ _ _)
def xb(d:LG):Option LG :=
 (aG (kD [.l (gi d 0).rZ,.s (gi d 1).sV,.i (gi d 2).iV]) fun g=>(bif ((gi g 2).iV != 0) then some [.i 0,.i (gi g 2).iV] else (aG (pk [.i (gi d 3).iV,.i 0,.i 10]) fun h=>(bif (gi h 0).bV then some [.i 0,.i 1] else (bh true (cn xa [.i (gi d 3).iV,.i 0,.l (gi g 0).rZ,.i (((gi g 0).rZ.length:Nat):Int),.i 0]) fun q k=>some [.i (gi k 0).iV,.i 0])))))
def aeB:aO:=⟨10,[.s (.list [.str,.list aK]),cL,aq,aq],[],[],[aq,aq],[],[],[],xb⟩
def t74:aH:=t73.bp aeB
theorem aeC:aJ P t74:=tP QN func10 aeA

def An(d:LG):Option LG :=
 (aG (Il [.s (gi d 0).sV]) fun g=>some [.t (gi g 1).bV])
def aeD:aO:=⟨53,[cL],[],[],[da],[],[],[],An⟩
def t75:aH:=t74.bp aeD
theorem aeE:aJ P t75:=cY aeC func53

def qp(d:LG):Option LG :=
 (bif (bC (gi d 1).iV (gi d 0).iV) then some [.t (bC (gi d 0).iV (gi d 2).iV)] else some [.t false])
def aeF:aO:=⟨55,[aq,aq,aq],[],[],[da],[],[],[],qp⟩
def t76:aH:=t75.bp aeF
theorem aeG:aJ P t76:=cY aeE func55

def ID(d:LG):Option LG :=
 (aG (qp [.i (gi d 0).iV,.i 0,.i 345686399999]) fun g=>some [.t (gi g 0).bV])
def aeH:aO:=⟨127,[aq],[],[],[da],[],[],[],ID⟩
def t77:aH:=t76.bp aeH
theorem QO:aJ P t77:=cY aeG func127

def QP(d:LG):Option (Option Nat × LG) :=
 (bif (ax (gi d 3).iV (gi d 2).iV) then (gd ((aM (gi d 3).iV)&&(ax (gi d 3).iV (((gi d 0).sV.size:Nat):Int))) (aG (Ds [.s (gi d 1).sV,.i (((gi d 0).sV.data.toList.getD (((gi d 3).iV).toNat) 0).toNat:Int)]) fun g=>(bif (ax (gi g 0).iV 0) then some (some 0,[.t false]) else (gd (aB ((gi d 3).iV+1)) (some (none,[.s (gi d 0).sV,.s (gi d 1).sV,.i (gi d 2).iV,.i ((gi d 3).iV+1)])))))) else some (some 1,[]))
def aeI:bG:=⟨2,[],⟨18,[(0,cL),(1,cL),(7,aq),(8,aq)],[]⟩,[],[⟨.ret,⟨18,[(4,da)],[]⟩,[]⟩,⟨.exit 0,⟨18,[],[]⟩,[]⟩],QP⟩
def aeJ:LT:=bJ.add 0 aeI
theorem aeK:aZ P 0 aeJ (bk f166):=lA QO (bL _ _ _)
def IE(d:LG):Option LG :=
 (bh true (cn QP [.s (gi d 0).sV,.s (gi d 1).sV,.i (((gi d 0).sV.size:Nat):Int),.i 0]) fun g h=>(bif ar g 0 then some [.t (gi h 0).bV] else some [.t true]))
def aeL:aO:=⟨166,[cL,cL],[],[],[da],[],[],[],IE⟩
def t78:aH:=t77.bp aeL
theorem aeM:aJ P t78:=tP QO func166 aeK

def Ao(d:LG):Option LG :=
 let g:=(((gi d 0).sV.size:Nat):Int); (aG (qp [.i g,.i 1,.i 40]) fun h=>(bif (gi h 0).bV then (gd (bC 1 g) (aG (IE [.s ((gi d 0).sV.extract 0 1),.s (⟨#[97,98,99,100,101,102,103,104,105,106,107,108,109,110,111,112,113,114,115,116,117,118,119,120,121,122]⟩:BY)]) fun k=>(bif (gi k 0).bV then (aG (IE [.s (gi d 0).sV,.s (⟨#[97,98,99,100,101,102,103,104,105,106,107,108,109,110,111,112,113,114,115,116,117,118,119,120,121,122,48,49,50,51,52,53,54,55,56,57,45,95]⟩:BY)]) fun q=>some [.t (gi q 0).bV]) else some [.t false]))) else some [.t false]))
def aeN:aO:=⟨128,[cL],[],[],[da],[],[],[],Ao⟩
def t79:aH:=t78.bp aeN
theorem aeO:aJ P t79:=cY aeM func128

def D5(d:LG):Option LG :=
 let g:=(!((gi (gi d 0).rV 7).sV.toList==(⟨#[]⟩:BY).toList)); let h:=Ao [.s (gi (gi d 0).rV 7).sV]; (aG (ID [.i (gi (gi d 0).rV 0).iV]) fun k=>(bif (!(gi k 0).bV) then some [.i 1] else (aG (qp [.i (gi (gi d 0).rV 1).iV,.i 1,.i 3]) fun q=>(bif (!(gi q 0).bV) then some [.i 4] else (aG (Ao [.s (gi (gi d 0).rV 2).sV]) fun v=>(bif (!(gi v 0).bV) then some [.i 5] else (aG (An [.s (gi (gi d 0).rV 3).sV]) fun y=>(bif (!(gi y 0).bV) then some [.i 3] else (aG (qp [.i (gi (gi d 0).rV 4).iV,.i 0,.i 99999]) fun I=>(bif (!(gi I 0).bV) then some [.i 1] else (aG (qp [.i (gi (gi d 0).rV 5).iV,.i 0,.i 99999]) fun M=>(bif (!(gi M 0).bV) then some [.i 1] else (bif (!((gi (gi d 0).rV 6).sV.toList==(⟨#[]⟩:BY).toList)) then (aG (Ao [.s (gi (gi d 0).rV 6).sV]) fun N=>(bif (!(gi N 0).bV) then some [.i 5] else (bif g then (aG h fun O=>(bif (!(gi O 0).bV) then some [.i 5] else some [.i 0])) else some [.i 0]))) else (bif g then (aG h fun U=>(bif (!(gi U 0).bV) then some [.i 5] else some [.i 0])) else some [.i 0]))))))))))))))
def aeP:aO:=⟨101,[.s (.row aK)],[],[],[aq],[],[],[],D5⟩
def t80:aH:=t79.bp aeP
theorem QQ:aJ P t80:=cY aeO func101

def QR(d:LG):Option (Option Nat × LG) :=
 let k:=a8 aK ((gi d 1).rZ.getD (((gi d 3).iV).toNat) []); let g:=(gi d 3).iV-1; let h:=(gi d 3).iV+1; (bif (ax (gi d 3).iV (gi d 2).iV) then (gd ((aM (gi d 3).iV)&&(ax (gi d 3).iV (((gi d 1).rZ.length:Nat):Int))) (aG (D5 [.l [k]]) fun q=>(bif ((gi q 0).iV != 0) then some (some 0,[.i (gi q 0).iV]) else (bif (ax 0 (gi d 3).iV) then (gd (aB g) (gd ((aM g)&&(ax g (((gi d 0).rZ.length:Nat):Int))) (aG (ub [.l [(a8 aK ((gi d 0).rZ.getD (g.toNat) []))],.l [k]]) fun v=>(bif (bC 0 (gi v 0).iV) then some (some 0,[.i 7]) else (gd (aB h) (some (none,[.l (gi d 0).rZ,.l (gi d 1).rZ,.i (gi d 2).iV,.i h]))))))) else (gd (aB h) (some (none,[.l (gi d 0).rZ,.l (gi d 1).rZ,.i (gi d 2).iV,.i h]))))))) else some (some 1,[]))
def aeQ:bG:=⟨4,[],⟨34,PS,[]⟩,[],[⟨.ret,⟨34,wG,[]⟩,[]⟩,⟨.exit 0,⟨34,[],[]⟩,[]⟩],QR⟩
def aeR:LT:=bJ.add 0 aeQ
theorem aeS:aZ P 0 aeR (bk f73):=lA QQ (bL _ _ _)
def IF(d:LG):Option LG :=
 let g:=(((gi d 0).rZ.length:Nat):Int); (bif (ax 2000 g) then some [.i 2] else (bh true (cn QR [.l (gi d 0).rZ,.l (gi d 0).rZ,.i g,.i 0]) fun h k=>(bif ar h 0 then some [.i (gi k 0).iV] else some [.i 0])))
def aeT:aO:=⟨73,[jH],[],[],[aq],[],[],[],IF⟩
def t81:aH:=t80.bp aeT
theorem aeU:aJ P t81:=tP QQ func73 aeS

def D6(d:LG):Option LG :=
 some [.t ((gi (gi d 0).rV 3).sV.toList==(gi (gi d 1).rV 0).sV.toList)]
def aeV:aO:=⟨75,[.s (.row aK),.s (.cptr [.str,.list aK])],[],[],[da],[],[],[],D6⟩
def t82:aH:=t81.bp aeV
theorem QS:aJ P t82:=cY aeU func75

def QT(d:LG):Option (Option Nat × LG) :=
 let g:=a8 [.str,.list aK] (gi d 1).rV; (bif (ax (gi d 3).iV (gi d 2).iV) then (gd ((aM (gi d 3).iV)&&(ax (gi d 3).iV (((gi d 0).rZ.length:Nat):Int))) (aG (D6 [.l [(a8 aK ((gi d 0).rZ.getD (((gi d 3).iV).toNat) []))],.l [g]]) fun h=>(bif (gi h 0).bV then some (some 0,[.i (gi d 3).iV]) else (gd (aB ((gi d 3).iV+1)) (some (none,[.l (gi d 0).rZ,.l [g],.i (gi d 2).iV,.i ((gi d 3).iV+1)])))))) else some (some 1,[]))
def aeW:bG:=⟨2,[],⟨19,[(0,jH),(1,.clo 75 [.cptr [.str,.list aK]]),(7,aq),(8,aq)],[]⟩,[],[⟨.ret,⟨19,ud,[]⟩,[]⟩,⟨.exit 0,⟨19,[],[]⟩,[]⟩],QT⟩
def aeX:LT:=bJ.add 0 aeW
theorem aeY:aZ P 0 aeX (bk f102):=lA QS (bL _ _ _)
def QU(d:LG):Option LG :=
 (bh true (cn QT [.l (gi d 0).rZ,.l [(a8 [.str,.list aK] (gi d 1).rV)],.i (((gi d 0).rZ.length:Nat):Int),.i 0]) fun g h=>(bif ar g 0 then some [.i (gi h 0).iV] else some [.i (-1)]))
def aeZ:aO:=⟨102,[jH,.clo 75 [.cptr [.str,.list aK]]],[],[],[aq],[],[],[],QU⟩
def t83:aH:=t82.bp aeZ
theorem ae0:aJ P t83:=tP QS func102 aeY

def QV(d:LG):Option LG :=
 (aG (QU [.l (gi d 0).rZ,.l [(a8 [.str,.list aK] (gi d 1).rV)]]) fun g=>some [.t (bC 0 (gi g 0).iV)])
def ae1:aO:=⟨74,[jH,.clo 75 [.cptr [.str,.list aK]]],[],[],[da],[],[],[],QV⟩
def t84:aH:=t83.bp ae1
theorem QW:aJ P t84:=cY ae0 func74

def D7(d:LG):Option LG :=
 (aG (An [.s (gi (gi d 0).rV 0).sV]) fun h=>(bif (!(gi h 0).bV) then some [.i 3] else (aG (IF [.l (gi (gi d 0).rV 1).rZ]) fun g=>(bif ((gi g 0).iV != 0) then some [.i (gi g 0).iV] else (aG (QV [.l (gi (gi d 0).rV 1).rZ,.l [(a8 [.str,.list aK] (gi d 0).rV)]]) fun k=>(bif (gi k 0).bV then some [.i 6] else some [.i 0]))))))
def ae2:aO:=⟨54,[nr],[],[],[aq],[],[],[],D7⟩
def t85:aH:=t84.bp ae2
theorem QX:aJ P t85:=QW.aP (mw hm (QW.kC [74]) func54 (by kernel_rfl) (bL _ _ _) (fun d=>by kernel_rfl) (by kernel_rfl))

def xc(d:LG):Option (Option Nat × LG) :=
 let g:=(gi d 1).rZ.getD (((gi d 3).iV).toNat) []; let h:=(gi d 3).iV-1; let q:=D7 [.l [(a8 [.str,.list aK] g)]]; let k:=(gi d 3).iV+1; let v:=gi ((gi d 0).rZ.getD (h.toNat) []) 0; (bif (ax (gi d 3).iV (gi d 2).iV) then (gd ((aM (gi d 3).iV)&&(ax (gi d 3).iV (((gi d 1).rZ.length:Nat):Int))) (aG (An [.s (gi g 0).sV]) fun M=>(bif (!(gi M 0).bV) then some (some 0,[.i 3]) else (bif (ax 0 (gi d 3).iV) then (gd (aB h) (gd ((aM h)&&(ax h (((gi d 0).rZ.length:Nat):Int))) (bif ((Op.bytesLess (gi g 0).sV.toList v.sV.toList)||((gi g 0).sV.toList==v.sV.toList)) then some (some 0,[.i 7]) else (aG q fun y=>(bif ((gi y 0).iV != 0) then some (some 0,[.i (gi y 0).iV]) else (gd (aB k) (some (none,[.l (gi d 0).rZ,.l (gi d 1).rZ,.i (gi d 2).iV,.i k])))))))) else (aG q fun I=>(bif ((gi I 0).iV != 0) then some (some 0,[.i (gi I 0).iV]) else (gd (aB k) (some (none,[.l (gi d 0).rZ,.l (gi d 1).rZ,.i (gi d 2).iV,.i k]))))))))) else some (some 1,[]))
def ae3:bG:=⟨4,[],⟨39,[(0,.s (.list [.str,.list aK])),(9,.s (.list [.str,.list aK])),(10,aq),(11,aq)],[]⟩,[],[⟨.ret,⟨39,wG,[]⟩,[]⟩,⟨.exit 0,⟨39,[],[]⟩,[]⟩],xc⟩
def ae4:LT:=bJ.add 0 ae3
theorem ae5:aZ P 0 ae4 (bk f31):=lA QX (bL _ _ _)
def D8(d:LG):Option LG :=
 let g:=(((gi d 0).rZ.length:Nat):Int); (bif (ax 100 g) then some [.i 2] else (bh true (cn xc [.l (gi d 0).rZ,.l (gi d 0).rZ,.i g,.i 0]) fun h k=>(bif ar h 0 then some [.i (gi k 0).iV] else some [.i 0])))
def ae6:aO:=⟨31,[.s (.list [.str,.list aK])],[],[],[aq],[],[],[],D8⟩
def t86:aH:=t85.bp ae6
theorem ae7:aJ P t86:=tP QX func31 ae5

def D9(d:LG):Option LG :=
 (aG (qp [.i (gi d 0).iV,.i 0,.i 3600000]) fun g=>(bif (!(gi g 0).bV) then some [.i 1] else some [.i 0]))
def ae8:aO:=⟨32,[aq],[],[],[aq],[],[],[],D9⟩
def t87:aH:=t86.bp ae8
theorem ae9:aJ P t87:=cY ae7 func32

def QY(d:LG):Option LG :=
 some [.t ((gi (gi d 0).rV 0).sV.toList==(gi (gi d 1).rV 0).sV.toList)]
def ae_:aO:=⟨57,[nr,.s (.cptr [.str])],[],[],[da],[],[],[],QY⟩
def t88:aH:=t87.bp ae_
theorem QZ:aJ P t88:=cY ae9 func57

def rT(d:LG):Option (Option Nat × LG) :=
 (bif (ax (gi d 3).iV (gi d 2).iV) then (gd ((aM (gi d 3).iV)&&(ax (gi d 3).iV (((gi d 0).rZ.length:Nat):Int))) (aG (QY [.l [(a8 [.str,.list aK] ((gi d 0).rZ.getD (((gi d 3).iV).toNat) []))],.l [[.s (gi (gi d 1).rV 0).sV]]]) fun g=>(bif (gi g 0).bV then some (some 0,[.i (gi d 3).iV]) else (gd (aB ((gi d 3).iV+1)) (some (none,[.l (gi d 0).rZ,.l [[.s (gi (gi d 1).rV 0).sV]],.i (gi d 2).iV,.i ((gi d 3).iV+1)])))))) else some (some 1,[]))
def ae':bG:=⟨2,[],⟨19,[(0,.s (.list [.str,.list aK])),(1,.clo 57 [.cptr [.str]]),(7,aq),(8,aq)],[]⟩,[],[⟨.ret,⟨19,ud,[]⟩,[]⟩,⟨.exit 0,⟨19,[],[]⟩,[]⟩],rT⟩
def afa:LT:=bJ.add 0 ae'
theorem afb:aZ P 0 afa (bk f56):=lA QZ (bL _ _ _)
def D_(d:LG):Option LG :=
 (bh true (cn rT [.l (gi d 0).rZ,.l [[.s (gi (gi d 1).rV 0).sV]],.i (((gi d 0).rZ.length:Nat):Int),.i 0]) fun g h=>(bif ar g 0 then some [.i (gi h 0).iV] else some [.i (-1)]))
def afc:aO:=⟨56,[.s (.list [.str,.list aK]),.clo 57 [.cptr [.str]]],[],[],[aq],[],[],[],D_⟩
def t89:aH:=t88.bp afc
theorem Q0:aJ P t89:=tP QZ func56 afb

def rU(d:LG):Option LG :=
 (aG (D_ [.l (gi d 0).rZ,.l [[.s (gi d 1).sV]]]) fun g=>some [.i (gi g 0).iV])
def afd:aO:=⟨33,[.s (.list [.str,.list aK]),cL],[],[],[aq],[],[],[],rU⟩
def t90:aH:=t89.bp afd
theorem afe:aJ P t90:=Q0.aP (mw hm (Q0.kC [56]) func33 (by kernel_rfl) (bL _ _ _) (fun d=>by kernel_rfl) (by kernel_rfl))

def xd(d:LG):Option LG :=
 (bif (gi d 0).bV then some [.i (gi d 1).iV] else some [.i 0])
def aff:aO:=⟨13,[da,aq],[],[],[aq],[],[],[],xd⟩
def t91:aH:=t90.bp aff
theorem Q1:aJ P t91:=cY afe func13

def mC(d:LG):Option (Option Nat × LG) :=
 let g:=gi ((gi d 0).rZ.getD (((gi d 2).iV).toNat) []) 0; (bif (ax (gi d 2).iV (gi d 1).iV) then (gd ((aM (gi d 2).iV)&&(ax (gi d 2).iV (((gi d 0).rZ.length:Nat):Int))) (bif (g.iV != 0) then some (some 0,[.i g.iV]) else (gd (aB ((gi d 2).iV+1)) (some (none,[.l (gi d 0).rZ,.i (gi d 1).iV,.i ((gi d 2).iV+1)]))))) else some (some 1,[]))
def afg:bG:=⟨2,[],⟨15,[(5,gR),(6,aq),(7,aq)],[]⟩,[],[⟨.ret,⟨15,wG,[]⟩,[]⟩,⟨.exit 0,⟨15,[],[]⟩,[]⟩],mC⟩
def afh:LT:=bJ.add 0 afg
theorem afi:aZ P 0 afh (bk f12):=lA Q1 (bL _ _ _)
def rW(d:LG):Option LG :=
 (bh true (cn mC [.l (gi d 0).rZ,.i (((gi d 0).rZ.length:Nat):Int),.i 0]) fun g h=>(bif ar g 0 then some [.i (gi h 0).iV] else some [.i 0]))
def afj:aO:=⟨12,[gR],[],[],[aq],[],[],[],rW⟩
def t92:aH:=t91.bp afj
theorem afk:aJ P t92:=tP Q1 func12 afi

def Ea(d:LG):Option LG :=
 (aG (D8 [.l (gi d 0).rZ]) fun g=>(aG (D9 [.i (gi d 1).iV]) fun h=>(aG (rU [.l (gi d 0).rZ,.s (gi d 2).sV]) fun k=>(aG (xd [.t (ax (gi k 0).iV 0),.i 8]) fun q=>(aG (rW [.l [[.i (gi g 0).iV],[.i (gi h 0).iV],[.i (gi q 0).iV]]]) fun v=>some [.i (gi v 0).iV])))))
def afl:aO:=⟨11,[.s (.list [.str,.list aK]),aq,cL],[],[],[aq],[],[],[],Ea⟩
def t93:aH:=t92.bp afl
theorem afm:aJ P t93:=cY afk func11

def Eb(d:LG):Option LG :=
 let g:=(gi (gi d 1).rV 1).rZ.getD (((gi (gi d 0).rV 0).iV).toNat) []; let h:=gi (gi d 0).rV 1; (gd ((aM (gi (gi d 0).rV 0).iV)&&(ax (gi (gi d 0).rV 0).iV (((gi (gi d 1).rV 1).rZ.length:Nat):Int))) (bif ((gi g 3).sV.toList==(gi (gi d 2).rV 3).sV.toList) then (bif ((gi g 2).sV.toList==(gi (gi d 2).rV 2).sV.toList) then (bif ((gi g 1).iV==(gi (gi d 2).rV 1).iV) then (bif (h.iV==1) then some [.t true] else (bif (h.iV==3) then some [.t true] else some [.t (h.iV==6)])) else some [.t false]) else some [.t false]) else some [.t false]))
def afn:aO:=⟨35,[.s (.row dp),.s (.cptr [.str,.list aK]),.s (.cptr aK)],[],[],[da],[],[],[],Eb⟩
def t94:aH:=t93.bp afn
theorem Q2:aJ P t94:=cY afm func35

def Ap(d:LG):Option (Option Nat × LG) :=
 let g:=a8 [.str,.list aK] (gi d 1).rV; let h:=a8 aK (gi d 2).rV; (bif (ax (gi d 4).iV (gi d 3).iV) then (gd ((aM (gi d 4).iV)&&(ax (gi d 4).iV (((gi d 0).rZ.length:Nat):Int))) (aG (Eb [.l [(a8 dp ((gi d 0).rZ.getD (((gi d 4).iV).toNat) []))],.l [g],.l [h]]) fun k=>(bif (gi k 0).bV then some (some 0,[.i (gi d 4).iV]) else (gd (aB ((gi d 4).iV+1)) (some (none,[.l (gi d 0).rZ,.l [g],.l [h],.i (gi d 3).iV,.i ((gi d 4).iV+1)])))))) else some (some 1,[]))
def afo:bG:=⟨2,[],⟨19,[(0,.s (.list dp)),(1,.clo 35 [.cptr [.str,.list aK],.cptr aK]),(7,aq),(8,aq)],[]⟩,[],[⟨.ret,⟨19,ud,[]⟩,[]⟩,⟨.exit 0,⟨19,[],[]⟩,[]⟩],Ap⟩
def afp:LT:=bJ.add 0 afo
theorem afq:aZ P 0 afp (bk f58):=lA Q2 (bL _ _ _)
def IG(d:LG):Option LG :=
 (bh true (cn Ap [.l (gi d 0).rZ,.l [(a8 [.str,.list aK] (gi d 1).rV)],.l [(a8 aK (gi d 2).rV)],.i (((gi d 0).rZ.length:Nat):Int),.i 0]) fun g h=>(bif ar g 0 then some [.i (gi h 0).iV] else some [.i (-1)]))
def afr:aO:=⟨58,[.s (.list dp),.clo 35 [.cptr [.str,.list aK],.cptr aK]],[],[],[aq],[],[],[],IG⟩
def t95:aH:=t94.bp afr
theorem afs:aJ P t95:=tP Q2 func58 afq

def Ec(d:LG):Option LG :=
 (aG (IG [.l (gi d 0).rZ,.l [(a8 [.str,.list aK] (gi d 1).rV)],.l [(a8 aK (gi d 2).rV)]]) fun g=>some [.t (bC 0 (gi g 0).iV)])
def aft:aO:=⟨34,[.s (.list dp),.clo 35 [.cptr [.str,.list aK],.cptr aK]],[],[],[da],[],[],[],Ec⟩
def t96:aH:=t95.bp aft
theorem Q3:aJ P t96:=cY afs func34

def qs(d:LG):Option (Option Nat × LG) :=
 let g:=(((gi d 1).rZ.length:Nat):Int); (bif (ax (gi d 4).iV (gi d 3).iV) then (gd ((aM (gi d 4).iV)&&(ax (gi d 4).iV (((gi d 2).rZ.length:Nat):Int))) (bif (bC g (gi d 4).iV) then some (some 0,[.i 1]) else (gd ((aM (gi d 4).iV)&&(ax (gi d 4).iV g)) (aG (wN [.i (gi ((gi d 2).rZ.getD (((gi d 4).iV).toNat) []) 0).iV,.i (gi ((gi d 1).rZ.getD (((gi d 4).iV).toNat) []) 0).iV]) fun h=>(bif ((gi h 0).iV != 0) then some (some 0,[.i (gi h 0).iV]) else (gd (aB ((gi d 4).iV+1)) (some (none,[.l (gi d 0).rZ,.l (gi d 1).rZ,.l (gi d 2).rZ,.i (gi d 3).iV,.i ((gi d 4).iV+1)])))))))) else some (some 1,[.l (gi d 0).rZ,.l (gi d 1).rZ]))
def afu:bG:=⟨2,[],⟨36,[(0,gR),(1,gR),(9,gR),(10,aq),(11,aq)],[]⟩,[],[⟨.ret,⟨36,ud,[]⟩,[]⟩,⟨.exit 0,⟨36,[(0,gR),(1,gR)],[]⟩,[]⟩],qs⟩
def afv:LT:=bJ.add 0 afu
theorem afw:aZ P 0 afv (bk f131):=lA Q3 (bL _ _ _)
def Ed(d:LG):Option LG :=
 (bh true (cn qs [.l (gi d 0).rZ,.l (gi d 1).rZ,.l (gi d 0).rZ,.i (((gi d 0).rZ.length:Nat):Int),.i 0]) fun h g=>(bif ar h 0 then some [.i (gi g 0).iV] else (bif (ax (((gi g 0).rZ.length:Nat):Int) (((gi g 1).rZ.length:Nat):Int)) then some [.i (-1)] else some [.i 0])))
def afx:aO:=⟨131,[gR,gR],[],[],[aq],[],[],[],Ed⟩
def t97:aH:=t96.bp afx
theorem afy:aJ P t97:=tP Q3 func131 afw

def IH(d:LG):Option LG :=
 (aG (Ed [.l [[.i (gi (gi d 0).rV 0).iV],[.i (gi (gi d 0).rV 1).iV]],.l [[.i (gi (gi d 1).rV 0).iV],[.i (gi (gi d 1).rV 1).iV]]]) fun g=>some [.i (gi g 0).iV])
def afz:aO:=⟨130,[.s (.row [.I,.I]),.s (.row [.I,.I])],[],[],[aq],[],[],[],IH⟩
def t98:aH:=t97.bp afz
theorem Q4:aJ P t98:=cY afy func130

def ug(d:LG):Option (Option Nat × LG) :=
 let g:=(((gi d 1).rZ.length:Nat):Int); (bif (ax (gi d 4).iV (gi d 3).iV) then (gd ((aM (gi d 4).iV)&&(ax (gi d 4).iV (((gi d 2).rZ.length:Nat):Int))) (bif (bC g (gi d 4).iV) then some (some 0,[.i 1]) else (gd ((aM (gi d 4).iV)&&(ax (gi d 4).iV g)) (aG (IH [.l [(a8 [.I,.I] ((gi d 2).rZ.getD (((gi d 4).iV).toNat) []))],.l [(a8 [.I,.I] ((gi d 1).rZ.getD (((gi d 4).iV).toNat) []))]]) fun h=>(bif ((gi h 0).iV != 0) then some (some 0,[.i (gi h 0).iV]) else (gd (aB ((gi d 4).iV+1)) (some (none,[.l (gi d 0).rZ,.l (gi d 1).rZ,.l (gi d 2).rZ,.i (gi d 3).iV,.i ((gi d 4).iV+1)])))))))) else some (some 1,[.l (gi d 0).rZ,.l (gi d 1).rZ]))
def afA:bG:=⟨2,[],⟨39,[(0,.s (.list [.I,.I])),(1,.s (.list [.I,.I])),(2,.s (.fn 130)),(11,.s (.list [.I,.I])),(12,aq),(13,aq)],[]⟩,[],[⟨.ret,⟨39,[(6,aq)],[]⟩,[]⟩,⟨.exit 0,⟨39,[(0,.s (.list [.I,.I])),(1,.s (.list [.I,.I]))],[]⟩,[]⟩],ug⟩
def afB:LT:=bJ.add 0 afA
theorem afC:aZ P 0 afB (bk f129):=lA Q4 (bL _ _ _)
def Ee(d:LG):Option LG :=
 (bh true (cn ug [.l (gi d 0).rZ,.l (gi d 1).rZ,.l (gi d 0).rZ,.i (((gi d 0).rZ.length:Nat):Int),.i 0]) fun h g=>(bif ar h 0 then some [.i (gi g 0).iV] else (bif (ax (((gi g 0).rZ.length:Nat):Int) (((gi g 1).rZ.length:Nat):Int)) then some [.i (-1)] else some [.i 0])))
def afD:aO:=⟨129,[.s (.list [.I,.I]),.s (.list [.I,.I]),.s (.fn 130)],[],[],[aq],[],[],[],Ee⟩
def t99:aH:=t98.bp afD
theorem afE:aJ P t99:=tP Q4 func129 afC

def xf(d:LG):Option LG :=
 let g:=(((gi (gi d 0).rV 0).rZ.length:Nat):Int); let h:=(((gi (gi d 1).rV 0).rZ.length:Nat):Int); (bif (g != h) then some [.t (ax h g)] else (bif ((gi (gi d 0).rV 1).iV != (gi (gi d 1).rV 1).iV) then some [.t (ax (gi (gi d 0).rV 1).iV (gi (gi d 1).rV 1).iV)] else (aG (Ee [.l (gi (gi d 0).rV 0).rZ,.l (gi (gi d 1).rV 0).rZ]) fun k=>some [.t (ax (gi k 0).iV 0)])))
def afF:aO:=⟨103,[.s (.row [.list [.I,.I],.I]),.s (.row [.list [.I,.I],.I])],[],[],[da],[],[],[],xf⟩
def t100:aH:=t99.bp afF
theorem afG:aJ P t100:=cY afE func103

def Aq(d:LG):Option LG :=
 let g:=(gi d 0).iV-(gi d 1).iV; let h:=(gi d 1).iV-(gi d 0).iV; (gd (aB g) (gd (aB h) (some [.i (if h>g then h else g)])))
def afH:aO:=⟨104,[aq,aq],[],[],[aq],[],[],[],Aq⟩
def t101:aH:=t100.bp afH
theorem afI:aJ P t101:=cY afG func104

def Ar(d:LG):Option LG :=
 (bif ((gi (gi d 0).rV 2).sV.toList==(gi (gi d 1).rV 2).sV.toList) then (bif ((gi (gi d 0).rV 1).iV==(gi (gi d 1).rV 1).iV) then (aG (Aq [.i (gi (gi d 0).rV 0).iV,.i (gi (gi d 1).rV 0).iV]) fun g=>some [.t (bC (gi g 0).iV (gi d 2).iV)]) else some [.t false]) else some [.t false])
def afJ:aO:=⟨82,[.s (.row aK),.s (.row aK),aq],[],[],[da],[],[],[],Ar⟩
def t102:aH:=t101.bp afJ
theorem As:aJ P t102:=cY afI func82

def Au(d:LG):Option (Option Nat × LG) :=
 let g:=((((gi d 9).rZ.length:Nat):Int)+1); let h:=(((gi d 11).iV.toNat:Nat):Int); let k:=(cC (g.toNat) ([.l [],.i 0]:LG)); let q:=(((gi d 7).iV.toNat:Nat):Int); let v:=0+((gi d 13).iV).toNat; (bif (ax (gi d 13).iV (gi d 12).iV) then (gd (aB g) (gd ((aM g)&&((bC g g)&&(bC g 1048576))) (gd ((aM (gi d 13).iV)&&(ax (gi d 13).iV h)) (gd (((ar g.toNat k.length)&&(cS 0 g.toNat))&&((ar v (gi d 6).rZ.length)&&(cS v (gi d 7).iV.toNat))) (gd (aB ((gi d 13).iV+1)) (some (none,[.s (gi d 0).sV,.l (gi d 1).rZ,.s (gi d 2).sV,.l (gi d 3).rZ,.l (gi d 4).rZ,.i (gi d 5).iV,.l ((gi d 6).rZ++[[.l k]]),.i q,.l (gi d 8).rZ,.l (gi d 9).rZ,.i (gi d 10).iV,.i h,.i (gi d 12).iV,.i ((gi d 13).iV+1)]))))))) else some (some 0,[.s (gi d 0).sV,.l (gi d 1).rZ,.s (gi d 2).sV,.l (gi d 3).rZ,.l (gi d 4).rZ,.i (gi d 5).iV,.l (gi d 6).rZ,.i q,.l (gi d 8).rZ,.l (gi d 9).rZ,.i (gi d 10).iV,.i h]))
def afK:bG:=⟨3,[],⟨139,[(2,gR),(3,gR),(4,aq),(5,.s (.ptr 0 0)),(6,.s (.ptr 1 0)),(10,.s (.ptr 2 0)),(11,.s (.pre 3 1)),(26,aq),(27,aq)],zQ⟩,[.ay 5,.ay 6,.ay 10,.ay 11],[⟨.exit 0,⟨139,[(2,gR),(3,gR),(4,aq),(5,.s (.ptr 0 0)),(6,.s (.ptr 1 0)),(10,.s (.ptr 2 0)),(11,.s (.pre 3 1))],zQ⟩,[.ay 5,.ay 6,.ay 10,.ay 11]⟩],Au⟩
def Q5:LT:=(bJ.tQ [(2,[.cM 11 1]),(17,[.hole aK,.hole aK]),(20,[.hole [.list [.I,.I],.I]])]).add 0 afK
theorem afL:aZ P 0 Q5 (bk f76):=aZ.add hm (As.jn [2100098]) (by kernel_rfl) (qk _) (fun d=>by kernel_rfl)
def Av(d:LG):Option (Option Nat × LG) :=
 let q:=((gi d 13).iV).toNat; let v:=(((gi d 11).iV.toNat:Nat):Int); let k:=(gi d 13).iV+1; let z8:=gi ((gi d 8).rZ.getD (((gi d 12).iV).toNat) []) 0; let M:=(aM (gi d 12).iV)&&(ax (gi d 12).iV v); let z12:=((aM (gi d 12).iV)&&(ax (gi d 12).iV (((gi d 8).rZ.length:Nat):Int))); let z13:=((aM (gi d 13).iV)&&(ax (gi d 13).iV (((gi d 9).rZ.length:Nat):Int))); let z15:=gi ((gi d 9).rZ.getD q []) 0; let N:=(((gi d 7).iV.toNat:Nat):Int); let h:=(gi d 13).iV-1; let z20:=Ar [.l [(a8 aK ((gi d 1).rZ.getD ((z8.iV).toNat) []))],.l [(a8 aK ((gi d 3).rZ.getD ((z15.iV).toNat) []))],.i (gi d 10).iV]; let z22:=Aq [.i (gi ((gi d 1).rZ.getD ((z8.iV).toNat) []) 0).iV,.i (gi ((gi d 3).rZ.getD ((z15.iV).toNat) []) 0).iV]; let O:=(gi d 12).iV+1; let z3:=kl (gi d 6).rZ (0+O.toNat); let z10:=cS (0+O.toNat) (gi d 6).rZ.length; let z21:=z3.getD (k.toNat) []; let z1:=(([[.i z8.iV,.i z15.iV]]:LL)++(gi z21 0).rZ); let z24:=((aM z15.iV)&&(ax z15.iV (((gi d 3).rZ.length:Nat):Int))); let z25:=((aM z8.iV)&&(ax z8.iV (((gi d 1).rZ.length:Nat):Int))); let z27:=(aM O)&&(ax O v); let z28:=decide ((1+(gi z21 0).rZ.length)<=1048576); let z29:=((aM k)&&(ax k ((z3.length:Nat):Int))); let U:=z3.getD q []; let z31:=(ar z1.length z1.length)&&true; let z32:=z10&&(cS k.toNat z3.length); let V:=0+((gi d 12).iV).toNat; let g:=kl (gi d 6).rZ V; let y:=cS V (gi d 6).rZ.length; let z9:=((aM (gi d 13).iV)&&(ax (gi d 13).iV ((g.length:Nat):Int))); let W:=y&&(cS ((gi d 13).iV).toNat g.length); let z17:=(gi d 6).rZ.set V [.l (g.set q (eo [.list [.I,.I],.I] (g.getD q []) 0 [.l (gi U 0).rZ,.i (gi U 1).iV]))]; let z26:=g.getD (k.toNat) []; let z16:=(gi d 6).rZ.set V [.l (g.set q (eo [.list [.I,.I],.I] (g.getD q []) 0 [.l (gi z26 0).rZ,.i (gi z26 1).iV]))]; (bif (bC 0 (gi d 13).iV) then (gd (aB O) (gd z27 (gd z10 (gd ((aM (gi d 13).iV)&&(ax (gi d 13).iV ((z3.length:Nat):Int))) (gd (z10&&(cS ((gi d 13).iV).toNat z3.length)) (gd M (gd y (gd (aB k) (gd ((aM k)&&(ax k ((g.length:Nat):Int))) (gd (y&&(cS k.toNat g.length)) (aG (xf [.l [[.l (gi z26 0).rZ,.i (gi z26 1).iV]],.l [[.l (gi U 0).rZ,.i (gi U 1).iV]]]) fun g2=>(bif (gi g2 0).bV then (gd z12 (gd z25 (gd z13 (gd z24 (aG z20 fun g3=>(bif (gi g3 0).bV then (gd (aB O) (gd z27 (gd z10 (gd (aB k) (gd z29 (gd z32 (gd z12 (gd z13 (gd z28 (aG z22 fun g4=>let z34:=(gi z21 1).iV+(gi g4 0).iV; (gd (aB z34) (gd z31 (aG (xf [.l [[.l z1,.i z34]],.l [[.l (gi z26 0).rZ,.i (gi z26 1).iV]]]) fun g5=>(bif (gi g5 0).bV then (gd M (gd y (gd z9 (gd W (gd (aB h) (some (none,[.s (gi d 0).sV,.l (gi d 1).rZ,.s (gi d 2).sV,.l (gi d 3).rZ,.l (gi d 4).rZ,.i (gi d 5).iV,.l ((gi d 6).rZ.set V [.l (g.set q (eo [.list [.I,.I],.I] (g.getD q []) 0 [.l z1,.i z34]))]),.i N,.l (gi d 8).rZ,.l (gi d 9).rZ,.i (gi d 10).iV,.i v,.i (gi d 12).iV,.i h]))))))) else (gd M (gd y (gd z9 (gd W (gd (aB h) (some (none,[.s (gi d 0).sV,.l (gi d 1).rZ,.s (gi d 2).sV,.l (gi d 3).rZ,.l (gi d 4).rZ,.i (gi d 5).iV,.l z16,.i N,.l (gi d 8).rZ,.l (gi d 9).rZ,.i (gi d 10).iV,.i v,.i (gi d 12).iV,.i h]))))))))))))))))))))) else (gd M (gd y (gd z9 (gd W (gd (aB h) (some (none,[.s (gi d 0).sV,.l (gi d 1).rZ,.s (gi d 2).sV,.l (gi d 3).rZ,.l (gi d 4).rZ,.i (gi d 5).iV,.l z16,.i N,.l (gi d 8).rZ,.l (gi d 9).rZ,.i (gi d 10).iV,.i v,.i (gi d 12).iV,.i h]))))))))))))) else (gd z12 (gd z25 (gd z13 (gd z24 (aG z20 fun g6=>(bif (gi g6 0).bV then (gd (aB O) (gd z27 (gd z10 (gd (aB k) (gd z29 (gd z32 (gd z12 (gd z13 (gd z28 (aG z22 fun g7=>let z35:=(gi z21 1).iV+(gi g7 0).iV; (gd (aB z35) (gd z31 (aG (xf [.l [[.l z1,.i z35]],.l [[.l (gi U 0).rZ,.i (gi U 1).iV]]]) fun g8=>(bif (gi g8 0).bV then (gd M (gd y (gd z9 (gd W (gd (aB h) (some (none,[.s (gi d 0).sV,.l (gi d 1).rZ,.s (gi d 2).sV,.l (gi d 3).rZ,.l (gi d 4).rZ,.i (gi d 5).iV,.l ((gi d 6).rZ.set V [.l (g.set q (eo [.list [.I,.I],.I] (g.getD q []) 0 [.l z1,.i z35]))]),.i N,.l (gi d 8).rZ,.l (gi d 9).rZ,.i (gi d 10).iV,.i v,.i (gi d 12).iV,.i h]))))))) else (gd M (gd y (gd z9 (gd W (gd (aB h) (some (none,[.s (gi d 0).sV,.l (gi d 1).rZ,.s (gi d 2).sV,.l (gi d 3).rZ,.l (gi d 4).rZ,.i (gi d 5).iV,.l z17,.i N,.l (gi d 8).rZ,.l (gi d 9).rZ,.i (gi d 10).iV,.i v,.i (gi d 12).iV,.i h]))))))))))))))))))))) else (gd M (gd y (gd z9 (gd W (gd (aB h) (some (none,[.s (gi d 0).sV,.l (gi d 1).rZ,.s (gi d 2).sV,.l (gi d 3).rZ,.l (gi d 4).rZ,.i (gi d 5).iV,.l z17,.i N,.l (gi d 8).rZ,.l (gi d 9).rZ,.i (gi d 10).iV,.i v,.i (gi d 12).iV,.i h]))))))))))))))))))))))))) else some (some 0,[.s (gi d 0).sV,.l (gi d 1).rZ,.s (gi d 2).sV,.l (gi d 3).rZ,.l (gi d 4).rZ,.i (gi d 5).iV,.l (gi d 6).rZ,.i N,.l (gi d 8).rZ,.l (gi d 9).rZ,.i (gi d 10).iV,.i v,.i (gi d 12).iV]))
def afM:bG:=⟨11,[],⟨139,[(2,gR),(3,gR),(4,aq),(5,.s (.ptr 0 0)),(6,.s (.ptr 1 0)),(10,.s (.ptr 2 0)),(11,.s (.pre 3 1)),(13,aq),(14,aq)],zQ⟩,[.ay 5,.ay 6,.ay 10,.ay 11],[⟨.exit 4,⟨139,PV,zQ⟩,[.ay 5,.ay 6,.ay 10,.ay 11]⟩],Av⟩
def Q6:LT:=Q5.add 0 afM
theorem afN:aZ P 0 Q6 (bk f76):=aZ.add hm (As.jn [2100098]) (by kernel_rfl) afL (fun d=>by kernel_rfl)
def Aw(d:LG):Option (Option Nat × LG) :=
 let h:=((((gi d 9).rZ.length:Nat):Int)-1); let k:=(((gi d 11).iV.toNat:Nat):Int); let q:=(((gi d 7).iV.toNat:Nat):Int); (bif (bC 0 (gi d 12).iV) then (gd (aB h) (bh true (cn Av [.s (gi d 0).sV,.l (gi d 1).rZ,.s (gi d 2).sV,.l (gi d 3).rZ,.l (gi d 4).rZ,.i (gi d 5).iV,.l (gi d 6).rZ,.i q,.l (gi d 8).rZ,.l (gi d 9).rZ,.i (gi d 10).iV,.i k,.i (gi d 12).iV,.i h]) fun v g=>(gd (aB ((gi g 12).iV-1)) (some (none,[.s (gi g 0).sV,.l (gi g 1).rZ,.s (gi g 2).sV,.l (gi g 3).rZ,.l (gi g 4).rZ,.i (gi g 5).iV,.l (gi g 6).rZ,.i (((gi g 7).iV.toNat:Nat):Int),.l (gi g 8).rZ,.l (gi g 9).rZ,.i (gi g 10).iV,.i (((gi g 11).iV.toNat:Nat):Int),.i ((gi g 12).iV-1)]))))) else some (some 0,[.l (gi d 4).rZ,.i (gi d 5).iV,.l (gi d 6).rZ,.i q,.i k]))
def afO:bG:=⟨8,[],⟨139,PV,zQ⟩,[.ay 5,.ay 6,.ay 10,.ay 11],[⟨.exit 2,⟨139,[(10,.s (.ptr 0 0)),(11,.s (.pre 1 1))],[.box [.list [.I,.I],.I],.cM 1 [.list [.I,.I],.I]]⟩,[.ay 10,.ay 11]⟩],Aw⟩
def afP:LT:=Q6.add 0 afO
theorem afQ:aZ P 0 afP (bk f76):=aZ.add hm (As.jn [2100098]) (by kernel_rfl) afN (fun d=>by kernel_rfl)
def Ef(d:LG):Option LG :=
 let h:=((((gi d 2).rZ.length:Nat):Int)+1); let v:=(cC (h.toNat) ([.l []]:LG)); (gd (aB h) (gd ((aM h)&&((bC h h)&&(bC h 1048576))) (gd ((cS 0 v.length)&&true) (bh true (cn Au [.s (gi (gi d 0).rV 0).sV,.l (gi (gi d 0).rV 1).rZ,.s (gi (gi d 1).rV 0).sV,.l (gi (gi d 1).rV 1).rZ,.l [],.i 0,.l [],.i ((v.length:Nat):Int),.l (gi d 2).rZ,.l (gi d 3).rZ,.i (gi d 4).iV,.i ((h.toNat:Nat):Int),.i ((h.toNat:Nat):Int),.i 0]) fun N g=>let y:=((((gi g 8).rZ.length:Nat):Int)-1); (gd (aB y) (bh true (cn Aw [.s (gi g 0).sV,.l (gi g 1).rZ,.s (gi g 2).sV,.l (gi g 3).rZ,.l (gi g 4).rZ,.i (gi g 5).iV,.l (gi g 6).rZ,.i (((gi g 7).iV.toNat:Nat):Int),.l (gi g 8).rZ,.l (gi g 9).rZ,.i (gi g 10).iV,.i (((gi g 11).iV.toNat:Nat):Int),.i y]) fun M q=>let k:=kl (gi q 2).rZ 0; let I:=cS 0 (gi q 2).rZ.length; (gd (ax 0 (((gi q 4).iV.toNat:Nat):Int)) (gd I (gd (ax 0 ((k.length:Nat):Int)) (gd (I&&(cS 0 k.length)) (some [.l [[.l (gi (k.getD 0 []) 0).rZ,.i (gi (k.getD 0 []) 1).iV]]])))))))))))
def afR:aO:=⟨76,[nr,nr,gR,gR,aq],[],[],[.s (.row [.list [.I,.I],.I])],[],[],[],Ef⟩
def t103:aH:=t102.bp afR
theorem Q7:aJ P t103:=As.aP (mw hm (As.jn [2100098]) func76 (by kernel_rfl) afQ (fun d=>by kernel_rfl) (by kernel_rfl))

def xg(d:LG):Option LG :=
 let g:=(gi (gi d 0).rV 0).iV-(gi (gi d 1).rV 0).iV; (gd (aB g) (aG (rM [.i g]) fun h=>some [.i (gi h 0).iV]))
def Q8:aO:=⟨78,[.s (.row [.I,.I]),.s (.row [.I,.I])],[],[],[aq],[],[],[],xg⟩
theorem Q9:iT P Q8:=jU hm Q7 func78 (bL _ _ _) (fun d=>by kernel_rfl)
def t104:aH:=t103.bp Q8
theorem afS:aJ P t104:=Q7.aP Q9

def Eg(d:LG):Option LG :=
 tV xg d
def Q_:aO:=⟨77,[.s (.vQ 0 2),.s (.fn 78)],[.vQ [.I,.I] 0],[.ay 0],[],[.vQ [.I,.I] 0],[.fix 0],[],Eg⟩
theorem afT:iT P Q_:=fun d r h=>Oe Tryz.OF [.I,.I] (by kernel_rfl) isAgg126 sizeOf126 78 (by kernel_rfl) xg (fun d r h=>Q9 d r h) d r h
def t105:aH:=t104.dO Q_
theorem Ax:aJ P t105:=afS.aW afT

def pn(d:LG):Option (Option Nat × LG) :=
 let q:=([[.i (gi d 13).iV]]:LL); let y:=(aM (gi d 7).iV)&&(ax (gi d 7).iV 2); let I:=(gi d 11).rZ.getD (((gi d 13).iV).toNat) []; let W:=((gi I 2).sV++(⟨#[32]⟩:BY)); let v:=(gi d 13).iV+1; let N:=ar ((gi d 7).iV).toNat 0; let z7:=(((gi d 5).iV.toNat:Nat):Int); (bif (ax (gi d 13).iV (gi d 12).iV) then (gd ((aM (gi d 13).iV)&&(ax (gi d 13).iV (((gi d 11).rZ.length:Nat):Int))) (gd y (bif ((gi I 3).sV.toList==(gi (([[.s (gi d 2).sV],[.s (gi d 0).sV]]:LL).getD (((gi d 7).iV).toNat) []) 0).sV.toList) then (gd (Nat.ble ((gi I 2).sV.size+1) 9223372036854775807) (aG (pg [.i (gi I 1).iV]) fun g1=>let h:=W++(gi g1 0).sV; let k:=mq [.str] (gi d 4).rZ [.s h] 0; let g:=mq [.str] (gi d 4).rZ [.s h] 1; let M:=gn [.str] (gi d 4).rZ [.s h]; let O:=(((dG [.str] M [.s h] (gi d 5).iV.toNat):Nat):Int); let U:=ar g.length g.length; let V:=ar k.length k.length; (gd (Nat.ble (W.size+(gi g1 0).sV.size) 9223372036854775807) (gd (eT [.str] (gi d 4).rZ [.s h]) (gd y (bif N then (gd (V&&(decide ((k.length+1)<=1048576))) (gd y (gd N (gd ((ar (k++q).length (k++q).length)&&U) (gd (aB v) (some (none,[.s (gi d 0).sV,.l (gi d 1).rZ,.s (gi d 2).sV,.l (gi d 3).rZ,.l (tz [.str] M [.s h] (k++q) g (gi d 5).iV.toNat),.i O,.i (gi d 6).iV,.i (gi d 7).iV,.l (gi d 8).rZ,.i (gi d 9).iV,.i (gi d 10).iV,.l (gi d 11).rZ,.i (gi d 12).iV,.i v]))))))) else (gd (U&&(decide ((g.length+1)<=1048576))) (gd y (bif N then none else (gd (V&&(ar (g++q).length (g++q).length)) (gd (aB v) (some (none,[.s (gi d 0).sV,.l (gi d 1).rZ,.s (gi d 2).sV,.l (gi d 3).rZ,.l (tz [.str] M [.s h] k (g++q) (gi d 5).iV.toNat),.i O,.i (gi d 6).iV,.i (gi d 7).iV,.l (gi d 8).rZ,.i (gi d 9).iV,.i (gi d 10).iV,.l (gi d 11).rZ,.i (gi d 12).iV,.i v]))))))))))))) else (gd (aB v) (some (none,[.s (gi d 0).sV,.l (gi d 1).rZ,.s (gi d 2).sV,.l (gi d 3).rZ,.l (gi d 4).rZ,.i z7,.i (gi d 6).iV,.i (gi d 7).iV,.l (gi d 8).rZ,.i (gi d 9).iV,.i (gi d 10).iV,.l (gi d 11).rZ,.i (gi d 12).iV,.i v])))))) else some (some 0,[.s (gi d 0).sV,.l (gi d 1).rZ,.s (gi d 2).sV,.l (gi d 3).rZ,.l (gi d 4).rZ,.i z7,.i (gi d 6).iV,.l (gi d 8).rZ,.i (gi d 9).iV,.i (gi d 10).iV]))
def afU:bG:=⟨6,[],⟨89,[(2,aq),(3,.s (.ptr 0 0)),(4,.s (.ptr 1 0)),(7,.s (.map 2)),(8,aq),(20,.s (.list [.str,.list aK])),(21,aq),(22,aq),(28,jH),(29,aq),(30,aq)],Dw⟩,[.ay 3,.ay 4,.ay 7],[⟨.exit 2,⟨89,PW,Dw⟩,[.ay 3,.ay 4,.ay 7]⟩],pn⟩
def Ra:LT:=(bJ.tQ [(2,[.bH 7 1]),(15,[.HU 7])]).add 0 afU
theorem afV:aZ P 0 Ra (bk f60):=aZ.add hm (Ax.jn [1500127]) (by kernel_rfl) (qk _) (fun d=>by kernel_rfl)
def po(d:LG):Option (Option Nat × LG) :=
 let h:=gi ((gi d 7).rZ.getD (((gi d 9).iV).toNat) []) 1; let k:=(((gi d 5).iV.toNat:Nat):Int); (bif (ax (gi d 9).iV (gi d 8).iV) then (gd ((aM (gi d 9).iV)&&(ax (gi d 9).iV (((gi d 7).rZ.length:Nat):Int))) (bh true (cn pn [.s (gi d 0).sV,.l (gi d 1).rZ,.s (gi d 2).sV,.l (gi d 3).rZ,.l (gi d 4).rZ,.i k,.i (gi d 6).iV,.i (gi d 9).iV,.l (gi d 7).rZ,.i (gi d 8).iV,.i (gi d 9).iV,.l h.rZ,.i ((h.rZ.length:Nat):Int),.i 0]) fun q g=>(gd (aB ((gi g 9).iV+1)) (some (none,[.s (gi g 0).sV,.l (gi g 1).rZ,.s (gi g 2).sV,.l (gi g 3).rZ,.l (gi g 4).rZ,.i (((gi g 5).iV.toNat:Nat):Int),.i (gi g 6).iV,.l (gi g 7).rZ,.i (gi g 8).iV,.i ((gi g 9).iV+1)]))))) else some (some 0,[.s (gi d 0).sV,.l (gi d 1).rZ,.s (gi d 2).sV,.l (gi d 3).rZ,.l (gi d 4).rZ,.i k,.i (gi d 6).iV]))
def afW:bG:=⟨3,[],⟨89,PW,Dw⟩,[.ay 3,.ay 4,.ay 7],[⟨.exit 0,⟨89,[(2,aq),(3,.s (.ptr 0 0)),(4,.s (.ptr 1 0)),(7,.s (.map 2))],Dw⟩,[.ay 3,.ay 4,.ay 7]⟩],po⟩
def II:LT:=Ra.add 0 afW
theorem afX:aZ P 0 II (bk f60):=aZ.add hm (Ax.jn [1500127]) (by kernel_rfl) afV (fun d=>by kernel_rfl)
def Eh(r d:LG):Option LG :=
 (aG (Ef [.l [(a8 [.str,.list aK] d)],.l [[.s (gi d 2).sV,.l (gi d 3).rZ]],.l (gi (gi r 1).rV 0).rZ,.l (gi (gi r 1).rV 1).rZ,.i (gi d 5).iV]) fun h=>let g:=(gi d 4).rZ++(gi (gi h 0).rV 0).rZ; (gd ((ar (gi d 4).rZ.length (gi d 4).rZ.length)&&(decide (((gi d 4).rZ.length+(gi (gi h 0).rV 0).rZ.length)<=1048576))) (gd ((ar g.length g.length)&&true) (some [.s (gi d 0).sV,.l (gi d 1).rZ,.s (gi d 2).sV,.l (gi d 3).rZ,.l g,.i (gi d 5).iV,.i (((gi d 6).iV.toNat:Nat):Int)]))))
def afY(d:LG)(b:Nat):LG:=[.s (gi d 0).sV,.l (gi d 1).rZ,.s (gi d 2).sV,.l (gi d 3).rZ,.l (gi d 6).rZ,.i (gi d 7).iV,.i (b:Int)]
def afZ(d:LG)(b:Nat):Bool:=((ar (gi d 6).rZ.length (gi d 6).rZ.length)&&true)
def Ei:jS:=⟨⟨89,PX,PL⟩,[.ay 3,.ay 4,.ay 14],[],(.one (.str)),(.agg [.list [.I],.list [.I]]),2,0,69,70,71,72,73,fun d=>(gi d 6).iV.toNat,afY,afZ,Eh⟩
theorem af0:tR P (t105.jn [1500127]) II 0 Ei (zH (fT f60 16)) (Dc (fT f60 16)):=fun r d=>by kernel_rfl
def Ej(d:LG):Option (Option Nat × LG) :=
 let g:=Eg [.l (gi d 4).rZ]; (mz (((ar (gi d 4).rZ.length (gi d 4).rZ.length)&&true)&&g.isSome) g fun h=>(gd ((ar (gi d 4).rZ.length (gi h 0).rZ.length)&&true) (some (some 0,[.l (gi h 0).rZ]))))
def af1:bG:=⟨20,[],⟨89,PX,PL⟩,[],[⟨.ret,⟨89,[(6,.s (.vQ 0 2))],Dv⟩,[.ay 6]⟩],Ej⟩
def IJ(d:LG):Option (Option Nat × LG) :=
 qm Ei Ej (gi d 4).rZ ((gi d 5).iV.toNat) d
def IK:bG:=⟨16,[(14,[.I,.I])],⟨89,[(2,aq),(3,.s (.ptr 0 0)),(4,.s (.ptr 1 0)),(7,.s (.map 2)),(14,.s (.vQ 3 2))],[.box [.str,.list aK],.box [.str,.list aK],.map (.one (.str)) (.agg [.list [.I],.list [.I]]),.vQ [.I,.I] 0]⟩,[.ay 3,.ay 4,.ay 7,.ay 14],[⟨.ret,⟨89,[(6,.s (.vQ 0 2))],Dv⟩,[.ay 6]⟩],IJ⟩
def af2:LT:=II.fU 0 IK
theorem af3:aZ P 0 af2 (bk f60):=aZ.N_ (q:=IK) (qr:=af1) (sp:=Ei) (r0:=16) (b0:=4) (r1:=17) (b1:=5) (r2:=18) (rZ:=fun d=>(gi d 4).rZ) (clock:=fun d=>(gi d 5).iV.toNat) (pre:=fun d=>N9 P (t105.jn [1500127]) (wk (fT f60 16)) (ch IK.inv d)) hm (Ax.jn [1500127]) (by kernel_rfl) afX (by kernel_rfl) (by kernel_rfl) af0 (fun d=>by kernel_rfl) (fun d=>by kernel_rfl) (fun d=>by kernel_rfl) (fun d=>by kernel_rfl) (fun d=>by kernel_rfl) (fun d=>by kernel_rfl) (fun d b=>by kernel_rfl) (fun d b=>rfl) rfl rfl (fun d=>by kernel_rfl) (fun d=>rfl)
def Ay(d:LG):Option LG :=
 (bh true (cn po [.s (gi (gi d 0).rV 0).sV,.l (gi (gi d 0).rV 1).rZ,.s (gi (gi d 1).rV 0).sV,.l (gi (gi d 1).rV 1).rZ,.l [],.i 0,.i (gi d 2).iV,.l [(a8 [.str,.list aK] (gi d 0).rV),(a8 [.str,.list aK] (gi d 1).rV)],.i 2,.i 0]) fun k g=>(gd ((rI (gi g 4).rZ)&&true) (bh true (dC (IJ [.s (gi g 0).sV,.l (gi g 1).rZ,.s (gi g 2).sV,.l (gi g 3).rZ,.l (gi g 4).rZ,.i (((gi g 5).iV.toNat:Nat):Int),.l [],.i (gi g 6).iV])) fun q h=>(gd ((ar (gi h 0).rZ.length (gi h 0).rZ.length)&&true) (some [.l (gi h 0).rZ])))))
def af4:aO:=⟨60,[nr,nr,aq],[],[],[.s (.list [.I,.I])],[],[],[],Ay⟩
def t106:aH:=t105.bp af4
theorem Rb:aJ P t106:=Ax.aP (mw hm (Ax.jn [1500127]) func60 (by kernel_rfl) af3 (fun d=>by kernel_rfl) (by kernel_rfl))

def Az(d:LG):Option (Option Nat × LG) :=
 let g:=(gi d 1).rZ.getD (((gi d 3).iV).toNat) []; (bif (ax (gi d 3).iV (gi d 2).iV) then (gd ((aM (gi d 3).iV)&&(ax (gi d 3).iV (((gi d 1).rZ.length:Nat):Int))) (bif ((gi g 0).iV==(gi d 0).iV) then some (some 0,[.i (gi g 1).iV]) else (gd (aB ((gi d 3).iV+1)) (some (none,[.i (gi d 0).iV,.l (gi d 1).rZ,.i (gi d 2).iV,.i ((gi d 3).iV+1)]))))) else some (some 1,[]))
def af5:bG:=⟨2,[],⟨20,[(1,aq),(7,.s (.list [.I,.I])),(8,aq),(9,aq)],[]⟩,[],[⟨.ret,⟨20,ud,[]⟩,[]⟩,⟨.exit 0,⟨20,[],[]⟩,[]⟩],Az⟩
def af6:LT:=bJ.add 0 af5
theorem af7:aZ P 0 af6 (bk f59):=lA Rb (bL _ _ _)
def Ek(d:LG):Option LG :=
 (bh true (cn Az [.i (gi d 1).iV,.l (gi d 0).rZ,.i (((gi d 0).rZ.length:Nat):Int),.i 0]) fun g h=>(bif ar g 0 then some [.i (gi h 0).iV] else some [.i (-1)]))
def af8:aO:=⟨59,[.s (.list [.I,.I]),aq],[],[],[aq],[],[],[],Ek⟩
def t107:aH:=t106.bp af8
theorem af9:aJ P t107:=tP Rb func59 af7

def AA(d:LG):Option LG :=
 (bif ((gi (gi d 0).rV 5).iV==(gi (gi d 1).rV 4).iV) then some [.t ((gi (gi d 0).rV 7).sV.toList==(gi (gi d 1).rV 6).sV.toList)] else some [.t false])
def af_:aO:=⟨61,[.s (.row aK),.s (.row aK)],[],[],[da],[],[],[],AA⟩
def t108:aH:=t107.bp af_
theorem Rc:aJ P t108:=cY af9 func61

end
end Go.Proofs.jq
