/-
 What is proved here: functions of the program as functions on data. No condition.
-/
import Derived.Test.YtbogdflhnhohfaaGreatDoorML2
set_option linter.all false
open List renaming replicate->cB
open Nat renaming beq->aG
namespace Go.Proofs.iQ
open Go Go.AL Go.Proofs Tryz
noncomputable section
def xf(d:LG):Option (Option Nat × LG) :=
 let g:=aQ [.str,.list au] ((gi d 1).rZ.getD (((gi d 3).iV).toNat) []); (bif (aO (gi d 3).iV (gi d 2).iV) then (gd (nL (gi d 3).iV (lI (gi d 1).rZ)) (aB (Eh [.l [g],.l [[.i (gi d 3).iV]],.l [g],.l [[.l (gi d 0).rZ]]]) fun h=>(bif ((gi h 0).iV != 0) then eQ [.i (gi h 0).iV] else (gd (ay ((gi d 3).iV+1)) (some (none,kp d 0 [.l,.l,.i] [.i ((gi d 3).iV+1)])))))) else eR [])
def aed:br:=⟨4,[],⟨25,[(1,.s (.ptr 0 0)),(10,.s (.list [.str,.list au])),(11,ak),(12,ak)],[.box [.list [.str,.list au]]]⟩,[.aq 1],[⟨.ret,⟨25,w7,[]⟩,[]⟩,⟨.exit 0,⟨25,[],[]⟩,[]⟩],xf⟩
def aee:LT:=bH.add 0 aed
def aef:aT P 0 aee (be f50):=aT.add hm (Jj.ka [76]) (by kernel_rfl) (bI _ _ _) (fun d=>by kernel_rfl)
def l7(d:LG):Option LG :=
 let g:=(lI (gi d 0).rZ); (bif (aO 100 g) then some [.i 2] else (ba true (bN xf [.l (gi d 0).rZ,.l (gi d 0).rZ,.i g,.i 0]) fun h k=>(bif aG h 0 then some [.i (gi k 0).iV] else some [.i 0])))
def aeg:aL:=⟨50,[.s (.list [.str,.list au])],[],[],[ak],[],[],[],l7⟩
def t45:aD:=t44.bk aeg
def aeh:aI P t45:=Jj.aP (lZ hm (Jj.ka [76]) func50 (by kernel_rfl) aef (fun d=>by kernel_rfl) (by kernel_rfl))

def Ei(d:LG):Option LG :=
 (aB (se [.i (gi d 0).iV,.i 0,.i 3600000]) fun g=>(bif (gi g 0).bV then some [.i 1] else some [.i 0]))
def aei:aL:=⟨51,[ak],[],[],[ak],[],[],[],Ei⟩
def t46:aD:=t45.bk aei
def aej:aI P t46:=cU aeh func51

def Jk(d:LG):Option LG :=
 (aB (oP [.s (gi (gi d 0).rV 0).sV,.s (gi d 1).sV]) fun g=>some [.i (gi g 0).iV])
def aek:aL:=⟨55,[mM,bR],[],[],[ak],[],[],[],Jk⟩
def t47:aD:=t46.bk aek
def Rn:aI P t47:=cU aej func55

def xg(d:LG):Option (Option Nat × LG) :=
 let g:=vj .u64 (IntKind.u64.wrap ((gi d 3).iV+(gi d 4).iV)) 1; (bif (aO (gi d 3).iV (gi d 4).iV) then (gd (ay ((gi d 3).iV+(gi d 4).iV)) (gd (ay g) (gd (nL g (lI (gi d 0).rZ)) (aB (Jk [.l [(aQ [.str,.list au] ((gi d 0).rZ.getD (g.toNat) []))],.s (gi d 1).sV]) fun h=>(bif (aO (gi h 0).iV 0) then (gd (ay (g+1)) (some (none,kp d 0 [.l,.s,.i] [.i (g+1),.i (gi d 4).iV]))) else some (none,kp d 0 [.l,.s,.i,.i] [.i g])))))) else some (some 0,kp d 0 [.l,.s,.i,.i] []))
def ael:br:=⟨3,[],⟨49,[(0,.s (.list [.str,.list au])),(1,bR),(2,.s (.fn 55)),(8,ak),(9,ak),(10,ak)],[]⟩,[],[⟨.exit 0,⟨49,[(0,.s (.list [.str,.list au])),(1,bR),(2,.s (.fn 55)),(8,ak),(9,ak)],[]⟩,[]⟩],xg⟩
def aem:LT:=bH.add 0 ael
def aen:aT P 0 aem (be f54):=lA Rn (bI _ _ _)
def Jl(d:LG):Option LG :=
 let h:=(lI (gi d 0).rZ); (ba true (bN xg [.l (gi d 0).rZ,.s (gi d 1).sV,.i h,.i 0,.i h]) fun q g=>(bif (aO (gi g 3).iV (gi g 2).iV) then (gd (nL (gi g 3).iV (lI (gi g 0).rZ)) (aB (Jk [.l [(aQ [.str,.list au] ((gi g 0).rZ.getD (((gi g 3).iV).toNat) []))],.s (gi g 1).sV]) fun k=>some [.i (gi g 3).iV,.t ((gi k 0).iV==0)])) else some [.i (gi g 3).iV,.t false]))
def aeo:aL:=⟨54,[.s (.list [.str,.list au]),bR,.s (.fn 55)],[],[],[ak,cN],[],[],[],Jl⟩
def t48:aD:=t47.bk aeo
def aep:aI P t48:=tP Rn func54 aen

def ux(d:LG):Option LG :=
 (aB (Jl [.l (gi d 0).rZ,.s (gi d 1).sV]) fun g=>some [.i (gi g 0).iV,.t (gi g 1).bV])
def aeq:aL:=⟨24,[.s (.list [.str,.list au]),bR],[],[],[ak,cN],[],[],[],ux⟩
def t49:aD:=t48.bk aeq
def aer:aI P t49:=cU aep func24

def Ro(d:LG):Option LG :=
 some (kp d 0 [.l,.i,.i] [.l [],.i 0,.l [],.i 0])
def aes:aL:=⟨52,[.s (.list [.str,.list au]),ak,ak],[],[],[.s (.ptr 0 0)],[.box [.list [.str,.list au],.I,.I,.map 1,.map 2],.map (.one .I) (.one .I),.map (.one .I) (.one .I)],[.aq 0,.cell 0 3,.cell 0 4],[],Ro⟩
def t50:aD:=t49.dm aes
def Rp:aI P t50:=mL aer func52

def xh(d:LG):Option (Option Nat × LG) :=
 let g:=(gi d 3).rZ.getD (((gi d 5).iV).toNat) []; let h:=fj [.str,.I] (gi d 0).rZ [.s (gi g 2).sV,.i (gi g 1).iV]; let v:=(((ql [.str,.I] (gi d 0).rZ [.s (gi g 2).sV,.i (gi g 1).iV] ((gi d 1).iV.toNat)):Nat):Int); let y:=qm [.str,.I] (gi d 0).rZ [.s (gi g 2).sV,.i (gi g 1).iV] ((gi d 1).iV.toNat); let q:=(h++([[.i (gi d 5).iV]]:LL)); let k:=(gi d 5).iV+1; let M:=(((gi d 1).iV.toNat:Nat):Int); (bif (aO (gi d 5).iV (gi d 4).iV) then (gd (nL (gi d 5).iV (lI (gi d 3).rZ)) (bif ((gi g 3).sV.toList==(gi d 2).sV.toList) then (gd (eY [.str,.I] (gi d 0).rZ [.s (gi g 2).sV,.i (gi g 1).iV]) (gd ((aG h.length h.length)&&(decide ((h.length+1)<=1048576))) (gd ((vZ y v)&&(aG q.length q.length)) (gd (ay k) (some (none,.l (vY y v q)::.i (((dL [.str,.I] (gi d 0).rZ [.s (gi g 2).sV,.i (gi g 1).iV] ((gi d 1).iV.toNat)):Nat):Int)::kp d 2 [.s,.l,.i] [.i k])))))) else (gd (ay k) (some (none,.l (gi d 0).rZ::.i M::kp d 2 [.s,.l,.i] [.i k]))))) else eQ [.l (gi d 0).rZ,.i M])
def aet:br:=⟨3,[],⟨36,[(1,bR),(5,.s (.map 0)),(10,fK),(11,ak),(12,ak)],[.a7 1 (.agg [.str,.I]) [.I]]⟩,[.aq 5],[⟨.exit 0,⟨36,[(5,.s (.map 0))],[.a7 1 (.agg [.str,.I]) [.I]]⟩,[.aq 5]⟩],xh⟩
def aeu:LT:=(bH.rU [(2,[.a7 5 1]),(9,[.ID 5])]).add 0 aet
def aev:aT P 0 aeu (be f146):=lA Rp (pt _)
def AD(d:LG):Option LG :=
 (ba true (bN xh [.l [],.i 0,.s (gi d 1).sV,.l (gi d 0).rZ,.i (lI (gi d 0).rZ),.i 0]) fun h g=>(gd ((rT (gi g 0).rZ)&&true) (some [.l (gi g 0).rZ,.i (((gi g 1).iV.toNat:Nat):Int)])))
def aew:aL:=⟨146,[fK,bR],[],[],[.s (.map 0)],[.map (.agg [.str,.I]) (.one (.list [.I]))],[.aq 0],[],AD⟩
def t51:aD:=t50.dm aew
def aex:aI P t51:=tW Rp func146 aev

def xk(d:LG):Option LG :=
 let g:=(gi (gi d 0).rV 0).iV-(gi (gi d 1).rV 0).iV; let h:=(gi (gi d 1).rV 0).iV-(gi (gi d 0).rV 0).iV; (gd (ay g) (gd (ay h) (some [.i (if h>g then h else g)])))
def aey:aL:=⟨84,[.s (.row au),.s (.row au)],[],[],[ak],[],[],[],xk⟩
def t52:aD:=t51.bk aey
def aez:aI P t52:=cU aex func84

def uy(d:LG):Option LG :=
 (bif ((gi (gi d 0).rV 2).sV.toList==(gi (gi d 1).rV 2).sV.toList) then (bif ((gi (gi d 0).rV 1).iV==(gi (gi d 1).rV 1).iV) then (aB (xk [.l [(aQ au (gi d 0).rV)],.l [(aQ au (gi d 1).rV)]]) fun g=>some [.t (bp (gi g 0).iV (gi d 2).iV)]) else some [.t false]) else some [.t false])
def aeA:aL:=⟨63,[.s (.row au),.s (.row au),ak],[],[],[cN],[],[],[],uy⟩
def t53:aD:=t52.bk aeA
def aeB:aI P t53:=cU aez func63

def Ej(d:LG):Option LG :=
 let g:=gi ((gi d 2).rZ.getD (((gi d 6).iV).toNat) []) 0; let h:=gi ((gi d 3).rZ.getD (((gi d 7).iV).toNat) []) 0; let k:=aQ au ((gi d 0).rZ.getD ((g.iV).toNat) []); let q:=aQ au ((gi d 1).rZ.getD ((h.iV).toNat) []); (gd (nL (gi d 6).iV (lI (gi d 2).rZ)) (gd (nL g.iV (lI (gi d 0).rZ)) (gd (nL (gi d 7).iV (lI (gi d 3).rZ)) (gd (nL h.iV (lI (gi d 1).rZ)) (aB (xk [.l [k],.l [q]]) fun y=>let v:=10000000000-(gi y 0).iV; (gd (ay v) (aB (uy [.l [k],.l [q],.i (gi d 4).iV]) fun I=>(gd (((bE (gi d 5).rZ)&&true)&&true) (some (kp d 0 [.l,.l,.l,.l,.i,.l] [.i v,.t (gi I 0).bV]))))))))))
def aeC:aL:=⟨177,[.s (.ptr 0 0),ak,ak],[.box [.list au,.list au,.list [.I],.list [.I],.I,.vQ 1 1],.vQ [.list [.I]] 0],[.aq 0,.cell 0 5],[ak,cN],[.box [.list au,.list au,.list [.I],.list [.I],.I,.vQ 1 1],.vQ [.list [.I]] 0],[.fix 0,.fix 1],[],Ej⟩
def t54:aD:=t53.dm aeC
def Ek:aI P t54:=tW aeB func177 (pt [(1,[.hole au,.hole au])])

def AE(d:LG):Option (Option Nat × LG) :=
 (gd (ay ((gi d 8).iV-1)) (gd (((bE (gi d 5).rZ)&&true)&&(bE (gi d 6).rZ)) (some (some 0,kp d 0 [.l,.l,.l,.l,.i,.l,.l,.i] [.i ((gi d 8).iV-1)]))))
def aeD:br:=⟨8,[],⟨118,I_,DY⟩,[.fix 0,.cell 0 5,.aq 3],[⟨.normal,⟨118,I_,DY⟩,[.fix 0,.cell 0 5,.aq 3]⟩],AE⟩
def Rq:LT:=bH.fl 1 aeD
def aeE:aT P 1 Rq (be f176):=lC Ek (bI _ _ _)
def AF(d:LG):Option (Option Nat × LG) :=
 let q:=0+((gi d 8).iV).toNat; let h:=(gi d 8).iV+1; let z5:=Ej (kp d 0 [.l,.l,.l,.l,.i,.l] [.i (gi d 7).iV,.i (gi d 8).iV]); let N:=(nL (gi d 8).iV (lI (gi d 6).rZ)); let v:=(gi d 7).iV+1; let k:=0+v.toNat; let y:=(gi d 6).rZ.set q (dV [.I] ((gi d 6).rZ.getD q []) 0 [.i (if (gi ((gi d 6).rZ.getD (0+h.toNat) []) 0).iV>(gi ((gi ((gi d 5).rZ.getD k []) 0).rZ.getD (((gi d 8).iV).toNat) []) 0).iV then (gi ((gi d 6).rZ.getD (0+h.toNat) []) 0).iV else (gi ((gi ((gi d 5).rZ.getD k []) 0).rZ.getD (((gi d 8).iV).toNat) []) 0).iV)]); let z8:=(bE (gi d 5).rZ)&&true; let O:=y.getD q []; let W:=decide (q<y.length); (bif (bp 0 (gi d 8).iV) then (gd (ay v) (gd (nL v (lI (gi d 5).rZ)) (gd (decide (k<(gi d 5).rZ.length)) (gd (nL (gi d 8).iV (((gi ((gi d 5).rZ.getD k []) 0).rZ.length:Nat):Int)) (gd (ay h) (gd (nL h (lI (gi d 6).rZ)) (gd (decide ((0+h.toNat)<(gi d 6).rZ.length)) (gd N (gd (decide (q<(gi d 6).rZ.length)) (jf ((z8&&true)&&z5.isSome) z5 fun g=>let M:=(gi g 6).iV+(gi ((gi ((gi g 5).rZ.getD k []) 0).rZ.getD (h.toNat) []) 0).iV; let z12:=y.set q (dV [.I] O 0 [.i (if M>(gi O 0).iV then M else (gi O 0).iV)]); let z13:=(bE (gi g 5).rZ)&&true; (bif (gi g 7).bV then (gd N (gd W (gd (ay v) (gd (nL v (lI (gi g 5).rZ)) (gd (decide (k<(gi g 5).rZ.length)) (gd (ay h) (gd (nL h (((gi ((gi g 5).rZ.getD k []) 0).rZ.length:Nat):Int)) (gd (ay M) (gd N (gd W (ba (z13&&((aG (gi d 6).rZ.length z12.length)&&true)) (cW (AE (kp g 0 [.l,.l,.l,.l,.i,.l] [.l z12,.i (gi d 7).iV,.i (gi d 8).iV]))) fun cg2 U=>(gd (((bE (gi U 5).rZ)&&true)&&(bE (gi U 6).rZ)) (some (none,kp U 0 [.l,.l,.l,.l,.i,.l,.l,.i,.i] [])))))))))))))) else (ba (z13&&((aG (gi d 6).rZ.length y.length)&&true)) (cW (AE (kp g 0 [.l,.l,.l,.l,.i,.l] [.l y,.i (gi d 7).iV,.i (gi d 8).iV]))) fun cg3 V=>(gd (((bE (gi V 5).rZ)&&true)&&(bE (gi V 6).rZ)) (some (none,kp V 0 [.l,.l,.l,.l,.i,.l,.l,.i,.i] []))))))))))))))) else (gd (z8&&(bE (gi d 6).rZ)) (some (some 0,kp d 0 [.l,.l,.l,.l,.i,.l,.l,.i] []))))
def aeF:br:=⟨7,[],⟨118,I_,DY⟩,[.fix 0,.cell 0 5,.aq 3],[⟨.exit 2,⟨118,[(0,.s (.ptr 0 0)),(2,ak),(3,.s (.vQ 2 1))],DY⟩,[.fix 0,.cell 0 5,.aq 3]⟩],AF⟩
def Rr:LT:=Rq.add 1 aeF
def aeG:aT P 1 Rr (be f176):=lA Ek aeE
def AG(d:LG):Option (Option Nat × LG) :=
 let h:=(lI (gi d 3).rZ); let k:=(bE (gi d 5).rZ)&&true; let q:=(cB ((h+1).toNat) ([.i 0]:LG)); (bif (bp 0 (gi d 6).iV) then (gd (ay (h+1)) (gd ((cJ (h+1))&&((bp (h+1) (h+1))&&(bp (h+1) 1048576))) (gd (ay (h-1)) (ba (k&&((aG (h+1).toNat q.length)&&true)) (bN AF (kp d 0 [.l,.l,.l,.l,.i,.l] [.l q,.i (gi d 6).iV,.i (h-1)])) fun y g=>let v:=(gi g 5).rZ.set (0+((gi g 7).iV).toNat) (dV [.list [.I]] ((gi g 5).rZ.getD (0+((gi g 7).iV).toNat) []) 0 [.l (gi g 6).rZ]); (gd (nL (gi g 7).iV (lI (gi g 5).rZ)) (gd ((aG (gi g 6).rZ.length (gi g 6).rZ.length)&&(decide ((0+((gi g 7).iV).toNat)<(gi g 5).rZ.length))) (gd (ay ((gi g 7).iV-1)) (gd ((((aG (gi g 5).rZ.length v.length)&&true)&&true)&&true) (some (none,kp g 0 [.l,.l,.l,.l,.i] [.l v,.i ((gi g 7).iV-1)])))))))))) else (gd (k&&true) (some (some 0,kp d 0 [.l,.l,.l,.l,.i,.l] []))))
def aeH:br:=⟨3,[],⟨118,[(0,.s (.ptr 0 0)),(2,ak)],QA⟩,[.fix 0,.cell 0 5],[⟨.exit 0,⟨118,[],QA⟩,[.fix 0,.cell 0 5]⟩],AG⟩
def aeI:LT:=Rr.add 1 aeH
def aeJ:aT P 1 aeI (be f176):=lA Ek aeG
def El(d:LG):Option LG :=
 let g:=(lI (gi d 2).rZ); let h:=((lI (gi d 3).rZ)+1); let k:=((cB ((g+1).toNat) ([.l []]:LG)).set (0+(gi d 2).rZ.length) (dV [.list [.I]] ((cB ((g+1).toNat) ([.l []]:LG)).getD (0+(gi d 2).rZ.length) []) 0 [.l (cB (h.toNat) ([.i 0]:LG))])); (gd (ay (g+1)) (gd ((cJ (g+1))&&((bp (g+1) (g+1))&&(bp (g+1) 1048576))) (gd (ay h) (gd ((cJ h)&&((bp h h)&&(bp h 1048576))) (gd (nL g (((g+1).toNat:Nat):Int)) (gd ((aG h.toNat (cB (h.toNat) ([.i 0]:LG)).length)&&(decide ((0+(gi d 2).rZ.length)<(cB ((g+1).toNat) ([.l []]:LG)).length))) (gd (ay (g-1)) (ba ((((aG (g+1).toNat k.length)&&true)&&true)&&true) (bN AG (kp d 0 [.l,.l,.l,.l,.i] [.l k,.i (g-1)])) fun v q=>(gd (((bE (gi q 5).rZ)&&true)&&true) (some (kp q 0 [.l,.l,.l,.l,.i,.l] [])))))))))))
def aeK:aL:=⟨176,[.s (.ptr 0 0)],[.box [.list au,.list au,.list [.I],.list [.I],.I,.list [.list [.I]]]],[.aq 0],[],[.box [.list au,.list au,.list [.I],.list [.I],.I,.list [.list [.I]]]],[.fix 0],[],El⟩
def t55:aD:=t54.dm aeK
def aeL:aI P t55:=tW Ek func176 aeJ

def Em(d:LG):Option LG :=
 let g:=gi ((gi (gi d 0).rV 2).rZ.getD (((gi d 1).iV).toNat) []) 0; let h:=gi ((gi (gi d 0).rV 3).rZ.getD (((gi d 2).iV).toNat) []) 0; let k:=aQ au ((gi (gi d 0).rV 0).rZ.getD ((g.iV).toNat) []); let q:=aQ au ((gi (gi d 0).rV 1).rZ.getD ((h.iV).toNat) []); (gd (nL (gi d 1).iV (((gi (gi d 0).rV 2).rZ.length:Nat):Int)) (gd (nL g.iV (((gi (gi d 0).rV 0).rZ.length:Nat):Int)) (gd (nL (gi d 2).iV (((gi (gi d 0).rV 3).rZ.length:Nat):Int)) (gd (nL h.iV (((gi (gi d 0).rV 1).rZ.length:Nat):Int)) (aB (xk [.l [k],.l [q]]) fun y=>let v:=10000000000-(gi y 0).iV; (gd (ay v) (aB (uy [.l [k],.l [q],.i (gi (gi d 0).rV 4).iV]) fun I=>some [.i v,.t (gi I 0).bV])))))))
def aeM:aL:=⟨177,[.s (.cptr [.list au,.list au,.list [.I],.list [.I],.I,.list [.list [.I]]]),ak,ak],[],[],[ak,cN],[],[],[],Em⟩
def t56:aD:=t55.bk aeM
def AH:aI P t56:=tP aeL func177 (pt [(1,[.hole au,.hole au])])

def xl(d:LG):Option (Option Nat × LG) :=
 let g:=((gi d 6).rZ++([[.i (gi ((gi d 2).rZ.getD (((gi d 8).iV).toNat) []) 0).iV,.i (gi ((gi d 3).rZ.getD (((gi d 9).iV).toNat) []) 0).iV]]:LL)); let h:=aG (gi d 6).rZ.length (gi d 6).rZ.length; (bif (gi d 12).bV then (gd (nL (gi d 8).iV (lI (gi d 2).rZ)) (gd (nL (gi d 9).iV (lI (gi d 3).rZ)) (gd (h&&(decide (((gi d 6).rZ.length+1)<=1048576))) (gd (ay ((gi d 9).iV+1)) (gd (bE g) (some (some 0,kp d 0 [.l,.l,.l,.l,.i,.l] [.l g,.i ((gi d 9).iV+1),.i (gi d 10).iV,.i (gi d 11).iV]))))))) else (gd (h&&true) (some (some 1,kp d 0 [.l,.l,.l,.l,.i,.l,.l,.i,.i,.i,.i,.i] []))))
def aeN:br:=⟨12,[],⟨86,[(0,.s (.ptr 0 0)),(3,.s (.vQ 1 2)),(4,ak),(5,ak),(6,ak),(15,ak),(16,ak),(63,cN)],uu⟩,[.fix 0,.aq 3],[⟨.exit 2,⟨86,I',uu⟩,[.fix 0,.aq 3]⟩,⟨.normal,⟨86,QK,uu⟩,[.fix 0,.aq 3]⟩],xl⟩
def Rs:LT:=bH.fl 1 aeN
def aeO:aT P 1 Rs (be f147):=aT.fl hm (AH.ka [177]) (by kernel_rfl) (bI _ _ _) (fun d=>by kernel_rfl)
def uz(d:LG):Option (Option Nat × LG) :=
 let k:=bE (gi d 6).rZ; let q:=(gi d 9).iV+1; let I:=gi ((gi d 5).rZ.getD (((gi d 8).iV).toNat) []) 0; let M:=(lI (gi d 5).rZ); let v:=(gi d 8).iV+1; let N:=gi ((gi d 5).rZ.getD (v.toNat) []) 0; let O:=gi (N.rZ.getD (q.toNat) []) 0; (bif (aO (gi d 9).iV (lI (gi d 3).rZ)) then (aB (Em [.l [(kp d 0 [.l,.l,.l,.l,.i,.l] [])],.i (gi d 8).iV,.i (gi d 9).iV]) fun y=>(bif (gi y 1).bV then (gd (ay v) (gd (nL v M) (gd (ay q) (gd (nL q (lI N.rZ)) (gd (ay ((gi y 0).iV+O.iV)) (gd (nL (gi d 8).iV M) (gd (nL (gi d 7).iV (lI I.rZ)) (ba k (cW (xl (kp d 0 [.l,.l,.l,.l,.i,.l,.l,.i,.i,.i,.i,.i] [.t (((gi y 0).iV+O.iV)==(gi (I.rZ.getD (((gi d 7).iV).toNat) []) 0).iV)]))) fun W g=>let U:=bE (gi g 6).rZ; (bif aG W 0 then (gd U (some (some 0,kp g 0 [.l,.l,.l,.l,.i,.l,.l,.i,.i,.i] []))) else (gd (ay ((gi g 9).iV+1)) (gd U (some (none,kp g 0 [.l,.l,.l,.l,.i,.l,.l,.i,.i] [.i ((gi g 9).iV+1),.i (gi g 10).iV,.i (gi g 11).iV]))))))))))))) else (ba k (cW (xl (kp d 0 [.l,.l,.l,.l,.i,.l,.l,.i,.i,.i,.i,.i] [.t false]))) fun cg4 h=>let V:=bE (gi h 6).rZ; (bif aG cg4 0 then (gd V (some (some 0,kp h 0 [.l,.l,.l,.l,.i,.l,.l,.i,.i,.i] []))) else (gd (ay ((gi h 9).iV+1)) (gd V (some (none,kp h 0 [.l,.l,.l,.l,.i,.l,.l,.i,.i] [.i ((gi h 9).iV+1),.i (gi h 10).iV,.i (gi h 11).iV])))))))) else (gd k (some (some 0,kp d 0 [.l,.l,.l,.l,.i,.l,.l,.i] [.i (gi d 10).iV,.i (gi d 11).iV]))))
def aeP:br:=⟨8,[],⟨86,QK,uu⟩,[.fix 0,.aq 3],[⟨.exit 2,⟨86,I',uu⟩,[.fix 0,.aq 3]⟩],uz⟩
def Rt:LT:=Rs.add 1 aeP
def aeQ:aT P 1 Rt (be f147):=aT.add hm (AH.ka [177]) (by kernel_rfl) aeO (fun d=>by kernel_rfl)
def xm(d:LG):Option (Option Nat × LG) :=
 let h:=bE (gi d 6).rZ; (bif (aO (gi d 9).iV (gi d 8).iV) then (ba h (bN uz (kp d 0 [.l,.l,.l,.l,.i,.l,.l,.i] (.i (gi d 9).iV::kp d 7 [.i,.i,.i] []))) fun k g=>(gd (ay ((gi g 9).iV+1)) (gd (bE (gi g 6).rZ) (some (none,kp g 0 [.l,.l,.l,.l,.i,.l,.l,.i,.i] [.i ((gi g 9).iV+1)]))))) else (gd h (some (some 0,kp d 0 [.l,.l,.l,.l,.i,.l,.l] []))))
def aeR:br:=⟨5,[(3,[.I,.I])],⟨86,I',uu⟩,[.fix 0,.aq 3],[⟨.exit 0,⟨86,[(3,.s (.vQ 1 2))],uu⟩,[.fix 0,.aq 3]⟩],xm⟩
def aeS:LT:=Rt.add 1 aeR
def aeT:aT P 1 aeS (be f147):=aT.add hm (AH.ka [177]) (by kernel_rfl) aeQ (fun d=>by kernel_rfl)
def En(d:LG):Option LG :=
 (aB (El (kp d 0 [.l,.l,.l,.l,.i,.l] [])) fun g=>(ba true (bN xm (kp g 0 [.l,.l,.l,.l,.i,.l] [.l [],.i 0,.i (lI (gi g 2).rZ),.i 0])) fun k h=>(gd (bE (gi h 6).rZ) (some (kp h 0 [.l,.l,.l,.l,.i,.l,.l] [])))))
def aeU:aL:=⟨147,[.s (.ptr 0 0)],[.box [.list au,.list au,.list [.I],.list [.I],.I,.list [.list [.I]]]],[.aq 0],[.s (.list [.I,.I])],[.box [.list au,.list au,.list [.I],.list [.I],.I,.list [.list [.I]]]],[.fix 0],[],En⟩
def t57:aD:=t56.dm aeU
def Ru:aI P t57:=AH.aW (lZ hm (AH.ka [177]) func147 (by kernel_rfl) aeT (fun d=>by kernel_rfl) (by kernel_rfl))

def xn(d:LG):Option LG :=
 let g:=(gi (gi d 0).rV 0).iV-(gi (gi d 1).rV 0).iV; (gd (ay g) (some [.i g]))
def Rv:aL:=⟨148,[.s (.row [.I,.I]),.s (.row [.I,.I])],[],[],[ak],[],[],[],xn⟩
def Rw:iO P Rv:=jR hm Ru func148 (bI _ _ _) (fun d=>by kernel_rfl)
def t58:aD:=t57.bk Rv
def aeV:aI P t58:=Ru.aP Rw

def Eo(d:LG):Option LG :=
 uh xn d
def Rx:aL:=⟨113,[.s (.vQ 0 2),.s (.fn 148)],[.vQ [.I,.I] 0],[.aq 0],[],[.vQ [.I,.I] 0],[.fix 0],[],Eo⟩
def aeW:iO P Rx:=fun d r h=>Pb Tryz.PA [.I,.I] (by kernel_rfl) isAgg149 sizeOf149 148 (by kernel_rfl) xn (fun d r h=>Rw d r h) d r h
def t59:aD:=t58.dm Rx
def Ry:aI P t59:=aeV.aW aeW

def Ep(r d:LG):Option LG :=
 (aB (En [.l (gi d 1).rZ,.l (gi d 3).rZ,.l (gi (gi r 1).rV 0).rZ,.l (gi (dv [.str,.I] (gi d 4).rZ (aQ [.str,.I] (gi r 0).rV) [.l []]) 0).rZ,.i (gi d 7).iV,.l []]) fun g=>let h:=(gi d 6).rZ++(gi g 6).rZ; (gd ((aG (gi d 6).rZ.length (gi d 6).rZ.length)&&(decide (((gi d 6).rZ.length+(gi g 6).rZ.length)<=1048576))) (gd (bE h) (some (kp d 0 [.s,.l,.s,.l,.l] [.i (((gi d 5).iV.toNat:Nat):Int),.l h,.i (gi d 7).iV,.i (((gi d 8).iV.toNat:Nat):Int)])))))
def aeX(d:LG)(b:Nat):LG:=(kp d 0 [.s,.l,.s,.l] [.l (gi d 6).rZ,.i (((gi d 7).iV.toNat:Nat):Int),.l (gi d 8).rZ,.i (gi d 9).iV,.i (b:Int)])
def aeY(d:LG)(b:Nat):Bool:=(bE (gi d 8).rZ)
def Er:ke:=⟨⟨48,QL,QB⟩,[.aq 3,.aq 4,.aq 8,.aq 9],[],(.agg [.str,.I]),(.one (.list [.I])),2,0,23,24,25,26,27,fun d=>(gi d 8).iV.toNat,aeX,aeY,Ep⟩
def aeZ:ud P t59 bH 0 Er (An (fU f119 3)) (DJ (fU f119 3)):=fun r d=>by kernel_rfl
def Es(d:LG):Option (Option Nat × LG) :=
 let g:=Eo [.l (gi d 6).rZ]; (jf ((bE (gi d 6).rZ)&&g.isSome) g fun h=>(gd ((aG (gi d 6).rZ.length (gi h 0).rZ.length)&&true) (eQ [.l (gi h 0).rZ])))
def ae0:br:=⟨8,[],⟨48,QL,QB⟩,[],[⟨.ret,⟨48,[(6,.s (.vQ 0 2))],DZ⟩,[.aq 6]⟩],Es⟩
def Jm(d:LG):Option (Option Nat × LG) :=
 qA Er Es (gi d 4).rZ ((gi d 5).iV.toNat) d
def Jo:br:=⟨3,[(9,[.I,.I])],⟨48,[(2,ak),(3,.s (.ptr 0 0)),(4,.s (.ptr 1 0)),(7,.s (.map 2)),(8,.s (.map 3)),(9,.s (.vQ 4 2))],[.box [.str,.list au],.box [.str,.list au],.map (.agg [.str,.I]) (.one (.list [.I])),.map (.agg [.str,.I]) (.one (.list [.I])),.vQ [.I,.I] 0]⟩,[.aq 3,.aq 4,.aq 7,.aq 8,.aq 9],[⟨.ret,⟨48,[(6,.s (.vQ 0 2))],DZ⟩,[.aq 6]⟩],Jm⟩
def ae1:LT:=bH.fl 0 Jo
def ae2:aT P 0 ae1 (be f119):=aT.O7 (q:=Jo) (qr:=ae0) (sp:=Er) (r0:=3) (b0:=0) (r1:=4) (b1:=1) (r2:=5) (rZ:=fun d=>(gi d 4).rZ) (clock:=fun d=>(gi d 5).iV.toNat) (pre:=fun d=>O6 P t59 (wN (fU f119 3)) (ct Jo.inv d)) hm Ry (by kernel_rfl) (bI _ _ _) (by kernel_rfl) (by kernel_rfl) aeZ (fun d=>by kernel_rfl) (fun d=>by kernel_rfl) (fun d=>by kernel_rfl) (fun d=>by kernel_rfl) (fun d=>by kernel_rfl) (fun d=>by kernel_rfl) (fun d b=>by kernel_rfl) (fun d b=>rfl) rfl rfl (fun d=>by kernel_rfl) (fun d=>rfl)
def Et(d:LG):Option LG :=
 (aB (AD [.l (gi (gi d 0).rV 1).rZ,.s (gi (gi d 1).rV 0).sV]) fun g=>(aB (AD [.l (gi (gi d 1).rV 1).rZ,.s (gi (gi d 0).rV 0).sV]) fun h=>(ba true (cW (Jm [.s (gi (gi d 0).rV 0).sV,.l (gi (gi d 0).rV 1).rZ,.s (gi (gi d 1).rV 0).sV,.l (gi (gi d 1).rV 1).rZ,.l (gi g 0).rZ,.i (((gi g 1).iV.toNat:Nat):Int),.l (gi h 0).rZ,.i (((gi h 1).iV.toNat:Nat):Int),.l [],.i (gi d 2).iV])) fun q k=>(gd (bE (gi k 0).rZ) (some [.l (gi k 0).rZ])))))
def ae3:aL:=⟨119,[mM,mM,ak],[],[],[.s (.list [.I,.I])],[],[],[],Et⟩
def t60:aD:=t59.bk ae3
def Rz:aI P t60:=tP Ry func119 ae2

def AI(d:LG):Option (Option Nat × LG) :=
 let g:=(gi d 10).rZ.getD (((gi d 12).iV).toNat) []; let h:=nC [.I] (gi d 3).rZ [.i (gi d 9).iV]; let k:=nC [.I] (gi d 6).rZ [.i (gi d 9).iV]; let q:=(((gi d 5).iV.toNat:Nat):Int); let v:=(((gi d 8).iV.toNat:Nat):Int); (bif (aO (gi d 12).iV (gi d 11).iV) then (gd (nL (gi d 12).iV (lI (gi d 10).rZ)) (gd true (gd (oI (gi d 4).rZ h) (gd true (gd (oI (gi d 7).rZ k) (gd (ay ((gi d 12).iV+1)) (some (none,kp d 0 [.l,.i,.i,.l] (.l (wb (gi d 4).rZ h [.I] [.i (gi g 0).iV] [.i (gi g 1).iV])::.i q::.l (gi d 6).rZ::.l (wb (gi d 7).rZ k [.I] [.i (gi g 1).iV] [.t true])::.i v::kp d 9 [.i,.l,.i] [.i ((gi d 12).iV+1)]))))))))) else some (some 0,kp d 0 [.l,.i,.i,.l,.l] [.i q,.l (gi d 6).rZ,.l (gi d 7).rZ,.i v]))
def ae4:br:=⟨3,[],⟨75,[(0,.s (.ptr 0 0)),(1,ak),(50,.s (.list [.I,.I])),(51,ak),(52,ak)],w5⟩,[.fix 0,.cell 0 3,.cell 0 4],[⟨.exit 0,⟨75,[],w5⟩,[.fix 0,.cell 0 3,.cell 0 4]⟩],AI⟩
def ae5:LT:=(bH.rU [(1,[.wK,.wK])]).add 3 ae4
def ae6:aT P 3 ae5 (be f97):=lA Rz (pt _)
def AJ(d:LG):Option LG :=
 let h:=(((gi d 5).iV.toNat:Nat):Int); let k:=(((gi d 8).iV.toNat:Nat):Int); let q:=(gi d 3).rZ++[[.l [[.i (gi d 9).iV]],.i (-1),.i h]]; let v:=(gi d 6).rZ++[[.l [[.i (gi d 9).iV]],.i (-1),.i k]]; let y:=(lI (gi d 0).rZ); (gd true (bif (!(Option.isNone (nC [.I] (gi d 3).rZ [.i (gi d 9).iV]))) then some (kp d 0 [.l,.i,.i,.l,.l] [.i h,.l (gi d 6).rZ,.l (gi d 7).rZ,.i k]) else (gd (!eM [.I] (gi d 3).rZ [.i (gi d 9).iV]) (gd (we q h) (gd (!eM [.I] (gi d 6).rZ [.i (gi d 9).iV]) (gd (we v k) (gd (nL (gi d 1).iV y) (gd (nL (gi d 9).iV y) (aB (Et [.l [(aQ [.str,.list au] ((gi d 0).rZ.getD (((gi d 1).iV).toNat) []))],.l [(aQ [.str,.list au] ((gi d 0).rZ.getD (((gi d 9).iV).toNat) []))],.i (gi d 2).iV]) fun M=>(ba true (bN AI (kp d 0 [.l,.i,.i] [.l (wg q h ((gi d 4).rZ.length)),.l ((gi d 4).rZ++[[.l [],.i 0]]),.i ((((gi d 5).iV.toNat+1):Nat):Int),.l (wg v k ((gi d 7).rZ.length)),.l ((gi d 7).rZ++[[.l [],.i 0]]),.i ((((gi d 8).iV.toNat+1):Nat):Int),.i (gi d 9).iV,.l (gi M 0).rZ,.i (lI (gi M 0).rZ),.i 0])) fun N g=>some (kp g 0 [.l,.i,.i,.l,.l] [.i (((gi g 5).iV.toNat:Nat):Int),.l (gi g 6).rZ,.l (gi g 7).rZ,.i (((gi g 8).iV.toNat:Nat):Int)])))))))))))
def ae7:aL:=⟨97,[.s (.ptr 0 0),ak],[.box [.list [.str,.list au],.I,.I,.map 1,.map 2],.mm 11 (.one .I) (.one .I) (.one .I),.mm 12 (.one .I) (.one .I) (.one (.bool))],[.aq 0,.cell 0 3,.cell 0 4],[],[.box [.list [.str,.list au],.I,.I,.map 1,.map 2],.mm 11 (.one .I) (.one .I) (.one .I),.mm 12 (.one .I) (.one .I) (.one (.bool))],[.fix 0,.fix 1,.fix 2],[],AJ⟩
def t61:aD:=t60.dm ae7
def ae8:aI P t61:=tW Rz func97 ae6

def AK(d:LG):Option LG :=
 (bif ((gi (gi d 0).rV 4).iV==(gi (gi d 1).rV 5).iV) then some [.t ((gi (gi d 0).rV 6).sV.toList==(gi (gi d 1).rV 7).sV.toList)] else some [.t false])
def ae9:aL:=⟨98,[.s (.row au),.s (.row au)],[],[],[cN],[],[],[],AK⟩
def t62:aD:=t61.bk ae9
def xo:aI P t62:=cU ae8 func98

def sf(d:LG):Option (Option Nat × LG) :=
 (gd (ay ((gi d 10).iV+1)) (gd (bE (gi d 3).rZ) (some (some 0,kp d 0 [.l,.l,.l,.l,.s,.s,.i,.i,.i,.i] [.i ((gi d 10).iV+1)]))))
def ae_:br:=⟨19,[],⟨129,Ay,r_⟩,[.aq 5,.aq 7],[⟨.normal,⟨129,Ay,r_⟩,[.aq 5,.aq 7]⟩],sf⟩
def RA:LT:=bH.fl 0 ae_
def ae':aT P 0 RA (be f62):=lC xo (bI _ _ _)
def xp(d:LG):Option (Option Nat × LG) :=
 let h:=(nL (gi d 7).iV (lI (gi d 3).rZ)); let k:=decide ((0+((gi d 7).iV).toNat)<(gi d 3).rZ.length); let g:=(gi d 7).iV-2; let q:=(gi d 3).rZ.set (0+((gi d 7).iV).toNat) (dV [.I] ((gi d 3).rZ.getD (0+((gi d 7).iV).toNat) []) 0 [.i (if ((gi ((gi d 1).rZ.getD (g.toNat) []) 0).iV+1)<(gi ((gi d 3).rZ.getD (0+((gi d 7).iV).toNat) []) 0).iV then ((gi ((gi d 1).rZ.getD (g.toNat) []) 0).iV+1) else (gi ((gi d 3).rZ.getD (0+((gi d 7).iV).toNat) []) 0).iV)]); (bif (gi d 12).bV then (gd h (gd k (gd (ay g) (gd (nL g (lI (gi d 1).rZ)) (gd (ay ((gi ((gi d 1).rZ.getD (g.toNat) []) 0).iV+1)) (gd h (gd k (gd ((aG (gi d 3).rZ.length q.length)&&true) (some (some 0,kp d 0 [.l,.l,.l] (.l q::kp d 4 [.s,.s,.i] (kp d 8 [.i,.i,.i,.i] [])))))))))))) else (gd (bE (gi d 3).rZ) (some (some 0,kp d 0 [.l,.l,.l,.l,.s,.s,.i] (kp d 8 [.i,.i,.i,.i] [])))))
def afa:br:=⟨18,[],⟨129,[(0,bR),(1,bR),(5,.s (.ptr 0 0)),(6,ak),(7,.s (.vQ 1 1)),(8,ak),(12,ak),(13,ak),(21,ak),(22,ak),(99,cN)],r_⟩,[.aq 5,.aq 7],[⟨.normal,⟨129,Ay,r_⟩,[.aq 5,.aq 7]⟩],xp⟩
def RB:LT:=RA.fl 0 afa
def afb:aT P 0 RB (be f62):=lC xo ae'
def xq(d:LG):Option (Option Nat × LG) :=
 let g:=(gi d 7).iV-1; let k:=(gi d 3).rZ.set (0+((gi d 7).iV).toNat) (dV [.I] ((gi d 3).rZ.getD (0+((gi d 7).iV).toNat) []) 0 [.i (if ((gi ((gi d 2).rZ.getD (g.toNat) []) 0).iV+(gi d 8).iV)<(if ((gi ((gi d 3).rZ.getD (0+g.toNat) []) 0).iV+1)<((gi ((gi d 2).rZ.getD (((gi d 7).iV).toNat) []) 0).iV+1) then ((gi ((gi d 3).rZ.getD (0+g.toNat) []) 0).iV+1) else ((gi ((gi d 2).rZ.getD (((gi d 7).iV).toNat) []) 0).iV+1)) then ((gi ((gi d 2).rZ.getD (g.toNat) []) 0).iV+(gi d 8).iV) else (if ((gi ((gi d 3).rZ.getD (0+g.toNat) []) 0).iV+1)<((gi ((gi d 2).rZ.getD (((gi d 7).iV).toNat) []) 0).iV+1) then ((gi ((gi d 3).rZ.getD (0+g.toNat) []) 0).iV+1) else ((gi ((gi d 2).rZ.getD (((gi d 7).iV).toNat) []) 0).iV+1)))]); let q:=cW (xp (kp d 0 [.l,.l,.l] (.l k::kp d 4 [.s,.s,.i,.i] (kp d 9 [.i,.i,.i,.i] [.t false])))); let h:=(aG (gi d 3).rZ.length k.length)&&true; let v:=(gi d 6).iV-1; let y:=(gi d 7).iV-2; let M:=(gi d 6).iV-2; let U:=(lI (gi d 2).rZ); let V:=(lI (gi d 3).rZ); let N:=(((gi d 4).sV.size:Nat):Int); let O:=(((gi d 5).sV.size:Nat):Int); (gd (nL (gi d 7).iV U) (gd (ay ((gi ((gi d 2).rZ.getD (((gi d 7).iV).toNat) []) 0).iV+1)) (gd (ay g) (gd (nL g V) (gd (decide ((0+g.toNat)<(gi d 3).rZ.length)) (gd (ay ((gi ((gi d 3).rZ.getD (0+g.toNat) []) 0).iV+1)) (gd (ay g) (gd (nL g U) (gd (ay ((gi ((gi d 2).rZ.getD (g.toNat) []) 0).iV+(gi d 8).iV)) (gd (nL (gi d 7).iV V) (gd (decide ((0+((gi d 7).iV).toNat)<(gi d 3).rZ.length)) (bif (aO 1 (gi d 6).iV) then (bif (aO 1 (gi d 7).iV) then (gd (ay v) (gd (nL v N) (gd (ay y) (gd (nL y O) (bif ((((gi d 4).sV.data.toList.getD (v.toNat) 0).toNat:Int)==(((gi d 5).sV.data.toList.getD (y.toNat) 0).toNat:Int)) then (gd (ay M) (gd (nL M N) (gd (ay g) (gd (nL g O) (ba h (cW (xp (kp d 0 [.l,.l,.l] (.l k::kp d 4 [.s,.s,.i,.i] (kp d 9 [.i,.i,.i,.i] [.t ((((gi d 4).sV.data.toList.getD (M.toNat) 0).toNat:Int)==(((gi d 5).sV.data.toList.getD (g.toNat) 0).toNat:Int))]))))) fun cg3 W=>(gd (bE (gi W 3).rZ) (some (some 0,kp W 0 [.l,.l,.l,.l,.s,.s,.i,.i,.i,.i,.i] [])))))))) else (ba h q fun cg4 g4=>(gd (bE (gi g4 3).rZ) (some (some 0,kp g4 0 [.l,.l,.l,.l,.s,.s,.i,.i,.i,.i,.i] []))))))))) else (ba h q fun cg5 g5=>(gd (bE (gi g5 3).rZ) (some (some 0,kp g5 0 [.l,.l,.l,.l,.s,.s,.i,.i,.i,.i,.i] []))))) else (ba h q fun cg6 g6=>(gd (bE (gi g6 3).rZ) (some (some 0,kp g6 0 [.l,.l,.l,.l,.s,.s,.i,.i,.i,.i,.i] []))))))))))))))))
def afc:br:=⟨16,[],⟨129,[(0,bR),(1,bR),(5,.s (.ptr 0 0)),(6,ak),(7,.s (.vQ 1 1)),(8,ak),(9,ak),(12,ak),(13,ak),(21,ak),(22,ak)],r_⟩,[.aq 5,.aq 7],[⟨.normal,⟨129,Ay,r_⟩,[.aq 5,.aq 7]⟩],xq⟩
def RC:LT:=RB.fl 0 afc
def afd:aT P 0 RC (be f62):=lC xo afb
def xr(d:LG):Option (Option Nat × LG) :=
 let g:=0+((gi d 10).iV).toNat; let h:=bE (gi d 3).rZ; let y:=(gi d 3).rZ.set g (dV [.I] ((gi d 3).rZ.getD g []) 0 [.i (gi d 10).iV]); let M:=(gi d 3).rZ.set g (dV [.I] ((gi d 3).rZ.getD g []) 0 [.i (gi d 6).iV]); let N:=(nL (gi d 10).iV (lI (gi d 3).rZ)); let k:=(gi d 10).iV-1; let q:=(gi d 6).iV-1; let O:=decide (g<(gi d 3).rZ.length); (bif (aO (gi d 10).iV (gi d 9).iV) then (bif ((gi d 6).iV==0) then (gd N (gd O (ba ((aG (gi d 3).rZ.length y.length)&&true) (cW (sf (kp d 0 [.l,.l,.l] (.l y::kp d 4 [.s,.s,.i,.i,.i,.i,.i] [])))) fun cg1 U=>(gd (bE (gi U 3).rZ) (some (none,kp U 0 [.l,.l,.l,.l,.s,.s,.i,.i,.i,.i,.i] [])))))) else (bif ((gi d 10).iV==0) then (gd N (gd O (ba ((aG (gi d 3).rZ.length M.length)&&true) (cW (sf (kp d 0 [.l,.l,.l] (.l M::kp d 4 [.s,.s,.i,.i,.i,.i,.i] [])))) fun cg2 V=>(gd (bE (gi V 3).rZ) (some (none,kp V 0 [.l,.l,.l,.l,.s,.s,.i,.i,.i,.i,.i] [])))))) else (gd (ay q) (gd (nL q (((gi d 4).sV.size:Nat):Int)) (gd (ay k) (gd (nL k (((gi d 5).sV.size:Nat):Int)) (bif ((((gi d 4).sV.data.toList.getD (q.toNat) 0).toNat:Int)==(((gi d 5).sV.data.toList.getD (k.toNat) 0).toNat:Int)) then (ba h (cW (xq (kp d 0 [.l,.l,.l,.l,.s,.s,.i] (.i (gi d 10).iV::.i 0::kp d 7 [.i,.i,.i,.i] [])))) fun cg7 W=>(ba (bE (gi W 3).rZ) (cW (sf (kp W 0 [.l,.l,.l,.l,.s,.s,.i,.i,.i,.i,.i] []))) fun cg8 g8=>(gd (bE (gi g8 3).rZ) (some (none,kp g8 0 [.l,.l,.l,.l,.s,.s,.i,.i,.i,.i,.i] []))))) else (ba h (cW (xq (kp d 0 [.l,.l,.l,.l,.s,.s,.i] (.i (gi d 10).iV::.i 1::kp d 7 [.i,.i,.i,.i] [])))) fun cg9 g9=>(ba (bE (gi g9 3).rZ) (cW (sf (kp g9 0 [.l,.l,.l,.l,.s,.s,.i,.i,.i,.i,.i] []))) fun cg10 v=>(gd (bE (gi v 3).rZ) (some (none,kp v 0 [.l,.l,.l,.l,.s,.s,.i,.i,.i,.i,.i] [])))))))))))) else (gd h (some (some 0,kp d 0 [.l,.l,.l,.l,.s,.s] [.i (gi d 7).iV,.i (gi d 8).iV]))))
def afe:br:=⟨7,[],⟨129,Ay,r_⟩,[.aq 5,.aq 7],[⟨.exit 2,⟨129,[(0,bR),(1,bR),(5,.s (.ptr 0 0)),(7,.s (.vQ 1 1)),(12,ak),(13,ak)],r_⟩,[.aq 5,.aq 7]⟩],xr⟩
def RD:LT:=RC.add 0 afe
def aff:aT P 0 RD (be f62):=lA xo afd
def xu(d:LG):Option (Option Nat × LG) :=
 let g:=((((gi d 4).sV.size:Nat):Int)+1); let k:=(cB (g.toNat) ([.i 0]:LG)); (bif (aO (gi d 6).iV (gi d 5).iV) then (gd (ay g) (gd ((cJ g)&&((bp g g)&&(bp g 1048576))) (ba ((aG g.toNat k.length)&&true) (bN xr (kp d 0 [.l,.l,.l] [.l k,.s (gi d 3).sV,.s (gi d 4).sV,.i (gi d 6).iV,.i (gi d 5).iV,.i (gi d 6).iV,.i ((g.toNat:Nat):Int),.i 0])) fun q h=>(gd (ay ((gi h 7).iV+1)) (gd (((bE (gi h 3).rZ)&&true)&&true) (some (none,kp h 1 [.l,.l,.l,.s,.s,.i] [.i ((gi h 7).iV+1)]))))))) else some (some 0,kp d 0 [.l,.l,.l] [.s (gi d 4).sV]))
def afg:br:=⟨3,[],⟨129,[(0,bR),(1,bR),(5,.s (.ptr 0 0)),(12,ak),(13,ak)],[.box [.list [.I],.list [.I],.list [.I]]]⟩,[.aq 5],[⟨.exit 0,⟨129,[(1,bR),(5,.s (.ptr 0 0))],[.box [.list [.I],.list [.I],.list [.I]]]⟩,[.aq 5]⟩],xu⟩
def afh:LT:=RD.add 0 afg
def afi:aT P 0 afh (be f62):=lA xo aff
def AM(d:LG):Option LG :=
 let h:=((((gi d 0).sV.size:Nat):Int)+1); (gd (ay h) (ba true (bN xu [.l [],.l [],.l [],.s (gi d 0).sV,.s (gi d 1).sV,.i h,.i 0]) fun q g=>let k:=(((gi g 3).sV.size:Nat):Int); (gd (nL k (lI (gi g 2).rZ)) (some [.i (gi ((gi g 2).rZ.getD ((gi g 3).sV.size) []) 0).iV]))))
def afj:aL:=⟨62,[bR,bR],[],[],[ak],[],[],[],AM⟩
def t63:aD:=t62.bk afj
def RE:aI P t63:=tP xo func62 afi

def xv(d:LG):Option (Option Nat × LG) :=
 let h:=(((gi d 5).iV.toNat:Nat):Int); let k:=(((gi d 8).iV.toNat:Nat):Int); let g:=(gi d 20).iV+1; let q:=(gi d 18).rZ.getD (((gi d 20).iV).toNat) []; let v:=nC [.I] (gi d 6).rZ [.i (gi d 17).iV]; (bif (aO (gi d 20).iV (gi d 19).iV) then (gd (nL (gi d 20).iV (lI (gi d 18).rZ)) (gd (nL (gi d 1).iV (lI (gi d 0).rZ)) (bif ((gi q 3).sV.toList==(gi ((gi d 0).rZ.getD (((gi d 1).iV).toNat) []) 0).sV.toList) then (aB (uy [.l [(kp d 9 [.i,.i,.s,.s,.i,.i,.s,.s] [])],.l [(aQ au q)],.i (gi d 2).iV]) fun y=>(bif (gi y 0).bV then (gd true (gd (oI (gi d 7).rZ v) (bif (!(gi (dv [.I] ((gi (lh (gi d 7).rZ v) 0).rZ) [.i (gi d 20).iV] [.t false]) 0).bV) then (aB (AK [.l [(aQ au q)],.l [(kp d 9 [.i,.i,.s,.s,.i,.i,.s,.s] [])]]) fun M=>(bif (gi M 0).bV then some (some 0,kp d 0 [.l,.i,.i,.l,.l] [.i h,.l (gi d 6).rZ,.l (gi d 7).rZ,.i k,.i (gi d 20).iV]) else (gd (ay g) (some (none,kp d 0 [.l,.i,.i,.l,.l] (.i h::.l (gi d 6).rZ::.l (gi d 7).rZ::.i k::kp d 9 [.i,.i,.s,.s,.i,.i,.s,.s,.i,.l,.i] [.i g])))))) else (gd (ay g) (some (none,kp d 0 [.l,.i,.i,.l,.l] (.i h::.l (gi d 6).rZ::.l (gi d 7).rZ::.i k::kp d 9 [.i,.i,.s,.s,.i,.i,.s,.s,.i,.l,.i] [.i g]))))))) else (gd (ay g) (some (none,kp d 0 [.l,.i,.i,.l,.l] (.i h::.l (gi d 6).rZ::.l (gi d 7).rZ::.i k::kp d 9 [.i,.i,.s,.s,.i,.i,.s,.s,.i,.l,.i] [.i g])))))) else (gd (ay g) (some (none,kp d 0 [.l,.i,.i,.l,.l] (.i h::.l (gi d 6).rZ::.l (gi d 7).rZ::.i k::kp d 9 [.i,.i,.s,.s,.i,.i,.s,.s,.i,.l,.i] [.i g]))))))) else some (some 1,kp d 0 [.l,.i,.i,.l,.l] [.i h,.l (gi d 6).rZ,.l (gi d 7).rZ,.i k]))
def afk:br:=⟨5,[],⟨79,[(0,.s (.ptr 0 0)),(2,ak),(4,.s (.ptr 3 0)),(31,fK),(32,ak),(33,ak)],QC⟩,[.fix 0,.cell 0 3,.cell 0 4,.aq 4],[⟨.ret,⟨79,[(6,ak)],w5⟩,[.fix 0,.cell 0 3,.cell 0 4]⟩,⟨.exit 0,⟨79,[],w5⟩,[.fix 0,.cell 0 3,.cell 0 4]⟩],xv⟩
def afl:LT:=bH.add 3 afk
def afm:aT P 3 afl (be f120):=lA RE (bI _ _ _)
def Eu(d:LG):Option LG :=
 let k:=((gi d 10).iV).toNat; let q:=(((gi d 5).iV.toNat:Nat):Int); let v:=(((gi d 8).iV.toNat:Nat):Int); (gd (nL (gi d 10).iV (lI (gi d 0).rZ)) (aB (AM [.s (gi ((gi d 0).rZ.getD k []) 0).sV,.s (gi (gi d 9).rV 3).sV]) fun O=>(bif (aO 2 (gi O 0).iV) then some (kp d 0 [.l,.i,.i,.l,.l] [.i q,.l (gi d 6).rZ,.l (gi d 7).rZ,.i v,.i (-1)]) else (aB (AJ (kp d 0 [.l,.i,.i,.l,.l] [.i q,.l (gi d 6).rZ,.l (gi d 7).rZ,.i v,.i (gi d 10).iV])) fun h=>let y:=gi ((gi h 0).rZ.getD k []) 1; (gd (nL (gi d 10).iV (lI (gi h 0).rZ)) (ba true (bN xv (kp h 0 [.l,.i,.i,.l,.l] [.i (((gi h 5).iV.toNat:Nat):Int),.l (gi h 6).rZ,.l (gi h 7).rZ,.i (((gi h 8).iV.toNat:Nat):Int),.i (gi (gi d 9).rV 0).iV,.i (gi (gi d 9).rV 1).iV,.s (gi (gi d 9).rV 2).sV,.s (gi (gi d 9).rV 3).sV,.i (gi (gi d 9).rV 4).iV,.i (gi (gi d 9).rV 5).iV,.s (gi (gi d 9).rV 6).sV,.s (gi (gi d 9).rV 7).sV,.i (gi d 10).iV,.l y.rZ,.i (lI y.rZ),.i 0])) fun N g=>let I:=(((gi g 5).iV.toNat:Nat):Int); let M:=(((gi g 8).iV.toNat:Nat):Int); (bif aG N 0 then some (kp g 0 [.l,.i,.i,.l,.l] [.i I,.l (gi g 6).rZ,.l (gi g 7).rZ,.i M,.i (gi g 9).iV]) else some (kp g 0 [.l,.i,.i,.l,.l] [.i I,.l (gi g 6).rZ,.l (gi g 7).rZ,.i M,.i (-1)]))))))))
def afn:aL:=⟨120,[.s (.ptr 0 0),.s (.row au),ak],[.box [.list [.str,.list au],.I,.I,.map 1,.map 2],.mm 11 (.one .I) (.one .I) (.one .I),.mm 12 (.one .I) (.one .I) (.one (.bool))],[.aq 0,.cell 0 3,.cell 0 4],[ak],[.box [.list [.str,.list au],.I,.I,.map 1,.map 2],.mm 11 (.one .I) (.one .I) (.one .I),.mm 12 (.one .I) (.one .I) (.one (.bool))],[.fix 0,.fix 1,.fix 2],[],Eu⟩
def t64:aD:=t63.dm afn
def RF:aI P t64:=tW RE func120 afm

def xw(d:LG):Option (Option Nat × LG) :=
 let h:=(gi d 21).iV+1; let k:=(((gi d 5).iV.toNat:Nat):Int); let q:=(((gi d 8).iV.toNat:Nat):Int); (bif (aO (gi d 21).iV (gi d 20).iV) then (gd (nL (gi d 21).iV (lI (gi d 19).rZ)) (bif ((gi d 21).iV==(gi d 1).iV) then (gd (ay h) (some (none,kp d 0 [.l,.i,.i,.l,.l] (.i k::.l (gi d 6).rZ::.l (gi d 7).rZ::.i q::kp d 9 [.i,.i,.s,.s,.i,.i,.s,.s,.i,.i,.l,.i] [.i h])))) else (bif ((gi ((gi d 19).rZ.getD (((gi d 21).iV).toNat) []) 0).sV.toList==(gi d 12).sV.toList) then (gd (ay h) (some (none,kp d 0 [.l,.i,.i,.l,.l] (.i k::.l (gi d 6).rZ::.l (gi d 7).rZ::.i q::kp d 9 [.i,.i,.s,.s,.i,.i,.s,.s,.i,.i,.l,.i] [.i h])))) else (aB (Eu (kp d 0 [.l,.i,.i,.l,.l] [.i k,.l (gi d 6).rZ,.l (gi d 7).rZ,.i q,.l [(kp d 9 [.i,.i,.s,.s,.i,.i,.s,.s] [])],.i (gi d 21).iV])) fun g=>let v:=(((gi g 5).iV.toNat:Nat):Int); let y:=(((gi g 8).iV.toNat:Nat):Int); (bif (bp 0 (gi g 9).iV) then (bif (bp 0 (gi d 17).iV) then some (some 0,kp g 0 [.l,.i,.i,.l,.l] [.i v,.l (gi g 6).rZ,.l (gi g 7).rZ,.i y,.i (-1),.i (-1)]) else (gd (ay h) (some (none,kp g 0 [.l,.i,.i,.l,.l] (.i v::.l (gi g 6).rZ::.l (gi g 7).rZ::.i y::kp d 9 [.i,.i,.s,.s,.i,.i,.s,.s] [.i (gi d 21).iV,.i (gi g 9).iV,.l (gi d 19).rZ,.i (gi d 20).iV,.i h]))))) else (gd (ay h) (some (none,kp g 0 [.l,.i,.i,.l,.l] (.i v::.l (gi g 6).rZ::.l (gi g 7).rZ::.i y::kp d 9 [.i,.i,.s,.s,.i,.i,.s,.s,.i,.i,.l,.i] [.i h]))))))))) else some (some 1,kp d 0 [.l,.i,.i,.l,.l] [.i k,.l (gi d 6).rZ,.l (gi d 7).rZ,.i q,.i (gi d 17).iV,.i (gi d 18).iV]))
def afo:br:=⟨3,[],⟨45,[(0,.s (.ptr 0 0)),(3,.s (.ptr 3 0)),(4,ak),(5,ak),(12,.s (.list [.str,.list au])),(13,ak),(14,ak)],QC⟩,[.fix 0,.cell 0 3,.cell 0 4,.aq 3],[⟨.ret,⟨45,[(4,ak),(5,ak)],w5⟩,[.fix 0,.cell 0 3,.cell 0 4]⟩,⟨.exit 0,⟨45,[(4,ak),(5,ak)],w5⟩,[.fix 0,.cell 0 3,.cell 0 4]⟩],xw⟩
def afp:LT:=bH.add 3 afo
def afq:aT P 3 afp (be f99):=lA RF (bI _ _ _)
def sk(d:LG):Option LG :=
 (ba true (bN xw (kp d 0 [.l,.i,.i,.l,.l] [.i (((gi d 5).iV.toNat:Nat):Int),.l (gi d 6).rZ,.l (gi d 7).rZ,.i (((gi d 8).iV.toNat:Nat):Int),.i (gi (gi d 9).rV 0).iV,.i (gi (gi d 9).rV 1).iV,.s (gi (gi d 9).rV 2).sV,.s (gi (gi d 9).rV 3).sV,.i (gi (gi d 9).rV 4).iV,.i (gi (gi d 9).rV 5).iV,.s (gi (gi d 9).rV 6).sV,.s (gi (gi d 9).rV 7).sV,.i (-1),.i 0,.l (gi d 0).rZ,.i (lI (gi d 0).rZ),.i 0])) fun q g=>let h:=(((gi g 5).iV.toNat:Nat):Int); let k:=(((gi g 8).iV.toNat:Nat):Int); (bif aG q 0 then some (kp g 0 [.l,.i,.i,.l,.l] [.i h,.l (gi g 6).rZ,.l (gi g 7).rZ,.i k,.i (gi g 9).iV,.i (gi g 10).iV]) else some (kp g 0 [.l,.i,.i,.l,.l] [.i h,.l (gi g 6).rZ,.l (gi g 7).rZ,.i k,.i (gi g 9).iV,.i (gi g 10).iV])))
def afr:aL:=⟨99,[.s (.ptr 0 0),.s (.row au)],[.box [.list [.str,.list au],.I,.I,.map 1,.map 2],.mm 11 (.one .I) (.one .I) (.one .I),.mm 12 (.one .I) (.one .I) (.one (.bool))],[.aq 0,.cell 0 3,.cell 0 4],[ak,ak],[.box [.list [.str,.list au],.I,.I,.map 1,.map 2],.mm 11 (.one .I) (.one .I) (.one .I),.mm 12 (.one .I) (.one .I) (.one (.bool))],[.fix 0,.fix 1,.fix 2],[],sk⟩
def t65:aD:=t64.dm afr
def afs:aI P t65:=tW RF func99 afq

def Ev(d:LG):Option LG :=
 let v:=(gi ((gi d 0).rZ.getD (((gi d 1).iV).toNat) []) 1).rZ.getD (((gi d 9).iV).toNat) []; let y:=(⟨#[]⟩:BY); let z3:=(((gi d 5).iV.toNat:Nat):Int); let z4:=(((gi d 8).iV.toNat:Nat):Int); let z5:=aQ au v; (gd (nL (gi d 1).iV (lI (gi d 0).rZ)) (gd (nL (gi d 9).iV (((gi ((gi d 0).rZ.getD (((gi d 1).iV).toNat) []) 1).rZ.length:Nat):Int)) (aB (ux [.l (gi d 0).rZ,.s (gi v 3).sV]) fun q=>(bif (gi q 1).bV then (aB (AJ (kp d 0 [.l,.i,.i,.l,.l] [.i z3,.l (gi d 6).rZ,.l (gi d 7).rZ,.i z4,.i (gi q 0).iV])) fun g=>let z7:=(((gi g 5).iV.toNat:Nat):Int); let z8:=(((gi g 8).iV.toNat:Nat):Int); let z9:=gi ((gi g 0).rZ.getD (((gi q 0).iV).toNat) []) 1; let N:=nC [.I] (gi g 3).rZ [.i (gi q 0).iV]; let M:=gi (dv [.I] ((gi (lh (gi g 4).rZ N) 0).rZ) [.i (gi d 9).iV] [.i 0]) 0; (gd true (gd (oI (gi g 4).rZ N) (bif (eM [.I] ((gi (lh (gi g 4).rZ N) 0).rZ) [.i (gi d 9).iV]) then (gd (nL (gi q 0).iV (lI (gi g 0).rZ)) (gd (nL M.iV (lI z9.rZ)) (aB (AK [.l [(aQ au (z9.rZ.getD ((M.iV).toNat) []))],.l [z5]]) fun g3=>(bif (gi g3 0).bV then some (kp g 0 [.l,.i,.i,.l,.l] [.i z7,.l (gi g 6).rZ,.l (gi g 7).rZ,.i z8,.l [[.i (gi d 9).iV,.i 1,.s (gi v 3).sV,.i M.iV]]]) else some (kp g 0 [.l,.i,.i,.l,.l] [.i z7,.l (gi g 6).rZ,.l (gi g 7).rZ,.i z8,.l [[.i (gi d 9).iV,.i 3,.s (gi v 3).sV,.i M.iV]]]))))) else (aB (sk (kp g 0 [.l,.i,.i,.l,.l] [.i z7,.l (gi g 6).rZ,.l (gi g 7).rZ,.i z8,.l [z5]])) fun h=>let O:=(((gi h 5).iV.toNat:Nat):Int); let U:=(((gi h 8).iV.toNat:Nat):Int); (bif (bp 0 (gi h 9).iV) then (gd (nL (gi h 9).iV (lI (gi h 0).rZ)) (some (kp h 0 [.l,.i,.i,.l,.l] [.i O,.l (gi h 6).rZ,.l (gi h 7).rZ,.i U,.l [[.i (gi d 9).iV,.i 2,.s (gi ((gi h 0).rZ.getD (((gi h 9).iV).toNat) []) 0).sV,.i (gi h 10).iV]]]))) else (bif (gi q 1).bV then some (kp h 0 [.l,.i,.i,.l,.l] [.i O,.l (gi h 6).rZ,.l (gi h 7).rZ,.i U,.l [[.i (gi d 9).iV,.i 4,.s y,.i (-1)]]]) else some (kp h 0 [.l,.i,.i,.l,.l] [.i O,.l (gi h 6).rZ,.l (gi h 7).rZ,.i U,.l [[.i (gi d 9).iV,.i 5,.s y,.i (-1)]]])))))))) else (aB (sk (kp d 0 [.l,.i,.i,.l,.l] [.i z3,.l (gi d 6).rZ,.l (gi d 7).rZ,.i z4,.l [z5]])) fun k=>let V:=(((gi k 5).iV.toNat:Nat):Int); let W:=(((gi k 8).iV.toNat:Nat):Int); (bif (bp 0 (gi k 9).iV) then (gd (nL (gi k 9).iV (lI (gi k 0).rZ)) (some (kp k 0 [.l,.i,.i,.l,.l] [.i V,.l (gi k 6).rZ,.l (gi k 7).rZ,.i W,.l [[.i (gi d 9).iV,.i 2,.s (gi ((gi k 0).rZ.getD (((gi k 9).iV).toNat) []) 0).sV,.i (gi k 10).iV]]]))) else (bif (gi q 1).bV then some (kp k 0 [.l,.i,.i,.l,.l] [.i V,.l (gi k 6).rZ,.l (gi k 7).rZ,.i W,.l [[.i (gi d 9).iV,.i 4,.s y,.i (-1)]]]) else some (kp k 0 [.l,.i,.i,.l,.l] [.i V,.l (gi k 6).rZ,.l (gi k 7).rZ,.i W,.l [[.i (gi d 9).iV,.i 5,.s y,.i (-1)]]]))))))))
def aft:aL:=⟨78,[.s (.ptr 0 0),ak],[.box [.list [.str,.list au],.I,.I,.map 1,.map 2],.mm 11 (.one .I) (.one .I) (.one .I),.mm 12 (.one .I) (.one .I) (.one (.bool))],[.aq 0,.cell 0 3,.cell 0 4],[.s (.row dz)],[.box [.list [.str,.list au],.I,.I,.map 1,.map 2],.mm 11 (.one .I) (.one .I) (.one .I),.mm 12 (.one .I) (.one .I) (.one (.bool))],[.fix 0,.fix 1,.fix 2],[],Ev⟩
def t66:aD:=t65.dm aft
def RG:aI P t66:=mL afs func78

end
end Go.Proofs.iQ
