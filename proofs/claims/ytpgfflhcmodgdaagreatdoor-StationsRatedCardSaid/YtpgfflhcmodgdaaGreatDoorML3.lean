/-
 What is proved here: functions of the program as functions on data. No condition.
-/
import Derived.Test.YtpgfflhcmodgdaaGreatDoorML2
set_option linter.all false
open List renaming replicate->cn
open Nat renaming beq->aD
namespace Go.Proofs.jI
open Go Go.AL Go.Proofs Tryz
noncomputable section
def zt(d:LG):bp:=
 let h:=bg [.str,.list a_] ((d.rZ 1).gR (d.iV 3)); (bif (aN (d.iV 3) (d.iV 2)) then (gd (nL (d.iV 3) (lI (d.rZ 1))) (aI (Ht [.l [h],.l [[.i (d.iV 3)]],.l [h],.l [[.l (d.rZ 0)]]]) fun k=>(bif ((k.iV 0) != 0) then eQ [.i (k.iV 0)] else (gd (aA ((d.iV 3)+1)) (some (none,kp d 0 [.l,.l,.i] [.i ((d.iV 3)+1)])))))) else eR [])
def aiT:bA:=⟨4,[],⟨25,[(1,.s (.ptr 0 0)),(10,.s (.list c8)),(11,al),(12,al)],[.box [.list c8]]⟩,[.aM 1],[⟨.ret,⟨25,wY,[]⟩,[]⟩,⟨.exit 0,⟨25,[],[]⟩,[]⟩],zt⟩
def aiU:LT:=bx.add 0 aiT
def aiV:aT P 0 aiU (bf f26):=aT.add hm (M0.kQ [58]) aB (bG _ _ _) (fun d=>by kernel_rfl)
def oA(d:LG):Option LG:=
 let h:=(lI (d.rZ 0)); (bif (aN 100 h) then some [.i 2] else (be true (bR zt [.l (d.rZ 0),.l (d.rZ 0),.i h,.i 0]) fun k v=>(bif aD k 0 then some [.i (v.iV 0)] else some [.i 0])))
def aiW:aL:=⟨26,uy,[],[],[al],[],[],[],oA⟩
def t45:aF:=t44.bu aiW
def aiX:aH P t45:=M0.aP (nC hm (M0.kQ [58]) func26 aB aiV (fun d=>by kernel_rfl) aB)

def M1(d:LG):Option LG:=
 (aI (pn [.s (gi (d.rV 0) 0).sV,.s (d.sV 1)]) fun h=>some [.i (h.iV 0)])
def aiY:aL:=⟨84,[po,dn],[],[],[al],[],[],[],M1⟩
def t46:aF:=t45.bu aiY
def Vb:aH P t46:=dQ aiX func84

def zu(d:LG):bp:=
 let h:=nZ .u64 (IntKind.u64.wrap ((d.iV 3)+(d.iV 4))) 1; (bif (aN (d.iV 3) (d.iV 4)) then (gd (aA ((d.iV 3)+(d.iV 4))) (gd (aA h) (gd (nL h (lI (d.rZ 0))) (aI (M1 [.l [(bg [.str,.list a_] ((d.rZ 0).gR h))],.s (d.sV 1)]) fun k=>(bif (aN (k.iV 0) 0) then (gd (aA (h+1)) (some (none,kp d 0 [.l,.s,.i] [.i (h+1),.i (d.iV 4)]))) else some (none,kp d 0 [.l,.s,.i,.i] [.i h])))))) else some (some 0,kp d 0 [.l,.s,.i,.i] []))
def aiZ:bA:=⟨3,[],⟨49,[(0,.s (.list c8)),(1,dn),(2,.s (.fn 84)),(8,al),(9,al),(10,al)],[]⟩,[],[⟨.exit 0,⟨49,[(0,.s (.list c8)),(1,dn),(2,.s (.fn 84)),(8,al),(9,al)],[]⟩,[]⟩],zu⟩
def ai0:LT:=bx.add 0 aiZ
def ai1:aT P 0 ai0 (bf f83):=lA Vb (bG _ _ _)
def M2(d:LG):Option LG:=
 let k:=(lI (d.rZ 0)); (be true (bR zu [.l (d.rZ 0),.s (d.sV 1),.i k,.i 0,.i k]) fun y h=>(bif (aN (h.iV 3) (h.iV 2)) then (gd (nL (h.iV 3) (lI (h.rZ 0))) (aI (M1 [.l [(bg [.str,.list a_] ((h.rZ 0).gR (h.iV 3)))],.s (h.sV 1)]) fun v=>some [.i (h.iV 3),.t ((v.iV 0)==0)])) else some [.i (h.iV 3),.t false]))
def ai2:aL:=⟨83,[.s (.list c8),dn,.s (.fn 84)],[],[],[al,dG],[],[],[],M2⟩
def t47:aF:=t46.bu ai2
def ai3:aH P t47:=tP Vb func83 ai1

def w7(d:LG):Option LG:=
 (aI (M2 [.l (d.rZ 0),.s (d.sV 1)]) fun h=>some [.i (h.iV 0),.t (h.bV 1)])
def ai4:aL:=⟨59,MI,[],[],[al,dG],[],[],[],w7⟩
def t48:aF:=t47.bu ai4
def M3:aH P t48:=dQ ai3 func59

def zw(d:LG):bp:=
 let h:=gi ((d.rZ 10).gR (d.iV 12)) 3; let y:=dV [.str] (d.rZ 2) [.s h.sV] [.i ((gi (cR [.str] (d.rZ 2) [.s h.sV] [.i 0]) 0).iV+1)] (d.iV 3).toNat; let k:=(d.iV 12)+1; let I:=(((dK [.str] (d.rZ 2) [.s h.sV] (d.iV 3).toNat):Nat):Int); let v:=(d.nN 1); let M:=(gi (cR [.str] (d.rZ 0) [.s h.sV] [.i 0]) 0).iV+1; let N:=(d.nN 3); let O:=(d.nN 5); (bif (aN (d.iV 12) (d.iV 11)) then (gd (nL (d.iV 12) (lI (d.rZ 10))) (aI (w7 [.l (d.rZ 6),.s h.sV]) fun U=>(bif (U.bV 1) then (gd (aA k) (some (none,.l (d.rZ 0)::.i v::.l (d.rZ 2)::.i N::.l (d.rZ 4)::.i O::kp d 6 [.l,.l,.i,.i,.l,.i] [.i k]))) else (gd (aA ((gi (cR [.str] (d.rZ 2) [.s h.sV] [.i 0]) 0).iV+1)) (bif (!(gi (cR [.str] (d.rZ 4) [.s h.sV] [.t false]) 0).bV) then (gd (aA M) (gd (aA k) (some (none,.l (dV [.str] (d.rZ 0) [.s h.sV] [.i M] (d.iV 1).toNat)::.i (((dK [.str] (d.rZ 0) [.s h.sV] (d.iV 1).toNat):Nat):Int)::.l y::.i I::.l (dV [.str] (d.rZ 4) [.s h.sV] [.t true] (d.iV 5).toNat)::.i (((dK [.str] (d.rZ 4) [.s h.sV] (d.iV 5).toNat):Nat):Int)::kp d 6 [.l,.l,.i,.i,.l,.i] [.i k])))) else (gd (aA k) (some (none,.l (d.rZ 0)::.i v::.l y::.i I::.l (d.rZ 4)::.i O::kp d 6 [.l,.l,.i,.i,.l,.i] [.i k])))))))) else some (some 0,.l (d.rZ 0)::.i v::.l (d.rZ 2)::.i N::kp d 6 [.l,.l,.i,.i] []))
def ai5:bA:=⟨7,[],⟨57,[(0,.s (.list c8)),(2,.s (.map 0)),(3,.s (.map 1)),(6,.s (.map 2)),(13,.s (.list c8)),(14,al),(15,al),(21,kA),(22,al),(23,al)],[.map (.one (.str)) (.one .I),.map (.one (.str)) (.one .I),.map (.one (.str)) (.one (.bool))]⟩,[.aM 2,.aM 3,.aM 6],[⟨.exit 2,⟨57,Uy,G_⟩,CR⟩],zw⟩
def Vc:LT:=bx.add 0 ai5
def ai6:aT P 0 Vc (bf f28):=lA M3 (bG _ _ _)
def CY(d:LG):bp:=
 let k:=gi ((d.rZ 5).gR (d.iV 7)) 1; let v:=(d.nN 1); let y:=(d.nN 3); (bif (aN (d.iV 7) (d.iV 6)) then (gd (nL (d.iV 7) (lI (d.rZ 5))) (be true (bR zw (.l (d.rZ 0)::.i v::.l (d.rZ 2)::.i y::.l []::.i 0::kp d 4 [.l,.l,.i,.i] [.l k.rZ,.i (lI k.rZ),.i 0])) fun I h=>(gd (aA ((h.iV 7)+1)) (some (none,.l (h.rZ 0)::.i (h.nN 1)::.l (h.rZ 2)::.i (h.nN 3)::kp h 4 [.l,.l,.i] [.i ((h.iV 7)+1)]))))) else eQ [.l (d.rZ 0),.i v,.l (d.rZ 2),.i y])
def ai7:bA:=⟨3,[],⟨57,Uy,G_⟩,CR,[⟨.exit 0,⟨57,[(2,.s (.map 0)),(3,.s (.map 1))],G_⟩,CR⟩],CY⟩
def ai8:LT:=Vc.add 0 ai7
def ai9:aT P 0 ai8 (bf f28):=lA M3 ai6
def CZ(d:LG):Option LG:=
 (be true (bR CY [.l [],.i 0,.l [],.i 0,.l (d.rZ 0),.l (d.rZ 0),.i (lI (d.rZ 0)),.i 0]) fun k h=>some [.l (h.rZ 0),.i (h.nN 1),.l (h.rZ 2),.i (h.nN 3)])
def ai_:aL:=⟨28,uy,[],[],[.s (.map 0),.s (.map 1)],G_,[.aM 0,.aM 1],[],CZ⟩
def t49:aF:=t48.du ai_
def ai':aH P t49:=tW M3 func28 ai9

def t50:aF:=t49.qU P 30 f30
def Hu:aH P t50:=ai'.qU hm func30 aB aB

def aja:Mv P (.one (.str)) 62:=aeV Hu func62 aB rfl rfl rfl ⟨_,_,_,rfl,⟨rfl,rfl,rfl⟩,⟨rfl,rfl,rfl⟩,aB,aB⟩ ⟨_,_,rfl,rfl,rfl,rfl,rfl,rfl,rfl⟩ ⟨_,_,rfl,rfl,rfl,rfl⟩ ⟨_,_,_,_,_,_,rfl,⟨rfl,rfl,rfl⟩,⟨rfl,rfl,rfl⟩⟩ (s2:=od P t50 (.one (.str)) (SL f62)) (s3:=fun l it g=>yT P t50 (ae3 f62) (od P t50 (.one (.str)) (SL f62) l it g)) (fun l it g=>by kernel_rfl) (fun l it g=>by kernel_rfl) (fun l it g=>by kernel_rfl) (fun l it g=>by kernel_rfl) (fun l it g=>by kernel_rfl) (fun l it g=>by kernel_rfl) (fun l it g=>by kernel_rfl)
def C0(r:LG):LG:=[.s (gi (gi r 0).rV 0).sV]
def lB(d:LG)(p:LL):LG:=[.l (jZ d),.i ((sr d:Nat):Int),.l (p.map C0)]
def M4(r d:LG):Option LG:=
 let z:=((gi d 2).rZ++([[.s (gi r 0).sV]]:LL)); bif ((aD (gi d 2).rZ.length (gi d 2).rZ.length)&&(decide ((gi d 2).rZ.length+1<=1048576))) then (gd (((bE z)&&true)&&true) (some [.l (gi d 0).rZ,.i (((gi d 1).iV.toNat:Nat):Int),.l z])) else none
def ajb:∀d p r,p.length<1048576->M4 (gi r 0).rV (lB d p)=some (lB d (p++[r])):=fun d p r h=>by
 have h1:p.length+1<=1048576:=h;simp[M4,lB,C0,gi,G.rZ,G.iV,h1]
def Hv(e:LG):Option LG:=bif (aD (gi e 2).rZ.length (gi e 2).rZ.length&&true) then some [.l (gi e 0).rZ,.i (((gi e 1).iV.toNat:Nat):Int),.l (gi e 2).rZ] else none
def Vd:∀d p,Hv (lB d p)=some (lB d p):=fun d p=>by simp[Hv,lB,gi,G.rZ,G.iV]
def M5:aL:=⟨85,[.s .nil,.clo 62 [.ptr 0 0]],[.box [.map 1],.map (.one (.str)) (.one .I)],[.cap 1 0,.cell 0 0],[.s (.vQ 2 1)],[.box [.map 1],.map (.one (.str)) (.one .I),.vQ [.str] 0],[.fix 0,.fix 1,.aM 0],[],fun _=>none⟩
def ajc:∀d,mJ d=true->ly P M5 d (fun p=>p.Perm (jZ d)) (lB d):=fun d h=>apN (V:=(.one .I)) (sp:=M5) (fn:=f85) (L0:=bx.sk [(1,[.Gb 2 0 [.str]])]) hm Hu aja (fun _ _=>qS _) func85 aB aB (r0:=apA f85) (r1:=apB f85) (assign:=ae0 f85) (body:=ae1 f85) (rest:=ae2 f85) (b:=0) (g:=6) (p0:=7) aB aB (inv:=⟨13,[(2,.s (.ptr 2 0))],[.box [.map 1],.map (.one (.str)) (.one .I),.box [.vQ 3 1],.vQ [.str] 0]⟩) (ps:=[.fix 0,.fix 1,.fix 2,.cell 2 0]) (psr:=[.fix 0,.fix 1,.fix 2,.cell 2 0]) (pre:=aeX P t50 (bx.sk [(1,[.Gb 2 0 [.str]])]) f85 M5) (D:=lB) (st:=M4) (tl:=Hv) (R:=lB) (fun d=>by kernel_rfl) (fun d=>by kernel_rfl) (fun d=>by kernel_rfl) (fun d=>by kernel_rfl) (fun d=>by kernel_rfl) (fun d=>by kernel_rfl) (fun d p=>by kernel_rfl) (fun r d=>by kernel_rfl) ajb (fun d=>by kernel_rfl) Vd h
def qj:aL:=⟨60,[.clo 62 [.ptr 0 0]],[.box [.map 1],.map (.one (.str)) (.one .I)],[.cap 0 0,.cell 0 0],[.s (.vQ 2 1)],[.box [.map 1],.map (.one (.str)) (.one .I),.vQ [.str] 0],[.fix 0,.fix 1,.aM 0],[],fun _=>none⟩
def ajd:∀d,mJ d=true->ly P qj d (fun p=>p.Perm (jZ d)) (lB d):=ae5 hm Hu func60 aB ajc aB rfl (l1:=[_]) (l2:=[_]) rfl rfl rfl (s1:=aeW P t50 f60 qj) (fun d=>by kernel_rfl) (fun d=>by kernel_rfl) (fun d=>by kernel_rfl) (tl:=Hv) (fun d e=>by kernel_rfl) Vd
def Ve:∀d,mJ d=true->ly P qj d (fun e=>∃p:LL,p.Perm (jZ d)/\lB d p=e) id:=fun d h=>(ajd d h).img
def t51:aF:=t50
def Vg:aH P t51:=Hu

def sE(d:LG):bp:=
 let k:=IntKind.u8.wrap (d.iV 0); let h:=(((⟨#[0,1,2,2,3,3,3,3,4,4,4,4,4,4,4,4,5,5,5,5,5,5,5,5,5,5,5,5,5,5,5,5,6,6,6,6,6,6,6,6,6,6,6,6,6,6,6,6,6,6,6,6,6,6,6,6,6,6,6,6,6,6,6,6,7,7,7,7,7,7,7,7,7,7,7,7,7,7,7,7,7,7,7,7,7,7,7,7,7,7,7,7,7,7,7,7,7,7,7,7,7,7,7,7,7,7,7,7,7,7,7,7,7,7,7,7,7,7,7,7,7,7,7,7,7,7,7,7,8,8,8,8,8,8,8,8,8,8,8,8,8,8,8,8,8,8,8,8,8,8,8,8,8,8,8,8,8,8,8,8,8,8,8,8,8,8,8,8,8,8,8,8,8,8,8,8,8,8,8,8,8,8,8,8,8,8,8,8,8,8,8,8,8,8,8,8,8,8,8,8,8,8,8,8,8,8,8,8,8,8,8,8,8,8,8,8,8,8,8,8,8,8,8,8,8,8,8,8,8,8,8,8,8,8,8,8,8,8,8,8,8,8,8,8,8,8,8,8,8,8,8,8,8,8,8,8]⟩:BY).data.toList.getD (k.toNat) 0).toNat:Int); (gd (nL k 256) (gd (aA h) (gd (aA ((d.iV 1)+h)) (eQ [.i ((d.iV 1)+h)]))))
def aje:bA:=⟨10,[],⟨25,[(0,.s (.int .u64)),(2,al)],[]⟩,[],[⟨.ret,⟨25,wY,[]⟩,[]⟩],sE⟩
def ajf:LT:=bx.gv 0 aje
def ajg:aT P 0 ajf (bf f122):=lC Vg (bG _ _ _)
def Vh(d:LG):Option LG:=
 let h:=nZ .u64 (d.iV 0) 32; let k:=nZ .u64 (d.iV 0) 16; let v:=nZ .u64 h 16; (bif (bq 4294967296 (d.iV 0)) then (bif (bq 65536 h) then (bif (bq 256 v) then (be true (c7 (sE [.i (nZ .u64 v 8),.i 56])) fun cg1 y=>some [.i (y.iV 0)]) else (be true (c7 (sE [.i v,.i 48])) fun cg2 I=>some [.i (I.iV 0)])) else (bif (bq 256 h) then (be true (c7 (sE [.i (nZ .u64 h 8),.i 40])) fun cg3 M=>some [.i (M.iV 0)]) else (be true (c7 (sE [.i h,.i 32])) fun cg4 N=>some [.i (N.iV 0)]))) else (bif (bq 65536 (d.iV 0)) then (bif (bq 256 k) then (be true (c7 (sE [.i (nZ .u64 k 8),.i 24])) fun cg5 O=>some [.i (O.iV 0)]) else (be true (c7 (sE [.i k,.i 16])) fun cg6 U=>some [.i (U.iV 0)])) else (bif (bq 256 (d.iV 0)) then (be true (c7 (sE [.i (nZ .u64 (d.iV 0) 8),.i 8])) fun cg7 W=>some [.i (W.iV 0)]) else (be true (c7 (sE [.i (d.iV 0),.i 0])) fun cg8 g8=>some [.i (g8.iV 0)]))))
def ajh:aL:=⟨122,[.s (.int .u64)],[],[],[al],[],[],[],Vh⟩
def t52:aF:=t51.bu ajh
def aji:aH P t52:=tP Vg func122 ajg

def C1(d:LG):Option LG:=
 (aI (Vh [.i (d.iV 0)]) fun h=>some [.i (h.iV 0)])
def ajj:aL:=⟨87,[.s (.int .u64)],[],[],[al],[],[],[],C1⟩
def t53:aF:=t52.bu ajj
def ajk:aH P t53:=dQ aji func87

def w9(d:LG):Option LG:=
 let h:=(gi (cR [.str] (d.rZ 0) [.s (d.sV 3)] [.i 0]) 0).iV-(gi (cR [.str] (d.rZ 0) [.s (d.sV 2)] [.i 0]) 0).iV; (gd (aA h) (aI (pn [.s (d.sV 2),.s (d.sV 3)]) fun k=>(aI (w6 [.l [[.i h],[.i (k.iV 0)]]]) fun v=>some [.l (d.rZ 0),.i (d.nN 1),.i (v.iV 0)])))
def ajl:aL:=⟨31,[dn,dn,.s (.ptr 0 0)],GZ,[.aM 2,.cell 0 0],[al],GZ,MJ,[],w9⟩
def t54:aF:=t53.du ajl
def M6:aH P t54:=nE ajk func31

def zx(d:LG):bp:=
 let h:=(d.iV 6)-1; let v:=(d.rZ 0).set (0+(d.iV 6).toNat) (eh [.str] ((d.rZ 0).getD (0+(d.iV 6).toNat) []) 0 [.s (gi ((d.rZ 0).getD (0+h.toNat) []) 0).sV]); let U:=(lI (d.rZ 0)); let W:=v.set (0+h.toNat) (eh [.str] (v.getD (0+h.toNat) []) 0 [.s (gi ((d.rZ 0).getD (0+(d.iV 6).toNat) []) 0).sV]); let y:=decide ((0+(d.iV 6).toNat)<(d.rZ 0).length); let I:=nL (d.iV 6) U; let z7:=bE (d.rZ 0); let z8:=decide ((0+h.toNat)<(d.rZ 0).length); let M:=nL h U; let N:=(d.nN 2); (bif (aN (d.iV 3) (d.iV 6)) then (gd I (gd y (gd (aA h) (gd M (gd z8 (aI (w9 [.l (d.rZ 1),.i N,.s (gi ((d.rZ 0).getD (0+(d.iV 6).toNat) []) 0).sV,.s (gi ((d.rZ 0).getD (0+h.toNat) []) 0).sV]) fun k=>let O:=(k.nN 1); (bif (aN (k.iV 2) 0) then (gd (aA h) (gd (aA h) (gd M (gd z8 (gd I (gd y (gd I (gd y (gd M (gd (decide ((0+h.toNat)<v.length)) (gd (aA h) (gd ((aD (d.rZ 0).length W.length)&&true) (some (none,.l W::.l (k.rZ 0)::.i O::kp d 3 [.i,.i,.i] [.i h])))))))))))))) else (gd z7 (some (some 0,.l (d.rZ 0)::.l (k.rZ 0)::.i O::kp d 3 [.i,.i,.i] [])))))))))) else (gd z7 (some (some 0,.l (d.rZ 0)::.l (d.rZ 1)::.i N::kp d 3 [.i,.i,.i] []))))
def ajm:bA:=⟨4,[],⟨53,[(0,.s (.vQ 0 1)),(1,al),(2,al),(3,.clo 31 [.ptr 1 0]),(8,al),(9,al)],pq⟩,ze,[⟨.exit 2,⟨53,Uz,pq⟩,ze⟩],zx⟩
def Vi:LT:=bx.add 3 ajm
def ajn:aT P 3 Vi (bf f113):=lA M6 (bG _ _ _)
def zy(d:LG):bp:=
 let k:=(d.nN 2); (bif (aN (d.iV 5) (d.iV 4)) then (be (bE (d.rZ 0)) (bR zx (.l (d.rZ 0)::.l (d.rZ 1)::.i k::kp d 3 [.i,.i,.i] [.i (d.iV 5)])) fun v h=>(gd (aA ((h.iV 5)+1)) (gd (bE (h.rZ 0)) (nQ [.l (h.rZ 0),.l (h.rZ 1),.i (h.nN 2),.i (h.iV 3),.i (h.iV 4),.i ((h.iV 5)+1)])))) else eQ [.l (d.rZ 0),.l (d.rZ 1),.i k])
def ajo:bA:=⟨1,[],⟨53,Uz,pq⟩,ze,[⟨.exit 0,⟨53,[],pq⟩,ze⟩],zy⟩
def ajp:LT:=Vi.add 3 ajo
def ajq:aT P 3 ajp (bf f113):=lA M6 ajn
def Hw(d:LG):Option LG:=
 (gd (aA ((d.iV 3)+1)) (be (bE (d.rZ 0)) (bR zy [.l (d.rZ 0),.l (d.rZ 1),.i (d.nN 2),.i (d.iV 3),.i (d.iV 4),.i ((d.iV 3)+1)]) fun k h=>some [.l (h.rZ 0),.l (h.rZ 1),.i (h.nN 2)]))
def ajr:aL:=⟨113,[.s (.vQ 0 1),al,al,.clo 31 [.ptr 1 0]],pq,[.aM 0,.cap 3 0,.cell 1 0],[],pq,sx,[],Hw⟩
def t55:aF:=t54.du ajr
def Vj:aH P t55:=tW M6 func113 ajq

def Hx(d:LG):bp:=
 let k:=(Hw [.l (d.rZ 0),.l (d.rZ 1),.i (d.nN 2),.i (d.iV 3),.i (d.iV 4)]); let v:=(d.iV 4)-(d.iV 3); (gd (aA v) (bif (bq v 12) then (i_ ((bE (d.rZ 0))&&k.isSome) k fun h=>eQ [.l (h.rZ 0),.l (h.rZ 1),.i (h.nN 2)]) else (bif ((d.iV 5)==0) then none else (gd (!(d.bV 6)) none))))
def ajs:bA:=⟨2,[],⟨148,[(0,.s (.vQ 0 1)),(1,al),(2,al),(3,al),(4,.clo 31 [.ptr 1 0]),(10,dG),(11,dG)],pq⟩,ze,[⟨.ret,⟨148,[],pq⟩,ze⟩],Hx⟩
def ajt:LT:=bx.add 3 ajs
def aju:aT P 3 ajt (bf f86):=lA Vj (bG _ _ _)
def Hy(d:LG):Option LG:=
 (be (bE (d.rZ 0)) (bR Hx (.l (d.rZ 0)::.l (d.rZ 1)::.i (d.nN 2)::kp d 3 [.i,.i,.i] [.t true,.t true])) fun k h=>some [.l (h.rZ 0),.l (h.rZ 1),.i (h.nN 2)])
def ajv:aL:=⟨86,[.s (.vQ 0 1),al,al,al,.clo 31 [.ptr 1 0]],pq,[.aM 0,.cap 4 0,.cell 1 0],[],pq,sx,[],Hy⟩
def t56:aF:=t55.du ajv
def ajw:aH P t56:=tW Vj func86 aju

def Hz(d:LG):Option LG:=
 let k:=(lI (d.rZ 0)); let y:=(d.nN 2); (aI (C1 [.i (IntKind.u64.wrap k)]) fun I=>let v:=Hy [.l (d.rZ 0),.l (d.rZ 1),.i y,.i 0,.i k,.i (I.iV 0)]; (i_ ((bE (d.rZ 0))&&v.isSome) v fun h=>some [.l (h.rZ 0),.l (h.rZ 1),.i (h.nN 2)]))
def ajx:aL:=⟨61,[.s (.vQ 0 1),.clo 31 [.ptr 1 0]],pq,[.aM 0,.cap 1 0,.cell 1 0],[],pq,sx,[],Hz⟩
def t57:aF:=t56.du ajx
def M7:aH P t57:=nE ajw func61

def rf(d:LG):LG:=[.l (d.rZ 0),.i (d.nN 1)]
def HA(d h:LG):Option LG:=
 let v:=(Hz [.l (h.rZ 2),.l (h.rZ 0),.i (h.nN 1)]); (i_ ((bE (h.rZ 2))&&v.isSome) v fun k=>(gd ((aD (h.rZ 2).length (k.rZ 0).length)&&true) (some [.l (k.rZ 1),.i (k.nN 2),.l (k.rZ 0)])))
def zA(d:LG):Option LG:=bif mJ (rf d) then uo (jZ (rf d)) (fun _ p=>HA d (lB (rf d) p)) else none
def w_:aL:=⟨29,[.clo 62 [.ptr 0 0],.clo 31 [.ptr 2 0]],Tj,[.cap 0 0,.cell 0 0,.cap 1 0],[.s (.list [.str])],Tj,sx,[],zA⟩
def qk(d:LG):aG:=sL P t57 f29 w_ 1 d
def ajy:∀d,(eH P t57 bx (CF f29) ⟨gY (w_.ew d) (f29).ntmps,w_.H0 d⟩ fun x s=>match x with | .normal=>g_ P t57 (lz f29) ((lz f29).toList.take 1) s fun s=>.done .normal s|_=>.fail).leaf yV=some (qk d):=fun d=>by kernel_rfl
def ajz:∀d e,(g_ P t57 (lz f29) ((lz f29).toList.drop 2) ⟨(qk d).fr.set 7 (mL qj (uq f29 1 (qk d)) (qk d).H e).1,(mL qj (uq f29 1 (qk d)) (qk d).H e).2⟩ fun s=>eH P t57 bx (GM f29) s .done).leaf (jY P (f29).results.toList w_)=HA d e:=fun d e=>by kernel_rfl
def ajA:∀d,il (qk d).ao.eval (CG f29 1).op=some (qj.f,(uq f29 1 (qk d))):=fun d=>by kernel_rfl
def ajB:∀d,CE qj (uq f29 1 (qk d)) (qk d).H=some (true,rf d):=fun d=>by kernel_rfl
def ajC:iL P w_:=fun d r h=>by
 have h:zA d=some r:=h;unfold zA at h;cases k:mJ (rf d)with
 |false=>rw[k]at h; cases h
 |true=>
  rw[k]at h;have v:=Gz h 0;exact SM (sp:=w_) hm M7 M7 func29 aB (jn.qV (Ve _ k)) aB aB (r0:=CF f29) (id:=1) (ai:=lz f29) (rest:=GM f29) aB (bG _ _ _) (l1:=(lz f29).toList.take 1) (oc:=CG f29 1) (l2:=(lz f29).toList.drop 2) aB aB (t:=7) aB (S1:=qk d) (ajy d) (ajA d) (ajB d) (tl:=HA d) (ajz d) fun e he=>by
   obtain⟨p,y,rfl⟩:=he;exact v p y
def t58:aF:=t57.du w_
def Vk:aH P t58:=M7.aW ajC

def C2(d:LG):bp:=
 let v:=gi ((d.rZ 4).gR (d.iV 6)) 0; let k:=aD (d.rZ 2).length (d.rZ 2).length; let y:=gi (cR [.str] (d.rZ 0) [.s v.sV] [.i 0]) 0; let h:=(d.iV 6)+1; let I:=(d.nN 1); (bif (aN (d.iV 6) (d.iV 5)) then (gd (nL (d.iV 6) (lI (d.rZ 4))) (bif (bq (d.iV 3) y.iV) then (aI (mM [.i y.iV]) fun N=>let M:=((d.rZ 2)++([[.s v.sV,.s (N.sV 0)]]:LL)); (gd (k&&(decide (((d.rZ 2).length+1)<=1048576))) (gd (aA h) (gd (bE M) (some (none,.l (d.rZ 0)::.i I::.l M::kp d 3 [.i,.l,.i] [.i h])))))) else (gd (aA h) (gd (k&&true) (some (none,.l (d.rZ 0)::.i I::kp d 2 [.l,.i,.l,.i] [.i h])))))) else (gd (k&&true) (eQ [.l (d.rZ 2)])))
def ajD:bA:=⟨10,[(10,[.str,.str])],⟨51,[(1,al),(7,.s (.ptr 0 0)),(10,.s (.vQ 2 2)),(29,.s (.list [.str])),(30,al),(31,al)],[.box [.map 1],.map (.one (.str)) (.one .I),.vQ [.str,.str] 0]⟩,[.aM 7,.cell 0 0,.aM 10],[⟨.exit 0,⟨51,[(10,.s (.vQ 0 2))],sD⟩,[.aM 10]⟩],C2⟩
def ajE:LT:=bx.add 0 ajD
def ajF:aT P 0 ajE (bf f7):=lA Vk (bG _ _ _)
def zB(d:LG):Option LG:=
 (aI (oA [.l (d.rZ 0)]) fun k=>(bif ((k.iV 0) != 0) then some [.l [],.i (k.iV 0)] else (aI (qi [.i (d.iV 1),.i 1,.i 100]) fun I=>(bif (I.bV 0) then some [.l [],.i 1] else (aI (CZ [.l (d.rZ 0)]) fun v=>(aI (zA [.l (v.rZ 0),.i (v.nN 1)]) fun h=>(be true (bR C2 [.l (h.rZ 0),.i (h.nN 1),.l [],.i (d.iV 1),.l (h.rZ 2),.i (lI (h.rZ 2)),.i 0]) fun M y=>(gd (bE (y.rZ 0)) (some [.l (y.rZ 0),.i 0])))))))))
def ajG:aL:=⟨7,G0,[],[],Tk,[],[],[],zB⟩
def t59:aF:=t58.bu ajG
def ajH:aH P t59:=tP Vk func7 ajF

def zC(d:LG):Option LG:=
 GN d
def Vl:aL:=⟨65,MK,jb,iu,[],jb,eI,[],zC⟩
def ajI:iL P Vl:=fun d r h=>ae8 Tryz.afJ d r h
def t60:aF:=t59.du Vl
def M8:aH P t60:=ajH.aW ajI

def rh(d:LG):LG:=[.l (d.rZ 0),.i (d.nN 1)]
def HB(d h:LG):Option LG:=
 let k:=zC [.l (h.rZ 2)]; (i_ ((bE (h.rZ 2))&&k.isSome) k fun v=>(gd ((aD (h.rZ 2).length (v.rZ 0).length)&&true) (some [.l (h.rZ 0),.i (h.nN 1),.l (v.rZ 0)])))
def zD(d:LG):Option LG:=bif mJ (rh d) then uo (jZ (rh d)) (fun _ p=>HB d (lB (rh d) p)) else none
def xa:aL:=⟨35,[.clo 62 [.ptr 0 0]],GZ,[.cap 0 0,.cell 0 0],[.s (.list [.str])],GZ,MJ,[],zD⟩
def ql(d:LG):aG:=sL P t60 f35 xa 1 d
def ajJ:∀d,(eH P t60 bx (CF f35) ⟨gY (xa.ew d) (f35).ntmps,xa.H0 d⟩ fun x s=>match x with | .normal=>g_ P t60 (lz f35) ((lz f35).toList.take 1) s fun s=>.done .normal s|_=>.fail).leaf yV=some (ql d):=fun d=>by kernel_rfl
def ajK:∀d e,(g_ P t60 (lz f35) ((lz f35).toList.drop 2) ⟨(ql d).fr.set 5 (mL qj (uq f35 1 (ql d)) (ql d).H e).1,(mL qj (uq f35 1 (ql d)) (ql d).H e).2⟩ fun s=>eH P t60 bx (GM f35) s .done).leaf (jY P (f35).results.toList xa)=HB d e:=fun d e=>by kernel_rfl
def ajL:∀d,il (ql d).ao.eval (CG f35 1).op=some (qj.f,(uq f35 1 (ql d))):=fun d=>by kernel_rfl
def ajM:∀d,CE qj (uq f35 1 (ql d)) (ql d).H=some (true,rh d):=fun d=>by kernel_rfl
def ajN:iL P xa:=fun d r h=>by
 have h:zD d=some r:=h;unfold zD at h;cases k:mJ (rh d)with
 |false=>rw[k]at h; cases h
 |true=>
  rw[k]at h;have v:=Gz h 0;exact SM (sp:=xa) hm M8 M8 func35 aB (jn.qV (Ve _ k)) aB aB (r0:=CF f35) (id:=1) (ai:=lz f35) (rest:=GM f35) aB (bG _ _ _) (l1:=(lz f35).toList.take 1) (oc:=CG f35 1) (l2:=(lz f35).toList.drop 2) aB aB (t:=5) aB (S1:=ql d) (ajJ d) (ajL d) (ajM d) (tl:=HB d) (ajK d) fun e he=>by
   obtain⟨p,y,rfl⟩:=he;exact v p y
def t61:aF:=t60.du xa
def Vm:aH P t61:=M8.aW ajN

def C3(d:LG):bp:=
 let v:=((d.rZ 2)++([[.s (gi ((d.rZ 3).gR (d.iV 5)) 0).sV]]:LL)); let k:=aD (d.rZ 2).length (d.rZ 2).length; let h:=(d.iV 5)+1; let y:=(d.nN 1); (bif (aN (d.iV 5) (d.iV 4)) then (gd (nL (d.iV 5) (lI (d.rZ 3))) (bif ((gi (cR [.str] (d.rZ 0) [.s (gi ((d.rZ 3).gR (d.iV 5)) 0).sV] [.i 0]) 0).iV==1) then (gd (k&&(decide (((d.rZ 2).length+1)<=1048576))) (gd (aA h) (gd (bE v) (nQ [.l (d.rZ 0),.i y,.l v,.l (d.rZ 3),.i (d.iV 4),.i h])))) else (gd (aA h) (gd (k&&true) (some (none,.l (d.rZ 0)::.i y::kp d 2 [.l,.l,.i] [.i h])))))) else (gd (k&&true) (eQ [.l (d.rZ 2)])))
def ajO:bA:=⟨7,[(7,[.str])],⟨38,[(6,.s (.map 0)),(7,.s (.vQ 1 1)),(22,.s (.list [.str])),(23,al),(24,al)],[.map (.one (.str)) (.one .I),.vQ [.str] 0]⟩,[.aM 6,.aM 7],[⟨.exit 0,⟨38,[(7,.s (.vQ 0 1))],jb⟩,[.aM 7]⟩],C3⟩
def ajP:LT:=bx.add 0 ajO
def ajQ:aT P 0 ajP (bf f8):=lA Vm (bG _ _ _)
def zF(d:LG):Option LG:=
 (aI (oA [.l (d.rZ 0)]) fun k=>(bif ((k.iV 0) != 0) then some [.l [],.i (k.iV 0)] else (aI (CZ [.l (d.rZ 0)]) fun v=>(aI (zD [.l (v.rZ 2),.i (v.nN 3)]) fun h=>(be true (bR C3 [.l (h.rZ 0),.i (h.nN 1),.l [],.l (h.rZ 2),.i (lI (h.rZ 2)),.i 0]) fun I y=>(gd (bE (y.rZ 0)) (some [.l (y.rZ 0),.i 0])))))))
def ajR:aL:=⟨8,uy,[],[],[.s (.list [.str]),al],[],[],[],zF⟩
def t62:aF:=t61.bu ajR
def ajS:aH P t62:=tP Vm func8 ajQ

def C5(d:LG):Option LG:=
 (aI (qi [.i (d.iV 0),.i 0,.i 3600000]) fun h=>(bif (h.bV 0) then some [.i 1] else some [.i 0]))
def ajT:aL:=⟨36,[al],[],[],[al],[],[],[],C5⟩
def t63:aF:=t62.bu ajT
def ajU:aH P t63:=dQ ajS func36

def M9(d:LG):Option LG:=
 some (kp d 0 [.l,.i,.i] [.l [],.i 0,.l [],.i 0])
def ajV:aL:=⟨38,[.s (.list c8),al,al],[],[],ux,Tl,zf,[],M9⟩
def t64:aF:=t63.du ajV
def Vn:aH P t64:=nE ajU func38

def zG(d:LG):bp:=
 let h:=(d.rZ 3).gR (d.iV 5); let k:=fY [.str,.I] (d.rZ 0) [.s (h.sV 2),.i (h.iV 1)]; let M:=(((r_ [.str,.I] (d.rZ 0) [.s (h.sV 2),.i (h.iV 1)] ((d.iV 1).toNat)):Nat):Int); let N:=sc [.str,.I] (d.rZ 0) [.s (h.sV 2),.i (h.iV 1)] ((d.iV 1).toNat); let y:=(k++([[.i (d.iV 5)]]:LL)); let v:=(d.iV 5)+1; let O:=(d.nN 1); (bif (aN (d.iV 5) (d.iV 4)) then (gd (nL (d.iV 5) (lI (d.rZ 3))) (bif ((h.sV 3).toList==(d.sV 2).toList) then (gd (fG [.str,.I] (d.rZ 0) [.s (h.sV 2),.i (h.iV 1)]) (gd ((aD k.length k.length)&&(decide ((k.length+1)<=1048576))) (gd ((yB N M)&&(aD y.length y.length)) (gd (aA v) (some (none,.l (yA N M y)::.i (((dK [.str,.I] (d.rZ 0) [.s (h.sV 2),.i (h.iV 1)] ((d.iV 1).toNat)):Nat):Int)::kp d 2 [.s,.l,.i] [.i v])))))) else (gd (aA v) (some (none,.l (d.rZ 0)::.i O::kp d 2 [.s,.l,.i] [.i v]))))) else eQ [.l (d.rZ 0),.i O])
def ajW:bA:=⟨3,[],⟨36,[(1,dn),(5,.s (.map 0)),(10,kA),(11,al),(12,al)],[.ba 1 (.agg [.str,.I]) [.I]]⟩,q9,[⟨.exit 0,⟨36,[(5,.s (.map 0))],[.ba 1 (.agg [.str,.I]) [.I]]⟩,q9⟩],zG⟩
def ajX:LT:=(bx.sk [(2,[.ba 5 1]),(9,[.L_ 5])]).add 0 ajW
def ajY:aT P 0 ajX (bf f175):=lA Vn (qS _)
def C6(d:LG):Option LG:=
 (be true (bR zG [.l [],.i 0,.s (d.sV 1),.l (d.rZ 0),.i (lI (d.rZ 0)),.i 0]) fun k h=>(gd ((ui (h.rZ 0))&&true) (some [.l (h.rZ 0),.i (h.nN 1)])))
def ajZ:aL:=⟨175,[kA,dn],[],[],[.s (.map 0)],[.map (.agg [.str,.I]) (.one (.list [.I]))],iu,[],C6⟩
def t65:aF:=t64.du ajZ
def aj0:aH P t65:=tW Vn func175 ajY

def zH(d:LG):Option LG:=
 let h:=(gi (d.rV 0) 0).iV-(gi (d.rV 1) 0).iV; let k:=(gi (d.rV 1) 0).iV-(gi (d.rV 0) 0).iV; (gd (aA h) (gd (aA k) (some [.i (if k>h then k else h)])))
def aj1:aL:=⟨206,zd,[],[],[al],[],[],[],zH⟩
def t66:aF:=t65.bu aj1
def aj2:aH P t66:=dQ aj0 func206

def zI(d:LG):Option LG:=
 (bif ((gi (d.rV 0) 2).sV.toList==(gi (d.rV 1) 2).sV.toList) then (bif ((gi (d.rV 0) 1).iV==(gi (d.rV 1) 1).iV) then (aI (zH [.l [(bg a_ (d.rV 0))],.l [(bg a_ (d.rV 1))]]) fun h=>some [.t (bq (h.iV 0) (d.iV 2))]) else some [.t false]) else some [.t false])
def aj3:aL:=⟨179,Tm,[],[],[dG],[],[],[],zI⟩
def t67:aF:=t66.bu aj3
def aj4:aH P t67:=dQ aj2 func179

def HC(d:LG):Option LG:=
 let h:=gi ((d.rZ 2).gR (d.iV 6)) 0; let k:=gi ((d.rZ 3).gR (d.iV 7)) 0; let v:=bg a_ ((d.rZ 0).gR (h.iV)); let y:=bg a_ ((d.rZ 1).gR (k.iV)); (gd (nL (d.iV 6) (lI (d.rZ 2))) (gd (nL h.iV (lI (d.rZ 0))) (gd (nL (d.iV 7) (lI (d.rZ 3))) (gd (nL k.iV (lI (d.rZ 1))) (aI (zH [.l [v],.l [y]]) fun M=>let I:=10000000000-(M.iV 0); (gd (aA I) (aI (zI [.l [v],.l [y],.i (d.iV 4)]) fun N=>(gd (((bE (d.rZ 5))&&true)&&true) (some (kp d 0 [.l,.l,.l,.l,.i,.l] [.i I,.t (N.bV 0)]))))))))))
def aj5:aL:=⟨205,MG,G',[.aM 0,.cell 0 5],[al,dG],G',MJ,[],HC⟩
def t68:aF:=t67.du aj5
def HD:aH P t68:=tW aj4 func205 (qS [(1,[.hole a_,.hole a_])])

def C7(d:LG):bp:=
 (gd (aA ((d.iV 8)-1)) (gd (((bE (d.rZ 5))&&true)&&(bE (d.rZ 6))) (some (some 0,kp d 0 [.l,.l,.l,.l,.i,.l,.l,.i] [.i ((d.iV 8)-1)]))))
def aj6:bA:=⟨8,[],⟨118,MR,G7⟩,G1,[⟨.normal,⟨118,MR,G7⟩,G1⟩],C7⟩
def Vo:LT:=bx.gv 1 aj6
def aj7:aT P 1 Vo (bf f204):=lC HD (bG _ _ _)
def C8(d:LG):bp:=
 let y:=0+(d.iV 8).toNat; let k:=(d.iV 8)+1; let z5:=HC (kp d 0 [.l,.l,.l,.l,.i,.l] [.i (d.iV 7),.i (d.iV 8)]); let U:=(nL (d.iV 8) (lI (d.rZ 6))); let M:=(d.iV 7)+1; let v:=0+M.toNat; let N:=(d.rZ 6).set y (eh [.I] ((d.rZ 6).getD y []) 0 [.i (if (gi ((d.rZ 6).getD (0+k.toNat) []) 0).iV>(gi ((gi ((d.rZ 5).getD v []) 0).rZ.gR (d.iV 8)) 0).iV then (gi ((d.rZ 6).getD (0+k.toNat) []) 0).iV else (gi ((gi ((d.rZ 5).getD v []) 0).rZ.gR (d.iV 8)) 0).iV)]); let z8:=(bE (d.rZ 5))&&true; let W:=N.getD y []; let z10:=decide (y<N.length); (bif (bq 0 (d.iV 8)) then (gd (aA M) (gd (nL M (lI (d.rZ 5))) (gd (decide (v<(d.rZ 5).length)) (gd (nL (d.iV 8) (((gi ((d.rZ 5).getD v []) 0).rZ.length:Nat):Int)) (gd (aA k) (gd (nL k (lI (d.rZ 6))) (gd (decide ((0+k.toNat)<(d.rZ 6).length)) (gd U (gd (decide (y<(d.rZ 6).length)) (i_ ((z8&&true)&&z5.isSome) z5 fun h=>let O:=(h.iV 6)+(gi ((gi ((h.rZ 5).getD v []) 0).rZ.gR k) 0).iV; let z12:=N.set y (eh [.I] W 0 [.i (if O>(W.iV 0) then O else (W.iV 0))]); let z13:=(bE (h.rZ 5))&&true; (bif (h.bV 7) then (gd U (gd z10 (gd (aA M) (gd (nL M (lI (h.rZ 5))) (gd (decide (v<(h.rZ 5).length)) (gd (aA k) (gd (nL k (((gi ((h.rZ 5).getD v []) 0).rZ.length:Nat):Int)) (gd (aA O) (gd U (gd z10 (be (z13&&((aD (d.rZ 6).length z12.length)&&true)) (c7 (C7 (kp h 0 [.l,.l,.l,.l,.i,.l] [.l z12,.i (d.iV 7),.i (d.iV 8)]))) fun cg2 g2=>(gd (((bE (g2.rZ 5))&&true)&&(bE (g2.rZ 6))) (some (none,kp g2 0 [.l,.l,.l,.l,.i,.l,.l,.i,.i] [])))))))))))))) else (be (z13&&((aD (d.rZ 6).length N.length)&&true)) (c7 (C7 (kp h 0 [.l,.l,.l,.l,.i,.l] [.l N,.i (d.iV 7),.i (d.iV 8)]))) fun cg3 g3=>(gd (((bE (g3.rZ 5))&&true)&&(bE (g3.rZ 6))) (some (none,kp g3 0 [.l,.l,.l,.l,.i,.l,.l,.i,.i] []))))))))))))))) else (gd (z8&&(bE (d.rZ 6))) (some (some 0,kp d 0 [.l,.l,.l,.l,.i,.l,.l,.i] []))))
def aj8:bA:=⟨7,[],⟨118,MR,G7⟩,G1,[⟨.exit 2,⟨118,[(0,.s (.ptr 0 0)),(2,al),(3,.s (.vQ 2 1))],G7⟩,G1⟩],C8⟩
def Vp:LT:=Vo.add 1 aj8
def aj9:aT P 1 Vp (bf f204):=lA HD aj7
def C9(d:LG):bp:=
 let k:=(lI (d.rZ 3)); let v:=(bE (d.rZ 5))&&true; let y:=(cn ((k+1).toNat) ([.i 0]:LG)); (bif (bq 0 (d.iV 6)) then (gd (aA (k+1)) (gd ((cO (k+1))&&((bq (k+1) (k+1))&&(bq (k+1) 1048576))) (gd (aA (k-1)) (be (v&&((aD (k+1).toNat y.length)&&true)) (bR C8 (kp d 0 [.l,.l,.l,.l,.i,.l] [.l y,.i (d.iV 6),.i (k-1)])) fun N h=>let M:=(h.rZ 5).set (0+(h.iV 7).toNat) (eh [.list [.I]] ((h.rZ 5).getD (0+(h.iV 7).toNat) []) 0 [.l (h.rZ 6)]); (gd (nL (h.iV 7) (lI (h.rZ 5))) (gd ((aD (h.rZ 6).length (h.rZ 6).length)&&(decide ((0+(h.iV 7).toNat)<(h.rZ 5).length))) (gd (aA ((h.iV 7)-1)) (gd ((((aD (h.rZ 5).length M.length)&&true)&&true)&&true) (some (none,kp h 0 [.l,.l,.l,.l,.i] [.l M,.i ((h.iV 7)-1)])))))))))) else (gd (v&&true) (some (some 0,kp d 0 [.l,.l,.l,.l,.i,.l] []))))
def aj_:bA:=⟨3,[],⟨118,[(0,.s (.ptr 0 0)),(2,al)],G'⟩,[.fix 0,.cell 0 5],[⟨.exit 0,⟨118,[],G'⟩,[.fix 0,.cell 0 5]⟩],C9⟩
def aj':LT:=Vp.add 1 aj_
def aka:aT P 1 aj' (bf f204):=lA HD aj9
def HF(d:LG):Option LG:=
 let h:=(lI (d.rZ 2)); let k:=((lI (d.rZ 3))+1); let v:=((cn ((h+1).toNat) ([.l []]:LG)).set (0+(d.rZ 2).length) (eh [.list [.I]] ((cn ((h+1).toNat) ([.l []]:LG)).getD (0+(d.rZ 2).length) []) 0 [.l (cn (k.toNat) ([.i 0]:LG))])); (gd (aA (h+1)) (gd ((cO (h+1))&&((bq (h+1) (h+1))&&(bq (h+1) 1048576))) (gd (aA k) (gd ((cO k)&&((bq k k)&&(bq k 1048576))) (gd (nL h (((h+1).toNat:Nat):Int)) (gd ((aD k.toNat (cn (k.toNat) ([.i 0]:LG)).length)&&(decide ((0+(d.rZ 2).length)<(cn ((h+1).toNat) ([.l []]:LG)).length))) (gd (aA (h-1)) (be ((((aD (h+1).toNat v.length)&&true)&&true)&&true) (bR C9 (kp d 0 [.l,.l,.l,.l,.i] [.l v,.i (h-1)])) fun M y=>(gd (((bE (y.rZ 5))&&true)&&true) (some (kp y 0 [.l,.l,.l,.l,.i,.l] [])))))))))))
def akb:aL:=⟨204,ux,G2,iu,[],G2,eI,[],HF⟩
def t69:aF:=t68.du akb
def akc:aH P t69:=tW HD func204 aka

def HG(d:LG):Option LG:=
 let h:=gi ((gi (d.rV 0) 2).rZ.gR (d.iV 1)) 0; let k:=gi ((gi (d.rV 0) 3).rZ.gR (d.iV 2)) 0; let v:=bg a_ ((gi (d.rV 0) 0).rZ.gR (h.iV)); let y:=bg a_ ((gi (d.rV 0) 1).rZ.gR (k.iV)); (gd (nL (d.iV 1) (((gi (d.rV 0) 2).rZ.length:Nat):Int)) (gd (nL h.iV (((gi (d.rV 0) 0).rZ.length:Nat):Int)) (gd (nL (d.iV 2) (((gi (d.rV 0) 3).rZ.length:Nat):Int)) (gd (nL k.iV (((gi (d.rV 0) 1).rZ.length:Nat):Int)) (aI (zH [.l [v],.l [y]]) fun M=>let I:=10000000000-(M.iV 0); (gd (aA I) (aI (zI [.l [v],.l [y],.i (gi (d.rV 0) 4).iV]) fun N=>some [.i I,.t (N.bV 0)])))))))
def akd:aL:=⟨205,[.s (.cptr [.list a_,.list a_,.list [.I],.list [.I],.I,.list [.list [.I]]]),al,al],[],[],[al,dG],[],[],[],HG⟩
def t70:aF:=t69.bu akd
def C_:aH P t70:=tP akc func205 (qS [(1,[.hole a_,.hole a_])])

def zJ(d:LG):bp:=
 let h:=((d.rZ 6)++([[.i (gi ((d.rZ 2).gR (d.iV 8)) 0).iV,.i (gi ((d.rZ 3).gR (d.iV 9)) 0).iV]]:LL)); let k:=aD (d.rZ 6).length (d.rZ 6).length; (bif (d.bV 12) then (gd (nL (d.iV 8) (lI (d.rZ 2))) (gd (nL (d.iV 9) (lI (d.rZ 3))) (gd (k&&(decide (((d.rZ 6).length+1)<=1048576))) (gd (aA ((d.iV 9)+1)) (gd (bE h) (some (some 0,kp d 0 [.l,.l,.l,.l,.i,.l] [.l h,.i ((d.iV 9)+1),.i (d.iV 10),.i (d.iV 11)]))))))) else (gd (k&&true) (some (some 1,kp d 0 [.l,.l,.l,.l,.i,.l,.l,.i,.i,.i,.i,.i] []))))
def ake:bA:=⟨12,[],⟨86,[(0,.s (.ptr 0 0)),(3,.s (.vQ 1 2)),(4,al),(5,al),(6,al),(15,al),(16,al),(63,dG)],wX⟩,sw,[⟨.exit 2,⟨86,MS,wX⟩,sw⟩,⟨.normal,⟨86,UA,wX⟩,sw⟩],zJ⟩
def Vq:LT:=bx.gv 1 ake
def akf:aT P 1 Vq (bf f176):=aT.gv hm (C_.kQ [205]) aB (bG _ _ _) (fun d=>by kernel_rfl)
def xb(d:LG):bp:=
 let v:=bE (d.rZ 6); let y:=(d.iV 9)+1; let N:=gi ((d.rZ 5).gR (d.iV 8)) 0; let O:=(lI (d.rZ 5)); let I:=(d.iV 8)+1; let U:=gi ((d.rZ 5).gR I) 0; let W:=gi (U.rZ.gR y) 0; (bif (aN (d.iV 9) (lI (d.rZ 3))) then (aI (HG [.l [(kp d 0 [.l,.l,.l,.l,.i,.l] [])],.i (d.iV 8),.i (d.iV 9)]) fun M=>(bif (M.bV 1) then (gd (aA I) (gd (nL I O) (gd (aA y) (gd (nL y (lI U.rZ)) (gd (aA ((M.iV 0)+W.iV)) (gd (nL (d.iV 8) O) (gd (nL (d.iV 7) (lI N.rZ)) (be v (c7 (zJ (kp d 0 [.l,.l,.l,.l,.i,.l,.l,.i,.i,.i,.i,.i] [.t (((M.iV 0)+W.iV)==(gi (N.rZ.gR (d.iV 7)) 0).iV)]))) fun cg3 h=>let z8:=bE (h.rZ 6); (bif aD cg3 0 then (gd z8 (some (some 0,kp h 0 [.l,.l,.l,.l,.i,.l,.l,.i,.i,.i] []))) else (gd (aA ((h.iV 9)+1)) (gd z8 (some (none,kp h 0 [.l,.l,.l,.l,.i,.l,.l,.i,.i] [.i ((h.iV 9)+1),.i (h.iV 10),.i (h.iV 11)]))))))))))))) else (be v (c7 (zJ (kp d 0 [.l,.l,.l,.l,.i,.l,.l,.i,.i,.i,.i,.i] [.t false]))) fun cg4 k=>let z9:=bE (k.rZ 6); (bif aD cg4 0 then (gd z9 (some (some 0,kp k 0 [.l,.l,.l,.l,.i,.l,.l,.i,.i,.i] []))) else (gd (aA ((k.iV 9)+1)) (gd z9 (some (none,kp k 0 [.l,.l,.l,.l,.i,.l,.l,.i,.i] [.i ((k.iV 9)+1),.i (k.iV 10),.i (k.iV 11)])))))))) else (gd v (some (some 0,kp d 0 [.l,.l,.l,.l,.i,.l,.l,.i] [.i (d.iV 10),.i (d.iV 11)]))))
def akg:bA:=⟨8,[],⟨86,UA,wX⟩,sw,[⟨.exit 2,⟨86,MS,wX⟩,sw⟩],xb⟩
def Vr:LT:=Vq.add 1 akg
def akh:aT P 1 Vr (bf f176):=aT.add hm (C_.kQ [205]) aB akf (fun d=>by kernel_rfl)
def zK(d:LG):bp:=
 let k:=bE (d.rZ 6); (bif (aN (d.iV 9) (d.iV 8)) then (be k (bR xb (kp d 0 [.l,.l,.l,.l,.i,.l,.l,.i] (.i (d.iV 9)::kp d 7 [.i,.i,.i] []))) fun v h=>(gd (aA ((h.iV 9)+1)) (gd (bE (h.rZ 6)) (some (none,kp h 0 [.l,.l,.l,.l,.i,.l,.l,.i,.i] [.i ((h.iV 9)+1)]))))) else (gd k (some (some 0,kp d 0 [.l,.l,.l,.l,.i,.l,.l] []))))
def aki:bA:=⟨5,[(3,[.I,.I])],⟨86,MS,wX⟩,sw,[⟨.exit 0,⟨86,[(3,.s (.vQ 1 2))],wX⟩,sw⟩],zK⟩
def akj:LT:=Vr.add 1 aki
def akk:aT P 1 akj (bf f176):=aT.add hm (C_.kQ [205]) aB akh (fun d=>by kernel_rfl)
def HJ(d:LG):Option LG:=
 (aI (HF (kp d 0 [.l,.l,.l,.l,.i,.l] [])) fun h=>(be true (bR zK (kp h 0 [.l,.l,.l,.l,.i,.l] [.l [],.i 0,.i (lI (h.rZ 2)),.i 0])) fun v k=>(gd (bE (k.rZ 6)) (some (kp k 0 [.l,.l,.l,.l,.i,.l,.l] [])))))
def akl:aL:=⟨176,ux,G2,iu,ML,G2,eI,[],HJ⟩
def t71:aF:=t70.du akl
def Vs:aH P t71:=C_.aW (nC hm (C_.kQ [205]) func176 aB akk (fun d=>by kernel_rfl) aB)

def zL(d:LG):Option LG:=
 let h:=(gi (d.rV 0) 0).iV-(gi (d.rV 1) 0).iV; (gd (aA h) (some [.i h]))
def Vt:aL:=⟨177,MM,[],[],[al],[],[],[],zL⟩
def Vu:iL P Vt:=l5 hm Vs func177 (bG _ _ _) (fun d=>by kernel_rfl)
def t72:aF:=t71.bu Vt
def akm:aH P t72:=Vs.aP Vu

def HK(d:LG):Option LG:=
 wO zL d
def Vv:aL:=⟨147,[.s (.vQ 0 2),.s (.fn 177)],uE,iu,[],uE,eI,[],HK⟩
def akn:iL P Vv:=fun d r h=>SI Tryz.Tb [.I,.I] aB isAgg178 sizeOf178 177 aB zL (fun d r h=>Vu d r h) d r h
def t73:aF:=t72.du Vv
def Vw:aH P t73:=akm.aW akn

def HL(r d:LG):Option LG:=
 (aI (HJ [.l (d.rZ 1),.l (d.rZ 3),.l (gi (r.rV 1) 0).rZ,.l (gi (cR [.str,.I] (d.rZ 4) (bg [.str,.I] (r.rV 0)) [.l []]) 0).rZ,.i (d.iV 7),.l []]) fun h=>let k:=(d.rZ 6)++(h.rZ 6); (gd ((aD (d.rZ 6).length (d.rZ 6).length)&&(decide (((d.rZ 6).length+(h.rZ 6).length)<=1048576))) (gd (bE k) (some (kp d 0 [.s,.l,.s,.l,.l] [.i (d.nN 5),.l k,.i (d.iV 7),.i (d.nN 8)])))))
def ako(d:LG)(b:Nat):LG:=(kp d 0 [.s,.l,.s,.l] [.l (d.rZ 6),.i (d.nN 7),.l (d.rZ 8),.i (d.iV 9),.i (b:Int)])
def akp(d:LG)(b:Nat):Bool:=(bE (d.rZ 8))
def HM:lx:=⟨⟨48,UB,Up⟩,[.aM 3,.aM 4,.aM 8,.aM 9],[],(.agg [.str,.I]),(.one (.list [.I])),2,0,23,24,25,26,27,fun d=>(gi d 8).iV.toNat,ako,akp,HL⟩
def akq:wL P t73 bx 0 HM (Cx (gP f136 3)) (GA (gP f136 3)):=fun r d=>by kernel_rfl
def HN(d:LG):bp:=
 let h:=HK [.l (d.rZ 6)]; (i_ ((bE (d.rZ 6))&&h.isSome) h fun k=>(gd ((aD (d.rZ 6).length (k.rZ 0).length)&&true) (eQ [.l (k.rZ 0)])))
def akr:bA:=⟨8,[],⟨48,UB,Up⟩,[],[⟨.ret,⟨48,[(6,.s (.vQ 0 2))],uE⟩,[.aM 6]⟩],HN⟩
def M_(d:LG):bp:=
 sn HM HN (d.rZ 4) ((d.iV 5).toNat) d
def Na:bA:=⟨3,[(9,[.I,.I])],⟨48,[(2,al),(3,.s (.ptr 0 0)),(4,.s (.ptr 1 0)),(7,.s (.map 2)),(8,.s (.map 3)),(9,.s (.vQ 4 2))],[.box [.str,.list a_],.box [.str,.list a_],.map (.agg [.str,.I]) (.one (.list [.I])),.map (.agg [.str,.I]) (.one (.list [.I])),.vQ [.I,.I] 0]⟩,[.aM 3,.aM 4,.aM 7,.aM 8,.aM 9],[⟨.ret,⟨48,[(6,.s (.vQ 0 2))],uE⟩,[.aM 6]⟩],M_⟩
def aks:LT:=bx.gv 0 Na
def akt:aT P 0 aks (bf f136):=aT.Sv (q:=Na) (qr:=akr) (sp:=HM) (r0:=3) (b0:=0) (r1:=4) (b1:=1) (r2:=5) (rZ:=fun d=>(gi d 4).rZ) (clock:=fun d=>(gi d 5).iV.toNat) (pre:=fun d=>Su P t73 (yU (gP f136 3)) (b_ Na.inv d)) hm Vw aB (bG _ _ _) aB aB akq (fun d=>by kernel_rfl) (fun d=>by kernel_rfl) (fun d=>by kernel_rfl) (fun d=>by kernel_rfl) (fun d=>by kernel_rfl) (fun d=>by kernel_rfl) (fun d b=>by kernel_rfl) (fun d b=>rfl) rfl rfl (fun d=>by kernel_rfl) (fun d=>rfl)
def HO(d:LG):Option LG:=
 (aI (C6 [.l (gi (d.rV 0) 1).rZ,.s (gi (d.rV 1) 0).sV]) fun h=>(aI (C6 [.l (gi (d.rV 1) 1).rZ,.s (gi (d.rV 0) 0).sV]) fun k=>(be true (c7 (M_ [.s (gi (d.rV 0) 0).sV,.l (gi (d.rV 0) 1).rZ,.s (gi (d.rV 1) 0).sV,.l (gi (d.rV 1) 1).rZ,.l (h.rZ 0),.i (h.nN 1),.l (k.rZ 0),.i (k.nN 1),.l [],.i (d.iV 2)])) fun y v=>(gd (bE (v.rZ 0)) (some [.l (v.rZ 0)])))))
def aku:aL:=⟨136,[po,po,al],[],[],ML,[],[],[],HO⟩
def t74:aF:=t73.bu aku
def Vx:aH P t74:=tP Vw func136 akt

def C'(d:LG):bp:=
 let h:=(d.rZ 10).gR (d.iV 12); let k:=o9 [.I] (d.rZ 3) [.i (d.iV 9)]; let v:=o9 [.I] (d.rZ 6) [.i (d.iV 9)]; let y:=(d.nN 5); let M:=(d.nN 8); (bif (aN (d.iV 12) (d.iV 11)) then (gd (nL (d.iV 12) (lI (d.rZ 10))) (gd true (gd (qa (d.rZ 4) k) (gd true (gd (qa (d.rZ 7) v) (gd (aA ((d.iV 12)+1)) (some (none,kp d 0 [.l,.i,.i,.l] (.l (yE (d.rZ 4) k [.I] [.i (h.iV 0)] [.i (h.iV 1)])::.i y::.l (d.rZ 6)::.l (yE (d.rZ 7) v [.I] [.i (h.iV 1)] [.t true])::.i M::kp d 9 [.i,.l,.i] [.i ((d.iV 12)+1)]))))))))) else some (some 0,kp d 0 [.l,.i,.i,.l,.l] [.i y,.l (d.rZ 6),.l (d.rZ 7),.i M]))
def akv:bA:=⟨3,[],⟨75,[(0,.s (.ptr 0 0)),(1,al),(50,.s (.list [.I,.I])),(51,al),(52,al)],nG⟩,zg,[⟨.exit 0,⟨75,[],nG⟩,zg⟩],C'⟩
def akw:LT:=(bx.sk [(1,[.Gc,.Gc])]).add 3 akv
def akx:aT P 3 akw (bf f91):=lA Vx (qS _)
def Da(d:LG):Option LG:=
 let k:=(d.nN 5); let v:=(d.nN 8); let y:=(d.rZ 3)++[[.l [[.i (d.iV 9)]],.i (-1),.i k]]; let M:=(d.rZ 6)++[[.l [[.i (d.iV 9)]],.i (-1),.i v]]; let N:=(lI (d.rZ 0)); (gd true (bif (!(Option.isNone (o9 [.I] (d.rZ 3) [.i (d.iV 9)]))) then some (kp d 0 [.l,.i,.i,.l,.l] [.i k,.l (d.rZ 6),.l (d.rZ 7),.i v]) else (gd (!dJ [.I] (d.rZ 3) [.i (d.iV 9)]) (gd (yF y k) (gd (!dJ [.I] (d.rZ 6) [.i (d.iV 9)]) (gd (yF M v) (gd (nL (d.iV 1) N) (gd (nL (d.iV 9) N) (aI (HO [.l [(bg [.str,.list a_] ((d.rZ 0).gR (d.iV 1)))],.l [(bg [.str,.list a_] ((d.rZ 0).gR (d.iV 9)))],.i (d.iV 2)]) fun O=>(be true (bR C' (kp d 0 [.l,.i,.i] [.l (yG y k ((d.rZ 4).length)),.l ((d.rZ 4)++[[.l [],.i 0]]),.i ((((d.iV 5).toNat+1):Nat):Int),.l (yG M v ((d.rZ 7).length)),.l ((d.rZ 7)++[[.l [],.i 0]]),.i ((((d.iV 8).toNat+1):Nat):Int),.i (d.iV 9),.l (O.rZ 0),.i (lI (O.rZ 0)),.i 0])) fun U h=>some (kp h 0 [.l,.i,.i,.l,.l] [.i (h.nN 5),.l (h.rZ 6),.l (h.rZ 7),.i (h.nN 8)])))))))))))
def aky:aL:=⟨91,CQ,nG,zf,[],nG,sx,[],Da⟩
def t75:aF:=t74.du aky
def akz:aH P t75:=tW Vx func91 akx

def Db(d:LG):Option LG:=
 (bif ((gi (d.rV 0) 4).iV==(gi (d.rV 1) 5).iV) then some [.t ((gi (d.rV 0) 6).sV.toList==(gi (d.rV 1) 7).sV.toList)] else some [.t false])
def akA:aL:=⟨92,zd,[],[],[dG],[],[],[],Db⟩
def t76:aF:=t75.bu akA
def zM:aH P t76:=dQ akz func92

end
end Go.Proofs.jI
