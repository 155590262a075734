/-
 What is proved here: functions of the program as functions on data. No condition.
-/
import Derived.Test.YtkkkhbhbjlikhaaGreatDoorML4
set_option linter.all false
open Bool renaming cond_eq_ite->Py
open Go.Lib renaming indexByte->mW
open Nat renaming beq->aA,ble->bW
namespace Go.Proofs.h_
open Go Go.AL Go.Proofs Tryz
noncomputable section
def Df(d:LG):bk:=
 let q:=(d.nN 5); let A:=gi ((d.rZ 2).gR (d.iV 11)) 0; let g:=(d.iV 11)+1; let B:=(d.nN 7); (bif (ba (d.iV 11) (d.iV 10)) then (gd (nL (d.iV 11) (lI (d.rZ 9))) (bif ((gi ((d.rZ 9).gR (d.iV 11)) 4).iV==(d.iV 8)) then (gd (nL (d.iV 11) (lI (d.rZ 2))) (gd (aM g) (some (none,kp d 0 [.l,.l,.l,.l,.l] (.i q::.l (cH [.str] (d.rZ 6) [.s A.sV] [.t true] (d.iV 7).toNat)::.i (((dI [.str] (d.rZ 6) [.s A.sV] (d.iV 7).toNat):Nat):Int)::kp d 8 [.i,.l,.i] [.i g]))))) else (gd (aM g) (some (none,kp d 0 [.l,.l,.l,.l,.l] (.i q::.l (d.rZ 6)::.i B::kp d 8 [.i,.l,.i] [.i g])))))) else some (some 0,kp d 0 [.l,.l,.l,.l,.l] [.i q,.l (d.rZ 6),.i B]))
def an4:bF:=⟨8,[],⟨52,[(0,.s (.ptr 0 0)),(1,aD),(5,.s (.map 2)),(29,kG),(30,aD),(31,aD)],wV⟩,Mx,[⟨.exit 2,⟨52,[(5,.s (.map 2))],wV⟩,Mx⟩],Df⟩
def Nv:LT:=bz.add 2 an4
def an5:aQ P 2 Nv (bf f144):=lA Nu (bN _ _ _)
def xe(r d:LG):Option LG:=
 let g:=(d.nN 5); let q:=(d.nN 9); (bif ((gi (r.rV 0) 1).iV==(d.iV 8)) then some (kp d 0 [.l,.l,.l,.l,.l] [.i g,.l (cH [.str] (d.rZ 6) [.s (gi (r.rV 0) 0).sV] [.t true] (d.iV 7).toNat),.i (((dI [.str] (d.rZ 6) [.s (gi (r.rV 0) 0).sV] (d.iV 7).toNat):Nat):Int),.i (d.iV 8),.i q]) else some (kp d 0 [.l,.l,.l,.l,.l] [.i g,.l (d.rZ 6),.i (d.nN 7),.i (d.iV 8),.i q]))
def an6(d:LG)(b:Nat):LG:=(kp d 0 [.l,.l,.l,.l,.l] [.i (d.nN 5),.l (d.rZ 6),.i (d.nN 7),.i (d.iV 8),.i (b:Int)])
def an7(d:LG)(b:Nat):Bool:=true
def xf:gp:=⟨⟨52,Vc,wV⟩,[.fix 0,.cell 0 4,.aU 5],[],(.agg [.str,.I]),(.one (.bool)),1,0,13,14,15,16,17,fun d=>(gi d 9).iV.toNat,an6,an7,xe⟩
def an8:kW P t143 Nv 2 xf (om (bS f144 2)) (qM (bS f144 2)):=fun r d=>by kernel_rfl
def Is(d:LG):bk:=
 (bp true (bR Df (kp d 0 [.l,.l,.l,.l,.l] [.i (d.nN 5),.l (d.rZ 6),.i (d.nN 7),.i (d.iV 8),.l (d.rZ 1),.i (lI (d.rZ 1)),.i 0])) fun A g=>(az (C' [.l (g.rZ 6),.i (g.nN 7)]) fun q=>some (some 0,kp g 0 [.l,.l,.l,.l,.l] [.i (g.nN 5),.l (q.rZ 2)])))
def an9:bF:=⟨7,[],⟨52,Vc,wV⟩,[],[⟨.ret,⟨52,[(4,.s (.list [.str]))],jx⟩,GP⟩],Is⟩
def Nw(d:LG):bk:=
 kX xf Is (d.rZ 4) ((d.iV 5).toNat) d
def Nx:bF:=⟨2,[],⟨52,[(0,.s (.ptr 0 0)),(1,aD),(5,.s (.map 2))],wV⟩,Mx,[⟨.ret,⟨52,[(4,.s (.list [.str]))],jx⟩,GP⟩],Nw⟩
def an_:LT:=Nv.gF 2 Nx
def an':∀r d g,xe r d=some g->(gi g 4).rZ=(gi d 4).rZ/\(gi g 5).iV.toNat=(gi d 5).iV.toNat:=by
 intro r d g h;unfold xe at h;simp only[Py]at h
 repeat' split at h
 all_goals first|(cases h; done)|(cases h; exact⟨rfl,rfl⟩)
def aoa:aQ P 2 an_ (bf f144):=aQ.L1 (q:=Nx) (qr:=an9) (sp:=xf) (r0:=2) (b0:=0) (r1:=3) (b1:=1) (r2:=4) (rZ:=fun d=>(gi d 4).rZ) (aL:=fun d=>(gi d 5).iV.toNat) (pre:=fun d=>Cb P t143 (mH (bS f144 2)) (aX Nx.inv d)) (ri:=fun d=>(gi d 4).rZ) (ci:=fun d=>(gi d 5).iV.toNat) hm Nu (fun d=>by kernel_rfl) an' aj aj an5 aj aj an8 (fun d=>by kernel_rfl) (fun d=>by kernel_rfl) (fun d=>by kernel_rfl) (fun d=>by kernel_rfl) (fun d=>by kernel_rfl) (fun d=>by kernel_rfl) (fun d b=>by kernel_rfl) (fun d b=>rfl) (fun d b=>⟨rfl,rfl⟩) rfl rfl (fun d=>by kernel_rfl) (fun d=>rfl)
def It(d:LG):Option LG:=
 (bp true (fa (Nw (kp d 0 [.l,.l,.l,.l,.l] [.i (d.nN 5),.l [],.i 0,.i (d.iV 6)]))) fun q g=>some (kp g 0 [.l,.l,.l,.l,.l] [.i (g.nN 5),.l (g.rZ 6)]))
def aob:aI:=⟨144,zh,jx,qV,sB,jx,uI,[],It⟩
def t144:ar:=t143.df aob
def Dg:aw P t144:=tW Nu func144 aoa

def Dh(d:LG):bk:=
 let q:=gi ((d.rZ 13).getD (0+(d.iV 15).toNat) []) 0; let A:=aA (d.rZ 12).length (d.rZ 12).length; let B:=(d.nN 5); let F:=(d.nN 7); let z5:=(d.nN 9); let N:=bE (d.rZ 13); let g:=(d.iV 15)+1; let O:=(d.nN 11); (bif (ba (d.iV 15) (d.iV 14)) then (gd (nL (d.iV 15) (lI (d.rZ 13))) (gd (decide ((0+(d.iV 15).toNat)<(d.rZ 13).length)) (bif (ba 1 (gi (da [.I] (d.rZ 10) [.i q.iV] [.i 0]) 0).iV) then (az (gz [.i q.iV]) fun U=>(az (It (kp d 0 [.l,.l,.l,.l,.l] [.i B,.i q.iV])) fun J=>(az (oI [.l (J.rZ 6),.s (⟨#[32]⟩:BY)]) fun W=>let M:=((d.rZ 12)++([[.s (U.sV 0),.s (W.sV 0)]]:LL)); (gd (A&&(decide (((d.rZ 12).length+1)<=1048576))) (gd (aM g) (gd ((aA M.length M.length)&&N) (some (none,kp J 0 [.l,.l,.l,.l,.l] [.i (J.nN 5),.l (d.rZ 6),.i F,.l (d.rZ 8),.i z5,.l (d.rZ 10),.i O,.l M,.l (d.rZ 13),.i (d.iV 14),.i g])))))))) else (gd (aM g) (gd (A&&N) (some (none,kp d 0 [.l,.l,.l,.l,.l] (.i B::.l (d.rZ 6)::.i F::.l (d.rZ 8)::.i z5::.l (d.rZ 10)::.i O::kp d 12 [.l,.l,.i] [.i g])))))))) else (gd (A&&true) (some (some 0,kp d 0 [.l,.l,.l,.l,.l] [.i B,.l (d.rZ 6),.i F,.l (d.rZ 8),.i z5,.l (d.rZ 12)]))))
def aoc:bF:=⟨9,[(7,[.str,.str])],⟨53,[(0,.s (.ptr 0 0)),(5,.s (.map 4)),(7,.s (.vQ 5 2)),(31,.s (.vQ 6 1)),(32,aD),(33,aD)],[.box [.list aY,.list dt,.list [.str],.list [.I],.map 1],.map (.agg [.str,.I]) (.one (.bool)),.map (.one .I) (.one .I),.map (.one .I) (.one .I),.map (.one .I) (.one .I),.vQ [.str,.str] 0,.vQ [.I] 0]⟩,[.fix 0,.cell 0 4,.fix 2,.fix 3,.aU 5,.aU 7,.aU 31],[⟨.exit 2,⟨53,[(7,.s (.vQ 4 2))],MC⟩,[.fix 0,.cell 0 4,.fix 2,.fix 3,.aU 7]⟩],Dh⟩
def Ny:LT:=bz.add 4 aoc
def aod:aQ P 4 Ny (bf f96):=lA Dg (bN _ _ _)
def xg(r d:LG):Option LG:=
 let g:=(gi (da [.I] (d.rZ 10) [.i (gi (r.rV 0) 0).iV] [.i 0]) 0).iV+(gi (da [.I] (d.rZ 8) [.i (gi (r.rV 0) 0).iV] [.i 0]) 0).iV; (gd (aM g) (some (kp d 0 [.l,.l,.l,.l,.l] [.i (d.nN 5),.l (d.rZ 6),.i (d.nN 7),.l (d.rZ 8),.i (d.nN 9),.l (cH [.I] (d.rZ 10) [.i (gi (r.rV 0) 0).iV] [.i g] (d.iV 11).toNat),.i (((dI [.I] (d.rZ 10) [.i (gi (r.rV 0) 0).iV] (d.iV 11).toNat):Nat):Int),.i (d.nN 12)])))
def aoe(d:LG)(b:Nat):LG:=(kp d 0 [.l,.l,.l,.l,.l] [.i (d.nN 5),.l (d.rZ 6),.i (d.nN 7),.l (d.rZ 8),.i (d.nN 9),.l (d.rZ 10),.i (d.nN 11),.i (b:Int)])
def aof(d:LG)(b:Nat):Bool:=true
def xh:gp:=⟨⟨53,Vd,MD⟩,[.fix 0,.cell 0 4,.fix 2,.fix 3,.aU 5],[],(.one .I),(.one .I),3,0,16,17,18,19,20,fun d=>(gi d 12).iV.toNat,aoe,aof,xg⟩
def aog:kW P t144 Ny 4 xh (om (bS f96 3)) (qM (bS f96 3)):=fun r d=>by kernel_rfl
def Iu(d:LG):bk:=
 (az (HD [.l (d.rZ 10),.i (d.nN 11)]) fun q=>(bp (bE (q.rZ 2)) (bR Dh (kp d 0 [.l,.l,.l,.l,.l] [.i (d.nN 5),.l (d.rZ 6),.i (d.nN 7),.l (d.rZ 8),.i (d.nN 9),.l (q.rZ 0),.i (q.nN 1),.l [],.l (q.rZ 2),.i (lI (q.rZ 2)),.i 0])) fun A g=>(gd (bE (g.rZ 10)) (some (some 0,kp g 0 [.l,.l,.l,.l,.l] [.i (g.nN 5),.l (g.rZ 6),.i (g.nN 7),.l (g.rZ 8),.i (g.nN 9),.l (g.rZ 10)])))))
def aoh:bF:=⟨7,[],⟨53,Vd,MD⟩,[],[⟨.ret,⟨53,[(2,.s (.vQ 4 2))],MC⟩,T9⟩],Iu⟩
def Nz(d:LG):bk:=
 kX xh Iu (d.rZ 8) ((d.iV 9).toNat) d
def NA:bF:=⟨3,[],⟨53,[(0,.s (.ptr 0 0)),(4,.s (.map 3)),(5,.s (.map 4))],MD⟩,[.fix 0,.cell 0 4,.fix 2,.fix 3,.aU 5],[⟨.ret,⟨53,[(2,.s (.vQ 4 2))],MC⟩,T9⟩],Nz⟩
def Xb:LT:=Ny.gF 4 NA
def aoi:∀r d g,xg r d=some g->(gi g 8).rZ=(gi d 8).rZ/\(gi g 9).iV.toNat=(gi d 9).iV.toNat:=by
 intro r d g h;unfold xg at h;simp only[Py]at h
 repeat' split at h
 all_goals first|(cases h; done)|(cases h; exact⟨rfl,rfl⟩)
def aoj:aQ P 4 Xb (bf f96):=aQ.L1 (q:=NA) (qr:=aoh) (sp:=xh) (r0:=3) (b0:=0) (r1:=4) (b1:=1) (r2:=5) (rZ:=fun d=>(gi d 8).rZ) (aL:=fun d=>(gi d 9).iV.toNat) (pre:=fun d=>Cb P t144 (mH (bS f96 3)) (aX NA.inv d)) (ri:=fun d=>(gi d 8).rZ) (ci:=fun d=>(gi d 9).iV.toNat) hm Dg (fun d=>by kernel_rfl) aoi aj aj aod aj aj aog (fun d=>by kernel_rfl) (fun d=>by kernel_rfl) (fun d=>by kernel_rfl) (fun d=>by kernel_rfl) (fun d=>by kernel_rfl) (fun d=>by kernel_rfl) (fun d b=>by kernel_rfl) (fun d b=>rfl) (fun d b=>⟨rfl,rfl⟩) rfl rfl (fun d=>by kernel_rfl) (fun d=>rfl)
def NB(d:LG):LG:=(kp d 0 [.l,.l,.l,.l,.l] [.i (d.nN 5)])
def Iv(d g:LG):LG:=(kp g 0 [.l,.l,.l,.l,.l] [.i (g.nN 5)])
def Iw(d B g:LG):Option LG:=
 (az (M3 [.l (B.rZ 6),.i (B.nN 7)]) fun q=>(bp true (fa (Nz (kp g 0 [.l,.l,.l,.l,.l] [.i (g.nN 5),.l (q.rZ 0),.i (q.nN 1),.l (g.rZ 6),.i (g.nN 7),.l (q.rZ 2),.i (q.nN 3)]))) fun F A=>(gd (bE (A.rZ 10)) (some (kp A 0 [.l,.l,.l,.l,.l] [.i (A.nN 5),.l (A.rZ 10)])))))
def zY(d:LG):Option LG:=az (sH (NB d)) fun g=>yZ w7 sI ((gi (nt (Iv d g)) 4).rZ) ((gi (nt (Iv d g)) 5).iV.toNat) (nt (Iv d g)) fun q=>Iw d g q
def xi:aI:=⟨96,oB,jx,qV,CF,jx,uI,[],zY⟩
def pX(d g:LG):aH:=sL P (t144.df { MW with F:=fun _=>some g }) f96 xi 3 d
def aok:∀d,(db P t144 bz (yY f96) ⟨gD (xi.dR d) (f96).ntmps,xi.H0 d⟩ fun x s=>match x with | .normal=>fY P t144 (k8 f96) ((k8 f96).toList.take 3) s fun s=>.done .normal s|_=>.fail).leaf yX=az (sH (NB d)) fun g=>some (pX d g):=fun d=>by kernel_rfl
def aol:∀d g e,(fY P t144 (k8 f96) ((k8 f96).toList.drop 4) ⟨(pX d g).fr.set 13 (lF q_ (uB f96 3 (pX d g)) (pX d g).H e).1,(lF q_ (uB f96 3 (pX d g)) (pX d g).H e).2⟩ fun s=>db P t144 Xb (Gr f96) s .done).leaf (iw P (f96).results.toList xi)=Iw d g e:=fun d g e=>by kernel_rfl
def aom:∀d g,g_ (pX d g).au.eval (Cu f96 3).op=some (q_.f,(uB f96 3 (pX d g))):=fun d g=>by kernel_rfl
def aon:∀d g,Cs q_ (uB f96 3 (pX d g)) (pX d g).H=some (true,Iv d g):=fun d g=>by kernel_rfl
def aoo:ff P xi:=fun d r h=>by
 have h:zY d=some r:=h;unfold zY at h;obtain⟨g,hs,h⟩:=Tc h;obtain⟨aV,q,A⟩:=Te h;exact Td (sp:=xi) hm Dg Dg func96 aj (iH.pK (Wf _ aV q)) aj aj (r0:=yY f96) (id:=1) (ah:=k8 f96) (rest:=Gr f96) aj (aoj.mono aj) (l1:=(k8 f96).toList.take 3) (oc:=Cu f96 3) (l2:=(k8 f96).toList.drop 4) aj aj (t:=13) aj (S1:=pX d g) ((aok d).trans (by rw[hs]; rfl)) (aom d g) (aon d g) (tl:=Iw d g) (aol d g) A
def t145:ar:=t144.df xi
def NC:aw P t145:=Dg.aW aoo

def Di(d:LG):bk:=
 let g:=aA (d.rZ 0).length (d.rZ 0).length; (bif (ba (d.iV 3) (d.iV 2)) then (gd (nL (d.iV 3) (lI (d.rZ 1))) (az (gz [.i (gi ((d.rZ 1).gR (d.iV 3)) 0).iV]) fun A=>let q:=((d.rZ 0)++([[.s (A.sV 0)]]:LL)); (gd (g&&(decide (((d.rZ 0).length+1)<=1048576))) (gd (aM ((d.iV 3)+1)) (gd (bE q) (nQ [.l q,.l (d.rZ 1),.i (d.iV 2),.i ((d.iV 3)+1)])))))) else (gd (g&&true) (eQ [.l (d.rZ 0)])))
def aop:bF:=⟨5,[(3,[.str])],⟨25,[(3,.s (.vQ 0 1)),(11,gV),(12,aD),(13,aD)],j5⟩,wR,[⟨.exit 0,⟨25,[(3,.s (.vQ 0 1))],j5⟩,wR⟩],Di⟩
def aoq:LT:=bz.add 0 aop
def aor:aQ P 0 aoq (bf f97):=aQ.add hm (NC.mG [88]) aj (bN _ _ _) (fun d=>by kernel_rfl)
def Ix(d:LG):Option LG:=
 let g:=(lI (d.rZ 0)); (bif (g==0) then (az (mN [.l [[.s (⟨#[110,111,110,101]⟩:BY)]]]) fun B=>some [.s (B.sV 0)]) else (bp true (bR Di [.l [],.l (d.rZ 0),.i g,.i 0]) fun I q=>let A:=mN [.l (q.rZ 0)]; (gx ((bE (q.rZ 0))&&A.isSome) A fun F=>some [.s (F.sV 0)])))
def aos:aI:=⟨97,[gV],[],[],[bY],[],[],[],Ix⟩
def t146:ar:=t145.bx aos
def ND:aw P t146:=NC.aP (qJ hm (NC.mG [88]) func97 aj aor (fun d=>by kernel_rfl) aj)

def Dj(d:LG):bk:=
 (bif (ba (d.iV 3) (d.iV 2)) then (gd (nL (d.iV 3) (lI (d.rZ 1))) (az (Im [.l [(bu dt ((d.rZ 1).gR (d.iV 3)))]]) fun g=>(gd (bW ((d.sV 0).size+(g.sV 0).size) 9223372036854775807) (gd (aM ((d.iV 3)+1)) (nQ [.s ((d.sV 0)++(g.sV 0)),.l (d.rZ 1),.i (d.iV 2),.i ((d.iV 3)+1)]))))) else eQ [.s (d.sV 0)])
def aot:bF:=⟨11,[],⟨99,[(8,bY),(43,kG),(44,aD),(45,aD)],[]⟩,[],[⟨.exit 1,⟨99,[(8,bY)],[]⟩,[]⟩],Dj⟩
def Xc:LT:=bz.add 0 aot
def aou:aQ P 0 Xc (bf f48):=lA ND (bN _ _ _)
def Dk(d:LG):bk:=
 let g:=(d.rZ 1).gR (d.iV 3); (bif (ba (d.iV 3) (d.iV 2)) then (gd (nL (d.iV 3) (lI (d.rZ 1))) (az (zK [.s (g.sV 1)]) fun A=>(az (gz [.i (g.iV 2)]) fun B=>(az (mN [.l [[.s (g.sV 0)],[.s (A.sV 0)],[.s (B.sV 0)]]]) fun q=>(gd (bW ((d.sV 0).size+(q.sV 0).size) 9223372036854775807) (gd (aM ((d.iV 3)+1)) (nQ [.s ((d.sV 0)++(q.sV 0)),.l (d.rZ 1),.i (d.iV 2),.i ((d.iV 3)+1)]))))))) else eQ [.s (d.sV 0)])
def aov:bF:=⟨17,[],⟨99,[(8,bY),(57,.s (.list lG)),(58,aD),(59,aD)],[]⟩,[],[⟨.exit 3,⟨99,[(8,bY)],[]⟩,[]⟩],Dk⟩
def aow:LT:=Xc.add 0 aov
def aox:aQ P 0 aow (bf f48):=lA ND aou
def Iy(d:LG):Option LG:=
 let A:=(⟨#[]⟩:BY); let F:=(⟨#[99,108,97,115,104,101,115]⟩:BY); let I:=(⟨#[100,101,115,107,115]⟩:BY); let J:=(⟨#[110,101,120,116]⟩:BY); let z5:=(⟨#[104,101,108,100]⟩:BY); let M:=(⟨#[108,111,103]⟩:BY); (az (Hn [.l [[.s M],[.s I],[.s J],[.s z5],[.s F],[.s (⟨#[100,117,112,101,115]⟩:BY)]],.s (d.sV 1)]) fun g1=>(bif (!(g1.bV 0)) then some [.s A,.i 9] else (az (Hr [.l (gi (d.rV 0) 0).rZ,.i (gi (d.rV 0) 1).iV]) fun g=>let q:=(g.nN 5); (bif ((g.iV 6) != 0) then some [.s A,.i (g.iV 6)] else (bif ((d.sV 1).toList==M.toList) then (bp true (bR Dj [.s A,.l (g.rZ 1),.i (lI (g.rZ 1)),.i 0]) fun cg4 g4=>some [.s (g4.sV 0),.i 0]) else (bif ((d.sV 1).toList==I.toList) then (az (Ir (kp g 0 [.l,.l,.l,.l,.l] [.i q])) fun N=>(bp true (bR Dk [.s A,.l (N.rZ 6),.i (lI (N.rZ 6)),.i 0]) fun cg9 g9=>some [.s (g9.sV 0),.i 0])) else (bif ((d.sV 1).toList==J.toList) then (az (zM (kp g 0 [.l,.l,.l,.l,.l] [.i q])) fun B=>(az (gz [.i (B.iV 6)]) fun O=>(az (mN [.l [[.s (O.sV 0)]]]) fun U=>some [.s (U.sV 0),.i (B.iV 7)]))) else (bif ((d.sV 1).toList==z5.toList) then (az (HB (kp g 0 [.l,.l,.l,.l,.l] [.i q])) fun W=>(az (De [.l (W.rZ 6)]) fun Y=>some [.s (Y.sV 0),.i 0])) else (bif ((d.sV 1).toList==F.toList) then (az (zY (kp g 0 [.l,.l,.l,.l,.l] [.i q])) fun g15=>(az (De [.l (g15.rZ 6)]) fun g16=>some [.s (g16.sV 0),.i 0])) else (az (M_ (kp g 0 [.l,.l,.l,.l,.l] [.i q])) fun g17=>(az (Ix [.l (g17.rZ 6)]) fun g18=>some [.s (g18.sV 0),.i 0])))))))))))
def aoy:aI:=⟨48,[.s (.cptr [.list aY,.I]),bY],[],[],[bY,aD],[],[],[],Iy⟩
def t147:ar:=t146.bx aoy
def Xd:aw P t147:=tP ND func48 aox

def Iz(d:LG):Option LG:=
 (az (sG [.s (d.sV 2),.s (⟨#[97,116,32]⟩:BY)]) fun A=>(bif (A.bV 1) then (az (Il [.l (d.rZ 0),.i (d.iV 1),.s (A.sV 0)]) fun g=>(bif ((g.iV 3) != 0) then (az (C_ [.i (g.iV 3)]) fun B=>some [.l (g.rZ 0),.i (g.iV 1),.s (B.sV 0)]) else some (kp g 0 [.l,.i,.s] []))) else (az (Iy [.l [[.l (d.rZ 0),.i (d.iV 1)]],.s (d.sV 2)]) fun q=>(bif ((q.iV 1) != 0) then (az (C_ [.i (q.iV 1)]) fun F=>some [.l (d.rZ 0),.i (d.iV 1),.s (F.sV 0)]) else some [.l (d.rZ 0),.i (d.iV 1),.s (q.sV 0)]))))
def aoz:aI:=⟨22,Mw,GS,gH,[bY],GS,ep,[],Iz⟩
def t148:ar:=t147.df aoz
def aoA:aw P t148:=Xd.aW (qJ hm (Xd.mG [48]) func22 aj (bN _ _ _) (fun d=>by kernel_rfl) aj)

def IA(d:LG):Option LG:=
 Gu d
def Xe:aI:=⟨21,Mw,GV,gH,[aD,.s (.any)],GV,ep,[],IA⟩
def aoB:ff P Xe:=fun d r h=>aeY Tryz.afC Tryz.afW rfl d r h
def t149:ar:=t148.df Xe
def aoC:aw P t149:=aoA.aW aoB

def NF(d:LG):Option LG:=
 Tg d
def Xf:aI:=⟨23,oB,GV,gH,[bY],GV,ep,[],NF⟩
def aoD:ff P Xf:=fun d r h=>aeZ Tryz.afD Tryz.afX rfl d r h
def t150:ar:=t149.df Xf
def Xg:aw P t150:=aoC.aW aoD

def IB(d:LG):bk:=
 (bif (ba (d.iV 5) (d.iV 4)) then (gd (nL (d.iV 5) (lI (d.rZ 3))) (az (Iz [.l (d.rZ 0),.i (d.iV 1),.s (gi ((d.rZ 3).gR (d.iV 5)) 0).sV]) fun g=>(az (IA [.s (d.sV 2),.s (g.sV 2)]) fun q=>(gd (aM ((d.iV 5)+1)) (nQ [.l (g.rZ 0),.i (g.iV 1),.s (q.sV 0),.l (d.rZ 3),.i (d.iV 4),.i ((d.iV 5)+1)]))))) else eQ [.s (d.sV 2)])
def aoE:bF:=⟨12,[],⟨43,[(9,.s (.ptr 0 0)),(10,.s (.ptr 1 0)),(31,.s (.list [.str])),(32,aD),(33,aD)],[.box [.list aY,.I],.dK 0 57 5]⟩,[.aU 9,.aU 10],[⟨.exit 0,⟨43,[(10,.s (.ptr 0 0))],[.dK 0 57 5]⟩,wS⟩],IB⟩
def aoF:LT:=bz.add 0 aoE
def aoG:aQ P 0 aoF (bf f7):=lA Xg (bN _ _ _)
def zZ(d:LG):Option LG:=
 let g:=(⟨#[]⟩:BY); (az (CQ [.l (d.rZ 0)]) fun A=>(bif ((A.iV 0) != 0) then some [.s g,.i (A.iV 0)] else (bif (ba 2000 (((d.sV 1).size:Nat):Int)) then some [.s g,.i 2] else (az (He [.s (d.sV 1)]) fun q=>(bif (!(q.bV 1)) then some [.s g,.i 9] else (bp true (bR IB [.l (d.rZ 0),.i 0,.s g,.l (q.rZ 0),.i (lI (q.rZ 0)),.i 0]) fun I B=>(az (NF [.s (B.sV 0)]) fun F=>some [.s (F.sV 1),.i 0])))))))
def aoH:aI:=⟨7,[.s (.list aY),bY],[],[],[bY,aD],[],[],[],zZ⟩
def t151:ar:=t150.bx aoH
def aoI:aw P t151:=tP Xg func7 aoG

def IC(d:LG):Option LG:=
 let g:=gi (d.rV 0) 1; (az (gz [.i (gi (d.rV 0) 0).iV]) fun A=>(az (Nj []) fun q=>(gd (nL g.iV (lI (q.rZ 0))) (az (gz [.i (gi (d.rV 0) 4).iV]) fun B=>(az (zS [.s (gi (d.rV 0) 6).sV]) fun F=>(az (gz [.i (gi (d.rV 0) 5).iV]) fun I=>(az (zS [.s (gi (d.rV 0) 7).sV]) fun J=>(az (oI [.l [[.s (A.sV 0)],[.s (gi ((q.rZ 0).gR (g.iV)) 0).sV],[.s (gi (d.rV 0) 2).sV],[.s (gi (d.rV 0) 3).sV],[.s (B.sV 0)],[.s (F.sV 0)],[.s (I.sV 0)],[.s (J.sV 0)]],.s (⟨#[32]⟩:BY)]) fun M=>some [.s (M.sV 0)]))))))))
def aoJ:aI:=⟨61,wO,[],[],[bY],[],[],[],IC⟩
def t152:ar:=t151.bx aoJ
def uP:aw P t152:=cU aoI func61

def Dl(d:LG):bk:=
 let g:=fO [.I] (d.rZ 0) [.i (d.iV 7)]; let q:=(g++([[.s (d.sV 6)]]:LL)); let A:=jF [.I] (d.rZ 0) [.i (d.iV 7)]; (gd (iq [.I] (d.rZ 0) [.i (d.iV 7)]) (gd ((aA g.length g.length)&&(decide ((g.length+1)<=1048576))) (gd (aA q.length q.length) (some (some 0,.l (mA [.I] A [.i (d.iV 7)] q (d.iV 1).toNat)::.i (((dI [.I] A [.i (d.iV 7)] (d.iV 1).toNat):Nat):Int)::.l (cH [.I] (d.rZ 2) [.i (d.iV 7)] [.t true] (d.iV 3).toNat)::.i (((dI [.I] (d.rZ 2) [.i (d.iV 7)] (d.iV 3).toNat):Nat):Int)::.l (d.rZ 4)::.i (d.nN 5)::kp d 8 [.l,.l,.i,.i] [])))))
def aoK:bF:=⟨9,[],⟨143,[(5,.s (.map 0)),(6,.s (.map 1)),(7,.s (.list aY)),(9,.s (.map 2)),(11,.s (.ptr 3 0)),(34,.s (.list [.str,.I])),(35,aD),(36,aD)],[.bI 1 (.one .I) [.str],.map (.one .I) (.one (.bool)),.map (.one .I) (.one (.bool)),.box [.str,.I]]⟩,[.aU 5,.aU 6,.aU 9,.aU 11],[⟨.normal,⟨143,Ve,ME⟩,My⟩],Dl⟩
def Xh:LT:=(bz.np [(2,[.bI 5 1])]).gF 0 aoK
def aoL:aQ P 0 Xh (bf f66):=aQ.gF hm (uP.nm [1500141]) aj (uq _) (fun d=>by kernel_rfl)
def Dm(d:LG):bk:=
 let g:=(d.rZ 7).gR (d.iV 9); let J:=(((dI [.I] (d.rZ 4) [.i (g.iV 1)] (d.iV 5).toNat):Nat):Int); let B:=(d.nN 1); let F:=(d.nN 3); (bif (ba (d.iV 9) (d.iV 8)) then (gd (nL (d.iV 9) (lI (d.rZ 7))) (bif (gi (da [.I] (d.rZ 4) [.i (g.iV 1)] [.t false]) 0).bV then (bp true (fa (Dl (.l (d.rZ 0)::.i B::.l (d.rZ 2)::.i F::.l (cH [.I] (d.rZ 4) [.i (g.iV 1)] [.t true] (d.iV 5).toNat)::.i J::.s (g.sV 0)::.i (g.iV 1)::kp d 6 [.l,.l,.i,.i] []))) fun M q=>(gd (aM ((q.iV 9)+1)) (some (none,.l (q.rZ 0)::.i (q.nN 1)::.l (q.rZ 2)::.i (q.nN 3)::.l (q.rZ 4)::.i (q.nN 5)::kp q 6 [.l,.l,.i] [.i ((q.iV 9)+1)])))) else (bp true (fa (Dl (.l (d.rZ 0)::.i B::.l (d.rZ 2)::.i F::.l (cH [.I] (d.rZ 4) [.i (g.iV 1)] [.t (gi (da [.I] (d.rZ 2) [.i (g.iV 1)] [.t false]) 0).bV] (d.iV 5).toNat)::.i J::.s (g.sV 0)::.i (g.iV 1)::kp d 6 [.l,.l,.i,.i] []))) fun N A=>(gd (aM ((A.iV 9)+1)) (some (none,.l (A.rZ 0)::.i (A.nN 1)::.l (A.rZ 2)::.i (A.nN 3)::.l (A.rZ 4)::.i (A.nN 5)::kp A 6 [.l,.l,.i] [.i ((A.iV 9)+1)])))))) else eQ [.l (d.rZ 0),.i B,.l (d.rZ 2),.i F,.l (d.rZ 4),.i (d.nN 5),.l (d.rZ 6)])
def aoM:bF:=⟨6,[],⟨143,Ve,ME⟩,My,[⟨.exit 0,⟨143,[(5,.s (.map 0)),(6,.s (.map 1)),(7,.s (.list aY)),(9,.s (.map 2))],ME⟩,My⟩],Dm⟩
def Xi:LT:=Xh.add 0 aoM
def aoN:aQ P 0 Xi (bf f66):=aQ.add hm (uP.nm [1500141]) aj aoL (fun d=>by kernel_rfl)
def Dn(d:LG):bk:=
 let g:=fO [.I] (d.rZ 0) [.i (d.iV 23)]; let q:=(g++([[.s (d.sV 8)]]:LL)); let A:=jF [.I] (d.rZ 0) [.i (d.iV 23)]; (gd (iq [.I] (d.rZ 0) [.i (d.iV 23)]) (gd ((aA g.length g.length)&&(decide ((g.length+1)<=1048576))) (gd (aA q.length q.length) (some (some 0,.l (mA [.I] A [.i (d.iV 23)] q (d.iV 1).toNat)::.i (((dI [.I] A [.i (d.iV 23)] (d.iV 1).toNat):Nat):Int)::.l (d.rZ 2)::.i (d.nN 3)::.l (d.rZ 4)::.i (d.nN 5)::.l (cH [.I] (d.rZ 6) [.i (d.iV 23)] [.t true] (d.iV 7).toNat)::.i (((dI [.I] (d.rZ 6) [.i (d.iV 23)] (d.iV 7).toNat):Nat):Int)::kp d 24 [.l,.i,.i] [])))))
def aoO:bF:=⟨19,[],⟨143,[(5,.s (.map 0)),(6,.s (.map 1)),(9,.s (.map 2)),(12,.s (.map 3)),(14,.s (.ptr 4 0)),(15,aD),(69,.s (.list aY)),(70,aD),(71,aD)],[.bI 1 (.one .I) [.str],.map (.one .I) (.one (.bool)),.map (.one .I) (.one (.bool)),.map (.one .I) (.one (.bool)),.box [.str,.I,.I,.I,.I,.I,.str,.str,.I,.I,.str,.str,.str,.str,.I]]⟩,[.aU 5,.aU 6,.aU 9,.aU 12,.aU 14],[⟨.normal,⟨143,Vg,U8⟩,T_⟩],Dn⟩
def Xj:LT:=Xi.gF 0 aoO
def aoP:aQ P 0 Xj (bf f66):=aQ.gF hm (uP.nm [1500141]) aj aoN (fun d=>by kernel_rfl)
def Dp(d:LG):bk:=
 let g:=(d.rZ 8).gR (d.iV 10); let F:=(d.nN 1); let J:=(d.nN 3); let z5:=(d.nN 5); let M:=(d.nN 7); let N:=(fa (Dn (.l (d.rZ 0)::.i F::.l (d.rZ 2)::.i J::.l (cH [.I] (d.rZ 4) [.i (g.iV 8)] [.t true] (d.iV 5).toNat)::.i (((dI [.I] (d.rZ 4) [.i (g.iV 8)] (d.iV 5).toNat):Nat):Int)::.l (d.rZ 6)::.i M::kp g 0 [.s,.i,.i,.i,.i,.i,.s,.s,.i,.i,.s,.s,.s,.s,.i] (.i (g.iV 8)::kp d 8 [.l,.i,.i] [])))); (bif (ba (d.iV 10) (d.iV 9)) then (gd (nL (d.iV 10) (lI (d.rZ 8))) (bif ((g.iV 8)==0) then (gd (aM ((d.iV 10)+1)) (nQ [.l (d.rZ 0),.i F,.l (d.rZ 2),.i J,.l (d.rZ 4),.i z5,.l (d.rZ 6),.i M,.l (d.rZ 8),.i (d.iV 9),.i ((d.iV 10)+1)])) else (bif (gi (da [.I] (d.rZ 4) [.i (g.iV 8)] [.t false]) 0).bV then (bp true N fun O q=>(gd (aM ((q.iV 10)+1)) (nQ [.l (q.rZ 0),.i (q.nN 1),.l (q.rZ 2),.i (q.nN 3),.l (q.rZ 4),.i (q.nN 5),.l (q.rZ 6),.i (q.nN 7),.l (q.rZ 8),.i (q.iV 9),.i ((q.iV 10)+1)]))) else (bif (gi (da [.I] (d.rZ 2) [.i (g.iV 8)] [.t false]) 0).bV then (bp true N fun U A=>(gd (aM ((A.iV 10)+1)) (nQ [.l (A.rZ 0),.i (A.nN 1),.l (A.rZ 2),.i (A.nN 3),.l (A.rZ 4),.i (A.nN 5),.l (A.rZ 6),.i (A.nN 7),.l (A.rZ 8),.i (A.iV 9),.i ((A.iV 10)+1)]))) else (bp true (fa (Dn (.l (d.rZ 0)::.i F::.l (d.rZ 2)::.i J::.l (cH [.I] (d.rZ 4) [.i (g.iV 8)] [.t (gi (da [.I] (d.rZ 6) [.i (g.iV 8)] [.t false]) 0).bV] (d.iV 5).toNat)::.i (((dI [.I] (d.rZ 4) [.i (g.iV 8)] (d.iV 5).toNat):Nat):Int)::.l (d.rZ 6)::.i M::kp g 0 [.s,.i,.i,.i,.i,.i,.s,.s,.i,.i,.s,.s,.s,.s,.i] (.i (g.iV 8)::kp d 8 [.l,.i,.i] [])))) fun W B=>(gd (aM ((B.iV 10)+1)) (nQ [.l (B.rZ 0),.i (B.nN 1),.l (B.rZ 2),.i (B.nN 3),.l (B.rZ 4),.i (B.nN 5),.l (B.rZ 6),.i (B.nN 7),.l (B.rZ 8),.i (B.iV 9),.i ((B.iV 10)+1)]))))))) else eQ [.l (d.rZ 0),.i F,.l (d.rZ 4),.i z5])
def aoQ:bF:=⟨14,[],⟨143,Vg,U8⟩,T_,[⟨.exit 2,⟨143,[(5,.s (.map 0)),(9,.s (.map 1))],[.bI 1 (.one .I) [.str],.map (.one .I) (.one (.bool))]⟩,[.aU 5,.aU 9]⟩],Dp⟩
def Xk:LT:=Xj.add 0 aoQ
def aoR:aQ P 0 Xk (bf f66):=aQ.add hm (uP.nm [1500141]) aj aoP (fun d=>by kernel_rfl)
def Dq(d:LG):bk:=
 let q:=gi ((d.rZ 3).getD (0+(d.iV 5).toNat) []) 0; let A:=fO [.I] (d.rZ 0) [.i q.iV]; let J:=aA (d.rZ 2).length (d.rZ 2).length; let M:=sK [.l A]; (bif (ba (d.iV 5) (d.iV 4)) then (gd (nL (d.iV 5) (lI (d.rZ 3))) (gd (decide ((0+(d.iV 5).toNat)<(d.rZ 3).length)) (gd (iq [.I] (d.rZ 0) [.i q.iV]) (gx ((bE A)&&M.isSome) M fun F=>let z5:=sM [.l (F.rZ 0)]; (az (gz [.i q.iV]) fun O=>(gx (((aA A.length (F.rZ 0).length)&&true)&&z5.isSome) z5 fun g=>let N:=(oI [.l ((g.rZ 0).take ((g.iV 1).toNat)),.s (⟨#[32]⟩:BY)]); (gx (((bW (g.iV 1).toNat (g.rZ 0).length)&&true)&&N.isSome) N fun U=>let B:=((d.rZ 2)++([[.s (O.sV 0),.s (U.sV 0)]]:LL)); (gd (J&&(decide (((d.rZ 2).length+1)<=1048576))) (gd (aM ((d.iV 5)+1)) (gd ((aA B.length B.length)&&(bE (d.rZ 3))) (nQ [.l (jF [.I] (d.rZ 0) [.i q.iV]),.i (d.nN 1),.l B,.l (d.rZ 3),.i (d.iV 4),.i ((d.iV 5)+1)]))))))))))) else (gd (J&&true) (eQ [.l (d.rZ 2)])))
def aoS:bF:=⟨31,[(19,[.str,.str])],⟨143,[(5,.s (.map 0)),(19,.s (.vQ 1 2)),(121,.s (.vQ 2 1)),(122,aD),(123,aD)],[.bI 1 (.one .I) [.str],.vQ [.str,.str] 0,.vQ [.I] 0]⟩,[.aU 5,.aU 19,.aU 121],[⟨.exit 6,⟨143,[(19,.s (.vQ 0 2))],CI⟩,[.aU 19]⟩],Dq⟩
def NG:LT:=Xk.add 0 aoS
def aoT:aQ P 0 NG (bf f66):=aQ.add hm (uP.nm [1500141]) aj aoR (fun d=>by kernel_rfl)
def Ds(r d:LG):Option LG:=
 let g:=((d.rZ 2)++([[.i (gi (r.rV 0) 0).iV]]:LL)); let q:=aA (d.rZ 2).length (d.rZ 2).length; let A:=(d.nN 1); let B:=(d.nN 3); (bif (gi (r.rV 1) 0).bV then (gd (q&&(decide (((d.rZ 2).length+1)<=1048576))) (gd (bE g) (some [.l (d.rZ 0),.i A,.l g,.i B]))) else (gd (q&&true) (some [.l (d.rZ 0),.i A,.l (d.rZ 2),.i B])))
def aoU(d:LG)(b:Nat):LG:=[.l (d.rZ 0),.i (d.nN 1),.l (d.rZ 4),.i (b:Int)]
def aoV(d:LG)(b:Nat):Bool:=(bE (d.rZ 4))
def xj:gp:=⟨⟨143,[(5,.s (.map 0)),(16,.s (.vQ 1 1)),(108,wN)],[.bI 1 (.one .I) [.str],.vQ [.I] 0]⟩,[.aU 5,.aU 16],[],(.one .I),(.one (.bool)),1,0,107,108,109,110,111,fun d=>(gi d 3).iV.toNat,aoU,aoV,Ds⟩
def aoW:kW P (t152.nm [1500141]) NG 0 xj (om (bS f66 23)) (qM (bS f66 23)):=fun r d=>by kernel_rfl
def ID(d:LG):bk:=
 let A:=zO [.l (d.rZ 2)]; (gx ((bE (d.rZ 2))&&A.isSome) A fun g=>(bp ((aA (d.rZ 2).length (g.rZ 0).length)&&true) (bR Dq [.l (d.rZ 0),.i (d.nN 1),.l [],.l (g.rZ 0),.i (lI (d.rZ 2)),.i 0]) fun B q=>(gd (bE (q.rZ 0)) (eQ [.l (q.rZ 0)]))))
def aoX:bF:=⟨28,[],⟨143,[(5,.s (.map 0)),(16,.s (.vQ 1 1)),(108,wN)],[.bI 1 (.one .I) [.str],.vQ [.I] 0]⟩,[],[⟨.ret,⟨143,[(4,.s (.vQ 0 2))],CI⟩,wP⟩],ID⟩
def NH(d:LG):bk:=
 kX xj ID (d.rZ 2) ((d.iV 3).toNat) d
def NI:bF:=⟨23,[(16,[.I])],⟨143,[(5,.s (.map 0)),(9,.s (.map 1)),(16,.s (.vQ 2 1))],[.bI 1 (.one .I) [.str],.map (.one .I) (.one (.bool)),.vQ [.I] 0]⟩,[.aU 5,.aU 9,.aU 16],[⟨.ret,⟨143,[(4,.s (.vQ 0 2))],CI⟩,wP⟩],NH⟩
def aoY:LT:=NG.gF 0 NI
def aoZ:aQ P 0 aoY (bf f66):=aQ.adO (q:=NI) (qr:=aoX) (sp:=xj) (r0:=23) (b0:=4) (r1:=24) (b1:=5) (r2:=25) (rZ:=fun d=>(gi d 2).rZ) (aL:=fun d=>(gi d 3).iV.toNat) (pre:=fun d=>Cb P (t152.nm [1500141]) (mH (bS f66 23)) (aX NI.inv d)) hm (uP.nm [1500141]) aj aoT aj aj aoW (fun d=>by kernel_rfl) (fun d=>by kernel_rfl) (fun d=>by kernel_rfl) (fun d=>by kernel_rfl) (fun d=>by kernel_rfl) (fun d=>by kernel_rfl) (fun d b=>by kernel_rfl) (fun d b=>rfl) rfl rfl (fun d=>by kernel_rfl) (fun d=>rfl)
def Dt(d:LG):Option LG:=
 (az (xb [.l (d.rZ 0),.i (d.iV 1)]) fun F=>(az (zV [.l (d.rZ 0),.i (d.iV 1)]) fun B=>(bp true (bR Dm [.l [],.i 0,.l [],.i 0,.l [],.i 0,.l (F.rZ 0),.l (B.rZ 0),.i (lI (B.rZ 0)),.i 0]) fun J g=>(bp true (bR Dp [.l (g.rZ 0),.i (g.nN 1),.l (g.rZ 2),.i (g.nN 3),.l (g.rZ 4),.i (g.nN 5),.l [],.i 0,.l (g.rZ 6),.i (lI (g.rZ 6)),.i 0]) fun M q=>(bp true (fa (NH [.l (q.rZ 0),.i (q.nN 1),.l (q.rZ 2),.i (q.nN 3),.l []])) fun I A=>(gd (bE (A.rZ 0)) (some [.l (A.rZ 0)])))))))
def ao0:aI:=⟨66,oC,[],[],CF,[],[],[],Dt⟩
def t153:ar:=t152.bx ao0
def Xl:aw P t153:=uP.aP (qJ hm (uP.nm [1500141]) func66 aj aoZ (fun d=>by kernel_rfl) aj)

def Du(d:LG):bk:=
 let g:=aA (d.rZ 0).length (d.rZ 0).length; (bif (ba (d.iV 3) (d.iV 2)) then (gd (nL (d.iV 3) (lI (d.rZ 1))) (az (gz [.i (gi ((d.rZ 1).gR (d.iV 3)) 0).iV]) fun A=>let q:=((d.rZ 0)++([[.s (A.sV 0)]]:LL)); (gd (g&&(decide (((d.rZ 0).length+1)<=1048576))) (gd (aM ((d.iV 3)+1)) (gd (bE q) (nQ [.l q,.l (d.rZ 1),.i (d.iV 2),.i ((d.iV 3)+1)])))))) else (gd (g&&true) (eQ [.l (d.rZ 0)])))
def ao1:bF:=⟨3,[(3,[.str])],⟨20,[(3,.s (.vQ 0 1)),(6,gV),(7,aD),(8,aD)],j5⟩,wR,[⟨.exit 0,⟨20,[(3,.s (.vQ 0 1))],j5⟩,wR⟩],Du⟩
def ao5:LT:=bz.add 0 ao1
def ao6:aQ P 0 ao5 (bf f113):=lA Xl (bN _ _ _)
def NJ(d:LG):Option LG:=
 (bp true (bR Du [.l [],.l (d.rZ 0),.i (lI (d.rZ 0)),.i 0]) fun B g=>let q:=(oI [.l ((g.rZ 0).take ((g.rZ 0).length)),.s (⟨#[32]⟩:BY)]); (gx (((bW (g.rZ 0).length (g.rZ 0).length)&&true)&&q.isSome) q fun A=>some [.s (A.sV 0)]))
def ao7:aI:=⟨113,[gV],[],[],[bY],[],[],[],NJ⟩
def t154:ar:=t153.bx ao7
def ao8:aw P t154:=tP Xl func113 ao6

def Dv(d:LG):Option LG:=
 (bif ((lI (d.rZ 0))==0) then some [.s (⟨#[110,111,110,101]⟩:BY)] else (az (NJ [.l (d.rZ 0)]) fun g=>some [.s (g.sV 0)]))
def ao9:aI:=⟨67,[gV],[],[],[bY],[],[],[],Dv⟩
def t155:ar:=t154.bx ao9
def IE:aw P t155:=cU ao8 func67

def Dw(d:LG):bk:=
 let g:=aA (d.rZ 0).length (d.rZ 0).length; (bif (ba (d.iV 3) (d.iV 2)) then (gd (nL (d.iV 3) (lI (d.rZ 1))) (az (IC [.l [(bu dt ((d.rZ 1).gR (d.iV 3)))]]) fun A=>let q:=((d.rZ 0)++([[.s (A.sV 0)]]:LL)); (gd (g&&(decide (((d.rZ 0).length+1)<=1048576))) (gd (aM ((d.iV 3)+1)) (gd (bE q) (nQ [.l q,.l (d.rZ 1),.i (d.iV 2),.i ((d.iV 3)+1)])))))) else (gd (g&&true) (eQ [.l (d.rZ 0)])))
def ao_:bF:=⟨7,[(10,[.str])],⟨113,[(10,.s (.vQ 0 1)),(29,kG),(30,aD),(31,aD)],j5⟩,wS,[⟨.exit 1,⟨113,[(10,.s (.vQ 0 1))],j5⟩,wS⟩],Dw⟩
def Xm:LT:=bz.add 0 ao_
def ao':aQ P 0 Xm (bf f32):=lA IE (bN _ _ _)
def Dx(d:LG):bk:=
 let g:=(d.rZ 1).gR (d.iV 3); let B:=(⟨#[32]⟩:BY); let q:=(g.sV 0)++B; let F:=aA (d.rZ 0).length (d.rZ 0).length; (bif (ba (d.iV 3) (d.iV 2)) then (gd (nL (d.iV 3) (lI (d.rZ 1))) (gd (bW ((g.sV 0).size+1) 9223372036854775807) (az (zS [.s (g.sV 1)]) fun A=>let z5:=(q++(A.sV 0))++B; (gd (bW (q.size+(A.sV 0).size) 9223372036854775807) (gd (bW ((q++(A.sV 0)).size+1) 9223372036854775807) (az (gz [.i (g.iV 2)]) fun I=>let J:=((d.rZ 0)++([[.s (z5++(I.sV 0))]]:LL)); (gd (bW (z5.size+(I.sV 0).size) 9223372036854775807) (gd (F&&(decide (((d.rZ 0).length+1)<=1048576))) (gd (aM ((d.iV 3)+1)) (gd (bE J) (nQ [.l J,.l (d.rZ 1),.i (d.iV 2),.i ((d.iV 3)+1)]))))))))))) else (gd (F&&true) (eQ [.l (d.rZ 0)])))
def apa:bF:=⟨13,[(10,[.str])],⟨113,[(10,.s (.vQ 0 1)),(45,.s (.list lG)),(46,aD),(47,aD)],j5⟩,wS,[⟨.exit 3,⟨113,[(10,.s (.vQ 0 1))],j5⟩,wS⟩],Dx⟩
def Xn:LT:=Xm.add 0 apa
def apb:aQ P 0 Xn (bf f32):=lA IE ao'
def uQ(d:LG):bk:=
 let g:=(d.rZ 1).gR (d.iV 3); let q:=((d.rZ 0)++([[.s (((g.sV 0)++(⟨#[32]⟩:BY))++(g.sV 1))]]:LL)); let A:=aA (d.rZ 0).length (d.rZ 0).length; (bif (ba (d.iV 3) (d.iV 2)) then (gd (nL (d.iV 3) (lI (d.rZ 1))) (gd (bW ((g.sV 0).size+1) 9223372036854775807) (gd (bW (((g.sV 0)++(⟨#[32]⟩:BY)).size+(g.sV 1).size) 9223372036854775807) (gd (A&&(decide (((d.rZ 0).length+1)<=1048576))) (gd (aM ((d.iV 3)+1)) (gd (bE q) (nQ [.l q,.l (d.rZ 1),.i (d.iV 2),.i ((d.iV 3)+1)]))))))) else (gd (A&&true) (eQ [.l (d.rZ 0)])))
def apc:bF:=⟨26,[(10,[.str])],⟨113,[(10,.s (.vQ 0 1)),(90,.s (.list [.str,.str])),(91,aD),(92,aD)],j5⟩,wS,[⟨.exit 5,⟨113,[(10,.s (.vQ 0 1))],j5⟩,wS⟩],uQ⟩
def apd:LT:=Xn.add 0 apc
def ape:aQ P 0 apd (bf f32):=lA IE apb
def IF(d:LG):Option LG:=
 let g:=((d.sV 1).toList==(⟨#[99,108,97,115,104,101,115]⟩:BY).toList); let U:=((d.sV 1).toList==(⟨#[100,117,112,101,115]⟩:BY).toList); let W:=((d.sV 1).toList==(⟨#[104,101,108,100]⟩:BY).toList); let Y:=Dt [.l (d.rZ 0),.i (d.iV 2)]; let z5:=zX [.l (d.rZ 0),.i (d.iV 2)]; (az (xc [.l (d.rZ 0),.i (d.iV 2)]) fun q=>let z6:=C9 [.l (q.rZ 0)]; (bif ((d.sV 1).toList==(⟨#[108,111,103]⟩:BY).toList) then (bp true (bR Dw [.l [],.l (q.rZ 0),.i (lI (q.rZ 0)),.i 0]) fun cg3 g3=>(gd (bE (g3.rZ 0)) (some [.l (g3.rZ 0),.i 0]))) else (bif ((d.sV 1).toList==(⟨#[100,101,115,107,115]⟩:BY).toList) then (az (H9 [.l (d.rZ 0),.i (d.iV 2)]) fun g4=>(bp true (bR Dx [.l [],.l (g4.rZ 0),.i (lI (g4.rZ 0)),.i 0]) fun cg7 g7=>(gd (bE (g7.rZ 0)) (some [.l (g7.rZ 0),.i 0])))) else (bif ((d.sV 1).toList==(⟨#[110,101,120,116]⟩:BY).toList) then (az (C6 [.l (d.rZ 0),.i (d.iV 2)]) fun g8=>(az (gz [.i (g8.iV 0)]) fun g9=>some [.l [[.s (g9.sV 0)]],.i (g8.iV 1)])) else (bif W then (bif W then (az z5 fun A=>(bif g then (az Y fun B=>(bp true (bR uQ [.l [],.l (B.rZ 0),.i (lI (B.rZ 0)),.i 0]) fun cg12 F=>(gd (bE (F.rZ 0)) (some [.l (F.rZ 0),.i 0])))) else (bp true (bR uQ [.l [],.l (A.rZ 0),.i (lI (A.rZ 0)),.i 0]) fun cg13 I=>(gd (bE (I.rZ 0)) (some [.l (I.rZ 0),.i 0]))))) else (bif U then (az z6 fun g14=>(az (Dv [.l (g14.rZ 0)]) fun g15=>some [.l [[.s (g15.sV 0)]],.i 0])) else some [.l [],.i 9])) else (bif g then (az z5 fun J=>(bif g then (az Y fun M=>(bp true (bR uQ [.l [],.l (M.rZ 0),.i (lI (M.rZ 0)),.i 0]) fun cg18 N=>(gd (bE (N.rZ 0)) (some [.l (N.rZ 0),.i 0])))) else (bp true (bR uQ [.l [],.l (J.rZ 0),.i (lI (J.rZ 0)),.i 0]) fun cg19 O=>(gd (bE (O.rZ 0)) (some [.l (O.rZ 0),.i 0]))))) else (bif U then (az z6 fun g20=>(az (Dv [.l (g20.rZ 0)]) fun g21=>some [.l [[.s (g21.sV 0)]],.i 0])) else some [.l [],.i 9])))))))
def apf:aI:=⟨32,[.s (.list aY),bY,aD],[],[],[.s (.list [.str]),aD],[],[],[],IF⟩
def t156:ar:=t155.bx apf
def NK:aw P t156:=tP IE func32 ape

def uR(s:BY):Int:=Ms s 10
def Xo:∀(l:List UInt8) (c:UInt8),mW l c<l.length
 |[],c=>by
  unfold mW;simp
 |b::l,c=>by
  have d:=Xo l c;unfold mW;rw[List.length_cons];split
  ·omega
  ·split
   ·omega
   ·omega
def apg(s:BY):uR s<s.size:=by
 have h:=Xo s.data.toList (10:Int).toNat.toUInt8;have e:s.size=s.data.toList.length:=by cases s; simp[ByteArray.size]
 rw[e];exact h
def aph:wG P 58 uR:=⟨aj,fun s=>BM (vs:=[.string s,.int .u8 10]) fun w=>(Proofs.Any.strings_IndexByte Tryz.TO s 10 w).mono fun e w' h=>⟨h.1,h.2▸Ext.refl w⟩,fun s=>apg s⟩
def lnf:Gh P ⟨57,9,58⟩:=aev func57 aj rfl rfl rfl ⟨⟨_,_,_,rfl,⟨rfl,rfl,rfl⟩,⟨rfl,rfl,rfl⟩,⟨rfl,⟨_,_,rfl⟩,rfl⟩⟩,⟨_,rfl,⟨rfl,rfl,rfl⟩⟩,⟨_,_,_,_,rfl,⟨rfl,rfl,rfl⟩,⟨rfl,rfl,rfl⟩,⟨rfl,rfl,rfl⟩⟩,⟨_,_,rfl,⟨rfl,rfl,rfl⟩,⟨rfl,⟨_,_,rfl⟩,rfl⟩⟩,⟨_,_,_,_,_,_,_,_,_,_,rfl,⟨rfl,rfl,rfl⟩,⟨rfl,rfl,rfl⟩,⟨rfl,⟨_,_,rfl⟩,rfl⟩,⟨rfl,rfl,rfl⟩,⟨rfl,rfl,rfl⟩,⟨rfl,rfl,rfl⟩,⟨rfl,⟨_,_,rfl⟩,rfl⟩,⟨rfl,rfl,rfl⟩,⟨rfl,rfl,rfl⟩,⟨rfl,rfl,rfl⟩⟩,⟨_,_,_,rfl,⟨rfl,rfl,rfl⟩,⟨rfl,rfl,rfl⟩,⟨rfl,rfl,rfl⟩⟩,⟨_,_,_,_,_,_,rfl,⟨rfl,rfl,rfl⟩,⟨rfl,rfl,rfl⟩,⟨rfl,rfl,rfl⟩,⟨rfl,rfl,rfl⟩⟩,aj⟩ aj aj
def mO(d:LG):bk:=
 let g:=gi ((d.rZ 4).gR (d.iV 6)) 0; let q:=(g.sV++(⟨#[10]⟩:BY)); (bif (ba (d.iV 6) (d.iV 5)) then (gd (nL (d.iV 6) (lI (d.rZ 4))) (gd (bW (g.sV.size+1) 9223372036854775807) (gd (bW ((d.sV 1).size+q.size) 9223372036854775807) (gd (aM ((d.iV 6)+1)) (some (none,.l (d.rZ 0)::(.s ((d.sV 1)++q))::kp d 2 [.i,.s,.l,.i] [.i ((d.iV 6)+1)])))))) else some (some 0,kp d 0 [.l,.s,.i,.s] []))
def apj:bF:=⟨20,[],⟨73,[(6,.s (.ptr 1 0)),(61,.s (.list [.str])),(62,aD),(63,aD)],MF⟩,Ua,[⟨.exit 2,⟨73,[],MF⟩,Ua⟩],mO⟩
def NL:LT:=bz.add 4 apj
def Xp:aQ P 4 NL (pM (bS f10 6)):=aQ.add (fn:=(aey (pM (bS f10 6)))) hm NK aj ((fun _ _=>bN _ _ _) _ _) (fun d=>by kernel_rfl)
def NM(h r:BY)(d:LG):Option LG:=
 let q:=(⟨#[101,114,114,111,114,32]⟩:BY); (az (HS [.s h,.s (⟨#[10]⟩:BY)]) fun I=>(az (IF [.l (d.rZ 0),.s (I.sV 0),.i (d.iV 2)]) fun g=>let J:=(bR mO (kp d 0 [.l,.s,.i] [.s r,.l (g.rZ 0),.i (lI (g.rZ 0)),.i 0])); let M:=gz [.i (g.iV 1)]; (az (sG [.s (I.sV 0),.s (⟨#[97,116,32]⟩:BY)]) fun N=>(bif (N.bV 1) then (az (Ik [.s (N.sV 0),.i 15]) fun A=>(bif (A.bV 1) then (az (uO [.i (A.iV 0)]) fun g6=>(bif (g6.bV 0) then (bp true (bR mO [.l (d.rZ 0),.s (d.sV 1),.i (A.iV 0),.s r,.l [[.s (⟨#[111,107]⟩:BY)]],.i 1,.i 0]) fun cg7 g7=>some (kp g7 0 [.l,.s,.i,.s] [])) else (az (gz [.i 1]) fun O=>(gd (bW (6+(O.sV 0).size) 9223372036854775807) (bp true (bR mO (kp d 0 [.l,.s,.i] [.s r,.l [[.s (q++(O.sV 0))]],.i 1,.i 0])) fun cg9 g9=>some (kp g9 0 [.l,.s,.i,.s] [])))))) else (bif ((g.iV 1) != 0) then (az M fun B=>(gd (bW (6+(B.sV 0).size) 9223372036854775807) (bp true (bR mO (kp d 0 [.l,.s,.i] [.s r,.l [[.s (q++(B.sV 0))]],.i 1,.i 0])) fun cg11 U=>some (kp U 0 [.l,.s,.i,.s] [])))) else (bp true J fun cg12 W=>some (kp W 0 [.l,.s,.i,.s] []))))) else (bif ((g.iV 1) != 0) then (az M fun F=>(gd (bW (6+(F.sV 0).size) 9223372036854775807) (bp true (bR mO (kp d 0 [.l,.s,.i] [.s r,.l [[.s (q++(F.sV 0))]],.i 1,.i 0])) fun cg14 Y=>some (kp Y 0 [.l,.s,.i,.s] [])))) else (bp true J fun cg15 g15=>some (kp g15 0 [.l,.s,.i,.s] [])))))))
def apk(d:LG):LG:=[.l (gi d 0).rZ,.s (gi d 1).sV,.i (gi d 2).iV,.s (gi d 3).sV]
def apl(d:LG):Bool:=true
def pY:yU:=⟨⟨73,[(2,.s (.ptr 0 0)),(6,.s (.ptr 1 0)),(7,.s (.ptr 2 0)),(28,.clo 57 [.ptr 3 0])],[.box [.list aY],.box [.str],.box [.I],.box [.str]]⟩,[.aU 2,.aU 6,.aU 7,.cap 28 0],[],3,29,fun d=>(gi d 3).sV,apk,apl,NM⟩
def apm:Gi P t156 NL pY (su (bS f10 6)) (pM (bS f10 6)):=fun h r d=>by kernel_rfl
def Xq(d:LG):bk:=
 eQ [.s (d.sV 1),.i 0]
def apn:bF:=⟨24,[],⟨73,[(2,.s (.ptr 0 0)),(6,.s (.ptr 1 0)),(7,.s (.ptr 2 0)),(28,.clo 57 [.ptr 3 0])],MF⟩,[],[⟨.ret,⟨73,[(4,bY),(5,aD)],[]⟩,[]⟩],Xq⟩
def IG(d:LG):bk:=
 Cq uR pY Xq d
def NN:bF:=⟨6,[],⟨73,[(1,bY),(2,.s (.ptr 0 0)),(6,.s (.ptr 1 0)),(7,.s (.ptr 2 0))],[.box [.list aY],.box [.str],.box [.I]]⟩,[.aU 2,.aU 6,.aU 7],[⟨.ret,⟨73,[(4,bY),(5,aD)],[]⟩,[]⟩],IG⟩
def apo:LT:=bz.gF 0 NN
def apq:aQ P 0 apo (bf f10):=aQ.aez (i:=⟨57,9,58⟩) (q:=NN) (qr:=apn) (sp:=pY) (b:=0) (g:=28) (wd:=0) (L0:=NL) (pre:=fun d=>preB P t156 bz (bS f10 6) (aX NN.inv d)) hm NK lnf aph aj (bN _ _ _) (Xp.bare aj fun _ _=>rfl) Xp aj apm aj aj (fun d=>by kernel_rfl) (fun d=>by kernel_rfl) (fun d=>by kernel_rfl) (fun d=>by kernel_rfl) (fun d=>by kernel_rfl) rfl rfl (fun d=>by kernel_rfl) (fun d=>rfl)
def IH(d:LG):Option LG:=
 let g:=(⟨#[]⟩:BY); let B:=fa (IG [.l (d.rZ 0),.s g,.i 0,.s (d.sV 1)]); (bif (ba 2000 (((d.sV 1).size:Nat):Int)) then some [.s g,.i 2] else (bif (!((d.sV 1).toList==g.toList)) then (az (HR [.s (d.sV 1),.s (⟨#[10]⟩:BY)]) fun F=>(bif (!(F.bV 0)) then some [.s g,.i 9] else (bp true B fun I q=>some [.s (q.sV 0),.i (q.iV 1)]))) else (bp true B fun J A=>some [.s (A.sV 0),.i (A.iV 1)])))
def apr:aI:=⟨10,[.s (.list aY),bY],[],[],[bY,aD],[],[],[],IH⟩
def t157:ar:=t156.bx apr
def Xr:aw P t157:=tP NK func10 apq

def NO(d:LG):Option LG:=
 (az (sD [.l (d.rZ 0),.i 0,.i 0,.i 14]) fun I=>(az (CN (kp I 0 [.l,.i,.i] [])) fun g=>(az (G7 [.l (g.rZ 0),.i (g.iV 1)]) fun A=>(az (zZ [.l (g.rZ 2),.s (A.sV 2)]) fun q=>(az (CX [.l (g.rZ 2)]) fun B=>(bif ((B.iV 0) != 0) then (bif ((q.iV 1)==(B.iV 0)) then (bif ((q.sV 0).toList==(⟨#[]⟩:BY).toList) then (az (zt []) fun J=>some [.t (J.bV 0)]) else some [.t false]) else some [.t false]) else (az (IH [.l (g.rZ 2),.s (A.sV 2)]) fun F=>(bif ((q.iV 1)==(F.iV 1)) then (bif ((q.sV 0).toList==(F.sV 0).toList) then (az (zt []) fun M=>some [.t (M.bV 0)]) else some [.t false]) else some [.t false]))))))))
def Xs:aI:=⟨3,[gV],[],[],[dY],[],[],[],NO⟩
def Xt:ff P Xs:=zf hm Xr func3 (bN _ _ _) (fun d=>by kernel_rfl)
def t158:ar:=t157.bx Xs
def auG:aw P t158:=Xr.aP Xt

end
end Go.Proofs.h_
