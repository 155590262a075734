/-
 What is proved here: functions of the program as functions on data. No condition.
-/
import Derived.Test.YtkkkhbhbjlikhaaGreatDoorML2
set_option linter.all false
open Nat renaming beq->aA
namespace Go.Proofs.h_
open Go Go.AL Go.Proofs Tryz
noncomputable section
def ajV:uv P ⟨244,26,42,15,15,true⟩:=SB func244 aj rfl rfl rfl ⟨⟨_,_,_,_,_,_,rfl,⟨rfl,rfl,rfl⟩,⟨rfl,rfl,rfl⟩,⟨rfl,rfl,rfl⟩,⟨rfl,rfl,rfl⟩⟩,⟨_,_,_,_,rfl,⟨rfl,rfl,rfl⟩,⟨rfl,rfl,rfl⟩⟩,⟨_,_,_,_,_,rfl,⟨rfl,rfl,rfl⟩,⟨rfl,rfl,rfl⟩,⟨rfl,rfl,rfl⟩⟩,⟨_,_,_,_,_,_,_,_,_,_,rfl,⟨rfl,rfl,rfl⟩,⟨rfl,rfl,rfl⟩,⟨rfl,rfl,rfl⟩,⟨rfl,rfl,rfl⟩,⟨rfl,rfl,rfl⟩,⟨rfl,rfl,rfl⟩,⟨rfl,rfl,rfl⟩,⟨rfl,rfl,rfl⟩⟩⟩ aj
def MR(i:Int)(r d:LG):Option LG:=
 let g:=((d.rZ 3)++([[.i i]]:LL)); let A:=aA (d.rZ 3).length (d.rZ 3).length; let q:=(d.nN 2); let B:=((bE g)&&true)&&true; let z5:=((A&&true)&&true)&&true; (bif (ba (d.iV 0) (r.iV 2)) then (gd z5 (some [.i (d.iV 0),.l (d.rZ 1),.i q,.l (d.rZ 3)])) else (bif (gi (da [.str,.I] (d.rZ 1) (bu [.str,.I] r) [.t false]) 0).bV then (gd z5 (some [.i (d.iV 0),.l (d.rZ 1),.i q,.l (d.rZ 3)])) else (gd (A&&(decide (((d.rZ 3).length+1)<=1048576))) (bif ((r.iV 3)==5) then (gd B (some [.i (d.iV 0),.l (cH [.str,.I] (d.rZ 1) [.s (r.sV 13),.i (r.iV 14)] [.t true] (d.iV 2).toNat),.i (((dI [.str,.I] (d.rZ 1) [.s (r.sV 13),.i (r.iV 14)] (d.iV 2).toNat):Nat):Int),.l g])) else (gd B (some [.i (d.iV 0),.l (d.rZ 1),.i q,.l g]))))))
def V4(d:LG):LG:=[.i (gi d 0).iV,.l (gi d 1).rZ,.i (((gi d 2).iV.toNat:Nat):Int),.l []]
def V5(d:LG):Bool:=true
def zF:yR:=⟨⟨43,[(3,.s (.ptr 0 0)),(5,.s (.ptr 1 0)),(6,.s (.ptr 3 0))],[.box [.I],.box [.map 2],.map (.agg [.str,.I]) (.one (.bool)),.box [.vQ 4 1],.vQ [.I] 1]⟩,[.aU 3,.aU 5,.cell 1 0,.aU 6,.cell 3 0],[],aY,true,15,5,12,13,V4,V5,MR⟩
def ajW:Gc P t57 (bz.np [(2,[.jX 6 0 [.I]]),(3,[.jX 6 0 [.I]])]) zF (su (bS f132 3)) (pM (bS f132 3)):=fun i r d=>by kernel_rfl
def MS(d:LG):bk:=
 let g:=G1 [.l (d.rZ 3)]; (gx ((bE (d.rZ 3))&&g.isSome) g fun q=>(gd ((aA (d.rZ 3).length (q.rZ 0).length)&&true) (eQ [.l (q.rZ 0)])))
def ajX:bF:=⟨10,[],⟨43,[(3,.s (.ptr 0 0)),(5,.s (.ptr 1 0)),(6,.s (.ptr 3 0))],[.box [.I],.box [.map 2],.map (.agg [.str,.I]) (.one (.bool)),.box [.vQ 4 1],.vQ [.I] 1]⟩,[],[⟨.ret,⟨43,[(4,.s (.vQ 0 1))],mM⟩,wP⟩],MS⟩
def Ho(d:LG):bk:=
 Ck zF MS (d.rZ 3) d
def MT:bF:=⟨3,[],⟨43,[(0,.s (.list aY)),(3,.s (.ptr 0 0)),(5,.s (.ptr 1 0)),(6,.s (.ptr 3 0))],[.box [.I],.box [.map 2],.map (.agg [.str,.I]) (.one (.bool)),.box [.nil]]⟩,[.aU 3,.aU 5,.cell 1 0,.aU 6],[⟨.ret,⟨43,[(4,.s (.vQ 0 1))],mM⟩,wP⟩],Ho⟩
def ajY:LT:=(bz.np [(2,[.jX 6 0 [.I]]),(3,[.jX 6 0 [.I]])]).gF 0 MT
def ajZ:aQ P 0 ajY (bf f132):=aQ.ael (i:=⟨244,26,42,15,15,true⟩) (q:=MT) (qr:=ajX) (sp:=zF) (b:=0) (g:=11) (wd:=0) (L0:=(bz.np [(2,[.jX 6 0 [.I]]),(3,[.jX 6 0 [.I]])])) (rZ:=fun d=>(gi d 3).rZ) (pre:=fun d=>preB P t57 (bz.np [(2,[.jX 6 0 [.I]]),(3,[.jX 6 0 [.I]])]) (bS f132 3) (aX MT.inv d)) hm V3 ajV aj (uq _) (fun _ _=>uq _) aj ajW aj aj (fun d=>by kernel_rfl) (fun d=>by kernel_rfl) (fun d=>by kernel_rfl) (fun d=>by kernel_rfl) (fun d=>by kernel_rfl) rfl rfl (fun d=>by kernel_rfl) (fun d=>rfl)
def Hp(d:LG):Option LG:=
 (bp true (fa (Ho [.i (d.iV 1),.l [],.i 0,.l (d.rZ 0)])) fun q g=>(gd (bE (g.rZ 0)) (some [.l (g.rZ 0)])))
def aj0:aI:=⟨132,oC,[],[],[gV],[],[],[],Hp⟩
def t58:ar:=t57.bx aj0
def aj1:aw P t58:=tP V3 func132 ajZ

def Hq(d:LG):Option LG:=
 some [.l [[.i (gi (d.rV 0) 0).iV,.i (gi (d.rV 0) 1).iV,.s (gi (d.rV 0) 2).sV,.s (gi (d.rV 0) 3).sV,.i 0,.i 0,.s (⟨#[]⟩:BY),.s (⟨#[]⟩:BY)]]]
def aj2:aI:=⟨133,wO,[],[],wO,[],[],[],Hq⟩
def t59:ar:=t58.bx aj2
def V6:aw P t59:=cU aj1 func133

def uN(d:LG):Option LG:=
 (az (uM [.i (gi (d.rV 0) 0).iV,.i (gi (d.rV 1) 0).iV]) fun g=>(az (kF [.s (gi (d.rV 0) 3).sV,.s (gi (d.rV 1) 3).sV]) fun q=>(az (kF [.s (gi (d.rV 0) 2).sV,.s (gi (d.rV 1) 2).sV]) fun A=>(az (uM [.i (gi (d.rV 0) 1).iV,.i (gi (d.rV 1) 1).iV]) fun B=>(az (qZ [.l [[.i (g.iV 0)],[.i (q.iV 0)],[.i (A.iV 0)],[.i (B.iV 0)]]]) fun F=>some [.i (F.iV 0)])))))
def V7:aI:=⟨135,TZ,[],[],[aD],[],[],[],uN⟩
def V8:ff P V7:=zf hm V6 func135 (bN _ _ _) (fun d=>by kernel_rfl)
def t60:ar:=t59.bx V7
def aj3:aw P t60:=V6.aP V8

def MU(d:LG):Option LG:=
 sr uN d
def V9:aI:=⟨134,[.s (.vQ 0 8),.s (.fn 135)],[.vQ dt 0],gH,[],[.vQ dt 0],ep,[],MU⟩
def aj4:ff P V9:=fun d r h=>F9 Tryz.afH dt aj isAgg40 sizeOf40 135 aj uN (fun d r h=>V8 d r h) d r h
def t61:ar:=t60.df V9
def zG:aw P t61:=aj3.aW aj4

def zH(d:LG):bk:=
 let g:=((d.rZ 1)++([(kp d 12 [.i,.i,.s,.s,.i,.i,.s,.s] [])]:LL)); let B:=Hq [.l [(kp d 12 [.i,.i,.s,.s,.i,.i,.s,.s] [])]]; let F:=(aA (d.rZ 2).length (d.rZ 2).length)&&(bE (d.rZ 3)); let I:=((d.rZ 3)++([[.i (d.iV 24)]]:LL)); let z5:=aA (d.rZ 0).length (d.rZ 0).length; let q:=aA (d.rZ 1).length (d.rZ 1).length; let A:=(d.nN 5); let J:=(d.nN 7); (bif ((d.iV 11) != 1) then (gd (((z5&&(q&&F))&&true)&&true) (some (some 0,kp d 0 [.l,.l,.l,.l,.l] (.i A::.l (d.rZ 6)::.i J::.l (d.rZ 23)::kp d 25 [.l,.i,.i] [])))) else (az B fun N=>(bif (b_ dt (d.rZ 6) (bu dt (N.rV 0))) then (gd ((aA (d.rZ 3).length (d.rZ 3).length)&&(decide (((d.rZ 3).length+1)<=1048576))) (gd (((z5&&(q&&((aA (d.rZ 2).length (d.rZ 2).length)&&(bE I))))&&true)&&true) (some (some 0,kp d 0 [.l,.l,.l] (.l I::.l (d.rZ 4)::.i A::.l (d.rZ 6)::.i J::.l (d.rZ 23)::kp d 25 [.l,.i,.i] []))))) else (az B fun O=>let M:=bu dt (O.rV 0); (gd (q&&(decide (((d.rZ 1).length+1)<=1048576))) (gd (((z5&&((aA g.length g.length)&&F))&&true)&&true) (some (some 1,.l (d.rZ 0)::.l g::kp d 2 [.l,.l,.l] (.i A::.l (cH dt (d.rZ 6) M (kp d 8 [.s,.i,.i,.i,.i,.i,.s,.s,.i,.i,.s,.s,.s,.s,.i] []) (d.iV 7).toNat)::.i (((dI dt (d.rZ 6) M (d.iV 7).toNat):Nat):Int)::.l (d.rZ 23)::kp d 25 [.l,.i,.i] [])))))))))
def aj5:bF:=⟨14,[],⟨143,Va,MA⟩,Mv,[⟨.exit 1,⟨143,CK,wU⟩,wQ⟩,⟨.normal,⟨143,CK,wU⟩,wQ⟩],zH⟩
def V_:LT:=(bz.np [(3,[.jX 6 0 aY,.jX 6 3 [.I],.jX 6 1 dt,.jX 6 2 [.str]])]).gF 0 aj5
def aj6:aQ P 0 V_ (bf f90):=lC zG (uq _)
def zI(d:LG):bk:=
 (gd (aM ((d.iV 11)+1)) (gd ((((aA (d.rZ 0).length (d.rZ 0).length)&&((aA (d.rZ 1).length (d.rZ 1).length)&&((aA (d.rZ 2).length (d.rZ 2).length)&&(bE (d.rZ 3)))))&&true)&&true) (some (some 0,kp d 0 [.l,.l,.l,.l,.l] (.i (d.nN 5)::.l (d.rZ 6)::.i (d.nN 7)::kp d 8 [.l,.l,.i] [.i ((d.iV 11)+1)])))))
def aj7:bF:=⟨20,[],⟨143,CK,wU⟩,wQ,[⟨.normal,⟨143,CK,wU⟩,wQ⟩],zI⟩
def Wa:LT:=V_.gF 0 aj7
def aj8:aQ P 0 Wa (bf f90):=lC zG aj6
def CR(d:LG):bk:=
 let g:=(((aA (d.rZ 0).length (d.rZ 0).length)&&((aA (d.rZ 1).length (d.rZ 1).length)&&((aA (d.rZ 2).length (d.rZ 2).length)&&(bE (d.rZ 3)))))&&true)&&true; let q:=(d.nN 5); let A:=(d.nN 7); (bif (d.bV 28) then (gd g (some (some 0,kp d 0 [.l,.l,.l,.l] (.l (mz [.str,.I] (d.rZ 4) [.s (d.sV 8),.i (d.iV 16)])::.i q::.l (d.rZ 6)::.i A::kp d 8 [.s,.i,.i,.i,.i,.i,.s,.s,.i,.i,.s,.s,.s,.s,.i,.l,.i,.l,.i,.i] [])))) else (gd g (some (some 0,kp d 0 [.l,.l,.l,.l,.l] (.i q::.l (d.rZ 6)::.i A::kp d 8 [.s,.i,.i,.i,.i,.i,.s,.s,.i,.i,.s,.s,.s,.s,.i,.l,.i,.l,.i,.i] [])))))
def aj9:bF:=⟨13,[],⟨143,[(0,.s (.list aY)),(6,.s (.ptr 0 0)),(7,.s (.map 6)),(9,aD),(10,.s (.ptr 7 0)),(21,gV),(22,aD),(23,aD),(55,dY)],MA⟩,Mv,[⟨.normal,⟨143,Va,MA⟩,Mv⟩],CR⟩
def Wb:LT:=Wa.gF 0 aj9
def aj_:aQ P 0 Wb (bf f90):=lC zG aj8
def zJ(d:LG):bk:=
 let z3:=gi ((d.rZ 9).gR (d.iV 11)) 0; let J:=(d.rZ 8).gR (z3.iV); let z4:=((d.rZ 0)++([(bu aY J)]:LL)); let z2:=(((aA z4.length z4.length)&&((aA (d.rZ 1).length (d.rZ 1).length)&&((aA (d.rZ 2).length (d.rZ 2).length)&&(bE (d.rZ 3)))))&&true)&&true; let z5:=(d.nN 7); let z6:=(d.nN 5); let z7:=aA (d.rZ 0).length (d.rZ 0).length; (bif (ba (d.iV 11) (d.iV 10)) then (gd (nL (d.iV 11) (lI (d.rZ 9))) (gd (nL z3.iV (lI (d.rZ 8))) (gd (z7&&(decide (((d.rZ 0).length+1)<=1048576))) (bif ((J.iV 3)==3) then (bp z2 (fa (zH (.l z4::kp d 1 [.l,.l,.l] (.l (cH [.str,.I] (d.rZ 4) [.s (J.sV 0),.i (J.iV 8)] [.t true] (d.iV 5).toNat)::.i (((dI [.str,.I] (d.rZ 4) [.s (J.sV 0),.i (J.iV 8)] (d.iV 5).toNat):Nat):Int)::.l (d.rZ 6)::.i z5::kp J 0 [.s,.i,.i,.i,.i,.i,.s,.s,.i,.i,.s,.s,.s,.s,.i] (.l (d.rZ 8)::.i z3.iV::kp d 9 [.l,.i,.i] []))))) fun cg4 M=>let z8:=(fa (zI (kp M 0 [.l,.l,.l,.l,.l] (.i (M.nN 5)::.l (M.rZ 6)::.i (M.nN 7)::kp M 8 [.l,.l,.i,.i] [])))); let z9:=(((aA (M.rZ 0).length (M.rZ 0).length)&&((aA (M.rZ 1).length (M.rZ 1).length)&&((aA (M.rZ 2).length (M.rZ 2).length)&&(bE (M.rZ 3)))))&&true)&&true; (bif aA cg4 0 then (bp z9 z8 fun cg5 N=>(gd ((((aA (N.rZ 0).length (N.rZ 0).length)&&((aA (N.rZ 1).length (N.rZ 1).length)&&((aA (N.rZ 2).length (N.rZ 2).length)&&(bE (N.rZ 3)))))&&true)&&true) (some (none,kp N 0 [.l,.l,.l,.l,.l] (.i (N.nN 5)::.l (N.rZ 6)::.i (N.nN 7)::kp N 8 [.l,.l,.i,.i] []))))) else (bp z9 z8 fun cg6 O=>(gd ((((aA (O.rZ 0).length (O.rZ 0).length)&&((aA (O.rZ 1).length (O.rZ 1).length)&&((aA (O.rZ 2).length (O.rZ 2).length)&&(bE (O.rZ 3)))))&&true)&&true) (some (none,kp O 0 [.l,.l,.l,.l,.l] (.i (O.nN 5)::.l (O.rZ 6)::.i (O.nN 7)::kp O 8 [.l,.l,.i,.i] []))))))) else (bif ((J.iV 3)==4) then (bp z2 (fa (CR (.l z4::kp d 1 [.l,.l,.l,.l] (.i z6::.l (d.rZ 6)::.i z5::kp J 0 [.s,.i,.i,.i,.i,.i,.s,.s,.i,.i,.s,.s,.s,.s,.i] (.l (d.rZ 8)::.i z3.iV::kp d 9 [.l,.i,.i] [.t ((J.iV 3)==4)]))))) fun cg7 U=>(bp ((((aA (U.rZ 0).length (U.rZ 0).length)&&((aA (U.rZ 1).length (U.rZ 1).length)&&((aA (U.rZ 2).length (U.rZ 2).length)&&(bE (U.rZ 3)))))&&true)&&true) (fa (zH (kp U 0 [.l,.l,.l,.l,.l] (.i (U.nN 5)::.l (U.rZ 6)::.i (U.nN 7)::kp U 8 [.s,.i,.i,.i,.i,.i,.s,.s,.i,.i,.s,.s,.s,.s,.i,.l,.i,.l,.i,.i] [])))) fun cg8 W=>let z10:=(fa (zI (kp W 0 [.l,.l,.l,.l,.l] (.i (W.nN 5)::.l (W.rZ 6)::.i (W.nN 7)::kp W 8 [.l,.l,.i,.i] [])))); let z11:=(((aA (W.rZ 0).length (W.rZ 0).length)&&((aA (W.rZ 1).length (W.rZ 1).length)&&((aA (W.rZ 2).length (W.rZ 2).length)&&(bE (W.rZ 3)))))&&true)&&true; (bif aA cg8 0 then (bp z11 z10 fun cg9 Y=>(gd ((((aA (Y.rZ 0).length (Y.rZ 0).length)&&((aA (Y.rZ 1).length (Y.rZ 1).length)&&((aA (Y.rZ 2).length (Y.rZ 2).length)&&(bE (Y.rZ 3)))))&&true)&&true) (some (none,kp Y 0 [.l,.l,.l,.l,.l] (.i (Y.nN 5)::.l (Y.rZ 6)::.i (Y.nN 7)::kp Y 8 [.l,.l,.i,.i] []))))) else (bp z11 z10 fun cg10 g=>(gd ((((aA (g.rZ 0).length (g.rZ 0).length)&&((aA (g.rZ 1).length (g.rZ 1).length)&&((aA (g.rZ 2).length (g.rZ 2).length)&&(bE (g.rZ 3)))))&&true)&&true) (some (none,kp g 0 [.l,.l,.l,.l,.l] (.i (g.nN 5)::.l (g.rZ 6)::.i (g.nN 7)::kp g 8 [.l,.l,.i,.i] [])))))))) else (bp z2 (fa (CR (.l z4::kp d 1 [.l,.l,.l,.l] (.i z6::.l (d.rZ 6)::.i z5::kp J 0 [.s,.i,.i,.i,.i,.i,.s,.s,.i,.i,.s,.s,.s,.s,.i] (.l (d.rZ 8)::.i z3.iV::kp d 9 [.l,.i,.i] [.t ((J.iV 3)==1)]))))) fun cg11 q=>(bp ((((aA (q.rZ 0).length (q.rZ 0).length)&&((aA (q.rZ 1).length (q.rZ 1).length)&&((aA (q.rZ 2).length (q.rZ 2).length)&&(bE (q.rZ 3)))))&&true)&&true) (fa (zH (kp q 0 [.l,.l,.l,.l,.l] (.i (q.nN 5)::.l (q.rZ 6)::.i (q.nN 7)::kp q 8 [.s,.i,.i,.i,.i,.i,.s,.s,.i,.i,.s,.s,.s,.s,.i,.l,.i,.l,.i,.i] [])))) fun cg12 A=>let z12:=(fa (zI (kp A 0 [.l,.l,.l,.l,.l] (.i (A.nN 5)::.l (A.rZ 6)::.i (A.nN 7)::kp A 8 [.l,.l,.i,.i] [])))); let z13:=(((aA (A.rZ 0).length (A.rZ 0).length)&&((aA (A.rZ 1).length (A.rZ 1).length)&&((aA (A.rZ 2).length (A.rZ 2).length)&&(bE (A.rZ 3)))))&&true)&&true; (bif aA cg12 0 then (bp z13 z12 fun cg13 B=>(gd ((((aA (B.rZ 0).length (B.rZ 0).length)&&((aA (B.rZ 1).length (B.rZ 1).length)&&((aA (B.rZ 2).length (B.rZ 2).length)&&(bE (B.rZ 3)))))&&true)&&true) (some (none,kp B 0 [.l,.l,.l,.l,.l] (.i (B.nN 5)::.l (B.rZ 6)::.i (B.nN 7)::kp B 8 [.l,.l,.i,.i] []))))) else (bp z13 z12 fun cg14 F=>(gd ((((aA (F.rZ 0).length (F.rZ 0).length)&&((aA (F.rZ 1).length (F.rZ 1).length)&&((aA (F.rZ 2).length (F.rZ 2).length)&&(bE (F.rZ 3)))))&&true)&&true) (some (none,kp F 0 [.l,.l,.l,.l,.l] (.i (F.nN 5)::.l (F.rZ 6)::.i (F.nN 7)::kp F 8 [.l,.l,.i,.i] []))))))))))))) else (gd (((z7&&((aA (d.rZ 1).length (d.rZ 1).length)&&((aA (d.rZ 2).length (d.rZ 2).length)&&(bE (d.rZ 3)))))&&true)&&true) (some (some 0,kp d 0 [.l,.l,.l,.l,.l] [.i z6,.l (d.rZ 6),.i z5]))))
def aj':bF:=⟨4,[],⟨143,CK,wU⟩,wQ,[⟨.exit 0,⟨143,[(6,.s (.ptr 0 0)),(7,.s (.map 6))],wU⟩,wQ⟩],zJ⟩
def Wc:LT:=Wb.add 0 aj'
def aka:aQ P 0 Wc (bf f90):=lA zG aj_
def CS(d:LG):bk:=
 let g:=(⟨#[]⟩:BY); let q:=aA (d.rZ 1).length (d.rZ 1).length; let B:=bE (d.rZ 3); let F:=aA (d.rZ 2).length (d.rZ 2).length; let z5:=aA (d.rZ 0).length (d.rZ 0).length; let I:=(d.nN 5); let J:=0+(d.iV 9).toNat; (bif (ba (d.iV 9) (d.iV 8)) then (gd (nL (d.iV 9) (lI (d.rZ 1))) (gd (decide (J<(d.rZ 1).length)) (az (Hq [.l [(bu dt ((d.rZ 1).getD J []))]]) fun M=>let A:=((d.rZ 2)++([[.s (gi (da dt (d.rZ 6) (bu dt (M.rV 0)) [.s g,.i 0,.i 0,.i 0,.i 0,.i 0,.s g,.s g,.i 0,.i 0,.s g,.s g,.s g,.s g,.i 0]) 0).sV]]:LL)); (gd (F&&(decide (((d.rZ 2).length+1)<=1048576))) (gd (aM ((d.iV 9)+1)) (gd (((z5&&(q&&((aA A.length A.length)&&B)))&&true)&&(q&&true)) (nQ [.l (d.rZ 0),.l (d.rZ 1),.l A,.l (d.rZ 3),.l (d.rZ 4),.i I,.l (d.rZ 6),.i (d.nN 7),.i (d.iV 8),.i ((d.iV 9)+1)]))))))) else (gd (((z5&&(q&&(F&&B)))&&true)&&true) (some (some 0,kp d 0 [.l,.l,.l,.l,.l] [.i I]))))
def akb:bF:=⟨25,[],⟨143,[(6,.s (.ptr 0 0)),(7,.s (.map 6)),(121,.s (.vQ 2 8)),(122,aD),(123,aD)],wU⟩,wQ,[⟨.exit 3,⟨143,[(6,.s (.ptr 0 0))],[.box [.vQ 1 15,.vQ 2 8,.vQ 3 1,.vQ 4 1,.map 5],.vQ aY 0,.vQ dt 0,.vQ [.str] 0,.vQ [.I] 0,.map (.agg [.str,.I]) (.one (.bool))]⟩,[.aU 6,.cell 0 0,.cell 0 1,.cell 0 2,.cell 0 3,.cell 0 4]⟩],CS⟩
def akc:LT:=Wc.add 0 akb
def akd:aQ P 0 akc (bf f90):=lA zG aka
def Hr(d:LG):Option LG:=
 (az (Hp [.l (d.rZ 0),.i (d.iV 1)]) fun B=>(bp true (bR zJ [.l [],.l [],.l [],.l [],.l [],.i 0,.l [],.i 0,.l (d.rZ 0),.l (B.rZ 0),.i (lI (B.rZ 0)),.i 0]) fun M g=>let F:=MU [.l (g.rZ 1)]; let I:=(lI (g.rZ 1)); (bif (ba 2000 I) then none else (gx ((bE (g.rZ 1))&&F.isSome) F fun A=>let J:=aA (g.rZ 1).length (A.rZ 0).length; (bp ((((aA (g.rZ 0).length (g.rZ 0).length)&&(J&&((aA (g.rZ 2).length (g.rZ 2).length)&&(bE (g.rZ 3)))))&&true)&&(J&&true)) (bR CS (.l (g.rZ 0)::.l (A.rZ 0)::kp g 2 [.l,.l,.l] [.i (g.nN 5),.l (g.rZ 6),.i (g.nN 7),.i I,.i 0])) fun N q=>(gd ((((aA (q.rZ 0).length (q.rZ 0).length)&&((aA (q.rZ 1).length (q.rZ 1).length)&&((aA (q.rZ 2).length (q.rZ 2).length)&&(bE (q.rZ 3)))))&&true)&&true) (some (kp q 0 [.l,.l,.l,.l,.l] [.i (q.nN 5),.i 0]))))))))
def ake:aI:=⟨90,oC,[],[],zh,jx,qV,[],Hr⟩
def t62:ar:=t61.df ake
def akf:aw P t62:=tW zG func90 akd

def MV(d:LG):Option LG:=
 some [.l [[.s (⟨#[]⟩:BY)],[.s (⟨#[99,111,100,101]⟩:BY)],[.s (⟨#[118,111,105,99,101]⟩:BY)],[.s (⟨#[100,97,116,97]⟩:BY)]]]
def akg:aI:=⟨136,[],[],[],sB,[],[],[],MV⟩
def t63:ar:=t62.bx akg
def akh:aw P t63:=cU akf func136

def zK(d:LG):Option LG:=
 (bif ((d.sV 0).toList==(⟨#[]⟩:BY).toList) then some [.s (⟨#[45]⟩:BY)] else some [.s (d.sV 0)])
def aki:aI:=⟨93,[bY],[],[],[bY],[],[],[],zK⟩
def t64:ar:=t63.bx aki
def akj:aw P t64:=cU akh func93

def t65:ar:=t64.fx P 188 f188
def Wd:aw P t65:=akj.fx hm func188 aj aj

def Ht(d:LG):bk:=
 let g:=gi ((d.rZ 8).gR (d.iV 10)) 4; let B:=(gi (da [.I] (d.rZ 6) [.i g.iV] [.i 0]) 0).iV+1; let A:=(d.nN 5); let q:=(d.iV 10)+1; let z5:=(d.nN 7); (bif (ba (d.iV 10) (d.iV 9)) then (gd (nL (d.iV 10) (lI (d.rZ 8))) (bif (ba 0 g.iV) then (gd (aM B) (gd (aM q) (some (none,kp d 0 [.l,.l,.l,.l,.l] [.i A,.l (cH [.I] (d.rZ 6) [.i g.iV] [.i B] (d.iV 7).toNat),.i (((dI [.I] (d.rZ 6) [.i g.iV] (d.iV 7).toNat):Nat):Int),.l (d.rZ 8),.i (d.iV 9),.i q])))) else (gd (aM q) (some (none,kp d 0 [.l,.l,.l,.l,.l] [.i A,.l (d.rZ 6),.i z5,.l (d.rZ 8),.i (d.iV 9),.i q]))))) else some (some 0,kp d 0 [.l,.l,.l,.l,.l] [.i A,.l (d.rZ 6),.i z5]))
def akk:bF:=⟨3,[],⟨26,[(3,.s (.map 2)),(10,kG),(11,aD),(12,aD)],CJ⟩,zk,[⟨.exit 0,⟨26,[(3,.s (.map 2))],CJ⟩,zk⟩],Ht⟩
def akl:LT:=bz.add 2 akk
def akm:aQ P 2 akl (bf f101):=lA Wd (bN _ _ _)
def sH(d:LG):Option LG:=
 (bp true (bR Ht (kp d 0 [.l,.l,.l,.l,.l] [.i (d.nN 5),.l [],.i 0,.l (d.rZ 1),.i (lI (d.rZ 1)),.i 0])) fun q g=>some (kp g 0 [.l,.l,.l,.l,.l] [.i (g.nN 5),.l (g.rZ 6),.i (g.nN 7)]))
def MW:aI:=⟨101,oB,jx,qV,[.s (.map 2)],CJ,GO,[],sH⟩
def t66:ar:=t65.df MW
def We:aw P t66:=tW Wd func101 akm

def w6(r d:LG):Option LG:=
 let g:=(gi (da [.I] (d.rZ 6) [.i (gi (r.rV 0) 1).iV] [.i 0]) 0).iV+1; (gd (aM g) (some (kp d 0 [.l,.l,.l,.l,.l] [.i (d.nN 5),.l (cH [.I] (d.rZ 6) [.i (gi (r.rV 0) 1).iV] [.i g] (d.iV 7).toNat),.i (((dI [.I] (d.rZ 6) [.i (gi (r.rV 0) 1).iV] (d.iV 7).toNat):Nat):Int),.i (d.nN 8)])))
def akn(d:LG)(b:Nat):LG:=(kp d 0 [.l,.l,.l,.l,.l] [.i (d.nN 5),.l (d.rZ 6),.i (d.nN 7),.i (b:Int)])
def ako(d:LG)(b:Nat):Bool:=true
def w7:gp:=⟨⟨21,[(3,.s (.map 2)),(10,wN)],CJ⟩,[.fix 0,.cell 0 4,.aU 3],[],(.agg [.str,.I]),(.one (.bool)),1,0,9,10,11,12,13,fun d=>(gi d 8).iV.toNat,akn,ako,w6⟩
def akp:kW P t66 bz 2 w7 (om (bS f102 2)) (qM (bS f102 2)):=fun r d=>by kernel_rfl
def akq:∀r d g,w6 r d=some g->(gi g 4).rZ=(gi d 4).rZ/\(gi g 5).iV.toNat=(gi d 5).iV.toNat:=by
 intro r d g h;unfold w6 at h;simp only[Bool.cond_eq_ite]at h
 repeat' split at h
 all_goals first|(cases h; done)|(cases h; exact⟨rfl,rfl⟩)
def sI(d:LG):Option LG:=some [.l (gi d 0).rZ,.l (gi d 1).rZ,.l (gi d 2).rZ,.l (gi d 3).rZ,.l (gi d 4).rZ,.i (((gi d 5).iV.toNat:Nat):Int),.l (gi d 6).rZ,.i (((gi d 7).iV.toNat:Nat):Int)]
def nt(d:LG):LG:=(kp d 0 [.l,.l,.l,.l,.l] [.i (d.nN 5),.l [],.i 0])
def q_:aI:=⟨102,oB,jx,qV,[.s (.map 2)],CJ,GO,[],fun _=>none⟩
def Wf:∀d,gq ((gi (nt d) 4).rZ) ((gi (nt d) 5).iV.toNat)=true->(∀b p,p.Perm ((gi (nt d) 4).rZ)->(qS w7 sI (nt d) b p).isSome=true)->jZ P q_ d (Gs w7 sI ((gi (nt d) 4).rZ) (nt d)) id:=fun d aV g=>aeM (rs:=w7) (sp:=q_) hm We func102 aj (ra:=yY f102) (rb:=Tb f102) (rest:=sf (bS f102 2)) (rbody:=qM (bS f102 2)) (r0:=2) (b0:=0) (r1:=3) (b1:=1) (r2:=4) (bq:=mH (bS f102 2)) (bD:=Ca (bS f102 2)) (br:=om (bS f102 2)) aj (inv:=⟨21,[(0,.s (.ptr 0 0)),(3,.s (.map 2))],[.box [.list aY,.list dt,.list [.str],.list [.I],.map 1],.map (.agg [.str,.I]) (.one (.bool)),.map (.one .I) (.one .I)]⟩) (ps:=[.fix 0,.cell 0 4,.aU 3]) (ini:=nt) (ri:=fun d=>(gi d 4).rZ) (rZ:=fun d=>(gi d 4).rZ) (ci:=fun d=>(gi d 5).iV.toNat) (aL:=fun d=>(gi d 5).iV.toNat) (fun d=>by kernel_rfl) (fun d=>by kernel_rfl) akq aj aj akp (fun d=>by kernel_rfl) (fun d=>by kernel_rfl) (fun d=>by kernel_rfl) (pre:=fun d=>Cb P t66 (mH (bS f102 2)) (aX ⟨21,[(0,.s (.ptr 0 0)),(3,.s (.map 2))],[.box [.list aY,.list dt,.list [.str],.list [.I],.map 1],.map (.agg [.str,.I]) (.one (.bool)),.map (.one .I) (.one .I)]⟩ d)) (fun d=>by kernel_rfl) (fun d=>by kernel_rfl) (fun d=>by kernel_rfl) (fun d b=>by kernel_rfl) (fun d b=>rfl) (fun d b=>⟨rfl,rfl⟩) (tl:=sI) (fun d=>by kernel_rfl) aV g
def t67:ar:=t66
def Hu:aw P t67:=We

def zL(d:LG):bk:=
 let g:=(d.nN 5); let q:=(d.iV 10)+1; let A:=(d.nN 7); let B:=(d.nN 9); (bif (cw (d.iV 10) 99999) then (bif ((gi (da [.I] (d.rZ 6) [.i (d.iV 10)] [.i 0]) 0).iV==0) then (bif ((gi (da [.I] (d.rZ 8) [.i (d.iV 10)] [.i 0]) 0).iV==0) then some (some 0,kp d 0 [.l,.l,.l,.l,.l] [.i g,.i (d.iV 10),.i 0]) else (gd (aM q) (some (none,kp d 0 [.l,.l,.l,.l,.l] [.i g,.l (d.rZ 6),.i A,.l (d.rZ 8),.i B,.i q])))) else (gd (aM q) (some (none,kp d 0 [.l,.l,.l,.l,.l] [.i g,.l (d.rZ 6),.i A,.l (d.rZ 8),.i B,.i q])))) else some (some 1,kp d 0 [.l,.l,.l,.l,.l] [.i g]))
def akr:bF:=⟨3,[],⟨26,[(4,.s (.map 2)),(5,.s (.map 3)),(6,aD)],[.box [.list aY,.list dt,.list [.str],.list [.I],.map 1],.map (.agg [.str,.I]) (.one (.bool)),.map (.one .I) (.one .I),.map (.one .I) (.one .I)]⟩,[.fix 0,.cell 0 4,.aU 4,.aU 5],[⟨.ret,⟨26,[(2,aD),(3,aD)],jx⟩,GP⟩,⟨.exit 0,⟨26,[],jx⟩,GP⟩],zL⟩
def Wg:LT:=bz.add 2 akr
def aks:aQ P 2 Wg (bf f55):=lA Hu (bN _ _ _)
def MX(d:LG):LG:=(kp d 0 [.l,.l,.l,.l,.l] [.i (d.nN 5)])
def Hv(d g:LG):LG:=(kp g 0 [.l,.l,.l,.l,.l] [.i (g.nN 5)])
def Hw(d A q:LG):Option LG:=
 (bp true (bR zL (kp q 0 [.l,.l,.l,.l,.l] [.i (q.nN 5),.l (A.rZ 6),.i (A.nN 7),.l (q.rZ 6),.i (q.nN 7),.i 1])) fun F g=>let B:=(g.nN 5); (bif aA F 0 then some (kp g 0 [.l,.l,.l,.l,.l] [.i B,.i (g.iV 6),.i (g.iV 7)]) else some (kp g 0 [.l,.l,.l,.l,.l] [.i B,.i 0,.i 12])))
def zM(d:LG):Option LG:=az (sH (MX d)) fun g=>yZ w7 sI ((gi (nt (Hv d g)) 4).rZ) ((gi (nt (Hv d g)) 5).iV.toNat) (nt (Hv d g)) fun q=>Hw d g q
def w9:aI:=⟨55,oB,jx,qV,[aD,aD],jx,uI,[],zM⟩
def pW(d g:LG):aH:=sL P (t67.df { MW with F:=fun _=>some g }) f55 w9 3 d
def akt:∀d,(db P t67 bz (yY f55) ⟨gD (w9.dR d) (f55).ntmps,w9.H0 d⟩ fun x s=>match x with | .normal=>fY P t67 (k8 f55) ((k8 f55).toList.take 3) s fun s=>.done .normal s|_=>.fail).leaf yX=az (sH (MX d)) fun g=>some (pW d g):=fun d=>by kernel_rfl
def aku:∀d g e,(fY P t67 (k8 f55) ((k8 f55).toList.drop 4) ⟨(pW d g).fr.set 10 (lF q_ (uB f55 3 (pW d g)) (pW d g).H e).1,(lF q_ (uB f55 3 (pW d g)) (pW d g).H e).2⟩ fun s=>db P t67 Wg (Gr f55) s .done).leaf (iw P (f55).results.toList w9)=Hw d g e:=fun d g e=>by kernel_rfl
def akv:∀d g,g_ (pW d g).au.eval (Cu f55 3).op=some (q_.f,(uB f55 3 (pW d g))):=fun d g=>by kernel_rfl
def akw:∀d g,Cs q_ (uB f55 3 (pW d g)) (pW d g).H=some (true,Hv d g):=fun d g=>by kernel_rfl
def akx:ff P w9:=fun d r h=>by
 have h:zM d=some r:=h;unfold zM at h;obtain⟨g,hs,h⟩:=Tc h;obtain⟨aV,q,A⟩:=Te h;exact Td (sp:=w9) hm Hu Hu func55 aj (iH.pK (Wf _ aV q)) aj aj (r0:=yY f55) (id:=1) (ah:=k8 f55) (rest:=Gr f55) aj aks (l1:=(k8 f55).toList.take 3) (oc:=Cu f55 3) (l2:=(k8 f55).toList.drop 4) aj aj (t:=10) aj (S1:=pW d g) ((akt d).trans (by rw[hs]; rfl)) (akv d g) (akw d g) (tl:=Hw d g) (aku d g) A
def t68:ar:=t67.df w9
def aky:aw P t68:=Hu.aW akx

def t69:ar:=t68.fx P 139 f139
def Wh:aw P t69:=aky.fx hm func139 aj aj

def w_(d:LG):Option LG:=
 (az (kF [.s (gi (d.rV 0) 0).sV,.s (gi (d.rV 1) 0).sV]) fun g=>(az (uM [.i (gi (d.rV 0) 1).iV,.i (gi (d.rV 1) 1).iV]) fun q=>(az (qZ [.l [[.i (g.iV 0)],[.i (q.iV 0)]]]) fun A=>some [.i (A.iV 0)])))
def Wi:aI:=⟨140,T0,[],[],[aD],[],[],[],w_⟩
def Wj:ff P Wi:=zf hm Wh func140 (bN _ _ _) (fun d=>by kernel_rfl)
def t70:ar:=t69.bx Wi
def akz:aw P t70:=Wh.aP Wj

def Hx(d:LG):Option LG:=
 sr w_ d
def Wk:aI:=⟨190,[.s (.vQ 0 2),.s (.fn 140)],GQ,gH,[],GQ,ep,[],Hx⟩
def akA:ff P Wk:=fun d r h=>F9 Tryz.afN [.str,.I] aj isAgg85 sizeOf85 140 aj w_ (fun d r h=>Wj d r h) d r h
def t71:ar:=t70.df Wk
def zN:aw P t71:=akz.aW akA

def akB:Gm P (.agg [.str,.I]) 191:=S0 zN func191 aj rfl rfl rfl ⟨_,_,_,rfl,⟨rfl,rfl,rfl⟩,⟨rfl,rfl,rfl⟩,aj,aj⟩ ⟨_,_,rfl,rfl,rfl,rfl,rfl,rfl,rfl⟩ ⟨_,_,rfl,rfl,rfl,rfl⟩ ⟨_,_,_,_,_,_,rfl,⟨rfl,rfl,rfl⟩,⟨rfl,rfl,rfl⟩⟩ (s2:=jY P t71 (.agg [.str,.I]) (Gq f191)) (s3:=fun l it g=>oh P t71 (S8 f191) (jY P t71 (.agg [.str,.I]) (Gq f191) l it g)) (fun l it g=>by kernel_rfl) (fun l it g=>by kernel_rfl) (fun l it g=>by kernel_rfl) (fun l it g=>by kernel_rfl) (fun l it g=>by kernel_rfl) (fun l it g=>by kernel_rfl) (fun l it g=>by kernel_rfl)
def MY(r:LG):LG:=[.s (gi (gi r 0).rV 0).sV,.i (gi (gi r 0).rV 1).iV]
def oE(d:LG)(p:LL):LG:=[.l (jK d),.i ((qR d:Nat):Int),.l (p.map MY)]
def MZ(r d:LG):Option LG:=
 let z:=((gi d 2).rZ++([[.s (gi r 0).sV,.i (gi r 1).iV]]:LL)); bif ((aA (gi d 2).rZ.length (gi d 2).rZ.length)&&(decide ((gi d 2).rZ.length+1<=1048576))) then (gd (((bE z)&&true)&&true) (some [.l (gi d 0).rZ,.i (((gi d 1).iV.toNat:Nat):Int),.l z])) else none
def akC:∀d p r,p.length<1048576->MZ (gi r 0).rV (oE d p)=some (oE d (p++[r])):=fun d p r h=>by
 have g:p.length+1<=1048576:=h;simp[MZ,oE,MY,gi,G.rZ,G.iV,g]
def Hy(e:LG):Option LG:=bif (aA (gi e 2).rZ.length (gi e 2).rZ.length&&true) then some [.l (gi e 0).rZ,.i (((gi e 1).iV.toNat:Nat):Int),.l (gi e 2).rZ] else none
def Wl:∀d p,Hy (oE d p)=some (oE d p):=fun d p=>by simp[Hy,oE,gi,G.rZ,G.iV]
def M0:aI:=⟨255,[.s .nil,.clo 191 [.ptr 0 0]],[.box [.map 1],.map (.agg [.str,.I]) (.one (.bool))],[.cap 1 0,.cell 0 0],[.s (.vQ 2 2)],[.box [.map 1],.map (.agg [.str,.I]) (.one (.bool)),.vQ [.str,.I] 0],[.fix 0,.fix 1,.aU 0],[],fun _=>none⟩
def akD:∀d,nr d=true->jZ P M0 d (fun p=>p.Perm (jK d)) (oE d):=fun d aV=>S9 (V:=(.one (.bool))) (sp:=M0) (fn:=f255) (L0:=bz.np [(1,[.jX 2 0 [.str,.I]])]) hm zN akB (fun _ _=>uq _) func255 aj aj (r0:=S3 f255) (r1:=S4 f255) (assign:=S5 f255) (body:=S6 f255) (rest:=S7 f255) (b:=0) (g:=6) (p0:=7) aj aj (inv:=⟨13,[(2,.s (.ptr 2 0))],[.box [.map 1],.map (.agg [.str,.I]) (.one (.bool)),.box [.vQ 3 2],.vQ [.str,.I] 0]⟩) (ps:=[.fix 0,.fix 1,.fix 2,.cell 2 0]) (psr:=[.fix 0,.fix 1,.fix 2,.cell 2 0]) (pre:=S2 P t71 (bz.np [(1,[.jX 2 0 [.str,.I]])]) f255 M0) (D:=oE) (st:=MZ) (tl:=Hy) (R:=oE) (fun d=>by kernel_rfl) (fun d=>by kernel_rfl) (fun d=>by kernel_rfl) (fun d=>by kernel_rfl) (fun d=>by kernel_rfl) (fun d=>by kernel_rfl) (fun d p=>by kernel_rfl) (fun r d=>by kernel_rfl) akC (fun d=>by kernel_rfl) Wl aV
def Wm:aI:=⟨189,[.clo 191 [.ptr 0 0]],[.box [.map 1],.map (.agg [.str,.I]) (.one (.bool))],[.cap 0 0,.cell 0 0],[.s (.vQ 2 2)],[.box [.map 1],.map (.agg [.str,.I]) (.one (.bool)),.vQ [.str,.I] 0],[.fix 0,.fix 1,.aU 0],[],fun _=>none⟩
def akE:∀d,nr d=true->jZ P Wm d (fun p=>p.Perm (jK d)) (oE d):=Ta hm zN func189 aj akD aj rfl (l1:=[_]) (l2:=[_]) rfl rfl rfl (s1:=Gp P t71 f189 Wm) (fun d=>by kernel_rfl) (fun d=>by kernel_rfl) (fun d=>by kernel_rfl) (tl:=Hy) (fun d e=>by kernel_rfl) Wl
def M1(e:LG):Option LG:=gx ((aA (e.rZ 2).length (e.rZ 2).length&&true)&&(Hx [.l (e.rZ 2)]).isSome) (Hx [.l (e.rZ 2)]) fun g=>bif (aA (e.rZ 2).length (g.rZ 0).length&&true) then some [.l (e.rZ 0),.i (e.nN 1),.l (g.rZ 0)] else none
def Hz(d:LG):Option LG:=yW oE M1 d
def M2:aI:=⟨138,[.clo 191 [.ptr 0 0],.s (.fn 140)],[.box [.map 1],.map (.agg [.str,.I]) (.one (.bool))],[.cap 0 0,.cell 0 0],[.s (.vQ 2 2)],[.box [.map 1],.map (.agg [.str,.I]) (.one (.bool)),.vQ [.str,.I] 0],GO,[],Hz⟩
def akF:ff P M2:=S_ hm zN zN func138 aj akE aj rfl (l1:=[_]) (l2:=[_]) rfl rfl rfl (s1:=Gp P t71 f138 M2) (fun d=>by kernel_rfl) (fun d=>by kernel_rfl) (fun d=>by kernel_rfl) (tl:=M1) (fun d e=>by kernel_rfl) (fun _=>rfl)
def t72:ar:=t71.df M2
def Wn:aw P t72:=zN.aW akF

def HA(d:LG):bk:=
 let q:=(d.rZ 7).getD (0+(d.iV 9).toNat) []; let A:=aA (d.rZ 6).length (d.rZ 6).length; let B:=(d.nN 5); (bif (ba (d.iV 9) (d.iV 8)) then (gd (nL (d.iV 9) (lI (d.rZ 7))) (gd (decide ((0+(d.iV 9).toNat)<(d.rZ 7).length)) (az (gz [.i (q.iV 1)]) fun F=>let g:=((d.rZ 6)++([[.s (q.sV 0),.s (F.sV 0)]]:LL)); (gd (A&&(decide (((d.rZ 6).length+1)<=1048576))) (gd (aM ((d.iV 9)+1)) (gd ((aA g.length g.length)&&(bE (d.rZ 7))) (some (none,kp d 0 [.l,.l,.l,.l,.l] [.i B,.l g,.l (d.rZ 7),.i (d.iV 8),.i ((d.iV 9)+1)])))))))) else (gd (A&&true) (some (some 0,kp d 0 [.l,.l,.l,.l,.l] [.i B,.l (d.rZ 6)]))))
def akG:bF:=⟨4,[(4,[.str,.str])],⟨30,[(4,.s (.vQ 2 2)),(13,.s (.vQ 3 2)),(14,aD),(15,aD)],[.box [.list aY,.list dt,.list [.str],.list [.I],.map 1],.map (.agg [.str,.I]) (.one (.bool)),.vQ [.str,.str] 0,.vQ [.str,.I] 0]⟩,[.fix 0,.cell 0 4,.aU 4,.aU 13],[⟨.exit 0,⟨30,[(4,.s (.vQ 2 2))],[.box [.list aY,.list dt,.list [.str],.list [.I],.map 1],.map (.agg [.str,.I]) (.one (.bool)),.vQ [.str,.str] 0]⟩,[.fix 0,.cell 0 4,.aU 4]⟩],HA⟩
def akH:LT:=bz.add 2 akG
def akI:aQ P 2 akH (bf f95):=lA Wn (bN _ _ _)
def HB(d:LG):Option LG:=
 (az (Hz [.l (d.rZ 4),.i (d.nN 5)]) fun g=>(bp (bE (g.rZ 2)) (bR HA (kp d 0 [.l,.l,.l,.l] [.l (g.rZ 0),.i (g.nN 1),.l [],.l (g.rZ 2),.i (lI (g.rZ 2)),.i 0])) fun A q=>(gd (bE (q.rZ 6)) (some (kp q 0 [.l,.l,.l,.l,.l] [.i (q.nN 5),.l (q.rZ 6)])))))
def akJ:aI:=⟨95,oB,jx,qV,CF,jx,uI,[],HB⟩
def t73:ar:=t72.df akJ
def akK:aw P t73:=tW Wn func95 akI

def M3(d:LG):Option LG:=
 Ma d
def Wo:aI:=⟨141,[.s (.map 0)],[.map (.one .I) (.one .I)],gH,[.s (.map 1)],[.map (.one .I) (.one .I),.map (.one .I) (.one .I)],[.fix 0,.aU 0],[],M3⟩
def akL:ff P Wo:=fun d r h=>aeN Tryz.afR (.one .I) (.one .I) d r h
def t74:ar:=t73.df Wo
def akM:aw P t74:=akK.aW akL

def t75:ar:=t74.fx P 143 f143
def akN:aw P t75:=akM.fx hm func143 aj aj

def zO(d:LG):Option LG:=
 F' d
def Wp:aI:=⟨110,GK,mM,gH,[],mM,ep,[],zO⟩
def akO:ff P Wp:=fun d r h=>aeh Tryz.afP d r h
def t76:ar:=t75.df Wp
def zP:aw P t76:=akN.aW akO

def akP:Gm P (.one .I) 194:=S0 zP func194 aj rfl rfl rfl ⟨_,_,_,rfl,⟨rfl,rfl,rfl⟩,⟨rfl,rfl,rfl⟩,aj,aj⟩ ⟨_,_,rfl,rfl,rfl,rfl,rfl,rfl,rfl⟩ ⟨_,_,rfl,rfl,rfl,rfl⟩ ⟨_,_,_,_,_,_,rfl,⟨rfl,rfl,rfl⟩,⟨rfl,rfl,rfl⟩⟩ (s2:=jY P t76 (.one .I) (Gq f194)) (s3:=fun l it g=>oh P t76 (S8 f194) (jY P t76 (.one .I) (Gq f194) l it g)) (fun l it g=>by kernel_rfl) (fun l it g=>by kernel_rfl) (fun l it g=>by kernel_rfl) (fun l it g=>by kernel_rfl) (fun l it g=>by kernel_rfl) (fun l it g=>by kernel_rfl) (fun l it g=>by kernel_rfl)
def M4(r:LG):LG:=[.i (gi (gi r 0).rV 0).iV]
def oG(d:LG)(p:LL):LG:=[.l (jK d),.i ((qR d:Nat):Int),.l (p.map M4)]
def M5(r d:LG):Option LG:=
 let z:=((gi d 2).rZ++([[.i (gi r 0).iV]]:LL)); bif ((aA (gi d 2).rZ.length (gi d 2).rZ.length)&&(decide ((gi d 2).rZ.length+1<=1048576))) then (gd (((bE z)&&true)&&true) (some [.l (gi d 0).rZ,.i (((gi d 1).iV.toNat:Nat):Int),.l z])) else none
def akQ:∀d p r,p.length<1048576->M5 (gi r 0).rV (oG d p)=some (oG d (p++[r])):=fun d p r h=>by
 have g:p.length+1<=1048576:=h;simp[M5,oG,M4,gi,G.rZ,G.iV,g]
def HC(e:LG):Option LG:=bif (aA (gi e 2).rZ.length (gi e 2).rZ.length&&true) then some [.l (gi e 0).rZ,.i (((gi e 1).iV.toNat:Nat):Int),.l (gi e 2).rZ] else none
def Wq:∀d p,HC (oG d p)=some (oG d p):=fun d p=>by simp[HC,oG,gi,G.rZ,G.iV]
def M6:aI:=⟨257,[.s .nil,.clo 194 [.ptr 0 0]],[.box [.map 1],.map (.one .I) (.one .I)],[.cap 1 0,.cell 0 0],[.s (.vQ 2 1)],[.box [.map 1],.map (.one .I) (.one .I),.vQ [.I] 0],[.fix 0,.fix 1,.aU 0],[],fun _=>none⟩
def akR:∀d,nr d=true->jZ P M6 d (fun p=>p.Perm (jK d)) (oG d):=fun d aV=>S9 (V:=(.one .I)) (sp:=M6) (fn:=f257) (L0:=bz.np [(1,[.jX 2 0 [.I]])]) hm zP akP (fun _ _=>uq _) func257 aj aj (r0:=S3 f257) (r1:=S4 f257) (assign:=S5 f257) (body:=S6 f257) (rest:=S7 f257) (b:=0) (g:=6) (p0:=7) aj aj (inv:=⟨13,[(2,.s (.ptr 2 0))],[.box [.map 1],.map (.one .I) (.one .I),.box [.vQ 3 1],.vQ [.I] 0]⟩) (ps:=[.fix 0,.fix 1,.fix 2,.cell 2 0]) (psr:=[.fix 0,.fix 1,.fix 2,.cell 2 0]) (pre:=S2 P t76 (bz.np [(1,[.jX 2 0 [.I]])]) f257 M6) (D:=oG) (st:=M5) (tl:=HC) (R:=oG) (fun d=>by kernel_rfl) (fun d=>by kernel_rfl) (fun d=>by kernel_rfl) (fun d=>by kernel_rfl) (fun d=>by kernel_rfl) (fun d=>by kernel_rfl) (fun d p=>by kernel_rfl) (fun r d=>by kernel_rfl) akQ (fun d=>by kernel_rfl) Wq aV
def Wr:aI:=⟨193,[.clo 194 [.ptr 0 0]],[.box [.map 1],.map (.one .I) (.one .I)],[.cap 0 0,.cell 0 0],[.s (.vQ 2 1)],[.box [.map 1],.map (.one .I) (.one .I),.vQ [.I] 0],[.fix 0,.fix 1,.aU 0],[],fun _=>none⟩
def akS:∀d,nr d=true->jZ P Wr d (fun p=>p.Perm (jK d)) (oG d):=Ta hm zP func193 aj akR aj rfl (l1:=[_]) (l2:=[_]) rfl rfl rfl (s1:=Gp P t76 f193 Wr) (fun d=>by kernel_rfl) (fun d=>by kernel_rfl) (fun d=>by kernel_rfl) (tl:=HC) (fun d e=>by kernel_rfl) Wq
def M7(e:LG):Option LG:=gx ((aA (e.rZ 2).length (e.rZ 2).length&&true)&&(zO [.l (e.rZ 2)]).isSome) (zO [.l (e.rZ 2)]) fun g=>bif (aA (e.rZ 2).length (g.rZ 0).length&&true) then some [.l (e.rZ 0),.i (e.nN 1),.l (g.rZ 0)] else none
def HD(d:LG):Option LG:=yW oG M7 d
def M8:aI:=⟨142,[.clo 194 [.ptr 0 0]],[.box [.map 1],.map (.one .I) (.one .I)],[.cap 0 0,.cell 0 0],[.s (.vQ 2 1)],[.box [.map 1],.map (.one .I) (.one .I),.vQ [.I] 0],GO,[],HD⟩
def akT:ff P M8:=S_ hm zP zP func142 aj akS aj rfl (l1:=[_]) (l2:=[_]) rfl rfl rfl (s1:=Gp P t76 f142 M8) (fun d=>by kernel_rfl) (fun d=>by kernel_rfl) (fun d=>by kernel_rfl) (tl:=M7) (fun d e=>by kernel_rfl) (fun _=>rfl)
def t77:ar:=t76.df M8
def Ws:aw P t77:=zP.aW akT

def Wt(d:LG):bk:=
 let A:=bu dt ((d.rZ 1).gR (d.iV 3)); let q:=(d.iV 3)-1; let g:=(d.iV 3)+1; (bif (ba (d.iV 3) (d.iV 2)) then (gd (nL (d.iV 3) (lI (d.rZ 1))) (az (wW [.l [A]]) fun B=>(bif ((B.iV 0) != 0) then eQ [.i (B.iV 0)] else (bif (ba 0 (d.iV 3)) then (gd (aM q) (gd (nL q (lI (d.rZ 0))) (az (uN [.l [(bu dt ((d.rZ 0).gR q))],.l [A]]) fun F=>(bif (cw 0 (F.iV 0)) then eQ [.i 7] else (gd (aM g) (some (none,kp d 0 [.l,.l,.i] [.i g]))))))) else (gd (aM g) (some (none,kp d 0 [.l,.l,.i] [.i g]))))))) else eR [])
def akU:bF:=⟨4,[],⟨34,[(0,kG),(9,kG),(10,aD),(11,aD)],[]⟩,[],[⟨.ret,⟨34,zo,[]⟩,[]⟩,⟨.exit 0,⟨34,[],[]⟩,[]⟩],Wt⟩
def akV:LT:=bz.add 0 akU
def akW:aQ P 0 akV (bf f195):=lA Ws (bN _ _ _)
def M9(d:LG):Option LG:=
 let g:=(lI (d.rZ 0)); (bif (ba 2000 g) then some [.i 2] else (bp true (bR Wt [.l (d.rZ 0),.l (d.rZ 0),.i g,.i 0]) fun q A=>(bif aA q 0 then some [.i (A.iV 0)] else some [.i 0])))
def akX:aI:=⟨195,[kG],[],[],[aD],[],[],[],M9⟩
def t78:ar:=t77.bx akX
def akY:aw P t78:=tP Ws func195 akW

def HF(d:LG):Option LG:=
 (az (GW [.s (d.sV 0)]) fun g=>some [.s (gi (g.rV 0) 0).sV])
def akZ:aI:=⟨258,[bY],[],[],[bY],[],[],[],HF⟩
def t79:ar:=t78.bx akZ
def Wu:aw P t79:=cU akY func258

def CT(d:LG):bk:=
 let g:=(d.rZ 3).gR (d.iV 5); let F:=((d.rZ 2)++([[.i (d.iV 5)]]:LL)); let A:=aA (d.rZ 2).length (d.rZ 2).length; let q:=(d.iV 5)+1; (bif (ba (d.iV 5) (d.iV 4)) then (gd (nL (d.iV 5) (lI (d.rZ 3))) (az (HF [.s (g.sV 3)]) fun B=>let z5:=(((dI lG (d.rZ 0) [.s (B.sV 0),.s (g.sV 2),.i (g.iV 1)] (d.iV 1).toNat):Nat):Int); let I:=cH lG (d.rZ 0) [.s (B.sV 0),.s (g.sV 2),.i (g.iV 1)] [.t true] (d.iV 1).toNat; (bif (gi (da lG (d.rZ 0) [.s (B.sV 0),.s (g.sV 2),.i (g.iV 1)] [.t false]) 0).bV then (gd (A&&(decide (((d.rZ 2).length+1)<=1048576))) (gd (aM q) (gd (bE F) (nQ [.l I,.i z5,.l F,.l (d.rZ 3),.i (d.iV 4),.i q])))) else (gd (aM q) (gd (A&&true) (some (none,.l I::.i z5::kp d 2 [.l,.l,.i] [.i q]))))))) else (gd (A&&true) (eQ [.l (d.rZ 2)])))
def ak0:bF:=⟨4,[(4,[.I])],⟨35,[(3,.s (.map 0)),(4,.s (.vQ 1 1)),(9,kG),(10,aD),(11,aD)],[.map (.agg lG) (.one (.bool)),.vQ [.I] 0]⟩,[.aU 3,.aU 4],[⟨.exit 0,⟨35,[(4,.s (.vQ 0 1))],mM⟩,wP⟩],CT⟩
def ak1:LT:=(bz.np [(6,[.hole lG])]).add 0 ak0
def ak2:aQ P 0 ak1 (bf f196):=lA Wu (uq _)
def HG(d:LG):Option LG:=
 (bp true (bR CT [.l [],.i 0,.l [],.l (d.rZ 0),.i (lI (d.rZ 0)),.i 0]) fun q g=>(gd (bE (g.rZ 0)) (some [.l (g.rZ 0)])))
def ak3:aI:=⟨196,[kG],[],[],[gV],[],[],[],HG⟩
def t80:ar:=t79.bx ak3
def ak4:aw P t80:=tP Wu func196 ak2

def HI(d:LG):Option LG:=
 (az (M9 [.l (d.rZ 0)]) fun g=>(bif ((g.iV 0) != 0) then some [.l [],.i (g.iV 0)] else (az (HG [.l (d.rZ 0)]) fun q=>some [.l (q.rZ 0),.i 0])))
def ak5:aI:=⟨145,[kG],[],[],[gV,aD],[],[],[],HI⟩
def t81:ar:=t80.bx ak5
def ak6:aw P t81:=cU ak4 func145

def M_(d:LG):Option LG:=
 (az (HI [.l (d.rZ 1)]) fun g=>some (kp d 0 [.l,.l,.l,.l,.l] [.i (d.nN 5),.l (g.rZ 0)]))
def ak7:aI:=⟨98,oB,jx,qV,[gV],jx,uI,[],M_⟩
def t82:ar:=t81.df ak7
def ak8:aw P t82:=pS ak6 func98

def oH(d:LG):Option LG:=
 (bif (cw (d.iV 1) (d.iV 0)) then some [.t (cw (d.iV 0) (d.iV 2))] else some [.t false])
def ak9:aI:=⟨51,[aD,aD,aD],[],[],[dY],[],[],[],oH⟩
def t83:ar:=t82.bx ak9
def Wv:aw P t83:=cU ak8 func51

def HJ(d:LG):bk:=
 (bif (ba (d.iV 3) (d.iV 2)) then (gd (nL (d.iV 3) (((d.sV 0).size:Nat):Int)) (az (CG [.s (d.sV 1),.i (((d.sV 0).data.toList.getD ((d.iV 3).toNat) 0).toNat:Int)]) fun g=>(bif (ba (g.iV 0) 0) then eQ [.t false] else (gd (aM ((d.iV 3)+1)) (some (none,kp d 0 [.s,.s,.i] [.i ((d.iV 3)+1)])))))) else eR [])
def ak_:bF:=⟨2,[],⟨18,[(0,bY),(1,bY),(7,aD),(8,aD)],[]⟩,[],[⟨.ret,⟨18,[(4,dY)],[]⟩,[]⟩,⟨.exit 0,⟨18,[],[]⟩,[]⟩],HJ⟩
def ak':LT:=bz.add 0 ak_
def ala:aQ P 0 ak' (bf f71):=lA Wv (bN _ _ _)
def zQ(d:LG):Option LG:=
 (bp true (bR HJ [.s (d.sV 0),.s (d.sV 1),.i (((d.sV 0).size:Nat):Int),.i 0]) fun g q=>(bif aA g 0 then some [.t (q.bV 0)] else some [.t true]))
def alb:aI:=⟨71,l9,[],[],[dY],[],[],[],zQ⟩
def t84:ar:=t83.bx alb
def alc:aw P t84:=tP Wv func71 ala

def sJ(d:LG):Option LG:=
 let g:=(((d.sV 0).size:Nat):Int); (az (oH [.i g,.i 1,.i 40]) fun q=>(bif (q.bV 0) then (gd (cw 1 g) (az (zQ [.s ((d.sV 0).extract 0 1),.s (⟨#[97,98,99,100,101,102,103,104,105,106,107,108,109,110,111,112,113,114,115,116,117,118,119,120,121,122]⟩:BY)]) fun A=>(bif (A.bV 0) then (az (zQ [.s (d.sV 0),.s (⟨#[97,98,99,100,101,102,103,104,105,106,107,108,109,110,111,112,113,114,115,116,117,118,119,120,121,122,48,49,50,51,52,53,54,55,56,57,45,95]⟩:BY)]) fun B=>some [.t (B.bV 0)]) else some [.t false]))) else some [.t false]))
def ald:aI:=⟨50,[bY],[],[],[dY],[],[],[],sJ⟩
def t85:ar:=t84.bx ald
def ale:aw P t85:=cU alc func50

def uO(d:LG):Option LG:=
 (az (oH [.i (d.iV 0),.i 0,.i 345686399999]) fun g=>some [.t (g.bV 0)])
def alf:aI:=⟨35,[aD],[],[],[dY],[],[],[],uO⟩
def t86:ar:=t85.bx alf
def alg:aw P t86:=cU ale func35

def Na(d:LG):Option LG:=
 (az (GX [.s (d.sV 0)]) fun g=>some [.t (g.bV 1)])
def alh:aI:=⟨99,[bY],[],[],[dY],[],[],[],Na⟩
def t87:ar:=t86.bx alh
def ali:aw P t87:=cU alg func99

def CU(d:LG):Option LG:=
 let g:=(!((gi (d.rV 0) 7).sV.toList==(⟨#[]⟩:BY).toList)); let q:=sJ [.s (gi (d.rV 0) 7).sV]; (az (uO [.i (gi (d.rV 0) 0).iV]) fun A=>(bif (!(A.bV 0)) then some [.i 1] else (az (oH [.i (gi (d.rV 0) 1).iV,.i 1,.i 3]) fun B=>(bif (!(B.bV 0)) then some [.i 4] else (az (sJ [.s (gi (d.rV 0) 2).sV]) fun F=>(bif (!(F.bV 0)) then some [.i 5] else (az (Na [.s (gi (d.rV 0) 3).sV]) fun I=>(bif (!(I.bV 0)) then some [.i 3] else (az (oH [.i (gi (d.rV 0) 4).iV,.i 0,.i 99999]) fun J=>(bif (!(J.bV 0)) then some [.i 1] else (az (oH [.i (gi (d.rV 0) 5).iV,.i 0,.i 99999]) fun M=>(bif (!(M.bV 0)) then some [.i 1] else (bif (!((gi (d.rV 0) 6).sV.toList==(⟨#[]⟩:BY).toList)) then (az (sJ [.s (gi (d.rV 0) 6).sV]) fun N=>(bif (!(N.bV 0)) then some [.i 5] else (bif g then (az q fun O=>(bif (!(O.bV 0)) then some [.i 5] else some [.i 0])) else some [.i 0]))) else (bif g then (az q fun U=>(bif (!(U.bV 0)) then some [.i 5] else some [.i 0])) else some [.i 0]))))))))))))))
def alj:aI:=⟨52,wO,[],[],[aD],[],[],[],CU⟩
def t88:ar:=t87.bx alj
def alk:aw P t88:=cU ali func52

def HK(d:LG):Option LG:=
 let g:=(⟨#[]⟩:BY); let q:=gi (d.rV 0) 3; let A:=gi (d.rV 0) 2; let F:=bu aY (d.rV 0); let z5:=gi (d.rV 0) 0; let B:=gi (d.rV 0) 1; let I:=gi (d.rV 0) 8; let J:=gi (d.rV 0) 4; (az (sJ [.s z5.sV]) fun N=>(bif (!(N.bV 0)) then some [.i 5] else (az (oH [.i B.iV,.i 1,.i 1000000]) fun O=>(bif (!(O.bV 0)) then some [.i 1] else (az (uO [.i A.iV]) fun U=>(bif (!(U.bV 0)) then some [.i 1] else (az (oH [.i q.iV,.i 1,.i 5]) fun W=>(bif (!(W.bV 0)) then some [.i 4] else (bif (q.iV==1) then (az (CU [.l [[.i J.iV,.i (gi (d.rV 0) 5).iV,.s (gi (d.rV 0) 6).sV,.s (gi (d.rV 0) 7).sV,.i I.iV,.i (gi (d.rV 0) 9).iV,.s (gi (d.rV 0) 10).sV,.s (gi (d.rV 0) 11).sV]]]) fun M=>(bif ((M.iV 0) != 0) then some [.i (M.iV 0)] else (bif (ba A.iV J.iV) then some [.i 1] else (bif (!(aK aY F [.s z5.sV,.i B.iV,.i A.iV,.i q.iV,.i J.iV,.i (gi (d.rV 0) 5).iV,.s (gi (d.rV 0) 6).sV,.s (gi (d.rV 0) 7).sV,.i I.iV,.i (gi (d.rV 0) 9).iV,.s (gi (d.rV 0) 10).sV,.s (gi (d.rV 0) 11).sV,.s g,.s g,.i 0])) then some [.i 3] else some [.i 0])))) else (bif (q.iV==2) then (az (sJ [.s (gi (d.rV 0) 12).sV]) fun Y=>(bif (!(Y.bV 0)) then some [.i 5] else (bif (!(aK aY F [.s z5.sV,.i B.iV,.i A.iV,.i q.iV,.i 0,.i 0,.s g,.s g,.i 0,.i 0,.s g,.s g,.s (gi (d.rV 0) 12).sV,.s g,.i 0])) then some [.i 3] else some [.i 0]))) else (bif (q.iV==5) then (az (sJ [.s (gi (d.rV 0) 13).sV]) fun g7=>(bif (!(g7.bV 0)) then some [.i 5] else (az (oH [.i (gi (d.rV 0) 14).iV,.i 1,.i 1000000]) fun g8=>(bif (!(g8.bV 0)) then some [.i 1] else (bif (!(aK aY F [.s z5.sV,.i B.iV,.i A.iV,.i q.iV,.i 0,.i 0,.s g,.s g,.i 0,.i 0,.s g,.s g,.s g,.s (gi (d.rV 0) 13).sV,.i (gi (d.rV 0) 14).iV])) then some [.i 3] else some [.i 0]))))) else (az (oH [.i I.iV,.i 1,.i 99999]) fun g9=>(bif (!(g9.bV 0)) then some [.i 1] else (bif (!(aK aY F [.s z5.sV,.i B.iV,.i A.iV,.i q.iV,.i 0,.i 0,.s g,.s g,.i I.iV,.i 0,.s g,.s g,.s g,.s g,.i 0])) then some [.i 3] else some [.i 0]))))))))))))))
def alm:aI:=⟨24,CE,[],[],[aD],[],[],[],HK⟩
def t89:ar:=t88.bx alm
def aln:aw P t89:=cU alk func24

def HL(d:LG):Option LG:=
 (bif ((gi (d.rV 0) 0).sV.toList==(gi (d.rV 1) 0).sV.toList) then some [.t ((gi (d.rV 0) 1).iV==(gi (d.rV 1) 1).iV)] else some [.t false])
def alo:aI:=⟨27,GL,[],[],[dY],[],[],[],HL⟩
def t90:ar:=t89.bx alo
def alp:aw P t90:=cU aln func27

def HM(d:LG):Option LG:=
 (az (HL [.l [(bu aY (d.rV 0))],.l [(bu aY (d.rV 1))]]) fun g=>some [.t (g.bV 0)])
def alq:aI:=⟨26,T3,[],[],[dY],[],[],[],HM⟩
def t91:ar:=t90.bx alq
def Ww:aw P t91:=cU alp func26

def HN(d:LG):bk:=
 let g:=bu aY (d.rV 1); (bif (ba (d.iV 3) (d.iV 2)) then (gd (nL (d.iV 3) (lI (d.rZ 0))) (az (HM [.l [(bu aY ((d.rZ 0).gR (d.iV 3)))],.l [g]]) fun q=>(bif (q.bV 0) then eQ [.i (d.iV 3)] else (gd (aM ((d.iV 3)+1)) (nQ [.l (d.rZ 0),.l [g],.i (d.iV 2),.i ((d.iV 3)+1)]))))) else eR [])
def alr:bF:=⟨2,[],⟨19,[(0,.s (.list aY)),(1,.clo 26 [.cptr aY]),(7,aD),(8,aD)],[]⟩,[],[⟨.ret,⟨19,zp,[]⟩,[]⟩,⟨.exit 0,⟨19,[],[]⟩,[]⟩],HN⟩
def als:LT:=bz.add 0 alr
def alu:aQ P 0 als (bf f53):=lA Ww (bN _ _ _)
def HO(d:LG):Option LG:=
 (bp true (bR HN [.l (d.rZ 0),.l [(bu aY (d.rV 1))],.i (lI (d.rZ 0)),.i 0]) fun g q=>(bif aA g 0 then some [.i (q.iV 0)] else some [.i (-1)]))
def alv:aI:=⟨53,T4,[],[],[aD],[],[],[],HO⟩
def t92:ar:=t91.bx alv
def alw:aw P t92:=tP Ww func53 alu

def HP(d:LG):Option LG:=
 (az (HO [.l (d.rZ 0),.l [(bu aY (d.rV 1))]]) fun g=>some [.t (cw 0 (g.iV 0))])
def alx:aI:=⟨25,T4,[],[],[dY],[],[],[],HP⟩
def t93:ar:=t92.bx alx
def HQ:aw P t93:=cU alw func25

def CV(d:LG):bk:=
 let A:=bu aY ((d.rZ 1).gR (d.iV 3)); let q:=(d.iV 3)-1; let g:=(d.iV 3)+1; (bif (ba (d.iV 3) (d.iV 2)) then (gd (nL (d.iV 3) (lI (d.rZ 1))) (az (HK [.l [A]]) fun B=>(bif ((B.iV 0) != 0) then eQ [.i (B.iV 0)] else (bif (ba 0 (d.iV 3)) then (gd (aM q) (gd (nL q (lI (d.rZ 0))) (az (zw [.l [(bu aY ((d.rZ 0).gR q))],.l [A]]) fun F=>(bif (cw 0 (F.iV 0)) then eQ [.i 7] else (gd (aM g) (some (none,kp d 0 [.l,.l,.i] [.i g]))))))) else (gd (aM g) (some (none,kp d 0 [.l,.l,.i] [.i g]))))))) else eR [.l (d.rZ 0)])
def aly:bF:=⟨4,[],⟨49,[(0,.s (.list aY)),(11,.s (.list aY)),(12,aD),(13,aD)],[]⟩,[],[⟨.ret,⟨49,zo,[]⟩,[]⟩,⟨.exit 0,⟨49,[(0,.s (.list aY))],[]⟩,[]⟩],CV⟩
def Wx:LT:=bz.add 0 aly
def alz:aQ P 0 Wx (bf f8):=aQ.add hm (HQ.mG [25]) aj (bN _ _ _) (fun d=>by kernel_rfl)
def CW(d:LG):bk:=
 (bif (ba (d.iV 3) (d.iV 2)) then (gd (nL (d.iV 3) (lI (d.rZ 1))) (gd ((eg (d.iV 3))&&(cw (d.iV 3) (lI (d.rZ 0)))) (az (HP [.l ((d.rZ 0).take ((d.iV 3).toNat)),.l [(bu aY ((d.rZ 1).gR (d.iV 3)))]]) fun g=>(bif (g.bV 0) then eQ [.i 6] else (gd (aM ((d.iV 3)+1)) (some (none,kp d 0 [.l,.l,.i] [.i ((d.iV 3)+1)]))))))) else eR [])
def alA:bF:=⟨13,[],⟨49,[(0,.s (.list aY)),(36,.s (.list aY)),(37,aD),(38,aD)],[]⟩,[],[⟨.ret,⟨49,zo,[]⟩,[]⟩,⟨.exit 2,⟨49,[],[]⟩,[]⟩],CW⟩
def alB:LT:=Wx.add 0 alA
def alC:aQ P 0 alB (bf f8):=aQ.add hm (HQ.mG [25]) aj alz (fun d=>by kernel_rfl)
def CX(d:LG):Option LG:=
 let q:=(lI (d.rZ 0)); (bif (ba 2000 q) then some [.i 2] else (bp true (bR CV [.l (d.rZ 0),.l (d.rZ 0),.i q,.i 0]) fun A g=>(bif aA A 0 then some [.i (g.iV 0)] else (bp true (bR CW [.l (g.rZ 0),.l (g.rZ 0),.i (lI (g.rZ 0)),.i 0]) fun B F=>(bif aA B 0 then some [.i (F.iV 0)] else some [.i 0])))))
def alD:aI:=⟨8,GN,[],[],[aD],[],[],[],CX⟩
def t94:ar:=t93.bx alD
def alE:aw P t94:=HQ.aP (qJ hm (HQ.mG [25]) func8 aj alC (fun d=>by kernel_rfl) aj)

def HR(d:LG):Option LG:=
 (az (zA [.s (d.sV 0),.s (d.sV 1)]) fun g=>some [.t (g.bV 0)])
def alF:aI:=⟨29,l9,[],[],[dY],[],[],[],HR⟩
def t95:ar:=t94.bx alF
def alG:aw P t95:=cU alE func29

def t96:ar:=t95.fx P 30 f30
def alH:aw P t96:=alG.fx hm func30 aj aj

def Nb(d:LG):Option LG:=
 let g:=((((d.sV 0).size:Nat):Int)-(((d.sV 1).size:Nat):Int)); (az (zA [.s (d.sV 0),.s (d.sV 1)]) fun q=>(bif (q.bV 0) then (gd (aM g) (gd ((eg g)&&(cw g (((d.sV 0).size:Nat):Int))) (some [.s ((d.sV 0).extract 0 g.toNat)]))) else some [.s (d.sV 0)]))
def alI:aI:=⟨59,l9,[],[],[bY],[],[],[],Nb⟩
def t97:ar:=t96.bx alI
def alJ:aw P t97:=cU alH func59

def HS(d:LG):Option LG:=
 (az (Nb [.s (d.sV 0),.s (d.sV 1)]) fun g=>some [.s (g.sV 0)])
def alK:aI:=⟨31,l9,[],[],[bY],[],[],[],HS⟩
def t98:ar:=t97.bx alK
def Nc:aw P t98:=cU alJ func31

end
end Go.Proofs.h_
