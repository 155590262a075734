/-
 What is proved here: functions of the program as functions on data. No condition.
-/
import Derived.Test.YtiljbnkkhbennaaGreatDoorML3
set_option linter.all false
open List renaming replicate→cd
open Nat renaming beq→ab
namespace Go.Proofs.gl
open Go Go.AL Go.Proofs Tryz
noncomputable section
def xT(d:List G):Option (Option Nat × List G) :=
 let k:=(gi d 3).rows.getD (((gi d 5).int).toNat) []; let z3:=eW [.str] (gi d 0).rows [.s (gi k 3).str]; let z2:=(z3++([[.i (gi k 0).int,.i (gi k 1).int,.s (gi k 2).str,.s (gi d 2).str,.i (gi k 5).int,.i (gi k 4).int,.s (gi k 7).str,.s (gi k 6).str]]:List (List G))); let z4:=jB [.str] (gi d 0).rows [.s (gi k 3).str]; (bif (ao (gi d 5).int (gi d 4).int) then (bif ((aJ (gi d 5).int)&&(ao (gi d 5).int (((gi d 3).rows.length:Nat):Int))) then (bif (fI [.str] (gi d 0).rows [.s (gi k 3).str]) then (bif ((ab z3.length z3.length)&&(decide ((z3.length+1)≤1048576))) then (bif (ab z2.length z2.length) then (bif (aw ((gi d 5).int+1)) then some (none,[.l (la [.str] z4 [.s (gi k 3).str] z2 (gi d 1).int.toNat),.i (((dM [.str] z4 [.s (gi k 3).str] (gi d 1).int.toNat):Nat):Int),.s (gi d 2).str,.l (gi d 3).rows,.i (gi d 4).int,.i ((gi d 5).int+1)]) else none) else none) else none) else none) else none) else some (some 0,[.l (gi d 0).rows,.i (((gi d 1).int.toNat:Nat):Int)]))
def Sg:be:=⟨3,[],⟨77,[(0,.s (.str)),(5,.s (.map 0)),(17,.s (.list au)),(18,.s (.int .i64)),(19,.s (.int .i64))],[.aX 1 (.one (.str)) au]⟩,[.fix 0],[⟨.exit 0,⟨77,[(5,.s (.map 0))],[.aX 1 (.one (.str)) au]⟩,[.fix 0]⟩],xT⟩
theorem agy:cy P (t79.lq [1500059]) (ay.gA [(2,[.A0 5 1]),(7,[.A1 5])]) 1 (cB f8 3) Sg:=fun d=>by kernel_rfl
def H6:LT:=(ay.gA [(2,[.A0 5 1]),(7,[.A1 5])]).add 1 Sg
theorem agz:ax P 1 H6 (aQ f8):=ax.add hm (xS.lq [1500059]) (by kernel_rfl) (nk _) agy
def xU(d:List G):Option (Option Nat × List G) :=
 let k:=((gi d 2).rows++([[.s (gi ((gi d 3).rows.getD (0+((gi d 5).int).toNat) []) 0).str,.l (gi (bZ [.str] (gi d 0).rows [.s (gi ((gi d 3).rows.getD (0+((gi d 5).int).toNat) []) 0).str] [.l []]) 0).rows]]:List (List G))); let z2:=ab (gi d 2).rows.length (gi d 2).rows.length; let z3:=(((gi d 1).int.toNat:Nat):Int); (bif (ao (gi d 5).int (gi d 4).int) then (bif ((aJ (gi d 5).int)&&(ao (gi d 5).int (((gi d 3).rows.length:Nat):Int))) then (bif (decide ((0+((gi d 5).int).toNat)<(gi d 3).rows.length)) then (bif (z2&&(decide (((gi d 2).rows.length+1)≤1048576))) then (bif (aw ((gi d 5).int+1)) then (bif ((ab k.length k.length)&&((ab (gi d 3).rows.length (gi d 3).rows.length)&&true)) then some (none,[.l (gi d 0).rows,.i z3,.l k,.l (gi d 3).rows,.i (gi d 4).int,.i ((gi d 5).int+1)]) else none) else none) else none) else none) else none) else (bif (z2&&true) then some (some 0,[.l (gi d 0).rows,.i z3,.l (gi d 2).rows]) else none))
def Si:be:=⟨15,[(10,[.str,.list au])],⟨77,[(5,.s (.map 0)),(10,.s (.vec 1 2)),(61,.s (.vec 2 1)),(62,.s (.int .i64)),(63,.s (.int .i64))],[.map (.one (.str)) (.one (.list au)),.vec [.str,.list au] 0,.vec [.str] 0]⟩,[.fix 0,.slot 10,.slot 61],[⟨.exit 4,⟨77,[(10,.s (.vec 1 2))],[.map (.one (.str)) (.one (.list au)),.vec [.str,.list au] 0]⟩,[.fix 0,.slot 10]⟩],xU⟩
theorem agA:cy P (t79.lq [1500059]) H6 1 (cB f8 15) Si:=fun d=>by kernel_rfl
def Ca:LT:=H6.add 1 Si
theorem agB:ax P 1 Ca (aQ f8):=ax.add hm (xS.lq [1500059]) (by kernel_rfl) agz agA
def uF(r d:List G):Option (List G) :=
 let k:=((gi d 2).rows++([[.s (gi (gi r 0).row 0).str]]:List (List G))); (bif ((ab (gi d 2).rows.length (gi d 2).rows.length)&&(decide (((gi d 2).rows.length+1)≤1048576))) then (bif ((ab k.length k.length)&&true) then some [.l (gi d 0).rows,.i (((gi d 1).int.toNat:Nat):Int),.l k,.i (((gi d 3).int.toNat:Nat):Int)] else none) else none)
def agC(d:List G)(b:Nat):List G:=[.l (gi d 0).rows,.i (((gi d 1).int.toNat:Nat):Int),.l (gi d 2).rows,.i (b:Int)]
def agD(d:List G)(b:Nat):Bool:=((ab (gi d 2).rows.length (gi d 2).rows.length)&&true)
def Cb:fK:=⟨⟨77,[(5,.s (.map 0)),(8,.s (.vec 1 1)),(50,.s (.addr))],[.map (.one (.str)) (.one (.list au)),.vec [.str] 0]⟩,[.fix 0,.slot 8],[],(.one (.str)),(.one (.list au)),0,0,49,50,51,52,53,fun d=>(gi d 3).int.toNat,agC,agD,uF⟩
theorem agE:kF P (t79.lq [1500059]) Ca 1 Cb (oL (cutAt f8 8)) (rO (cutAt f8 8)):=fun r d=>by kernel_rfl
def Cc(d:List G):Option (Option Nat × List G) :=
 let k:=xQ [.l (gi d 2).rows]; (iF (((ab (gi d 2).rows.length (gi d 2).rows.length)&&true)&&k.isSome) k fun g2=>(aO ((ab (gi d 2).rows.length (gi g2 0).rows.length)&&true) (bX xU [.l (gi d 0).rows,.i (((gi d 1).int.toNat:Nat):Int),.l [],.l (gi g2 0).rows,.i (((gi d 2).rows.length:Nat):Int),.i 0]) fun q g3=>(bif ((ab (gi g3 2).rows.length (gi g3 2).rows.length)&&true) then some (some 0,[.l (gi g3 0).rows,.i (((gi g3 1).int.toNat:Nat):Int),.l (gi g3 2).rows]) else none)))
def Sj:be:=⟨12,[],⟨77,[(5,.s (.map 0)),(8,.s (.vec 1 1)),(50,.s (.addr))],[.map (.one (.str)) (.one (.list au)),.vec [.str] 0]⟩,[],[⟨.ret,⟨77,[(4,.s (.vec 1 2))],[.map (.one (.str)) (.one (.list au)),.vec [.str,.list au] 0]⟩,[.fix 0,.slot 4]⟩],Cc⟩
theorem agF:fm P (t79.lq [1500059]) Ca 1 (nl (cutAt f8 8)) Sj:=fun d=>by kernel_rfl
def H7(d:List G):Option (Option Nat × List G) :=
 jG Cb Cc (gi d 0).rows ((gi d 1).int.toNat) d
def H8:be:=⟨8,[(8,[.str])],⟨77,[(5,.s (.map 0)),(8,.s (.vec 1 1))],[.map (.one (.str)) (.one (.list au)),.vec [.str] 0]⟩,[.fix 0,.slot 8],[⟨.ret,⟨77,[(4,.s (.vec 1 2))],[.map (.one (.str)) (.one (.list au)),.vec [.str,.list au] 0]⟩,[.fix 0,.slot 4]⟩],H7⟩
def Sk:LT:=Ca.eP 1 H8
theorem agG:∀ r d d',uF r d=some d'→(gi d' 0).rows=(gi d 0).rows∧(gi d' 1).int.toNat=(gi d 1).int.toNat:=by
 intro r d d' h;unfold uF at h;simp only[Bool.cond_eq_ite]at h
 repeat' split at h
 all_goals first|(cases h; done)|(cases h; exact⟨rfl,rfl⟩)
theorem agH:ax P 1 Sk (aQ f8):=ax.Ol (q:=H8) (qr:=Sj) (sp:=Cb) (r0:=8) (b0:=2) (r1:=9) (b1:=3) (r2:=10) (rows:=fun d=>(gi d 0).rows) (clock:=fun d=>(gi d 1).int.toNat) (pre:=fun d=>FU P (t79.lq [1500059]) (l9 (cutAt f8 8)) (aM H8.inv d)) (ri:=fun d=>(gi d 0).rows) (ci:=fun d=>(gi d 1).int.toNat) hm (xS.lq [1500059]) (fun d=>by kernel_rfl) agG (by kernel_rfl) (by kernel_rfl) agB (by kernel_rfl) (by kernel_rfl) agE (fun d=>by kernel_rfl) (fun d=>by kernel_rfl) (fun d=>by kernel_rfl) (fun d=>by kernel_rfl) (fun d=>by kernel_rfl) (fun d=>by kernel_rfl) (fun d b=>by kernel_rfl) (fun d b=>rfl) (fun d b=>⟨rfl,rfl⟩) rfl rfl agF (fun d=>rfl)
def Cd(d:List G):Option (List G) :=
 (aO true (bX xT [.l ((dv [.str] [] [.s (gi d 0).str] [.l (gi d 1).rows] 0).map wW),.i (((dM [.str] [] [.s (gi d 0).str] 0):Nat):Int),.s (gi d 0).str,.l (gi d 1).rows,.i (((gi d 1).rows.length:Nat):Int),.i 0]) fun k g1=>(bif ((ua (gi g1 0).rows)&&true) then (aO true (cf (H7 [.l (gi g1 0).rows,.i (((gi g1 1).int.toNat:Nat):Int),.l []])) fun q g4=>(bif ((ab (gi g4 2).rows.length (gi g4 2).rows.length)&&true) then some [.l (gi g4 2).rows] else none)) else none))
def H9:aB:=⟨8,[.s (.str),.s (.list au)],[],[],[.s (.list [.str,.list au])],[],[],[],Cd⟩
theorem agI:aV P (t79.lq [1500059]) Sk f8 H9:=fun d=>by kernel_rfl
theorem agJ:aT P H9:=tW hm (xS.lq [1500059]) func8 (by kernel_rfl) (agH.mono (by kernel_rfl)) agI (by kernel_rfl)
def t80:ai:=t79.bh H9
theorem Sl:ak P t80:=xS.aP agJ

def Ce(d:List G):Option (List G) :=
 let k:=(gi (gi d 0).row 0).int-1; let z2:=gi ((gi (gi d 2).row 0).rows.getD (k.toNat) []) 0; (bif (ao 0 (gi (gi d 0).row 0).int) then (bif (aw k) then (bif ((aJ k)&&(ao k (((gi (gi d 2).row 0).rows.length:Nat):Int))) then (bif ((Op.bytesLess (gi (gi d 1).row 0).str.toList z2.str.toList)||((gi (gi d 1).row 0).str.toList==z2.str.toList)) then some [.i 7] else some [.i 0]) else none) else none) else some [.i 0])
def H_:aB:=⟨20,[.s (.cptr [.int .i64]),.s (.cptr [.str,.list au]),.s (.cptr [.list [.str,.list au]])],[],[],[.s (.int .i64)],[],[],[],Ce⟩
theorem agK:aV P t80 ay f20 H_:=fun d=>by kernel_rfl
theorem agL:aT P H_:=aR hm Sl func20 (aL _ _ _) agK
def t81:ai:=t80.bh H_
theorem Sm:ak P t81:=Sl.aP agL

def Cf(d:List G):Option (List G) :=
 some [.t ((gi (gi d 0).row 3).str.toList==(gi (gi d 1).row 0).str.toList)]
def Ia:aB:=⟨55,[.s (.row au),.s (.cptr [.str,.list au])],[],[],[.s (.bool)],[],[],[],Cf⟩
theorem agM:aV P t81 ay f55 Ia:=fun d=>by kernel_rfl
theorem agN:aT P Ia:=aR hm Sm func55 (aL _ _ _) agM
def t82:ai:=t81.bh Ia
theorem Ib:ak P t82:=Sm.aP agN

def Sn(d:List G):Option (Option Nat × List G) :=
 let k:=aU [.str,.list au] (gi d 1).row; (bif (ao (gi d 3).int (gi d 2).int) then (bif ((aJ (gi d 3).int)&&(ao (gi d 3).int (((gi d 0).rows.length:Nat):Int))) then (ar (Cf [.l [(aU au ((gi d 0).rows.getD (((gi d 3).int).toNat) []))],.l [k]]) fun g1=>(bif (gi g1 0).bool then some (some 0,[.i (gi d 3).int]) else (bif (aw ((gi d 3).int+1)) then some (none,[.l (gi d 0).rows,.l [k],.i (gi d 2).int,.i ((gi d 3).int+1)]) else none))) else none) else some (some 1,[]))
def Sp:be:=⟨2,[],⟨19,[(0,.s (.list au)),(1,.clo 55 [.cptr [.str,.list au]]),(7,.s (.int .i64)),(8,.s (.int .i64))],[]⟩,[],[⟨.ret,⟨19,[(4,.s (.int .i64))],[]⟩,[]⟩,⟨.exit 0,⟨19,[],[]⟩,[]⟩],Sn⟩
theorem agO:cy P t82 ay 0 (cB f93 2) Sp:=fun d=>by kernel_rfl
def Sq:LT:=ay.add 0 Sp
theorem agP:ax P 0 Sq (aQ f93):=ax.a hm Ib (aL _ _ _) agO
def Sr(d:List G):Option (List G) :=
 (aO true (bX Sn [.l (gi d 0).rows,.l [(aU [.str,.list au] (gi d 1).row)],.i (((gi d 0).rows.length:Nat):Int),.i 0]) fun k g2=>(bif ab k 0 then some [.i (gi g2 0).int] else some [.i (-1)]))
def Ic:aB:=⟨93,[.s (.list au),.clo 55 [.cptr [.str,.list au]]],[],[],[.s (.int .i64)],[],[],[],Sr⟩
theorem agQ:aV P t82 Sq f93 Ic:=fun d=>by kernel_rfl
theorem agR:aT P Ic:=aR hm Ib func93 agP agQ
def t83:ai:=t82.bh Ic
theorem Ss:ak P t83:=Ib.aP agR

def Su(d:List G):Option (List G) :=
 (ar (Sr [.l (gi d 0).rows,.l [(aU [.str,.list au] (gi d 1).row)]]) fun g1=>some [.t (bx 0 (gi g1 0).int)])
def Ie:aB:=⟨54,[.s (.list au),.clo 55 [.cptr [.str,.list au]]],[],[],[.s (.bool)],[],[],[],Su⟩
theorem agS:aV P t83 ay f54 Ie:=fun d=>by kernel_rfl
theorem agT:aT P Ie:=aR hm Ss func54 (aL _ _ _) agS
def t84:ai:=t83.bh Ie
theorem Sv:ak P t84:=Ss.aP agT

def Cg(d:List G):Option (List G) :=
 (ar (uo [.s (gi (gi d 0).row 0).str]) fun g1=>(bif (!(gi g1 0).bool) then some [.i 3] else (ar (Ce [.l [[.i (gi (gi d 1).row 0).int]],.l [(aU [.str,.list au] (gi d 2).row)],.l [[.l (gi (gi d 3).row 0).rows]]]) fun g2=>(bif ((gi g2 0).int != 0) then some [.i (gi g2 0).int] else (ar (xA [.l (gi (gi d 0).row 1).rows]) fun g3=>(bif ((gi g3 0).int != 0) then some [.i (gi g3 0).int] else (ar (Su [.l (gi (gi d 0).row 1).rows,.l [(aU [.str,.list au] (gi d 0).row)]]) fun g4=>(bif (gi g4 0).bool then some [.i 6] else some [.i 0]))))))))
def If:aB:=⟨21,[.s (.row [.str,.list au]),.clo 20 [.cptr [.int .i64],.cptr [.str,.list au],.cptr [.list [.str,.list au]]]],[],[],[.s (.int .i64)],[],[],[],Cg⟩
theorem agU:aV P (t84.fV [54]) ay f21 If:=fun d=>by kernel_rfl
theorem agV:aT P If:=tW hm (Sv.fV [54]) func21 (by kernel_rfl) (aL _ _ _) agU (by kernel_rfl)
def t85:ai:=t84.bh If
theorem Ig:ak P t85:=Sv.aP agV

def xV(d:List G):Option (Option Nat × List G) :=
 let k:=aU [.str,.list au] ((gi d 1).rows.getD (((gi d 3).int).toNat) []); (bif (ao (gi d 3).int (gi d 2).int) then (bif ((aJ (gi d 3).int)&&(ao (gi d 3).int (((gi d 1).rows.length:Nat):Int))) then (ar (Cg [.l [k],.l [[.i (gi d 3).int]],.l [k],.l [[.l (gi d 0).rows]]]) fun g1=>(bif ((gi g1 0).int != 0) then some (some 0,[.i (gi g1 0).int]) else (bif (aw ((gi d 3).int+1)) then some (none,[.l (gi d 0).rows,.l (gi d 1).rows,.i (gi d 2).int,.i ((gi d 3).int+1)]) else none))) else none) else some (some 1,[]))
def Sw:be:=⟨4,[],⟨25,[(1,.s (.ptr 0 0)),(10,.s (.list [.str,.list au])),(11,.s (.int .i64)),(12,.s (.int .i64))],[.box [.list [.str,.list au]]]⟩,[.slot 1],[⟨.ret,⟨25,[(2,.s (.int .i64))],[]⟩,[]⟩,⟨.exit 0,⟨25,[],[]⟩,[]⟩],xV⟩
theorem agW:cy P (t85.fV [21]) ay 0 (cB f9 4) Sw:=fun d=>by kernel_rfl
def Sx:LT:=ay.add 0 Sw
theorem agX:ax P 0 Sx (aQ f9):=ax.add hm (Ig.fV [21]) (by kernel_rfl) (aL _ _ _) agW
def uG(d:List G):Option (List G) :=
 let k:=(((gi d 0).rows.length:Nat):Int); (bif (ao 100 k) then some [.i 2] else (aO true (bX xV [.l (gi d 0).rows,.l (gi d 0).rows,.i k,.i 0]) fun q g2=>(bif ab q 0 then some [.i (gi g2 0).int] else some [.i 0])))
def Ih:aB:=⟨9,[.s (.list [.str,.list au])],[],[],[.s (.int .i64)],[],[],[],uG⟩
theorem agY:aV P (t85.fV [21]) Sx f9 Ih:=fun d=>by kernel_rfl
theorem agZ:aT P Ih:=tW hm (Ig.fV [21]) func9 (by kernel_rfl) agX agY (by kernel_rfl)
def t86:ai:=t85.bh Ih
theorem Sy:ak P t86:=Ig.aP agZ

def Ii(d:List G):Option (List G) :=
 (ar (kI [.i (gi d 0).int,.i 0,.i 3600000]) fun g1=>(bif (gi g1 0).bool then some [.i 1] else some [.i 0]))
def Ij:aB:=⟨60,[.s (.int .i64)],[],[],[.s (.int .i64)],[],[],[],Ii⟩
theorem ag0:aV P t86 ay f60 Ij:=fun d=>by kernel_rfl
theorem ag1:aT P Ij:=aR hm Sy func60 (aL _ _ _) ag0
def t87:ai:=t86.bh Ij
theorem Sz:ak P t87:=Sy.aP ag1

def Ik(d:List G):Option (List G) :=
 (ar (j8 [.s (gi (gi d 0).row 0).str,.s (gi d 1).str]) fun g1=>some [.i (gi g1 0).int])
def Il:aB:=⟨101,[.s (.row [.str,.list au]),.s (.str)],[],[],[.s (.int .i64)],[],[],[],Ik⟩
theorem ag2:aV P t87 ay f101 Il:=fun d=>by kernel_rfl
theorem ag3:aT P Il:=aR hm Sz func101 (aL _ _ _) ag2
def t88:ai:=t87.bh Il
theorem Im:ak P t88:=Sz.aP ag3

def uH(d:List G):Option (Option Nat × List G) :=
 let k:=kp .u64 (IntKind.u64.wrap ((gi d 3).int+(gi d 4).int)) 1; (bif (ao (gi d 3).int (gi d 4).int) then (bif (aw ((gi d 3).int+(gi d 4).int)) then (bif (aw k) then (bif ((aJ k)&&(ao k (((gi d 0).rows.length:Nat):Int))) then (ar (Ik [.l [(aU [.str,.list au] ((gi d 0).rows.getD (k.toNat) []))],.s (gi d 1).str]) fun g1=>(bif (ao (gi g1 0).int 0) then (bif (aw (k+1)) then some (none,[.l (gi d 0).rows,.s (gi d 1).str,.i (gi d 2).int,.i (k+1),.i (gi d 4).int]) else none) else some (none,[.l (gi d 0).rows,.s (gi d 1).str,.i (gi d 2).int,.i (gi d 3).int,.i k]))) else none) else none) else none) else some (some 0,[.l (gi d 0).rows,.s (gi d 1).str,.i (gi d 2).int,.i (gi d 3).int]))
def SA:be:=⟨3,[],⟨49,[(0,.s (.list [.str,.list au])),(1,.s (.str)),(2,.s (.fn 101)),(8,.s (.int .i64)),(9,.s (.int .i64)),(10,.s (.int .i64))],[]⟩,[],[⟨.exit 0,⟨49,[(0,.s (.list [.str,.list au])),(1,.s (.str)),(2,.s (.fn 101)),(8,.s (.int .i64)),(9,.s (.int .i64))],[]⟩,[]⟩],uH⟩
theorem ag4:cy P t88 ay 0 (cB f100 3) SA:=fun d=>by kernel_rfl
def SB:LT:=ay.add 0 SA
theorem ag5:ax P 0 SB (aQ f100):=ax.a hm Im (aL _ _ _) ag4
def Io(d:List G):Option (List G) :=
 let k:=(((gi d 0).rows.length:Nat):Int); (aO true (bX uH [.l (gi d 0).rows,.s (gi d 1).str,.i k,.i 0,.i k]) fun q g2=>(bif (ao (gi g2 3).int (gi g2 2).int) then (bif ((aJ (gi g2 3).int)&&(ao (gi g2 3).int (((gi g2 0).rows.length:Nat):Int))) then (ar (Ik [.l [(aU [.str,.list au] ((gi g2 0).rows.getD (((gi g2 3).int).toNat) []))],.s (gi g2 1).str]) fun g3=>some [.i (gi g2 3).int,.t ((gi g3 0).int==0)]) else none) else some [.i (gi g2 3).int,.t false]))
def Ip:aB:=⟨100,[.s (.list [.str,.list au]),.s (.str),.s (.fn 101)],[],[],[.s (.int .i64),.s (.bool)],[],[],[],Io⟩
theorem ag6:aV P t88 SB f100 Ip:=fun d=>by kernel_rfl
theorem ag7:aT P Ip:=aR hm Im func100 ag5 ag6
def t89:ai:=t88.bh Ip
theorem SC:ak P t89:=Im.aP ag7

def xW(d:List G):Option (List G) :=
 (ar (Io [.l (gi d 0).rows,.s (gi d 1).str]) fun g1=>some [.i (gi g1 0).int,.t (gi g1 1).bool])
def Iq:aB:=⟨61,[.s (.list [.str,.list au]),.s (.str)],[],[],[.s (.int .i64),.s (.bool)],[],[],[],xW⟩
theorem ag8:aV P t89 ay f61 Iq:=fun d=>by kernel_rfl
theorem ag9:aT P Iq:=aR hm SC func61 (aL _ _ _) ag8
def t90:ai:=t89.bh Iq
theorem SD:ak P t90:=SC.aP ag9

def SE(d:List G):Option (List G) :=
 some [.l (gi d 0).rows,.i (gi d 1).int,.i (gi d 2).int,.l [],.i 0,.l [],.i 0]
def Ir:aB:=⟨62,[.s (.list [.str,.list au]),.s (.int .i64),.s (.int .i64)],[],[],[.s (.ptr 0 0)],[.box [.list [.str,.list au],.int .i64,.int .i64,.map 1,.map 2],.map (.one (.int .i64)) (.one (.int .i64)),.map (.one (.int .i64)) (.one (.int .i64))],[.slot 0,.cell 0 3,.cell 0 4],[],SE⟩
theorem ag_:aV P t90 ay f62 Ir:=fun d=>by kernel_rfl
theorem ag':aT P Ir:=aR hm SD func62 (aL _ _ _) ag_
def t91:ai:=t90.cX Ir
theorem Is:ak P t91:=SD.aW ag'

def uI(d:List G):Option (Option Nat × List G) :=
 let k:=(gi d 3).rows.getD (((gi d 5).int).toNat) []; let z2:=eW [.str,.int .i64] (gi d 0).rows [.s (gi k 2).str,.i (gi k 1).int]; let z3:=(((oC [.str,.int .i64] (gi d 0).rows [.s (gi k 2).str,.i (gi k 1).int] ((gi d 1).int.toNat)):Nat):Int); let z4:=oD [.str,.int .i64] (gi d 0).rows [.s (gi k 2).str,.i (gi k 1).int] ((gi d 1).int.toNat); let z5:=(z2++([[.i (gi d 5).int]]:List (List G))); let q:=(gi d 5).int+1; let B:=(((gi d 1).int.toNat:Nat):Int); (bif (ao (gi d 5).int (gi d 4).int) then (bif ((aJ (gi d 5).int)&&(ao (gi d 5).int (((gi d 3).rows.length:Nat):Int))) then (bif ((gi k 3).str.toList==(gi d 2).str.toList) then (bif (fI [.str,.int .i64] (gi d 0).rows [.s (gi k 2).str,.i (gi k 1).int]) then (bif ((ab z2.length z2.length)&&(decide ((z2.length+1)≤1048576))) then (bif ((tD z4 z3)&&(ab z5.length z5.length)) then (bif (aw q) then some (none,[.l (tC z4 z3 z5),.i (((dM [.str,.int .i64] (gi d 0).rows [.s (gi k 2).str,.i (gi k 1).int] ((gi d 1).int.toNat)):Nat):Int),.s (gi d 2).str,.l (gi d 3).rows,.i (gi d 4).int,.i q]) else none) else none) else none) else none) else (bif (aw q) then some (none,[.l (gi d 0).rows,.i B,.s (gi d 2).str,.l (gi d 3).rows,.i (gi d 4).int,.i q]) else none)) else none) else some (some 0,[.l (gi d 0).rows,.i B]))
def SF:be:=⟨3,[],⟨36,[(1,.s (.str)),(5,.s (.map 0)),(10,.s (.list au)),(11,.s (.int .i64)),(12,.s (.int .i64))],[.aX 1 (.agg [.str,.int .i64]) [.int .i64]]⟩,[.slot 5],[⟨.exit 0,⟨36,[(5,.s (.map 0))],[.aX 1 (.agg [.str,.int .i64]) [.int .i64]]⟩,[.slot 5]⟩],uI⟩
theorem aha:cy P t91 (ay.gA [(2,[.aX 5 1]),(9,[.AZ 5])]) 0 (cB f196 3) SF:=fun d=>by kernel_rfl
def SG:LT:=(ay.gA [(2,[.aX 5 1]),(9,[.AZ 5])]).add 0 SF
theorem ahb:ax P 0 SG (aQ f196):=ax.a hm Is (nk _) aha
def xX(d:List G):Option (List G) :=
 (aO true (bX uI [.l [],.i 0,.s (gi d 1).str,.l (gi d 0).rows,.i (((gi d 0).rows.length:Nat):Int),.i 0]) fun k g1=>(bif ((A8 (gi g1 0).rows)&&true) then some [.l (gi g1 0).rows,.i (((gi g1 1).int.toNat:Nat):Int)] else none))
def It:aB:=⟨196,[.s (.list au),.s (.str)],[],[],[.s (.map 0)],[.map (.agg [.str,.int .i64]) (.one (.list [.int .i64]))],[.slot 0],[],xX⟩
theorem ahc:aV P t91 SG f196 It:=fun d=>by kernel_rfl
theorem ahd:aT P It:=aR hm Is func196 ahb ahc
def t92:ai:=t91.cX It
theorem SH:ak P t92:=Is.aW ahd

def uJ(d:List G):Option (List G) :=
 let k:=(gi (gi d 0).row 0).int-(gi (gi d 1).row 0).int; let z2:=(gi (gi d 1).row 0).int-(gi (gi d 0).row 0).int; (bif (aw k) then (bif (aw z2) then some [.i (if z2>k then z2 else k)] else none) else none)
def Iu:aB:=⟨218,[.s (.row au),.s (.row au)],[],[],[.s (.int .i64)],[],[],[],uJ⟩
theorem ahe:aV P t92 ay f218 Iu:=fun d=>by kernel_rfl
theorem ahf:aT P Iu:=aR hm SH func218 (aL _ _ _) ahe
def t93:ai:=t92.bh Iu
theorem SI:ak P t93:=SH.aP ahf

def uK(d:List G):Option (List G) :=
 (bif ((gi (gi d 0).row 2).str.toList==(gi (gi d 1).row 2).str.toList) then (bif ((gi (gi d 0).row 1).int==(gi (gi d 1).row 1).int) then (ar (uJ [.l [(aU au (gi d 0).row)],.l [(aU au (gi d 1).row)]]) fun g1=>some [.t (bx (gi g1 0).int (gi d 2).int)]) else some [.t false]) else some [.t false])
def Iv:aB:=⟨201,[.s (.row au),.s (.row au),.s (.int .i64)],[],[],[.s (.bool)],[],[],[],uK⟩
theorem ahg:aV P t93 ay f201 Iv:=fun d=>by kernel_rfl
theorem ahh:aT P Iv:=aR hm SI func201 (aL _ _ _) ahg
def t94:ai:=t93.bh Iv
theorem SJ:ak P t94:=SI.aP ahh

def Ch(d:List G):Option (List G) :=
 let k:=gi ((gi d 2).rows.getD (((gi d 6).int).toNat) []) 0; let z2:=gi ((gi d 3).rows.getD (((gi d 7).int).toNat) []) 0; let z3:=aU au ((gi d 0).rows.getD ((k.int).toNat) []); let z4:=aU au ((gi d 1).rows.getD ((z2.int).toNat) []); (bif ((aJ (gi d 6).int)&&(ao (gi d 6).int (((gi d 2).rows.length:Nat):Int))) then (bif ((aJ k.int)&&(ao k.int (((gi d 0).rows.length:Nat):Int))) then (bif ((aJ (gi d 7).int)&&(ao (gi d 7).int (((gi d 3).rows.length:Nat):Int))) then (bif ((aJ z2.int)&&(ao z2.int (((gi d 1).rows.length:Nat):Int))) then (ar (uJ [.l [z3],.l [z4]]) fun g1=>let z5:=10000000000-(gi g1 0).int; (bif (aw z5) then (ar (uK [.l [z3],.l [z4],.i (gi d 4).int]) fun g2=>(bif ((((ab (gi d 5).rows.length (gi d 5).rows.length)&&true)&&true)&&true) then some [.l (gi d 0).rows,.l (gi d 1).rows,.l (gi d 2).rows,.l (gi d 3).rows,.i (gi d 4).int,.l (gi d 5).rows,.i z5,.t (gi g2 0).bool] else none)) else none)) else none) else none) else none) else none)
def Iw:aB:=⟨216,[.s (.ptr 0 0),.s (.int .i64),.s (.int .i64)],[.box [.list au,.list au,.list [.int .i64],.list [.int .i64],.int .i64,.vec 1 1],.vec [.list [.int .i64]] 0],[.slot 0,.cell 0 5],[.s (.int .i64),.s (.bool)],[.box [.list au,.list au,.list [.int .i64],.list [.int .i64],.int .i64,.vec 1 1],.vec [.list [.int .i64]] 0],[.fix 0,.fix 1],[],Ch⟩
theorem ahi:aV P t94 (ay.gA [(1,[.hole au,.hole au])]) f216 Iw:=fun d=>by kernel_rfl
theorem ahj:aT P Iw:=aR hm SJ func216 (nk _) ahi
def t95:ai:=t94.cX Iw
theorem xY:ak P t95:=SJ.aW ahj

def xZ(d:List G):Option (Option Nat × List G) :=
 (bif (aw ((gi d 8).int-1)) then (bif ((((ab (gi d 5).rows.length (gi d 5).rows.length)&&true)&&true)&&((ab (gi d 6).rows.length (gi d 6).rows.length)&&true)) then some (some 0,[.l (gi d 0).rows,.l (gi d 1).rows,.l (gi d 2).rows,.l (gi d 3).rows,.i (gi d 4).int,.l (gi d 5).rows,.l (gi d 6).rows,.i (gi d 7).int,.i ((gi d 8).int-1)]) else none) else none)
def SL:be:=⟨8,[],⟨118,[(0,.s (.ptr 0 0)),(2,.s (.int .i64)),(3,.s (.vec 2 1)),(4,.s (.int .i64))],[.box [.list au,.list au,.list [.int .i64],.list [.int .i64],.int .i64,.vec 1 1],.vec [.list [.int .i64]] 0,.vec [.int .i64] 0]⟩,[.fix 0,.cell 0 5,.slot 3],[⟨.normal,⟨118,[(0,.s (.ptr 0 0)),(2,.s (.int .i64)),(3,.s (.vec 2 1)),(4,.s (.int .i64))],[.box [.list au,.list au,.list [.int .i64],.list [.int .i64],.int .i64,.vec 1 1],.vec [.list [.int .i64]] 0,.vec [.int .i64] 0]⟩,[.fix 0,.cell 0 5,.slot 3]⟩],xZ⟩
theorem ahk:fm P t95 ay 1 (cutAt f215 8) SL:=fun d=>by kernel_rfl
def Ix:LT:=ay.eP 1 SL
theorem ahl:ax P 1 Ix (aQ f215):=ax.aC hm xY (aL _ _ _) ahk
def x2(d:List G):Option (Option Nat × List G) :=
 let z2:=0+((gi d 8).int).toNat; let z4:=(gi d 8).int+1; let z5:=Ch [.l (gi d 0).rows,.l (gi d 1).rows,.l (gi d 2).rows,.l (gi d 3).rows,.i (gi d 4).int,.l (gi d 5).rows,.i (gi d 7).int,.i (gi d 8).int]; let I:=((aJ (gi d 8).int)&&(ao (gi d 8).int (((gi d 6).rows.length:Nat):Int))); let k:=(gi d 7).int+1; let z3:=0+k.toNat; let q:=(gi d 6).rows.set z2 (dR [.int .i64] ((gi d 6).rows.getD z2 []) 0 [.i (if (gi ((gi d 6).rows.getD (0+z4.toNat) []) 0).int>(gi ((gi ((gi d 5).rows.getD z3 []) 0).rows.getD (((gi d 8).int).toNat) []) 0).int then (gi ((gi d 6).rows.getD (0+z4.toNat) []) 0).int else (gi ((gi ((gi d 5).rows.getD z3 []) 0).rows.getD (((gi d 8).int).toNat) []) 0).int)]); let N:=((ab (gi d 5).rows.length (gi d 5).rows.length)&&true)&&true; let z9:=q.getD z2 []; let J:=decide (z2<q.length); (bif (bx 0 (gi d 8).int) then (bif (aw k) then (bif ((aJ k)&&(ao k (((gi d 5).rows.length:Nat):Int))) then (bif (decide (z3<(gi d 5).rows.length)) then (bif ((aJ (gi d 8).int)&&(ao (gi d 8).int (((gi ((gi d 5).rows.getD z3 []) 0).rows.length:Nat):Int))) then (bif (aw z4) then (bif ((aJ z4)&&(ao z4 (((gi d 6).rows.length:Nat):Int))) then (bif (decide ((0+z4.toNat)<(gi d 6).rows.length)) then (bif I then (bif (decide (z2<(gi d 6).rows.length)) then (iF ((N&&true)&&z5.isSome) z5 fun g1=>let B:=(gi g1 6).int+(gi ((gi ((gi g1 5).rows.getD z3 []) 0).rows.getD (z4.toNat) []) 0).int; let z12:=q.set z2 (dR [.int .i64] z9 0 [.i (if B>(gi z9 0).int then B else (gi z9 0).int)]); let M:=((ab (gi g1 5).rows.length (gi g1 5).rows.length)&&true)&&true; (bif (gi g1 7).bool then (bif I then (bif J then (bif (aw k) then (bif ((aJ k)&&(ao k (((gi g1 5).rows.length:Nat):Int))) then (bif (decide (z3<(gi g1 5).rows.length)) then (bif (aw z4) then (bif ((aJ z4)&&(ao z4 (((gi ((gi g1 5).rows.getD z3 []) 0).rows.length:Nat):Int))) then (bif (aw B) then (bif I then (bif J then (aO (M&&((ab (gi d 6).rows.length z12.length)&&true)) (cf (xZ [.l (gi g1 0).rows,.l (gi g1 1).rows,.l (gi g1 2).rows,.l (gi g1 3).rows,.i (gi g1 4).int,.l (gi g1 5).rows,.l z12,.i (gi d 7).int,.i (gi d 8).int])) fun O g2=>(bif ((((ab (gi g2 5).rows.length (gi g2 5).rows.length)&&true)&&true)&&((ab (gi g2 6).rows.length (gi g2 6).rows.length)&&true)) then some (none,[.l (gi g2 0).rows,.l (gi g2 1).rows,.l (gi g2 2).rows,.l (gi g2 3).rows,.i (gi g2 4).int,.l (gi g2 5).rows,.l (gi g2 6).rows,.i (gi g2 7).int,.i (gi g2 8).int]) else none)) else none) else none) else none) else none) else none) else none) else none) else none) else none) else none) else (aO (M&&((ab (gi d 6).rows.length q.length)&&true)) (cf (xZ [.l (gi g1 0).rows,.l (gi g1 1).rows,.l (gi g1 2).rows,.l (gi g1 3).rows,.i (gi g1 4).int,.l (gi g1 5).rows,.l q,.i (gi d 7).int,.i (gi d 8).int])) fun U g3=>(bif ((((ab (gi g3 5).rows.length (gi g3 5).rows.length)&&true)&&true)&&((ab (gi g3 6).rows.length (gi g3 6).rows.length)&&true)) then some (none,[.l (gi g3 0).rows,.l (gi g3 1).rows,.l (gi g3 2).rows,.l (gi g3 3).rows,.i (gi g3 4).int,.l (gi g3 5).rows,.l (gi g3 6).rows,.i (gi g3 7).int,.i (gi g3 8).int]) else none)))) else none) else none) else none) else none) else none) else none) else none) else none) else none) else (bif (N&&((ab (gi d 6).rows.length (gi d 6).rows.length)&&true)) then some (some 0,[.l (gi d 0).rows,.l (gi d 1).rows,.l (gi d 2).rows,.l (gi d 3).rows,.i (gi d 4).int,.l (gi d 5).rows,.l (gi d 6).rows,.i (gi d 7).int]) else none))
def SM:be:=⟨7,[],⟨118,[(0,.s (.ptr 0 0)),(2,.s (.int .i64)),(3,.s (.vec 2 1)),(4,.s (.int .i64))],[.box [.list au,.list au,.list [.int .i64],.list [.int .i64],.int .i64,.vec 1 1],.vec [.list [.int .i64]] 0,.vec [.int .i64] 0]⟩,[.fix 0,.cell 0 5,.slot 3],[⟨.exit 2,⟨118,[(0,.s (.ptr 0 0)),(2,.s (.int .i64)),(3,.s (.vec 2 1))],[.box [.list au,.list au,.list [.int .i64],.list [.int .i64],.int .i64,.vec 1 1],.vec [.list [.int .i64]] 0,.vec [.int .i64] 0]⟩,[.fix 0,.cell 0 5,.slot 3]⟩],x2⟩
theorem ahm:cy P t95 Ix 1 (cB f215 7) SM:=fun d=>by kernel_rfl
def Iy:LT:=Ix.add 1 SM
theorem ahn:ax P 1 Iy (aQ f215):=ax.a hm xY ahl ahm
def x4(d:List G):Option (Option Nat × List G) :=
 let k:=(((gi d 3).rows.length:Nat):Int); let z2:=((ab (gi d 5).rows.length (gi d 5).rows.length)&&true)&&true; let z3:=(cd ((k+1).toNat) ([.i 0]:List G)); (bif (bx 0 (gi d 6).int) then (bif (aw (k+1)) then (bif ((aJ (k+1))&&((bx (k+1) (k+1))&&(bx (k+1) 1048576))) then (bif (aw (k-1)) then (aO (z2&&((ab (k+1).toNat z3.length)&&true)) (bX x2 [.l (gi d 0).rows,.l (gi d 1).rows,.l (gi d 2).rows,.l (gi d 3).rows,.i (gi d 4).int,.l (gi d 5).rows,.l z3,.i (gi d 6).int,.i (k-1)]) fun q g4=>let z4:=(gi g4 5).rows.set (0+((gi g4 7).int).toNat) (dR [.list [.int .i64]] ((gi g4 5).rows.getD (0+((gi g4 7).int).toNat) []) 0 [.l (gi g4 6).rows]); (bif ((aJ (gi g4 7).int)&&(ao (gi g4 7).int (((gi g4 5).rows.length:Nat):Int))) then (bif ((ab (gi g4 6).rows.length (gi g4 6).rows.length)&&(decide ((0+((gi g4 7).int).toNat)<(gi g4 5).rows.length))) then (bif (aw ((gi g4 7).int-1)) then (bif ((((ab (gi g4 5).rows.length z4.length)&&true)&&true)&&true) then some (none,[.l (gi g4 0).rows,.l (gi g4 1).rows,.l (gi g4 2).rows,.l (gi g4 3).rows,.i (gi g4 4).int,.l z4,.i ((gi g4 7).int-1)]) else none) else none) else none) else none)) else none) else none) else none) else (bif (z2&&true) then some (some 0,[.l (gi d 0).rows,.l (gi d 1).rows,.l (gi d 2).rows,.l (gi d 3).rows,.i (gi d 4).int,.l (gi d 5).rows]) else none))
def SN:be:=⟨3,[],⟨118,[(0,.s (.ptr 0 0)),(2,.s (.int .i64))],[.box [.list au,.list au,.list [.int .i64],.list [.int .i64],.int .i64,.vec 1 1],.vec [.list [.int .i64]] 0]⟩,[.fix 0,.cell 0 5],[⟨.exit 0,⟨118,[],[.box [.list au,.list au,.list [.int .i64],.list [.int .i64],.int .i64,.vec 1 1],.vec [.list [.int .i64]] 0]⟩,[.fix 0,.cell 0 5]⟩],x4⟩
theorem aho:cy P t95 Iy 1 (cB f215 3) SN:=fun d=>by kernel_rfl
def SO:LT:=Iy.add 1 SN
theorem ahp:ax P 1 SO (aQ f215):=ax.a hm xY ahn aho
def Ci(d:List G):Option (List G) :=
 let k:=(((gi d 2).rows.length:Nat):Int); let z2:=((((gi d 3).rows.length:Nat):Int)+1); let z3:=((cd ((k+1).toNat) ([.l []]:List G)).set (0+(gi d 2).rows.length) (dR [.list [.int .i64]] ((cd ((k+1).toNat) ([.l []]:List G)).getD (0+(gi d 2).rows.length) []) 0 [.l (cd (z2.toNat) ([.i 0]:List G))])); (bif (aw (k+1)) then (bif ((aJ (k+1))&&((bx (k+1) (k+1))&&(bx (k+1) 1048576))) then (bif (aw z2) then (bif ((aJ z2)&&((bx z2 z2)&&(bx z2 1048576))) then (bif ((aJ k)&&(ao k (((k+1).toNat:Nat):Int))) then (bif ((ab z2.toNat (cd (z2.toNat) ([.i 0]:List G)).length)&&(decide ((0+(gi d 2).rows.length)<(cd ((k+1).toNat) ([.l []]:List G)).length))) then (bif (aw (k-1)) then (aO ((((ab (k+1).toNat z3.length)&&true)&&true)&&true) (bX x4 [.l (gi d 0).rows,.l (gi d 1).rows,.l (gi d 2).rows,.l (gi d 3).rows,.i (gi d 4).int,.l z3,.i (k-1)]) fun q g5=>(bif ((((ab (gi g5 5).rows.length (gi g5 5).rows.length)&&true)&&true)&&true) then some [.l (gi g5 0).rows,.l (gi g5 1).rows,.l (gi g5 2).rows,.l (gi g5 3).rows,.i (gi g5 4).int,.l (gi g5 5).rows] else none)) else none) else none) else none) else none) else none) else none) else none)
def Iz:aB:=⟨215,[.s (.ptr 0 0)],[.box [.list au,.list au,.list [.int .i64],.list [.int .i64],.int .i64,.list [.list [.int .i64]]]],[.slot 0],[],[.box [.list au,.list au,.list [.int .i64],.list [.int .i64],.int .i64,.list [.list [.int .i64]]]],[.fix 0],[],Ci⟩
theorem ahq:aV P t95 SO f215 Iz:=fun d=>by kernel_rfl
theorem ahr:aT P Iz:=aR hm xY func215 ahp ahq
def t96:ai:=t95.cX Iz
theorem SP:ak P t96:=xY.aW ahr

def Cj(d:List G):Option (List G) :=
 let k:=gi ((gi (gi d 0).row 2).rows.getD (((gi d 1).int).toNat) []) 0; let z2:=gi ((gi (gi d 0).row 3).rows.getD (((gi d 2).int).toNat) []) 0; let z3:=aU au ((gi (gi d 0).row 0).rows.getD ((k.int).toNat) []); let z4:=aU au ((gi (gi d 0).row 1).rows.getD ((z2.int).toNat) []); (bif ((aJ (gi d 1).int)&&(ao (gi d 1).int (((gi (gi d 0).row 2).rows.length:Nat):Int))) then (bif ((aJ k.int)&&(ao k.int (((gi (gi d 0).row 0).rows.length:Nat):Int))) then (bif ((aJ (gi d 2).int)&&(ao (gi d 2).int (((gi (gi d 0).row 3).rows.length:Nat):Int))) then (bif ((aJ z2.int)&&(ao z2.int (((gi (gi d 0).row 1).rows.length:Nat):Int))) then (ar (uJ [.l [z3],.l [z4]]) fun g1=>let z5:=10000000000-(gi g1 0).int; (bif (aw z5) then (ar (uK [.l [z3],.l [z4],.i (gi (gi d 0).row 4).int]) fun g2=>some [.i z5,.t (gi g2 0).bool]) else none)) else none) else none) else none) else none)
def IA:aB:=⟨216,[.s (.cptr [.list au,.list au,.list [.int .i64],.list [.int .i64],.int .i64,.list [.list [.int .i64]]]),.s (.int .i64),.s (.int .i64)],[],[],[.s (.int .i64),.s (.bool)],[],[],[],Cj⟩
theorem ahs:aV P t96 (ay.gA [(1,[.hole au,.hole au])]) f216 IA:=fun d=>by kernel_rfl
theorem aht:aT P IA:=aR hm SP func216 (nk _) ahs
def t97:ai:=t96.bh IA
theorem x5:ak P t97:=SP.aP aht

def uL(d:List G):Option (Option Nat × List G) :=
 let k:=((gi d 6).rows++([[.i (gi ((gi d 2).rows.getD (((gi d 8).int).toNat) []) 0).int,.i (gi ((gi d 3).rows.getD (((gi d 9).int).toNat) []) 0).int]]:List (List G))); let z2:=ab (gi d 6).rows.length (gi d 6).rows.length; (bif (gi d 12).bool then (bif ((aJ (gi d 8).int)&&(ao (gi d 8).int (((gi d 2).rows.length:Nat):Int))) then (bif ((aJ (gi d 9).int)&&(ao (gi d 9).int (((gi d 3).rows.length:Nat):Int))) then (bif (z2&&(decide (((gi d 6).rows.length+1)≤1048576))) then (bif (aw ((gi d 9).int+1)) then (bif ((ab k.length k.length)&&true) then some (some 0,[.l (gi d 0).rows,.l (gi d 1).rows,.l (gi d 2).rows,.l (gi d 3).rows,.i (gi d 4).int,.l (gi d 5).rows,.l k,.i ((gi d 9).int+1),.i (gi d 10).int,.i (gi d 11).int]) else none) else none) else none) else none) else none) else (bif (z2&&true) then some (some 1,[.l (gi d 0).rows,.l (gi d 1).rows,.l (gi d 2).rows,.l (gi d 3).rows,.i (gi d 4).int,.l (gi d 5).rows,.l (gi d 6).rows,.i (gi d 7).int,.i (gi d 8).int,.i (gi d 9).int,.i (gi d 10).int,.i (gi d 11).int]) else none))
def SQ:be:=⟨12,[],⟨86,[(0,.s (.ptr 0 0)),(3,.s (.vec 1 2)),(4,.s (.int .i64)),(5,.s (.int .i64)),(6,.s (.int .i64)),(15,.s (.int .i64)),(16,.s (.int .i64)),(63,.s (.bool))],[.box [.list au,.list au,.list [.int .i64],.list [.int .i64],.int .i64,.list [.list [.int .i64]]],.vec [.int .i64,.int .i64] 0]⟩,[.fix 0,.slot 3],[⟨.exit 2,⟨86,[(0,.s (.ptr 0 0)),(3,.s (.vec 1 2)),(4,.s (.int .i64)),(15,.s (.int .i64)),(16,.s (.int .i64))],[.box [.list au,.list au,.list [.int .i64],.list [.int .i64],.int .i64,.list [.list [.int .i64]]],.vec [.int .i64,.int .i64] 0]⟩,[.fix 0,.slot 3]⟩,⟨.normal,⟨86,[(0,.s (.ptr 0 0)),(3,.s (.vec 1 2)),(4,.s (.int .i64)),(5,.s (.int .i64)),(6,.s (.int .i64)),(15,.s (.int .i64)),(16,.s (.int .i64))],[.box [.list au,.list au,.list [.int .i64],.list [.int .i64],.int .i64,.list [.list [.int .i64]]],.vec [.int .i64,.int .i64] 0]⟩,[.fix 0,.slot 3]⟩],uL⟩
theorem ahu:fm P (t97.fV [216]) ay 1 (cutAt f197 12) SQ:=fun d=>by kernel_rfl
def IB:LT:=ay.eP 1 SQ
theorem ahv:ax P 1 IB (aQ f197):=ax.eP hm (x5.fV [216]) (by kernel_rfl) (aL _ _ _) ahu
def r_(d:List G):Option (Option Nat × List G) :=
 let q:=(ab (gi d 6).rows.length (gi d 6).rows.length)&&true; let z3:=(gi d 9).int+1; let z4:=gi ((gi d 5).rows.getD (((gi d 8).int).toNat) []) 0; let z5:=(((gi d 5).rows.length:Nat):Int); let k:=(gi d 8).int+1; let z2:=gi ((gi d 5).rows.getD (k.toNat) []) 0; let B:=gi (z2.rows.getD (z3.toNat) []) 0; (bif (ao (gi d 9).int (((gi d 3).rows.length:Nat):Int)) then (ar (Cj [.l [[.l (gi d 0).rows,.l (gi d 1).rows,.l (gi d 2).rows,.l (gi d 3).rows,.i (gi d 4).int,.l (gi d 5).rows]],.i (gi d 8).int,.i (gi d 9).int]) fun g2=>(bif (gi g2 1).bool then (bif (aw k) then (bif ((aJ k)&&(ao k z5)) then (bif (aw z3) then (bif ((aJ z3)&&(ao z3 ((z2.rows.length:Nat):Int))) then (bif (aw ((gi g2 0).int+B.int)) then (bif ((aJ (gi d 8).int)&&(ao (gi d 8).int z5)) then (bif ((aJ (gi d 7).int)&&(ao (gi d 7).int ((z4.rows.length:Nat):Int))) then (aO q (cf (uL [.l (gi d 0).rows,.l (gi d 1).rows,.l (gi d 2).rows,.l (gi d 3).rows,.i (gi d 4).int,.l (gi d 5).rows,.l (gi d 6).rows,.i (gi d 7).int,.i (gi d 8).int,.i (gi d 9).int,.i (gi d 10).int,.i (gi d 11).int,.t (((gi g2 0).int+B.int)==(gi (z4.rows.getD (((gi d 7).int).toNat) []) 0).int)])) fun J g3=>let I:=(ab (gi g3 6).rows.length (gi g3 6).rows.length)&&true; (bif ab J 0 then (bif I then some (some 0,[.l (gi g3 0).rows,.l (gi g3 1).rows,.l (gi g3 2).rows,.l (gi g3 3).rows,.i (gi g3 4).int,.l (gi g3 5).rows,.l (gi g3 6).rows,.i (gi g3 7).int,.i (gi g3 8).int,.i (gi g3 9).int]) else none) else (bif (aw ((gi g3 9).int+1)) then (bif I then some (none,[.l (gi g3 0).rows,.l (gi g3 1).rows,.l (gi g3 2).rows,.l (gi g3 3).rows,.i (gi g3 4).int,.l (gi g3 5).rows,.l (gi g3 6).rows,.i (gi g3 7).int,.i (gi g3 8).int,.i ((gi g3 9).int+1),.i (gi g3 10).int,.i (gi g3 11).int]) else none) else none))) else none) else none) else none) else none) else none) else none) else none) else (aO q (cf (uL [.l (gi d 0).rows,.l (gi d 1).rows,.l (gi d 2).rows,.l (gi d 3).rows,.i (gi d 4).int,.l (gi d 5).rows,.l (gi d 6).rows,.i (gi d 7).int,.i (gi d 8).int,.i (gi d 9).int,.i (gi d 10).int,.i (gi d 11).int,.t false])) fun M g4=>let z9:=(ab (gi g4 6).rows.length (gi g4 6).rows.length)&&true; (bif ab M 0 then (bif z9 then some (some 0,[.l (gi g4 0).rows,.l (gi g4 1).rows,.l (gi g4 2).rows,.l (gi g4 3).rows,.i (gi g4 4).int,.l (gi g4 5).rows,.l (gi g4 6).rows,.i (gi g4 7).int,.i (gi g4 8).int,.i (gi g4 9).int]) else none) else (bif (aw ((gi g4 9).int+1)) then (bif z9 then some (none,[.l (gi g4 0).rows,.l (gi g4 1).rows,.l (gi g4 2).rows,.l (gi g4 3).rows,.i (gi g4 4).int,.l (gi g4 5).rows,.l (gi g4 6).rows,.i (gi g4 7).int,.i (gi g4 8).int,.i ((gi g4 9).int+1),.i (gi g4 10).int,.i (gi g4 11).int]) else none) else none))))) else (bif q then some (some 0,[.l (gi d 0).rows,.l (gi d 1).rows,.l (gi d 2).rows,.l (gi d 3).rows,.i (gi d 4).int,.l (gi d 5).rows,.l (gi d 6).rows,.i (gi d 7).int,.i (gi d 10).int,.i (gi d 11).int]) else none))
def SR:be:=⟨8,[],⟨86,[(0,.s (.ptr 0 0)),(3,.s (.vec 1 2)),(4,.s (.int .i64)),(5,.s (.int .i64)),(6,.s (.int .i64)),(15,.s (.int .i64)),(16,.s (.int .i64))],[.box [.list au,.list au,.list [.int .i64],.list [.int .i64],.int .i64,.list [.list [.int .i64]]],.vec [.int .i64,.int .i64] 0]⟩,[.fix 0,.slot 3],[⟨.exit 2,⟨86,[(0,.s (.ptr 0 0)),(3,.s (.vec 1 2)),(4,.s (.int .i64)),(15,.s (.int .i64)),(16,.s (.int .i64))],[.box [.list au,.list au,.list [.int .i64],.list [.int .i64],.int .i64,.list [.list [.int .i64]]],.vec [.int .i64,.int .i64] 0]⟩,[.fix 0,.slot 3]⟩],r_⟩
theorem ahw:cy P (t97.fV [216]) IB 1 (cB f197 8) SR:=fun d=>by kernel_rfl
def IC:LT:=IB.add 1 SR
theorem ahx:ax P 1 IC (aQ f197):=ax.add hm (x5.fV [216]) (by kernel_rfl) ahv ahw
def uM(d:List G):Option (Option Nat × List G) :=
 let k:=(ab (gi d 6).rows.length (gi d 6).rows.length)&&true; (bif (ao (gi d 9).int (gi d 8).int) then (aO k (bX r_ [.l (gi d 0).rows,.l (gi d 1).rows,.l (gi d 2).rows,.l (gi d 3).rows,.i (gi d 4).int,.l (gi d 5).rows,.l (gi d 6).rows,.i (gi d 7).int,.i (gi d 9).int,.i (gi d 7).int,.i (gi d 8).int,.i (gi d 9).int]) fun q g5=>(bif (aw ((gi g5 9).int+1)) then (bif ((ab (gi g5 6).rows.length (gi g5 6).rows.length)&&true) then some (none,[.l (gi g5 0).rows,.l (gi g5 1).rows,.l (gi g5 2).rows,.l (gi g5 3).rows,.i (gi g5 4).int,.l (gi g5 5).rows,.l (gi g5 6).rows,.i (gi g5 7).int,.i (gi g5 8).int,.i ((gi g5 9).int+1)]) else none) else none)) else (bif k then some (some 0,[.l (gi d 0).rows,.l (gi d 1).rows,.l (gi d 2).rows,.l (gi d 3).rows,.i (gi d 4).int,.l (gi d 5).rows,.l (gi d 6).rows]) else none))
def SS:be:=⟨5,[(3,[.int .i64,.int .i64])],⟨86,[(0,.s (.ptr 0 0)),(3,.s (.vec 1 2)),(4,.s (.int .i64)),(15,.s (.int .i64)),(16,.s (.int .i64))],[.box [.list au,.list au,.list [.int .i64],.list [.int .i64],.int .i64,.list [.list [.int .i64]]],.vec [.int .i64,.int .i64] 0]⟩,[.fix 0,.slot 3],[⟨.exit 0,⟨86,[(3,.s (.vec 1 2))],[.box [.list au,.list au,.list [.int .i64],.list [.int .i64],.int .i64,.list [.list [.int .i64]]],.vec [.int .i64,.int .i64] 0]⟩,[.fix 0,.slot 3]⟩],uM⟩
theorem ahy:cy P (t97.fV [216]) IC 1 (cB f197 5) SS:=fun d=>by kernel_rfl
def SU:LT:=IC.add 1 SS
theorem ahz:ax P 1 SU (aQ f197):=ax.add hm (x5.fV [216]) (by kernel_rfl) ahx ahy
def Ck(d:List G):Option (List G) :=
 (ar (Ci [.l (gi d 0).rows,.l (gi d 1).rows,.l (gi d 2).rows,.l (gi d 3).rows,.i (gi d 4).int,.l (gi d 5).rows]) fun g1=>(aO true (bX uM [.l (gi g1 0).rows,.l (gi g1 1).rows,.l (gi g1 2).rows,.l (gi g1 3).rows,.i (gi g1 4).int,.l (gi g1 5).rows,.l [],.i 0,.i (((gi g1 2).rows.length:Nat):Int),.i 0]) fun k g6=>(bif ((ab (gi g6 6).rows.length (gi g6 6).rows.length)&&true) then some [.l (gi g6 0).rows,.l (gi g6 1).rows,.l (gi g6 2).rows,.l (gi g6 3).rows,.i (gi g6 4).int,.l (gi g6 5).rows,.l (gi g6 6).rows] else none)))
def ID:aB:=⟨197,[.s (.ptr 0 0)],[.box [.list au,.list au,.list [.int .i64],.list [.int .i64],.int .i64,.list [.list [.int .i64]]]],[.slot 0],[.s (.list [.int .i64,.int .i64])],[.box [.list au,.list au,.list [.int .i64],.list [.int .i64],.int .i64,.list [.list [.int .i64]]]],[.fix 0],[],Ck⟩
theorem ahA:aV P (t97.fV [216]) SU f197 ID:=fun d=>by kernel_rfl
theorem ahB:aT P ID:=tW hm (x5.fV [216]) func197 (by kernel_rfl) ahz ahA (by kernel_rfl)
def t98:ai:=t97.cX ID
theorem SV:ak P t98:=x5.aW ahB

def uN(d:List G):Option (List G) :=
 let k:=(gi (gi d 0).row 0).int-(gi (gi d 1).row 0).int; (bif (aw k) then some [.i k] else none)
def IE:aB:=⟨199,[.s (.row [.int .i64,.int .i64]),.s (.row [.int .i64,.int .i64])],[],[],[.s (.int .i64)],[],[],[],uN⟩
theorem ahC:aV P t98 ay f199 IE:=fun d=>by kernel_rfl
theorem SX:aT P IE:=aR hm SV func199 (aL _ _ _) ahC
def t99:ai:=t98.bh IE
theorem ahD:ak P t99:=SV.aP SX

def x6(d:List G):Option (List G) :=
 rR uN d
def x7:aB:=⟨198,[.s (.vec 0 2),.s (.fn 199)],[.vec [.int .i64,.int .i64] 0],[.slot 0],[],[.vec [.int .i64,.int .i64] 0],[.fix 0],[],x6⟩
theorem ahE:∀ d r,x6 d=some r→dC P 198 (x7.args0 d) (aj (x7.H0 d)) (x7.out r) (aj (x7.H1 r)):=fun d r h=>Ow Tryz.abb [.int .i64,.int .i64] (by kernel_rfl) Tryz.isAgg224 Tryz.sizeOf224 199 (by kernel_rfl) uN (fun d r h=>SX d r h) d r h
def t100:ai:=t99.cX x7
theorem IF:ak P t100:=ahD.aW ahE

def Cl(r d:List G):Option (List G) :=
 (ar (Ck [.l (gi d 1).rows,.l (gi d 3).rows,.l (gi (gi r 1).row 0).rows,.l (gi (bZ [.str,.int .i64] (gi d 4).rows (aU [.str,.int .i64] (gi r 0).row) [.l []]) 0).rows,.i (gi d 7).int,.l []]) fun g3=>let k:=(gi d 6).rows++(gi g3 6).rows; (bif ((ab (gi d 6).rows.length (gi d 6).rows.length)&&(decide (((gi d 6).rows.length+(gi g3 6).rows.length)≤1048576))) then (bif ((ab k.length k.length)&&true) then some [.s (gi d 0).str,.l (gi d 1).rows,.s (gi d 2).str,.l (gi d 3).rows,.l (gi d 4).rows,.i (((gi d 5).int.toNat:Nat):Int),.l k,.i (gi d 7).int,.i (((gi d 8).int.toNat:Nat):Int)] else none) else none))
def ahF(d:List G)(b:Nat):List G:=[.s (gi d 0).str,.l (gi d 1).rows,.s (gi d 2).str,.l (gi d 3).rows,.l (gi d 6).rows,.i (((gi d 7).int.toNat:Nat):Int),.l (gi d 8).rows,.i (gi d 9).int,.i (b:Int)]
def ahG(d:List G)(b:Nat):Bool:=((ab (gi d 8).rows.length (gi d 8).rows.length)&&true)
def Cm:fK:=⟨⟨48,[(2,.s (.int .i64)),(3,.s (.ptr 0 0)),(4,.s (.ptr 1 0)),(8,.s (.map 2)),(9,.s (.vec 3 2)),(24,.s (.addr))],[.box [.str,.list au],.box [.str,.list au],.map (.agg [.str,.int .i64]) (.one (.list [.int .i64])),.vec [.int .i64,.int .i64] 0]⟩,[.slot 3,.slot 4,.slot 8,.slot 9],[],(.agg [.str,.int .i64]),(.one (.list [.int .i64])),2,0,23,24,25,26,27,fun d=>(gi d 8).int.toNat,ahF,ahG,Cl⟩
theorem ahH:kF P t100 ay 0 Cm (oL (cutAt f172 3)) (rO (cutAt f172 3)):=fun r d=>by kernel_rfl
def Cn(d:List G):Option (Option Nat × List G) :=
 let k:=x6 [.l (gi d 6).rows]; (iF (((ab (gi d 6).rows.length (gi d 6).rows.length)&&true)&&k.isSome) k fun g4=>(bif ((ab (gi d 6).rows.length (gi g4 0).rows.length)&&true) then some (some 0,[.l (gi g4 0).rows]) else none))
def SY:be:=⟨8,[],⟨48,[(2,.s (.int .i64)),(3,.s (.ptr 0 0)),(4,.s (.ptr 1 0)),(8,.s (.map 2)),(9,.s (.vec 3 2)),(24,.s (.addr))],[.box [.str,.list au],.box [.str,.list au],.map (.agg [.str,.int .i64]) (.one (.list [.int .i64])),.vec [.int .i64,.int .i64] 0]⟩,[],[⟨.ret,⟨48,[(6,.s (.vec 0 2))],[.vec [.int .i64,.int .i64] 0]⟩,[.slot 6]⟩],Cn⟩
theorem ahI:fm P t100 ay 0 (nl (cutAt f172 3)) SY:=fun d=>by kernel_rfl
def IG(d:List G):Option (Option Nat × List G) :=
 jG Cm Cn (gi d 4).rows ((gi d 5).int.toNat) d
def IH:be:=⟨3,[(9,[.int .i64,.int .i64])],⟨48,[(2,.s (.int .i64)),(3,.s (.ptr 0 0)),(4,.s (.ptr 1 0)),(7,.s (.map 2)),(8,.s (.map 3)),(9,.s (.vec 4 2))],[.box [.str,.list au],.box [.str,.list au],.map (.agg [.str,.int .i64]) (.one (.list [.int .i64])),.map (.agg [.str,.int .i64]) (.one (.list [.int .i64])),.vec [.int .i64,.int .i64] 0]⟩,[.slot 3,.slot 4,.slot 7,.slot 8,.slot 9],[⟨.ret,⟨48,[(6,.s (.vec 0 2))],[.vec [.int .i64,.int .i64] 0]⟩,[.slot 6]⟩],IG⟩
def SZ:LT:=ay.eP 0 IH
theorem ahJ:ax P 0 SZ (aQ f172):=ax.aac (q:=IH) (qr:=SY) (sp:=Cm) (r0:=3) (b0:=0) (r1:=4) (b1:=1) (r2:=5) (rows:=fun d=>(gi d 4).rows) (clock:=fun d=>(gi d 5).int.toNat) (pre:=fun d=>FU P t100 (l9 (cutAt f172 3)) (aM IH.inv d)) hm IF (by kernel_rfl) (aL _ _ _) (by kernel_rfl) (by kernel_rfl) ahH (fun d=>by kernel_rfl) (fun d=>by kernel_rfl) (fun d=>by kernel_rfl) (fun d=>by kernel_rfl) (fun d=>by kernel_rfl) (fun d=>by kernel_rfl) (fun d b=>by kernel_rfl) (fun d b=>rfl) rfl rfl ahI (fun d=>rfl)
def Co(d:List G):Option (List G) :=
 (ar (xX [.l (gi (gi d 0).row 1).rows,.s (gi (gi d 1).row 0).str]) fun g1=>(ar (xX [.l (gi (gi d 1).row 1).rows,.s (gi (gi d 0).row 0).str]) fun g2=>(aO true (cf (IG [.s (gi (gi d 0).row 0).str,.l (gi (gi d 0).row 1).rows,.s (gi (gi d 1).row 0).str,.l (gi (gi d 1).row 1).rows,.l (gi g1 0).rows,.i (((gi g1 1).int.toNat:Nat):Int),.l (gi g2 0).rows,.i (((gi g2 1).int.toNat:Nat):Int),.l [],.i (gi d 2).int])) fun k g5=>(bif ((ab (gi g5 0).rows.length (gi g5 0).rows.length)&&true) then some [.l (gi g5 0).rows] else none))))
def II:aB:=⟨172,[.s (.row [.str,.list au]),.s (.row [.str,.list au]),.s (.int .i64)],[],[],[.s (.list [.int .i64,.int .i64])],[],[],[],Co⟩
theorem ahK:aV P t100 SZ f172 II:=fun d=>by kernel_rfl
theorem ahL:aT P II:=aR hm IF func172 ahJ ahK
def t101:ai:=t100.bh II
theorem IJ:ak P t101:=IF.aP ahL

def x8(d:List G):Option (Option Nat × List G) :=
 let k:=(gi d 10).rows.getD (((gi d 12).int).toNat) []; let z2:=lb [.int .i64] (gi d 3).rows [.i (gi d 9).int]; let z3:=lb [.int .i64] (gi d 6).rows [.i (gi d 9).int]; let z4:=(((gi d 5).int.toNat:Nat):Int); let z5:=(((gi d 8).int.toNat:Nat):Int); (bif (ao (gi d 12).int (gi d 11).int) then (bif ((aJ (gi d 12).int)&&(ao (gi d 12).int (((gi d 10).rows.length:Nat):Int))) then (bif true then (bif (m_ (gi d 4).rows z2) then (bif true then (bif (m_ (gi d 7).rows z3) then (bif (aw ((gi d 12).int+1)) then some (none,[.l (gi d 0).rows,.i (gi d 1).int,.i (gi d 2).int,.l (gi d 3).rows,.l (tG (gi d 4).rows z2 [.int .i64] [.i (gi k 0).int] [.i (gi k 1).int]),.i z4,.l (gi d 6).rows,.l (tG (gi d 7).rows z3 [.int .i64] [.i (gi k 1).int] [.t true]),.i z5,.i (gi d 9).int,.l (gi d 10).rows,.i (gi d 11).int,.i ((gi d 12).int+1)]) else none) else none) else none) else none) else none) else none) else some (some 0,[.l (gi d 0).rows,.i (gi d 1).int,.i (gi d 2).int,.l (gi d 3).rows,.l (gi d 4).rows,.i z4,.l (gi d 6).rows,.l (gi d 7).rows,.i z5]))
def S0:be:=⟨3,[],⟨75,[(0,.s (.ptr 0 0)),(1,.s (.int .i64)),(50,.s (.list [.int .i64,.int .i64])),(51,.s (.int .i64)),(52,.s (.int .i64))],[.box [.list [.str,.list au],.int .i64,.int .i64,.map 1,.map 2],.mm 11 (.one (.int .i64)) (.one (.int .i64)) (.one (.int .i64)),.mm 12 (.one (.int .i64)) (.one (.int .i64)) (.one (.bool))]⟩,[.fix 0,.cell 0 3,.cell 0 4],[⟨.exit 0,⟨75,[],[.box [.list [.str,.list au],.int .i64,.int .i64,.map 1,.map 2],.mm 11 (.one (.int .i64)) (.one (.int .i64)) (.one (.int .i64)),.mm 12 (.one (.int .i64)) (.one (.int .i64)) (.one (.bool))]⟩,[.fix 0,.cell 0 3,.cell 0 4]⟩],x8⟩
theorem ahM:cy P t101 (ay.gA [(1,[.tZ,.tZ])]) 3 (cB f134 3) S0:=fun d=>by kernel_rfl
def S1:LT:=(ay.gA [(1,[.tZ,.tZ])]).add 3 S0
theorem ahN:ax P 3 S1 (aQ f134):=ax.a hm IJ (nk _) ahM
def x9(d:List G):Option (List G) :=
 let k:=(((gi d 5).int.toNat:Nat):Int); let z2:=(((gi d 8).int.toNat:Nat):Int); let z3:=(gi d 3).rows++[[.l [[.i (gi d 9).int]],.i (-1),.i k]]; let z4:=(gi d 6).rows++[[.l [[.i (gi d 9).int]],.i (-1),.i z2]]; let z5:=(((gi d 0).rows.length:Nat):Int); (bif true then (bif (!(Option.isNone (lb [.int .i64] (gi d 3).rows [.i (gi d 9).int]))) then some [.l (gi d 0).rows,.i (gi d 1).int,.i (gi d 2).int,.l (gi d 3).rows,.l (gi d 4).rows,.i k,.l (gi d 6).rows,.l (gi d 7).rows,.i z2] else (bif (!du [.int .i64] (gi d 3).rows [.i (gi d 9).int]) then (bif (tH z3 k) then (bif (!du [.int .i64] (gi d 6).rows [.i (gi d 9).int]) then (bif (tH z4 z2) then (bif ((aJ (gi d 1).int)&&(ao (gi d 1).int z5)) then (bif ((aJ (gi d 9).int)&&(ao (gi d 9).int z5)) then (ar (Co [.l [(aU [.str,.list au] ((gi d 0).rows.getD (((gi d 1).int).toNat) []))],.l [(aU [.str,.list au] ((gi d 0).rows.getD (((gi d 9).int).toNat) []))],.i (gi d 2).int]) fun g1=>(aO true (bX x8 [.l (gi d 0).rows,.i (gi d 1).int,.i (gi d 2).int,.l (tJ z3 k ((gi d 4).rows.length)),.l ((gi d 4).rows++[[.l [],.i 0]]),.i ((((gi d 5).int.toNat+1):Nat):Int),.l (tJ z4 z2 ((gi d 7).rows.length)),.l ((gi d 7).rows++[[.l [],.i 0]]),.i ((((gi d 8).int.toNat+1):Nat):Int),.i (gi d 9).int,.l (gi g1 0).rows,.i (((gi g1 0).rows.length:Nat):Int),.i 0]) fun q g2=>some [.l (gi g2 0).rows,.i (gi g2 1).int,.i (gi g2 2).int,.l (gi g2 3).rows,.l (gi g2 4).rows,.i (((gi g2 5).int.toNat:Nat):Int),.l (gi g2 6).rows,.l (gi g2 7).rows,.i (((gi g2 8).int.toNat:Nat):Int)])) else none) else none) else none) else none) else none) else none)) else none)
def IK:aB:=⟨134,[.s (.ptr 0 0),.s (.int .i64)],[.box [.list [.str,.list au],.int .i64,.int .i64,.map 1,.map 2],.mm 11 (.one (.int .i64)) (.one (.int .i64)) (.one (.int .i64)),.mm 12 (.one (.int .i64)) (.one (.int .i64)) (.one (.bool))],[.slot 0,.cell 0 3,.cell 0 4],[],[.box [.list [.str,.list au],.int .i64,.int .i64,.map 1,.map 2],.mm 11 (.one (.int .i64)) (.one (.int .i64)) (.one (.int .i64)),.mm 12 (.one (.int .i64)) (.one (.int .i64)) (.one (.bool))],[.fix 0,.fix 1,.fix 2],[],x9⟩
theorem ahO:aV P t101 S1 f134 IK:=fun d=>by kernel_rfl
theorem ahP:aT P IK:=aR hm IJ func134 ahN ahO
def t102:ai:=t101.cX IK
theorem S2:ak P t102:=IJ.aW ahP

def x_(d:List G):Option (List G) :=
 (bif ((gi (gi d 0).row 4).int==(gi (gi d 1).row 5).int) then some [.t ((gi (gi d 0).row 6).str.toList==(gi (gi d 1).row 7).str.toList)] else some [.t false])
def IL:aB:=⟨135,[.s (.row au),.s (.row au)],[],[],[.s (.bool)],[],[],[],x_⟩
theorem ahQ:aV P t102 ay f135 IL:=fun d=>by kernel_rfl
theorem ahR:aT P IL:=aR hm S2 func135 (aL _ _ _) ahQ
def t103:ai:=t102.bh IL
theorem sa:ak P t103:=S2.aP ahR

def ya(d:List G):Option (Option Nat × List G) :=
 (bif (aw ((gi d 10).int+1)) then (bif ((ab (gi d 3).rows.length (gi d 3).rows.length)&&true) then some (some 0,[.l (gi d 0).rows,.l (gi d 1).rows,.l (gi d 2).rows,.l (gi d 3).rows,.s (gi d 4).str,.s (gi d 5).str,.i (gi d 6).int,.i (gi d 7).int,.i (gi d 8).int,.i (gi d 9).int,.i ((gi d 10).int+1)]) else none) else none)
def S3:be:=⟨19,[],⟨129,[(0,.s (.str)),(1,.s (.str)),(5,.s (.ptr 0 0)),(6,.s (.int .i64)),(7,.s (.vec 1 1)),(12,.s (.int .i64)),(13,.s (.int .i64)),(21,.s (.int .i64)),(22,.s (.int .i64))],[.box [.list [.int .i64],.list [.int .i64],.list [.int .i64]],.vec [.int .i64] 0]⟩,[.slot 5,.slot 7],[⟨.normal,⟨129,[(0,.s (.str)),(1,.s (.str)),(5,.s (.ptr 0 0)),(6,.s (.int .i64)),(7,.s (.vec 1 1)),(12,.s (.int .i64)),(13,.s (.int .i64)),(21,.s (.int .i64)),(22,.s (.int .i64))],[.box [.list [.int .i64],.list [.int .i64],.list [.int .i64]],.vec [.int .i64] 0]⟩,[.slot 5,.slot 7]⟩],ya⟩
theorem ahS:fm P t103 ay 0 (cutAt f200 19) S3:=fun d=>by kernel_rfl
def IM:LT:=ay.eP 0 S3
theorem ahT:ax P 0 IM (aQ f200):=ax.aC hm sa (aL _ _ _) ahS
def IN(d:List G):Option (Option Nat × List G) :=
 let z2:=((aJ (gi d 7).int)&&(ao (gi d 7).int (((gi d 3).rows.length:Nat):Int))); let z3:=decide ((0+((gi d 7).int).toNat)<(gi d 3).rows.length); let z4:=(gi d 7).int-2; let k:=(gi d 3).rows.set (0+((gi d 7).int).toNat) (dR [.int .i64] ((gi d 3).rows.getD (0+((gi d 7).int).toNat) []) 0 [.i (if ((gi ((gi d 1).rows.getD (z4.toNat) []) 0).int+1)<(gi ((gi d 3).rows.getD (0+((gi d 7).int).toNat) []) 0).int then ((gi ((gi d 1).rows.getD (z4.toNat) []) 0).int+1) else (gi ((gi d 3).rows.getD (0+((gi d 7).int).toNat) []) 0).int)]); (bif (gi d 12).bool then (bif z2 then (bif z3 then (bif (aw z4) then (bif ((aJ z4)&&(ao z4 (((gi d 1).rows.length:Nat):Int))) then (bif (aw ((gi ((gi d 1).rows.getD (z4.toNat) []) 0).int+1)) then (bif z2 then (bif z3 then (bif ((ab (gi d 3).rows.length k.length)&&true) then some (some 0,[.l (gi d 0).rows,.l (gi d 1).rows,.l (gi d 2).rows,.l k,.s (gi d 4).str,.s (gi d 5).str,.i (gi d 6).int,.i (gi d 8).int,.i (gi d 9).int,.i (gi d 10).int,.i (gi d 11).int]) else none) else none) else none) else none) else none) else none) else none) else none) else (bif ((ab (gi d 3).rows.length (gi d 3).rows.length)&&true) then some (some 0,[.l (gi d 0).rows,.l (gi d 1).rows,.l (gi d 2).rows,.l (gi d 3).rows,.s (gi d 4).str,.s (gi d 5).str,.i (gi d 6).int,.i (gi d 8).int,.i (gi d 9).int,.i (gi d 10).int,.i (gi d 11).int]) else none))
def S4:be:=⟨18,[],⟨129,[(0,.s (.str)),(1,.s (.str)),(5,.s (.ptr 0 0)),(6,.s (.int .i64)),(7,.s (.vec 1 1)),(8,.s (.int .i64)),(12,.s (.int .i64)),(13,.s (.int .i64)),(21,.s (.int .i64)),(22,.s (.int .i64)),(99,.s (.bool))],[.box [.list [.int .i64],.list [.int .i64],.list [.int .i64]],.vec [.int .i64] 0]⟩,[.slot 5,.slot 7],[⟨.normal,⟨129,[(0,.s (.str)),(1,.s (.str)),(5,.s (.ptr 0 0)),(6,.s (.int .i64)),(7,.s (.vec 1 1)),(12,.s (.int .i64)),(13,.s (.int .i64)),(21,.s (.int .i64)),(22,.s (.int .i64))],[.box [.list [.int .i64],.list [.int .i64],.list [.int .i64]],.vec [.int .i64] 0]⟩,[.slot 5,.slot 7]⟩],IN⟩
theorem ahU:fm P t103 IM 0 (cutAt f200 18) S4:=fun d=>by kernel_rfl
def IP:LT:=IM.eP 0 S4
theorem ahV:ax P 0 IP (aQ f200):=ax.aC hm sa ahT ahU
def IQ(d:List G):Option (Option Nat × List G) :=
 let z3:=(gi d 7).int-1; let B:=(gi d 3).rows.set (0+((gi d 7).int).toNat) (dR [.int .i64] ((gi d 3).rows.getD (0+((gi d 7).int).toNat) []) 0 [.i (if ((gi ((gi d 2).rows.getD (z3.toNat) []) 0).int+(gi d 8).int)<(if ((gi ((gi d 3).rows.getD (0+z3.toNat) []) 0).int+1)<((gi ((gi d 2).rows.getD (((gi d 7).int).toNat) []) 0).int+1) then ((gi ((gi d 3).rows.getD (0+z3.toNat) []) 0).int+1) else ((gi ((gi d 2).rows.getD (((gi d 7).int).toNat) []) 0).int+1)) then ((gi ((gi d 2).rows.getD (z3.toNat) []) 0).int+(gi d 8).int) else (if ((gi ((gi d 3).rows.getD (0+z3.toNat) []) 0).int+1)<((gi ((gi d 2).rows.getD (((gi d 7).int).toNat) []) 0).int+1) then ((gi ((gi d 3).rows.getD (0+z3.toNat) []) 0).int+1) else ((gi ((gi d 2).rows.getD (((gi d 7).int).toNat) []) 0).int+1)))]); let z2:=cf (IN [.l (gi d 0).rows,.l (gi d 1).rows,.l (gi d 2).rows,.l B,.s (gi d 4).str,.s (gi d 5).str,.i (gi d 6).int,.i (gi d 7).int,.i (gi d 9).int,.i (gi d 10).int,.i (gi d 11).int,.i (gi d 12).int,.t false]); let z4:=(ab (gi d 3).rows.length B.length)&&true; let z5:=(gi d 6).int-1; let k:=(gi d 7).int-2; let q:=(gi d 6).int-2; let M:=(((gi d 2).rows.length:Nat):Int); let z9:=(((gi d 3).rows.length:Nat):Int); let I:=(((gi d 4).str.size:Nat):Int); let J:=(((gi d 5).str.size:Nat):Int); (bif ((aJ (gi d 7).int)&&(ao (gi d 7).int M)) then (bif (aw ((gi ((gi d 2).rows.getD (((gi d 7).int).toNat) []) 0).int+1)) then (bif (aw z3) then (bif ((aJ z3)&&(ao z3 z9)) then (bif (decide ((0+z3.toNat)<(gi d 3).rows.length)) then (bif (aw ((gi ((gi d 3).rows.getD (0+z3.toNat) []) 0).int+1)) then (bif (aw z3) then (bif ((aJ z3)&&(ao z3 M)) then (bif (aw ((gi ((gi d 2).rows.getD (z3.toNat) []) 0).int+(gi d 8).int)) then (bif ((aJ (gi d 7).int)&&(ao (gi d 7).int z9)) then (bif (decide ((0+((gi d 7).int).toNat)<(gi d 3).rows.length)) then (bif (ao 1 (gi d 6).int) then (bif (ao 1 (gi d 7).int) then (bif (aw z5) then (bif ((aJ z5)&&(ao z5 I)) then (bif (aw k) then (bif ((aJ k)&&(ao k J)) then (bif ((((gi d 4).str.data.toList.getD (z5.toNat) 0).toNat:Int)==(((gi d 5).str.data.toList.getD (k.toNat) 0).toNat:Int)) then (bif (aw q) then (bif ((aJ q)&&(ao q I)) then (bif (aw z3) then (bif ((aJ z3)&&(ao z3 J)) then (aO z4 (cf (IN [.l (gi d 0).rows,.l (gi d 1).rows,.l (gi d 2).rows,.l B,.s (gi d 4).str,.s (gi d 5).str,.i (gi d 6).int,.i (gi d 7).int,.i (gi d 9).int,.i (gi d 10).int,.i (gi d 11).int,.i (gi d 12).int,.t ((((gi d 4).str.data.toList.getD (q.toNat) 0).toNat:Int)==(((gi d 5).str.data.toList.getD (z3.toNat) 0).toNat:Int))])) fun N g3=>(bif ((ab (gi g3 3).rows.length (gi g3 3).rows.length)&&true) then some (some 0,[.l (gi g3 0).rows,.l (gi g3 1).rows,.l (gi g3 2).rows,.l (gi g3 3).rows,.s (gi g3 4).str,.s (gi g3 5).str,.i (gi g3 6).int,.i (gi g3 7).int,.i (gi g3 8).int,.i (gi g3 9).int,.i (gi g3 10).int]) else none)) else none) else none) else none) else none) else (aO z4 z2 fun O g4=>(bif ((ab (gi g4 3).rows.length (gi g4 3).rows.length)&&true) then some (some 0,[.l (gi g4 0).rows,.l (gi g4 1).rows,.l (gi g4 2).rows,.l (gi g4 3).rows,.s (gi g4 4).str,.s (gi g4 5).str,.i (gi g4 6).int,.i (gi g4 7).int,.i (gi g4 8).int,.i (gi g4 9).int,.i (gi g4 10).int]) else none))) else none) else none) else none) else none) else (aO z4 z2 fun U g5=>(bif ((ab (gi g5 3).rows.length (gi g5 3).rows.length)&&true) then some (some 0,[.l (gi g5 0).rows,.l (gi g5 1).rows,.l (gi g5 2).rows,.l (gi g5 3).rows,.s (gi g5 4).str,.s (gi g5 5).str,.i (gi g5 6).int,.i (gi g5 7).int,.i (gi g5 8).int,.i (gi g5 9).int,.i (gi g5 10).int]) else none))) else (aO z4 z2 fun V g6=>(bif ((ab (gi g6 3).rows.length (gi g6 3).rows.length)&&true) then some (some 0,[.l (gi g6 0).rows,.l (gi g6 1).rows,.l (gi g6 2).rows,.l (gi g6 3).rows,.s (gi g6 4).str,.s (gi g6 5).str,.i (gi g6 6).int,.i (gi g6 7).int,.i (gi g6 8).int,.i (gi g6 9).int,.i (gi g6 10).int]) else none))) else none) else none) else none) else none) else none) else none) else none) else none) else none) else none) else none)
def S5:be:=⟨16,[],⟨129,[(0,.s (.str)),(1,.s (.str)),(5,.s (.ptr 0 0)),(6,.s (.int .i64)),(7,.s (.vec 1 1)),(8,.s (.int .i64)),(9,.s (.int .i64)),(12,.s (.int .i64)),(13,.s (.int .i64)),(21,.s (.int .i64)),(22,.s (.int .i64))],[.box [.list [.int .i64],.list [.int .i64],.list [.int .i64]],.vec [.int .i64] 0]⟩,[.slot 5,.slot 7],[⟨.normal,⟨129,[(0,.s (.str)),(1,.s (.str)),(5,.s (.ptr 0 0)),(6,.s (.int .i64)),(7,.s (.vec 1 1)),(12,.s (.int .i64)),(13,.s (.int .i64)),(21,.s (.int .i64)),(22,.s (.int .i64))],[.box [.list [.int .i64],.list [.int .i64],.list [.int .i64]],.vec [.int .i64] 0]⟩,[.slot 5,.slot 7]⟩],IQ⟩
theorem ahW:fm P t103 IP 0 (cutAt f200 16) S5:=fun d=>by kernel_rfl
def IS:LT:=IP.eP 0 S5
theorem ahX:ax P 0 IS (aQ f200):=ax.aC hm sa ahV ahW
def S6(d:List G):Option (Option Nat × List G) :=
 let k:=0+((gi d 10).int).toNat; let z2:=(ab (gi d 3).rows.length (gi d 3).rows.length)&&true; let z3:=(gi d 3).rows.set k (dR [.int .i64] ((gi d 3).rows.getD k []) 0 [.i (gi d 10).int]); let z4:=(gi d 3).rows.set k (dR [.int .i64] ((gi d 3).rows.getD k []) 0 [.i (gi d 6).int]); let z5:=((aJ (gi d 10).int)&&(ao (gi d 10).int (((gi d 3).rows.length:Nat):Int))); let q:=(gi d 10).int-1; let B:=(gi d 6).int-1; let I:=decide (k<(gi d 3).rows.length); (bif (ao (gi d 10).int (gi d 9).int) then (bif ((gi d 6).int==0) then (bif z5 then (bif I then (aO ((ab (gi d 3).rows.length z3.length)&&true) (cf (ya [.l (gi d 0).rows,.l (gi d 1).rows,.l (gi d 2).rows,.l z3,.s (gi d 4).str,.s (gi d 5).str,.i (gi d 6).int,.i (gi d 7).int,.i (gi d 8).int,.i (gi d 9).int,.i (gi d 10).int])) fun M g1=>(bif ((ab (gi g1 3).rows.length (gi g1 3).rows.length)&&true) then some (none,[.l (gi g1 0).rows,.l (gi g1 1).rows,.l (gi g1 2).rows,.l (gi g1 3).rows,.s (gi g1 4).str,.s (gi g1 5).str,.i (gi g1 6).int,.i (gi g1 7).int,.i (gi g1 8).int,.i (gi g1 9).int,.i (gi g1 10).int]) else none)) else none) else none) else (bif ((gi d 10).int==0) then (bif z5 then (bif I then (aO ((ab (gi d 3).rows.length z4.length)&&true) (cf (ya [.l (gi d 0).rows,.l (gi d 1).rows,.l (gi d 2).rows,.l z4,.s (gi d 4).str,.s (gi d 5).str,.i (gi d 6).int,.i (gi d 7).int,.i (gi d 8).int,.i (gi d 9).int,.i (gi d 10).int])) fun N g2=>(bif ((ab (gi g2 3).rows.length (gi g2 3).rows.length)&&true) then some (none,[.l (gi g2 0).rows,.l (gi g2 1).rows,.l (gi g2 2).rows,.l (gi g2 3).rows,.s (gi g2 4).str,.s (gi g2 5).str,.i (gi g2 6).int,.i (gi g2 7).int,.i (gi g2 8).int,.i (gi g2 9).int,.i (gi g2 10).int]) else none)) else none) else none) else (bif (aw B) then (bif ((aJ B)&&(ao B (((gi d 4).str.size:Nat):Int))) then (bif (aw q) then (bif ((aJ q)&&(ao q (((gi d 5).str.size:Nat):Int))) then (bif ((((gi d 4).str.data.toList.getD (B.toNat) 0).toNat:Int)==(((gi d 5).str.data.toList.getD (q.toNat) 0).toNat:Int)) then (aO z2 (cf (IQ [.l (gi d 0).rows,.l (gi d 1).rows,.l (gi d 2).rows,.l (gi d 3).rows,.s (gi d 4).str,.s (gi d 5).str,.i (gi d 6).int,.i (gi d 10).int,.i 0,.i (gi d 7).int,.i (gi d 8).int,.i (gi d 9).int,.i (gi d 10).int])) fun O g7=>(aO ((ab (gi g7 3).rows.length (gi g7 3).rows.length)&&true) (cf (ya [.l (gi g7 0).rows,.l (gi g7 1).rows,.l (gi g7 2).rows,.l (gi g7 3).rows,.s (gi g7 4).str,.s (gi g7 5).str,.i (gi g7 6).int,.i (gi g7 7).int,.i (gi g7 8).int,.i (gi g7 9).int,.i (gi g7 10).int])) fun U g8=>(bif ((ab (gi g8 3).rows.length (gi g8 3).rows.length)&&true) then some (none,[.l (gi g8 0).rows,.l (gi g8 1).rows,.l (gi g8 2).rows,.l (gi g8 3).rows,.s (gi g8 4).str,.s (gi g8 5).str,.i (gi g8 6).int,.i (gi g8 7).int,.i (gi g8 8).int,.i (gi g8 9).int,.i (gi g8 10).int]) else none))) else (aO z2 (cf (IQ [.l (gi d 0).rows,.l (gi d 1).rows,.l (gi d 2).rows,.l (gi d 3).rows,.s (gi d 4).str,.s (gi d 5).str,.i (gi d 6).int,.i (gi d 10).int,.i 1,.i (gi d 7).int,.i (gi d 8).int,.i (gi d 9).int,.i (gi d 10).int])) fun V g9=>(aO ((ab (gi g9 3).rows.length (gi g9 3).rows.length)&&true) (cf (ya [.l (gi g9 0).rows,.l (gi g9 1).rows,.l (gi g9 2).rows,.l (gi g9 3).rows,.s (gi g9 4).str,.s (gi g9 5).str,.i (gi g9 6).int,.i (gi g9 7).int,.i (gi g9 8).int,.i (gi g9 9).int,.i (gi g9 10).int])) fun J g10=>(bif ((ab (gi g10 3).rows.length (gi g10 3).rows.length)&&true) then some (none,[.l (gi g10 0).rows,.l (gi g10 1).rows,.l (gi g10 2).rows,.l (gi g10 3).rows,.s (gi g10 4).str,.s (gi g10 5).str,.i (gi g10 6).int,.i (gi g10 7).int,.i (gi g10 8).int,.i (gi g10 9).int,.i (gi g10 10).int]) else none)))) else none) else none) else none) else none))) else (bif z2 then some (some 0,[.l (gi d 0).rows,.l (gi d 1).rows,.l (gi d 2).rows,.l (gi d 3).rows,.s (gi d 4).str,.s (gi d 5).str,.i (gi d 7).int,.i (gi d 8).int]) else none))
def S7:be:=⟨7,[],⟨129,[(0,.s (.str)),(1,.s (.str)),(5,.s (.ptr 0 0)),(6,.s (.int .i64)),(7,.s (.vec 1 1)),(12,.s (.int .i64)),(13,.s (.int .i64)),(21,.s (.int .i64)),(22,.s (.int .i64))],[.box [.list [.int .i64],.list [.int .i64],.list [.int .i64]],.vec [.int .i64] 0]⟩,[.slot 5,.slot 7],[⟨.exit 2,⟨129,[(0,.s (.str)),(1,.s (.str)),(5,.s (.ptr 0 0)),(7,.s (.vec 1 1)),(12,.s (.int .i64)),(13,.s (.int .i64))],[.box [.list [.int .i64],.list [.int .i64],.list [.int .i64]],.vec [.int .i64] 0]⟩,[.slot 5,.slot 7]⟩],S6⟩
theorem ahY:cy P t103 IS 0 (cB f200 7) S7:=fun d=>by kernel_rfl
def IT:LT:=IS.add 0 S7
theorem ahZ:ax P 0 IT (aQ f200):=ax.a hm sa ahX ahY
def S8(d:List G):Option (Option Nat × List G) :=
 let k:=((((gi d 4).str.size:Nat):Int)+1); let z2:=(cd (k.toNat) ([.i 0]:List G)); (bif (ao (gi d 6).int (gi d 5).int) then (bif (aw k) then (bif ((aJ k)&&((bx k k)&&(bx k 1048576))) then (aO ((ab k.toNat z2.length)&&true) (bX S6 [.l (gi d 0).rows,.l (gi d 1).rows,.l (gi d 2).rows,.l z2,.s (gi d 3).str,.s (gi d 4).str,.i (gi d 6).int,.i (gi d 5).int,.i (gi d 6).int,.i ((k.toNat:Nat):Int),.i 0]) fun q g11=>(bif (aw ((gi g11 7).int+1)) then (bif ((((ab (gi g11 3).rows.length (gi g11 3).rows.length)&&true)&&true)&&true) then some (none,[.l (gi g11 1).rows,.l (gi g11 2).rows,.l (gi g11 3).rows,.s (gi g11 4).str,.s (gi g11 5).str,.i (gi g11 6).int,.i ((gi g11 7).int+1)]) else none) else none)) else none) else none) else some (some 0,[.l (gi d 0).rows,.l (gi d 1).rows,.l (gi d 2).rows,.s (gi d 4).str]))
def S9:be:=⟨3,[],⟨129,[(0,.s (.str)),(1,.s (.str)),(5,.s (.ptr 0 0)),(12,.s (.int .i64)),(13,.s (.int .i64))],[.box [.list [.int .i64],.list [.int .i64],.list [.int .i64]]]⟩,[.slot 5],[⟨.exit 0,⟨129,[(1,.s (.str)),(5,.s (.ptr 0 0))],[.box [.list [.int .i64],.list [.int .i64],.list [.int .i64]]]⟩,[.slot 5]⟩],S8⟩
theorem ah0:cy P t103 IT 0 (cB f200 3) S9:=fun d=>by kernel_rfl
def S_:LT:=IT.add 0 S9
theorem ah1:ax P 0 S_ (aQ f200):=ax.a hm sa ahZ ah0
def S'(d:List G):Option (List G) :=
 let k:=((((gi d 0).str.size:Nat):Int)+1); (bif (aw k) then (aO true (bX S8 [.l [],.l [],.l [],.s (gi d 0).str,.s (gi d 1).str,.i k,.i 0]) fun q g12=>let z2:=(((gi g12 3).str.size:Nat):Int); (bif ((aJ z2)&&(ao z2 (((gi g12 2).rows.length:Nat):Int))) then some [.i (gi ((gi g12 2).rows.getD ((gi g12 3).str.size) []) 0).int] else none)) else none)
def IU:aB:=⟨200,[.s (.str),.s (.str)],[],[],[.s (.int .i64)],[],[],[],S'⟩
theorem ah2:aV P t103 S_ f200 IU:=fun d=>by kernel_rfl
theorem ah3:aT P IU:=aR hm sa func200 ah1 ah2
def t104:ai:=t103.bh IU
theorem IV:ak P t104:=sa.aP ah3

end
end Go.Proofs.gl
