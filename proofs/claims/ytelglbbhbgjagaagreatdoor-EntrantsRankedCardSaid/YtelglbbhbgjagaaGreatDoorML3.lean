/-
 What is proved here: functions of the program as functions on data. No condition.
-/
import Derived.Test.YtelglbbhbgjagaaGreatDoorML2
set_option linter.all false
namespace Go.Proofs.SYtelglbbhbgjagaaGreatDoor
open Go Go.AL Go.Proofs
noncomputable section
def F_club_isInside (d:List G):Option (List G) :=
 (callF (F_club_clubAt [.l (gi d 0).rows,.s (gi (gi d 1).row 1).str]) fun g1=>(bif (gi g1 1).bool then (bif ((nnI (gi g1 0).int)&&(ltI (gi g1 0).int (((gi d 0).rows.length:Nat):Int))) then (callF (F_sl_ContainsFunc_string [.l (gi ((gi d 0).rows.getD (((gi g1 0).int).toNat) []) 1).rows,.l [(gEta KMember (gi d 1).row)]]) fun g2=>some [.t (gi g2 0).bool]) else none) else some [.t false]))
def s_club_isInside:FSpec:=⟨91,[.s (.list [.str,.list [.str]]),.s (.row KMember)],[],[],[.s (.bool)],[],[],[],F_club_isInside⟩
theorem b_club_isInside:BodyOK P (t50.lessPf [136]) nL0 Tryz.f91 s_club_isInside:=fun d=>by kernel_rfl
theorem c_club_isInside:COK P s_club_isInside:=bodyC hm (t50_ok.lessPf [136]) Tryz.func91 (by kernel_rfl) (nLk _ _ _) b_club_isInside (by kernel_rfl)
def t51:Tab:=t50.addP s_club_isInside
theorem t51_ok:TabOK P t51:=t50_ok.aP c_club_isInside

def F_club_clubOf (d:List G):Option (List G) :=
 (bif (!(mhas [.str] (gi d 0).rows [.s (gi d 3).str])) then some [.l (gi d 0).rows,.i (((gi d 1).int.toNat:Nat):Int),.s (⟨#[]⟩:ByteArray)] else (callF (F_club_isInside [.l (gi d 2).rows,.l [(gEta KMember (mget [.str] (gi d 0).rows [.s (gi d 3).str] [.s (⟨#[]⟩:ByteArray),.s (⟨#[]⟩:ByteArray),.i 0,.s (⟨#[]⟩:ByteArray)]))]]) fun g1=>(bif (!(gi g1 0).bool) then some [.l (gi d 0).rows,.i (((gi d 1).int.toNat:Nat):Int),.s (⟨#[]⟩:ByteArray)] else some [.l (gi d 0).rows,.i (((gi d 1).int.toNat:Nat):Int),.s (gi (mget [.str] (gi d 0).rows [.s (gi d 3).str] [.s (⟨#[]⟩:ByteArray),.s (⟨#[]⟩:ByteArray),.i 0,.s (⟨#[]⟩:ByteArray)]) 1).str])))
def s_club_clubOf:FSpec:=⟨49,[.s (.list [.str,.list [.str]]),.s (.map 0),.s (.str)],[.map (.one (.str)) (.agg KMember)],[.slot 1],[.s (.str)],[.map (.one (.str)) (.agg KMember)],[.fix 0],[],F_club_clubOf⟩
theorem b_club_clubOf:BodyOK P t51 nL0 Tryz.f49 s_club_clubOf:=fun d=>by kernel_rfl
theorem c_club_clubOf:COK P s_club_clubOf:=bdC hm t51_ok Tryz.func49 (nLk _ _ _) b_club_clubOf
def t52:Tab:=t51.addW s_club_clubOf
theorem t52_ok:TabOK P t52:=t51_ok.aW c_club_clubOf

def F_sl_Sort_int (d:List G):Option (List G) :=
 sortIG d
def s_sl_Sort_int:FSpec:=⟨51,[.s (.vec 0 1)],[.vec [.int .i64] 0],[.slot 0],[],[.vec [.int .i64] 0],[.fix 0],[],F_sl_Sort_int⟩
theorem c_sl_Sort_int:∀ d r,F_sl_Sort_int d=some r→ACallX P 51 (s_sl_Sort_int.args0 d) (denH (s_sl_Sort_int.H0 d)) (s_sl_Sort_int.out r) (denH (s_sl_Sort_int.H1 r)):=fun d r h=>sortI_call Tryz.laysSortI51 d r h
def t53:Tab:=t52.addW s_sl_Sort_int
theorem t53_ok:TabOK P t53:=t52_ok.aW c_sl_Sort_int

def st_sl_Reverse_int_1 (d:List G):Option (Option Nat × List G) :=
 (bif (ltI (gi d 1).int (gi d 2).int) then (bif ((nnI (gi d 2).int)&&(ltI (gi d 2).int (((gi d 0).rows.length:Nat):Int))) then (bif (decide ((0+((gi d 2).int).toNat)<(gi d 0).rows.length)) then (bif ((nnI (gi d 1).int)&&(ltI (gi d 1).int (((gi d 0).rows.length:Nat):Int))) then (bif (decide ((0+((gi d 1).int).toNat)<(gi d 0).rows.length)) then (bif ((nnI (gi d 1).int)&&(ltI (gi d 1).int (((gi d 0).rows.length:Nat):Int))) then (bif (decide ((0+((gi d 1).int).toNat)<(gi d 0).rows.length)) then (bif ((nnI (gi d 2).int)&&(ltI (gi d 2).int (((gi d 0).rows.length:Nat):Int))) then (bif (decide ((0+((gi d 2).int).toNat)<((gi d 0).rows.set (0+((gi d 1).int).toNat) (putG [.int .i64] ((gi d 0).rows.getD (0+((gi d 1).int).toNat) []) 0 [.i (gi ((gi d 0).rows.getD (0+((gi d 2).int).toNat) []) 0).int])).length)) then (bif (inI ((gi d 1).int+1)) then (bif (inI ((gi d 2).int-1)) then (bif ((Nat.beq (gi d 0).rows.length (((gi d 0).rows.set (0+((gi d 1).int).toNat) (putG [.int .i64] ((gi d 0).rows.getD (0+((gi d 1).int).toNat) []) 0 [.i (gi ((gi d 0).rows.getD (0+((gi d 2).int).toNat) []) 0).int])).set (0+((gi d 2).int).toNat) (putG [.int .i64] (((gi d 0).rows.set (0+((gi d 1).int).toNat) (putG [.int .i64] ((gi d 0).rows.getD (0+((gi d 1).int).toNat) []) 0 [.i (gi ((gi d 0).rows.getD (0+((gi d 2).int).toNat) []) 0).int])).getD (0+((gi d 2).int).toNat) []) 0 [.i (gi ((gi d 0).rows.getD (0+((gi d 1).int).toNat) []) 0).int])).length)&&true) then some (none,[.l (((gi d 0).rows.set (0+((gi d 1).int).toNat) (putG [.int .i64] ((gi d 0).rows.getD (0+((gi d 1).int).toNat) []) 0 [.i (gi ((gi d 0).rows.getD (0+((gi d 2).int).toNat) []) 0).int])).set (0+((gi d 2).int).toNat) (putG [.int .i64] (((gi d 0).rows.set (0+((gi d 1).int).toNat) (putG [.int .i64] ((gi d 0).rows.getD (0+((gi d 1).int).toNat) []) 0 [.i (gi ((gi d 0).rows.getD (0+((gi d 2).int).toNat) []) 0).int])).getD (0+((gi d 2).int).toNat) []) 0 [.i (gi ((gi d 0).rows.getD (0+((gi d 1).int).toNat) []) 0).int])),.i ((gi d 1).int+1),.i ((gi d 2).int-1)]) else none) else none) else none) else none) else none) else none) else none) else none) else none) else none) else none) else some (some 0,[.l (gi d 0).rows]))
def l_sl_Reverse_int_1:LSpec:=⟨1,[],⟨28,[(0,.s (.vec 0 1)),(2,.s (.int .i64)),(3,.s (.int .i64))],[.vec [.int .i64] 0]⟩,[.fix 0],[⟨.exit 0,⟨28,[],[.vec [.int .i64] 0]⟩,[.fix 0]⟩],st_sl_Reverse_int_1⟩
theorem r_sl_Reverse_int_1:RoundOK P t53 nL0 1 (loopAt Tryz.f52 1) l_sl_Reverse_int_1:=fun d=>by kernel_rfl
def L_sl_Reverse_int_1:LT:=nL0.add 1 l_sl_Reverse_int_1
theorem L_sl_Reverse_int_1_ok:LpK P 1 L_sl_Reverse_int_1 (bodyOf Tryz.f52):=LpK.a hm t53_ok (nLk _ _ _) r_sl_Reverse_int_1
def F_sl_Reverse_int (d:List G):Option (List G) :=
 (bif (inI ((((gi d 0).rows.length:Nat):Int)-1)) then (loopB ((Nat.beq (gi d 0).rows.length (gi d 0).rows.length)&&true) (LRun st_sl_Reverse_int_1 [.l (gi d 0).rows,.i 0,.i ((((gi d 0).rows.length:Nat):Int)-1)]) fun cg1 g1=>some [.l (gi g1 0).rows]) else none)
def s_sl_Reverse_int:FSpec:=⟨52,[.s (.vec 0 1)],[.vec [.int .i64] 0],[.slot 0],[],[.vec [.int .i64] 0],[.fix 0],[],F_sl_Reverse_int⟩
theorem b_sl_Reverse_int:BodyOK P t53 L_sl_Reverse_int_1 Tryz.f52 s_sl_Reverse_int:=fun d=>by kernel_rfl
theorem c_sl_Reverse_int:COK P s_sl_Reverse_int:=bdC hm t53_ok Tryz.func52 L_sl_Reverse_int_1_ok b_sl_Reverse_int
def t54:Tab:=t53.addW s_sl_Reverse_int
theorem t54_ok:TabOK P t54:=t53_ok.aW c_sl_Reverse_int

def st_club_Clubs_12 (d:List G):Option (Option Nat × List G) :=
 (bif (ltI (gi d 8).int (gi d 7).int) then (bif ((nnI (gi d 8).int)&&(ltI (gi d 8).int (((gi d 6).rows.length:Nat):Int))) then (callF (F_call_BaseOf [.s (gi ((gi d 6).rows.getD (((gi d 8).int).toNat) []) 0).str]) fun g6=>(callF (F_club_clubOf [.l (gi d 2).rows,.i (((gi d 3).int.toNat:Nat):Int),.l (gi d 4).rows,.s (gi g6 0).str]) fun g7=>(bif (!((gi g7 2).str.toList==(⟨#[]⟩:ByteArray).toList)) then (bif (pin [.str] (gi d 0).rows [.s (gi g7 2).str]) then (bif ((Nat.beq (pget [.str] (gi d 0).rows [.s (gi g7 2).str]).length (pget [.str] (gi d 0).rows [.s (gi g7 2).str]).length)&&(decide (((pget [.str] (gi d 0).rows [.s (gi g7 2).str]).length+1)≤1048576))) then (bif (Nat.beq ((pget [.str] (gi d 0).rows [.s (gi g7 2).str])++([[.i (gi ((gi d 6).rows.getD (((gi d 8).int).toNat) []) 2).int]]:List (List G))).length ((pget [.str] (gi d 0).rows [.s (gi g7 2).str])++([[.i (gi ((gi d 6).rows.getD (((gi d 8).int).toNat) []) 2).int]]:List (List G))).length) then (bif (inI ((gi d 8).int+1)) then some (none,[.l (pput [.str] (ptake [.str] (gi d 0).rows [.s (gi g7 2).str]) [.s (gi g7 2).str] ((pget [.str] (gi d 0).rows [.s (gi g7 2).str])++([[.i (gi ((gi d 6).rows.getD (((gi d 8).int).toNat) []) 2).int]]:List (List G))) (gi d 1).int.toNat),.i (((mclk [.str] (ptake [.str] (gi d 0).rows [.s (gi g7 2).str]) [.s (gi g7 2).str] (gi d 1).int.toNat):Nat):Int),.l (gi g7 0).rows,.i (((gi g7 1).int.toNat:Nat):Int),.l (gi d 4).rows,.i (gi d 5).int,.l (gi d 6).rows,.i (gi d 7).int,.i ((gi d 8).int+1)]) else none) else none) else none) else none) else (bif (inI ((gi d 8).int+1)) then some (none,[.l (gi d 0).rows,.i (((gi d 1).int.toNat:Nat):Int),.l (gi g7 0).rows,.i (((gi g7 1).int.toNat:Nat):Int),.l (gi d 4).rows,.i (gi d 5).int,.l (gi d 6).rows,.i (gi d 7).int,.i ((gi d 8).int+1)]) else none)))) else none) else some (some 0,[.l (gi d 0).rows,.i (((gi d 1).int.toNat:Nat):Int),.i (gi d 5).int]))
def l_club_Clubs_12:LSpec:=⟨12,[],⟨105,[(0,.s (.list [.str,.list [.str]])),(4,.s (.int .i64)),(14,.s (.map 0)),(15,.s (.map 1)),(47,.s (.list KMember)),(48,.s (.int .i64)),(49,.s (.int .i64))],[.pool 1 (.one (.str)) [.int .i64],.map (.one (.str)) (.agg KMember)]⟩,[.slot 14,.slot 15],[⟨.exit 0,⟨105,[(4,.s (.int .i64)),(14,.s (.map 0))],[.pool 1 (.one (.str)) [.int .i64]]⟩,[.slot 14]⟩],st_club_Clubs_12⟩
theorem r_club_Clubs_12:RoundOK P (t54.morePf [1500084]) (nL0.hinted [(10,[.pool 14 1])]) 0 (loopAt Tryz.f11 12) l_club_Clubs_12:=fun d=>by kernel_rfl
def L_club_Clubs_12:LT:=(nL0.hinted [(10,[.pool 14 1])]).add 0 l_club_Clubs_12
theorem L_club_Clubs_12_ok:LpK P 0 L_club_Clubs_12 (bodyOf Tryz.f11):=LpK.add hm (t54_ok.morePf [1500084]) (by kernel_rfl) (hinted_ok _) r_club_Clubs_12
def st_club_Clubs_26 (d:List G):Option (Option Nat × List G) :=
 (bif (ltI (gi d 8).int (gi d 7).int) then (bif ((nnI (gi d 8).int)&&(ltI (gi d 8).int (((gi d 6).int.toNat:Nat):Int))) then (bif (decide ((0+((gi d 8).int).toNat)<(gi d 1).rows.length)) then (bif (inI ((gi d 4).int+(gi ((gi d 1).rows.getD (0+((gi d 8).int).toNat) []) 0).int)) then (bif (inI ((gi d 8).int+1)) then (bif ((Nat.beq (gi d 0).rows.length (gi d 0).rows.length)&&true) then some (none,[.l (gi d 0).rows,.l (gi d 1).rows,.i (gi d 2).int,.s (gi d 3).str,.i ((gi d 4).int+(gi ((gi d 1).rows.getD (0+((gi d 8).int).toNat) []) 0).int),.i (((gi d 5).int.toNat:Nat):Int),.i (((gi d 6).int.toNat:Nat):Int),.i (gi d 7).int,.i ((gi d 8).int+1)]) else none) else none) else none) else none) else none) else (bif ((Nat.beq (gi d 0).rows.length (gi d 0).rows.length)&&true) then some (some 0,[.l (gi d 0).rows,.i (gi d 2).int,.s (gi d 3).str,.i (gi d 4).int,.i (((gi d 5).int.toNat:Nat):Int)]) else none))
def l_club_Clubs_26:LSpec:=⟨26,[],⟨105,[(4,.s (.int .i64)),(19,.s (.vec 0 3)),(20,.s (.str)),(22,.s (.int .i64)),(72,.s (.addr)),(87,.s (.pre 1 1)),(88,.s (.int .i64)),(89,.s (.int .i64))],[.vec KPlace 0,.vec [.int .i64] 0]⟩,[.slot 19,.slot 87],[⟨.exit 4,⟨105,[(4,.s (.int .i64)),(19,.s (.vec 0 3)),(20,.s (.str)),(22,.s (.int .i64)),(72,.s (.addr))],[.vec KPlace 0]⟩,[.slot 19]⟩],st_club_Clubs_26⟩
theorem r_club_Clubs_26:RoundOK P (t54.morePf [1500084]) L_club_Clubs_12 0 (loopAt Tryz.f11 26) l_club_Clubs_26:=fun d=>by kernel_rfl
def L_club_Clubs_26:LT:=L_club_Clubs_12.add 0 l_club_Clubs_26
theorem L_club_Clubs_26_ok:LpK P 0 L_club_Clubs_26 (bodyOf Tryz.f11):=LpK.add hm (t54_ok.morePf [1500084]) (by kernel_rfl) L_club_Clubs_12_ok r_club_Clubs_26
def sr_club_Clubs_19 (r d:List G):Option (List G) :=
 (callB (((Nat.beq (slotG r).length (slotG r).length)&&true)&&(F_sl_Sort_int [.l (slotG r)]).isSome) (F_sl_Sort_int [.l (slotG r)]) fun g9=>(callB (((Nat.beq (slotG r).length (gi g9 0).rows.length)&&true)&&(F_sl_Reverse_int [.l (gi g9 0).rows]).isSome) (F_sl_Reverse_int [.l (gi g9 0).rows]) fun g10=>(bif ((nnI (if (((slotG r).length:Nat):Int)<(gi d 1).int then (((slotG r).length:Nat):Int) else (gi d 1).int))&&(leI (if (((slotG r).length:Nat):Int)<(gi d 1).int then (((slotG r).length:Nat):Int) else (gi d 1).int) (((slotG r).length:Nat):Int))) then (loopB ((Nat.beq (gi d 0).rows.length (gi d 0).rows.length)&&true) (LRun st_club_Clubs_26 [.l (gi d 0).rows,.l (gi g10 0).rows,.i (gi d 1).int,.s (gi (gi r 0).row 0).str,.i 0,.i (((gi d 2).int.toNat:Nat):Int),.i ((((if (((slotG r).length:Nat):Int)<(gi d 1).int then (((slotG r).length:Nat):Int) else (gi d 1).int).toNat-0):Nat):Int),.i ((((if (((slotG r).length:Nat):Int)<(gi d 1).int then (((slotG r).length:Nat):Int) else (gi d 1).int).toNat-0):Nat):Int),.i 0]) fun cg11 g11=>(bif ((Nat.beq (gi g11 0).rows.length (gi g11 0).rows.length)&&(decide (((gi g11 0).rows.length+1)≤1048576))) then (bif ((Nat.beq ((gi g11 0).rows++([[.i 0,.i (gi g11 3).int,.s (gi g11 2).str]]:List (List G))).length ((gi g11 0).rows++([[.i 0,.i (gi g11 3).int,.s (gi g11 2).str]]:List (List G))).length)&&true) then some [.l ((gi g11 0).rows++([[.i 0,.i (gi g11 3).int,.s (gi g11 2).str]]:List (List G))),.i (gi g11 1).int,.i (((gi g11 4).int.toNat:Nat):Int)] else none) else none)) else none)))
def ri_club_Clubs_19 (d:List G) (b:Nat):List G:=[.l (gi d 2).rows,.i (gi d 3).int,.i (b:Int)]
def rb_club_Clubs_19 (d:List G) (b:Nat):Bool:=((Nat.beq (gi d 2).rows.length (gi d 2).rows.length)&&true)
def rs_club_Clubs_19:RSpec:=⟨⟨105,[(4,.s (.int .i64)),(19,.s (.vec 0 3)),(72,.s (.addr))],[.vec KPlace 0]⟩,[.slot 19],[],(.one (.str)),(.one (.list [.int .i64])),0,0,71,72,73,74,75,fun d=>(gi d 2).int.toNat,ri_club_Clubs_19,rb_club_Clubs_19,sr_club_Clubs_19⟩
theorem w_club_Clubs_19:RRoundP P (t54.morePf [1500084]) L_club_Clubs_26 0 rs_club_Clubs_19 (rOps2 (cutAt Tryz.f11 19)) (rBody (cutAt Tryz.f11 19)):=fun r d=>by kernel_rfl
def tr_club_Clubs_19 (d:List G):Option (Option Nat × List G) :=
 (callB (((Nat.beq (gi d 0).rows.length (gi d 0).rows.length)&&true)&&(F_club_ranked [.l (gi d 0).rows]).isSome) (F_club_ranked [.l (gi d 0).rows]) fun g12=>(bif ((Nat.beq (gi g12 0).rows.length (gi g12 0).rows.length)&&true) then some (some 0,[.l (gi g12 0).rows,.i 0]) else none))
def l_club_Clubs_19r:LSpec:=⟨31,[],⟨105,[(4,.s (.int .i64)),(19,.s (.vec 0 3)),(72,.s (.addr))],[.vec KPlace 0]⟩,[],[⟨.ret,⟨105,[(10,.s (.vec 0 3)),(11,.s (.int .i64))],[.vec KPlace 0]⟩,[.slot 10]⟩],tr_club_Clubs_19⟩
theorem v_club_Clubs_19:CutOK P (t54.morePf [1500084]) L_club_Clubs_26 0 (rRest (cutAt Tryz.f11 19)) l_club_Clubs_19r:=fun d=>by kernel_rfl
def tl_club_Clubs_19 (d:List G):Option (Option Nat × List G) :=
 rangeP rs_club_Clubs_19 tr_club_Clubs_19 (gi d 0).rows ((gi d 1).int.toNat) d
def l_club_Clubs_19c:LSpec:=⟨19,[(19,KPlace)],⟨105,[(4,.s (.int .i64)),(14,.s (.map 0)),(19,.s (.vec 1 3))],[.pool 1 (.one (.str)) [.int .i64],.vec KPlace 0]⟩,[.slot 14,.slot 19],[⟨.ret,⟨105,[(10,.s (.vec 0 3)),(11,.s (.int .i64))],[.vec KPlace 0]⟩,[.slot 10]⟩],tl_club_Clubs_19⟩
def L_club_Clubs_19c:LT:=L_club_Clubs_26.addCut 0 l_club_Clubs_19c
theorem L_club_Clubs_19c_ok:LpK P 0 L_club_Clubs_19c (bodyOf Tryz.f11):=LpK.addRangeP (q:=l_club_Clubs_19c) (qr:=l_club_Clubs_19r) (sp:=rs_club_Clubs_19) (r0:=19) (b0:=2) (r1:=20) (b1:=3) (r2:=21) (rows:=fun d=>(gi d 0).rows) (clock:=fun d=>(gi d 1).int.toNat) (pre:=fun d=>preOf P (t54.morePf [1500084]) (rOps0 (cutAt Tryz.f11 19)) (mkSt l_club_Clubs_19c.inv d)) (lb:=1) hm (t54_ok.morePf [1500084]) (by kernel_rfl) L_club_Clubs_26_ok (by kernel_rfl) (by kernel_rfl) w_club_Clubs_19 (fun d=>by kernel_rfl) (fun d=>by kernel_rfl) (fun d=>by kernel_rfl) (fun d=>by kernel_rfl) (fun d=>by kernel_rfl) (fun d=>by kernel_rfl) (fun d b=>by kernel_rfl) (fun d b=>rfl) rfl rfl v_club_Clubs_19 (fun d=>rfl)
def F_club_Clubs (d:List G):Option (List G) :=
 (callF (F_club_CheckMembers [.l (gi d 0).rows,.l (gi d 1).rows]) fun g1=>(bif ((gi g1 0).int != 0) then some [.l [],.i (gi g1 0).int] else (callF (F_club_CheckEntrants [.l (gi d 2).rows]) fun g2=>(bif ((gi g2 0).int != 0) then some [.l [],.i (gi g2 0).int] else (callF (F_club_isDay [.i (gi d 3).int]) fun g3=>(bif (!(gi g3 0).bool) then some [.l [],.i 1] else (callF (F_kit_Outside [.i (gi d 4).int,.i 1,.i 500]) fun g4=>(bif (gi g4 0).bool then some [.l [],.i 1] else (callF (F_club_last_f [.l (gi d 1).rows,.i (gi d 3).int]) fun g5=>(loopB true (LRun st_club_Clubs_12 [.l [],.i 0,.l (gi g5 0).rows,.i (((gi g5 1).int.toNat:Nat):Int),.l (gi d 0).rows,.i (gi d 4).int,.l (gi d 2).rows,.i (((gi d 2).rows.length:Nat):Int),.i 0]) fun cg8 g8=>(loopB true (cutR (tl_club_Clubs_19 [.l (gi g8 0).rows,.i (((gi g8 1).int.toNat:Nat):Int),.l [],.i (gi g8 2).int])) fun cg13 g13=>(bif ((Nat.beq (gi g13 0).rows.length (gi g13 0).rows.length)&&true) then some [.l (gi g13 0).rows,.i (gi g13 1).int] else none))))))))))))
def s_club_Clubs:FSpec:=⟨11,[.s (.list [.str,.list [.str]]),.s (.list KMember),.s (.list KMember),.s (.int .i64),.s (.int .i64)],[],[],[.s (.list KPlace),.s (.int .i64)],[],[],[],F_club_Clubs⟩
theorem b_club_Clubs:BodyOK P (t54.morePf [1500084]) L_club_Clubs_19c Tryz.f11 s_club_Clubs:=fun d=>by kernel_rfl
theorem c_club_Clubs:COK P s_club_Clubs:=bodyC hm (t54_ok.morePf [1500084]) Tryz.func11 (by kernel_rfl) L_club_Clubs_19c_ok b_club_Clubs (by kernel_rfl)
def t55:Tab:=t54.addP s_club_Clubs
theorem t55_ok:TabOK P t55:=t54_ok.aP c_club_Clubs

def F_club_Needed_1 (d:List G):Option (List G) :=
 (bif ((gi (gi d 0).row 1).str.toList==(gi (gi d 1).row 0).str.toList) then some [.t ((gi (gi d 0).row 0).str.toList==(gi (gi d 2).row 0).str.toList)] else some [.t false])
def s_club_Needed_1:FSpec:=⟨54,[.s (.row KMember),.s (.cptr [.str]),.s (.cptr [.str])],[],[],[.s (.bool)],[],[],[],F_club_Needed_1⟩
theorem b_club_Needed_1:BodyOK P t55 nL0 Tryz.f54 s_club_Needed_1:=fun d=>by kernel_rfl
theorem c_club_Needed_1:COK P s_club_Needed_1:=bdC hm t55_ok Tryz.func54 (nLk _ _ _) b_club_Needed_1
def t56:Tab:=t55.addP s_club_Needed_1
theorem t56_ok:TabOK P t56:=t55_ok.aP c_club_Needed_1

def st_sl_IndexFunc_Entrant_2 (d:List G):Option (Option Nat × List G) :=
 (bif (ltI (gi d 4).int (gi d 3).int) then (bif ((nnI (gi d 4).int)&&(ltI (gi d 4).int (((gi d 0).rows.length:Nat):Int))) then (callF (F_club_Needed_1 [.l [(gEta KMember ((gi d 0).rows.getD (((gi d 4).int).toNat) []))],.l [[.s (gi (gi d 1).row 0).str]],.l [[.s (gi (gi d 2).row 0).str]]]) fun g1=>(bif (gi g1 0).bool then some (some 0,[.i (gi d 4).int]) else (bif (inI ((gi d 4).int+1)) then some (none,[.l (gi d 0).rows,.l [[.s (gi (gi d 1).row 0).str]],.l [[.s (gi (gi d 2).row 0).str]],.i (gi d 3).int,.i ((gi d 4).int+1)]) else none))) else none) else some (some 1,[]))
def l_sl_IndexFunc_Entrant_2:LSpec:=⟨2,[],⟨19,[(0,.s (.list KMember)),(1,.clo 54 [.cptr [.str],.cptr [.str]]),(7,.s (.int .i64)),(8,.s (.int .i64))],[]⟩,[],[⟨.ret,⟨19,[(4,.s (.int .i64))],[]⟩,[]⟩,⟨.exit 0,⟨19,[],[]⟩,[]⟩],st_sl_IndexFunc_Entrant_2⟩
theorem r_sl_IndexFunc_Entrant_2:RoundOK P t56 nL0 0 (loopAt Tryz.f53 2) l_sl_IndexFunc_Entrant_2:=fun d=>by kernel_rfl
def L_sl_IndexFunc_Entrant_2:LT:=nL0.add 0 l_sl_IndexFunc_Entrant_2
theorem L_sl_IndexFunc_Entrant_2_ok:LpK P 0 L_sl_IndexFunc_Entrant_2 (bodyOf Tryz.f53):=LpK.a hm t56_ok (nLk _ _ _) r_sl_IndexFunc_Entrant_2
def F_sl_IndexFunc_Entrant (d:List G):Option (List G) :=
 (loopB true (LRun st_sl_IndexFunc_Entrant_2 [.l (gi d 0).rows,.l [[.s (gi (gi d 1).row 0).str]],.l [[.s (gi (gi d 2).row 0).str]],.i (((gi d 0).rows.length:Nat):Int),.i 0]) fun cg2 g2=>(bif Nat.beq cg2 0 then some [.i (gi g2 0).int] else some [.i (-1)]))
def s_sl_IndexFunc_Entrant:FSpec:=⟨53,[.s (.list KMember),.clo 54 [.cptr [.str],.cptr [.str]]],[],[],[.s (.int .i64)],[],[],[],F_sl_IndexFunc_Entrant⟩
theorem b_sl_IndexFunc_Entrant:BodyOK P t56 L_sl_IndexFunc_Entrant_2 Tryz.f53 s_sl_IndexFunc_Entrant:=fun d=>by kernel_rfl
theorem c_sl_IndexFunc_Entrant:COK P s_sl_IndexFunc_Entrant:=bdC hm t56_ok Tryz.func53 L_sl_IndexFunc_Entrant_2_ok b_sl_IndexFunc_Entrant
def t57:Tab:=t56.addP s_sl_IndexFunc_Entrant
theorem t57_ok:TabOK P t57:=t56_ok.aP c_sl_IndexFunc_Entrant

def st_club_Needed_11 (d:List G):Option (Option Nat × List G) :=
 (bif (ltI (gi d 6).int (gi d 5).int) then (bif ((nnI (gi d 6).int)&&(ltI (gi d 6).int (((gi d 4).rows.length:Nat):Int))) then (bif ((gi ((gi d 4).rows.getD (((gi d 6).int).toNat) []) 1).str.toList==(gi d 0).str.toList) then (bif ((nnI (gi d 2).int)&&(ltI (gi d 2).int (((gi d 1).rows.length:Nat):Int))) then (bif (ltI (gi ((gi d 1).rows.getD (((gi d 2).int).toNat) []) 2).int (gi ((gi d 4).rows.getD (((gi d 6).int).toNat) []) 2).int) then (bif (ltI (gi d 3).int 0) then (bif (inI ((gi d 6).int+1)) then some (none,[.s (gi d 0).str,.l (gi d 1).rows,.i (gi d 2).int,.i (gi ((gi d 4).rows.getD (((gi d 6).int).toNat) []) 2).int,.l (gi d 4).rows,.i (gi d 5).int,.i ((gi d 6).int+1)]) else none) else (bif (ltI (gi ((gi d 4).rows.getD (((gi d 6).int).toNat) []) 2).int (gi d 3).int) then (bif (inI ((gi d 6).int+1)) then some (none,[.s (gi d 0).str,.l (gi d 1).rows,.i (gi d 2).int,.i (gi ((gi d 4).rows.getD (((gi d 6).int).toNat) []) 2).int,.l (gi d 4).rows,.i (gi d 5).int,.i ((gi d 6).int+1)]) else none) else (bif (inI ((gi d 6).int+1)) then some (none,[.s (gi d 0).str,.l (gi d 1).rows,.i (gi d 2).int,.i (gi d 3).int,.l (gi d 4).rows,.i (gi d 5).int,.i ((gi d 6).int+1)]) else none))) else (bif (inI ((gi d 6).int+1)) then some (none,[.s (gi d 0).str,.l (gi d 1).rows,.i (gi d 2).int,.i (gi d 3).int,.l (gi d 4).rows,.i (gi d 5).int,.i ((gi d 6).int+1)]) else none)) else none) else (bif (inI ((gi d 6).int+1)) then some (none,[.s (gi d 0).str,.l (gi d 1).rows,.i (gi d 2).int,.i (gi d 3).int,.l (gi d 4).rows,.i (gi d 5).int,.i ((gi d 6).int+1)]) else none)) else none) else some (some 0,[.l (gi d 1).rows,.i (gi d 2).int,.i (gi d 3).int]))
def l_club_Needed_11:LSpec:=⟨11,[],⟨69,[(0,.s (.list KMember)),(4,.s (.ptr 0 0)),(9,.s (.int .i64)),(10,.s (.int .i64)),(26,.s (.list KMember)),(27,.s (.int .i64)),(28,.s (.int .i64))],[.box [.str]]⟩,[.slot 4],[⟨.exit 0,⟨69,[(0,.s (.list KMember)),(9,.s (.int .i64)),(10,.s (.int .i64))],[]⟩,[]⟩],st_club_Needed_11⟩
theorem r_club_Needed_11:RoundOK P (t57.lessPf [53]) nL0 0 (loopAt Tryz.f12 11) l_club_Needed_11:=fun d=>by kernel_rfl
def L_club_Needed_11:LT:=nL0.add 0 l_club_Needed_11
theorem L_club_Needed_11_ok:LpK P 0 L_club_Needed_11 (bodyOf Tryz.f12):=LpK.add hm (t57_ok.lessPf [53]) (by kernel_rfl) (nLk _ _ _) r_club_Needed_11
def F_club_Needed (d:List G):Option (List G) :=
 (callF (F_club_CheckEntrants [.l (gi d 0).rows]) fun g1=>(bif ((gi g1 0).int != 0) then some [.i 0,.i (gi g1 0).int] else (callF (F_kit_IsKey [.s (gi d 1).str]) fun g2=>(bif (!(gi g2 0).bool) then some [.i 0,.i 5] else (callF (F_sl_IndexFunc_Entrant [.l (gi d 0).rows,.l [[.s (gi d 1).str]],.l [[.s (gi d 2).str]]]) fun g3=>(bif (ltI (gi g3 0).int 0) then some [.i 0,.i 8] else (loopB true (LRun st_club_Needed_11 [.s (gi d 1).str,.l (gi d 0).rows,.i (gi g3 0).int,.i (-1),.l (gi d 0).rows,.i (((gi d 0).rows.length:Nat):Int),.i 0]) fun cg4 g4=>(bif (ltI (gi g4 2).int 0) then some [.i 0,.i 0] else (bif ((nnI (gi g4 1).int)&&(ltI (gi g4 1).int (((gi g4 0).rows.length:Nat):Int))) then (bif (inI ((gi g4 2).int-(gi ((gi g4 0).rows.getD (((gi g4 1).int).toNat) []) 2).int)) then (bif (inI (((gi g4 2).int-(gi ((gi g4 0).rows.getD (((gi g4 1).int).toNat) []) 2).int)+1)) then some [.i (((gi g4 2).int-(gi ((gi g4 0).rows.getD (((gi g4 1).int).toNat) []) 2).int)+1),.i 0] else none) else none) else none)))))))))
def s_club_Needed:FSpec:=⟨12,[.s (.list KMember),.s (.str),.s (.str)],[],[],[.s (.int .i64),.s (.int .i64)],[],[],[],F_club_Needed⟩
theorem b_club_Needed:BodyOK P (t57.lessPf [53]) L_club_Needed_11 Tryz.f12 s_club_Needed:=fun d=>by kernel_rfl
theorem c_club_Needed:COK P s_club_Needed:=bodyC hm (t57_ok.lessPf [53]) Tryz.func12 (by kernel_rfl) L_club_Needed_11_ok b_club_Needed (by kernel_rfl)
def t58:Tab:=t57.addP s_club_Needed
theorem t58_ok:TabOK P t58:=t57_ok.aP c_club_Needed

def F_r2_Call (d:List G):Option (List G) :=
 (callF (F_r1_PartsOf [.s (gi d 0).str]) fun g1=>some [.t (gi g1 1).bool])
def s_r2_Call:FSpec:=⟨55,[.s (.str)],[],[],[.s (.bool)],[],[],[],F_r2_Call⟩
theorem b_r2_Call:BodyOK P t58 nL0 Tryz.f55 s_r2_Call:=fun d=>by kernel_rfl
theorem c_r2_Call:COK P s_r2_Call:=bdC hm t58_ok Tryz.func55 (nLk _ _ _) b_r2_Call
def t59:Tab:=t58.addP s_r2_Call
theorem t59_ok:TabOK P t59:=t58_ok.aP c_r2_Call

def F_r2_in (d:List G):Option (List G) :=
 (bif (leI (gi d 1).int (gi d 0).int) then some [.t (leI (gi d 0).int (gi d 2).int)] else some [.t false])
def s_r2_in:FSpec:=⟨57,[.s (.int .i64),.s (.int .i64),.s (.int .i64)],[],[],[.s (.bool)],[],[],[],F_r2_in⟩
theorem b_r2_in:BodyOK P t59 nL0 Tryz.f57 s_r2_in:=fun d=>by kernel_rfl
theorem c_r2_in:COK P s_r2_in:=bdC hm t59_ok Tryz.func57 (nLk _ _ _) b_r2_in
def t60:Tab:=t59.addP s_r2_in
theorem t60_ok:TabOK P t60:=t59_ok.aP c_r2_in

def st_r2_only_2 (d:List G):Option (Option Nat × List G) :=
 (bif (ltI (gi d 3).int (gi d 2).int) then (bif ((nnI (gi d 3).int)&&(ltI (gi d 3).int (((gi d 0).str.size:Nat):Int))) then (callF (F_strings_IndexByte [.s (gi d 1).str,.i (((gi d 0).str.data.toList.getD (((gi d 3).int).toNat) 0).toNat:Int)]) fun g1=>(bif (ltI (gi g1 0).int 0) then some (some 0,[.t false]) else (bif (inI ((gi d 3).int+1)) then some (none,[.s (gi d 0).str,.s (gi d 1).str,.i (gi d 2).int,.i ((gi d 3).int+1)]) else none))) else none) else some (some 1,[]))
def l_r2_only_2:LSpec:=⟨2,[],⟨18,[(0,.s (.str)),(1,.s (.str)),(7,.s (.int .i64)),(8,.s (.int .i64))],[]⟩,[],[⟨.ret,⟨18,[(4,.s (.bool))],[]⟩,[]⟩,⟨.exit 0,⟨18,[],[]⟩,[]⟩],st_r2_only_2⟩
theorem r_r2_only_2:RoundOK P t60 nL0 0 (loopAt Tryz.f96 2) l_r2_only_2:=fun d=>by kernel_rfl
def L_r2_only_2:LT:=nL0.add 0 l_r2_only_2
theorem L_r2_only_2_ok:LpK P 0 L_r2_only_2 (bodyOf Tryz.f96):=LpK.a hm t60_ok (nLk _ _ _) r_r2_only_2
def F_r2_only (d:List G):Option (List G) :=
 (loopB true (LRun st_r2_only_2 [.s (gi d 0).str,.s (gi d 1).str,.i (((gi d 0).str.size:Nat):Int),.i 0]) fun cg2 g2=>(bif Nat.beq cg2 0 then some [.t (gi g2 0).bool] else some [.t true]))
def s_r2_only:FSpec:=⟨96,[.s (.str),.s (.str)],[],[],[.s (.bool)],[],[],[],F_r2_only⟩
theorem b_r2_only:BodyOK P t60 L_r2_only_2 Tryz.f96 s_r2_only:=fun d=>by kernel_rfl
theorem c_r2_only:COK P s_r2_only:=bdC hm t60_ok Tryz.func96 L_r2_only_2_ok b_r2_only
def t61:Tab:=t60.addP s_r2_only
theorem t61_ok:TabOK P t61:=t60_ok.aP c_r2_only

def F_r2_Key (d:List G):Option (List G) :=
 (callF (F_r2_in [.i (((gi d 0).str.size:Nat):Int),.i 1,.i 40]) fun g1=>(bif (gi g1 0).bool then (bif (leI 1 (((gi d 0).str.size:Nat):Int)) then (callF (F_r2_only [.s ((gi d 0).str.extract 0 1),.s (⟨#[97,98,99,100,101,102,103,104,105,106,107,108,109,110,111,112,113,114,115,116,117,118,119,120,121,122]⟩:ByteArray)]) fun g2=>(bif (gi g2 0).bool then (callF (F_r2_only [.s (gi d 0).str,.s (⟨#[97,98,99,100,101,102,103,104,105,106,107,108,109,110,111,112,113,114,115,116,117,118,119,120,121,122,48,49,50,51,52,53,54,55,56,57,45,95]⟩:ByteArray)]) fun g3=>some [.t (gi g3 0).bool]) else some [.t false])) else none) else some [.t false]))
def s_r2_Key:FSpec:=⟨56,[.s (.str)],[],[],[.s (.bool)],[],[],[],F_r2_Key⟩
theorem b_r2_Key:BodyOK P t61 nL0 Tryz.f56 s_r2_Key:=fun d=>by kernel_rfl
theorem c_r2_Key:COK P s_r2_Key:=bdC hm t61_ok Tryz.func56 (nLk _ _ _) b_r2_Key
def t62:Tab:=t61.addP s_r2_Key
theorem t62_ok:TabOK P t62:=t61_ok.aP c_r2_Key

def st_sl_Index_int_2 (d:List G):Option (Option Nat × List G) :=
 (bif (ltI (gi d 3).int (gi d 2).int) then (bif ((nnI (gi d 3).int)&&(ltI (gi d 3).int (((gi d 0).rows.length:Nat):Int))) then (bif ((gi d 1).int==(gi ((gi d 0).rows.getD (((gi d 3).int).toNat) []) 0).int) then some (some 0,[.i (gi d 3).int]) else (bif (inI ((gi d 3).int+1)) then some (none,[.l (gi d 0).rows,.i (gi d 1).int,.i (gi d 2).int,.i ((gi d 3).int+1)]) else none)) else none) else some (some 1,[]))
def l_sl_Index_int_2:LSpec:=⟨2,[],⟨19,[(0,.s (.list [.int .i64])),(1,.s (.int .i64)),(7,.s (.int .i64)),(8,.s (.int .i64))],[]⟩,[],[⟨.ret,⟨19,[(4,.s (.int .i64))],[]⟩,[]⟩,⟨.exit 0,⟨19,[],[]⟩,[]⟩],st_sl_Index_int_2⟩
theorem r_sl_Index_int_2:RoundOK P t62 nL0 0 (loopAt Tryz.f214 2) l_sl_Index_int_2:=fun d=>by kernel_rfl
def L_sl_Index_int_2:LT:=nL0.add 0 l_sl_Index_int_2
theorem L_sl_Index_int_2_ok:LpK P 0 L_sl_Index_int_2 (bodyOf Tryz.f214):=LpK.a hm t62_ok (nLk _ _ _) r_sl_Index_int_2
def F_sl_Index_int (d:List G):Option (List G) :=
 (loopB true (LRun st_sl_Index_int_2 [.l (gi d 0).rows,.i (gi d 1).int,.i (((gi d 0).rows.length:Nat):Int),.i 0]) fun cg1 g1=>(bif Nat.beq cg1 0 then some [.i (gi g1 0).int] else some [.i (-1)]))
def s_sl_Index_int:FSpec:=⟨214,[.s (.list [.int .i64]),.s (.int .i64)],[],[],[.s (.int .i64)],[],[],[],F_sl_Index_int⟩
theorem b_sl_Index_int:BodyOK P t62 L_sl_Index_int_2 Tryz.f214 s_sl_Index_int:=fun d=>by kernel_rfl
theorem c_sl_Index_int:COK P s_sl_Index_int:=bdC hm t62_ok Tryz.func214 L_sl_Index_int_2_ok b_sl_Index_int
def t63:Tab:=t62.addP s_sl_Index_int
theorem t63_ok:TabOK P t63:=t62_ok.aP c_sl_Index_int

def F_sl_Contains_int (d:List G):Option (List G) :=
 (callF (F_sl_Index_int [.l (gi d 0).rows,.i (gi d 1).int]) fun g1=>some [.t (leI 0 (gi g1 0).int)])
def s_sl_Contains_int:FSpec:=⟨158,[.s (.list [.int .i64]),.s (.int .i64)],[],[],[.s (.bool)],[],[],[],F_sl_Contains_int⟩
theorem b_sl_Contains_int:BodyOK P t63 nL0 Tryz.f158 s_sl_Contains_int:=fun d=>by kernel_rfl
theorem c_sl_Contains_int:COK P s_sl_Contains_int:=bdC hm t63_ok Tryz.func158 (nLk _ _ _) b_sl_Contains_int
def t64:Tab:=t63.addP s_sl_Contains_int
theorem t64_ok:TabOK P t64:=t63_ok.aP c_sl_Contains_int

def st_r2_Square_5 (d:List G):Option (Option Nat × List G) :=
 (bif (ltI (gi d 3).int (gi d 2).int) then (bif (inI ((gi d 3).int+1)) then (bif ((nnI (gi d 3).int)&&((leI (gi d 3).int ((gi d 3).int+1))&&(leI ((gi d 3).int+1) (((gi d 0).str.size:Nat):Int)))) then (bif ((nnI (gi d 3).int)&&(ltI (gi d 3).int (((gi d 1).rows.length:Nat):Int))) then (callF (F_r2_only [.s ((gi d 0).str.extract ((gi d 3).int).toNat ((gi d 3).int+1).toNat),.s (gi ((gi d 1).rows.getD (((gi d 3).int).toNat) []) 0).str]) fun g2=>(bif (!(gi g2 0).bool) then some (some 0,[.t false]) else (bif (inI ((gi d 3).int+1)) then some (none,[.s (gi d 0).str,.l (gi d 1).rows,.i (gi d 2).int,.i ((gi d 3).int+1)]) else none))) else none) else none) else none) else some (some 1,[]))
def l_r2_Square_5:LSpec:=⟨5,[],⟨32,[(0,.s (.str)),(3,.s (.list [.str])),(16,.s (.int .i64)),(17,.s (.int .i64))],[]⟩,[],[⟨.ret,⟨32,[(2,.s (.bool))],[]⟩,[]⟩,⟨.exit 0,⟨32,[],[]⟩,[]⟩],st_r2_Square_5⟩
theorem r_r2_Square_5:RoundOK P t64 nL0 0 (loopAt Tryz.f97 5) l_r2_Square_5:=fun d=>by kernel_rfl
def L_r2_Square_5:LT:=nL0.add 0 l_r2_Square_5
theorem L_r2_Square_5_ok:LpK P 0 L_r2_Square_5 (bodyOf Tryz.f97):=LpK.a hm t64_ok (nLk _ _ _) r_r2_Square_5
def F_r2_Square (d:List G):Option (List G) :=
 (callF (F_sl_Contains_int [.l [[.i 2],[.i 4],[.i 6]],.i (((gi d 0).str.size:Nat):Int)]) fun g1=>(bif (!(gi g1 0).bool) then some [.t false] else (loopB true (LRun st_r2_Square_5 [.s (gi d 0).str,.l [[.s (⟨#[97,98,99,100,101,102,103,104,105,106,107,108,109,110,111,112,113,114]⟩:ByteArray)],[.s (⟨#[97,98,99,100,101,102,103,104,105,106,107,108,109,110,111,112,113,114]⟩:ByteArray)],[.s (⟨#[48,49,50,51,52,53,54,55,56,57]⟩:ByteArray)],[.s (⟨#[48,49,50,51,52,53,54,55,56,57]⟩:ByteArray)],[.s (⟨#[97,98,99,100,101,102,103,104,105,106,107,108,109,110,111,112,113,114,115,116,117,118,119,120]⟩:ByteArray)],[.s (⟨#[97,98,99,100,101,102,103,104,105,106,107,108,109,110,111,112,113,114,115,116,117,118,119,120]⟩:ByteArray)]],.i (((gi d 0).str.size:Nat):Int),.i 0]) fun cg3 g3=>(bif Nat.beq cg3 0 then some [.t (gi g3 0).bool] else some [.t true]))))
def s_r2_Square:FSpec:=⟨97,[.s (.str)],[],[],[.s (.bool)],[],[],[],F_r2_Square⟩
theorem b_r2_Square:BodyOK P t64 L_r2_Square_5 Tryz.f97 s_r2_Square:=fun d=>by kernel_rfl
theorem c_r2_Square:COK P s_r2_Square:=bdC hm t64_ok Tryz.func97 L_r2_Square_5_ok b_r2_Square
def t65:Tab:=t64.addP s_r2_Square
theorem t65_ok:TabOK P t65:=t64_ok.aP c_r2_Square

def F_r2_locator (d:List G):Option (List G) :=
 (bif ((((gi d 0).str.size:Nat):Int)==6) then (callF (F_r2_Square [.s (gi d 0).str]) fun g1=>some [.t (gi g1 0).bool]) else some [.t false])
def s_r2_locator:FSpec:=⟨58,[.s (.str)],[],[],[.s (.bool)],[],[],[],F_r2_locator⟩
theorem b_r2_locator:BodyOK P t65 nL0 Tryz.f58 s_r2_locator:=fun d=>by kernel_rfl
theorem c_r2_locator:COK P s_r2_locator:=bdC hm t65_ok Tryz.func58 (nLk _ _ _) b_r2_locator
def t66:Tab:=t65.addP s_r2_locator
theorem t66_ok:TabOK P t66:=t65_ok.aP c_r2_locator

def F_cmp_isNaN_string (d:List G):Option (List G) :=
 some [.t (!((gi d 0).str.toList==(gi d 0).str.toList))]
def s_cmp_isNaN_string:FSpec:=⟨159,[.s (.str)],[],[],[.s (.bool)],[],[],[],F_cmp_isNaN_string⟩
theorem b_cmp_isNaN_string:BodyOK P t66 nL0 Tryz.f159 s_cmp_isNaN_string:=fun d=>by kernel_rfl
theorem c_cmp_isNaN_string:COK P s_cmp_isNaN_string:=bdC hm t66_ok Tryz.func159 (nLk _ _ _) b_cmp_isNaN_string
def t67:Tab:=t66.addP s_cmp_isNaN_string
theorem t67_ok:TabOK P t67:=t66_ok.aP c_cmp_isNaN_string

def F_cmp_Compare_string (d:List G):Option (List G) :=
 (callF (F_cmp_isNaN_string [.s (gi d 0).str]) fun g1=>(callF (F_cmp_isNaN_string [.s (gi d 1).str]) fun g2=>(bif (gi g1 0).bool then (bif (gi g2 0).bool then some [.i 0] else some [.i (-1)]) else (bif (gi g2 0).bool then some [.i 1] else (bif (Op.bytesLess (gi d 0).str.toList (gi d 1).str.toList) then some [.i (-1)] else (bif (!((Op.bytesLess (gi d 0).str.toList (gi d 1).str.toList)||((gi d 0).str.toList==(gi d 1).str.toList))) then some [.i 1] else some [.i 0]))))))
def s_cmp_Compare_string:FSpec:=⟨98,[.s (.str),.s (.str)],[],[],[.s (.int .i64)],[],[],[],F_cmp_Compare_string⟩
theorem b_cmp_Compare_string:BodyOK P t67 nL0 Tryz.f98 s_cmp_Compare_string:=fun d=>by kernel_rfl
theorem c_cmp_Compare_string:COK P s_cmp_Compare_string:=bdC hm t67_ok Tryz.func98 (nLk _ _ _) b_cmp_Compare_string
def t68:Tab:=t67.addP s_cmp_Compare_string
theorem t68_ok:TabOK P t68:=t67_ok.aP c_cmp_Compare_string

def st_sl_Compare_string_2 (d:List G):Option (Option Nat × List G) :=
 (bif (ltI (gi d 4).int (gi d 3).int) then (bif ((nnI (gi d 4).int)&&(ltI (gi d 4).int (((gi d 2).rows.length:Nat):Int))) then (bif (leI (((gi d 1).rows.length:Nat):Int) (gi d 4).int) then some (some 0,[.i 1]) else (bif ((nnI (gi d 4).int)&&(ltI (gi d 4).int (((gi d 1).rows.length:Nat):Int))) then (callF (F_cmp_Compare_string [.s (gi ((gi d 2).rows.getD (((gi d 4).int).toNat) []) 0).str,.s (gi ((gi d 1).rows.getD (((gi d 4).int).toNat) []) 0).str]) fun g1=>(bif ((gi g1 0).int != 0) then some (some 0,[.i (gi g1 0).int]) else (bif (inI ((gi d 4).int+1)) then some (none,[.l (gi d 0).rows,.l (gi d 1).rows,.l (gi d 2).rows,.i (gi d 3).int,.i ((gi d 4).int+1)]) else none))) else none)) else none) else some (some 1,[.l (gi d 0).rows,.l (gi d 1).rows]))
def l_sl_Compare_string_2:LSpec:=⟨2,[],⟨36,[(0,.s (.list [.str])),(1,.s (.list [.str])),(9,.s (.list [.str])),(10,.s (.int .i64)),(11,.s (.int .i64))],[]⟩,[],[⟨.ret,⟨36,[(4,.s (.int .i64))],[]⟩,[]⟩,⟨.exit 0,⟨36,[(0,.s (.list [.str])),(1,.s (.list [.str]))],[]⟩,[]⟩],st_sl_Compare_string_2⟩
theorem r_sl_Compare_string_2:RoundOK P t68 nL0 0 (loopAt Tryz.f59 2) l_sl_Compare_string_2:=fun d=>by kernel_rfl
def L_sl_Compare_string_2:LT:=nL0.add 0 l_sl_Compare_string_2
theorem L_sl_Compare_string_2_ok:LpK P 0 L_sl_Compare_string_2 (bodyOf Tryz.f59):=LpK.a hm t68_ok (nLk _ _ _) r_sl_Compare_string_2
def F_sl_Compare_string (d:List G):Option (List G) :=
 (loopB true (LRun st_sl_Compare_string_2 [.l (gi d 0).rows,.l (gi d 1).rows,.l (gi d 0).rows,.i (((gi d 0).rows.length:Nat):Int),.i 0]) fun cg2 g2=>(bif Nat.beq cg2 0 then some [.i (gi g2 0).int] else (bif (ltI (((gi g2 0).rows.length:Nat):Int) (((gi g2 1).rows.length:Nat):Int)) then some [.i (-1)] else some [.i 0])))
def s_sl_Compare_string:FSpec:=⟨59,[.s (.list [.str]),.s (.list [.str])],[],[],[.s (.int .i64)],[],[],[],F_sl_Compare_string⟩
theorem b_sl_Compare_string:BodyOK P t68 L_sl_Compare_string_2 Tryz.f59 s_sl_Compare_string:=fun d=>by kernel_rfl
theorem c_sl_Compare_string:COK P s_sl_Compare_string:=bdC hm t68_ok Tryz.func59 L_sl_Compare_string_2_ok b_sl_Compare_string
def t69:Tab:=t68.addP s_sl_Compare_string
theorem t69_ok:TabOK P t69:=t68_ok.aP c_sl_Compare_string

def st_r2_EntrantsFault_4 (d:List G):Option (Option Nat × List G) :=
 (bif (ltI (gi d 3).int (gi d 2).int) then (bif ((nnI (gi d 3).int)&&(ltI (gi d 3).int (((gi d 1).rows.length:Nat):Int))) then (callF (F_r2_Call [.s (gi ((gi d 1).rows.getD (((gi d 3).int).toNat) []) 0).str]) fun g1=>(bif (!(gi g1 0).bool) then some (some 0,[.i 3]) else (callF (F_r2_Key [.s (gi ((gi d 1).rows.getD (((gi d 3).int).toNat) []) 1).str]) fun g2=>(bif (!(gi g2 0).bool) then some (some 0,[.i 5]) else (callF (F_r2_in [.i (gi ((gi d 1).rows.getD (((gi d 3).int).toNat) []) 2).int,.i 0,.i 1000000000000]) fun g3=>(bif (!(gi g3 0).bool) then some (some 0,[.i 1]) else (bif (!((gi ((gi d 1).rows.getD (((gi d 3).int).toNat) []) 3).str.toList==(⟨#[]⟩:ByteArray).toList)) then (callF (F_r2_locator [.s (gi ((gi d 1).rows.getD (((gi d 3).int).toNat) []) 3).str]) fun g4=>(bif (!(gi g4 0).bool) then some (some 0,[.i 3]) else (bif (ltI 0 (gi d 3).int) then (bif (inI ((gi d 3).int-1)) then (bif ((nnI ((gi d 3).int-1))&&(ltI ((gi d 3).int-1) (((gi d 0).rows.length:Nat):Int))) then (bif (inI ((gi d 3).int-1)) then (bif ((nnI ((gi d 3).int-1))&&(ltI ((gi d 3).int-1) (((gi d 0).rows.length:Nat):Int))) then (callF (F_sl_Compare_string [.l [[.s (gi ((gi d 0).rows.getD (((gi d 3).int-1).toNat) []) 1).str],[.s (gi ((gi d 0).rows.getD (((gi d 3).int-1).toNat) []) 0).str]],.l [[.s (gi ((gi d 1).rows.getD (((gi d 3).int).toNat) []) 1).str],[.s (gi ((gi d 1).rows.getD (((gi d 3).int).toNat) []) 0).str]]]) fun g5=>(bif (leI 0 (gi g5 0).int) then some (some 0,[.i 7]) else (bif (inI ((gi d 3).int+1)) then some (none,[.l (gi d 0).rows,.l (gi d 1).rows,.i (gi d 2).int,.i ((gi d 3).int+1)]) else none))) else none) else none) else none) else none) else (bif (inI ((gi d 3).int+1)) then some (none,[.l (gi d 0).rows,.l (gi d 1).rows,.i (gi d 2).int,.i ((gi d 3).int+1)]) else none)))) else (bif (ltI 0 (gi d 3).int) then (bif (inI ((gi d 3).int-1)) then (bif ((nnI ((gi d 3).int-1))&&(ltI ((gi d 3).int-1) (((gi d 0).rows.length:Nat):Int))) then (bif (inI ((gi d 3).int-1)) then (bif ((nnI ((gi d 3).int-1))&&(ltI ((gi d 3).int-1) (((gi d 0).rows.length:Nat):Int))) then (callF (F_sl_Compare_string [.l [[.s (gi ((gi d 0).rows.getD (((gi d 3).int-1).toNat) []) 1).str],[.s (gi ((gi d 0).rows.getD (((gi d 3).int-1).toNat) []) 0).str]],.l [[.s (gi ((gi d 1).rows.getD (((gi d 3).int).toNat) []) 1).str],[.s (gi ((gi d 1).rows.getD (((gi d 3).int).toNat) []) 0).str]]]) fun g6=>(bif (leI 0 (gi g6 0).int) then some (some 0,[.i 7]) else (bif (inI ((gi d 3).int+1)) then some (none,[.l (gi d 0).rows,.l (gi d 1).rows,.i (gi d 2).int,.i ((gi d 3).int+1)]) else none))) else none) else none) else none) else none) else (bif (inI ((gi d 3).int+1)) then some (none,[.l (gi d 0).rows,.l (gi d 1).rows,.i (gi d 2).int,.i ((gi d 3).int+1)]) else none))))))))) else none) else some (some 1,[]))
def l_r2_EntrantsFault_4:LSpec:=⟨4,[],⟨66,[(0,.s (.list KMember)),(8,.s (.list KMember)),(9,.s (.int .i64)),(10,.s (.int .i64))],[]⟩,[],[⟨.ret,⟨66,[(2,.s (.int .i64))],[]⟩,[]⟩,⟨.exit 0,⟨66,[],[]⟩,[]⟩],st_r2_EntrantsFault_4⟩
theorem r_r2_EntrantsFault_4:RoundOK P t69 nL0 0 (loopAt Tryz.f13 4) l_r2_EntrantsFault_4:=fun d=>by kernel_rfl
def L_r2_EntrantsFault_4:LT:=nL0.add 0 l_r2_EntrantsFault_4
theorem L_r2_EntrantsFault_4_ok:LpK P 0 L_r2_EntrantsFault_4 (bodyOf Tryz.f13):=LpK.a hm t69_ok (nLk _ _ _) r_r2_EntrantsFault_4
def F_r2_EntrantsFault (d:List G):Option (List G) :=
 (bif (ltI 500 (((gi d 0).rows.length:Nat):Int)) then some [.i 2] else (loopB true (LRun st_r2_EntrantsFault_4 [.l (gi d 0).rows,.l (gi d 0).rows,.i (((gi d 0).rows.length:Nat):Int),.i 0]) fun cg7 g7=>(bif Nat.beq cg7 0 then some [.i (gi g7 0).int] else some [.i 0])))
def s_r2_EntrantsFault:FSpec:=⟨13,[.s (.list KMember)],[],[],[.s (.int .i64)],[],[],[],F_r2_EntrantsFault⟩
theorem b_r2_EntrantsFault:BodyOK P t69 L_r2_EntrantsFault_4 Tryz.f13 s_r2_EntrantsFault:=fun d=>by kernel_rfl
theorem c_r2_EntrantsFault:COK P s_r2_EntrantsFault:=bdC hm t69_ok Tryz.func13 L_r2_EntrantsFault_4_ok b_r2_EntrantsFault
def t70:Tab:=t69.addP s_r2_EntrantsFault
theorem t70_ok:TabOK P t70:=t69_ok.aP c_r2_EntrantsFault

def F_l2_when (d:List G):Option (List G) :=
 (bif (gi d 0).bool then some [.i (gi d 1).int] else some [.i 0])
def s_l2_when:FSpec:=⟨18,[.s (.bool),.s (.int .i64)],[],[],[.s (.int .i64)],[],[],[],F_l2_when⟩
theorem b_l2_when:BodyOK P t70 nL0 Tryz.f18 s_l2_when:=fun d=>by kernel_rfl
theorem c_l2_when:COK P s_l2_when:=bdC hm t70_ok Tryz.func18 (nLk _ _ _) b_l2_when
def t71:Tab:=t70.addP s_l2_when
theorem t71_ok:TabOK P t71:=t70_ok.aP c_l2_when

def F_l2_nameFault (d:List G):Option (List G) :=
 (callF (F_r2_Key [.s (gi d 0).str]) fun g1=>(callF (F_l2_when [.t (!(gi g1 0).bool),.i 5]) fun g2=>some [.i (gi g2 0).int]))
def s_l2_nameFault:FSpec:=⟨15,[.s (.str)],[],[],[.s (.int .i64)],[],[],[],F_l2_nameFault⟩
theorem b_l2_nameFault:BodyOK P t71 nL0 Tryz.f15 s_l2_nameFault:=fun d=>by kernel_rfl
theorem c_l2_nameFault:COK P s_l2_nameFault:=bdC hm t71_ok Tryz.func15 (nLk _ _ _) b_l2_nameFault
def t72:Tab:=t71.addP s_l2_nameFault
theorem t72_ok:TabOK P t72:=t71_ok.aP c_l2_nameFault

def st_l2_errs_2 (d:List G):Option (Option Nat × List G) :=
 (bif (ltI (gi d 2).int (gi d 1).int) then (bif ((nnI (gi d 2).int)&&(ltI (gi d 2).int (((gi d 0).rows.length:Nat):Int))) then (bif ((gi ((gi d 0).rows.getD (((gi d 2).int).toNat) []) 0).int != 0) then some (some 0,[.i (gi ((gi d 0).rows.getD (((gi d 2).int).toNat) []) 0).int]) else (bif (inI ((gi d 2).int+1)) then some (none,[.l (gi d 0).rows,.i (gi d 1).int,.i ((gi d 2).int+1)]) else none)) else none) else some (some 1,[]))
def l_l2_errs_2:LSpec:=⟨2,[],⟨15,[(5,.s (.list [.int .i64])),(6,.s (.int .i64)),(7,.s (.int .i64))],[]⟩,[],[⟨.ret,⟨15,[(2,.s (.int .i64))],[]⟩,[]⟩,⟨.exit 0,⟨15,[],[]⟩,[]⟩],st_l2_errs_2⟩
theorem r_l2_errs_2:RoundOK P t72 nL0 0 (loopAt Tryz.f14 2) l_l2_errs_2:=fun d=>by kernel_rfl
def L_l2_errs_2:LT:=nL0.add 0 l_l2_errs_2
theorem L_l2_errs_2_ok:LpK P 0 L_l2_errs_2 (bodyOf Tryz.f14):=LpK.a hm t72_ok (nLk _ _ _) r_l2_errs_2
def F_l2_errs (d:List G):Option (List G) :=
 (loopB true (LRun st_l2_errs_2 [.l (gi d 0).rows,.i (((gi d 0).rows.length:Nat):Int),.i 0]) fun cg1 g1=>(bif Nat.beq cg1 0 then some [.i (gi g1 0).int] else some [.i 0]))
def s_l2_errs:FSpec:=⟨14,[.s (.list [.int .i64])],[],[],[.s (.int .i64)],[],[],[],F_l2_errs⟩
theorem b_l2_errs:BodyOK P t72 L_l2_errs_2 Tryz.f14 s_l2_errs:=fun d=>by kernel_rfl
theorem c_l2_errs:COK P s_l2_errs:=bdC hm t72_ok Tryz.func14 L_l2_errs_2_ok b_l2_errs
def t73:Tab:=t72.addP s_l2_errs
theorem t73_ok:TabOK P t73:=t72_ok.aP c_l2_errs

def st_r2_ClubsFault_15 (d:List G):Option (Option Nat × List G) :=
 (bif (ltI (gi d 8).int (gi d 7).int) then (bif ((nnI (gi d 8).int)&&(ltI (gi d 8).int (((gi d 6).rows.length:Nat):Int))) then (callF (F_r2_Square [.s (gi ((gi d 6).rows.getD (((gi d 8).int).toNat) []) 0).str]) fun g2=>(bif (!(gi g2 0).bool) then some (some 0,[.i 3]) else (bif (ltI 0 (gi d 8).int) then (bif (inI ((gi d 8).int-1)) then (bif ((nnI ((gi d 8).int-1))&&(ltI ((gi d 8).int-1) (((gi d 1).rows.length:Nat):Int))) then (bif ((Op.bytesLess (gi ((gi d 6).rows.getD (((gi d 8).int).toNat) []) 0).str.toList (gi ((gi d 1).rows.getD (((gi d 8).int-1).toNat) []) 0).str.toList)||((gi ((gi d 6).rows.getD (((gi d 8).int).toNat) []) 0).str.toList==(gi ((gi d 1).rows.getD (((gi d 8).int-1).toNat) []) 0).str.toList)) then some (some 0,[.i 7]) else (bif (inI ((gi d 8).int+1)) then some (none,[.s (gi d 0).str,.l (gi d 1).rows,.s (gi d 2).str,.l (gi d 3).rows,.i (gi d 4).int,.i (gi d 5).int,.l (gi d 6).rows,.i (gi d 7).int,.i ((gi d 8).int+1)]) else none)) else none) else none) else (bif (inI ((gi d 8).int+1)) then some (none,[.s (gi d 0).str,.l (gi d 1).rows,.s (gi d 2).str,.l (gi d 3).rows,.i (gi d 4).int,.i (gi d 5).int,.l (gi d 6).rows,.i (gi d 7).int,.i ((gi d 8).int+1)]) else none)))) else none) else some (some 1,[.s (gi d 2).str,.l (gi d 3).rows,.i (gi d 4).int,.i (gi d 5).int]))
def l_r2_ClubsFault_15:LSpec:=⟨15,[],⟨59,[(3,.s (.str)),(5,.s (.ptr 0 0)),(11,.s (.list [.str,.list [.str]])),(12,.s (.int .i64)),(13,.s (.int .i64)),(35,.s (.list [.str])),(36,.s (.int .i64)),(37,.s (.int .i64))],[.box [.str,.list [.str]]]⟩,[.slot 5],[⟨.ret,⟨59,[(2,.s (.int .i64))],[]⟩,[]⟩,⟨.exit 3,⟨59,[(3,.s (.str)),(11,.s (.list [.str,.list [.str]])),(12,.s (.int .i64)),(13,.s (.int .i64))],[]⟩,[]⟩],st_r2_ClubsFault_15⟩
theorem r_r2_ClubsFault_15:RoundOK P t73 nL0 0 (loopAt Tryz.f60 15) l_r2_ClubsFault_15:=fun d=>by kernel_rfl
def L_r2_ClubsFault_15:LT:=nL0.add 0 l_r2_ClubsFault_15
theorem L_r2_ClubsFault_15_ok:LpK P 0 L_r2_ClubsFault_15 (bodyOf Tryz.f60):=LpK.a hm t73_ok (nLk _ _ _) r_r2_ClubsFault_15
def st_r2_ClubsFault_5 (d:List G):Option (Option Nat × List G) :=
 (bif (ltI (gi d 3).int (gi d 2).int) then (bif ((nnI (gi d 3).int)&&(ltI (gi d 3).int (((gi d 1).rows.length:Nat):Int))) then (callF (F_r2_Key [.s (gi ((gi d 1).rows.getD (((gi d 3).int).toNat) []) 0).str]) fun g1=>(bif (!(gi g1 0).bool) then some (some 0,[.i 5]) else (bif ((Op.bytesLess (gi ((gi d 1).rows.getD (((gi d 3).int).toNat) []) 0).str.toList (gi d 0).str.toList)||((gi ((gi d 1).rows.getD (((gi d 3).int).toNat) []) 0).str.toList==(gi d 0).str.toList)) then some (some 0,[.i 7]) else (bif (ltI 100 (((gi ((gi d 1).rows.getD (((gi d 3).int).toNat) []) 1).rows.length:Nat):Int)) then some (some 0,[.i 2]) else (loopB true (LRun st_r2_ClubsFault_15 [.s (gi ((gi d 1).rows.getD (((gi d 3).int).toNat) []) 0).str,.l (gi ((gi d 1).rows.getD (((gi d 3).int).toNat) []) 1).rows,.s (gi ((gi d 1).rows.getD (((gi d 3).int).toNat) []) 0).str,.l (gi d 1).rows,.i (gi d 2).int,.i (gi d 3).int,.l (gi ((gi d 1).rows.getD (((gi d 3).int).toNat) []) 1).rows,.i (((gi ((gi d 1).rows.getD (((gi d 3).int).toNat) []) 1).rows.length:Nat):Int),.i 0]) fun cg3 g3=>(bif Nat.beq cg3 0 then some (some 0,[.i (gi g3 0).int]) else (bif (inI ((gi g3 3).int+1)) then some (none,[.s (gi g3 0).str,.l (gi g3 1).rows,.i (gi g3 2).int,.i ((gi g3 3).int+1)]) else none))))))) else none) else some (some 1,[]))
def l_r2_ClubsFault_5:LSpec:=⟨5,[],⟨59,[(3,.s (.str)),(11,.s (.list [.str,.list [.str]])),(12,.s (.int .i64)),(13,.s (.int .i64))],[]⟩,[],[⟨.ret,⟨59,[(2,.s (.int .i64))],[]⟩,[]⟩,⟨.exit 0,⟨59,[],[]⟩,[]⟩],st_r2_ClubsFault_5⟩
theorem r_r2_ClubsFault_5:RoundOK P t73 L_r2_ClubsFault_15 0 (loopAt Tryz.f60 5) l_r2_ClubsFault_5:=fun d=>by kernel_rfl
def L_r2_ClubsFault_5:LT:=L_r2_ClubsFault_15.add 0 l_r2_ClubsFault_5
theorem L_r2_ClubsFault_5_ok:LpK P 0 L_r2_ClubsFault_5 (bodyOf Tryz.f60):=LpK.a hm t73_ok L_r2_ClubsFault_15_ok r_r2_ClubsFault_5
def F_r2_ClubsFault (d:List G):Option (List G) :=
 (bif (ltI 200 (((gi d 0).rows.length:Nat):Int)) then some [.i 2] else (loopB true (LRun st_r2_ClubsFault_5 [.s (⟨#[]⟩:ByteArray),.l (gi d 0).rows,.i (((gi d 0).rows.length:Nat):Int),.i 0]) fun cg4 g4=>(bif Nat.beq cg4 0 then some [.i (gi g4 0).int] else some [.i 0])))
def s_r2_ClubsFault:FSpec:=⟨60,[.s (.list [.str,.list [.str]])],[],[],[.s (.int .i64)],[],[],[],F_r2_ClubsFault⟩
theorem b_r2_ClubsFault:BodyOK P t73 L_r2_ClubsFault_5 Tryz.f60 s_r2_ClubsFault:=fun d=>by kernel_rfl
theorem c_r2_ClubsFault:COK P s_r2_ClubsFault:=bdC hm t73_ok Tryz.func60 L_r2_ClubsFault_5_ok b_r2_ClubsFault
def t74:Tab:=t73.addP s_r2_ClubsFault
theorem t74_ok:TabOK P t74:=t73_ok.aP c_r2_ClubsFault

def F_r2_BaseOf (d:List G):Option (List G) :=
 (callF (F_r1_PartsOf [.s (gi d 0).str]) fun g1=>some [.s (gi (gi g1 0).row 0).str])
def s_r2_BaseOf:FSpec:=⟨61,[.s (.str)],[],[],[.s (.str)],[],[],[],F_r2_BaseOf⟩
theorem b_r2_BaseOf:BodyOK P t74 nL0 Tryz.f61 s_r2_BaseOf:=fun d=>by kernel_rfl
theorem c_r2_BaseOf:COK P s_r2_BaseOf:=bdC hm t74_ok Tryz.func61 (nLk _ _ _) b_r2_BaseOf
def t75:Tab:=t74.addP s_r2_BaseOf
theorem t75_ok:TabOK P t75:=t74_ok.aP c_r2_BaseOf

def F_r2_MembersFault_1 (d:List G):Option (List G) :=
 some [.t ((gi (gi d 0).row 0).str.toList==(gi (gi d 1).row 1).str.toList)]
def s_r2_MembersFault_1:FSpec:=⟨63,[.s (.row [.str,.list [.str]]),.s (.cptr KMember)],[],[],[.s (.bool)],[],[],[],F_r2_MembersFault_1⟩
theorem b_r2_MembersFault_1:BodyOK P t75 nL0 Tryz.f63 s_r2_MembersFault_1:=fun d=>by kernel_rfl
theorem c_r2_MembersFault_1:COK P s_r2_MembersFault_1:=bdC hm t75_ok Tryz.func63 (nLk _ _ _) b_r2_MembersFault_1
def t76:Tab:=t75.addP s_r2_MembersFault_1
theorem t76_ok:TabOK P t76:=t75_ok.aP c_r2_MembersFault_1

def st_sl_IndexFunc_Club_2 (d:List G):Option (Option Nat × List G) :=
 (bif (ltI (gi d 3).int (gi d 2).int) then (bif ((nnI (gi d 3).int)&&(ltI (gi d 3).int (((gi d 0).rows.length:Nat):Int))) then (callF (F_r2_MembersFault_1 [.l [(gEta [.str,.list [.str]] ((gi d 0).rows.getD (((gi d 3).int).toNat) []))],.l [(gEta KMember (gi d 1).row)]]) fun g1=>(bif (gi g1 0).bool then some (some 0,[.i (gi d 3).int]) else (bif (inI ((gi d 3).int+1)) then some (none,[.l (gi d 0).rows,.l [(gEta KMember (gi d 1).row)],.i (gi d 2).int,.i ((gi d 3).int+1)]) else none))) else none) else some (some 1,[]))
def l_sl_IndexFunc_Club_2:LSpec:=⟨2,[],⟨19,[(0,.s (.list [.str,.list [.str]])),(1,.clo 63 [.cptr KMember]),(7,.s (.int .i64)),(8,.s (.int .i64))],[]⟩,[],[⟨.ret,⟨19,[(4,.s (.int .i64))],[]⟩,[]⟩,⟨.exit 0,⟨19,[],[]⟩,[]⟩],st_sl_IndexFunc_Club_2⟩
theorem r_sl_IndexFunc_Club_2:RoundOK P t76 nL0 0 (loopAt Tryz.f99 2) l_sl_IndexFunc_Club_2:=fun d=>by kernel_rfl
def L_sl_IndexFunc_Club_2:LT:=nL0.add 0 l_sl_IndexFunc_Club_2
theorem L_sl_IndexFunc_Club_2_ok:LpK P 0 L_sl_IndexFunc_Club_2 (bodyOf Tryz.f99):=LpK.a hm t76_ok (nLk _ _ _) r_sl_IndexFunc_Club_2
def F_sl_IndexFunc_Club (d:List G):Option (List G) :=
 (loopB true (LRun st_sl_IndexFunc_Club_2 [.l (gi d 0).rows,.l [(gEta KMember (gi d 1).row)],.i (((gi d 0).rows.length:Nat):Int),.i 0]) fun cg2 g2=>(bif Nat.beq cg2 0 then some [.i (gi g2 0).int] else some [.i (-1)]))
def s_sl_IndexFunc_Club:FSpec:=⟨99,[.s (.list [.str,.list [.str]]),.clo 63 [.cptr KMember]],[],[],[.s (.int .i64)],[],[],[],F_sl_IndexFunc_Club⟩
theorem b_sl_IndexFunc_Club:BodyOK P t76 L_sl_IndexFunc_Club_2 Tryz.f99 s_sl_IndexFunc_Club:=fun d=>by kernel_rfl
theorem c_sl_IndexFunc_Club:COK P s_sl_IndexFunc_Club:=bdC hm t76_ok Tryz.func99 L_sl_IndexFunc_Club_2_ok b_sl_IndexFunc_Club
def t77:Tab:=t76.addP s_sl_IndexFunc_Club
theorem t77_ok:TabOK P t77:=t76_ok.aP c_sl_IndexFunc_Club

def F_sl_ContainsFunc_Club (d:List G):Option (List G) :=
 (callF (F_sl_IndexFunc_Club [.l (gi d 0).rows,.l [(gEta KMember (gi d 1).row)]]) fun g1=>some [.t (leI 0 (gi g1 0).int)])
def s_sl_ContainsFunc_Club:FSpec:=⟨62,[.s (.list [.str,.list [.str]]),.clo 63 [.cptr KMember]],[],[],[.s (.bool)],[],[],[],F_sl_ContainsFunc_Club⟩
theorem b_sl_ContainsFunc_Club:BodyOK P t77 nL0 Tryz.f62 s_sl_ContainsFunc_Club:=fun d=>by kernel_rfl
theorem c_sl_ContainsFunc_Club:COK P s_sl_ContainsFunc_Club:=bdC hm t77_ok Tryz.func62 (nLk _ _ _) b_sl_ContainsFunc_Club
def t78:Tab:=t77.addP s_sl_ContainsFunc_Club
theorem t78_ok:TabOK P t78:=t77_ok.aP c_sl_ContainsFunc_Club

def tl_r2_MembersFault_12 (d:List G):Option (Option Nat × List G) :=
 (bif (gi d 10).bool then some (some 0,[.i 8]) else (callF (F_r2_in [.i (gi d 2).int,.i 0,.i 4000]) fun g5=>(bif (!(gi g5 0).bool) then some (some 0,[.i 1]) else (callF (F_r2_locator [.s (gi d 3).str]) fun g6=>(bif (!(gi g6 0).bool) then some (some 0,[.i 3]) else (bif (ltI 0 (gi d 6).int) then (bif (inI ((gi d 6).int-1)) then (bif ((nnI ((gi d 6).int-1))&&(ltI ((gi d 6).int-1) (((gi d 5).rows.length:Nat):Int))) then (bif (Op.bytesLess (gi d 0).str.toList (gi ((gi d 5).rows.getD (((gi d 6).int-1).toNat) []) 0).str.toList) then some (some 0,[.i 7]) else (bif (inI ((gi d 6).int-1)) then (bif ((nnI ((gi d 6).int-1))&&(ltI ((gi d 6).int-1) (((gi d 5).rows.length:Nat):Int))) then (bif ((gi d 0).str.toList==(gi ((gi d 5).rows.getD (((gi d 6).int-1).toNat) []) 0).str.toList) then (bif (inI ((gi d 6).int-1)) then (bif ((nnI ((gi d 6).int-1))&&(ltI ((gi d 6).int-1) (((gi d 5).rows.length:Nat):Int))) then (bif (leI (gi d 2).int (gi ((gi d 5).rows.getD (((gi d 6).int-1).toNat) []) 2).int) then some (some 0,[.i 7]) else some (some 1,[.l (gi d 4).rows,.l (gi d 5).rows,.l (gi d 7).rows,.i (gi d 8).int,.i (gi d 9).int])) else none) else none) else some (some 1,[.l (gi d 4).rows,.l (gi d 5).rows,.l (gi d 7).rows,.i (gi d 8).int,.i (gi d 9).int])) else none) else none)) else none) else none) else some (some 1,[.l (gi d 4).rows,.l (gi d 5).rows,.l (gi d 7).rows,.i (gi d 8).int,.i (gi d 9).int])))))))
def l_r2_MembersFault_12c:LSpec:=⟨12,[],⟨93,[(0,.s (.list [.str,.list [.str]])),(1,.s (.list KMember)),(6,.s (.int .i64)),(7,.s (.ptr 0 0)),(16,.s (.list KMember)),(17,.s (.int .i64)),(18,.s (.int .i64)),(36,.s (.bool))],[.box [.str,.str,.int .i64,.str]]⟩,[.slot 7],[⟨.ret,⟨93,[(4,.s (.int .i64))],[]⟩,[]⟩,⟨.normal,⟨93,[(0,.s (.list [.str,.list [.str]])),(1,.s (.list KMember)),(16,.s (.list KMember)),(17,.s (.int .i64)),(18,.s (.int .i64))],[]⟩,[]⟩],tl_r2_MembersFault_12⟩
theorem r_r2_MembersFault_12c:CutOK P (t78.lessPf [62]) nL0 0 (cutAt Tryz.f16 12) l_r2_MembersFault_12c:=fun d=>by kernel_rfl
def L_r2_MembersFault_12c:LT:=nL0.addCut 0 l_r2_MembersFault_12c
theorem L_r2_MembersFault_12c_ok:LpK P 0 L_r2_MembersFault_12c (bodyOf Tryz.f16):=LpK.addCut hm (t78_ok.lessPf [62]) (by kernel_rfl) (nLk _ _ _) r_r2_MembersFault_12c
def st_r2_MembersFault_7 (d:List G):Option (Option Nat × List G) :=
 (bif (ltI (gi d 4).int (gi d 3).int) then (bif ((nnI (gi d 4).int)&&(ltI (gi d 4).int (((gi d 2).rows.length:Nat):Int))) then (callF (F_r2_Call [.s (gi ((gi d 2).rows.getD (((gi d 4).int).toNat) []) 0).str]) fun g2=>(bif (!(gi g2 0).bool) then some (some 0,[.i 3]) else (callF (F_r2_BaseOf [.s (gi ((gi d 2).rows.getD (((gi d 4).int).toNat) []) 0).str]) fun g3=>(bif (!((gi g3 0).str.toList==(gi ((gi d 2).rows.getD (((gi d 4).int).toNat) []) 0).str.toList)) then some (some 0,[.i 3]) else (bif (!((gi ((gi d 2).rows.getD (((gi d 4).int).toNat) []) 1).str.toList==(⟨#[]⟩:ByteArray).toList)) then (callF (F_sl_ContainsFunc_Club [.l (gi d 0).rows,.l [(gEta KMember ((gi d 2).rows.getD (((gi d 4).int).toNat) []))]]) fun g4=>(loopB true (cutR (tl_r2_MembersFault_12 [.s (gi ((gi d 2).rows.getD (((gi d 4).int).toNat) []) 0).str,.s (gi ((gi d 2).rows.getD (((gi d 4).int).toNat) []) 1).str,.i (gi ((gi d 2).rows.getD (((gi d 4).int).toNat) []) 2).int,.s (gi ((gi d 2).rows.getD (((gi d 4).int).toNat) []) 3).str,.l (gi d 0).rows,.l (gi d 1).rows,.i (gi d 4).int,.l (gi d 2).rows,.i (gi d 3).int,.i (gi d 4).int,.t (!(gi g4 0).bool)])) fun cg7 g7=>(bif Nat.beq cg7 0 then some (some 0,[.i (gi g7 0).int]) else (bif (inI ((gi g7 4).int+1)) then some (none,[.l (gi g7 0).rows,.l (gi g7 1).rows,.l (gi g7 2).rows,.i (gi g7 3).int,.i ((gi g7 4).int+1)]) else none)))) else (loopB true (cutR (tl_r2_MembersFault_12 [.s (gi ((gi d 2).rows.getD (((gi d 4).int).toNat) []) 0).str,.s (gi ((gi d 2).rows.getD (((gi d 4).int).toNat) []) 1).str,.i (gi ((gi d 2).rows.getD (((gi d 4).int).toNat) []) 2).int,.s (gi ((gi d 2).rows.getD (((gi d 4).int).toNat) []) 3).str,.l (gi d 0).rows,.l (gi d 1).rows,.i (gi d 4).int,.l (gi d 2).rows,.i (gi d 3).int,.i (gi d 4).int,.t false])) fun cg8 g8=>(bif Nat.beq cg8 0 then some (some 0,[.i (gi g8 0).int]) else (bif (inI ((gi g8 4).int+1)) then some (none,[.l (gi g8 0).rows,.l (gi g8 1).rows,.l (gi g8 2).rows,.i (gi g8 3).int,.i ((gi g8 4).int+1)]) else none)))))))) else none) else some (some 1,[]))
def l_r2_MembersFault_7:LSpec:=⟨7,[],⟨93,[(0,.s (.list [.str,.list [.str]])),(1,.s (.list KMember)),(16,.s (.list KMember)),(17,.s (.int .i64)),(18,.s (.int .i64))],[]⟩,[],[⟨.ret,⟨93,[(4,.s (.int .i64))],[]⟩,[]⟩,⟨.exit 0,⟨93,[],[]⟩,[]⟩],st_r2_MembersFault_7⟩
theorem r_r2_MembersFault_7:RoundOK P (t78.lessPf [62]) L_r2_MembersFault_12c 0 (loopAt Tryz.f16 7) l_r2_MembersFault_7:=fun d=>by kernel_rfl
def L_r2_MembersFault_7:LT:=L_r2_MembersFault_12c.add 0 l_r2_MembersFault_7
theorem L_r2_MembersFault_7_ok:LpK P 0 L_r2_MembersFault_7 (bodyOf Tryz.f16):=LpK.add hm (t78_ok.lessPf [62]) (by kernel_rfl) L_r2_MembersFault_12c_ok r_r2_MembersFault_7
def F_r2_MembersFault (d:List G):Option (List G) :=
 (callF (F_r2_ClubsFault [.l (gi d 0).rows]) fun g1=>(bif ((gi g1 0).int != 0) then some [.i (gi g1 0).int] else (bif (ltI 1000 (((gi d 1).rows.length:Nat):Int)) then some [.i 2] else (loopB true (LRun st_r2_MembersFault_7 [.l (gi d 0).rows,.l (gi d 1).rows,.l (gi d 1).rows,.i (((gi d 1).rows.length:Nat):Int),.i 0]) fun cg9 g9=>(bif Nat.beq cg9 0 then some [.i (gi g9 0).int] else some [.i 0])))))
def s_r2_MembersFault:FSpec:=⟨16,[.s (.list [.str,.list [.str]]),.s (.list KMember)],[],[],[.s (.int .i64)],[],[],[],F_r2_MembersFault⟩
theorem b_r2_MembersFault:BodyOK P (t78.lessPf [62]) L_r2_MembersFault_7 Tryz.f16 s_r2_MembersFault:=fun d=>by kernel_rfl
theorem c_r2_MembersFault:COK P s_r2_MembersFault:=bodyC hm (t78_ok.lessPf [62]) Tryz.func16 (by kernel_rfl) L_r2_MembersFault_7_ok b_r2_MembersFault (by kernel_rfl)
def t79:Tab:=t78.addP s_r2_MembersFault
theorem t79_ok:TabOK P t79:=t78_ok.aP c_r2_MembersFault

def F_l2_dayFault (d:List G):Option (List G) :=
 (bif (ltI (gi d 0).int 0) then (callF (F_l2_when [.t true,.i 1]) fun g1=>some [.i (gi g1 0).int]) else (callF (F_l2_when [.t (ltI 4000 (gi d 0).int),.i 1]) fun g2=>some [.i (gi g2 0).int]))
def s_l2_dayFault:FSpec:=⟨17,[.s (.int .i64)],[],[],[.s (.int .i64)],[],[],[],F_l2_dayFault⟩
theorem b_l2_dayFault:BodyOK P t79 nL0 Tryz.f17 s_l2_dayFault:=fun d=>by kernel_rfl
theorem c_l2_dayFault:COK P s_l2_dayFault:=bdC hm t79_ok Tryz.func17 (nLk _ _ _) b_l2_dayFault
def t80:Tab:=t79.addP s_l2_dayFault
theorem t80_ok:TabOK P t80:=t79_ok.aP c_l2_dayFault

def F_r2_sign (d:List G):Option (List G) :=
 (bif (ltI (gi d 0).int 0) then some [.i (-1)] else (bif (ltI 0 (gi d 0).int) then some [.i 1] else some [.i 0]))
def s_r2_sign:FSpec:=⟨101,[.s (.int .i64)],[],[],[.s (.int .i64)],[],[],[],F_r2_sign⟩
theorem b_r2_sign:BodyOK P t80 nL0 Tryz.f101 s_r2_sign:=fun d=>by kernel_rfl
theorem c_r2_sign:COK P s_r2_sign:=bdC hm t80_ok Tryz.func101 (nLk _ _ _) b_r2_sign
def t81:Tab:=t80.addP s_r2_sign
theorem t81_ok:TabOK P t81:=t80_ok.aP c_r2_sign

def F_r2_placed_1 (d:List G):Option (List G) :=
 (bif ((gi (gi d 0).row 0).int != (gi (gi d 1).row 0).int) then (bif (inI ((gi (gi d 0).row 0).int-(gi (gi d 1).row 0).int)) then (callF (F_r2_sign [.i ((gi (gi d 0).row 0).int-(gi (gi d 1).row 0).int)]) fun g1=>some [.i (gi g1 0).int]) else none) else (callF (F_strings_Compare [.s (gi (gi d 0).row 2).str,.s (gi (gi d 1).row 2).str]) fun g2=>some [.i (gi g2 0).int]))
def s_r2_placed_1:FSpec:=⟨100,[.s (.row KPlace),.s (.row KPlace)],[],[],[.s (.int .i64)],[],[],[],F_r2_placed_1⟩
theorem b_r2_placed_1:BodyOK P t81 nL0 Tryz.f100 s_r2_placed_1:=fun d=>by kernel_rfl
theorem c_r2_placed_1:COK P s_r2_placed_1:=bdC hm t81_ok Tryz.func100 (nLk _ _ _) b_r2_placed_1
def t82:Tab:=t81.addP s_r2_placed_1
theorem t82_ok:TabOK P t82:=t81_ok.aP c_r2_placed_1

def st_insS_Place_2_4 (d:List G):Option (Option Nat × List G) :=
 (bif (ltI (gi d 1).int (gi d 4).int) then (bif ((nnI (gi d 4).int)&&(ltI (gi d 4).int (((gi d 0).rows.length:Nat):Int))) then (bif (decide ((0+((gi d 4).int).toNat)<(gi d 0).rows.length)) then (bif (inI ((gi d 4).int-1)) then (bif ((nnI ((gi d 4).int-1))&&(ltI ((gi d 4).int-1) (((gi d 0).rows.length:Nat):Int))) then (bif (decide ((0+((gi d 4).int-1).toNat)<(gi d 0).rows.length)) then (callF (F_r2_placed_1 [.l [(gEta KPlace ((gi d 0).rows.getD (0+((gi d 4).int).toNat) []))],.l [(gEta KPlace ((gi d 0).rows.getD (0+((gi d 4).int-1).toNat) []))]]) fun g1=>(bif (ltI (gi g1 0).int 0) then (bif (inI ((gi d 4).int-1)) then (bif (inI ((gi d 4).int-1)) then (bif ((nnI ((gi d 4).int-1))&&(ltI ((gi d 4).int-1) (((gi d 0).rows.length:Nat):Int))) then (bif (decide ((0+((gi d 4).int-1).toNat)<(gi d 0).rows.length)) then (bif ((nnI (gi d 4).int)&&(ltI (gi d 4).int (((gi d 0).rows.length:Nat):Int))) then (bif (decide ((0+((gi d 4).int).toNat)<(gi d 0).rows.length)) then (bif ((nnI (gi d 4).int)&&(ltI (gi d 4).int (((gi d 0).rows.length:Nat):Int))) then (bif (decide ((0+((gi d 4).int).toNat)<(gi d 0).rows.length)) then (bif ((nnI ((gi d 4).int-1))&&(ltI ((gi d 4).int-1) (((gi d 0).rows.length:Nat):Int))) then (bif (decide ((0+((gi d 4).int-1).toNat)<((gi d 0).rows.set (0+((gi d 4).int).toNat) (putG KPlace ((gi d 0).rows.getD (0+((gi d 4).int).toNat) []) 0 (gEta KPlace ((gi d 0).rows.getD (0+((gi d 4).int-1).toNat) [])))).length)) then (bif (inI ((gi d 4).int-1)) then (bif ((Nat.beq (gi d 0).rows.length (((gi d 0).rows.set (0+((gi d 4).int).toNat) (putG KPlace ((gi d 0).rows.getD (0+((gi d 4).int).toNat) []) 0 (gEta KPlace ((gi d 0).rows.getD (0+((gi d 4).int-1).toNat) [])))).set (0+((gi d 4).int-1).toNat) (putG KPlace (((gi d 0).rows.set (0+((gi d 4).int).toNat) (putG KPlace ((gi d 0).rows.getD (0+((gi d 4).int).toNat) []) 0 (gEta KPlace ((gi d 0).rows.getD (0+((gi d 4).int-1).toNat) [])))).getD (0+((gi d 4).int-1).toNat) []) 0 (gEta KPlace ((gi d 0).rows.getD (0+((gi d 4).int).toNat) [])))).length)&&true) then some (none,[.l (((gi d 0).rows.set (0+((gi d 4).int).toNat) (putG KPlace ((gi d 0).rows.getD (0+((gi d 4).int).toNat) []) 0 (gEta KPlace ((gi d 0).rows.getD (0+((gi d 4).int-1).toNat) [])))).set (0+((gi d 4).int-1).toNat) (putG KPlace (((gi d 0).rows.set (0+((gi d 4).int).toNat) (putG KPlace ((gi d 0).rows.getD (0+((gi d 4).int).toNat) []) 0 (gEta KPlace ((gi d 0).rows.getD (0+((gi d 4).int-1).toNat) [])))).getD (0+((gi d 4).int-1).toNat) []) 0 (gEta KPlace ((gi d 0).rows.getD (0+((gi d 4).int).toNat) [])))),.i (gi d 1).int,.i (gi d 2).int,.i (gi d 3).int,.i ((gi d 4).int-1)]) else none) else none) else none) else none) else none) else none) else none) else none) else none) else none) else none) else none) else (bif ((Nat.beq (gi d 0).rows.length (gi d 0).rows.length)&&true) then some (some 0,[.l (gi d 0).rows,.i (gi d 1).int,.i (gi d 2).int,.i (gi d 3).int]) else none))) else none) else none) else none) else none) else none) else (bif ((Nat.beq (gi d 0).rows.length (gi d 0).rows.length)&&true) then some (some 0,[.l (gi d 0).rows,.i (gi d 1).int,.i (gi d 2).int,.i (gi d 3).int]) else none))
def l_insS_Place_2_4:LSpec:=⟨4,[],⟨53,[(0,.s (.vec 0 3)),(1,.s (.int .i64)),(2,.s (.int .i64)),(3,.s (.fn 100)),(8,.s (.int .i64)),(9,.s (.int .i64))],[.vec KPlace 0]⟩,[.fix 0],[⟨.exit 2,⟨53,[(0,.s (.vec 0 3)),(1,.s (.int .i64)),(2,.s (.int .i64)),(3,.s (.fn 100)),(8,.s (.int .i64))],[.vec KPlace 0]⟩,[.fix 0]⟩],st_insS_Place_2_4⟩
theorem r_insS_Place_2_4:RoundOK P t82 nL0 1 (loopAt Tryz.f188 4) l_insS_Place_2_4:=fun d=>by kernel_rfl
def L_insS_Place_2_4:LT:=nL0.add 1 l_insS_Place_2_4
theorem L_insS_Place_2_4_ok:LpK P 1 L_insS_Place_2_4 (bodyOf Tryz.f188):=LpK.a hm t82_ok (nLk _ _ _) r_insS_Place_2_4
def st_insS_Place_2_1 (d:List G):Option (Option Nat × List G) :=
 (bif (ltI (gi d 3).int (gi d 2).int) then (loopB ((Nat.beq (gi d 0).rows.length (gi d 0).rows.length)&&true) (LRun st_insS_Place_2_4 [.l (gi d 0).rows,.i (gi d 1).int,.i (gi d 2).int,.i (gi d 3).int,.i (gi d 3).int]) fun cg2 g2=>(bif (inI ((gi g2 3).int+1)) then (bif ((Nat.beq (gi g2 0).rows.length (gi g2 0).rows.length)&&true) then some (none,[.l (gi g2 0).rows,.i (gi g2 1).int,.i (gi g2 2).int,.i ((gi g2 3).int+1)]) else none) else none)) else some (some 0,[.l (gi d 0).rows]))
def l_insS_Place_2_1:LSpec:=⟨1,[],⟨53,[(0,.s (.vec 0 3)),(1,.s (.int .i64)),(2,.s (.int .i64)),(3,.s (.fn 100)),(8,.s (.int .i64))],[.vec KPlace 0]⟩,[.fix 0],[⟨.exit 0,⟨53,[],[.vec KPlace 0]⟩,[.fix 0]⟩],st_insS_Place_2_1⟩
theorem r_insS_Place_2_1:RoundOK P t82 L_insS_Place_2_4 1 (loopAt Tryz.f188 1) l_insS_Place_2_1:=fun d=>by kernel_rfl
def L_insS_Place_2_1:LT:=L_insS_Place_2_4.add 1 l_insS_Place_2_1
theorem L_insS_Place_2_1_ok:LpK P 1 L_insS_Place_2_1 (bodyOf Tryz.f188):=LpK.a hm t82_ok L_insS_Place_2_4_ok r_insS_Place_2_1
def F_insS_Place_2 (d:List G):Option (List G) :=
 (bif (inI ((gi d 1).int+1)) then (loopB ((Nat.beq (gi d 0).rows.length (gi d 0).rows.length)&&true) (LRun st_insS_Place_2_1 [.l (gi d 0).rows,.i (gi d 1).int,.i (gi d 2).int,.i ((gi d 1).int+1)]) fun cg3 g3=>some [.l (gi g3 0).rows]) else none)
def s_insS_Place_2:FSpec:=⟨188,[.s (.vec 0 3),.s (.int .i64),.s (.int .i64),.s (.fn 100)],[.vec KPlace 0],[.slot 0],[],[.vec KPlace 0],[.fix 0],[],F_insS_Place_2⟩
theorem b_insS_Place_2:BodyOK P t82 L_insS_Place_2_1 Tryz.f188 s_insS_Place_2:=fun d=>by kernel_rfl
theorem c_insS_Place_2:COK P s_insS_Place_2:=bdC hm t82_ok Tryz.func188 L_insS_Place_2_1_ok b_insS_Place_2
def t83:Tab:=t82.addW s_insS_Place_2
theorem t83_ok:TabOK P t83:=t82_ok.aW c_insS_Place_2

def st_sl_pdqsortCmpFunc_Place_2_2 (d:List G):Option (Option Nat × List G) :=
 (bif (inI ((gi d 2).int-(gi d 1).int)) then (bif (leI ((gi d 2).int-(gi d 1).int) 12) then (callB (((Nat.beq (gi d 0).rows.length (gi d 0).rows.length)&&true)&&(F_insS_Place_2 [.l (gi d 0).rows,.i (gi d 1).int,.i (gi d 2).int]).isSome) (F_insS_Place_2 [.l (gi d 0).rows,.i (gi d 1).int,.i (gi d 2).int]) fun g1=>some (some 0,[.l (gi g1 0).rows])) else (bif ((gi d 3).int==0) then none else (bif (!(gi d 4).bool) then none else none))) else none)
def l_sl_pdqsortCmpFunc_Place_2_2:LSpec:=⟨2,[],⟨148,[(0,.s (.vec 0 3)),(1,.s (.int .i64)),(2,.s (.int .i64)),(3,.s (.int .i64)),(4,.s (.fn 100)),(10,.s (.bool)),(11,.s (.bool))],[.vec KPlace 0]⟩,[.fix 0],[⟨.ret,⟨148,[],[.vec KPlace 0]⟩,[.fix 0]⟩],st_sl_pdqsortCmpFunc_Place_2_2⟩
theorem r_sl_pdqsortCmpFunc_Place_2_2:RoundOK P t83 nL0 1 (loopAt Tryz.f132 2) l_sl_pdqsortCmpFunc_Place_2_2:=fun d=>by kernel_rfl
def L_sl_pdqsortCmpFunc_Place_2_2:LT:=nL0.add 1 l_sl_pdqsortCmpFunc_Place_2_2
theorem L_sl_pdqsortCmpFunc_Place_2_2_ok:LpK P 1 L_sl_pdqsortCmpFunc_Place_2_2 (bodyOf Tryz.f132):=LpK.a hm t83_ok (nLk _ _ _) r_sl_pdqsortCmpFunc_Place_2_2
def F_sl_pdqsortCmpFunc_Place_2 (d:List G):Option (List G) :=
 (loopB ((Nat.beq (gi d 0).rows.length (gi d 0).rows.length)&&true) (LRun st_sl_pdqsortCmpFunc_Place_2_2 [.l (gi d 0).rows,.i (gi d 1).int,.i (gi d 2).int,.i (gi d 3).int,.t true,.t true]) fun cg2 g2=>some [.l (gi g2 0).rows])
def s_sl_pdqsortCmpFunc_Place_2:FSpec:=⟨132,[.s (.vec 0 3),.s (.int .i64),.s (.int .i64),.s (.int .i64),.s (.fn 100)],[.vec KPlace 0],[.slot 0],[],[.vec KPlace 0],[.fix 0],[],F_sl_pdqsortCmpFunc_Place_2⟩
theorem b_sl_pdqsortCmpFunc_Place_2:BodyOK P t83 L_sl_pdqsortCmpFunc_Place_2_2 Tryz.f132 s_sl_pdqsortCmpFunc_Place_2:=fun d=>by kernel_rfl
theorem c_sl_pdqsortCmpFunc_Place_2:COK P s_sl_pdqsortCmpFunc_Place_2:=bdC hm t83_ok Tryz.func132 L_sl_pdqsortCmpFunc_Place_2_2_ok b_sl_pdqsortCmpFunc_Place_2
def t84:Tab:=t83.addW s_sl_pdqsortCmpFunc_Place_2
theorem t84_ok:TabOK P t84:=t83_ok.aW c_sl_pdqsortCmpFunc_Place_2

def F_sl_SortFunc_Place_2 (d:List G):Option (List G) :=
 (callF (F_bits_Len [.i (IntKind.u64.wrap (((gi d 0).rows.length:Nat):Int))]) fun g1=>(callB (((Nat.beq (gi d 0).rows.length (gi d 0).rows.length)&&true)&&(F_sl_pdqsortCmpFunc_Place_2 [.l (gi d 0).rows,.i 0,.i (((gi d 0).rows.length:Nat):Int),.i (gi g1 0).int]).isSome) (F_sl_pdqsortCmpFunc_Place_2 [.l (gi d 0).rows,.i 0,.i (((gi d 0).rows.length:Nat):Int),.i (gi g1 0).int]) fun g2=>some [.l (gi g2 0).rows]))
def s_sl_SortFunc_Place_2:FSpec:=⟨86,[.s (.vec 0 3),.s (.fn 100)],[.vec KPlace 0],[.slot 0],[],[.vec KPlace 0],[.fix 0],[],F_sl_SortFunc_Place_2⟩
theorem b_sl_SortFunc_Place_2:BodyOK P t84 nL0 Tryz.f86 s_sl_SortFunc_Place_2:=fun d=>by kernel_rfl
theorem c_sl_SortFunc_Place_2:COK P s_sl_SortFunc_Place_2:=bdC hm t84_ok Tryz.func86 (nLk _ _ _) b_sl_SortFunc_Place_2
def t85:Tab:=t84.addW s_sl_SortFunc_Place_2
theorem t85_ok:TabOK P t85:=t84_ok.aW c_sl_SortFunc_Place_2

def sr_r2_placed_6 (r d:List G):Option (List G) :=
 (bif (ltI (gi d 6).int (gi (gi r 1).row 0).int) then (bif (inI ((gi d 3).int+1)) then (bif ((Nat.beq (gi d 2).rows.length (gi d 2).rows.length)&&true) then some [.l (gi d 0).rows,.i (((gi d 1).int.toNat:Nat):Int),.l (gi d 2).rows,.i ((gi d 3).int+1),.i (gi d 4).int,.s (gi d 5).str,.i (gi d 6).int,.i (((gi d 7).int.toNat:Nat):Int),.i (((gi d 8).int.toNat:Nat):Int)] else none) else none) else (bif ((Nat.beq (gi d 2).rows.length (gi d 2).rows.length)&&true) then some [.l (gi d 0).rows,.i (((gi d 1).int.toNat:Nat):Int),.l (gi d 2).rows,.i (gi d 3).int,.i (gi d 4).int,.s (gi d 5).str,.i (gi d 6).int,.i (((gi d 7).int.toNat:Nat):Int),.i (((gi d 8).int.toNat:Nat):Int)] else none))
def ri_r2_placed_6 (d:List G) (b:Nat):List G:=[.l (gi d 0).rows,.i (((gi d 1).int.toNat:Nat):Int),.l (gi d 2).rows,.i (gi d 3).int,.i (gi d 4).int,.s (gi d 5).str,.i (gi d 6).int,.i (((gi d 7).int.toNat:Nat):Int),.i (b:Int)]
def rb_r2_placed_6 (d:List G) (b:Nat):Bool:=((Nat.beq (gi d 2).rows.length (gi d 2).rows.length)&&true)
def rs_r2_placed_6:RSpec:=⟨⟨39,[(0,.s (.map 0)),(3,.s (.vec 1 3)),(5,.s (.int .i64)),(6,.s (.ptr 2 0)),(10,.s (.addr)),(20,.s (.addr))],[.map (.one (.str)) (.one (.int .i64)),.vec KPlace 0,.box [.int .i64,.int .i64,.str]]⟩,[.fix 0,.slot 3,.slot 6],[],(.one (.str)),(.one (.int .i64)),0,0,19,20,21,22,23,fun d=>(gi d 8).int.toNat,ri_r2_placed_6,rb_r2_placed_6,sr_r2_placed_6⟩
theorem w_r2_placed_6:RRound P t85 nL0 1 rs_r2_placed_6 (rOps2 (cutAt Tryz.f64 6)) (rBody (cutAt Tryz.f64 6)):=fun r d=>by kernel_rfl
def tr_r2_placed_6 (d:List G):Option (Option Nat × List G) :=
 (bif ((Nat.beq (gi d 2).rows.length (gi d 2).rows.length)&&(decide (((gi d 2).rows.length+1)≤1048576))) then (bif ((Nat.beq ((gi d 2).rows++([[.i (gi d 3).int,.i (gi d 4).int,.s (gi d 5).str]]:List (List G))).length ((gi d 2).rows++([[.i (gi d 3).int,.i (gi d 4).int,.s (gi d 5).str]]:List (List G))).length)&&true) then some (some 0,[.l (gi d 0).rows,.i (((gi d 1).int.toNat:Nat):Int),.l ((gi d 2).rows++([[.i (gi d 3).int,.i (gi d 4).int,.s (gi d 5).str]]:List (List G))),.i (((gi d 7).int.toNat:Nat):Int)]) else none) else none)
def l_r2_placed_6r:LSpec:=⟨11,[],⟨39,[(0,.s (.map 0)),(3,.s (.vec 1 3)),(5,.s (.int .i64)),(6,.s (.ptr 2 0)),(10,.s (.addr)),(20,.s (.addr))],[.map (.one (.str)) (.one (.int .i64)),.vec KPlace 0,.box [.int .i64,.int .i64,.str]]⟩,[],[⟨.normal,⟨39,[(0,.s (.map 0)),(3,.s (.vec 1 3)),(10,.s (.addr))],[.map (.one (.str)) (.one (.int .i64)),.vec KPlace 0]⟩,[.fix 0,.slot 3]⟩],tr_r2_placed_6⟩
theorem v_r2_placed_6:CutOK P t85 nL0 1 (rRest (cutAt Tryz.f64 6)) l_r2_placed_6r:=fun d=>by kernel_rfl
def tl_r2_placed_6 (d:List G):Option (Option Nat × List G) :=
 rangeR rs_r2_placed_6 tr_r2_placed_6 (gi d 0).rows ((gi d 1).int.toNat) d
def l_r2_placed_6c:LSpec:=⟨6,[],⟨39,[(0,.s (.map 0)),(3,.s (.vec 1 3)),(5,.s (.int .i64)),(6,.s (.ptr 2 0)),(10,.s (.addr))],[.map (.one (.str)) (.one (.int .i64)),.vec KPlace 0,.box [.int .i64,.int .i64,.str]]⟩,[.fix 0,.slot 3,.slot 6],[⟨.normal,⟨39,[(0,.s (.map 0)),(3,.s (.vec 1 3)),(10,.s (.addr))],[.map (.one (.str)) (.one (.int .i64)),.vec KPlace 0]⟩,[.fix 0,.slot 3]⟩],tl_r2_placed_6⟩
def L_r2_placed_6c:LT:=nL0.addCut 1 l_r2_placed_6c
theorem k_r2_placed_6:∀ r d d',sr_r2_placed_6 r d=some d'→(gi d' 0).rows=(gi d 0).rows∧(gi d' 1).int.toNat=(gi d 1).int.toNat:=by
 intro r d d' h
 unfold sr_r2_placed_6 at h
 simp only [Bool.cond_eq_ite] at h
 repeat' split at h
 all_goals first | (cases h; done) | (cases h; exact ⟨rfl,rfl⟩)
theorem L_r2_placed_6c_ok:LpK P 1 L_r2_placed_6c (bodyOf Tryz.f64):=LpK.addRangeK (q:=l_r2_placed_6c) (qr:=l_r2_placed_6r) (sp:=rs_r2_placed_6) (r0:=6) (b0:=2) (r1:=7) (b1:=3) (r2:=8) (rows:=fun d=>(gi d 0).rows) (clock:=fun d=>(gi d 1).int.toNat) (pre:=fun d=>preOf P t85 (rOps0 (cutAt Tryz.f64 6)) (mkSt l_r2_placed_6c.inv d)) (ri:=fun d=>(gi d 0).rows) (ci:=fun d=>(gi d 1).int.toNat) hm t85_ok (fun d=>by kernel_rfl) k_r2_placed_6 (by kernel_rfl) (by kernel_rfl) (nLk _ _ _) (by kernel_rfl) (by kernel_rfl) w_r2_placed_6 (fun d=>by kernel_rfl) (fun d=>by kernel_rfl) (fun d=>by kernel_rfl) (fun d=>by kernel_rfl) (fun d=>by kernel_rfl) (fun d=>by kernel_rfl) (fun d b=>by kernel_rfl) (fun d b=>rfl) (fun d b=>⟨rfl,rfl⟩) rfl rfl v_r2_placed_6 (fun d=>rfl)
def sr_r2_placed_2 (r d:List G):Option (List G) :=
 (loopB ((Nat.beq (gi d 2).rows.length (gi d 2).rows.length)&&true) (cutR (tl_r2_placed_6 [.l (gi d 0).rows,.i (((gi d 1).int.toNat:Nat):Int),.l (gi d 2).rows,.i 1,.i (gi (gi r 1).row 0).int,.s (gi (gi r 0).row 0).str,.i (gi (gi r 1).row 0).int,.i (((gi d 3).int.toNat:Nat):Int)])) fun cg1 g1=>(bif ((Nat.beq (gi g1 2).rows.length (gi g1 2).rows.length)&&true) then some [.l (gi g1 0).rows,.i (((gi g1 1).int.toNat:Nat):Int),.l (gi g1 2).rows,.i (((gi g1 3).int.toNat:Nat):Int)] else none))
def ri_r2_placed_2 (d:List G) (b:Nat):List G:=[.l (gi d 0).rows,.i (((gi d 1).int.toNat:Nat):Int),.l (gi d 2).rows,.i (b:Int)]
def rb_r2_placed_2 (d:List G) (b:Nat):Bool:=((Nat.beq (gi d 2).rows.length (gi d 2).rows.length)&&true)
def rs_r2_placed_2:RSpec:=⟨⟨39,[(0,.s (.map 0)),(3,.s (.vec 1 3)),(10,.s (.addr))],[.map (.one (.str)) (.one (.int .i64)),.vec KPlace 0]⟩,[.fix 0,.slot 3],[],(.one (.str)),(.one (.int .i64)),0,0,9,10,11,12,13,fun d=>(gi d 3).int.toNat,ri_r2_placed_2,rb_r2_placed_2,sr_r2_placed_2⟩
theorem w_r2_placed_2:RRound P t85 L_r2_placed_6c 1 rs_r2_placed_2 (rOps2 (cutAt Tryz.f64 2)) (rBody (cutAt Tryz.f64 2)):=fun r d=>by kernel_rfl
def tr_r2_placed_2 (d:List G):Option (Option Nat × List G) :=
 (callB (((Nat.beq (gi d 2).rows.length (gi d 2).rows.length)&&true)&&(F_sl_SortFunc_Place_2 [.l (gi d 2).rows]).isSome) (F_sl_SortFunc_Place_2 [.l (gi d 2).rows]) fun g2=>(bif ((Nat.beq (gi d 2).rows.length (gi g2 0).rows.length)&&true) then some (some 0,[.l (gi d 0).rows,.i (((gi d 1).int.toNat:Nat):Int),.l (gi g2 0).rows]) else none))
def l_r2_placed_2r:LSpec:=⟨12,[],⟨39,[(0,.s (.map 0)),(3,.s (.vec 1 3)),(10,.s (.addr))],[.map (.one (.str)) (.one (.int .i64)),.vec KPlace 0]⟩,[],[⟨.ret,⟨39,[(2,.s (.vec 1 3))],[.map (.one (.str)) (.one (.int .i64)),.vec KPlace 0]⟩,[.fix 0,.slot 2]⟩],tr_r2_placed_2⟩
theorem v_r2_placed_2:CutOK P t85 L_r2_placed_6c 1 (rRest (cutAt Tryz.f64 2)) l_r2_placed_2r:=fun d=>by kernel_rfl
def tl_r2_placed_2 (d:List G):Option (Option Nat × List G) :=
 rangeR rs_r2_placed_2 tr_r2_placed_2 (gi d 0).rows ((gi d 1).int.toNat) d
def l_r2_placed_2c:LSpec:=⟨2,[(3,KPlace)],⟨39,[(0,.s (.map 0)),(3,.s (.vec 1 3))],[.map (.one (.str)) (.one (.int .i64)),.vec KPlace 0]⟩,[.fix 0,.slot 3],[⟨.ret,⟨39,[(2,.s (.vec 1 3))],[.map (.one (.str)) (.one (.int .i64)),.vec KPlace 0]⟩,[.fix 0,.slot 2]⟩],tl_r2_placed_2⟩
def L_r2_placed_2c:LT:=L_r2_placed_6c.addCut 1 l_r2_placed_2c
theorem kt_r2_placed_6:∀ d v,tl_r2_placed_6 d=some v→(gi v.2 0).rows=(gi d 0).rows∧(gi v.2 1).int.toNat=(gi d 1).int.toNat:=fun d v h=>by
 unfold tl_r2_placed_6 at h
 refine rangeR_keeps (I:=fun x=>(gi x 0).rows=(gi d 0).rows∧(gi x 1).int.toNat=(gi d 1).int.toNat) (Q:=fun v=>(gi v.2 0).rows=(gi d 0).rows∧(gi v.2 1).int.toNat=(gi d 1).int.toNat) h (fun b=>⟨rfl,rfl⟩) (fun r x y hy hi=>⟨(k_r2_placed_6 r x y hy).1.trans hi.1,(k_r2_placed_6 r x y hy).2.trans hi.2⟩) fun x u hu hi=>?_
 unfold tr_r2_placed_6 at hu
 simp only [Bool.cond_eq_ite] at hu
 repeat' split at hu
 all_goals first | (cases hu; done) | (cases hu; exact hi)
theorem k_r2_placed_2:∀ r d d',sr_r2_placed_2 r d=some d'→(gi d' 0).rows=(gi d 0).rows∧(gi d' 1).int.toNat=(gi d 1).int.toNat:=by
 intro r d d' h
 unfold sr_r2_placed_2 at h
 obtain ⟨x,g,hx,hk⟩:=loopB_cut h
 have hI:=kt_r2_placed_6 _ _ hx
 simp only [Bool.cond_eq_ite] at hk
 repeat' split at hk
 all_goals first | (cases hk; done) | (cases hk; exact ⟨hI.1,hI.2⟩)
theorem L_r2_placed_2c_ok:LpK P 1 L_r2_placed_2c (bodyOf Tryz.f64):=LpK.addRangeK (q:=l_r2_placed_2c) (qr:=l_r2_placed_2r) (sp:=rs_r2_placed_2) (r0:=2) (b0:=0) (r1:=3) (b1:=1) (r2:=4) (rows:=fun d=>(gi d 0).rows) (clock:=fun d=>(gi d 1).int.toNat) (pre:=fun d=>preOf P t85 (rOps0 (cutAt Tryz.f64 2)) (mkSt l_r2_placed_2c.inv d)) (ri:=fun d=>(gi d 0).rows) (ci:=fun d=>(gi d 1).int.toNat) hm t85_ok (fun d=>by kernel_rfl) k_r2_placed_2 (by kernel_rfl) (by kernel_rfl) L_r2_placed_6c_ok (by kernel_rfl) (by kernel_rfl) w_r2_placed_2 (fun d=>by kernel_rfl) (fun d=>by kernel_rfl) (fun d=>by kernel_rfl) (fun d=>by kernel_rfl) (fun d=>by kernel_rfl) (fun d=>by kernel_rfl) (fun d b=>by kernel_rfl) (fun d b=>rfl) (fun d b=>⟨rfl,rfl⟩) rfl rfl v_r2_placed_2 (fun d=>rfl)
def F_r2_placed (d:List G):Option (List G) :=
 (loopB true (cutR (tl_r2_placed_2 [.l (gi d 0).rows,.i (((gi d 1).int.toNat:Nat):Int),.l []])) fun cg3 g3=>(bif ((Nat.beq (gi g3 2).rows.length (gi g3 2).rows.length)&&true) then some [.l (gi g3 0).rows,.i (((gi g3 1).int.toNat:Nat):Int),.l (gi g3 2).rows] else none))
def s_r2_placed:FSpec:=⟨64,[.s (.map 0)],[.map (.one (.str)) (.one (.int .i64))],[.slot 0],[.s (.list KPlace)],[.map (.one (.str)) (.one (.int .i64))],[.fix 0],[],F_r2_placed⟩
theorem b_r2_placed:BodyOK P t85 L_r2_placed_2c Tryz.f64 s_r2_placed:=fun d=>by kernel_rfl
theorem c_r2_placed:COK P s_r2_placed:=bdC hm t85_ok Tryz.func64 L_r2_placed_2c_ok b_r2_placed
def t86:Tab:=t85.addW s_r2_placed
theorem t86_ok:TabOK P t86:=t85_ok.aW c_r2_placed

def st_r2_TableOf_3 (d:List G):Option (Option Nat × List G) :=
 (bif (ltI (gi d 5).int (gi d 4).int) then (bif ((nnI (gi d 5).int)&&(ltI (gi d 5).int (((gi d 3).rows.length:Nat):Int))) then (bif ((gi ((gi d 3).rows.getD (((gi d 5).int).toNat) []) 1).str.toList==(gi d 2).str.toList) then (bif (inI ((gi d 5).int+1)) then some (none,[.l (mput [.str] (gi d 0).rows [.s (gi ((gi d 3).rows.getD (((gi d 5).int).toNat) []) 0).str] [.i (gi ((gi d 3).rows.getD (((gi d 5).int).toNat) []) 2).int] (gi d 1).int.toNat),.i (((mclk [.str] (gi d 0).rows [.s (gi ((gi d 3).rows.getD (((gi d 5).int).toNat) []) 0).str] (gi d 1).int.toNat):Nat):Int),.s (gi d 2).str,.l (gi d 3).rows,.i (gi d 4).int,.i ((gi d 5).int+1)]) else none) else (bif (inI ((gi d 5).int+1)) then some (none,[.l (gi d 0).rows,.i (((gi d 1).int.toNat:Nat):Int),.s (gi d 2).str,.l (gi d 3).rows,.i (gi d 4).int,.i ((gi d 5).int+1)]) else none)) else none) else some (some 0,[.l (gi d 0).rows,.i (((gi d 1).int.toNat:Nat):Int)]))
def l_r2_TableOf_3:LSpec:=⟨3,[],⟨27,[(1,.s (.str)),(5,.s (.map 0)),(9,.s (.list KMember)),(10,.s (.int .i64)),(11,.s (.int .i64))],[.map (.one (.str)) (.one (.int .i64))]⟩,[.slot 5],[⟨.exit 0,⟨27,[(5,.s (.map 0))],[.map (.one (.str)) (.one (.int .i64))]⟩,[.slot 5]⟩],st_r2_TableOf_3⟩
theorem r_r2_TableOf_3:RoundOK P t86 nL0 0 (loopAt Tryz.f19 3) l_r2_TableOf_3:=fun d=>by kernel_rfl
def L_r2_TableOf_3:LT:=nL0.add 0 l_r2_TableOf_3
theorem L_r2_TableOf_3_ok:LpK P 0 L_r2_TableOf_3 (bodyOf Tryz.f19):=LpK.a hm t86_ok (nLk _ _ _) r_r2_TableOf_3
def F_r2_TableOf (d:List G):Option (List G) :=
 (loopB true (LRun st_r2_TableOf_3 [.l [],.i 0,.s (gi d 1).str,.l (gi d 0).rows,.i (((gi d 0).rows.length:Nat):Int),.i 0]) fun cg1 g1=>(callF (F_r2_placed [.l (gi g1 0).rows,.i (((gi g1 1).int.toNat:Nat):Int)]) fun g2=>some [.l (gi g2 2).rows]))
def s_r2_TableOf:FSpec:=⟨19,[.s (.list KMember),.s (.str)],[],[],[.s (.list KPlace)],[],[],[],F_r2_TableOf⟩
theorem b_r2_TableOf:BodyOK P t86 L_r2_TableOf_3 Tryz.f19 s_r2_TableOf:=fun d=>by kernel_rfl
theorem c_r2_TableOf:COK P s_r2_TableOf:=bdC hm t86_ok Tryz.func19 L_r2_TableOf_3_ok b_r2_TableOf
def t87:Tab:=t86.addP s_r2_TableOf
theorem t87_ok:TabOK P t87:=t86_ok.aP c_r2_TableOf

def st_r2_NeededOf_3 (d:List G):Option (Option Nat × List G) :=
 (bif (ltI (gi d 6).int (gi d 5).int) then (bif ((nnI (gi d 6).int)&&(ltI (gi d 6).int (((gi d 4).rows.length:Nat):Int))) then (bif ((gi ((gi d 4).rows.getD (((gi d 6).int).toNat) []) 1).str.toList==(gi d 1).str.toList) then (bif ((gi ((gi d 4).rows.getD (((gi d 6).int).toNat) []) 0).str.toList==(gi d 2).str.toList) then (bif (inI ((gi d 6).int+1)) then some (none,[.l (gi d 0).rows,.s (gi d 1).str,.s (gi d 2).str,.i (gi ((gi d 4).rows.getD (((gi d 6).int).toNat) []) 2).int,.l (gi d 4).rows,.i (gi d 5).int,.i ((gi d 6).int+1)]) else none) else (bif (inI ((gi d 6).int+1)) then some (none,[.l (gi d 0).rows,.s (gi d 1).str,.s (gi d 2).str,.i (gi d 3).int,.l (gi d 4).rows,.i (gi d 5).int,.i ((gi d 6).int+1)]) else none)) else (bif (inI ((gi d 6).int+1)) then some (none,[.l (gi d 0).rows,.s (gi d 1).str,.s (gi d 2).str,.i (gi d 3).int,.l (gi d 4).rows,.i (gi d 5).int,.i ((gi d 6).int+1)]) else none)) else none) else some (some 0,[.l (gi d 0).rows,.s (gi d 1).str,.i (gi d 3).int]))
def l_r2_NeededOf_3:LSpec:=⟨3,[],⟨71,[(0,.s (.list KMember)),(1,.s (.str)),(2,.s (.str)),(8,.s (.int .i64)),(14,.s (.list KMember)),(15,.s (.int .i64)),(16,.s (.int .i64))],[]⟩,[],[⟨.exit 0,⟨71,[(0,.s (.list KMember)),(1,.s (.str)),(8,.s (.int .i64))],[]⟩,[]⟩],st_r2_NeededOf_3⟩
theorem r_r2_NeededOf_3:RoundOK P t87 nL0 0 (loopAt Tryz.f20 3) l_r2_NeededOf_3:=fun d=>by kernel_rfl
def L_r2_NeededOf_3:LT:=nL0.add 0 l_r2_NeededOf_3
theorem L_r2_NeededOf_3_ok:LpK P 0 L_r2_NeededOf_3 (bodyOf Tryz.f20):=LpK.a hm t87_ok (nLk _ _ _) r_r2_NeededOf_3
def st_r2_NeededOf_12 (d:List G):Option (Option Nat × List G) :=
 (bif (ltI (gi d 5).int (gi d 4).int) then (bif ((nnI (gi d 5).int)&&(ltI (gi d 5).int (((gi d 3).rows.length:Nat):Int))) then (bif ((gi ((gi d 3).rows.getD (((gi d 5).int).toNat) []) 1).str.toList==(gi d 0).str.toList) then (bif (ltI (gi d 1).int (gi ((gi d 3).rows.getD (((gi d 5).int).toNat) []) 2).int) then (bif ((gi d 2).int==0) then (bif (inI ((gi ((gi d 3).rows.getD (((gi d 5).int).toNat) []) 2).int-(gi d 1).int)) then (bif (inI (((gi ((gi d 3).rows.getD (((gi d 5).int).toNat) []) 2).int-(gi d 1).int)+1)) then (bif (inI ((gi d 5).int+1)) then some (none,[.s (gi d 0).str,.i (gi d 1).int,.i (((gi ((gi d 3).rows.getD (((gi d 5).int).toNat) []) 2).int-(gi d 1).int)+1),.l (gi d 3).rows,.i (gi d 4).int,.i ((gi d 5).int+1)]) else none) else none) else none) else (bif (inI ((gi ((gi d 3).rows.getD (((gi d 5).int).toNat) []) 2).int-(gi d 1).int)) then (bif (inI (((gi ((gi d 3).rows.getD (((gi d 5).int).toNat) []) 2).int-(gi d 1).int)+1)) then (bif (ltI (((gi ((gi d 3).rows.getD (((gi d 5).int).toNat) []) 2).int-(gi d 1).int)+1) (gi d 2).int) then (bif (inI ((gi ((gi d 3).rows.getD (((gi d 5).int).toNat) []) 2).int-(gi d 1).int)) then (bif (inI (((gi ((gi d 3).rows.getD (((gi d 5).int).toNat) []) 2).int-(gi d 1).int)+1)) then (bif (inI ((gi d 5).int+1)) then some (none,[.s (gi d 0).str,.i (gi d 1).int,.i (((gi ((gi d 3).rows.getD (((gi d 5).int).toNat) []) 2).int-(gi d 1).int)+1),.l (gi d 3).rows,.i (gi d 4).int,.i ((gi d 5).int+1)]) else none) else none) else none) else (bif (inI ((gi d 5).int+1)) then some (none,[.s (gi d 0).str,.i (gi d 1).int,.i (gi d 2).int,.l (gi d 3).rows,.i (gi d 4).int,.i ((gi d 5).int+1)]) else none)) else none) else none)) else (bif (inI ((gi d 5).int+1)) then some (none,[.s (gi d 0).str,.i (gi d 1).int,.i (gi d 2).int,.l (gi d 3).rows,.i (gi d 4).int,.i ((gi d 5).int+1)]) else none)) else (bif (inI ((gi d 5).int+1)) then some (none,[.s (gi d 0).str,.i (gi d 1).int,.i (gi d 2).int,.l (gi d 3).rows,.i (gi d 4).int,.i ((gi d 5).int+1)]) else none)) else none) else some (some 0,[.i (gi d 2).int]))
def l_r2_NeededOf_12:LSpec:=⟨12,[],⟨71,[(1,.s (.str)),(8,.s (.int .i64)),(11,.s (.int .i64)),(35,.s (.list KMember)),(36,.s (.int .i64)),(37,.s (.int .i64))],[]⟩,[],[⟨.exit 2,⟨71,[(11,.s (.int .i64))],[]⟩,[]⟩],st_r2_NeededOf_12⟩
theorem r_r2_NeededOf_12:RoundOK P t87 L_r2_NeededOf_3 0 (loopAt Tryz.f20 12) l_r2_NeededOf_12:=fun d=>by kernel_rfl
def L_r2_NeededOf_12:LT:=L_r2_NeededOf_3.add 0 l_r2_NeededOf_12
theorem L_r2_NeededOf_12_ok:LpK P 0 L_r2_NeededOf_12 (bodyOf Tryz.f20):=LpK.a hm t87_ok L_r2_NeededOf_3_ok r_r2_NeededOf_12
def F_r2_NeededOf (d:List G):Option (List G) :=
 (loopB true (LRun st_r2_NeededOf_3 [.l (gi d 0).rows,.s (gi d 1).str,.s (gi d 2).str,.i (-1),.l (gi d 0).rows,.i (((gi d 0).rows.length:Nat):Int),.i 0]) fun cg1 g1=>(bif (ltI (gi g1 2).int 0) then some [.i 0,.i 8] else (loopB true (LRun st_r2_NeededOf_12 [.s (gi g1 1).str,.i (gi g1 2).int,.i 0,.l (gi g1 0).rows,.i (((gi g1 0).rows.length:Nat):Int),.i 0]) fun cg2 g2=>some [.i (gi g2 0).int,.i 0])))
def s_r2_NeededOf:FSpec:=⟨20,[.s (.list KMember),.s (.str),.s (.str)],[],[],[.s (.int .i64),.s (.int .i64)],[],[],[],F_r2_NeededOf⟩
theorem b_r2_NeededOf:BodyOK P t87 L_r2_NeededOf_12 Tryz.f20 s_r2_NeededOf:=fun d=>by kernel_rfl
theorem c_r2_NeededOf:COK P s_r2_NeededOf:=bdC hm t87_ok Tryz.func20 L_r2_NeededOf_12_ok b_r2_NeededOf
def t88:Tab:=t87.addP s_r2_NeededOf
theorem t88_ok:TabOK P t88:=t87_ok.aP c_r2_NeededOf

def st_r2_lineOf_3 (d:List G):Option (Option Nat × List G) :=
 (bif (ltI (gi d 12).int (gi d 11).int) then (bif ((nnI (gi d 12).int)&&(ltI (gi d 12).int (((gi d 10).rows.length:Nat):Int))) then (bif ((gi ((gi d 10).rows.getD (((gi d 12).int).toNat) []) 0).str.toList==(gi d 8).str.toList) then (bif (leI (gi ((gi d 10).rows.getD (((gi d 12).int).toNat) []) 2).int (gi d 9).int) then (bif (inI ((gi d 12).int+1)) then some (none,[.s (gi d 0).str,.s (gi d 1).str,.i (gi d 2).int,.s (gi d 3).str,.s (gi ((gi d 10).rows.getD (((gi d 12).int).toNat) []) 0).str,.s (gi ((gi d 10).rows.getD (((gi d 12).int).toNat) []) 1).str,.i (gi ((gi d 10).rows.getD (((gi d 12).int).toNat) []) 2).int,.s (gi ((gi d 10).rows.getD (((gi d 12).int).toNat) []) 3).str,.s (gi d 8).str,.i (gi d 9).int,.l (gi d 10).rows,.i (gi d 11).int,.i ((gi d 12).int+1)]) else none) else (bif (inI ((gi d 12).int+1)) then some (none,[.s (gi d 0).str,.s (gi d 1).str,.i (gi d 2).int,.s (gi d 3).str,.s (gi d 4).str,.s (gi d 5).str,.i (gi d 6).int,.s (gi d 7).str,.s (gi d 8).str,.i (gi d 9).int,.l (gi d 10).rows,.i (gi d 11).int,.i ((gi d 12).int+1)]) else none)) else (bif (inI ((gi d 12).int+1)) then some (none,[.s (gi d 0).str,.s (gi d 1).str,.i (gi d 2).int,.s (gi d 3).str,.s (gi d 4).str,.s (gi d 5).str,.i (gi d 6).int,.s (gi d 7).str,.s (gi d 8).str,.i (gi d 9).int,.l (gi d 10).rows,.i (gi d 11).int,.i ((gi d 12).int+1)]) else none)) else none) else some (some 0,[.s (gi d 0).str,.s (gi d 1).str,.i (gi d 2).int,.s (gi d 3).str,.s (gi d 4).str,.s (gi d 5).str,.i (gi d 6).int,.s (gi d 7).str]))
def l_r2_lineOf_3:LSpec:=⟨3,[],⟨29,[(1,.s (.str)),(2,.s (.int .i64)),(6,.s (.ptr 0 0)),(7,.s (.ptr 1 0)),(10,.s (.list KMember)),(11,.s (.int .i64)),(12,.s (.int .i64))],[.box [.str,.str,.int .i64,.str],.box [.str,.str,.int .i64,.str]]⟩,[.slot 6,.slot 7],[⟨.exit 0,⟨29,[(6,.s (.ptr 0 0)),(7,.s (.ptr 1 0))],[.box [.str,.str,.int .i64,.str],.box [.str,.str,.int .i64,.str]]⟩,[.slot 6,.slot 7]⟩],st_r2_lineOf_3⟩
theorem r_r2_lineOf_3:RoundOK P t88 nL0 0 (loopAt Tryz.f102 3) l_r2_lineOf_3:=fun d=>by kernel_rfl
def L_r2_lineOf_3:LT:=nL0.add 0 l_r2_lineOf_3
theorem L_r2_lineOf_3_ok:LpK P 0 L_r2_lineOf_3 (bodyOf Tryz.f102):=LpK.a hm t88_ok (nLk _ _ _) r_r2_lineOf_3
def F_r2_lineOf (d:List G):Option (List G) :=
 (loopB true (LRun st_r2_lineOf_3 [.s (⟨#[]⟩:ByteArray),.s (⟨#[]⟩:ByteArray),.i 0,.s (⟨#[]⟩:ByteArray),.s (⟨#[]⟩:ByteArray),.s (⟨#[]⟩:ByteArray),.i 0,.s (⟨#[]⟩:ByteArray),.s (gi d 1).str,.i (gi d 2).int,.l (gi d 0).rows,.i (((gi d 0).rows.length:Nat):Int),.i 0]) fun cg1 g1=>some [.l [[.s (gi g1 4).str,.s (gi g1 5).str,.i (gi g1 6).int,.s (gi g1 7).str]]])
def s_r2_lineOf:FSpec:=⟨102,[.s (.list KMember),.s (.str),.s (.int .i64)],[],[],[.s (.row KMember)],[],[],[],F_r2_lineOf⟩
theorem b_r2_lineOf:BodyOK P t88 L_r2_lineOf_3 Tryz.f102 s_r2_lineOf:=fun d=>by kernel_rfl
theorem c_r2_lineOf:COK P s_r2_lineOf:=bdC hm t88_ok Tryz.func102 L_r2_lineOf_3_ok b_r2_lineOf
def t89:Tab:=t88.addP s_r2_lineOf
theorem t89_ok:TabOK P t89:=t88_ok.aP c_r2_lineOf

def F_r2_inside_1 (d:List G):Option (List G) :=
 (callF (F_strings_HasPrefix [.s (gi (gi d 1).row 3).str,.s (gi d 0).str]) fun g1=>some [.t (gi g1 0).bool])
def s_r2_inside_1:FSpec:=⟨160,[.s (.str),.s (.cptr KMember)],[],[],[.s (.bool)],[],[],[],F_r2_inside_1⟩
theorem b_r2_inside_1:BodyOK P t89 nL0 Tryz.f160 s_r2_inside_1:=fun d=>by kernel_rfl
theorem c_r2_inside_1:COK P s_r2_inside_1:=bdC hm t89_ok Tryz.func160 (nLk _ _ _) b_r2_inside_1
def t90:Tab:=t89.addP s_r2_inside_1
theorem t90_ok:TabOK P t90:=t89_ok.aP c_r2_inside_1

def st_sl_IndexFunc_string_2_2 (d:List G):Option (Option Nat × List G) :=
 (bif (ltI (gi d 3).int (gi d 2).int) then (bif ((nnI (gi d 3).int)&&(ltI (gi d 3).int (((gi d 0).rows.length:Nat):Int))) then (callF (F_r2_inside_1 [.s (gi ((gi d 0).rows.getD (((gi d 3).int).toNat) []) 0).str,.l [(gEta KMember (gi d 1).row)]]) fun g1=>(bif (gi g1 0).bool then some (some 0,[.i (gi d 3).int]) else (bif (inI ((gi d 3).int+1)) then some (none,[.l (gi d 0).rows,.l [(gEta KMember (gi d 1).row)],.i (gi d 2).int,.i ((gi d 3).int+1)]) else none))) else none) else some (some 1,[]))
def l_sl_IndexFunc_string_2_2:LSpec:=⟨2,[],⟨19,[(0,.s (.list [.str])),(1,.clo 160 [.cptr KMember]),(7,.s (.int .i64)),(8,.s (.int .i64))],[]⟩,[],[⟨.ret,⟨19,[(4,.s (.int .i64))],[]⟩,[]⟩,⟨.exit 0,⟨19,[],[]⟩,[]⟩],st_sl_IndexFunc_string_2_2⟩
theorem r_sl_IndexFunc_string_2_2:RoundOK P t90 nL0 0 (loopAt Tryz.f198 2) l_sl_IndexFunc_string_2_2:=fun d=>by kernel_rfl
def L_sl_IndexFunc_string_2_2:LT:=nL0.add 0 l_sl_IndexFunc_string_2_2
theorem L_sl_IndexFunc_string_2_2_ok:LpK P 0 L_sl_IndexFunc_string_2_2 (bodyOf Tryz.f198):=LpK.a hm t90_ok (nLk _ _ _) r_sl_IndexFunc_string_2_2
def F_sl_IndexFunc_string_2 (d:List G):Option (List G) :=
 (loopB true (LRun st_sl_IndexFunc_string_2_2 [.l (gi d 0).rows,.l [(gEta KMember (gi d 1).row)],.i (((gi d 0).rows.length:Nat):Int),.i 0]) fun cg2 g2=>(bif Nat.beq cg2 0 then some [.i (gi g2 0).int] else some [.i (-1)]))
def s_sl_IndexFunc_string_2:FSpec:=⟨198,[.s (.list [.str]),.clo 160 [.cptr KMember]],[],[],[.s (.int .i64)],[],[],[],F_sl_IndexFunc_string_2⟩
theorem b_sl_IndexFunc_string_2:BodyOK P t90 L_sl_IndexFunc_string_2_2 Tryz.f198 s_sl_IndexFunc_string_2:=fun d=>by kernel_rfl
theorem c_sl_IndexFunc_string_2:COK P s_sl_IndexFunc_string_2:=bdC hm t90_ok Tryz.func198 L_sl_IndexFunc_string_2_2_ok b_sl_IndexFunc_string_2
def t91:Tab:=t90.addP s_sl_IndexFunc_string_2
theorem t91_ok:TabOK P t91:=t90_ok.aP c_sl_IndexFunc_string_2

def F_sl_ContainsFunc_string_2 (d:List G):Option (List G) :=
 (callF (F_sl_IndexFunc_string_2 [.l (gi d 0).rows,.l [(gEta KMember (gi d 1).row)]]) fun g1=>some [.t (leI 0 (gi g1 0).int)])
def s_sl_ContainsFunc_string_2:FSpec:=⟨136,[.s (.list [.str]),.clo 160 [.cptr KMember]],[],[],[.s (.bool)],[],[],[],F_sl_ContainsFunc_string_2⟩
theorem b_sl_ContainsFunc_string_2:BodyOK P t91 nL0 Tryz.f136 s_sl_ContainsFunc_string_2:=fun d=>by kernel_rfl
theorem c_sl_ContainsFunc_string_2:COK P s_sl_ContainsFunc_string_2:=bdC hm t91_ok Tryz.func136 (nLk _ _ _) b_sl_ContainsFunc_string_2
def t92:Tab:=t91.addP s_sl_ContainsFunc_string_2
theorem t92_ok:TabOK P t92:=t91_ok.aP c_sl_ContainsFunc_string_2

def st_r2_inside_2 (d:List G):Option (Option Nat × List G) :=
 (bif (ltI (gi d 6).int (gi d 5).int) then (bif ((nnI (gi d 6).int)&&(ltI (gi d 6).int (((gi d 4).rows.length:Nat):Int))) then (bif ((gi ((gi d 4).rows.getD (((gi d 6).int).toNat) []) 0).str.toList==(gi d 1).str.toList) then (callF (F_sl_ContainsFunc_string_2 [.l (gi ((gi d 4).rows.getD (((gi d 6).int).toNat) []) 1).rows,.l [(gEta KMember d)]]) fun g1=>(bif (gi g1 0).bool then some (some 0,[.t true]) else (bif (inI ((gi d 6).int+1)) then some (none,[.s (gi d 0).str,.s (gi d 1).str,.i (gi d 2).int,.s (gi d 3).str,.l (gi d 4).rows,.i (gi d 5).int,.i ((gi d 6).int+1)]) else none))) else (bif (inI ((gi d 6).int+1)) then some (none,[.s (gi d 0).str,.s (gi d 1).str,.i (gi d 2).int,.s (gi d 3).str,.l (gi d 4).rows,.i (gi d 5).int,.i ((gi d 6).int+1)]) else none)) else none) else some (some 1,[]))
def l_r2_inside_2:LSpec:=⟨2,[],⟨25,[(3,.s (.ptr 0 0)),(7,.s (.list [.str,.list [.str]])),(8,.s (.int .i64)),(9,.s (.int .i64))],[.box [.str,.str,.int .i64,.str]]⟩,[.slot 3],[⟨.ret,⟨25,[(4,.s (.bool))],[]⟩,[]⟩,⟨.exit 0,⟨25,[],[]⟩,[]⟩],st_r2_inside_2⟩
theorem r_r2_inside_2:RoundOK P (t92.lessPf [136]) nL0 0 (loopAt Tryz.f103 2) l_r2_inside_2:=fun d=>by kernel_rfl
def L_r2_inside_2:LT:=nL0.add 0 l_r2_inside_2
theorem L_r2_inside_2_ok:LpK P 0 L_r2_inside_2 (bodyOf Tryz.f103):=LpK.add hm (t92_ok.lessPf [136]) (by kernel_rfl) (nLk _ _ _) r_r2_inside_2
def F_r2_inside (d:List G):Option (List G) :=
 (loopB true (LRun st_r2_inside_2 [.s (gi (gi d 1).row 0).str,.s (gi (gi d 1).row 1).str,.i (gi (gi d 1).row 2).int,.s (gi (gi d 1).row 3).str,.l (gi d 0).rows,.i (((gi d 0).rows.length:Nat):Int),.i 0]) fun cg2 g2=>(bif Nat.beq cg2 0 then some [.t (gi g2 0).bool] else some [.t false]))
def s_r2_inside:FSpec:=⟨103,[.s (.list [.str,.list [.str]]),.s (.row KMember)],[],[],[.s (.bool)],[],[],[],F_r2_inside⟩
theorem b_r2_inside:BodyOK P (t92.lessPf [136]) L_r2_inside_2 Tryz.f103 s_r2_inside:=fun d=>by kernel_rfl
theorem c_r2_inside:COK P s_r2_inside:=bodyC hm (t92_ok.lessPf [136]) Tryz.func103 (by kernel_rfl) L_r2_inside_2_ok b_r2_inside (by kernel_rfl)
def t93:Tab:=t92.addP s_r2_inside
theorem t93_ok:TabOK P t93:=t92_ok.aP c_r2_inside

def F_r2_ClubFor (d:List G):Option (List G) :=
 (callF (F_r2_BaseOf [.s (gi d 2).str]) fun g1=>(callF (F_r2_lineOf [.l (gi d 1).rows,.s (gi g1 0).str,.i (gi d 3).int]) fun g2=>(callF (F_r2_inside [.l (gi d 0).rows,.l [(gEta KMember (gi g2 0).row)]]) fun g3=>(bif (!(gi g3 0).bool) then some [.s (⟨#[]⟩:ByteArray)] else some [.s (gi (gi g2 0).row 1).str]))))
def s_r2_ClubFor:FSpec:=⟨65,[.s (.list [.str,.list [.str]]),.s (.list KMember),.s (.str),.s (.int .i64)],[],[],[.s (.str)],[],[],[],F_r2_ClubFor⟩
theorem b_r2_ClubFor:BodyOK P t93 nL0 Tryz.f65 s_r2_ClubFor:=fun d=>by kernel_rfl
theorem c_r2_ClubFor:COK P s_r2_ClubFor:=bdC hm t93_ok Tryz.func65 (nLk _ _ _) b_r2_ClubFor
def t94:Tab:=t93.addP s_r2_ClubFor
theorem t94_ok:TabOK P t94:=t93_ok.aP c_r2_ClubFor

end
end Go.Proofs.SYtelglbbhbgjagaaGreatDoor
