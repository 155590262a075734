/-
 What is proved here: functions of the program as functions on data. No condition.
-/
import Derived.Test.YtioeckojljemcaaGreatDoorML3
set_option linter.all false
namespace Go.Proofs.SYtioeckojljemcaaGreatDoor
open Go Go.AL Go.Proofs
noncomputable section
def sr_check_pairs_3 (r d:List G):Option (List G) :=
 (callF (F_check_joiner_rows [.l (gi d 1).rows,.l (gi d 3).rows,.l (gi (gi r 1).row 0).rows,.l (gi (mget [.str,.int .i64] (gi d 4).rows (gEta [.str,.int .i64] (gi r 0).row) [.l []]) 0).rows,.i (gi d 7).int,.l []]) fun g3=>(bif ((Nat.beq (gi d 6).rows.length (gi d 6).rows.length)&&(decide (((gi d 6).rows.length+(gi g3 6).rows.length)≤1048576))) then (bif ((Nat.beq ((gi d 6).rows++(gi g3 6).rows).length ((gi d 6).rows++(gi g3 6).rows).length)&&true) then some [.s (gi d 0).str,.l (gi d 1).rows,.s (gi d 2).str,.l (gi d 3).rows,.l (gi d 4).rows,.i (((gi d 5).int.toNat:Nat):Int),.l ((gi d 6).rows++(gi g3 6).rows),.i (gi d 7).int,.i (((gi d 8).int.toNat:Nat):Int)] else none) else none))
def ri_check_pairs_3 (d:List G) (b:Nat):List G:=[.s (gi d 0).str,.l (gi d 1).rows,.s (gi d 2).str,.l (gi d 3).rows,.l (gi d 6).rows,.i (((gi d 7).int.toNat:Nat):Int),.l (gi d 8).rows,.i (gi d 9).int,.i (b:Int)]
def rb_check_pairs_3 (d:List G) (b:Nat):Bool:=((Nat.beq (gi d 8).rows.length (gi d 8).rows.length)&&true)
def rs_check_pairs_3:RSpec:=⟨⟨48,[(2,.s (.int .i64)),(3,.s (.ptr 0 0)),(4,.s (.ptr 1 0)),(8,.s (.map 2)),(9,.s (.vec 3 2)),(24,.s (.addr))],[.box [.str,.list KCt],.box [.str,.list KCt],.map (.agg [.str,.int .i64]) (.one (.list [.int .i64])),.vec [.int .i64,.int .i64] 0]⟩,[.slot 3,.slot 4,.slot 8,.slot 9],[],(.agg [.str,.int .i64]),(.one (.list [.int .i64])),2,0,23,24,25,26,27,fun d=>(gi d 8).int.toNat,ri_check_pairs_3,rb_check_pairs_3,sr_check_pairs_3⟩
theorem w_check_pairs_3:RRound P t77 nL0 0 rs_check_pairs_3 (rOps2 (cutAt Tryz.f28 3)) (rBody (cutAt Tryz.f28 3)):=fun r d=>by kernel_rfl
def tr_check_pairs_3 (d:List G):Option (Option Nat × List G) :=
 (callB (((Nat.beq (gi d 6).rows.length (gi d 6).rows.length)&&true)&&(F_sl_SortFunc_Row [.l (gi d 6).rows]).isSome) (F_sl_SortFunc_Row [.l (gi d 6).rows]) fun g4=>(bif ((Nat.beq (gi d 6).rows.length (gi g4 0).rows.length)&&true) then some (some 0,[.l (gi g4 0).rows]) else none))
def l_check_pairs_3r:LSpec:=⟨8,[],⟨48,[(2,.s (.int .i64)),(3,.s (.ptr 0 0)),(4,.s (.ptr 1 0)),(8,.s (.map 2)),(9,.s (.vec 3 2)),(24,.s (.addr))],[.box [.str,.list KCt],.box [.str,.list KCt],.map (.agg [.str,.int .i64]) (.one (.list [.int .i64])),.vec [.int .i64,.int .i64] 0]⟩,[],[⟨.ret,⟨48,[(6,.s (.vec 0 2))],[.vec [.int .i64,.int .i64] 0]⟩,[.slot 6]⟩],tr_check_pairs_3⟩
theorem v_check_pairs_3:CutOK P t77 nL0 0 (rRest (cutAt Tryz.f28 3)) l_check_pairs_3r:=fun d=>by kernel_rfl
def tl_check_pairs_3 (d:List G):Option (Option Nat × List G) :=
 rangeR rs_check_pairs_3 tr_check_pairs_3 (gi d 4).rows ((gi d 5).int.toNat) d
def l_check_pairs_3c:LSpec:=⟨3,[(9,[.int .i64,.int .i64])],⟨48,[(2,.s (.int .i64)),(3,.s (.ptr 0 0)),(4,.s (.ptr 1 0)),(7,.s (.map 2)),(8,.s (.map 3)),(9,.s (.vec 4 2))],[.box [.str,.list KCt],.box [.str,.list KCt],.map (.agg [.str,.int .i64]) (.one (.list [.int .i64])),.map (.agg [.str,.int .i64]) (.one (.list [.int .i64])),.vec [.int .i64,.int .i64] 0]⟩,[.slot 3,.slot 4,.slot 7,.slot 8,.slot 9],[⟨.ret,⟨48,[(6,.s (.vec 0 2))],[.vec [.int .i64,.int .i64] 0]⟩,[.slot 6]⟩],tl_check_pairs_3⟩
def L_check_pairs_3c:LT:=nL0.addCut 0 l_check_pairs_3c
theorem L_check_pairs_3c_ok:LpK P 0 L_check_pairs_3c (bodyOf Tryz.f28):=LpK.addRange (q:=l_check_pairs_3c) (qr:=l_check_pairs_3r) (sp:=rs_check_pairs_3) (r0:=3) (b0:=0) (r1:=4) (b1:=1) (r2:=5) (rows:=fun d=>(gi d 4).rows) (clock:=fun d=>(gi d 5).int.toNat) (pre:=fun d=>preOf P t77 (rOps0 (cutAt Tryz.f28 3)) (mkSt l_check_pairs_3c.inv d)) hm t77_ok (by kernel_rfl) (nLk _ _ _) (by kernel_rfl) (by kernel_rfl) w_check_pairs_3 (fun d=>by kernel_rfl) (fun d=>by kernel_rfl) (fun d=>by kernel_rfl) (fun d=>by kernel_rfl) (fun d=>by kernel_rfl) (fun d=>by kernel_rfl) (fun d b=>by kernel_rfl) (fun d b=>rfl) rfl rfl v_check_pairs_3 (fun d=>rfl)
def F_check_pairs (d:List G):Option (List G) :=
 (callF (F_check_groups_f [.l (gi (gi d 0).row 1).rows,.s (gi (gi d 1).row 0).str]) fun g1=>(callF (F_check_groups_f [.l (gi (gi d 1).row 1).rows,.s (gi (gi d 0).row 0).str]) fun g2=>(loopB true (cutR (tl_check_pairs_3 [.s (gi (gi d 0).row 0).str,.l (gi (gi d 0).row 1).rows,.s (gi (gi d 1).row 0).str,.l (gi (gi d 1).row 1).rows,.l (gi g1 0).rows,.i (((gi g1 1).int.toNat:Nat):Int),.l (gi g2 0).rows,.i (((gi g2 1).int.toNat:Nat):Int),.l [],.i (gi d 2).int])) fun cg5 g5=>(bif ((Nat.beq (gi g5 0).rows.length (gi g5 0).rows.length)&&true) then some [.l (gi g5 0).rows] else none))))
def s_check_pairs:FSpec:=⟨28,[.s (.row [.str,.list KCt]),.s (.row [.str,.list KCt]),.s (.int .i64)],[],[],[.s (.list [.int .i64,.int .i64])],[],[],[],F_check_pairs⟩
theorem b_check_pairs:BodyOK P t77 L_check_pairs_3c Tryz.f28 s_check_pairs:=fun d=>by kernel_rfl
theorem c_check_pairs:COK P s_check_pairs:=bdC hm t77_ok Tryz.func28 L_check_pairs_3c_ok b_check_pairs
def t78:Tab:=t77.addP s_check_pairs
theorem t78_ok:TabOK P t78:=t77_ok.aP c_check_pairs

def F_check_Pairs (d:List G):Option (List G) :=
 (callF (F_check_twoFault [.l [(gEta [.str,.list KCt] (gi d 0).row)],.l [(gEta [.str,.list KCt] (gi d 1).row)],.i (gi d 2).int]) fun g1=>(bif ((gi g1 0).int != 0) then some [.l [],.i (gi g1 0).int] else (callF (F_check_pairs [.l [(gEta [.str,.list KCt] (gi d 0).row)],.l [(gEta [.str,.list KCt] (gi d 1).row)],.i (gi d 2).int]) fun g2=>some [.l (gi g2 0).rows,.i 0])))
def s_check_Pairs:FSpec:=⟨8,[.s (.row [.str,.list KCt]),.s (.row [.str,.list KCt]),.s (.int .i64)],[],[],[.s (.list [.int .i64,.int .i64]),.s (.int .i64)],[],[],[],F_check_Pairs⟩
theorem b_check_Pairs:BodyOK P t78 nL0 Tryz.f8 s_check_Pairs:=fun d=>by kernel_rfl
theorem c_check_Pairs:COK P s_check_Pairs:=bdC hm t78_ok Tryz.func8 (nLk _ _ _) b_check_Pairs
def t79:Tab:=t78.addP s_check_Pairs
theorem t79_ok:TabOK P t79:=t78_ok.aP c_check_Pairs

def st_k2_errs_2 (d:List G):Option (Option Nat × List G) :=
 (bif (ltI (gi d 2).int (gi d 1).int) then (bif ((nnI (gi d 2).int)&&(ltI (gi d 2).int (((gi d 0).rows.length:Nat):Int))) then (bif ((gi ((gi d 0).rows.getD (((gi d 2).int).toNat) []) 0).int != 0) then some (some 0,[.i (gi ((gi d 0).rows.getD (((gi d 2).int).toNat) []) 0).int]) else (bif (inI ((gi d 2).int+1)) then some (none,[.l (gi d 0).rows,.i (gi d 1).int,.i ((gi d 2).int+1)]) else none)) else none) else some (some 1,[]))
def l_k2_errs_2:LSpec:=⟨2,[],⟨15,[(5,.s (.list [.int .i64])),(6,.s (.int .i64)),(7,.s (.int .i64))],[]⟩,[],[⟨.ret,⟨15,[(2,.s (.int .i64))],[]⟩,[]⟩,⟨.exit 0,⟨15,[],[]⟩,[]⟩],st_k2_errs_2⟩
theorem r_k2_errs_2:RoundOK P t79 nL0 0 (loopAt Tryz.f9 2) l_k2_errs_2:=fun d=>by kernel_rfl
def L_k2_errs_2:LT:=nL0.add 0 l_k2_errs_2
theorem L_k2_errs_2_ok:LpK P 0 L_k2_errs_2 (bodyOf Tryz.f9):=LpK.a hm t79_ok (nLk _ _ _) r_k2_errs_2
def F_k2_errs (d:List G):Option (List G) :=
 (loopB true (LRun st_k2_errs_2 [.l (gi d 0).rows,.i (((gi d 0).rows.length:Nat):Int),.i 0]) fun cg1 g1=>(bif Nat.beq cg1 0 then some [.i (gi g1 0).int] else some [.i 0]))
def s_k2_errs:FSpec:=⟨9,[.s (.list [.int .i64])],[],[],[.s (.int .i64)],[],[],[],F_k2_errs⟩
theorem b_k2_errs:BodyOK P t79 L_k2_errs_2 Tryz.f9 s_k2_errs:=fun d=>by kernel_rfl
theorem c_k2_errs:COK P s_k2_errs:=bdC hm t79_ok Tryz.func9 L_k2_errs_2_ok b_k2_errs
def t80:Tab:=t79.addP s_k2_errs
theorem t80_ok:TabOK P t80:=t79_ok.aP c_k2_errs

def st_sl_Index_Row_2 (d:List G):Option (Option Nat × List G) :=
 (bif (ltI (gi d 4).int (gi d 3).int) then (bif ((nnI (gi d 4).int)&&(ltI (gi d 4).int (((gi d 2).rows.length:Nat):Int))) then (bif (rowEq [.int .i64,.int .i64] (gEta [.int .i64,.int .i64] d) (gEta [.int .i64,.int .i64] ((gi d 2).rows.getD (((gi d 4).int).toNat) []))) then some (some 0,[.i (gi d 4).int]) else (bif (inI ((gi d 4).int+1)) then some (none,[.i (gi d 0).int,.i (gi d 1).int,.l (gi d 2).rows,.i (gi d 3).int,.i ((gi d 4).int+1)]) else none)) else none) else some (some 1,[]))
def l_sl_Index_Row_2:LSpec:=⟨2,[],⟨19,[(0,.s (.list [.int .i64,.int .i64])),(3,.s (.ptr 0 0)),(7,.s (.int .i64)),(8,.s (.int .i64))],[.box [.int .i64,.int .i64]]⟩,[.slot 3],[⟨.ret,⟨19,[(4,.s (.int .i64))],[]⟩,[]⟩,⟨.exit 0,⟨19,[],[]⟩,[]⟩],st_sl_Index_Row_2⟩
theorem r_sl_Index_Row_2:RoundOK P t80 nL0 0 (loopAt Tryz.f29 2) l_sl_Index_Row_2:=fun d=>by kernel_rfl
def L_sl_Index_Row_2:LT:=nL0.add 0 l_sl_Index_Row_2
theorem L_sl_Index_Row_2_ok:LpK P 0 L_sl_Index_Row_2 (bodyOf Tryz.f29):=LpK.a hm t80_ok (nLk _ _ _) r_sl_Index_Row_2
def F_sl_Index_Row (d:List G):Option (List G) :=
 (loopB true (LRun st_sl_Index_Row_2 [.i (gi (gi d 1).row 0).int,.i (gi (gi d 1).row 1).int,.l (gi d 0).rows,.i (((gi d 0).rows.length:Nat):Int),.i 0]) fun cg1 g1=>(bif Nat.beq cg1 0 then some [.i (gi g1 0).int] else some [.i (-1)]))
def s_sl_Index_Row:FSpec:=⟨29,[.s (.list [.int .i64,.int .i64]),.s (.row [.int .i64,.int .i64])],[],[],[.s (.int .i64)],[],[],[],F_sl_Index_Row⟩
theorem b_sl_Index_Row:BodyOK P t80 L_sl_Index_Row_2 Tryz.f29 s_sl_Index_Row:=fun d=>by kernel_rfl
theorem c_sl_Index_Row:COK P s_sl_Index_Row:=bdC hm t80_ok Tryz.func29 L_sl_Index_Row_2_ok b_sl_Index_Row
def t81:Tab:=t80.addP s_sl_Index_Row
theorem t81_ok:TabOK P t81:=t80_ok.aP c_sl_Index_Row

def F_sl_Contains_Row (d:List G):Option (List G) :=
 (callF (F_sl_Index_Row [.l (gi d 0).rows,.l [(gEta [.int .i64,.int .i64] (gi d 1).row)]]) fun g1=>some [.t (leI 0 (gi g1 0).int)])
def s_sl_Contains_Row:FSpec:=⟨10,[.s (.list [.int .i64,.int .i64]),.s (.row [.int .i64,.int .i64])],[],[],[.s (.bool)],[],[],[],F_sl_Contains_Row⟩
theorem b_sl_Contains_Row:BodyOK P t81 nL0 Tryz.f10 s_sl_Contains_Row:=fun d=>by kernel_rfl
theorem c_sl_Contains_Row:COK P s_sl_Contains_Row:=bdC hm t81_ok Tryz.func10 (nLk _ _ _) b_sl_Contains_Row
def t82:Tab:=t81.addP s_sl_Contains_Row
theorem t82_ok:TabOK P t82:=t81_ok.aP c_sl_Contains_Row

def F_k2_PairsAreMutual_1 (d:List G):Option (List G) :=
 some [.t ((gi (gi d 0).row 1).int==(gi (gi d 1).row 1).int)]
def s_k2_PairsAreMutual_1:FSpec:=⟨12,[.s (.row [.int .i64,.int .i64]),.s (.cptr [.int .i64,.int .i64])],[],[],[.s (.bool)],[],[],[],F_k2_PairsAreMutual_1⟩
theorem b_k2_PairsAreMutual_1:BodyOK P t82 nL0 Tryz.f12 s_k2_PairsAreMutual_1:=fun d=>by kernel_rfl
theorem c_k2_PairsAreMutual_1:COK P s_k2_PairsAreMutual_1:=bdC hm t82_ok Tryz.func12 (nLk _ _ _) b_k2_PairsAreMutual_1
def t83:Tab:=t82.addP s_k2_PairsAreMutual_1
theorem t83_ok:TabOK P t83:=t82_ok.aP c_k2_PairsAreMutual_1

def st_sl_IndexFunc_Row_2 (d:List G):Option (Option Nat × List G) :=
 (bif (ltI (gi d 3).int (gi d 2).int) then (bif ((nnI (gi d 3).int)&&(ltI (gi d 3).int (((gi d 0).rows.length:Nat):Int))) then (callF (F_k2_PairsAreMutual_1 [.l [(gEta [.int .i64,.int .i64] ((gi d 0).rows.getD (((gi d 3).int).toNat) []))],.l [(gEta [.int .i64,.int .i64] (gi d 1).row)]]) fun g1=>(bif (gi g1 0).bool then some (some 0,[.i (gi d 3).int]) else (bif (inI ((gi d 3).int+1)) then some (none,[.l (gi d 0).rows,.l [(gEta [.int .i64,.int .i64] (gi d 1).row)],.i (gi d 2).int,.i ((gi d 3).int+1)]) else none))) else none) else some (some 1,[]))
def l_sl_IndexFunc_Row_2:LSpec:=⟨2,[],⟨19,[(0,.s (.list [.int .i64,.int .i64])),(1,.clo 12 [.cptr [.int .i64,.int .i64]]),(7,.s (.int .i64)),(8,.s (.int .i64))],[]⟩,[],[⟨.ret,⟨19,[(4,.s (.int .i64))],[]⟩,[]⟩,⟨.exit 0,⟨19,[],[]⟩,[]⟩],st_sl_IndexFunc_Row_2⟩
theorem r_sl_IndexFunc_Row_2:RoundOK P t83 nL0 0 (loopAt Tryz.f30 2) l_sl_IndexFunc_Row_2:=fun d=>by kernel_rfl
def L_sl_IndexFunc_Row_2:LT:=nL0.add 0 l_sl_IndexFunc_Row_2
theorem L_sl_IndexFunc_Row_2_ok:LpK P 0 L_sl_IndexFunc_Row_2 (bodyOf Tryz.f30):=LpK.a hm t83_ok (nLk _ _ _) r_sl_IndexFunc_Row_2
def F_sl_IndexFunc_Row (d:List G):Option (List G) :=
 (loopB true (LRun st_sl_IndexFunc_Row_2 [.l (gi d 0).rows,.l [(gEta [.int .i64,.int .i64] (gi d 1).row)],.i (((gi d 0).rows.length:Nat):Int),.i 0]) fun cg2 g2=>(bif Nat.beq cg2 0 then some [.i (gi g2 0).int] else some [.i (-1)]))
def s_sl_IndexFunc_Row:FSpec:=⟨30,[.s (.list [.int .i64,.int .i64]),.clo 12 [.cptr [.int .i64,.int .i64]]],[],[],[.s (.int .i64)],[],[],[],F_sl_IndexFunc_Row⟩
theorem b_sl_IndexFunc_Row:BodyOK P t83 L_sl_IndexFunc_Row_2 Tryz.f30 s_sl_IndexFunc_Row:=fun d=>by kernel_rfl
theorem c_sl_IndexFunc_Row:COK P s_sl_IndexFunc_Row:=bdC hm t83_ok Tryz.func30 L_sl_IndexFunc_Row_2_ok b_sl_IndexFunc_Row
def t84:Tab:=t83.addP s_sl_IndexFunc_Row
theorem t84_ok:TabOK P t84:=t83_ok.aP c_sl_IndexFunc_Row

def F_sl_ContainsFunc_Row (d:List G):Option (List G) :=
 (callF (F_sl_IndexFunc_Row [.l (gi d 0).rows,.l [(gEta [.int .i64,.int .i64] (gi d 1).row)]]) fun g1=>some [.t (leI 0 (gi g1 0).int)])
def s_sl_ContainsFunc_Row:FSpec:=⟨11,[.s (.list [.int .i64,.int .i64]),.clo 12 [.cptr [.int .i64,.int .i64]]],[],[],[.s (.bool)],[],[],[],F_sl_ContainsFunc_Row⟩
theorem b_sl_ContainsFunc_Row:BodyOK P t84 nL0 Tryz.f11 s_sl_ContainsFunc_Row:=fun d=>by kernel_rfl
theorem c_sl_ContainsFunc_Row:COK P s_sl_ContainsFunc_Row:=bdC hm t84_ok Tryz.func11 (nLk _ _ _) b_sl_ContainsFunc_Row
def t85:Tab:=t84.addP s_sl_ContainsFunc_Row
theorem t85_ok:TabOK P t85:=t84_ok.aP c_sl_ContainsFunc_Row

def st_k2_PairsAreMutual_11 (d:List G):Option (Option Nat × List G) :=
 (bif (ltI (gi d 7).int (gi d 6).int) then (bif ((nnI (gi d 7).int)&&(ltI (gi d 7).int (((gi d 5).rows.length:Nat):Int))) then (bif (leI (((gi (gi d 1).row 1).rows.length:Nat):Int) (gi ((gi d 5).rows.getD (((gi d 7).int).toNat) []) 0).int) then some (some 0,[.t false]) else (bif (leI (((gi (gi d 2).row 1).rows.length:Nat):Int) (gi ((gi d 5).rows.getD (((gi d 7).int).toNat) []) 1).int) then some (some 0,[.t false]) else (bif (ltI (gi ((gi d 5).rows.getD (((gi d 7).int).toNat) []) 0).int 0) then some (some 0,[.t false]) else (bif (ltI (gi ((gi d 5).rows.getD (((gi d 7).int).toNat) []) 1).int 0) then some (some 0,[.t false]) else (bif ((nnI (gi ((gi d 5).rows.getD (((gi d 7).int).toNat) []) 0).int)&&(ltI (gi ((gi d 5).rows.getD (((gi d 7).int).toNat) []) 0).int (((gi (gi d 1).row 1).rows.length:Nat):Int))) then (bif ((nnI (gi ((gi d 5).rows.getD (((gi d 7).int).toNat) []) 1).int)&&(ltI (gi ((gi d 5).rows.getD (((gi d 7).int).toNat) []) 1).int (((gi (gi d 2).row 1).rows.length:Nat):Int))) then (bif (inI ((gi ((gi (gi d 1).row 1).rows.getD (((gi ((gi d 5).rows.getD (((gi d 7).int).toNat) []) 0).int).toNat) []) 0).int-(gi ((gi (gi d 2).row 1).rows.getD (((gi ((gi d 5).rows.getD (((gi d 7).int).toNat) []) 1).int).toNat) []) 0).int)) then (bif (!((gi ((gi (gi d 1).row 1).rows.getD (((gi ((gi d 5).rows.getD (((gi d 7).int).toNat) []) 0).int).toNat) []) 3).str.toList==(gi (gi d 2).row 0).str.toList)) then some (some 0,[.t false]) else (bif (!((gi ((gi (gi d 2).row 1).rows.getD (((gi ((gi d 5).rows.getD (((gi d 7).int).toNat) []) 1).int).toNat) []) 3).str.toList==(gi (gi d 1).row 0).str.toList)) then some (some 0,[.t false]) else (bif (!((gi ((gi (gi d 1).row 1).rows.getD (((gi ((gi d 5).rows.getD (((gi d 7).int).toNat) []) 0).int).toNat) []) 2).str.toList==(gi ((gi (gi d 2).row 1).rows.getD (((gi ((gi d 5).rows.getD (((gi d 7).int).toNat) []) 1).int).toNat) []) 2).str.toList)) then some (some 0,[.t false]) else (bif ((gi ((gi (gi d 1).row 1).rows.getD (((gi ((gi d 5).rows.getD (((gi d 7).int).toNat) []) 0).int).toNat) []) 1).int != (gi ((gi (gi d 2).row 1).rows.getD (((gi ((gi d 5).rows.getD (((gi d 7).int).toNat) []) 1).int).toNat) []) 1).int) then some (some 0,[.t false]) else (bif (inI (0-((gi ((gi (gi d 1).row 1).rows.getD (((gi ((gi d 5).rows.getD (((gi d 7).int).toNat) []) 0).int).toNat) []) 0).int-(gi ((gi (gi d 2).row 1).rows.getD (((gi ((gi d 5).rows.getD (((gi d 7).int).toNat) []) 1).int).toNat) []) 0).int))) then (bif (ltI (gi d 0).int (if (0-((gi ((gi (gi d 1).row 1).rows.getD (((gi ((gi d 5).rows.getD (((gi d 7).int).toNat) []) 0).int).toNat) []) 0).int-(gi ((gi (gi d 2).row 1).rows.getD (((gi ((gi d 5).rows.getD (((gi d 7).int).toNat) []) 1).int).toNat) []) 0).int))>((gi ((gi (gi d 1).row 1).rows.getD (((gi ((gi d 5).rows.getD (((gi d 7).int).toNat) []) 0).int).toNat) []) 0).int-(gi ((gi (gi d 2).row 1).rows.getD (((gi ((gi d 5).rows.getD (((gi d 7).int).toNat) []) 1).int).toNat) []) 0).int) then (0-((gi ((gi (gi d 1).row 1).rows.getD (((gi ((gi d 5).rows.getD (((gi d 7).int).toNat) []) 0).int).toNat) []) 0).int-(gi ((gi (gi d 2).row 1).rows.getD (((gi ((gi d 5).rows.getD (((gi d 7).int).toNat) []) 1).int).toNat) []) 0).int)) else ((gi ((gi (gi d 1).row 1).rows.getD (((gi ((gi d 5).rows.getD (((gi d 7).int).toNat) []) 0).int).toNat) []) 0).int-(gi ((gi (gi d 2).row 1).rows.getD (((gi ((gi d 5).rows.getD (((gi d 7).int).toNat) []) 1).int).toNat) []) 0).int))) then some (some 0,[.t false]) else (callF (F_sl_Contains_Row [.l (gi d 4).rows,.l [[.i (gi ((gi d 5).rows.getD (((gi d 7).int).toNat) []) 1).int,.i (gi ((gi d 5).rows.getD (((gi d 7).int).toNat) []) 0).int]]]) fun g9=>(bif (!(gi g9 0).bool) then some (some 0,[.t false]) else (bif (ltI 0 (gi d 7).int) then (bif (inI ((gi d 7).int-1)) then (bif ((nnI ((gi d 7).int-1))&&(ltI ((gi d 7).int-1) (((gi d 3).rows.length:Nat):Int))) then (bif (leI (gi ((gi d 5).rows.getD (((gi d 7).int).toNat) []) 0).int (gi ((gi d 3).rows.getD (((gi d 7).int-1).toNat) []) 0).int) then some (some 0,[.t false]) else (bif ((nnI (gi d 7).int)&&(leI (gi d 7).int (((gi d 3).rows.length:Nat):Int))) then (callF (F_sl_ContainsFunc_Row [.l ((gi d 3).rows.take (((gi d 7).int).toNat)),.l [(gEta [.int .i64,.int .i64] ((gi d 5).rows.getD (((gi d 7).int).toNat) []))]]) fun g10=>(bif (gi g10 0).bool then some (some 0,[.t false]) else (bif (inI ((gi d 7).int+1)) then some (none,[.i (gi d 0).int,.l [(gEta [.str,.list KCt] (gi d 1).row)],.l [(gEta [.str,.list KCt] (gi d 2).row)],.l (gi d 3).rows,.l (gi d 4).rows,.l (gi d 5).rows,.i (gi d 6).int,.i ((gi d 7).int+1)]) else none))) else none)) else none) else none) else (bif ((nnI (gi d 7).int)&&(leI (gi d 7).int (((gi d 3).rows.length:Nat):Int))) then (callF (F_sl_ContainsFunc_Row [.l ((gi d 3).rows.take (((gi d 7).int).toNat)),.l [(gEta [.int .i64,.int .i64] ((gi d 5).rows.getD (((gi d 7).int).toNat) []))]]) fun g11=>(bif (gi g11 0).bool then some (some 0,[.t false]) else (bif (inI ((gi d 7).int+1)) then some (none,[.i (gi d 0).int,.l [(gEta [.str,.list KCt] (gi d 1).row)],.l [(gEta [.str,.list KCt] (gi d 2).row)],.l (gi d 3).rows,.l (gi d 4).rows,.l (gi d 5).rows,.i (gi d 6).int,.i ((gi d 7).int+1)]) else none))) else none))))) else none))))) else none) else none) else none))))) else none) else some (some 1,[]))
def l_k2_PairsAreMutual_11:LSpec:=⟨11,[],⟨179,[(5,.s (.int .i64)),(6,.s (.cptr [.str,.list KCt])),(7,.s (.cptr [.str,.list KCt])),(8,.s (.list [.int .i64,.int .i64])),(10,.s (.list [.int .i64,.int .i64])),(65,.s (.list [.int .i64,.int .i64])),(66,.s (.int .i64)),(67,.s (.int .i64))],[]⟩,[],[⟨.ret,⟨179,[(2,.s (.bool))],[]⟩,[]⟩,⟨.exit 0,⟨179,[],[]⟩,[]⟩],st_k2_PairsAreMutual_11⟩
theorem r_k2_PairsAreMutual_11:RoundOK P (t85.lessPf [11]) (nL0.hinted [(5,[.hole [.str,.list KCt],.hole [.str,.list KCt]]),(15,[.hole KCt,.hole KCt])]) 0 (loopAt Tryz.f3 11) l_k2_PairsAreMutual_11:=fun d=>by kernel_rfl
def L_k2_PairsAreMutual_11:LT:=(nL0.hinted [(5,[.hole [.str,.list KCt],.hole [.str,.list KCt]]),(15,[.hole KCt,.hole KCt])]).add 0 l_k2_PairsAreMutual_11
theorem L_k2_PairsAreMutual_11_ok:LpK P 0 L_k2_PairsAreMutual_11 (bodyOf Tryz.f3):=LpK.add hm (t85_ok.lessPf [11]) (by kernel_rfl) (hinted_ok _) r_k2_PairsAreMutual_11
def F_k2_PairsAreMutual (d:List G):Option (List G) :=
 (callF (F_mk_RightSheets [.l (gi d 0).rows,.i 0]) fun g1=>(callF (F_mk_Range [.l (gi g1 0).rows,.i (gi g1 1).int,.i 0,.i 300]) fun g2=>(callF (F_r2_SheetsFault [.l (gi g1 2).rows]) fun g3=>(bif ((gi g3 0).int != 0) then (callF (F_k2_ready []) fun g4=>some [.t (gi g4 0).bool]) else (bif (ltI (((gi g1 2).rows.length:Nat):Int) 2) then (callF (F_k2_ready []) fun g5=>some [.t (gi g5 0).bool]) else (bif (ltI 0 (((gi g1 2).rows.length:Nat):Int)) then (bif (ltI 1 (((gi g1 2).rows.length:Nat):Int)) then (callF (F_check_Pairs [.l [(gEta [.str,.list KCt] ((gi g1 2).rows.getD 0 []))],.l [(gEta [.str,.list KCt] ((gi g1 2).rows.getD 1 []))],.i (gi g2 2).int]) fun g6=>(callF (F_check_Pairs [.l [(gEta [.str,.list KCt] ((gi g1 2).rows.getD 1 []))],.l [(gEta [.str,.list KCt] ((gi g1 2).rows.getD 0 []))],.i (gi g2 2).int]) fun g7=>(callF (F_k2_errs [.l [[.i (gi g6 1).int],[.i (gi g7 1).int]]]) fun g8=>(bif ((gi g8 0).int != 0) then some [.t false] else (bif ((((gi g6 0).rows.length:Nat):Int) != (((gi g7 0).rows.length:Nat):Int)) then some [.t false] else (loopB true (LRun st_k2_PairsAreMutual_11 [.i (gi g2 2).int,.l [(gEta [.str,.list KCt] ((gi g1 2).rows.getD 0 []))],.l [(gEta [.str,.list KCt] ((gi g1 2).rows.getD 1 []))],.l (gi g6 0).rows,.l (gi g7 0).rows,.l (gi g6 0).rows,.i (((gi g6 0).rows.length:Nat):Int),.i 0]) fun cg12 g12=>(bif Nat.beq cg12 0 then some [.t (gi g12 0).bool] else (callF (F_k2_ready []) fun g13=>some [.t (gi g13 0).bool])))))))) else none) else none))))))
def s_k2_PairsAreMutual:FSpec:=⟨3,[.s (.list [.int .i64])],[],[],[.s (.bool)],[],[],[],F_k2_PairsAreMutual⟩
theorem b_k2_PairsAreMutual:BodyOK P (t85.lessPf [11]) L_k2_PairsAreMutual_11 Tryz.f3 s_k2_PairsAreMutual:=fun d=>by kernel_rfl
theorem c_k2_PairsAreMutual:COK P s_k2_PairsAreMutual:=bodyC hm (t85_ok.lessPf [11]) Tryz.func3 (by kernel_rfl) L_k2_PairsAreMutual_11_ok b_k2_PairsAreMutual (by kernel_rfl)
def t86:Tab:=t85.addP s_k2_PairsAreMutual
theorem t86_ok:TabOK P t86:=t85_ok.aP c_k2_PairsAreMutual

end
end Go.Proofs.SYtioeckojljemcaaGreatDoor
