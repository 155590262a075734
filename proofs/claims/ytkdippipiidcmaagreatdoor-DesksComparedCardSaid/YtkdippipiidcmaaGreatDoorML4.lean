/-
 What is proved here: functions of the program as functions on data. No condition.
-/
import Derived.Test.YtkdippipiidcmaaGreatDoorML3
set_option linter.unusedSimpArgs false
set_option linter.unusedVariables false
set_option linter.unusedSectionVars false
namespace Go.Proofs.SYtkdippipiidcmaaGreatDoor
open Go Go.AL Go.Proofs
noncomputable section
def st_r2_HoursBy_5 (d : List G) : Option (Option Nat × List G) :=
 (bif (ltI (gi d 8).int (gi d 7).int) then (bif ((nnI (gi d 8).int) && (ltI (gi d 8).int (((gi d 6).rows.length : Nat) : Int))) then (bif (leI (gi d 0).int (gi ((gi d 6).rows.getD (((gi d 8).int).toNat) []) 4).int) then (bif (ltI (gi ((gi d 6).rows.getD (((gi d 8).int).toNat) []) 4).int (gi d 1).int) then (bif (inI ((gi (mget [.str] (gi d 2).rows [.s (gi ((gi d 6).rows.getD (((gi d 8).int).toNat) []) 0).str] [.i 0]) 0).int + 1)) then (bif (inI ((gi d 8).int + 1)) then (bif ((Nat.beq (gi d 4).rows.length (gi d 4).rows.length) && true) then some (none, [.i (gi d 0).int, .i (gi d 1).int, .l (mput [.str] (gi d 2).rows [.s (gi ((gi d 6).rows.getD (((gi d 8).int).toNat) []) 0).str] [.i ((gi (mget [.str] (gi d 2).rows [.s (gi ((gi d 6).rows.getD (((gi d 8).int).toNat) []) 0).str] [.i 0]) 0).int + 1)] (gi d 3).int.toNat), .i (((mclk [.str] (gi d 2).rows [.s (gi ((gi d 6).rows.getD (((gi d 8).int).toNat) []) 0).str] (gi d 3).int.toNat) : Nat) : Int), .l (gi d 4).rows, .l (gi d 5).rows, .l (gi d 6).rows, .i (gi d 7).int, .i ((gi d 8).int + 1)]) else none) else none) else none) else (bif (inI ((gi d 8).int + 1)) then (bif ((Nat.beq (gi d 4).rows.length (gi d 4).rows.length) && true) then some (none, [.i (gi d 0).int, .i (gi d 1).int, .l (gi d 2).rows, .i (((gi d 3).int.toNat : Nat) : Int), .l (gi d 4).rows, .l (gi d 5).rows, .l (gi d 6).rows, .i (gi d 7).int, .i ((gi d 8).int + 1)]) else none) else none)) else (bif (inI ((gi d 8).int + 1)) then (bif ((Nat.beq (gi d 4).rows.length (gi d 4).rows.length) && true) then some (none, [.i (gi d 0).int, .i (gi d 1).int, .l (gi d 2).rows, .i (((gi d 3).int.toNat : Nat) : Int), .l (gi d 4).rows, .l (gi d 5).rows, .l (gi d 6).rows, .i (gi d 7).int, .i ((gi d 8).int + 1)]) else none) else none)) else none) else (bif ((Nat.beq (gi d 4).rows.length (gi d 4).rows.length) && true) then some (some 0, [.l (gi d 2).rows, .i (((gi d 3).int.toNat : Nat) : Int), .l (gi d 4).rows, .l (gi d 5).rows]) else none))
def l_r2_HoursBy_5 : LSpec := ⟨5, [(8, [.str, .str])], ⟨64, [(0, .s (.list KDeed)), (3, .s (.ptr 0 0)), (5, .s (.map 1)), (8, .s (.vec 2 2)), (19, .s (.list KDeed)), (20, .s (.int .i64)), (21, .s (.int .i64))], [.box [.int .i64, .int .i64], .map (.one (.str)) (.one (.int .i64)), .vec [.str, .str] 0]⟩, [.slot 3, .slot 5, .slot 8], [⟨.exit 0, ⟨64, [(0, .s (.list KDeed)), (5, .s (.map 0)), (8, .s (.vec 1 2))], [.map (.one (.str)) (.one (.int .i64)), .vec [.str, .str] 0]⟩, [.slot 5, .slot 8]⟩], st_r2_HoursBy_5⟩
theorem r_r2_HoursBy_5 : RoundOK P t84 nL0 0 (loopAt Tryz.f56 5) l_r2_HoursBy_5 := fun d => by kernel_rfl
def L_r2_HoursBy_5 : LT := nL0.add 0 l_r2_HoursBy_5
theorem L_r2_HoursBy_5_ok : LpK P 0 L_r2_HoursBy_5 (bodyOf Tryz.f56) := LpK.add hm t84_ok (by kernel_rfl) (nLk _ _ _) r_r2_HoursBy_5
def st_r2_HoursBy_11 (d : List G) : Option (Option Nat × List G) :=
 (bif (ltI (gi d 5).int (gi d 4).int) then (bif ((nnI (gi d 5).int) && (ltI (gi d 5).int (((gi d 3).rows.length : Nat) : Int))) then (callF (F_strconv_Itoa [.i (gi (mget [.str] (gi d 0).rows [.s (gi ((gi d 3).rows.getD (((gi d 5).int).toNat) []) 0).str] [.i 0]) 0).int]) fun g5 => (bif ((Nat.beq (gi d 2).rows.length (gi d 2).rows.length) && (decide (((gi d 2).rows.length + 1) ≤ 1048576))) then (bif (inI ((gi d 5).int + 1)) then (bif ((Nat.beq ((gi d 2).rows ++ ([[.s (gi ((gi d 3).rows.getD (((gi d 5).int).toNat) []) 0).str, .s (gi g5 0).str]] : List (List G))).length ((gi d 2).rows ++ ([[.s (gi ((gi d 3).rows.getD (((gi d 5).int).toNat) []) 0).str, .s (gi g5 0).str]] : List (List G))).length) && true) then some (none, [.l (gi d 0).rows, .i (((gi d 1).int.toNat : Nat) : Int), .l ((gi d 2).rows ++ ([[.s (gi ((gi d 3).rows.getD (((gi d 5).int).toNat) []) 0).str, .s (gi g5 0).str]] : List (List G))), .l (gi d 3).rows, .i (gi d 4).int, .i ((gi d 5).int + 1)]) else none) else none) else none)) else none) else (bif ((Nat.beq (gi d 2).rows.length (gi d 2).rows.length) && true) then some (some 0, [.l (gi d 2).rows]) else none))
def l_r2_HoursBy_11 : LSpec := ⟨11, [], ⟨64, [(5, .s (.map 0)), (8, .s (.vec 1 2)), (47, .s (.list [.str])), (48, .s (.int .i64)), (49, .s (.int .i64))], [.map (.one (.str)) (.one (.int .i64)), .vec [.str, .str] 0]⟩, [.slot 5, .slot 8], [⟨.exit 2, ⟨64, [(8, .s (.vec 0 2))], [.vec [.str, .str] 0]⟩, [.slot 8]⟩], st_r2_HoursBy_11⟩
theorem r_r2_HoursBy_11 : RoundOK P t84 L_r2_HoursBy_5 0 (loopAt Tryz.f56 11) l_r2_HoursBy_11 := fun d => by kernel_rfl
def L_r2_HoursBy_11 : LT := L_r2_HoursBy_5.add 0 l_r2_HoursBy_11
theorem L_r2_HoursBy_11_ok : LpK P 0 L_r2_HoursBy_11 (bodyOf Tryz.f56) := LpK.add hm t84_ok (by kernel_rfl) L_r2_HoursBy_5_ok r_r2_HoursBy_11
def F_r2_HoursBy (d : List G) : Option (List G) :=
 (callF (F_r2_inLog [.l (gi d 0).rows, .i 345686400000]) fun g1 => (loopB true (LRun st_r2_HoursBy_5 [.i (gi (gi d 1).row 0).int, .i (gi (gi d 1).row 1).int, .l [], .i 0, .l [], .l (gi d 0).rows, .l (gi g1 0).rows, .i (((gi g1 0).rows.length : Nat) : Int), .i 0]) fun cg2 g2 => (callF (F_r2_facts [.l (gi g2 3).rows, .i 345686400000]) fun g3 => (callF (F_r2_sites [.l (gi g3 0).rows]) fun g4 => (loopB ((Nat.beq (gi g2 2).rows.length (gi g2 2).rows.length) && true) (LRun st_r2_HoursBy_11 [.l (gi g2 0).rows, .i (((gi g2 1).int.toNat : Nat) : Int), .l (gi g2 2).rows, .l (gi g4 0).rows, .i (((gi g4 0).rows.length : Nat) : Int), .i 0]) fun cg6 g6 => (bif ((Nat.beq (gi g6 0).rows.length (gi g6 0).rows.length) && true) then some [.l (gi g6 0).rows] else none))))))
def s_r2_HoursBy : FSpec := ⟨56, [.s (.list KDeed), .s (.row [.int .i64, .int .i64])], [], [], [.s (.list [.str, .str])], [], [], [], F_r2_HoursBy⟩
theorem b_r2_HoursBy : BodyOK P t84 L_r2_HoursBy_11 Tryz.f56 s_r2_HoursBy := fun d => by kernel_rfl
theorem c_r2_HoursBy : COK P s_r2_HoursBy := bodyC hm t84_ok Tryz.func56 (by kernel_rfl) L_r2_HoursBy_11_ok b_r2_HoursBy (by kernel_rfl)
def t85 : Tab := t84.addP s_r2_HoursBy
theorem t85_ok : TabOK P t85 := t84_ok.addP (by kernel_rfl) (by kernel_rfl) c_r2_HoursBy

def st_r2_NetLog_4 (d : List G) : Option (Option Nat × List G) :=
 (bif (ltI (gi d 4).int (gi d 3).int) then (bif ((nnI (gi d 4).int) && (ltI (gi d 4).int (((gi d 2).rows.length : Nat) : Int))) then (bif ((Nat.beq (gi d 0).rows.length (gi d 0).rows.length) && (decide (((gi d 0).rows.length + 1) ≤ 1048576))) then (bif (inI ((gi d 4).int + 1)) then (bif ((Nat.beq ((gi d 0).rows ++ ([[.i (gi ((gi d 2).rows.getD (((gi d 4).int).toNat) []) 4).int, .i (gi ((gi d 2).rows.getD (((gi d 4).int).toNat) []) 5).int, .s (gi ((gi d 2).rows.getD (((gi d 4).int).toNat) []) 6).str, .s (gi ((gi d 2).rows.getD (((gi d 4).int).toNat) []) 7).str, .i (gi ((gi d 2).rows.getD (((gi d 4).int).toNat) []) 8).int, .i (gi ((gi d 2).rows.getD (((gi d 4).int).toNat) []) 9).int, .s (gi ((gi d 2).rows.getD (((gi d 4).int).toNat) []) 10).str, .s (gi ((gi d 2).rows.getD (((gi d 4).int).toNat) []) 11).str]] : List (List G))).length ((gi d 0).rows ++ ([[.i (gi ((gi d 2).rows.getD (((gi d 4).int).toNat) []) 4).int, .i (gi ((gi d 2).rows.getD (((gi d 4).int).toNat) []) 5).int, .s (gi ((gi d 2).rows.getD (((gi d 4).int).toNat) []) 6).str, .s (gi ((gi d 2).rows.getD (((gi d 4).int).toNat) []) 7).str, .i (gi ((gi d 2).rows.getD (((gi d 4).int).toNat) []) 8).int, .i (gi ((gi d 2).rows.getD (((gi d 4).int).toNat) []) 9).int, .s (gi ((gi d 2).rows.getD (((gi d 4).int).toNat) []) 10).str, .s (gi ((gi d 2).rows.getD (((gi d 4).int).toNat) []) 11).str]] : List (List G))).length) && true) then some (none, [.l ((gi d 0).rows ++ ([[.i (gi ((gi d 2).rows.getD (((gi d 4).int).toNat) []) 4).int, .i (gi ((gi d 2).rows.getD (((gi d 4).int).toNat) []) 5).int, .s (gi ((gi d 2).rows.getD (((gi d 4).int).toNat) []) 6).str, .s (gi ((gi d 2).rows.getD (((gi d 4).int).toNat) []) 7).str, .i (gi ((gi d 2).rows.getD (((gi d 4).int).toNat) []) 8).int, .i (gi ((gi d 2).rows.getD (((gi d 4).int).toNat) []) 9).int, .s (gi ((gi d 2).rows.getD (((gi d 4).int).toNat) []) 10).str, .s (gi ((gi d 2).rows.getD (((gi d 4).int).toNat) []) 11).str]] : List (List G))), .l (gi d 1).rows, .l (gi d 2).rows, .i (gi d 3).int, .i ((gi d 4).int + 1)]) else none) else none) else none) else none) else (bif ((Nat.beq (gi d 0).rows.length (gi d 0).rows.length) && true) then some (some 0, [.l (gi d 0).rows, .l (gi d 1).rows]) else none))
def l_r2_NetLog_4 : LSpec := ⟨4, [(8, KCt)], ⟨31, [(7, .s (.list [.int .i64])), (8, .s (.vec 0 8)), (17, .s (.list KDeed)), (18, .s (.int .i64)), (19, .s (.int .i64))], [.vec KCt 0]⟩, [.slot 8], [⟨.exit 0, ⟨31, [(7, .s (.list [.int .i64])), (8, .s (.vec 0 8))], [.vec KCt 0]⟩, [.slot 8]⟩], st_r2_NetLog_4⟩
theorem r_r2_NetLog_4 : RoundOK P t85 nL0 0 (loopAt Tryz.f35 4) l_r2_NetLog_4 := fun d => by kernel_rfl
def L_r2_NetLog_4 : LT := nL0.add 0 l_r2_NetLog_4
theorem L_r2_NetLog_4_ok : LpK P 0 L_r2_NetLog_4 (bodyOf Tryz.f35) := LpK.add hm t85_ok (by kernel_rfl) (nLk _ _ _) r_r2_NetLog_4
def F_r2_NetLog (d : List G) : Option (List G) :=
 (callF (F_r2_inLog [.l (gi d 0).rows, .i (gi d 1).int]) fun g1 => (loopB true (LRun st_r2_NetLog_4 [.l [], .l (gi g1 1).rows, .l (gi g1 0).rows, .i (((gi g1 0).rows.length : Nat) : Int), .i 0]) fun cg2 g2 => (bif ((Nat.beq (gi g2 0).rows.length (gi g2 0).rows.length) && true) then some [.l (gi g2 0).rows, .l (gi g2 1).rows] else none)))
def s_r2_NetLog : FSpec := ⟨35, [.s (.list KDeed), .s (.int .i64)], [], [], [.s (.list KCt), .s (.list [.int .i64])], [], [], [], F_r2_NetLog⟩
theorem b_r2_NetLog : BodyOK P t85 L_r2_NetLog_4 Tryz.f35 s_r2_NetLog := fun d => by kernel_rfl
theorem c_r2_NetLog : COK P s_r2_NetLog := bodyC hm t85_ok Tryz.func35 (by kernel_rfl) L_r2_NetLog_4_ok b_r2_NetLog (by kernel_rfl)
def t86 : Tab := t85.addP s_r2_NetLog
theorem t86_ok : TabOK P t86 := t85_ok.addP (by kernel_rfl) (by kernel_rfl) c_r2_NetLog

def st_sl_Index_Contact_2 (d : List G) : Option (Option Nat × List G) :=
 (bif (ltI (gi d 10).int (gi d 9).int) then (bif ((nnI (gi d 10).int) && (ltI (gi d 10).int (((gi d 8).rows.length : Nat) : Int))) then (bif (rowEq KCt (gEta KCt d) (gEta KCt ((gi d 8).rows.getD (((gi d 10).int).toNat) []))) then some (some 0, [.i (gi d 10).int]) else (bif (inI ((gi d 10).int + 1)) then some (none, [.i (gi d 0).int, .i (gi d 1).int, .s (gi d 2).str, .s (gi d 3).str, .i (gi d 4).int, .i (gi d 5).int, .s (gi d 6).str, .s (gi d 7).str, .l (gi d 8).rows, .i (gi d 9).int, .i ((gi d 10).int + 1)]) else none)) else none) else some (some 1, []))
def l_sl_Index_Contact_2 : LSpec := ⟨2, [], ⟨19, [(0, .s (.list KCt)), (3, .s (.ptr 0 0)), (7, .s (.int .i64)), (8, .s (.int .i64))], [.box [.int .i64, .int .i64, .str, .str, .int .i64, .int .i64, .str, .str]]⟩, [.slot 3], [⟨.ret, ⟨19, [(4, .s (.int .i64))], []⟩, []⟩, ⟨.exit 0, ⟨19, [], []⟩, []⟩], st_sl_Index_Contact_2⟩
theorem r_sl_Index_Contact_2 : RoundOK P t86 nL0 0 (loopAt Tryz.f223 2) l_sl_Index_Contact_2 := fun d => by kernel_rfl
def L_sl_Index_Contact_2 : LT := nL0.add 0 l_sl_Index_Contact_2
theorem L_sl_Index_Contact_2_ok : LpK P 0 L_sl_Index_Contact_2 (bodyOf Tryz.f223) := LpK.add hm t86_ok (by kernel_rfl) (nLk _ _ _) r_sl_Index_Contact_2
def F_sl_Index_Contact (d : List G) : Option (List G) :=
 (loopB true (LRun st_sl_Index_Contact_2 [.i (gi (gi d 1).row 0).int, .i (gi (gi d 1).row 1).int, .s (gi (gi d 1).row 2).str, .s (gi (gi d 1).row 3).str, .i (gi (gi d 1).row 4).int, .i (gi (gi d 1).row 5).int, .s (gi (gi d 1).row 6).str, .s (gi (gi d 1).row 7).str, .l (gi d 0).rows, .i (((gi d 0).rows.length : Nat) : Int), .i 0]) fun cg1 g1 => (bif Nat.beq cg1 0 then some [.i (gi g1 0).int] else some [.i (-1)]))
def s_sl_Index_Contact : FSpec := ⟨223, [.s (.list KCt), .s (.row KCt)], [], [], [.s (.int .i64)], [], [], [], F_sl_Index_Contact⟩
theorem b_sl_Index_Contact : BodyOK P t86 L_sl_Index_Contact_2 Tryz.f223 s_sl_Index_Contact := fun d => by kernel_rfl
theorem c_sl_Index_Contact : COK P s_sl_Index_Contact := bodyC hm t86_ok Tryz.func223 (by kernel_rfl) L_sl_Index_Contact_2_ok b_sl_Index_Contact (by kernel_rfl)
def t87 : Tab := t86.addP s_sl_Index_Contact
theorem t87_ok : TabOK P t87 := t86_ok.addP (by kernel_rfl) (by kernel_rfl) c_sl_Index_Contact

def F_sl_Contains_Contact (d : List G) : Option (List G) :=
 (callF (F_sl_Index_Contact [.l (gi d 0).rows, .l [(gEta KCt (gi d 1).row)]]) fun g1 => some [.t (leI 0 (gi g1 0).int)])
def s_sl_Contains_Contact : FSpec := ⟨169, [.s (.list KCt), .s (.row KCt)], [], [], [.s (.bool)], [], [], [], F_sl_Contains_Contact⟩
theorem b_sl_Contains_Contact : BodyOK P t87 nL0 Tryz.f169 s_sl_Contains_Contact := fun d => by kernel_rfl
theorem c_sl_Contains_Contact : COK P s_sl_Contains_Contact := bodyC hm t87_ok Tryz.func169 (by kernel_rfl) (nLk _ _ _) b_sl_Contains_Contact (by kernel_rfl)
def t88 : Tab := t87.addP s_sl_Contains_Contact
theorem t88_ok : TabOK P t88 := t87_ok.addP (by kernel_rfl) (by kernel_rfl) c_sl_Contains_Contact

def F_r2_LackingOf_1 (d : List G) : Option (List G) :=
 (callF (F_sl_Contains_Contact [.l (gi (gi d 1).row 0).rows, .l [(gEta KCt (gi d 0).row)]]) fun g1 => some [.t (gi g1 0).bool])
def s_r2_LackingOf_1 : FSpec := ⟨168, [.s (.row KCt), .s (.cptr [.list KCt])], [], [], [.s (.bool)], [], [], [], F_r2_LackingOf_1⟩
theorem b_r2_LackingOf_1 : BodyOK P t88 nL0 Tryz.f168 s_r2_LackingOf_1 := fun d => by kernel_rfl
theorem c_r2_LackingOf_1 : COK P s_r2_LackingOf_1 := bodyC hm t88_ok Tryz.func168 (by kernel_rfl) (nLk _ _ _) b_r2_LackingOf_1 (by kernel_rfl)
def t89 : Tab := t88.addP s_r2_LackingOf_1
theorem t89_ok : TabOK P t89 := t88_ok.addP (by kernel_rfl) (by kernel_rfl) c_r2_LackingOf_1

def st_sl_IndexFunc_Contact_2 (d : List G) : Option (Option Nat × List G) :=
 (bif (ltI (gi d 3).int (gi d 2).int) then (bif ((nnI (gi d 3).int) && (ltI (gi d 3).int (((gi d 0).rows.length : Nat) : Int))) then (callF (F_r2_LackingOf_1 [.l [(gEta KCt ((gi d 0).rows.getD (((gi d 3).int).toNat) []))], .l [[.l (gi (gi d 1).row 0).rows]]]) fun g1 => (bif (gi g1 0).bool then some (some 0, [.i (gi d 3).int]) else (bif (inI ((gi d 3).int + 1)) then some (none, [.l (gi d 0).rows, .l [[.l (gi (gi d 1).row 0).rows]], .i (gi d 2).int, .i ((gi d 3).int + 1)]) else none))) else none) else some (some 1, []))
def l_sl_IndexFunc_Contact_2 : LSpec := ⟨2, [], ⟨19, [(0, .s (.list KCt)), (1, .clo 168 [.cptr [.list KCt]]), (7, .s (.int .i64)), (8, .s (.int .i64))], []⟩, [], [⟨.ret, ⟨19, [(4, .s (.int .i64))], []⟩, []⟩, ⟨.exit 0, ⟨19, [], []⟩, []⟩], st_sl_IndexFunc_Contact_2⟩
theorem r_sl_IndexFunc_Contact_2 : RoundOK P t89 nL0 0 (loopAt Tryz.f153 2) l_sl_IndexFunc_Contact_2 := fun d => by kernel_rfl
def L_sl_IndexFunc_Contact_2 : LT := nL0.add 0 l_sl_IndexFunc_Contact_2
theorem L_sl_IndexFunc_Contact_2_ok : LpK P 0 L_sl_IndexFunc_Contact_2 (bodyOf Tryz.f153) := LpK.add hm t89_ok (by kernel_rfl) (nLk _ _ _) r_sl_IndexFunc_Contact_2
def F_sl_IndexFunc_Contact (d : List G) : Option (List G) :=
 (loopB true (LRun st_sl_IndexFunc_Contact_2 [.l (gi d 0).rows, .l [[.l (gi (gi d 1).row 0).rows]], .i (((gi d 0).rows.length : Nat) : Int), .i 0]) fun cg2 g2 => (bif Nat.beq cg2 0 then some [.i (gi g2 0).int] else some [.i (-1)]))
def s_sl_IndexFunc_Contact : FSpec := ⟨153, [.s (.list KCt), .clo 168 [.cptr [.list KCt]]], [], [], [.s (.int .i64)], [], [], [], F_sl_IndexFunc_Contact⟩
theorem b_sl_IndexFunc_Contact : BodyOK P t89 L_sl_IndexFunc_Contact_2 Tryz.f153 s_sl_IndexFunc_Contact := fun d => by kernel_rfl
theorem c_sl_IndexFunc_Contact : COK P s_sl_IndexFunc_Contact := bodyC hm t89_ok Tryz.func153 (by kernel_rfl) L_sl_IndexFunc_Contact_2_ok b_sl_IndexFunc_Contact (by kernel_rfl)
def t90 : Tab := t89.addP s_sl_IndexFunc_Contact
theorem t90_ok : TabOK P t90 := t89_ok.addP (by kernel_rfl) (by kernel_rfl) c_sl_IndexFunc_Contact

def F_sl_Clone_Contact_f_0 (d : List G) : Option (List G) :=
 (bif (Nat.blt 0 (gi d 0).rows.length) then (bif (decide ((gi d 0).rows.length ≤ 1048576)) then (bif ((Nat.beq (gi d 0).rows.length (gi d 0).rows.length) && true) then some [.l (gi d 0).rows] else none) else none) else none)
def s_sl_Clone_Contact_f_0 : FSpec := ⟨167, [.s (.list KCt)], [], [], [.s (.vec 0 8)], [.vec KCt 0], [.slot 0], [], F_sl_Clone_Contact_f_0⟩
theorem b_sl_Clone_Contact_f_0 : BodyOK P t90 nL0 Tryz.f167 s_sl_Clone_Contact_f_0 := fun d => by kernel_rfl
theorem c_sl_Clone_Contact_f_0 : COK P s_sl_Clone_Contact_f_0 := bodyC hm t90_ok Tryz.func167 (by kernel_rfl) (nLk _ _ _) b_sl_Clone_Contact_f_0 (by kernel_rfl)
def s_sl_Clone_Contact_fT : FSpec := { s_sl_Clone_Contact_f_0 with args := [.s (.emp true)], opens := [(2, KCt)], F := fun _ => some [.l []] }
theorem b_sl_Clone_Contact_fT : BodyOK P t90 nL0 Tryz.f167 s_sl_Clone_Contact_fT := fun d => by kernel_rfl
theorem c_sl_Clone_Contact_fT : ∀ d r, s_sl_Clone_Contact_fT.F d = some r → ACallX P 167 (s_sl_Clone_Contact_fT.args0 d) (denH (s_sl_Clone_Contact_fT.H0 d)) (s_sl_Clone_Contact_fT.out r) (denH (s_sl_Clone_Contact_fT.H1 r)) := fun d r h => bSd hm t90_ok (sp := s_sl_Clone_Contact_fT) Tryz.func167 (by kernel_rfl) (nLk _ _ _) b_sl_Clone_Contact_fT (by kernel_rfl) h
def s_sl_Clone_Contact_fF : FSpec := { s_sl_Clone_Contact_f_0 with args := [.s (.emp false)], opens := [(2, KCt)], F := fun _ => some [.l []] }
theorem b_sl_Clone_Contact_fF : BodyOK P t90 nL0 Tryz.f167 s_sl_Clone_Contact_fF := fun d => by kernel_rfl
theorem c_sl_Clone_Contact_fF : ∀ d r, s_sl_Clone_Contact_fF.F d = some r → ACallX P 167 (s_sl_Clone_Contact_fF.args0 d) (denH (s_sl_Clone_Contact_fF.H0 d)) (s_sl_Clone_Contact_fF.out r) (denH (s_sl_Clone_Contact_fF.H1 r)) := fun d r h => bSd hm t90_ok (sp := s_sl_Clone_Contact_fF) Tryz.func167 (by kernel_rfl) (nLk _ _ _) b_sl_Clone_Contact_fF (by kernel_rfl) h
def F_sl_Clone_Contact_f (d : List G) : Option (List G) := bif Nat.blt 0 (gi d 0).rows.length then F_sl_Clone_Contact_f_0 d else some [.l []]
def s_sl_Clone_Contact_f : FSpec := { s_sl_Clone_Contact_f_0 with F := F_sl_Clone_Contact_f }
theorem c_sl_Clone_Contact_f : ∀ d r, F_sl_Clone_Contact_f d = some r → ACallX P 167 (s_sl_Clone_Contact_f.args0 d) (denH (s_sl_Clone_Contact_f.H0 d)) (s_sl_Clone_Contact_f.out r) (denH (s_sl_Clone_Contact_f.H1 r)) := fun d r h => by
 unfold F_sl_Clone_Contact_f at h
 cases hb : Nat.blt 0 (gi d 0).rows.length with
 | true => rw [hb] at h; exact c_sl_Clone_Contact_f_0 d r h
 | false =>
  rw [hb] at h
  cases h
  have e : (d.headD default).rows = [] := by
   have : ¬ 0 < (gi d 0).rows.length := fun hh => by
    have h2 : Nat.blt 0 (gi d 0).rows.length = true := by rw [Nat.blt_eq]; exact hh
    rw [h2] at hb
    cases hb
   exact List.eq_nil_of_length_eq_zero (Nat.eq_zero_of_not_pos this)
  have ha : s_sl_Clone_Contact_f.args0 d = [.listF KCt []] := by
   rw [← e]
   rfl
  rw [ha]
  exact acall_empty (c_sl_Clone_Contact_fT d [.l []] rfl) (c_sl_Clone_Contact_fF d [.l []] rfl)
def t91 : Tab := t90.addW s_sl_Clone_Contact_f
theorem t91_ok : TabOK P t91 := t90_ok.addW (by kernel_rfl) (by kernel_rfl) c_sl_Clone_Contact_f

def st_sl_DeleteFunc_Contact_5 (d : List G) : Option (Option Nat × List G) :=
 (bif (ltI (gi d 3).int (((gi d 0).rows.length : Nat) : Int)) then (bif ((nnI (gi d 3).int) && (ltI (gi d 3).int (((gi d 0).rows.length : Nat) : Int))) then (bif (decide ((0 + ((gi d 3).int).toNat) < (gi d 0).rows.length)) then (callF (F_r2_LackingOf_1 [.l [(gEta KCt ((gi d 0).rows.getD (0 + ((gi d 3).int).toNat) []))], .l [[.l (gi (gi d 1).row 0).rows]]]) fun g2 => (bif (!(gi g2 0).bool) then (bif ((nnI (gi d 2).int) && (ltI (gi d 2).int (((gi d 0).rows.length : Nat) : Int))) then (bif (decide ((0 + ((gi d 2).int).toNat) < (gi d 0).rows.length)) then (bif (inI ((gi d 2).int + 1)) then (bif (inI ((gi d 3).int + 1)) then (bif ((Nat.beq (gi d 0).rows.length ((gi d 0).rows.set (0 + ((gi d 2).int).toNat) (putG KCt ((gi d 0).rows.getD (0 + ((gi d 2).int).toNat) []) 0 (gEta KCt ((gi d 0).rows.getD (0 + ((gi d 3).int).toNat) [])))).length) && true) then some (none, [.l ((gi d 0).rows.set (0 + ((gi d 2).int).toNat) (putG KCt ((gi d 0).rows.getD (0 + ((gi d 2).int).toNat) []) 0 (gEta KCt ((gi d 0).rows.getD (0 + ((gi d 3).int).toNat) [])))), .l [[.l (gi (gi d 1).row 0).rows]], .i ((gi d 2).int + 1), .i ((gi d 3).int + 1)]) else none) else none) else none) else none) else none) else (bif (inI ((gi d 3).int + 1)) then (bif ((Nat.beq (gi d 0).rows.length (gi d 0).rows.length) && true) then some (none, [.l (gi d 0).rows, .l [[.l (gi (gi d 1).row 0).rows]], .i (gi d 2).int, .i ((gi d 3).int + 1)]) else none) else none))) else none) else none) else (bif ((Nat.beq (gi d 0).rows.length (gi d 0).rows.length) && true) then some (some 0, [.l (gi d 0).rows, .i (gi d 2).int]) else none))
def l_sl_DeleteFunc_Contact_5 : LSpec := ⟨5, [], ⟨42, [(0, .s (.vec 0 8)), (1, .clo 168 [.cptr [.list KCt]]), (5, .s (.int .i64)), (6, .s (.int .i64))], [.vec KCt 0]⟩, [.fix 0], [⟨.exit 0, ⟨42, [(0, .s (.vec 0 8)), (5, .s (.int .i64))], [.vec KCt 0]⟩, [.fix 0]⟩], st_sl_DeleteFunc_Contact_5⟩
theorem r_sl_DeleteFunc_Contact_5 : RoundOK P (t91.lessPf [153]) nL0 1 (loopAt Tryz.f166 5) l_sl_DeleteFunc_Contact_5 := fun d => by kernel_rfl
def L_sl_DeleteFunc_Contact_5 : LT := nL0.add 1 l_sl_DeleteFunc_Contact_5
theorem L_sl_DeleteFunc_Contact_5_ok : LpK P 1 L_sl_DeleteFunc_Contact_5 (bodyOf Tryz.f166) := LpK.add hm (t91_ok.lessPf [153]) (by kernel_rfl) (nLk _ _ _) r_sl_DeleteFunc_Contact_5
def F_sl_DeleteFunc_Contact (d : List G) : Option (List G) :=
 (callB (((Nat.beq (gi d 0).rows.length (gi d 0).rows.length) && true) && (F_sl_IndexFunc_Contact [.l (gi d 0).rows, .l [[.l (gi (gi d 1).row 0).rows]]]).isSome) (F_sl_IndexFunc_Contact [.l (gi d 0).rows, .l [[.l (gi (gi d 1).row 0).rows]]]) fun g1 => (bif ((gi g1 0).int == (-1)) then some [.l (gi d 0).rows, .i (((gi d 0).rows.length : Nat) : Int)] else (bif (inI ((gi g1 0).int + 1)) then (loopB ((Nat.beq (gi d 0).rows.length (gi d 0).rows.length) && true) (LRun st_sl_DeleteFunc_Contact_5 [.l (gi d 0).rows, .l [[.l (gi (gi d 1).row 0).rows]], .i (gi g1 0).int, .i ((gi g1 0).int + 1)]) fun cg3 g3 => (bif ((nnI (gi g3 1).int) && (leI (gi g3 1).int (((gi g3 0).rows.length : Nat) : Int))) then (bif (Nat.ble ((0 + ((gi g3 1).int).toNat) + ((gi g3 0).rows.length - ((gi g3 1).int).toNat)) (gi g3 0).rows.length) then (bif ((nnI (gi g3 1).int) && (leI (gi g3 1).int (((gi g3 0).rows.length : Nat) : Int))) then some [.l ((gi g3 0).rows.take (0 + ((gi g3 1).int).toNat) ++ List.replicate ((gi g3 0).rows.length - ((gi g3 1).int).toNat) [.i 0, .i 0, .s (⟨#[]⟩ : ByteArray), .s (⟨#[]⟩ : ByteArray), .i 0, .i 0, .s (⟨#[]⟩ : ByteArray), .s (⟨#[]⟩ : ByteArray)] ++ (gi g3 0).rows.drop ((0 + ((gi g3 1).int).toNat) + ((gi g3 0).rows.length - ((gi g3 1).int).toNat))), .i (((((gi g3 1).int).toNat - 0) : Nat) : Int)] else none) else none) else none)) else none)))
def s_sl_DeleteFunc_Contact : FSpec := ⟨166, [.s (.vec 0 8), .clo 168 [.cptr [.list KCt]]], [.vec KCt 0], [.slot 0], [.s (.pre 0 8)], [.vec KCt 0], [.fix 0], [], F_sl_DeleteFunc_Contact⟩
theorem b_sl_DeleteFunc_Contact : BodyOK P (t91.lessPf [153]) L_sl_DeleteFunc_Contact_5 Tryz.f166 s_sl_DeleteFunc_Contact := fun d => by kernel_rfl
theorem c_sl_DeleteFunc_Contact : COK P s_sl_DeleteFunc_Contact := bodyC hm (t91_ok.lessPf [153]) Tryz.func166 (by kernel_rfl) L_sl_DeleteFunc_Contact_5_ok b_sl_DeleteFunc_Contact (by kernel_rfl)
def t92 : Tab := t91.addW s_sl_DeleteFunc_Contact
theorem t92_ok : TabOK P t92 := t91_ok.addW (by kernel_rfl) (by kernel_rfl) c_sl_DeleteFunc_Contact

def F_r2_LackingOf_f (d : List G) : Option (List G) :=
 (callF (F_sl_Clone_Contact_f [.l (gi d 1).rows]) fun g1 => (callB (((Nat.beq (gi g1 0).rows.length (gi g1 0).rows.length) && true) && (F_sl_DeleteFunc_Contact [.l (gi g1 0).rows, .l [[.l (gi d 0).rows]]]).isSome) (F_sl_DeleteFunc_Contact [.l (gi g1 0).rows, .l [[.l (gi d 0).rows]]]) fun g2 => (bif ((Nat.beq (gi g2 1).int.toNat ((gi g2 0).rows.take ((gi g2 1).int.toNat)).length) && true) then some [.l ((gi g2 0).rows.take ((gi g2 1).int.toNat))] else none)))
def s_r2_LackingOf_f : FSpec := ⟨118, [.s (.list KCt), .s (.list KCt)], [], [], [.s (.vec 0 8)], [.vec KCt 0], [.slot 0], [(1000004, [])], F_r2_LackingOf_f⟩
theorem b_r2_LackingOf_f : BodyOK P t92 nL0 Tryz.f118 s_r2_LackingOf_f := fun d => by kernel_rfl
theorem c_r2_LackingOf_f : COK P s_r2_LackingOf_f := bodyC hm t92_ok Tryz.func118 (by kernel_rfl) (nLk _ _ _) b_r2_LackingOf_f (by kernel_rfl)
def t93 : Tab := t92.addW s_r2_LackingOf_f
theorem t93_ok : TabOK P t93 := t92_ok.addW (by kernel_rfl) (by kernel_rfl) c_r2_LackingOf_f

def F_r2_DifferOf (d : List G) : Option (List G) :=
 (callF (F_r2_NetLog [.l (gi d 0).rows, .i (gi d 2).int]) fun g1 => (callF (F_r2_NetLog [.l (gi d 1).rows, .i (gi d 2).int]) fun g2 => (callF (F_r2_LackingOf_f [.l (gi g2 0).rows, .l (gi g1 0).rows]) fun g3 => (callF (F_r2_LackingOf_f [.l (gi g1 0).rows, .l (gi g2 0).rows]) fun g4 => (bif ((Nat.beq (gi g4 0).rows.length (gi g4 0).rows.length) && ((Nat.beq (gi g3 0).rows.length (gi g3 0).rows.length) && (decide (((gi g3 0).rows.length + (gi g4 0).rows.length) ≤ 1048576)))) then (bif ((Nat.beq ((gi g3 0).rows ++ (gi g4 0).rows).length ((gi g3 0).rows ++ (gi g4 0).rows).length) && true) then some [.l ((gi g3 0).rows ++ (gi g4 0).rows)] else none) else none)))))
def s_r2_DifferOf : FSpec := ⟨57, [.s (.list KDeed), .s (.list KDeed), .s (.int .i64)], [], [], [.s (.list KCt)], [], [], [], F_r2_DifferOf⟩
theorem b_r2_DifferOf : BodyOK P t93 nL0 Tryz.f57 s_r2_DifferOf := fun d => by kernel_rfl
theorem c_r2_DifferOf : COK P s_r2_DifferOf := bodyC hm t93_ok Tryz.func57 (by kernel_rfl) (nLk _ _ _) b_r2_DifferOf (by kernel_rfl)
def t94 : Tab := t93.addP s_r2_DifferOf
theorem t94_ok : TabOK P t94 := t93_ok.addP (by kernel_rfl) (by kernel_rfl) c_r2_DifferOf

def st_sl_Equal_Pair_4 (d : List G) : Option (Option Nat × List G) :=
 (bif (ltI (gi d 3).int (gi d 2).int) then (bif ((nnI (gi d 3).int) && (ltI (gi d 3).int (((gi d 0).rows.length : Nat) : Int))) then (bif ((nnI (gi d 3).int) && (ltI (gi d 3).int (((gi d 1).rows.length : Nat) : Int))) then (bif (!(rowEq [.str, .str] (gEta [.str, .str] ((gi d 0).rows.getD (((gi d 3).int).toNat) [])) (gEta [.str, .str] ((gi d 1).rows.getD (((gi d 3).int).toNat) [])))) then some (some 0, [.t false]) else (bif (inI ((gi d 3).int + 1)) then some (none, [.l (gi d 0).rows, .l (gi d 1).rows, .i (gi d 2).int, .i ((gi d 3).int + 1)]) else none)) else none) else none) else some (some 1, []))
def l_sl_Equal_Pair_4 : LSpec := ⟨4, [], ⟨26, [(0, .s (.list [.str, .str])), (1, .s (.list [.str, .str])), (12, .s (.int .i64)), (13, .s (.int .i64))], []⟩, [], [⟨.ret, ⟨26, [(4, .s (.bool))], []⟩, []⟩, ⟨.exit 0, ⟨26, [], []⟩, []⟩], st_sl_Equal_Pair_4⟩
theorem r_sl_Equal_Pair_4 : RoundOK P t94 nL0 0 (loopAt Tryz.f58 4) l_sl_Equal_Pair_4 := fun d => by kernel_rfl
def L_sl_Equal_Pair_4 : LT := nL0.add 0 l_sl_Equal_Pair_4
theorem L_sl_Equal_Pair_4_ok : LpK P 0 L_sl_Equal_Pair_4 (bodyOf Tryz.f58) := LpK.add hm t94_ok (by kernel_rfl) (nLk _ _ _) r_sl_Equal_Pair_4
def F_sl_Equal_Pair (d : List G) : Option (List G) :=
 (bif ((((gi d 0).rows.length : Nat) : Int) != (((gi d 1).rows.length : Nat) : Int)) then some [.t false] else (loopB true (LRun st_sl_Equal_Pair_4 [.l (gi d 0).rows, .l (gi d 1).rows, .i (((gi d 0).rows.length : Nat) : Int), .i 0]) fun cg1 g1 => (bif Nat.beq cg1 0 then some [.t (gi g1 0).bool] else some [.t true])))
def s_sl_Equal_Pair : FSpec := ⟨58, [.s (.list [.str, .str]), .s (.list [.str, .str])], [], [], [.s (.bool)], [], [], [], F_sl_Equal_Pair⟩
theorem b_sl_Equal_Pair : BodyOK P t94 L_sl_Equal_Pair_4 Tryz.f58 s_sl_Equal_Pair := fun d => by kernel_rfl
theorem c_sl_Equal_Pair : COK P s_sl_Equal_Pair := bodyC hm t94_ok Tryz.func58 (by kernel_rfl) L_sl_Equal_Pair_4_ok b_sl_Equal_Pair (by kernel_rfl)
def t95 : Tab := t94.addP s_sl_Equal_Pair
theorem t95_ok : TabOK P t95 := t94_ok.addP (by kernel_rfl) (by kernel_rfl) c_sl_Equal_Pair

def st_sl_Equal_Contact_4 (d : List G) : Option (Option Nat × List G) :=
 (bif (ltI (gi d 3).int (gi d 2).int) then (bif ((nnI (gi d 3).int) && (ltI (gi d 3).int (((gi d 0).rows.length : Nat) : Int))) then (bif ((nnI (gi d 3).int) && (ltI (gi d 3).int (((gi d 1).rows.length : Nat) : Int))) then (bif (!(rowEq KCt (gEta KCt ((gi d 0).rows.getD (((gi d 3).int).toNat) [])) (gEta KCt ((gi d 1).rows.getD (((gi d 3).int).toNat) [])))) then some (some 0, [.t false]) else (bif (inI ((gi d 3).int + 1)) then some (none, [.l (gi d 0).rows, .l (gi d 1).rows, .i (gi d 2).int, .i ((gi d 3).int + 1)]) else none)) else none) else none) else some (some 1, []))
def l_sl_Equal_Contact_4 : LSpec := ⟨4, [], ⟨26, [(0, .s (.list KCt)), (1, .s (.list KCt)), (12, .s (.int .i64)), (13, .s (.int .i64))], []⟩, [], [⟨.ret, ⟨26, [(4, .s (.bool))], []⟩, []⟩, ⟨.exit 0, ⟨26, [], []⟩, []⟩], st_sl_Equal_Contact_4⟩
theorem r_sl_Equal_Contact_4 : RoundOK P t95 nL0 0 (loopAt Tryz.f39 4) l_sl_Equal_Contact_4 := fun d => by kernel_rfl
def L_sl_Equal_Contact_4 : LT := nL0.add 0 l_sl_Equal_Contact_4
theorem L_sl_Equal_Contact_4_ok : LpK P 0 L_sl_Equal_Contact_4 (bodyOf Tryz.f39) := LpK.add hm t95_ok (by kernel_rfl) (nLk _ _ _) r_sl_Equal_Contact_4
def F_sl_Equal_Contact (d : List G) : Option (List G) :=
 (bif ((((gi d 0).rows.length : Nat) : Int) != (((gi d 1).rows.length : Nat) : Int)) then some [.t false] else (loopB true (LRun st_sl_Equal_Contact_4 [.l (gi d 0).rows, .l (gi d 1).rows, .i (((gi d 0).rows.length : Nat) : Int), .i 0]) fun cg1 g1 => (bif Nat.beq cg1 0 then some [.t (gi g1 0).bool] else some [.t true])))
def s_sl_Equal_Contact : FSpec := ⟨39, [.s (.list KCt), .s (.list KCt)], [], [], [.s (.bool)], [], [], [], F_sl_Equal_Contact⟩
theorem b_sl_Equal_Contact : BodyOK P t95 L_sl_Equal_Contact_4 Tryz.f39 s_sl_Equal_Contact := fun d => by kernel_rfl
theorem c_sl_Equal_Contact : COK P s_sl_Equal_Contact := bodyC hm t95_ok Tryz.func39 (by kernel_rfl) L_sl_Equal_Contact_4_ok b_sl_Equal_Contact (by kernel_rfl)
def t96 : Tab := t95.addP s_sl_Equal_Contact
theorem t96_ok : TabOK P t96 := t95_ok.addP (by kernel_rfl) (by kernel_rfl) c_sl_Equal_Contact

attribute [instance] drF
theorem w96_ok : TabOK P t96 := t96_ok.anyDr
def F_sl_Sorted_string (d : List G) : Option (List G) :=
 keysG d
def s_sl_Sorted_string : FSpec := ⟨93, [.clo 147 [.ptr 0 0]], [.box [.map 1], .map (.one (.str)) (.one (.bool))], [.cap 0 0, .cell 0 0], [.s (.list [.str])], [.box [.map 1], .map (.one (.str)) (.one (.bool))], [.fix 0, .fix 1], [], F_sl_Sorted_string⟩
theorem c_sl_Sorted_string : ∀ d r, F_sl_Sorted_string d = some r → ACallX P 93 (s_sl_Sorted_string.args0 d) (denH (s_sl_Sorted_string.H0 d)) (s_sl_Sorted_string.out r) (denH (s_sl_Sorted_string.H1 r)) := fun d r h => sortedK_call (ρ := Tryz.laysSorted93_ren) (ρ' := Tryz.laysKeys94_ren) rfl Tryz.laysSorted93 { Tryz.laysKeys94 with } (fun m => ⟨fun blk off cap ss W hH hblk hsz => callsIn_wide.2 (Proofs.AnyM.slices_Sort_string Tryz.laysSortS blk off cap ss W hH hblk hsz), fun p cap W => callsIn_wide.2 (Proofs.AnyM.slices_Sort_string_none Tryz.laysSortS p cap W)⟩) (by kernel_rfl) (by kernel_rfl) (.one (.bool)) d r h
def t97 : Tab := t96.addW s_sl_Sorted_string
theorem t97_ok : TabOK P t97 := w96_ok.addW (by kernel_rfl) (by kernel_rfl) c_sl_Sorted_string

def st_net_state_allSites_3 (d : List G) : Option (Option Nat × List G) :=
 (bif (ltI (gi d 10).int (gi d 9).int) then (bif ((nnI (gi d 10).int) && (ltI (gi d 10).int (((gi d 8).rows.length : Nat) : Int))) then (bif (inI ((gi d 10).int + 1)) then some (none, [.l (gi d 0).rows, .l (gi d 1).rows, .l (gi d 2).rows, .l (gi d 3).rows, .l (gi d 4).rows, .i (((gi d 5).int.toNat : Nat) : Int), .l (mput [.str] (gi d 6).rows [.s (gi ((gi d 8).rows.getD (((gi d 10).int).toNat) []) 0).str] [.t true] (gi d 7).int.toNat), .i (((mclk [.str] (gi d 6).rows [.s (gi ((gi d 8).rows.getD (((gi d 10).int).toNat) []) 0).str] (gi d 7).int.toNat) : Nat) : Int), .l (gi d 8).rows, .i (gi d 9).int, .i ((gi d 10).int + 1)]) else none) else none) else some (some 0, [.l (gi d 0).rows, .l (gi d 1).rows, .l (gi d 2).rows, .l (gi d 3).rows, .l (gi d 4).rows, .i (((gi d 5).int.toNat : Nat) : Int), .l (gi d 6).rows, .i (((gi d 7).int.toNat : Nat) : Int)]))
def l_net_state_allSites_3 : LSpec := ⟨3, [], ⟨23, [(3, .s (.map 2)), (10, .s (.list KDeed)), (11, .s (.int .i64)), (12, .s (.int .i64))], [.box [.list KDeed, .list KCt, .list [.str], .list [.int .i64], .map 1], .map (.agg [.str, .int .i64]) (.one (.bool)), .map (.one (.str)) (.one (.bool))]⟩, [.fix 0, .cell 0 4, .slot 3], [⟨.exit 0, ⟨23, [(3, .s (.map 2))], [.box [.list KDeed, .list KCt, .list [.str], .list [.int .i64], .map 1], .map (.agg [.str, .int .i64]) (.one (.bool)), .map (.one (.str)) (.one (.bool))]⟩, [.fix 0, .cell 0 4, .slot 3]⟩], st_net_state_allSites_3⟩
theorem r_net_state_allSites_3 : RoundOK P t97 nL0 2 (loopAt Tryz.f116 3) l_net_state_allSites_3 := fun d => by kernel_rfl
def L_net_state_allSites_3 : LT := nL0.add 2 l_net_state_allSites_3
theorem L_net_state_allSites_3_ok : LpK P 2 L_net_state_allSites_3 (bodyOf Tryz.f116) := LpK.add hm t97_ok (by kernel_rfl) (nLk _ _ _) r_net_state_allSites_3
def F_net_state_allSites (d : List G) : Option (List G) :=
 (loopB true (LRun st_net_state_allSites_3 [.l (gi d 0).rows, .l (gi d 1).rows, .l (gi d 2).rows, .l (gi d 3).rows, .l (gi d 4).rows, .i (((gi d 5).int.toNat : Nat) : Int), .l [], .i 0, .l (gi d 0).rows, .i (((gi d 0).rows.length : Nat) : Int), .i 0]) fun cg1 g1 => (callF (F_sl_Sorted_string [.l (gi g1 6).rows, .i (((gi g1 7).int.toNat : Nat) : Int)]) fun g2 => some [.l (gi g1 0).rows, .l (gi g1 1).rows, .l (gi g1 2).rows, .l (gi g1 3).rows, .l (gi g1 4).rows, .i (((gi g1 5).int.toNat : Nat) : Int), .l (gi g2 2).rows]))
def s_net_state_allSites : FSpec := ⟨116, [.s (.ptr 0 0)], [.box [.list KDeed, .list KCt, .list [.str], .list [.int .i64], .map 1], .map (.agg [.str, .int .i64]) (.one (.bool))], [.slot 0, .cell 0 4], [.s (.list [.str])], [.box [.list KDeed, .list KCt, .list [.str], .list [.int .i64], .map 1], .map (.agg [.str, .int .i64]) (.one (.bool))], [.fix 0, .fix 1], [], F_net_state_allSites⟩
theorem b_net_state_allSites : BodyOK P t97 L_net_state_allSites_3 Tryz.f116 s_net_state_allSites := fun d => by kernel_rfl
theorem c_net_state_allSites : COK P s_net_state_allSites := bodyC hm t97_ok Tryz.func116 (by kernel_rfl) L_net_state_allSites_3_ok b_net_state_allSites (by kernel_rfl)
def t98 : Tab := t97.addW s_net_state_allSites
theorem t98_ok : TabOK P t98 := t97_ok.addW (by kernel_rfl) (by kernel_rfl) c_net_state_allSites

def st_net_Hours_11 (d : List G) : Option (Option Nat × List G) :=
 (bif (ltI (gi d 12).int (gi d 11).int) then (bif ((nnI (gi d 12).int) && (ltI (gi d 12).int (((gi d 10).rows.length : Nat) : Int))) then (callF (F_kit_Has [.l [(gEta [.int .i64, .int .i64] d)], .i (gi ((gi d 10).rows.getD (((gi d 12).int).toNat) []) 0).int]) fun g4 => (bif (gi g4 0).bool then (bif ((nnI (gi d 12).int) && (ltI (gi d 12).int (((gi d 4).rows.length : Nat) : Int))) then (bif (inI ((gi (mget [.str] (gi d 8).rows [.s (gi ((gi d 4).rows.getD (((gi d 12).int).toNat) []) 0).str] [.i 0]) 0).int + 1)) then (bif (inI ((gi d 12).int + 1)) then some (none, [.i (gi d 0).int, .i (gi d 1).int, .l (gi d 2).rows, .l (gi d 3).rows, .l (gi d 4).rows, .l (gi d 5).rows, .l (gi d 6).rows, .i (((gi d 7).int.toNat : Nat) : Int), .l (mput [.str] (gi d 8).rows [.s (gi ((gi d 4).rows.getD (((gi d 12).int).toNat) []) 0).str] [.i ((gi (mget [.str] (gi d 8).rows [.s (gi ((gi d 4).rows.getD (((gi d 12).int).toNat) []) 0).str] [.i 0]) 0).int + 1)] (gi d 9).int.toNat), .i (((mclk [.str] (gi d 8).rows [.s (gi ((gi d 4).rows.getD (((gi d 12).int).toNat) []) 0).str] (gi d 9).int.toNat) : Nat) : Int), .l (gi d 10).rows, .i (gi d 11).int, .i ((gi d 12).int + 1)]) else none) else none) else none) else (bif (inI ((gi d 12).int + 1)) then some (none, [.i (gi d 0).int, .i (gi d 1).int, .l (gi d 2).rows, .l (gi d 3).rows, .l (gi d 4).rows, .l (gi d 5).rows, .l (gi d 6).rows, .i (((gi d 7).int.toNat : Nat) : Int), .l (gi d 8).rows, .i (((gi d 9).int.toNat : Nat) : Int), .l (gi d 10).rows, .i (gi d 11).int, .i ((gi d 12).int + 1)]) else none))) else none) else some (some 0, [.l (gi d 2).rows, .l (gi d 3).rows, .l (gi d 4).rows, .l (gi d 5).rows, .l (gi d 6).rows, .i (((gi d 7).int.toNat : Nat) : Int), .l (gi d 8).rows, .i (((gi d 9).int.toNat : Nat) : Int)]))
def l_net_Hours_11 : LSpec := ⟨11, [], ⟨75, [(3, .s (.ptr 0 0)), (7, .s (.ptr 1 0)), (9, .s (.map 3)), (35, .s (.list KCt)), (36, .s (.int .i64)), (37, .s (.int .i64))], [.box [.int .i64, .int .i64], .box [.list KDeed, .list KCt, .list [.str], .list [.int .i64], .map 2], .map (.agg [.str, .int .i64]) (.one (.bool)), .map (.one (.str)) (.one (.int .i64))]⟩, [.slot 3, .slot 7, .cell 1 4, .slot 9], [⟨.exit 0, ⟨75, [(7, .s (.ptr 0 0)), (9, .s (.map 2))], [.box [.list KDeed, .list KCt, .list [.str], .list [.int .i64], .map 1], .map (.agg [.str, .int .i64]) (.one (.bool)), .map (.one (.str)) (.one (.int .i64))]⟩, [.slot 7, .cell 0 4, .slot 9]⟩], st_net_Hours_11⟩
theorem r_net_Hours_11 : RoundOK P t98 nL0 0 (loopAt Tryz.f54 11) l_net_Hours_11 := fun d => by kernel_rfl
def L_net_Hours_11 : LT := nL0.add 0 l_net_Hours_11
theorem L_net_Hours_11_ok : LpK P 0 L_net_Hours_11 (bodyOf Tryz.f54) := LpK.add hm t98_ok (by kernel_rfl) (nLk _ _ _) r_net_Hours_11
def st_net_Hours_18 (d : List G) : Option (Option Nat × List G) :=
 (bif (ltI (gi d 5).int (gi d 4).int) then (bif ((nnI (gi d 5).int) && (ltI (gi d 5).int (((gi d 3).rows.length : Nat) : Int))) then (callF (F_strconv_Itoa [.i (gi (mget [.str] (gi d 0).rows [.s (gi ((gi d 3).rows.getD (((gi d 5).int).toNat) []) 0).str] [.i 0]) 0).int]) fun g7 => (bif ((Nat.beq (gi d 2).rows.length (gi d 2).rows.length) && (decide (((gi d 2).rows.length + 1) ≤ 1048576))) then (bif (inI ((gi d 5).int + 1)) then (bif ((Nat.beq ((gi d 2).rows ++ ([[.s (gi ((gi d 3).rows.getD (((gi d 5).int).toNat) []) 0).str, .s (gi g7 0).str]] : List (List G))).length ((gi d 2).rows ++ ([[.s (gi ((gi d 3).rows.getD (((gi d 5).int).toNat) []) 0).str, .s (gi g7 0).str]] : List (List G))).length) && true) then some (none, [.l (gi d 0).rows, .i (((gi d 1).int.toNat : Nat) : Int), .l ((gi d 2).rows ++ ([[.s (gi ((gi d 3).rows.getD (((gi d 5).int).toNat) []) 0).str, .s (gi g7 0).str]] : List (List G))), .l (gi d 3).rows, .i (gi d 4).int, .i ((gi d 5).int + 1)]) else none) else none) else none)) else none) else (bif ((Nat.beq (gi d 2).rows.length (gi d 2).rows.length) && true) then some (some 0, [.l (gi d 2).rows]) else none))
def l_net_Hours_18 : LSpec := ⟨18, [(12, [.str, .str])], ⟨75, [(9, .s (.map 0)), (12, .s (.vec 1 2)), (58, .s (.list [.str])), (59, .s (.int .i64)), (60, .s (.int .i64))], [.map (.one (.str)) (.one (.int .i64)), .vec [.str, .str] 0]⟩, [.slot 9, .slot 12], [⟨.exit 2, ⟨75, [(12, .s (.vec 0 2))], [.vec [.str, .str] 0]⟩, [.slot 12]⟩], st_net_Hours_18⟩
theorem r_net_Hours_18 : RoundOK P t98 L_net_Hours_11 0 (loopAt Tryz.f54 18) l_net_Hours_18 := fun d => by kernel_rfl
def L_net_Hours_18 : LT := L_net_Hours_11.add 0 l_net_Hours_18
theorem L_net_Hours_18_ok : LpK P 0 L_net_Hours_18 (bodyOf Tryz.f54) := LpK.add hm t98_ok (by kernel_rfl) L_net_Hours_11_ok r_net_Hours_18
def F_net_Hours (d : List G) : Option (List G) :=
 (callF (F_net_CheckDeeds [.l (gi d 0).rows]) fun g1 => (bif ((gi g1 0).int != 0) then some [.l [], .i (gi g1 0).int] else (callF (F_net_stateAt_f [.l (gi d 0).rows, .i 345686399999]) fun g2 => (bif ((gi g2 6).int != 0) then some [.l [], .i (gi g2 6).int] else (callF (F_kit_IsWindow [.l [(gEta [.int .i64, .int .i64] (gi d 1).row)]]) fun g3 => (bif (!(gi g3 0).bool) then some [.l [], .i 1] else (loopB true (LRun st_net_Hours_11 [.i (gi (gi d 1).row 0).int, .i (gi (gi d 1).row 1).int, .l (gi g2 0).rows, .l (gi g2 1).rows, .l (gi g2 2).rows, .l (gi g2 3).rows, .l (gi g2 4).rows, .i (((gi g2 5).int.toNat : Nat) : Int), .l [], .i 0, .l (gi g2 1).rows, .i (((gi g2 1).rows.length : Nat) : Int), .i 0]) fun cg5 g5 => (callF (F_net_state_allSites [.l (gi g5 0).rows, .l (gi g5 1).rows, .l (gi g5 2).rows, .l (gi g5 3).rows, .l (gi g5 4).rows, .i (((gi g5 5).int.toNat : Nat) : Int)]) fun g6 => (loopB true (LRun st_net_Hours_18 [.l (gi g5 6).rows, .i (((gi g5 7).int.toNat : Nat) : Int), .l [], .l (gi g6 6).rows, .i (((gi g6 6).rows.length : Nat) : Int), .i 0]) fun cg8 g8 => (bif ((Nat.beq (gi g8 0).rows.length (gi g8 0).rows.length) && true) then some [.l (gi g8 0).rows, .i 0] else none))))))))))
def s_net_Hours : FSpec := ⟨54, [.s (.list KDeed), .s (.row [.int .i64, .int .i64])], [], [], [.s (.list [.str, .str]), .s (.int .i64)], [], [], [], F_net_Hours⟩
theorem b_net_Hours : BodyOK P t98 L_net_Hours_18 Tryz.f54 s_net_Hours := fun d => by kernel_rfl
theorem c_net_Hours : COK P s_net_Hours := bodyC hm t98_ok Tryz.func54 (by kernel_rfl) L_net_Hours_18_ok b_net_Hours (by kernel_rfl)
def t99 : Tab := t98.addP s_net_Hours
theorem t99_ok : TabOK P t99 := t98_ok.addP (by kernel_rfl) (by kernel_rfl) c_net_Hours

def tl_l2_DesksCompared_4 (d : List G) : Option (Option Nat × List G) :=
 (bif (gi d 5).bool then (callF (F_mk_Next [.l (gi d 0).rows, .i (gi d 1).int, .i (((gi d 2).rows.length : Nat) : Int)]) fun g7 => (bif ((nnI (gi g7 2).int) && (leI (gi g7 2).int (((gi d 2).rows.length : Nat) : Int))) then (callF (F_sl_Clone_Deed [.l ((gi d 2).rows.take (((gi g7 2).int).toNat))]) fun g8 => some (some 0, [.l (gi g7 0).rows, .i (gi g7 1).int, .l (gi d 2).rows, .l (gi g8 0).rows, .i (gi d 4).int])) else none)) else some (some 0, [.l (gi d 0).rows, .i (gi d 1).int, .l (gi d 2).rows, .l (gi d 3).rows, .i (gi d 4).int]))
def l_l2_DesksCompared_4c : LSpec := ⟨4, [], ⟨109, [(3, .s (.ptr 0 0)), (4, .s (.list KDeed)), (5, .s (.list KDeed)), (6, .s (.int .i64)), (35, .s (.bool))], [.box [.list [.int .i64], .int .i64]]⟩, [.slot 3], [⟨.normal, ⟨109, [(3, .s (.ptr 0 0)), (4, .s (.list KDeed)), (5, .s (.list KDeed)), (6, .s (.int .i64))], [.box [.list [.int .i64], .int .i64]]⟩, [.slot 3]⟩], tl_l2_DesksCompared_4⟩
theorem r_l2_DesksCompared_4c : CutOK P t99 nL0 0 (cutAt Tryz.f7 4) l_l2_DesksCompared_4c := fun d => by kernel_rfl
def L_l2_DesksCompared_4c : LT := nL0.addCut 0 l_l2_DesksCompared_4c
theorem L_l2_DesksCompared_4c_ok : LpK P 0 L_l2_DesksCompared_4c (bodyOf Tryz.f7) := LpK.addCut hm t99_ok (by kernel_rfl) (nLk _ _ _) r_l2_DesksCompared_4c
def tl_l2_DesksCompared_15 (d : List G) : Option (Option Nat × List G) :=
 (bif ((gi d 1).int == (gi d 4).int) then (callF (F_sl_Equal_Pair [.l (gi d 0).rows, .l (gi d 6).rows]) fun g23 => (bif (gi g23 0).bool then (bif ((gi d 3).int == (gi d 5).int) then (callF (F_sl_Equal_Contact [.l (gi d 2).rows, .l (gi d 7).rows]) fun g24 => (bif (gi g24 0).bool then (callF (F_l2_netted []) fun g25 => some (some 0, [.t (gi g25 0).bool])) else some (some 0, [.t false]))) else some (some 0, [.t false])) else some (some 0, [.t false]))) else some (some 0, [.t false]))
def l_l2_DesksCompared_15c : LSpec := ⟨15, [], ⟨109, [(8, .s (.list [.str, .str])), (9, .s (.int .i64)), (10, .s (.list KCt)), (11, .s (.int .i64)), (12, .s (.int .i64)), (13, .s (.int .i64)), (14, .s (.list [.str, .str])), (15, .s (.list KCt))], []⟩, [], [⟨.ret, ⟨109, [(2, .s (.bool))], []⟩, []⟩], tl_l2_DesksCompared_15⟩
theorem r_l2_DesksCompared_15c : CutOK P t99 L_l2_DesksCompared_4c 0 (cutAt Tryz.f7 15) l_l2_DesksCompared_15c := fun d => by kernel_rfl
def L_l2_DesksCompared_15c : LT := L_l2_DesksCompared_4c.addCut 0 l_l2_DesksCompared_15c
theorem L_l2_DesksCompared_15c_ok : LpK P 0 L_l2_DesksCompared_15c (bodyOf Tryz.f7) := LpK.addCut hm t99_ok (by kernel_rfl) L_l2_DesksCompared_4c_ok r_l2_DesksCompared_15c
def tl_l2_DesksCompared_12 (d : List G) : Option (Option Nat × List G) :=
 (bif ((gi d 8).int == 0) then (callF (F_r2_DifferOf [.l (gi d 0).rows, .l (gi d 1).rows, .i (gi d 2).int]) fun g22 => (loopB true (cutR (tl_l2_DesksCompared_15 [.l (gi d 3).rows, .i (gi d 4).int, .l (gi d 5).rows, .i (gi d 6).int, .i (gi d 7).int, .i (gi d 8).int, .l (gi d 9).rows, .l (gi g22 0).rows])) fun cg26 g26 => some (some 0, [.t (gi g26 0).bool]))) else (loopB true (cutR (tl_l2_DesksCompared_15 [.l (gi d 3).rows, .i (gi d 4).int, .l (gi d 5).rows, .i (gi d 6).int, .i (gi d 7).int, .i (gi d 8).int, .l (gi d 9).rows, .l []])) fun cg27 g27 => some (some 0, [.t (gi g27 0).bool])))
def l_l2_DesksCompared_12c : LSpec := ⟨12, [], ⟨109, [(4, .s (.list KDeed)), (5, .s (.list KDeed)), (6, .s (.int .i64)), (8, .s (.list [.str, .str])), (9, .s (.int .i64)), (10, .s (.list KCt)), (11, .s (.int .i64)), (12, .s (.int .i64)), (13, .s (.int .i64)), (14, .s (.list [.str, .str]))], []⟩, [], [⟨.ret, ⟨109, [(2, .s (.bool))], []⟩, []⟩], tl_l2_DesksCompared_12⟩
theorem r_l2_DesksCompared_12c : CutOK P t99 L_l2_DesksCompared_15c 0 (cutAt Tryz.f7 12) l_l2_DesksCompared_12c := fun d => by kernel_rfl
def L_l2_DesksCompared_12c : LT := L_l2_DesksCompared_15c.addCut 0 l_l2_DesksCompared_12c
theorem L_l2_DesksCompared_12c_ok : LpK P 0 L_l2_DesksCompared_12c (bodyOf Tryz.f7) := LpK.addCut hm t99_ok (by kernel_rfl) L_l2_DesksCompared_15c_ok r_l2_DesksCompared_12c
def tl_l2_DesksCompared_5 (d : List G) : Option (Option Nat × List G) :=
 (callF (F_mk_Pick [.l (gi d 0).rows, .i (gi d 1).int, .l [[.i 0], [.i 10], [.i (-1)]]]) fun g10 => (callF (F_mk_Pick [.l (gi g10 0).rows, .i (gi g10 1).int, .l [[.i 5], [.i 30], [.i 100], [.i 345686400001]]]) fun g11 => (callF (F_net_Hours [.l (gi d 2).rows, .l [[.i (gi g10 2).int, .i (gi g11 2).int]]]) fun g12 => (callF (F_net_Differ [.l (gi d 2).rows, .l (gi d 3).rows, .i (gi d 4).int]) fun g13 => (callF (F_r2_DeedsFault [.l (gi d 2).rows]) fun g14 => (callF (F_r2_WindowFault [.l [[.i (gi g10 2).int, .i (gi g11 2).int]]]) fun g15 => (callF (F_l2_errs [.l [[.i (gi g14 0).int], [.i (gi g15 0).int]]]) fun g16 => (callF (F_r2_DeedsFault [.l (gi d 2).rows]) fun g17 => (callF (F_r2_DeedsFault [.l (gi d 3).rows]) fun g18 => (callF (F_r2_MomentFault [.i (gi d 4).int]) fun g19 => (callF (F_l2_errs [.l [[.i (gi g17 0).int], [.i (gi g18 0).int], [.i (gi g19 0).int]]]) fun g20 => (bif ((gi g16 0).int == 0) then (callF (F_r2_HoursBy [.l (gi d 2).rows, .l [[.i (gi g10 2).int, .i (gi g11 2).int]]]) fun g21 => (loopB true (cutR (tl_l2_DesksCompared_12 [.l (gi d 2).rows, .l (gi d 3).rows, .i (gi d 4).int, .l (gi g12 0).rows, .i (gi g12 1).int, .l (gi g13 0).rows, .i (gi g13 1).int, .i (gi g16 0).int, .i (gi g20 0).int, .l (gi g21 0).rows])) fun cg28 g28 => some (some 0, [.t (gi g28 0).bool]))) else (loopB true (cutR (tl_l2_DesksCompared_12 [.l (gi d 2).rows, .l (gi d 3).rows, .i (gi d 4).int, .l (gi g12 0).rows, .i (gi g12 1).int, .l (gi g13 0).rows, .i (gi g13 1).int, .i (gi g16 0).int, .i (gi g20 0).int, .l []])) fun cg29 g29 => some (some 0, [.t (gi g29 0).bool]))))))))))))))
def l_l2_DesksCompared_5c : LSpec := ⟨5, [], ⟨109, [(3, .s (.ptr 0 0)), (4, .s (.list KDeed)), (5, .s (.list KDeed)), (6, .s (.int .i64))], [.box [.list [.int .i64], .int .i64]]⟩, [.slot 3], [⟨.ret, ⟨109, [(2, .s (.bool))], []⟩, []⟩], tl_l2_DesksCompared_5⟩
theorem r_l2_DesksCompared_5c : CutOK P t99 L_l2_DesksCompared_12c 0 (cutAt Tryz.f7 5) l_l2_DesksCompared_5c := fun d => by kernel_rfl
def L_l2_DesksCompared_5c : LT := L_l2_DesksCompared_12c.addCut 0 l_l2_DesksCompared_5c
theorem L_l2_DesksCompared_5c_ok : LpK P 0 L_l2_DesksCompared_5c (bodyOf Tryz.f7) := LpK.addCut hm t99_ok (by kernel_rfl) L_l2_DesksCompared_12c_ok r_l2_DesksCompared_5c
def F_l2_DesksCompared (d : List G) : Option (List G) :=
 (callF (F_mk_Range [.l (gi d 0).rows, .i 0, .i 0, .i 14]) fun g1 => (callF (F_mk_Deeds [.l (gi g1 0).rows, .i (gi g1 1).int, .i (gi g1 2).int]) fun g2 => (callF (F_mk_Range [.l (gi g2 0).rows, .i (gi g2 1).int, .i 0, .i 8]) fun g3 => (callF (F_mk_Deeds [.l (gi g3 0).rows, .i (gi g3 1).int, .i (gi g3 2).int]) fun g4 => (callF (F_mk_DeedTime [.l (gi g4 0).rows, .i (gi g4 1).int]) fun g5 => (bif (ltI 0 (((gi g2 2).rows.length : Nat) : Int)) then (callF (F_mk_Flip [.l (gi g5 0).rows, .i (gi g5 1).int, .i 2]) fun g6 => (loopB true (cutR (tl_l2_DesksCompared_4 [.l (gi g6 0).rows, .i (gi g6 1).int, .l (gi g2 2).rows, .l (gi g4 2).rows, .i (gi g5 2).int, .t (gi g6 2).bool])) fun cg9 g9 => (loopB true (cutR (tl_l2_DesksCompared_5 [.l (gi g9 0).rows, .i (gi g9 1).int, .l (gi g9 2).rows, .l (gi g9 3).rows, .i (gi g9 4).int])) fun cg30 g30 => some [.t (gi g30 0).bool]))) else (loopB true (cutR (tl_l2_DesksCompared_4 [.l (gi g5 0).rows, .i (gi g5 1).int, .l (gi g2 2).rows, .l (gi g4 2).rows, .i (gi g5 2).int, .t false])) fun cg31 g31 => (loopB true (cutR (tl_l2_DesksCompared_5 [.l (gi g31 0).rows, .i (gi g31 1).int, .l (gi g31 2).rows, .l (gi g31 3).rows, .i (gi g31 4).int])) fun cg32 g32 => some [.t (gi g32 0).bool]))))))))
def s_l2_DesksCompared : FSpec := ⟨7, [.s (.list [.int .i64])], [], [], [.s (.bool)], [], [], [], F_l2_DesksCompared⟩
theorem b_l2_DesksCompared : BodyOK P t99 L_l2_DesksCompared_5c Tryz.f7 s_l2_DesksCompared := fun d => by kernel_rfl
theorem c_l2_DesksCompared : COK P s_l2_DesksCompared := bodyC hm t99_ok Tryz.func7 (by kernel_rfl) L_l2_DesksCompared_5c_ok b_l2_DesksCompared (by kernel_rfl)
def t100 : Tab := t99.addP s_l2_DesksCompared
theorem t100_ok : TabOK P t100 := t99_ok.addP (by kernel_rfl) (by kernel_rfl) c_l2_DesksCompared

end
end Go.Proofs.SYtkdippipiidcmaaGreatDoor
