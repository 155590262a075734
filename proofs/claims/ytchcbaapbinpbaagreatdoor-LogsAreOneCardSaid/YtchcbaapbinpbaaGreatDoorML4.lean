/-
 What is proved here: functions of the program as functions on data. No condition.
-/
import Derived.Test.YtchcbaapbinpbaaGreatDoorML3
set_option linter.all false
namespace Go.Proofs.SYtchcbaapbinpbaaGreatDoor
open Go Go.AL Go.Proofs
noncomputable section
def F_stringslite_HasPrefix (d : List G) : Option (List G) :=
 (bif (leI (((gi d 1).str.size : Nat) : Int) (((gi d 0).str.size : Nat) : Int)) then (bif ((nnI (((gi d 1).str.size : Nat) : Int)) && (leI (((gi d 1).str.size : Nat) : Int) (((gi d 0).str.size : Nat) : Int))) then some [.t (((gi d 0).str.extract 0 (gi d 1).str.size).toList == (gi d 1).str.toList)] else none) else some [.t false])
def s_stringslite_HasPrefix : FSpec := ⟨260, [.s (.str), .s (.str)], [], [], [.s (.bool)], [], [], [], F_stringslite_HasPrefix⟩
theorem b_stringslite_HasPrefix : BodyOK P t85 nL0 Tryz.f260 s_stringslite_HasPrefix := fun d => by kernel_rfl
theorem c_stringslite_HasPrefix : COK P s_stringslite_HasPrefix := bdC hm t85_ok Tryz.func260 (nLk _ _ _) b_stringslite_HasPrefix
def t86 : Tab := t85.addP s_stringslite_HasPrefix
theorem t86_ok : TabOK P t86 := t85_ok.aP c_stringslite_HasPrefix

def F_stringslite_CutPrefix (d : List G) : Option (List G) :=
 (callF (F_stringslite_HasPrefix [.s (gi d 0).str, .s (gi d 1).str]) fun g1 => (bif (!(gi g1 0).bool) then some [.s (gi d 0).str, .t false] else (bif ((nnI (((gi d 1).str.size : Nat) : Int)) && (leI (((gi d 1).str.size : Nat) : Int) (((gi d 0).str.size : Nat) : Int))) then some [.s ((gi d 0).str.extract (gi d 1).str.size (gi d 0).str.size), .t true] else none)))
def s_stringslite_CutPrefix : FSpec := ⟨215, [.s (.str), .s (.str)], [], [], [.s (.str), .s (.bool)], [], [], [], F_stringslite_CutPrefix⟩
theorem b_stringslite_CutPrefix : BodyOK P t86 nL0 Tryz.f215 s_stringslite_CutPrefix := fun d => by kernel_rfl
theorem c_stringslite_CutPrefix : COK P s_stringslite_CutPrefix := bdC hm t86_ok Tryz.func215 (nLk _ _ _) b_stringslite_CutPrefix
def t87 : Tab := t86.addP s_stringslite_CutPrefix
theorem t87_ok : TabOK P t87 := t86_ok.aP c_stringslite_CutPrefix

def F_strings_CutPrefix (d : List G) : Option (List G) :=
 (callF (F_stringslite_CutPrefix [.s (gi d 0).str, .s (gi d 1).str]) fun g1 => some [.s (gi g1 0).str, .t (gi g1 1).bool])
def s_strings_CutPrefix : FSpec := ⟨154, [.s (.str), .s (.str)], [], [], [.s (.str), .s (.bool)], [], [], [], F_strings_CutPrefix⟩
theorem b_strings_CutPrefix : BodyOK P t87 nL0 Tryz.f154 s_strings_CutPrefix := fun d => by kernel_rfl
theorem c_strings_CutPrefix : COK P s_strings_CutPrefix := bdC hm t87_ok Tryz.func154 (nLk _ _ _) b_strings_CutPrefix
def t88 : Tab := t87.addP s_strings_CutPrefix
theorem t88_ok : TabOK P t88 := t87_ok.aP c_strings_CutPrefix

def F_strconv_Atoi (d : List G) : Option (List G) :=
 atoiF d
def s_strconv_Atoi : FSpec := ⟨156, [.s (.str)], [], [], [.s (.int .i64), .s (.nilI)], [], [], [], F_strconv_Atoi⟩
theorem c_strconv_Atoi : ∀ d r, F_strconv_Atoi d = some r → ACallX P 156 (s_strconv_Atoi.args0 d) (denH (s_strconv_Atoi.H0 d)) (s_strconv_Atoi.out r) (denH (s_strconv_Atoi.H1 r)) := fun d r h => atoi_call Tryz.laysAtoi d r h
def t89 : Tab := t88.addP s_strconv_Atoi
theorem t89_ok : TabOK P t89 := t88_ok.aP c_strconv_Atoi

def F_kit_Number (d : List G) : Option (List G) :=
 (callF (F_strings_CutPrefix [.s (gi d 0).str, .s (⟨#[45]⟩ : ByteArray)]) fun g1 => (bif ((gi g1 0).str.toList == (⟨#[]⟩ : ByteArray).toList) then some [.i 0, .t false] else (bif (ltI (gi d 1).int (((gi g1 0).str.size : Nat) : Int)) then some [.i 0, .t false] else (callF (F_strings_Trim [.s (gi g1 0).str, .s (⟨#[48, 49, 50, 51, 52, 53, 54, 55, 56, 57]⟩ : ByteArray)]) fun g2 => (bif (!((gi g2 0).str.toList == (⟨#[]⟩ : ByteArray).toList)) then some [.i 0, .t false] else (bif (ltI 0 (((gi g1 0).str.size : Nat) : Int)) then (bif ((((gi g1 0).str.data.toList.getD 0 0).toNat : Int) == 48) then (bif (ltI 1 (((gi g1 0).str.size : Nat) : Int)) then some [.i 0, .t false] else (bif (gi g1 1).bool then some [.i 0, .t false] else (callF (F_strconv_Atoi [.s (gi g1 0).str]) fun g3 => (bif (gi g1 1).bool then (bif (inI (0 - (gi g3 0).int)) then some [.i (0 - (gi g3 0).int), .t true] else none) else some [.i (gi g3 0).int, .t true])))) else (callF (F_strconv_Atoi [.s (gi g1 0).str]) fun g4 => (bif (gi g1 1).bool then (bif (inI (0 - (gi g4 0).int)) then some [.i (0 - (gi g4 0).int), .t true] else none) else some [.i (gi g4 0).int, .t true]))) else none))))))
def s_kit_Number : FSpec := ⟨95, [.s (.str), .s (.int .i64)], [], [], [.s (.int .i64), .s (.bool)], [], [], [], F_kit_Number⟩
theorem b_kit_Number : BodyOK P t89 nL0 Tryz.f95 s_kit_Number := fun d => by kernel_rfl
theorem c_kit_Number : COK P s_kit_Number := bdC hm t89_ok Tryz.func95 (nLk _ _ _) b_kit_Number
def t90 : Tab := t89.addP s_kit_Number
theorem t90_ok : TabOK P t90 := t89_ok.aP c_kit_Number

def st_kit_Numbers_3 (d : List G) : Option (Option Nat × List G) :=
 (bif (ltI (gi d 3).int (gi d 2).int) then (bif ((nnI (gi d 3).int) && (ltI (gi d 3).int (((gi d 1).rows.length : Nat) : Int))) then (callF (F_kit_Number [.s (gi ((gi d 1).rows.getD (((gi d 3).int).toNat) []) 0).str, .i 15]) fun g1 => (bif (!(gi g1 1).bool) then some (some 0, [.l [], .t false]) else (bif ((Nat.beq (gi d 0).rows.length (gi d 0).rows.length) && (decide (((gi d 0).rows.length + 1) ≤ 1048576))) then (bif (inI ((gi d 3).int + 1)) then (bif ((Nat.beq ((gi d 0).rows ++ ([[.i (gi g1 0).int]] : List (List G))).length ((gi d 0).rows ++ ([[.i (gi g1 0).int]] : List (List G))).length) && true) then some (none, [.l ((gi d 0).rows ++ ([[.i (gi g1 0).int]] : List (List G))), .l (gi d 1).rows, .i (gi d 2).int, .i ((gi d 3).int + 1)]) else none) else none) else none))) else none) else (bif ((Nat.beq (gi d 0).rows.length (gi d 0).rows.length) && true) then some (some 1, [.l (gi d 0).rows]) else none))
def l_kit_Numbers_3 : LSpec := ⟨3, [(4, [.int .i64])], ⟨28, [(4, .s (.vec 0 1)), (9, .s (.list [.str])), (10, .s (.int .i64)), (11, .s (.int .i64))], [.vec [.int .i64] 0]⟩, [.slot 4], [⟨.ret, ⟨28, [(2, .s (.list [.int .i64])), (3, .s (.bool))], []⟩, []⟩, ⟨.exit 0, ⟨28, [(4, .s (.vec 0 1))], [.vec [.int .i64] 0]⟩, [.slot 4]⟩], st_kit_Numbers_3⟩
theorem r_kit_Numbers_3 : RoundOK P t90 nL0 0 (loopAt Tryz.f44 3) l_kit_Numbers_3 := fun d => by kernel_rfl
def L_kit_Numbers_3 : LT := nL0.add 0 l_kit_Numbers_3
theorem L_kit_Numbers_3_ok : LpK P 0 L_kit_Numbers_3 (bodyOf Tryz.f44) := LpK.a hm t90_ok (nLk _ _ _) r_kit_Numbers_3
def F_kit_Numbers (d : List G) : Option (List G) :=
 (loopB true (LRun st_kit_Numbers_3 [.l [], .l (gi d 0).rows, .i (((gi d 0).rows.length : Nat) : Int), .i 0]) fun cg2 g2 => (bif Nat.beq cg2 0 then some [.l (gi g2 0).rows, .t (gi g2 1).bool] else (bif ((Nat.beq (gi g2 0).rows.length (gi g2 0).rows.length) && true) then some [.l (gi g2 0).rows, .t true] else none)))
def s_kit_Numbers : FSpec := ⟨44, [.s (.list [.str])], [], [], [.s (.list [.int .i64]), .s (.bool)], [], [], [], F_kit_Numbers⟩
theorem b_kit_Numbers : BodyOK P t90 L_kit_Numbers_3 Tryz.f44 s_kit_Numbers := fun d => by kernel_rfl
theorem c_kit_Numbers : COK P s_kit_Numbers := bdC hm t90_ok Tryz.func44 L_kit_Numbers_3_ok b_kit_Numbers
def t91 : Tab := t90.addP s_kit_Numbers
theorem t91_ok : TabOK P t91 := t90_ok.aP c_kit_Numbers

def F_kit_Undash (d : List G) : Option (List G) :=
 (bif ((gi d 0).str.toList == (⟨#[45]⟩ : ByteArray).toList) then some [.s (⟨#[]⟩ : ByteArray)] else some [.s (gi d 0).str])
def s_kit_Undash : FSpec := ⟨131, [.s (.str)], [], [], [.s (.str)], [], [], [], F_kit_Undash⟩
theorem b_kit_Undash : BodyOK P t91 nL0 Tryz.f131 s_kit_Undash := fun d => by kernel_rfl
theorem c_kit_Undash : COK P s_kit_Undash := bdC hm t91_ok Tryz.func131 (nLk _ _ _) b_kit_Undash
def t92 : Tab := t91.addP s_kit_Undash
theorem t92_ok : TabOK P t92 := t91_ok.aP c_kit_Undash

def F_log_ReadWords (d : List G) : Option (List G) :=
 (bif ((((gi d 0).rows.length : Nat) : Int) != 8) then some [.l [[.i 0, .i 0, .s (⟨#[]⟩ : ByteArray), .s (⟨#[]⟩ : ByteArray), .i 0, .i 0, .s (⟨#[]⟩ : ByteArray), .s (⟨#[]⟩ : ByteArray)]], .t false] else (callF (F_kit_ModeWords []) fun g1 => (bif (ltI 1 (((gi d 0).rows.length : Nat) : Int)) then (callF (F_sl_Index_string [.l (gi g1 0).rows, .s (gi ((gi d 0).rows.getD 1 []) 0).str]) fun g2 => (bif (ltI 0 (((gi d 0).rows.length : Nat) : Int)) then (bif (ltI 4 (((gi d 0).rows.length : Nat) : Int)) then (bif (ltI 6 (((gi d 0).rows.length : Nat) : Int)) then (callF (F_kit_Numbers [.l [[.s (gi ((gi d 0).rows.getD 0 []) 0).str], [.s (gi ((gi d 0).rows.getD 4 []) 0).str], [.s (gi ((gi d 0).rows.getD 6 []) 0).str]]]) fun g3 => (bif (!(gi g3 1).bool) then some [.l [[.i 0, .i 0, .s (⟨#[]⟩ : ByteArray), .s (⟨#[]⟩ : ByteArray), .i 0, .i 0, .s (⟨#[]⟩ : ByteArray), .s (⟨#[]⟩ : ByteArray)]], .t false] else (bif (ltI (gi g2 0).int 1) then some [.l [[.i 0, .i 0, .s (⟨#[]⟩ : ByteArray), .s (⟨#[]⟩ : ByteArray), .i 0, .i 0, .s (⟨#[]⟩ : ByteArray), .s (⟨#[]⟩ : ByteArray)]], .t false] else (bif (ltI 0 (((gi g3 0).rows.length : Nat) : Int)) then (bif (ltI 2 (((gi d 0).rows.length : Nat) : Int)) then (bif (ltI 3 (((gi d 0).rows.length : Nat) : Int)) then (bif (ltI 1 (((gi g3 0).rows.length : Nat) : Int)) then (bif (ltI 5 (((gi d 0).rows.length : Nat) : Int)) then (callF (F_kit_Undash [.s (gi ((gi d 0).rows.getD 5 []) 0).str]) fun g4 => (bif (ltI 2 (((gi g3 0).rows.length : Nat) : Int)) then (bif (ltI 7 (((gi d 0).rows.length : Nat) : Int)) then (callF (F_kit_Undash [.s (gi ((gi d 0).rows.getD 7 []) 0).str]) fun g5 => some [.l [[.i (gi ((gi g3 0).rows.getD 0 []) 0).int, .i (gi g2 0).int, .s (gi ((gi d 0).rows.getD 2 []) 0).str, .s (gi ((gi d 0).rows.getD 3 []) 0).str, .i (gi ((gi g3 0).rows.getD 1 []) 0).int, .i (gi ((gi g3 0).rows.getD 2 []) 0).int, .s (gi g4 0).str, .s (gi g5 0).str]], .t true]) else none) else none)) else none) else none) else none) else none) else none)))) else none) else none) else none)) else none)))
def s_log_ReadWords : FSpec := ⟨69, [.s (.list [.str])], [], [], [.s (.row KCt), .s (.bool)], [], [], [], F_log_ReadWords⟩
theorem b_log_ReadWords : BodyOK P t92 nL0 Tryz.f69 s_log_ReadWords := fun d => by kernel_rfl
theorem c_log_ReadWords : COK P s_log_ReadWords := bdC hm t92_ok Tryz.func69 (nLk _ _ _) b_log_ReadWords
def t93 : Tab := t92.addP s_log_ReadWords
theorem t93_ok : TabOK P t93 := t92_ok.aP c_log_ReadWords

def st_log_Read_6 (d : List G) : Option (Option Nat × List G) :=
 (bif (ltI (gi d 5).int (gi d 4).int) then (bif ((nnI (gi d 5).int) && (ltI (gi d 5).int (((gi d 3).rows.length : Nat) : Int))) then (callF (F_kit_Words [.s (gi ((gi d 3).rows.getD (((gi d 5).int).toNat) []) 0).str]) fun g2 => (bif (!(gi g2 1).bool) then some (some 0, [.l [], .i (gi d 5).int, .i 9]) else (bif (!(gi d 2).bool) then (bif (inI ((((gi d 1).rows.length : Nat) : Int) - 1)) then (bif ((gi d 5).int == ((((gi d 1).rows.length : Nat) : Int) - 1)) then some (some 0, [.l [], .i (gi d 5).int, .i 9]) else (callF (F_log_ReadWords [.l (gi g2 0).rows]) fun g3 => (bif (!(gi g3 1).bool) then some (some 0, [.l [], .i (gi d 5).int, .i 9]) else (bif ((Nat.beq (gi d 0).rows.length (gi d 0).rows.length) && (decide (((gi d 0).rows.length + 1) ≤ 1048576))) then (bif (inI ((gi d 5).int + 1)) then (bif ((Nat.beq ((gi d 0).rows ++ ([(gEta KCt (gi g3 0).row)] : List (List G))).length ((gi d 0).rows ++ ([(gEta KCt (gi g3 0).row)] : List (List G))).length) && true) then some (none, [.l ((gi d 0).rows ++ ([(gEta KCt (gi g3 0).row)] : List (List G))), .l (gi d 1).rows, .t (gi d 2).bool, .l (gi d 3).rows, .i (gi d 4).int, .i ((gi d 5).int + 1)]) else none) else none) else none)))) else none) else (callF (F_log_ReadWords [.l (gi g2 0).rows]) fun g4 => (bif (!(gi g4 1).bool) then some (some 0, [.l [], .i (gi d 5).int, .i 9]) else (bif ((Nat.beq (gi d 0).rows.length (gi d 0).rows.length) && (decide (((gi d 0).rows.length + 1) ≤ 1048576))) then (bif (inI ((gi d 5).int + 1)) then (bif ((Nat.beq ((gi d 0).rows ++ ([(gEta KCt (gi g4 0).row)] : List (List G))).length ((gi d 0).rows ++ ([(gEta KCt (gi g4 0).row)] : List (List G))).length) && true) then some (none, [.l ((gi d 0).rows ++ ([(gEta KCt (gi g4 0).row)] : List (List G))), .l (gi d 1).rows, .t (gi d 2).bool, .l (gi d 3).rows, .i (gi d 4).int, .i ((gi d 5).int + 1)]) else none) else none) else none)))))) else none) else (bif ((Nat.beq (gi d 0).rows.length (gi d 0).rows.length) && true) then some (some 1, [.l (gi d 0).rows]) else none))
def l_log_Read_6 : LSpec := ⟨6, [(7, KCt)], ⟨67, [(5, .s (.list [.str])), (6, .s (.bool)), (7, .s (.vec 0 8)), (22, .s (.list [.str])), (23, .s (.int .i64)), (24, .s (.int .i64))], [.vec KCt 0]⟩, [.slot 7], [⟨.ret, ⟨67, [(2, .s (.list KCt)), (3, .s (.int .i64)), (4, .s (.int .i64))], []⟩, []⟩, ⟨.exit 0, ⟨67, [(7, .s (.vec 0 8))], [.vec KCt 0]⟩, [.slot 7]⟩], st_log_Read_6⟩
theorem r_log_Read_6 : RoundOK P (t93.lessPf [67]) nL0 0 (loopAt Tryz.f27 6) l_log_Read_6 := fun d => by kernel_rfl
def L_log_Read_6 : LT := nL0.add 0 l_log_Read_6
theorem L_log_Read_6_ok : LpK P 0 L_log_Read_6 (bodyOf Tryz.f27) := LpK.add hm (t93_ok.lessPf [67]) (by kernel_rfl) (nLk _ _ _) r_log_Read_6
def F_log_Read (d : List G) : Option (List G) :=
 (bif (ltI 200000 (((gi d 0).str.size : Nat) : Int)) then some [.l [], .i 0, .i 2] else (callF (F_kit_Lines [.s (gi d 0).str]) fun g1 => (loopB true (LRun st_log_Read_6 [.l [], .l (gi g1 0).rows, .t (gi g1 1).bool, .l (gi g1 0).rows, .i (((gi g1 0).rows.length : Nat) : Int), .i 0]) fun cg5 g5 => (bif Nat.beq cg5 0 then some [.l (gi g5 0).rows, .i (gi g5 1).int, .i (gi g5 2).int] else (callB (((Nat.beq (gi g5 0).rows.length (gi g5 0).rows.length) && true) && (F_log_CheckLog [.l (gi g5 0).rows]).isSome) (F_log_CheckLog [.l (gi g5 0).rows]) fun g6 => (bif ((gi g6 0).int != 0) then some [.l [], .i 0, .i (gi g6 0).int] else (bif ((Nat.beq (gi g5 0).rows.length (gi g5 0).rows.length) && true) then some [.l (gi g5 0).rows, .i 0, .i 0] else none)))))))
def s_log_Read : FSpec := ⟨27, [.s (.str)], [], [], [.s (.list KCt), .s (.int .i64), .s (.int .i64)], [], [], [], F_log_Read⟩
theorem b_log_Read : BodyOK P (t93.lessPf [67]) L_log_Read_6 Tryz.f27 s_log_Read := fun d => by kernel_rfl
theorem c_log_Read : COK P s_log_Read := bodyC hm (t93_ok.lessPf [67]) Tryz.func27 (by kernel_rfl) L_log_Read_6_ok b_log_Read (by kernel_rfl)
def t94 : Tab := t93.addP s_log_Read
theorem t94_ok : TabOK P t94 := t93_ok.aP c_log_Read

def st_k2_errs_2 (d : List G) : Option (Option Nat × List G) :=
 (bif (ltI (gi d 2).int (gi d 1).int) then (bif ((nnI (gi d 2).int) && (ltI (gi d 2).int (((gi d 0).rows.length : Nat) : Int))) then (bif ((gi ((gi d 0).rows.getD (((gi d 2).int).toNat) []) 0).int != 0) then some (some 0, [.i (gi ((gi d 0).rows.getD (((gi d 2).int).toNat) []) 0).int]) else (bif (inI ((gi d 2).int + 1)) then some (none, [.l (gi d 0).rows, .i (gi d 1).int, .i ((gi d 2).int + 1)]) else none)) else none) else some (some 1, []))
def l_k2_errs_2 : LSpec := ⟨2, [], ⟨15, [(5, .s (.list [.int .i64])), (6, .s (.int .i64)), (7, .s (.int .i64))], []⟩, [], [⟨.ret, ⟨15, [(2, .s (.int .i64))], []⟩, []⟩, ⟨.exit 0, ⟨15, [], []⟩, []⟩], st_k2_errs_2⟩
theorem r_k2_errs_2 : RoundOK P t94 nL0 0 (loopAt Tryz.f12 2) l_k2_errs_2 := fun d => by kernel_rfl
def L_k2_errs_2 : LT := nL0.add 0 l_k2_errs_2
theorem L_k2_errs_2_ok : LpK P 0 L_k2_errs_2 (bodyOf Tryz.f12) := LpK.a hm t94_ok (nLk _ _ _) r_k2_errs_2
def F_k2_errs (d : List G) : Option (List G) :=
 (loopB true (LRun st_k2_errs_2 [.l (gi d 0).rows, .i (((gi d 0).rows.length : Nat) : Int), .i 0]) fun cg1 g1 => (bif Nat.beq cg1 0 then some [.i (gi g1 0).int] else some [.i 0]))
def s_k2_errs : FSpec := ⟨12, [.s (.list [.int .i64])], [], [], [.s (.int .i64)], [], [], [], F_k2_errs⟩
theorem b_k2_errs : BodyOK P t94 L_k2_errs_2 Tryz.f12 s_k2_errs := fun d => by kernel_rfl
theorem c_k2_errs : COK P s_k2_errs := bdC hm t94_ok Tryz.func12 L_k2_errs_2_ok b_k2_errs
def t95 : Tab := t94.addP s_k2_errs
theorem t95_ok : TabOK P t95 := t94_ok.aP c_k2_errs

def st_sl_Equal_Contact_4 (d : List G) : Option (Option Nat × List G) :=
 (bif (ltI (gi d 3).int (gi d 2).int) then (bif ((nnI (gi d 3).int) && (ltI (gi d 3).int (((gi d 0).rows.length : Nat) : Int))) then (bif ((nnI (gi d 3).int) && (ltI (gi d 3).int (((gi d 1).rows.length : Nat) : Int))) then (bif (!(rowEq KCt (gEta KCt ((gi d 0).rows.getD (((gi d 3).int).toNat) [])) (gEta KCt ((gi d 1).rows.getD (((gi d 3).int).toNat) [])))) then some (some 0, [.t false]) else (bif (inI ((gi d 3).int + 1)) then some (none, [.l (gi d 0).rows, .l (gi d 1).rows, .i (gi d 2).int, .i ((gi d 3).int + 1)]) else none)) else none) else none) else some (some 1, []))
def l_sl_Equal_Contact_4 : LSpec := ⟨4, [], ⟨26, [(0, .s (.list KCt)), (1, .s (.list KCt)), (12, .s (.int .i64)), (13, .s (.int .i64))], []⟩, [], [⟨.ret, ⟨26, [(4, .s (.bool))], []⟩, []⟩, ⟨.exit 0, ⟨26, [], []⟩, []⟩], st_sl_Equal_Contact_4⟩
theorem r_sl_Equal_Contact_4 : RoundOK P t95 nL0 0 (loopAt Tryz.f28 4) l_sl_Equal_Contact_4 := fun d => by kernel_rfl
def L_sl_Equal_Contact_4 : LT := nL0.add 0 l_sl_Equal_Contact_4
theorem L_sl_Equal_Contact_4_ok : LpK P 0 L_sl_Equal_Contact_4 (bodyOf Tryz.f28) := LpK.a hm t95_ok (nLk _ _ _) r_sl_Equal_Contact_4
def F_sl_Equal_Contact (d : List G) : Option (List G) :=
 (bif ((((gi d 0).rows.length : Nat) : Int) != (((gi d 1).rows.length : Nat) : Int)) then some [.t false] else (loopB true (LRun st_sl_Equal_Contact_4 [.l (gi d 0).rows, .l (gi d 1).rows, .i (((gi d 0).rows.length : Nat) : Int), .i 0]) fun cg1 g1 => (bif Nat.beq cg1 0 then some [.t (gi g1 0).bool] else some [.t true])))
def s_sl_Equal_Contact : FSpec := ⟨28, [.s (.list KCt), .s (.list KCt)], [], [], [.s (.bool)], [], [], [], F_sl_Equal_Contact⟩
theorem b_sl_Equal_Contact : BodyOK P t95 L_sl_Equal_Contact_4 Tryz.f28 s_sl_Equal_Contact := fun d => by kernel_rfl
theorem c_sl_Equal_Contact : COK P s_sl_Equal_Contact := bdC hm t95_ok Tryz.func28 L_sl_Equal_Contact_4_ok b_sl_Equal_Contact
def t96 : Tab := t95.addP s_sl_Equal_Contact
theorem t96_ok : TabOK P t96 := t95_ok.aP c_sl_Equal_Contact

attribute [instance] drF
theorem w96_ok : TabOK P t96 := t96_ok.anyDr
def F_strings_Join (d : List G) : Option (List G) :=
 joinF d
def s_strings_Join : FSpec := ⟨91, [.s (.list [.str]), .s (.str)], [], [], [.s (.str)], [], [], [], F_strings_Join⟩
theorem c_strings_Join : ∀ d r, F_strings_Join d = some r → ACallX P 91 (s_strings_Join.args0 d) (denH (s_strings_Join.H0 d)) (s_strings_Join.out r) (denH (s_strings_Join.H1 r)) := fun d r h => join_call rfl Tryz.laysJoin Tryz.laysJoin_x d r h
def t97 : Tab := t96.addP s_strings_Join
theorem t97_ok : TabOK P t97 := w96_ok.aP c_strings_Join

def F_kit_Join (d : List G) : Option (List G) :=
 (callF (F_strings_Join [.l (gi d 0).rows, .s (⟨#[32]⟩ : ByteArray)]) fun g1 => (bif (Nat.ble ((gi g1 0).str.size + 1) 9223372036854775807) then some [.s ((gi g1 0).str ++ (⟨#[10]⟩ : ByteArray))] else none))
def s_kit_Join : FSpec := ⟨38, [.s (.list [.str])], [], [], [.s (.str)], [], [], [], F_kit_Join⟩
theorem b_kit_Join : BodyOK P t97 nL0 Tryz.f38 s_kit_Join := fun d => by kernel_rfl
theorem c_kit_Join : COK P s_kit_Join := bdC hm t97_ok Tryz.func38 (nLk _ _ _) b_kit_Join
def t98 : Tab := t97.addP s_kit_Join
theorem t98_ok : TabOK P t98 := t97_ok.aP c_kit_Join

def F_log_Line (d : List G) : Option (List G) :=
 (callF (F_strconv_Itoa [.i (gi (gi d 0).row 0).int]) fun g1 => (callF (F_kit_ModeWords []) fun g2 => (bif ((nnI (gi (gi d 0).row 1).int) && (ltI (gi (gi d 0).row 1).int (((gi g2 0).rows.length : Nat) : Int))) then (callF (F_strconv_Itoa [.i (gi (gi d 0).row 4).int]) fun g3 => (callF (F_kit_Dash [.s (gi (gi d 0).row 6).str]) fun g4 => (callF (F_strconv_Itoa [.i (gi (gi d 0).row 5).int]) fun g5 => (callF (F_kit_Dash [.s (gi (gi d 0).row 7).str]) fun g6 => (callF (F_kit_Join [.l [[.s (gi g1 0).str], [.s (gi ((gi g2 0).rows.getD (((gi (gi d 0).row 1).int).toNat) []) 0).str], [.s (gi (gi d 0).row 2).str], [.s (gi (gi d 0).row 3).str], [.s (gi g3 0).str], [.s (gi g4 0).str], [.s (gi g5 0).str], [.s (gi g6 0).str]]]) fun g7 => some [.s (gi g7 0).str]))))) else none)))
def s_log_Line : FSpec := ⟨68, [.s (.row KCt)], [], [], [.s (.str)], [], [], [], F_log_Line⟩
theorem b_log_Line : BodyOK P t98 nL0 Tryz.f68 s_log_Line := fun d => by kernel_rfl
theorem c_log_Line : COK P s_log_Line := bdC hm t98_ok Tryz.func68 (nLk _ _ _) b_log_Line
def t99 : Tab := t98.addP s_log_Line
theorem t99_ok : TabOK P t99 := t98_ok.aP c_log_Line

def F_strings_Builder_WriteString (d : List G) : Option (List G) :=
 bldWF d
def s_strings_Builder_WriteString : FSpec := ⟨37, [.s (.ptr 0 0), .s (.str)], [.bld 0 80 5], [.slot 0], [.s (.int .i64), .s (.any)], [.bld 0 80 5], [.fix 0], [], F_strings_Builder_WriteString⟩
theorem c_strings_Builder_WriteString : ∀ d r, F_strings_Builder_WriteString d = some r → ACallX P 37 (s_strings_Builder_WriteString.args0 d) (denH (s_strings_Builder_WriteString.H0 d)) (s_strings_Builder_WriteString.out r) (denH (s_strings_Builder_WriteString.H1 r)) := fun d r h => bldW_call Tryz.laysBldW Tryz.laysBldW_x rfl d r h
def t100 : Tab := t99.addW s_strings_Builder_WriteString
theorem t100_ok : TabOK P t100 := t99_ok.aW c_strings_Builder_WriteString

def F_strings_Builder_Len (d : List G) : Option (List G) :=
 bldLF d
def s_strings_Builder_Len : FSpec := ⟨40, [.s (.ptr 0 0)], [.bld 0 80 5], [.slot 0], [.s (.int .i64)], [.bld 0 80 5], [.fix 0], [], F_strings_Builder_Len⟩
theorem c_strings_Builder_Len : ∀ d r, F_strings_Builder_Len d = some r → ACallX P 40 (s_strings_Builder_Len.args0 d) (denH (s_strings_Builder_Len.H0 d)) (s_strings_Builder_Len.out r) (denH (s_strings_Builder_Len.H1 r)) := fun d r h => bldL_call Tryz.laysBldL rfl d r h
def t101 : Tab := t100.addW s_strings_Builder_Len
theorem t101_ok : TabOK P t101 := t100_ok.aW c_strings_Builder_Len

def F_strings_Builder_String (d : List G) : Option (List G) :=
 bldSF d
def s_strings_Builder_String : FSpec := ⟨41, [.s (.ptr 0 0)], [.bld 0 80 5], [.slot 0], [.s (.str)], [.bld 0 80 5], [.fix 0], [], F_strings_Builder_String⟩
theorem c_strings_Builder_String : ∀ d r, F_strings_Builder_String d = some r → ACallX P 41 (s_strings_Builder_String.args0 d) (denH (s_strings_Builder_String.H0 d)) (s_strings_Builder_String.out r) (denH (s_strings_Builder_String.H1 r)) := fun d r h => bldS_call Tryz.laysBldS Tryz.laysBldS_x rfl d r h
def t102 : Tab := t101.addW s_strings_Builder_String
theorem t102_ok : TabOK P t102 := t101_ok.aW c_strings_Builder_String

def st_log_Text_6 (d : List G) : Option (Option Nat × List G) :=
 (bif (ltI (gi d 3).int (gi d 2).int) then (bif ((nnI (gi d 3).int) && (ltI (gi d 3).int (((gi d 1).rows.length : Nat) : Int))) then (callF (F_log_Line [.l [(gEta KCt ((gi d 1).rows.getD (((gi d 3).int).toNat) []))]]) fun g2 => (callF (F_strings_Builder_WriteString [.s (gi d 0).str, .s (gi g2 0).str]) fun g3 => (bif (inI ((gi d 3).int + 1)) then some (none, [.s (gi g3 0).str, .l (gi d 1).rows, .i (gi d 2).int, .i ((gi d 3).int + 1)]) else none))) else none) else some (some 0, [.s (gi d 0).str]))
def l_log_Text_6 : LSpec := ⟨6, [], ⟨26, [(5, .s (.ptr 0 0)), (13, .s (.list KCt)), (14, .s (.int .i64)), (15, .s (.int .i64))], [.bld 0 80 5]⟩, [.slot 5], [⟨.exit 0, ⟨26, [(5, .s (.ptr 0 0))], [.bld 0 80 5]⟩, [.slot 5]⟩], st_log_Text_6⟩
theorem r_log_Text_6 : RoundOK P t102 nL0 0 (loopAt Tryz.f26 6) l_log_Text_6 := fun d => by kernel_rfl
def L_log_Text_6 : LT := nL0.add 0 l_log_Text_6
theorem L_log_Text_6_ok : LpK P 0 L_log_Text_6 (bodyOf Tryz.f26) := LpK.a hm t102_ok (nLk _ _ _) r_log_Text_6
def F_log_Text (d : List G) : Option (List G) :=
 (callF (F_log_CheckLog [.l (gi d 0).rows]) fun g1 => (bif ((gi g1 0).int != 0) then some [.s (⟨#[]⟩ : ByteArray), .i (gi g1 0).int] else (loopB true (LRun st_log_Text_6 [.s (⟨#[]⟩ : ByteArray), .l (gi d 0).rows, .i (((gi d 0).rows.length : Nat) : Int), .i 0]) fun cg4 g4 => (callF (F_strings_Builder_Len [.s (gi g4 0).str]) fun g5 => (bif (ltI 200000 (gi g5 1).int) then some [.s (⟨#[]⟩ : ByteArray), .i 2] else (callF (F_strings_Builder_String [.s (gi g5 0).str]) fun g6 => some [.s (gi g6 1).str, .i 0]))))))
def s_log_Text : FSpec := ⟨26, [.s (.list KCt)], [], [], [.s (.str), .s (.int .i64)], [], [], [], F_log_Text⟩
theorem b_log_Text : BodyOK P t102 L_log_Text_6 Tryz.f26 s_log_Text := fun d => by kernel_rfl
theorem c_log_Text : COK P s_log_Text := bdC hm t102_ok Tryz.func26 L_log_Text_6_ok b_log_Text
def t103 : Tab := t102.addP s_log_Text
theorem t103_ok : TabOK P t103 := t102_ok.aP c_log_Text

def F_k2_LogsAreOne (d : List G) : Option (List G) :=
 (callF (F_mk_Range [.l (gi d 0).rows, .i 0, .i 0, .i 12]) fun g1 => (callF (F_mk_RightContacts [.l (gi g1 0).rows, .i (gi g1 1).int, .i (gi g1 2).int]) fun g2 => (callF (F_k2_parts_Contact [.l (gi g2 0).rows, .i (gi g2 1).int, .l (gi g2 2).rows]) fun g3 => (callF (F_log_Merge [.l (gi g3 2).rows, .l (gi g3 3).rows]) fun g4 => (callF (F_log_Merge [.l (gi g3 3).rows, .l (gi g3 2).rows]) fun g5 => (callF (F_log_Lacks [.l (gi g2 2).rows, .l (gi g3 2).rows]) fun g6 => (callF (F_log_Text [.l (gi g2 2).rows]) fun g7 => (callF (F_log_Read [.s (gi g7 0).str]) fun g8 => (callF (F_log_Lacks [.l (gi g3 2).rows, .l (gi g3 3).rows]) fun g9 => (callF (F_k2_errs [.l [[.i (gi g4 1).int], [.i (gi g5 1).int], [.i (gi g6 1).int], [.i (gi g7 1).int], [.i (gi g8 2).int], [.i (gi g9 1).int]]]) fun g10 => (bif ((gi g10 0).int == 0) then (callF (F_sl_Equal_Contact [.l (gi g4 0).rows, .l (gi g2 2).rows]) fun g11 => (bif (gi g11 0).bool then (callF (F_sl_Equal_Contact [.l (gi g5 0).rows, .l (gi g2 2).rows]) fun g12 => (bif (gi g12 0).bool then (bif ((((gi g6 0).rows.length : Nat) : Int) == 0) then (callF (F_sl_Equal_Contact [.l (gi g8 0).rows, .l (gi g2 2).rows]) fun g13 => (bif (gi g13 0).bool then (bif (inI ((((gi g3 2).rows.length : Nat) : Int) + (((gi g9 0).rows.length : Nat) : Int))) then (bif (((((gi g3 2).rows.length : Nat) : Int) + (((gi g9 0).rows.length : Nat) : Int)) == (((gi g2 2).rows.length : Nat) : Int)) then (callF (F_k2_ready []) fun g14 => some [.t (gi g14 0).bool]) else some [.t false]) else none) else some [.t false])) else some [.t false]) else some [.t false])) else some [.t false])) else some [.t false])))))))))))
def s_k2_LogsAreOne : FSpec := ⟨5, [.s (.list [.int .i64])], [], [], [.s (.bool)], [], [], [], F_k2_LogsAreOne⟩
theorem b_k2_LogsAreOne : BodyOK P t103 nL0 Tryz.f5 s_k2_LogsAreOne := fun d => by kernel_rfl
theorem c_k2_LogsAreOne : COK P s_k2_LogsAreOne := bdC hm t103_ok Tryz.func5 (nLk _ _ _) b_k2_LogsAreOne
def t104 : Tab := t103.addP s_k2_LogsAreOne
theorem t104_ok : TabOK P t104 := t103_ok.aP c_k2_LogsAreOne

end
end Go.Proofs.SYtchcbaapbinpbaaGreatDoor
