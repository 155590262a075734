/-
 What is proved here: functions of the program as functions on data. No condition.
-/
import Derived.Test.YtmohppjkkpaaoaaGreatDoorML2
set_option linter.all false
namespace Go.Proofs.SYtmohppjkkpaaoaaGreatDoor
open Go Go.AL Go.Proofs
noncomputable section
def F_stringslite_HasSuffix (d : List G) : Option (List G) :=
 (bif (leI (((gi d 1).str.size : Nat) : Int) (((gi d 0).str.size : Nat) : Int)) then (bif (inI ((((gi d 0).str.size : Nat) : Int) - (((gi d 1).str.size : Nat) : Int))) then (bif ((nnI ((((gi d 0).str.size : Nat) : Int) - (((gi d 1).str.size : Nat) : Int))) && (leI ((((gi d 0).str.size : Nat) : Int) - (((gi d 1).str.size : Nat) : Int)) (((gi d 0).str.size : Nat) : Int))) then some [.t (((gi d 0).str.extract ((((gi d 0).str.size : Nat) : Int) - (((gi d 1).str.size : Nat) : Int)).toNat (gi d 0).str.size).toList == (gi d 1).str.toList)] else none) else none) else some [.t false])
def s_stringslite_HasSuffix : FSpec := ⟨189, [.s (.str), .s (.str)], [], [], [.s (.bool)], [], [], [], F_stringslite_HasSuffix⟩
theorem b_stringslite_HasSuffix : BodyOK P t66 nL0 Tryz.f189 s_stringslite_HasSuffix := fun d => by kernel_rfl
theorem c_stringslite_HasSuffix : COK P s_stringslite_HasSuffix := bdC hm t66_ok Tryz.func189 (nLk _ _ _) b_stringslite_HasSuffix
def t67 : Tab := t66.addP s_stringslite_HasSuffix
theorem t67_ok : TabOK P t67 := t66_ok.aP c_stringslite_HasSuffix

def F_stringslite_CutSuffix (d : List G) : Option (List G) :=
 (callF (F_stringslite_HasSuffix [.s (gi d 0).str, .s (gi d 1).str]) fun g1 => (bif (!(gi g1 0).bool) then some [.s (gi d 0).str, .t false] else (bif (inI ((((gi d 0).str.size : Nat) : Int) - (((gi d 1).str.size : Nat) : Int))) then (bif ((nnI ((((gi d 0).str.size : Nat) : Int) - (((gi d 1).str.size : Nat) : Int))) && (leI ((((gi d 0).str.size : Nat) : Int) - (((gi d 1).str.size : Nat) : Int)) (((gi d 0).str.size : Nat) : Int))) then some [.s ((gi d 0).str.extract 0 ((((gi d 0).str.size : Nat) : Int) - (((gi d 1).str.size : Nat) : Int)).toNat), .t true] else none) else none)))
def s_stringslite_CutSuffix : FSpec := ⟨147, [.s (.str), .s (.str)], [], [], [.s (.str), .s (.bool)], [], [], [], F_stringslite_CutSuffix⟩
theorem b_stringslite_CutSuffix : BodyOK P t67 nL0 Tryz.f147 s_stringslite_CutSuffix := fun d => by kernel_rfl
theorem c_stringslite_CutSuffix : COK P s_stringslite_CutSuffix := bdC hm t67_ok Tryz.func147 (nLk _ _ _) b_stringslite_CutSuffix
def t68 : Tab := t67.addP s_stringslite_CutSuffix
theorem t68_ok : TabOK P t68 := t67_ok.aP c_stringslite_CutSuffix

def F_strings_CutSuffix (d : List G) : Option (List G) :=
 (callF (F_stringslite_CutSuffix [.s (gi d 0).str, .s (gi d 1).str]) fun g1 => some [.s (gi g1 0).str, .t (gi g1 1).bool])
def s_strings_CutSuffix : FSpec := ⟨105, [.s (.str), .s (.str)], [], [], [.s (.str), .s (.bool)], [], [], [], F_strings_CutSuffix⟩
theorem b_strings_CutSuffix : BodyOK P t68 nL0 Tryz.f105 s_strings_CutSuffix := fun d => by kernel_rfl
theorem c_strings_CutSuffix : COK P s_strings_CutSuffix := bdC hm t68_ok Tryz.func105 (nLk _ _ _) b_strings_CutSuffix
def t69 : Tab := t68.addP s_strings_CutSuffix
theorem t69_ok : TabOK P t69 := t68_ok.aP c_strings_CutSuffix

def F_strings_genSplit (d : List G) : Option (List G) :=
 splitF d
def s_strings_genSplit : FSpec := ⟨148, [.s (.str), .s (.str), .s (.int .i64), .s (.int .i64)], [], [], [.s (.list [.str])], [], [], [], F_strings_genSplit⟩
theorem c_strings_genSplit : ∀ d r, F_strings_genSplit d = some r → ACallX P 148 (s_strings_genSplit.args0 d) (denH (s_strings_genSplit.H0 d)) (s_strings_genSplit.out r) (denH (s_strings_genSplit.H1 r)) := fun d r h => split_call Tryz.laysSplit (by kernel_rfl) d r h
def t70 : Tab := t69.addP s_strings_genSplit
theorem t70_ok : TabOK P t70 := t69_ok.aP c_strings_genSplit

def F_strings_Split (d : List G) : Option (List G) :=
 (callF (F_strings_genSplit [.s (gi d 0).str, .s (gi d 1).str, .i 0, .i (-1)]) fun g1 => some [.l (gi g1 0).rows])
def s_strings_Split : FSpec := ⟨106, [.s (.str), .s (.str)], [], [], [.s (.list [.str])], [], [], [], F_strings_Split⟩
theorem b_strings_Split : BodyOK P t70 nL0 Tryz.f106 s_strings_Split := fun d => by kernel_rfl
theorem c_strings_Split : COK P s_strings_Split := bdC hm t70_ok Tryz.func106 (nLk _ _ _) b_strings_Split
def t71 : Tab := t70.addP s_strings_Split
theorem t71_ok : TabOK P t71 := t70_ok.aP c_strings_Split

def F_kit_Lines (d : List G) : Option (List G) :=
 (bif ((gi d 0).str.toList == (⟨#[]⟩ : ByteArray).toList) then some [.l [], .t true] else (callF (F_strings_CutSuffix [.s (gi d 0).str, .s (⟨#[10]⟩ : ByteArray)]) fun g1 => (callF (F_strings_Split [.s (gi g1 0).str, .s (⟨#[10]⟩ : ByteArray)]) fun g2 => some [.l (gi g2 0).rows, .t (gi g1 1).bool])))
def s_kit_Lines : FSpec := ⟨55, [.s (.str)], [], [], [.s (.list [.str]), .s (.bool)], [], [], [], F_kit_Lines⟩
theorem b_kit_Lines : BodyOK P t71 nL0 Tryz.f55 s_kit_Lines := fun d => by kernel_rfl
theorem c_kit_Lines : COK P s_kit_Lines := bdC hm t71_ok Tryz.func55 (nLk _ _ _) b_kit_Lines
def t72 : Tab := t71.addP s_kit_Lines
theorem t72_ok : TabOK P t72 := t71_ok.aP c_kit_Lines

def st_kit_Words_3 (d : List G) : Option (Option Nat × List G) :=
 (bif (ltI (gi d 3).int (gi d 2).int) then (bif ((nnI (gi d 3).int) && (ltI (gi d 3).int (((gi d 1).rows.length : Nat) : Int))) then (bif ((gi ((gi d 1).rows.getD (((gi d 3).int).toNat) []) 0).str.toList == (⟨#[]⟩ : ByteArray).toList) then some (some 0, [.l [], .t false]) else (bif (inI ((gi d 3).int + 1)) then some (none, [.l (gi d 0).rows, .l (gi d 1).rows, .i (gi d 2).int, .i ((gi d 3).int + 1)]) else none)) else none) else some (some 1, [.l (gi d 0).rows]))
def l_kit_Words_3 : LSpec := ⟨3, [], ⟨19, [(4, .s (.list [.str])), (9, .s (.list [.str])), (10, .s (.int .i64)), (11, .s (.int .i64))], []⟩, [], [⟨.ret, ⟨19, [(2, .s (.list [.str])), (3, .s (.bool))], []⟩, []⟩, ⟨.exit 0, ⟨19, [(4, .s (.list [.str]))], []⟩, []⟩], st_kit_Words_3⟩
theorem r_kit_Words_3 : RoundOK P t72 nL0 0 (loopAt Tryz.f56 3) l_kit_Words_3 := fun d => by kernel_rfl
def L_kit_Words_3 : LT := nL0.add 0 l_kit_Words_3
theorem L_kit_Words_3_ok : LpK P 0 L_kit_Words_3 (bodyOf Tryz.f56) := LpK.a hm t72_ok (nLk _ _ _) r_kit_Words_3
def F_kit_Words (d : List G) : Option (List G) :=
 (callF (F_strings_Split [.s (gi d 0).str, .s (⟨#[32]⟩ : ByteArray)]) fun g1 => (loopB true (LRun st_kit_Words_3 [.l (gi g1 0).rows, .l (gi g1 0).rows, .i (((gi g1 0).rows.length : Nat) : Int), .i 0]) fun cg2 g2 => (bif Nat.beq cg2 0 then some [.l (gi g2 0).rows, .t (gi g2 1).bool] else some [.l (gi g2 0).rows, .t true])))
def s_kit_Words : FSpec := ⟨56, [.s (.str)], [], [], [.s (.list [.str]), .s (.bool)], [], [], [], F_kit_Words⟩
theorem b_kit_Words : BodyOK P t72 L_kit_Words_3 Tryz.f56 s_kit_Words := fun d => by kernel_rfl
theorem c_kit_Words : COK P s_kit_Words := bdC hm t72_ok Tryz.func56 L_kit_Words_3_ok b_kit_Words
def t73 : Tab := t72.addP s_kit_Words
theorem t73_ok : TabOK P t73 := t72_ok.aP c_kit_Words

def st_sl_Index_string_2 (d : List G) : Option (Option Nat × List G) :=
 (bif (ltI (gi d 3).int (gi d 2).int) then (bif ((nnI (gi d 3).int) && (ltI (gi d 3).int (((gi d 0).rows.length : Nat) : Int))) then (bif ((gi d 1).str.toList == (gi ((gi d 0).rows.getD (((gi d 3).int).toNat) []) 0).str.toList) then some (some 0, [.i (gi d 3).int]) else (bif (inI ((gi d 3).int + 1)) then some (none, [.l (gi d 0).rows, .s (gi d 1).str, .i (gi d 2).int, .i ((gi d 3).int + 1)]) else none)) else none) else some (some 1, []))
def l_sl_Index_string_2 : LSpec := ⟨2, [], ⟨19, [(0, .s (.list [.str])), (1, .s (.str)), (7, .s (.int .i64)), (8, .s (.int .i64))], []⟩, [], [⟨.ret, ⟨19, [(4, .s (.int .i64))], []⟩, []⟩, ⟨.exit 0, ⟨19, [], []⟩, []⟩], st_sl_Index_string_2⟩
theorem r_sl_Index_string_2 : RoundOK P t73 nL0 0 (loopAt Tryz.f92 2) l_sl_Index_string_2 := fun d => by kernel_rfl
def L_sl_Index_string_2 : LT := nL0.add 0 l_sl_Index_string_2
theorem L_sl_Index_string_2_ok : LpK P 0 L_sl_Index_string_2 (bodyOf Tryz.f92) := LpK.a hm t73_ok (nLk _ _ _) r_sl_Index_string_2
def F_sl_Index_string (d : List G) : Option (List G) :=
 (loopB true (LRun st_sl_Index_string_2 [.l (gi d 0).rows, .s (gi d 1).str, .i (((gi d 0).rows.length : Nat) : Int), .i 0]) fun cg1 g1 => (bif Nat.beq cg1 0 then some [.i (gi g1 0).int] else some [.i (-1)]))
def s_sl_Index_string : FSpec := ⟨92, [.s (.list [.str]), .s (.str)], [], [], [.s (.int .i64)], [], [], [], F_sl_Index_string⟩
theorem b_sl_Index_string : BodyOK P t73 L_sl_Index_string_2 Tryz.f92 s_sl_Index_string := fun d => by kernel_rfl
theorem c_sl_Index_string : COK P s_sl_Index_string := bdC hm t73_ok Tryz.func92 L_sl_Index_string_2_ok b_sl_Index_string
def t74 : Tab := t73.addP s_sl_Index_string
theorem t74_ok : TabOK P t74 := t73_ok.aP c_sl_Index_string

def F_stringslite_HasPrefix (d : List G) : Option (List G) :=
 (bif (leI (((gi d 1).str.size : Nat) : Int) (((gi d 0).str.size : Nat) : Int)) then (bif ((nnI (((gi d 1).str.size : Nat) : Int)) && (leI (((gi d 1).str.size : Nat) : Int) (((gi d 0).str.size : Nat) : Int))) then some [.t (((gi d 0).str.extract 0 (gi d 1).str.size).toList == (gi d 1).str.toList)] else none) else some [.t false])
def s_stringslite_HasPrefix : FSpec := ⟨209, [.s (.str), .s (.str)], [], [], [.s (.bool)], [], [], [], F_stringslite_HasPrefix⟩
theorem b_stringslite_HasPrefix : BodyOK P t74 nL0 Tryz.f209 s_stringslite_HasPrefix := fun d => by kernel_rfl
theorem c_stringslite_HasPrefix : COK P s_stringslite_HasPrefix := bdC hm t74_ok Tryz.func209 (nLk _ _ _) b_stringslite_HasPrefix
def t75 : Tab := t74.addP s_stringslite_HasPrefix
theorem t75_ok : TabOK P t75 := t74_ok.aP c_stringslite_HasPrefix

def F_stringslite_CutPrefix (d : List G) : Option (List G) :=
 (callF (F_stringslite_HasPrefix [.s (gi d 0).str, .s (gi d 1).str]) fun g1 => (bif (!(gi g1 0).bool) then some [.s (gi d 0).str, .t false] else (bif ((nnI (((gi d 1).str.size : Nat) : Int)) && (leI (((gi d 1).str.size : Nat) : Int) (((gi d 0).str.size : Nat) : Int))) then some [.s ((gi d 0).str.extract (gi d 1).str.size (gi d 0).str.size), .t true] else none)))
def s_stringslite_CutPrefix : FSpec := ⟨192, [.s (.str), .s (.str)], [], [], [.s (.str), .s (.bool)], [], [], [], F_stringslite_CutPrefix⟩
theorem b_stringslite_CutPrefix : BodyOK P t75 nL0 Tryz.f192 s_stringslite_CutPrefix := fun d => by kernel_rfl
theorem c_stringslite_CutPrefix : COK P s_stringslite_CutPrefix := bdC hm t75_ok Tryz.func192 (nLk _ _ _) b_stringslite_CutPrefix
def t76 : Tab := t75.addP s_stringslite_CutPrefix
theorem t76_ok : TabOK P t76 := t75_ok.aP c_stringslite_CutPrefix

def F_strings_CutPrefix (d : List G) : Option (List G) :=
 (callF (F_stringslite_CutPrefix [.s (gi d 0).str, .s (gi d 1).str]) fun g1 => some [.s (gi g1 0).str, .t (gi g1 1).bool])
def s_strings_CutPrefix : FSpec := ⟨149, [.s (.str), .s (.str)], [], [], [.s (.str), .s (.bool)], [], [], [], F_strings_CutPrefix⟩
theorem b_strings_CutPrefix : BodyOK P t76 nL0 Tryz.f149 s_strings_CutPrefix := fun d => by kernel_rfl
theorem c_strings_CutPrefix : COK P s_strings_CutPrefix := bdC hm t76_ok Tryz.func149 (nLk _ _ _) b_strings_CutPrefix
def t77 : Tab := t76.addP s_strings_CutPrefix
theorem t77_ok : TabOK P t77 := t76_ok.aP c_strings_CutPrefix

def F_strconv_Atoi (d : List G) : Option (List G) :=
 atoiF d
def s_strconv_Atoi : FSpec := ⟨132, [.s (.str)], [], [], [.s (.int .i64), .s (.nilI)], [], [], [], F_strconv_Atoi⟩
theorem c_strconv_Atoi : ∀ d r, F_strconv_Atoi d = some r → ACallX P 132 (s_strconv_Atoi.args0 d) (denH (s_strconv_Atoi.H0 d)) (s_strconv_Atoi.out r) (denH (s_strconv_Atoi.H1 r)) := fun d r h => atoi_call Tryz.laysAtoi d r h
def t78 : Tab := t77.addP s_strconv_Atoi
theorem t78_ok : TabOK P t78 := t77_ok.aP c_strconv_Atoi

def F_kit_Number (d : List G) : Option (List G) :=
 (callF (F_strings_CutPrefix [.s (gi d 0).str, .s (⟨#[45]⟩ : ByteArray)]) fun g1 => (bif ((gi g1 0).str.toList == (⟨#[]⟩ : ByteArray).toList) then some [.i 0, .t false] else (bif (ltI (gi d 1).int (((gi g1 0).str.size : Nat) : Int)) then some [.i 0, .t false] else (callF (F_strings_Trim [.s (gi g1 0).str, .s (⟨#[48, 49, 50, 51, 52, 53, 54, 55, 56, 57]⟩ : ByteArray)]) fun g2 => (bif (!((gi g2 0).str.toList == (⟨#[]⟩ : ByteArray).toList)) then some [.i 0, .t false] else (bif (ltI 0 (((gi g1 0).str.size : Nat) : Int)) then (bif ((((gi g1 0).str.data.toList.getD 0 0).toNat : Int) == 48) then (bif (ltI 1 (((gi g1 0).str.size : Nat) : Int)) then some [.i 0, .t false] else (bif (gi g1 1).bool then some [.i 0, .t false] else (callF (F_strconv_Atoi [.s (gi g1 0).str]) fun g3 => (bif (gi g1 1).bool then (bif (inI (0 - (gi g3 0).int)) then some [.i (0 - (gi g3 0).int), .t true] else none) else some [.i (gi g3 0).int, .t true])))) else (callF (F_strconv_Atoi [.s (gi g1 0).str]) fun g4 => (bif (gi g1 1).bool then (bif (inI (0 - (gi g4 0).int)) then some [.i (0 - (gi g4 0).int), .t true] else none) else some [.i (gi g4 0).int, .t true]))) else none))))))
def s_kit_Number : FSpec := ⟨107, [.s (.str), .s (.int .i64)], [], [], [.s (.int .i64), .s (.bool)], [], [], [], F_kit_Number⟩
theorem b_kit_Number : BodyOK P t78 nL0 Tryz.f107 s_kit_Number := fun d => by kernel_rfl
theorem c_kit_Number : COK P s_kit_Number := bdC hm t78_ok Tryz.func107 (nLk _ _ _) b_kit_Number
def t79 : Tab := t78.addP s_kit_Number
theorem t79_ok : TabOK P t79 := t78_ok.aP c_kit_Number

def st_kit_Numbers_3 (d : List G) : Option (Option Nat × List G) :=
 (bif (ltI (gi d 3).int (gi d 2).int) then (bif ((nnI (gi d 3).int) && (ltI (gi d 3).int (((gi d 1).rows.length : Nat) : Int))) then (callF (F_kit_Number [.s (gi ((gi d 1).rows.getD (((gi d 3).int).toNat) []) 0).str, .i 15]) fun g1 => (bif (!(gi g1 1).bool) then some (some 0, [.l [], .t false]) else (bif ((Nat.beq (gi d 0).rows.length (gi d 0).rows.length) && (decide (((gi d 0).rows.length + 1) ≤ 1048576))) then (bif (inI ((gi d 3).int + 1)) then (bif ((Nat.beq ((gi d 0).rows ++ ([[.i (gi g1 0).int]] : List (List G))).length ((gi d 0).rows ++ ([[.i (gi g1 0).int]] : List (List G))).length) && true) then some (none, [.l ((gi d 0).rows ++ ([[.i (gi g1 0).int]] : List (List G))), .l (gi d 1).rows, .i (gi d 2).int, .i ((gi d 3).int + 1)]) else none) else none) else none))) else none) else (bif ((Nat.beq (gi d 0).rows.length (gi d 0).rows.length) && true) then some (some 1, [.l (gi d 0).rows]) else none))
def l_kit_Numbers_3 : LSpec := ⟨3, [(4, [.int .i64])], ⟨28, [(4, .s (.vec 0 1)), (9, .s (.list [.str])), (10, .s (.int .i64)), (11, .s (.int .i64))], [.vec [.int .i64] 0]⟩, [.slot 4], [⟨.ret, ⟨28, [(2, .s (.list [.int .i64])), (3, .s (.bool))], []⟩, []⟩, ⟨.exit 0, ⟨28, [(4, .s (.vec 0 1))], [.vec [.int .i64] 0]⟩, [.slot 4]⟩], st_kit_Numbers_3⟩
theorem r_kit_Numbers_3 : RoundOK P t79 nL0 0 (loopAt Tryz.f57 3) l_kit_Numbers_3 := fun d => by kernel_rfl
def L_kit_Numbers_3 : LT := nL0.add 0 l_kit_Numbers_3
theorem L_kit_Numbers_3_ok : LpK P 0 L_kit_Numbers_3 (bodyOf Tryz.f57) := LpK.a hm t79_ok (nLk _ _ _) r_kit_Numbers_3
def F_kit_Numbers (d : List G) : Option (List G) :=
 (loopB true (LRun st_kit_Numbers_3 [.l [], .l (gi d 0).rows, .i (((gi d 0).rows.length : Nat) : Int), .i 0]) fun cg2 g2 => (bif Nat.beq cg2 0 then some [.l (gi g2 0).rows, .t (gi g2 1).bool] else (bif ((Nat.beq (gi g2 0).rows.length (gi g2 0).rows.length) && true) then some [.l (gi g2 0).rows, .t true] else none)))
def s_kit_Numbers : FSpec := ⟨57, [.s (.list [.str])], [], [], [.s (.list [.int .i64]), .s (.bool)], [], [], [], F_kit_Numbers⟩
theorem b_kit_Numbers : BodyOK P t79 L_kit_Numbers_3 Tryz.f57 s_kit_Numbers := fun d => by kernel_rfl
theorem c_kit_Numbers : COK P s_kit_Numbers := bdC hm t79_ok Tryz.func57 L_kit_Numbers_3_ok b_kit_Numbers
def t80 : Tab := t79.addP s_kit_Numbers
theorem t80_ok : TabOK P t80 := t79_ok.aP c_kit_Numbers

def F_kit_Undash (d : List G) : Option (List G) :=
 (bif ((gi d 0).str.toList == (⟨#[45]⟩ : ByteArray).toList) then some [.s (⟨#[]⟩ : ByteArray)] else some [.s (gi d 0).str])
def s_kit_Undash : FSpec := ⟨124, [.s (.str)], [], [], [.s (.str)], [], [], [], F_kit_Undash⟩
theorem b_kit_Undash : BodyOK P t80 nL0 Tryz.f124 s_kit_Undash := fun d => by kernel_rfl
theorem c_kit_Undash : COK P s_kit_Undash := bdC hm t80_ok Tryz.func124 (nLk _ _ _) b_kit_Undash
def t81 : Tab := t80.addP s_kit_Undash
theorem t81_ok : TabOK P t81 := t80_ok.aP c_kit_Undash

def F_log_ReadWords (d : List G) : Option (List G) :=
 (bif ((((gi d 0).rows.length : Nat) : Int) != 8) then some [.l [[.i 0, .i 0, .s (⟨#[]⟩ : ByteArray), .s (⟨#[]⟩ : ByteArray), .i 0, .i 0, .s (⟨#[]⟩ : ByteArray), .s (⟨#[]⟩ : ByteArray)]], .t false] else (callF (F_kit_ModeWords []) fun g1 => (bif (ltI 1 (((gi d 0).rows.length : Nat) : Int)) then (callF (F_sl_Index_string [.l (gi g1 0).rows, .s (gi ((gi d 0).rows.getD 1 []) 0).str]) fun g2 => (bif (ltI 0 (((gi d 0).rows.length : Nat) : Int)) then (bif (ltI 4 (((gi d 0).rows.length : Nat) : Int)) then (bif (ltI 6 (((gi d 0).rows.length : Nat) : Int)) then (callF (F_kit_Numbers [.l [[.s (gi ((gi d 0).rows.getD 0 []) 0).str], [.s (gi ((gi d 0).rows.getD 4 []) 0).str], [.s (gi ((gi d 0).rows.getD 6 []) 0).str]]]) fun g3 => (bif (!(gi g3 1).bool) then some [.l [[.i 0, .i 0, .s (⟨#[]⟩ : ByteArray), .s (⟨#[]⟩ : ByteArray), .i 0, .i 0, .s (⟨#[]⟩ : ByteArray), .s (⟨#[]⟩ : ByteArray)]], .t false] else (bif (ltI (gi g2 0).int 1) then some [.l [[.i 0, .i 0, .s (⟨#[]⟩ : ByteArray), .s (⟨#[]⟩ : ByteArray), .i 0, .i 0, .s (⟨#[]⟩ : ByteArray), .s (⟨#[]⟩ : ByteArray)]], .t false] else (bif (ltI 0 (((gi g3 0).rows.length : Nat) : Int)) then (bif (ltI 2 (((gi d 0).rows.length : Nat) : Int)) then (bif (ltI 3 (((gi d 0).rows.length : Nat) : Int)) then (bif (ltI 1 (((gi g3 0).rows.length : Nat) : Int)) then (bif (ltI 5 (((gi d 0).rows.length : Nat) : Int)) then (callF (F_kit_Undash [.s (gi ((gi d 0).rows.getD 5 []) 0).str]) fun g4 => (bif (ltI 2 (((gi g3 0).rows.length : Nat) : Int)) then (bif (ltI 7 (((gi d 0).rows.length : Nat) : Int)) then (callF (F_kit_Undash [.s (gi ((gi d 0).rows.getD 7 []) 0).str]) fun g5 => some [.l [[.i (gi ((gi g3 0).rows.getD 0 []) 0).int, .i (gi g2 0).int, .s (gi ((gi d 0).rows.getD 2 []) 0).str, .s (gi ((gi d 0).rows.getD 3 []) 0).str, .i (gi ((gi g3 0).rows.getD 1 []) 0).int, .i (gi ((gi g3 0).rows.getD 2 []) 0).int, .s (gi g4 0).str, .s (gi g5 0).str]], .t true]) else none) else none)) else none) else none) else none) else none) else none)))) else none) else none) else none)) else none)))
def s_log_ReadWords : FSpec := ⟨73, [.s (.list [.str])], [], [], [.s (.row KCt), .s (.bool)], [], [], [], F_log_ReadWords⟩
theorem b_log_ReadWords : BodyOK P t81 nL0 Tryz.f73 s_log_ReadWords := fun d => by kernel_rfl
theorem c_log_ReadWords : COK P s_log_ReadWords := bdC hm t81_ok Tryz.func73 (nLk _ _ _) b_log_ReadWords
def t82 : Tab := t81.addP s_log_ReadWords
theorem t82_ok : TabOK P t82 := t81_ok.aP c_log_ReadWords

def st_log_Read_6 (d : List G) : Option (Option Nat × List G) :=
 (bif (ltI (gi d 5).int (gi d 4).int) then (bif ((nnI (gi d 5).int) && (ltI (gi d 5).int (((gi d 3).rows.length : Nat) : Int))) then (callF (F_kit_Words [.s (gi ((gi d 3).rows.getD (((gi d 5).int).toNat) []) 0).str]) fun g2 => (bif (!(gi g2 1).bool) then some (some 0, [.l [], .i (gi d 5).int, .i 9]) else (bif (!(gi d 2).bool) then (bif (inI ((((gi d 1).rows.length : Nat) : Int) - 1)) then (bif ((gi d 5).int == ((((gi d 1).rows.length : Nat) : Int) - 1)) then some (some 0, [.l [], .i (gi d 5).int, .i 9]) else (callF (F_log_ReadWords [.l (gi g2 0).rows]) fun g3 => (bif (!(gi g3 1).bool) then some (some 0, [.l [], .i (gi d 5).int, .i 9]) else (bif ((Nat.beq (gi d 0).rows.length (gi d 0).rows.length) && (decide (((gi d 0).rows.length + 1) ≤ 1048576))) then (bif (inI ((gi d 5).int + 1)) then (bif ((Nat.beq ((gi d 0).rows ++ ([(gEta KCt (gi g3 0).row)] : List (List G))).length ((gi d 0).rows ++ ([(gEta KCt (gi g3 0).row)] : List (List G))).length) && true) then some (none, [.l ((gi d 0).rows ++ ([(gEta KCt (gi g3 0).row)] : List (List G))), .l (gi d 1).rows, .t (gi d 2).bool, .l (gi d 3).rows, .i (gi d 4).int, .i ((gi d 5).int + 1)]) else none) else none) else none)))) else none) else (callF (F_log_ReadWords [.l (gi g2 0).rows]) fun g4 => (bif (!(gi g4 1).bool) then some (some 0, [.l [], .i (gi d 5).int, .i 9]) else (bif ((Nat.beq (gi d 0).rows.length (gi d 0).rows.length) && (decide (((gi d 0).rows.length + 1) ≤ 1048576))) then (bif (inI ((gi d 5).int + 1)) then (bif ((Nat.beq ((gi d 0).rows ++ ([(gEta KCt (gi g4 0).row)] : List (List G))).length ((gi d 0).rows ++ ([(gEta KCt (gi g4 0).row)] : List (List G))).length) && true) then some (none, [.l ((gi d 0).rows ++ ([(gEta KCt (gi g4 0).row)] : List (List G))), .l (gi d 1).rows, .t (gi d 2).bool, .l (gi d 3).rows, .i (gi d 4).int, .i ((gi d 5).int + 1)]) else none) else none) else none)))))) else none) else (bif ((Nat.beq (gi d 0).rows.length (gi d 0).rows.length) && true) then some (some 1, [.l (gi d 0).rows]) else none))
def l_log_Read_6 : LSpec := ⟨6, [(7, KCt)], ⟨67, [(5, .s (.list [.str])), (6, .s (.bool)), (7, .s (.vec 0 8)), (22, .s (.list [.str])), (23, .s (.int .i64)), (24, .s (.int .i64))], [.vec KCt 0]⟩, [.slot 7], [⟨.ret, ⟨67, [(2, .s (.list KCt)), (3, .s (.int .i64)), (4, .s (.int .i64))], []⟩, []⟩, ⟨.exit 0, ⟨67, [(7, .s (.vec 0 8))], [.vec KCt 0]⟩, [.slot 7]⟩], st_log_Read_6⟩
theorem r_log_Read_6 : RoundOK P (t82.lessPf [69]) nL0 0 (loopAt Tryz.f21 6) l_log_Read_6 := fun d => by kernel_rfl
def L_log_Read_6 : LT := nL0.add 0 l_log_Read_6
theorem L_log_Read_6_ok : LpK P 0 L_log_Read_6 (bodyOf Tryz.f21) := LpK.add hm (t82_ok.lessPf [69]) (by kernel_rfl) (nLk _ _ _) r_log_Read_6
def F_log_Read (d : List G) : Option (List G) :=
 (bif (ltI 200000 (((gi d 0).str.size : Nat) : Int)) then some [.l [], .i 0, .i 2] else (callF (F_kit_Lines [.s (gi d 0).str]) fun g1 => (loopB true (LRun st_log_Read_6 [.l [], .l (gi g1 0).rows, .t (gi g1 1).bool, .l (gi g1 0).rows, .i (((gi g1 0).rows.length : Nat) : Int), .i 0]) fun cg5 g5 => (bif Nat.beq cg5 0 then some [.l (gi g5 0).rows, .i (gi g5 1).int, .i (gi g5 2).int] else (callB (((Nat.beq (gi g5 0).rows.length (gi g5 0).rows.length) && true) && (F_log_CheckLog [.l (gi g5 0).rows]).isSome) (F_log_CheckLog [.l (gi g5 0).rows]) fun g6 => (bif ((gi g6 0).int != 0) then some [.l [], .i 0, .i (gi g6 0).int] else (bif ((Nat.beq (gi g5 0).rows.length (gi g5 0).rows.length) && true) then some [.l (gi g5 0).rows, .i 0, .i 0] else none)))))))
def s_log_Read : FSpec := ⟨21, [.s (.str)], [], [], [.s (.list KCt), .s (.int .i64), .s (.int .i64)], [], [], [], F_log_Read⟩
theorem b_log_Read : BodyOK P (t82.lessPf [69]) L_log_Read_6 Tryz.f21 s_log_Read := fun d => by kernel_rfl
theorem c_log_Read : COK P s_log_Read := bodyC hm (t82_ok.lessPf [69]) Tryz.func21 (by kernel_rfl) L_log_Read_6_ok b_log_Read (by kernel_rfl)
def t83 : Tab := t82.addP s_log_Read
theorem t83_ok : TabOK P t83 := t82_ok.aP c_log_Read

def F_sl_Contains_string (d : List G) : Option (List G) :=
 (callF (F_sl_Index_string [.l (gi d 0).rows, .s (gi d 1).str]) fun g1 => some [.t (leI 0 (gi g1 0).int)])
def s_sl_Contains_string : FSpec := ⟨109, [.s (.list [.str]), .s (.str)], [], [], [.s (.bool)], [], [], [], F_sl_Contains_string⟩
theorem b_sl_Contains_string : BodyOK P t83 nL0 Tryz.f109 s_sl_Contains_string := fun d => by kernel_rfl
theorem c_sl_Contains_string : COK P s_sl_Contains_string := bdC hm t83_ok Tryz.func109 (nLk _ _ _) b_sl_Contains_string
def t84 : Tab := t83.addP s_sl_Contains_string
theorem t84_ok : TabOK P t84 := t83_ok.aP c_sl_Contains_string

def F_r2_Words (d : List G) : Option (List G) :=
 (callF (F_strings_Split [.s (gi d 0).str, .s (⟨#[32]⟩ : ByteArray)]) fun g1 => (callF (F_sl_Contains_string [.l (gi g1 0).rows, .s (⟨#[]⟩ : ByteArray)]) fun g2 => some [.l (gi g1 0).rows, .t (!(gi g2 0).bool)]))
def s_r2_Words : FSpec := ⟨60, [.s (.str)], [], [], [.s (.list [.str]), .s (.bool)], [], [], [], F_r2_Words⟩
theorem b_r2_Words : BodyOK P t84 nL0 Tryz.f60 s_r2_Words := fun d => by kernel_rfl
theorem c_r2_Words : COK P s_r2_Words := bdC hm t84_ok Tryz.func60 (nLk _ _ _) b_r2_Words
def t85 : Tab := t84.addP s_r2_Words
theorem t85_ok : TabOK P t85 := t84_ok.aP c_r2_Words

def F_stringslite_TrimPrefix (d : List G) : Option (List G) :=
 (callF (F_stringslite_HasPrefix [.s (gi d 0).str, .s (gi d 1).str]) fun g1 => (bif (gi g1 0).bool then (bif ((nnI (((gi d 1).str.size : Nat) : Int)) && (leI (((gi d 1).str.size : Nat) : Int) (((gi d 0).str.size : Nat) : Int))) then some [.s ((gi d 0).str.extract (gi d 1).str.size (gi d 0).str.size)] else none) else some [.s (gi d 0).str]))
def s_stringslite_TrimPrefix : FSpec := ⟨168, [.s (.str), .s (.str)], [], [], [.s (.str)], [], [], [], F_stringslite_TrimPrefix⟩
theorem b_stringslite_TrimPrefix : BodyOK P t85 nL0 Tryz.f168 s_stringslite_TrimPrefix := fun d => by kernel_rfl
theorem c_stringslite_TrimPrefix : COK P s_stringslite_TrimPrefix := bdC hm t85_ok Tryz.func168 (nLk _ _ _) b_stringslite_TrimPrefix
def t86 : Tab := t85.addP s_stringslite_TrimPrefix
theorem t86_ok : TabOK P t86 := t85_ok.aP c_stringslite_TrimPrefix

def F_strings_TrimPrefix (d : List G) : Option (List G) :=
 (callF (F_stringslite_TrimPrefix [.s (gi d 0).str, .s (gi d 1).str]) fun g1 => some [.s (gi g1 0).str])
def s_strings_TrimPrefix : FSpec := ⟨131, [.s (.str), .s (.str)], [], [], [.s (.str)], [], [], [], F_strings_TrimPrefix⟩
theorem b_strings_TrimPrefix : BodyOK P t86 nL0 Tryz.f131 s_strings_TrimPrefix := fun d => by kernel_rfl
theorem c_strings_TrimPrefix : COK P s_strings_TrimPrefix := bdC hm t86_ok Tryz.func131 (nLk _ _ _) b_strings_TrimPrefix
def t87 : Tab := t86.addP s_strings_TrimPrefix
theorem t87_ok : TabOK P t87 := t86_ok.aP c_strings_TrimPrefix

def F_r2_Number (d : List G) : Option (List G) :=
 (callF (F_strings_TrimPrefix [.s (gi d 0).str, .s (⟨#[45]⟩ : ByteArray)]) fun g1 => (bif ((gi g1 0).str.toList == (⟨#[]⟩ : ByteArray).toList) then some [.i 0, .t false] else (bif (ltI (gi d 1).int (((gi g1 0).str.size : Nat) : Int)) then some [.i 0, .t false] else (callF (F_r2_only [.s (gi g1 0).str, .s (⟨#[48, 49, 50, 51, 52, 53, 54, 55, 56, 57]⟩ : ByteArray)]) fun g2 => (bif (!(gi g2 0).bool) then some [.i 0, .t false] else (callF (F_strconv_Atoi [.s (gi d 0).str]) fun g3 => (callF (F_strconv_Itoa [.i (gi g3 0).int]) fun g4 => some [.i (gi g3 0).int, .t ((gi g4 0).str.toList == (gi d 0).str.toList)])))))))
def s_r2_Number : FSpec := ⟨91, [.s (.str), .s (.int .i64)], [], [], [.s (.int .i64), .s (.bool)], [], [], [], F_r2_Number⟩
theorem b_r2_Number : BodyOK P t87 nL0 Tryz.f91 s_r2_Number := fun d => by kernel_rfl
theorem c_r2_Number : COK P s_r2_Number := bdC hm t87_ok Tryz.func91 (nLk _ _ _) b_r2_Number
def t88 : Tab := t87.addP s_r2_Number
theorem t88_ok : TabOK P t88 := t87_ok.aP c_r2_Number

def st_r2_NumbersIn_4 (d : List G) : Option (Option Nat × List G) :=
 (bif (ltI (gi d 5).int (gi d 4).int) then (bif ((nnI (gi d 5).int) && (ltI (gi d 5).int (((gi d 3).rows.length : Nat) : Int))) then (callF (F_r2_Number [.s (gi ((gi d 3).rows.getD (((gi d 5).int).toNat) []) 0).str, .i (gi d 1).int]) fun g1 => (bif ((Nat.beq (gi d 0).rows.length (gi d 0).rows.length) && (decide (((gi d 0).rows.length + 1) ≤ 1048576))) then (bif (gi d 2).bool then (bif (inI ((gi d 5).int + 1)) then (bif ((Nat.beq ((gi d 0).rows ++ ([[.i (gi g1 0).int]] : List (List G))).length ((gi d 0).rows ++ ([[.i (gi g1 0).int]] : List (List G))).length) && true) then some (none, [.l ((gi d 0).rows ++ ([[.i (gi g1 0).int]] : List (List G))), .i (gi d 1).int, .t (gi g1 1).bool, .l (gi d 3).rows, .i (gi d 4).int, .i ((gi d 5).int + 1)]) else none) else none) else (bif (inI ((gi d 5).int + 1)) then (bif ((Nat.beq ((gi d 0).rows ++ ([[.i (gi g1 0).int]] : List (List G))).length ((gi d 0).rows ++ ([[.i (gi g1 0).int]] : List (List G))).length) && true) then some (none, [.l ((gi d 0).rows ++ ([[.i (gi g1 0).int]] : List (List G))), .i (gi d 1).int, .t false, .l (gi d 3).rows, .i (gi d 4).int, .i ((gi d 5).int + 1)]) else none) else none)) else none)) else none) else (bif ((Nat.beq (gi d 0).rows.length (gi d 0).rows.length) && true) then some (some 0, [.l (gi d 0).rows, .t (gi d 2).bool]) else none))
def l_r2_NumbersIn_4 : LSpec := ⟨4, [(6, [.int .i64])], ⟨35, [(1, .s (.int .i64)), (6, .s (.vec 0 1)), (7, .s (.bool)), (12, .s (.list [.str])), (13, .s (.int .i64)), (14, .s (.int .i64))], [.vec [.int .i64] 0]⟩, [.slot 6], [⟨.exit 0, ⟨35, [(6, .s (.vec 0 1)), (7, .s (.bool))], [.vec [.int .i64] 0]⟩, [.slot 6]⟩], st_r2_NumbersIn_4⟩
theorem r_r2_NumbersIn_4 : RoundOK P t88 nL0 0 (loopAt Tryz.f61 4) l_r2_NumbersIn_4 := fun d => by kernel_rfl
def L_r2_NumbersIn_4 : LT := nL0.add 0 l_r2_NumbersIn_4
theorem L_r2_NumbersIn_4_ok : LpK P 0 L_r2_NumbersIn_4 (bodyOf Tryz.f61) := LpK.a hm t88_ok (nLk _ _ _) r_r2_NumbersIn_4
def F_r2_NumbersIn (d : List G) : Option (List G) :=
 (loopB true (LRun st_r2_NumbersIn_4 [.l [], .i (gi d 1).int, .t true, .l (gi d 0).rows, .i (((gi d 0).rows.length : Nat) : Int), .i 0]) fun cg2 g2 => (bif ((Nat.beq (gi g2 0).rows.length (gi g2 0).rows.length) && true) then some [.l (gi g2 0).rows, .t (gi g2 1).bool] else none))
def s_r2_NumbersIn : FSpec := ⟨61, [.s (.list [.str]), .s (.int .i64)], [], [], [.s (.list [.int .i64]), .s (.bool)], [], [], [], F_r2_NumbersIn⟩
theorem b_r2_NumbersIn : BodyOK P t88 L_r2_NumbersIn_4 Tryz.f61 s_r2_NumbersIn := fun d => by kernel_rfl
theorem c_r2_NumbersIn : COK P s_r2_NumbersIn := bdC hm t88_ok Tryz.func61 L_r2_NumbersIn_4_ok b_r2_NumbersIn
def t89 : Tab := t88.addP s_r2_NumbersIn
theorem t89_ok : TabOK P t89 := t88_ok.aP c_r2_NumbersIn

def F_r2_undash (d : List G) : Option (List G) :=
 (bif ((gi d 0).str.toList == (⟨#[45]⟩ : ByteArray).toList) then some [.s (⟨#[]⟩ : ByteArray)] else some [.s (gi d 0).str])
def s_r2_undash : FSpec := ⟨125, [.s (.str)], [], [], [.s (.str)], [], [], [], F_r2_undash⟩
theorem b_r2_undash : BodyOK P t89 nL0 Tryz.f125 s_r2_undash := fun d => by kernel_rfl
theorem c_r2_undash : COK P s_r2_undash := bdC hm t89_ok Tryz.func125 (nLk _ _ _) b_r2_undash
def t90 : Tab := t89.addP s_r2_undash
theorem t90_ok : TabOK P t90 := t89_ok.aP c_r2_undash

def F_r2_ContactIn (d : List G) : Option (List G) :=
 (bif ((((gi d 0).rows.length : Nat) : Int) != 8) then some [.l [[.i 0, .i 0, .s (⟨#[]⟩ : ByteArray), .s (⟨#[]⟩ : ByteArray), .i 0, .i 0, .s (⟨#[]⟩ : ByteArray), .s (⟨#[]⟩ : ByteArray)]], .t false] else (bif (ltI 0 (((gi d 0).rows.length : Nat) : Int)) then (bif (ltI 4 (((gi d 0).rows.length : Nat) : Int)) then (bif (ltI 6 (((gi d 0).rows.length : Nat) : Int)) then (callF (F_r2_NumbersIn [.l [[.s (gi ((gi d 0).rows.getD 0 []) 0).str], [.s (gi ((gi d 0).rows.getD 4 []) 0).str], [.s (gi ((gi d 0).rows.getD 6 []) 0).str]], .i 15]) fun g1 => (bif (ltI 0 (((gi g1 0).rows.length : Nat) : Int)) then (callF (F_r2_plainModes []) fun g2 => (bif (ltI 1 (((gi d 0).rows.length : Nat) : Int)) then (callF (F_sl_Index_string [.l (gi g2 0).rows, .s (gi ((gi d 0).rows.getD 1 []) 0).str]) fun g3 => (bif (ltI 2 (((gi d 0).rows.length : Nat) : Int)) then (bif (ltI 3 (((gi d 0).rows.length : Nat) : Int)) then (bif (ltI 1 (((gi g1 0).rows.length : Nat) : Int)) then (bif (ltI 5 (((gi d 0).rows.length : Nat) : Int)) then (callF (F_r2_undash [.s (gi ((gi d 0).rows.getD 5 []) 0).str]) fun g4 => (bif (ltI 2 (((gi g1 0).rows.length : Nat) : Int)) then (bif (ltI 7 (((gi d 0).rows.length : Nat) : Int)) then (callF (F_r2_undash [.s (gi ((gi d 0).rows.getD 7 []) 0).str]) fun g5 => (bif (gi g1 1).bool then some [.l [[.i (gi ((gi g1 0).rows.getD 0 []) 0).int, .i (gi g3 0).int, .s (gi ((gi d 0).rows.getD 2 []) 0).str, .s (gi ((gi d 0).rows.getD 3 []) 0).str, .i (gi ((gi g1 0).rows.getD 1 []) 0).int, .i (gi ((gi g1 0).rows.getD 2 []) 0).int, .s (gi g4 0).str, .s (gi g5 0).str]], .t (ltI 0 (gi g3 0).int)] else some [.l [[.i (gi ((gi g1 0).rows.getD 0 []) 0).int, .i (gi g3 0).int, .s (gi ((gi d 0).rows.getD 2 []) 0).str, .s (gi ((gi d 0).rows.getD 3 []) 0).str, .i (gi ((gi g1 0).rows.getD 1 []) 0).int, .i (gi ((gi g1 0).rows.getD 2 []) 0).int, .s (gi g4 0).str, .s (gi g5 0).str]], .t false])) else none) else none)) else none) else none) else none) else none)) else none)) else none)) else none) else none) else none))
def s_r2_ContactIn : FSpec := ⟨75, [.s (.list [.str])], [], [], [.s (.row KCt), .s (.bool)], [], [], [], F_r2_ContactIn⟩
theorem b_r2_ContactIn : BodyOK P t90 nL0 Tryz.f75 s_r2_ContactIn := fun d => by kernel_rfl
theorem c_r2_ContactIn : COK P s_r2_ContactIn := bdC hm t90_ok Tryz.func75 (nLk _ _ _) b_r2_ContactIn
def t91 : Tab := t90.addP s_r2_ContactIn
theorem t91_ok : TabOK P t91 := t90_ok.aP c_r2_ContactIn

def F_r2_LogRead_1 (d : List G) : Option (List G) :=
 (callF (F_r2_Words [.s (gi d 1).str]) fun g1 => (callF (F_r2_ContactIn [.l (gi g1 0).rows]) fun g2 => (bif ((Nat.beq (gi d 0).rows.length (gi d 0).rows.length) && (decide (((gi d 0).rows.length + 1) ≤ 1048576))) then (bif (gi g1 1).bool then (bif ((((Nat.beq ((gi d 0).rows ++ ([(gEta KCt (gi g2 0).row)] : List (List G))).length ((gi d 0).rows ++ ([(gEta KCt (gi g2 0).row)] : List (List G))).length) && true) && true) && true) then some [.l ((gi d 0).rows ++ ([(gEta KCt (gi g2 0).row)] : List (List G))), .t (gi g2 1).bool] else none) else (bif ((((Nat.beq ((gi d 0).rows ++ ([(gEta KCt (gi g2 0).row)] : List (List G))).length ((gi d 0).rows ++ ([(gEta KCt (gi g2 0).row)] : List (List G))).length) && true) && true) && true) then some [.l ((gi d 0).rows ++ ([(gEta KCt (gi g2 0).row)] : List (List G))), .t false] else none)) else none)))
def s_r2_LogRead_1 : FSpec := ⟨74, [.s (.str), .s (.ptr 0 0)], [.box [.vec 1 8], .vec KCt 0], [.slot 1, .cell 0 0], [.s (.bool)], [.box [.vec 1 8], .vec KCt 1], [.fix 0, .fix 1], [], F_r2_LogRead_1⟩
theorem b_r2_LogRead_1 : BodyOK P t91 nL0 Tryz.f74 s_r2_LogRead_1 := fun d => by kernel_rfl
theorem c_r2_LogRead_1 : COK P s_r2_LogRead_1 := bdC hm t91_ok Tryz.func74 (nLk _ _ _) b_r2_LogRead_1
def t92 : Tab := t91.addW s_r2_LogRead_1
theorem t92_ok : TabOK P t92 := t91_ok.aW c_r2_LogRead_1

def st_r2_Lines_2 (d : List G) : Option (Option Nat × List G) :=
 (bif (!((gi d 1).str.toList == (⟨#[]⟩ : ByteArray).toList)) then (callF (F_strings_Cut [.s (gi d 1).str, .s (⟨#[10]⟩ : ByteArray)]) fun g1 => (bif (!(gi g1 2).bool) then (bif ((((Nat.beq (gi d 0).rows.length (gi d 0).rows.length) && true) && true) && true) then some (some 0, [.l (gi d 0).rows, .i (gi d 2).int, .t false]) else none) else (callB (((((Nat.beq (gi d 0).rows.length (gi d 0).rows.length) && true) && true) && true) && (F_r2_LogRead_1 [.l (gi d 0).rows, .s (gi g1 0).str]).isSome) (F_r2_LogRead_1 [.l (gi d 0).rows, .s (gi g1 0).str]) fun g2 => (bif (!(gi g2 1).bool) then (bif ((((Nat.beq (gi g2 0).rows.length (gi g2 0).rows.length) && true) && true) && true) then some (some 0, [.l (gi g2 0).rows, .i (gi d 2).int, .t false]) else none) else (bif (inI ((gi d 2).int + 1)) then (bif ((((Nat.beq (gi g2 0).rows.length (gi g2 0).rows.length) && true) && true) && true) then some (none, [.l (gi g2 0).rows, .s (gi g1 1).str, .i ((gi d 2).int + 1)]) else none) else none))))) else (bif ((((Nat.beq (gi d 0).rows.length (gi d 0).rows.length) && true) && true) && true) then some (some 1, [.l (gi d 0).rows]) else none))
def l_r2_Lines_2 : LSpec := ⟨2, [], ⟨30, [(0, .s (.str)), (1, .clo 74 [.ptr 0 0]), (6, .s (.int .i64))], [.box [.vec 1 8], .vec KCt 1]⟩, [.fix 0, .cell 0 0], [⟨.ret, ⟨30, [(4, .s (.int .i64)), (5, .s (.bool))], [.box [.vec 1 8], .vec KCt 1]⟩, [.fix 0, .cell 0 0]⟩, ⟨.exit 0, ⟨30, [], [.box [.vec 1 8], .vec KCt 1]⟩, [.fix 0, .cell 0 0]⟩], st_r2_Lines_2⟩
theorem r_r2_Lines_2 : RoundOK P t92 nL0 2 (loopAt Tryz.f58 2) l_r2_Lines_2 := fun d => by kernel_rfl
def L_r2_Lines_2 : LT := nL0.add 2 l_r2_Lines_2
theorem L_r2_Lines_2_ok : LpK P 2 L_r2_Lines_2 (bodyOf Tryz.f58) := LpK.a hm t92_ok (nLk _ _ _) r_r2_Lines_2
def F_r2_Lines (d : List G) : Option (List G) :=
 (loopB ((((Nat.beq (gi d 0).rows.length (gi d 0).rows.length) && true) && true) && true) (LRun st_r2_Lines_2 [.l (gi d 0).rows, .s (gi d 1).str, .i 0]) fun cg3 g3 => (bif Nat.beq cg3 0 then (bif ((((Nat.beq (gi g3 0).rows.length (gi g3 0).rows.length) && true) && true) && true) then some [.l (gi g3 0).rows, .i (gi g3 1).int, .t (gi g3 2).bool] else none) else (bif ((((Nat.beq (gi g3 0).rows.length (gi g3 0).rows.length) && true) && true) && true) then some [.l (gi g3 0).rows, .i 0, .t true] else none)))
def s_r2_Lines : FSpec := ⟨58, [.s (.str), .clo 74 [.ptr 0 0]], [.box [.vec 1 8], .vec KCt 0], [.cap 1 0, .cell 0 0], [.s (.int .i64), .s (.bool)], [.box [.vec 1 8], .vec KCt 1], [.fix 0, .fix 1], [], F_r2_Lines⟩
theorem b_r2_Lines : BodyOK P t92 L_r2_Lines_2 Tryz.f58 s_r2_Lines := fun d => by kernel_rfl
theorem c_r2_Lines : COK P s_r2_Lines := bdC hm t92_ok Tryz.func58 L_r2_Lines_2_ok b_r2_Lines
def t93 : Tab := t92.addW s_r2_Lines
theorem t93_ok : TabOK P t93 := t92_ok.aW c_r2_Lines

def st_sl_Equal_Contact_4 (d : List G) : Option (Option Nat × List G) :=
 (bif (ltI (gi d 3).int (gi d 2).int) then (bif ((nnI (gi d 3).int) && (ltI (gi d 3).int (((gi d 0).rows.length : Nat) : Int))) then (bif ((nnI (gi d 3).int) && (ltI (gi d 3).int (((gi d 1).rows.length : Nat) : Int))) then (bif (!(rowEq KCt (gEta KCt ((gi d 0).rows.getD (((gi d 3).int).toNat) [])) (gEta KCt ((gi d 1).rows.getD (((gi d 3).int).toNat) [])))) then some (some 0, [.t false]) else (bif (inI ((gi d 3).int + 1)) then some (none, [.l (gi d 0).rows, .l (gi d 1).rows, .i (gi d 2).int, .i ((gi d 3).int + 1)]) else none)) else none) else none) else some (some 1, []))
def l_sl_Equal_Contact_4 : LSpec := ⟨4, [], ⟨26, [(0, .s (.list KCt)), (1, .s (.list KCt)), (12, .s (.int .i64)), (13, .s (.int .i64))], []⟩, [], [⟨.ret, ⟨26, [(4, .s (.bool))], []⟩, []⟩, ⟨.exit 0, ⟨26, [], []⟩, []⟩], st_sl_Equal_Contact_4⟩
theorem r_sl_Equal_Contact_4 : RoundOK P t93 nL0 0 (loopAt Tryz.f23 4) l_sl_Equal_Contact_4 := fun d => by kernel_rfl
def L_sl_Equal_Contact_4 : LT := nL0.add 0 l_sl_Equal_Contact_4
theorem L_sl_Equal_Contact_4_ok : LpK P 0 L_sl_Equal_Contact_4 (bodyOf Tryz.f23) := LpK.a hm t93_ok (nLk _ _ _) r_sl_Equal_Contact_4
def F_sl_Equal_Contact (d : List G) : Option (List G) :=
 (bif ((((gi d 0).rows.length : Nat) : Int) != (((gi d 1).rows.length : Nat) : Int)) then some [.t false] else (loopB true (LRun st_sl_Equal_Contact_4 [.l (gi d 0).rows, .l (gi d 1).rows, .i (((gi d 0).rows.length : Nat) : Int), .i 0]) fun cg1 g1 => (bif Nat.beq cg1 0 then some [.t (gi g1 0).bool] else some [.t true])))
def s_sl_Equal_Contact : FSpec := ⟨23, [.s (.list KCt), .s (.list KCt)], [], [], [.s (.bool)], [], [], [], F_sl_Equal_Contact⟩
theorem b_sl_Equal_Contact : BodyOK P t93 L_sl_Equal_Contact_4 Tryz.f23 s_sl_Equal_Contact := fun d => by kernel_rfl
theorem c_sl_Equal_Contact : COK P s_sl_Equal_Contact := bdC hm t93_ok Tryz.func23 L_sl_Equal_Contact_4_ok b_sl_Equal_Contact
def t94 : Tab := t93.addP s_sl_Equal_Contact
theorem t94_ok : TabOK P t94 := t93_ok.aP c_sl_Equal_Contact

def F_call_BaseOf (d : List G) : Option (List G) :=
 (callF (F_call_Parts [.s (gi d 0).str]) fun g1 => some [.s (gi (gi g1 0).row 0).str])
def s_call_BaseOf : FSpec := ⟨164, [.s (.str)], [], [], [.s (.str)], [], [], [], F_call_BaseOf⟩
theorem b_call_BaseOf : BodyOK P t94 nL0 Tryz.f164 s_call_BaseOf := fun d => by kernel_rfl
theorem c_call_BaseOf : COK P s_call_BaseOf := bdC hm t94_ok Tryz.func164 (nLk _ _ _) b_call_BaseOf
def t95 : Tab := t94.addP s_call_BaseOf
theorem t95_ok : TabOK P t95 := t94_ok.aP c_call_BaseOf

def st_log_dupes_4 (d : List G) : Option (Option Nat × List G) :=
 (bif (ltI (gi d 5).int (gi d 4).int) then (bif ((nnI (gi d 5).int) && (ltI (gi d 5).int (((gi d 3).rows.length : Nat) : Int))) then (callF (F_call_BaseOf [.s (gi ((gi d 3).rows.getD (((gi d 5).int).toNat) []) 3).str]) fun g1 => (bif (gi (mget [.str, .str, .int .i64] (gi d 0).rows [.s (gi g1 0).str, .s (gi ((gi d 3).rows.getD (((gi d 5).int).toNat) []) 2).str, .i (gi ((gi d 3).rows.getD (((gi d 5).int).toNat) []) 1).int] [.t false]) 0).bool then (bif ((Nat.beq (gi d 2).rows.length (gi d 2).rows.length) && (decide (((gi d 2).rows.length + 1) ≤ 1048576))) then (bif (inI ((gi d 5).int + 1)) then (bif ((Nat.beq ((gi d 2).rows ++ ([[.i (gi d 5).int]] : List (List G))).length ((gi d 2).rows ++ ([[.i (gi d 5).int]] : List (List G))).length) && true) then some (none, [.l (mput [.str, .str, .int .i64] (gi d 0).rows [.s (gi g1 0).str, .s (gi ((gi d 3).rows.getD (((gi d 5).int).toNat) []) 2).str, .i (gi ((gi d 3).rows.getD (((gi d 5).int).toNat) []) 1).int] [.t true] (gi d 1).int.toNat), .i (((mclk [.str, .str, .int .i64] (gi d 0).rows [.s (gi g1 0).str, .s (gi ((gi d 3).rows.getD (((gi d 5).int).toNat) []) 2).str, .i (gi ((gi d 3).rows.getD (((gi d 5).int).toNat) []) 1).int] (gi d 1).int.toNat) : Nat) : Int), .l ((gi d 2).rows ++ ([[.i (gi d 5).int]] : List (List G))), .l (gi d 3).rows, .i (gi d 4).int, .i ((gi d 5).int + 1)]) else none) else none) else none) else (bif (inI ((gi d 5).int + 1)) then (bif ((Nat.beq (gi d 2).rows.length (gi d 2).rows.length) && true) then some (none, [.l (mput [.str, .str, .int .i64] (gi d 0).rows [.s (gi g1 0).str, .s (gi ((gi d 3).rows.getD (((gi d 5).int).toNat) []) 2).str, .i (gi ((gi d 3).rows.getD (((gi d 5).int).toNat) []) 1).int] [.t true] (gi d 1).int.toNat), .i (((mclk [.str, .str, .int .i64] (gi d 0).rows [.s (gi g1 0).str, .s (gi ((gi d 3).rows.getD (((gi d 5).int).toNat) []) 2).str, .i (gi ((gi d 3).rows.getD (((gi d 5).int).toNat) []) 1).int] (gi d 1).int.toNat) : Nat) : Int), .l (gi d 2).rows, .l (gi d 3).rows, .i (gi d 4).int, .i ((gi d 5).int + 1)]) else none) else none))) else none) else (bif ((Nat.beq (gi d 2).rows.length (gi d 2).rows.length) && true) then some (some 0, [.l (gi d 2).rows]) else none))
def l_log_dupes_4 : LSpec := ⟨4, [(4, [.int .i64])], ⟨35, [(3, .s (.map 0)), (4, .s (.vec 1 1)), (9, .s (.list KCt)), (10, .s (.int .i64)), (11, .s (.int .i64))], [.map (.agg [.str, .str, .int .i64]) (.one (.bool)), .vec [.int .i64] 0]⟩, [.slot 3, .slot 4], [⟨.exit 0, ⟨35, [(4, .s (.vec 0 1))], [.vec [.int .i64] 0]⟩, [.slot 4]⟩], st_log_dupes_4⟩
theorem r_log_dupes_4 : RoundOK P t95 nL0 0 (loopAt Tryz.f126 4) l_log_dupes_4 := fun d => by kernel_rfl
def L_log_dupes_4 : LT := nL0.add 0 l_log_dupes_4
theorem L_log_dupes_4_ok : LpK P 0 L_log_dupes_4 (bodyOf Tryz.f126) := LpK.a hm t95_ok (nLk _ _ _) r_log_dupes_4
def F_log_dupes (d : List G) : Option (List G) :=
 (loopB true (LRun st_log_dupes_4 [.l [], .i 0, .l [], .l (gi d 0).rows, .i (((gi d 0).rows.length : Nat) : Int), .i 0]) fun cg2 g2 => (bif ((Nat.beq (gi g2 0).rows.length (gi g2 0).rows.length) && true) then some [.l (gi g2 0).rows] else none))
def s_log_dupes : FSpec := ⟨126, [.s (.list KCt)], [], [], [.s (.list [.int .i64])], [], [], [], F_log_dupes⟩
theorem b_log_dupes : BodyOK P t95 L_log_dupes_4 Tryz.f126 s_log_dupes := fun d => by kernel_rfl
theorem c_log_dupes : COK P s_log_dupes := bdC hm t95_ok Tryz.func126 L_log_dupes_4_ok b_log_dupes
def t96 : Tab := t95.addP s_log_dupes
theorem t96_ok : TabOK P t96 := t95_ok.aP c_log_dupes

def F_log_Dupes (d : List G) : Option (List G) :=
 (callF (F_log_CheckLog [.l (gi d 0).rows]) fun g1 => (bif ((gi g1 0).int != 0) then some [.l [], .i (gi g1 0).int] else (callF (F_log_dupes [.l (gi d 0).rows]) fun g2 => some [.l (gi g2 0).rows, .i 0])))
def s_log_Dupes : FSpec := ⟨76, [.s (.list KCt)], [], [], [.s (.list [.int .i64]), .s (.int .i64)], [], [], [], F_log_Dupes⟩
theorem b_log_Dupes : BodyOK P t96 nL0 Tryz.f76 s_log_Dupes := fun d => by kernel_rfl
theorem c_log_Dupes : COK P s_log_Dupes := bdC hm t96_ok Tryz.func76 (nLk _ _ _) b_log_Dupes
def t97 : Tab := t96.addP s_log_Dupes
theorem t97_ok : TabOK P t97 := t96_ok.aP c_log_Dupes

def st_sl_Equal_int_4 (d : List G) : Option (Option Nat × List G) :=
 (bif (ltI (gi d 3).int (gi d 2).int) then (bif ((nnI (gi d 3).int) && (ltI (gi d 3).int (((gi d 0).rows.length : Nat) : Int))) then (bif ((nnI (gi d 3).int) && (ltI (gi d 3).int (((gi d 1).rows.length : Nat) : Int))) then (bif ((gi ((gi d 0).rows.getD (((gi d 3).int).toNat) []) 0).int != (gi ((gi d 1).rows.getD (((gi d 3).int).toNat) []) 0).int) then some (some 0, [.t false]) else (bif (inI ((gi d 3).int + 1)) then some (none, [.l (gi d 0).rows, .l (gi d 1).rows, .i (gi d 2).int, .i ((gi d 3).int + 1)]) else none)) else none) else none) else some (some 1, []))
def l_sl_Equal_int_4 : LSpec := ⟨4, [], ⟨26, [(0, .s (.list [.int .i64])), (1, .s (.list [.int .i64])), (12, .s (.int .i64)), (13, .s (.int .i64))], []⟩, [], [⟨.ret, ⟨26, [(4, .s (.bool))], []⟩, []⟩, ⟨.exit 0, ⟨26, [], []⟩, []⟩], st_sl_Equal_int_4⟩
theorem r_sl_Equal_int_4 : RoundOK P t97 nL0 0 (loopAt Tryz.f77 4) l_sl_Equal_int_4 := fun d => by kernel_rfl
def L_sl_Equal_int_4 : LT := nL0.add 0 l_sl_Equal_int_4
theorem L_sl_Equal_int_4_ok : LpK P 0 L_sl_Equal_int_4 (bodyOf Tryz.f77) := LpK.a hm t97_ok (nLk _ _ _) r_sl_Equal_int_4
def F_sl_Equal_int (d : List G) : Option (List G) :=
 (bif ((((gi d 0).rows.length : Nat) : Int) != (((gi d 1).rows.length : Nat) : Int)) then some [.t false] else (loopB true (LRun st_sl_Equal_int_4 [.l (gi d 0).rows, .l (gi d 1).rows, .i (((gi d 0).rows.length : Nat) : Int), .i 0]) fun cg1 g1 => (bif Nat.beq cg1 0 then some [.t (gi g1 0).bool] else some [.t true])))
def s_sl_Equal_int : FSpec := ⟨77, [.s (.list [.int .i64]), .s (.list [.int .i64])], [], [], [.s (.bool)], [], [], [], F_sl_Equal_int⟩
theorem b_sl_Equal_int : BodyOK P t97 L_sl_Equal_int_4 Tryz.f77 s_sl_Equal_int := fun d => by kernel_rfl
theorem c_sl_Equal_int : COK P s_sl_Equal_int := bdC hm t97_ok Tryz.func77 L_sl_Equal_int_4_ok b_sl_Equal_int
def t98 : Tab := t97.addP s_sl_Equal_int
theorem t98_ok : TabOK P t98 := t97_ok.aP c_sl_Equal_int

def F_l2_logged (d : List G) : Option (List G) :=
 (callF (F_log_Dupes [.l [[.i 0, .i 1, .s (⟨#[98]⟩ : ByteArray), .s (⟨#[107, 49, 97, 98]⟩ : ByteArray), .i 0, .i 0, .s (⟨#[]⟩ : ByteArray), .s (⟨#[]⟩ : ByteArray)], [.i 5, .i 1, .s (⟨#[98]⟩ : ByteArray), .s (⟨#[107, 49, 97, 98]⟩ : ByteArray), .i 0, .i 0, .s (⟨#[]⟩ : ByteArray), .s (⟨#[]⟩ : ByteArray)]]]) fun g1 => (bif ((gi g1 1).int == 0) then (callF (F_sl_Equal_int [.l (gi g1 0).rows, .l [[.i 1]]]) fun g2 => some [.t (gi g2 0).bool]) else some [.t false]))
def s_l2_logged : FSpec := ⟨24, [], [], [], [.s (.bool)], [], [], [], F_l2_logged⟩
theorem b_l2_logged : BodyOK P t98 nL0 Tryz.f24 s_l2_logged := fun d => by kernel_rfl
theorem c_l2_logged : COK P s_l2_logged := bdC hm t98_ok Tryz.func24 (nLk _ _ _) b_l2_logged
def t99 : Tab := t98.addP s_l2_logged
theorem t99_ok : TabOK P t99 := t98_ok.aP c_l2_logged

attribute [instance] drF
theorem w99_ok : TabOK P t99 := t99_ok.anyDr
def F_strings_ContainsAny (d : List G) : Option (List G) :=
 any1F d
def s_strings_ContainsAny : FSpec := ⟨187, [.s (.str), .s (.str)], [], [], [.s (.bool)], [], [], [], F_strings_ContainsAny⟩
theorem c_strings_ContainsAny : ∀ d r, F_strings_ContainsAny d = some r → ACallX P 187 (s_strings_ContainsAny.args0 d) (denH (s_strings_ContainsAny.H0 d)) (s_strings_ContainsAny.out r) (denH (s_strings_ContainsAny.H1 r)) := fun d r h => any_call rfl Tryz.laysAny (by kernel_rfl) d r h
def t100 : Tab := t99.addP s_strings_ContainsAny
theorem t100_ok : TabOK P t100 := w99_ok.aP c_strings_ContainsAny

def F_r1_plain (d : List G) : Option (List G) :=
 (callF (F_r1_in [.i (((gi d 0).str.size : Nat) : Int), .i (gi d 1).int, .i (gi d 2).int]) fun g1 => (bif (gi g1 0).bool then (callF (F_strings_Trim [.s (gi d 0).str, .s (⟨#[97, 98, 99, 100, 101, 102, 103, 104, 105, 106, 107, 108, 109, 110, 111, 112, 113, 114, 115, 116, 117, 118, 119, 120, 121, 122, 48, 49, 50, 51, 52, 53, 54, 55, 56, 57]⟩ : ByteArray)]) fun g2 => (bif ((gi g2 0).str.toList == (⟨#[]⟩ : ByteArray).toList) then (callF (F_strings_ContainsAny [.s (gi d 0).str, .s (⟨#[97, 98, 99, 100, 101, 102, 103, 104, 105, 106, 107, 108, 109, 110, 111, 112, 113, 114, 115, 116, 117, 118, 119, 120, 121, 122]⟩ : ByteArray)]) fun g3 => some [.t (gi g3 0).bool]) else some [.t false])) else some [.t false]))
def s_r1_plain : FSpec := ⟨185, [.s (.str), .s (.int .i64), .s (.int .i64)], [], [], [.s (.bool)], [], [], [], F_r1_plain⟩
theorem b_r1_plain : BodyOK P t100 nL0 Tryz.f185 s_r1_plain := fun d => by kernel_rfl
theorem c_r1_plain : COK P s_r1_plain := bdC hm t100_ok Tryz.func185 (nLk _ _ _) b_r1_plain
def t101 : Tab := t100.addP s_r1_plain
theorem t101_ok : TabOK P t101 := t100_ok.aP c_r1_plain

def F_r1_baseAt (d : List G) : Option (List G) :=
 (callF (F_strings_LastIndexAny [.s (gi d 0).str, .s (⟨#[48, 49, 50, 51, 52, 53, 54, 55, 56, 57]⟩ : ByteArray)]) fun g1 => (callF (F_r1_plain [.s (gi d 0).str, .i 3, .i 10]) fun g2 => (bif (!(gi g2 0).bool) then some [.i (-1)] else (callF (F_r1_in [.i (gi g1 0).int, .i 1, .i 3]) fun g3 => (bif (!(gi g3 0).bool) then some [.i (-1)] else (bif (inI ((((gi d 0).str.size : Nat) : Int) - 1)) then (bif (inI (((((gi d 0).str.size : Nat) : Int) - 1) - (gi g1 0).int)) then (callF (F_r1_in [.i (((((gi d 0).str.size : Nat) : Int) - 1) - (gi g1 0).int), .i 1, .i 4]) fun g4 => (bif (!(gi g4 0).bool) then some [.i (-1)] else (bif ((nnI (gi g1 0).int) && (leI (gi g1 0).int (((gi d 0).str.size : Nat) : Int))) then (callF (F_strings_ContainsAny [.s ((gi d 0).str.extract 0 ((gi g1 0).int).toNat), .s (⟨#[97, 98, 99, 100, 101, 102, 103, 104, 105, 106, 107, 108, 109, 110, 111, 112, 113, 114, 115, 116, 117, 118, 119, 120, 121, 122]⟩ : ByteArray)]) fun g5 => (bif (!(gi g5 0).bool) then some [.i (-1)] else some [.i (gi g1 0).int])) else none))) else none) else none))))))
def s_r1_baseAt : FSpec := ⟨144, [.s (.str)], [], [], [.s (.int .i64)], [], [], [], F_r1_baseAt⟩
theorem b_r1_baseAt : BodyOK P t101 nL0 Tryz.f144 s_r1_baseAt := fun d => by kernel_rfl
theorem c_r1_baseAt : COK P s_r1_baseAt := bdC hm t101_ok Tryz.func144 (nLk _ _ _) b_r1_baseAt
def t102 : Tab := t101.addP s_r1_baseAt
theorem t102_ok : TabOK P t102 := t101_ok.aP c_r1_baseAt

def F_r1_PartsOf_1 (d : List G) : Option (List G) :=
 (callF (F_r1_baseAt [.s (gi d 0).str]) fun g1 => (bif (inI ((gi g1 0).int + 1)) then (bif ((nnI ((gi g1 0).int + 1)) && (leI ((gi g1 0).int + 1) (((gi d 0).str.size : Nat) : Int))) then (bif (inI ((gi g1 0).int + 1)) then (bif ((nnI ((gi g1 0).int + 1)) && (leI ((gi g1 0).int + 1) (((gi d 0).str.size : Nat) : Int))) then some [.l [[.s (gi d 0).str, .s ((gi d 0).str.extract 0 ((gi g1 0).int + 1).toNat), .s ((gi d 0).str.extract ((gi g1 0).int + 1).toNat (gi d 0).str.size), .i 0, .s (⟨#[]⟩ : ByteArray)]]] else none) else none) else none) else none))
def s_r1_PartsOf_1 : FSpec := ⟨143, [.s (.str)], [], [], [.s (.row KParts)], [], [], [], F_r1_PartsOf_1⟩
theorem b_r1_PartsOf_1 : BodyOK P t102 nL0 Tryz.f143 s_r1_PartsOf_1 := fun d => by kernel_rfl
theorem c_r1_PartsOf_1 : COK P s_r1_PartsOf_1 := bdC hm t102_ok Tryz.func143 (nLk _ _ _) b_r1_PartsOf_1
def t103 : Tab := t102.addP s_r1_PartsOf_1
theorem t103_ok : TabOK P t103 := t102_ok.aP c_r1_PartsOf_1

def F_r1_begin (d : List G) : Option (List G) :=
 (callF (F_r1_plain [.s (gi d 0).str, .i 1, .i 4]) fun g1 => some [.t (gi g1 0).bool])
def s_r1_begin : FSpec := ⟨145, [.s (.str)], [], [], [.s (.bool)], [], [], [], F_r1_begin⟩
theorem b_r1_begin : BodyOK P t103 nL0 Tryz.f145 s_r1_begin := fun d => by kernel_rfl
theorem c_r1_begin : COK P s_r1_begin := bdC hm t103_ok Tryz.func145 (nLk _ _ _) b_r1_begin
def t104 : Tab := t103.addP s_r1_begin
theorem t104_ok : TabOK P t104 := t103_ok.aP c_r1_begin

def F_r1_PartsOf (d : List G) : Option (List G) :=
 (callF (F_strings_Cut [.s (gi d 0).str, .s (⟨#[47]⟩ : ByteArray)]) fun g1 => (bif (ltI 14 (((gi d 0).str.size : Nat) : Int)) then some [.l [[.s (⟨#[]⟩ : ByteArray), .s (⟨#[]⟩ : ByteArray), .s (⟨#[]⟩ : ByteArray), .i 0, .s (⟨#[]⟩ : ByteArray)]], .t false] else (bif (!(gi g1 2).bool) then (callF (F_r1_baseAt [.s (gi g1 0).str]) fun g2 => (bif (ltI (gi g2 0).int 0) then some [.l [[.s (⟨#[]⟩ : ByteArray), .s (⟨#[]⟩ : ByteArray), .s (⟨#[]⟩ : ByteArray), .i 0, .s (⟨#[]⟩ : ByteArray)]], .t false] else (callF (F_r1_PartsOf_1 [.s (gi g1 0).str]) fun g3 => some [.l [(gEta KParts (gi g3 0).row)], .t true]))) else (callF (F_r1_baseAt [.s (gi g1 1).str]) fun g4 => (bif (leI 0 (gi g4 0).int) then (callF (F_r1_begin [.s (gi g1 0).str]) fun g5 => (bif (gi g5 0).bool then (callF (F_r1_PartsOf_1 [.s (gi g1 1).str]) fun g6 => some [.l [[.s (gi (gi g6 0).row 0).str, .s (gi (gi g6 0).row 1).str, .s (gi (gi g6 0).row 2).str, .i 1, .s (gi g1 0).str]], .t true]) else (callF (F_r1_baseAt [.s (gi g1 0).str]) fun g7 => (bif (ltI (gi g7 0).int 0) then some [.l [[.s (⟨#[]⟩ : ByteArray), .s (⟨#[]⟩ : ByteArray), .s (⟨#[]⟩ : ByteArray), .i 0, .s (⟨#[]⟩ : ByteArray)]], .t false] else (callF (F_r1_PartsOf_1 [.s (gi g1 0).str]) fun g8 => (bif ((gi g1 1).str.toList == (⟨#[112]⟩ : ByteArray).toList) then some [.l [[.s (gi (gi g8 0).row 0).str, .s (gi (gi g8 0).row 1).str, .s (gi (gi g8 0).row 2).str, .i 3, .s (gi (gi g8 0).row 4).str]], .t true] else (bif ((gi g1 1).str.toList == (⟨#[109]⟩ : ByteArray).toList) then some [.l [[.s (gi (gi g8 0).row 0).str, .s (gi (gi g8 0).row 1).str, .s (gi (gi g8 0).row 2).str, .i 4, .s (gi (gi g8 0).row 4).str]], .t true] else (bif ((gi g1 1).str.toList == (⟨#[109, 109]⟩ : ByteArray).toList) then some [.l [[.s (gi (gi g8 0).row 0).str, .s (gi (gi g8 0).row 1).str, .s (gi (gi g8 0).row 2).str, .i 5, .s (gi (gi g8 0).row 4).str]], .t true] else (bif ((gi g1 1).str.toList == (⟨#[97, 109]⟩ : ByteArray).toList) then some [.l [[.s (gi (gi g8 0).row 0).str, .s (gi (gi g8 0).row 1).str, .s (gi (gi g8 0).row 2).str, .i 6, .s (gi (gi g8 0).row 4).str]], .t true] else (bif ((((gi g1 1).str.size : Nat) : Int) == 1) then (callF (F_strings_Contains [.s (⟨#[48, 49, 50, 51, 52, 53, 54, 55, 56, 57]⟩ : ByteArray), .s (gi g1 1).str]) fun g9 => (bif (gi g9 0).bool then some [.l [[.s (gi (gi g8 0).row 0).str, .s (gi (gi g8 0).row 1).str, .s (gi (gi g8 0).row 2).str, .i 2, .s (gi g1 1).str]], .t true] else (callF (F_r1_begin [.s (gi g1 1).str]) fun g10 => (bif (gi g10 0).bool then some [.l [[.s (gi (gi g8 0).row 0).str, .s (gi (gi g8 0).row 1).str, .s (gi (gi g8 0).row 2).str, .i 1, .s (gi g1 1).str]], .t true] else some [.l [[.s (⟨#[]⟩ : ByteArray), .s (⟨#[]⟩ : ByteArray), .s (⟨#[]⟩ : ByteArray), .i 0, .s (⟨#[]⟩ : ByteArray)]], .t false])))) else (callF (F_r1_begin [.s (gi g1 1).str]) fun g11 => (bif (gi g11 0).bool then some [.l [[.s (gi (gi g8 0).row 0).str, .s (gi (gi g8 0).row 1).str, .s (gi (gi g8 0).row 2).str, .i 1, .s (gi g1 1).str]], .t true] else some [.l [[.s (⟨#[]⟩ : ByteArray), .s (⟨#[]⟩ : ByteArray), .s (⟨#[]⟩ : ByteArray), .i 0, .s (⟨#[]⟩ : ByteArray)]], .t false])))))))))))) else (callF (F_r1_baseAt [.s (gi g1 0).str]) fun g12 => (bif (ltI (gi g12 0).int 0) then some [.l [[.s (⟨#[]⟩ : ByteArray), .s (⟨#[]⟩ : ByteArray), .s (⟨#[]⟩ : ByteArray), .i 0, .s (⟨#[]⟩ : ByteArray)]], .t false] else (callF (F_r1_PartsOf_1 [.s (gi g1 0).str]) fun g13 => (bif ((gi g1 1).str.toList == (⟨#[112]⟩ : ByteArray).toList) then some [.l [[.s (gi (gi g13 0).row 0).str, .s (gi (gi g13 0).row 1).str, .s (gi (gi g13 0).row 2).str, .i 3, .s (gi (gi g13 0).row 4).str]], .t true] else (bif ((gi g1 1).str.toList == (⟨#[109]⟩ : ByteArray).toList) then some [.l [[.s (gi (gi g13 0).row 0).str, .s (gi (gi g13 0).row 1).str, .s (gi (gi g13 0).row 2).str, .i 4, .s (gi (gi g13 0).row 4).str]], .t true] else (bif ((gi g1 1).str.toList == (⟨#[109, 109]⟩ : ByteArray).toList) then some [.l [[.s (gi (gi g13 0).row 0).str, .s (gi (gi g13 0).row 1).str, .s (gi (gi g13 0).row 2).str, .i 5, .s (gi (gi g13 0).row 4).str]], .t true] else (bif ((gi g1 1).str.toList == (⟨#[97, 109]⟩ : ByteArray).toList) then some [.l [[.s (gi (gi g13 0).row 0).str, .s (gi (gi g13 0).row 1).str, .s (gi (gi g13 0).row 2).str, .i 6, .s (gi (gi g13 0).row 4).str]], .t true] else (bif ((((gi g1 1).str.size : Nat) : Int) == 1) then (callF (F_strings_Contains [.s (⟨#[48, 49, 50, 51, 52, 53, 54, 55, 56, 57]⟩ : ByteArray), .s (gi g1 1).str]) fun g14 => (bif (gi g14 0).bool then some [.l [[.s (gi (gi g13 0).row 0).str, .s (gi (gi g13 0).row 1).str, .s (gi (gi g13 0).row 2).str, .i 2, .s (gi g1 1).str]], .t true] else (callF (F_r1_begin [.s (gi g1 1).str]) fun g15 => (bif (gi g15 0).bool then some [.l [[.s (gi (gi g13 0).row 0).str, .s (gi (gi g13 0).row 1).str, .s (gi (gi g13 0).row 2).str, .i 1, .s (gi g1 1).str]], .t true] else some [.l [[.s (⟨#[]⟩ : ByteArray), .s (⟨#[]⟩ : ByteArray), .s (⟨#[]⟩ : ByteArray), .i 0, .s (⟨#[]⟩ : ByteArray)]], .t false])))) else (callF (F_r1_begin [.s (gi g1 1).str]) fun g16 => (bif (gi g16 0).bool then some [.l [[.s (gi (gi g13 0).row 0).str, .s (gi (gi g13 0).row 1).str, .s (gi (gi g13 0).row 2).str, .i 1, .s (gi g1 1).str]], .t true] else some [.l [[.s (⟨#[]⟩ : ByteArray), .s (⟨#[]⟩ : ByteArray), .s (⟨#[]⟩ : ByteArray), .i 0, .s (⟨#[]⟩ : ByteArray)]], .t false])))))))))))))))
def s_r1_PartsOf : FSpec := ⟨104, [.s (.str)], [], [], [.s (.row KParts), .s (.bool)], [], [], [], F_r1_PartsOf⟩
theorem b_r1_PartsOf : BodyOK P t104 nL0 Tryz.f104 s_r1_PartsOf := fun d => by kernel_rfl
theorem c_r1_PartsOf : COK P s_r1_PartsOf := bdC hm t104_ok Tryz.func104 (nLk _ _ _) b_r1_PartsOf
def t105 : Tab := t104.addP s_r1_PartsOf
theorem t105_ok : TabOK P t105 := t104_ok.aP c_r1_PartsOf

def F_r2_Call (d : List G) : Option (List G) :=
 (callF (F_r1_PartsOf [.s (gi d 0).str]) fun g1 => some [.t (gi g1 1).bool])
def s_r2_Call : FSpec := ⟨53, [.s (.str)], [], [], [.s (.bool)], [], [], [], F_r2_Call⟩
theorem b_r2_Call : BodyOK P t105 nL0 Tryz.f53 s_r2_Call := fun d => by kernel_rfl
theorem c_r2_Call : COK P s_r2_Call := bdC hm t105_ok Tryz.func53 (nLk _ _ _) b_r2_Call
def t106 : Tab := t105.addP s_r2_Call
theorem t106_ok : TabOK P t106 := t105_ok.aP c_r2_Call

def F_r2_ContactFault (d : List G) : Option (List G) :=
 (callF (F_r2_Moment [.i (gi (gi d 0).row 0).int]) fun g1 => (bif (!(gi g1 0).bool) then some [.i 1] else (callF (F_r2_in [.i (gi (gi d 0).row 1).int, .i 1, .i 3]) fun g2 => (bif (!(gi g2 0).bool) then some [.i 4] else (callF (F_r2_Key [.s (gi (gi d 0).row 2).str]) fun g3 => (bif (!(gi g3 0).bool) then some [.i 5] else (callF (F_r2_Call [.s (gi (gi d 0).row 3).str]) fun g4 => (bif (!(gi g4 0).bool) then some [.i 3] else (callF (F_r2_in [.i (gi (gi d 0).row 4).int, .i 0, .i 99999]) fun g5 => (bif (!(gi g5 0).bool) then some [.i 1] else (callF (F_r2_in [.i (gi (gi d 0).row 5).int, .i 0, .i 99999]) fun g6 => (bif (!(gi g6 0).bool) then some [.i 1] else (bif (!((gi (gi d 0).row 6).str.toList == (⟨#[]⟩ : ByteArray).toList)) then (callF (F_r2_Key [.s (gi (gi d 0).row 6).str]) fun g7 => (bif (!(gi g7 0).bool) then some [.i 5] else (bif (!((gi (gi d 0).row 7).str.toList == (⟨#[]⟩ : ByteArray).toList)) then (callF (F_r2_Key [.s (gi (gi d 0).row 7).str]) fun g8 => (bif (!(gi g8 0).bool) then some [.i 5] else some [.i 0])) else some [.i 0]))) else (bif (!((gi (gi d 0).row 7).str.toList == (⟨#[]⟩ : ByteArray).toList)) then (callF (F_r2_Key [.s (gi (gi d 0).row 7).str]) fun g9 => (bif (!(gi g9 0).bool) then some [.i 5] else some [.i 0])) else some [.i 0]))))))))))))))
def s_r2_ContactFault : FSpec := ⟨71, [.s (.row KCt)], [], [], [.s (.int .i64)], [], [], [], F_r2_ContactFault⟩
theorem b_r2_ContactFault : BodyOK P t106 nL0 Tryz.f71 s_r2_ContactFault := fun d => by kernel_rfl
theorem c_r2_ContactFault : COK P s_r2_ContactFault := bdC hm t106_ok Tryz.func71 (nLk _ _ _) b_r2_ContactFault
def t107 : Tab := t106.addP s_r2_ContactFault
theorem t107_ok : TabOK P t107 := t106_ok.aP c_r2_ContactFault

def st_r2_LogFault_4 (d : List G) : Option (Option Nat × List G) :=
 (bif (ltI (gi d 3).int (gi d 2).int) then (bif ((nnI (gi d 3).int) && (ltI (gi d 3).int (((gi d 1).rows.length : Nat) : Int))) then (callF (F_r2_ContactFault [.l [(gEta KCt ((gi d 1).rows.getD (((gi d 3).int).toNat) []))]]) fun g1 => (bif ((gi g1 0).int != 0) then some (some 0, [.i (gi g1 0).int]) else (bif (ltI 0 (gi d 3).int) then (bif (inI ((gi d 3).int - 1)) then (bif ((nnI ((gi d 3).int - 1)) && (ltI ((gi d 3).int - 1) (((gi d 0).rows.length : Nat) : Int))) then (callF (F_r2_ContactOrder [.l [(gEta KCt ((gi d 0).rows.getD (((gi d 3).int - 1).toNat) []))], .l [(gEta KCt ((gi d 1).rows.getD (((gi d 3).int).toNat) []))]]) fun g2 => (bif (leI 0 (gi g2 0).int) then some (some 0, [.i 7]) else (bif (inI ((gi d 3).int + 1)) then some (none, [.l (gi d 0).rows, .l (gi d 1).rows, .i (gi d 2).int, .i ((gi d 3).int + 1)]) else none))) else none) else none) else (bif (inI ((gi d 3).int + 1)) then some (none, [.l (gi d 0).rows, .l (gi d 1).rows, .i (gi d 2).int, .i ((gi d 3).int + 1)]) else none)))) else none) else some (some 1, []))
def l_r2_LogFault_4 : LSpec := ⟨4, [], ⟨34, [(0, .s (.list KCt)), (9, .s (.list KCt)), (10, .s (.int .i64)), (11, .s (.int .i64))], []⟩, [], [⟨.ret, ⟨34, [(2, .s (.int .i64))], []⟩, []⟩, ⟨.exit 0, ⟨34, [], []⟩, []⟩], st_r2_LogFault_4⟩
theorem r_r2_LogFault_4 : RoundOK P t107 nL0 0 (loopAt Tryz.f19 4) l_r2_LogFault_4 := fun d => by kernel_rfl
def L_r2_LogFault_4 : LT := nL0.add 0 l_r2_LogFault_4
theorem L_r2_LogFault_4_ok : LpK P 0 L_r2_LogFault_4 (bodyOf Tryz.f19) := LpK.a hm t107_ok (nLk _ _ _) r_r2_LogFault_4
def F_r2_LogFault (d : List G) : Option (List G) :=
 (bif (ltI 2000 (((gi d 0).rows.length : Nat) : Int)) then some [.i 2] else (loopB true (LRun st_r2_LogFault_4 [.l (gi d 0).rows, .l (gi d 0).rows, .i (((gi d 0).rows.length : Nat) : Int), .i 0]) fun cg3 g3 => (bif Nat.beq cg3 0 then some [.i (gi g3 0).int] else some [.i 0])))
def s_r2_LogFault : FSpec := ⟨19, [.s (.list KCt)], [], [], [.s (.int .i64)], [], [], [], F_r2_LogFault⟩
theorem b_r2_LogFault : BodyOK P t107 L_r2_LogFault_4 Tryz.f19 s_r2_LogFault := fun d => by kernel_rfl
theorem c_r2_LogFault : COK P s_r2_LogFault := bdC hm t107_ok Tryz.func19 L_r2_LogFault_4_ok b_r2_LogFault
def t108 : Tab := t107.addP s_r2_LogFault
theorem t108_ok : TabOK P t108 := t107_ok.aP c_r2_LogFault

def st_mk_RightContacts_2 (d : List G) : Option (Option Nat × List G) :=
 (bif (ltI (gi d 3).int 5) then (callF (F_mk_Contacts [.l (gi d 0).rows, .i (gi d 1).int, .i (gi d 2).int]) fun g1 => (callF (F_r2_LogFault [.l (gi g1 2).rows]) fun g2 => (bif ((gi g2 0).int == 0) then some (some 0, [.l (gi g1 0).rows, .i (gi g1 1).int, .l (gi g1 2).rows]) else (bif (inI ((gi d 3).int + 1)) then some (none, [.l (gi g1 0).rows, .i (gi g1 1).int, .i (gi d 2).int, .i ((gi d 3).int + 1)]) else none)))) else some (some 1, [.l (gi d 0).rows, .i (gi d 1).int]))
def l_mk_RightContacts_2 : LSpec := ⟨2, [], ⟨16, [(0, .s (.ptr 0 0)), (1, .s (.int .i64)), (6, .s (.int .i64))], [.box [.list [.int .i64], .int .i64]]⟩, [.fix 0], [⟨.ret, ⟨16, [(4, .s (.list KCt))], [.box [.list [.int .i64], .int .i64]]⟩, [.fix 0]⟩, ⟨.exit 0, ⟨16, [], [.box [.list [.int .i64], .int .i64]]⟩, [.fix 0]⟩], st_mk_RightContacts_2⟩
theorem r_mk_RightContacts_2 : RoundOK P t108 nL0 1 (loopAt Tryz.f68 2) l_mk_RightContacts_2 := fun d => by kernel_rfl
def L_mk_RightContacts_2 : LT := nL0.add 1 l_mk_RightContacts_2
theorem L_mk_RightContacts_2_ok : LpK P 1 L_mk_RightContacts_2 (bodyOf Tryz.f68) := LpK.a hm t108_ok (nLk _ _ _) r_mk_RightContacts_2
def F_mk_RightContacts (d : List G) : Option (List G) :=
 (loopB true (LRun st_mk_RightContacts_2 [.l (gi d 0).rows, .i (gi d 1).int, .i (gi d 2).int, .i 0]) fun cg3 g3 => (bif Nat.beq cg3 0 then some [.l (gi g3 0).rows, .i (gi g3 1).int, .l (gi g3 2).rows] else some [.l (gi g3 0).rows, .i (gi g3 1).int, .l []]))
def s_mk_RightContacts : FSpec := ⟨68, [.s (.ptr 0 0), .s (.int .i64)], [.box [.list [.int .i64], .int .i64]], [.slot 0], [.s (.list KCt)], [.box [.list [.int .i64], .int .i64]], [.fix 0], [], F_mk_RightContacts⟩
theorem b_mk_RightContacts : BodyOK P t108 L_mk_RightContacts_2 Tryz.f68 s_mk_RightContacts := fun d => by kernel_rfl
theorem c_mk_RightContacts : COK P s_mk_RightContacts := bdC hm t108_ok Tryz.func68 L_mk_RightContacts_2_ok b_mk_RightContacts
def t109 : Tab := t108.addW s_mk_RightContacts
theorem t109_ok : TabOK P t109 := t108_ok.aW c_mk_RightContacts

def F_strings_Join (d : List G) : Option (List G) :=
 joinF d
def s_strings_Join : FSpec := ⟨86, [.s (.list [.str]), .s (.str)], [], [], [.s (.str)], [], [], [], F_strings_Join⟩
theorem c_strings_Join : ∀ d r, F_strings_Join d = some r → ACallX P 86 (s_strings_Join.args0 d) (denH (s_strings_Join.H0 d)) (s_strings_Join.out r) (denH (s_strings_Join.H1 r)) := fun d r h => join_call rfl Tryz.laysJoin Tryz.laysJoin_x d r h
def t110 : Tab := t109.addP s_strings_Join
theorem t110_ok : TabOK P t110 := t109_ok.aP c_strings_Join

def F_r2_ContactLine (d : List G) : Option (List G) :=
 (callF (F_strconv_Itoa [.i (gi (gi d 0).row 0).int]) fun g1 => (callF (F_r2_plainModes []) fun g2 => (bif ((nnI (gi (gi d 0).row 1).int) && (ltI (gi (gi d 0).row 1).int (((gi g2 0).rows.length : Nat) : Int))) then (callF (F_strconv_Itoa [.i (gi (gi d 0).row 4).int]) fun g3 => (callF (F_r2_dash [.s (gi (gi d 0).row 6).str]) fun g4 => (callF (F_strconv_Itoa [.i (gi (gi d 0).row 5).int]) fun g5 => (callF (F_r2_dash [.s (gi (gi d 0).row 7).str]) fun g6 => (callF (F_strings_Join [.l [[.s (gi g1 0).str], [.s (gi ((gi g2 0).rows.getD (((gi (gi d 0).row 1).int).toNat) []) 0).str], [.s (gi (gi d 0).row 2).str], [.s (gi (gi d 0).row 3).str], [.s (gi g3 0).str], [.s (gi g4 0).str], [.s (gi g5 0).str], [.s (gi g6 0).str]], .s (⟨#[32]⟩ : ByteArray)]) fun g7 => some [.s (gi g7 0).str]))))) else none)))
def s_r2_ContactLine : FSpec := ⟨72, [.s (.row KCt)], [], [], [.s (.str)], [], [], [], F_r2_ContactLine⟩
theorem b_r2_ContactLine : BodyOK P t110 nL0 Tryz.f72 s_r2_ContactLine := fun d => by kernel_rfl
theorem c_r2_ContactLine : COK P s_r2_ContactLine := bdC hm t110_ok Tryz.func72 (nLk _ _ _) b_r2_ContactLine
def t111 : Tab := t110.addP s_r2_ContactLine
theorem t111_ok : TabOK P t111 := t110_ok.aP c_r2_ContactLine

def st_r2_LogLines_3 (d : List G) : Option (Option Nat × List G) :=
 (bif (ltI (gi d 3).int (gi d 2).int) then (bif ((nnI (gi d 3).int) && (ltI (gi d 3).int (((gi d 1).rows.length : Nat) : Int))) then (callF (F_r2_ContactLine [.l [(gEta KCt ((gi d 1).rows.getD (((gi d 3).int).toNat) []))]]) fun g1 => (bif (Nat.ble ((gi g1 0).str.size + 1) 9223372036854775807) then (bif (Nat.ble ((gi d 0).str.size + ((gi g1 0).str ++ (⟨#[10]⟩ : ByteArray)).size) 9223372036854775807) then (bif (inI ((gi d 3).int + 1)) then some (none, [.s ((gi d 0).str ++ ((gi g1 0).str ++ (⟨#[10]⟩ : ByteArray))), .l (gi d 1).rows, .i (gi d 2).int, .i ((gi d 3).int + 1)]) else none) else none) else none)) else none) else some (some 0, [.s (gi d 0).str]))
def l_r2_LogLines_3 : LSpec := ⟨3, [], ⟨19, [(3, .s (.str)), (6, .s (.list KCt)), (7, .s (.int .i64)), (8, .s (.int .i64))], []⟩, [], [⟨.exit 0, ⟨19, [(3, .s (.str))], []⟩, []⟩], st_r2_LogLines_3⟩
theorem r_r2_LogLines_3 : RoundOK P t111 nL0 0 (loopAt Tryz.f20 3) l_r2_LogLines_3 := fun d => by kernel_rfl
def L_r2_LogLines_3 : LT := nL0.add 0 l_r2_LogLines_3
theorem L_r2_LogLines_3_ok : LpK P 0 L_r2_LogLines_3 (bodyOf Tryz.f20) := LpK.a hm t111_ok (nLk _ _ _) r_r2_LogLines_3
def F_r2_LogLines (d : List G) : Option (List G) :=
 (loopB true (LRun st_r2_LogLines_3 [.s (⟨#[]⟩ : ByteArray), .l (gi d 0).rows, .i (((gi d 0).rows.length : Nat) : Int), .i 0]) fun cg2 g2 => some [.s (gi g2 0).str])
def s_r2_LogLines : FSpec := ⟨20, [.s (.list KCt)], [], [], [.s (.str)], [], [], [], F_r2_LogLines⟩
theorem b_r2_LogLines : BodyOK P t111 L_r2_LogLines_3 Tryz.f20 s_r2_LogLines := fun d => by kernel_rfl
theorem c_r2_LogLines : COK P s_r2_LogLines := bdC hm t111_ok Tryz.func20 L_r2_LogLines_3_ok b_r2_LogLines
def t112 : Tab := t111.addP s_r2_LogLines
theorem t112_ok : TabOK P t112 := t111_ok.aP c_r2_LogLines

def st_mk_LogText_3 (d : List G) : Option (Option Nat × List G) :=
 (bif (ltI (gi d 4).int (gi d 3).int) then (callF (F_mk_Changed [.l (gi d 0).rows, .i (gi d 1).int, .s (gi d 2).str, .s (⟨#[32, 10, 48, 45, 57, 107, 98]⟩ : ByteArray)]) fun g5 => (bif (inI ((gi d 4).int + 1)) then some (none, [.l (gi g5 0).rows, .i (gi g5 1).int, .s (gi g5 2).str, .i (gi d 3).int, .i ((gi d 4).int + 1)]) else none)) else some (some 0, [.l (gi d 0).rows, .i (gi d 1).int, .s (gi d 2).str]))
def l_mk_LogText_3 : LSpec := ⟨3, [], ⟨19, [(0, .s (.ptr 0 0)), (3, .s (.str)), (11, .s (.int .i64)), (12, .s (.int .i64))], [.box [.list [.int .i64], .int .i64]]⟩, [.fix 0], [⟨.exit 0, ⟨19, [(3, .s (.str))], [.box [.list [.int .i64], .int .i64]]⟩, [.fix 0]⟩], st_mk_LogText_3⟩
theorem r_mk_LogText_3 : RoundOK P t112 nL0 1 (loopAt Tryz.f17 3) l_mk_LogText_3 := fun d => by kernel_rfl
def L_mk_LogText_3 : LT := nL0.add 1 l_mk_LogText_3
theorem L_mk_LogText_3_ok : LpK P 1 L_mk_LogText_3 (bodyOf Tryz.f17) := LpK.a hm t112_ok (nLk _ _ _) r_mk_LogText_3
def F_mk_LogText (d : List G) : Option (List G) :=
 (callF (F_mk_Range [.l (gi d 0).rows, .i (gi d 1).int, .i 0, .i 4]) fun g1 => (callF (F_mk_RightContacts [.l (gi g1 0).rows, .i (gi g1 1).int, .i (gi g1 2).int]) fun g2 => (callF (F_r2_LogLines [.l (gi g2 2).rows]) fun g3 => (callF (F_mk_Pick [.l (gi g2 0).rows, .i (gi g2 1).int, .l [[.i 0], [.i 0], [.i 1], [.i 2]]]) fun g4 => (loopB true (LRun st_mk_LogText_3 [.l (gi g4 0).rows, .i (gi g4 1).int, .s (gi g3 0).str, .i (gi g4 2).int, .i 0]) fun cg6 g6 => some [.l (gi g6 0).rows, .i (gi g6 1).int, .s (gi g6 2).str])))))
def s_mk_LogText : FSpec := ⟨17, [.s (.ptr 0 0)], [.box [.list [.int .i64], .int .i64]], [.slot 0], [.s (.str)], [.box [.list [.int .i64], .int .i64]], [.fix 0], [], F_mk_LogText⟩
theorem b_mk_LogText : BodyOK P t112 L_mk_LogText_3 Tryz.f17 s_mk_LogText := fun d => by kernel_rfl
theorem c_mk_LogText : COK P s_mk_LogText := bdC hm t112_ok Tryz.func17 L_mk_LogText_3_ok b_mk_LogText
def t113 : Tab := t112.addW s_mk_LogText
theorem t113_ok : TabOK P t113 := t112_ok.aW c_mk_LogText

def F_kit_Join (d : List G) : Option (List G) :=
 (callF (F_strings_Join [.l (gi d 0).rows, .s (⟨#[32]⟩ : ByteArray)]) fun g1 => (bif (Nat.ble ((gi g1 0).str.size + 1) 9223372036854775807) then some [.s ((gi g1 0).str ++ (⟨#[10]⟩ : ByteArray))] else none))
def s_kit_Join : FSpec := ⟨47, [.s (.list [.str])], [], [], [.s (.str)], [], [], [], F_kit_Join⟩
theorem b_kit_Join : BodyOK P t113 nL0 Tryz.f47 s_kit_Join := fun d => by kernel_rfl
theorem c_kit_Join : COK P s_kit_Join := bdC hm t113_ok Tryz.func47 (nLk _ _ _) b_kit_Join
def t114 : Tab := t113.addP s_kit_Join
theorem t114_ok : TabOK P t114 := t113_ok.aP c_kit_Join

def F_log_Line (d : List G) : Option (List G) :=
 (callF (F_strconv_Itoa [.i (gi (gi d 0).row 0).int]) fun g1 => (callF (F_kit_ModeWords []) fun g2 => (bif ((nnI (gi (gi d 0).row 1).int) && (ltI (gi (gi d 0).row 1).int (((gi g2 0).rows.length : Nat) : Int))) then (callF (F_strconv_Itoa [.i (gi (gi d 0).row 4).int]) fun g3 => (callF (F_kit_Dash [.s (gi (gi d 0).row 6).str]) fun g4 => (callF (F_strconv_Itoa [.i (gi (gi d 0).row 5).int]) fun g5 => (callF (F_kit_Dash [.s (gi (gi d 0).row 7).str]) fun g6 => (callF (F_kit_Join [.l [[.s (gi g1 0).str], [.s (gi ((gi g2 0).rows.getD (((gi (gi d 0).row 1).int).toNat) []) 0).str], [.s (gi (gi d 0).row 2).str], [.s (gi (gi d 0).row 3).str], [.s (gi g3 0).str], [.s (gi g4 0).str], [.s (gi g5 0).str], [.s (gi g6 0).str]]]) fun g7 => some [.s (gi g7 0).str]))))) else none)))
def s_log_Line : FSpec := ⟨70, [.s (.row KCt)], [], [], [.s (.str)], [], [], [], F_log_Line⟩
theorem b_log_Line : BodyOK P t114 nL0 Tryz.f70 s_log_Line := fun d => by kernel_rfl
theorem c_log_Line : COK P s_log_Line := bdC hm t114_ok Tryz.func70 (nLk _ _ _) b_log_Line
def t115 : Tab := t114.addP s_log_Line
theorem t115_ok : TabOK P t115 := t114_ok.aP c_log_Line

def F_strings_Builder_WriteString (d : List G) : Option (List G) :=
 bldWF d
def s_strings_Builder_WriteString : FSpec := ⟨46, [.s (.ptr 0 0), .s (.str)], [.bld 0 73 5], [.slot 0], [.s (.int .i64), .s (.any)], [.bld 0 73 5], [.fix 0], [], F_strings_Builder_WriteString⟩
theorem c_strings_Builder_WriteString : ∀ d r, F_strings_Builder_WriteString d = some r → ACallX P 46 (s_strings_Builder_WriteString.args0 d) (denH (s_strings_Builder_WriteString.H0 d)) (s_strings_Builder_WriteString.out r) (denH (s_strings_Builder_WriteString.H1 r)) := fun d r h => bldW_call Tryz.laysBldW Tryz.laysBldW_x rfl d r h
def t116 : Tab := t115.addW s_strings_Builder_WriteString
theorem t116_ok : TabOK P t116 := t115_ok.aW c_strings_Builder_WriteString

def F_strings_Builder_Len (d : List G) : Option (List G) :=
 bldLF d
def s_strings_Builder_Len : FSpec := ⟨49, [.s (.ptr 0 0)], [.bld 0 73 5], [.slot 0], [.s (.int .i64)], [.bld 0 73 5], [.fix 0], [], F_strings_Builder_Len⟩
theorem c_strings_Builder_Len : ∀ d r, F_strings_Builder_Len d = some r → ACallX P 49 (s_strings_Builder_Len.args0 d) (denH (s_strings_Builder_Len.H0 d)) (s_strings_Builder_Len.out r) (denH (s_strings_Builder_Len.H1 r)) := fun d r h => bldL_call Tryz.laysBldL rfl d r h
def t117 : Tab := t116.addW s_strings_Builder_Len
theorem t117_ok : TabOK P t117 := t116_ok.aW c_strings_Builder_Len

def F_strings_Builder_String (d : List G) : Option (List G) :=
 bldSF d
def s_strings_Builder_String : FSpec := ⟨50, [.s (.ptr 0 0)], [.bld 0 73 5], [.slot 0], [.s (.str)], [.bld 0 73 5], [.fix 0], [], F_strings_Builder_String⟩
theorem c_strings_Builder_String : ∀ d r, F_strings_Builder_String d = some r → ACallX P 50 (s_strings_Builder_String.args0 d) (denH (s_strings_Builder_String.H0 d)) (s_strings_Builder_String.out r) (denH (s_strings_Builder_String.H1 r)) := fun d r h => bldS_call Tryz.laysBldS Tryz.laysBldS_x rfl d r h
def t118 : Tab := t117.addW s_strings_Builder_String
theorem t118_ok : TabOK P t118 := t117_ok.aW c_strings_Builder_String

def st_log_Text_6 (d : List G) : Option (Option Nat × List G) :=
 (bif (ltI (gi d 3).int (gi d 2).int) then (bif ((nnI (gi d 3).int) && (ltI (gi d 3).int (((gi d 1).rows.length : Nat) : Int))) then (callF (F_log_Line [.l [(gEta KCt ((gi d 1).rows.getD (((gi d 3).int).toNat) []))]]) fun g2 => (callF (F_strings_Builder_WriteString [.s (gi d 0).str, .s (gi g2 0).str]) fun g3 => (bif (inI ((gi d 3).int + 1)) then some (none, [.s (gi g3 0).str, .l (gi d 1).rows, .i (gi d 2).int, .i ((gi d 3).int + 1)]) else none))) else none) else some (some 0, [.s (gi d 0).str]))
def l_log_Text_6 : LSpec := ⟨6, [], ⟨26, [(5, .s (.ptr 0 0)), (13, .s (.list KCt)), (14, .s (.int .i64)), (15, .s (.int .i64))], [.bld 0 73 5]⟩, [.slot 5], [⟨.exit 0, ⟨26, [(5, .s (.ptr 0 0))], [.bld 0 73 5]⟩, [.slot 5]⟩], st_log_Text_6⟩
theorem r_log_Text_6 : RoundOK P t118 nL0 0 (loopAt Tryz.f18 6) l_log_Text_6 := fun d => by kernel_rfl
def L_log_Text_6 : LT := nL0.add 0 l_log_Text_6
theorem L_log_Text_6_ok : LpK P 0 L_log_Text_6 (bodyOf Tryz.f18) := LpK.a hm t118_ok (nLk _ _ _) r_log_Text_6
def F_log_Text (d : List G) : Option (List G) :=
 (callF (F_log_CheckLog [.l (gi d 0).rows]) fun g1 => (bif ((gi g1 0).int != 0) then some [.s (⟨#[]⟩ : ByteArray), .i (gi g1 0).int] else (loopB true (LRun st_log_Text_6 [.s (⟨#[]⟩ : ByteArray), .l (gi d 0).rows, .i (((gi d 0).rows.length : Nat) : Int), .i 0]) fun cg4 g4 => (callF (F_strings_Builder_Len [.s (gi g4 0).str]) fun g5 => (bif (ltI 200000 (gi g5 1).int) then some [.s (⟨#[]⟩ : ByteArray), .i 2] else (callF (F_strings_Builder_String [.s (gi g5 0).str]) fun g6 => some [.s (gi g6 1).str, .i 0]))))))
def s_log_Text : FSpec := ⟨18, [.s (.list KCt)], [], [], [.s (.str), .s (.int .i64)], [], [], [], F_log_Text⟩
theorem b_log_Text : BodyOK P t118 L_log_Text_6 Tryz.f18 s_log_Text := fun d => by kernel_rfl
theorem c_log_Text : COK P s_log_Text := bdC hm t118_ok Tryz.func18 L_log_Text_6_ok b_log_Text
def t119 : Tab := t118.addP s_log_Text
theorem t119_ok : TabOK P t119 := t118_ok.aP c_log_Text

def F_r2_LogRead (d : List G) : Option (List G) :=
 (bif (ltI 200000 (((gi d 0).str.size : Nat) : Int)) then some [.l [], .i 0, .i 2] else (callF (F_r2_Lines [.l [], .s (gi d 0).str]) fun g1 => (bif (!(gi g1 2).bool) then some [.l [], .i (gi g1 1).int, .i 9] else (callB (((Nat.beq (gi g1 0).rows.length (gi g1 0).rows.length) && true) && (F_r2_LogFault [.l (gi g1 0).rows]).isSome) (F_r2_LogFault [.l (gi g1 0).rows]) fun g2 => (bif ((gi g2 0).int != 0) then some [.l [], .i 0, .i (gi g2 0).int] else (bif ((Nat.beq (gi g1 0).rows.length (gi g1 0).rows.length) && true) then some [.l (gi g1 0).rows, .i 0, .i 0] else none))))))
def s_r2_LogRead : FSpec := ⟨22, [.s (.str)], [], [], [.s (.list KCt), .s (.int .i64), .s (.int .i64)], [], [], [], F_r2_LogRead⟩
theorem b_r2_LogRead : BodyOK P (t119.lessPf [19]) (nL0.hinted [(4, [.openCell 5 0 KCt])]) Tryz.f22 s_r2_LogRead := fun d => by kernel_rfl
theorem c_r2_LogRead : COK P s_r2_LogRead := bodyC hm (t119_ok.lessPf [19]) Tryz.func22 (by kernel_rfl) (hinted_ok _) b_r2_LogRead (by kernel_rfl)
def t120 : Tab := t119.addP s_r2_LogRead
theorem t120_ok : TabOK P t120 := t119_ok.aP c_r2_LogRead

def F_l2_LogTexts (d : List G) : Option (List G) :=
 (callF (F_mk_Range [.l (gi d 0).rows, .i 0, .i 0, .i 6]) fun g1 => (callF (F_mk_Contacts [.l (gi g1 0).rows, .i (gi g1 1).int, .i (gi g1 2).int]) fun g2 => (callF (F_mk_LogText [.l (gi g2 0).rows, .i (gi g2 1).int]) fun g3 => (callF (F_log_Text [.l (gi g2 2).rows]) fun g4 => (callF (F_r2_LogFault [.l (gi g2 2).rows]) fun g5 => (bif ((gi g5 0).int == 0) then (callF (F_r2_LogLines [.l (gi g2 2).rows]) fun g6 => (callF (F_log_Read [.s (gi g3 2).str]) fun g7 => (callF (F_r2_LogRead [.s (gi g3 2).str]) fun g8 => (bif ((gi g4 1).int == (gi g5 0).int) then (bif ((gi g4 0).str.toList == (gi g6 0).str.toList) then (callF (F_sl_Equal_Contact [.l (gi g7 0).rows, .l (gi g8 0).rows]) fun g9 => (bif (gi g9 0).bool then (bif ((gi g7 1).int == (gi g8 1).int) then (bif ((gi g7 2).int == (gi g8 2).int) then (callF (F_l2_logged []) fun g10 => some [.t (gi g10 0).bool]) else some [.t false]) else some [.t false]) else some [.t false])) else some [.t false]) else some [.t false])))) else (callF (F_log_Read [.s (gi g3 2).str]) fun g11 => (callF (F_r2_LogRead [.s (gi g3 2).str]) fun g12 => (bif ((gi g4 1).int == (gi g5 0).int) then (bif ((gi g4 0).str.toList == (⟨#[]⟩ : ByteArray).toList) then (callF (F_sl_Equal_Contact [.l (gi g11 0).rows, .l (gi g12 0).rows]) fun g13 => (bif (gi g13 0).bool then (bif ((gi g11 1).int == (gi g12 1).int) then (bif ((gi g11 2).int == (gi g12 2).int) then (callF (F_l2_logged []) fun g14 => some [.t (gi g14 0).bool]) else some [.t false]) else some [.t false]) else some [.t false])) else some [.t false]) else some [.t false])))))))))
def s_l2_LogTexts : FSpec := ⟨4, [.s (.list [.int .i64])], [], [], [.s (.bool)], [], [], [], F_l2_LogTexts⟩
theorem b_l2_LogTexts : BodyOK P t120 nL0 Tryz.f4 s_l2_LogTexts := fun d => by kernel_rfl
theorem c_l2_LogTexts : COK P s_l2_LogTexts := bdC hm t120_ok Tryz.func4 (nLk _ _ _) b_l2_LogTexts
def t121 : Tab := t120.addP s_l2_LogTexts
theorem t121_ok : TabOK P t121 := t120_ok.aP c_l2_LogTexts

end
end Go.Proofs.SYtmohppjkkpaaoaaGreatDoor
