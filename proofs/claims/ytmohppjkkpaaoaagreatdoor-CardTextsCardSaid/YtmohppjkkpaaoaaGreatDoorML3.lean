/-
 What is proved here: functions of the program as functions on data. No condition.
-/
import Derived.Test.YtmohppjkkpaaoaaGreatDoorML2
set_option linter.all false
namespace Go.Proofs.SYtmohppjkkpaaoaaGreatDoor
open Go Go.AL Go.Proofs
noncomputable section
def st_kit_Words_3 (d : List G) : Option (Option Nat × List G) :=
 (bif (ltI (gi d 3).int (gi d 2).int) then (bif ((nnI (gi d 3).int) && (ltI (gi d 3).int (((gi d 1).rows.length : Nat) : Int))) then (bif ((gi ((gi d 1).rows.getD (((gi d 3).int).toNat) []) 0).str.toList == (⟨#[]⟩ : ByteArray).toList) then some (some 0, [.l [], .t false]) else (bif (inI ((gi d 3).int + 1)) then some (none, [.l (gi d 0).rows, .l (gi d 1).rows, .i (gi d 2).int, .i ((gi d 3).int + 1)]) else none)) else none) else some (some 1, [.l (gi d 0).rows]))
def l_kit_Words_3 : LSpec := ⟨3, [], ⟨19, [(4, .s (.list [.str])), (9, .s (.list [.str])), (10, .s (.int .i64)), (11, .s (.int .i64))], []⟩, [], [⟨.ret, ⟨19, [(2, .s (.list [.str])), (3, .s (.bool))], []⟩, []⟩, ⟨.exit 0, ⟨19, [(4, .s (.list [.str]))], []⟩, []⟩], st_kit_Words_3⟩
theorem r_kit_Words_3 : RoundOK P t68 nL0 0 (loopAt Tryz.f56 3) l_kit_Words_3 := fun d => by kernel_rfl
def L_kit_Words_3 : LT := nL0.add 0 l_kit_Words_3
theorem L_kit_Words_3_ok : LpK P 0 L_kit_Words_3 (bodyOf Tryz.f56) := LpK.a hm t68_ok (nLk _ _ _) r_kit_Words_3
def F_kit_Words (d : List G) : Option (List G) :=
 (callF (F_strings_Split [.s (gi d 0).str, .s (⟨#[32]⟩ : ByteArray)]) fun g1 => (loopB true (LRun st_kit_Words_3 [.l (gi g1 0).rows, .l (gi g1 0).rows, .i (((gi g1 0).rows.length : Nat) : Int), .i 0]) fun cg2 g2 => (bif Nat.beq cg2 0 then some [.l (gi g2 0).rows, .t (gi g2 1).bool] else some [.l (gi g2 0).rows, .t true])))
def s_kit_Words : FSpec := ⟨56, [.s (.str)], [], [], [.s (.list [.str]), .s (.bool)], [], [], [], F_kit_Words⟩
theorem b_kit_Words : BodyOK P t68 L_kit_Words_3 Tryz.f56 s_kit_Words := fun d => by kernel_rfl
theorem c_kit_Words : COK P s_kit_Words := bdC hm t68_ok Tryz.func56 L_kit_Words_3_ok b_kit_Words
def t69 : Tab := t68.addP s_kit_Words
theorem t69_ok : TabOK P t69 := t68_ok.aP c_kit_Words

def F_stringslite_HasPrefix (d : List G) : Option (List G) :=
 (bif (leI (((gi d 1).str.size : Nat) : Int) (((gi d 0).str.size : Nat) : Int)) then (bif ((nnI (((gi d 1).str.size : Nat) : Int)) && (leI (((gi d 1).str.size : Nat) : Int) (((gi d 0).str.size : Nat) : Int))) then some [.t (((gi d 0).str.extract 0 (gi d 1).str.size).toList == (gi d 1).str.toList)] else none) else some [.t false])
def s_stringslite_HasPrefix : FSpec := ⟨209, [.s (.str), .s (.str)], [], [], [.s (.bool)], [], [], [], F_stringslite_HasPrefix⟩
theorem b_stringslite_HasPrefix : BodyOK P t69 nL0 Tryz.f209 s_stringslite_HasPrefix := fun d => by kernel_rfl
theorem c_stringslite_HasPrefix : COK P s_stringslite_HasPrefix := bdC hm t69_ok Tryz.func209 (nLk _ _ _) b_stringslite_HasPrefix
def t70 : Tab := t69.addP s_stringslite_HasPrefix
theorem t70_ok : TabOK P t70 := t69_ok.aP c_stringslite_HasPrefix

def F_stringslite_CutPrefix (d : List G) : Option (List G) :=
 (callF (F_stringslite_HasPrefix [.s (gi d 0).str, .s (gi d 1).str]) fun g1 => (bif (!(gi g1 0).bool) then some [.s (gi d 0).str, .t false] else (bif ((nnI (((gi d 1).str.size : Nat) : Int)) && (leI (((gi d 1).str.size : Nat) : Int) (((gi d 0).str.size : Nat) : Int))) then some [.s ((gi d 0).str.extract (gi d 1).str.size (gi d 0).str.size), .t true] else none)))
def s_stringslite_CutPrefix : FSpec := ⟨192, [.s (.str), .s (.str)], [], [], [.s (.str), .s (.bool)], [], [], [], F_stringslite_CutPrefix⟩
theorem b_stringslite_CutPrefix : BodyOK P t70 nL0 Tryz.f192 s_stringslite_CutPrefix := fun d => by kernel_rfl
theorem c_stringslite_CutPrefix : COK P s_stringslite_CutPrefix := bdC hm t70_ok Tryz.func192 (nLk _ _ _) b_stringslite_CutPrefix
def t71 : Tab := t70.addP s_stringslite_CutPrefix
theorem t71_ok : TabOK P t71 := t70_ok.aP c_stringslite_CutPrefix

def F_strings_CutPrefix (d : List G) : Option (List G) :=
 (callF (F_stringslite_CutPrefix [.s (gi d 0).str, .s (gi d 1).str]) fun g1 => some [.s (gi g1 0).str, .t (gi g1 1).bool])
def s_strings_CutPrefix : FSpec := ⟨149, [.s (.str), .s (.str)], [], [], [.s (.str), .s (.bool)], [], [], [], F_strings_CutPrefix⟩
theorem b_strings_CutPrefix : BodyOK P t71 nL0 Tryz.f149 s_strings_CutPrefix := fun d => by kernel_rfl
theorem c_strings_CutPrefix : COK P s_strings_CutPrefix := bdC hm t71_ok Tryz.func149 (nLk _ _ _) b_strings_CutPrefix
def t72 : Tab := t71.addP s_strings_CutPrefix
theorem t72_ok : TabOK P t72 := t71_ok.aP c_strings_CutPrefix

def F_strconv_Atoi (d : List G) : Option (List G) :=
 atoiF d
def s_strconv_Atoi : FSpec := ⟨132, [.s (.str)], [], [], [.s (.int .i64), .s (.nilI)], [], [], [], F_strconv_Atoi⟩
theorem c_strconv_Atoi : ∀ d r, F_strconv_Atoi d = some r → ACallX P 132 (s_strconv_Atoi.args0 d) (denH (s_strconv_Atoi.H0 d)) (s_strconv_Atoi.out r) (denH (s_strconv_Atoi.H1 r)) := fun d r h => atoi_call Tryz.laysAtoi d r h
def t73 : Tab := t72.addP s_strconv_Atoi
theorem t73_ok : TabOK P t73 := t72_ok.aP c_strconv_Atoi

def F_kit_Number (d : List G) : Option (List G) :=
 (callF (F_strings_CutPrefix [.s (gi d 0).str, .s (⟨#[45]⟩ : ByteArray)]) fun g1 => (bif ((gi g1 0).str.toList == (⟨#[]⟩ : ByteArray).toList) then some [.i 0, .t false] else (bif (ltI (gi d 1).int (((gi g1 0).str.size : Nat) : Int)) then some [.i 0, .t false] else (callF (F_strings_Trim [.s (gi g1 0).str, .s (⟨#[48, 49, 50, 51, 52, 53, 54, 55, 56, 57]⟩ : ByteArray)]) fun g2 => (bif (!((gi g2 0).str.toList == (⟨#[]⟩ : ByteArray).toList)) then some [.i 0, .t false] else (bif (ltI 0 (((gi g1 0).str.size : Nat) : Int)) then (bif ((((gi g1 0).str.data.toList.getD 0 0).toNat : Int) == 48) then (bif (ltI 1 (((gi g1 0).str.size : Nat) : Int)) then some [.i 0, .t false] else (bif (gi g1 1).bool then some [.i 0, .t false] else (callF (F_strconv_Atoi [.s (gi g1 0).str]) fun g3 => (bif (gi g1 1).bool then (bif (inI (0 - (gi g3 0).int)) then some [.i (0 - (gi g3 0).int), .t true] else none) else some [.i (gi g3 0).int, .t true])))) else (callF (F_strconv_Atoi [.s (gi g1 0).str]) fun g4 => (bif (gi g1 1).bool then (bif (inI (0 - (gi g4 0).int)) then some [.i (0 - (gi g4 0).int), .t true] else none) else some [.i (gi g4 0).int, .t true]))) else none))))))
def s_kit_Number : FSpec := ⟨107, [.s (.str), .s (.int .i64)], [], [], [.s (.int .i64), .s (.bool)], [], [], [], F_kit_Number⟩
theorem b_kit_Number : BodyOK P t73 nL0 Tryz.f107 s_kit_Number := fun d => by kernel_rfl
theorem c_kit_Number : COK P s_kit_Number := bdC hm t73_ok Tryz.func107 (nLk _ _ _) b_kit_Number
def t74 : Tab := t73.addP s_kit_Number
theorem t74_ok : TabOK P t74 := t73_ok.aP c_kit_Number

def st_kit_Numbers_3 (d : List G) : Option (Option Nat × List G) :=
 (bif (ltI (gi d 3).int (gi d 2).int) then (bif ((nnI (gi d 3).int) && (ltI (gi d 3).int (((gi d 1).rows.length : Nat) : Int))) then (callF (F_kit_Number [.s (gi ((gi d 1).rows.getD (((gi d 3).int).toNat) []) 0).str, .i 15]) fun g1 => (bif (!(gi g1 1).bool) then some (some 0, [.l [], .t false]) else (bif ((Nat.beq (gi d 0).rows.length (gi d 0).rows.length) && (decide (((gi d 0).rows.length + 1) ≤ 1048576))) then (bif (inI ((gi d 3).int + 1)) then (bif ((Nat.beq ((gi d 0).rows ++ ([[.i (gi g1 0).int]] : List (List G))).length ((gi d 0).rows ++ ([[.i (gi g1 0).int]] : List (List G))).length) && true) then some (none, [.l ((gi d 0).rows ++ ([[.i (gi g1 0).int]] : List (List G))), .l (gi d 1).rows, .i (gi d 2).int, .i ((gi d 3).int + 1)]) else none) else none) else none))) else none) else (bif ((Nat.beq (gi d 0).rows.length (gi d 0).rows.length) && true) then some (some 1, [.l (gi d 0).rows]) else none))
def l_kit_Numbers_3 : LSpec := ⟨3, [(4, [.int .i64])], ⟨28, [(4, .s (.vec 0 1)), (9, .s (.list [.str])), (10, .s (.int .i64)), (11, .s (.int .i64))], [.vec [.int .i64] 0]⟩, [.slot 4], [⟨.ret, ⟨28, [(2, .s (.list [.int .i64])), (3, .s (.bool))], []⟩, []⟩, ⟨.exit 0, ⟨28, [(4, .s (.vec 0 1))], [.vec [.int .i64] 0]⟩, [.slot 4]⟩], st_kit_Numbers_3⟩
theorem r_kit_Numbers_3 : RoundOK P t74 nL0 0 (loopAt Tryz.f57 3) l_kit_Numbers_3 := fun d => by kernel_rfl
def L_kit_Numbers_3 : LT := nL0.add 0 l_kit_Numbers_3
theorem L_kit_Numbers_3_ok : LpK P 0 L_kit_Numbers_3 (bodyOf Tryz.f57) := LpK.a hm t74_ok (nLk _ _ _) r_kit_Numbers_3
def F_kit_Numbers (d : List G) : Option (List G) :=
 (loopB true (LRun st_kit_Numbers_3 [.l [], .l (gi d 0).rows, .i (((gi d 0).rows.length : Nat) : Int), .i 0]) fun cg2 g2 => (bif Nat.beq cg2 0 then some [.l (gi g2 0).rows, .t (gi g2 1).bool] else (bif ((Nat.beq (gi g2 0).rows.length (gi g2 0).rows.length) && true) then some [.l (gi g2 0).rows, .t true] else none)))
def s_kit_Numbers : FSpec := ⟨57, [.s (.list [.str])], [], [], [.s (.list [.int .i64]), .s (.bool)], [], [], [], F_kit_Numbers⟩
theorem b_kit_Numbers : BodyOK P t74 L_kit_Numbers_3 Tryz.f57 s_kit_Numbers := fun d => by kernel_rfl
theorem c_kit_Numbers : COK P s_kit_Numbers := bdC hm t74_ok Tryz.func57 L_kit_Numbers_3_ok b_kit_Numbers
def t75 : Tab := t74.addP s_kit_Numbers
theorem t75_ok : TabOK P t75 := t74_ok.aP c_kit_Numbers

def st_sl_Index_string_2 (d : List G) : Option (Option Nat × List G) :=
 (bif (ltI (gi d 3).int (gi d 2).int) then (bif ((nnI (gi d 3).int) && (ltI (gi d 3).int (((gi d 0).rows.length : Nat) : Int))) then (bif ((gi d 1).str.toList == (gi ((gi d 0).rows.getD (((gi d 3).int).toNat) []) 0).str.toList) then some (some 0, [.i (gi d 3).int]) else (bif (inI ((gi d 3).int + 1)) then some (none, [.l (gi d 0).rows, .s (gi d 1).str, .i (gi d 2).int, .i ((gi d 3).int + 1)]) else none)) else none) else some (some 1, []))
def l_sl_Index_string_2 : LSpec := ⟨2, [], ⟨19, [(0, .s (.list [.str])), (1, .s (.str)), (7, .s (.int .i64)), (8, .s (.int .i64))], []⟩, [], [⟨.ret, ⟨19, [(4, .s (.int .i64))], []⟩, []⟩, ⟨.exit 0, ⟨19, [], []⟩, []⟩], st_sl_Index_string_2⟩
theorem r_sl_Index_string_2 : RoundOK P t75 nL0 0 (loopAt Tryz.f92 2) l_sl_Index_string_2 := fun d => by kernel_rfl
def L_sl_Index_string_2 : LT := nL0.add 0 l_sl_Index_string_2
theorem L_sl_Index_string_2_ok : LpK P 0 L_sl_Index_string_2 (bodyOf Tryz.f92) := LpK.a hm t75_ok (nLk _ _ _) r_sl_Index_string_2
def F_sl_Index_string (d : List G) : Option (List G) :=
 (loopB true (LRun st_sl_Index_string_2 [.l (gi d 0).rows, .s (gi d 1).str, .i (((gi d 0).rows.length : Nat) : Int), .i 0]) fun cg1 g1 => (bif Nat.beq cg1 0 then some [.i (gi g1 0).int] else some [.i (-1)]))
def s_sl_Index_string : FSpec := ⟨92, [.s (.list [.str]), .s (.str)], [], [], [.s (.int .i64)], [], [], [], F_sl_Index_string⟩
theorem b_sl_Index_string : BodyOK P t75 L_sl_Index_string_2 Tryz.f92 s_sl_Index_string := fun d => by kernel_rfl
theorem c_sl_Index_string : COK P s_sl_Index_string := bdC hm t75_ok Tryz.func92 L_sl_Index_string_2_ok b_sl_Index_string
def t76 : Tab := t75.addP s_sl_Index_string
theorem t76_ok : TabOK P t76 := t75_ok.aP c_sl_Index_string

def F_club_readLine (d : List G) : Option (List G) :=
 (callF (F_kit_Words [.s (gi d 0).str]) fun g1 => (bif (!(gi g1 1).bool) then some [.l [[.i 0, .i 0, .i 0, .s (⟨#[]⟩ : ByteArray), .s (⟨#[]⟩ : ByteArray)]], .t false] else (bif ((((gi g1 0).rows.length : Nat) : Int) != 5) then some [.l [[.i 0, .i 0, .i 0, .s (⟨#[]⟩ : ByteArray), .s (⟨#[]⟩ : ByteArray)]], .t false] else (bif (ltI 0 (((gi g1 0).rows.length : Nat) : Int)) then (callF (F_kit_Numbers [.l [[.s (gi ((gi g1 0).rows.getD 0 []) 0).str]]]) fun g2 => (callF (F_club_kindWords []) fun g3 => (bif (ltI 1 (((gi g1 0).rows.length : Nat) : Int)) then (callF (F_sl_Index_string [.l (gi g3 0).rows, .s (gi ((gi g1 0).rows.getD 1 []) 0).str]) fun g4 => (callF (F_kit_ModeWords []) fun g5 => (bif (ltI 4 (((gi g1 0).rows.length : Nat) : Int)) then (callF (F_sl_Index_string [.l (gi g5 0).rows, .s (gi ((gi g1 0).rows.getD 4 []) 0).str]) fun g6 => (bif (!(gi g2 1).bool) then some [.l [[.i 0, .i 0, .i 0, .s (⟨#[]⟩ : ByteArray), .s (⟨#[]⟩ : ByteArray)]], .t false] else (bif (ltI (gi g4 0).int 1) then some [.l [[.i 0, .i 0, .i 0, .s (⟨#[]⟩ : ByteArray), .s (⟨#[]⟩ : ByteArray)]], .t false] else (bif (ltI (gi g6 0).int 1) then some [.l [[.i 0, .i 0, .i 0, .s (⟨#[]⟩ : ByteArray), .s (⟨#[]⟩ : ByteArray)]], .t false] else (bif (ltI 0 (((gi g2 0).rows.length : Nat) : Int)) then (bif (ltI 2 (((gi g1 0).rows.length : Nat) : Int)) then (bif (ltI 3 (((gi g1 0).rows.length : Nat) : Int)) then some [.l [[.i (gi ((gi g2 0).rows.getD 0 []) 0).int, .i (gi g4 0).int, .i (gi g6 0).int, .s (gi ((gi g1 0).rows.getD 2 []) 0).str, .s (gi ((gi g1 0).rows.getD 3 []) 0).str]], .t true] else none) else none) else none))))) else none))) else none))) else none))))
def s_club_readLine : FSpec := ⟨89, [.s (.str)], [], [], [.s (.row KCard), .s (.bool)], [], [], [], F_club_readLine⟩
theorem b_club_readLine : BodyOK P t76 nL0 Tryz.f89 s_club_readLine := fun d => by kernel_rfl
theorem c_club_readLine : COK P s_club_readLine := bdC hm t76_ok Tryz.func89 (nLk _ _ _) b_club_readLine
def t77 : Tab := t76.addP s_club_readLine
theorem t77_ok : TabOK P t77 := t76_ok.aP c_club_readLine

def st_club_Read_6 (d : List G) : Option (Option Nat × List G) :=
 (bif (ltI (gi d 5).int (gi d 4).int) then (bif ((nnI (gi d 5).int) && (ltI (gi d 5).int (((gi d 3).rows.length : Nat) : Int))) then (callF (F_club_readLine [.s (gi ((gi d 3).rows.getD (((gi d 5).int).toNat) []) 0).str]) fun g2 => (bif (!(gi g2 1).bool) then some (some 0, [.l [], .i (gi d 5).int, .i 9]) else (bif (!(gi d 2).bool) then (bif (inI ((((gi d 1).rows.length : Nat) : Int) - 1)) then (bif ((gi d 5).int == ((((gi d 1).rows.length : Nat) : Int) - 1)) then some (some 0, [.l [], .i (gi d 5).int, .i 9]) else (bif ((Nat.beq (gi d 0).rows.length (gi d 0).rows.length) && (decide (((gi d 0).rows.length + 1) ≤ 1048576))) then (bif (inI ((gi d 5).int + 1)) then (bif ((Nat.beq ((gi d 0).rows ++ ([(gEta KCard (gi g2 0).row)] : List (List G))).length ((gi d 0).rows ++ ([(gEta KCard (gi g2 0).row)] : List (List G))).length) && true) then some (none, [.l ((gi d 0).rows ++ ([(gEta KCard (gi g2 0).row)] : List (List G))), .l (gi d 1).rows, .t (gi d 2).bool, .l (gi d 3).rows, .i (gi d 4).int, .i ((gi d 5).int + 1)]) else none) else none) else none)) else none) else (bif ((Nat.beq (gi d 0).rows.length (gi d 0).rows.length) && (decide (((gi d 0).rows.length + 1) ≤ 1048576))) then (bif (inI ((gi d 5).int + 1)) then (bif ((Nat.beq ((gi d 0).rows ++ ([(gEta KCard (gi g2 0).row)] : List (List G))).length ((gi d 0).rows ++ ([(gEta KCard (gi g2 0).row)] : List (List G))).length) && true) then some (none, [.l ((gi d 0).rows ++ ([(gEta KCard (gi g2 0).row)] : List (List G))), .l (gi d 1).rows, .t (gi d 2).bool, .l (gi d 3).rows, .i (gi d 4).int, .i ((gi d 5).int + 1)]) else none) else none) else none)))) else none) else (bif ((Nat.beq (gi d 0).rows.length (gi d 0).rows.length) && true) then some (some 1, [.l (gi d 0).rows]) else none))
def l_club_Read_6 : LSpec := ⟨6, [(7, KCard)], ⟨58, [(5, .s (.list [.str])), (6, .s (.bool)), (7, .s (.vec 0 5)), (21, .s (.list [.str])), (22, .s (.int .i64)), (23, .s (.int .i64))], [.vec KCard 0]⟩, [.slot 7], [⟨.ret, ⟨58, [(2, .s (.list KCard)), (3, .s (.int .i64)), (4, .s (.int .i64))], []⟩, []⟩, ⟨.exit 0, ⟨58, [(7, .s (.vec 0 5))], [.vec KCard 0]⟩, [.slot 7]⟩], st_club_Read_6⟩
theorem r_club_Read_6 : RoundOK P (t77.lessPf [82]) nL0 0 (loopAt Tryz.f30 6) l_club_Read_6 := fun d => by kernel_rfl
def L_club_Read_6 : LT := nL0.add 0 l_club_Read_6
theorem L_club_Read_6_ok : LpK P 0 L_club_Read_6 (bodyOf Tryz.f30) := LpK.add hm (t77_ok.lessPf [82]) (by kernel_rfl) (nLk _ _ _) r_club_Read_6
def F_club_Read (d : List G) : Option (List G) :=
 (bif (ltI 200000 (((gi d 0).str.size : Nat) : Int)) then some [.l [], .i 0, .i 2] else (callF (F_kit_Lines [.s (gi d 0).str]) fun g1 => (loopB true (LRun st_club_Read_6 [.l [], .l (gi g1 0).rows, .t (gi g1 1).bool, .l (gi g1 0).rows, .i (((gi g1 0).rows.length : Nat) : Int), .i 0]) fun cg3 g3 => (bif Nat.beq cg3 0 then some [.l (gi g3 0).rows, .i (gi g3 1).int, .i (gi g3 2).int] else (callB (((Nat.beq (gi g3 0).rows.length (gi g3 0).rows.length) && true) && (F_club_CheckCards [.l (gi g3 0).rows]).isSome) (F_club_CheckCards [.l (gi g3 0).rows]) fun g4 => (bif ((gi g4 0).int != 0) then some [.l [], .i 0, .i (gi g4 0).int] else (bif ((Nat.beq (gi g3 0).rows.length (gi g3 0).rows.length) && true) then some [.l (gi g3 0).rows, .i 0, .i 0] else none)))))))
def s_club_Read : FSpec := ⟨30, [.s (.str)], [], [], [.s (.list KCard), .s (.int .i64), .s (.int .i64)], [], [], [], F_club_Read⟩
theorem b_club_Read : BodyOK P (t77.lessPf [82]) L_club_Read_6 Tryz.f30 s_club_Read := fun d => by kernel_rfl
theorem c_club_Read : COK P s_club_Read := bodyC hm (t77_ok.lessPf [82]) Tryz.func30 (by kernel_rfl) L_club_Read_6_ok b_club_Read (by kernel_rfl)
def t78 : Tab := t77.addP s_club_Read
theorem t78_ok : TabOK P t78 := t77_ok.aP c_club_Read

def F_sl_Contains_string (d : List G) : Option (List G) :=
 (callF (F_sl_Index_string [.l (gi d 0).rows, .s (gi d 1).str]) fun g1 => some [.t (leI 0 (gi g1 0).int)])
def s_sl_Contains_string : FSpec := ⟨109, [.s (.list [.str]), .s (.str)], [], [], [.s (.bool)], [], [], [], F_sl_Contains_string⟩
theorem b_sl_Contains_string : BodyOK P t78 nL0 Tryz.f109 s_sl_Contains_string := fun d => by kernel_rfl
theorem c_sl_Contains_string : COK P s_sl_Contains_string := bdC hm t78_ok Tryz.func109 (nLk _ _ _) b_sl_Contains_string
def t79 : Tab := t78.addP s_sl_Contains_string
theorem t79_ok : TabOK P t79 := t78_ok.aP c_sl_Contains_string

def F_r2_Words (d : List G) : Option (List G) :=
 (callF (F_strings_Split [.s (gi d 0).str, .s (⟨#[32]⟩ : ByteArray)]) fun g1 => (callF (F_sl_Contains_string [.l (gi g1 0).rows, .s (⟨#[]⟩ : ByteArray)]) fun g2 => some [.l (gi g1 0).rows, .t (!(gi g2 0).bool)]))
def s_r2_Words : FSpec := ⟨60, [.s (.str)], [], [], [.s (.list [.str]), .s (.bool)], [], [], [], F_r2_Words⟩
theorem b_r2_Words : BodyOK P t79 nL0 Tryz.f60 s_r2_Words := fun d => by kernel_rfl
theorem c_r2_Words : COK P s_r2_Words := bdC hm t79_ok Tryz.func60 (nLk _ _ _) b_r2_Words
def t80 : Tab := t79.addP s_r2_Words
theorem t80_ok : TabOK P t80 := t79_ok.aP c_r2_Words

def F_stringslite_TrimPrefix (d : List G) : Option (List G) :=
 (callF (F_stringslite_HasPrefix [.s (gi d 0).str, .s (gi d 1).str]) fun g1 => (bif (gi g1 0).bool then (bif ((nnI (((gi d 1).str.size : Nat) : Int)) && (leI (((gi d 1).str.size : Nat) : Int) (((gi d 0).str.size : Nat) : Int))) then some [.s ((gi d 0).str.extract (gi d 1).str.size (gi d 0).str.size)] else none) else some [.s (gi d 0).str]))
def s_stringslite_TrimPrefix : FSpec := ⟨168, [.s (.str), .s (.str)], [], [], [.s (.str)], [], [], [], F_stringslite_TrimPrefix⟩
theorem b_stringslite_TrimPrefix : BodyOK P t80 nL0 Tryz.f168 s_stringslite_TrimPrefix := fun d => by kernel_rfl
theorem c_stringslite_TrimPrefix : COK P s_stringslite_TrimPrefix := bdC hm t80_ok Tryz.func168 (nLk _ _ _) b_stringslite_TrimPrefix
def t81 : Tab := t80.addP s_stringslite_TrimPrefix
theorem t81_ok : TabOK P t81 := t80_ok.aP c_stringslite_TrimPrefix

def F_strings_TrimPrefix (d : List G) : Option (List G) :=
 (callF (F_stringslite_TrimPrefix [.s (gi d 0).str, .s (gi d 1).str]) fun g1 => some [.s (gi g1 0).str])
def s_strings_TrimPrefix : FSpec := ⟨131, [.s (.str), .s (.str)], [], [], [.s (.str)], [], [], [], F_strings_TrimPrefix⟩
theorem b_strings_TrimPrefix : BodyOK P t81 nL0 Tryz.f131 s_strings_TrimPrefix := fun d => by kernel_rfl
theorem c_strings_TrimPrefix : COK P s_strings_TrimPrefix := bdC hm t81_ok Tryz.func131 (nLk _ _ _) b_strings_TrimPrefix
def t82 : Tab := t81.addP s_strings_TrimPrefix
theorem t82_ok : TabOK P t82 := t81_ok.aP c_strings_TrimPrefix

def F_r2_Number (d : List G) : Option (List G) :=
 (callF (F_strings_TrimPrefix [.s (gi d 0).str, .s (⟨#[45]⟩ : ByteArray)]) fun g1 => (bif ((gi g1 0).str.toList == (⟨#[]⟩ : ByteArray).toList) then some [.i 0, .t false] else (bif (ltI (gi d 1).int (((gi g1 0).str.size : Nat) : Int)) then some [.i 0, .t false] else (callF (F_r2_only [.s (gi g1 0).str, .s (⟨#[48, 49, 50, 51, 52, 53, 54, 55, 56, 57]⟩ : ByteArray)]) fun g2 => (bif (!(gi g2 0).bool) then some [.i 0, .t false] else (callF (F_strconv_Atoi [.s (gi d 0).str]) fun g3 => (callF (F_strconv_Itoa [.i (gi g3 0).int]) fun g4 => some [.i (gi g3 0).int, .t ((gi g4 0).str.toList == (gi d 0).str.toList)])))))))
def s_r2_Number : FSpec := ⟨91, [.s (.str), .s (.int .i64)], [], [], [.s (.int .i64), .s (.bool)], [], [], [], F_r2_Number⟩
theorem b_r2_Number : BodyOK P t82 nL0 Tryz.f91 s_r2_Number := fun d => by kernel_rfl
theorem c_r2_Number : COK P s_r2_Number := bdC hm t82_ok Tryz.func91 (nLk _ _ _) b_r2_Number
def t83 : Tab := t82.addP s_r2_Number
theorem t83_ok : TabOK P t83 := t82_ok.aP c_r2_Number

def F_r2_CardsRead_1 (d : List G) : Option (List G) :=
 (callF (F_r2_Words [.s (gi d 1).str]) fun g1 => (bif (!(gi g1 1).bool) then (bif ((((Nat.beq (gi d 0).rows.length (gi d 0).rows.length) && true) && true) && true) then some [.l (gi d 0).rows, .t false] else none) else (bif ((((gi g1 0).rows.length : Nat) : Int) != 5) then (bif ((((Nat.beq (gi d 0).rows.length (gi d 0).rows.length) && true) && true) && true) then some [.l (gi d 0).rows, .t false] else none) else (bif (ltI 0 (((gi g1 0).rows.length : Nat) : Int)) then (callF (F_r2_Number [.s (gi ((gi g1 0).rows.getD 0 []) 0).str, .i 15]) fun g2 => (callF (F_r2_cardWords []) fun g3 => (bif (ltI 1 (((gi g1 0).rows.length : Nat) : Int)) then (callF (F_sl_Index_string [.l (gi g3 0).rows, .s (gi ((gi g1 0).rows.getD 1 []) 0).str]) fun g4 => (bif (ltI 2 (((gi g1 0).rows.length : Nat) : Int)) then (bif (ltI 3 (((gi g1 0).rows.length : Nat) : Int)) then (callF (F_r2_plainModes []) fun g5 => (bif (ltI 4 (((gi g1 0).rows.length : Nat) : Int)) then (callF (F_sl_Index_string [.l (gi g5 0).rows, .s (gi ((gi g1 0).rows.getD 4 []) 0).str]) fun g6 => (bif ((Nat.beq (gi d 0).rows.length (gi d 0).rows.length) && (decide (((gi d 0).rows.length + 1) ≤ 1048576))) then (bif (gi g2 1).bool then (bif (ltI 0 (gi g4 0).int) then (bif ((((Nat.beq ((gi d 0).rows ++ ([[.i (gi g2 0).int, .i (gi g4 0).int, .i (gi g6 0).int, .s (gi ((gi g1 0).rows.getD 2 []) 0).str, .s (gi ((gi g1 0).rows.getD 3 []) 0).str]] : List (List G))).length ((gi d 0).rows ++ ([[.i (gi g2 0).int, .i (gi g4 0).int, .i (gi g6 0).int, .s (gi ((gi g1 0).rows.getD 2 []) 0).str, .s (gi ((gi g1 0).rows.getD 3 []) 0).str]] : List (List G))).length) && true) && true) && true) then some [.l ((gi d 0).rows ++ ([[.i (gi g2 0).int, .i (gi g4 0).int, .i (gi g6 0).int, .s (gi ((gi g1 0).rows.getD 2 []) 0).str, .s (gi ((gi g1 0).rows.getD 3 []) 0).str]] : List (List G))), .t (ltI 0 (gi g6 0).int)] else none) else (bif ((((Nat.beq ((gi d 0).rows ++ ([[.i (gi g2 0).int, .i (gi g4 0).int, .i (gi g6 0).int, .s (gi ((gi g1 0).rows.getD 2 []) 0).str, .s (gi ((gi g1 0).rows.getD 3 []) 0).str]] : List (List G))).length ((gi d 0).rows ++ ([[.i (gi g2 0).int, .i (gi g4 0).int, .i (gi g6 0).int, .s (gi ((gi g1 0).rows.getD 2 []) 0).str, .s (gi ((gi g1 0).rows.getD 3 []) 0).str]] : List (List G))).length) && true) && true) && true) then some [.l ((gi d 0).rows ++ ([[.i (gi g2 0).int, .i (gi g4 0).int, .i (gi g6 0).int, .s (gi ((gi g1 0).rows.getD 2 []) 0).str, .s (gi ((gi g1 0).rows.getD 3 []) 0).str]] : List (List G))), .t false] else none)) else (bif ((((Nat.beq ((gi d 0).rows ++ ([[.i (gi g2 0).int, .i (gi g4 0).int, .i (gi g6 0).int, .s (gi ((gi g1 0).rows.getD 2 []) 0).str, .s (gi ((gi g1 0).rows.getD 3 []) 0).str]] : List (List G))).length ((gi d 0).rows ++ ([[.i (gi g2 0).int, .i (gi g4 0).int, .i (gi g6 0).int, .s (gi ((gi g1 0).rows.getD 2 []) 0).str, .s (gi ((gi g1 0).rows.getD 3 []) 0).str]] : List (List G))).length) && true) && true) && true) then some [.l ((gi d 0).rows ++ ([[.i (gi g2 0).int, .i (gi g4 0).int, .i (gi g6 0).int, .s (gi ((gi g1 0).rows.getD 2 []) 0).str, .s (gi ((gi g1 0).rows.getD 3 []) 0).str]] : List (List G))), .t false] else none)) else none)) else none)) else none) else none)) else none))) else none))))
def s_r2_CardsRead_1 : FSpec := ⟨90, [.s (.str), .s (.ptr 0 0)], [.box [.vec 1 5], .vec KCard 0], [.slot 1, .cell 0 0], [.s (.bool)], [.box [.vec 1 5], .vec KCard 1], [.fix 0, .fix 1], [], F_r2_CardsRead_1⟩
theorem b_r2_CardsRead_1 : BodyOK P t83 nL0 Tryz.f90 s_r2_CardsRead_1 := fun d => by kernel_rfl
theorem c_r2_CardsRead_1 : COK P s_r2_CardsRead_1 := bdC hm t83_ok Tryz.func90 (nLk _ _ _) b_r2_CardsRead_1
def t84 : Tab := t83.addW s_r2_CardsRead_1
theorem t84_ok : TabOK P t84 := t83_ok.aW c_r2_CardsRead_1

def st_r2_Lines_2 (d : List G) : Option (Option Nat × List G) :=
 (bif (!((gi d 1).str.toList == (⟨#[]⟩ : ByteArray).toList)) then (callF (F_strings_Cut [.s (gi d 1).str, .s (⟨#[10]⟩ : ByteArray)]) fun g1 => (bif (!(gi g1 2).bool) then (bif ((((Nat.beq (gi d 0).rows.length (gi d 0).rows.length) && true) && true) && true) then some (some 0, [.l (gi d 0).rows, .i (gi d 2).int, .t false]) else none) else (callB (((((Nat.beq (gi d 0).rows.length (gi d 0).rows.length) && true) && true) && true) && (F_r2_CardsRead_1 [.l (gi d 0).rows, .s (gi g1 0).str]).isSome) (F_r2_CardsRead_1 [.l (gi d 0).rows, .s (gi g1 0).str]) fun g2 => (bif (!(gi g2 1).bool) then (bif ((((Nat.beq (gi g2 0).rows.length (gi g2 0).rows.length) && true) && true) && true) then some (some 0, [.l (gi g2 0).rows, .i (gi d 2).int, .t false]) else none) else (bif (inI ((gi d 2).int + 1)) then (bif ((((Nat.beq (gi g2 0).rows.length (gi g2 0).rows.length) && true) && true) && true) then some (none, [.l (gi g2 0).rows, .s (gi g1 1).str, .i ((gi d 2).int + 1)]) else none) else none))))) else (bif ((((Nat.beq (gi d 0).rows.length (gi d 0).rows.length) && true) && true) && true) then some (some 1, [.l (gi d 0).rows]) else none))
def l_r2_Lines_2 : LSpec := ⟨2, [], ⟨30, [(0, .s (.str)), (1, .clo 90 [.ptr 0 0]), (6, .s (.int .i64))], [.box [.vec 1 5], .vec KCard 1]⟩, [.fix 0, .cell 0 0], [⟨.ret, ⟨30, [(4, .s (.int .i64)), (5, .s (.bool))], [.box [.vec 1 5], .vec KCard 1]⟩, [.fix 0, .cell 0 0]⟩, ⟨.exit 0, ⟨30, [], [.box [.vec 1 5], .vec KCard 1]⟩, [.fix 0, .cell 0 0]⟩], st_r2_Lines_2⟩
theorem r_r2_Lines_2 : RoundOK P t84 nL0 2 (loopAt Tryz.f58 2) l_r2_Lines_2 := fun d => by kernel_rfl
def L_r2_Lines_2 : LT := nL0.add 2 l_r2_Lines_2
theorem L_r2_Lines_2_ok : LpK P 2 L_r2_Lines_2 (bodyOf Tryz.f58) := LpK.a hm t84_ok (nLk _ _ _) r_r2_Lines_2
def F_r2_Lines (d : List G) : Option (List G) :=
 (loopB ((((Nat.beq (gi d 0).rows.length (gi d 0).rows.length) && true) && true) && true) (LRun st_r2_Lines_2 [.l (gi d 0).rows, .s (gi d 1).str, .i 0]) fun cg3 g3 => (bif Nat.beq cg3 0 then (bif ((((Nat.beq (gi g3 0).rows.length (gi g3 0).rows.length) && true) && true) && true) then some [.l (gi g3 0).rows, .i (gi g3 1).int, .t (gi g3 2).bool] else none) else (bif ((((Nat.beq (gi g3 0).rows.length (gi g3 0).rows.length) && true) && true) && true) then some [.l (gi g3 0).rows, .i 0, .t true] else none)))
def s_r2_Lines : FSpec := ⟨58, [.s (.str), .clo 90 [.ptr 0 0]], [.box [.vec 1 5], .vec KCard 0], [.cap 1 0, .cell 0 0], [.s (.int .i64), .s (.bool)], [.box [.vec 1 5], .vec KCard 1], [.fix 0, .fix 1], [], F_r2_Lines⟩
theorem b_r2_Lines : BodyOK P t84 L_r2_Lines_2 Tryz.f58 s_r2_Lines := fun d => by kernel_rfl
theorem c_r2_Lines : COK P s_r2_Lines := bdC hm t84_ok Tryz.func58 L_r2_Lines_2_ok b_r2_Lines
def t85 : Tab := t84.addW s_r2_Lines
theorem t85_ok : TabOK P t85 := t84_ok.aW c_r2_Lines

def st_sl_Equal_Card_4 (d : List G) : Option (Option Nat × List G) :=
 (bif (ltI (gi d 3).int (gi d 2).int) then (bif ((nnI (gi d 3).int) && (ltI (gi d 3).int (((gi d 0).rows.length : Nat) : Int))) then (bif ((nnI (gi d 3).int) && (ltI (gi d 3).int (((gi d 1).rows.length : Nat) : Int))) then (bif (!(rowEq KCard (gEta KCard ((gi d 0).rows.getD (((gi d 3).int).toNat) [])) (gEta KCard ((gi d 1).rows.getD (((gi d 3).int).toNat) [])))) then some (some 0, [.t false]) else (bif (inI ((gi d 3).int + 1)) then some (none, [.l (gi d 0).rows, .l (gi d 1).rows, .i (gi d 2).int, .i ((gi d 3).int + 1)]) else none)) else none) else none) else some (some 1, []))
def l_sl_Equal_Card_4 : LSpec := ⟨4, [], ⟨26, [(0, .s (.list KCard)), (1, .s (.list KCard)), (12, .s (.int .i64)), (13, .s (.int .i64))], []⟩, [], [⟨.ret, ⟨26, [(4, .s (.bool))], []⟩, []⟩, ⟨.exit 0, ⟨26, [], []⟩, []⟩], st_sl_Equal_Card_4⟩
theorem r_sl_Equal_Card_4 : RoundOK P t85 nL0 0 (loopAt Tryz.f32 4) l_sl_Equal_Card_4 := fun d => by kernel_rfl
def L_sl_Equal_Card_4 : LT := nL0.add 0 l_sl_Equal_Card_4
theorem L_sl_Equal_Card_4_ok : LpK P 0 L_sl_Equal_Card_4 (bodyOf Tryz.f32) := LpK.a hm t85_ok (nLk _ _ _) r_sl_Equal_Card_4
def F_sl_Equal_Card (d : List G) : Option (List G) :=
 (bif ((((gi d 0).rows.length : Nat) : Int) != (((gi d 1).rows.length : Nat) : Int)) then some [.t false] else (loopB true (LRun st_sl_Equal_Card_4 [.l (gi d 0).rows, .l (gi d 1).rows, .i (((gi d 0).rows.length : Nat) : Int), .i 0]) fun cg1 g1 => (bif Nat.beq cg1 0 then some [.t (gi g1 0).bool] else some [.t true])))
def s_sl_Equal_Card : FSpec := ⟨32, [.s (.list KCard), .s (.list KCard)], [], [], [.s (.bool)], [], [], [], F_sl_Equal_Card⟩
theorem b_sl_Equal_Card : BodyOK P t85 L_sl_Equal_Card_4 Tryz.f32 s_sl_Equal_Card := fun d => by kernel_rfl
theorem c_sl_Equal_Card : COK P s_sl_Equal_Card := bdC hm t85_ok Tryz.func32 L_sl_Equal_Card_4_ok b_sl_Equal_Card
def t86 : Tab := t85.addP s_sl_Equal_Card
theorem t86_ok : TabOK P t86 := t85_ok.aP c_sl_Equal_Card

def st_club_isSquare_4 (d : List G) : Option (Option Nat × List G) :=
 (bif (ltI (gi d 2).int (gi d 1).int) then (bif (inI (Int.tdiv (gi d 2).int 2)) then (bif ((Int.tdiv (gi d 2).int 2) == 1) then (bif ((nnI (gi d 2).int) && (ltI (gi d 2).int (((gi d 0).str.size : Nat) : Int))) then (bif (ltI (((gi d 0).str.data.toList.getD (((gi d 2).int).toNat) 0).toNat : Int) 48) then some (some 0, [.t false]) else (bif ((nnI (gi d 2).int) && (ltI (gi d 2).int (((gi d 0).str.size : Nat) : Int))) then (bif (ltI 57 (((gi d 0).str.data.toList.getD (((gi d 2).int).toNat) 0).toNat : Int)) then some (some 0, [.t false]) else (bif (inI ((gi d 2).int + 1)) then some (none, [.s (gi d 0).str, .i (gi d 1).int, .i ((gi d 2).int + 1)]) else none)) else none)) else none) else (bif ((Int.tdiv (gi d 2).int 2) == 2) then (bif ((nnI (gi d 2).int) && (ltI (gi d 2).int (((gi d 0).str.size : Nat) : Int))) then (bif (ltI (((gi d 0).str.data.toList.getD (((gi d 2).int).toNat) 0).toNat : Int) 97) then some (some 0, [.t false]) else (bif ((nnI (gi d 2).int) && (ltI (gi d 2).int (((gi d 0).str.size : Nat) : Int))) then (bif (ltI 120 (((gi d 0).str.data.toList.getD (((gi d 2).int).toNat) 0).toNat : Int)) then some (some 0, [.t false]) else (bif (inI ((gi d 2).int + 1)) then some (none, [.s (gi d 0).str, .i (gi d 1).int, .i ((gi d 2).int + 1)]) else none)) else none)) else none) else (bif ((nnI (gi d 2).int) && (ltI (gi d 2).int (((gi d 0).str.size : Nat) : Int))) then (bif (ltI (((gi d 0).str.data.toList.getD (((gi d 2).int).toNat) 0).toNat : Int) 97) then some (some 0, [.t false]) else (bif ((nnI (gi d 2).int) && (ltI (gi d 2).int (((gi d 0).str.size : Nat) : Int))) then (bif (ltI 114 (((gi d 0).str.data.toList.getD (((gi d 2).int).toNat) 0).toNat : Int)) then some (some 0, [.t false]) else (bif (inI ((gi d 2).int + 1)) then some (none, [.s (gi d 0).str, .i (gi d 1).int, .i ((gi d 2).int + 1)]) else none)) else none)) else none))) else none) else some (some 1, []))
def l_club_isSquare_4 : LSpec := ⟨4, [], ⟨43, [(0, .s (.str)), (20, .s (.int .i64)), (21, .s (.int .i64))], []⟩, [], [⟨.ret, ⟨43, [(2, .s (.bool))], []⟩, []⟩, ⟨.exit 0, ⟨43, [], []⟩, []⟩], st_club_isSquare_4⟩
theorem r_club_isSquare_4 : RoundOK P t86 nL0 0 (loopAt Tryz.f215 4) l_club_isSquare_4 := fun d => by kernel_rfl
def L_club_isSquare_4 : LT := nL0.add 0 l_club_isSquare_4
theorem L_club_isSquare_4_ok : LpK P 0 L_club_isSquare_4 (bodyOf Tryz.f215) := LpK.a hm t86_ok (nLk _ _ _) r_club_isSquare_4
def F_club_isSquare (d : List G) : Option (List G) :=
 (bif ((((gi d 0).str.size : Nat) : Int) != 2) then (bif ((((gi d 0).str.size : Nat) : Int) != 4) then (bif ((((gi d 0).str.size : Nat) : Int) != 6) then some [.t false] else (loopB true (LRun st_club_isSquare_4 [.s (gi d 0).str, .i (((gi d 0).str.size : Nat) : Int), .i 0]) fun cg1 g1 => (bif Nat.beq cg1 0 then some [.t (gi g1 0).bool] else some [.t true]))) else (loopB true (LRun st_club_isSquare_4 [.s (gi d 0).str, .i (((gi d 0).str.size : Nat) : Int), .i 0]) fun cg2 g2 => (bif Nat.beq cg2 0 then some [.t (gi g2 0).bool] else some [.t true]))) else (loopB true (LRun st_club_isSquare_4 [.s (gi d 0).str, .i (((gi d 0).str.size : Nat) : Int), .i 0]) fun cg3 g3 => (bif Nat.beq cg3 0 then some [.t (gi g3 0).bool] else some [.t true])))
def s_club_isSquare : FSpec := ⟨215, [.s (.str)], [], [], [.s (.bool)], [], [], [], F_club_isSquare⟩
theorem b_club_isSquare : BodyOK P t86 L_club_isSquare_4 Tryz.f215 s_club_isSquare := fun d => by kernel_rfl
theorem c_club_isSquare : COK P s_club_isSquare := bdC hm t86_ok Tryz.func215 L_club_isSquare_4_ok b_club_isSquare
def t87 : Tab := t86.addP s_club_isSquare
theorem t87_ok : TabOK P t87 := t86_ok.aP c_club_isSquare

def F_club_isLocator (d : List G) : Option (List G) :=
 (bif ((((gi d 0).str.size : Nat) : Int) == 6) then (callF (F_club_isSquare [.s (gi d 0).str]) fun g1 => some [.t (gi g1 0).bool]) else some [.t false])
def s_club_isLocator : FSpec := ⟨171, [.s (.str)], [], [], [.s (.bool)], [], [], [], F_club_isLocator⟩
theorem b_club_isLocator : BodyOK P t87 nL0 Tryz.f171 s_club_isLocator := fun d => by kernel_rfl
theorem c_club_isLocator : COK P s_club_isLocator := bdC hm t87_ok Tryz.func171 (nLk _ _ _) b_club_isLocator
def t88 : Tab := t87.addP s_club_isLocator
theorem t88_ok : TabOK P t88 := t87_ok.aP c_club_isLocator

def st_club_CheckEntrants_4 (d : List G) : Option (Option Nat × List G) :=
 (bif (ltI (gi d 3).int (gi d 2).int) then (bif ((nnI (gi d 3).int) && (ltI (gi d 3).int (((gi d 1).rows.length : Nat) : Int))) then (callF (F_call_Is [.s (gi ((gi d 1).rows.getD (((gi d 3).int).toNat) []) 0).str]) fun g1 => (bif (!(gi g1 0).bool) then some (some 0, [.i 3]) else (callF (F_kit_IsKey [.s (gi ((gi d 1).rows.getD (((gi d 3).int).toNat) []) 1).str]) fun g2 => (bif (!(gi g2 0).bool) then some (some 0, [.i 5]) else (callF (F_kit_Outside [.i (gi ((gi d 1).rows.getD (((gi d 3).int).toNat) []) 2).int, .i 0, .i 1000000000000]) fun g3 => (bif (gi g3 0).bool then some (some 0, [.i 1]) else (bif (!((gi ((gi d 1).rows.getD (((gi d 3).int).toNat) []) 3).str.toList == (⟨#[]⟩ : ByteArray).toList)) then (callF (F_club_isLocator [.s (gi ((gi d 1).rows.getD (((gi d 3).int).toNat) []) 3).str]) fun g4 => (bif (!(gi g4 0).bool) then some (some 0, [.i 3]) else (bif (ltI 0 (gi d 3).int) then (bif (inI ((gi d 3).int - 1)) then (bif ((nnI ((gi d 3).int - 1)) && (ltI ((gi d 3).int - 1) (((gi d 0).rows.length : Nat) : Int))) then (callF (F_strings_Compare [.s (gi ((gi d 0).rows.getD (((gi d 3).int - 1).toNat) []) 1).str, .s (gi ((gi d 1).rows.getD (((gi d 3).int).toNat) []) 1).str]) fun g5 => (bif (inI ((gi d 3).int - 1)) then (bif ((nnI ((gi d 3).int - 1)) && (ltI ((gi d 3).int - 1) (((gi d 0).rows.length : Nat) : Int))) then (callF (F_strings_Compare [.s (gi ((gi d 0).rows.getD (((gi d 3).int - 1).toNat) []) 0).str, .s (gi ((gi d 1).rows.getD (((gi d 3).int).toNat) []) 0).str]) fun g6 => (callF (F_cmp_Or_int [.l [[.i (gi g5 0).int], [.i (gi g6 0).int]]]) fun g7 => (bif (leI 0 (gi g7 0).int) then some (some 0, [.i 7]) else (bif (inI ((gi d 3).int + 1)) then some (none, [.l (gi d 0).rows, .l (gi d 1).rows, .i (gi d 2).int, .i ((gi d 3).int + 1)]) else none)))) else none) else none)) else none) else none) else (bif (inI ((gi d 3).int + 1)) then some (none, [.l (gi d 0).rows, .l (gi d 1).rows, .i (gi d 2).int, .i ((gi d 3).int + 1)]) else none)))) else (bif (ltI 0 (gi d 3).int) then (bif (inI ((gi d 3).int - 1)) then (bif ((nnI ((gi d 3).int - 1)) && (ltI ((gi d 3).int - 1) (((gi d 0).rows.length : Nat) : Int))) then (callF (F_strings_Compare [.s (gi ((gi d 0).rows.getD (((gi d 3).int - 1).toNat) []) 1).str, .s (gi ((gi d 1).rows.getD (((gi d 3).int).toNat) []) 1).str]) fun g8 => (bif (inI ((gi d 3).int - 1)) then (bif ((nnI ((gi d 3).int - 1)) && (ltI ((gi d 3).int - 1) (((gi d 0).rows.length : Nat) : Int))) then (callF (F_strings_Compare [.s (gi ((gi d 0).rows.getD (((gi d 3).int - 1).toNat) []) 0).str, .s (gi ((gi d 1).rows.getD (((gi d 3).int).toNat) []) 0).str]) fun g9 => (callF (F_cmp_Or_int [.l [[.i (gi g8 0).int], [.i (gi g9 0).int]]]) fun g10 => (bif (leI 0 (gi g10 0).int) then some (some 0, [.i 7]) else (bif (inI ((gi d 3).int + 1)) then some (none, [.l (gi d 0).rows, .l (gi d 1).rows, .i (gi d 2).int, .i ((gi d 3).int + 1)]) else none)))) else none) else none)) else none) else none) else (bif (inI ((gi d 3).int + 1)) then some (none, [.l (gi d 0).rows, .l (gi d 1).rows, .i (gi d 2).int, .i ((gi d 3).int + 1)]) else none))))))))) else none) else some (some 1, []))
def l_club_CheckEntrants_4 : LSpec := ⟨4, [], ⟨66, [(0, .s (.list KEntrant)), (8, .s (.list KEntrant)), (9, .s (.int .i64)), (10, .s (.int .i64))], []⟩, [], [⟨.ret, ⟨66, [(2, .s (.int .i64))], []⟩, []⟩, ⟨.exit 0, ⟨66, [], []⟩, []⟩], st_club_CheckEntrants_4⟩
theorem r_club_CheckEntrants_4 : RoundOK P t88 nL0 0 (loopAt Tryz.f133 4) l_club_CheckEntrants_4 := fun d => by kernel_rfl
def L_club_CheckEntrants_4 : LT := nL0.add 0 l_club_CheckEntrants_4
theorem L_club_CheckEntrants_4_ok : LpK P 0 L_club_CheckEntrants_4 (bodyOf Tryz.f133) := LpK.a hm t88_ok (nLk _ _ _) r_club_CheckEntrants_4
def F_club_CheckEntrants (d : List G) : Option (List G) :=
 (bif (ltI 500 (((gi d 0).rows.length : Nat) : Int)) then some [.i 2] else (loopB true (LRun st_club_CheckEntrants_4 [.l (gi d 0).rows, .l (gi d 0).rows, .i (((gi d 0).rows.length : Nat) : Int), .i 0]) fun cg11 g11 => (bif Nat.beq cg11 0 then some [.i (gi g11 0).int] else some [.i 0])))
def s_club_CheckEntrants : FSpec := ⟨133, [.s (.list KEntrant)], [], [], [.s (.int .i64)], [], [], [], F_club_CheckEntrants⟩
theorem b_club_CheckEntrants : BodyOK P t88 L_club_CheckEntrants_4 Tryz.f133 s_club_CheckEntrants := fun d => by kernel_rfl
theorem c_club_CheckEntrants : COK P s_club_CheckEntrants := bdC hm t88_ok Tryz.func133 L_club_CheckEntrants_4_ok b_club_CheckEntrants
def t89 : Tab := t88.addP s_club_CheckEntrants
theorem t89_ok : TabOK P t89 := t88_ok.aP c_club_CheckEntrants

def tl_bits_Len64_10 (d : List G) : Option (Option Nat × List G) :=
 (bif ((nnI (IntKind.u8.wrap ((gi d 0).int))) && (ltI (IntKind.u8.wrap ((gi d 0).int)) 256)) then (bif (inI (((⟨#[0, 1, 2, 2, 3, 3, 3, 3, 4, 4, 4, 4, 4, 4, 4, 4, 5, 5, 5, 5, 5, 5, 5, 5, 5, 5, 5, 5, 5, 5, 5, 5, 6, 6, 6, 6, 6, 6, 6, 6, 6, 6, 6, 6, 6, 6, 6, 6, 6, 6, 6, 6, 6, 6, 6, 6, 6, 6, 6, 6, 6, 6, 6, 6, 7, 7, 7, 7, 7, 7, 7, 7, 7, 7, 7, 7, 7, 7, 7, 7, 7, 7, 7, 7, 7, 7, 7, 7, 7, 7, 7, 7, 7, 7, 7, 7, 7, 7, 7, 7, 7, 7, 7, 7, 7, 7, 7, 7, 7, 7, 7, 7, 7, 7, 7, 7, 7, 7, 7, 7, 7, 7, 7, 7, 7, 7, 7, 7, 8, 8, 8, 8, 8, 8, 8, 8, 8, 8, 8, 8, 8, 8, 8, 8, 8, 8, 8, 8, 8, 8, 8, 8, 8, 8, 8, 8, 8, 8, 8, 8, 8, 8, 8, 8, 8, 8, 8, 8, 8, 8, 8, 8, 8, 8, 8, 8, 8, 8, 8, 8, 8, 8, 8, 8, 8, 8, 8, 8, 8, 8, 8, 8, 8, 8, 8, 8, 8, 8, 8, 8, 8, 8, 8, 8, 8, 8, 8, 8, 8, 8, 8, 8, 8, 8, 8, 8, 8, 8, 8, 8, 8, 8, 8, 8, 8, 8, 8, 8, 8, 8, 8, 8, 8, 8, 8, 8, 8, 8, 8, 8, 8, 8, 8, 8, 8, 8, 8, 8, 8, 8, 8, 8, 8, 8, 8, 8]⟩ : ByteArray).data.toList.getD ((IntKind.u8.wrap ((gi d 0).int)).toNat) 0).toNat : Int)) then (bif (inI ((gi d 1).int + (((⟨#[0, 1, 2, 2, 3, 3, 3, 3, 4, 4, 4, 4, 4, 4, 4, 4, 5, 5, 5, 5, 5, 5, 5, 5, 5, 5, 5, 5, 5, 5, 5, 5, 6, 6, 6, 6, 6, 6, 6, 6, 6, 6, 6, 6, 6, 6, 6, 6, 6, 6, 6, 6, 6, 6, 6, 6, 6, 6, 6, 6, 6, 6, 6, 6, 7, 7, 7, 7, 7, 7, 7, 7, 7, 7, 7, 7, 7, 7, 7, 7, 7, 7, 7, 7, 7, 7, 7, 7, 7, 7, 7, 7, 7, 7, 7, 7, 7, 7, 7, 7, 7, 7, 7, 7, 7, 7, 7, 7, 7, 7, 7, 7, 7, 7, 7, 7, 7, 7, 7, 7, 7, 7, 7, 7, 7, 7, 7, 7, 8, 8, 8, 8, 8, 8, 8, 8, 8, 8, 8, 8, 8, 8, 8, 8, 8, 8, 8, 8, 8, 8, 8, 8, 8, 8, 8, 8, 8, 8, 8, 8, 8, 8, 8, 8, 8, 8, 8, 8, 8, 8, 8, 8, 8, 8, 8, 8, 8, 8, 8, 8, 8, 8, 8, 8, 8, 8, 8, 8, 8, 8, 8, 8, 8, 8, 8, 8, 8, 8, 8, 8, 8, 8, 8, 8, 8, 8, 8, 8, 8, 8, 8, 8, 8, 8, 8, 8, 8, 8, 8, 8, 8, 8, 8, 8, 8, 8, 8, 8, 8, 8, 8, 8, 8, 8, 8, 8, 8, 8, 8, 8, 8, 8, 8, 8, 8, 8, 8, 8, 8, 8, 8, 8, 8, 8, 8, 8]⟩ : ByteArray).data.toList.getD ((IntKind.u8.wrap ((gi d 0).int)).toNat) 0).toNat : Int))) then some (some 0, [.i ((gi d 1).int + (((⟨#[0, 1, 2, 2, 3, 3, 3, 3, 4, 4, 4, 4, 4, 4, 4, 4, 5, 5, 5, 5, 5, 5, 5, 5, 5, 5, 5, 5, 5, 5, 5, 5, 6, 6, 6, 6, 6, 6, 6, 6, 6, 6, 6, 6, 6, 6, 6, 6, 6, 6, 6, 6, 6, 6, 6, 6, 6, 6, 6, 6, 6, 6, 6, 6, 7, 7, 7, 7, 7, 7, 7, 7, 7, 7, 7, 7, 7, 7, 7, 7, 7, 7, 7, 7, 7, 7, 7, 7, 7, 7, 7, 7, 7, 7, 7, 7, 7, 7, 7, 7, 7, 7, 7, 7, 7, 7, 7, 7, 7, 7, 7, 7, 7, 7, 7, 7, 7, 7, 7, 7, 7, 7, 7, 7, 7, 7, 7, 7, 8, 8, 8, 8, 8, 8, 8, 8, 8, 8, 8, 8, 8, 8, 8, 8, 8, 8, 8, 8, 8, 8, 8, 8, 8, 8, 8, 8, 8, 8, 8, 8, 8, 8, 8, 8, 8, 8, 8, 8, 8, 8, 8, 8, 8, 8, 8, 8, 8, 8, 8, 8, 8, 8, 8, 8, 8, 8, 8, 8, 8, 8, 8, 8, 8, 8, 8, 8, 8, 8, 8, 8, 8, 8, 8, 8, 8, 8, 8, 8, 8, 8, 8, 8, 8, 8, 8, 8, 8, 8, 8, 8, 8, 8, 8, 8, 8, 8, 8, 8, 8, 8, 8, 8, 8, 8, 8, 8, 8, 8, 8, 8, 8, 8, 8, 8, 8, 8, 8, 8, 8, 8, 8, 8, 8, 8, 8, 8]⟩ : ByteArray).data.toList.getD ((IntKind.u8.wrap ((gi d 0).int)).toNat) 0).toNat : Int))]) else none) else none) else none)
def l_bits_Len64_10c : LSpec := ⟨10, [], ⟨25, [(0, .s (.int .u64)), (2, .s (.int .i64))], []⟩, [], [⟨.ret, ⟨25, [(2, .s (.int .i64))], []⟩, []⟩], tl_bits_Len64_10⟩
theorem r_bits_Len64_10c : CutOK P t89 nL0 0 (cutAt Tryz.f223 10) l_bits_Len64_10c := fun d => by kernel_rfl
def L_bits_Len64_10c : LT := nL0.addCut 0 l_bits_Len64_10c
theorem L_bits_Len64_10c_ok : LpK P 0 L_bits_Len64_10c (bodyOf Tryz.f223) := LpK.aC hm t89_ok (nLk _ _ _) r_bits_Len64_10c
def F_bits_Len64 (d : List G) : Option (List G) :=
 (bif (leI 4294967296 (gi d 0).int) then (bif (leI 65536 (shrI .u64 (gi d 0).int 32)) then (bif (leI 256 (shrI .u64 (shrI .u64 (gi d 0).int 32) 16)) then (loopB true (cutR (tl_bits_Len64_10 [.i (shrI .u64 (shrI .u64 (shrI .u64 (gi d 0).int 32) 16) 8), .i 56])) fun cg1 g1 => some [.i (gi g1 0).int]) else (loopB true (cutR (tl_bits_Len64_10 [.i (shrI .u64 (shrI .u64 (gi d 0).int 32) 16), .i 48])) fun cg2 g2 => some [.i (gi g2 0).int])) else (bif (leI 256 (shrI .u64 (gi d 0).int 32)) then (loopB true (cutR (tl_bits_Len64_10 [.i (shrI .u64 (shrI .u64 (gi d 0).int 32) 8), .i 40])) fun cg3 g3 => some [.i (gi g3 0).int]) else (loopB true (cutR (tl_bits_Len64_10 [.i (shrI .u64 (gi d 0).int 32), .i 32])) fun cg4 g4 => some [.i (gi g4 0).int]))) else (bif (leI 65536 (gi d 0).int) then (bif (leI 256 (shrI .u64 (gi d 0).int 16)) then (loopB true (cutR (tl_bits_Len64_10 [.i (shrI .u64 (shrI .u64 (gi d 0).int 16) 8), .i 24])) fun cg5 g5 => some [.i (gi g5 0).int]) else (loopB true (cutR (tl_bits_Len64_10 [.i (shrI .u64 (gi d 0).int 16), .i 16])) fun cg6 g6 => some [.i (gi g6 0).int])) else (bif (leI 256 (gi d 0).int) then (loopB true (cutR (tl_bits_Len64_10 [.i (shrI .u64 (gi d 0).int 8), .i 8])) fun cg7 g7 => some [.i (gi g7 0).int]) else (loopB true (cutR (tl_bits_Len64_10 [.i (gi d 0).int, .i 0])) fun cg8 g8 => some [.i (gi g8 0).int]))))
def s_bits_Len64 : FSpec := ⟨223, [.s (.int .u64)], [], [], [.s (.int .i64)], [], [], [], F_bits_Len64⟩
theorem b_bits_Len64 : BodyOK P t89 L_bits_Len64_10c Tryz.f223 s_bits_Len64 := fun d => by kernel_rfl
theorem c_bits_Len64 : COK P s_bits_Len64 := bdC hm t89_ok Tryz.func223 L_bits_Len64_10c_ok b_bits_Len64
def t90 : Tab := t89.addP s_bits_Len64
theorem t90_ok : TabOK P t90 := t89_ok.aP c_bits_Len64

def F_bits_Len (d : List G) : Option (List G) :=
 (callF (F_bits_Len64 [.i (gi d 0).int]) fun g1 => some [.i (gi g1 0).int])
def s_bits_Len : FSpec := ⟨217, [.s (.int .u64)], [], [], [.s (.int .i64)], [], [], [], F_bits_Len⟩
theorem b_bits_Len : BodyOK P t90 nL0 Tryz.f217 s_bits_Len := fun d => by kernel_rfl
theorem c_bits_Len : COK P s_bits_Len := bdC hm t90_ok Tryz.func217 (nLk _ _ _) b_bits_Len
def t91 : Tab := t90.addP s_bits_Len
theorem t91_ok : TabOK P t91 := t90_ok.aP c_bits_Len

def F_club_ranked_1 (d : List G) : Option (List G) :=
 (callF (F_cmp_Compare_int [.i (gi (gi d 1).row 1).int, .i (gi (gi d 0).row 1).int]) fun g1 => (callF (F_strings_Compare [.s (gi (gi d 0).row 2).str, .s (gi (gi d 1).row 2).str]) fun g2 => (callF (F_cmp_Or_int [.l [[.i (gi g1 0).int], [.i (gi g2 0).int]]]) fun g3 => some [.i (gi g3 0).int])))
def s_club_ranked_1 : FSpec := ⟨173, [.s (.row KPlace), .s (.row KPlace)], [], [], [.s (.int .i64)], [], [], [], F_club_ranked_1⟩
theorem b_club_ranked_1 : BodyOK P t91 nL0 Tryz.f173 s_club_ranked_1 := fun d => by kernel_rfl
theorem c_club_ranked_1 : COK P s_club_ranked_1 := bdC hm t91_ok Tryz.func173 (nLk _ _ _) b_club_ranked_1
def t92 : Tab := t91.addP s_club_ranked_1
theorem t92_ok : TabOK P t92 := t91_ok.aP c_club_ranked_1

def st_insS_Place_4 (d : List G) : Option (Option Nat × List G) :=
 (bif (ltI (gi d 1).int (gi d 4).int) then (bif ((nnI (gi d 4).int) && (ltI (gi d 4).int (((gi d 0).rows.length : Nat) : Int))) then (bif (decide ((0 + ((gi d 4).int).toNat) < (gi d 0).rows.length)) then (bif (inI ((gi d 4).int - 1)) then (bif ((nnI ((gi d 4).int - 1)) && (ltI ((gi d 4).int - 1) (((gi d 0).rows.length : Nat) : Int))) then (bif (decide ((0 + ((gi d 4).int - 1).toNat) < (gi d 0).rows.length)) then (callF (F_club_ranked_1 [.l [(gEta KPlace ((gi d 0).rows.getD (0 + ((gi d 4).int).toNat) []))], .l [(gEta KPlace ((gi d 0).rows.getD (0 + ((gi d 4).int - 1).toNat) []))]]) fun g1 => (bif (ltI (gi g1 0).int 0) then (bif (inI ((gi d 4).int - 1)) then (bif (inI ((gi d 4).int - 1)) then (bif ((nnI ((gi d 4).int - 1)) && (ltI ((gi d 4).int - 1) (((gi d 0).rows.length : Nat) : Int))) then (bif (decide ((0 + ((gi d 4).int - 1).toNat) < (gi d 0).rows.length)) then (bif ((nnI (gi d 4).int) && (ltI (gi d 4).int (((gi d 0).rows.length : Nat) : Int))) then (bif (decide ((0 + ((gi d 4).int).toNat) < (gi d 0).rows.length)) then (bif ((nnI (gi d 4).int) && (ltI (gi d 4).int (((gi d 0).rows.length : Nat) : Int))) then (bif (decide ((0 + ((gi d 4).int).toNat) < (gi d 0).rows.length)) then (bif ((nnI ((gi d 4).int - 1)) && (ltI ((gi d 4).int - 1) (((gi d 0).rows.length : Nat) : Int))) then (bif (decide ((0 + ((gi d 4).int - 1).toNat) < ((gi d 0).rows.set (0 + ((gi d 4).int).toNat) (putG KPlace ((gi d 0).rows.getD (0 + ((gi d 4).int).toNat) []) 0 (gEta KPlace ((gi d 0).rows.getD (0 + ((gi d 4).int - 1).toNat) [])))).length)) then (bif (inI ((gi d 4).int - 1)) then (bif ((Nat.beq (gi d 0).rows.length (((gi d 0).rows.set (0 + ((gi d 4).int).toNat) (putG KPlace ((gi d 0).rows.getD (0 + ((gi d 4).int).toNat) []) 0 (gEta KPlace ((gi d 0).rows.getD (0 + ((gi d 4).int - 1).toNat) [])))).set (0 + ((gi d 4).int - 1).toNat) (putG KPlace (((gi d 0).rows.set (0 + ((gi d 4).int).toNat) (putG KPlace ((gi d 0).rows.getD (0 + ((gi d 4).int).toNat) []) 0 (gEta KPlace ((gi d 0).rows.getD (0 + ((gi d 4).int - 1).toNat) [])))).getD (0 + ((gi d 4).int - 1).toNat) []) 0 (gEta KPlace ((gi d 0).rows.getD (0 + ((gi d 4).int).toNat) [])))).length) && true) then some (none, [.l (((gi d 0).rows.set (0 + ((gi d 4).int).toNat) (putG KPlace ((gi d 0).rows.getD (0 + ((gi d 4).int).toNat) []) 0 (gEta KPlace ((gi d 0).rows.getD (0 + ((gi d 4).int - 1).toNat) [])))).set (0 + ((gi d 4).int - 1).toNat) (putG KPlace (((gi d 0).rows.set (0 + ((gi d 4).int).toNat) (putG KPlace ((gi d 0).rows.getD (0 + ((gi d 4).int).toNat) []) 0 (gEta KPlace ((gi d 0).rows.getD (0 + ((gi d 4).int - 1).toNat) [])))).getD (0 + ((gi d 4).int - 1).toNat) []) 0 (gEta KPlace ((gi d 0).rows.getD (0 + ((gi d 4).int).toNat) [])))), .i (gi d 1).int, .i (gi d 2).int, .i (gi d 3).int, .i ((gi d 4).int - 1)]) else none) else none) else none) else none) else none) else none) else none) else none) else none) else none) else none) else none) else (bif ((Nat.beq (gi d 0).rows.length (gi d 0).rows.length) && true) then some (some 0, [.l (gi d 0).rows, .i (gi d 1).int, .i (gi d 2).int, .i (gi d 3).int]) else none))) else none) else none) else none) else none) else none) else (bif ((Nat.beq (gi d 0).rows.length (gi d 0).rows.length) && true) then some (some 0, [.l (gi d 0).rows, .i (gi d 1).int, .i (gi d 2).int, .i (gi d 3).int]) else none))
def l_insS_Place_4 : LSpec := ⟨4, [], ⟨53, [(0, .s (.vec 0 3)), (1, .s (.int .i64)), (2, .s (.int .i64)), (3, .s (.fn 173)), (8, .s (.int .i64)), (9, .s (.int .i64))], [.vec KPlace 0]⟩, [.fix 0], [⟨.exit 2, ⟨53, [(0, .s (.vec 0 3)), (1, .s (.int .i64)), (2, .s (.int .i64)), (3, .s (.fn 173)), (8, .s (.int .i64))], [.vec KPlace 0]⟩, [.fix 0]⟩], st_insS_Place_4⟩
theorem r_insS_Place_4 : RoundOK P t92 nL0 1 (loopAt Tryz.f246 4) l_insS_Place_4 := fun d => by kernel_rfl
def L_insS_Place_4 : LT := nL0.add 1 l_insS_Place_4
theorem L_insS_Place_4_ok : LpK P 1 L_insS_Place_4 (bodyOf Tryz.f246) := LpK.a hm t92_ok (nLk _ _ _) r_insS_Place_4
def st_insS_Place_1 (d : List G) : Option (Option Nat × List G) :=
 (bif (ltI (gi d 3).int (gi d 2).int) then (loopB ((Nat.beq (gi d 0).rows.length (gi d 0).rows.length) && true) (LRun st_insS_Place_4 [.l (gi d 0).rows, .i (gi d 1).int, .i (gi d 2).int, .i (gi d 3).int, .i (gi d 3).int]) fun cg2 g2 => (bif (inI ((gi g2 3).int + 1)) then (bif ((Nat.beq (gi g2 0).rows.length (gi g2 0).rows.length) && true) then some (none, [.l (gi g2 0).rows, .i (gi g2 1).int, .i (gi g2 2).int, .i ((gi g2 3).int + 1)]) else none) else none)) else some (some 0, [.l (gi d 0).rows]))
def l_insS_Place_1 : LSpec := ⟨1, [], ⟨53, [(0, .s (.vec 0 3)), (1, .s (.int .i64)), (2, .s (.int .i64)), (3, .s (.fn 173)), (8, .s (.int .i64))], [.vec KPlace 0]⟩, [.fix 0], [⟨.exit 0, ⟨53, [], [.vec KPlace 0]⟩, [.fix 0]⟩], st_insS_Place_1⟩
theorem r_insS_Place_1 : RoundOK P t92 L_insS_Place_4 1 (loopAt Tryz.f246 1) l_insS_Place_1 := fun d => by kernel_rfl
def L_insS_Place_1 : LT := L_insS_Place_4.add 1 l_insS_Place_1
theorem L_insS_Place_1_ok : LpK P 1 L_insS_Place_1 (bodyOf Tryz.f246) := LpK.a hm t92_ok L_insS_Place_4_ok r_insS_Place_1
def F_insS_Place (d : List G) : Option (List G) :=
 (bif (inI ((gi d 1).int + 1)) then (loopB ((Nat.beq (gi d 0).rows.length (gi d 0).rows.length) && true) (LRun st_insS_Place_1 [.l (gi d 0).rows, .i (gi d 1).int, .i (gi d 2).int, .i ((gi d 1).int + 1)]) fun cg3 g3 => some [.l (gi g3 0).rows]) else none)
def s_insS_Place : FSpec := ⟨246, [.s (.vec 0 3), .s (.int .i64), .s (.int .i64), .s (.fn 173)], [.vec KPlace 0], [.slot 0], [], [.vec KPlace 0], [.fix 0], [], F_insS_Place⟩
theorem b_insS_Place : BodyOK P t92 L_insS_Place_1 Tryz.f246 s_insS_Place := fun d => by kernel_rfl
theorem c_insS_Place : COK P s_insS_Place := bdC hm t92_ok Tryz.func246 L_insS_Place_1_ok b_insS_Place
def t93 : Tab := t92.addW s_insS_Place
theorem t93_ok : TabOK P t93 := t92_ok.aW c_insS_Place

def st_sl_pdqsortCmpFunc_Place_2 (d : List G) : Option (Option Nat × List G) :=
 (bif (inI ((gi d 2).int - (gi d 1).int)) then (bif (leI ((gi d 2).int - (gi d 1).int) 12) then (callB (((Nat.beq (gi d 0).rows.length (gi d 0).rows.length) && true) && (F_insS_Place [.l (gi d 0).rows, .i (gi d 1).int, .i (gi d 2).int]).isSome) (F_insS_Place [.l (gi d 0).rows, .i (gi d 1).int, .i (gi d 2).int]) fun g1 => some (some 0, [.l (gi g1 0).rows])) else (bif ((gi d 3).int == 0) then none else (bif (!(gi d 4).bool) then none else none))) else none)
def l_sl_pdqsortCmpFunc_Place_2 : LSpec := ⟨2, [], ⟨148, [(0, .s (.vec 0 3)), (1, .s (.int .i64)), (2, .s (.int .i64)), (3, .s (.int .i64)), (4, .s (.fn 173)), (10, .s (.bool)), (11, .s (.bool))], [.vec KPlace 0]⟩, [.fix 0], [⟨.ret, ⟨148, [], [.vec KPlace 0]⟩, [.fix 0]⟩], st_sl_pdqsortCmpFunc_Place_2⟩
theorem r_sl_pdqsortCmpFunc_Place_2 : RoundOK P t93 nL0 1 (loopAt Tryz.f216 2) l_sl_pdqsortCmpFunc_Place_2 := fun d => by kernel_rfl
def L_sl_pdqsortCmpFunc_Place_2 : LT := nL0.add 1 l_sl_pdqsortCmpFunc_Place_2
theorem L_sl_pdqsortCmpFunc_Place_2_ok : LpK P 1 L_sl_pdqsortCmpFunc_Place_2 (bodyOf Tryz.f216) := LpK.a hm t93_ok (nLk _ _ _) r_sl_pdqsortCmpFunc_Place_2
def F_sl_pdqsortCmpFunc_Place (d : List G) : Option (List G) :=
 (loopB ((Nat.beq (gi d 0).rows.length (gi d 0).rows.length) && true) (LRun st_sl_pdqsortCmpFunc_Place_2 [.l (gi d 0).rows, .i (gi d 1).int, .i (gi d 2).int, .i (gi d 3).int, .t true, .t true]) fun cg2 g2 => some [.l (gi g2 0).rows])
def s_sl_pdqsortCmpFunc_Place : FSpec := ⟨216, [.s (.vec 0 3), .s (.int .i64), .s (.int .i64), .s (.int .i64), .s (.fn 173)], [.vec KPlace 0], [.slot 0], [], [.vec KPlace 0], [.fix 0], [], F_sl_pdqsortCmpFunc_Place⟩
theorem b_sl_pdqsortCmpFunc_Place : BodyOK P t93 L_sl_pdqsortCmpFunc_Place_2 Tryz.f216 s_sl_pdqsortCmpFunc_Place := fun d => by kernel_rfl
theorem c_sl_pdqsortCmpFunc_Place : COK P s_sl_pdqsortCmpFunc_Place := bdC hm t93_ok Tryz.func216 L_sl_pdqsortCmpFunc_Place_2_ok b_sl_pdqsortCmpFunc_Place
def t94 : Tab := t93.addW s_sl_pdqsortCmpFunc_Place
theorem t94_ok : TabOK P t94 := t93_ok.aW c_sl_pdqsortCmpFunc_Place

def F_sl_SortFunc_Place (d : List G) : Option (List G) :=
 (callF (F_bits_Len [.i (IntKind.u64.wrap (((gi d 0).rows.length : Nat) : Int))]) fun g1 => (callB (((Nat.beq (gi d 0).rows.length (gi d 0).rows.length) && true) && (F_sl_pdqsortCmpFunc_Place [.l (gi d 0).rows, .i 0, .i (((gi d 0).rows.length : Nat) : Int), .i (gi g1 0).int]).isSome) (F_sl_pdqsortCmpFunc_Place [.l (gi d 0).rows, .i 0, .i (((gi d 0).rows.length : Nat) : Int), .i (gi g1 0).int]) fun g2 => some [.l (gi g2 0).rows]))
def s_sl_SortFunc_Place : FSpec := ⟨172, [.s (.vec 0 3), .s (.fn 173)], [.vec KPlace 0], [.slot 0], [], [.vec KPlace 0], [.fix 0], [], F_sl_SortFunc_Place⟩
theorem b_sl_SortFunc_Place : BodyOK P t94 nL0 Tryz.f172 s_sl_SortFunc_Place := fun d => by kernel_rfl
theorem c_sl_SortFunc_Place : COK P s_sl_SortFunc_Place := bdC hm t94_ok Tryz.func172 (nLk _ _ _) b_sl_SortFunc_Place
def t95 : Tab := t94.addW s_sl_SortFunc_Place
theorem t95_ok : TabOK P t95 := t94_ok.aW c_sl_SortFunc_Place

def tl_club_ranked_7 (d : List G) : Option (Option Nat × List G) :=
 (bif (gi d 4).bool then (bif (inI ((gi d 1).int - 1)) then (bif ((nnI ((gi d 1).int - 1)) && (ltI ((gi d 1).int - 1) (((gi d 0).rows.length : Nat) : Int))) then (bif (decide ((0 + ((gi d 1).int - 1).toNat) < (gi d 0).rows.length)) then (bif ((nnI (gi d 1).int) && (ltI (gi d 1).int (((gi d 0).rows.length : Nat) : Int))) then (bif (decide ((0 + ((gi d 1).int).toNat) < (gi d 0).rows.length)) then (bif ((Nat.beq (gi d 0).rows.length ((gi d 0).rows.set (0 + ((gi d 1).int).toNat) (putG KPlace ((gi d 0).rows.getD (0 + ((gi d 1).int).toNat) []) 0 [.i (gi ((gi d 0).rows.getD (0 + ((gi d 1).int - 1).toNat) []) 0).int])).length) && true) then some (some 0, [.l ((gi d 0).rows.set (0 + ((gi d 1).int).toNat) (putG KPlace ((gi d 0).rows.getD (0 + ((gi d 1).int).toNat) []) 0 [.i (gi ((gi d 0).rows.getD (0 + ((gi d 1).int - 1).toNat) []) 0).int])), .i (gi d 2).int, .i (gi d 3).int]) else none) else none) else none) else none) else none) else none) else (bif ((Nat.beq (gi d 0).rows.length (gi d 0).rows.length) && true) then some (some 0, [.l (gi d 0).rows, .i (gi d 2).int, .i (gi d 3).int]) else none))
def l_club_ranked_7c : LSpec := ⟨7, [], ⟨45, [(0, .s (.vec 0 3)), (3, .s (.int .i64)), (7, .s (.int .i64)), (8, .s (.int .i64)), (32, .s (.bool))], [.vec KPlace 0]⟩, [.fix 0], [⟨.normal, ⟨45, [(0, .s (.vec 0 3)), (7, .s (.int .i64)), (8, .s (.int .i64))], [.vec KPlace 0]⟩, [.fix 0]⟩], tl_club_ranked_7⟩
theorem r_club_ranked_7c : CutOK P t95 nL0 1 (cutAt Tryz.f134 7) l_club_ranked_7c := fun d => by kernel_rfl
def L_club_ranked_7c : LT := nL0.addCut 1 l_club_ranked_7c
theorem L_club_ranked_7c_ok : LpK P 1 L_club_ranked_7c (bodyOf Tryz.f134) := LpK.aC hm t95_ok (nLk _ _ _) r_club_ranked_7c
def st_club_ranked_3 (d : List G) : Option (Option Nat × List G) :=
 (bif (ltI (gi d 2).int (gi d 1).int) then (bif (inI ((gi d 2).int + 1)) then (bif ((nnI (gi d 2).int) && (ltI (gi d 2).int (((gi d 0).rows.length : Nat) : Int))) then (bif (decide ((0 + ((gi d 2).int).toNat) < (gi d 0).rows.length)) then (bif (ltI 0 (gi d 2).int) then (bif ((nnI (gi d 2).int) && (ltI (gi d 2).int (((gi d 0).rows.length : Nat) : Int))) then (bif (decide ((0 + ((gi d 2).int).toNat) < ((gi d 0).rows.set (0 + ((gi d 2).int).toNat) (putG KPlace ((gi d 0).rows.getD (0 + ((gi d 2).int).toNat) []) 0 [.i ((gi d 2).int + 1)])).length)) then (bif (inI ((gi d 2).int - 1)) then (bif ((nnI ((gi d 2).int - 1)) && (ltI ((gi d 2).int - 1) (((gi d 0).rows.length : Nat) : Int))) then (bif (decide ((0 + ((gi d 2).int - 1).toNat) < ((gi d 0).rows.set (0 + ((gi d 2).int).toNat) (putG KPlace ((gi d 0).rows.getD (0 + ((gi d 2).int).toNat) []) 0 [.i ((gi d 2).int + 1)])).length)) then (loopB ((Nat.beq (gi d 0).rows.length ((gi d 0).rows.set (0 + ((gi d 2).int).toNat) (putG KPlace ((gi d 0).rows.getD (0 + ((gi d 2).int).toNat) []) 0 [.i ((gi d 2).int + 1)])).length) && true) (cutR (tl_club_ranked_7 [.l ((gi d 0).rows.set (0 + ((gi d 2).int).toNat) (putG KPlace ((gi d 0).rows.getD (0 + ((gi d 2).int).toNat) []) 0 [.i ((gi d 2).int + 1)])), .i (gi d 2).int, .i (gi d 1).int, .i (gi d 2).int, .t ((gi (((gi d 0).rows.set (0 + ((gi d 2).int).toNat) (putG KPlace ((gi d 0).rows.getD (0 + ((gi d 2).int).toNat) []) 0 [.i ((gi d 2).int + 1)])).getD (0 + ((gi d 2).int).toNat) []) 1).int == (gi (((gi d 0).rows.set (0 + ((gi d 2).int).toNat) (putG KPlace ((gi d 0).rows.getD (0 + ((gi d 2).int).toNat) []) 0 [.i ((gi d 2).int + 1)])).getD (0 + ((gi d 2).int - 1).toNat) []) 1).int)])) fun cg2 g2 => (bif (inI ((gi g2 2).int + 1)) then (bif ((Nat.beq (gi g2 0).rows.length (gi g2 0).rows.length) && true) then some (none, [.l (gi g2 0).rows, .i (gi g2 1).int, .i ((gi g2 2).int + 1)]) else none) else none)) else none) else none) else none) else none) else none) else (loopB ((Nat.beq (gi d 0).rows.length ((gi d 0).rows.set (0 + ((gi d 2).int).toNat) (putG KPlace ((gi d 0).rows.getD (0 + ((gi d 2).int).toNat) []) 0 [.i ((gi d 2).int + 1)])).length) && true) (cutR (tl_club_ranked_7 [.l ((gi d 0).rows.set (0 + ((gi d 2).int).toNat) (putG KPlace ((gi d 0).rows.getD (0 + ((gi d 2).int).toNat) []) 0 [.i ((gi d 2).int + 1)])), .i (gi d 2).int, .i (gi d 1).int, .i (gi d 2).int, .t false])) fun cg3 g3 => (bif (inI ((gi g3 2).int + 1)) then (bif ((Nat.beq (gi g3 0).rows.length (gi g3 0).rows.length) && true) then some (none, [.l (gi g3 0).rows, .i (gi g3 1).int, .i ((gi g3 2).int + 1)]) else none) else none))) else none) else none) else none) else (bif ((Nat.beq (gi d 0).rows.length (gi d 0).rows.length) && true) then some (some 0, [.l (gi d 0).rows]) else none))
def l_club_ranked_3 : LSpec := ⟨3, [], ⟨45, [(0, .s (.vec 0 3)), (7, .s (.int .i64)), (8, .s (.int .i64))], [.vec KPlace 0]⟩, [.fix 0], [⟨.exit 0, ⟨45, [(0, .s (.vec 0 3))], [.vec KPlace 0]⟩, [.fix 0]⟩], st_club_ranked_3⟩
theorem r_club_ranked_3 : RoundOK P t95 L_club_ranked_7c 1 (loopAt Tryz.f134 3) l_club_ranked_3 := fun d => by kernel_rfl
def L_club_ranked_3 : LT := L_club_ranked_7c.add 1 l_club_ranked_3
theorem L_club_ranked_3_ok : LpK P 1 L_club_ranked_3 (bodyOf Tryz.f134) := LpK.a hm t95_ok L_club_ranked_7c_ok r_club_ranked_3
def F_club_ranked (d : List G) : Option (List G) :=
 (callB (((Nat.beq (gi d 0).rows.length (gi d 0).rows.length) && true) && (F_sl_SortFunc_Place [.l (gi d 0).rows]).isSome) (F_sl_SortFunc_Place [.l (gi d 0).rows]) fun g1 => (loopB ((Nat.beq (gi d 0).rows.length (gi g1 0).rows.length) && true) (LRun st_club_ranked_3 [.l (gi g1 0).rows, .i (((gi d 0).rows.length : Nat) : Int), .i 0]) fun cg4 g4 => (bif ((Nat.beq (gi g4 0).rows.length (gi g4 0).rows.length) && true) then some [.l (gi g4 0).rows] else none)))
def s_club_ranked : FSpec := ⟨134, [.s (.vec 0 3)], [.vec KPlace 0], [.slot 0], [.s (.vec 0 3)], [.vec KPlace 0], [.fix 0], [], F_club_ranked⟩
theorem b_club_ranked : BodyOK P t95 L_club_ranked_3 Tryz.f134 s_club_ranked := fun d => by kernel_rfl
theorem c_club_ranked : COK P s_club_ranked := bdC hm t95_ok Tryz.func134 L_club_ranked_3_ok b_club_ranked
def t96 : Tab := t95.addW s_club_ranked
theorem t96_ok : TabOK P t96 := t95_ok.aW c_club_ranked

def st_club_Table_8 (d : List G) : Option (Option Nat × List G) :=
 (bif (ltI (gi d 4).int (gi d 3).int) then (bif ((nnI (gi d 4).int) && (ltI (gi d 4).int (((gi d 2).rows.length : Nat) : Int))) then (bif ((gi ((gi d 2).rows.getD (((gi d 4).int).toNat) []) 1).str.toList == (gi d 1).str.toList) then (bif ((Nat.beq (gi d 0).rows.length (gi d 0).rows.length) && (decide (((gi d 0).rows.length + 1) ≤ 1048576))) then (bif (inI ((gi d 4).int + 1)) then (bif ((Nat.beq ((gi d 0).rows ++ ([[.i 0, .i (gi ((gi d 2).rows.getD (((gi d 4).int).toNat) []) 2).int, .s (gi ((gi d 2).rows.getD (((gi d 4).int).toNat) []) 0).str]] : List (List G))).length ((gi d 0).rows ++ ([[.i 0, .i (gi ((gi d 2).rows.getD (((gi d 4).int).toNat) []) 2).int, .s (gi ((gi d 2).rows.getD (((gi d 4).int).toNat) []) 0).str]] : List (List G))).length) && true) then some (none, [.l ((gi d 0).rows ++ ([[.i 0, .i (gi ((gi d 2).rows.getD (((gi d 4).int).toNat) []) 2).int, .s (gi ((gi d 2).rows.getD (((gi d 4).int).toNat) []) 0).str]] : List (List G))), .s (gi d 1).str, .l (gi d 2).rows, .i (gi d 3).int, .i ((gi d 4).int + 1)]) else none) else none) else none) else (bif (inI ((gi d 4).int + 1)) then (bif ((Nat.beq (gi d 0).rows.length (gi d 0).rows.length) && true) then some (none, [.l (gi d 0).rows, .s (gi d 1).str, .l (gi d 2).rows, .i (gi d 3).int, .i ((gi d 4).int + 1)]) else none) else none)) else none) else (bif ((Nat.beq (gi d 0).rows.length (gi d 0).rows.length) && true) then some (some 0, [.l (gi d 0).rows]) else none))
def l_club_Table_8 : LSpec := ⟨8, [(7, KPlace)], ⟨39, [(1, .s (.str)), (7, .s (.vec 0 3)), (18, .s (.list KEntrant)), (19, .s (.int .i64)), (20, .s (.int .i64))], [.vec KPlace 0]⟩, [.slot 7], [⟨.exit 0, ⟨39, [(7, .s (.vec 0 3))], [.vec KPlace 0]⟩, [.slot 7]⟩], st_club_Table_8⟩
theorem r_club_Table_8 : RoundOK P t96 nL0 0 (loopAt Tryz.f93 8) l_club_Table_8 := fun d => by kernel_rfl
def L_club_Table_8 : LT := nL0.add 0 l_club_Table_8
theorem L_club_Table_8_ok : LpK P 0 L_club_Table_8 (bodyOf Tryz.f93) := LpK.a hm t96_ok (nLk _ _ _) r_club_Table_8
def F_club_Table (d : List G) : Option (List G) :=
 (callF (F_club_CheckEntrants [.l (gi d 0).rows]) fun g1 => (bif ((gi g1 0).int != 0) then some [.l [], .i (gi g1 0).int] else (callF (F_kit_IsKey [.s (gi d 1).str]) fun g2 => (bif (!(gi g2 0).bool) then some [.l [], .i 5] else (loopB true (LRun st_club_Table_8 [.l [], .s (gi d 1).str, .l (gi d 0).rows, .i (((gi d 0).rows.length : Nat) : Int), .i 0]) fun cg3 g3 => (callB (((Nat.beq (gi g3 0).rows.length (gi g3 0).rows.length) && true) && (F_club_ranked [.l (gi g3 0).rows]).isSome) (F_club_ranked [.l (gi g3 0).rows]) fun g4 => (bif ((Nat.beq (gi g4 0).rows.length (gi g4 0).rows.length) && true) then some [.l (gi g4 0).rows, .i 0] else none)))))))
def s_club_Table : FSpec := ⟨93, [.s (.list KEntrant), .s (.str)], [], [], [.s (.list KPlace), .s (.int .i64)], [], [], [], F_club_Table⟩
theorem b_club_Table : BodyOK P t96 L_club_Table_8 Tryz.f93 s_club_Table := fun d => by kernel_rfl
theorem c_club_Table : COK P s_club_Table := bdC hm t96_ok Tryz.func93 L_club_Table_8_ok b_club_Table
def t97 : Tab := t96.addP s_club_Table
theorem t97_ok : TabOK P t97 := t96_ok.aP c_club_Table

def F_l2_joinedClub (d : List G) : Option (List G) :=
 (callF (F_club_Table [.l [[.s (⟨#[107, 49, 97, 98]⟩ : ByteArray), .s (⟨#[99]⟩ : ByteArray), .i 5, .s (⟨#[]⟩ : ByteArray)]], .s (⟨#[99]⟩ : ByteArray)]) fun g1 => (bif ((gi g1 1).int == 0) then (bif ((((gi g1 0).rows.length : Nat) : Int) == 1) then (bif (ltI 0 (((gi g1 0).rows.length : Nat) : Int)) then some [.t ((gi ((gi g1 0).rows.getD 0 []) 1).int == 5)] else none) else some [.t false]) else some [.t false]))
def s_l2_joinedClub : FSpec := ⟨33, [], [], [], [.s (.bool)], [], [], [], F_l2_joinedClub⟩
theorem b_l2_joinedClub : BodyOK P t97 nL0 Tryz.f33 s_l2_joinedClub := fun d => by kernel_rfl
theorem c_l2_joinedClub : COK P s_l2_joinedClub := bdC hm t97_ok Tryz.func33 (nLk _ _ _) b_l2_joinedClub
def t98 : Tab := t97.addP s_l2_joinedClub
theorem t98_ok : TabOK P t98 := t97_ok.aP c_l2_joinedClub

attribute [instance] drF
theorem w98_ok : TabOK P t98 := t98_ok.anyDr
def F_strings_ContainsAny (d : List G) : Option (List G) :=
 any1F d
def s_strings_ContainsAny : FSpec := ⟨187, [.s (.str), .s (.str)], [], [], [.s (.bool)], [], [], [], F_strings_ContainsAny⟩
theorem c_strings_ContainsAny : ∀ d r, F_strings_ContainsAny d = some r → ACallX P 187 (s_strings_ContainsAny.args0 d) (denH (s_strings_ContainsAny.H0 d)) (s_strings_ContainsAny.out r) (denH (s_strings_ContainsAny.H1 r)) := fun d r h => any_call rfl Tryz.laysAny (by kernel_rfl) d r h
def t99 : Tab := t98.addP s_strings_ContainsAny
theorem t99_ok : TabOK P t99 := w98_ok.aP c_strings_ContainsAny

def F_r1_plain (d : List G) : Option (List G) :=
 (callF (F_r1_in [.i (((gi d 0).str.size : Nat) : Int), .i (gi d 1).int, .i (gi d 2).int]) fun g1 => (bif (gi g1 0).bool then (callF (F_strings_Trim [.s (gi d 0).str, .s (⟨#[97, 98, 99, 100, 101, 102, 103, 104, 105, 106, 107, 108, 109, 110, 111, 112, 113, 114, 115, 116, 117, 118, 119, 120, 121, 122, 48, 49, 50, 51, 52, 53, 54, 55, 56, 57]⟩ : ByteArray)]) fun g2 => (bif ((gi g2 0).str.toList == (⟨#[]⟩ : ByteArray).toList) then (callF (F_strings_ContainsAny [.s (gi d 0).str, .s (⟨#[97, 98, 99, 100, 101, 102, 103, 104, 105, 106, 107, 108, 109, 110, 111, 112, 113, 114, 115, 116, 117, 118, 119, 120, 121, 122]⟩ : ByteArray)]) fun g3 => some [.t (gi g3 0).bool]) else some [.t false])) else some [.t false]))
def s_r1_plain : FSpec := ⟨185, [.s (.str), .s (.int .i64), .s (.int .i64)], [], [], [.s (.bool)], [], [], [], F_r1_plain⟩
theorem b_r1_plain : BodyOK P t99 nL0 Tryz.f185 s_r1_plain := fun d => by kernel_rfl
theorem c_r1_plain : COK P s_r1_plain := bdC hm t99_ok Tryz.func185 (nLk _ _ _) b_r1_plain
def t100 : Tab := t99.addP s_r1_plain
theorem t100_ok : TabOK P t100 := t99_ok.aP c_r1_plain

def F_r1_baseAt (d : List G) : Option (List G) :=
 (callF (F_strings_LastIndexAny [.s (gi d 0).str, .s (⟨#[48, 49, 50, 51, 52, 53, 54, 55, 56, 57]⟩ : ByteArray)]) fun g1 => (callF (F_r1_plain [.s (gi d 0).str, .i 3, .i 10]) fun g2 => (bif (!(gi g2 0).bool) then some [.i (-1)] else (callF (F_r1_in [.i (gi g1 0).int, .i 1, .i 3]) fun g3 => (bif (!(gi g3 0).bool) then some [.i (-1)] else (bif (inI ((((gi d 0).str.size : Nat) : Int) - 1)) then (bif (inI (((((gi d 0).str.size : Nat) : Int) - 1) - (gi g1 0).int)) then (callF (F_r1_in [.i (((((gi d 0).str.size : Nat) : Int) - 1) - (gi g1 0).int), .i 1, .i 4]) fun g4 => (bif (!(gi g4 0).bool) then some [.i (-1)] else (bif ((nnI (gi g1 0).int) && (leI (gi g1 0).int (((gi d 0).str.size : Nat) : Int))) then (callF (F_strings_ContainsAny [.s ((gi d 0).str.extract 0 ((gi g1 0).int).toNat), .s (⟨#[97, 98, 99, 100, 101, 102, 103, 104, 105, 106, 107, 108, 109, 110, 111, 112, 113, 114, 115, 116, 117, 118, 119, 120, 121, 122]⟩ : ByteArray)]) fun g5 => (bif (!(gi g5 0).bool) then some [.i (-1)] else some [.i (gi g1 0).int])) else none))) else none) else none))))))
def s_r1_baseAt : FSpec := ⟨144, [.s (.str)], [], [], [.s (.int .i64)], [], [], [], F_r1_baseAt⟩
theorem b_r1_baseAt : BodyOK P t100 nL0 Tryz.f144 s_r1_baseAt := fun d => by kernel_rfl
theorem c_r1_baseAt : COK P s_r1_baseAt := bdC hm t100_ok Tryz.func144 (nLk _ _ _) b_r1_baseAt
def t101 : Tab := t100.addP s_r1_baseAt
theorem t101_ok : TabOK P t101 := t100_ok.aP c_r1_baseAt

def F_r1_PartsOf_1 (d : List G) : Option (List G) :=
 (callF (F_r1_baseAt [.s (gi d 0).str]) fun g1 => (bif (inI ((gi g1 0).int + 1)) then (bif ((nnI ((gi g1 0).int + 1)) && (leI ((gi g1 0).int + 1) (((gi d 0).str.size : Nat) : Int))) then (bif (inI ((gi g1 0).int + 1)) then (bif ((nnI ((gi g1 0).int + 1)) && (leI ((gi g1 0).int + 1) (((gi d 0).str.size : Nat) : Int))) then some [.l [[.s (gi d 0).str, .s ((gi d 0).str.extract 0 ((gi g1 0).int + 1).toNat), .s ((gi d 0).str.extract ((gi g1 0).int + 1).toNat (gi d 0).str.size), .i 0, .s (⟨#[]⟩ : ByteArray)]]] else none) else none) else none) else none))
def s_r1_PartsOf_1 : FSpec := ⟨143, [.s (.str)], [], [], [.s (.row KParts)], [], [], [], F_r1_PartsOf_1⟩
theorem b_r1_PartsOf_1 : BodyOK P t101 nL0 Tryz.f143 s_r1_PartsOf_1 := fun d => by kernel_rfl
theorem c_r1_PartsOf_1 : COK P s_r1_PartsOf_1 := bdC hm t101_ok Tryz.func143 (nLk _ _ _) b_r1_PartsOf_1
def t102 : Tab := t101.addP s_r1_PartsOf_1
theorem t102_ok : TabOK P t102 := t101_ok.aP c_r1_PartsOf_1

def F_r1_begin (d : List G) : Option (List G) :=
 (callF (F_r1_plain [.s (gi d 0).str, .i 1, .i 4]) fun g1 => some [.t (gi g1 0).bool])
def s_r1_begin : FSpec := ⟨145, [.s (.str)], [], [], [.s (.bool)], [], [], [], F_r1_begin⟩
theorem b_r1_begin : BodyOK P t102 nL0 Tryz.f145 s_r1_begin := fun d => by kernel_rfl
theorem c_r1_begin : COK P s_r1_begin := bdC hm t102_ok Tryz.func145 (nLk _ _ _) b_r1_begin
def t103 : Tab := t102.addP s_r1_begin
theorem t103_ok : TabOK P t103 := t102_ok.aP c_r1_begin

def F_r1_PartsOf (d : List G) : Option (List G) :=
 (callF (F_strings_Cut [.s (gi d 0).str, .s (⟨#[47]⟩ : ByteArray)]) fun g1 => (bif (ltI 14 (((gi d 0).str.size : Nat) : Int)) then some [.l [[.s (⟨#[]⟩ : ByteArray), .s (⟨#[]⟩ : ByteArray), .s (⟨#[]⟩ : ByteArray), .i 0, .s (⟨#[]⟩ : ByteArray)]], .t false] else (bif (!(gi g1 2).bool) then (callF (F_r1_baseAt [.s (gi g1 0).str]) fun g2 => (bif (ltI (gi g2 0).int 0) then some [.l [[.s (⟨#[]⟩ : ByteArray), .s (⟨#[]⟩ : ByteArray), .s (⟨#[]⟩ : ByteArray), .i 0, .s (⟨#[]⟩ : ByteArray)]], .t false] else (callF (F_r1_PartsOf_1 [.s (gi g1 0).str]) fun g3 => some [.l [(gEta KParts (gi g3 0).row)], .t true]))) else (callF (F_r1_baseAt [.s (gi g1 1).str]) fun g4 => (bif (leI 0 (gi g4 0).int) then (callF (F_r1_begin [.s (gi g1 0).str]) fun g5 => (bif (gi g5 0).bool then (callF (F_r1_PartsOf_1 [.s (gi g1 1).str]) fun g6 => some [.l [[.s (gi (gi g6 0).row 0).str, .s (gi (gi g6 0).row 1).str, .s (gi (gi g6 0).row 2).str, .i 1, .s (gi g1 0).str]], .t true]) else (callF (F_r1_baseAt [.s (gi g1 0).str]) fun g7 => (bif (ltI (gi g7 0).int 0) then some [.l [[.s (⟨#[]⟩ : ByteArray), .s (⟨#[]⟩ : ByteArray), .s (⟨#[]⟩ : ByteArray), .i 0, .s (⟨#[]⟩ : ByteArray)]], .t false] else (callF (F_r1_PartsOf_1 [.s (gi g1 0).str]) fun g8 => (bif ((gi g1 1).str.toList == (⟨#[112]⟩ : ByteArray).toList) then some [.l [[.s (gi (gi g8 0).row 0).str, .s (gi (gi g8 0).row 1).str, .s (gi (gi g8 0).row 2).str, .i 3, .s (gi (gi g8 0).row 4).str]], .t true] else (bif ((gi g1 1).str.toList == (⟨#[109]⟩ : ByteArray).toList) then some [.l [[.s (gi (gi g8 0).row 0).str, .s (gi (gi g8 0).row 1).str, .s (gi (gi g8 0).row 2).str, .i 4, .s (gi (gi g8 0).row 4).str]], .t true] else (bif ((gi g1 1).str.toList == (⟨#[109, 109]⟩ : ByteArray).toList) then some [.l [[.s (gi (gi g8 0).row 0).str, .s (gi (gi g8 0).row 1).str, .s (gi (gi g8 0).row 2).str, .i 5, .s (gi (gi g8 0).row 4).str]], .t true] else (bif ((gi g1 1).str.toList == (⟨#[97, 109]⟩ : ByteArray).toList) then some [.l [[.s (gi (gi g8 0).row 0).str, .s (gi (gi g8 0).row 1).str, .s (gi (gi g8 0).row 2).str, .i 6, .s (gi (gi g8 0).row 4).str]], .t true] else (bif ((((gi g1 1).str.size : Nat) : Int) == 1) then (callF (F_strings_Contains [.s (⟨#[48, 49, 50, 51, 52, 53, 54, 55, 56, 57]⟩ : ByteArray), .s (gi g1 1).str]) fun g9 => (bif (gi g9 0).bool then some [.l [[.s (gi (gi g8 0).row 0).str, .s (gi (gi g8 0).row 1).str, .s (gi (gi g8 0).row 2).str, .i 2, .s (gi g1 1).str]], .t true] else (callF (F_r1_begin [.s (gi g1 1).str]) fun g10 => (bif (gi g10 0).bool then some [.l [[.s (gi (gi g8 0).row 0).str, .s (gi (gi g8 0).row 1).str, .s (gi (gi g8 0).row 2).str, .i 1, .s (gi g1 1).str]], .t true] else some [.l [[.s (⟨#[]⟩ : ByteArray), .s (⟨#[]⟩ : ByteArray), .s (⟨#[]⟩ : ByteArray), .i 0, .s (⟨#[]⟩ : ByteArray)]], .t false])))) else (callF (F_r1_begin [.s (gi g1 1).str]) fun g11 => (bif (gi g11 0).bool then some [.l [[.s (gi (gi g8 0).row 0).str, .s (gi (gi g8 0).row 1).str, .s (gi (gi g8 0).row 2).str, .i 1, .s (gi g1 1).str]], .t true] else some [.l [[.s (⟨#[]⟩ : ByteArray), .s (⟨#[]⟩ : ByteArray), .s (⟨#[]⟩ : ByteArray), .i 0, .s (⟨#[]⟩ : ByteArray)]], .t false])))))))))))) else (callF (F_r1_baseAt [.s (gi g1 0).str]) fun g12 => (bif (ltI (gi g12 0).int 0) then some [.l [[.s (⟨#[]⟩ : ByteArray), .s (⟨#[]⟩ : ByteArray), .s (⟨#[]⟩ : ByteArray), .i 0, .s (⟨#[]⟩ : ByteArray)]], .t false] else (callF (F_r1_PartsOf_1 [.s (gi g1 0).str]) fun g13 => (bif ((gi g1 1).str.toList == (⟨#[112]⟩ : ByteArray).toList) then some [.l [[.s (gi (gi g13 0).row 0).str, .s (gi (gi g13 0).row 1).str, .s (gi (gi g13 0).row 2).str, .i 3, .s (gi (gi g13 0).row 4).str]], .t true] else (bif ((gi g1 1).str.toList == (⟨#[109]⟩ : ByteArray).toList) then some [.l [[.s (gi (gi g13 0).row 0).str, .s (gi (gi g13 0).row 1).str, .s (gi (gi g13 0).row 2).str, .i 4, .s (gi (gi g13 0).row 4).str]], .t true] else (bif ((gi g1 1).str.toList == (⟨#[109, 109]⟩ : ByteArray).toList) then some [.l [[.s (gi (gi g13 0).row 0).str, .s (gi (gi g13 0).row 1).str, .s (gi (gi g13 0).row 2).str, .i 5, .s (gi (gi g13 0).row 4).str]], .t true] else (bif ((gi g1 1).str.toList == (⟨#[97, 109]⟩ : ByteArray).toList) then some [.l [[.s (gi (gi g13 0).row 0).str, .s (gi (gi g13 0).row 1).str, .s (gi (gi g13 0).row 2).str, .i 6, .s (gi (gi g13 0).row 4).str]], .t true] else (bif ((((gi g1 1).str.size : Nat) : Int) == 1) then (callF (F_strings_Contains [.s (⟨#[48, 49, 50, 51, 52, 53, 54, 55, 56, 57]⟩ : ByteArray), .s (gi g1 1).str]) fun g14 => (bif (gi g14 0).bool then some [.l [[.s (gi (gi g13 0).row 0).str, .s (gi (gi g13 0).row 1).str, .s (gi (gi g13 0).row 2).str, .i 2, .s (gi g1 1).str]], .t true] else (callF (F_r1_begin [.s (gi g1 1).str]) fun g15 => (bif (gi g15 0).bool then some [.l [[.s (gi (gi g13 0).row 0).str, .s (gi (gi g13 0).row 1).str, .s (gi (gi g13 0).row 2).str, .i 1, .s (gi g1 1).str]], .t true] else some [.l [[.s (⟨#[]⟩ : ByteArray), .s (⟨#[]⟩ : ByteArray), .s (⟨#[]⟩ : ByteArray), .i 0, .s (⟨#[]⟩ : ByteArray)]], .t false])))) else (callF (F_r1_begin [.s (gi g1 1).str]) fun g16 => (bif (gi g16 0).bool then some [.l [[.s (gi (gi g13 0).row 0).str, .s (gi (gi g13 0).row 1).str, .s (gi (gi g13 0).row 2).str, .i 1, .s (gi g1 1).str]], .t true] else some [.l [[.s (⟨#[]⟩ : ByteArray), .s (⟨#[]⟩ : ByteArray), .s (⟨#[]⟩ : ByteArray), .i 0, .s (⟨#[]⟩ : ByteArray)]], .t false])))))))))))))))
def s_r1_PartsOf : FSpec := ⟨104, [.s (.str)], [], [], [.s (.row KParts), .s (.bool)], [], [], [], F_r1_PartsOf⟩
theorem b_r1_PartsOf : BodyOK P t103 nL0 Tryz.f104 s_r1_PartsOf := fun d => by kernel_rfl
theorem c_r1_PartsOf : COK P s_r1_PartsOf := bdC hm t103_ok Tryz.func104 (nLk _ _ _) b_r1_PartsOf
def t104 : Tab := t103.addP s_r1_PartsOf
theorem t104_ok : TabOK P t104 := t103_ok.aP c_r1_PartsOf

def F_r2_Call (d : List G) : Option (List G) :=
 (callF (F_r1_PartsOf [.s (gi d 0).str]) fun g1 => some [.t (gi g1 1).bool])
def s_r2_Call : FSpec := ⟨53, [.s (.str)], [], [], [.s (.bool)], [], [], [], F_r2_Call⟩
theorem b_r2_Call : BodyOK P t104 nL0 Tryz.f53 s_r2_Call := fun d => by kernel_rfl
theorem c_r2_Call : COK P s_r2_Call := bdC hm t104_ok Tryz.func53 (nLk _ _ _) b_r2_Call
def t105 : Tab := t104.addP s_r2_Call
theorem t105_ok : TabOK P t105 := t104_ok.aP c_r2_Call

def st_r2_CardsFault_4 (d : List G) : Option (Option Nat × List G) :=
 (bif (ltI (gi d 3).int (gi d 2).int) then (bif ((nnI (gi d 3).int) && (ltI (gi d 3).int (((gi d 1).rows.length : Nat) : Int))) then (callF (F_r2_Moment [.i (gi ((gi d 1).rows.getD (((gi d 3).int).toNat) []) 0).int]) fun g1 => (bif (!(gi g1 0).bool) then some (some 0, [.i 1]) else (callF (F_r2_in [.i (gi ((gi d 1).rows.getD (((gi d 3).int).toNat) []) 1).int, .i 1, .i 3]) fun g2 => (bif (!(gi g2 0).bool) then some (some 0, [.i 4]) else (callF (F_r2_in [.i (gi ((gi d 1).rows.getD (((gi d 3).int).toNat) []) 2).int, .i 1, .i 3]) fun g3 => (bif (!(gi g3 0).bool) then some (some 0, [.i 4]) else (callF (F_r2_Call [.s (gi ((gi d 1).rows.getD (((gi d 3).int).toNat) []) 3).str]) fun g4 => (bif (!(gi g4 0).bool) then some (some 0, [.i 3]) else (callF (F_r2_Key [.s (gi ((gi d 1).rows.getD (((gi d 3).int).toNat) []) 4).str]) fun g5 => (bif (!(gi g5 0).bool) then some (some 0, [.i 5]) else (bif (ltI 0 (gi d 3).int) then (bif (inI ((gi d 3).int - 1)) then (bif ((nnI ((gi d 3).int - 1)) && (ltI ((gi d 3).int - 1) (((gi d 0).rows.length : Nat) : Int))) then (callF (F_r2_CardOrder [.l [(gEta KCard ((gi d 0).rows.getD (((gi d 3).int - 1).toNat) []))], .l [(gEta KCard ((gi d 1).rows.getD (((gi d 3).int).toNat) []))]]) fun g6 => (bif (leI 0 (gi g6 0).int) then some (some 0, [.i 7]) else (bif (inI ((gi d 3).int + 1)) then some (none, [.l (gi d 0).rows, .l (gi d 1).rows, .i (gi d 2).int, .i ((gi d 3).int + 1)]) else none))) else none) else none) else (bif (inI ((gi d 3).int + 1)) then some (none, [.l (gi d 0).rows, .l (gi d 1).rows, .i (gi d 2).int, .i ((gi d 3).int + 1)]) else none)))))))))))) else none) else some (some 1, []))
def l_r2_CardsFault_4 : LSpec := ⟨4, [], ⟨55, [(0, .s (.list KCard)), (8, .s (.list KCard)), (9, .s (.int .i64)), (10, .s (.int .i64))], []⟩, [], [⟨.ret, ⟨55, [(2, .s (.int .i64))], []⟩, []⟩, ⟨.exit 0, ⟨55, [], []⟩, []⟩], st_r2_CardsFault_4⟩
theorem r_r2_CardsFault_4 : RoundOK P t105 nL0 0 (loopAt Tryz.f28 4) l_r2_CardsFault_4 := fun d => by kernel_rfl
def L_r2_CardsFault_4 : LT := nL0.add 0 l_r2_CardsFault_4
theorem L_r2_CardsFault_4_ok : LpK P 0 L_r2_CardsFault_4 (bodyOf Tryz.f28) := LpK.a hm t105_ok (nLk _ _ _) r_r2_CardsFault_4
def F_r2_CardsFault (d : List G) : Option (List G) :=
 (bif (ltI 3000 (((gi d 0).rows.length : Nat) : Int)) then some [.i 2] else (loopB true (LRun st_r2_CardsFault_4 [.l (gi d 0).rows, .l (gi d 0).rows, .i (((gi d 0).rows.length : Nat) : Int), .i 0]) fun cg7 g7 => (bif Nat.beq cg7 0 then some [.i (gi g7 0).int] else some [.i 0])))
def s_r2_CardsFault : FSpec := ⟨28, [.s (.list KCard)], [], [], [.s (.int .i64)], [], [], [], F_r2_CardsFault⟩
theorem b_r2_CardsFault : BodyOK P t105 L_r2_CardsFault_4 Tryz.f28 s_r2_CardsFault := fun d => by kernel_rfl
theorem c_r2_CardsFault : COK P s_r2_CardsFault := bdC hm t105_ok Tryz.func28 L_r2_CardsFault_4_ok b_r2_CardsFault
def t106 : Tab := t105.addP s_r2_CardsFault
theorem t106_ok : TabOK P t106 := t105_ok.aP c_r2_CardsFault

def st_mk_RightCards_2 (d : List G) : Option (Option Nat × List G) :=
 (bif (ltI (gi d 3).int 5) then (callF (F_mk_Cards [.l (gi d 0).rows, .i (gi d 1).int, .i (gi d 2).int]) fun g1 => (callF (F_r2_CardsFault [.l (gi g1 2).rows]) fun g2 => (bif ((gi g2 0).int == 0) then some (some 0, [.l (gi g1 0).rows, .i (gi g1 1).int, .l (gi g1 2).rows]) else (bif (inI ((gi d 3).int + 1)) then some (none, [.l (gi g1 0).rows, .i (gi g1 1).int, .i (gi d 2).int, .i ((gi d 3).int + 1)]) else none)))) else some (some 1, [.l (gi d 0).rows, .i (gi d 1).int]))
def l_mk_RightCards_2 : LSpec := ⟨2, [], ⟨16, [(0, .s (.ptr 0 0)), (1, .s (.int .i64)), (6, .s (.int .i64))], [.box [.list [.int .i64], .int .i64]]⟩, [.fix 0], [⟨.ret, ⟨16, [(4, .s (.list KCard))], [.box [.list [.int .i64], .int .i64]]⟩, [.fix 0]⟩, ⟨.exit 0, ⟨16, [], [.box [.list [.int .i64], .int .i64]]⟩, [.fix 0]⟩], st_mk_RightCards_2⟩
theorem r_mk_RightCards_2 : RoundOK P t106 nL0 1 (loopAt Tryz.f81 2) l_mk_RightCards_2 := fun d => by kernel_rfl
def L_mk_RightCards_2 : LT := nL0.add 1 l_mk_RightCards_2
theorem L_mk_RightCards_2_ok : LpK P 1 L_mk_RightCards_2 (bodyOf Tryz.f81) := LpK.a hm t106_ok (nLk _ _ _) r_mk_RightCards_2
def F_mk_RightCards (d : List G) : Option (List G) :=
 (loopB true (LRun st_mk_RightCards_2 [.l (gi d 0).rows, .i (gi d 1).int, .i (gi d 2).int, .i 0]) fun cg3 g3 => (bif Nat.beq cg3 0 then some [.l (gi g3 0).rows, .i (gi g3 1).int, .l (gi g3 2).rows] else some [.l (gi g3 0).rows, .i (gi g3 1).int, .l []]))
def s_mk_RightCards : FSpec := ⟨81, [.s (.ptr 0 0), .s (.int .i64)], [.box [.list [.int .i64], .int .i64]], [.slot 0], [.s (.list KCard)], [.box [.list [.int .i64], .int .i64]], [.fix 0], [], F_mk_RightCards⟩
theorem b_mk_RightCards : BodyOK P t106 L_mk_RightCards_2 Tryz.f81 s_mk_RightCards := fun d => by kernel_rfl
theorem c_mk_RightCards : COK P s_mk_RightCards := bdC hm t106_ok Tryz.func81 L_mk_RightCards_2_ok b_mk_RightCards
def t107 : Tab := t106.addW s_mk_RightCards
theorem t107_ok : TabOK P t107 := t106_ok.aW c_mk_RightCards

def F_strings_Join (d : List G) : Option (List G) :=
 joinF d
def s_strings_Join : FSpec := ⟨86, [.s (.list [.str]), .s (.str)], [], [], [.s (.str)], [], [], [], F_strings_Join⟩
theorem c_strings_Join : ∀ d r, F_strings_Join d = some r → ACallX P 86 (s_strings_Join.args0 d) (denH (s_strings_Join.H0 d)) (s_strings_Join.out r) (denH (s_strings_Join.H1 r)) := fun d r h => join_call rfl Tryz.laysJoin Tryz.laysJoin_x d r h
def t108 : Tab := t107.addP s_strings_Join
theorem t108_ok : TabOK P t108 := t107_ok.aP c_strings_Join

def st_r2_CardLines_3 (d : List G) : Option (Option Nat × List G) :=
 (bif (ltI (gi d 3).int (gi d 2).int) then (bif ((nnI (gi d 3).int) && (ltI (gi d 3).int (((gi d 1).rows.length : Nat) : Int))) then (callF (F_strconv_Itoa [.i (gi ((gi d 1).rows.getD (((gi d 3).int).toNat) []) 0).int]) fun g1 => (callF (F_r2_cardWords []) fun g2 => (bif ((nnI (gi ((gi d 1).rows.getD (((gi d 3).int).toNat) []) 1).int) && (ltI (gi ((gi d 1).rows.getD (((gi d 3).int).toNat) []) 1).int (((gi g2 0).rows.length : Nat) : Int))) then (callF (F_r2_plainModes []) fun g3 => (bif ((nnI (gi ((gi d 1).rows.getD (((gi d 3).int).toNat) []) 2).int) && (ltI (gi ((gi d 1).rows.getD (((gi d 3).int).toNat) []) 2).int (((gi g3 0).rows.length : Nat) : Int))) then (callF (F_strings_Join [.l [[.s (gi g1 0).str], [.s (gi ((gi g2 0).rows.getD (((gi ((gi d 1).rows.getD (((gi d 3).int).toNat) []) 1).int).toNat) []) 0).str], [.s (gi ((gi d 1).rows.getD (((gi d 3).int).toNat) []) 3).str], [.s (gi ((gi d 1).rows.getD (((gi d 3).int).toNat) []) 4).str], [.s (gi ((gi g3 0).rows.getD (((gi ((gi d 1).rows.getD (((gi d 3).int).toNat) []) 2).int).toNat) []) 0).str]], .s (⟨#[32]⟩ : ByteArray)]) fun g4 => (bif (Nat.ble ((gi g4 0).str.size + 1) 9223372036854775807) then (bif (Nat.ble ((gi d 0).str.size + ((gi g4 0).str ++ (⟨#[10]⟩ : ByteArray)).size) 9223372036854775807) then (bif (inI ((gi d 3).int + 1)) then some (none, [.s ((gi d 0).str ++ ((gi g4 0).str ++ (⟨#[10]⟩ : ByteArray))), .l (gi d 1).rows, .i (gi d 2).int, .i ((gi d 3).int + 1)]) else none) else none) else none)) else none)) else none))) else none) else some (some 0, [.s (gi d 0).str]))
def l_r2_CardLines_3 : LSpec := ⟨3, [], ⟨36, [(3, .s (.str)), (6, .s (.list KCard)), (7, .s (.int .i64)), (8, .s (.int .i64))], []⟩, [], [⟨.exit 0, ⟨36, [(3, .s (.str))], []⟩, []⟩], st_r2_CardLines_3⟩
theorem r_r2_CardLines_3 : RoundOK P t108 nL0 0 (loopAt Tryz.f29 3) l_r2_CardLines_3 := fun d => by kernel_rfl
def L_r2_CardLines_3 : LT := nL0.add 0 l_r2_CardLines_3
theorem L_r2_CardLines_3_ok : LpK P 0 L_r2_CardLines_3 (bodyOf Tryz.f29) := LpK.a hm t108_ok (nLk _ _ _) r_r2_CardLines_3
def F_r2_CardLines (d : List G) : Option (List G) :=
 (loopB true (LRun st_r2_CardLines_3 [.s (⟨#[]⟩ : ByteArray), .l (gi d 0).rows, .i (((gi d 0).rows.length : Nat) : Int), .i 0]) fun cg5 g5 => some [.s (gi g5 0).str])
def s_r2_CardLines : FSpec := ⟨29, [.s (.list KCard)], [], [], [.s (.str)], [], [], [], F_r2_CardLines⟩
theorem b_r2_CardLines : BodyOK P t108 L_r2_CardLines_3 Tryz.f29 s_r2_CardLines := fun d => by kernel_rfl
theorem c_r2_CardLines : COK P s_r2_CardLines := bdC hm t108_ok Tryz.func29 L_r2_CardLines_3_ok b_r2_CardLines
def t109 : Tab := t108.addP s_r2_CardLines
theorem t109_ok : TabOK P t109 := t108_ok.aP c_r2_CardLines

def st_mk_CardText_3 (d : List G) : Option (Option Nat × List G) :=
 (bif (ltI (gi d 4).int (gi d 3).int) then (callF (F_mk_Changed [.l (gi d 0).rows, .i (gi d 1).int, .s (gi d 2).str, .s (⟨#[32, 10, 48, 45, 57, 99, 115]⟩ : ByteArray)]) fun g5 => (bif (inI ((gi d 4).int + 1)) then some (none, [.l (gi g5 0).rows, .i (gi g5 1).int, .s (gi g5 2).str, .i (gi d 3).int, .i ((gi d 4).int + 1)]) else none)) else some (some 0, [.l (gi d 0).rows, .i (gi d 1).int, .s (gi d 2).str]))
def l_mk_CardText_3 : LSpec := ⟨3, [], ⟨19, [(0, .s (.ptr 0 0)), (3, .s (.str)), (11, .s (.int .i64)), (12, .s (.int .i64))], [.box [.list [.int .i64], .int .i64]]⟩, [.fix 0], [⟨.exit 0, ⟨19, [(3, .s (.str))], [.box [.list [.int .i64], .int .i64]]⟩, [.fix 0]⟩], st_mk_CardText_3⟩
theorem r_mk_CardText_3 : RoundOK P t109 nL0 1 (loopAt Tryz.f26 3) l_mk_CardText_3 := fun d => by kernel_rfl
def L_mk_CardText_3 : LT := nL0.add 1 l_mk_CardText_3
theorem L_mk_CardText_3_ok : LpK P 1 L_mk_CardText_3 (bodyOf Tryz.f26) := LpK.a hm t109_ok (nLk _ _ _) r_mk_CardText_3
def F_mk_CardText (d : List G) : Option (List G) :=
 (callF (F_mk_Range [.l (gi d 0).rows, .i (gi d 1).int, .i 0, .i 4]) fun g1 => (callF (F_mk_RightCards [.l (gi g1 0).rows, .i (gi g1 1).int, .i (gi g1 2).int]) fun g2 => (callF (F_r2_CardLines [.l (gi g2 2).rows]) fun g3 => (callF (F_mk_Pick [.l (gi g2 0).rows, .i (gi g2 1).int, .l [[.i 0], [.i 0], [.i 1], [.i 2]]]) fun g4 => (loopB true (LRun st_mk_CardText_3 [.l (gi g4 0).rows, .i (gi g4 1).int, .s (gi g3 0).str, .i (gi g4 2).int, .i 0]) fun cg6 g6 => some [.l (gi g6 0).rows, .i (gi g6 1).int, .s (gi g6 2).str])))))
def s_mk_CardText : FSpec := ⟨26, [.s (.ptr 0 0)], [.box [.list [.int .i64], .int .i64]], [.slot 0], [.s (.str)], [.box [.list [.int .i64], .int .i64]], [.fix 0], [], F_mk_CardText⟩
theorem b_mk_CardText : BodyOK P t109 L_mk_CardText_3 Tryz.f26 s_mk_CardText := fun d => by kernel_rfl
theorem c_mk_CardText : COK P s_mk_CardText := bdC hm t109_ok Tryz.func26 L_mk_CardText_3_ok b_mk_CardText
def t110 : Tab := t109.addW s_mk_CardText
theorem t110_ok : TabOK P t110 := t109_ok.aW c_mk_CardText

def F_kit_Join (d : List G) : Option (List G) :=
 (callF (F_strings_Join [.l (gi d 0).rows, .s (⟨#[32]⟩ : ByteArray)]) fun g1 => (bif (Nat.ble ((gi g1 0).str.size + 1) 9223372036854775807) then some [.s ((gi g1 0).str ++ (⟨#[10]⟩ : ByteArray))] else none))
def s_kit_Join : FSpec := ⟨47, [.s (.list [.str])], [], [], [.s (.str)], [], [], [], F_kit_Join⟩
theorem b_kit_Join : BodyOK P t110 nL0 Tryz.f47 s_kit_Join := fun d => by kernel_rfl
theorem c_kit_Join : COK P s_kit_Join := bdC hm t110_ok Tryz.func47 (nLk _ _ _) b_kit_Join
def t111 : Tab := t110.addP s_kit_Join
theorem t111_ok : TabOK P t111 := t110_ok.aP c_kit_Join

def F_strings_Builder_WriteString (d : List G) : Option (List G) :=
 bldWF d
def s_strings_Builder_WriteString : FSpec := ⟨46, [.s (.ptr 0 0), .s (.str)], [.bld 0 73 5], [.slot 0], [.s (.int .i64), .s (.any)], [.bld 0 73 5], [.fix 0], [], F_strings_Builder_WriteString⟩
theorem c_strings_Builder_WriteString : ∀ d r, F_strings_Builder_WriteString d = some r → ACallX P 46 (s_strings_Builder_WriteString.args0 d) (denH (s_strings_Builder_WriteString.H0 d)) (s_strings_Builder_WriteString.out r) (denH (s_strings_Builder_WriteString.H1 r)) := fun d r h => bldW_call Tryz.laysBldW Tryz.laysBldW_x rfl d r h
def t112 : Tab := t111.addW s_strings_Builder_WriteString
theorem t112_ok : TabOK P t112 := t111_ok.aW c_strings_Builder_WriteString

def F_strings_Builder_Len (d : List G) : Option (List G) :=
 bldLF d
def s_strings_Builder_Len : FSpec := ⟨49, [.s (.ptr 0 0)], [.bld 0 73 5], [.slot 0], [.s (.int .i64)], [.bld 0 73 5], [.fix 0], [], F_strings_Builder_Len⟩
theorem c_strings_Builder_Len : ∀ d r, F_strings_Builder_Len d = some r → ACallX P 49 (s_strings_Builder_Len.args0 d) (denH (s_strings_Builder_Len.H0 d)) (s_strings_Builder_Len.out r) (denH (s_strings_Builder_Len.H1 r)) := fun d r h => bldL_call Tryz.laysBldL rfl d r h
def t113 : Tab := t112.addW s_strings_Builder_Len
theorem t113_ok : TabOK P t113 := t112_ok.aW c_strings_Builder_Len

def F_strings_Builder_String (d : List G) : Option (List G) :=
 bldSF d
def s_strings_Builder_String : FSpec := ⟨50, [.s (.ptr 0 0)], [.bld 0 73 5], [.slot 0], [.s (.str)], [.bld 0 73 5], [.fix 0], [], F_strings_Builder_String⟩
theorem c_strings_Builder_String : ∀ d r, F_strings_Builder_String d = some r → ACallX P 50 (s_strings_Builder_String.args0 d) (denH (s_strings_Builder_String.H0 d)) (s_strings_Builder_String.out r) (denH (s_strings_Builder_String.H1 r)) := fun d r h => bldS_call Tryz.laysBldS Tryz.laysBldS_x rfl d r h
def t114 : Tab := t113.addW s_strings_Builder_String
theorem t114_ok : TabOK P t114 := t113_ok.aW c_strings_Builder_String

def st_club_Text_6 (d : List G) : Option (Option Nat × List G) :=
 (bif (ltI (gi d 3).int (gi d 2).int) then (bif ((nnI (gi d 3).int) && (ltI (gi d 3).int (((gi d 1).rows.length : Nat) : Int))) then (callF (F_strconv_Itoa [.i (gi ((gi d 1).rows.getD (((gi d 3).int).toNat) []) 0).int]) fun g2 => (callF (F_club_kindWords []) fun g3 => (bif ((nnI (gi ((gi d 1).rows.getD (((gi d 3).int).toNat) []) 1).int) && (ltI (gi ((gi d 1).rows.getD (((gi d 3).int).toNat) []) 1).int (((gi g3 0).rows.length : Nat) : Int))) then (callF (F_kit_ModeWords []) fun g4 => (bif ((nnI (gi ((gi d 1).rows.getD (((gi d 3).int).toNat) []) 2).int) && (ltI (gi ((gi d 1).rows.getD (((gi d 3).int).toNat) []) 2).int (((gi g4 0).rows.length : Nat) : Int))) then (callF (F_kit_Join [.l [[.s (gi g2 0).str], [.s (gi ((gi g3 0).rows.getD (((gi ((gi d 1).rows.getD (((gi d 3).int).toNat) []) 1).int).toNat) []) 0).str], [.s (gi ((gi d 1).rows.getD (((gi d 3).int).toNat) []) 3).str], [.s (gi ((gi d 1).rows.getD (((gi d 3).int).toNat) []) 4).str], [.s (gi ((gi g4 0).rows.getD (((gi ((gi d 1).rows.getD (((gi d 3).int).toNat) []) 2).int).toNat) []) 0).str]]]) fun g5 => (callF (F_strings_Builder_WriteString [.s (gi d 0).str, .s (gi g5 0).str]) fun g6 => (bif (inI ((gi d 3).int + 1)) then some (none, [.s (gi g6 0).str, .l (gi d 1).rows, .i (gi d 2).int, .i ((gi d 3).int + 1)]) else none))) else none)) else none))) else none) else some (some 0, [.s (gi d 0).str]))
def l_club_Text_6 : LSpec := ⟨6, [], ⟨43, [(5, .s (.ptr 0 0)), (13, .s (.list KCard)), (14, .s (.int .i64)), (15, .s (.int .i64))], [.bld 0 73 5]⟩, [.slot 5], [⟨.exit 0, ⟨43, [(5, .s (.ptr 0 0))], [.bld 0 73 5]⟩, [.slot 5]⟩], st_club_Text_6⟩
theorem r_club_Text_6 : RoundOK P t114 nL0 0 (loopAt Tryz.f27 6) l_club_Text_6 := fun d => by kernel_rfl
def L_club_Text_6 : LT := nL0.add 0 l_club_Text_6
theorem L_club_Text_6_ok : LpK P 0 L_club_Text_6 (bodyOf Tryz.f27) := LpK.a hm t114_ok (nLk _ _ _) r_club_Text_6
def F_club_Text (d : List G) : Option (List G) :=
 (callF (F_club_CheckCards [.l (gi d 0).rows]) fun g1 => (bif ((gi g1 0).int != 0) then some [.s (⟨#[]⟩ : ByteArray), .i (gi g1 0).int] else (loopB true (LRun st_club_Text_6 [.s (⟨#[]⟩ : ByteArray), .l (gi d 0).rows, .i (((gi d 0).rows.length : Nat) : Int), .i 0]) fun cg7 g7 => (callF (F_strings_Builder_Len [.s (gi g7 0).str]) fun g8 => (bif (ltI 200000 (gi g8 1).int) then some [.s (⟨#[]⟩ : ByteArray), .i 2] else (callF (F_strings_Builder_String [.s (gi g8 0).str]) fun g9 => some [.s (gi g9 1).str, .i 0]))))))
def s_club_Text : FSpec := ⟨27, [.s (.list KCard)], [], [], [.s (.str), .s (.int .i64)], [], [], [], F_club_Text⟩
theorem b_club_Text : BodyOK P t114 L_club_Text_6 Tryz.f27 s_club_Text := fun d => by kernel_rfl
theorem c_club_Text : COK P s_club_Text := bdC hm t114_ok Tryz.func27 L_club_Text_6_ok b_club_Text
def t115 : Tab := t114.addP s_club_Text
theorem t115_ok : TabOK P t115 := t114_ok.aP c_club_Text

def F_r2_CardsRead (d : List G) : Option (List G) :=
 (bif (ltI 200000 (((gi d 0).str.size : Nat) : Int)) then some [.l [], .i 0, .i 2] else (callF (F_r2_Lines [.l [], .s (gi d 0).str]) fun g1 => (bif (!(gi g1 2).bool) then some [.l [], .i (gi g1 1).int, .i 9] else (callB (((Nat.beq (gi g1 0).rows.length (gi g1 0).rows.length) && true) && (F_r2_CardsFault [.l (gi g1 0).rows]).isSome) (F_r2_CardsFault [.l (gi g1 0).rows]) fun g2 => (bif ((gi g2 0).int != 0) then some [.l [], .i 0, .i (gi g2 0).int] else (bif ((Nat.beq (gi g1 0).rows.length (gi g1 0).rows.length) && true) then some [.l (gi g1 0).rows, .i 0, .i 0] else none))))))
def s_r2_CardsRead : FSpec := ⟨31, [.s (.str)], [], [], [.s (.list KCard), .s (.int .i64), .s (.int .i64)], [], [], [], F_r2_CardsRead⟩
theorem b_r2_CardsRead : BodyOK P (t115.lessPf [28]) (nL0.hinted [(4, [.openCell 5 0 KCard])]) Tryz.f31 s_r2_CardsRead := fun d => by kernel_rfl
theorem c_r2_CardsRead : COK P s_r2_CardsRead := bodyC hm (t115_ok.lessPf [28]) Tryz.func31 (by kernel_rfl) (hinted_ok _) b_r2_CardsRead (by kernel_rfl)
def t116 : Tab := t115.addP s_r2_CardsRead
theorem t116_ok : TabOK P t116 := t115_ok.aP c_r2_CardsRead

def F_l2_CardTexts (d : List G) : Option (List G) :=
 (callF (F_mk_Range [.l (gi d 0).rows, .i 0, .i 0, .i 6]) fun g1 => (callF (F_mk_Cards [.l (gi g1 0).rows, .i (gi g1 1).int, .i (gi g1 2).int]) fun g2 => (callF (F_mk_CardText [.l (gi g2 0).rows, .i (gi g2 1).int]) fun g3 => (callF (F_club_Text [.l (gi g2 2).rows]) fun g4 => (callF (F_r2_CardsFault [.l (gi g2 2).rows]) fun g5 => (bif ((gi g5 0).int == 0) then (callF (F_r2_CardLines [.l (gi g2 2).rows]) fun g6 => (callF (F_club_Read [.s (gi g3 2).str]) fun g7 => (callF (F_r2_CardsRead [.s (gi g3 2).str]) fun g8 => (bif ((gi g4 1).int == (gi g5 0).int) then (bif ((gi g4 0).str.toList == (gi g6 0).str.toList) then (callF (F_sl_Equal_Card [.l (gi g7 0).rows, .l (gi g8 0).rows]) fun g9 => (bif (gi g9 0).bool then (bif ((gi g7 1).int == (gi g8 1).int) then (bif ((gi g7 2).int == (gi g8 2).int) then (callF (F_l2_joinedClub []) fun g10 => some [.t (gi g10 0).bool]) else some [.t false]) else some [.t false]) else some [.t false])) else some [.t false]) else some [.t false])))) else (callF (F_club_Read [.s (gi g3 2).str]) fun g11 => (callF (F_r2_CardsRead [.s (gi g3 2).str]) fun g12 => (bif ((gi g4 1).int == (gi g5 0).int) then (bif ((gi g4 0).str.toList == (⟨#[]⟩ : ByteArray).toList) then (callF (F_sl_Equal_Card [.l (gi g11 0).rows, .l (gi g12 0).rows]) fun g13 => (bif (gi g13 0).bool then (bif ((gi g11 1).int == (gi g12 1).int) then (bif ((gi g11 2).int == (gi g12 2).int) then (callF (F_l2_joinedClub []) fun g14 => some [.t (gi g14 0).bool]) else some [.t false]) else some [.t false]) else some [.t false])) else some [.t false]) else some [.t false])))))))))
def s_l2_CardTexts : FSpec := ⟨5, [.s (.list [.int .i64])], [], [], [.s (.bool)], [], [], [], F_l2_CardTexts⟩
theorem b_l2_CardTexts : BodyOK P t116 nL0 Tryz.f5 s_l2_CardTexts := fun d => by kernel_rfl
theorem c_l2_CardTexts : COK P s_l2_CardTexts := bdC hm t116_ok Tryz.func5 (nLk _ _ _) b_l2_CardTexts
def t117 : Tab := t116.addP s_l2_CardTexts
theorem t117_ok : TabOK P t117 := t116_ok.aP c_l2_CardTexts

end
end Go.Proofs.SYtmohppjkkpaaoaaGreatDoor
