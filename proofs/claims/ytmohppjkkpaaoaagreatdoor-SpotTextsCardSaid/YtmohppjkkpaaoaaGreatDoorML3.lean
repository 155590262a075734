/-
 What is proved here: functions of the program as functions on data. No condition.
-/
import Derived.Test.YtmohppjkkpaaoaaGreatDoorML2
set_option linter.all false
namespace Go.Proofs.SYtmohppjkkpaaoaaGreatDoor
open Go Go.AL Go.Proofs
noncomputable section
def F_stringslite_CutPrefix (d : List G) : Option (List G) :=
 (callF (F_stringslite_HasPrefix [.s (gi d 0).str, .s (gi d 1).str]) fun g1 => (bif (!(gi g1 0).bool) then some [.s (gi d 0).str, .t false] else (bif ((nnI (((gi d 1).str.size : Nat) : Int)) && (leI (((gi d 1).str.size : Nat) : Int) (((gi d 0).str.size : Nat) : Int))) then some [.s ((gi d 0).str.extract (gi d 1).str.size (gi d 0).str.size), .t true] else none)))
def s_stringslite_CutPrefix : FSpec := ⟨192, [.s (.str), .s (.str)], [], [], [.s (.str), .s (.bool)], [], [], [], F_stringslite_CutPrefix⟩
theorem b_stringslite_CutPrefix : BodyOK P t65 nL0 Tryz.f192 s_stringslite_CutPrefix := fun d => by kernel_rfl
theorem c_stringslite_CutPrefix : COK P s_stringslite_CutPrefix := bdC hm t65_ok Tryz.func192 (nLk _ _ _) b_stringslite_CutPrefix
def t66 : Tab := t65.addP s_stringslite_CutPrefix
theorem t66_ok : TabOK P t66 := t65_ok.aP c_stringslite_CutPrefix

def F_strings_CutPrefix (d : List G) : Option (List G) :=
 (callF (F_stringslite_CutPrefix [.s (gi d 0).str, .s (gi d 1).str]) fun g1 => some [.s (gi g1 0).str, .t (gi g1 1).bool])
def s_strings_CutPrefix : FSpec := ⟨149, [.s (.str), .s (.str)], [], [], [.s (.str), .s (.bool)], [], [], [], F_strings_CutPrefix⟩
theorem b_strings_CutPrefix : BodyOK P t66 nL0 Tryz.f149 s_strings_CutPrefix := fun d => by kernel_rfl
theorem c_strings_CutPrefix : COK P s_strings_CutPrefix := bdC hm t66_ok Tryz.func149 (nLk _ _ _) b_strings_CutPrefix
def t67 : Tab := t66.addP s_strings_CutPrefix
theorem t67_ok : TabOK P t67 := t66_ok.aP c_strings_CutPrefix

def F_strconv_Atoi (d : List G) : Option (List G) :=
 atoiF d
def s_strconv_Atoi : FSpec := ⟨132, [.s (.str)], [], [], [.s (.int .i64), .s (.nilI)], [], [], [], F_strconv_Atoi⟩
theorem c_strconv_Atoi : ∀ d r, F_strconv_Atoi d = some r → ACallX P 132 (s_strconv_Atoi.args0 d) (denH (s_strconv_Atoi.H0 d)) (s_strconv_Atoi.out r) (denH (s_strconv_Atoi.H1 r)) := fun d r h => atoi_call Tryz.laysAtoi d r h
def t68 : Tab := t67.addP s_strconv_Atoi
theorem t68_ok : TabOK P t68 := t67_ok.aP c_strconv_Atoi

def F_kit_Number (d : List G) : Option (List G) :=
 (callF (F_strings_CutPrefix [.s (gi d 0).str, .s (⟨#[45]⟩ : ByteArray)]) fun g1 => (bif ((gi g1 0).str.toList == (⟨#[]⟩ : ByteArray).toList) then some [.i 0, .t false] else (bif (ltI (gi d 1).int (((gi g1 0).str.size : Nat) : Int)) then some [.i 0, .t false] else (callF (F_strings_Trim [.s (gi g1 0).str, .s (⟨#[48, 49, 50, 51, 52, 53, 54, 55, 56, 57]⟩ : ByteArray)]) fun g2 => (bif (!((gi g2 0).str.toList == (⟨#[]⟩ : ByteArray).toList)) then some [.i 0, .t false] else (bif (ltI 0 (((gi g1 0).str.size : Nat) : Int)) then (bif ((((gi g1 0).str.data.toList.getD 0 0).toNat : Int) == 48) then (bif (ltI 1 (((gi g1 0).str.size : Nat) : Int)) then some [.i 0, .t false] else (bif (gi g1 1).bool then some [.i 0, .t false] else (callF (F_strconv_Atoi [.s (gi g1 0).str]) fun g3 => (bif (gi g1 1).bool then (bif (inI (0 - (gi g3 0).int)) then some [.i (0 - (gi g3 0).int), .t true] else none) else some [.i (gi g3 0).int, .t true])))) else (callF (F_strconv_Atoi [.s (gi g1 0).str]) fun g4 => (bif (gi g1 1).bool then (bif (inI (0 - (gi g4 0).int)) then some [.i (0 - (gi g4 0).int), .t true] else none) else some [.i (gi g4 0).int, .t true]))) else none))))))
def s_kit_Number : FSpec := ⟨107, [.s (.str), .s (.int .i64)], [], [], [.s (.int .i64), .s (.bool)], [], [], [], F_kit_Number⟩
theorem b_kit_Number : BodyOK P t68 nL0 Tryz.f107 s_kit_Number := fun d => by kernel_rfl
theorem c_kit_Number : COK P s_kit_Number := bdC hm t68_ok Tryz.func107 (nLk _ _ _) b_kit_Number
def t69 : Tab := t68.addP s_kit_Number
theorem t69_ok : TabOK P t69 := t68_ok.aP c_kit_Number

def st_kit_Numbers_3 (d : List G) : Option (Option Nat × List G) :=
 (bif (ltI (gi d 3).int (gi d 2).int) then (bif ((nnI (gi d 3).int) && (ltI (gi d 3).int (((gi d 1).rows.length : Nat) : Int))) then (callF (F_kit_Number [.s (gi ((gi d 1).rows.getD (((gi d 3).int).toNat) []) 0).str, .i 15]) fun g1 => (bif (!(gi g1 1).bool) then some (some 0, [.l [], .t false]) else (bif ((Nat.beq (gi d 0).rows.length (gi d 0).rows.length) && (decide (((gi d 0).rows.length + 1) ≤ 1048576))) then (bif (inI ((gi d 3).int + 1)) then (bif ((Nat.beq ((gi d 0).rows ++ ([[.i (gi g1 0).int]] : List (List G))).length ((gi d 0).rows ++ ([[.i (gi g1 0).int]] : List (List G))).length) && true) then some (none, [.l ((gi d 0).rows ++ ([[.i (gi g1 0).int]] : List (List G))), .l (gi d 1).rows, .i (gi d 2).int, .i ((gi d 3).int + 1)]) else none) else none) else none))) else none) else (bif ((Nat.beq (gi d 0).rows.length (gi d 0).rows.length) && true) then some (some 1, [.l (gi d 0).rows]) else none))
def l_kit_Numbers_3 : LSpec := ⟨3, [(4, [.int .i64])], ⟨28, [(4, .s (.vec 0 1)), (9, .s (.list [.str])), (10, .s (.int .i64)), (11, .s (.int .i64))], [.vec [.int .i64] 0]⟩, [.slot 4], [⟨.ret, ⟨28, [(2, .s (.list [.int .i64])), (3, .s (.bool))], []⟩, []⟩, ⟨.exit 0, ⟨28, [(4, .s (.vec 0 1))], [.vec [.int .i64] 0]⟩, [.slot 4]⟩], st_kit_Numbers_3⟩
theorem r_kit_Numbers_3 : RoundOK P t69 nL0 0 (loopAt Tryz.f57 3) l_kit_Numbers_3 := fun d => by kernel_rfl
def L_kit_Numbers_3 : LT := nL0.add 0 l_kit_Numbers_3
theorem L_kit_Numbers_3_ok : LpK P 0 L_kit_Numbers_3 (bodyOf Tryz.f57) := LpK.a hm t69_ok (nLk _ _ _) r_kit_Numbers_3
def F_kit_Numbers (d : List G) : Option (List G) :=
 (loopB true (LRun st_kit_Numbers_3 [.l [], .l (gi d 0).rows, .i (((gi d 0).rows.length : Nat) : Int), .i 0]) fun cg2 g2 => (bif Nat.beq cg2 0 then some [.l (gi g2 0).rows, .t (gi g2 1).bool] else (bif ((Nat.beq (gi g2 0).rows.length (gi g2 0).rows.length) && true) then some [.l (gi g2 0).rows, .t true] else none)))
def s_kit_Numbers : FSpec := ⟨57, [.s (.list [.str])], [], [], [.s (.list [.int .i64]), .s (.bool)], [], [], [], F_kit_Numbers⟩
theorem b_kit_Numbers : BodyOK P t69 L_kit_Numbers_3 Tryz.f57 s_kit_Numbers := fun d => by kernel_rfl
theorem c_kit_Numbers : COK P s_kit_Numbers := bdC hm t69_ok Tryz.func57 L_kit_Numbers_3_ok b_kit_Numbers
def t70 : Tab := t69.addP s_kit_Numbers
theorem t70_ok : TabOK P t70 := t69_ok.aP c_kit_Numbers

def tl_band_Read_10 (d : List G) : Option (Option Nat × List G) :=
 (bif (gi d 8).bool then some (some 0, [.l [], .i (gi d 3).int, .i 9]) else (bif ((Nat.beq (gi d 0).rows.length (gi d 0).rows.length) && true) then some (some 1, [.l (gi d 0).rows, .l (gi d 1).rows, .t (gi d 2).bool, .i (gi d 3).int, .l (gi d 4).rows, .l (gi d 5).rows, .i (gi d 6).int, .i (gi d 7).int]) else none))
def l_band_Read_10c : LSpec := ⟨10, [], ⟨85, [(5, .s (.list [.str])), (6, .s (.bool)), (7, .s (.vec 0 4)), (8, .s (.int .i64)), (10, .s (.list [.str])), (22, .s (.list [.str])), (23, .s (.int .i64)), (24, .s (.int .i64)), (51, .s (.bool))], [.vec KSpot 0]⟩, [.slot 7], [⟨.ret, ⟨85, [(2, .s (.list KSpot)), (3, .s (.int .i64)), (4, .s (.int .i64))], []⟩, []⟩, ⟨.normal, ⟨85, [(5, .s (.list [.str])), (6, .s (.bool)), (7, .s (.vec 0 4)), (8, .s (.int .i64)), (10, .s (.list [.str])), (22, .s (.list [.str])), (23, .s (.int .i64)), (24, .s (.int .i64))], [.vec KSpot 0]⟩, [.slot 7]⟩], tl_band_Read_10⟩
theorem r_band_Read_10c : CutOK P (t70.lessPf [45]) nL0 0 (cutAt Tryz.f12 10) l_band_Read_10c := fun d => by kernel_rfl
def L_band_Read_10c : LT := nL0.addCut 0 l_band_Read_10c
theorem L_band_Read_10c_ok : LpK P 0 L_band_Read_10c (bodyOf Tryz.f12) := LpK.addCut hm (t70_ok.lessPf [45]) (by kernel_rfl) (nLk _ _ _) r_band_Read_10c
def st_band_Read_6 (d : List G) : Option (Option Nat × List G) :=
 (bif (ltI (gi d 5).int (gi d 4).int) then (bif ((nnI (gi d 5).int) && (ltI (gi d 5).int (((gi d 3).rows.length : Nat) : Int))) then (callF (F_kit_Words [.s (gi ((gi d 3).rows.getD (((gi d 5).int).toNat) []) 0).str]) fun g2 => (bif (!(gi g2 1).bool) then (loopB ((Nat.beq (gi d 0).rows.length (gi d 0).rows.length) && true) (cutR (tl_band_Read_10 [.l (gi d 0).rows, .l (gi d 1).rows, .t (gi d 2).bool, .i (gi d 5).int, .l (gi g2 0).rows, .l (gi d 3).rows, .i (gi d 4).int, .i (gi d 5).int, .t true])) fun cg3 g3 => (bif Nat.beq cg3 0 then some (some 0, [.l (gi g3 0).rows, .i (gi g3 1).int, .i (gi g3 2).int]) else (bif (leI 2 (((gi g3 4).rows.length : Nat) : Int)) then (callF (F_kit_Numbers [.l ((gi g3 4).rows.take 2)]) fun g4 => (bif (!(gi g4 1).bool) then some (some 0, [.l [], .i (gi g3 3).int, .i 9]) else (bif (ltI 0 (((gi g4 0).rows.length : Nat) : Int)) then (bif (ltI 1 (((gi g4 0).rows.length : Nat) : Int)) then (bif (ltI 2 (((gi g3 4).rows.length : Nat) : Int)) then (bif (ltI 3 (((gi g3 4).rows.length : Nat) : Int)) then (bif ((Nat.beq (gi g3 0).rows.length (gi g3 0).rows.length) && (decide (((gi g3 0).rows.length + 1) ≤ 1048576))) then (bif (inI ((gi g3 7).int + 1)) then (bif ((Nat.beq ((gi g3 0).rows ++ ([[.i (gi ((gi g4 0).rows.getD 0 []) 0).int, .i (gi ((gi g4 0).rows.getD 1 []) 0).int, .s (gi ((gi g3 4).rows.getD 2 []) 0).str, .s (gi ((gi g3 4).rows.getD 3 []) 0).str]] : List (List G))).length ((gi g3 0).rows ++ ([[.i (gi ((gi g4 0).rows.getD 0 []) 0).int, .i (gi ((gi g4 0).rows.getD 1 []) 0).int, .s (gi ((gi g3 4).rows.getD 2 []) 0).str, .s (gi ((gi g3 4).rows.getD 3 []) 0).str]] : List (List G))).length) && true) then some (none, [.l ((gi g3 0).rows ++ ([[.i (gi ((gi g4 0).rows.getD 0 []) 0).int, .i (gi ((gi g4 0).rows.getD 1 []) 0).int, .s (gi ((gi g3 4).rows.getD 2 []) 0).str, .s (gi ((gi g3 4).rows.getD 3 []) 0).str]] : List (List G))), .l (gi g3 1).rows, .t (gi g3 2).bool, .l (gi g3 5).rows, .i (gi g3 6).int, .i ((gi g3 7).int + 1)]) else none) else none) else none) else none) else none) else none) else none))) else none))) else (bif ((((gi g2 0).rows.length : Nat) : Int) != 4) then (loopB ((Nat.beq (gi d 0).rows.length (gi d 0).rows.length) && true) (cutR (tl_band_Read_10 [.l (gi d 0).rows, .l (gi d 1).rows, .t (gi d 2).bool, .i (gi d 5).int, .l (gi g2 0).rows, .l (gi d 3).rows, .i (gi d 4).int, .i (gi d 5).int, .t true])) fun cg5 g5 => (bif Nat.beq cg5 0 then some (some 0, [.l (gi g5 0).rows, .i (gi g5 1).int, .i (gi g5 2).int]) else (bif (leI 2 (((gi g5 4).rows.length : Nat) : Int)) then (callF (F_kit_Numbers [.l ((gi g5 4).rows.take 2)]) fun g6 => (bif (!(gi g6 1).bool) then some (some 0, [.l [], .i (gi g5 3).int, .i 9]) else (bif (ltI 0 (((gi g6 0).rows.length : Nat) : Int)) then (bif (ltI 1 (((gi g6 0).rows.length : Nat) : Int)) then (bif (ltI 2 (((gi g5 4).rows.length : Nat) : Int)) then (bif (ltI 3 (((gi g5 4).rows.length : Nat) : Int)) then (bif ((Nat.beq (gi g5 0).rows.length (gi g5 0).rows.length) && (decide (((gi g5 0).rows.length + 1) ≤ 1048576))) then (bif (inI ((gi g5 7).int + 1)) then (bif ((Nat.beq ((gi g5 0).rows ++ ([[.i (gi ((gi g6 0).rows.getD 0 []) 0).int, .i (gi ((gi g6 0).rows.getD 1 []) 0).int, .s (gi ((gi g5 4).rows.getD 2 []) 0).str, .s (gi ((gi g5 4).rows.getD 3 []) 0).str]] : List (List G))).length ((gi g5 0).rows ++ ([[.i (gi ((gi g6 0).rows.getD 0 []) 0).int, .i (gi ((gi g6 0).rows.getD 1 []) 0).int, .s (gi ((gi g5 4).rows.getD 2 []) 0).str, .s (gi ((gi g5 4).rows.getD 3 []) 0).str]] : List (List G))).length) && true) then some (none, [.l ((gi g5 0).rows ++ ([[.i (gi ((gi g6 0).rows.getD 0 []) 0).int, .i (gi ((gi g6 0).rows.getD 1 []) 0).int, .s (gi ((gi g5 4).rows.getD 2 []) 0).str, .s (gi ((gi g5 4).rows.getD 3 []) 0).str]] : List (List G))), .l (gi g5 1).rows, .t (gi g5 2).bool, .l (gi g5 5).rows, .i (gi g5 6).int, .i ((gi g5 7).int + 1)]) else none) else none) else none) else none) else none) else none) else none))) else none))) else (bif (!(gi d 2).bool) then (bif (inI ((((gi d 1).rows.length : Nat) : Int) - 1)) then (loopB ((Nat.beq (gi d 0).rows.length (gi d 0).rows.length) && true) (cutR (tl_band_Read_10 [.l (gi d 0).rows, .l (gi d 1).rows, .t (gi d 2).bool, .i (gi d 5).int, .l (gi g2 0).rows, .l (gi d 3).rows, .i (gi d 4).int, .i (gi d 5).int, .t ((gi d 5).int == ((((gi d 1).rows.length : Nat) : Int) - 1))])) fun cg7 g7 => (bif Nat.beq cg7 0 then some (some 0, [.l (gi g7 0).rows, .i (gi g7 1).int, .i (gi g7 2).int]) else (bif (leI 2 (((gi g7 4).rows.length : Nat) : Int)) then (callF (F_kit_Numbers [.l ((gi g7 4).rows.take 2)]) fun g8 => (bif (!(gi g8 1).bool) then some (some 0, [.l [], .i (gi g7 3).int, .i 9]) else (bif (ltI 0 (((gi g8 0).rows.length : Nat) : Int)) then (bif (ltI 1 (((gi g8 0).rows.length : Nat) : Int)) then (bif (ltI 2 (((gi g7 4).rows.length : Nat) : Int)) then (bif (ltI 3 (((gi g7 4).rows.length : Nat) : Int)) then (bif ((Nat.beq (gi g7 0).rows.length (gi g7 0).rows.length) && (decide (((gi g7 0).rows.length + 1) ≤ 1048576))) then (bif (inI ((gi g7 7).int + 1)) then (bif ((Nat.beq ((gi g7 0).rows ++ ([[.i (gi ((gi g8 0).rows.getD 0 []) 0).int, .i (gi ((gi g8 0).rows.getD 1 []) 0).int, .s (gi ((gi g7 4).rows.getD 2 []) 0).str, .s (gi ((gi g7 4).rows.getD 3 []) 0).str]] : List (List G))).length ((gi g7 0).rows ++ ([[.i (gi ((gi g8 0).rows.getD 0 []) 0).int, .i (gi ((gi g8 0).rows.getD 1 []) 0).int, .s (gi ((gi g7 4).rows.getD 2 []) 0).str, .s (gi ((gi g7 4).rows.getD 3 []) 0).str]] : List (List G))).length) && true) then some (none, [.l ((gi g7 0).rows ++ ([[.i (gi ((gi g8 0).rows.getD 0 []) 0).int, .i (gi ((gi g8 0).rows.getD 1 []) 0).int, .s (gi ((gi g7 4).rows.getD 2 []) 0).str, .s (gi ((gi g7 4).rows.getD 3 []) 0).str]] : List (List G))), .l (gi g7 1).rows, .t (gi g7 2).bool, .l (gi g7 5).rows, .i (gi g7 6).int, .i ((gi g7 7).int + 1)]) else none) else none) else none) else none) else none) else none) else none))) else none))) else none) else (loopB ((Nat.beq (gi d 0).rows.length (gi d 0).rows.length) && true) (cutR (tl_band_Read_10 [.l (gi d 0).rows, .l (gi d 1).rows, .t (gi d 2).bool, .i (gi d 5).int, .l (gi g2 0).rows, .l (gi d 3).rows, .i (gi d 4).int, .i (gi d 5).int, .t false])) fun cg9 g9 => (bif Nat.beq cg9 0 then some (some 0, [.l (gi g9 0).rows, .i (gi g9 1).int, .i (gi g9 2).int]) else (bif (leI 2 (((gi g9 4).rows.length : Nat) : Int)) then (callF (F_kit_Numbers [.l ((gi g9 4).rows.take 2)]) fun g10 => (bif (!(gi g10 1).bool) then some (some 0, [.l [], .i (gi g9 3).int, .i 9]) else (bif (ltI 0 (((gi g10 0).rows.length : Nat) : Int)) then (bif (ltI 1 (((gi g10 0).rows.length : Nat) : Int)) then (bif (ltI 2 (((gi g9 4).rows.length : Nat) : Int)) then (bif (ltI 3 (((gi g9 4).rows.length : Nat) : Int)) then (bif ((Nat.beq (gi g9 0).rows.length (gi g9 0).rows.length) && (decide (((gi g9 0).rows.length + 1) ≤ 1048576))) then (bif (inI ((gi g9 7).int + 1)) then (bif ((Nat.beq ((gi g9 0).rows ++ ([[.i (gi ((gi g10 0).rows.getD 0 []) 0).int, .i (gi ((gi g10 0).rows.getD 1 []) 0).int, .s (gi ((gi g9 4).rows.getD 2 []) 0).str, .s (gi ((gi g9 4).rows.getD 3 []) 0).str]] : List (List G))).length ((gi g9 0).rows ++ ([[.i (gi ((gi g10 0).rows.getD 0 []) 0).int, .i (gi ((gi g10 0).rows.getD 1 []) 0).int, .s (gi ((gi g9 4).rows.getD 2 []) 0).str, .s (gi ((gi g9 4).rows.getD 3 []) 0).str]] : List (List G))).length) && true) then some (none, [.l ((gi g9 0).rows ++ ([[.i (gi ((gi g10 0).rows.getD 0 []) 0).int, .i (gi ((gi g10 0).rows.getD 1 []) 0).int, .s (gi ((gi g9 4).rows.getD 2 []) 0).str, .s (gi ((gi g9 4).rows.getD 3 []) 0).str]] : List (List G))), .l (gi g9 1).rows, .t (gi g9 2).bool, .l (gi g9 5).rows, .i (gi g9 6).int, .i ((gi g9 7).int + 1)]) else none) else none) else none) else none) else none) else none) else none))) else none))))))) else none) else (bif ((Nat.beq (gi d 0).rows.length (gi d 0).rows.length) && true) then some (some 1, [.l (gi d 0).rows]) else none))
def l_band_Read_6 : LSpec := ⟨6, [(7, KSpot)], ⟨85, [(5, .s (.list [.str])), (6, .s (.bool)), (7, .s (.vec 0 4)), (22, .s (.list [.str])), (23, .s (.int .i64)), (24, .s (.int .i64))], [.vec KSpot 0]⟩, [.slot 7], [⟨.ret, ⟨85, [(2, .s (.list KSpot)), (3, .s (.int .i64)), (4, .s (.int .i64))], []⟩, []⟩, ⟨.exit 0, ⟨85, [(7, .s (.vec 0 4))], [.vec KSpot 0]⟩, [.slot 7]⟩], st_band_Read_6⟩
theorem r_band_Read_6 : RoundOK P (t70.lessPf [45]) L_band_Read_10c 0 (loopAt Tryz.f12 6) l_band_Read_6 := fun d => by kernel_rfl
def L_band_Read_6 : LT := L_band_Read_10c.add 0 l_band_Read_6
theorem L_band_Read_6_ok : LpK P 0 L_band_Read_6 (bodyOf Tryz.f12) := LpK.add hm (t70_ok.lessPf [45]) (by kernel_rfl) L_band_Read_10c_ok r_band_Read_6
def F_band_Read (d : List G) : Option (List G) :=
 (bif (ltI 200000 (((gi d 0).str.size : Nat) : Int)) then some [.l [], .i 0, .i 2] else (callF (F_kit_Lines [.s (gi d 0).str]) fun g1 => (loopB true (LRun st_band_Read_6 [.l [], .l (gi g1 0).rows, .t (gi g1 1).bool, .l (gi g1 0).rows, .i (((gi g1 0).rows.length : Nat) : Int), .i 0]) fun cg11 g11 => (bif Nat.beq cg11 0 then some [.l (gi g11 0).rows, .i (gi g11 1).int, .i (gi g11 2).int] else (callB (((Nat.beq (gi g11 0).rows.length (gi g11 0).rows.length) && true) && (F_band_CheckSpots [.l (gi g11 0).rows]).isSome) (F_band_CheckSpots [.l (gi g11 0).rows]) fun g12 => (bif ((gi g12 0).int != 0) then some [.l [], .i 0, .i (gi g12 0).int] else (bif ((Nat.beq (gi g11 0).rows.length (gi g11 0).rows.length) && true) then some [.l (gi g11 0).rows, .i 0, .i 0] else none)))))))
def s_band_Read : FSpec := ⟨12, [.s (.str)], [], [], [.s (.list KSpot), .s (.int .i64), .s (.int .i64)], [], [], [], F_band_Read⟩
theorem b_band_Read : BodyOK P (t70.lessPf [45]) L_band_Read_6 Tryz.f12 s_band_Read := fun d => by kernel_rfl
theorem c_band_Read : COK P s_band_Read := bodyC hm (t70_ok.lessPf [45]) Tryz.func12 (by kernel_rfl) L_band_Read_6_ok b_band_Read (by kernel_rfl)
def t71 : Tab := t70.addP s_band_Read
theorem t71_ok : TabOK P t71 := t70_ok.aP c_band_Read

def st_sl_Index_string_2 (d : List G) : Option (Option Nat × List G) :=
 (bif (ltI (gi d 3).int (gi d 2).int) then (bif ((nnI (gi d 3).int) && (ltI (gi d 3).int (((gi d 0).rows.length : Nat) : Int))) then (bif ((gi d 1).str.toList == (gi ((gi d 0).rows.getD (((gi d 3).int).toNat) []) 0).str.toList) then some (some 0, [.i (gi d 3).int]) else (bif (inI ((gi d 3).int + 1)) then some (none, [.l (gi d 0).rows, .s (gi d 1).str, .i (gi d 2).int, .i ((gi d 3).int + 1)]) else none)) else none) else some (some 1, []))
def l_sl_Index_string_2 : LSpec := ⟨2, [], ⟨19, [(0, .s (.list [.str])), (1, .s (.str)), (7, .s (.int .i64)), (8, .s (.int .i64))], []⟩, [], [⟨.ret, ⟨19, [(4, .s (.int .i64))], []⟩, []⟩, ⟨.exit 0, ⟨19, [], []⟩, []⟩], st_sl_Index_string_2⟩
theorem r_sl_Index_string_2 : RoundOK P t71 nL0 0 (loopAt Tryz.f92 2) l_sl_Index_string_2 := fun d => by kernel_rfl
def L_sl_Index_string_2 : LT := nL0.add 0 l_sl_Index_string_2
theorem L_sl_Index_string_2_ok : LpK P 0 L_sl_Index_string_2 (bodyOf Tryz.f92) := LpK.a hm t71_ok (nLk _ _ _) r_sl_Index_string_2
def F_sl_Index_string (d : List G) : Option (List G) :=
 (loopB true (LRun st_sl_Index_string_2 [.l (gi d 0).rows, .s (gi d 1).str, .i (((gi d 0).rows.length : Nat) : Int), .i 0]) fun cg1 g1 => (bif Nat.beq cg1 0 then some [.i (gi g1 0).int] else some [.i (-1)]))
def s_sl_Index_string : FSpec := ⟨92, [.s (.list [.str]), .s (.str)], [], [], [.s (.int .i64)], [], [], [], F_sl_Index_string⟩
theorem b_sl_Index_string : BodyOK P t71 L_sl_Index_string_2 Tryz.f92 s_sl_Index_string := fun d => by kernel_rfl
theorem c_sl_Index_string : COK P s_sl_Index_string := bdC hm t71_ok Tryz.func92 L_sl_Index_string_2_ok b_sl_Index_string
def t72 : Tab := t71.addP s_sl_Index_string
theorem t72_ok : TabOK P t72 := t71_ok.aP c_sl_Index_string

def F_sl_Contains_string (d : List G) : Option (List G) :=
 (callF (F_sl_Index_string [.l (gi d 0).rows, .s (gi d 1).str]) fun g1 => some [.t (leI 0 (gi g1 0).int)])
def s_sl_Contains_string : FSpec := ⟨109, [.s (.list [.str]), .s (.str)], [], [], [.s (.bool)], [], [], [], F_sl_Contains_string⟩
theorem b_sl_Contains_string : BodyOK P t72 nL0 Tryz.f109 s_sl_Contains_string := fun d => by kernel_rfl
theorem c_sl_Contains_string : COK P s_sl_Contains_string := bdC hm t72_ok Tryz.func109 (nLk _ _ _) b_sl_Contains_string
def t73 : Tab := t72.addP s_sl_Contains_string
theorem t73_ok : TabOK P t73 := t72_ok.aP c_sl_Contains_string

def F_r2_Words (d : List G) : Option (List G) :=
 (callF (F_strings_Split [.s (gi d 0).str, .s (⟨#[32]⟩ : ByteArray)]) fun g1 => (callF (F_sl_Contains_string [.l (gi g1 0).rows, .s (⟨#[]⟩ : ByteArray)]) fun g2 => some [.l (gi g1 0).rows, .t (!(gi g2 0).bool)]))
def s_r2_Words : FSpec := ⟨60, [.s (.str)], [], [], [.s (.list [.str]), .s (.bool)], [], [], [], F_r2_Words⟩
theorem b_r2_Words : BodyOK P t73 nL0 Tryz.f60 s_r2_Words := fun d => by kernel_rfl
theorem c_r2_Words : COK P s_r2_Words := bdC hm t73_ok Tryz.func60 (nLk _ _ _) b_r2_Words
def t74 : Tab := t73.addP s_r2_Words
theorem t74_ok : TabOK P t74 := t73_ok.aP c_r2_Words

def F_stringslite_TrimPrefix (d : List G) : Option (List G) :=
 (callF (F_stringslite_HasPrefix [.s (gi d 0).str, .s (gi d 1).str]) fun g1 => (bif (gi g1 0).bool then (bif ((nnI (((gi d 1).str.size : Nat) : Int)) && (leI (((gi d 1).str.size : Nat) : Int) (((gi d 0).str.size : Nat) : Int))) then some [.s ((gi d 0).str.extract (gi d 1).str.size (gi d 0).str.size)] else none) else some [.s (gi d 0).str]))
def s_stringslite_TrimPrefix : FSpec := ⟨168, [.s (.str), .s (.str)], [], [], [.s (.str)], [], [], [], F_stringslite_TrimPrefix⟩
theorem b_stringslite_TrimPrefix : BodyOK P t74 nL0 Tryz.f168 s_stringslite_TrimPrefix := fun d => by kernel_rfl
theorem c_stringslite_TrimPrefix : COK P s_stringslite_TrimPrefix := bdC hm t74_ok Tryz.func168 (nLk _ _ _) b_stringslite_TrimPrefix
def t75 : Tab := t74.addP s_stringslite_TrimPrefix
theorem t75_ok : TabOK P t75 := t74_ok.aP c_stringslite_TrimPrefix

def F_strings_TrimPrefix (d : List G) : Option (List G) :=
 (callF (F_stringslite_TrimPrefix [.s (gi d 0).str, .s (gi d 1).str]) fun g1 => some [.s (gi g1 0).str])
def s_strings_TrimPrefix : FSpec := ⟨131, [.s (.str), .s (.str)], [], [], [.s (.str)], [], [], [], F_strings_TrimPrefix⟩
theorem b_strings_TrimPrefix : BodyOK P t75 nL0 Tryz.f131 s_strings_TrimPrefix := fun d => by kernel_rfl
theorem c_strings_TrimPrefix : COK P s_strings_TrimPrefix := bdC hm t75_ok Tryz.func131 (nLk _ _ _) b_strings_TrimPrefix
def t76 : Tab := t75.addP s_strings_TrimPrefix
theorem t76_ok : TabOK P t76 := t75_ok.aP c_strings_TrimPrefix

def st_r2_only_2 (d : List G) : Option (Option Nat × List G) :=
 (bif (ltI (gi d 3).int (gi d 2).int) then (bif ((nnI (gi d 3).int) && (ltI (gi d 3).int (((gi d 0).str.size : Nat) : Int))) then (callF (F_strings_IndexByte [.s (gi d 1).str, .i (((gi d 0).str.data.toList.getD (((gi d 3).int).toNat) 0).toNat : Int)]) fun g1 => (bif (ltI (gi g1 0).int 0) then some (some 0, [.t false]) else (bif (inI ((gi d 3).int + 1)) then some (none, [.s (gi d 0).str, .s (gi d 1).str, .i (gi d 2).int, .i ((gi d 3).int + 1)]) else none))) else none) else some (some 1, []))
def l_r2_only_2 : LSpec := ⟨2, [], ⟨18, [(0, .s (.str)), (1, .s (.str)), (7, .s (.int .i64)), (8, .s (.int .i64))], []⟩, [], [⟨.ret, ⟨18, [(4, .s (.bool))], []⟩, []⟩, ⟨.exit 0, ⟨18, [], []⟩, []⟩], st_r2_only_2⟩
theorem r_r2_only_2 : RoundOK P t76 nL0 0 (loopAt Tryz.f129 2) l_r2_only_2 := fun d => by kernel_rfl
def L_r2_only_2 : LT := nL0.add 0 l_r2_only_2
theorem L_r2_only_2_ok : LpK P 0 L_r2_only_2 (bodyOf Tryz.f129) := LpK.a hm t76_ok (nLk _ _ _) r_r2_only_2
def F_r2_only (d : List G) : Option (List G) :=
 (loopB true (LRun st_r2_only_2 [.s (gi d 0).str, .s (gi d 1).str, .i (((gi d 0).str.size : Nat) : Int), .i 0]) fun cg2 g2 => (bif Nat.beq cg2 0 then some [.t (gi g2 0).bool] else some [.t true]))
def s_r2_only : FSpec := ⟨129, [.s (.str), .s (.str)], [], [], [.s (.bool)], [], [], [], F_r2_only⟩
theorem b_r2_only : BodyOK P t76 L_r2_only_2 Tryz.f129 s_r2_only := fun d => by kernel_rfl
theorem c_r2_only : COK P s_r2_only := bdC hm t76_ok Tryz.func129 L_r2_only_2_ok b_r2_only
def t77 : Tab := t76.addP s_r2_only
theorem t77_ok : TabOK P t77 := t76_ok.aP c_r2_only

def F_r2_Number (d : List G) : Option (List G) :=
 (callF (F_strings_TrimPrefix [.s (gi d 0).str, .s (⟨#[45]⟩ : ByteArray)]) fun g1 => (bif ((gi g1 0).str.toList == (⟨#[]⟩ : ByteArray).toList) then some [.i 0, .t false] else (bif (ltI (gi d 1).int (((gi g1 0).str.size : Nat) : Int)) then some [.i 0, .t false] else (callF (F_r2_only [.s (gi g1 0).str, .s (⟨#[48, 49, 50, 51, 52, 53, 54, 55, 56, 57]⟩ : ByteArray)]) fun g2 => (bif (!(gi g2 0).bool) then some [.i 0, .t false] else (callF (F_strconv_Atoi [.s (gi d 0).str]) fun g3 => (callF (F_strconv_Itoa [.i (gi g3 0).int]) fun g4 => some [.i (gi g3 0).int, .t ((gi g4 0).str.toList == (gi d 0).str.toList)])))))))
def s_r2_Number : FSpec := ⟨91, [.s (.str), .s (.int .i64)], [], [], [.s (.int .i64), .s (.bool)], [], [], [], F_r2_Number⟩
theorem b_r2_Number : BodyOK P t77 nL0 Tryz.f91 s_r2_Number := fun d => by kernel_rfl
theorem c_r2_Number : COK P s_r2_Number := bdC hm t77_ok Tryz.func91 (nLk _ _ _) b_r2_Number
def t78 : Tab := t77.addP s_r2_Number
theorem t78_ok : TabOK P t78 := t77_ok.aP c_r2_Number

def st_r2_NumbersIn_4 (d : List G) : Option (Option Nat × List G) :=
 (bif (ltI (gi d 5).int (gi d 4).int) then (bif ((nnI (gi d 5).int) && (ltI (gi d 5).int (((gi d 3).rows.length : Nat) : Int))) then (callF (F_r2_Number [.s (gi ((gi d 3).rows.getD (((gi d 5).int).toNat) []) 0).str, .i (gi d 1).int]) fun g1 => (bif ((Nat.beq (gi d 0).rows.length (gi d 0).rows.length) && (decide (((gi d 0).rows.length + 1) ≤ 1048576))) then (bif (gi d 2).bool then (bif (inI ((gi d 5).int + 1)) then (bif ((Nat.beq ((gi d 0).rows ++ ([[.i (gi g1 0).int]] : List (List G))).length ((gi d 0).rows ++ ([[.i (gi g1 0).int]] : List (List G))).length) && true) then some (none, [.l ((gi d 0).rows ++ ([[.i (gi g1 0).int]] : List (List G))), .i (gi d 1).int, .t (gi g1 1).bool, .l (gi d 3).rows, .i (gi d 4).int, .i ((gi d 5).int + 1)]) else none) else none) else (bif (inI ((gi d 5).int + 1)) then (bif ((Nat.beq ((gi d 0).rows ++ ([[.i (gi g1 0).int]] : List (List G))).length ((gi d 0).rows ++ ([[.i (gi g1 0).int]] : List (List G))).length) && true) then some (none, [.l ((gi d 0).rows ++ ([[.i (gi g1 0).int]] : List (List G))), .i (gi d 1).int, .t false, .l (gi d 3).rows, .i (gi d 4).int, .i ((gi d 5).int + 1)]) else none) else none)) else none)) else none) else (bif ((Nat.beq (gi d 0).rows.length (gi d 0).rows.length) && true) then some (some 0, [.l (gi d 0).rows, .t (gi d 2).bool]) else none))
def l_r2_NumbersIn_4 : LSpec := ⟨4, [(6, [.int .i64])], ⟨35, [(1, .s (.int .i64)), (6, .s (.vec 0 1)), (7, .s (.bool)), (12, .s (.list [.str])), (13, .s (.int .i64)), (14, .s (.int .i64))], [.vec [.int .i64] 0]⟩, [.slot 6], [⟨.exit 0, ⟨35, [(6, .s (.vec 0 1)), (7, .s (.bool))], [.vec [.int .i64] 0]⟩, [.slot 6]⟩], st_r2_NumbersIn_4⟩
theorem r_r2_NumbersIn_4 : RoundOK P t78 nL0 0 (loopAt Tryz.f61 4) l_r2_NumbersIn_4 := fun d => by kernel_rfl
def L_r2_NumbersIn_4 : LT := nL0.add 0 l_r2_NumbersIn_4
theorem L_r2_NumbersIn_4_ok : LpK P 0 L_r2_NumbersIn_4 (bodyOf Tryz.f61) := LpK.a hm t78_ok (nLk _ _ _) r_r2_NumbersIn_4
def F_r2_NumbersIn (d : List G) : Option (List G) :=
 (loopB true (LRun st_r2_NumbersIn_4 [.l [], .i (gi d 1).int, .t true, .l (gi d 0).rows, .i (((gi d 0).rows.length : Nat) : Int), .i 0]) fun cg2 g2 => (bif ((Nat.beq (gi g2 0).rows.length (gi g2 0).rows.length) && true) then some [.l (gi g2 0).rows, .t (gi g2 1).bool] else none))
def s_r2_NumbersIn : FSpec := ⟨61, [.s (.list [.str]), .s (.int .i64)], [], [], [.s (.list [.int .i64]), .s (.bool)], [], [], [], F_r2_NumbersIn⟩
theorem b_r2_NumbersIn : BodyOK P t78 L_r2_NumbersIn_4 Tryz.f61 s_r2_NumbersIn := fun d => by kernel_rfl
theorem c_r2_NumbersIn : COK P s_r2_NumbersIn := bdC hm t78_ok Tryz.func61 L_r2_NumbersIn_4_ok b_r2_NumbersIn
def t79 : Tab := t78.addP s_r2_NumbersIn
theorem t79_ok : TabOK P t79 := t78_ok.aP c_r2_NumbersIn

def F_r2_SpotsRead_1 (d : List G) : Option (List G) :=
 (callF (F_r2_Words [.s (gi d 1).str]) fun g1 => (bif (!(gi g1 1).bool) then (bif ((((Nat.beq (gi d 0).rows.length (gi d 0).rows.length) && true) && true) && true) then some [.l (gi d 0).rows, .t false] else none) else (bif ((((gi g1 0).rows.length : Nat) : Int) != 4) then (bif ((((Nat.beq (gi d 0).rows.length (gi d 0).rows.length) && true) && true) && true) then some [.l (gi d 0).rows, .t false] else none) else (bif (leI 2 (((gi g1 0).rows.length : Nat) : Int)) then (callF (F_r2_NumbersIn [.l ((gi g1 0).rows.take 2), .i 15]) fun g2 => (bif (ltI 0 (((gi g2 0).rows.length : Nat) : Int)) then (bif (ltI 1 (((gi g2 0).rows.length : Nat) : Int)) then (bif (ltI 2 (((gi g1 0).rows.length : Nat) : Int)) then (bif (ltI 3 (((gi g1 0).rows.length : Nat) : Int)) then (bif ((Nat.beq (gi d 0).rows.length (gi d 0).rows.length) && (decide (((gi d 0).rows.length + 1) ≤ 1048576))) then (bif ((((Nat.beq ((gi d 0).rows ++ ([[.i (gi ((gi g2 0).rows.getD 0 []) 0).int, .i (gi ((gi g2 0).rows.getD 1 []) 0).int, .s (gi ((gi g1 0).rows.getD 2 []) 0).str, .s (gi ((gi g1 0).rows.getD 3 []) 0).str]] : List (List G))).length ((gi d 0).rows ++ ([[.i (gi ((gi g2 0).rows.getD 0 []) 0).int, .i (gi ((gi g2 0).rows.getD 1 []) 0).int, .s (gi ((gi g1 0).rows.getD 2 []) 0).str, .s (gi ((gi g1 0).rows.getD 3 []) 0).str]] : List (List G))).length) && true) && true) && true) then some [.l ((gi d 0).rows ++ ([[.i (gi ((gi g2 0).rows.getD 0 []) 0).int, .i (gi ((gi g2 0).rows.getD 1 []) 0).int, .s (gi ((gi g1 0).rows.getD 2 []) 0).str, .s (gi ((gi g1 0).rows.getD 3 []) 0).str]] : List (List G))), .t (gi g2 1).bool] else none) else none) else none) else none) else none) else none)) else none))))
def s_r2_SpotsRead_1 : FSpec := ⟨59, [.s (.str), .s (.ptr 0 0)], [.box [.vec 1 4], .vec KSpot 0], [.slot 1, .cell 0 0], [.s (.bool)], [.box [.vec 1 4], .vec KSpot 1], [.fix 0, .fix 1], [], F_r2_SpotsRead_1⟩
theorem b_r2_SpotsRead_1 : BodyOK P t79 nL0 Tryz.f59 s_r2_SpotsRead_1 := fun d => by kernel_rfl
theorem c_r2_SpotsRead_1 : COK P s_r2_SpotsRead_1 := bdC hm t79_ok Tryz.func59 (nLk _ _ _) b_r2_SpotsRead_1
def t80 : Tab := t79.addW s_r2_SpotsRead_1
theorem t80_ok : TabOK P t80 := t79_ok.aW c_r2_SpotsRead_1

def st_r2_Lines_2 (d : List G) : Option (Option Nat × List G) :=
 (bif (!((gi d 1).str.toList == (⟨#[]⟩ : ByteArray).toList)) then (callF (F_strings_Cut [.s (gi d 1).str, .s (⟨#[10]⟩ : ByteArray)]) fun g1 => (bif (!(gi g1 2).bool) then (bif ((((Nat.beq (gi d 0).rows.length (gi d 0).rows.length) && true) && true) && true) then some (some 0, [.l (gi d 0).rows, .i (gi d 2).int, .t false]) else none) else (callB (((((Nat.beq (gi d 0).rows.length (gi d 0).rows.length) && true) && true) && true) && (F_r2_SpotsRead_1 [.l (gi d 0).rows, .s (gi g1 0).str]).isSome) (F_r2_SpotsRead_1 [.l (gi d 0).rows, .s (gi g1 0).str]) fun g2 => (bif (!(gi g2 1).bool) then (bif ((((Nat.beq (gi g2 0).rows.length (gi g2 0).rows.length) && true) && true) && true) then some (some 0, [.l (gi g2 0).rows, .i (gi d 2).int, .t false]) else none) else (bif (inI ((gi d 2).int + 1)) then (bif ((((Nat.beq (gi g2 0).rows.length (gi g2 0).rows.length) && true) && true) && true) then some (none, [.l (gi g2 0).rows, .s (gi g1 1).str, .i ((gi d 2).int + 1)]) else none) else none))))) else (bif ((((Nat.beq (gi d 0).rows.length (gi d 0).rows.length) && true) && true) && true) then some (some 1, [.l (gi d 0).rows]) else none))
def l_r2_Lines_2 : LSpec := ⟨2, [], ⟨30, [(0, .s (.str)), (1, .clo 59 [.ptr 0 0]), (6, .s (.int .i64))], [.box [.vec 1 4], .vec KSpot 1]⟩, [.fix 0, .cell 0 0], [⟨.ret, ⟨30, [(4, .s (.int .i64)), (5, .s (.bool))], [.box [.vec 1 4], .vec KSpot 1]⟩, [.fix 0, .cell 0 0]⟩, ⟨.exit 0, ⟨30, [], [.box [.vec 1 4], .vec KSpot 1]⟩, [.fix 0, .cell 0 0]⟩], st_r2_Lines_2⟩
theorem r_r2_Lines_2 : RoundOK P t80 nL0 2 (loopAt Tryz.f58 2) l_r2_Lines_2 := fun d => by kernel_rfl
def L_r2_Lines_2 : LT := nL0.add 2 l_r2_Lines_2
theorem L_r2_Lines_2_ok : LpK P 2 L_r2_Lines_2 (bodyOf Tryz.f58) := LpK.a hm t80_ok (nLk _ _ _) r_r2_Lines_2
def F_r2_Lines (d : List G) : Option (List G) :=
 (loopB ((((Nat.beq (gi d 0).rows.length (gi d 0).rows.length) && true) && true) && true) (LRun st_r2_Lines_2 [.l (gi d 0).rows, .s (gi d 1).str, .i 0]) fun cg3 g3 => (bif Nat.beq cg3 0 then (bif ((((Nat.beq (gi g3 0).rows.length (gi g3 0).rows.length) && true) && true) && true) then some [.l (gi g3 0).rows, .i (gi g3 1).int, .t (gi g3 2).bool] else none) else (bif ((((Nat.beq (gi g3 0).rows.length (gi g3 0).rows.length) && true) && true) && true) then some [.l (gi g3 0).rows, .i 0, .t true] else none)))
def s_r2_Lines : FSpec := ⟨58, [.s (.str), .clo 59 [.ptr 0 0]], [.box [.vec 1 4], .vec KSpot 0], [.cap 1 0, .cell 0 0], [.s (.int .i64), .s (.bool)], [.box [.vec 1 4], .vec KSpot 1], [.fix 0, .fix 1], [], F_r2_Lines⟩
theorem b_r2_Lines : BodyOK P t80 L_r2_Lines_2 Tryz.f58 s_r2_Lines := fun d => by kernel_rfl
theorem c_r2_Lines : COK P s_r2_Lines := bdC hm t80_ok Tryz.func58 L_r2_Lines_2_ok b_r2_Lines
def t81 : Tab := t80.addW s_r2_Lines
theorem t81_ok : TabOK P t81 := t80_ok.aW c_r2_Lines

def st_sl_Equal_Spot_4 (d : List G) : Option (Option Nat × List G) :=
 (bif (ltI (gi d 3).int (gi d 2).int) then (bif ((nnI (gi d 3).int) && (ltI (gi d 3).int (((gi d 0).rows.length : Nat) : Int))) then (bif ((nnI (gi d 3).int) && (ltI (gi d 3).int (((gi d 1).rows.length : Nat) : Int))) then (bif (!(rowEq KSpot (gEta KSpot ((gi d 0).rows.getD (((gi d 3).int).toNat) [])) (gEta KSpot ((gi d 1).rows.getD (((gi d 3).int).toNat) [])))) then some (some 0, [.t false]) else (bif (inI ((gi d 3).int + 1)) then some (none, [.l (gi d 0).rows, .l (gi d 1).rows, .i (gi d 2).int, .i ((gi d 3).int + 1)]) else none)) else none) else none) else some (some 1, []))
def l_sl_Equal_Spot_4 : LSpec := ⟨4, [], ⟨26, [(0, .s (.list KSpot)), (1, .s (.list KSpot)), (12, .s (.int .i64)), (13, .s (.int .i64))], []⟩, [], [⟨.ret, ⟨26, [(4, .s (.bool))], []⟩, []⟩, ⟨.exit 0, ⟨26, [], []⟩, []⟩], st_sl_Equal_Spot_4⟩
theorem r_sl_Equal_Spot_4 : RoundOK P t81 nL0 0 (loopAt Tryz.f14 4) l_sl_Equal_Spot_4 := fun d => by kernel_rfl
def L_sl_Equal_Spot_4 : LT := nL0.add 0 l_sl_Equal_Spot_4
theorem L_sl_Equal_Spot_4_ok : LpK P 0 L_sl_Equal_Spot_4 (bodyOf Tryz.f14) := LpK.a hm t81_ok (nLk _ _ _) r_sl_Equal_Spot_4
def F_sl_Equal_Spot (d : List G) : Option (List G) :=
 (bif ((((gi d 0).rows.length : Nat) : Int) != (((gi d 1).rows.length : Nat) : Int)) then some [.t false] else (loopB true (LRun st_sl_Equal_Spot_4 [.l (gi d 0).rows, .l (gi d 1).rows, .i (((gi d 0).rows.length : Nat) : Int), .i 0]) fun cg1 g1 => (bif Nat.beq cg1 0 then some [.t (gi g1 0).bool] else some [.t true])))
def s_sl_Equal_Spot : FSpec := ⟨14, [.s (.list KSpot), .s (.list KSpot)], [], [], [.s (.bool)], [], [], [], F_sl_Equal_Spot⟩
theorem b_sl_Equal_Spot : BodyOK P t81 L_sl_Equal_Spot_4 Tryz.f14 s_sl_Equal_Spot := fun d => by kernel_rfl
theorem c_sl_Equal_Spot : COK P s_sl_Equal_Spot := bdC hm t81_ok Tryz.func14 L_sl_Equal_Spot_4_ok b_sl_Equal_Spot
def t82 : Tab := t81.addP s_sl_Equal_Spot
theorem t82_ok : TabOK P t82 := t81_ok.aP c_sl_Equal_Spot

attribute [instance] drF
theorem w82_ok : TabOK P t82 := t82_ok.anyDr
def F_strings_ContainsAny (d : List G) : Option (List G) :=
 any1F d
def s_strings_ContainsAny : FSpec := ⟨187, [.s (.str), .s (.str)], [], [], [.s (.bool)], [], [], [], F_strings_ContainsAny⟩
theorem c_strings_ContainsAny : ∀ d r, F_strings_ContainsAny d = some r → ACallX P 187 (s_strings_ContainsAny.args0 d) (denH (s_strings_ContainsAny.H0 d)) (s_strings_ContainsAny.out r) (denH (s_strings_ContainsAny.H1 r)) := fun d r h => any_call rfl Tryz.laysAny (by kernel_rfl) d r h
def t83 : Tab := t82.addP s_strings_ContainsAny
theorem t83_ok : TabOK P t83 := w82_ok.aP c_strings_ContainsAny

def F_r1_plain (d : List G) : Option (List G) :=
 (callF (F_r1_in [.i (((gi d 0).str.size : Nat) : Int), .i (gi d 1).int, .i (gi d 2).int]) fun g1 => (bif (gi g1 0).bool then (callF (F_strings_Trim [.s (gi d 0).str, .s (⟨#[97, 98, 99, 100, 101, 102, 103, 104, 105, 106, 107, 108, 109, 110, 111, 112, 113, 114, 115, 116, 117, 118, 119, 120, 121, 122, 48, 49, 50, 51, 52, 53, 54, 55, 56, 57]⟩ : ByteArray)]) fun g2 => (bif ((gi g2 0).str.toList == (⟨#[]⟩ : ByteArray).toList) then (callF (F_strings_ContainsAny [.s (gi d 0).str, .s (⟨#[97, 98, 99, 100, 101, 102, 103, 104, 105, 106, 107, 108, 109, 110, 111, 112, 113, 114, 115, 116, 117, 118, 119, 120, 121, 122]⟩ : ByteArray)]) fun g3 => some [.t (gi g3 0).bool]) else some [.t false])) else some [.t false]))
def s_r1_plain : FSpec := ⟨185, [.s (.str), .s (.int .i64), .s (.int .i64)], [], [], [.s (.bool)], [], [], [], F_r1_plain⟩
theorem b_r1_plain : BodyOK P t83 nL0 Tryz.f185 s_r1_plain := fun d => by kernel_rfl
theorem c_r1_plain : COK P s_r1_plain := bdC hm t83_ok Tryz.func185 (nLk _ _ _) b_r1_plain
def t84 : Tab := t83.addP s_r1_plain
theorem t84_ok : TabOK P t84 := t83_ok.aP c_r1_plain

def F_r1_baseAt (d : List G) : Option (List G) :=
 (callF (F_strings_LastIndexAny [.s (gi d 0).str, .s (⟨#[48, 49, 50, 51, 52, 53, 54, 55, 56, 57]⟩ : ByteArray)]) fun g1 => (callF (F_r1_plain [.s (gi d 0).str, .i 3, .i 10]) fun g2 => (bif (!(gi g2 0).bool) then some [.i (-1)] else (callF (F_r1_in [.i (gi g1 0).int, .i 1, .i 3]) fun g3 => (bif (!(gi g3 0).bool) then some [.i (-1)] else (bif (inI ((((gi d 0).str.size : Nat) : Int) - 1)) then (bif (inI (((((gi d 0).str.size : Nat) : Int) - 1) - (gi g1 0).int)) then (callF (F_r1_in [.i (((((gi d 0).str.size : Nat) : Int) - 1) - (gi g1 0).int), .i 1, .i 4]) fun g4 => (bif (!(gi g4 0).bool) then some [.i (-1)] else (bif ((nnI (gi g1 0).int) && (leI (gi g1 0).int (((gi d 0).str.size : Nat) : Int))) then (callF (F_strings_ContainsAny [.s ((gi d 0).str.extract 0 ((gi g1 0).int).toNat), .s (⟨#[97, 98, 99, 100, 101, 102, 103, 104, 105, 106, 107, 108, 109, 110, 111, 112, 113, 114, 115, 116, 117, 118, 119, 120, 121, 122]⟩ : ByteArray)]) fun g5 => (bif (!(gi g5 0).bool) then some [.i (-1)] else some [.i (gi g1 0).int])) else none))) else none) else none))))))
def s_r1_baseAt : FSpec := ⟨144, [.s (.str)], [], [], [.s (.int .i64)], [], [], [], F_r1_baseAt⟩
theorem b_r1_baseAt : BodyOK P t84 nL0 Tryz.f144 s_r1_baseAt := fun d => by kernel_rfl
theorem c_r1_baseAt : COK P s_r1_baseAt := bdC hm t84_ok Tryz.func144 (nLk _ _ _) b_r1_baseAt
def t85 : Tab := t84.addP s_r1_baseAt
theorem t85_ok : TabOK P t85 := t84_ok.aP c_r1_baseAt

def F_r1_PartsOf_1 (d : List G) : Option (List G) :=
 (callF (F_r1_baseAt [.s (gi d 0).str]) fun g1 => (bif (inI ((gi g1 0).int + 1)) then (bif ((nnI ((gi g1 0).int + 1)) && (leI ((gi g1 0).int + 1) (((gi d 0).str.size : Nat) : Int))) then (bif (inI ((gi g1 0).int + 1)) then (bif ((nnI ((gi g1 0).int + 1)) && (leI ((gi g1 0).int + 1) (((gi d 0).str.size : Nat) : Int))) then some [.l [[.s (gi d 0).str, .s ((gi d 0).str.extract 0 ((gi g1 0).int + 1).toNat), .s ((gi d 0).str.extract ((gi g1 0).int + 1).toNat (gi d 0).str.size), .i 0, .s (⟨#[]⟩ : ByteArray)]]] else none) else none) else none) else none))
def s_r1_PartsOf_1 : FSpec := ⟨143, [.s (.str)], [], [], [.s (.row KParts)], [], [], [], F_r1_PartsOf_1⟩
theorem b_r1_PartsOf_1 : BodyOK P t85 nL0 Tryz.f143 s_r1_PartsOf_1 := fun d => by kernel_rfl
theorem c_r1_PartsOf_1 : COK P s_r1_PartsOf_1 := bdC hm t85_ok Tryz.func143 (nLk _ _ _) b_r1_PartsOf_1
def t86 : Tab := t85.addP s_r1_PartsOf_1
theorem t86_ok : TabOK P t86 := t85_ok.aP c_r1_PartsOf_1

def F_r1_begin (d : List G) : Option (List G) :=
 (callF (F_r1_plain [.s (gi d 0).str, .i 1, .i 4]) fun g1 => some [.t (gi g1 0).bool])
def s_r1_begin : FSpec := ⟨145, [.s (.str)], [], [], [.s (.bool)], [], [], [], F_r1_begin⟩
theorem b_r1_begin : BodyOK P t86 nL0 Tryz.f145 s_r1_begin := fun d => by kernel_rfl
theorem c_r1_begin : COK P s_r1_begin := bdC hm t86_ok Tryz.func145 (nLk _ _ _) b_r1_begin
def t87 : Tab := t86.addP s_r1_begin
theorem t87_ok : TabOK P t87 := t86_ok.aP c_r1_begin

def F_r1_PartsOf (d : List G) : Option (List G) :=
 (callF (F_strings_Cut [.s (gi d 0).str, .s (⟨#[47]⟩ : ByteArray)]) fun g1 => (bif (ltI 14 (((gi d 0).str.size : Nat) : Int)) then some [.l [[.s (⟨#[]⟩ : ByteArray), .s (⟨#[]⟩ : ByteArray), .s (⟨#[]⟩ : ByteArray), .i 0, .s (⟨#[]⟩ : ByteArray)]], .t false] else (bif (!(gi g1 2).bool) then (callF (F_r1_baseAt [.s (gi g1 0).str]) fun g2 => (bif (ltI (gi g2 0).int 0) then some [.l [[.s (⟨#[]⟩ : ByteArray), .s (⟨#[]⟩ : ByteArray), .s (⟨#[]⟩ : ByteArray), .i 0, .s (⟨#[]⟩ : ByteArray)]], .t false] else (callF (F_r1_PartsOf_1 [.s (gi g1 0).str]) fun g3 => some [.l [(gEta KParts (gi g3 0).row)], .t true]))) else (callF (F_r1_baseAt [.s (gi g1 1).str]) fun g4 => (bif (leI 0 (gi g4 0).int) then (callF (F_r1_begin [.s (gi g1 0).str]) fun g5 => (bif (gi g5 0).bool then (callF (F_r1_PartsOf_1 [.s (gi g1 1).str]) fun g6 => some [.l [[.s (gi (gi g6 0).row 0).str, .s (gi (gi g6 0).row 1).str, .s (gi (gi g6 0).row 2).str, .i 1, .s (gi g1 0).str]], .t true]) else (callF (F_r1_baseAt [.s (gi g1 0).str]) fun g7 => (bif (ltI (gi g7 0).int 0) then some [.l [[.s (⟨#[]⟩ : ByteArray), .s (⟨#[]⟩ : ByteArray), .s (⟨#[]⟩ : ByteArray), .i 0, .s (⟨#[]⟩ : ByteArray)]], .t false] else (callF (F_r1_PartsOf_1 [.s (gi g1 0).str]) fun g8 => (bif ((gi g1 1).str.toList == (⟨#[112]⟩ : ByteArray).toList) then some [.l [[.s (gi (gi g8 0).row 0).str, .s (gi (gi g8 0).row 1).str, .s (gi (gi g8 0).row 2).str, .i 3, .s (gi (gi g8 0).row 4).str]], .t true] else (bif ((gi g1 1).str.toList == (⟨#[109]⟩ : ByteArray).toList) then some [.l [[.s (gi (gi g8 0).row 0).str, .s (gi (gi g8 0).row 1).str, .s (gi (gi g8 0).row 2).str, .i 4, .s (gi (gi g8 0).row 4).str]], .t true] else (bif ((gi g1 1).str.toList == (⟨#[109, 109]⟩ : ByteArray).toList) then some [.l [[.s (gi (gi g8 0).row 0).str, .s (gi (gi g8 0).row 1).str, .s (gi (gi g8 0).row 2).str, .i 5, .s (gi (gi g8 0).row 4).str]], .t true] else (bif ((gi g1 1).str.toList == (⟨#[97, 109]⟩ : ByteArray).toList) then some [.l [[.s (gi (gi g8 0).row 0).str, .s (gi (gi g8 0).row 1).str, .s (gi (gi g8 0).row 2).str, .i 6, .s (gi (gi g8 0).row 4).str]], .t true] else (bif ((((gi g1 1).str.size : Nat) : Int) == 1) then (callF (F_strings_Contains [.s (⟨#[48, 49, 50, 51, 52, 53, 54, 55, 56, 57]⟩ : ByteArray), .s (gi g1 1).str]) fun g9 => (bif (gi g9 0).bool then some [.l [[.s (gi (gi g8 0).row 0).str, .s (gi (gi g8 0).row 1).str, .s (gi (gi g8 0).row 2).str, .i 2, .s (gi g1 1).str]], .t true] else (callF (F_r1_begin [.s (gi g1 1).str]) fun g10 => (bif (gi g10 0).bool then some [.l [[.s (gi (gi g8 0).row 0).str, .s (gi (gi g8 0).row 1).str, .s (gi (gi g8 0).row 2).str, .i 1, .s (gi g1 1).str]], .t true] else some [.l [[.s (⟨#[]⟩ : ByteArray), .s (⟨#[]⟩ : ByteArray), .s (⟨#[]⟩ : ByteArray), .i 0, .s (⟨#[]⟩ : ByteArray)]], .t false])))) else (callF (F_r1_begin [.s (gi g1 1).str]) fun g11 => (bif (gi g11 0).bool then some [.l [[.s (gi (gi g8 0).row 0).str, .s (gi (gi g8 0).row 1).str, .s (gi (gi g8 0).row 2).str, .i 1, .s (gi g1 1).str]], .t true] else some [.l [[.s (⟨#[]⟩ : ByteArray), .s (⟨#[]⟩ : ByteArray), .s (⟨#[]⟩ : ByteArray), .i 0, .s (⟨#[]⟩ : ByteArray)]], .t false])))))))))))) else (callF (F_r1_baseAt [.s (gi g1 0).str]) fun g12 => (bif (ltI (gi g12 0).int 0) then some [.l [[.s (⟨#[]⟩ : ByteArray), .s (⟨#[]⟩ : ByteArray), .s (⟨#[]⟩ : ByteArray), .i 0, .s (⟨#[]⟩ : ByteArray)]], .t false] else (callF (F_r1_PartsOf_1 [.s (gi g1 0).str]) fun g13 => (bif ((gi g1 1).str.toList == (⟨#[112]⟩ : ByteArray).toList) then some [.l [[.s (gi (gi g13 0).row 0).str, .s (gi (gi g13 0).row 1).str, .s (gi (gi g13 0).row 2).str, .i 3, .s (gi (gi g13 0).row 4).str]], .t true] else (bif ((gi g1 1).str.toList == (⟨#[109]⟩ : ByteArray).toList) then some [.l [[.s (gi (gi g13 0).row 0).str, .s (gi (gi g13 0).row 1).str, .s (gi (gi g13 0).row 2).str, .i 4, .s (gi (gi g13 0).row 4).str]], .t true] else (bif ((gi g1 1).str.toList == (⟨#[109, 109]⟩ : ByteArray).toList) then some [.l [[.s (gi (gi g13 0).row 0).str, .s (gi (gi g13 0).row 1).str, .s (gi (gi g13 0).row 2).str, .i 5, .s (gi (gi g13 0).row 4).str]], .t true] else (bif ((gi g1 1).str.toList == (⟨#[97, 109]⟩ : ByteArray).toList) then some [.l [[.s (gi (gi g13 0).row 0).str, .s (gi (gi g13 0).row 1).str, .s (gi (gi g13 0).row 2).str, .i 6, .s (gi (gi g13 0).row 4).str]], .t true] else (bif ((((gi g1 1).str.size : Nat) : Int) == 1) then (callF (F_strings_Contains [.s (⟨#[48, 49, 50, 51, 52, 53, 54, 55, 56, 57]⟩ : ByteArray), .s (gi g1 1).str]) fun g14 => (bif (gi g14 0).bool then some [.l [[.s (gi (gi g13 0).row 0).str, .s (gi (gi g13 0).row 1).str, .s (gi (gi g13 0).row 2).str, .i 2, .s (gi g1 1).str]], .t true] else (callF (F_r1_begin [.s (gi g1 1).str]) fun g15 => (bif (gi g15 0).bool then some [.l [[.s (gi (gi g13 0).row 0).str, .s (gi (gi g13 0).row 1).str, .s (gi (gi g13 0).row 2).str, .i 1, .s (gi g1 1).str]], .t true] else some [.l [[.s (⟨#[]⟩ : ByteArray), .s (⟨#[]⟩ : ByteArray), .s (⟨#[]⟩ : ByteArray), .i 0, .s (⟨#[]⟩ : ByteArray)]], .t false])))) else (callF (F_r1_begin [.s (gi g1 1).str]) fun g16 => (bif (gi g16 0).bool then some [.l [[.s (gi (gi g13 0).row 0).str, .s (gi (gi g13 0).row 1).str, .s (gi (gi g13 0).row 2).str, .i 1, .s (gi g1 1).str]], .t true] else some [.l [[.s (⟨#[]⟩ : ByteArray), .s (⟨#[]⟩ : ByteArray), .s (⟨#[]⟩ : ByteArray), .i 0, .s (⟨#[]⟩ : ByteArray)]], .t false])))))))))))))))
def s_r1_PartsOf : FSpec := ⟨104, [.s (.str)], [], [], [.s (.row KParts), .s (.bool)], [], [], [], F_r1_PartsOf⟩
theorem b_r1_PartsOf : BodyOK P t87 nL0 Tryz.f104 s_r1_PartsOf := fun d => by kernel_rfl
theorem c_r1_PartsOf : COK P s_r1_PartsOf := bdC hm t87_ok Tryz.func104 (nLk _ _ _) b_r1_PartsOf
def t88 : Tab := t87.addP s_r1_PartsOf
theorem t88_ok : TabOK P t88 := t87_ok.aP c_r1_PartsOf

def F_r2_Call (d : List G) : Option (List G) :=
 (callF (F_r1_PartsOf [.s (gi d 0).str]) fun g1 => some [.t (gi g1 1).bool])
def s_r2_Call : FSpec := ⟨53, [.s (.str)], [], [], [.s (.bool)], [], [], [], F_r2_Call⟩
theorem b_r2_Call : BodyOK P t88 nL0 Tryz.f53 s_r2_Call := fun d => by kernel_rfl
theorem c_r2_Call : COK P s_r2_Call := bdC hm t88_ok Tryz.func53 (nLk _ _ _) b_r2_Call
def t89 : Tab := t88.addP s_r2_Call
theorem t89_ok : TabOK P t89 := t88_ok.aP c_r2_Call

def st_r2_SpotsFault_4 (d : List G) : Option (Option Nat × List G) :=
 (bif (ltI (gi d 3).int (gi d 2).int) then (bif ((nnI (gi d 3).int) && (ltI (gi d 3).int (((gi d 1).rows.length : Nat) : Int))) then (callF (F_r2_Moment [.i (gi ((gi d 1).rows.getD (((gi d 3).int).toNat) []) 0).int]) fun g1 => (bif (!(gi g1 0).bool) then some (some 0, [.i 1]) else (callF (F_r2_in [.i (gi ((gi d 1).rows.getD (((gi d 3).int).toNat) []) 1).int, .i 0, .i 30000000000]) fun g2 => (bif (!(gi g2 0).bool) then some (some 0, [.i 1]) else (callF (F_r2_Call [.s (gi ((gi d 1).rows.getD (((gi d 3).int).toNat) []) 2).str]) fun g3 => (bif (!(gi g3 0).bool) then some (some 0, [.i 3]) else (callF (F_r2_Call [.s (gi ((gi d 1).rows.getD (((gi d 3).int).toNat) []) 3).str]) fun g4 => (bif (!(gi g4 0).bool) then some (some 0, [.i 3]) else (bif (ltI 0 (gi d 3).int) then (bif (inI ((gi d 3).int - 1)) then (bif ((nnI ((gi d 3).int - 1)) && (ltI ((gi d 3).int - 1) (((gi d 0).rows.length : Nat) : Int))) then (callF (F_r2_SpotOrder [.l [(gEta KSpot ((gi d 0).rows.getD (((gi d 3).int - 1).toNat) []))], .l [(gEta KSpot ((gi d 1).rows.getD (((gi d 3).int).toNat) []))]]) fun g5 => (bif (leI 0 (gi g5 0).int) then some (some 0, [.i 7]) else (bif (inI ((gi d 3).int + 1)) then some (none, [.l (gi d 0).rows, .l (gi d 1).rows, .i (gi d 2).int, .i ((gi d 3).int + 1)]) else none))) else none) else none) else (bif (inI ((gi d 3).int + 1)) then some (none, [.l (gi d 0).rows, .l (gi d 1).rows, .i (gi d 2).int, .i ((gi d 3).int + 1)]) else none)))))))))) else none) else some (some 1, []))
def l_r2_SpotsFault_4 : LSpec := ⟨4, [], ⟨51, [(0, .s (.list KSpot)), (8, .s (.list KSpot)), (9, .s (.int .i64)), (10, .s (.int .i64))], []⟩, [], [⟨.ret, ⟨51, [(2, .s (.int .i64))], []⟩, []⟩, ⟨.exit 0, ⟨51, [], []⟩, []⟩], st_r2_SpotsFault_4⟩
theorem r_r2_SpotsFault_4 : RoundOK P t89 nL0 0 (loopAt Tryz.f10 4) l_r2_SpotsFault_4 := fun d => by kernel_rfl
def L_r2_SpotsFault_4 : LT := nL0.add 0 l_r2_SpotsFault_4
theorem L_r2_SpotsFault_4_ok : LpK P 0 L_r2_SpotsFault_4 (bodyOf Tryz.f10) := LpK.a hm t89_ok (nLk _ _ _) r_r2_SpotsFault_4
def F_r2_SpotsFault (d : List G) : Option (List G) :=
 (bif (ltI 2000 (((gi d 0).rows.length : Nat) : Int)) then some [.i 2] else (loopB true (LRun st_r2_SpotsFault_4 [.l (gi d 0).rows, .l (gi d 0).rows, .i (((gi d 0).rows.length : Nat) : Int), .i 0]) fun cg6 g6 => (bif Nat.beq cg6 0 then some [.i (gi g6 0).int] else some [.i 0])))
def s_r2_SpotsFault : FSpec := ⟨10, [.s (.list KSpot)], [], [], [.s (.int .i64)], [], [], [], F_r2_SpotsFault⟩
theorem b_r2_SpotsFault : BodyOK P t89 L_r2_SpotsFault_4 Tryz.f10 s_r2_SpotsFault := fun d => by kernel_rfl
theorem c_r2_SpotsFault : COK P s_r2_SpotsFault := bdC hm t89_ok Tryz.func10 L_r2_SpotsFault_4_ok b_r2_SpotsFault
def t90 : Tab := t89.addP s_r2_SpotsFault
theorem t90_ok : TabOK P t90 := t89_ok.aP c_r2_SpotsFault

def st_mk_RightSpots_2 (d : List G) : Option (Option Nat × List G) :=
 (bif (ltI (gi d 3).int 5) then (callF (F_mk_Spots [.l (gi d 0).rows, .i (gi d 1).int, .i (gi d 2).int]) fun g1 => (callF (F_r2_SpotsFault [.l (gi g1 2).rows]) fun g2 => (bif ((gi g2 0).int == 0) then some (some 0, [.l (gi g1 0).rows, .i (gi g1 1).int, .l (gi g1 2).rows]) else (bif (inI ((gi d 3).int + 1)) then some (none, [.l (gi g1 0).rows, .i (gi g1 1).int, .i (gi d 2).int, .i ((gi d 3).int + 1)]) else none)))) else some (some 1, [.l (gi d 0).rows, .i (gi d 1).int]))
def l_mk_RightSpots_2 : LSpec := ⟨2, [], ⟨16, [(0, .s (.ptr 0 0)), (1, .s (.int .i64)), (6, .s (.int .i64))], [.box [.list [.int .i64], .int .i64]]⟩, [.fix 0], [⟨.ret, ⟨16, [(4, .s (.list KSpot))], [.box [.list [.int .i64], .int .i64]]⟩, [.fix 0]⟩, ⟨.exit 0, ⟨16, [], [.box [.list [.int .i64], .int .i64]]⟩, [.fix 0]⟩], st_mk_RightSpots_2⟩
theorem r_mk_RightSpots_2 : RoundOK P t90 nL0 1 (loopAt Tryz.f43 2) l_mk_RightSpots_2 := fun d => by kernel_rfl
def L_mk_RightSpots_2 : LT := nL0.add 1 l_mk_RightSpots_2
theorem L_mk_RightSpots_2_ok : LpK P 1 L_mk_RightSpots_2 (bodyOf Tryz.f43) := LpK.a hm t90_ok (nLk _ _ _) r_mk_RightSpots_2
def F_mk_RightSpots (d : List G) : Option (List G) :=
 (loopB true (LRun st_mk_RightSpots_2 [.l (gi d 0).rows, .i (gi d 1).int, .i (gi d 2).int, .i 0]) fun cg3 g3 => (bif Nat.beq cg3 0 then some [.l (gi g3 0).rows, .i (gi g3 1).int, .l (gi g3 2).rows] else some [.l (gi g3 0).rows, .i (gi g3 1).int, .l []]))
def s_mk_RightSpots : FSpec := ⟨43, [.s (.ptr 0 0), .s (.int .i64)], [.box [.list [.int .i64], .int .i64]], [.slot 0], [.s (.list KSpot)], [.box [.list [.int .i64], .int .i64]], [.fix 0], [], F_mk_RightSpots⟩
theorem b_mk_RightSpots : BodyOK P t90 L_mk_RightSpots_2 Tryz.f43 s_mk_RightSpots := fun d => by kernel_rfl
theorem c_mk_RightSpots : COK P s_mk_RightSpots := bdC hm t90_ok Tryz.func43 L_mk_RightSpots_2_ok b_mk_RightSpots
def t91 : Tab := t90.addW s_mk_RightSpots
theorem t91_ok : TabOK P t91 := t90_ok.aW c_mk_RightSpots

def F_strings_Join (d : List G) : Option (List G) :=
 joinF d
def s_strings_Join : FSpec := ⟨86, [.s (.list [.str]), .s (.str)], [], [], [.s (.str)], [], [], [], F_strings_Join⟩
theorem c_strings_Join : ∀ d r, F_strings_Join d = some r → ACallX P 86 (s_strings_Join.args0 d) (denH (s_strings_Join.H0 d)) (s_strings_Join.out r) (denH (s_strings_Join.H1 r)) := fun d r h => join_call rfl Tryz.laysJoin Tryz.laysJoin_x d r h
def t92 : Tab := t91.addP s_strings_Join
theorem t92_ok : TabOK P t92 := t91_ok.aP c_strings_Join

def st_r2_Numbers_3 (d : List G) : Option (Option Nat × List G) :=
 (bif (ltI (gi d 3).int (gi d 2).int) then (bif ((nnI (gi d 3).int) && (ltI (gi d 3).int (((gi d 1).rows.length : Nat) : Int))) then (callF (F_strconv_Itoa [.i (gi ((gi d 1).rows.getD (((gi d 3).int).toNat) []) 0).int]) fun g1 => (bif ((Nat.beq (gi d 0).rows.length (gi d 0).rows.length) && (decide (((gi d 0).rows.length + 1) ≤ 1048576))) then (bif (inI ((gi d 3).int + 1)) then (bif ((Nat.beq ((gi d 0).rows ++ ([[.s (gi g1 0).str]] : List (List G))).length ((gi d 0).rows ++ ([[.s (gi g1 0).str]] : List (List G))).length) && true) then some (none, [.l ((gi d 0).rows ++ ([[.s (gi g1 0).str]] : List (List G))), .l (gi d 1).rows, .i (gi d 2).int, .i ((gi d 3).int + 1)]) else none) else none) else none)) else none) else (bif ((Nat.beq (gi d 0).rows.length (gi d 0).rows.length) && true) then some (some 0, [.l (gi d 0).rows]) else none))
def l_r2_Numbers_3 : LSpec := ⟨3, [(3, [.str])], ⟨20, [(3, .s (.vec 0 1)), (6, .s (.list [.int .i64])), (7, .s (.int .i64)), (8, .s (.int .i64))], [.vec [.str] 0]⟩, [.slot 3], [⟨.exit 0, ⟨20, [(3, .s (.vec 0 1))], [.vec [.str] 0]⟩, [.slot 3]⟩], st_r2_Numbers_3⟩
theorem r_r2_Numbers_3 : RoundOK P (t92.lessPf [86]) nL0 0 (loopAt Tryz.f54 3) l_r2_Numbers_3 := fun d => by kernel_rfl
def L_r2_Numbers_3 : LT := nL0.add 0 l_r2_Numbers_3
theorem L_r2_Numbers_3_ok : LpK P 0 L_r2_Numbers_3 (bodyOf Tryz.f54) := LpK.add hm (t92_ok.lessPf [86]) (by kernel_rfl) (nLk _ _ _) r_r2_Numbers_3
def F_r2_Numbers (d : List G) : Option (List G) :=
 (loopB true (LRun st_r2_Numbers_3 [.l [], .l (gi d 0).rows, .i (((gi d 0).rows.length : Nat) : Int), .i 0]) fun cg2 g2 => (callB (((Nat.beq (gi g2 0).rows.length (gi g2 0).rows.length) && true) && (F_strings_Join [.l (gi g2 0).rows, .s (⟨#[32]⟩ : ByteArray)]).isSome) (F_strings_Join [.l (gi g2 0).rows, .s (⟨#[32]⟩ : ByteArray)]) fun g3 => some [.s (gi g3 0).str]))
def s_r2_Numbers : FSpec := ⟨54, [.s (.list [.int .i64])], [], [], [.s (.str)], [], [], [], F_r2_Numbers⟩
theorem b_r2_Numbers : BodyOK P (t92.lessPf [86]) L_r2_Numbers_3 Tryz.f54 s_r2_Numbers := fun d => by kernel_rfl
theorem c_r2_Numbers : COK P s_r2_Numbers := bodyC hm (t92_ok.lessPf [86]) Tryz.func54 (by kernel_rfl) L_r2_Numbers_3_ok b_r2_Numbers (by kernel_rfl)
def t93 : Tab := t92.addP s_r2_Numbers
theorem t93_ok : TabOK P t93 := t92_ok.aP c_r2_Numbers

def st_r2_SpotLines_3 (d : List G) : Option (Option Nat × List G) :=
 (bif (ltI (gi d 3).int (gi d 2).int) then (bif ((nnI (gi d 3).int) && (ltI (gi d 3).int (((gi d 1).rows.length : Nat) : Int))) then (callF (F_r2_Numbers [.l [[.i (gi ((gi d 1).rows.getD (((gi d 3).int).toNat) []) 0).int], [.i (gi ((gi d 1).rows.getD (((gi d 3).int).toNat) []) 1).int]]]) fun g1 => (bif (Nat.ble ((gi g1 0).str.size + 1) 9223372036854775807) then (bif (Nat.ble (((gi g1 0).str ++ (⟨#[32]⟩ : ByteArray)).size + (gi ((gi d 1).rows.getD (((gi d 3).int).toNat) []) 2).str.size) 9223372036854775807) then (bif (Nat.ble ((((gi g1 0).str ++ (⟨#[32]⟩ : ByteArray)) ++ (gi ((gi d 1).rows.getD (((gi d 3).int).toNat) []) 2).str).size + 1) 9223372036854775807) then (bif (Nat.ble (((((gi g1 0).str ++ (⟨#[32]⟩ : ByteArray)) ++ (gi ((gi d 1).rows.getD (((gi d 3).int).toNat) []) 2).str) ++ (⟨#[32]⟩ : ByteArray)).size + (gi ((gi d 1).rows.getD (((gi d 3).int).toNat) []) 3).str.size) 9223372036854775807) then (bif (Nat.ble ((((((gi g1 0).str ++ (⟨#[32]⟩ : ByteArray)) ++ (gi ((gi d 1).rows.getD (((gi d 3).int).toNat) []) 2).str) ++ (⟨#[32]⟩ : ByteArray)) ++ (gi ((gi d 1).rows.getD (((gi d 3).int).toNat) []) 3).str).size + 1) 9223372036854775807) then (bif (Nat.ble ((gi d 0).str.size + ((((((gi g1 0).str ++ (⟨#[32]⟩ : ByteArray)) ++ (gi ((gi d 1).rows.getD (((gi d 3).int).toNat) []) 2).str) ++ (⟨#[32]⟩ : ByteArray)) ++ (gi ((gi d 1).rows.getD (((gi d 3).int).toNat) []) 3).str) ++ (⟨#[10]⟩ : ByteArray)).size) 9223372036854775807) then (bif (inI ((gi d 3).int + 1)) then some (none, [.s ((gi d 0).str ++ ((((((gi g1 0).str ++ (⟨#[32]⟩ : ByteArray)) ++ (gi ((gi d 1).rows.getD (((gi d 3).int).toNat) []) 2).str) ++ (⟨#[32]⟩ : ByteArray)) ++ (gi ((gi d 1).rows.getD (((gi d 3).int).toNat) []) 3).str) ++ (⟨#[10]⟩ : ByteArray))), .l (gi d 1).rows, .i (gi d 2).int, .i ((gi d 3).int + 1)]) else none) else none) else none) else none) else none) else none) else none)) else none) else some (some 0, [.s (gi d 0).str]))
def l_r2_SpotLines_3 : LSpec := ⟨3, [], ⟨31, [(3, .s (.str)), (6, .s (.list KSpot)), (7, .s (.int .i64)), (8, .s (.int .i64))], []⟩, [], [⟨.exit 0, ⟨31, [(3, .s (.str))], []⟩, []⟩], st_r2_SpotLines_3⟩
theorem r_r2_SpotLines_3 : RoundOK P t93 nL0 0 (loopAt Tryz.f11 3) l_r2_SpotLines_3 := fun d => by kernel_rfl
def L_r2_SpotLines_3 : LT := nL0.add 0 l_r2_SpotLines_3
theorem L_r2_SpotLines_3_ok : LpK P 0 L_r2_SpotLines_3 (bodyOf Tryz.f11) := LpK.a hm t93_ok (nLk _ _ _) r_r2_SpotLines_3
def F_r2_SpotLines (d : List G) : Option (List G) :=
 (loopB true (LRun st_r2_SpotLines_3 [.s (⟨#[]⟩ : ByteArray), .l (gi d 0).rows, .i (((gi d 0).rows.length : Nat) : Int), .i 0]) fun cg2 g2 => some [.s (gi g2 0).str])
def s_r2_SpotLines : FSpec := ⟨11, [.s (.list KSpot)], [], [], [.s (.str)], [], [], [], F_r2_SpotLines⟩
theorem b_r2_SpotLines : BodyOK P t93 L_r2_SpotLines_3 Tryz.f11 s_r2_SpotLines := fun d => by kernel_rfl
theorem c_r2_SpotLines : COK P s_r2_SpotLines := bdC hm t93_ok Tryz.func11 L_r2_SpotLines_3_ok b_r2_SpotLines
def t94 : Tab := t93.addP s_r2_SpotLines
theorem t94_ok : TabOK P t94 := t93_ok.aP c_r2_SpotLines

def st_mk_SpotText_3 (d : List G) : Option (Option Nat × List G) :=
 (bif (ltI (gi d 4).int (gi d 3).int) then (callF (F_mk_Changed [.l (gi d 0).rows, .i (gi d 1).int, .s (gi d 2).str, .s (⟨#[32, 10, 48, 45, 57, 107]⟩ : ByteArray)]) fun g5 => (bif (inI ((gi d 4).int + 1)) then some (none, [.l (gi g5 0).rows, .i (gi g5 1).int, .s (gi g5 2).str, .i (gi d 3).int, .i ((gi d 4).int + 1)]) else none)) else some (some 0, [.l (gi d 0).rows, .i (gi d 1).int, .s (gi d 2).str]))
def l_mk_SpotText_3 : LSpec := ⟨3, [], ⟨19, [(0, .s (.ptr 0 0)), (3, .s (.str)), (11, .s (.int .i64)), (12, .s (.int .i64))], [.box [.list [.int .i64], .int .i64]]⟩, [.fix 0], [⟨.exit 0, ⟨19, [(3, .s (.str))], [.box [.list [.int .i64], .int .i64]]⟩, [.fix 0]⟩], st_mk_SpotText_3⟩
theorem r_mk_SpotText_3 : RoundOK P t94 nL0 1 (loopAt Tryz.f8 3) l_mk_SpotText_3 := fun d => by kernel_rfl
def L_mk_SpotText_3 : LT := nL0.add 1 l_mk_SpotText_3
theorem L_mk_SpotText_3_ok : LpK P 1 L_mk_SpotText_3 (bodyOf Tryz.f8) := LpK.a hm t94_ok (nLk _ _ _) r_mk_SpotText_3
def F_mk_SpotText (d : List G) : Option (List G) :=
 (callF (F_mk_Range [.l (gi d 0).rows, .i (gi d 1).int, .i 0, .i 4]) fun g1 => (callF (F_mk_RightSpots [.l (gi g1 0).rows, .i (gi g1 1).int, .i (gi g1 2).int]) fun g2 => (callF (F_r2_SpotLines [.l (gi g2 2).rows]) fun g3 => (callF (F_mk_Pick [.l (gi g2 0).rows, .i (gi g2 1).int, .l [[.i 0], [.i 0], [.i 1], [.i 2]]]) fun g4 => (loopB true (LRun st_mk_SpotText_3 [.l (gi g4 0).rows, .i (gi g4 1).int, .s (gi g3 0).str, .i (gi g4 2).int, .i 0]) fun cg6 g6 => some [.l (gi g6 0).rows, .i (gi g6 1).int, .s (gi g6 2).str])))))
def s_mk_SpotText : FSpec := ⟨8, [.s (.ptr 0 0)], [.box [.list [.int .i64], .int .i64]], [.slot 0], [.s (.str)], [.box [.list [.int .i64], .int .i64]], [.fix 0], [], F_mk_SpotText⟩
theorem b_mk_SpotText : BodyOK P t94 L_mk_SpotText_3 Tryz.f8 s_mk_SpotText := fun d => by kernel_rfl
theorem c_mk_SpotText : COK P s_mk_SpotText := bdC hm t94_ok Tryz.func8 L_mk_SpotText_3_ok b_mk_SpotText
def t95 : Tab := t94.addW s_mk_SpotText
theorem t95_ok : TabOK P t95 := t94_ok.aW c_mk_SpotText

def F_kit_Join (d : List G) : Option (List G) :=
 (callF (F_strings_Join [.l (gi d 0).rows, .s (⟨#[32]⟩ : ByteArray)]) fun g1 => (bif (Nat.ble ((gi g1 0).str.size + 1) 9223372036854775807) then some [.s ((gi g1 0).str ++ (⟨#[10]⟩ : ByteArray))] else none))
def s_kit_Join : FSpec := ⟨47, [.s (.list [.str])], [], [], [.s (.str)], [], [], [], F_kit_Join⟩
theorem b_kit_Join : BodyOK P t95 nL0 Tryz.f47 s_kit_Join := fun d => by kernel_rfl
theorem c_kit_Join : COK P s_kit_Join := bdC hm t95_ok Tryz.func47 (nLk _ _ _) b_kit_Join
def t96 : Tab := t95.addP s_kit_Join
theorem t96_ok : TabOK P t96 := t95_ok.aP c_kit_Join

def F_strings_Builder_WriteString (d : List G) : Option (List G) :=
 bldWF d
def s_strings_Builder_WriteString : FSpec := ⟨46, [.s (.ptr 0 0), .s (.str)], [.bld 0 73 5], [.slot 0], [.s (.int .i64), .s (.any)], [.bld 0 73 5], [.fix 0], [], F_strings_Builder_WriteString⟩
theorem c_strings_Builder_WriteString : ∀ d r, F_strings_Builder_WriteString d = some r → ACallX P 46 (s_strings_Builder_WriteString.args0 d) (denH (s_strings_Builder_WriteString.H0 d)) (s_strings_Builder_WriteString.out r) (denH (s_strings_Builder_WriteString.H1 r)) := fun d r h => bldW_call Tryz.laysBldW Tryz.laysBldW_x rfl d r h
def t97 : Tab := t96.addW s_strings_Builder_WriteString
theorem t97_ok : TabOK P t97 := t96_ok.aW c_strings_Builder_WriteString

def F_strings_Builder_Len (d : List G) : Option (List G) :=
 bldLF d
def s_strings_Builder_Len : FSpec := ⟨49, [.s (.ptr 0 0)], [.bld 0 73 5], [.slot 0], [.s (.int .i64)], [.bld 0 73 5], [.fix 0], [], F_strings_Builder_Len⟩
theorem c_strings_Builder_Len : ∀ d r, F_strings_Builder_Len d = some r → ACallX P 49 (s_strings_Builder_Len.args0 d) (denH (s_strings_Builder_Len.H0 d)) (s_strings_Builder_Len.out r) (denH (s_strings_Builder_Len.H1 r)) := fun d r h => bldL_call Tryz.laysBldL rfl d r h
def t98 : Tab := t97.addW s_strings_Builder_Len
theorem t98_ok : TabOK P t98 := t97_ok.aW c_strings_Builder_Len

def F_strings_Builder_String (d : List G) : Option (List G) :=
 bldSF d
def s_strings_Builder_String : FSpec := ⟨50, [.s (.ptr 0 0)], [.bld 0 73 5], [.slot 0], [.s (.str)], [.bld 0 73 5], [.fix 0], [], F_strings_Builder_String⟩
theorem c_strings_Builder_String : ∀ d r, F_strings_Builder_String d = some r → ACallX P 50 (s_strings_Builder_String.args0 d) (denH (s_strings_Builder_String.H0 d)) (s_strings_Builder_String.out r) (denH (s_strings_Builder_String.H1 r)) := fun d r h => bldS_call Tryz.laysBldS Tryz.laysBldS_x rfl d r h
def t99 : Tab := t98.addW s_strings_Builder_String
theorem t99_ok : TabOK P t99 := t98_ok.aW c_strings_Builder_String

def st_band_Text_6 (d : List G) : Option (Option Nat × List G) :=
 (bif (ltI (gi d 3).int (gi d 2).int) then (bif ((nnI (gi d 3).int) && (ltI (gi d 3).int (((gi d 1).rows.length : Nat) : Int))) then (callF (F_strconv_Itoa [.i (gi ((gi d 1).rows.getD (((gi d 3).int).toNat) []) 0).int]) fun g2 => (callF (F_strconv_Itoa [.i (gi ((gi d 1).rows.getD (((gi d 3).int).toNat) []) 1).int]) fun g3 => (callF (F_kit_Join [.l [[.s (gi g2 0).str], [.s (gi g3 0).str], [.s (gi ((gi d 1).rows.getD (((gi d 3).int).toNat) []) 2).str], [.s (gi ((gi d 1).rows.getD (((gi d 3).int).toNat) []) 3).str]]]) fun g4 => (callF (F_strings_Builder_WriteString [.s (gi d 0).str, .s (gi g4 0).str]) fun g5 => (bif (inI ((gi d 3).int + 1)) then some (none, [.s (gi g5 0).str, .l (gi d 1).rows, .i (gi d 2).int, .i ((gi d 3).int + 1)]) else none))))) else none) else some (some 0, [.s (gi d 0).str]))
def l_band_Text_6 : LSpec := ⟨6, [], ⟨36, [(5, .s (.ptr 0 0)), (13, .s (.list KSpot)), (14, .s (.int .i64)), (15, .s (.int .i64))], [.bld 0 73 5]⟩, [.slot 5], [⟨.exit 0, ⟨36, [(5, .s (.ptr 0 0))], [.bld 0 73 5]⟩, [.slot 5]⟩], st_band_Text_6⟩
theorem r_band_Text_6 : RoundOK P t99 nL0 0 (loopAt Tryz.f9 6) l_band_Text_6 := fun d => by kernel_rfl
def L_band_Text_6 : LT := nL0.add 0 l_band_Text_6
theorem L_band_Text_6_ok : LpK P 0 L_band_Text_6 (bodyOf Tryz.f9) := LpK.a hm t99_ok (nLk _ _ _) r_band_Text_6
def F_band_Text (d : List G) : Option (List G) :=
 (callF (F_band_CheckSpots [.l (gi d 0).rows]) fun g1 => (bif ((gi g1 0).int != 0) then some [.s (⟨#[]⟩ : ByteArray), .i (gi g1 0).int] else (loopB true (LRun st_band_Text_6 [.s (⟨#[]⟩ : ByteArray), .l (gi d 0).rows, .i (((gi d 0).rows.length : Nat) : Int), .i 0]) fun cg6 g6 => (callF (F_strings_Builder_Len [.s (gi g6 0).str]) fun g7 => (bif (ltI 200000 (gi g7 1).int) then some [.s (⟨#[]⟩ : ByteArray), .i 2] else (callF (F_strings_Builder_String [.s (gi g7 0).str]) fun g8 => some [.s (gi g8 1).str, .i 0]))))))
def s_band_Text : FSpec := ⟨9, [.s (.list KSpot)], [], [], [.s (.str), .s (.int .i64)], [], [], [], F_band_Text⟩
theorem b_band_Text : BodyOK P t99 L_band_Text_6 Tryz.f9 s_band_Text := fun d => by kernel_rfl
theorem c_band_Text : COK P s_band_Text := bdC hm t99_ok Tryz.func9 L_band_Text_6_ok b_band_Text
def t100 : Tab := t99.addP s_band_Text
theorem t100_ok : TabOK P t100 := t99_ok.aP c_band_Text

def F_r2_SpotsRead (d : List G) : Option (List G) :=
 (bif (ltI 200000 (((gi d 0).str.size : Nat) : Int)) then some [.l [], .i 0, .i 2] else (callF (F_r2_Lines [.l [], .s (gi d 0).str]) fun g1 => (bif (!(gi g1 2).bool) then some [.l [], .i (gi g1 1).int, .i 9] else (callB (((Nat.beq (gi g1 0).rows.length (gi g1 0).rows.length) && true) && (F_r2_SpotsFault [.l (gi g1 0).rows]).isSome) (F_r2_SpotsFault [.l (gi g1 0).rows]) fun g2 => (bif ((gi g2 0).int != 0) then some [.l [], .i 0, .i (gi g2 0).int] else (bif ((Nat.beq (gi g1 0).rows.length (gi g1 0).rows.length) && true) then some [.l (gi g1 0).rows, .i 0, .i 0] else none))))))
def s_r2_SpotsRead : FSpec := ⟨13, [.s (.str)], [], [], [.s (.list KSpot), .s (.int .i64), .s (.int .i64)], [], [], [], F_r2_SpotsRead⟩
theorem b_r2_SpotsRead : BodyOK P (t100.lessPf [10]) (nL0.hinted [(4, [.openCell 5 0 KSpot])]) Tryz.f13 s_r2_SpotsRead := fun d => by kernel_rfl
theorem c_r2_SpotsRead : COK P s_r2_SpotsRead := bodyC hm (t100_ok.lessPf [10]) Tryz.func13 (by kernel_rfl) (hinted_ok _) b_r2_SpotsRead (by kernel_rfl)
def t101 : Tab := t100.addP s_r2_SpotsRead
theorem t101_ok : TabOK P t101 := t100_ok.aP c_r2_SpotsRead

def F_l2_SpotTexts (d : List G) : Option (List G) :=
 (callF (F_mk_Range [.l (gi d 0).rows, .i 0, .i 0, .i 6]) fun g1 => (callF (F_mk_Spots [.l (gi g1 0).rows, .i (gi g1 1).int, .i (gi g1 2).int]) fun g2 => (callF (F_mk_SpotText [.l (gi g2 0).rows, .i (gi g2 1).int]) fun g3 => (callF (F_band_Text [.l (gi g2 2).rows]) fun g4 => (callF (F_r2_SpotsFault [.l (gi g2 2).rows]) fun g5 => (bif ((gi g5 0).int == 0) then (callF (F_r2_SpotLines [.l (gi g2 2).rows]) fun g6 => (callF (F_band_Read [.s (gi g3 2).str]) fun g7 => (callF (F_r2_SpotsRead [.s (gi g3 2).str]) fun g8 => (bif ((gi g4 1).int == (gi g5 0).int) then (bif ((gi g4 0).str.toList == (gi g6 0).str.toList) then (callF (F_sl_Equal_Spot [.l (gi g7 0).rows, .l (gi g8 0).rows]) fun g9 => (bif (gi g9 0).bool then (bif ((gi g7 1).int == (gi g8 1).int) then (bif ((gi g7 2).int == (gi g8 2).int) then (callF (F_l2_banded []) fun g10 => some [.t (gi g10 0).bool]) else some [.t false]) else some [.t false]) else some [.t false])) else some [.t false]) else some [.t false])))) else (callF (F_band_Read [.s (gi g3 2).str]) fun g11 => (callF (F_r2_SpotsRead [.s (gi g3 2).str]) fun g12 => (bif ((gi g4 1).int == (gi g5 0).int) then (bif ((gi g4 0).str.toList == (⟨#[]⟩ : ByteArray).toList) then (callF (F_sl_Equal_Spot [.l (gi g11 0).rows, .l (gi g12 0).rows]) fun g13 => (bif (gi g13 0).bool then (bif ((gi g11 1).int == (gi g12 1).int) then (bif ((gi g11 2).int == (gi g12 2).int) then (callF (F_l2_banded []) fun g14 => some [.t (gi g14 0).bool]) else some [.t false]) else some [.t false]) else some [.t false])) else some [.t false]) else some [.t false])))))))))
def s_l2_SpotTexts : FSpec := ⟨3, [.s (.list [.int .i64])], [], [], [.s (.bool)], [], [], [], F_l2_SpotTexts⟩
theorem b_l2_SpotTexts : BodyOK P t101 nL0 Tryz.f3 s_l2_SpotTexts := fun d => by kernel_rfl
theorem c_l2_SpotTexts : COK P s_l2_SpotTexts := bdC hm t101_ok Tryz.func3 (nLk _ _ _) b_l2_SpotTexts
def t102 : Tab := t101.addP s_l2_SpotTexts
theorem t102_ok : TabOK P t102 := t101_ok.aP c_l2_SpotTexts

end
end Go.Proofs.SYtmohppjkkpaaoaaGreatDoor
