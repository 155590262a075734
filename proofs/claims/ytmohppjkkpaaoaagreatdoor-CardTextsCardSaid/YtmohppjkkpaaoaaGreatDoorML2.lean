/-
 What is proved here: functions of the program as functions on data. No condition.
-/
import Derived.Test.YtmohppjkkpaaoaaGreatDoorML1
set_option linter.all false
namespace Go.Proofs.SYtmohppjkkpaaoaaGreatDoor
open Go Go.AL Go.Proofs
noncomputable section
def u0_l2_banded : Tab := t5.inline P 99 Tryz.f99 []
theorem u0_l2_banded_ok : TabOK P u0_l2_banded := t5_ok.inline hm Tryz.func99 (by kernel_rfl) []
def u1_l2_banded : Tab := u0_l2_banded.inline P 98 Tryz.f98 []
theorem u1_l2_banded_ok : TabOK P u1_l2_banded := u0_l2_banded_ok.inline hm Tryz.func98 (by kernel_rfl) []
def u2_l2_banded : Tab := u1_l2_banded.inline P 111 Tryz.f111 []
theorem u2_l2_banded_ok : TabOK P u2_l2_banded := u1_l2_banded_ok.inline hm Tryz.func111 (by kernel_rfl) []
def u3_l2_banded : Tab := u2_l2_banded.inline P 153 Tryz.f153 []
theorem u3_l2_banded_ok : TabOK P u3_l2_banded := u2_l2_banded_ok.inline hm Tryz.func153 (by kernel_rfl) []
def u4_l2_banded : Tab := u3_l2_banded.inline P 112 Tryz.f112 []
theorem u4_l2_banded_ok : TabOK P u4_l2_banded := u3_l2_banded_ok.inline hm Tryz.func112 (by kernel_rfl) []
def u5_l2_banded : Tab := u4_l2_banded.inline P 158 Tryz.f158 []
theorem u5_l2_banded_ok : TabOK P u5_l2_banded := u4_l2_banded_ok.inline hm Tryz.func158 (by kernel_rfl) []
def u6_l2_banded : Tab := u5_l2_banded.inline P 152 Tryz.f152 []
theorem u6_l2_banded_ok : TabOK P u6_l2_banded := u5_l2_banded_ok.inline hm Tryz.func152 (by kernel_rfl) []
def u7_l2_banded : Tab := u6_l2_banded.inline P 110 Tryz.f110 []
theorem u7_l2_banded_ok : TabOK P u7_l2_banded := u6_l2_banded_ok.inline hm Tryz.func110 (by kernel_rfl) []
def u8_l2_banded : Tab := u7_l2_banded.inline P 113 Tryz.f113 []
theorem u8_l2_banded_ok : TabOK P u8_l2_banded := u7_l2_banded_ok.inline hm Tryz.func113 (by kernel_rfl) []
def u9_l2_banded : Tab := u8_l2_banded.inline P 202 Tryz.f202 []
theorem u9_l2_banded_ok : TabOK P u9_l2_banded := u8_l2_banded_ok.inline hm Tryz.func202 (by kernel_rfl) []
def u10_l2_banded : Tab := u9_l2_banded.inline P 157 Tryz.f157 []
theorem u10_l2_banded_ok : TabOK P u10_l2_banded := u9_l2_banded_ok.inline hm Tryz.func157 (by kernel_rfl) []
def u11_l2_banded : Tab := u10_l2_banded.inline P 223 Tryz.f223 []
theorem u11_l2_banded_ok : TabOK P u11_l2_banded := u10_l2_banded_ok.inline hm Tryz.func223 (by kernel_rfl) []
def u12_l2_banded : Tab := u11_l2_banded.inline P 217 Tryz.f217 []
theorem u12_l2_banded_ok : TabOK P u12_l2_banded := u11_l2_banded_ok.inline hm Tryz.func217 (by kernel_rfl) []
def u13_l2_banded : Tab := u12_l2_banded.inlineW P 262 Tryz.f262
theorem u13_l2_banded_ok : TabOK P u13_l2_banded := u12_l2_banded_ok.inlineW hm Tryz.func262 (by kernel_rfl) (by kernel_rfl)
def u14_l2_banded : Tab := u13_l2_banded.inlineW P 240 Tryz.f240
theorem u14_l2_banded_ok : TabOK P u14_l2_banded := u13_l2_banded_ok.inlineW hm Tryz.func240 (by kernel_rfl) (by kernel_rfl)
def u15_l2_banded : Tab := u14_l2_banded.inlineW P 203 Tryz.f203
theorem u15_l2_banded_ok : TabOK P u15_l2_banded := u14_l2_banded_ok.inlineW hm Tryz.func203 (by kernel_rfl) (by kernel_rfl)
def u16_l2_banded : Tab := u15_l2_banded.inlineW P 159 Tryz.f159
theorem u16_l2_banded_ok : TabOK P u16_l2_banded := u15_l2_banded_ok.inlineW hm Tryz.func159 (by kernel_rfl) (by kernel_rfl)
def u17_l2_banded : Tab := u16_l2_banded.inlineW P 115 Tryz.f115
theorem u17_l2_banded_ok : TabOK P u17_l2_banded := u16_l2_banded_ok.inlineW hm Tryz.func115 (by kernel_rfl) (by kernel_rfl)
def u18_l2_banded : Tab := u17_l2_banded.inlineW P 116 Tryz.f116
theorem u18_l2_banded_ok : TabOK P u18_l2_banded := u17_l2_banded_ok.inlineW hm Tryz.func116 (by kernel_rfl) (by kernel_rfl)
def u19_l2_banded : Tab := u18_l2_banded.inlineW P 156 Tryz.f156
theorem u19_l2_banded_ok : TabOK P u19_l2_banded := u18_l2_banded_ok.inlineW hm Tryz.func156 (by kernel_rfl) (by kernel_rfl)
def u20_l2_banded : Tab := u19_l2_banded.inlineW P 114 Tryz.f114
theorem u20_l2_banded_ok : TabOK P u20_l2_banded := u19_l2_banded_ok.inlineW hm Tryz.func114 (by kernel_rfl) (by kernel_rfl)
def u21_l2_banded : Tab := u20_l2_banded.inline P 62 Tryz.f62 []
theorem u21_l2_banded_ok : TabOK P u21_l2_banded := u20_l2_banded_ok.inline hm Tryz.func62 (by kernel_rfl) []
theorem q_l2_banded : PCall P 15 [] (.lit (.bool true)) := fn_pure (L := nL0) hm u21_l2_banded_ok [] (fun _ _ => nLk _ _ _) Tryz.func15 rfl (by kernel_rfl) (by kernel_rfl)
def F_l2_banded (_ : List G) : Option (List G) := some [.t true]
def s_l2_banded : FSpec := ⟨15, [], [], [], [.s (.bool)], [], [], [], F_l2_banded⟩
theorem c_l2_banded : ∀ d r, F_l2_banded d = some r → ACallX P 15 (s_l2_banded.args0 d) (denH (s_l2_banded.H0 d)) (s_l2_banded.out r) (denH (s_l2_banded.H1 r)) := fun d r h => by
 cases (show some [G.t true] = some r from h)
 exact q_l2_banded []
def t6 : Tab := t5.addP s_l2_banded
theorem t6_ok : TabOK P t6 := t5_ok.aP c_l2_banded


def F_pilemake_Below (d : List G) : Option (List G) :=
 (bif (ltI (gi d 1).int 1) then some [.i 0] else (bif (!((gi d 1).int == 0)) then (bif (ltI (Int.tmod (gi d 0).int (gi d 1).int) 0) then (bif (inI ((Int.tmod (gi d 0).int (gi d 1).int) + (gi d 1).int)) then some [.i ((Int.tmod (gi d 0).int (gi d 1).int) + (gi d 1).int)] else none) else some [.i (Int.tmod (gi d 0).int (gi d 1).int)]) else none))
def s_pilemake_Below : FSpec := ⟨97, [.s (.int .i64), .s (.int .i64)], [], [], [.s (.int .i64)], [], [], [], F_pilemake_Below⟩
theorem b_pilemake_Below : BodyOK P t6 nL0 Tryz.f97 s_pilemake_Below := fun d => by kernel_rfl
theorem c_pilemake_Below : COK P s_pilemake_Below := bdC hm t6_ok Tryz.func97 (nLk _ _ _) b_pilemake_Below
def t7 : Tab := t6.addP s_pilemake_Below
theorem t7_ok : TabOK P t7 := t6_ok.aP c_pilemake_Below

def F_mk_Next (d : List G) : Option (List G) :=
 (bif (inI ((gi d 1).int + 1)) then (bif ((((gi d 0).rows.length : Nat) : Int) == 0) then (bif (inI (((gi d 1).int + 1) * 7919)) then (callF (F_pilemake_Below [.i (((gi d 1).int + 1) * 7919), .i (gi d 2).int]) fun g1 => some [.l (gi d 0).rows, .i ((gi d 1).int + 1), .i (gi g1 0).int]) else none) else (bif (inI (((gi d 1).int + 1) - 1)) then (bif (!((((gi d 0).rows.length : Nat) : Int) == 0)) then (bif (inI (((gi d 1).int + 1) - 1)) then (bif ((!((((gi d 0).rows.length : Nat) : Int) == 0)) && (inI (Int.tdiv (((gi d 1).int + 1) - 1) (((gi d 0).rows.length : Nat) : Int)))) then (bif ((nnI (Int.tmod (((gi d 1).int + 1) - 1) (((gi d 0).rows.length : Nat) : Int))) && (ltI (Int.tmod (((gi d 1).int + 1) - 1) (((gi d 0).rows.length : Nat) : Int)) (((gi d 0).rows.length : Nat) : Int))) then (callF (F_pilemake_Below [.i (gi ((gi d 0).rows.getD ((Int.tmod (((gi d 1).int + 1) - 1) (((gi d 0).rows.length : Nat) : Int)).toNat) []) 0).int, .i 1073741824]) fun g2 => (bif (inI (7919 + (Int.tmod (((gi d 1).int + 1) - 1) (((gi d 0).rows.length : Nat) : Int)))) then (bif (inI ((Int.tdiv (((gi d 1).int + 1) - 1) (((gi d 0).rows.length : Nat) : Int)) * (7919 + (Int.tmod (((gi d 1).int + 1) - 1) (((gi d 0).rows.length : Nat) : Int))))) then (bif (inI ((gi g2 0).int + ((Int.tdiv (((gi d 1).int + 1) - 1) (((gi d 0).rows.length : Nat) : Int)) * (7919 + (Int.tmod (((gi d 1).int + 1) - 1) (((gi d 0).rows.length : Nat) : Int)))))) then (callF (F_pilemake_Below [.i ((gi g2 0).int + ((Int.tdiv (((gi d 1).int + 1) - 1) (((gi d 0).rows.length : Nat) : Int)) * (7919 + (Int.tmod (((gi d 1).int + 1) - 1) (((gi d 0).rows.length : Nat) : Int))))), .i (gi d 2).int]) fun g3 => some [.l (gi d 0).rows, .i ((gi d 1).int + 1), .i (gi g3 0).int]) else none) else none) else none)) else none) else none) else none) else none) else none)) else none)
def s_mk_Next : FSpec := ⟨42, [.s (.ptr 0 0), .s (.int .i64)], [.box [.list [.int .i64], .int .i64]], [.slot 0], [.s (.int .i64)], [.box [.list [.int .i64], .int .i64]], [.fix 0], [], F_mk_Next⟩
theorem b_mk_Next : BodyOK P t7 nL0 Tryz.f42 s_mk_Next := fun d => by kernel_rfl
theorem c_mk_Next : COK P s_mk_Next := bdC hm t7_ok Tryz.func42 (nLk _ _ _) b_mk_Next
def t8 : Tab := t7.addW s_mk_Next
theorem t8_ok : TabOK P t8 := t7_ok.aW c_mk_Next

def F_mk_Range (d : List G) : Option (List G) :=
 (bif (ltI (gi d 3).int (gi d 2).int) then some [.l (gi d 0).rows, .i (gi d 1).int, .i (gi d 2).int] else (bif (inI ((gi d 3).int - (gi d 2).int)) then (bif (inI (((gi d 3).int - (gi d 2).int) + 1)) then (callF (F_mk_Next [.l (gi d 0).rows, .i (gi d 1).int, .i (((gi d 3).int - (gi d 2).int) + 1)]) fun g1 => (bif (inI ((gi d 2).int + (gi g1 2).int)) then some [.l (gi g1 0).rows, .i (gi g1 1).int, .i ((gi d 2).int + (gi g1 2).int)] else none)) else none) else none))
def s_mk_Range : FSpec := ⟨7, [.s (.ptr 0 0), .s (.int .i64), .s (.int .i64)], [.box [.list [.int .i64], .int .i64]], [.slot 0], [.s (.int .i64)], [.box [.list [.int .i64], .int .i64]], [.fix 0], [], F_mk_Range⟩
theorem b_mk_Range : BodyOK P t8 nL0 Tryz.f7 s_mk_Range := fun d => by kernel_rfl
theorem c_mk_Range : COK P s_mk_Range := bdC hm t8_ok Tryz.func7 (nLk _ _ _) b_mk_Range
def t9 : Tab := t8.addW s_mk_Range
theorem t9_ok : TabOK P t9 := t8_ok.aW c_mk_Range

def F_mk_Pick (d : List G) : Option (List G) :=
 (callF (F_mk_Next [.l (gi d 0).rows, .i (gi d 1).int, .i (((gi d 2).rows.length : Nat) : Int)]) fun g1 => (bif ((nnI (gi g1 2).int) && (ltI (gi g1 2).int (((gi d 2).rows.length : Nat) : Int))) then some [.l (gi g1 0).rows, .i (gi g1 1).int, .i (gi ((gi d 2).rows.getD (((gi g1 2).int).toNat) []) 0).int] else none))
def s_mk_Pick : FSpec := ⟨34, [.s (.ptr 0 0), .s (.list [.int .i64])], [.box [.list [.int .i64], .int .i64]], [.slot 0], [.s (.int .i64)], [.box [.list [.int .i64], .int .i64]], [.fix 0], [], F_mk_Pick⟩
theorem b_mk_Pick : BodyOK P t9 nL0 Tryz.f34 s_mk_Pick := fun d => by kernel_rfl
theorem c_mk_Pick : COK P s_mk_Pick := bdC hm t9_ok Tryz.func34 (nLk _ _ _) b_mk_Pick
def t10 : Tab := t9.addW s_mk_Pick
theorem t10_ok : TabOK P t10 := t9_ok.aW c_mk_Pick

def F_mk_Flip (d : List G) : Option (List G) :=
 (callF (F_mk_Next [.l (gi d 0).rows, .i (gi d 1).int, .i (gi d 2).int]) fun g1 => some [.l (gi g1 0).rows, .i (gi g1 1).int, .t ((gi g1 2).int == 0)])
def s_mk_Flip : FSpec := ⟨37, [.s (.ptr 0 0), .s (.int .i64)], [.box [.list [.int .i64], .int .i64]], [.slot 0], [.s (.bool)], [.box [.list [.int .i64], .int .i64]], [.fix 0], [], F_mk_Flip⟩
theorem b_mk_Flip : BodyOK P t10 nL0 Tryz.f37 s_mk_Flip := fun d => by kernel_rfl
theorem c_mk_Flip : COK P s_mk_Flip := bdC hm t10_ok Tryz.func37 (nLk _ _ _) b_mk_Flip
def t11 : Tab := t10.addW s_mk_Flip
theorem t11_ok : TabOK P t11 := t10_ok.aW c_mk_Flip

def F_mk_Some (d : List G) : Option (List G) :=
 (callF (F_mk_Next [.l (gi d 0).rows, .i (gi d 1).int, .i (((gi d 2).rows.length : Nat) : Int)]) fun g1 => (bif ((nnI (gi g1 2).int) && (ltI (gi g1 2).int (((gi d 2).rows.length : Nat) : Int))) then some [.l (gi g1 0).rows, .i (gi g1 1).int, .s (gi ((gi d 2).rows.getD (((gi g1 2).int).toNat) []) 0).str] else none))
def s_mk_Some : FSpec := ⟨36, [.s (.ptr 0 0), .s (.list [.str])], [.box [.list [.int .i64], .int .i64]], [.slot 0], [.s (.str)], [.box [.list [.int .i64], .int .i64]], [.fix 0], [], F_mk_Some⟩
theorem b_mk_Some : BodyOK P t11 nL0 Tryz.f36 s_mk_Some := fun d => by kernel_rfl
theorem c_mk_Some : COK P s_mk_Some := bdC hm t11_ok Tryz.func36 (nLk _ _ _) b_mk_Some
def t12 : Tab := t11.addW s_mk_Some
theorem t12_ok : TabOK P t12 := t11_ok.aW c_mk_Some

def F_mk_ACall (d : List G) : Option (List G) :=
 (callF (F_mk_Flip [.l (gi d 0).rows, .i (gi d 1).int, .i 60]) fun g1 => (bif (gi g1 2).bool then (callF (F_mk_Some [.l (gi g1 0).rows, .i (gi g1 1).int, .l [[.s (⟨#[]⟩ : ByteArray)], [.s (⟨#[107, 49]⟩ : ByteArray)], [.s (⟨#[75, 49, 65, 66]⟩ : ByteArray)], [.s (⟨#[107, 49, 97, 98, 47]⟩ : ByteArray)], [.s (⟨#[49, 97]⟩ : ByteArray)], [.s (⟨#[107, 49, 97, 98, 47, 109, 109, 47, 112]⟩ : ByteArray)]]]) fun g2 => some [.l (gi g2 0).rows, .i (gi g2 1).int, .s (gi g2 2).str]) else (callF (F_mk_Some [.l (gi g1 0).rows, .i (gi g1 1).int, .l [[.s (⟨#[107, 49, 97, 98]⟩ : ByteArray)], [.s (⟨#[107, 49, 97, 97]⟩ : ByteArray)], [.s (⟨#[107, 49, 97, 98, 47, 52]⟩ : ByteArray)], [.s (⟨#[111, 104, 50, 97, 98, 99]⟩ : ByteArray)], [.s (⟨#[111, 104, 50, 97, 98, 100]⟩ : ByteArray)], [.s (⟨#[119, 49, 97, 119]⟩ : ByteArray)], [.s (⟨#[110, 49, 109, 109]⟩ : ByteArray)], [.s (⟨#[103, 51, 120, 121, 122, 47, 112]⟩ : ByteArray)]]]) fun g3 => some [.l (gi g3 0).rows, .i (gi g3 1).int, .s (gi g3 2).str])))
def s_mk_ACall : FSpec := ⟨35, [.s (.ptr 0 0)], [.box [.list [.int .i64], .int .i64]], [.slot 0], [.s (.str)], [.box [.list [.int .i64], .int .i64]], [.fix 0], [], F_mk_ACall⟩
theorem b_mk_ACall : BodyOK P t12 nL0 Tryz.f35 s_mk_ACall := fun d => by kernel_rfl
theorem c_mk_ACall : COK P s_mk_ACall := bdC hm t12_ok Tryz.func35 (nLk _ _ _) b_mk_ACall
def t13 : Tab := t12.addW s_mk_ACall
theorem t13_ok : TabOK P t13 := t12_ok.aW c_mk_ACall

def F_mk_Odd (d : List G) : Option (List G) :=
 (callF (F_mk_Flip [.l (gi d 0).rows, .i (gi d 1).int, .i 12]) fun g1 => (bif (gi g1 2).bool then (bif (inI ((gi d 2).int - 1)) then (bif (inI ((gi d 3).int + 1)) then (callF (F_mk_Pick [.l (gi g1 0).rows, .i (gi g1 1).int, .l [[.i ((gi d 2).int - 1)], [.i ((gi d 3).int + 1)], [.i (gi d 2).int], [.i (gi d 3).int], [.i (-1099511627776)], [.i 1099511627776]]]) fun g2 => some [.l (gi g2 0).rows, .i (gi g2 1).int, .i (gi g2 2).int]) else none) else none) else (callF (F_mk_Range [.l (gi g1 0).rows, .i (gi g1 1).int, .i (gi d 2).int, .i (gi d 3).int]) fun g3 => some [.l (gi g3 0).rows, .i (gi g3 1).int, .i (gi g3 2).int])))
def s_mk_Odd : FSpec := ⟨38, [.s (.ptr 0 0), .s (.int .i64), .s (.int .i64)], [.box [.list [.int .i64], .int .i64]], [.slot 0], [.s (.int .i64)], [.box [.list [.int .i64], .int .i64]], [.fix 0], [], F_mk_Odd⟩
theorem b_mk_Odd : BodyOK P t13 nL0 Tryz.f38 s_mk_Odd := fun d => by kernel_rfl
theorem c_mk_Odd : COK P s_mk_Odd := bdC hm t13_ok Tryz.func38 (nLk _ _ _) b_mk_Odd
def t14 : Tab := t13.addW s_mk_Odd
theorem t14_ok : TabOK P t14 := t13_ok.aW c_mk_Odd

def F_r2_sign (d : List G) : Option (List G) :=
 (bif (ltI (gi d 0).int 0) then some [.i (-1)] else (bif (ltI 0 (gi d 0).int) then some [.i 1] else some [.i 0]))
def s_r2_sign : FSpec := ⟨118, [.s (.int .i64)], [], [], [.s (.int .i64)], [], [], [], F_r2_sign⟩
theorem b_r2_sign : BodyOK P t14 nL0 Tryz.f118 s_r2_sign := fun d => by kernel_rfl
theorem c_r2_sign : COK P s_r2_sign := bdC hm t14_ok Tryz.func118 (nLk _ _ _) b_r2_sign
def t15 : Tab := t14.addP s_r2_sign
theorem t15_ok : TabOK P t15 := t14_ok.aP c_r2_sign

def F_r2_CardOrder (d : List G) : Option (List G) :=
 (bif ((gi (gi d 0).row 0).int != (gi (gi d 1).row 0).int) then (bif (inI ((gi (gi d 0).row 0).int - (gi (gi d 1).row 0).int)) then (callF (F_r2_sign [.i ((gi (gi d 0).row 0).int - (gi (gi d 1).row 0).int)]) fun g1 => some [.i (gi g1 0).int]) else none) else (bif (!((gi (gi d 0).row 3).str.toList == (gi (gi d 1).row 3).str.toList)) then (callF (F_strings_Compare [.s (gi (gi d 0).row 3).str, .s (gi (gi d 1).row 3).str]) fun g2 => some [.i (gi g2 0).int]) else (bif (!((gi (gi d 0).row 4).str.toList == (gi (gi d 1).row 4).str.toList)) then (callF (F_strings_Compare [.s (gi (gi d 0).row 4).str, .s (gi (gi d 1).row 4).str]) fun g3 => some [.i (gi g3 0).int]) else (bif ((gi (gi d 0).row 2).int != (gi (gi d 1).row 2).int) then (bif (inI ((gi (gi d 0).row 2).int - (gi (gi d 1).row 2).int)) then (callF (F_r2_sign [.i ((gi (gi d 0).row 2).int - (gi (gi d 1).row 2).int)]) fun g4 => some [.i (gi g4 0).int]) else none) else (bif (inI ((gi (gi d 0).row 1).int - (gi (gi d 1).row 1).int)) then (callF (F_r2_sign [.i ((gi (gi d 0).row 1).int - (gi (gi d 1).row 1).int)]) fun g5 => some [.i (gi g5 0).int]) else none)))))
def s_r2_CardOrder : FSpec := ⟨79, [.s (.row KCard), .s (.row KCard)], [], [], [.s (.int .i64)], [], [], [], F_r2_CardOrder⟩
theorem b_r2_CardOrder : BodyOK P t15 nL0 Tryz.f79 s_r2_CardOrder := fun d => by kernel_rfl
theorem c_r2_CardOrder : COK P s_r2_CardOrder := bdC hm t15_ok Tryz.func79 (nLk _ _ _) b_r2_CardOrder
def t16 : Tab := t15.addP s_r2_CardOrder
theorem t16_ok : TabOK P t16 := t15_ok.aP c_r2_CardOrder

def st_insS_Card_4 (d : List G) : Option (Option Nat × List G) :=
 (bif (ltI (gi d 1).int (gi d 4).int) then (bif ((nnI (gi d 4).int) && (ltI (gi d 4).int (((gi d 0).rows.length : Nat) : Int))) then (bif (decide ((0 + ((gi d 4).int).toNat) < (gi d 0).rows.length)) then (bif (inI ((gi d 4).int - 1)) then (bif ((nnI ((gi d 4).int - 1)) && (ltI ((gi d 4).int - 1) (((gi d 0).rows.length : Nat) : Int))) then (bif (decide ((0 + ((gi d 4).int - 1).toNat) < (gi d 0).rows.length)) then (callF (F_r2_CardOrder [.l [(gEta KCard ((gi d 0).rows.getD (0 + ((gi d 4).int).toNat) []))], .l [(gEta KCard ((gi d 0).rows.getD (0 + ((gi d 4).int - 1).toNat) []))]]) fun g1 => (bif (ltI (gi g1 0).int 0) then (bif (inI ((gi d 4).int - 1)) then (bif (inI ((gi d 4).int - 1)) then (bif ((nnI ((gi d 4).int - 1)) && (ltI ((gi d 4).int - 1) (((gi d 0).rows.length : Nat) : Int))) then (bif (decide ((0 + ((gi d 4).int - 1).toNat) < (gi d 0).rows.length)) then (bif ((nnI (gi d 4).int) && (ltI (gi d 4).int (((gi d 0).rows.length : Nat) : Int))) then (bif (decide ((0 + ((gi d 4).int).toNat) < (gi d 0).rows.length)) then (bif ((nnI (gi d 4).int) && (ltI (gi d 4).int (((gi d 0).rows.length : Nat) : Int))) then (bif (decide ((0 + ((gi d 4).int).toNat) < (gi d 0).rows.length)) then (bif ((nnI ((gi d 4).int - 1)) && (ltI ((gi d 4).int - 1) (((gi d 0).rows.length : Nat) : Int))) then (bif (decide ((0 + ((gi d 4).int - 1).toNat) < ((gi d 0).rows.set (0 + ((gi d 4).int).toNat) (putG KCard ((gi d 0).rows.getD (0 + ((gi d 4).int).toNat) []) 0 (gEta KCard ((gi d 0).rows.getD (0 + ((gi d 4).int - 1).toNat) [])))).length)) then (bif (inI ((gi d 4).int - 1)) then (bif ((Nat.beq (gi d 0).rows.length (((gi d 0).rows.set (0 + ((gi d 4).int).toNat) (putG KCard ((gi d 0).rows.getD (0 + ((gi d 4).int).toNat) []) 0 (gEta KCard ((gi d 0).rows.getD (0 + ((gi d 4).int - 1).toNat) [])))).set (0 + ((gi d 4).int - 1).toNat) (putG KCard (((gi d 0).rows.set (0 + ((gi d 4).int).toNat) (putG KCard ((gi d 0).rows.getD (0 + ((gi d 4).int).toNat) []) 0 (gEta KCard ((gi d 0).rows.getD (0 + ((gi d 4).int - 1).toNat) [])))).getD (0 + ((gi d 4).int - 1).toNat) []) 0 (gEta KCard ((gi d 0).rows.getD (0 + ((gi d 4).int).toNat) [])))).length) && true) then some (none, [.l (((gi d 0).rows.set (0 + ((gi d 4).int).toNat) (putG KCard ((gi d 0).rows.getD (0 + ((gi d 4).int).toNat) []) 0 (gEta KCard ((gi d 0).rows.getD (0 + ((gi d 4).int - 1).toNat) [])))).set (0 + ((gi d 4).int - 1).toNat) (putG KCard (((gi d 0).rows.set (0 + ((gi d 4).int).toNat) (putG KCard ((gi d 0).rows.getD (0 + ((gi d 4).int).toNat) []) 0 (gEta KCard ((gi d 0).rows.getD (0 + ((gi d 4).int - 1).toNat) [])))).getD (0 + ((gi d 4).int - 1).toNat) []) 0 (gEta KCard ((gi d 0).rows.getD (0 + ((gi d 4).int).toNat) [])))), .i (gi d 1).int, .i (gi d 2).int, .i (gi d 3).int, .i ((gi d 4).int - 1)]) else none) else none) else none) else none) else none) else none) else none) else none) else none) else none) else none) else none) else (bif ((Nat.beq (gi d 0).rows.length (gi d 0).rows.length) && true) then some (some 0, [.l (gi d 0).rows, .i (gi d 1).int, .i (gi d 2).int, .i (gi d 3).int]) else none))) else none) else none) else none) else none) else none) else (bif ((Nat.beq (gi d 0).rows.length (gi d 0).rows.length) && true) then some (some 0, [.l (gi d 0).rows, .i (gi d 1).int, .i (gi d 2).int, .i (gi d 3).int]) else none))
def l_insS_Card_4 : LSpec := ⟨4, [], ⟨53, [(0, .s (.vec 0 5)), (1, .s (.int .i64)), (2, .s (.int .i64)), (3, .s (.fn 79)), (8, .s (.int .i64)), (9, .s (.int .i64))], [.vec KCard 0]⟩, [.fix 0], [⟨.exit 2, ⟨53, [(0, .s (.vec 0 5)), (1, .s (.int .i64)), (2, .s (.int .i64)), (3, .s (.fn 79)), (8, .s (.int .i64))], [.vec KCard 0]⟩, [.fix 0]⟩], st_insS_Card_4⟩
theorem r_insS_Card_4 : RoundOK P t16 nL0 1 (loopAt Tryz.f165 4) l_insS_Card_4 := fun d => by kernel_rfl
def L_insS_Card_4 : LT := nL0.add 1 l_insS_Card_4
theorem L_insS_Card_4_ok : LpK P 1 L_insS_Card_4 (bodyOf Tryz.f165) := LpK.a hm t16_ok (nLk _ _ _) r_insS_Card_4
def st_insS_Card_1 (d : List G) : Option (Option Nat × List G) :=
 (bif (ltI (gi d 3).int (gi d 2).int) then (loopB ((Nat.beq (gi d 0).rows.length (gi d 0).rows.length) && true) (LRun st_insS_Card_4 [.l (gi d 0).rows, .i (gi d 1).int, .i (gi d 2).int, .i (gi d 3).int, .i (gi d 3).int]) fun cg2 g2 => (bif (inI ((gi g2 3).int + 1)) then (bif ((Nat.beq (gi g2 0).rows.length (gi g2 0).rows.length) && true) then some (none, [.l (gi g2 0).rows, .i (gi g2 1).int, .i (gi g2 2).int, .i ((gi g2 3).int + 1)]) else none) else none)) else some (some 0, [.l (gi d 0).rows]))
def l_insS_Card_1 : LSpec := ⟨1, [], ⟨53, [(0, .s (.vec 0 5)), (1, .s (.int .i64)), (2, .s (.int .i64)), (3, .s (.fn 79)), (8, .s (.int .i64))], [.vec KCard 0]⟩, [.fix 0], [⟨.exit 0, ⟨53, [], [.vec KCard 0]⟩, [.fix 0]⟩], st_insS_Card_1⟩
theorem r_insS_Card_1 : RoundOK P t16 L_insS_Card_4 1 (loopAt Tryz.f165 1) l_insS_Card_1 := fun d => by kernel_rfl
def L_insS_Card_1 : LT := L_insS_Card_4.add 1 l_insS_Card_1
theorem L_insS_Card_1_ok : LpK P 1 L_insS_Card_1 (bodyOf Tryz.f165) := LpK.a hm t16_ok L_insS_Card_4_ok r_insS_Card_1
def F_insS_Card (d : List G) : Option (List G) :=
 (bif (inI ((gi d 1).int + 1)) then (loopB ((Nat.beq (gi d 0).rows.length (gi d 0).rows.length) && true) (LRun st_insS_Card_1 [.l (gi d 0).rows, .i (gi d 1).int, .i (gi d 2).int, .i ((gi d 1).int + 1)]) fun cg3 g3 => some [.l (gi g3 0).rows]) else none)
def s_insS_Card : FSpec := ⟨165, [.s (.vec 0 5), .s (.int .i64), .s (.int .i64), .s (.fn 79)], [.vec KCard 0], [.slot 0], [], [.vec KCard 0], [.fix 0], [], F_insS_Card⟩
theorem b_insS_Card : BodyOK P t16 L_insS_Card_1 Tryz.f165 s_insS_Card := fun d => by kernel_rfl
theorem c_insS_Card : COK P s_insS_Card := bdC hm t16_ok Tryz.func165 L_insS_Card_1_ok b_insS_Card
def t17 : Tab := t16.addW s_insS_Card
theorem t17_ok : TabOK P t17 := t16_ok.aW c_insS_Card

def st_stbS_Card_2 (d : List G) : Option (Option Nat × List G) :=
 (bif (leI (gi d 4).int (gi d 1).int) then (callB (((Nat.beq (gi d 0).rows.length (gi d 0).rows.length) && true) && (F_insS_Card [.l (gi d 0).rows, .i (gi d 3).int, .i (gi d 4).int]).isSome) (F_insS_Card [.l (gi d 0).rows, .i (gi d 3).int, .i (gi d 4).int]) fun g1 => (bif (inI ((gi d 4).int + (gi d 2).int)) then (bif ((Nat.beq (gi d 0).rows.length (gi g1 0).rows.length) && true) then some (none, [.l (gi g1 0).rows, .i (gi d 1).int, .i (gi d 2).int, .i (gi d 4).int, .i ((gi d 4).int + (gi d 2).int)]) else none) else none)) else (bif ((Nat.beq (gi d 0).rows.length (gi d 0).rows.length) && true) then some (some 0, [.l (gi d 0).rows, .i (gi d 1).int, .i (gi d 2).int, .i (gi d 3).int]) else none))
def l_stbS_Card_2 : LSpec := ⟨2, [], ⟨63, [(0, .s (.vec 0 5)), (1, .s (.int .i64)), (2, .s (.fn 79)), (6, .s (.int .i64)), (7, .s (.int .i64)), (8, .s (.int .i64))], [.vec KCard 0]⟩, [.fix 0], [⟨.exit 0, ⟨63, [(0, .s (.vec 0 5)), (1, .s (.int .i64)), (2, .s (.fn 79)), (6, .s (.int .i64)), (7, .s (.int .i64))], [.vec KCard 0]⟩, [.fix 0]⟩], st_stbS_Card_2⟩
theorem r_stbS_Card_2 : RoundOK P t17 nL0 1 (loopAt Tryz.f127 2) l_stbS_Card_2 := fun d => by kernel_rfl
def L_stbS_Card_2 : LT := nL0.add 1 l_stbS_Card_2
theorem L_stbS_Card_2_ok : LpK P 1 L_stbS_Card_2 (bodyOf Tryz.f127) := LpK.a hm t17_ok (nLk _ _ _) r_stbS_Card_2
def st_stbS_Card_9 (d : List G) : Option (Option Nat × List G) :=
 (bif (leI (gi d 4).int (gi d 1).int) then (bif (inI ((gi d 3).int + (gi d 2).int)) then none else none) else (bif ((Nat.beq (gi d 0).rows.length (gi d 0).rows.length) && true) then some (some 0, [.l (gi d 0).rows, .i (gi d 1).int, .i (gi d 2).int, .i (gi d 3).int]) else none))
def l_stbS_Card_9 : LSpec := ⟨9, [], ⟨63, [(0, .s (.vec 0 5)), (1, .s (.int .i64)), (2, .s (.fn 79)), (6, .s (.int .i64)), (7, .s (.int .i64)), (8, .s (.int .i64))], [.vec KCard 0]⟩, [.fix 0], [⟨.exit 4, ⟨63, [(0, .s (.vec 0 5)), (1, .s (.int .i64)), (2, .s (.fn 79)), (6, .s (.int .i64)), (7, .s (.int .i64))], [.vec KCard 0]⟩, [.fix 0]⟩], st_stbS_Card_9⟩
theorem r_stbS_Card_9 : RoundOK P t17 L_stbS_Card_2 1 (loopAt Tryz.f127 9) l_stbS_Card_9 := fun d => by kernel_rfl
def L_stbS_Card_9 : LT := L_stbS_Card_2.add 1 l_stbS_Card_9
theorem L_stbS_Card_9_ok : LpK P 1 L_stbS_Card_9 (bodyOf Tryz.f127) := LpK.a hm t17_ok L_stbS_Card_2_ok r_stbS_Card_9
def st_stbS_Card_7 (d : List G) : Option (Option Nat × List G) :=
 (bif (ltI (gi d 2).int (gi d 1).int) then (bif (inI (2 * (gi d 2).int)) then (loopB ((Nat.beq (gi d 0).rows.length (gi d 0).rows.length) && true) (LRun st_stbS_Card_9 [.l (gi d 0).rows, .i (gi d 1).int, .i (gi d 2).int, .i 0, .i (2 * (gi d 2).int)]) fun cg4 g4 => (bif (inI ((gi g4 3).int + (gi g4 2).int)) then (bif (ltI ((gi g4 3).int + (gi g4 2).int) (gi g4 1).int) then none else (bif (inI ((gi g4 2).int * 2)) then (bif ((Nat.beq (gi g4 0).rows.length (gi g4 0).rows.length) && true) then some (none, [.l (gi g4 0).rows, .i (gi g4 1).int, .i ((gi g4 2).int * 2)]) else none) else none)) else none)) else none) else some (some 0, [.l (gi d 0).rows]))
def l_stbS_Card_7 : LSpec := ⟨7, [], ⟨63, [(0, .s (.vec 0 5)), (1, .s (.int .i64)), (2, .s (.fn 79)), (6, .s (.int .i64))], [.vec KCard 0]⟩, [.fix 0], [⟨.exit 2, ⟨63, [], [.vec KCard 0]⟩, [.fix 0]⟩], st_stbS_Card_7⟩
theorem r_stbS_Card_7 : RoundOK P t17 L_stbS_Card_9 1 (loopAt Tryz.f127 7) l_stbS_Card_7 := fun d => by kernel_rfl
def L_stbS_Card_7 : LT := L_stbS_Card_9.add 1 l_stbS_Card_7
theorem L_stbS_Card_7_ok : LpK P 1 L_stbS_Card_7 (bodyOf Tryz.f127) := LpK.a hm t17_ok L_stbS_Card_9_ok r_stbS_Card_7
def F_stbS_Card (d : List G) : Option (List G) :=
 (loopB ((Nat.beq (gi d 0).rows.length (gi d 0).rows.length) && true) (LRun st_stbS_Card_2 [.l (gi d 0).rows, .i (gi d 1).int, .i 20, .i 0, .i 20]) fun cg2 g2 => (callB (((Nat.beq (gi g2 0).rows.length (gi g2 0).rows.length) && true) && (F_insS_Card [.l (gi g2 0).rows, .i (gi g2 3).int, .i (gi g2 1).int]).isSome) (F_insS_Card [.l (gi g2 0).rows, .i (gi g2 3).int, .i (gi g2 1).int]) fun g3 => (loopB ((Nat.beq (gi g2 0).rows.length (gi g3 0).rows.length) && true) (LRun st_stbS_Card_7 [.l (gi g3 0).rows, .i (gi g2 1).int, .i (gi g2 2).int]) fun cg5 g5 => some [.l (gi g5 0).rows])))
def s_stbS_Card : FSpec := ⟨127, [.s (.vec 0 5), .s (.int .i64), .s (.fn 79)], [.vec KCard 0], [.slot 0], [], [.vec KCard 0], [.fix 0], [], F_stbS_Card⟩
theorem b_stbS_Card : BodyOK P t17 L_stbS_Card_7 Tryz.f127 s_stbS_Card := fun d => by kernel_rfl
theorem c_stbS_Card : COK P s_stbS_Card := bdC hm t17_ok Tryz.func127 L_stbS_Card_7_ok b_stbS_Card
def t18 : Tab := t17.addW s_stbS_Card
theorem t18_ok : TabOK P t18 := t17_ok.aW c_stbS_Card

def F_srtS_Card (d : List G) : Option (List G) :=
 (callB (((Nat.beq (gi d 0).rows.length (gi d 0).rows.length) && true) && (F_stbS_Card [.l (gi d 0).rows, .i (((gi d 0).rows.length : Nat) : Int)]).isSome) (F_stbS_Card [.l (gi d 0).rows, .i (((gi d 0).rows.length : Nat) : Int)]) fun g1 => some [.l (gi g1 0).rows])
def s_srtS_Card : FSpec := ⟨78, [.s (.vec 0 5), .s (.fn 79)], [.vec KCard 0], [.slot 0], [], [.vec KCard 0], [.fix 0], [], F_srtS_Card⟩
theorem b_srtS_Card : BodyOK P t18 nL0 Tryz.f78 s_srtS_Card := fun d => by kernel_rfl
theorem c_srtS_Card : COK P s_srtS_Card := bdC hm t18_ok Tryz.func78 (nLk _ _ _) b_srtS_Card
def t19 : Tab := t18.addW s_srtS_Card
theorem t19_ok : TabOK P t19 := t18_ok.aW c_srtS_Card

def st_sl_Compact_Card_9 (d : List G) : Option (Option Nat × List G) :=
 (bif (ltI (gi d 4).int (((gi d 3).int.toNat : Nat) : Int)) then (bif ((nnI (gi d 4).int) && (ltI (gi d 4).int (((gi d 3).int.toNat : Nat) : Int))) then (bif (decide (((gi d 2).int.toNat + ((gi d 4).int).toNat) < (gi d 0).rows.length)) then (bif (inI ((gi d 4).int - 1)) then (bif ((nnI ((gi d 4).int - 1)) && (ltI ((gi d 4).int - 1) (((gi d 3).int.toNat : Nat) : Int))) then (bif (decide (((gi d 2).int.toNat + ((gi d 4).int - 1).toNat) < (gi d 0).rows.length)) then (bif (!(rowEq KCard (gEta KCard ((gi d 0).rows.getD ((gi d 2).int.toNat + ((gi d 4).int).toNat) [])) (gEta KCard ((gi d 0).rows.getD ((gi d 2).int.toNat + ((gi d 4).int - 1).toNat) [])))) then (bif ((nnI (gi d 4).int) && (ltI (gi d 4).int (((gi d 3).int.toNat : Nat) : Int))) then (bif (decide (((gi d 2).int.toNat + ((gi d 4).int).toNat) < (gi d 0).rows.length)) then (bif ((nnI (gi d 1).int) && (ltI (gi d 1).int (((gi d 0).rows.length : Nat) : Int))) then (bif (decide ((0 + ((gi d 1).int).toNat) < (gi d 0).rows.length)) then (bif (inI ((gi d 1).int + 1)) then (bif (inI ((gi d 4).int + 1)) then (bif ((Nat.beq (gi d 0).rows.length ((gi d 0).rows.set (0 + ((gi d 1).int).toNat) (putG KCard ((gi d 0).rows.getD (0 + ((gi d 1).int).toNat) []) 0 (gEta KCard ((gi d 0).rows.getD ((gi d 2).int.toNat + ((gi d 4).int).toNat) [])))).length) && true) then some (none, [.l ((gi d 0).rows.set (0 + ((gi d 1).int).toNat) (putG KCard ((gi d 0).rows.getD (0 + ((gi d 1).int).toNat) []) 0 (gEta KCard ((gi d 0).rows.getD ((gi d 2).int.toNat + ((gi d 4).int).toNat) [])))), .i ((gi d 1).int + 1), .i (((gi d 2).int.toNat : Nat) : Int), .i (((gi d 3).int.toNat : Nat) : Int), .i ((gi d 4).int + 1)]) else none) else none) else none) else none) else none) else none) else none) else (bif (inI ((gi d 4).int + 1)) then (bif ((Nat.beq (gi d 0).rows.length (gi d 0).rows.length) && true) then some (none, [.l (gi d 0).rows, .i (gi d 1).int, .i (((gi d 2).int.toNat : Nat) : Int), .i (((gi d 3).int.toNat : Nat) : Int), .i ((gi d 4).int + 1)]) else none) else none)) else none) else none) else none) else none) else none) else (bif ((Nat.beq (gi d 0).rows.length (gi d 0).rows.length) && true) then some (some 0, [.l (gi d 0).rows, .i (gi d 1).int]) else none))
def l_sl_Compact_Card_9 : LSpec := ⟨9, [], ⟨61, [(0, .s (.vec 0 5)), (3, .s (.int .i64)), (4, .s (.sub 0 5)), (5, .s (.int .i64))], [.vec KCard 0]⟩, [.fix 0], [⟨.exit 2, ⟨61, [(0, .s (.vec 0 5)), (3, .s (.int .i64))], [.vec KCard 0]⟩, [.fix 0]⟩], st_sl_Compact_Card_9⟩
theorem r_sl_Compact_Card_9 : RoundOK P t19 nL0 1 (loopAt Tryz.f80 9) l_sl_Compact_Card_9 := fun d => by kernel_rfl
def L_sl_Compact_Card_9 : LT := nL0.add 1 l_sl_Compact_Card_9
theorem L_sl_Compact_Card_9_ok : LpK P 1 L_sl_Compact_Card_9 (bodyOf Tryz.f80) := LpK.a hm t19_ok (nLk _ _ _) r_sl_Compact_Card_9
def st_sl_Compact_Card_4 (d : List G) : Option (Option Nat × List G) :=
 (bif (ltI (gi d 1).int (((gi d 0).rows.length : Nat) : Int)) then (bif ((nnI (gi d 1).int) && (ltI (gi d 1).int (((gi d 0).rows.length : Nat) : Int))) then (bif (decide ((0 + ((gi d 1).int).toNat) < (gi d 0).rows.length)) then (bif (inI ((gi d 1).int - 1)) then (bif ((nnI ((gi d 1).int - 1)) && (ltI ((gi d 1).int - 1) (((gi d 0).rows.length : Nat) : Int))) then (bif (decide ((0 + ((gi d 1).int - 1).toNat) < (gi d 0).rows.length)) then (bif (rowEq KCard (gEta KCard ((gi d 0).rows.getD (0 + ((gi d 1).int).toNat) [])) (gEta KCard ((gi d 0).rows.getD (0 + ((gi d 1).int - 1).toNat) []))) then (bif ((nnI (gi d 1).int) && (leI (gi d 1).int (((gi d 0).rows.length : Nat) : Int))) then (loopB ((Nat.beq (gi d 0).rows.length (gi d 0).rows.length) && true) (LRun st_sl_Compact_Card_9 [.l (gi d 0).rows, .i (gi d 1).int, .i (((0 + ((gi d 1).int).toNat) : Nat) : Int), .i ((((gi d 0).rows.length - ((gi d 1).int).toNat) : Nat) : Int), .i 1]) fun cg1 g1 => (bif ((nnI (gi g1 1).int) && (leI (gi g1 1).int (((gi g1 0).rows.length : Nat) : Int))) then (bif (Nat.ble ((0 + ((gi g1 1).int).toNat) + ((gi g1 0).rows.length - ((gi g1 1).int).toNat)) (gi g1 0).rows.length) then (bif ((nnI (gi g1 1).int) && (leI (gi g1 1).int (((gi g1 0).rows.length : Nat) : Int))) then some (some 0, [.l ((gi g1 0).rows.take (0 + ((gi g1 1).int).toNat) ++ List.replicate ((gi g1 0).rows.length - ((gi g1 1).int).toNat) [.i 0, .i 0, .i 0, .s (⟨#[]⟩ : ByteArray), .s (⟨#[]⟩ : ByteArray)] ++ (gi g1 0).rows.drop ((0 + ((gi g1 1).int).toNat) + ((gi g1 0).rows.length - ((gi g1 1).int).toNat))), .i (((((gi g1 1).int).toNat - 0) : Nat) : Int)]) else none) else none) else none)) else none) else (bif (inI ((gi d 1).int + 1)) then (bif ((Nat.beq (gi d 0).rows.length (gi d 0).rows.length) && true) then some (none, [.l (gi d 0).rows, .i ((gi d 1).int + 1)]) else none) else none)) else none) else none) else none) else none) else none) else (bif ((Nat.beq (gi d 0).rows.length (gi d 0).rows.length) && true) then some (some 1, [.l (gi d 0).rows]) else none))
def l_sl_Compact_Card_4 : LSpec := ⟨4, [], ⟨61, [(0, .s (.vec 0 5)), (3, .s (.int .i64))], [.vec KCard 0]⟩, [.fix 0], [⟨.ret, ⟨61, [(2, .s (.pre 0 5))], [.vec KCard 0]⟩, [.fix 0]⟩, ⟨.exit 0, ⟨61, [(0, .s (.vec 0 5))], [.vec KCard 0]⟩, [.fix 0]⟩], st_sl_Compact_Card_4⟩
theorem r_sl_Compact_Card_4 : RoundOK P t19 L_sl_Compact_Card_9 1 (loopAt Tryz.f80 4) l_sl_Compact_Card_4 := fun d => by kernel_rfl
def L_sl_Compact_Card_4 : LT := L_sl_Compact_Card_9.add 1 l_sl_Compact_Card_4
theorem L_sl_Compact_Card_4_ok : LpK P 1 L_sl_Compact_Card_4 (bodyOf Tryz.f80) := LpK.a hm t19_ok L_sl_Compact_Card_9_ok r_sl_Compact_Card_4
def F_sl_Compact_Card (d : List G) : Option (List G) :=
 (bif (ltI (((gi d 0).rows.length : Nat) : Int) 2) then some [.l (gi d 0).rows, .i (((gi d 0).rows.length : Nat) : Int)] else (loopB ((Nat.beq (gi d 0).rows.length (gi d 0).rows.length) && true) (LRun st_sl_Compact_Card_4 [.l (gi d 0).rows, .i 1]) fun cg2 g2 => (bif Nat.beq cg2 0 then some [.l (gi g2 0).rows, .i (((gi g2 1).int.toNat : Nat) : Int)] else some [.l (gi g2 0).rows, .i (((gi g2 0).rows.length : Nat) : Int)])))
def s_sl_Compact_Card : FSpec := ⟨80, [.s (.vec 0 5)], [.vec KCard 0], [.slot 0], [.s (.pre 0 5)], [.vec KCard 0], [.fix 0], [], F_sl_Compact_Card⟩
theorem b_sl_Compact_Card : BodyOK P t19 L_sl_Compact_Card_4 Tryz.f80 s_sl_Compact_Card := fun d => by kernel_rfl
theorem c_sl_Compact_Card : COK P s_sl_Compact_Card := bdC hm t19_ok Tryz.func80 L_sl_Compact_Card_4_ok b_sl_Compact_Card
def t20 : Tab := t19.addW s_sl_Compact_Card
theorem t20_ok : TabOK P t20 := t19_ok.aW c_sl_Compact_Card

def st_mk_Cards_4 (d : List G) : Option (Option Nat × List G) :=
 (bif (ltI (gi d 5).int (gi d 4).int) then (callF (F_mk_Pick [.l (gi d 0).rows, .i (gi d 1).int, .l [[.i 0], [.i 1], [.i 5], [.i 20]]]) fun g1 => (bif (inI ((gi d 3).int + (gi g1 2).int)) then (callF (F_mk_Pick [.l (gi g1 0).rows, .i (gi g1 1).int, .l [[.i 1], [.i 2], [.i 2], [.i 2], [.i 3]]]) fun g2 => (callF (F_mk_Pick [.l (gi g2 0).rows, .i (gi g2 1).int, .l [[.i 1], [.i 1], [.i 2]]]) fun g3 => (callF (F_mk_ACall [.l (gi g3 0).rows, .i (gi g3 1).int]) fun g4 => (callF (F_mk_Some [.l (gi g4 0).rows, .i (gi g4 1).int, .l [[.s (⟨#[98, 50, 48]⟩ : ByteArray)], [.s (⟨#[98, 50, 48]⟩ : ByteArray)], [.s (⟨#[98, 52, 48]⟩ : ByteArray)]]]) fun g5 => (callF (F_mk_Flip [.l (gi g5 0).rows, .i (gi g5 1).int, .i 100]) fun g6 => (bif (gi g6 2).bool then (callF (F_mk_Odd [.l (gi g6 0).rows, .i (gi g6 1).int, .i 0, .i 50]) fun g7 => (callF (F_mk_Odd [.l (gi g7 0).rows, .i (gi g7 1).int, .i 1, .i 3]) fun g8 => (callF (F_mk_Odd [.l (gi g8 0).rows, .i (gi g8 1).int, .i 1, .i 3]) fun g9 => (callF (F_mk_Some [.l (gi g9 0).rows, .i (gi g9 1).int, .l [[.s (⟨#[]⟩ : ByteArray)], [.s (⟨#[98, 50, 48]⟩ : ByteArray)]]]) fun g10 => (bif ((Nat.beq (gi d 2).rows.length (gi d 2).rows.length) && (decide (((gi d 2).rows.length + 1) ≤ 1048576))) then (bif (inI ((gi d 5).int + 1)) then (bif ((Nat.beq ((gi d 2).rows ++ ([[.i (gi g7 2).int, .i (gi g8 2).int, .i (gi g9 2).int, .s (gi g4 2).str, .s (gi g10 2).str]] : List (List G))).length ((gi d 2).rows ++ ([[.i (gi g7 2).int, .i (gi g8 2).int, .i (gi g9 2).int, .s (gi g4 2).str, .s (gi g10 2).str]] : List (List G))).length) && true) then some (none, [.l (gi g10 0).rows, .i (gi g10 1).int, .l ((gi d 2).rows ++ ([[.i (gi g7 2).int, .i (gi g8 2).int, .i (gi g9 2).int, .s (gi g4 2).str, .s (gi g10 2).str]] : List (List G))), .i ((gi d 3).int + (gi g1 2).int), .i (gi d 4).int, .i ((gi d 5).int + 1)]) else none) else none) else none))))) else (bif ((Nat.beq (gi d 2).rows.length (gi d 2).rows.length) && (decide (((gi d 2).rows.length + 1) ≤ 1048576))) then (bif (inI ((gi d 5).int + 1)) then (bif ((Nat.beq ((gi d 2).rows ++ ([[.i ((gi d 3).int + (gi g1 2).int), .i (gi g2 2).int, .i (gi g3 2).int, .s (gi g4 2).str, .s (gi g5 2).str]] : List (List G))).length ((gi d 2).rows ++ ([[.i ((gi d 3).int + (gi g1 2).int), .i (gi g2 2).int, .i (gi g3 2).int, .s (gi g4 2).str, .s (gi g5 2).str]] : List (List G))).length) && true) then some (none, [.l (gi g6 0).rows, .i (gi g6 1).int, .l ((gi d 2).rows ++ ([[.i ((gi d 3).int + (gi g1 2).int), .i (gi g2 2).int, .i (gi g3 2).int, .s (gi g4 2).str, .s (gi g5 2).str]] : List (List G))), .i ((gi d 3).int + (gi g1 2).int), .i (gi d 4).int, .i ((gi d 5).int + 1)]) else none) else none) else none))))))) else none)) else (bif ((Nat.beq (gi d 2).rows.length (gi d 2).rows.length) && true) then some (some 0, [.l (gi d 0).rows, .i (gi d 1).int, .l (gi d 2).rows]) else none))
def l_mk_Cards_4 : LSpec := ⟨4, [(5, KCard)], ⟨53, [(0, .s (.ptr 0 0)), (5, .s (.vec 1 5)), (6, .s (.int .i64)), (8, .s (.int .i64)), (9, .s (.int .i64))], [.box [.list [.int .i64], .int .i64], .vec KCard 0]⟩, [.fix 0, .slot 5], [⟨.exit 0, ⟨53, [(5, .s (.vec 1 5))], [.box [.list [.int .i64], .int .i64], .vec KCard 0]⟩, [.fix 0, .slot 5]⟩], st_mk_Cards_4⟩
theorem r_mk_Cards_4 : RoundOK P t20 nL0 1 (loopAt Tryz.f25 4) l_mk_Cards_4 := fun d => by kernel_rfl
def L_mk_Cards_4 : LT := nL0.add 1 l_mk_Cards_4
theorem L_mk_Cards_4_ok : LpK P 1 L_mk_Cards_4 (bodyOf Tryz.f25) := LpK.a hm t20_ok (nLk _ _ _) r_mk_Cards_4
def F_mk_Cards (d : List G) : Option (List G) :=
 (loopB true (LRun st_mk_Cards_4 [.l (gi d 0).rows, .i (gi d 1).int, .l [], .i 0, .i (gi d 2).int, .i 0]) fun cg11 g11 => (callB (((Nat.beq (gi g11 2).rows.length (gi g11 2).rows.length) && true) && (F_srtS_Card [.l (gi g11 2).rows]).isSome) (F_srtS_Card [.l (gi g11 2).rows]) fun g12 => (callB (((Nat.beq (gi g11 2).rows.length (gi g12 0).rows.length) && true) && (F_sl_Compact_Card [.l (gi g12 0).rows]).isSome) (F_sl_Compact_Card [.l (gi g12 0).rows]) fun g13 => (bif ((Nat.ble (gi g13 1).int.toNat (gi g13 0).rows.length) && true) then some [.l (gi g11 0).rows, .i (gi g11 1).int, .l ((gi g13 0).rows.take ((gi g13 1).int.toNat))] else none))))
def s_mk_Cards : FSpec := ⟨25, [.s (.ptr 0 0), .s (.int .i64)], [.box [.list [.int .i64], .int .i64]], [.slot 0], [.s (.lpre KCard)], [.box [.list [.int .i64], .int .i64]], [.fix 0], [], F_mk_Cards⟩
theorem b_mk_Cards : BodyOK P t20 L_mk_Cards_4 Tryz.f25 s_mk_Cards := fun d => by kernel_rfl
theorem c_mk_Cards : COK P s_mk_Cards := bdC hm t20_ok Tryz.func25 L_mk_Cards_4_ok b_mk_Cards
def t21 : Tab := t20.addW s_mk_Cards
theorem t21_ok : TabOK P t21 := t20_ok.aW c_mk_Cards

def F_r2_in (d : List G) : Option (List G) :=
 (bif (leI (gi d 1).int (gi d 0).int) then some [.t (leI (gi d 0).int (gi d 2).int)] else some [.t false])
def s_r2_in : FSpec := ⟨52, [.s (.int .i64), .s (.int .i64), .s (.int .i64)], [], [], [.s (.bool)], [], [], [], F_r2_in⟩
theorem b_r2_in : BodyOK P t21 nL0 Tryz.f52 s_r2_in := fun d => by kernel_rfl
theorem c_r2_in : COK P s_r2_in := bdC hm t21_ok Tryz.func52 (nLk _ _ _) b_r2_in
def t22 : Tab := t21.addP s_r2_in
theorem t22_ok : TabOK P t22 := t21_ok.aP c_r2_in

def F_r2_Moment (d : List G) : Option (List G) :=
 (callF (F_r2_in [.i (gi d 0).int, .i 0, .i 345686399999]) fun g1 => some [.t (gi g1 0).bool])
def s_r2_Moment : FSpec := ⟨51, [.s (.int .i64)], [], [], [.s (.bool)], [], [], [], F_r2_Moment⟩
theorem b_r2_Moment : BodyOK P t22 nL0 Tryz.f51 s_r2_Moment := fun d => by kernel_rfl
theorem c_r2_Moment : COK P s_r2_Moment := bdC hm t22_ok Tryz.func51 (nLk _ _ _) b_r2_Moment
def t23 : Tab := t22.addP s_r2_Moment
theorem t23_ok : TabOK P t23 := t22_ok.aP c_r2_Moment

def F_stringslite_Index (d : List G) : Option (List G) :=
 idx1F d
def s_stringslite_Index : FSpec := ⟨200, [.s (.str), .s (.str)], [], [], [.s (.int .i64)], [], [], [], F_stringslite_Index⟩
theorem c_stringslite_Index : ∀ d r, F_stringslite_Index d = some r → ACallX P 200 (s_stringslite_Index.args0 d) (denH (s_stringslite_Index.H0 d)) (s_stringslite_Index.out r) (denH (s_stringslite_Index.H1 r)) := fun d r h => index_call Tryz.laysSlIndex d r h
def t24 : Tab := t23.addP s_stringslite_Index
theorem t24_ok : TabOK P t24 := t23_ok.aP c_stringslite_Index

def F_stringslite_Cut (d : List G) : Option (List G) :=
 (callF (F_stringslite_Index [.s (gi d 0).str, .s (gi d 1).str]) fun g1 => (bif (leI 0 (gi g1 0).int) then (bif ((nnI (gi g1 0).int) && (leI (gi g1 0).int (((gi d 0).str.size : Nat) : Int))) then (bif (inI ((gi g1 0).int + (((gi d 1).str.size : Nat) : Int))) then (bif ((nnI ((gi g1 0).int + (((gi d 1).str.size : Nat) : Int))) && (leI ((gi g1 0).int + (((gi d 1).str.size : Nat) : Int)) (((gi d 0).str.size : Nat) : Int))) then some [.s ((gi d 0).str.extract 0 ((gi g1 0).int).toNat), .s ((gi d 0).str.extract ((gi g1 0).int + (((gi d 1).str.size : Nat) : Int)).toNat (gi d 0).str.size), .t true] else none) else none) else none) else some [.s (gi d 0).str, .s (⟨#[]⟩ : ByteArray), .t false]))
def s_stringslite_Cut : FSpec := ⟨151, [.s (.str), .s (.str)], [], [], [.s (.str), .s (.str), .s (.bool)], [], [], [], F_stringslite_Cut⟩
theorem b_stringslite_Cut : BodyOK P t24 nL0 Tryz.f151 s_stringslite_Cut := fun d => by kernel_rfl
theorem c_stringslite_Cut : COK P s_stringslite_Cut := bdC hm t24_ok Tryz.func151 (nLk _ _ _) b_stringslite_Cut
def t25 : Tab := t24.addP s_stringslite_Cut
theorem t25_ok : TabOK P t25 := t24_ok.aP c_stringslite_Cut

def F_strings_Cut (d : List G) : Option (List G) :=
 (callF (F_stringslite_Cut [.s (gi d 0).str, .s (gi d 1).str]) fun g1 => some [.s (gi g1 0).str, .s (gi g1 1).str, .t (gi g1 2).bool])
def s_strings_Cut : FSpec := ⟨108, [.s (.str), .s (.str)], [], [], [.s (.str), .s (.str), .s (.bool)], [], [], [], F_strings_Cut⟩
theorem b_strings_Cut : BodyOK P t25 nL0 Tryz.f108 s_strings_Cut := fun d => by kernel_rfl
theorem c_strings_Cut : COK P s_strings_Cut := bdC hm t25_ok Tryz.func108 (nLk _ _ _) b_strings_Cut
def t26 : Tab := t25.addP s_strings_Cut
theorem t26_ok : TabOK P t26 := t25_ok.aP c_strings_Cut

def F_strings_IndexRune (d : List G) : Option (List G) :=
 runeF d
def s_strings_IndexRune : FSpec := ⟨227, [.s (.str), .s (.int .i32)], [], [], [.s (.int .i64)], [], [], [], F_strings_IndexRune⟩
theorem c_strings_IndexRune : ∀ d r, F_strings_IndexRune d = some r → ACallX P 227 (s_strings_IndexRune.args0 d) (denH (s_strings_IndexRune.H0 d)) (s_strings_IndexRune.out r) (denH (s_strings_IndexRune.H1 r)) := fun d r h => rune_call Tryz.laysRune d r h
def t27 : Tab := t26.addP s_strings_IndexRune
theorem t27_ok : TabOK P t27 := t26_ok.aP c_strings_IndexRune

def F_strings_shouldUseASCIISet (d : List G) : Option (List G) :=
 some [.t (ltI 8 (gi d 0).int)]
def s_strings_shouldUseASCIISet : FSpec := ⟨228, [.s (.int .i64)], [], [], [.s (.bool)], [], [], [], F_strings_shouldUseASCIISet⟩
theorem b_strings_shouldUseASCIISet : BodyOK P t27 nL0 Tryz.f228 s_strings_shouldUseASCIISet := fun d => by kernel_rfl
theorem c_strings_shouldUseASCIISet : COK P s_strings_shouldUseASCIISet := bdC hm t27_ok Tryz.func228 (nLk _ _ _) b_strings_shouldUseASCIISet
def t28 : Tab := t27.addP s_strings_shouldUseASCIISet
theorem t28_ok : TabOK P t28 := t27_ok.aP c_strings_shouldUseASCIISet

def F_strings_makeASCIISet (d : List G) : Option (List G) :=
 mksetF d
def s_strings_makeASCIISet : FSpec := ⟨195, [.s (.str)], [], [], [.s (.row K256), .s (.bool)], [], [], [], F_strings_makeASCIISet⟩
theorem c_strings_makeASCIISet : ∀ d r, F_strings_makeASCIISet d = some r → ACallX P 195 (s_strings_makeASCIISet.args0 d) (denH (s_strings_makeASCIISet.H0 d)) (s_strings_makeASCIISet.out r) (denH (s_strings_makeASCIISet.H1 r)) := fun d r h => mkset_call Tryz.laysMkSet (by kernel_rfl) d r h
def t29 : Tab := t28.addP s_strings_makeASCIISet
theorem t29_ok : TabOK P t29 := t28_ok.aP c_strings_makeASCIISet

def F_strings_asciiSet_contains (d : List G) : Option (List G) :=
 (bif ((nnI (gi d 1).int) && (ltI (gi d 1).int 256)) then some [.t (gi ([[.t (gi (gi d 0).row 0).bool], [.t (gi (gi d 0).row 1).bool], [.t (gi (gi d 0).row 2).bool], [.t (gi (gi d 0).row 3).bool], [.t (gi (gi d 0).row 4).bool], [.t (gi (gi d 0).row 5).bool], [.t (gi (gi d 0).row 6).bool], [.t (gi (gi d 0).row 7).bool], [.t (gi (gi d 0).row 8).bool], [.t (gi (gi d 0).row 9).bool], [.t (gi (gi d 0).row 10).bool], [.t (gi (gi d 0).row 11).bool], [.t (gi (gi d 0).row 12).bool], [.t (gi (gi d 0).row 13).bool], [.t (gi (gi d 0).row 14).bool], [.t (gi (gi d 0).row 15).bool], [.t (gi (gi d 0).row 16).bool], [.t (gi (gi d 0).row 17).bool], [.t (gi (gi d 0).row 18).bool], [.t (gi (gi d 0).row 19).bool], [.t (gi (gi d 0).row 20).bool], [.t (gi (gi d 0).row 21).bool], [.t (gi (gi d 0).row 22).bool], [.t (gi (gi d 0).row 23).bool], [.t (gi (gi d 0).row 24).bool], [.t (gi (gi d 0).row 25).bool], [.t (gi (gi d 0).row 26).bool], [.t (gi (gi d 0).row 27).bool], [.t (gi (gi d 0).row 28).bool], [.t (gi (gi d 0).row 29).bool], [.t (gi (gi d 0).row 30).bool], [.t (gi (gi d 0).row 31).bool], [.t (gi (gi d 0).row 32).bool], [.t (gi (gi d 0).row 33).bool], [.t (gi (gi d 0).row 34).bool], [.t (gi (gi d 0).row 35).bool], [.t (gi (gi d 0).row 36).bool], [.t (gi (gi d 0).row 37).bool], [.t (gi (gi d 0).row 38).bool], [.t (gi (gi d 0).row 39).bool], [.t (gi (gi d 0).row 40).bool], [.t (gi (gi d 0).row 41).bool], [.t (gi (gi d 0).row 42).bool], [.t (gi (gi d 0).row 43).bool], [.t (gi (gi d 0).row 44).bool], [.t (gi (gi d 0).row 45).bool], [.t (gi (gi d 0).row 46).bool], [.t (gi (gi d 0).row 47).bool], [.t (gi (gi d 0).row 48).bool], [.t (gi (gi d 0).row 49).bool], [.t (gi (gi d 0).row 50).bool], [.t (gi (gi d 0).row 51).bool], [.t (gi (gi d 0).row 52).bool], [.t (gi (gi d 0).row 53).bool], [.t (gi (gi d 0).row 54).bool], [.t (gi (gi d 0).row 55).bool], [.t (gi (gi d 0).row 56).bool], [.t (gi (gi d 0).row 57).bool], [.t (gi (gi d 0).row 58).bool], [.t (gi (gi d 0).row 59).bool], [.t (gi (gi d 0).row 60).bool], [.t (gi (gi d 0).row 61).bool], [.t (gi (gi d 0).row 62).bool], [.t (gi (gi d 0).row 63).bool], [.t (gi (gi d 0).row 64).bool], [.t (gi (gi d 0).row 65).bool], [.t (gi (gi d 0).row 66).bool], [.t (gi (gi d 0).row 67).bool], [.t (gi (gi d 0).row 68).bool], [.t (gi (gi d 0).row 69).bool], [.t (gi (gi d 0).row 70).bool], [.t (gi (gi d 0).row 71).bool], [.t (gi (gi d 0).row 72).bool], [.t (gi (gi d 0).row 73).bool], [.t (gi (gi d 0).row 74).bool], [.t (gi (gi d 0).row 75).bool], [.t (gi (gi d 0).row 76).bool], [.t (gi (gi d 0).row 77).bool], [.t (gi (gi d 0).row 78).bool], [.t (gi (gi d 0).row 79).bool], [.t (gi (gi d 0).row 80).bool], [.t (gi (gi d 0).row 81).bool], [.t (gi (gi d 0).row 82).bool], [.t (gi (gi d 0).row 83).bool], [.t (gi (gi d 0).row 84).bool], [.t (gi (gi d 0).row 85).bool], [.t (gi (gi d 0).row 86).bool], [.t (gi (gi d 0).row 87).bool], [.t (gi (gi d 0).row 88).bool], [.t (gi (gi d 0).row 89).bool], [.t (gi (gi d 0).row 90).bool], [.t (gi (gi d 0).row 91).bool], [.t (gi (gi d 0).row 92).bool], [.t (gi (gi d 0).row 93).bool], [.t (gi (gi d 0).row 94).bool], [.t (gi (gi d 0).row 95).bool], [.t (gi (gi d 0).row 96).bool], [.t (gi (gi d 0).row 97).bool], [.t (gi (gi d 0).row 98).bool], [.t (gi (gi d 0).row 99).bool], [.t (gi (gi d 0).row 100).bool], [.t (gi (gi d 0).row 101).bool], [.t (gi (gi d 0).row 102).bool], [.t (gi (gi d 0).row 103).bool], [.t (gi (gi d 0).row 104).bool], [.t (gi (gi d 0).row 105).bool], [.t (gi (gi d 0).row 106).bool], [.t (gi (gi d 0).row 107).bool], [.t (gi (gi d 0).row 108).bool], [.t (gi (gi d 0).row 109).bool], [.t (gi (gi d 0).row 110).bool], [.t (gi (gi d 0).row 111).bool], [.t (gi (gi d 0).row 112).bool], [.t (gi (gi d 0).row 113).bool], [.t (gi (gi d 0).row 114).bool], [.t (gi (gi d 0).row 115).bool], [.t (gi (gi d 0).row 116).bool], [.t (gi (gi d 0).row 117).bool], [.t (gi (gi d 0).row 118).bool], [.t (gi (gi d 0).row 119).bool], [.t (gi (gi d 0).row 120).bool], [.t (gi (gi d 0).row 121).bool], [.t (gi (gi d 0).row 122).bool], [.t (gi (gi d 0).row 123).bool], [.t (gi (gi d 0).row 124).bool], [.t (gi (gi d 0).row 125).bool], [.t (gi (gi d 0).row 126).bool], [.t (gi (gi d 0).row 127).bool], [.t (gi (gi d 0).row 128).bool], [.t (gi (gi d 0).row 129).bool], [.t (gi (gi d 0).row 130).bool], [.t (gi (gi d 0).row 131).bool], [.t (gi (gi d 0).row 132).bool], [.t (gi (gi d 0).row 133).bool], [.t (gi (gi d 0).row 134).bool], [.t (gi (gi d 0).row 135).bool], [.t (gi (gi d 0).row 136).bool], [.t (gi (gi d 0).row 137).bool], [.t (gi (gi d 0).row 138).bool], [.t (gi (gi d 0).row 139).bool], [.t (gi (gi d 0).row 140).bool], [.t (gi (gi d 0).row 141).bool], [.t (gi (gi d 0).row 142).bool], [.t (gi (gi d 0).row 143).bool], [.t (gi (gi d 0).row 144).bool], [.t (gi (gi d 0).row 145).bool], [.t (gi (gi d 0).row 146).bool], [.t (gi (gi d 0).row 147).bool], [.t (gi (gi d 0).row 148).bool], [.t (gi (gi d 0).row 149).bool], [.t (gi (gi d 0).row 150).bool], [.t (gi (gi d 0).row 151).bool], [.t (gi (gi d 0).row 152).bool], [.t (gi (gi d 0).row 153).bool], [.t (gi (gi d 0).row 154).bool], [.t (gi (gi d 0).row 155).bool], [.t (gi (gi d 0).row 156).bool], [.t (gi (gi d 0).row 157).bool], [.t (gi (gi d 0).row 158).bool], [.t (gi (gi d 0).row 159).bool], [.t (gi (gi d 0).row 160).bool], [.t (gi (gi d 0).row 161).bool], [.t (gi (gi d 0).row 162).bool], [.t (gi (gi d 0).row 163).bool], [.t (gi (gi d 0).row 164).bool], [.t (gi (gi d 0).row 165).bool], [.t (gi (gi d 0).row 166).bool], [.t (gi (gi d 0).row 167).bool], [.t (gi (gi d 0).row 168).bool], [.t (gi (gi d 0).row 169).bool], [.t (gi (gi d 0).row 170).bool], [.t (gi (gi d 0).row 171).bool], [.t (gi (gi d 0).row 172).bool], [.t (gi (gi d 0).row 173).bool], [.t (gi (gi d 0).row 174).bool], [.t (gi (gi d 0).row 175).bool], [.t (gi (gi d 0).row 176).bool], [.t (gi (gi d 0).row 177).bool], [.t (gi (gi d 0).row 178).bool], [.t (gi (gi d 0).row 179).bool], [.t (gi (gi d 0).row 180).bool], [.t (gi (gi d 0).row 181).bool], [.t (gi (gi d 0).row 182).bool], [.t (gi (gi d 0).row 183).bool], [.t (gi (gi d 0).row 184).bool], [.t (gi (gi d 0).row 185).bool], [.t (gi (gi d 0).row 186).bool], [.t (gi (gi d 0).row 187).bool], [.t (gi (gi d 0).row 188).bool], [.t (gi (gi d 0).row 189).bool], [.t (gi (gi d 0).row 190).bool], [.t (gi (gi d 0).row 191).bool], [.t (gi (gi d 0).row 192).bool], [.t (gi (gi d 0).row 193).bool], [.t (gi (gi d 0).row 194).bool], [.t (gi (gi d 0).row 195).bool], [.t (gi (gi d 0).row 196).bool], [.t (gi (gi d 0).row 197).bool], [.t (gi (gi d 0).row 198).bool], [.t (gi (gi d 0).row 199).bool], [.t (gi (gi d 0).row 200).bool], [.t (gi (gi d 0).row 201).bool], [.t (gi (gi d 0).row 202).bool], [.t (gi (gi d 0).row 203).bool], [.t (gi (gi d 0).row 204).bool], [.t (gi (gi d 0).row 205).bool], [.t (gi (gi d 0).row 206).bool], [.t (gi (gi d 0).row 207).bool], [.t (gi (gi d 0).row 208).bool], [.t (gi (gi d 0).row 209).bool], [.t (gi (gi d 0).row 210).bool], [.t (gi (gi d 0).row 211).bool], [.t (gi (gi d 0).row 212).bool], [.t (gi (gi d 0).row 213).bool], [.t (gi (gi d 0).row 214).bool], [.t (gi (gi d 0).row 215).bool], [.t (gi (gi d 0).row 216).bool], [.t (gi (gi d 0).row 217).bool], [.t (gi (gi d 0).row 218).bool], [.t (gi (gi d 0).row 219).bool], [.t (gi (gi d 0).row 220).bool], [.t (gi (gi d 0).row 221).bool], [.t (gi (gi d 0).row 222).bool], [.t (gi (gi d 0).row 223).bool], [.t (gi (gi d 0).row 224).bool], [.t (gi (gi d 0).row 225).bool], [.t (gi (gi d 0).row 226).bool], [.t (gi (gi d 0).row 227).bool], [.t (gi (gi d 0).row 228).bool], [.t (gi (gi d 0).row 229).bool], [.t (gi (gi d 0).row 230).bool], [.t (gi (gi d 0).row 231).bool], [.t (gi (gi d 0).row 232).bool], [.t (gi (gi d 0).row 233).bool], [.t (gi (gi d 0).row 234).bool], [.t (gi (gi d 0).row 235).bool], [.t (gi (gi d 0).row 236).bool], [.t (gi (gi d 0).row 237).bool], [.t (gi (gi d 0).row 238).bool], [.t (gi (gi d 0).row 239).bool], [.t (gi (gi d 0).row 240).bool], [.t (gi (gi d 0).row 241).bool], [.t (gi (gi d 0).row 242).bool], [.t (gi (gi d 0).row 243).bool], [.t (gi (gi d 0).row 244).bool], [.t (gi (gi d 0).row 245).bool], [.t (gi (gi d 0).row 246).bool], [.t (gi (gi d 0).row 247).bool], [.t (gi (gi d 0).row 248).bool], [.t (gi (gi d 0).row 249).bool], [.t (gi (gi d 0).row 250).bool], [.t (gi (gi d 0).row 251).bool], [.t (gi (gi d 0).row 252).bool], [.t (gi (gi d 0).row 253).bool], [.t (gi (gi d 0).row 254).bool], [.t (gi (gi d 0).row 255).bool]].getD (((gi d 1).int).toNat) []) 0).bool] else none)
def s_strings_asciiSet_contains : FSpec := ⟨229, [.s (.cptr K256), .s (.int .u8)], [], [], [.s (.bool)], [], [], [], F_strings_asciiSet_contains⟩
theorem b_strings_asciiSet_contains : BodyOK P t29 nL0 Tryz.f229 s_strings_asciiSet_contains := fun d => by kernel_rfl
theorem c_strings_asciiSet_contains : COK P s_strings_asciiSet_contains := bdC hm t29_ok Tryz.func229 (nLk _ _ _) b_strings_asciiSet_contains
def t30 : Tab := t29.addP s_strings_asciiSet_contains
theorem t30_ok : TabOK P t30 := t29_ok.aP c_strings_asciiSet_contains

def F_utf8_RuneStart (d : List G) : Option (List G) :=
 some [.t ((andI .u8 (gi d 0).int 192) != 128)]
def s_utf8_RuneStart : FSpec := ⟨259, [.s (.int .u8)], [], [], [.s (.bool)], [], [], [], F_utf8_RuneStart⟩
theorem b_utf8_RuneStart : BodyOK P t30 nL0 Tryz.f259 s_utf8_RuneStart := fun d => by kernel_rfl
theorem c_utf8_RuneStart : COK P s_utf8_RuneStart := bdC hm t30_ok Tryz.func259 (nLk _ _ _) b_utf8_RuneStart
def t31 : Tab := t30.addP s_utf8_RuneStart
theorem t31_ok : TabOK P t31 := t30_ok.aP c_utf8_RuneStart

def F_utf8_decodeRuneInStringSlow (d : List G) : Option (List G) :=
 (bif (ltI (((gi d 0).str.size : Nat) : Int) 1) then some [.i 65533, .i 0] else (bif (ltI 0 (((gi d 0).str.size : Nat) : Int)) then none else none))
def s_utf8_decodeRuneInStringSlow : FSpec := ⟨260, [.s (.str)], [], [], [.s (.int .i32), .s (.int .i64)], [], [], [], F_utf8_decodeRuneInStringSlow⟩
theorem b_utf8_decodeRuneInStringSlow : BodyOK P t31 nL0 Tryz.f260 s_utf8_decodeRuneInStringSlow := fun d => by kernel_rfl
theorem c_utf8_decodeRuneInStringSlow : COK P s_utf8_decodeRuneInStringSlow := bdC hm t31_ok Tryz.func260 (nLk _ _ _) b_utf8_decodeRuneInStringSlow
def t32 : Tab := t31.addP s_utf8_decodeRuneInStringSlow
theorem t32_ok : TabOK P t32 := t31_ok.aP c_utf8_decodeRuneInStringSlow

def F_utf8_DecodeRuneInString (d : List G) : Option (List G) :=
 (bif (!((gi d 0).str.toList == (⟨#[]⟩ : ByteArray).toList)) then (bif (ltI 0 (((gi d 0).str.size : Nat) : Int)) then (bif (ltI (((gi d 0).str.data.toList.getD 0 0).toNat : Int) 128) then (bif (ltI 0 (((gi d 0).str.size : Nat) : Int)) then some [.i (IntKind.i32.wrap (((gi d 0).str.data.toList.getD 0 0).toNat : Int)), .i 1] else none) else (callF (F_utf8_decodeRuneInStringSlow [.s (gi d 0).str]) fun g1 => some [.i (gi g1 0).int, .i (gi g1 1).int])) else none) else (callF (F_utf8_decodeRuneInStringSlow [.s (gi d 0).str]) fun g2 => some [.i (gi g2 0).int, .i (gi g2 1).int]))
def s_utf8_DecodeRuneInString : FSpec := ⟨233, [.s (.str)], [], [], [.s (.int .i32), .s (.int .i64)], [], [], [], F_utf8_DecodeRuneInString⟩
theorem b_utf8_DecodeRuneInString : BodyOK P t32 nL0 Tryz.f233 s_utf8_DecodeRuneInString := fun d => by kernel_rfl
theorem c_utf8_DecodeRuneInString : COK P s_utf8_DecodeRuneInString := bdC hm t32_ok Tryz.func233 (nLk _ _ _) b_utf8_DecodeRuneInString
def t33 : Tab := t32.addP s_utf8_DecodeRuneInString
theorem t33_ok : TabOK P t33 := t32_ok.aP c_utf8_DecodeRuneInString

def st_utf8_DecodeLastRuneInString_10 (d : List G) : Option (Option Nat × List G) :=
 (bif (leI (gi d 3).int (gi d 2).int) then (bif ((nnI (gi d 2).int) && (ltI (gi d 2).int (((gi d 0).str.size : Nat) : Int))) then (callF (F_utf8_RuneStart [.i (((gi d 0).str.data.toList.getD (((gi d 2).int).toNat) 0).toNat : Int)]) fun g1 => (bif (gi g1 0).bool then some (some 0, [.s (gi d 0).str, .i (gi d 1).int, .i (gi d 2).int]) else (bif (inI ((gi d 2).int - 1)) then some (none, [.s (gi d 0).str, .i (gi d 1).int, .i ((gi d 2).int - 1), .i (gi d 3).int]) else none))) else none) else some (some 0, [.s (gi d 0).str, .i (gi d 1).int, .i (gi d 2).int]))
def l_utf8_DecodeLastRuneInString_10 : LSpec := ⟨10, [], ⟨51, [(0, .s (.str)), (4, .s (.int .i64)), (5, .s (.int .i64)), (6, .s (.int .i64))], []⟩, [], [⟨.exit 0, ⟨51, [(0, .s (.str)), (4, .s (.int .i64)), (5, .s (.int .i64))], []⟩, []⟩], st_utf8_DecodeLastRuneInString_10⟩
theorem r_utf8_DecodeLastRuneInString_10 : RoundOK P t33 nL0 0 (loopAt Tryz.f230 10) l_utf8_DecodeLastRuneInString_10 := fun d => by kernel_rfl
def L_utf8_DecodeLastRuneInString_10 : LT := nL0.add 0 l_utf8_DecodeLastRuneInString_10
theorem L_utf8_DecodeLastRuneInString_10_ok : LpK P 0 L_utf8_DecodeLastRuneInString_10 (bodyOf Tryz.f230) := LpK.a hm t33_ok (nLk _ _ _) r_utf8_DecodeLastRuneInString_10
def F_utf8_DecodeLastRuneInString (d : List G) : Option (List G) :=
 (bif ((((gi d 0).str.size : Nat) : Int) == 0) then some [.i 65533, .i 0] else (bif (inI ((((gi d 0).str.size : Nat) : Int) - 1)) then (bif ((nnI ((((gi d 0).str.size : Nat) : Int) - 1)) && (ltI ((((gi d 0).str.size : Nat) : Int) - 1) (((gi d 0).str.size : Nat) : Int))) then (bif (ltI (IntKind.i32.wrap (((gi d 0).str.data.toList.getD (((((gi d 0).str.size : Nat) : Int) - 1).toNat) 0).toNat : Int)) 128) then some [.i (IntKind.i32.wrap (((gi d 0).str.data.toList.getD (((((gi d 0).str.size : Nat) : Int) - 1).toNat) 0).toNat : Int)), .i 1] else (bif (inI ((((gi d 0).str.size : Nat) : Int) - 4)) then (bif (inI (((((gi d 0).str.size : Nat) : Int) - 1) - 1)) then (loopB true (LRun st_utf8_DecodeLastRuneInString_10 [.s (gi d 0).str, .i (((gi d 0).str.size : Nat) : Int), .i (((((gi d 0).str.size : Nat) : Int) - 1) - 1), .i (if 0 > ((((gi d 0).str.size : Nat) : Int) - 4) then 0 else ((((gi d 0).str.size : Nat) : Int) - 4))]) fun cg2 g2 => (bif (ltI (gi g2 2).int 0) then (bif ((leI 0 (gi g2 1).int) && (leI (gi g2 1).int (((gi g2 0).str.size : Nat) : Int))) then (callF (F_utf8_DecodeRuneInString [.s ((gi g2 0).str.extract 0 ((gi g2 1).int).toNat)]) fun g3 => (bif (inI (0 + (gi g3 1).int)) then (bif ((0 + (gi g3 1).int) != (gi g2 1).int) then some [.i 65533, .i 1] else some [.i (gi g3 0).int, .i (gi g3 1).int]) else none)) else none) else (bif ((nnI (gi g2 2).int) && ((leI (gi g2 2).int (gi g2 1).int) && (leI (gi g2 1).int (((gi g2 0).str.size : Nat) : Int)))) then (callF (F_utf8_DecodeRuneInString [.s ((gi g2 0).str.extract ((gi g2 2).int).toNat ((gi g2 1).int).toNat)]) fun g4 => (bif (inI ((gi g2 2).int + (gi g4 1).int)) then (bif (((gi g2 2).int + (gi g4 1).int) != (gi g2 1).int) then some [.i 65533, .i 1] else some [.i (gi g4 0).int, .i (gi g4 1).int]) else none)) else none))) else none) else none)) else none) else none))
def s_utf8_DecodeLastRuneInString : FSpec := ⟨230, [.s (.str)], [], [], [.s (.int .i32), .s (.int .i64)], [], [], [], F_utf8_DecodeLastRuneInString⟩
theorem b_utf8_DecodeLastRuneInString : BodyOK P t33 L_utf8_DecodeLastRuneInString_10 Tryz.f230 s_utf8_DecodeLastRuneInString := fun d => by kernel_rfl
theorem c_utf8_DecodeLastRuneInString : COK P s_utf8_DecodeLastRuneInString := bdC hm t33_ok Tryz.func230 L_utf8_DecodeLastRuneInString_10_ok b_utf8_DecodeLastRuneInString
def t34 : Tab := t33.addP s_utf8_DecodeLastRuneInString
theorem t34_ok : TabOK P t34 := t33_ok.aP c_utf8_DecodeLastRuneInString

def st_strings_LastIndexAny_14 (d : List G) : Option (Option Nat × List G) :=
 (bif (leI 0 (gi d 2).int) then (bif ((nnI (gi d 2).int) && (ltI (gi d 2).int (((gi d 0).str.size : Nat) : Int))) then (callF (F_strings_asciiSet_contains [.l [(gEta K256 (gi d 1).row)], .i (((gi d 0).str.data.toList.getD (((gi d 2).int).toNat) 0).toNat : Int)]) fun g5 => (bif (gi g5 0).bool then some (some 0, [.i (gi d 2).int]) else (bif (inI ((gi d 2).int - 1)) then some (none, [.s (gi d 0).str, .l [(gEta K256 (gi d 1).row)], .i ((gi d 2).int - 1)]) else none))) else none) else some (some 1, []))
def l_strings_LastIndexAny_14 : LSpec := ⟨14, [], ⟨96, [(0, .s (.str)), (6, .s (.cptr K256)), (8, .s (.int .i64))], []⟩, [], [⟨.ret, ⟨96, [(4, .s (.int .i64))], []⟩, []⟩, ⟨.exit 0, ⟨96, [], []⟩, []⟩], st_strings_LastIndexAny_14⟩
theorem r_strings_LastIndexAny_14 : RoundOK P t34 nL0 0 (loopAt Tryz.f184 14) l_strings_LastIndexAny_14 := fun d => by kernel_rfl
def L_strings_LastIndexAny_14 : LT := nL0.add 0 l_strings_LastIndexAny_14
theorem L_strings_LastIndexAny_14_ok : LpK P 0 L_strings_LastIndexAny_14 (bodyOf Tryz.f184) := LpK.a hm t34_ok (nLk _ _ _) r_strings_LastIndexAny_14
def st_strings_LastIndexAny_24 (d : List G) : Option (Option Nat × List G) :=
 (bif (ltI 0 (gi d 2).int) then (bif ((nnI (gi d 2).int) && (leI (gi d 2).int (((gi d 0).str.size : Nat) : Int))) then (callF (F_utf8_DecodeLastRuneInString [.s ((gi d 0).str.extract 0 ((gi d 2).int).toNat)]) fun g7 => (bif (inI ((gi d 2).int - (gi g7 1).int)) then (bif ((gi d 1).int == (gi g7 0).int) then some (some 0, [.i ((gi d 2).int - (gi g7 1).int)]) else some (none, [.s (gi d 0).str, .i (gi d 1).int, .i ((gi d 2).int - (gi g7 1).int)])) else none)) else none) else some (some 1, []))
def l_strings_LastIndexAny_24 : LSpec := ⟨24, [], ⟨96, [(0, .s (.str)), (9, .s (.int .i32)), (10, .s (.int .i64))], []⟩, [], [⟨.ret, ⟨96, [(4, .s (.int .i64))], []⟩, []⟩, ⟨.exit 2, ⟨96, [], []⟩, []⟩], st_strings_LastIndexAny_24⟩
theorem r_strings_LastIndexAny_24 : RoundOK P t34 L_strings_LastIndexAny_14 0 (loopAt Tryz.f184 24) l_strings_LastIndexAny_24 := fun d => by kernel_rfl
def L_strings_LastIndexAny_24 : LT := L_strings_LastIndexAny_14.add 0 l_strings_LastIndexAny_24
theorem L_strings_LastIndexAny_24_ok : LpK P 0 L_strings_LastIndexAny_24 (bodyOf Tryz.f184) := LpK.a hm t34_ok L_strings_LastIndexAny_14_ok r_strings_LastIndexAny_24
def st_strings_LastIndexAny_31 (d : List G) : Option (Option Nat × List G) :=
 (bif (ltI 0 (gi d 2).int) then (bif ((nnI (gi d 2).int) && (leI (gi d 2).int (((gi d 0).str.size : Nat) : Int))) then (callF (F_utf8_DecodeLastRuneInString [.s ((gi d 0).str.extract 0 ((gi d 2).int).toNat)]) fun g10 => (bif (inI ((gi d 2).int - (gi g10 1).int)) then (callF (F_strings_IndexRune [.s (gi d 1).str, .i (gi g10 0).int]) fun g11 => (bif (leI 0 (gi g11 0).int) then some (some 0, [.i ((gi d 2).int - (gi g10 1).int)]) else some (none, [.s (gi d 0).str, .s (gi d 1).str, .i ((gi d 2).int - (gi g10 1).int)]))) else none)) else none) else some (some 1, []))
def l_strings_LastIndexAny_31 : LSpec := ⟨31, [], ⟨96, [(0, .s (.str)), (1, .s (.str)), (13, .s (.int .i64))], []⟩, [], [⟨.ret, ⟨96, [(4, .s (.int .i64))], []⟩, []⟩, ⟨.exit 4, ⟨96, [], []⟩, []⟩], st_strings_LastIndexAny_31⟩
theorem r_strings_LastIndexAny_31 : RoundOK P t34 L_strings_LastIndexAny_24 0 (loopAt Tryz.f184 31) l_strings_LastIndexAny_31 := fun d => by kernel_rfl
def L_strings_LastIndexAny_31 : LT := L_strings_LastIndexAny_24.add 0 l_strings_LastIndexAny_31
theorem L_strings_LastIndexAny_31_ok : LpK P 0 L_strings_LastIndexAny_31 (bodyOf Tryz.f184) := LpK.a hm t34_ok L_strings_LastIndexAny_24_ok r_strings_LastIndexAny_31
def F_strings_LastIndexAny (d : List G) : Option (List G) :=
 (bif ((gi d 1).str.toList == (⟨#[]⟩ : ByteArray).toList) then some [.i (-1)] else (bif ((((gi d 0).str.size : Nat) : Int) == 1) then (bif (ltI 0 (((gi d 0).str.size : Nat) : Int)) then (bif (leI 128 (IntKind.i32.wrap (((gi d 0).str.data.toList.getD 0 0).toNat : Int))) then (callF (F_strings_IndexRune [.s (gi d 1).str, .i 65533]) fun g1 => (bif (leI 0 (gi g1 0).int) then some [.i 0] else some [.i (-1)])) else (callF (F_strings_IndexRune [.s (gi d 1).str, .i (IntKind.i32.wrap (((gi d 0).str.data.toList.getD 0 0).toNat : Int))]) fun g2 => (bif (leI 0 (gi g2 0).int) then some [.i 0] else some [.i (-1)]))) else none) else (callF (F_strings_shouldUseASCIISet [.i (((gi d 0).str.size : Nat) : Int)]) fun g3 => (bif (gi g3 0).bool then (callF (F_strings_makeASCIISet [.s (gi d 1).str]) fun g4 => (bif (gi g4 1).bool then (bif (inI ((((gi d 0).str.size : Nat) : Int) - 1)) then (loopB true (LRun st_strings_LastIndexAny_14 [.s (gi d 0).str, .l [(gEta K256 (gi g4 0).row)], .i ((((gi d 0).str.size : Nat) : Int) - 1)]) fun cg6 g6 => (bif Nat.beq cg6 0 then some [.i (gi g6 0).int] else some [.i (-1)])) else none) else (bif ((((gi d 1).str.size : Nat) : Int) == 1) then (bif (ltI 0 (((gi d 1).str.size : Nat) : Int)) then (bif (leI 128 (IntKind.i32.wrap (((gi d 1).str.data.toList.getD 0 0).toNat : Int))) then (loopB true (LRun st_strings_LastIndexAny_24 [.s (gi d 0).str, .i 65533, .i (((gi d 0).str.size : Nat) : Int)]) fun cg8 g8 => (bif Nat.beq cg8 0 then some [.i (gi g8 0).int] else some [.i (-1)])) else (loopB true (LRun st_strings_LastIndexAny_24 [.s (gi d 0).str, .i (IntKind.i32.wrap (((gi d 1).str.data.toList.getD 0 0).toNat : Int)), .i (((gi d 0).str.size : Nat) : Int)]) fun cg9 g9 => (bif Nat.beq cg9 0 then some [.i (gi g9 0).int] else some [.i (-1)]))) else none) else (loopB true (LRun st_strings_LastIndexAny_31 [.s (gi d 0).str, .s (gi d 1).str, .i (((gi d 0).str.size : Nat) : Int)]) fun cg12 g12 => (bif Nat.beq cg12 0 then some [.i (gi g12 0).int] else some [.i (-1)]))))) else (bif ((((gi d 1).str.size : Nat) : Int) == 1) then (bif (ltI 0 (((gi d 1).str.size : Nat) : Int)) then (bif (leI 128 (IntKind.i32.wrap (((gi d 1).str.data.toList.getD 0 0).toNat : Int))) then (loopB true (LRun st_strings_LastIndexAny_24 [.s (gi d 0).str, .i 65533, .i (((gi d 0).str.size : Nat) : Int)]) fun cg13 g13 => (bif Nat.beq cg13 0 then some [.i (gi g13 0).int] else some [.i (-1)])) else (loopB true (LRun st_strings_LastIndexAny_24 [.s (gi d 0).str, .i (IntKind.i32.wrap (((gi d 1).str.data.toList.getD 0 0).toNat : Int)), .i (((gi d 0).str.size : Nat) : Int)]) fun cg14 g14 => (bif Nat.beq cg14 0 then some [.i (gi g14 0).int] else some [.i (-1)]))) else none) else (loopB true (LRun st_strings_LastIndexAny_31 [.s (gi d 0).str, .s (gi d 1).str, .i (((gi d 0).str.size : Nat) : Int)]) fun cg15 g15 => (bif Nat.beq cg15 0 then some [.i (gi g15 0).int] else some [.i (-1)])))))))
def s_strings_LastIndexAny : FSpec := ⟨184, [.s (.str), .s (.str)], [], [], [.s (.int .i64)], [], [], [], F_strings_LastIndexAny⟩
theorem b_strings_LastIndexAny : BodyOK P t34 L_strings_LastIndexAny_31 Tryz.f184 s_strings_LastIndexAny := fun d => by kernel_rfl
theorem c_strings_LastIndexAny : COK P s_strings_LastIndexAny := bdC hm t34_ok Tryz.func184 L_strings_LastIndexAny_31_ok b_strings_LastIndexAny
def t35 : Tab := t34.addP s_strings_LastIndexAny
theorem t35_ok : TabOK P t35 := t34_ok.aP c_strings_LastIndexAny

def F_r1_in (d : List G) : Option (List G) :=
 (bif (leI (gi d 1).int (gi d 0).int) then some [.t (leI (gi d 0).int (gi d 2).int)] else some [.t false])
def s_r1_in : FSpec := ⟨186, [.s (.int .i64), .s (.int .i64), .s (.int .i64)], [], [], [.s (.bool)], [], [], [], F_r1_in⟩
theorem b_r1_in : BodyOK P t35 nL0 Tryz.f186 s_r1_in := fun d => by kernel_rfl
theorem c_r1_in : COK P s_r1_in := bdC hm t35_ok Tryz.func186 (nLk _ _ _) b_r1_in
def t36 : Tab := t35.addP s_r1_in
theorem t36_ok : TabOK P t36 := t35_ok.aP c_r1_in

def F_strings_Contains (d : List G) : Option (List G) :=
 has1F d
def s_strings_Contains : FSpec := ⟨146, [.s (.str), .s (.str)], [], [], [.s (.bool)], [], [], [], F_strings_Contains⟩
theorem c_strings_Contains : ∀ d r, F_strings_Contains d = some r → ACallX P 146 (s_strings_Contains.args0 d) (denH (s_strings_Contains.H0 d)) (s_strings_Contains.out r) (denH (s_strings_Contains.H1 r)) := fun d r h => has_call Tryz.laysHas d r h
def t37 : Tab := t36.addP s_strings_Contains
theorem t37_ok : TabOK P t37 := t36_ok.aP c_strings_Contains

def st_r2_only_2 (d : List G) : Option (Option Nat × List G) :=
 (bif (ltI (gi d 3).int (gi d 2).int) then (bif ((nnI (gi d 3).int) && (ltI (gi d 3).int (((gi d 0).str.size : Nat) : Int))) then (callF (F_strings_IndexByte [.s (gi d 1).str, .i (((gi d 0).str.data.toList.getD (((gi d 3).int).toNat) 0).toNat : Int)]) fun g1 => (bif (ltI (gi g1 0).int 0) then some (some 0, [.t false]) else (bif (inI ((gi d 3).int + 1)) then some (none, [.s (gi d 0).str, .s (gi d 1).str, .i (gi d 2).int, .i ((gi d 3).int + 1)]) else none))) else none) else some (some 1, []))
def l_r2_only_2 : LSpec := ⟨2, [], ⟨18, [(0, .s (.str)), (1, .s (.str)), (7, .s (.int .i64)), (8, .s (.int .i64))], []⟩, [], [⟨.ret, ⟨18, [(4, .s (.bool))], []⟩, []⟩, ⟨.exit 0, ⟨18, [], []⟩, []⟩], st_r2_only_2⟩
theorem r_r2_only_2 : RoundOK P t37 nL0 0 (loopAt Tryz.f129 2) l_r2_only_2 := fun d => by kernel_rfl
def L_r2_only_2 : LT := nL0.add 0 l_r2_only_2
theorem L_r2_only_2_ok : LpK P 0 L_r2_only_2 (bodyOf Tryz.f129) := LpK.a hm t37_ok (nLk _ _ _) r_r2_only_2
def F_r2_only (d : List G) : Option (List G) :=
 (loopB true (LRun st_r2_only_2 [.s (gi d 0).str, .s (gi d 1).str, .i (((gi d 0).str.size : Nat) : Int), .i 0]) fun cg2 g2 => (bif Nat.beq cg2 0 then some [.t (gi g2 0).bool] else some [.t true]))
def s_r2_only : FSpec := ⟨129, [.s (.str), .s (.str)], [], [], [.s (.bool)], [], [], [], F_r2_only⟩
theorem b_r2_only : BodyOK P t37 L_r2_only_2 Tryz.f129 s_r2_only := fun d => by kernel_rfl
theorem c_r2_only : COK P s_r2_only := bdC hm t37_ok Tryz.func129 L_r2_only_2_ok b_r2_only
def t38 : Tab := t37.addP s_r2_only
theorem t38_ok : TabOK P t38 := t37_ok.aP c_r2_only

def F_r2_Key (d : List G) : Option (List G) :=
 (callF (F_r2_in [.i (((gi d 0).str.size : Nat) : Int), .i 1, .i 40]) fun g1 => (bif (gi g1 0).bool then (bif (leI 1 (((gi d 0).str.size : Nat) : Int)) then (callF (F_r2_only [.s ((gi d 0).str.extract 0 1), .s (⟨#[97, 98, 99, 100, 101, 102, 103, 104, 105, 106, 107, 108, 109, 110, 111, 112, 113, 114, 115, 116, 117, 118, 119, 120, 121, 122]⟩ : ByteArray)]) fun g2 => (bif (gi g2 0).bool then (callF (F_r2_only [.s (gi d 0).str, .s (⟨#[97, 98, 99, 100, 101, 102, 103, 104, 105, 106, 107, 108, 109, 110, 111, 112, 113, 114, 115, 116, 117, 118, 119, 120, 121, 122, 48, 49, 50, 51, 52, 53, 54, 55, 56, 57, 45, 95]⟩ : ByteArray)]) fun g3 => some [.t (gi g3 0).bool]) else some [.t false])) else none) else some [.t false]))
def s_r2_Key : FSpec := ⟨85, [.s (.str)], [], [], [.s (.bool)], [], [], [], F_r2_Key⟩
theorem b_r2_Key : BodyOK P t38 nL0 Tryz.f85 s_r2_Key := fun d => by kernel_rfl
theorem c_r2_Key : COK P s_r2_Key := bdC hm t38_ok Tryz.func85 (nLk _ _ _) b_r2_Key
def t39 : Tab := t38.addP s_r2_Key
theorem t39_ok : TabOK P t39 := t38_ok.aP c_r2_Key

def F_r2_cardWords (d : List G) : Option (List G) :=
 some [.l [[.s (⟨#[]⟩ : ByteArray)], [.s (⟨#[115, 101, 110, 116]⟩ : ByteArray)], [.s (⟨#[99, 97, 109, 101]⟩ : ByteArray)], [.s (⟨#[114, 101, 116, 117, 114, 110, 101, 100]⟩ : ByteArray)]]]
def s_r2_cardWords : FSpec := ⟨87, [], [], [], [.s (.list [.str])], [], [], [], F_r2_cardWords⟩
theorem b_r2_cardWords : BodyOK P t39 nL0 Tryz.f87 s_r2_cardWords := fun d => by kernel_rfl
theorem c_r2_cardWords : COK P s_r2_cardWords := bdC hm t39_ok Tryz.func87 (nLk _ _ _) b_r2_cardWords
def t40 : Tab := t39.addP s_r2_cardWords
theorem t40_ok : TabOK P t40 := t39_ok.aP c_r2_cardWords

def F_r2_plainModes (d : List G) : Option (List G) :=
 some [.l [[.s (⟨#[]⟩ : ByteArray)], [.s (⟨#[99, 111, 100, 101]⟩ : ByteArray)], [.s (⟨#[118, 111, 105, 99, 101]⟩ : ByteArray)], [.s (⟨#[100, 97, 116, 97]⟩ : ByteArray)]]]
def s_r2_plainModes : FSpec := ⟨88, [], [], [], [.s (.list [.str])], [], [], [], F_r2_plainModes⟩
theorem b_r2_plainModes : BodyOK P t40 nL0 Tryz.f88 s_r2_plainModes := fun d => by kernel_rfl
theorem c_r2_plainModes : COK P s_r2_plainModes := bdC hm t40_ok Tryz.func88 (nLk _ _ _) b_r2_plainModes
def t41 : Tab := t40.addP s_r2_plainModes
theorem t41_ok : TabOK P t41 := t40_ok.aP c_r2_plainModes

def F_mk_Changed (d : List G) : Option (List G) :=
 (bif ((gi d 2).str.toList == (⟨#[]⟩ : ByteArray).toList) then some [.l (gi d 0).rows, .i (gi d 1).int, .s (gi d 3).str] else (bif ((gi d 3).str.toList == (⟨#[]⟩ : ByteArray).toList) then some [.l (gi d 0).rows, .i (gi d 1).int, .s (gi d 3).str] else (callF (F_mk_Next [.l (gi d 0).rows, .i (gi d 1).int, .i (((gi d 2).str.size : Nat) : Int)]) fun g1 => (callF (F_mk_Next [.l (gi g1 0).rows, .i (gi g1 1).int, .i (((gi d 3).str.size : Nat) : Int)]) fun g2 => (bif ((nnI (gi g2 2).int) && (ltI (gi g2 2).int (((gi d 3).str.size : Nat) : Int))) then (callF (F_mk_Next [.l (gi g2 0).rows, .i (gi g2 1).int, .i 3]) fun g3 => (bif ((gi g3 2).int == 0) then (bif ((nnI (gi g1 2).int) && (leI (gi g1 2).int (((gi d 2).str.size : Nat) : Int))) then (bif (Nat.ble (((gi d 2).str.extract 0 ((gi g1 2).int).toNat).size + (Utf8.encode (IntKind.i32.wrap (((gi d 3).str.data.toList.getD (((gi g2 2).int).toNat) 0).toNat : Int))).size) 9223372036854775807) then (bif (inI ((gi g1 2).int + 1)) then (bif ((nnI ((gi g1 2).int + 1)) && (leI ((gi g1 2).int + 1) (((gi d 2).str.size : Nat) : Int))) then (bif (Nat.ble ((((gi d 2).str.extract 0 ((gi g1 2).int).toNat) ++ (Utf8.encode (IntKind.i32.wrap (((gi d 3).str.data.toList.getD (((gi g2 2).int).toNat) 0).toNat : Int)))).size + ((gi d 2).str.extract ((gi g1 2).int + 1).toNat (gi d 2).str.size).size) 9223372036854775807) then some [.l (gi g3 0).rows, .i (gi g3 1).int, .s ((((gi d 2).str.extract 0 ((gi g1 2).int).toNat) ++ (Utf8.encode (IntKind.i32.wrap (((gi d 3).str.data.toList.getD (((gi g2 2).int).toNat) 0).toNat : Int)))) ++ ((gi d 2).str.extract ((gi g1 2).int + 1).toNat (gi d 2).str.size))] else none) else none) else none) else none) else none) else (bif ((gi g3 2).int == 1) then (bif ((nnI (gi g1 2).int) && (leI (gi g1 2).int (((gi d 2).str.size : Nat) : Int))) then (bif (Nat.ble (((gi d 2).str.extract 0 ((gi g1 2).int).toNat).size + (Utf8.encode (IntKind.i32.wrap (((gi d 3).str.data.toList.getD (((gi g2 2).int).toNat) 0).toNat : Int))).size) 9223372036854775807) then (bif ((nnI (gi g1 2).int) && (leI (gi g1 2).int (((gi d 2).str.size : Nat) : Int))) then (bif (Nat.ble ((((gi d 2).str.extract 0 ((gi g1 2).int).toNat) ++ (Utf8.encode (IntKind.i32.wrap (((gi d 3).str.data.toList.getD (((gi g2 2).int).toNat) 0).toNat : Int)))).size + ((gi d 2).str.extract ((gi g1 2).int).toNat (gi d 2).str.size).size) 9223372036854775807) then some [.l (gi g3 0).rows, .i (gi g3 1).int, .s ((((gi d 2).str.extract 0 ((gi g1 2).int).toNat) ++ (Utf8.encode (IntKind.i32.wrap (((gi d 3).str.data.toList.getD (((gi g2 2).int).toNat) 0).toNat : Int)))) ++ ((gi d 2).str.extract ((gi g1 2).int).toNat (gi d 2).str.size))] else none) else none) else none) else none) else (bif ((nnI (gi g1 2).int) && (leI (gi g1 2).int (((gi d 2).str.size : Nat) : Int))) then (bif (inI ((gi g1 2).int + 1)) then (bif ((nnI ((gi g1 2).int + 1)) && (leI ((gi g1 2).int + 1) (((gi d 2).str.size : Nat) : Int))) then (bif (Nat.ble (((gi d 2).str.extract 0 ((gi g1 2).int).toNat).size + ((gi d 2).str.extract ((gi g1 2).int + 1).toNat (gi d 2).str.size).size) 9223372036854775807) then some [.l (gi g3 0).rows, .i (gi g3 1).int, .s (((gi d 2).str.extract 0 ((gi g1 2).int).toNat) ++ ((gi d 2).str.extract ((gi g1 2).int + 1).toNat (gi d 2).str.size))] else none) else none) else none) else none)))) else none)))))
def s_mk_Changed : FSpec := ⟨44, [.s (.ptr 0 0), .s (.str), .s (.str)], [.box [.list [.int .i64], .int .i64]], [.slot 0], [.s (.str)], [.box [.list [.int .i64], .int .i64]], [.fix 0], [], F_mk_Changed⟩
theorem b_mk_Changed : BodyOK P t41 nL0 Tryz.f44 s_mk_Changed := fun d => by kernel_rfl
theorem c_mk_Changed : COK P s_mk_Changed := bdC hm t41_ok Tryz.func44 (nLk _ _ _) b_mk_Changed
def t42 : Tab := t41.addW s_mk_Changed
theorem t42_ok : TabOK P t42 := t41_ok.aW c_mk_Changed

def F_kit_Outside (d : List G) : Option (List G) :=
 (bif (ltI (gi d 0).int (gi d 1).int) then some [.t true] else some [.t (ltI (gi d 2).int (gi d 0).int)])
def s_kit_Outside : FSpec := ⟨99, [.s (.int .i64), .s (.int .i64), .s (.int .i64)], [], [], [.s (.bool)], [], [], [], F_kit_Outside⟩
theorem b_kit_Outside : BodyOK P t42 nL0 Tryz.f99 s_kit_Outside := fun d => by kernel_rfl
theorem c_kit_Outside : COK P s_kit_Outside := bdC hm t42_ok Tryz.func99 (nLk _ _ _) b_kit_Outside
def t43 : Tab := t42.addP s_kit_Outside
theorem t43_ok : TabOK P t43 := t42_ok.aP c_kit_Outside

def F_kit_IsMoment (d : List G) : Option (List G) :=
 (callF (F_kit_Outside [.i (gi d 0).int, .i 0, .i 345686399999]) fun g1 => some [.t (!(gi g1 0).bool)])
def s_kit_IsMoment : FSpec := ⟨98, [.s (.int .i64)], [], [], [.s (.bool)], [], [], [], F_kit_IsMoment⟩
theorem b_kit_IsMoment : BodyOK P t43 nL0 Tryz.f98 s_kit_IsMoment := fun d => by kernel_rfl
theorem c_kit_IsMoment : COK P s_kit_IsMoment := bdC hm t43_ok Tryz.func98 (nLk _ _ _) b_kit_IsMoment
def t44 : Tab := t43.addP s_kit_IsMoment
theorem t44_ok : TabOK P t44 := t43_ok.aP c_kit_IsMoment

def F_kit_IsMode (d : List G) : Option (List G) :=
 (callF (F_kit_Outside [.i (gi d 0).int, .i 1, .i 3]) fun g1 => some [.t (!(gi g1 0).bool)])
def s_kit_IsMode : FSpec := ⟨112, [.s (.int .i64)], [], [], [.s (.bool)], [], [], [], F_kit_IsMode⟩
theorem b_kit_IsMode : BodyOK P t44 nL0 Tryz.f112 s_kit_IsMode := fun d => by kernel_rfl
theorem c_kit_IsMode : COK P s_kit_IsMode := bdC hm t44_ok Tryz.func112 (nLk _ _ _) b_kit_IsMode
def t45 : Tab := t44.addP s_kit_IsMode
theorem t45_ok : TabOK P t45 := t44_ok.aP c_kit_IsMode

def F_call_isLetter (d : List G) : Option (List G) :=
 (bif (leI 97 (gi d 0).int) then some [.t (leI (gi d 0).int 122)] else some [.t false])
def s_call_isLetter : FSpec := ⟨255, [.s (.int .u8)], [], [], [.s (.bool)], [], [], [], F_call_isLetter⟩
theorem b_call_isLetter : BodyOK P t45 nL0 Tryz.f255 s_call_isLetter := fun d => by kernel_rfl
theorem c_call_isLetter : COK P s_call_isLetter := bdC hm t45_ok Tryz.func255 (nLk _ _ _) b_call_isLetter
def t46 : Tab := t45.addP s_call_isLetter
theorem t46_ok : TabOK P t46 := t45_ok.aP c_call_isLetter

def F_call_isDigit (d : List G) : Option (List G) :=
 (bif (leI 48 (gi d 0).int) then some [.t (leI (gi d 0).int 57)] else some [.t false])
def s_call_isDigit : FSpec := ⟨221, [.s (.int .u8)], [], [], [.s (.bool)], [], [], [], F_call_isDigit⟩
theorem b_call_isDigit : BodyOK P t46 nL0 Tryz.f221 s_call_isDigit := fun d => by kernel_rfl
theorem c_call_isDigit : COK P s_call_isDigit := bdC hm t46_ok Tryz.func221 (nLk _ _ _) b_call_isDigit
def t47 : Tab := t46.addP s_call_isDigit
theorem t47_ok : TabOK P t47 := t46_ok.aP c_call_isDigit

def st_call_isPlain_2 (d : List G) : Option (Option Nat × List G) :=
 (bif (ltI (gi d 3).int (gi d 2).int) then (bif ((nnI (gi d 3).int) && (ltI (gi d 3).int (((gi d 0).str.size : Nat) : Int))) then (callF (F_call_isLetter [.i (((gi d 0).str.data.toList.getD (((gi d 3).int).toNat) 0).toNat : Int)]) fun g1 => (bif (gi g1 0).bool then (bif (inI ((gi d 1).int + 1)) then (bif (inI ((gi d 3).int + 1)) then some (none, [.s (gi d 0).str, .i ((gi d 1).int + 1), .i (gi d 2).int, .i ((gi d 3).int + 1)]) else none) else none) else (bif ((nnI (gi d 3).int) && (ltI (gi d 3).int (((gi d 0).str.size : Nat) : Int))) then (callF (F_call_isDigit [.i (((gi d 0).str.data.toList.getD (((gi d 3).int).toNat) 0).toNat : Int)]) fun g2 => (bif (!(gi g2 0).bool) then some (some 0, [.i 0, .t false]) else (bif (inI ((gi d 3).int + 1)) then some (none, [.s (gi d 0).str, .i (gi d 1).int, .i (gi d 2).int, .i ((gi d 3).int + 1)]) else none))) else none))) else none) else some (some 1, [.i (gi d 1).int]))
def l_call_isPlain_2 : LSpec := ⟨2, [], ⟨25, [(0, .s (.str)), (2, .s (.int .i64)), (6, .s (.int .i64)), (7, .s (.int .i64))], []⟩, [], [⟨.ret, ⟨25, [(2, .s (.int .i64)), (3, .s (.bool))], []⟩, []⟩, ⟨.exit 0, ⟨25, [(2, .s (.int .i64))], []⟩, []⟩], st_call_isPlain_2⟩
theorem r_call_isPlain_2 : RoundOK P t47 nL0 0 (loopAt Tryz.f220 2) l_call_isPlain_2 := fun d => by kernel_rfl
def L_call_isPlain_2 : LT := nL0.add 0 l_call_isPlain_2
theorem L_call_isPlain_2_ok : LpK P 0 L_call_isPlain_2 (bodyOf Tryz.f220) := LpK.a hm t47_ok (nLk _ _ _) r_call_isPlain_2
def F_call_isPlain (d : List G) : Option (List G) :=
 (loopB true (LRun st_call_isPlain_2 [.s (gi d 0).str, .i 0, .i (((gi d 0).str.size : Nat) : Int), .i 0]) fun cg3 g3 => (bif Nat.beq cg3 0 then some [.i (gi g3 0).int, .t (gi g3 1).bool] else some [.i (gi g3 0).int, .t true]))
def s_call_isPlain : FSpec := ⟨220, [.s (.str)], [], [], [.s (.int .i64), .s (.bool)], [], [], [], F_call_isPlain⟩
theorem b_call_isPlain : BodyOK P t47 L_call_isPlain_2 Tryz.f220 s_call_isPlain := fun d => by kernel_rfl
theorem c_call_isPlain : COK P s_call_isPlain := bdC hm t47_ok Tryz.func220 L_call_isPlain_2_ok b_call_isPlain
def t48 : Tab := t47.addP s_call_isPlain
theorem t48_ok : TabOK P t48 := t47_ok.aP c_call_isPlain

def F_call_split (d : List G) : Option (List G) :=
 (callF (F_call_isPlain [.s (gi d 0).str]) fun g1 => (bif (!(gi g1 1).bool) then some [.i 0, .t false] else (bif (ltI 10 (((gi d 0).str.size : Nat) : Int)) then some [.i 0, .t false] else (callF (F_strings_LastIndexAny [.s (gi d 0).str, .s (⟨#[48, 49, 50, 51, 52, 53, 54, 55, 56, 57]⟩ : ByteArray)]) fun g2 => (bif (ltI (gi g2 0).int 1) then some [.i 0, .t false] else (bif (ltI 3 (gi g2 0).int) then some [.i 0, .t false] else (bif (inI ((((gi d 0).str.size : Nat) : Int) - (gi g2 0).int)) then (bif (inI (((((gi d 0).str.size : Nat) : Int) - (gi g2 0).int) - 1)) then (bif (ltI (((((gi d 0).str.size : Nat) : Int) - (gi g2 0).int) - 1) 1) then some [.i 0, .t false] else (bif (inI ((((gi d 0).str.size : Nat) : Int) - (gi g2 0).int)) then (bif (inI (((((gi d 0).str.size : Nat) : Int) - (gi g2 0).int) - 1)) then (bif (ltI 4 (((((gi d 0).str.size : Nat) : Int) - (gi g2 0).int) - 1)) then some [.i 0, .t false] else (bif ((nnI (gi g2 0).int) && (leI (gi g2 0).int (((gi d 0).str.size : Nat) : Int))) then (callF (F_call_isPlain [.s ((gi d 0).str.extract 0 ((gi g2 0).int).toNat)]) fun g3 => some [.i (gi g2 0).int, .t (ltI 0 (gi g3 0).int)]) else none)) else none) else none)) else none) else none)))))))
def s_call_split : FSpec := ⟨219, [.s (.str)], [], [], [.s (.int .i64), .s (.bool)], [], [], [], F_call_split⟩
theorem b_call_split : BodyOK P t48 nL0 Tryz.f219 s_call_split := fun d => by kernel_rfl
theorem c_call_split : COK P s_call_split := bdC hm t48_ok Tryz.func219 (nLk _ _ _) b_call_split
def t49 : Tab := t48.addP s_call_split
theorem t49_ok : TabOK P t49 := t48_ok.aP c_call_split

def F_call_based (d : List G) : Option (List G) :=
 (callF (F_call_split [.s (gi d 0).str]) fun g1 => (bif (!(gi g1 1).bool) then some [.l [[.s (⟨#[]⟩ : ByteArray), .s (⟨#[]⟩ : ByteArray), .s (⟨#[]⟩ : ByteArray), .i 0, .s (⟨#[]⟩ : ByteArray)]], .t false] else (bif (inI ((gi g1 0).int + 1)) then (bif ((nnI ((gi g1 0).int + 1)) && (leI ((gi g1 0).int + 1) (((gi d 0).str.size : Nat) : Int))) then (bif (inI ((gi g1 0).int + 1)) then (bif ((nnI ((gi g1 0).int + 1)) && (leI ((gi g1 0).int + 1) (((gi d 0).str.size : Nat) : Int))) then some [.l [[.s (gi d 0).str, .s ((gi d 0).str.extract 0 ((gi g1 0).int + 1).toNat), .s ((gi d 0).str.extract ((gi g1 0).int + 1).toNat (gi d 0).str.size), .i 0, .s (⟨#[]⟩ : ByteArray)]], .t true] else none) else none) else none) else none)))
def s_call_based : FSpec := ⟨177, [.s (.str)], [], [], [.s (.row KParts), .s (.bool)], [], [], [], F_call_based⟩
theorem b_call_based : BodyOK P t49 nL0 Tryz.f177 s_call_based := fun d => by kernel_rfl
theorem c_call_based : COK P s_call_based := bdC hm t49_ok Tryz.func177 (nLk _ _ _) b_call_based
def t50 : Tab := t49.addP s_call_based
theorem t50_ok : TabOK P t50 := t49_ok.aP c_call_based

def F_call_isBegin (d : List G) : Option (List G) :=
 (callF (F_call_isPlain [.s (gi d 0).str]) fun g1 => (bif (gi g1 1).bool then (bif (ltI 0 (gi g1 0).int) then some [.t (leI (((gi d 0).str.size : Nat) : Int) 4)] else some [.t false]) else some [.t false]))
def s_call_isBegin : FSpec := ⟨178, [.s (.str)], [], [], [.s (.bool)], [], [], [], F_call_isBegin⟩
theorem b_call_isBegin : BodyOK P t50 nL0 Tryz.f178 s_call_isBegin := fun d => by kernel_rfl
theorem c_call_isBegin : COK P s_call_isBegin := bdC hm t50_ok Tryz.func178 (nLk _ _ _) b_call_isBegin
def t51 : Tab := t50.addP s_call_isBegin
theorem t51_ok : TabOK P t51 := t50_ok.aP c_call_isBegin

def F_call_tail (d : List G) : Option (List G) :=
 (bif ((gi d 0).str.toList == (⟨#[112]⟩ : ByteArray).toList) then some [.i 3, .s (⟨#[]⟩ : ByteArray), .t true] else (bif ((gi d 0).str.toList == (⟨#[109]⟩ : ByteArray).toList) then some [.i 4, .s (⟨#[]⟩ : ByteArray), .t true] else (bif ((gi d 0).str.toList == (⟨#[109, 109]⟩ : ByteArray).toList) then some [.i 5, .s (⟨#[]⟩ : ByteArray), .t true] else (bif ((gi d 0).str.toList == (⟨#[97, 109]⟩ : ByteArray).toList) then some [.i 6, .s (⟨#[]⟩ : ByteArray), .t true] else (bif ((((gi d 0).str.size : Nat) : Int) == 1) then (bif (ltI 0 (((gi d 0).str.size : Nat) : Int)) then (callF (F_call_isDigit [.i (((gi d 0).str.data.toList.getD 0 0).toNat : Int)]) fun g1 => (bif (gi g1 0).bool then some [.i 2, .s (gi d 0).str, .t true] else (callF (F_call_isBegin [.s (gi d 0).str]) fun g2 => some [.i 1, .s (gi d 0).str, .t (gi g2 0).bool]))) else none) else (callF (F_call_isBegin [.s (gi d 0).str]) fun g3 => some [.i 1, .s (gi d 0).str, .t (gi g3 0).bool]))))))
def s_call_tail : FSpec := ⟨179, [.s (.str)], [], [], [.s (.int .i64), .s (.str), .s (.bool)], [], [], [], F_call_tail⟩
theorem b_call_tail : BodyOK P t51 nL0 Tryz.f179 s_call_tail := fun d => by kernel_rfl
theorem c_call_tail : COK P s_call_tail := bdC hm t51_ok Tryz.func179 (nLk _ _ _) b_call_tail
def t52 : Tab := t51.addP s_call_tail
theorem t52_ok : TabOK P t52 := t51_ok.aP c_call_tail

def F_call_Parts (d : List G) : Option (List G) :=
 (bif (ltI 14 (((gi d 0).str.size : Nat) : Int)) then some [.l [[.s (⟨#[]⟩ : ByteArray), .s (⟨#[]⟩ : ByteArray), .s (⟨#[]⟩ : ByteArray), .i 0, .s (⟨#[]⟩ : ByteArray)]], .t false] else (callF (F_call_based [.s (gi d 0).str]) fun g1 => (bif (gi g1 1).bool then some [.l [(gEta KParts (gi g1 0).row)], .t true] else (callF (F_strings_Cut [.s (gi d 0).str, .s (⟨#[47]⟩ : ByteArray)]) fun g2 => (bif (!(gi g2 2).bool) then some [.l [[.s (⟨#[]⟩ : ByteArray), .s (⟨#[]⟩ : ByteArray), .s (⟨#[]⟩ : ByteArray), .i 0, .s (⟨#[]⟩ : ByteArray)]], .t false] else (callF (F_call_based [.s (gi g2 1).str]) fun g3 => (bif (gi g3 1).bool then (callF (F_call_isBegin [.s (gi g2 0).str]) fun g4 => (bif (gi g4 0).bool then some [.l [[.s (gi (gi g3 0).row 0).str, .s (gi (gi g3 0).row 1).str, .s (gi (gi g3 0).row 2).str, .i 1, .s (gi g2 0).str]], .t true] else (callF (F_call_based [.s (gi g2 0).str]) fun g5 => (callF (F_call_tail [.s (gi g2 1).str]) fun g6 => (bif (!(gi g5 1).bool) then some [.l [[.s (⟨#[]⟩ : ByteArray), .s (⟨#[]⟩ : ByteArray), .s (⟨#[]⟩ : ByteArray), .i 0, .s (⟨#[]⟩ : ByteArray)]], .t false] else (bif (!(gi g6 2).bool) then some [.l [[.s (⟨#[]⟩ : ByteArray), .s (⟨#[]⟩ : ByteArray), .s (⟨#[]⟩ : ByteArray), .i 0, .s (⟨#[]⟩ : ByteArray)]], .t false] else some [.l [[.s (gi (gi g5 0).row 0).str, .s (gi (gi g5 0).row 1).str, .s (gi (gi g5 0).row 2).str, .i (gi g6 0).int, .s (gi g6 1).str]], .t true])))))) else (callF (F_call_based [.s (gi g2 0).str]) fun g7 => (callF (F_call_tail [.s (gi g2 1).str]) fun g8 => (bif (!(gi g7 1).bool) then some [.l [[.s (⟨#[]⟩ : ByteArray), .s (⟨#[]⟩ : ByteArray), .s (⟨#[]⟩ : ByteArray), .i 0, .s (⟨#[]⟩ : ByteArray)]], .t false] else (bif (!(gi g8 2).bool) then some [.l [[.s (⟨#[]⟩ : ByteArray), .s (⟨#[]⟩ : ByteArray), .s (⟨#[]⟩ : ByteArray), .i 0, .s (⟨#[]⟩ : ByteArray)]], .t false] else some [.l [[.s (gi (gi g7 0).row 0).str, .s (gi (gi g7 0).row 1).str, .s (gi (gi g7 0).row 2).str, .i (gi g8 0).int, .s (gi g8 1).str]], .t true])))))))))))
def s_call_Parts : FSpec := ⟨139, [.s (.str)], [], [], [.s (.row KParts), .s (.bool)], [], [], [], F_call_Parts⟩
theorem b_call_Parts : BodyOK P t52 nL0 Tryz.f139 s_call_Parts := fun d => by kernel_rfl
theorem c_call_Parts : COK P s_call_Parts := bdC hm t52_ok Tryz.func139 (nLk _ _ _) b_call_Parts
def t53 : Tab := t52.addP s_call_Parts
theorem t53_ok : TabOK P t53 := t52_ok.aP c_call_Parts

def F_call_Is (d : List G) : Option (List G) :=
 (callF (F_call_Parts [.s (gi d 0).str]) fun g1 => some [.t (gi g1 1).bool])
def s_call_Is : FSpec := ⟨100, [.s (.str)], [], [], [.s (.bool)], [], [], [], F_call_Is⟩
theorem b_call_Is : BodyOK P t53 nL0 Tryz.f100 s_call_Is := fun d => by kernel_rfl
theorem c_call_Is : COK P s_call_Is := bdC hm t53_ok Tryz.func100 (nLk _ _ _) b_call_Is
def t54 : Tab := t53.addP s_call_Is
theorem t54_ok : TabOK P t54 := t53_ok.aP c_call_Is

def F_kit_IsKey (d : List G) : Option (List G) :=
 (bif (!((gi d 0).str.toList == (⟨#[]⟩ : ByteArray).toList)) then (bif (leI (((gi d 0).str.size : Nat) : Int) 40) then (bif (ltI 0 (((gi d 0).str.size : Nat) : Int)) then (callF (F_strings_IndexByte [.s (⟨#[97, 98, 99, 100, 101, 102, 103, 104, 105, 106, 107, 108, 109, 110, 111, 112, 113, 114, 115, 116, 117, 118, 119, 120, 121, 122]⟩ : ByteArray), .i (((gi d 0).str.data.toList.getD 0 0).toNat : Int)]) fun g1 => (bif (leI 0 (gi g1 0).int) then (callF (F_strings_Trim [.s (gi d 0).str, .s (⟨#[97, 98, 99, 100, 101, 102, 103, 104, 105, 106, 107, 108, 109, 110, 111, 112, 113, 114, 115, 116, 117, 118, 119, 120, 121, 122, 48, 49, 50, 51, 52, 53, 54, 55, 56, 57, 45, 95]⟩ : ByteArray)]) fun g2 => some [.t ((gi g2 0).str.toList == (⟨#[]⟩ : ByteArray).toList)]) else some [.t false])) else none) else some [.t false]) else some [.t false])
def s_kit_IsKey : FSpec := ⟨111, [.s (.str)], [], [], [.s (.bool)], [], [], [], F_kit_IsKey⟩
theorem b_kit_IsKey : BodyOK P t54 nL0 Tryz.f111 s_kit_IsKey := fun d => by kernel_rfl
theorem c_kit_IsKey : COK P s_kit_IsKey := bdC hm t54_ok Tryz.func111 (nLk _ _ _) b_kit_IsKey
def t55 : Tab := t54.addP s_kit_IsKey
theorem t55_ok : TabOK P t55 := t54_ok.aP c_kit_IsKey

def F_cmp_isNaN_int (d : List G) : Option (List G) :=
 some [.t ((gi d 0).int != (gi d 0).int)]
def s_cmp_isNaN_int : FSpec := ⟨175, [.s (.int .i64)], [], [], [.s (.bool)], [], [], [], F_cmp_isNaN_int⟩
theorem b_cmp_isNaN_int : BodyOK P t55 nL0 Tryz.f175 s_cmp_isNaN_int := fun d => by kernel_rfl
theorem c_cmp_isNaN_int : COK P s_cmp_isNaN_int := bdC hm t55_ok Tryz.func175 (nLk _ _ _) b_cmp_isNaN_int
def t56 : Tab := t55.addP s_cmp_isNaN_int
theorem t56_ok : TabOK P t56 := t55_ok.aP c_cmp_isNaN_int

def F_cmp_Compare_int (d : List G) : Option (List G) :=
 (callF (F_cmp_isNaN_int [.i (gi d 0).int]) fun g1 => (callF (F_cmp_isNaN_int [.i (gi d 1).int]) fun g2 => (bif (gi g1 0).bool then (bif (gi g2 0).bool then some [.i 0] else some [.i (-1)]) else (bif (gi g2 0).bool then some [.i 1] else (bif (ltI (gi d 0).int (gi d 1).int) then some [.i (-1)] else (bif (ltI (gi d 1).int (gi d 0).int) then some [.i 1] else some [.i 0]))))))
def s_cmp_Compare_int : FSpec := ⟨137, [.s (.int .i64), .s (.int .i64)], [], [], [.s (.int .i64)], [], [], [], F_cmp_Compare_int⟩
theorem b_cmp_Compare_int : BodyOK P t56 nL0 Tryz.f137 s_cmp_Compare_int := fun d => by kernel_rfl
theorem c_cmp_Compare_int : COK P s_cmp_Compare_int := bdC hm t56_ok Tryz.func137 (nLk _ _ _) b_cmp_Compare_int
def t57 : Tab := t56.addP s_cmp_Compare_int
theorem t57_ok : TabOK P t57 := t56_ok.aP c_cmp_Compare_int

def st_cmp_Or_int_3 (d : List G) : Option (Option Nat × List G) :=
 (bif (ltI (gi d 3).int (gi d 2).int) then (bif ((nnI (gi d 3).int) && (ltI (gi d 3).int (((gi d 1).rows.length : Nat) : Int))) then (bif ((gi ((gi d 1).rows.getD (((gi d 3).int).toNat) []) 0).int != (gi d 0).int) then some (some 0, [.i (gi ((gi d 1).rows.getD (((gi d 3).int).toNat) []) 0).int]) else (bif (inI ((gi d 3).int + 1)) then some (none, [.i (gi d 0).int, .l (gi d 1).rows, .i (gi d 2).int, .i ((gi d 3).int + 1)]) else none)) else none) else some (some 1, [.i (gi d 0).int]))
def l_cmp_Or_int_3 : LSpec := ⟨3, [], ⟨18, [(3, .s (.int .i64)), (6, .s (.list [.int .i64])), (7, .s (.int .i64)), (8, .s (.int .i64))], []⟩, [], [⟨.ret, ⟨18, [(2, .s (.int .i64))], []⟩, []⟩, ⟨.exit 0, ⟨18, [(3, .s (.int .i64))], []⟩, []⟩], st_cmp_Or_int_3⟩
theorem r_cmp_Or_int_3 : RoundOK P t57 nL0 0 (loopAt Tryz.f140 3) l_cmp_Or_int_3 := fun d => by kernel_rfl
def L_cmp_Or_int_3 : LT := nL0.add 0 l_cmp_Or_int_3
theorem L_cmp_Or_int_3_ok : LpK P 0 L_cmp_Or_int_3 (bodyOf Tryz.f140) := LpK.a hm t57_ok (nLk _ _ _) r_cmp_Or_int_3
def F_cmp_Or_int (d : List G) : Option (List G) :=
 (loopB true (LRun st_cmp_Or_int_3 [.i 0, .l (gi d 0).rows, .i (((gi d 0).rows.length : Nat) : Int), .i 0]) fun cg1 g1 => (bif Nat.beq cg1 0 then some [.i (gi g1 0).int] else some [.i (gi g1 0).int]))
def s_cmp_Or_int : FSpec := ⟨140, [.s (.list [.int .i64])], [], [], [.s (.int .i64)], [], [], [], F_cmp_Or_int⟩
theorem b_cmp_Or_int : BodyOK P t57 L_cmp_Or_int_3 Tryz.f140 s_cmp_Or_int := fun d => by kernel_rfl
theorem c_cmp_Or_int : COK P s_cmp_Or_int := bdC hm t57_ok Tryz.func140 L_cmp_Or_int_3_ok b_cmp_Or_int
def t58 : Tab := t57.addP s_cmp_Or_int
theorem t58_ok : TabOK P t58 := t57_ok.aP c_cmp_Or_int

def F_club_compareCards (d : List G) : Option (List G) :=
 (callF (F_cmp_Compare_int [.i (gi (gi d 0).row 0).int, .i (gi (gi d 1).row 0).int]) fun g1 => (callF (F_strings_Compare [.s (gi (gi d 0).row 3).str, .s (gi (gi d 1).row 3).str]) fun g2 => (callF (F_strings_Compare [.s (gi (gi d 0).row 4).str, .s (gi (gi d 1).row 4).str]) fun g3 => (callF (F_cmp_Compare_int [.i (gi (gi d 0).row 2).int, .i (gi (gi d 1).row 2).int]) fun g4 => (callF (F_cmp_Compare_int [.i (gi (gi d 0).row 1).int, .i (gi (gi d 1).row 1).int]) fun g5 => (callF (F_cmp_Or_int [.l [[.i (gi g1 0).int], [.i (gi g2 0).int], [.i (gi g3 0).int], [.i (gi g4 0).int], [.i (gi g5 0).int]]]) fun g6 => some [.i (gi g6 0).int]))))))
def s_club_compareCards : FSpec := ⟨128, [.s (.row KCard), .s (.row KCard)], [], [], [.s (.int .i64)], [], [], [], F_club_compareCards⟩
theorem b_club_compareCards : BodyOK P t58 nL0 Tryz.f128 s_club_compareCards := fun d => by kernel_rfl
theorem c_club_compareCards : COK P s_club_compareCards := bdC hm t58_ok Tryz.func128 (nLk _ _ _) b_club_compareCards
def t59 : Tab := t58.addP s_club_compareCards
theorem t59_ok : TabOK P t59 := t58_ok.aP c_club_compareCards

def st_club_CheckCards_4 (d : List G) : Option (Option Nat × List G) :=
 (bif (ltI (gi d 3).int (gi d 2).int) then (bif ((nnI (gi d 3).int) && (ltI (gi d 3).int (((gi d 1).rows.length : Nat) : Int))) then (callF (F_kit_IsMoment [.i (gi ((gi d 1).rows.getD (((gi d 3).int).toNat) []) 0).int]) fun g1 => (bif (!(gi g1 0).bool) then some (some 0, [.i 1]) else (callF (F_kit_Outside [.i (gi ((gi d 1).rows.getD (((gi d 3).int).toNat) []) 1).int, .i 1, .i 3]) fun g2 => (bif (gi g2 0).bool then some (some 0, [.i 4]) else (callF (F_kit_IsMode [.i (gi ((gi d 1).rows.getD (((gi d 3).int).toNat) []) 2).int]) fun g3 => (bif (!(gi g3 0).bool) then some (some 0, [.i 4]) else (callF (F_call_Is [.s (gi ((gi d 1).rows.getD (((gi d 3).int).toNat) []) 3).str]) fun g4 => (bif (!(gi g4 0).bool) then some (some 0, [.i 3]) else (callF (F_kit_IsKey [.s (gi ((gi d 1).rows.getD (((gi d 3).int).toNat) []) 4).str]) fun g5 => (bif (!(gi g5 0).bool) then some (some 0, [.i 5]) else (bif (ltI 0 (gi d 3).int) then (bif (inI ((gi d 3).int - 1)) then (bif ((nnI ((gi d 3).int - 1)) && (ltI ((gi d 3).int - 1) (((gi d 0).rows.length : Nat) : Int))) then (callF (F_club_compareCards [.l [(gEta KCard ((gi d 0).rows.getD (((gi d 3).int - 1).toNat) []))], .l [(gEta KCard ((gi d 1).rows.getD (((gi d 3).int).toNat) []))]]) fun g6 => (bif (leI 0 (gi g6 0).int) then some (some 0, [.i 7]) else (bif (inI ((gi d 3).int + 1)) then some (none, [.l (gi d 0).rows, .l (gi d 1).rows, .i (gi d 2).int, .i ((gi d 3).int + 1)]) else none))) else none) else none) else (bif (inI ((gi d 3).int + 1)) then some (none, [.l (gi d 0).rows, .l (gi d 1).rows, .i (gi d 2).int, .i ((gi d 3).int + 1)]) else none)))))))))))) else none) else some (some 1, []))
def l_club_CheckCards_4 : LSpec := ⟨4, [], ⟨54, [(0, .s (.list KCard)), (8, .s (.list KCard)), (9, .s (.int .i64)), (10, .s (.int .i64))], []⟩, [], [⟨.ret, ⟨54, [(2, .s (.int .i64))], []⟩, []⟩, ⟨.exit 0, ⟨54, [], []⟩, []⟩], st_club_CheckCards_4⟩
theorem r_club_CheckCards_4 : RoundOK P t59 nL0 0 (loopAt Tryz.f82 4) l_club_CheckCards_4 := fun d => by kernel_rfl
def L_club_CheckCards_4 : LT := nL0.add 0 l_club_CheckCards_4
theorem L_club_CheckCards_4_ok : LpK P 0 L_club_CheckCards_4 (bodyOf Tryz.f82) := LpK.a hm t59_ok (nLk _ _ _) r_club_CheckCards_4
def F_club_CheckCards (d : List G) : Option (List G) :=
 (bif (ltI 3000 (((gi d 0).rows.length : Nat) : Int)) then some [.i 2] else (loopB true (LRun st_club_CheckCards_4 [.l (gi d 0).rows, .l (gi d 0).rows, .i (((gi d 0).rows.length : Nat) : Int), .i 0]) fun cg7 g7 => (bif Nat.beq cg7 0 then some [.i (gi g7 0).int] else some [.i 0])))
def s_club_CheckCards : FSpec := ⟨82, [.s (.list KCard)], [], [], [.s (.int .i64)], [], [], [], F_club_CheckCards⟩
theorem b_club_CheckCards : BodyOK P t59 L_club_CheckCards_4 Tryz.f82 s_club_CheckCards := fun d => by kernel_rfl
theorem c_club_CheckCards : COK P s_club_CheckCards := bdC hm t59_ok Tryz.func82 L_club_CheckCards_4_ok b_club_CheckCards
def t60 : Tab := t59.addP s_club_CheckCards
theorem t60_ok : TabOK P t60 := t59_ok.aP c_club_CheckCards

def F_club_kindWords (d : List G) : Option (List G) :=
 some [.l [[.s (⟨#[]⟩ : ByteArray)], [.s (⟨#[115, 101, 110, 116]⟩ : ByteArray)], [.s (⟨#[99, 97, 109, 101]⟩ : ByteArray)], [.s (⟨#[114, 101, 116, 117, 114, 110, 101, 100]⟩ : ByteArray)]]]
def s_club_kindWords : FSpec := ⟨83, [], [], [], [.s (.list [.str])], [], [], [], F_club_kindWords⟩
theorem b_club_kindWords : BodyOK P t60 nL0 Tryz.f83 s_club_kindWords := fun d => by kernel_rfl
theorem c_club_kindWords : COK P s_club_kindWords := bdC hm t60_ok Tryz.func83 (nLk _ _ _) b_club_kindWords
def t61 : Tab := t60.addP s_club_kindWords
theorem t61_ok : TabOK P t61 := t60_ok.aP c_club_kindWords

def F_kit_ModeWords (d : List G) : Option (List G) :=
 some [.l [[.s (⟨#[]⟩ : ByteArray)], [.s (⟨#[99, 111, 100, 101]⟩ : ByteArray)], [.s (⟨#[118, 111, 105, 99, 101]⟩ : ByteArray)], [.s (⟨#[100, 97, 116, 97]⟩ : ByteArray)]]]
def s_kit_ModeWords : FSpec := ⟨84, [], [], [], [.s (.list [.str])], [], [], [], F_kit_ModeWords⟩
theorem b_kit_ModeWords : BodyOK P t61 nL0 Tryz.f84 s_kit_ModeWords := fun d => by kernel_rfl
theorem c_kit_ModeWords : COK P s_kit_ModeWords := bdC hm t61_ok Tryz.func84 (nLk _ _ _) b_kit_ModeWords
def t62 : Tab := t61.addP s_kit_ModeWords
theorem t62_ok : TabOK P t62 := t61_ok.aP c_kit_ModeWords

def F_stringslite_HasSuffix (d : List G) : Option (List G) :=
 (bif (leI (((gi d 1).str.size : Nat) : Int) (((gi d 0).str.size : Nat) : Int)) then (bif (inI ((((gi d 0).str.size : Nat) : Int) - (((gi d 1).str.size : Nat) : Int))) then (bif ((nnI ((((gi d 0).str.size : Nat) : Int) - (((gi d 1).str.size : Nat) : Int))) && (leI ((((gi d 0).str.size : Nat) : Int) - (((gi d 1).str.size : Nat) : Int)) (((gi d 0).str.size : Nat) : Int))) then some [.t (((gi d 0).str.extract ((((gi d 0).str.size : Nat) : Int) - (((gi d 1).str.size : Nat) : Int)).toNat (gi d 0).str.size).toList == (gi d 1).str.toList)] else none) else none) else some [.t false])
def s_stringslite_HasSuffix : FSpec := ⟨189, [.s (.str), .s (.str)], [], [], [.s (.bool)], [], [], [], F_stringslite_HasSuffix⟩
theorem b_stringslite_HasSuffix : BodyOK P t62 nL0 Tryz.f189 s_stringslite_HasSuffix := fun d => by kernel_rfl
theorem c_stringslite_HasSuffix : COK P s_stringslite_HasSuffix := bdC hm t62_ok Tryz.func189 (nLk _ _ _) b_stringslite_HasSuffix
def t63 : Tab := t62.addP s_stringslite_HasSuffix
theorem t63_ok : TabOK P t63 := t62_ok.aP c_stringslite_HasSuffix

def F_stringslite_CutSuffix (d : List G) : Option (List G) :=
 (callF (F_stringslite_HasSuffix [.s (gi d 0).str, .s (gi d 1).str]) fun g1 => (bif (!(gi g1 0).bool) then some [.s (gi d 0).str, .t false] else (bif (inI ((((gi d 0).str.size : Nat) : Int) - (((gi d 1).str.size : Nat) : Int))) then (bif ((nnI ((((gi d 0).str.size : Nat) : Int) - (((gi d 1).str.size : Nat) : Int))) && (leI ((((gi d 0).str.size : Nat) : Int) - (((gi d 1).str.size : Nat) : Int)) (((gi d 0).str.size : Nat) : Int))) then some [.s ((gi d 0).str.extract 0 ((((gi d 0).str.size : Nat) : Int) - (((gi d 1).str.size : Nat) : Int)).toNat), .t true] else none) else none)))
def s_stringslite_CutSuffix : FSpec := ⟨147, [.s (.str), .s (.str)], [], [], [.s (.str), .s (.bool)], [], [], [], F_stringslite_CutSuffix⟩
theorem b_stringslite_CutSuffix : BodyOK P t63 nL0 Tryz.f147 s_stringslite_CutSuffix := fun d => by kernel_rfl
theorem c_stringslite_CutSuffix : COK P s_stringslite_CutSuffix := bdC hm t63_ok Tryz.func147 (nLk _ _ _) b_stringslite_CutSuffix
def t64 : Tab := t63.addP s_stringslite_CutSuffix
theorem t64_ok : TabOK P t64 := t63_ok.aP c_stringslite_CutSuffix

def F_strings_CutSuffix (d : List G) : Option (List G) :=
 (callF (F_stringslite_CutSuffix [.s (gi d 0).str, .s (gi d 1).str]) fun g1 => some [.s (gi g1 0).str, .t (gi g1 1).bool])
def s_strings_CutSuffix : FSpec := ⟨105, [.s (.str), .s (.str)], [], [], [.s (.str), .s (.bool)], [], [], [], F_strings_CutSuffix⟩
theorem b_strings_CutSuffix : BodyOK P t64 nL0 Tryz.f105 s_strings_CutSuffix := fun d => by kernel_rfl
theorem c_strings_CutSuffix : COK P s_strings_CutSuffix := bdC hm t64_ok Tryz.func105 (nLk _ _ _) b_strings_CutSuffix
def t65 : Tab := t64.addP s_strings_CutSuffix
theorem t65_ok : TabOK P t65 := t64_ok.aP c_strings_CutSuffix

def F_strings_genSplit (d : List G) : Option (List G) :=
 splitF d
def s_strings_genSplit : FSpec := ⟨148, [.s (.str), .s (.str), .s (.int .i64), .s (.int .i64)], [], [], [.s (.list [.str])], [], [], [], F_strings_genSplit⟩
theorem c_strings_genSplit : ∀ d r, F_strings_genSplit d = some r → ACallX P 148 (s_strings_genSplit.args0 d) (denH (s_strings_genSplit.H0 d)) (s_strings_genSplit.out r) (denH (s_strings_genSplit.H1 r)) := fun d r h => split_call Tryz.laysSplit (by kernel_rfl) d r h
def t66 : Tab := t65.addP s_strings_genSplit
theorem t66_ok : TabOK P t66 := t65_ok.aP c_strings_genSplit

def F_strings_Split (d : List G) : Option (List G) :=
 (callF (F_strings_genSplit [.s (gi d 0).str, .s (gi d 1).str, .i 0, .i (-1)]) fun g1 => some [.l (gi g1 0).rows])
def s_strings_Split : FSpec := ⟨106, [.s (.str), .s (.str)], [], [], [.s (.list [.str])], [], [], [], F_strings_Split⟩
theorem b_strings_Split : BodyOK P t66 nL0 Tryz.f106 s_strings_Split := fun d => by kernel_rfl
theorem c_strings_Split : COK P s_strings_Split := bdC hm t66_ok Tryz.func106 (nLk _ _ _) b_strings_Split
def t67 : Tab := t66.addP s_strings_Split
theorem t67_ok : TabOK P t67 := t66_ok.aP c_strings_Split

def F_kit_Lines (d : List G) : Option (List G) :=
 (bif ((gi d 0).str.toList == (⟨#[]⟩ : ByteArray).toList) then some [.l [], .t true] else (callF (F_strings_CutSuffix [.s (gi d 0).str, .s (⟨#[10]⟩ : ByteArray)]) fun g1 => (callF (F_strings_Split [.s (gi g1 0).str, .s (⟨#[10]⟩ : ByteArray)]) fun g2 => some [.l (gi g2 0).rows, .t (gi g1 1).bool])))
def s_kit_Lines : FSpec := ⟨55, [.s (.str)], [], [], [.s (.list [.str]), .s (.bool)], [], [], [], F_kit_Lines⟩
theorem b_kit_Lines : BodyOK P t67 nL0 Tryz.f55 s_kit_Lines := fun d => by kernel_rfl
theorem c_kit_Lines : COK P s_kit_Lines := bdC hm t67_ok Tryz.func55 (nLk _ _ _) b_kit_Lines
def t68 : Tab := t67.addP s_kit_Lines
theorem t68_ok : TabOK P t68 := t67_ok.aP c_kit_Lines

end
end Go.Proofs.SYtmohppjkkpaaoaaGreatDoor
