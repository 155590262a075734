/-
 What is proved here: functions of the program as functions on data. No condition.
-/
import Derived.Test.YthjhjbgilbaknaaGreatDoorML1
set_option linter.unusedSimpArgs false
set_option linter.unusedVariables false
set_option linter.unusedSectionVars false
namespace Go.Proofs.SYthjhjbgilbaknaaGreatDoor
open Go Go.AL Go.Proofs
noncomputable section
def u0_l2_banded : Tab := t7.inline P 90 Tryz.f90 []
theorem u0_l2_banded_ok : TabOK P u0_l2_banded := t7_ok.inline hm Tryz.func90 (by kernel_rfl) []
def u1_l2_banded : Tab := u0_l2_banded.inline P 89 Tryz.f89 []
theorem u1_l2_banded_ok : TabOK P u1_l2_banded := u0_l2_banded_ok.inline hm Tryz.func89 (by kernel_rfl) []
def u2_l2_banded : Tab := u1_l2_banded.inline P 151 Tryz.f151 []
theorem u2_l2_banded_ok : TabOK P u2_l2_banded := u1_l2_banded_ok.inline hm Tryz.func151 (by kernel_rfl) []
def u3_l2_banded : Tab := u2_l2_banded.inline P 217 Tryz.f217 []
theorem u3_l2_banded_ok : TabOK P u3_l2_banded := u2_l2_banded_ok.inline hm Tryz.func217 (by kernel_rfl) []
def u4_l2_banded : Tab := u3_l2_banded.inline P 99 Tryz.f99 []
theorem u4_l2_banded_ok : TabOK P u4_l2_banded := u3_l2_banded_ok.inline hm Tryz.func99 (by kernel_rfl) []
def u5_l2_banded : Tab := u4_l2_banded.inline P 186 Tryz.f186 []
theorem u5_l2_banded_ok : TabOK P u5_l2_banded := u4_l2_banded_ok.inline hm Tryz.func186 (by kernel_rfl) []
def u6_l2_banded : Tab := u5_l2_banded.inline P 216 Tryz.f216 []
theorem u6_l2_banded_ok : TabOK P u6_l2_banded := u5_l2_banded_ok.inline hm Tryz.func216 (by kernel_rfl) []
def u7_l2_banded : Tab := u6_l2_banded.inline P 150 Tryz.f150 []
theorem u7_l2_banded_ok : TabOK P u7_l2_banded := u6_l2_banded_ok.inline hm Tryz.func150 (by kernel_rfl) []
def u8_l2_banded : Tab := u7_l2_banded.inline P 152 Tryz.f152 []
theorem u8_l2_banded_ok : TabOK P u8_l2_banded := u7_l2_banded_ok.inline hm Tryz.func152 (by kernel_rfl) []
def u9_l2_banded : Tab := u8_l2_banded.inline P 129 Tryz.f129 []
theorem u9_l2_banded_ok : TabOK P u9_l2_banded := u8_l2_banded_ok.inline hm Tryz.func129 (by kernel_rfl) []
def u10_l2_banded : Tab := u9_l2_banded.inline P 58 Tryz.f58 []
theorem u10_l2_banded_ok : TabOK P u10_l2_banded := u9_l2_banded_ok.inline hm Tryz.func58 (by kernel_rfl) []
def u11_l2_banded : Tab := u10_l2_banded.inline P 178 Tryz.f178 []
theorem u11_l2_banded_ok : TabOK P u11_l2_banded := u10_l2_banded_ok.inline hm Tryz.func178 (by kernel_rfl) []
def u12_l2_banded : Tab := u11_l2_banded.inline P 117 Tryz.f117 []
theorem u12_l2_banded_ok : TabOK P u12_l2_banded := u11_l2_banded_ok.inline hm Tryz.func117 (by kernel_rfl) []
def u13_l2_banded : Tab := u12_l2_banded.inlineW P 316 Tryz.f316
theorem u13_l2_banded_ok : TabOK P u13_l2_banded := u12_l2_banded_ok.inlineW hm Tryz.func316 (by kernel_rfl) (by kernel_rfl)
def u14_l2_banded : Tab := u13_l2_banded.inlineW P 282 Tryz.f282
theorem u14_l2_banded_ok : TabOK P u14_l2_banded := u13_l2_banded_ok.inlineW hm Tryz.func282 (by kernel_rfl) (by kernel_rfl)
def u15_l2_banded : Tab := u14_l2_banded.inlineW P 242 Tryz.f242
theorem u15_l2_banded_ok : TabOK P u15_l2_banded := u14_l2_banded_ok.inlineW hm Tryz.func242 (by kernel_rfl) (by kernel_rfl)
def u16_l2_banded : Tab := u15_l2_banded.inlineW P 188 Tryz.f188
theorem u16_l2_banded_ok : TabOK P u16_l2_banded := u15_l2_banded_ok.inlineW hm Tryz.func188 (by kernel_rfl) (by kernel_rfl)
def u17_l2_banded : Tab := u16_l2_banded.inlineW P 154 Tryz.f154
theorem u17_l2_banded_ok : TabOK P u17_l2_banded := u16_l2_banded_ok.inlineW hm Tryz.func154 (by kernel_rfl) (by kernel_rfl)
def u18_l2_banded : Tab := u17_l2_banded.inlineW P 155 Tryz.f155
theorem u18_l2_banded_ok : TabOK P u18_l2_banded := u17_l2_banded_ok.inlineW hm Tryz.func155 (by kernel_rfl) (by kernel_rfl)
def u19_l2_banded : Tab := u18_l2_banded.inlineW P 220 Tryz.f220
theorem u19_l2_banded_ok : TabOK P u19_l2_banded := u18_l2_banded_ok.inlineW hm Tryz.func220 (by kernel_rfl) (by kernel_rfl)
def u20_l2_banded : Tab := u19_l2_banded.inlineW P 153 Tryz.f153
theorem u20_l2_banded_ok : TabOK P u20_l2_banded := u19_l2_banded_ok.inlineW hm Tryz.func153 (by kernel_rfl) (by kernel_rfl)
def u21_l2_banded : Tab := u20_l2_banded.inline P 92 Tryz.f92 []
theorem u21_l2_banded_ok : TabOK P u21_l2_banded := u20_l2_banded_ok.inline hm Tryz.func92 (by kernel_rfl) []
theorem q_l2_banded : PCall P 25 [] (.lit (.bool true)) := fn_pure (L := nL0) hm u21_l2_banded_ok [] (fun _ _ => nLk _ _ _) Tryz.func25 rfl (by kernel_rfl) (by kernel_rfl)
def F_l2_banded (_ : List G) : Option (List G) := some [.t true]
def s_l2_banded : FSpec := ⟨25, [], [], [], [.s (.bool)], [], [], [], F_l2_banded⟩
theorem c_l2_banded : ∀ d r, F_l2_banded d = some r → ACallX P 25 (s_l2_banded.args0 d) (denH (s_l2_banded.H0 d)) (s_l2_banded.out r) (denH (s_l2_banded.H1 r)) := fun d r h => by
 cases (show some [G.t true] = some r from h)
 exact q_l2_banded []
def t8 : Tab := t7.addP s_l2_banded
theorem t8_ok : TabOK P t8 := t7_ok.addP (by kernel_rfl) (by kernel_rfl) c_l2_banded


def F_pilemake_Below (d : List G) : Option (List G) :=
 (bif (ltI (gi d 1).int 1) then some [.i 0] else (bif (!((gi d 1).int == 0)) then (bif (ltI (Int.tmod (gi d 0).int (gi d 1).int) 0) then (bif (inI ((Int.tmod (gi d 0).int (gi d 1).int) + (gi d 1).int)) then some [.i ((Int.tmod (gi d 0).int (gi d 1).int) + (gi d 1).int)] else none) else some [.i (Int.tmod (gi d 0).int (gi d 1).int)]) else none))
def s_pilemake_Below : FSpec := ⟨130, [.s (.int .i64), .s (.int .i64)], [], [], [.s (.int .i64)], [], [], [], F_pilemake_Below⟩
theorem b_pilemake_Below : BodyOK P t8 nL0 Tryz.f130 s_pilemake_Below := fun d => by kernel_rfl
theorem c_pilemake_Below : ∀ d r, F_pilemake_Below d = some r → ACallX P 130 (s_pilemake_Below.args0 d) (denH (s_pilemake_Below.H0 d)) (s_pilemake_Below.out r) (denH (s_pilemake_Below.H1 r)) := fun d r h => bSd hm t8_ok (sp := s_pilemake_Below) Tryz.func130 (by kernel_rfl) (nLk _ _ _) b_pilemake_Below (by kernel_rfl) h
def t9 : Tab := t8.addP s_pilemake_Below
theorem t9_ok : TabOK P t9 := t8_ok.addP (by kernel_rfl) (by kernel_rfl) c_pilemake_Below

def F_mk_Next (d : List G) : Option (List G) :=
 (bif (inI ((gi d 1).int + 1)) then (bif ((((gi d 0).rows.length : Nat) : Int) == 0) then (bif (inI (((gi d 1).int + 1) * 7919)) then (callF (F_pilemake_Below [.i (((gi d 1).int + 1) * 7919), .i (gi d 2).int]) fun g1 => some [.l (gi d 0).rows, .i ((gi d 1).int + 1), .i (gi g1 0).int]) else none) else (bif (inI (((gi d 1).int + 1) - 1)) then (bif (!((((gi d 0).rows.length : Nat) : Int) == 0)) then (bif (inI (((gi d 1).int + 1) - 1)) then (bif ((!((((gi d 0).rows.length : Nat) : Int) == 0)) && (inI (Int.tdiv (((gi d 1).int + 1) - 1) (((gi d 0).rows.length : Nat) : Int)))) then (bif ((nnI (Int.tmod (((gi d 1).int + 1) - 1) (((gi d 0).rows.length : Nat) : Int))) && (ltI (Int.tmod (((gi d 1).int + 1) - 1) (((gi d 0).rows.length : Nat) : Int)) (((gi d 0).rows.length : Nat) : Int))) then (callF (F_pilemake_Below [.i (gi ((gi d 0).rows.getD ((Int.tmod (((gi d 1).int + 1) - 1) (((gi d 0).rows.length : Nat) : Int)).toNat) []) 0).int, .i 1073741824]) fun g2 => (bif (inI (7919 + (Int.tmod (((gi d 1).int + 1) - 1) (((gi d 0).rows.length : Nat) : Int)))) then (bif (inI ((Int.tdiv (((gi d 1).int + 1) - 1) (((gi d 0).rows.length : Nat) : Int)) * (7919 + (Int.tmod (((gi d 1).int + 1) - 1) (((gi d 0).rows.length : Nat) : Int))))) then (bif (inI ((gi g2 0).int + ((Int.tdiv (((gi d 1).int + 1) - 1) (((gi d 0).rows.length : Nat) : Int)) * (7919 + (Int.tmod (((gi d 1).int + 1) - 1) (((gi d 0).rows.length : Nat) : Int)))))) then (callF (F_pilemake_Below [.i ((gi g2 0).int + ((Int.tdiv (((gi d 1).int + 1) - 1) (((gi d 0).rows.length : Nat) : Int)) * (7919 + (Int.tmod (((gi d 1).int + 1) - 1) (((gi d 0).rows.length : Nat) : Int))))), .i (gi d 2).int]) fun g3 => some [.l (gi d 0).rows, .i ((gi d 1).int + 1), .i (gi g3 0).int]) else none) else none) else none)) else none) else none) else none) else none) else none)) else none)
def s_mk_Next : FSpec := ⟨61, [.s (.ptr 0 0), .s (.int .i64)], [.box [.list [.int .i64], .int .i64]], [.slot 0], [.s (.int .i64)], [.box [.list [.int .i64], .int .i64]], [.fix 0], [], F_mk_Next⟩
theorem b_mk_Next : BodyOK P t9 nL0 Tryz.f61 s_mk_Next := fun d => by kernel_rfl
theorem c_mk_Next : ∀ d r, F_mk_Next d = some r → ACallX P 61 (s_mk_Next.args0 d) (denH (s_mk_Next.H0 d)) (s_mk_Next.out r) (denH (s_mk_Next.H1 r)) := fun d r h => bSd hm t9_ok (sp := s_mk_Next) Tryz.func61 (by kernel_rfl) (nLk _ _ _) b_mk_Next (by kernel_rfl) h
def t10 : Tab := t9.addW s_mk_Next
theorem t10_ok : TabOK P t10 := t9_ok.addW (by kernel_rfl) (by kernel_rfl) c_mk_Next

def F_mk_Flip (d : List G) : Option (List G) :=
 (callF (F_mk_Next [.l (gi d 0).rows, .i (gi d 1).int, .i (gi d 2).int]) fun g1 => some [.l (gi g1 0).rows, .i (gi g1 1).int, .t ((gi g1 2).int == 0)])
def s_mk_Flip : FSpec := ⟨60, [.s (.ptr 0 0), .s (.int .i64)], [.box [.list [.int .i64], .int .i64]], [.slot 0], [.s (.bool)], [.box [.list [.int .i64], .int .i64]], [.fix 0], [], F_mk_Flip⟩
theorem b_mk_Flip : BodyOK P t10 nL0 Tryz.f60 s_mk_Flip := fun d => by kernel_rfl
theorem c_mk_Flip : ∀ d r, F_mk_Flip d = some r → ACallX P 60 (s_mk_Flip.args0 d) (denH (s_mk_Flip.H0 d)) (s_mk_Flip.out r) (denH (s_mk_Flip.H1 r)) := fun d r h => bSd hm t10_ok (sp := s_mk_Flip) Tryz.func60 (by kernel_rfl) (nLk _ _ _) b_mk_Flip (by kernel_rfl) h
def t11 : Tab := t10.addW s_mk_Flip
theorem t11_ok : TabOK P t11 := t10_ok.addW (by kernel_rfl) (by kernel_rfl) c_mk_Flip

def F_mk_Some (d : List G) : Option (List G) :=
 (callF (F_mk_Next [.l (gi d 0).rows, .i (gi d 1).int, .i (((gi d 2).rows.length : Nat) : Int)]) fun g1 => (bif ((nnI (gi g1 2).int) && (ltI (gi g1 2).int (((gi d 2).rows.length : Nat) : Int))) then some [.l (gi g1 0).rows, .i (gi g1 1).int, .s (gi ((gi d 2).rows.getD (((gi g1 2).int).toNat) []) 0).str] else none))
def s_mk_Some : FSpec := ⟨62, [.s (.ptr 0 0), .s (.list [.str])], [.box [.list [.int .i64], .int .i64]], [.slot 0], [.s (.str)], [.box [.list [.int .i64], .int .i64]], [.fix 0], [], F_mk_Some⟩
theorem b_mk_Some : BodyOK P t11 nL0 Tryz.f62 s_mk_Some := fun d => by kernel_rfl
theorem c_mk_Some : ∀ d r, F_mk_Some d = some r → ACallX P 62 (s_mk_Some.args0 d) (denH (s_mk_Some.H0 d)) (s_mk_Some.out r) (denH (s_mk_Some.H1 r)) := fun d r h => bSd hm t11_ok (sp := s_mk_Some) Tryz.func62 (by kernel_rfl) (nLk _ _ _) b_mk_Some (by kernel_rfl) h
def t12 : Tab := t11.addW s_mk_Some
theorem t12_ok : TabOK P t12 := t11_ok.addW (by kernel_rfl) (by kernel_rfl) c_mk_Some

def F_mk_Pick (d : List G) : Option (List G) :=
 (callF (F_mk_Next [.l (gi d 0).rows, .i (gi d 1).int, .i (((gi d 2).rows.length : Nat) : Int)]) fun g1 => (bif ((nnI (gi g1 2).int) && (ltI (gi g1 2).int (((gi d 2).rows.length : Nat) : Int))) then some [.l (gi g1 0).rows, .i (gi g1 1).int, .i (gi ((gi d 2).rows.getD (((gi g1 2).int).toNat) []) 0).int] else none))
def s_mk_Pick : FSpec := ⟨11, [.s (.ptr 0 0), .s (.list [.int .i64])], [.box [.list [.int .i64], .int .i64]], [.slot 0], [.s (.int .i64)], [.box [.list [.int .i64], .int .i64]], [.fix 0], [], F_mk_Pick⟩
theorem b_mk_Pick : BodyOK P t12 nL0 Tryz.f11 s_mk_Pick := fun d => by kernel_rfl
theorem c_mk_Pick : ∀ d r, F_mk_Pick d = some r → ACallX P 11 (s_mk_Pick.args0 d) (denH (s_mk_Pick.H0 d)) (s_mk_Pick.out r) (denH (s_mk_Pick.H1 r)) := fun d r h => bSd hm t12_ok (sp := s_mk_Pick) Tryz.func11 (by kernel_rfl) (nLk _ _ _) b_mk_Pick (by kernel_rfl) h
def t13 : Tab := t12.addW s_mk_Pick
theorem t13_ok : TabOK P t13 := t12_ok.addW (by kernel_rfl) (by kernel_rfl) c_mk_Pick

def F_mk_Range (d : List G) : Option (List G) :=
 (bif (ltI (gi d 3).int (gi d 2).int) then some [.l (gi d 0).rows, .i (gi d 1).int, .i (gi d 2).int] else (bif (inI ((gi d 3).int - (gi d 2).int)) then (bif (inI (((gi d 3).int - (gi d 2).int) + 1)) then (callF (F_mk_Next [.l (gi d 0).rows, .i (gi d 1).int, .i (((gi d 3).int - (gi d 2).int) + 1)]) fun g1 => (bif (inI ((gi d 2).int + (gi g1 2).int)) then some [.l (gi g1 0).rows, .i (gi g1 1).int, .i ((gi d 2).int + (gi g1 2).int)] else none)) else none) else none))
def s_mk_Range : FSpec := ⟨10, [.s (.ptr 0 0), .s (.int .i64), .s (.int .i64)], [.box [.list [.int .i64], .int .i64]], [.slot 0], [.s (.int .i64)], [.box [.list [.int .i64], .int .i64]], [.fix 0], [], F_mk_Range⟩
theorem b_mk_Range : BodyOK P t13 nL0 Tryz.f10 s_mk_Range := fun d => by kernel_rfl
theorem c_mk_Range : ∀ d r, F_mk_Range d = some r → ACallX P 10 (s_mk_Range.args0 d) (denH (s_mk_Range.H0 d)) (s_mk_Range.out r) (denH (s_mk_Range.H1 r)) := fun d r h => bSd hm t13_ok (sp := s_mk_Range) Tryz.func10 (by kernel_rfl) (nLk _ _ _) b_mk_Range (by kernel_rfl) h
def t14 : Tab := t13.addW s_mk_Range
theorem t14_ok : TabOK P t14 := t13_ok.addW (by kernel_rfl) (by kernel_rfl) c_mk_Range

def F_mk_Odd (d : List G) : Option (List G) :=
 (callF (F_mk_Flip [.l (gi d 0).rows, .i (gi d 1).int, .i 12]) fun g1 => (bif (gi g1 2).bool then (bif (inI ((gi d 2).int - 1)) then (bif (inI ((gi d 3).int + 1)) then (callF (F_mk_Pick [.l (gi g1 0).rows, .i (gi g1 1).int, .l [[.i ((gi d 2).int - 1)], [.i ((gi d 3).int + 1)], [.i (gi d 2).int], [.i (gi d 3).int], [.i (-1099511627776)], [.i 1099511627776]]]) fun g2 => some [.l (gi g2 0).rows, .i (gi g2 1).int, .i (gi g2 2).int]) else none) else none) else (callF (F_mk_Range [.l (gi g1 0).rows, .i (gi g1 1).int, .i (gi d 2).int, .i (gi d 3).int]) fun g3 => some [.l (gi g3 0).rows, .i (gi g3 1).int, .i (gi g3 2).int])))
def s_mk_Odd : FSpec := ⟨63, [.s (.ptr 0 0), .s (.int .i64), .s (.int .i64)], [.box [.list [.int .i64], .int .i64]], [.slot 0], [.s (.int .i64)], [.box [.list [.int .i64], .int .i64]], [.fix 0], [], F_mk_Odd⟩
theorem b_mk_Odd : BodyOK P t14 nL0 Tryz.f63 s_mk_Odd := fun d => by kernel_rfl
theorem c_mk_Odd : ∀ d r, F_mk_Odd d = some r → ACallX P 63 (s_mk_Odd.args0 d) (denH (s_mk_Odd.H0 d)) (s_mk_Odd.out r) (denH (s_mk_Odd.H1 r)) := fun d r h => bSd hm t14_ok (sp := s_mk_Odd) Tryz.func63 (by kernel_rfl) (nLk _ _ _) b_mk_Odd (by kernel_rfl) h
def t15 : Tab := t14.addW s_mk_Odd
theorem t15_ok : TabOK P t15 := t14_ok.addW (by kernel_rfl) (by kernel_rfl) c_mk_Odd

def st_mk_RightBands_f_3 (d : List G) : Option (Option Nat × List G) :=
 (bif (ltI (gi d 5).int (gi d 4).int) then (bif ((nnI (gi d 5).int) && (ltI (gi d 5).int (((gi d 3).rows.length : Nat) : Int))) then (callF (F_mk_Flip [.l (gi d 0).rows, .i (gi d 1).int, .i 8]) fun g1 => (bif (!(gi g1 2).bool) then (bif ((Nat.beq (gi d 2).rows.length (gi d 2).rows.length) && (decide (((gi d 2).rows.length + 1) ≤ 1048576))) then (bif (inI ((gi d 5).int + 1)) then (bif ((Nat.beq ((gi d 2).rows ++ ([(gEta KBand ((gi d 3).rows.getD (((gi d 5).int).toNat) []))] : List (List G))).length ((gi d 2).rows ++ ([(gEta KBand ((gi d 3).rows.getD (((gi d 5).int).toNat) []))] : List (List G))).length) && true) then some (none, [.l (gi g1 0).rows, .i (gi g1 1).int, .l ((gi d 2).rows ++ ([(gEta KBand ((gi d 3).rows.getD (((gi d 5).int).toNat) []))] : List (List G))), .l (gi d 3).rows, .i (gi d 4).int, .i ((gi d 5).int + 1)]) else none) else none) else none) else (bif (inI ((gi d 5).int + 1)) then (bif ((Nat.beq (gi d 2).rows.length (gi d 2).rows.length) && true) then some (none, [.l (gi g1 0).rows, .i (gi g1 1).int, .l (gi d 2).rows, .l (gi d 3).rows, .i (gi d 4).int, .i ((gi d 5).int + 1)]) else none) else none))) else none) else (bif ((Nat.beq (gi d 2).rows.length (gi d 2).rows.length) && true) then some (some 0, [.l (gi d 0).rows, .i (gi d 1).int, .l (gi d 2).rows]) else none))
def l_mk_RightBands_f_3 : LSpec := ⟨3, [(3, KBand)], ⟨25, [(0, .s (.ptr 0 0)), (3, .s (.vec 1 3)), (10, .s (.list KBand)), (11, .s (.int .i64)), (12, .s (.int .i64))], [.box [.list [.int .i64], .int .i64], .vec KBand 0]⟩, [.fix 0, .slot 3], [⟨.exit 0, ⟨25, [(3, .s (.vec 1 3))], [.box [.list [.int .i64], .int .i64], .vec KBand 0]⟩, [.fix 0, .slot 3]⟩], st_mk_RightBands_f_3⟩
theorem r_mk_RightBands_f_3 : RoundOK P t15 nL0 1 (loopAt Tryz.f36 3) l_mk_RightBands_f_3 := fun d => by kernel_rfl
def L_mk_RightBands_f_3 : LT := nL0.add 1 l_mk_RightBands_f_3
theorem L_mk_RightBands_f_3_ok : LpK P 1 L_mk_RightBands_f_3 (bodyOf Tryz.f36) := LpK.add hm t15_ok (by kernel_rfl) (nLk _ _ _) r_mk_RightBands_f_3
def F_mk_RightBands_f (d : List G) : Option (List G) :=
 (loopB true (LRun st_mk_RightBands_f_3 [.l (gi d 0).rows, .i (gi d 1).int, .l [], .l [[.s (⟨#[98, 49, 54, 48]⟩ : ByteArray), .i 1800000, .i 2000000], [.s (⟨#[98, 52, 48]⟩ : ByteArray), .i 7000000, .i 7300000], [.s (⟨#[98, 51, 48]⟩ : ByteArray), .i 7300000, .i 10150000], [.s (⟨#[98, 50, 48]⟩ : ByteArray), .i 14000000, .i 14350000]], .i 4, .i 0]) fun cg2 g2 => (bif ((Nat.beq (gi g2 2).rows.length (gi g2 2).rows.length) && true) then some [.l (gi g2 0).rows, .i (gi g2 1).int, .l (gi g2 2).rows] else none))
def s_mk_RightBands_f : FSpec := ⟨36, [.s (.ptr 0 0)], [.box [.list [.int .i64], .int .i64]], [.slot 0], [.s (.vec 1 3)], [.box [.list [.int .i64], .int .i64], .vec KBand 0], [.fix 0, .slot 0], [], F_mk_RightBands_f⟩
theorem b_mk_RightBands_f : BodyOK P t15 L_mk_RightBands_f_3 Tryz.f36 s_mk_RightBands_f := fun d => by kernel_rfl
theorem c_mk_RightBands_f : ∀ d r, F_mk_RightBands_f d = some r → ACallX P 36 (s_mk_RightBands_f.args0 d) (denH (s_mk_RightBands_f.H0 d)) (s_mk_RightBands_f.out r) (denH (s_mk_RightBands_f.H1 r)) := fun d r h => bSd hm t15_ok (sp := s_mk_RightBands_f) Tryz.func36 (by kernel_rfl) L_mk_RightBands_f_3_ok b_mk_RightBands_f (by kernel_rfl) h
def t16 : Tab := t15.addW s_mk_RightBands_f
theorem t16_ok : TabOK P t16 := t15_ok.addW (by kernel_rfl) (by kernel_rfl) c_mk_RightBands_f

def tl_mk_Bands_3 (d : List G) : Option (Option Nat × List G) :=
 (bif (gi d 3).bool then (callF (F_mk_Next [.l (gi d 0).rows, .i (gi d 1).int, .i (((gi d 2).rows.length : Nat) : Int)]) fun g3 => (bif ((nnI (gi g3 2).int) && (ltI (gi g3 2).int (((gi d 2).rows.length : Nat) : Int))) then (bif (decide ((0 + ((gi g3 2).int).toNat) < (gi d 2).rows.length)) then (callF (F_mk_Some [.l (gi g3 0).rows, .i (gi g3 1).int, .l [[.s (gi ((gi d 2).rows.getD (0 + ((gi g3 2).int).toNat) []) 0).str], [.s (⟨#[]⟩ : ByteArray)], [.s (⟨#[98, 50, 48]⟩ : ByteArray)]]]) fun g4 => (callF (F_mk_Odd [.l (gi g4 0).rows, .i (gi g4 1).int, .i 0, .i 20000]) fun g5 => (bif (inI (1000 * (gi g5 2).int)) then (bif (decide ((0 + ((gi g3 2).int).toNat) < (gi d 2).rows.length)) then (bif (decide ((0 + ((gi g3 2).int).toNat) < (gi d 2).rows.length)) then (bif (inI ((gi ((gi d 2).rows.getD (0 + ((gi g3 2).int).toNat) []) 2).int + 1)) then (callF (F_mk_Pick [.l (gi g5 0).rows, .i (gi g5 1).int, .l [[.i (gi ((gi d 2).rows.getD (0 + ((gi g3 2).int).toNat) []) 2).int], [.i ((gi ((gi d 2).rows.getD (0 + ((gi g3 2).int).toNat) []) 2).int + 1)], [.i 30000000000], [.i 30000001000], [.i 0]]]) fun g6 => (bif (decide ((0 + ((gi g3 2).int).toNat) < (gi d 2).rows.length)) then (bif (decide ((0 + ((gi g3 2).int).toNat) < ((gi d 2).rows.set (0 + ((gi g3 2).int).toNat) (putG KBand ((gi d 2).rows.getD (0 + ((gi g3 2).int).toNat) []) 0 [.s (gi g4 2).str])).length)) then (bif (decide ((0 + ((gi g3 2).int).toNat) < (((gi d 2).rows.set (0 + ((gi g3 2).int).toNat) (putG KBand ((gi d 2).rows.getD (0 + ((gi g3 2).int).toNat) []) 0 [.s (gi g4 2).str])).set (0 + ((gi g3 2).int).toNat) (putG KBand (((gi d 2).rows.set (0 + ((gi g3 2).int).toNat) (putG KBand ((gi d 2).rows.getD (0 + ((gi g3 2).int).toNat) []) 0 [.s (gi g4 2).str])).getD (0 + ((gi g3 2).int).toNat) []) 1 [.i (1000 * (gi g5 2).int)])).length)) then (bif ((Nat.beq (gi d 2).rows.length ((((gi d 2).rows.set (0 + ((gi g3 2).int).toNat) (putG KBand ((gi d 2).rows.getD (0 + ((gi g3 2).int).toNat) []) 0 [.s (gi g4 2).str])).set (0 + ((gi g3 2).int).toNat) (putG KBand (((gi d 2).rows.set (0 + ((gi g3 2).int).toNat) (putG KBand ((gi d 2).rows.getD (0 + ((gi g3 2).int).toNat) []) 0 [.s (gi g4 2).str])).getD (0 + ((gi g3 2).int).toNat) []) 1 [.i (1000 * (gi g5 2).int)])).set (0 + ((gi g3 2).int).toNat) (putG KBand ((((gi d 2).rows.set (0 + ((gi g3 2).int).toNat) (putG KBand ((gi d 2).rows.getD (0 + ((gi g3 2).int).toNat) []) 0 [.s (gi g4 2).str])).set (0 + ((gi g3 2).int).toNat) (putG KBand (((gi d 2).rows.set (0 + ((gi g3 2).int).toNat) (putG KBand ((gi d 2).rows.getD (0 + ((gi g3 2).int).toNat) []) 0 [.s (gi g4 2).str])).getD (0 + ((gi g3 2).int).toNat) []) 1 [.i (1000 * (gi g5 2).int)])).getD (0 + ((gi g3 2).int).toNat) []) 2 [.i (gi g6 2).int])).length) && true) then some (some 0, [.l (gi g6 0).rows, .i (gi g6 1).int, .l ((((gi d 2).rows.set (0 + ((gi g3 2).int).toNat) (putG KBand ((gi d 2).rows.getD (0 + ((gi g3 2).int).toNat) []) 0 [.s (gi g4 2).str])).set (0 + ((gi g3 2).int).toNat) (putG KBand (((gi d 2).rows.set (0 + ((gi g3 2).int).toNat) (putG KBand ((gi d 2).rows.getD (0 + ((gi g3 2).int).toNat) []) 0 [.s (gi g4 2).str])).getD (0 + ((gi g3 2).int).toNat) []) 1 [.i (1000 * (gi g5 2).int)])).set (0 + ((gi g3 2).int).toNat) (putG KBand ((((gi d 2).rows.set (0 + ((gi g3 2).int).toNat) (putG KBand ((gi d 2).rows.getD (0 + ((gi g3 2).int).toNat) []) 0 [.s (gi g4 2).str])).set (0 + ((gi g3 2).int).toNat) (putG KBand (((gi d 2).rows.set (0 + ((gi g3 2).int).toNat) (putG KBand ((gi d 2).rows.getD (0 + ((gi g3 2).int).toNat) []) 0 [.s (gi g4 2).str])).getD (0 + ((gi g3 2).int).toNat) []) 1 [.i (1000 * (gi g5 2).int)])).getD (0 + ((gi g3 2).int).toNat) []) 2 [.i (gi g6 2).int]))]) else none) else none) else none) else none)) else none) else none) else none) else none))) else none) else none)) else (bif ((Nat.beq (gi d 2).rows.length (gi d 2).rows.length) && true) then some (some 0, [.l (gi d 0).rows, .i (gi d 1).int, .l (gi d 2).rows]) else none))
def l_mk_Bands_3c : LSpec := ⟨3, [], ⟨52, [(0, .s (.ptr 0 0)), (3, .s (.vec 1 3)), (13, .s (.bool))], [.box [.list [.int .i64], .int .i64], .vec KBand 0]⟩, [.fix 0, .slot 3], [⟨.normal, ⟨52, [(3, .s (.vec 1 3))], [.box [.list [.int .i64], .int .i64], .vec KBand 0]⟩, [.fix 0, .slot 3]⟩], tl_mk_Bands_3⟩
theorem r_mk_Bands_3c : CutOK P t16 nL0 1 (cutAt Tryz.f8 3) l_mk_Bands_3c := fun d => by kernel_rfl
def L_mk_Bands_3c : LT := nL0.addCut 1 l_mk_Bands_3c
theorem L_mk_Bands_3c_ok : LpK P 1 L_mk_Bands_3c (bodyOf Tryz.f8) := LpK.addCut hm t16_ok (by kernel_rfl) (nLk _ _ _) r_mk_Bands_3c
def F_mk_Bands (d : List G) : Option (List G) :=
 (callF (F_mk_RightBands_f [.l (gi d 0).rows, .i (gi d 1).int]) fun g1 => (bif (ltI 0 (((gi g1 2).rows.length : Nat) : Int)) then (callF (F_mk_Flip [.l (gi g1 0).rows, .i (gi g1 1).int, .i 12]) fun g2 => (loopB ((Nat.beq (gi g1 2).rows.length (gi g1 2).rows.length) && true) (cutR (tl_mk_Bands_3 [.l (gi g2 0).rows, .i (gi g2 1).int, .l (gi g1 2).rows, .t (gi g2 2).bool])) fun cg7 g7 => (bif ((Nat.beq (gi g7 2).rows.length (gi g7 2).rows.length) && true) then some [.l (gi g7 0).rows, .i (gi g7 1).int, .l (gi g7 2).rows] else none))) else (loopB ((Nat.beq (gi g1 2).rows.length (gi g1 2).rows.length) && true) (cutR (tl_mk_Bands_3 [.l (gi g1 0).rows, .i (gi g1 1).int, .l (gi g1 2).rows, .t false])) fun cg8 g8 => (bif ((Nat.beq (gi g8 2).rows.length (gi g8 2).rows.length) && true) then some [.l (gi g8 0).rows, .i (gi g8 1).int, .l (gi g8 2).rows] else none))))
def s_mk_Bands : FSpec := ⟨8, [.s (.ptr 0 0)], [.box [.list [.int .i64], .int .i64]], [.slot 0], [.s (.list KBand)], [.box [.list [.int .i64], .int .i64]], [.fix 0], [], F_mk_Bands⟩
theorem b_mk_Bands : BodyOK P t16 L_mk_Bands_3c Tryz.f8 s_mk_Bands := fun d => by kernel_rfl
theorem c_mk_Bands : ∀ d r, F_mk_Bands d = some r → ACallX P 8 (s_mk_Bands.args0 d) (denH (s_mk_Bands.H0 d)) (s_mk_Bands.out r) (denH (s_mk_Bands.H1 r)) := fun d r h => bSd hm t16_ok (sp := s_mk_Bands) Tryz.func8 (by kernel_rfl) L_mk_Bands_3c_ok b_mk_Bands (by kernel_rfl) h
def t17 : Tab := t16.addW s_mk_Bands
theorem t17_ok : TabOK P t17 := t16_ok.addW (by kernel_rfl) (by kernel_rfl) c_mk_Bands

def F_mk_ACall (d : List G) : Option (List G) :=
 (callF (F_mk_Flip [.l (gi d 0).rows, .i (gi d 1).int, .i 60]) fun g1 => (bif (gi g1 2).bool then (callF (F_mk_Some [.l (gi g1 0).rows, .i (gi g1 1).int, .l [[.s (⟨#[]⟩ : ByteArray)], [.s (⟨#[107, 49]⟩ : ByteArray)], [.s (⟨#[75, 49, 65, 66]⟩ : ByteArray)], [.s (⟨#[107, 49, 97, 98, 47]⟩ : ByteArray)], [.s (⟨#[49, 97]⟩ : ByteArray)], [.s (⟨#[107, 49, 97, 98, 47, 109, 109, 47, 112]⟩ : ByteArray)]]]) fun g2 => some [.l (gi g2 0).rows, .i (gi g2 1).int, .s (gi g2 2).str]) else (callF (F_mk_Some [.l (gi g1 0).rows, .i (gi g1 1).int, .l [[.s (⟨#[107, 49, 97, 98]⟩ : ByteArray)], [.s (⟨#[107, 49, 97, 97]⟩ : ByteArray)], [.s (⟨#[107, 49, 97, 98, 47, 52]⟩ : ByteArray)], [.s (⟨#[111, 104, 50, 97, 98, 99]⟩ : ByteArray)], [.s (⟨#[111, 104, 50, 97, 98, 100]⟩ : ByteArray)], [.s (⟨#[119, 49, 97, 119]⟩ : ByteArray)], [.s (⟨#[110, 49, 109, 109]⟩ : ByteArray)], [.s (⟨#[103, 51, 120, 121, 122, 47, 112]⟩ : ByteArray)]]]) fun g3 => some [.l (gi g3 0).rows, .i (gi g3 1).int, .s (gi g3 2).str])))
def s_mk_ACall : FSpec := ⟨64, [.s (.ptr 0 0)], [.box [.list [.int .i64], .int .i64]], [.slot 0], [.s (.str)], [.box [.list [.int .i64], .int .i64]], [.fix 0], [], F_mk_ACall⟩
theorem b_mk_ACall : BodyOK P t17 nL0 Tryz.f64 s_mk_ACall := fun d => by kernel_rfl
theorem c_mk_ACall : ∀ d r, F_mk_ACall d = some r → ACallX P 64 (s_mk_ACall.args0 d) (denH (s_mk_ACall.H0 d)) (s_mk_ACall.out r) (denH (s_mk_ACall.H1 r)) := fun d r h => bSd hm t17_ok (sp := s_mk_ACall) Tryz.func64 (by kernel_rfl) (nLk _ _ _) b_mk_ACall (by kernel_rfl) h
def t18 : Tab := t17.addW s_mk_ACall
theorem t18_ok : TabOK P t18 := t17_ok.addW (by kernel_rfl) (by kernel_rfl) c_mk_ACall

def F_cmp_isNaN_int (d : List G) : Option (List G) :=
 some [.t ((gi d 0).int != (gi d 0).int)]
def s_cmp_isNaN_int : FSpec := ⟨199, [.s (.int .i64)], [], [], [.s (.bool)], [], [], [], F_cmp_isNaN_int⟩
theorem b_cmp_isNaN_int : BodyOK P t18 nL0 Tryz.f199 s_cmp_isNaN_int := fun d => by kernel_rfl
theorem c_cmp_isNaN_int : ∀ d r, F_cmp_isNaN_int d = some r → ACallX P 199 (s_cmp_isNaN_int.args0 d) (denH (s_cmp_isNaN_int.H0 d)) (s_cmp_isNaN_int.out r) (denH (s_cmp_isNaN_int.H1 r)) := fun d r h => bSd hm t18_ok (sp := s_cmp_isNaN_int) Tryz.func199 (by kernel_rfl) (nLk _ _ _) b_cmp_isNaN_int (by kernel_rfl) h
def t19 : Tab := t18.addP s_cmp_isNaN_int
theorem t19_ok : TabOK P t19 := t18_ok.addP (by kernel_rfl) (by kernel_rfl) c_cmp_isNaN_int

def F_cmp_Compare_int (d : List G) : Option (List G) :=
 (callF (F_cmp_isNaN_int [.i (gi d 0).int]) fun g1 => (callF (F_cmp_isNaN_int [.i (gi d 1).int]) fun g2 => (bif (gi g1 0).bool then (bif (gi g2 0).bool then some [.i 0] else some [.i (-1)]) else (bif (gi g2 0).bool then some [.i 1] else (bif (ltI (gi d 0).int (gi d 1).int) then some [.i (-1)] else (bif (ltI (gi d 1).int (gi d 0).int) then some [.i 1] else some [.i 0]))))))
def s_cmp_Compare_int : FSpec := ⟨136, [.s (.int .i64), .s (.int .i64)], [], [], [.s (.int .i64)], [], [], [], F_cmp_Compare_int⟩
theorem b_cmp_Compare_int : BodyOK P t19 nL0 Tryz.f136 s_cmp_Compare_int := fun d => by kernel_rfl
theorem c_cmp_Compare_int : ∀ d r, F_cmp_Compare_int d = some r → ACallX P 136 (s_cmp_Compare_int.args0 d) (denH (s_cmp_Compare_int.H0 d)) (s_cmp_Compare_int.out r) (denH (s_cmp_Compare_int.H1 r)) := fun d r h => bSd hm t19_ok (sp := s_cmp_Compare_int) Tryz.func136 (by kernel_rfl) (nLk _ _ _) b_cmp_Compare_int (by kernel_rfl) h
def t20 : Tab := t19.addP s_cmp_Compare_int
theorem t20_ok : TabOK P t20 := t19_ok.addP (by kernel_rfl) (by kernel_rfl) c_cmp_Compare_int

def st_sl_Compare_int_2 (d : List G) : Option (Option Nat × List G) :=
 (bif (ltI (gi d 4).int (gi d 3).int) then (bif ((nnI (gi d 4).int) && (ltI (gi d 4).int (((gi d 2).rows.length : Nat) : Int))) then (bif (leI (((gi d 1).rows.length : Nat) : Int) (gi d 4).int) then some (some 0, [.i 1]) else (bif ((nnI (gi d 4).int) && (ltI (gi d 4).int (((gi d 1).rows.length : Nat) : Int))) then (callF (F_cmp_Compare_int [.i (gi ((gi d 2).rows.getD (((gi d 4).int).toNat) []) 0).int, .i (gi ((gi d 1).rows.getD (((gi d 4).int).toNat) []) 0).int]) fun g1 => (bif ((gi g1 0).int != 0) then some (some 0, [.i (gi g1 0).int]) else (bif (inI ((gi d 4).int + 1)) then some (none, [.l (gi d 0).rows, .l (gi d 1).rows, .l (gi d 2).rows, .i (gi d 3).int, .i ((gi d 4).int + 1)]) else none))) else none)) else none) else some (some 1, [.l (gi d 0).rows, .l (gi d 1).rows]))
def l_sl_Compare_int_2 : LSpec := ⟨2, [], ⟨36, [(0, .s (.list [.int .i64])), (1, .s (.list [.int .i64])), (9, .s (.list [.int .i64])), (10, .s (.int .i64)), (11, .s (.int .i64))], []⟩, [], [⟨.ret, ⟨36, [(4, .s (.int .i64))], []⟩, []⟩, ⟨.exit 0, ⟨36, [(0, .s (.list [.int .i64])), (1, .s (.list [.int .i64]))], []⟩, []⟩], st_sl_Compare_int_2⟩
theorem r_sl_Compare_int_2 : RoundOK P t20 nL0 0 (loopAt Tryz.f122 2) l_sl_Compare_int_2 := fun d => by kernel_rfl
def L_sl_Compare_int_2 : LT := nL0.add 0 l_sl_Compare_int_2
theorem L_sl_Compare_int_2_ok : LpK P 0 L_sl_Compare_int_2 (bodyOf Tryz.f122) := LpK.add hm t20_ok (by kernel_rfl) (nLk _ _ _) r_sl_Compare_int_2
def F_sl_Compare_int (d : List G) : Option (List G) :=
 (loopB true (LRun st_sl_Compare_int_2 [.l (gi d 0).rows, .l (gi d 1).rows, .l (gi d 0).rows, .i (((gi d 0).rows.length : Nat) : Int), .i 0]) fun cg2 g2 => (bif Nat.beq cg2 0 then some [.i (gi g2 0).int] else (bif (ltI (((gi g2 0).rows.length : Nat) : Int) (((gi g2 1).rows.length : Nat) : Int)) then some [.i (-1)] else some [.i 0])))
def s_sl_Compare_int : FSpec := ⟨122, [.s (.list [.int .i64]), .s (.list [.int .i64])], [], [], [.s (.int .i64)], [], [], [], F_sl_Compare_int⟩
theorem b_sl_Compare_int : BodyOK P t20 L_sl_Compare_int_2 Tryz.f122 s_sl_Compare_int := fun d => by kernel_rfl
theorem c_sl_Compare_int : ∀ d r, F_sl_Compare_int d = some r → ACallX P 122 (s_sl_Compare_int.args0 d) (denH (s_sl_Compare_int.H0 d)) (s_sl_Compare_int.out r) (denH (s_sl_Compare_int.H1 r)) := fun d r h => bSd hm t20_ok (sp := s_sl_Compare_int) Tryz.func122 (by kernel_rfl) L_sl_Compare_int_2_ok b_sl_Compare_int (by kernel_rfl) h
def t21 : Tab := t20.addP s_sl_Compare_int
theorem t21_ok : TabOK P t21 := t20_ok.addP (by kernel_rfl) (by kernel_rfl) c_sl_Compare_int

def F_cmp_isNaN_string (d : List G) : Option (List G) :=
 some [.t (!((gi d 0).str.toList == (gi d 0).str.toList))]
def s_cmp_isNaN_string : FSpec := ⟨229, [.s (.str)], [], [], [.s (.bool)], [], [], [], F_cmp_isNaN_string⟩
theorem b_cmp_isNaN_string : BodyOK P t21 nL0 Tryz.f229 s_cmp_isNaN_string := fun d => by kernel_rfl
theorem c_cmp_isNaN_string : ∀ d r, F_cmp_isNaN_string d = some r → ACallX P 229 (s_cmp_isNaN_string.args0 d) (denH (s_cmp_isNaN_string.H0 d)) (s_cmp_isNaN_string.out r) (denH (s_cmp_isNaN_string.H1 r)) := fun d r h => bSd hm t21_ok (sp := s_cmp_isNaN_string) Tryz.func229 (by kernel_rfl) (nLk _ _ _) b_cmp_isNaN_string (by kernel_rfl) h
def t22 : Tab := t21.addP s_cmp_isNaN_string
theorem t22_ok : TabOK P t22 := t21_ok.addP (by kernel_rfl) (by kernel_rfl) c_cmp_isNaN_string

def F_cmp_Compare_string (d : List G) : Option (List G) :=
 (callF (F_cmp_isNaN_string [.s (gi d 0).str]) fun g1 => (callF (F_cmp_isNaN_string [.s (gi d 1).str]) fun g2 => (bif (gi g1 0).bool then (bif (gi g2 0).bool then some [.i 0] else some [.i (-1)]) else (bif (gi g2 0).bool then some [.i 1] else (bif (Op.bytesLess (gi d 0).str.toList (gi d 1).str.toList) then some [.i (-1)] else (bif (!((Op.bytesLess (gi d 0).str.toList (gi d 1).str.toList) || ((gi d 0).str.toList == (gi d 1).str.toList))) then some [.i 1] else some [.i 0]))))))
def s_cmp_Compare_string : FSpec := ⟨191, [.s (.str), .s (.str)], [], [], [.s (.int .i64)], [], [], [], F_cmp_Compare_string⟩
theorem b_cmp_Compare_string : BodyOK P t22 nL0 Tryz.f191 s_cmp_Compare_string := fun d => by kernel_rfl
theorem c_cmp_Compare_string : ∀ d r, F_cmp_Compare_string d = some r → ACallX P 191 (s_cmp_Compare_string.args0 d) (denH (s_cmp_Compare_string.H0 d)) (s_cmp_Compare_string.out r) (denH (s_cmp_Compare_string.H1 r)) := fun d r h => bSd hm t22_ok (sp := s_cmp_Compare_string) Tryz.func191 (by kernel_rfl) (nLk _ _ _) b_cmp_Compare_string (by kernel_rfl) h
def t23 : Tab := t22.addP s_cmp_Compare_string
theorem t23_ok : TabOK P t23 := t22_ok.addP (by kernel_rfl) (by kernel_rfl) c_cmp_Compare_string

def st_sl_Compare_string_2 (d : List G) : Option (Option Nat × List G) :=
 (bif (ltI (gi d 4).int (gi d 3).int) then (bif ((nnI (gi d 4).int) && (ltI (gi d 4).int (((gi d 2).rows.length : Nat) : Int))) then (bif (leI (((gi d 1).rows.length : Nat) : Int) (gi d 4).int) then some (some 0, [.i 1]) else (bif ((nnI (gi d 4).int) && (ltI (gi d 4).int (((gi d 1).rows.length : Nat) : Int))) then (callF (F_cmp_Compare_string [.s (gi ((gi d 2).rows.getD (((gi d 4).int).toNat) []) 0).str, .s (gi ((gi d 1).rows.getD (((gi d 4).int).toNat) []) 0).str]) fun g1 => (bif ((gi g1 0).int != 0) then some (some 0, [.i (gi g1 0).int]) else (bif (inI ((gi d 4).int + 1)) then some (none, [.l (gi d 0).rows, .l (gi d 1).rows, .l (gi d 2).rows, .i (gi d 3).int, .i ((gi d 4).int + 1)]) else none))) else none)) else none) else some (some 1, [.l (gi d 0).rows, .l (gi d 1).rows]))
def l_sl_Compare_string_2 : LSpec := ⟨2, [], ⟨36, [(0, .s (.list [.str])), (1, .s (.list [.str])), (9, .s (.list [.str])), (10, .s (.int .i64)), (11, .s (.int .i64))], []⟩, [], [⟨.ret, ⟨36, [(4, .s (.int .i64))], []⟩, []⟩, ⟨.exit 0, ⟨36, [(0, .s (.list [.str])), (1, .s (.list [.str]))], []⟩, []⟩], st_sl_Compare_string_2⟩
theorem r_sl_Compare_string_2 : RoundOK P t23 nL0 0 (loopAt Tryz.f132 2) l_sl_Compare_string_2 := fun d => by kernel_rfl
def L_sl_Compare_string_2 : LT := nL0.add 0 l_sl_Compare_string_2
theorem L_sl_Compare_string_2_ok : LpK P 0 L_sl_Compare_string_2 (bodyOf Tryz.f132) := LpK.add hm t23_ok (by kernel_rfl) (nLk _ _ _) r_sl_Compare_string_2
def F_sl_Compare_string (d : List G) : Option (List G) :=
 (loopB true (LRun st_sl_Compare_string_2 [.l (gi d 0).rows, .l (gi d 1).rows, .l (gi d 0).rows, .i (((gi d 0).rows.length : Nat) : Int), .i 0]) fun cg2 g2 => (bif Nat.beq cg2 0 then some [.i (gi g2 0).int] else (bif (ltI (((gi g2 0).rows.length : Nat) : Int) (((gi g2 1).rows.length : Nat) : Int)) then some [.i (-1)] else some [.i 0])))
def s_sl_Compare_string : FSpec := ⟨132, [.s (.list [.str]), .s (.list [.str])], [], [], [.s (.int .i64)], [], [], [], F_sl_Compare_string⟩
theorem b_sl_Compare_string : BodyOK P t23 L_sl_Compare_string_2 Tryz.f132 s_sl_Compare_string := fun d => by kernel_rfl
theorem c_sl_Compare_string : ∀ d r, F_sl_Compare_string d = some r → ACallX P 132 (s_sl_Compare_string.args0 d) (denH (s_sl_Compare_string.H0 d)) (s_sl_Compare_string.out r) (denH (s_sl_Compare_string.H1 r)) := fun d r h => bSd hm t23_ok (sp := s_sl_Compare_string) Tryz.func132 (by kernel_rfl) L_sl_Compare_string_2_ok b_sl_Compare_string (by kernel_rfl) h
def t24 : Tab := t23.addP s_sl_Compare_string
theorem t24_ok : TabOK P t24 := t23_ok.addP (by kernel_rfl) (by kernel_rfl) c_sl_Compare_string

def F_r2_SpotOrder (d : List G) : Option (List G) :=
 (callF (F_sl_Compare_int [.l [[.i (gi (gi d 0).row 0).int], [.i (gi (gi d 0).row 1).int]], .l [[.i (gi (gi d 1).row 0).int], [.i (gi (gi d 1).row 1).int]]]) fun g1 => (bif ((gi g1 0).int != 0) then some [.i (gi g1 0).int] else (callF (F_sl_Compare_string [.l [[.s (gi (gi d 0).row 2).str], [.s (gi (gi d 0).row 3).str]], .l [[.s (gi (gi d 1).row 2).str], [.s (gi (gi d 1).row 3).str]]]) fun g2 => some [.i (gi g2 0).int])))
def s_r2_SpotOrder : FSpec := ⟨66, [.s (.row KSpot), .s (.row KSpot)], [], [], [.s (.int .i64)], [], [], [], F_r2_SpotOrder⟩
theorem b_r2_SpotOrder : BodyOK P t24 nL0 Tryz.f66 s_r2_SpotOrder := fun d => by kernel_rfl
theorem c_r2_SpotOrder : ∀ d r, F_r2_SpotOrder d = some r → ACallX P 66 (s_r2_SpotOrder.args0 d) (denH (s_r2_SpotOrder.H0 d)) (s_r2_SpotOrder.out r) (denH (s_r2_SpotOrder.H1 r)) := fun d r h => bSd hm t24_ok (sp := s_r2_SpotOrder) Tryz.func66 (by kernel_rfl) (nLk _ _ _) b_r2_SpotOrder (by kernel_rfl) h
def t25 : Tab := t24.addP s_r2_SpotOrder
theorem t25_ok : TabOK P t25 := t24_ok.addP (by kernel_rfl) (by kernel_rfl) c_r2_SpotOrder

def st_insS_Spot_4 (d : List G) : Option (Option Nat × List G) :=
 (bif (ltI (gi d 1).int (gi d 4).int) then (bif ((nnI (gi d 4).int) && (ltI (gi d 4).int (((gi d 0).rows.length : Nat) : Int))) then (bif (decide ((0 + ((gi d 4).int).toNat) < (gi d 0).rows.length)) then (bif (inI ((gi d 4).int - 1)) then (bif ((nnI ((gi d 4).int - 1)) && (ltI ((gi d 4).int - 1) (((gi d 0).rows.length : Nat) : Int))) then (bif (decide ((0 + ((gi d 4).int - 1).toNat) < (gi d 0).rows.length)) then (callF (F_r2_SpotOrder [.l [(gEta KSpot ((gi d 0).rows.getD (0 + ((gi d 4).int).toNat) []))], .l [(gEta KSpot ((gi d 0).rows.getD (0 + ((gi d 4).int - 1).toNat) []))]]) fun g1 => (bif (ltI (gi g1 0).int 0) then (bif (inI ((gi d 4).int - 1)) then (bif (inI ((gi d 4).int - 1)) then (bif ((nnI ((gi d 4).int - 1)) && (ltI ((gi d 4).int - 1) (((gi d 0).rows.length : Nat) : Int))) then (bif (decide ((0 + ((gi d 4).int - 1).toNat) < (gi d 0).rows.length)) then (bif ((nnI (gi d 4).int) && (ltI (gi d 4).int (((gi d 0).rows.length : Nat) : Int))) then (bif (decide ((0 + ((gi d 4).int).toNat) < (gi d 0).rows.length)) then (bif ((nnI (gi d 4).int) && (ltI (gi d 4).int (((gi d 0).rows.length : Nat) : Int))) then (bif (decide ((0 + ((gi d 4).int).toNat) < (gi d 0).rows.length)) then (bif ((nnI ((gi d 4).int - 1)) && (ltI ((gi d 4).int - 1) (((gi d 0).rows.length : Nat) : Int))) then (bif (decide ((0 + ((gi d 4).int - 1).toNat) < ((gi d 0).rows.set (0 + ((gi d 4).int).toNat) (putG KSpot ((gi d 0).rows.getD (0 + ((gi d 4).int).toNat) []) 0 (gEta KSpot ((gi d 0).rows.getD (0 + ((gi d 4).int - 1).toNat) [])))).length)) then (bif (inI ((gi d 4).int - 1)) then (bif ((Nat.beq (gi d 0).rows.length (((gi d 0).rows.set (0 + ((gi d 4).int).toNat) (putG KSpot ((gi d 0).rows.getD (0 + ((gi d 4).int).toNat) []) 0 (gEta KSpot ((gi d 0).rows.getD (0 + ((gi d 4).int - 1).toNat) [])))).set (0 + ((gi d 4).int - 1).toNat) (putG KSpot (((gi d 0).rows.set (0 + ((gi d 4).int).toNat) (putG KSpot ((gi d 0).rows.getD (0 + ((gi d 4).int).toNat) []) 0 (gEta KSpot ((gi d 0).rows.getD (0 + ((gi d 4).int - 1).toNat) [])))).getD (0 + ((gi d 4).int - 1).toNat) []) 0 (gEta KSpot ((gi d 0).rows.getD (0 + ((gi d 4).int).toNat) [])))).length) && true) then some (none, [.l (((gi d 0).rows.set (0 + ((gi d 4).int).toNat) (putG KSpot ((gi d 0).rows.getD (0 + ((gi d 4).int).toNat) []) 0 (gEta KSpot ((gi d 0).rows.getD (0 + ((gi d 4).int - 1).toNat) [])))).set (0 + ((gi d 4).int - 1).toNat) (putG KSpot (((gi d 0).rows.set (0 + ((gi d 4).int).toNat) (putG KSpot ((gi d 0).rows.getD (0 + ((gi d 4).int).toNat) []) 0 (gEta KSpot ((gi d 0).rows.getD (0 + ((gi d 4).int - 1).toNat) [])))).getD (0 + ((gi d 4).int - 1).toNat) []) 0 (gEta KSpot ((gi d 0).rows.getD (0 + ((gi d 4).int).toNat) [])))), .i (gi d 1).int, .i (gi d 2).int, .i (gi d 3).int, .i ((gi d 4).int - 1)]) else none) else none) else none) else none) else none) else none) else none) else none) else none) else none) else none) else none) else (bif ((Nat.beq (gi d 0).rows.length (gi d 0).rows.length) && true) then some (some 0, [.l (gi d 0).rows, .i (gi d 1).int, .i (gi d 2).int, .i (gi d 3).int]) else none))) else none) else none) else none) else none) else none) else (bif ((Nat.beq (gi d 0).rows.length (gi d 0).rows.length) && true) then some (some 0, [.l (gi d 0).rows, .i (gi d 1).int, .i (gi d 2).int, .i (gi d 3).int]) else none))
def l_insS_Spot_4 : LSpec := ⟨4, [], ⟨53, [(0, .s (.vec 0 4)), (1, .s (.int .i64)), (2, .s (.int .i64)), (3, .s (.fn 66)), (8, .s (.int .i64)), (9, .s (.int .i64))], [.vec KSpot 0]⟩, [.fix 0], [⟨.exit 2, ⟨53, [(0, .s (.vec 0 4)), (1, .s (.int .i64)), (2, .s (.int .i64)), (3, .s (.fn 66)), (8, .s (.int .i64))], [.vec KSpot 0]⟩, [.fix 0]⟩], st_insS_Spot_4⟩
theorem r_insS_Spot_4 : RoundOK P t25 nL0 1 (loopAt Tryz.f189 4) l_insS_Spot_4 := fun d => by kernel_rfl
def L_insS_Spot_4 : LT := nL0.add 1 l_insS_Spot_4
theorem L_insS_Spot_4_ok : LpK P 1 L_insS_Spot_4 (bodyOf Tryz.f189) := LpK.add hm t25_ok (by kernel_rfl) (nLk _ _ _) r_insS_Spot_4
def st_insS_Spot_1 (d : List G) : Option (Option Nat × List G) :=
 (bif (ltI (gi d 3).int (gi d 2).int) then (loopB ((Nat.beq (gi d 0).rows.length (gi d 0).rows.length) && true) (LRun st_insS_Spot_4 [.l (gi d 0).rows, .i (gi d 1).int, .i (gi d 2).int, .i (gi d 3).int, .i (gi d 3).int]) fun cg2 g2 => (bif (inI ((gi g2 3).int + 1)) then (bif ((Nat.beq (gi g2 0).rows.length (gi g2 0).rows.length) && true) then some (none, [.l (gi g2 0).rows, .i (gi g2 1).int, .i (gi g2 2).int, .i ((gi g2 3).int + 1)]) else none) else none)) else some (some 0, [.l (gi d 0).rows]))
def l_insS_Spot_1 : LSpec := ⟨1, [], ⟨53, [(0, .s (.vec 0 4)), (1, .s (.int .i64)), (2, .s (.int .i64)), (3, .s (.fn 66)), (8, .s (.int .i64))], [.vec KSpot 0]⟩, [.fix 0], [⟨.exit 0, ⟨53, [], [.vec KSpot 0]⟩, [.fix 0]⟩], st_insS_Spot_1⟩
theorem r_insS_Spot_1 : RoundOK P t25 L_insS_Spot_4 1 (loopAt Tryz.f189 1) l_insS_Spot_1 := fun d => by kernel_rfl
def L_insS_Spot_1 : LT := L_insS_Spot_4.add 1 l_insS_Spot_1
theorem L_insS_Spot_1_ok : LpK P 1 L_insS_Spot_1 (bodyOf Tryz.f189) := LpK.add hm t25_ok (by kernel_rfl) L_insS_Spot_4_ok r_insS_Spot_1
def F_insS_Spot (d : List G) : Option (List G) :=
 (bif (inI ((gi d 1).int + 1)) then (loopB ((Nat.beq (gi d 0).rows.length (gi d 0).rows.length) && true) (LRun st_insS_Spot_1 [.l (gi d 0).rows, .i (gi d 1).int, .i (gi d 2).int, .i ((gi d 1).int + 1)]) fun cg3 g3 => some [.l (gi g3 0).rows]) else none)
def s_insS_Spot : FSpec := ⟨189, [.s (.vec 0 4), .s (.int .i64), .s (.int .i64), .s (.fn 66)], [.vec KSpot 0], [.slot 0], [], [.vec KSpot 0], [.fix 0], [], F_insS_Spot⟩
theorem b_insS_Spot : BodyOK P t25 L_insS_Spot_1 Tryz.f189 s_insS_Spot := fun d => by kernel_rfl
theorem c_insS_Spot : ∀ d r, F_insS_Spot d = some r → ACallX P 189 (s_insS_Spot.args0 d) (denH (s_insS_Spot.H0 d)) (s_insS_Spot.out r) (denH (s_insS_Spot.H1 r)) := fun d r h => bSd hm t25_ok (sp := s_insS_Spot) Tryz.func189 (by kernel_rfl) L_insS_Spot_1_ok b_insS_Spot (by kernel_rfl) h
def t26 : Tab := t25.addW s_insS_Spot
theorem t26_ok : TabOK P t26 := t25_ok.addW (by kernel_rfl) (by kernel_rfl) c_insS_Spot

def st_stbS_Spot_2 (d : List G) : Option (Option Nat × List G) :=
 (bif (leI (gi d 4).int (gi d 1).int) then (callB (((Nat.beq (gi d 0).rows.length (gi d 0).rows.length) && true) && (F_insS_Spot [.l (gi d 0).rows, .i (gi d 3).int, .i (gi d 4).int]).isSome) (F_insS_Spot [.l (gi d 0).rows, .i (gi d 3).int, .i (gi d 4).int]) fun g1 => (bif (inI ((gi d 4).int + (gi d 2).int)) then (bif ((Nat.beq (gi d 0).rows.length (gi g1 0).rows.length) && true) then some (none, [.l (gi g1 0).rows, .i (gi d 1).int, .i (gi d 2).int, .i (gi d 4).int, .i ((gi d 4).int + (gi d 2).int)]) else none) else none)) else (bif ((Nat.beq (gi d 0).rows.length (gi d 0).rows.length) && true) then some (some 0, [.l (gi d 0).rows, .i (gi d 1).int, .i (gi d 2).int, .i (gi d 3).int]) else none))
def l_stbS_Spot_2 : LSpec := ⟨2, [], ⟨63, [(0, .s (.vec 0 4)), (1, .s (.int .i64)), (2, .s (.fn 66)), (6, .s (.int .i64)), (7, .s (.int .i64)), (8, .s (.int .i64))], [.vec KSpot 0]⟩, [.fix 0], [⟨.exit 0, ⟨63, [(0, .s (.vec 0 4)), (1, .s (.int .i64)), (2, .s (.fn 66)), (6, .s (.int .i64)), (7, .s (.int .i64))], [.vec KSpot 0]⟩, [.fix 0]⟩], st_stbS_Spot_2⟩
theorem r_stbS_Spot_2 : RoundOK P t26 nL0 1 (loopAt Tryz.f131 2) l_stbS_Spot_2 := fun d => by kernel_rfl
def L_stbS_Spot_2 : LT := nL0.add 1 l_stbS_Spot_2
theorem L_stbS_Spot_2_ok : LpK P 1 L_stbS_Spot_2 (bodyOf Tryz.f131) := LpK.add hm t26_ok (by kernel_rfl) (nLk _ _ _) r_stbS_Spot_2
def st_stbS_Spot_9 (d : List G) : Option (Option Nat × List G) :=
 (bif (leI (gi d 4).int (gi d 1).int) then (bif (inI ((gi d 3).int + (gi d 2).int)) then none else none) else (bif ((Nat.beq (gi d 0).rows.length (gi d 0).rows.length) && true) then some (some 0, [.l (gi d 0).rows, .i (gi d 1).int, .i (gi d 2).int, .i (gi d 3).int]) else none))
def l_stbS_Spot_9 : LSpec := ⟨9, [], ⟨63, [(0, .s (.vec 0 4)), (1, .s (.int .i64)), (2, .s (.fn 66)), (6, .s (.int .i64)), (7, .s (.int .i64)), (8, .s (.int .i64))], [.vec KSpot 0]⟩, [.fix 0], [⟨.exit 4, ⟨63, [(0, .s (.vec 0 4)), (1, .s (.int .i64)), (2, .s (.fn 66)), (6, .s (.int .i64)), (7, .s (.int .i64))], [.vec KSpot 0]⟩, [.fix 0]⟩], st_stbS_Spot_9⟩
theorem r_stbS_Spot_9 : RoundOK P t26 L_stbS_Spot_2 1 (loopAt Tryz.f131 9) l_stbS_Spot_9 := fun d => by kernel_rfl
def L_stbS_Spot_9 : LT := L_stbS_Spot_2.add 1 l_stbS_Spot_9
theorem L_stbS_Spot_9_ok : LpK P 1 L_stbS_Spot_9 (bodyOf Tryz.f131) := LpK.add hm t26_ok (by kernel_rfl) L_stbS_Spot_2_ok r_stbS_Spot_9
def st_stbS_Spot_7 (d : List G) : Option (Option Nat × List G) :=
 (bif (ltI (gi d 2).int (gi d 1).int) then (bif (inI (2 * (gi d 2).int)) then (loopB ((Nat.beq (gi d 0).rows.length (gi d 0).rows.length) && true) (LRun st_stbS_Spot_9 [.l (gi d 0).rows, .i (gi d 1).int, .i (gi d 2).int, .i 0, .i (2 * (gi d 2).int)]) fun cg4 g4 => (bif (inI ((gi g4 3).int + (gi g4 2).int)) then (bif (ltI ((gi g4 3).int + (gi g4 2).int) (gi g4 1).int) then none else (bif (inI ((gi g4 2).int * 2)) then (bif ((Nat.beq (gi g4 0).rows.length (gi g4 0).rows.length) && true) then some (none, [.l (gi g4 0).rows, .i (gi g4 1).int, .i ((gi g4 2).int * 2)]) else none) else none)) else none)) else none) else some (some 0, [.l (gi d 0).rows]))
def l_stbS_Spot_7 : LSpec := ⟨7, [], ⟨63, [(0, .s (.vec 0 4)), (1, .s (.int .i64)), (2, .s (.fn 66)), (6, .s (.int .i64))], [.vec KSpot 0]⟩, [.fix 0], [⟨.exit 2, ⟨63, [], [.vec KSpot 0]⟩, [.fix 0]⟩], st_stbS_Spot_7⟩
theorem r_stbS_Spot_7 : RoundOK P t26 L_stbS_Spot_9 1 (loopAt Tryz.f131 7) l_stbS_Spot_7 := fun d => by kernel_rfl
def L_stbS_Spot_7 : LT := L_stbS_Spot_9.add 1 l_stbS_Spot_7
theorem L_stbS_Spot_7_ok : LpK P 1 L_stbS_Spot_7 (bodyOf Tryz.f131) := LpK.add hm t26_ok (by kernel_rfl) L_stbS_Spot_9_ok r_stbS_Spot_7
def F_stbS_Spot (d : List G) : Option (List G) :=
 (loopB ((Nat.beq (gi d 0).rows.length (gi d 0).rows.length) && true) (LRun st_stbS_Spot_2 [.l (gi d 0).rows, .i (gi d 1).int, .i 20, .i 0, .i 20]) fun cg2 g2 => (callB (((Nat.beq (gi g2 0).rows.length (gi g2 0).rows.length) && true) && (F_insS_Spot [.l (gi g2 0).rows, .i (gi g2 3).int, .i (gi g2 1).int]).isSome) (F_insS_Spot [.l (gi g2 0).rows, .i (gi g2 3).int, .i (gi g2 1).int]) fun g3 => (loopB ((Nat.beq (gi g2 0).rows.length (gi g3 0).rows.length) && true) (LRun st_stbS_Spot_7 [.l (gi g3 0).rows, .i (gi g2 1).int, .i (gi g2 2).int]) fun cg5 g5 => some [.l (gi g5 0).rows])))
def s_stbS_Spot : FSpec := ⟨131, [.s (.vec 0 4), .s (.int .i64), .s (.fn 66)], [.vec KSpot 0], [.slot 0], [], [.vec KSpot 0], [.fix 0], [], F_stbS_Spot⟩
theorem b_stbS_Spot : BodyOK P t26 L_stbS_Spot_7 Tryz.f131 s_stbS_Spot := fun d => by kernel_rfl
theorem c_stbS_Spot : ∀ d r, F_stbS_Spot d = some r → ACallX P 131 (s_stbS_Spot.args0 d) (denH (s_stbS_Spot.H0 d)) (s_stbS_Spot.out r) (denH (s_stbS_Spot.H1 r)) := fun d r h => bSd hm t26_ok (sp := s_stbS_Spot) Tryz.func131 (by kernel_rfl) L_stbS_Spot_7_ok b_stbS_Spot (by kernel_rfl) h
def t27 : Tab := t26.addW s_stbS_Spot
theorem t27_ok : TabOK P t27 := t26_ok.addW (by kernel_rfl) (by kernel_rfl) c_stbS_Spot

def F_srtS_Spot (d : List G) : Option (List G) :=
 (callB (((Nat.beq (gi d 0).rows.length (gi d 0).rows.length) && true) && (F_stbS_Spot [.l (gi d 0).rows, .i (((gi d 0).rows.length : Nat) : Int)]).isSome) (F_stbS_Spot [.l (gi d 0).rows, .i (((gi d 0).rows.length : Nat) : Int)]) fun g1 => some [.l (gi g1 0).rows])
def s_srtS_Spot : FSpec := ⟨65, [.s (.vec 0 4), .s (.fn 66)], [.vec KSpot 0], [.slot 0], [], [.vec KSpot 0], [.fix 0], [], F_srtS_Spot⟩
theorem b_srtS_Spot : BodyOK P t27 nL0 Tryz.f65 s_srtS_Spot := fun d => by kernel_rfl
theorem c_srtS_Spot : ∀ d r, F_srtS_Spot d = some r → ACallX P 65 (s_srtS_Spot.args0 d) (denH (s_srtS_Spot.H0 d)) (s_srtS_Spot.out r) (denH (s_srtS_Spot.H1 r)) := fun d r h => bSd hm t27_ok (sp := s_srtS_Spot) Tryz.func65 (by kernel_rfl) (nLk _ _ _) b_srtS_Spot (by kernel_rfl) h
def t28 : Tab := t27.addW s_srtS_Spot
theorem t28_ok : TabOK P t28 := t27_ok.addW (by kernel_rfl) (by kernel_rfl) c_srtS_Spot

def st_sl_Compact_Spot_9 (d : List G) : Option (Option Nat × List G) :=
 (bif (ltI (gi d 4).int (((gi d 3).int.toNat : Nat) : Int)) then (bif ((nnI (gi d 4).int) && (ltI (gi d 4).int (((gi d 3).int.toNat : Nat) : Int))) then (bif (decide (((gi d 2).int.toNat + ((gi d 4).int).toNat) < (gi d 0).rows.length)) then (bif (inI ((gi d 4).int - 1)) then (bif ((nnI ((gi d 4).int - 1)) && (ltI ((gi d 4).int - 1) (((gi d 3).int.toNat : Nat) : Int))) then (bif (decide (((gi d 2).int.toNat + ((gi d 4).int - 1).toNat) < (gi d 0).rows.length)) then (bif (!(rowEq KSpot (gEta KSpot ((gi d 0).rows.getD ((gi d 2).int.toNat + ((gi d 4).int).toNat) [])) (gEta KSpot ((gi d 0).rows.getD ((gi d 2).int.toNat + ((gi d 4).int - 1).toNat) [])))) then (bif ((nnI (gi d 4).int) && (ltI (gi d 4).int (((gi d 3).int.toNat : Nat) : Int))) then (bif (decide (((gi d 2).int.toNat + ((gi d 4).int).toNat) < (gi d 0).rows.length)) then (bif ((nnI (gi d 1).int) && (ltI (gi d 1).int (((gi d 0).rows.length : Nat) : Int))) then (bif (decide ((0 + ((gi d 1).int).toNat) < (gi d 0).rows.length)) then (bif (inI ((gi d 1).int + 1)) then (bif (inI ((gi d 4).int + 1)) then (bif ((Nat.beq (gi d 0).rows.length ((gi d 0).rows.set (0 + ((gi d 1).int).toNat) (putG KSpot ((gi d 0).rows.getD (0 + ((gi d 1).int).toNat) []) 0 (gEta KSpot ((gi d 0).rows.getD ((gi d 2).int.toNat + ((gi d 4).int).toNat) [])))).length) && true) then some (none, [.l ((gi d 0).rows.set (0 + ((gi d 1).int).toNat) (putG KSpot ((gi d 0).rows.getD (0 + ((gi d 1).int).toNat) []) 0 (gEta KSpot ((gi d 0).rows.getD ((gi d 2).int.toNat + ((gi d 4).int).toNat) [])))), .i ((gi d 1).int + 1), .i (((gi d 2).int.toNat : Nat) : Int), .i (((gi d 3).int.toNat : Nat) : Int), .i ((gi d 4).int + 1)]) else none) else none) else none) else none) else none) else none) else none) else (bif (inI ((gi d 4).int + 1)) then (bif ((Nat.beq (gi d 0).rows.length (gi d 0).rows.length) && true) then some (none, [.l (gi d 0).rows, .i (gi d 1).int, .i (((gi d 2).int.toNat : Nat) : Int), .i (((gi d 3).int.toNat : Nat) : Int), .i ((gi d 4).int + 1)]) else none) else none)) else none) else none) else none) else none) else none) else (bif ((Nat.beq (gi d 0).rows.length (gi d 0).rows.length) && true) then some (some 0, [.l (gi d 0).rows, .i (gi d 1).int]) else none))
def l_sl_Compact_Spot_9 : LSpec := ⟨9, [], ⟨61, [(0, .s (.vec 0 4)), (3, .s (.int .i64)), (4, .s (.sub 0 4)), (5, .s (.int .i64))], [.vec KSpot 0]⟩, [.fix 0], [⟨.exit 2, ⟨61, [(0, .s (.vec 0 4)), (3, .s (.int .i64))], [.vec KSpot 0]⟩, [.fix 0]⟩], st_sl_Compact_Spot_9⟩
theorem r_sl_Compact_Spot_9 : RoundOK P t28 nL0 1 (loopAt Tryz.f67 9) l_sl_Compact_Spot_9 := fun d => by kernel_rfl
def L_sl_Compact_Spot_9 : LT := nL0.add 1 l_sl_Compact_Spot_9
theorem L_sl_Compact_Spot_9_ok : LpK P 1 L_sl_Compact_Spot_9 (bodyOf Tryz.f67) := LpK.add hm t28_ok (by kernel_rfl) (nLk _ _ _) r_sl_Compact_Spot_9
def st_sl_Compact_Spot_4 (d : List G) : Option (Option Nat × List G) :=
 (bif (ltI (gi d 1).int (((gi d 0).rows.length : Nat) : Int)) then (bif ((nnI (gi d 1).int) && (ltI (gi d 1).int (((gi d 0).rows.length : Nat) : Int))) then (bif (decide ((0 + ((gi d 1).int).toNat) < (gi d 0).rows.length)) then (bif (inI ((gi d 1).int - 1)) then (bif ((nnI ((gi d 1).int - 1)) && (ltI ((gi d 1).int - 1) (((gi d 0).rows.length : Nat) : Int))) then (bif (decide ((0 + ((gi d 1).int - 1).toNat) < (gi d 0).rows.length)) then (bif (rowEq KSpot (gEta KSpot ((gi d 0).rows.getD (0 + ((gi d 1).int).toNat) [])) (gEta KSpot ((gi d 0).rows.getD (0 + ((gi d 1).int - 1).toNat) []))) then (bif ((nnI (gi d 1).int) && (leI (gi d 1).int (((gi d 0).rows.length : Nat) : Int))) then (loopB ((Nat.beq (gi d 0).rows.length (gi d 0).rows.length) && true) (LRun st_sl_Compact_Spot_9 [.l (gi d 0).rows, .i (gi d 1).int, .i (((0 + ((gi d 1).int).toNat) : Nat) : Int), .i ((((gi d 0).rows.length - ((gi d 1).int).toNat) : Nat) : Int), .i 1]) fun cg1 g1 => (bif ((nnI (gi g1 1).int) && (leI (gi g1 1).int (((gi g1 0).rows.length : Nat) : Int))) then (bif (Nat.ble ((0 + ((gi g1 1).int).toNat) + ((gi g1 0).rows.length - ((gi g1 1).int).toNat)) (gi g1 0).rows.length) then (bif ((nnI (gi g1 1).int) && (leI (gi g1 1).int (((gi g1 0).rows.length : Nat) : Int))) then some (some 0, [.l ((gi g1 0).rows.take (0 + ((gi g1 1).int).toNat) ++ List.replicate ((gi g1 0).rows.length - ((gi g1 1).int).toNat) [.i 0, .i 0, .s (⟨#[]⟩ : ByteArray), .s (⟨#[]⟩ : ByteArray)] ++ (gi g1 0).rows.drop ((0 + ((gi g1 1).int).toNat) + ((gi g1 0).rows.length - ((gi g1 1).int).toNat))), .i (((((gi g1 1).int).toNat - 0) : Nat) : Int)]) else none) else none) else none)) else none) else (bif (inI ((gi d 1).int + 1)) then (bif ((Nat.beq (gi d 0).rows.length (gi d 0).rows.length) && true) then some (none, [.l (gi d 0).rows, .i ((gi d 1).int + 1)]) else none) else none)) else none) else none) else none) else none) else none) else (bif ((Nat.beq (gi d 0).rows.length (gi d 0).rows.length) && true) then some (some 1, [.l (gi d 0).rows]) else none))
def l_sl_Compact_Spot_4 : LSpec := ⟨4, [], ⟨61, [(0, .s (.vec 0 4)), (3, .s (.int .i64))], [.vec KSpot 0]⟩, [.fix 0], [⟨.ret, ⟨61, [(2, .s (.pre 0 4))], [.vec KSpot 0]⟩, [.fix 0]⟩, ⟨.exit 0, ⟨61, [(0, .s (.vec 0 4))], [.vec KSpot 0]⟩, [.fix 0]⟩], st_sl_Compact_Spot_4⟩
theorem r_sl_Compact_Spot_4 : RoundOK P t28 L_sl_Compact_Spot_9 1 (loopAt Tryz.f67 4) l_sl_Compact_Spot_4 := fun d => by kernel_rfl
def L_sl_Compact_Spot_4 : LT := L_sl_Compact_Spot_9.add 1 l_sl_Compact_Spot_4
theorem L_sl_Compact_Spot_4_ok : LpK P 1 L_sl_Compact_Spot_4 (bodyOf Tryz.f67) := LpK.add hm t28_ok (by kernel_rfl) L_sl_Compact_Spot_9_ok r_sl_Compact_Spot_4
def F_sl_Compact_Spot (d : List G) : Option (List G) :=
 (bif (ltI (((gi d 0).rows.length : Nat) : Int) 2) then some [.l (gi d 0).rows, .i (((gi d 0).rows.length : Nat) : Int)] else (loopB ((Nat.beq (gi d 0).rows.length (gi d 0).rows.length) && true) (LRun st_sl_Compact_Spot_4 [.l (gi d 0).rows, .i 1]) fun cg2 g2 => (bif Nat.beq cg2 0 then some [.l (gi g2 0).rows, .i (((gi g2 1).int.toNat : Nat) : Int)] else some [.l (gi g2 0).rows, .i (((gi g2 0).rows.length : Nat) : Int)])))
def s_sl_Compact_Spot : FSpec := ⟨67, [.s (.vec 0 4)], [.vec KSpot 0], [.slot 0], [.s (.pre 0 4)], [.vec KSpot 0], [.fix 0], [], F_sl_Compact_Spot⟩
theorem b_sl_Compact_Spot : BodyOK P t28 L_sl_Compact_Spot_4 Tryz.f67 s_sl_Compact_Spot := fun d => by kernel_rfl
theorem c_sl_Compact_Spot : ∀ d r, F_sl_Compact_Spot d = some r → ACallX P 67 (s_sl_Compact_Spot.args0 d) (denH (s_sl_Compact_Spot.H0 d)) (s_sl_Compact_Spot.out r) (denH (s_sl_Compact_Spot.H1 r)) := fun d r h => bSd hm t28_ok (sp := s_sl_Compact_Spot) Tryz.func67 (by kernel_rfl) L_sl_Compact_Spot_4_ok b_sl_Compact_Spot (by kernel_rfl) h
def t29 : Tab := t28.addW s_sl_Compact_Spot
theorem t29_ok : TabOK P t29 := t28_ok.addW (by kernel_rfl) (by kernel_rfl) c_sl_Compact_Spot

def st_mk_Spots_4 (d : List G) : Option (Option Nat × List G) :=
 (bif (ltI (gi d 5).int (gi d 4).int) then (callF (F_mk_Pick [.l (gi d 0).rows, .i (gi d 1).int, .l [[.i 0], [.i 1], [.i 5], [.i 20]]]) fun g1 => (bif (inI ((gi d 3).int + (gi g1 2).int)) then (callF (F_mk_Pick [.l (gi g1 0).rows, .i (gi g1 1).int, .l [[.i 7000000], [.i 7100000], [.i 7299999], [.i 7300000], [.i 14000000], [.i 14010000], [.i 14020000], [.i 14020000], [.i 1800000], [.i 5000000]]]) fun g2 => (callF (F_mk_ACall [.l (gi g2 0).rows, .i (gi g2 1).int]) fun g3 => (callF (F_mk_Some [.l (gi g3 0).rows, .i (gi g3 1).int, .l [[.s (⟨#[119, 49, 97, 119]⟩ : ByteArray)], [.s (⟨#[110, 49, 109, 109]⟩ : ByteArray)]]]) fun g4 => (callF (F_mk_Flip [.l (gi g4 0).rows, .i (gi g4 1).int, .i 80]) fun g5 => (bif (gi g5 2).bool then (callF (F_mk_Odd [.l (gi g5 0).rows, .i (gi g5 1).int, .i 0, .i 100]) fun g6 => (callF (F_mk_Odd [.l (gi g6 0).rows, .i (gi g6 1).int, .i 0, .i 30000000000]) fun g7 => (callF (F_mk_Some [.l (gi g7 0).rows, .i (gi g7 1).int, .l [[.s (⟨#[]⟩ : ByteArray)], [.s (⟨#[119, 49, 97, 119]⟩ : ByteArray)]]]) fun g8 => (bif ((Nat.beq (gi d 2).rows.length (gi d 2).rows.length) && (decide (((gi d 2).rows.length + 1) ≤ 1048576))) then (bif (inI ((gi d 5).int + 1)) then (bif ((Nat.beq ((gi d 2).rows ++ ([[.i (gi g6 2).int, .i (gi g7 2).int, .s (gi g3 2).str, .s (gi g8 2).str]] : List (List G))).length ((gi d 2).rows ++ ([[.i (gi g6 2).int, .i (gi g7 2).int, .s (gi g3 2).str, .s (gi g8 2).str]] : List (List G))).length) && true) then some (none, [.l (gi g8 0).rows, .i (gi g8 1).int, .l ((gi d 2).rows ++ ([[.i (gi g6 2).int, .i (gi g7 2).int, .s (gi g3 2).str, .s (gi g8 2).str]] : List (List G))), .i ((gi d 3).int + (gi g1 2).int), .i (gi d 4).int, .i ((gi d 5).int + 1)]) else none) else none) else none)))) else (bif ((Nat.beq (gi d 2).rows.length (gi d 2).rows.length) && (decide (((gi d 2).rows.length + 1) ≤ 1048576))) then (bif (inI ((gi d 5).int + 1)) then (bif ((Nat.beq ((gi d 2).rows ++ ([[.i ((gi d 3).int + (gi g1 2).int), .i (gi g2 2).int, .s (gi g3 2).str, .s (gi g4 2).str]] : List (List G))).length ((gi d 2).rows ++ ([[.i ((gi d 3).int + (gi g1 2).int), .i (gi g2 2).int, .s (gi g3 2).str, .s (gi g4 2).str]] : List (List G))).length) && true) then some (none, [.l (gi g5 0).rows, .i (gi g5 1).int, .l ((gi d 2).rows ++ ([[.i ((gi d 3).int + (gi g1 2).int), .i (gi g2 2).int, .s (gi g3 2).str, .s (gi g4 2).str]] : List (List G))), .i ((gi d 3).int + (gi g1 2).int), .i (gi d 4).int, .i ((gi d 5).int + 1)]) else none) else none) else none)))))) else none)) else (bif ((Nat.beq (gi d 2).rows.length (gi d 2).rows.length) && true) then some (some 0, [.l (gi d 0).rows, .i (gi d 1).int, .l (gi d 2).rows]) else none))
def l_mk_Spots_4 : LSpec := ⟨4, [(5, KSpot)], ⟨47, [(0, .s (.ptr 0 0)), (5, .s (.vec 1 4)), (6, .s (.int .i64)), (8, .s (.int .i64)), (9, .s (.int .i64))], [.box [.list [.int .i64], .int .i64], .vec KSpot 0]⟩, [.fix 0, .slot 5], [⟨.exit 0, ⟨47, [(5, .s (.vec 1 4))], [.box [.list [.int .i64], .int .i64], .vec KSpot 0]⟩, [.fix 0, .slot 5]⟩], st_mk_Spots_4⟩
theorem r_mk_Spots_4 : RoundOK P t29 nL0 1 (loopAt Tryz.f9 4) l_mk_Spots_4 := fun d => by kernel_rfl
def L_mk_Spots_4 : LT := nL0.add 1 l_mk_Spots_4
theorem L_mk_Spots_4_ok : LpK P 1 L_mk_Spots_4 (bodyOf Tryz.f9) := LpK.add hm t29_ok (by kernel_rfl) (nLk _ _ _) r_mk_Spots_4
def F_mk_Spots (d : List G) : Option (List G) :=
 (loopB true (LRun st_mk_Spots_4 [.l (gi d 0).rows, .i (gi d 1).int, .l [], .i 0, .i (gi d 2).int, .i 0]) fun cg9 g9 => (callB (((Nat.beq (gi g9 2).rows.length (gi g9 2).rows.length) && true) && (F_srtS_Spot [.l (gi g9 2).rows]).isSome) (F_srtS_Spot [.l (gi g9 2).rows]) fun g10 => (callB (((Nat.beq (gi g9 2).rows.length (gi g10 0).rows.length) && true) && (F_sl_Compact_Spot [.l (gi g10 0).rows]).isSome) (F_sl_Compact_Spot [.l (gi g10 0).rows]) fun g11 => (bif ((Nat.ble (gi g11 1).int.toNat (gi g11 0).rows.length) && true) then some [.l (gi g9 0).rows, .i (gi g9 1).int, .l ((gi g11 0).rows.take ((gi g11 1).int.toNat))] else none))))
def s_mk_Spots : FSpec := ⟨9, [.s (.ptr 0 0), .s (.int .i64)], [.box [.list [.int .i64], .int .i64]], [.slot 0], [.s (.lpre KSpot)], [.box [.list [.int .i64], .int .i64]], [.fix 0], [], F_mk_Spots⟩
theorem b_mk_Spots : BodyOK P t29 L_mk_Spots_4 Tryz.f9 s_mk_Spots := fun d => by kernel_rfl
theorem c_mk_Spots : ∀ d r, F_mk_Spots d = some r → ACallX P 9 (s_mk_Spots.args0 d) (denH (s_mk_Spots.H0 d)) (s_mk_Spots.out r) (denH (s_mk_Spots.H1 r)) := fun d r h => bSd hm t29_ok (sp := s_mk_Spots) Tryz.func9 (by kernel_rfl) L_mk_Spots_4_ok b_mk_Spots (by kernel_rfl) h
def t30 : Tab := t29.addW s_mk_Spots
theorem t30_ok : TabOK P t30 := t29_ok.addW (by kernel_rfl) (by kernel_rfl) c_mk_Spots

def F_mk_SomeContact (d : List G) : Option (List G) :=
 (callF (F_mk_Pick [.l (gi d 0).rows, .i (gi d 1).int, .l [[.i 1], [.i 1], [.i 2], [.i 3]]]) fun g1 => (callF (F_mk_Some [.l (gi g1 0).rows, .i (gi g1 1).int, .l [[.s (⟨#[98, 50, 48]⟩ : ByteArray)], [.s (⟨#[98, 50, 48]⟩ : ByteArray)], [.s (⟨#[98, 52, 48]⟩ : ByteArray)]]]) fun g2 => (callF (F_mk_ACall [.l (gi g2 0).rows, .i (gi g2 1).int]) fun g3 => (callF (F_mk_Pick [.l (gi g3 0).rows, .i (gi g3 1).int, .l [[.i 0], [.i 1], [.i 2], [.i 3], [.i 4], [.i 5], [.i 6], [.i 7]]]) fun g4 => (callF (F_mk_Pick [.l (gi g4 0).rows, .i (gi g4 1).int, .l [[.i 0], [.i 1], [.i 2], [.i 9]]]) fun g5 => (callF (F_mk_Some [.l (gi g5 0).rows, .i (gi g5 1).int, .l [[.s (⟨#[]⟩ : ByteArray)], [.s (⟨#[]⟩ : ByteArray)], [.s (⟨#[102, 105, 110]⟩ : ByteArray)]]]) fun g6 => (callF (F_mk_Some [.l (gi g6 0).rows, .i (gi g6 1).int, .l [[.s (⟨#[]⟩ : ByteArray)], [.s (⟨#[]⟩ : ByteArray)], [.s (⟨#[117, 115, 97]⟩ : ByteArray)]]]) fun g7 => (callF (F_mk_Flip [.l (gi g7 0).rows, .i (gi g7 1).int, .i 100]) fun g8 => (bif (gi g8 2).bool then (callF (F_mk_Next [.l (gi g8 0).rows, .i (gi g8 1).int, .i 4]) fun g9 => (bif ((gi g9 2).int == 0) then (callF (F_mk_Odd [.l (gi g9 0).rows, .i (gi g9 1).int, .i 0, .i 500]) fun g10 => (callF (F_mk_Odd [.l (gi g10 0).rows, .i (gi g10 1).int, .i 1, .i 3]) fun g11 => some [.l (gi g11 0).rows, .i (gi g11 1).int, .l [[.i (gi g10 2).int, .i (gi g11 2).int, .s (gi g2 2).str, .s (gi g3 2).str, .i (gi g4 2).int, .i (gi g5 2).int, .s (gi g6 2).str, .s (gi g7 2).str]]])) else (bif ((gi g9 2).int == 1) then (callF (F_mk_Some [.l (gi g9 0).rows, .i (gi g9 1).int, .l [[.s (⟨#[]⟩ : ByteArray)], [.s (⟨#[66]⟩ : ByteArray)], [.s (⟨#[98, 50, 48]⟩ : ByteArray)]]]) fun g12 => some [.l (gi g12 0).rows, .i (gi g12 1).int, .l [[.i (gi d 2).int, .i (gi g1 2).int, .s (gi g12 2).str, .s (gi g3 2).str, .i (gi g4 2).int, .i (gi g5 2).int, .s (gi g6 2).str, .s (gi g7 2).str]]]) else (bif ((gi g9 2).int == 2) then (callF (F_mk_Odd [.l (gi g9 0).rows, .i (gi g9 1).int, .i 0, .i 99999]) fun g13 => (callF (F_mk_Odd [.l (gi g13 0).rows, .i (gi g13 1).int, .i 0, .i 99999]) fun g14 => some [.l (gi g14 0).rows, .i (gi g14 1).int, .l [[.i (gi d 2).int, .i (gi g1 2).int, .s (gi g2 2).str, .s (gi g3 2).str, .i (gi g13 2).int, .i (gi g14 2).int, .s (gi g6 2).str, .s (gi g7 2).str]]])) else (callF (F_mk_Some [.l (gi g9 0).rows, .i (gi g9 1).int, .l [[.s (⟨#[]⟩ : ByteArray)], [.s (⟨#[65]⟩ : ByteArray)]]]) fun g15 => (callF (F_mk_Some [.l (gi g15 0).rows, .i (gi g15 1).int, .l [[.s (⟨#[49]⟩ : ByteArray)], [.s (⟨#[117, 115, 97]⟩ : ByteArray)]]]) fun g16 => some [.l (gi g16 0).rows, .i (gi g16 1).int, .l [[.i (gi d 2).int, .i (gi g1 2).int, .s (gi g2 2).str, .s (gi g3 2).str, .i (gi g4 2).int, .i (gi g5 2).int, .s (gi g15 2).str, .s (gi g16 2).str]]])))))) else some [.l (gi g8 0).rows, .i (gi g8 1).int, .l [[.i (gi d 2).int, .i (gi g1 2).int, .s (gi g2 2).str, .s (gi g3 2).str, .i (gi g4 2).int, .i (gi g5 2).int, .s (gi g6 2).str, .s (gi g7 2).str]]])))))))))
def s_mk_SomeContact : FSpec := ⟨93, [.s (.ptr 0 0), .s (.int .i64)], [.box [.list [.int .i64], .int .i64]], [.slot 0], [.s (.row KCt)], [.box [.list [.int .i64], .int .i64]], [.fix 0], [], F_mk_SomeContact⟩
theorem b_mk_SomeContact : BodyOK P t30 nL0 Tryz.f93 s_mk_SomeContact := fun d => by kernel_rfl
theorem c_mk_SomeContact : ∀ d r, F_mk_SomeContact d = some r → ACallX P 93 (s_mk_SomeContact.args0 d) (denH (s_mk_SomeContact.H0 d)) (s_mk_SomeContact.out r) (denH (s_mk_SomeContact.H1 r)) := fun d r h => bSd hm t30_ok (sp := s_mk_SomeContact) Tryz.func93 (by kernel_rfl) (nLk _ _ _) b_mk_SomeContact (by kernel_rfl) h
def t31 : Tab := t30.addW s_mk_SomeContact
theorem t31_ok : TabOK P t31 := t30_ok.addW (by kernel_rfl) (by kernel_rfl) c_mk_SomeContact

def F_r2_sign (d : List G) : Option (List G) :=
 (bif (ltI (gi d 0).int 0) then some [.i (-1)] else (bif (ltI 0 (gi d 0).int) then some [.i 1] else some [.i 0]))
def s_r2_sign : FSpec := ⟨88, [.s (.int .i64)], [], [], [.s (.int .i64)], [], [], [], F_r2_sign⟩
theorem b_r2_sign : BodyOK P t31 nL0 Tryz.f88 s_r2_sign := fun d => by kernel_rfl
theorem c_r2_sign : ∀ d r, F_r2_sign d = some r → ACallX P 88 (s_r2_sign.args0 d) (denH (s_r2_sign.H0 d)) (s_r2_sign.out r) (denH (s_r2_sign.H1 r)) := fun d r h => bSd hm t31_ok (sp := s_r2_sign) Tryz.func88 (by kernel_rfl) (nLk _ _ _) b_r2_sign (by kernel_rfl) h
def t32 : Tab := t31.addP s_r2_sign
theorem t32_ok : TabOK P t32 := t31_ok.addP (by kernel_rfl) (by kernel_rfl) c_r2_sign

def F_r2_ContactOrder (d : List G) : Option (List G) :=
 (bif ((gi (gi d 0).row 0).int != (gi (gi d 1).row 0).int) then (bif (inI ((gi (gi d 0).row 0).int - (gi (gi d 1).row 0).int)) then (callF (F_r2_sign [.i ((gi (gi d 0).row 0).int - (gi (gi d 1).row 0).int)]) fun g1 => some [.i (gi g1 0).int]) else none) else (bif (!((gi (gi d 0).row 3).str.toList == (gi (gi d 1).row 3).str.toList)) then (callF (F_strings_Compare [.s (gi (gi d 0).row 3).str, .s (gi (gi d 1).row 3).str]) fun g2 => some [.i (gi g2 0).int]) else (bif (!((gi (gi d 0).row 2).str.toList == (gi (gi d 1).row 2).str.toList)) then (callF (F_strings_Compare [.s (gi (gi d 0).row 2).str, .s (gi (gi d 1).row 2).str]) fun g3 => some [.i (gi g3 0).int]) else (bif (inI ((gi (gi d 0).row 1).int - (gi (gi d 1).row 1).int)) then (callF (F_r2_sign [.i ((gi (gi d 0).row 1).int - (gi (gi d 1).row 1).int)]) fun g4 => some [.i (gi g4 0).int]) else none))))
def s_r2_ContactOrder : FSpec := ⟨95, [.s (.row KCt), .s (.row KCt)], [], [], [.s (.int .i64)], [], [], [], F_r2_ContactOrder⟩
theorem b_r2_ContactOrder : BodyOK P t32 nL0 Tryz.f95 s_r2_ContactOrder := fun d => by kernel_rfl
theorem c_r2_ContactOrder : ∀ d r, F_r2_ContactOrder d = some r → ACallX P 95 (s_r2_ContactOrder.args0 d) (denH (s_r2_ContactOrder.H0 d)) (s_r2_ContactOrder.out r) (denH (s_r2_ContactOrder.H1 r)) := fun d r h => bSd hm t32_ok (sp := s_r2_ContactOrder) Tryz.func95 (by kernel_rfl) (nLk _ _ _) b_r2_ContactOrder (by kernel_rfl) h
def t33 : Tab := t32.addP s_r2_ContactOrder
theorem t33_ok : TabOK P t33 := t32_ok.addP (by kernel_rfl) (by kernel_rfl) c_r2_ContactOrder

def st_insS_Contact_4 (d : List G) : Option (Option Nat × List G) :=
 (bif (ltI (gi d 1).int (gi d 4).int) then (bif ((nnI (gi d 4).int) && (ltI (gi d 4).int (((gi d 0).rows.length : Nat) : Int))) then (bif (decide ((0 + ((gi d 4).int).toNat) < (gi d 0).rows.length)) then (bif (inI ((gi d 4).int - 1)) then (bif ((nnI ((gi d 4).int - 1)) && (ltI ((gi d 4).int - 1) (((gi d 0).rows.length : Nat) : Int))) then (bif (decide ((0 + ((gi d 4).int - 1).toNat) < (gi d 0).rows.length)) then (callF (F_r2_ContactOrder [.l [(gEta KCt ((gi d 0).rows.getD (0 + ((gi d 4).int).toNat) []))], .l [(gEta KCt ((gi d 0).rows.getD (0 + ((gi d 4).int - 1).toNat) []))]]) fun g1 => (bif (ltI (gi g1 0).int 0) then (bif (inI ((gi d 4).int - 1)) then (bif (inI ((gi d 4).int - 1)) then (bif ((nnI ((gi d 4).int - 1)) && (ltI ((gi d 4).int - 1) (((gi d 0).rows.length : Nat) : Int))) then (bif (decide ((0 + ((gi d 4).int - 1).toNat) < (gi d 0).rows.length)) then (bif ((nnI (gi d 4).int) && (ltI (gi d 4).int (((gi d 0).rows.length : Nat) : Int))) then (bif (decide ((0 + ((gi d 4).int).toNat) < (gi d 0).rows.length)) then (bif ((nnI (gi d 4).int) && (ltI (gi d 4).int (((gi d 0).rows.length : Nat) : Int))) then (bif (decide ((0 + ((gi d 4).int).toNat) < (gi d 0).rows.length)) then (bif ((nnI ((gi d 4).int - 1)) && (ltI ((gi d 4).int - 1) (((gi d 0).rows.length : Nat) : Int))) then (bif (decide ((0 + ((gi d 4).int - 1).toNat) < ((gi d 0).rows.set (0 + ((gi d 4).int).toNat) (putG KCt ((gi d 0).rows.getD (0 + ((gi d 4).int).toNat) []) 0 (gEta KCt ((gi d 0).rows.getD (0 + ((gi d 4).int - 1).toNat) [])))).length)) then (bif (inI ((gi d 4).int - 1)) then (bif ((Nat.beq (gi d 0).rows.length (((gi d 0).rows.set (0 + ((gi d 4).int).toNat) (putG KCt ((gi d 0).rows.getD (0 + ((gi d 4).int).toNat) []) 0 (gEta KCt ((gi d 0).rows.getD (0 + ((gi d 4).int - 1).toNat) [])))).set (0 + ((gi d 4).int - 1).toNat) (putG KCt (((gi d 0).rows.set (0 + ((gi d 4).int).toNat) (putG KCt ((gi d 0).rows.getD (0 + ((gi d 4).int).toNat) []) 0 (gEta KCt ((gi d 0).rows.getD (0 + ((gi d 4).int - 1).toNat) [])))).getD (0 + ((gi d 4).int - 1).toNat) []) 0 (gEta KCt ((gi d 0).rows.getD (0 + ((gi d 4).int).toNat) [])))).length) && true) then some (none, [.l (((gi d 0).rows.set (0 + ((gi d 4).int).toNat) (putG KCt ((gi d 0).rows.getD (0 + ((gi d 4).int).toNat) []) 0 (gEta KCt ((gi d 0).rows.getD (0 + ((gi d 4).int - 1).toNat) [])))).set (0 + ((gi d 4).int - 1).toNat) (putG KCt (((gi d 0).rows.set (0 + ((gi d 4).int).toNat) (putG KCt ((gi d 0).rows.getD (0 + ((gi d 4).int).toNat) []) 0 (gEta KCt ((gi d 0).rows.getD (0 + ((gi d 4).int - 1).toNat) [])))).getD (0 + ((gi d 4).int - 1).toNat) []) 0 (gEta KCt ((gi d 0).rows.getD (0 + ((gi d 4).int).toNat) [])))), .i (gi d 1).int, .i (gi d 2).int, .i (gi d 3).int, .i ((gi d 4).int - 1)]) else none) else none) else none) else none) else none) else none) else none) else none) else none) else none) else none) else none) else (bif ((Nat.beq (gi d 0).rows.length (gi d 0).rows.length) && true) then some (some 0, [.l (gi d 0).rows, .i (gi d 1).int, .i (gi d 2).int, .i (gi d 3).int]) else none))) else none) else none) else none) else none) else none) else (bif ((Nat.beq (gi d 0).rows.length (gi d 0).rows.length) && true) then some (some 0, [.l (gi d 0).rows, .i (gi d 1).int, .i (gi d 2).int, .i (gi d 3).int]) else none))
def l_insS_Contact_4 : LSpec := ⟨4, [], ⟨53, [(0, .s (.vec 0 8)), (1, .s (.int .i64)), (2, .s (.int .i64)), (3, .s (.fn 95)), (8, .s (.int .i64)), (9, .s (.int .i64))], [.vec KCt 0]⟩, [.fix 0], [⟨.exit 2, ⟨53, [(0, .s (.vec 0 8)), (1, .s (.int .i64)), (2, .s (.int .i64)), (3, .s (.fn 95)), (8, .s (.int .i64))], [.vec KCt 0]⟩, [.fix 0]⟩], st_insS_Contact_4⟩
theorem r_insS_Contact_4 : RoundOK P t33 nL0 1 (loopAt Tryz.f221 4) l_insS_Contact_4 := fun d => by kernel_rfl
def L_insS_Contact_4 : LT := nL0.add 1 l_insS_Contact_4
theorem L_insS_Contact_4_ok : LpK P 1 L_insS_Contact_4 (bodyOf Tryz.f221) := LpK.add hm t33_ok (by kernel_rfl) (nLk _ _ _) r_insS_Contact_4
def st_insS_Contact_1 (d : List G) : Option (Option Nat × List G) :=
 (bif (ltI (gi d 3).int (gi d 2).int) then (loopB ((Nat.beq (gi d 0).rows.length (gi d 0).rows.length) && true) (LRun st_insS_Contact_4 [.l (gi d 0).rows, .i (gi d 1).int, .i (gi d 2).int, .i (gi d 3).int, .i (gi d 3).int]) fun cg2 g2 => (bif (inI ((gi g2 3).int + 1)) then (bif ((Nat.beq (gi g2 0).rows.length (gi g2 0).rows.length) && true) then some (none, [.l (gi g2 0).rows, .i (gi g2 1).int, .i (gi g2 2).int, .i ((gi g2 3).int + 1)]) else none) else none)) else some (some 0, [.l (gi d 0).rows]))
def l_insS_Contact_1 : LSpec := ⟨1, [], ⟨53, [(0, .s (.vec 0 8)), (1, .s (.int .i64)), (2, .s (.int .i64)), (3, .s (.fn 95)), (8, .s (.int .i64))], [.vec KCt 0]⟩, [.fix 0], [⟨.exit 0, ⟨53, [], [.vec KCt 0]⟩, [.fix 0]⟩], st_insS_Contact_1⟩
theorem r_insS_Contact_1 : RoundOK P t33 L_insS_Contact_4 1 (loopAt Tryz.f221 1) l_insS_Contact_1 := fun d => by kernel_rfl
def L_insS_Contact_1 : LT := L_insS_Contact_4.add 1 l_insS_Contact_1
theorem L_insS_Contact_1_ok : LpK P 1 L_insS_Contact_1 (bodyOf Tryz.f221) := LpK.add hm t33_ok (by kernel_rfl) L_insS_Contact_4_ok r_insS_Contact_1
def F_insS_Contact (d : List G) : Option (List G) :=
 (bif (inI ((gi d 1).int + 1)) then (loopB ((Nat.beq (gi d 0).rows.length (gi d 0).rows.length) && true) (LRun st_insS_Contact_1 [.l (gi d 0).rows, .i (gi d 1).int, .i (gi d 2).int, .i ((gi d 1).int + 1)]) fun cg3 g3 => some [.l (gi g3 0).rows]) else none)
def s_insS_Contact : FSpec := ⟨221, [.s (.vec 0 8), .s (.int .i64), .s (.int .i64), .s (.fn 95)], [.vec KCt 0], [.slot 0], [], [.vec KCt 0], [.fix 0], [], F_insS_Contact⟩
theorem b_insS_Contact : BodyOK P t33 L_insS_Contact_1 Tryz.f221 s_insS_Contact := fun d => by kernel_rfl
theorem c_insS_Contact : ∀ d r, F_insS_Contact d = some r → ACallX P 221 (s_insS_Contact.args0 d) (denH (s_insS_Contact.H0 d)) (s_insS_Contact.out r) (denH (s_insS_Contact.H1 r)) := fun d r h => bSd hm t33_ok (sp := s_insS_Contact) Tryz.func221 (by kernel_rfl) L_insS_Contact_1_ok b_insS_Contact (by kernel_rfl) h
def t34 : Tab := t33.addW s_insS_Contact
theorem t34_ok : TabOK P t34 := t33_ok.addW (by kernel_rfl) (by kernel_rfl) c_insS_Contact

def st_stbS_Contact_2 (d : List G) : Option (Option Nat × List G) :=
 (bif (leI (gi d 4).int (gi d 1).int) then (callB (((Nat.beq (gi d 0).rows.length (gi d 0).rows.length) && true) && (F_insS_Contact [.l (gi d 0).rows, .i (gi d 3).int, .i (gi d 4).int]).isSome) (F_insS_Contact [.l (gi d 0).rows, .i (gi d 3).int, .i (gi d 4).int]) fun g1 => (bif (inI ((gi d 4).int + (gi d 2).int)) then (bif ((Nat.beq (gi d 0).rows.length (gi g1 0).rows.length) && true) then some (none, [.l (gi g1 0).rows, .i (gi d 1).int, .i (gi d 2).int, .i (gi d 4).int, .i ((gi d 4).int + (gi d 2).int)]) else none) else none)) else (bif ((Nat.beq (gi d 0).rows.length (gi d 0).rows.length) && true) then some (some 0, [.l (gi d 0).rows, .i (gi d 1).int, .i (gi d 2).int, .i (gi d 3).int]) else none))
def l_stbS_Contact_2 : LSpec := ⟨2, [], ⟨63, [(0, .s (.vec 0 8)), (1, .s (.int .i64)), (2, .s (.fn 95)), (6, .s (.int .i64)), (7, .s (.int .i64)), (8, .s (.int .i64))], [.vec KCt 0]⟩, [.fix 0], [⟨.exit 0, ⟨63, [(0, .s (.vec 0 8)), (1, .s (.int .i64)), (2, .s (.fn 95)), (6, .s (.int .i64)), (7, .s (.int .i64))], [.vec KCt 0]⟩, [.fix 0]⟩], st_stbS_Contact_2⟩
theorem r_stbS_Contact_2 : RoundOK P t34 nL0 1 (loopAt Tryz.f156 2) l_stbS_Contact_2 := fun d => by kernel_rfl
def L_stbS_Contact_2 : LT := nL0.add 1 l_stbS_Contact_2
theorem L_stbS_Contact_2_ok : LpK P 1 L_stbS_Contact_2 (bodyOf Tryz.f156) := LpK.add hm t34_ok (by kernel_rfl) (nLk _ _ _) r_stbS_Contact_2
def st_stbS_Contact_9 (d : List G) : Option (Option Nat × List G) :=
 (bif (leI (gi d 4).int (gi d 1).int) then (bif (inI ((gi d 3).int + (gi d 2).int)) then none else none) else (bif ((Nat.beq (gi d 0).rows.length (gi d 0).rows.length) && true) then some (some 0, [.l (gi d 0).rows, .i (gi d 1).int, .i (gi d 2).int, .i (gi d 3).int]) else none))
def l_stbS_Contact_9 : LSpec := ⟨9, [], ⟨63, [(0, .s (.vec 0 8)), (1, .s (.int .i64)), (2, .s (.fn 95)), (6, .s (.int .i64)), (7, .s (.int .i64)), (8, .s (.int .i64))], [.vec KCt 0]⟩, [.fix 0], [⟨.exit 4, ⟨63, [(0, .s (.vec 0 8)), (1, .s (.int .i64)), (2, .s (.fn 95)), (6, .s (.int .i64)), (7, .s (.int .i64))], [.vec KCt 0]⟩, [.fix 0]⟩], st_stbS_Contact_9⟩
theorem r_stbS_Contact_9 : RoundOK P t34 L_stbS_Contact_2 1 (loopAt Tryz.f156 9) l_stbS_Contact_9 := fun d => by kernel_rfl
def L_stbS_Contact_9 : LT := L_stbS_Contact_2.add 1 l_stbS_Contact_9
theorem L_stbS_Contact_9_ok : LpK P 1 L_stbS_Contact_9 (bodyOf Tryz.f156) := LpK.add hm t34_ok (by kernel_rfl) L_stbS_Contact_2_ok r_stbS_Contact_9
def st_stbS_Contact_7 (d : List G) : Option (Option Nat × List G) :=
 (bif (ltI (gi d 2).int (gi d 1).int) then (bif (inI (2 * (gi d 2).int)) then (loopB ((Nat.beq (gi d 0).rows.length (gi d 0).rows.length) && true) (LRun st_stbS_Contact_9 [.l (gi d 0).rows, .i (gi d 1).int, .i (gi d 2).int, .i 0, .i (2 * (gi d 2).int)]) fun cg4 g4 => (bif (inI ((gi g4 3).int + (gi g4 2).int)) then (bif (ltI ((gi g4 3).int + (gi g4 2).int) (gi g4 1).int) then none else (bif (inI ((gi g4 2).int * 2)) then (bif ((Nat.beq (gi g4 0).rows.length (gi g4 0).rows.length) && true) then some (none, [.l (gi g4 0).rows, .i (gi g4 1).int, .i ((gi g4 2).int * 2)]) else none) else none)) else none)) else none) else some (some 0, [.l (gi d 0).rows]))
def l_stbS_Contact_7 : LSpec := ⟨7, [], ⟨63, [(0, .s (.vec 0 8)), (1, .s (.int .i64)), (2, .s (.fn 95)), (6, .s (.int .i64))], [.vec KCt 0]⟩, [.fix 0], [⟨.exit 2, ⟨63, [], [.vec KCt 0]⟩, [.fix 0]⟩], st_stbS_Contact_7⟩
theorem r_stbS_Contact_7 : RoundOK P t34 L_stbS_Contact_9 1 (loopAt Tryz.f156 7) l_stbS_Contact_7 := fun d => by kernel_rfl
def L_stbS_Contact_7 : LT := L_stbS_Contact_9.add 1 l_stbS_Contact_7
theorem L_stbS_Contact_7_ok : LpK P 1 L_stbS_Contact_7 (bodyOf Tryz.f156) := LpK.add hm t34_ok (by kernel_rfl) L_stbS_Contact_9_ok r_stbS_Contact_7
def F_stbS_Contact (d : List G) : Option (List G) :=
 (loopB ((Nat.beq (gi d 0).rows.length (gi d 0).rows.length) && true) (LRun st_stbS_Contact_2 [.l (gi d 0).rows, .i (gi d 1).int, .i 20, .i 0, .i 20]) fun cg2 g2 => (callB (((Nat.beq (gi g2 0).rows.length (gi g2 0).rows.length) && true) && (F_insS_Contact [.l (gi g2 0).rows, .i (gi g2 3).int, .i (gi g2 1).int]).isSome) (F_insS_Contact [.l (gi g2 0).rows, .i (gi g2 3).int, .i (gi g2 1).int]) fun g3 => (loopB ((Nat.beq (gi g2 0).rows.length (gi g3 0).rows.length) && true) (LRun st_stbS_Contact_7 [.l (gi g3 0).rows, .i (gi g2 1).int, .i (gi g2 2).int]) fun cg5 g5 => some [.l (gi g5 0).rows])))
def s_stbS_Contact : FSpec := ⟨156, [.s (.vec 0 8), .s (.int .i64), .s (.fn 95)], [.vec KCt 0], [.slot 0], [], [.vec KCt 0], [.fix 0], [], F_stbS_Contact⟩
theorem b_stbS_Contact : BodyOK P t34 L_stbS_Contact_7 Tryz.f156 s_stbS_Contact := fun d => by kernel_rfl
theorem c_stbS_Contact : ∀ d r, F_stbS_Contact d = some r → ACallX P 156 (s_stbS_Contact.args0 d) (denH (s_stbS_Contact.H0 d)) (s_stbS_Contact.out r) (denH (s_stbS_Contact.H1 r)) := fun d r h => bSd hm t34_ok (sp := s_stbS_Contact) Tryz.func156 (by kernel_rfl) L_stbS_Contact_7_ok b_stbS_Contact (by kernel_rfl) h
def t35 : Tab := t34.addW s_stbS_Contact
theorem t35_ok : TabOK P t35 := t34_ok.addW (by kernel_rfl) (by kernel_rfl) c_stbS_Contact

def F_srtS_Contact (d : List G) : Option (List G) :=
 (callB (((Nat.beq (gi d 0).rows.length (gi d 0).rows.length) && true) && (F_stbS_Contact [.l (gi d 0).rows, .i (((gi d 0).rows.length : Nat) : Int)]).isSome) (F_stbS_Contact [.l (gi d 0).rows, .i (((gi d 0).rows.length : Nat) : Int)]) fun g1 => some [.l (gi g1 0).rows])
def s_srtS_Contact : FSpec := ⟨94, [.s (.vec 0 8), .s (.fn 95)], [.vec KCt 0], [.slot 0], [], [.vec KCt 0], [.fix 0], [], F_srtS_Contact⟩
theorem b_srtS_Contact : BodyOK P t35 nL0 Tryz.f94 s_srtS_Contact := fun d => by kernel_rfl
theorem c_srtS_Contact : ∀ d r, F_srtS_Contact d = some r → ACallX P 94 (s_srtS_Contact.args0 d) (denH (s_srtS_Contact.H0 d)) (s_srtS_Contact.out r) (denH (s_srtS_Contact.H1 r)) := fun d r h => bSd hm t35_ok (sp := s_srtS_Contact) Tryz.func94 (by kernel_rfl) (nLk _ _ _) b_srtS_Contact (by kernel_rfl) h
def t36 : Tab := t35.addW s_srtS_Contact
theorem t36_ok : TabOK P t36 := t35_ok.addW (by kernel_rfl) (by kernel_rfl) c_srtS_Contact

def F_mk_Contacts_1 (d : List G) : Option (List G) :=
 (callF (F_r2_ContactOrder [.l [(gEta KCt (gi d 0).row)], .l [(gEta KCt (gi d 1).row)]]) fun g1 => some [.t ((gi g1 0).int == 0)])
def s_mk_Contacts_1 : FSpec := ⟨97, [.s (.row KCt), .s (.row KCt)], [], [], [.s (.bool)], [], [], [], F_mk_Contacts_1⟩
theorem b_mk_Contacts_1 : BodyOK P t36 nL0 Tryz.f97 s_mk_Contacts_1 := fun d => by kernel_rfl
theorem c_mk_Contacts_1 : ∀ d r, F_mk_Contacts_1 d = some r → ACallX P 97 (s_mk_Contacts_1.args0 d) (denH (s_mk_Contacts_1.H0 d)) (s_mk_Contacts_1.out r) (denH (s_mk_Contacts_1.H1 r)) := fun d r h => bSd hm t36_ok (sp := s_mk_Contacts_1) Tryz.func97 (by kernel_rfl) (nLk _ _ _) b_mk_Contacts_1 (by kernel_rfl) h
def t37 : Tab := t36.addP s_mk_Contacts_1
theorem t37_ok : TabOK P t37 := t36_ok.addP (by kernel_rfl) (by kernel_rfl) c_mk_Contacts_1

def st_sl_CompactFunc_Contact_9 (d : List G) : Option (Option Nat × List G) :=
 (bif (ltI (gi d 4).int (((gi d 3).int.toNat : Nat) : Int)) then (bif ((nnI (gi d 4).int) && (ltI (gi d 4).int (((gi d 3).int.toNat : Nat) : Int))) then (bif (decide (((gi d 2).int.toNat + ((gi d 4).int).toNat) < (gi d 0).rows.length)) then (bif (inI ((gi d 4).int - 1)) then (bif ((nnI ((gi d 4).int - 1)) && (ltI ((gi d 4).int - 1) (((gi d 3).int.toNat : Nat) : Int))) then (bif (decide (((gi d 2).int.toNat + ((gi d 4).int - 1).toNat) < (gi d 0).rows.length)) then (callF (F_mk_Contacts_1 [.l [(gEta KCt ((gi d 0).rows.getD ((gi d 2).int.toNat + ((gi d 4).int).toNat) []))], .l [(gEta KCt ((gi d 0).rows.getD ((gi d 2).int.toNat + ((gi d 4).int - 1).toNat) []))]]) fun g2 => (bif (!(gi g2 0).bool) then (bif ((nnI (gi d 4).int) && (ltI (gi d 4).int (((gi d 3).int.toNat : Nat) : Int))) then (bif (decide (((gi d 2).int.toNat + ((gi d 4).int).toNat) < (gi d 0).rows.length)) then (bif ((nnI (gi d 1).int) && (ltI (gi d 1).int (((gi d 0).rows.length : Nat) : Int))) then (bif (decide ((0 + ((gi d 1).int).toNat) < (gi d 0).rows.length)) then (bif (inI ((gi d 1).int + 1)) then (bif (inI ((gi d 4).int + 1)) then (bif ((Nat.beq (gi d 0).rows.length ((gi d 0).rows.set (0 + ((gi d 1).int).toNat) (putG KCt ((gi d 0).rows.getD (0 + ((gi d 1).int).toNat) []) 0 (gEta KCt ((gi d 0).rows.getD ((gi d 2).int.toNat + ((gi d 4).int).toNat) [])))).length) && true) then some (none, [.l ((gi d 0).rows.set (0 + ((gi d 1).int).toNat) (putG KCt ((gi d 0).rows.getD (0 + ((gi d 1).int).toNat) []) 0 (gEta KCt ((gi d 0).rows.getD ((gi d 2).int.toNat + ((gi d 4).int).toNat) [])))), .i ((gi d 1).int + 1), .i (((gi d 2).int.toNat : Nat) : Int), .i (((gi d 3).int.toNat : Nat) : Int), .i ((gi d 4).int + 1)]) else none) else none) else none) else none) else none) else none) else none) else (bif (inI ((gi d 4).int + 1)) then (bif ((Nat.beq (gi d 0).rows.length (gi d 0).rows.length) && true) then some (none, [.l (gi d 0).rows, .i (gi d 1).int, .i (((gi d 2).int.toNat : Nat) : Int), .i (((gi d 3).int.toNat : Nat) : Int), .i ((gi d 4).int + 1)]) else none) else none))) else none) else none) else none) else none) else none) else (bif ((Nat.beq (gi d 0).rows.length (gi d 0).rows.length) && true) then some (some 0, [.l (gi d 0).rows, .i (gi d 1).int]) else none))
def l_sl_CompactFunc_Contact_9 : LSpec := ⟨9, [], ⟨66, [(0, .s (.vec 0 8)), (1, .s (.fn 97)), (5, .s (.int .i64)), (6, .s (.sub 0 8)), (7, .s (.int .i64))], [.vec KCt 0]⟩, [.fix 0], [⟨.exit 2, ⟨66, [(0, .s (.vec 0 8)), (5, .s (.int .i64))], [.vec KCt 0]⟩, [.fix 0]⟩], st_sl_CompactFunc_Contact_9⟩
theorem r_sl_CompactFunc_Contact_9 : RoundOK P t37 nL0 1 (loopAt Tryz.f96 9) l_sl_CompactFunc_Contact_9 := fun d => by kernel_rfl
def L_sl_CompactFunc_Contact_9 : LT := nL0.add 1 l_sl_CompactFunc_Contact_9
theorem L_sl_CompactFunc_Contact_9_ok : LpK P 1 L_sl_CompactFunc_Contact_9 (bodyOf Tryz.f96) := LpK.add hm t37_ok (by kernel_rfl) (nLk _ _ _) r_sl_CompactFunc_Contact_9
def st_sl_CompactFunc_Contact_4 (d : List G) : Option (Option Nat × List G) :=
 (bif (ltI (gi d 1).int (((gi d 0).rows.length : Nat) : Int)) then (bif ((nnI (gi d 1).int) && (ltI (gi d 1).int (((gi d 0).rows.length : Nat) : Int))) then (bif (decide ((0 + ((gi d 1).int).toNat) < (gi d 0).rows.length)) then (bif (inI ((gi d 1).int - 1)) then (bif ((nnI ((gi d 1).int - 1)) && (ltI ((gi d 1).int - 1) (((gi d 0).rows.length : Nat) : Int))) then (bif (decide ((0 + ((gi d 1).int - 1).toNat) < (gi d 0).rows.length)) then (callF (F_mk_Contacts_1 [.l [(gEta KCt ((gi d 0).rows.getD (0 + ((gi d 1).int).toNat) []))], .l [(gEta KCt ((gi d 0).rows.getD (0 + ((gi d 1).int - 1).toNat) []))]]) fun g1 => (bif (gi g1 0).bool then (bif ((nnI (gi d 1).int) && (leI (gi d 1).int (((gi d 0).rows.length : Nat) : Int))) then (loopB ((Nat.beq (gi d 0).rows.length (gi d 0).rows.length) && true) (LRun st_sl_CompactFunc_Contact_9 [.l (gi d 0).rows, .i (gi d 1).int, .i (((0 + ((gi d 1).int).toNat) : Nat) : Int), .i ((((gi d 0).rows.length - ((gi d 1).int).toNat) : Nat) : Int), .i 1]) fun cg3 g3 => (bif ((nnI (gi g3 1).int) && (leI (gi g3 1).int (((gi g3 0).rows.length : Nat) : Int))) then (bif (Nat.ble ((0 + ((gi g3 1).int).toNat) + ((gi g3 0).rows.length - ((gi g3 1).int).toNat)) (gi g3 0).rows.length) then (bif ((nnI (gi g3 1).int) && (leI (gi g3 1).int (((gi g3 0).rows.length : Nat) : Int))) then some (some 0, [.l ((gi g3 0).rows.take (0 + ((gi g3 1).int).toNat) ++ List.replicate ((gi g3 0).rows.length - ((gi g3 1).int).toNat) [.i 0, .i 0, .s (⟨#[]⟩ : ByteArray), .s (⟨#[]⟩ : ByteArray), .i 0, .i 0, .s (⟨#[]⟩ : ByteArray), .s (⟨#[]⟩ : ByteArray)] ++ (gi g3 0).rows.drop ((0 + ((gi g3 1).int).toNat) + ((gi g3 0).rows.length - ((gi g3 1).int).toNat))), .i (((((gi g3 1).int).toNat - 0) : Nat) : Int)]) else none) else none) else none)) else none) else (bif (inI ((gi d 1).int + 1)) then (bif ((Nat.beq (gi d 0).rows.length (gi d 0).rows.length) && true) then some (none, [.l (gi d 0).rows, .i ((gi d 1).int + 1)]) else none) else none))) else none) else none) else none) else none) else none) else (bif ((Nat.beq (gi d 0).rows.length (gi d 0).rows.length) && true) then some (some 1, [.l (gi d 0).rows]) else none))
def l_sl_CompactFunc_Contact_4 : LSpec := ⟨4, [], ⟨66, [(0, .s (.vec 0 8)), (1, .s (.fn 97)), (5, .s (.int .i64))], [.vec KCt 0]⟩, [.fix 0], [⟨.ret, ⟨66, [(4, .s (.pre 0 8))], [.vec KCt 0]⟩, [.fix 0]⟩, ⟨.exit 0, ⟨66, [(0, .s (.vec 0 8))], [.vec KCt 0]⟩, [.fix 0]⟩], st_sl_CompactFunc_Contact_4⟩
theorem r_sl_CompactFunc_Contact_4 : RoundOK P t37 L_sl_CompactFunc_Contact_9 1 (loopAt Tryz.f96 4) l_sl_CompactFunc_Contact_4 := fun d => by kernel_rfl
def L_sl_CompactFunc_Contact_4 : LT := L_sl_CompactFunc_Contact_9.add 1 l_sl_CompactFunc_Contact_4
theorem L_sl_CompactFunc_Contact_4_ok : LpK P 1 L_sl_CompactFunc_Contact_4 (bodyOf Tryz.f96) := LpK.add hm t37_ok (by kernel_rfl) L_sl_CompactFunc_Contact_9_ok r_sl_CompactFunc_Contact_4
def F_sl_CompactFunc_Contact (d : List G) : Option (List G) :=
 (bif (ltI (((gi d 0).rows.length : Nat) : Int) 2) then some [.l (gi d 0).rows, .i (((gi d 0).rows.length : Nat) : Int)] else (loopB ((Nat.beq (gi d 0).rows.length (gi d 0).rows.length) && true) (LRun st_sl_CompactFunc_Contact_4 [.l (gi d 0).rows, .i 1]) fun cg4 g4 => (bif Nat.beq cg4 0 then some [.l (gi g4 0).rows, .i (((gi g4 1).int.toNat : Nat) : Int)] else some [.l (gi g4 0).rows, .i (((gi g4 0).rows.length : Nat) : Int)])))
def s_sl_CompactFunc_Contact : FSpec := ⟨96, [.s (.vec 0 8), .s (.fn 97)], [.vec KCt 0], [.slot 0], [.s (.pre 0 8)], [.vec KCt 0], [.fix 0], [], F_sl_CompactFunc_Contact⟩
theorem b_sl_CompactFunc_Contact : BodyOK P t37 L_sl_CompactFunc_Contact_4 Tryz.f96 s_sl_CompactFunc_Contact := fun d => by kernel_rfl
theorem c_sl_CompactFunc_Contact : ∀ d r, F_sl_CompactFunc_Contact d = some r → ACallX P 96 (s_sl_CompactFunc_Contact.args0 d) (denH (s_sl_CompactFunc_Contact.H0 d)) (s_sl_CompactFunc_Contact.out r) (denH (s_sl_CompactFunc_Contact.H1 r)) := fun d r h => bSd hm t37_ok (sp := s_sl_CompactFunc_Contact) Tryz.func96 (by kernel_rfl) L_sl_CompactFunc_Contact_4_ok b_sl_CompactFunc_Contact (by kernel_rfl) h
def t38 : Tab := t37.addW s_sl_CompactFunc_Contact
theorem t38_ok : TabOK P t38 := t37_ok.addW (by kernel_rfl) (by kernel_rfl) c_sl_CompactFunc_Contact

def st_mk_Contacts_4 (d : List G) : Option (Option Nat × List G) :=
 (bif (ltI (gi d 5).int (gi d 4).int) then (callF (F_mk_Pick [.l (gi d 0).rows, .i (gi d 1).int, .l [[.i 0], [.i 1], [.i 10], [.i 50], [.i 1000], [.i 40000], [.i 1500000]]]) fun g1 => (bif (inI ((gi d 3).int + (gi g1 2).int)) then (callF (F_mk_SomeContact [.l (gi g1 0).rows, .i (gi g1 1).int, .i ((gi d 3).int + (gi g1 2).int)]) fun g2 => (bif ((Nat.beq (gi d 2).rows.length (gi d 2).rows.length) && (decide (((gi d 2).rows.length + 1) ≤ 1048576))) then (bif (inI ((gi d 5).int + 1)) then (bif ((Nat.beq ((gi d 2).rows ++ ([(gEta KCt (gi g2 2).row)] : List (List G))).length ((gi d 2).rows ++ ([(gEta KCt (gi g2 2).row)] : List (List G))).length) && true) then some (none, [.l (gi g2 0).rows, .i (gi g2 1).int, .l ((gi d 2).rows ++ ([(gEta KCt (gi g2 2).row)] : List (List G))), .i ((gi d 3).int + (gi g1 2).int), .i (gi d 4).int, .i ((gi d 5).int + 1)]) else none) else none) else none)) else none)) else (bif ((Nat.beq (gi d 2).rows.length (gi d 2).rows.length) && true) then some (some 0, [.l (gi d 0).rows, .i (gi d 1).int, .l (gi d 2).rows]) else none))
def l_mk_Contacts_4 : LSpec := ⟨4, [(5, KCt)], ⟨26, [(0, .s (.ptr 0 0)), (5, .s (.vec 1 8)), (6, .s (.int .i64)), (7, .s (.int .i64)), (8, .s (.int .i64))], [.box [.list [.int .i64], .int .i64], .vec KCt 0]⟩, [.fix 0, .slot 5], [⟨.exit 0, ⟨26, [(5, .s (.vec 1 8))], [.box [.list [.int .i64], .int .i64], .vec KCt 0]⟩, [.fix 0, .slot 5]⟩], st_mk_Contacts_4⟩
theorem r_mk_Contacts_4 : RoundOK P t38 nL0 1 (loopAt Tryz.f26 4) l_mk_Contacts_4 := fun d => by kernel_rfl
def L_mk_Contacts_4 : LT := nL0.add 1 l_mk_Contacts_4
theorem L_mk_Contacts_4_ok : LpK P 1 L_mk_Contacts_4 (bodyOf Tryz.f26) := LpK.add hm t38_ok (by kernel_rfl) (nLk _ _ _) r_mk_Contacts_4
def F_mk_Contacts (d : List G) : Option (List G) :=
 (loopB true (LRun st_mk_Contacts_4 [.l (gi d 0).rows, .i (gi d 1).int, .l [], .i 0, .i (gi d 2).int, .i 0]) fun cg3 g3 => (callB (((Nat.beq (gi g3 2).rows.length (gi g3 2).rows.length) && true) && (F_srtS_Contact [.l (gi g3 2).rows]).isSome) (F_srtS_Contact [.l (gi g3 2).rows]) fun g4 => (callB (((Nat.beq (gi g3 2).rows.length (gi g4 0).rows.length) && true) && (F_sl_CompactFunc_Contact [.l (gi g4 0).rows]).isSome) (F_sl_CompactFunc_Contact [.l (gi g4 0).rows]) fun g5 => (bif ((Nat.ble (gi g5 1).int.toNat (gi g5 0).rows.length) && true) then some [.l (gi g3 0).rows, .i (gi g3 1).int, .l ((gi g5 0).rows.take ((gi g5 1).int.toNat))] else none))))
def s_mk_Contacts : FSpec := ⟨26, [.s (.ptr 0 0), .s (.int .i64)], [.box [.list [.int .i64], .int .i64]], [.slot 0], [.s (.lpre KCt)], [.box [.list [.int .i64], .int .i64]], [.fix 0], [], F_mk_Contacts⟩
theorem b_mk_Contacts : BodyOK P t38 L_mk_Contacts_4 Tryz.f26 s_mk_Contacts := fun d => by kernel_rfl
theorem c_mk_Contacts : ∀ d r, F_mk_Contacts d = some r → ACallX P 26 (s_mk_Contacts.args0 d) (denH (s_mk_Contacts.H0 d)) (s_mk_Contacts.out r) (denH (s_mk_Contacts.H1 r)) := fun d r h => bSd hm t38_ok (sp := s_mk_Contacts) Tryz.func26 (by kernel_rfl) L_mk_Contacts_4_ok b_mk_Contacts (by kernel_rfl) h
def t39 : Tab := t38.addW s_mk_Contacts
theorem t39_ok : TabOK P t39 := t38_ok.addW (by kernel_rfl) (by kernel_rfl) c_mk_Contacts

def F_mk_Hertz (d : List G) : Option (List G) :=
 (callF (F_mk_Flip [.l (gi d 0).rows, .i (gi d 1).int, .i 15]) fun g1 => (bif (gi g1 2).bool then (callF (F_mk_Odd [.l (gi g1 0).rows, .i (gi g1 1).int, .i 0, .i 30000000000]) fun g2 => some [.l (gi g2 0).rows, .i (gi g2 1).int, .i (gi g2 2).int]) else (callF (F_mk_Pick [.l (gi g1 0).rows, .i (gi g1 1).int, .l [[.i 0], [.i 1799999], [.i 1800000], [.i 7000000], [.i 7299999], [.i 7300000], [.i 14025000], [.i 14349999], [.i 14350000], [.i 30000000000]]]) fun g3 => some [.l (gi g3 0).rows, .i (gi g3 1).int, .i (gi g3 2).int])))
def s_mk_Hertz : FSpec := ⟨27, [.s (.ptr 0 0)], [.box [.list [.int .i64], .int .i64]], [.slot 0], [.s (.int .i64)], [.box [.list [.int .i64], .int .i64]], [.fix 0], [], F_mk_Hertz⟩
theorem b_mk_Hertz : BodyOK P t39 nL0 Tryz.f27 s_mk_Hertz := fun d => by kernel_rfl
theorem c_mk_Hertz : ∀ d r, F_mk_Hertz d = some r → ACallX P 27 (s_mk_Hertz.args0 d) (denH (s_mk_Hertz.H0 d)) (s_mk_Hertz.out r) (denH (s_mk_Hertz.H1 r)) := fun d r h => bSd hm t39_ok (sp := s_mk_Hertz) Tryz.func27 (by kernel_rfl) (nLk _ _ _) b_mk_Hertz (by kernel_rfl) h
def t40 : Tab := t39.addW s_mk_Hertz
theorem t40_ok : TabOK P t40 := t39_ok.addW (by kernel_rfl) (by kernel_rfl) c_mk_Hertz

def F_kit_IsKey (d : List G) : Option (List G) :=
 (bif (!((gi d 0).str.toList == (⟨#[]⟩ : ByteArray).toList)) then (bif (leI (((gi d 0).str.size : Nat) : Int) 40) then (bif (ltI 0 (((gi d 0).str.size : Nat) : Int)) then (callF (F_strings_IndexByte [.s (⟨#[97, 98, 99, 100, 101, 102, 103, 104, 105, 106, 107, 108, 109, 110, 111, 112, 113, 114, 115, 116, 117, 118, 119, 120, 121, 122]⟩ : ByteArray), .i (((gi d 0).str.data.toList.getD 0 0).toNat : Int)]) fun g1 => (bif (leI 0 (gi g1 0).int) then (callF (F_strings_Trim [.s (gi d 0).str, .s (⟨#[97, 98, 99, 100, 101, 102, 103, 104, 105, 106, 107, 108, 109, 110, 111, 112, 113, 114, 115, 116, 117, 118, 119, 120, 121, 122, 48, 49, 50, 51, 52, 53, 54, 55, 56, 57, 45, 95]⟩ : ByteArray)]) fun g2 => some [.t ((gi g2 0).str.toList == (⟨#[]⟩ : ByteArray).toList)]) else some [.t false])) else none) else some [.t false]) else some [.t false])
def s_kit_IsKey : FSpec := ⟨151, [.s (.str)], [], [], [.s (.bool)], [], [], [], F_kit_IsKey⟩
theorem b_kit_IsKey : BodyOK P t40 nL0 Tryz.f151 s_kit_IsKey := fun d => by kernel_rfl
theorem c_kit_IsKey : ∀ d r, F_kit_IsKey d = some r → ACallX P 151 (s_kit_IsKey.args0 d) (denH (s_kit_IsKey.H0 d)) (s_kit_IsKey.out r) (denH (s_kit_IsKey.H1 r)) := fun d r h => bSd hm t40_ok (sp := s_kit_IsKey) Tryz.func151 (by kernel_rfl) (nLk _ _ _) b_kit_IsKey (by kernel_rfl) h
def t41 : Tab := t40.addP s_kit_IsKey
theorem t41_ok : TabOK P t41 := t40_ok.addP (by kernel_rfl) (by kernel_rfl) c_kit_IsKey

def F_kit_Outside (d : List G) : Option (List G) :=
 (bif (ltI (gi d 0).int (gi d 1).int) then some [.t true] else some [.t (ltI (gi d 2).int (gi d 0).int)])
def s_kit_Outside : FSpec := ⟨90, [.s (.int .i64), .s (.int .i64), .s (.int .i64)], [], [], [.s (.bool)], [], [], [], F_kit_Outside⟩
theorem b_kit_Outside : BodyOK P t41 nL0 Tryz.f90 s_kit_Outside := fun d => by kernel_rfl
theorem c_kit_Outside : ∀ d r, F_kit_Outside d = some r → ACallX P 90 (s_kit_Outside.args0 d) (denH (s_kit_Outside.H0 d)) (s_kit_Outside.out r) (denH (s_kit_Outside.H1 r)) := fun d r h => bSd hm t41_ok (sp := s_kit_Outside) Tryz.func90 (by kernel_rfl) (nLk _ _ _) b_kit_Outside (by kernel_rfl) h
def t42 : Tab := t41.addP s_kit_Outside
theorem t42_ok : TabOK P t42 := t41_ok.addP (by kernel_rfl) (by kernel_rfl) c_kit_Outside

def F_log_CheckBands_1 (d : List G) : Option (List G) :=
 some [.t ((gi (gi d 0).row 0).str.toList == (gi (gi d 1).row 0).str.toList)]
def s_log_CheckBands_1 : FSpec := ⟨166, [.s (.row KBand), .s (.cptr KBand)], [], [], [.s (.bool)], [], [], [], F_log_CheckBands_1⟩
theorem b_log_CheckBands_1 : BodyOK P t42 nL0 Tryz.f166 s_log_CheckBands_1 := fun d => by kernel_rfl
theorem c_log_CheckBands_1 : ∀ d r, F_log_CheckBands_1 d = some r → ACallX P 166 (s_log_CheckBands_1.args0 d) (denH (s_log_CheckBands_1.H0 d)) (s_log_CheckBands_1.out r) (denH (s_log_CheckBands_1.H1 r)) := fun d r h => bSd hm t42_ok (sp := s_log_CheckBands_1) Tryz.func166 (by kernel_rfl) (nLk _ _ _) b_log_CheckBands_1 (by kernel_rfl) h
def t43 : Tab := t42.addP s_log_CheckBands_1
theorem t43_ok : TabOK P t43 := t42_ok.addP (by kernel_rfl) (by kernel_rfl) c_log_CheckBands_1

def st_sl_IndexFunc_Band_2 (d : List G) : Option (Option Nat × List G) :=
 (bif (ltI (gi d 3).int (gi d 2).int) then (bif ((nnI (gi d 3).int) && (ltI (gi d 3).int (((gi d 0).rows.length : Nat) : Int))) then (callF (F_log_CheckBands_1 [.l [(gEta KBand ((gi d 0).rows.getD (((gi d 3).int).toNat) []))], .l [(gEta KBand (gi d 1).row)]]) fun g1 => (bif (gi g1 0).bool then some (some 0, [.i (gi d 3).int]) else (bif (inI ((gi d 3).int + 1)) then some (none, [.l (gi d 0).rows, .l [(gEta KBand (gi d 1).row)], .i (gi d 2).int, .i ((gi d 3).int + 1)]) else none))) else none) else some (some 1, []))
def l_sl_IndexFunc_Band_2 : LSpec := ⟨2, [], ⟨19, [(0, .s (.list KBand)), (1, .clo 166 [.cptr KBand]), (7, .s (.int .i64)), (8, .s (.int .i64))], []⟩, [], [⟨.ret, ⟨19, [(4, .s (.int .i64))], []⟩, []⟩, ⟨.exit 0, ⟨19, [], []⟩, []⟩], st_sl_IndexFunc_Band_2⟩
theorem r_sl_IndexFunc_Band_2 : RoundOK P t43 nL0 0 (loopAt Tryz.f145 2) l_sl_IndexFunc_Band_2 := fun d => by kernel_rfl
def L_sl_IndexFunc_Band_2 : LT := nL0.add 0 l_sl_IndexFunc_Band_2
theorem L_sl_IndexFunc_Band_2_ok : LpK P 0 L_sl_IndexFunc_Band_2 (bodyOf Tryz.f145) := LpK.add hm t43_ok (by kernel_rfl) (nLk _ _ _) r_sl_IndexFunc_Band_2
def F_sl_IndexFunc_Band (d : List G) : Option (List G) :=
 (loopB true (LRun st_sl_IndexFunc_Band_2 [.l (gi d 0).rows, .l [(gEta KBand (gi d 1).row)], .i (((gi d 0).rows.length : Nat) : Int), .i 0]) fun cg2 g2 => (bif Nat.beq cg2 0 then some [.i (gi g2 0).int] else some [.i (-1)]))
def s_sl_IndexFunc_Band : FSpec := ⟨145, [.s (.list KBand), .clo 166 [.cptr KBand]], [], [], [.s (.int .i64)], [], [], [], F_sl_IndexFunc_Band⟩
theorem b_sl_IndexFunc_Band : BodyOK P t43 L_sl_IndexFunc_Band_2 Tryz.f145 s_sl_IndexFunc_Band := fun d => by kernel_rfl
theorem c_sl_IndexFunc_Band : ∀ d r, F_sl_IndexFunc_Band d = some r → ACallX P 145 (s_sl_IndexFunc_Band.args0 d) (denH (s_sl_IndexFunc_Band.H0 d)) (s_sl_IndexFunc_Band.out r) (denH (s_sl_IndexFunc_Band.H1 r)) := fun d r h => bSd hm t43_ok (sp := s_sl_IndexFunc_Band) Tryz.func145 (by kernel_rfl) L_sl_IndexFunc_Band_2_ok b_sl_IndexFunc_Band (by kernel_rfl) h
def t44 : Tab := t43.addP s_sl_IndexFunc_Band
theorem t44_ok : TabOK P t44 := t43_ok.addP (by kernel_rfl) (by kernel_rfl) c_sl_IndexFunc_Band

def F_sl_ContainsFunc_Band (d : List G) : Option (List G) :=
 (callF (F_sl_IndexFunc_Band [.l (gi d 0).rows, .l [(gEta KBand (gi d 1).row)]]) fun g1 => some [.t (leI 0 (gi g1 0).int)])
def s_sl_ContainsFunc_Band : FSpec := ⟨165, [.s (.list KBand), .clo 166 [.cptr KBand]], [], [], [.s (.bool)], [], [], [], F_sl_ContainsFunc_Band⟩
theorem b_sl_ContainsFunc_Band : BodyOK P t44 nL0 Tryz.f165 s_sl_ContainsFunc_Band := fun d => by kernel_rfl
theorem c_sl_ContainsFunc_Band : ∀ d r, F_sl_ContainsFunc_Band d = some r → ACallX P 165 (s_sl_ContainsFunc_Band.args0 d) (denH (s_sl_ContainsFunc_Band.H0 d)) (s_sl_ContainsFunc_Band.out r) (denH (s_sl_ContainsFunc_Band.H1 r)) := fun d r h => bSd hm t44_ok (sp := s_sl_ContainsFunc_Band) Tryz.func165 (by kernel_rfl) (nLk _ _ _) b_sl_ContainsFunc_Band (by kernel_rfl) h
def t45 : Tab := t44.addP s_sl_ContainsFunc_Band
theorem t45_ok : TabOK P t45 := t44_ok.addP (by kernel_rfl) (by kernel_rfl) c_sl_ContainsFunc_Band

def st_log_CheckBands_4 (d : List G) : Option (Option Nat × List G) :=
 (bif (ltI (gi d 3).int (gi d 2).int) then (bif ((nnI (gi d 3).int) && (ltI (gi d 3).int (((gi d 1).rows.length : Nat) : Int))) then (callF (F_kit_IsKey [.s (gi ((gi d 1).rows.getD (((gi d 3).int).toNat) []) 0).str]) fun g1 => (bif (!(gi g1 0).bool) then some (some 0, [.i 5]) else (callF (F_kit_Outside [.i (gi ((gi d 1).rows.getD (((gi d 3).int).toNat) []) 1).int, .i 0, .i 30000000000]) fun g2 => (bif (gi g2 0).bool then some (some 0, [.i 1]) else (callF (F_kit_Outside [.i (gi ((gi d 1).rows.getD (((gi d 3).int).toNat) []) 2).int, .i 0, .i 30000000000]) fun g3 => (bif (gi g3 0).bool then some (some 0, [.i 1]) else (bif ((Int.tmod (gi ((gi d 1).rows.getD (((gi d 3).int).toNat) []) 1).int 1000) != 0) then some (some 0, [.i 1]) else (bif ((Int.tmod (gi ((gi d 1).rows.getD (((gi d 3).int).toNat) []) 2).int 1000) != 0) then some (some 0, [.i 1]) else (bif (leI (gi ((gi d 1).rows.getD (((gi d 3).int).toNat) []) 2).int (gi ((gi d 1).rows.getD (((gi d 3).int).toNat) []) 1).int) then some (some 0, [.i 1]) else (bif (ltI 0 (gi d 3).int) then (bif (inI ((gi d 3).int - 1)) then (bif ((nnI ((gi d 3).int - 1)) && (ltI ((gi d 3).int - 1) (((gi d 0).rows.length : Nat) : Int))) then (bif (ltI (gi ((gi d 1).rows.getD (((gi d 3).int).toNat) []) 1).int (gi ((gi d 0).rows.getD (((gi d 3).int - 1).toNat) []) 2).int) then some (some 0, [.i 7]) else (bif (inI ((gi d 3).int + 1)) then some (none, [.l (gi d 0).rows, .l (gi d 1).rows, .i (gi d 2).int, .i ((gi d 3).int + 1)]) else none)) else none) else none) else (bif (inI ((gi d 3).int + 1)) then some (none, [.l (gi d 0).rows, .l (gi d 1).rows, .i (gi d 2).int, .i ((gi d 3).int + 1)]) else none))))))))))) else none) else some (some 1, [.l (gi d 0).rows]))
def l_log_CheckBands_4 : LSpec := ⟨4, [], ⟨78, [(0, .s (.list KBand)), (10, .s (.list KBand)), (11, .s (.int .i64)), (12, .s (.int .i64))], []⟩, [], [⟨.ret, ⟨78, [(2, .s (.int .i64))], []⟩, []⟩, ⟨.exit 0, ⟨78, [(0, .s (.list KBand))], []⟩, []⟩], st_log_CheckBands_4⟩
theorem r_log_CheckBands_4 : RoundOK P (t45.lessPf [165]) nL0 0 (loopAt Tryz.f114 4) l_log_CheckBands_4 := fun d => by kernel_rfl
def L_log_CheckBands_4 : LT := nL0.add 0 l_log_CheckBands_4
theorem L_log_CheckBands_4_ok : LpK P 0 L_log_CheckBands_4 (bodyOf Tryz.f114) := LpK.add hm (t45_ok.lessPf [165]) (by kernel_rfl) (nLk _ _ _) r_log_CheckBands_4
def st_log_CheckBands_14 (d : List G) : Option (Option Nat × List G) :=
 (bif (ltI (gi d 3).int (gi d 2).int) then (bif ((nnI (gi d 3).int) && (ltI (gi d 3).int (((gi d 1).rows.length : Nat) : Int))) then (bif ((nnI (gi d 3).int) && (leI (gi d 3).int (((gi d 0).rows.length : Nat) : Int))) then (callF (F_sl_ContainsFunc_Band [.l ((gi d 0).rows.take (((gi d 3).int).toNat)), .l [(gEta KBand ((gi d 1).rows.getD (((gi d 3).int).toNat) []))]]) fun g5 => (bif (gi g5 0).bool then some (some 0, [.i 6]) else (bif (inI ((gi d 3).int + 1)) then some (none, [.l (gi d 0).rows, .l (gi d 1).rows, .i (gi d 2).int, .i ((gi d 3).int + 1)]) else none))) else none) else none) else some (some 1, []))
def l_log_CheckBands_14 : LSpec := ⟨14, [], ⟨78, [(0, .s (.list KBand)), (65, .s (.list KBand)), (66, .s (.int .i64)), (67, .s (.int .i64))], []⟩, [], [⟨.ret, ⟨78, [(2, .s (.int .i64))], []⟩, []⟩, ⟨.exit 3, ⟨78, [], []⟩, []⟩], st_log_CheckBands_14⟩
theorem r_log_CheckBands_14 : RoundOK P (t45.lessPf [165]) L_log_CheckBands_4 0 (loopAt Tryz.f114 14) l_log_CheckBands_14 := fun d => by kernel_rfl
def L_log_CheckBands_14 : LT := L_log_CheckBands_4.add 0 l_log_CheckBands_14
theorem L_log_CheckBands_14_ok : LpK P 0 L_log_CheckBands_14 (bodyOf Tryz.f114) := LpK.add hm (t45_ok.lessPf [165]) (by kernel_rfl) L_log_CheckBands_4_ok r_log_CheckBands_14
def F_log_CheckBands (d : List G) : Option (List G) :=
 (bif (ltI 30 (((gi d 0).rows.length : Nat) : Int)) then some [.i 2] else (loopB true (LRun st_log_CheckBands_4 [.l (gi d 0).rows, .l (gi d 0).rows, .i (((gi d 0).rows.length : Nat) : Int), .i 0]) fun cg4 g4 => (bif Nat.beq cg4 0 then some [.i (gi g4 0).int] else (loopB true (LRun st_log_CheckBands_14 [.l (gi g4 0).rows, .l (gi g4 0).rows, .i (((gi g4 0).rows.length : Nat) : Int), .i 0]) fun cg6 g6 => (bif Nat.beq cg6 0 then some [.i (gi g6 0).int] else some [.i 0])))))
def s_log_CheckBands : FSpec := ⟨114, [.s (.list KBand)], [], [], [.s (.int .i64)], [], [], [], F_log_CheckBands⟩
theorem b_log_CheckBands : BodyOK P (t45.lessPf [165]) L_log_CheckBands_14 Tryz.f114 s_log_CheckBands := fun d => by kernel_rfl
theorem c_log_CheckBands : ∀ d r, F_log_CheckBands d = some r → ACallX P 114 (s_log_CheckBands.args0 d) (denH (s_log_CheckBands.H0 d)) (s_log_CheckBands.out r) (denH (s_log_CheckBands.H1 r)) := fun d r h => bSd hm (t45_ok.lessPf [165]) (sp := s_log_CheckBands) Tryz.func114 (by kernel_rfl) L_log_CheckBands_14_ok b_log_CheckBands (by kernel_rfl) h
def t46 : Tab := t45.addP s_log_CheckBands
theorem t46_ok : TabOK P t46 := t45_ok.addP (by kernel_rfl) (by kernel_rfl) c_log_CheckBands

def F_kit_IsMoment (d : List G) : Option (List G) :=
 (callF (F_kit_Outside [.i (gi d 0).int, .i 0, .i 345686399999]) fun g1 => some [.t (!(gi g1 0).bool)])
def s_kit_IsMoment : FSpec := ⟨89, [.s (.int .i64)], [], [], [.s (.bool)], [], [], [], F_kit_IsMoment⟩
theorem b_kit_IsMoment : BodyOK P t46 nL0 Tryz.f89 s_kit_IsMoment := fun d => by kernel_rfl
theorem c_kit_IsMoment : ∀ d r, F_kit_IsMoment d = some r → ACallX P 89 (s_kit_IsMoment.args0 d) (denH (s_kit_IsMoment.H0 d)) (s_kit_IsMoment.out r) (denH (s_kit_IsMoment.H1 r)) := fun d r h => bSd hm t46_ok (sp := s_kit_IsMoment) Tryz.func89 (by kernel_rfl) (nLk _ _ _) b_kit_IsMoment (by kernel_rfl) h
def t47 : Tab := t46.addP s_kit_IsMoment
theorem t47_ok : TabOK P t47 := t46_ok.addP (by kernel_rfl) (by kernel_rfl) c_kit_IsMoment

end
end Go.Proofs.SYthjhjbgilbaknaaGreatDoor
