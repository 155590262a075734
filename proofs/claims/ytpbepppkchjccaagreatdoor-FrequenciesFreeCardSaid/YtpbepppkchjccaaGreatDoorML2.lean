/-
  What is proved here: functions of the program as functions on data. No condition.
-/
import Derived.Test.YtpbepppkchjccaaGreatDoorML1
set_option linter.unusedSimpArgs false
set_option linter.unusedVariables false
set_option linter.unusedSectionVars false
namespace Go.Proofs.SYtpbepppkchjccaaGreatDoor
open Go Go.AL Go.Proofs
noncomputable section
/- pileup/pilelaw2.banded -/
def u0_pilelaw2_banded : Tab := t6.inline P 54 Tryz.f54 []
theorem u0_pilelaw2_banded_ok : TabOK P u0_pilelaw2_banded := t6_ok.inline hm Tryz.func54 (by kernel_rfl) []
def u1_pilelaw2_banded : Tab := u0_pilelaw2_banded.inline P 62 Tryz.f62 []
theorem u1_pilelaw2_banded_ok : TabOK P u1_pilelaw2_banded := u0_pilelaw2_banded_ok.inline hm Tryz.func62 (by kernel_rfl) []
def u2_pilelaw2_banded : Tab := u1_pilelaw2_banded.inline P 60 Tryz.f60 []
theorem u2_pilelaw2_banded_ok : TabOK P u2_pilelaw2_banded := u1_pilelaw2_banded_ok.inline hm Tryz.func60 (by kernel_rfl) []
def u3_pilelaw2_banded : Tab := u2_pilelaw2_banded.inline P 77 Tryz.f77 []
theorem u3_pilelaw2_banded_ok : TabOK P u3_pilelaw2_banded := u2_pilelaw2_banded_ok.inline hm Tryz.func77 (by kernel_rfl) []
def u4_pilelaw2_banded : Tab := u3_pilelaw2_banded.inline P 61 Tryz.f61 []
theorem u4_pilelaw2_banded_ok : TabOK P u4_pilelaw2_banded := u3_pilelaw2_banded_ok.inline hm Tryz.func61 (by kernel_rfl) []
def u5_pilelaw2_banded : Tab := u4_pilelaw2_banded.inline P 81 Tryz.f81 []
theorem u5_pilelaw2_banded_ok : TabOK P u5_pilelaw2_banded := u4_pilelaw2_banded_ok.inline hm Tryz.func81 (by kernel_rfl) []
def u6_pilelaw2_banded : Tab := u5_pilelaw2_banded.inline P 76 Tryz.f76 []
theorem u6_pilelaw2_banded_ok : TabOK P u6_pilelaw2_banded := u5_pilelaw2_banded_ok.inline hm Tryz.func76 (by kernel_rfl) []
def u7_pilelaw2_banded : Tab := u6_pilelaw2_banded.inline P 31 Tryz.f31 []
theorem u7_pilelaw2_banded_ok : TabOK P u7_pilelaw2_banded := u6_pilelaw2_banded_ok.inline hm Tryz.func31 (by kernel_rfl) []
def u8_pilelaw2_banded : Tab := u7_pilelaw2_banded.inline P 63 Tryz.f63 []
theorem u8_pilelaw2_banded_ok : TabOK P u8_pilelaw2_banded := u7_pilelaw2_banded_ok.inline hm Tryz.func63 (by kernel_rfl) []
def u9_pilelaw2_banded : Tab := u8_pilelaw2_banded.inline P 136 Tryz.f136 []
theorem u9_pilelaw2_banded_ok : TabOK P u9_pilelaw2_banded := u8_pilelaw2_banded_ok.inline hm Tryz.func136 (by kernel_rfl) []
def u10_pilelaw2_banded : Tab := u9_pilelaw2_banded.inline P 100 Tryz.f100 []
theorem u10_pilelaw2_banded_ok : TabOK P u10_pilelaw2_banded := u9_pilelaw2_banded_ok.inline hm Tryz.func100 (by kernel_rfl) []
def u11_pilelaw2_banded : Tab := u10_pilelaw2_banded.inline P 174 Tryz.f174 []
theorem u11_pilelaw2_banded_ok : TabOK P u11_pilelaw2_banded := u10_pilelaw2_banded_ok.inline hm Tryz.func174 (by kernel_rfl) []
def u12_pilelaw2_banded : Tab := u11_pilelaw2_banded.inline P 140 Tryz.f140 []
theorem u12_pilelaw2_banded_ok : TabOK P u12_pilelaw2_banded := u11_pilelaw2_banded_ok.inline hm Tryz.func140 (by kernel_rfl) []
def u13_pilelaw2_banded : Tab := u12_pilelaw2_banded.inlineW P 186 Tryz.f186
theorem u13_pilelaw2_banded_ok : TabOK P u13_pilelaw2_banded := u12_pilelaw2_banded_ok.inlineW hm Tryz.func186 (by kernel_rfl) (by kernel_rfl)
def u14_pilelaw2_banded : Tab := u13_pilelaw2_banded.inlineW P 151 Tryz.f151
theorem u14_pilelaw2_banded_ok : TabOK P u14_pilelaw2_banded := u13_pilelaw2_banded_ok.inlineW hm Tryz.func151 (by kernel_rfl) (by kernel_rfl)
def u15_pilelaw2_banded : Tab := u14_pilelaw2_banded.inlineW P 116 Tryz.f116
theorem u15_pilelaw2_banded_ok : TabOK P u15_pilelaw2_banded := u14_pilelaw2_banded_ok.inlineW hm Tryz.func116 (by kernel_rfl) (by kernel_rfl)
def u16_pilelaw2_banded : Tab := u15_pilelaw2_banded.inlineW P 91 Tryz.f91
theorem u16_pilelaw2_banded_ok : TabOK P u16_pilelaw2_banded := u15_pilelaw2_banded_ok.inlineW hm Tryz.func91 (by kernel_rfl) (by kernel_rfl)
def u17_pilelaw2_banded : Tab := u16_pilelaw2_banded.inlineW P 64 Tryz.f64
theorem u17_pilelaw2_banded_ok : TabOK P u17_pilelaw2_banded := u16_pilelaw2_banded_ok.inlineW hm Tryz.func64 (by kernel_rfl) (by kernel_rfl)
def u18_pilelaw2_banded : Tab := u17_pilelaw2_banded.inlineW P 65 Tryz.f65
theorem u18_pilelaw2_banded_ok : TabOK P u18_pilelaw2_banded := u17_pilelaw2_banded_ok.inlineW hm Tryz.func65 (by kernel_rfl) (by kernel_rfl)
def u19_pilelaw2_banded : Tab := u18_pilelaw2_banded.inlineW P 66 Tryz.f66
theorem u19_pilelaw2_banded_ok : TabOK P u19_pilelaw2_banded := u18_pilelaw2_banded_ok.inlineW hm Tryz.func66 (by kernel_rfl) (by kernel_rfl)
def u20_pilelaw2_banded : Tab := u19_pilelaw2_banded.inlineW P 14 Tryz.f14
theorem u20_pilelaw2_banded_ok : TabOK P u20_pilelaw2_banded := u19_pilelaw2_banded_ok.inlineW hm Tryz.func14 (by kernel_rfl) (by kernel_rfl)
def u21_pilelaw2_banded : Tab := u20_pilelaw2_banded.inline P 13 Tryz.f13 []
theorem u21_pilelaw2_banded_ok : TabOK P u21_pilelaw2_banded := u20_pilelaw2_banded_ok.inline hm Tryz.func13 (by kernel_rfl) []
theorem q_pilelaw2_banded : PCall P 34 [] (.lit (.bool true)) := fn_pure (L := noLoops) hm u21_pilelaw2_banded_ok [] (fun _ _ => noLoops_ok _ _ _) Tryz.func34 rfl (by kernel_rfl) (by kernel_rfl)
def F_pilelaw2_banded (_ : List G) : Option (List G) := some [.t true]
def s_pilelaw2_banded : FSpec := ⟨34, [], [], [], [.s (.bool)], [], [], [], F_pilelaw2_banded⟩
theorem c_pilelaw2_banded : ∀ d r, F_pilelaw2_banded d = some r → ACallX P 34 (s_pilelaw2_banded.args0 d) (denH (s_pilelaw2_banded.H0 d)) (s_pilelaw2_banded.out r) (denH (s_pilelaw2_banded.H1 r)) := fun d r h => by
  cases (show some [G.t true] = some r from h)
  exact q_pilelaw2_banded []
def t7 : Tab := t6.addP s_pilelaw2_banded
theorem t7_ok : TabOK P t7 := t6_ok.addP (by kernel_rfl) (by kernel_rfl) c_pilelaw2_banded


/- pileup/pilemake.Below -/
def F_pilemake_Below (d : List G) : Option (List G) :=
  (bif (ltI (gi d 1).int 1) then some [.i 0] else (bif (!((gi d 1).int == 0)) then (bif (ltI (Int.tmod (gi d 0).int (gi d 1).int) 0) then (bif (inI ((Int.tmod (gi d 0).int (gi d 1).int) + (gi d 1).int)) then some [.i ((Int.tmod (gi d 0).int (gi d 1).int) + (gi d 1).int)] else none) else some [.i (Int.tmod (gi d 0).int (gi d 1).int)]) else none))
def s_pilemake_Below : FSpec := ⟨87, [.s (.int .i64), .s (.int .i64)], [], [], [.s (.int .i64)], [], [], [], F_pilemake_Below⟩
theorem b_pilemake_Below : BodyOK P t7 noLoops Tryz.f87 s_pilemake_Below := fun d => by kernel_rfl
theorem c_pilemake_Below : ∀ d r, F_pilemake_Below d = some r → ACallX P 87 (s_pilemake_Below.args0 d) (denH (s_pilemake_Below.H0 d)) (s_pilemake_Below.out r) (denH (s_pilemake_Below.H1 r)) := fun d r h => body_sound hm t7_ok (sp := s_pilemake_Below) Tryz.func87 (by kernel_rfl) (noLoops_ok _ _ _) b_pilemake_Below (by kernel_rfl) h
def t8 : Tab := t7.addP s_pilemake_Below
theorem t8_ok : TabOK P t8 := t7_ok.addP (by kernel_rfl) (by kernel_rfl) c_pilemake_Below

/- (*pileup/pilemake.Stream).Next -/
def F_pilemake_Stream_Next (d : List G) : Option (List G) :=
  (bif (inI ((gi d 1).int + 1)) then (bif ((((gi d 0).rows.length : Nat) : Int) == 0) then (bif (inI (((gi d 1).int + 1) * 7919)) then (callF (F_pilemake_Below [.i (((gi d 1).int + 1) * 7919), .i (gi d 2).int]) fun g1 => some [.l (gi d 0).rows, .i ((gi d 1).int + 1), .i (gi g1 0).int]) else none) else (bif (inI (((gi d 1).int + 1) - 1)) then (bif (!((((gi d 0).rows.length : Nat) : Int) == 0)) then (bif (inI (((gi d 1).int + 1) - 1)) then (bif ((!((((gi d 0).rows.length : Nat) : Int) == 0)) && (inI (Int.tdiv (((gi d 1).int + 1) - 1) (((gi d 0).rows.length : Nat) : Int)))) then (bif ((nnI (Int.tmod (((gi d 1).int + 1) - 1) (((gi d 0).rows.length : Nat) : Int))) && (ltI (Int.tmod (((gi d 1).int + 1) - 1) (((gi d 0).rows.length : Nat) : Int)) (((gi d 0).rows.length : Nat) : Int))) then (callF (F_pilemake_Below [.i (gi ((gi d 0).rows.getD ((Int.tmod (((gi d 1).int + 1) - 1) (((gi d 0).rows.length : Nat) : Int)).toNat) []) 0).int, .i 1073741824]) fun g2 => (bif (inI (7919 + (Int.tmod (((gi d 1).int + 1) - 1) (((gi d 0).rows.length : Nat) : Int)))) then (bif (inI ((Int.tdiv (((gi d 1).int + 1) - 1) (((gi d 0).rows.length : Nat) : Int)) * (7919 + (Int.tmod (((gi d 1).int + 1) - 1) (((gi d 0).rows.length : Nat) : Int))))) then (bif (inI ((gi g2 0).int + ((Int.tdiv (((gi d 1).int + 1) - 1) (((gi d 0).rows.length : Nat) : Int)) * (7919 + (Int.tmod (((gi d 1).int + 1) - 1) (((gi d 0).rows.length : Nat) : Int)))))) then (callF (F_pilemake_Below [.i ((gi g2 0).int + ((Int.tdiv (((gi d 1).int + 1) - 1) (((gi d 0).rows.length : Nat) : Int)) * (7919 + (Int.tmod (((gi d 1).int + 1) - 1) (((gi d 0).rows.length : Nat) : Int))))), .i (gi d 2).int]) fun g3 => some [.l (gi d 0).rows, .i ((gi d 1).int + 1), .i (gi g3 0).int]) else none) else none) else none)) else none) else none) else none) else none) else none)) else none)
def s_pilemake_Stream_Next : FSpec := ⟨45, [.s (.ptr 0 0), .s (.int .i64)], [.box [.list [.int .i64], .int .i64]], [.slot 0], [.s (.int .i64)], [.box [.list [.int .i64], .int .i64]], [.fix 0], [], F_pilemake_Stream_Next⟩
theorem b_pilemake_Stream_Next : BodyOK P t8 noLoops Tryz.f45 s_pilemake_Stream_Next := fun d => by kernel_rfl
theorem c_pilemake_Stream_Next : ∀ d r, F_pilemake_Stream_Next d = some r → ACallX P 45 (s_pilemake_Stream_Next.args0 d) (denH (s_pilemake_Stream_Next.H0 d)) (s_pilemake_Stream_Next.out r) (denH (s_pilemake_Stream_Next.H1 r)) := fun d r h => body_sound hm t8_ok (sp := s_pilemake_Stream_Next) Tryz.func45 (by kernel_rfl) (noLoops_ok _ _ _) b_pilemake_Stream_Next (by kernel_rfl) h
def t9 : Tab := t8.addW s_pilemake_Stream_Next
theorem t9_ok : TabOK P t9 := t8_ok.addW (by kernel_rfl) (by kernel_rfl) c_pilemake_Stream_Next

/- (*pileup/pilemake.Stream).Flip -/
def F_pilemake_Stream_Flip (d : List G) : Option (List G) :=
  (callF (F_pilemake_Stream_Next [.l (gi d 0).rows, .i (gi d 1).int, .i (gi d 2).int]) fun g1 => some [.l (gi g1 0).rows, .i (gi g1 1).int, .t ((gi g1 2).int == 0)])
def s_pilemake_Stream_Flip : FSpec := ⟨44, [.s (.ptr 0 0), .s (.int .i64)], [.box [.list [.int .i64], .int .i64]], [.slot 0], [.s (.bool)], [.box [.list [.int .i64], .int .i64]], [.fix 0], [], F_pilemake_Stream_Flip⟩
theorem b_pilemake_Stream_Flip : BodyOK P t9 noLoops Tryz.f44 s_pilemake_Stream_Flip := fun d => by kernel_rfl
theorem c_pilemake_Stream_Flip : ∀ d r, F_pilemake_Stream_Flip d = some r → ACallX P 44 (s_pilemake_Stream_Flip.args0 d) (denH (s_pilemake_Stream_Flip.H0 d)) (s_pilemake_Stream_Flip.out r) (denH (s_pilemake_Stream_Flip.H1 r)) := fun d r h => body_sound hm t9_ok (sp := s_pilemake_Stream_Flip) Tryz.func44 (by kernel_rfl) (noLoops_ok _ _ _) b_pilemake_Stream_Flip (by kernel_rfl) h
def t10 : Tab := t9.addW s_pilemake_Stream_Flip
theorem t10_ok : TabOK P t10 := t9_ok.addW (by kernel_rfl) (by kernel_rfl) c_pilemake_Stream_Flip

/- (*pileup/pilemake.Stream).Pick -/
def F_pilemake_Stream_Pick (d : List G) : Option (List G) :=
  (callF (F_pilemake_Stream_Next [.l (gi d 0).rows, .i (gi d 1).int, .i (((gi d 2).rows.length : Nat) : Int)]) fun g1 => (bif ((nnI (gi g1 2).int) && (ltI (gi g1 2).int (((gi d 2).rows.length : Nat) : Int))) then some [.l (gi g1 0).rows, .i (gi g1 1).int, .i (gi ((gi d 2).rows.getD (((gi g1 2).int).toNat) []) 0).int] else none))
def s_pilemake_Stream_Pick : FSpec := ⟨19, [.s (.ptr 0 0), .s (.list [.int .i64])], [.box [.list [.int .i64], .int .i64]], [.slot 0], [.s (.int .i64)], [.box [.list [.int .i64], .int .i64]], [.fix 0], [], F_pilemake_Stream_Pick⟩
theorem b_pilemake_Stream_Pick : BodyOK P t10 noLoops Tryz.f19 s_pilemake_Stream_Pick := fun d => by kernel_rfl
theorem c_pilemake_Stream_Pick : ∀ d r, F_pilemake_Stream_Pick d = some r → ACallX P 19 (s_pilemake_Stream_Pick.args0 d) (denH (s_pilemake_Stream_Pick.H0 d)) (s_pilemake_Stream_Pick.out r) (denH (s_pilemake_Stream_Pick.H1 r)) := fun d r h => body_sound hm t10_ok (sp := s_pilemake_Stream_Pick) Tryz.func19 (by kernel_rfl) (noLoops_ok _ _ _) b_pilemake_Stream_Pick (by kernel_rfl) h
def t11 : Tab := t10.addW s_pilemake_Stream_Pick
theorem t11_ok : TabOK P t11 := t10_ok.addW (by kernel_rfl) (by kernel_rfl) c_pilemake_Stream_Pick

/- (*pileup/pilemake.Stream).Some -/
def F_pilemake_Stream_Some (d : List G) : Option (List G) :=
  (callF (F_pilemake_Stream_Next [.l (gi d 0).rows, .i (gi d 1).int, .i (((gi d 2).rows.length : Nat) : Int)]) fun g1 => (bif ((nnI (gi g1 2).int) && (ltI (gi g1 2).int (((gi d 2).rows.length : Nat) : Int))) then some [.l (gi g1 0).rows, .i (gi g1 1).int, .s (gi ((gi d 2).rows.getD (((gi g1 2).int).toNat) []) 0).str] else none))
def s_pilemake_Stream_Some : FSpec := ⟨16, [.s (.ptr 0 0), .s (.list [.str])], [.box [.list [.int .i64], .int .i64]], [.slot 0], [.s (.str)], [.box [.list [.int .i64], .int .i64]], [.fix 0], [], F_pilemake_Stream_Some⟩
theorem b_pilemake_Stream_Some : BodyOK P t11 noLoops Tryz.f16 s_pilemake_Stream_Some := fun d => by kernel_rfl
theorem c_pilemake_Stream_Some : ∀ d r, F_pilemake_Stream_Some d = some r → ACallX P 16 (s_pilemake_Stream_Some.args0 d) (denH (s_pilemake_Stream_Some.H0 d)) (s_pilemake_Stream_Some.out r) (denH (s_pilemake_Stream_Some.H1 r)) := fun d r h => body_sound hm t11_ok (sp := s_pilemake_Stream_Some) Tryz.func16 (by kernel_rfl) (noLoops_ok _ _ _) b_pilemake_Stream_Some (by kernel_rfl) h
def t12 : Tab := t11.addW s_pilemake_Stream_Some
theorem t12_ok : TabOK P t12 := t11_ok.addW (by kernel_rfl) (by kernel_rfl) c_pilemake_Stream_Some

/- (*pileup/pilemake.Stream).Range -/
def F_pilemake_Stream_Range (d : List G) : Option (List G) :=
  (bif (ltI (gi d 3).int (gi d 2).int) then some [.l (gi d 0).rows, .i (gi d 1).int, .i (gi d 2).int] else (bif (inI ((gi d 3).int - (gi d 2).int)) then (bif (inI (((gi d 3).int - (gi d 2).int) + 1)) then (callF (F_pilemake_Stream_Next [.l (gi d 0).rows, .i (gi d 1).int, .i (((gi d 3).int - (gi d 2).int) + 1)]) fun g1 => (bif (inI ((gi d 2).int + (gi g1 2).int)) then some [.l (gi g1 0).rows, .i (gi g1 1).int, .i ((gi d 2).int + (gi g1 2).int)] else none)) else none) else none))
def s_pilemake_Stream_Range : FSpec := ⟨9, [.s (.ptr 0 0), .s (.int .i64), .s (.int .i64)], [.box [.list [.int .i64], .int .i64]], [.slot 0], [.s (.int .i64)], [.box [.list [.int .i64], .int .i64]], [.fix 0], [], F_pilemake_Stream_Range⟩
theorem b_pilemake_Stream_Range : BodyOK P t12 noLoops Tryz.f9 s_pilemake_Stream_Range := fun d => by kernel_rfl
theorem c_pilemake_Stream_Range : ∀ d r, F_pilemake_Stream_Range d = some r → ACallX P 9 (s_pilemake_Stream_Range.args0 d) (denH (s_pilemake_Stream_Range.H0 d)) (s_pilemake_Stream_Range.out r) (denH (s_pilemake_Stream_Range.H1 r)) := fun d r h => body_sound hm t12_ok (sp := s_pilemake_Stream_Range) Tryz.func9 (by kernel_rfl) (noLoops_ok _ _ _) b_pilemake_Stream_Range (by kernel_rfl) h
def t13 : Tab := t12.addW s_pilemake_Stream_Range
theorem t13_ok : TabOK P t13 := t12_ok.addW (by kernel_rfl) (by kernel_rfl) c_pilemake_Stream_Range

/- (*pileup/pilemake.Stream).Odd -/
def F_pilemake_Stream_Odd (d : List G) : Option (List G) :=
  (callF (F_pilemake_Stream_Flip [.l (gi d 0).rows, .i (gi d 1).int, .i 12]) fun g1 => (bif (gi g1 2).bool then (bif (inI ((gi d 2).int - 1)) then (bif (inI ((gi d 3).int + 1)) then (callF (F_pilemake_Stream_Pick [.l (gi g1 0).rows, .i (gi g1 1).int, .l [[.i ((gi d 2).int - 1)], [.i ((gi d 3).int + 1)], [.i (gi d 2).int], [.i (gi d 3).int], [.i (-1099511627776)], [.i 1099511627776]]]) fun g2 => some [.l (gi g2 0).rows, .i (gi g2 1).int, .i (gi g2 2).int]) else none) else none) else (callF (F_pilemake_Stream_Range [.l (gi g1 0).rows, .i (gi g1 1).int, .i (gi d 2).int, .i (gi d 3).int]) fun g3 => some [.l (gi g3 0).rows, .i (gi g3 1).int, .i (gi g3 2).int])))
def s_pilemake_Stream_Odd : FSpec := ⟨46, [.s (.ptr 0 0), .s (.int .i64), .s (.int .i64)], [.box [.list [.int .i64], .int .i64]], [.slot 0], [.s (.int .i64)], [.box [.list [.int .i64], .int .i64]], [.fix 0], [], F_pilemake_Stream_Odd⟩
theorem b_pilemake_Stream_Odd : BodyOK P t13 noLoops Tryz.f46 s_pilemake_Stream_Odd := fun d => by kernel_rfl
theorem c_pilemake_Stream_Odd : ∀ d r, F_pilemake_Stream_Odd d = some r → ACallX P 46 (s_pilemake_Stream_Odd.args0 d) (denH (s_pilemake_Stream_Odd.H0 d)) (s_pilemake_Stream_Odd.out r) (denH (s_pilemake_Stream_Odd.H1 r)) := fun d r h => body_sound hm t13_ok (sp := s_pilemake_Stream_Odd) Tryz.func46 (by kernel_rfl) (noLoops_ok _ _ _) b_pilemake_Stream_Odd (by kernel_rfl) h
def t14 : Tab := t13.addW s_pilemake_Stream_Odd
theorem t14_ok : TabOK P t14 := t13_ok.addW (by kernel_rfl) (by kernel_rfl) c_pilemake_Stream_Odd

/- cmp.isNaN[int] -/
def F_cmp_isNaN_int (d : List G) : Option (List G) :=
  some [.t ((gi d 0).int != (gi d 0).int)]
def s_cmp_isNaN_int : FSpec := ⟨113, [.s (.int .i64)], [], [], [.s (.bool)], [], [], [], F_cmp_isNaN_int⟩
theorem b_cmp_isNaN_int : BodyOK P t14 noLoops Tryz.f113 s_cmp_isNaN_int := fun d => by kernel_rfl
theorem c_cmp_isNaN_int : ∀ d r, F_cmp_isNaN_int d = some r → ACallX P 113 (s_cmp_isNaN_int.args0 d) (denH (s_cmp_isNaN_int.H0 d)) (s_cmp_isNaN_int.out r) (denH (s_cmp_isNaN_int.H1 r)) := fun d r h => body_sound hm t14_ok (sp := s_cmp_isNaN_int) Tryz.func113 (by kernel_rfl) (noLoops_ok _ _ _) b_cmp_isNaN_int (by kernel_rfl) h
def t15 : Tab := t14.addP s_cmp_isNaN_int
theorem t15_ok : TabOK P t15 := t14_ok.addP (by kernel_rfl) (by kernel_rfl) c_cmp_isNaN_int

/- cmp.Compare[int] -/
def F_cmp_Compare_int (d : List G) : Option (List G) :=
  (callF (F_cmp_isNaN_int [.i (gi d 0).int]) fun g1 => (callF (F_cmp_isNaN_int [.i (gi d 1).int]) fun g2 => (bif (gi g1 0).bool then (bif (gi g2 0).bool then some [.i 0] else some [.i (-1)]) else (bif (gi g2 0).bool then some [.i 1] else (bif (ltI (gi d 0).int (gi d 1).int) then some [.i (-1)] else (bif (ltI (gi d 1).int (gi d 0).int) then some [.i 1] else some [.i 0]))))))
def s_cmp_Compare_int : FSpec := ⟨89, [.s (.int .i64), .s (.int .i64)], [], [], [.s (.int .i64)], [], [], [], F_cmp_Compare_int⟩
theorem b_cmp_Compare_int : BodyOK P t15 noLoops Tryz.f89 s_cmp_Compare_int := fun d => by kernel_rfl
theorem c_cmp_Compare_int : ∀ d r, F_cmp_Compare_int d = some r → ACallX P 89 (s_cmp_Compare_int.args0 d) (denH (s_cmp_Compare_int.H0 d)) (s_cmp_Compare_int.out r) (denH (s_cmp_Compare_int.H1 r)) := fun d r h => body_sound hm t15_ok (sp := s_cmp_Compare_int) Tryz.func89 (by kernel_rfl) (noLoops_ok _ _ _) b_cmp_Compare_int (by kernel_rfl) h
def t16 : Tab := t15.addP s_cmp_Compare_int
theorem t16_ok : TabOK P t16 := t15_ok.addP (by kernel_rfl) (by kernel_rfl) c_cmp_Compare_int

/- slices.Compare[[]int,int] -/
def st_slices_Compare_int_2 (d : List G) : Option (Option Nat × List G) :=
  (bif (ltI (gi d 4).int (gi d 3).int) then (bif ((nnI (gi d 4).int) && (ltI (gi d 4).int (((gi d 2).rows.length : Nat) : Int))) then (bif (leI (((gi d 1).rows.length : Nat) : Int) (gi d 4).int) then some (some 0, [.i 1]) else (bif ((nnI (gi d 4).int) && (ltI (gi d 4).int (((gi d 1).rows.length : Nat) : Int))) then (callF (F_cmp_Compare_int [.i (gi ((gi d 2).rows.getD (((gi d 4).int).toNat) []) 0).int, .i (gi ((gi d 1).rows.getD (((gi d 4).int).toNat) []) 0).int]) fun g1 => (bif ((gi g1 0).int != 0) then some (some 0, [.i (gi g1 0).int]) else (bif (inI ((gi d 4).int + 1)) then some (none, [.l (gi d 0).rows, .l (gi d 1).rows, .l (gi d 2).rows, .i (gi d 3).int, .i ((gi d 4).int + 1)]) else none))) else none)) else none) else some (some 1, [.l (gi d 0).rows, .l (gi d 1).rows]))
def l_slices_Compare_int_2 : LSpec := ⟨2, [], ⟨36, [(0, .s (.list [.int .i64])), (1, .s (.list [.int .i64])), (9, .s (.list [.int .i64])), (10, .s (.int .i64)), (11, .s (.int .i64))], []⟩, [], [⟨.ret, ⟨36, [(4, .s (.int .i64))], []⟩, []⟩, ⟨.exit 0, ⟨36, [(0, .s (.list [.int .i64])), (1, .s (.list [.int .i64]))], []⟩, []⟩], st_slices_Compare_int_2⟩
theorem r_slices_Compare_int_2 : RoundOK P t16 noLoops 0 (loopAt Tryz.f49 2) l_slices_Compare_int_2 := fun d => by kernel_rfl
def L_slices_Compare_int_2 : LT := noLoops.add 0 l_slices_Compare_int_2
theorem L_slices_Compare_int_2_ok : LoopsOK P 0 L_slices_Compare_int_2 (bodyOf Tryz.f49) := LoopsOK.add hm t16_ok (by kernel_rfl) (noLoops_ok _ _ _) r_slices_Compare_int_2
def F_slices_Compare_int (d : List G) : Option (List G) :=
  (loopB true (LRun st_slices_Compare_int_2 [.l (gi d 0).rows, .l (gi d 1).rows, .l (gi d 0).rows, .i (((gi d 0).rows.length : Nat) : Int), .i 0]) fun cg2 g2 => (bif Nat.beq cg2 0 then some [.i (gi g2 0).int] else (bif (ltI (((gi g2 0).rows.length : Nat) : Int) (((gi g2 1).rows.length : Nat) : Int)) then some [.i (-1)] else some [.i 0])))
def s_slices_Compare_int : FSpec := ⟨49, [.s (.list [.int .i64]), .s (.list [.int .i64])], [], [], [.s (.int .i64)], [], [], [], F_slices_Compare_int⟩
theorem b_slices_Compare_int : BodyOK P t16 L_slices_Compare_int_2 Tryz.f49 s_slices_Compare_int := fun d => by kernel_rfl
theorem c_slices_Compare_int : ∀ d r, F_slices_Compare_int d = some r → ACallX P 49 (s_slices_Compare_int.args0 d) (denH (s_slices_Compare_int.H0 d)) (s_slices_Compare_int.out r) (denH (s_slices_Compare_int.H1 r)) := fun d r h => body_sound hm t16_ok (sp := s_slices_Compare_int) Tryz.func49 (by kernel_rfl) L_slices_Compare_int_2_ok b_slices_Compare_int (by kernel_rfl) h
def t17 : Tab := t16.addP s_slices_Compare_int
theorem t17_ok : TabOK P t17 := t16_ok.addP (by kernel_rfl) (by kernel_rfl) c_slices_Compare_int

/- (*pileup/pilemake.Stream).Segments$1 -/
def F_pilemake_Stream_Segments_1 (d : List G) : Option (List G) :=
  (bif (!((gi (gi d 0).row 0).str.toList == (gi (gi d 1).row 0).str.toList)) then (bif (Op.bytesLess (gi (gi d 0).row 0).str.toList (gi (gi d 1).row 0).str.toList) then some [.i (-1)] else some [.i 1]) else (callF (F_slices_Compare_int [.l [[.i (gi (gi d 0).row 1).int], [.i (gi (gi d 0).row 2).int], [.i (gi (gi d 0).row 4).int]], .l [[.i (gi (gi d 1).row 1).int], [.i (gi (gi d 1).row 2).int], [.i (gi (gi d 1).row 4).int]]]) fun g1 => some [.i (gi g1 0).int]))
def s_pilemake_Stream_Segments_1 : FSpec := ⟨48, [.s (.row KSegment), .s (.row KSegment)], [], [], [.s (.int .i64)], [], [], [], F_pilemake_Stream_Segments_1⟩
theorem b_pilemake_Stream_Segments_1 : BodyOK P t17 noLoops Tryz.f48 s_pilemake_Stream_Segments_1 := fun d => by kernel_rfl
theorem c_pilemake_Stream_Segments_1 : ∀ d r, F_pilemake_Stream_Segments_1 d = some r → ACallX P 48 (s_pilemake_Stream_Segments_1.args0 d) (denH (s_pilemake_Stream_Segments_1.H0 d)) (s_pilemake_Stream_Segments_1.out r) (denH (s_pilemake_Stream_Segments_1.H1 r)) := fun d r h => body_sound hm t17_ok (sp := s_pilemake_Stream_Segments_1) Tryz.func48 (by kernel_rfl) (noLoops_ok _ _ _) b_pilemake_Stream_Segments_1 (by kernel_rfl) h
def t18 : Tab := t17.addP s_pilemake_Stream_Segments_1
theorem t18_ok : TabOK P t18 := t17_ok.addP (by kernel_rfl) (by kernel_rfl) c_pilemake_Stream_Segments_1

/- slices.insertionSortCmpFunc[pileup/api.Segment] -/
def st_slices_insertionSortCmpFunc_Segment_4 (d : List G) : Option (Option Nat × List G) :=
  (bif (ltI (gi d 1).int (gi d 4).int) then (bif ((nnI (gi d 4).int) && (ltI (gi d 4).int (((gi d 0).rows.length : Nat) : Int))) then (bif (decide ((0 + ((gi d 4).int).toNat) < (gi d 0).rows.length)) then (bif (inI ((gi d 4).int - 1)) then (bif ((nnI ((gi d 4).int - 1)) && (ltI ((gi d 4).int - 1) (((gi d 0).rows.length : Nat) : Int))) then (bif (decide ((0 + ((gi d 4).int - 1).toNat) < (gi d 0).rows.length)) then (callF (F_pilemake_Stream_Segments_1 [.l [(gEta KSegment ((gi d 0).rows.getD (0 + ((gi d 4).int).toNat) []))], .l [(gEta KSegment ((gi d 0).rows.getD (0 + ((gi d 4).int - 1).toNat) []))]]) fun g1 => (bif (ltI (gi g1 0).int 0) then (bif (inI ((gi d 4).int - 1)) then (bif (inI ((gi d 4).int - 1)) then (bif ((nnI ((gi d 4).int - 1)) && (ltI ((gi d 4).int - 1) (((gi d 0).rows.length : Nat) : Int))) then (bif (decide ((0 + ((gi d 4).int - 1).toNat) < (gi d 0).rows.length)) then (bif ((nnI (gi d 4).int) && (ltI (gi d 4).int (((gi d 0).rows.length : Nat) : Int))) then (bif (decide ((0 + ((gi d 4).int).toNat) < (gi d 0).rows.length)) then (bif ((nnI (gi d 4).int) && (ltI (gi d 4).int (((gi d 0).rows.length : Nat) : Int))) then (bif (decide ((0 + ((gi d 4).int).toNat) < (gi d 0).rows.length)) then (bif ((nnI ((gi d 4).int - 1)) && (ltI ((gi d 4).int - 1) (((gi d 0).rows.length : Nat) : Int))) then (bif (decide ((0 + ((gi d 4).int - 1).toNat) < ((gi d 0).rows.set (0 + ((gi d 4).int).toNat) (putG KSegment ((gi d 0).rows.getD (0 + ((gi d 4).int).toNat) []) 0 (gEta KSegment ((gi d 0).rows.getD (0 + ((gi d 4).int - 1).toNat) [])))).length)) then (bif (inI ((gi d 4).int - 1)) then (bif ((Nat.beq (gi d 0).rows.length (((gi d 0).rows.set (0 + ((gi d 4).int).toNat) (putG KSegment ((gi d 0).rows.getD (0 + ((gi d 4).int).toNat) []) 0 (gEta KSegment ((gi d 0).rows.getD (0 + ((gi d 4).int - 1).toNat) [])))).set (0 + ((gi d 4).int - 1).toNat) (putG KSegment (((gi d 0).rows.set (0 + ((gi d 4).int).toNat) (putG KSegment ((gi d 0).rows.getD (0 + ((gi d 4).int).toNat) []) 0 (gEta KSegment ((gi d 0).rows.getD (0 + ((gi d 4).int - 1).toNat) [])))).getD (0 + ((gi d 4).int - 1).toNat) []) 0 (gEta KSegment ((gi d 0).rows.getD (0 + ((gi d 4).int).toNat) [])))).length) && true) then some (none, [.l (((gi d 0).rows.set (0 + ((gi d 4).int).toNat) (putG KSegment ((gi d 0).rows.getD (0 + ((gi d 4).int).toNat) []) 0 (gEta KSegment ((gi d 0).rows.getD (0 + ((gi d 4).int - 1).toNat) [])))).set (0 + ((gi d 4).int - 1).toNat) (putG KSegment (((gi d 0).rows.set (0 + ((gi d 4).int).toNat) (putG KSegment ((gi d 0).rows.getD (0 + ((gi d 4).int).toNat) []) 0 (gEta KSegment ((gi d 0).rows.getD (0 + ((gi d 4).int - 1).toNat) [])))).getD (0 + ((gi d 4).int - 1).toNat) []) 0 (gEta KSegment ((gi d 0).rows.getD (0 + ((gi d 4).int).toNat) [])))), .i (gi d 1).int, .i (gi d 2).int, .i (gi d 3).int, .i ((gi d 4).int - 1)]) else none) else none) else none) else none) else none) else none) else none) else none) else none) else none) else none) else none) else (bif ((Nat.beq (gi d 0).rows.length (gi d 0).rows.length) && true) then some (some 0, [.l (gi d 0).rows, .i (gi d 1).int, .i (gi d 2).int, .i (gi d 3).int]) else none))) else none) else none) else none) else none) else none) else (bif ((Nat.beq (gi d 0).rows.length (gi d 0).rows.length) && true) then some (some 0, [.l (gi d 0).rows, .i (gi d 1).int, .i (gi d 2).int, .i (gi d 3).int]) else none))
def l_slices_insertionSortCmpFunc_Segment_4 : LSpec := ⟨4, [], ⟨53, [(0, .s (.vec 0 6)), (1, .s (.int .i64)), (2, .s (.int .i64)), (3, .s (.fn 48)), (8, .s (.int .i64)), (9, .s (.int .i64))], [.vec KSegment 0]⟩, [.fix 0], [⟨.exit 2, ⟨53, [(0, .s (.vec 0 6)), (1, .s (.int .i64)), (2, .s (.int .i64)), (3, .s (.fn 48)), (8, .s (.int .i64))], [.vec KSegment 0]⟩, [.fix 0]⟩], st_slices_insertionSortCmpFunc_Segment_4⟩
theorem r_slices_insertionSortCmpFunc_Segment_4 : RoundOK P t18 noLoops 1 (loopAt Tryz.f111 4) l_slices_insertionSortCmpFunc_Segment_4 := fun d => by kernel_rfl
def L_slices_insertionSortCmpFunc_Segment_4 : LT := noLoops.add 1 l_slices_insertionSortCmpFunc_Segment_4
theorem L_slices_insertionSortCmpFunc_Segment_4_ok : LoopsOK P 1 L_slices_insertionSortCmpFunc_Segment_4 (bodyOf Tryz.f111) := LoopsOK.add hm t18_ok (by kernel_rfl) (noLoops_ok _ _ _) r_slices_insertionSortCmpFunc_Segment_4
def st_slices_insertionSortCmpFunc_Segment_1 (d : List G) : Option (Option Nat × List G) :=
  (bif (ltI (gi d 3).int (gi d 2).int) then (loopB ((Nat.beq (gi d 0).rows.length (gi d 0).rows.length) && true) (LRun st_slices_insertionSortCmpFunc_Segment_4 [.l (gi d 0).rows, .i (gi d 1).int, .i (gi d 2).int, .i (gi d 3).int, .i (gi d 3).int]) fun cg2 g2 => (bif (inI ((gi g2 3).int + 1)) then (bif ((Nat.beq (gi g2 0).rows.length (gi g2 0).rows.length) && true) then some (none, [.l (gi g2 0).rows, .i (gi g2 1).int, .i (gi g2 2).int, .i ((gi g2 3).int + 1)]) else none) else none)) else some (some 0, [.l (gi d 0).rows]))
def l_slices_insertionSortCmpFunc_Segment_1 : LSpec := ⟨1, [], ⟨53, [(0, .s (.vec 0 6)), (1, .s (.int .i64)), (2, .s (.int .i64)), (3, .s (.fn 48)), (8, .s (.int .i64))], [.vec KSegment 0]⟩, [.fix 0], [⟨.exit 0, ⟨53, [], [.vec KSegment 0]⟩, [.fix 0]⟩], st_slices_insertionSortCmpFunc_Segment_1⟩
theorem r_slices_insertionSortCmpFunc_Segment_1 : RoundOK P t18 L_slices_insertionSortCmpFunc_Segment_4 1 (loopAt Tryz.f111 1) l_slices_insertionSortCmpFunc_Segment_1 := fun d => by kernel_rfl
def L_slices_insertionSortCmpFunc_Segment_1 : LT := L_slices_insertionSortCmpFunc_Segment_4.add 1 l_slices_insertionSortCmpFunc_Segment_1
theorem L_slices_insertionSortCmpFunc_Segment_1_ok : LoopsOK P 1 L_slices_insertionSortCmpFunc_Segment_1 (bodyOf Tryz.f111) := LoopsOK.add hm t18_ok (by kernel_rfl) L_slices_insertionSortCmpFunc_Segment_4_ok r_slices_insertionSortCmpFunc_Segment_1
def F_slices_insertionSortCmpFunc_Segment (d : List G) : Option (List G) :=
  (bif (inI ((gi d 1).int + 1)) then (loopB ((Nat.beq (gi d 0).rows.length (gi d 0).rows.length) && true) (LRun st_slices_insertionSortCmpFunc_Segment_1 [.l (gi d 0).rows, .i (gi d 1).int, .i (gi d 2).int, .i ((gi d 1).int + 1)]) fun cg3 g3 => some [.l (gi g3 0).rows]) else none)
def s_slices_insertionSortCmpFunc_Segment : FSpec := ⟨111, [.s (.vec 0 6), .s (.int .i64), .s (.int .i64), .s (.fn 48)], [.vec KSegment 0], [.slot 0], [], [.vec KSegment 0], [.fix 0], [], F_slices_insertionSortCmpFunc_Segment⟩
theorem b_slices_insertionSortCmpFunc_Segment : BodyOK P t18 L_slices_insertionSortCmpFunc_Segment_1 Tryz.f111 s_slices_insertionSortCmpFunc_Segment := fun d => by kernel_rfl
theorem c_slices_insertionSortCmpFunc_Segment : ∀ d r, F_slices_insertionSortCmpFunc_Segment d = some r → ACallX P 111 (s_slices_insertionSortCmpFunc_Segment.args0 d) (denH (s_slices_insertionSortCmpFunc_Segment.H0 d)) (s_slices_insertionSortCmpFunc_Segment.out r) (denH (s_slices_insertionSortCmpFunc_Segment.H1 r)) := fun d r h => body_sound hm t18_ok (sp := s_slices_insertionSortCmpFunc_Segment) Tryz.func111 (by kernel_rfl) L_slices_insertionSortCmpFunc_Segment_1_ok b_slices_insertionSortCmpFunc_Segment (by kernel_rfl) h
def t19 : Tab := t18.addW s_slices_insertionSortCmpFunc_Segment
theorem t19_ok : TabOK P t19 := t18_ok.addW (by kernel_rfl) (by kernel_rfl) c_slices_insertionSortCmpFunc_Segment

/- slices.stableCmpFunc[pileup/api.Segment] -/
/- not followed: a call of slices.symMergeCmpFunc[pileup/api.Segment] at zsortanyfunc.go:348; a call of slices.symMergeCmpFunc[pileup/api.Segment] at zsortanyfunc.go:353 -/
def st_slices_stableCmpFunc_Segment_2 (d : List G) : Option (Option Nat × List G) :=
  (bif (leI (gi d 4).int (gi d 1).int) then (callB (((Nat.beq (gi d 0).rows.length (gi d 0).rows.length) && true) && (F_slices_insertionSortCmpFunc_Segment [.l (gi d 0).rows, .i (gi d 3).int, .i (gi d 4).int]).isSome) (F_slices_insertionSortCmpFunc_Segment [.l (gi d 0).rows, .i (gi d 3).int, .i (gi d 4).int]) fun g1 => (bif (inI ((gi d 4).int + (gi d 2).int)) then (bif ((Nat.beq (gi d 0).rows.length (gi g1 0).rows.length) && true) then some (none, [.l (gi g1 0).rows, .i (gi d 1).int, .i (gi d 2).int, .i (gi d 4).int, .i ((gi d 4).int + (gi d 2).int)]) else none) else none)) else (bif ((Nat.beq (gi d 0).rows.length (gi d 0).rows.length) && true) then some (some 0, [.l (gi d 0).rows, .i (gi d 1).int, .i (gi d 2).int, .i (gi d 3).int]) else none))
def l_slices_stableCmpFunc_Segment_2 : LSpec := ⟨2, [], ⟨63, [(0, .s (.vec 0 6)), (1, .s (.int .i64)), (2, .s (.fn 48)), (6, .s (.int .i64)), (7, .s (.int .i64)), (8, .s (.int .i64))], [.vec KSegment 0]⟩, [.fix 0], [⟨.exit 0, ⟨63, [(0, .s (.vec 0 6)), (1, .s (.int .i64)), (2, .s (.fn 48)), (6, .s (.int .i64)), (7, .s (.int .i64))], [.vec KSegment 0]⟩, [.fix 0]⟩], st_slices_stableCmpFunc_Segment_2⟩
theorem r_slices_stableCmpFunc_Segment_2 : RoundOK P t19 noLoops 1 (loopAt Tryz.f88 2) l_slices_stableCmpFunc_Segment_2 := fun d => by kernel_rfl
def L_slices_stableCmpFunc_Segment_2 : LT := noLoops.add 1 l_slices_stableCmpFunc_Segment_2
theorem L_slices_stableCmpFunc_Segment_2_ok : LoopsOK P 1 L_slices_stableCmpFunc_Segment_2 (bodyOf Tryz.f88) := LoopsOK.add hm t19_ok (by kernel_rfl) (noLoops_ok _ _ _) r_slices_stableCmpFunc_Segment_2
def st_slices_stableCmpFunc_Segment_9 (d : List G) : Option (Option Nat × List G) :=
  (bif (leI (gi d 4).int (gi d 1).int) then (bif (inI ((gi d 3).int + (gi d 2).int)) then none else none) else (bif ((Nat.beq (gi d 0).rows.length (gi d 0).rows.length) && true) then some (some 0, [.l (gi d 0).rows, .i (gi d 1).int, .i (gi d 2).int, .i (gi d 3).int]) else none))
def l_slices_stableCmpFunc_Segment_9 : LSpec := ⟨9, [], ⟨63, [(0, .s (.vec 0 6)), (1, .s (.int .i64)), (2, .s (.fn 48)), (6, .s (.int .i64)), (7, .s (.int .i64)), (8, .s (.int .i64))], [.vec KSegment 0]⟩, [.fix 0], [⟨.exit 4, ⟨63, [(0, .s (.vec 0 6)), (1, .s (.int .i64)), (2, .s (.fn 48)), (6, .s (.int .i64)), (7, .s (.int .i64))], [.vec KSegment 0]⟩, [.fix 0]⟩], st_slices_stableCmpFunc_Segment_9⟩
theorem r_slices_stableCmpFunc_Segment_9 : RoundOK P t19 L_slices_stableCmpFunc_Segment_2 1 (loopAt Tryz.f88 9) l_slices_stableCmpFunc_Segment_9 := fun d => by kernel_rfl
def L_slices_stableCmpFunc_Segment_9 : LT := L_slices_stableCmpFunc_Segment_2.add 1 l_slices_stableCmpFunc_Segment_9
theorem L_slices_stableCmpFunc_Segment_9_ok : LoopsOK P 1 L_slices_stableCmpFunc_Segment_9 (bodyOf Tryz.f88) := LoopsOK.add hm t19_ok (by kernel_rfl) L_slices_stableCmpFunc_Segment_2_ok r_slices_stableCmpFunc_Segment_9
def st_slices_stableCmpFunc_Segment_7 (d : List G) : Option (Option Nat × List G) :=
  (bif (ltI (gi d 2).int (gi d 1).int) then (bif (inI (2 * (gi d 2).int)) then (loopB ((Nat.beq (gi d 0).rows.length (gi d 0).rows.length) && true) (LRun st_slices_stableCmpFunc_Segment_9 [.l (gi d 0).rows, .i (gi d 1).int, .i (gi d 2).int, .i 0, .i (2 * (gi d 2).int)]) fun cg4 g4 => (bif (inI ((gi g4 3).int + (gi g4 2).int)) then (bif (ltI ((gi g4 3).int + (gi g4 2).int) (gi g4 1).int) then none else (bif (inI ((gi g4 2).int * 2)) then (bif ((Nat.beq (gi g4 0).rows.length (gi g4 0).rows.length) && true) then some (none, [.l (gi g4 0).rows, .i (gi g4 1).int, .i ((gi g4 2).int * 2)]) else none) else none)) else none)) else none) else some (some 0, [.l (gi d 0).rows]))
def l_slices_stableCmpFunc_Segment_7 : LSpec := ⟨7, [], ⟨63, [(0, .s (.vec 0 6)), (1, .s (.int .i64)), (2, .s (.fn 48)), (6, .s (.int .i64))], [.vec KSegment 0]⟩, [.fix 0], [⟨.exit 2, ⟨63, [], [.vec KSegment 0]⟩, [.fix 0]⟩], st_slices_stableCmpFunc_Segment_7⟩
theorem r_slices_stableCmpFunc_Segment_7 : RoundOK P t19 L_slices_stableCmpFunc_Segment_9 1 (loopAt Tryz.f88 7) l_slices_stableCmpFunc_Segment_7 := fun d => by kernel_rfl
def L_slices_stableCmpFunc_Segment_7 : LT := L_slices_stableCmpFunc_Segment_9.add 1 l_slices_stableCmpFunc_Segment_7
theorem L_slices_stableCmpFunc_Segment_7_ok : LoopsOK P 1 L_slices_stableCmpFunc_Segment_7 (bodyOf Tryz.f88) := LoopsOK.add hm t19_ok (by kernel_rfl) L_slices_stableCmpFunc_Segment_9_ok r_slices_stableCmpFunc_Segment_7
def F_slices_stableCmpFunc_Segment (d : List G) : Option (List G) :=
  (loopB ((Nat.beq (gi d 0).rows.length (gi d 0).rows.length) && true) (LRun st_slices_stableCmpFunc_Segment_2 [.l (gi d 0).rows, .i (gi d 1).int, .i 20, .i 0, .i 20]) fun cg2 g2 => (callB (((Nat.beq (gi g2 0).rows.length (gi g2 0).rows.length) && true) && (F_slices_insertionSortCmpFunc_Segment [.l (gi g2 0).rows, .i (gi g2 3).int, .i (gi g2 1).int]).isSome) (F_slices_insertionSortCmpFunc_Segment [.l (gi g2 0).rows, .i (gi g2 3).int, .i (gi g2 1).int]) fun g3 => (loopB ((Nat.beq (gi g2 0).rows.length (gi g3 0).rows.length) && true) (LRun st_slices_stableCmpFunc_Segment_7 [.l (gi g3 0).rows, .i (gi g2 1).int, .i (gi g2 2).int]) fun cg5 g5 => some [.l (gi g5 0).rows])))
def s_slices_stableCmpFunc_Segment : FSpec := ⟨88, [.s (.vec 0 6), .s (.int .i64), .s (.fn 48)], [.vec KSegment 0], [.slot 0], [], [.vec KSegment 0], [.fix 0], [], F_slices_stableCmpFunc_Segment⟩
theorem b_slices_stableCmpFunc_Segment : BodyOK P t19 L_slices_stableCmpFunc_Segment_7 Tryz.f88 s_slices_stableCmpFunc_Segment := fun d => by kernel_rfl
theorem c_slices_stableCmpFunc_Segment : ∀ d r, F_slices_stableCmpFunc_Segment d = some r → ACallX P 88 (s_slices_stableCmpFunc_Segment.args0 d) (denH (s_slices_stableCmpFunc_Segment.H0 d)) (s_slices_stableCmpFunc_Segment.out r) (denH (s_slices_stableCmpFunc_Segment.H1 r)) := fun d r h => body_sound hm t19_ok (sp := s_slices_stableCmpFunc_Segment) Tryz.func88 (by kernel_rfl) L_slices_stableCmpFunc_Segment_7_ok b_slices_stableCmpFunc_Segment (by kernel_rfl) h
def t20 : Tab := t19.addW s_slices_stableCmpFunc_Segment
theorem t20_ok : TabOK P t20 := t19_ok.addW (by kernel_rfl) (by kernel_rfl) c_slices_stableCmpFunc_Segment

/- slices.SortStableFunc[[]pileup/api.Segment,pileup/api.Segment] -/
def F_slices_SortStableFunc_Segment (d : List G) : Option (List G) :=
  (callB (((Nat.beq (gi d 0).rows.length (gi d 0).rows.length) && true) && (F_slices_stableCmpFunc_Segment [.l (gi d 0).rows, .i (((gi d 0).rows.length : Nat) : Int)]).isSome) (F_slices_stableCmpFunc_Segment [.l (gi d 0).rows, .i (((gi d 0).rows.length : Nat) : Int)]) fun g1 => some [.l (gi g1 0).rows])
def s_slices_SortStableFunc_Segment : FSpec := ⟨47, [.s (.vec 0 6), .s (.fn 48)], [.vec KSegment 0], [.slot 0], [], [.vec KSegment 0], [.fix 0], [], F_slices_SortStableFunc_Segment⟩
theorem b_slices_SortStableFunc_Segment : BodyOK P t20 noLoops Tryz.f47 s_slices_SortStableFunc_Segment := fun d => by kernel_rfl
theorem c_slices_SortStableFunc_Segment : ∀ d r, F_slices_SortStableFunc_Segment d = some r → ACallX P 47 (s_slices_SortStableFunc_Segment.args0 d) (denH (s_slices_SortStableFunc_Segment.H0 d)) (s_slices_SortStableFunc_Segment.out r) (denH (s_slices_SortStableFunc_Segment.H1 r)) := fun d r h => body_sound hm t20_ok (sp := s_slices_SortStableFunc_Segment) Tryz.func47 (by kernel_rfl) (noLoops_ok _ _ _) b_slices_SortStableFunc_Segment (by kernel_rfl) h
def t21 : Tab := t20.addW s_slices_SortStableFunc_Segment
theorem t21_ok : TabOK P t21 := t20_ok.addW (by kernel_rfl) (by kernel_rfl) c_slices_SortStableFunc_Segment

/- (*pileup/pilemake.Stream).Segments -/
def st_pilemake_Stream_Segments_10 (d : List G) : Option (Option Nat × List G) :=
  (bif (leI (gi d 10).int 3) then (callF (F_pilemake_Stream_Flip [.l (gi d 0).rows, .i (gi d 1).int, .i 2]) fun g6 => (bif (gi g6 2).bool then (bif ((Nat.beq (gi d 8).rows.length (gi d 8).rows.length) && (decide (((gi d 8).rows.length + 1) ≤ 1048576))) then (bif (inI ((gi d 10).int + 1)) then (bif ((((Nat.beq ((gi d 8).rows ++ ([[.i (gi d 10).int]] : List (List G))).length ((gi d 8).rows ++ ([[.i (gi d 10).int]] : List (List G))).length) && true) && true) && ((Nat.beq (gi d 2).rows.length (gi d 2).rows.length) && true)) then some (none, [.l (gi g6 0).rows, .i (gi g6 1).int, .l (gi d 2).rows, .s (gi d 3).str, .i (gi d 4).int, .i (gi d 5).int, .i (gi d 6).int, .i (gi d 7).int, .l ((gi d 8).rows ++ ([[.i (gi d 10).int]] : List (List G))), .s (gi d 9).str, .i ((gi d 10).int + 1), .l (gi d 11).rows, .i (gi d 12).int, .i (gi d 13).int]) else none) else none) else none) else (bif (inI ((gi d 10).int + 1)) then (bif ((((Nat.beq (gi d 8).rows.length (gi d 8).rows.length) && true) && true) && ((Nat.beq (gi d 2).rows.length (gi d 2).rows.length) && true)) then some (none, [.l (gi g6 0).rows, .i (gi g6 1).int, .l (gi d 2).rows, .s (gi d 3).str, .i (gi d 4).int, .i (gi d 5).int, .i (gi d 6).int, .i (gi d 7).int, .l (gi d 8).rows, .s (gi d 9).str, .i ((gi d 10).int + 1), .l (gi d 11).rows, .i (gi d 12).int, .i (gi d 13).int]) else none) else none))) else (bif ((((Nat.beq (gi d 8).rows.length (gi d 8).rows.length) && true) && true) && ((Nat.beq (gi d 2).rows.length (gi d 2).rows.length) && true)) then some (some 0, [.l (gi d 0).rows, .i (gi d 1).int, .l (gi d 2).rows, .s (gi d 3).str, .i (gi d 4).int, .i (gi d 5).int, .i (gi d 6).int, .i (gi d 7).int, .l (gi d 8).rows, .s (gi d 9).str, .l (gi d 11).rows, .i (gi d 12).int, .i (gi d 13).int]) else none))
def l_pilemake_Stream_Segments_10 : LSpec := ⟨10, [], ⟨102, [(0, .s (.ptr 0 0)), (3, .s (.vec 1 6)), (5, .s (.str)), (6, .s (.ptr 2 0)), (7, .s (.int .i64)), (8, .s (.list [.str])), (9, .s (.int .i64)), (10, .s (.int .i64))], [.box [.list [.int .i64], .int .i64], .vec KSegment 0, .box [.str, .int .i64, .int .i64, .vec 3 1, .int .i64, .int .i64], .vec [.int .i64] 0]⟩, [.fix 0, .slot 3, .slot 6, .cell 2 3], [⟨.exit 2, ⟨102, [(0, .s (.ptr 0 0)), (3, .s (.vec 1 6)), (5, .s (.str)), (6, .s (.ptr 2 0)), (8, .s (.list [.str])), (9, .s (.int .i64)), (10, .s (.int .i64))], [.box [.list [.int .i64], .int .i64], .vec KSegment 0, .box [.str, .int .i64, .int .i64, .vec 3 1, .int .i64, .int .i64], .vec [.int .i64] 0]⟩, [.fix 0, .slot 3, .slot 6, .cell 2 3]⟩], st_pilemake_Stream_Segments_10⟩
theorem r_pilemake_Stream_Segments_10 : RoundOK P (t21.morePf [2100022]) (noLoops.hinted [(9, [.openCell 6 3 [.int .i64]]), (25, [.freezeCell 6 3])]) 1 (loopAt Tryz.f7 10) l_pilemake_Stream_Segments_10 := fun d => by kernel_rfl
def L_pilemake_Stream_Segments_10 : LT := (noLoops.hinted [(9, [.openCell 6 3 [.int .i64]]), (25, [.freezeCell 6 3])]).add 1 l_pilemake_Stream_Segments_10
theorem L_pilemake_Stream_Segments_10_ok : LoopsOK P 1 L_pilemake_Stream_Segments_10 (bodyOf Tryz.f7) := LoopsOK.add hm (t21_ok.morePf [2100022]) (by kernel_rfl) (hinted_ok _) r_pilemake_Stream_Segments_10
def tl_pilemake_Stream_Segments_16 (d : List G) : Option (Option Nat × List G) :=
  (callF (F_pilemake_Stream_Flip [.l (gi d 0).rows, .i (gi d 1).int, .i 50]) fun g8 => (bif (gi g8 2).bool then (callF (F_pilemake_Stream_Next [.l (gi g8 0).rows, .i (gi g8 1).int, .i 4]) fun g9 => (bif ((gi g9 2).int == 0) then (callF (F_pilemake_Stream_Some [.l (gi g9 0).rows, .i (gi g9 1).int, .l [[.s (gi d 9).str], [.s (⟨#[]⟩ : ByteArray)], [.s (⟨#[65]⟩ : ByteArray)]]]) fun g10 => (callF (F_pilemake_Stream_Odd [.l (gi g10 0).rows, .i (gi g10 1).int, .i 0, .i 300]) fun g11 => (bif ((Nat.beq (gi d 8).rows.length (gi d 8).rows.length) && true) then (bif ((Nat.beq (gi d 2).rows.length (gi d 2).rows.length) && (decide (((gi d 2).rows.length + 1) ≤ 1048576))) then (bif ((Nat.beq ((gi d 2).rows ++ ([[.s (gi g10 2).str, .i (gi g11 2).int, .i (gi d 5).int, .l (gi d 8).rows, .i (gi d 6).int, .i (gi d 7).int]] : List (List G))).length ((gi d 2).rows ++ ([[.s (gi g10 2).str, .i (gi g11 2).int, .i (gi d 5).int, .l (gi d 8).rows, .i (gi d 6).int, .i (gi d 7).int]] : List (List G))).length) && true) then some (some 0, [.l (gi g11 0).rows, .i (gi g11 1).int, .l ((gi d 2).rows ++ ([[.s (gi g10 2).str, .i (gi g11 2).int, .i (gi d 5).int, .l (gi d 8).rows, .i (gi d 6).int, .i (gi d 7).int]] : List (List G))), .l (gi d 10).rows, .i (gi d 11).int, .i (gi d 12).int]) else none) else none) else none))) else (bif ((gi g9 2).int == 1) then (callF (F_pilemake_Stream_Odd [.l (gi g9 0).rows, .i (gi g9 1).int, .i 1, .i 30000000000]) fun g12 => (bif ((Nat.beq (gi d 8).rows.length (gi d 8).rows.length) && true) then (bif ((Nat.beq (gi d 2).rows.length (gi d 2).rows.length) && (decide (((gi d 2).rows.length + 1) ≤ 1048576))) then (bif ((Nat.beq ((gi d 2).rows ++ ([[.s (gi d 3).str, .i (gi d 4).int, .i (gi g12 2).int, .l (gi d 8).rows, .i (gi d 6).int, .i (gi d 7).int]] : List (List G))).length ((gi d 2).rows ++ ([[.s (gi d 3).str, .i (gi d 4).int, .i (gi g12 2).int, .l (gi d 8).rows, .i (gi d 6).int, .i (gi d 7).int]] : List (List G))).length) && true) then some (some 0, [.l (gi g12 0).rows, .i (gi g12 1).int, .l ((gi d 2).rows ++ ([[.s (gi d 3).str, .i (gi d 4).int, .i (gi g12 2).int, .l (gi d 8).rows, .i (gi d 6).int, .i (gi d 7).int]] : List (List G))), .l (gi d 10).rows, .i (gi d 11).int, .i (gi d 12).int]) else none) else none) else none)) else (bif ((gi g9 2).int == 2) then (callF (F_pilemake_Stream_Pick [.l (gi g9 0).rows, .i (gi g9 1).int, .l [[.i 0], [.i 1], [.i 3], [.i 4]]]) fun g13 => (bif ((Nat.beq (gi d 8).rows.length (gi d 8).rows.length) && (decide (((gi d 8).rows.length + 1) ≤ 1048576))) then (bif ((Nat.beq ((gi d 8).rows ++ ([[.i (gi g13 2).int]] : List (List G))).length ((gi d 8).rows ++ ([[.i (gi g13 2).int]] : List (List G))).length) && true) then (bif ((Nat.beq (gi d 2).rows.length (gi d 2).rows.length) && (decide (((gi d 2).rows.length + 1) ≤ 1048576))) then (bif ((Nat.beq ((gi d 2).rows ++ ([[.s (gi d 3).str, .i (gi d 4).int, .i (gi d 5).int, .l ((gi d 8).rows ++ ([[.i (gi g13 2).int]] : List (List G))), .i (gi d 6).int, .i (gi d 7).int]] : List (List G))).length ((gi d 2).rows ++ ([[.s (gi d 3).str, .i (gi d 4).int, .i (gi d 5).int, .l ((gi d 8).rows ++ ([[.i (gi g13 2).int]] : List (List G))), .i (gi d 6).int, .i (gi d 7).int]] : List (List G))).length) && true) then some (some 0, [.l (gi g13 0).rows, .i (gi g13 1).int, .l ((gi d 2).rows ++ ([[.s (gi d 3).str, .i (gi d 4).int, .i (gi d 5).int, .l ((gi d 8).rows ++ ([[.i (gi g13 2).int]] : List (List G))), .i (gi d 6).int, .i (gi d 7).int]] : List (List G))), .l (gi d 10).rows, .i (gi d 11).int, .i (gi d 12).int]) else none) else none) else none) else none)) else (callF (F_pilemake_Stream_Odd [.l (gi g9 0).rows, .i (gi g9 1).int, .i 0, .i 100]) fun g14 => (callF (F_pilemake_Stream_Odd [.l (gi g14 0).rows, .i (gi g14 1).int, .i 1, .i 345686400000]) fun g15 => (bif ((Nat.beq (gi d 8).rows.length (gi d 8).rows.length) && true) then (bif ((Nat.beq (gi d 2).rows.length (gi d 2).rows.length) && (decide (((gi d 2).rows.length + 1) ≤ 1048576))) then (bif ((Nat.beq ((gi d 2).rows ++ ([[.s (gi d 3).str, .i (gi d 4).int, .i (gi d 5).int, .l (gi d 8).rows, .i (gi g14 2).int, .i (gi g15 2).int]] : List (List G))).length ((gi d 2).rows ++ ([[.s (gi d 3).str, .i (gi d 4).int, .i (gi d 5).int, .l (gi d 8).rows, .i (gi g14 2).int, .i (gi g15 2).int]] : List (List G))).length) && true) then some (some 0, [.l (gi g15 0).rows, .i (gi g15 1).int, .l ((gi d 2).rows ++ ([[.s (gi d 3).str, .i (gi d 4).int, .i (gi d 5).int, .l (gi d 8).rows, .i (gi g14 2).int, .i (gi g15 2).int]] : List (List G))), .l (gi d 10).rows, .i (gi d 11).int, .i (gi d 12).int]) else none) else none) else none))))))) else (bif ((Nat.beq (gi d 8).rows.length (gi d 8).rows.length) && true) then (bif ((Nat.beq (gi d 2).rows.length (gi d 2).rows.length) && (decide (((gi d 2).rows.length + 1) ≤ 1048576))) then (bif ((Nat.beq ((gi d 2).rows ++ ([[.s (gi d 3).str, .i (gi d 4).int, .i (gi d 5).int, .l (gi d 8).rows, .i (gi d 6).int, .i (gi d 7).int]] : List (List G))).length ((gi d 2).rows ++ ([[.s (gi d 3).str, .i (gi d 4).int, .i (gi d 5).int, .l (gi d 8).rows, .i (gi d 6).int, .i (gi d 7).int]] : List (List G))).length) && true) then some (some 0, [.l (gi g8 0).rows, .i (gi g8 1).int, .l ((gi d 2).rows ++ ([[.s (gi d 3).str, .i (gi d 4).int, .i (gi d 5).int, .l (gi d 8).rows, .i (gi d 6).int, .i (gi d 7).int]] : List (List G))), .l (gi d 10).rows, .i (gi d 11).int, .i (gi d 12).int]) else none) else none) else none)))
def l_pilemake_Stream_Segments_16c : LSpec := ⟨16, [], ⟨102, [(0, .s (.ptr 0 0)), (3, .s (.vec 1 6)), (5, .s (.str)), (6, .s (.ptr 2 0)), (8, .s (.list [.str])), (9, .s (.int .i64)), (10, .s (.int .i64))], [.box [.list [.int .i64], .int .i64], .vec KSegment 0, .box [.str, .int .i64, .int .i64, .vec 3 1, .int .i64, .int .i64], .vec [.int .i64] 0]⟩, [.fix 0, .slot 3, .slot 6, .cell 2 3], [⟨.normal, ⟨102, [(0, .s (.ptr 0 0)), (3, .s (.vec 1 6)), (8, .s (.list [.str])), (9, .s (.int .i64)), (10, .s (.int .i64))], [.box [.list [.int .i64], .int .i64], .vec KSegment 0]⟩, [.fix 0, .slot 3]⟩], tl_pilemake_Stream_Segments_16⟩
theorem r_pilemake_Stream_Segments_16c : CutOK P (t21.morePf [2100022]) L_pilemake_Stream_Segments_10 1 (cutAt Tryz.f7 16) l_pilemake_Stream_Segments_16c := fun d => by kernel_rfl
def L_pilemake_Stream_Segments_16c : LT := L_pilemake_Stream_Segments_10.addCut 1 l_pilemake_Stream_Segments_16c
theorem L_pilemake_Stream_Segments_16c_ok : LoopsOK P 1 L_pilemake_Stream_Segments_16c (bodyOf Tryz.f7) := LoopsOK.addCut hm (t21_ok.morePf [2100022]) (by kernel_rfl) L_pilemake_Stream_Segments_10_ok r_pilemake_Stream_Segments_16c
def st_pilemake_Stream_Segments_3 (d : List G) : Option (Option Nat × List G) :=
  (bif (ltI (gi d 5).int (gi d 4).int) then (bif ((nnI (gi d 5).int) && (ltI (gi d 5).int (((gi d 3).rows.length : Nat) : Int))) then (callF (F_pilemake_Stream_Flip [.l (gi d 0).rows, .i (gi d 1).int, .i 5]) fun g1 => (bif (gi g1 2).bool then (bif (inI ((gi d 5).int + 1)) then (bif ((Nat.beq (gi d 2).rows.length (gi d 2).rows.length) && true) then some (none, [.l (gi g1 0).rows, .i (gi g1 1).int, .l (gi d 2).rows, .l (gi d 3).rows, .i (gi d 4).int, .i ((gi d 5).int + 1)]) else none) else none) else (callF (F_pilemake_Stream_Pick [.l (gi g1 0).rows, .i (gi g1 1).int, .l [[.i 0], [.i 100], [.i 150], [.i 200]]]) fun g2 => (callF (F_pilemake_Stream_Pick [.l (gi g2 0).rows, .i (gi g2 1).int, .l [[.i 0], [.i 0], [.i 50]]]) fun g3 => (callF (F_pilemake_Stream_Pick [.l (gi g3 0).rows, .i (gi g3 1).int, .l [[.i 20], [.i 50], [.i 100]]]) fun g4 => (bif (inI ((gi g2 2).int + (gi g4 2).int)) then (callF (F_pilemake_Stream_Pick [.l (gi g4 0).rows, .i (gi g4 1).int, .l [[.i 50], [.i 1000]]]) fun g5 => (bif (inI ((gi g3 2).int + (gi g5 2).int)) then (loopB ((Nat.beq (gi d 2).rows.length (gi d 2).rows.length) && true) (LRun st_pilemake_Stream_Segments_10 [.l (gi g5 0).rows, .i (gi g5 1).int, .l (gi d 2).rows, .s (gi ((gi d 3).rows.getD (((gi d 5).int).toNat) []) 0).str, .i (gi g2 2).int, .i ((gi g2 2).int + (gi g4 2).int), .i (gi g3 2).int, .i ((gi g3 2).int + (gi g5 2).int), .l [], .s (gi ((gi d 3).rows.getD (((gi d 5).int).toNat) []) 0).str, .i 1, .l (gi d 3).rows, .i (gi d 4).int, .i (gi d 5).int]) fun cg7 g7 => (bif ((((gi g7 8).rows.length : Nat) : Int) == 0) then (loopB ((Nat.beq (gi g7 2).rows.length (gi g7 2).rows.length) && true) (cutR (tl_pilemake_Stream_Segments_16 [.l (gi g7 0).rows, .i (gi g7 1).int, .l (gi g7 2).rows, .s (gi g7 3).str, .i (gi g7 4).int, .i (gi g7 5).int, .i (gi g7 6).int, .i (gi g7 7).int, .l [[.i 1]], .s (gi g7 9).str, .l (gi g7 10).rows, .i (gi g7 11).int, .i (gi g7 12).int])) fun cg16 g16 => (bif (inI ((gi g16 5).int + 1)) then (bif ((Nat.beq (gi g16 2).rows.length (gi g16 2).rows.length) && true) then some (none, [.l (gi g16 0).rows, .i (gi g16 1).int, .l (gi g16 2).rows, .l (gi g16 3).rows, .i (gi g16 4).int, .i ((gi g16 5).int + 1)]) else none) else none)) else (loopB ((((Nat.beq (gi g7 8).rows.length (gi g7 8).rows.length) && true) && true) && ((Nat.beq (gi g7 2).rows.length (gi g7 2).rows.length) && true)) (cutR (tl_pilemake_Stream_Segments_16 [.l (gi g7 0).rows, .i (gi g7 1).int, .l (gi g7 2).rows, .s (gi g7 3).str, .i (gi g7 4).int, .i (gi g7 5).int, .i (gi g7 6).int, .i (gi g7 7).int, .l (gi g7 8).rows, .s (gi g7 9).str, .l (gi g7 10).rows, .i (gi g7 11).int, .i (gi g7 12).int])) fun cg17 g17 => (bif (inI ((gi g17 5).int + 1)) then (bif ((Nat.beq (gi g17 2).rows.length (gi g17 2).rows.length) && true) then some (none, [.l (gi g17 0).rows, .i (gi g17 1).int, .l (gi g17 2).rows, .l (gi g17 3).rows, .i (gi g17 4).int, .i ((gi g17 5).int + 1)]) else none) else none)))) else none)) else none)))))) else none) else (bif ((Nat.beq (gi d 2).rows.length (gi d 2).rows.length) && true) then some (some 0, [.l (gi d 0).rows, .i (gi d 1).int, .l (gi d 2).rows]) else none))
def l_pilemake_Stream_Segments_3 : LSpec := ⟨3, [(3, KSegment)], ⟨102, [(0, .s (.ptr 0 0)), (3, .s (.vec 1 6)), (8, .s (.list [.str])), (9, .s (.int .i64)), (10, .s (.int .i64))], [.box [.list [.int .i64], .int .i64], .vec KSegment 0]⟩, [.fix 0, .slot 3], [⟨.exit 0, ⟨102, [(3, .s (.vec 1 6))], [.box [.list [.int .i64], .int .i64], .vec KSegment 0]⟩, [.fix 0, .slot 3]⟩], st_pilemake_Stream_Segments_3⟩
theorem r_pilemake_Stream_Segments_3 : RoundOK P (t21.morePf [2100022]) L_pilemake_Stream_Segments_16c 1 (loopAt Tryz.f7 3) l_pilemake_Stream_Segments_3 := fun d => by kernel_rfl
def L_pilemake_Stream_Segments_3 : LT := L_pilemake_Stream_Segments_16c.add 1 l_pilemake_Stream_Segments_3
theorem L_pilemake_Stream_Segments_3_ok : LoopsOK P 1 L_pilemake_Stream_Segments_3 (bodyOf Tryz.f7) := LoopsOK.add hm (t21_ok.morePf [2100022]) (by kernel_rfl) L_pilemake_Stream_Segments_16c_ok r_pilemake_Stream_Segments_3
def F_pilemake_Stream_Segments (d : List G) : Option (List G) :=
  (loopB true (LRun st_pilemake_Stream_Segments_3 [.l (gi d 0).rows, .i (gi d 1).int, .l [], .l [[.s (⟨#[102, 117, 108, 108]⟩ : ByteArray)], [.s (⟨#[102, 117, 108, 108]⟩ : ByteArray)], [.s (⟨#[102, 117, 108, 108]⟩ : ByteArray)], [.s (⟨#[115, 109, 97, 108, 108]⟩ : ByteArray)]], .i 4, .i 0]) fun cg18 g18 => (callB (((Nat.beq (gi g18 2).rows.length (gi g18 2).rows.length) && true) && (F_slices_SortStableFunc_Segment [.l (gi g18 2).rows]).isSome) (F_slices_SortStableFunc_Segment [.l (gi g18 2).rows]) fun g19 => (bif ((Nat.beq (gi g18 2).rows.length (gi g19 0).rows.length) && true) then some [.l (gi g18 0).rows, .i (gi g18 1).int, .l (gi g19 0).rows] else none)))
def s_pilemake_Stream_Segments : FSpec := ⟨7, [.s (.ptr 0 0)], [.box [.list [.int .i64], .int .i64]], [.slot 0], [.s (.list KSegment)], [.box [.list [.int .i64], .int .i64]], [.fix 0], [], F_pilemake_Stream_Segments⟩
theorem b_pilemake_Stream_Segments : BodyOK P (t21.morePf [2100022]) L_pilemake_Stream_Segments_3 Tryz.f7 s_pilemake_Stream_Segments := fun d => by kernel_rfl
theorem c_pilemake_Stream_Segments : ∀ d r, F_pilemake_Stream_Segments d = some r → ACallX P 7 (s_pilemake_Stream_Segments.args0 d) (denH (s_pilemake_Stream_Segments.H0 d)) (s_pilemake_Stream_Segments.out r) (denH (s_pilemake_Stream_Segments.H1 r)) := fun d r h => body_sound hm (t21_ok.morePf [2100022]) (sp := s_pilemake_Stream_Segments) Tryz.func7 (by kernel_rfl) L_pilemake_Stream_Segments_3_ok b_pilemake_Stream_Segments (by kernel_rfl) h
def t22 : Tab := t21.addW s_pilemake_Stream_Segments
theorem t22_ok : TabOK P t22 := t21_ok.addW (by kernel_rfl) (by kernel_rfl) c_pilemake_Stream_Segments

/- (*pileup/pilemake.Stream).Busies$1 -/
def F_pilemake_Stream_Busies_1 (d : List G) : Option (List G) :=
  (callF (F_slices_Compare_int [.l [[.i (gi (gi d 0).row 3).int], [.i (gi (gi d 0).row 1).int]], .l [[.i (gi (gi d 1).row 3).int], [.i (gi (gi d 1).row 1).int]]]) fun g1 => some [.i (gi g1 0).int])
def s_pilemake_Stream_Busies_1 : FSpec := ⟨51, [.s (.row KBusy), .s (.row KBusy)], [], [], [.s (.int .i64)], [], [], [], F_pilemake_Stream_Busies_1⟩
theorem b_pilemake_Stream_Busies_1 : BodyOK P t22 noLoops Tryz.f51 s_pilemake_Stream_Busies_1 := fun d => by kernel_rfl
theorem c_pilemake_Stream_Busies_1 : ∀ d r, F_pilemake_Stream_Busies_1 d = some r → ACallX P 51 (s_pilemake_Stream_Busies_1.args0 d) (denH (s_pilemake_Stream_Busies_1.H0 d)) (s_pilemake_Stream_Busies_1.out r) (denH (s_pilemake_Stream_Busies_1.H1 r)) := fun d r h => body_sound hm t22_ok (sp := s_pilemake_Stream_Busies_1) Tryz.func51 (by kernel_rfl) (noLoops_ok _ _ _) b_pilemake_Stream_Busies_1 (by kernel_rfl) h
def t23 : Tab := t22.addP s_pilemake_Stream_Busies_1
theorem t23_ok : TabOK P t23 := t22_ok.addP (by kernel_rfl) (by kernel_rfl) c_pilemake_Stream_Busies_1

/- slices.insertionSortCmpFunc[pileup/api.Busy] -/
def st_slices_insertionSortCmpFunc_Busy_4 (d : List G) : Option (Option Nat × List G) :=
  (bif (ltI (gi d 1).int (gi d 4).int) then (bif ((nnI (gi d 4).int) && (ltI (gi d 4).int (((gi d 0).rows.length : Nat) : Int))) then (bif (decide ((0 + ((gi d 4).int).toNat) < (gi d 0).rows.length)) then (bif (inI ((gi d 4).int - 1)) then (bif ((nnI ((gi d 4).int - 1)) && (ltI ((gi d 4).int - 1) (((gi d 0).rows.length : Nat) : Int))) then (bif (decide ((0 + ((gi d 4).int - 1).toNat) < (gi d 0).rows.length)) then (callF (F_pilemake_Stream_Busies_1 [.l [(gEta KBusy ((gi d 0).rows.getD (0 + ((gi d 4).int).toNat) []))], .l [(gEta KBusy ((gi d 0).rows.getD (0 + ((gi d 4).int - 1).toNat) []))]]) fun g1 => (bif (ltI (gi g1 0).int 0) then (bif (inI ((gi d 4).int - 1)) then (bif (inI ((gi d 4).int - 1)) then (bif ((nnI ((gi d 4).int - 1)) && (ltI ((gi d 4).int - 1) (((gi d 0).rows.length : Nat) : Int))) then (bif (decide ((0 + ((gi d 4).int - 1).toNat) < (gi d 0).rows.length)) then (bif ((nnI (gi d 4).int) && (ltI (gi d 4).int (((gi d 0).rows.length : Nat) : Int))) then (bif (decide ((0 + ((gi d 4).int).toNat) < (gi d 0).rows.length)) then (bif ((nnI (gi d 4).int) && (ltI (gi d 4).int (((gi d 0).rows.length : Nat) : Int))) then (bif (decide ((0 + ((gi d 4).int).toNat) < (gi d 0).rows.length)) then (bif ((nnI ((gi d 4).int - 1)) && (ltI ((gi d 4).int - 1) (((gi d 0).rows.length : Nat) : Int))) then (bif (decide ((0 + ((gi d 4).int - 1).toNat) < ((gi d 0).rows.set (0 + ((gi d 4).int).toNat) (putG KBusy ((gi d 0).rows.getD (0 + ((gi d 4).int).toNat) []) 0 (gEta KBusy ((gi d 0).rows.getD (0 + ((gi d 4).int - 1).toNat) [])))).length)) then (bif (inI ((gi d 4).int - 1)) then (bif ((Nat.beq (gi d 0).rows.length (((gi d 0).rows.set (0 + ((gi d 4).int).toNat) (putG KBusy ((gi d 0).rows.getD (0 + ((gi d 4).int).toNat) []) 0 (gEta KBusy ((gi d 0).rows.getD (0 + ((gi d 4).int - 1).toNat) [])))).set (0 + ((gi d 4).int - 1).toNat) (putG KBusy (((gi d 0).rows.set (0 + ((gi d 4).int).toNat) (putG KBusy ((gi d 0).rows.getD (0 + ((gi d 4).int).toNat) []) 0 (gEta KBusy ((gi d 0).rows.getD (0 + ((gi d 4).int - 1).toNat) [])))).getD (0 + ((gi d 4).int - 1).toNat) []) 0 (gEta KBusy ((gi d 0).rows.getD (0 + ((gi d 4).int).toNat) [])))).length) && true) then some (none, [.l (((gi d 0).rows.set (0 + ((gi d 4).int).toNat) (putG KBusy ((gi d 0).rows.getD (0 + ((gi d 4).int).toNat) []) 0 (gEta KBusy ((gi d 0).rows.getD (0 + ((gi d 4).int - 1).toNat) [])))).set (0 + ((gi d 4).int - 1).toNat) (putG KBusy (((gi d 0).rows.set (0 + ((gi d 4).int).toNat) (putG KBusy ((gi d 0).rows.getD (0 + ((gi d 4).int).toNat) []) 0 (gEta KBusy ((gi d 0).rows.getD (0 + ((gi d 4).int - 1).toNat) [])))).getD (0 + ((gi d 4).int - 1).toNat) []) 0 (gEta KBusy ((gi d 0).rows.getD (0 + ((gi d 4).int).toNat) [])))), .i (gi d 1).int, .i (gi d 2).int, .i (gi d 3).int, .i ((gi d 4).int - 1)]) else none) else none) else none) else none) else none) else none) else none) else none) else none) else none) else none) else none) else (bif ((Nat.beq (gi d 0).rows.length (gi d 0).rows.length) && true) then some (some 0, [.l (gi d 0).rows, .i (gi d 1).int, .i (gi d 2).int, .i (gi d 3).int]) else none))) else none) else none) else none) else none) else none) else (bif ((Nat.beq (gi d 0).rows.length (gi d 0).rows.length) && true) then some (some 0, [.l (gi d 0).rows, .i (gi d 1).int, .i (gi d 2).int, .i (gi d 3).int]) else none))
def l_slices_insertionSortCmpFunc_Busy_4 : LSpec := ⟨4, [], ⟨53, [(0, .s (.vec 0 5)), (1, .s (.int .i64)), (2, .s (.int .i64)), (3, .s (.fn 51)), (8, .s (.int .i64)), (9, .s (.int .i64))], [.vec KBusy 0]⟩, [.fix 0], [⟨.exit 2, ⟨53, [(0, .s (.vec 0 5)), (1, .s (.int .i64)), (2, .s (.int .i64)), (3, .s (.fn 51)), (8, .s (.int .i64))], [.vec KBusy 0]⟩, [.fix 0]⟩], st_slices_insertionSortCmpFunc_Busy_4⟩
theorem r_slices_insertionSortCmpFunc_Busy_4 : RoundOK P t23 noLoops 1 (loopAt Tryz.f114 4) l_slices_insertionSortCmpFunc_Busy_4 := fun d => by kernel_rfl
def L_slices_insertionSortCmpFunc_Busy_4 : LT := noLoops.add 1 l_slices_insertionSortCmpFunc_Busy_4
theorem L_slices_insertionSortCmpFunc_Busy_4_ok : LoopsOK P 1 L_slices_insertionSortCmpFunc_Busy_4 (bodyOf Tryz.f114) := LoopsOK.add hm t23_ok (by kernel_rfl) (noLoops_ok _ _ _) r_slices_insertionSortCmpFunc_Busy_4
def st_slices_insertionSortCmpFunc_Busy_1 (d : List G) : Option (Option Nat × List G) :=
  (bif (ltI (gi d 3).int (gi d 2).int) then (loopB ((Nat.beq (gi d 0).rows.length (gi d 0).rows.length) && true) (LRun st_slices_insertionSortCmpFunc_Busy_4 [.l (gi d 0).rows, .i (gi d 1).int, .i (gi d 2).int, .i (gi d 3).int, .i (gi d 3).int]) fun cg2 g2 => (bif (inI ((gi g2 3).int + 1)) then (bif ((Nat.beq (gi g2 0).rows.length (gi g2 0).rows.length) && true) then some (none, [.l (gi g2 0).rows, .i (gi g2 1).int, .i (gi g2 2).int, .i ((gi g2 3).int + 1)]) else none) else none)) else some (some 0, [.l (gi d 0).rows]))
def l_slices_insertionSortCmpFunc_Busy_1 : LSpec := ⟨1, [], ⟨53, [(0, .s (.vec 0 5)), (1, .s (.int .i64)), (2, .s (.int .i64)), (3, .s (.fn 51)), (8, .s (.int .i64))], [.vec KBusy 0]⟩, [.fix 0], [⟨.exit 0, ⟨53, [], [.vec KBusy 0]⟩, [.fix 0]⟩], st_slices_insertionSortCmpFunc_Busy_1⟩
theorem r_slices_insertionSortCmpFunc_Busy_1 : RoundOK P t23 L_slices_insertionSortCmpFunc_Busy_4 1 (loopAt Tryz.f114 1) l_slices_insertionSortCmpFunc_Busy_1 := fun d => by kernel_rfl
def L_slices_insertionSortCmpFunc_Busy_1 : LT := L_slices_insertionSortCmpFunc_Busy_4.add 1 l_slices_insertionSortCmpFunc_Busy_1
theorem L_slices_insertionSortCmpFunc_Busy_1_ok : LoopsOK P 1 L_slices_insertionSortCmpFunc_Busy_1 (bodyOf Tryz.f114) := LoopsOK.add hm t23_ok (by kernel_rfl) L_slices_insertionSortCmpFunc_Busy_4_ok r_slices_insertionSortCmpFunc_Busy_1
def F_slices_insertionSortCmpFunc_Busy (d : List G) : Option (List G) :=
  (bif (inI ((gi d 1).int + 1)) then (loopB ((Nat.beq (gi d 0).rows.length (gi d 0).rows.length) && true) (LRun st_slices_insertionSortCmpFunc_Busy_1 [.l (gi d 0).rows, .i (gi d 1).int, .i (gi d 2).int, .i ((gi d 1).int + 1)]) fun cg3 g3 => some [.l (gi g3 0).rows]) else none)
def s_slices_insertionSortCmpFunc_Busy : FSpec := ⟨114, [.s (.vec 0 5), .s (.int .i64), .s (.int .i64), .s (.fn 51)], [.vec KBusy 0], [.slot 0], [], [.vec KBusy 0], [.fix 0], [], F_slices_insertionSortCmpFunc_Busy⟩
theorem b_slices_insertionSortCmpFunc_Busy : BodyOK P t23 L_slices_insertionSortCmpFunc_Busy_1 Tryz.f114 s_slices_insertionSortCmpFunc_Busy := fun d => by kernel_rfl
theorem c_slices_insertionSortCmpFunc_Busy : ∀ d r, F_slices_insertionSortCmpFunc_Busy d = some r → ACallX P 114 (s_slices_insertionSortCmpFunc_Busy.args0 d) (denH (s_slices_insertionSortCmpFunc_Busy.H0 d)) (s_slices_insertionSortCmpFunc_Busy.out r) (denH (s_slices_insertionSortCmpFunc_Busy.H1 r)) := fun d r h => body_sound hm t23_ok (sp := s_slices_insertionSortCmpFunc_Busy) Tryz.func114 (by kernel_rfl) L_slices_insertionSortCmpFunc_Busy_1_ok b_slices_insertionSortCmpFunc_Busy (by kernel_rfl) h
def t24 : Tab := t23.addW s_slices_insertionSortCmpFunc_Busy
theorem t24_ok : TabOK P t24 := t23_ok.addW (by kernel_rfl) (by kernel_rfl) c_slices_insertionSortCmpFunc_Busy

/- slices.stableCmpFunc[pileup/api.Busy] -/
/- not followed: a call of slices.symMergeCmpFunc[pileup/api.Busy] at zsortanyfunc.go:348; a call of slices.symMergeCmpFunc[pileup/api.Busy] at zsortanyfunc.go:353 -/
def st_slices_stableCmpFunc_Busy_2 (d : List G) : Option (Option Nat × List G) :=
  (bif (leI (gi d 4).int (gi d 1).int) then (callB (((Nat.beq (gi d 0).rows.length (gi d 0).rows.length) && true) && (F_slices_insertionSortCmpFunc_Busy [.l (gi d 0).rows, .i (gi d 3).int, .i (gi d 4).int]).isSome) (F_slices_insertionSortCmpFunc_Busy [.l (gi d 0).rows, .i (gi d 3).int, .i (gi d 4).int]) fun g1 => (bif (inI ((gi d 4).int + (gi d 2).int)) then (bif ((Nat.beq (gi d 0).rows.length (gi g1 0).rows.length) && true) then some (none, [.l (gi g1 0).rows, .i (gi d 1).int, .i (gi d 2).int, .i (gi d 4).int, .i ((gi d 4).int + (gi d 2).int)]) else none) else none)) else (bif ((Nat.beq (gi d 0).rows.length (gi d 0).rows.length) && true) then some (some 0, [.l (gi d 0).rows, .i (gi d 1).int, .i (gi d 2).int, .i (gi d 3).int]) else none))
def l_slices_stableCmpFunc_Busy_2 : LSpec := ⟨2, [], ⟨63, [(0, .s (.vec 0 5)), (1, .s (.int .i64)), (2, .s (.fn 51)), (6, .s (.int .i64)), (7, .s (.int .i64)), (8, .s (.int .i64))], [.vec KBusy 0]⟩, [.fix 0], [⟨.exit 0, ⟨63, [(0, .s (.vec 0 5)), (1, .s (.int .i64)), (2, .s (.fn 51)), (6, .s (.int .i64)), (7, .s (.int .i64))], [.vec KBusy 0]⟩, [.fix 0]⟩], st_slices_stableCmpFunc_Busy_2⟩
theorem r_slices_stableCmpFunc_Busy_2 : RoundOK P t24 noLoops 1 (loopAt Tryz.f90 2) l_slices_stableCmpFunc_Busy_2 := fun d => by kernel_rfl
def L_slices_stableCmpFunc_Busy_2 : LT := noLoops.add 1 l_slices_stableCmpFunc_Busy_2
theorem L_slices_stableCmpFunc_Busy_2_ok : LoopsOK P 1 L_slices_stableCmpFunc_Busy_2 (bodyOf Tryz.f90) := LoopsOK.add hm t24_ok (by kernel_rfl) (noLoops_ok _ _ _) r_slices_stableCmpFunc_Busy_2
def st_slices_stableCmpFunc_Busy_9 (d : List G) : Option (Option Nat × List G) :=
  (bif (leI (gi d 4).int (gi d 1).int) then (bif (inI ((gi d 3).int + (gi d 2).int)) then none else none) else (bif ((Nat.beq (gi d 0).rows.length (gi d 0).rows.length) && true) then some (some 0, [.l (gi d 0).rows, .i (gi d 1).int, .i (gi d 2).int, .i (gi d 3).int]) else none))
def l_slices_stableCmpFunc_Busy_9 : LSpec := ⟨9, [], ⟨63, [(0, .s (.vec 0 5)), (1, .s (.int .i64)), (2, .s (.fn 51)), (6, .s (.int .i64)), (7, .s (.int .i64)), (8, .s (.int .i64))], [.vec KBusy 0]⟩, [.fix 0], [⟨.exit 4, ⟨63, [(0, .s (.vec 0 5)), (1, .s (.int .i64)), (2, .s (.fn 51)), (6, .s (.int .i64)), (7, .s (.int .i64))], [.vec KBusy 0]⟩, [.fix 0]⟩], st_slices_stableCmpFunc_Busy_9⟩
theorem r_slices_stableCmpFunc_Busy_9 : RoundOK P t24 L_slices_stableCmpFunc_Busy_2 1 (loopAt Tryz.f90 9) l_slices_stableCmpFunc_Busy_9 := fun d => by kernel_rfl
def L_slices_stableCmpFunc_Busy_9 : LT := L_slices_stableCmpFunc_Busy_2.add 1 l_slices_stableCmpFunc_Busy_9
theorem L_slices_stableCmpFunc_Busy_9_ok : LoopsOK P 1 L_slices_stableCmpFunc_Busy_9 (bodyOf Tryz.f90) := LoopsOK.add hm t24_ok (by kernel_rfl) L_slices_stableCmpFunc_Busy_2_ok r_slices_stableCmpFunc_Busy_9
def st_slices_stableCmpFunc_Busy_7 (d : List G) : Option (Option Nat × List G) :=
  (bif (ltI (gi d 2).int (gi d 1).int) then (bif (inI (2 * (gi d 2).int)) then (loopB ((Nat.beq (gi d 0).rows.length (gi d 0).rows.length) && true) (LRun st_slices_stableCmpFunc_Busy_9 [.l (gi d 0).rows, .i (gi d 1).int, .i (gi d 2).int, .i 0, .i (2 * (gi d 2).int)]) fun cg4 g4 => (bif (inI ((gi g4 3).int + (gi g4 2).int)) then (bif (ltI ((gi g4 3).int + (gi g4 2).int) (gi g4 1).int) then none else (bif (inI ((gi g4 2).int * 2)) then (bif ((Nat.beq (gi g4 0).rows.length (gi g4 0).rows.length) && true) then some (none, [.l (gi g4 0).rows, .i (gi g4 1).int, .i ((gi g4 2).int * 2)]) else none) else none)) else none)) else none) else some (some 0, [.l (gi d 0).rows]))
def l_slices_stableCmpFunc_Busy_7 : LSpec := ⟨7, [], ⟨63, [(0, .s (.vec 0 5)), (1, .s (.int .i64)), (2, .s (.fn 51)), (6, .s (.int .i64))], [.vec KBusy 0]⟩, [.fix 0], [⟨.exit 2, ⟨63, [], [.vec KBusy 0]⟩, [.fix 0]⟩], st_slices_stableCmpFunc_Busy_7⟩
theorem r_slices_stableCmpFunc_Busy_7 : RoundOK P t24 L_slices_stableCmpFunc_Busy_9 1 (loopAt Tryz.f90 7) l_slices_stableCmpFunc_Busy_7 := fun d => by kernel_rfl
def L_slices_stableCmpFunc_Busy_7 : LT := L_slices_stableCmpFunc_Busy_9.add 1 l_slices_stableCmpFunc_Busy_7
theorem L_slices_stableCmpFunc_Busy_7_ok : LoopsOK P 1 L_slices_stableCmpFunc_Busy_7 (bodyOf Tryz.f90) := LoopsOK.add hm t24_ok (by kernel_rfl) L_slices_stableCmpFunc_Busy_9_ok r_slices_stableCmpFunc_Busy_7
def F_slices_stableCmpFunc_Busy (d : List G) : Option (List G) :=
  (loopB ((Nat.beq (gi d 0).rows.length (gi d 0).rows.length) && true) (LRun st_slices_stableCmpFunc_Busy_2 [.l (gi d 0).rows, .i (gi d 1).int, .i 20, .i 0, .i 20]) fun cg2 g2 => (callB (((Nat.beq (gi g2 0).rows.length (gi g2 0).rows.length) && true) && (F_slices_insertionSortCmpFunc_Busy [.l (gi g2 0).rows, .i (gi g2 3).int, .i (gi g2 1).int]).isSome) (F_slices_insertionSortCmpFunc_Busy [.l (gi g2 0).rows, .i (gi g2 3).int, .i (gi g2 1).int]) fun g3 => (loopB ((Nat.beq (gi g2 0).rows.length (gi g3 0).rows.length) && true) (LRun st_slices_stableCmpFunc_Busy_7 [.l (gi g3 0).rows, .i (gi g2 1).int, .i (gi g2 2).int]) fun cg5 g5 => some [.l (gi g5 0).rows])))
def s_slices_stableCmpFunc_Busy : FSpec := ⟨90, [.s (.vec 0 5), .s (.int .i64), .s (.fn 51)], [.vec KBusy 0], [.slot 0], [], [.vec KBusy 0], [.fix 0], [], F_slices_stableCmpFunc_Busy⟩
theorem b_slices_stableCmpFunc_Busy : BodyOK P t24 L_slices_stableCmpFunc_Busy_7 Tryz.f90 s_slices_stableCmpFunc_Busy := fun d => by kernel_rfl
theorem c_slices_stableCmpFunc_Busy : ∀ d r, F_slices_stableCmpFunc_Busy d = some r → ACallX P 90 (s_slices_stableCmpFunc_Busy.args0 d) (denH (s_slices_stableCmpFunc_Busy.H0 d)) (s_slices_stableCmpFunc_Busy.out r) (denH (s_slices_stableCmpFunc_Busy.H1 r)) := fun d r h => body_sound hm t24_ok (sp := s_slices_stableCmpFunc_Busy) Tryz.func90 (by kernel_rfl) L_slices_stableCmpFunc_Busy_7_ok b_slices_stableCmpFunc_Busy (by kernel_rfl) h
def t25 : Tab := t24.addW s_slices_stableCmpFunc_Busy
theorem t25_ok : TabOK P t25 := t24_ok.addW (by kernel_rfl) (by kernel_rfl) c_slices_stableCmpFunc_Busy

/- slices.SortStableFunc[[]pileup/api.Busy,pileup/api.Busy] -/
def F_slices_SortStableFunc_Busy (d : List G) : Option (List G) :=
  (callB (((Nat.beq (gi d 0).rows.length (gi d 0).rows.length) && true) && (F_slices_stableCmpFunc_Busy [.l (gi d 0).rows, .i (((gi d 0).rows.length : Nat) : Int)]).isSome) (F_slices_stableCmpFunc_Busy [.l (gi d 0).rows, .i (((gi d 0).rows.length : Nat) : Int)]) fun g1 => some [.l (gi g1 0).rows])
def s_slices_SortStableFunc_Busy : FSpec := ⟨50, [.s (.vec 0 5), .s (.fn 51)], [.vec KBusy 0], [.slot 0], [], [.vec KBusy 0], [.fix 0], [], F_slices_SortStableFunc_Busy⟩
theorem b_slices_SortStableFunc_Busy : BodyOK P t25 noLoops Tryz.f50 s_slices_SortStableFunc_Busy := fun d => by kernel_rfl
theorem c_slices_SortStableFunc_Busy : ∀ d r, F_slices_SortStableFunc_Busy d = some r → ACallX P 50 (s_slices_SortStableFunc_Busy.args0 d) (denH (s_slices_SortStableFunc_Busy.H0 d)) (s_slices_SortStableFunc_Busy.out r) (denH (s_slices_SortStableFunc_Busy.H1 r)) := fun d r h => body_sound hm t25_ok (sp := s_slices_SortStableFunc_Busy) Tryz.func50 (by kernel_rfl) (noLoops_ok _ _ _) b_slices_SortStableFunc_Busy (by kernel_rfl) h
def t26 : Tab := t25.addW s_slices_SortStableFunc_Busy
theorem t26_ok : TabOK P t26 := t25_ok.addW (by kernel_rfl) (by kernel_rfl) c_slices_SortStableFunc_Busy

/- (*pileup/pilemake.Stream).Busies -/
def st_pilemake_Stream_Busies_3 (d : List G) : Option (Option Nat × List G) :=
  (bif (ltI (gi d 4).int (gi d 3).int) then (callF (F_pilemake_Stream_Some [.l (gi d 0).rows, .i (gi d 1).int, .l [[.s (⟨#[107, 49, 97, 98]⟩ : ByteArray)], [.s (⟨#[111, 104, 50, 97, 98, 99]⟩ : ByteArray)], [.s (⟨#[119, 49, 97, 119]⟩ : ByteArray)], [.s (⟨#[107, 49, 97, 98]⟩ : ByteArray)]]]) fun g2 => (callF (F_pilemake_Stream_Range [.l (gi g2 0).rows, .i (gi g2 1).int, .i 90, .i 320]) fun g3 => (callF (F_pilemake_Stream_Pick [.l (gi g3 0).rows, .i (gi g3 1).int, .l [[.i 1], [.i 2], [.i 3], [.i 20], [.i 50]]]) fun g4 => (callF (F_pilemake_Stream_Pick [.l (gi g4 0).rows, .i (gi g4 1).int, .l [[.i 0], [.i 10], [.i 40], [.i 60]]]) fun g5 => (callF (F_pilemake_Stream_Pick [.l (gi g5 0).rows, .i (gi g5 1).int, .l [[.i 10], [.i 50], [.i 100]]]) fun g6 => (bif (inI ((gi g5 2).int + (gi g6 2).int)) then (callF (F_pilemake_Stream_Flip [.l (gi g6 0).rows, .i (gi g6 1).int, .i 60]) fun g7 => (bif (gi g7 2).bool then (callF (F_pilemake_Stream_Some [.l (gi g7 0).rows, .i (gi g7 1).int, .l [[.s (gi g2 2).str], [.s (⟨#[]⟩ : ByteArray)]]]) fun g8 => (callF (F_pilemake_Stream_Odd [.l (gi g8 0).rows, .i (gi g8 1).int, .i 0, .i 30000000000]) fun g9 => (callF (F_pilemake_Stream_Odd [.l (gi g9 0).rows, .i (gi g9 1).int, .i 1, .i 100000]) fun g10 => (callF (F_pilemake_Stream_Odd [.l (gi g10 0).rows, .i (gi g10 1).int, .i 1, .i 100]) fun g11 => (bif ((Nat.beq (gi d 2).rows.length (gi d 2).rows.length) && (decide (((gi d 2).rows.length + 1) ≤ 1048576))) then (bif (inI ((gi d 4).int + 1)) then (bif ((Nat.beq ((gi d 2).rows ++ ([[.s (gi g8 2).str, .i (gi g9 2).int, .i (gi g10 2).int, .i (gi g5 2).int, .i (gi g11 2).int]] : List (List G))).length ((gi d 2).rows ++ ([[.s (gi g8 2).str, .i (gi g9 2).int, .i (gi g10 2).int, .i (gi g5 2).int, .i (gi g11 2).int]] : List (List G))).length) && true) then some (none, [.l (gi g11 0).rows, .i (gi g11 1).int, .l ((gi d 2).rows ++ ([[.s (gi g8 2).str, .i (gi g9 2).int, .i (gi g10 2).int, .i (gi g5 2).int, .i (gi g11 2).int]] : List (List G))), .i (gi d 3).int, .i ((gi d 4).int + 1)]) else none) else none) else none))))) else (bif ((Nat.beq (gi d 2).rows.length (gi d 2).rows.length) && (decide (((gi d 2).rows.length + 1) ≤ 1048576))) then (bif (inI ((gi d 4).int + 1)) then (bif ((Nat.beq ((gi d 2).rows ++ ([[.s (gi g2 2).str, .i (gi g3 2).int, .i (gi g4 2).int, .i (gi g5 2).int, .i ((gi g5 2).int + (gi g6 2).int)]] : List (List G))).length ((gi d 2).rows ++ ([[.s (gi g2 2).str, .i (gi g3 2).int, .i (gi g4 2).int, .i (gi g5 2).int, .i ((gi g5 2).int + (gi g6 2).int)]] : List (List G))).length) && true) then some (none, [.l (gi g7 0).rows, .i (gi g7 1).int, .l ((gi d 2).rows ++ ([[.s (gi g2 2).str, .i (gi g3 2).int, .i (gi g4 2).int, .i (gi g5 2).int, .i ((gi g5 2).int + (gi g6 2).int)]] : List (List G))), .i (gi d 3).int, .i ((gi d 4).int + 1)]) else none) else none) else none))) else none)))))) else (bif ((Nat.beq (gi d 2).rows.length (gi d 2).rows.length) && true) then some (some 0, [.l (gi d 0).rows, .i (gi d 1).int, .l (gi d 2).rows]) else none))
def l_pilemake_Stream_Busies_3 : LSpec := ⟨3, [(3, KBusy)], ⟨57, [(0, .s (.ptr 0 0)), (3, .s (.vec 1 5)), (6, .s (.int .i64)), (7, .s (.int .i64))], [.box [.list [.int .i64], .int .i64], .vec KBusy 0]⟩, [.fix 0, .slot 3], [⟨.exit 0, ⟨57, [(3, .s (.vec 1 5))], [.box [.list [.int .i64], .int .i64], .vec KBusy 0]⟩, [.fix 0, .slot 3]⟩], st_pilemake_Stream_Busies_3⟩
theorem r_pilemake_Stream_Busies_3 : RoundOK P t26 noLoops 1 (loopAt Tryz.f8 3) l_pilemake_Stream_Busies_3 := fun d => by kernel_rfl
def L_pilemake_Stream_Busies_3 : LT := noLoops.add 1 l_pilemake_Stream_Busies_3
theorem L_pilemake_Stream_Busies_3_ok : LoopsOK P 1 L_pilemake_Stream_Busies_3 (bodyOf Tryz.f8) := LoopsOK.add hm t26_ok (by kernel_rfl) (noLoops_ok _ _ _) r_pilemake_Stream_Busies_3
def F_pilemake_Stream_Busies (d : List G) : Option (List G) :=
  (callF (F_pilemake_Stream_Range [.l (gi d 0).rows, .i (gi d 1).int, .i 0, .i 6]) fun g1 => (loopB true (LRun st_pilemake_Stream_Busies_3 [.l (gi g1 0).rows, .i (gi g1 1).int, .l [], .i (gi g1 2).int, .i 0]) fun cg12 g12 => (callB (((Nat.beq (gi g12 2).rows.length (gi g12 2).rows.length) && true) && (F_slices_SortStableFunc_Busy [.l (gi g12 2).rows]).isSome) (F_slices_SortStableFunc_Busy [.l (gi g12 2).rows]) fun g13 => (bif ((Nat.beq (gi g12 2).rows.length (gi g13 0).rows.length) && true) then some [.l (gi g12 0).rows, .i (gi g12 1).int, .l (gi g13 0).rows] else none))))
def s_pilemake_Stream_Busies : FSpec := ⟨8, [.s (.ptr 0 0)], [.box [.list [.int .i64], .int .i64]], [.slot 0], [.s (.list KBusy)], [.box [.list [.int .i64], .int .i64]], [.fix 0], [], F_pilemake_Stream_Busies⟩
theorem b_pilemake_Stream_Busies : BodyOK P t26 L_pilemake_Stream_Busies_3 Tryz.f8 s_pilemake_Stream_Busies := fun d => by kernel_rfl
theorem c_pilemake_Stream_Busies : ∀ d r, F_pilemake_Stream_Busies d = some r → ACallX P 8 (s_pilemake_Stream_Busies.args0 d) (denH (s_pilemake_Stream_Busies.H0 d)) (s_pilemake_Stream_Busies.out r) (denH (s_pilemake_Stream_Busies.H1 r)) := fun d r h => body_sound hm t26_ok (sp := s_pilemake_Stream_Busies) Tryz.func8 (by kernel_rfl) L_pilemake_Stream_Busies_3_ok b_pilemake_Stream_Busies (by kernel_rfl) h
def t27 : Tab := t26.addW s_pilemake_Stream_Busies
theorem t27_ok : TabOK P t27 := t26_ok.addW (by kernel_rfl) (by kernel_rfl) c_pilemake_Stream_Busies

/- (*pileup/pilemake.Stream).Wide -/
def F_pilemake_Stream_Wide (d : List G) : Option (List G) :=
  (callF (F_pilemake_Stream_Pick [.l (gi d 0).rows, .i (gi d 1).int, .l [[.i 1], [.i 2], [.i 3], [.i 4], [.i 10], [.i 10], [.i 25], [.i 101], [.i 0], [.i 100000], [.i 100001]]]) fun g1 => some [.l (gi g1 0).rows, .i (gi g1 1).int, .i (gi g1 2).int])
def s_pilemake_Stream_Wide : FSpec := ⟨18, [.s (.ptr 0 0)], [.box [.list [.int .i64], .int .i64]], [.slot 0], [.s (.int .i64)], [.box [.list [.int .i64], .int .i64]], [.fix 0], [], F_pilemake_Stream_Wide⟩
theorem b_pilemake_Stream_Wide : BodyOK P t27 noLoops Tryz.f18 s_pilemake_Stream_Wide := fun d => by kernel_rfl
theorem c_pilemake_Stream_Wide : ∀ d r, F_pilemake_Stream_Wide d = some r → ACallX P 18 (s_pilemake_Stream_Wide.args0 d) (denH (s_pilemake_Stream_Wide.H0 d)) (s_pilemake_Stream_Wide.out r) (denH (s_pilemake_Stream_Wide.H1 r)) := fun d r h => body_sound hm t27_ok (sp := s_pilemake_Stream_Wide) Tryz.func18 (by kernel_rfl) (noLoops_ok _ _ _) b_pilemake_Stream_Wide (by kernel_rfl) h
def t28 : Tab := t27.addW s_pilemake_Stream_Wide
theorem t28_ok : TabOK P t28 := t27_ok.addW (by kernel_rfl) (by kernel_rfl) c_pilemake_Stream_Wide

/- (*pileup/pilemake.Stream).Near -/
def F_pilemake_Stream_Near (d : List G) : Option (List G) :=
  (callF (F_pilemake_Stream_Flip [.l (gi d 0).rows, .i (gi d 1).int, .i 20]) fun g1 => (bif (gi g1 2).bool then (callF (F_pilemake_Stream_Odd [.l (gi g1 0).rows, .i (gi g1 1).int, .i 0, .i 30000000000]) fun g2 => some [.l (gi g2 0).rows, .i (gi g2 1).int, .i (gi g2 2).int]) else (callF (F_pilemake_Stream_Range [.l (gi g1 0).rows, .i (gi g1 1).int, .i 0, .i 330]) fun g3 => some [.l (gi g3 0).rows, .i (gi g3 1).int, .i (gi g3 2).int])))
def s_pilemake_Stream_Near : FSpec := ⟨17, [.s (.ptr 0 0)], [.box [.list [.int .i64], .int .i64]], [.slot 0], [.s (.int .i64)], [.box [.list [.int .i64], .int .i64]], [.fix 0], [], F_pilemake_Stream_Near⟩
theorem b_pilemake_Stream_Near : BodyOK P t28 noLoops Tryz.f17 s_pilemake_Stream_Near := fun d => by kernel_rfl
theorem c_pilemake_Stream_Near : ∀ d r, F_pilemake_Stream_Near d = some r → ACallX P 17 (s_pilemake_Stream_Near.args0 d) (denH (s_pilemake_Stream_Near.H0 d)) (s_pilemake_Stream_Near.out r) (denH (s_pilemake_Stream_Near.H1 r)) := fun d r h => body_sound hm t28_ok (sp := s_pilemake_Stream_Near) Tryz.func17 (by kernel_rfl) (noLoops_ok _ _ _) b_pilemake_Stream_Near (by kernel_rfl) h
def t29 : Tab := t28.addW s_pilemake_Stream_Near
theorem t29_ok : TabOK P t29 := t28_ok.addW (by kernel_rfl) (by kernel_rfl) c_pilemake_Stream_Near

/- pileup/call.Is -/
def F_call_Is (d : List G) : Option (List G) :=
  (callF (F_call_Parts [.s (gi d 0).str]) fun g1 => some [.t (gi g1 1).bool])
def s_call_Is : FSpec := ⟨85, [.s (.str)], [], [], [.s (.bool)], [], [], [], F_call_Is⟩
theorem b_call_Is : BodyOK P t29 noLoops Tryz.f85 s_call_Is := fun d => by kernel_rfl
theorem c_call_Is : ∀ d r, F_call_Is d = some r → ACallX P 85 (s_call_Is.args0 d) (denH (s_call_Is.H0 d)) (s_call_Is.out r) (denH (s_call_Is.H1 r)) := fun d r h => body_sound hm t29_ok (sp := s_call_Is) Tryz.func85 (by kernel_rfl) (noLoops_ok _ _ _) b_call_Is (by kernel_rfl) h
def t30 : Tab := t29.addP s_call_Is
theorem t30_ok : TabOK P t30 := t29_ok.addP (by kernel_rfl) (by kernel_rfl) c_call_Is

/- pileup/kit.Outside -/
def F_kit_Outside (d : List G) : Option (List G) :=
  (bif (ltI (gi d 0).int (gi d 1).int) then some [.t true] else some [.t (ltI (gi d 2).int (gi d 0).int)])
def s_kit_Outside : FSpec := ⟨54, [.s (.int .i64), .s (.int .i64), .s (.int .i64)], [], [], [.s (.bool)], [], [], [], F_kit_Outside⟩
theorem b_kit_Outside : BodyOK P t30 noLoops Tryz.f54 s_kit_Outside := fun d => by kernel_rfl
theorem c_kit_Outside : ∀ d r, F_kit_Outside d = some r → ACallX P 54 (s_kit_Outside.args0 d) (denH (s_kit_Outside.H0 d)) (s_kit_Outside.out r) (denH (s_kit_Outside.H1 r)) := fun d r h => body_sound hm t30_ok (sp := s_kit_Outside) Tryz.func54 (by kernel_rfl) (noLoops_ok _ _ _) b_kit_Outside (by kernel_rfl) h
def t31 : Tab := t30.addP s_kit_Outside
theorem t31_ok : TabOK P t31 := t30_ok.addP (by kernel_rfl) (by kernel_rfl) c_kit_Outside

/- pileup/kit.IsTime -/
def F_kit_IsTime (d : List G) : Option (List G) :=
  (bif (inI ((gi (gi d 0).row 1).int - 1)) then (callF (F_kit_Outside [.i (gi (gi d 0).row 0).int, .i 0, .i ((gi (gi d 0).row 1).int - 1)]) fun g1 => (bif (!(gi g1 0).bool) then some [.t (leI (gi (gi d 0).row 1).int 345686400000)] else some [.t false])) else none)
def s_kit_IsTime : FSpec := ⟨77, [.s (.row [.int .i64, .int .i64])], [], [], [.s (.bool)], [], [], [], F_kit_IsTime⟩
theorem b_kit_IsTime : BodyOK P t31 noLoops Tryz.f77 s_kit_IsTime := fun d => by kernel_rfl
theorem c_kit_IsTime : ∀ d r, F_kit_IsTime d = some r → ACallX P 77 (s_kit_IsTime.args0 d) (denH (s_kit_IsTime.H0 d)) (s_kit_IsTime.out r) (denH (s_kit_IsTime.H1 r)) := fun d r h => body_sound hm t31_ok (sp := s_kit_IsTime) Tryz.func77 (by kernel_rfl) (noLoops_ok _ _ _) b_kit_IsTime (by kernel_rfl) h
def t32 : Tab := t31.addP s_kit_IsTime
theorem t32_ok : TabOK P t32 := t31_ok.addP (by kernel_rfl) (by kernel_rfl) c_kit_IsTime

/- cmp.Or[int] -/
def st_cmp_Or_int_3 (d : List G) : Option (Option Nat × List G) :=
  (bif (ltI (gi d 3).int (gi d 2).int) then (bif ((nnI (gi d 3).int) && (ltI (gi d 3).int (((gi d 1).rows.length : Nat) : Int))) then (bif ((gi ((gi d 1).rows.getD (((gi d 3).int).toNat) []) 0).int != (gi d 0).int) then some (some 0, [.i (gi ((gi d 1).rows.getD (((gi d 3).int).toNat) []) 0).int]) else (bif (inI ((gi d 3).int + 1)) then some (none, [.i (gi d 0).int, .l (gi d 1).rows, .i (gi d 2).int, .i ((gi d 3).int + 1)]) else none)) else none) else some (some 1, [.i (gi d 0).int]))
def l_cmp_Or_int_3 : LSpec := ⟨3, [], ⟨18, [(3, .s (.int .i64)), (6, .s (.list [.int .i64])), (7, .s (.int .i64)), (8, .s (.int .i64))], []⟩, [], [⟨.ret, ⟨18, [(2, .s (.int .i64))], []⟩, []⟩, ⟨.exit 0, ⟨18, [(3, .s (.int .i64))], []⟩, []⟩], st_cmp_Or_int_3⟩
theorem r_cmp_Or_int_3 : RoundOK P t32 noLoops 0 (loopAt Tryz.f108 3) l_cmp_Or_int_3 := fun d => by kernel_rfl
def L_cmp_Or_int_3 : LT := noLoops.add 0 l_cmp_Or_int_3
theorem L_cmp_Or_int_3_ok : LoopsOK P 0 L_cmp_Or_int_3 (bodyOf Tryz.f108) := LoopsOK.add hm t32_ok (by kernel_rfl) (noLoops_ok _ _ _) r_cmp_Or_int_3
def F_cmp_Or_int (d : List G) : Option (List G) :=
  (loopB true (LRun st_cmp_Or_int_3 [.i 0, .l (gi d 0).rows, .i (((gi d 0).rows.length : Nat) : Int), .i 0]) fun cg1 g1 => (bif Nat.beq cg1 0 then some [.i (gi g1 0).int] else some [.i (gi g1 0).int]))
def s_cmp_Or_int : FSpec := ⟨108, [.s (.list [.int .i64])], [], [], [.s (.int .i64)], [], [], [], F_cmp_Or_int⟩
theorem b_cmp_Or_int : BodyOK P t32 L_cmp_Or_int_3 Tryz.f108 s_cmp_Or_int := fun d => by kernel_rfl
theorem c_cmp_Or_int : ∀ d r, F_cmp_Or_int d = some r → ACallX P 108 (s_cmp_Or_int.args0 d) (denH (s_cmp_Or_int.H0 d)) (s_cmp_Or_int.out r) (denH (s_cmp_Or_int.H1 r)) := fun d r h => body_sound hm t32_ok (sp := s_cmp_Or_int) Tryz.func108 (by kernel_rfl) L_cmp_Or_int_3_ok b_cmp_Or_int (by kernel_rfl) h
def t33 : Tab := t32.addP s_cmp_Or_int
theorem t33_ok : TabOK P t33 := t32_ok.addP (by kernel_rfl) (by kernel_rfl) c_cmp_Or_int

/- pileup/band.compareBusy -/
def F_band_compareBusy (d : List G) : Option (List G) :=
  (callF (F_cmp_Compare_int [.i (gi (gi d 0).row 3).int, .i (gi (gi d 1).row 3).int]) fun g1 => (callF (F_cmp_Compare_int [.i (gi (gi d 0).row 1).int, .i (gi (gi d 1).row 1).int]) fun g2 => (callF (F_strings_Compare [.s (gi (gi d 0).row 0).str, .s (gi (gi d 1).row 0).str]) fun g3 => (callF (F_cmp_Or_int [.l [[.i (gi g1 0).int], [.i (gi g2 0).int], [.i (gi g3 0).int]]]) fun g4 => some [.i (gi g4 0).int]))))
def s_band_compareBusy : FSpec := ⟨86, [.s (.row KBusy), .s (.row KBusy)], [], [], [.s (.int .i64)], [], [], [], F_band_compareBusy⟩
theorem b_band_compareBusy : BodyOK P t33 noLoops Tryz.f86 s_band_compareBusy := fun d => by kernel_rfl
theorem c_band_compareBusy : ∀ d r, F_band_compareBusy d = some r → ACallX P 86 (s_band_compareBusy.args0 d) (denH (s_band_compareBusy.H0 d)) (s_band_compareBusy.out r) (denH (s_band_compareBusy.H1 r)) := fun d r h => body_sound hm t33_ok (sp := s_band_compareBusy) Tryz.func86 (by kernel_rfl) (noLoops_ok _ _ _) b_band_compareBusy (by kernel_rfl) h
def t34 : Tab := t33.addP s_band_compareBusy
theorem t34_ok : TabOK P t34 := t33_ok.addP (by kernel_rfl) (by kernel_rfl) c_band_compareBusy

/- pileup/band.CheckBusy -/
def st_band_CheckBusy_4 (d : List G) : Option (Option Nat × List G) :=
  (bif (ltI (gi d 3).int (gi d 2).int) then (bif ((nnI (gi d 3).int) && (ltI (gi d 3).int (((gi d 1).rows.length : Nat) : Int))) then (callF (F_call_Is [.s (gi ((gi d 1).rows.getD (((gi d 3).int).toNat) []) 0).str]) fun g1 => (bif (!(gi g1 0).bool) then some (some 0, [.i 3]) else (callF (F_kit_Outside [.i (gi ((gi d 1).rows.getD (((gi d 3).int).toNat) []) 1).int, .i 0, .i 30000000000]) fun g2 => (bif (gi g2 0).bool then some (some 0, [.i 1]) else (callF (F_kit_Outside [.i (gi ((gi d 1).rows.getD (((gi d 3).int).toNat) []) 2).int, .i 1, .i 100000]) fun g3 => (bif (gi g3 0).bool then some (some 0, [.i 1]) else (callF (F_kit_IsTime [.l [[.i (gi ((gi d 1).rows.getD (((gi d 3).int).toNat) []) 3).int, .i (gi ((gi d 1).rows.getD (((gi d 3).int).toNat) []) 4).int]]]) fun g4 => (bif (!(gi g4 0).bool) then some (some 0, [.i 1]) else (bif (ltI 0 (gi d 3).int) then (bif (inI ((gi d 3).int - 1)) then (bif ((nnI ((gi d 3).int - 1)) && (ltI ((gi d 3).int - 1) (((gi d 0).rows.length : Nat) : Int))) then (callF (F_band_compareBusy [.l [(gEta KBusy ((gi d 0).rows.getD (((gi d 3).int - 1).toNat) []))], .l [(gEta KBusy ((gi d 1).rows.getD (((gi d 3).int).toNat) []))]]) fun g5 => (bif (leI 0 (gi g5 0).int) then some (some 0, [.i 7]) else (bif (inI ((gi d 3).int + 1)) then some (none, [.l (gi d 0).rows, .l (gi d 1).rows, .i (gi d 2).int, .i ((gi d 3).int + 1)]) else none))) else none) else none) else (bif (inI ((gi d 3).int + 1)) then some (none, [.l (gi d 0).rows, .l (gi d 1).rows, .i (gi d 2).int, .i ((gi d 3).int + 1)]) else none)))))))))) else none) else some (some 1, []))
def l_band_CheckBusy_4 : LSpec := ⟨4, [], ⟨49, [(0, .s (.list KBusy)), (8, .s (.list KBusy)), (9, .s (.int .i64)), (10, .s (.int .i64))], []⟩, [], [⟨.ret, ⟨49, [(2, .s (.int .i64))], []⟩, []⟩, ⟨.exit 0, ⟨49, [], []⟩, []⟩], st_band_CheckBusy_4⟩
theorem r_band_CheckBusy_4 : RoundOK P t34 noLoops 0 (loopAt Tryz.f42 4) l_band_CheckBusy_4 := fun d => by kernel_rfl
def L_band_CheckBusy_4 : LT := noLoops.add 0 l_band_CheckBusy_4
theorem L_band_CheckBusy_4_ok : LoopsOK P 0 L_band_CheckBusy_4 (bodyOf Tryz.f42) := LoopsOK.add hm t34_ok (by kernel_rfl) (noLoops_ok _ _ _) r_band_CheckBusy_4
def F_band_CheckBusy (d : List G) : Option (List G) :=
  (bif (ltI 500 (((gi d 0).rows.length : Nat) : Int)) then some [.i 2] else (loopB true (LRun st_band_CheckBusy_4 [.l (gi d 0).rows, .l (gi d 0).rows, .i (((gi d 0).rows.length : Nat) : Int), .i 0]) fun cg6 g6 => (bif Nat.beq cg6 0 then some [.i (gi g6 0).int] else some [.i 0])))
def s_band_CheckBusy : FSpec := ⟨42, [.s (.list KBusy)], [], [], [.s (.int .i64)], [], [], [], F_band_CheckBusy⟩
theorem b_band_CheckBusy : BodyOK P t34 L_band_CheckBusy_4 Tryz.f42 s_band_CheckBusy := fun d => by kernel_rfl
theorem c_band_CheckBusy : ∀ d r, F_band_CheckBusy d = some r → ACallX P 42 (s_band_CheckBusy.args0 d) (denH (s_band_CheckBusy.H0 d)) (s_band_CheckBusy.out r) (denH (s_band_CheckBusy.H1 r)) := fun d r h => body_sound hm t34_ok (sp := s_band_CheckBusy) Tryz.func42 (by kernel_rfl) L_band_CheckBusy_4_ok b_band_CheckBusy (by kernel_rfl) h
def t35 : Tab := t34.addP s_band_CheckBusy
theorem t35_ok : TabOK P t35 := t34_ok.addP (by kernel_rfl) (by kernel_rfl) c_band_CheckBusy

/- pileup/band.used -/
def F_band_used (d : List G) : Option (List G) :=
  (bif (inI (Int.tdiv (gi d 1).int 2)) then (bif (inI ((gi d 0).int - (Int.tdiv (gi d 1).int 2))) then (bif (inI (((gi d 0).int - (Int.tdiv (gi d 1).int 2)) + (gi d 1).int)) then some [.l [[.i ((gi d 0).int - (Int.tdiv (gi d 1).int 2)), .i (((gi d 0).int - (Int.tdiv (gi d 1).int 2)) + (gi d 1).int)]]] else none) else none) else none)
def s_band_used : FSpec := ⟨63, [.s (.int .i64), .s (.int .i64)], [], [], [.s (.row [.int .i64, .int .i64])], [], [], [], F_band_used⟩
theorem b_band_used : BodyOK P t35 noLoops Tryz.f63 s_band_used := fun d => by kernel_rfl
theorem c_band_used : ∀ d r, F_band_used d = some r → ACallX P 63 (s_band_used.args0 d) (denH (s_band_used.H0 d)) (s_band_used.out r) (denH (s_band_used.H1 r)) := fun d r h => body_sound hm t35_ok (sp := s_band_used) Tryz.func63 (by kernel_rfl) (noLoops_ok _ _ _) b_band_used (by kernel_rfl) h
def t36 : Tab := t35.addP s_band_used
theorem t36_ok : TabOK P t36 := t35_ok.addP (by kernel_rfl) (by kernel_rfl) c_band_used

/- pileup/band.meet -/
def F_band_meet (d : List G) : Option (List G) :=
  (bif (ltI (gi (gi d 0).row 0).int (gi (gi d 1).row 1).int) then some [.t (ltI (gi (gi d 1).row 0).int (gi (gi d 0).row 1).int)] else some [.t false])
def s_band_meet : FSpec := ⟨80, [.s (.row [.int .i64, .int .i64]), .s (.row [.int .i64, .int .i64])], [], [], [.s (.bool)], [], [], [], F_band_meet⟩
theorem b_band_meet : BodyOK P t36 noLoops Tryz.f80 s_band_meet := fun d => by kernel_rfl
theorem c_band_meet : ∀ d r, F_band_meet d = some r → ACallX P 80 (s_band_meet.args0 d) (denH (s_band_meet.H0 d)) (s_band_meet.out r) (denH (s_band_meet.H1 r)) := fun d r h => body_sound hm t36_ok (sp := s_band_meet) Tryz.func80 (by kernel_rfl) (noLoops_ok _ _ _) b_band_meet (by kernel_rfl) h
def t37 : Tab := t36.addP s_band_meet
theorem t37_ok : TabOK P t37 := t36_ok.addP (by kernel_rfl) (by kernel_rfl) c_band_meet

/- pileup/band.TooNear -/
def st_band_TooNear_9 (d : List G) : Option (Option Nat × List G) :=
  (bif (ltI (gi d 12).int (gi d 11).int) then (bif ((nnI (gi d 12).int) && (ltI (gi d 12).int (((gi d 10).rows.length : Nat) : Int))) then (bif (!((gi d 1).str.toList == (gi ((gi d 10).rows.getD (((gi d 12).int).toNat) []) 0).str.toList)) then (callF (F_band_used [.i (gi d 2).int, .i (gi d 3).int]) fun g2 => (callF (F_band_used [.i (gi ((gi d 10).rows.getD (((gi d 12).int).toNat) []) 1).int, .i (gi ((gi d 10).rows.getD (((gi d 12).int).toNat) []) 2).int]) fun g3 => (callF (F_band_meet [.l [(gEta [.int .i64, .int .i64] (gi g2 0).row)], .l [(gEta [.int .i64, .int .i64] (gi g3 0).row)]]) fun g4 => (bif (gi g4 0).bool then (callF (F_band_meet [.l [[.i (gi d 4).int, .i (gi d 5).int]], .l [[.i (gi ((gi d 10).rows.getD (((gi d 12).int).toNat) []) 3).int, .i (gi ((gi d 10).rows.getD (((gi d 12).int).toNat) []) 4).int]]]) fun g5 => (bif (gi g5 0).bool then (bif ((Nat.beq (gi d 0).rows.length (gi d 0).rows.length) && (decide (((gi d 0).rows.length + 1) ≤ 1048576))) then (bif (inI ((gi d 12).int + 1)) then (bif ((Nat.beq ((gi d 0).rows ++ ([[.s (gi d 1).str, .s (gi ((gi d 10).rows.getD (((gi d 12).int).toNat) []) 0).str]] : List (List G))).length ((gi d 0).rows ++ ([[.s (gi d 1).str, .s (gi ((gi d 10).rows.getD (((gi d 12).int).toNat) []) 0).str]] : List (List G))).length) && true) then some (none, [.l ((gi d 0).rows ++ ([[.s (gi d 1).str, .s (gi ((gi d 10).rows.getD (((gi d 12).int).toNat) []) 0).str]] : List (List G))), .s (gi d 1).str, .i (gi d 2).int, .i (gi d 3).int, .i (gi d 4).int, .i (gi d 5).int, .l (gi d 6).rows, .l (gi d 7).rows, .i (gi d 8).int, .i (gi d 9).int, .l (gi d 10).rows, .i (gi d 11).int, .i ((gi d 12).int + 1)]) else none) else none) else none) else (bif (inI ((gi d 12).int + 1)) then (bif ((Nat.beq (gi d 0).rows.length (gi d 0).rows.length) && true) then some (none, [.l (gi d 0).rows, .s (gi d 1).str, .i (gi d 2).int, .i (gi d 3).int, .i (gi d 4).int, .i (gi d 5).int, .l (gi d 6).rows, .l (gi d 7).rows, .i (gi d 8).int, .i (gi d 9).int, .l (gi d 10).rows, .i (gi d 11).int, .i ((gi d 12).int + 1)]) else none) else none))) else (bif (inI ((gi d 12).int + 1)) then (bif ((Nat.beq (gi d 0).rows.length (gi d 0).rows.length) && true) then some (none, [.l (gi d 0).rows, .s (gi d 1).str, .i (gi d 2).int, .i (gi d 3).int, .i (gi d 4).int, .i (gi d 5).int, .l (gi d 6).rows, .l (gi d 7).rows, .i (gi d 8).int, .i (gi d 9).int, .l (gi d 10).rows, .i (gi d 11).int, .i ((gi d 12).int + 1)]) else none) else none))))) else (bif (inI ((gi d 12).int + 1)) then (bif ((Nat.beq (gi d 0).rows.length (gi d 0).rows.length) && true) then some (none, [.l (gi d 0).rows, .s (gi d 1).str, .i (gi d 2).int, .i (gi d 3).int, .i (gi d 4).int, .i (gi d 5).int, .l (gi d 6).rows, .l (gi d 7).rows, .i (gi d 8).int, .i (gi d 9).int, .l (gi d 10).rows, .i (gi d 11).int, .i ((gi d 12).int + 1)]) else none) else none)) else none) else (bif ((Nat.beq (gi d 0).rows.length (gi d 0).rows.length) && true) then some (some 0, [.l (gi d 0).rows, .l (gi d 6).rows, .l (gi d 7).rows, .i (gi d 8).int, .i (gi d 9).int]) else none))
def l_band_TooNear_9 : LSpec := ⟨9, [], ⟨67, [(0, .s (.list KBusy)), (5, .s (.vec 0 2)), (7, .s (.ptr 1 0)), (15, .s (.list KBusy)), (16, .s (.int .i64)), (17, .s (.int .i64)), (25, .s (.list KBusy)), (26, .s (.int .i64)), (27, .s (.int .i64))], [.vec [.str, .str] 0, .box [.str, .int .i64, .int .i64, .int .i64, .int .i64]]⟩, [.slot 5, .slot 7], [⟨.exit 2, ⟨67, [(0, .s (.list KBusy)), (5, .s (.vec 0 2)), (15, .s (.list KBusy)), (16, .s (.int .i64)), (17, .s (.int .i64))], [.vec [.str, .str] 0]⟩, [.slot 5]⟩], st_band_TooNear_9⟩
theorem r_band_TooNear_9 : RoundOK P t37 noLoops 0 (loopAt Tryz.f35 9) l_band_TooNear_9 := fun d => by kernel_rfl
def L_band_TooNear_9 : LT := noLoops.add 0 l_band_TooNear_9
theorem L_band_TooNear_9_ok : LoopsOK P 0 L_band_TooNear_9 (bodyOf Tryz.f35) := LoopsOK.add hm t37_ok (by kernel_rfl) (noLoops_ok _ _ _) r_band_TooNear_9
def st_band_TooNear_6 (d : List G) : Option (Option Nat × List G) :=
  (bif (ltI (gi d 4).int (gi d 3).int) then (bif ((nnI (gi d 4).int) && (ltI (gi d 4).int (((gi d 2).rows.length : Nat) : Int))) then (bif (inI ((gi d 4).int + 1)) then (bif ((nnI ((gi d 4).int + 1)) && (leI ((gi d 4).int + 1) (((gi d 1).rows.length : Nat) : Int))) then (loopB ((Nat.beq (gi d 0).rows.length (gi d 0).rows.length) && true) (LRun st_band_TooNear_9 [.l (gi d 0).rows, .s (gi ((gi d 2).rows.getD (((gi d 4).int).toNat) []) 0).str, .i (gi ((gi d 2).rows.getD (((gi d 4).int).toNat) []) 1).int, .i (gi ((gi d 2).rows.getD (((gi d 4).int).toNat) []) 2).int, .i (gi ((gi d 2).rows.getD (((gi d 4).int).toNat) []) 3).int, .i (gi ((gi d 2).rows.getD (((gi d 4).int).toNat) []) 4).int, .l (gi d 1).rows, .l (gi d 2).rows, .i (gi d 3).int, .i (gi d 4).int, .l ((gi d 1).rows.drop (((gi d 4).int + 1).toNat)), .i ((((gi d 1).rows.drop (((gi d 4).int + 1).toNat)).length : Nat) : Int), .i 0]) fun cg6 g6 => (bif (inI ((gi g6 4).int + 1)) then (bif ((Nat.beq (gi g6 0).rows.length (gi g6 0).rows.length) && true) then some (none, [.l (gi g6 0).rows, .l (gi g6 1).rows, .l (gi g6 2).rows, .i (gi g6 3).int, .i ((gi g6 4).int + 1)]) else none) else none)) else none) else none) else none) else (bif ((Nat.beq (gi d 0).rows.length (gi d 0).rows.length) && true) then some (some 0, [.l (gi d 0).rows]) else none))
def l_band_TooNear_6 : LSpec := ⟨6, [(5, [.str, .str])], ⟨67, [(0, .s (.list KBusy)), (5, .s (.vec 0 2)), (15, .s (.list KBusy)), (16, .s (.int .i64)), (17, .s (.int .i64))], [.vec [.str, .str] 0]⟩, [.slot 5], [⟨.exit 0, ⟨67, [(5, .s (.vec 0 2))], [.vec [.str, .str] 0]⟩, [.slot 5]⟩], st_band_TooNear_6⟩
theorem r_band_TooNear_6 : RoundOK P t37 L_band_TooNear_9 0 (loopAt Tryz.f35 6) l_band_TooNear_6 := fun d => by kernel_rfl
def L_band_TooNear_6 : LT := L_band_TooNear_9.add 0 l_band_TooNear_6
theorem L_band_TooNear_6_ok : LoopsOK P 0 L_band_TooNear_6 (bodyOf Tryz.f35) := LoopsOK.add hm t37_ok (by kernel_rfl) L_band_TooNear_9_ok r_band_TooNear_6
def F_band_TooNear (d : List G) : Option (List G) :=
  (callF (F_band_CheckBusy [.l (gi d 0).rows]) fun g1 => (bif ((gi g1 0).int != 0) then some [.l [], .i (gi g1 0).int] else (loopB true (LRun st_band_TooNear_6 [.l [], .l (gi d 0).rows, .l (gi d 0).rows, .i (((gi d 0).rows.length : Nat) : Int), .i 0]) fun cg7 g7 => (bif ((Nat.beq (gi g7 0).rows.length (gi g7 0).rows.length) && true) then some [.l (gi g7 0).rows, .i 0] else none))))
def s_band_TooNear : FSpec := ⟨35, [.s (.list KBusy)], [], [], [.s (.list [.str, .str]), .s (.int .i64)], [], [], [], F_band_TooNear⟩
theorem b_band_TooNear : BodyOK P t37 L_band_TooNear_6 Tryz.f35 s_band_TooNear := fun d => by kernel_rfl
theorem c_band_TooNear : ∀ d r, F_band_TooNear d = some r → ACallX P 35 (s_band_TooNear.args0 d) (denH (s_band_TooNear.H0 d)) (s_band_TooNear.out r) (denH (s_band_TooNear.H1 r)) := fun d r h => body_sound hm t37_ok (sp := s_band_TooNear) Tryz.func35 (by kernel_rfl) L_band_TooNear_6_ok b_band_TooNear (by kernel_rfl) h
def t38 : Tab := t37.addP s_band_TooNear
theorem t38_ok : TabOK P t38 := t37_ok.addP (by kernel_rfl) (by kernel_rfl) c_band_TooNear

/- pileup/kit.IsKey -/
def F_kit_IsKey (d : List G) : Option (List G) :=
  (bif (!((gi d 0).str.toList == (⟨#[]⟩ : ByteArray).toList)) then (bif (leI (((gi d 0).str.size : Nat) : Int) 40) then (bif (ltI 0 (((gi d 0).str.size : Nat) : Int)) then (callF (F_strings_IndexByte [.s (⟨#[97, 98, 99, 100, 101, 102, 103, 104, 105, 106, 107, 108, 109, 110, 111, 112, 113, 114, 115, 116, 117, 118, 119, 120, 121, 122]⟩ : ByteArray), .i (((gi d 0).str.data.toList.getD 0 0).toNat : Int)]) fun g1 => (bif (leI 0 (gi g1 0).int) then (callF (F_strings_Trim [.s (gi d 0).str, .s (⟨#[97, 98, 99, 100, 101, 102, 103, 104, 105, 106, 107, 108, 109, 110, 111, 112, 113, 114, 115, 116, 117, 118, 119, 120, 121, 122, 48, 49, 50, 51, 52, 53, 54, 55, 56, 57, 45, 95]⟩ : ByteArray)]) fun g2 => some [.t ((gi g2 0).str.toList == (⟨#[]⟩ : ByteArray).toList)]) else some [.t false])) else none) else some [.t false]) else some [.t false])
def s_kit_IsKey : FSpec := ⟨60, [.s (.str)], [], [], [.s (.bool)], [], [], [], F_kit_IsKey⟩
theorem b_kit_IsKey : BodyOK P t38 noLoops Tryz.f60 s_kit_IsKey := fun d => by kernel_rfl
theorem c_kit_IsKey : ∀ d r, F_kit_IsKey d = some r → ACallX P 60 (s_kit_IsKey.args0 d) (denH (s_kit_IsKey.H0 d)) (s_kit_IsKey.out r) (denH (s_kit_IsKey.H1 r)) := fun d r h => body_sound hm t38_ok (sp := s_kit_IsKey) Tryz.func60 (by kernel_rfl) (noLoops_ok _ _ _) b_kit_IsKey (by kernel_rfl) h
def t39 : Tab := t38.addP s_kit_IsKey
theorem t39_ok : TabOK P t39 := t38_ok.addP (by kernel_rfl) (by kernel_rfl) c_kit_IsKey

/- pileup/kit.IsMode -/
def F_kit_IsMode (d : List G) : Option (List G) :=
  (callF (F_kit_Outside [.i (gi d 0).int, .i 1, .i 3]) fun g1 => some [.t (!(gi g1 0).bool)])
def s_kit_IsMode : FSpec := ⟨61, [.s (.int .i64)], [], [], [.s (.bool)], [], [], [], F_kit_IsMode⟩
theorem b_kit_IsMode : BodyOK P t39 noLoops Tryz.f61 s_kit_IsMode := fun d => by kernel_rfl
theorem c_kit_IsMode : ∀ d r, F_kit_IsMode d = some r → ACallX P 61 (s_kit_IsMode.args0 d) (denH (s_kit_IsMode.H0 d)) (s_kit_IsMode.out r) (denH (s_kit_IsMode.H1 r)) := fun d r h => body_sound hm t39_ok (sp := s_kit_IsMode) Tryz.func61 (by kernel_rfl) (noLoops_ok _ _ _) b_kit_IsMode (by kernel_rfl) h
def t40 : Tab := t39.addP s_kit_IsMode
theorem t40_ok : TabOK P t40 := t39_ok.addP (by kernel_rfl) (by kernel_rfl) c_kit_IsMode

/- pileup/band.modesFault -/
def st_band_modesFault_4 (d : List G) : Option (Option Nat × List G) :=
  (bif (ltI (gi d 3).int (gi d 2).int) then (bif ((nnI (gi d 3).int) && (ltI (gi d 3).int (((gi d 1).rows.length : Nat) : Int))) then (callF (F_kit_IsMode [.i (gi ((gi d 1).rows.getD (((gi d 3).int).toNat) []) 0).int]) fun g1 => (bif (!(gi g1 0).bool) then some (some 0, [.i 4]) else (bif (ltI 0 (gi d 3).int) then (bif (inI ((gi d 3).int - 1)) then (bif ((nnI ((gi d 3).int - 1)) && (ltI ((gi d 3).int - 1) (((gi d 0).rows.length : Nat) : Int))) then (bif (leI (gi ((gi d 1).rows.getD (((gi d 3).int).toNat) []) 0).int (gi ((gi d 0).rows.getD (((gi d 3).int - 1).toNat) []) 0).int) then some (some 0, [.i 7]) else (bif (inI ((gi d 3).int + 1)) then some (none, [.l (gi d 0).rows, .l (gi d 1).rows, .i (gi d 2).int, .i ((gi d 3).int + 1)]) else none)) else none) else none) else (bif (inI ((gi d 3).int + 1)) then some (none, [.l (gi d 0).rows, .l (gi d 1).rows, .i (gi d 2).int, .i ((gi d 3).int + 1)]) else none)))) else none) else some (some 1, []))
def l_band_modesFault_4 : LSpec := ⟨4, [], ⟨30, [(0, .s (.list [.int .i64])), (8, .s (.list [.int .i64])), (9, .s (.int .i64)), (10, .s (.int .i64))], []⟩, [], [⟨.ret, ⟨30, [(2, .s (.int .i64))], []⟩, []⟩, ⟨.exit 0, ⟨30, [], []⟩, []⟩], st_band_modesFault_4⟩
theorem r_band_modesFault_4 : RoundOK P t40 noLoops 0 (loopAt Tryz.f76 4) l_band_modesFault_4 := fun d => by kernel_rfl
def L_band_modesFault_4 : LT := noLoops.add 0 l_band_modesFault_4
theorem L_band_modesFault_4_ok : LoopsOK P 0 L_band_modesFault_4 (bodyOf Tryz.f76) := LoopsOK.add hm t40_ok (by kernel_rfl) (noLoops_ok _ _ _) r_band_modesFault_4
def F_band_modesFault (d : List G) : Option (List G) :=
  (bif ((((gi d 0).rows.length : Nat) : Int) == 0) then some [.i 8] else (loopB true (LRun st_band_modesFault_4 [.l (gi d 0).rows, .l (gi d 0).rows, .i (((gi d 0).rows.length : Nat) : Int), .i 0]) fun cg2 g2 => (bif Nat.beq cg2 0 then some [.i (gi g2 0).int] else some [.i 0])))
def s_band_modesFault : FSpec := ⟨76, [.s (.list [.int .i64])], [], [], [.s (.int .i64)], [], [], [], F_band_modesFault⟩
theorem b_band_modesFault : BodyOK P t40 L_band_modesFault_4 Tryz.f76 s_band_modesFault := fun d => by kernel_rfl
theorem c_band_modesFault : ∀ d r, F_band_modesFault d = some r → ACallX P 76 (s_band_modesFault.args0 d) (denH (s_band_modesFault.H0 d)) (s_band_modesFault.out r) (denH (s_band_modesFault.H1 r)) := fun d r h => body_sound hm t40_ok (sp := s_band_modesFault) Tryz.func76 (by kernel_rfl) L_band_modesFault_4_ok b_band_modesFault (by kernel_rfl) h
def t41 : Tab := t40.addP s_band_modesFault
theorem t41_ok : TabOK P t41 := t40_ok.addP (by kernel_rfl) (by kernel_rfl) c_band_modesFault

/- pileup/band.compareSegments -/
def F_band_compareSegments (d : List G) : Option (List G) :=
  (callF (F_strings_Compare [.s (gi (gi d 0).row 0).str, .s (gi (gi d 1).row 0).str]) fun g1 => (callF (F_cmp_Compare_int [.i (gi (gi d 0).row 1).int, .i (gi (gi d 1).row 1).int]) fun g2 => (callF (F_cmp_Compare_int [.i (gi (gi d 0).row 2).int, .i (gi (gi d 1).row 2).int]) fun g3 => (callF (F_cmp_Compare_int [.i (gi (gi d 0).row 4).int, .i (gi (gi d 1).row 4).int]) fun g4 => (callF (F_cmp_Or_int [.l [[.i (gi g1 0).int], [.i (gi g2 0).int], [.i (gi g3 0).int], [.i (gi g4 0).int]]]) fun g5 => some [.i (gi g5 0).int])))))
def s_band_compareSegments : FSpec := ⟨78, [.s (.row KSegment), .s (.row KSegment)], [], [], [.s (.int .i64)], [], [], [], F_band_compareSegments⟩
theorem b_band_compareSegments : BodyOK P t41 noLoops Tryz.f78 s_band_compareSegments := fun d => by kernel_rfl
theorem c_band_compareSegments : ∀ d r, F_band_compareSegments d = some r → ACallX P 78 (s_band_compareSegments.args0 d) (denH (s_band_compareSegments.H0 d)) (s_band_compareSegments.out r) (denH (s_band_compareSegments.H1 r)) := fun d r h => body_sound hm t41_ok (sp := s_band_compareSegments) Tryz.func78 (by kernel_rfl) (noLoops_ok _ _ _) b_band_compareSegments (by kernel_rfl) h
def t42 : Tab := t41.addP s_band_compareSegments
theorem t42_ok : TabOK P t42 := t41_ok.addP (by kernel_rfl) (by kernel_rfl) c_band_compareSegments

/- pileup/band.CheckSegments -/
def st_band_CheckSegments_4 (d : List G) : Option (Option Nat × List G) :=
  (bif (ltI (gi d 3).int (gi d 2).int) then (bif ((nnI (gi d 3).int) && (ltI (gi d 3).int (((gi d 1).rows.length : Nat) : Int))) then (callF (F_kit_IsKey [.s (gi ((gi d 1).rows.getD (((gi d 3).int).toNat) []) 0).str]) fun g1 => (bif (!(gi g1 0).bool) then some (some 0, [.i 5]) else (bif (inI ((gi ((gi d 1).rows.getD (((gi d 3).int).toNat) []) 2).int - 1)) then (callF (F_kit_Outside [.i (gi ((gi d 1).rows.getD (((gi d 3).int).toNat) []) 1).int, .i 0, .i ((gi ((gi d 1).rows.getD (((gi d 3).int).toNat) []) 2).int - 1)]) fun g2 => (bif (gi g2 0).bool then some (some 0, [.i 1]) else (bif (ltI 30000000000 (gi ((gi d 1).rows.getD (((gi d 3).int).toNat) []) 2).int) then some (some 0, [.i 1]) else (callF (F_band_modesFault [.l (gi ((gi d 1).rows.getD (((gi d 3).int).toNat) []) 3).rows]) fun g3 => (bif ((gi g3 0).int != 0) then some (some 0, [.i (gi g3 0).int]) else (callF (F_kit_IsTime [.l [[.i (gi ((gi d 1).rows.getD (((gi d 3).int).toNat) []) 4).int, .i (gi ((gi d 1).rows.getD (((gi d 3).int).toNat) []) 5).int]]]) fun g4 => (bif (!(gi g4 0).bool) then some (some 0, [.i 1]) else (bif (ltI 0 (gi d 3).int) then (bif (inI ((gi d 3).int - 1)) then (bif ((nnI ((gi d 3).int - 1)) && (ltI ((gi d 3).int - 1) (((gi d 0).rows.length : Nat) : Int))) then (callF (F_band_compareSegments [.l [(gEta KSegment ((gi d 0).rows.getD (((gi d 3).int - 1).toNat) []))], .l [(gEta KSegment ((gi d 1).rows.getD (((gi d 3).int).toNat) []))]]) fun g5 => (bif (leI 0 (gi g5 0).int) then some (some 0, [.i 7]) else (bif (inI ((gi d 3).int + 1)) then some (none, [.l (gi d 0).rows, .l (gi d 1).rows, .i (gi d 2).int, .i ((gi d 3).int + 1)]) else none))) else none) else none) else (bif (inI ((gi d 3).int + 1)) then some (none, [.l (gi d 0).rows, .l (gi d 1).rows, .i (gi d 2).int, .i ((gi d 3).int + 1)]) else none))))))))) else none))) else none) else some (some 1, []))
def l_band_CheckSegments_4 : LSpec := ⟨4, [], ⟨54, [(0, .s (.list KSegment)), (9, .s (.list KSegment)), (10, .s (.int .i64)), (11, .s (.int .i64))], []⟩, [], [⟨.ret, ⟨54, [(2, .s (.int .i64))], []⟩, []⟩, ⟨.exit 0, ⟨54, [], []⟩, []⟩], st_band_CheckSegments_4⟩
theorem r_band_CheckSegments_4 : RoundOK P t42 noLoops 0 (loopAt Tryz.f31 4) l_band_CheckSegments_4 := fun d => by kernel_rfl
def L_band_CheckSegments_4 : LT := noLoops.add 0 l_band_CheckSegments_4
theorem L_band_CheckSegments_4_ok : LoopsOK P 0 L_band_CheckSegments_4 (bodyOf Tryz.f31) := LoopsOK.add hm t42_ok (by kernel_rfl) (noLoops_ok _ _ _) r_band_CheckSegments_4
def F_band_CheckSegments (d : List G) : Option (List G) :=
  (bif (ltI 500 (((gi d 0).rows.length : Nat) : Int)) then some [.i 2] else (loopB true (LRun st_band_CheckSegments_4 [.l (gi d 0).rows, .l (gi d 0).rows, .i (((gi d 0).rows.length : Nat) : Int), .i 0]) fun cg6 g6 => (bif Nat.beq cg6 0 then some [.i (gi g6 0).int] else some [.i 0])))
def s_band_CheckSegments : FSpec := ⟨31, [.s (.list KSegment)], [], [], [.s (.int .i64)], [], [], [], F_band_CheckSegments⟩
theorem b_band_CheckSegments : BodyOK P t42 L_band_CheckSegments_4 Tryz.f31 s_band_CheckSegments := fun d => by kernel_rfl
theorem c_band_CheckSegments : ∀ d r, F_band_CheckSegments d = some r → ACallX P 31 (s_band_CheckSegments.args0 d) (denH (s_band_CheckSegments.H0 d)) (s_band_CheckSegments.out r) (denH (s_band_CheckSegments.H1 r)) := fun d r h => body_sound hm t42_ok (sp := s_band_CheckSegments) Tryz.func31 (by kernel_rfl) L_band_CheckSegments_4_ok b_band_CheckSegments (by kernel_rfl) h
def t43 : Tab := t42.addP s_band_CheckSegments
theorem t43_ok : TabOK P t43 := t42_ok.addP (by kernel_rfl) (by kernel_rfl) c_band_CheckSegments

/- pileup/kit.IsMoment -/
def F_kit_IsMoment (d : List G) : Option (List G) :=
  (callF (F_kit_Outside [.i (gi d 0).int, .i 0, .i 345686399999]) fun g1 => some [.t (!(gi g1 0).bool)])
def s_kit_IsMoment : FSpec := ⟨62, [.s (.int .i64)], [], [], [.s (.bool)], [], [], [], F_kit_IsMoment⟩
theorem b_kit_IsMoment : BodyOK P t43 noLoops Tryz.f62 s_kit_IsMoment := fun d => by kernel_rfl
theorem c_kit_IsMoment : ∀ d r, F_kit_IsMoment d = some r → ACallX P 62 (s_kit_IsMoment.args0 d) (denH (s_kit_IsMoment.H0 d)) (s_kit_IsMoment.out r) (denH (s_kit_IsMoment.H1 r)) := fun d r h => body_sound hm t43_ok (sp := s_kit_IsMoment) Tryz.func62 (by kernel_rfl) (noLoops_ok _ _ _) b_kit_IsMoment (by kernel_rfl) h
def t44 : Tab := t43.addP s_kit_IsMoment
theorem t44_ok : TabOK P t44 := t43_ok.addP (by kernel_rfl) (by kernel_rfl) c_kit_IsMoment

/- pileup/band.freeFault -/
def F_band_freeFault (d : List G) : Option (List G) :=
  (callF (F_band_CheckSegments [.l (gi d 0).rows]) fun g1 => (bif ((gi g1 0).int != 0) then some [.i (gi g1 0).int] else (callF (F_band_CheckBusy [.l (gi d 1).rows]) fun g2 => (bif ((gi g2 0).int != 0) then some [.i (gi g2 0).int] else (callF (F_kit_IsKey [.s (gi d 2).str]) fun g3 => (bif (!(gi g3 0).bool) then some [.i 5] else (callF (F_kit_IsMode [.i (gi d 3).int]) fun g4 => (bif (!(gi g4 0).bool) then some [.i 4] else (callF (F_kit_Outside [.i (gi d 4).int, .i 1, .i 100000]) fun g5 => (bif (gi g5 0).bool then some [.i 1] else (callF (F_kit_IsMoment [.i (gi d 5).int]) fun g6 => (bif (!(gi g6 0).bool) then some [.i 1] else some [.i 0]))))))))))))
def s_band_freeFault : FSpec := ⟨52, [.s (.list KSegment), .s (.list KBusy), .s (.str), .s (.int .i64), .s (.int .i64), .s (.int .i64)], [], [], [.s (.int .i64)], [], [], [], F_band_freeFault⟩
theorem b_band_freeFault : BodyOK P t44 noLoops Tryz.f52 s_band_freeFault := fun d => by kernel_rfl
theorem c_band_freeFault : ∀ d r, F_band_freeFault d = some r → ACallX P 52 (s_band_freeFault.args0 d) (denH (s_band_freeFault.H0 d)) (s_band_freeFault.out r) (denH (s_band_freeFault.H1 r)) := fun d r h => body_sound hm t44_ok (sp := s_band_freeFault) Tryz.func52 (by kernel_rfl) (noLoops_ok _ _ _) b_band_freeFault (by kernel_rfl) h
def t45 : Tab := t44.addP s_band_freeFault
theorem t45_ok : TabOK P t45 := t44_ok.addP (by kernel_rfl) (by kernel_rfl) c_band_freeFault

/- pileup/kit.Has -/
def F_kit_Has (d : List G) : Option (List G) :=
  (bif (leI (gi (gi d 0).row 0).int (gi d 1).int) then some [.t (ltI (gi d 1).int (gi (gi d 0).row 1).int)] else some [.t false])
def s_kit_Has : FSpec := ⟨81, [.s (.row [.int .i64, .int .i64]), .s (.int .i64)], [], [], [.s (.bool)], [], [], [], F_kit_Has⟩
theorem b_kit_Has : BodyOK P t45 noLoops Tryz.f81 s_kit_Has := fun d => by kernel_rfl
theorem c_kit_Has : ∀ d r, F_kit_Has d = some r → ACallX P 81 (s_kit_Has.args0 d) (denH (s_kit_Has.H0 d)) (s_kit_Has.out r) (denH (s_kit_Has.H1 r)) := fun d r h => body_sound hm t45_ok (sp := s_kit_Has) Tryz.func81 (by kernel_rfl) (noLoops_ok _ _ _) b_kit_Has (by kernel_rfl) h
def t46 : Tab := t45.addP s_kit_Has
theorem t46_ok : TabOK P t46 := t45_ok.addP (by kernel_rfl) (by kernel_rfl) c_kit_Has

/- slices.Index[[]int,int] -/
def st_slices_Index_int_2 (d : List G) : Option (Option Nat × List G) :=
  (bif (ltI (gi d 3).int (gi d 2).int) then (bif ((nnI (gi d 3).int) && (ltI (gi d 3).int (((gi d 0).rows.length : Nat) : Int))) then (bif ((gi d 1).int == (gi ((gi d 0).rows.getD (((gi d 3).int).toNat) []) 0).int) then some (some 0, [.i (gi d 3).int]) else (bif (inI ((gi d 3).int + 1)) then some (none, [.l (gi d 0).rows, .i (gi d 1).int, .i (gi d 2).int, .i ((gi d 3).int + 1)]) else none)) else none) else some (some 1, []))
def l_slices_Index_int_2 : LSpec := ⟨2, [], ⟨19, [(0, .s (.list [.int .i64])), (1, .s (.int .i64)), (7, .s (.int .i64)), (8, .s (.int .i64))], []⟩, [], [⟨.ret, ⟨19, [(4, .s (.int .i64))], []⟩, []⟩, ⟨.exit 0, ⟨19, [], []⟩, []⟩], st_slices_Index_int_2⟩
theorem r_slices_Index_int_2 : RoundOK P t46 noLoops 0 (loopAt Tryz.f136 2) l_slices_Index_int_2 := fun d => by kernel_rfl
def L_slices_Index_int_2 : LT := noLoops.add 0 l_slices_Index_int_2
theorem L_slices_Index_int_2_ok : LoopsOK P 0 L_slices_Index_int_2 (bodyOf Tryz.f136) := LoopsOK.add hm t46_ok (by kernel_rfl) (noLoops_ok _ _ _) r_slices_Index_int_2
def F_slices_Index_int (d : List G) : Option (List G) :=
  (loopB true (LRun st_slices_Index_int_2 [.l (gi d 0).rows, .i (gi d 1).int, .i (((gi d 0).rows.length : Nat) : Int), .i 0]) fun cg1 g1 => (bif Nat.beq cg1 0 then some [.i (gi g1 0).int] else some [.i (-1)]))
def s_slices_Index_int : FSpec := ⟨136, [.s (.list [.int .i64]), .s (.int .i64)], [], [], [.s (.int .i64)], [], [], [], F_slices_Index_int⟩
theorem b_slices_Index_int : BodyOK P t46 L_slices_Index_int_2 Tryz.f136 s_slices_Index_int := fun d => by kernel_rfl
theorem c_slices_Index_int : ∀ d r, F_slices_Index_int d = some r → ACallX P 136 (s_slices_Index_int.args0 d) (denH (s_slices_Index_int.H0 d)) (s_slices_Index_int.out r) (denH (s_slices_Index_int.H1 r)) := fun d r h => body_sound hm t46_ok (sp := s_slices_Index_int) Tryz.func136 (by kernel_rfl) L_slices_Index_int_2_ok b_slices_Index_int (by kernel_rfl) h
def t47 : Tab := t46.addP s_slices_Index_int
theorem t47_ok : TabOK P t47 := t46_ok.addP (by kernel_rfl) (by kernel_rfl) c_slices_Index_int

/- slices.Contains[[]int,int] -/
def F_slices_Contains_int (d : List G) : Option (List G) :=
  (callF (F_slices_Index_int [.l (gi d 0).rows, .i (gi d 1).int]) fun g1 => some [.t (leI 0 (gi g1 0).int)])
def s_slices_Contains_int : FSpec := ⟨100, [.s (.list [.int .i64]), .s (.int .i64)], [], [], [.s (.bool)], [], [], [], F_slices_Contains_int⟩
theorem b_slices_Contains_int : BodyOK P t47 noLoops Tryz.f100 s_slices_Contains_int := fun d => by kernel_rfl
theorem c_slices_Contains_int : ∀ d r, F_slices_Contains_int d = some r → ACallX P 100 (s_slices_Contains_int.args0 d) (denH (s_slices_Contains_int.H0 d)) (s_slices_Contains_int.out r) (denH (s_slices_Contains_int.H1 r)) := fun d r h => body_sound hm t47_ok (sp := s_slices_Contains_int) Tryz.func100 (by kernel_rfl) (noLoops_ok _ _ _) b_slices_Contains_int (by kernel_rfl) h
def t48 : Tab := t47.addP s_slices_Contains_int
theorem t48_ok : TabOK P t48 := t47_ok.addP (by kernel_rfl) (by kernel_rfl) c_slices_Contains_int

/- pileup/band.joined$1 -/
def F_band_joined_1 (d : List G) : Option (List G) :=
  (bif (inI ((gi (gi d 0).row 0).int - (gi (gi d 1).row 0).int)) then some [.i ((gi (gi d 0).row 0).int - (gi (gi d 1).row 0).int)] else none)
def s_band_joined_1 : FSpec := ⟨117, [.s (.row [.int .i64, .int .i64]), .s (.row [.int .i64, .int .i64])], [], [], [.s (.int .i64)], [], [], [], F_band_joined_1⟩
theorem b_band_joined_1 : BodyOK P t48 noLoops Tryz.f117 s_band_joined_1 := fun d => by kernel_rfl
theorem c_band_joined_1 : ∀ d r, F_band_joined_1 d = some r → ACallX P 117 (s_band_joined_1.args0 d) (denH (s_band_joined_1.H0 d)) (s_band_joined_1.out r) (denH (s_band_joined_1.H1 r)) := fun d r h => body_sound hm t48_ok (sp := s_band_joined_1) Tryz.func117 (by kernel_rfl) (noLoops_ok _ _ _) b_band_joined_1 (by kernel_rfl) h
def t49 : Tab := t48.addP s_band_joined_1
theorem t49_ok : TabOK P t49 := t48_ok.addP (by kernel_rfl) (by kernel_rfl) c_band_joined_1

/- slices.SortFunc[[]pileup/api.Row,pileup/api.Row] -/
def F_slices_SortFunc_Row (d : List G) : Option (List G) :=
  sortG F_band_joined_1 d
def s_slices_SortFunc_Row : FSpec := ⟨116, [.s (.vec 0 2), .s (.fn 117)], [.vec [.int .i64, .int .i64] 0], [.slot 0], [], [.vec [.int .i64, .int .i64] 0], [.fix 0], [], F_slices_SortFunc_Row⟩
theorem c_slices_SortFunc_Row : ∀ d r, F_slices_SortFunc_Row d = some r → ACallX P 116 (s_slices_SortFunc_Row.args0 d) (denH (s_slices_SortFunc_Row.H0 d)) (s_slices_SortFunc_Row.out r) (denH (s_slices_SortFunc_Row.H1 r)) := fun d r h => sortK_call rfl Tryz.laysSort116 [.int .i64, .int .i64] (by kernel_rfl) Tryz.isAgg39 Tryz.sizeOf39 117 (by kernel_rfl) F_band_joined_1 c_band_joined_1 d r h
def t50 : Tab := t49.addW s_slices_SortFunc_Row
theorem t50_ok : TabOK P t50 := t49_ok.addW (by kernel_rfl) (by kernel_rfl) c_slices_SortFunc_Row

end
end Go.Proofs.SYtpbepppkchjccaaGreatDoor
