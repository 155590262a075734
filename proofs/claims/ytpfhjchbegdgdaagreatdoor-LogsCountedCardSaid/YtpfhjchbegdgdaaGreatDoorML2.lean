/-
  What is proved here: functions of the program as functions on data. No condition.
-/
import Derived.Test.YtpfhjchbegdgdaaGreatDoorML1
set_option linter.unusedSimpArgs false
set_option linter.unusedVariables false
namespace Go.Proofs.SYtpfhjchbegdgdaaGreatDoor
open Go Go.AL Go.Proofs
/- pileup/pilemake.Below -/
def F_pilemake_Below (d : List G) : Option (List G) :=
  (bif (ltI (gi d 1).int 1) then some [.i 0] else (bif (!((gi d 1).int == 0)) then (bif (ltI (Int.tmod (gi d 0).int (gi d 1).int) 0) then (bif (inI ((Int.tmod (gi d 0).int (gi d 1).int) + (gi d 1).int)) then some [.i ((Int.tmod (gi d 0).int (gi d 1).int) + (gi d 1).int)] else none) else some [.i (Int.tmod (gi d 0).int (gi d 1).int)]) else none))
noncomputable def s_pilemake_Below : FSpec := ⟨97, [.s (.int .i64), .s (.int .i64)], [], [], [.s (.int .i64)], [], [], [], F_pilemake_Below⟩
theorem b_pilemake_Below : BodyOK P t6 noLoops Tryz.f97 s_pilemake_Below := fun d => by kernel_rfl
theorem c_pilemake_Below : ∀ d r, F_pilemake_Below d = some r → ACallX P 97 (s_pilemake_Below.args0 d) (denH (s_pilemake_Below.H0 d)) (s_pilemake_Below.out r) (denH (s_pilemake_Below.H1 r)) := fun d r h => body_sound hm t6_ok (sp := s_pilemake_Below) Tryz.func97 (by kernel_rfl) (noLoops_ok _ _ _) b_pilemake_Below (by kernel_rfl) h
noncomputable def t7 : Tab := t6.addP s_pilemake_Below
theorem t7_ok : TabOK P t7 := t6_ok.addP (by kernel_rfl) (by kernel_rfl) c_pilemake_Below

/- (*pileup/pilemake.Stream).Next -/
def F_pilemake_Stream_Next (d : List G) : Option (List G) :=
  (bif (inI ((gi d 1).int + 1)) then (bif ((((gi d 0).rows.length : Nat) : Int) == 0) then (bif (inI (((gi d 1).int + 1) * 7919)) then (callF (F_pilemake_Below [.i (((gi d 1).int + 1) * 7919), .i (gi d 2).int]) fun g1 => some [.l (gi d 0).rows, .i ((gi d 1).int + 1), .i (gi g1 0).int]) else none) else (bif (inI (((gi d 1).int + 1) - 1)) then (bif (!((((gi d 0).rows.length : Nat) : Int) == 0)) then (bif (inI (((gi d 1).int + 1) - 1)) then (bif ((!((((gi d 0).rows.length : Nat) : Int) == 0)) && (inI (Int.tdiv (((gi d 1).int + 1) - 1) (((gi d 0).rows.length : Nat) : Int)))) then (bif ((nnI (Int.tmod (((gi d 1).int + 1) - 1) (((gi d 0).rows.length : Nat) : Int))) && (ltI (Int.tmod (((gi d 1).int + 1) - 1) (((gi d 0).rows.length : Nat) : Int)) (((gi d 0).rows.length : Nat) : Int))) then (callF (F_pilemake_Below [.i (gi ((gi d 0).rows.getD ((Int.tmod (((gi d 1).int + 1) - 1) (((gi d 0).rows.length : Nat) : Int)).toNat) []) 0).int, .i 1073741824]) fun g2 => (bif (inI (7919 + (Int.tmod (((gi d 1).int + 1) - 1) (((gi d 0).rows.length : Nat) : Int)))) then (bif (inI ((Int.tdiv (((gi d 1).int + 1) - 1) (((gi d 0).rows.length : Nat) : Int)) * (7919 + (Int.tmod (((gi d 1).int + 1) - 1) (((gi d 0).rows.length : Nat) : Int))))) then (bif (inI ((gi g2 0).int + ((Int.tdiv (((gi d 1).int + 1) - 1) (((gi d 0).rows.length : Nat) : Int)) * (7919 + (Int.tmod (((gi d 1).int + 1) - 1) (((gi d 0).rows.length : Nat) : Int)))))) then (callF (F_pilemake_Below [.i ((gi g2 0).int + ((Int.tdiv (((gi d 1).int + 1) - 1) (((gi d 0).rows.length : Nat) : Int)) * (7919 + (Int.tmod (((gi d 1).int + 1) - 1) (((gi d 0).rows.length : Nat) : Int))))), .i (gi d 2).int]) fun g3 => some [.l (gi d 0).rows, .i ((gi d 1).int + 1), .i (gi g3 0).int]) else none) else none) else none)) else none) else none) else none) else none) else none)) else none)
noncomputable def s_pilemake_Stream_Next : FSpec := ⟨39, [.s (.ptr 0 0), .s (.int .i64)], [.box [.list [.int .i64], .int .i64]], [.slot 0], [.s (.int .i64)], [.box [.list [.int .i64], .int .i64]], [.fix 0], [], F_pilemake_Stream_Next⟩
theorem b_pilemake_Stream_Next : BodyOK P t7 noLoops Tryz.f39 s_pilemake_Stream_Next := fun d => by kernel_rfl
theorem c_pilemake_Stream_Next : ∀ d r, F_pilemake_Stream_Next d = some r → ACallX P 39 (s_pilemake_Stream_Next.args0 d) (denH (s_pilemake_Stream_Next.H0 d)) (s_pilemake_Stream_Next.out r) (denH (s_pilemake_Stream_Next.H1 r)) := fun d r h => body_sound hm t7_ok (sp := s_pilemake_Stream_Next) Tryz.func39 (by kernel_rfl) (noLoops_ok _ _ _) b_pilemake_Stream_Next (by kernel_rfl) h
noncomputable def t8 : Tab := t7.addW s_pilemake_Stream_Next
theorem t8_ok : TabOK P t8 := t7_ok.addW (by kernel_rfl) (by kernel_rfl) c_pilemake_Stream_Next

/- (*pileup/pilemake.Stream).Range -/
def F_pilemake_Stream_Range (d : List G) : Option (List G) :=
  (bif (ltI (gi d 3).int (gi d 2).int) then some [.l (gi d 0).rows, .i (gi d 1).int, .i (gi d 2).int] else (bif (inI ((gi d 3).int - (gi d 2).int)) then (bif (inI (((gi d 3).int - (gi d 2).int) + 1)) then (callF (F_pilemake_Stream_Next [.l (gi d 0).rows, .i (gi d 1).int, .i (((gi d 3).int - (gi d 2).int) + 1)]) fun g1 => (bif (inI ((gi d 2).int + (gi g1 2).int)) then some [.l (gi g1 0).rows, .i (gi g1 1).int, .i ((gi d 2).int + (gi g1 2).int)] else none)) else none) else none))
noncomputable def s_pilemake_Stream_Range : FSpec := ⟨15, [.s (.ptr 0 0), .s (.int .i64), .s (.int .i64)], [.box [.list [.int .i64], .int .i64]], [.slot 0], [.s (.int .i64)], [.box [.list [.int .i64], .int .i64]], [.fix 0], [], F_pilemake_Stream_Range⟩
theorem b_pilemake_Stream_Range : BodyOK P t8 noLoops Tryz.f15 s_pilemake_Stream_Range := fun d => by kernel_rfl
theorem c_pilemake_Stream_Range : ∀ d r, F_pilemake_Stream_Range d = some r → ACallX P 15 (s_pilemake_Stream_Range.args0 d) (denH (s_pilemake_Stream_Range.H0 d)) (s_pilemake_Stream_Range.out r) (denH (s_pilemake_Stream_Range.H1 r)) := fun d r h => body_sound hm t8_ok (sp := s_pilemake_Stream_Range) Tryz.func15 (by kernel_rfl) (noLoops_ok _ _ _) b_pilemake_Stream_Range (by kernel_rfl) h
noncomputable def t9 : Tab := t8.addW s_pilemake_Stream_Range
theorem t9_ok : TabOK P t9 := t8_ok.addW (by kernel_rfl) (by kernel_rfl) c_pilemake_Stream_Range

/- (*pileup/pilemake.Stream).Pick -/
def F_pilemake_Stream_Pick (d : List G) : Option (List G) :=
  (callF (F_pilemake_Stream_Next [.l (gi d 0).rows, .i (gi d 1).int, .i (((gi d 2).rows.length : Nat) : Int)]) fun g1 => (bif ((nnI (gi g1 2).int) && (ltI (gi g1 2).int (((gi d 2).rows.length : Nat) : Int))) then some [.l (gi g1 0).rows, .i (gi g1 1).int, .i (gi ((gi d 2).rows.getD (((gi g1 2).int).toNat) []) 0).int] else none))
noncomputable def s_pilemake_Stream_Pick : FSpec := ⟨16, [.s (.ptr 0 0), .s (.list [.int .i64])], [.box [.list [.int .i64], .int .i64]], [.slot 0], [.s (.int .i64)], [.box [.list [.int .i64], .int .i64]], [.fix 0], [], F_pilemake_Stream_Pick⟩
theorem b_pilemake_Stream_Pick : BodyOK P t9 noLoops Tryz.f16 s_pilemake_Stream_Pick := fun d => by kernel_rfl
theorem c_pilemake_Stream_Pick : ∀ d r, F_pilemake_Stream_Pick d = some r → ACallX P 16 (s_pilemake_Stream_Pick.args0 d) (denH (s_pilemake_Stream_Pick.H0 d)) (s_pilemake_Stream_Pick.out r) (denH (s_pilemake_Stream_Pick.H1 r)) := fun d r h => body_sound hm t9_ok (sp := s_pilemake_Stream_Pick) Tryz.func16 (by kernel_rfl) (noLoops_ok _ _ _) b_pilemake_Stream_Pick (by kernel_rfl) h
noncomputable def t10 : Tab := t9.addW s_pilemake_Stream_Pick
theorem t10_ok : TabOK P t10 := t9_ok.addW (by kernel_rfl) (by kernel_rfl) c_pilemake_Stream_Pick

/- (*pileup/pilemake.Stream).Some -/
def F_pilemake_Stream_Some (d : List G) : Option (List G) :=
  (callF (F_pilemake_Stream_Next [.l (gi d 0).rows, .i (gi d 1).int, .i (((gi d 2).rows.length : Nat) : Int)]) fun g1 => (bif ((nnI (gi g1 2).int) && (ltI (gi g1 2).int (((gi d 2).rows.length : Nat) : Int))) then some [.l (gi g1 0).rows, .i (gi g1 1).int, .s (gi ((gi d 2).rows.getD (((gi g1 2).int).toNat) []) 0).str] else none))
noncomputable def s_pilemake_Stream_Some : FSpec := ⟨95, [.s (.ptr 0 0), .s (.list [.str])], [.box [.list [.int .i64], .int .i64]], [.slot 0], [.s (.str)], [.box [.list [.int .i64], .int .i64]], [.fix 0], [], F_pilemake_Stream_Some⟩
theorem b_pilemake_Stream_Some : BodyOK P t10 noLoops Tryz.f95 s_pilemake_Stream_Some := fun d => by kernel_rfl
theorem c_pilemake_Stream_Some : ∀ d r, F_pilemake_Stream_Some d = some r → ACallX P 95 (s_pilemake_Stream_Some.args0 d) (denH (s_pilemake_Stream_Some.H0 d)) (s_pilemake_Stream_Some.out r) (denH (s_pilemake_Stream_Some.H1 r)) := fun d r h => body_sound hm t10_ok (sp := s_pilemake_Stream_Some) Tryz.func95 (by kernel_rfl) (noLoops_ok _ _ _) b_pilemake_Stream_Some (by kernel_rfl) h
noncomputable def t11 : Tab := t10.addW s_pilemake_Stream_Some
theorem t11_ok : TabOK P t11 := t10_ok.addW (by kernel_rfl) (by kernel_rfl) c_pilemake_Stream_Some

/- (*pileup/pilemake.Stream).Flip -/
def F_pilemake_Stream_Flip (d : List G) : Option (List G) :=
  (callF (F_pilemake_Stream_Next [.l (gi d 0).rows, .i (gi d 1).int, .i (gi d 2).int]) fun g1 => some [.l (gi g1 0).rows, .i (gi g1 1).int, .t ((gi g1 2).int == 0)])
noncomputable def s_pilemake_Stream_Flip : FSpec := ⟨17, [.s (.ptr 0 0), .s (.int .i64)], [.box [.list [.int .i64], .int .i64]], [.slot 0], [.s (.bool)], [.box [.list [.int .i64], .int .i64]], [.fix 0], [], F_pilemake_Stream_Flip⟩
theorem b_pilemake_Stream_Flip : BodyOK P t11 noLoops Tryz.f17 s_pilemake_Stream_Flip := fun d => by kernel_rfl
theorem c_pilemake_Stream_Flip : ∀ d r, F_pilemake_Stream_Flip d = some r → ACallX P 17 (s_pilemake_Stream_Flip.args0 d) (denH (s_pilemake_Stream_Flip.H0 d)) (s_pilemake_Stream_Flip.out r) (denH (s_pilemake_Stream_Flip.H1 r)) := fun d r h => body_sound hm t11_ok (sp := s_pilemake_Stream_Flip) Tryz.func17 (by kernel_rfl) (noLoops_ok _ _ _) b_pilemake_Stream_Flip (by kernel_rfl) h
noncomputable def t12 : Tab := t11.addW s_pilemake_Stream_Flip
theorem t12_ok : TabOK P t12 := t11_ok.addW (by kernel_rfl) (by kernel_rfl) c_pilemake_Stream_Flip

/- (*pileup/pilemake.Stream).ACall -/
def F_pilemake_Stream_ACall (d : List G) : Option (List G) :=
  (callF (F_pilemake_Stream_Flip [.l (gi d 0).rows, .i (gi d 1).int, .i 60]) fun g1 => (bif (gi g1 2).bool then (callF (F_pilemake_Stream_Some [.l (gi g1 0).rows, .i (gi g1 1).int, .l [[.s (⟨#[]⟩ : ByteArray)], [.s (⟨#[107, 49]⟩ : ByteArray)], [.s (⟨#[75, 49, 65, 66]⟩ : ByteArray)], [.s (⟨#[107, 49, 97, 98, 47]⟩ : ByteArray)], [.s (⟨#[49, 97]⟩ : ByteArray)], [.s (⟨#[107, 49, 97, 98, 47, 109, 109, 47, 112]⟩ : ByteArray)]]]) fun g2 => some [.l (gi g2 0).rows, .i (gi g2 1).int, .s (gi g2 2).str]) else (callF (F_pilemake_Stream_Some [.l (gi g1 0).rows, .i (gi g1 1).int, .l [[.s (⟨#[107, 49, 97, 98]⟩ : ByteArray)], [.s (⟨#[107, 49, 97, 97]⟩ : ByteArray)], [.s (⟨#[107, 49, 97, 98, 47, 52]⟩ : ByteArray)], [.s (⟨#[111, 104, 50, 97, 98, 99]⟩ : ByteArray)], [.s (⟨#[111, 104, 50, 97, 98, 100]⟩ : ByteArray)], [.s (⟨#[119, 49, 97, 119]⟩ : ByteArray)], [.s (⟨#[110, 49, 109, 109]⟩ : ByteArray)], [.s (⟨#[103, 51, 120, 121, 122, 47, 112]⟩ : ByteArray)]]]) fun g3 => some [.l (gi g3 0).rows, .i (gi g3 1).int, .s (gi g3 2).str])))
noncomputable def s_pilemake_Stream_ACall : FSpec := ⟨71, [.s (.ptr 0 0)], [.box [.list [.int .i64], .int .i64]], [.slot 0], [.s (.str)], [.box [.list [.int .i64], .int .i64]], [.fix 0], [], F_pilemake_Stream_ACall⟩
theorem b_pilemake_Stream_ACall : BodyOK P t12 noLoops Tryz.f71 s_pilemake_Stream_ACall := fun d => by kernel_rfl
theorem c_pilemake_Stream_ACall : ∀ d r, F_pilemake_Stream_ACall d = some r → ACallX P 71 (s_pilemake_Stream_ACall.args0 d) (denH (s_pilemake_Stream_ACall.H0 d)) (s_pilemake_Stream_ACall.out r) (denH (s_pilemake_Stream_ACall.H1 r)) := fun d r h => body_sound hm t12_ok (sp := s_pilemake_Stream_ACall) Tryz.func71 (by kernel_rfl) (noLoops_ok _ _ _) b_pilemake_Stream_ACall (by kernel_rfl) h
noncomputable def t13 : Tab := t12.addW s_pilemake_Stream_ACall
theorem t13_ok : TabOK P t13 := t12_ok.addW (by kernel_rfl) (by kernel_rfl) c_pilemake_Stream_ACall

/- (*pileup/pilemake.Stream).Odd -/
def F_pilemake_Stream_Odd (d : List G) : Option (List G) :=
  (callF (F_pilemake_Stream_Flip [.l (gi d 0).rows, .i (gi d 1).int, .i 12]) fun g1 => (bif (gi g1 2).bool then (bif (inI ((gi d 2).int - 1)) then (bif (inI ((gi d 3).int + 1)) then (callF (F_pilemake_Stream_Pick [.l (gi g1 0).rows, .i (gi g1 1).int, .l [[.i ((gi d 2).int - 1)], [.i ((gi d 3).int + 1)], [.i (gi d 2).int], [.i (gi d 3).int], [.i (-1099511627776)], [.i 1099511627776]]]) fun g2 => some [.l (gi g2 0).rows, .i (gi g2 1).int, .i (gi g2 2).int]) else none) else none) else (callF (F_pilemake_Stream_Range [.l (gi g1 0).rows, .i (gi g1 1).int, .i (gi d 2).int, .i (gi d 3).int]) fun g3 => some [.l (gi g3 0).rows, .i (gi g3 1).int, .i (gi g3 2).int])))
noncomputable def s_pilemake_Stream_Odd : FSpec := ⟨96, [.s (.ptr 0 0), .s (.int .i64), .s (.int .i64)], [.box [.list [.int .i64], .int .i64]], [.slot 0], [.s (.int .i64)], [.box [.list [.int .i64], .int .i64]], [.fix 0], [], F_pilemake_Stream_Odd⟩
theorem b_pilemake_Stream_Odd : BodyOK P t13 noLoops Tryz.f96 s_pilemake_Stream_Odd := fun d => by kernel_rfl
theorem c_pilemake_Stream_Odd : ∀ d r, F_pilemake_Stream_Odd d = some r → ACallX P 96 (s_pilemake_Stream_Odd.args0 d) (denH (s_pilemake_Stream_Odd.H0 d)) (s_pilemake_Stream_Odd.out r) (denH (s_pilemake_Stream_Odd.H1 r)) := fun d r h => body_sound hm t13_ok (sp := s_pilemake_Stream_Odd) Tryz.func96 (by kernel_rfl) (noLoops_ok _ _ _) b_pilemake_Stream_Odd (by kernel_rfl) h
noncomputable def t14 : Tab := t13.addW s_pilemake_Stream_Odd
theorem t14_ok : TabOK P t14 := t13_ok.addW (by kernel_rfl) (by kernel_rfl) c_pilemake_Stream_Odd

/- (*pileup/pilemake.Stream).SomeContact -/
def F_pilemake_Stream_SomeContact (d : List G) : Option (List G) :=
  (callF (F_pilemake_Stream_Pick [.l (gi d 0).rows, .i (gi d 1).int, .l [[.i 1], [.i 1], [.i 2], [.i 3]]]) fun g1 => (callF (F_pilemake_Stream_Some [.l (gi g1 0).rows, .i (gi g1 1).int, .l [[.s (⟨#[98, 50, 48]⟩ : ByteArray)], [.s (⟨#[98, 50, 48]⟩ : ByteArray)], [.s (⟨#[98, 52, 48]⟩ : ByteArray)]]]) fun g2 => (callF (F_pilemake_Stream_ACall [.l (gi g2 0).rows, .i (gi g2 1).int]) fun g3 => (callF (F_pilemake_Stream_Pick [.l (gi g3 0).rows, .i (gi g3 1).int, .l [[.i 0], [.i 1], [.i 2], [.i 3], [.i 4], [.i 5], [.i 6], [.i 7]]]) fun g4 => (callF (F_pilemake_Stream_Pick [.l (gi g4 0).rows, .i (gi g4 1).int, .l [[.i 0], [.i 1], [.i 2], [.i 9]]]) fun g5 => (callF (F_pilemake_Stream_Some [.l (gi g5 0).rows, .i (gi g5 1).int, .l [[.s (⟨#[]⟩ : ByteArray)], [.s (⟨#[]⟩ : ByteArray)], [.s (⟨#[102, 105, 110]⟩ : ByteArray)]]]) fun g6 => (callF (F_pilemake_Stream_Some [.l (gi g6 0).rows, .i (gi g6 1).int, .l [[.s (⟨#[]⟩ : ByteArray)], [.s (⟨#[]⟩ : ByteArray)], [.s (⟨#[117, 115, 97]⟩ : ByteArray)]]]) fun g7 => (callF (F_pilemake_Stream_Flip [.l (gi g7 0).rows, .i (gi g7 1).int, .i 100]) fun g8 => (bif (gi g8 2).bool then (callF (F_pilemake_Stream_Next [.l (gi g8 0).rows, .i (gi g8 1).int, .i 4]) fun g9 => (bif ((gi g9 2).int == 0) then (callF (F_pilemake_Stream_Odd [.l (gi g9 0).rows, .i (gi g9 1).int, .i 0, .i 500]) fun g10 => (callF (F_pilemake_Stream_Odd [.l (gi g10 0).rows, .i (gi g10 1).int, .i 1, .i 3]) fun g11 => some [.l (gi g11 0).rows, .i (gi g11 1).int, .l [[.i (gi g10 2).int, .i (gi g11 2).int, .s (gi g2 2).str, .s (gi g3 2).str, .i (gi g4 2).int, .i (gi g5 2).int, .s (gi g6 2).str, .s (gi g7 2).str]]])) else (bif ((gi g9 2).int == 1) then (callF (F_pilemake_Stream_Some [.l (gi g9 0).rows, .i (gi g9 1).int, .l [[.s (⟨#[]⟩ : ByteArray)], [.s (⟨#[66]⟩ : ByteArray)], [.s (⟨#[98, 50, 48]⟩ : ByteArray)]]]) fun g12 => some [.l (gi g12 0).rows, .i (gi g12 1).int, .l [[.i (gi d 2).int, .i (gi g1 2).int, .s (gi g12 2).str, .s (gi g3 2).str, .i (gi g4 2).int, .i (gi g5 2).int, .s (gi g6 2).str, .s (gi g7 2).str]]]) else (bif ((gi g9 2).int == 2) then (callF (F_pilemake_Stream_Odd [.l (gi g9 0).rows, .i (gi g9 1).int, .i 0, .i 99999]) fun g13 => (callF (F_pilemake_Stream_Odd [.l (gi g13 0).rows, .i (gi g13 1).int, .i 0, .i 99999]) fun g14 => some [.l (gi g14 0).rows, .i (gi g14 1).int, .l [[.i (gi d 2).int, .i (gi g1 2).int, .s (gi g2 2).str, .s (gi g3 2).str, .i (gi g13 2).int, .i (gi g14 2).int, .s (gi g6 2).str, .s (gi g7 2).str]]])) else (callF (F_pilemake_Stream_Some [.l (gi g9 0).rows, .i (gi g9 1).int, .l [[.s (⟨#[]⟩ : ByteArray)], [.s (⟨#[65]⟩ : ByteArray)]]]) fun g15 => (callF (F_pilemake_Stream_Some [.l (gi g15 0).rows, .i (gi g15 1).int, .l [[.s (⟨#[49]⟩ : ByteArray)], [.s (⟨#[117, 115, 97]⟩ : ByteArray)]]]) fun g16 => some [.l (gi g16 0).rows, .i (gi g16 1).int, .l [[.i (gi d 2).int, .i (gi g1 2).int, .s (gi g2 2).str, .s (gi g3 2).str, .i (gi g4 2).int, .i (gi g5 2).int, .s (gi g15 2).str, .s (gi g16 2).str]]])))))) else some [.l (gi g8 0).rows, .i (gi g8 1).int, .l [[.i (gi d 2).int, .i (gi g1 2).int, .s (gi g2 2).str, .s (gi g3 2).str, .i (gi g4 2).int, .i (gi g5 2).int, .s (gi g6 2).str, .s (gi g7 2).str]]])))))))))
noncomputable def s_pilemake_Stream_SomeContact : FSpec := ⟨37, [.s (.ptr 0 0), .s (.int .i64)], [.box [.list [.int .i64], .int .i64]], [.slot 0], [.s (.row KContact)], [.box [.list [.int .i64], .int .i64]], [.fix 0], [], F_pilemake_Stream_SomeContact⟩
theorem b_pilemake_Stream_SomeContact : BodyOK P t14 noLoops Tryz.f37 s_pilemake_Stream_SomeContact := fun d => by kernel_rfl
theorem c_pilemake_Stream_SomeContact : ∀ d r, F_pilemake_Stream_SomeContact d = some r → ACallX P 37 (s_pilemake_Stream_SomeContact.args0 d) (denH (s_pilemake_Stream_SomeContact.H0 d)) (s_pilemake_Stream_SomeContact.out r) (denH (s_pilemake_Stream_SomeContact.H1 r)) := fun d r h => body_sound hm t14_ok (sp := s_pilemake_Stream_SomeContact) Tryz.func37 (by kernel_rfl) (noLoops_ok _ _ _) b_pilemake_Stream_SomeContact (by kernel_rfl) h
noncomputable def t15 : Tab := t14.addW s_pilemake_Stream_SomeContact
theorem t15_ok : TabOK P t15 := t14_ok.addW (by kernel_rfl) (by kernel_rfl) c_pilemake_Stream_SomeContact

/- pileup/pileref2.sign -/
def F_pileref2_sign (d : List G) : Option (List G) :=
  (bif (ltI (gi d 0).int 0) then some [.i (-1)] else (bif (ltI 0 (gi d 0).int) then some [.i 1] else some [.i 0]))
noncomputable def s_pileref2_sign : FSpec := ⟨125, [.s (.int .i64)], [], [], [.s (.int .i64)], [], [], [], F_pileref2_sign⟩
theorem b_pileref2_sign : BodyOK P t15 noLoops Tryz.f125 s_pileref2_sign := fun d => by kernel_rfl
theorem c_pileref2_sign : ∀ d r, F_pileref2_sign d = some r → ACallX P 125 (s_pileref2_sign.args0 d) (denH (s_pileref2_sign.H0 d)) (s_pileref2_sign.out r) (denH (s_pileref2_sign.H1 r)) := fun d r h => body_sound hm t15_ok (sp := s_pileref2_sign) Tryz.func125 (by kernel_rfl) (noLoops_ok _ _ _) b_pileref2_sign (by kernel_rfl) h
noncomputable def t16 : Tab := t15.addP s_pileref2_sign
theorem t16_ok : TabOK P t16 := t15_ok.addP (by kernel_rfl) (by kernel_rfl) c_pileref2_sign

/- pileup/pileref2.ContactOrder -/
def F_pileref2_ContactOrder (d : List G) : Option (List G) :=
  (bif ((gi (gi d 0).row 0).int != (gi (gi d 1).row 0).int) then (bif (inI ((gi (gi d 0).row 0).int - (gi (gi d 1).row 0).int)) then (callF (F_pileref2_sign [.i ((gi (gi d 0).row 0).int - (gi (gi d 1).row 0).int)]) fun g1 => some [.i (gi g1 0).int]) else none) else (bif (!((gi (gi d 0).row 3).str.toList == (gi (gi d 1).row 3).str.toList)) then (callF (F_strings_Compare [.s (gi (gi d 0).row 3).str, .s (gi (gi d 1).row 3).str]) fun g2 => some [.i (gi g2 0).int]) else (bif (!((gi (gi d 0).row 2).str.toList == (gi (gi d 1).row 2).str.toList)) then (callF (F_strings_Compare [.s (gi (gi d 0).row 2).str, .s (gi (gi d 1).row 2).str]) fun g3 => some [.i (gi g3 0).int]) else (bif (inI ((gi (gi d 0).row 1).int - (gi (gi d 1).row 1).int)) then (callF (F_pileref2_sign [.i ((gi (gi d 0).row 1).int - (gi (gi d 1).row 1).int)]) fun g4 => some [.i (gi g4 0).int]) else none))))
noncomputable def s_pileref2_ContactOrder : FSpec := ⟨82, [.s (.row KContact), .s (.row KContact)], [], [], [.s (.int .i64)], [], [], [], F_pileref2_ContactOrder⟩
theorem b_pileref2_ContactOrder : BodyOK P t16 noLoops Tryz.f82 s_pileref2_ContactOrder := fun d => by kernel_rfl
theorem c_pileref2_ContactOrder : ∀ d r, F_pileref2_ContactOrder d = some r → ACallX P 82 (s_pileref2_ContactOrder.args0 d) (denH (s_pileref2_ContactOrder.H0 d)) (s_pileref2_ContactOrder.out r) (denH (s_pileref2_ContactOrder.H1 r)) := fun d r h => body_sound hm t16_ok (sp := s_pileref2_ContactOrder) Tryz.func82 (by kernel_rfl) (noLoops_ok _ _ _) b_pileref2_ContactOrder (by kernel_rfl) h
noncomputable def t17 : Tab := t16.addP s_pileref2_ContactOrder
theorem t17_ok : TabOK P t17 := t16_ok.addP (by kernel_rfl) (by kernel_rfl) c_pileref2_ContactOrder

/- slices.insertionSortCmpFunc[pileup/api.Contact] -/
def st_slices_insertionSortCmpFunc_Contact_4 (d : List G) : Option (Option Nat × List G) :=
  (bif (ltI (gi d 1).int (gi d 4).int) then (bif ((nnI (gi d 4).int) && (ltI (gi d 4).int (((gi d 0).rows.length : Nat) : Int))) then (bif (decide ((0 + ((gi d 4).int).toNat) < (gi d 0).rows.length)) then (bif (inI ((gi d 4).int - 1)) then (bif ((nnI ((gi d 4).int - 1)) && (ltI ((gi d 4).int - 1) (((gi d 0).rows.length : Nat) : Int))) then (bif (decide ((0 + ((gi d 4).int - 1).toNat) < (gi d 0).rows.length)) then (callF (F_pileref2_ContactOrder [.l [(gEta KContact ((gi d 0).rows.getD (0 + ((gi d 4).int).toNat) []))], .l [(gEta KContact ((gi d 0).rows.getD (0 + ((gi d 4).int - 1).toNat) []))]]) fun g1 => (bif (ltI (gi g1 0).int 0) then (bif (inI ((gi d 4).int - 1)) then (bif (inI ((gi d 4).int - 1)) then (bif ((nnI ((gi d 4).int - 1)) && (ltI ((gi d 4).int - 1) (((gi d 0).rows.length : Nat) : Int))) then (bif (decide ((0 + ((gi d 4).int - 1).toNat) < (gi d 0).rows.length)) then (bif ((nnI (gi d 4).int) && (ltI (gi d 4).int (((gi d 0).rows.length : Nat) : Int))) then (bif (decide ((0 + ((gi d 4).int).toNat) < (gi d 0).rows.length)) then (bif ((nnI (gi d 4).int) && (ltI (gi d 4).int (((gi d 0).rows.length : Nat) : Int))) then (bif (decide ((0 + ((gi d 4).int).toNat) < (gi d 0).rows.length)) then (bif ((nnI ((gi d 4).int - 1)) && (ltI ((gi d 4).int - 1) (((gi d 0).rows.length : Nat) : Int))) then (bif (decide ((0 + ((gi d 4).int - 1).toNat) < ((gi d 0).rows.set (0 + ((gi d 4).int).toNat) (putG KContact ((gi d 0).rows.getD (0 + ((gi d 4).int).toNat) []) 0 (gEta KContact ((gi d 0).rows.getD (0 + ((gi d 4).int - 1).toNat) [])))).length)) then (bif (inI ((gi d 4).int - 1)) then (bif ((Nat.beq (gi d 0).rows.length (((gi d 0).rows.set (0 + ((gi d 4).int).toNat) (putG KContact ((gi d 0).rows.getD (0 + ((gi d 4).int).toNat) []) 0 (gEta KContact ((gi d 0).rows.getD (0 + ((gi d 4).int - 1).toNat) [])))).set (0 + ((gi d 4).int - 1).toNat) (putG KContact (((gi d 0).rows.set (0 + ((gi d 4).int).toNat) (putG KContact ((gi d 0).rows.getD (0 + ((gi d 4).int).toNat) []) 0 (gEta KContact ((gi d 0).rows.getD (0 + ((gi d 4).int - 1).toNat) [])))).getD (0 + ((gi d 4).int - 1).toNat) []) 0 (gEta KContact ((gi d 0).rows.getD (0 + ((gi d 4).int).toNat) [])))).length) && true) then some (none, [.l (((gi d 0).rows.set (0 + ((gi d 4).int).toNat) (putG KContact ((gi d 0).rows.getD (0 + ((gi d 4).int).toNat) []) 0 (gEta KContact ((gi d 0).rows.getD (0 + ((gi d 4).int - 1).toNat) [])))).set (0 + ((gi d 4).int - 1).toNat) (putG KContact (((gi d 0).rows.set (0 + ((gi d 4).int).toNat) (putG KContact ((gi d 0).rows.getD (0 + ((gi d 4).int).toNat) []) 0 (gEta KContact ((gi d 0).rows.getD (0 + ((gi d 4).int - 1).toNat) [])))).getD (0 + ((gi d 4).int - 1).toNat) []) 0 (gEta KContact ((gi d 0).rows.getD (0 + ((gi d 4).int).toNat) [])))), .i (gi d 1).int, .i (gi d 2).int, .i (gi d 3).int, .i ((gi d 4).int - 1)]) else none) else none) else none) else none) else none) else none) else none) else none) else none) else none) else none) else none) else (bif ((Nat.beq (gi d 0).rows.length (gi d 0).rows.length) && true) then some (some 0, [.l (gi d 0).rows, .i (gi d 1).int, .i (gi d 2).int, .i (gi d 3).int]) else none))) else none) else none) else none) else none) else none) else (bif ((Nat.beq (gi d 0).rows.length (gi d 0).rows.length) && true) then some (some 0, [.l (gi d 0).rows, .i (gi d 1).int, .i (gi d 2).int, .i (gi d 3).int]) else none))
noncomputable def l_slices_insertionSortCmpFunc_Contact_4 : LSpec := ⟨4, [], ⟨53, [(0, .s (.vec 0 8)), (1, .s (.int .i64)), (2, .s (.int .i64)), (3, .s (.fn 82)), (8, .s (.int .i64)), (9, .s (.int .i64))], [.vec KContact 0]⟩, [.fix 0], [⟨.exit 2, ⟨53, [(0, .s (.vec 0 8)), (1, .s (.int .i64)), (2, .s (.int .i64)), (3, .s (.fn 82)), (8, .s (.int .i64))], [.vec KContact 0]⟩, [.fix 0]⟩], st_slices_insertionSortCmpFunc_Contact_4⟩
theorem r_slices_insertionSortCmpFunc_Contact_4 : RoundOK P t17 noLoops 1 (loopAt Tryz.f228 4) l_slices_insertionSortCmpFunc_Contact_4 := fun d => by kernel_rfl
noncomputable def L_slices_insertionSortCmpFunc_Contact_4 : LT := noLoops.add 1 l_slices_insertionSortCmpFunc_Contact_4
theorem L_slices_insertionSortCmpFunc_Contact_4_ok : LoopsOK P 1 L_slices_insertionSortCmpFunc_Contact_4 (bodyOf Tryz.f228) := LoopsOK.add hm t17_ok (by kernel_rfl) (noLoops_ok _ _ _) r_slices_insertionSortCmpFunc_Contact_4
def st_slices_insertionSortCmpFunc_Contact_1 (d : List G) : Option (Option Nat × List G) :=
  (bif (ltI (gi d 3).int (gi d 2).int) then (loopB ((Nat.beq (gi d 0).rows.length (gi d 0).rows.length) && true) (LRun st_slices_insertionSortCmpFunc_Contact_4 [.l (gi d 0).rows, .i (gi d 1).int, .i (gi d 2).int, .i (gi d 3).int, .i (gi d 3).int]) fun cg2 g2 => (bif (inI ((gi g2 3).int + 1)) then (bif ((Nat.beq (gi g2 0).rows.length (gi g2 0).rows.length) && true) then some (none, [.l (gi g2 0).rows, .i (gi g2 1).int, .i (gi g2 2).int, .i ((gi g2 3).int + 1)]) else none) else none)) else some (some 0, [.l (gi d 0).rows]))
noncomputable def l_slices_insertionSortCmpFunc_Contact_1 : LSpec := ⟨1, [], ⟨53, [(0, .s (.vec 0 8)), (1, .s (.int .i64)), (2, .s (.int .i64)), (3, .s (.fn 82)), (8, .s (.int .i64))], [.vec KContact 0]⟩, [.fix 0], [⟨.exit 0, ⟨53, [], [.vec KContact 0]⟩, [.fix 0]⟩], st_slices_insertionSortCmpFunc_Contact_1⟩
theorem r_slices_insertionSortCmpFunc_Contact_1 : RoundOK P t17 L_slices_insertionSortCmpFunc_Contact_4 1 (loopAt Tryz.f228 1) l_slices_insertionSortCmpFunc_Contact_1 := fun d => by kernel_rfl
noncomputable def L_slices_insertionSortCmpFunc_Contact_1 : LT := L_slices_insertionSortCmpFunc_Contact_4.add 1 l_slices_insertionSortCmpFunc_Contact_1
theorem L_slices_insertionSortCmpFunc_Contact_1_ok : LoopsOK P 1 L_slices_insertionSortCmpFunc_Contact_1 (bodyOf Tryz.f228) := LoopsOK.add hm t17_ok (by kernel_rfl) L_slices_insertionSortCmpFunc_Contact_4_ok r_slices_insertionSortCmpFunc_Contact_1
def F_slices_insertionSortCmpFunc_Contact (d : List G) : Option (List G) :=
  (bif (inI ((gi d 1).int + 1)) then (loopB ((Nat.beq (gi d 0).rows.length (gi d 0).rows.length) && true) (LRun st_slices_insertionSortCmpFunc_Contact_1 [.l (gi d 0).rows, .i (gi d 1).int, .i (gi d 2).int, .i ((gi d 1).int + 1)]) fun cg3 g3 => some [.l (gi g3 0).rows]) else none)
noncomputable def s_slices_insertionSortCmpFunc_Contact : FSpec := ⟨228, [.s (.vec 0 8), .s (.int .i64), .s (.int .i64), .s (.fn 82)], [.vec KContact 0], [.slot 0], [], [.vec KContact 0], [.fix 0], [], F_slices_insertionSortCmpFunc_Contact⟩
theorem b_slices_insertionSortCmpFunc_Contact : BodyOK P t17 L_slices_insertionSortCmpFunc_Contact_1 Tryz.f228 s_slices_insertionSortCmpFunc_Contact := fun d => by kernel_rfl
theorem c_slices_insertionSortCmpFunc_Contact : ∀ d r, F_slices_insertionSortCmpFunc_Contact d = some r → ACallX P 228 (s_slices_insertionSortCmpFunc_Contact.args0 d) (denH (s_slices_insertionSortCmpFunc_Contact.H0 d)) (s_slices_insertionSortCmpFunc_Contact.out r) (denH (s_slices_insertionSortCmpFunc_Contact.H1 r)) := fun d r h => body_sound hm t17_ok (sp := s_slices_insertionSortCmpFunc_Contact) Tryz.func228 (by kernel_rfl) L_slices_insertionSortCmpFunc_Contact_1_ok b_slices_insertionSortCmpFunc_Contact (by kernel_rfl) h
noncomputable def t18 : Tab := t17.addW s_slices_insertionSortCmpFunc_Contact
theorem t18_ok : TabOK P t18 := t17_ok.addW (by kernel_rfl) (by kernel_rfl) c_slices_insertionSortCmpFunc_Contact

/- slices.stableCmpFunc[pileup/api.Contact] -/
/- not followed: a call of slices.symMergeCmpFunc[pileup/api.Contact] at zsortanyfunc.go:348; a call of slices.symMergeCmpFunc[pileup/api.Contact] at zsortanyfunc.go:353 -/
def st_slices_stableCmpFunc_Contact_2 (d : List G) : Option (Option Nat × List G) :=
  (bif (leI (gi d 4).int (gi d 1).int) then (callB (((Nat.beq (gi d 0).rows.length (gi d 0).rows.length) && true) && (F_slices_insertionSortCmpFunc_Contact [.l (gi d 0).rows, .i (gi d 3).int, .i (gi d 4).int]).isSome) (F_slices_insertionSortCmpFunc_Contact [.l (gi d 0).rows, .i (gi d 3).int, .i (gi d 4).int]) fun g1 => (bif (inI ((gi d 4).int + (gi d 2).int)) then (bif ((Nat.beq (gi d 0).rows.length (gi g1 0).rows.length) && true) then some (none, [.l (gi g1 0).rows, .i (gi d 1).int, .i (gi d 2).int, .i (gi d 4).int, .i ((gi d 4).int + (gi d 2).int)]) else none) else none)) else (bif ((Nat.beq (gi d 0).rows.length (gi d 0).rows.length) && true) then some (some 0, [.l (gi d 0).rows, .i (gi d 1).int, .i (gi d 2).int, .i (gi d 3).int]) else none))
noncomputable def l_slices_stableCmpFunc_Contact_2 : LSpec := ⟨2, [], ⟨63, [(0, .s (.vec 0 8)), (1, .s (.int .i64)), (2, .s (.fn 82)), (6, .s (.int .i64)), (7, .s (.int .i64)), (8, .s (.int .i64))], [.vec KContact 0]⟩, [.fix 0], [⟨.exit 0, ⟨63, [(0, .s (.vec 0 8)), (1, .s (.int .i64)), (2, .s (.fn 82)), (6, .s (.int .i64)), (7, .s (.int .i64))], [.vec KContact 0]⟩, [.fix 0]⟩], st_slices_stableCmpFunc_Contact_2⟩
theorem r_slices_stableCmpFunc_Contact_2 : RoundOK P t18 noLoops 1 (loopAt Tryz.f173 2) l_slices_stableCmpFunc_Contact_2 := fun d => by kernel_rfl
noncomputable def L_slices_stableCmpFunc_Contact_2 : LT := noLoops.add 1 l_slices_stableCmpFunc_Contact_2
theorem L_slices_stableCmpFunc_Contact_2_ok : LoopsOK P 1 L_slices_stableCmpFunc_Contact_2 (bodyOf Tryz.f173) := LoopsOK.add hm t18_ok (by kernel_rfl) (noLoops_ok _ _ _) r_slices_stableCmpFunc_Contact_2
def st_slices_stableCmpFunc_Contact_9 (d : List G) : Option (Option Nat × List G) :=
  (bif (leI (gi d 4).int (gi d 1).int) then (bif (inI ((gi d 3).int + (gi d 2).int)) then none else none) else (bif ((Nat.beq (gi d 0).rows.length (gi d 0).rows.length) && true) then some (some 0, [.l (gi d 0).rows, .i (gi d 1).int, .i (gi d 2).int, .i (gi d 3).int]) else none))
noncomputable def l_slices_stableCmpFunc_Contact_9 : LSpec := ⟨9, [], ⟨63, [(0, .s (.vec 0 8)), (1, .s (.int .i64)), (2, .s (.fn 82)), (6, .s (.int .i64)), (7, .s (.int .i64)), (8, .s (.int .i64))], [.vec KContact 0]⟩, [.fix 0], [⟨.exit 4, ⟨63, [(0, .s (.vec 0 8)), (1, .s (.int .i64)), (2, .s (.fn 82)), (6, .s (.int .i64)), (7, .s (.int .i64))], [.vec KContact 0]⟩, [.fix 0]⟩], st_slices_stableCmpFunc_Contact_9⟩
theorem r_slices_stableCmpFunc_Contact_9 : RoundOK P t18 L_slices_stableCmpFunc_Contact_2 1 (loopAt Tryz.f173 9) l_slices_stableCmpFunc_Contact_9 := fun d => by kernel_rfl
noncomputable def L_slices_stableCmpFunc_Contact_9 : LT := L_slices_stableCmpFunc_Contact_2.add 1 l_slices_stableCmpFunc_Contact_9
theorem L_slices_stableCmpFunc_Contact_9_ok : LoopsOK P 1 L_slices_stableCmpFunc_Contact_9 (bodyOf Tryz.f173) := LoopsOK.add hm t18_ok (by kernel_rfl) L_slices_stableCmpFunc_Contact_2_ok r_slices_stableCmpFunc_Contact_9
def st_slices_stableCmpFunc_Contact_7 (d : List G) : Option (Option Nat × List G) :=
  (bif (ltI (gi d 2).int (gi d 1).int) then (bif (inI (2 * (gi d 2).int)) then (loopB ((Nat.beq (gi d 0).rows.length (gi d 0).rows.length) && true) (LRun st_slices_stableCmpFunc_Contact_9 [.l (gi d 0).rows, .i (gi d 1).int, .i (gi d 2).int, .i 0, .i (2 * (gi d 2).int)]) fun cg4 g4 => (bif (inI ((gi g4 3).int + (gi g4 2).int)) then (bif (ltI ((gi g4 3).int + (gi g4 2).int) (gi g4 1).int) then none else (bif (inI ((gi g4 2).int * 2)) then (bif ((Nat.beq (gi g4 0).rows.length (gi g4 0).rows.length) && true) then some (none, [.l (gi g4 0).rows, .i (gi g4 1).int, .i ((gi g4 2).int * 2)]) else none) else none)) else none)) else none) else some (some 0, [.l (gi d 0).rows]))
noncomputable def l_slices_stableCmpFunc_Contact_7 : LSpec := ⟨7, [], ⟨63, [(0, .s (.vec 0 8)), (1, .s (.int .i64)), (2, .s (.fn 82)), (6, .s (.int .i64))], [.vec KContact 0]⟩, [.fix 0], [⟨.exit 2, ⟨63, [], [.vec KContact 0]⟩, [.fix 0]⟩], st_slices_stableCmpFunc_Contact_7⟩
theorem r_slices_stableCmpFunc_Contact_7 : RoundOK P t18 L_slices_stableCmpFunc_Contact_9 1 (loopAt Tryz.f173 7) l_slices_stableCmpFunc_Contact_7 := fun d => by kernel_rfl
noncomputable def L_slices_stableCmpFunc_Contact_7 : LT := L_slices_stableCmpFunc_Contact_9.add 1 l_slices_stableCmpFunc_Contact_7
theorem L_slices_stableCmpFunc_Contact_7_ok : LoopsOK P 1 L_slices_stableCmpFunc_Contact_7 (bodyOf Tryz.f173) := LoopsOK.add hm t18_ok (by kernel_rfl) L_slices_stableCmpFunc_Contact_9_ok r_slices_stableCmpFunc_Contact_7
def F_slices_stableCmpFunc_Contact (d : List G) : Option (List G) :=
  (loopB ((Nat.beq (gi d 0).rows.length (gi d 0).rows.length) && true) (LRun st_slices_stableCmpFunc_Contact_2 [.l (gi d 0).rows, .i (gi d 1).int, .i 20, .i 0, .i 20]) fun cg2 g2 => (callB (((Nat.beq (gi g2 0).rows.length (gi g2 0).rows.length) && true) && (F_slices_insertionSortCmpFunc_Contact [.l (gi g2 0).rows, .i (gi g2 3).int, .i (gi g2 1).int]).isSome) (F_slices_insertionSortCmpFunc_Contact [.l (gi g2 0).rows, .i (gi g2 3).int, .i (gi g2 1).int]) fun g3 => (loopB ((Nat.beq (gi g2 0).rows.length (gi g3 0).rows.length) && true) (LRun st_slices_stableCmpFunc_Contact_7 [.l (gi g3 0).rows, .i (gi g2 1).int, .i (gi g2 2).int]) fun cg5 g5 => some [.l (gi g5 0).rows])))
noncomputable def s_slices_stableCmpFunc_Contact : FSpec := ⟨173, [.s (.vec 0 8), .s (.int .i64), .s (.fn 82)], [.vec KContact 0], [.slot 0], [], [.vec KContact 0], [.fix 0], [], F_slices_stableCmpFunc_Contact⟩
theorem b_slices_stableCmpFunc_Contact : BodyOK P t18 L_slices_stableCmpFunc_Contact_7 Tryz.f173 s_slices_stableCmpFunc_Contact := fun d => by kernel_rfl
theorem c_slices_stableCmpFunc_Contact : ∀ d r, F_slices_stableCmpFunc_Contact d = some r → ACallX P 173 (s_slices_stableCmpFunc_Contact.args0 d) (denH (s_slices_stableCmpFunc_Contact.H0 d)) (s_slices_stableCmpFunc_Contact.out r) (denH (s_slices_stableCmpFunc_Contact.H1 r)) := fun d r h => body_sound hm t18_ok (sp := s_slices_stableCmpFunc_Contact) Tryz.func173 (by kernel_rfl) L_slices_stableCmpFunc_Contact_7_ok b_slices_stableCmpFunc_Contact (by kernel_rfl) h
noncomputable def t19 : Tab := t18.addW s_slices_stableCmpFunc_Contact
theorem t19_ok : TabOK P t19 := t18_ok.addW (by kernel_rfl) (by kernel_rfl) c_slices_stableCmpFunc_Contact

/- slices.SortStableFunc[[]pileup/api.Contact,pileup/api.Contact] -/
def F_slices_SortStableFunc_Contact (d : List G) : Option (List G) :=
  (callB (((Nat.beq (gi d 0).rows.length (gi d 0).rows.length) && true) && (F_slices_stableCmpFunc_Contact [.l (gi d 0).rows, .i (((gi d 0).rows.length : Nat) : Int)]).isSome) (F_slices_stableCmpFunc_Contact [.l (gi d 0).rows, .i (((gi d 0).rows.length : Nat) : Int)]) fun g1 => some [.l (gi g1 0).rows])
noncomputable def s_slices_SortStableFunc_Contact : FSpec := ⟨81, [.s (.vec 0 8), .s (.fn 82)], [.vec KContact 0], [.slot 0], [], [.vec KContact 0], [.fix 0], [], F_slices_SortStableFunc_Contact⟩
theorem b_slices_SortStableFunc_Contact : BodyOK P t19 noLoops Tryz.f81 s_slices_SortStableFunc_Contact := fun d => by kernel_rfl
theorem c_slices_SortStableFunc_Contact : ∀ d r, F_slices_SortStableFunc_Contact d = some r → ACallX P 81 (s_slices_SortStableFunc_Contact.args0 d) (denH (s_slices_SortStableFunc_Contact.H0 d)) (s_slices_SortStableFunc_Contact.out r) (denH (s_slices_SortStableFunc_Contact.H1 r)) := fun d r h => body_sound hm t19_ok (sp := s_slices_SortStableFunc_Contact) Tryz.func81 (by kernel_rfl) (noLoops_ok _ _ _) b_slices_SortStableFunc_Contact (by kernel_rfl) h
noncomputable def t20 : Tab := t19.addW s_slices_SortStableFunc_Contact
theorem t20_ok : TabOK P t20 := t19_ok.addW (by kernel_rfl) (by kernel_rfl) c_slices_SortStableFunc_Contact

/- (*pileup/pilemake.Stream).Contacts$1 -/
def F_pilemake_Stream_Contacts_1 (d : List G) : Option (List G) :=
  (callF (F_pileref2_ContactOrder [.l [(gEta KContact (gi d 0).row)], .l [(gEta KContact (gi d 1).row)]]) fun g1 => some [.t ((gi g1 0).int == 0)])
noncomputable def s_pilemake_Stream_Contacts_1 : FSpec := ⟨84, [.s (.row KContact), .s (.row KContact)], [], [], [.s (.bool)], [], [], [], F_pilemake_Stream_Contacts_1⟩
theorem b_pilemake_Stream_Contacts_1 : BodyOK P t20 noLoops Tryz.f84 s_pilemake_Stream_Contacts_1 := fun d => by kernel_rfl
theorem c_pilemake_Stream_Contacts_1 : ∀ d r, F_pilemake_Stream_Contacts_1 d = some r → ACallX P 84 (s_pilemake_Stream_Contacts_1.args0 d) (denH (s_pilemake_Stream_Contacts_1.H0 d)) (s_pilemake_Stream_Contacts_1.out r) (denH (s_pilemake_Stream_Contacts_1.H1 r)) := fun d r h => body_sound hm t20_ok (sp := s_pilemake_Stream_Contacts_1) Tryz.func84 (by kernel_rfl) (noLoops_ok _ _ _) b_pilemake_Stream_Contacts_1 (by kernel_rfl) h
noncomputable def t21 : Tab := t20.addP s_pilemake_Stream_Contacts_1
theorem t21_ok : TabOK P t21 := t20_ok.addP (by kernel_rfl) (by kernel_rfl) c_pilemake_Stream_Contacts_1

/- slices.CompactFunc[[]pileup/api.Contact,pileup/api.Contact] -/
def st_slices_CompactFunc_Contact_9 (d : List G) : Option (Option Nat × List G) :=
  (bif (ltI (gi d 4).int (((gi d 3).int.toNat : Nat) : Int)) then (bif ((nnI (gi d 4).int) && (ltI (gi d 4).int (((gi d 3).int.toNat : Nat) : Int))) then (bif (decide (((gi d 2).int.toNat + ((gi d 4).int).toNat) < (gi d 0).rows.length)) then (bif (inI ((gi d 4).int - 1)) then (bif ((nnI ((gi d 4).int - 1)) && (ltI ((gi d 4).int - 1) (((gi d 3).int.toNat : Nat) : Int))) then (bif (decide (((gi d 2).int.toNat + ((gi d 4).int - 1).toNat) < (gi d 0).rows.length)) then (callF (F_pilemake_Stream_Contacts_1 [.l [(gEta KContact ((gi d 0).rows.getD ((gi d 2).int.toNat + ((gi d 4).int).toNat) []))], .l [(gEta KContact ((gi d 0).rows.getD ((gi d 2).int.toNat + ((gi d 4).int - 1).toNat) []))]]) fun g2 => (bif (!(gi g2 0).bool) then (bif ((nnI (gi d 4).int) && (ltI (gi d 4).int (((gi d 3).int.toNat : Nat) : Int))) then (bif (decide (((gi d 2).int.toNat + ((gi d 4).int).toNat) < (gi d 0).rows.length)) then (bif ((nnI (gi d 1).int) && (ltI (gi d 1).int (((gi d 0).rows.length : Nat) : Int))) then (bif (decide ((0 + ((gi d 1).int).toNat) < (gi d 0).rows.length)) then (bif (inI ((gi d 1).int + 1)) then (bif (inI ((gi d 4).int + 1)) then (bif ((Nat.beq (gi d 0).rows.length ((gi d 0).rows.set (0 + ((gi d 1).int).toNat) (putG KContact ((gi d 0).rows.getD (0 + ((gi d 1).int).toNat) []) 0 (gEta KContact ((gi d 0).rows.getD ((gi d 2).int.toNat + ((gi d 4).int).toNat) [])))).length) && true) then some (none, [.l ((gi d 0).rows.set (0 + ((gi d 1).int).toNat) (putG KContact ((gi d 0).rows.getD (0 + ((gi d 1).int).toNat) []) 0 (gEta KContact ((gi d 0).rows.getD ((gi d 2).int.toNat + ((gi d 4).int).toNat) [])))), .i ((gi d 1).int + 1), .i (((gi d 2).int.toNat : Nat) : Int), .i (((gi d 3).int.toNat : Nat) : Int), .i ((gi d 4).int + 1)]) else none) else none) else none) else none) else none) else none) else none) else (bif (inI ((gi d 4).int + 1)) then (bif ((Nat.beq (gi d 0).rows.length (gi d 0).rows.length) && true) then some (none, [.l (gi d 0).rows, .i (gi d 1).int, .i (((gi d 2).int.toNat : Nat) : Int), .i (((gi d 3).int.toNat : Nat) : Int), .i ((gi d 4).int + 1)]) else none) else none))) else none) else none) else none) else none) else none) else (bif ((Nat.beq (gi d 0).rows.length (gi d 0).rows.length) && true) then some (some 0, [.l (gi d 0).rows, .i (gi d 1).int]) else none))
noncomputable def l_slices_CompactFunc_Contact_9 : LSpec := ⟨9, [], ⟨66, [(0, .s (.vec 0 8)), (1, .s (.fn 84)), (5, .s (.int .i64)), (6, .s (.sub 0 8)), (7, .s (.int .i64))], [.vec KContact 0]⟩, [.fix 0], [⟨.exit 2, ⟨66, [(0, .s (.vec 0 8)), (5, .s (.int .i64))], [.vec KContact 0]⟩, [.fix 0]⟩], st_slices_CompactFunc_Contact_9⟩
theorem r_slices_CompactFunc_Contact_9 : RoundOK P t21 noLoops 1 (loopAt Tryz.f83 9) l_slices_CompactFunc_Contact_9 := fun d => by kernel_rfl
noncomputable def L_slices_CompactFunc_Contact_9 : LT := noLoops.add 1 l_slices_CompactFunc_Contact_9
theorem L_slices_CompactFunc_Contact_9_ok : LoopsOK P 1 L_slices_CompactFunc_Contact_9 (bodyOf Tryz.f83) := LoopsOK.add hm t21_ok (by kernel_rfl) (noLoops_ok _ _ _) r_slices_CompactFunc_Contact_9
def st_slices_CompactFunc_Contact_4 (d : List G) : Option (Option Nat × List G) :=
  (bif (ltI (gi d 1).int (((gi d 0).rows.length : Nat) : Int)) then (bif ((nnI (gi d 1).int) && (ltI (gi d 1).int (((gi d 0).rows.length : Nat) : Int))) then (bif (decide ((0 + ((gi d 1).int).toNat) < (gi d 0).rows.length)) then (bif (inI ((gi d 1).int - 1)) then (bif ((nnI ((gi d 1).int - 1)) && (ltI ((gi d 1).int - 1) (((gi d 0).rows.length : Nat) : Int))) then (bif (decide ((0 + ((gi d 1).int - 1).toNat) < (gi d 0).rows.length)) then (callF (F_pilemake_Stream_Contacts_1 [.l [(gEta KContact ((gi d 0).rows.getD (0 + ((gi d 1).int).toNat) []))], .l [(gEta KContact ((gi d 0).rows.getD (0 + ((gi d 1).int - 1).toNat) []))]]) fun g1 => (bif (gi g1 0).bool then (bif ((nnI (gi d 1).int) && (leI (gi d 1).int (((gi d 0).rows.length : Nat) : Int))) then (loopB ((Nat.beq (gi d 0).rows.length (gi d 0).rows.length) && true) (LRun st_slices_CompactFunc_Contact_9 [.l (gi d 0).rows, .i (gi d 1).int, .i (((0 + ((gi d 1).int).toNat) : Nat) : Int), .i ((((gi d 0).rows.length - ((gi d 1).int).toNat) : Nat) : Int), .i 1]) fun cg3 g3 => (bif ((nnI (gi g3 1).int) && (leI (gi g3 1).int (((gi g3 0).rows.length : Nat) : Int))) then (bif (Nat.ble ((0 + ((gi g3 1).int).toNat) + ((gi g3 0).rows.length - ((gi g3 1).int).toNat)) (gi g3 0).rows.length) then (bif ((nnI (gi g3 1).int) && (leI (gi g3 1).int (((gi g3 0).rows.length : Nat) : Int))) then some (some 0, [.l ((gi g3 0).rows.take (0 + ((gi g3 1).int).toNat) ++ List.replicate ((gi g3 0).rows.length - ((gi g3 1).int).toNat) [.i 0, .i 0, .s (⟨#[]⟩ : ByteArray), .s (⟨#[]⟩ : ByteArray), .i 0, .i 0, .s (⟨#[]⟩ : ByteArray), .s (⟨#[]⟩ : ByteArray)] ++ (gi g3 0).rows.drop ((0 + ((gi g3 1).int).toNat) + ((gi g3 0).rows.length - ((gi g3 1).int).toNat))), .i (((((gi g3 1).int).toNat - 0) : Nat) : Int)]) else none) else none) else none)) else none) else (bif (inI ((gi d 1).int + 1)) then (bif ((Nat.beq (gi d 0).rows.length (gi d 0).rows.length) && true) then some (none, [.l (gi d 0).rows, .i ((gi d 1).int + 1)]) else none) else none))) else none) else none) else none) else none) else none) else (bif ((Nat.beq (gi d 0).rows.length (gi d 0).rows.length) && true) then some (some 1, [.l (gi d 0).rows]) else none))
noncomputable def l_slices_CompactFunc_Contact_4 : LSpec := ⟨4, [], ⟨66, [(0, .s (.vec 0 8)), (1, .s (.fn 84)), (5, .s (.int .i64))], [.vec KContact 0]⟩, [.fix 0], [⟨.ret, ⟨66, [(4, .s (.pre 0 8))], [.vec KContact 0]⟩, [.fix 0]⟩, ⟨.exit 0, ⟨66, [(0, .s (.vec 0 8))], [.vec KContact 0]⟩, [.fix 0]⟩], st_slices_CompactFunc_Contact_4⟩
theorem r_slices_CompactFunc_Contact_4 : RoundOK P t21 L_slices_CompactFunc_Contact_9 1 (loopAt Tryz.f83 4) l_slices_CompactFunc_Contact_4 := fun d => by kernel_rfl
noncomputable def L_slices_CompactFunc_Contact_4 : LT := L_slices_CompactFunc_Contact_9.add 1 l_slices_CompactFunc_Contact_4
theorem L_slices_CompactFunc_Contact_4_ok : LoopsOK P 1 L_slices_CompactFunc_Contact_4 (bodyOf Tryz.f83) := LoopsOK.add hm t21_ok (by kernel_rfl) L_slices_CompactFunc_Contact_9_ok r_slices_CompactFunc_Contact_4
def F_slices_CompactFunc_Contact (d : List G) : Option (List G) :=
  (bif (ltI (((gi d 0).rows.length : Nat) : Int) 2) then some [.l (gi d 0).rows, .i (((gi d 0).rows.length : Nat) : Int)] else (loopB ((Nat.beq (gi d 0).rows.length (gi d 0).rows.length) && true) (LRun st_slices_CompactFunc_Contact_4 [.l (gi d 0).rows, .i 1]) fun cg4 g4 => (bif Nat.beq cg4 0 then some [.l (gi g4 0).rows, .i (((gi g4 1).int.toNat : Nat) : Int)] else some [.l (gi g4 0).rows, .i (((gi g4 0).rows.length : Nat) : Int)])))
noncomputable def s_slices_CompactFunc_Contact : FSpec := ⟨83, [.s (.vec 0 8), .s (.fn 84)], [.vec KContact 0], [.slot 0], [.s (.pre 0 8)], [.vec KContact 0], [.fix 0], [], F_slices_CompactFunc_Contact⟩
theorem b_slices_CompactFunc_Contact : BodyOK P t21 L_slices_CompactFunc_Contact_4 Tryz.f83 s_slices_CompactFunc_Contact := fun d => by kernel_rfl
theorem c_slices_CompactFunc_Contact : ∀ d r, F_slices_CompactFunc_Contact d = some r → ACallX P 83 (s_slices_CompactFunc_Contact.args0 d) (denH (s_slices_CompactFunc_Contact.H0 d)) (s_slices_CompactFunc_Contact.out r) (denH (s_slices_CompactFunc_Contact.H1 r)) := fun d r h => body_sound hm t21_ok (sp := s_slices_CompactFunc_Contact) Tryz.func83 (by kernel_rfl) L_slices_CompactFunc_Contact_4_ok b_slices_CompactFunc_Contact (by kernel_rfl) h
noncomputable def t22 : Tab := t21.addW s_slices_CompactFunc_Contact
theorem t22_ok : TabOK P t22 := t21_ok.addW (by kernel_rfl) (by kernel_rfl) c_slices_CompactFunc_Contact

/- (*pileup/pilemake.Stream).Contacts -/
def st_pilemake_Stream_Contacts_4 (d : List G) : Option (Option Nat × List G) :=
  (bif (ltI (gi d 5).int (gi d 4).int) then (callF (F_pilemake_Stream_Pick [.l (gi d 0).rows, .i (gi d 1).int, .l [[.i 0], [.i 1], [.i 10], [.i 50], [.i 1000], [.i 40000], [.i 1500000]]]) fun g1 => (bif (inI ((gi d 3).int + (gi g1 2).int)) then (callF (F_pilemake_Stream_SomeContact [.l (gi g1 0).rows, .i (gi g1 1).int, .i ((gi d 3).int + (gi g1 2).int)]) fun g2 => (bif ((Nat.beq (gi d 2).rows.length (gi d 2).rows.length) && (decide (((gi d 2).rows.length + 1) ≤ 1048576))) then (bif (inI ((gi d 5).int + 1)) then (bif ((Nat.beq ((gi d 2).rows ++ ([(gEta KContact (gi g2 2).row)] : List (List G))).length ((gi d 2).rows ++ ([(gEta KContact (gi g2 2).row)] : List (List G))).length) && true) then some (none, [.l (gi g2 0).rows, .i (gi g2 1).int, .l ((gi d 2).rows ++ ([(gEta KContact (gi g2 2).row)] : List (List G))), .i ((gi d 3).int + (gi g1 2).int), .i (gi d 4).int, .i ((gi d 5).int + 1)]) else none) else none) else none)) else none)) else (bif ((Nat.beq (gi d 2).rows.length (gi d 2).rows.length) && true) then some (some 0, [.l (gi d 0).rows, .i (gi d 1).int, .l (gi d 2).rows]) else none))
noncomputable def l_pilemake_Stream_Contacts_4 : LSpec := ⟨4, [(5, KContact)], ⟨26, [(0, .s (.ptr 0 0)), (5, .s (.vec 1 8)), (6, .s (.int .i64)), (7, .s (.int .i64)), (8, .s (.int .i64))], [.box [.list [.int .i64], .int .i64], .vec KContact 0]⟩, [.fix 0, .slot 5], [⟨.exit 0, ⟨26, [(5, .s (.vec 1 8))], [.box [.list [.int .i64], .int .i64], .vec KContact 0]⟩, [.fix 0, .slot 5]⟩], st_pilemake_Stream_Contacts_4⟩
theorem r_pilemake_Stream_Contacts_4 : RoundOK P t22 noLoops 1 (loopAt Tryz.f14 4) l_pilemake_Stream_Contacts_4 := fun d => by kernel_rfl
noncomputable def L_pilemake_Stream_Contacts_4 : LT := noLoops.add 1 l_pilemake_Stream_Contacts_4
theorem L_pilemake_Stream_Contacts_4_ok : LoopsOK P 1 L_pilemake_Stream_Contacts_4 (bodyOf Tryz.f14) := LoopsOK.add hm t22_ok (by kernel_rfl) (noLoops_ok _ _ _) r_pilemake_Stream_Contacts_4
def F_pilemake_Stream_Contacts (d : List G) : Option (List G) :=
  (loopB true (LRun st_pilemake_Stream_Contacts_4 [.l (gi d 0).rows, .i (gi d 1).int, .l [], .i 0, .i (gi d 2).int, .i 0]) fun cg3 g3 => (callB (((Nat.beq (gi g3 2).rows.length (gi g3 2).rows.length) && true) && (F_slices_SortStableFunc_Contact [.l (gi g3 2).rows]).isSome) (F_slices_SortStableFunc_Contact [.l (gi g3 2).rows]) fun g4 => (callB (((Nat.beq (gi g3 2).rows.length (gi g4 0).rows.length) && true) && (F_slices_CompactFunc_Contact [.l (gi g4 0).rows]).isSome) (F_slices_CompactFunc_Contact [.l (gi g4 0).rows]) fun g5 => (bif ((Nat.ble (gi g5 1).int.toNat (gi g5 0).rows.length) && true) then some [.l (gi g3 0).rows, .i (gi g3 1).int, .l ((gi g5 0).rows.take ((gi g5 1).int.toNat))] else none))))
noncomputable def s_pilemake_Stream_Contacts : FSpec := ⟨14, [.s (.ptr 0 0), .s (.int .i64)], [.box [.list [.int .i64], .int .i64]], [.slot 0], [.s (.lpre KContact)], [.box [.list [.int .i64], .int .i64]], [.fix 0], [], F_pilemake_Stream_Contacts⟩
theorem b_pilemake_Stream_Contacts : BodyOK P t22 L_pilemake_Stream_Contacts_4 Tryz.f14 s_pilemake_Stream_Contacts := fun d => by kernel_rfl
theorem c_pilemake_Stream_Contacts : ∀ d r, F_pilemake_Stream_Contacts d = some r → ACallX P 14 (s_pilemake_Stream_Contacts.args0 d) (denH (s_pilemake_Stream_Contacts.H0 d)) (s_pilemake_Stream_Contacts.out r) (denH (s_pilemake_Stream_Contacts.H1 r)) := fun d r h => body_sound hm t22_ok (sp := s_pilemake_Stream_Contacts) Tryz.func14 (by kernel_rfl) L_pilemake_Stream_Contacts_4_ok b_pilemake_Stream_Contacts (by kernel_rfl) h
noncomputable def t23 : Tab := t22.addW s_pilemake_Stream_Contacts
theorem t23_ok : TabOK P t23 := t22_ok.addW (by kernel_rfl) (by kernel_rfl) c_pilemake_Stream_Contacts

/- slices.Clone[[]pileup/api.Contact,pileup/api.Contact] -/
def F_slices_Clone_Contact_0 (d : List G) : Option (List G) :=
  (bif (Nat.blt 0 (gi d 0).rows.length) then (bif (decide ((gi d 0).rows.length ≤ 1048576)) then (bif ((Nat.beq (gi d 0).rows.length (gi d 0).rows.length) && true) then some [.l (gi d 0).rows] else none) else none) else none)
noncomputable def s_slices_Clone_Contact_0 : FSpec := ⟨38, [.s (.list KContact)], [], [], [.s (.list KContact)], [], [], [], F_slices_Clone_Contact_0⟩
theorem b_slices_Clone_Contact_0 : BodyOK P t23 noLoops Tryz.f38 s_slices_Clone_Contact_0 := fun d => by kernel_rfl
theorem c_slices_Clone_Contact_0 : ∀ d r, F_slices_Clone_Contact_0 d = some r → ACallX P 38 (s_slices_Clone_Contact_0.args0 d) (denH (s_slices_Clone_Contact_0.H0 d)) (s_slices_Clone_Contact_0.out r) (denH (s_slices_Clone_Contact_0.H1 r)) := fun d r h => body_sound hm t23_ok (sp := s_slices_Clone_Contact_0) Tryz.func38 (by kernel_rfl) (noLoops_ok _ _ _) b_slices_Clone_Contact_0 (by kernel_rfl) h
noncomputable def s_slices_Clone_ContactT : FSpec := { s_slices_Clone_Contact_0 with args := [.s (.emp true)], opens := [], F := fun _ => some [.l []] }
theorem b_slices_Clone_ContactT : BodyOK P t23 noLoops Tryz.f38 s_slices_Clone_ContactT := fun d => by kernel_rfl
theorem c_slices_Clone_ContactT : ∀ d r, s_slices_Clone_ContactT.F d = some r → ACallX P 38 (s_slices_Clone_ContactT.args0 d) (denH (s_slices_Clone_ContactT.H0 d)) (s_slices_Clone_ContactT.out r) (denH (s_slices_Clone_ContactT.H1 r)) := fun d r h => body_sound hm t23_ok (sp := s_slices_Clone_ContactT) Tryz.func38 (by kernel_rfl) (noLoops_ok _ _ _) b_slices_Clone_ContactT (by kernel_rfl) h
noncomputable def s_slices_Clone_ContactF : FSpec := { s_slices_Clone_Contact_0 with args := [.s (.emp false)], opens := [], F := fun _ => some [.l []] }
theorem b_slices_Clone_ContactF : BodyOK P t23 noLoops Tryz.f38 s_slices_Clone_ContactF := fun d => by kernel_rfl
theorem c_slices_Clone_ContactF : ∀ d r, s_slices_Clone_ContactF.F d = some r → ACallX P 38 (s_slices_Clone_ContactF.args0 d) (denH (s_slices_Clone_ContactF.H0 d)) (s_slices_Clone_ContactF.out r) (denH (s_slices_Clone_ContactF.H1 r)) := fun d r h => body_sound hm t23_ok (sp := s_slices_Clone_ContactF) Tryz.func38 (by kernel_rfl) (noLoops_ok _ _ _) b_slices_Clone_ContactF (by kernel_rfl) h
def F_slices_Clone_Contact (d : List G) : Option (List G) := bif Nat.blt 0 (gi d 0).rows.length then F_slices_Clone_Contact_0 d else some [.l []]
noncomputable def s_slices_Clone_Contact : FSpec := { s_slices_Clone_Contact_0 with F := F_slices_Clone_Contact }
theorem c_slices_Clone_Contact : ∀ d r, F_slices_Clone_Contact d = some r → ACallX P 38 (s_slices_Clone_Contact.args0 d) (denH (s_slices_Clone_Contact.H0 d)) (s_slices_Clone_Contact.out r) (denH (s_slices_Clone_Contact.H1 r)) := fun d r h => by
  unfold F_slices_Clone_Contact at h
  cases hb : Nat.blt 0 (gi d 0).rows.length with
  | true => rw [hb] at h; exact c_slices_Clone_Contact_0 d r h
  | false =>
    rw [hb] at h
    cases h
    have e : (d.headD default).rows = [] := by
      have : ¬ 0 < (gi d 0).rows.length := fun hh => by
        have h2 : Nat.blt 0 (gi d 0).rows.length = true := by rw [Nat.blt_eq]; exact hh
        rw [h2] at hb
        cases hb
      exact List.eq_nil_of_length_eq_zero (Nat.eq_zero_of_not_pos this)
    have ha : s_slices_Clone_Contact.args0 d = [.listF KContact []] := by
      rw [← e]
      rfl
    rw [ha]
    exact acall_empty (c_slices_Clone_ContactT d [.l []] rfl) (c_slices_Clone_ContactF d [.l []] rfl)
noncomputable def t24 : Tab := t23.addP s_slices_Clone_Contact
theorem t24_ok : TabOK P t24 := t23_ok.addP (by kernel_rfl) (by kernel_rfl) c_slices_Clone_Contact

/- slices.Clone[[]pileup/api.Contact,pileup/api.Contact] -/
def F_slices_Clone_Contact_f_0 (d : List G) : Option (List G) :=
  (bif (Nat.blt 0 (gi d 0).rows.length) then (bif (decide ((gi d 0).rows.length ≤ 1048576)) then (bif ((Nat.beq (gi d 0).rows.length (gi d 0).rows.length) && true) then some [.l (gi d 0).rows] else none) else none) else none)
noncomputable def s_slices_Clone_Contact_f_0 : FSpec := ⟨38, [.s (.list KContact)], [], [], [.s (.vec 0 8)], [.vec KContact 0], [.slot 0], [], F_slices_Clone_Contact_f_0⟩
theorem b_slices_Clone_Contact_f_0 : BodyOK P t24 noLoops Tryz.f38 s_slices_Clone_Contact_f_0 := fun d => by kernel_rfl
theorem c_slices_Clone_Contact_f_0 : ∀ d r, F_slices_Clone_Contact_f_0 d = some r → ACallX P 38 (s_slices_Clone_Contact_f_0.args0 d) (denH (s_slices_Clone_Contact_f_0.H0 d)) (s_slices_Clone_Contact_f_0.out r) (denH (s_slices_Clone_Contact_f_0.H1 r)) := fun d r h => body_sound hm t24_ok (sp := s_slices_Clone_Contact_f_0) Tryz.func38 (by kernel_rfl) (noLoops_ok _ _ _) b_slices_Clone_Contact_f_0 (by kernel_rfl) h
noncomputable def s_slices_Clone_Contact_fT : FSpec := { s_slices_Clone_Contact_f_0 with args := [.s (.emp true)], opens := [(2, KContact)], F := fun _ => some [.l []] }
theorem b_slices_Clone_Contact_fT : BodyOK P t24 noLoops Tryz.f38 s_slices_Clone_Contact_fT := fun d => by kernel_rfl
theorem c_slices_Clone_Contact_fT : ∀ d r, s_slices_Clone_Contact_fT.F d = some r → ACallX P 38 (s_slices_Clone_Contact_fT.args0 d) (denH (s_slices_Clone_Contact_fT.H0 d)) (s_slices_Clone_Contact_fT.out r) (denH (s_slices_Clone_Contact_fT.H1 r)) := fun d r h => body_sound hm t24_ok (sp := s_slices_Clone_Contact_fT) Tryz.func38 (by kernel_rfl) (noLoops_ok _ _ _) b_slices_Clone_Contact_fT (by kernel_rfl) h
noncomputable def s_slices_Clone_Contact_fF : FSpec := { s_slices_Clone_Contact_f_0 with args := [.s (.emp false)], opens := [(2, KContact)], F := fun _ => some [.l []] }
theorem b_slices_Clone_Contact_fF : BodyOK P t24 noLoops Tryz.f38 s_slices_Clone_Contact_fF := fun d => by kernel_rfl
theorem c_slices_Clone_Contact_fF : ∀ d r, s_slices_Clone_Contact_fF.F d = some r → ACallX P 38 (s_slices_Clone_Contact_fF.args0 d) (denH (s_slices_Clone_Contact_fF.H0 d)) (s_slices_Clone_Contact_fF.out r) (denH (s_slices_Clone_Contact_fF.H1 r)) := fun d r h => body_sound hm t24_ok (sp := s_slices_Clone_Contact_fF) Tryz.func38 (by kernel_rfl) (noLoops_ok _ _ _) b_slices_Clone_Contact_fF (by kernel_rfl) h
def F_slices_Clone_Contact_f (d : List G) : Option (List G) := bif Nat.blt 0 (gi d 0).rows.length then F_slices_Clone_Contact_f_0 d else some [.l []]
noncomputable def s_slices_Clone_Contact_f : FSpec := { s_slices_Clone_Contact_f_0 with F := F_slices_Clone_Contact_f }
theorem c_slices_Clone_Contact_f : ∀ d r, F_slices_Clone_Contact_f d = some r → ACallX P 38 (s_slices_Clone_Contact_f.args0 d) (denH (s_slices_Clone_Contact_f.H0 d)) (s_slices_Clone_Contact_f.out r) (denH (s_slices_Clone_Contact_f.H1 r)) := fun d r h => by
  unfold F_slices_Clone_Contact_f at h
  cases hb : Nat.blt 0 (gi d 0).rows.length with
  | true => rw [hb] at h; exact c_slices_Clone_Contact_f_0 d r h
  | false =>
    rw [hb] at h
    cases h
    have e : (d.headD default).rows = [] := by
      have : ¬ 0 < (gi d 0).rows.length := fun hh => by
        have h2 : Nat.blt 0 (gi d 0).rows.length = true := by rw [Nat.blt_eq]; exact hh
        rw [h2] at hb
        cases hb
      exact List.eq_nil_of_length_eq_zero (Nat.eq_zero_of_not_pos this)
    have ha : s_slices_Clone_Contact_f.args0 d = [.listF KContact []] := by
      rw [← e]
      rfl
    rw [ha]
    exact acall_empty (c_slices_Clone_Contact_fT d [.l []] rfl) (c_slices_Clone_Contact_fF d [.l []] rfl)
noncomputable def t25 : Tab := t24.addW s_slices_Clone_Contact_f
theorem t25_ok : TabOK P t25 := t24_ok.addW (by kernel_rfl) (by kernel_rfl) c_slices_Clone_Contact_f

/- pileup/kit.Outside -/
def F_kit_Outside (d : List G) : Option (List G) :=
  (bif (ltI (gi d 0).int (gi d 1).int) then some [.t true] else some [.t (ltI (gi d 2).int (gi d 0).int)])
noncomputable def s_kit_Outside : FSpec := ⟨85, [.s (.int .i64), .s (.int .i64), .s (.int .i64)], [], [], [.s (.bool)], [], [], [], F_kit_Outside⟩
theorem b_kit_Outside : BodyOK P t25 noLoops Tryz.f85 s_kit_Outside := fun d => by kernel_rfl
theorem c_kit_Outside : ∀ d r, F_kit_Outside d = some r → ACallX P 85 (s_kit_Outside.args0 d) (denH (s_kit_Outside.H0 d)) (s_kit_Outside.out r) (denH (s_kit_Outside.H1 r)) := fun d r h => body_sound hm t25_ok (sp := s_kit_Outside) Tryz.func85 (by kernel_rfl) (noLoops_ok _ _ _) b_kit_Outside (by kernel_rfl) h
noncomputable def t26 : Tab := t25.addP s_kit_Outside
theorem t26_ok : TabOK P t26 := t25_ok.addP (by kernel_rfl) (by kernel_rfl) c_kit_Outside

/- pileup/kit.IsMoment -/
def F_kit_IsMoment (d : List G) : Option (List G) :=
  (callF (F_kit_Outside [.i (gi d 0).int, .i 0, .i 345686399999]) fun g1 => some [.t (!(gi g1 0).bool)])
noncomputable def s_kit_IsMoment : FSpec := ⟨106, [.s (.int .i64)], [], [], [.s (.bool)], [], [], [], F_kit_IsMoment⟩
theorem b_kit_IsMoment : BodyOK P t26 noLoops Tryz.f106 s_kit_IsMoment := fun d => by kernel_rfl
theorem c_kit_IsMoment : ∀ d r, F_kit_IsMoment d = some r → ACallX P 106 (s_kit_IsMoment.args0 d) (denH (s_kit_IsMoment.H0 d)) (s_kit_IsMoment.out r) (denH (s_kit_IsMoment.H1 r)) := fun d r h => body_sound hm t26_ok (sp := s_kit_IsMoment) Tryz.func106 (by kernel_rfl) (noLoops_ok _ _ _) b_kit_IsMoment (by kernel_rfl) h
noncomputable def t27 : Tab := t26.addP s_kit_IsMoment
theorem t27_ok : TabOK P t27 := t26_ok.addP (by kernel_rfl) (by kernel_rfl) c_kit_IsMoment

/- pileup/kit.IsMode -/
def F_kit_IsMode (d : List G) : Option (List G) :=
  (callF (F_kit_Outside [.i (gi d 0).int, .i 1, .i 3]) fun g1 => some [.t (!(gi g1 0).bool)])
noncomputable def s_kit_IsMode : FSpec := ⟨107, [.s (.int .i64)], [], [], [.s (.bool)], [], [], [], F_kit_IsMode⟩
theorem b_kit_IsMode : BodyOK P t27 noLoops Tryz.f107 s_kit_IsMode := fun d => by kernel_rfl
theorem c_kit_IsMode : ∀ d r, F_kit_IsMode d = some r → ACallX P 107 (s_kit_IsMode.args0 d) (denH (s_kit_IsMode.H0 d)) (s_kit_IsMode.out r) (denH (s_kit_IsMode.H1 r)) := fun d r h => body_sound hm t27_ok (sp := s_kit_IsMode) Tryz.func107 (by kernel_rfl) (noLoops_ok _ _ _) b_kit_IsMode (by kernel_rfl) h
noncomputable def t28 : Tab := t27.addP s_kit_IsMode
theorem t28_ok : TabOK P t28 := t27_ok.addP (by kernel_rfl) (by kernel_rfl) c_kit_IsMode

/- pileup/kit.IsKey -/
def F_kit_IsKey (d : List G) : Option (List G) :=
  (bif (!((gi d 0).str.toList == (⟨#[]⟩ : ByteArray).toList)) then (bif (leI (((gi d 0).str.size : Nat) : Int) 40) then (bif (ltI 0 (((gi d 0).str.size : Nat) : Int)) then (callF (F_strings_IndexByte [.s (⟨#[97, 98, 99, 100, 101, 102, 103, 104, 105, 106, 107, 108, 109, 110, 111, 112, 113, 114, 115, 116, 117, 118, 119, 120, 121, 122]⟩ : ByteArray), .i (((gi d 0).str.data.toList.getD 0 0).toNat : Int)]) fun g1 => (bif (leI 0 (gi g1 0).int) then (callF (F_strings_Trim [.s (gi d 0).str, .s (⟨#[97, 98, 99, 100, 101, 102, 103, 104, 105, 106, 107, 108, 109, 110, 111, 112, 113, 114, 115, 116, 117, 118, 119, 120, 121, 122, 48, 49, 50, 51, 52, 53, 54, 55, 56, 57, 45, 95]⟩ : ByteArray)]) fun g2 => some [.t ((gi g2 0).str.toList == (⟨#[]⟩ : ByteArray).toList)]) else some [.t false])) else none) else some [.t false]) else some [.t false])
noncomputable def s_kit_IsKey : FSpec := ⟨108, [.s (.str)], [], [], [.s (.bool)], [], [], [], F_kit_IsKey⟩
theorem b_kit_IsKey : BodyOK P t28 noLoops Tryz.f108 s_kit_IsKey := fun d => by kernel_rfl
theorem c_kit_IsKey : ∀ d r, F_kit_IsKey d = some r → ACallX P 108 (s_kit_IsKey.args0 d) (denH (s_kit_IsKey.H0 d)) (s_kit_IsKey.out r) (denH (s_kit_IsKey.H1 r)) := fun d r h => body_sound hm t28_ok (sp := s_kit_IsKey) Tryz.func108 (by kernel_rfl) (noLoops_ok _ _ _) b_kit_IsKey (by kernel_rfl) h
noncomputable def t29 : Tab := t28.addP s_kit_IsKey
theorem t29_ok : TabOK P t29 := t28_ok.addP (by kernel_rfl) (by kernel_rfl) c_kit_IsKey

/- pileup/call.Is -/
def F_call_Is (d : List G) : Option (List G) :=
  (callF (F_call_Parts [.s (gi d 0).str]) fun g1 => some [.t (gi g1 1).bool])
noncomputable def s_call_Is : FSpec := ⟨109, [.s (.str)], [], [], [.s (.bool)], [], [], [], F_call_Is⟩
theorem b_call_Is : BodyOK P t29 noLoops Tryz.f109 s_call_Is := fun d => by kernel_rfl
theorem c_call_Is : ∀ d r, F_call_Is d = some r → ACallX P 109 (s_call_Is.args0 d) (denH (s_call_Is.H0 d)) (s_call_Is.out r) (denH (s_call_Is.H1 r)) := fun d r h => body_sound hm t29_ok (sp := s_call_Is) Tryz.func109 (by kernel_rfl) (noLoops_ok _ _ _) b_call_Is (by kernel_rfl) h
noncomputable def t30 : Tab := t29.addP s_call_Is
theorem t30_ok : TabOK P t30 := t29_ok.addP (by kernel_rfl) (by kernel_rfl) c_call_Is

/- pileup/kit.IsName -/
def F_kit_IsName (d : List G) : Option (List G) :=
  (bif ((gi d 0).str.toList == (⟨#[]⟩ : ByteArray).toList) then some [.t true] else (callF (F_kit_IsKey [.s (gi d 0).str]) fun g1 => some [.t (gi g1 0).bool]))
noncomputable def s_kit_IsName : FSpec := ⟨110, [.s (.str)], [], [], [.s (.bool)], [], [], [], F_kit_IsName⟩
theorem b_kit_IsName : BodyOK P t30 noLoops Tryz.f110 s_kit_IsName := fun d => by kernel_rfl
theorem c_kit_IsName : ∀ d r, F_kit_IsName d = some r → ACallX P 110 (s_kit_IsName.args0 d) (denH (s_kit_IsName.H0 d)) (s_kit_IsName.out r) (denH (s_kit_IsName.H1 r)) := fun d r h => body_sound hm t30_ok (sp := s_kit_IsName) Tryz.func110 (by kernel_rfl) (noLoops_ok _ _ _) b_kit_IsName (by kernel_rfl) h
noncomputable def t31 : Tab := t30.addP s_kit_IsName
theorem t31_ok : TabOK P t31 := t30_ok.addP (by kernel_rfl) (by kernel_rfl) c_kit_IsName

/- pileup/log.CheckContact -/
def F_log_CheckContact (d : List G) : Option (List G) :=
  (callF (F_kit_IsMoment [.i (gi (gi d 0).row 0).int]) fun g1 => (bif (!(gi g1 0).bool) then some [.i 1] else (callF (F_kit_IsMode [.i (gi (gi d 0).row 1).int]) fun g2 => (bif (!(gi g2 0).bool) then some [.i 4] else (callF (F_kit_IsKey [.s (gi (gi d 0).row 2).str]) fun g3 => (bif (!(gi g3 0).bool) then some [.i 5] else (callF (F_call_Is [.s (gi (gi d 0).row 3).str]) fun g4 => (bif (!(gi g4 0).bool) then some [.i 3] else (callF (F_kit_Outside [.i (gi (gi d 0).row 4).int, .i 0, .i 99999]) fun g5 => (bif (gi g5 0).bool then some [.i 1] else (callF (F_kit_Outside [.i (gi (gi d 0).row 5).int, .i 0, .i 99999]) fun g6 => (bif (gi g6 0).bool then some [.i 1] else (callF (F_kit_IsName [.s (gi (gi d 0).row 6).str]) fun g7 => (bif (!(gi g7 0).bool) then some [.i 5] else (callF (F_kit_IsName [.s (gi (gi d 0).row 7).str]) fun g8 => (bif (!(gi g8 0).bool) then some [.i 5] else some [.i 0]))))))))))))))))
noncomputable def s_log_CheckContact : FSpec := ⟨44, [.s (.row KContact)], [], [], [.s (.int .i64)], [], [], [], F_log_CheckContact⟩
theorem b_log_CheckContact : BodyOK P t31 noLoops Tryz.f44 s_log_CheckContact := fun d => by kernel_rfl
theorem c_log_CheckContact : ∀ d r, F_log_CheckContact d = some r → ACallX P 44 (s_log_CheckContact.args0 d) (denH (s_log_CheckContact.H0 d)) (s_log_CheckContact.out r) (denH (s_log_CheckContact.H1 r)) := fun d r h => body_sound hm t31_ok (sp := s_log_CheckContact) Tryz.func44 (by kernel_rfl) (noLoops_ok _ _ _) b_log_CheckContact (by kernel_rfl) h
noncomputable def t32 : Tab := t31.addP s_log_CheckContact
theorem t32_ok : TabOK P t32 := t31_ok.addP (by kernel_rfl) (by kernel_rfl) c_log_CheckContact

/- cmp.isNaN[int] -/
def F_cmp_isNaN_int (d : List G) : Option (List G) :=
  some [.t ((gi d 0).int != (gi d 0).int)]
noncomputable def s_cmp_isNaN_int : FSpec := ⟨234, [.s (.int .i64)], [], [], [.s (.bool)], [], [], [], F_cmp_isNaN_int⟩
theorem b_cmp_isNaN_int : BodyOK P t32 noLoops Tryz.f234 s_cmp_isNaN_int := fun d => by kernel_rfl
theorem c_cmp_isNaN_int : ∀ d r, F_cmp_isNaN_int d = some r → ACallX P 234 (s_cmp_isNaN_int.args0 d) (denH (s_cmp_isNaN_int.H0 d)) (s_cmp_isNaN_int.out r) (denH (s_cmp_isNaN_int.H1 r)) := fun d r h => body_sound hm t32_ok (sp := s_cmp_isNaN_int) Tryz.func234 (by kernel_rfl) (noLoops_ok _ _ _) b_cmp_isNaN_int (by kernel_rfl) h
noncomputable def t33 : Tab := t32.addP s_cmp_isNaN_int
theorem t33_ok : TabOK P t33 := t32_ok.addP (by kernel_rfl) (by kernel_rfl) c_cmp_isNaN_int

/- cmp.Compare[int] -/
def F_cmp_Compare_int (d : List G) : Option (List G) :=
  (callF (F_cmp_isNaN_int [.i (gi d 0).int]) fun g1 => (callF (F_cmp_isNaN_int [.i (gi d 1).int]) fun g2 => (bif (gi g1 0).bool then (bif (gi g2 0).bool then some [.i 0] else some [.i (-1)]) else (bif (gi g2 0).bool then some [.i 1] else (bif (ltI (gi d 0).int (gi d 1).int) then some [.i (-1)] else (bif (ltI (gi d 1).int (gi d 0).int) then some [.i 1] else some [.i 0]))))))
noncomputable def s_cmp_Compare_int : FSpec := ⟨180, [.s (.int .i64), .s (.int .i64)], [], [], [.s (.int .i64)], [], [], [], F_cmp_Compare_int⟩
theorem b_cmp_Compare_int : BodyOK P t33 noLoops Tryz.f180 s_cmp_Compare_int := fun d => by kernel_rfl
theorem c_cmp_Compare_int : ∀ d r, F_cmp_Compare_int d = some r → ACallX P 180 (s_cmp_Compare_int.args0 d) (denH (s_cmp_Compare_int.H0 d)) (s_cmp_Compare_int.out r) (denH (s_cmp_Compare_int.H1 r)) := fun d r h => body_sound hm t33_ok (sp := s_cmp_Compare_int) Tryz.func180 (by kernel_rfl) (noLoops_ok _ _ _) b_cmp_Compare_int (by kernel_rfl) h
noncomputable def t34 : Tab := t33.addP s_cmp_Compare_int
theorem t34_ok : TabOK P t34 := t33_ok.addP (by kernel_rfl) (by kernel_rfl) c_cmp_Compare_int

/- cmp.Or[int] -/
def st_cmp_Or_int_3 (d : List G) : Option (Option Nat × List G) :=
  (bif (ltI (gi d 3).int (gi d 2).int) then (bif ((nnI (gi d 3).int) && (ltI (gi d 3).int (((gi d 1).rows.length : Nat) : Int))) then (bif ((gi ((gi d 1).rows.getD (((gi d 3).int).toNat) []) 0).int != (gi d 0).int) then some (some 0, [.i (gi ((gi d 1).rows.getD (((gi d 3).int).toNat) []) 0).int]) else (bif (inI ((gi d 3).int + 1)) then some (none, [.i (gi d 0).int, .l (gi d 1).rows, .i (gi d 2).int, .i ((gi d 3).int + 1)]) else none)) else none) else some (some 1, [.i (gi d 0).int]))
noncomputable def l_cmp_Or_int_3 : LSpec := ⟨3, [], ⟨18, [(3, .s (.int .i64)), (6, .s (.list [.int .i64])), (7, .s (.int .i64)), (8, .s (.int .i64))], []⟩, [], [⟨.ret, ⟨18, [(2, .s (.int .i64))], []⟩, []⟩, ⟨.exit 0, ⟨18, [(3, .s (.int .i64))], []⟩, []⟩], st_cmp_Or_int_3⟩
theorem r_cmp_Or_int_3 : RoundOK P t34 noLoops 0 (loopAt Tryz.f179 3) l_cmp_Or_int_3 := fun d => by kernel_rfl
noncomputable def L_cmp_Or_int_3 : LT := noLoops.add 0 l_cmp_Or_int_3
theorem L_cmp_Or_int_3_ok : LoopsOK P 0 L_cmp_Or_int_3 (bodyOf Tryz.f179) := LoopsOK.add hm t34_ok (by kernel_rfl) (noLoops_ok _ _ _) r_cmp_Or_int_3
def F_cmp_Or_int (d : List G) : Option (List G) :=
  (loopB true (LRun st_cmp_Or_int_3 [.i 0, .l (gi d 0).rows, .i (((gi d 0).rows.length : Nat) : Int), .i 0]) fun cg1 g1 => (bif Nat.beq cg1 0 then some [.i (gi g1 0).int] else some [.i (gi g1 0).int]))
noncomputable def s_cmp_Or_int : FSpec := ⟨179, [.s (.list [.int .i64])], [], [], [.s (.int .i64)], [], [], [], F_cmp_Or_int⟩
theorem b_cmp_Or_int : BodyOK P t34 L_cmp_Or_int_3 Tryz.f179 s_cmp_Or_int := fun d => by kernel_rfl
theorem c_cmp_Or_int : ∀ d r, F_cmp_Or_int d = some r → ACallX P 179 (s_cmp_Or_int.args0 d) (denH (s_cmp_Or_int.H0 d)) (s_cmp_Or_int.out r) (denH (s_cmp_Or_int.H1 r)) := fun d r h => body_sound hm t34_ok (sp := s_cmp_Or_int) Tryz.func179 (by kernel_rfl) L_cmp_Or_int_3_ok b_cmp_Or_int (by kernel_rfl) h
noncomputable def t35 : Tab := t34.addP s_cmp_Or_int
theorem t35_ok : TabOK P t35 := t34_ok.addP (by kernel_rfl) (by kernel_rfl) c_cmp_Or_int

/- pileup/log.Compare -/
def F_log_Compare (d : List G) : Option (List G) :=
  (callF (F_cmp_Compare_int [.i (gi (gi d 0).row 0).int, .i (gi (gi d 1).row 0).int]) fun g1 => (callF (F_strings_Compare [.s (gi (gi d 0).row 3).str, .s (gi (gi d 1).row 3).str]) fun g2 => (callF (F_strings_Compare [.s (gi (gi d 0).row 2).str, .s (gi (gi d 1).row 2).str]) fun g3 => (callF (F_cmp_Compare_int [.i (gi (gi d 0).row 1).int, .i (gi (gi d 1).row 1).int]) fun g4 => (callF (F_cmp_Or_int [.l [[.i (gi g1 0).int], [.i (gi g2 0).int], [.i (gi g3 0).int], [.i (gi g4 0).int]]]) fun g5 => some [.i (gi g5 0).int])))))
noncomputable def s_log_Compare : FSpec := ⟨100, [.s (.row KContact), .s (.row KContact)], [], [], [.s (.int .i64)], [], [], [], F_log_Compare⟩
theorem b_log_Compare : BodyOK P t35 noLoops Tryz.f100 s_log_Compare := fun d => by kernel_rfl
theorem c_log_Compare : ∀ d r, F_log_Compare d = some r → ACallX P 100 (s_log_Compare.args0 d) (denH (s_log_Compare.H0 d)) (s_log_Compare.out r) (denH (s_log_Compare.H1 r)) := fun d r h => body_sound hm t35_ok (sp := s_log_Compare) Tryz.func100 (by kernel_rfl) (noLoops_ok _ _ _) b_log_Compare (by kernel_rfl) h
noncomputable def t36 : Tab := t35.addP s_log_Compare
theorem t36_ok : TabOK P t36 := t35_ok.addP (by kernel_rfl) (by kernel_rfl) c_log_Compare

/- pileup/log.CheckLog -/
def st_log_CheckLog_4 (d : List G) : Option (Option Nat × List G) :=
  (bif (ltI (gi d 3).int (gi d 2).int) then (bif ((nnI (gi d 3).int) && (ltI (gi d 3).int (((gi d 1).rows.length : Nat) : Int))) then (callF (F_log_CheckContact [.l [(gEta KContact ((gi d 1).rows.getD (((gi d 3).int).toNat) []))]]) fun g1 => (bif ((gi g1 0).int != 0) then some (some 0, [.i (gi g1 0).int]) else (bif (ltI 0 (gi d 3).int) then (bif (inI ((gi d 3).int - 1)) then (bif ((nnI ((gi d 3).int - 1)) && (ltI ((gi d 3).int - 1) (((gi d 0).rows.length : Nat) : Int))) then (callF (F_log_Compare [.l [(gEta KContact ((gi d 0).rows.getD (((gi d 3).int - 1).toNat) []))], .l [(gEta KContact ((gi d 1).rows.getD (((gi d 3).int).toNat) []))]]) fun g2 => (bif (leI 0 (gi g2 0).int) then some (some 0, [.i 7]) else (bif (inI ((gi d 3).int + 1)) then some (none, [.l (gi d 0).rows, .l (gi d 1).rows, .i (gi d 2).int, .i ((gi d 3).int + 1)]) else none))) else none) else none) else (bif (inI ((gi d 3).int + 1)) then some (none, [.l (gi d 0).rows, .l (gi d 1).rows, .i (gi d 2).int, .i ((gi d 3).int + 1)]) else none)))) else none) else some (some 1, []))
noncomputable def l_log_CheckLog_4 : LSpec := ⟨4, [], ⟨34, [(0, .s (.list KContact)), (9, .s (.list KContact)), (10, .s (.int .i64)), (11, .s (.int .i64))], []⟩, [], [⟨.ret, ⟨34, [(2, .s (.int .i64))], []⟩, []⟩, ⟨.exit 0, ⟨34, [], []⟩, []⟩], st_log_CheckLog_4⟩
theorem r_log_CheckLog_4 : RoundOK P t36 noLoops 0 (loopAt Tryz.f46 4) l_log_CheckLog_4 := fun d => by kernel_rfl
noncomputable def L_log_CheckLog_4 : LT := noLoops.add 0 l_log_CheckLog_4
theorem L_log_CheckLog_4_ok : LoopsOK P 0 L_log_CheckLog_4 (bodyOf Tryz.f46) := LoopsOK.add hm t36_ok (by kernel_rfl) (noLoops_ok _ _ _) r_log_CheckLog_4
def F_log_CheckLog (d : List G) : Option (List G) :=
  (bif (ltI 2000 (((gi d 0).rows.length : Nat) : Int)) then some [.i 2] else (loopB true (LRun st_log_CheckLog_4 [.l (gi d 0).rows, .l (gi d 0).rows, .i (((gi d 0).rows.length : Nat) : Int), .i 0]) fun cg3 g3 => (bif Nat.beq cg3 0 then some [.i (gi g3 0).int] else some [.i 0])))
noncomputable def s_log_CheckLog : FSpec := ⟨46, [.s (.list KContact)], [], [], [.s (.int .i64)], [], [], [], F_log_CheckLog⟩
theorem b_log_CheckLog : BodyOK P t36 L_log_CheckLog_4 Tryz.f46 s_log_CheckLog := fun d => by kernel_rfl
theorem c_log_CheckLog : ∀ d r, F_log_CheckLog d = some r → ACallX P 46 (s_log_CheckLog.args0 d) (denH (s_log_CheckLog.H0 d)) (s_log_CheckLog.out r) (denH (s_log_CheckLog.H1 r)) := fun d r h => body_sound hm t36_ok (sp := s_log_CheckLog) Tryz.func46 (by kernel_rfl) L_log_CheckLog_4_ok b_log_CheckLog (by kernel_rfl) h
noncomputable def t37 : Tab := t36.addP s_log_CheckLog
theorem t37_ok : TabOK P t37 := t36_ok.addP (by kernel_rfl) (by kernel_rfl) c_log_CheckLog

/- pileup/log.checkBoth -/
def F_log_checkBoth (d : List G) : Option (List G) :=
  (callF (F_log_CheckLog [.l (gi d 0).rows]) fun g1 => (bif ((gi g1 0).int != 0) then some [.i (gi g1 0).int] else (callF (F_log_CheckLog [.l (gi d 1).rows]) fun g2 => some [.i (gi g2 0).int])))
noncomputable def s_log_checkBoth : FSpec := ⟨98, [.s (.list KContact), .s (.list KContact)], [], [], [.s (.int .i64)], [], [], [], F_log_checkBoth⟩
theorem b_log_checkBoth : BodyOK P t37 noLoops Tryz.f98 s_log_checkBoth := fun d => by kernel_rfl
theorem c_log_checkBoth : ∀ d r, F_log_checkBoth d = some r → ACallX P 98 (s_log_checkBoth.args0 d) (denH (s_log_checkBoth.H0 d)) (s_log_checkBoth.out r) (denH (s_log_checkBoth.H1 r)) := fun d r h => body_sound hm t37_ok (sp := s_log_checkBoth) Tryz.func98 (by kernel_rfl) (noLoops_ok _ _ _) b_log_checkBoth (by kernel_rfl) h
noncomputable def t38 : Tab := t37.addP s_log_checkBoth
theorem t38_ok : TabOK P t38 := t37_ok.addP (by kernel_rfl) (by kernel_rfl) c_log_checkBoth

/- slices.Grow[[]pileup/api.Contact,pileup/api.Contact] -/
/- not followed: op panic at slices.go:424 -/
def F_slices_Grow_Contact (d : List G) : Option (List G) :=
  (bif (ltI (gi d 0).int 0) then none else (bif (inI ((gi d 0).int - 0)) then (bif (ltI 0 ((gi d 0).int - 0)) then (bif ((ltI 0 ((gi d 0).int - 0)) && (leI ((gi d 0).int - 0) 1048576)) then (bif (leI 0 ((((gi d 0).int - 0).toNat : Nat) : Int)) then (bif ((Nat.ble 0 (List.replicate (((gi d 0).int - 0).toNat) ([.i 0, .i 0, .s (⟨#[]⟩ : ByteArray), .s (⟨#[]⟩ : ByteArray), .i 0, .i 0, .s (⟨#[]⟩ : ByteArray), .s (⟨#[]⟩ : ByteArray)] : List G)).length) && true) then some [.l ((List.replicate (((gi d 0).int - 0).toNat) ([.i 0, .i 0, .s (⟨#[]⟩ : ByteArray), .s (⟨#[]⟩ : ByteArray), .i 0, .i 0, .s (⟨#[]⟩ : ByteArray), .s (⟨#[]⟩ : ByteArray)] : List G)).take 0)] else none) else none) else none) else some [.l []]) else none))
noncomputable def s_slices_Grow_Contact : FSpec := ⟨178, [.s (.nil), .s (.int .i64)], [], [], [.s (.list KContact)], [], [], [], F_slices_Grow_Contact⟩
theorem b_slices_Grow_Contact : BodyOK P t38 (noLoops.hinted [(6, [.trunc 0])]) Tryz.f178 s_slices_Grow_Contact := fun d => by kernel_rfl
theorem c_slices_Grow_Contact : ∀ d r, F_slices_Grow_Contact d = some r → ACallX P 178 (s_slices_Grow_Contact.args0 d) (denH (s_slices_Grow_Contact.H0 d)) (s_slices_Grow_Contact.out r) (denH (s_slices_Grow_Contact.H1 r)) := fun d r h => body_sound hm t38_ok (sp := s_slices_Grow_Contact) Tryz.func178 (by kernel_rfl) (hinted_ok _) b_slices_Grow_Contact (by kernel_rfl) h
noncomputable def t39 : Tab := t38.addP s_slices_Grow_Contact
theorem t39_ok : TabOK P t39 := t38_ok.addP (by kernel_rfl) (by kernel_rfl) c_slices_Grow_Contact

/- slices.Grow[[]pileup/api.Contact,pileup/api.Contact] -/
/- not followed: op panic at slices.go:424 -/
def F_slices_Grow_Contact_f (d : List G) : Option (List G) :=
  (bif (ltI (gi d 0).int 0) then none else (bif (inI ((gi d 0).int - 0)) then (bif (ltI 0 ((gi d 0).int - 0)) then (bif ((ltI 0 ((gi d 0).int - 0)) && (leI ((gi d 0).int - 0) 1048576)) then (bif (leI 0 ((((gi d 0).int - 0).toNat : Nat) : Int)) then (bif ((Nat.ble 0 (List.replicate (((gi d 0).int - 0).toNat) ([.i 0, .i 0, .s (⟨#[]⟩ : ByteArray), .s (⟨#[]⟩ : ByteArray), .i 0, .i 0, .s (⟨#[]⟩ : ByteArray), .s (⟨#[]⟩ : ByteArray)] : List G)).length) && true) then some [.l ((List.replicate (((gi d 0).int - 0).toNat) ([.i 0, .i 0, .s (⟨#[]⟩ : ByteArray), .s (⟨#[]⟩ : ByteArray), .i 0, .i 0, .s (⟨#[]⟩ : ByteArray), .s (⟨#[]⟩ : ByteArray)] : List G)).take 0)] else none) else none) else none) else some [.l []]) else none))
noncomputable def s_slices_Grow_Contact_f : FSpec := ⟨178, [.s (.nil), .s (.int .i64)], [], [], [.s (.vec 0 8)], [.vec KContact 0], [.slot 0], [(4, KContact)], F_slices_Grow_Contact_f⟩
theorem b_slices_Grow_Contact_f : BodyOK P t39 (noLoops.hinted [(6, [.trunc 0])]) Tryz.f178 s_slices_Grow_Contact_f := fun d => by kernel_rfl
theorem c_slices_Grow_Contact_f : ∀ d r, F_slices_Grow_Contact_f d = some r → ACallX P 178 (s_slices_Grow_Contact_f.args0 d) (denH (s_slices_Grow_Contact_f.H0 d)) (s_slices_Grow_Contact_f.out r) (denH (s_slices_Grow_Contact_f.H1 r)) := fun d r h => body_sound hm t39_ok (sp := s_slices_Grow_Contact_f) Tryz.func178 (by kernel_rfl) (hinted_ok _) b_slices_Grow_Contact_f (by kernel_rfl) h
noncomputable def t40 : Tab := t39.addW s_slices_Grow_Contact_f
theorem t40_ok : TabOK P t40 := t39_ok.addW (by kernel_rfl) (by kernel_rfl) c_slices_Grow_Contact_f

/- slices.Concat[[]pileup/api.Contact,pileup/api.Contact] -/
/- not followed: op panic at slices.go:496 -/
def st_slices_Concat_Contact_3 (d : List G) : Option (Option Nat × List G) :=
  (bif (ltI (gi d 4).int (gi d 3).int) then (bif ((nnI (gi d 4).int) && (ltI (gi d 4).int (((gi d 2).rows.length : Nat) : Int))) then (bif (inI ((gi d 1).int + (((gi ((gi d 2).rows.getD (((gi d 4).int).toNat) []) 0).rows.length : Nat) : Int))) then (bif (ltI ((gi d 1).int + (((gi ((gi d 2).rows.getD (((gi d 4).int).toNat) []) 0).rows.length : Nat) : Int)) 0) then none else (bif (inI ((gi d 4).int + 1)) then some (none, [.l (gi d 0).rows, .i ((gi d 1).int + (((gi ((gi d 2).rows.getD (((gi d 4).int).toNat) []) 0).rows.length : Nat) : Int)), .l (gi d 2).rows, .i (gi d 3).int, .i ((gi d 4).int + 1)]) else none)) else none) else none) else some (some 0, [.l (gi d 0).rows, .i (gi d 1).int]))
noncomputable def l_slices_Concat_Contact_3 : LSpec := ⟨3, [], ⟨36, [(0, .s (.list [.list KContact])), (3, .s (.int .i64)), (9, .s (.list [.list KContact])), (10, .s (.int .i64)), (11, .s (.int .i64))], []⟩, [], [⟨.exit 0, ⟨36, [(0, .s (.list [.list KContact])), (3, .s (.int .i64))], []⟩, []⟩], st_slices_Concat_Contact_3⟩
theorem r_slices_Concat_Contact_3 : RoundOK P t40 noLoops 0 (loopAt Tryz.f99 3) l_slices_Concat_Contact_3 := fun d => by kernel_rfl
noncomputable def L_slices_Concat_Contact_3 : LT := noLoops.add 0 l_slices_Concat_Contact_3
theorem L_slices_Concat_Contact_3_ok : LoopsOK P 0 L_slices_Concat_Contact_3 (bodyOf Tryz.f99) := LoopsOK.add hm t40_ok (by kernel_rfl) (noLoops_ok _ _ _) r_slices_Concat_Contact_3
def st_slices_Concat_Contact_11 (d : List G) : Option (Option Nat × List G) :=
  (bif (ltI (gi d 3).int (gi d 2).int) then (bif ((nnI (gi d 3).int) && (ltI (gi d 3).int (((gi d 1).rows.length : Nat) : Int))) then (bif ((Nat.beq (gi d 0).rows.length (gi d 0).rows.length) && (decide (((gi d 0).rows.length + (gi ((gi d 1).rows.getD (((gi d 3).int).toNat) []) 0).rows.length) ≤ 1048576))) then (bif (inI ((gi d 3).int + 1)) then (bif ((Nat.beq ((gi d 0).rows ++ (gi ((gi d 1).rows.getD (((gi d 3).int).toNat) []) 0).rows).length ((gi d 0).rows ++ (gi ((gi d 1).rows.getD (((gi d 3).int).toNat) []) 0).rows).length) && true) then some (none, [.l ((gi d 0).rows ++ (gi ((gi d 1).rows.getD (((gi d 3).int).toNat) []) 0).rows), .l (gi d 1).rows, .i (gi d 2).int, .i ((gi d 3).int + 1)]) else none) else none) else none) else none) else (bif ((Nat.beq (gi d 0).rows.length (gi d 0).rows.length) && true) then some (some 0, [.l (gi d 0).rows]) else none))
noncomputable def l_slices_Concat_Contact_11 : LSpec := ⟨11, [], ⟨36, [(6, .s (.vec 0 8)), (25, .s (.list [.list KContact])), (26, .s (.int .i64)), (27, .s (.int .i64))], [.vec KContact 0]⟩, [.slot 6], [⟨.exit 2, ⟨36, [(6, .s (.vec 0 8))], [.vec KContact 0]⟩, [.slot 6]⟩], st_slices_Concat_Contact_11⟩
theorem r_slices_Concat_Contact_11 : RoundOK P t40 L_slices_Concat_Contact_3 0 (loopAt Tryz.f99 11) l_slices_Concat_Contact_11 := fun d => by kernel_rfl
noncomputable def L_slices_Concat_Contact_11 : LT := L_slices_Concat_Contact_3.add 0 l_slices_Concat_Contact_11
theorem L_slices_Concat_Contact_11_ok : LoopsOK P 0 L_slices_Concat_Contact_11 (bodyOf Tryz.f99) := LoopsOK.add hm t40_ok (by kernel_rfl) L_slices_Concat_Contact_3_ok r_slices_Concat_Contact_11
def F_slices_Concat_Contact (d : List G) : Option (List G) :=
  (loopB true (LRun st_slices_Concat_Contact_3 [.l (gi d 0).rows, .i 0, .l (gi d 0).rows, .i (((gi d 0).rows.length : Nat) : Int), .i 0]) fun cg1 g1 => (callF (F_slices_Grow_Contact_f [.i (gi g1 1).int]) fun g2 => (loopB ((Nat.beq (gi g2 0).rows.length (gi g2 0).rows.length) && true) (LRun st_slices_Concat_Contact_11 [.l (gi g2 0).rows, .l (gi g1 0).rows, .i (((gi g1 0).rows.length : Nat) : Int), .i 0]) fun cg3 g3 => (bif ((Nat.beq (gi g3 0).rows.length (gi g3 0).rows.length) && true) then some [.l (gi g3 0).rows] else none))))
noncomputable def s_slices_Concat_Contact : FSpec := ⟨99, [.s (.list [.list KContact])], [], [], [.s (.list KContact)], [], [], [], F_slices_Concat_Contact⟩
theorem b_slices_Concat_Contact : BodyOK P t40 L_slices_Concat_Contact_11 Tryz.f99 s_slices_Concat_Contact := fun d => by kernel_rfl
theorem c_slices_Concat_Contact : ∀ d r, F_slices_Concat_Contact d = some r → ACallX P 99 (s_slices_Concat_Contact.args0 d) (denH (s_slices_Concat_Contact.H0 d)) (s_slices_Concat_Contact.out r) (denH (s_slices_Concat_Contact.H1 r)) := fun d r h => body_sound hm t40_ok (sp := s_slices_Concat_Contact) Tryz.func99 (by kernel_rfl) L_slices_Concat_Contact_11_ok b_slices_Concat_Contact (by kernel_rfl) h
noncomputable def t41 : Tab := t40.addP s_slices_Concat_Contact
theorem t41_ok : TabOK P t41 := t40_ok.addP (by kernel_rfl) (by kernel_rfl) c_slices_Concat_Contact

/- slices.Concat[[]pileup/api.Contact,pileup/api.Contact] -/
/- not followed: op panic at slices.go:496 -/
def st_slices_Concat_Contact_f_3 (d : List G) : Option (Option Nat × List G) :=
  (bif (ltI (gi d 4).int (gi d 3).int) then (bif ((nnI (gi d 4).int) && (ltI (gi d 4).int (((gi d 2).rows.length : Nat) : Int))) then (bif (inI ((gi d 1).int + (((gi ((gi d 2).rows.getD (((gi d 4).int).toNat) []) 0).rows.length : Nat) : Int))) then (bif (ltI ((gi d 1).int + (((gi ((gi d 2).rows.getD (((gi d 4).int).toNat) []) 0).rows.length : Nat) : Int)) 0) then none else (bif (inI ((gi d 4).int + 1)) then some (none, [.l (gi d 0).rows, .i ((gi d 1).int + (((gi ((gi d 2).rows.getD (((gi d 4).int).toNat) []) 0).rows.length : Nat) : Int)), .l (gi d 2).rows, .i (gi d 3).int, .i ((gi d 4).int + 1)]) else none)) else none) else none) else some (some 0, [.l (gi d 0).rows, .i (gi d 1).int]))
noncomputable def l_slices_Concat_Contact_f_3 : LSpec := ⟨3, [], ⟨36, [(0, .s (.list [.list KContact])), (3, .s (.int .i64)), (9, .s (.list [.list KContact])), (10, .s (.int .i64)), (11, .s (.int .i64))], []⟩, [], [⟨.exit 0, ⟨36, [(0, .s (.list [.list KContact])), (3, .s (.int .i64))], []⟩, []⟩], st_slices_Concat_Contact_f_3⟩
theorem r_slices_Concat_Contact_f_3 : RoundOK P t41 noLoops 0 (loopAt Tryz.f99 3) l_slices_Concat_Contact_f_3 := fun d => by kernel_rfl
noncomputable def L_slices_Concat_Contact_f_3 : LT := noLoops.add 0 l_slices_Concat_Contact_f_3
theorem L_slices_Concat_Contact_f_3_ok : LoopsOK P 0 L_slices_Concat_Contact_f_3 (bodyOf Tryz.f99) := LoopsOK.add hm t41_ok (by kernel_rfl) (noLoops_ok _ _ _) r_slices_Concat_Contact_f_3
def st_slices_Concat_Contact_f_11 (d : List G) : Option (Option Nat × List G) :=
  (bif (ltI (gi d 3).int (gi d 2).int) then (bif ((nnI (gi d 3).int) && (ltI (gi d 3).int (((gi d 1).rows.length : Nat) : Int))) then (bif ((Nat.beq (gi d 0).rows.length (gi d 0).rows.length) && (decide (((gi d 0).rows.length + (gi ((gi d 1).rows.getD (((gi d 3).int).toNat) []) 0).rows.length) ≤ 1048576))) then (bif (inI ((gi d 3).int + 1)) then (bif ((Nat.beq ((gi d 0).rows ++ (gi ((gi d 1).rows.getD (((gi d 3).int).toNat) []) 0).rows).length ((gi d 0).rows ++ (gi ((gi d 1).rows.getD (((gi d 3).int).toNat) []) 0).rows).length) && true) then some (none, [.l ((gi d 0).rows ++ (gi ((gi d 1).rows.getD (((gi d 3).int).toNat) []) 0).rows), .l (gi d 1).rows, .i (gi d 2).int, .i ((gi d 3).int + 1)]) else none) else none) else none) else none) else (bif ((Nat.beq (gi d 0).rows.length (gi d 0).rows.length) && true) then some (some 0, [.l (gi d 0).rows]) else none))
noncomputable def l_slices_Concat_Contact_f_11 : LSpec := ⟨11, [], ⟨36, [(6, .s (.vec 0 8)), (25, .s (.list [.list KContact])), (26, .s (.int .i64)), (27, .s (.int .i64))], [.vec KContact 0]⟩, [.slot 6], [⟨.exit 2, ⟨36, [(6, .s (.vec 0 8))], [.vec KContact 0]⟩, [.slot 6]⟩], st_slices_Concat_Contact_f_11⟩
theorem r_slices_Concat_Contact_f_11 : RoundOK P t41 L_slices_Concat_Contact_f_3 0 (loopAt Tryz.f99 11) l_slices_Concat_Contact_f_11 := fun d => by kernel_rfl
noncomputable def L_slices_Concat_Contact_f_11 : LT := L_slices_Concat_Contact_f_3.add 0 l_slices_Concat_Contact_f_11
theorem L_slices_Concat_Contact_f_11_ok : LoopsOK P 0 L_slices_Concat_Contact_f_11 (bodyOf Tryz.f99) := LoopsOK.add hm t41_ok (by kernel_rfl) L_slices_Concat_Contact_f_3_ok r_slices_Concat_Contact_f_11
def F_slices_Concat_Contact_f (d : List G) : Option (List G) :=
  (loopB true (LRun st_slices_Concat_Contact_f_3 [.l (gi d 0).rows, .i 0, .l (gi d 0).rows, .i (((gi d 0).rows.length : Nat) : Int), .i 0]) fun cg1 g1 => (callF (F_slices_Grow_Contact_f [.i (gi g1 1).int]) fun g2 => (loopB ((Nat.beq (gi g2 0).rows.length (gi g2 0).rows.length) && true) (LRun st_slices_Concat_Contact_f_11 [.l (gi g2 0).rows, .l (gi g1 0).rows, .i (((gi g1 0).rows.length : Nat) : Int), .i 0]) fun cg3 g3 => (bif ((Nat.beq (gi g3 0).rows.length (gi g3 0).rows.length) && true) then some [.l (gi g3 0).rows] else none))))
noncomputable def s_slices_Concat_Contact_f : FSpec := ⟨99, [.s (.list [.list KContact])], [], [], [.s (.vec 0 8)], [.vec KContact 0], [.slot 0], [], F_slices_Concat_Contact_f⟩
theorem b_slices_Concat_Contact_f : BodyOK P t41 L_slices_Concat_Contact_f_11 Tryz.f99 s_slices_Concat_Contact_f := fun d => by kernel_rfl
theorem c_slices_Concat_Contact_f : ∀ d r, F_slices_Concat_Contact_f d = some r → ACallX P 99 (s_slices_Concat_Contact_f.args0 d) (denH (s_slices_Concat_Contact_f.H0 d)) (s_slices_Concat_Contact_f.out r) (denH (s_slices_Concat_Contact_f.H1 r)) := fun d r h => body_sound hm t41_ok (sp := s_slices_Concat_Contact_f) Tryz.func99 (by kernel_rfl) L_slices_Concat_Contact_f_11_ok b_slices_Concat_Contact_f (by kernel_rfl) h
noncomputable def t42 : Tab := t41.addW s_slices_Concat_Contact_f
theorem t42_ok : TabOK P t42 := t41_ok.addW (by kernel_rfl) (by kernel_rfl) c_slices_Concat_Contact_f

/- slices.insertionSortCmpFunc[pileup/api.Contact] -/
def st_slices_insertionSortCmpFunc_Contact_2_4 (d : List G) : Option (Option Nat × List G) :=
  (bif (ltI (gi d 1).int (gi d 4).int) then (bif ((nnI (gi d 4).int) && (ltI (gi d 4).int (((gi d 0).rows.length : Nat) : Int))) then (bif (decide ((0 + ((gi d 4).int).toNat) < (gi d 0).rows.length)) then (bif (inI ((gi d 4).int - 1)) then (bif ((nnI ((gi d 4).int - 1)) && (ltI ((gi d 4).int - 1) (((gi d 0).rows.length : Nat) : Int))) then (bif (decide ((0 + ((gi d 4).int - 1).toNat) < (gi d 0).rows.length)) then (callF (F_log_Compare [.l [(gEta KContact ((gi d 0).rows.getD (0 + ((gi d 4).int).toNat) []))], .l [(gEta KContact ((gi d 0).rows.getD (0 + ((gi d 4).int - 1).toNat) []))]]) fun g1 => (bif (ltI (gi g1 0).int 0) then (bif (inI ((gi d 4).int - 1)) then (bif (inI ((gi d 4).int - 1)) then (bif ((nnI ((gi d 4).int - 1)) && (ltI ((gi d 4).int - 1) (((gi d 0).rows.length : Nat) : Int))) then (bif (decide ((0 + ((gi d 4).int - 1).toNat) < (gi d 0).rows.length)) then (bif ((nnI (gi d 4).int) && (ltI (gi d 4).int (((gi d 0).rows.length : Nat) : Int))) then (bif (decide ((0 + ((gi d 4).int).toNat) < (gi d 0).rows.length)) then (bif ((nnI (gi d 4).int) && (ltI (gi d 4).int (((gi d 0).rows.length : Nat) : Int))) then (bif (decide ((0 + ((gi d 4).int).toNat) < (gi d 0).rows.length)) then (bif ((nnI ((gi d 4).int - 1)) && (ltI ((gi d 4).int - 1) (((gi d 0).rows.length : Nat) : Int))) then (bif (decide ((0 + ((gi d 4).int - 1).toNat) < ((gi d 0).rows.set (0 + ((gi d 4).int).toNat) (putG KContact ((gi d 0).rows.getD (0 + ((gi d 4).int).toNat) []) 0 (gEta KContact ((gi d 0).rows.getD (0 + ((gi d 4).int - 1).toNat) [])))).length)) then (bif (inI ((gi d 4).int - 1)) then (bif ((Nat.beq (gi d 0).rows.length (((gi d 0).rows.set (0 + ((gi d 4).int).toNat) (putG KContact ((gi d 0).rows.getD (0 + ((gi d 4).int).toNat) []) 0 (gEta KContact ((gi d 0).rows.getD (0 + ((gi d 4).int - 1).toNat) [])))).set (0 + ((gi d 4).int - 1).toNat) (putG KContact (((gi d 0).rows.set (0 + ((gi d 4).int).toNat) (putG KContact ((gi d 0).rows.getD (0 + ((gi d 4).int).toNat) []) 0 (gEta KContact ((gi d 0).rows.getD (0 + ((gi d 4).int - 1).toNat) [])))).getD (0 + ((gi d 4).int - 1).toNat) []) 0 (gEta KContact ((gi d 0).rows.getD (0 + ((gi d 4).int).toNat) [])))).length) && true) then some (none, [.l (((gi d 0).rows.set (0 + ((gi d 4).int).toNat) (putG KContact ((gi d 0).rows.getD (0 + ((gi d 4).int).toNat) []) 0 (gEta KContact ((gi d 0).rows.getD (0 + ((gi d 4).int - 1).toNat) [])))).set (0 + ((gi d 4).int - 1).toNat) (putG KContact (((gi d 0).rows.set (0 + ((gi d 4).int).toNat) (putG KContact ((gi d 0).rows.getD (0 + ((gi d 4).int).toNat) []) 0 (gEta KContact ((gi d 0).rows.getD (0 + ((gi d 4).int - 1).toNat) [])))).getD (0 + ((gi d 4).int - 1).toNat) []) 0 (gEta KContact ((gi d 0).rows.getD (0 + ((gi d 4).int).toNat) [])))), .i (gi d 1).int, .i (gi d 2).int, .i (gi d 3).int, .i ((gi d 4).int - 1)]) else none) else none) else none) else none) else none) else none) else none) else none) else none) else none) else none) else none) else (bif ((Nat.beq (gi d 0).rows.length (gi d 0).rows.length) && true) then some (some 0, [.l (gi d 0).rows, .i (gi d 1).int, .i (gi d 2).int, .i (gi d 3).int]) else none))) else none) else none) else none) else none) else none) else (bif ((Nat.beq (gi d 0).rows.length (gi d 0).rows.length) && true) then some (some 0, [.l (gi d 0).rows, .i (gi d 1).int, .i (gi d 2).int, .i (gi d 3).int]) else none))
noncomputable def l_slices_insertionSortCmpFunc_Contact_2_4 : LSpec := ⟨4, [], ⟨53, [(0, .s (.vec 0 8)), (1, .s (.int .i64)), (2, .s (.int .i64)), (3, .s (.fn 100)), (8, .s (.int .i64)), (9, .s (.int .i64))], [.vec KContact 0]⟩, [.fix 0], [⟨.exit 2, ⟨53, [(0, .s (.vec 0 8)), (1, .s (.int .i64)), (2, .s (.int .i64)), (3, .s (.fn 100)), (8, .s (.int .i64))], [.vec KContact 0]⟩, [.fix 0]⟩], st_slices_insertionSortCmpFunc_Contact_2_4⟩
theorem r_slices_insertionSortCmpFunc_Contact_2_4 : RoundOK P t42 noLoops 1 (loopAt Tryz.f228 4) l_slices_insertionSortCmpFunc_Contact_2_4 := fun d => by kernel_rfl
noncomputable def L_slices_insertionSortCmpFunc_Contact_2_4 : LT := noLoops.add 1 l_slices_insertionSortCmpFunc_Contact_2_4
theorem L_slices_insertionSortCmpFunc_Contact_2_4_ok : LoopsOK P 1 L_slices_insertionSortCmpFunc_Contact_2_4 (bodyOf Tryz.f228) := LoopsOK.add hm t42_ok (by kernel_rfl) (noLoops_ok _ _ _) r_slices_insertionSortCmpFunc_Contact_2_4
def st_slices_insertionSortCmpFunc_Contact_2_1 (d : List G) : Option (Option Nat × List G) :=
  (bif (ltI (gi d 3).int (gi d 2).int) then (loopB ((Nat.beq (gi d 0).rows.length (gi d 0).rows.length) && true) (LRun st_slices_insertionSortCmpFunc_Contact_2_4 [.l (gi d 0).rows, .i (gi d 1).int, .i (gi d 2).int, .i (gi d 3).int, .i (gi d 3).int]) fun cg2 g2 => (bif (inI ((gi g2 3).int + 1)) then (bif ((Nat.beq (gi g2 0).rows.length (gi g2 0).rows.length) && true) then some (none, [.l (gi g2 0).rows, .i (gi g2 1).int, .i (gi g2 2).int, .i ((gi g2 3).int + 1)]) else none) else none)) else some (some 0, [.l (gi d 0).rows]))
noncomputable def l_slices_insertionSortCmpFunc_Contact_2_1 : LSpec := ⟨1, [], ⟨53, [(0, .s (.vec 0 8)), (1, .s (.int .i64)), (2, .s (.int .i64)), (3, .s (.fn 100)), (8, .s (.int .i64))], [.vec KContact 0]⟩, [.fix 0], [⟨.exit 0, ⟨53, [], [.vec KContact 0]⟩, [.fix 0]⟩], st_slices_insertionSortCmpFunc_Contact_2_1⟩
theorem r_slices_insertionSortCmpFunc_Contact_2_1 : RoundOK P t42 L_slices_insertionSortCmpFunc_Contact_2_4 1 (loopAt Tryz.f228 1) l_slices_insertionSortCmpFunc_Contact_2_1 := fun d => by kernel_rfl
noncomputable def L_slices_insertionSortCmpFunc_Contact_2_1 : LT := L_slices_insertionSortCmpFunc_Contact_2_4.add 1 l_slices_insertionSortCmpFunc_Contact_2_1
theorem L_slices_insertionSortCmpFunc_Contact_2_1_ok : LoopsOK P 1 L_slices_insertionSortCmpFunc_Contact_2_1 (bodyOf Tryz.f228) := LoopsOK.add hm t42_ok (by kernel_rfl) L_slices_insertionSortCmpFunc_Contact_2_4_ok r_slices_insertionSortCmpFunc_Contact_2_1
def F_slices_insertionSortCmpFunc_Contact_2 (d : List G) : Option (List G) :=
  (bif (inI ((gi d 1).int + 1)) then (loopB ((Nat.beq (gi d 0).rows.length (gi d 0).rows.length) && true) (LRun st_slices_insertionSortCmpFunc_Contact_2_1 [.l (gi d 0).rows, .i (gi d 1).int, .i (gi d 2).int, .i ((gi d 1).int + 1)]) fun cg3 g3 => some [.l (gi g3 0).rows]) else none)
noncomputable def s_slices_insertionSortCmpFunc_Contact_2 : FSpec := ⟨228, [.s (.vec 0 8), .s (.int .i64), .s (.int .i64), .s (.fn 100)], [.vec KContact 0], [.slot 0], [], [.vec KContact 0], [.fix 0], [], F_slices_insertionSortCmpFunc_Contact_2⟩
theorem b_slices_insertionSortCmpFunc_Contact_2 : BodyOK P t42 L_slices_insertionSortCmpFunc_Contact_2_1 Tryz.f228 s_slices_insertionSortCmpFunc_Contact_2 := fun d => by kernel_rfl
theorem c_slices_insertionSortCmpFunc_Contact_2 : ∀ d r, F_slices_insertionSortCmpFunc_Contact_2 d = some r → ACallX P 228 (s_slices_insertionSortCmpFunc_Contact_2.args0 d) (denH (s_slices_insertionSortCmpFunc_Contact_2.H0 d)) (s_slices_insertionSortCmpFunc_Contact_2.out r) (denH (s_slices_insertionSortCmpFunc_Contact_2.H1 r)) := fun d r h => body_sound hm t42_ok (sp := s_slices_insertionSortCmpFunc_Contact_2) Tryz.func228 (by kernel_rfl) L_slices_insertionSortCmpFunc_Contact_2_1_ok b_slices_insertionSortCmpFunc_Contact_2 (by kernel_rfl) h
noncomputable def t43 : Tab := t42.addW s_slices_insertionSortCmpFunc_Contact_2
theorem t43_ok : TabOK P t43 := t42_ok.addW (by kernel_rfl) (by kernel_rfl) c_slices_insertionSortCmpFunc_Contact_2

/- slices.stableCmpFunc[pileup/api.Contact] -/
/- not followed: a call of slices.symMergeCmpFunc[pileup/api.Contact] at zsortanyfunc.go:348; a call of slices.symMergeCmpFunc[pileup/api.Contact] at zsortanyfunc.go:353 -/
def st_slices_stableCmpFunc_Contact_2_2 (d : List G) : Option (Option Nat × List G) :=
  (bif (leI (gi d 4).int (gi d 1).int) then (callB (((Nat.beq (gi d 0).rows.length (gi d 0).rows.length) && true) && (F_slices_insertionSortCmpFunc_Contact_2 [.l (gi d 0).rows, .i (gi d 3).int, .i (gi d 4).int]).isSome) (F_slices_insertionSortCmpFunc_Contact_2 [.l (gi d 0).rows, .i (gi d 3).int, .i (gi d 4).int]) fun g1 => (bif (inI ((gi d 4).int + (gi d 2).int)) then (bif ((Nat.beq (gi d 0).rows.length (gi g1 0).rows.length) && true) then some (none, [.l (gi g1 0).rows, .i (gi d 1).int, .i (gi d 2).int, .i (gi d 4).int, .i ((gi d 4).int + (gi d 2).int)]) else none) else none)) else (bif ((Nat.beq (gi d 0).rows.length (gi d 0).rows.length) && true) then some (some 0, [.l (gi d 0).rows, .i (gi d 1).int, .i (gi d 2).int, .i (gi d 3).int]) else none))
noncomputable def l_slices_stableCmpFunc_Contact_2_2 : LSpec := ⟨2, [], ⟨63, [(0, .s (.vec 0 8)), (1, .s (.int .i64)), (2, .s (.fn 100)), (6, .s (.int .i64)), (7, .s (.int .i64)), (8, .s (.int .i64))], [.vec KContact 0]⟩, [.fix 0], [⟨.exit 0, ⟨63, [(0, .s (.vec 0 8)), (1, .s (.int .i64)), (2, .s (.fn 100)), (6, .s (.int .i64)), (7, .s (.int .i64))], [.vec KContact 0]⟩, [.fix 0]⟩], st_slices_stableCmpFunc_Contact_2_2⟩
theorem r_slices_stableCmpFunc_Contact_2_2 : RoundOK P t43 noLoops 1 (loopAt Tryz.f173 2) l_slices_stableCmpFunc_Contact_2_2 := fun d => by kernel_rfl
noncomputable def L_slices_stableCmpFunc_Contact_2_2 : LT := noLoops.add 1 l_slices_stableCmpFunc_Contact_2_2
theorem L_slices_stableCmpFunc_Contact_2_2_ok : LoopsOK P 1 L_slices_stableCmpFunc_Contact_2_2 (bodyOf Tryz.f173) := LoopsOK.add hm t43_ok (by kernel_rfl) (noLoops_ok _ _ _) r_slices_stableCmpFunc_Contact_2_2
def st_slices_stableCmpFunc_Contact_2_9 (d : List G) : Option (Option Nat × List G) :=
  (bif (leI (gi d 4).int (gi d 1).int) then (bif (inI ((gi d 3).int + (gi d 2).int)) then none else none) else (bif ((Nat.beq (gi d 0).rows.length (gi d 0).rows.length) && true) then some (some 0, [.l (gi d 0).rows, .i (gi d 1).int, .i (gi d 2).int, .i (gi d 3).int]) else none))
noncomputable def l_slices_stableCmpFunc_Contact_2_9 : LSpec := ⟨9, [], ⟨63, [(0, .s (.vec 0 8)), (1, .s (.int .i64)), (2, .s (.fn 100)), (6, .s (.int .i64)), (7, .s (.int .i64)), (8, .s (.int .i64))], [.vec KContact 0]⟩, [.fix 0], [⟨.exit 4, ⟨63, [(0, .s (.vec 0 8)), (1, .s (.int .i64)), (2, .s (.fn 100)), (6, .s (.int .i64)), (7, .s (.int .i64))], [.vec KContact 0]⟩, [.fix 0]⟩], st_slices_stableCmpFunc_Contact_2_9⟩
theorem r_slices_stableCmpFunc_Contact_2_9 : RoundOK P t43 L_slices_stableCmpFunc_Contact_2_2 1 (loopAt Tryz.f173 9) l_slices_stableCmpFunc_Contact_2_9 := fun d => by kernel_rfl
noncomputable def L_slices_stableCmpFunc_Contact_2_9 : LT := L_slices_stableCmpFunc_Contact_2_2.add 1 l_slices_stableCmpFunc_Contact_2_9
theorem L_slices_stableCmpFunc_Contact_2_9_ok : LoopsOK P 1 L_slices_stableCmpFunc_Contact_2_9 (bodyOf Tryz.f173) := LoopsOK.add hm t43_ok (by kernel_rfl) L_slices_stableCmpFunc_Contact_2_2_ok r_slices_stableCmpFunc_Contact_2_9
def st_slices_stableCmpFunc_Contact_2_7 (d : List G) : Option (Option Nat × List G) :=
  (bif (ltI (gi d 2).int (gi d 1).int) then (bif (inI (2 * (gi d 2).int)) then (loopB ((Nat.beq (gi d 0).rows.length (gi d 0).rows.length) && true) (LRun st_slices_stableCmpFunc_Contact_2_9 [.l (gi d 0).rows, .i (gi d 1).int, .i (gi d 2).int, .i 0, .i (2 * (gi d 2).int)]) fun cg4 g4 => (bif (inI ((gi g4 3).int + (gi g4 2).int)) then (bif (ltI ((gi g4 3).int + (gi g4 2).int) (gi g4 1).int) then none else (bif (inI ((gi g4 2).int * 2)) then (bif ((Nat.beq (gi g4 0).rows.length (gi g4 0).rows.length) && true) then some (none, [.l (gi g4 0).rows, .i (gi g4 1).int, .i ((gi g4 2).int * 2)]) else none) else none)) else none)) else none) else some (some 0, [.l (gi d 0).rows]))
noncomputable def l_slices_stableCmpFunc_Contact_2_7 : LSpec := ⟨7, [], ⟨63, [(0, .s (.vec 0 8)), (1, .s (.int .i64)), (2, .s (.fn 100)), (6, .s (.int .i64))], [.vec KContact 0]⟩, [.fix 0], [⟨.exit 2, ⟨63, [], [.vec KContact 0]⟩, [.fix 0]⟩], st_slices_stableCmpFunc_Contact_2_7⟩
theorem r_slices_stableCmpFunc_Contact_2_7 : RoundOK P t43 L_slices_stableCmpFunc_Contact_2_9 1 (loopAt Tryz.f173 7) l_slices_stableCmpFunc_Contact_2_7 := fun d => by kernel_rfl
noncomputable def L_slices_stableCmpFunc_Contact_2_7 : LT := L_slices_stableCmpFunc_Contact_2_9.add 1 l_slices_stableCmpFunc_Contact_2_7
theorem L_slices_stableCmpFunc_Contact_2_7_ok : LoopsOK P 1 L_slices_stableCmpFunc_Contact_2_7 (bodyOf Tryz.f173) := LoopsOK.add hm t43_ok (by kernel_rfl) L_slices_stableCmpFunc_Contact_2_9_ok r_slices_stableCmpFunc_Contact_2_7
def F_slices_stableCmpFunc_Contact_2 (d : List G) : Option (List G) :=
  (loopB ((Nat.beq (gi d 0).rows.length (gi d 0).rows.length) && true) (LRun st_slices_stableCmpFunc_Contact_2_2 [.l (gi d 0).rows, .i (gi d 1).int, .i 20, .i 0, .i 20]) fun cg2 g2 => (callB (((Nat.beq (gi g2 0).rows.length (gi g2 0).rows.length) && true) && (F_slices_insertionSortCmpFunc_Contact_2 [.l (gi g2 0).rows, .i (gi g2 3).int, .i (gi g2 1).int]).isSome) (F_slices_insertionSortCmpFunc_Contact_2 [.l (gi g2 0).rows, .i (gi g2 3).int, .i (gi g2 1).int]) fun g3 => (loopB ((Nat.beq (gi g2 0).rows.length (gi g3 0).rows.length) && true) (LRun st_slices_stableCmpFunc_Contact_2_7 [.l (gi g3 0).rows, .i (gi g2 1).int, .i (gi g2 2).int]) fun cg5 g5 => some [.l (gi g5 0).rows])))
noncomputable def s_slices_stableCmpFunc_Contact_2 : FSpec := ⟨173, [.s (.vec 0 8), .s (.int .i64), .s (.fn 100)], [.vec KContact 0], [.slot 0], [], [.vec KContact 0], [.fix 0], [], F_slices_stableCmpFunc_Contact_2⟩
theorem b_slices_stableCmpFunc_Contact_2 : BodyOK P t43 L_slices_stableCmpFunc_Contact_2_7 Tryz.f173 s_slices_stableCmpFunc_Contact_2 := fun d => by kernel_rfl
theorem c_slices_stableCmpFunc_Contact_2 : ∀ d r, F_slices_stableCmpFunc_Contact_2 d = some r → ACallX P 173 (s_slices_stableCmpFunc_Contact_2.args0 d) (denH (s_slices_stableCmpFunc_Contact_2.H0 d)) (s_slices_stableCmpFunc_Contact_2.out r) (denH (s_slices_stableCmpFunc_Contact_2.H1 r)) := fun d r h => body_sound hm t43_ok (sp := s_slices_stableCmpFunc_Contact_2) Tryz.func173 (by kernel_rfl) L_slices_stableCmpFunc_Contact_2_7_ok b_slices_stableCmpFunc_Contact_2 (by kernel_rfl) h
noncomputable def t44 : Tab := t43.addW s_slices_stableCmpFunc_Contact_2
theorem t44_ok : TabOK P t44 := t43_ok.addW (by kernel_rfl) (by kernel_rfl) c_slices_stableCmpFunc_Contact_2

/- slices.SortStableFunc[[]pileup/api.Contact,pileup/api.Contact] -/
def F_slices_SortStableFunc_Contact_2 (d : List G) : Option (List G) :=
  (callB (((Nat.beq (gi d 0).rows.length (gi d 0).rows.length) && true) && (F_slices_stableCmpFunc_Contact_2 [.l (gi d 0).rows, .i (((gi d 0).rows.length : Nat) : Int)]).isSome) (F_slices_stableCmpFunc_Contact_2 [.l (gi d 0).rows, .i (((gi d 0).rows.length : Nat) : Int)]) fun g1 => some [.l (gi g1 0).rows])
noncomputable def s_slices_SortStableFunc_Contact_2 : FSpec := ⟨81, [.s (.vec 0 8), .s (.fn 100)], [.vec KContact 0], [.slot 0], [], [.vec KContact 0], [.fix 0], [], F_slices_SortStableFunc_Contact_2⟩
theorem b_slices_SortStableFunc_Contact_2 : BodyOK P t44 noLoops Tryz.f81 s_slices_SortStableFunc_Contact_2 := fun d => by kernel_rfl
theorem c_slices_SortStableFunc_Contact_2 : ∀ d r, F_slices_SortStableFunc_Contact_2 d = some r → ACallX P 81 (s_slices_SortStableFunc_Contact_2.args0 d) (denH (s_slices_SortStableFunc_Contact_2.H0 d)) (s_slices_SortStableFunc_Contact_2.out r) (denH (s_slices_SortStableFunc_Contact_2.H1 r)) := fun d r h => body_sound hm t44_ok (sp := s_slices_SortStableFunc_Contact_2) Tryz.func81 (by kernel_rfl) (noLoops_ok _ _ _) b_slices_SortStableFunc_Contact_2 (by kernel_rfl) h
noncomputable def t45 : Tab := t44.addW s_slices_SortStableFunc_Contact_2
theorem t45_ok : TabOK P t45 := t44_ok.addW (by kernel_rfl) (by kernel_rfl) c_slices_SortStableFunc_Contact_2

/- slices.Compact[[]pileup/api.Contact,pileup/api.Contact] -/
def st_slices_Compact_Contact_9 (d : List G) : Option (Option Nat × List G) :=
  (bif (ltI (gi d 4).int (((gi d 3).int.toNat : Nat) : Int)) then (bif ((nnI (gi d 4).int) && (ltI (gi d 4).int (((gi d 3).int.toNat : Nat) : Int))) then (bif (decide (((gi d 2).int.toNat + ((gi d 4).int).toNat) < (gi d 0).rows.length)) then (bif (inI ((gi d 4).int - 1)) then (bif ((nnI ((gi d 4).int - 1)) && (ltI ((gi d 4).int - 1) (((gi d 3).int.toNat : Nat) : Int))) then (bif (decide (((gi d 2).int.toNat + ((gi d 4).int - 1).toNat) < (gi d 0).rows.length)) then (bif (!(rowEq KContact (gEta KContact ((gi d 0).rows.getD ((gi d 2).int.toNat + ((gi d 4).int).toNat) [])) (gEta KContact ((gi d 0).rows.getD ((gi d 2).int.toNat + ((gi d 4).int - 1).toNat) [])))) then (bif ((nnI (gi d 4).int) && (ltI (gi d 4).int (((gi d 3).int.toNat : Nat) : Int))) then (bif (decide (((gi d 2).int.toNat + ((gi d 4).int).toNat) < (gi d 0).rows.length)) then (bif ((nnI (gi d 1).int) && (ltI (gi d 1).int (((gi d 0).rows.length : Nat) : Int))) then (bif (decide ((0 + ((gi d 1).int).toNat) < (gi d 0).rows.length)) then (bif (inI ((gi d 1).int + 1)) then (bif (inI ((gi d 4).int + 1)) then (bif ((Nat.beq (gi d 0).rows.length ((gi d 0).rows.set (0 + ((gi d 1).int).toNat) (putG KContact ((gi d 0).rows.getD (0 + ((gi d 1).int).toNat) []) 0 (gEta KContact ((gi d 0).rows.getD ((gi d 2).int.toNat + ((gi d 4).int).toNat) [])))).length) && true) then some (none, [.l ((gi d 0).rows.set (0 + ((gi d 1).int).toNat) (putG KContact ((gi d 0).rows.getD (0 + ((gi d 1).int).toNat) []) 0 (gEta KContact ((gi d 0).rows.getD ((gi d 2).int.toNat + ((gi d 4).int).toNat) [])))), .i ((gi d 1).int + 1), .i (((gi d 2).int.toNat : Nat) : Int), .i (((gi d 3).int.toNat : Nat) : Int), .i ((gi d 4).int + 1)]) else none) else none) else none) else none) else none) else none) else none) else (bif (inI ((gi d 4).int + 1)) then (bif ((Nat.beq (gi d 0).rows.length (gi d 0).rows.length) && true) then some (none, [.l (gi d 0).rows, .i (gi d 1).int, .i (((gi d 2).int.toNat : Nat) : Int), .i (((gi d 3).int.toNat : Nat) : Int), .i ((gi d 4).int + 1)]) else none) else none)) else none) else none) else none) else none) else none) else (bif ((Nat.beq (gi d 0).rows.length (gi d 0).rows.length) && true) then some (some 0, [.l (gi d 0).rows, .i (gi d 1).int]) else none))
noncomputable def l_slices_Compact_Contact_9 : LSpec := ⟨9, [], ⟨61, [(0, .s (.vec 0 8)), (3, .s (.int .i64)), (4, .s (.sub 0 8)), (5, .s (.int .i64))], [.vec KContact 0]⟩, [.fix 0], [⟨.exit 2, ⟨61, [(0, .s (.vec 0 8)), (3, .s (.int .i64))], [.vec KContact 0]⟩, [.fix 0]⟩], st_slices_Compact_Contact_9⟩
theorem r_slices_Compact_Contact_9 : RoundOK P t45 noLoops 1 (loopAt Tryz.f101 9) l_slices_Compact_Contact_9 := fun d => by kernel_rfl
noncomputable def L_slices_Compact_Contact_9 : LT := noLoops.add 1 l_slices_Compact_Contact_9
theorem L_slices_Compact_Contact_9_ok : LoopsOK P 1 L_slices_Compact_Contact_9 (bodyOf Tryz.f101) := LoopsOK.add hm t45_ok (by kernel_rfl) (noLoops_ok _ _ _) r_slices_Compact_Contact_9
def st_slices_Compact_Contact_4 (d : List G) : Option (Option Nat × List G) :=
  (bif (ltI (gi d 1).int (((gi d 0).rows.length : Nat) : Int)) then (bif ((nnI (gi d 1).int) && (ltI (gi d 1).int (((gi d 0).rows.length : Nat) : Int))) then (bif (decide ((0 + ((gi d 1).int).toNat) < (gi d 0).rows.length)) then (bif (inI ((gi d 1).int - 1)) then (bif ((nnI ((gi d 1).int - 1)) && (ltI ((gi d 1).int - 1) (((gi d 0).rows.length : Nat) : Int))) then (bif (decide ((0 + ((gi d 1).int - 1).toNat) < (gi d 0).rows.length)) then (bif (rowEq KContact (gEta KContact ((gi d 0).rows.getD (0 + ((gi d 1).int).toNat) [])) (gEta KContact ((gi d 0).rows.getD (0 + ((gi d 1).int - 1).toNat) []))) then (bif ((nnI (gi d 1).int) && (leI (gi d 1).int (((gi d 0).rows.length : Nat) : Int))) then (loopB ((Nat.beq (gi d 0).rows.length (gi d 0).rows.length) && true) (LRun st_slices_Compact_Contact_9 [.l (gi d 0).rows, .i (gi d 1).int, .i (((0 + ((gi d 1).int).toNat) : Nat) : Int), .i ((((gi d 0).rows.length - ((gi d 1).int).toNat) : Nat) : Int), .i 1]) fun cg1 g1 => (bif ((nnI (gi g1 1).int) && (leI (gi g1 1).int (((gi g1 0).rows.length : Nat) : Int))) then (bif (Nat.ble ((0 + ((gi g1 1).int).toNat) + ((gi g1 0).rows.length - ((gi g1 1).int).toNat)) (gi g1 0).rows.length) then (bif ((nnI (gi g1 1).int) && (leI (gi g1 1).int (((gi g1 0).rows.length : Nat) : Int))) then some (some 0, [.l ((gi g1 0).rows.take (0 + ((gi g1 1).int).toNat) ++ List.replicate ((gi g1 0).rows.length - ((gi g1 1).int).toNat) [.i 0, .i 0, .s (⟨#[]⟩ : ByteArray), .s (⟨#[]⟩ : ByteArray), .i 0, .i 0, .s (⟨#[]⟩ : ByteArray), .s (⟨#[]⟩ : ByteArray)] ++ (gi g1 0).rows.drop ((0 + ((gi g1 1).int).toNat) + ((gi g1 0).rows.length - ((gi g1 1).int).toNat))), .i (((((gi g1 1).int).toNat - 0) : Nat) : Int)]) else none) else none) else none)) else none) else (bif (inI ((gi d 1).int + 1)) then (bif ((Nat.beq (gi d 0).rows.length (gi d 0).rows.length) && true) then some (none, [.l (gi d 0).rows, .i ((gi d 1).int + 1)]) else none) else none)) else none) else none) else none) else none) else none) else (bif ((Nat.beq (gi d 0).rows.length (gi d 0).rows.length) && true) then some (some 1, [.l (gi d 0).rows]) else none))
noncomputable def l_slices_Compact_Contact_4 : LSpec := ⟨4, [], ⟨61, [(0, .s (.vec 0 8)), (3, .s (.int .i64))], [.vec KContact 0]⟩, [.fix 0], [⟨.ret, ⟨61, [(2, .s (.pre 0 8))], [.vec KContact 0]⟩, [.fix 0]⟩, ⟨.exit 0, ⟨61, [(0, .s (.vec 0 8))], [.vec KContact 0]⟩, [.fix 0]⟩], st_slices_Compact_Contact_4⟩
theorem r_slices_Compact_Contact_4 : RoundOK P t45 L_slices_Compact_Contact_9 1 (loopAt Tryz.f101 4) l_slices_Compact_Contact_4 := fun d => by kernel_rfl
noncomputable def L_slices_Compact_Contact_4 : LT := L_slices_Compact_Contact_9.add 1 l_slices_Compact_Contact_4
theorem L_slices_Compact_Contact_4_ok : LoopsOK P 1 L_slices_Compact_Contact_4 (bodyOf Tryz.f101) := LoopsOK.add hm t45_ok (by kernel_rfl) L_slices_Compact_Contact_9_ok r_slices_Compact_Contact_4
def F_slices_Compact_Contact (d : List G) : Option (List G) :=
  (bif (ltI (((gi d 0).rows.length : Nat) : Int) 2) then some [.l (gi d 0).rows, .i (((gi d 0).rows.length : Nat) : Int)] else (loopB ((Nat.beq (gi d 0).rows.length (gi d 0).rows.length) && true) (LRun st_slices_Compact_Contact_4 [.l (gi d 0).rows, .i 1]) fun cg2 g2 => (bif Nat.beq cg2 0 then some [.l (gi g2 0).rows, .i (((gi g2 1).int.toNat : Nat) : Int)] else some [.l (gi g2 0).rows, .i (((gi g2 0).rows.length : Nat) : Int)])))
noncomputable def s_slices_Compact_Contact : FSpec := ⟨101, [.s (.vec 0 8)], [.vec KContact 0], [.slot 0], [.s (.pre 0 8)], [.vec KContact 0], [.fix 0], [], F_slices_Compact_Contact⟩
theorem b_slices_Compact_Contact : BodyOK P t45 L_slices_Compact_Contact_4 Tryz.f101 s_slices_Compact_Contact := fun d => by kernel_rfl
theorem c_slices_Compact_Contact : ∀ d r, F_slices_Compact_Contact d = some r → ACallX P 101 (s_slices_Compact_Contact.args0 d) (denH (s_slices_Compact_Contact.H0 d)) (s_slices_Compact_Contact.out r) (denH (s_slices_Compact_Contact.H1 r)) := fun d r h => body_sound hm t45_ok (sp := s_slices_Compact_Contact) Tryz.func101 (by kernel_rfl) L_slices_Compact_Contact_4_ok b_slices_Compact_Contact (by kernel_rfl) h
noncomputable def t46 : Tab := t45.addW s_slices_Compact_Contact
theorem t46_ok : TabOK P t46 := t45_ok.addW (by kernel_rfl) (by kernel_rfl) c_slices_Compact_Contact

/- pileup/log.Merge -/
def st_log_Merge_8 (d : List G) : Option (Option Nat × List G) :=
  (bif (ltI (gi d 2).int (((gi d 1).int.toNat : Nat) : Int)) then (bif (inI ((gi d 2).int - 1)) then (bif ((nnI ((gi d 2).int - 1)) && (ltI ((gi d 2).int - 1) (((gi d 1).int.toNat : Nat) : Int))) then (bif (decide ((0 + ((gi d 2).int - 1).toNat) < (gi d 0).rows.length)) then (bif ((nnI (gi d 2).int) && (ltI (gi d 2).int (((gi d 1).int.toNat : Nat) : Int))) then (bif (decide ((0 + ((gi d 2).int).toNat) < (gi d 0).rows.length)) then (callF (F_log_Compare [.l [(gEta KContact ((gi d 0).rows.getD (0 + ((gi d 2).int - 1).toNat) []))], .l [(gEta KContact ((gi d 0).rows.getD (0 + ((gi d 2).int).toNat) []))]]) fun g5 => (bif ((gi g5 0).int == 0) then some (some 0, [.l [], .i 13]) else (bif (inI ((gi d 2).int + 1)) then some (none, [.l (gi d 0).rows, .i (((gi d 1).int.toNat : Nat) : Int), .i ((gi d 2).int + 1)]) else none))) else none) else none) else none) else none) else none) else some (some 1, [.l (gi d 0).rows, .i (((gi d 1).int.toNat : Nat) : Int)]))
noncomputable def l_log_Merge_8 : LSpec := ⟨8, [], ⟨44, [(7, .s (.pre 0 8)), (8, .s (.int .i64))], [.vec KContact 0]⟩, [.slot 7], [⟨.ret, ⟨44, [(4, .s (.list KContact)), (5, .s (.int .i64))], []⟩, []⟩, ⟨.exit 0, ⟨44, [(7, .s (.pre 0 8))], [.vec KContact 0]⟩, [.slot 7]⟩], st_log_Merge_8⟩
theorem r_log_Merge_8 : RoundOK P t46 noLoops 0 (loopAt Tryz.f40 8) l_log_Merge_8 := fun d => by kernel_rfl
noncomputable def L_log_Merge_8 : LT := noLoops.add 0 l_log_Merge_8
theorem L_log_Merge_8_ok : LoopsOK P 0 L_log_Merge_8 (bodyOf Tryz.f40) := LoopsOK.add hm t46_ok (by kernel_rfl) (noLoops_ok _ _ _) r_log_Merge_8
def F_log_Merge (d : List G) : Option (List G) :=
  (callF (F_log_checkBoth [.l (gi d 0).rows, .l (gi d 1).rows]) fun g1 => (bif ((gi g1 0).int != 0) then some [.l [], .i (gi g1 0).int] else (callF (F_slices_Concat_Contact_f [.l [[.l (gi d 0).rows], [.l (gi d 1).rows]]]) fun g2 => (callB (((Nat.beq (gi g2 0).rows.length (gi g2 0).rows.length) && true) && (F_slices_SortStableFunc_Contact_2 [.l (gi g2 0).rows]).isSome) (F_slices_SortStableFunc_Contact_2 [.l (gi g2 0).rows]) fun g3 => (callB (((Nat.beq (gi g2 0).rows.length (gi g3 0).rows.length) && true) && (F_slices_Compact_Contact [.l (gi g3 0).rows]).isSome) (F_slices_Compact_Contact [.l (gi g3 0).rows]) fun g4 => (loopB true (LRun st_log_Merge_8 [.l (gi g4 0).rows, .i (((gi g4 1).int.toNat : Nat) : Int), .i 1]) fun cg6 g6 => (bif Nat.beq cg6 0 then some [.l (gi g6 0).rows, .i (gi g6 1).int] else (bif (ltI 2000 (((gi g6 1).int.toNat : Nat) : Int)) then some [.l [], .i 2] else (bif ((Nat.ble (gi g6 1).int.toNat (gi g6 0).rows.length) && true) then some [.l ((gi g6 0).rows.take ((gi g6 1).int.toNat)), .i 0] else none)))))))))
noncomputable def s_log_Merge : FSpec := ⟨40, [.s (.list KContact), .s (.list KContact)], [], [], [.s (.lpre KContact), .s (.int .i64)], [], [], [], F_log_Merge⟩
theorem b_log_Merge : BodyOK P t46 L_log_Merge_8 Tryz.f40 s_log_Merge := fun d => by kernel_rfl
theorem c_log_Merge : ∀ d r, F_log_Merge d = some r → ACallX P 40 (s_log_Merge.args0 d) (denH (s_log_Merge.H0 d)) (s_log_Merge.out r) (denH (s_log_Merge.H1 r)) := fun d r h => body_sound hm t46_ok (sp := s_log_Merge) Tryz.func40 (by kernel_rfl) L_log_Merge_8_ok b_log_Merge (by kernel_rfl) h
noncomputable def t47 : Tab := t46.addP s_log_Merge
theorem t47_ok : TabOK P t47 := t46_ok.addP (by kernel_rfl) (by kernel_rfl) c_log_Merge

/- pileup/log.Without -/
def st_log_Without_3 (d : List G) : Option (Option Nat × List G) :=
  (bif (ltI (gi d 5).int (gi d 4).int) then (bif ((nnI (gi d 5).int) && (ltI (gi d 5).int (((gi d 3).rows.length : Nat) : Int))) then (bif (inI ((gi d 5).int + 1)) then some (none, [.l (mput KContact (gi d 0).rows (gEta KContact ((gi d 3).rows.getD (((gi d 5).int).toNat) [])) [.t true] (gi d 1).int.toNat), .i (((mclk KContact (gi d 0).rows (gEta KContact ((gi d 3).rows.getD (((gi d 5).int).toNat) [])) (gi d 1).int.toNat) : Nat) : Int), .l (gi d 2).rows, .l (gi d 3).rows, .i (gi d 4).int, .i ((gi d 5).int + 1)]) else none) else none) else some (some 0, [.l (gi d 0).rows, .i (((gi d 1).int.toNat : Nat) : Int), .l (gi d 2).rows]))
noncomputable def l_log_Without_3 : LSpec := ⟨3, [], ⟨37, [(0, .s (.list KContact)), (5, .s (.map 0)), (12, .s (.list KContact)), (13, .s (.int .i64)), (14, .s (.int .i64))], [.map (.agg KContact) (.one (.bool))]⟩, [.slot 5], [⟨.exit 0, ⟨37, [(0, .s (.list KContact)), (5, .s (.map 0))], [.map (.agg KContact) (.one (.bool))]⟩, [.slot 5]⟩], st_log_Without_3⟩
theorem r_log_Without_3 : RoundOK P t47 noLoops 0 (loopAt Tryz.f102 3) l_log_Without_3 := fun d => by kernel_rfl
noncomputable def L_log_Without_3 : LT := noLoops.add 0 l_log_Without_3
theorem L_log_Without_3_ok : LoopsOK P 0 L_log_Without_3 (bodyOf Tryz.f102) := LoopsOK.add hm t47_ok (by kernel_rfl) (noLoops_ok _ _ _) r_log_Without_3
def st_log_Without_9 (d : List G) : Option (Option Nat × List G) :=
  (bif (ltI (gi d 5).int (gi d 4).int) then (bif ((nnI (gi d 5).int) && (ltI (gi d 5).int (((gi d 3).rows.length : Nat) : Int))) then (bif (!(gi (mget KContact (gi d 0).rows (gEta KContact ((gi d 3).rows.getD (((gi d 5).int).toNat) [])) [.t false]) 0).bool) then (bif ((Nat.beq (gi d 2).rows.length (gi d 2).rows.length) && (decide (((gi d 2).rows.length + 1) ≤ 1048576))) then (bif (inI ((gi d 5).int + 1)) then (bif ((Nat.beq ((gi d 2).rows ++ ([(gEta KContact ((gi d 3).rows.getD (((gi d 5).int).toNat) []))] : List (List G))).length ((gi d 2).rows ++ ([(gEta KContact ((gi d 3).rows.getD (((gi d 5).int).toNat) []))] : List (List G))).length) && true) then some (none, [.l (gi d 0).rows, .i (((gi d 1).int.toNat : Nat) : Int), .l ((gi d 2).rows ++ ([(gEta KContact ((gi d 3).rows.getD (((gi d 5).int).toNat) []))] : List (List G))), .l (gi d 3).rows, .i (gi d 4).int, .i ((gi d 5).int + 1)]) else none) else none) else none) else (bif (inI ((gi d 5).int + 1)) then (bif ((Nat.beq (gi d 2).rows.length (gi d 2).rows.length) && true) then some (none, [.l (gi d 0).rows, .i (((gi d 1).int.toNat : Nat) : Int), .l (gi d 2).rows, .l (gi d 3).rows, .i (gi d 4).int, .i ((gi d 5).int + 1)]) else none) else none)) else none) else (bif ((Nat.beq (gi d 2).rows.length (gi d 2).rows.length) && true) then some (some 0, [.l (gi d 2).rows]) else none))
noncomputable def l_log_Without_9 : LSpec := ⟨9, [(8, KContact)], ⟨37, [(5, .s (.map 0)), (8, .s (.vec 1 8)), (21, .s (.list KContact)), (22, .s (.int .i64)), (23, .s (.int .i64))], [.map (.agg KContact) (.one (.bool)), .vec KContact 0]⟩, [.slot 5, .slot 8], [⟨.exit 2, ⟨37, [(8, .s (.vec 0 8))], [.vec KContact 0]⟩, [.slot 8]⟩], st_log_Without_9⟩
theorem r_log_Without_9 : RoundOK P t47 L_log_Without_3 0 (loopAt Tryz.f102 9) l_log_Without_9 := fun d => by kernel_rfl
noncomputable def L_log_Without_9 : LT := L_log_Without_3.add 0 l_log_Without_9
theorem L_log_Without_9_ok : LoopsOK P 0 L_log_Without_9 (bodyOf Tryz.f102) := LoopsOK.add hm t47_ok (by kernel_rfl) L_log_Without_3_ok r_log_Without_9
def F_log_Without (d : List G) : Option (List G) :=
  (loopB true (LRun st_log_Without_3 [.l [], .i 0, .l (gi d 0).rows, .l (gi d 1).rows, .i (((gi d 1).rows.length : Nat) : Int), .i 0]) fun cg1 g1 => (loopB true (LRun st_log_Without_9 [.l (gi g1 0).rows, .i (((gi g1 1).int.toNat : Nat) : Int), .l [], .l (gi g1 2).rows, .i (((gi g1 2).rows.length : Nat) : Int), .i 0]) fun cg2 g2 => (bif ((Nat.beq (gi g2 0).rows.length (gi g2 0).rows.length) && true) then some [.l (gi g2 0).rows] else none)))
noncomputable def s_log_Without : FSpec := ⟨102, [.s (.list KContact), .s (.list KContact)], [], [], [.s (.list KContact)], [], [], [], F_log_Without⟩
theorem b_log_Without : BodyOK P t47 L_log_Without_9 Tryz.f102 s_log_Without := fun d => by kernel_rfl
theorem c_log_Without : ∀ d r, F_log_Without d = some r → ACallX P 102 (s_log_Without.args0 d) (denH (s_log_Without.H0 d)) (s_log_Without.out r) (denH (s_log_Without.H1 r)) := fun d r h => body_sound hm t47_ok (sp := s_log_Without) Tryz.func102 (by kernel_rfl) L_log_Without_9_ok b_log_Without (by kernel_rfl) h
noncomputable def t48 : Tab := t47.addP s_log_Without
theorem t48_ok : TabOK P t48 := t47_ok.addP (by kernel_rfl) (by kernel_rfl) c_log_Without

/- pileup/log.Lacks -/
def F_log_Lacks (d : List G) : Option (List G) :=
  (callF (F_log_checkBoth [.l (gi d 0).rows, .l (gi d 1).rows]) fun g1 => (bif ((gi g1 0).int != 0) then some [.l [], .i (gi g1 0).int] else (callF (F_log_Without [.l (gi d 1).rows, .l (gi d 0).rows]) fun g2 => some [.l (gi g2 0).rows, .i 0])))
noncomputable def s_log_Lacks : FSpec := ⟨41, [.s (.list KContact), .s (.list KContact)], [], [], [.s (.list KContact), .s (.int .i64)], [], [], [], F_log_Lacks⟩
theorem b_log_Lacks : BodyOK P t48 noLoops Tryz.f41 s_log_Lacks := fun d => by kernel_rfl
theorem c_log_Lacks : ∀ d r, F_log_Lacks d = some r → ACallX P 41 (s_log_Lacks.args0 d) (denH (s_log_Lacks.H0 d)) (s_log_Lacks.out r) (denH (s_log_Lacks.H1 r)) := fun d r h => body_sound hm t48_ok (sp := s_log_Lacks) Tryz.func41 (by kernel_rfl) (noLoops_ok _ _ _) b_log_Lacks (by kernel_rfl) h
noncomputable def t49 : Tab := t48.addP s_log_Lacks
theorem t49_ok : TabOK P t49 := t48_ok.addP (by kernel_rfl) (by kernel_rfl) c_log_Lacks

/- pileup/pileref2.in -/
def F_pileref2_in (d : List G) : Option (List G) :=
  (bif (leI (gi d 1).int (gi d 0).int) then some [.t (leI (gi d 0).int (gi d 2).int)] else some [.t false])
noncomputable def s_pileref2_in : FSpec := ⟨90, [.s (.int .i64), .s (.int .i64), .s (.int .i64)], [], [], [.s (.bool)], [], [], [], F_pileref2_in⟩
theorem b_pileref2_in : BodyOK P t49 noLoops Tryz.f90 s_pileref2_in := fun d => by kernel_rfl
theorem c_pileref2_in : ∀ d r, F_pileref2_in d = some r → ACallX P 90 (s_pileref2_in.args0 d) (denH (s_pileref2_in.H0 d)) (s_pileref2_in.out r) (denH (s_pileref2_in.H1 r)) := fun d r h => body_sound hm t49_ok (sp := s_pileref2_in) Tryz.func90 (by kernel_rfl) (noLoops_ok _ _ _) b_pileref2_in (by kernel_rfl) h
noncomputable def t50 : Tab := t49.addP s_pileref2_in
theorem t50_ok : TabOK P t50 := t49_ok.addP (by kernel_rfl) (by kernel_rfl) c_pileref2_in

end Go.Proofs.SYtpfhjchbegdgdaaGreatDoor
