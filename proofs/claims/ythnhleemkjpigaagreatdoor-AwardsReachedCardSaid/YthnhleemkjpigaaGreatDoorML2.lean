/-
  What is proved here: functions of the program as functions on data. No condition.
-/
import Derived.Test.YthnhleemkjpigaaGreatDoorML1
set_option linter.unusedSimpArgs false
set_option linter.unusedVariables false
set_option linter.unusedSectionVars false
namespace Go.Proofs.SYthnhleemkjpigaaGreatDoor
open Go Go.AL Go.Proofs
noncomputable section
/- pileup/pilemake.Below -/
def F_pilemake_Below (d : List G) : Option (List G) :=
  (bif (ltI (gi d 1).int 1) then some [.i 0] else (bif (!((gi d 1).int == 0)) then (bif (ltI (Int.tmod (gi d 0).int (gi d 1).int) 0) then (bif (inI ((Int.tmod (gi d 0).int (gi d 1).int) + (gi d 1).int)) then some [.i ((Int.tmod (gi d 0).int (gi d 1).int) + (gi d 1).int)] else none) else some [.i (Int.tmod (gi d 0).int (gi d 1).int)]) else none))
def s_pilemake_Below : FSpec := ⟨105, [.s (.int .i64), .s (.int .i64)], [], [], [.s (.int .i64)], [], [], [], F_pilemake_Below⟩
theorem b_pilemake_Below : BodyOK P t7 noLoops Tryz.f105 s_pilemake_Below := fun d => by kernel_rfl
theorem c_pilemake_Below : ∀ d r, F_pilemake_Below d = some r → ACallX P 105 (s_pilemake_Below.args0 d) (denH (s_pilemake_Below.H0 d)) (s_pilemake_Below.out r) (denH (s_pilemake_Below.H1 r)) := fun d r h => body_sound hm t7_ok (sp := s_pilemake_Below) Tryz.func105 (by kernel_rfl) (noLoops_ok _ _ _) b_pilemake_Below (by kernel_rfl) h
def t8 : Tab := t7.addP s_pilemake_Below
theorem t8_ok : TabOK P t8 := t7_ok.addP (by kernel_rfl) (by kernel_rfl) c_pilemake_Below

/- (*pileup/pilemake.Stream).Next -/
def F_pilemake_Stream_Next (d : List G) : Option (List G) :=
  (bif (inI ((gi d 1).int + 1)) then (bif ((((gi d 0).rows.length : Nat) : Int) == 0) then (bif (inI (((gi d 1).int + 1) * 7919)) then (callF (F_pilemake_Below [.i (((gi d 1).int + 1) * 7919), .i (gi d 2).int]) fun g1 => some [.l (gi d 0).rows, .i ((gi d 1).int + 1), .i (gi g1 0).int]) else none) else (bif (inI (((gi d 1).int + 1) - 1)) then (bif (!((((gi d 0).rows.length : Nat) : Int) == 0)) then (bif (inI (((gi d 1).int + 1) - 1)) then (bif ((!((((gi d 0).rows.length : Nat) : Int) == 0)) && (inI (Int.tdiv (((gi d 1).int + 1) - 1) (((gi d 0).rows.length : Nat) : Int)))) then (bif ((nnI (Int.tmod (((gi d 1).int + 1) - 1) (((gi d 0).rows.length : Nat) : Int))) && (ltI (Int.tmod (((gi d 1).int + 1) - 1) (((gi d 0).rows.length : Nat) : Int)) (((gi d 0).rows.length : Nat) : Int))) then (callF (F_pilemake_Below [.i (gi ((gi d 0).rows.getD ((Int.tmod (((gi d 1).int + 1) - 1) (((gi d 0).rows.length : Nat) : Int)).toNat) []) 0).int, .i 1073741824]) fun g2 => (bif (inI (7919 + (Int.tmod (((gi d 1).int + 1) - 1) (((gi d 0).rows.length : Nat) : Int)))) then (bif (inI ((Int.tdiv (((gi d 1).int + 1) - 1) (((gi d 0).rows.length : Nat) : Int)) * (7919 + (Int.tmod (((gi d 1).int + 1) - 1) (((gi d 0).rows.length : Nat) : Int))))) then (bif (inI ((gi g2 0).int + ((Int.tdiv (((gi d 1).int + 1) - 1) (((gi d 0).rows.length : Nat) : Int)) * (7919 + (Int.tmod (((gi d 1).int + 1) - 1) (((gi d 0).rows.length : Nat) : Int)))))) then (callF (F_pilemake_Below [.i ((gi g2 0).int + ((Int.tdiv (((gi d 1).int + 1) - 1) (((gi d 0).rows.length : Nat) : Int)) * (7919 + (Int.tmod (((gi d 1).int + 1) - 1) (((gi d 0).rows.length : Nat) : Int))))), .i (gi d 2).int]) fun g3 => some [.l (gi d 0).rows, .i ((gi d 1).int + 1), .i (gi g3 0).int]) else none) else none) else none)) else none) else none) else none) else none) else none)) else none)
def s_pilemake_Stream_Next : FSpec := ⟨42, [.s (.ptr 0 0), .s (.int .i64)], [.box [.list [.int .i64], .int .i64]], [.slot 0], [.s (.int .i64)], [.box [.list [.int .i64], .int .i64]], [.fix 0], [], F_pilemake_Stream_Next⟩
theorem b_pilemake_Stream_Next : BodyOK P t8 noLoops Tryz.f42 s_pilemake_Stream_Next := fun d => by kernel_rfl
theorem c_pilemake_Stream_Next : ∀ d r, F_pilemake_Stream_Next d = some r → ACallX P 42 (s_pilemake_Stream_Next.args0 d) (denH (s_pilemake_Stream_Next.H0 d)) (s_pilemake_Stream_Next.out r) (denH (s_pilemake_Stream_Next.H1 r)) := fun d r h => body_sound hm t8_ok (sp := s_pilemake_Stream_Next) Tryz.func42 (by kernel_rfl) (noLoops_ok _ _ _) b_pilemake_Stream_Next (by kernel_rfl) h
def t9 : Tab := t8.addW s_pilemake_Stream_Next
theorem t9_ok : TabOK P t9 := t8_ok.addW (by kernel_rfl) (by kernel_rfl) c_pilemake_Stream_Next

/- (*pileup/pilemake.Stream).Flip -/
def F_pilemake_Stream_Flip (d : List G) : Option (List G) :=
  (callF (F_pilemake_Stream_Next [.l (gi d 0).rows, .i (gi d 1).int, .i (gi d 2).int]) fun g1 => some [.l (gi g1 0).rows, .i (gi g1 1).int, .t ((gi g1 2).int == 0)])
def s_pilemake_Stream_Flip : FSpec := ⟨53, [.s (.ptr 0 0), .s (.int .i64)], [.box [.list [.int .i64], .int .i64]], [.slot 0], [.s (.bool)], [.box [.list [.int .i64], .int .i64]], [.fix 0], [], F_pilemake_Stream_Flip⟩
theorem b_pilemake_Stream_Flip : BodyOK P t9 noLoops Tryz.f53 s_pilemake_Stream_Flip := fun d => by kernel_rfl
theorem c_pilemake_Stream_Flip : ∀ d r, F_pilemake_Stream_Flip d = some r → ACallX P 53 (s_pilemake_Stream_Flip.args0 d) (denH (s_pilemake_Stream_Flip.H0 d)) (s_pilemake_Stream_Flip.out r) (denH (s_pilemake_Stream_Flip.H1 r)) := fun d r h => body_sound hm t9_ok (sp := s_pilemake_Stream_Flip) Tryz.func53 (by kernel_rfl) (noLoops_ok _ _ _) b_pilemake_Stream_Flip (by kernel_rfl) h
def t10 : Tab := t9.addW s_pilemake_Stream_Flip
theorem t10_ok : TabOK P t10 := t9_ok.addW (by kernel_rfl) (by kernel_rfl) c_pilemake_Stream_Flip

/- (*pileup/pilemake.Stream).Some -/
def F_pilemake_Stream_Some (d : List G) : Option (List G) :=
  (callF (F_pilemake_Stream_Next [.l (gi d 0).rows, .i (gi d 1).int, .i (((gi d 2).rows.length : Nat) : Int)]) fun g1 => (bif ((nnI (gi g1 2).int) && (ltI (gi g1 2).int (((gi d 2).rows.length : Nat) : Int))) then some [.l (gi g1 0).rows, .i (gi g1 1).int, .s (gi ((gi d 2).rows.getD (((gi g1 2).int).toNat) []) 0).str] else none))
def s_pilemake_Stream_Some : FSpec := ⟨73, [.s (.ptr 0 0), .s (.list [.str])], [.box [.list [.int .i64], .int .i64]], [.slot 0], [.s (.str)], [.box [.list [.int .i64], .int .i64]], [.fix 0], [], F_pilemake_Stream_Some⟩
theorem b_pilemake_Stream_Some : BodyOK P t10 noLoops Tryz.f73 s_pilemake_Stream_Some := fun d => by kernel_rfl
theorem c_pilemake_Stream_Some : ∀ d r, F_pilemake_Stream_Some d = some r → ACallX P 73 (s_pilemake_Stream_Some.args0 d) (denH (s_pilemake_Stream_Some.H0 d)) (s_pilemake_Stream_Some.out r) (denH (s_pilemake_Stream_Some.H1 r)) := fun d r h => body_sound hm t10_ok (sp := s_pilemake_Stream_Some) Tryz.func73 (by kernel_rfl) (noLoops_ok _ _ _) b_pilemake_Stream_Some (by kernel_rfl) h
def t11 : Tab := t10.addW s_pilemake_Stream_Some
theorem t11_ok : TabOK P t11 := t10_ok.addW (by kernel_rfl) (by kernel_rfl) c_pilemake_Stream_Some

/- (*pileup/pilemake.Stream).Range -/
def F_pilemake_Stream_Range (d : List G) : Option (List G) :=
  (bif (ltI (gi d 3).int (gi d 2).int) then some [.l (gi d 0).rows, .i (gi d 1).int, .i (gi d 2).int] else (bif (inI ((gi d 3).int - (gi d 2).int)) then (bif (inI (((gi d 3).int - (gi d 2).int) + 1)) then (callF (F_pilemake_Stream_Next [.l (gi d 0).rows, .i (gi d 1).int, .i (((gi d 3).int - (gi d 2).int) + 1)]) fun g1 => (bif (inI ((gi d 2).int + (gi g1 2).int)) then some [.l (gi g1 0).rows, .i (gi g1 1).int, .i ((gi d 2).int + (gi g1 2).int)] else none)) else none) else none))
def s_pilemake_Stream_Range : FSpec := ⟨19, [.s (.ptr 0 0), .s (.int .i64), .s (.int .i64)], [.box [.list [.int .i64], .int .i64]], [.slot 0], [.s (.int .i64)], [.box [.list [.int .i64], .int .i64]], [.fix 0], [], F_pilemake_Stream_Range⟩
theorem b_pilemake_Stream_Range : BodyOK P t11 noLoops Tryz.f19 s_pilemake_Stream_Range := fun d => by kernel_rfl
theorem c_pilemake_Stream_Range : ∀ d r, F_pilemake_Stream_Range d = some r → ACallX P 19 (s_pilemake_Stream_Range.args0 d) (denH (s_pilemake_Stream_Range.H0 d)) (s_pilemake_Stream_Range.out r) (denH (s_pilemake_Stream_Range.H1 r)) := fun d r h => body_sound hm t11_ok (sp := s_pilemake_Stream_Range) Tryz.func19 (by kernel_rfl) (noLoops_ok _ _ _) b_pilemake_Stream_Range (by kernel_rfl) h
def t12 : Tab := t11.addW s_pilemake_Stream_Range
theorem t12_ok : TabOK P t12 := t11_ok.addW (by kernel_rfl) (by kernel_rfl) c_pilemake_Stream_Range

/- (*pileup/pilemake.Stream).Pick -/
def F_pilemake_Stream_Pick (d : List G) : Option (List G) :=
  (callF (F_pilemake_Stream_Next [.l (gi d 0).rows, .i (gi d 1).int, .i (((gi d 2).rows.length : Nat) : Int)]) fun g1 => (bif ((nnI (gi g1 2).int) && (ltI (gi g1 2).int (((gi d 2).rows.length : Nat) : Int))) then some [.l (gi g1 0).rows, .i (gi g1 1).int, .i (gi ((gi d 2).rows.getD (((gi g1 2).int).toNat) []) 0).int] else none))
def s_pilemake_Stream_Pick : FSpec := ⟨20, [.s (.ptr 0 0), .s (.list [.int .i64])], [.box [.list [.int .i64], .int .i64]], [.slot 0], [.s (.int .i64)], [.box [.list [.int .i64], .int .i64]], [.fix 0], [], F_pilemake_Stream_Pick⟩
theorem b_pilemake_Stream_Pick : BodyOK P t12 noLoops Tryz.f20 s_pilemake_Stream_Pick := fun d => by kernel_rfl
theorem c_pilemake_Stream_Pick : ∀ d r, F_pilemake_Stream_Pick d = some r → ACallX P 20 (s_pilemake_Stream_Pick.args0 d) (denH (s_pilemake_Stream_Pick.H0 d)) (s_pilemake_Stream_Pick.out r) (denH (s_pilemake_Stream_Pick.H1 r)) := fun d r h => body_sound hm t12_ok (sp := s_pilemake_Stream_Pick) Tryz.func20 (by kernel_rfl) (noLoops_ok _ _ _) b_pilemake_Stream_Pick (by kernel_rfl) h
def t13 : Tab := t12.addW s_pilemake_Stream_Pick
theorem t13_ok : TabOK P t13 := t12_ok.addW (by kernel_rfl) (by kernel_rfl) c_pilemake_Stream_Pick

/- (*pileup/pilemake.Stream).Odd -/
def F_pilemake_Stream_Odd (d : List G) : Option (List G) :=
  (callF (F_pilemake_Stream_Flip [.l (gi d 0).rows, .i (gi d 1).int, .i 12]) fun g1 => (bif (gi g1 2).bool then (bif (inI ((gi d 2).int - 1)) then (bif (inI ((gi d 3).int + 1)) then (callF (F_pilemake_Stream_Pick [.l (gi g1 0).rows, .i (gi g1 1).int, .l [[.i ((gi d 2).int - 1)], [.i ((gi d 3).int + 1)], [.i (gi d 2).int], [.i (gi d 3).int], [.i (-1099511627776)], [.i 1099511627776]]]) fun g2 => some [.l (gi g2 0).rows, .i (gi g2 1).int, .i (gi g2 2).int]) else none) else none) else (callF (F_pilemake_Stream_Range [.l (gi g1 0).rows, .i (gi g1 1).int, .i (gi d 2).int, .i (gi d 3).int]) fun g3 => some [.l (gi g3 0).rows, .i (gi g3 1).int, .i (gi g3 2).int])))
def s_pilemake_Stream_Odd : FSpec := ⟨54, [.s (.ptr 0 0), .s (.int .i64), .s (.int .i64)], [.box [.list [.int .i64], .int .i64]], [.slot 0], [.s (.int .i64)], [.box [.list [.int .i64], .int .i64]], [.fix 0], [], F_pilemake_Stream_Odd⟩
theorem b_pilemake_Stream_Odd : BodyOK P t13 noLoops Tryz.f54 s_pilemake_Stream_Odd := fun d => by kernel_rfl
theorem c_pilemake_Stream_Odd : ∀ d r, F_pilemake_Stream_Odd d = some r → ACallX P 54 (s_pilemake_Stream_Odd.args0 d) (denH (s_pilemake_Stream_Odd.H0 d)) (s_pilemake_Stream_Odd.out r) (denH (s_pilemake_Stream_Odd.H1 r)) := fun d r h => body_sound hm t13_ok (sp := s_pilemake_Stream_Odd) Tryz.func54 (by kernel_rfl) (noLoops_ok _ _ _) b_pilemake_Stream_Odd (by kernel_rfl) h
def t14 : Tab := t13.addW s_pilemake_Stream_Odd
theorem t14_ok : TabOK P t14 := t13_ok.addW (by kernel_rfl) (by kernel_rfl) c_pilemake_Stream_Odd

/- (*pileup/pilemake.Stream).Awards -/
def st_pilemake_Stream_Awards_3 (d : List G) : Option (Option Nat × List G) :=
  (bif (ltI (gi d 5).int (gi d 4).int) then (bif ((nnI (gi d 5).int) && (ltI (gi d 5).int (((gi d 3).rows.length : Nat) : Int))) then (callF (F_pilemake_Stream_Flip [.l (gi d 0).rows, .i (gi d 1).int, .i 5]) fun g1 => (bif (gi g1 2).bool then (bif (inI ((gi d 5).int + 1)) then (bif ((Nat.beq (gi d 2).rows.length (gi d 2).rows.length) && true) then some (none, [.l (gi g1 0).rows, .i (gi g1 1).int, .l (gi d 2).rows, .l (gi d 3).rows, .i (gi d 4).int, .i ((gi d 5).int + 1)]) else none) else none) else (callF (F_pilemake_Stream_Some [.l (gi g1 0).rows, .i (gi g1 1).int, .l [[.s (⟨#[]⟩ : ByteArray)], [.s (⟨#[]⟩ : ByteArray)], [.s (⟨#[98, 50, 48]⟩ : ByteArray)]]]) fun g2 => (callF (F_pilemake_Stream_Range [.l (gi g2 0).rows, .i (gi g2 1).int, .i 1, .i 4]) fun g3 => (callF (F_pilemake_Stream_Pick [.l (gi g3 0).rows, .i (gi g3 1).int, .l [[.i 1], [.i 2], [.i 3], [.i 5]]]) fun g4 => (callF (F_pilemake_Stream_Flip [.l (gi g4 0).rows, .i (gi g4 1).int, .i 40]) fun g5 => (bif (gi g5 2).bool then (callF (F_pilemake_Stream_Some [.l (gi g5 0).rows, .i (gi g5 1).int, .l [[.s (gi ((gi d 3).rows.getD (((gi d 5).int).toNat) []) 0).str], [.s (⟨#[]⟩ : ByteArray)], [.s (⟨#[97, 97]⟩ : ByteArray)]]]) fun g6 => (callF (F_pilemake_Stream_Some [.l (gi g6 0).rows, .i (gi g6 1).int, .l [[.s (⟨#[]⟩ : ByteArray)], [.s (⟨#[66]⟩ : ByteArray)]]]) fun g7 => (callF (F_pilemake_Stream_Odd [.l (gi g7 0).rows, .i (gi g7 1).int, .i 1, .i 4]) fun g8 => (callF (F_pilemake_Stream_Odd [.l (gi g8 0).rows, .i (gi g8 1).int, .i 1, .i 3000]) fun g9 => (bif ((Nat.beq (gi d 2).rows.length (gi d 2).rows.length) && (decide (((gi d 2).rows.length + 1) ≤ 1048576))) then (bif (inI ((gi d 5).int + 1)) then (bif ((Nat.beq ((gi d 2).rows ++ ([[.s (gi g6 2).str, .s (gi g7 2).str, .i (gi g8 2).int, .i (gi g9 2).int]] : List (List G))).length ((gi d 2).rows ++ ([[.s (gi g6 2).str, .s (gi g7 2).str, .i (gi g8 2).int, .i (gi g9 2).int]] : List (List G))).length) && true) then some (none, [.l (gi g9 0).rows, .i (gi g9 1).int, .l ((gi d 2).rows ++ ([[.s (gi g6 2).str, .s (gi g7 2).str, .i (gi g8 2).int, .i (gi g9 2).int]] : List (List G))), .l (gi d 3).rows, .i (gi d 4).int, .i ((gi d 5).int + 1)]) else none) else none) else none))))) else (bif ((Nat.beq (gi d 2).rows.length (gi d 2).rows.length) && (decide (((gi d 2).rows.length + 1) ≤ 1048576))) then (bif (inI ((gi d 5).int + 1)) then (bif ((Nat.beq ((gi d 2).rows ++ ([[.s (gi ((gi d 3).rows.getD (((gi d 5).int).toNat) []) 0).str, .s (gi g2 2).str, .i (gi g3 2).int, .i (gi g4 2).int]] : List (List G))).length ((gi d 2).rows ++ ([[.s (gi ((gi d 3).rows.getD (((gi d 5).int).toNat) []) 0).str, .s (gi g2 2).str, .i (gi g3 2).int, .i (gi g4 2).int]] : List (List G))).length) && true) then some (none, [.l (gi g5 0).rows, .i (gi g5 1).int, .l ((gi d 2).rows ++ ([[.s (gi ((gi d 3).rows.getD (((gi d 5).int).toNat) []) 0).str, .s (gi g2 2).str, .i (gi g3 2).int, .i (gi g4 2).int]] : List (List G))), .l (gi d 3).rows, .i (gi d 4).int, .i ((gi d 5).int + 1)]) else none) else none) else none)))))))) else none) else (bif ((Nat.beq (gi d 2).rows.length (gi d 2).rows.length) && true) then some (some 0, [.l (gi d 0).rows, .i (gi d 1).int, .l (gi d 2).rows]) else none))
def l_pilemake_Stream_Awards_3 : LSpec := ⟨3, [(3, KAward)], ⟨48, [(0, .s (.ptr 0 0)), (3, .s (.vec 1 4)), (7, .s (.list [.str])), (8, .s (.int .i64)), (9, .s (.int .i64))], [.box [.list [.int .i64], .int .i64], .vec KAward 0]⟩, [.fix 0, .slot 3], [⟨.exit 0, ⟨48, [(3, .s (.vec 1 4))], [.box [.list [.int .i64], .int .i64], .vec KAward 0]⟩, [.fix 0, .slot 3]⟩], st_pilemake_Stream_Awards_3⟩
theorem r_pilemake_Stream_Awards_3 : RoundOK P t14 noLoops 1 (loopAt Tryz.f41 3) l_pilemake_Stream_Awards_3 := fun d => by kernel_rfl
def L_pilemake_Stream_Awards_3 : LT := noLoops.add 1 l_pilemake_Stream_Awards_3
theorem L_pilemake_Stream_Awards_3_ok : LoopsOK P 1 L_pilemake_Stream_Awards_3 (bodyOf Tryz.f41) := LoopsOK.add hm t14_ok (by kernel_rfl) (noLoops_ok _ _ _) r_pilemake_Stream_Awards_3
def F_pilemake_Stream_Awards (d : List G) : Option (List G) :=
  (loopB true (LRun st_pilemake_Stream_Awards_3 [.l (gi d 0).rows, .i (gi d 1).int, .l [], .l [[.s (⟨#[97, 97]⟩ : ByteArray)], [.s (⟨#[97, 98]⟩ : ByteArray)], [.s (⟨#[97, 99]⟩ : ByteArray)]], .i 3, .i 0]) fun cg10 g10 => (bif ((Nat.beq (gi g10 2).rows.length (gi g10 2).rows.length) && true) then some [.l (gi g10 0).rows, .i (gi g10 1).int, .l (gi g10 2).rows] else none))
def s_pilemake_Stream_Awards : FSpec := ⟨41, [.s (.ptr 0 0)], [.box [.list [.int .i64], .int .i64]], [.slot 0], [.s (.list KAward)], [.box [.list [.int .i64], .int .i64]], [.fix 0], [], F_pilemake_Stream_Awards⟩
theorem b_pilemake_Stream_Awards : BodyOK P t14 L_pilemake_Stream_Awards_3 Tryz.f41 s_pilemake_Stream_Awards := fun d => by kernel_rfl
theorem c_pilemake_Stream_Awards : ∀ d r, F_pilemake_Stream_Awards d = some r → ACallX P 41 (s_pilemake_Stream_Awards.args0 d) (denH (s_pilemake_Stream_Awards.H0 d)) (s_pilemake_Stream_Awards.out r) (denH (s_pilemake_Stream_Awards.H1 r)) := fun d r h => body_sound hm t14_ok (sp := s_pilemake_Stream_Awards) Tryz.func41 (by kernel_rfl) L_pilemake_Stream_Awards_3_ok b_pilemake_Stream_Awards (by kernel_rfl) h
def t15 : Tab := t14.addW s_pilemake_Stream_Awards
theorem t15_ok : TabOK P t15 := t14_ok.addW (by kernel_rfl) (by kernel_rfl) c_pilemake_Stream_Awards

/- (*pileup/pilemake.Stream).ACall -/
def F_pilemake_Stream_ACall (d : List G) : Option (List G) :=
  (callF (F_pilemake_Stream_Flip [.l (gi d 0).rows, .i (gi d 1).int, .i 60]) fun g1 => (bif (gi g1 2).bool then (callF (F_pilemake_Stream_Some [.l (gi g1 0).rows, .i (gi g1 1).int, .l [[.s (⟨#[]⟩ : ByteArray)], [.s (⟨#[107, 49]⟩ : ByteArray)], [.s (⟨#[75, 49, 65, 66]⟩ : ByteArray)], [.s (⟨#[107, 49, 97, 98, 47]⟩ : ByteArray)], [.s (⟨#[49, 97]⟩ : ByteArray)], [.s (⟨#[107, 49, 97, 98, 47, 109, 109, 47, 112]⟩ : ByteArray)]]]) fun g2 => some [.l (gi g2 0).rows, .i (gi g2 1).int, .s (gi g2 2).str]) else (callF (F_pilemake_Stream_Some [.l (gi g1 0).rows, .i (gi g1 1).int, .l [[.s (⟨#[107, 49, 97, 98]⟩ : ByteArray)], [.s (⟨#[107, 49, 97, 97]⟩ : ByteArray)], [.s (⟨#[107, 49, 97, 98, 47, 52]⟩ : ByteArray)], [.s (⟨#[111, 104, 50, 97, 98, 99]⟩ : ByteArray)], [.s (⟨#[111, 104, 50, 97, 98, 100]⟩ : ByteArray)], [.s (⟨#[119, 49, 97, 119]⟩ : ByteArray)], [.s (⟨#[110, 49, 109, 109]⟩ : ByteArray)], [.s (⟨#[103, 51, 120, 121, 122, 47, 112]⟩ : ByteArray)]]]) fun g3 => some [.l (gi g3 0).rows, .i (gi g3 1).int, .s (gi g3 2).str])))
def s_pilemake_Stream_ACall : FSpec := ⟨72, [.s (.ptr 0 0)], [.box [.list [.int .i64], .int .i64]], [.slot 0], [.s (.str)], [.box [.list [.int .i64], .int .i64]], [.fix 0], [], F_pilemake_Stream_ACall⟩
theorem b_pilemake_Stream_ACall : BodyOK P t15 noLoops Tryz.f72 s_pilemake_Stream_ACall := fun d => by kernel_rfl
theorem c_pilemake_Stream_ACall : ∀ d r, F_pilemake_Stream_ACall d = some r → ACallX P 72 (s_pilemake_Stream_ACall.args0 d) (denH (s_pilemake_Stream_ACall.H0 d)) (s_pilemake_Stream_ACall.out r) (denH (s_pilemake_Stream_ACall.H1 r)) := fun d r h => body_sound hm t15_ok (sp := s_pilemake_Stream_ACall) Tryz.func72 (by kernel_rfl) (noLoops_ok _ _ _) b_pilemake_Stream_ACall (by kernel_rfl) h
def t16 : Tab := t15.addW s_pilemake_Stream_ACall
theorem t16_ok : TabOK P t16 := t15_ok.addW (by kernel_rfl) (by kernel_rfl) c_pilemake_Stream_ACall

/- pileup/pileref2.sign -/
def F_pileref2_sign (d : List G) : Option (List G) :=
  (bif (ltI (gi d 0).int 0) then some [.i (-1)] else (bif (ltI 0 (gi d 0).int) then some [.i 1] else some [.i 0]))
def s_pileref2_sign : FSpec := ⟨133, [.s (.int .i64)], [], [], [.s (.int .i64)], [], [], [], F_pileref2_sign⟩
theorem b_pileref2_sign : BodyOK P t16 noLoops Tryz.f133 s_pileref2_sign := fun d => by kernel_rfl
theorem c_pileref2_sign : ∀ d r, F_pileref2_sign d = some r → ACallX P 133 (s_pileref2_sign.args0 d) (denH (s_pileref2_sign.H0 d)) (s_pileref2_sign.out r) (denH (s_pileref2_sign.H1 r)) := fun d r h => body_sound hm t16_ok (sp := s_pileref2_sign) Tryz.func133 (by kernel_rfl) (noLoops_ok _ _ _) b_pileref2_sign (by kernel_rfl) h
def t17 : Tab := t16.addP s_pileref2_sign
theorem t17_ok : TabOK P t17 := t16_ok.addP (by kernel_rfl) (by kernel_rfl) c_pileref2_sign

/- pileup/pileref2.CardOrder -/
def F_pileref2_CardOrder (d : List G) : Option (List G) :=
  (bif ((gi (gi d 0).row 0).int != (gi (gi d 1).row 0).int) then (bif (inI ((gi (gi d 0).row 0).int - (gi (gi d 1).row 0).int)) then (callF (F_pileref2_sign [.i ((gi (gi d 0).row 0).int - (gi (gi d 1).row 0).int)]) fun g1 => some [.i (gi g1 0).int]) else none) else (bif (!((gi (gi d 0).row 3).str.toList == (gi (gi d 1).row 3).str.toList)) then (callF (F_strings_Compare [.s (gi (gi d 0).row 3).str, .s (gi (gi d 1).row 3).str]) fun g2 => some [.i (gi g2 0).int]) else (bif (!((gi (gi d 0).row 4).str.toList == (gi (gi d 1).row 4).str.toList)) then (callF (F_strings_Compare [.s (gi (gi d 0).row 4).str, .s (gi (gi d 1).row 4).str]) fun g3 => some [.i (gi g3 0).int]) else (bif ((gi (gi d 0).row 2).int != (gi (gi d 1).row 2).int) then (bif (inI ((gi (gi d 0).row 2).int - (gi (gi d 1).row 2).int)) then (callF (F_pileref2_sign [.i ((gi (gi d 0).row 2).int - (gi (gi d 1).row 2).int)]) fun g4 => some [.i (gi g4 0).int]) else none) else (bif (inI ((gi (gi d 0).row 1).int - (gi (gi d 1).row 1).int)) then (callF (F_pileref2_sign [.i ((gi (gi d 0).row 1).int - (gi (gi d 1).row 1).int)]) fun g5 => some [.i (gi g5 0).int]) else none)))))
def s_pileref2_CardOrder : FSpec := ⟨75, [.s (.row KCard), .s (.row KCard)], [], [], [.s (.int .i64)], [], [], [], F_pileref2_CardOrder⟩
theorem b_pileref2_CardOrder : BodyOK P t17 noLoops Tryz.f75 s_pileref2_CardOrder := fun d => by kernel_rfl
theorem c_pileref2_CardOrder : ∀ d r, F_pileref2_CardOrder d = some r → ACallX P 75 (s_pileref2_CardOrder.args0 d) (denH (s_pileref2_CardOrder.H0 d)) (s_pileref2_CardOrder.out r) (denH (s_pileref2_CardOrder.H1 r)) := fun d r h => body_sound hm t17_ok (sp := s_pileref2_CardOrder) Tryz.func75 (by kernel_rfl) (noLoops_ok _ _ _) b_pileref2_CardOrder (by kernel_rfl) h
def t18 : Tab := t17.addP s_pileref2_CardOrder
theorem t18_ok : TabOK P t18 := t17_ok.addP (by kernel_rfl) (by kernel_rfl) c_pileref2_CardOrder

/- slices.insertionSortCmpFunc[pileup/api.Card] -/
def st_slices_insertionSortCmpFunc_Card_4 (d : List G) : Option (Option Nat × List G) :=
  (bif (ltI (gi d 1).int (gi d 4).int) then (bif ((nnI (gi d 4).int) && (ltI (gi d 4).int (((gi d 0).rows.length : Nat) : Int))) then (bif (decide ((0 + ((gi d 4).int).toNat) < (gi d 0).rows.length)) then (bif (inI ((gi d 4).int - 1)) then (bif ((nnI ((gi d 4).int - 1)) && (ltI ((gi d 4).int - 1) (((gi d 0).rows.length : Nat) : Int))) then (bif (decide ((0 + ((gi d 4).int - 1).toNat) < (gi d 0).rows.length)) then (callF (F_pileref2_CardOrder [.l [(gEta KCard ((gi d 0).rows.getD (0 + ((gi d 4).int).toNat) []))], .l [(gEta KCard ((gi d 0).rows.getD (0 + ((gi d 4).int - 1).toNat) []))]]) fun g1 => (bif (ltI (gi g1 0).int 0) then (bif (inI ((gi d 4).int - 1)) then (bif (inI ((gi d 4).int - 1)) then (bif ((nnI ((gi d 4).int - 1)) && (ltI ((gi d 4).int - 1) (((gi d 0).rows.length : Nat) : Int))) then (bif (decide ((0 + ((gi d 4).int - 1).toNat) < (gi d 0).rows.length)) then (bif ((nnI (gi d 4).int) && (ltI (gi d 4).int (((gi d 0).rows.length : Nat) : Int))) then (bif (decide ((0 + ((gi d 4).int).toNat) < (gi d 0).rows.length)) then (bif ((nnI (gi d 4).int) && (ltI (gi d 4).int (((gi d 0).rows.length : Nat) : Int))) then (bif (decide ((0 + ((gi d 4).int).toNat) < (gi d 0).rows.length)) then (bif ((nnI ((gi d 4).int - 1)) && (ltI ((gi d 4).int - 1) (((gi d 0).rows.length : Nat) : Int))) then (bif (decide ((0 + ((gi d 4).int - 1).toNat) < ((gi d 0).rows.set (0 + ((gi d 4).int).toNat) (putG KCard ((gi d 0).rows.getD (0 + ((gi d 4).int).toNat) []) 0 (gEta KCard ((gi d 0).rows.getD (0 + ((gi d 4).int - 1).toNat) [])))).length)) then (bif (inI ((gi d 4).int - 1)) then (bif ((Nat.beq (gi d 0).rows.length (((gi d 0).rows.set (0 + ((gi d 4).int).toNat) (putG KCard ((gi d 0).rows.getD (0 + ((gi d 4).int).toNat) []) 0 (gEta KCard ((gi d 0).rows.getD (0 + ((gi d 4).int - 1).toNat) [])))).set (0 + ((gi d 4).int - 1).toNat) (putG KCard (((gi d 0).rows.set (0 + ((gi d 4).int).toNat) (putG KCard ((gi d 0).rows.getD (0 + ((gi d 4).int).toNat) []) 0 (gEta KCard ((gi d 0).rows.getD (0 + ((gi d 4).int - 1).toNat) [])))).getD (0 + ((gi d 4).int - 1).toNat) []) 0 (gEta KCard ((gi d 0).rows.getD (0 + ((gi d 4).int).toNat) [])))).length) && true) then some (none, [.l (((gi d 0).rows.set (0 + ((gi d 4).int).toNat) (putG KCard ((gi d 0).rows.getD (0 + ((gi d 4).int).toNat) []) 0 (gEta KCard ((gi d 0).rows.getD (0 + ((gi d 4).int - 1).toNat) [])))).set (0 + ((gi d 4).int - 1).toNat) (putG KCard (((gi d 0).rows.set (0 + ((gi d 4).int).toNat) (putG KCard ((gi d 0).rows.getD (0 + ((gi d 4).int).toNat) []) 0 (gEta KCard ((gi d 0).rows.getD (0 + ((gi d 4).int - 1).toNat) [])))).getD (0 + ((gi d 4).int - 1).toNat) []) 0 (gEta KCard ((gi d 0).rows.getD (0 + ((gi d 4).int).toNat) [])))), .i (gi d 1).int, .i (gi d 2).int, .i (gi d 3).int, .i ((gi d 4).int - 1)]) else none) else none) else none) else none) else none) else none) else none) else none) else none) else none) else none) else none) else (bif ((Nat.beq (gi d 0).rows.length (gi d 0).rows.length) && true) then some (some 0, [.l (gi d 0).rows, .i (gi d 1).int, .i (gi d 2).int, .i (gi d 3).int]) else none))) else none) else none) else none) else none) else none) else (bif ((Nat.beq (gi d 0).rows.length (gi d 0).rows.length) && true) then some (some 0, [.l (gi d 0).rows, .i (gi d 1).int, .i (gi d 2).int, .i (gi d 3).int]) else none))
def l_slices_insertionSortCmpFunc_Card_4 : LSpec := ⟨4, [], ⟨53, [(0, .s (.vec 0 5)), (1, .s (.int .i64)), (2, .s (.int .i64)), (3, .s (.fn 75)), (8, .s (.int .i64)), (9, .s (.int .i64))], [.vec KCard 0]⟩, [.fix 0], [⟨.exit 2, ⟨53, [(0, .s (.vec 0 5)), (1, .s (.int .i64)), (2, .s (.int .i64)), (3, .s (.fn 75)), (8, .s (.int .i64))], [.vec KCard 0]⟩, [.fix 0]⟩], st_slices_insertionSortCmpFunc_Card_4⟩
theorem r_slices_insertionSortCmpFunc_Card_4 : RoundOK P t18 noLoops 1 (loopAt Tryz.f178 4) l_slices_insertionSortCmpFunc_Card_4 := fun d => by kernel_rfl
def L_slices_insertionSortCmpFunc_Card_4 : LT := noLoops.add 1 l_slices_insertionSortCmpFunc_Card_4
theorem L_slices_insertionSortCmpFunc_Card_4_ok : LoopsOK P 1 L_slices_insertionSortCmpFunc_Card_4 (bodyOf Tryz.f178) := LoopsOK.add hm t18_ok (by kernel_rfl) (noLoops_ok _ _ _) r_slices_insertionSortCmpFunc_Card_4
def st_slices_insertionSortCmpFunc_Card_1 (d : List G) : Option (Option Nat × List G) :=
  (bif (ltI (gi d 3).int (gi d 2).int) then (loopB ((Nat.beq (gi d 0).rows.length (gi d 0).rows.length) && true) (LRun st_slices_insertionSortCmpFunc_Card_4 [.l (gi d 0).rows, .i (gi d 1).int, .i (gi d 2).int, .i (gi d 3).int, .i (gi d 3).int]) fun cg2 g2 => (bif (inI ((gi g2 3).int + 1)) then (bif ((Nat.beq (gi g2 0).rows.length (gi g2 0).rows.length) && true) then some (none, [.l (gi g2 0).rows, .i (gi g2 1).int, .i (gi g2 2).int, .i ((gi g2 3).int + 1)]) else none) else none)) else some (some 0, [.l (gi d 0).rows]))
def l_slices_insertionSortCmpFunc_Card_1 : LSpec := ⟨1, [], ⟨53, [(0, .s (.vec 0 5)), (1, .s (.int .i64)), (2, .s (.int .i64)), (3, .s (.fn 75)), (8, .s (.int .i64))], [.vec KCard 0]⟩, [.fix 0], [⟨.exit 0, ⟨53, [], [.vec KCard 0]⟩, [.fix 0]⟩], st_slices_insertionSortCmpFunc_Card_1⟩
theorem r_slices_insertionSortCmpFunc_Card_1 : RoundOK P t18 L_slices_insertionSortCmpFunc_Card_4 1 (loopAt Tryz.f178 1) l_slices_insertionSortCmpFunc_Card_1 := fun d => by kernel_rfl
def L_slices_insertionSortCmpFunc_Card_1 : LT := L_slices_insertionSortCmpFunc_Card_4.add 1 l_slices_insertionSortCmpFunc_Card_1
theorem L_slices_insertionSortCmpFunc_Card_1_ok : LoopsOK P 1 L_slices_insertionSortCmpFunc_Card_1 (bodyOf Tryz.f178) := LoopsOK.add hm t18_ok (by kernel_rfl) L_slices_insertionSortCmpFunc_Card_4_ok r_slices_insertionSortCmpFunc_Card_1
def F_slices_insertionSortCmpFunc_Card (d : List G) : Option (List G) :=
  (bif (inI ((gi d 1).int + 1)) then (loopB ((Nat.beq (gi d 0).rows.length (gi d 0).rows.length) && true) (LRun st_slices_insertionSortCmpFunc_Card_1 [.l (gi d 0).rows, .i (gi d 1).int, .i (gi d 2).int, .i ((gi d 1).int + 1)]) fun cg3 g3 => some [.l (gi g3 0).rows]) else none)
def s_slices_insertionSortCmpFunc_Card : FSpec := ⟨178, [.s (.vec 0 5), .s (.int .i64), .s (.int .i64), .s (.fn 75)], [.vec KCard 0], [.slot 0], [], [.vec KCard 0], [.fix 0], [], F_slices_insertionSortCmpFunc_Card⟩
theorem b_slices_insertionSortCmpFunc_Card : BodyOK P t18 L_slices_insertionSortCmpFunc_Card_1 Tryz.f178 s_slices_insertionSortCmpFunc_Card := fun d => by kernel_rfl
theorem c_slices_insertionSortCmpFunc_Card : ∀ d r, F_slices_insertionSortCmpFunc_Card d = some r → ACallX P 178 (s_slices_insertionSortCmpFunc_Card.args0 d) (denH (s_slices_insertionSortCmpFunc_Card.H0 d)) (s_slices_insertionSortCmpFunc_Card.out r) (denH (s_slices_insertionSortCmpFunc_Card.H1 r)) := fun d r h => body_sound hm t18_ok (sp := s_slices_insertionSortCmpFunc_Card) Tryz.func178 (by kernel_rfl) L_slices_insertionSortCmpFunc_Card_1_ok b_slices_insertionSortCmpFunc_Card (by kernel_rfl) h
def t19 : Tab := t18.addW s_slices_insertionSortCmpFunc_Card
theorem t19_ok : TabOK P t19 := t18_ok.addW (by kernel_rfl) (by kernel_rfl) c_slices_insertionSortCmpFunc_Card

/- slices.stableCmpFunc[pileup/api.Card] -/
/- not followed: a call of slices.symMergeCmpFunc[pileup/api.Card] at zsortanyfunc.go:348; a call of slices.symMergeCmpFunc[pileup/api.Card] at zsortanyfunc.go:353 -/
def st_slices_stableCmpFunc_Card_2 (d : List G) : Option (Option Nat × List G) :=
  (bif (leI (gi d 4).int (gi d 1).int) then (callB (((Nat.beq (gi d 0).rows.length (gi d 0).rows.length) && true) && (F_slices_insertionSortCmpFunc_Card [.l (gi d 0).rows, .i (gi d 3).int, .i (gi d 4).int]).isSome) (F_slices_insertionSortCmpFunc_Card [.l (gi d 0).rows, .i (gi d 3).int, .i (gi d 4).int]) fun g1 => (bif (inI ((gi d 4).int + (gi d 2).int)) then (bif ((Nat.beq (gi d 0).rows.length (gi g1 0).rows.length) && true) then some (none, [.l (gi g1 0).rows, .i (gi d 1).int, .i (gi d 2).int, .i (gi d 4).int, .i ((gi d 4).int + (gi d 2).int)]) else none) else none)) else (bif ((Nat.beq (gi d 0).rows.length (gi d 0).rows.length) && true) then some (some 0, [.l (gi d 0).rows, .i (gi d 1).int, .i (gi d 2).int, .i (gi d 3).int]) else none))
def l_slices_stableCmpFunc_Card_2 : LSpec := ⟨2, [], ⟨63, [(0, .s (.vec 0 5)), (1, .s (.int .i64)), (2, .s (.fn 75)), (6, .s (.int .i64)), (7, .s (.int .i64)), (8, .s (.int .i64))], [.vec KCard 0]⟩, [.fix 0], [⟨.exit 0, ⟨63, [(0, .s (.vec 0 5)), (1, .s (.int .i64)), (2, .s (.fn 75)), (6, .s (.int .i64)), (7, .s (.int .i64))], [.vec KCard 0]⟩, [.fix 0]⟩], st_slices_stableCmpFunc_Card_2⟩
theorem r_slices_stableCmpFunc_Card_2 : RoundOK P t19 noLoops 1 (loopAt Tryz.f132 2) l_slices_stableCmpFunc_Card_2 := fun d => by kernel_rfl
def L_slices_stableCmpFunc_Card_2 : LT := noLoops.add 1 l_slices_stableCmpFunc_Card_2
theorem L_slices_stableCmpFunc_Card_2_ok : LoopsOK P 1 L_slices_stableCmpFunc_Card_2 (bodyOf Tryz.f132) := LoopsOK.add hm t19_ok (by kernel_rfl) (noLoops_ok _ _ _) r_slices_stableCmpFunc_Card_2
def st_slices_stableCmpFunc_Card_9 (d : List G) : Option (Option Nat × List G) :=
  (bif (leI (gi d 4).int (gi d 1).int) then (bif (inI ((gi d 3).int + (gi d 2).int)) then none else none) else (bif ((Nat.beq (gi d 0).rows.length (gi d 0).rows.length) && true) then some (some 0, [.l (gi d 0).rows, .i (gi d 1).int, .i (gi d 2).int, .i (gi d 3).int]) else none))
def l_slices_stableCmpFunc_Card_9 : LSpec := ⟨9, [], ⟨63, [(0, .s (.vec 0 5)), (1, .s (.int .i64)), (2, .s (.fn 75)), (6, .s (.int .i64)), (7, .s (.int .i64)), (8, .s (.int .i64))], [.vec KCard 0]⟩, [.fix 0], [⟨.exit 4, ⟨63, [(0, .s (.vec 0 5)), (1, .s (.int .i64)), (2, .s (.fn 75)), (6, .s (.int .i64)), (7, .s (.int .i64))], [.vec KCard 0]⟩, [.fix 0]⟩], st_slices_stableCmpFunc_Card_9⟩
theorem r_slices_stableCmpFunc_Card_9 : RoundOK P t19 L_slices_stableCmpFunc_Card_2 1 (loopAt Tryz.f132 9) l_slices_stableCmpFunc_Card_9 := fun d => by kernel_rfl
def L_slices_stableCmpFunc_Card_9 : LT := L_slices_stableCmpFunc_Card_2.add 1 l_slices_stableCmpFunc_Card_9
theorem L_slices_stableCmpFunc_Card_9_ok : LoopsOK P 1 L_slices_stableCmpFunc_Card_9 (bodyOf Tryz.f132) := LoopsOK.add hm t19_ok (by kernel_rfl) L_slices_stableCmpFunc_Card_2_ok r_slices_stableCmpFunc_Card_9
def st_slices_stableCmpFunc_Card_7 (d : List G) : Option (Option Nat × List G) :=
  (bif (ltI (gi d 2).int (gi d 1).int) then (bif (inI (2 * (gi d 2).int)) then (loopB ((Nat.beq (gi d 0).rows.length (gi d 0).rows.length) && true) (LRun st_slices_stableCmpFunc_Card_9 [.l (gi d 0).rows, .i (gi d 1).int, .i (gi d 2).int, .i 0, .i (2 * (gi d 2).int)]) fun cg4 g4 => (bif (inI ((gi g4 3).int + (gi g4 2).int)) then (bif (ltI ((gi g4 3).int + (gi g4 2).int) (gi g4 1).int) then none else (bif (inI ((gi g4 2).int * 2)) then (bif ((Nat.beq (gi g4 0).rows.length (gi g4 0).rows.length) && true) then some (none, [.l (gi g4 0).rows, .i (gi g4 1).int, .i ((gi g4 2).int * 2)]) else none) else none)) else none)) else none) else some (some 0, [.l (gi d 0).rows]))
def l_slices_stableCmpFunc_Card_7 : LSpec := ⟨7, [], ⟨63, [(0, .s (.vec 0 5)), (1, .s (.int .i64)), (2, .s (.fn 75)), (6, .s (.int .i64))], [.vec KCard 0]⟩, [.fix 0], [⟨.exit 2, ⟨63, [], [.vec KCard 0]⟩, [.fix 0]⟩], st_slices_stableCmpFunc_Card_7⟩
theorem r_slices_stableCmpFunc_Card_7 : RoundOK P t19 L_slices_stableCmpFunc_Card_9 1 (loopAt Tryz.f132 7) l_slices_stableCmpFunc_Card_7 := fun d => by kernel_rfl
def L_slices_stableCmpFunc_Card_7 : LT := L_slices_stableCmpFunc_Card_9.add 1 l_slices_stableCmpFunc_Card_7
theorem L_slices_stableCmpFunc_Card_7_ok : LoopsOK P 1 L_slices_stableCmpFunc_Card_7 (bodyOf Tryz.f132) := LoopsOK.add hm t19_ok (by kernel_rfl) L_slices_stableCmpFunc_Card_9_ok r_slices_stableCmpFunc_Card_7
def F_slices_stableCmpFunc_Card (d : List G) : Option (List G) :=
  (loopB ((Nat.beq (gi d 0).rows.length (gi d 0).rows.length) && true) (LRun st_slices_stableCmpFunc_Card_2 [.l (gi d 0).rows, .i (gi d 1).int, .i 20, .i 0, .i 20]) fun cg2 g2 => (callB (((Nat.beq (gi g2 0).rows.length (gi g2 0).rows.length) && true) && (F_slices_insertionSortCmpFunc_Card [.l (gi g2 0).rows, .i (gi g2 3).int, .i (gi g2 1).int]).isSome) (F_slices_insertionSortCmpFunc_Card [.l (gi g2 0).rows, .i (gi g2 3).int, .i (gi g2 1).int]) fun g3 => (loopB ((Nat.beq (gi g2 0).rows.length (gi g3 0).rows.length) && true) (LRun st_slices_stableCmpFunc_Card_7 [.l (gi g3 0).rows, .i (gi g2 1).int, .i (gi g2 2).int]) fun cg5 g5 => some [.l (gi g5 0).rows])))
def s_slices_stableCmpFunc_Card : FSpec := ⟨132, [.s (.vec 0 5), .s (.int .i64), .s (.fn 75)], [.vec KCard 0], [.slot 0], [], [.vec KCard 0], [.fix 0], [], F_slices_stableCmpFunc_Card⟩
theorem b_slices_stableCmpFunc_Card : BodyOK P t19 L_slices_stableCmpFunc_Card_7 Tryz.f132 s_slices_stableCmpFunc_Card := fun d => by kernel_rfl
theorem c_slices_stableCmpFunc_Card : ∀ d r, F_slices_stableCmpFunc_Card d = some r → ACallX P 132 (s_slices_stableCmpFunc_Card.args0 d) (denH (s_slices_stableCmpFunc_Card.H0 d)) (s_slices_stableCmpFunc_Card.out r) (denH (s_slices_stableCmpFunc_Card.H1 r)) := fun d r h => body_sound hm t19_ok (sp := s_slices_stableCmpFunc_Card) Tryz.func132 (by kernel_rfl) L_slices_stableCmpFunc_Card_7_ok b_slices_stableCmpFunc_Card (by kernel_rfl) h
def t20 : Tab := t19.addW s_slices_stableCmpFunc_Card
theorem t20_ok : TabOK P t20 := t19_ok.addW (by kernel_rfl) (by kernel_rfl) c_slices_stableCmpFunc_Card

/- slices.SortStableFunc[[]pileup/api.Card,pileup/api.Card] -/
def F_slices_SortStableFunc_Card (d : List G) : Option (List G) :=
  (callB (((Nat.beq (gi d 0).rows.length (gi d 0).rows.length) && true) && (F_slices_stableCmpFunc_Card [.l (gi d 0).rows, .i (((gi d 0).rows.length : Nat) : Int)]).isSome) (F_slices_stableCmpFunc_Card [.l (gi d 0).rows, .i (((gi d 0).rows.length : Nat) : Int)]) fun g1 => some [.l (gi g1 0).rows])
def s_slices_SortStableFunc_Card : FSpec := ⟨74, [.s (.vec 0 5), .s (.fn 75)], [.vec KCard 0], [.slot 0], [], [.vec KCard 0], [.fix 0], [], F_slices_SortStableFunc_Card⟩
theorem b_slices_SortStableFunc_Card : BodyOK P t20 noLoops Tryz.f74 s_slices_SortStableFunc_Card := fun d => by kernel_rfl
theorem c_slices_SortStableFunc_Card : ∀ d r, F_slices_SortStableFunc_Card d = some r → ACallX P 74 (s_slices_SortStableFunc_Card.args0 d) (denH (s_slices_SortStableFunc_Card.H0 d)) (s_slices_SortStableFunc_Card.out r) (denH (s_slices_SortStableFunc_Card.H1 r)) := fun d r h => body_sound hm t20_ok (sp := s_slices_SortStableFunc_Card) Tryz.func74 (by kernel_rfl) (noLoops_ok _ _ _) b_slices_SortStableFunc_Card (by kernel_rfl) h
def t21 : Tab := t20.addW s_slices_SortStableFunc_Card
theorem t21_ok : TabOK P t21 := t20_ok.addW (by kernel_rfl) (by kernel_rfl) c_slices_SortStableFunc_Card

/- slices.Compact[[]pileup/api.Card,pileup/api.Card] -/
def st_slices_Compact_Card_9 (d : List G) : Option (Option Nat × List G) :=
  (bif (ltI (gi d 4).int (((gi d 3).int.toNat : Nat) : Int)) then (bif ((nnI (gi d 4).int) && (ltI (gi d 4).int (((gi d 3).int.toNat : Nat) : Int))) then (bif (decide (((gi d 2).int.toNat + ((gi d 4).int).toNat) < (gi d 0).rows.length)) then (bif (inI ((gi d 4).int - 1)) then (bif ((nnI ((gi d 4).int - 1)) && (ltI ((gi d 4).int - 1) (((gi d 3).int.toNat : Nat) : Int))) then (bif (decide (((gi d 2).int.toNat + ((gi d 4).int - 1).toNat) < (gi d 0).rows.length)) then (bif (!(rowEq KCard (gEta KCard ((gi d 0).rows.getD ((gi d 2).int.toNat + ((gi d 4).int).toNat) [])) (gEta KCard ((gi d 0).rows.getD ((gi d 2).int.toNat + ((gi d 4).int - 1).toNat) [])))) then (bif ((nnI (gi d 4).int) && (ltI (gi d 4).int (((gi d 3).int.toNat : Nat) : Int))) then (bif (decide (((gi d 2).int.toNat + ((gi d 4).int).toNat) < (gi d 0).rows.length)) then (bif ((nnI (gi d 1).int) && (ltI (gi d 1).int (((gi d 0).rows.length : Nat) : Int))) then (bif (decide ((0 + ((gi d 1).int).toNat) < (gi d 0).rows.length)) then (bif (inI ((gi d 1).int + 1)) then (bif (inI ((gi d 4).int + 1)) then (bif ((Nat.beq (gi d 0).rows.length ((gi d 0).rows.set (0 + ((gi d 1).int).toNat) (putG KCard ((gi d 0).rows.getD (0 + ((gi d 1).int).toNat) []) 0 (gEta KCard ((gi d 0).rows.getD ((gi d 2).int.toNat + ((gi d 4).int).toNat) [])))).length) && true) then some (none, [.l ((gi d 0).rows.set (0 + ((gi d 1).int).toNat) (putG KCard ((gi d 0).rows.getD (0 + ((gi d 1).int).toNat) []) 0 (gEta KCard ((gi d 0).rows.getD ((gi d 2).int.toNat + ((gi d 4).int).toNat) [])))), .i ((gi d 1).int + 1), .i (((gi d 2).int.toNat : Nat) : Int), .i (((gi d 3).int.toNat : Nat) : Int), .i ((gi d 4).int + 1)]) else none) else none) else none) else none) else none) else none) else none) else (bif (inI ((gi d 4).int + 1)) then (bif ((Nat.beq (gi d 0).rows.length (gi d 0).rows.length) && true) then some (none, [.l (gi d 0).rows, .i (gi d 1).int, .i (((gi d 2).int.toNat : Nat) : Int), .i (((gi d 3).int.toNat : Nat) : Int), .i ((gi d 4).int + 1)]) else none) else none)) else none) else none) else none) else none) else none) else (bif ((Nat.beq (gi d 0).rows.length (gi d 0).rows.length) && true) then some (some 0, [.l (gi d 0).rows, .i (gi d 1).int]) else none))
def l_slices_Compact_Card_9 : LSpec := ⟨9, [], ⟨61, [(0, .s (.vec 0 5)), (3, .s (.int .i64)), (4, .s (.sub 0 5)), (5, .s (.int .i64))], [.vec KCard 0]⟩, [.fix 0], [⟨.exit 2, ⟨61, [(0, .s (.vec 0 5)), (3, .s (.int .i64))], [.vec KCard 0]⟩, [.fix 0]⟩], st_slices_Compact_Card_9⟩
theorem r_slices_Compact_Card_9 : RoundOK P t21 noLoops 1 (loopAt Tryz.f76 9) l_slices_Compact_Card_9 := fun d => by kernel_rfl
def L_slices_Compact_Card_9 : LT := noLoops.add 1 l_slices_Compact_Card_9
theorem L_slices_Compact_Card_9_ok : LoopsOK P 1 L_slices_Compact_Card_9 (bodyOf Tryz.f76) := LoopsOK.add hm t21_ok (by kernel_rfl) (noLoops_ok _ _ _) r_slices_Compact_Card_9
def st_slices_Compact_Card_4 (d : List G) : Option (Option Nat × List G) :=
  (bif (ltI (gi d 1).int (((gi d 0).rows.length : Nat) : Int)) then (bif ((nnI (gi d 1).int) && (ltI (gi d 1).int (((gi d 0).rows.length : Nat) : Int))) then (bif (decide ((0 + ((gi d 1).int).toNat) < (gi d 0).rows.length)) then (bif (inI ((gi d 1).int - 1)) then (bif ((nnI ((gi d 1).int - 1)) && (ltI ((gi d 1).int - 1) (((gi d 0).rows.length : Nat) : Int))) then (bif (decide ((0 + ((gi d 1).int - 1).toNat) < (gi d 0).rows.length)) then (bif (rowEq KCard (gEta KCard ((gi d 0).rows.getD (0 + ((gi d 1).int).toNat) [])) (gEta KCard ((gi d 0).rows.getD (0 + ((gi d 1).int - 1).toNat) []))) then (bif ((nnI (gi d 1).int) && (leI (gi d 1).int (((gi d 0).rows.length : Nat) : Int))) then (loopB ((Nat.beq (gi d 0).rows.length (gi d 0).rows.length) && true) (LRun st_slices_Compact_Card_9 [.l (gi d 0).rows, .i (gi d 1).int, .i (((0 + ((gi d 1).int).toNat) : Nat) : Int), .i ((((gi d 0).rows.length - ((gi d 1).int).toNat) : Nat) : Int), .i 1]) fun cg1 g1 => (bif ((nnI (gi g1 1).int) && (leI (gi g1 1).int (((gi g1 0).rows.length : Nat) : Int))) then (bif (Nat.ble ((0 + ((gi g1 1).int).toNat) + ((gi g1 0).rows.length - ((gi g1 1).int).toNat)) (gi g1 0).rows.length) then (bif ((nnI (gi g1 1).int) && (leI (gi g1 1).int (((gi g1 0).rows.length : Nat) : Int))) then some (some 0, [.l ((gi g1 0).rows.take (0 + ((gi g1 1).int).toNat) ++ List.replicate ((gi g1 0).rows.length - ((gi g1 1).int).toNat) [.i 0, .i 0, .i 0, .s (⟨#[]⟩ : ByteArray), .s (⟨#[]⟩ : ByteArray)] ++ (gi g1 0).rows.drop ((0 + ((gi g1 1).int).toNat) + ((gi g1 0).rows.length - ((gi g1 1).int).toNat))), .i (((((gi g1 1).int).toNat - 0) : Nat) : Int)]) else none) else none) else none)) else none) else (bif (inI ((gi d 1).int + 1)) then (bif ((Nat.beq (gi d 0).rows.length (gi d 0).rows.length) && true) then some (none, [.l (gi d 0).rows, .i ((gi d 1).int + 1)]) else none) else none)) else none) else none) else none) else none) else none) else (bif ((Nat.beq (gi d 0).rows.length (gi d 0).rows.length) && true) then some (some 1, [.l (gi d 0).rows]) else none))
def l_slices_Compact_Card_4 : LSpec := ⟨4, [], ⟨61, [(0, .s (.vec 0 5)), (3, .s (.int .i64))], [.vec KCard 0]⟩, [.fix 0], [⟨.ret, ⟨61, [(2, .s (.pre 0 5))], [.vec KCard 0]⟩, [.fix 0]⟩, ⟨.exit 0, ⟨61, [(0, .s (.vec 0 5))], [.vec KCard 0]⟩, [.fix 0]⟩], st_slices_Compact_Card_4⟩
theorem r_slices_Compact_Card_4 : RoundOK P t21 L_slices_Compact_Card_9 1 (loopAt Tryz.f76 4) l_slices_Compact_Card_4 := fun d => by kernel_rfl
def L_slices_Compact_Card_4 : LT := L_slices_Compact_Card_9.add 1 l_slices_Compact_Card_4
theorem L_slices_Compact_Card_4_ok : LoopsOK P 1 L_slices_Compact_Card_4 (bodyOf Tryz.f76) := LoopsOK.add hm t21_ok (by kernel_rfl) L_slices_Compact_Card_9_ok r_slices_Compact_Card_4
def F_slices_Compact_Card (d : List G) : Option (List G) :=
  (bif (ltI (((gi d 0).rows.length : Nat) : Int) 2) then some [.l (gi d 0).rows, .i (((gi d 0).rows.length : Nat) : Int)] else (loopB ((Nat.beq (gi d 0).rows.length (gi d 0).rows.length) && true) (LRun st_slices_Compact_Card_4 [.l (gi d 0).rows, .i 1]) fun cg2 g2 => (bif Nat.beq cg2 0 then some [.l (gi g2 0).rows, .i (((gi g2 1).int.toNat : Nat) : Int)] else some [.l (gi g2 0).rows, .i (((gi g2 0).rows.length : Nat) : Int)])))
def s_slices_Compact_Card : FSpec := ⟨76, [.s (.vec 0 5)], [.vec KCard 0], [.slot 0], [.s (.pre 0 5)], [.vec KCard 0], [.fix 0], [], F_slices_Compact_Card⟩
theorem b_slices_Compact_Card : BodyOK P t21 L_slices_Compact_Card_4 Tryz.f76 s_slices_Compact_Card := fun d => by kernel_rfl
theorem c_slices_Compact_Card : ∀ d r, F_slices_Compact_Card d = some r → ACallX P 76 (s_slices_Compact_Card.args0 d) (denH (s_slices_Compact_Card.H0 d)) (s_slices_Compact_Card.out r) (denH (s_slices_Compact_Card.H1 r)) := fun d r h => body_sound hm t21_ok (sp := s_slices_Compact_Card) Tryz.func76 (by kernel_rfl) L_slices_Compact_Card_4_ok b_slices_Compact_Card (by kernel_rfl) h
def t22 : Tab := t21.addW s_slices_Compact_Card
theorem t22_ok : TabOK P t22 := t21_ok.addW (by kernel_rfl) (by kernel_rfl) c_slices_Compact_Card

/- (*pileup/pilemake.Stream).Cards -/
def st_pilemake_Stream_Cards_4 (d : List G) : Option (Option Nat × List G) :=
  (bif (ltI (gi d 5).int (gi d 4).int) then (callF (F_pilemake_Stream_Pick [.l (gi d 0).rows, .i (gi d 1).int, .l [[.i 0], [.i 1], [.i 5], [.i 20]]]) fun g1 => (bif (inI ((gi d 3).int + (gi g1 2).int)) then (callF (F_pilemake_Stream_Pick [.l (gi g1 0).rows, .i (gi g1 1).int, .l [[.i 1], [.i 2], [.i 2], [.i 2], [.i 3]]]) fun g2 => (callF (F_pilemake_Stream_Pick [.l (gi g2 0).rows, .i (gi g2 1).int, .l [[.i 1], [.i 1], [.i 2]]]) fun g3 => (callF (F_pilemake_Stream_ACall [.l (gi g3 0).rows, .i (gi g3 1).int]) fun g4 => (callF (F_pilemake_Stream_Some [.l (gi g4 0).rows, .i (gi g4 1).int, .l [[.s (⟨#[98, 50, 48]⟩ : ByteArray)], [.s (⟨#[98, 50, 48]⟩ : ByteArray)], [.s (⟨#[98, 52, 48]⟩ : ByteArray)]]]) fun g5 => (callF (F_pilemake_Stream_Flip [.l (gi g5 0).rows, .i (gi g5 1).int, .i 100]) fun g6 => (bif (gi g6 2).bool then (callF (F_pilemake_Stream_Odd [.l (gi g6 0).rows, .i (gi g6 1).int, .i 0, .i 50]) fun g7 => (callF (F_pilemake_Stream_Odd [.l (gi g7 0).rows, .i (gi g7 1).int, .i 1, .i 3]) fun g8 => (callF (F_pilemake_Stream_Odd [.l (gi g8 0).rows, .i (gi g8 1).int, .i 1, .i 3]) fun g9 => (callF (F_pilemake_Stream_Some [.l (gi g9 0).rows, .i (gi g9 1).int, .l [[.s (⟨#[]⟩ : ByteArray)], [.s (⟨#[98, 50, 48]⟩ : ByteArray)]]]) fun g10 => (bif ((Nat.beq (gi d 2).rows.length (gi d 2).rows.length) && (decide (((gi d 2).rows.length + 1) ≤ 1048576))) then (bif (inI ((gi d 5).int + 1)) then (bif ((Nat.beq ((gi d 2).rows ++ ([[.i (gi g7 2).int, .i (gi g8 2).int, .i (gi g9 2).int, .s (gi g4 2).str, .s (gi g10 2).str]] : List (List G))).length ((gi d 2).rows ++ ([[.i (gi g7 2).int, .i (gi g8 2).int, .i (gi g9 2).int, .s (gi g4 2).str, .s (gi g10 2).str]] : List (List G))).length) && true) then some (none, [.l (gi g10 0).rows, .i (gi g10 1).int, .l ((gi d 2).rows ++ ([[.i (gi g7 2).int, .i (gi g8 2).int, .i (gi g9 2).int, .s (gi g4 2).str, .s (gi g10 2).str]] : List (List G))), .i ((gi d 3).int + (gi g1 2).int), .i (gi d 4).int, .i ((gi d 5).int + 1)]) else none) else none) else none))))) else (bif ((Nat.beq (gi d 2).rows.length (gi d 2).rows.length) && (decide (((gi d 2).rows.length + 1) ≤ 1048576))) then (bif (inI ((gi d 5).int + 1)) then (bif ((Nat.beq ((gi d 2).rows ++ ([[.i ((gi d 3).int + (gi g1 2).int), .i (gi g2 2).int, .i (gi g3 2).int, .s (gi g4 2).str, .s (gi g5 2).str]] : List (List G))).length ((gi d 2).rows ++ ([[.i ((gi d 3).int + (gi g1 2).int), .i (gi g2 2).int, .i (gi g3 2).int, .s (gi g4 2).str, .s (gi g5 2).str]] : List (List G))).length) && true) then some (none, [.l (gi g6 0).rows, .i (gi g6 1).int, .l ((gi d 2).rows ++ ([[.i ((gi d 3).int + (gi g1 2).int), .i (gi g2 2).int, .i (gi g3 2).int, .s (gi g4 2).str, .s (gi g5 2).str]] : List (List G))), .i ((gi d 3).int + (gi g1 2).int), .i (gi d 4).int, .i ((gi d 5).int + 1)]) else none) else none) else none))))))) else none)) else (bif ((Nat.beq (gi d 2).rows.length (gi d 2).rows.length) && true) then some (some 0, [.l (gi d 0).rows, .i (gi d 1).int, .l (gi d 2).rows]) else none))
def l_pilemake_Stream_Cards_4 : LSpec := ⟨4, [(5, KCard)], ⟨53, [(0, .s (.ptr 0 0)), (5, .s (.vec 1 5)), (6, .s (.int .i64)), (8, .s (.int .i64)), (9, .s (.int .i64))], [.box [.list [.int .i64], .int .i64], .vec KCard 0]⟩, [.fix 0, .slot 5], [⟨.exit 0, ⟨53, [(5, .s (.vec 1 5))], [.box [.list [.int .i64], .int .i64], .vec KCard 0]⟩, [.fix 0, .slot 5]⟩], st_pilemake_Stream_Cards_4⟩
theorem r_pilemake_Stream_Cards_4 : RoundOK P t22 noLoops 1 (loopAt Tryz.f18 4) l_pilemake_Stream_Cards_4 := fun d => by kernel_rfl
def L_pilemake_Stream_Cards_4 : LT := noLoops.add 1 l_pilemake_Stream_Cards_4
theorem L_pilemake_Stream_Cards_4_ok : LoopsOK P 1 L_pilemake_Stream_Cards_4 (bodyOf Tryz.f18) := LoopsOK.add hm t22_ok (by kernel_rfl) (noLoops_ok _ _ _) r_pilemake_Stream_Cards_4
def F_pilemake_Stream_Cards (d : List G) : Option (List G) :=
  (loopB true (LRun st_pilemake_Stream_Cards_4 [.l (gi d 0).rows, .i (gi d 1).int, .l [], .i 0, .i (gi d 2).int, .i 0]) fun cg11 g11 => (callB (((Nat.beq (gi g11 2).rows.length (gi g11 2).rows.length) && true) && (F_slices_SortStableFunc_Card [.l (gi g11 2).rows]).isSome) (F_slices_SortStableFunc_Card [.l (gi g11 2).rows]) fun g12 => (callB (((Nat.beq (gi g11 2).rows.length (gi g12 0).rows.length) && true) && (F_slices_Compact_Card [.l (gi g12 0).rows]).isSome) (F_slices_Compact_Card [.l (gi g12 0).rows]) fun g13 => (bif ((Nat.ble (gi g13 1).int.toNat (gi g13 0).rows.length) && true) then some [.l (gi g11 0).rows, .i (gi g11 1).int, .l ((gi g13 0).rows.take ((gi g13 1).int.toNat))] else none))))
def s_pilemake_Stream_Cards : FSpec := ⟨18, [.s (.ptr 0 0), .s (.int .i64)], [.box [.list [.int .i64], .int .i64]], [.slot 0], [.s (.lpre KCard)], [.box [.list [.int .i64], .int .i64]], [.fix 0], [], F_pilemake_Stream_Cards⟩
theorem b_pilemake_Stream_Cards : BodyOK P t22 L_pilemake_Stream_Cards_4 Tryz.f18 s_pilemake_Stream_Cards := fun d => by kernel_rfl
theorem c_pilemake_Stream_Cards : ∀ d r, F_pilemake_Stream_Cards d = some r → ACallX P 18 (s_pilemake_Stream_Cards.args0 d) (denH (s_pilemake_Stream_Cards.H0 d)) (s_pilemake_Stream_Cards.out r) (denH (s_pilemake_Stream_Cards.H1 r)) := fun d r h => body_sound hm t22_ok (sp := s_pilemake_Stream_Cards) Tryz.func18 (by kernel_rfl) L_pilemake_Stream_Cards_4_ok b_pilemake_Stream_Cards (by kernel_rfl) h
def t23 : Tab := t22.addW s_pilemake_Stream_Cards
theorem t23_ok : TabOK P t23 := t22_ok.addW (by kernel_rfl) (by kernel_rfl) c_pilemake_Stream_Cards

/- pileup/kit.IsKey -/
def F_kit_IsKey (d : List G) : Option (List G) :=
  (bif (!((gi d 0).str.toList == (⟨#[]⟩ : ByteArray).toList)) then (bif (leI (((gi d 0).str.size : Nat) : Int) 40) then (bif (ltI 0 (((gi d 0).str.size : Nat) : Int)) then (callF (F_strings_IndexByte [.s (⟨#[97, 98, 99, 100, 101, 102, 103, 104, 105, 106, 107, 108, 109, 110, 111, 112, 113, 114, 115, 116, 117, 118, 119, 120, 121, 122]⟩ : ByteArray), .i (((gi d 0).str.data.toList.getD 0 0).toNat : Int)]) fun g1 => (bif (leI 0 (gi g1 0).int) then (callF (F_strings_Trim [.s (gi d 0).str, .s (⟨#[97, 98, 99, 100, 101, 102, 103, 104, 105, 106, 107, 108, 109, 110, 111, 112, 113, 114, 115, 116, 117, 118, 119, 120, 121, 122, 48, 49, 50, 51, 52, 53, 54, 55, 56, 57, 45, 95]⟩ : ByteArray)]) fun g2 => some [.t ((gi g2 0).str.toList == (⟨#[]⟩ : ByteArray).toList)]) else some [.t false])) else none) else some [.t false]) else some [.t false])
def s_kit_IsKey : FSpec := ⟨101, [.s (.str)], [], [], [.s (.bool)], [], [], [], F_kit_IsKey⟩
theorem b_kit_IsKey : BodyOK P t23 noLoops Tryz.f101 s_kit_IsKey := fun d => by kernel_rfl
theorem c_kit_IsKey : ∀ d r, F_kit_IsKey d = some r → ACallX P 101 (s_kit_IsKey.args0 d) (denH (s_kit_IsKey.H0 d)) (s_kit_IsKey.out r) (denH (s_kit_IsKey.H1 r)) := fun d r h => body_sound hm t23_ok (sp := s_kit_IsKey) Tryz.func101 (by kernel_rfl) (noLoops_ok _ _ _) b_kit_IsKey (by kernel_rfl) h
def t24 : Tab := t23.addP s_kit_IsKey
theorem t24_ok : TabOK P t24 := t23_ok.addP (by kernel_rfl) (by kernel_rfl) c_kit_IsKey

/- pileup/kit.IsName -/
def F_kit_IsName (d : List G) : Option (List G) :=
  (bif ((gi d 0).str.toList == (⟨#[]⟩ : ByteArray).toList) then some [.t true] else (callF (F_kit_IsKey [.s (gi d 0).str]) fun g1 => some [.t (gi g1 0).bool]))
def s_kit_IsName : FSpec := ⟨151, [.s (.str)], [], [], [.s (.bool)], [], [], [], F_kit_IsName⟩
theorem b_kit_IsName : BodyOK P t24 noLoops Tryz.f151 s_kit_IsName := fun d => by kernel_rfl
theorem c_kit_IsName : ∀ d r, F_kit_IsName d = some r → ACallX P 151 (s_kit_IsName.args0 d) (denH (s_kit_IsName.H0 d)) (s_kit_IsName.out r) (denH (s_kit_IsName.H1 r)) := fun d r h => body_sound hm t24_ok (sp := s_kit_IsName) Tryz.func151 (by kernel_rfl) (noLoops_ok _ _ _) b_kit_IsName (by kernel_rfl) h
def t25 : Tab := t24.addP s_kit_IsName
theorem t25_ok : TabOK P t25 := t24_ok.addP (by kernel_rfl) (by kernel_rfl) c_kit_IsName

/- pileup/kit.Outside -/
def F_kit_Outside (d : List G) : Option (List G) :=
  (bif (ltI (gi d 0).int (gi d 1).int) then some [.t true] else some [.t (ltI (gi d 2).int (gi d 0).int)])
def s_kit_Outside : FSpec := ⟨61, [.s (.int .i64), .s (.int .i64), .s (.int .i64)], [], [], [.s (.bool)], [], [], [], F_kit_Outside⟩
theorem b_kit_Outside : BodyOK P t25 noLoops Tryz.f61 s_kit_Outside := fun d => by kernel_rfl
theorem c_kit_Outside : ∀ d r, F_kit_Outside d = some r → ACallX P 61 (s_kit_Outside.args0 d) (denH (s_kit_Outside.H0 d)) (s_kit_Outside.out r) (denH (s_kit_Outside.H1 r)) := fun d r h => body_sound hm t25_ok (sp := s_kit_Outside) Tryz.func61 (by kernel_rfl) (noLoops_ok _ _ _) b_kit_Outside (by kernel_rfl) h
def t26 : Tab := t25.addP s_kit_Outside
theorem t26_ok : TabOK P t26 := t25_ok.addP (by kernel_rfl) (by kernel_rfl) c_kit_Outside

/- pileup/club.awardFault -/
def F_club_awardFault (d : List G) : Option (List G) :=
  (bif ((nnI (gi d 1).int) && (ltI (gi d 1).int (((gi d 0).rows.length : Nat) : Int))) then (callF (F_kit_IsKey [.s (gi ((gi d 0).rows.getD (((gi d 1).int).toNat) []) 0).str]) fun g1 => (bif (!(gi g1 0).bool) then some [.i 5] else (callF (F_kit_IsName [.s (gi ((gi d 0).rows.getD (((gi d 1).int).toNat) []) 1).str]) fun g2 => (bif (!(gi g2 0).bool) then some [.i 5] else (callF (F_kit_Outside [.i (gi ((gi d 0).rows.getD (((gi d 1).int).toNat) []) 2).int, .i 1, .i 4]) fun g3 => (bif (gi g3 0).bool then some [.i 4] else (callF (F_kit_Outside [.i (gi ((gi d 0).rows.getD (((gi d 1).int).toNat) []) 3).int, .i 1, .i 3000]) fun g4 => (bif (gi g4 0).bool then some [.i 1] else (bif (ltI 0 (gi d 1).int) then (bif (inI ((gi d 1).int - 1)) then (bif ((nnI ((gi d 1).int - 1)) && (ltI ((gi d 1).int - 1) (((gi d 0).rows.length : Nat) : Int))) then (bif ((Op.bytesLess (gi ((gi d 0).rows.getD (((gi d 1).int).toNat) []) 0).str.toList (gi ((gi d 0).rows.getD (((gi d 1).int - 1).toNat) []) 0).str.toList) || ((gi ((gi d 0).rows.getD (((gi d 1).int).toNat) []) 0).str.toList == (gi ((gi d 0).rows.getD (((gi d 1).int - 1).toNat) []) 0).str.toList)) then some [.i 7] else some [.i 0]) else none) else none) else some [.i 0]))))))))) else none)
def s_club_awardFault : FSpec := ⟨109, [.s (.list KAward), .s (.int .i64)], [], [], [.s (.int .i64)], [], [], [], F_club_awardFault⟩
theorem b_club_awardFault : BodyOK P t26 noLoops Tryz.f109 s_club_awardFault := fun d => by kernel_rfl
theorem c_club_awardFault : ∀ d r, F_club_awardFault d = some r → ACallX P 109 (s_club_awardFault.args0 d) (denH (s_club_awardFault.H0 d)) (s_club_awardFault.out r) (denH (s_club_awardFault.H1 r)) := fun d r h => body_sound hm t26_ok (sp := s_club_awardFault) Tryz.func109 (by kernel_rfl) (noLoops_ok _ _ _) b_club_awardFault (by kernel_rfl) h
def t27 : Tab := t26.addP s_club_awardFault
theorem t27_ok : TabOK P t27 := t26_ok.addP (by kernel_rfl) (by kernel_rfl) c_club_awardFault

/- pileup/club.CheckAwards -/
def st_club_CheckAwards_4 (d : List G) : Option (Option Nat × List G) :=
  (bif (ltI (gi d 2).int (gi d 1).int) then (callF (F_club_awardFault [.l (gi d 0).rows, .i (gi d 2).int]) fun g1 => (bif ((gi g1 0).int != 0) then some (some 0, [.i (gi g1 0).int]) else (bif (inI ((gi d 2).int + 1)) then some (none, [.l (gi d 0).rows, .i (gi d 1).int, .i ((gi d 2).int + 1)]) else none))) else some (some 1, []))
def l_club_CheckAwards_4 : LSpec := ⟨4, [], ⟨20, [(0, .s (.list KAward)), (9, .s (.int .i64)), (10, .s (.int .i64))], []⟩, [], [⟨.ret, ⟨20, [(2, .s (.int .i64))], []⟩, []⟩, ⟨.exit 0, ⟨20, [], []⟩, []⟩], st_club_CheckAwards_4⟩
theorem r_club_CheckAwards_4 : RoundOK P t27 noLoops 0 (loopAt Tryz.f48 4) l_club_CheckAwards_4 := fun d => by kernel_rfl
def L_club_CheckAwards_4 : LT := noLoops.add 0 l_club_CheckAwards_4
theorem L_club_CheckAwards_4_ok : LoopsOK P 0 L_club_CheckAwards_4 (bodyOf Tryz.f48) := LoopsOK.add hm t27_ok (by kernel_rfl) (noLoops_ok _ _ _) r_club_CheckAwards_4
def F_club_CheckAwards (d : List G) : Option (List G) :=
  (bif (ltI 50 (((gi d 0).rows.length : Nat) : Int)) then some [.i 2] else (loopB true (LRun st_club_CheckAwards_4 [.l (gi d 0).rows, .i (((gi d 0).rows.length : Nat) : Int), .i 0]) fun cg2 g2 => (bif Nat.beq cg2 0 then some [.i (gi g2 0).int] else some [.i 0])))
def s_club_CheckAwards : FSpec := ⟨48, [.s (.list KAward)], [], [], [.s (.int .i64)], [], [], [], F_club_CheckAwards⟩
theorem b_club_CheckAwards : BodyOK P t27 L_club_CheckAwards_4 Tryz.f48 s_club_CheckAwards := fun d => by kernel_rfl
theorem c_club_CheckAwards : ∀ d r, F_club_CheckAwards d = some r → ACallX P 48 (s_club_CheckAwards.args0 d) (denH (s_club_CheckAwards.H0 d)) (s_club_CheckAwards.out r) (denH (s_club_CheckAwards.H1 r)) := fun d r h => body_sound hm t27_ok (sp := s_club_CheckAwards) Tryz.func48 (by kernel_rfl) L_club_CheckAwards_4_ok b_club_CheckAwards (by kernel_rfl) h
def t28 : Tab := t27.addP s_club_CheckAwards
theorem t28_ok : TabOK P t28 := t27_ok.addP (by kernel_rfl) (by kernel_rfl) c_club_CheckAwards

/- pileup/kit.IsMoment -/
def F_kit_IsMoment (d : List G) : Option (List G) :=
  (callF (F_kit_Outside [.i (gi d 0).int, .i 0, .i 345686399999]) fun g1 => some [.t (!(gi g1 0).bool)])
def s_kit_IsMoment : FSpec := ⟨98, [.s (.int .i64)], [], [], [.s (.bool)], [], [], [], F_kit_IsMoment⟩
theorem b_kit_IsMoment : BodyOK P t28 noLoops Tryz.f98 s_kit_IsMoment := fun d => by kernel_rfl
theorem c_kit_IsMoment : ∀ d r, F_kit_IsMoment d = some r → ACallX P 98 (s_kit_IsMoment.args0 d) (denH (s_kit_IsMoment.H0 d)) (s_kit_IsMoment.out r) (denH (s_kit_IsMoment.H1 r)) := fun d r h => body_sound hm t28_ok (sp := s_kit_IsMoment) Tryz.func98 (by kernel_rfl) (noLoops_ok _ _ _) b_kit_IsMoment (by kernel_rfl) h
def t29 : Tab := t28.addP s_kit_IsMoment
theorem t29_ok : TabOK P t29 := t28_ok.addP (by kernel_rfl) (by kernel_rfl) c_kit_IsMoment

/- pileup/kit.IsMode -/
def F_kit_IsMode (d : List G) : Option (List G) :=
  (callF (F_kit_Outside [.i (gi d 0).int, .i 1, .i 3]) fun g1 => some [.t (!(gi g1 0).bool)])
def s_kit_IsMode : FSpec := ⟨99, [.s (.int .i64)], [], [], [.s (.bool)], [], [], [], F_kit_IsMode⟩
theorem b_kit_IsMode : BodyOK P t29 noLoops Tryz.f99 s_kit_IsMode := fun d => by kernel_rfl
theorem c_kit_IsMode : ∀ d r, F_kit_IsMode d = some r → ACallX P 99 (s_kit_IsMode.args0 d) (denH (s_kit_IsMode.H0 d)) (s_kit_IsMode.out r) (denH (s_kit_IsMode.H1 r)) := fun d r h => body_sound hm t29_ok (sp := s_kit_IsMode) Tryz.func99 (by kernel_rfl) (noLoops_ok _ _ _) b_kit_IsMode (by kernel_rfl) h
def t30 : Tab := t29.addP s_kit_IsMode
theorem t30_ok : TabOK P t30 := t29_ok.addP (by kernel_rfl) (by kernel_rfl) c_kit_IsMode

/- pileup/call.Is -/
def F_call_Is (d : List G) : Option (List G) :=
  (callF (F_call_Parts [.s (gi d 0).str]) fun g1 => some [.t (gi g1 1).bool])
def s_call_Is : FSpec := ⟨100, [.s (.str)], [], [], [.s (.bool)], [], [], [], F_call_Is⟩
theorem b_call_Is : BodyOK P t30 noLoops Tryz.f100 s_call_Is := fun d => by kernel_rfl
theorem c_call_Is : ∀ d r, F_call_Is d = some r → ACallX P 100 (s_call_Is.args0 d) (denH (s_call_Is.H0 d)) (s_call_Is.out r) (denH (s_call_Is.H1 r)) := fun d r h => body_sound hm t30_ok (sp := s_call_Is) Tryz.func100 (by kernel_rfl) (noLoops_ok _ _ _) b_call_Is (by kernel_rfl) h
def t31 : Tab := t30.addP s_call_Is
theorem t31_ok : TabOK P t31 := t30_ok.addP (by kernel_rfl) (by kernel_rfl) c_call_Is

/- cmp.isNaN[int] -/
def F_cmp_isNaN_int (d : List G) : Option (List G) :=
  some [.t ((gi d 0).int != (gi d 0).int)]
def s_cmp_isNaN_int : FSpec := ⟨154, [.s (.int .i64)], [], [], [.s (.bool)], [], [], [], F_cmp_isNaN_int⟩
theorem b_cmp_isNaN_int : BodyOK P t31 noLoops Tryz.f154 s_cmp_isNaN_int := fun d => by kernel_rfl
theorem c_cmp_isNaN_int : ∀ d r, F_cmp_isNaN_int d = some r → ACallX P 154 (s_cmp_isNaN_int.args0 d) (denH (s_cmp_isNaN_int.H0 d)) (s_cmp_isNaN_int.out r) (denH (s_cmp_isNaN_int.H1 r)) := fun d r h => body_sound hm t31_ok (sp := s_cmp_isNaN_int) Tryz.func154 (by kernel_rfl) (noLoops_ok _ _ _) b_cmp_isNaN_int (by kernel_rfl) h
def t32 : Tab := t31.addP s_cmp_isNaN_int
theorem t32_ok : TabOK P t32 := t31_ok.addP (by kernel_rfl) (by kernel_rfl) c_cmp_isNaN_int

/- cmp.Compare[int] -/
def F_cmp_Compare_int (d : List G) : Option (List G) :=
  (callF (F_cmp_isNaN_int [.i (gi d 0).int]) fun g1 => (callF (F_cmp_isNaN_int [.i (gi d 1).int]) fun g2 => (bif (gi g1 0).bool then (bif (gi g2 0).bool then some [.i 0] else some [.i (-1)]) else (bif (gi g2 0).bool then some [.i 1] else (bif (ltI (gi d 0).int (gi d 1).int) then some [.i (-1)] else (bif (ltI (gi d 1).int (gi d 0).int) then some [.i 1] else some [.i 0]))))))
def s_cmp_Compare_int : FSpec := ⟨117, [.s (.int .i64), .s (.int .i64)], [], [], [.s (.int .i64)], [], [], [], F_cmp_Compare_int⟩
theorem b_cmp_Compare_int : BodyOK P t32 noLoops Tryz.f117 s_cmp_Compare_int := fun d => by kernel_rfl
theorem c_cmp_Compare_int : ∀ d r, F_cmp_Compare_int d = some r → ACallX P 117 (s_cmp_Compare_int.args0 d) (denH (s_cmp_Compare_int.H0 d)) (s_cmp_Compare_int.out r) (denH (s_cmp_Compare_int.H1 r)) := fun d r h => body_sound hm t32_ok (sp := s_cmp_Compare_int) Tryz.func117 (by kernel_rfl) (noLoops_ok _ _ _) b_cmp_Compare_int (by kernel_rfl) h
def t33 : Tab := t32.addP s_cmp_Compare_int
theorem t33_ok : TabOK P t33 := t32_ok.addP (by kernel_rfl) (by kernel_rfl) c_cmp_Compare_int

/- cmp.Or[int] -/
def st_cmp_Or_int_3 (d : List G) : Option (Option Nat × List G) :=
  (bif (ltI (gi d 3).int (gi d 2).int) then (bif ((nnI (gi d 3).int) && (ltI (gi d 3).int (((gi d 1).rows.length : Nat) : Int))) then (bif ((gi ((gi d 1).rows.getD (((gi d 3).int).toNat) []) 0).int != (gi d 0).int) then some (some 0, [.i (gi ((gi d 1).rows.getD (((gi d 3).int).toNat) []) 0).int]) else (bif (inI ((gi d 3).int + 1)) then some (none, [.i (gi d 0).int, .l (gi d 1).rows, .i (gi d 2).int, .i ((gi d 3).int + 1)]) else none)) else none) else some (some 1, [.i (gi d 0).int]))
def l_cmp_Or_int_3 : LSpec := ⟨3, [], ⟨18, [(3, .s (.int .i64)), (6, .s (.list [.int .i64])), (7, .s (.int .i64)), (8, .s (.int .i64))], []⟩, [], [⟨.ret, ⟨18, [(2, .s (.int .i64))], []⟩, []⟩, ⟨.exit 0, ⟨18, [(3, .s (.int .i64))], []⟩, []⟩], st_cmp_Or_int_3⟩
theorem r_cmp_Or_int_3 : RoundOK P t33 noLoops 0 (loopAt Tryz.f86 3) l_cmp_Or_int_3 := fun d => by kernel_rfl
def L_cmp_Or_int_3 : LT := noLoops.add 0 l_cmp_Or_int_3
theorem L_cmp_Or_int_3_ok : LoopsOK P 0 L_cmp_Or_int_3 (bodyOf Tryz.f86) := LoopsOK.add hm t33_ok (by kernel_rfl) (noLoops_ok _ _ _) r_cmp_Or_int_3
def F_cmp_Or_int (d : List G) : Option (List G) :=
  (loopB true (LRun st_cmp_Or_int_3 [.i 0, .l (gi d 0).rows, .i (((gi d 0).rows.length : Nat) : Int), .i 0]) fun cg1 g1 => (bif Nat.beq cg1 0 then some [.i (gi g1 0).int] else some [.i (gi g1 0).int]))
def s_cmp_Or_int : FSpec := ⟨86, [.s (.list [.int .i64])], [], [], [.s (.int .i64)], [], [], [], F_cmp_Or_int⟩
theorem b_cmp_Or_int : BodyOK P t33 L_cmp_Or_int_3 Tryz.f86 s_cmp_Or_int := fun d => by kernel_rfl
theorem c_cmp_Or_int : ∀ d r, F_cmp_Or_int d = some r → ACallX P 86 (s_cmp_Or_int.args0 d) (denH (s_cmp_Or_int.H0 d)) (s_cmp_Or_int.out r) (denH (s_cmp_Or_int.H1 r)) := fun d r h => body_sound hm t33_ok (sp := s_cmp_Or_int) Tryz.func86 (by kernel_rfl) L_cmp_Or_int_3_ok b_cmp_Or_int (by kernel_rfl) h
def t34 : Tab := t33.addP s_cmp_Or_int
theorem t34_ok : TabOK P t34 := t33_ok.addP (by kernel_rfl) (by kernel_rfl) c_cmp_Or_int

/- pileup/club.compareCards -/
def F_club_compareCards (d : List G) : Option (List G) :=
  (callF (F_cmp_Compare_int [.i (gi (gi d 0).row 0).int, .i (gi (gi d 1).row 0).int]) fun g1 => (callF (F_strings_Compare [.s (gi (gi d 0).row 3).str, .s (gi (gi d 1).row 3).str]) fun g2 => (callF (F_strings_Compare [.s (gi (gi d 0).row 4).str, .s (gi (gi d 1).row 4).str]) fun g3 => (callF (F_cmp_Compare_int [.i (gi (gi d 0).row 2).int, .i (gi (gi d 1).row 2).int]) fun g4 => (callF (F_cmp_Compare_int [.i (gi (gi d 0).row 1).int, .i (gi (gi d 1).row 1).int]) fun g5 => (callF (F_cmp_Or_int [.l [[.i (gi g1 0).int], [.i (gi g2 0).int], [.i (gi g3 0).int], [.i (gi g4 0).int], [.i (gi g5 0).int]]]) fun g6 => some [.i (gi g6 0).int]))))))
def s_club_compareCards : FSpec := ⟨79, [.s (.row KCard), .s (.row KCard)], [], [], [.s (.int .i64)], [], [], [], F_club_compareCards⟩
theorem b_club_compareCards : BodyOK P t34 noLoops Tryz.f79 s_club_compareCards := fun d => by kernel_rfl
theorem c_club_compareCards : ∀ d r, F_club_compareCards d = some r → ACallX P 79 (s_club_compareCards.args0 d) (denH (s_club_compareCards.H0 d)) (s_club_compareCards.out r) (denH (s_club_compareCards.H1 r)) := fun d r h => body_sound hm t34_ok (sp := s_club_compareCards) Tryz.func79 (by kernel_rfl) (noLoops_ok _ _ _) b_club_compareCards (by kernel_rfl) h
def t35 : Tab := t34.addP s_club_compareCards
theorem t35_ok : TabOK P t35 := t34_ok.addP (by kernel_rfl) (by kernel_rfl) c_club_compareCards

/- pileup/club.CheckCards -/
def st_club_CheckCards_4 (d : List G) : Option (Option Nat × List G) :=
  (bif (ltI (gi d 3).int (gi d 2).int) then (bif ((nnI (gi d 3).int) && (ltI (gi d 3).int (((gi d 1).rows.length : Nat) : Int))) then (callF (F_kit_IsMoment [.i (gi ((gi d 1).rows.getD (((gi d 3).int).toNat) []) 0).int]) fun g1 => (bif (!(gi g1 0).bool) then some (some 0, [.i 1]) else (callF (F_kit_Outside [.i (gi ((gi d 1).rows.getD (((gi d 3).int).toNat) []) 1).int, .i 1, .i 3]) fun g2 => (bif (gi g2 0).bool then some (some 0, [.i 4]) else (callF (F_kit_IsMode [.i (gi ((gi d 1).rows.getD (((gi d 3).int).toNat) []) 2).int]) fun g3 => (bif (!(gi g3 0).bool) then some (some 0, [.i 4]) else (callF (F_call_Is [.s (gi ((gi d 1).rows.getD (((gi d 3).int).toNat) []) 3).str]) fun g4 => (bif (!(gi g4 0).bool) then some (some 0, [.i 3]) else (callF (F_kit_IsKey [.s (gi ((gi d 1).rows.getD (((gi d 3).int).toNat) []) 4).str]) fun g5 => (bif (!(gi g5 0).bool) then some (some 0, [.i 5]) else (bif (ltI 0 (gi d 3).int) then (bif (inI ((gi d 3).int - 1)) then (bif ((nnI ((gi d 3).int - 1)) && (ltI ((gi d 3).int - 1) (((gi d 0).rows.length : Nat) : Int))) then (callF (F_club_compareCards [.l [(gEta KCard ((gi d 0).rows.getD (((gi d 3).int - 1).toNat) []))], .l [(gEta KCard ((gi d 1).rows.getD (((gi d 3).int).toNat) []))]]) fun g6 => (bif (leI 0 (gi g6 0).int) then some (some 0, [.i 7]) else (bif (inI ((gi d 3).int + 1)) then some (none, [.l (gi d 0).rows, .l (gi d 1).rows, .i (gi d 2).int, .i ((gi d 3).int + 1)]) else none))) else none) else none) else (bif (inI ((gi d 3).int + 1)) then some (none, [.l (gi d 0).rows, .l (gi d 1).rows, .i (gi d 2).int, .i ((gi d 3).int + 1)]) else none)))))))))))) else none) else some (some 1, []))
def l_club_CheckCards_4 : LSpec := ⟨4, [], ⟨54, [(0, .s (.list KCard)), (8, .s (.list KCard)), (9, .s (.int .i64)), (10, .s (.int .i64))], []⟩, [], [⟨.ret, ⟨54, [(2, .s (.int .i64))], []⟩, []⟩, ⟨.exit 0, ⟨54, [], []⟩, []⟩], st_club_CheckCards_4⟩
theorem r_club_CheckCards_4 : RoundOK P t35 noLoops 0 (loopAt Tryz.f30 4) l_club_CheckCards_4 := fun d => by kernel_rfl
def L_club_CheckCards_4 : LT := noLoops.add 0 l_club_CheckCards_4
theorem L_club_CheckCards_4_ok : LoopsOK P 0 L_club_CheckCards_4 (bodyOf Tryz.f30) := LoopsOK.add hm t35_ok (by kernel_rfl) (noLoops_ok _ _ _) r_club_CheckCards_4
def F_club_CheckCards (d : List G) : Option (List G) :=
  (bif (ltI 3000 (((gi d 0).rows.length : Nat) : Int)) then some [.i 2] else (loopB true (LRun st_club_CheckCards_4 [.l (gi d 0).rows, .l (gi d 0).rows, .i (((gi d 0).rows.length : Nat) : Int), .i 0]) fun cg7 g7 => (bif Nat.beq cg7 0 then some [.i (gi g7 0).int] else some [.i 0])))
def s_club_CheckCards : FSpec := ⟨30, [.s (.list KCard)], [], [], [.s (.int .i64)], [], [], [], F_club_CheckCards⟩
theorem b_club_CheckCards : BodyOK P t35 L_club_CheckCards_4 Tryz.f30 s_club_CheckCards := fun d => by kernel_rfl
theorem c_club_CheckCards : ∀ d r, F_club_CheckCards d = some r → ACallX P 30 (s_club_CheckCards.args0 d) (denH (s_club_CheckCards.H0 d)) (s_club_CheckCards.out r) (denH (s_club_CheckCards.H1 r)) := fun d r h => body_sound hm t35_ok (sp := s_club_CheckCards) Tryz.func30 (by kernel_rfl) L_club_CheckCards_4_ok b_club_CheckCards (by kernel_rfl) h
def t36 : Tab := t35.addP s_club_CheckCards
theorem t36_ok : TabOK P t36 := t35_ok.addP (by kernel_rfl) (by kernel_rfl) c_club_CheckCards

/- pileup/club.cardsFault -/
def F_club_cardsFault (d : List G) : Option (List G) :=
  (callF (F_club_CheckCards [.l (gi d 0).rows]) fun g1 => (bif ((gi g1 0).int != 0) then some [.i (gi g1 0).int] else (callF (F_kit_IsMoment [.i (gi d 1).int]) fun g2 => (bif (!(gi g2 0).bool) then some [.i 1] else some [.i 0]))))
def s_club_cardsFault : FSpec := ⟨80, [.s (.list KCard), .s (.int .i64)], [], [], [.s (.int .i64)], [], [], [], F_club_cardsFault⟩
theorem b_club_cardsFault : BodyOK P t36 noLoops Tryz.f80 s_club_cardsFault := fun d => by kernel_rfl
theorem c_club_cardsFault : ∀ d r, F_club_cardsFault d = some r → ACallX P 80 (s_club_cardsFault.args0 d) (denH (s_club_cardsFault.H0 d)) (s_club_cardsFault.out r) (denH (s_club_cardsFault.H1 r)) := fun d r h => body_sound hm t36_ok (sp := s_club_cardsFault) Tryz.func80 (by kernel_rfl) (noLoops_ok _ _ _) b_club_cardsFault (by kernel_rfl) h
def t37 : Tab := t36.addP s_club_cardsFault
theorem t37_ok : TabOK P t37 := t36_ok.addP (by kernel_rfl) (by kernel_rfl) c_club_cardsFault

/- pileup/call.BaseOf -/
def F_call_BaseOf (d : List G) : Option (List G) :=
  (callF (F_call_Parts [.s (gi d 0).str]) fun g1 => some [.s (gi (gi g1 0).row 0).str])
def s_call_BaseOf : FSpec := ⟨136, [.s (.str)], [], [], [.s (.str)], [], [], [], F_call_BaseOf⟩
theorem b_call_BaseOf : BodyOK P t37 noLoops Tryz.f136 s_call_BaseOf := fun d => by kernel_rfl
theorem c_call_BaseOf : ∀ d r, F_call_BaseOf d = some r → ACallX P 136 (s_call_BaseOf.args0 d) (denH (s_call_BaseOf.H0 d)) (s_call_BaseOf.out r) (denH (s_call_BaseOf.H1 r)) := fun d r h => body_sound hm t37_ok (sp := s_call_BaseOf) Tryz.func136 (by kernel_rfl) (noLoops_ok _ _ _) b_call_BaseOf (by kernel_rfl) h
def t38 : Tab := t37.addP s_call_BaseOf
theorem t38_ok : TabOK P t38 := t37_ok.addP (by kernel_rfl) (by kernel_rfl) c_call_BaseOf

/- pileup/club.contactOf -/
def F_club_contactOf (d : List G) : Option (List G) :=
  (callF (F_call_BaseOf [.s (gi (gi d 0).row 3).str]) fun g1 => some [.l [[.s (gi g1 0).str, .s (gi (gi d 0).row 4).str, .i (gi (gi d 0).row 2).int]]])
def s_club_contactOf : FSpec := ⟨82, [.s (.row KCard)], [], [], [.s (.row [.str, .str, .int .i64])], [], [], [], F_club_contactOf⟩
theorem b_club_contactOf : BodyOK P t38 noLoops Tryz.f82 s_club_contactOf := fun d => by kernel_rfl
theorem c_club_contactOf : ∀ d r, F_club_contactOf d = some r → ACallX P 82 (s_club_contactOf.args0 d) (denH (s_club_contactOf.H0 d)) (s_club_contactOf.out r) (denH (s_club_contactOf.H1 r)) := fun d r h => body_sound hm t38_ok (sp := s_club_contactOf) Tryz.func82 (by kernel_rfl) (noLoops_ok _ _ _) b_club_contactOf (by kernel_rfl) h
def t39 : Tab := t38.addP s_club_contactOf
theorem t39_ok : TabOK P t39 := t38_ok.addP (by kernel_rfl) (by kernel_rfl) c_club_contactOf

/- pileup/club.confirmed -/
def st_club_confirmed_4 (d : List G) : Option (Option Nat × List G) :=
  (bif (ltI (gi d 6).int (gi d 5).int) then (bif ((nnI (gi d 6).int) && (ltI (gi d 6).int (((gi d 4).rows.length : Nat) : Int))) then (callF (F_club_contactOf [.l [(gEta KCard ((gi d 4).rows.getD (((gi d 6).int).toNat) []))]]) fun g1 => (bif (leI (gi ((gi d 4).rows.getD (((gi d 6).int).toNat) []) 0).int (gi d 3).int) then (bif ((gi ((gi d 4).rows.getD (((gi d 6).int).toNat) []) 1).int == 2) then (bif (!(gi (mget [.str, .str, .int .i64] (gi d 0).rows (gEta [.str, .str, .int .i64] (gi g1 0).row) [.t false]) 0).bool) then (bif ((Nat.beq (gi d 2).rows.length (gi d 2).rows.length) && (decide (((gi d 2).rows.length + 1) ≤ 1048576))) then (bif (inI ((gi d 6).int + 1)) then (bif ((Nat.beq ((gi d 2).rows ++ ([(gEta KCard ((gi d 4).rows.getD (((gi d 6).int).toNat) []))] : List (List G))).length ((gi d 2).rows ++ ([(gEta KCard ((gi d 4).rows.getD (((gi d 6).int).toNat) []))] : List (List G))).length) && true) then some (none, [.l (mput [.str, .str, .int .i64] (gi d 0).rows (gEta [.str, .str, .int .i64] (gi g1 0).row) [.t true] (gi d 1).int.toNat), .i (((mclk [.str, .str, .int .i64] (gi d 0).rows (gEta [.str, .str, .int .i64] (gi g1 0).row) (gi d 1).int.toNat) : Nat) : Int), .l ((gi d 2).rows ++ ([(gEta KCard ((gi d 4).rows.getD (((gi d 6).int).toNat) []))] : List (List G))), .i (gi d 3).int, .l (gi d 4).rows, .i (gi d 5).int, .i ((gi d 6).int + 1)]) else none) else none) else none) else (bif (inI ((gi d 6).int + 1)) then (bif ((Nat.beq (gi d 2).rows.length (gi d 2).rows.length) && true) then some (none, [.l (gi d 0).rows, .i (((gi d 1).int.toNat : Nat) : Int), .l (gi d 2).rows, .i (gi d 3).int, .l (gi d 4).rows, .i (gi d 5).int, .i ((gi d 6).int + 1)]) else none) else none)) else (bif (inI ((gi d 6).int + 1)) then (bif ((Nat.beq (gi d 2).rows.length (gi d 2).rows.length) && true) then some (none, [.l (gi d 0).rows, .i (((gi d 1).int.toNat : Nat) : Int), .l (gi d 2).rows, .i (gi d 3).int, .l (gi d 4).rows, .i (gi d 5).int, .i ((gi d 6).int + 1)]) else none) else none)) else (bif (inI ((gi d 6).int + 1)) then (bif ((Nat.beq (gi d 2).rows.length (gi d 2).rows.length) && true) then some (none, [.l (gi d 0).rows, .i (((gi d 1).int.toNat : Nat) : Int), .l (gi d 2).rows, .i (gi d 3).int, .l (gi d 4).rows, .i (gi d 5).int, .i ((gi d 6).int + 1)]) else none) else none))) else none) else (bif ((Nat.beq (gi d 2).rows.length (gi d 2).rows.length) && true) then some (some 0, [.l (gi d 2).rows]) else none))
def l_club_confirmed_4 : LSpec := ⟨4, [(6, KCard)], ⟨42, [(1, .s (.int .i64)), (5, .s (.map 0)), (6, .s (.vec 1 5)), (11, .s (.list KCard)), (12, .s (.int .i64)), (13, .s (.int .i64))], [.map (.agg [.str, .str, .int .i64]) (.one (.bool)), .vec KCard 0]⟩, [.slot 5, .slot 6], [⟨.exit 0, ⟨42, [(6, .s (.vec 0 5))], [.vec KCard 0]⟩, [.slot 6]⟩], st_club_confirmed_4⟩
theorem r_club_confirmed_4 : RoundOK P t39 noLoops 0 (loopAt Tryz.f81 4) l_club_confirmed_4 := fun d => by kernel_rfl
def L_club_confirmed_4 : LT := noLoops.add 0 l_club_confirmed_4
theorem L_club_confirmed_4_ok : LoopsOK P 0 L_club_confirmed_4 (bodyOf Tryz.f81) := LoopsOK.add hm t39_ok (by kernel_rfl) (noLoops_ok _ _ _) r_club_confirmed_4
def F_club_confirmed (d : List G) : Option (List G) :=
  (loopB true (LRun st_club_confirmed_4 [.l [], .i 0, .l [], .i (gi d 1).int, .l (gi d 0).rows, .i (((gi d 0).rows.length : Nat) : Int), .i 0]) fun cg2 g2 => (bif ((Nat.beq (gi g2 0).rows.length (gi g2 0).rows.length) && true) then some [.l (gi g2 0).rows] else none))
def s_club_confirmed : FSpec := ⟨81, [.s (.list KCard), .s (.int .i64)], [], [], [.s (.list KCard)], [], [], [], F_club_confirmed⟩
theorem b_club_confirmed : BodyOK P t39 L_club_confirmed_4 Tryz.f81 s_club_confirmed := fun d => by kernel_rfl
theorem c_club_confirmed : ∀ d r, F_club_confirmed d = some r → ACallX P 81 (s_club_confirmed.args0 d) (denH (s_club_confirmed.H0 d)) (s_club_confirmed.out r) (denH (s_club_confirmed.H1 r)) := fun d r h => body_sound hm t39_ok (sp := s_club_confirmed) Tryz.func81 (by kernel_rfl) L_club_confirmed_4_ok b_club_confirmed (by kernel_rfl) h
def t40 : Tab := t39.addP s_club_confirmed
theorem t40_ok : TabOK P t40 := t39_ok.addP (by kernel_rfl) (by kernel_rfl) c_club_confirmed

/- pileup/club.counted -/
def F_club_counted (d : List G) : Option (List G) :=
  (bif ((gi (gi d 0).row 2).int == 1) then (bif ((gi (gi d 0).row 2).int == 1) then some [.l [[.s (gi (gi d 1).row 0).str, .s (⟨#[]⟩ : ByteArray), .i 0]]] else (bif ((gi (gi d 0).row 2).int == 2) then some [.l [[.s (gi (gi d 1).row 0).str, .s (⟨#[]⟩ : ByteArray), .i 0]]] else some [.l [[.s (gi (gi d 1).row 0).str, .s (⟨#[]⟩ : ByteArray), .i (gi (gi d 1).row 2).int]]])) else (bif ((gi (gi d 0).row 2).int == 3) then (bif ((gi (gi d 0).row 2).int == 1) then some [.l [[.s (gi (gi d 1).row 0).str, .s (⟨#[]⟩ : ByteArray), .i 0]]] else (bif ((gi (gi d 0).row 2).int == 2) then some [.l [[.s (gi (gi d 1).row 0).str, .s (⟨#[]⟩ : ByteArray), .i 0]]] else some [.l [[.s (gi (gi d 1).row 0).str, .s (⟨#[]⟩ : ByteArray), .i (gi (gi d 1).row 2).int]]])) else (bif ((gi (gi d 0).row 2).int == 1) then some [.l [[.s (gi (gi d 1).row 0).str, .s (gi (gi d 1).row 1).str, .i 0]]] else (bif ((gi (gi d 0).row 2).int == 2) then some [.l [[.s (gi (gi d 1).row 0).str, .s (gi (gi d 1).row 1).str, .i 0]]] else some [.l [(gEta [.str, .str, .int .i64] (gi d 1).row)]]))))
def s_club_counted : FSpec := ⟨149, [.s (.row KAward), .s (.row [.str, .str, .int .i64])], [], [], [.s (.row [.str, .str, .int .i64])], [], [], [], F_club_counted⟩
theorem b_club_counted : BodyOK P t40 noLoops Tryz.f149 s_club_counted := fun d => by kernel_rfl
theorem c_club_counted : ∀ d r, F_club_counted d = some r → ACallX P 149 (s_club_counted.args0 d) (denH (s_club_counted.H0 d)) (s_club_counted.out r) (denH (s_club_counted.H1 r)) := fun d r h => body_sound hm t40_ok (sp := s_club_counted) Tryz.func149 (by kernel_rfl) (noLoops_ok _ _ _) b_club_counted (by kernel_rfl) h
def t41 : Tab := t40.addP s_club_counted
theorem t41_ok : TabOK P t41 := t40_ok.addP (by kernel_rfl) (by kernel_rfl) c_club_counted

/- pileup/club.reached -/
def tl_club_reached_7 (d : List G) : Option (Option Nat × List G) :=
  (callF (F_club_contactOf [.l [[.i (gi d 6).int, .i (gi d 7).int, .i (gi d 8).int, .s (gi d 9).str, .s (gi d 10).str]]]) fun g1 => (callF (F_club_counted [.l [(gEta KAward d)], .l [(gEta [.str, .str, .int .i64] (gi g1 0).row)]]) fun g2 => (bif (leI (gi d 3).int (((mput [.str, .str, .int .i64] (gi d 4).rows (gEta [.str, .str, .int .i64] (gi g2 0).row) [.t true] (gi d 5).int.toNat).length : Nat) : Int)) then (bif (ltI (gi d 11).int 0) then some (some 0, [.s (gi d 0).str, .s (gi d 1).str, .i (gi d 2).int, .i (gi d 3).int, .l (mput [.str, .str, .int .i64] (gi d 4).rows (gEta [.str, .str, .int .i64] (gi g2 0).row) [.t true] (gi d 5).int.toNat), .i (((mclk [.str, .str, .int .i64] (gi d 4).rows (gEta [.str, .str, .int .i64] (gi g2 0).row) (gi d 5).int.toNat) : Nat) : Int), .i (gi d 6).int, .l (gi d 12).rows, .i (gi d 13).int, .i (gi d 14).int]) else some (some 0, [.s (gi d 0).str, .s (gi d 1).str, .i (gi d 2).int, .i (gi d 3).int, .l (mput [.str, .str, .int .i64] (gi d 4).rows (gEta [.str, .str, .int .i64] (gi g2 0).row) [.t true] (gi d 5).int.toNat), .i (((mclk [.str, .str, .int .i64] (gi d 4).rows (gEta [.str, .str, .int .i64] (gi g2 0).row) (gi d 5).int.toNat) : Nat) : Int), .i (gi d 11).int, .l (gi d 12).rows, .i (gi d 13).int, .i (gi d 14).int])) else some (some 0, [.s (gi d 0).str, .s (gi d 1).str, .i (gi d 2).int, .i (gi d 3).int, .l (mput [.str, .str, .int .i64] (gi d 4).rows (gEta [.str, .str, .int .i64] (gi g2 0).row) [.t true] (gi d 5).int.toNat), .i (((mclk [.str, .str, .int .i64] (gi d 4).rows (gEta [.str, .str, .int .i64] (gi g2 0).row) (gi d 5).int.toNat) : Nat) : Int), .i (gi d 11).int, .l (gi d 12).rows, .i (gi d 13).int, .i (gi d 14).int]))))
def l_club_reached_7c : LSpec := ⟨7, [], ⟨46, [(2, .s (.ptr 0 0)), (5, .s (.int .i64)), (6, .s (.map 1)), (8, .s (.ptr 2 0)), (10, .s (.list KCard)), (11, .s (.int .i64)), (12, .s (.int .i64))], [.box [.str, .str, .int .i64, .int .i64], .map (.agg [.str, .str, .int .i64]) (.one (.bool)), .box [.int .i64, .int .i64, .int .i64, .str, .str]]⟩, [.slot 2, .slot 6, .slot 8], [⟨.normal, ⟨46, [(2, .s (.ptr 0 0)), (5, .s (.int .i64)), (6, .s (.map 1)), (10, .s (.list KCard)), (11, .s (.int .i64)), (12, .s (.int .i64))], [.box [.str, .str, .int .i64, .int .i64], .map (.agg [.str, .str, .int .i64]) (.one (.bool))]⟩, [.slot 2, .slot 6]⟩], tl_club_reached_7⟩
theorem r_club_reached_7c : CutOK P t41 noLoops 0 (cutAt Tryz.f106 7) l_club_reached_7c := fun d => by kernel_rfl
def L_club_reached_7c : LT := noLoops.addCut 0 l_club_reached_7c
theorem L_club_reached_7c_ok : LoopsOK P 0 L_club_reached_7c (bodyOf Tryz.f106) := LoopsOK.addCut hm t41_ok (by kernel_rfl) (noLoops_ok _ _ _) r_club_reached_7c
def st_club_reached_4 (d : List G) : Option (Option Nat × List G) :=
  (bif (ltI (gi d 9).int (gi d 8).int) then (bif ((nnI (gi d 9).int) && (ltI (gi d 9).int (((gi d 7).rows.length : Nat) : Int))) then (bif (!((gi d 1).str.toList == (⟨#[]⟩ : ByteArray).toList)) then (bif (!((gi ((gi d 7).rows.getD (((gi d 9).int).toNat) []) 4).str.toList == (gi d 1).str.toList)) then (bif (inI ((gi d 9).int + 1)) then some (none, [.s (gi d 0).str, .s (gi d 1).str, .i (gi d 2).int, .i (gi d 3).int, .l (gi d 4).rows, .i (((gi d 5).int.toNat : Nat) : Int), .i (gi d 6).int, .l (gi d 7).rows, .i (gi d 8).int, .i ((gi d 9).int + 1)]) else none) else (loopB true (cutR (tl_club_reached_7 [.s (gi d 0).str, .s (gi d 1).str, .i (gi d 2).int, .i (gi d 3).int, .l (gi d 4).rows, .i (((gi d 5).int.toNat : Nat) : Int), .i (gi ((gi d 7).rows.getD (((gi d 9).int).toNat) []) 0).int, .i (gi ((gi d 7).rows.getD (((gi d 9).int).toNat) []) 1).int, .i (gi ((gi d 7).rows.getD (((gi d 9).int).toNat) []) 2).int, .s (gi ((gi d 7).rows.getD (((gi d 9).int).toNat) []) 3).str, .s (gi ((gi d 7).rows.getD (((gi d 9).int).toNat) []) 4).str, .i (gi d 6).int, .l (gi d 7).rows, .i (gi d 8).int, .i (gi d 9).int])) fun cg3 g3 => (bif (inI ((gi g3 9).int + 1)) then some (none, [.s (gi g3 0).str, .s (gi g3 1).str, .i (gi g3 2).int, .i (gi g3 3).int, .l (gi g3 4).rows, .i (((gi g3 5).int.toNat : Nat) : Int), .i (gi g3 6).int, .l (gi g3 7).rows, .i (gi g3 8).int, .i ((gi g3 9).int + 1)]) else none))) else (loopB true (cutR (tl_club_reached_7 [.s (gi d 0).str, .s (gi d 1).str, .i (gi d 2).int, .i (gi d 3).int, .l (gi d 4).rows, .i (((gi d 5).int.toNat : Nat) : Int), .i (gi ((gi d 7).rows.getD (((gi d 9).int).toNat) []) 0).int, .i (gi ((gi d 7).rows.getD (((gi d 9).int).toNat) []) 1).int, .i (gi ((gi d 7).rows.getD (((gi d 9).int).toNat) []) 2).int, .s (gi ((gi d 7).rows.getD (((gi d 9).int).toNat) []) 3).str, .s (gi ((gi d 7).rows.getD (((gi d 9).int).toNat) []) 4).str, .i (gi d 6).int, .l (gi d 7).rows, .i (gi d 8).int, .i (gi d 9).int])) fun cg4 g4 => (bif (inI ((gi g4 9).int + 1)) then some (none, [.s (gi g4 0).str, .s (gi g4 1).str, .i (gi g4 2).int, .i (gi g4 3).int, .l (gi g4 4).rows, .i (((gi g4 5).int.toNat : Nat) : Int), .i (gi g4 6).int, .l (gi g4 7).rows, .i (gi g4 8).int, .i ((gi g4 9).int + 1)]) else none))) else none) else some (some 0, [.l (gi d 4).rows, .i (((gi d 5).int.toNat : Nat) : Int), .i (gi d 6).int]))
def l_club_reached_4 : LSpec := ⟨4, [], ⟨46, [(2, .s (.ptr 0 0)), (5, .s (.int .i64)), (6, .s (.map 1)), (10, .s (.list KCard)), (11, .s (.int .i64)), (12, .s (.int .i64))], [.box [.str, .str, .int .i64, .int .i64], .map (.agg [.str, .str, .int .i64]) (.one (.bool))]⟩, [.slot 2, .slot 6], [⟨.exit 0, ⟨46, [(5, .s (.int .i64)), (6, .s (.map 0))], [.map (.agg [.str, .str, .int .i64]) (.one (.bool))]⟩, [.slot 6]⟩], st_club_reached_4⟩
theorem r_club_reached_4 : RoundOK P t41 L_club_reached_7c 0 (loopAt Tryz.f106 4) l_club_reached_4 := fun d => by kernel_rfl
def L_club_reached_4 : LT := L_club_reached_7c.add 0 l_club_reached_4
theorem L_club_reached_4_ok : LoopsOK P 0 L_club_reached_4 (bodyOf Tryz.f106) := LoopsOK.add hm t41_ok (by kernel_rfl) L_club_reached_7c_ok r_club_reached_4
def F_club_reached (d : List G) : Option (List G) :=
  (loopB true (LRun st_club_reached_4 [.s (gi (gi d 0).row 0).str, .s (gi (gi d 0).row 1).str, .i (gi (gi d 0).row 2).int, .i (gi (gi d 0).row 3).int, .l [], .i 0, .i (-1), .l (gi d 1).rows, .i (((gi d 1).rows.length : Nat) : Int), .i 0]) fun cg5 g5 => some [.i (((gi g5 0).rows.length : Nat) : Int), .i (gi g5 2).int])
def s_club_reached : FSpec := ⟨106, [.s (.row KAward), .s (.list KCard)], [], [], [.s (.int .i64), .s (.int .i64)], [], [], [], F_club_reached⟩
theorem b_club_reached : BodyOK P t41 L_club_reached_4 Tryz.f106 s_club_reached := fun d => by kernel_rfl
theorem c_club_reached : ∀ d r, F_club_reached d = some r → ACallX P 106 (s_club_reached.args0 d) (denH (s_club_reached.H0 d)) (s_club_reached.out r) (denH (s_club_reached.H1 r)) := fun d r h => body_sound hm t41_ok (sp := s_club_reached) Tryz.func106 (by kernel_rfl) L_club_reached_4_ok b_club_reached (by kernel_rfl) h
def t42 : Tab := t41.addP s_club_reached
theorem t42_ok : TabOK P t42 := t41_ok.addP (by kernel_rfl) (by kernel_rfl) c_club_reached

/- pileup/club.Progress -/
def st_club_Progress_10 (d : List G) : Option (Option Nat × List G) :=
  (bif (ltI (gi d 4).int (gi d 3).int) then (bif ((nnI (gi d 4).int) && (ltI (gi d 4).int (((gi d 2).rows.length : Nat) : Int))) then (callF (F_club_reached [.l [(gEta KAward ((gi d 2).rows.getD (((gi d 4).int).toNat) []))], .l (gi d 1).rows]) fun g4 => (callF (F_strconv_Itoa [.i (gi g4 0).int]) fun g5 => (bif (Nat.ble ((gi g5 0).str.size + 1) 9223372036854775807) then (callF (F_strconv_Itoa [.i (gi ((gi d 2).rows.getD (((gi d 4).int).toNat) []) 3).int]) fun g6 => (bif (Nat.ble (((gi g5 0).str ++ (⟨#[47]⟩ : ByteArray)).size + (gi g6 0).str.size) 9223372036854775807) then (bif (leI 0 (gi g4 1).int) then (bif (Nat.ble ((((gi g5 0).str ++ (⟨#[47]⟩ : ByteArray)) ++ (gi g6 0).str).size + 4) 9223372036854775807) then (bif ((Nat.beq (gi d 0).rows.length (gi d 0).rows.length) && (decide (((gi d 0).rows.length + 1) ≤ 1048576))) then (bif (inI ((gi d 4).int + 1)) then (bif ((Nat.beq ((gi d 0).rows ++ ([[.s (gi ((gi d 2).rows.getD (((gi d 4).int).toNat) []) 0).str, .s ((((gi g5 0).str ++ (⟨#[47]⟩ : ByteArray)) ++ (gi g6 0).str) ++ (⟨#[32, 121, 101, 115]⟩ : ByteArray))]] : List (List G))).length ((gi d 0).rows ++ ([[.s (gi ((gi d 2).rows.getD (((gi d 4).int).toNat) []) 0).str, .s ((((gi g5 0).str ++ (⟨#[47]⟩ : ByteArray)) ++ (gi g6 0).str) ++ (⟨#[32, 121, 101, 115]⟩ : ByteArray))]] : List (List G))).length) && true) then some (none, [.l ((gi d 0).rows ++ ([[.s (gi ((gi d 2).rows.getD (((gi d 4).int).toNat) []) 0).str, .s ((((gi g5 0).str ++ (⟨#[47]⟩ : ByteArray)) ++ (gi g6 0).str) ++ (⟨#[32, 121, 101, 115]⟩ : ByteArray))]] : List (List G))), .l (gi d 1).rows, .l (gi d 2).rows, .i (gi d 3).int, .i ((gi d 4).int + 1)]) else none) else none) else none) else none) else (bif ((Nat.beq (gi d 0).rows.length (gi d 0).rows.length) && (decide (((gi d 0).rows.length + 1) ≤ 1048576))) then (bif (inI ((gi d 4).int + 1)) then (bif ((Nat.beq ((gi d 0).rows ++ ([[.s (gi ((gi d 2).rows.getD (((gi d 4).int).toNat) []) 0).str, .s (((gi g5 0).str ++ (⟨#[47]⟩ : ByteArray)) ++ (gi g6 0).str)]] : List (List G))).length ((gi d 0).rows ++ ([[.s (gi ((gi d 2).rows.getD (((gi d 4).int).toNat) []) 0).str, .s (((gi g5 0).str ++ (⟨#[47]⟩ : ByteArray)) ++ (gi g6 0).str)]] : List (List G))).length) && true) then some (none, [.l ((gi d 0).rows ++ ([[.s (gi ((gi d 2).rows.getD (((gi d 4).int).toNat) []) 0).str, .s (((gi g5 0).str ++ (⟨#[47]⟩ : ByteArray)) ++ (gi g6 0).str)]] : List (List G))), .l (gi d 1).rows, .l (gi d 2).rows, .i (gi d 3).int, .i ((gi d 4).int + 1)]) else none) else none) else none)) else none)) else none))) else none) else (bif ((Nat.beq (gi d 0).rows.length (gi d 0).rows.length) && true) then some (some 0, [.l (gi d 0).rows]) else none))
def l_club_Progress_10 : LSpec := ⟨10, [(11, [.str, .str])], ⟨63, [(10, .s (.list KCard)), (11, .s (.vec 0 2)), (31, .s (.list KAward)), (32, .s (.int .i64)), (33, .s (.int .i64))], [.vec [.str, .str] 0]⟩, [.slot 11], [⟨.exit 0, ⟨63, [(11, .s (.vec 0 2))], [.vec [.str, .str] 0]⟩, [.slot 11]⟩], st_club_Progress_10⟩
theorem r_club_Progress_10 : RoundOK P t42 noLoops 0 (loopAt Tryz.f43 10) l_club_Progress_10 := fun d => by kernel_rfl
def L_club_Progress_10 : LT := noLoops.add 0 l_club_Progress_10
theorem L_club_Progress_10_ok : LoopsOK P 0 L_club_Progress_10 (bodyOf Tryz.f43) := LoopsOK.add hm t42_ok (by kernel_rfl) (noLoops_ok _ _ _) r_club_Progress_10
def F_club_Progress (d : List G) : Option (List G) :=
  (callF (F_club_CheckAwards [.l (gi d 0).rows]) fun g1 => (bif ((gi g1 0).int != 0) then some [.l [], .i (gi g1 0).int] else (callF (F_club_cardsFault [.l (gi d 1).rows, .i (gi d 2).int]) fun g2 => (bif ((gi g2 0).int != 0) then some [.l [], .i (gi g2 0).int] else (callF (F_club_confirmed [.l (gi d 1).rows, .i (gi d 2).int]) fun g3 => (loopB true (LRun st_club_Progress_10 [.l [], .l (gi g3 0).rows, .l (gi d 0).rows, .i (((gi d 0).rows.length : Nat) : Int), .i 0]) fun cg7 g7 => (bif ((Nat.beq (gi g7 0).rows.length (gi g7 0).rows.length) && true) then some [.l (gi g7 0).rows, .i 0] else none)))))))
def s_club_Progress : FSpec := ⟨43, [.s (.list KAward), .s (.list KCard), .s (.int .i64)], [], [], [.s (.list [.str, .str]), .s (.int .i64)], [], [], [], F_club_Progress⟩
theorem b_club_Progress : BodyOK P t42 L_club_Progress_10 Tryz.f43 s_club_Progress := fun d => by kernel_rfl
theorem c_club_Progress : ∀ d r, F_club_Progress d = some r → ACallX P 43 (s_club_Progress.args0 d) (denH (s_club_Progress.H0 d)) (s_club_Progress.out r) (denH (s_club_Progress.H1 r)) := fun d r h => body_sound hm t42_ok (sp := s_club_Progress) Tryz.func43 (by kernel_rfl) L_club_Progress_10_ok b_club_Progress (by kernel_rfl) h
def t43 : Tab := t42.addP s_club_Progress
theorem t43_ok : TabOK P t43 := t42_ok.addP (by kernel_rfl) (by kernel_rfl) c_club_Progress

/- pileup/club.When -/
def F_club_When (d : List G) : Option (List G) :=
  (callF (F_club_CheckAwards [.l [(gEta KAward (gi d 0).row)]]) fun g1 => (bif ((gi g1 0).int != 0) then some [.i 0, .t false, .i (gi g1 0).int] else (callF (F_club_CheckCards [.l (gi d 1).rows]) fun g2 => (bif ((gi g2 0).int != 0) then some [.i 0, .t false, .i (gi g2 0).int] else (callF (F_club_confirmed [.l (gi d 1).rows, .i 345686400000]) fun g3 => (callF (F_club_reached [.l [(gEta KAward (gi d 0).row)], .l (gi g3 0).rows]) fun g4 => some [.i (if 0 > (gi g4 1).int then 0 else (gi g4 1).int), .t (leI 0 (gi g4 1).int), .i 0]))))))
def s_club_When : FSpec := ⟨44, [.s (.row KAward), .s (.list KCard)], [], [], [.s (.int .i64), .s (.bool), .s (.int .i64)], [], [], [], F_club_When⟩
theorem b_club_When : BodyOK P t43 noLoops Tryz.f44 s_club_When := fun d => by kernel_rfl
theorem c_club_When : ∀ d r, F_club_When d = some r → ACallX P 44 (s_club_When.args0 d) (denH (s_club_When.H0 d)) (s_club_When.out r) (denH (s_club_When.H1 r)) := fun d r h => body_sound hm t43_ok (sp := s_club_When) Tryz.func44 (by kernel_rfl) (noLoops_ok _ _ _) b_club_When (by kernel_rfl) h
def t44 : Tab := t43.addP s_club_When
theorem t44_ok : TabOK P t44 := t43_ok.addP (by kernel_rfl) (by kernel_rfl) c_club_When

/- pileup/pileref2.in -/
def F_pileref2_in (d : List G) : Option (List G) :=
  (bif (leI (gi d 1).int (gi d 0).int) then some [.t (leI (gi d 0).int (gi d 2).int)] else some [.t false])
def s_pileref2_in : FSpec := ⟨89, [.s (.int .i64), .s (.int .i64), .s (.int .i64)], [], [], [.s (.bool)], [], [], [], F_pileref2_in⟩
theorem b_pileref2_in : BodyOK P t44 noLoops Tryz.f89 s_pileref2_in := fun d => by kernel_rfl
theorem c_pileref2_in : ∀ d r, F_pileref2_in d = some r → ACallX P 89 (s_pileref2_in.args0 d) (denH (s_pileref2_in.H0 d)) (s_pileref2_in.out r) (denH (s_pileref2_in.H1 r)) := fun d r h => body_sound hm t44_ok (sp := s_pileref2_in) Tryz.func89 (by kernel_rfl) (noLoops_ok _ _ _) b_pileref2_in (by kernel_rfl) h
def t45 : Tab := t44.addP s_pileref2_in
theorem t45_ok : TabOK P t45 := t44_ok.addP (by kernel_rfl) (by kernel_rfl) c_pileref2_in

/- pileup/pileref2.only -/
def st_pileref2_only_2 (d : List G) : Option (Option Nat × List G) :=
  (bif (ltI (gi d 3).int (gi d 2).int) then (bif ((nnI (gi d 3).int) && (ltI (gi d 3).int (((gi d 0).str.size : Nat) : Int))) then (callF (F_strings_IndexByte [.s (gi d 1).str, .i (((gi d 0).str.data.toList.getD (((gi d 3).int).toNat) 0).toNat : Int)]) fun g1 => (bif (ltI (gi g1 0).int 0) then some (some 0, [.t false]) else (bif (inI ((gi d 3).int + 1)) then some (none, [.s (gi d 0).str, .s (gi d 1).str, .i (gi d 2).int, .i ((gi d 3).int + 1)]) else none))) else none) else some (some 1, []))
def l_pileref2_only_2 : LSpec := ⟨2, [], ⟨18, [(0, .s (.str)), (1, .s (.str)), (7, .s (.int .i64)), (8, .s (.int .i64))], []⟩, [], [⟨.ret, ⟨18, [(4, .s (.bool))], []⟩, []⟩, ⟨.exit 0, ⟨18, [], []⟩, []⟩], st_pileref2_only_2⟩
theorem r_pileref2_only_2 : RoundOK P t45 noLoops 0 (loopAt Tryz.f139 2) l_pileref2_only_2 := fun d => by kernel_rfl
def L_pileref2_only_2 : LT := noLoops.add 0 l_pileref2_only_2
theorem L_pileref2_only_2_ok : LoopsOK P 0 L_pileref2_only_2 (bodyOf Tryz.f139) := LoopsOK.add hm t45_ok (by kernel_rfl) (noLoops_ok _ _ _) r_pileref2_only_2
def F_pileref2_only (d : List G) : Option (List G) :=
  (loopB true (LRun st_pileref2_only_2 [.s (gi d 0).str, .s (gi d 1).str, .i (((gi d 0).str.size : Nat) : Int), .i 0]) fun cg2 g2 => (bif Nat.beq cg2 0 then some [.t (gi g2 0).bool] else some [.t true]))
def s_pileref2_only : FSpec := ⟨139, [.s (.str), .s (.str)], [], [], [.s (.bool)], [], [], [], F_pileref2_only⟩
theorem b_pileref2_only : BodyOK P t45 L_pileref2_only_2 Tryz.f139 s_pileref2_only := fun d => by kernel_rfl
theorem c_pileref2_only : ∀ d r, F_pileref2_only d = some r → ACallX P 139 (s_pileref2_only.args0 d) (denH (s_pileref2_only.H0 d)) (s_pileref2_only.out r) (denH (s_pileref2_only.H1 r)) := fun d r h => body_sound hm t45_ok (sp := s_pileref2_only) Tryz.func139 (by kernel_rfl) L_pileref2_only_2_ok b_pileref2_only (by kernel_rfl) h
def t46 : Tab := t45.addP s_pileref2_only
theorem t46_ok : TabOK P t46 := t45_ok.addP (by kernel_rfl) (by kernel_rfl) c_pileref2_only

/- pileup/pileref2.Key -/
def F_pileref2_Key (d : List G) : Option (List G) :=
  (callF (F_pileref2_in [.i (((gi d 0).str.size : Nat) : Int), .i 1, .i 40]) fun g1 => (bif (gi g1 0).bool then (bif (leI 1 (((gi d 0).str.size : Nat) : Int)) then (callF (F_pileref2_only [.s ((gi d 0).str.extract 0 1), .s (⟨#[97, 98, 99, 100, 101, 102, 103, 104, 105, 106, 107, 108, 109, 110, 111, 112, 113, 114, 115, 116, 117, 118, 119, 120, 121, 122]⟩ : ByteArray)]) fun g2 => (bif (gi g2 0).bool then (callF (F_pileref2_only [.s (gi d 0).str, .s (⟨#[97, 98, 99, 100, 101, 102, 103, 104, 105, 106, 107, 108, 109, 110, 111, 112, 113, 114, 115, 116, 117, 118, 119, 120, 121, 122, 48, 49, 50, 51, 52, 53, 54, 55, 56, 57, 45, 95]⟩ : ByteArray)]) fun g3 => some [.t (gi g3 0).bool]) else some [.t false])) else none) else some [.t false]))
def s_pileref2_Key : FSpec := ⟨91, [.s (.str)], [], [], [.s (.bool)], [], [], [], F_pileref2_Key⟩
theorem b_pileref2_Key : BodyOK P t46 noLoops Tryz.f91 s_pileref2_Key := fun d => by kernel_rfl
theorem c_pileref2_Key : ∀ d r, F_pileref2_Key d = some r → ACallX P 91 (s_pileref2_Key.args0 d) (denH (s_pileref2_Key.H0 d)) (s_pileref2_Key.out r) (denH (s_pileref2_Key.H1 r)) := fun d r h => body_sound hm t46_ok (sp := s_pileref2_Key) Tryz.func91 (by kernel_rfl) (noLoops_ok _ _ _) b_pileref2_Key (by kernel_rfl) h
def t47 : Tab := t46.addP s_pileref2_Key
theorem t47_ok : TabOK P t47 := t46_ok.addP (by kernel_rfl) (by kernel_rfl) c_pileref2_Key

/- pileup/pileref2.AwardsFault -/
def st_pileref2_AwardsFault_5 (d : List G) : Option (Option Nat × List G) :=
  (bif (ltI (gi d 3).int (gi d 2).int) then (bif ((nnI (gi d 3).int) && (ltI (gi d 3).int (((gi d 1).rows.length : Nat) : Int))) then (callF (F_pileref2_Key [.s (gi ((gi d 1).rows.getD (((gi d 3).int).toNat) []) 0).str]) fun g1 => (bif (!(gi g1 0).bool) then some (some 0, [.i 5]) else (bif (!((gi ((gi d 1).rows.getD (((gi d 3).int).toNat) []) 1).str.toList == (⟨#[]⟩ : ByteArray).toList)) then (callF (F_pileref2_Key [.s (gi ((gi d 1).rows.getD (((gi d 3).int).toNat) []) 1).str]) fun g2 => (bif (!(gi g2 0).bool) then some (some 0, [.i 5]) else (callF (F_pileref2_in [.i (gi ((gi d 1).rows.getD (((gi d 3).int).toNat) []) 2).int, .i 1, .i 4]) fun g3 => (bif (!(gi g3 0).bool) then some (some 0, [.i 4]) else (callF (F_pileref2_in [.i (gi ((gi d 1).rows.getD (((gi d 3).int).toNat) []) 3).int, .i 1, .i 3000]) fun g4 => (bif (!(gi g4 0).bool) then some (some 0, [.i 1]) else (bif ((Op.bytesLess (gi ((gi d 1).rows.getD (((gi d 3).int).toNat) []) 0).str.toList (gi d 0).str.toList) || ((gi ((gi d 1).rows.getD (((gi d 3).int).toNat) []) 0).str.toList == (gi d 0).str.toList)) then some (some 0, [.i 7]) else (bif (inI ((gi d 3).int + 1)) then some (none, [.s (gi ((gi d 1).rows.getD (((gi d 3).int).toNat) []) 0).str, .l (gi d 1).rows, .i (gi d 2).int, .i ((gi d 3).int + 1)]) else none)))))))) else (callF (F_pileref2_in [.i (gi ((gi d 1).rows.getD (((gi d 3).int).toNat) []) 2).int, .i 1, .i 4]) fun g5 => (bif (!(gi g5 0).bool) then some (some 0, [.i 4]) else (callF (F_pileref2_in [.i (gi ((gi d 1).rows.getD (((gi d 3).int).toNat) []) 3).int, .i 1, .i 3000]) fun g6 => (bif (!(gi g6 0).bool) then some (some 0, [.i 1]) else (bif ((Op.bytesLess (gi ((gi d 1).rows.getD (((gi d 3).int).toNat) []) 0).str.toList (gi d 0).str.toList) || ((gi ((gi d 1).rows.getD (((gi d 3).int).toNat) []) 0).str.toList == (gi d 0).str.toList)) then some (some 0, [.i 7]) else (bif (inI ((gi d 3).int + 1)) then some (none, [.s (gi ((gi d 1).rows.getD (((gi d 3).int).toNat) []) 0).str, .l (gi d 1).rows, .i (gi d 2).int, .i ((gi d 3).int + 1)]) else none))))))))) else none) else some (some 1, []))
def l_pileref2_AwardsFault_5 : LSpec := ⟨5, [], ⟨49, [(3, .s (.str)), (9, .s (.list KAward)), (10, .s (.int .i64)), (11, .s (.int .i64))], []⟩, [], [⟨.ret, ⟨49, [(2, .s (.int .i64))], []⟩, []⟩, ⟨.exit 0, ⟨49, [], []⟩, []⟩], st_pileref2_AwardsFault_5⟩
theorem r_pileref2_AwardsFault_5 : RoundOK P t47 noLoops 0 (loopAt Tryz.f45 5) l_pileref2_AwardsFault_5 := fun d => by kernel_rfl
def L_pileref2_AwardsFault_5 : LT := noLoops.add 0 l_pileref2_AwardsFault_5
theorem L_pileref2_AwardsFault_5_ok : LoopsOK P 0 L_pileref2_AwardsFault_5 (bodyOf Tryz.f45) := LoopsOK.add hm t47_ok (by kernel_rfl) (noLoops_ok _ _ _) r_pileref2_AwardsFault_5
def F_pileref2_AwardsFault (d : List G) : Option (List G) :=
  (bif (ltI 50 (((gi d 0).rows.length : Nat) : Int)) then some [.i 2] else (loopB true (LRun st_pileref2_AwardsFault_5 [.s (⟨#[]⟩ : ByteArray), .l (gi d 0).rows, .i (((gi d 0).rows.length : Nat) : Int), .i 0]) fun cg7 g7 => (bif Nat.beq cg7 0 then some [.i (gi g7 0).int] else some [.i 0])))
def s_pileref2_AwardsFault : FSpec := ⟨45, [.s (.list KAward)], [], [], [.s (.int .i64)], [], [], [], F_pileref2_AwardsFault⟩
theorem b_pileref2_AwardsFault : BodyOK P t47 L_pileref2_AwardsFault_5 Tryz.f45 s_pileref2_AwardsFault := fun d => by kernel_rfl
theorem c_pileref2_AwardsFault : ∀ d r, F_pileref2_AwardsFault d = some r → ACallX P 45 (s_pileref2_AwardsFault.args0 d) (denH (s_pileref2_AwardsFault.H0 d)) (s_pileref2_AwardsFault.out r) (denH (s_pileref2_AwardsFault.H1 r)) := fun d r h => body_sound hm t47_ok (sp := s_pileref2_AwardsFault) Tryz.func45 (by kernel_rfl) L_pileref2_AwardsFault_5_ok b_pileref2_AwardsFault (by kernel_rfl) h
def t48 : Tab := t47.addP s_pileref2_AwardsFault
theorem t48_ok : TabOK P t48 := t47_ok.addP (by kernel_rfl) (by kernel_rfl) c_pileref2_AwardsFault

/- pileup/pileref2.Moment -/
def F_pileref2_Moment (d : List G) : Option (List G) :=
  (callF (F_pileref2_in [.i (gi d 0).int, .i 0, .i 345686399999]) fun g1 => some [.t (gi g1 0).bool])
def s_pileref2_Moment : FSpec := ⟨88, [.s (.int .i64)], [], [], [.s (.bool)], [], [], [], F_pileref2_Moment⟩
theorem b_pileref2_Moment : BodyOK P t48 noLoops Tryz.f88 s_pileref2_Moment := fun d => by kernel_rfl
theorem c_pileref2_Moment : ∀ d r, F_pileref2_Moment d = some r → ACallX P 88 (s_pileref2_Moment.args0 d) (denH (s_pileref2_Moment.H0 d)) (s_pileref2_Moment.out r) (denH (s_pileref2_Moment.H1 r)) := fun d r h => body_sound hm t48_ok (sp := s_pileref2_Moment) Tryz.func88 (by kernel_rfl) (noLoops_ok _ _ _) b_pileref2_Moment (by kernel_rfl) h
def t49 : Tab := t48.addP s_pileref2_Moment
theorem t49_ok : TabOK P t49 := t48_ok.addP (by kernel_rfl) (by kernel_rfl) c_pileref2_Moment

/- pileup/pileref2.Call -/
def F_pileref2_Call (d : List G) : Option (List G) :=
  (callF (F_pileref1_PartsOf [.s (gi d 0).str]) fun g1 => some [.t (gi g1 1).bool])
def s_pileref2_Call : FSpec := ⟨90, [.s (.str)], [], [], [.s (.bool)], [], [], [], F_pileref2_Call⟩
theorem b_pileref2_Call : BodyOK P t49 noLoops Tryz.f90 s_pileref2_Call := fun d => by kernel_rfl
theorem c_pileref2_Call : ∀ d r, F_pileref2_Call d = some r → ACallX P 90 (s_pileref2_Call.args0 d) (denH (s_pileref2_Call.H0 d)) (s_pileref2_Call.out r) (denH (s_pileref2_Call.H1 r)) := fun d r h => body_sound hm t49_ok (sp := s_pileref2_Call) Tryz.func90 (by kernel_rfl) (noLoops_ok _ _ _) b_pileref2_Call (by kernel_rfl) h
def t50 : Tab := t49.addP s_pileref2_Call
theorem t50_ok : TabOK P t50 := t49_ok.addP (by kernel_rfl) (by kernel_rfl) c_pileref2_Call

/- pileup/pileref2.CardsFault -/
def st_pileref2_CardsFault_4 (d : List G) : Option (Option Nat × List G) :=
  (bif (ltI (gi d 3).int (gi d 2).int) then (bif ((nnI (gi d 3).int) && (ltI (gi d 3).int (((gi d 1).rows.length : Nat) : Int))) then (callF (F_pileref2_Moment [.i (gi ((gi d 1).rows.getD (((gi d 3).int).toNat) []) 0).int]) fun g1 => (bif (!(gi g1 0).bool) then some (some 0, [.i 1]) else (callF (F_pileref2_in [.i (gi ((gi d 1).rows.getD (((gi d 3).int).toNat) []) 1).int, .i 1, .i 3]) fun g2 => (bif (!(gi g2 0).bool) then some (some 0, [.i 4]) else (callF (F_pileref2_in [.i (gi ((gi d 1).rows.getD (((gi d 3).int).toNat) []) 2).int, .i 1, .i 3]) fun g3 => (bif (!(gi g3 0).bool) then some (some 0, [.i 4]) else (callF (F_pileref2_Call [.s (gi ((gi d 1).rows.getD (((gi d 3).int).toNat) []) 3).str]) fun g4 => (bif (!(gi g4 0).bool) then some (some 0, [.i 3]) else (callF (F_pileref2_Key [.s (gi ((gi d 1).rows.getD (((gi d 3).int).toNat) []) 4).str]) fun g5 => (bif (!(gi g5 0).bool) then some (some 0, [.i 5]) else (bif (ltI 0 (gi d 3).int) then (bif (inI ((gi d 3).int - 1)) then (bif ((nnI ((gi d 3).int - 1)) && (ltI ((gi d 3).int - 1) (((gi d 0).rows.length : Nat) : Int))) then (callF (F_pileref2_CardOrder [.l [(gEta KCard ((gi d 0).rows.getD (((gi d 3).int - 1).toNat) []))], .l [(gEta KCard ((gi d 1).rows.getD (((gi d 3).int).toNat) []))]]) fun g6 => (bif (leI 0 (gi g6 0).int) then some (some 0, [.i 7]) else (bif (inI ((gi d 3).int + 1)) then some (none, [.l (gi d 0).rows, .l (gi d 1).rows, .i (gi d 2).int, .i ((gi d 3).int + 1)]) else none))) else none) else none) else (bif (inI ((gi d 3).int + 1)) then some (none, [.l (gi d 0).rows, .l (gi d 1).rows, .i (gi d 2).int, .i ((gi d 3).int + 1)]) else none)))))))))))) else none) else some (some 1, []))
def l_pileref2_CardsFault_4 : LSpec := ⟨4, [], ⟨55, [(0, .s (.list KCard)), (8, .s (.list KCard)), (9, .s (.int .i64)), (10, .s (.int .i64))], []⟩, [], [⟨.ret, ⟨55, [(2, .s (.int .i64))], []⟩, []⟩, ⟨.exit 0, ⟨55, [], []⟩, []⟩], st_pileref2_CardsFault_4⟩
theorem r_pileref2_CardsFault_4 : RoundOK P t50 noLoops 0 (loopAt Tryz.f25 4) l_pileref2_CardsFault_4 := fun d => by kernel_rfl
def L_pileref2_CardsFault_4 : LT := noLoops.add 0 l_pileref2_CardsFault_4
theorem L_pileref2_CardsFault_4_ok : LoopsOK P 0 L_pileref2_CardsFault_4 (bodyOf Tryz.f25) := LoopsOK.add hm t50_ok (by kernel_rfl) (noLoops_ok _ _ _) r_pileref2_CardsFault_4
def F_pileref2_CardsFault (d : List G) : Option (List G) :=
  (bif (ltI 3000 (((gi d 0).rows.length : Nat) : Int)) then some [.i 2] else (loopB true (LRun st_pileref2_CardsFault_4 [.l (gi d 0).rows, .l (gi d 0).rows, .i (((gi d 0).rows.length : Nat) : Int), .i 0]) fun cg7 g7 => (bif Nat.beq cg7 0 then some [.i (gi g7 0).int] else some [.i 0])))
def s_pileref2_CardsFault : FSpec := ⟨25, [.s (.list KCard)], [], [], [.s (.int .i64)], [], [], [], F_pileref2_CardsFault⟩
theorem b_pileref2_CardsFault : BodyOK P t50 L_pileref2_CardsFault_4 Tryz.f25 s_pileref2_CardsFault := fun d => by kernel_rfl
theorem c_pileref2_CardsFault : ∀ d r, F_pileref2_CardsFault d = some r → ACallX P 25 (s_pileref2_CardsFault.args0 d) (denH (s_pileref2_CardsFault.H0 d)) (s_pileref2_CardsFault.out r) (denH (s_pileref2_CardsFault.H1 r)) := fun d r h => body_sound hm t50_ok (sp := s_pileref2_CardsFault) Tryz.func25 (by kernel_rfl) L_pileref2_CardsFault_4_ok b_pileref2_CardsFault (by kernel_rfl) h
def t51 : Tab := t50.addP s_pileref2_CardsFault
theorem t51_ok : TabOK P t51 := t50_ok.addP (by kernel_rfl) (by kernel_rfl) c_pileref2_CardsFault

/- pileup/pileref2.MomentFault -/
def F_pileref2_MomentFault (d : List G) : Option (List G) :=
  (callF (F_pileref2_Moment [.i (gi d 0).int]) fun g1 => (bif (!(gi g1 0).bool) then some [.i 1] else some [.i 0]))
def s_pileref2_MomentFault : FSpec := ⟨26, [.s (.int .i64)], [], [], [.s (.int .i64)], [], [], [], F_pileref2_MomentFault⟩
theorem b_pileref2_MomentFault : BodyOK P t51 noLoops Tryz.f26 s_pileref2_MomentFault := fun d => by kernel_rfl
theorem c_pileref2_MomentFault : ∀ d r, F_pileref2_MomentFault d = some r → ACallX P 26 (s_pileref2_MomentFault.args0 d) (denH (s_pileref2_MomentFault.H0 d)) (s_pileref2_MomentFault.out r) (denH (s_pileref2_MomentFault.H1 r)) := fun d r h => body_sound hm t51_ok (sp := s_pileref2_MomentFault) Tryz.func26 (by kernel_rfl) (noLoops_ok _ _ _) b_pileref2_MomentFault (by kernel_rfl) h
def t52 : Tab := t51.addP s_pileref2_MomentFault
theorem t52_ok : TabOK P t52 := t51_ok.addP (by kernel_rfl) (by kernel_rfl) c_pileref2_MomentFault

/- pileup/pilelaw2.errs -/
def st_pilelaw2_errs_2 (d : List G) : Option (Option Nat × List G) :=
  (bif (ltI (gi d 2).int (gi d 1).int) then (bif ((nnI (gi d 2).int) && (ltI (gi d 2).int (((gi d 0).rows.length : Nat) : Int))) then (bif ((gi ((gi d 0).rows.getD (((gi d 2).int).toNat) []) 0).int != 0) then some (some 0, [.i (gi ((gi d 0).rows.getD (((gi d 2).int).toNat) []) 0).int]) else (bif (inI ((gi d 2).int + 1)) then some (none, [.l (gi d 0).rows, .i (gi d 1).int, .i ((gi d 2).int + 1)]) else none)) else none) else some (some 1, []))
def l_pilelaw2_errs_2 : LSpec := ⟨2, [], ⟨15, [(5, .s (.list [.int .i64])), (6, .s (.int .i64)), (7, .s (.int .i64))], []⟩, [], [⟨.ret, ⟨15, [(2, .s (.int .i64))], []⟩, []⟩, ⟨.exit 0, ⟨15, [], []⟩, []⟩], st_pilelaw2_errs_2⟩
theorem r_pilelaw2_errs_2 : RoundOK P t52 noLoops 0 (loopAt Tryz.f24 2) l_pilelaw2_errs_2 := fun d => by kernel_rfl
def L_pilelaw2_errs_2 : LT := noLoops.add 0 l_pilelaw2_errs_2
theorem L_pilelaw2_errs_2_ok : LoopsOK P 0 L_pilelaw2_errs_2 (bodyOf Tryz.f24) := LoopsOK.add hm t52_ok (by kernel_rfl) (noLoops_ok _ _ _) r_pilelaw2_errs_2
def F_pilelaw2_errs (d : List G) : Option (List G) :=
  (loopB true (LRun st_pilelaw2_errs_2 [.l (gi d 0).rows, .i (((gi d 0).rows.length : Nat) : Int), .i 0]) fun cg1 g1 => (bif Nat.beq cg1 0 then some [.i (gi g1 0).int] else some [.i 0]))
def s_pilelaw2_errs : FSpec := ⟨24, [.s (.list [.int .i64])], [], [], [.s (.int .i64)], [], [], [], F_pilelaw2_errs⟩
theorem b_pilelaw2_errs : BodyOK P t52 L_pilelaw2_errs_2 Tryz.f24 s_pilelaw2_errs := fun d => by kernel_rfl
theorem c_pilelaw2_errs : ∀ d r, F_pilelaw2_errs d = some r → ACallX P 24 (s_pilelaw2_errs.args0 d) (denH (s_pilelaw2_errs.H0 d)) (s_pilelaw2_errs.out r) (denH (s_pilelaw2_errs.H1 r)) := fun d r h => body_sound hm t52_ok (sp := s_pilelaw2_errs) Tryz.func24 (by kernel_rfl) L_pilelaw2_errs_2_ok b_pilelaw2_errs (by kernel_rfl) h
def t53 : Tab := t52.addP s_pilelaw2_errs
theorem t53_ok : TabOK P t53 := t52_ok.addP (by kernel_rfl) (by kernel_rfl) c_pilelaw2_errs

/- pileup/pileref2.BaseOf -/
def F_pileref2_BaseOf (d : List G) : Option (List G) :=
  (callF (F_pileref1_PartsOf [.s (gi d 0).str]) fun g1 => some [.s (gi (gi g1 0).row 0).str])
def s_pileref2_BaseOf : FSpec := ⟨39, [.s (.str)], [], [], [.s (.str)], [], [], [], F_pileref2_BaseOf⟩
theorem b_pileref2_BaseOf : BodyOK P t53 noLoops Tryz.f39 s_pileref2_BaseOf := fun d => by kernel_rfl
theorem c_pileref2_BaseOf : ∀ d r, F_pileref2_BaseOf d = some r → ACallX P 39 (s_pileref2_BaseOf.args0 d) (denH (s_pileref2_BaseOf.H0 d)) (s_pileref2_BaseOf.out r) (denH (s_pileref2_BaseOf.H1 r)) := fun d r h => body_sound hm t53_ok (sp := s_pileref2_BaseOf) Tryz.func39 (by kernel_rfl) (noLoops_ok _ _ _) b_pileref2_BaseOf (by kernel_rfl) h
def t54 : Tab := t53.addP s_pileref2_BaseOf
theorem t54_ok : TabOK P t54 := t53_ok.addP (by kernel_rfl) (by kernel_rfl) c_pileref2_BaseOf

/- pileup/pileref2.with -/
def F_pileref2_with (d : List G) : Option (List G) :=
  (callF (F_pileref2_BaseOf [.s (gi (gi d 0).row 3).str]) fun g1 => (callF (F_pileref2_BaseOf [.s (gi (gi d 1).row 3).str]) fun g2 => (bif ((gi g1 0).str.toList == (gi g2 0).str.toList) then (bif ((gi (gi d 0).row 4).str.toList == (gi (gi d 1).row 4).str.toList) then some [.t ((gi (gi d 0).row 2).int == (gi (gi d 1).row 2).int)] else some [.t false]) else some [.t false])))
def s_pileref2_with : FSpec := ⟨93, [.s (.row KCard), .s (.row KCard)], [], [], [.s (.bool)], [], [], [], F_pileref2_with⟩
theorem b_pileref2_with : BodyOK P t54 noLoops Tryz.f93 s_pileref2_with := fun d => by kernel_rfl
theorem c_pileref2_with : ∀ d r, F_pileref2_with d = some r → ACallX P 93 (s_pileref2_with.args0 d) (denH (s_pileref2_with.H0 d)) (s_pileref2_with.out r) (denH (s_pileref2_with.H1 r)) := fun d r h => body_sound hm t54_ok (sp := s_pileref2_with) Tryz.func93 (by kernel_rfl) (noLoops_ok _ _ _) b_pileref2_with (by kernel_rfl) h
def t55 : Tab := t54.addP s_pileref2_with
theorem t55_ok : TabOK P t55 := t54_ok.addP (by kernel_rfl) (by kernel_rfl) c_pileref2_with

/- pileup/pileref2.ConfirmedBy$1 -/
def F_pileref2_ConfirmedBy_1 (d : List G) : Option (List G) :=
  (callF (F_pileref2_with [.l [(gEta KCard (gi d 0).row)], .l [(gEta KCard (gi d 1).row)]]) fun g1 => some [.t (gi g1 0).bool])
def s_pileref2_ConfirmedBy_1 : FSpec := ⟨92, [.s (.row KCard), .s (.cptr KCard)], [], [], [.s (.bool)], [], [], [], F_pileref2_ConfirmedBy_1⟩
theorem b_pileref2_ConfirmedBy_1 : BodyOK P t55 noLoops Tryz.f92 s_pileref2_ConfirmedBy_1 := fun d => by kernel_rfl
theorem c_pileref2_ConfirmedBy_1 : ∀ d r, F_pileref2_ConfirmedBy_1 d = some r → ACallX P 92 (s_pileref2_ConfirmedBy_1.args0 d) (denH (s_pileref2_ConfirmedBy_1.H0 d)) (s_pileref2_ConfirmedBy_1.out r) (denH (s_pileref2_ConfirmedBy_1.H1 r)) := fun d r h => body_sound hm t55_ok (sp := s_pileref2_ConfirmedBy_1) Tryz.func92 (by kernel_rfl) (noLoops_ok _ _ _) b_pileref2_ConfirmedBy_1 (by kernel_rfl) h
def t56 : Tab := t55.addP s_pileref2_ConfirmedBy_1
theorem t56_ok : TabOK P t56 := t55_ok.addP (by kernel_rfl) (by kernel_rfl) c_pileref2_ConfirmedBy_1

/- slices.IndexFunc[[]pileup/api.Card,pileup/api.Card] -/
def st_slices_IndexFunc_Card_2 (d : List G) : Option (Option Nat × List G) :=
  (bif (ltI (gi d 3).int (gi d 2).int) then (bif ((nnI (gi d 3).int) && (ltI (gi d 3).int (((gi d 0).rows.length : Nat) : Int))) then (callF (F_pileref2_ConfirmedBy_1 [.l [(gEta KCard ((gi d 0).rows.getD (((gi d 3).int).toNat) []))], .l [(gEta KCard (gi d 1).row)]]) fun g1 => (bif (gi g1 0).bool then some (some 0, [.i (gi d 3).int]) else (bif (inI ((gi d 3).int + 1)) then some (none, [.l (gi d 0).rows, .l [(gEta KCard (gi d 1).row)], .i (gi d 2).int, .i ((gi d 3).int + 1)]) else none))) else none) else some (some 1, []))
def l_slices_IndexFunc_Card_2 : LSpec := ⟨2, [], ⟨19, [(0, .s (.list KCard)), (1, .clo 92 [.cptr KCard]), (7, .s (.int .i64)), (8, .s (.int .i64))], []⟩, [], [⟨.ret, ⟨19, [(4, .s (.int .i64))], []⟩, []⟩, ⟨.exit 0, ⟨19, [], []⟩, []⟩], st_slices_IndexFunc_Card_2⟩
theorem r_slices_IndexFunc_Card_2 : RoundOK P t56 noLoops 0 (loopAt Tryz.f102 2) l_slices_IndexFunc_Card_2 := fun d => by kernel_rfl
def L_slices_IndexFunc_Card_2 : LT := noLoops.add 0 l_slices_IndexFunc_Card_2
theorem L_slices_IndexFunc_Card_2_ok : LoopsOK P 0 L_slices_IndexFunc_Card_2 (bodyOf Tryz.f102) := LoopsOK.add hm t56_ok (by kernel_rfl) (noLoops_ok _ _ _) r_slices_IndexFunc_Card_2
def F_slices_IndexFunc_Card (d : List G) : Option (List G) :=
  (loopB true (LRun st_slices_IndexFunc_Card_2 [.l (gi d 0).rows, .l [(gEta KCard (gi d 1).row)], .i (((gi d 0).rows.length : Nat) : Int), .i 0]) fun cg2 g2 => (bif Nat.beq cg2 0 then some [.i (gi g2 0).int] else some [.i (-1)]))
def s_slices_IndexFunc_Card : FSpec := ⟨102, [.s (.list KCard), .clo 92 [.cptr KCard]], [], [], [.s (.int .i64)], [], [], [], F_slices_IndexFunc_Card⟩
theorem b_slices_IndexFunc_Card : BodyOK P t56 L_slices_IndexFunc_Card_2 Tryz.f102 s_slices_IndexFunc_Card := fun d => by kernel_rfl
theorem c_slices_IndexFunc_Card : ∀ d r, F_slices_IndexFunc_Card d = some r → ACallX P 102 (s_slices_IndexFunc_Card.args0 d) (denH (s_slices_IndexFunc_Card.H0 d)) (s_slices_IndexFunc_Card.out r) (denH (s_slices_IndexFunc_Card.H1 r)) := fun d r h => body_sound hm t56_ok (sp := s_slices_IndexFunc_Card) Tryz.func102 (by kernel_rfl) L_slices_IndexFunc_Card_2_ok b_slices_IndexFunc_Card (by kernel_rfl) h
def t57 : Tab := t56.addP s_slices_IndexFunc_Card
theorem t57_ok : TabOK P t57 := t56_ok.addP (by kernel_rfl) (by kernel_rfl) c_slices_IndexFunc_Card

/- slices.ContainsFunc[[]pileup/api.Card,pileup/api.Card] -/
def F_slices_ContainsFunc_Card (d : List G) : Option (List G) :=
  (callF (F_slices_IndexFunc_Card [.l (gi d 0).rows, .l [(gEta KCard (gi d 1).row)]]) fun g1 => some [.t (leI 0 (gi g1 0).int)])
def s_slices_ContainsFunc_Card : FSpec := ⟨37, [.s (.list KCard), .clo 92 [.cptr KCard]], [], [], [.s (.bool)], [], [], [], F_slices_ContainsFunc_Card⟩
theorem b_slices_ContainsFunc_Card : BodyOK P t57 noLoops Tryz.f37 s_slices_ContainsFunc_Card := fun d => by kernel_rfl
theorem c_slices_ContainsFunc_Card : ∀ d r, F_slices_ContainsFunc_Card d = some r → ACallX P 37 (s_slices_ContainsFunc_Card.args0 d) (denH (s_slices_ContainsFunc_Card.H0 d)) (s_slices_ContainsFunc_Card.out r) (denH (s_slices_ContainsFunc_Card.H1 r)) := fun d r h => body_sound hm t57_ok (sp := s_slices_ContainsFunc_Card) Tryz.func37 (by kernel_rfl) (noLoops_ok _ _ _) b_slices_ContainsFunc_Card (by kernel_rfl) h
def t58 : Tab := t57.addP s_slices_ContainsFunc_Card
theorem t58_ok : TabOK P t58 := t57_ok.addP (by kernel_rfl) (by kernel_rfl) c_slices_ContainsFunc_Card

end
end Go.Proofs.SYthnhleemkjpigaaGreatDoor
