/-
  What is proved here: functions of the program as functions on data. No condition.
-/
import Derived.Test.YtbckadmdebkogaaGreatDoorML1
set_option linter.unusedSimpArgs false
set_option linter.unusedVariables false
set_option linter.unusedSectionVars false
namespace Go.Proofs.SYtbckadmdebkogaaGreatDoor
open Go Go.AL Go.Proofs
noncomputable section
/- pileup/pilemake.Below -/
def F_pilemake_Below (d : List G) : Option (List G) :=
  (bif (ltI (gi d 1).int 1) then some [.i 0] else (bif (!((gi d 1).int == 0)) then (bif (ltI (Int.tmod (gi d 0).int (gi d 1).int) 0) then (bif (inI ((Int.tmod (gi d 0).int (gi d 1).int) + (gi d 1).int)) then some [.i ((Int.tmod (gi d 0).int (gi d 1).int) + (gi d 1).int)] else none) else some [.i (Int.tmod (gi d 0).int (gi d 1).int)]) else none))
def s_pilemake_Below : FSpec := ⟨88, [.s (.int .i64), .s (.int .i64)], [], [], [.s (.int .i64)], [], [], [], F_pilemake_Below⟩
theorem b_pilemake_Below : BodyOK P t6 noLoops Tryz.f88 s_pilemake_Below := fun d => by kernel_rfl
theorem c_pilemake_Below : ∀ d r, F_pilemake_Below d = some r → ACallX P 88 (s_pilemake_Below.args0 d) (denH (s_pilemake_Below.H0 d)) (s_pilemake_Below.out r) (denH (s_pilemake_Below.H1 r)) := fun d r h => body_sound hm t6_ok (sp := s_pilemake_Below) Tryz.func88 (by kernel_rfl) (noLoops_ok _ _ _) b_pilemake_Below (by kernel_rfl) h
def t7 : Tab := t6.addP s_pilemake_Below
theorem t7_ok : TabOK P t7 := t6_ok.addP (by kernel_rfl) (by kernel_rfl) c_pilemake_Below

/- (*pileup/pilemake.Stream).Next -/
def F_pilemake_Stream_Next (d : List G) : Option (List G) :=
  (bif (inI ((gi d 1).int + 1)) then (bif ((((gi d 0).rows.length : Nat) : Int) == 0) then (bif (inI (((gi d 1).int + 1) * 7919)) then (callF (F_pilemake_Below [.i (((gi d 1).int + 1) * 7919), .i (gi d 2).int]) fun g1 => some [.l (gi d 0).rows, .i ((gi d 1).int + 1), .i (gi g1 0).int]) else none) else (bif (inI (((gi d 1).int + 1) - 1)) then (bif (!((((gi d 0).rows.length : Nat) : Int) == 0)) then (bif (inI (((gi d 1).int + 1) - 1)) then (bif ((!((((gi d 0).rows.length : Nat) : Int) == 0)) && (inI (Int.tdiv (((gi d 1).int + 1) - 1) (((gi d 0).rows.length : Nat) : Int)))) then (bif ((nnI (Int.tmod (((gi d 1).int + 1) - 1) (((gi d 0).rows.length : Nat) : Int))) && (ltI (Int.tmod (((gi d 1).int + 1) - 1) (((gi d 0).rows.length : Nat) : Int)) (((gi d 0).rows.length : Nat) : Int))) then (callF (F_pilemake_Below [.i (gi ((gi d 0).rows.getD ((Int.tmod (((gi d 1).int + 1) - 1) (((gi d 0).rows.length : Nat) : Int)).toNat) []) 0).int, .i 1073741824]) fun g2 => (bif (inI (7919 + (Int.tmod (((gi d 1).int + 1) - 1) (((gi d 0).rows.length : Nat) : Int)))) then (bif (inI ((Int.tdiv (((gi d 1).int + 1) - 1) (((gi d 0).rows.length : Nat) : Int)) * (7919 + (Int.tmod (((gi d 1).int + 1) - 1) (((gi d 0).rows.length : Nat) : Int))))) then (bif (inI ((gi g2 0).int + ((Int.tdiv (((gi d 1).int + 1) - 1) (((gi d 0).rows.length : Nat) : Int)) * (7919 + (Int.tmod (((gi d 1).int + 1) - 1) (((gi d 0).rows.length : Nat) : Int)))))) then (callF (F_pilemake_Below [.i ((gi g2 0).int + ((Int.tdiv (((gi d 1).int + 1) - 1) (((gi d 0).rows.length : Nat) : Int)) * (7919 + (Int.tmod (((gi d 1).int + 1) - 1) (((gi d 0).rows.length : Nat) : Int))))), .i (gi d 2).int]) fun g3 => some [.l (gi d 0).rows, .i ((gi d 1).int + 1), .i (gi g3 0).int]) else none) else none) else none)) else none) else none) else none) else none) else none)) else none)
def s_pilemake_Stream_Next : FSpec := ⟨44, [.s (.ptr 0 0), .s (.int .i64)], [.box [.list [.int .i64], .int .i64]], [.slot 0], [.s (.int .i64)], [.box [.list [.int .i64], .int .i64]], [.fix 0], [], F_pilemake_Stream_Next⟩
theorem b_pilemake_Stream_Next : BodyOK P t7 noLoops Tryz.f44 s_pilemake_Stream_Next := fun d => by kernel_rfl
theorem c_pilemake_Stream_Next : ∀ d r, F_pilemake_Stream_Next d = some r → ACallX P 44 (s_pilemake_Stream_Next.args0 d) (denH (s_pilemake_Stream_Next.H0 d)) (s_pilemake_Stream_Next.out r) (denH (s_pilemake_Stream_Next.H1 r)) := fun d r h => body_sound hm t7_ok (sp := s_pilemake_Stream_Next) Tryz.func44 (by kernel_rfl) (noLoops_ok _ _ _) b_pilemake_Stream_Next (by kernel_rfl) h
def t8 : Tab := t7.addW s_pilemake_Stream_Next
theorem t8_ok : TabOK P t8 := t7_ok.addW (by kernel_rfl) (by kernel_rfl) c_pilemake_Stream_Next

/- (*pileup/pilemake.Stream).Range -/
def F_pilemake_Stream_Range (d : List G) : Option (List G) :=
  (bif (ltI (gi d 3).int (gi d 2).int) then some [.l (gi d 0).rows, .i (gi d 1).int, .i (gi d 2).int] else (bif (inI ((gi d 3).int - (gi d 2).int)) then (bif (inI (((gi d 3).int - (gi d 2).int) + 1)) then (callF (F_pilemake_Stream_Next [.l (gi d 0).rows, .i (gi d 1).int, .i (((gi d 3).int - (gi d 2).int) + 1)]) fun g1 => (bif (inI ((gi d 2).int + (gi g1 2).int)) then some [.l (gi g1 0).rows, .i (gi g1 1).int, .i ((gi d 2).int + (gi g1 2).int)] else none)) else none) else none))
def s_pilemake_Stream_Range : FSpec := ⟨46, [.s (.ptr 0 0), .s (.int .i64), .s (.int .i64)], [.box [.list [.int .i64], .int .i64]], [.slot 0], [.s (.int .i64)], [.box [.list [.int .i64], .int .i64]], [.fix 0], [], F_pilemake_Stream_Range⟩
theorem b_pilemake_Stream_Range : BodyOK P t8 noLoops Tryz.f46 s_pilemake_Stream_Range := fun d => by kernel_rfl
theorem c_pilemake_Stream_Range : ∀ d r, F_pilemake_Stream_Range d = some r → ACallX P 46 (s_pilemake_Stream_Range.args0 d) (denH (s_pilemake_Stream_Range.H0 d)) (s_pilemake_Stream_Range.out r) (denH (s_pilemake_Stream_Range.H1 r)) := fun d r h => body_sound hm t8_ok (sp := s_pilemake_Stream_Range) Tryz.func46 (by kernel_rfl) (noLoops_ok _ _ _) b_pilemake_Stream_Range (by kernel_rfl) h
def t9 : Tab := t8.addW s_pilemake_Stream_Range
theorem t9_ok : TabOK P t9 := t8_ok.addW (by kernel_rfl) (by kernel_rfl) c_pilemake_Stream_Range

/- (*pileup/pilemake.Stream).Pick -/
def F_pilemake_Stream_Pick (d : List G) : Option (List G) :=
  (callF (F_pilemake_Stream_Next [.l (gi d 0).rows, .i (gi d 1).int, .i (((gi d 2).rows.length : Nat) : Int)]) fun g1 => (bif ((nnI (gi g1 2).int) && (ltI (gi g1 2).int (((gi d 2).rows.length : Nat) : Int))) then some [.l (gi g1 0).rows, .i (gi g1 1).int, .i (gi ((gi d 2).rows.getD (((gi g1 2).int).toNat) []) 0).int] else none))
def s_pilemake_Stream_Pick : FSpec := ⟨9, [.s (.ptr 0 0), .s (.list [.int .i64])], [.box [.list [.int .i64], .int .i64]], [.slot 0], [.s (.int .i64)], [.box [.list [.int .i64], .int .i64]], [.fix 0], [], F_pilemake_Stream_Pick⟩
theorem b_pilemake_Stream_Pick : BodyOK P t9 noLoops Tryz.f9 s_pilemake_Stream_Pick := fun d => by kernel_rfl
theorem c_pilemake_Stream_Pick : ∀ d r, F_pilemake_Stream_Pick d = some r → ACallX P 9 (s_pilemake_Stream_Pick.args0 d) (denH (s_pilemake_Stream_Pick.H0 d)) (s_pilemake_Stream_Pick.out r) (denH (s_pilemake_Stream_Pick.H1 r)) := fun d r h => body_sound hm t9_ok (sp := s_pilemake_Stream_Pick) Tryz.func9 (by kernel_rfl) (noLoops_ok _ _ _) b_pilemake_Stream_Pick (by kernel_rfl) h
def t10 : Tab := t9.addW s_pilemake_Stream_Pick
theorem t10_ok : TabOK P t10 := t9_ok.addW (by kernel_rfl) (by kernel_rfl) c_pilemake_Stream_Pick

/- (*pileup/pilemake.Stream).Some -/
def F_pilemake_Stream_Some (d : List G) : Option (List G) :=
  (callF (F_pilemake_Stream_Next [.l (gi d 0).rows, .i (gi d 1).int, .i (((gi d 2).rows.length : Nat) : Int)]) fun g1 => (bif ((nnI (gi g1 2).int) && (ltI (gi g1 2).int (((gi d 2).rows.length : Nat) : Int))) then some [.l (gi g1 0).rows, .i (gi g1 1).int, .s (gi ((gi d 2).rows.getD (((gi g1 2).int).toNat) []) 0).str] else none))
def s_pilemake_Stream_Some : FSpec := ⟨30, [.s (.ptr 0 0), .s (.list [.str])], [.box [.list [.int .i64], .int .i64]], [.slot 0], [.s (.str)], [.box [.list [.int .i64], .int .i64]], [.fix 0], [], F_pilemake_Stream_Some⟩
theorem b_pilemake_Stream_Some : BodyOK P t10 noLoops Tryz.f30 s_pilemake_Stream_Some := fun d => by kernel_rfl
theorem c_pilemake_Stream_Some : ∀ d r, F_pilemake_Stream_Some d = some r → ACallX P 30 (s_pilemake_Stream_Some.args0 d) (denH (s_pilemake_Stream_Some.H0 d)) (s_pilemake_Stream_Some.out r) (denH (s_pilemake_Stream_Some.H1 r)) := fun d r h => body_sound hm t10_ok (sp := s_pilemake_Stream_Some) Tryz.func30 (by kernel_rfl) (noLoops_ok _ _ _) b_pilemake_Stream_Some (by kernel_rfl) h
def t11 : Tab := t10.addW s_pilemake_Stream_Some
theorem t11_ok : TabOK P t11 := t10_ok.addW (by kernel_rfl) (by kernel_rfl) c_pilemake_Stream_Some

/- (*pileup/pilemake.Stream).Flip -/
def F_pilemake_Stream_Flip (d : List G) : Option (List G) :=
  (callF (F_pilemake_Stream_Next [.l (gi d 0).rows, .i (gi d 1).int, .i (gi d 2).int]) fun g1 => some [.l (gi g1 0).rows, .i (gi g1 1).int, .t ((gi g1 2).int == 0)])
def s_pilemake_Stream_Flip : FSpec := ⟨43, [.s (.ptr 0 0), .s (.int .i64)], [.box [.list [.int .i64], .int .i64]], [.slot 0], [.s (.bool)], [.box [.list [.int .i64], .int .i64]], [.fix 0], [], F_pilemake_Stream_Flip⟩
theorem b_pilemake_Stream_Flip : BodyOK P t11 noLoops Tryz.f43 s_pilemake_Stream_Flip := fun d => by kernel_rfl
theorem c_pilemake_Stream_Flip : ∀ d r, F_pilemake_Stream_Flip d = some r → ACallX P 43 (s_pilemake_Stream_Flip.args0 d) (denH (s_pilemake_Stream_Flip.H0 d)) (s_pilemake_Stream_Flip.out r) (denH (s_pilemake_Stream_Flip.H1 r)) := fun d r h => body_sound hm t11_ok (sp := s_pilemake_Stream_Flip) Tryz.func43 (by kernel_rfl) (noLoops_ok _ _ _) b_pilemake_Stream_Flip (by kernel_rfl) h
def t12 : Tab := t11.addW s_pilemake_Stream_Flip
theorem t12_ok : TabOK P t12 := t11_ok.addW (by kernel_rfl) (by kernel_rfl) c_pilemake_Stream_Flip

/- (*pileup/pilemake.Stream).Odd -/
def F_pilemake_Stream_Odd (d : List G) : Option (List G) :=
  (callF (F_pilemake_Stream_Flip [.l (gi d 0).rows, .i (gi d 1).int, .i 12]) fun g1 => (bif (gi g1 2).bool then (bif (inI ((gi d 2).int - 1)) then (bif (inI ((gi d 3).int + 1)) then (callF (F_pilemake_Stream_Pick [.l (gi g1 0).rows, .i (gi g1 1).int, .l [[.i ((gi d 2).int - 1)], [.i ((gi d 3).int + 1)], [.i (gi d 2).int], [.i (gi d 3).int], [.i (-1099511627776)], [.i 1099511627776]]]) fun g2 => some [.l (gi g2 0).rows, .i (gi g2 1).int, .i (gi g2 2).int]) else none) else none) else (callF (F_pilemake_Stream_Range [.l (gi g1 0).rows, .i (gi g1 1).int, .i (gi d 2).int, .i (gi d 3).int]) fun g3 => some [.l (gi g3 0).rows, .i (gi g3 1).int, .i (gi g3 2).int])))
def s_pilemake_Stream_Odd : FSpec := ⟨47, [.s (.ptr 0 0), .s (.int .i64), .s (.int .i64)], [.box [.list [.int .i64], .int .i64]], [.slot 0], [.s (.int .i64)], [.box [.list [.int .i64], .int .i64]], [.fix 0], [], F_pilemake_Stream_Odd⟩
theorem b_pilemake_Stream_Odd : BodyOK P t12 noLoops Tryz.f47 s_pilemake_Stream_Odd := fun d => by kernel_rfl
theorem c_pilemake_Stream_Odd : ∀ d r, F_pilemake_Stream_Odd d = some r → ACallX P 47 (s_pilemake_Stream_Odd.args0 d) (denH (s_pilemake_Stream_Odd.H0 d)) (s_pilemake_Stream_Odd.out r) (denH (s_pilemake_Stream_Odd.H1 r)) := fun d r h => body_sound hm t12_ok (sp := s_pilemake_Stream_Odd) Tryz.func47 (by kernel_rfl) (noLoops_ok _ _ _) b_pilemake_Stream_Odd (by kernel_rfl) h
def t13 : Tab := t12.addW s_pilemake_Stream_Odd
theorem t13_ok : TabOK P t13 := t12_ok.addW (by kernel_rfl) (by kernel_rfl) c_pilemake_Stream_Odd

/- cmp.isNaN[int] -/
def F_cmp_isNaN_int (d : List G) : Option (List G) :=
  some [.t ((gi d 0).int != (gi d 0).int)]
def s_cmp_isNaN_int : FSpec := ⟨112, [.s (.int .i64)], [], [], [.s (.bool)], [], [], [], F_cmp_isNaN_int⟩
theorem b_cmp_isNaN_int : BodyOK P t13 noLoops Tryz.f112 s_cmp_isNaN_int := fun d => by kernel_rfl
theorem c_cmp_isNaN_int : ∀ d r, F_cmp_isNaN_int d = some r → ACallX P 112 (s_cmp_isNaN_int.args0 d) (denH (s_cmp_isNaN_int.H0 d)) (s_cmp_isNaN_int.out r) (denH (s_cmp_isNaN_int.H1 r)) := fun d r h => body_sound hm t13_ok (sp := s_cmp_isNaN_int) Tryz.func112 (by kernel_rfl) (noLoops_ok _ _ _) b_cmp_isNaN_int (by kernel_rfl) h
def t14 : Tab := t13.addP s_cmp_isNaN_int
theorem t14_ok : TabOK P t14 := t13_ok.addP (by kernel_rfl) (by kernel_rfl) c_cmp_isNaN_int

/- cmp.Compare[int] -/
def F_cmp_Compare_int (d : List G) : Option (List G) :=
  (callF (F_cmp_isNaN_int [.i (gi d 0).int]) fun g1 => (callF (F_cmp_isNaN_int [.i (gi d 1).int]) fun g2 => (bif (gi g1 0).bool then (bif (gi g2 0).bool then some [.i 0] else some [.i (-1)]) else (bif (gi g2 0).bool then some [.i 1] else (bif (ltI (gi d 0).int (gi d 1).int) then some [.i (-1)] else (bif (ltI (gi d 1).int (gi d 0).int) then some [.i 1] else some [.i 0]))))))
def s_cmp_Compare_int : FSpec := ⟨80, [.s (.int .i64), .s (.int .i64)], [], [], [.s (.int .i64)], [], [], [], F_cmp_Compare_int⟩
theorem b_cmp_Compare_int : BodyOK P t14 noLoops Tryz.f80 s_cmp_Compare_int := fun d => by kernel_rfl
theorem c_cmp_Compare_int : ∀ d r, F_cmp_Compare_int d = some r → ACallX P 80 (s_cmp_Compare_int.args0 d) (denH (s_cmp_Compare_int.H0 d)) (s_cmp_Compare_int.out r) (denH (s_cmp_Compare_int.H1 r)) := fun d r h => body_sound hm t14_ok (sp := s_cmp_Compare_int) Tryz.func80 (by kernel_rfl) (noLoops_ok _ _ _) b_cmp_Compare_int (by kernel_rfl) h
def t15 : Tab := t14.addP s_cmp_Compare_int
theorem t15_ok : TabOK P t15 := t14_ok.addP (by kernel_rfl) (by kernel_rfl) c_cmp_Compare_int

/- slices.Compare[[]int,int] -/
def st_slices_Compare_int_2 (d : List G) : Option (Option Nat × List G) :=
  (bif (ltI (gi d 4).int (gi d 3).int) then (bif ((nnI (gi d 4).int) && (ltI (gi d 4).int (((gi d 2).rows.length : Nat) : Int))) then (bif (leI (((gi d 1).rows.length : Nat) : Int) (gi d 4).int) then some (some 0, [.i 1]) else (bif ((nnI (gi d 4).int) && (ltI (gi d 4).int (((gi d 1).rows.length : Nat) : Int))) then (callF (F_cmp_Compare_int [.i (gi ((gi d 2).rows.getD (((gi d 4).int).toNat) []) 0).int, .i (gi ((gi d 1).rows.getD (((gi d 4).int).toNat) []) 0).int]) fun g1 => (bif ((gi g1 0).int != 0) then some (some 0, [.i (gi g1 0).int]) else (bif (inI ((gi d 4).int + 1)) then some (none, [.l (gi d 0).rows, .l (gi d 1).rows, .l (gi d 2).rows, .i (gi d 3).int, .i ((gi d 4).int + 1)]) else none))) else none)) else none) else some (some 1, [.l (gi d 0).rows, .l (gi d 1).rows]))
def l_slices_Compare_int_2 : LSpec := ⟨2, [], ⟨36, [(0, .s (.list [.int .i64])), (1, .s (.list [.int .i64])), (9, .s (.list [.int .i64])), (10, .s (.int .i64)), (11, .s (.int .i64))], []⟩, [], [⟨.ret, ⟨36, [(4, .s (.int .i64))], []⟩, []⟩, ⟨.exit 0, ⟨36, [(0, .s (.list [.int .i64])), (1, .s (.list [.int .i64]))], []⟩, []⟩], st_slices_Compare_int_2⟩
theorem r_slices_Compare_int_2 : RoundOK P t15 noLoops 0 (loopAt Tryz.f72 2) l_slices_Compare_int_2 := fun d => by kernel_rfl
def L_slices_Compare_int_2 : LT := noLoops.add 0 l_slices_Compare_int_2
theorem L_slices_Compare_int_2_ok : LoopsOK P 0 L_slices_Compare_int_2 (bodyOf Tryz.f72) := LoopsOK.add hm t15_ok (by kernel_rfl) (noLoops_ok _ _ _) r_slices_Compare_int_2
def F_slices_Compare_int (d : List G) : Option (List G) :=
  (loopB true (LRun st_slices_Compare_int_2 [.l (gi d 0).rows, .l (gi d 1).rows, .l (gi d 0).rows, .i (((gi d 0).rows.length : Nat) : Int), .i 0]) fun cg2 g2 => (bif Nat.beq cg2 0 then some [.i (gi g2 0).int] else (bif (ltI (((gi g2 0).rows.length : Nat) : Int) (((gi g2 1).rows.length : Nat) : Int)) then some [.i (-1)] else some [.i 0])))
def s_slices_Compare_int : FSpec := ⟨72, [.s (.list [.int .i64]), .s (.list [.int .i64])], [], [], [.s (.int .i64)], [], [], [], F_slices_Compare_int⟩
theorem b_slices_Compare_int : BodyOK P t15 L_slices_Compare_int_2 Tryz.f72 s_slices_Compare_int := fun d => by kernel_rfl
theorem c_slices_Compare_int : ∀ d r, F_slices_Compare_int d = some r → ACallX P 72 (s_slices_Compare_int.args0 d) (denH (s_slices_Compare_int.H0 d)) (s_slices_Compare_int.out r) (denH (s_slices_Compare_int.H1 r)) := fun d r h => body_sound hm t15_ok (sp := s_slices_Compare_int) Tryz.func72 (by kernel_rfl) L_slices_Compare_int_2_ok b_slices_Compare_int (by kernel_rfl) h
def t16 : Tab := t15.addP s_slices_Compare_int
theorem t16_ok : TabOK P t16 := t15_ok.addP (by kernel_rfl) (by kernel_rfl) c_slices_Compare_int

/- cmp.isNaN[string] -/
def F_cmp_isNaN_string (d : List G) : Option (List G) :=
  some [.t (!((gi d 0).str.toList == (gi d 0).str.toList))]
def s_cmp_isNaN_string : FSpec := ⟨143, [.s (.str)], [], [], [.s (.bool)], [], [], [], F_cmp_isNaN_string⟩
theorem b_cmp_isNaN_string : BodyOK P t16 noLoops Tryz.f143 s_cmp_isNaN_string := fun d => by kernel_rfl
theorem c_cmp_isNaN_string : ∀ d r, F_cmp_isNaN_string d = some r → ACallX P 143 (s_cmp_isNaN_string.args0 d) (denH (s_cmp_isNaN_string.H0 d)) (s_cmp_isNaN_string.out r) (denH (s_cmp_isNaN_string.H1 r)) := fun d r h => body_sound hm t16_ok (sp := s_cmp_isNaN_string) Tryz.func143 (by kernel_rfl) (noLoops_ok _ _ _) b_cmp_isNaN_string (by kernel_rfl) h
def t17 : Tab := t16.addP s_cmp_isNaN_string
theorem t17_ok : TabOK P t17 := t16_ok.addP (by kernel_rfl) (by kernel_rfl) c_cmp_isNaN_string

/- cmp.Compare[string] -/
def F_cmp_Compare_string (d : List G) : Option (List G) :=
  (callF (F_cmp_isNaN_string [.s (gi d 0).str]) fun g1 => (callF (F_cmp_isNaN_string [.s (gi d 1).str]) fun g2 => (bif (gi g1 0).bool then (bif (gi g2 0).bool then some [.i 0] else some [.i (-1)]) else (bif (gi g2 0).bool then some [.i 1] else (bif (Op.bytesLess (gi d 0).str.toList (gi d 1).str.toList) then some [.i (-1)] else (bif (!((Op.bytesLess (gi d 0).str.toList (gi d 1).str.toList) || ((gi d 0).str.toList == (gi d 1).str.toList))) then some [.i 1] else some [.i 0]))))))
def s_cmp_Compare_string : FSpec := ⟨107, [.s (.str), .s (.str)], [], [], [.s (.int .i64)], [], [], [], F_cmp_Compare_string⟩
theorem b_cmp_Compare_string : BodyOK P t17 noLoops Tryz.f107 s_cmp_Compare_string := fun d => by kernel_rfl
theorem c_cmp_Compare_string : ∀ d r, F_cmp_Compare_string d = some r → ACallX P 107 (s_cmp_Compare_string.args0 d) (denH (s_cmp_Compare_string.H0 d)) (s_cmp_Compare_string.out r) (denH (s_cmp_Compare_string.H1 r)) := fun d r h => body_sound hm t17_ok (sp := s_cmp_Compare_string) Tryz.func107 (by kernel_rfl) (noLoops_ok _ _ _) b_cmp_Compare_string (by kernel_rfl) h
def t18 : Tab := t17.addP s_cmp_Compare_string
theorem t18_ok : TabOK P t18 := t17_ok.addP (by kernel_rfl) (by kernel_rfl) c_cmp_Compare_string

/- slices.Compare[[]string,string] -/
def st_slices_Compare_string_2 (d : List G) : Option (Option Nat × List G) :=
  (bif (ltI (gi d 4).int (gi d 3).int) then (bif ((nnI (gi d 4).int) && (ltI (gi d 4).int (((gi d 2).rows.length : Nat) : Int))) then (bif (leI (((gi d 1).rows.length : Nat) : Int) (gi d 4).int) then some (some 0, [.i 1]) else (bif ((nnI (gi d 4).int) && (ltI (gi d 4).int (((gi d 1).rows.length : Nat) : Int))) then (callF (F_cmp_Compare_string [.s (gi ((gi d 2).rows.getD (((gi d 4).int).toNat) []) 0).str, .s (gi ((gi d 1).rows.getD (((gi d 4).int).toNat) []) 0).str]) fun g1 => (bif ((gi g1 0).int != 0) then some (some 0, [.i (gi g1 0).int]) else (bif (inI ((gi d 4).int + 1)) then some (none, [.l (gi d 0).rows, .l (gi d 1).rows, .l (gi d 2).rows, .i (gi d 3).int, .i ((gi d 4).int + 1)]) else none))) else none)) else none) else some (some 1, [.l (gi d 0).rows, .l (gi d 1).rows]))
def l_slices_Compare_string_2 : LSpec := ⟨2, [], ⟨36, [(0, .s (.list [.str])), (1, .s (.list [.str])), (9, .s (.list [.str])), (10, .s (.int .i64)), (11, .s (.int .i64))], []⟩, [], [⟨.ret, ⟨36, [(4, .s (.int .i64))], []⟩, []⟩, ⟨.exit 0, ⟨36, [(0, .s (.list [.str])), (1, .s (.list [.str]))], []⟩, []⟩], st_slices_Compare_string_2⟩
theorem r_slices_Compare_string_2 : RoundOK P t18 noLoops 0 (loopAt Tryz.f73 2) l_slices_Compare_string_2 := fun d => by kernel_rfl
def L_slices_Compare_string_2 : LT := noLoops.add 0 l_slices_Compare_string_2
theorem L_slices_Compare_string_2_ok : LoopsOK P 0 L_slices_Compare_string_2 (bodyOf Tryz.f73) := LoopsOK.add hm t18_ok (by kernel_rfl) (noLoops_ok _ _ _) r_slices_Compare_string_2
def F_slices_Compare_string (d : List G) : Option (List G) :=
  (loopB true (LRun st_slices_Compare_string_2 [.l (gi d 0).rows, .l (gi d 1).rows, .l (gi d 0).rows, .i (((gi d 0).rows.length : Nat) : Int), .i 0]) fun cg2 g2 => (bif Nat.beq cg2 0 then some [.i (gi g2 0).int] else (bif (ltI (((gi g2 0).rows.length : Nat) : Int) (((gi g2 1).rows.length : Nat) : Int)) then some [.i (-1)] else some [.i 0])))
def s_slices_Compare_string : FSpec := ⟨73, [.s (.list [.str]), .s (.list [.str])], [], [], [.s (.int .i64)], [], [], [], F_slices_Compare_string⟩
theorem b_slices_Compare_string : BodyOK P t18 L_slices_Compare_string_2 Tryz.f73 s_slices_Compare_string := fun d => by kernel_rfl
theorem c_slices_Compare_string : ∀ d r, F_slices_Compare_string d = some r → ACallX P 73 (s_slices_Compare_string.args0 d) (denH (s_slices_Compare_string.H0 d)) (s_slices_Compare_string.out r) (denH (s_slices_Compare_string.H1 r)) := fun d r h => body_sound hm t18_ok (sp := s_slices_Compare_string) Tryz.func73 (by kernel_rfl) L_slices_Compare_string_2_ok b_slices_Compare_string (by kernel_rfl) h
def t19 : Tab := t18.addP s_slices_Compare_string
theorem t19_ok : TabOK P t19 := t18_ok.addP (by kernel_rfl) (by kernel_rfl) c_slices_Compare_string

/- (*pileup/pilemake.Stream).Tries$1 -/
def F_pilemake_Stream_Tries_1 (d : List G) : Option (List G) :=
  (bif ((gi (gi d 0).row 0).int != (gi (gi d 1).row 0).int) then (callF (F_slices_Compare_int [.l [[.i (gi (gi d 0).row 0).int]], .l [[.i (gi (gi d 1).row 0).int]]]) fun g1 => some [.i (gi g1 0).int]) else (callF (F_slices_Compare_string [.l [[.s (gi (gi d 0).row 2).str], [.s (gi (gi d 0).row 1).str]], .l [[.s (gi (gi d 1).row 2).str], [.s (gi (gi d 1).row 1).str]]]) fun g2 => some [.i (gi g2 0).int]))
def s_pilemake_Stream_Tries_1 : FSpec := ⟨71, [.s (.row KTry), .s (.row KTry)], [], [], [.s (.int .i64)], [], [], [], F_pilemake_Stream_Tries_1⟩
theorem b_pilemake_Stream_Tries_1 : BodyOK P t19 noLoops Tryz.f71 s_pilemake_Stream_Tries_1 := fun d => by kernel_rfl
theorem c_pilemake_Stream_Tries_1 : ∀ d r, F_pilemake_Stream_Tries_1 d = some r → ACallX P 71 (s_pilemake_Stream_Tries_1.args0 d) (denH (s_pilemake_Stream_Tries_1.H0 d)) (s_pilemake_Stream_Tries_1.out r) (denH (s_pilemake_Stream_Tries_1.H1 r)) := fun d r h => body_sound hm t19_ok (sp := s_pilemake_Stream_Tries_1) Tryz.func71 (by kernel_rfl) (noLoops_ok _ _ _) b_pilemake_Stream_Tries_1 (by kernel_rfl) h
def t20 : Tab := t19.addP s_pilemake_Stream_Tries_1
theorem t20_ok : TabOK P t20 := t19_ok.addP (by kernel_rfl) (by kernel_rfl) c_pilemake_Stream_Tries_1

/- slices.insertionSortCmpFunc[pileup/api.Try] -/
def st_slices_insertionSortCmpFunc_Try_4 (d : List G) : Option (Option Nat × List G) :=
  (bif (ltI (gi d 1).int (gi d 4).int) then (bif ((nnI (gi d 4).int) && (ltI (gi d 4).int (((gi d 0).rows.length : Nat) : Int))) then (bif (decide ((0 + ((gi d 4).int).toNat) < (gi d 0).rows.length)) then (bif (inI ((gi d 4).int - 1)) then (bif ((nnI ((gi d 4).int - 1)) && (ltI ((gi d 4).int - 1) (((gi d 0).rows.length : Nat) : Int))) then (bif (decide ((0 + ((gi d 4).int - 1).toNat) < (gi d 0).rows.length)) then (callF (F_pilemake_Stream_Tries_1 [.l [(gEta KTry ((gi d 0).rows.getD (0 + ((gi d 4).int).toNat) []))], .l [(gEta KTry ((gi d 0).rows.getD (0 + ((gi d 4).int - 1).toNat) []))]]) fun g1 => (bif (ltI (gi g1 0).int 0) then (bif (inI ((gi d 4).int - 1)) then (bif (inI ((gi d 4).int - 1)) then (bif ((nnI ((gi d 4).int - 1)) && (ltI ((gi d 4).int - 1) (((gi d 0).rows.length : Nat) : Int))) then (bif (decide ((0 + ((gi d 4).int - 1).toNat) < (gi d 0).rows.length)) then (bif ((nnI (gi d 4).int) && (ltI (gi d 4).int (((gi d 0).rows.length : Nat) : Int))) then (bif (decide ((0 + ((gi d 4).int).toNat) < (gi d 0).rows.length)) then (bif ((nnI (gi d 4).int) && (ltI (gi d 4).int (((gi d 0).rows.length : Nat) : Int))) then (bif (decide ((0 + ((gi d 4).int).toNat) < (gi d 0).rows.length)) then (bif ((nnI ((gi d 4).int - 1)) && (ltI ((gi d 4).int - 1) (((gi d 0).rows.length : Nat) : Int))) then (bif (decide ((0 + ((gi d 4).int - 1).toNat) < ((gi d 0).rows.set (0 + ((gi d 4).int).toNat) (putG KTry ((gi d 0).rows.getD (0 + ((gi d 4).int).toNat) []) 0 (gEta KTry ((gi d 0).rows.getD (0 + ((gi d 4).int - 1).toNat) [])))).length)) then (bif (inI ((gi d 4).int - 1)) then (bif ((Nat.beq (gi d 0).rows.length (((gi d 0).rows.set (0 + ((gi d 4).int).toNat) (putG KTry ((gi d 0).rows.getD (0 + ((gi d 4).int).toNat) []) 0 (gEta KTry ((gi d 0).rows.getD (0 + ((gi d 4).int - 1).toNat) [])))).set (0 + ((gi d 4).int - 1).toNat) (putG KTry (((gi d 0).rows.set (0 + ((gi d 4).int).toNat) (putG KTry ((gi d 0).rows.getD (0 + ((gi d 4).int).toNat) []) 0 (gEta KTry ((gi d 0).rows.getD (0 + ((gi d 4).int - 1).toNat) [])))).getD (0 + ((gi d 4).int - 1).toNat) []) 0 (gEta KTry ((gi d 0).rows.getD (0 + ((gi d 4).int).toNat) [])))).length) && true) then some (none, [.l (((gi d 0).rows.set (0 + ((gi d 4).int).toNat) (putG KTry ((gi d 0).rows.getD (0 + ((gi d 4).int).toNat) []) 0 (gEta KTry ((gi d 0).rows.getD (0 + ((gi d 4).int - 1).toNat) [])))).set (0 + ((gi d 4).int - 1).toNat) (putG KTry (((gi d 0).rows.set (0 + ((gi d 4).int).toNat) (putG KTry ((gi d 0).rows.getD (0 + ((gi d 4).int).toNat) []) 0 (gEta KTry ((gi d 0).rows.getD (0 + ((gi d 4).int - 1).toNat) [])))).getD (0 + ((gi d 4).int - 1).toNat) []) 0 (gEta KTry ((gi d 0).rows.getD (0 + ((gi d 4).int).toNat) [])))), .i (gi d 1).int, .i (gi d 2).int, .i (gi d 3).int, .i ((gi d 4).int - 1)]) else none) else none) else none) else none) else none) else none) else none) else none) else none) else none) else none) else none) else (bif ((Nat.beq (gi d 0).rows.length (gi d 0).rows.length) && true) then some (some 0, [.l (gi d 0).rows, .i (gi d 1).int, .i (gi d 2).int, .i (gi d 3).int]) else none))) else none) else none) else none) else none) else none) else (bif ((Nat.beq (gi d 0).rows.length (gi d 0).rows.length) && true) then some (some 0, [.l (gi d 0).rows, .i (gi d 1).int, .i (gi d 2).int, .i (gi d 3).int]) else none))
def l_slices_insertionSortCmpFunc_Try_4 : LSpec := ⟨4, [], ⟨53, [(0, .s (.vec 0 4)), (1, .s (.int .i64)), (2, .s (.int .i64)), (3, .s (.fn 71)), (8, .s (.int .i64)), (9, .s (.int .i64))], [.vec KTry 0]⟩, [.fix 0], [⟨.exit 2, ⟨53, [(0, .s (.vec 0 4)), (1, .s (.int .i64)), (2, .s (.int .i64)), (3, .s (.fn 71)), (8, .s (.int .i64))], [.vec KTry 0]⟩, [.fix 0]⟩], st_slices_insertionSortCmpFunc_Try_4⟩
theorem r_slices_insertionSortCmpFunc_Try_4 : RoundOK P t20 noLoops 1 (loopAt Tryz.f141 4) l_slices_insertionSortCmpFunc_Try_4 := fun d => by kernel_rfl
def L_slices_insertionSortCmpFunc_Try_4 : LT := noLoops.add 1 l_slices_insertionSortCmpFunc_Try_4
theorem L_slices_insertionSortCmpFunc_Try_4_ok : LoopsOK P 1 L_slices_insertionSortCmpFunc_Try_4 (bodyOf Tryz.f141) := LoopsOK.add hm t20_ok (by kernel_rfl) (noLoops_ok _ _ _) r_slices_insertionSortCmpFunc_Try_4
def st_slices_insertionSortCmpFunc_Try_1 (d : List G) : Option (Option Nat × List G) :=
  (bif (ltI (gi d 3).int (gi d 2).int) then (loopB ((Nat.beq (gi d 0).rows.length (gi d 0).rows.length) && true) (LRun st_slices_insertionSortCmpFunc_Try_4 [.l (gi d 0).rows, .i (gi d 1).int, .i (gi d 2).int, .i (gi d 3).int, .i (gi d 3).int]) fun cg2 g2 => (bif (inI ((gi g2 3).int + 1)) then (bif ((Nat.beq (gi g2 0).rows.length (gi g2 0).rows.length) && true) then some (none, [.l (gi g2 0).rows, .i (gi g2 1).int, .i (gi g2 2).int, .i ((gi g2 3).int + 1)]) else none) else none)) else some (some 0, [.l (gi d 0).rows]))
def l_slices_insertionSortCmpFunc_Try_1 : LSpec := ⟨1, [], ⟨53, [(0, .s (.vec 0 4)), (1, .s (.int .i64)), (2, .s (.int .i64)), (3, .s (.fn 71)), (8, .s (.int .i64))], [.vec KTry 0]⟩, [.fix 0], [⟨.exit 0, ⟨53, [], [.vec KTry 0]⟩, [.fix 0]⟩], st_slices_insertionSortCmpFunc_Try_1⟩
theorem r_slices_insertionSortCmpFunc_Try_1 : RoundOK P t20 L_slices_insertionSortCmpFunc_Try_4 1 (loopAt Tryz.f141 1) l_slices_insertionSortCmpFunc_Try_1 := fun d => by kernel_rfl
def L_slices_insertionSortCmpFunc_Try_1 : LT := L_slices_insertionSortCmpFunc_Try_4.add 1 l_slices_insertionSortCmpFunc_Try_1
theorem L_slices_insertionSortCmpFunc_Try_1_ok : LoopsOK P 1 L_slices_insertionSortCmpFunc_Try_1 (bodyOf Tryz.f141) := LoopsOK.add hm t20_ok (by kernel_rfl) L_slices_insertionSortCmpFunc_Try_4_ok r_slices_insertionSortCmpFunc_Try_1
def F_slices_insertionSortCmpFunc_Try (d : List G) : Option (List G) :=
  (bif (inI ((gi d 1).int + 1)) then (loopB ((Nat.beq (gi d 0).rows.length (gi d 0).rows.length) && true) (LRun st_slices_insertionSortCmpFunc_Try_1 [.l (gi d 0).rows, .i (gi d 1).int, .i (gi d 2).int, .i ((gi d 1).int + 1)]) fun cg3 g3 => some [.l (gi g3 0).rows]) else none)
def s_slices_insertionSortCmpFunc_Try : FSpec := ⟨141, [.s (.vec 0 4), .s (.int .i64), .s (.int .i64), .s (.fn 71)], [.vec KTry 0], [.slot 0], [], [.vec KTry 0], [.fix 0], [], F_slices_insertionSortCmpFunc_Try⟩
theorem b_slices_insertionSortCmpFunc_Try : BodyOK P t20 L_slices_insertionSortCmpFunc_Try_1 Tryz.f141 s_slices_insertionSortCmpFunc_Try := fun d => by kernel_rfl
theorem c_slices_insertionSortCmpFunc_Try : ∀ d r, F_slices_insertionSortCmpFunc_Try d = some r → ACallX P 141 (s_slices_insertionSortCmpFunc_Try.args0 d) (denH (s_slices_insertionSortCmpFunc_Try.H0 d)) (s_slices_insertionSortCmpFunc_Try.out r) (denH (s_slices_insertionSortCmpFunc_Try.H1 r)) := fun d r h => body_sound hm t20_ok (sp := s_slices_insertionSortCmpFunc_Try) Tryz.func141 (by kernel_rfl) L_slices_insertionSortCmpFunc_Try_1_ok b_slices_insertionSortCmpFunc_Try (by kernel_rfl) h
def t21 : Tab := t20.addW s_slices_insertionSortCmpFunc_Try
theorem t21_ok : TabOK P t21 := t20_ok.addW (by kernel_rfl) (by kernel_rfl) c_slices_insertionSortCmpFunc_Try

/- slices.stableCmpFunc[pileup/api.Try] -/
/- not followed: a call of slices.symMergeCmpFunc[pileup/api.Try] at zsortanyfunc.go:348; a call of slices.symMergeCmpFunc[pileup/api.Try] at zsortanyfunc.go:353 -/
def st_slices_stableCmpFunc_Try_2 (d : List G) : Option (Option Nat × List G) :=
  (bif (leI (gi d 4).int (gi d 1).int) then (callB (((Nat.beq (gi d 0).rows.length (gi d 0).rows.length) && true) && (F_slices_insertionSortCmpFunc_Try [.l (gi d 0).rows, .i (gi d 3).int, .i (gi d 4).int]).isSome) (F_slices_insertionSortCmpFunc_Try [.l (gi d 0).rows, .i (gi d 3).int, .i (gi d 4).int]) fun g1 => (bif (inI ((gi d 4).int + (gi d 2).int)) then (bif ((Nat.beq (gi d 0).rows.length (gi g1 0).rows.length) && true) then some (none, [.l (gi g1 0).rows, .i (gi d 1).int, .i (gi d 2).int, .i (gi d 4).int, .i ((gi d 4).int + (gi d 2).int)]) else none) else none)) else (bif ((Nat.beq (gi d 0).rows.length (gi d 0).rows.length) && true) then some (some 0, [.l (gi d 0).rows, .i (gi d 1).int, .i (gi d 2).int, .i (gi d 3).int]) else none))
def l_slices_stableCmpFunc_Try_2 : LSpec := ⟨2, [], ⟨63, [(0, .s (.vec 0 4)), (1, .s (.int .i64)), (2, .s (.fn 71)), (6, .s (.int .i64)), (7, .s (.int .i64)), (8, .s (.int .i64))], [.vec KTry 0]⟩, [.fix 0], [⟨.exit 0, ⟨63, [(0, .s (.vec 0 4)), (1, .s (.int .i64)), (2, .s (.fn 71)), (6, .s (.int .i64)), (7, .s (.int .i64))], [.vec KTry 0]⟩, [.fix 0]⟩], st_slices_stableCmpFunc_Try_2⟩
theorem r_slices_stableCmpFunc_Try_2 : RoundOK P t21 noLoops 1 (loopAt Tryz.f106 2) l_slices_stableCmpFunc_Try_2 := fun d => by kernel_rfl
def L_slices_stableCmpFunc_Try_2 : LT := noLoops.add 1 l_slices_stableCmpFunc_Try_2
theorem L_slices_stableCmpFunc_Try_2_ok : LoopsOK P 1 L_slices_stableCmpFunc_Try_2 (bodyOf Tryz.f106) := LoopsOK.add hm t21_ok (by kernel_rfl) (noLoops_ok _ _ _) r_slices_stableCmpFunc_Try_2
def st_slices_stableCmpFunc_Try_9 (d : List G) : Option (Option Nat × List G) :=
  (bif (leI (gi d 4).int (gi d 1).int) then (bif (inI ((gi d 3).int + (gi d 2).int)) then none else none) else (bif ((Nat.beq (gi d 0).rows.length (gi d 0).rows.length) && true) then some (some 0, [.l (gi d 0).rows, .i (gi d 1).int, .i (gi d 2).int, .i (gi d 3).int]) else none))
def l_slices_stableCmpFunc_Try_9 : LSpec := ⟨9, [], ⟨63, [(0, .s (.vec 0 4)), (1, .s (.int .i64)), (2, .s (.fn 71)), (6, .s (.int .i64)), (7, .s (.int .i64)), (8, .s (.int .i64))], [.vec KTry 0]⟩, [.fix 0], [⟨.exit 4, ⟨63, [(0, .s (.vec 0 4)), (1, .s (.int .i64)), (2, .s (.fn 71)), (6, .s (.int .i64)), (7, .s (.int .i64))], [.vec KTry 0]⟩, [.fix 0]⟩], st_slices_stableCmpFunc_Try_9⟩
theorem r_slices_stableCmpFunc_Try_9 : RoundOK P t21 L_slices_stableCmpFunc_Try_2 1 (loopAt Tryz.f106 9) l_slices_stableCmpFunc_Try_9 := fun d => by kernel_rfl
def L_slices_stableCmpFunc_Try_9 : LT := L_slices_stableCmpFunc_Try_2.add 1 l_slices_stableCmpFunc_Try_9
theorem L_slices_stableCmpFunc_Try_9_ok : LoopsOK P 1 L_slices_stableCmpFunc_Try_9 (bodyOf Tryz.f106) := LoopsOK.add hm t21_ok (by kernel_rfl) L_slices_stableCmpFunc_Try_2_ok r_slices_stableCmpFunc_Try_9
def st_slices_stableCmpFunc_Try_7 (d : List G) : Option (Option Nat × List G) :=
  (bif (ltI (gi d 2).int (gi d 1).int) then (bif (inI (2 * (gi d 2).int)) then (loopB ((Nat.beq (gi d 0).rows.length (gi d 0).rows.length) && true) (LRun st_slices_stableCmpFunc_Try_9 [.l (gi d 0).rows, .i (gi d 1).int, .i (gi d 2).int, .i 0, .i (2 * (gi d 2).int)]) fun cg4 g4 => (bif (inI ((gi g4 3).int + (gi g4 2).int)) then (bif (ltI ((gi g4 3).int + (gi g4 2).int) (gi g4 1).int) then none else (bif (inI ((gi g4 2).int * 2)) then (bif ((Nat.beq (gi g4 0).rows.length (gi g4 0).rows.length) && true) then some (none, [.l (gi g4 0).rows, .i (gi g4 1).int, .i ((gi g4 2).int * 2)]) else none) else none)) else none)) else none) else some (some 0, [.l (gi d 0).rows]))
def l_slices_stableCmpFunc_Try_7 : LSpec := ⟨7, [], ⟨63, [(0, .s (.vec 0 4)), (1, .s (.int .i64)), (2, .s (.fn 71)), (6, .s (.int .i64))], [.vec KTry 0]⟩, [.fix 0], [⟨.exit 2, ⟨63, [], [.vec KTry 0]⟩, [.fix 0]⟩], st_slices_stableCmpFunc_Try_7⟩
theorem r_slices_stableCmpFunc_Try_7 : RoundOK P t21 L_slices_stableCmpFunc_Try_9 1 (loopAt Tryz.f106 7) l_slices_stableCmpFunc_Try_7 := fun d => by kernel_rfl
def L_slices_stableCmpFunc_Try_7 : LT := L_slices_stableCmpFunc_Try_9.add 1 l_slices_stableCmpFunc_Try_7
theorem L_slices_stableCmpFunc_Try_7_ok : LoopsOK P 1 L_slices_stableCmpFunc_Try_7 (bodyOf Tryz.f106) := LoopsOK.add hm t21_ok (by kernel_rfl) L_slices_stableCmpFunc_Try_9_ok r_slices_stableCmpFunc_Try_7
def F_slices_stableCmpFunc_Try (d : List G) : Option (List G) :=
  (loopB ((Nat.beq (gi d 0).rows.length (gi d 0).rows.length) && true) (LRun st_slices_stableCmpFunc_Try_2 [.l (gi d 0).rows, .i (gi d 1).int, .i 20, .i 0, .i 20]) fun cg2 g2 => (callB (((Nat.beq (gi g2 0).rows.length (gi g2 0).rows.length) && true) && (F_slices_insertionSortCmpFunc_Try [.l (gi g2 0).rows, .i (gi g2 3).int, .i (gi g2 1).int]).isSome) (F_slices_insertionSortCmpFunc_Try [.l (gi g2 0).rows, .i (gi g2 3).int, .i (gi g2 1).int]) fun g3 => (loopB ((Nat.beq (gi g2 0).rows.length (gi g3 0).rows.length) && true) (LRun st_slices_stableCmpFunc_Try_7 [.l (gi g3 0).rows, .i (gi g2 1).int, .i (gi g2 2).int]) fun cg5 g5 => some [.l (gi g5 0).rows])))
def s_slices_stableCmpFunc_Try : FSpec := ⟨106, [.s (.vec 0 4), .s (.int .i64), .s (.fn 71)], [.vec KTry 0], [.slot 0], [], [.vec KTry 0], [.fix 0], [], F_slices_stableCmpFunc_Try⟩
theorem b_slices_stableCmpFunc_Try : BodyOK P t21 L_slices_stableCmpFunc_Try_7 Tryz.f106 s_slices_stableCmpFunc_Try := fun d => by kernel_rfl
theorem c_slices_stableCmpFunc_Try : ∀ d r, F_slices_stableCmpFunc_Try d = some r → ACallX P 106 (s_slices_stableCmpFunc_Try.args0 d) (denH (s_slices_stableCmpFunc_Try.H0 d)) (s_slices_stableCmpFunc_Try.out r) (denH (s_slices_stableCmpFunc_Try.H1 r)) := fun d r h => body_sound hm t21_ok (sp := s_slices_stableCmpFunc_Try) Tryz.func106 (by kernel_rfl) L_slices_stableCmpFunc_Try_7_ok b_slices_stableCmpFunc_Try (by kernel_rfl) h
def t22 : Tab := t21.addW s_slices_stableCmpFunc_Try
theorem t22_ok : TabOK P t22 := t21_ok.addW (by kernel_rfl) (by kernel_rfl) c_slices_stableCmpFunc_Try

/- slices.SortStableFunc[[]pileup/api.Try,pileup/api.Try] -/
def F_slices_SortStableFunc_Try (d : List G) : Option (List G) :=
  (callB (((Nat.beq (gi d 0).rows.length (gi d 0).rows.length) && true) && (F_slices_stableCmpFunc_Try [.l (gi d 0).rows, .i (((gi d 0).rows.length : Nat) : Int)]).isSome) (F_slices_stableCmpFunc_Try [.l (gi d 0).rows, .i (((gi d 0).rows.length : Nat) : Int)]) fun g1 => some [.l (gi g1 0).rows])
def s_slices_SortStableFunc_Try : FSpec := ⟨70, [.s (.vec 0 4), .s (.fn 71)], [.vec KTry 0], [.slot 0], [], [.vec KTry 0], [.fix 0], [], F_slices_SortStableFunc_Try⟩
theorem b_slices_SortStableFunc_Try : BodyOK P t22 noLoops Tryz.f70 s_slices_SortStableFunc_Try := fun d => by kernel_rfl
theorem c_slices_SortStableFunc_Try : ∀ d r, F_slices_SortStableFunc_Try d = some r → ACallX P 70 (s_slices_SortStableFunc_Try.args0 d) (denH (s_slices_SortStableFunc_Try.H0 d)) (s_slices_SortStableFunc_Try.out r) (denH (s_slices_SortStableFunc_Try.H1 r)) := fun d r h => body_sound hm t22_ok (sp := s_slices_SortStableFunc_Try) Tryz.func70 (by kernel_rfl) (noLoops_ok _ _ _) b_slices_SortStableFunc_Try (by kernel_rfl) h
def t23 : Tab := t22.addW s_slices_SortStableFunc_Try
theorem t23_ok : TabOK P t23 := t22_ok.addW (by kernel_rfl) (by kernel_rfl) c_slices_SortStableFunc_Try

/- (*pileup/pilemake.Stream).Tries -/
def st_pilemake_Stream_Tries_4 (d : List G) : Option (Option Nat × List G) :=
  (bif (ltI (gi d 5).int (gi d 4).int) then (callF (F_pilemake_Stream_Pick [.l (gi d 0).rows, .i (gi d 1).int, .l [[.i 0], [.i 1], [.i 2]]]) fun g2 => (bif (inI ((gi d 3).int + (gi g2 2).int)) then (callF (F_pilemake_Stream_Some [.l (gi g2 0).rows, .i (gi g2 1).int, .l [[.s (⟨#[107, 49, 97, 98]⟩ : ByteArray)], [.s (⟨#[111, 104, 50, 97, 98, 99]⟩ : ByteArray)], [.s (⟨#[119, 49, 97, 119]⟩ : ByteArray)]]]) fun g3 => (callF (F_pilemake_Stream_Some [.l (gi g3 0).rows, .i (gi g3 1).int, .l [[.s (⟨#[97, 108, 108]⟩ : ByteArray)], [.s (⟨#[99, 111, 100, 101]⟩ : ByteArray)]]]) fun g4 => (callF (F_pilemake_Stream_Pick [.l (gi g4 0).rows, .i (gi g4 1).int, .l [[.i 0], [.i 5], [.i 5], [.i 7], [.i 9]]]) fun g5 => (callF (F_pilemake_Stream_Flip [.l (gi g5 0).rows, .i (gi g5 1).int, .i 80]) fun g6 => (bif (gi g6 2).bool then (callF (F_pilemake_Stream_Odd [.l (gi g6 0).rows, .i (gi g6 1).int, .i 0, .i 9]) fun g7 => (callF (F_pilemake_Stream_Some [.l (gi g7 0).rows, .i (gi g7 1).int, .l [[.s (gi g3 2).str], [.s (⟨#[]⟩ : ByteArray)]]]) fun g8 => (callF (F_pilemake_Stream_Some [.l (gi g8 0).rows, .i (gi g8 1).int, .l [[.s (gi g4 2).str], [.s (⟨#[65]⟩ : ByteArray)]]]) fun g9 => (callF (F_pilemake_Stream_Odd [.l (gi g9 0).rows, .i (gi g9 1).int, .i 0, .i 1000000000000]) fun g10 => (bif ((Nat.beq (gi d 2).rows.length (gi d 2).rows.length) && (decide (((gi d 2).rows.length + 1) ≤ 1048576))) then (bif (inI ((gi d 5).int + 1)) then (bif ((Nat.beq ((gi d 2).rows ++ ([[.i (gi g7 2).int, .s (gi g8 2).str, .s (gi g9 2).str, .i (gi g10 2).int]] : List (List G))).length ((gi d 2).rows ++ ([[.i (gi g7 2).int, .s (gi g8 2).str, .s (gi g9 2).str, .i (gi g10 2).int]] : List (List G))).length) && true) then some (none, [.l (gi g10 0).rows, .i (gi g10 1).int, .l ((gi d 2).rows ++ ([[.i (gi g7 2).int, .s (gi g8 2).str, .s (gi g9 2).str, .i (gi g10 2).int]] : List (List G))), .i ((gi d 3).int + (gi g2 2).int), .i (gi d 4).int, .i ((gi d 5).int + 1)]) else none) else none) else none))))) else (bif ((Nat.beq (gi d 2).rows.length (gi d 2).rows.length) && (decide (((gi d 2).rows.length + 1) ≤ 1048576))) then (bif (inI ((gi d 5).int + 1)) then (bif ((Nat.beq ((gi d 2).rows ++ ([[.i ((gi d 3).int + (gi g2 2).int), .s (gi g3 2).str, .s (gi g4 2).str, .i (gi g5 2).int]] : List (List G))).length ((gi d 2).rows ++ ([[.i ((gi d 3).int + (gi g2 2).int), .s (gi g3 2).str, .s (gi g4 2).str, .i (gi g5 2).int]] : List (List G))).length) && true) then some (none, [.l (gi g6 0).rows, .i (gi g6 1).int, .l ((gi d 2).rows ++ ([[.i ((gi d 3).int + (gi g2 2).int), .s (gi g3 2).str, .s (gi g4 2).str, .i (gi g5 2).int]] : List (List G))), .i ((gi d 3).int + (gi g2 2).int), .i (gi d 4).int, .i ((gi d 5).int + 1)]) else none) else none) else none)))))) else none)) else (bif ((Nat.beq (gi d 2).rows.length (gi d 2).rows.length) && true) then some (some 0, [.l (gi d 0).rows, .i (gi d 1).int, .l (gi d 2).rows]) else none))
def l_pilemake_Stream_Tries_4 : LSpec := ⟨4, [(3, KTry)], ⟨54, [(0, .s (.ptr 0 0)), (3, .s (.vec 1 4)), (4, .s (.int .i64)), (7, .s (.int .i64)), (8, .s (.int .i64))], [.box [.list [.int .i64], .int .i64], .vec KTry 0]⟩, [.fix 0, .slot 3], [⟨.exit 0, ⟨54, [(3, .s (.vec 1 4))], [.box [.list [.int .i64], .int .i64], .vec KTry 0]⟩, [.fix 0, .slot 3]⟩], st_pilemake_Stream_Tries_4⟩
theorem r_pilemake_Stream_Tries_4 : RoundOK P t23 noLoops 1 (loopAt Tryz.f23 4) l_pilemake_Stream_Tries_4 := fun d => by kernel_rfl
def L_pilemake_Stream_Tries_4 : LT := noLoops.add 1 l_pilemake_Stream_Tries_4
theorem L_pilemake_Stream_Tries_4_ok : LoopsOK P 1 L_pilemake_Stream_Tries_4 (bodyOf Tryz.f23) := LoopsOK.add hm t23_ok (by kernel_rfl) (noLoops_ok _ _ _) r_pilemake_Stream_Tries_4
def F_pilemake_Stream_Tries (d : List G) : Option (List G) :=
  (callF (F_pilemake_Stream_Range [.l (gi d 0).rows, .i (gi d 1).int, .i 0, .i 8]) fun g1 => (loopB true (LRun st_pilemake_Stream_Tries_4 [.l (gi g1 0).rows, .i (gi g1 1).int, .l [], .i 0, .i (gi g1 2).int, .i 0]) fun cg11 g11 => (callB (((Nat.beq (gi g11 2).rows.length (gi g11 2).rows.length) && true) && (F_slices_SortStableFunc_Try [.l (gi g11 2).rows]).isSome) (F_slices_SortStableFunc_Try [.l (gi g11 2).rows]) fun g12 => (bif ((Nat.beq (gi g11 2).rows.length (gi g12 0).rows.length) && true) then some [.l (gi g11 0).rows, .i (gi g11 1).int, .l (gi g12 0).rows] else none))))
def s_pilemake_Stream_Tries : FSpec := ⟨23, [.s (.ptr 0 0)], [.box [.list [.int .i64], .int .i64]], [.slot 0], [.s (.list KTry)], [.box [.list [.int .i64], .int .i64]], [.fix 0], [], F_pilemake_Stream_Tries⟩
theorem b_pilemake_Stream_Tries : BodyOK P t23 L_pilemake_Stream_Tries_4 Tryz.f23 s_pilemake_Stream_Tries := fun d => by kernel_rfl
theorem c_pilemake_Stream_Tries : ∀ d r, F_pilemake_Stream_Tries d = some r → ACallX P 23 (s_pilemake_Stream_Tries.args0 d) (denH (s_pilemake_Stream_Tries.H0 d)) (s_pilemake_Stream_Tries.out r) (denH (s_pilemake_Stream_Tries.H1 r)) := fun d r h => body_sound hm t23_ok (sp := s_pilemake_Stream_Tries) Tryz.func23 (by kernel_rfl) L_pilemake_Stream_Tries_4_ok b_pilemake_Stream_Tries (by kernel_rfl) h
def t24 : Tab := t23.addW s_pilemake_Stream_Tries
theorem t24_ok : TabOK P t24 := t23_ok.addW (by kernel_rfl) (by kernel_rfl) c_pilemake_Stream_Tries

/- pileup/kit.Outside -/
def F_kit_Outside (d : List G) : Option (List G) :=
  (bif (ltI (gi d 0).int (gi d 1).int) then some [.t true] else some [.t (ltI (gi d 2).int (gi d 0).int)])
def s_kit_Outside : FSpec := ⟨78, [.s (.int .i64), .s (.int .i64), .s (.int .i64)], [], [], [.s (.bool)], [], [], [], F_kit_Outside⟩
theorem b_kit_Outside : BodyOK P t24 noLoops Tryz.f78 s_kit_Outside := fun d => by kernel_rfl
theorem c_kit_Outside : ∀ d r, F_kit_Outside d = some r → ACallX P 78 (s_kit_Outside.args0 d) (denH (s_kit_Outside.H0 d)) (s_kit_Outside.out r) (denH (s_kit_Outside.H1 r)) := fun d r h => body_sound hm t24_ok (sp := s_kit_Outside) Tryz.func78 (by kernel_rfl) (noLoops_ok _ _ _) b_kit_Outside (by kernel_rfl) h
def t25 : Tab := t24.addP s_kit_Outside
theorem t25_ok : TabOK P t25 := t24_ok.addP (by kernel_rfl) (by kernel_rfl) c_kit_Outside

/- pileup/club.isDay -/
def F_club_isDay (d : List G) : Option (List G) :=
  (callF (F_kit_Outside [.i (gi d 0).int, .i 0, .i 4000]) fun g1 => some [.t (!(gi g1 0).bool)])
def s_club_isDay : FSpec := ⟨49, [.s (.int .i64)], [], [], [.s (.bool)], [], [], [], F_club_isDay⟩
theorem b_club_isDay : BodyOK P t25 noLoops Tryz.f49 s_club_isDay := fun d => by kernel_rfl
theorem c_club_isDay : ∀ d r, F_club_isDay d = some r → ACallX P 49 (s_club_isDay.args0 d) (denH (s_club_isDay.H0 d)) (s_club_isDay.out r) (denH (s_club_isDay.H1 r)) := fun d r h => body_sound hm t25_ok (sp := s_club_isDay) Tryz.func49 (by kernel_rfl) (noLoops_ok _ _ _) b_club_isDay (by kernel_rfl) h
def t26 : Tab := t25.addP s_club_isDay
theorem t26_ok : TabOK P t26 := t25_ok.addP (by kernel_rfl) (by kernel_rfl) c_club_isDay

/- pileup/call.Is -/
def F_call_Is (d : List G) : Option (List G) :=
  (callF (F_call_Parts [.s (gi d 0).str]) fun g1 => some [.t (gi g1 1).bool])
def s_call_Is : FSpec := ⟨48, [.s (.str)], [], [], [.s (.bool)], [], [], [], F_call_Is⟩
theorem b_call_Is : BodyOK P t26 noLoops Tryz.f48 s_call_Is := fun d => by kernel_rfl
theorem c_call_Is : ∀ d r, F_call_Is d = some r → ACallX P 48 (s_call_Is.args0 d) (denH (s_call_Is.H0 d)) (s_call_Is.out r) (denH (s_call_Is.H1 r)) := fun d r h => body_sound hm t26_ok (sp := s_call_Is) Tryz.func48 (by kernel_rfl) (noLoops_ok _ _ _) b_call_Is (by kernel_rfl) h
def t27 : Tab := t26.addP s_call_Is
theorem t27_ok : TabOK P t27 := t26_ok.addP (by kernel_rfl) (by kernel_rfl) c_call_Is

/- pileup/kit.IsKey -/
def F_kit_IsKey (d : List G) : Option (List G) :=
  (bif (!((gi d 0).str.toList == (⟨#[]⟩ : ByteArray).toList)) then (bif (leI (((gi d 0).str.size : Nat) : Int) 40) then (bif (ltI 0 (((gi d 0).str.size : Nat) : Int)) then (callF (F_strings_IndexByte [.s (⟨#[97, 98, 99, 100, 101, 102, 103, 104, 105, 106, 107, 108, 109, 110, 111, 112, 113, 114, 115, 116, 117, 118, 119, 120, 121, 122]⟩ : ByteArray), .i (((gi d 0).str.data.toList.getD 0 0).toNat : Int)]) fun g1 => (bif (leI 0 (gi g1 0).int) then (callF (F_strings_Trim [.s (gi d 0).str, .s (⟨#[97, 98, 99, 100, 101, 102, 103, 104, 105, 106, 107, 108, 109, 110, 111, 112, 113, 114, 115, 116, 117, 118, 119, 120, 121, 122, 48, 49, 50, 51, 52, 53, 54, 55, 56, 57, 45, 95]⟩ : ByteArray)]) fun g2 => some [.t ((gi g2 0).str.toList == (⟨#[]⟩ : ByteArray).toList)]) else some [.t false])) else none) else some [.t false]) else some [.t false])
def s_kit_IsKey : FSpec := ⟨65, [.s (.str)], [], [], [.s (.bool)], [], [], [], F_kit_IsKey⟩
theorem b_kit_IsKey : BodyOK P t27 noLoops Tryz.f65 s_kit_IsKey := fun d => by kernel_rfl
theorem c_kit_IsKey : ∀ d r, F_kit_IsKey d = some r → ACallX P 65 (s_kit_IsKey.args0 d) (denH (s_kit_IsKey.H0 d)) (s_kit_IsKey.out r) (denH (s_kit_IsKey.H1 r)) := fun d r h => body_sound hm t27_ok (sp := s_kit_IsKey) Tryz.func65 (by kernel_rfl) (noLoops_ok _ _ _) b_kit_IsKey (by kernel_rfl) h
def t28 : Tab := t27.addP s_kit_IsKey
theorem t28_ok : TabOK P t28 := t27_ok.addP (by kernel_rfl) (by kernel_rfl) c_kit_IsKey

/- cmp.Or[int] -/
def st_cmp_Or_int_3 (d : List G) : Option (Option Nat × List G) :=
  (bif (ltI (gi d 3).int (gi d 2).int) then (bif ((nnI (gi d 3).int) && (ltI (gi d 3).int (((gi d 1).rows.length : Nat) : Int))) then (bif ((gi ((gi d 1).rows.getD (((gi d 3).int).toNat) []) 0).int != (gi d 0).int) then some (some 0, [.i (gi ((gi d 1).rows.getD (((gi d 3).int).toNat) []) 0).int]) else (bif (inI ((gi d 3).int + 1)) then some (none, [.i (gi d 0).int, .l (gi d 1).rows, .i (gi d 2).int, .i ((gi d 3).int + 1)]) else none)) else none) else some (some 1, [.i (gi d 0).int]))
def l_cmp_Or_int_3 : LSpec := ⟨3, [], ⟨18, [(3, .s (.int .i64)), (6, .s (.list [.int .i64])), (7, .s (.int .i64)), (8, .s (.int .i64))], []⟩, [], [⟨.ret, ⟨18, [(2, .s (.int .i64))], []⟩, []⟩, ⟨.exit 0, ⟨18, [(3, .s (.int .i64))], []⟩, []⟩], st_cmp_Or_int_3⟩
theorem r_cmp_Or_int_3 : RoundOK P t28 noLoops 0 (loopAt Tryz.f79 3) l_cmp_Or_int_3 := fun d => by kernel_rfl
def L_cmp_Or_int_3 : LT := noLoops.add 0 l_cmp_Or_int_3
theorem L_cmp_Or_int_3_ok : LoopsOK P 0 L_cmp_Or_int_3 (bodyOf Tryz.f79) := LoopsOK.add hm t28_ok (by kernel_rfl) (noLoops_ok _ _ _) r_cmp_Or_int_3
def F_cmp_Or_int (d : List G) : Option (List G) :=
  (loopB true (LRun st_cmp_Or_int_3 [.i 0, .l (gi d 0).rows, .i (((gi d 0).rows.length : Nat) : Int), .i 0]) fun cg1 g1 => (bif Nat.beq cg1 0 then some [.i (gi g1 0).int] else some [.i (gi g1 0).int]))
def s_cmp_Or_int : FSpec := ⟨79, [.s (.list [.int .i64])], [], [], [.s (.int .i64)], [], [], [], F_cmp_Or_int⟩
theorem b_cmp_Or_int : BodyOK P t28 L_cmp_Or_int_3 Tryz.f79 s_cmp_Or_int := fun d => by kernel_rfl
theorem c_cmp_Or_int : ∀ d r, F_cmp_Or_int d = some r → ACallX P 79 (s_cmp_Or_int.args0 d) (denH (s_cmp_Or_int.H0 d)) (s_cmp_Or_int.out r) (denH (s_cmp_Or_int.H1 r)) := fun d r h => body_sound hm t28_ok (sp := s_cmp_Or_int) Tryz.func79 (by kernel_rfl) L_cmp_Or_int_3_ok b_cmp_Or_int (by kernel_rfl) h
def t29 : Tab := t28.addP s_cmp_Or_int
theorem t29_ok : TabOK P t29 := t28_ok.addP (by kernel_rfl) (by kernel_rfl) c_cmp_Or_int

/- pileup/club.CheckTries -/
def st_club_CheckTries_4 (d : List G) : Option (Option Nat × List G) :=
  (bif (ltI (gi d 3).int (gi d 2).int) then (bif ((nnI (gi d 3).int) && (ltI (gi d 3).int (((gi d 1).rows.length : Nat) : Int))) then (callF (F_club_isDay [.i (gi ((gi d 1).rows.getD (((gi d 3).int).toNat) []) 0).int]) fun g1 => (bif (!(gi g1 0).bool) then some (some 0, [.i 1]) else (callF (F_call_Is [.s (gi ((gi d 1).rows.getD (((gi d 3).int).toNat) []) 1).str]) fun g2 => (bif (!(gi g2 0).bool) then some (some 0, [.i 3]) else (callF (F_kit_IsKey [.s (gi ((gi d 1).rows.getD (((gi d 3).int).toNat) []) 2).str]) fun g3 => (bif (!(gi g3 0).bool) then some (some 0, [.i 5]) else (callF (F_kit_Outside [.i (gi ((gi d 1).rows.getD (((gi d 3).int).toNat) []) 3).int, .i 0, .i 1000000000000]) fun g4 => (bif (gi g4 0).bool then some (some 0, [.i 1]) else (bif (ltI 0 (gi d 3).int) then (bif (inI ((gi d 3).int - 1)) then (bif ((nnI ((gi d 3).int - 1)) && (ltI ((gi d 3).int - 1) (((gi d 0).rows.length : Nat) : Int))) then (callF (F_cmp_Compare_int [.i (gi ((gi d 0).rows.getD (((gi d 3).int - 1).toNat) []) 0).int, .i (gi ((gi d 1).rows.getD (((gi d 3).int).toNat) []) 0).int]) fun g5 => (bif (inI ((gi d 3).int - 1)) then (bif ((nnI ((gi d 3).int - 1)) && (ltI ((gi d 3).int - 1) (((gi d 0).rows.length : Nat) : Int))) then (callF (F_strings_Compare [.s (gi ((gi d 0).rows.getD (((gi d 3).int - 1).toNat) []) 2).str, .s (gi ((gi d 1).rows.getD (((gi d 3).int).toNat) []) 2).str]) fun g6 => (bif (inI ((gi d 3).int - 1)) then (bif ((nnI ((gi d 3).int - 1)) && (ltI ((gi d 3).int - 1) (((gi d 0).rows.length : Nat) : Int))) then (callF (F_strings_Compare [.s (gi ((gi d 0).rows.getD (((gi d 3).int - 1).toNat) []) 1).str, .s (gi ((gi d 1).rows.getD (((gi d 3).int).toNat) []) 1).str]) fun g7 => (callF (F_cmp_Or_int [.l [[.i (gi g5 0).int], [.i (gi g6 0).int], [.i (gi g7 0).int]]]) fun g8 => (bif (leI 0 (gi g8 0).int) then some (some 0, [.i 7]) else (bif (inI ((gi d 3).int + 1)) then some (none, [.l (gi d 0).rows, .l (gi d 1).rows, .i (gi d 2).int, .i ((gi d 3).int + 1)]) else none)))) else none) else none)) else none) else none)) else none) else none) else (bif (inI ((gi d 3).int + 1)) then some (none, [.l (gi d 0).rows, .l (gi d 1).rows, .i (gi d 2).int, .i ((gi d 3).int + 1)]) else none)))))))))) else none) else some (some 1, []))
def l_club_CheckTries_4 : LSpec := ⟨4, [], ⟨70, [(0, .s (.list KTry)), (8, .s (.list KTry)), (9, .s (.int .i64)), (10, .s (.int .i64))], []⟩, [], [⟨.ret, ⟨70, [(2, .s (.int .i64))], []⟩, []⟩, ⟨.exit 0, ⟨70, [], []⟩, []⟩], st_club_CheckTries_4⟩
theorem r_club_CheckTries_4 : RoundOK P t29 noLoops 0 (loopAt Tryz.f27 4) l_club_CheckTries_4 := fun d => by kernel_rfl
def L_club_CheckTries_4 : LT := noLoops.add 0 l_club_CheckTries_4
theorem L_club_CheckTries_4_ok : LoopsOK P 0 L_club_CheckTries_4 (bodyOf Tryz.f27) := LoopsOK.add hm t29_ok (by kernel_rfl) (noLoops_ok _ _ _) r_club_CheckTries_4
def F_club_CheckTries (d : List G) : Option (List G) :=
  (bif (ltI 500 (((gi d 0).rows.length : Nat) : Int)) then some [.i 2] else (loopB true (LRun st_club_CheckTries_4 [.l (gi d 0).rows, .l (gi d 0).rows, .i (((gi d 0).rows.length : Nat) : Int), .i 0]) fun cg9 g9 => (bif Nat.beq cg9 0 then some [.i (gi g9 0).int] else some [.i 0])))
def s_club_CheckTries : FSpec := ⟨27, [.s (.list KTry)], [], [], [.s (.int .i64)], [], [], [], F_club_CheckTries⟩
theorem b_club_CheckTries : BodyOK P t29 L_club_CheckTries_4 Tryz.f27 s_club_CheckTries := fun d => by kernel_rfl
theorem c_club_CheckTries : ∀ d r, F_club_CheckTries d = some r → ACallX P 27 (s_club_CheckTries.args0 d) (denH (s_club_CheckTries.H0 d)) (s_club_CheckTries.out r) (denH (s_club_CheckTries.H1 r)) := fun d r h => body_sound hm t29_ok (sp := s_club_CheckTries) Tryz.func27 (by kernel_rfl) L_club_CheckTries_4_ok b_club_CheckTries (by kernel_rfl) h
def t30 : Tab := t29.addP s_club_CheckTries
theorem t30_ok : TabOK P t30 := t29_ok.addP (by kernel_rfl) (by kernel_rfl) c_club_CheckTries

/- maps.Keys[map[string]pileup/api.Best,string,pileup/api.Best] -/
def t31 : Tab := t30.inlineW P 74 Tryz.f74
theorem t31_ok : TabOK P t31 := t30_ok.inlineW hm Tryz.func74 (by kernel_rfl) (by kernel_rfl)

/- slices.Sorted[string] -/
def F_slices_Sorted_string (d : List G) : Option (List G) :=
  keysG d
def s_slices_Sorted_string : FSpec := ⟨53, [.clo 108 [.ptr 0 0]], [.box [.map 1], .map (.one (.str)) (.agg KBest)], [.cap 0 0, .cell 0 0], [.s (.list [.str])], [.box [.map 1], .map (.one (.str)) (.agg KBest)], [.fix 0, .fix 1], [], F_slices_Sorted_string⟩
theorem c_slices_Sorted_string : ∀ d r, F_slices_Sorted_string d = some r → ACallX P 53 (s_slices_Sorted_string.args0 d) (denH (s_slices_Sorted_string.H0 d)) (s_slices_Sorted_string.out r) (denH (s_slices_Sorted_string.H1 r)) := fun d r h => sortedK_call (ρ := Tryz.laysSorted53_ren) (ρ' := Tryz.laysKeys74_ren) rfl Tryz.laysSorted53 { Tryz.laysKeys74 with } (fun m => ⟨fun blk off cap ss W hH hblk hsz => callsIn_wide.2 (Proofs.AnyM.slices_Sort_string Tryz.laysSortS blk off cap ss W hH hblk hsz), fun p cap W => callsIn_wide.2 (Proofs.AnyM.slices_Sort_string_none Tryz.laysSortS p cap W)⟩) (by kernel_rfl) (by kernel_rfl) (.agg KBest) d r h
def t32 : Tab := t31.addW s_slices_Sorted_string
theorem t32_ok : TabOK P t32 := t31_ok.addW (by kernel_rfl) (by kernel_rfl) c_slices_Sorted_string

/- pileup/club.Records -/
def st_club_Records_8 (d : List G) : Option (Option Nat × List G) :=
  (bif (ltI (gi d 5).int (gi d 4).int) then (bif ((nnI (gi d 5).int) && (ltI (gi d 5).int (((gi d 3).rows.length : Nat) : Int))) then (bif (ltI (gi d 2).int (gi ((gi d 3).rows.getD (((gi d 5).int).toNat) []) 0).int) then some (some 0, [.l (gi d 0).rows, .i (((gi d 1).int.toNat : Nat) : Int)]) else (bif (!(mhas [.str] (gi d 0).rows [.s (gi ((gi d 3).rows.getD (((gi d 5).int).toNat) []) 2).str])) then (bif (inI ((gi d 5).int + 1)) then some (none, [.l (mput [.str] (gi d 0).rows [.s (gi ((gi d 3).rows.getD (((gi d 5).int).toNat) []) 2).str] [.s (gi ((gi d 3).rows.getD (((gi d 5).int).toNat) []) 2).str, .s (gi ((gi d 3).rows.getD (((gi d 5).int).toNat) []) 1).str, .i (gi ((gi d 3).rows.getD (((gi d 5).int).toNat) []) 3).int, .i (gi ((gi d 3).rows.getD (((gi d 5).int).toNat) []) 0).int] (gi d 1).int.toNat), .i (((mclk [.str] (gi d 0).rows [.s (gi ((gi d 3).rows.getD (((gi d 5).int).toNat) []) 2).str] (gi d 1).int.toNat) : Nat) : Int), .i (gi d 2).int, .l (gi d 3).rows, .i (gi d 4).int, .i ((gi d 5).int + 1)]) else none) else (bif (ltI (gi (mget [.str] (gi d 0).rows [.s (gi ((gi d 3).rows.getD (((gi d 5).int).toNat) []) 2).str] [.s (⟨#[]⟩ : ByteArray), .s (⟨#[]⟩ : ByteArray), .i 0, .i 0]) 2).int (gi ((gi d 3).rows.getD (((gi d 5).int).toNat) []) 3).int) then (bif (inI ((gi d 5).int + 1)) then some (none, [.l (mput [.str] (gi d 0).rows [.s (gi ((gi d 3).rows.getD (((gi d 5).int).toNat) []) 2).str] [.s (gi ((gi d 3).rows.getD (((gi d 5).int).toNat) []) 2).str, .s (gi ((gi d 3).rows.getD (((gi d 5).int).toNat) []) 1).str, .i (gi ((gi d 3).rows.getD (((gi d 5).int).toNat) []) 3).int, .i (gi ((gi d 3).rows.getD (((gi d 5).int).toNat) []) 0).int] (gi d 1).int.toNat), .i (((mclk [.str] (gi d 0).rows [.s (gi ((gi d 3).rows.getD (((gi d 5).int).toNat) []) 2).str] (gi d 1).int.toNat) : Nat) : Int), .i (gi d 2).int, .l (gi d 3).rows, .i (gi d 4).int, .i ((gi d 5).int + 1)]) else none) else (bif (inI ((gi d 5).int + 1)) then some (none, [.l (gi d 0).rows, .i (((gi d 1).int.toNat : Nat) : Int), .i (gi d 2).int, .l (gi d 3).rows, .i (gi d 4).int, .i ((gi d 5).int + 1)]) else none)))) else none) else some (some 0, [.l (gi d 0).rows, .i (((gi d 1).int.toNat : Nat) : Int)]))
def l_club_Records_8 : LSpec := ⟨8, [], ⟨79, [(1, .s (.int .i64)), (7, .s (.map 0)), (24, .s (.list KTry)), (25, .s (.int .i64)), (26, .s (.int .i64))], [.map (.one (.str)) (.agg KBest)]⟩, [.slot 7], [⟨.exit 0, ⟨79, [(7, .s (.map 0))], [.map (.one (.str)) (.agg KBest)]⟩, [.slot 7]⟩], st_club_Records_8⟩
theorem r_club_Records_8 : RoundOK P t32 noLoops 0 (loopAt Tryz.f24 8) l_club_Records_8 := fun d => by kernel_rfl
def L_club_Records_8 : LT := noLoops.add 0 l_club_Records_8
theorem L_club_Records_8_ok : LoopsOK P 0 L_club_Records_8 (bodyOf Tryz.f24) := LoopsOK.add hm t32_ok (by kernel_rfl) (noLoops_ok _ _ _) r_club_Records_8
def st_club_Records_17 (d : List G) : Option (Option Nat × List G) :=
  (bif (ltI (gi d 5).int (gi d 4).int) then (bif ((nnI (gi d 5).int) && (ltI (gi d 5).int (((gi d 3).rows.length : Nat) : Int))) then (bif ((Nat.beq (gi d 2).rows.length (gi d 2).rows.length) && (decide (((gi d 2).rows.length + 1) ≤ 1048576))) then (bif (inI ((gi d 5).int + 1)) then (bif ((Nat.beq ((gi d 2).rows ++ ([(gEta KBest (mget [.str] (gi d 0).rows [.s (gi ((gi d 3).rows.getD (((gi d 5).int).toNat) []) 0).str] [.s (⟨#[]⟩ : ByteArray), .s (⟨#[]⟩ : ByteArray), .i 0, .i 0]))] : List (List G))).length ((gi d 2).rows ++ ([(gEta KBest (mget [.str] (gi d 0).rows [.s (gi ((gi d 3).rows.getD (((gi d 5).int).toNat) []) 0).str] [.s (⟨#[]⟩ : ByteArray), .s (⟨#[]⟩ : ByteArray), .i 0, .i 0]))] : List (List G))).length) && true) then some (none, [.l (gi d 0).rows, .i (((gi d 1).int.toNat : Nat) : Int), .l ((gi d 2).rows ++ ([(gEta KBest (mget [.str] (gi d 0).rows [.s (gi ((gi d 3).rows.getD (((gi d 5).int).toNat) []) 0).str] [.s (⟨#[]⟩ : ByteArray), .s (⟨#[]⟩ : ByteArray), .i 0, .i 0]))] : List (List G))), .l (gi d 3).rows, .i (gi d 4).int, .i ((gi d 5).int + 1)]) else none) else none) else none) else none) else (bif ((Nat.beq (gi d 2).rows.length (gi d 2).rows.length) && true) then some (some 0, [.l (gi d 2).rows]) else none))
def l_club_Records_17 : LSpec := ⟨17, [(12, KBest)], ⟨79, [(7, .s (.map 0)), (12, .s (.vec 1 4)), (65, .s (.list [.str])), (66, .s (.int .i64)), (67, .s (.int .i64))], [.map (.one (.str)) (.agg KBest), .vec KBest 0]⟩, [.slot 7, .slot 12], [⟨.exit 2, ⟨79, [(12, .s (.vec 0 4))], [.vec KBest 0]⟩, [.slot 12]⟩], st_club_Records_17⟩
theorem r_club_Records_17 : RoundOK P t32 L_club_Records_8 0 (loopAt Tryz.f24 17) l_club_Records_17 := fun d => by kernel_rfl
def L_club_Records_17 : LT := L_club_Records_8.add 0 l_club_Records_17
theorem L_club_Records_17_ok : LoopsOK P 0 L_club_Records_17 (bodyOf Tryz.f24) := LoopsOK.add hm t32_ok (by kernel_rfl) L_club_Records_8_ok r_club_Records_17
def F_club_Records (d : List G) : Option (List G) :=
  (callF (F_club_CheckTries [.l (gi d 0).rows]) fun g1 => (bif ((gi g1 0).int != 0) then some [.l [], .i (gi g1 0).int] else (callF (F_club_isDay [.i (gi d 1).int]) fun g2 => (bif (!(gi g2 0).bool) then some [.l [], .i 1] else (loopB true (LRun st_club_Records_8 [.l [], .i 0, .i (gi d 1).int, .l (gi d 0).rows, .i (((gi d 0).rows.length : Nat) : Int), .i 0]) fun cg3 g3 => (callF (F_slices_Sorted_string [.l (gi g3 0).rows, .i (((gi g3 1).int.toNat : Nat) : Int)]) fun g4 => (loopB true (LRun st_club_Records_17 [.l (gi g4 0).rows, .i (((gi g4 1).int.toNat : Nat) : Int), .l [], .l (gi g4 2).rows, .i (((gi g4 2).rows.length : Nat) : Int), .i 0]) fun cg5 g5 => (bif ((Nat.beq (gi g5 0).rows.length (gi g5 0).rows.length) && true) then some [.l (gi g5 0).rows, .i 0] else none))))))))
def s_club_Records : FSpec := ⟨24, [.s (.list KTry), .s (.int .i64)], [], [], [.s (.list KBest), .s (.int .i64)], [], [], [], F_club_Records⟩
theorem b_club_Records : BodyOK P t32 L_club_Records_17 Tryz.f24 s_club_Records := fun d => by kernel_rfl
theorem c_club_Records : ∀ d r, F_club_Records d = some r → ACallX P 24 (s_club_Records.args0 d) (denH (s_club_Records.H0 d)) (s_club_Records.out r) (denH (s_club_Records.H1 r)) := fun d r h => body_sound hm t32_ok (sp := s_club_Records) Tryz.func24 (by kernel_rfl) L_club_Records_17_ok b_club_Records (by kernel_rfl) h
def t33 : Tab := t32.addP s_club_Records
theorem t33_ok : TabOK P t33 := t32_ok.addP (by kernel_rfl) (by kernel_rfl) c_club_Records

/- pileup/pileref2.in -/
def F_pileref2_in (d : List G) : Option (List G) :=
  (bif (leI (gi d 1).int (gi d 0).int) then some [.t (leI (gi d 0).int (gi d 2).int)] else some [.t false])
def s_pileref2_in : FSpec := ⟨60, [.s (.int .i64), .s (.int .i64), .s (.int .i64)], [], [], [.s (.bool)], [], [], [], F_pileref2_in⟩
theorem b_pileref2_in : BodyOK P t33 noLoops Tryz.f60 s_pileref2_in := fun d => by kernel_rfl
theorem c_pileref2_in : ∀ d r, F_pileref2_in d = some r → ACallX P 60 (s_pileref2_in.args0 d) (denH (s_pileref2_in.H0 d)) (s_pileref2_in.out r) (denH (s_pileref2_in.H1 r)) := fun d r h => body_sound hm t33_ok (sp := s_pileref2_in) Tryz.func60 (by kernel_rfl) (noLoops_ok _ _ _) b_pileref2_in (by kernel_rfl) h
def t34 : Tab := t33.addP s_pileref2_in
theorem t34_ok : TabOK P t34 := t33_ok.addP (by kernel_rfl) (by kernel_rfl) c_pileref2_in

/- pileup/pileref2.Call -/
def F_pileref2_Call (d : List G) : Option (List G) :=
  (callF (F_pileref1_PartsOf [.s (gi d 0).str]) fun g1 => some [.t (gi g1 1).bool])
def s_pileref2_Call : FSpec := ⟨56, [.s (.str)], [], [], [.s (.bool)], [], [], [], F_pileref2_Call⟩
theorem b_pileref2_Call : BodyOK P t34 noLoops Tryz.f56 s_pileref2_Call := fun d => by kernel_rfl
theorem c_pileref2_Call : ∀ d r, F_pileref2_Call d = some r → ACallX P 56 (s_pileref2_Call.args0 d) (denH (s_pileref2_Call.H0 d)) (s_pileref2_Call.out r) (denH (s_pileref2_Call.H1 r)) := fun d r h => body_sound hm t34_ok (sp := s_pileref2_Call) Tryz.func56 (by kernel_rfl) (noLoops_ok _ _ _) b_pileref2_Call (by kernel_rfl) h
def t35 : Tab := t34.addP s_pileref2_Call
theorem t35_ok : TabOK P t35 := t34_ok.addP (by kernel_rfl) (by kernel_rfl) c_pileref2_Call

/- pileup/pileref2.only -/
def st_pileref2_only_2 (d : List G) : Option (Option Nat × List G) :=
  (bif (ltI (gi d 3).int (gi d 2).int) then (bif ((nnI (gi d 3).int) && (ltI (gi d 3).int (((gi d 0).str.size : Nat) : Int))) then (callF (F_strings_IndexByte [.s (gi d 1).str, .i (((gi d 0).str.data.toList.getD (((gi d 3).int).toNat) 0).toNat : Int)]) fun g1 => (bif (ltI (gi g1 0).int 0) then some (some 0, [.t false]) else (bif (inI ((gi d 3).int + 1)) then some (none, [.s (gi d 0).str, .s (gi d 1).str, .i (gi d 2).int, .i ((gi d 3).int + 1)]) else none))) else none) else some (some 1, []))
def l_pileref2_only_2 : LSpec := ⟨2, [], ⟨18, [(0, .s (.str)), (1, .s (.str)), (7, .s (.int .i64)), (8, .s (.int .i64))], []⟩, [], [⟨.ret, ⟨18, [(4, .s (.bool))], []⟩, []⟩, ⟨.exit 0, ⟨18, [], []⟩, []⟩], st_pileref2_only_2⟩
theorem r_pileref2_only_2 : RoundOK P t35 noLoops 0 (loopAt Tryz.f104 2) l_pileref2_only_2 := fun d => by kernel_rfl
def L_pileref2_only_2 : LT := noLoops.add 0 l_pileref2_only_2
theorem L_pileref2_only_2_ok : LoopsOK P 0 L_pileref2_only_2 (bodyOf Tryz.f104) := LoopsOK.add hm t35_ok (by kernel_rfl) (noLoops_ok _ _ _) r_pileref2_only_2
def F_pileref2_only (d : List G) : Option (List G) :=
  (loopB true (LRun st_pileref2_only_2 [.s (gi d 0).str, .s (gi d 1).str, .i (((gi d 0).str.size : Nat) : Int), .i 0]) fun cg2 g2 => (bif Nat.beq cg2 0 then some [.t (gi g2 0).bool] else some [.t true]))
def s_pileref2_only : FSpec := ⟨104, [.s (.str), .s (.str)], [], [], [.s (.bool)], [], [], [], F_pileref2_only⟩
theorem b_pileref2_only : BodyOK P t35 L_pileref2_only_2 Tryz.f104 s_pileref2_only := fun d => by kernel_rfl
theorem c_pileref2_only : ∀ d r, F_pileref2_only d = some r → ACallX P 104 (s_pileref2_only.args0 d) (denH (s_pileref2_only.H0 d)) (s_pileref2_only.out r) (denH (s_pileref2_only.H1 r)) := fun d r h => body_sound hm t35_ok (sp := s_pileref2_only) Tryz.func104 (by kernel_rfl) L_pileref2_only_2_ok b_pileref2_only (by kernel_rfl) h
def t36 : Tab := t35.addP s_pileref2_only
theorem t36_ok : TabOK P t36 := t35_ok.addP (by kernel_rfl) (by kernel_rfl) c_pileref2_only

/- pileup/pileref2.Key -/
def F_pileref2_Key (d : List G) : Option (List G) :=
  (callF (F_pileref2_in [.i (((gi d 0).str.size : Nat) : Int), .i 1, .i 40]) fun g1 => (bif (gi g1 0).bool then (bif (leI 1 (((gi d 0).str.size : Nat) : Int)) then (callF (F_pileref2_only [.s ((gi d 0).str.extract 0 1), .s (⟨#[97, 98, 99, 100, 101, 102, 103, 104, 105, 106, 107, 108, 109, 110, 111, 112, 113, 114, 115, 116, 117, 118, 119, 120, 121, 122]⟩ : ByteArray)]) fun g2 => (bif (gi g2 0).bool then (callF (F_pileref2_only [.s (gi d 0).str, .s (⟨#[97, 98, 99, 100, 101, 102, 103, 104, 105, 106, 107, 108, 109, 110, 111, 112, 113, 114, 115, 116, 117, 118, 119, 120, 121, 122, 48, 49, 50, 51, 52, 53, 54, 55, 56, 57, 45, 95]⟩ : ByteArray)]) fun g3 => some [.t (gi g3 0).bool]) else some [.t false])) else none) else some [.t false]))
def s_pileref2_Key : FSpec := ⟨67, [.s (.str)], [], [], [.s (.bool)], [], [], [], F_pileref2_Key⟩
theorem b_pileref2_Key : BodyOK P t36 noLoops Tryz.f67 s_pileref2_Key := fun d => by kernel_rfl
theorem c_pileref2_Key : ∀ d r, F_pileref2_Key d = some r → ACallX P 67 (s_pileref2_Key.args0 d) (denH (s_pileref2_Key.H0 d)) (s_pileref2_Key.out r) (denH (s_pileref2_Key.H1 r)) := fun d r h => body_sound hm t36_ok (sp := s_pileref2_Key) Tryz.func67 (by kernel_rfl) (noLoops_ok _ _ _) b_pileref2_Key (by kernel_rfl) h
def t37 : Tab := t36.addP s_pileref2_Key
theorem t37_ok : TabOK P t37 := t36_ok.addP (by kernel_rfl) (by kernel_rfl) c_pileref2_Key

/- pileup/pileref2.TriesFault -/
def st_pileref2_TriesFault_4 (d : List G) : Option (Option Nat × List G) :=
  (bif (ltI (gi d 3).int (gi d 2).int) then (bif ((nnI (gi d 3).int) && (ltI (gi d 3).int (((gi d 1).rows.length : Nat) : Int))) then (callF (F_pileref2_in [.i (gi ((gi d 1).rows.getD (((gi d 3).int).toNat) []) 0).int, .i 0, .i 4000]) fun g1 => (bif (!(gi g1 0).bool) then some (some 0, [.i 1]) else (callF (F_pileref2_Call [.s (gi ((gi d 1).rows.getD (((gi d 3).int).toNat) []) 1).str]) fun g2 => (bif (!(gi g2 0).bool) then some (some 0, [.i 3]) else (callF (F_pileref2_Key [.s (gi ((gi d 1).rows.getD (((gi d 3).int).toNat) []) 2).str]) fun g3 => (bif (!(gi g3 0).bool) then some (some 0, [.i 5]) else (callF (F_pileref2_in [.i (gi ((gi d 1).rows.getD (((gi d 3).int).toNat) []) 3).int, .i 0, .i 1000000000000]) fun g4 => (bif (!(gi g4 0).bool) then some (some 0, [.i 1]) else (bif (ltI 0 (gi d 3).int) then (bif (inI ((gi d 3).int - 1)) then (bif ((nnI ((gi d 3).int - 1)) && (ltI ((gi d 3).int - 1) (((gi d 0).rows.length : Nat) : Int))) then (bif (ltI (gi ((gi d 1).rows.getD (((gi d 3).int).toNat) []) 0).int (gi ((gi d 0).rows.getD (((gi d 3).int - 1).toNat) []) 0).int) then some (some 0, [.i 7]) else (bif ((gi ((gi d 0).rows.getD (((gi d 3).int - 1).toNat) []) 0).int == (gi ((gi d 1).rows.getD (((gi d 3).int).toNat) []) 0).int) then (callF (F_slices_Compare_string [.l [[.s (gi ((gi d 0).rows.getD (((gi d 3).int - 1).toNat) []) 2).str], [.s (gi ((gi d 0).rows.getD (((gi d 3).int - 1).toNat) []) 1).str]], .l [[.s (gi ((gi d 1).rows.getD (((gi d 3).int).toNat) []) 2).str], [.s (gi ((gi d 1).rows.getD (((gi d 3).int).toNat) []) 1).str]]]) fun g5 => (bif (leI 0 (gi g5 0).int) then some (some 0, [.i 7]) else (bif (inI ((gi d 3).int + 1)) then some (none, [.l (gi d 0).rows, .l (gi d 1).rows, .i (gi d 2).int, .i ((gi d 3).int + 1)]) else none))) else (bif (inI ((gi d 3).int + 1)) then some (none, [.l (gi d 0).rows, .l (gi d 1).rows, .i (gi d 2).int, .i ((gi d 3).int + 1)]) else none))) else none) else none) else (bif (inI ((gi d 3).int + 1)) then some (none, [.l (gi d 0).rows, .l (gi d 1).rows, .i (gi d 2).int, .i ((gi d 3).int + 1)]) else none)))))))))) else none) else some (some 1, []))
def l_pileref2_TriesFault_4 : LSpec := ⟨4, [], ⟨70, [(0, .s (.list KTry)), (9, .s (.list KTry)), (10, .s (.int .i64)), (11, .s (.int .i64))], []⟩, [], [⟨.ret, ⟨70, [(2, .s (.int .i64))], []⟩, []⟩, ⟨.exit 0, ⟨70, [], []⟩, []⟩], st_pileref2_TriesFault_4⟩
theorem r_pileref2_TriesFault_4 : RoundOK P t37 noLoops 0 (loopAt Tryz.f25 4) l_pileref2_TriesFault_4 := fun d => by kernel_rfl
def L_pileref2_TriesFault_4 : LT := noLoops.add 0 l_pileref2_TriesFault_4
theorem L_pileref2_TriesFault_4_ok : LoopsOK P 0 L_pileref2_TriesFault_4 (bodyOf Tryz.f25) := LoopsOK.add hm t37_ok (by kernel_rfl) (noLoops_ok _ _ _) r_pileref2_TriesFault_4
def F_pileref2_TriesFault (d : List G) : Option (List G) :=
  (bif (ltI 500 (((gi d 0).rows.length : Nat) : Int)) then some [.i 2] else (loopB true (LRun st_pileref2_TriesFault_4 [.l (gi d 0).rows, .l (gi d 0).rows, .i (((gi d 0).rows.length : Nat) : Int), .i 0]) fun cg6 g6 => (bif Nat.beq cg6 0 then some [.i (gi g6 0).int] else some [.i 0])))
def s_pileref2_TriesFault : FSpec := ⟨25, [.s (.list KTry)], [], [], [.s (.int .i64)], [], [], [], F_pileref2_TriesFault⟩
theorem b_pileref2_TriesFault : BodyOK P t37 L_pileref2_TriesFault_4 Tryz.f25 s_pileref2_TriesFault := fun d => by kernel_rfl
theorem c_pileref2_TriesFault : ∀ d r, F_pileref2_TriesFault d = some r → ACallX P 25 (s_pileref2_TriesFault.args0 d) (denH (s_pileref2_TriesFault.H0 d)) (s_pileref2_TriesFault.out r) (denH (s_pileref2_TriesFault.H1 r)) := fun d r h => body_sound hm t37_ok (sp := s_pileref2_TriesFault) Tryz.func25 (by kernel_rfl) L_pileref2_TriesFault_4_ok b_pileref2_TriesFault (by kernel_rfl) h
def t38 : Tab := t37.addP s_pileref2_TriesFault
theorem t38_ok : TabOK P t38 := t37_ok.addP (by kernel_rfl) (by kernel_rfl) c_pileref2_TriesFault

/- pileup/pilelaw2.when -/
def F_pilelaw2_when (d : List G) : Option (List G) :=
  (bif (gi d 0).bool then some [.i (gi d 1).int] else some [.i 0])
def s_pilelaw2_when : FSpec := ⟨36, [.s (.bool), .s (.int .i64)], [], [], [.s (.int .i64)], [], [], [], F_pilelaw2_when⟩
theorem b_pilelaw2_when : BodyOK P t38 noLoops Tryz.f36 s_pilelaw2_when := fun d => by kernel_rfl
theorem c_pilelaw2_when : ∀ d r, F_pilelaw2_when d = some r → ACallX P 36 (s_pilelaw2_when.args0 d) (denH (s_pilelaw2_when.H0 d)) (s_pilelaw2_when.out r) (denH (s_pilelaw2_when.H1 r)) := fun d r h => body_sound hm t38_ok (sp := s_pilelaw2_when) Tryz.func36 (by kernel_rfl) (noLoops_ok _ _ _) b_pilelaw2_when (by kernel_rfl) h
def t39 : Tab := t38.addP s_pilelaw2_when
theorem t39_ok : TabOK P t39 := t38_ok.addP (by kernel_rfl) (by kernel_rfl) c_pilelaw2_when

/- pileup/pilelaw2.dayFault -/
def F_pilelaw2_dayFault (d : List G) : Option (List G) :=
  (bif (ltI (gi d 0).int 0) then (callF (F_pilelaw2_when [.t true, .i 1]) fun g1 => some [.i (gi g1 0).int]) else (callF (F_pilelaw2_when [.t (ltI 4000 (gi d 0).int), .i 1]) fun g2 => some [.i (gi g2 0).int]))
def s_pilelaw2_dayFault : FSpec := ⟨15, [.s (.int .i64)], [], [], [.s (.int .i64)], [], [], [], F_pilelaw2_dayFault⟩
theorem b_pilelaw2_dayFault : BodyOK P t39 noLoops Tryz.f15 s_pilelaw2_dayFault := fun d => by kernel_rfl
theorem c_pilelaw2_dayFault : ∀ d r, F_pilelaw2_dayFault d = some r → ACallX P 15 (s_pilelaw2_dayFault.args0 d) (denH (s_pilelaw2_dayFault.H0 d)) (s_pilelaw2_dayFault.out r) (denH (s_pilelaw2_dayFault.H1 r)) := fun d r h => body_sound hm t39_ok (sp := s_pilelaw2_dayFault) Tryz.func15 (by kernel_rfl) (noLoops_ok _ _ _) b_pilelaw2_dayFault (by kernel_rfl) h
def t40 : Tab := t39.addP s_pilelaw2_dayFault
theorem t40_ok : TabOK P t40 := t39_ok.addP (by kernel_rfl) (by kernel_rfl) c_pilelaw2_dayFault

/- pileup/pilelaw2.errs -/
def st_pilelaw2_errs_2 (d : List G) : Option (Option Nat × List G) :=
  (bif (ltI (gi d 2).int (gi d 1).int) then (bif ((nnI (gi d 2).int) && (ltI (gi d 2).int (((gi d 0).rows.length : Nat) : Int))) then (bif ((gi ((gi d 0).rows.getD (((gi d 2).int).toNat) []) 0).int != 0) then some (some 0, [.i (gi ((gi d 0).rows.getD (((gi d 2).int).toNat) []) 0).int]) else (bif (inI ((gi d 2).int + 1)) then some (none, [.l (gi d 0).rows, .i (gi d 1).int, .i ((gi d 2).int + 1)]) else none)) else none) else some (some 1, []))
def l_pilelaw2_errs_2 : LSpec := ⟨2, [], ⟨15, [(5, .s (.list [.int .i64])), (6, .s (.int .i64)), (7, .s (.int .i64))], []⟩, [], [⟨.ret, ⟨15, [(2, .s (.int .i64))], []⟩, []⟩, ⟨.exit 0, ⟨15, [], []⟩, []⟩], st_pilelaw2_errs_2⟩
theorem r_pilelaw2_errs_2 : RoundOK P t40 noLoops 0 (loopAt Tryz.f13 2) l_pilelaw2_errs_2 := fun d => by kernel_rfl
def L_pilelaw2_errs_2 : LT := noLoops.add 0 l_pilelaw2_errs_2
theorem L_pilelaw2_errs_2_ok : LoopsOK P 0 L_pilelaw2_errs_2 (bodyOf Tryz.f13) := LoopsOK.add hm t40_ok (by kernel_rfl) (noLoops_ok _ _ _) r_pilelaw2_errs_2
def F_pilelaw2_errs (d : List G) : Option (List G) :=
  (loopB true (LRun st_pilelaw2_errs_2 [.l (gi d 0).rows, .i (((gi d 0).rows.length : Nat) : Int), .i 0]) fun cg1 g1 => (bif Nat.beq cg1 0 then some [.i (gi g1 0).int] else some [.i 0]))
def s_pilelaw2_errs : FSpec := ⟨13, [.s (.list [.int .i64])], [], [], [.s (.int .i64)], [], [], [], F_pilelaw2_errs⟩
theorem b_pilelaw2_errs : BodyOK P t40 L_pilelaw2_errs_2 Tryz.f13 s_pilelaw2_errs := fun d => by kernel_rfl
theorem c_pilelaw2_errs : ∀ d r, F_pilelaw2_errs d = some r → ACallX P 13 (s_pilelaw2_errs.args0 d) (denH (s_pilelaw2_errs.H0 d)) (s_pilelaw2_errs.out r) (denH (s_pilelaw2_errs.H1 r)) := fun d r h => body_sound hm t40_ok (sp := s_pilelaw2_errs) Tryz.func13 (by kernel_rfl) L_pilelaw2_errs_2_ok b_pilelaw2_errs (by kernel_rfl) h
def t41 : Tab := t40.addP s_pilelaw2_errs
theorem t41_ok : TabOK P t41 := t40_ok.addP (by kernel_rfl) (by kernel_rfl) c_pilelaw2_errs

/- math/bits.Len64 -/
def tl_bits_Len64_10 (d : List G) : Option (Option Nat × List G) :=
  (bif ((nnI (IntKind.u8.wrap ((gi d 0).int))) && (ltI (IntKind.u8.wrap ((gi d 0).int)) 256)) then (bif (inI (((⟨#[0, 1, 2, 2, 3, 3, 3, 3, 4, 4, 4, 4, 4, 4, 4, 4, 5, 5, 5, 5, 5, 5, 5, 5, 5, 5, 5, 5, 5, 5, 5, 5, 6, 6, 6, 6, 6, 6, 6, 6, 6, 6, 6, 6, 6, 6, 6, 6, 6, 6, 6, 6, 6, 6, 6, 6, 6, 6, 6, 6, 6, 6, 6, 6, 7, 7, 7, 7, 7, 7, 7, 7, 7, 7, 7, 7, 7, 7, 7, 7, 7, 7, 7, 7, 7, 7, 7, 7, 7, 7, 7, 7, 7, 7, 7, 7, 7, 7, 7, 7, 7, 7, 7, 7, 7, 7, 7, 7, 7, 7, 7, 7, 7, 7, 7, 7, 7, 7, 7, 7, 7, 7, 7, 7, 7, 7, 7, 7, 8, 8, 8, 8, 8, 8, 8, 8, 8, 8, 8, 8, 8, 8, 8, 8, 8, 8, 8, 8, 8, 8, 8, 8, 8, 8, 8, 8, 8, 8, 8, 8, 8, 8, 8, 8, 8, 8, 8, 8, 8, 8, 8, 8, 8, 8, 8, 8, 8, 8, 8, 8, 8, 8, 8, 8, 8, 8, 8, 8, 8, 8, 8, 8, 8, 8, 8, 8, 8, 8, 8, 8, 8, 8, 8, 8, 8, 8, 8, 8, 8, 8, 8, 8, 8, 8, 8, 8, 8, 8, 8, 8, 8, 8, 8, 8, 8, 8, 8, 8, 8, 8, 8, 8, 8, 8, 8, 8, 8, 8, 8, 8, 8, 8, 8, 8, 8, 8, 8, 8, 8, 8, 8, 8, 8, 8, 8, 8]⟩ : ByteArray).data.toList.getD ((IntKind.u8.wrap ((gi d 0).int)).toNat) 0).toNat : Int)) then (bif (inI ((gi d 1).int + (((⟨#[0, 1, 2, 2, 3, 3, 3, 3, 4, 4, 4, 4, 4, 4, 4, 4, 5, 5, 5, 5, 5, 5, 5, 5, 5, 5, 5, 5, 5, 5, 5, 5, 6, 6, 6, 6, 6, 6, 6, 6, 6, 6, 6, 6, 6, 6, 6, 6, 6, 6, 6, 6, 6, 6, 6, 6, 6, 6, 6, 6, 6, 6, 6, 6, 7, 7, 7, 7, 7, 7, 7, 7, 7, 7, 7, 7, 7, 7, 7, 7, 7, 7, 7, 7, 7, 7, 7, 7, 7, 7, 7, 7, 7, 7, 7, 7, 7, 7, 7, 7, 7, 7, 7, 7, 7, 7, 7, 7, 7, 7, 7, 7, 7, 7, 7, 7, 7, 7, 7, 7, 7, 7, 7, 7, 7, 7, 7, 7, 8, 8, 8, 8, 8, 8, 8, 8, 8, 8, 8, 8, 8, 8, 8, 8, 8, 8, 8, 8, 8, 8, 8, 8, 8, 8, 8, 8, 8, 8, 8, 8, 8, 8, 8, 8, 8, 8, 8, 8, 8, 8, 8, 8, 8, 8, 8, 8, 8, 8, 8, 8, 8, 8, 8, 8, 8, 8, 8, 8, 8, 8, 8, 8, 8, 8, 8, 8, 8, 8, 8, 8, 8, 8, 8, 8, 8, 8, 8, 8, 8, 8, 8, 8, 8, 8, 8, 8, 8, 8, 8, 8, 8, 8, 8, 8, 8, 8, 8, 8, 8, 8, 8, 8, 8, 8, 8, 8, 8, 8, 8, 8, 8, 8, 8, 8, 8, 8, 8, 8, 8, 8, 8, 8, 8, 8, 8, 8]⟩ : ByteArray).data.toList.getD ((IntKind.u8.wrap ((gi d 0).int)).toNat) 0).toNat : Int))) then some (some 0, [.i ((gi d 1).int + (((⟨#[0, 1, 2, 2, 3, 3, 3, 3, 4, 4, 4, 4, 4, 4, 4, 4, 5, 5, 5, 5, 5, 5, 5, 5, 5, 5, 5, 5, 5, 5, 5, 5, 6, 6, 6, 6, 6, 6, 6, 6, 6, 6, 6, 6, 6, 6, 6, 6, 6, 6, 6, 6, 6, 6, 6, 6, 6, 6, 6, 6, 6, 6, 6, 6, 7, 7, 7, 7, 7, 7, 7, 7, 7, 7, 7, 7, 7, 7, 7, 7, 7, 7, 7, 7, 7, 7, 7, 7, 7, 7, 7, 7, 7, 7, 7, 7, 7, 7, 7, 7, 7, 7, 7, 7, 7, 7, 7, 7, 7, 7, 7, 7, 7, 7, 7, 7, 7, 7, 7, 7, 7, 7, 7, 7, 7, 7, 7, 7, 8, 8, 8, 8, 8, 8, 8, 8, 8, 8, 8, 8, 8, 8, 8, 8, 8, 8, 8, 8, 8, 8, 8, 8, 8, 8, 8, 8, 8, 8, 8, 8, 8, 8, 8, 8, 8, 8, 8, 8, 8, 8, 8, 8, 8, 8, 8, 8, 8, 8, 8, 8, 8, 8, 8, 8, 8, 8, 8, 8, 8, 8, 8, 8, 8, 8, 8, 8, 8, 8, 8, 8, 8, 8, 8, 8, 8, 8, 8, 8, 8, 8, 8, 8, 8, 8, 8, 8, 8, 8, 8, 8, 8, 8, 8, 8, 8, 8, 8, 8, 8, 8, 8, 8, 8, 8, 8, 8, 8, 8, 8, 8, 8, 8, 8, 8, 8, 8, 8, 8, 8, 8, 8, 8, 8, 8, 8, 8]⟩ : ByteArray).data.toList.getD ((IntKind.u8.wrap ((gi d 0).int)).toNat) 0).toNat : Int))]) else none) else none) else none)
def l_bits_Len64_10c : LSpec := ⟨10, [], ⟨25, [(0, .s (.int .u64)), (2, .s (.int .i64))], []⟩, [], [⟨.ret, ⟨25, [(2, .s (.int .i64))], []⟩, []⟩], tl_bits_Len64_10⟩
theorem r_bits_Len64_10c : CutOK P t41 noLoops 0 (cutAt Tryz.f153 10) l_bits_Len64_10c := fun d => by kernel_rfl
def L_bits_Len64_10c : LT := noLoops.addCut 0 l_bits_Len64_10c
theorem L_bits_Len64_10c_ok : LoopsOK P 0 L_bits_Len64_10c (bodyOf Tryz.f153) := LoopsOK.addCut hm t41_ok (by kernel_rfl) (noLoops_ok _ _ _) r_bits_Len64_10c
def F_bits_Len64 (d : List G) : Option (List G) :=
  (bif (leI 4294967296 (gi d 0).int) then (bif (leI 65536 (shrI .u64 (gi d 0).int 32)) then (bif (leI 256 (shrI .u64 (shrI .u64 (gi d 0).int 32) 16)) then (loopB true (cutR (tl_bits_Len64_10 [.i (shrI .u64 (shrI .u64 (shrI .u64 (gi d 0).int 32) 16) 8), .i 56])) fun cg1 g1 => some [.i (gi g1 0).int]) else (loopB true (cutR (tl_bits_Len64_10 [.i (shrI .u64 (shrI .u64 (gi d 0).int 32) 16), .i 48])) fun cg2 g2 => some [.i (gi g2 0).int])) else (bif (leI 256 (shrI .u64 (gi d 0).int 32)) then (loopB true (cutR (tl_bits_Len64_10 [.i (shrI .u64 (shrI .u64 (gi d 0).int 32) 8), .i 40])) fun cg3 g3 => some [.i (gi g3 0).int]) else (loopB true (cutR (tl_bits_Len64_10 [.i (shrI .u64 (gi d 0).int 32), .i 32])) fun cg4 g4 => some [.i (gi g4 0).int]))) else (bif (leI 65536 (gi d 0).int) then (bif (leI 256 (shrI .u64 (gi d 0).int 16)) then (loopB true (cutR (tl_bits_Len64_10 [.i (shrI .u64 (shrI .u64 (gi d 0).int 16) 8), .i 24])) fun cg5 g5 => some [.i (gi g5 0).int]) else (loopB true (cutR (tl_bits_Len64_10 [.i (shrI .u64 (gi d 0).int 16), .i 16])) fun cg6 g6 => some [.i (gi g6 0).int])) else (bif (leI 256 (gi d 0).int) then (loopB true (cutR (tl_bits_Len64_10 [.i (shrI .u64 (gi d 0).int 8), .i 8])) fun cg7 g7 => some [.i (gi g7 0).int]) else (loopB true (cutR (tl_bits_Len64_10 [.i (gi d 0).int, .i 0])) fun cg8 g8 => some [.i (gi g8 0).int]))))
def s_bits_Len64 : FSpec := ⟨153, [.s (.int .u64)], [], [], [.s (.int .i64)], [], [], [], F_bits_Len64⟩
theorem b_bits_Len64 : BodyOK P t41 L_bits_Len64_10c Tryz.f153 s_bits_Len64 := fun d => by kernel_rfl
theorem c_bits_Len64 : ∀ d r, F_bits_Len64 d = some r → ACallX P 153 (s_bits_Len64.args0 d) (denH (s_bits_Len64.H0 d)) (s_bits_Len64.out r) (denH (s_bits_Len64.H1 r)) := fun d r h => body_sound hm t41_ok (sp := s_bits_Len64) Tryz.func153 (by kernel_rfl) L_bits_Len64_10c_ok b_bits_Len64 (by kernel_rfl) h
def t42 : Tab := t41.addP s_bits_Len64
theorem t42_ok : TabOK P t42 := t41_ok.addP (by kernel_rfl) (by kernel_rfl) c_bits_Len64

/- math/bits.Len -/
def F_bits_Len (d : List G) : Option (List G) :=
  (callF (F_bits_Len64 [.i (gi d 0).int]) fun g1 => some [.i (gi g1 0).int])
def s_bits_Len : FSpec := ⟨110, [.s (.int .u64)], [], [], [.s (.int .i64)], [], [], [], F_bits_Len⟩
theorem b_bits_Len : BodyOK P t42 noLoops Tryz.f110 s_bits_Len := fun d => by kernel_rfl
theorem c_bits_Len : ∀ d r, F_bits_Len d = some r → ACallX P 110 (s_bits_Len.args0 d) (denH (s_bits_Len.H0 d)) (s_bits_Len.out r) (denH (s_bits_Len.H1 r)) := fun d r h => body_sound hm t42_ok (sp := s_bits_Len) Tryz.func110 (by kernel_rfl) (noLoops_ok _ _ _) b_bits_Len (by kernel_rfl) h
def t43 : Tab := t42.addP s_bits_Len
theorem t43_ok : TabOK P t43 := t42_ok.addP (by kernel_rfl) (by kernel_rfl) c_bits_Len

/- pileup/pileref2.RecordsOf$1 -/
def F_pileref2_RecordsOf_1 (d : List G) : Option (List G) :=
  (callF (F_strings_Compare [.s (gi (gi d 0).row 0).str, .s (gi (gi d 1).row 0).str]) fun g1 => some [.i (gi g1 0).int])
def s_pileref2_RecordsOf_1 : FSpec := ⟨76, [.s (.row KBest), .s (.row KBest)], [], [], [.s (.int .i64)], [], [], [], F_pileref2_RecordsOf_1⟩
theorem b_pileref2_RecordsOf_1 : BodyOK P t43 noLoops Tryz.f76 s_pileref2_RecordsOf_1 := fun d => by kernel_rfl
theorem c_pileref2_RecordsOf_1 : ∀ d r, F_pileref2_RecordsOf_1 d = some r → ACallX P 76 (s_pileref2_RecordsOf_1.args0 d) (denH (s_pileref2_RecordsOf_1.H0 d)) (s_pileref2_RecordsOf_1.out r) (denH (s_pileref2_RecordsOf_1.H1 r)) := fun d r h => body_sound hm t43_ok (sp := s_pileref2_RecordsOf_1) Tryz.func76 (by kernel_rfl) (noLoops_ok _ _ _) b_pileref2_RecordsOf_1 (by kernel_rfl) h
def t44 : Tab := t43.addP s_pileref2_RecordsOf_1
theorem t44_ok : TabOK P t44 := t43_ok.addP (by kernel_rfl) (by kernel_rfl) c_pileref2_RecordsOf_1

/- slices.insertionSortCmpFunc[pileup/api.Best] -/
def st_slices_insertionSortCmpFunc_Best_4 (d : List G) : Option (Option Nat × List G) :=
  (bif (ltI (gi d 1).int (gi d 4).int) then (bif ((nnI (gi d 4).int) && (ltI (gi d 4).int (((gi d 0).rows.length : Nat) : Int))) then (bif (decide ((0 + ((gi d 4).int).toNat) < (gi d 0).rows.length)) then (bif (inI ((gi d 4).int - 1)) then (bif ((nnI ((gi d 4).int - 1)) && (ltI ((gi d 4).int - 1) (((gi d 0).rows.length : Nat) : Int))) then (bif (decide ((0 + ((gi d 4).int - 1).toNat) < (gi d 0).rows.length)) then (callF (F_pileref2_RecordsOf_1 [.l [(gEta KBest ((gi d 0).rows.getD (0 + ((gi d 4).int).toNat) []))], .l [(gEta KBest ((gi d 0).rows.getD (0 + ((gi d 4).int - 1).toNat) []))]]) fun g1 => (bif (ltI (gi g1 0).int 0) then (bif (inI ((gi d 4).int - 1)) then (bif (inI ((gi d 4).int - 1)) then (bif ((nnI ((gi d 4).int - 1)) && (ltI ((gi d 4).int - 1) (((gi d 0).rows.length : Nat) : Int))) then (bif (decide ((0 + ((gi d 4).int - 1).toNat) < (gi d 0).rows.length)) then (bif ((nnI (gi d 4).int) && (ltI (gi d 4).int (((gi d 0).rows.length : Nat) : Int))) then (bif (decide ((0 + ((gi d 4).int).toNat) < (gi d 0).rows.length)) then (bif ((nnI (gi d 4).int) && (ltI (gi d 4).int (((gi d 0).rows.length : Nat) : Int))) then (bif (decide ((0 + ((gi d 4).int).toNat) < (gi d 0).rows.length)) then (bif ((nnI ((gi d 4).int - 1)) && (ltI ((gi d 4).int - 1) (((gi d 0).rows.length : Nat) : Int))) then (bif (decide ((0 + ((gi d 4).int - 1).toNat) < ((gi d 0).rows.set (0 + ((gi d 4).int).toNat) (putG KBest ((gi d 0).rows.getD (0 + ((gi d 4).int).toNat) []) 0 (gEta KBest ((gi d 0).rows.getD (0 + ((gi d 4).int - 1).toNat) [])))).length)) then (bif (inI ((gi d 4).int - 1)) then (bif ((Nat.beq (gi d 0).rows.length (((gi d 0).rows.set (0 + ((gi d 4).int).toNat) (putG KBest ((gi d 0).rows.getD (0 + ((gi d 4).int).toNat) []) 0 (gEta KBest ((gi d 0).rows.getD (0 + ((gi d 4).int - 1).toNat) [])))).set (0 + ((gi d 4).int - 1).toNat) (putG KBest (((gi d 0).rows.set (0 + ((gi d 4).int).toNat) (putG KBest ((gi d 0).rows.getD (0 + ((gi d 4).int).toNat) []) 0 (gEta KBest ((gi d 0).rows.getD (0 + ((gi d 4).int - 1).toNat) [])))).getD (0 + ((gi d 4).int - 1).toNat) []) 0 (gEta KBest ((gi d 0).rows.getD (0 + ((gi d 4).int).toNat) [])))).length) && true) then some (none, [.l (((gi d 0).rows.set (0 + ((gi d 4).int).toNat) (putG KBest ((gi d 0).rows.getD (0 + ((gi d 4).int).toNat) []) 0 (gEta KBest ((gi d 0).rows.getD (0 + ((gi d 4).int - 1).toNat) [])))).set (0 + ((gi d 4).int - 1).toNat) (putG KBest (((gi d 0).rows.set (0 + ((gi d 4).int).toNat) (putG KBest ((gi d 0).rows.getD (0 + ((gi d 4).int).toNat) []) 0 (gEta KBest ((gi d 0).rows.getD (0 + ((gi d 4).int - 1).toNat) [])))).getD (0 + ((gi d 4).int - 1).toNat) []) 0 (gEta KBest ((gi d 0).rows.getD (0 + ((gi d 4).int).toNat) [])))), .i (gi d 1).int, .i (gi d 2).int, .i (gi d 3).int, .i ((gi d 4).int - 1)]) else none) else none) else none) else none) else none) else none) else none) else none) else none) else none) else none) else none) else (bif ((Nat.beq (gi d 0).rows.length (gi d 0).rows.length) && true) then some (some 0, [.l (gi d 0).rows, .i (gi d 1).int, .i (gi d 2).int, .i (gi d 3).int]) else none))) else none) else none) else none) else none) else none) else (bif ((Nat.beq (gi d 0).rows.length (gi d 0).rows.length) && true) then some (some 0, [.l (gi d 0).rows, .i (gi d 1).int, .i (gi d 2).int, .i (gi d 3).int]) else none))
def l_slices_insertionSortCmpFunc_Best_4 : LSpec := ⟨4, [], ⟨53, [(0, .s (.vec 0 4)), (1, .s (.int .i64)), (2, .s (.int .i64)), (3, .s (.fn 76)), (8, .s (.int .i64)), (9, .s (.int .i64))], [.vec KBest 0]⟩, [.fix 0], [⟨.exit 2, ⟨53, [(0, .s (.vec 0 4)), (1, .s (.int .i64)), (2, .s (.int .i64)), (3, .s (.fn 76)), (8, .s (.int .i64))], [.vec KBest 0]⟩, [.fix 0]⟩], st_slices_insertionSortCmpFunc_Best_4⟩
theorem r_slices_insertionSortCmpFunc_Best_4 : RoundOK P t44 noLoops 1 (loopAt Tryz.f144 4) l_slices_insertionSortCmpFunc_Best_4 := fun d => by kernel_rfl
def L_slices_insertionSortCmpFunc_Best_4 : LT := noLoops.add 1 l_slices_insertionSortCmpFunc_Best_4
theorem L_slices_insertionSortCmpFunc_Best_4_ok : LoopsOK P 1 L_slices_insertionSortCmpFunc_Best_4 (bodyOf Tryz.f144) := LoopsOK.add hm t44_ok (by kernel_rfl) (noLoops_ok _ _ _) r_slices_insertionSortCmpFunc_Best_4
def st_slices_insertionSortCmpFunc_Best_1 (d : List G) : Option (Option Nat × List G) :=
  (bif (ltI (gi d 3).int (gi d 2).int) then (loopB ((Nat.beq (gi d 0).rows.length (gi d 0).rows.length) && true) (LRun st_slices_insertionSortCmpFunc_Best_4 [.l (gi d 0).rows, .i (gi d 1).int, .i (gi d 2).int, .i (gi d 3).int, .i (gi d 3).int]) fun cg2 g2 => (bif (inI ((gi g2 3).int + 1)) then (bif ((Nat.beq (gi g2 0).rows.length (gi g2 0).rows.length) && true) then some (none, [.l (gi g2 0).rows, .i (gi g2 1).int, .i (gi g2 2).int, .i ((gi g2 3).int + 1)]) else none) else none)) else some (some 0, [.l (gi d 0).rows]))
def l_slices_insertionSortCmpFunc_Best_1 : LSpec := ⟨1, [], ⟨53, [(0, .s (.vec 0 4)), (1, .s (.int .i64)), (2, .s (.int .i64)), (3, .s (.fn 76)), (8, .s (.int .i64))], [.vec KBest 0]⟩, [.fix 0], [⟨.exit 0, ⟨53, [], [.vec KBest 0]⟩, [.fix 0]⟩], st_slices_insertionSortCmpFunc_Best_1⟩
theorem r_slices_insertionSortCmpFunc_Best_1 : RoundOK P t44 L_slices_insertionSortCmpFunc_Best_4 1 (loopAt Tryz.f144 1) l_slices_insertionSortCmpFunc_Best_1 := fun d => by kernel_rfl
def L_slices_insertionSortCmpFunc_Best_1 : LT := L_slices_insertionSortCmpFunc_Best_4.add 1 l_slices_insertionSortCmpFunc_Best_1
theorem L_slices_insertionSortCmpFunc_Best_1_ok : LoopsOK P 1 L_slices_insertionSortCmpFunc_Best_1 (bodyOf Tryz.f144) := LoopsOK.add hm t44_ok (by kernel_rfl) L_slices_insertionSortCmpFunc_Best_4_ok r_slices_insertionSortCmpFunc_Best_1
def F_slices_insertionSortCmpFunc_Best (d : List G) : Option (List G) :=
  (bif (inI ((gi d 1).int + 1)) then (loopB ((Nat.beq (gi d 0).rows.length (gi d 0).rows.length) && true) (LRun st_slices_insertionSortCmpFunc_Best_1 [.l (gi d 0).rows, .i (gi d 1).int, .i (gi d 2).int, .i ((gi d 1).int + 1)]) fun cg3 g3 => some [.l (gi g3 0).rows]) else none)
def s_slices_insertionSortCmpFunc_Best : FSpec := ⟨144, [.s (.vec 0 4), .s (.int .i64), .s (.int .i64), .s (.fn 76)], [.vec KBest 0], [.slot 0], [], [.vec KBest 0], [.fix 0], [], F_slices_insertionSortCmpFunc_Best⟩
theorem b_slices_insertionSortCmpFunc_Best : BodyOK P t44 L_slices_insertionSortCmpFunc_Best_1 Tryz.f144 s_slices_insertionSortCmpFunc_Best := fun d => by kernel_rfl
theorem c_slices_insertionSortCmpFunc_Best : ∀ d r, F_slices_insertionSortCmpFunc_Best d = some r → ACallX P 144 (s_slices_insertionSortCmpFunc_Best.args0 d) (denH (s_slices_insertionSortCmpFunc_Best.H0 d)) (s_slices_insertionSortCmpFunc_Best.out r) (denH (s_slices_insertionSortCmpFunc_Best.H1 r)) := fun d r h => body_sound hm t44_ok (sp := s_slices_insertionSortCmpFunc_Best) Tryz.func144 (by kernel_rfl) L_slices_insertionSortCmpFunc_Best_1_ok b_slices_insertionSortCmpFunc_Best (by kernel_rfl) h
def t45 : Tab := t44.addW s_slices_insertionSortCmpFunc_Best
theorem t45_ok : TabOK P t45 := t44_ok.addW (by kernel_rfl) (by kernel_rfl) c_slices_insertionSortCmpFunc_Best

/- slices.pdqsortCmpFunc[pileup/api.Best] -/
/- not followed: a call of slices.breakPatternsCmpFunc[pileup/api.Best] at zsortanyfunc.go:85; a call of slices.choosePivotCmpFunc[pileup/api.Best] at zsortanyfunc.go:89; a call of slices.heapSortCmpFunc[pileup/api.Best] at zsortanyfunc.go:79 -/
def st_slices_pdqsortCmpFunc_Best_2 (d : List G) : Option (Option Nat × List G) :=
  (bif (inI ((gi d 2).int - (gi d 1).int)) then (bif (leI ((gi d 2).int - (gi d 1).int) 12) then (callB (((Nat.beq (gi d 0).rows.length (gi d 0).rows.length) && true) && (F_slices_insertionSortCmpFunc_Best [.l (gi d 0).rows, .i (gi d 1).int, .i (gi d 2).int]).isSome) (F_slices_insertionSortCmpFunc_Best [.l (gi d 0).rows, .i (gi d 1).int, .i (gi d 2).int]) fun g1 => some (some 0, [.l (gi g1 0).rows])) else (bif ((gi d 3).int == 0) then none else (bif (!(gi d 4).bool) then none else none))) else none)
def l_slices_pdqsortCmpFunc_Best_2 : LSpec := ⟨2, [], ⟨148, [(0, .s (.vec 0 4)), (1, .s (.int .i64)), (2, .s (.int .i64)), (3, .s (.int .i64)), (4, .s (.fn 76)), (10, .s (.bool)), (11, .s (.bool))], [.vec KBest 0]⟩, [.fix 0], [⟨.ret, ⟨148, [], [.vec KBest 0]⟩, [.fix 0]⟩], st_slices_pdqsortCmpFunc_Best_2⟩
theorem r_slices_pdqsortCmpFunc_Best_2 : RoundOK P t45 noLoops 1 (loopAt Tryz.f109 2) l_slices_pdqsortCmpFunc_Best_2 := fun d => by kernel_rfl
def L_slices_pdqsortCmpFunc_Best_2 : LT := noLoops.add 1 l_slices_pdqsortCmpFunc_Best_2
theorem L_slices_pdqsortCmpFunc_Best_2_ok : LoopsOK P 1 L_slices_pdqsortCmpFunc_Best_2 (bodyOf Tryz.f109) := LoopsOK.add hm t45_ok (by kernel_rfl) (noLoops_ok _ _ _) r_slices_pdqsortCmpFunc_Best_2
def F_slices_pdqsortCmpFunc_Best (d : List G) : Option (List G) :=
  (loopB ((Nat.beq (gi d 0).rows.length (gi d 0).rows.length) && true) (LRun st_slices_pdqsortCmpFunc_Best_2 [.l (gi d 0).rows, .i (gi d 1).int, .i (gi d 2).int, .i (gi d 3).int, .t true, .t true]) fun cg2 g2 => some [.l (gi g2 0).rows])
def s_slices_pdqsortCmpFunc_Best : FSpec := ⟨109, [.s (.vec 0 4), .s (.int .i64), .s (.int .i64), .s (.int .i64), .s (.fn 76)], [.vec KBest 0], [.slot 0], [], [.vec KBest 0], [.fix 0], [], F_slices_pdqsortCmpFunc_Best⟩
theorem b_slices_pdqsortCmpFunc_Best : BodyOK P t45 L_slices_pdqsortCmpFunc_Best_2 Tryz.f109 s_slices_pdqsortCmpFunc_Best := fun d => by kernel_rfl
theorem c_slices_pdqsortCmpFunc_Best : ∀ d r, F_slices_pdqsortCmpFunc_Best d = some r → ACallX P 109 (s_slices_pdqsortCmpFunc_Best.args0 d) (denH (s_slices_pdqsortCmpFunc_Best.H0 d)) (s_slices_pdqsortCmpFunc_Best.out r) (denH (s_slices_pdqsortCmpFunc_Best.H1 r)) := fun d r h => body_sound hm t45_ok (sp := s_slices_pdqsortCmpFunc_Best) Tryz.func109 (by kernel_rfl) L_slices_pdqsortCmpFunc_Best_2_ok b_slices_pdqsortCmpFunc_Best (by kernel_rfl) h
def t46 : Tab := t45.addW s_slices_pdqsortCmpFunc_Best
theorem t46_ok : TabOK P t46 := t45_ok.addW (by kernel_rfl) (by kernel_rfl) c_slices_pdqsortCmpFunc_Best

/- slices.SortFunc[[]pileup/api.Best,pileup/api.Best] -/
def F_slices_SortFunc_Best (d : List G) : Option (List G) :=
  (callF (F_bits_Len [.i (IntKind.u64.wrap (((gi d 0).rows.length : Nat) : Int))]) fun g1 => (callB (((Nat.beq (gi d 0).rows.length (gi d 0).rows.length) && true) && (F_slices_pdqsortCmpFunc_Best [.l (gi d 0).rows, .i 0, .i (((gi d 0).rows.length : Nat) : Int), .i (gi g1 0).int]).isSome) (F_slices_pdqsortCmpFunc_Best [.l (gi d 0).rows, .i 0, .i (((gi d 0).rows.length : Nat) : Int), .i (gi g1 0).int]) fun g2 => some [.l (gi g2 0).rows]))
def s_slices_SortFunc_Best : FSpec := ⟨75, [.s (.vec 0 4), .s (.fn 76)], [.vec KBest 0], [.slot 0], [], [.vec KBest 0], [.fix 0], [], F_slices_SortFunc_Best⟩
theorem b_slices_SortFunc_Best : BodyOK P t46 noLoops Tryz.f75 s_slices_SortFunc_Best := fun d => by kernel_rfl
theorem c_slices_SortFunc_Best : ∀ d r, F_slices_SortFunc_Best d = some r → ACallX P 75 (s_slices_SortFunc_Best.args0 d) (denH (s_slices_SortFunc_Best.H0 d)) (s_slices_SortFunc_Best.out r) (denH (s_slices_SortFunc_Best.H1 r)) := fun d r h => body_sound hm t46_ok (sp := s_slices_SortFunc_Best) Tryz.func75 (by kernel_rfl) (noLoops_ok _ _ _) b_slices_SortFunc_Best (by kernel_rfl) h
def t47 : Tab := t46.addW s_slices_SortFunc_Best
theorem t47_ok : TabOK P t47 := t46_ok.addW (by kernel_rfl) (by kernel_rfl) c_slices_SortFunc_Best

/- pileup/pileref2.RecordsOf -/
def st_pileref2_RecordsOf_3 (d : List G) : Option (Option Nat × List G) :=
  (bif (ltI (gi d 5).int (gi d 4).int) then (bif ((nnI (gi d 5).int) && (ltI (gi d 5).int (((gi d 3).rows.length : Nat) : Int))) then (bif (leI (gi ((gi d 3).rows.getD (((gi d 5).int).toNat) []) 0).int (gi d 2).int) then (bif (!(mhas [.str] (gi d 0).rows [.s (gi ((gi d 3).rows.getD (((gi d 5).int).toNat) []) 2).str])) then (bif (inI ((gi d 5).int + 1)) then some (none, [.l (mput [.str] (gi d 0).rows [.s (gi ((gi d 3).rows.getD (((gi d 5).int).toNat) []) 2).str] [.s (gi ((gi d 3).rows.getD (((gi d 5).int).toNat) []) 2).str, .s (gi ((gi d 3).rows.getD (((gi d 5).int).toNat) []) 1).str, .i (gi ((gi d 3).rows.getD (((gi d 5).int).toNat) []) 3).int, .i (gi ((gi d 3).rows.getD (((gi d 5).int).toNat) []) 0).int] (gi d 1).int.toNat), .i (((mclk [.str] (gi d 0).rows [.s (gi ((gi d 3).rows.getD (((gi d 5).int).toNat) []) 2).str] (gi d 1).int.toNat) : Nat) : Int), .i (gi d 2).int, .l (gi d 3).rows, .i (gi d 4).int, .i ((gi d 5).int + 1)]) else none) else (bif (ltI (gi (mget [.str] (gi d 0).rows [.s (gi ((gi d 3).rows.getD (((gi d 5).int).toNat) []) 2).str] [.s (⟨#[]⟩ : ByteArray), .s (⟨#[]⟩ : ByteArray), .i 0, .i 0]) 2).int (gi ((gi d 3).rows.getD (((gi d 5).int).toNat) []) 3).int) then (bif (inI ((gi d 5).int + 1)) then some (none, [.l (mput [.str] (gi d 0).rows [.s (gi ((gi d 3).rows.getD (((gi d 5).int).toNat) []) 2).str] [.s (gi ((gi d 3).rows.getD (((gi d 5).int).toNat) []) 2).str, .s (gi ((gi d 3).rows.getD (((gi d 5).int).toNat) []) 1).str, .i (gi ((gi d 3).rows.getD (((gi d 5).int).toNat) []) 3).int, .i (gi ((gi d 3).rows.getD (((gi d 5).int).toNat) []) 0).int] (gi d 1).int.toNat), .i (((mclk [.str] (gi d 0).rows [.s (gi ((gi d 3).rows.getD (((gi d 5).int).toNat) []) 2).str] (gi d 1).int.toNat) : Nat) : Int), .i (gi d 2).int, .l (gi d 3).rows, .i (gi d 4).int, .i ((gi d 5).int + 1)]) else none) else (bif (inI ((gi d 5).int + 1)) then some (none, [.l (gi d 0).rows, .i (((gi d 1).int.toNat : Nat) : Int), .i (gi d 2).int, .l (gi d 3).rows, .i (gi d 4).int, .i ((gi d 5).int + 1)]) else none))) else (bif (inI ((gi d 5).int + 1)) then some (none, [.l (gi d 0).rows, .i (((gi d 1).int.toNat : Nat) : Int), .i (gi d 2).int, .l (gi d 3).rows, .i (gi d 4).int, .i ((gi d 5).int + 1)]) else none)) else none) else some (some 0, [.l (gi d 0).rows, .i (((gi d 1).int.toNat : Nat) : Int)]))
def l_pileref2_RecordsOf_3 : LSpec := ⟨3, [], ⟨68, [(1, .s (.int .i64)), (5, .s (.map 0)), (14, .s (.list KTry)), (15, .s (.int .i64)), (16, .s (.int .i64))], [.map (.one (.str)) (.agg KBest)]⟩, [.slot 5], [⟨.exit 0, ⟨68, [(5, .s (.map 0))], [.map (.one (.str)) (.agg KBest)]⟩, [.slot 5]⟩], st_pileref2_RecordsOf_3⟩
theorem r_pileref2_RecordsOf_3 : RoundOK P t47 noLoops 0 (loopAt Tryz.f26 3) l_pileref2_RecordsOf_3 := fun d => by kernel_rfl
def L_pileref2_RecordsOf_3 : LT := noLoops.add 0 l_pileref2_RecordsOf_3
theorem L_pileref2_RecordsOf_3_ok : LoopsOK P 0 L_pileref2_RecordsOf_3 (bodyOf Tryz.f26) := LoopsOK.add hm t47_ok (by kernel_rfl) (noLoops_ok _ _ _) r_pileref2_RecordsOf_3
def sr_pileref2_RecordsOf_10 (r d : List G) : Option (List G) :=
  (bif ((Nat.beq (gi d 0).rows.length (gi d 0).rows.length) && (decide (((gi d 0).rows.length + 1) ≤ 1048576))) then (bif ((Nat.beq ((gi d 0).rows ++ ([(gEta KBest (gi r 1).row)] : List (List G))).length ((gi d 0).rows ++ ([(gEta KBest (gi r 1).row)] : List (List G))).length) && true) then some [.l ((gi d 0).rows ++ ([(gEta KBest (gi r 1).row)] : List (List G))), .i (((gi d 1).int.toNat : Nat) : Int)] else none) else none)
def ri_pileref2_RecordsOf_10 (d : List G) (b : Nat) : List G := [.l (gi d 2).rows, .i (b : Int)]
def rb_pileref2_RecordsOf_10 (d : List G) (b : Nat) : Bool := ((Nat.beq (gi d 2).rows.length (gi d 2).rows.length) && true)
def rs_pileref2_RecordsOf_10 : RSpec := ⟨⟨68, [(10, .s (.vec 0 4)), (56, .s (.addr))], [.vec KBest 0]⟩, [.slot 10], [], (.one (.str)), (.agg KBest), 0, 0, 55, 56, 57, 58, 59, fun d => (gi d 1).int.toNat, ri_pileref2_RecordsOf_10, rb_pileref2_RecordsOf_10, sr_pileref2_RecordsOf_10⟩
theorem w_pileref2_RecordsOf_10 : RRound P t47 L_pileref2_RecordsOf_3 0 rs_pileref2_RecordsOf_10 (rOps2 (cutAt Tryz.f26 10)) (rBody (cutAt Tryz.f26 10)) := fun r d => by kernel_rfl
def tr_pileref2_RecordsOf_10 (d : List G) : Option (Option Nat × List G) :=
  (callB (((Nat.beq (gi d 0).rows.length (gi d 0).rows.length) && true) && (F_slices_SortFunc_Best [.l (gi d 0).rows]).isSome) (F_slices_SortFunc_Best [.l (gi d 0).rows]) fun g2 => (bif ((Nat.beq (gi d 0).rows.length (gi g2 0).rows.length) && true) then some (some 0, [.l (gi g2 0).rows]) else none))
def l_pileref2_RecordsOf_10r : LSpec := ⟨14, [], ⟨68, [(10, .s (.vec 0 4)), (56, .s (.addr))], [.vec KBest 0]⟩, [], [⟨.ret, ⟨68, [(4, .s (.vec 0 4))], [.vec KBest 0]⟩, [.slot 4]⟩], tr_pileref2_RecordsOf_10⟩
theorem v_pileref2_RecordsOf_10 : CutOK P t47 L_pileref2_RecordsOf_3 0 (rRest (cutAt Tryz.f26 10)) l_pileref2_RecordsOf_10r := fun d => by kernel_rfl
def tl_pileref2_RecordsOf_10 (d : List G) : Option (Option Nat × List G) :=
  rangeR rs_pileref2_RecordsOf_10 tr_pileref2_RecordsOf_10 (gi d 0).rows ((gi d 1).int.toNat) d
def l_pileref2_RecordsOf_10c : LSpec := ⟨10, [(10, KBest)], ⟨68, [(5, .s (.map 0)), (10, .s (.vec 1 4))], [.map (.one (.str)) (.agg KBest), .vec KBest 0]⟩, [.slot 5, .slot 10], [⟨.ret, ⟨68, [(4, .s (.vec 0 4))], [.vec KBest 0]⟩, [.slot 4]⟩], tl_pileref2_RecordsOf_10⟩
def L_pileref2_RecordsOf_10c : LT := L_pileref2_RecordsOf_3.addCut 0 l_pileref2_RecordsOf_10c
theorem L_pileref2_RecordsOf_10c_ok : LoopsOK P 0 L_pileref2_RecordsOf_10c (bodyOf Tryz.f26) := LoopsOK.addRange (q := l_pileref2_RecordsOf_10c) (qr := l_pileref2_RecordsOf_10r) (sp := rs_pileref2_RecordsOf_10) (r0 := 10) (b0 := 2) (r1 := 11) (b1 := 3) (r2 := 12) (rows := fun d => (gi d 0).rows) (clock := fun d => (gi d 1).int.toNat) (pre := fun d => preOf P t47 (rOps0 (cutAt Tryz.f26 10)) (mkSt l_pileref2_RecordsOf_10c.inv d)) hm t47_ok (by kernel_rfl) L_pileref2_RecordsOf_3_ok (by kernel_rfl) (by kernel_rfl) w_pileref2_RecordsOf_10 (fun d => by kernel_rfl) (fun d => by kernel_rfl) (fun d => by kernel_rfl) (fun d => by kernel_rfl) (fun d => by kernel_rfl) (fun d => by kernel_rfl) (fun d b => by kernel_rfl) (fun d b => rfl) rfl rfl v_pileref2_RecordsOf_10 (fun d => rfl)
def F_pileref2_RecordsOf (d : List G) : Option (List G) :=
  (loopB true (LRun st_pileref2_RecordsOf_3 [.l [], .i 0, .i (gi d 1).int, .l (gi d 0).rows, .i (((gi d 0).rows.length : Nat) : Int), .i 0]) fun cg1 g1 => (loopB true (cutR (tl_pileref2_RecordsOf_10 [.l (gi g1 0).rows, .i (((gi g1 1).int.toNat : Nat) : Int), .l []])) fun cg3 g3 => (bif ((Nat.beq (gi g3 0).rows.length (gi g3 0).rows.length) && true) then some [.l (gi g3 0).rows] else none)))
def s_pileref2_RecordsOf : FSpec := ⟨26, [.s (.list KTry), .s (.int .i64)], [], [], [.s (.list KBest)], [], [], [], F_pileref2_RecordsOf⟩
theorem b_pileref2_RecordsOf : BodyOK P t47 L_pileref2_RecordsOf_10c Tryz.f26 s_pileref2_RecordsOf := fun d => by kernel_rfl
theorem c_pileref2_RecordsOf : ∀ d r, F_pileref2_RecordsOf d = some r → ACallX P 26 (s_pileref2_RecordsOf.args0 d) (denH (s_pileref2_RecordsOf.H0 d)) (s_pileref2_RecordsOf.out r) (denH (s_pileref2_RecordsOf.H1 r)) := fun d r h => body_sound hm t47_ok (sp := s_pileref2_RecordsOf) Tryz.func26 (by kernel_rfl) L_pileref2_RecordsOf_10c_ok b_pileref2_RecordsOf (by kernel_rfl) h
def t48 : Tab := t47.addP s_pileref2_RecordsOf
theorem t48_ok : TabOK P t48 := t47_ok.addP (by kernel_rfl) (by kernel_rfl) c_pileref2_RecordsOf

/- slices.Equal[[]pileup/api.Best,pileup/api.Best] -/
def st_slices_Equal_Best_4 (d : List G) : Option (Option Nat × List G) :=
  (bif (ltI (gi d 3).int (gi d 2).int) then (bif ((nnI (gi d 3).int) && (ltI (gi d 3).int (((gi d 0).rows.length : Nat) : Int))) then (bif ((nnI (gi d 3).int) && (ltI (gi d 3).int (((gi d 1).rows.length : Nat) : Int))) then (bif (!(rowEq KBest (gEta KBest ((gi d 0).rows.getD (((gi d 3).int).toNat) [])) (gEta KBest ((gi d 1).rows.getD (((gi d 3).int).toNat) [])))) then some (some 0, [.t false]) else (bif (inI ((gi d 3).int + 1)) then some (none, [.l (gi d 0).rows, .l (gi d 1).rows, .i (gi d 2).int, .i ((gi d 3).int + 1)]) else none)) else none) else none) else some (some 1, []))
def l_slices_Equal_Best_4 : LSpec := ⟨4, [], ⟨26, [(0, .s (.list KBest)), (1, .s (.list KBest)), (12, .s (.int .i64)), (13, .s (.int .i64))], []⟩, [], [⟨.ret, ⟨26, [(4, .s (.bool))], []⟩, []⟩, ⟨.exit 0, ⟨26, [], []⟩, []⟩], st_slices_Equal_Best_4⟩
theorem r_slices_Equal_Best_4 : RoundOK P t48 noLoops 0 (loopAt Tryz.f28 4) l_slices_Equal_Best_4 := fun d => by kernel_rfl
def L_slices_Equal_Best_4 : LT := noLoops.add 0 l_slices_Equal_Best_4
theorem L_slices_Equal_Best_4_ok : LoopsOK P 0 L_slices_Equal_Best_4 (bodyOf Tryz.f28) := LoopsOK.add hm t48_ok (by kernel_rfl) (noLoops_ok _ _ _) r_slices_Equal_Best_4
def F_slices_Equal_Best (d : List G) : Option (List G) :=
  (bif ((((gi d 0).rows.length : Nat) : Int) != (((gi d 1).rows.length : Nat) : Int)) then some [.t false] else (loopB true (LRun st_slices_Equal_Best_4 [.l (gi d 0).rows, .l (gi d 1).rows, .i (((gi d 0).rows.length : Nat) : Int), .i 0]) fun cg1 g1 => (bif Nat.beq cg1 0 then some [.t (gi g1 0).bool] else some [.t true])))
def s_slices_Equal_Best : FSpec := ⟨28, [.s (.list KBest), .s (.list KBest)], [], [], [.s (.bool)], [], [], [], F_slices_Equal_Best⟩
theorem b_slices_Equal_Best : BodyOK P t48 L_slices_Equal_Best_4 Tryz.f28 s_slices_Equal_Best := fun d => by kernel_rfl
theorem c_slices_Equal_Best : ∀ d r, F_slices_Equal_Best d = some r → ACallX P 28 (s_slices_Equal_Best.args0 d) (denH (s_slices_Equal_Best.H0 d)) (s_slices_Equal_Best.out r) (denH (s_slices_Equal_Best.H1 r)) := fun d r h => body_sound hm t48_ok (sp := s_slices_Equal_Best) Tryz.func28 (by kernel_rfl) L_slices_Equal_Best_4_ok b_slices_Equal_Best (by kernel_rfl) h
def t49 : Tab := t48.addP s_slices_Equal_Best
theorem t49_ok : TabOK P t49 := t48_ok.addP (by kernel_rfl) (by kernel_rfl) c_slices_Equal_Best

/- pileup/club.isSquare -/
def st_club_isSquare_4 (d : List G) : Option (Option Nat × List G) :=
  (bif (ltI (gi d 2).int (gi d 1).int) then (bif (inI (Int.tdiv (gi d 2).int 2)) then (bif ((Int.tdiv (gi d 2).int 2) == 1) then (bif ((nnI (gi d 2).int) && (ltI (gi d 2).int (((gi d 0).str.size : Nat) : Int))) then (bif (ltI (((gi d 0).str.data.toList.getD (((gi d 2).int).toNat) 0).toNat : Int) 48) then some (some 0, [.t false]) else (bif ((nnI (gi d 2).int) && (ltI (gi d 2).int (((gi d 0).str.size : Nat) : Int))) then (bif (ltI 57 (((gi d 0).str.data.toList.getD (((gi d 2).int).toNat) 0).toNat : Int)) then some (some 0, [.t false]) else (bif (inI ((gi d 2).int + 1)) then some (none, [.s (gi d 0).str, .i (gi d 1).int, .i ((gi d 2).int + 1)]) else none)) else none)) else none) else (bif ((Int.tdiv (gi d 2).int 2) == 2) then (bif ((nnI (gi d 2).int) && (ltI (gi d 2).int (((gi d 0).str.size : Nat) : Int))) then (bif (ltI (((gi d 0).str.data.toList.getD (((gi d 2).int).toNat) 0).toNat : Int) 97) then some (some 0, [.t false]) else (bif ((nnI (gi d 2).int) && (ltI (gi d 2).int (((gi d 0).str.size : Nat) : Int))) then (bif (ltI 120 (((gi d 0).str.data.toList.getD (((gi d 2).int).toNat) 0).toNat : Int)) then some (some 0, [.t false]) else (bif (inI ((gi d 2).int + 1)) then some (none, [.s (gi d 0).str, .i (gi d 1).int, .i ((gi d 2).int + 1)]) else none)) else none)) else none) else (bif ((nnI (gi d 2).int) && (ltI (gi d 2).int (((gi d 0).str.size : Nat) : Int))) then (bif (ltI (((gi d 0).str.data.toList.getD (((gi d 2).int).toNat) 0).toNat : Int) 97) then some (some 0, [.t false]) else (bif ((nnI (gi d 2).int) && (ltI (gi d 2).int (((gi d 0).str.size : Nat) : Int))) then (bif (ltI 114 (((gi d 0).str.data.toList.getD (((gi d 2).int).toNat) 0).toNat : Int)) then some (some 0, [.t false]) else (bif (inI ((gi d 2).int + 1)) then some (none, [.s (gi d 0).str, .i (gi d 1).int, .i ((gi d 2).int + 1)]) else none)) else none)) else none))) else none) else some (some 1, []))
def l_club_isSquare_4 : LSpec := ⟨4, [], ⟨43, [(0, .s (.str)), (20, .s (.int .i64)), (21, .s (.int .i64))], []⟩, [], [⟨.ret, ⟨43, [(2, .s (.bool))], []⟩, []⟩, ⟨.exit 0, ⟨43, [], []⟩, []⟩], st_club_isSquare_4⟩
theorem r_club_isSquare_4 : RoundOK P t49 noLoops 0 (loopAt Tryz.f103 4) l_club_isSquare_4 := fun d => by kernel_rfl
def L_club_isSquare_4 : LT := noLoops.add 0 l_club_isSquare_4
theorem L_club_isSquare_4_ok : LoopsOK P 0 L_club_isSquare_4 (bodyOf Tryz.f103) := LoopsOK.add hm t49_ok (by kernel_rfl) (noLoops_ok _ _ _) r_club_isSquare_4
def F_club_isSquare (d : List G) : Option (List G) :=
  (bif ((((gi d 0).str.size : Nat) : Int) != 2) then (bif ((((gi d 0).str.size : Nat) : Int) != 4) then (bif ((((gi d 0).str.size : Nat) : Int) != 6) then some [.t false] else (loopB true (LRun st_club_isSquare_4 [.s (gi d 0).str, .i (((gi d 0).str.size : Nat) : Int), .i 0]) fun cg1 g1 => (bif Nat.beq cg1 0 then some [.t (gi g1 0).bool] else some [.t true]))) else (loopB true (LRun st_club_isSquare_4 [.s (gi d 0).str, .i (((gi d 0).str.size : Nat) : Int), .i 0]) fun cg2 g2 => (bif Nat.beq cg2 0 then some [.t (gi g2 0).bool] else some [.t true]))) else (loopB true (LRun st_club_isSquare_4 [.s (gi d 0).str, .i (((gi d 0).str.size : Nat) : Int), .i 0]) fun cg3 g3 => (bif Nat.beq cg3 0 then some [.t (gi g3 0).bool] else some [.t true])))
def s_club_isSquare : FSpec := ⟨103, [.s (.str)], [], [], [.s (.bool)], [], [], [], F_club_isSquare⟩
theorem b_club_isSquare : BodyOK P t49 L_club_isSquare_4 Tryz.f103 s_club_isSquare := fun d => by kernel_rfl
theorem c_club_isSquare : ∀ d r, F_club_isSquare d = some r → ACallX P 103 (s_club_isSquare.args0 d) (denH (s_club_isSquare.H0 d)) (s_club_isSquare.out r) (denH (s_club_isSquare.H1 r)) := fun d r h => body_sound hm t49_ok (sp := s_club_isSquare) Tryz.func103 (by kernel_rfl) L_club_isSquare_4_ok b_club_isSquare (by kernel_rfl) h
def t50 : Tab := t49.addP s_club_isSquare
theorem t50_ok : TabOK P t50 := t49_ok.addP (by kernel_rfl) (by kernel_rfl) c_club_isSquare

/- pileup/club.isLocator -/
def F_club_isLocator (d : List G) : Option (List G) :=
  (bif ((((gi d 0).str.size : Nat) : Int) == 6) then (callF (F_club_isSquare [.s (gi d 0).str]) fun g1 => some [.t (gi g1 0).bool]) else some [.t false])
def s_club_isLocator : FSpec := ⟨87, [.s (.str)], [], [], [.s (.bool)], [], [], [], F_club_isLocator⟩
theorem b_club_isLocator : BodyOK P t50 noLoops Tryz.f87 s_club_isLocator := fun d => by kernel_rfl
theorem c_club_isLocator : ∀ d r, F_club_isLocator d = some r → ACallX P 87 (s_club_isLocator.args0 d) (denH (s_club_isLocator.H0 d)) (s_club_isLocator.out r) (denH (s_club_isLocator.H1 r)) := fun d r h => body_sound hm t50_ok (sp := s_club_isLocator) Tryz.func87 (by kernel_rfl) (noLoops_ok _ _ _) b_club_isLocator (by kernel_rfl) h
def t51 : Tab := t50.addP s_club_isLocator
theorem t51_ok : TabOK P t51 := t50_ok.addP (by kernel_rfl) (by kernel_rfl) c_club_isLocator

/- pileup/club.CheckEntrants -/
def st_club_CheckEntrants_4 (d : List G) : Option (Option Nat × List G) :=
  (bif (ltI (gi d 3).int (gi d 2).int) then (bif ((nnI (gi d 3).int) && (ltI (gi d 3).int (((gi d 1).rows.length : Nat) : Int))) then (callF (F_call_Is [.s (gi ((gi d 1).rows.getD (((gi d 3).int).toNat) []) 0).str]) fun g1 => (bif (!(gi g1 0).bool) then some (some 0, [.i 3]) else (callF (F_kit_IsKey [.s (gi ((gi d 1).rows.getD (((gi d 3).int).toNat) []) 1).str]) fun g2 => (bif (!(gi g2 0).bool) then some (some 0, [.i 5]) else (callF (F_kit_Outside [.i (gi ((gi d 1).rows.getD (((gi d 3).int).toNat) []) 2).int, .i 0, .i 1000000000000]) fun g3 => (bif (gi g3 0).bool then some (some 0, [.i 1]) else (bif (!((gi ((gi d 1).rows.getD (((gi d 3).int).toNat) []) 3).str.toList == (⟨#[]⟩ : ByteArray).toList)) then (callF (F_club_isLocator [.s (gi ((gi d 1).rows.getD (((gi d 3).int).toNat) []) 3).str]) fun g4 => (bif (!(gi g4 0).bool) then some (some 0, [.i 3]) else (bif (ltI 0 (gi d 3).int) then (bif (inI ((gi d 3).int - 1)) then (bif ((nnI ((gi d 3).int - 1)) && (ltI ((gi d 3).int - 1) (((gi d 0).rows.length : Nat) : Int))) then (callF (F_strings_Compare [.s (gi ((gi d 0).rows.getD (((gi d 3).int - 1).toNat) []) 1).str, .s (gi ((gi d 1).rows.getD (((gi d 3).int).toNat) []) 1).str]) fun g5 => (bif (inI ((gi d 3).int - 1)) then (bif ((nnI ((gi d 3).int - 1)) && (ltI ((gi d 3).int - 1) (((gi d 0).rows.length : Nat) : Int))) then (callF (F_strings_Compare [.s (gi ((gi d 0).rows.getD (((gi d 3).int - 1).toNat) []) 0).str, .s (gi ((gi d 1).rows.getD (((gi d 3).int).toNat) []) 0).str]) fun g6 => (callF (F_cmp_Or_int [.l [[.i (gi g5 0).int], [.i (gi g6 0).int]]]) fun g7 => (bif (leI 0 (gi g7 0).int) then some (some 0, [.i 7]) else (bif (inI ((gi d 3).int + 1)) then some (none, [.l (gi d 0).rows, .l (gi d 1).rows, .i (gi d 2).int, .i ((gi d 3).int + 1)]) else none)))) else none) else none)) else none) else none) else (bif (inI ((gi d 3).int + 1)) then some (none, [.l (gi d 0).rows, .l (gi d 1).rows, .i (gi d 2).int, .i ((gi d 3).int + 1)]) else none)))) else (bif (ltI 0 (gi d 3).int) then (bif (inI ((gi d 3).int - 1)) then (bif ((nnI ((gi d 3).int - 1)) && (ltI ((gi d 3).int - 1) (((gi d 0).rows.length : Nat) : Int))) then (callF (F_strings_Compare [.s (gi ((gi d 0).rows.getD (((gi d 3).int - 1).toNat) []) 1).str, .s (gi ((gi d 1).rows.getD (((gi d 3).int).toNat) []) 1).str]) fun g8 => (bif (inI ((gi d 3).int - 1)) then (bif ((nnI ((gi d 3).int - 1)) && (ltI ((gi d 3).int - 1) (((gi d 0).rows.length : Nat) : Int))) then (callF (F_strings_Compare [.s (gi ((gi d 0).rows.getD (((gi d 3).int - 1).toNat) []) 0).str, .s (gi ((gi d 1).rows.getD (((gi d 3).int).toNat) []) 0).str]) fun g9 => (callF (F_cmp_Or_int [.l [[.i (gi g8 0).int], [.i (gi g9 0).int]]]) fun g10 => (bif (leI 0 (gi g10 0).int) then some (some 0, [.i 7]) else (bif (inI ((gi d 3).int + 1)) then some (none, [.l (gi d 0).rows, .l (gi d 1).rows, .i (gi d 2).int, .i ((gi d 3).int + 1)]) else none)))) else none) else none)) else none) else none) else (bif (inI ((gi d 3).int + 1)) then some (none, [.l (gi d 0).rows, .l (gi d 1).rows, .i (gi d 2).int, .i ((gi d 3).int + 1)]) else none))))))))) else none) else some (some 1, []))
def l_club_CheckEntrants_4 : LSpec := ⟨4, [], ⟨66, [(0, .s (.list KMember)), (8, .s (.list KMember)), (9, .s (.int .i64)), (10, .s (.int .i64))], []⟩, [], [⟨.ret, ⟨66, [(2, .s (.int .i64))], []⟩, []⟩, ⟨.exit 0, ⟨66, [], []⟩, []⟩], st_club_CheckEntrants_4⟩
theorem r_club_CheckEntrants_4 : RoundOK P t51 noLoops 0 (loopAt Tryz.f40 4) l_club_CheckEntrants_4 := fun d => by kernel_rfl
def L_club_CheckEntrants_4 : LT := noLoops.add 0 l_club_CheckEntrants_4
theorem L_club_CheckEntrants_4_ok : LoopsOK P 0 L_club_CheckEntrants_4 (bodyOf Tryz.f40) := LoopsOK.add hm t51_ok (by kernel_rfl) (noLoops_ok _ _ _) r_club_CheckEntrants_4
def F_club_CheckEntrants (d : List G) : Option (List G) :=
  (bif (ltI 500 (((gi d 0).rows.length : Nat) : Int)) then some [.i 2] else (loopB true (LRun st_club_CheckEntrants_4 [.l (gi d 0).rows, .l (gi d 0).rows, .i (((gi d 0).rows.length : Nat) : Int), .i 0]) fun cg11 g11 => (bif Nat.beq cg11 0 then some [.i (gi g11 0).int] else some [.i 0])))
def s_club_CheckEntrants : FSpec := ⟨40, [.s (.list KMember)], [], [], [.s (.int .i64)], [], [], [], F_club_CheckEntrants⟩
theorem b_club_CheckEntrants : BodyOK P t51 L_club_CheckEntrants_4 Tryz.f40 s_club_CheckEntrants := fun d => by kernel_rfl
theorem c_club_CheckEntrants : ∀ d r, F_club_CheckEntrants d = some r → ACallX P 40 (s_club_CheckEntrants.args0 d) (denH (s_club_CheckEntrants.H0 d)) (s_club_CheckEntrants.out r) (denH (s_club_CheckEntrants.H1 r)) := fun d r h => body_sound hm t51_ok (sp := s_club_CheckEntrants) Tryz.func40 (by kernel_rfl) L_club_CheckEntrants_4_ok b_club_CheckEntrants (by kernel_rfl) h
def t52 : Tab := t51.addP s_club_CheckEntrants
theorem t52_ok : TabOK P t52 := t51_ok.addP (by kernel_rfl) (by kernel_rfl) c_club_CheckEntrants

/- pileup/club.ranked$1 -/
def F_club_ranked_1 (d : List G) : Option (List G) :=
  (callF (F_cmp_Compare_int [.i (gi (gi d 1).row 1).int, .i (gi (gi d 0).row 1).int]) fun g1 => (callF (F_strings_Compare [.s (gi (gi d 0).row 2).str, .s (gi (gi d 1).row 2).str]) fun g2 => (callF (F_cmp_Or_int [.l [[.i (gi g1 0).int], [.i (gi g2 0).int]]]) fun g3 => some [.i (gi g3 0).int])))
def s_club_ranked_1 : FSpec := ⟨114, [.s (.row KPlace), .s (.row KPlace)], [], [], [.s (.int .i64)], [], [], [], F_club_ranked_1⟩
theorem b_club_ranked_1 : BodyOK P t52 noLoops Tryz.f114 s_club_ranked_1 := fun d => by kernel_rfl
theorem c_club_ranked_1 : ∀ d r, F_club_ranked_1 d = some r → ACallX P 114 (s_club_ranked_1.args0 d) (denH (s_club_ranked_1.H0 d)) (s_club_ranked_1.out r) (denH (s_club_ranked_1.H1 r)) := fun d r h => body_sound hm t52_ok (sp := s_club_ranked_1) Tryz.func114 (by kernel_rfl) (noLoops_ok _ _ _) b_club_ranked_1 (by kernel_rfl) h
def t53 : Tab := t52.addP s_club_ranked_1
theorem t53_ok : TabOK P t53 := t52_ok.addP (by kernel_rfl) (by kernel_rfl) c_club_ranked_1

end
end Go.Proofs.SYtbckadmdebkogaaGreatDoor
