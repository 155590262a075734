/-
  What is proved here: functions of the program as functions on data. No condition.
-/
import Derived.Test.YtbckadmdebkogaaGreatDoorML1
set_option linter.unusedSimpArgs false
set_option linter.unusedVariables false
set_option linter.unusedSectionVars false
namespace Go.Proofs.SYtbckadmdebkogaaGreatDoor
open Go Go.AL Go.Proofs
noncomputable section
/- pileup/pilemake.Below -/
def F_pilemake_Below (d : List G) : Option (List G) :=
  (bif (ltI (gi d 1).int 1) then some [.i 0] else (bif (!((gi d 1).int == 0)) then (bif (ltI (Int.tmod (gi d 0).int (gi d 1).int) 0) then (bif (inI ((Int.tmod (gi d 0).int (gi d 1).int) + (gi d 1).int)) then some [.i ((Int.tmod (gi d 0).int (gi d 1).int) + (gi d 1).int)] else none) else some [.i (Int.tmod (gi d 0).int (gi d 1).int)]) else none))
def s_pilemake_Below : FSpec := ⟨88, [.s (.int .i64), .s (.int .i64)], [], [], [.s (.int .i64)], [], [], [], F_pilemake_Below⟩
theorem b_pilemake_Below : BodyOK P t6 noLoops Tryz.f88 s_pilemake_Below := fun d => by kernel_rfl
theorem c_pilemake_Below : ∀ d r, F_pilemake_Below d = some r → ACallX P 88 (s_pilemake_Below.args0 d) (denH (s_pilemake_Below.H0 d)) (s_pilemake_Below.out r) (denH (s_pilemake_Below.H1 r)) := fun d r h => body_sound hm t6_ok (sp := s_pilemake_Below) Tryz.func88 (by kernel_rfl) (noLoops_ok _ _ _) b_pilemake_Below (by kernel_rfl) h
def t7 : Tab := t6.addP s_pilemake_Below
theorem t7_ok : TabOK P t7 := t6_ok.addP (by kernel_rfl) (by kernel_rfl) c_pilemake_Below

/- (*pileup/pilemake.Stream).Next -/
def F_pilemake_Stream_Next (d : List G) : Option (List G) :=
  (bif (inI ((gi d 1).int + 1)) then (bif ((((gi d 0).rows.length : Nat) : Int) == 0) then (bif (inI (((gi d 1).int + 1) * 7919)) then (callF (F_pilemake_Below [.i (((gi d 1).int + 1) * 7919), .i (gi d 2).int]) fun g1 => some [.l (gi d 0).rows, .i ((gi d 1).int + 1), .i (gi g1 0).int]) else none) else (bif (inI (((gi d 1).int + 1) - 1)) then (bif (!((((gi d 0).rows.length : Nat) : Int) == 0)) then (bif (inI (((gi d 1).int + 1) - 1)) then (bif ((!((((gi d 0).rows.length : Nat) : Int) == 0)) && (inI (Int.tdiv (((gi d 1).int + 1) - 1) (((gi d 0).rows.length : Nat) : Int)))) then (bif ((nnI (Int.tmod (((gi d 1).int + 1) - 1) (((gi d 0).rows.length : Nat) : Int))) && (ltI (Int.tmod (((gi d 1).int + 1) - 1) (((gi d 0).rows.length : Nat) : Int)) (((gi d 0).rows.length : Nat) : Int))) then (callF (F_pilemake_Below [.i (gi ((gi d 0).rows.getD ((Int.tmod (((gi d 1).int + 1) - 1) (((gi d 0).rows.length : Nat) : Int)).toNat) []) 0).int, .i 1073741824]) fun g2 => (bif (inI (7919 + (Int.tmod (((gi d 1).int + 1) - 1) (((gi d 0).rows.length : Nat) : Int)))) then (bif (inI ((Int.tdiv (((gi d 1).int + 1) - 1) (((gi d 0).rows.length : Nat) : Int)) * (7919 + (Int.tmod (((gi d 1).int + 1) - 1) (((gi d 0).rows.length : Nat) : Int))))) then (bif (inI ((gi g2 0).int + ((Int.tdiv (((gi d 1).int + 1) - 1) (((gi d 0).rows.length : Nat) : Int)) * (7919 + (Int.tmod (((gi d 1).int + 1) - 1) (((gi d 0).rows.length : Nat) : Int)))))) then (callF (F_pilemake_Below [.i ((gi g2 0).int + ((Int.tdiv (((gi d 1).int + 1) - 1) (((gi d 0).rows.length : Nat) : Int)) * (7919 + (Int.tmod (((gi d 1).int + 1) - 1) (((gi d 0).rows.length : Nat) : Int))))), .i (gi d 2).int]) fun g3 => some [.l (gi d 0).rows, .i ((gi d 1).int + 1), .i (gi g3 0).int]) else none) else none) else none)) else none) else none) else none) else none) else none)) else none)
def s_pilemake_Stream_Next : FSpec := ⟨44, [.s (.ptr 0 0), .s (.int .i64)], [.box [.list [.int .i64], .int .i64]], [.slot 0], [.s (.int .i64)], [.box [.list [.int .i64], .int .i64]], [.fix 0], [], F_pilemake_Stream_Next⟩
theorem b_pilemake_Stream_Next : BodyOK P t7 noLoops Tryz.f44 s_pilemake_Stream_Next := fun d => by kernel_rfl
theorem c_pilemake_Stream_Next : ∀ d r, F_pilemake_Stream_Next d = some r → ACallX P 44 (s_pilemake_Stream_Next.args0 d) (denH (s_pilemake_Stream_Next.H0 d)) (s_pilemake_Stream_Next.out r) (denH (s_pilemake_Stream_Next.H1 r)) := fun d r h => body_sound hm t7_ok (sp := s_pilemake_Stream_Next) Tryz.func44 (by kernel_rfl) (noLoops_ok _ _ _) b_pilemake_Stream_Next (by kernel_rfl) h
def t8 : Tab := t7.addW s_pilemake_Stream_Next
theorem t8_ok : TabOK P t8 := t7_ok.addW (by kernel_rfl) (by kernel_rfl) c_pilemake_Stream_Next

/- (*pileup/pilemake.Stream).Flip -/
def F_pilemake_Stream_Flip (d : List G) : Option (List G) :=
  (callF (F_pilemake_Stream_Next [.l (gi d 0).rows, .i (gi d 1).int, .i (gi d 2).int]) fun g1 => some [.l (gi g1 0).rows, .i (gi g1 1).int, .t ((gi g1 2).int == 0)])
def s_pilemake_Stream_Flip : FSpec := ⟨43, [.s (.ptr 0 0), .s (.int .i64)], [.box [.list [.int .i64], .int .i64]], [.slot 0], [.s (.bool)], [.box [.list [.int .i64], .int .i64]], [.fix 0], [], F_pilemake_Stream_Flip⟩
theorem b_pilemake_Stream_Flip : BodyOK P t8 noLoops Tryz.f43 s_pilemake_Stream_Flip := fun d => by kernel_rfl
theorem c_pilemake_Stream_Flip : ∀ d r, F_pilemake_Stream_Flip d = some r → ACallX P 43 (s_pilemake_Stream_Flip.args0 d) (denH (s_pilemake_Stream_Flip.H0 d)) (s_pilemake_Stream_Flip.out r) (denH (s_pilemake_Stream_Flip.H1 r)) := fun d r h => body_sound hm t8_ok (sp := s_pilemake_Stream_Flip) Tryz.func43 (by kernel_rfl) (noLoops_ok _ _ _) b_pilemake_Stream_Flip (by kernel_rfl) h
def t9 : Tab := t8.addW s_pilemake_Stream_Flip
theorem t9_ok : TabOK P t9 := t8_ok.addW (by kernel_rfl) (by kernel_rfl) c_pilemake_Stream_Flip

/- (*pileup/pilemake.Stream).Some -/
def F_pilemake_Stream_Some (d : List G) : Option (List G) :=
  (callF (F_pilemake_Stream_Next [.l (gi d 0).rows, .i (gi d 1).int, .i (((gi d 2).rows.length : Nat) : Int)]) fun g1 => (bif ((nnI (gi g1 2).int) && (ltI (gi g1 2).int (((gi d 2).rows.length : Nat) : Int))) then some [.l (gi g1 0).rows, .i (gi g1 1).int, .s (gi ((gi d 2).rows.getD (((gi g1 2).int).toNat) []) 0).str] else none))
def s_pilemake_Stream_Some : FSpec := ⟨30, [.s (.ptr 0 0), .s (.list [.str])], [.box [.list [.int .i64], .int .i64]], [.slot 0], [.s (.str)], [.box [.list [.int .i64], .int .i64]], [.fix 0], [], F_pilemake_Stream_Some⟩
theorem b_pilemake_Stream_Some : BodyOK P t9 noLoops Tryz.f30 s_pilemake_Stream_Some := fun d => by kernel_rfl
theorem c_pilemake_Stream_Some : ∀ d r, F_pilemake_Stream_Some d = some r → ACallX P 30 (s_pilemake_Stream_Some.args0 d) (denH (s_pilemake_Stream_Some.H0 d)) (s_pilemake_Stream_Some.out r) (denH (s_pilemake_Stream_Some.H1 r)) := fun d r h => body_sound hm t9_ok (sp := s_pilemake_Stream_Some) Tryz.func30 (by kernel_rfl) (noLoops_ok _ _ _) b_pilemake_Stream_Some (by kernel_rfl) h
def t10 : Tab := t9.addW s_pilemake_Stream_Some
theorem t10_ok : TabOK P t10 := t9_ok.addW (by kernel_rfl) (by kernel_rfl) c_pilemake_Stream_Some

/- (*pileup/pilemake.Stream).RightClubs -/
def st_pilemake_Stream_RightClubs_f_8 (d : List G) : Option (Option Nat × List G) :=
  (bif (ltI (gi d 10).int (gi d 9).int) then (bif ((nnI (gi d 10).int) && (ltI (gi d 10).int (((gi d 8).rows.length : Nat) : Int))) then (callF (F_pilemake_Stream_Flip [.l (gi d 0).rows, .i (gi d 1).int, .i 3]) fun g2 => (bif (gi g2 2).bool then (bif ((Nat.beq (gi d 4).rows.length (gi d 4).rows.length) && (decide (((gi d 4).rows.length + 1) ≤ 1048576))) then (bif (inI ((gi d 10).int + 1)) then (bif ((((Nat.beq ((gi d 4).rows ++ ([[.s (gi ((gi d 8).rows.getD (((gi d 10).int).toNat) []) 0).str]] : List (List G))).length ((gi d 4).rows ++ ([[.s (gi ((gi d 8).rows.getD (((gi d 10).int).toNat) []) 0).str]] : List (List G))).length) && true) && true) && ((Nat.beq (gi d 2).rows.length (gi d 2).rows.length) && true)) then some (none, [.l (gi g2 0).rows, .i (gi g2 1).int, .l (gi d 2).rows, .s (gi d 3).str, .l ((gi d 4).rows ++ ([[.s (gi ((gi d 8).rows.getD (((gi d 10).int).toNat) []) 0).str]] : List (List G))), .l (gi d 5).rows, .i (gi d 6).int, .i (gi d 7).int, .l (gi d 8).rows, .i (gi d 9).int, .i ((gi d 10).int + 1)]) else none) else none) else none) else (bif (inI ((gi d 10).int + 1)) then (bif ((((Nat.beq (gi d 4).rows.length (gi d 4).rows.length) && true) && true) && ((Nat.beq (gi d 2).rows.length (gi d 2).rows.length) && true)) then some (none, [.l (gi g2 0).rows, .i (gi g2 1).int, .l (gi d 2).rows, .s (gi d 3).str, .l (gi d 4).rows, .l (gi d 5).rows, .i (gi d 6).int, .i (gi d 7).int, .l (gi d 8).rows, .i (gi d 9).int, .i ((gi d 10).int + 1)]) else none) else none))) else none) else (bif ((((Nat.beq (gi d 4).rows.length (gi d 4).rows.length) && true) && true) && ((Nat.beq (gi d 2).rows.length (gi d 2).rows.length) && true)) then some (some 0, [.l (gi d 0).rows, .i (gi d 1).int, .l (gi d 2).rows, .s (gi d 3).str, .l (gi d 4).rows, .l (gi d 5).rows, .i (gi d 6).int, .i (gi d 7).int]) else none))
def l_pilemake_Stream_RightClubs_f_8 : LSpec := ⟨8, [], ⟨40, [(0, .s (.ptr 0 0)), (3, .s (.vec 1 2)), (6, .s (.ptr 2 0)), (9, .s (.list [.str])), (10, .s (.int .i64)), (11, .s (.int .i64)), (19, .s (.list [.str])), (20, .s (.int .i64)), (21, .s (.int .i64))], [.box [.list [.int .i64], .int .i64], .vec [.str, .list [.str]] 0, .box [.str, .vec 3 1], .vec [.str] 0]⟩, [.fix 0, .slot 3, .slot 6, .cell 2 1], [⟨.exit 2, ⟨40, [(0, .s (.ptr 0 0)), (3, .s (.vec 1 2)), (6, .s (.ptr 2 0)), (9, .s (.list [.str])), (10, .s (.int .i64)), (11, .s (.int .i64))], [.box [.list [.int .i64], .int .i64], .vec [.str, .list [.str]] 0, .box [.str, .vec 3 1], .vec [.str] 0]⟩, [.fix 0, .slot 3, .slot 6, .cell 2 1]⟩], st_pilemake_Stream_RightClubs_f_8⟩
theorem r_pilemake_Stream_RightClubs_f_8 : RoundOK P t10 (noLoops.hinted [(7, [.openCell 6 1 [.str]]), (13, [.freezeCell 6 1])]) 1 (loopAt Tryz.f42 8) l_pilemake_Stream_RightClubs_f_8 := fun d => by kernel_rfl
def L_pilemake_Stream_RightClubs_f_8 : LT := (noLoops.hinted [(7, [.openCell 6 1 [.str]]), (13, [.freezeCell 6 1])]).add 1 l_pilemake_Stream_RightClubs_f_8
theorem L_pilemake_Stream_RightClubs_f_8_ok : LoopsOK P 1 L_pilemake_Stream_RightClubs_f_8 (bodyOf Tryz.f42) := LoopsOK.add hm t10_ok (by kernel_rfl) (hinted_ok _) r_pilemake_Stream_RightClubs_f_8
def st_pilemake_Stream_RightClubs_f_3 (d : List G) : Option (Option Nat × List G) :=
  (bif (ltI (gi d 5).int (gi d 4).int) then (bif ((nnI (gi d 5).int) && (ltI (gi d 5).int (((gi d 3).rows.length : Nat) : Int))) then (callF (F_pilemake_Stream_Flip [.l (gi d 0).rows, .i (gi d 1).int, .i 6]) fun g1 => (bif (gi g1 2).bool then (bif (inI ((gi d 5).int + 1)) then (bif ((Nat.beq (gi d 2).rows.length (gi d 2).rows.length) && true) then some (none, [.l (gi g1 0).rows, .i (gi g1 1).int, .l (gi d 2).rows, .l (gi d 3).rows, .i (gi d 4).int, .i ((gi d 5).int + 1)]) else none) else none) else (loopB ((Nat.beq (gi d 2).rows.length (gi d 2).rows.length) && true) (LRun st_pilemake_Stream_RightClubs_f_8 [.l (gi g1 0).rows, .i (gi g1 1).int, .l (gi d 2).rows, .s (gi ((gi d 3).rows.getD (((gi d 5).int).toNat) []) 0).str, .l [], .l (gi d 3).rows, .i (gi d 4).int, .i (gi d 5).int, .l [[.s (⟨#[106, 111, 54, 50]⟩ : ByteArray)], [.s (⟨#[107, 112]⟩ : ByteArray)], [.s (⟨#[107, 112, 50, 48]⟩ : ByteArray)], [.s (⟨#[107, 112, 50, 48, 108, 102]⟩ : ByteArray)]], .i 4, .i 0]) fun cg3 g3 => (bif ((Nat.beq (gi g3 4).rows.length (gi g3 4).rows.length) && true) then (bif ((Nat.beq (gi g3 2).rows.length (gi g3 2).rows.length) && (decide (((gi g3 2).rows.length + 1) ≤ 1048576))) then (bif (inI ((gi g3 7).int + 1)) then (bif ((Nat.beq ((gi g3 2).rows ++ ([[.s (gi g3 3).str, .l (gi g3 4).rows]] : List (List G))).length ((gi g3 2).rows ++ ([[.s (gi g3 3).str, .l (gi g3 4).rows]] : List (List G))).length) && true) then some (none, [.l (gi g3 0).rows, .i (gi g3 1).int, .l ((gi g3 2).rows ++ ([[.s (gi g3 3).str, .l (gi g3 4).rows]] : List (List G))), .l (gi g3 5).rows, .i (gi g3 6).int, .i ((gi g3 7).int + 1)]) else none) else none) else none) else none)))) else none) else (bif ((Nat.beq (gi d 2).rows.length (gi d 2).rows.length) && true) then some (some 0, [.l (gi d 0).rows, .i (gi d 1).int, .l (gi d 2).rows]) else none))
def l_pilemake_Stream_RightClubs_f_3 : LSpec := ⟨3, [(3, [.str, .list [.str]])], ⟨40, [(0, .s (.ptr 0 0)), (3, .s (.vec 1 2)), (9, .s (.list [.str])), (10, .s (.int .i64)), (11, .s (.int .i64))], [.box [.list [.int .i64], .int .i64], .vec [.str, .list [.str]] 0]⟩, [.fix 0, .slot 3], [⟨.exit 0, ⟨40, [(3, .s (.vec 1 2))], [.box [.list [.int .i64], .int .i64], .vec [.str, .list [.str]] 0]⟩, [.fix 0, .slot 3]⟩], st_pilemake_Stream_RightClubs_f_3⟩
theorem r_pilemake_Stream_RightClubs_f_3 : RoundOK P t10 L_pilemake_Stream_RightClubs_f_8 1 (loopAt Tryz.f42 3) l_pilemake_Stream_RightClubs_f_3 := fun d => by kernel_rfl
def L_pilemake_Stream_RightClubs_f_3 : LT := L_pilemake_Stream_RightClubs_f_8.add 1 l_pilemake_Stream_RightClubs_f_3
theorem L_pilemake_Stream_RightClubs_f_3_ok : LoopsOK P 1 L_pilemake_Stream_RightClubs_f_3 (bodyOf Tryz.f42) := LoopsOK.add hm t10_ok (by kernel_rfl) L_pilemake_Stream_RightClubs_f_8_ok r_pilemake_Stream_RightClubs_f_3
def F_pilemake_Stream_RightClubs_f (d : List G) : Option (List G) :=
  (loopB true (LRun st_pilemake_Stream_RightClubs_f_3 [.l (gi d 0).rows, .i (gi d 1).int, .l [], .l [[.s (⟨#[101, 97, 115, 116]⟩ : ByteArray)], [.s (⟨#[110, 111, 114, 116, 104]⟩ : ByteArray)], [.s (⟨#[119, 101, 115, 116]⟩ : ByteArray)]], .i 3, .i 0]) fun cg4 g4 => (bif ((Nat.beq (gi g4 2).rows.length (gi g4 2).rows.length) && true) then some [.l (gi g4 0).rows, .i (gi g4 1).int, .l (gi g4 2).rows] else none))
def s_pilemake_Stream_RightClubs_f : FSpec := ⟨42, [.s (.ptr 0 0)], [.box [.list [.int .i64], .int .i64]], [.slot 0], [.s (.vec 1 2)], [.box [.list [.int .i64], .int .i64], .vec [.str, .list [.str]] 0], [.fix 0, .slot 0], [], F_pilemake_Stream_RightClubs_f⟩
theorem b_pilemake_Stream_RightClubs_f : BodyOK P t10 L_pilemake_Stream_RightClubs_f_3 Tryz.f42 s_pilemake_Stream_RightClubs_f := fun d => by kernel_rfl
theorem c_pilemake_Stream_RightClubs_f : ∀ d r, F_pilemake_Stream_RightClubs_f d = some r → ACallX P 42 (s_pilemake_Stream_RightClubs_f.args0 d) (denH (s_pilemake_Stream_RightClubs_f.H0 d)) (s_pilemake_Stream_RightClubs_f.out r) (denH (s_pilemake_Stream_RightClubs_f.H1 r)) := fun d r h => body_sound hm t10_ok (sp := s_pilemake_Stream_RightClubs_f) Tryz.func42 (by kernel_rfl) L_pilemake_Stream_RightClubs_f_3_ok b_pilemake_Stream_RightClubs_f (by kernel_rfl) h
def t11 : Tab := t10.addW s_pilemake_Stream_RightClubs_f
theorem t11_ok : TabOK P t11 := t10_ok.addW (by kernel_rfl) (by kernel_rfl) c_pilemake_Stream_RightClubs_f

/- slices.Clone[[]string,string] -/
def F_slices_Clone_string_f_0 (d : List G) : Option (List G) :=
  (bif (Nat.blt 0 (gi d 0).rows.length) then (bif (decide ((gi d 0).rows.length ≤ 1048576)) then (bif ((Nat.beq (gi d 0).rows.length (gi d 0).rows.length) && true) then some [.l (gi d 0).rows] else none) else none) else none)
def s_slices_Clone_string_f_0 : FSpec := ⟨45, [.s (.list [.str])], [], [], [.s (.vec 0 1)], [.vec [.str] 0], [.slot 0], [], F_slices_Clone_string_f_0⟩
theorem b_slices_Clone_string_f_0 : BodyOK P t11 noLoops Tryz.f45 s_slices_Clone_string_f_0 := fun d => by kernel_rfl
theorem c_slices_Clone_string_f_0 : ∀ d r, F_slices_Clone_string_f_0 d = some r → ACallX P 45 (s_slices_Clone_string_f_0.args0 d) (denH (s_slices_Clone_string_f_0.H0 d)) (s_slices_Clone_string_f_0.out r) (denH (s_slices_Clone_string_f_0.H1 r)) := fun d r h => body_sound hm t11_ok (sp := s_slices_Clone_string_f_0) Tryz.func45 (by kernel_rfl) (noLoops_ok _ _ _) b_slices_Clone_string_f_0 (by kernel_rfl) h
def s_slices_Clone_string_fT : FSpec := { s_slices_Clone_string_f_0 with args := [.s (.emp true)], opens := [(2, [.str])], F := fun _ => some [.l []] }
theorem b_slices_Clone_string_fT : BodyOK P t11 noLoops Tryz.f45 s_slices_Clone_string_fT := fun d => by kernel_rfl
theorem c_slices_Clone_string_fT : ∀ d r, s_slices_Clone_string_fT.F d = some r → ACallX P 45 (s_slices_Clone_string_fT.args0 d) (denH (s_slices_Clone_string_fT.H0 d)) (s_slices_Clone_string_fT.out r) (denH (s_slices_Clone_string_fT.H1 r)) := fun d r h => body_sound hm t11_ok (sp := s_slices_Clone_string_fT) Tryz.func45 (by kernel_rfl) (noLoops_ok _ _ _) b_slices_Clone_string_fT (by kernel_rfl) h
def s_slices_Clone_string_fF : FSpec := { s_slices_Clone_string_f_0 with args := [.s (.emp false)], opens := [(2, [.str])], F := fun _ => some [.l []] }
theorem b_slices_Clone_string_fF : BodyOK P t11 noLoops Tryz.f45 s_slices_Clone_string_fF := fun d => by kernel_rfl
theorem c_slices_Clone_string_fF : ∀ d r, s_slices_Clone_string_fF.F d = some r → ACallX P 45 (s_slices_Clone_string_fF.args0 d) (denH (s_slices_Clone_string_fF.H0 d)) (s_slices_Clone_string_fF.out r) (denH (s_slices_Clone_string_fF.H1 r)) := fun d r h => body_sound hm t11_ok (sp := s_slices_Clone_string_fF) Tryz.func45 (by kernel_rfl) (noLoops_ok _ _ _) b_slices_Clone_string_fF (by kernel_rfl) h
def F_slices_Clone_string_f (d : List G) : Option (List G) := bif Nat.blt 0 (gi d 0).rows.length then F_slices_Clone_string_f_0 d else some [.l []]
def s_slices_Clone_string_f : FSpec := { s_slices_Clone_string_f_0 with F := F_slices_Clone_string_f }
theorem c_slices_Clone_string_f : ∀ d r, F_slices_Clone_string_f d = some r → ACallX P 45 (s_slices_Clone_string_f.args0 d) (denH (s_slices_Clone_string_f.H0 d)) (s_slices_Clone_string_f.out r) (denH (s_slices_Clone_string_f.H1 r)) := fun d r h => by
  unfold F_slices_Clone_string_f at h
  cases hb : Nat.blt 0 (gi d 0).rows.length with
  | true => rw [hb] at h; exact c_slices_Clone_string_f_0 d r h
  | false =>
    rw [hb] at h
    cases h
    have e : (d.headD default).rows = [] := by
      have : ¬ 0 < (gi d 0).rows.length := fun hh => by
        have h2 : Nat.blt 0 (gi d 0).rows.length = true := by rw [Nat.blt_eq]; exact hh
        rw [h2] at hb
        cases hb
      exact List.eq_nil_of_length_eq_zero (Nat.eq_zero_of_not_pos this)
    have ha : s_slices_Clone_string_f.args0 d = [.listF [.str] []] := by
      rw [← e]
      rfl
    rw [ha]
    exact acall_empty (c_slices_Clone_string_fT d [.l []] rfl) (c_slices_Clone_string_fF d [.l []] rfl)
def t12 : Tab := t11.addW s_slices_Clone_string_f
theorem t12_ok : TabOK P t12 := t11_ok.addW (by kernel_rfl) (by kernel_rfl) c_slices_Clone_string_f

/- (*pileup/pilemake.Stream).ClubList -/
def tl_pilemake_Stream_ClubList_3 (d : List G) : Option (Option Nat × List G) :=
  (bif (gi d 3).bool then (callF (F_pilemake_Stream_Next [.l (gi d 0).rows, .i (gi d 1).int, .i (((gi d 2).rows.length : Nat) : Int)]) fun g3 => (bif ((nnI (gi g3 2).int) && (ltI (gi g3 2).int (((gi d 2).rows.length : Nat) : Int))) then (bif (decide ((0 + ((gi g3 2).int).toNat) < (gi d 2).rows.length)) then (callF (F_pilemake_Stream_Some [.l (gi g3 0).rows, .i (gi g3 1).int, .l [[.s (gi ((gi d 2).rows.getD (0 + ((gi g3 2).int).toNat) []) 0).str], [.s (⟨#[]⟩ : ByteArray)], [.s (⟨#[101, 97, 115, 116]⟩ : ByteArray)]]]) fun g4 => (bif (decide ((0 + ((gi g3 2).int).toNat) < (gi d 2).rows.length)) then (bif (decide ((0 + ((gi g3 2).int).toNat) < ((gi d 2).rows.set (0 + ((gi g3 2).int).toNat) (putG [.str, .list [.str]] ((gi d 2).rows.getD (0 + ((gi g3 2).int).toNat) []) 0 [.s (gi g4 2).str])).length)) then (callF (F_slices_Clone_string_f [.l (gi (((gi d 2).rows.set (0 + ((gi g3 2).int).toNat) (putG [.str, .list [.str]] ((gi d 2).rows.getD (0 + ((gi g3 2).int).toNat) []) 0 [.s (gi g4 2).str])).getD (0 + ((gi g3 2).int).toNat) []) 1).rows]) fun g5 => (callF (F_pilemake_Stream_Some [.l (gi g4 0).rows, .i (gi g4 1).int, .l [[.s (⟨#[122, 122]⟩ : ByteArray)], [.s (⟨#[107, 112, 50]⟩ : ByteArray)], [.s (⟨#[107, 112, 50, 48, 108, 102, 120]⟩ : ByteArray)], [.s (⟨#[75, 80]⟩ : ByteArray)], [.s (⟨#[114, 114, 57, 57, 120, 120]⟩ : ByteArray)], [.s (⟨#[97, 97]⟩ : ByteArray)], [.s (⟨#[115, 97]⟩ : ByteArray)]]]) fun g6 => (bif ((Nat.beq (gi g5 0).rows.length (gi g5 0).rows.length) && (decide (((gi g5 0).rows.length + 1) ≤ 1048576))) then (bif ((Nat.beq ((gi g5 0).rows ++ ([[.s (gi g6 2).str]] : List (List G))).length ((gi g5 0).rows ++ ([[.s (gi g6 2).str]] : List (List G))).length) && (decide ((0 + ((gi g3 2).int).toNat) < ((gi d 2).rows.set (0 + ((gi g3 2).int).toNat) (putG [.str, .list [.str]] ((gi d 2).rows.getD (0 + ((gi g3 2).int).toNat) []) 0 [.s (gi g4 2).str])).length))) then (bif ((Nat.beq (gi d 2).rows.length (((gi d 2).rows.set (0 + ((gi g3 2).int).toNat) (putG [.str, .list [.str]] ((gi d 2).rows.getD (0 + ((gi g3 2).int).toNat) []) 0 [.s (gi g4 2).str])).set (0 + ((gi g3 2).int).toNat) (putG [.str, .list [.str]] (((gi d 2).rows.set (0 + ((gi g3 2).int).toNat) (putG [.str, .list [.str]] ((gi d 2).rows.getD (0 + ((gi g3 2).int).toNat) []) 0 [.s (gi g4 2).str])).getD (0 + ((gi g3 2).int).toNat) []) 1 [.l ((gi g5 0).rows ++ ([[.s (gi g6 2).str]] : List (List G)))])).length) && true) then some (some 0, [.l (gi g6 0).rows, .i (gi g6 1).int, .l (((gi d 2).rows.set (0 + ((gi g3 2).int).toNat) (putG [.str, .list [.str]] ((gi d 2).rows.getD (0 + ((gi g3 2).int).toNat) []) 0 [.s (gi g4 2).str])).set (0 + ((gi g3 2).int).toNat) (putG [.str, .list [.str]] (((gi d 2).rows.set (0 + ((gi g3 2).int).toNat) (putG [.str, .list [.str]] ((gi d 2).rows.getD (0 + ((gi g3 2).int).toNat) []) 0 [.s (gi g4 2).str])).getD (0 + ((gi g3 2).int).toNat) []) 1 [.l ((gi g5 0).rows ++ ([[.s (gi g6 2).str]] : List (List G)))]))]) else none) else none) else none))) else none) else none)) else none) else none)) else (bif ((Nat.beq (gi d 2).rows.length (gi d 2).rows.length) && true) then some (some 0, [.l (gi d 0).rows, .i (gi d 1).int, .l (gi d 2).rows]) else none))
def l_pilemake_Stream_ClubList_3c : LSpec := ⟨3, [], ⟨44, [(0, .s (.ptr 0 0)), (3, .s (.vec 1 2)), (13, .s (.bool))], [.box [.list [.int .i64], .int .i64], .vec [.str, .list [.str]] 0]⟩, [.fix 0, .slot 3], [⟨.normal, ⟨44, [(3, .s (.vec 1 2))], [.box [.list [.int .i64], .int .i64], .vec [.str, .list [.str]] 0]⟩, [.fix 0, .slot 3]⟩], tl_pilemake_Stream_ClubList_3⟩
theorem r_pilemake_Stream_ClubList_3c : CutOK P t12 noLoops 1 (cutAt Tryz.f6 3) l_pilemake_Stream_ClubList_3c := fun d => by kernel_rfl
def L_pilemake_Stream_ClubList_3c : LT := noLoops.addCut 1 l_pilemake_Stream_ClubList_3c
theorem L_pilemake_Stream_ClubList_3c_ok : LoopsOK P 1 L_pilemake_Stream_ClubList_3c (bodyOf Tryz.f6) := LoopsOK.addCut hm t12_ok (by kernel_rfl) (noLoops_ok _ _ _) r_pilemake_Stream_ClubList_3c
def F_pilemake_Stream_ClubList (d : List G) : Option (List G) :=
  (callF (F_pilemake_Stream_RightClubs_f [.l (gi d 0).rows, .i (gi d 1).int]) fun g1 => (bif (ltI 0 (((gi g1 2).rows.length : Nat) : Int)) then (callF (F_pilemake_Stream_Flip [.l (gi g1 0).rows, .i (gi g1 1).int, .i 12]) fun g2 => (loopB ((Nat.beq (gi g1 2).rows.length (gi g1 2).rows.length) && true) (cutR (tl_pilemake_Stream_ClubList_3 [.l (gi g2 0).rows, .i (gi g2 1).int, .l (gi g1 2).rows, .t (gi g2 2).bool])) fun cg7 g7 => (bif ((Nat.beq (gi g7 2).rows.length (gi g7 2).rows.length) && true) then some [.l (gi g7 0).rows, .i (gi g7 1).int, .l (gi g7 2).rows] else none))) else (loopB ((Nat.beq (gi g1 2).rows.length (gi g1 2).rows.length) && true) (cutR (tl_pilemake_Stream_ClubList_3 [.l (gi g1 0).rows, .i (gi g1 1).int, .l (gi g1 2).rows, .t false])) fun cg8 g8 => (bif ((Nat.beq (gi g8 2).rows.length (gi g8 2).rows.length) && true) then some [.l (gi g8 0).rows, .i (gi g8 1).int, .l (gi g8 2).rows] else none))))
def s_pilemake_Stream_ClubList : FSpec := ⟨6, [.s (.ptr 0 0)], [.box [.list [.int .i64], .int .i64]], [.slot 0], [.s (.list [.str, .list [.str]])], [.box [.list [.int .i64], .int .i64]], [.fix 0], [], F_pilemake_Stream_ClubList⟩
theorem b_pilemake_Stream_ClubList : BodyOK P t12 L_pilemake_Stream_ClubList_3c Tryz.f6 s_pilemake_Stream_ClubList := fun d => by kernel_rfl
theorem c_pilemake_Stream_ClubList : ∀ d r, F_pilemake_Stream_ClubList d = some r → ACallX P 6 (s_pilemake_Stream_ClubList.args0 d) (denH (s_pilemake_Stream_ClubList.H0 d)) (s_pilemake_Stream_ClubList.out r) (denH (s_pilemake_Stream_ClubList.H1 r)) := fun d r h => body_sound hm t12_ok (sp := s_pilemake_Stream_ClubList) Tryz.func6 (by kernel_rfl) L_pilemake_Stream_ClubList_3c_ok b_pilemake_Stream_ClubList (by kernel_rfl) h
def t13 : Tab := t12.addW s_pilemake_Stream_ClubList
theorem t13_ok : TabOK P t13 := t12_ok.addW (by kernel_rfl) (by kernel_rfl) c_pilemake_Stream_ClubList

/- (*pileup/pilemake.Stream).Range -/
def F_pilemake_Stream_Range (d : List G) : Option (List G) :=
  (bif (ltI (gi d 3).int (gi d 2).int) then some [.l (gi d 0).rows, .i (gi d 1).int, .i (gi d 2).int] else (bif (inI ((gi d 3).int - (gi d 2).int)) then (bif (inI (((gi d 3).int - (gi d 2).int) + 1)) then (callF (F_pilemake_Stream_Next [.l (gi d 0).rows, .i (gi d 1).int, .i (((gi d 3).int - (gi d 2).int) + 1)]) fun g1 => (bif (inI ((gi d 2).int + (gi g1 2).int)) then some [.l (gi g1 0).rows, .i (gi g1 1).int, .i ((gi d 2).int + (gi g1 2).int)] else none)) else none) else none))
def s_pilemake_Stream_Range : FSpec := ⟨46, [.s (.ptr 0 0), .s (.int .i64), .s (.int .i64)], [.box [.list [.int .i64], .int .i64]], [.slot 0], [.s (.int .i64)], [.box [.list [.int .i64], .int .i64]], [.fix 0], [], F_pilemake_Stream_Range⟩
theorem b_pilemake_Stream_Range : BodyOK P t13 noLoops Tryz.f46 s_pilemake_Stream_Range := fun d => by kernel_rfl
theorem c_pilemake_Stream_Range : ∀ d r, F_pilemake_Stream_Range d = some r → ACallX P 46 (s_pilemake_Stream_Range.args0 d) (denH (s_pilemake_Stream_Range.H0 d)) (s_pilemake_Stream_Range.out r) (denH (s_pilemake_Stream_Range.H1 r)) := fun d r h => body_sound hm t13_ok (sp := s_pilemake_Stream_Range) Tryz.func46 (by kernel_rfl) (noLoops_ok _ _ _) b_pilemake_Stream_Range (by kernel_rfl) h
def t14 : Tab := t13.addW s_pilemake_Stream_Range
theorem t14_ok : TabOK P t14 := t13_ok.addW (by kernel_rfl) (by kernel_rfl) c_pilemake_Stream_Range

/- (*pileup/pilemake.Stream).Pick -/
def F_pilemake_Stream_Pick (d : List G) : Option (List G) :=
  (callF (F_pilemake_Stream_Next [.l (gi d 0).rows, .i (gi d 1).int, .i (((gi d 2).rows.length : Nat) : Int)]) fun g1 => (bif ((nnI (gi g1 2).int) && (ltI (gi g1 2).int (((gi d 2).rows.length : Nat) : Int))) then some [.l (gi g1 0).rows, .i (gi g1 1).int, .i (gi ((gi d 2).rows.getD (((gi g1 2).int).toNat) []) 0).int] else none))
def s_pilemake_Stream_Pick : FSpec := ⟨9, [.s (.ptr 0 0), .s (.list [.int .i64])], [.box [.list [.int .i64], .int .i64]], [.slot 0], [.s (.int .i64)], [.box [.list [.int .i64], .int .i64]], [.fix 0], [], F_pilemake_Stream_Pick⟩
theorem b_pilemake_Stream_Pick : BodyOK P t14 noLoops Tryz.f9 s_pilemake_Stream_Pick := fun d => by kernel_rfl
theorem c_pilemake_Stream_Pick : ∀ d r, F_pilemake_Stream_Pick d = some r → ACallX P 9 (s_pilemake_Stream_Pick.args0 d) (denH (s_pilemake_Stream_Pick.H0 d)) (s_pilemake_Stream_Pick.out r) (denH (s_pilemake_Stream_Pick.H1 r)) := fun d r h => body_sound hm t14_ok (sp := s_pilemake_Stream_Pick) Tryz.func9 (by kernel_rfl) (noLoops_ok _ _ _) b_pilemake_Stream_Pick (by kernel_rfl) h
def t15 : Tab := t14.addW s_pilemake_Stream_Pick
theorem t15_ok : TabOK P t15 := t14_ok.addW (by kernel_rfl) (by kernel_rfl) c_pilemake_Stream_Pick

/- (*pileup/pilemake.Stream).Odd -/
def F_pilemake_Stream_Odd (d : List G) : Option (List G) :=
  (callF (F_pilemake_Stream_Flip [.l (gi d 0).rows, .i (gi d 1).int, .i 12]) fun g1 => (bif (gi g1 2).bool then (bif (inI ((gi d 2).int - 1)) then (bif (inI ((gi d 3).int + 1)) then (callF (F_pilemake_Stream_Pick [.l (gi g1 0).rows, .i (gi g1 1).int, .l [[.i ((gi d 2).int - 1)], [.i ((gi d 3).int + 1)], [.i (gi d 2).int], [.i (gi d 3).int], [.i (-1099511627776)], [.i 1099511627776]]]) fun g2 => some [.l (gi g2 0).rows, .i (gi g2 1).int, .i (gi g2 2).int]) else none) else none) else (callF (F_pilemake_Stream_Range [.l (gi g1 0).rows, .i (gi g1 1).int, .i (gi d 2).int, .i (gi d 3).int]) fun g3 => some [.l (gi g3 0).rows, .i (gi g3 1).int, .i (gi g3 2).int])))
def s_pilemake_Stream_Odd : FSpec := ⟨47, [.s (.ptr 0 0), .s (.int .i64), .s (.int .i64)], [.box [.list [.int .i64], .int .i64]], [.slot 0], [.s (.int .i64)], [.box [.list [.int .i64], .int .i64]], [.fix 0], [], F_pilemake_Stream_Odd⟩
theorem b_pilemake_Stream_Odd : BodyOK P t15 noLoops Tryz.f47 s_pilemake_Stream_Odd := fun d => by kernel_rfl
theorem c_pilemake_Stream_Odd : ∀ d r, F_pilemake_Stream_Odd d = some r → ACallX P 47 (s_pilemake_Stream_Odd.args0 d) (denH (s_pilemake_Stream_Odd.H0 d)) (s_pilemake_Stream_Odd.out r) (denH (s_pilemake_Stream_Odd.H1 r)) := fun d r h => body_sound hm t15_ok (sp := s_pilemake_Stream_Odd) Tryz.func47 (by kernel_rfl) (noLoops_ok _ _ _) b_pilemake_Stream_Odd (by kernel_rfl) h
def t16 : Tab := t15.addW s_pilemake_Stream_Odd
theorem t16_ok : TabOK P t16 := t15_ok.addW (by kernel_rfl) (by kernel_rfl) c_pilemake_Stream_Odd

/- (*pileup/pilemake.Stream).Members -/
def tl_pilemake_Stream_Members_10 (d : List G) : Option (Option Nat × List G) :=
  (bif (gi d 15).bool then (callF (F_pilemake_Stream_Next [.l (gi d 0).rows, .i (gi d 1).int, .i (((gi d 7).rows.length : Nat) : Int)]) fun g5 => (bif ((nnI (gi g5 2).int) && (ltI (gi g5 2).int (((gi d 7).rows.length : Nat) : Int))) then (bif ((Nat.beq (gi d 2).rows.length (gi d 2).rows.length) && true) then some (some 0, [.l (gi g5 0).rows, .i (gi g5 1).int, .l (gi d 2).rows, .s (gi d 3).str, .s (gi ((gi d 7).rows.getD (((gi g5 2).int).toNat) []) 0).str, .i (gi d 5).int, .s (gi d 6).str, .l (gi d 7).rows, .s (gi d 8).str, .i (gi d 9).int, .l (gi d 10).rows, .i (gi d 11).int, .i (gi d 12).int, .i (gi d 13).int, .i (gi d 14).int]) else none) else none)) else (bif ((Nat.beq (gi d 2).rows.length (gi d 2).rows.length) && true) then some (some 0, [.l (gi d 0).rows, .i (gi d 1).int, .l (gi d 2).rows, .s (gi d 3).str, .s (gi d 4).str, .i (gi d 5).int, .s (gi d 6).str, .l (gi d 7).rows, .s (gi d 8).str, .i (gi d 9).int, .l (gi d 10).rows, .i (gi d 11).int, .i (gi d 12).int, .i (gi d 13).int, .i (gi d 14).int]) else none))
def l_pilemake_Stream_Members_10c : LSpec := ⟨10, [], ⟨76, [(0, .s (.ptr 0 0)), (1, .s (.list [.str, .list [.str]])), (5, .s (.vec 1 4)), (7, .s (.str)), (8, .s (.int .i64)), (9, .s (.ptr 2 0)), (10, .s (.list [.str])), (11, .s (.int .i64)), (12, .s (.int .i64)), (19, .s (.int .i64)), (20, .s (.int .i64)), (35, .s (.bool))], [.box [.list [.int .i64], .int .i64], .vec KMember 0, .box [.str, .str, .int .i64, .str]]⟩, [.fix 0, .slot 5, .slot 9], [⟨.normal, ⟨76, [(0, .s (.ptr 0 0)), (1, .s (.list [.str, .list [.str]])), (5, .s (.vec 1 4)), (7, .s (.str)), (8, .s (.int .i64)), (9, .s (.ptr 2 0)), (10, .s (.list [.str])), (11, .s (.int .i64)), (12, .s (.int .i64)), (19, .s (.int .i64)), (20, .s (.int .i64))], [.box [.list [.int .i64], .int .i64], .vec KMember 0, .box [.str, .str, .int .i64, .str]]⟩, [.fix 0, .slot 5, .slot 9]⟩], tl_pilemake_Stream_Members_10⟩
theorem r_pilemake_Stream_Members_10c : CutOK P t16 noLoops 1 (cutAt Tryz.f7 10) l_pilemake_Stream_Members_10c := fun d => by kernel_rfl
def L_pilemake_Stream_Members_10c : LT := noLoops.addCut 1 l_pilemake_Stream_Members_10c
theorem L_pilemake_Stream_Members_10c_ok : LoopsOK P 1 L_pilemake_Stream_Members_10c (bodyOf Tryz.f7) := LoopsOK.addCut hm t16_ok (by kernel_rfl) (noLoops_ok _ _ _) r_pilemake_Stream_Members_10c
def tl_pilemake_Stream_Members_11 (d : List G) : Option (Option Nat × List G) :=
  (callF (F_pilemake_Stream_Flip [.l (gi d 0).rows, .i (gi d 1).int, .i 60]) fun g7 => (bif (gi g7 2).bool then (callF (F_pilemake_Stream_Some [.l (gi g7 0).rows, .i (gi g7 1).int, .l [[.s (gi d 8).str], [.s (⟨#[107, 49, 97, 98, 47, 52]⟩ : ByteArray)], [.s (⟨#[]⟩ : ByteArray)]]]) fun g8 => (callF (F_pilemake_Stream_Some [.l (gi g8 0).rows, .i (gi g8 1).int, .l [[.s (gi d 4).str], [.s (⟨#[110, 111, 98, 111, 100, 121]⟩ : ByteArray)]]]) fun g9 => (callF (F_pilemake_Stream_Odd [.l (gi g9 0).rows, .i (gi g9 1).int, .i 0, .i 9]) fun g10 => (callF (F_pilemake_Stream_Some [.l (gi g10 0).rows, .i (gi g10 1).int, .l [[.s (⟨#[107, 112, 50, 48]⟩ : ByteArray)], [.s (⟨#[107, 112, 50, 48, 108, 122]⟩ : ByteArray)], [.s (⟨#[107, 112, 50, 48, 108, 102]⟩ : ByteArray)]]]) fun g11 => (bif ((Nat.beq (gi d 2).rows.length (gi d 2).rows.length) && (decide (((gi d 2).rows.length + 1) ≤ 1048576))) then (callF (F_pilemake_Stream_Range [.l (gi g11 0).rows, .i (gi g11 1).int, .i 1, .i 3]) fun g12 => (bif (inI ((gi d 9).int + (gi g12 2).int)) then (bif ((Nat.beq ((gi d 2).rows ++ ([[.s (gi g8 2).str, .s (gi g9 2).str, .i (gi g10 2).int, .s (gi g11 2).str]] : List (List G))).length ((gi d 2).rows ++ ([[.s (gi g8 2).str, .s (gi g9 2).str, .i (gi g10 2).int, .s (gi g11 2).str]] : List (List G))).length) && true) then some (some 0, [.l (gi g12 0).rows, .i (gi g12 1).int, .l ((gi d 2).rows ++ ([[.s (gi g8 2).str, .s (gi g9 2).str, .i (gi g10 2).int, .s (gi g11 2).str]] : List (List G))), .l (gi d 7).rows, .s (gi d 8).str, .i ((gi d 9).int + (gi g12 2).int), .l (gi d 10).rows, .i (gi d 11).int, .i (gi d 12).int, .i (gi d 13).int, .i (gi d 14).int]) else none) else none)) else none))))) else (bif ((Nat.beq (gi d 2).rows.length (gi d 2).rows.length) && (decide (((gi d 2).rows.length + 1) ≤ 1048576))) then (callF (F_pilemake_Stream_Range [.l (gi g7 0).rows, .i (gi g7 1).int, .i 1, .i 3]) fun g13 => (bif (inI ((gi d 9).int + (gi g13 2).int)) then (bif ((Nat.beq ((gi d 2).rows ++ ([[.s (gi d 3).str, .s (gi d 4).str, .i (gi d 5).int, .s (gi d 6).str]] : List (List G))).length ((gi d 2).rows ++ ([[.s (gi d 3).str, .s (gi d 4).str, .i (gi d 5).int, .s (gi d 6).str]] : List (List G))).length) && true) then some (some 0, [.l (gi g13 0).rows, .i (gi g13 1).int, .l ((gi d 2).rows ++ ([[.s (gi d 3).str, .s (gi d 4).str, .i (gi d 5).int, .s (gi d 6).str]] : List (List G))), .l (gi d 7).rows, .s (gi d 8).str, .i ((gi d 9).int + (gi g13 2).int), .l (gi d 10).rows, .i (gi d 11).int, .i (gi d 12).int, .i (gi d 13).int, .i (gi d 14).int]) else none) else none)) else none)))
def l_pilemake_Stream_Members_11c : LSpec := ⟨11, [], ⟨76, [(0, .s (.ptr 0 0)), (1, .s (.list [.str, .list [.str]])), (5, .s (.vec 1 4)), (7, .s (.str)), (8, .s (.int .i64)), (9, .s (.ptr 2 0)), (10, .s (.list [.str])), (11, .s (.int .i64)), (12, .s (.int .i64)), (19, .s (.int .i64)), (20, .s (.int .i64))], [.box [.list [.int .i64], .int .i64], .vec KMember 0, .box [.str, .str, .int .i64, .str]]⟩, [.fix 0, .slot 5, .slot 9], [⟨.normal, ⟨76, [(0, .s (.ptr 0 0)), (1, .s (.list [.str, .list [.str]])), (5, .s (.vec 1 4)), (7, .s (.str)), (8, .s (.int .i64)), (10, .s (.list [.str])), (11, .s (.int .i64)), (12, .s (.int .i64)), (19, .s (.int .i64)), (20, .s (.int .i64))], [.box [.list [.int .i64], .int .i64], .vec KMember 0]⟩, [.fix 0, .slot 5]⟩], tl_pilemake_Stream_Members_11⟩
theorem r_pilemake_Stream_Members_11c : CutOK P t16 L_pilemake_Stream_Members_10c 1 (cutAt Tryz.f7 11) l_pilemake_Stream_Members_11c := fun d => by kernel_rfl
def L_pilemake_Stream_Members_11c : LT := L_pilemake_Stream_Members_10c.addCut 1 l_pilemake_Stream_Members_11c
theorem L_pilemake_Stream_Members_11c_ok : LoopsOK P 1 L_pilemake_Stream_Members_11c (bodyOf Tryz.f7) := LoopsOK.addCut hm t16_ok (by kernel_rfl) L_pilemake_Stream_Members_10c_ok r_pilemake_Stream_Members_11c
def st_pilemake_Stream_Members_7 (d : List G) : Option (Option Nat × List G) :=
  (bif (ltI (gi d 10).int (gi d 9).int) then (callF (F_pilemake_Stream_Some [.l (gi d 0).rows, .i (gi d 1).int, .l [[.s (⟨#[107, 112, 50, 48, 108, 102]⟩ : ByteArray)], [.s (⟨#[107, 112, 50, 48, 97, 97]⟩ : ByteArray)], [.s (⟨#[107, 112, 50, 49, 120, 120]⟩ : ByteArray)], [.s (⟨#[106, 111, 54, 50, 113, 109]⟩ : ByteArray)], [.s (⟨#[97, 97, 48, 48, 97, 97]⟩ : ByteArray)]]]) fun g3 => (bif (ltI 0 (((gi d 3).rows.length : Nat) : Int)) then (callF (F_pilemake_Stream_Flip [.l (gi g3 0).rows, .i (gi g3 1).int, .i 5]) fun g4 => (loopB ((Nat.beq (gi d 2).rows.length (gi d 2).rows.length) && true) (cutR (tl_pilemake_Stream_Members_10 [.l (gi g4 0).rows, .i (gi g4 1).int, .l (gi d 2).rows, .s (gi d 4).str, .s (⟨#[]⟩ : ByteArray), .i (gi d 5).int, .s (gi g3 2).str, .l (gi d 3).rows, .s (gi d 4).str, .i (gi d 5).int, .l (gi d 6).rows, .i (gi d 7).int, .i (gi d 8).int, .i (gi d 9).int, .i (gi d 10).int, .t (!(gi g4 2).bool)])) fun cg6 g6 => (loopB ((Nat.beq (gi g6 2).rows.length (gi g6 2).rows.length) && true) (cutR (tl_pilemake_Stream_Members_11 [.l (gi g6 0).rows, .i (gi g6 1).int, .l (gi g6 2).rows, .s (gi g6 3).str, .s (gi g6 4).str, .i (gi g6 5).int, .s (gi g6 6).str, .l (gi g6 7).rows, .s (gi g6 8).str, .i (gi g6 9).int, .l (gi g6 10).rows, .i (gi g6 11).int, .i (gi g6 12).int, .i (gi g6 13).int, .i (gi g6 14).int])) fun cg14 g14 => (bif (inI ((gi g14 10).int + 1)) then (bif ((Nat.beq (gi g14 2).rows.length (gi g14 2).rows.length) && true) then some (none, [.l (gi g14 0).rows, .i (gi g14 1).int, .l (gi g14 2).rows, .l (gi g14 3).rows, .s (gi g14 4).str, .i (gi g14 5).int, .l (gi g14 6).rows, .i (gi g14 7).int, .i (gi g14 8).int, .i (gi g14 9).int, .i ((gi g14 10).int + 1)]) else none) else none)))) else (loopB ((Nat.beq (gi d 2).rows.length (gi d 2).rows.length) && true) (cutR (tl_pilemake_Stream_Members_10 [.l (gi g3 0).rows, .i (gi g3 1).int, .l (gi d 2).rows, .s (gi d 4).str, .s (⟨#[]⟩ : ByteArray), .i (gi d 5).int, .s (gi g3 2).str, .l (gi d 3).rows, .s (gi d 4).str, .i (gi d 5).int, .l (gi d 6).rows, .i (gi d 7).int, .i (gi d 8).int, .i (gi d 9).int, .i (gi d 10).int, .t false])) fun cg15 g15 => (loopB ((Nat.beq (gi g15 2).rows.length (gi g15 2).rows.length) && true) (cutR (tl_pilemake_Stream_Members_11 [.l (gi g15 0).rows, .i (gi g15 1).int, .l (gi g15 2).rows, .s (gi g15 3).str, .s (gi g15 4).str, .i (gi g15 5).int, .s (gi g15 6).str, .l (gi g15 7).rows, .s (gi g15 8).str, .i (gi g15 9).int, .l (gi g15 10).rows, .i (gi g15 11).int, .i (gi g15 12).int, .i (gi g15 13).int, .i (gi g15 14).int])) fun cg16 g16 => (bif (inI ((gi g16 10).int + 1)) then (bif ((Nat.beq (gi g16 2).rows.length (gi g16 2).rows.length) && true) then some (none, [.l (gi g16 0).rows, .i (gi g16 1).int, .l (gi g16 2).rows, .l (gi g16 3).rows, .s (gi g16 4).str, .i (gi g16 5).int, .l (gi g16 6).rows, .i (gi g16 7).int, .i (gi g16 8).int, .i (gi g16 9).int, .i ((gi g16 10).int + 1)]) else none) else none))))) else (bif ((Nat.beq (gi d 2).rows.length (gi d 2).rows.length) && true) then some (some 0, [.l (gi d 0).rows, .i (gi d 1).int, .l (gi d 2).rows, .l (gi d 3).rows, .l (gi d 6).rows, .i (gi d 7).int, .i (gi d 8).int]) else none))
def l_pilemake_Stream_Members_7 : LSpec := ⟨7, [], ⟨76, [(0, .s (.ptr 0 0)), (1, .s (.list [.str, .list [.str]])), (5, .s (.vec 1 4)), (7, .s (.str)), (8, .s (.int .i64)), (10, .s (.list [.str])), (11, .s (.int .i64)), (12, .s (.int .i64)), (19, .s (.int .i64)), (20, .s (.int .i64))], [.box [.list [.int .i64], .int .i64], .vec KMember 0]⟩, [.fix 0, .slot 5], [⟨.exit 2, ⟨76, [(0, .s (.ptr 0 0)), (1, .s (.list [.str, .list [.str]])), (5, .s (.vec 1 4)), (10, .s (.list [.str])), (11, .s (.int .i64)), (12, .s (.int .i64))], [.box [.list [.int .i64], .int .i64], .vec KMember 0]⟩, [.fix 0, .slot 5]⟩], st_pilemake_Stream_Members_7⟩
theorem r_pilemake_Stream_Members_7 : RoundOK P t16 L_pilemake_Stream_Members_11c 1 (loopAt Tryz.f7 7) l_pilemake_Stream_Members_7 := fun d => by kernel_rfl
def L_pilemake_Stream_Members_7 : LT := L_pilemake_Stream_Members_11c.add 1 l_pilemake_Stream_Members_7
theorem L_pilemake_Stream_Members_7_ok : LoopsOK P 1 L_pilemake_Stream_Members_7 (bodyOf Tryz.f7) := LoopsOK.add hm t16_ok (by kernel_rfl) L_pilemake_Stream_Members_11c_ok r_pilemake_Stream_Members_7
def st_pilemake_Stream_Members_3 (d : List G) : Option (Option Nat × List G) :=
  (bif (ltI (gi d 6).int (gi d 5).int) then (bif ((nnI (gi d 6).int) && (ltI (gi d 6).int (((gi d 4).rows.length : Nat) : Int))) then (callF (F_pilemake_Stream_Range [.l (gi d 0).rows, .i (gi d 1).int, .i 0, .i 5]) fun g1 => (callF (F_pilemake_Stream_Range [.l (gi g1 0).rows, .i (gi g1 1).int, .i 0, .i 2]) fun g2 => (loopB ((Nat.beq (gi d 2).rows.length (gi d 2).rows.length) && true) (LRun st_pilemake_Stream_Members_7 [.l (gi g2 0).rows, .i (gi g2 1).int, .l (gi d 2).rows, .l (gi d 3).rows, .s (gi ((gi d 4).rows.getD (((gi d 6).int).toNat) []) 0).str, .i (gi g1 2).int, .l (gi d 4).rows, .i (gi d 5).int, .i (gi d 6).int, .i (gi g2 2).int, .i 0]) fun cg17 g17 => (bif (inI ((gi g17 6).int + 1)) then (bif ((Nat.beq (gi g17 2).rows.length (gi g17 2).rows.length) && true) then some (none, [.l (gi g17 0).rows, .i (gi g17 1).int, .l (gi g17 2).rows, .l (gi g17 3).rows, .l (gi g17 4).rows, .i (gi g17 5).int, .i ((gi g17 6).int + 1)]) else none) else none)))) else none) else (bif ((Nat.beq (gi d 2).rows.length (gi d 2).rows.length) && true) then some (some 0, [.l (gi d 0).rows, .i (gi d 1).int, .l (gi d 2).rows]) else none))
def l_pilemake_Stream_Members_3 : LSpec := ⟨3, [(5, KMember)], ⟨76, [(0, .s (.ptr 0 0)), (1, .s (.list [.str, .list [.str]])), (5, .s (.vec 1 4)), (10, .s (.list [.str])), (11, .s (.int .i64)), (12, .s (.int .i64))], [.box [.list [.int .i64], .int .i64], .vec KMember 0]⟩, [.fix 0, .slot 5], [⟨.exit 0, ⟨76, [(5, .s (.vec 1 4))], [.box [.list [.int .i64], .int .i64], .vec KMember 0]⟩, [.fix 0, .slot 5]⟩], st_pilemake_Stream_Members_3⟩
theorem r_pilemake_Stream_Members_3 : RoundOK P t16 L_pilemake_Stream_Members_7 1 (loopAt Tryz.f7 3) l_pilemake_Stream_Members_3 := fun d => by kernel_rfl
def L_pilemake_Stream_Members_3 : LT := L_pilemake_Stream_Members_7.add 1 l_pilemake_Stream_Members_3
theorem L_pilemake_Stream_Members_3_ok : LoopsOK P 1 L_pilemake_Stream_Members_3 (bodyOf Tryz.f7) := LoopsOK.add hm t16_ok (by kernel_rfl) L_pilemake_Stream_Members_7_ok r_pilemake_Stream_Members_3
def F_pilemake_Stream_Members (d : List G) : Option (List G) :=
  (loopB true (LRun st_pilemake_Stream_Members_3 [.l (gi d 0).rows, .i (gi d 1).int, .l [], .l (gi d 2).rows, .l [[.s (⟨#[107, 49, 97, 98]⟩ : ByteArray)], [.s (⟨#[111, 104, 50, 97, 98, 99]⟩ : ByteArray)], [.s (⟨#[111, 104, 50, 97, 98, 100]⟩ : ByteArray)], [.s (⟨#[119, 49, 97, 119]⟩ : ByteArray)]], .i 4, .i 0]) fun cg18 g18 => (bif ((Nat.beq (gi g18 2).rows.length (gi g18 2).rows.length) && true) then some [.l (gi g18 0).rows, .i (gi g18 1).int, .l (gi g18 2).rows] else none))
def s_pilemake_Stream_Members : FSpec := ⟨7, [.s (.ptr 0 0), .s (.list [.str, .list [.str]])], [.box [.list [.int .i64], .int .i64]], [.slot 0], [.s (.list KMember)], [.box [.list [.int .i64], .int .i64]], [.fix 0], [], F_pilemake_Stream_Members⟩
theorem b_pilemake_Stream_Members : BodyOK P t16 L_pilemake_Stream_Members_3 Tryz.f7 s_pilemake_Stream_Members := fun d => by kernel_rfl
theorem c_pilemake_Stream_Members : ∀ d r, F_pilemake_Stream_Members d = some r → ACallX P 7 (s_pilemake_Stream_Members.args0 d) (denH (s_pilemake_Stream_Members.H0 d)) (s_pilemake_Stream_Members.out r) (denH (s_pilemake_Stream_Members.H1 r)) := fun d r h => body_sound hm t16_ok (sp := s_pilemake_Stream_Members) Tryz.func7 (by kernel_rfl) L_pilemake_Stream_Members_3_ok b_pilemake_Stream_Members (by kernel_rfl) h
def t17 : Tab := t16.addW s_pilemake_Stream_Members
theorem t17_ok : TabOK P t17 := t16_ok.addW (by kernel_rfl) (by kernel_rfl) c_pilemake_Stream_Members

/- (*pileup/pilemake.Stream).ACall -/
def F_pilemake_Stream_ACall (d : List G) : Option (List G) :=
  (callF (F_pilemake_Stream_Flip [.l (gi d 0).rows, .i (gi d 1).int, .i 60]) fun g1 => (bif (gi g1 2).bool then (callF (F_pilemake_Stream_Some [.l (gi g1 0).rows, .i (gi g1 1).int, .l [[.s (⟨#[]⟩ : ByteArray)], [.s (⟨#[107, 49]⟩ : ByteArray)], [.s (⟨#[75, 49, 65, 66]⟩ : ByteArray)], [.s (⟨#[107, 49, 97, 98, 47]⟩ : ByteArray)], [.s (⟨#[49, 97]⟩ : ByteArray)], [.s (⟨#[107, 49, 97, 98, 47, 109, 109, 47, 112]⟩ : ByteArray)]]]) fun g2 => some [.l (gi g2 0).rows, .i (gi g2 1).int, .s (gi g2 2).str]) else (callF (F_pilemake_Stream_Some [.l (gi g1 0).rows, .i (gi g1 1).int, .l [[.s (⟨#[107, 49, 97, 98]⟩ : ByteArray)], [.s (⟨#[107, 49, 97, 97]⟩ : ByteArray)], [.s (⟨#[107, 49, 97, 98, 47, 52]⟩ : ByteArray)], [.s (⟨#[111, 104, 50, 97, 98, 99]⟩ : ByteArray)], [.s (⟨#[111, 104, 50, 97, 98, 100]⟩ : ByteArray)], [.s (⟨#[119, 49, 97, 119]⟩ : ByteArray)], [.s (⟨#[110, 49, 109, 109]⟩ : ByteArray)], [.s (⟨#[103, 51, 120, 121, 122, 47, 112]⟩ : ByteArray)]]]) fun g3 => some [.l (gi g3 0).rows, .i (gi g3 1).int, .s (gi g3 2).str])))
def s_pilemake_Stream_ACall : FSpec := ⟨8, [.s (.ptr 0 0)], [.box [.list [.int .i64], .int .i64]], [.slot 0], [.s (.str)], [.box [.list [.int .i64], .int .i64]], [.fix 0], [], F_pilemake_Stream_ACall⟩
theorem b_pilemake_Stream_ACall : BodyOK P t17 noLoops Tryz.f8 s_pilemake_Stream_ACall := fun d => by kernel_rfl
theorem c_pilemake_Stream_ACall : ∀ d r, F_pilemake_Stream_ACall d = some r → ACallX P 8 (s_pilemake_Stream_ACall.args0 d) (denH (s_pilemake_Stream_ACall.H0 d)) (s_pilemake_Stream_ACall.out r) (denH (s_pilemake_Stream_ACall.H1 r)) := fun d r h => body_sound hm t17_ok (sp := s_pilemake_Stream_ACall) Tryz.func8 (by kernel_rfl) (noLoops_ok _ _ _) b_pilemake_Stream_ACall (by kernel_rfl) h
def t18 : Tab := t17.addW s_pilemake_Stream_ACall
theorem t18_ok : TabOK P t18 := t17_ok.addW (by kernel_rfl) (by kernel_rfl) c_pilemake_Stream_ACall

/- pileup/kit.IsKey -/
def F_kit_IsKey (d : List G) : Option (List G) :=
  (bif (!((gi d 0).str.toList == (⟨#[]⟩ : ByteArray).toList)) then (bif (leI (((gi d 0).str.size : Nat) : Int) 40) then (bif (ltI 0 (((gi d 0).str.size : Nat) : Int)) then (callF (F_strings_IndexByte [.s (⟨#[97, 98, 99, 100, 101, 102, 103, 104, 105, 106, 107, 108, 109, 110, 111, 112, 113, 114, 115, 116, 117, 118, 119, 120, 121, 122]⟩ : ByteArray), .i (((gi d 0).str.data.toList.getD 0 0).toNat : Int)]) fun g1 => (bif (leI 0 (gi g1 0).int) then (callF (F_strings_Trim [.s (gi d 0).str, .s (⟨#[97, 98, 99, 100, 101, 102, 103, 104, 105, 106, 107, 108, 109, 110, 111, 112, 113, 114, 115, 116, 117, 118, 119, 120, 121, 122, 48, 49, 50, 51, 52, 53, 54, 55, 56, 57, 45, 95]⟩ : ByteArray)]) fun g2 => some [.t ((gi g2 0).str.toList == (⟨#[]⟩ : ByteArray).toList)]) else some [.t false])) else none) else some [.t false]) else some [.t false])
def s_kit_IsKey : FSpec := ⟨65, [.s (.str)], [], [], [.s (.bool)], [], [], [], F_kit_IsKey⟩
theorem b_kit_IsKey : BodyOK P t18 noLoops Tryz.f65 s_kit_IsKey := fun d => by kernel_rfl
theorem c_kit_IsKey : ∀ d r, F_kit_IsKey d = some r → ACallX P 65 (s_kit_IsKey.args0 d) (denH (s_kit_IsKey.H0 d)) (s_kit_IsKey.out r) (denH (s_kit_IsKey.H1 r)) := fun d r h => body_sound hm t18_ok (sp := s_kit_IsKey) Tryz.func65 (by kernel_rfl) (noLoops_ok _ _ _) b_kit_IsKey (by kernel_rfl) h
def t19 : Tab := t18.addP s_kit_IsKey
theorem t19_ok : TabOK P t19 := t18_ok.addP (by kernel_rfl) (by kernel_rfl) c_kit_IsKey

/- pileup/club.isSquare -/
def st_club_isSquare_4 (d : List G) : Option (Option Nat × List G) :=
  (bif (ltI (gi d 2).int (gi d 1).int) then (bif (inI (Int.tdiv (gi d 2).int 2)) then (bif ((Int.tdiv (gi d 2).int 2) == 1) then (bif ((nnI (gi d 2).int) && (ltI (gi d 2).int (((gi d 0).str.size : Nat) : Int))) then (bif (ltI (((gi d 0).str.data.toList.getD (((gi d 2).int).toNat) 0).toNat : Int) 48) then some (some 0, [.t false]) else (bif ((nnI (gi d 2).int) && (ltI (gi d 2).int (((gi d 0).str.size : Nat) : Int))) then (bif (ltI 57 (((gi d 0).str.data.toList.getD (((gi d 2).int).toNat) 0).toNat : Int)) then some (some 0, [.t false]) else (bif (inI ((gi d 2).int + 1)) then some (none, [.s (gi d 0).str, .i (gi d 1).int, .i ((gi d 2).int + 1)]) else none)) else none)) else none) else (bif ((Int.tdiv (gi d 2).int 2) == 2) then (bif ((nnI (gi d 2).int) && (ltI (gi d 2).int (((gi d 0).str.size : Nat) : Int))) then (bif (ltI (((gi d 0).str.data.toList.getD (((gi d 2).int).toNat) 0).toNat : Int) 97) then some (some 0, [.t false]) else (bif ((nnI (gi d 2).int) && (ltI (gi d 2).int (((gi d 0).str.size : Nat) : Int))) then (bif (ltI 120 (((gi d 0).str.data.toList.getD (((gi d 2).int).toNat) 0).toNat : Int)) then some (some 0, [.t false]) else (bif (inI ((gi d 2).int + 1)) then some (none, [.s (gi d 0).str, .i (gi d 1).int, .i ((gi d 2).int + 1)]) else none)) else none)) else none) else (bif ((nnI (gi d 2).int) && (ltI (gi d 2).int (((gi d 0).str.size : Nat) : Int))) then (bif (ltI (((gi d 0).str.data.toList.getD (((gi d 2).int).toNat) 0).toNat : Int) 97) then some (some 0, [.t false]) else (bif ((nnI (gi d 2).int) && (ltI (gi d 2).int (((gi d 0).str.size : Nat) : Int))) then (bif (ltI 114 (((gi d 0).str.data.toList.getD (((gi d 2).int).toNat) 0).toNat : Int)) then some (some 0, [.t false]) else (bif (inI ((gi d 2).int + 1)) then some (none, [.s (gi d 0).str, .i (gi d 1).int, .i ((gi d 2).int + 1)]) else none)) else none)) else none))) else none) else some (some 1, []))
def l_club_isSquare_4 : LSpec := ⟨4, [], ⟨43, [(0, .s (.str)), (20, .s (.int .i64)), (21, .s (.int .i64))], []⟩, [], [⟨.ret, ⟨43, [(2, .s (.bool))], []⟩, []⟩, ⟨.exit 0, ⟨43, [], []⟩, []⟩], st_club_isSquare_4⟩
theorem r_club_isSquare_4 : RoundOK P t19 noLoops 0 (loopAt Tryz.f103 4) l_club_isSquare_4 := fun d => by kernel_rfl
def L_club_isSquare_4 : LT := noLoops.add 0 l_club_isSquare_4
theorem L_club_isSquare_4_ok : LoopsOK P 0 L_club_isSquare_4 (bodyOf Tryz.f103) := LoopsOK.add hm t19_ok (by kernel_rfl) (noLoops_ok _ _ _) r_club_isSquare_4
def F_club_isSquare (d : List G) : Option (List G) :=
  (bif ((((gi d 0).str.size : Nat) : Int) != 2) then (bif ((((gi d 0).str.size : Nat) : Int) != 4) then (bif ((((gi d 0).str.size : Nat) : Int) != 6) then some [.t false] else (loopB true (LRun st_club_isSquare_4 [.s (gi d 0).str, .i (((gi d 0).str.size : Nat) : Int), .i 0]) fun cg1 g1 => (bif Nat.beq cg1 0 then some [.t (gi g1 0).bool] else some [.t true]))) else (loopB true (LRun st_club_isSquare_4 [.s (gi d 0).str, .i (((gi d 0).str.size : Nat) : Int), .i 0]) fun cg2 g2 => (bif Nat.beq cg2 0 then some [.t (gi g2 0).bool] else some [.t true]))) else (loopB true (LRun st_club_isSquare_4 [.s (gi d 0).str, .i (((gi d 0).str.size : Nat) : Int), .i 0]) fun cg3 g3 => (bif Nat.beq cg3 0 then some [.t (gi g3 0).bool] else some [.t true])))
def s_club_isSquare : FSpec := ⟨103, [.s (.str)], [], [], [.s (.bool)], [], [], [], F_club_isSquare⟩
theorem b_club_isSquare : BodyOK P t19 L_club_isSquare_4 Tryz.f103 s_club_isSquare := fun d => by kernel_rfl
theorem c_club_isSquare : ∀ d r, F_club_isSquare d = some r → ACallX P 103 (s_club_isSquare.args0 d) (denH (s_club_isSquare.H0 d)) (s_club_isSquare.out r) (denH (s_club_isSquare.H1 r)) := fun d r h => body_sound hm t19_ok (sp := s_club_isSquare) Tryz.func103 (by kernel_rfl) L_club_isSquare_4_ok b_club_isSquare (by kernel_rfl) h
def t20 : Tab := t19.addP s_club_isSquare
theorem t20_ok : TabOK P t20 := t19_ok.addP (by kernel_rfl) (by kernel_rfl) c_club_isSquare

/- pileup/club.squaresFault -/
def st_club_squaresFault_4 (d : List G) : Option (Option Nat × List G) :=
  (bif (ltI (gi d 3).int (gi d 2).int) then (bif ((nnI (gi d 3).int) && (ltI (gi d 3).int (((gi d 1).rows.length : Nat) : Int))) then (callF (F_club_isSquare [.s (gi ((gi d 1).rows.getD (((gi d 3).int).toNat) []) 0).str]) fun g1 => (bif (!(gi g1 0).bool) then some (some 0, [.i 3]) else (bif (ltI 0 (gi d 3).int) then (bif (inI ((gi d 3).int - 1)) then (bif ((nnI ((gi d 3).int - 1)) && (ltI ((gi d 3).int - 1) (((gi d 0).rows.length : Nat) : Int))) then (bif ((Op.bytesLess (gi ((gi d 1).rows.getD (((gi d 3).int).toNat) []) 0).str.toList (gi ((gi d 0).rows.getD (((gi d 3).int - 1).toNat) []) 0).str.toList) || ((gi ((gi d 1).rows.getD (((gi d 3).int).toNat) []) 0).str.toList == (gi ((gi d 0).rows.getD (((gi d 3).int - 1).toNat) []) 0).str.toList)) then some (some 0, [.i 7]) else (bif (inI ((gi d 3).int + 1)) then some (none, [.l (gi d 0).rows, .l (gi d 1).rows, .i (gi d 2).int, .i ((gi d 3).int + 1)]) else none)) else none) else none) else (bif (inI ((gi d 3).int + 1)) then some (none, [.l (gi d 0).rows, .l (gi d 1).rows, .i (gi d 2).int, .i ((gi d 3).int + 1)]) else none)))) else none) else some (some 1, []))
def l_club_squaresFault_4 : LSpec := ⟨4, [], ⟨30, [(0, .s (.list [.str])), (8, .s (.list [.str])), (9, .s (.int .i64)), (10, .s (.int .i64))], []⟩, [], [⟨.ret, ⟨30, [(2, .s (.int .i64))], []⟩, []⟩, ⟨.exit 0, ⟨30, [], []⟩, []⟩], st_club_squaresFault_4⟩
theorem r_club_squaresFault_4 : RoundOK P t20 noLoops 0 (loopAt Tryz.f66 4) l_club_squaresFault_4 := fun d => by kernel_rfl
def L_club_squaresFault_4 : LT := noLoops.add 0 l_club_squaresFault_4
theorem L_club_squaresFault_4_ok : LoopsOK P 0 L_club_squaresFault_4 (bodyOf Tryz.f66) := LoopsOK.add hm t20_ok (by kernel_rfl) (noLoops_ok _ _ _) r_club_squaresFault_4
def F_club_squaresFault (d : List G) : Option (List G) :=
  (bif (ltI 100 (((gi d 0).rows.length : Nat) : Int)) then some [.i 2] else (loopB true (LRun st_club_squaresFault_4 [.l (gi d 0).rows, .l (gi d 0).rows, .i (((gi d 0).rows.length : Nat) : Int), .i 0]) fun cg2 g2 => (bif Nat.beq cg2 0 then some [.i (gi g2 0).int] else some [.i 0])))
def s_club_squaresFault : FSpec := ⟨66, [.s (.list [.str])], [], [], [.s (.int .i64)], [], [], [], F_club_squaresFault⟩
theorem b_club_squaresFault : BodyOK P t20 L_club_squaresFault_4 Tryz.f66 s_club_squaresFault := fun d => by kernel_rfl
theorem c_club_squaresFault : ∀ d r, F_club_squaresFault d = some r → ACallX P 66 (s_club_squaresFault.args0 d) (denH (s_club_squaresFault.H0 d)) (s_club_squaresFault.out r) (denH (s_club_squaresFault.H1 r)) := fun d r h => body_sound hm t20_ok (sp := s_club_squaresFault) Tryz.func66 (by kernel_rfl) L_club_squaresFault_4_ok b_club_squaresFault (by kernel_rfl) h
def t21 : Tab := t20.addP s_club_squaresFault
theorem t21_ok : TabOK P t21 := t20_ok.addP (by kernel_rfl) (by kernel_rfl) c_club_squaresFault

/- pileup/club.CheckClubs -/
def st_club_CheckClubs_4 (d : List G) : Option (Option Nat × List G) :=
  (bif (ltI (gi d 3).int (gi d 2).int) then (bif ((nnI (gi d 3).int) && (ltI (gi d 3).int (((gi d 1).rows.length : Nat) : Int))) then (callF (F_kit_IsKey [.s (gi ((gi d 1).rows.getD (((gi d 3).int).toNat) []) 0).str]) fun g1 => (bif (!(gi g1 0).bool) then some (some 0, [.i 5]) else (bif (ltI 0 (gi d 3).int) then (bif (inI ((gi d 3).int - 1)) then (bif ((nnI ((gi d 3).int - 1)) && (ltI ((gi d 3).int - 1) (((gi d 0).rows.length : Nat) : Int))) then (bif ((Op.bytesLess (gi ((gi d 1).rows.getD (((gi d 3).int).toNat) []) 0).str.toList (gi ((gi d 0).rows.getD (((gi d 3).int - 1).toNat) []) 0).str.toList) || ((gi ((gi d 1).rows.getD (((gi d 3).int).toNat) []) 0).str.toList == (gi ((gi d 0).rows.getD (((gi d 3).int - 1).toNat) []) 0).str.toList)) then some (some 0, [.i 7]) else (callF (F_club_squaresFault [.l (gi ((gi d 1).rows.getD (((gi d 3).int).toNat) []) 1).rows]) fun g2 => (bif ((gi g2 0).int != 0) then some (some 0, [.i (gi g2 0).int]) else (bif (inI ((gi d 3).int + 1)) then some (none, [.l (gi d 0).rows, .l (gi d 1).rows, .i (gi d 2).int, .i ((gi d 3).int + 1)]) else none)))) else none) else none) else (callF (F_club_squaresFault [.l (gi ((gi d 1).rows.getD (((gi d 3).int).toNat) []) 1).rows]) fun g3 => (bif ((gi g3 0).int != 0) then some (some 0, [.i (gi g3 0).int]) else (bif (inI ((gi d 3).int + 1)) then some (none, [.l (gi d 0).rows, .l (gi d 1).rows, .i (gi d 2).int, .i ((gi d 3).int + 1)]) else none)))))) else none) else some (some 1, []))
def l_club_CheckClubs_4 : LSpec := ⟨4, [], ⟨40, [(0, .s (.list [.str, .list [.str]])), (9, .s (.list [.str, .list [.str]])), (10, .s (.int .i64)), (11, .s (.int .i64))], []⟩, [], [⟨.ret, ⟨40, [(2, .s (.int .i64))], []⟩, []⟩, ⟨.exit 0, ⟨40, [], []⟩, []⟩], st_club_CheckClubs_4⟩
theorem r_club_CheckClubs_4 : RoundOK P t21 noLoops 0 (loopAt Tryz.f18 4) l_club_CheckClubs_4 := fun d => by kernel_rfl
def L_club_CheckClubs_4 : LT := noLoops.add 0 l_club_CheckClubs_4
theorem L_club_CheckClubs_4_ok : LoopsOK P 0 L_club_CheckClubs_4 (bodyOf Tryz.f18) := LoopsOK.add hm t21_ok (by kernel_rfl) (noLoops_ok _ _ _) r_club_CheckClubs_4
def F_club_CheckClubs (d : List G) : Option (List G) :=
  (bif (ltI 200 (((gi d 0).rows.length : Nat) : Int)) then some [.i 2] else (loopB true (LRun st_club_CheckClubs_4 [.l (gi d 0).rows, .l (gi d 0).rows, .i (((gi d 0).rows.length : Nat) : Int), .i 0]) fun cg4 g4 => (bif Nat.beq cg4 0 then some [.i (gi g4 0).int] else some [.i 0])))
def s_club_CheckClubs : FSpec := ⟨18, [.s (.list [.str, .list [.str]])], [], [], [.s (.int .i64)], [], [], [], F_club_CheckClubs⟩
theorem b_club_CheckClubs : BodyOK P t21 L_club_CheckClubs_4 Tryz.f18 s_club_CheckClubs := fun d => by kernel_rfl
theorem c_club_CheckClubs : ∀ d r, F_club_CheckClubs d = some r → ACallX P 18 (s_club_CheckClubs.args0 d) (denH (s_club_CheckClubs.H0 d)) (s_club_CheckClubs.out r) (denH (s_club_CheckClubs.H1 r)) := fun d r h => body_sound hm t21_ok (sp := s_club_CheckClubs) Tryz.func18 (by kernel_rfl) L_club_CheckClubs_4_ok b_club_CheckClubs (by kernel_rfl) h
def t22 : Tab := t21.addP s_club_CheckClubs
theorem t22_ok : TabOK P t22 := t21_ok.addP (by kernel_rfl) (by kernel_rfl) c_club_CheckClubs

/- pileup/club.clubAt$1 -/
def F_club_clubAt_1 (d : List G) : Option (List G) :=
  (callF (F_strings_Compare [.s (gi (gi d 0).row 0).str, .s (gi d 1).str]) fun g1 => some [.i (gi g1 0).int])
def s_club_clubAt_1 : FSpec := ⟨125, [.s (.row [.str, .list [.str]]), .s (.str)], [], [], [.s (.int .i64)], [], [], [], F_club_clubAt_1⟩
theorem b_club_clubAt_1 : BodyOK P t22 noLoops Tryz.f125 s_club_clubAt_1 := fun d => by kernel_rfl
theorem c_club_clubAt_1 : ∀ d r, F_club_clubAt_1 d = some r → ACallX P 125 (s_club_clubAt_1.args0 d) (denH (s_club_clubAt_1.H0 d)) (s_club_clubAt_1.out r) (denH (s_club_clubAt_1.H1 r)) := fun d r h => body_sound hm t22_ok (sp := s_club_clubAt_1) Tryz.func125 (by kernel_rfl) (noLoops_ok _ _ _) b_club_clubAt_1 (by kernel_rfl) h
def t23 : Tab := t22.addP s_club_clubAt_1
theorem t23_ok : TabOK P t23 := t22_ok.addP (by kernel_rfl) (by kernel_rfl) c_club_clubAt_1

/- slices.BinarySearchFunc[[]pileup/api.Club,pileup/api.Club,string] -/
def st_slices_BinarySearchFunc_string_3 (d : List G) : Option (Option Nat × List G) :=
  (bif (ltI (gi d 3).int (gi d 4).int) then (bif (inI ((gi d 3).int + (gi d 4).int)) then (bif (inI (shrI .u64 (IntKind.u64.wrap ((gi d 3).int + (gi d 4).int)) 1)) then (bif ((nnI (shrI .u64 (IntKind.u64.wrap ((gi d 3).int + (gi d 4).int)) 1)) && (ltI (shrI .u64 (IntKind.u64.wrap ((gi d 3).int + (gi d 4).int)) 1) (((gi d 0).rows.length : Nat) : Int))) then (callF (F_club_clubAt_1 [.l [(gEta [.str, .list [.str]] ((gi d 0).rows.getD ((shrI .u64 (IntKind.u64.wrap ((gi d 3).int + (gi d 4).int)) 1).toNat) []))], .s (gi d 1).str]) fun g1 => (bif (ltI (gi g1 0).int 0) then (bif (inI ((shrI .u64 (IntKind.u64.wrap ((gi d 3).int + (gi d 4).int)) 1) + 1)) then some (none, [.l (gi d 0).rows, .s (gi d 1).str, .i (gi d 2).int, .i ((shrI .u64 (IntKind.u64.wrap ((gi d 3).int + (gi d 4).int)) 1) + 1), .i (gi d 4).int]) else none) else some (none, [.l (gi d 0).rows, .s (gi d 1).str, .i (gi d 2).int, .i (gi d 3).int, .i (shrI .u64 (IntKind.u64.wrap ((gi d 3).int + (gi d 4).int)) 1)]))) else none) else none) else none) else some (some 0, [.l (gi d 0).rows, .s (gi d 1).str, .i (gi d 2).int, .i (gi d 3).int]))
def l_slices_BinarySearchFunc_string_3 : LSpec := ⟨3, [], ⟨49, [(0, .s (.list [.str, .list [.str]])), (1, .s (.str)), (2, .s (.fn 125)), (8, .s (.int .i64)), (9, .s (.int .i64)), (10, .s (.int .i64))], []⟩, [], [⟨.exit 0, ⟨49, [(0, .s (.list [.str, .list [.str]])), (1, .s (.str)), (2, .s (.fn 125)), (8, .s (.int .i64)), (9, .s (.int .i64))], []⟩, []⟩], st_slices_BinarySearchFunc_string_3⟩
theorem r_slices_BinarySearchFunc_string_3 : RoundOK P t23 noLoops 0 (loopAt Tryz.f124 3) l_slices_BinarySearchFunc_string_3 := fun d => by kernel_rfl
def L_slices_BinarySearchFunc_string_3 : LT := noLoops.add 0 l_slices_BinarySearchFunc_string_3
theorem L_slices_BinarySearchFunc_string_3_ok : LoopsOK P 0 L_slices_BinarySearchFunc_string_3 (bodyOf Tryz.f124) := LoopsOK.add hm t23_ok (by kernel_rfl) (noLoops_ok _ _ _) r_slices_BinarySearchFunc_string_3
def F_slices_BinarySearchFunc_string (d : List G) : Option (List G) :=
  (loopB true (LRun st_slices_BinarySearchFunc_string_3 [.l (gi d 0).rows, .s (gi d 1).str, .i (((gi d 0).rows.length : Nat) : Int), .i 0, .i (((gi d 0).rows.length : Nat) : Int)]) fun cg2 g2 => (bif (ltI (gi g2 3).int (gi g2 2).int) then (bif ((nnI (gi g2 3).int) && (ltI (gi g2 3).int (((gi g2 0).rows.length : Nat) : Int))) then (callF (F_club_clubAt_1 [.l [(gEta [.str, .list [.str]] ((gi g2 0).rows.getD (((gi g2 3).int).toNat) []))], .s (gi g2 1).str]) fun g3 => some [.i (gi g2 3).int, .t ((gi g3 0).int == 0)]) else none) else some [.i (gi g2 3).int, .t false]))
def s_slices_BinarySearchFunc_string : FSpec := ⟨124, [.s (.list [.str, .list [.str]]), .s (.str), .s (.fn 125)], [], [], [.s (.int .i64), .s (.bool)], [], [], [], F_slices_BinarySearchFunc_string⟩
theorem b_slices_BinarySearchFunc_string : BodyOK P t23 L_slices_BinarySearchFunc_string_3 Tryz.f124 s_slices_BinarySearchFunc_string := fun d => by kernel_rfl
theorem c_slices_BinarySearchFunc_string : ∀ d r, F_slices_BinarySearchFunc_string d = some r → ACallX P 124 (s_slices_BinarySearchFunc_string.args0 d) (denH (s_slices_BinarySearchFunc_string.H0 d)) (s_slices_BinarySearchFunc_string.out r) (denH (s_slices_BinarySearchFunc_string.H1 r)) := fun d r h => body_sound hm t23_ok (sp := s_slices_BinarySearchFunc_string) Tryz.func124 (by kernel_rfl) L_slices_BinarySearchFunc_string_3_ok b_slices_BinarySearchFunc_string (by kernel_rfl) h
def t24 : Tab := t23.addP s_slices_BinarySearchFunc_string
theorem t24_ok : TabOK P t24 := t23_ok.addP (by kernel_rfl) (by kernel_rfl) c_slices_BinarySearchFunc_string

/- pileup/club.clubAt -/
def F_club_clubAt (d : List G) : Option (List G) :=
  (callF (F_slices_BinarySearchFunc_string [.l (gi d 0).rows, .s (gi d 1).str]) fun g1 => some [.i (gi g1 0).int, .t (gi g1 1).bool])
def s_club_clubAt : FSpec := ⟨93, [.s (.list [.str, .list [.str]]), .s (.str)], [], [], [.s (.int .i64), .s (.bool)], [], [], [], F_club_clubAt⟩
theorem b_club_clubAt : BodyOK P t24 noLoops Tryz.f93 s_club_clubAt := fun d => by kernel_rfl
theorem c_club_clubAt : ∀ d r, F_club_clubAt d = some r → ACallX P 93 (s_club_clubAt.args0 d) (denH (s_club_clubAt.H0 d)) (s_club_clubAt.out r) (denH (s_club_clubAt.H1 r)) := fun d r h => body_sound hm t24_ok (sp := s_club_clubAt) Tryz.func93 (by kernel_rfl) (noLoops_ok _ _ _) b_club_clubAt (by kernel_rfl) h
def t25 : Tab := t24.addP s_club_clubAt
theorem t25_ok : TabOK P t25 := t24_ok.addP (by kernel_rfl) (by kernel_rfl) c_club_clubAt

/- pileup/kit.Outside -/
def F_kit_Outside (d : List G) : Option (List G) :=
  (bif (ltI (gi d 0).int (gi d 1).int) then some [.t true] else some [.t (ltI (gi d 2).int (gi d 0).int)])
def s_kit_Outside : FSpec := ⟨78, [.s (.int .i64), .s (.int .i64), .s (.int .i64)], [], [], [.s (.bool)], [], [], [], F_kit_Outside⟩
theorem b_kit_Outside : BodyOK P t25 noLoops Tryz.f78 s_kit_Outside := fun d => by kernel_rfl
theorem c_kit_Outside : ∀ d r, F_kit_Outside d = some r → ACallX P 78 (s_kit_Outside.args0 d) (denH (s_kit_Outside.H0 d)) (s_kit_Outside.out r) (denH (s_kit_Outside.H1 r)) := fun d r h => body_sound hm t25_ok (sp := s_kit_Outside) Tryz.func78 (by kernel_rfl) (noLoops_ok _ _ _) b_kit_Outside (by kernel_rfl) h
def t26 : Tab := t25.addP s_kit_Outside
theorem t26_ok : TabOK P t26 := t25_ok.addP (by kernel_rfl) (by kernel_rfl) c_kit_Outside

/- pileup/club.isDay -/
def F_club_isDay (d : List G) : Option (List G) :=
  (callF (F_kit_Outside [.i (gi d 0).int, .i 0, .i 4000]) fun g1 => some [.t (!(gi g1 0).bool)])
def s_club_isDay : FSpec := ⟨49, [.s (.int .i64)], [], [], [.s (.bool)], [], [], [], F_club_isDay⟩
theorem b_club_isDay : BodyOK P t26 noLoops Tryz.f49 s_club_isDay := fun d => by kernel_rfl
theorem c_club_isDay : ∀ d r, F_club_isDay d = some r → ACallX P 49 (s_club_isDay.args0 d) (denH (s_club_isDay.H0 d)) (s_club_isDay.out r) (denH (s_club_isDay.H1 r)) := fun d r h => body_sound hm t26_ok (sp := s_club_isDay) Tryz.func49 (by kernel_rfl) (noLoops_ok _ _ _) b_club_isDay (by kernel_rfl) h
def t27 : Tab := t26.addP s_club_isDay
theorem t27_ok : TabOK P t27 := t26_ok.addP (by kernel_rfl) (by kernel_rfl) c_club_isDay

/- pileup/club.isLocator -/
def F_club_isLocator (d : List G) : Option (List G) :=
  (bif ((((gi d 0).str.size : Nat) : Int) == 6) then (callF (F_club_isSquare [.s (gi d 0).str]) fun g1 => some [.t (gi g1 0).bool]) else some [.t false])
def s_club_isLocator : FSpec := ⟨87, [.s (.str)], [], [], [.s (.bool)], [], [], [], F_club_isLocator⟩
theorem b_club_isLocator : BodyOK P t27 noLoops Tryz.f87 s_club_isLocator := fun d => by kernel_rfl
theorem c_club_isLocator : ∀ d r, F_club_isLocator d = some r → ACallX P 87 (s_club_isLocator.args0 d) (denH (s_club_isLocator.H0 d)) (s_club_isLocator.out r) (denH (s_club_isLocator.H1 r)) := fun d r h => body_sound hm t27_ok (sp := s_club_isLocator) Tryz.func87 (by kernel_rfl) (noLoops_ok _ _ _) b_club_isLocator (by kernel_rfl) h
def t28 : Tab := t27.addP s_club_isLocator
theorem t28_ok : TabOK P t28 := t27_ok.addP (by kernel_rfl) (by kernel_rfl) c_club_isLocator

/- cmp.isNaN[int] -/
def F_cmp_isNaN_int (d : List G) : Option (List G) :=
  some [.t ((gi d 0).int != (gi d 0).int)]
def s_cmp_isNaN_int : FSpec := ⟨112, [.s (.int .i64)], [], [], [.s (.bool)], [], [], [], F_cmp_isNaN_int⟩
theorem b_cmp_isNaN_int : BodyOK P t28 noLoops Tryz.f112 s_cmp_isNaN_int := fun d => by kernel_rfl
theorem c_cmp_isNaN_int : ∀ d r, F_cmp_isNaN_int d = some r → ACallX P 112 (s_cmp_isNaN_int.args0 d) (denH (s_cmp_isNaN_int.H0 d)) (s_cmp_isNaN_int.out r) (denH (s_cmp_isNaN_int.H1 r)) := fun d r h => body_sound hm t28_ok (sp := s_cmp_isNaN_int) Tryz.func112 (by kernel_rfl) (noLoops_ok _ _ _) b_cmp_isNaN_int (by kernel_rfl) h
def t29 : Tab := t28.addP s_cmp_isNaN_int
theorem t29_ok : TabOK P t29 := t28_ok.addP (by kernel_rfl) (by kernel_rfl) c_cmp_isNaN_int

/- cmp.Compare[int] -/
def F_cmp_Compare_int (d : List G) : Option (List G) :=
  (callF (F_cmp_isNaN_int [.i (gi d 0).int]) fun g1 => (callF (F_cmp_isNaN_int [.i (gi d 1).int]) fun g2 => (bif (gi g1 0).bool then (bif (gi g2 0).bool then some [.i 0] else some [.i (-1)]) else (bif (gi g2 0).bool then some [.i 1] else (bif (ltI (gi d 0).int (gi d 1).int) then some [.i (-1)] else (bif (ltI (gi d 1).int (gi d 0).int) then some [.i 1] else some [.i 0]))))))
def s_cmp_Compare_int : FSpec := ⟨80, [.s (.int .i64), .s (.int .i64)], [], [], [.s (.int .i64)], [], [], [], F_cmp_Compare_int⟩
theorem b_cmp_Compare_int : BodyOK P t29 noLoops Tryz.f80 s_cmp_Compare_int := fun d => by kernel_rfl
theorem c_cmp_Compare_int : ∀ d r, F_cmp_Compare_int d = some r → ACallX P 80 (s_cmp_Compare_int.args0 d) (denH (s_cmp_Compare_int.H0 d)) (s_cmp_Compare_int.out r) (denH (s_cmp_Compare_int.H1 r)) := fun d r h => body_sound hm t29_ok (sp := s_cmp_Compare_int) Tryz.func80 (by kernel_rfl) (noLoops_ok _ _ _) b_cmp_Compare_int (by kernel_rfl) h
def t30 : Tab := t29.addP s_cmp_Compare_int
theorem t30_ok : TabOK P t30 := t29_ok.addP (by kernel_rfl) (by kernel_rfl) c_cmp_Compare_int

/- cmp.Or[int] -/
def st_cmp_Or_int_3 (d : List G) : Option (Option Nat × List G) :=
  (bif (ltI (gi d 3).int (gi d 2).int) then (bif ((nnI (gi d 3).int) && (ltI (gi d 3).int (((gi d 1).rows.length : Nat) : Int))) then (bif ((gi ((gi d 1).rows.getD (((gi d 3).int).toNat) []) 0).int != (gi d 0).int) then some (some 0, [.i (gi ((gi d 1).rows.getD (((gi d 3).int).toNat) []) 0).int]) else (bif (inI ((gi d 3).int + 1)) then some (none, [.i (gi d 0).int, .l (gi d 1).rows, .i (gi d 2).int, .i ((gi d 3).int + 1)]) else none)) else none) else some (some 1, [.i (gi d 0).int]))
def l_cmp_Or_int_3 : LSpec := ⟨3, [], ⟨18, [(3, .s (.int .i64)), (6, .s (.list [.int .i64])), (7, .s (.int .i64)), (8, .s (.int .i64))], []⟩, [], [⟨.ret, ⟨18, [(2, .s (.int .i64))], []⟩, []⟩, ⟨.exit 0, ⟨18, [(3, .s (.int .i64))], []⟩, []⟩], st_cmp_Or_int_3⟩
theorem r_cmp_Or_int_3 : RoundOK P t30 noLoops 0 (loopAt Tryz.f79 3) l_cmp_Or_int_3 := fun d => by kernel_rfl
def L_cmp_Or_int_3 : LT := noLoops.add 0 l_cmp_Or_int_3
theorem L_cmp_Or_int_3_ok : LoopsOK P 0 L_cmp_Or_int_3 (bodyOf Tryz.f79) := LoopsOK.add hm t30_ok (by kernel_rfl) (noLoops_ok _ _ _) r_cmp_Or_int_3
def F_cmp_Or_int (d : List G) : Option (List G) :=
  (loopB true (LRun st_cmp_Or_int_3 [.i 0, .l (gi d 0).rows, .i (((gi d 0).rows.length : Nat) : Int), .i 0]) fun cg1 g1 => (bif Nat.beq cg1 0 then some [.i (gi g1 0).int] else some [.i (gi g1 0).int]))
def s_cmp_Or_int : FSpec := ⟨79, [.s (.list [.int .i64])], [], [], [.s (.int .i64)], [], [], [], F_cmp_Or_int⟩
theorem b_cmp_Or_int : BodyOK P t30 L_cmp_Or_int_3 Tryz.f79 s_cmp_Or_int := fun d => by kernel_rfl
theorem c_cmp_Or_int : ∀ d r, F_cmp_Or_int d = some r → ACallX P 79 (s_cmp_Or_int.args0 d) (denH (s_cmp_Or_int.H0 d)) (s_cmp_Or_int.out r) (denH (s_cmp_Or_int.H1 r)) := fun d r h => body_sound hm t30_ok (sp := s_cmp_Or_int) Tryz.func79 (by kernel_rfl) L_cmp_Or_int_3_ok b_cmp_Or_int (by kernel_rfl) h
def t31 : Tab := t30.addP s_cmp_Or_int
theorem t31_ok : TabOK P t31 := t30_ok.addP (by kernel_rfl) (by kernel_rfl) c_cmp_Or_int

/- pileup/club.memberFault -/
def F_club_memberFault (d : List G) : Option (List G) :=
  (bif ((nnI (gi d 2).int) && (ltI (gi d 2).int (((gi d 1).rows.length : Nat) : Int))) then (callF (F_call_Parts [.s (gi ((gi d 1).rows.getD (((gi d 2).int).toNat) []) 0).str]) fun g1 => (bif (!(gi g1 1).bool) then some [.i 3] else (bif (!((gi (gi g1 0).row 0).str.toList == (gi ((gi d 1).rows.getD (((gi d 2).int).toNat) []) 0).str.toList)) then some [.i 3] else (callF (F_club_clubAt [.l (gi d 0).rows, .s (gi ((gi d 1).rows.getD (((gi d 2).int).toNat) []) 1).str]) fun g2 => (bif (!((gi ((gi d 1).rows.getD (((gi d 2).int).toNat) []) 1).str.toList == (⟨#[]⟩ : ByteArray).toList)) then (bif (!(gi g2 1).bool) then some [.i 8] else (callF (F_club_isDay [.i (gi ((gi d 1).rows.getD (((gi d 2).int).toNat) []) 2).int]) fun g3 => (bif (!(gi g3 0).bool) then some [.i 1] else (callF (F_club_isLocator [.s (gi ((gi d 1).rows.getD (((gi d 2).int).toNat) []) 3).str]) fun g4 => (bif (!(gi g4 0).bool) then some [.i 3] else (bif (ltI 0 (gi d 2).int) then (bif (inI ((gi d 2).int - 1)) then (bif ((nnI ((gi d 2).int - 1)) && (ltI ((gi d 2).int - 1) (((gi d 1).rows.length : Nat) : Int))) then (callF (F_strings_Compare [.s (gi ((gi d 1).rows.getD (((gi d 2).int - 1).toNat) []) 0).str, .s (gi ((gi d 1).rows.getD (((gi d 2).int).toNat) []) 0).str]) fun g5 => (bif (inI ((gi d 2).int - 1)) then (bif ((nnI ((gi d 2).int - 1)) && (ltI ((gi d 2).int - 1) (((gi d 1).rows.length : Nat) : Int))) then (callF (F_cmp_Compare_int [.i (gi ((gi d 1).rows.getD (((gi d 2).int - 1).toNat) []) 2).int, .i (gi ((gi d 1).rows.getD (((gi d 2).int).toNat) []) 2).int]) fun g6 => (callF (F_cmp_Or_int [.l [[.i (gi g5 0).int], [.i (gi g6 0).int]]]) fun g7 => (bif (leI 0 (gi g7 0).int) then some [.i 7] else some [.i 0]))) else none) else none)) else none) else none) else some [.i 0])))))) else (callF (F_club_isDay [.i (gi ((gi d 1).rows.getD (((gi d 2).int).toNat) []) 2).int]) fun g8 => (bif (!(gi g8 0).bool) then some [.i 1] else (callF (F_club_isLocator [.s (gi ((gi d 1).rows.getD (((gi d 2).int).toNat) []) 3).str]) fun g9 => (bif (!(gi g9 0).bool) then some [.i 3] else (bif (ltI 0 (gi d 2).int) then (bif (inI ((gi d 2).int - 1)) then (bif ((nnI ((gi d 2).int - 1)) && (ltI ((gi d 2).int - 1) (((gi d 1).rows.length : Nat) : Int))) then (callF (F_strings_Compare [.s (gi ((gi d 1).rows.getD (((gi d 2).int - 1).toNat) []) 0).str, .s (gi ((gi d 1).rows.getD (((gi d 2).int).toNat) []) 0).str]) fun g10 => (bif (inI ((gi d 2).int - 1)) then (bif ((nnI ((gi d 2).int - 1)) && (ltI ((gi d 2).int - 1) (((gi d 1).rows.length : Nat) : Int))) then (callF (F_cmp_Compare_int [.i (gi ((gi d 1).rows.getD (((gi d 2).int - 1).toNat) []) 2).int, .i (gi ((gi d 1).rows.getD (((gi d 2).int).toNat) []) 2).int]) fun g11 => (callF (F_cmp_Or_int [.l [[.i (gi g10 0).int], [.i (gi g11 0).int]]]) fun g12 => (bif (leI 0 (gi g12 0).int) then some [.i 7] else some [.i 0]))) else none) else none)) else none) else none) else some [.i 0])))))))))) else none)
def s_club_memberFault : FSpec := ⟨69, [.s (.list [.str, .list [.str]]), .s (.list KMember), .s (.int .i64)], [], [], [.s (.int .i64)], [], [], [], F_club_memberFault⟩
theorem b_club_memberFault : BodyOK P t31 noLoops Tryz.f69 s_club_memberFault := fun d => by kernel_rfl
theorem c_club_memberFault : ∀ d r, F_club_memberFault d = some r → ACallX P 69 (s_club_memberFault.args0 d) (denH (s_club_memberFault.H0 d)) (s_club_memberFault.out r) (denH (s_club_memberFault.H1 r)) := fun d r h => body_sound hm t31_ok (sp := s_club_memberFault) Tryz.func69 (by kernel_rfl) (noLoops_ok _ _ _) b_club_memberFault (by kernel_rfl) h
def t32 : Tab := t31.addP s_club_memberFault
theorem t32_ok : TabOK P t32 := t31_ok.addP (by kernel_rfl) (by kernel_rfl) c_club_memberFault

/- pileup/club.CheckMembers -/
def st_club_CheckMembers_7 (d : List G) : Option (Option Nat × List G) :=
  (bif (ltI (gi d 3).int (gi d 2).int) then (callF (F_club_memberFault [.l (gi d 0).rows, .l (gi d 1).rows, .i (gi d 3).int]) fun g2 => (bif ((gi g2 0).int != 0) then some (some 0, [.i (gi g2 0).int]) else (bif (inI ((gi d 3).int + 1)) then some (none, [.l (gi d 0).rows, .l (gi d 1).rows, .i (gi d 2).int, .i ((gi d 3).int + 1)]) else none))) else some (some 1, []))
def l_club_CheckMembers_7 : LSpec := ⟨7, [], ⟨29, [(0, .s (.list [.str, .list [.str]])), (1, .s (.list KMember)), (17, .s (.int .i64)), (18, .s (.int .i64))], []⟩, [], [⟨.ret, ⟨29, [(4, .s (.int .i64))], []⟩, []⟩, ⟨.exit 0, ⟨29, [], []⟩, []⟩], st_club_CheckMembers_7⟩
theorem r_club_CheckMembers_7 : RoundOK P t32 noLoops 0 (loopAt Tryz.f20 7) l_club_CheckMembers_7 := fun d => by kernel_rfl
def L_club_CheckMembers_7 : LT := noLoops.add 0 l_club_CheckMembers_7
theorem L_club_CheckMembers_7_ok : LoopsOK P 0 L_club_CheckMembers_7 (bodyOf Tryz.f20) := LoopsOK.add hm t32_ok (by kernel_rfl) (noLoops_ok _ _ _) r_club_CheckMembers_7
def F_club_CheckMembers (d : List G) : Option (List G) :=
  (callF (F_club_CheckClubs [.l (gi d 0).rows]) fun g1 => (bif ((gi g1 0).int != 0) then some [.i (gi g1 0).int] else (bif (ltI 1000 (((gi d 1).rows.length : Nat) : Int)) then some [.i 2] else (loopB true (LRun st_club_CheckMembers_7 [.l (gi d 0).rows, .l (gi d 1).rows, .i (((gi d 1).rows.length : Nat) : Int), .i 0]) fun cg3 g3 => (bif Nat.beq cg3 0 then some [.i (gi g3 0).int] else some [.i 0])))))
def s_club_CheckMembers : FSpec := ⟨20, [.s (.list [.str, .list [.str]]), .s (.list KMember)], [], [], [.s (.int .i64)], [], [], [], F_club_CheckMembers⟩
theorem b_club_CheckMembers : BodyOK P t32 L_club_CheckMembers_7 Tryz.f20 s_club_CheckMembers := fun d => by kernel_rfl
theorem c_club_CheckMembers : ∀ d r, F_club_CheckMembers d = some r → ACallX P 20 (s_club_CheckMembers.args0 d) (denH (s_club_CheckMembers.H0 d)) (s_club_CheckMembers.out r) (denH (s_club_CheckMembers.H1 r)) := fun d r h => body_sound hm t32_ok (sp := s_club_CheckMembers) Tryz.func20 (by kernel_rfl) L_club_CheckMembers_7_ok b_club_CheckMembers (by kernel_rfl) h
def t33 : Tab := t32.addP s_club_CheckMembers
theorem t33_ok : TabOK P t33 := t32_ok.addP (by kernel_rfl) (by kernel_rfl) c_club_CheckMembers

/- pileup/call.Is -/
def F_call_Is (d : List G) : Option (List G) :=
  (callF (F_call_Parts [.s (gi d 0).str]) fun g1 => some [.t (gi g1 1).bool])
def s_call_Is : FSpec := ⟨48, [.s (.str)], [], [], [.s (.bool)], [], [], [], F_call_Is⟩
theorem b_call_Is : BodyOK P t33 noLoops Tryz.f48 s_call_Is := fun d => by kernel_rfl
theorem c_call_Is : ∀ d r, F_call_Is d = some r → ACallX P 48 (s_call_Is.args0 d) (denH (s_call_Is.H0 d)) (s_call_Is.out r) (denH (s_call_Is.H1 r)) := fun d r h => body_sound hm t33_ok (sp := s_call_Is) Tryz.func48 (by kernel_rfl) (noLoops_ok _ _ _) b_call_Is (by kernel_rfl) h
def t34 : Tab := t33.addP s_call_Is
theorem t34_ok : TabOK P t34 := t33_ok.addP (by kernel_rfl) (by kernel_rfl) c_call_Is

/- pileup/club.last -/
def st_club_last_f_3 (d : List G) : Option (Option Nat × List G) :=
  (bif (ltI (gi d 5).int (gi d 4).int) then (bif ((nnI (gi d 5).int) && (ltI (gi d 5).int (((gi d 3).rows.length : Nat) : Int))) then (bif (leI (gi ((gi d 3).rows.getD (((gi d 5).int).toNat) []) 2).int (gi d 2).int) then (bif (inI ((gi d 5).int + 1)) then some (none, [.l (mput [.str] (gi d 0).rows [.s (gi ((gi d 3).rows.getD (((gi d 5).int).toNat) []) 0).str] (gEta KMember ((gi d 3).rows.getD (((gi d 5).int).toNat) [])) (gi d 1).int.toNat), .i (((mclk [.str] (gi d 0).rows [.s (gi ((gi d 3).rows.getD (((gi d 5).int).toNat) []) 0).str] (gi d 1).int.toNat) : Nat) : Int), .i (gi d 2).int, .l (gi d 3).rows, .i (gi d 4).int, .i ((gi d 5).int + 1)]) else none) else (bif (inI ((gi d 5).int + 1)) then some (none, [.l (gi d 0).rows, .i (((gi d 1).int.toNat : Nat) : Int), .i (gi d 2).int, .l (gi d 3).rows, .i (gi d 4).int, .i ((gi d 5).int + 1)]) else none)) else none) else some (some 0, [.l (gi d 0).rows, .i (((gi d 1).int.toNat : Nat) : Int)]))
def l_club_last_f_3 : LSpec := ⟨3, [], ⟨25, [(1, .s (.int .i64)), (5, .s (.map 0)), (9, .s (.list KMember)), (10, .s (.int .i64)), (11, .s (.int .i64))], [.map (.one (.str)) (.agg KMember)]⟩, [.slot 5], [⟨.exit 0, ⟨25, [(5, .s (.map 0))], [.map (.one (.str)) (.agg KMember)]⟩, [.slot 5]⟩], st_club_last_f_3⟩
theorem r_club_last_f_3 : RoundOK P t34 noLoops 0 (loopAt Tryz.f51 3) l_club_last_f_3 := fun d => by kernel_rfl
def L_club_last_f_3 : LT := noLoops.add 0 l_club_last_f_3
theorem L_club_last_f_3_ok : LoopsOK P 0 L_club_last_f_3 (bodyOf Tryz.f51) := LoopsOK.add hm t34_ok (by kernel_rfl) (noLoops_ok _ _ _) r_club_last_f_3
def F_club_last_f (d : List G) : Option (List G) :=
  (loopB true (LRun st_club_last_f_3 [.l [], .i 0, .i (gi d 1).int, .l (gi d 0).rows, .i (((gi d 0).rows.length : Nat) : Int), .i 0]) fun cg1 g1 => some [.l (gi g1 0).rows, .i (((gi g1 1).int.toNat : Nat) : Int)])
def s_club_last_f : FSpec := ⟨51, [.s (.list KMember), .s (.int .i64)], [], [], [.s (.map 0)], [.map (.one (.str)) (.agg KMember)], [.slot 0], [], F_club_last_f⟩
theorem b_club_last_f : BodyOK P t34 L_club_last_f_3 Tryz.f51 s_club_last_f := fun d => by kernel_rfl
theorem c_club_last_f : ∀ d r, F_club_last_f d = some r → ACallX P 51 (s_club_last_f.args0 d) (denH (s_club_last_f.H0 d)) (s_club_last_f.out r) (denH (s_club_last_f.H1 r)) := fun d r h => body_sound hm t34_ok (sp := s_club_last_f) Tryz.func51 (by kernel_rfl) L_club_last_f_3_ok b_club_last_f (by kernel_rfl) h
def t35 : Tab := t34.addW s_club_last_f
theorem t35_ok : TabOK P t35 := t34_ok.addW (by kernel_rfl) (by kernel_rfl) c_club_last_f

/- pileup/call.BaseOf -/
def F_call_BaseOf (d : List G) : Option (List G) :=
  (callF (F_call_Parts [.s (gi d 0).str]) fun g1 => some [.s (gi (gi g1 0).row 0).str])
def s_call_BaseOf : FSpec := ⟨52, [.s (.str)], [], [], [.s (.str)], [], [], [], F_call_BaseOf⟩
theorem b_call_BaseOf : BodyOK P t35 noLoops Tryz.f52 s_call_BaseOf := fun d => by kernel_rfl
theorem c_call_BaseOf : ∀ d r, F_call_BaseOf d = some r → ACallX P 52 (s_call_BaseOf.args0 d) (denH (s_call_BaseOf.H0 d)) (s_call_BaseOf.out r) (denH (s_call_BaseOf.H1 r)) := fun d r h => body_sound hm t35_ok (sp := s_call_BaseOf) Tryz.func52 (by kernel_rfl) (noLoops_ok _ _ _) b_call_BaseOf (by kernel_rfl) h
def t36 : Tab := t35.addP s_call_BaseOf
theorem t36_ok : TabOK P t36 := t35_ok.addP (by kernel_rfl) (by kernel_rfl) c_call_BaseOf

/- internal/stringslite.HasPrefix -/
def F_stringslite_HasPrefix (d : List G) : Option (List G) :=
  (bif (leI (((gi d 1).str.size : Nat) : Int) (((gi d 0).str.size : Nat) : Int)) then (bif ((nnI (((gi d 1).str.size : Nat) : Int)) && (leI (((gi d 1).str.size : Nat) : Int) (((gi d 0).str.size : Nat) : Int))) then some [.t (((gi d 0).str.extract 0 (gi d 1).str.size).toList == (gi d 1).str.toList)] else none) else some [.t false])
def s_stringslite_HasPrefix : FSpec := ⟨127, [.s (.str), .s (.str)], [], [], [.s (.bool)], [], [], [], F_stringslite_HasPrefix⟩
theorem b_stringslite_HasPrefix : BodyOK P t36 noLoops Tryz.f127 s_stringslite_HasPrefix := fun d => by kernel_rfl
theorem c_stringslite_HasPrefix : ∀ d r, F_stringslite_HasPrefix d = some r → ACallX P 127 (s_stringslite_HasPrefix.args0 d) (denH (s_stringslite_HasPrefix.H0 d)) (s_stringslite_HasPrefix.out r) (denH (s_stringslite_HasPrefix.H1 r)) := fun d r h => body_sound hm t36_ok (sp := s_stringslite_HasPrefix) Tryz.func127 (by kernel_rfl) (noLoops_ok _ _ _) b_stringslite_HasPrefix (by kernel_rfl) h
def t37 : Tab := t36.addP s_stringslite_HasPrefix
theorem t37_ok : TabOK P t37 := t36_ok.addP (by kernel_rfl) (by kernel_rfl) c_stringslite_HasPrefix

/- strings.HasPrefix -/
def F_strings_HasPrefix (d : List G) : Option (List G) :=
  (callF (F_stringslite_HasPrefix [.s (gi d 0).str, .s (gi d 1).str]) fun g1 => some [.t (gi g1 0).bool])
def s_strings_HasPrefix : FSpec := ⟨96, [.s (.str), .s (.str)], [], [], [.s (.bool)], [], [], [], F_strings_HasPrefix⟩
theorem b_strings_HasPrefix : BodyOK P t37 noLoops Tryz.f96 s_strings_HasPrefix := fun d => by kernel_rfl
theorem c_strings_HasPrefix : ∀ d r, F_strings_HasPrefix d = some r → ACallX P 96 (s_strings_HasPrefix.args0 d) (denH (s_strings_HasPrefix.H0 d)) (s_strings_HasPrefix.out r) (denH (s_strings_HasPrefix.H1 r)) := fun d r h => body_sound hm t37_ok (sp := s_strings_HasPrefix) Tryz.func96 (by kernel_rfl) (noLoops_ok _ _ _) b_strings_HasPrefix (by kernel_rfl) h
def t38 : Tab := t37.addP s_strings_HasPrefix
theorem t38_ok : TabOK P t38 := t37_ok.addP (by kernel_rfl) (by kernel_rfl) c_strings_HasPrefix

/- pileup/club.isInside$1 -/
def F_club_isInside_1 (d : List G) : Option (List G) :=
  (callF (F_strings_HasPrefix [.s (gi (gi d 1).row 3).str, .s (gi d 0).str]) fun g1 => some [.t (gi g1 0).bool])
def s_club_isInside_1 : FSpec := ⟨95, [.s (.str), .s (.cptr KMember)], [], [], [.s (.bool)], [], [], [], F_club_isInside_1⟩
theorem b_club_isInside_1 : BodyOK P t38 noLoops Tryz.f95 s_club_isInside_1 := fun d => by kernel_rfl
theorem c_club_isInside_1 : ∀ d r, F_club_isInside_1 d = some r → ACallX P 95 (s_club_isInside_1.args0 d) (denH (s_club_isInside_1.H0 d)) (s_club_isInside_1.out r) (denH (s_club_isInside_1.H1 r)) := fun d r h => body_sound hm t38_ok (sp := s_club_isInside_1) Tryz.func95 (by kernel_rfl) (noLoops_ok _ _ _) b_club_isInside_1 (by kernel_rfl) h
def t39 : Tab := t38.addP s_club_isInside_1
theorem t39_ok : TabOK P t39 := t38_ok.addP (by kernel_rfl) (by kernel_rfl) c_club_isInside_1

/- slices.IndexFunc[[]string,string] -/
def st_slices_IndexFunc_string_2 (d : List G) : Option (Option Nat × List G) :=
  (bif (ltI (gi d 3).int (gi d 2).int) then (bif ((nnI (gi d 3).int) && (ltI (gi d 3).int (((gi d 0).rows.length : Nat) : Int))) then (callF (F_club_isInside_1 [.s (gi ((gi d 0).rows.getD (((gi d 3).int).toNat) []) 0).str, .l [(gEta KMember (gi d 1).row)]]) fun g1 => (bif (gi g1 0).bool then some (some 0, [.i (gi d 3).int]) else (bif (inI ((gi d 3).int + 1)) then some (none, [.l (gi d 0).rows, .l [(gEta KMember (gi d 1).row)], .i (gi d 2).int, .i ((gi d 3).int + 1)]) else none))) else none) else some (some 1, []))
def l_slices_IndexFunc_string_2 : LSpec := ⟨2, [], ⟨19, [(0, .s (.list [.str])), (1, .clo 95 [.cptr KMember]), (7, .s (.int .i64)), (8, .s (.int .i64))], []⟩, [], [⟨.ret, ⟨19, [(4, .s (.int .i64))], []⟩, []⟩, ⟨.exit 0, ⟨19, [], []⟩, []⟩], st_slices_IndexFunc_string_2⟩
theorem r_slices_IndexFunc_string_2 : RoundOK P t39 noLoops 0 (loopAt Tryz.f126 2) l_slices_IndexFunc_string_2 := fun d => by kernel_rfl
def L_slices_IndexFunc_string_2 : LT := noLoops.add 0 l_slices_IndexFunc_string_2
theorem L_slices_IndexFunc_string_2_ok : LoopsOK P 0 L_slices_IndexFunc_string_2 (bodyOf Tryz.f126) := LoopsOK.add hm t39_ok (by kernel_rfl) (noLoops_ok _ _ _) r_slices_IndexFunc_string_2
def F_slices_IndexFunc_string (d : List G) : Option (List G) :=
  (loopB true (LRun st_slices_IndexFunc_string_2 [.l (gi d 0).rows, .l [(gEta KMember (gi d 1).row)], .i (((gi d 0).rows.length : Nat) : Int), .i 0]) fun cg2 g2 => (bif Nat.beq cg2 0 then some [.i (gi g2 0).int] else some [.i (-1)]))
def s_slices_IndexFunc_string : FSpec := ⟨126, [.s (.list [.str]), .clo 95 [.cptr KMember]], [], [], [.s (.int .i64)], [], [], [], F_slices_IndexFunc_string⟩
theorem b_slices_IndexFunc_string : BodyOK P t39 L_slices_IndexFunc_string_2 Tryz.f126 s_slices_IndexFunc_string := fun d => by kernel_rfl
theorem c_slices_IndexFunc_string : ∀ d r, F_slices_IndexFunc_string d = some r → ACallX P 126 (s_slices_IndexFunc_string.args0 d) (denH (s_slices_IndexFunc_string.H0 d)) (s_slices_IndexFunc_string.out r) (denH (s_slices_IndexFunc_string.H1 r)) := fun d r h => body_sound hm t39_ok (sp := s_slices_IndexFunc_string) Tryz.func126 (by kernel_rfl) L_slices_IndexFunc_string_2_ok b_slices_IndexFunc_string (by kernel_rfl) h
def t40 : Tab := t39.addP s_slices_IndexFunc_string
theorem t40_ok : TabOK P t40 := t39_ok.addP (by kernel_rfl) (by kernel_rfl) c_slices_IndexFunc_string

/- slices.ContainsFunc[[]string,string] -/
def F_slices_ContainsFunc_string (d : List G) : Option (List G) :=
  (callF (F_slices_IndexFunc_string [.l (gi d 0).rows, .l [(gEta KMember (gi d 1).row)]]) fun g1 => some [.t (leI 0 (gi g1 0).int)])
def s_slices_ContainsFunc_string : FSpec := ⟨94, [.s (.list [.str]), .clo 95 [.cptr KMember]], [], [], [.s (.bool)], [], [], [], F_slices_ContainsFunc_string⟩
theorem b_slices_ContainsFunc_string : BodyOK P t40 noLoops Tryz.f94 s_slices_ContainsFunc_string := fun d => by kernel_rfl
theorem c_slices_ContainsFunc_string : ∀ d r, F_slices_ContainsFunc_string d = some r → ACallX P 94 (s_slices_ContainsFunc_string.args0 d) (denH (s_slices_ContainsFunc_string.H0 d)) (s_slices_ContainsFunc_string.out r) (denH (s_slices_ContainsFunc_string.H1 r)) := fun d r h => body_sound hm t40_ok (sp := s_slices_ContainsFunc_string) Tryz.func94 (by kernel_rfl) (noLoops_ok _ _ _) b_slices_ContainsFunc_string (by kernel_rfl) h
def t41 : Tab := t40.addP s_slices_ContainsFunc_string
theorem t41_ok : TabOK P t41 := t40_ok.addP (by kernel_rfl) (by kernel_rfl) c_slices_ContainsFunc_string

/- pileup/club.isInside -/
def F_club_isInside (d : List G) : Option (List G) :=
  (callF (F_club_clubAt [.l (gi d 0).rows, .s (gi (gi d 1).row 1).str]) fun g1 => (bif (gi g1 1).bool then (bif ((nnI (gi g1 0).int) && (ltI (gi g1 0).int (((gi d 0).rows.length : Nat) : Int))) then (callF (F_slices_ContainsFunc_string [.l (gi ((gi d 0).rows.getD (((gi g1 0).int).toNat) []) 1).rows, .l [(gEta KMember (gi d 1).row)]]) fun g2 => some [.t (gi g2 0).bool]) else none) else some [.t false]))
def s_club_isInside : FSpec := ⟨55, [.s (.list [.str, .list [.str]]), .s (.row KMember)], [], [], [.s (.bool)], [], [], [], F_club_isInside⟩
theorem b_club_isInside : BodyOK P (t41.lessPf [94]) noLoops Tryz.f55 s_club_isInside := fun d => by kernel_rfl
theorem c_club_isInside : ∀ d r, F_club_isInside d = some r → ACallX P 55 (s_club_isInside.args0 d) (denH (s_club_isInside.H0 d)) (s_club_isInside.out r) (denH (s_club_isInside.H1 r)) := fun d r h => body_sound hm (t41_ok.lessPf [94]) (sp := s_club_isInside) Tryz.func55 (by kernel_rfl) (noLoops_ok _ _ _) b_club_isInside (by kernel_rfl) h
def t42 : Tab := t41.addP s_club_isInside
theorem t42_ok : TabOK P t42 := t41_ok.addP (by kernel_rfl) (by kernel_rfl) c_club_isInside

/- pileup/club.clubOf -/
def F_club_clubOf (d : List G) : Option (List G) :=
  (bif (!(mhas [.str] (gi d 0).rows [.s (gi d 3).str])) then some [.l (gi d 0).rows, .i (((gi d 1).int.toNat : Nat) : Int), .s (⟨#[]⟩ : ByteArray)] else (callF (F_club_isInside [.l (gi d 2).rows, .l [(gEta KMember (mget [.str] (gi d 0).rows [.s (gi d 3).str] [.s (⟨#[]⟩ : ByteArray), .s (⟨#[]⟩ : ByteArray), .i 0, .s (⟨#[]⟩ : ByteArray)]))]]) fun g1 => (bif (!(gi g1 0).bool) then some [.l (gi d 0).rows, .i (((gi d 1).int.toNat : Nat) : Int), .s (⟨#[]⟩ : ByteArray)] else some [.l (gi d 0).rows, .i (((gi d 1).int.toNat : Nat) : Int), .s (gi (mget [.str] (gi d 0).rows [.s (gi d 3).str] [.s (⟨#[]⟩ : ByteArray), .s (⟨#[]⟩ : ByteArray), .i 0, .s (⟨#[]⟩ : ByteArray)]) 1).str])))
def s_club_clubOf : FSpec := ⟨50, [.s (.list [.str, .list [.str]]), .s (.map 0), .s (.str)], [.map (.one (.str)) (.agg KMember)], [.slot 1], [.s (.str)], [.map (.one (.str)) (.agg KMember)], [.fix 0], [], F_club_clubOf⟩
theorem b_club_clubOf : BodyOK P t42 noLoops Tryz.f50 s_club_clubOf := fun d => by kernel_rfl
theorem c_club_clubOf : ∀ d r, F_club_clubOf d = some r → ACallX P 50 (s_club_clubOf.args0 d) (denH (s_club_clubOf.H0 d)) (s_club_clubOf.out r) (denH (s_club_clubOf.H1 r)) := fun d r h => body_sound hm t42_ok (sp := s_club_clubOf) Tryz.func50 (by kernel_rfl) (noLoops_ok _ _ _) b_club_clubOf (by kernel_rfl) h
def t43 : Tab := t42.addW s_club_clubOf
theorem t43_ok : TabOK P t43 := t42_ok.addW (by kernel_rfl) (by kernel_rfl) c_club_clubOf

/- pileup/club.Of -/
def F_club_Of (d : List G) : Option (List G) :=
  (callF (F_club_CheckMembers [.l (gi d 0).rows, .l (gi d 1).rows]) fun g1 => (bif ((gi g1 0).int != 0) then some [.s (⟨#[]⟩ : ByteArray), .i (gi g1 0).int] else (callF (F_call_Is [.s (gi d 2).str]) fun g2 => (bif (!(gi g2 0).bool) then some [.s (⟨#[]⟩ : ByteArray), .i 3] else (callF (F_club_isDay [.i (gi d 3).int]) fun g3 => (bif (!(gi g3 0).bool) then some [.s (⟨#[]⟩ : ByteArray), .i 1] else (callF (F_club_last_f [.l (gi d 1).rows, .i (gi d 3).int]) fun g4 => (callF (F_call_BaseOf [.s (gi d 2).str]) fun g5 => (callF (F_club_clubOf [.l (gi g4 0).rows, .i (((gi g4 1).int.toNat : Nat) : Int), .l (gi d 0).rows, .s (gi g5 0).str]) fun g6 => some [.s (gi g6 2).str, .i 0])))))))))
def s_club_Of : FSpec := ⟨10, [.s (.list [.str, .list [.str]]), .s (.list KMember), .s (.str), .s (.int .i64)], [], [], [.s (.str), .s (.int .i64)], [], [], [], F_club_Of⟩
theorem b_club_Of : BodyOK P t43 noLoops Tryz.f10 s_club_Of := fun d => by kernel_rfl
theorem c_club_Of : ∀ d r, F_club_Of d = some r → ACallX P 10 (s_club_Of.args0 d) (denH (s_club_Of.H0 d)) (s_club_Of.out r) (denH (s_club_Of.H1 r)) := fun d r h => body_sound hm t43_ok (sp := s_club_Of) Tryz.func10 (by kernel_rfl) (noLoops_ok _ _ _) b_club_Of (by kernel_rfl) h
def t44 : Tab := t43.addP s_club_Of
theorem t44_ok : TabOK P t44 := t43_ok.addP (by kernel_rfl) (by kernel_rfl) c_club_Of

/- maps.Keys[map[string]pileup/api.Member,string,pileup/api.Member] -/
def t45 : Tab := t44.inlineW P 54 Tryz.f54
theorem t45_ok : TabOK P t45 := t44_ok.inlineW hm Tryz.func54 (by kernel_rfl) (by kernel_rfl)

/- slices.Sorted[string] -/
def F_slices_Sorted_string (d : List G) : Option (List G) :=
  keysG d
def s_slices_Sorted_string : FSpec := ⟨53, [.clo 92 [.ptr 0 0]], [.box [.map 1], .map (.one (.str)) (.agg KMember)], [.cap 0 0, .cell 0 0], [.s (.list [.str])], [.box [.map 1], .map (.one (.str)) (.agg KMember)], [.fix 0, .fix 1], [], F_slices_Sorted_string⟩
theorem c_slices_Sorted_string : ∀ d r, F_slices_Sorted_string d = some r → ACallX P 53 (s_slices_Sorted_string.args0 d) (denH (s_slices_Sorted_string.H0 d)) (s_slices_Sorted_string.out r) (denH (s_slices_Sorted_string.H1 r)) := fun d r h => sortedK_call (ρ := Tryz.laysSorted53_ren) (ρ' := Tryz.laysKeys54_ren) rfl Tryz.laysSorted53 { Tryz.laysKeys54 with } (fun m => ⟨fun blk off cap ss W hH hblk hsz => callsIn_wide.2 (Proofs.AnyM.slices_Sort_string Tryz.laysSortS blk off cap ss W hH hblk hsz), fun p cap W => callsIn_wide.2 (Proofs.AnyM.slices_Sort_string_none Tryz.laysSortS p cap W)⟩) (by kernel_rfl) (by kernel_rfl) (.agg KMember) d r h
def t46 : Tab := t45.addW s_slices_Sorted_string
theorem t46_ok : TabOK P t46 := t45_ok.addW (by kernel_rfl) (by kernel_rfl) c_slices_Sorted_string

/- pileup/club.Outside -/
def st_club_Outside_9 (d : List G) : Option (Option Nat × List G) :=
  (bif (ltI (gi d 6).int (gi d 5).int) then (bif ((nnI (gi d 6).int) && (ltI (gi d 6).int (((gi d 4).rows.length : Nat) : Int))) then (bif (!((gi (mget [.str] (gi d 1).rows [.s (gi ((gi d 4).rows.getD (((gi d 6).int).toNat) []) 0).str] [.s (⟨#[]⟩ : ByteArray), .s (⟨#[]⟩ : ByteArray), .i 0, .s (⟨#[]⟩ : ByteArray)]) 1).str.toList == (⟨#[]⟩ : ByteArray).toList)) then (callF (F_club_isInside [.l (gi d 3).rows, .l [(gEta KMember (mget [.str] (gi d 1).rows [.s (gi ((gi d 4).rows.getD (((gi d 6).int).toNat) []) 0).str] [.s (⟨#[]⟩ : ByteArray), .s (⟨#[]⟩ : ByteArray), .i 0, .s (⟨#[]⟩ : ByteArray)]))]]) fun g5 => (bif (!(gi g5 0).bool) then (bif ((Nat.beq (gi d 0).rows.length (gi d 0).rows.length) && (decide (((gi d 0).rows.length + 1) ≤ 1048576))) then (bif (inI ((gi d 6).int + 1)) then (bif ((Nat.beq ((gi d 0).rows ++ ([[.s (gi ((gi d 4).rows.getD (((gi d 6).int).toNat) []) 0).str]] : List (List G))).length ((gi d 0).rows ++ ([[.s (gi ((gi d 4).rows.getD (((gi d 6).int).toNat) []) 0).str]] : List (List G))).length) && true) then some (none, [.l ((gi d 0).rows ++ ([[.s (gi ((gi d 4).rows.getD (((gi d 6).int).toNat) []) 0).str]] : List (List G))), .l (gi d 1).rows, .i (((gi d 2).int.toNat : Nat) : Int), .l (gi d 3).rows, .l (gi d 4).rows, .i (gi d 5).int, .i ((gi d 6).int + 1)]) else none) else none) else none) else (bif (inI ((gi d 6).int + 1)) then (bif ((Nat.beq (gi d 0).rows.length (gi d 0).rows.length) && true) then some (none, [.l (gi d 0).rows, .l (gi d 1).rows, .i (((gi d 2).int.toNat : Nat) : Int), .l (gi d 3).rows, .l (gi d 4).rows, .i (gi d 5).int, .i ((gi d 6).int + 1)]) else none) else none))) else (bif (inI ((gi d 6).int + 1)) then (bif ((Nat.beq (gi d 0).rows.length (gi d 0).rows.length) && true) then some (none, [.l (gi d 0).rows, .l (gi d 1).rows, .i (((gi d 2).int.toNat : Nat) : Int), .l (gi d 3).rows, .l (gi d 4).rows, .i (gi d 5).int, .i ((gi d 6).int + 1)]) else none) else none)) else none) else (bif ((Nat.beq (gi d 0).rows.length (gi d 0).rows.length) && true) then some (some 0, [.l (gi d 0).rows]) else none))
def l_club_Outside_9 : LSpec := ⟨9, [(9, [.str])], ⟨52, [(0, .s (.list [.str, .list [.str]])), (9, .s (.vec 0 1)), (10, .s (.map 1)), (28, .s (.list [.str])), (29, .s (.int .i64)), (30, .s (.int .i64))], [.vec [.str] 0, .map (.one (.str)) (.agg KMember)]⟩, [.slot 9, .slot 10], [⟨.exit 0, ⟨52, [(9, .s (.vec 0 1))], [.vec [.str] 0]⟩, [.slot 9]⟩], st_club_Outside_9⟩
theorem r_club_Outside_9 : RoundOK P t46 noLoops 0 (loopAt Tryz.f11 9) l_club_Outside_9 := fun d => by kernel_rfl
def L_club_Outside_9 : LT := noLoops.add 0 l_club_Outside_9
theorem L_club_Outside_9_ok : LoopsOK P 0 L_club_Outside_9 (bodyOf Tryz.f11) := LoopsOK.add hm t46_ok (by kernel_rfl) (noLoops_ok _ _ _) r_club_Outside_9
def F_club_Outside (d : List G) : Option (List G) :=
  (callF (F_club_CheckMembers [.l (gi d 0).rows, .l (gi d 1).rows]) fun g1 => (bif ((gi g1 0).int != 0) then some [.l [], .i (gi g1 0).int] else (callF (F_club_isDay [.i (gi d 2).int]) fun g2 => (bif (!(gi g2 0).bool) then some [.l [], .i 1] else (callF (F_club_last_f [.l (gi d 1).rows, .i (gi d 2).int]) fun g3 => (callF (F_slices_Sorted_string [.l (gi g3 0).rows, .i (((gi g3 1).int.toNat : Nat) : Int)]) fun g4 => (loopB true (LRun st_club_Outside_9 [.l [], .l (gi g4 0).rows, .i (((gi g4 1).int.toNat : Nat) : Int), .l (gi d 0).rows, .l (gi g4 2).rows, .i (((gi g4 2).rows.length : Nat) : Int), .i 0]) fun cg6 g6 => (bif ((Nat.beq (gi g6 0).rows.length (gi g6 0).rows.length) && true) then some [.l (gi g6 0).rows, .i 0] else none))))))))
def s_club_Outside : FSpec := ⟨11, [.s (.list [.str, .list [.str]]), .s (.list KMember), .s (.int .i64)], [], [], [.s (.list [.str]), .s (.int .i64)], [], [], [], F_club_Outside⟩
theorem b_club_Outside : BodyOK P t46 L_club_Outside_9 Tryz.f11 s_club_Outside := fun d => by kernel_rfl
theorem c_club_Outside : ∀ d r, F_club_Outside d = some r → ACallX P 11 (s_club_Outside.args0 d) (denH (s_club_Outside.H0 d)) (s_club_Outside.out r) (denH (s_club_Outside.H1 r)) := fun d r h => body_sound hm t46_ok (sp := s_club_Outside) Tryz.func11 (by kernel_rfl) L_club_Outside_9_ok b_club_Outside (by kernel_rfl) h
def t47 : Tab := t46.addP s_club_Outside
theorem t47_ok : TabOK P t47 := t46_ok.addP (by kernel_rfl) (by kernel_rfl) c_club_Outside

/- pileup/pileref2.in -/
def F_pileref2_in (d : List G) : Option (List G) :=
  (bif (leI (gi d 1).int (gi d 0).int) then some [.t (leI (gi d 0).int (gi d 2).int)] else some [.t false])
def s_pileref2_in : FSpec := ⟨60, [.s (.int .i64), .s (.int .i64), .s (.int .i64)], [], [], [.s (.bool)], [], [], [], F_pileref2_in⟩
theorem b_pileref2_in : BodyOK P t47 noLoops Tryz.f60 s_pileref2_in := fun d => by kernel_rfl
theorem c_pileref2_in : ∀ d r, F_pileref2_in d = some r → ACallX P 60 (s_pileref2_in.args0 d) (denH (s_pileref2_in.H0 d)) (s_pileref2_in.out r) (denH (s_pileref2_in.H1 r)) := fun d r h => body_sound hm t47_ok (sp := s_pileref2_in) Tryz.func60 (by kernel_rfl) (noLoops_ok _ _ _) b_pileref2_in (by kernel_rfl) h
def t48 : Tab := t47.addP s_pileref2_in
theorem t48_ok : TabOK P t48 := t47_ok.addP (by kernel_rfl) (by kernel_rfl) c_pileref2_in

/- pileup/pileref2.only -/
def st_pileref2_only_2 (d : List G) : Option (Option Nat × List G) :=
  (bif (ltI (gi d 3).int (gi d 2).int) then (bif ((nnI (gi d 3).int) && (ltI (gi d 3).int (((gi d 0).str.size : Nat) : Int))) then (callF (F_strings_IndexByte [.s (gi d 1).str, .i (((gi d 0).str.data.toList.getD (((gi d 3).int).toNat) 0).toNat : Int)]) fun g1 => (bif (ltI (gi g1 0).int 0) then some (some 0, [.t false]) else (bif (inI ((gi d 3).int + 1)) then some (none, [.s (gi d 0).str, .s (gi d 1).str, .i (gi d 2).int, .i ((gi d 3).int + 1)]) else none))) else none) else some (some 1, []))
def l_pileref2_only_2 : LSpec := ⟨2, [], ⟨18, [(0, .s (.str)), (1, .s (.str)), (7, .s (.int .i64)), (8, .s (.int .i64))], []⟩, [], [⟨.ret, ⟨18, [(4, .s (.bool))], []⟩, []⟩, ⟨.exit 0, ⟨18, [], []⟩, []⟩], st_pileref2_only_2⟩
theorem r_pileref2_only_2 : RoundOK P t48 noLoops 0 (loopAt Tryz.f104 2) l_pileref2_only_2 := fun d => by kernel_rfl
def L_pileref2_only_2 : LT := noLoops.add 0 l_pileref2_only_2
theorem L_pileref2_only_2_ok : LoopsOK P 0 L_pileref2_only_2 (bodyOf Tryz.f104) := LoopsOK.add hm t48_ok (by kernel_rfl) (noLoops_ok _ _ _) r_pileref2_only_2
def F_pileref2_only (d : List G) : Option (List G) :=
  (loopB true (LRun st_pileref2_only_2 [.s (gi d 0).str, .s (gi d 1).str, .i (((gi d 0).str.size : Nat) : Int), .i 0]) fun cg2 g2 => (bif Nat.beq cg2 0 then some [.t (gi g2 0).bool] else some [.t true]))
def s_pileref2_only : FSpec := ⟨104, [.s (.str), .s (.str)], [], [], [.s (.bool)], [], [], [], F_pileref2_only⟩
theorem b_pileref2_only : BodyOK P t48 L_pileref2_only_2 Tryz.f104 s_pileref2_only := fun d => by kernel_rfl
theorem c_pileref2_only : ∀ d r, F_pileref2_only d = some r → ACallX P 104 (s_pileref2_only.args0 d) (denH (s_pileref2_only.H0 d)) (s_pileref2_only.out r) (denH (s_pileref2_only.H1 r)) := fun d r h => body_sound hm t48_ok (sp := s_pileref2_only) Tryz.func104 (by kernel_rfl) L_pileref2_only_2_ok b_pileref2_only (by kernel_rfl) h
def t49 : Tab := t48.addP s_pileref2_only
theorem t49_ok : TabOK P t49 := t48_ok.addP (by kernel_rfl) (by kernel_rfl) c_pileref2_only

/- pileup/pileref2.Key -/
def F_pileref2_Key (d : List G) : Option (List G) :=
  (callF (F_pileref2_in [.i (((gi d 0).str.size : Nat) : Int), .i 1, .i 40]) fun g1 => (bif (gi g1 0).bool then (bif (leI 1 (((gi d 0).str.size : Nat) : Int)) then (callF (F_pileref2_only [.s ((gi d 0).str.extract 0 1), .s (⟨#[97, 98, 99, 100, 101, 102, 103, 104, 105, 106, 107, 108, 109, 110, 111, 112, 113, 114, 115, 116, 117, 118, 119, 120, 121, 122]⟩ : ByteArray)]) fun g2 => (bif (gi g2 0).bool then (callF (F_pileref2_only [.s (gi d 0).str, .s (⟨#[97, 98, 99, 100, 101, 102, 103, 104, 105, 106, 107, 108, 109, 110, 111, 112, 113, 114, 115, 116, 117, 118, 119, 120, 121, 122, 48, 49, 50, 51, 52, 53, 54, 55, 56, 57, 45, 95]⟩ : ByteArray)]) fun g3 => some [.t (gi g3 0).bool]) else some [.t false])) else none) else some [.t false]))
def s_pileref2_Key : FSpec := ⟨67, [.s (.str)], [], [], [.s (.bool)], [], [], [], F_pileref2_Key⟩
theorem b_pileref2_Key : BodyOK P t49 noLoops Tryz.f67 s_pileref2_Key := fun d => by kernel_rfl
theorem c_pileref2_Key : ∀ d r, F_pileref2_Key d = some r → ACallX P 67 (s_pileref2_Key.args0 d) (denH (s_pileref2_Key.H0 d)) (s_pileref2_Key.out r) (denH (s_pileref2_Key.H1 r)) := fun d r h => body_sound hm t49_ok (sp := s_pileref2_Key) Tryz.func67 (by kernel_rfl) (noLoops_ok _ _ _) b_pileref2_Key (by kernel_rfl) h
def t50 : Tab := t49.addP s_pileref2_Key
theorem t50_ok : TabOK P t50 := t49_ok.addP (by kernel_rfl) (by kernel_rfl) c_pileref2_Key

/- slices.Index[[]int,int] -/
def st_slices_Index_int_2 (d : List G) : Option (Option Nat × List G) :=
  (bif (ltI (gi d 3).int (gi d 2).int) then (bif ((nnI (gi d 3).int) && (ltI (gi d 3).int (((gi d 0).rows.length : Nat) : Int))) then (bif ((gi d 1).int == (gi ((gi d 0).rows.getD (((gi d 3).int).toNat) []) 0).int) then some (some 0, [.i (gi d 3).int]) else (bif (inI ((gi d 3).int + 1)) then some (none, [.l (gi d 0).rows, .i (gi d 1).int, .i (gi d 2).int, .i ((gi d 3).int + 1)]) else none)) else none) else some (some 1, []))
def l_slices_Index_int_2 : LSpec := ⟨2, [], ⟨19, [(0, .s (.list [.int .i64])), (1, .s (.int .i64)), (7, .s (.int .i64)), (8, .s (.int .i64))], []⟩, [], [⟨.ret, ⟨19, [(4, .s (.int .i64))], []⟩, []⟩, ⟨.exit 0, ⟨19, [], []⟩, []⟩], st_slices_Index_int_2⟩
theorem r_slices_Index_int_2 : RoundOK P t50 noLoops 0 (loopAt Tryz.f140 2) l_slices_Index_int_2 := fun d => by kernel_rfl
def L_slices_Index_int_2 : LT := noLoops.add 0 l_slices_Index_int_2
theorem L_slices_Index_int_2_ok : LoopsOK P 0 L_slices_Index_int_2 (bodyOf Tryz.f140) := LoopsOK.add hm t50_ok (by kernel_rfl) (noLoops_ok _ _ _) r_slices_Index_int_2
def F_slices_Index_int (d : List G) : Option (List G) :=
  (loopB true (LRun st_slices_Index_int_2 [.l (gi d 0).rows, .i (gi d 1).int, .i (((gi d 0).rows.length : Nat) : Int), .i 0]) fun cg1 g1 => (bif Nat.beq cg1 0 then some [.i (gi g1 0).int] else some [.i (-1)]))
def s_slices_Index_int : FSpec := ⟨140, [.s (.list [.int .i64]), .s (.int .i64)], [], [], [.s (.int .i64)], [], [], [], F_slices_Index_int⟩
theorem b_slices_Index_int : BodyOK P t50 L_slices_Index_int_2 Tryz.f140 s_slices_Index_int := fun d => by kernel_rfl
theorem c_slices_Index_int : ∀ d r, F_slices_Index_int d = some r → ACallX P 140 (s_slices_Index_int.args0 d) (denH (s_slices_Index_int.H0 d)) (s_slices_Index_int.out r) (denH (s_slices_Index_int.H1 r)) := fun d r h => body_sound hm t50_ok (sp := s_slices_Index_int) Tryz.func140 (by kernel_rfl) L_slices_Index_int_2_ok b_slices_Index_int (by kernel_rfl) h
def t51 : Tab := t50.addP s_slices_Index_int
theorem t51_ok : TabOK P t51 := t50_ok.addP (by kernel_rfl) (by kernel_rfl) c_slices_Index_int

/- slices.Contains[[]int,int] -/
def F_slices_Contains_int (d : List G) : Option (List G) :=
  (callF (F_slices_Index_int [.l (gi d 0).rows, .i (gi d 1).int]) fun g1 => some [.t (leI 0 (gi g1 0).int)])
def s_slices_Contains_int : FSpec := ⟨105, [.s (.list [.int .i64]), .s (.int .i64)], [], [], [.s (.bool)], [], [], [], F_slices_Contains_int⟩
theorem b_slices_Contains_int : BodyOK P t51 noLoops Tryz.f105 s_slices_Contains_int := fun d => by kernel_rfl
theorem c_slices_Contains_int : ∀ d r, F_slices_Contains_int d = some r → ACallX P 105 (s_slices_Contains_int.args0 d) (denH (s_slices_Contains_int.H0 d)) (s_slices_Contains_int.out r) (denH (s_slices_Contains_int.H1 r)) := fun d r h => body_sound hm t51_ok (sp := s_slices_Contains_int) Tryz.func105 (by kernel_rfl) (noLoops_ok _ _ _) b_slices_Contains_int (by kernel_rfl) h
def t52 : Tab := t51.addP s_slices_Contains_int
theorem t52_ok : TabOK P t52 := t51_ok.addP (by kernel_rfl) (by kernel_rfl) c_slices_Contains_int

/- pileup/pileref2.Square -/
def st_pileref2_Square_5 (d : List G) : Option (Option Nat × List G) :=
  (bif (ltI (gi d 3).int (gi d 2).int) then (bif (inI ((gi d 3).int + 1)) then (bif ((nnI (gi d 3).int) && ((leI (gi d 3).int ((gi d 3).int + 1)) && (leI ((gi d 3).int + 1) (((gi d 0).str.size : Nat) : Int)))) then (bif ((nnI (gi d 3).int) && (ltI (gi d 3).int (((gi d 1).rows.length : Nat) : Int))) then (callF (F_pileref2_only [.s ((gi d 0).str.extract ((gi d 3).int).toNat ((gi d 3).int + 1).toNat), .s (gi ((gi d 1).rows.getD (((gi d 3).int).toNat) []) 0).str]) fun g2 => (bif (!(gi g2 0).bool) then some (some 0, [.t false]) else (bif (inI ((gi d 3).int + 1)) then some (none, [.s (gi d 0).str, .l (gi d 1).rows, .i (gi d 2).int, .i ((gi d 3).int + 1)]) else none))) else none) else none) else none) else some (some 1, []))
def l_pileref2_Square_5 : LSpec := ⟨5, [], ⟨32, [(0, .s (.str)), (3, .s (.list [.str])), (16, .s (.int .i64)), (17, .s (.int .i64))], []⟩, [], [⟨.ret, ⟨32, [(2, .s (.bool))], []⟩, []⟩, ⟨.exit 0, ⟨32, [], []⟩, []⟩], st_pileref2_Square_5⟩
theorem r_pileref2_Square_5 : RoundOK P t52 noLoops 0 (loopAt Tryz.f68 5) l_pileref2_Square_5 := fun d => by kernel_rfl
def L_pileref2_Square_5 : LT := noLoops.add 0 l_pileref2_Square_5
theorem L_pileref2_Square_5_ok : LoopsOK P 0 L_pileref2_Square_5 (bodyOf Tryz.f68) := LoopsOK.add hm t52_ok (by kernel_rfl) (noLoops_ok _ _ _) r_pileref2_Square_5
def F_pileref2_Square (d : List G) : Option (List G) :=
  (callF (F_slices_Contains_int [.l [[.i 2], [.i 4], [.i 6]], .i (((gi d 0).str.size : Nat) : Int)]) fun g1 => (bif (!(gi g1 0).bool) then some [.t false] else (loopB true (LRun st_pileref2_Square_5 [.s (gi d 0).str, .l [[.s (⟨#[97, 98, 99, 100, 101, 102, 103, 104, 105, 106, 107, 108, 109, 110, 111, 112, 113, 114]⟩ : ByteArray)], [.s (⟨#[97, 98, 99, 100, 101, 102, 103, 104, 105, 106, 107, 108, 109, 110, 111, 112, 113, 114]⟩ : ByteArray)], [.s (⟨#[48, 49, 50, 51, 52, 53, 54, 55, 56, 57]⟩ : ByteArray)], [.s (⟨#[48, 49, 50, 51, 52, 53, 54, 55, 56, 57]⟩ : ByteArray)], [.s (⟨#[97, 98, 99, 100, 101, 102, 103, 104, 105, 106, 107, 108, 109, 110, 111, 112, 113, 114, 115, 116, 117, 118, 119, 120]⟩ : ByteArray)], [.s (⟨#[97, 98, 99, 100, 101, 102, 103, 104, 105, 106, 107, 108, 109, 110, 111, 112, 113, 114, 115, 116, 117, 118, 119, 120]⟩ : ByteArray)]], .i (((gi d 0).str.size : Nat) : Int), .i 0]) fun cg3 g3 => (bif Nat.beq cg3 0 then some [.t (gi g3 0).bool] else some [.t true]))))
def s_pileref2_Square : FSpec := ⟨68, [.s (.str)], [], [], [.s (.bool)], [], [], [], F_pileref2_Square⟩
theorem b_pileref2_Square : BodyOK P t52 L_pileref2_Square_5 Tryz.f68 s_pileref2_Square := fun d => by kernel_rfl
theorem c_pileref2_Square : ∀ d r, F_pileref2_Square d = some r → ACallX P 68 (s_pileref2_Square.args0 d) (denH (s_pileref2_Square.H0 d)) (s_pileref2_Square.out r) (denH (s_pileref2_Square.H1 r)) := fun d r h => body_sound hm t52_ok (sp := s_pileref2_Square) Tryz.func68 (by kernel_rfl) L_pileref2_Square_5_ok b_pileref2_Square (by kernel_rfl) h
def t53 : Tab := t52.addP s_pileref2_Square
theorem t53_ok : TabOK P t53 := t52_ok.addP (by kernel_rfl) (by kernel_rfl) c_pileref2_Square

/- pileup/pileref2.ClubsFault -/
def st_pileref2_ClubsFault_15 (d : List G) : Option (Option Nat × List G) :=
  (bif (ltI (gi d 8).int (gi d 7).int) then (bif ((nnI (gi d 8).int) && (ltI (gi d 8).int (((gi d 6).rows.length : Nat) : Int))) then (callF (F_pileref2_Square [.s (gi ((gi d 6).rows.getD (((gi d 8).int).toNat) []) 0).str]) fun g2 => (bif (!(gi g2 0).bool) then some (some 0, [.i 3]) else (bif (ltI 0 (gi d 8).int) then (bif (inI ((gi d 8).int - 1)) then (bif ((nnI ((gi d 8).int - 1)) && (ltI ((gi d 8).int - 1) (((gi d 1).rows.length : Nat) : Int))) then (bif ((Op.bytesLess (gi ((gi d 6).rows.getD (((gi d 8).int).toNat) []) 0).str.toList (gi ((gi d 1).rows.getD (((gi d 8).int - 1).toNat) []) 0).str.toList) || ((gi ((gi d 6).rows.getD (((gi d 8).int).toNat) []) 0).str.toList == (gi ((gi d 1).rows.getD (((gi d 8).int - 1).toNat) []) 0).str.toList)) then some (some 0, [.i 7]) else (bif (inI ((gi d 8).int + 1)) then some (none, [.s (gi d 0).str, .l (gi d 1).rows, .s (gi d 2).str, .l (gi d 3).rows, .i (gi d 4).int, .i (gi d 5).int, .l (gi d 6).rows, .i (gi d 7).int, .i ((gi d 8).int + 1)]) else none)) else none) else none) else (bif (inI ((gi d 8).int + 1)) then some (none, [.s (gi d 0).str, .l (gi d 1).rows, .s (gi d 2).str, .l (gi d 3).rows, .i (gi d 4).int, .i (gi d 5).int, .l (gi d 6).rows, .i (gi d 7).int, .i ((gi d 8).int + 1)]) else none)))) else none) else some (some 1, [.s (gi d 2).str, .l (gi d 3).rows, .i (gi d 4).int, .i (gi d 5).int]))
def l_pileref2_ClubsFault_15 : LSpec := ⟨15, [], ⟨59, [(3, .s (.str)), (5, .s (.ptr 0 0)), (11, .s (.list [.str, .list [.str]])), (12, .s (.int .i64)), (13, .s (.int .i64)), (35, .s (.list [.str])), (36, .s (.int .i64)), (37, .s (.int .i64))], [.box [.str, .list [.str]]]⟩, [.slot 5], [⟨.ret, ⟨59, [(2, .s (.int .i64))], []⟩, []⟩, ⟨.exit 3, ⟨59, [(3, .s (.str)), (11, .s (.list [.str, .list [.str]])), (12, .s (.int .i64)), (13, .s (.int .i64))], []⟩, []⟩], st_pileref2_ClubsFault_15⟩
theorem r_pileref2_ClubsFault_15 : RoundOK P t53 noLoops 0 (loopAt Tryz.f19 15) l_pileref2_ClubsFault_15 := fun d => by kernel_rfl
def L_pileref2_ClubsFault_15 : LT := noLoops.add 0 l_pileref2_ClubsFault_15
theorem L_pileref2_ClubsFault_15_ok : LoopsOK P 0 L_pileref2_ClubsFault_15 (bodyOf Tryz.f19) := LoopsOK.add hm t53_ok (by kernel_rfl) (noLoops_ok _ _ _) r_pileref2_ClubsFault_15
def st_pileref2_ClubsFault_5 (d : List G) : Option (Option Nat × List G) :=
  (bif (ltI (gi d 3).int (gi d 2).int) then (bif ((nnI (gi d 3).int) && (ltI (gi d 3).int (((gi d 1).rows.length : Nat) : Int))) then (callF (F_pileref2_Key [.s (gi ((gi d 1).rows.getD (((gi d 3).int).toNat) []) 0).str]) fun g1 => (bif (!(gi g1 0).bool) then some (some 0, [.i 5]) else (bif ((Op.bytesLess (gi ((gi d 1).rows.getD (((gi d 3).int).toNat) []) 0).str.toList (gi d 0).str.toList) || ((gi ((gi d 1).rows.getD (((gi d 3).int).toNat) []) 0).str.toList == (gi d 0).str.toList)) then some (some 0, [.i 7]) else (bif (ltI 100 (((gi ((gi d 1).rows.getD (((gi d 3).int).toNat) []) 1).rows.length : Nat) : Int)) then some (some 0, [.i 2]) else (loopB true (LRun st_pileref2_ClubsFault_15 [.s (gi ((gi d 1).rows.getD (((gi d 3).int).toNat) []) 0).str, .l (gi ((gi d 1).rows.getD (((gi d 3).int).toNat) []) 1).rows, .s (gi ((gi d 1).rows.getD (((gi d 3).int).toNat) []) 0).str, .l (gi d 1).rows, .i (gi d 2).int, .i (gi d 3).int, .l (gi ((gi d 1).rows.getD (((gi d 3).int).toNat) []) 1).rows, .i (((gi ((gi d 1).rows.getD (((gi d 3).int).toNat) []) 1).rows.length : Nat) : Int), .i 0]) fun cg3 g3 => (bif Nat.beq cg3 0 then some (some 0, [.i (gi g3 0).int]) else (bif (inI ((gi g3 3).int + 1)) then some (none, [.s (gi g3 0).str, .l (gi g3 1).rows, .i (gi g3 2).int, .i ((gi g3 3).int + 1)]) else none))))))) else none) else some (some 1, []))
def l_pileref2_ClubsFault_5 : LSpec := ⟨5, [], ⟨59, [(3, .s (.str)), (11, .s (.list [.str, .list [.str]])), (12, .s (.int .i64)), (13, .s (.int .i64))], []⟩, [], [⟨.ret, ⟨59, [(2, .s (.int .i64))], []⟩, []⟩, ⟨.exit 0, ⟨59, [], []⟩, []⟩], st_pileref2_ClubsFault_5⟩
theorem r_pileref2_ClubsFault_5 : RoundOK P t53 L_pileref2_ClubsFault_15 0 (loopAt Tryz.f19 5) l_pileref2_ClubsFault_5 := fun d => by kernel_rfl
def L_pileref2_ClubsFault_5 : LT := L_pileref2_ClubsFault_15.add 0 l_pileref2_ClubsFault_5
theorem L_pileref2_ClubsFault_5_ok : LoopsOK P 0 L_pileref2_ClubsFault_5 (bodyOf Tryz.f19) := LoopsOK.add hm t53_ok (by kernel_rfl) L_pileref2_ClubsFault_15_ok r_pileref2_ClubsFault_5
def F_pileref2_ClubsFault (d : List G) : Option (List G) :=
  (bif (ltI 200 (((gi d 0).rows.length : Nat) : Int)) then some [.i 2] else (loopB true (LRun st_pileref2_ClubsFault_5 [.s (⟨#[]⟩ : ByteArray), .l (gi d 0).rows, .i (((gi d 0).rows.length : Nat) : Int), .i 0]) fun cg4 g4 => (bif Nat.beq cg4 0 then some [.i (gi g4 0).int] else some [.i 0])))
def s_pileref2_ClubsFault : FSpec := ⟨19, [.s (.list [.str, .list [.str]])], [], [], [.s (.int .i64)], [], [], [], F_pileref2_ClubsFault⟩
theorem b_pileref2_ClubsFault : BodyOK P t53 L_pileref2_ClubsFault_5 Tryz.f19 s_pileref2_ClubsFault := fun d => by kernel_rfl
theorem c_pileref2_ClubsFault : ∀ d r, F_pileref2_ClubsFault d = some r → ACallX P 19 (s_pileref2_ClubsFault.args0 d) (denH (s_pileref2_ClubsFault.H0 d)) (s_pileref2_ClubsFault.out r) (denH (s_pileref2_ClubsFault.H1 r)) := fun d r h => body_sound hm t53_ok (sp := s_pileref2_ClubsFault) Tryz.func19 (by kernel_rfl) L_pileref2_ClubsFault_5_ok b_pileref2_ClubsFault (by kernel_rfl) h
def t54 : Tab := t53.addP s_pileref2_ClubsFault
theorem t54_ok : TabOK P t54 := t53_ok.addP (by kernel_rfl) (by kernel_rfl) c_pileref2_ClubsFault

/- pileup/pileref2.Call -/
def F_pileref2_Call (d : List G) : Option (List G) :=
  (callF (F_pileref1_PartsOf [.s (gi d 0).str]) fun g1 => some [.t (gi g1 1).bool])
def s_pileref2_Call : FSpec := ⟨56, [.s (.str)], [], [], [.s (.bool)], [], [], [], F_pileref2_Call⟩
theorem b_pileref2_Call : BodyOK P t54 noLoops Tryz.f56 s_pileref2_Call := fun d => by kernel_rfl
theorem c_pileref2_Call : ∀ d r, F_pileref2_Call d = some r → ACallX P 56 (s_pileref2_Call.args0 d) (denH (s_pileref2_Call.H0 d)) (s_pileref2_Call.out r) (denH (s_pileref2_Call.H1 r)) := fun d r h => body_sound hm t54_ok (sp := s_pileref2_Call) Tryz.func56 (by kernel_rfl) (noLoops_ok _ _ _) b_pileref2_Call (by kernel_rfl) h
def t55 : Tab := t54.addP s_pileref2_Call
theorem t55_ok : TabOK P t55 := t54_ok.addP (by kernel_rfl) (by kernel_rfl) c_pileref2_Call

/- pileup/pileref2.BaseOf -/
def F_pileref2_BaseOf (d : List G) : Option (List G) :=
  (callF (F_pileref1_PartsOf [.s (gi d 0).str]) fun g1 => some [.s (gi (gi g1 0).row 0).str])
def s_pileref2_BaseOf : FSpec := ⟨57, [.s (.str)], [], [], [.s (.str)], [], [], [], F_pileref2_BaseOf⟩
theorem b_pileref2_BaseOf : BodyOK P t55 noLoops Tryz.f57 s_pileref2_BaseOf := fun d => by kernel_rfl
theorem c_pileref2_BaseOf : ∀ d r, F_pileref2_BaseOf d = some r → ACallX P 57 (s_pileref2_BaseOf.args0 d) (denH (s_pileref2_BaseOf.H0 d)) (s_pileref2_BaseOf.out r) (denH (s_pileref2_BaseOf.H1 r)) := fun d r h => body_sound hm t55_ok (sp := s_pileref2_BaseOf) Tryz.func57 (by kernel_rfl) (noLoops_ok _ _ _) b_pileref2_BaseOf (by kernel_rfl) h
def t56 : Tab := t55.addP s_pileref2_BaseOf
theorem t56_ok : TabOK P t56 := t55_ok.addP (by kernel_rfl) (by kernel_rfl) c_pileref2_BaseOf

/- pileup/pileref2.MembersFault$1 -/
def F_pileref2_MembersFault_1 (d : List G) : Option (List G) :=
  some [.t ((gi (gi d 0).row 0).str.toList == (gi (gi d 1).row 1).str.toList)]
def s_pileref2_MembersFault_1 : FSpec := ⟨59, [.s (.row [.str, .list [.str]]), .s (.cptr KMember)], [], [], [.s (.bool)], [], [], [], F_pileref2_MembersFault_1⟩
theorem b_pileref2_MembersFault_1 : BodyOK P t56 noLoops Tryz.f59 s_pileref2_MembersFault_1 := fun d => by kernel_rfl
theorem c_pileref2_MembersFault_1 : ∀ d r, F_pileref2_MembersFault_1 d = some r → ACallX P 59 (s_pileref2_MembersFault_1.args0 d) (denH (s_pileref2_MembersFault_1.H0 d)) (s_pileref2_MembersFault_1.out r) (denH (s_pileref2_MembersFault_1.H1 r)) := fun d r h => body_sound hm t56_ok (sp := s_pileref2_MembersFault_1) Tryz.func59 (by kernel_rfl) (noLoops_ok _ _ _) b_pileref2_MembersFault_1 (by kernel_rfl) h
def t57 : Tab := t56.addP s_pileref2_MembersFault_1
theorem t57_ok : TabOK P t57 := t56_ok.addP (by kernel_rfl) (by kernel_rfl) c_pileref2_MembersFault_1

end
end Go.Proofs.SYtbckadmdebkogaaGreatDoor
