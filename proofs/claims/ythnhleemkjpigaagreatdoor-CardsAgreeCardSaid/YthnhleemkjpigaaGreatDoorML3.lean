/-
  What is proved here: functions of the program as functions on data. No condition.
-/
import Derived.Test.YthnhleemkjpigaaGreatDoorML2
set_option linter.unusedSimpArgs false
set_option linter.unusedVariables false
set_option linter.unusedSectionVars false
namespace Go.Proofs.SYthnhleemkjpigaaGreatDoor
open Go Go.AL Go.Proofs
noncomputable section
/- slices.Compact[[]pileup/api.Card,pileup/api.Card] -/
def st_slices_Compact_Card_9 (d : List G) : Option (Option Nat × List G) :=
  (bif (ltI (gi d 4).int (((gi d 3).int.toNat : Nat) : Int)) then (bif ((nnI (gi d 4).int) && (ltI (gi d 4).int (((gi d 3).int.toNat : Nat) : Int))) then (bif (decide (((gi d 2).int.toNat + ((gi d 4).int).toNat) < (gi d 0).rows.length)) then (bif (inI ((gi d 4).int - 1)) then (bif ((nnI ((gi d 4).int - 1)) && (ltI ((gi d 4).int - 1) (((gi d 3).int.toNat : Nat) : Int))) then (bif (decide (((gi d 2).int.toNat + ((gi d 4).int - 1).toNat) < (gi d 0).rows.length)) then (bif (!(rowEq KCard (gEta KCard ((gi d 0).rows.getD ((gi d 2).int.toNat + ((gi d 4).int).toNat) [])) (gEta KCard ((gi d 0).rows.getD ((gi d 2).int.toNat + ((gi d 4).int - 1).toNat) [])))) then (bif ((nnI (gi d 4).int) && (ltI (gi d 4).int (((gi d 3).int.toNat : Nat) : Int))) then (bif (decide (((gi d 2).int.toNat + ((gi d 4).int).toNat) < (gi d 0).rows.length)) then (bif ((nnI (gi d 1).int) && (ltI (gi d 1).int (((gi d 0).rows.length : Nat) : Int))) then (bif (decide ((0 + ((gi d 1).int).toNat) < (gi d 0).rows.length)) then (bif (inI ((gi d 1).int + 1)) then (bif (inI ((gi d 4).int + 1)) then (bif ((Nat.beq (gi d 0).rows.length ((gi d 0).rows.set (0 + ((gi d 1).int).toNat) (putG KCard ((gi d 0).rows.getD (0 + ((gi d 1).int).toNat) []) 0 (gEta KCard ((gi d 0).rows.getD ((gi d 2).int.toNat + ((gi d 4).int).toNat) [])))).length) && true) then some (none, [.l ((gi d 0).rows.set (0 + ((gi d 1).int).toNat) (putG KCard ((gi d 0).rows.getD (0 + ((gi d 1).int).toNat) []) 0 (gEta KCard ((gi d 0).rows.getD ((gi d 2).int.toNat + ((gi d 4).int).toNat) [])))), .i ((gi d 1).int + 1), .i (((gi d 2).int.toNat : Nat) : Int), .i (((gi d 3).int.toNat : Nat) : Int), .i ((gi d 4).int + 1)]) else none) else none) else none) else none) else none) else none) else none) else (bif (inI ((gi d 4).int + 1)) then (bif ((Nat.beq (gi d 0).rows.length (gi d 0).rows.length) && true) then some (none, [.l (gi d 0).rows, .i (gi d 1).int, .i (((gi d 2).int.toNat : Nat) : Int), .i (((gi d 3).int.toNat : Nat) : Int), .i ((gi d 4).int + 1)]) else none) else none)) else none) else none) else none) else none) else none) else (bif ((Nat.beq (gi d 0).rows.length (gi d 0).rows.length) && true) then some (some 0, [.l (gi d 0).rows, .i (gi d 1).int]) else none))
def l_slices_Compact_Card_9 : LSpec := ⟨9, [], ⟨61, [(0, .s (.vec 0 5)), (3, .s (.int .i64)), (4, .s (.sub 0 5)), (5, .s (.int .i64))], [.vec KCard 0]⟩, [.fix 0], [⟨.exit 2, ⟨61, [(0, .s (.vec 0 5)), (3, .s (.int .i64))], [.vec KCard 0]⟩, [.fix 0]⟩], st_slices_Compact_Card_9⟩
theorem r_slices_Compact_Card_9 : RoundOK P t49 noLoops 1 (loopAt Tryz.f76 9) l_slices_Compact_Card_9 := fun d => by kernel_rfl
def L_slices_Compact_Card_9 : LT := noLoops.add 1 l_slices_Compact_Card_9
theorem L_slices_Compact_Card_9_ok : LoopsOK P 1 L_slices_Compact_Card_9 (bodyOf Tryz.f76) := LoopsOK.add hm t49_ok (by kernel_rfl) (noLoops_ok _ _ _) r_slices_Compact_Card_9
def st_slices_Compact_Card_4 (d : List G) : Option (Option Nat × List G) :=
  (bif (ltI (gi d 1).int (((gi d 0).rows.length : Nat) : Int)) then (bif ((nnI (gi d 1).int) && (ltI (gi d 1).int (((gi d 0).rows.length : Nat) : Int))) then (bif (decide ((0 + ((gi d 1).int).toNat) < (gi d 0).rows.length)) then (bif (inI ((gi d 1).int - 1)) then (bif ((nnI ((gi d 1).int - 1)) && (ltI ((gi d 1).int - 1) (((gi d 0).rows.length : Nat) : Int))) then (bif (decide ((0 + ((gi d 1).int - 1).toNat) < (gi d 0).rows.length)) then (bif (rowEq KCard (gEta KCard ((gi d 0).rows.getD (0 + ((gi d 1).int).toNat) [])) (gEta KCard ((gi d 0).rows.getD (0 + ((gi d 1).int - 1).toNat) []))) then (bif ((nnI (gi d 1).int) && (leI (gi d 1).int (((gi d 0).rows.length : Nat) : Int))) then (loopB ((Nat.beq (gi d 0).rows.length (gi d 0).rows.length) && true) (LRun st_slices_Compact_Card_9 [.l (gi d 0).rows, .i (gi d 1).int, .i (((0 + ((gi d 1).int).toNat) : Nat) : Int), .i ((((gi d 0).rows.length - ((gi d 1).int).toNat) : Nat) : Int), .i 1]) fun cg1 g1 => (bif ((nnI (gi g1 1).int) && (leI (gi g1 1).int (((gi g1 0).rows.length : Nat) : Int))) then (bif (Nat.ble ((0 + ((gi g1 1).int).toNat) + ((gi g1 0).rows.length - ((gi g1 1).int).toNat)) (gi g1 0).rows.length) then (bif ((nnI (gi g1 1).int) && (leI (gi g1 1).int (((gi g1 0).rows.length : Nat) : Int))) then some (some 0, [.l ((gi g1 0).rows.take (0 + ((gi g1 1).int).toNat) ++ List.replicate ((gi g1 0).rows.length - ((gi g1 1).int).toNat) [.i 0, .i 0, .i 0, .s (⟨#[]⟩ : ByteArray), .s (⟨#[]⟩ : ByteArray)] ++ (gi g1 0).rows.drop ((0 + ((gi g1 1).int).toNat) + ((gi g1 0).rows.length - ((gi g1 1).int).toNat))), .i (((((gi g1 1).int).toNat - 0) : Nat) : Int)]) else none) else none) else none)) else none) else (bif (inI ((gi d 1).int + 1)) then (bif ((Nat.beq (gi d 0).rows.length (gi d 0).rows.length) && true) then some (none, [.l (gi d 0).rows, .i ((gi d 1).int + 1)]) else none) else none)) else none) else none) else none) else none) else none) else (bif ((Nat.beq (gi d 0).rows.length (gi d 0).rows.length) && true) then some (some 1, [.l (gi d 0).rows]) else none))
def l_slices_Compact_Card_4 : LSpec := ⟨4, [], ⟨61, [(0, .s (.vec 0 5)), (3, .s (.int .i64))], [.vec KCard 0]⟩, [.fix 0], [⟨.ret, ⟨61, [(2, .s (.pre 0 5))], [.vec KCard 0]⟩, [.fix 0]⟩, ⟨.exit 0, ⟨61, [(0, .s (.vec 0 5))], [.vec KCard 0]⟩, [.fix 0]⟩], st_slices_Compact_Card_4⟩
theorem r_slices_Compact_Card_4 : RoundOK P t49 L_slices_Compact_Card_9 1 (loopAt Tryz.f76 4) l_slices_Compact_Card_4 := fun d => by kernel_rfl
def L_slices_Compact_Card_4 : LT := L_slices_Compact_Card_9.add 1 l_slices_Compact_Card_4
theorem L_slices_Compact_Card_4_ok : LoopsOK P 1 L_slices_Compact_Card_4 (bodyOf Tryz.f76) := LoopsOK.add hm t49_ok (by kernel_rfl) L_slices_Compact_Card_9_ok r_slices_Compact_Card_4
def F_slices_Compact_Card (d : List G) : Option (List G) :=
  (bif (ltI (((gi d 0).rows.length : Nat) : Int) 2) then some [.l (gi d 0).rows, .i (((gi d 0).rows.length : Nat) : Int)] else (loopB ((Nat.beq (gi d 0).rows.length (gi d 0).rows.length) && true) (LRun st_slices_Compact_Card_4 [.l (gi d 0).rows, .i 1]) fun cg2 g2 => (bif Nat.beq cg2 0 then some [.l (gi g2 0).rows, .i (((gi g2 1).int.toNat : Nat) : Int)] else some [.l (gi g2 0).rows, .i (((gi g2 0).rows.length : Nat) : Int)])))
def s_slices_Compact_Card : FSpec := ⟨76, [.s (.vec 0 5)], [.vec KCard 0], [.slot 0], [.s (.pre 0 5)], [.vec KCard 0], [.fix 0], [], F_slices_Compact_Card⟩
theorem b_slices_Compact_Card : BodyOK P t49 L_slices_Compact_Card_4 Tryz.f76 s_slices_Compact_Card := fun d => by kernel_rfl
theorem c_slices_Compact_Card : ∀ d r, F_slices_Compact_Card d = some r → ACallX P 76 (s_slices_Compact_Card.args0 d) (denH (s_slices_Compact_Card.H0 d)) (s_slices_Compact_Card.out r) (denH (s_slices_Compact_Card.H1 r)) := fun d r h => body_sound hm t49_ok (sp := s_slices_Compact_Card) Tryz.func76 (by kernel_rfl) L_slices_Compact_Card_4_ok b_slices_Compact_Card (by kernel_rfl) h
def t50 : Tab := t49.addW s_slices_Compact_Card
theorem t50_ok : TabOK P t50 := t49_ok.addW (by kernel_rfl) (by kernel_rfl) c_slices_Compact_Card

/- (*pileup/pilemake.Stream).Cards -/
def st_pilemake_Stream_Cards_4 (d : List G) : Option (Option Nat × List G) :=
  (bif (ltI (gi d 5).int (gi d 4).int) then (callF (F_pilemake_Stream_Pick [.l (gi d 0).rows, .i (gi d 1).int, .l [[.i 0], [.i 1], [.i 5], [.i 20]]]) fun g1 => (bif (inI ((gi d 3).int + (gi g1 2).int)) then (callF (F_pilemake_Stream_Pick [.l (gi g1 0).rows, .i (gi g1 1).int, .l [[.i 1], [.i 2], [.i 2], [.i 2], [.i 3]]]) fun g2 => (callF (F_pilemake_Stream_Pick [.l (gi g2 0).rows, .i (gi g2 1).int, .l [[.i 1], [.i 1], [.i 2]]]) fun g3 => (callF (F_pilemake_Stream_ACall [.l (gi g3 0).rows, .i (gi g3 1).int]) fun g4 => (callF (F_pilemake_Stream_Some [.l (gi g4 0).rows, .i (gi g4 1).int, .l [[.s (⟨#[98, 50, 48]⟩ : ByteArray)], [.s (⟨#[98, 50, 48]⟩ : ByteArray)], [.s (⟨#[98, 52, 48]⟩ : ByteArray)]]]) fun g5 => (callF (F_pilemake_Stream_Flip [.l (gi g5 0).rows, .i (gi g5 1).int, .i 100]) fun g6 => (bif (gi g6 2).bool then (callF (F_pilemake_Stream_Odd [.l (gi g6 0).rows, .i (gi g6 1).int, .i 0, .i 50]) fun g7 => (callF (F_pilemake_Stream_Odd [.l (gi g7 0).rows, .i (gi g7 1).int, .i 1, .i 3]) fun g8 => (callF (F_pilemake_Stream_Odd [.l (gi g8 0).rows, .i (gi g8 1).int, .i 1, .i 3]) fun g9 => (callF (F_pilemake_Stream_Some [.l (gi g9 0).rows, .i (gi g9 1).int, .l [[.s (⟨#[]⟩ : ByteArray)], [.s (⟨#[98, 50, 48]⟩ : ByteArray)]]]) fun g10 => (bif ((Nat.beq (gi d 2).rows.length (gi d 2).rows.length) && (decide (((gi d 2).rows.length + 1) ≤ 1048576))) then (bif (inI ((gi d 5).int + 1)) then (bif ((Nat.beq ((gi d 2).rows ++ ([[.i (gi g7 2).int, .i (gi g8 2).int, .i (gi g9 2).int, .s (gi g4 2).str, .s (gi g10 2).str]] : List (List G))).length ((gi d 2).rows ++ ([[.i (gi g7 2).int, .i (gi g8 2).int, .i (gi g9 2).int, .s (gi g4 2).str, .s (gi g10 2).str]] : List (List G))).length) && true) then some (none, [.l (gi g10 0).rows, .i (gi g10 1).int, .l ((gi d 2).rows ++ ([[.i (gi g7 2).int, .i (gi g8 2).int, .i (gi g9 2).int, .s (gi g4 2).str, .s (gi g10 2).str]] : List (List G))), .i ((gi d 3).int + (gi g1 2).int), .i (gi d 4).int, .i ((gi d 5).int + 1)]) else none) else none) else none))))) else (bif ((Nat.beq (gi d 2).rows.length (gi d 2).rows.length) && (decide (((gi d 2).rows.length + 1) ≤ 1048576))) then (bif (inI ((gi d 5).int + 1)) then (bif ((Nat.beq ((gi d 2).rows ++ ([[.i ((gi d 3).int + (gi g1 2).int), .i (gi g2 2).int, .i (gi g3 2).int, .s (gi g4 2).str, .s (gi g5 2).str]] : List (List G))).length ((gi d 2).rows ++ ([[.i ((gi d 3).int + (gi g1 2).int), .i (gi g2 2).int, .i (gi g3 2).int, .s (gi g4 2).str, .s (gi g5 2).str]] : List (List G))).length) && true) then some (none, [.l (gi g6 0).rows, .i (gi g6 1).int, .l ((gi d 2).rows ++ ([[.i ((gi d 3).int + (gi g1 2).int), .i (gi g2 2).int, .i (gi g3 2).int, .s (gi g4 2).str, .s (gi g5 2).str]] : List (List G))), .i ((gi d 3).int + (gi g1 2).int), .i (gi d 4).int, .i ((gi d 5).int + 1)]) else none) else none) else none))))))) else none)) else (bif ((Nat.beq (gi d 2).rows.length (gi d 2).rows.length) && true) then some (some 0, [.l (gi d 0).rows, .i (gi d 1).int, .l (gi d 2).rows]) else none))
def l_pilemake_Stream_Cards_4 : LSpec := ⟨4, [(5, KCard)], ⟨53, [(0, .s (.ptr 0 0)), (5, .s (.vec 1 5)), (6, .s (.int .i64)), (8, .s (.int .i64)), (9, .s (.int .i64))], [.box [.list [.int .i64], .int .i64], .vec KCard 0]⟩, [.fix 0, .slot 5], [⟨.exit 0, ⟨53, [(5, .s (.vec 1 5))], [.box [.list [.int .i64], .int .i64], .vec KCard 0]⟩, [.fix 0, .slot 5]⟩], st_pilemake_Stream_Cards_4⟩
theorem r_pilemake_Stream_Cards_4 : RoundOK P t50 noLoops 1 (loopAt Tryz.f18 4) l_pilemake_Stream_Cards_4 := fun d => by kernel_rfl
def L_pilemake_Stream_Cards_4 : LT := noLoops.add 1 l_pilemake_Stream_Cards_4
theorem L_pilemake_Stream_Cards_4_ok : LoopsOK P 1 L_pilemake_Stream_Cards_4 (bodyOf Tryz.f18) := LoopsOK.add hm t50_ok (by kernel_rfl) (noLoops_ok _ _ _) r_pilemake_Stream_Cards_4
def F_pilemake_Stream_Cards (d : List G) : Option (List G) :=
  (loopB true (LRun st_pilemake_Stream_Cards_4 [.l (gi d 0).rows, .i (gi d 1).int, .l [], .i 0, .i (gi d 2).int, .i 0]) fun cg11 g11 => (callB (((Nat.beq (gi g11 2).rows.length (gi g11 2).rows.length) && true) && (F_slices_SortStableFunc_Card [.l (gi g11 2).rows]).isSome) (F_slices_SortStableFunc_Card [.l (gi g11 2).rows]) fun g12 => (callB (((Nat.beq (gi g11 2).rows.length (gi g12 0).rows.length) && true) && (F_slices_Compact_Card [.l (gi g12 0).rows]).isSome) (F_slices_Compact_Card [.l (gi g12 0).rows]) fun g13 => (bif ((Nat.ble (gi g13 1).int.toNat (gi g13 0).rows.length) && true) then some [.l (gi g11 0).rows, .i (gi g11 1).int, .l ((gi g13 0).rows.take ((gi g13 1).int.toNat))] else none))))
def s_pilemake_Stream_Cards : FSpec := ⟨18, [.s (.ptr 0 0), .s (.int .i64)], [.box [.list [.int .i64], .int .i64]], [.slot 0], [.s (.lpre KCard)], [.box [.list [.int .i64], .int .i64]], [.fix 0], [], F_pilemake_Stream_Cards⟩
theorem b_pilemake_Stream_Cards : BodyOK P t50 L_pilemake_Stream_Cards_4 Tryz.f18 s_pilemake_Stream_Cards := fun d => by kernel_rfl
theorem c_pilemake_Stream_Cards : ∀ d r, F_pilemake_Stream_Cards d = some r → ACallX P 18 (s_pilemake_Stream_Cards.args0 d) (denH (s_pilemake_Stream_Cards.H0 d)) (s_pilemake_Stream_Cards.out r) (denH (s_pilemake_Stream_Cards.H1 r)) := fun d r h => body_sound hm t50_ok (sp := s_pilemake_Stream_Cards) Tryz.func18 (by kernel_rfl) L_pilemake_Stream_Cards_4_ok b_pilemake_Stream_Cards (by kernel_rfl) h
def t51 : Tab := t50.addW s_pilemake_Stream_Cards
theorem t51_ok : TabOK P t51 := t50_ok.addW (by kernel_rfl) (by kernel_rfl) c_pilemake_Stream_Cards

/- pileup/pileref2.in -/
def F_pileref2_in (d : List G) : Option (List G) :=
  (bif (leI (gi d 1).int (gi d 0).int) then some [.t (leI (gi d 0).int (gi d 2).int)] else some [.t false])
def s_pileref2_in : FSpec := ⟨89, [.s (.int .i64), .s (.int .i64), .s (.int .i64)], [], [], [.s (.bool)], [], [], [], F_pileref2_in⟩
theorem b_pileref2_in : BodyOK P t51 noLoops Tryz.f89 s_pileref2_in := fun d => by kernel_rfl
theorem c_pileref2_in : ∀ d r, F_pileref2_in d = some r → ACallX P 89 (s_pileref2_in.args0 d) (denH (s_pileref2_in.H0 d)) (s_pileref2_in.out r) (denH (s_pileref2_in.H1 r)) := fun d r h => body_sound hm t51_ok (sp := s_pileref2_in) Tryz.func89 (by kernel_rfl) (noLoops_ok _ _ _) b_pileref2_in (by kernel_rfl) h
def t52 : Tab := t51.addP s_pileref2_in
theorem t52_ok : TabOK P t52 := t51_ok.addP (by kernel_rfl) (by kernel_rfl) c_pileref2_in

/- pileup/pileref2.Moment -/
def F_pileref2_Moment (d : List G) : Option (List G) :=
  (callF (F_pileref2_in [.i (gi d 0).int, .i 0, .i 345686399999]) fun g1 => some [.t (gi g1 0).bool])
def s_pileref2_Moment : FSpec := ⟨88, [.s (.int .i64)], [], [], [.s (.bool)], [], [], [], F_pileref2_Moment⟩
theorem b_pileref2_Moment : BodyOK P t52 noLoops Tryz.f88 s_pileref2_Moment := fun d => by kernel_rfl
theorem c_pileref2_Moment : ∀ d r, F_pileref2_Moment d = some r → ACallX P 88 (s_pileref2_Moment.args0 d) (denH (s_pileref2_Moment.H0 d)) (s_pileref2_Moment.out r) (denH (s_pileref2_Moment.H1 r)) := fun d r h => body_sound hm t52_ok (sp := s_pileref2_Moment) Tryz.func88 (by kernel_rfl) (noLoops_ok _ _ _) b_pileref2_Moment (by kernel_rfl) h
def t53 : Tab := t52.addP s_pileref2_Moment
theorem t53_ok : TabOK P t53 := t52_ok.addP (by kernel_rfl) (by kernel_rfl) c_pileref2_Moment

/- pileup/pileref2.Call -/
def F_pileref2_Call (d : List G) : Option (List G) :=
  (callF (F_pileref1_PartsOf [.s (gi d 0).str]) fun g1 => some [.t (gi g1 1).bool])
def s_pileref2_Call : FSpec := ⟨90, [.s (.str)], [], [], [.s (.bool)], [], [], [], F_pileref2_Call⟩
theorem b_pileref2_Call : BodyOK P t53 noLoops Tryz.f90 s_pileref2_Call := fun d => by kernel_rfl
theorem c_pileref2_Call : ∀ d r, F_pileref2_Call d = some r → ACallX P 90 (s_pileref2_Call.args0 d) (denH (s_pileref2_Call.H0 d)) (s_pileref2_Call.out r) (denH (s_pileref2_Call.H1 r)) := fun d r h => body_sound hm t53_ok (sp := s_pileref2_Call) Tryz.func90 (by kernel_rfl) (noLoops_ok _ _ _) b_pileref2_Call (by kernel_rfl) h
def t54 : Tab := t53.addP s_pileref2_Call
theorem t54_ok : TabOK P t54 := t53_ok.addP (by kernel_rfl) (by kernel_rfl) c_pileref2_Call

/- pileup/pileref2.only -/
def st_pileref2_only_2 (d : List G) : Option (Option Nat × List G) :=
  (bif (ltI (gi d 3).int (gi d 2).int) then (bif ((nnI (gi d 3).int) && (ltI (gi d 3).int (((gi d 0).str.size : Nat) : Int))) then (callF (F_strings_IndexByte [.s (gi d 1).str, .i (((gi d 0).str.data.toList.getD (((gi d 3).int).toNat) 0).toNat : Int)]) fun g1 => (bif (ltI (gi g1 0).int 0) then some (some 0, [.t false]) else (bif (inI ((gi d 3).int + 1)) then some (none, [.s (gi d 0).str, .s (gi d 1).str, .i (gi d 2).int, .i ((gi d 3).int + 1)]) else none))) else none) else some (some 1, []))
def l_pileref2_only_2 : LSpec := ⟨2, [], ⟨18, [(0, .s (.str)), (1, .s (.str)), (7, .s (.int .i64)), (8, .s (.int .i64))], []⟩, [], [⟨.ret, ⟨18, [(4, .s (.bool))], []⟩, []⟩, ⟨.exit 0, ⟨18, [], []⟩, []⟩], st_pileref2_only_2⟩
theorem r_pileref2_only_2 : RoundOK P t54 noLoops 0 (loopAt Tryz.f139 2) l_pileref2_only_2 := fun d => by kernel_rfl
def L_pileref2_only_2 : LT := noLoops.add 0 l_pileref2_only_2
theorem L_pileref2_only_2_ok : LoopsOK P 0 L_pileref2_only_2 (bodyOf Tryz.f139) := LoopsOK.add hm t54_ok (by kernel_rfl) (noLoops_ok _ _ _) r_pileref2_only_2
def F_pileref2_only (d : List G) : Option (List G) :=
  (loopB true (LRun st_pileref2_only_2 [.s (gi d 0).str, .s (gi d 1).str, .i (((gi d 0).str.size : Nat) : Int), .i 0]) fun cg2 g2 => (bif Nat.beq cg2 0 then some [.t (gi g2 0).bool] else some [.t true]))
def s_pileref2_only : FSpec := ⟨139, [.s (.str), .s (.str)], [], [], [.s (.bool)], [], [], [], F_pileref2_only⟩
theorem b_pileref2_only : BodyOK P t54 L_pileref2_only_2 Tryz.f139 s_pileref2_only := fun d => by kernel_rfl
theorem c_pileref2_only : ∀ d r, F_pileref2_only d = some r → ACallX P 139 (s_pileref2_only.args0 d) (denH (s_pileref2_only.H0 d)) (s_pileref2_only.out r) (denH (s_pileref2_only.H1 r)) := fun d r h => body_sound hm t54_ok (sp := s_pileref2_only) Tryz.func139 (by kernel_rfl) L_pileref2_only_2_ok b_pileref2_only (by kernel_rfl) h
def t55 : Tab := t54.addP s_pileref2_only
theorem t55_ok : TabOK P t55 := t54_ok.addP (by kernel_rfl) (by kernel_rfl) c_pileref2_only

/- pileup/pileref2.Key -/
def F_pileref2_Key (d : List G) : Option (List G) :=
  (callF (F_pileref2_in [.i (((gi d 0).str.size : Nat) : Int), .i 1, .i 40]) fun g1 => (bif (gi g1 0).bool then (bif (leI 1 (((gi d 0).str.size : Nat) : Int)) then (callF (F_pileref2_only [.s ((gi d 0).str.extract 0 1), .s (⟨#[97, 98, 99, 100, 101, 102, 103, 104, 105, 106, 107, 108, 109, 110, 111, 112, 113, 114, 115, 116, 117, 118, 119, 120, 121, 122]⟩ : ByteArray)]) fun g2 => (bif (gi g2 0).bool then (callF (F_pileref2_only [.s (gi d 0).str, .s (⟨#[97, 98, 99, 100, 101, 102, 103, 104, 105, 106, 107, 108, 109, 110, 111, 112, 113, 114, 115, 116, 117, 118, 119, 120, 121, 122, 48, 49, 50, 51, 52, 53, 54, 55, 56, 57, 45, 95]⟩ : ByteArray)]) fun g3 => some [.t (gi g3 0).bool]) else some [.t false])) else none) else some [.t false]))
def s_pileref2_Key : FSpec := ⟨91, [.s (.str)], [], [], [.s (.bool)], [], [], [], F_pileref2_Key⟩
theorem b_pileref2_Key : BodyOK P t55 noLoops Tryz.f91 s_pileref2_Key := fun d => by kernel_rfl
theorem c_pileref2_Key : ∀ d r, F_pileref2_Key d = some r → ACallX P 91 (s_pileref2_Key.args0 d) (denH (s_pileref2_Key.H0 d)) (s_pileref2_Key.out r) (denH (s_pileref2_Key.H1 r)) := fun d r h => body_sound hm t55_ok (sp := s_pileref2_Key) Tryz.func91 (by kernel_rfl) (noLoops_ok _ _ _) b_pileref2_Key (by kernel_rfl) h
def t56 : Tab := t55.addP s_pileref2_Key
theorem t56_ok : TabOK P t56 := t55_ok.addP (by kernel_rfl) (by kernel_rfl) c_pileref2_Key

/- pileup/pileref2.CardsFault -/
def st_pileref2_CardsFault_4 (d : List G) : Option (Option Nat × List G) :=
  (bif (ltI (gi d 3).int (gi d 2).int) then (bif ((nnI (gi d 3).int) && (ltI (gi d 3).int (((gi d 1).rows.length : Nat) : Int))) then (callF (F_pileref2_Moment [.i (gi ((gi d 1).rows.getD (((gi d 3).int).toNat) []) 0).int]) fun g1 => (bif (!(gi g1 0).bool) then some (some 0, [.i 1]) else (callF (F_pileref2_in [.i (gi ((gi d 1).rows.getD (((gi d 3).int).toNat) []) 1).int, .i 1, .i 3]) fun g2 => (bif (!(gi g2 0).bool) then some (some 0, [.i 4]) else (callF (F_pileref2_in [.i (gi ((gi d 1).rows.getD (((gi d 3).int).toNat) []) 2).int, .i 1, .i 3]) fun g3 => (bif (!(gi g3 0).bool) then some (some 0, [.i 4]) else (callF (F_pileref2_Call [.s (gi ((gi d 1).rows.getD (((gi d 3).int).toNat) []) 3).str]) fun g4 => (bif (!(gi g4 0).bool) then some (some 0, [.i 3]) else (callF (F_pileref2_Key [.s (gi ((gi d 1).rows.getD (((gi d 3).int).toNat) []) 4).str]) fun g5 => (bif (!(gi g5 0).bool) then some (some 0, [.i 5]) else (bif (ltI 0 (gi d 3).int) then (bif (inI ((gi d 3).int - 1)) then (bif ((nnI ((gi d 3).int - 1)) && (ltI ((gi d 3).int - 1) (((gi d 0).rows.length : Nat) : Int))) then (callF (F_pileref2_CardOrder [.l [(gEta KCard ((gi d 0).rows.getD (((gi d 3).int - 1).toNat) []))], .l [(gEta KCard ((gi d 1).rows.getD (((gi d 3).int).toNat) []))]]) fun g6 => (bif (leI 0 (gi g6 0).int) then some (some 0, [.i 7]) else (bif (inI ((gi d 3).int + 1)) then some (none, [.l (gi d 0).rows, .l (gi d 1).rows, .i (gi d 2).int, .i ((gi d 3).int + 1)]) else none))) else none) else none) else (bif (inI ((gi d 3).int + 1)) then some (none, [.l (gi d 0).rows, .l (gi d 1).rows, .i (gi d 2).int, .i ((gi d 3).int + 1)]) else none)))))))))))) else none) else some (some 1, []))
def l_pileref2_CardsFault_4 : LSpec := ⟨4, [], ⟨55, [(0, .s (.list KCard)), (8, .s (.list KCard)), (9, .s (.int .i64)), (10, .s (.int .i64))], []⟩, [], [⟨.ret, ⟨55, [(2, .s (.int .i64))], []⟩, []⟩, ⟨.exit 0, ⟨55, [], []⟩, []⟩], st_pileref2_CardsFault_4⟩
theorem r_pileref2_CardsFault_4 : RoundOK P t56 noLoops 0 (loopAt Tryz.f25 4) l_pileref2_CardsFault_4 := fun d => by kernel_rfl
def L_pileref2_CardsFault_4 : LT := noLoops.add 0 l_pileref2_CardsFault_4
theorem L_pileref2_CardsFault_4_ok : LoopsOK P 0 L_pileref2_CardsFault_4 (bodyOf Tryz.f25) := LoopsOK.add hm t56_ok (by kernel_rfl) (noLoops_ok _ _ _) r_pileref2_CardsFault_4
def F_pileref2_CardsFault (d : List G) : Option (List G) :=
  (bif (ltI 3000 (((gi d 0).rows.length : Nat) : Int)) then some [.i 2] else (loopB true (LRun st_pileref2_CardsFault_4 [.l (gi d 0).rows, .l (gi d 0).rows, .i (((gi d 0).rows.length : Nat) : Int), .i 0]) fun cg7 g7 => (bif Nat.beq cg7 0 then some [.i (gi g7 0).int] else some [.i 0])))
def s_pileref2_CardsFault : FSpec := ⟨25, [.s (.list KCard)], [], [], [.s (.int .i64)], [], [], [], F_pileref2_CardsFault⟩
theorem b_pileref2_CardsFault : BodyOK P t56 L_pileref2_CardsFault_4 Tryz.f25 s_pileref2_CardsFault := fun d => by kernel_rfl
theorem c_pileref2_CardsFault : ∀ d r, F_pileref2_CardsFault d = some r → ACallX P 25 (s_pileref2_CardsFault.args0 d) (denH (s_pileref2_CardsFault.H0 d)) (s_pileref2_CardsFault.out r) (denH (s_pileref2_CardsFault.H1 r)) := fun d r h => body_sound hm t56_ok (sp := s_pileref2_CardsFault) Tryz.func25 (by kernel_rfl) L_pileref2_CardsFault_4_ok b_pileref2_CardsFault (by kernel_rfl) h
def t57 : Tab := t56.addP s_pileref2_CardsFault
theorem t57_ok : TabOK P t57 := t56_ok.addP (by kernel_rfl) (by kernel_rfl) c_pileref2_CardsFault

/- (*pileup/pilemake.Stream).RightCards -/
def st_pilemake_Stream_RightCards_2 (d : List G) : Option (Option Nat × List G) :=
  (bif (ltI (gi d 3).int 5) then (callF (F_pilemake_Stream_Cards [.l (gi d 0).rows, .i (gi d 1).int, .i (gi d 2).int]) fun g1 => (callF (F_pileref2_CardsFault [.l (gi g1 2).rows]) fun g2 => (bif ((gi g2 0).int == 0) then some (some 0, [.l (gi g1 0).rows, .i (gi g1 1).int, .l (gi g1 2).rows]) else (bif (inI ((gi d 3).int + 1)) then some (none, [.l (gi g1 0).rows, .i (gi g1 1).int, .i (gi d 2).int, .i ((gi d 3).int + 1)]) else none)))) else some (some 1, [.l (gi d 0).rows, .i (gi d 1).int]))
def l_pilemake_Stream_RightCards_2 : LSpec := ⟨2, [], ⟨16, [(0, .s (.ptr 0 0)), (1, .s (.int .i64)), (6, .s (.int .i64))], [.box [.list [.int .i64], .int .i64]]⟩, [.fix 0], [⟨.ret, ⟨16, [(4, .s (.list KCard))], [.box [.list [.int .i64], .int .i64]]⟩, [.fix 0]⟩, ⟨.exit 0, ⟨16, [], [.box [.list [.int .i64], .int .i64]]⟩, [.fix 0]⟩], st_pilemake_Stream_RightCards_2⟩
theorem r_pilemake_Stream_RightCards_2 : RoundOK P t57 noLoops 1 (loopAt Tryz.f34 2) l_pilemake_Stream_RightCards_2 := fun d => by kernel_rfl
def L_pilemake_Stream_RightCards_2 : LT := noLoops.add 1 l_pilemake_Stream_RightCards_2
theorem L_pilemake_Stream_RightCards_2_ok : LoopsOK P 1 L_pilemake_Stream_RightCards_2 (bodyOf Tryz.f34) := LoopsOK.add hm t57_ok (by kernel_rfl) (noLoops_ok _ _ _) r_pilemake_Stream_RightCards_2
def F_pilemake_Stream_RightCards (d : List G) : Option (List G) :=
  (loopB true (LRun st_pilemake_Stream_RightCards_2 [.l (gi d 0).rows, .i (gi d 1).int, .i (gi d 2).int, .i 0]) fun cg3 g3 => (bif Nat.beq cg3 0 then some [.l (gi g3 0).rows, .i (gi g3 1).int, .l (gi g3 2).rows] else some [.l (gi g3 0).rows, .i (gi g3 1).int, .l []]))
def s_pilemake_Stream_RightCards : FSpec := ⟨34, [.s (.ptr 0 0), .s (.int .i64)], [.box [.list [.int .i64], .int .i64]], [.slot 0], [.s (.list KCard)], [.box [.list [.int .i64], .int .i64]], [.fix 0], [], F_pilemake_Stream_RightCards⟩
theorem b_pilemake_Stream_RightCards : BodyOK P t57 L_pilemake_Stream_RightCards_2 Tryz.f34 s_pilemake_Stream_RightCards := fun d => by kernel_rfl
theorem c_pilemake_Stream_RightCards : ∀ d r, F_pilemake_Stream_RightCards d = some r → ACallX P 34 (s_pilemake_Stream_RightCards.args0 d) (denH (s_pilemake_Stream_RightCards.H0 d)) (s_pilemake_Stream_RightCards.out r) (denH (s_pilemake_Stream_RightCards.H1 r)) := fun d r h => body_sound hm t57_ok (sp := s_pilemake_Stream_RightCards) Tryz.func34 (by kernel_rfl) L_pilemake_Stream_RightCards_2_ok b_pilemake_Stream_RightCards (by kernel_rfl) h
def t58 : Tab := t57.addW s_pilemake_Stream_RightCards
theorem t58_ok : TabOK P t58 := t57_ok.addW (by kernel_rfl) (by kernel_rfl) c_pilemake_Stream_RightCards

/- pileup/pilekeep2.parts[pileup/api.Card] -/
def st_pilekeep2_parts_Card_3 (d : List G) : Option (Option Nat × List G) :=
  (bif (ltI (gi d 6).int (gi d 5).int) then (bif ((nnI (gi d 6).int) && (ltI (gi d 6).int (((gi d 4).rows.length : Nat) : Int))) then (callF (F_pilemake_Stream_Next [.l (gi d 0).rows, .i (gi d 1).int, .i 3]) fun g1 => (bif ((gi g1 2).int == 0) then (bif ((Nat.beq (gi d 2).rows.length (gi d 2).rows.length) && (decide (((gi d 2).rows.length + 1) ≤ 1048576))) then (bif (inI ((gi d 6).int + 1)) then (bif ((Nat.beq ((gi d 2).rows ++ ([(gEta KCard ((gi d 4).rows.getD (((gi d 6).int).toNat) []))] : List (List G))).length ((gi d 2).rows ++ ([(gEta KCard ((gi d 4).rows.getD (((gi d 6).int).toNat) []))] : List (List G))).length) && ((Nat.beq (gi d 3).rows.length (gi d 3).rows.length) && true)) then some (none, [.l (gi g1 0).rows, .i (gi g1 1).int, .l ((gi d 2).rows ++ ([(gEta KCard ((gi d 4).rows.getD (((gi d 6).int).toNat) []))] : List (List G))), .l (gi d 3).rows, .l (gi d 4).rows, .i (gi d 5).int, .i ((gi d 6).int + 1)]) else none) else none) else none) else (bif ((gi g1 2).int == 1) then (bif ((Nat.beq (gi d 3).rows.length (gi d 3).rows.length) && (decide (((gi d 3).rows.length + 1) ≤ 1048576))) then (bif (inI ((gi d 6).int + 1)) then (bif ((Nat.beq (gi d 2).rows.length (gi d 2).rows.length) && ((Nat.beq ((gi d 3).rows ++ ([(gEta KCard ((gi d 4).rows.getD (((gi d 6).int).toNat) []))] : List (List G))).length ((gi d 3).rows ++ ([(gEta KCard ((gi d 4).rows.getD (((gi d 6).int).toNat) []))] : List (List G))).length) && true)) then some (none, [.l (gi g1 0).rows, .i (gi g1 1).int, .l (gi d 2).rows, .l ((gi d 3).rows ++ ([(gEta KCard ((gi d 4).rows.getD (((gi d 6).int).toNat) []))] : List (List G))), .l (gi d 4).rows, .i (gi d 5).int, .i ((gi d 6).int + 1)]) else none) else none) else none) else (bif ((Nat.beq (gi d 2).rows.length (gi d 2).rows.length) && (decide (((gi d 2).rows.length + 1) ≤ 1048576))) then (bif ((Nat.beq (gi d 3).rows.length (gi d 3).rows.length) && (decide (((gi d 3).rows.length + 1) ≤ 1048576))) then (bif (inI ((gi d 6).int + 1)) then (bif ((Nat.beq ((gi d 2).rows ++ ([(gEta KCard ((gi d 4).rows.getD (((gi d 6).int).toNat) []))] : List (List G))).length ((gi d 2).rows ++ ([(gEta KCard ((gi d 4).rows.getD (((gi d 6).int).toNat) []))] : List (List G))).length) && ((Nat.beq ((gi d 3).rows ++ ([(gEta KCard ((gi d 4).rows.getD (((gi d 6).int).toNat) []))] : List (List G))).length ((gi d 3).rows ++ ([(gEta KCard ((gi d 4).rows.getD (((gi d 6).int).toNat) []))] : List (List G))).length) && true)) then some (none, [.l (gi g1 0).rows, .i (gi g1 1).int, .l ((gi d 2).rows ++ ([(gEta KCard ((gi d 4).rows.getD (((gi d 6).int).toNat) []))] : List (List G))), .l ((gi d 3).rows ++ ([(gEta KCard ((gi d 4).rows.getD (((gi d 6).int).toNat) []))] : List (List G))), .l (gi d 4).rows, .i (gi d 5).int, .i ((gi d 6).int + 1)]) else none) else none) else none) else none)))) else none) else (bif ((Nat.beq (gi d 2).rows.length (gi d 2).rows.length) && ((Nat.beq (gi d 3).rows.length (gi d 3).rows.length) && true)) then some (some 0, [.l (gi d 0).rows, .i (gi d 1).int, .l (gi d 2).rows, .l (gi d 3).rows]) else none))
def l_pilekeep2_parts_Card_3 : LSpec := ⟨3, [(6, KCard), (7, KCard)], ⟨41, [(0, .s (.ptr 0 0)), (6, .s (.vec 1 5)), (7, .s (.vec 2 5)), (10, .s (.list KCard)), (11, .s (.int .i64)), (12, .s (.int .i64))], [.box [.list [.int .i64], .int .i64], .vec KCard 0, .vec KCard 0]⟩, [.fix 0, .slot 6, .slot 7], [⟨.exit 0, ⟨41, [(6, .s (.vec 1 5)), (7, .s (.vec 2 5))], [.box [.list [.int .i64], .int .i64], .vec KCard 0, .vec KCard 0]⟩, [.fix 0, .slot 6, .slot 7]⟩], st_pilekeep2_parts_Card_3⟩
theorem r_pilekeep2_parts_Card_3 : RoundOK P t58 noLoops 1 (loopAt Tryz.f35 3) l_pilekeep2_parts_Card_3 := fun d => by kernel_rfl
def L_pilekeep2_parts_Card_3 : LT := noLoops.add 1 l_pilekeep2_parts_Card_3
theorem L_pilekeep2_parts_Card_3_ok : LoopsOK P 1 L_pilekeep2_parts_Card_3 (bodyOf Tryz.f35) := LoopsOK.add hm t58_ok (by kernel_rfl) (noLoops_ok _ _ _) r_pilekeep2_parts_Card_3
def F_pilekeep2_parts_Card (d : List G) : Option (List G) :=
  (loopB true (LRun st_pilekeep2_parts_Card_3 [.l (gi d 0).rows, .i (gi d 1).int, .l [], .l [], .l (gi d 2).rows, .i (((gi d 2).rows.length : Nat) : Int), .i 0]) fun cg2 g2 => (bif ((Nat.beq (gi g2 2).rows.length (gi g2 2).rows.length) && ((Nat.beq (gi g2 3).rows.length (gi g2 3).rows.length) && true)) then some [.l (gi g2 0).rows, .i (gi g2 1).int, .l (gi g2 2).rows, .l (gi g2 3).rows] else none))
def s_pilekeep2_parts_Card : FSpec := ⟨35, [.s (.ptr 0 0), .s (.list KCard)], [.box [.list [.int .i64], .int .i64]], [.slot 0], [.s (.list KCard), .s (.list KCard)], [.box [.list [.int .i64], .int .i64]], [.fix 0], [], F_pilekeep2_parts_Card⟩
theorem b_pilekeep2_parts_Card : BodyOK P t58 L_pilekeep2_parts_Card_3 Tryz.f35 s_pilekeep2_parts_Card := fun d => by kernel_rfl
theorem c_pilekeep2_parts_Card : ∀ d r, F_pilekeep2_parts_Card d = some r → ACallX P 35 (s_pilekeep2_parts_Card.args0 d) (denH (s_pilekeep2_parts_Card.H0 d)) (s_pilekeep2_parts_Card.out r) (denH (s_pilekeep2_parts_Card.H1 r)) := fun d r h => body_sound hm t58_ok (sp := s_pilekeep2_parts_Card) Tryz.func35 (by kernel_rfl) L_pilekeep2_parts_Card_3_ok b_pilekeep2_parts_Card (by kernel_rfl) h
def t59 : Tab := t58.addW s_pilekeep2_parts_Card
theorem t59_ok : TabOK P t59 := t58_ok.addW (by kernel_rfl) (by kernel_rfl) c_pilekeep2_parts_Card

/- pileup/club.compareCards -/
def F_club_compareCards (d : List G) : Option (List G) :=
  (callF (F_cmp_Compare_int [.i (gi (gi d 0).row 0).int, .i (gi (gi d 1).row 0).int]) fun g1 => (callF (F_strings_Compare [.s (gi (gi d 0).row 3).str, .s (gi (gi d 1).row 3).str]) fun g2 => (callF (F_strings_Compare [.s (gi (gi d 0).row 4).str, .s (gi (gi d 1).row 4).str]) fun g3 => (callF (F_cmp_Compare_int [.i (gi (gi d 0).row 2).int, .i (gi (gi d 1).row 2).int]) fun g4 => (callF (F_cmp_Compare_int [.i (gi (gi d 0).row 1).int, .i (gi (gi d 1).row 1).int]) fun g5 => (callF (F_cmp_Or_int [.l [[.i (gi g1 0).int], [.i (gi g2 0).int], [.i (gi g3 0).int], [.i (gi g4 0).int], [.i (gi g5 0).int]]]) fun g6 => some [.i (gi g6 0).int]))))))
def s_club_compareCards : FSpec := ⟨79, [.s (.row KCard), .s (.row KCard)], [], [], [.s (.int .i64)], [], [], [], F_club_compareCards⟩
theorem b_club_compareCards : BodyOK P t59 noLoops Tryz.f79 s_club_compareCards := fun d => by kernel_rfl
theorem c_club_compareCards : ∀ d r, F_club_compareCards d = some r → ACallX P 79 (s_club_compareCards.args0 d) (denH (s_club_compareCards.H0 d)) (s_club_compareCards.out r) (denH (s_club_compareCards.H1 r)) := fun d r h => body_sound hm t59_ok (sp := s_club_compareCards) Tryz.func79 (by kernel_rfl) (noLoops_ok _ _ _) b_club_compareCards (by kernel_rfl) h
def t60 : Tab := t59.addP s_club_compareCards
theorem t60_ok : TabOK P t60 := t59_ok.addP (by kernel_rfl) (by kernel_rfl) c_club_compareCards

/- pileup/club.CheckCards -/
def st_club_CheckCards_4 (d : List G) : Option (Option Nat × List G) :=
  (bif (ltI (gi d 3).int (gi d 2).int) then (bif ((nnI (gi d 3).int) && (ltI (gi d 3).int (((gi d 1).rows.length : Nat) : Int))) then (callF (F_kit_IsMoment [.i (gi ((gi d 1).rows.getD (((gi d 3).int).toNat) []) 0).int]) fun g1 => (bif (!(gi g1 0).bool) then some (some 0, [.i 1]) else (callF (F_kit_Outside [.i (gi ((gi d 1).rows.getD (((gi d 3).int).toNat) []) 1).int, .i 1, .i 3]) fun g2 => (bif (gi g2 0).bool then some (some 0, [.i 4]) else (callF (F_kit_IsMode [.i (gi ((gi d 1).rows.getD (((gi d 3).int).toNat) []) 2).int]) fun g3 => (bif (!(gi g3 0).bool) then some (some 0, [.i 4]) else (callF (F_call_Is [.s (gi ((gi d 1).rows.getD (((gi d 3).int).toNat) []) 3).str]) fun g4 => (bif (!(gi g4 0).bool) then some (some 0, [.i 3]) else (callF (F_kit_IsKey [.s (gi ((gi d 1).rows.getD (((gi d 3).int).toNat) []) 4).str]) fun g5 => (bif (!(gi g5 0).bool) then some (some 0, [.i 5]) else (bif (ltI 0 (gi d 3).int) then (bif (inI ((gi d 3).int - 1)) then (bif ((nnI ((gi d 3).int - 1)) && (ltI ((gi d 3).int - 1) (((gi d 0).rows.length : Nat) : Int))) then (callF (F_club_compareCards [.l [(gEta KCard ((gi d 0).rows.getD (((gi d 3).int - 1).toNat) []))], .l [(gEta KCard ((gi d 1).rows.getD (((gi d 3).int).toNat) []))]]) fun g6 => (bif (leI 0 (gi g6 0).int) then some (some 0, [.i 7]) else (bif (inI ((gi d 3).int + 1)) then some (none, [.l (gi d 0).rows, .l (gi d 1).rows, .i (gi d 2).int, .i ((gi d 3).int + 1)]) else none))) else none) else none) else (bif (inI ((gi d 3).int + 1)) then some (none, [.l (gi d 0).rows, .l (gi d 1).rows, .i (gi d 2).int, .i ((gi d 3).int + 1)]) else none)))))))))))) else none) else some (some 1, []))
def l_club_CheckCards_4 : LSpec := ⟨4, [], ⟨54, [(0, .s (.list KCard)), (8, .s (.list KCard)), (9, .s (.int .i64)), (10, .s (.int .i64))], []⟩, [], [⟨.ret, ⟨54, [(2, .s (.int .i64))], []⟩, []⟩, ⟨.exit 0, ⟨54, [], []⟩, []⟩], st_club_CheckCards_4⟩
theorem r_club_CheckCards_4 : RoundOK P t60 noLoops 0 (loopAt Tryz.f30 4) l_club_CheckCards_4 := fun d => by kernel_rfl
def L_club_CheckCards_4 : LT := noLoops.add 0 l_club_CheckCards_4
theorem L_club_CheckCards_4_ok : LoopsOK P 0 L_club_CheckCards_4 (bodyOf Tryz.f30) := LoopsOK.add hm t60_ok (by kernel_rfl) (noLoops_ok _ _ _) r_club_CheckCards_4
def F_club_CheckCards (d : List G) : Option (List G) :=
  (bif (ltI 3000 (((gi d 0).rows.length : Nat) : Int)) then some [.i 2] else (loopB true (LRun st_club_CheckCards_4 [.l (gi d 0).rows, .l (gi d 0).rows, .i (((gi d 0).rows.length : Nat) : Int), .i 0]) fun cg7 g7 => (bif Nat.beq cg7 0 then some [.i (gi g7 0).int] else some [.i 0])))
def s_club_CheckCards : FSpec := ⟨30, [.s (.list KCard)], [], [], [.s (.int .i64)], [], [], [], F_club_CheckCards⟩
theorem b_club_CheckCards : BodyOK P t60 L_club_CheckCards_4 Tryz.f30 s_club_CheckCards := fun d => by kernel_rfl
theorem c_club_CheckCards : ∀ d r, F_club_CheckCards d = some r → ACallX P 30 (s_club_CheckCards.args0 d) (denH (s_club_CheckCards.H0 d)) (s_club_CheckCards.out r) (denH (s_club_CheckCards.H1 r)) := fun d r h => body_sound hm t60_ok (sp := s_club_CheckCards) Tryz.func30 (by kernel_rfl) L_club_CheckCards_4_ok b_club_CheckCards (by kernel_rfl) h
def t61 : Tab := t60.addP s_club_CheckCards
theorem t61_ok : TabOK P t61 := t60_ok.addP (by kernel_rfl) (by kernel_rfl) c_club_CheckCards

/- slices.Grow[[]pileup/api.Card,pileup/api.Card] -/
/- not followed: op panic at slices.go:424 -/
def F_slices_Grow_Card_f (d : List G) : Option (List G) :=
  (bif (ltI (gi d 0).int 0) then none else (bif (inI ((gi d 0).int - 0)) then (bif (ltI 0 ((gi d 0).int - 0)) then (bif ((ltI 0 ((gi d 0).int - 0)) && (leI ((gi d 0).int - 0) 1048576)) then (bif (leI 0 ((((gi d 0).int - 0).toNat : Nat) : Int)) then (bif ((Nat.ble 0 (List.replicate (((gi d 0).int - 0).toNat) ([.i 0, .i 0, .i 0, .s (⟨#[]⟩ : ByteArray), .s (⟨#[]⟩ : ByteArray)] : List G)).length) && true) then some [.l ((List.replicate (((gi d 0).int - 0).toNat) ([.i 0, .i 0, .i 0, .s (⟨#[]⟩ : ByteArray), .s (⟨#[]⟩ : ByteArray)] : List G)).take 0)] else none) else none) else none) else some [.l []]) else none))
def s_slices_Grow_Card_f : FSpec := ⟨134, [.s (.nil), .s (.int .i64)], [], [], [.s (.vec 0 5)], [.vec KCard 0], [.slot 0], [(4, KCard)], F_slices_Grow_Card_f⟩
theorem b_slices_Grow_Card_f : BodyOK P t61 (noLoops.hinted [(6, [.trunc 0])]) Tryz.f134 s_slices_Grow_Card_f := fun d => by kernel_rfl
theorem c_slices_Grow_Card_f : ∀ d r, F_slices_Grow_Card_f d = some r → ACallX P 134 (s_slices_Grow_Card_f.args0 d) (denH (s_slices_Grow_Card_f.H0 d)) (s_slices_Grow_Card_f.out r) (denH (s_slices_Grow_Card_f.H1 r)) := fun d r h => body_sound hm t61_ok (sp := s_slices_Grow_Card_f) Tryz.func134 (by kernel_rfl) (hinted_ok _) b_slices_Grow_Card_f (by kernel_rfl) h
def t62 : Tab := t61.addW s_slices_Grow_Card_f
theorem t62_ok : TabOK P t62 := t61_ok.addW (by kernel_rfl) (by kernel_rfl) c_slices_Grow_Card_f

/- slices.Concat[[]pileup/api.Card,pileup/api.Card] -/
/- not followed: op panic at slices.go:496 -/
def st_slices_Concat_Card_f_3 (d : List G) : Option (Option Nat × List G) :=
  (bif (ltI (gi d 4).int (gi d 3).int) then (bif ((nnI (gi d 4).int) && (ltI (gi d 4).int (((gi d 2).rows.length : Nat) : Int))) then (bif (inI ((gi d 1).int + (((gi ((gi d 2).rows.getD (((gi d 4).int).toNat) []) 0).rows.length : Nat) : Int))) then (bif (ltI ((gi d 1).int + (((gi ((gi d 2).rows.getD (((gi d 4).int).toNat) []) 0).rows.length : Nat) : Int)) 0) then none else (bif (inI ((gi d 4).int + 1)) then some (none, [.l (gi d 0).rows, .i ((gi d 1).int + (((gi ((gi d 2).rows.getD (((gi d 4).int).toNat) []) 0).rows.length : Nat) : Int)), .l (gi d 2).rows, .i (gi d 3).int, .i ((gi d 4).int + 1)]) else none)) else none) else none) else some (some 0, [.l (gi d 0).rows, .i (gi d 1).int]))
def l_slices_Concat_Card_f_3 : LSpec := ⟨3, [], ⟨36, [(0, .s (.list [.list KCard])), (3, .s (.int .i64)), (9, .s (.list [.list KCard])), (10, .s (.int .i64)), (11, .s (.int .i64))], []⟩, [], [⟨.exit 0, ⟨36, [(0, .s (.list [.list KCard])), (3, .s (.int .i64))], []⟩, []⟩], st_slices_Concat_Card_f_3⟩
theorem r_slices_Concat_Card_f_3 : RoundOK P t62 noLoops 0 (loopAt Tryz.f77 3) l_slices_Concat_Card_f_3 := fun d => by kernel_rfl
def L_slices_Concat_Card_f_3 : LT := noLoops.add 0 l_slices_Concat_Card_f_3
theorem L_slices_Concat_Card_f_3_ok : LoopsOK P 0 L_slices_Concat_Card_f_3 (bodyOf Tryz.f77) := LoopsOK.add hm t62_ok (by kernel_rfl) (noLoops_ok _ _ _) r_slices_Concat_Card_f_3
def st_slices_Concat_Card_f_11 (d : List G) : Option (Option Nat × List G) :=
  (bif (ltI (gi d 3).int (gi d 2).int) then (bif ((nnI (gi d 3).int) && (ltI (gi d 3).int (((gi d 1).rows.length : Nat) : Int))) then (bif ((Nat.beq (gi d 0).rows.length (gi d 0).rows.length) && (decide (((gi d 0).rows.length + (gi ((gi d 1).rows.getD (((gi d 3).int).toNat) []) 0).rows.length) ≤ 1048576))) then (bif (inI ((gi d 3).int + 1)) then (bif ((Nat.beq ((gi d 0).rows ++ (gi ((gi d 1).rows.getD (((gi d 3).int).toNat) []) 0).rows).length ((gi d 0).rows ++ (gi ((gi d 1).rows.getD (((gi d 3).int).toNat) []) 0).rows).length) && true) then some (none, [.l ((gi d 0).rows ++ (gi ((gi d 1).rows.getD (((gi d 3).int).toNat) []) 0).rows), .l (gi d 1).rows, .i (gi d 2).int, .i ((gi d 3).int + 1)]) else none) else none) else none) else none) else (bif ((Nat.beq (gi d 0).rows.length (gi d 0).rows.length) && true) then some (some 0, [.l (gi d 0).rows]) else none))
def l_slices_Concat_Card_f_11 : LSpec := ⟨11, [], ⟨36, [(6, .s (.vec 0 5)), (25, .s (.list [.list KCard])), (26, .s (.int .i64)), (27, .s (.int .i64))], [.vec KCard 0]⟩, [.slot 6], [⟨.exit 2, ⟨36, [(6, .s (.vec 0 5))], [.vec KCard 0]⟩, [.slot 6]⟩], st_slices_Concat_Card_f_11⟩
theorem r_slices_Concat_Card_f_11 : RoundOK P t62 L_slices_Concat_Card_f_3 0 (loopAt Tryz.f77 11) l_slices_Concat_Card_f_11 := fun d => by kernel_rfl
def L_slices_Concat_Card_f_11 : LT := L_slices_Concat_Card_f_3.add 0 l_slices_Concat_Card_f_11
theorem L_slices_Concat_Card_f_11_ok : LoopsOK P 0 L_slices_Concat_Card_f_11 (bodyOf Tryz.f77) := LoopsOK.add hm t62_ok (by kernel_rfl) L_slices_Concat_Card_f_3_ok r_slices_Concat_Card_f_11
def F_slices_Concat_Card_f (d : List G) : Option (List G) :=
  (loopB true (LRun st_slices_Concat_Card_f_3 [.l (gi d 0).rows, .i 0, .l (gi d 0).rows, .i (((gi d 0).rows.length : Nat) : Int), .i 0]) fun cg1 g1 => (callF (F_slices_Grow_Card_f [.i (gi g1 1).int]) fun g2 => (loopB ((Nat.beq (gi g2 0).rows.length (gi g2 0).rows.length) && true) (LRun st_slices_Concat_Card_f_11 [.l (gi g2 0).rows, .l (gi g1 0).rows, .i (((gi g1 0).rows.length : Nat) : Int), .i 0]) fun cg3 g3 => (bif ((Nat.beq (gi g3 0).rows.length (gi g3 0).rows.length) && true) then some [.l (gi g3 0).rows] else none))))
def s_slices_Concat_Card_f : FSpec := ⟨77, [.s (.list [.list KCard])], [], [], [.s (.vec 0 5)], [.vec KCard 0], [.slot 0], [], F_slices_Concat_Card_f⟩
theorem b_slices_Concat_Card_f : BodyOK P t62 L_slices_Concat_Card_f_11 Tryz.f77 s_slices_Concat_Card_f := fun d => by kernel_rfl
theorem c_slices_Concat_Card_f : ∀ d r, F_slices_Concat_Card_f d = some r → ACallX P 77 (s_slices_Concat_Card_f.args0 d) (denH (s_slices_Concat_Card_f.H0 d)) (s_slices_Concat_Card_f.out r) (denH (s_slices_Concat_Card_f.H1 r)) := fun d r h => body_sound hm t62_ok (sp := s_slices_Concat_Card_f) Tryz.func77 (by kernel_rfl) L_slices_Concat_Card_f_11_ok b_slices_Concat_Card_f (by kernel_rfl) h
def t63 : Tab := t62.addW s_slices_Concat_Card_f
theorem t63_ok : TabOK P t63 := t62_ok.addW (by kernel_rfl) (by kernel_rfl) c_slices_Concat_Card_f

/- slices.SortFunc[[]pileup/api.Card,pileup/api.Card] -/
def F_slices_SortFunc_Card (d : List G) : Option (List G) :=
  sortG F_club_compareCards d
def s_slices_SortFunc_Card : FSpec := ⟨78, [.s (.vec 0 5), .s (.fn 79)], [.vec KCard 0], [.slot 0], [], [.vec KCard 0], [.fix 0], [], F_slices_SortFunc_Card⟩
theorem c_slices_SortFunc_Card : ∀ d r, F_slices_SortFunc_Card d = some r → ACallX P 78 (s_slices_SortFunc_Card.args0 d) (denH (s_slices_SortFunc_Card.H0 d)) (s_slices_SortFunc_Card.out r) (denH (s_slices_SortFunc_Card.H1 r)) := fun d r h => sortK_call Tryz.laysSort78 KCard (by kernel_rfl) Tryz.isAgg62 Tryz.sizeOf62 79 (by kernel_rfl) F_club_compareCards c_club_compareCards d r h
def t64 : Tab := t63.addW s_slices_SortFunc_Card
theorem t64_ok : TabOK P t64 := t63_ok.addW (by kernel_rfl) (by kernel_rfl) c_slices_SortFunc_Card

/- pileup/club.MergeCards -/
def st_club_MergeCards_2 (d : List G) : Option (Option Nat × List G) :=
  (bif (ltI (gi d 4).int (gi d 3).int) then (bif ((nnI (gi d 4).int) && (ltI (gi d 4).int (((gi d 2).rows.length : Nat) : Int))) then (callF (F_club_CheckCards [.l (gi ((gi d 2).rows.getD (((gi d 4).int).toNat) []) 0).rows]) fun g1 => (bif ((gi g1 0).int != 0) then some (some 0, [.l [], .i (gi g1 0).int]) else (bif (inI ((gi d 4).int + 1)) then some (none, [.l (gi d 0).rows, .l (gi d 1).rows, .l (gi d 2).rows, .i (gi d 3).int, .i ((gi d 4).int + 1)]) else none))) else none) else some (some 1, [.l (gi d 0).rows, .l (gi d 1).rows]))
def l_club_MergeCards_2 : LSpec := ⟨2, [], ⟨36, [(0, .s (.list KCard)), (1, .s (.list KCard)), (12, .s (.list [.list KCard])), (13, .s (.int .i64)), (14, .s (.int .i64))], []⟩, [], [⟨.ret, ⟨36, [(4, .s (.list KCard)), (5, .s (.int .i64))], []⟩, []⟩, ⟨.exit 0, ⟨36, [(0, .s (.list KCard)), (1, .s (.list KCard))], []⟩, []⟩], st_club_MergeCards_2⟩
theorem r_club_MergeCards_2 : RoundOK P t64 noLoops 0 (loopAt Tryz.f21 2) l_club_MergeCards_2 := fun d => by kernel_rfl
def L_club_MergeCards_2 : LT := noLoops.add 0 l_club_MergeCards_2
theorem L_club_MergeCards_2_ok : LoopsOK P 0 L_club_MergeCards_2 (bodyOf Tryz.f21) := LoopsOK.add hm t64_ok (by kernel_rfl) (noLoops_ok _ _ _) r_club_MergeCards_2
def F_club_MergeCards (d : List G) : Option (List G) :=
  (loopB true (LRun st_club_MergeCards_2 [.l (gi d 0).rows, .l (gi d 1).rows, .l [[.l (gi d 0).rows], [.l (gi d 1).rows]], .i 2, .i 0]) fun cg2 g2 => (bif Nat.beq cg2 0 then some [.l (gi g2 0).rows, .i (gi g2 1).int] else (callF (F_slices_Concat_Card_f [.l [[.l (gi g2 0).rows], [.l (gi g2 1).rows]]]) fun g3 => (callB (((Nat.beq (gi g3 0).rows.length (gi g3 0).rows.length) && true) && (F_slices_SortFunc_Card [.l (gi g3 0).rows]).isSome) (F_slices_SortFunc_Card [.l (gi g3 0).rows]) fun g4 => (callB (((Nat.beq (gi g3 0).rows.length (gi g4 0).rows.length) && true) && (F_slices_Compact_Card [.l (gi g4 0).rows]).isSome) (F_slices_Compact_Card [.l (gi g4 0).rows]) fun g5 => (bif (ltI 3000 (((gi g5 1).int.toNat : Nat) : Int)) then some [.l [], .i 2] else (bif ((Nat.ble (gi g5 1).int.toNat (gi g5 0).rows.length) && true) then some [.l ((gi g5 0).rows.take ((gi g5 1).int.toNat)), .i 0] else none)))))))
def s_club_MergeCards : FSpec := ⟨21, [.s (.list KCard), .s (.list KCard)], [], [], [.s (.lpre KCard), .s (.int .i64)], [], [], [], F_club_MergeCards⟩
theorem b_club_MergeCards : BodyOK P t64 L_club_MergeCards_2 Tryz.f21 s_club_MergeCards := fun d => by kernel_rfl
theorem c_club_MergeCards : ∀ d r, F_club_MergeCards d = some r → ACallX P 21 (s_club_MergeCards.args0 d) (denH (s_club_MergeCards.H0 d)) (s_club_MergeCards.out r) (denH (s_club_MergeCards.H1 r)) := fun d r h => body_sound hm t64_ok (sp := s_club_MergeCards) Tryz.func21 (by kernel_rfl) L_club_MergeCards_2_ok b_club_MergeCards (by kernel_rfl) h
def t65 : Tab := t64.addP s_club_MergeCards
theorem t65_ok : TabOK P t65 := t64_ok.addP (by kernel_rfl) (by kernel_rfl) c_club_MergeCards

/- pileup/club.cardsFault -/
def F_club_cardsFault (d : List G) : Option (List G) :=
  (callF (F_club_CheckCards [.l (gi d 0).rows]) fun g1 => (bif ((gi g1 0).int != 0) then some [.i (gi g1 0).int] else (callF (F_kit_IsMoment [.i (gi d 1).int]) fun g2 => (bif (!(gi g2 0).bool) then some [.i 1] else some [.i 0]))))
def s_club_cardsFault : FSpec := ⟨80, [.s (.list KCard), .s (.int .i64)], [], [], [.s (.int .i64)], [], [], [], F_club_cardsFault⟩
theorem b_club_cardsFault : BodyOK P t65 noLoops Tryz.f80 s_club_cardsFault := fun d => by kernel_rfl
theorem c_club_cardsFault : ∀ d r, F_club_cardsFault d = some r → ACallX P 80 (s_club_cardsFault.args0 d) (denH (s_club_cardsFault.H0 d)) (s_club_cardsFault.out r) (denH (s_club_cardsFault.H1 r)) := fun d r h => body_sound hm t65_ok (sp := s_club_cardsFault) Tryz.func80 (by kernel_rfl) (noLoops_ok _ _ _) b_club_cardsFault (by kernel_rfl) h
def t66 : Tab := t65.addP s_club_cardsFault
theorem t66_ok : TabOK P t66 := t65_ok.addP (by kernel_rfl) (by kernel_rfl) c_club_cardsFault

/- pileup/club.contactOf -/
def F_club_contactOf (d : List G) : Option (List G) :=
  (callF (F_call_BaseOf [.s (gi (gi d 0).row 3).str]) fun g1 => some [.l [[.s (gi g1 0).str, .s (gi (gi d 0).row 4).str, .i (gi (gi d 0).row 2).int]]])
def s_club_contactOf : FSpec := ⟨82, [.s (.row KCard)], [], [], [.s (.row [.str, .str, .int .i64])], [], [], [], F_club_contactOf⟩
theorem b_club_contactOf : BodyOK P t66 noLoops Tryz.f82 s_club_contactOf := fun d => by kernel_rfl
theorem c_club_contactOf : ∀ d r, F_club_contactOf d = some r → ACallX P 82 (s_club_contactOf.args0 d) (denH (s_club_contactOf.H0 d)) (s_club_contactOf.out r) (denH (s_club_contactOf.H1 r)) := fun d r h => body_sound hm t66_ok (sp := s_club_contactOf) Tryz.func82 (by kernel_rfl) (noLoops_ok _ _ _) b_club_contactOf (by kernel_rfl) h
def t67 : Tab := t66.addP s_club_contactOf
theorem t67_ok : TabOK P t67 := t66_ok.addP (by kernel_rfl) (by kernel_rfl) c_club_contactOf

/- pileup/club.confirmed -/
def st_club_confirmed_4 (d : List G) : Option (Option Nat × List G) :=
  (bif (ltI (gi d 6).int (gi d 5).int) then (bif ((nnI (gi d 6).int) && (ltI (gi d 6).int (((gi d 4).rows.length : Nat) : Int))) then (callF (F_club_contactOf [.l [(gEta KCard ((gi d 4).rows.getD (((gi d 6).int).toNat) []))]]) fun g1 => (bif (leI (gi ((gi d 4).rows.getD (((gi d 6).int).toNat) []) 0).int (gi d 3).int) then (bif ((gi ((gi d 4).rows.getD (((gi d 6).int).toNat) []) 1).int == 2) then (bif (!(gi (mget [.str, .str, .int .i64] (gi d 0).rows (gEta [.str, .str, .int .i64] (gi g1 0).row) [.t false]) 0).bool) then (bif ((Nat.beq (gi d 2).rows.length (gi d 2).rows.length) && (decide (((gi d 2).rows.length + 1) ≤ 1048576))) then (bif (inI ((gi d 6).int + 1)) then (bif ((Nat.beq ((gi d 2).rows ++ ([(gEta KCard ((gi d 4).rows.getD (((gi d 6).int).toNat) []))] : List (List G))).length ((gi d 2).rows ++ ([(gEta KCard ((gi d 4).rows.getD (((gi d 6).int).toNat) []))] : List (List G))).length) && true) then some (none, [.l (mput [.str, .str, .int .i64] (gi d 0).rows (gEta [.str, .str, .int .i64] (gi g1 0).row) [.t true] (gi d 1).int.toNat), .i (((mclk [.str, .str, .int .i64] (gi d 0).rows (gEta [.str, .str, .int .i64] (gi g1 0).row) (gi d 1).int.toNat) : Nat) : Int), .l ((gi d 2).rows ++ ([(gEta KCard ((gi d 4).rows.getD (((gi d 6).int).toNat) []))] : List (List G))), .i (gi d 3).int, .l (gi d 4).rows, .i (gi d 5).int, .i ((gi d 6).int + 1)]) else none) else none) else none) else (bif (inI ((gi d 6).int + 1)) then (bif ((Nat.beq (gi d 2).rows.length (gi d 2).rows.length) && true) then some (none, [.l (gi d 0).rows, .i (((gi d 1).int.toNat : Nat) : Int), .l (gi d 2).rows, .i (gi d 3).int, .l (gi d 4).rows, .i (gi d 5).int, .i ((gi d 6).int + 1)]) else none) else none)) else (bif (inI ((gi d 6).int + 1)) then (bif ((Nat.beq (gi d 2).rows.length (gi d 2).rows.length) && true) then some (none, [.l (gi d 0).rows, .i (((gi d 1).int.toNat : Nat) : Int), .l (gi d 2).rows, .i (gi d 3).int, .l (gi d 4).rows, .i (gi d 5).int, .i ((gi d 6).int + 1)]) else none) else none)) else (bif (inI ((gi d 6).int + 1)) then (bif ((Nat.beq (gi d 2).rows.length (gi d 2).rows.length) && true) then some (none, [.l (gi d 0).rows, .i (((gi d 1).int.toNat : Nat) : Int), .l (gi d 2).rows, .i (gi d 3).int, .l (gi d 4).rows, .i (gi d 5).int, .i ((gi d 6).int + 1)]) else none) else none))) else none) else (bif ((Nat.beq (gi d 2).rows.length (gi d 2).rows.length) && true) then some (some 0, [.l (gi d 2).rows]) else none))
def l_club_confirmed_4 : LSpec := ⟨4, [(6, KCard)], ⟨42, [(1, .s (.int .i64)), (5, .s (.map 0)), (6, .s (.vec 1 5)), (11, .s (.list KCard)), (12, .s (.int .i64)), (13, .s (.int .i64))], [.map (.agg [.str, .str, .int .i64]) (.one (.bool)), .vec KCard 0]⟩, [.slot 5, .slot 6], [⟨.exit 0, ⟨42, [(6, .s (.vec 0 5))], [.vec KCard 0]⟩, [.slot 6]⟩], st_club_confirmed_4⟩
theorem r_club_confirmed_4 : RoundOK P t67 noLoops 0 (loopAt Tryz.f81 4) l_club_confirmed_4 := fun d => by kernel_rfl
def L_club_confirmed_4 : LT := noLoops.add 0 l_club_confirmed_4
theorem L_club_confirmed_4_ok : LoopsOK P 0 L_club_confirmed_4 (bodyOf Tryz.f81) := LoopsOK.add hm t67_ok (by kernel_rfl) (noLoops_ok _ _ _) r_club_confirmed_4
def F_club_confirmed (d : List G) : Option (List G) :=
  (loopB true (LRun st_club_confirmed_4 [.l [], .i 0, .l [], .i (gi d 1).int, .l (gi d 0).rows, .i (((gi d 0).rows.length : Nat) : Int), .i 0]) fun cg2 g2 => (bif ((Nat.beq (gi g2 0).rows.length (gi g2 0).rows.length) && true) then some [.l (gi g2 0).rows] else none))
def s_club_confirmed : FSpec := ⟨81, [.s (.list KCard), .s (.int .i64)], [], [], [.s (.list KCard)], [], [], [], F_club_confirmed⟩
theorem b_club_confirmed : BodyOK P t67 L_club_confirmed_4 Tryz.f81 s_club_confirmed := fun d => by kernel_rfl
theorem c_club_confirmed : ∀ d r, F_club_confirmed d = some r → ACallX P 81 (s_club_confirmed.args0 d) (denH (s_club_confirmed.H0 d)) (s_club_confirmed.out r) (denH (s_club_confirmed.H1 r)) := fun d r h => body_sound hm t67_ok (sp := s_club_confirmed) Tryz.func81 (by kernel_rfl) L_club_confirmed_4_ok b_club_confirmed (by kernel_rfl) h
def t68 : Tab := t67.addP s_club_confirmed
theorem t68_ok : TabOK P t68 := t67_ok.addP (by kernel_rfl) (by kernel_rfl) c_club_confirmed

/- pileup/club.Confirmed -/
def F_club_Confirmed (d : List G) : Option (List G) :=
  (callF (F_club_cardsFault [.l (gi d 0).rows, .i (gi d 1).int]) fun g1 => (bif ((gi g1 0).int != 0) then some [.l [], .i (gi g1 0).int] else (callF (F_club_confirmed [.l (gi d 0).rows, .i (gi d 1).int]) fun g2 => some [.l (gi g2 0).rows, .i 0])))
def s_club_Confirmed : FSpec := ⟨22, [.s (.list KCard), .s (.int .i64)], [], [], [.s (.list KCard), .s (.int .i64)], [], [], [], F_club_Confirmed⟩
theorem b_club_Confirmed : BodyOK P t68 noLoops Tryz.f22 s_club_Confirmed := fun d => by kernel_rfl
theorem c_club_Confirmed : ∀ d r, F_club_Confirmed d = some r → ACallX P 22 (s_club_Confirmed.args0 d) (denH (s_club_Confirmed.H0 d)) (s_club_Confirmed.out r) (denH (s_club_Confirmed.H1 r)) := fun d r h => body_sound hm t68_ok (sp := s_club_Confirmed) Tryz.func22 (by kernel_rfl) (noLoops_ok _ _ _) b_club_Confirmed (by kernel_rfl) h
def t69 : Tab := t68.addP s_club_Confirmed
theorem t69_ok : TabOK P t69 := t68_ok.addP (by kernel_rfl) (by kernel_rfl) c_club_Confirmed

/- pileup/kit.ModeWords -/
def F_kit_ModeWords (d : List G) : Option (List G) :=
  some [.l [[.s (⟨#[]⟩ : ByteArray)], [.s (⟨#[99, 111, 100, 101]⟩ : ByteArray)], [.s (⟨#[118, 111, 105, 99, 101]⟩ : ByteArray)], [.s (⟨#[100, 97, 116, 97]⟩ : ByteArray)]]]
def s_kit_ModeWords : FSpec := ⟨83, [], [], [], [.s (.list [.str])], [], [], [], F_kit_ModeWords⟩
theorem b_kit_ModeWords : BodyOK P t69 noLoops Tryz.f83 s_kit_ModeWords := fun d => by kernel_rfl
theorem c_kit_ModeWords : ∀ d r, F_kit_ModeWords d = some r → ACallX P 83 (s_kit_ModeWords.args0 d) (denH (s_kit_ModeWords.H0 d)) (s_kit_ModeWords.out r) (denH (s_kit_ModeWords.H1 r)) := fun d r h => body_sound hm t69_ok (sp := s_kit_ModeWords) Tryz.func83 (by kernel_rfl) (noLoops_ok _ _ _) b_kit_ModeWords (by kernel_rfl) h
def t70 : Tab := t69.addP s_kit_ModeWords
theorem t70_ok : TabOK P t70 := t69_ok.addP (by kernel_rfl) (by kernel_rfl) c_kit_ModeWords

/- pileup/club.Owed$1 -/
def F_club_Owed_1 (d : List G) : Option (List G) :=
  (callF (F_strings_Compare [.s (gi (gi d 0).row 0).str, .s (gi (gi d 1).row 0).str]) fun g1 => (callF (F_strings_Compare [.s (gi (gi d 0).row 1).str, .s (gi (gi d 1).row 1).str]) fun g2 => (callF (F_cmp_Or_int [.l [[.i (gi g1 0).int], [.i (gi g2 0).int]]]) fun g3 => some [.i (gi g3 0).int])))
def s_club_Owed_1 : FSpec := ⟨85, [.s (.row [.str, .str]), .s (.row [.str, .str])], [], [], [.s (.int .i64)], [], [], [], F_club_Owed_1⟩
theorem b_club_Owed_1 : BodyOK P t70 noLoops Tryz.f85 s_club_Owed_1 := fun d => by kernel_rfl
theorem c_club_Owed_1 : ∀ d r, F_club_Owed_1 d = some r → ACallX P 85 (s_club_Owed_1.args0 d) (denH (s_club_Owed_1.H0 d)) (s_club_Owed_1.out r) (denH (s_club_Owed_1.H1 r)) := fun d r h => body_sound hm t70_ok (sp := s_club_Owed_1) Tryz.func85 (by kernel_rfl) (noLoops_ok _ _ _) b_club_Owed_1 (by kernel_rfl) h
def t71 : Tab := t70.addP s_club_Owed_1
theorem t71_ok : TabOK P t71 := t70_ok.addP (by kernel_rfl) (by kernel_rfl) c_club_Owed_1

/- slices.SortFunc[[]pileup/api.Pair,pileup/api.Pair] -/
def F_slices_SortFunc_Pair (d : List G) : Option (List G) :=
  sortG F_club_Owed_1 d
def s_slices_SortFunc_Pair : FSpec := ⟨84, [.s (.vec 0 2), .s (.fn 85)], [.vec [.str, .str] 0], [.slot 0], [], [.vec [.str, .str] 0], [.fix 0], [], F_slices_SortFunc_Pair⟩
theorem c_slices_SortFunc_Pair : ∀ d r, F_slices_SortFunc_Pair d = some r → ACallX P 84 (s_slices_SortFunc_Pair.args0 d) (denH (s_slices_SortFunc_Pair.H0 d)) (s_slices_SortFunc_Pair.out r) (denH (s_slices_SortFunc_Pair.H1 r)) := fun d r h => sortK_call Tryz.laysSort84 [.str, .str] (by kernel_rfl) Tryz.isAgg65 Tryz.sizeOf65 85 (by kernel_rfl) F_club_Owed_1 c_club_Owed_1 d r h
def t72 : Tab := t71.addW s_slices_SortFunc_Pair
theorem t72_ok : TabOK P t72 := t71_ok.addW (by kernel_rfl) (by kernel_rfl) c_slices_SortFunc_Pair

/- pileup/club.Owed -/
def st_club_Owed_6 (d : List G) : Option (Option Nat × List G) :=
  (bif (ltI (gi d 6).int (gi d 5).int) then (bif ((nnI (gi d 6).int) && (ltI (gi d 6).int (((gi d 4).rows.length : Nat) : Int))) then (bif (ltI (gi d 3).int (gi ((gi d 4).rows.getD (((gi d 6).int).toNat) []) 0).int) then (bif (inI ((gi d 6).int + 1)) then some (none, [.l (gi d 0).rows, .i (((gi d 1).int.toNat : Nat) : Int), .l (gi d 2).rows, .i (gi d 3).int, .l (gi d 4).rows, .i (gi d 5).int, .i ((gi d 6).int + 1)]) else none) else (bif ((gi ((gi d 4).rows.getD (((gi d 6).int).toNat) []) 1).int == 1) then (callF (F_club_contactOf [.l [(gEta KCard ((gi d 4).rows.getD (((gi d 6).int).toNat) []))]]) fun g2 => (bif (inI ((gi d 6).int + 1)) then some (none, [.l (mput [.str, .str, .int .i64] (gi d 0).rows (gEta [.str, .str, .int .i64] (gi g2 0).row) [.t true] (gi d 1).int.toNat), .i (((mclk [.str, .str, .int .i64] (gi d 0).rows (gEta [.str, .str, .int .i64] (gi g2 0).row) (gi d 1).int.toNat) : Nat) : Int), .l (gi d 2).rows, .i (gi d 3).int, .l (gi d 4).rows, .i (gi d 5).int, .i ((gi d 6).int + 1)]) else none)) else (bif ((gi ((gi d 4).rows.getD (((gi d 6).int).toNat) []) 1).int == 3) then (callF (F_club_contactOf [.l [(gEta KCard ((gi d 4).rows.getD (((gi d 6).int).toNat) []))]]) fun g3 => (bif (inI ((gi d 6).int + 1)) then some (none, [.l (mput [.str, .str, .int .i64] (gi d 0).rows (gEta [.str, .str, .int .i64] (gi g3 0).row) [.t false] (gi d 1).int.toNat), .i (((mclk [.str, .str, .int .i64] (gi d 0).rows (gEta [.str, .str, .int .i64] (gi g3 0).row) (gi d 1).int.toNat) : Nat) : Int), .l (gi d 2).rows, .i (gi d 3).int, .l (gi d 4).rows, .i (gi d 5).int, .i ((gi d 6).int + 1)]) else none)) else (bif (inI ((gi d 6).int + 1)) then some (none, [.l (gi d 0).rows, .i (((gi d 1).int.toNat : Nat) : Int), .l (gi d 2).rows, .i (gi d 3).int, .l (gi d 4).rows, .i (gi d 5).int, .i ((gi d 6).int + 1)]) else none)))) else none) else some (some 0, [.l (gi d 0).rows, .i (((gi d 1).int.toNat : Nat) : Int), .l (gi d 2).rows, .i (gi d 3).int]))
def l_club_Owed_6 : LSpec := ⟨6, [], ⟨80, [(0, .s (.list KCard)), (1, .s (.int .i64)), (7, .s (.map 0)), (21, .s (.list KCard)), (22, .s (.int .i64)), (23, .s (.int .i64))], [.map (.agg [.str, .str, .int .i64]) (.one (.bool))]⟩, [.slot 7], [⟨.exit 0, ⟨80, [(0, .s (.list KCard)), (1, .s (.int .i64)), (7, .s (.map 0))], [.map (.agg [.str, .str, .int .i64]) (.one (.bool))]⟩, [.slot 7]⟩], st_club_Owed_6⟩
theorem r_club_Owed_6 : RoundOK P t72 noLoops 0 (loopAt Tryz.f23 6) l_club_Owed_6 := fun d => by kernel_rfl
def L_club_Owed_6 : LT := noLoops.add 0 l_club_Owed_6
theorem L_club_Owed_6_ok : LoopsOK P 0 L_club_Owed_6 (bodyOf Tryz.f23) := LoopsOK.add hm t72_ok (by kernel_rfl) (noLoops_ok _ _ _) r_club_Owed_6
def st_club_Owed_16 (d : List G) : Option (Option Nat × List G) :=
  (bif (ltI (gi d 5).int (gi d 4).int) then (bif ((nnI (gi d 5).int) && (ltI (gi d 5).int (((gi d 3).rows.length : Nat) : Int))) then (callF (F_club_contactOf [.l [(gEta KCard ((gi d 3).rows.getD (((gi d 5).int).toNat) []))]]) fun g6 => (bif (!(gi (mget [.str, .str, .int .i64] (gi d 0).rows (gEta [.str, .str, .int .i64] (gi g6 0).row) [.t false]) 0).bool) then (bif (Nat.ble ((gi (gi g6 0).row 1).str.size + 1) 9223372036854775807) then (callF (F_kit_ModeWords []) fun g7 => (bif ((nnI (gi (gi g6 0).row 2).int) && (ltI (gi (gi g6 0).row 2).int (((gi g7 0).rows.length : Nat) : Int))) then (bif (Nat.ble (((gi (gi g6 0).row 1).str ++ (⟨#[32]⟩ : ByteArray)).size + (gi ((gi g7 0).rows.getD (((gi (gi g6 0).row 2).int).toNat) []) 0).str.size) 9223372036854775807) then (bif ((Nat.beq (gi d 2).rows.length (gi d 2).rows.length) && (decide (((gi d 2).rows.length + 1) ≤ 1048576))) then (bif (inI ((gi d 5).int + 1)) then (bif ((Nat.beq ((gi d 2).rows ++ ([[.s (gi (gi g6 0).row 0).str, .s (((gi (gi g6 0).row 1).str ++ (⟨#[32]⟩ : ByteArray)) ++ (gi ((gi g7 0).rows.getD (((gi (gi g6 0).row 2).int).toNat) []) 0).str)]] : List (List G))).length ((gi d 2).rows ++ ([[.s (gi (gi g6 0).row 0).str, .s (((gi (gi g6 0).row 1).str ++ (⟨#[32]⟩ : ByteArray)) ++ (gi ((gi g7 0).rows.getD (((gi (gi g6 0).row 2).int).toNat) []) 0).str)]] : List (List G))).length) && true) then some (none, [.l (gi d 0).rows, .i (((gi d 1).int.toNat : Nat) : Int), .l ((gi d 2).rows ++ ([[.s (gi (gi g6 0).row 0).str, .s (((gi (gi g6 0).row 1).str ++ (⟨#[32]⟩ : ByteArray)) ++ (gi ((gi g7 0).rows.getD (((gi (gi g6 0).row 2).int).toNat) []) 0).str)]] : List (List G))), .l (gi d 3).rows, .i (gi d 4).int, .i ((gi d 5).int + 1)]) else none) else none) else none) else none) else none)) else none) else (bif (inI ((gi d 5).int + 1)) then (bif ((Nat.beq (gi d 2).rows.length (gi d 2).rows.length) && true) then some (none, [.l (gi d 0).rows, .i (((gi d 1).int.toNat : Nat) : Int), .l (gi d 2).rows, .l (gi d 3).rows, .i (gi d 4).int, .i ((gi d 5).int + 1)]) else none) else none))) else none) else (bif ((Nat.beq (gi d 2).rows.length (gi d 2).rows.length) && true) then some (some 0, [.l (gi d 2).rows]) else none))
def l_club_Owed_16 : LSpec := ⟨16, [(10, [.str, .str])], ⟨80, [(7, .s (.map 0)), (10, .s (.vec 1 2)), (49, .s (.list KCard)), (50, .s (.int .i64)), (51, .s (.int .i64))], [.map (.agg [.str, .str, .int .i64]) (.one (.bool)), .vec [.str, .str] 0]⟩, [.slot 7, .slot 10], [⟨.exit 3, ⟨80, [(10, .s (.vec 0 2))], [.vec [.str, .str] 0]⟩, [.slot 10]⟩], st_club_Owed_16⟩
theorem r_club_Owed_16 : RoundOK P t72 L_club_Owed_6 0 (loopAt Tryz.f23 16) l_club_Owed_16 := fun d => by kernel_rfl
def L_club_Owed_16 : LT := L_club_Owed_6.add 0 l_club_Owed_16
theorem L_club_Owed_16_ok : LoopsOK P 0 L_club_Owed_16 (bodyOf Tryz.f23) := LoopsOK.add hm t72_ok (by kernel_rfl) L_club_Owed_6_ok r_club_Owed_16
def F_club_Owed (d : List G) : Option (List G) :=
  (callF (F_club_cardsFault [.l (gi d 0).rows, .i (gi d 1).int]) fun g1 => (bif ((gi g1 0).int != 0) then some [.l [], .i (gi g1 0).int] else (loopB true (LRun st_club_Owed_6 [.l [], .i 0, .l (gi d 0).rows, .i (gi d 1).int, .l (gi d 0).rows, .i (((gi d 0).rows.length : Nat) : Int), .i 0]) fun cg4 g4 => (callF (F_club_confirmed [.l (gi g4 2).rows, .i (gi g4 3).int]) fun g5 => (loopB true (LRun st_club_Owed_16 [.l (gi g4 0).rows, .i (((gi g4 1).int.toNat : Nat) : Int), .l [], .l (gi g5 0).rows, .i (((gi g5 0).rows.length : Nat) : Int), .i 0]) fun cg8 g8 => (callB (((Nat.beq (gi g8 0).rows.length (gi g8 0).rows.length) && true) && (F_slices_SortFunc_Pair [.l (gi g8 0).rows]).isSome) (F_slices_SortFunc_Pair [.l (gi g8 0).rows]) fun g9 => (bif ((Nat.beq (gi g8 0).rows.length (gi g9 0).rows.length) && true) then some [.l (gi g9 0).rows, .i 0] else none)))))))
def s_club_Owed : FSpec := ⟨23, [.s (.list KCard), .s (.int .i64)], [], [], [.s (.list [.str, .str]), .s (.int .i64)], [], [], [], F_club_Owed⟩
theorem b_club_Owed : BodyOK P t72 L_club_Owed_16 Tryz.f23 s_club_Owed := fun d => by kernel_rfl
theorem c_club_Owed : ∀ d r, F_club_Owed d = some r → ACallX P 23 (s_club_Owed.args0 d) (denH (s_club_Owed.H0 d)) (s_club_Owed.out r) (denH (s_club_Owed.H1 r)) := fun d r h => body_sound hm t72_ok (sp := s_club_Owed) Tryz.func23 (by kernel_rfl) L_club_Owed_16_ok b_club_Owed (by kernel_rfl) h
def t73 : Tab := t72.addP s_club_Owed
theorem t73_ok : TabOK P t73 := t72_ok.addP (by kernel_rfl) (by kernel_rfl) c_club_Owed

/- pileup/pilekeep2.errs -/
def st_pilekeep2_errs_2 (d : List G) : Option (Option Nat × List G) :=
  (bif (ltI (gi d 2).int (gi d 1).int) then (bif ((nnI (gi d 2).int) && (ltI (gi d 2).int (((gi d 0).rows.length : Nat) : Int))) then (bif ((gi ((gi d 0).rows.getD (((gi d 2).int).toNat) []) 0).int != 0) then some (some 0, [.i (gi ((gi d 0).rows.getD (((gi d 2).int).toNat) []) 0).int]) else (bif (inI ((gi d 2).int + 1)) then some (none, [.l (gi d 0).rows, .i (gi d 1).int, .i ((gi d 2).int + 1)]) else none)) else none) else some (some 1, []))
def l_pilekeep2_errs_2 : LSpec := ⟨2, [], ⟨15, [(5, .s (.list [.int .i64])), (6, .s (.int .i64)), (7, .s (.int .i64))], []⟩, [], [⟨.ret, ⟨15, [(2, .s (.int .i64))], []⟩, []⟩, ⟨.exit 0, ⟨15, [], []⟩, []⟩], st_pilekeep2_errs_2⟩
theorem r_pilekeep2_errs_2 : RoundOK P t73 noLoops 0 (loopAt Tryz.f36 2) l_pilekeep2_errs_2 := fun d => by kernel_rfl
def L_pilekeep2_errs_2 : LT := noLoops.add 0 l_pilekeep2_errs_2
theorem L_pilekeep2_errs_2_ok : LoopsOK P 0 L_pilekeep2_errs_2 (bodyOf Tryz.f36) := LoopsOK.add hm t73_ok (by kernel_rfl) (noLoops_ok _ _ _) r_pilekeep2_errs_2
def F_pilekeep2_errs (d : List G) : Option (List G) :=
  (loopB true (LRun st_pilekeep2_errs_2 [.l (gi d 0).rows, .i (((gi d 0).rows.length : Nat) : Int), .i 0]) fun cg1 g1 => (bif Nat.beq cg1 0 then some [.i (gi g1 0).int] else some [.i 0]))
def s_pilekeep2_errs : FSpec := ⟨36, [.s (.list [.int .i64])], [], [], [.s (.int .i64)], [], [], [], F_pilekeep2_errs⟩
theorem b_pilekeep2_errs : BodyOK P t73 L_pilekeep2_errs_2 Tryz.f36 s_pilekeep2_errs := fun d => by kernel_rfl
theorem c_pilekeep2_errs : ∀ d r, F_pilekeep2_errs d = some r → ACallX P 36 (s_pilekeep2_errs.args0 d) (denH (s_pilekeep2_errs.H0 d)) (s_pilekeep2_errs.out r) (denH (s_pilekeep2_errs.H1 r)) := fun d r h => body_sound hm t73_ok (sp := s_pilekeep2_errs) Tryz.func36 (by kernel_rfl) L_pilekeep2_errs_2_ok b_pilekeep2_errs (by kernel_rfl) h
def t74 : Tab := t73.addP s_pilekeep2_errs
theorem t74_ok : TabOK P t74 := t73_ok.addP (by kernel_rfl) (by kernel_rfl) c_pilekeep2_errs

/- slices.Equal[[]pileup/api.Card,pileup/api.Card] -/
def st_slices_Equal_Card_4 (d : List G) : Option (Option Nat × List G) :=
  (bif (ltI (gi d 3).int (gi d 2).int) then (bif ((nnI (gi d 3).int) && (ltI (gi d 3).int (((gi d 0).rows.length : Nat) : Int))) then (bif ((nnI (gi d 3).int) && (ltI (gi d 3).int (((gi d 1).rows.length : Nat) : Int))) then (bif (!(rowEq KCard (gEta KCard ((gi d 0).rows.getD (((gi d 3).int).toNat) [])) (gEta KCard ((gi d 1).rows.getD (((gi d 3).int).toNat) [])))) then some (some 0, [.t false]) else (bif (inI ((gi d 3).int + 1)) then some (none, [.l (gi d 0).rows, .l (gi d 1).rows, .i (gi d 2).int, .i ((gi d 3).int + 1)]) else none)) else none) else none) else some (some 1, []))
def l_slices_Equal_Card_4 : LSpec := ⟨4, [], ⟨26, [(0, .s (.list KCard)), (1, .s (.list KCard)), (12, .s (.int .i64)), (13, .s (.int .i64))], []⟩, [], [⟨.ret, ⟨26, [(4, .s (.bool))], []⟩, []⟩, ⟨.exit 0, ⟨26, [], []⟩, []⟩], st_slices_Equal_Card_4⟩
theorem r_slices_Equal_Card_4 : RoundOK P t74 noLoops 0 (loopAt Tryz.f31 4) l_slices_Equal_Card_4 := fun d => by kernel_rfl
def L_slices_Equal_Card_4 : LT := noLoops.add 0 l_slices_Equal_Card_4
theorem L_slices_Equal_Card_4_ok : LoopsOK P 0 L_slices_Equal_Card_4 (bodyOf Tryz.f31) := LoopsOK.add hm t74_ok (by kernel_rfl) (noLoops_ok _ _ _) r_slices_Equal_Card_4
def F_slices_Equal_Card (d : List G) : Option (List G) :=
  (bif ((((gi d 0).rows.length : Nat) : Int) != (((gi d 1).rows.length : Nat) : Int)) then some [.t false] else (loopB true (LRun st_slices_Equal_Card_4 [.l (gi d 0).rows, .l (gi d 1).rows, .i (((gi d 0).rows.length : Nat) : Int), .i 0]) fun cg1 g1 => (bif Nat.beq cg1 0 then some [.t (gi g1 0).bool] else some [.t true])))
def s_slices_Equal_Card : FSpec := ⟨31, [.s (.list KCard), .s (.list KCard)], [], [], [.s (.bool)], [], [], [], F_slices_Equal_Card⟩
theorem b_slices_Equal_Card : BodyOK P t74 L_slices_Equal_Card_4 Tryz.f31 s_slices_Equal_Card := fun d => by kernel_rfl
theorem c_slices_Equal_Card : ∀ d r, F_slices_Equal_Card d = some r → ACallX P 31 (s_slices_Equal_Card.args0 d) (denH (s_slices_Equal_Card.H0 d)) (s_slices_Equal_Card.out r) (denH (s_slices_Equal_Card.H1 r)) := fun d r h => body_sound hm t74_ok (sp := s_slices_Equal_Card) Tryz.func31 (by kernel_rfl) L_slices_Equal_Card_4_ok b_slices_Equal_Card (by kernel_rfl) h
def t75 : Tab := t74.addP s_slices_Equal_Card
theorem t75_ok : TabOK P t75 := t74_ok.addP (by kernel_rfl) (by kernel_rfl) c_slices_Equal_Card

/- pileup/pileref2.BaseOf -/
def F_pileref2_BaseOf (d : List G) : Option (List G) :=
  (callF (F_pileref1_PartsOf [.s (gi d 0).str]) fun g1 => some [.s (gi (gi g1 0).row 0).str])
def s_pileref2_BaseOf : FSpec := ⟨39, [.s (.str)], [], [], [.s (.str)], [], [], [], F_pileref2_BaseOf⟩
theorem b_pileref2_BaseOf : BodyOK P t75 noLoops Tryz.f39 s_pileref2_BaseOf := fun d => by kernel_rfl
theorem c_pileref2_BaseOf : ∀ d r, F_pileref2_BaseOf d = some r → ACallX P 39 (s_pileref2_BaseOf.args0 d) (denH (s_pileref2_BaseOf.H0 d)) (s_pileref2_BaseOf.out r) (denH (s_pileref2_BaseOf.H1 r)) := fun d r h => body_sound hm t75_ok (sp := s_pileref2_BaseOf) Tryz.func39 (by kernel_rfl) (noLoops_ok _ _ _) b_pileref2_BaseOf (by kernel_rfl) h
def t76 : Tab := t75.addP s_pileref2_BaseOf
theorem t76_ok : TabOK P t76 := t75_ok.addP (by kernel_rfl) (by kernel_rfl) c_pileref2_BaseOf

/- internal/stringslite.HasPrefix -/
def F_stringslite_HasPrefix (d : List G) : Option (List G) :=
  (bif (leI (((gi d 1).str.size : Nat) : Int) (((gi d 0).str.size : Nat) : Int)) then (bif ((nnI (((gi d 1).str.size : Nat) : Int)) && (leI (((gi d 1).str.size : Nat) : Int) (((gi d 0).str.size : Nat) : Int))) then some [.t (((gi d 0).str.extract 0 (gi d 1).str.size).toList == (gi d 1).str.toList)] else none) else some [.t false])
def s_stringslite_HasPrefix : FSpec := ⟨104, [.s (.str), .s (.str)], [], [], [.s (.bool)], [], [], [], F_stringslite_HasPrefix⟩
theorem b_stringslite_HasPrefix : BodyOK P t76 noLoops Tryz.f104 s_stringslite_HasPrefix := fun d => by kernel_rfl
theorem c_stringslite_HasPrefix : ∀ d r, F_stringslite_HasPrefix d = some r → ACallX P 104 (s_stringslite_HasPrefix.args0 d) (denH (s_stringslite_HasPrefix.H0 d)) (s_stringslite_HasPrefix.out r) (denH (s_stringslite_HasPrefix.H1 r)) := fun d r h => body_sound hm t76_ok (sp := s_stringslite_HasPrefix) Tryz.func104 (by kernel_rfl) (noLoops_ok _ _ _) b_stringslite_HasPrefix (by kernel_rfl) h
def t77 : Tab := t76.addP s_stringslite_HasPrefix
theorem t77_ok : TabOK P t77 := t76_ok.addP (by kernel_rfl) (by kernel_rfl) c_stringslite_HasPrefix

/- strings.HasPrefix -/
def F_strings_HasPrefix (d : List G) : Option (List G) :=
  (callF (F_stringslite_HasPrefix [.s (gi d 0).str, .s (gi d 1).str]) fun g1 => some [.t (gi g1 0).bool])
def s_strings_HasPrefix : FSpec := ⟨40, [.s (.str), .s (.str)], [], [], [.s (.bool)], [], [], [], F_strings_HasPrefix⟩
theorem b_strings_HasPrefix : BodyOK P t77 noLoops Tryz.f40 s_strings_HasPrefix := fun d => by kernel_rfl
theorem c_strings_HasPrefix : ∀ d r, F_strings_HasPrefix d = some r → ACallX P 40 (s_strings_HasPrefix.args0 d) (denH (s_strings_HasPrefix.H0 d)) (s_strings_HasPrefix.out r) (denH (s_strings_HasPrefix.H1 r)) := fun d r h => body_sound hm t77_ok (sp := s_strings_HasPrefix) Tryz.func40 (by kernel_rfl) (noLoops_ok _ _ _) b_strings_HasPrefix (by kernel_rfl) h
def t78 : Tab := t77.addP s_strings_HasPrefix
theorem t78_ok : TabOK P t78 := t77_ok.addP (by kernel_rfl) (by kernel_rfl) c_strings_HasPrefix

/- pileup/pilekeep2.CardsAgree$1 -/
def F_pilekeep2_CardsAgree_1 (d : List G) : Option (List G) :=
  (callF (F_pileref2_BaseOf [.s (gi (gi d 0).row 3).str]) fun g1 => (bif ((gi g1 0).str.toList == (gi (gi d 1).row 0).str.toList) then (bif (Nat.ble ((gi (gi d 0).row 4).str.size + 1) 9223372036854775807) then (callF (F_strings_HasPrefix [.s (gi (gi d 1).row 1).str, .s ((gi (gi d 0).row 4).str ++ (⟨#[32]⟩ : ByteArray))]) fun g2 => some [.t (gi g2 0).bool]) else none) else some [.t false]))
def s_pilekeep2_CardsAgree_1 : FSpec := ⟨38, [.s (.row KCard), .s (.cptr [.str, .str])], [], [], [.s (.bool)], [], [], [], F_pilekeep2_CardsAgree_1⟩
theorem b_pilekeep2_CardsAgree_1 : BodyOK P t78 noLoops Tryz.f38 s_pilekeep2_CardsAgree_1 := fun d => by kernel_rfl
theorem c_pilekeep2_CardsAgree_1 : ∀ d r, F_pilekeep2_CardsAgree_1 d = some r → ACallX P 38 (s_pilekeep2_CardsAgree_1.args0 d) (denH (s_pilekeep2_CardsAgree_1.H0 d)) (s_pilekeep2_CardsAgree_1.out r) (denH (s_pilekeep2_CardsAgree_1.H1 r)) := fun d r h => body_sound hm t78_ok (sp := s_pilekeep2_CardsAgree_1) Tryz.func38 (by kernel_rfl) (noLoops_ok _ _ _) b_pilekeep2_CardsAgree_1 (by kernel_rfl) h
def t79 : Tab := t78.addP s_pilekeep2_CardsAgree_1
theorem t79_ok : TabOK P t79 := t78_ok.addP (by kernel_rfl) (by kernel_rfl) c_pilekeep2_CardsAgree_1

/- slices.IndexFunc[[]pileup/api.Card,pileup/api.Card] -/
def st_slices_IndexFunc_Card_2 (d : List G) : Option (Option Nat × List G) :=
  (bif (ltI (gi d 3).int (gi d 2).int) then (bif ((nnI (gi d 3).int) && (ltI (gi d 3).int (((gi d 0).rows.length : Nat) : Int))) then (callF (F_pilekeep2_CardsAgree_1 [.l [(gEta KCard ((gi d 0).rows.getD (((gi d 3).int).toNat) []))], .l [(gEta [.str, .str] (gi d 1).row)]]) fun g1 => (bif (gi g1 0).bool then some (some 0, [.i (gi d 3).int]) else (bif (inI ((gi d 3).int + 1)) then some (none, [.l (gi d 0).rows, .l [(gEta [.str, .str] (gi d 1).row)], .i (gi d 2).int, .i ((gi d 3).int + 1)]) else none))) else none) else some (some 1, []))
def l_slices_IndexFunc_Card_2 : LSpec := ⟨2, [], ⟨19, [(0, .s (.list KCard)), (1, .clo 38 [.cptr [.str, .str]]), (7, .s (.int .i64)), (8, .s (.int .i64))], []⟩, [], [⟨.ret, ⟨19, [(4, .s (.int .i64))], []⟩, []⟩, ⟨.exit 0, ⟨19, [], []⟩, []⟩], st_slices_IndexFunc_Card_2⟩
theorem r_slices_IndexFunc_Card_2 : RoundOK P t79 noLoops 0 (loopAt Tryz.f102 2) l_slices_IndexFunc_Card_2 := fun d => by kernel_rfl
def L_slices_IndexFunc_Card_2 : LT := noLoops.add 0 l_slices_IndexFunc_Card_2
theorem L_slices_IndexFunc_Card_2_ok : LoopsOK P 0 L_slices_IndexFunc_Card_2 (bodyOf Tryz.f102) := LoopsOK.add hm t79_ok (by kernel_rfl) (noLoops_ok _ _ _) r_slices_IndexFunc_Card_2
def F_slices_IndexFunc_Card (d : List G) : Option (List G) :=
  (loopB true (LRun st_slices_IndexFunc_Card_2 [.l (gi d 0).rows, .l [(gEta [.str, .str] (gi d 1).row)], .i (((gi d 0).rows.length : Nat) : Int), .i 0]) fun cg2 g2 => (bif Nat.beq cg2 0 then some [.i (gi g2 0).int] else some [.i (-1)]))
def s_slices_IndexFunc_Card : FSpec := ⟨102, [.s (.list KCard), .clo 38 [.cptr [.str, .str]]], [], [], [.s (.int .i64)], [], [], [], F_slices_IndexFunc_Card⟩
theorem b_slices_IndexFunc_Card : BodyOK P t79 L_slices_IndexFunc_Card_2 Tryz.f102 s_slices_IndexFunc_Card := fun d => by kernel_rfl
theorem c_slices_IndexFunc_Card : ∀ d r, F_slices_IndexFunc_Card d = some r → ACallX P 102 (s_slices_IndexFunc_Card.args0 d) (denH (s_slices_IndexFunc_Card.H0 d)) (s_slices_IndexFunc_Card.out r) (denH (s_slices_IndexFunc_Card.H1 r)) := fun d r h => body_sound hm t79_ok (sp := s_slices_IndexFunc_Card) Tryz.func102 (by kernel_rfl) L_slices_IndexFunc_Card_2_ok b_slices_IndexFunc_Card (by kernel_rfl) h
def t80 : Tab := t79.addP s_slices_IndexFunc_Card
theorem t80_ok : TabOK P t80 := t79_ok.addP (by kernel_rfl) (by kernel_rfl) c_slices_IndexFunc_Card

/- slices.ContainsFunc[[]pileup/api.Card,pileup/api.Card] -/
def F_slices_ContainsFunc_Card (d : List G) : Option (List G) :=
  (callF (F_slices_IndexFunc_Card [.l (gi d 0).rows, .l [(gEta [.str, .str] (gi d 1).row)]]) fun g1 => some [.t (leI 0 (gi g1 0).int)])
def s_slices_ContainsFunc_Card : FSpec := ⟨37, [.s (.list KCard), .clo 38 [.cptr [.str, .str]]], [], [], [.s (.bool)], [], [], [], F_slices_ContainsFunc_Card⟩
theorem b_slices_ContainsFunc_Card : BodyOK P t80 noLoops Tryz.f37 s_slices_ContainsFunc_Card := fun d => by kernel_rfl
theorem c_slices_ContainsFunc_Card : ∀ d r, F_slices_ContainsFunc_Card d = some r → ACallX P 37 (s_slices_ContainsFunc_Card.args0 d) (denH (s_slices_ContainsFunc_Card.H0 d)) (s_slices_ContainsFunc_Card.out r) (denH (s_slices_ContainsFunc_Card.H1 r)) := fun d r h => body_sound hm t80_ok (sp := s_slices_ContainsFunc_Card) Tryz.func37 (by kernel_rfl) (noLoops_ok _ _ _) b_slices_ContainsFunc_Card (by kernel_rfl) h
def t81 : Tab := t80.addP s_slices_ContainsFunc_Card
theorem t81_ok : TabOK P t81 := t80_ok.addP (by kernel_rfl) (by kernel_rfl) c_slices_ContainsFunc_Card

/- pileup/pilekeep2.CardsAgree -/
def st_pilekeep2_CardsAgree_12 (d : List G) : Option (Option Nat × List G) :=
  (bif (ltI (gi d 3).int (gi d 2).int) then (bif ((nnI (gi d 3).int) && (ltI (gi d 3).int (((gi d 1).rows.length : Nat) : Int))) then (callF (F_slices_ContainsFunc_Card [.l (gi d 0).rows, .l [(gEta [.str, .str] ((gi d 1).rows.getD (((gi d 3).int).toNat) []))]]) fun g15 => (bif (!(gi g15 0).bool) then some (some 0, [.t false]) else (bif (inI ((gi d 3).int + 1)) then some (none, [.l (gi d 0).rows, .l (gi d 1).rows, .i (gi d 2).int, .i ((gi d 3).int + 1)]) else none))) else none) else some (some 1, []))
def l_pilekeep2_CardsAgree_12 : LSpec := ⟨12, [], ⟨123, [(12, .s (.list KCard)), (111, .s (.list [.str, .str])), (112, .s (.int .i64)), (113, .s (.int .i64))], []⟩, [], [⟨.ret, ⟨123, [(2, .s (.bool))], []⟩, []⟩, ⟨.exit 0, ⟨123, [], []⟩, []⟩], st_pilekeep2_CardsAgree_12⟩
theorem r_pilekeep2_CardsAgree_12 : RoundOK P (t81.lessPf [37]) noLoops 0 (loopAt Tryz.f5 12) l_pilekeep2_CardsAgree_12 := fun d => by kernel_rfl
def L_pilekeep2_CardsAgree_12 : LT := noLoops.add 0 l_pilekeep2_CardsAgree_12
theorem L_pilekeep2_CardsAgree_12_ok : LoopsOK P 0 L_pilekeep2_CardsAgree_12 (bodyOf Tryz.f5) := LoopsOK.add hm (t81_ok.lessPf [37]) (by kernel_rfl) (noLoops_ok _ _ _) r_pilekeep2_CardsAgree_12
def F_pilekeep2_CardsAgree (d : List G) : Option (List G) :=
  (callF (F_pilemake_Stream_Range [.l (gi d 0).rows, .i 0, .i 0, .i 14]) fun g1 => (callF (F_pilemake_Stream_RightCards [.l (gi g1 0).rows, .i (gi g1 1).int, .i (gi g1 2).int]) fun g2 => (callF (F_pilemake_Stream_Range [.l (gi g2 0).rows, .i (gi g2 1).int, .i 0, .i 100]) fun g3 => (callF (F_pilekeep2_parts_Card [.l (gi g3 0).rows, .i (gi g3 1).int, .l (gi g2 2).rows]) fun g4 => (callF (F_club_MergeCards [.l (gi g4 2).rows, .l (gi g4 3).rows]) fun g5 => (callF (F_club_MergeCards [.l (gi g4 3).rows, .l (gi g4 2).rows]) fun g6 => (callF (F_club_Confirmed [.l (gi g2 2).rows, .i (gi g3 2).int]) fun g7 => (callF (F_pilemake_Stream_Range [.l (gi g4 0).rows, .i (gi g4 1).int, .i 0, .i 50]) fun g8 => (bif (inI ((gi g3 2).int + (gi g8 2).int)) then (callF (F_club_Confirmed [.l (gi g2 2).rows, .i ((gi g3 2).int + (gi g8 2).int)]) fun g9 => (callF (F_club_Owed [.l (gi g2 2).rows, .i (gi g3 2).int]) fun g10 => (callF (F_pilekeep2_errs [.l [[.i (gi g5 1).int], [.i (gi g6 1).int], [.i (gi g7 1).int], [.i (gi g9 1).int], [.i (gi g10 1).int]]]) fun g11 => (bif ((gi g11 0).int != 0) then some [.t false] else (callF (F_slices_Equal_Card [.l (gi g5 0).rows, .l (gi g2 2).rows]) fun g12 => (bif (!(gi g12 0).bool) then some [.t false] else (callF (F_slices_Equal_Card [.l (gi g6 0).rows, .l (gi g2 2).rows]) fun g13 => (bif (!(gi g13 0).bool) then some [.t false] else (bif (ltI (((gi g9 0).rows.length : Nat) : Int) (((gi g7 0).rows.length : Nat) : Int)) then some [.t false] else (bif ((nnI (((gi g7 0).rows.length : Nat) : Int)) && (leI (((gi g7 0).rows.length : Nat) : Int) (((gi g9 0).rows.length : Nat) : Int))) then (callF (F_slices_Equal_Card [.l (gi g7 0).rows, .l ((gi g9 0).rows.take ((gi g7 0).rows.length))]) fun g14 => (bif (!(gi g14 0).bool) then some [.t false] else (bif (ltI (((gi g7 0).rows.length : Nat) : Int) (((gi g10 0).rows.length : Nat) : Int)) then some [.t false] else (loopB true (LRun st_pilekeep2_CardsAgree_12 [.l (gi g7 0).rows, .l (gi g10 0).rows, .i (((gi g10 0).rows.length : Nat) : Int), .i 0]) fun cg16 g16 => (bif Nat.beq cg16 0 then some [.t (gi g16 0).bool] else (callF (F_pilekeep2_ready []) fun g17 => some [.t (gi g17 0).bool])))))) else none)))))))))) else none)))))))))
def s_pilekeep2_CardsAgree : FSpec := ⟨5, [.s (.list [.int .i64])], [], [], [.s (.bool)], [], [], [], F_pilekeep2_CardsAgree⟩
theorem b_pilekeep2_CardsAgree : BodyOK P (t81.lessPf [37]) L_pilekeep2_CardsAgree_12 Tryz.f5 s_pilekeep2_CardsAgree := fun d => by kernel_rfl
theorem c_pilekeep2_CardsAgree : ∀ d r, F_pilekeep2_CardsAgree d = some r → ACallX P 5 (s_pilekeep2_CardsAgree.args0 d) (denH (s_pilekeep2_CardsAgree.H0 d)) (s_pilekeep2_CardsAgree.out r) (denH (s_pilekeep2_CardsAgree.H1 r)) := fun d r h => body_sound hm (t81_ok.lessPf [37]) (sp := s_pilekeep2_CardsAgree) Tryz.func5 (by kernel_rfl) L_pilekeep2_CardsAgree_12_ok b_pilekeep2_CardsAgree (by kernel_rfl) h
def t82 : Tab := t81.addP s_pilekeep2_CardsAgree
theorem t82_ok : TabOK P t82 := t81_ok.addP (by kernel_rfl) (by kernel_rfl) c_pilekeep2_CardsAgree

end
end Go.Proofs.SYthnhleemkjpigaaGreatDoor
