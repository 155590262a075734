/-
  What is proved here: functions of the program as functions on data. No condition.
-/
import Derived.Test.YteljhjdcaaebcaaGreatDoorML2
set_option linter.unusedSimpArgs false
set_option linter.unusedVariables false
set_option linter.unusedSectionVars false
namespace Go.Proofs.SYteljhjdcaaebcaaGreatDoor
open Go Go.AL Go.Proofs
noncomputable section
/- pileup/pileref2.only -/
def st_pileref2_only_2 (d : List G) : Option (Option Nat × List G) :=
  (bif (ltI (gi d 3).int (gi d 2).int) then (bif ((nnI (gi d 3).int) && (ltI (gi d 3).int (((gi d 0).str.size : Nat) : Int))) then (callF (F_strings_IndexByte [.s (gi d 1).str, .i (((gi d 0).str.data.toList.getD (((gi d 3).int).toNat) 0).toNat : Int)]) fun g1 => (bif (ltI (gi g1 0).int 0) then some (some 0, [.t false]) else (bif (inI ((gi d 3).int + 1)) then some (none, [.s (gi d 0).str, .s (gi d 1).str, .i (gi d 2).int, .i ((gi d 3).int + 1)]) else none))) else none) else some (some 1, []))
def l_pileref2_only_2 : LSpec := ⟨2, [], ⟨18, [(0, .s (.str)), (1, .s (.str)), (7, .s (.int .i64)), (8, .s (.int .i64))], []⟩, [], [⟨.ret, ⟨18, [(4, .s (.bool))], []⟩, []⟩, ⟨.exit 0, ⟨18, [], []⟩, []⟩], st_pileref2_only_2⟩
theorem r_pileref2_only_2 : RoundOK P t45 noLoops 0 (loopAt Tryz.f79 2) l_pileref2_only_2 := fun d => by kernel_rfl
def L_pileref2_only_2 : LT := noLoops.add 0 l_pileref2_only_2
theorem L_pileref2_only_2_ok : LoopsOK P 0 L_pileref2_only_2 (bodyOf Tryz.f79) := LoopsOK.add hm t45_ok (by kernel_rfl) (noLoops_ok _ _ _) r_pileref2_only_2
def F_pileref2_only (d : List G) : Option (List G) :=
  (loopB true (LRun st_pileref2_only_2 [.s (gi d 0).str, .s (gi d 1).str, .i (((gi d 0).str.size : Nat) : Int), .i 0]) fun cg2 g2 => (bif Nat.beq cg2 0 then some [.t (gi g2 0).bool] else some [.t true]))
def s_pileref2_only : FSpec := ⟨79, [.s (.str), .s (.str)], [], [], [.s (.bool)], [], [], [], F_pileref2_only⟩
theorem b_pileref2_only : BodyOK P t45 L_pileref2_only_2 Tryz.f79 s_pileref2_only := fun d => by kernel_rfl
theorem c_pileref2_only : ∀ d r, F_pileref2_only d = some r → ACallX P 79 (s_pileref2_only.args0 d) (denH (s_pileref2_only.H0 d)) (s_pileref2_only.out r) (denH (s_pileref2_only.H1 r)) := fun d r h => body_sound hm t45_ok (sp := s_pileref2_only) Tryz.func79 (by kernel_rfl) L_pileref2_only_2_ok b_pileref2_only (by kernel_rfl) h
def t46 : Tab := t45.addP s_pileref2_only
theorem t46_ok : TabOK P t46 := t45_ok.addP (by kernel_rfl) (by kernel_rfl) c_pileref2_only

/- pileup/pileref2.Key -/
def F_pileref2_Key (d : List G) : Option (List G) :=
  (callF (F_pileref2_in [.i (((gi d 0).str.size : Nat) : Int), .i 1, .i 40]) fun g1 => (bif (gi g1 0).bool then (bif (leI 1 (((gi d 0).str.size : Nat) : Int)) then (callF (F_pileref2_only [.s ((gi d 0).str.extract 0 1), .s (⟨#[97, 98, 99, 100, 101, 102, 103, 104, 105, 106, 107, 108, 109, 110, 111, 112, 113, 114, 115, 116, 117, 118, 119, 120, 121, 122]⟩ : ByteArray)]) fun g2 => (bif (gi g2 0).bool then (callF (F_pileref2_only [.s (gi d 0).str, .s (⟨#[97, 98, 99, 100, 101, 102, 103, 104, 105, 106, 107, 108, 109, 110, 111, 112, 113, 114, 115, 116, 117, 118, 119, 120, 121, 122, 48, 49, 50, 51, 52, 53, 54, 55, 56, 57, 45, 95]⟩ : ByteArray)]) fun g3 => some [.t (gi g3 0).bool]) else some [.t false])) else none) else some [.t false]))
def s_pileref2_Key : FSpec := ⟨52, [.s (.str)], [], [], [.s (.bool)], [], [], [], F_pileref2_Key⟩
theorem b_pileref2_Key : BodyOK P t46 noLoops Tryz.f52 s_pileref2_Key := fun d => by kernel_rfl
theorem c_pileref2_Key : ∀ d r, F_pileref2_Key d = some r → ACallX P 52 (s_pileref2_Key.args0 d) (denH (s_pileref2_Key.H0 d)) (s_pileref2_Key.out r) (denH (s_pileref2_Key.H1 r)) := fun d r h => body_sound hm t46_ok (sp := s_pileref2_Key) Tryz.func52 (by kernel_rfl) (noLoops_ok _ _ _) b_pileref2_Key (by kernel_rfl) h
def t47 : Tab := t46.addP s_pileref2_Key
theorem t47_ok : TabOK P t47 := t46_ok.addP (by kernel_rfl) (by kernel_rfl) c_pileref2_Key

/- slices.Index[[]int,int] -/
def st_slices_Index_int_2 (d : List G) : Option (Option Nat × List G) :=
  (bif (ltI (gi d 3).int (gi d 2).int) then (bif ((nnI (gi d 3).int) && (ltI (gi d 3).int (((gi d 0).rows.length : Nat) : Int))) then (bif ((gi d 1).int == (gi ((gi d 0).rows.getD (((gi d 3).int).toNat) []) 0).int) then some (some 0, [.i (gi d 3).int]) else (bif (inI ((gi d 3).int + 1)) then some (none, [.l (gi d 0).rows, .i (gi d 1).int, .i (gi d 2).int, .i ((gi d 3).int + 1)]) else none)) else none) else some (some 1, []))
def l_slices_Index_int_2 : LSpec := ⟨2, [], ⟨19, [(0, .s (.list [.int .i64])), (1, .s (.int .i64)), (7, .s (.int .i64)), (8, .s (.int .i64))], []⟩, [], [⟨.ret, ⟨19, [(4, .s (.int .i64))], []⟩, []⟩, ⟨.exit 0, ⟨19, [], []⟩, []⟩], st_slices_Index_int_2⟩
theorem r_slices_Index_int_2 : RoundOK P t47 noLoops 0 (loopAt Tryz.f115 2) l_slices_Index_int_2 := fun d => by kernel_rfl
def L_slices_Index_int_2 : LT := noLoops.add 0 l_slices_Index_int_2
theorem L_slices_Index_int_2_ok : LoopsOK P 0 L_slices_Index_int_2 (bodyOf Tryz.f115) := LoopsOK.add hm t47_ok (by kernel_rfl) (noLoops_ok _ _ _) r_slices_Index_int_2
def F_slices_Index_int (d : List G) : Option (List G) :=
  (loopB true (LRun st_slices_Index_int_2 [.l (gi d 0).rows, .i (gi d 1).int, .i (((gi d 0).rows.length : Nat) : Int), .i 0]) fun cg1 g1 => (bif Nat.beq cg1 0 then some [.i (gi g1 0).int] else some [.i (-1)]))
def s_slices_Index_int : FSpec := ⟨115, [.s (.list [.int .i64]), .s (.int .i64)], [], [], [.s (.int .i64)], [], [], [], F_slices_Index_int⟩
theorem b_slices_Index_int : BodyOK P t47 L_slices_Index_int_2 Tryz.f115 s_slices_Index_int := fun d => by kernel_rfl
theorem c_slices_Index_int : ∀ d r, F_slices_Index_int d = some r → ACallX P 115 (s_slices_Index_int.args0 d) (denH (s_slices_Index_int.H0 d)) (s_slices_Index_int.out r) (denH (s_slices_Index_int.H1 r)) := fun d r h => body_sound hm t47_ok (sp := s_slices_Index_int) Tryz.func115 (by kernel_rfl) L_slices_Index_int_2_ok b_slices_Index_int (by kernel_rfl) h
def t48 : Tab := t47.addP s_slices_Index_int
theorem t48_ok : TabOK P t48 := t47_ok.addP (by kernel_rfl) (by kernel_rfl) c_slices_Index_int

/- slices.Contains[[]int,int] -/
def F_slices_Contains_int (d : List G) : Option (List G) :=
  (callF (F_slices_Index_int [.l (gi d 0).rows, .i (gi d 1).int]) fun g1 => some [.t (leI 0 (gi g1 0).int)])
def s_slices_Contains_int : FSpec := ⟨80, [.s (.list [.int .i64]), .s (.int .i64)], [], [], [.s (.bool)], [], [], [], F_slices_Contains_int⟩
theorem b_slices_Contains_int : BodyOK P t48 noLoops Tryz.f80 s_slices_Contains_int := fun d => by kernel_rfl
theorem c_slices_Contains_int : ∀ d r, F_slices_Contains_int d = some r → ACallX P 80 (s_slices_Contains_int.args0 d) (denH (s_slices_Contains_int.H0 d)) (s_slices_Contains_int.out r) (denH (s_slices_Contains_int.H1 r)) := fun d r h => body_sound hm t48_ok (sp := s_slices_Contains_int) Tryz.func80 (by kernel_rfl) (noLoops_ok _ _ _) b_slices_Contains_int (by kernel_rfl) h
def t49 : Tab := t48.addP s_slices_Contains_int
theorem t49_ok : TabOK P t49 := t48_ok.addP (by kernel_rfl) (by kernel_rfl) c_slices_Contains_int

/- pileup/pileref2.Square -/
def st_pileref2_Square_5 (d : List G) : Option (Option Nat × List G) :=
  (bif (ltI (gi d 3).int (gi d 2).int) then (bif (inI ((gi d 3).int + 1)) then (bif ((nnI (gi d 3).int) && ((leI (gi d 3).int ((gi d 3).int + 1)) && (leI ((gi d 3).int + 1) (((gi d 0).str.size : Nat) : Int)))) then (bif ((nnI (gi d 3).int) && (ltI (gi d 3).int (((gi d 1).rows.length : Nat) : Int))) then (callF (F_pileref2_only [.s ((gi d 0).str.extract ((gi d 3).int).toNat ((gi d 3).int + 1).toNat), .s (gi ((gi d 1).rows.getD (((gi d 3).int).toNat) []) 0).str]) fun g2 => (bif (!(gi g2 0).bool) then some (some 0, [.t false]) else (bif (inI ((gi d 3).int + 1)) then some (none, [.s (gi d 0).str, .l (gi d 1).rows, .i (gi d 2).int, .i ((gi d 3).int + 1)]) else none))) else none) else none) else none) else some (some 1, []))
def l_pileref2_Square_5 : LSpec := ⟨5, [], ⟨32, [(0, .s (.str)), (3, .s (.list [.str])), (16, .s (.int .i64)), (17, .s (.int .i64))], []⟩, [], [⟨.ret, ⟨32, [(2, .s (.bool))], []⟩, []⟩, ⟨.exit 0, ⟨32, [], []⟩, []⟩], st_pileref2_Square_5⟩
theorem r_pileref2_Square_5 : RoundOK P t49 noLoops 0 (loopAt Tryz.f53 5) l_pileref2_Square_5 := fun d => by kernel_rfl
def L_pileref2_Square_5 : LT := noLoops.add 0 l_pileref2_Square_5
theorem L_pileref2_Square_5_ok : LoopsOK P 0 L_pileref2_Square_5 (bodyOf Tryz.f53) := LoopsOK.add hm t49_ok (by kernel_rfl) (noLoops_ok _ _ _) r_pileref2_Square_5
def F_pileref2_Square (d : List G) : Option (List G) :=
  (callF (F_slices_Contains_int [.l [[.i 2], [.i 4], [.i 6]], .i (((gi d 0).str.size : Nat) : Int)]) fun g1 => (bif (!(gi g1 0).bool) then some [.t false] else (loopB true (LRun st_pileref2_Square_5 [.s (gi d 0).str, .l [[.s (⟨#[97, 98, 99, 100, 101, 102, 103, 104, 105, 106, 107, 108, 109, 110, 111, 112, 113, 114]⟩ : ByteArray)], [.s (⟨#[97, 98, 99, 100, 101, 102, 103, 104, 105, 106, 107, 108, 109, 110, 111, 112, 113, 114]⟩ : ByteArray)], [.s (⟨#[48, 49, 50, 51, 52, 53, 54, 55, 56, 57]⟩ : ByteArray)], [.s (⟨#[48, 49, 50, 51, 52, 53, 54, 55, 56, 57]⟩ : ByteArray)], [.s (⟨#[97, 98, 99, 100, 101, 102, 103, 104, 105, 106, 107, 108, 109, 110, 111, 112, 113, 114, 115, 116, 117, 118, 119, 120]⟩ : ByteArray)], [.s (⟨#[97, 98, 99, 100, 101, 102, 103, 104, 105, 106, 107, 108, 109, 110, 111, 112, 113, 114, 115, 116, 117, 118, 119, 120]⟩ : ByteArray)]], .i (((gi d 0).str.size : Nat) : Int), .i 0]) fun cg3 g3 => (bif Nat.beq cg3 0 then some [.t (gi g3 0).bool] else some [.t true]))))
def s_pileref2_Square : FSpec := ⟨53, [.s (.str)], [], [], [.s (.bool)], [], [], [], F_pileref2_Square⟩
theorem b_pileref2_Square : BodyOK P t49 L_pileref2_Square_5 Tryz.f53 s_pileref2_Square := fun d => by kernel_rfl
theorem c_pileref2_Square : ∀ d r, F_pileref2_Square d = some r → ACallX P 53 (s_pileref2_Square.args0 d) (denH (s_pileref2_Square.H0 d)) (s_pileref2_Square.out r) (denH (s_pileref2_Square.H1 r)) := fun d r h => body_sound hm t49_ok (sp := s_pileref2_Square) Tryz.func53 (by kernel_rfl) L_pileref2_Square_5_ok b_pileref2_Square (by kernel_rfl) h
def t50 : Tab := t49.addP s_pileref2_Square
theorem t50_ok : TabOK P t50 := t49_ok.addP (by kernel_rfl) (by kernel_rfl) c_pileref2_Square

/- pileup/pileref2.ClubsFault -/
def st_pileref2_ClubsFault_15 (d : List G) : Option (Option Nat × List G) :=
  (bif (ltI (gi d 8).int (gi d 7).int) then (bif ((nnI (gi d 8).int) && (ltI (gi d 8).int (((gi d 6).rows.length : Nat) : Int))) then (callF (F_pileref2_Square [.s (gi ((gi d 6).rows.getD (((gi d 8).int).toNat) []) 0).str]) fun g2 => (bif (!(gi g2 0).bool) then some (some 0, [.i 3]) else (bif (ltI 0 (gi d 8).int) then (bif (inI ((gi d 8).int - 1)) then (bif ((nnI ((gi d 8).int - 1)) && (ltI ((gi d 8).int - 1) (((gi d 1).rows.length : Nat) : Int))) then (bif ((Op.bytesLess (gi ((gi d 6).rows.getD (((gi d 8).int).toNat) []) 0).str.toList (gi ((gi d 1).rows.getD (((gi d 8).int - 1).toNat) []) 0).str.toList) || ((gi ((gi d 6).rows.getD (((gi d 8).int).toNat) []) 0).str.toList == (gi ((gi d 1).rows.getD (((gi d 8).int - 1).toNat) []) 0).str.toList)) then some (some 0, [.i 7]) else (bif (inI ((gi d 8).int + 1)) then some (none, [.s (gi d 0).str, .l (gi d 1).rows, .s (gi d 2).str, .l (gi d 3).rows, .i (gi d 4).int, .i (gi d 5).int, .l (gi d 6).rows, .i (gi d 7).int, .i ((gi d 8).int + 1)]) else none)) else none) else none) else (bif (inI ((gi d 8).int + 1)) then some (none, [.s (gi d 0).str, .l (gi d 1).rows, .s (gi d 2).str, .l (gi d 3).rows, .i (gi d 4).int, .i (gi d 5).int, .l (gi d 6).rows, .i (gi d 7).int, .i ((gi d 8).int + 1)]) else none)))) else none) else some (some 1, [.s (gi d 2).str, .l (gi d 3).rows, .i (gi d 4).int, .i (gi d 5).int]))
def l_pileref2_ClubsFault_15 : LSpec := ⟨15, [], ⟨59, [(3, .s (.str)), (5, .s (.ptr 0 0)), (11, .s (.list [.str, .list [.str]])), (12, .s (.int .i64)), (13, .s (.int .i64)), (35, .s (.list [.str])), (36, .s (.int .i64)), (37, .s (.int .i64))], [.box [.str, .list [.str]]]⟩, [.slot 5], [⟨.ret, ⟨59, [(2, .s (.int .i64))], []⟩, []⟩, ⟨.exit 3, ⟨59, [(3, .s (.str)), (11, .s (.list [.str, .list [.str]])), (12, .s (.int .i64)), (13, .s (.int .i64))], []⟩, []⟩], st_pileref2_ClubsFault_15⟩
theorem r_pileref2_ClubsFault_15 : RoundOK P t50 noLoops 0 (loopAt Tryz.f24 15) l_pileref2_ClubsFault_15 := fun d => by kernel_rfl
def L_pileref2_ClubsFault_15 : LT := noLoops.add 0 l_pileref2_ClubsFault_15
theorem L_pileref2_ClubsFault_15_ok : LoopsOK P 0 L_pileref2_ClubsFault_15 (bodyOf Tryz.f24) := LoopsOK.add hm t50_ok (by kernel_rfl) (noLoops_ok _ _ _) r_pileref2_ClubsFault_15
def st_pileref2_ClubsFault_5 (d : List G) : Option (Option Nat × List G) :=
  (bif (ltI (gi d 3).int (gi d 2).int) then (bif ((nnI (gi d 3).int) && (ltI (gi d 3).int (((gi d 1).rows.length : Nat) : Int))) then (callF (F_pileref2_Key [.s (gi ((gi d 1).rows.getD (((gi d 3).int).toNat) []) 0).str]) fun g1 => (bif (!(gi g1 0).bool) then some (some 0, [.i 5]) else (bif ((Op.bytesLess (gi ((gi d 1).rows.getD (((gi d 3).int).toNat) []) 0).str.toList (gi d 0).str.toList) || ((gi ((gi d 1).rows.getD (((gi d 3).int).toNat) []) 0).str.toList == (gi d 0).str.toList)) then some (some 0, [.i 7]) else (bif (ltI 100 (((gi ((gi d 1).rows.getD (((gi d 3).int).toNat) []) 1).rows.length : Nat) : Int)) then some (some 0, [.i 2]) else (loopB true (LRun st_pileref2_ClubsFault_15 [.s (gi ((gi d 1).rows.getD (((gi d 3).int).toNat) []) 0).str, .l (gi ((gi d 1).rows.getD (((gi d 3).int).toNat) []) 1).rows, .s (gi ((gi d 1).rows.getD (((gi d 3).int).toNat) []) 0).str, .l (gi d 1).rows, .i (gi d 2).int, .i (gi d 3).int, .l (gi ((gi d 1).rows.getD (((gi d 3).int).toNat) []) 1).rows, .i (((gi ((gi d 1).rows.getD (((gi d 3).int).toNat) []) 1).rows.length : Nat) : Int), .i 0]) fun cg3 g3 => (bif Nat.beq cg3 0 then some (some 0, [.i (gi g3 0).int]) else (bif (inI ((gi g3 3).int + 1)) then some (none, [.s (gi g3 0).str, .l (gi g3 1).rows, .i (gi g3 2).int, .i ((gi g3 3).int + 1)]) else none))))))) else none) else some (some 1, []))
def l_pileref2_ClubsFault_5 : LSpec := ⟨5, [], ⟨59, [(3, .s (.str)), (11, .s (.list [.str, .list [.str]])), (12, .s (.int .i64)), (13, .s (.int .i64))], []⟩, [], [⟨.ret, ⟨59, [(2, .s (.int .i64))], []⟩, []⟩, ⟨.exit 0, ⟨59, [], []⟩, []⟩], st_pileref2_ClubsFault_5⟩
theorem r_pileref2_ClubsFault_5 : RoundOK P t50 L_pileref2_ClubsFault_15 0 (loopAt Tryz.f24 5) l_pileref2_ClubsFault_5 := fun d => by kernel_rfl
def L_pileref2_ClubsFault_5 : LT := L_pileref2_ClubsFault_15.add 0 l_pileref2_ClubsFault_5
theorem L_pileref2_ClubsFault_5_ok : LoopsOK P 0 L_pileref2_ClubsFault_5 (bodyOf Tryz.f24) := LoopsOK.add hm t50_ok (by kernel_rfl) L_pileref2_ClubsFault_15_ok r_pileref2_ClubsFault_5
def F_pileref2_ClubsFault (d : List G) : Option (List G) :=
  (bif (ltI 200 (((gi d 0).rows.length : Nat) : Int)) then some [.i 2] else (loopB true (LRun st_pileref2_ClubsFault_5 [.s (⟨#[]⟩ : ByteArray), .l (gi d 0).rows, .i (((gi d 0).rows.length : Nat) : Int), .i 0]) fun cg4 g4 => (bif Nat.beq cg4 0 then some [.i (gi g4 0).int] else some [.i 0])))
def s_pileref2_ClubsFault : FSpec := ⟨24, [.s (.list [.str, .list [.str]])], [], [], [.s (.int .i64)], [], [], [], F_pileref2_ClubsFault⟩
theorem b_pileref2_ClubsFault : BodyOK P t50 L_pileref2_ClubsFault_5 Tryz.f24 s_pileref2_ClubsFault := fun d => by kernel_rfl
theorem c_pileref2_ClubsFault : ∀ d r, F_pileref2_ClubsFault d = some r → ACallX P 24 (s_pileref2_ClubsFault.args0 d) (denH (s_pileref2_ClubsFault.H0 d)) (s_pileref2_ClubsFault.out r) (denH (s_pileref2_ClubsFault.H1 r)) := fun d r h => body_sound hm t50_ok (sp := s_pileref2_ClubsFault) Tryz.func24 (by kernel_rfl) L_pileref2_ClubsFault_5_ok b_pileref2_ClubsFault (by kernel_rfl) h
def t51 : Tab := t50.addP s_pileref2_ClubsFault
theorem t51_ok : TabOK P t51 := t50_ok.addP (by kernel_rfl) (by kernel_rfl) c_pileref2_ClubsFault

/- pileup/pileref2.Call -/
def F_pileref2_Call (d : List G) : Option (List G) :=
  (callF (F_pileref1_PartsOf [.s (gi d 0).str]) fun g1 => some [.t (gi g1 1).bool])
def s_pileref2_Call : FSpec := ⟨25, [.s (.str)], [], [], [.s (.bool)], [], [], [], F_pileref2_Call⟩
theorem b_pileref2_Call : BodyOK P t51 noLoops Tryz.f25 s_pileref2_Call := fun d => by kernel_rfl
theorem c_pileref2_Call : ∀ d r, F_pileref2_Call d = some r → ACallX P 25 (s_pileref2_Call.args0 d) (denH (s_pileref2_Call.H0 d)) (s_pileref2_Call.out r) (denH (s_pileref2_Call.H1 r)) := fun d r h => body_sound hm t51_ok (sp := s_pileref2_Call) Tryz.func25 (by kernel_rfl) (noLoops_ok _ _ _) b_pileref2_Call (by kernel_rfl) h
def t52 : Tab := t51.addP s_pileref2_Call
theorem t52_ok : TabOK P t52 := t51_ok.addP (by kernel_rfl) (by kernel_rfl) c_pileref2_Call

/- pileup/pileref2.BaseOf -/
def F_pileref2_BaseOf (d : List G) : Option (List G) :=
  (callF (F_pileref1_PartsOf [.s (gi d 0).str]) fun g1 => some [.s (gi (gi g1 0).row 0).str])
def s_pileref2_BaseOf : FSpec := ⟨26, [.s (.str)], [], [], [.s (.str)], [], [], [], F_pileref2_BaseOf⟩
theorem b_pileref2_BaseOf : BodyOK P t52 noLoops Tryz.f26 s_pileref2_BaseOf := fun d => by kernel_rfl
theorem c_pileref2_BaseOf : ∀ d r, F_pileref2_BaseOf d = some r → ACallX P 26 (s_pileref2_BaseOf.args0 d) (denH (s_pileref2_BaseOf.H0 d)) (s_pileref2_BaseOf.out r) (denH (s_pileref2_BaseOf.H1 r)) := fun d r h => body_sound hm t52_ok (sp := s_pileref2_BaseOf) Tryz.func26 (by kernel_rfl) (noLoops_ok _ _ _) b_pileref2_BaseOf (by kernel_rfl) h
def t53 : Tab := t52.addP s_pileref2_BaseOf
theorem t53_ok : TabOK P t53 := t52_ok.addP (by kernel_rfl) (by kernel_rfl) c_pileref2_BaseOf

/- pileup/pileref2.MembersFault$1 -/
def F_pileref2_MembersFault_1 (d : List G) : Option (List G) :=
  some [.t ((gi (gi d 0).row 0).str.toList == (gi (gi d 1).row 1).str.toList)]
def s_pileref2_MembersFault_1 : FSpec := ⟨28, [.s (.row [.str, .list [.str]]), .s (.cptr KMember)], [], [], [.s (.bool)], [], [], [], F_pileref2_MembersFault_1⟩
theorem b_pileref2_MembersFault_1 : BodyOK P t53 noLoops Tryz.f28 s_pileref2_MembersFault_1 := fun d => by kernel_rfl
theorem c_pileref2_MembersFault_1 : ∀ d r, F_pileref2_MembersFault_1 d = some r → ACallX P 28 (s_pileref2_MembersFault_1.args0 d) (denH (s_pileref2_MembersFault_1.H0 d)) (s_pileref2_MembersFault_1.out r) (denH (s_pileref2_MembersFault_1.H1 r)) := fun d r h => body_sound hm t53_ok (sp := s_pileref2_MembersFault_1) Tryz.func28 (by kernel_rfl) (noLoops_ok _ _ _) b_pileref2_MembersFault_1 (by kernel_rfl) h
def t54 : Tab := t53.addP s_pileref2_MembersFault_1
theorem t54_ok : TabOK P t54 := t53_ok.addP (by kernel_rfl) (by kernel_rfl) c_pileref2_MembersFault_1

/- slices.IndexFunc[[]pileup/api.Club,pileup/api.Club] -/
def st_slices_IndexFunc_Club_2 (d : List G) : Option (Option Nat × List G) :=
  (bif (ltI (gi d 3).int (gi d 2).int) then (bif ((nnI (gi d 3).int) && (ltI (gi d 3).int (((gi d 0).rows.length : Nat) : Int))) then (callF (F_pileref2_MembersFault_1 [.l [(gEta [.str, .list [.str]] ((gi d 0).rows.getD (((gi d 3).int).toNat) []))], .l [(gEta KMember (gi d 1).row)]]) fun g1 => (bif (gi g1 0).bool then some (some 0, [.i (gi d 3).int]) else (bif (inI ((gi d 3).int + 1)) then some (none, [.l (gi d 0).rows, .l [(gEta KMember (gi d 1).row)], .i (gi d 2).int, .i ((gi d 3).int + 1)]) else none))) else none) else some (some 1, []))
def l_slices_IndexFunc_Club_2 : LSpec := ⟨2, [], ⟨19, [(0, .s (.list [.str, .list [.str]])), (1, .clo 28 [.cptr KMember]), (7, .s (.int .i64)), (8, .s (.int .i64))], []⟩, [], [⟨.ret, ⟨19, [(4, .s (.int .i64))], []⟩, []⟩, ⟨.exit 0, ⟨19, [], []⟩, []⟩], st_slices_IndexFunc_Club_2⟩
theorem r_slices_IndexFunc_Club_2 : RoundOK P t54 noLoops 0 (loopAt Tryz.f13 2) l_slices_IndexFunc_Club_2 := fun d => by kernel_rfl
def L_slices_IndexFunc_Club_2 : LT := noLoops.add 0 l_slices_IndexFunc_Club_2
theorem L_slices_IndexFunc_Club_2_ok : LoopsOK P 0 L_slices_IndexFunc_Club_2 (bodyOf Tryz.f13) := LoopsOK.add hm t54_ok (by kernel_rfl) (noLoops_ok _ _ _) r_slices_IndexFunc_Club_2
def F_slices_IndexFunc_Club (d : List G) : Option (List G) :=
  (loopB true (LRun st_slices_IndexFunc_Club_2 [.l (gi d 0).rows, .l [(gEta KMember (gi d 1).row)], .i (((gi d 0).rows.length : Nat) : Int), .i 0]) fun cg2 g2 => (bif Nat.beq cg2 0 then some [.i (gi g2 0).int] else some [.i (-1)]))
def s_slices_IndexFunc_Club : FSpec := ⟨13, [.s (.list [.str, .list [.str]]), .clo 28 [.cptr KMember]], [], [], [.s (.int .i64)], [], [], [], F_slices_IndexFunc_Club⟩
theorem b_slices_IndexFunc_Club : BodyOK P t54 L_slices_IndexFunc_Club_2 Tryz.f13 s_slices_IndexFunc_Club := fun d => by kernel_rfl
theorem c_slices_IndexFunc_Club : ∀ d r, F_slices_IndexFunc_Club d = some r → ACallX P 13 (s_slices_IndexFunc_Club.args0 d) (denH (s_slices_IndexFunc_Club.H0 d)) (s_slices_IndexFunc_Club.out r) (denH (s_slices_IndexFunc_Club.H1 r)) := fun d r h => body_sound hm t54_ok (sp := s_slices_IndexFunc_Club) Tryz.func13 (by kernel_rfl) L_slices_IndexFunc_Club_2_ok b_slices_IndexFunc_Club (by kernel_rfl) h
def t55 : Tab := t54.addP s_slices_IndexFunc_Club
theorem t55_ok : TabOK P t55 := t54_ok.addP (by kernel_rfl) (by kernel_rfl) c_slices_IndexFunc_Club

/- slices.ContainsFunc[[]pileup/api.Club,pileup/api.Club] -/
def F_slices_ContainsFunc_Club (d : List G) : Option (List G) :=
  (callF (F_slices_IndexFunc_Club [.l (gi d 0).rows, .l [(gEta KMember (gi d 1).row)]]) fun g1 => some [.t (leI 0 (gi g1 0).int)])
def s_slices_ContainsFunc_Club : FSpec := ⟨27, [.s (.list [.str, .list [.str]]), .clo 28 [.cptr KMember]], [], [], [.s (.bool)], [], [], [], F_slices_ContainsFunc_Club⟩
theorem b_slices_ContainsFunc_Club : BodyOK P t55 noLoops Tryz.f27 s_slices_ContainsFunc_Club := fun d => by kernel_rfl
theorem c_slices_ContainsFunc_Club : ∀ d r, F_slices_ContainsFunc_Club d = some r → ACallX P 27 (s_slices_ContainsFunc_Club.args0 d) (denH (s_slices_ContainsFunc_Club.H0 d)) (s_slices_ContainsFunc_Club.out r) (denH (s_slices_ContainsFunc_Club.H1 r)) := fun d r h => body_sound hm t55_ok (sp := s_slices_ContainsFunc_Club) Tryz.func27 (by kernel_rfl) (noLoops_ok _ _ _) b_slices_ContainsFunc_Club (by kernel_rfl) h
def t56 : Tab := t55.addP s_slices_ContainsFunc_Club
theorem t56_ok : TabOK P t56 := t55_ok.addP (by kernel_rfl) (by kernel_rfl) c_slices_ContainsFunc_Club

/- pileup/pileref2.locator -/
def F_pileref2_locator (d : List G) : Option (List G) :=
  (bif ((((gi d 0).str.size : Nat) : Int) == 6) then (callF (F_pileref2_Square [.s (gi d 0).str]) fun g1 => some [.t (gi g1 0).bool]) else some [.t false])
def s_pileref2_locator : FSpec := ⟨30, [.s (.str)], [], [], [.s (.bool)], [], [], [], F_pileref2_locator⟩
theorem b_pileref2_locator : BodyOK P t56 noLoops Tryz.f30 s_pileref2_locator := fun d => by kernel_rfl
theorem c_pileref2_locator : ∀ d r, F_pileref2_locator d = some r → ACallX P 30 (s_pileref2_locator.args0 d) (denH (s_pileref2_locator.H0 d)) (s_pileref2_locator.out r) (denH (s_pileref2_locator.H1 r)) := fun d r h => body_sound hm t56_ok (sp := s_pileref2_locator) Tryz.func30 (by kernel_rfl) (noLoops_ok _ _ _) b_pileref2_locator (by kernel_rfl) h
def t57 : Tab := t56.addP s_pileref2_locator
theorem t57_ok : TabOK P t57 := t56_ok.addP (by kernel_rfl) (by kernel_rfl) c_pileref2_locator

/- pileup/pileref2.MembersFault -/
def tl_pileref2_MembersFault_12 (d : List G) : Option (Option Nat × List G) :=
  (bif (gi d 10).bool then some (some 0, [.i 8]) else (callF (F_pileref2_in [.i (gi d 2).int, .i 0, .i 4000]) fun g5 => (bif (!(gi g5 0).bool) then some (some 0, [.i 1]) else (callF (F_pileref2_locator [.s (gi d 3).str]) fun g6 => (bif (!(gi g6 0).bool) then some (some 0, [.i 3]) else (bif (ltI 0 (gi d 6).int) then (bif (inI ((gi d 6).int - 1)) then (bif ((nnI ((gi d 6).int - 1)) && (ltI ((gi d 6).int - 1) (((gi d 5).rows.length : Nat) : Int))) then (bif (Op.bytesLess (gi d 0).str.toList (gi ((gi d 5).rows.getD (((gi d 6).int - 1).toNat) []) 0).str.toList) then some (some 0, [.i 7]) else (bif (inI ((gi d 6).int - 1)) then (bif ((nnI ((gi d 6).int - 1)) && (ltI ((gi d 6).int - 1) (((gi d 5).rows.length : Nat) : Int))) then (bif ((gi d 0).str.toList == (gi ((gi d 5).rows.getD (((gi d 6).int - 1).toNat) []) 0).str.toList) then (bif (inI ((gi d 6).int - 1)) then (bif ((nnI ((gi d 6).int - 1)) && (ltI ((gi d 6).int - 1) (((gi d 5).rows.length : Nat) : Int))) then (bif (leI (gi d 2).int (gi ((gi d 5).rows.getD (((gi d 6).int - 1).toNat) []) 2).int) then some (some 0, [.i 7]) else some (some 1, [.l (gi d 4).rows, .l (gi d 5).rows, .l (gi d 7).rows, .i (gi d 8).int, .i (gi d 9).int])) else none) else none) else some (some 1, [.l (gi d 4).rows, .l (gi d 5).rows, .l (gi d 7).rows, .i (gi d 8).int, .i (gi d 9).int])) else none) else none)) else none) else none) else some (some 1, [.l (gi d 4).rows, .l (gi d 5).rows, .l (gi d 7).rows, .i (gi d 8).int, .i (gi d 9).int])))))))
def l_pileref2_MembersFault_12c : LSpec := ⟨12, [], ⟨93, [(0, .s (.list [.str, .list [.str]])), (1, .s (.list KMember)), (6, .s (.int .i64)), (7, .s (.ptr 0 0)), (16, .s (.list KMember)), (17, .s (.int .i64)), (18, .s (.int .i64)), (36, .s (.bool))], [.box [.str, .str, .int .i64, .str]]⟩, [.slot 7], [⟨.ret, ⟨93, [(4, .s (.int .i64))], []⟩, []⟩, ⟨.normal, ⟨93, [(0, .s (.list [.str, .list [.str]])), (1, .s (.list KMember)), (16, .s (.list KMember)), (17, .s (.int .i64)), (18, .s (.int .i64))], []⟩, []⟩], tl_pileref2_MembersFault_12⟩
theorem r_pileref2_MembersFault_12c : CutOK P (t57.lessPf [27]) noLoops 0 (cutAt Tryz.f7 12) l_pileref2_MembersFault_12c := fun d => by kernel_rfl
def L_pileref2_MembersFault_12c : LT := noLoops.addCut 0 l_pileref2_MembersFault_12c
theorem L_pileref2_MembersFault_12c_ok : LoopsOK P 0 L_pileref2_MembersFault_12c (bodyOf Tryz.f7) := LoopsOK.addCut hm (t57_ok.lessPf [27]) (by kernel_rfl) (noLoops_ok _ _ _) r_pileref2_MembersFault_12c
def st_pileref2_MembersFault_7 (d : List G) : Option (Option Nat × List G) :=
  (bif (ltI (gi d 4).int (gi d 3).int) then (bif ((nnI (gi d 4).int) && (ltI (gi d 4).int (((gi d 2).rows.length : Nat) : Int))) then (callF (F_pileref2_Call [.s (gi ((gi d 2).rows.getD (((gi d 4).int).toNat) []) 0).str]) fun g2 => (bif (!(gi g2 0).bool) then some (some 0, [.i 3]) else (callF (F_pileref2_BaseOf [.s (gi ((gi d 2).rows.getD (((gi d 4).int).toNat) []) 0).str]) fun g3 => (bif (!((gi g3 0).str.toList == (gi ((gi d 2).rows.getD (((gi d 4).int).toNat) []) 0).str.toList)) then some (some 0, [.i 3]) else (bif (!((gi ((gi d 2).rows.getD (((gi d 4).int).toNat) []) 1).str.toList == (⟨#[]⟩ : ByteArray).toList)) then (callF (F_slices_ContainsFunc_Club [.l (gi d 0).rows, .l [(gEta KMember ((gi d 2).rows.getD (((gi d 4).int).toNat) []))]]) fun g4 => (loopB true (cutR (tl_pileref2_MembersFault_12 [.s (gi ((gi d 2).rows.getD (((gi d 4).int).toNat) []) 0).str, .s (gi ((gi d 2).rows.getD (((gi d 4).int).toNat) []) 1).str, .i (gi ((gi d 2).rows.getD (((gi d 4).int).toNat) []) 2).int, .s (gi ((gi d 2).rows.getD (((gi d 4).int).toNat) []) 3).str, .l (gi d 0).rows, .l (gi d 1).rows, .i (gi d 4).int, .l (gi d 2).rows, .i (gi d 3).int, .i (gi d 4).int, .t (!(gi g4 0).bool)])) fun cg7 g7 => (bif Nat.beq cg7 0 then some (some 0, [.i (gi g7 0).int]) else (bif (inI ((gi g7 4).int + 1)) then some (none, [.l (gi g7 0).rows, .l (gi g7 1).rows, .l (gi g7 2).rows, .i (gi g7 3).int, .i ((gi g7 4).int + 1)]) else none)))) else (loopB true (cutR (tl_pileref2_MembersFault_12 [.s (gi ((gi d 2).rows.getD (((gi d 4).int).toNat) []) 0).str, .s (gi ((gi d 2).rows.getD (((gi d 4).int).toNat) []) 1).str, .i (gi ((gi d 2).rows.getD (((gi d 4).int).toNat) []) 2).int, .s (gi ((gi d 2).rows.getD (((gi d 4).int).toNat) []) 3).str, .l (gi d 0).rows, .l (gi d 1).rows, .i (gi d 4).int, .l (gi d 2).rows, .i (gi d 3).int, .i (gi d 4).int, .t false])) fun cg8 g8 => (bif Nat.beq cg8 0 then some (some 0, [.i (gi g8 0).int]) else (bif (inI ((gi g8 4).int + 1)) then some (none, [.l (gi g8 0).rows, .l (gi g8 1).rows, .l (gi g8 2).rows, .i (gi g8 3).int, .i ((gi g8 4).int + 1)]) else none)))))))) else none) else some (some 1, []))
def l_pileref2_MembersFault_7 : LSpec := ⟨7, [], ⟨93, [(0, .s (.list [.str, .list [.str]])), (1, .s (.list KMember)), (16, .s (.list KMember)), (17, .s (.int .i64)), (18, .s (.int .i64))], []⟩, [], [⟨.ret, ⟨93, [(4, .s (.int .i64))], []⟩, []⟩, ⟨.exit 0, ⟨93, [], []⟩, []⟩], st_pileref2_MembersFault_7⟩
theorem r_pileref2_MembersFault_7 : RoundOK P (t57.lessPf [27]) L_pileref2_MembersFault_12c 0 (loopAt Tryz.f7 7) l_pileref2_MembersFault_7 := fun d => by kernel_rfl
def L_pileref2_MembersFault_7 : LT := L_pileref2_MembersFault_12c.add 0 l_pileref2_MembersFault_7
theorem L_pileref2_MembersFault_7_ok : LoopsOK P 0 L_pileref2_MembersFault_7 (bodyOf Tryz.f7) := LoopsOK.add hm (t57_ok.lessPf [27]) (by kernel_rfl) L_pileref2_MembersFault_12c_ok r_pileref2_MembersFault_7
def F_pileref2_MembersFault (d : List G) : Option (List G) :=
  (callF (F_pileref2_ClubsFault [.l (gi d 0).rows]) fun g1 => (bif ((gi g1 0).int != 0) then some [.i (gi g1 0).int] else (bif (ltI 1000 (((gi d 1).rows.length : Nat) : Int)) then some [.i 2] else (loopB true (LRun st_pileref2_MembersFault_7 [.l (gi d 0).rows, .l (gi d 1).rows, .l (gi d 1).rows, .i (((gi d 1).rows.length : Nat) : Int), .i 0]) fun cg9 g9 => (bif Nat.beq cg9 0 then some [.i (gi g9 0).int] else some [.i 0])))))
def s_pileref2_MembersFault : FSpec := ⟨7, [.s (.list [.str, .list [.str]]), .s (.list KMember)], [], [], [.s (.int .i64)], [], [], [], F_pileref2_MembersFault⟩
theorem b_pileref2_MembersFault : BodyOK P (t57.lessPf [27]) L_pileref2_MembersFault_7 Tryz.f7 s_pileref2_MembersFault := fun d => by kernel_rfl
theorem c_pileref2_MembersFault : ∀ d r, F_pileref2_MembersFault d = some r → ACallX P 7 (s_pileref2_MembersFault.args0 d) (denH (s_pileref2_MembersFault.H0 d)) (s_pileref2_MembersFault.out r) (denH (s_pileref2_MembersFault.H1 r)) := fun d r h => body_sound hm (t57_ok.lessPf [27]) (sp := s_pileref2_MembersFault) Tryz.func7 (by kernel_rfl) L_pileref2_MembersFault_7_ok b_pileref2_MembersFault (by kernel_rfl) h
def t58 : Tab := t57.addP s_pileref2_MembersFault
theorem t58_ok : TabOK P t58 := t57_ok.addP (by kernel_rfl) (by kernel_rfl) c_pileref2_MembersFault

/- pileup/club.squaresFault -/
def st_club_squaresFault_4 (d : List G) : Option (Option Nat × List G) :=
  (bif (ltI (gi d 3).int (gi d 2).int) then (bif ((nnI (gi d 3).int) && (ltI (gi d 3).int (((gi d 1).rows.length : Nat) : Int))) then (callF (F_club_isSquare [.s (gi ((gi d 1).rows.getD (((gi d 3).int).toNat) []) 0).str]) fun g1 => (bif (!(gi g1 0).bool) then some (some 0, [.i 3]) else (bif (ltI 0 (gi d 3).int) then (bif (inI ((gi d 3).int - 1)) then (bif ((nnI ((gi d 3).int - 1)) && (ltI ((gi d 3).int - 1) (((gi d 0).rows.length : Nat) : Int))) then (bif ((Op.bytesLess (gi ((gi d 1).rows.getD (((gi d 3).int).toNat) []) 0).str.toList (gi ((gi d 0).rows.getD (((gi d 3).int - 1).toNat) []) 0).str.toList) || ((gi ((gi d 1).rows.getD (((gi d 3).int).toNat) []) 0).str.toList == (gi ((gi d 0).rows.getD (((gi d 3).int - 1).toNat) []) 0).str.toList)) then some (some 0, [.i 7]) else (bif (inI ((gi d 3).int + 1)) then some (none, [.l (gi d 0).rows, .l (gi d 1).rows, .i (gi d 2).int, .i ((gi d 3).int + 1)]) else none)) else none) else none) else (bif (inI ((gi d 3).int + 1)) then some (none, [.l (gi d 0).rows, .l (gi d 1).rows, .i (gi d 2).int, .i ((gi d 3).int + 1)]) else none)))) else none) else some (some 1, []))
def l_club_squaresFault_4 : LSpec := ⟨4, [], ⟨30, [(0, .s (.list [.str])), (8, .s (.list [.str])), (9, .s (.int .i64)), (10, .s (.int .i64))], []⟩, [], [⟨.ret, ⟨30, [(2, .s (.int .i64))], []⟩, []⟩, ⟨.exit 0, ⟨30, [], []⟩, []⟩], st_club_squaresFault_4⟩
theorem r_club_squaresFault_4 : RoundOK P t58 noLoops 0 (loopAt Tryz.f106 4) l_club_squaresFault_4 := fun d => by kernel_rfl
def L_club_squaresFault_4 : LT := noLoops.add 0 l_club_squaresFault_4
theorem L_club_squaresFault_4_ok : LoopsOK P 0 L_club_squaresFault_4 (bodyOf Tryz.f106) := LoopsOK.add hm t58_ok (by kernel_rfl) (noLoops_ok _ _ _) r_club_squaresFault_4
def F_club_squaresFault (d : List G) : Option (List G) :=
  (bif (ltI 100 (((gi d 0).rows.length : Nat) : Int)) then some [.i 2] else (loopB true (LRun st_club_squaresFault_4 [.l (gi d 0).rows, .l (gi d 0).rows, .i (((gi d 0).rows.length : Nat) : Int), .i 0]) fun cg2 g2 => (bif Nat.beq cg2 0 then some [.i (gi g2 0).int] else some [.i 0])))
def s_club_squaresFault : FSpec := ⟨106, [.s (.list [.str])], [], [], [.s (.int .i64)], [], [], [], F_club_squaresFault⟩
theorem b_club_squaresFault : BodyOK P t58 L_club_squaresFault_4 Tryz.f106 s_club_squaresFault := fun d => by kernel_rfl
theorem c_club_squaresFault : ∀ d r, F_club_squaresFault d = some r → ACallX P 106 (s_club_squaresFault.args0 d) (denH (s_club_squaresFault.H0 d)) (s_club_squaresFault.out r) (denH (s_club_squaresFault.H1 r)) := fun d r h => body_sound hm t58_ok (sp := s_club_squaresFault) Tryz.func106 (by kernel_rfl) L_club_squaresFault_4_ok b_club_squaresFault (by kernel_rfl) h
def t59 : Tab := t58.addP s_club_squaresFault
theorem t59_ok : TabOK P t59 := t58_ok.addP (by kernel_rfl) (by kernel_rfl) c_club_squaresFault

/- pileup/club.CheckClubs -/
def st_club_CheckClubs_4 (d : List G) : Option (Option Nat × List G) :=
  (bif (ltI (gi d 3).int (gi d 2).int) then (bif ((nnI (gi d 3).int) && (ltI (gi d 3).int (((gi d 1).rows.length : Nat) : Int))) then (callF (F_kit_IsKey [.s (gi ((gi d 1).rows.getD (((gi d 3).int).toNat) []) 0).str]) fun g1 => (bif (!(gi g1 0).bool) then some (some 0, [.i 5]) else (bif (ltI 0 (gi d 3).int) then (bif (inI ((gi d 3).int - 1)) then (bif ((nnI ((gi d 3).int - 1)) && (ltI ((gi d 3).int - 1) (((gi d 0).rows.length : Nat) : Int))) then (bif ((Op.bytesLess (gi ((gi d 1).rows.getD (((gi d 3).int).toNat) []) 0).str.toList (gi ((gi d 0).rows.getD (((gi d 3).int - 1).toNat) []) 0).str.toList) || ((gi ((gi d 1).rows.getD (((gi d 3).int).toNat) []) 0).str.toList == (gi ((gi d 0).rows.getD (((gi d 3).int - 1).toNat) []) 0).str.toList)) then some (some 0, [.i 7]) else (callF (F_club_squaresFault [.l (gi ((gi d 1).rows.getD (((gi d 3).int).toNat) []) 1).rows]) fun g2 => (bif ((gi g2 0).int != 0) then some (some 0, [.i (gi g2 0).int]) else (bif (inI ((gi d 3).int + 1)) then some (none, [.l (gi d 0).rows, .l (gi d 1).rows, .i (gi d 2).int, .i ((gi d 3).int + 1)]) else none)))) else none) else none) else (callF (F_club_squaresFault [.l (gi ((gi d 1).rows.getD (((gi d 3).int).toNat) []) 1).rows]) fun g3 => (bif ((gi g3 0).int != 0) then some (some 0, [.i (gi g3 0).int]) else (bif (inI ((gi d 3).int + 1)) then some (none, [.l (gi d 0).rows, .l (gi d 1).rows, .i (gi d 2).int, .i ((gi d 3).int + 1)]) else none)))))) else none) else some (some 1, []))
def l_club_CheckClubs_4 : LSpec := ⟨4, [], ⟨40, [(0, .s (.list [.str, .list [.str]])), (9, .s (.list [.str, .list [.str]])), (10, .s (.int .i64)), (11, .s (.int .i64))], []⟩, [], [⟨.ret, ⟨40, [(2, .s (.int .i64))], []⟩, []⟩, ⟨.exit 0, ⟨40, [], []⟩, []⟩], st_club_CheckClubs_4⟩
theorem r_club_CheckClubs_4 : RoundOK P t59 noLoops 0 (loopAt Tryz.f70 4) l_club_CheckClubs_4 := fun d => by kernel_rfl
def L_club_CheckClubs_4 : LT := noLoops.add 0 l_club_CheckClubs_4
theorem L_club_CheckClubs_4_ok : LoopsOK P 0 L_club_CheckClubs_4 (bodyOf Tryz.f70) := LoopsOK.add hm t59_ok (by kernel_rfl) (noLoops_ok _ _ _) r_club_CheckClubs_4
def F_club_CheckClubs (d : List G) : Option (List G) :=
  (bif (ltI 200 (((gi d 0).rows.length : Nat) : Int)) then some [.i 2] else (loopB true (LRun st_club_CheckClubs_4 [.l (gi d 0).rows, .l (gi d 0).rows, .i (((gi d 0).rows.length : Nat) : Int), .i 0]) fun cg4 g4 => (bif Nat.beq cg4 0 then some [.i (gi g4 0).int] else some [.i 0])))
def s_club_CheckClubs : FSpec := ⟨70, [.s (.list [.str, .list [.str]])], [], [], [.s (.int .i64)], [], [], [], F_club_CheckClubs⟩
theorem b_club_CheckClubs : BodyOK P t59 L_club_CheckClubs_4 Tryz.f70 s_club_CheckClubs := fun d => by kernel_rfl
theorem c_club_CheckClubs : ∀ d r, F_club_CheckClubs d = some r → ACallX P 70 (s_club_CheckClubs.args0 d) (denH (s_club_CheckClubs.H0 d)) (s_club_CheckClubs.out r) (denH (s_club_CheckClubs.H1 r)) := fun d r h => body_sound hm t59_ok (sp := s_club_CheckClubs) Tryz.func70 (by kernel_rfl) L_club_CheckClubs_4_ok b_club_CheckClubs (by kernel_rfl) h
def t60 : Tab := t59.addP s_club_CheckClubs
theorem t60_ok : TabOK P t60 := t59_ok.addP (by kernel_rfl) (by kernel_rfl) c_club_CheckClubs

/- pileup/club.clubAt$1 -/
def F_club_clubAt_1 (d : List G) : Option (List G) :=
  (callF (F_strings_Compare [.s (gi (gi d 0).row 0).str, .s (gi d 1).str]) fun g1 => some [.i (gi g1 0).int])
def s_club_clubAt_1 : FSpec := ⟨111, [.s (.row [.str, .list [.str]]), .s (.str)], [], [], [.s (.int .i64)], [], [], [], F_club_clubAt_1⟩
theorem b_club_clubAt_1 : BodyOK P t60 noLoops Tryz.f111 s_club_clubAt_1 := fun d => by kernel_rfl
theorem c_club_clubAt_1 : ∀ d r, F_club_clubAt_1 d = some r → ACallX P 111 (s_club_clubAt_1.args0 d) (denH (s_club_clubAt_1.H0 d)) (s_club_clubAt_1.out r) (denH (s_club_clubAt_1.H1 r)) := fun d r h => body_sound hm t60_ok (sp := s_club_clubAt_1) Tryz.func111 (by kernel_rfl) (noLoops_ok _ _ _) b_club_clubAt_1 (by kernel_rfl) h
def t61 : Tab := t60.addP s_club_clubAt_1
theorem t61_ok : TabOK P t61 := t60_ok.addP (by kernel_rfl) (by kernel_rfl) c_club_clubAt_1

/- slices.BinarySearchFunc[[]pileup/api.Club,pileup/api.Club,string] -/
def st_slices_BinarySearchFunc_string_3 (d : List G) : Option (Option Nat × List G) :=
  (bif (ltI (gi d 3).int (gi d 4).int) then (bif (inI ((gi d 3).int + (gi d 4).int)) then (bif (inI (shrI .u64 (IntKind.u64.wrap ((gi d 3).int + (gi d 4).int)) 1)) then (bif ((nnI (shrI .u64 (IntKind.u64.wrap ((gi d 3).int + (gi d 4).int)) 1)) && (ltI (shrI .u64 (IntKind.u64.wrap ((gi d 3).int + (gi d 4).int)) 1) (((gi d 0).rows.length : Nat) : Int))) then (callF (F_club_clubAt_1 [.l [(gEta [.str, .list [.str]] ((gi d 0).rows.getD ((shrI .u64 (IntKind.u64.wrap ((gi d 3).int + (gi d 4).int)) 1).toNat) []))], .s (gi d 1).str]) fun g1 => (bif (ltI (gi g1 0).int 0) then (bif (inI ((shrI .u64 (IntKind.u64.wrap ((gi d 3).int + (gi d 4).int)) 1) + 1)) then some (none, [.l (gi d 0).rows, .s (gi d 1).str, .i (gi d 2).int, .i ((shrI .u64 (IntKind.u64.wrap ((gi d 3).int + (gi d 4).int)) 1) + 1), .i (gi d 4).int]) else none) else some (none, [.l (gi d 0).rows, .s (gi d 1).str, .i (gi d 2).int, .i (gi d 3).int, .i (shrI .u64 (IntKind.u64.wrap ((gi d 3).int + (gi d 4).int)) 1)]))) else none) else none) else none) else some (some 0, [.l (gi d 0).rows, .s (gi d 1).str, .i (gi d 2).int, .i (gi d 3).int]))
def l_slices_BinarySearchFunc_string_3 : LSpec := ⟨3, [], ⟨49, [(0, .s (.list [.str, .list [.str]])), (1, .s (.str)), (2, .s (.fn 111)), (8, .s (.int .i64)), (9, .s (.int .i64)), (10, .s (.int .i64))], []⟩, [], [⟨.exit 0, ⟨49, [(0, .s (.list [.str, .list [.str]])), (1, .s (.str)), (2, .s (.fn 111)), (8, .s (.int .i64)), (9, .s (.int .i64))], []⟩, []⟩], st_slices_BinarySearchFunc_string_3⟩
theorem r_slices_BinarySearchFunc_string_3 : RoundOK P t61 noLoops 0 (loopAt Tryz.f110 3) l_slices_BinarySearchFunc_string_3 := fun d => by kernel_rfl
def L_slices_BinarySearchFunc_string_3 : LT := noLoops.add 0 l_slices_BinarySearchFunc_string_3
theorem L_slices_BinarySearchFunc_string_3_ok : LoopsOK P 0 L_slices_BinarySearchFunc_string_3 (bodyOf Tryz.f110) := LoopsOK.add hm t61_ok (by kernel_rfl) (noLoops_ok _ _ _) r_slices_BinarySearchFunc_string_3
def F_slices_BinarySearchFunc_string (d : List G) : Option (List G) :=
  (loopB true (LRun st_slices_BinarySearchFunc_string_3 [.l (gi d 0).rows, .s (gi d 1).str, .i (((gi d 0).rows.length : Nat) : Int), .i 0, .i (((gi d 0).rows.length : Nat) : Int)]) fun cg2 g2 => (bif (ltI (gi g2 3).int (gi g2 2).int) then (bif ((nnI (gi g2 3).int) && (ltI (gi g2 3).int (((gi g2 0).rows.length : Nat) : Int))) then (callF (F_club_clubAt_1 [.l [(gEta [.str, .list [.str]] ((gi g2 0).rows.getD (((gi g2 3).int).toNat) []))], .s (gi g2 1).str]) fun g3 => some [.i (gi g2 3).int, .t ((gi g3 0).int == 0)]) else none) else some [.i (gi g2 3).int, .t false]))
def s_slices_BinarySearchFunc_string : FSpec := ⟨110, [.s (.list [.str, .list [.str]]), .s (.str), .s (.fn 111)], [], [], [.s (.int .i64), .s (.bool)], [], [], [], F_slices_BinarySearchFunc_string⟩
theorem b_slices_BinarySearchFunc_string : BodyOK P t61 L_slices_BinarySearchFunc_string_3 Tryz.f110 s_slices_BinarySearchFunc_string := fun d => by kernel_rfl
theorem c_slices_BinarySearchFunc_string : ∀ d r, F_slices_BinarySearchFunc_string d = some r → ACallX P 110 (s_slices_BinarySearchFunc_string.args0 d) (denH (s_slices_BinarySearchFunc_string.H0 d)) (s_slices_BinarySearchFunc_string.out r) (denH (s_slices_BinarySearchFunc_string.H1 r)) := fun d r h => body_sound hm t61_ok (sp := s_slices_BinarySearchFunc_string) Tryz.func110 (by kernel_rfl) L_slices_BinarySearchFunc_string_3_ok b_slices_BinarySearchFunc_string (by kernel_rfl) h
def t62 : Tab := t61.addP s_slices_BinarySearchFunc_string
theorem t62_ok : TabOK P t62 := t61_ok.addP (by kernel_rfl) (by kernel_rfl) c_slices_BinarySearchFunc_string

/- pileup/club.clubAt -/
def F_club_clubAt (d : List G) : Option (List G) :=
  (callF (F_slices_BinarySearchFunc_string [.l (gi d 0).rows, .s (gi d 1).str]) fun g1 => some [.i (gi g1 0).int, .t (gi g1 1).bool])
def s_club_clubAt : FSpec := ⟨75, [.s (.list [.str, .list [.str]]), .s (.str)], [], [], [.s (.int .i64), .s (.bool)], [], [], [], F_club_clubAt⟩
theorem b_club_clubAt : BodyOK P t62 noLoops Tryz.f75 s_club_clubAt := fun d => by kernel_rfl
theorem c_club_clubAt : ∀ d r, F_club_clubAt d = some r → ACallX P 75 (s_club_clubAt.args0 d) (denH (s_club_clubAt.H0 d)) (s_club_clubAt.out r) (denH (s_club_clubAt.H1 r)) := fun d r h => body_sound hm t62_ok (sp := s_club_clubAt) Tryz.func75 (by kernel_rfl) (noLoops_ok _ _ _) b_club_clubAt (by kernel_rfl) h
def t63 : Tab := t62.addP s_club_clubAt
theorem t63_ok : TabOK P t63 := t62_ok.addP (by kernel_rfl) (by kernel_rfl) c_club_clubAt

/- pileup/club.isDay -/
def F_club_isDay (d : List G) : Option (List G) :=
  (callF (F_kit_Outside [.i (gi d 0).int, .i 0, .i 4000]) fun g1 => some [.t (!(gi g1 0).bool)])
def s_club_isDay : FSpec := ⟨37, [.s (.int .i64)], [], [], [.s (.bool)], [], [], [], F_club_isDay⟩
theorem b_club_isDay : BodyOK P t63 noLoops Tryz.f37 s_club_isDay := fun d => by kernel_rfl
theorem c_club_isDay : ∀ d r, F_club_isDay d = some r → ACallX P 37 (s_club_isDay.args0 d) (denH (s_club_isDay.H0 d)) (s_club_isDay.out r) (denH (s_club_isDay.H1 r)) := fun d r h => body_sound hm t63_ok (sp := s_club_isDay) Tryz.func37 (by kernel_rfl) (noLoops_ok _ _ _) b_club_isDay (by kernel_rfl) h
def t64 : Tab := t63.addP s_club_isDay
theorem t64_ok : TabOK P t64 := t63_ok.addP (by kernel_rfl) (by kernel_rfl) c_club_isDay

/- pileup/club.memberFault -/
def F_club_memberFault (d : List G) : Option (List G) :=
  (bif ((nnI (gi d 2).int) && (ltI (gi d 2).int (((gi d 1).rows.length : Nat) : Int))) then (callF (F_call_Parts [.s (gi ((gi d 1).rows.getD (((gi d 2).int).toNat) []) 0).str]) fun g1 => (bif (!(gi g1 1).bool) then some [.i 3] else (bif (!((gi (gi g1 0).row 0).str.toList == (gi ((gi d 1).rows.getD (((gi d 2).int).toNat) []) 0).str.toList)) then some [.i 3] else (callF (F_club_clubAt [.l (gi d 0).rows, .s (gi ((gi d 1).rows.getD (((gi d 2).int).toNat) []) 1).str]) fun g2 => (bif (!((gi ((gi d 1).rows.getD (((gi d 2).int).toNat) []) 1).str.toList == (⟨#[]⟩ : ByteArray).toList)) then (bif (!(gi g2 1).bool) then some [.i 8] else (callF (F_club_isDay [.i (gi ((gi d 1).rows.getD (((gi d 2).int).toNat) []) 2).int]) fun g3 => (bif (!(gi g3 0).bool) then some [.i 1] else (callF (F_club_isLocator [.s (gi ((gi d 1).rows.getD (((gi d 2).int).toNat) []) 3).str]) fun g4 => (bif (!(gi g4 0).bool) then some [.i 3] else (bif (ltI 0 (gi d 2).int) then (bif (inI ((gi d 2).int - 1)) then (bif ((nnI ((gi d 2).int - 1)) && (ltI ((gi d 2).int - 1) (((gi d 1).rows.length : Nat) : Int))) then (callF (F_strings_Compare [.s (gi ((gi d 1).rows.getD (((gi d 2).int - 1).toNat) []) 0).str, .s (gi ((gi d 1).rows.getD (((gi d 2).int).toNat) []) 0).str]) fun g5 => (bif (inI ((gi d 2).int - 1)) then (bif ((nnI ((gi d 2).int - 1)) && (ltI ((gi d 2).int - 1) (((gi d 1).rows.length : Nat) : Int))) then (callF (F_cmp_Compare_int [.i (gi ((gi d 1).rows.getD (((gi d 2).int - 1).toNat) []) 2).int, .i (gi ((gi d 1).rows.getD (((gi d 2).int).toNat) []) 2).int]) fun g6 => (callF (F_cmp_Or_int [.l [[.i (gi g5 0).int], [.i (gi g6 0).int]]]) fun g7 => (bif (leI 0 (gi g7 0).int) then some [.i 7] else some [.i 0]))) else none) else none)) else none) else none) else some [.i 0])))))) else (callF (F_club_isDay [.i (gi ((gi d 1).rows.getD (((gi d 2).int).toNat) []) 2).int]) fun g8 => (bif (!(gi g8 0).bool) then some [.i 1] else (callF (F_club_isLocator [.s (gi ((gi d 1).rows.getD (((gi d 2).int).toNat) []) 3).str]) fun g9 => (bif (!(gi g9 0).bool) then some [.i 3] else (bif (ltI 0 (gi d 2).int) then (bif (inI ((gi d 2).int - 1)) then (bif ((nnI ((gi d 2).int - 1)) && (ltI ((gi d 2).int - 1) (((gi d 1).rows.length : Nat) : Int))) then (callF (F_strings_Compare [.s (gi ((gi d 1).rows.getD (((gi d 2).int - 1).toNat) []) 0).str, .s (gi ((gi d 1).rows.getD (((gi d 2).int).toNat) []) 0).str]) fun g10 => (bif (inI ((gi d 2).int - 1)) then (bif ((nnI ((gi d 2).int - 1)) && (ltI ((gi d 2).int - 1) (((gi d 1).rows.length : Nat) : Int))) then (callF (F_cmp_Compare_int [.i (gi ((gi d 1).rows.getD (((gi d 2).int - 1).toNat) []) 2).int, .i (gi ((gi d 1).rows.getD (((gi d 2).int).toNat) []) 2).int]) fun g11 => (callF (F_cmp_Or_int [.l [[.i (gi g10 0).int], [.i (gi g11 0).int]]]) fun g12 => (bif (leI 0 (gi g12 0).int) then some [.i 7] else some [.i 0]))) else none) else none)) else none) else none) else some [.i 0])))))))))) else none)
def s_club_memberFault : FSpec := ⟨71, [.s (.list [.str, .list [.str]]), .s (.list KMember), .s (.int .i64)], [], [], [.s (.int .i64)], [], [], [], F_club_memberFault⟩
theorem b_club_memberFault : BodyOK P t64 noLoops Tryz.f71 s_club_memberFault := fun d => by kernel_rfl
theorem c_club_memberFault : ∀ d r, F_club_memberFault d = some r → ACallX P 71 (s_club_memberFault.args0 d) (denH (s_club_memberFault.H0 d)) (s_club_memberFault.out r) (denH (s_club_memberFault.H1 r)) := fun d r h => body_sound hm t64_ok (sp := s_club_memberFault) Tryz.func71 (by kernel_rfl) (noLoops_ok _ _ _) b_club_memberFault (by kernel_rfl) h
def t65 : Tab := t64.addP s_club_memberFault
theorem t65_ok : TabOK P t65 := t64_ok.addP (by kernel_rfl) (by kernel_rfl) c_club_memberFault

/- pileup/club.CheckMembers -/
def st_club_CheckMembers_7 (d : List G) : Option (Option Nat × List G) :=
  (bif (ltI (gi d 3).int (gi d 2).int) then (callF (F_club_memberFault [.l (gi d 0).rows, .l (gi d 1).rows, .i (gi d 3).int]) fun g2 => (bif ((gi g2 0).int != 0) then some (some 0, [.i (gi g2 0).int]) else (bif (inI ((gi d 3).int + 1)) then some (none, [.l (gi d 0).rows, .l (gi d 1).rows, .i (gi d 2).int, .i ((gi d 3).int + 1)]) else none))) else some (some 1, []))
def l_club_CheckMembers_7 : LSpec := ⟨7, [], ⟨29, [(0, .s (.list [.str, .list [.str]])), (1, .s (.list KMember)), (17, .s (.int .i64)), (18, .s (.int .i64))], []⟩, [], [⟨.ret, ⟨29, [(4, .s (.int .i64))], []⟩, []⟩, ⟨.exit 0, ⟨29, [], []⟩, []⟩], st_club_CheckMembers_7⟩
theorem r_club_CheckMembers_7 : RoundOK P t65 noLoops 0 (loopAt Tryz.f36 7) l_club_CheckMembers_7 := fun d => by kernel_rfl
def L_club_CheckMembers_7 : LT := noLoops.add 0 l_club_CheckMembers_7
theorem L_club_CheckMembers_7_ok : LoopsOK P 0 L_club_CheckMembers_7 (bodyOf Tryz.f36) := LoopsOK.add hm t65_ok (by kernel_rfl) (noLoops_ok _ _ _) r_club_CheckMembers_7
def F_club_CheckMembers (d : List G) : Option (List G) :=
  (callF (F_club_CheckClubs [.l (gi d 0).rows]) fun g1 => (bif ((gi g1 0).int != 0) then some [.i (gi g1 0).int] else (bif (ltI 1000 (((gi d 1).rows.length : Nat) : Int)) then some [.i 2] else (loopB true (LRun st_club_CheckMembers_7 [.l (gi d 0).rows, .l (gi d 1).rows, .i (((gi d 1).rows.length : Nat) : Int), .i 0]) fun cg3 g3 => (bif Nat.beq cg3 0 then some [.i (gi g3 0).int] else some [.i 0])))))
def s_club_CheckMembers : FSpec := ⟨36, [.s (.list [.str, .list [.str]]), .s (.list KMember)], [], [], [.s (.int .i64)], [], [], [], F_club_CheckMembers⟩
theorem b_club_CheckMembers : BodyOK P t65 L_club_CheckMembers_7 Tryz.f36 s_club_CheckMembers := fun d => by kernel_rfl
theorem c_club_CheckMembers : ∀ d r, F_club_CheckMembers d = some r → ACallX P 36 (s_club_CheckMembers.args0 d) (denH (s_club_CheckMembers.H0 d)) (s_club_CheckMembers.out r) (denH (s_club_CheckMembers.H1 r)) := fun d r h => body_sound hm t65_ok (sp := s_club_CheckMembers) Tryz.func36 (by kernel_rfl) L_club_CheckMembers_7_ok b_club_CheckMembers (by kernel_rfl) h
def t66 : Tab := t65.addP s_club_CheckMembers
theorem t66_ok : TabOK P t66 := t65_ok.addP (by kernel_rfl) (by kernel_rfl) c_club_CheckMembers

/- pileup/club.last -/
def st_club_last_f_3 (d : List G) : Option (Option Nat × List G) :=
  (bif (ltI (gi d 5).int (gi d 4).int) then (bif ((nnI (gi d 5).int) && (ltI (gi d 5).int (((gi d 3).rows.length : Nat) : Int))) then (bif (leI (gi ((gi d 3).rows.getD (((gi d 5).int).toNat) []) 2).int (gi d 2).int) then (bif (inI ((gi d 5).int + 1)) then some (none, [.l (mput [.str] (gi d 0).rows [.s (gi ((gi d 3).rows.getD (((gi d 5).int).toNat) []) 0).str] (gEta KMember ((gi d 3).rows.getD (((gi d 5).int).toNat) [])) (gi d 1).int.toNat), .i (((mclk [.str] (gi d 0).rows [.s (gi ((gi d 3).rows.getD (((gi d 5).int).toNat) []) 0).str] (gi d 1).int.toNat) : Nat) : Int), .i (gi d 2).int, .l (gi d 3).rows, .i (gi d 4).int, .i ((gi d 5).int + 1)]) else none) else (bif (inI ((gi d 5).int + 1)) then some (none, [.l (gi d 0).rows, .i (((gi d 1).int.toNat : Nat) : Int), .i (gi d 2).int, .l (gi d 3).rows, .i (gi d 4).int, .i ((gi d 5).int + 1)]) else none)) else none) else some (some 0, [.l (gi d 0).rows, .i (((gi d 1).int.toNat : Nat) : Int)]))
def l_club_last_f_3 : LSpec := ⟨3, [], ⟨25, [(1, .s (.int .i64)), (5, .s (.map 0)), (9, .s (.list KMember)), (10, .s (.int .i64)), (11, .s (.int .i64))], [.map (.one (.str)) (.agg KMember)]⟩, [.slot 5], [⟨.exit 0, ⟨25, [(5, .s (.map 0))], [.map (.one (.str)) (.agg KMember)]⟩, [.slot 5]⟩], st_club_last_f_3⟩
theorem r_club_last_f_3 : RoundOK P t66 noLoops 0 (loopAt Tryz.f38 3) l_club_last_f_3 := fun d => by kernel_rfl
def L_club_last_f_3 : LT := noLoops.add 0 l_club_last_f_3
theorem L_club_last_f_3_ok : LoopsOK P 0 L_club_last_f_3 (bodyOf Tryz.f38) := LoopsOK.add hm t66_ok (by kernel_rfl) (noLoops_ok _ _ _) r_club_last_f_3
def F_club_last_f (d : List G) : Option (List G) :=
  (loopB true (LRun st_club_last_f_3 [.l [], .i 0, .i (gi d 1).int, .l (gi d 0).rows, .i (((gi d 0).rows.length : Nat) : Int), .i 0]) fun cg1 g1 => some [.l (gi g1 0).rows, .i (((gi g1 1).int.toNat : Nat) : Int)])
def s_club_last_f : FSpec := ⟨38, [.s (.list KMember), .s (.int .i64)], [], [], [.s (.map 0)], [.map (.one (.str)) (.agg KMember)], [.slot 0], [], F_club_last_f⟩
theorem b_club_last_f : BodyOK P t66 L_club_last_f_3 Tryz.f38 s_club_last_f := fun d => by kernel_rfl
theorem c_club_last_f : ∀ d r, F_club_last_f d = some r → ACallX P 38 (s_club_last_f.args0 d) (denH (s_club_last_f.H0 d)) (s_club_last_f.out r) (denH (s_club_last_f.H1 r)) := fun d r h => body_sound hm t66_ok (sp := s_club_last_f) Tryz.func38 (by kernel_rfl) L_club_last_f_3_ok b_club_last_f (by kernel_rfl) h
def t67 : Tab := t66.addW s_club_last_f
theorem t67_ok : TabOK P t67 := t66_ok.addW (by kernel_rfl) (by kernel_rfl) c_club_last_f

/- maps.Keys[map[string]pileup/api.Member,string,pileup/api.Member] -/
def t68 : Tab := t67.inlineW P 40 Tryz.f40
theorem t68_ok : TabOK P t68 := t67_ok.inlineW hm Tryz.func40 (by kernel_rfl) (by kernel_rfl)

/- slices.Sorted[string] -/
def F_slices_Sorted_string (d : List G) : Option (List G) :=
  keysG d
def s_slices_Sorted_string : FSpec := ⟨39, [.clo 74 [.ptr 0 0]], [.box [.map 1], .map (.one (.str)) (.agg KMember)], [.cap 0 0, .cell 0 0], [.s (.list [.str])], [.box [.map 1], .map (.one (.str)) (.agg KMember)], [.fix 0, .fix 1], [], F_slices_Sorted_string⟩
theorem c_slices_Sorted_string : ∀ d r, F_slices_Sorted_string d = some r → ACallX P 39 (s_slices_Sorted_string.args0 d) (denH (s_slices_Sorted_string.H0 d)) (s_slices_Sorted_string.out r) (denH (s_slices_Sorted_string.H1 r)) := fun d r h => sortedK_call (ρ := Tryz.laysSorted39_ren) (ρ' := Tryz.laysKeys40_ren) rfl Tryz.laysSorted39 { Tryz.laysKeys40 with } (fun m => ⟨fun blk off cap ss W hH hblk hsz => callsIn_wide.2 (Proofs.AnyM.slices_Sort_string Tryz.laysSortS blk off cap ss W hH hblk hsz), fun p cap W => callsIn_wide.2 (Proofs.AnyM.slices_Sort_string_none Tryz.laysSortS p cap W)⟩) (by kernel_rfl) (by kernel_rfl) (.agg KMember) d r h
def t69 : Tab := t68.addW s_slices_Sorted_string
theorem t69_ok : TabOK P t69 := t68_ok.addW (by kernel_rfl) (by kernel_rfl) c_slices_Sorted_string

/- internal/stringslite.HasPrefix -/
def F_stringslite_HasPrefix (d : List G) : Option (List G) :=
  (bif (leI (((gi d 1).str.size : Nat) : Int) (((gi d 0).str.size : Nat) : Int)) then (bif ((nnI (((gi d 1).str.size : Nat) : Int)) && (leI (((gi d 1).str.size : Nat) : Int) (((gi d 0).str.size : Nat) : Int))) then some [.t (((gi d 0).str.extract 0 (gi d 1).str.size).toList == (gi d 1).str.toList)] else none) else some [.t false])
def s_stringslite_HasPrefix : FSpec := ⟨49, [.s (.str), .s (.str)], [], [], [.s (.bool)], [], [], [], F_stringslite_HasPrefix⟩
theorem b_stringslite_HasPrefix : BodyOK P t69 noLoops Tryz.f49 s_stringslite_HasPrefix := fun d => by kernel_rfl
theorem c_stringslite_HasPrefix : ∀ d r, F_stringslite_HasPrefix d = some r → ACallX P 49 (s_stringslite_HasPrefix.args0 d) (denH (s_stringslite_HasPrefix.H0 d)) (s_stringslite_HasPrefix.out r) (denH (s_stringslite_HasPrefix.H1 r)) := fun d r h => body_sound hm t69_ok (sp := s_stringslite_HasPrefix) Tryz.func49 (by kernel_rfl) (noLoops_ok _ _ _) b_stringslite_HasPrefix (by kernel_rfl) h
def t70 : Tab := t69.addP s_stringslite_HasPrefix
theorem t70_ok : TabOK P t70 := t69_ok.addP (by kernel_rfl) (by kernel_rfl) c_stringslite_HasPrefix

/- strings.HasPrefix -/
def F_strings_HasPrefix (d : List G) : Option (List G) :=
  (callF (F_stringslite_HasPrefix [.s (gi d 0).str, .s (gi d 1).str]) fun g1 => some [.t (gi g1 0).bool])
def s_strings_HasPrefix : FSpec := ⟨19, [.s (.str), .s (.str)], [], [], [.s (.bool)], [], [], [], F_strings_HasPrefix⟩
theorem b_strings_HasPrefix : BodyOK P t70 noLoops Tryz.f19 s_strings_HasPrefix := fun d => by kernel_rfl
theorem c_strings_HasPrefix : ∀ d r, F_strings_HasPrefix d = some r → ACallX P 19 (s_strings_HasPrefix.args0 d) (denH (s_strings_HasPrefix.H0 d)) (s_strings_HasPrefix.out r) (denH (s_strings_HasPrefix.H1 r)) := fun d r h => body_sound hm t70_ok (sp := s_strings_HasPrefix) Tryz.func19 (by kernel_rfl) (noLoops_ok _ _ _) b_strings_HasPrefix (by kernel_rfl) h
def t71 : Tab := t70.addP s_strings_HasPrefix
theorem t71_ok : TabOK P t71 := t70_ok.addP (by kernel_rfl) (by kernel_rfl) c_strings_HasPrefix

/- pileup/club.isInside$1 -/
def F_club_isInside_1 (d : List G) : Option (List G) :=
  (callF (F_strings_HasPrefix [.s (gi (gi d 1).row 3).str, .s (gi d 0).str]) fun g1 => some [.t (gi g1 0).bool])
def s_club_isInside_1 : FSpec := ⟨76, [.s (.str), .s (.cptr KMember)], [], [], [.s (.bool)], [], [], [], F_club_isInside_1⟩
theorem b_club_isInside_1 : BodyOK P t71 noLoops Tryz.f76 s_club_isInside_1 := fun d => by kernel_rfl
theorem c_club_isInside_1 : ∀ d r, F_club_isInside_1 d = some r → ACallX P 76 (s_club_isInside_1.args0 d) (denH (s_club_isInside_1.H0 d)) (s_club_isInside_1.out r) (denH (s_club_isInside_1.H1 r)) := fun d r h => body_sound hm t71_ok (sp := s_club_isInside_1) Tryz.func76 (by kernel_rfl) (noLoops_ok _ _ _) b_club_isInside_1 (by kernel_rfl) h
def t72 : Tab := t71.addP s_club_isInside_1
theorem t72_ok : TabOK P t72 := t71_ok.addP (by kernel_rfl) (by kernel_rfl) c_club_isInside_1

/- slices.IndexFunc[[]string,string] -/
def st_slices_IndexFunc_string_2 (d : List G) : Option (Option Nat × List G) :=
  (bif (ltI (gi d 3).int (gi d 2).int) then (bif ((nnI (gi d 3).int) && (ltI (gi d 3).int (((gi d 0).rows.length : Nat) : Int))) then (callF (F_club_isInside_1 [.s (gi ((gi d 0).rows.getD (((gi d 3).int).toNat) []) 0).str, .l [(gEta KMember (gi d 1).row)]]) fun g1 => (bif (gi g1 0).bool then some (some 0, [.i (gi d 3).int]) else (bif (inI ((gi d 3).int + 1)) then some (none, [.l (gi d 0).rows, .l [(gEta KMember (gi d 1).row)], .i (gi d 2).int, .i ((gi d 3).int + 1)]) else none))) else none) else some (some 1, []))
def l_slices_IndexFunc_string_2 : LSpec := ⟨2, [], ⟨19, [(0, .s (.list [.str])), (1, .clo 76 [.cptr KMember]), (7, .s (.int .i64)), (8, .s (.int .i64))], []⟩, [], [⟨.ret, ⟨19, [(4, .s (.int .i64))], []⟩, []⟩, ⟨.exit 0, ⟨19, [], []⟩, []⟩], st_slices_IndexFunc_string_2⟩
theorem r_slices_IndexFunc_string_2 : RoundOK P t72 noLoops 0 (loopAt Tryz.f48 2) l_slices_IndexFunc_string_2 := fun d => by kernel_rfl
def L_slices_IndexFunc_string_2 : LT := noLoops.add 0 l_slices_IndexFunc_string_2
theorem L_slices_IndexFunc_string_2_ok : LoopsOK P 0 L_slices_IndexFunc_string_2 (bodyOf Tryz.f48) := LoopsOK.add hm t72_ok (by kernel_rfl) (noLoops_ok _ _ _) r_slices_IndexFunc_string_2
def F_slices_IndexFunc_string (d : List G) : Option (List G) :=
  (loopB true (LRun st_slices_IndexFunc_string_2 [.l (gi d 0).rows, .l [(gEta KMember (gi d 1).row)], .i (((gi d 0).rows.length : Nat) : Int), .i 0]) fun cg2 g2 => (bif Nat.beq cg2 0 then some [.i (gi g2 0).int] else some [.i (-1)]))
def s_slices_IndexFunc_string : FSpec := ⟨48, [.s (.list [.str]), .clo 76 [.cptr KMember]], [], [], [.s (.int .i64)], [], [], [], F_slices_IndexFunc_string⟩
theorem b_slices_IndexFunc_string : BodyOK P t72 L_slices_IndexFunc_string_2 Tryz.f48 s_slices_IndexFunc_string := fun d => by kernel_rfl
theorem c_slices_IndexFunc_string : ∀ d r, F_slices_IndexFunc_string d = some r → ACallX P 48 (s_slices_IndexFunc_string.args0 d) (denH (s_slices_IndexFunc_string.H0 d)) (s_slices_IndexFunc_string.out r) (denH (s_slices_IndexFunc_string.H1 r)) := fun d r h => body_sound hm t72_ok (sp := s_slices_IndexFunc_string) Tryz.func48 (by kernel_rfl) L_slices_IndexFunc_string_2_ok b_slices_IndexFunc_string (by kernel_rfl) h
def t73 : Tab := t72.addP s_slices_IndexFunc_string
theorem t73_ok : TabOK P t73 := t72_ok.addP (by kernel_rfl) (by kernel_rfl) c_slices_IndexFunc_string

/- slices.ContainsFunc[[]string,string] -/
def F_slices_ContainsFunc_string (d : List G) : Option (List G) :=
  (callF (F_slices_IndexFunc_string [.l (gi d 0).rows, .l [(gEta KMember (gi d 1).row)]]) fun g1 => some [.t (leI 0 (gi g1 0).int)])
def s_slices_ContainsFunc_string : FSpec := ⟨17, [.s (.list [.str]), .clo 76 [.cptr KMember]], [], [], [.s (.bool)], [], [], [], F_slices_ContainsFunc_string⟩
theorem b_slices_ContainsFunc_string : BodyOK P t73 noLoops Tryz.f17 s_slices_ContainsFunc_string := fun d => by kernel_rfl
theorem c_slices_ContainsFunc_string : ∀ d r, F_slices_ContainsFunc_string d = some r → ACallX P 17 (s_slices_ContainsFunc_string.args0 d) (denH (s_slices_ContainsFunc_string.H0 d)) (s_slices_ContainsFunc_string.out r) (denH (s_slices_ContainsFunc_string.H1 r)) := fun d r h => body_sound hm t73_ok (sp := s_slices_ContainsFunc_string) Tryz.func17 (by kernel_rfl) (noLoops_ok _ _ _) b_slices_ContainsFunc_string (by kernel_rfl) h
def t74 : Tab := t73.addP s_slices_ContainsFunc_string
theorem t74_ok : TabOK P t74 := t73_ok.addP (by kernel_rfl) (by kernel_rfl) c_slices_ContainsFunc_string

/- pileup/club.isInside -/
def F_club_isInside (d : List G) : Option (List G) :=
  (callF (F_club_clubAt [.l (gi d 0).rows, .s (gi (gi d 1).row 1).str]) fun g1 => (bif (gi g1 1).bool then (bif ((nnI (gi g1 0).int) && (ltI (gi g1 0).int (((gi d 0).rows.length : Nat) : Int))) then (callF (F_slices_ContainsFunc_string [.l (gi ((gi d 0).rows.getD (((gi g1 0).int).toNat) []) 1).rows, .l [(gEta KMember (gi d 1).row)]]) fun g2 => some [.t (gi g2 0).bool]) else none) else some [.t false]))
def s_club_isInside : FSpec := ⟨41, [.s (.list [.str, .list [.str]]), .s (.row KMember)], [], [], [.s (.bool)], [], [], [], F_club_isInside⟩
theorem b_club_isInside : BodyOK P (t74.lessPf [17]) noLoops Tryz.f41 s_club_isInside := fun d => by kernel_rfl
theorem c_club_isInside : ∀ d r, F_club_isInside d = some r → ACallX P 41 (s_club_isInside.args0 d) (denH (s_club_isInside.H0 d)) (s_club_isInside.out r) (denH (s_club_isInside.H1 r)) := fun d r h => body_sound hm (t74_ok.lessPf [17]) (sp := s_club_isInside) Tryz.func41 (by kernel_rfl) (noLoops_ok _ _ _) b_club_isInside (by kernel_rfl) h
def t75 : Tab := t74.addP s_club_isInside
theorem t75_ok : TabOK P t75 := t74_ok.addP (by kernel_rfl) (by kernel_rfl) c_club_isInside

/- pileup/club.Outside -/
def st_club_Outside_9 (d : List G) : Option (Option Nat × List G) :=
  (bif (ltI (gi d 6).int (gi d 5).int) then (bif ((nnI (gi d 6).int) && (ltI (gi d 6).int (((gi d 4).rows.length : Nat) : Int))) then (bif (!((gi (mget [.str] (gi d 1).rows [.s (gi ((gi d 4).rows.getD (((gi d 6).int).toNat) []) 0).str] [.s (⟨#[]⟩ : ByteArray), .s (⟨#[]⟩ : ByteArray), .i 0, .s (⟨#[]⟩ : ByteArray)]) 1).str.toList == (⟨#[]⟩ : ByteArray).toList)) then (callF (F_club_isInside [.l (gi d 3).rows, .l [(gEta KMember (mget [.str] (gi d 1).rows [.s (gi ((gi d 4).rows.getD (((gi d 6).int).toNat) []) 0).str] [.s (⟨#[]⟩ : ByteArray), .s (⟨#[]⟩ : ByteArray), .i 0, .s (⟨#[]⟩ : ByteArray)]))]]) fun g5 => (bif (!(gi g5 0).bool) then (bif ((Nat.beq (gi d 0).rows.length (gi d 0).rows.length) && (decide (((gi d 0).rows.length + 1) ≤ 1048576))) then (bif (inI ((gi d 6).int + 1)) then (bif ((Nat.beq ((gi d 0).rows ++ ([[.s (gi ((gi d 4).rows.getD (((gi d 6).int).toNat) []) 0).str]] : List (List G))).length ((gi d 0).rows ++ ([[.s (gi ((gi d 4).rows.getD (((gi d 6).int).toNat) []) 0).str]] : List (List G))).length) && true) then some (none, [.l ((gi d 0).rows ++ ([[.s (gi ((gi d 4).rows.getD (((gi d 6).int).toNat) []) 0).str]] : List (List G))), .l (gi d 1).rows, .i (((gi d 2).int.toNat : Nat) : Int), .l (gi d 3).rows, .l (gi d 4).rows, .i (gi d 5).int, .i ((gi d 6).int + 1)]) else none) else none) else none) else (bif (inI ((gi d 6).int + 1)) then (bif ((Nat.beq (gi d 0).rows.length (gi d 0).rows.length) && true) then some (none, [.l (gi d 0).rows, .l (gi d 1).rows, .i (((gi d 2).int.toNat : Nat) : Int), .l (gi d 3).rows, .l (gi d 4).rows, .i (gi d 5).int, .i ((gi d 6).int + 1)]) else none) else none))) else (bif (inI ((gi d 6).int + 1)) then (bif ((Nat.beq (gi d 0).rows.length (gi d 0).rows.length) && true) then some (none, [.l (gi d 0).rows, .l (gi d 1).rows, .i (((gi d 2).int.toNat : Nat) : Int), .l (gi d 3).rows, .l (gi d 4).rows, .i (gi d 5).int, .i ((gi d 6).int + 1)]) else none) else none)) else none) else (bif ((Nat.beq (gi d 0).rows.length (gi d 0).rows.length) && true) then some (some 0, [.l (gi d 0).rows]) else none))
def l_club_Outside_9 : LSpec := ⟨9, [(9, [.str])], ⟨52, [(0, .s (.list [.str, .list [.str]])), (9, .s (.vec 0 1)), (10, .s (.map 1)), (28, .s (.list [.str])), (29, .s (.int .i64)), (30, .s (.int .i64))], [.vec [.str] 0, .map (.one (.str)) (.agg KMember)]⟩, [.slot 9, .slot 10], [⟨.exit 0, ⟨52, [(9, .s (.vec 0 1))], [.vec [.str] 0]⟩, [.slot 9]⟩], st_club_Outside_9⟩
theorem r_club_Outside_9 : RoundOK P t75 noLoops 0 (loopAt Tryz.f9 9) l_club_Outside_9 := fun d => by kernel_rfl
def L_club_Outside_9 : LT := noLoops.add 0 l_club_Outside_9
theorem L_club_Outside_9_ok : LoopsOK P 0 L_club_Outside_9 (bodyOf Tryz.f9) := LoopsOK.add hm t75_ok (by kernel_rfl) (noLoops_ok _ _ _) r_club_Outside_9
def F_club_Outside (d : List G) : Option (List G) :=
  (callF (F_club_CheckMembers [.l (gi d 0).rows, .l (gi d 1).rows]) fun g1 => (bif ((gi g1 0).int != 0) then some [.l [], .i (gi g1 0).int] else (callF (F_club_isDay [.i (gi d 2).int]) fun g2 => (bif (!(gi g2 0).bool) then some [.l [], .i 1] else (callF (F_club_last_f [.l (gi d 1).rows, .i (gi d 2).int]) fun g3 => (callF (F_slices_Sorted_string [.l (gi g3 0).rows, .i (((gi g3 1).int.toNat : Nat) : Int)]) fun g4 => (loopB true (LRun st_club_Outside_9 [.l [], .l (gi g4 0).rows, .i (((gi g4 1).int.toNat : Nat) : Int), .l (gi d 0).rows, .l (gi g4 2).rows, .i (((gi g4 2).rows.length : Nat) : Int), .i 0]) fun cg6 g6 => (bif ((Nat.beq (gi g6 0).rows.length (gi g6 0).rows.length) && true) then some [.l (gi g6 0).rows, .i 0] else none))))))))
def s_club_Outside : FSpec := ⟨9, [.s (.list [.str, .list [.str]]), .s (.list KMember), .s (.int .i64)], [], [], [.s (.list [.str]), .s (.int .i64)], [], [], [], F_club_Outside⟩
theorem b_club_Outside : BodyOK P t75 L_club_Outside_9 Tryz.f9 s_club_Outside := fun d => by kernel_rfl
theorem c_club_Outside : ∀ d r, F_club_Outside d = some r → ACallX P 9 (s_club_Outside.args0 d) (denH (s_club_Outside.H0 d)) (s_club_Outside.out r) (denH (s_club_Outside.H1 r)) := fun d r h => body_sound hm t75_ok (sp := s_club_Outside) Tryz.func9 (by kernel_rfl) L_club_Outside_9_ok b_club_Outside (by kernel_rfl) h
def t76 : Tab := t75.addP s_club_Outside
theorem t76_ok : TabOK P t76 := t75_ok.addP (by kernel_rfl) (by kernel_rfl) c_club_Outside

/- cmp.isNaN[string] -/
def F_cmp_isNaN_string (d : List G) : Option (List G) :=
  some [.t (!((gi d 0).str.toList == (gi d 0).str.toList))]
def s_cmp_isNaN_string : FSpec := ⟨77, [.s (.str)], [], [], [.s (.bool)], [], [], [], F_cmp_isNaN_string⟩
theorem b_cmp_isNaN_string : BodyOK P t76 noLoops Tryz.f77 s_cmp_isNaN_string := fun d => by kernel_rfl
theorem c_cmp_isNaN_string : ∀ d r, F_cmp_isNaN_string d = some r → ACallX P 77 (s_cmp_isNaN_string.args0 d) (denH (s_cmp_isNaN_string.H0 d)) (s_cmp_isNaN_string.out r) (denH (s_cmp_isNaN_string.H1 r)) := fun d r h => body_sound hm t76_ok (sp := s_cmp_isNaN_string) Tryz.func77 (by kernel_rfl) (noLoops_ok _ _ _) b_cmp_isNaN_string (by kernel_rfl) h
def t77 : Tab := t76.addP s_cmp_isNaN_string
theorem t77_ok : TabOK P t77 := t76_ok.addP (by kernel_rfl) (by kernel_rfl) c_cmp_isNaN_string

/- cmp.Less[string] -/
def F_cmp_Less_string (d : List G) : Option (List G) :=
  (callF (F_cmp_isNaN_string [.s (gi d 0).str]) fun g1 => (bif (gi g1 0).bool then (callF (F_cmp_isNaN_string [.s (gi d 1).str]) fun g2 => (bif (!(gi g2 0).bool) then some [.t true] else some [.t (Op.bytesLess (gi d 0).str.toList (gi d 1).str.toList)])) else some [.t (Op.bytesLess (gi d 0).str.toList (gi d 1).str.toList)]))
def s_cmp_Less_string : FSpec := ⟨42, [.s (.str), .s (.str)], [], [], [.s (.bool)], [], [], [], F_cmp_Less_string⟩
theorem b_cmp_Less_string : BodyOK P t77 noLoops Tryz.f42 s_cmp_Less_string := fun d => by kernel_rfl
theorem c_cmp_Less_string : ∀ d r, F_cmp_Less_string d = some r → ACallX P 42 (s_cmp_Less_string.args0 d) (denH (s_cmp_Less_string.H0 d)) (s_cmp_Less_string.out r) (denH (s_cmp_Less_string.H1 r)) := fun d r h => body_sound hm t77_ok (sp := s_cmp_Less_string) Tryz.func42 (by kernel_rfl) (noLoops_ok _ _ _) b_cmp_Less_string (by kernel_rfl) h
def t78 : Tab := t77.addP s_cmp_Less_string
theorem t78_ok : TabOK P t78 := t77_ok.addP (by kernel_rfl) (by kernel_rfl) c_cmp_Less_string

/- slices.IsSorted[[]string,string] -/
def st_slices_IsSorted_string_2 (d : List G) : Option (Option Nat × List G) :=
  (bif (ltI 0 (gi d 1).int) then (bif ((nnI (gi d 1).int) && (ltI (gi d 1).int (((gi d 0).rows.length : Nat) : Int))) then (bif (inI ((gi d 1).int - 1)) then (bif ((nnI ((gi d 1).int - 1)) && (ltI ((gi d 1).int - 1) (((gi d 0).rows.length : Nat) : Int))) then (callF (F_cmp_Less_string [.s (gi ((gi d 0).rows.getD (((gi d 1).int).toNat) []) 0).str, .s (gi ((gi d 0).rows.getD (((gi d 1).int - 1).toNat) []) 0).str]) fun g1 => (bif (gi g1 0).bool then some (some 0, [.t false]) else (bif (inI ((gi d 1).int - 1)) then some (none, [.l (gi d 0).rows, .i ((gi d 1).int - 1)]) else none))) else none) else none) else none) else some (some 1, []))
def l_slices_IsSorted_string_2 : LSpec := ⟨2, [], ⟨21, [(0, .s (.list [.str])), (3, .s (.int .i64))], []⟩, [], [⟨.ret, ⟨21, [(2, .s (.bool))], []⟩, []⟩, ⟨.exit 0, ⟨21, [], []⟩, []⟩], st_slices_IsSorted_string_2⟩
theorem r_slices_IsSorted_string_2 : RoundOK P t78 noLoops 0 (loopAt Tryz.f10 2) l_slices_IsSorted_string_2 := fun d => by kernel_rfl
def L_slices_IsSorted_string_2 : LT := noLoops.add 0 l_slices_IsSorted_string_2
theorem L_slices_IsSorted_string_2_ok : LoopsOK P 0 L_slices_IsSorted_string_2 (bodyOf Tryz.f10) := LoopsOK.add hm t78_ok (by kernel_rfl) (noLoops_ok _ _ _) r_slices_IsSorted_string_2
def F_slices_IsSorted_string (d : List G) : Option (List G) :=
  (bif (inI ((((gi d 0).rows.length : Nat) : Int) - 1)) then (loopB true (LRun st_slices_IsSorted_string_2 [.l (gi d 0).rows, .i ((((gi d 0).rows.length : Nat) : Int) - 1)]) fun cg2 g2 => (bif Nat.beq cg2 0 then some [.t (gi g2 0).bool] else some [.t true])) else none)
def s_slices_IsSorted_string : FSpec := ⟨10, [.s (.list [.str])], [], [], [.s (.bool)], [], [], [], F_slices_IsSorted_string⟩
theorem b_slices_IsSorted_string : BodyOK P t78 L_slices_IsSorted_string_2 Tryz.f10 s_slices_IsSorted_string := fun d => by kernel_rfl
theorem c_slices_IsSorted_string : ∀ d r, F_slices_IsSorted_string d = some r → ACallX P 10 (s_slices_IsSorted_string.args0 d) (denH (s_slices_IsSorted_string.H0 d)) (s_slices_IsSorted_string.out r) (denH (s_slices_IsSorted_string.H1 r)) := fun d r h => body_sound hm t78_ok (sp := s_slices_IsSorted_string) Tryz.func10 (by kernel_rfl) L_slices_IsSorted_string_2_ok b_slices_IsSorted_string (by kernel_rfl) h
def t79 : Tab := t78.addP s_slices_IsSorted_string
theorem t79_ok : TabOK P t79 := t78_ok.addP (by kernel_rfl) (by kernel_rfl) c_slices_IsSorted_string

/- pileup/club.clubOf -/
def F_club_clubOf (d : List G) : Option (List G) :=
  (bif (!(mhas [.str] (gi d 0).rows [.s (gi d 3).str])) then some [.l (gi d 0).rows, .i (((gi d 1).int.toNat : Nat) : Int), .s (⟨#[]⟩ : ByteArray)] else (callF (F_club_isInside [.l (gi d 2).rows, .l [(gEta KMember (mget [.str] (gi d 0).rows [.s (gi d 3).str] [.s (⟨#[]⟩ : ByteArray), .s (⟨#[]⟩ : ByteArray), .i 0, .s (⟨#[]⟩ : ByteArray)]))]]) fun g1 => (bif (!(gi g1 0).bool) then some [.l (gi d 0).rows, .i (((gi d 1).int.toNat : Nat) : Int), .s (⟨#[]⟩ : ByteArray)] else some [.l (gi d 0).rows, .i (((gi d 1).int.toNat : Nat) : Int), .s (gi (mget [.str] (gi d 0).rows [.s (gi d 3).str] [.s (⟨#[]⟩ : ByteArray), .s (⟨#[]⟩ : ByteArray), .i 0, .s (⟨#[]⟩ : ByteArray)]) 1).str])))
def s_club_clubOf : FSpec := ⟨44, [.s (.list [.str, .list [.str]]), .s (.map 0), .s (.str)], [.map (.one (.str)) (.agg KMember)], [.slot 1], [.s (.str)], [.map (.one (.str)) (.agg KMember)], [.fix 0], [], F_club_clubOf⟩
theorem b_club_clubOf : BodyOK P t79 noLoops Tryz.f44 s_club_clubOf := fun d => by kernel_rfl
theorem c_club_clubOf : ∀ d r, F_club_clubOf d = some r → ACallX P 44 (s_club_clubOf.args0 d) (denH (s_club_clubOf.H0 d)) (s_club_clubOf.out r) (denH (s_club_clubOf.H1 r)) := fun d r h => body_sound hm t79_ok (sp := s_club_clubOf) Tryz.func44 (by kernel_rfl) (noLoops_ok _ _ _) b_club_clubOf (by kernel_rfl) h
def t80 : Tab := t79.addW s_club_clubOf
theorem t80_ok : TabOK P t80 := t79_ok.addW (by kernel_rfl) (by kernel_rfl) c_club_clubOf

/- pileup/club.Of -/
def F_club_Of (d : List G) : Option (List G) :=
  (callF (F_club_CheckMembers [.l (gi d 0).rows, .l (gi d 1).rows]) fun g1 => (bif ((gi g1 0).int != 0) then some [.s (⟨#[]⟩ : ByteArray), .i (gi g1 0).int] else (callF (F_call_Is [.s (gi d 2).str]) fun g2 => (bif (!(gi g2 0).bool) then some [.s (⟨#[]⟩ : ByteArray), .i 3] else (callF (F_club_isDay [.i (gi d 3).int]) fun g3 => (bif (!(gi g3 0).bool) then some [.s (⟨#[]⟩ : ByteArray), .i 1] else (callF (F_club_last_f [.l (gi d 1).rows, .i (gi d 3).int]) fun g4 => (callF (F_call_BaseOf [.s (gi d 2).str]) fun g5 => (callF (F_club_clubOf [.l (gi g4 0).rows, .i (((gi g4 1).int.toNat : Nat) : Int), .l (gi d 0).rows, .s (gi g5 0).str]) fun g6 => some [.s (gi g6 2).str, .i 0])))))))))
def s_club_Of : FSpec := ⟨11, [.s (.list [.str, .list [.str]]), .s (.list KMember), .s (.str), .s (.int .i64)], [], [], [.s (.str), .s (.int .i64)], [], [], [], F_club_Of⟩
theorem b_club_Of : BodyOK P t80 noLoops Tryz.f11 s_club_Of := fun d => by kernel_rfl
theorem c_club_Of : ∀ d r, F_club_Of d = some r → ACallX P 11 (s_club_Of.args0 d) (denH (s_club_Of.H0 d)) (s_club_Of.out r) (denH (s_club_Of.H1 r)) := fun d r h => body_sound hm t80_ok (sp := s_club_Of) Tryz.func11 (by kernel_rfl) (noLoops_ok _ _ _) b_club_Of (by kernel_rfl) h
def t81 : Tab := t80.addP s_club_Of
theorem t81_ok : TabOK P t81 := t80_ok.addP (by kernel_rfl) (by kernel_rfl) c_club_Of

/- slices.Index[[]string,string] -/
def st_slices_Index_string_2 (d : List G) : Option (Option Nat × List G) :=
  (bif (ltI (gi d 3).int (gi d 2).int) then (bif ((nnI (gi d 3).int) && (ltI (gi d 3).int (((gi d 0).rows.length : Nat) : Int))) then (bif ((gi d 1).str.toList == (gi ((gi d 0).rows.getD (((gi d 3).int).toNat) []) 0).str.toList) then some (some 0, [.i (gi d 3).int]) else (bif (inI ((gi d 3).int + 1)) then some (none, [.l (gi d 0).rows, .s (gi d 1).str, .i (gi d 2).int, .i ((gi d 3).int + 1)]) else none)) else none) else some (some 1, []))
def l_slices_Index_string_2 : LSpec := ⟨2, [], ⟨19, [(0, .s (.list [.str])), (1, .s (.str)), (7, .s (.int .i64)), (8, .s (.int .i64))], []⟩, [], [⟨.ret, ⟨19, [(4, .s (.int .i64))], []⟩, []⟩, ⟨.exit 0, ⟨19, [], []⟩, []⟩], st_slices_Index_string_2⟩
theorem r_slices_Index_string_2 : RoundOK P t81 noLoops 0 (loopAt Tryz.f46 2) l_slices_Index_string_2 := fun d => by kernel_rfl
def L_slices_Index_string_2 : LT := noLoops.add 0 l_slices_Index_string_2
theorem L_slices_Index_string_2_ok : LoopsOK P 0 L_slices_Index_string_2 (bodyOf Tryz.f46) := LoopsOK.add hm t81_ok (by kernel_rfl) (noLoops_ok _ _ _) r_slices_Index_string_2
def F_slices_Index_string (d : List G) : Option (List G) :=
  (loopB true (LRun st_slices_Index_string_2 [.l (gi d 0).rows, .s (gi d 1).str, .i (((gi d 0).rows.length : Nat) : Int), .i 0]) fun cg1 g1 => (bif Nat.beq cg1 0 then some [.i (gi g1 0).int] else some [.i (-1)]))
def s_slices_Index_string : FSpec := ⟨46, [.s (.list [.str]), .s (.str)], [], [], [.s (.int .i64)], [], [], [], F_slices_Index_string⟩
theorem b_slices_Index_string : BodyOK P t81 L_slices_Index_string_2 Tryz.f46 s_slices_Index_string := fun d => by kernel_rfl
theorem c_slices_Index_string : ∀ d r, F_slices_Index_string d = some r → ACallX P 46 (s_slices_Index_string.args0 d) (denH (s_slices_Index_string.H0 d)) (s_slices_Index_string.out r) (denH (s_slices_Index_string.H1 r)) := fun d r h => body_sound hm t81_ok (sp := s_slices_Index_string) Tryz.func46 (by kernel_rfl) L_slices_Index_string_2_ok b_slices_Index_string (by kernel_rfl) h
def t82 : Tab := t81.addP s_slices_Index_string
theorem t82_ok : TabOK P t82 := t81_ok.addP (by kernel_rfl) (by kernel_rfl) c_slices_Index_string

/- slices.Contains[[]string,string] -/
def F_slices_Contains_string (d : List G) : Option (List G) :=
  (callF (F_slices_Index_string [.l (gi d 0).rows, .s (gi d 1).str]) fun g1 => some [.t (leI 0 (gi g1 0).int)])
def s_slices_Contains_string : FSpec := ⟨12, [.s (.list [.str]), .s (.str)], [], [], [.s (.bool)], [], [], [], F_slices_Contains_string⟩
theorem b_slices_Contains_string : BodyOK P t82 noLoops Tryz.f12 s_slices_Contains_string := fun d => by kernel_rfl
theorem c_slices_Contains_string : ∀ d r, F_slices_Contains_string d = some r → ACallX P 12 (s_slices_Contains_string.args0 d) (denH (s_slices_Contains_string.H0 d)) (s_slices_Contains_string.out r) (denH (s_slices_Contains_string.H1 r)) := fun d r h => body_sound hm t82_ok (sp := s_slices_Contains_string) Tryz.func12 (by kernel_rfl) (noLoops_ok _ _ _) b_slices_Contains_string (by kernel_rfl) h
def t83 : Tab := t82.addP s_slices_Contains_string
theorem t83_ok : TabOK P t83 := t82_ok.addP (by kernel_rfl) (by kernel_rfl) c_slices_Contains_string

/- pileup/pilekeep2.MembersAreInside$1 -/
def F_pilekeep2_MembersAreInside_1 (d : List G) : Option (List G) :=
  some [.t ((gi (gi d 0).row 0).str.toList == (gi (gi d 1).row 0).str.toList)]
def s_pilekeep2_MembersAreInside_1 : FSpec := ⟨14, [.s (.row [.str, .list [.str]]), .s (.cptr [.str])], [], [], [.s (.bool)], [], [], [], F_pilekeep2_MembersAreInside_1⟩
theorem b_pilekeep2_MembersAreInside_1 : BodyOK P t83 noLoops Tryz.f14 s_pilekeep2_MembersAreInside_1 := fun d => by kernel_rfl
theorem c_pilekeep2_MembersAreInside_1 : ∀ d r, F_pilekeep2_MembersAreInside_1 d = some r → ACallX P 14 (s_pilekeep2_MembersAreInside_1.args0 d) (denH (s_pilekeep2_MembersAreInside_1.H0 d)) (s_pilekeep2_MembersAreInside_1.out r) (denH (s_pilekeep2_MembersAreInside_1.H1 r)) := fun d r h => body_sound hm t83_ok (sp := s_pilekeep2_MembersAreInside_1) Tryz.func14 (by kernel_rfl) (noLoops_ok _ _ _) b_pilekeep2_MembersAreInside_1 (by kernel_rfl) h
def t84 : Tab := t83.addP s_pilekeep2_MembersAreInside_1
theorem t84_ok : TabOK P t84 := t83_ok.addP (by kernel_rfl) (by kernel_rfl) c_pilekeep2_MembersAreInside_1

/- slices.IndexFunc[[]pileup/api.Club,pileup/api.Club] -/
def st_slices_IndexFunc_Club_2_2 (d : List G) : Option (Option Nat × List G) :=
  (bif (ltI (gi d 3).int (gi d 2).int) then (bif ((nnI (gi d 3).int) && (ltI (gi d 3).int (((gi d 0).rows.length : Nat) : Int))) then (callF (F_pilekeep2_MembersAreInside_1 [.l [(gEta [.str, .list [.str]] ((gi d 0).rows.getD (((gi d 3).int).toNat) []))], .l [[.s (gi (gi d 1).row 0).str]]]) fun g1 => (bif (gi g1 0).bool then some (some 0, [.i (gi d 3).int]) else (bif (inI ((gi d 3).int + 1)) then some (none, [.l (gi d 0).rows, .l [[.s (gi (gi d 1).row 0).str]], .i (gi d 2).int, .i ((gi d 3).int + 1)]) else none))) else none) else some (some 1, []))
def l_slices_IndexFunc_Club_2_2 : LSpec := ⟨2, [], ⟨19, [(0, .s (.list [.str, .list [.str]])), (1, .clo 14 [.cptr [.str]]), (7, .s (.int .i64)), (8, .s (.int .i64))], []⟩, [], [⟨.ret, ⟨19, [(4, .s (.int .i64))], []⟩, []⟩, ⟨.exit 0, ⟨19, [], []⟩, []⟩], st_slices_IndexFunc_Club_2_2⟩
theorem r_slices_IndexFunc_Club_2_2 : RoundOK P t84 noLoops 0 (loopAt Tryz.f13 2) l_slices_IndexFunc_Club_2_2 := fun d => by kernel_rfl
def L_slices_IndexFunc_Club_2_2 : LT := noLoops.add 0 l_slices_IndexFunc_Club_2_2
theorem L_slices_IndexFunc_Club_2_2_ok : LoopsOK P 0 L_slices_IndexFunc_Club_2_2 (bodyOf Tryz.f13) := LoopsOK.add hm t84_ok (by kernel_rfl) (noLoops_ok _ _ _) r_slices_IndexFunc_Club_2_2
def F_slices_IndexFunc_Club_2 (d : List G) : Option (List G) :=
  (loopB true (LRun st_slices_IndexFunc_Club_2_2 [.l (gi d 0).rows, .l [[.s (gi (gi d 1).row 0).str]], .i (((gi d 0).rows.length : Nat) : Int), .i 0]) fun cg2 g2 => (bif Nat.beq cg2 0 then some [.i (gi g2 0).int] else some [.i (-1)]))
def s_slices_IndexFunc_Club_2 : FSpec := ⟨13, [.s (.list [.str, .list [.str]]), .clo 14 [.cptr [.str]]], [], [], [.s (.int .i64)], [], [], [], F_slices_IndexFunc_Club_2⟩
theorem b_slices_IndexFunc_Club_2 : BodyOK P t84 L_slices_IndexFunc_Club_2_2 Tryz.f13 s_slices_IndexFunc_Club_2 := fun d => by kernel_rfl
theorem c_slices_IndexFunc_Club_2 : ∀ d r, F_slices_IndexFunc_Club_2 d = some r → ACallX P 13 (s_slices_IndexFunc_Club_2.args0 d) (denH (s_slices_IndexFunc_Club_2.H0 d)) (s_slices_IndexFunc_Club_2.out r) (denH (s_slices_IndexFunc_Club_2.H1 r)) := fun d r h => body_sound hm t84_ok (sp := s_slices_IndexFunc_Club_2) Tryz.func13 (by kernel_rfl) L_slices_IndexFunc_Club_2_2_ok b_slices_IndexFunc_Club_2 (by kernel_rfl) h
def t85 : Tab := t84.addP s_slices_IndexFunc_Club_2
theorem t85_ok : TabOK P t85 := t84_ok.addP (by kernel_rfl) (by kernel_rfl) c_slices_IndexFunc_Club_2

/- pileup/pilekeep2.MembersAreInside$2$1 -/
def F_pilekeep2_MembersAreInside_2_1 (d : List G) : Option (List G) :=
  (callF (F_strings_HasPrefix [.s (gi (gi d 1).row 3).str, .s (gi d 0).str]) fun g1 => some [.t (gi g1 0).bool])
def s_pilekeep2_MembersAreInside_2_1 : FSpec := ⟨18, [.s (.str), .s (.cptr KMember)], [], [], [.s (.bool)], [], [], [], F_pilekeep2_MembersAreInside_2_1⟩
theorem b_pilekeep2_MembersAreInside_2_1 : BodyOK P t85 noLoops Tryz.f18 s_pilekeep2_MembersAreInside_2_1 := fun d => by kernel_rfl
theorem c_pilekeep2_MembersAreInside_2_1 : ∀ d r, F_pilekeep2_MembersAreInside_2_1 d = some r → ACallX P 18 (s_pilekeep2_MembersAreInside_2_1.args0 d) (denH (s_pilekeep2_MembersAreInside_2_1.H0 d)) (s_pilekeep2_MembersAreInside_2_1.out r) (denH (s_pilekeep2_MembersAreInside_2_1.H1 r)) := fun d r h => body_sound hm t85_ok (sp := s_pilekeep2_MembersAreInside_2_1) Tryz.func18 (by kernel_rfl) (noLoops_ok _ _ _) b_pilekeep2_MembersAreInside_2_1 (by kernel_rfl) h
def t86 : Tab := t85.addP s_pilekeep2_MembersAreInside_2_1
theorem t86_ok : TabOK P t86 := t85_ok.addP (by kernel_rfl) (by kernel_rfl) c_pilekeep2_MembersAreInside_2_1

/- slices.IndexFunc[[]string,string] -/
def st_slices_IndexFunc_string_2_2 (d : List G) : Option (Option Nat × List G) :=
  (bif (ltI (gi d 3).int (gi d 2).int) then (bif ((nnI (gi d 3).int) && (ltI (gi d 3).int (((gi d 0).rows.length : Nat) : Int))) then (callF (F_pilekeep2_MembersAreInside_2_1 [.s (gi ((gi d 0).rows.getD (((gi d 3).int).toNat) []) 0).str, .l [(gEta KMember (gi d 1).row)]]) fun g1 => (bif (gi g1 0).bool then some (some 0, [.i (gi d 3).int]) else (bif (inI ((gi d 3).int + 1)) then some (none, [.l (gi d 0).rows, .l [(gEta KMember (gi d 1).row)], .i (gi d 2).int, .i ((gi d 3).int + 1)]) else none))) else none) else some (some 1, []))
def l_slices_IndexFunc_string_2_2 : LSpec := ⟨2, [], ⟨19, [(0, .s (.list [.str])), (1, .clo 18 [.cptr KMember]), (7, .s (.int .i64)), (8, .s (.int .i64))], []⟩, [], [⟨.ret, ⟨19, [(4, .s (.int .i64))], []⟩, []⟩, ⟨.exit 0, ⟨19, [], []⟩, []⟩], st_slices_IndexFunc_string_2_2⟩
theorem r_slices_IndexFunc_string_2_2 : RoundOK P t86 noLoops 0 (loopAt Tryz.f48 2) l_slices_IndexFunc_string_2_2 := fun d => by kernel_rfl
def L_slices_IndexFunc_string_2_2 : LT := noLoops.add 0 l_slices_IndexFunc_string_2_2
theorem L_slices_IndexFunc_string_2_2_ok : LoopsOK P 0 L_slices_IndexFunc_string_2_2 (bodyOf Tryz.f48) := LoopsOK.add hm t86_ok (by kernel_rfl) (noLoops_ok _ _ _) r_slices_IndexFunc_string_2_2
def F_slices_IndexFunc_string_2 (d : List G) : Option (List G) :=
  (loopB true (LRun st_slices_IndexFunc_string_2_2 [.l (gi d 0).rows, .l [(gEta KMember (gi d 1).row)], .i (((gi d 0).rows.length : Nat) : Int), .i 0]) fun cg2 g2 => (bif Nat.beq cg2 0 then some [.i (gi g2 0).int] else some [.i (-1)]))
def s_slices_IndexFunc_string_2 : FSpec := ⟨48, [.s (.list [.str]), .clo 18 [.cptr KMember]], [], [], [.s (.int .i64)], [], [], [], F_slices_IndexFunc_string_2⟩
theorem b_slices_IndexFunc_string_2 : BodyOK P t86 L_slices_IndexFunc_string_2_2 Tryz.f48 s_slices_IndexFunc_string_2 := fun d => by kernel_rfl
theorem c_slices_IndexFunc_string_2 : ∀ d r, F_slices_IndexFunc_string_2 d = some r → ACallX P 48 (s_slices_IndexFunc_string_2.args0 d) (denH (s_slices_IndexFunc_string_2.H0 d)) (s_slices_IndexFunc_string_2.out r) (denH (s_slices_IndexFunc_string_2.H1 r)) := fun d r h => body_sound hm t86_ok (sp := s_slices_IndexFunc_string_2) Tryz.func48 (by kernel_rfl) L_slices_IndexFunc_string_2_2_ok b_slices_IndexFunc_string_2 (by kernel_rfl) h
def t87 : Tab := t86.addP s_slices_IndexFunc_string_2
theorem t87_ok : TabOK P t87 := t86_ok.addP (by kernel_rfl) (by kernel_rfl) c_slices_IndexFunc_string_2

/- slices.ContainsFunc[[]string,string] -/
def F_slices_ContainsFunc_string_2 (d : List G) : Option (List G) :=
  (callF (F_slices_IndexFunc_string_2 [.l (gi d 0).rows, .l [(gEta KMember (gi d 1).row)]]) fun g1 => some [.t (leI 0 (gi g1 0).int)])
def s_slices_ContainsFunc_string_2 : FSpec := ⟨17, [.s (.list [.str]), .clo 18 [.cptr KMember]], [], [], [.s (.bool)], [], [], [], F_slices_ContainsFunc_string_2⟩
theorem b_slices_ContainsFunc_string_2 : BodyOK P t87 noLoops Tryz.f17 s_slices_ContainsFunc_string_2 := fun d => by kernel_rfl
theorem c_slices_ContainsFunc_string_2 : ∀ d r, F_slices_ContainsFunc_string_2 d = some r → ACallX P 17 (s_slices_ContainsFunc_string_2.args0 d) (denH (s_slices_ContainsFunc_string_2.H0 d)) (s_slices_ContainsFunc_string_2.out r) (denH (s_slices_ContainsFunc_string_2.H1 r)) := fun d r h => body_sound hm t87_ok (sp := s_slices_ContainsFunc_string_2) Tryz.func17 (by kernel_rfl) (noLoops_ok _ _ _) b_slices_ContainsFunc_string_2 (by kernel_rfl) h
def t88 : Tab := t87.addP s_slices_ContainsFunc_string_2
theorem t88_ok : TabOK P t88 := t87_ok.addP (by kernel_rfl) (by kernel_rfl) c_slices_ContainsFunc_string_2

/- pileup/pilekeep2.MembersAreInside$2 -/
def F_pilekeep2_MembersAreInside_2 (d : List G) : Option (List G) :=
  (bif ((gi (gi d 0).row 0).str.toList == (gi (gi d 1).row 0).str.toList) then (bif ((gi (gi d 0).row 1).str.toList == (gi (gi d 2).row 0).str.toList) then (bif (leI (gi (gi d 0).row 2).int (gi (gi d 3).row 0).int) then (bif ((nnI (gi (gi d 5).row 0).int) && (ltI (gi (gi d 5).row 0).int (((gi (gi d 4).row 0).rows.length : Nat) : Int))) then (callF (F_slices_ContainsFunc_string_2 [.l (gi ((gi (gi d 4).row 0).rows.getD (((gi (gi d 5).row 0).int).toNat) []) 1).rows, .l [(gEta KMember (gi d 0).row)]]) fun g1 => some [.t (gi g1 0).bool]) else none) else some [.t false]) else some [.t false]) else some [.t false])
def s_pilekeep2_MembersAreInside_2 : FSpec := ⟨16, [.s (.row KMember), .s (.cptr [.str]), .s (.cptr [.str]), .s (.cptr [.int .i64]), .s (.cptr [.list [.str, .list [.str]]]), .s (.cptr [.int .i64])], [], [], [.s (.bool)], [], [], [], F_pilekeep2_MembersAreInside_2⟩
theorem b_pilekeep2_MembersAreInside_2 : BodyOK P (t88.lessPf [17]) noLoops Tryz.f16 s_pilekeep2_MembersAreInside_2 := fun d => by kernel_rfl
theorem c_pilekeep2_MembersAreInside_2 : ∀ d r, F_pilekeep2_MembersAreInside_2 d = some r → ACallX P 16 (s_pilekeep2_MembersAreInside_2.args0 d) (denH (s_pilekeep2_MembersAreInside_2.H0 d)) (s_pilekeep2_MembersAreInside_2.out r) (denH (s_pilekeep2_MembersAreInside_2.H1 r)) := fun d r h => body_sound hm (t88_ok.lessPf [17]) (sp := s_pilekeep2_MembersAreInside_2) Tryz.func16 (by kernel_rfl) (noLoops_ok _ _ _) b_pilekeep2_MembersAreInside_2 (by kernel_rfl) h
def t89 : Tab := t88.addP s_pilekeep2_MembersAreInside_2
theorem t89_ok : TabOK P t89 := t88_ok.addP (by kernel_rfl) (by kernel_rfl) c_pilekeep2_MembersAreInside_2

/- slices.IndexFunc[[]pileup/api.Member,pileup/api.Member] -/
def st_slices_IndexFunc_Member_2 (d : List G) : Option (Option Nat × List G) :=
  (bif (ltI (gi d 7).int (gi d 6).int) then (bif ((nnI (gi d 7).int) && (ltI (gi d 7).int (((gi d 0).rows.length : Nat) : Int))) then (callF (F_pilekeep2_MembersAreInside_2 [.l [(gEta KMember ((gi d 0).rows.getD (((gi d 7).int).toNat) []))], .l [[.s (gi (gi d 1).row 0).str]], .l [[.s (gi (gi d 2).row 0).str]], .l [[.i (gi (gi d 3).row 0).int]], .l [[.l (gi (gi d 4).row 0).rows]], .l [[.i (gi (gi d 5).row 0).int]]]) fun g1 => (bif (gi g1 0).bool then some (some 0, [.i (gi d 7).int]) else (bif (inI ((gi d 7).int + 1)) then some (none, [.l (gi d 0).rows, .l [[.s (gi (gi d 1).row 0).str]], .l [[.s (gi (gi d 2).row 0).str]], .l [[.i (gi (gi d 3).row 0).int]], .l [[.l (gi (gi d 4).row 0).rows]], .l [[.i (gi (gi d 5).row 0).int]], .i (gi d 6).int, .i ((gi d 7).int + 1)]) else none))) else none) else some (some 1, []))
def l_slices_IndexFunc_Member_2 : LSpec := ⟨2, [], ⟨19, [(0, .s (.list KMember)), (1, .clo 16 [.cptr [.str], .cptr [.str], .cptr [.int .i64], .cptr [.list [.str, .list [.str]]], .cptr [.int .i64]]), (7, .s (.int .i64)), (8, .s (.int .i64))], []⟩, [], [⟨.ret, ⟨19, [(4, .s (.int .i64))], []⟩, []⟩, ⟨.exit 0, ⟨19, [], []⟩, []⟩], st_slices_IndexFunc_Member_2⟩
theorem r_slices_IndexFunc_Member_2 : RoundOK P t89 noLoops 0 (loopAt Tryz.f47 2) l_slices_IndexFunc_Member_2 := fun d => by kernel_rfl
def L_slices_IndexFunc_Member_2 : LT := noLoops.add 0 l_slices_IndexFunc_Member_2
theorem L_slices_IndexFunc_Member_2_ok : LoopsOK P 0 L_slices_IndexFunc_Member_2 (bodyOf Tryz.f47) := LoopsOK.add hm t89_ok (by kernel_rfl) (noLoops_ok _ _ _) r_slices_IndexFunc_Member_2
def F_slices_IndexFunc_Member (d : List G) : Option (List G) :=
  (loopB true (LRun st_slices_IndexFunc_Member_2 [.l (gi d 0).rows, .l [[.s (gi (gi d 1).row 0).str]], .l [[.s (gi (gi d 2).row 0).str]], .l [[.i (gi (gi d 3).row 0).int]], .l [[.l (gi (gi d 4).row 0).rows]], .l [[.i (gi (gi d 5).row 0).int]], .i (((gi d 0).rows.length : Nat) : Int), .i 0]) fun cg2 g2 => (bif Nat.beq cg2 0 then some [.i (gi g2 0).int] else some [.i (-1)]))
def s_slices_IndexFunc_Member : FSpec := ⟨47, [.s (.list KMember), .clo 16 [.cptr [.str], .cptr [.str], .cptr [.int .i64], .cptr [.list [.str, .list [.str]]], .cptr [.int .i64]]], [], [], [.s (.int .i64)], [], [], [], F_slices_IndexFunc_Member⟩
theorem b_slices_IndexFunc_Member : BodyOK P t89 L_slices_IndexFunc_Member_2 Tryz.f47 s_slices_IndexFunc_Member := fun d => by kernel_rfl
theorem c_slices_IndexFunc_Member : ∀ d r, F_slices_IndexFunc_Member d = some r → ACallX P 47 (s_slices_IndexFunc_Member.args0 d) (denH (s_slices_IndexFunc_Member.H0 d)) (s_slices_IndexFunc_Member.out r) (denH (s_slices_IndexFunc_Member.H1 r)) := fun d r h => body_sound hm t89_ok (sp := s_slices_IndexFunc_Member) Tryz.func47 (by kernel_rfl) L_slices_IndexFunc_Member_2_ok b_slices_IndexFunc_Member (by kernel_rfl) h
def t90 : Tab := t89.addP s_slices_IndexFunc_Member
theorem t90_ok : TabOK P t90 := t89_ok.addP (by kernel_rfl) (by kernel_rfl) c_slices_IndexFunc_Member

/- slices.ContainsFunc[[]pileup/api.Member,pileup/api.Member] -/
def F_slices_ContainsFunc_Member (d : List G) : Option (List G) :=
  (callF (F_slices_IndexFunc_Member [.l (gi d 0).rows, .l [[.s (gi (gi d 1).row 0).str]], .l [[.s (gi (gi d 2).row 0).str]], .l [[.i (gi (gi d 3).row 0).int]], .l [[.l (gi (gi d 4).row 0).rows]], .l [[.i (gi (gi d 5).row 0).int]]]) fun g1 => some [.t (leI 0 (gi g1 0).int)])
def s_slices_ContainsFunc_Member : FSpec := ⟨15, [.s (.list KMember), .clo 16 [.cptr [.str], .cptr [.str], .cptr [.int .i64], .cptr [.list [.str, .list [.str]]], .cptr [.int .i64]]], [], [], [.s (.bool)], [], [], [], F_slices_ContainsFunc_Member⟩
theorem b_slices_ContainsFunc_Member : BodyOK P t90 noLoops Tryz.f15 s_slices_ContainsFunc_Member := fun d => by kernel_rfl
theorem c_slices_ContainsFunc_Member : ∀ d r, F_slices_ContainsFunc_Member d = some r → ACallX P 15 (s_slices_ContainsFunc_Member.args0 d) (denH (s_slices_ContainsFunc_Member.H0 d)) (s_slices_ContainsFunc_Member.out r) (denH (s_slices_ContainsFunc_Member.H1 r)) := fun d r h => body_sound hm t90_ok (sp := s_slices_ContainsFunc_Member) Tryz.func15 (by kernel_rfl) (noLoops_ok _ _ _) b_slices_ContainsFunc_Member (by kernel_rfl) h
def t91 : Tab := t90.addP s_slices_ContainsFunc_Member
theorem t91_ok : TabOK P t91 := t90_ok.addP (by kernel_rfl) (by kernel_rfl) c_slices_ContainsFunc_Member

/- pileup/pilekeep2.MembersAreInside -/
def st_pilekeep2_MembersAreInside_10 (d : List G) : Option (Option Nat × List G) :=
  (bif (ltI (gi d 6).int (gi d 5).int) then (bif ((nnI (gi d 6).int) && (ltI (gi d 6).int (((gi d 4).rows.length : Nat) : Int))) then (bif (Nat.ble ((gi ((gi d 4).rows.getD (((gi d 6).int).toNat) []) 0).str.size + 2) 9223372036854775807) then (callF (F_club_Of [.l (gi d 0).rows, .l (gi d 2).rows, .s ((gi ((gi d 4).rows.getD (((gi d 6).int).toNat) []) 0).str ++ (⟨#[47, 112]⟩ : ByteArray)), .i (gi d 1).int]) fun g8 => (bif ((gi g8 1).int != 0) then some (some 0, [.t false]) else (bif (!((gi g8 0).str.toList == (⟨#[]⟩ : ByteArray).toList)) then (callF (F_slices_Contains_string [.l (gi d 3).rows, .s (gi ((gi d 4).rows.getD (((gi d 6).int).toNat) []) 0).str]) fun g9 => (bif (gi g9 0).bool then some (some 0, [.t false]) else (callF (F_slices_IndexFunc_Club_2 [.l (gi d 0).rows, .l [[.s (gi g8 0).str]]]) fun g10 => (bif (!((gi g8 0).str.toList == (⟨#[]⟩ : ByteArray).toList)) then (bif (ltI (gi g10 0).int 0) then some (some 0, [.t false]) else (callF (F_slices_ContainsFunc_Member [.l (gi d 2).rows, .l [[.s (gi ((gi d 4).rows.getD (((gi d 6).int).toNat) []) 0).str]], .l [[.s (gi g8 0).str]], .l [[.i (gi d 1).int]], .l [[.l (gi d 0).rows]], .l [[.i (gi g10 0).int]]]) fun g11 => (bif (!(gi g11 0).bool) then some (some 0, [.t false]) else (bif (inI ((gi d 6).int + 1)) then some (none, [.l (gi d 0).rows, .i (gi d 1).int, .l (gi d 2).rows, .l (gi d 3).rows, .l (gi d 4).rows, .i (gi d 5).int, .i ((gi d 6).int + 1)]) else none)))) else (bif (inI ((gi d 6).int + 1)) then some (none, [.l (gi d 0).rows, .i (gi d 1).int, .l (gi d 2).rows, .l (gi d 3).rows, .l (gi d 4).rows, .i (gi d 5).int, .i ((gi d 6).int + 1)]) else none))))) else (callF (F_slices_IndexFunc_Club_2 [.l (gi d 0).rows, .l [[.s (gi g8 0).str]]]) fun g12 => (bif (!((gi g8 0).str.toList == (⟨#[]⟩ : ByteArray).toList)) then (bif (ltI (gi g12 0).int 0) then some (some 0, [.t false]) else (callF (F_slices_ContainsFunc_Member [.l (gi d 2).rows, .l [[.s (gi ((gi d 4).rows.getD (((gi d 6).int).toNat) []) 0).str]], .l [[.s (gi g8 0).str]], .l [[.i (gi d 1).int]], .l [[.l (gi d 0).rows]], .l [[.i (gi g12 0).int]]]) fun g13 => (bif (!(gi g13 0).bool) then some (some 0, [.t false]) else (bif (inI ((gi d 6).int + 1)) then some (none, [.l (gi d 0).rows, .i (gi d 1).int, .l (gi d 2).rows, .l (gi d 3).rows, .l (gi d 4).rows, .i (gi d 5).int, .i ((gi d 6).int + 1)]) else none)))) else (bif (inI ((gi d 6).int + 1)) then some (none, [.l (gi d 0).rows, .i (gi d 1).int, .l (gi d 2).rows, .l (gi d 3).rows, .l (gi d 4).rows, .i (gi d 5).int, .i ((gi d 6).int + 1)]) else none)))))) else none) else none) else some (some 1, []))
def l_pilekeep2_MembersAreInside_10 : LSpec := ⟨10, [], ⟨86, [(4, .s (.ptr 0 0)), (5, .s (.list KMember)), (6, .s (.ptr 1 0)), (7, .s (.list [.str])), (43, .s (.list [.str])), (44, .s (.int .i64)), (45, .s (.int .i64))], [.box [.list [.str, .list [.str]]], .box [.int .i64]]⟩, [.slot 4, .slot 6], [⟨.ret, ⟨86, [(2, .s (.bool))], []⟩, []⟩, ⟨.exit 0, ⟨86, [], []⟩, []⟩], st_pilekeep2_MembersAreInside_10⟩
theorem r_pilekeep2_MembersAreInside_10 : RoundOK P (t91.lessPf [13, 15]) noLoops 0 (loopAt Tryz.f3 10) l_pilekeep2_MembersAreInside_10 := fun d => by kernel_rfl
def L_pilekeep2_MembersAreInside_10 : LT := noLoops.add 0 l_pilekeep2_MembersAreInside_10
theorem L_pilekeep2_MembersAreInside_10_ok : LoopsOK P 0 L_pilekeep2_MembersAreInside_10 (bodyOf Tryz.f3) := LoopsOK.add hm (t91_ok.lessPf [13, 15]) (by kernel_rfl) (noLoops_ok _ _ _) r_pilekeep2_MembersAreInside_10
def F_pilekeep2_MembersAreInside (d : List G) : Option (List G) :=
  (callF (F_pilemake_Stream_RightClubs [.l (gi d 0).rows, .i 0]) fun g1 => (callF (F_pilemake_Stream_Members [.l (gi g1 0).rows, .i (gi g1 1).int, .l (gi g1 2).rows]) fun g2 => (callF (F_pilemake_Stream_Range [.l (gi g2 0).rows, .i (gi g2 1).int, .i 0, .i 12]) fun g3 => (callF (F_pileref2_MembersFault [.l (gi g1 2).rows, .l (gi g2 2).rows]) fun g4 => (bif ((gi g4 0).int != 0) then (callF (F_pilekeep2_ready []) fun g5 => some [.t (gi g5 0).bool]) else (callF (F_club_Outside [.l (gi g1 2).rows, .l (gi g2 2).rows, .i (gi g3 2).int]) fun g6 => (bif ((gi g6 1).int != 0) then some [.t false] else (callF (F_slices_IsSorted_string [.l (gi g6 0).rows]) fun g7 => (bif (!(gi g7 0).bool) then some [.t false] else (loopB true (LRun st_pilekeep2_MembersAreInside_10 [.l (gi g1 2).rows, .i (gi g3 2).int, .l (gi g2 2).rows, .l (gi g6 0).rows, .l [[.s (⟨#[107, 49, 97, 98]⟩ : ByteArray)], [.s (⟨#[111, 104, 50, 97, 98, 99]⟩ : ByteArray)], [.s (⟨#[111, 104, 50, 97, 98, 100]⟩ : ByteArray)], [.s (⟨#[119, 49, 97, 119]⟩ : ByteArray)]], .i 4, .i 0]) fun cg14 g14 => (bif Nat.beq cg14 0 then some [.t (gi g14 0).bool] else (callF (F_pilekeep2_ready []) fun g15 => some [.t (gi g15 0).bool]))))))))))))
def s_pilekeep2_MembersAreInside : FSpec := ⟨3, [.s (.list [.int .i64])], [], [], [.s (.bool)], [], [], [], F_pilekeep2_MembersAreInside⟩
theorem b_pilekeep2_MembersAreInside : BodyOK P (t91.lessPf [13, 15]) L_pilekeep2_MembersAreInside_10 Tryz.f3 s_pilekeep2_MembersAreInside := fun d => by kernel_rfl
theorem c_pilekeep2_MembersAreInside : ∀ d r, F_pilekeep2_MembersAreInside d = some r → ACallX P 3 (s_pilekeep2_MembersAreInside.args0 d) (denH (s_pilekeep2_MembersAreInside.H0 d)) (s_pilekeep2_MembersAreInside.out r) (denH (s_pilekeep2_MembersAreInside.H1 r)) := fun d r h => body_sound hm (t91_ok.lessPf [13, 15]) (sp := s_pilekeep2_MembersAreInside) Tryz.func3 (by kernel_rfl) L_pilekeep2_MembersAreInside_10_ok b_pilekeep2_MembersAreInside (by kernel_rfl) h
def t92 : Tab := t91.addP s_pilekeep2_MembersAreInside
theorem t92_ok : TabOK P t92 := t91_ok.addP (by kernel_rfl) (by kernel_rfl) c_pilekeep2_MembersAreInside

end
end Go.Proofs.SYteljhjdcaaebcaaGreatDoor
