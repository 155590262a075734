/-
  What is proved here: functions of the program as functions on data. No condition.
-/
import Derived.Test.YtpfhjchbegdgdaaGreatDoorML2
set_option linter.unusedSimpArgs false
set_option linter.unusedVariables false
namespace Go.Proofs.SYtpfhjchbegdgdaaGreatDoor
open Go Go.AL Go.Proofs
/- pileup/pileref2.Moment -/
def F_pileref2_Moment (d : List G) : Option (List G) :=
  (callF (F_pileref2_in [.i (gi d 0).int, .i 0, .i 345686399999]) fun g1 => some [.t (gi g1 0).bool])
noncomputable def s_pileref2_Moment : FSpec := ⟨111, [.s (.int .i64)], [], [], [.s (.bool)], [], [], [], F_pileref2_Moment⟩
theorem b_pileref2_Moment : BodyOK P t50 noLoops Tryz.f111 s_pileref2_Moment := fun d => by kernel_rfl
theorem c_pileref2_Moment : ∀ d r, F_pileref2_Moment d = some r → ACallX P 111 (s_pileref2_Moment.args0 d) (denH (s_pileref2_Moment.H0 d)) (s_pileref2_Moment.out r) (denH (s_pileref2_Moment.H1 r)) := fun d r h => body_sound hm t50_ok (sp := s_pileref2_Moment) Tryz.func111 (by kernel_rfl) (noLoops_ok _ _ _) b_pileref2_Moment (by kernel_rfl) h
noncomputable def t51 : Tab := t50.addP s_pileref2_Moment
theorem t51_ok : TabOK P t51 := t50_ok.addP (by kernel_rfl) (by kernel_rfl) c_pileref2_Moment

/- pileup/pileref2.only -/
def st_pileref2_only_2 (d : List G) : Option (Option Nat × List G) :=
  (bif (ltI (gi d 3).int (gi d 2).int) then (bif ((nnI (gi d 3).int) && (ltI (gi d 3).int (((gi d 0).str.size : Nat) : Int))) then (callF (F_strings_IndexByte [.s (gi d 1).str, .i (((gi d 0).str.data.toList.getD (((gi d 3).int).toNat) 0).toNat : Int)]) fun g1 => (bif (ltI (gi g1 0).int 0) then some (some 0, [.t false]) else (bif (inI ((gi d 3).int + 1)) then some (none, [.s (gi d 0).str, .s (gi d 1).str, .i (gi d 2).int, .i ((gi d 3).int + 1)]) else none))) else none) else some (some 1, []))
noncomputable def l_pileref2_only_2 : LSpec := ⟨2, [], ⟨18, [(0, .s (.str)), (1, .s (.str)), (7, .s (.int .i64)), (8, .s (.int .i64))], []⟩, [], [⟨.ret, ⟨18, [(4, .s (.bool))], []⟩, []⟩, ⟨.exit 0, ⟨18, [], []⟩, []⟩], st_pileref2_only_2⟩
theorem r_pileref2_only_2 : RoundOK P t51 noLoops 0 (loopAt Tryz.f185 2) l_pileref2_only_2 := fun d => by kernel_rfl
noncomputable def L_pileref2_only_2 : LT := noLoops.add 0 l_pileref2_only_2
theorem L_pileref2_only_2_ok : LoopsOK P 0 L_pileref2_only_2 (bodyOf Tryz.f185) := LoopsOK.add hm t51_ok (by kernel_rfl) (noLoops_ok _ _ _) r_pileref2_only_2
def F_pileref2_only (d : List G) : Option (List G) :=
  (loopB true (LRun st_pileref2_only_2 [.s (gi d 0).str, .s (gi d 1).str, .i (((gi d 0).str.size : Nat) : Int), .i 0]) fun cg2 g2 => (bif Nat.beq cg2 0 then some [.t (gi g2 0).bool] else some [.t true]))
noncomputable def s_pileref2_only : FSpec := ⟨185, [.s (.str), .s (.str)], [], [], [.s (.bool)], [], [], [], F_pileref2_only⟩
theorem b_pileref2_only : BodyOK P t51 L_pileref2_only_2 Tryz.f185 s_pileref2_only := fun d => by kernel_rfl
theorem c_pileref2_only : ∀ d r, F_pileref2_only d = some r → ACallX P 185 (s_pileref2_only.args0 d) (denH (s_pileref2_only.H0 d)) (s_pileref2_only.out r) (denH (s_pileref2_only.H1 r)) := fun d r h => body_sound hm t51_ok (sp := s_pileref2_only) Tryz.func185 (by kernel_rfl) L_pileref2_only_2_ok b_pileref2_only (by kernel_rfl) h
noncomputable def t52 : Tab := t51.addP s_pileref2_only
theorem t52_ok : TabOK P t52 := t51_ok.addP (by kernel_rfl) (by kernel_rfl) c_pileref2_only

/- pileup/pileref2.Key -/
def F_pileref2_Key (d : List G) : Option (List G) :=
  (callF (F_pileref2_in [.i (((gi d 0).str.size : Nat) : Int), .i 1, .i 40]) fun g1 => (bif (gi g1 0).bool then (bif (leI 1 (((gi d 0).str.size : Nat) : Int)) then (callF (F_pileref2_only [.s ((gi d 0).str.extract 0 1), .s (⟨#[97, 98, 99, 100, 101, 102, 103, 104, 105, 106, 107, 108, 109, 110, 111, 112, 113, 114, 115, 116, 117, 118, 119, 120, 121, 122]⟩ : ByteArray)]) fun g2 => (bif (gi g2 0).bool then (callF (F_pileref2_only [.s (gi d 0).str, .s (⟨#[97, 98, 99, 100, 101, 102, 103, 104, 105, 106, 107, 108, 109, 110, 111, 112, 113, 114, 115, 116, 117, 118, 119, 120, 121, 122, 48, 49, 50, 51, 52, 53, 54, 55, 56, 57, 45, 95]⟩ : ByteArray)]) fun g3 => some [.t (gi g3 0).bool]) else some [.t false])) else none) else some [.t false]))
noncomputable def s_pileref2_Key : FSpec := ⟨112, [.s (.str)], [], [], [.s (.bool)], [], [], [], F_pileref2_Key⟩
theorem b_pileref2_Key : BodyOK P t52 noLoops Tryz.f112 s_pileref2_Key := fun d => by kernel_rfl
theorem c_pileref2_Key : ∀ d r, F_pileref2_Key d = some r → ACallX P 112 (s_pileref2_Key.args0 d) (denH (s_pileref2_Key.H0 d)) (s_pileref2_Key.out r) (denH (s_pileref2_Key.H1 r)) := fun d r h => body_sound hm t52_ok (sp := s_pileref2_Key) Tryz.func112 (by kernel_rfl) (noLoops_ok _ _ _) b_pileref2_Key (by kernel_rfl) h
noncomputable def t53 : Tab := t52.addP s_pileref2_Key
theorem t53_ok : TabOK P t53 := t52_ok.addP (by kernel_rfl) (by kernel_rfl) c_pileref2_Key

/- pileup/pileref2.Call -/
def F_pileref2_Call (d : List G) : Option (List G) :=
  (callF (F_pileref1_PartsOf [.s (gi d 0).str]) fun g1 => some [.t (gi g1 1).bool])
noncomputable def s_pileref2_Call : FSpec := ⟨113, [.s (.str)], [], [], [.s (.bool)], [], [], [], F_pileref2_Call⟩
theorem b_pileref2_Call : BodyOK P t53 noLoops Tryz.f113 s_pileref2_Call := fun d => by kernel_rfl
theorem c_pileref2_Call : ∀ d r, F_pileref2_Call d = some r → ACallX P 113 (s_pileref2_Call.args0 d) (denH (s_pileref2_Call.H0 d)) (s_pileref2_Call.out r) (denH (s_pileref2_Call.H1 r)) := fun d r h => body_sound hm t53_ok (sp := s_pileref2_Call) Tryz.func113 (by kernel_rfl) (noLoops_ok _ _ _) b_pileref2_Call (by kernel_rfl) h
noncomputable def t54 : Tab := t53.addP s_pileref2_Call
theorem t54_ok : TabOK P t54 := t53_ok.addP (by kernel_rfl) (by kernel_rfl) c_pileref2_Call

/- pileup/pileref2.ContactFault -/
def F_pileref2_ContactFault (d : List G) : Option (List G) :=
  (callF (F_pileref2_Moment [.i (gi (gi d 0).row 0).int]) fun g1 => (bif (!(gi g1 0).bool) then some [.i 1] else (callF (F_pileref2_in [.i (gi (gi d 0).row 1).int, .i 1, .i 3]) fun g2 => (bif (!(gi g2 0).bool) then some [.i 4] else (callF (F_pileref2_Key [.s (gi (gi d 0).row 2).str]) fun g3 => (bif (!(gi g3 0).bool) then some [.i 5] else (callF (F_pileref2_Call [.s (gi (gi d 0).row 3).str]) fun g4 => (bif (!(gi g4 0).bool) then some [.i 3] else (callF (F_pileref2_in [.i (gi (gi d 0).row 4).int, .i 0, .i 99999]) fun g5 => (bif (!(gi g5 0).bool) then some [.i 1] else (callF (F_pileref2_in [.i (gi (gi d 0).row 5).int, .i 0, .i 99999]) fun g6 => (bif (!(gi g6 0).bool) then some [.i 1] else (bif (!((gi (gi d 0).row 6).str.toList == (⟨#[]⟩ : ByteArray).toList)) then (callF (F_pileref2_Key [.s (gi (gi d 0).row 6).str]) fun g7 => (bif (!(gi g7 0).bool) then some [.i 5] else (bif (!((gi (gi d 0).row 7).str.toList == (⟨#[]⟩ : ByteArray).toList)) then (callF (F_pileref2_Key [.s (gi (gi d 0).row 7).str]) fun g8 => (bif (!(gi g8 0).bool) then some [.i 5] else some [.i 0])) else some [.i 0]))) else (bif (!((gi (gi d 0).row 7).str.toList == (⟨#[]⟩ : ByteArray).toList)) then (callF (F_pileref2_Key [.s (gi (gi d 0).row 7).str]) fun g9 => (bif (!(gi g9 0).bool) then some [.i 5] else some [.i 0])) else some [.i 0]))))))))))))))
noncomputable def s_pileref2_ContactFault : FSpec := ⟨45, [.s (.row KContact)], [], [], [.s (.int .i64)], [], [], [], F_pileref2_ContactFault⟩
theorem b_pileref2_ContactFault : BodyOK P t54 noLoops Tryz.f45 s_pileref2_ContactFault := fun d => by kernel_rfl
theorem c_pileref2_ContactFault : ∀ d r, F_pileref2_ContactFault d = some r → ACallX P 45 (s_pileref2_ContactFault.args0 d) (denH (s_pileref2_ContactFault.H0 d)) (s_pileref2_ContactFault.out r) (denH (s_pileref2_ContactFault.H1 r)) := fun d r h => body_sound hm t54_ok (sp := s_pileref2_ContactFault) Tryz.func45 (by kernel_rfl) (noLoops_ok _ _ _) b_pileref2_ContactFault (by kernel_rfl) h
noncomputable def t55 : Tab := t54.addP s_pileref2_ContactFault
theorem t55_ok : TabOK P t55 := t54_ok.addP (by kernel_rfl) (by kernel_rfl) c_pileref2_ContactFault

/- pileup/pileref2.LogFault -/
def st_pileref2_LogFault_4 (d : List G) : Option (Option Nat × List G) :=
  (bif (ltI (gi d 3).int (gi d 2).int) then (bif ((nnI (gi d 3).int) && (ltI (gi d 3).int (((gi d 1).rows.length : Nat) : Int))) then (callF (F_pileref2_ContactFault [.l [(gEta KContact ((gi d 1).rows.getD (((gi d 3).int).toNat) []))]]) fun g1 => (bif ((gi g1 0).int != 0) then some (some 0, [.i (gi g1 0).int]) else (bif (ltI 0 (gi d 3).int) then (bif (inI ((gi d 3).int - 1)) then (bif ((nnI ((gi d 3).int - 1)) && (ltI ((gi d 3).int - 1) (((gi d 0).rows.length : Nat) : Int))) then (callF (F_pileref2_ContactOrder [.l [(gEta KContact ((gi d 0).rows.getD (((gi d 3).int - 1).toNat) []))], .l [(gEta KContact ((gi d 1).rows.getD (((gi d 3).int).toNat) []))]]) fun g2 => (bif (leI 0 (gi g2 0).int) then some (some 0, [.i 7]) else (bif (inI ((gi d 3).int + 1)) then some (none, [.l (gi d 0).rows, .l (gi d 1).rows, .i (gi d 2).int, .i ((gi d 3).int + 1)]) else none))) else none) else none) else (bif (inI ((gi d 3).int + 1)) then some (none, [.l (gi d 0).rows, .l (gi d 1).rows, .i (gi d 2).int, .i ((gi d 3).int + 1)]) else none)))) else none) else some (some 1, []))
noncomputable def l_pileref2_LogFault_4 : LSpec := ⟨4, [], ⟨34, [(0, .s (.list KContact)), (9, .s (.list KContact)), (10, .s (.int .i64)), (11, .s (.int .i64))], []⟩, [], [⟨.ret, ⟨34, [(2, .s (.int .i64))], []⟩, []⟩, ⟨.exit 0, ⟨34, [], []⟩, []⟩], st_pileref2_LogFault_4⟩
theorem r_pileref2_LogFault_4 : RoundOK P t55 noLoops 0 (loopAt Tryz.f23 4) l_pileref2_LogFault_4 := fun d => by kernel_rfl
noncomputable def L_pileref2_LogFault_4 : LT := noLoops.add 0 l_pileref2_LogFault_4
theorem L_pileref2_LogFault_4_ok : LoopsOK P 0 L_pileref2_LogFault_4 (bodyOf Tryz.f23) := LoopsOK.add hm t55_ok (by kernel_rfl) (noLoops_ok _ _ _) r_pileref2_LogFault_4
def F_pileref2_LogFault (d : List G) : Option (List G) :=
  (bif (ltI 2000 (((gi d 0).rows.length : Nat) : Int)) then some [.i 2] else (loopB true (LRun st_pileref2_LogFault_4 [.l (gi d 0).rows, .l (gi d 0).rows, .i (((gi d 0).rows.length : Nat) : Int), .i 0]) fun cg3 g3 => (bif Nat.beq cg3 0 then some [.i (gi g3 0).int] else some [.i 0])))
noncomputable def s_pileref2_LogFault : FSpec := ⟨23, [.s (.list KContact)], [], [], [.s (.int .i64)], [], [], [], F_pileref2_LogFault⟩
theorem b_pileref2_LogFault : BodyOK P t55 L_pileref2_LogFault_4 Tryz.f23 s_pileref2_LogFault := fun d => by kernel_rfl
theorem c_pileref2_LogFault : ∀ d r, F_pileref2_LogFault d = some r → ACallX P 23 (s_pileref2_LogFault.args0 d) (denH (s_pileref2_LogFault.H0 d)) (s_pileref2_LogFault.out r) (denH (s_pileref2_LogFault.H1 r)) := fun d r h => body_sound hm t55_ok (sp := s_pileref2_LogFault) Tryz.func23 (by kernel_rfl) L_pileref2_LogFault_4_ok b_pileref2_LogFault (by kernel_rfl) h
noncomputable def t56 : Tab := t55.addP s_pileref2_LogFault
theorem t56_ok : TabOK P t56 := t55_ok.addP (by kernel_rfl) (by kernel_rfl) c_pileref2_LogFault

/- pileup/pilelaw2.errs -/
def st_pilelaw2_errs_2 (d : List G) : Option (Option Nat × List G) :=
  (bif (ltI (gi d 2).int (gi d 1).int) then (bif ((nnI (gi d 2).int) && (ltI (gi d 2).int (((gi d 0).rows.length : Nat) : Int))) then (bif ((gi ((gi d 0).rows.getD (((gi d 2).int).toNat) []) 0).int != 0) then some (some 0, [.i (gi ((gi d 0).rows.getD (((gi d 2).int).toNat) []) 0).int]) else (bif (inI ((gi d 2).int + 1)) then some (none, [.l (gi d 0).rows, .i (gi d 1).int, .i ((gi d 2).int + 1)]) else none)) else none) else some (some 1, []))
noncomputable def l_pilelaw2_errs_2 : LSpec := ⟨2, [], ⟨15, [(5, .s (.list [.int .i64])), (6, .s (.int .i64)), (7, .s (.int .i64))], []⟩, [], [⟨.ret, ⟨15, [(2, .s (.int .i64))], []⟩, []⟩, ⟨.exit 0, ⟨15, [], []⟩, []⟩], st_pilelaw2_errs_2⟩
theorem r_pilelaw2_errs_2 : RoundOK P t56 noLoops 0 (loopAt Tryz.f24 2) l_pilelaw2_errs_2 := fun d => by kernel_rfl
noncomputable def L_pilelaw2_errs_2 : LT := noLoops.add 0 l_pilelaw2_errs_2
theorem L_pilelaw2_errs_2_ok : LoopsOK P 0 L_pilelaw2_errs_2 (bodyOf Tryz.f24) := LoopsOK.add hm t56_ok (by kernel_rfl) (noLoops_ok _ _ _) r_pilelaw2_errs_2
def F_pilelaw2_errs (d : List G) : Option (List G) :=
  (loopB true (LRun st_pilelaw2_errs_2 [.l (gi d 0).rows, .i (((gi d 0).rows.length : Nat) : Int), .i 0]) fun cg1 g1 => (bif Nat.beq cg1 0 then some [.i (gi g1 0).int] else some [.i 0]))
noncomputable def s_pilelaw2_errs : FSpec := ⟨24, [.s (.list [.int .i64])], [], [], [.s (.int .i64)], [], [], [], F_pilelaw2_errs⟩
theorem b_pilelaw2_errs : BodyOK P t56 L_pilelaw2_errs_2 Tryz.f24 s_pilelaw2_errs := fun d => by kernel_rfl
theorem c_pilelaw2_errs : ∀ d r, F_pilelaw2_errs d = some r → ACallX P 24 (s_pilelaw2_errs.args0 d) (denH (s_pilelaw2_errs.H0 d)) (s_pilelaw2_errs.out r) (denH (s_pilelaw2_errs.H1 r)) := fun d r h => body_sound hm t56_ok (sp := s_pilelaw2_errs) Tryz.func24 (by kernel_rfl) L_pilelaw2_errs_2_ok b_pilelaw2_errs (by kernel_rfl) h
noncomputable def t57 : Tab := t56.addP s_pilelaw2_errs
theorem t57_ok : TabOK P t57 := t56_ok.addP (by kernel_rfl) (by kernel_rfl) c_pilelaw2_errs

/- pileup/pileref2.LogsOf -/
def st_pileref2_LogsOf_5 (d : List G) : Option (Option Nat × List G) :=
  (bif (ltI (gi d 3).int (gi d 2).int) then (bif (ltI 0 (gi d 3).int) then (bif (inI ((gi d 3).int - 1)) then (bif ((nnI ((gi d 3).int - 1)) && (ltI ((gi d 3).int - 1) (((gi d 1).int.toNat : Nat) : Int))) then (bif (decide ((0 + ((gi d 3).int - 1).toNat) < (gi d 0).rows.length)) then (bif ((nnI (gi d 3).int) && (ltI (gi d 3).int (((gi d 1).int.toNat : Nat) : Int))) then (bif (decide ((0 + ((gi d 3).int).toNat) < (gi d 0).rows.length)) then (callF (F_pileref2_ContactOrder [.l [(gEta KContact ((gi d 0).rows.getD (0 + ((gi d 3).int - 1).toNat) []))], .l [(gEta KContact ((gi d 0).rows.getD (0 + ((gi d 3).int).toNat) []))]]) fun g4 => (bif ((gi g4 0).int == 0) then some (some 0, [.l [], .i 13]) else (bif (inI ((gi d 3).int + 1)) then some (none, [.l (gi d 0).rows, .i (((gi d 1).int.toNat : Nat) : Int), .i (gi d 2).int, .i ((gi d 3).int + 1)]) else none))) else none) else none) else none) else none) else none) else (bif (inI ((gi d 3).int + 1)) then some (none, [.l (gi d 0).rows, .i (((gi d 1).int.toNat : Nat) : Int), .i (gi d 2).int, .i ((gi d 3).int + 1)]) else none)) else some (some 1, [.l (gi d 0).rows, .i (((gi d 1).int.toNat : Nat) : Int)]))
noncomputable def l_pileref2_LogsOf_5 : LSpec := ⟨5, [], ⟨41, [(6, .s (.pre 0 8)), (17, .s (.int .i64)), (18, .s (.int .i64))], [.vec KContact 0]⟩, [.slot 6], [⟨.ret, ⟨41, [(4, .s (.list KContact)), (5, .s (.int .i64))], []⟩, []⟩, ⟨.exit 0, ⟨41, [(6, .s (.pre 0 8))], [.vec KContact 0]⟩, [.slot 6]⟩], st_pileref2_LogsOf_5⟩
theorem r_pileref2_LogsOf_5 : RoundOK P t57 noLoops 0 (loopAt Tryz.f42 5) l_pileref2_LogsOf_5 := fun d => by kernel_rfl
noncomputable def L_pileref2_LogsOf_5 : LT := noLoops.add 0 l_pileref2_LogsOf_5
theorem L_pileref2_LogsOf_5_ok : LoopsOK P 0 L_pileref2_LogsOf_5 (bodyOf Tryz.f42) := LoopsOK.add hm t57_ok (by kernel_rfl) (noLoops_ok _ _ _) r_pileref2_LogsOf_5
def F_pileref2_LogsOf (d : List G) : Option (List G) :=
  (callF (F_slices_Concat_Contact_f [.l [[.l (gi d 0).rows], [.l (gi d 1).rows]]]) fun g1 => (callB (((Nat.beq (gi g1 0).rows.length (gi g1 0).rows.length) && true) && (F_slices_SortStableFunc_Contact [.l (gi g1 0).rows]).isSome) (F_slices_SortStableFunc_Contact [.l (gi g1 0).rows]) fun g2 => (callB (((Nat.beq (gi g1 0).rows.length (gi g2 0).rows.length) && true) && (F_slices_Compact_Contact [.l (gi g2 0).rows]).isSome) (F_slices_Compact_Contact [.l (gi g2 0).rows]) fun g3 => (loopB true (LRun st_pileref2_LogsOf_5 [.l (gi g3 0).rows, .i (((gi g3 1).int.toNat : Nat) : Int), .i (((gi g3 1).int.toNat : Nat) : Int), .i 0]) fun cg5 g5 => (bif Nat.beq cg5 0 then some [.l (gi g5 0).rows, .i (gi g5 1).int] else (bif (ltI 2000 (((gi g5 1).int.toNat : Nat) : Int)) then some [.l [], .i 2] else (bif ((Nat.ble (gi g5 1).int.toNat (gi g5 0).rows.length) && true) then some [.l ((gi g5 0).rows.take ((gi g5 1).int.toNat)), .i 0] else none)))))))
noncomputable def s_pileref2_LogsOf : FSpec := ⟨42, [.s (.list KContact), .s (.list KContact)], [], [], [.s (.lpre KContact), .s (.int .i64)], [], [], [], F_pileref2_LogsOf⟩
theorem b_pileref2_LogsOf : BodyOK P t57 L_pileref2_LogsOf_5 Tryz.f42 s_pileref2_LogsOf := fun d => by kernel_rfl
theorem c_pileref2_LogsOf : ∀ d r, F_pileref2_LogsOf d = some r → ACallX P 42 (s_pileref2_LogsOf.args0 d) (denH (s_pileref2_LogsOf.H0 d)) (s_pileref2_LogsOf.out r) (denH (s_pileref2_LogsOf.H1 r)) := fun d r h => body_sound hm t57_ok (sp := s_pileref2_LogsOf) Tryz.func42 (by kernel_rfl) L_pileref2_LogsOf_5_ok b_pileref2_LogsOf (by kernel_rfl) h
noncomputable def t58 : Tab := t57.addP s_pileref2_LogsOf
theorem t58_ok : TabOK P t58 := t57_ok.addP (by kernel_rfl) (by kernel_rfl) c_pileref2_LogsOf

/- slices.Index[[]pileup/api.Contact,pileup/api.Contact] -/
def st_slices_Index_Contact_2 (d : List G) : Option (Option Nat × List G) :=
  (bif (ltI (gi d 10).int (gi d 9).int) then (bif ((nnI (gi d 10).int) && (ltI (gi d 10).int (((gi d 8).rows.length : Nat) : Int))) then (bif (rowEq KContact (gEta KContact d) (gEta KContact ((gi d 8).rows.getD (((gi d 10).int).toNat) []))) then some (some 0, [.i (gi d 10).int]) else (bif (inI ((gi d 10).int + 1)) then some (none, [.i (gi d 0).int, .i (gi d 1).int, .s (gi d 2).str, .s (gi d 3).str, .i (gi d 4).int, .i (gi d 5).int, .s (gi d 6).str, .s (gi d 7).str, .l (gi d 8).rows, .i (gi d 9).int, .i ((gi d 10).int + 1)]) else none)) else none) else some (some 1, []))
noncomputable def l_slices_Index_Contact_2 : LSpec := ⟨2, [], ⟨19, [(0, .s (.list KContact)), (3, .s (.ptr 0 0)), (7, .s (.int .i64)), (8, .s (.int .i64))], [.box [.int .i64, .int .i64, .str, .str, .int .i64, .int .i64, .str, .str]]⟩, [.slot 3], [⟨.ret, ⟨19, [(4, .s (.int .i64))], []⟩, []⟩, ⟨.exit 0, ⟨19, [], []⟩, []⟩], st_slices_Index_Contact_2⟩
theorem r_slices_Index_Contact_2 : RoundOK P t58 noLoops 0 (loopAt Tryz.f181 2) l_slices_Index_Contact_2 := fun d => by kernel_rfl
noncomputable def L_slices_Index_Contact_2 : LT := noLoops.add 0 l_slices_Index_Contact_2
theorem L_slices_Index_Contact_2_ok : LoopsOK P 0 L_slices_Index_Contact_2 (bodyOf Tryz.f181) := LoopsOK.add hm t58_ok (by kernel_rfl) (noLoops_ok _ _ _) r_slices_Index_Contact_2
def F_slices_Index_Contact (d : List G) : Option (List G) :=
  (loopB true (LRun st_slices_Index_Contact_2 [.i (gi (gi d 1).row 0).int, .i (gi (gi d 1).row 1).int, .s (gi (gi d 1).row 2).str, .s (gi (gi d 1).row 3).str, .i (gi (gi d 1).row 4).int, .i (gi (gi d 1).row 5).int, .s (gi (gi d 1).row 6).str, .s (gi (gi d 1).row 7).str, .l (gi d 0).rows, .i (((gi d 0).rows.length : Nat) : Int), .i 0]) fun cg1 g1 => (bif Nat.beq cg1 0 then some [.i (gi g1 0).int] else some [.i (-1)]))
noncomputable def s_slices_Index_Contact : FSpec := ⟨181, [.s (.list KContact), .s (.row KContact)], [], [], [.s (.int .i64)], [], [], [], F_slices_Index_Contact⟩
theorem b_slices_Index_Contact : BodyOK P t58 L_slices_Index_Contact_2 Tryz.f181 s_slices_Index_Contact := fun d => by kernel_rfl
theorem c_slices_Index_Contact : ∀ d r, F_slices_Index_Contact d = some r → ACallX P 181 (s_slices_Index_Contact.args0 d) (denH (s_slices_Index_Contact.H0 d)) (s_slices_Index_Contact.out r) (denH (s_slices_Index_Contact.H1 r)) := fun d r h => body_sound hm t58_ok (sp := s_slices_Index_Contact) Tryz.func181 (by kernel_rfl) L_slices_Index_Contact_2_ok b_slices_Index_Contact (by kernel_rfl) h
noncomputable def t59 : Tab := t58.addP s_slices_Index_Contact
theorem t59_ok : TabOK P t59 := t58_ok.addP (by kernel_rfl) (by kernel_rfl) c_slices_Index_Contact

/- slices.Contains[[]pileup/api.Contact,pileup/api.Contact] -/
def F_slices_Contains_Contact (d : List G) : Option (List G) :=
  (callF (F_slices_Index_Contact [.l (gi d 0).rows, .l [(gEta KContact (gi d 1).row)]]) fun g1 => some [.t (leI 0 (gi g1 0).int)])
noncomputable def s_slices_Contains_Contact : FSpec := ⟨105, [.s (.list KContact), .s (.row KContact)], [], [], [.s (.bool)], [], [], [], F_slices_Contains_Contact⟩
theorem b_slices_Contains_Contact : BodyOK P t59 noLoops Tryz.f105 s_slices_Contains_Contact := fun d => by kernel_rfl
theorem c_slices_Contains_Contact : ∀ d r, F_slices_Contains_Contact d = some r → ACallX P 105 (s_slices_Contains_Contact.args0 d) (denH (s_slices_Contains_Contact.H0 d)) (s_slices_Contains_Contact.out r) (denH (s_slices_Contains_Contact.H1 r)) := fun d r h => body_sound hm t59_ok (sp := s_slices_Contains_Contact) Tryz.func105 (by kernel_rfl) (noLoops_ok _ _ _) b_slices_Contains_Contact (by kernel_rfl) h
noncomputable def t60 : Tab := t59.addP s_slices_Contains_Contact
theorem t60_ok : TabOK P t60 := t59_ok.addP (by kernel_rfl) (by kernel_rfl) c_slices_Contains_Contact

/- pileup/pileref2.LackingOf$1 -/
def F_pileref2_LackingOf_1 (d : List G) : Option (List G) :=
  (callF (F_slices_Contains_Contact [.l (gi (gi d 1).row 0).rows, .l [(gEta KContact (gi d 0).row)]]) fun g1 => some [.t (gi g1 0).bool])
noncomputable def s_pileref2_LackingOf_1 : FSpec := ⟨104, [.s (.row KContact), .s (.cptr [.list KContact])], [], [], [.s (.bool)], [], [], [], F_pileref2_LackingOf_1⟩
theorem b_pileref2_LackingOf_1 : BodyOK P t60 noLoops Tryz.f104 s_pileref2_LackingOf_1 := fun d => by kernel_rfl
theorem c_pileref2_LackingOf_1 : ∀ d r, F_pileref2_LackingOf_1 d = some r → ACallX P 104 (s_pileref2_LackingOf_1.args0 d) (denH (s_pileref2_LackingOf_1.H0 d)) (s_pileref2_LackingOf_1.out r) (denH (s_pileref2_LackingOf_1.H1 r)) := fun d r h => body_sound hm t60_ok (sp := s_pileref2_LackingOf_1) Tryz.func104 (by kernel_rfl) (noLoops_ok _ _ _) b_pileref2_LackingOf_1 (by kernel_rfl) h
noncomputable def t61 : Tab := t60.addP s_pileref2_LackingOf_1
theorem t61_ok : TabOK P t61 := t60_ok.addP (by kernel_rfl) (by kernel_rfl) c_pileref2_LackingOf_1

/- slices.IndexFunc[[]pileup/api.Contact,pileup/api.Contact] -/
def st_slices_IndexFunc_Contact_2 (d : List G) : Option (Option Nat × List G) :=
  (bif (ltI (gi d 3).int (gi d 2).int) then (bif ((nnI (gi d 3).int) && (ltI (gi d 3).int (((gi d 0).rows.length : Nat) : Int))) then (callF (F_pileref2_LackingOf_1 [.l [(gEta KContact ((gi d 0).rows.getD (((gi d 3).int).toNat) []))], .l [[.l (gi (gi d 1).row 0).rows]]]) fun g1 => (bif (gi g1 0).bool then some (some 0, [.i (gi d 3).int]) else (bif (inI ((gi d 3).int + 1)) then some (none, [.l (gi d 0).rows, .l [[.l (gi (gi d 1).row 0).rows]], .i (gi d 2).int, .i ((gi d 3).int + 1)]) else none))) else none) else some (some 1, []))
noncomputable def l_slices_IndexFunc_Contact_2 : LSpec := ⟨2, [], ⟨19, [(0, .s (.list KContact)), (1, .clo 104 [.cptr [.list KContact]]), (7, .s (.int .i64)), (8, .s (.int .i64))], []⟩, [], [⟨.ret, ⟨19, [(4, .s (.int .i64))], []⟩, []⟩, ⟨.exit 0, ⟨19, [], []⟩, []⟩], st_slices_IndexFunc_Contact_2⟩
theorem r_slices_IndexFunc_Contact_2 : RoundOK P t61 noLoops 0 (loopAt Tryz.f176 2) l_slices_IndexFunc_Contact_2 := fun d => by kernel_rfl
noncomputable def L_slices_IndexFunc_Contact_2 : LT := noLoops.add 0 l_slices_IndexFunc_Contact_2
theorem L_slices_IndexFunc_Contact_2_ok : LoopsOK P 0 L_slices_IndexFunc_Contact_2 (bodyOf Tryz.f176) := LoopsOK.add hm t61_ok (by kernel_rfl) (noLoops_ok _ _ _) r_slices_IndexFunc_Contact_2
def F_slices_IndexFunc_Contact (d : List G) : Option (List G) :=
  (loopB true (LRun st_slices_IndexFunc_Contact_2 [.l (gi d 0).rows, .l [[.l (gi (gi d 1).row 0).rows]], .i (((gi d 0).rows.length : Nat) : Int), .i 0]) fun cg2 g2 => (bif Nat.beq cg2 0 then some [.i (gi g2 0).int] else some [.i (-1)]))
noncomputable def s_slices_IndexFunc_Contact : FSpec := ⟨176, [.s (.list KContact), .clo 104 [.cptr [.list KContact]]], [], [], [.s (.int .i64)], [], [], [], F_slices_IndexFunc_Contact⟩
theorem b_slices_IndexFunc_Contact : BodyOK P t61 L_slices_IndexFunc_Contact_2 Tryz.f176 s_slices_IndexFunc_Contact := fun d => by kernel_rfl
theorem c_slices_IndexFunc_Contact : ∀ d r, F_slices_IndexFunc_Contact d = some r → ACallX P 176 (s_slices_IndexFunc_Contact.args0 d) (denH (s_slices_IndexFunc_Contact.H0 d)) (s_slices_IndexFunc_Contact.out r) (denH (s_slices_IndexFunc_Contact.H1 r)) := fun d r h => body_sound hm t61_ok (sp := s_slices_IndexFunc_Contact) Tryz.func176 (by kernel_rfl) L_slices_IndexFunc_Contact_2_ok b_slices_IndexFunc_Contact (by kernel_rfl) h
noncomputable def t62 : Tab := t61.addP s_slices_IndexFunc_Contact
theorem t62_ok : TabOK P t62 := t61_ok.addP (by kernel_rfl) (by kernel_rfl) c_slices_IndexFunc_Contact

/- slices.DeleteFunc[[]pileup/api.Contact,pileup/api.Contact] -/
def st_slices_DeleteFunc_Contact_5 (d : List G) : Option (Option Nat × List G) :=
  (bif (ltI (gi d 3).int (((gi d 0).rows.length : Nat) : Int)) then (bif ((nnI (gi d 3).int) && (ltI (gi d 3).int (((gi d 0).rows.length : Nat) : Int))) then (bif (decide ((0 + ((gi d 3).int).toNat) < (gi d 0).rows.length)) then (callF (F_pileref2_LackingOf_1 [.l [(gEta KContact ((gi d 0).rows.getD (0 + ((gi d 3).int).toNat) []))], .l [[.l (gi (gi d 1).row 0).rows]]]) fun g2 => (bif (!(gi g2 0).bool) then (bif ((nnI (gi d 2).int) && (ltI (gi d 2).int (((gi d 0).rows.length : Nat) : Int))) then (bif (decide ((0 + ((gi d 2).int).toNat) < (gi d 0).rows.length)) then (bif (inI ((gi d 2).int + 1)) then (bif (inI ((gi d 3).int + 1)) then (bif ((Nat.beq (gi d 0).rows.length ((gi d 0).rows.set (0 + ((gi d 2).int).toNat) (putG KContact ((gi d 0).rows.getD (0 + ((gi d 2).int).toNat) []) 0 (gEta KContact ((gi d 0).rows.getD (0 + ((gi d 3).int).toNat) [])))).length) && true) then some (none, [.l ((gi d 0).rows.set (0 + ((gi d 2).int).toNat) (putG KContact ((gi d 0).rows.getD (0 + ((gi d 2).int).toNat) []) 0 (gEta KContact ((gi d 0).rows.getD (0 + ((gi d 3).int).toNat) [])))), .l [[.l (gi (gi d 1).row 0).rows]], .i ((gi d 2).int + 1), .i ((gi d 3).int + 1)]) else none) else none) else none) else none) else none) else (bif (inI ((gi d 3).int + 1)) then (bif ((Nat.beq (gi d 0).rows.length (gi d 0).rows.length) && true) then some (none, [.l (gi d 0).rows, .l [[.l (gi (gi d 1).row 0).rows]], .i (gi d 2).int, .i ((gi d 3).int + 1)]) else none) else none))) else none) else none) else (bif ((Nat.beq (gi d 0).rows.length (gi d 0).rows.length) && true) then some (some 0, [.l (gi d 0).rows, .i (gi d 2).int]) else none))
noncomputable def l_slices_DeleteFunc_Contact_5 : LSpec := ⟨5, [], ⟨42, [(0, .s (.vec 0 8)), (1, .clo 104 [.cptr [.list KContact]]), (5, .s (.int .i64)), (6, .s (.int .i64))], [.vec KContact 0]⟩, [.fix 0], [⟨.exit 0, ⟨42, [(0, .s (.vec 0 8)), (5, .s (.int .i64))], [.vec KContact 0]⟩, [.fix 0]⟩], st_slices_DeleteFunc_Contact_5⟩
theorem r_slices_DeleteFunc_Contact_5 : RoundOK P (t62.lessPf [176]) noLoops 1 (loopAt Tryz.f103 5) l_slices_DeleteFunc_Contact_5 := fun d => by kernel_rfl
noncomputable def L_slices_DeleteFunc_Contact_5 : LT := noLoops.add 1 l_slices_DeleteFunc_Contact_5
theorem L_slices_DeleteFunc_Contact_5_ok : LoopsOK P 1 L_slices_DeleteFunc_Contact_5 (bodyOf Tryz.f103) := LoopsOK.add hm (t62_ok.lessPf [176]) (by kernel_rfl) (noLoops_ok _ _ _) r_slices_DeleteFunc_Contact_5
def F_slices_DeleteFunc_Contact (d : List G) : Option (List G) :=
  (callB (((Nat.beq (gi d 0).rows.length (gi d 0).rows.length) && true) && (F_slices_IndexFunc_Contact [.l (gi d 0).rows, .l [[.l (gi (gi d 1).row 0).rows]]]).isSome) (F_slices_IndexFunc_Contact [.l (gi d 0).rows, .l [[.l (gi (gi d 1).row 0).rows]]]) fun g1 => (bif ((gi g1 0).int == (-1)) then some [.l (gi d 0).rows, .i (((gi d 0).rows.length : Nat) : Int)] else (bif (inI ((gi g1 0).int + 1)) then (loopB ((Nat.beq (gi d 0).rows.length (gi d 0).rows.length) && true) (LRun st_slices_DeleteFunc_Contact_5 [.l (gi d 0).rows, .l [[.l (gi (gi d 1).row 0).rows]], .i (gi g1 0).int, .i ((gi g1 0).int + 1)]) fun cg3 g3 => (bif ((nnI (gi g3 1).int) && (leI (gi g3 1).int (((gi g3 0).rows.length : Nat) : Int))) then (bif (Nat.ble ((0 + ((gi g3 1).int).toNat) + ((gi g3 0).rows.length - ((gi g3 1).int).toNat)) (gi g3 0).rows.length) then (bif ((nnI (gi g3 1).int) && (leI (gi g3 1).int (((gi g3 0).rows.length : Nat) : Int))) then some [.l ((gi g3 0).rows.take (0 + ((gi g3 1).int).toNat) ++ List.replicate ((gi g3 0).rows.length - ((gi g3 1).int).toNat) [.i 0, .i 0, .s (⟨#[]⟩ : ByteArray), .s (⟨#[]⟩ : ByteArray), .i 0, .i 0, .s (⟨#[]⟩ : ByteArray), .s (⟨#[]⟩ : ByteArray)] ++ (gi g3 0).rows.drop ((0 + ((gi g3 1).int).toNat) + ((gi g3 0).rows.length - ((gi g3 1).int).toNat))), .i (((((gi g3 1).int).toNat - 0) : Nat) : Int)] else none) else none) else none)) else none)))
noncomputable def s_slices_DeleteFunc_Contact : FSpec := ⟨103, [.s (.vec 0 8), .clo 104 [.cptr [.list KContact]]], [.vec KContact 0], [.slot 0], [.s (.pre 0 8)], [.vec KContact 0], [.fix 0], [], F_slices_DeleteFunc_Contact⟩
theorem b_slices_DeleteFunc_Contact : BodyOK P (t62.lessPf [176]) L_slices_DeleteFunc_Contact_5 Tryz.f103 s_slices_DeleteFunc_Contact := fun d => by kernel_rfl
theorem c_slices_DeleteFunc_Contact : ∀ d r, F_slices_DeleteFunc_Contact d = some r → ACallX P 103 (s_slices_DeleteFunc_Contact.args0 d) (denH (s_slices_DeleteFunc_Contact.H0 d)) (s_slices_DeleteFunc_Contact.out r) (denH (s_slices_DeleteFunc_Contact.H1 r)) := fun d r h => body_sound hm (t62_ok.lessPf [176]) (sp := s_slices_DeleteFunc_Contact) Tryz.func103 (by kernel_rfl) L_slices_DeleteFunc_Contact_5_ok b_slices_DeleteFunc_Contact (by kernel_rfl) h
noncomputable def t63 : Tab := t62.addW s_slices_DeleteFunc_Contact
theorem t63_ok : TabOK P t63 := t62_ok.addW (by kernel_rfl) (by kernel_rfl) c_slices_DeleteFunc_Contact

/- pileup/pileref2.LackingOf -/
def F_pileref2_LackingOf (d : List G) : Option (List G) :=
  (callF (F_slices_Clone_Contact_f [.l (gi d 1).rows]) fun g1 => (callB (((Nat.beq (gi g1 0).rows.length (gi g1 0).rows.length) && true) && (F_slices_DeleteFunc_Contact [.l (gi g1 0).rows, .l [[.l (gi d 0).rows]]]).isSome) (F_slices_DeleteFunc_Contact [.l (gi g1 0).rows, .l [[.l (gi d 0).rows]]]) fun g2 => (bif ((Nat.ble (gi g2 1).int.toNat (gi g2 0).rows.length) && true) then some [.l ((gi g2 0).rows.take ((gi g2 1).int.toNat))] else none)))
noncomputable def s_pileref2_LackingOf : FSpec := ⟨43, [.s (.list KContact), .s (.list KContact)], [], [], [.s (.lpre KContact)], [], [], [], F_pileref2_LackingOf⟩
theorem b_pileref2_LackingOf : BodyOK P t63 noLoops Tryz.f43 s_pileref2_LackingOf := fun d => by kernel_rfl
theorem c_pileref2_LackingOf : ∀ d r, F_pileref2_LackingOf d = some r → ACallX P 43 (s_pileref2_LackingOf.args0 d) (denH (s_pileref2_LackingOf.H0 d)) (s_pileref2_LackingOf.out r) (denH (s_pileref2_LackingOf.H1 r)) := fun d r h => body_sound hm t63_ok (sp := s_pileref2_LackingOf) Tryz.func43 (by kernel_rfl) (noLoops_ok _ _ _) b_pileref2_LackingOf (by kernel_rfl) h
noncomputable def t64 : Tab := t63.addP s_pileref2_LackingOf
theorem t64_ok : TabOK P t64 := t63_ok.addP (by kernel_rfl) (by kernel_rfl) c_pileref2_LackingOf

/- slices.Equal[[]pileup/api.Contact,pileup/api.Contact] -/
def st_slices_Equal_Contact_4 (d : List G) : Option (Option Nat × List G) :=
  (bif (ltI (gi d 3).int (gi d 2).int) then (bif ((nnI (gi d 3).int) && (ltI (gi d 3).int (((gi d 0).rows.length : Nat) : Int))) then (bif ((nnI (gi d 3).int) && (ltI (gi d 3).int (((gi d 1).rows.length : Nat) : Int))) then (bif (!(rowEq KContact (gEta KContact ((gi d 0).rows.getD (((gi d 3).int).toNat) [])) (gEta KContact ((gi d 1).rows.getD (((gi d 3).int).toNat) [])))) then some (some 0, [.t false]) else (bif (inI ((gi d 3).int + 1)) then some (none, [.l (gi d 0).rows, .l (gi d 1).rows, .i (gi d 2).int, .i ((gi d 3).int + 1)]) else none)) else none) else none) else some (some 1, []))
noncomputable def l_slices_Equal_Contact_4 : LSpec := ⟨4, [], ⟨26, [(0, .s (.list KContact)), (1, .s (.list KContact)), (12, .s (.int .i64)), (13, .s (.int .i64))], []⟩, [], [⟨.ret, ⟨26, [(4, .s (.bool))], []⟩, []⟩, ⟨.exit 0, ⟨26, [], []⟩, []⟩], st_slices_Equal_Contact_4⟩
theorem r_slices_Equal_Contact_4 : RoundOK P t64 noLoops 0 (loopAt Tryz.f34 4) l_slices_Equal_Contact_4 := fun d => by kernel_rfl
noncomputable def L_slices_Equal_Contact_4 : LT := noLoops.add 0 l_slices_Equal_Contact_4
theorem L_slices_Equal_Contact_4_ok : LoopsOK P 0 L_slices_Equal_Contact_4 (bodyOf Tryz.f34) := LoopsOK.add hm t64_ok (by kernel_rfl) (noLoops_ok _ _ _) r_slices_Equal_Contact_4
def F_slices_Equal_Contact (d : List G) : Option (List G) :=
  (bif ((((gi d 0).rows.length : Nat) : Int) != (((gi d 1).rows.length : Nat) : Int)) then some [.t false] else (loopB true (LRun st_slices_Equal_Contact_4 [.l (gi d 0).rows, .l (gi d 1).rows, .i (((gi d 0).rows.length : Nat) : Int), .i 0]) fun cg1 g1 => (bif Nat.beq cg1 0 then some [.t (gi g1 0).bool] else some [.t true])))
noncomputable def s_slices_Equal_Contact : FSpec := ⟨34, [.s (.list KContact), .s (.list KContact)], [], [], [.s (.bool)], [], [], [], F_slices_Equal_Contact⟩
theorem b_slices_Equal_Contact : BodyOK P t64 L_slices_Equal_Contact_4 Tryz.f34 s_slices_Equal_Contact := fun d => by kernel_rfl
theorem c_slices_Equal_Contact : ∀ d r, F_slices_Equal_Contact d = some r → ACallX P 34 (s_slices_Equal_Contact.args0 d) (denH (s_slices_Equal_Contact.H0 d)) (s_slices_Equal_Contact.out r) (denH (s_slices_Equal_Contact.H1 r)) := fun d r h => body_sound hm t64_ok (sp := s_slices_Equal_Contact) Tryz.func34 (by kernel_rfl) L_slices_Equal_Contact_4_ok b_slices_Equal_Contact (by kernel_rfl) h
noncomputable def t65 : Tab := t64.addP s_slices_Equal_Contact
theorem t65_ok : TabOK P t65 := t64_ok.addP (by kernel_rfl) (by kernel_rfl) c_slices_Equal_Contact

/- pileup/call.BaseOf -/
def F_call_BaseOf (d : List G) : Option (List G) :=
  (callF (F_call_Parts [.s (gi d 0).str]) fun g1 => some [.s (gi (gi g1 0).row 0).str])
noncomputable def s_call_BaseOf : FSpec := ⟨175, [.s (.str)], [], [], [.s (.str)], [], [], [], F_call_BaseOf⟩
theorem b_call_BaseOf : BodyOK P t65 noLoops Tryz.f175 s_call_BaseOf := fun d => by kernel_rfl
theorem c_call_BaseOf : ∀ d r, F_call_BaseOf d = some r → ACallX P 175 (s_call_BaseOf.args0 d) (denH (s_call_BaseOf.H0 d)) (s_call_BaseOf.out r) (denH (s_call_BaseOf.H1 r)) := fun d r h => body_sound hm t65_ok (sp := s_call_BaseOf) Tryz.func175 (by kernel_rfl) (noLoops_ok _ _ _) b_call_BaseOf (by kernel_rfl) h
noncomputable def t66 : Tab := t65.addP s_call_BaseOf
theorem t66_ok : TabOK P t66 := t65_ok.addP (by kernel_rfl) (by kernel_rfl) c_call_BaseOf

/- pileup/log.dupes -/
def st_log_dupes_4 (d : List G) : Option (Option Nat × List G) :=
  (bif (ltI (gi d 5).int (gi d 4).int) then (bif ((nnI (gi d 5).int) && (ltI (gi d 5).int (((gi d 3).rows.length : Nat) : Int))) then (callF (F_call_BaseOf [.s (gi ((gi d 3).rows.getD (((gi d 5).int).toNat) []) 3).str]) fun g1 => (bif (gi (mget [.str, .str, .int .i64] (gi d 0).rows [.s (gi g1 0).str, .s (gi ((gi d 3).rows.getD (((gi d 5).int).toNat) []) 2).str, .i (gi ((gi d 3).rows.getD (((gi d 5).int).toNat) []) 1).int] [.t false]) 0).bool then (bif ((Nat.beq (gi d 2).rows.length (gi d 2).rows.length) && (decide (((gi d 2).rows.length + 1) ≤ 1048576))) then (bif (inI ((gi d 5).int + 1)) then (bif ((Nat.beq ((gi d 2).rows ++ ([[.i (gi d 5).int]] : List (List G))).length ((gi d 2).rows ++ ([[.i (gi d 5).int]] : List (List G))).length) && true) then some (none, [.l (mput [.str, .str, .int .i64] (gi d 0).rows [.s (gi g1 0).str, .s (gi ((gi d 3).rows.getD (((gi d 5).int).toNat) []) 2).str, .i (gi ((gi d 3).rows.getD (((gi d 5).int).toNat) []) 1).int] [.t true] (gi d 1).int.toNat), .i (((mclk [.str, .str, .int .i64] (gi d 0).rows [.s (gi g1 0).str, .s (gi ((gi d 3).rows.getD (((gi d 5).int).toNat) []) 2).str, .i (gi ((gi d 3).rows.getD (((gi d 5).int).toNat) []) 1).int] (gi d 1).int.toNat) : Nat) : Int), .l ((gi d 2).rows ++ ([[.i (gi d 5).int]] : List (List G))), .l (gi d 3).rows, .i (gi d 4).int, .i ((gi d 5).int + 1)]) else none) else none) else none) else (bif (inI ((gi d 5).int + 1)) then (bif ((Nat.beq (gi d 2).rows.length (gi d 2).rows.length) && true) then some (none, [.l (mput [.str, .str, .int .i64] (gi d 0).rows [.s (gi g1 0).str, .s (gi ((gi d 3).rows.getD (((gi d 5).int).toNat) []) 2).str, .i (gi ((gi d 3).rows.getD (((gi d 5).int).toNat) []) 1).int] [.t true] (gi d 1).int.toNat), .i (((mclk [.str, .str, .int .i64] (gi d 0).rows [.s (gi g1 0).str, .s (gi ((gi d 3).rows.getD (((gi d 5).int).toNat) []) 2).str, .i (gi ((gi d 3).rows.getD (((gi d 5).int).toNat) []) 1).int] (gi d 1).int.toNat) : Nat) : Int), .l (gi d 2).rows, .l (gi d 3).rows, .i (gi d 4).int, .i ((gi d 5).int + 1)]) else none) else none))) else none) else (bif ((Nat.beq (gi d 2).rows.length (gi d 2).rows.length) && true) then some (some 0, [.l (gi d 2).rows]) else none))
noncomputable def l_log_dupes_4 : LSpec := ⟨4, [(4, [.int .i64])], ⟨35, [(3, .s (.map 0)), (4, .s (.vec 1 1)), (9, .s (.list KContact)), (10, .s (.int .i64)), (11, .s (.int .i64))], [.map (.agg [.str, .str, .int .i64]) (.one (.bool)), .vec [.int .i64] 0]⟩, [.slot 3, .slot 4], [⟨.exit 0, ⟨35, [(4, .s (.vec 0 1))], [.vec [.int .i64] 0]⟩, [.slot 4]⟩], st_log_dupes_4⟩
theorem r_log_dupes_4 : RoundOK P t66 noLoops 0 (loopAt Tryz.f86 4) l_log_dupes_4 := fun d => by kernel_rfl
noncomputable def L_log_dupes_4 : LT := noLoops.add 0 l_log_dupes_4
theorem L_log_dupes_4_ok : LoopsOK P 0 L_log_dupes_4 (bodyOf Tryz.f86) := LoopsOK.add hm t66_ok (by kernel_rfl) (noLoops_ok _ _ _) r_log_dupes_4
def F_log_dupes (d : List G) : Option (List G) :=
  (loopB true (LRun st_log_dupes_4 [.l [], .i 0, .l [], .l (gi d 0).rows, .i (((gi d 0).rows.length : Nat) : Int), .i 0]) fun cg2 g2 => (bif ((Nat.beq (gi g2 0).rows.length (gi g2 0).rows.length) && true) then some [.l (gi g2 0).rows] else none))
noncomputable def s_log_dupes : FSpec := ⟨86, [.s (.list KContact)], [], [], [.s (.list [.int .i64])], [], [], [], F_log_dupes⟩
theorem b_log_dupes : BodyOK P t66 L_log_dupes_4 Tryz.f86 s_log_dupes := fun d => by kernel_rfl
theorem c_log_dupes : ∀ d r, F_log_dupes d = some r → ACallX P 86 (s_log_dupes.args0 d) (denH (s_log_dupes.H0 d)) (s_log_dupes.out r) (denH (s_log_dupes.H1 r)) := fun d r h => body_sound hm t66_ok (sp := s_log_dupes) Tryz.func86 (by kernel_rfl) L_log_dupes_4_ok b_log_dupes (by kernel_rfl) h
noncomputable def t67 : Tab := t66.addP s_log_dupes
theorem t67_ok : TabOK P t67 := t66_ok.addP (by kernel_rfl) (by kernel_rfl) c_log_dupes

/- pileup/log.Dupes -/
def F_log_Dupes (d : List G) : Option (List G) :=
  (callF (F_log_CheckLog [.l (gi d 0).rows]) fun g1 => (bif ((gi g1 0).int != 0) then some [.l [], .i (gi g1 0).int] else (callF (F_log_dupes [.l (gi d 0).rows]) fun g2 => some [.l (gi g2 0).rows, .i 0])))
noncomputable def s_log_Dupes : FSpec := ⟨20, [.s (.list KContact)], [], [], [.s (.list [.int .i64]), .s (.int .i64)], [], [], [], F_log_Dupes⟩
theorem b_log_Dupes : BodyOK P t67 noLoops Tryz.f20 s_log_Dupes := fun d => by kernel_rfl
theorem c_log_Dupes : ∀ d r, F_log_Dupes d = some r → ACallX P 20 (s_log_Dupes.args0 d) (denH (s_log_Dupes.H0 d)) (s_log_Dupes.out r) (denH (s_log_Dupes.H1 r)) := fun d r h => body_sound hm t67_ok (sp := s_log_Dupes) Tryz.func20 (by kernel_rfl) (noLoops_ok _ _ _) b_log_Dupes (by kernel_rfl) h
noncomputable def t68 : Tab := t67.addP s_log_Dupes
theorem t68_ok : TabOK P t68 := t67_ok.addP (by kernel_rfl) (by kernel_rfl) c_log_Dupes

/- slices.Equal[[]int,int] -/
def st_slices_Equal_int_4 (d : List G) : Option (Option Nat × List G) :=
  (bif (ltI (gi d 3).int (gi d 2).int) then (bif ((nnI (gi d 3).int) && (ltI (gi d 3).int (((gi d 0).rows.length : Nat) : Int))) then (bif ((nnI (gi d 3).int) && (ltI (gi d 3).int (((gi d 1).rows.length : Nat) : Int))) then (bif ((gi ((gi d 0).rows.getD (((gi d 3).int).toNat) []) 0).int != (gi ((gi d 1).rows.getD (((gi d 3).int).toNat) []) 0).int) then some (some 0, [.t false]) else (bif (inI ((gi d 3).int + 1)) then some (none, [.l (gi d 0).rows, .l (gi d 1).rows, .i (gi d 2).int, .i ((gi d 3).int + 1)]) else none)) else none) else none) else some (some 1, []))
noncomputable def l_slices_Equal_int_4 : LSpec := ⟨4, [], ⟨26, [(0, .s (.list [.int .i64])), (1, .s (.list [.int .i64])), (12, .s (.int .i64)), (13, .s (.int .i64))], []⟩, [], [⟨.ret, ⟨26, [(4, .s (.bool))], []⟩, []⟩, ⟨.exit 0, ⟨26, [], []⟩, []⟩], st_slices_Equal_int_4⟩
theorem r_slices_Equal_int_4 : RoundOK P t68 noLoops 0 (loopAt Tryz.f33 4) l_slices_Equal_int_4 := fun d => by kernel_rfl
noncomputable def L_slices_Equal_int_4 : LT := noLoops.add 0 l_slices_Equal_int_4
theorem L_slices_Equal_int_4_ok : LoopsOK P 0 L_slices_Equal_int_4 (bodyOf Tryz.f33) := LoopsOK.add hm t68_ok (by kernel_rfl) (noLoops_ok _ _ _) r_slices_Equal_int_4
def F_slices_Equal_int (d : List G) : Option (List G) :=
  (bif ((((gi d 0).rows.length : Nat) : Int) != (((gi d 1).rows.length : Nat) : Int)) then some [.t false] else (loopB true (LRun st_slices_Equal_int_4 [.l (gi d 0).rows, .l (gi d 1).rows, .i (((gi d 0).rows.length : Nat) : Int), .i 0]) fun cg1 g1 => (bif Nat.beq cg1 0 then some [.t (gi g1 0).bool] else some [.t true])))
noncomputable def s_slices_Equal_int : FSpec := ⟨33, [.s (.list [.int .i64]), .s (.list [.int .i64])], [], [], [.s (.bool)], [], [], [], F_slices_Equal_int⟩
theorem b_slices_Equal_int : BodyOK P t68 L_slices_Equal_int_4 Tryz.f33 s_slices_Equal_int := fun d => by kernel_rfl
theorem c_slices_Equal_int : ∀ d r, F_slices_Equal_int d = some r → ACallX P 33 (s_slices_Equal_int.args0 d) (denH (s_slices_Equal_int.H0 d)) (s_slices_Equal_int.out r) (denH (s_slices_Equal_int.H1 r)) := fun d r h => body_sound hm t68_ok (sp := s_slices_Equal_int) Tryz.func33 (by kernel_rfl) L_slices_Equal_int_4_ok b_slices_Equal_int (by kernel_rfl) h
noncomputable def t69 : Tab := t68.addP s_slices_Equal_int
theorem t69_ok : TabOK P t69 := t68_ok.addP (by kernel_rfl) (by kernel_rfl) c_slices_Equal_int

/- pileup/pilelaw2.logged -/
def F_pilelaw2_logged (d : List G) : Option (List G) :=
  (callF (F_log_Dupes [.l [[.i 0, .i 1, .s (⟨#[98]⟩ : ByteArray), .s (⟨#[107, 49, 97, 98]⟩ : ByteArray), .i 0, .i 0, .s (⟨#[]⟩ : ByteArray), .s (⟨#[]⟩ : ByteArray)], [.i 5, .i 1, .s (⟨#[98]⟩ : ByteArray), .s (⟨#[107, 49, 97, 98]⟩ : ByteArray), .i 0, .i 0, .s (⟨#[]⟩ : ByteArray), .s (⟨#[]⟩ : ByteArray)]]]) fun g1 => (bif ((gi g1 1).int == 0) then (callF (F_slices_Equal_int [.l (gi g1 0).rows, .l [[.i 1]]]) fun g2 => some [.t (gi g2 0).bool]) else some [.t false]))
noncomputable def s_pilelaw2_logged : FSpec := ⟨36, [], [], [], [.s (.bool)], [], [], [], F_pilelaw2_logged⟩
theorem b_pilelaw2_logged : BodyOK P t69 noLoops Tryz.f36 s_pilelaw2_logged := fun d => by kernel_rfl
theorem c_pilelaw2_logged : ∀ d r, F_pilelaw2_logged d = some r → ACallX P 36 (s_pilelaw2_logged.args0 d) (denH (s_pilelaw2_logged.H0 d)) (s_pilelaw2_logged.out r) (denH (s_pilelaw2_logged.H1 r)) := fun d r h => body_sound hm t69_ok (sp := s_pilelaw2_logged) Tryz.func36 (by kernel_rfl) (noLoops_ok _ _ _) b_pilelaw2_logged (by kernel_rfl) h
noncomputable def t70 : Tab := t69.addP s_pilelaw2_logged
theorem t70_ok : TabOK P t70 := t69_ok.addP (by kernel_rfl) (by kernel_rfl) c_pilelaw2_logged

/- pileup/pilelaw2.LogsMerge -/
def tl_pilelaw2_LogsMerge_4 (d : List G) : Option (Option Nat × List G) :=
  (bif (gi d 12).bool then (callF (F_pilemake_Stream_Next [.l (gi d 0).rows, .i (gi d 1).int, .i (((gi d 10).rows.length : Nat) : Int)]) fun g8 => (bif ((nnI (gi g8 2).int) && (leI (gi g8 2).int (((gi d 10).rows.length : Nat) : Int))) then (callF (F_slices_Clone_Contact_f [.l ((gi d 10).rows.drop (((gi g8 2).int).toNat))]) fun g9 => (callF (F_pilemake_Stream_Flip [.l (gi g8 0).rows, .i (gi g8 1).int, .i 4]) fun g10 => (bif (gi g10 2).bool then (bif (ltI 0 (((gi g9 0).rows.length : Nat) : Int)) then (bif (decide (0 < (gi g9 0).rows.length)) then (bif (inI ((gi ((gi g9 0).rows.getD 0 []) 5).int + 1)) then (bif (ltI 0 (((gi g9 0).rows.length : Nat) : Int)) then (bif (decide (0 < (gi g9 0).rows.length)) then (bif ((Nat.beq (gi g9 0).rows.length ((gi g9 0).rows.set 0 (putG KContact ((gi g9 0).rows.getD 0 []) 5 [.i ((gi ((gi g9 0).rows.getD 0 []) 5).int + 1)])).length) && true) then some (some 0, [.i (gi d 2).int, .i (gi d 3).int, .s (gi d 4).str, .s (gi d 5).str, .i (gi d 6).int, .i (gi d 7).int, .s (gi d 8).str, .s (gi d 9).str, .l (gi d 10).rows, .l ((gi g9 0).rows.set 0 (putG KContact ((gi g9 0).rows.getD 0 []) 5 [.i ((gi ((gi g9 0).rows.getD 0 []) 5).int + 1)]))]) else none) else none) else none) else none) else none) else none) else (bif ((Nat.beq (gi g9 0).rows.length (gi g9 0).rows.length) && true) then some (some 0, [.i (gi d 2).int, .i (gi d 3).int, .s (gi d 4).str, .s (gi d 5).str, .i (gi d 6).int, .i (gi d 7).int, .s (gi d 8).str, .s (gi d 9).str, .l (gi d 10).rows, .l (gi g9 0).rows]) else none)))) else none)) else some (some 0, [.i (gi d 2).int, .i (gi d 3).int, .s (gi d 4).str, .s (gi d 5).str, .i (gi d 6).int, .i (gi d 7).int, .s (gi d 8).str, .s (gi d 9).str, .l (gi d 10).rows, .l (gi d 11).rows]))
noncomputable def l_pilelaw2_LogsMerge_4c : LSpec := ⟨4, [], ⟨118, [(3, .s (.ptr 0 0)), (4, .s (.ptr 1 0)), (5, .s (.list KContact)), (6, .s (.list KContact)), (36, .s (.bool))], [.box [.list [.int .i64], .int .i64], .box [.int .i64, .int .i64, .str, .str, .int .i64, .int .i64, .str, .str]]⟩, [.slot 3, .slot 4], [⟨.normal, ⟨118, [(4, .s (.ptr 0 0)), (5, .s (.list KContact)), (6, .s (.list KContact))], [.box [.int .i64, .int .i64, .str, .str, .int .i64, .int .i64, .str, .str]]⟩, [.slot 4]⟩], tl_pilelaw2_LogsMerge_4⟩
theorem r_pilelaw2_LogsMerge_4c : CutOK P (t70.lessPf [40]) (noLoops.hinted [(7, [.freeze 6])]) 0 (cutAt Tryz.f4 4) l_pilelaw2_LogsMerge_4c := fun d => by kernel_rfl
noncomputable def L_pilelaw2_LogsMerge_4c : LT := (noLoops.hinted [(7, [.freeze 6])]).addCut 0 l_pilelaw2_LogsMerge_4c
theorem L_pilelaw2_LogsMerge_4c_ok : LoopsOK P 0 L_pilelaw2_LogsMerge_4c (bodyOf Tryz.f4) := LoopsOK.addCut hm (t70_ok.lessPf [40]) (by kernel_rfl) (hinted_ok _) r_pilelaw2_LogsMerge_4c
def tl_pilelaw2_LogsMerge_7 (d : List G) : Option (Option Nat × List G) :=
  (callF (F_log_Merge [.l (gi d 8).rows, .l (gi d 9).rows]) fun g12 => (callF (F_log_Lacks [.l (gi d 8).rows, .l (gi d 9).rows]) fun g13 => (callF (F_pileref2_LogFault [.l (gi d 8).rows]) fun g14 => (callF (F_pileref2_LogFault [.l (gi d 9).rows]) fun g15 => (callF (F_pilelaw2_errs [.l [[.i (gi g14 0).int], [.i (gi g15 0).int]]]) fun g16 => (bif ((gi g16 0).int == 0) then (callF (F_pileref2_LogsOf [.l (gi d 8).rows, .l (gi d 9).rows]) fun g17 => (callF (F_pileref2_LackingOf [.l (gi d 8).rows, .l (gi d 9).rows]) fun g18 => (callF (F_log_CheckContact [.l [(gEta KContact d)]]) fun g19 => (callF (F_pileref2_ContactFault [.l [(gEta KContact d)]]) fun g20 => (bif ((gi g19 0).int == (gi g20 0).int) then (callF (F_log_CheckLog [.l (gi d 8).rows]) fun g21 => (callF (F_pileref2_LogFault [.l (gi d 8).rows]) fun g22 => (bif ((gi g21 0).int == (gi g22 0).int) then (bif ((gi g12 1).int == (gi g17 1).int) then (callF (F_slices_Equal_Contact [.l (gi g12 0).rows, .l (gi g17 0).rows]) fun g23 => (bif (gi g23 0).bool then (bif ((gi g13 1).int == (gi g16 0).int) then (callF (F_slices_Equal_Contact [.l (gi g13 0).rows, .l (gi g18 0).rows]) fun g24 => (bif (gi g24 0).bool then (callF (F_pilelaw2_logged []) fun g25 => some (some 0, [.t (gi g25 0).bool])) else some (some 0, [.t false]))) else some (some 0, [.t false])) else some (some 0, [.t false]))) else some (some 0, [.t false])) else some (some 0, [.t false])))) else some (some 0, [.t false])))))) else (callF (F_log_CheckContact [.l [(gEta KContact d)]]) fun g26 => (callF (F_pileref2_ContactFault [.l [(gEta KContact d)]]) fun g27 => (bif ((gi g26 0).int == (gi g27 0).int) then (callF (F_log_CheckLog [.l (gi d 8).rows]) fun g28 => (callF (F_pileref2_LogFault [.l (gi d 8).rows]) fun g29 => (bif ((gi g28 0).int == (gi g29 0).int) then (bif ((gi g12 1).int == (gi g16 0).int) then (callF (F_slices_Equal_Contact [.l (gi g12 0).rows, .l []]) fun g30 => (bif (gi g30 0).bool then (bif ((gi g13 1).int == (gi g16 0).int) then (callF (F_slices_Equal_Contact [.l (gi g13 0).rows, .l []]) fun g31 => (bif (gi g31 0).bool then (callF (F_pilelaw2_logged []) fun g32 => some (some 0, [.t (gi g32 0).bool])) else some (some 0, [.t false]))) else some (some 0, [.t false])) else some (some 0, [.t false]))) else some (some 0, [.t false])) else some (some 0, [.t false])))) else some (some 0, [.t false]))))))))))
noncomputable def l_pilelaw2_LogsMerge_7c : LSpec := ⟨7, [], ⟨118, [(4, .s (.ptr 0 0)), (5, .s (.list KContact)), (6, .s (.list KContact))], [.box [.int .i64, .int .i64, .str, .str, .int .i64, .int .i64, .str, .str]]⟩, [.slot 4], [⟨.ret, ⟨118, [(2, .s (.bool))], []⟩, []⟩], tl_pilelaw2_LogsMerge_7⟩
theorem r_pilelaw2_LogsMerge_7c : CutOK P (t70.lessPf [40]) L_pilelaw2_LogsMerge_4c 0 (cutAt Tryz.f4 7) l_pilelaw2_LogsMerge_7c := fun d => by kernel_rfl
noncomputable def L_pilelaw2_LogsMerge_7c : LT := L_pilelaw2_LogsMerge_4c.addCut 0 l_pilelaw2_LogsMerge_7c
theorem L_pilelaw2_LogsMerge_7c_ok : LoopsOK P 0 L_pilelaw2_LogsMerge_7c (bodyOf Tryz.f4) := LoopsOK.addCut hm (t70_ok.lessPf [40]) (by kernel_rfl) L_pilelaw2_LogsMerge_4c_ok r_pilelaw2_LogsMerge_7c
def F_pilelaw2_LogsMerge (d : List G) : Option (List G) :=
  (callF (F_pilemake_Stream_Range [.l (gi d 0).rows, .i 0, .i 0, .i 100]) fun g1 => (callF (F_pilemake_Stream_SomeContact [.l (gi g1 0).rows, .i (gi g1 1).int, .i (gi g1 2).int]) fun g2 => (callF (F_pilemake_Stream_Range [.l (gi g2 0).rows, .i (gi g2 1).int, .i 0, .i 10]) fun g3 => (callF (F_pilemake_Stream_Contacts [.l (gi g3 0).rows, .i (gi g3 1).int, .i (gi g3 2).int]) fun g4 => (callF (F_pilemake_Stream_Range [.l (gi g4 0).rows, .i (gi g4 1).int, .i 0, .i 6]) fun g5 => (callF (F_pilemake_Stream_Contacts [.l (gi g5 0).rows, .i (gi g5 1).int, .i (gi g5 2).int]) fun g6 => (bif (ltI 0 (((gi g4 2).rows.length : Nat) : Int)) then (callF (F_pilemake_Stream_Flip [.l (gi g6 0).rows, .i (gi g6 1).int, .i 2]) fun g7 => (loopB true (cutR (tl_pilelaw2_LogsMerge_4 [.l (gi g7 0).rows, .i (gi g7 1).int, .i (gi (gi g2 2).row 0).int, .i (gi (gi g2 2).row 1).int, .s (gi (gi g2 2).row 2).str, .s (gi (gi g2 2).row 3).str, .i (gi (gi g2 2).row 4).int, .i (gi (gi g2 2).row 5).int, .s (gi (gi g2 2).row 6).str, .s (gi (gi g2 2).row 7).str, .l (gi g4 2).rows, .l (gi g6 2).rows, .t (gi g7 2).bool])) fun cg11 g11 => (loopB true (cutR (tl_pilelaw2_LogsMerge_7 [.i (gi g11 0).int, .i (gi g11 1).int, .s (gi g11 2).str, .s (gi g11 3).str, .i (gi g11 4).int, .i (gi g11 5).int, .s (gi g11 6).str, .s (gi g11 7).str, .l (gi g11 8).rows, .l (gi g11 9).rows])) fun cg33 g33 => some [.t (gi g33 0).bool]))) else (loopB true (cutR (tl_pilelaw2_LogsMerge_4 [.l (gi g6 0).rows, .i (gi g6 1).int, .i (gi (gi g2 2).row 0).int, .i (gi (gi g2 2).row 1).int, .s (gi (gi g2 2).row 2).str, .s (gi (gi g2 2).row 3).str, .i (gi (gi g2 2).row 4).int, .i (gi (gi g2 2).row 5).int, .s (gi (gi g2 2).row 6).str, .s (gi (gi g2 2).row 7).str, .l (gi g4 2).rows, .l (gi g6 2).rows, .t false])) fun cg34 g34 => (loopB true (cutR (tl_pilelaw2_LogsMerge_7 [.i (gi g34 0).int, .i (gi g34 1).int, .s (gi g34 2).str, .s (gi g34 3).str, .i (gi g34 4).int, .i (gi g34 5).int, .s (gi g34 6).str, .s (gi g34 7).str, .l (gi g34 8).rows, .l (gi g34 9).rows])) fun cg35 g35 => some [.t (gi g35 0).bool])))))))))
noncomputable def s_pilelaw2_LogsMerge : FSpec := ⟨4, [.s (.list [.int .i64])], [], [], [.s (.bool)], [], [], [], F_pilelaw2_LogsMerge⟩
theorem b_pilelaw2_LogsMerge : BodyOK P (t70.lessPf [40]) L_pilelaw2_LogsMerge_7c Tryz.f4 s_pilelaw2_LogsMerge := fun d => by kernel_rfl
theorem c_pilelaw2_LogsMerge : ∀ d r, F_pilelaw2_LogsMerge d = some r → ACallX P 4 (s_pilelaw2_LogsMerge.args0 d) (denH (s_pilelaw2_LogsMerge.H0 d)) (s_pilelaw2_LogsMerge.out r) (denH (s_pilelaw2_LogsMerge.H1 r)) := fun d r h => body_sound hm (t70_ok.lessPf [40]) (sp := s_pilelaw2_LogsMerge) Tryz.func4 (by kernel_rfl) L_pilelaw2_LogsMerge_7c_ok b_pilelaw2_LogsMerge (by kernel_rfl) h
noncomputable def t71 : Tab := t70.addP s_pilelaw2_LogsMerge
theorem t71_ok : TabOK P t71 := t70_ok.addP (by kernel_rfl) (by kernel_rfl) c_pilelaw2_LogsMerge

end Go.Proofs.SYtpfhjchbegdgdaaGreatDoor
