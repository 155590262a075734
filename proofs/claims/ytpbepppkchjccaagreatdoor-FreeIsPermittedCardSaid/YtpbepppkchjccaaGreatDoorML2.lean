/-
  What is proved here: functions of the program as functions on data. No condition.
-/
import Derived.Test.YtpbepppkchjccaaGreatDoorML1
set_option linter.unusedSimpArgs false
set_option linter.unusedVariables false
set_option linter.unusedSectionVars false
namespace Go.Proofs.SYtpbepppkchjccaaGreatDoor
open Go Go.AL Go.Proofs
noncomputable section
/- pileup/kit.Outside -/
def F_kit_Outside (d : List G) : Option (List G) :=
  (bif (ltI (gi d 0).int (gi d 1).int) then some [.t true] else some [.t (ltI (gi d 2).int (gi d 0).int)])
def s_kit_Outside : FSpec := ⟨54, [.s (.int .i64), .s (.int .i64), .s (.int .i64)], [], [], [.s (.bool)], [], [], [], F_kit_Outside⟩
theorem b_kit_Outside : BodyOK P t6 noLoops Tryz.f54 s_kit_Outside := fun d => by kernel_rfl
theorem c_kit_Outside : ∀ d r, F_kit_Outside d = some r → ACallX P 54 (s_kit_Outside.args0 d) (denH (s_kit_Outside.H0 d)) (s_kit_Outside.out r) (denH (s_kit_Outside.H1 r)) := fun d r h => body_sound hm t6_ok (sp := s_kit_Outside) Tryz.func54 (by kernel_rfl) (noLoops_ok _ _ _) b_kit_Outside (by kernel_rfl) h
def t7 : Tab := t6.addP s_kit_Outside
theorem t7_ok : TabOK P t7 := t6_ok.addP (by kernel_rfl) (by kernel_rfl) c_kit_Outside

/- pileup/kit.IsMoment -/
def F_kit_IsMoment (d : List G) : Option (List G) :=
  (callF (F_kit_Outside [.i (gi d 0).int, .i 0, .i 345686399999]) fun g1 => some [.t (!(gi g1 0).bool)])
def s_kit_IsMoment : FSpec := ⟨62, [.s (.int .i64)], [], [], [.s (.bool)], [], [], [], F_kit_IsMoment⟩
theorem b_kit_IsMoment : BodyOK P t7 noLoops Tryz.f62 s_kit_IsMoment := fun d => by kernel_rfl
theorem c_kit_IsMoment : ∀ d r, F_kit_IsMoment d = some r → ACallX P 62 (s_kit_IsMoment.args0 d) (denH (s_kit_IsMoment.H0 d)) (s_kit_IsMoment.out r) (denH (s_kit_IsMoment.H1 r)) := fun d r h => body_sound hm t7_ok (sp := s_kit_IsMoment) Tryz.func62 (by kernel_rfl) (noLoops_ok _ _ _) b_kit_IsMoment (by kernel_rfl) h
def t8 : Tab := t7.addP s_kit_IsMoment
theorem t8_ok : TabOK P t8 := t7_ok.addP (by kernel_rfl) (by kernel_rfl) c_kit_IsMoment

/- pileup/kit.IsMode -/
def F_kit_IsMode (d : List G) : Option (List G) :=
  (callF (F_kit_Outside [.i (gi d 0).int, .i 1, .i 3]) fun g1 => some [.t (!(gi g1 0).bool)])
def s_kit_IsMode : FSpec := ⟨61, [.s (.int .i64)], [], [], [.s (.bool)], [], [], [], F_kit_IsMode⟩
theorem b_kit_IsMode : BodyOK P t8 noLoops Tryz.f61 s_kit_IsMode := fun d => by kernel_rfl
theorem c_kit_IsMode : ∀ d r, F_kit_IsMode d = some r → ACallX P 61 (s_kit_IsMode.args0 d) (denH (s_kit_IsMode.H0 d)) (s_kit_IsMode.out r) (denH (s_kit_IsMode.H1 r)) := fun d r h => body_sound hm t8_ok (sp := s_kit_IsMode) Tryz.func61 (by kernel_rfl) (noLoops_ok _ _ _) b_kit_IsMode (by kernel_rfl) h
def t9 : Tab := t8.addP s_kit_IsMode
theorem t9_ok : TabOK P t9 := t8_ok.addP (by kernel_rfl) (by kernel_rfl) c_kit_IsMode

/- pileup/kit.IsKey -/
def F_kit_IsKey (d : List G) : Option (List G) :=
  (bif (!((gi d 0).str.toList == (⟨#[]⟩ : ByteArray).toList)) then (bif (leI (((gi d 0).str.size : Nat) : Int) 40) then (bif (ltI 0 (((gi d 0).str.size : Nat) : Int)) then (callF (F_strings_IndexByte [.s (⟨#[97, 98, 99, 100, 101, 102, 103, 104, 105, 106, 107, 108, 109, 110, 111, 112, 113, 114, 115, 116, 117, 118, 119, 120, 121, 122]⟩ : ByteArray), .i (((gi d 0).str.data.toList.getD 0 0).toNat : Int)]) fun g1 => (bif (leI 0 (gi g1 0).int) then (callF (F_strings_Trim [.s (gi d 0).str, .s (⟨#[97, 98, 99, 100, 101, 102, 103, 104, 105, 106, 107, 108, 109, 110, 111, 112, 113, 114, 115, 116, 117, 118, 119, 120, 121, 122, 48, 49, 50, 51, 52, 53, 54, 55, 56, 57, 45, 95]⟩ : ByteArray)]) fun g2 => some [.t ((gi g2 0).str.toList == (⟨#[]⟩ : ByteArray).toList)]) else some [.t false])) else none) else some [.t false]) else some [.t false])
def s_kit_IsKey : FSpec := ⟨60, [.s (.str)], [], [], [.s (.bool)], [], [], [], F_kit_IsKey⟩
theorem b_kit_IsKey : BodyOK P t9 noLoops Tryz.f60 s_kit_IsKey := fun d => by kernel_rfl
theorem c_kit_IsKey : ∀ d r, F_kit_IsKey d = some r → ACallX P 60 (s_kit_IsKey.args0 d) (denH (s_kit_IsKey.H0 d)) (s_kit_IsKey.out r) (denH (s_kit_IsKey.H1 r)) := fun d r h => body_sound hm t9_ok (sp := s_kit_IsKey) Tryz.func60 (by kernel_rfl) (noLoops_ok _ _ _) b_kit_IsKey (by kernel_rfl) h
def t10 : Tab := t9.addP s_kit_IsKey
theorem t10_ok : TabOK P t10 := t9_ok.addP (by kernel_rfl) (by kernel_rfl) c_kit_IsKey

/- pileup/call.Is -/
def F_call_Is (d : List G) : Option (List G) :=
  (callF (F_call_Parts [.s (gi d 0).str]) fun g1 => some [.t (gi g1 1).bool])
def s_call_Is : FSpec := ⟨85, [.s (.str)], [], [], [.s (.bool)], [], [], [], F_call_Is⟩
theorem b_call_Is : BodyOK P t10 noLoops Tryz.f85 s_call_Is := fun d => by kernel_rfl
theorem c_call_Is : ∀ d r, F_call_Is d = some r → ACallX P 85 (s_call_Is.args0 d) (denH (s_call_Is.H0 d)) (s_call_Is.out r) (denH (s_call_Is.H1 r)) := fun d r h => body_sound hm t10_ok (sp := s_call_Is) Tryz.func85 (by kernel_rfl) (noLoops_ok _ _ _) b_call_Is (by kernel_rfl) h
def t11 : Tab := t10.addP s_call_Is
theorem t11_ok : TabOK P t11 := t10_ok.addP (by kernel_rfl) (by kernel_rfl) c_call_Is

/- pileup/kit.IsName -/
def F_kit_IsName (d : List G) : Option (List G) :=
  (bif ((gi d 0).str.toList == (⟨#[]⟩ : ByteArray).toList) then some [.t true] else (callF (F_kit_IsKey [.s (gi d 0).str]) fun g1 => some [.t (gi g1 0).bool]))
def s_kit_IsName : FSpec := ⟨152, [.s (.str)], [], [], [.s (.bool)], [], [], [], F_kit_IsName⟩
theorem b_kit_IsName : BodyOK P t11 noLoops Tryz.f152 s_kit_IsName := fun d => by kernel_rfl
theorem c_kit_IsName : ∀ d r, F_kit_IsName d = some r → ACallX P 152 (s_kit_IsName.args0 d) (denH (s_kit_IsName.H0 d)) (s_kit_IsName.out r) (denH (s_kit_IsName.H1 r)) := fun d r h => body_sound hm t11_ok (sp := s_kit_IsName) Tryz.func152 (by kernel_rfl) (noLoops_ok _ _ _) b_kit_IsName (by kernel_rfl) h
def t12 : Tab := t11.addP s_kit_IsName
theorem t12_ok : TabOK P t12 := t11_ok.addP (by kernel_rfl) (by kernel_rfl) c_kit_IsName

/- pileup/log.CheckContact -/
def F_log_CheckContact (d : List G) : Option (List G) :=
  (callF (F_kit_IsMoment [.i (gi (gi d 0).row 0).int]) fun g1 => (bif (!(gi g1 0).bool) then some [.i 1] else (callF (F_kit_IsMode [.i (gi (gi d 0).row 1).int]) fun g2 => (bif (!(gi g2 0).bool) then some [.i 4] else (callF (F_kit_IsKey [.s (gi (gi d 0).row 2).str]) fun g3 => (bif (!(gi g3 0).bool) then some [.i 5] else (callF (F_call_Is [.s (gi (gi d 0).row 3).str]) fun g4 => (bif (!(gi g4 0).bool) then some [.i 3] else (callF (F_kit_Outside [.i (gi (gi d 0).row 4).int, .i 0, .i 99999]) fun g5 => (bif (gi g5 0).bool then some [.i 1] else (callF (F_kit_Outside [.i (gi (gi d 0).row 5).int, .i 0, .i 99999]) fun g6 => (bif (gi g6 0).bool then some [.i 1] else (callF (F_kit_IsName [.s (gi (gi d 0).row 6).str]) fun g7 => (bif (!(gi g7 0).bool) then some [.i 5] else (callF (F_kit_IsName [.s (gi (gi d 0).row 7).str]) fun g8 => (bif (!(gi g8 0).bool) then some [.i 5] else some [.i 0]))))))))))))))))
def s_log_CheckContact : FSpec := ⟨118, [.s (.row KContact)], [], [], [.s (.int .i64)], [], [], [], F_log_CheckContact⟩
theorem b_log_CheckContact : BodyOK P t12 noLoops Tryz.f118 s_log_CheckContact := fun d => by kernel_rfl
theorem c_log_CheckContact : ∀ d r, F_log_CheckContact d = some r → ACallX P 118 (s_log_CheckContact.args0 d) (denH (s_log_CheckContact.H0 d)) (s_log_CheckContact.out r) (denH (s_log_CheckContact.H1 r)) := fun d r h => body_sound hm t12_ok (sp := s_log_CheckContact) Tryz.func118 (by kernel_rfl) (noLoops_ok _ _ _) b_log_CheckContact (by kernel_rfl) h
def t13 : Tab := t12.addP s_log_CheckContact
theorem t13_ok : TabOK P t13 := t12_ok.addP (by kernel_rfl) (by kernel_rfl) c_log_CheckContact

/- cmp.isNaN[int] -/
def F_cmp_isNaN_int (d : List G) : Option (List G) :=
  some [.t ((gi d 0).int != (gi d 0).int)]
def s_cmp_isNaN_int : FSpec := ⟨113, [.s (.int .i64)], [], [], [.s (.bool)], [], [], [], F_cmp_isNaN_int⟩
theorem b_cmp_isNaN_int : BodyOK P t13 noLoops Tryz.f113 s_cmp_isNaN_int := fun d => by kernel_rfl
theorem c_cmp_isNaN_int : ∀ d r, F_cmp_isNaN_int d = some r → ACallX P 113 (s_cmp_isNaN_int.args0 d) (denH (s_cmp_isNaN_int.H0 d)) (s_cmp_isNaN_int.out r) (denH (s_cmp_isNaN_int.H1 r)) := fun d r h => body_sound hm t13_ok (sp := s_cmp_isNaN_int) Tryz.func113 (by kernel_rfl) (noLoops_ok _ _ _) b_cmp_isNaN_int (by kernel_rfl) h
def t14 : Tab := t13.addP s_cmp_isNaN_int
theorem t14_ok : TabOK P t14 := t13_ok.addP (by kernel_rfl) (by kernel_rfl) c_cmp_isNaN_int

/- cmp.Compare[int] -/
def F_cmp_Compare_int (d : List G) : Option (List G) :=
  (callF (F_cmp_isNaN_int [.i (gi d 0).int]) fun g1 => (callF (F_cmp_isNaN_int [.i (gi d 1).int]) fun g2 => (bif (gi g1 0).bool then (bif (gi g2 0).bool then some [.i 0] else some [.i (-1)]) else (bif (gi g2 0).bool then some [.i 1] else (bif (ltI (gi d 0).int (gi d 1).int) then some [.i (-1)] else (bif (ltI (gi d 1).int (gi d 0).int) then some [.i 1] else some [.i 0]))))))
def s_cmp_Compare_int : FSpec := ⟨89, [.s (.int .i64), .s (.int .i64)], [], [], [.s (.int .i64)], [], [], [], F_cmp_Compare_int⟩
theorem b_cmp_Compare_int : BodyOK P t14 noLoops Tryz.f89 s_cmp_Compare_int := fun d => by kernel_rfl
theorem c_cmp_Compare_int : ∀ d r, F_cmp_Compare_int d = some r → ACallX P 89 (s_cmp_Compare_int.args0 d) (denH (s_cmp_Compare_int.H0 d)) (s_cmp_Compare_int.out r) (denH (s_cmp_Compare_int.H1 r)) := fun d r h => body_sound hm t14_ok (sp := s_cmp_Compare_int) Tryz.func89 (by kernel_rfl) (noLoops_ok _ _ _) b_cmp_Compare_int (by kernel_rfl) h
def t15 : Tab := t14.addP s_cmp_Compare_int
theorem t15_ok : TabOK P t15 := t14_ok.addP (by kernel_rfl) (by kernel_rfl) c_cmp_Compare_int

/- cmp.Or[int] -/
def st_cmp_Or_int_3 (d : List G) : Option (Option Nat × List G) :=
  (bif (ltI (gi d 3).int (gi d 2).int) then (bif ((nnI (gi d 3).int) && (ltI (gi d 3).int (((gi d 1).rows.length : Nat) : Int))) then (bif ((gi ((gi d 1).rows.getD (((gi d 3).int).toNat) []) 0).int != (gi d 0).int) then some (some 0, [.i (gi ((gi d 1).rows.getD (((gi d 3).int).toNat) []) 0).int]) else (bif (inI ((gi d 3).int + 1)) then some (none, [.i (gi d 0).int, .l (gi d 1).rows, .i (gi d 2).int, .i ((gi d 3).int + 1)]) else none)) else none) else some (some 1, [.i (gi d 0).int]))
def l_cmp_Or_int_3 : LSpec := ⟨3, [], ⟨18, [(3, .s (.int .i64)), (6, .s (.list [.int .i64])), (7, .s (.int .i64)), (8, .s (.int .i64))], []⟩, [], [⟨.ret, ⟨18, [(2, .s (.int .i64))], []⟩, []⟩, ⟨.exit 0, ⟨18, [(3, .s (.int .i64))], []⟩, []⟩], st_cmp_Or_int_3⟩
theorem r_cmp_Or_int_3 : RoundOK P t15 noLoops 0 (loopAt Tryz.f108 3) l_cmp_Or_int_3 := fun d => by kernel_rfl
def L_cmp_Or_int_3 : LT := noLoops.add 0 l_cmp_Or_int_3
theorem L_cmp_Or_int_3_ok : LoopsOK P 0 L_cmp_Or_int_3 (bodyOf Tryz.f108) := LoopsOK.add hm t15_ok (by kernel_rfl) (noLoops_ok _ _ _) r_cmp_Or_int_3
def F_cmp_Or_int (d : List G) : Option (List G) :=
  (loopB true (LRun st_cmp_Or_int_3 [.i 0, .l (gi d 0).rows, .i (((gi d 0).rows.length : Nat) : Int), .i 0]) fun cg1 g1 => (bif Nat.beq cg1 0 then some [.i (gi g1 0).int] else some [.i (gi g1 0).int]))
def s_cmp_Or_int : FSpec := ⟨108, [.s (.list [.int .i64])], [], [], [.s (.int .i64)], [], [], [], F_cmp_Or_int⟩
theorem b_cmp_Or_int : BodyOK P t15 L_cmp_Or_int_3 Tryz.f108 s_cmp_Or_int := fun d => by kernel_rfl
theorem c_cmp_Or_int : ∀ d r, F_cmp_Or_int d = some r → ACallX P 108 (s_cmp_Or_int.args0 d) (denH (s_cmp_Or_int.H0 d)) (s_cmp_Or_int.out r) (denH (s_cmp_Or_int.H1 r)) := fun d r h => body_sound hm t15_ok (sp := s_cmp_Or_int) Tryz.func108 (by kernel_rfl) L_cmp_Or_int_3_ok b_cmp_Or_int (by kernel_rfl) h
def t16 : Tab := t15.addP s_cmp_Or_int
theorem t16_ok : TabOK P t16 := t15_ok.addP (by kernel_rfl) (by kernel_rfl) c_cmp_Or_int

/- pileup/log.Compare -/
def F_log_Compare (d : List G) : Option (List G) :=
  (callF (F_cmp_Compare_int [.i (gi (gi d 0).row 0).int, .i (gi (gi d 1).row 0).int]) fun g1 => (callF (F_strings_Compare [.s (gi (gi d 0).row 3).str, .s (gi (gi d 1).row 3).str]) fun g2 => (callF (F_strings_Compare [.s (gi (gi d 0).row 2).str, .s (gi (gi d 1).row 2).str]) fun g3 => (callF (F_cmp_Compare_int [.i (gi (gi d 0).row 1).int, .i (gi (gi d 1).row 1).int]) fun g4 => (callF (F_cmp_Or_int [.l [[.i (gi g1 0).int], [.i (gi g2 0).int], [.i (gi g3 0).int], [.i (gi g4 0).int]]]) fun g5 => some [.i (gi g5 0).int])))))
def s_log_Compare : FSpec := ⟨119, [.s (.row KContact), .s (.row KContact)], [], [], [.s (.int .i64)], [], [], [], F_log_Compare⟩
theorem b_log_Compare : BodyOK P t16 noLoops Tryz.f119 s_log_Compare := fun d => by kernel_rfl
theorem c_log_Compare : ∀ d r, F_log_Compare d = some r → ACallX P 119 (s_log_Compare.args0 d) (denH (s_log_Compare.H0 d)) (s_log_Compare.out r) (denH (s_log_Compare.H1 r)) := fun d r h => body_sound hm t16_ok (sp := s_log_Compare) Tryz.func119 (by kernel_rfl) (noLoops_ok _ _ _) b_log_Compare (by kernel_rfl) h
def t17 : Tab := t16.addP s_log_Compare
theorem t17_ok : TabOK P t17 := t16_ok.addP (by kernel_rfl) (by kernel_rfl) c_log_Compare

/- pileup/log.CheckLog -/
def st_log_CheckLog_4 (d : List G) : Option (Option Nat × List G) :=
  (bif (ltI (gi d 3).int (gi d 2).int) then (bif ((nnI (gi d 3).int) && (ltI (gi d 3).int (((gi d 1).rows.length : Nat) : Int))) then (callF (F_log_CheckContact [.l [(gEta KContact ((gi d 1).rows.getD (((gi d 3).int).toNat) []))]]) fun g1 => (bif ((gi g1 0).int != 0) then some (some 0, [.i (gi g1 0).int]) else (bif (ltI 0 (gi d 3).int) then (bif (inI ((gi d 3).int - 1)) then (bif ((nnI ((gi d 3).int - 1)) && (ltI ((gi d 3).int - 1) (((gi d 0).rows.length : Nat) : Int))) then (callF (F_log_Compare [.l [(gEta KContact ((gi d 0).rows.getD (((gi d 3).int - 1).toNat) []))], .l [(gEta KContact ((gi d 1).rows.getD (((gi d 3).int).toNat) []))]]) fun g2 => (bif (leI 0 (gi g2 0).int) then some (some 0, [.i 7]) else (bif (inI ((gi d 3).int + 1)) then some (none, [.l (gi d 0).rows, .l (gi d 1).rows, .i (gi d 2).int, .i ((gi d 3).int + 1)]) else none))) else none) else none) else (bif (inI ((gi d 3).int + 1)) then some (none, [.l (gi d 0).rows, .l (gi d 1).rows, .i (gi d 2).int, .i ((gi d 3).int + 1)]) else none)))) else none) else some (some 1, []))
def l_log_CheckLog_4 : LSpec := ⟨4, [], ⟨34, [(0, .s (.list KContact)), (9, .s (.list KContact)), (10, .s (.int .i64)), (11, .s (.int .i64))], []⟩, [], [⟨.ret, ⟨34, [(2, .s (.int .i64))], []⟩, []⟩, ⟨.exit 0, ⟨34, [], []⟩, []⟩], st_log_CheckLog_4⟩
theorem r_log_CheckLog_4 : RoundOK P t17 noLoops 0 (loopAt Tryz.f92 4) l_log_CheckLog_4 := fun d => by kernel_rfl
def L_log_CheckLog_4 : LT := noLoops.add 0 l_log_CheckLog_4
theorem L_log_CheckLog_4_ok : LoopsOK P 0 L_log_CheckLog_4 (bodyOf Tryz.f92) := LoopsOK.add hm t17_ok (by kernel_rfl) (noLoops_ok _ _ _) r_log_CheckLog_4
def F_log_CheckLog (d : List G) : Option (List G) :=
  (bif (ltI 2000 (((gi d 0).rows.length : Nat) : Int)) then some [.i 2] else (loopB true (LRun st_log_CheckLog_4 [.l (gi d 0).rows, .l (gi d 0).rows, .i (((gi d 0).rows.length : Nat) : Int), .i 0]) fun cg3 g3 => (bif Nat.beq cg3 0 then some [.i (gi g3 0).int] else some [.i 0])))
def s_log_CheckLog : FSpec := ⟨92, [.s (.list KContact)], [], [], [.s (.int .i64)], [], [], [], F_log_CheckLog⟩
theorem b_log_CheckLog : BodyOK P t17 L_log_CheckLog_4 Tryz.f92 s_log_CheckLog := fun d => by kernel_rfl
theorem c_log_CheckLog : ∀ d r, F_log_CheckLog d = some r → ACallX P 92 (s_log_CheckLog.args0 d) (denH (s_log_CheckLog.H0 d)) (s_log_CheckLog.out r) (denH (s_log_CheckLog.H1 r)) := fun d r h => body_sound hm t17_ok (sp := s_log_CheckLog) Tryz.func92 (by kernel_rfl) L_log_CheckLog_4_ok b_log_CheckLog (by kernel_rfl) h
def t18 : Tab := t17.addP s_log_CheckLog
theorem t18_ok : TabOK P t18 := t17_ok.addP (by kernel_rfl) (by kernel_rfl) c_log_CheckLog

/- pileup/call.BaseOf -/
def F_call_BaseOf (d : List G) : Option (List G) :=
  (callF (F_call_Parts [.s (gi d 0).str]) fun g1 => some [.s (gi (gi g1 0).row 0).str])
def s_call_BaseOf : FSpec := ⟨120, [.s (.str)], [], [], [.s (.str)], [], [], [], F_call_BaseOf⟩
theorem b_call_BaseOf : BodyOK P t18 noLoops Tryz.f120 s_call_BaseOf := fun d => by kernel_rfl
theorem c_call_BaseOf : ∀ d r, F_call_BaseOf d = some r → ACallX P 120 (s_call_BaseOf.args0 d) (denH (s_call_BaseOf.H0 d)) (s_call_BaseOf.out r) (denH (s_call_BaseOf.H1 r)) := fun d r h => body_sound hm t18_ok (sp := s_call_BaseOf) Tryz.func120 (by kernel_rfl) (noLoops_ok _ _ _) b_call_BaseOf (by kernel_rfl) h
def t19 : Tab := t18.addP s_call_BaseOf
theorem t19_ok : TabOK P t19 := t18_ok.addP (by kernel_rfl) (by kernel_rfl) c_call_BaseOf

/- pileup/log.dupes -/
def st_log_dupes_4 (d : List G) : Option (Option Nat × List G) :=
  (bif (ltI (gi d 5).int (gi d 4).int) then (bif ((nnI (gi d 5).int) && (ltI (gi d 5).int (((gi d 3).rows.length : Nat) : Int))) then (callF (F_call_BaseOf [.s (gi ((gi d 3).rows.getD (((gi d 5).int).toNat) []) 3).str]) fun g1 => (bif (gi (mget [.str, .str, .int .i64] (gi d 0).rows [.s (gi g1 0).str, .s (gi ((gi d 3).rows.getD (((gi d 5).int).toNat) []) 2).str, .i (gi ((gi d 3).rows.getD (((gi d 5).int).toNat) []) 1).int] [.t false]) 0).bool then (bif ((Nat.beq (gi d 2).rows.length (gi d 2).rows.length) && (decide (((gi d 2).rows.length + 1) ≤ 1048576))) then (bif (inI ((gi d 5).int + 1)) then (bif ((Nat.beq ((gi d 2).rows ++ ([[.i (gi d 5).int]] : List (List G))).length ((gi d 2).rows ++ ([[.i (gi d 5).int]] : List (List G))).length) && true) then some (none, [.l (mput [.str, .str, .int .i64] (gi d 0).rows [.s (gi g1 0).str, .s (gi ((gi d 3).rows.getD (((gi d 5).int).toNat) []) 2).str, .i (gi ((gi d 3).rows.getD (((gi d 5).int).toNat) []) 1).int] [.t true] (gi d 1).int.toNat), .i (((mclk [.str, .str, .int .i64] (gi d 0).rows [.s (gi g1 0).str, .s (gi ((gi d 3).rows.getD (((gi d 5).int).toNat) []) 2).str, .i (gi ((gi d 3).rows.getD (((gi d 5).int).toNat) []) 1).int] (gi d 1).int.toNat) : Nat) : Int), .l ((gi d 2).rows ++ ([[.i (gi d 5).int]] : List (List G))), .l (gi d 3).rows, .i (gi d 4).int, .i ((gi d 5).int + 1)]) else none) else none) else none) else (bif (inI ((gi d 5).int + 1)) then (bif ((Nat.beq (gi d 2).rows.length (gi d 2).rows.length) && true) then some (none, [.l (mput [.str, .str, .int .i64] (gi d 0).rows [.s (gi g1 0).str, .s (gi ((gi d 3).rows.getD (((gi d 5).int).toNat) []) 2).str, .i (gi ((gi d 3).rows.getD (((gi d 5).int).toNat) []) 1).int] [.t true] (gi d 1).int.toNat), .i (((mclk [.str, .str, .int .i64] (gi d 0).rows [.s (gi g1 0).str, .s (gi ((gi d 3).rows.getD (((gi d 5).int).toNat) []) 2).str, .i (gi ((gi d 3).rows.getD (((gi d 5).int).toNat) []) 1).int] (gi d 1).int.toNat) : Nat) : Int), .l (gi d 2).rows, .l (gi d 3).rows, .i (gi d 4).int, .i ((gi d 5).int + 1)]) else none) else none))) else none) else (bif ((Nat.beq (gi d 2).rows.length (gi d 2).rows.length) && true) then some (some 0, [.l (gi d 2).rows]) else none))
def l_log_dupes_4 : LSpec := ⟨4, [(4, [.int .i64])], ⟨35, [(3, .s (.map 0)), (4, .s (.vec 1 1)), (9, .s (.list KContact)), (10, .s (.int .i64)), (11, .s (.int .i64))], [.map (.agg [.str, .str, .int .i64]) (.one (.bool)), .vec [.int .i64] 0]⟩, [.slot 3, .slot 4], [⟨.exit 0, ⟨35, [(4, .s (.vec 0 1))], [.vec [.int .i64] 0]⟩, [.slot 4]⟩], st_log_dupes_4⟩
theorem r_log_dupes_4 : RoundOK P t19 noLoops 0 (loopAt Tryz.f93 4) l_log_dupes_4 := fun d => by kernel_rfl
def L_log_dupes_4 : LT := noLoops.add 0 l_log_dupes_4
theorem L_log_dupes_4_ok : LoopsOK P 0 L_log_dupes_4 (bodyOf Tryz.f93) := LoopsOK.add hm t19_ok (by kernel_rfl) (noLoops_ok _ _ _) r_log_dupes_4
def F_log_dupes (d : List G) : Option (List G) :=
  (loopB true (LRun st_log_dupes_4 [.l [], .i 0, .l [], .l (gi d 0).rows, .i (((gi d 0).rows.length : Nat) : Int), .i 0]) fun cg2 g2 => (bif ((Nat.beq (gi g2 0).rows.length (gi g2 0).rows.length) && true) then some [.l (gi g2 0).rows] else none))
def s_log_dupes : FSpec := ⟨93, [.s (.list KContact)], [], [], [.s (.list [.int .i64])], [], [], [], F_log_dupes⟩
theorem b_log_dupes : BodyOK P t19 L_log_dupes_4 Tryz.f93 s_log_dupes := fun d => by kernel_rfl
theorem c_log_dupes : ∀ d r, F_log_dupes d = some r → ACallX P 93 (s_log_dupes.args0 d) (denH (s_log_dupes.H0 d)) (s_log_dupes.out r) (denH (s_log_dupes.H1 r)) := fun d r h => body_sound hm t19_ok (sp := s_log_dupes) Tryz.func93 (by kernel_rfl) L_log_dupes_4_ok b_log_dupes (by kernel_rfl) h
def t20 : Tab := t19.addP s_log_dupes
theorem t20_ok : TabOK P t20 := t19_ok.addP (by kernel_rfl) (by kernel_rfl) c_log_dupes

/- pileup/log.Dupes -/
def F_log_Dupes (d : List G) : Option (List G) :=
  (callF (F_log_CheckLog [.l (gi d 0).rows]) fun g1 => (bif ((gi g1 0).int != 0) then some [.l [], .i (gi g1 0).int] else (callF (F_log_dupes [.l (gi d 0).rows]) fun g2 => some [.l (gi g2 0).rows, .i 0])))
def s_log_Dupes : FSpec := ⟨56, [.s (.list KContact)], [], [], [.s (.list [.int .i64]), .s (.int .i64)], [], [], [], F_log_Dupes⟩
theorem b_log_Dupes : BodyOK P t20 noLoops Tryz.f56 s_log_Dupes := fun d => by kernel_rfl
theorem c_log_Dupes : ∀ d r, F_log_Dupes d = some r → ACallX P 56 (s_log_Dupes.args0 d) (denH (s_log_Dupes.H0 d)) (s_log_Dupes.out r) (denH (s_log_Dupes.H1 r)) := fun d r h => body_sound hm t20_ok (sp := s_log_Dupes) Tryz.func56 (by kernel_rfl) (noLoops_ok _ _ _) b_log_Dupes (by kernel_rfl) h
def t21 : Tab := t20.addP s_log_Dupes
theorem t21_ok : TabOK P t21 := t20_ok.addP (by kernel_rfl) (by kernel_rfl) c_log_Dupes

/- pileup/club.isSquare -/
def st_club_isSquare_4 (d : List G) : Option (Option Nat × List G) :=
  (bif (ltI (gi d 2).int (gi d 1).int) then (bif (inI (Int.tdiv (gi d 2).int 2)) then (bif ((Int.tdiv (gi d 2).int 2) == 1) then (bif ((nnI (gi d 2).int) && (ltI (gi d 2).int (((gi d 0).str.size : Nat) : Int))) then (bif (ltI (((gi d 0).str.data.toList.getD (((gi d 2).int).toNat) 0).toNat : Int) 48) then some (some 0, [.t false]) else (bif ((nnI (gi d 2).int) && (ltI (gi d 2).int (((gi d 0).str.size : Nat) : Int))) then (bif (ltI 57 (((gi d 0).str.data.toList.getD (((gi d 2).int).toNat) 0).toNat : Int)) then some (some 0, [.t false]) else (bif (inI ((gi d 2).int + 1)) then some (none, [.s (gi d 0).str, .i (gi d 1).int, .i ((gi d 2).int + 1)]) else none)) else none)) else none) else (bif ((Int.tdiv (gi d 2).int 2) == 2) then (bif ((nnI (gi d 2).int) && (ltI (gi d 2).int (((gi d 0).str.size : Nat) : Int))) then (bif (ltI (((gi d 0).str.data.toList.getD (((gi d 2).int).toNat) 0).toNat : Int) 97) then some (some 0, [.t false]) else (bif ((nnI (gi d 2).int) && (ltI (gi d 2).int (((gi d 0).str.size : Nat) : Int))) then (bif (ltI 120 (((gi d 0).str.data.toList.getD (((gi d 2).int).toNat) 0).toNat : Int)) then some (some 0, [.t false]) else (bif (inI ((gi d 2).int + 1)) then some (none, [.s (gi d 0).str, .i (gi d 1).int, .i ((gi d 2).int + 1)]) else none)) else none)) else none) else (bif ((nnI (gi d 2).int) && (ltI (gi d 2).int (((gi d 0).str.size : Nat) : Int))) then (bif (ltI (((gi d 0).str.data.toList.getD (((gi d 2).int).toNat) 0).toNat : Int) 97) then some (some 0, [.t false]) else (bif ((nnI (gi d 2).int) && (ltI (gi d 2).int (((gi d 0).str.size : Nat) : Int))) then (bif (ltI 114 (((gi d 0).str.data.toList.getD (((gi d 2).int).toNat) 0).toNat : Int)) then some (some 0, [.t false]) else (bif (inI ((gi d 2).int + 1)) then some (none, [.s (gi d 0).str, .i (gi d 1).int, .i ((gi d 2).int + 1)]) else none)) else none)) else none))) else none) else some (some 1, []))
def l_club_isSquare_4 : LSpec := ⟨4, [], ⟨43, [(0, .s (.str)), (20, .s (.int .i64)), (21, .s (.int .i64))], []⟩, [], [⟨.ret, ⟨43, [(2, .s (.bool))], []⟩, []⟩, ⟨.exit 0, ⟨43, [], []⟩, []⟩], st_club_isSquare_4⟩
theorem r_club_isSquare_4 : RoundOK P t21 noLoops 0 (loopAt Tryz.f153 4) l_club_isSquare_4 := fun d => by kernel_rfl
def L_club_isSquare_4 : LT := noLoops.add 0 l_club_isSquare_4
theorem L_club_isSquare_4_ok : LoopsOK P 0 L_club_isSquare_4 (bodyOf Tryz.f153) := LoopsOK.add hm t21_ok (by kernel_rfl) (noLoops_ok _ _ _) r_club_isSquare_4
def F_club_isSquare (d : List G) : Option (List G) :=
  (bif ((((gi d 0).str.size : Nat) : Int) != 2) then (bif ((((gi d 0).str.size : Nat) : Int) != 4) then (bif ((((gi d 0).str.size : Nat) : Int) != 6) then some [.t false] else (loopB true (LRun st_club_isSquare_4 [.s (gi d 0).str, .i (((gi d 0).str.size : Nat) : Int), .i 0]) fun cg1 g1 => (bif Nat.beq cg1 0 then some [.t (gi g1 0).bool] else some [.t true]))) else (loopB true (LRun st_club_isSquare_4 [.s (gi d 0).str, .i (((gi d 0).str.size : Nat) : Int), .i 0]) fun cg2 g2 => (bif Nat.beq cg2 0 then some [.t (gi g2 0).bool] else some [.t true]))) else (loopB true (LRun st_club_isSquare_4 [.s (gi d 0).str, .i (((gi d 0).str.size : Nat) : Int), .i 0]) fun cg3 g3 => (bif Nat.beq cg3 0 then some [.t (gi g3 0).bool] else some [.t true])))
def s_club_isSquare : FSpec := ⟨153, [.s (.str)], [], [], [.s (.bool)], [], [], [], F_club_isSquare⟩
theorem b_club_isSquare : BodyOK P t21 L_club_isSquare_4 Tryz.f153 s_club_isSquare := fun d => by kernel_rfl
theorem c_club_isSquare : ∀ d r, F_club_isSquare d = some r → ACallX P 153 (s_club_isSquare.args0 d) (denH (s_club_isSquare.H0 d)) (s_club_isSquare.out r) (denH (s_club_isSquare.H1 r)) := fun d r h => body_sound hm t21_ok (sp := s_club_isSquare) Tryz.func153 (by kernel_rfl) L_club_isSquare_4_ok b_club_isSquare (by kernel_rfl) h
def t22 : Tab := t21.addP s_club_isSquare
theorem t22_ok : TabOK P t22 := t21_ok.addP (by kernel_rfl) (by kernel_rfl) c_club_isSquare

/- pileup/club.isLocator -/
def F_club_isLocator (d : List G) : Option (List G) :=
  (bif ((((gi d 0).str.size : Nat) : Int) == 6) then (callF (F_club_isSquare [.s (gi d 0).str]) fun g1 => some [.t (gi g1 0).bool]) else some [.t false])
def s_club_isLocator : FSpec := ⟨121, [.s (.str)], [], [], [.s (.bool)], [], [], [], F_club_isLocator⟩
theorem b_club_isLocator : BodyOK P t22 noLoops Tryz.f121 s_club_isLocator := fun d => by kernel_rfl
theorem c_club_isLocator : ∀ d r, F_club_isLocator d = some r → ACallX P 121 (s_club_isLocator.args0 d) (denH (s_club_isLocator.H0 d)) (s_club_isLocator.out r) (denH (s_club_isLocator.H1 r)) := fun d r h => body_sound hm t22_ok (sp := s_club_isLocator) Tryz.func121 (by kernel_rfl) (noLoops_ok _ _ _) b_club_isLocator (by kernel_rfl) h
def t23 : Tab := t22.addP s_club_isLocator
theorem t23_ok : TabOK P t23 := t22_ok.addP (by kernel_rfl) (by kernel_rfl) c_club_isLocator

/- pileup/club.CheckEntrants -/
def st_club_CheckEntrants_4 (d : List G) : Option (Option Nat × List G) :=
  (bif (ltI (gi d 3).int (gi d 2).int) then (bif ((nnI (gi d 3).int) && (ltI (gi d 3).int (((gi d 1).rows.length : Nat) : Int))) then (callF (F_call_Is [.s (gi ((gi d 1).rows.getD (((gi d 3).int).toNat) []) 0).str]) fun g1 => (bif (!(gi g1 0).bool) then some (some 0, [.i 3]) else (callF (F_kit_IsKey [.s (gi ((gi d 1).rows.getD (((gi d 3).int).toNat) []) 1).str]) fun g2 => (bif (!(gi g2 0).bool) then some (some 0, [.i 5]) else (callF (F_kit_Outside [.i (gi ((gi d 1).rows.getD (((gi d 3).int).toNat) []) 2).int, .i 0, .i 1000000000000]) fun g3 => (bif (gi g3 0).bool then some (some 0, [.i 1]) else (bif (!((gi ((gi d 1).rows.getD (((gi d 3).int).toNat) []) 3).str.toList == (⟨#[]⟩ : ByteArray).toList)) then (callF (F_club_isLocator [.s (gi ((gi d 1).rows.getD (((gi d 3).int).toNat) []) 3).str]) fun g4 => (bif (!(gi g4 0).bool) then some (some 0, [.i 3]) else (bif (ltI 0 (gi d 3).int) then (bif (inI ((gi d 3).int - 1)) then (bif ((nnI ((gi d 3).int - 1)) && (ltI ((gi d 3).int - 1) (((gi d 0).rows.length : Nat) : Int))) then (callF (F_strings_Compare [.s (gi ((gi d 0).rows.getD (((gi d 3).int - 1).toNat) []) 1).str, .s (gi ((gi d 1).rows.getD (((gi d 3).int).toNat) []) 1).str]) fun g5 => (bif (inI ((gi d 3).int - 1)) then (bif ((nnI ((gi d 3).int - 1)) && (ltI ((gi d 3).int - 1) (((gi d 0).rows.length : Nat) : Int))) then (callF (F_strings_Compare [.s (gi ((gi d 0).rows.getD (((gi d 3).int - 1).toNat) []) 0).str, .s (gi ((gi d 1).rows.getD (((gi d 3).int).toNat) []) 0).str]) fun g6 => (callF (F_cmp_Or_int [.l [[.i (gi g5 0).int], [.i (gi g6 0).int]]]) fun g7 => (bif (leI 0 (gi g7 0).int) then some (some 0, [.i 7]) else (bif (inI ((gi d 3).int + 1)) then some (none, [.l (gi d 0).rows, .l (gi d 1).rows, .i (gi d 2).int, .i ((gi d 3).int + 1)]) else none)))) else none) else none)) else none) else none) else (bif (inI ((gi d 3).int + 1)) then some (none, [.l (gi d 0).rows, .l (gi d 1).rows, .i (gi d 2).int, .i ((gi d 3).int + 1)]) else none)))) else (bif (ltI 0 (gi d 3).int) then (bif (inI ((gi d 3).int - 1)) then (bif ((nnI ((gi d 3).int - 1)) && (ltI ((gi d 3).int - 1) (((gi d 0).rows.length : Nat) : Int))) then (callF (F_strings_Compare [.s (gi ((gi d 0).rows.getD (((gi d 3).int - 1).toNat) []) 1).str, .s (gi ((gi d 1).rows.getD (((gi d 3).int).toNat) []) 1).str]) fun g8 => (bif (inI ((gi d 3).int - 1)) then (bif ((nnI ((gi d 3).int - 1)) && (ltI ((gi d 3).int - 1) (((gi d 0).rows.length : Nat) : Int))) then (callF (F_strings_Compare [.s (gi ((gi d 0).rows.getD (((gi d 3).int - 1).toNat) []) 0).str, .s (gi ((gi d 1).rows.getD (((gi d 3).int).toNat) []) 0).str]) fun g9 => (callF (F_cmp_Or_int [.l [[.i (gi g8 0).int], [.i (gi g9 0).int]]]) fun g10 => (bif (leI 0 (gi g10 0).int) then some (some 0, [.i 7]) else (bif (inI ((gi d 3).int + 1)) then some (none, [.l (gi d 0).rows, .l (gi d 1).rows, .i (gi d 2).int, .i ((gi d 3).int + 1)]) else none)))) else none) else none)) else none) else none) else (bif (inI ((gi d 3).int + 1)) then some (none, [.l (gi d 0).rows, .l (gi d 1).rows, .i (gi d 2).int, .i ((gi d 3).int + 1)]) else none))))))))) else none) else some (some 1, []))
def l_club_CheckEntrants_4 : LSpec := ⟨4, [], ⟨66, [(0, .s (.list KEntrant)), (8, .s (.list KEntrant)), (9, .s (.int .i64)), (10, .s (.int .i64))], []⟩, [], [⟨.ret, ⟨66, [(2, .s (.int .i64))], []⟩, []⟩, ⟨.exit 0, ⟨66, [], []⟩, []⟩], st_club_CheckEntrants_4⟩
theorem r_club_CheckEntrants_4 : RoundOK P t23 noLoops 0 (loopAt Tryz.f94 4) l_club_CheckEntrants_4 := fun d => by kernel_rfl
def L_club_CheckEntrants_4 : LT := noLoops.add 0 l_club_CheckEntrants_4
theorem L_club_CheckEntrants_4_ok : LoopsOK P 0 L_club_CheckEntrants_4 (bodyOf Tryz.f94) := LoopsOK.add hm t23_ok (by kernel_rfl) (noLoops_ok _ _ _) r_club_CheckEntrants_4
def F_club_CheckEntrants (d : List G) : Option (List G) :=
  (bif (ltI 500 (((gi d 0).rows.length : Nat) : Int)) then some [.i 2] else (loopB true (LRun st_club_CheckEntrants_4 [.l (gi d 0).rows, .l (gi d 0).rows, .i (((gi d 0).rows.length : Nat) : Int), .i 0]) fun cg11 g11 => (bif Nat.beq cg11 0 then some [.i (gi g11 0).int] else some [.i 0])))
def s_club_CheckEntrants : FSpec := ⟨94, [.s (.list KEntrant)], [], [], [.s (.int .i64)], [], [], [], F_club_CheckEntrants⟩
theorem b_club_CheckEntrants : BodyOK P t23 L_club_CheckEntrants_4 Tryz.f94 s_club_CheckEntrants := fun d => by kernel_rfl
theorem c_club_CheckEntrants : ∀ d r, F_club_CheckEntrants d = some r → ACallX P 94 (s_club_CheckEntrants.args0 d) (denH (s_club_CheckEntrants.H0 d)) (s_club_CheckEntrants.out r) (denH (s_club_CheckEntrants.H1 r)) := fun d r h => body_sound hm t23_ok (sp := s_club_CheckEntrants) Tryz.func94 (by kernel_rfl) L_club_CheckEntrants_4_ok b_club_CheckEntrants (by kernel_rfl) h
def t24 : Tab := t23.addP s_club_CheckEntrants
theorem t24_ok : TabOK P t24 := t23_ok.addP (by kernel_rfl) (by kernel_rfl) c_club_CheckEntrants

/- math/bits.Len64 -/
def tl_bits_Len64_10 (d : List G) : Option (Option Nat × List G) :=
  (bif ((nnI (IntKind.u8.wrap ((gi d 0).int))) && (ltI (IntKind.u8.wrap ((gi d 0).int)) 256)) then (bif (inI (((⟨#[0, 1, 2, 2, 3, 3, 3, 3, 4, 4, 4, 4, 4, 4, 4, 4, 5, 5, 5, 5, 5, 5, 5, 5, 5, 5, 5, 5, 5, 5, 5, 5, 6, 6, 6, 6, 6, 6, 6, 6, 6, 6, 6, 6, 6, 6, 6, 6, 6, 6, 6, 6, 6, 6, 6, 6, 6, 6, 6, 6, 6, 6, 6, 6, 7, 7, 7, 7, 7, 7, 7, 7, 7, 7, 7, 7, 7, 7, 7, 7, 7, 7, 7, 7, 7, 7, 7, 7, 7, 7, 7, 7, 7, 7, 7, 7, 7, 7, 7, 7, 7, 7, 7, 7, 7, 7, 7, 7, 7, 7, 7, 7, 7, 7, 7, 7, 7, 7, 7, 7, 7, 7, 7, 7, 7, 7, 7, 7, 8, 8, 8, 8, 8, 8, 8, 8, 8, 8, 8, 8, 8, 8, 8, 8, 8, 8, 8, 8, 8, 8, 8, 8, 8, 8, 8, 8, 8, 8, 8, 8, 8, 8, 8, 8, 8, 8, 8, 8, 8, 8, 8, 8, 8, 8, 8, 8, 8, 8, 8, 8, 8, 8, 8, 8, 8, 8, 8, 8, 8, 8, 8, 8, 8, 8, 8, 8, 8, 8, 8, 8, 8, 8, 8, 8, 8, 8, 8, 8, 8, 8, 8, 8, 8, 8, 8, 8, 8, 8, 8, 8, 8, 8, 8, 8, 8, 8, 8, 8, 8, 8, 8, 8, 8, 8, 8, 8, 8, 8, 8, 8, 8, 8, 8, 8, 8, 8, 8, 8, 8, 8, 8, 8, 8, 8, 8, 8]⟩ : ByteArray).data.toList.getD ((IntKind.u8.wrap ((gi d 0).int)).toNat) 0).toNat : Int)) then (bif (inI ((gi d 1).int + (((⟨#[0, 1, 2, 2, 3, 3, 3, 3, 4, 4, 4, 4, 4, 4, 4, 4, 5, 5, 5, 5, 5, 5, 5, 5, 5, 5, 5, 5, 5, 5, 5, 5, 6, 6, 6, 6, 6, 6, 6, 6, 6, 6, 6, 6, 6, 6, 6, 6, 6, 6, 6, 6, 6, 6, 6, 6, 6, 6, 6, 6, 6, 6, 6, 6, 7, 7, 7, 7, 7, 7, 7, 7, 7, 7, 7, 7, 7, 7, 7, 7, 7, 7, 7, 7, 7, 7, 7, 7, 7, 7, 7, 7, 7, 7, 7, 7, 7, 7, 7, 7, 7, 7, 7, 7, 7, 7, 7, 7, 7, 7, 7, 7, 7, 7, 7, 7, 7, 7, 7, 7, 7, 7, 7, 7, 7, 7, 7, 7, 8, 8, 8, 8, 8, 8, 8, 8, 8, 8, 8, 8, 8, 8, 8, 8, 8, 8, 8, 8, 8, 8, 8, 8, 8, 8, 8, 8, 8, 8, 8, 8, 8, 8, 8, 8, 8, 8, 8, 8, 8, 8, 8, 8, 8, 8, 8, 8, 8, 8, 8, 8, 8, 8, 8, 8, 8, 8, 8, 8, 8, 8, 8, 8, 8, 8, 8, 8, 8, 8, 8, 8, 8, 8, 8, 8, 8, 8, 8, 8, 8, 8, 8, 8, 8, 8, 8, 8, 8, 8, 8, 8, 8, 8, 8, 8, 8, 8, 8, 8, 8, 8, 8, 8, 8, 8, 8, 8, 8, 8, 8, 8, 8, 8, 8, 8, 8, 8, 8, 8, 8, 8, 8, 8, 8, 8, 8, 8]⟩ : ByteArray).data.toList.getD ((IntKind.u8.wrap ((gi d 0).int)).toNat) 0).toNat : Int))) then some (some 0, [.i ((gi d 1).int + (((⟨#[0, 1, 2, 2, 3, 3, 3, 3, 4, 4, 4, 4, 4, 4, 4, 4, 5, 5, 5, 5, 5, 5, 5, 5, 5, 5, 5, 5, 5, 5, 5, 5, 6, 6, 6, 6, 6, 6, 6, 6, 6, 6, 6, 6, 6, 6, 6, 6, 6, 6, 6, 6, 6, 6, 6, 6, 6, 6, 6, 6, 6, 6, 6, 6, 7, 7, 7, 7, 7, 7, 7, 7, 7, 7, 7, 7, 7, 7, 7, 7, 7, 7, 7, 7, 7, 7, 7, 7, 7, 7, 7, 7, 7, 7, 7, 7, 7, 7, 7, 7, 7, 7, 7, 7, 7, 7, 7, 7, 7, 7, 7, 7, 7, 7, 7, 7, 7, 7, 7, 7, 7, 7, 7, 7, 7, 7, 7, 7, 8, 8, 8, 8, 8, 8, 8, 8, 8, 8, 8, 8, 8, 8, 8, 8, 8, 8, 8, 8, 8, 8, 8, 8, 8, 8, 8, 8, 8, 8, 8, 8, 8, 8, 8, 8, 8, 8, 8, 8, 8, 8, 8, 8, 8, 8, 8, 8, 8, 8, 8, 8, 8, 8, 8, 8, 8, 8, 8, 8, 8, 8, 8, 8, 8, 8, 8, 8, 8, 8, 8, 8, 8, 8, 8, 8, 8, 8, 8, 8, 8, 8, 8, 8, 8, 8, 8, 8, 8, 8, 8, 8, 8, 8, 8, 8, 8, 8, 8, 8, 8, 8, 8, 8, 8, 8, 8, 8, 8, 8, 8, 8, 8, 8, 8, 8, 8, 8, 8, 8, 8, 8, 8, 8, 8, 8, 8, 8]⟩ : ByteArray).data.toList.getD ((IntKind.u8.wrap ((gi d 0).int)).toNat) 0).toNat : Int))]) else none) else none) else none)
def l_bits_Len64_10c : LSpec := ⟨10, [], ⟨25, [(0, .s (.int .u64)), (2, .s (.int .i64))], []⟩, [], [⟨.ret, ⟨25, [(2, .s (.int .i64))], []⟩, []⟩], tl_bits_Len64_10⟩
theorem r_bits_Len64_10c : CutOK P t24 noLoops 0 (cutAt Tryz.f174 10) l_bits_Len64_10c := fun d => by kernel_rfl
def L_bits_Len64_10c : LT := noLoops.addCut 0 l_bits_Len64_10c
theorem L_bits_Len64_10c_ok : LoopsOK P 0 L_bits_Len64_10c (bodyOf Tryz.f174) := LoopsOK.addCut hm t24_ok (by kernel_rfl) (noLoops_ok _ _ _) r_bits_Len64_10c
def F_bits_Len64 (d : List G) : Option (List G) :=
  (bif (leI 4294967296 (gi d 0).int) then (bif (leI 65536 (shrI .u64 (gi d 0).int 32)) then (bif (leI 256 (shrI .u64 (shrI .u64 (gi d 0).int 32) 16)) then (loopB true (cutR (tl_bits_Len64_10 [.i (shrI .u64 (shrI .u64 (shrI .u64 (gi d 0).int 32) 16) 8), .i 56])) fun cg1 g1 => some [.i (gi g1 0).int]) else (loopB true (cutR (tl_bits_Len64_10 [.i (shrI .u64 (shrI .u64 (gi d 0).int 32) 16), .i 48])) fun cg2 g2 => some [.i (gi g2 0).int])) else (bif (leI 256 (shrI .u64 (gi d 0).int 32)) then (loopB true (cutR (tl_bits_Len64_10 [.i (shrI .u64 (shrI .u64 (gi d 0).int 32) 8), .i 40])) fun cg3 g3 => some [.i (gi g3 0).int]) else (loopB true (cutR (tl_bits_Len64_10 [.i (shrI .u64 (gi d 0).int 32), .i 32])) fun cg4 g4 => some [.i (gi g4 0).int]))) else (bif (leI 65536 (gi d 0).int) then (bif (leI 256 (shrI .u64 (gi d 0).int 16)) then (loopB true (cutR (tl_bits_Len64_10 [.i (shrI .u64 (shrI .u64 (gi d 0).int 16) 8), .i 24])) fun cg5 g5 => some [.i (gi g5 0).int]) else (loopB true (cutR (tl_bits_Len64_10 [.i (shrI .u64 (gi d 0).int 16), .i 16])) fun cg6 g6 => some [.i (gi g6 0).int])) else (bif (leI 256 (gi d 0).int) then (loopB true (cutR (tl_bits_Len64_10 [.i (shrI .u64 (gi d 0).int 8), .i 8])) fun cg7 g7 => some [.i (gi g7 0).int]) else (loopB true (cutR (tl_bits_Len64_10 [.i (gi d 0).int, .i 0])) fun cg8 g8 => some [.i (gi g8 0).int]))))
def s_bits_Len64 : FSpec := ⟨174, [.s (.int .u64)], [], [], [.s (.int .i64)], [], [], [], F_bits_Len64⟩
theorem b_bits_Len64 : BodyOK P t24 L_bits_Len64_10c Tryz.f174 s_bits_Len64 := fun d => by kernel_rfl
theorem c_bits_Len64 : ∀ d r, F_bits_Len64 d = some r → ACallX P 174 (s_bits_Len64.args0 d) (denH (s_bits_Len64.H0 d)) (s_bits_Len64.out r) (denH (s_bits_Len64.H1 r)) := fun d r h => body_sound hm t24_ok (sp := s_bits_Len64) Tryz.func174 (by kernel_rfl) L_bits_Len64_10c_ok b_bits_Len64 (by kernel_rfl) h
def t25 : Tab := t24.addP s_bits_Len64
theorem t25_ok : TabOK P t25 := t24_ok.addP (by kernel_rfl) (by kernel_rfl) c_bits_Len64

/- math/bits.Len -/
def F_bits_Len (d : List G) : Option (List G) :=
  (callF (F_bits_Len64 [.i (gi d 0).int]) fun g1 => some [.i (gi g1 0).int])
def s_bits_Len : FSpec := ⟨140, [.s (.int .u64)], [], [], [.s (.int .i64)], [], [], [], F_bits_Len⟩
theorem b_bits_Len : BodyOK P t25 noLoops Tryz.f140 s_bits_Len := fun d => by kernel_rfl
theorem c_bits_Len : ∀ d r, F_bits_Len d = some r → ACallX P 140 (s_bits_Len.args0 d) (denH (s_bits_Len.H0 d)) (s_bits_Len.out r) (denH (s_bits_Len.H1 r)) := fun d r h => body_sound hm t25_ok (sp := s_bits_Len) Tryz.func140 (by kernel_rfl) (noLoops_ok _ _ _) b_bits_Len (by kernel_rfl) h
def t26 : Tab := t25.addP s_bits_Len
theorem t26_ok : TabOK P t26 := t25_ok.addP (by kernel_rfl) (by kernel_rfl) c_bits_Len

/- pileup/club.ranked$1 -/
def F_club_ranked_1 (d : List G) : Option (List G) :=
  (callF (F_cmp_Compare_int [.i (gi (gi d 1).row 1).int, .i (gi (gi d 0).row 1).int]) fun g1 => (callF (F_strings_Compare [.s (gi (gi d 0).row 2).str, .s (gi (gi d 1).row 2).str]) fun g2 => (callF (F_cmp_Or_int [.l [[.i (gi g1 0).int], [.i (gi g2 0).int]]]) fun g3 => some [.i (gi g3 0).int])))
def s_club_ranked_1 : FSpec := ⟨123, [.s (.row KPlace), .s (.row KPlace)], [], [], [.s (.int .i64)], [], [], [], F_club_ranked_1⟩
theorem b_club_ranked_1 : BodyOK P t26 noLoops Tryz.f123 s_club_ranked_1 := fun d => by kernel_rfl
theorem c_club_ranked_1 : ∀ d r, F_club_ranked_1 d = some r → ACallX P 123 (s_club_ranked_1.args0 d) (denH (s_club_ranked_1.H0 d)) (s_club_ranked_1.out r) (denH (s_club_ranked_1.H1 r)) := fun d r h => body_sound hm t26_ok (sp := s_club_ranked_1) Tryz.func123 (by kernel_rfl) (noLoops_ok _ _ _) b_club_ranked_1 (by kernel_rfl) h
def t27 : Tab := t26.addP s_club_ranked_1
theorem t27_ok : TabOK P t27 := t26_ok.addP (by kernel_rfl) (by kernel_rfl) c_club_ranked_1

/- slices.insertionSortCmpFunc[pileup/api.Place] -/
def st_slices_insertionSortCmpFunc_Place_4 (d : List G) : Option (Option Nat × List G) :=
  (bif (ltI (gi d 1).int (gi d 4).int) then (bif ((nnI (gi d 4).int) && (ltI (gi d 4).int (((gi d 0).rows.length : Nat) : Int))) then (bif (decide ((0 + ((gi d 4).int).toNat) < (gi d 0).rows.length)) then (bif (inI ((gi d 4).int - 1)) then (bif ((nnI ((gi d 4).int - 1)) && (ltI ((gi d 4).int - 1) (((gi d 0).rows.length : Nat) : Int))) then (bif (decide ((0 + ((gi d 4).int - 1).toNat) < (gi d 0).rows.length)) then (callF (F_club_ranked_1 [.l [(gEta KPlace ((gi d 0).rows.getD (0 + ((gi d 4).int).toNat) []))], .l [(gEta KPlace ((gi d 0).rows.getD (0 + ((gi d 4).int - 1).toNat) []))]]) fun g1 => (bif (ltI (gi g1 0).int 0) then (bif (inI ((gi d 4).int - 1)) then (bif (inI ((gi d 4).int - 1)) then (bif ((nnI ((gi d 4).int - 1)) && (ltI ((gi d 4).int - 1) (((gi d 0).rows.length : Nat) : Int))) then (bif (decide ((0 + ((gi d 4).int - 1).toNat) < (gi d 0).rows.length)) then (bif ((nnI (gi d 4).int) && (ltI (gi d 4).int (((gi d 0).rows.length : Nat) : Int))) then (bif (decide ((0 + ((gi d 4).int).toNat) < (gi d 0).rows.length)) then (bif ((nnI (gi d 4).int) && (ltI (gi d 4).int (((gi d 0).rows.length : Nat) : Int))) then (bif (decide ((0 + ((gi d 4).int).toNat) < (gi d 0).rows.length)) then (bif ((nnI ((gi d 4).int - 1)) && (ltI ((gi d 4).int - 1) (((gi d 0).rows.length : Nat) : Int))) then (bif (decide ((0 + ((gi d 4).int - 1).toNat) < ((gi d 0).rows.set (0 + ((gi d 4).int).toNat) (putG KPlace ((gi d 0).rows.getD (0 + ((gi d 4).int).toNat) []) 0 (gEta KPlace ((gi d 0).rows.getD (0 + ((gi d 4).int - 1).toNat) [])))).length)) then (bif (inI ((gi d 4).int - 1)) then (bif ((Nat.beq (gi d 0).rows.length (((gi d 0).rows.set (0 + ((gi d 4).int).toNat) (putG KPlace ((gi d 0).rows.getD (0 + ((gi d 4).int).toNat) []) 0 (gEta KPlace ((gi d 0).rows.getD (0 + ((gi d 4).int - 1).toNat) [])))).set (0 + ((gi d 4).int - 1).toNat) (putG KPlace (((gi d 0).rows.set (0 + ((gi d 4).int).toNat) (putG KPlace ((gi d 0).rows.getD (0 + ((gi d 4).int).toNat) []) 0 (gEta KPlace ((gi d 0).rows.getD (0 + ((gi d 4).int - 1).toNat) [])))).getD (0 + ((gi d 4).int - 1).toNat) []) 0 (gEta KPlace ((gi d 0).rows.getD (0 + ((gi d 4).int).toNat) [])))).length) && true) then some (none, [.l (((gi d 0).rows.set (0 + ((gi d 4).int).toNat) (putG KPlace ((gi d 0).rows.getD (0 + ((gi d 4).int).toNat) []) 0 (gEta KPlace ((gi d 0).rows.getD (0 + ((gi d 4).int - 1).toNat) [])))).set (0 + ((gi d 4).int - 1).toNat) (putG KPlace (((gi d 0).rows.set (0 + ((gi d 4).int).toNat) (putG KPlace ((gi d 0).rows.getD (0 + ((gi d 4).int).toNat) []) 0 (gEta KPlace ((gi d 0).rows.getD (0 + ((gi d 4).int - 1).toNat) [])))).getD (0 + ((gi d 4).int - 1).toNat) []) 0 (gEta KPlace ((gi d 0).rows.getD (0 + ((gi d 4).int).toNat) [])))), .i (gi d 1).int, .i (gi d 2).int, .i (gi d 3).int, .i ((gi d 4).int - 1)]) else none) else none) else none) else none) else none) else none) else none) else none) else none) else none) else none) else none) else (bif ((Nat.beq (gi d 0).rows.length (gi d 0).rows.length) && true) then some (some 0, [.l (gi d 0).rows, .i (gi d 1).int, .i (gi d 2).int, .i (gi d 3).int]) else none))) else none) else none) else none) else none) else none) else (bif ((Nat.beq (gi d 0).rows.length (gi d 0).rows.length) && true) then some (some 0, [.l (gi d 0).rows, .i (gi d 1).int, .i (gi d 2).int, .i (gi d 3).int]) else none))
def l_slices_insertionSortCmpFunc_Place_4 : LSpec := ⟨4, [], ⟨53, [(0, .s (.vec 0 3)), (1, .s (.int .i64)), (2, .s (.int .i64)), (3, .s (.fn 123)), (8, .s (.int .i64)), (9, .s (.int .i64))], [.vec KPlace 0]⟩, [.fix 0], [⟨.exit 2, ⟨53, [(0, .s (.vec 0 3)), (1, .s (.int .i64)), (2, .s (.int .i64)), (3, .s (.fn 123)), (8, .s (.int .i64))], [.vec KPlace 0]⟩, [.fix 0]⟩], st_slices_insertionSortCmpFunc_Place_4⟩
theorem r_slices_insertionSortCmpFunc_Place_4 : RoundOK P t27 noLoops 1 (loopAt Tryz.f194 4) l_slices_insertionSortCmpFunc_Place_4 := fun d => by kernel_rfl
def L_slices_insertionSortCmpFunc_Place_4 : LT := noLoops.add 1 l_slices_insertionSortCmpFunc_Place_4
theorem L_slices_insertionSortCmpFunc_Place_4_ok : LoopsOK P 1 L_slices_insertionSortCmpFunc_Place_4 (bodyOf Tryz.f194) := LoopsOK.add hm t27_ok (by kernel_rfl) (noLoops_ok _ _ _) r_slices_insertionSortCmpFunc_Place_4
def st_slices_insertionSortCmpFunc_Place_1 (d : List G) : Option (Option Nat × List G) :=
  (bif (ltI (gi d 3).int (gi d 2).int) then (loopB ((Nat.beq (gi d 0).rows.length (gi d 0).rows.length) && true) (LRun st_slices_insertionSortCmpFunc_Place_4 [.l (gi d 0).rows, .i (gi d 1).int, .i (gi d 2).int, .i (gi d 3).int, .i (gi d 3).int]) fun cg2 g2 => (bif (inI ((gi g2 3).int + 1)) then (bif ((Nat.beq (gi g2 0).rows.length (gi g2 0).rows.length) && true) then some (none, [.l (gi g2 0).rows, .i (gi g2 1).int, .i (gi g2 2).int, .i ((gi g2 3).int + 1)]) else none) else none)) else some (some 0, [.l (gi d 0).rows]))
def l_slices_insertionSortCmpFunc_Place_1 : LSpec := ⟨1, [], ⟨53, [(0, .s (.vec 0 3)), (1, .s (.int .i64)), (2, .s (.int .i64)), (3, .s (.fn 123)), (8, .s (.int .i64))], [.vec KPlace 0]⟩, [.fix 0], [⟨.exit 0, ⟨53, [], [.vec KPlace 0]⟩, [.fix 0]⟩], st_slices_insertionSortCmpFunc_Place_1⟩
theorem r_slices_insertionSortCmpFunc_Place_1 : RoundOK P t27 L_slices_insertionSortCmpFunc_Place_4 1 (loopAt Tryz.f194 1) l_slices_insertionSortCmpFunc_Place_1 := fun d => by kernel_rfl
def L_slices_insertionSortCmpFunc_Place_1 : LT := L_slices_insertionSortCmpFunc_Place_4.add 1 l_slices_insertionSortCmpFunc_Place_1
theorem L_slices_insertionSortCmpFunc_Place_1_ok : LoopsOK P 1 L_slices_insertionSortCmpFunc_Place_1 (bodyOf Tryz.f194) := LoopsOK.add hm t27_ok (by kernel_rfl) L_slices_insertionSortCmpFunc_Place_4_ok r_slices_insertionSortCmpFunc_Place_1
def F_slices_insertionSortCmpFunc_Place (d : List G) : Option (List G) :=
  (bif (inI ((gi d 1).int + 1)) then (loopB ((Nat.beq (gi d 0).rows.length (gi d 0).rows.length) && true) (LRun st_slices_insertionSortCmpFunc_Place_1 [.l (gi d 0).rows, .i (gi d 1).int, .i (gi d 2).int, .i ((gi d 1).int + 1)]) fun cg3 g3 => some [.l (gi g3 0).rows]) else none)
def s_slices_insertionSortCmpFunc_Place : FSpec := ⟨194, [.s (.vec 0 3), .s (.int .i64), .s (.int .i64), .s (.fn 123)], [.vec KPlace 0], [.slot 0], [], [.vec KPlace 0], [.fix 0], [], F_slices_insertionSortCmpFunc_Place⟩
theorem b_slices_insertionSortCmpFunc_Place : BodyOK P t27 L_slices_insertionSortCmpFunc_Place_1 Tryz.f194 s_slices_insertionSortCmpFunc_Place := fun d => by kernel_rfl
theorem c_slices_insertionSortCmpFunc_Place : ∀ d r, F_slices_insertionSortCmpFunc_Place d = some r → ACallX P 194 (s_slices_insertionSortCmpFunc_Place.args0 d) (denH (s_slices_insertionSortCmpFunc_Place.H0 d)) (s_slices_insertionSortCmpFunc_Place.out r) (denH (s_slices_insertionSortCmpFunc_Place.H1 r)) := fun d r h => body_sound hm t27_ok (sp := s_slices_insertionSortCmpFunc_Place) Tryz.func194 (by kernel_rfl) L_slices_insertionSortCmpFunc_Place_1_ok b_slices_insertionSortCmpFunc_Place (by kernel_rfl) h
def t28 : Tab := t27.addW s_slices_insertionSortCmpFunc_Place
theorem t28_ok : TabOK P t28 := t27_ok.addW (by kernel_rfl) (by kernel_rfl) c_slices_insertionSortCmpFunc_Place

/- slices.pdqsortCmpFunc[pileup/api.Place] -/
/- not followed: a call of slices.breakPatternsCmpFunc[pileup/api.Place] at zsortanyfunc.go:85; a call of slices.choosePivotCmpFunc[pileup/api.Place] at zsortanyfunc.go:89; a call of slices.heapSortCmpFunc[pileup/api.Place] at zsortanyfunc.go:79 -/
def st_slices_pdqsortCmpFunc_Place_2 (d : List G) : Option (Option Nat × List G) :=
  (bif (inI ((gi d 2).int - (gi d 1).int)) then (bif (leI ((gi d 2).int - (gi d 1).int) 12) then (callB (((Nat.beq (gi d 0).rows.length (gi d 0).rows.length) && true) && (F_slices_insertionSortCmpFunc_Place [.l (gi d 0).rows, .i (gi d 1).int, .i (gi d 2).int]).isSome) (F_slices_insertionSortCmpFunc_Place [.l (gi d 0).rows, .i (gi d 1).int, .i (gi d 2).int]) fun g1 => some (some 0, [.l (gi g1 0).rows])) else (bif ((gi d 3).int == 0) then none else (bif (!(gi d 4).bool) then none else none))) else none)
def l_slices_pdqsortCmpFunc_Place_2 : LSpec := ⟨2, [], ⟨148, [(0, .s (.vec 0 3)), (1, .s (.int .i64)), (2, .s (.int .i64)), (3, .s (.int .i64)), (4, .s (.fn 123)), (10, .s (.bool)), (11, .s (.bool))], [.vec KPlace 0]⟩, [.fix 0], [⟨.ret, ⟨148, [], [.vec KPlace 0]⟩, [.fix 0]⟩], st_slices_pdqsortCmpFunc_Place_2⟩
theorem r_slices_pdqsortCmpFunc_Place_2 : RoundOK P t28 noLoops 1 (loopAt Tryz.f154 2) l_slices_pdqsortCmpFunc_Place_2 := fun d => by kernel_rfl
def L_slices_pdqsortCmpFunc_Place_2 : LT := noLoops.add 1 l_slices_pdqsortCmpFunc_Place_2
theorem L_slices_pdqsortCmpFunc_Place_2_ok : LoopsOK P 1 L_slices_pdqsortCmpFunc_Place_2 (bodyOf Tryz.f154) := LoopsOK.add hm t28_ok (by kernel_rfl) (noLoops_ok _ _ _) r_slices_pdqsortCmpFunc_Place_2
def F_slices_pdqsortCmpFunc_Place (d : List G) : Option (List G) :=
  (loopB ((Nat.beq (gi d 0).rows.length (gi d 0).rows.length) && true) (LRun st_slices_pdqsortCmpFunc_Place_2 [.l (gi d 0).rows, .i (gi d 1).int, .i (gi d 2).int, .i (gi d 3).int, .t true, .t true]) fun cg2 g2 => some [.l (gi g2 0).rows])
def s_slices_pdqsortCmpFunc_Place : FSpec := ⟨154, [.s (.vec 0 3), .s (.int .i64), .s (.int .i64), .s (.int .i64), .s (.fn 123)], [.vec KPlace 0], [.slot 0], [], [.vec KPlace 0], [.fix 0], [], F_slices_pdqsortCmpFunc_Place⟩
theorem b_slices_pdqsortCmpFunc_Place : BodyOK P t28 L_slices_pdqsortCmpFunc_Place_2 Tryz.f154 s_slices_pdqsortCmpFunc_Place := fun d => by kernel_rfl
theorem c_slices_pdqsortCmpFunc_Place : ∀ d r, F_slices_pdqsortCmpFunc_Place d = some r → ACallX P 154 (s_slices_pdqsortCmpFunc_Place.args0 d) (denH (s_slices_pdqsortCmpFunc_Place.H0 d)) (s_slices_pdqsortCmpFunc_Place.out r) (denH (s_slices_pdqsortCmpFunc_Place.H1 r)) := fun d r h => body_sound hm t28_ok (sp := s_slices_pdqsortCmpFunc_Place) Tryz.func154 (by kernel_rfl) L_slices_pdqsortCmpFunc_Place_2_ok b_slices_pdqsortCmpFunc_Place (by kernel_rfl) h
def t29 : Tab := t28.addW s_slices_pdqsortCmpFunc_Place
theorem t29_ok : TabOK P t29 := t28_ok.addW (by kernel_rfl) (by kernel_rfl) c_slices_pdqsortCmpFunc_Place

/- slices.SortFunc[[]pileup/api.Place,pileup/api.Place] -/
def F_slices_SortFunc_Place (d : List G) : Option (List G) :=
  (callF (F_bits_Len [.i (IntKind.u64.wrap (((gi d 0).rows.length : Nat) : Int))]) fun g1 => (callB (((Nat.beq (gi d 0).rows.length (gi d 0).rows.length) && true) && (F_slices_pdqsortCmpFunc_Place [.l (gi d 0).rows, .i 0, .i (((gi d 0).rows.length : Nat) : Int), .i (gi g1 0).int]).isSome) (F_slices_pdqsortCmpFunc_Place [.l (gi d 0).rows, .i 0, .i (((gi d 0).rows.length : Nat) : Int), .i (gi g1 0).int]) fun g2 => some [.l (gi g2 0).rows]))
def s_slices_SortFunc_Place : FSpec := ⟨122, [.s (.vec 0 3), .s (.fn 123)], [.vec KPlace 0], [.slot 0], [], [.vec KPlace 0], [.fix 0], [], F_slices_SortFunc_Place⟩
theorem b_slices_SortFunc_Place : BodyOK P t29 noLoops Tryz.f122 s_slices_SortFunc_Place := fun d => by kernel_rfl
theorem c_slices_SortFunc_Place : ∀ d r, F_slices_SortFunc_Place d = some r → ACallX P 122 (s_slices_SortFunc_Place.args0 d) (denH (s_slices_SortFunc_Place.H0 d)) (s_slices_SortFunc_Place.out r) (denH (s_slices_SortFunc_Place.H1 r)) := fun d r h => body_sound hm t29_ok (sp := s_slices_SortFunc_Place) Tryz.func122 (by kernel_rfl) (noLoops_ok _ _ _) b_slices_SortFunc_Place (by kernel_rfl) h
def t30 : Tab := t29.addW s_slices_SortFunc_Place
theorem t30_ok : TabOK P t30 := t29_ok.addW (by kernel_rfl) (by kernel_rfl) c_slices_SortFunc_Place

/- pileup/club.ranked -/
def tl_club_ranked_7 (d : List G) : Option (Option Nat × List G) :=
  (bif (gi d 4).bool then (bif (inI ((gi d 1).int - 1)) then (bif ((nnI ((gi d 1).int - 1)) && (ltI ((gi d 1).int - 1) (((gi d 0).rows.length : Nat) : Int))) then (bif (decide ((0 + ((gi d 1).int - 1).toNat) < (gi d 0).rows.length)) then (bif ((nnI (gi d 1).int) && (ltI (gi d 1).int (((gi d 0).rows.length : Nat) : Int))) then (bif (decide ((0 + ((gi d 1).int).toNat) < (gi d 0).rows.length)) then (bif ((Nat.beq (gi d 0).rows.length ((gi d 0).rows.set (0 + ((gi d 1).int).toNat) (putG KPlace ((gi d 0).rows.getD (0 + ((gi d 1).int).toNat) []) 0 [.i (gi ((gi d 0).rows.getD (0 + ((gi d 1).int - 1).toNat) []) 0).int])).length) && true) then some (some 0, [.l ((gi d 0).rows.set (0 + ((gi d 1).int).toNat) (putG KPlace ((gi d 0).rows.getD (0 + ((gi d 1).int).toNat) []) 0 [.i (gi ((gi d 0).rows.getD (0 + ((gi d 1).int - 1).toNat) []) 0).int])), .i (gi d 2).int, .i (gi d 3).int]) else none) else none) else none) else none) else none) else none) else (bif ((Nat.beq (gi d 0).rows.length (gi d 0).rows.length) && true) then some (some 0, [.l (gi d 0).rows, .i (gi d 2).int, .i (gi d 3).int]) else none))
def l_club_ranked_7c : LSpec := ⟨7, [], ⟨45, [(0, .s (.vec 0 3)), (3, .s (.int .i64)), (7, .s (.int .i64)), (8, .s (.int .i64)), (32, .s (.bool))], [.vec KPlace 0]⟩, [.fix 0], [⟨.normal, ⟨45, [(0, .s (.vec 0 3)), (7, .s (.int .i64)), (8, .s (.int .i64))], [.vec KPlace 0]⟩, [.fix 0]⟩], tl_club_ranked_7⟩
theorem r_club_ranked_7c : CutOK P t30 noLoops 1 (cutAt Tryz.f95 7) l_club_ranked_7c := fun d => by kernel_rfl
def L_club_ranked_7c : LT := noLoops.addCut 1 l_club_ranked_7c
theorem L_club_ranked_7c_ok : LoopsOK P 1 L_club_ranked_7c (bodyOf Tryz.f95) := LoopsOK.addCut hm t30_ok (by kernel_rfl) (noLoops_ok _ _ _) r_club_ranked_7c
def st_club_ranked_3 (d : List G) : Option (Option Nat × List G) :=
  (bif (ltI (gi d 2).int (gi d 1).int) then (bif (inI ((gi d 2).int + 1)) then (bif ((nnI (gi d 2).int) && (ltI (gi d 2).int (((gi d 0).rows.length : Nat) : Int))) then (bif (decide ((0 + ((gi d 2).int).toNat) < (gi d 0).rows.length)) then (bif (ltI 0 (gi d 2).int) then (bif ((nnI (gi d 2).int) && (ltI (gi d 2).int (((gi d 0).rows.length : Nat) : Int))) then (bif (decide ((0 + ((gi d 2).int).toNat) < ((gi d 0).rows.set (0 + ((gi d 2).int).toNat) (putG KPlace ((gi d 0).rows.getD (0 + ((gi d 2).int).toNat) []) 0 [.i ((gi d 2).int + 1)])).length)) then (bif (inI ((gi d 2).int - 1)) then (bif ((nnI ((gi d 2).int - 1)) && (ltI ((gi d 2).int - 1) (((gi d 0).rows.length : Nat) : Int))) then (bif (decide ((0 + ((gi d 2).int - 1).toNat) < ((gi d 0).rows.set (0 + ((gi d 2).int).toNat) (putG KPlace ((gi d 0).rows.getD (0 + ((gi d 2).int).toNat) []) 0 [.i ((gi d 2).int + 1)])).length)) then (loopB ((Nat.beq (gi d 0).rows.length ((gi d 0).rows.set (0 + ((gi d 2).int).toNat) (putG KPlace ((gi d 0).rows.getD (0 + ((gi d 2).int).toNat) []) 0 [.i ((gi d 2).int + 1)])).length) && true) (cutR (tl_club_ranked_7 [.l ((gi d 0).rows.set (0 + ((gi d 2).int).toNat) (putG KPlace ((gi d 0).rows.getD (0 + ((gi d 2).int).toNat) []) 0 [.i ((gi d 2).int + 1)])), .i (gi d 2).int, .i (gi d 1).int, .i (gi d 2).int, .t ((gi (((gi d 0).rows.set (0 + ((gi d 2).int).toNat) (putG KPlace ((gi d 0).rows.getD (0 + ((gi d 2).int).toNat) []) 0 [.i ((gi d 2).int + 1)])).getD (0 + ((gi d 2).int).toNat) []) 1).int == (gi (((gi d 0).rows.set (0 + ((gi d 2).int).toNat) (putG KPlace ((gi d 0).rows.getD (0 + ((gi d 2).int).toNat) []) 0 [.i ((gi d 2).int + 1)])).getD (0 + ((gi d 2).int - 1).toNat) []) 1).int)])) fun cg2 g2 => (bif (inI ((gi g2 2).int + 1)) then (bif ((Nat.beq (gi g2 0).rows.length (gi g2 0).rows.length) && true) then some (none, [.l (gi g2 0).rows, .i (gi g2 1).int, .i ((gi g2 2).int + 1)]) else none) else none)) else none) else none) else none) else none) else none) else (loopB ((Nat.beq (gi d 0).rows.length ((gi d 0).rows.set (0 + ((gi d 2).int).toNat) (putG KPlace ((gi d 0).rows.getD (0 + ((gi d 2).int).toNat) []) 0 [.i ((gi d 2).int + 1)])).length) && true) (cutR (tl_club_ranked_7 [.l ((gi d 0).rows.set (0 + ((gi d 2).int).toNat) (putG KPlace ((gi d 0).rows.getD (0 + ((gi d 2).int).toNat) []) 0 [.i ((gi d 2).int + 1)])), .i (gi d 2).int, .i (gi d 1).int, .i (gi d 2).int, .t false])) fun cg3 g3 => (bif (inI ((gi g3 2).int + 1)) then (bif ((Nat.beq (gi g3 0).rows.length (gi g3 0).rows.length) && true) then some (none, [.l (gi g3 0).rows, .i (gi g3 1).int, .i ((gi g3 2).int + 1)]) else none) else none))) else none) else none) else none) else (bif ((Nat.beq (gi d 0).rows.length (gi d 0).rows.length) && true) then some (some 0, [.l (gi d 0).rows]) else none))
def l_club_ranked_3 : LSpec := ⟨3, [], ⟨45, [(0, .s (.vec 0 3)), (7, .s (.int .i64)), (8, .s (.int .i64))], [.vec KPlace 0]⟩, [.fix 0], [⟨.exit 0, ⟨45, [(0, .s (.vec 0 3))], [.vec KPlace 0]⟩, [.fix 0]⟩], st_club_ranked_3⟩
theorem r_club_ranked_3 : RoundOK P t30 L_club_ranked_7c 1 (loopAt Tryz.f95 3) l_club_ranked_3 := fun d => by kernel_rfl
def L_club_ranked_3 : LT := L_club_ranked_7c.add 1 l_club_ranked_3
theorem L_club_ranked_3_ok : LoopsOK P 1 L_club_ranked_3 (bodyOf Tryz.f95) := LoopsOK.add hm t30_ok (by kernel_rfl) L_club_ranked_7c_ok r_club_ranked_3
def F_club_ranked (d : List G) : Option (List G) :=
  (callB (((Nat.beq (gi d 0).rows.length (gi d 0).rows.length) && true) && (F_slices_SortFunc_Place [.l (gi d 0).rows]).isSome) (F_slices_SortFunc_Place [.l (gi d 0).rows]) fun g1 => (loopB ((Nat.beq (gi d 0).rows.length (gi g1 0).rows.length) && true) (LRun st_club_ranked_3 [.l (gi g1 0).rows, .i (((gi d 0).rows.length : Nat) : Int), .i 0]) fun cg4 g4 => (bif ((Nat.beq (gi g4 0).rows.length (gi g4 0).rows.length) && true) then some [.l (gi g4 0).rows] else none)))
def s_club_ranked : FSpec := ⟨95, [.s (.vec 0 3)], [.vec KPlace 0], [.slot 0], [.s (.vec 0 3)], [.vec KPlace 0], [.fix 0], [], F_club_ranked⟩
theorem b_club_ranked : BodyOK P t30 L_club_ranked_3 Tryz.f95 s_club_ranked := fun d => by kernel_rfl
theorem c_club_ranked : ∀ d r, F_club_ranked d = some r → ACallX P 95 (s_club_ranked.args0 d) (denH (s_club_ranked.H0 d)) (s_club_ranked.out r) (denH (s_club_ranked.H1 r)) := fun d r h => body_sound hm t30_ok (sp := s_club_ranked) Tryz.func95 (by kernel_rfl) L_club_ranked_3_ok b_club_ranked (by kernel_rfl) h
def t31 : Tab := t30.addW s_club_ranked
theorem t31_ok : TabOK P t31 := t30_ok.addW (by kernel_rfl) (by kernel_rfl) c_club_ranked

/- pileup/club.Table -/
def st_club_Table_8 (d : List G) : Option (Option Nat × List G) :=
  (bif (ltI (gi d 4).int (gi d 3).int) then (bif ((nnI (gi d 4).int) && (ltI (gi d 4).int (((gi d 2).rows.length : Nat) : Int))) then (bif ((gi ((gi d 2).rows.getD (((gi d 4).int).toNat) []) 1).str.toList == (gi d 1).str.toList) then (bif ((Nat.beq (gi d 0).rows.length (gi d 0).rows.length) && (decide (((gi d 0).rows.length + 1) ≤ 1048576))) then (bif (inI ((gi d 4).int + 1)) then (bif ((Nat.beq ((gi d 0).rows ++ ([[.i 0, .i (gi ((gi d 2).rows.getD (((gi d 4).int).toNat) []) 2).int, .s (gi ((gi d 2).rows.getD (((gi d 4).int).toNat) []) 0).str]] : List (List G))).length ((gi d 0).rows ++ ([[.i 0, .i (gi ((gi d 2).rows.getD (((gi d 4).int).toNat) []) 2).int, .s (gi ((gi d 2).rows.getD (((gi d 4).int).toNat) []) 0).str]] : List (List G))).length) && true) then some (none, [.l ((gi d 0).rows ++ ([[.i 0, .i (gi ((gi d 2).rows.getD (((gi d 4).int).toNat) []) 2).int, .s (gi ((gi d 2).rows.getD (((gi d 4).int).toNat) []) 0).str]] : List (List G))), .s (gi d 1).str, .l (gi d 2).rows, .i (gi d 3).int, .i ((gi d 4).int + 1)]) else none) else none) else none) else (bif (inI ((gi d 4).int + 1)) then (bif ((Nat.beq (gi d 0).rows.length (gi d 0).rows.length) && true) then some (none, [.l (gi d 0).rows, .s (gi d 1).str, .l (gi d 2).rows, .i (gi d 3).int, .i ((gi d 4).int + 1)]) else none) else none)) else none) else (bif ((Nat.beq (gi d 0).rows.length (gi d 0).rows.length) && true) then some (some 0, [.l (gi d 0).rows]) else none))
def l_club_Table_8 : LSpec := ⟨8, [(7, KPlace)], ⟨39, [(1, .s (.str)), (7, .s (.vec 0 3)), (18, .s (.list KEntrant)), (19, .s (.int .i64)), (20, .s (.int .i64))], [.vec KPlace 0]⟩, [.slot 7], [⟨.exit 0, ⟨39, [(7, .s (.vec 0 3))], [.vec KPlace 0]⟩, [.slot 7]⟩], st_club_Table_8⟩
theorem r_club_Table_8 : RoundOK P t31 noLoops 0 (loopAt Tryz.f57 8) l_club_Table_8 := fun d => by kernel_rfl
def L_club_Table_8 : LT := noLoops.add 0 l_club_Table_8
theorem L_club_Table_8_ok : LoopsOK P 0 L_club_Table_8 (bodyOf Tryz.f57) := LoopsOK.add hm t31_ok (by kernel_rfl) (noLoops_ok _ _ _) r_club_Table_8
def F_club_Table (d : List G) : Option (List G) :=
  (callF (F_club_CheckEntrants [.l (gi d 0).rows]) fun g1 => (bif ((gi g1 0).int != 0) then some [.l [], .i (gi g1 0).int] else (callF (F_kit_IsKey [.s (gi d 1).str]) fun g2 => (bif (!(gi g2 0).bool) then some [.l [], .i 5] else (loopB true (LRun st_club_Table_8 [.l [], .s (gi d 1).str, .l (gi d 0).rows, .i (((gi d 0).rows.length : Nat) : Int), .i 0]) fun cg3 g3 => (callB (((Nat.beq (gi g3 0).rows.length (gi g3 0).rows.length) && true) && (F_club_ranked [.l (gi g3 0).rows]).isSome) (F_club_ranked [.l (gi g3 0).rows]) fun g4 => (bif ((Nat.beq (gi g4 0).rows.length (gi g4 0).rows.length) && true) then some [.l (gi g4 0).rows, .i 0] else none)))))))
def s_club_Table : FSpec := ⟨57, [.s (.list KEntrant), .s (.str)], [], [], [.s (.list KPlace), .s (.int .i64)], [], [], [], F_club_Table⟩
theorem b_club_Table : BodyOK P t31 L_club_Table_8 Tryz.f57 s_club_Table := fun d => by kernel_rfl
theorem c_club_Table : ∀ d r, F_club_Table d = some r → ACallX P 57 (s_club_Table.args0 d) (denH (s_club_Table.H0 d)) (s_club_Table.out r) (denH (s_club_Table.H1 r)) := fun d r h => body_sound hm t31_ok (sp := s_club_Table) Tryz.func57 (by kernel_rfl) L_club_Table_8_ok b_club_Table (by kernel_rfl) h
def t32 : Tab := t31.addP s_club_Table
theorem t32_ok : TabOK P t32 := t31_ok.addP (by kernel_rfl) (by kernel_rfl) c_club_Table

/- slices.Reverse[[]int,int] -/
def st_slices_Reverse_int_1 (d : List G) : Option (Option Nat × List G) :=
  (bif (ltI (gi d 1).int (gi d 2).int) then (bif ((nnI (gi d 2).int) && (ltI (gi d 2).int (((gi d 0).rows.length : Nat) : Int))) then (bif (decide ((0 + ((gi d 2).int).toNat) < (gi d 0).rows.length)) then (bif ((nnI (gi d 1).int) && (ltI (gi d 1).int (((gi d 0).rows.length : Nat) : Int))) then (bif (decide ((0 + ((gi d 1).int).toNat) < (gi d 0).rows.length)) then (bif ((nnI (gi d 1).int) && (ltI (gi d 1).int (((gi d 0).rows.length : Nat) : Int))) then (bif (decide ((0 + ((gi d 1).int).toNat) < (gi d 0).rows.length)) then (bif ((nnI (gi d 2).int) && (ltI (gi d 2).int (((gi d 0).rows.length : Nat) : Int))) then (bif (decide ((0 + ((gi d 2).int).toNat) < ((gi d 0).rows.set (0 + ((gi d 1).int).toNat) (putG [.int .i64] ((gi d 0).rows.getD (0 + ((gi d 1).int).toNat) []) 0 [.i (gi ((gi d 0).rows.getD (0 + ((gi d 2).int).toNat) []) 0).int])).length)) then (bif (inI ((gi d 1).int + 1)) then (bif (inI ((gi d 2).int - 1)) then (bif ((Nat.beq (gi d 0).rows.length (((gi d 0).rows.set (0 + ((gi d 1).int).toNat) (putG [.int .i64] ((gi d 0).rows.getD (0 + ((gi d 1).int).toNat) []) 0 [.i (gi ((gi d 0).rows.getD (0 + ((gi d 2).int).toNat) []) 0).int])).set (0 + ((gi d 2).int).toNat) (putG [.int .i64] (((gi d 0).rows.set (0 + ((gi d 1).int).toNat) (putG [.int .i64] ((gi d 0).rows.getD (0 + ((gi d 1).int).toNat) []) 0 [.i (gi ((gi d 0).rows.getD (0 + ((gi d 2).int).toNat) []) 0).int])).getD (0 + ((gi d 2).int).toNat) []) 0 [.i (gi ((gi d 0).rows.getD (0 + ((gi d 1).int).toNat) []) 0).int])).length) && true) then some (none, [.l (((gi d 0).rows.set (0 + ((gi d 1).int).toNat) (putG [.int .i64] ((gi d 0).rows.getD (0 + ((gi d 1).int).toNat) []) 0 [.i (gi ((gi d 0).rows.getD (0 + ((gi d 2).int).toNat) []) 0).int])).set (0 + ((gi d 2).int).toNat) (putG [.int .i64] (((gi d 0).rows.set (0 + ((gi d 1).int).toNat) (putG [.int .i64] ((gi d 0).rows.getD (0 + ((gi d 1).int).toNat) []) 0 [.i (gi ((gi d 0).rows.getD (0 + ((gi d 2).int).toNat) []) 0).int])).getD (0 + ((gi d 2).int).toNat) []) 0 [.i (gi ((gi d 0).rows.getD (0 + ((gi d 1).int).toNat) []) 0).int])), .i ((gi d 1).int + 1), .i ((gi d 2).int - 1)]) else none) else none) else none) else none) else none) else none) else none) else none) else none) else none) else none) else some (some 0, [.l (gi d 0).rows]))
def l_slices_Reverse_int_1 : LSpec := ⟨1, [], ⟨28, [(0, .s (.vec 0 1)), (2, .s (.int .i64)), (3, .s (.int .i64))], [.vec [.int .i64] 0]⟩, [.fix 0], [⟨.exit 0, ⟨28, [], [.vec [.int .i64] 0]⟩, [.fix 0]⟩], st_slices_Reverse_int_1⟩
theorem r_slices_Reverse_int_1 : RoundOK P t32 noLoops 1 (loopAt Tryz.f205 1) l_slices_Reverse_int_1 := fun d => by kernel_rfl
def L_slices_Reverse_int_1 : LT := noLoops.add 1 l_slices_Reverse_int_1
theorem L_slices_Reverse_int_1_ok : LoopsOK P 1 L_slices_Reverse_int_1 (bodyOf Tryz.f205) := LoopsOK.add hm t32_ok (by kernel_rfl) (noLoops_ok _ _ _) r_slices_Reverse_int_1
def F_slices_Reverse_int (d : List G) : Option (List G) :=
  (bif (inI ((((gi d 0).rows.length : Nat) : Int) - 1)) then (loopB ((Nat.beq (gi d 0).rows.length (gi d 0).rows.length) && true) (LRun st_slices_Reverse_int_1 [.l (gi d 0).rows, .i 0, .i ((((gi d 0).rows.length : Nat) : Int) - 1)]) fun cg1 g1 => some [.l (gi g1 0).rows]) else none)
def s_slices_Reverse_int : FSpec := ⟨205, [.s (.vec 0 1)], [.vec [.int .i64] 0], [.slot 0], [], [.vec [.int .i64] 0], [.fix 0], [], F_slices_Reverse_int⟩
theorem b_slices_Reverse_int : BodyOK P t32 L_slices_Reverse_int_1 Tryz.f205 s_slices_Reverse_int := fun d => by kernel_rfl
theorem c_slices_Reverse_int : ∀ d r, F_slices_Reverse_int d = some r → ACallX P 205 (s_slices_Reverse_int.args0 d) (denH (s_slices_Reverse_int.H0 d)) (s_slices_Reverse_int.out r) (denH (s_slices_Reverse_int.H1 r)) := fun d r h => body_sound hm t32_ok (sp := s_slices_Reverse_int) Tryz.func205 (by kernel_rfl) L_slices_Reverse_int_1_ok b_slices_Reverse_int (by kernel_rfl) h
def t33 : Tab := t32.addW s_slices_Reverse_int
theorem t33_ok : TabOK P t33 := t32_ok.addW (by kernel_rfl) (by kernel_rfl) c_slices_Reverse_int

/- (*pileup/net.state).holders -/
def sr_net_state_holders_2 (r d : List G) : Option (List G) :=
  (bif (inI ((gi (mget [.int .i64] (gi d 6).rows [.i (gi (gi r 0).row 1).int] [.i 0]) 0).int + 1)) then (bif ((((Nat.beq (gi d 3).rows.length (gi d 3).rows.length) && true) && true) && true) then some [.l (gi d 0).rows, .l (gi d 1).rows, .l (gi d 2).rows, .l (gi d 3).rows, .l (gi d 4).rows, .i (((gi d 5).int.toNat : Nat) : Int), .l (mput [.int .i64] (gi d 6).rows [.i (gi (gi r 0).row 1).int] [.i ((gi (mget [.int .i64] (gi d 6).rows [.i (gi (gi r 0).row 1).int] [.i 0]) 0).int + 1)] (gi d 7).int.toNat), .i (((mclk [.int .i64] (gi d 6).rows [.i (gi (gi r 0).row 1).int] (gi d 7).int.toNat) : Nat) : Int), .i (((gi d 8).int.toNat : Nat) : Int)] else none) else none)
def ri_net_state_holders_2 (d : List G) (b : Nat) : List G := [.l (gi d 0).rows, .l (gi d 1).rows, .l (gi d 2).rows, .l (gi d 3).rows, .l (gi d 4).rows, .i (((gi d 5).int.toNat : Nat) : Int), .l (gi d 6).rows, .i (((gi d 7).int.toNat : Nat) : Int), .i (b : Int)]
def rb_net_state_holders_2 (d : List G) (b : Nat) : Bool := ((((Nat.beq (gi d 3).rows.length (gi d 3).rows.length) && true) && true) && true)
def rs_net_state_holders_2 : RSpec := ⟨⟨21, [(3, .s (.map 3)), (10, .s (.addr))], [.box [.vec 1 15, .list KContact, .list [.str], .list [.int .i64], .map 2], .vec KDeed 0, .map (.agg [.str, .int .i64]) (.one (.bool)), .map (.one (.int .i64)) (.one (.int .i64))]⟩, [.fix 0, .cell 0 0, .cell 0 4, .slot 3], [], (.agg [.str, .int .i64]), (.one (.bool)), 2, 0, 9, 10, 11, 12, 13, fun d => (gi d 8).int.toNat, ri_net_state_holders_2, rb_net_state_holders_2, sr_net_state_holders_2⟩
theorem w_net_state_holders_2 : RRound P t33 noLoops 3 rs_net_state_holders_2 (rOps2 (cutAt Tryz.f127 2)) (rBody (cutAt Tryz.f127 2)) := fun r d => by kernel_rfl
def tr_net_state_holders_2 (d : List G) : Option (Option Nat × List G) :=
  (bif ((((Nat.beq (gi d 3).rows.length (gi d 3).rows.length) && true) && true) && true) then some (some 0, [.l (gi d 0).rows, .l (gi d 1).rows, .l (gi d 2).rows, .l (gi d 3).rows, .l (gi d 4).rows, .i (((gi d 5).int.toNat : Nat) : Int), .l (gi d 6).rows, .i (((gi d 7).int.toNat : Nat) : Int)]) else none)
def l_net_state_holders_2r : LSpec := ⟨6, [], ⟨21, [(3, .s (.map 3)), (10, .s (.addr))], [.box [.vec 1 15, .list KContact, .list [.str], .list [.int .i64], .map 2], .vec KDeed 0, .map (.agg [.str, .int .i64]) (.one (.bool)), .map (.one (.int .i64)) (.one (.int .i64))]⟩, [], [⟨.ret, ⟨21, [(2, .s (.map 3))], [.box [.vec 1 15, .list KContact, .list [.str], .list [.int .i64], .map 2], .vec KDeed 0, .map (.agg [.str, .int .i64]) (.one (.bool)), .map (.one (.int .i64)) (.one (.int .i64))]⟩, [.fix 0, .cell 0 0, .cell 0 4, .slot 2]⟩], tr_net_state_holders_2⟩
theorem v_net_state_holders_2 : CutOK P t33 noLoops 3 (rRest (cutAt Tryz.f127 2)) l_net_state_holders_2r := fun d => by kernel_rfl
def tl_net_state_holders_2 (d : List G) : Option (Option Nat × List G) :=
  rangeR rs_net_state_holders_2 tr_net_state_holders_2 (gi d 4).rows ((gi d 5).int.toNat) d
def l_net_state_holders_2c : LSpec := ⟨2, [], ⟨21, [(0, .s (.ptr 0 0)), (3, .s (.map 3))], [.box [.vec 1 15, .list KContact, .list [.str], .list [.int .i64], .map 2], .vec KDeed 0, .map (.agg [.str, .int .i64]) (.one (.bool)), .map (.one (.int .i64)) (.one (.int .i64))]⟩, [.fix 0, .cell 0 0, .cell 0 4, .slot 3], [⟨.ret, ⟨21, [(2, .s (.map 3))], [.box [.vec 1 15, .list KContact, .list [.str], .list [.int .i64], .map 2], .vec KDeed 0, .map (.agg [.str, .int .i64]) (.one (.bool)), .map (.one (.int .i64)) (.one (.int .i64))]⟩, [.fix 0, .cell 0 0, .cell 0 4, .slot 2]⟩], tl_net_state_holders_2⟩
def L_net_state_holders_2c : LT := noLoops.addCut 3 l_net_state_holders_2c
theorem k_net_state_holders_2 : ∀ r d d', sr_net_state_holders_2 r d = some d' → (gi d' 4).rows = (gi d 4).rows ∧ (gi d' 5).int.toNat = (gi d 5).int.toNat := by
  intro r d d' h
  unfold sr_net_state_holders_2 at h
  simp only [Bool.cond_eq_ite] at h
  repeat' split at h
  all_goals first | (cases h; done) | (cases h; exact ⟨rfl, rfl⟩)
theorem L_net_state_holders_2c_ok : LoopsOK P 3 L_net_state_holders_2c (bodyOf Tryz.f127) := LoopsOK.addRangeK (q := l_net_state_holders_2c) (qr := l_net_state_holders_2r) (sp := rs_net_state_holders_2) (r0 := 2) (b0 := 0) (r1 := 3) (b1 := 1) (r2 := 4) (rows := fun d => (gi d 4).rows) (clock := fun d => (gi d 5).int.toNat) (pre := fun d => preOf P t33 (rOps0 (cutAt Tryz.f127 2)) (mkSt l_net_state_holders_2c.inv d)) (ri := fun d => (gi d 4).rows) (ci := fun d => (gi d 5).int.toNat) hm t33_ok (fun d => by kernel_rfl) k_net_state_holders_2 (by kernel_rfl) (by kernel_rfl) (noLoops_ok _ _ _) (by kernel_rfl) (by kernel_rfl) w_net_state_holders_2 (fun d => by kernel_rfl) (fun d => by kernel_rfl) (fun d => by kernel_rfl) (fun d => by kernel_rfl) (fun d => by kernel_rfl) (fun d => by kernel_rfl) (fun d b => by kernel_rfl) (fun d b => rfl) (fun d b => ⟨rfl, rfl⟩) rfl rfl v_net_state_holders_2 (fun d => rfl)
def F_net_state_holders (d : List G) : Option (List G) :=
  (loopB ((((Nat.beq (gi d 3).rows.length (gi d 3).rows.length) && true) && true) && true) (cutR (tl_net_state_holders_2 [.l (gi d 0).rows, .l (gi d 1).rows, .l (gi d 2).rows, .l (gi d 3).rows, .l (gi d 4).rows, .i (((gi d 5).int.toNat : Nat) : Int), .l [], .i 0])) fun cg1 g1 => (bif ((((Nat.beq (gi g1 3).rows.length (gi g1 3).rows.length) && true) && true) && true) then some [.l (gi g1 0).rows, .l (gi g1 1).rows, .l (gi g1 2).rows, .l (gi g1 3).rows, .l (gi g1 4).rows, .i (((gi g1 5).int.toNat : Nat) : Int), .l (gi g1 6).rows, .i (((gi g1 7).int.toNat : Nat) : Int)] else none))
def s_net_state_holders : FSpec := ⟨127, [.s (.ptr 0 0)], [.box [.vec 1 15, .list KContact, .list [.str], .list [.int .i64], .map 2], .vec KDeed 0, .map (.agg [.str, .int .i64]) (.one (.bool))], [.slot 0, .cell 0 0, .cell 0 4], [.s (.map 3)], [.box [.vec 1 15, .list KContact, .list [.str], .list [.int .i64], .map 2], .vec KDeed 0, .map (.agg [.str, .int .i64]) (.one (.bool)), .map (.one (.int .i64)) (.one (.int .i64))], [.fix 0, .fix 1, .fix 2, .slot 0], [], F_net_state_holders⟩
theorem b_net_state_holders : BodyOK P t33 L_net_state_holders_2c Tryz.f127 s_net_state_holders := fun d => by kernel_rfl
theorem c_net_state_holders : ∀ d r, F_net_state_holders d = some r → ACallX P 127 (s_net_state_holders.args0 d) (denH (s_net_state_holders.H0 d)) (s_net_state_holders.out r) (denH (s_net_state_holders.H1 r)) := fun d r h => body_sound hm t33_ok (sp := s_net_state_holders) Tryz.func127 (by kernel_rfl) L_net_state_holders_2c_ok b_net_state_holders (by kernel_rfl) h
def t34 : Tab := t33.addW s_net_state_holders
theorem t34_ok : TabOK P t34 := t33_ok.addW (by kernel_rfl) (by kernel_rfl) c_net_state_holders

/- pileup/pilekeep2.ready -/
theorem bw_pilekeep2_ready : BwFact P ⟨227, 100, 99, 15, 15, true⟩ := bwFact_of Tryz.func227 (by kernel_rfl) rfl rfl rfl ⟨⟨_, _, _, _, _, _, rfl, ⟨rfl, rfl, rfl⟩, ⟨rfl, rfl, rfl⟩, ⟨rfl, rfl, rfl⟩, ⟨rfl, rfl, rfl⟩⟩, ⟨_, _, _, _, rfl, ⟨rfl, rfl, rfl⟩, ⟨rfl, rfl, rfl⟩⟩, ⟨_, _, _, _, _, rfl, ⟨rfl, rfl, rfl⟩, ⟨rfl, rfl, rfl⟩, ⟨rfl, rfl, rfl⟩⟩, ⟨_, _, _, _, _, _, _, _, _, _, rfl, ⟨rfl, rfl, rfl⟩, ⟨rfl, rfl, rfl⟩, ⟨rfl, rfl, rfl⟩, ⟨rfl, rfl, rfl⟩, ⟨rfl, rfl, rfl⟩, ⟨rfl, rfl, rfl⟩, ⟨rfl, rfl, rfl⟩, ⟨rfl, rfl, rfl⟩⟩⟩ (by kernel_rfl)
def tl1_net_state_holders_2 (d : List G) : Option (Option Nat × List G) :=
  range1 rs_net_state_holders_2 tr_net_state_holders_2 (gi d 4).rows ((gi d 5).int.toNat) d
theorem ind_net_state_holders_2 (d x : List G) (b : Nat) : (foldR rs_net_state_holders_2.st rs_net_state_holders_2.adr [x] (rs_net_state_holders_2.init d b)).bind tr_net_state_holders_2 = (foldR rs_net_state_holders_2.st rs_net_state_holders_2.adr [x] (rs_net_state_holders_2.init d 0)).bind tr_net_state_holders_2 := by
  simp only [foldR_one, rs_net_state_holders_2]
  unfold sr_net_state_holders_2 ri_net_state_holders_2 tr_net_state_holders_2
  dsimp +instances only [giC0, giCs]
  simp only [bind_cond, Option.bind_some, Option.bind_none]
  dsimp +instances only [giC0, giCs]
  simp only [intC, Int.toNat_natCast, beqC, cond_true]
def F1_net_state_holders (d : List G) : Option (List G) :=
  (loopB ((((Nat.beq (gi d 3).rows.length (gi d 3).rows.length) && true) && true) && true) (cutR (tl1_net_state_holders_2 [.l (gi d 0).rows, .l (gi d 1).rows, .l (gi d 2).rows, .l (gi d 3).rows, .l (gi d 4).rows, .i (((gi d 5).int.toNat : Nat) : Int), .l [], .i 0])) fun cg1 g1 => (bif ((((Nat.beq (gi g1 3).rows.length (gi g1 3).rows.length) && true) && true) && true) then some [.l (gi g1 0).rows, .l (gi g1 1).rows, .l (gi g1 2).rows, .l (gi g1 3).rows, .l (gi g1 4).rows, .i (((gi g1 5).int.toNat : Nat) : Int), .l (gi g1 6).rows, .i (((gi g1 7).int.toNat : Nat) : Int)] else none))
theorem F1_le {d r : List G} (h : F1_net_state_holders d = some r) : F_net_state_holders d = some r :=
  loopB_le (fun v hv => range1_le (fun b => rfl) (ind_net_state_holders_2 _) hv) h
def s1_net_state_holders : FSpec := { s_net_state_holders with F := F1_net_state_holders }
def u_pilekeep2_ready : Tab := t34.addW s1_net_state_holders
theorem u_pilekeep2_ready_ok : TabOK P u_pilekeep2_ready := t34_ok.addW (by kernel_rfl) (by kernel_rfl) fun d r h => c_net_state_holders d r (F1_le h)
def u0_pilekeep2_ready : Tab := u_pilekeep2_ready.inline P 225 Tryz.f225 []
theorem u0_pilekeep2_ready_ok : TabOK P u0_pilekeep2_ready := u_pilekeep2_ready_ok.inline hm Tryz.func225 (by kernel_rfl) []
def u1_pilekeep2_ready : Tab := u0_pilekeep2_ready.inline P 226 Tryz.f226 []
theorem u1_pilekeep2_ready_ok : TabOK P u1_pilekeep2_ready := u0_pilekeep2_ready_ok.inline hm Tryz.func226 (by kernel_rfl) []
def u2_pilekeep2_ready : Tab := u1_pilekeep2_ready.inline P 202 Tryz.f202 []
theorem u2_pilekeep2_ready_ok : TabOK P u2_pilekeep2_ready := u1_pilekeep2_ready_ok.inline hm Tryz.func202 (by kernel_rfl) []
def u3_pilekeep2_ready : Tab := u2_pilekeep2_ready.inline P 155 Tryz.f155 []
theorem u3_pilekeep2_ready_ok : TabOK P u3_pilekeep2_ready := u2_pilekeep2_ready_ok.inline hm Tryz.func155 (by kernel_rfl) []
def u4_pilekeep2_ready : Tab := u3_pilekeep2_ready.inline P 124 Tryz.f124 []
theorem u4_pilekeep2_ready_ok : TabOK P u4_pilekeep2_ready := u3_pilekeep2_ready_ok.inline hm Tryz.func124 (by kernel_rfl) []
def u5_pilekeep2_ready : Tab := u4_pilekeep2_ready.inlineW P 204 Tryz.f204
theorem u5_pilekeep2_ready_ok : TabOK P u5_pilekeep2_ready := u4_pilekeep2_ready_ok.inlineW hm Tryz.func204 (by kernel_rfl) (by kernel_rfl)
def u6_pilekeep2_ready : Tab := u5_pilekeep2_ready.inlineB P ⟨227, 100, 99, 15, 15, true⟩ 3 156 Tryz.f156 [some [.int .i64]]
theorem u6_pilekeep2_ready_ok : TabOK P u6_pilekeep2_ready := u5_pilekeep2_ready_ok.inlineB hm bw_pilekeep2_ready Tryz.func156 (by kernel_rfl) (by kernel_rfl) [some [.int .i64]]
def u7_pilekeep2_ready : Tab := u6_pilekeep2_ready.inlineW P 228 Tryz.f228
theorem u7_pilekeep2_ready_ok : TabOK P u7_pilekeep2_ready := u6_pilekeep2_ready_ok.inlineW hm Tryz.func228 (by kernel_rfl) (by kernel_rfl)
def u8_pilekeep2_ready : Tab := u7_pilekeep2_ready.inlineW P 206 Tryz.f206
theorem u8_pilekeep2_ready_ok : TabOK P u8_pilekeep2_ready := u7_pilekeep2_ready_ok.inlineW hm Tryz.func206 (by kernel_rfl) (by kernel_rfl)
def u9_pilekeep2_ready : Tab := u8_pilekeep2_ready.inlineW P 158 Tryz.f158
theorem u9_pilekeep2_ready_ok : TabOK P u9_pilekeep2_ready := u8_pilekeep2_ready_ok.inlineW hm Tryz.func158 (by kernel_rfl) (by kernel_rfl)
def u10_pilekeep2_ready : Tab := u9_pilekeep2_ready.inline P 157 Tryz.f157 []
theorem u10_pilekeep2_ready_ok : TabOK P u10_pilekeep2_ready := u9_pilekeep2_ready_ok.inline hm Tryz.func157 (by kernel_rfl) []
def u11_pilekeep2_ready : Tab := u10_pilekeep2_ready.inlineW P 125 Tryz.f125
theorem u11_pilekeep2_ready_ok : TabOK P u11_pilekeep2_ready := u10_pilekeep2_ready_ok.inlineW hm Tryz.func125 (by kernel_rfl) (by kernel_rfl)
def u12_pilekeep2_ready : Tab := u11_pilekeep2_ready.inlineW P 96 Tryz.f96
theorem u12_pilekeep2_ready_ok : TabOK P u12_pilekeep2_ready := u11_pilekeep2_ready_ok.inlineW hm Tryz.func96 (by kernel_rfl) (by kernel_rfl)
def u13_pilekeep2_ready : Tab := u12_pilekeep2_ready.inlineW P 126 Tryz.f126
theorem u13_pilekeep2_ready_ok : TabOK P u13_pilekeep2_ready := u12_pilekeep2_ready_ok.inlineW hm Tryz.func126 (by kernel_rfl) (by kernel_rfl)
def u14_pilekeep2_ready : Tab := u13_pilekeep2_ready.inlineW P 97 Tryz.f97
theorem u14_pilekeep2_ready_ok : TabOK P u14_pilekeep2_ready := u13_pilekeep2_ready_ok.inlineW hm Tryz.func97 (by kernel_rfl) (by kernel_rfl)
def u15_pilekeep2_ready : Tab := u14_pilekeep2_ready.inline P 58 Tryz.f58 []
theorem u15_pilekeep2_ready_ok : TabOK P u15_pilekeep2_ready := u14_pilekeep2_ready_ok.inline hm Tryz.func58 (by kernel_rfl) []
def u16_pilekeep2_ready : Tab := u15_pilekeep2_ready.inline P 77 Tryz.f77 []
theorem u16_pilekeep2_ready_ok : TabOK P u16_pilekeep2_ready := u15_pilekeep2_ready_ok.inline hm Tryz.func77 (by kernel_rfl) []
def u17_pilekeep2_ready : Tab := u16_pilekeep2_ready.inline P 81 Tryz.f81 []
theorem u17_pilekeep2_ready_ok : TabOK P u17_pilekeep2_ready := u16_pilekeep2_ready_ok.inline hm Tryz.func81 (by kernel_rfl) []
def u18_pilekeep2_ready : Tab := u17_pilekeep2_ready.inline P 76 Tryz.f76 []
theorem u18_pilekeep2_ready_ok : TabOK P u18_pilekeep2_ready := u17_pilekeep2_ready_ok.inline hm Tryz.func76 (by kernel_rfl) []
def u19_pilekeep2_ready : Tab := u18_pilekeep2_ready.inline P 31 Tryz.f31 []
theorem u19_pilekeep2_ready_ok : TabOK P u19_pilekeep2_ready := u18_pilekeep2_ready_ok.inline hm Tryz.func31 (by kernel_rfl) []
def u20_pilekeep2_ready : Tab := u19_pilekeep2_ready.inline P 63 Tryz.f63 []
theorem u20_pilekeep2_ready_ok : TabOK P u20_pilekeep2_ready := u19_pilekeep2_ready_ok.inline hm Tryz.func63 (by kernel_rfl) []
def u21_pilekeep2_ready : Tab := u20_pilekeep2_ready.inline P 136 Tryz.f136 []
theorem u21_pilekeep2_ready_ok : TabOK P u21_pilekeep2_ready := u20_pilekeep2_ready_ok.inline hm Tryz.func136 (by kernel_rfl) []
def u22_pilekeep2_ready : Tab := u21_pilekeep2_ready.inline P 100 Tryz.f100 []
theorem u22_pilekeep2_ready_ok : TabOK P u22_pilekeep2_ready := u21_pilekeep2_ready_ok.inline hm Tryz.func100 (by kernel_rfl) []
def u23_pilekeep2_ready : Tab := u22_pilekeep2_ready.inlineW P 186 Tryz.f186
theorem u23_pilekeep2_ready_ok : TabOK P u23_pilekeep2_ready := u22_pilekeep2_ready_ok.inlineW hm Tryz.func186 (by kernel_rfl) (by kernel_rfl)
def u24_pilekeep2_ready : Tab := u23_pilekeep2_ready.inlineW P 151 Tryz.f151
theorem u24_pilekeep2_ready_ok : TabOK P u24_pilekeep2_ready := u23_pilekeep2_ready_ok.inlineW hm Tryz.func151 (by kernel_rfl) (by kernel_rfl)
def u25_pilekeep2_ready : Tab := u24_pilekeep2_ready.inlineW P 116 Tryz.f116
theorem u25_pilekeep2_ready_ok : TabOK P u25_pilekeep2_ready := u24_pilekeep2_ready_ok.inlineW hm Tryz.func116 (by kernel_rfl) (by kernel_rfl)
def u26_pilekeep2_ready : Tab := u25_pilekeep2_ready.inlineW P 91 Tryz.f91
theorem u26_pilekeep2_ready_ok : TabOK P u26_pilekeep2_ready := u25_pilekeep2_ready_ok.inlineW hm Tryz.func91 (by kernel_rfl) (by kernel_rfl)
def u27_pilekeep2_ready : Tab := u26_pilekeep2_ready.inlineW P 64 Tryz.f64
theorem u27_pilekeep2_ready_ok : TabOK P u27_pilekeep2_ready := u26_pilekeep2_ready_ok.inlineW hm Tryz.func64 (by kernel_rfl) (by kernel_rfl)
def u28_pilekeep2_ready : Tab := u27_pilekeep2_ready.inlineW P 65 Tryz.f65
theorem u28_pilekeep2_ready_ok : TabOK P u28_pilekeep2_ready := u27_pilekeep2_ready_ok.inlineW hm Tryz.func65 (by kernel_rfl) (by kernel_rfl)
def u29_pilekeep2_ready : Tab := u28_pilekeep2_ready.inlineW P 66 Tryz.f66
theorem u29_pilekeep2_ready_ok : TabOK P u29_pilekeep2_ready := u28_pilekeep2_ready_ok.inlineW hm Tryz.func66 (by kernel_rfl) (by kernel_rfl)
def u30_pilekeep2_ready : Tab := u29_pilekeep2_ready.inlineW P 14 Tryz.f14
theorem u30_pilekeep2_ready_ok : TabOK P u30_pilekeep2_ready := u29_pilekeep2_ready_ok.inlineW hm Tryz.func14 (by kernel_rfl) (by kernel_rfl)
def u31_pilekeep2_ready : Tab := u30_pilekeep2_ready.inline P 13 Tryz.f13 []
theorem u31_pilekeep2_ready_ok : TabOK P u31_pilekeep2_ready := u30_pilekeep2_ready_ok.inline hm Tryz.func13 (by kernel_rfl) []
def u32_pilekeep2_ready : Tab := u31_pilekeep2_ready.inline P 59 Tryz.f59 []
theorem u32_pilekeep2_ready_ok : TabOK P u32_pilekeep2_ready := u31_pilekeep2_ready_ok.inline hm Tryz.func59 (by kernel_rfl) []
theorem q_pilekeep2_ready : PCall P 12 [] (.lit (.bool true)) := fn_pure (L := noLoops) hm u32_pilekeep2_ready_ok [] (fun _ _ => noLoops_ok _ _ _) Tryz.func12 rfl (by kernel_rfl) (by kernel_rfl)
def F_pilekeep2_ready (_ : List G) : Option (List G) := some [.t true]
def s_pilekeep2_ready : FSpec := ⟨12, [], [], [], [.s (.bool)], [], [], [], F_pilekeep2_ready⟩
theorem c_pilekeep2_ready : ∀ d r, F_pilekeep2_ready d = some r → ACallX P 12 (s_pilekeep2_ready.args0 d) (denH (s_pilekeep2_ready.H0 d)) (s_pilekeep2_ready.out r) (denH (s_pilekeep2_ready.H1 r)) := fun d r h => by
  cases (show some [G.t true] = some r from h)
  exact q_pilekeep2_ready []
def t35 : Tab := t34.addP s_pilekeep2_ready
theorem t35_ok : TabOK P t35 := t34_ok.addP (by kernel_rfl) (by kernel_rfl) c_pilekeep2_ready


/- pileup/pilemake.Below -/
def F_pilemake_Below (d : List G) : Option (List G) :=
  (bif (ltI (gi d 1).int 1) then some [.i 0] else (bif (!((gi d 1).int == 0)) then (bif (ltI (Int.tmod (gi d 0).int (gi d 1).int) 0) then (bif (inI ((Int.tmod (gi d 0).int (gi d 1).int) + (gi d 1).int)) then some [.i ((Int.tmod (gi d 0).int (gi d 1).int) + (gi d 1).int)] else none) else some [.i (Int.tmod (gi d 0).int (gi d 1).int)]) else none))
def s_pilemake_Below : FSpec := ⟨87, [.s (.int .i64), .s (.int .i64)], [], [], [.s (.int .i64)], [], [], [], F_pilemake_Below⟩
theorem b_pilemake_Below : BodyOK P t35 noLoops Tryz.f87 s_pilemake_Below := fun d => by kernel_rfl
theorem c_pilemake_Below : ∀ d r, F_pilemake_Below d = some r → ACallX P 87 (s_pilemake_Below.args0 d) (denH (s_pilemake_Below.H0 d)) (s_pilemake_Below.out r) (denH (s_pilemake_Below.H1 r)) := fun d r h => body_sound hm t35_ok (sp := s_pilemake_Below) Tryz.func87 (by kernel_rfl) (noLoops_ok _ _ _) b_pilemake_Below (by kernel_rfl) h
def t36 : Tab := t35.addP s_pilemake_Below
theorem t36_ok : TabOK P t36 := t35_ok.addP (by kernel_rfl) (by kernel_rfl) c_pilemake_Below

/- (*pileup/pilemake.Stream).Next -/
def F_pilemake_Stream_Next (d : List G) : Option (List G) :=
  (bif (inI ((gi d 1).int + 1)) then (bif ((((gi d 0).rows.length : Nat) : Int) == 0) then (bif (inI (((gi d 1).int + 1) * 7919)) then (callF (F_pilemake_Below [.i (((gi d 1).int + 1) * 7919), .i (gi d 2).int]) fun g1 => some [.l (gi d 0).rows, .i ((gi d 1).int + 1), .i (gi g1 0).int]) else none) else (bif (inI (((gi d 1).int + 1) - 1)) then (bif (!((((gi d 0).rows.length : Nat) : Int) == 0)) then (bif (inI (((gi d 1).int + 1) - 1)) then (bif ((!((((gi d 0).rows.length : Nat) : Int) == 0)) && (inI (Int.tdiv (((gi d 1).int + 1) - 1) (((gi d 0).rows.length : Nat) : Int)))) then (bif ((nnI (Int.tmod (((gi d 1).int + 1) - 1) (((gi d 0).rows.length : Nat) : Int))) && (ltI (Int.tmod (((gi d 1).int + 1) - 1) (((gi d 0).rows.length : Nat) : Int)) (((gi d 0).rows.length : Nat) : Int))) then (callF (F_pilemake_Below [.i (gi ((gi d 0).rows.getD ((Int.tmod (((gi d 1).int + 1) - 1) (((gi d 0).rows.length : Nat) : Int)).toNat) []) 0).int, .i 1073741824]) fun g2 => (bif (inI (7919 + (Int.tmod (((gi d 1).int + 1) - 1) (((gi d 0).rows.length : Nat) : Int)))) then (bif (inI ((Int.tdiv (((gi d 1).int + 1) - 1) (((gi d 0).rows.length : Nat) : Int)) * (7919 + (Int.tmod (((gi d 1).int + 1) - 1) (((gi d 0).rows.length : Nat) : Int))))) then (bif (inI ((gi g2 0).int + ((Int.tdiv (((gi d 1).int + 1) - 1) (((gi d 0).rows.length : Nat) : Int)) * (7919 + (Int.tmod (((gi d 1).int + 1) - 1) (((gi d 0).rows.length : Nat) : Int)))))) then (callF (F_pilemake_Below [.i ((gi g2 0).int + ((Int.tdiv (((gi d 1).int + 1) - 1) (((gi d 0).rows.length : Nat) : Int)) * (7919 + (Int.tmod (((gi d 1).int + 1) - 1) (((gi d 0).rows.length : Nat) : Int))))), .i (gi d 2).int]) fun g3 => some [.l (gi d 0).rows, .i ((gi d 1).int + 1), .i (gi g3 0).int]) else none) else none) else none)) else none) else none) else none) else none) else none)) else none)
def s_pilemake_Stream_Next : FSpec := ⟨45, [.s (.ptr 0 0), .s (.int .i64)], [.box [.list [.int .i64], .int .i64]], [.slot 0], [.s (.int .i64)], [.box [.list [.int .i64], .int .i64]], [.fix 0], [], F_pilemake_Stream_Next⟩
theorem b_pilemake_Stream_Next : BodyOK P t36 noLoops Tryz.f45 s_pilemake_Stream_Next := fun d => by kernel_rfl
theorem c_pilemake_Stream_Next : ∀ d r, F_pilemake_Stream_Next d = some r → ACallX P 45 (s_pilemake_Stream_Next.args0 d) (denH (s_pilemake_Stream_Next.H0 d)) (s_pilemake_Stream_Next.out r) (denH (s_pilemake_Stream_Next.H1 r)) := fun d r h => body_sound hm t36_ok (sp := s_pilemake_Stream_Next) Tryz.func45 (by kernel_rfl) (noLoops_ok _ _ _) b_pilemake_Stream_Next (by kernel_rfl) h
def t37 : Tab := t36.addW s_pilemake_Stream_Next
theorem t37_ok : TabOK P t37 := t36_ok.addW (by kernel_rfl) (by kernel_rfl) c_pilemake_Stream_Next

/- (*pileup/pilemake.Stream).Flip -/
def F_pilemake_Stream_Flip (d : List G) : Option (List G) :=
  (callF (F_pilemake_Stream_Next [.l (gi d 0).rows, .i (gi d 1).int, .i (gi d 2).int]) fun g1 => some [.l (gi g1 0).rows, .i (gi g1 1).int, .t ((gi g1 2).int == 0)])
def s_pilemake_Stream_Flip : FSpec := ⟨44, [.s (.ptr 0 0), .s (.int .i64)], [.box [.list [.int .i64], .int .i64]], [.slot 0], [.s (.bool)], [.box [.list [.int .i64], .int .i64]], [.fix 0], [], F_pilemake_Stream_Flip⟩
theorem b_pilemake_Stream_Flip : BodyOK P t37 noLoops Tryz.f44 s_pilemake_Stream_Flip := fun d => by kernel_rfl
theorem c_pilemake_Stream_Flip : ∀ d r, F_pilemake_Stream_Flip d = some r → ACallX P 44 (s_pilemake_Stream_Flip.args0 d) (denH (s_pilemake_Stream_Flip.H0 d)) (s_pilemake_Stream_Flip.out r) (denH (s_pilemake_Stream_Flip.H1 r)) := fun d r h => body_sound hm t37_ok (sp := s_pilemake_Stream_Flip) Tryz.func44 (by kernel_rfl) (noLoops_ok _ _ _) b_pilemake_Stream_Flip (by kernel_rfl) h
def t38 : Tab := t37.addW s_pilemake_Stream_Flip
theorem t38_ok : TabOK P t38 := t37_ok.addW (by kernel_rfl) (by kernel_rfl) c_pilemake_Stream_Flip

/- (*pileup/pilemake.Stream).Pick -/
def F_pilemake_Stream_Pick (d : List G) : Option (List G) :=
  (callF (F_pilemake_Stream_Next [.l (gi d 0).rows, .i (gi d 1).int, .i (((gi d 2).rows.length : Nat) : Int)]) fun g1 => (bif ((nnI (gi g1 2).int) && (ltI (gi g1 2).int (((gi d 2).rows.length : Nat) : Int))) then some [.l (gi g1 0).rows, .i (gi g1 1).int, .i (gi ((gi d 2).rows.getD (((gi g1 2).int).toNat) []) 0).int] else none))
def s_pilemake_Stream_Pick : FSpec := ⟨19, [.s (.ptr 0 0), .s (.list [.int .i64])], [.box [.list [.int .i64], .int .i64]], [.slot 0], [.s (.int .i64)], [.box [.list [.int .i64], .int .i64]], [.fix 0], [], F_pilemake_Stream_Pick⟩
theorem b_pilemake_Stream_Pick : BodyOK P t38 noLoops Tryz.f19 s_pilemake_Stream_Pick := fun d => by kernel_rfl
theorem c_pilemake_Stream_Pick : ∀ d r, F_pilemake_Stream_Pick d = some r → ACallX P 19 (s_pilemake_Stream_Pick.args0 d) (denH (s_pilemake_Stream_Pick.H0 d)) (s_pilemake_Stream_Pick.out r) (denH (s_pilemake_Stream_Pick.H1 r)) := fun d r h => body_sound hm t38_ok (sp := s_pilemake_Stream_Pick) Tryz.func19 (by kernel_rfl) (noLoops_ok _ _ _) b_pilemake_Stream_Pick (by kernel_rfl) h
def t39 : Tab := t38.addW s_pilemake_Stream_Pick
theorem t39_ok : TabOK P t39 := t38_ok.addW (by kernel_rfl) (by kernel_rfl) c_pilemake_Stream_Pick

/- (*pileup/pilemake.Stream).Some -/
def F_pilemake_Stream_Some (d : List G) : Option (List G) :=
  (callF (F_pilemake_Stream_Next [.l (gi d 0).rows, .i (gi d 1).int, .i (((gi d 2).rows.length : Nat) : Int)]) fun g1 => (bif ((nnI (gi g1 2).int) && (ltI (gi g1 2).int (((gi d 2).rows.length : Nat) : Int))) then some [.l (gi g1 0).rows, .i (gi g1 1).int, .s (gi ((gi d 2).rows.getD (((gi g1 2).int).toNat) []) 0).str] else none))
def s_pilemake_Stream_Some : FSpec := ⟨16, [.s (.ptr 0 0), .s (.list [.str])], [.box [.list [.int .i64], .int .i64]], [.slot 0], [.s (.str)], [.box [.list [.int .i64], .int .i64]], [.fix 0], [], F_pilemake_Stream_Some⟩
theorem b_pilemake_Stream_Some : BodyOK P t39 noLoops Tryz.f16 s_pilemake_Stream_Some := fun d => by kernel_rfl
theorem c_pilemake_Stream_Some : ∀ d r, F_pilemake_Stream_Some d = some r → ACallX P 16 (s_pilemake_Stream_Some.args0 d) (denH (s_pilemake_Stream_Some.H0 d)) (s_pilemake_Stream_Some.out r) (denH (s_pilemake_Stream_Some.H1 r)) := fun d r h => body_sound hm t39_ok (sp := s_pilemake_Stream_Some) Tryz.func16 (by kernel_rfl) (noLoops_ok _ _ _) b_pilemake_Stream_Some (by kernel_rfl) h
def t40 : Tab := t39.addW s_pilemake_Stream_Some
theorem t40_ok : TabOK P t40 := t39_ok.addW (by kernel_rfl) (by kernel_rfl) c_pilemake_Stream_Some

/- (*pileup/pilemake.Stream).Range -/
def F_pilemake_Stream_Range (d : List G) : Option (List G) :=
  (bif (ltI (gi d 3).int (gi d 2).int) then some [.l (gi d 0).rows, .i (gi d 1).int, .i (gi d 2).int] else (bif (inI ((gi d 3).int - (gi d 2).int)) then (bif (inI (((gi d 3).int - (gi d 2).int) + 1)) then (callF (F_pilemake_Stream_Next [.l (gi d 0).rows, .i (gi d 1).int, .i (((gi d 3).int - (gi d 2).int) + 1)]) fun g1 => (bif (inI ((gi d 2).int + (gi g1 2).int)) then some [.l (gi g1 0).rows, .i (gi g1 1).int, .i ((gi d 2).int + (gi g1 2).int)] else none)) else none) else none))
def s_pilemake_Stream_Range : FSpec := ⟨9, [.s (.ptr 0 0), .s (.int .i64), .s (.int .i64)], [.box [.list [.int .i64], .int .i64]], [.slot 0], [.s (.int .i64)], [.box [.list [.int .i64], .int .i64]], [.fix 0], [], F_pilemake_Stream_Range⟩
theorem b_pilemake_Stream_Range : BodyOK P t40 noLoops Tryz.f9 s_pilemake_Stream_Range := fun d => by kernel_rfl
theorem c_pilemake_Stream_Range : ∀ d r, F_pilemake_Stream_Range d = some r → ACallX P 9 (s_pilemake_Stream_Range.args0 d) (denH (s_pilemake_Stream_Range.H0 d)) (s_pilemake_Stream_Range.out r) (denH (s_pilemake_Stream_Range.H1 r)) := fun d r h => body_sound hm t40_ok (sp := s_pilemake_Stream_Range) Tryz.func9 (by kernel_rfl) (noLoops_ok _ _ _) b_pilemake_Stream_Range (by kernel_rfl) h
def t41 : Tab := t40.addW s_pilemake_Stream_Range
theorem t41_ok : TabOK P t41 := t40_ok.addW (by kernel_rfl) (by kernel_rfl) c_pilemake_Stream_Range

/- (*pileup/pilemake.Stream).Odd -/
def F_pilemake_Stream_Odd (d : List G) : Option (List G) :=
  (callF (F_pilemake_Stream_Flip [.l (gi d 0).rows, .i (gi d 1).int, .i 12]) fun g1 => (bif (gi g1 2).bool then (bif (inI ((gi d 2).int - 1)) then (bif (inI ((gi d 3).int + 1)) then (callF (F_pilemake_Stream_Pick [.l (gi g1 0).rows, .i (gi g1 1).int, .l [[.i ((gi d 2).int - 1)], [.i ((gi d 3).int + 1)], [.i (gi d 2).int], [.i (gi d 3).int], [.i (-1099511627776)], [.i 1099511627776]]]) fun g2 => some [.l (gi g2 0).rows, .i (gi g2 1).int, .i (gi g2 2).int]) else none) else none) else (callF (F_pilemake_Stream_Range [.l (gi g1 0).rows, .i (gi g1 1).int, .i (gi d 2).int, .i (gi d 3).int]) fun g3 => some [.l (gi g3 0).rows, .i (gi g3 1).int, .i (gi g3 2).int])))
def s_pilemake_Stream_Odd : FSpec := ⟨46, [.s (.ptr 0 0), .s (.int .i64), .s (.int .i64)], [.box [.list [.int .i64], .int .i64]], [.slot 0], [.s (.int .i64)], [.box [.list [.int .i64], .int .i64]], [.fix 0], [], F_pilemake_Stream_Odd⟩
theorem b_pilemake_Stream_Odd : BodyOK P t41 noLoops Tryz.f46 s_pilemake_Stream_Odd := fun d => by kernel_rfl
theorem c_pilemake_Stream_Odd : ∀ d r, F_pilemake_Stream_Odd d = some r → ACallX P 46 (s_pilemake_Stream_Odd.args0 d) (denH (s_pilemake_Stream_Odd.H0 d)) (s_pilemake_Stream_Odd.out r) (denH (s_pilemake_Stream_Odd.H1 r)) := fun d r h => body_sound hm t41_ok (sp := s_pilemake_Stream_Odd) Tryz.func46 (by kernel_rfl) (noLoops_ok _ _ _) b_pilemake_Stream_Odd (by kernel_rfl) h
def t42 : Tab := t41.addW s_pilemake_Stream_Odd
theorem t42_ok : TabOK P t42 := t41_ok.addW (by kernel_rfl) (by kernel_rfl) c_pilemake_Stream_Odd

/- slices.Compare[[]int,int] -/
def st_slices_Compare_int_2 (d : List G) : Option (Option Nat × List G) :=
  (bif (ltI (gi d 4).int (gi d 3).int) then (bif ((nnI (gi d 4).int) && (ltI (gi d 4).int (((gi d 2).rows.length : Nat) : Int))) then (bif (leI (((gi d 1).rows.length : Nat) : Int) (gi d 4).int) then some (some 0, [.i 1]) else (bif ((nnI (gi d 4).int) && (ltI (gi d 4).int (((gi d 1).rows.length : Nat) : Int))) then (callF (F_cmp_Compare_int [.i (gi ((gi d 2).rows.getD (((gi d 4).int).toNat) []) 0).int, .i (gi ((gi d 1).rows.getD (((gi d 4).int).toNat) []) 0).int]) fun g1 => (bif ((gi g1 0).int != 0) then some (some 0, [.i (gi g1 0).int]) else (bif (inI ((gi d 4).int + 1)) then some (none, [.l (gi d 0).rows, .l (gi d 1).rows, .l (gi d 2).rows, .i (gi d 3).int, .i ((gi d 4).int + 1)]) else none))) else none)) else none) else some (some 1, [.l (gi d 0).rows, .l (gi d 1).rows]))
def l_slices_Compare_int_2 : LSpec := ⟨2, [], ⟨36, [(0, .s (.list [.int .i64])), (1, .s (.list [.int .i64])), (9, .s (.list [.int .i64])), (10, .s (.int .i64)), (11, .s (.int .i64))], []⟩, [], [⟨.ret, ⟨36, [(4, .s (.int .i64))], []⟩, []⟩, ⟨.exit 0, ⟨36, [(0, .s (.list [.int .i64])), (1, .s (.list [.int .i64]))], []⟩, []⟩], st_slices_Compare_int_2⟩
theorem r_slices_Compare_int_2 : RoundOK P t42 noLoops 0 (loopAt Tryz.f49 2) l_slices_Compare_int_2 := fun d => by kernel_rfl
def L_slices_Compare_int_2 : LT := noLoops.add 0 l_slices_Compare_int_2
theorem L_slices_Compare_int_2_ok : LoopsOK P 0 L_slices_Compare_int_2 (bodyOf Tryz.f49) := LoopsOK.add hm t42_ok (by kernel_rfl) (noLoops_ok _ _ _) r_slices_Compare_int_2
def F_slices_Compare_int (d : List G) : Option (List G) :=
  (loopB true (LRun st_slices_Compare_int_2 [.l (gi d 0).rows, .l (gi d 1).rows, .l (gi d 0).rows, .i (((gi d 0).rows.length : Nat) : Int), .i 0]) fun cg2 g2 => (bif Nat.beq cg2 0 then some [.i (gi g2 0).int] else (bif (ltI (((gi g2 0).rows.length : Nat) : Int) (((gi g2 1).rows.length : Nat) : Int)) then some [.i (-1)] else some [.i 0])))
def s_slices_Compare_int : FSpec := ⟨49, [.s (.list [.int .i64]), .s (.list [.int .i64])], [], [], [.s (.int .i64)], [], [], [], F_slices_Compare_int⟩
theorem b_slices_Compare_int : BodyOK P t42 L_slices_Compare_int_2 Tryz.f49 s_slices_Compare_int := fun d => by kernel_rfl
theorem c_slices_Compare_int : ∀ d r, F_slices_Compare_int d = some r → ACallX P 49 (s_slices_Compare_int.args0 d) (denH (s_slices_Compare_int.H0 d)) (s_slices_Compare_int.out r) (denH (s_slices_Compare_int.H1 r)) := fun d r h => body_sound hm t42_ok (sp := s_slices_Compare_int) Tryz.func49 (by kernel_rfl) L_slices_Compare_int_2_ok b_slices_Compare_int (by kernel_rfl) h
def t43 : Tab := t42.addP s_slices_Compare_int
theorem t43_ok : TabOK P t43 := t42_ok.addP (by kernel_rfl) (by kernel_rfl) c_slices_Compare_int

/- (*pileup/pilemake.Stream).Segments$1 -/
def F_pilemake_Stream_Segments_1 (d : List G) : Option (List G) :=
  (bif (!((gi (gi d 0).row 0).str.toList == (gi (gi d 1).row 0).str.toList)) then (bif (Op.bytesLess (gi (gi d 0).row 0).str.toList (gi (gi d 1).row 0).str.toList) then some [.i (-1)] else some [.i 1]) else (callF (F_slices_Compare_int [.l [[.i (gi (gi d 0).row 1).int], [.i (gi (gi d 0).row 2).int], [.i (gi (gi d 0).row 4).int]], .l [[.i (gi (gi d 1).row 1).int], [.i (gi (gi d 1).row 2).int], [.i (gi (gi d 1).row 4).int]]]) fun g1 => some [.i (gi g1 0).int]))
def s_pilemake_Stream_Segments_1 : FSpec := ⟨48, [.s (.row KSegment), .s (.row KSegment)], [], [], [.s (.int .i64)], [], [], [], F_pilemake_Stream_Segments_1⟩
theorem b_pilemake_Stream_Segments_1 : BodyOK P t43 noLoops Tryz.f48 s_pilemake_Stream_Segments_1 := fun d => by kernel_rfl
theorem c_pilemake_Stream_Segments_1 : ∀ d r, F_pilemake_Stream_Segments_1 d = some r → ACallX P 48 (s_pilemake_Stream_Segments_1.args0 d) (denH (s_pilemake_Stream_Segments_1.H0 d)) (s_pilemake_Stream_Segments_1.out r) (denH (s_pilemake_Stream_Segments_1.H1 r)) := fun d r h => body_sound hm t43_ok (sp := s_pilemake_Stream_Segments_1) Tryz.func48 (by kernel_rfl) (noLoops_ok _ _ _) b_pilemake_Stream_Segments_1 (by kernel_rfl) h
def t44 : Tab := t43.addP s_pilemake_Stream_Segments_1
theorem t44_ok : TabOK P t44 := t43_ok.addP (by kernel_rfl) (by kernel_rfl) c_pilemake_Stream_Segments_1

/- slices.insertionSortCmpFunc[pileup/api.Segment] -/
def st_slices_insertionSortCmpFunc_Segment_4 (d : List G) : Option (Option Nat × List G) :=
  (bif (ltI (gi d 1).int (gi d 4).int) then (bif ((nnI (gi d 4).int) && (ltI (gi d 4).int (((gi d 0).rows.length : Nat) : Int))) then (bif (decide ((0 + ((gi d 4).int).toNat) < (gi d 0).rows.length)) then (bif (inI ((gi d 4).int - 1)) then (bif ((nnI ((gi d 4).int - 1)) && (ltI ((gi d 4).int - 1) (((gi d 0).rows.length : Nat) : Int))) then (bif (decide ((0 + ((gi d 4).int - 1).toNat) < (gi d 0).rows.length)) then (callF (F_pilemake_Stream_Segments_1 [.l [(gEta KSegment ((gi d 0).rows.getD (0 + ((gi d 4).int).toNat) []))], .l [(gEta KSegment ((gi d 0).rows.getD (0 + ((gi d 4).int - 1).toNat) []))]]) fun g1 => (bif (ltI (gi g1 0).int 0) then (bif (inI ((gi d 4).int - 1)) then (bif (inI ((gi d 4).int - 1)) then (bif ((nnI ((gi d 4).int - 1)) && (ltI ((gi d 4).int - 1) (((gi d 0).rows.length : Nat) : Int))) then (bif (decide ((0 + ((gi d 4).int - 1).toNat) < (gi d 0).rows.length)) then (bif ((nnI (gi d 4).int) && (ltI (gi d 4).int (((gi d 0).rows.length : Nat) : Int))) then (bif (decide ((0 + ((gi d 4).int).toNat) < (gi d 0).rows.length)) then (bif ((nnI (gi d 4).int) && (ltI (gi d 4).int (((gi d 0).rows.length : Nat) : Int))) then (bif (decide ((0 + ((gi d 4).int).toNat) < (gi d 0).rows.length)) then (bif ((nnI ((gi d 4).int - 1)) && (ltI ((gi d 4).int - 1) (((gi d 0).rows.length : Nat) : Int))) then (bif (decide ((0 + ((gi d 4).int - 1).toNat) < ((gi d 0).rows.set (0 + ((gi d 4).int).toNat) (putG KSegment ((gi d 0).rows.getD (0 + ((gi d 4).int).toNat) []) 0 (gEta KSegment ((gi d 0).rows.getD (0 + ((gi d 4).int - 1).toNat) [])))).length)) then (bif (inI ((gi d 4).int - 1)) then (bif ((Nat.beq (gi d 0).rows.length (((gi d 0).rows.set (0 + ((gi d 4).int).toNat) (putG KSegment ((gi d 0).rows.getD (0 + ((gi d 4).int).toNat) []) 0 (gEta KSegment ((gi d 0).rows.getD (0 + ((gi d 4).int - 1).toNat) [])))).set (0 + ((gi d 4).int - 1).toNat) (putG KSegment (((gi d 0).rows.set (0 + ((gi d 4).int).toNat) (putG KSegment ((gi d 0).rows.getD (0 + ((gi d 4).int).toNat) []) 0 (gEta KSegment ((gi d 0).rows.getD (0 + ((gi d 4).int - 1).toNat) [])))).getD (0 + ((gi d 4).int - 1).toNat) []) 0 (gEta KSegment ((gi d 0).rows.getD (0 + ((gi d 4).int).toNat) [])))).length) && true) then some (none, [.l (((gi d 0).rows.set (0 + ((gi d 4).int).toNat) (putG KSegment ((gi d 0).rows.getD (0 + ((gi d 4).int).toNat) []) 0 (gEta KSegment ((gi d 0).rows.getD (0 + ((gi d 4).int - 1).toNat) [])))).set (0 + ((gi d 4).int - 1).toNat) (putG KSegment (((gi d 0).rows.set (0 + ((gi d 4).int).toNat) (putG KSegment ((gi d 0).rows.getD (0 + ((gi d 4).int).toNat) []) 0 (gEta KSegment ((gi d 0).rows.getD (0 + ((gi d 4).int - 1).toNat) [])))).getD (0 + ((gi d 4).int - 1).toNat) []) 0 (gEta KSegment ((gi d 0).rows.getD (0 + ((gi d 4).int).toNat) [])))), .i (gi d 1).int, .i (gi d 2).int, .i (gi d 3).int, .i ((gi d 4).int - 1)]) else none) else none) else none) else none) else none) else none) else none) else none) else none) else none) else none) else none) else (bif ((Nat.beq (gi d 0).rows.length (gi d 0).rows.length) && true) then some (some 0, [.l (gi d 0).rows, .i (gi d 1).int, .i (gi d 2).int, .i (gi d 3).int]) else none))) else none) else none) else none) else none) else none) else (bif ((Nat.beq (gi d 0).rows.length (gi d 0).rows.length) && true) then some (some 0, [.l (gi d 0).rows, .i (gi d 1).int, .i (gi d 2).int, .i (gi d 3).int]) else none))
def l_slices_insertionSortCmpFunc_Segment_4 : LSpec := ⟨4, [], ⟨53, [(0, .s (.vec 0 6)), (1, .s (.int .i64)), (2, .s (.int .i64)), (3, .s (.fn 48)), (8, .s (.int .i64)), (9, .s (.int .i64))], [.vec KSegment 0]⟩, [.fix 0], [⟨.exit 2, ⟨53, [(0, .s (.vec 0 6)), (1, .s (.int .i64)), (2, .s (.int .i64)), (3, .s (.fn 48)), (8, .s (.int .i64))], [.vec KSegment 0]⟩, [.fix 0]⟩], st_slices_insertionSortCmpFunc_Segment_4⟩
theorem r_slices_insertionSortCmpFunc_Segment_4 : RoundOK P t44 noLoops 1 (loopAt Tryz.f111 4) l_slices_insertionSortCmpFunc_Segment_4 := fun d => by kernel_rfl
def L_slices_insertionSortCmpFunc_Segment_4 : LT := noLoops.add 1 l_slices_insertionSortCmpFunc_Segment_4
theorem L_slices_insertionSortCmpFunc_Segment_4_ok : LoopsOK P 1 L_slices_insertionSortCmpFunc_Segment_4 (bodyOf Tryz.f111) := LoopsOK.add hm t44_ok (by kernel_rfl) (noLoops_ok _ _ _) r_slices_insertionSortCmpFunc_Segment_4
def st_slices_insertionSortCmpFunc_Segment_1 (d : List G) : Option (Option Nat × List G) :=
  (bif (ltI (gi d 3).int (gi d 2).int) then (loopB ((Nat.beq (gi d 0).rows.length (gi d 0).rows.length) && true) (LRun st_slices_insertionSortCmpFunc_Segment_4 [.l (gi d 0).rows, .i (gi d 1).int, .i (gi d 2).int, .i (gi d 3).int, .i (gi d 3).int]) fun cg2 g2 => (bif (inI ((gi g2 3).int + 1)) then (bif ((Nat.beq (gi g2 0).rows.length (gi g2 0).rows.length) && true) then some (none, [.l (gi g2 0).rows, .i (gi g2 1).int, .i (gi g2 2).int, .i ((gi g2 3).int + 1)]) else none) else none)) else some (some 0, [.l (gi d 0).rows]))
def l_slices_insertionSortCmpFunc_Segment_1 : LSpec := ⟨1, [], ⟨53, [(0, .s (.vec 0 6)), (1, .s (.int .i64)), (2, .s (.int .i64)), (3, .s (.fn 48)), (8, .s (.int .i64))], [.vec KSegment 0]⟩, [.fix 0], [⟨.exit 0, ⟨53, [], [.vec KSegment 0]⟩, [.fix 0]⟩], st_slices_insertionSortCmpFunc_Segment_1⟩
theorem r_slices_insertionSortCmpFunc_Segment_1 : RoundOK P t44 L_slices_insertionSortCmpFunc_Segment_4 1 (loopAt Tryz.f111 1) l_slices_insertionSortCmpFunc_Segment_1 := fun d => by kernel_rfl
def L_slices_insertionSortCmpFunc_Segment_1 : LT := L_slices_insertionSortCmpFunc_Segment_4.add 1 l_slices_insertionSortCmpFunc_Segment_1
theorem L_slices_insertionSortCmpFunc_Segment_1_ok : LoopsOK P 1 L_slices_insertionSortCmpFunc_Segment_1 (bodyOf Tryz.f111) := LoopsOK.add hm t44_ok (by kernel_rfl) L_slices_insertionSortCmpFunc_Segment_4_ok r_slices_insertionSortCmpFunc_Segment_1
def F_slices_insertionSortCmpFunc_Segment (d : List G) : Option (List G) :=
  (bif (inI ((gi d 1).int + 1)) then (loopB ((Nat.beq (gi d 0).rows.length (gi d 0).rows.length) && true) (LRun st_slices_insertionSortCmpFunc_Segment_1 [.l (gi d 0).rows, .i (gi d 1).int, .i (gi d 2).int, .i ((gi d 1).int + 1)]) fun cg3 g3 => some [.l (gi g3 0).rows]) else none)
def s_slices_insertionSortCmpFunc_Segment : FSpec := ⟨111, [.s (.vec 0 6), .s (.int .i64), .s (.int .i64), .s (.fn 48)], [.vec KSegment 0], [.slot 0], [], [.vec KSegment 0], [.fix 0], [], F_slices_insertionSortCmpFunc_Segment⟩
theorem b_slices_insertionSortCmpFunc_Segment : BodyOK P t44 L_slices_insertionSortCmpFunc_Segment_1 Tryz.f111 s_slices_insertionSortCmpFunc_Segment := fun d => by kernel_rfl
theorem c_slices_insertionSortCmpFunc_Segment : ∀ d r, F_slices_insertionSortCmpFunc_Segment d = some r → ACallX P 111 (s_slices_insertionSortCmpFunc_Segment.args0 d) (denH (s_slices_insertionSortCmpFunc_Segment.H0 d)) (s_slices_insertionSortCmpFunc_Segment.out r) (denH (s_slices_insertionSortCmpFunc_Segment.H1 r)) := fun d r h => body_sound hm t44_ok (sp := s_slices_insertionSortCmpFunc_Segment) Tryz.func111 (by kernel_rfl) L_slices_insertionSortCmpFunc_Segment_1_ok b_slices_insertionSortCmpFunc_Segment (by kernel_rfl) h
def t45 : Tab := t44.addW s_slices_insertionSortCmpFunc_Segment
theorem t45_ok : TabOK P t45 := t44_ok.addW (by kernel_rfl) (by kernel_rfl) c_slices_insertionSortCmpFunc_Segment

/- slices.stableCmpFunc[pileup/api.Segment] -/
/- not followed: a call of slices.symMergeCmpFunc[pileup/api.Segment] at zsortanyfunc.go:348; a call of slices.symMergeCmpFunc[pileup/api.Segment] at zsortanyfunc.go:353 -/
def st_slices_stableCmpFunc_Segment_2 (d : List G) : Option (Option Nat × List G) :=
  (bif (leI (gi d 4).int (gi d 1).int) then (callB (((Nat.beq (gi d 0).rows.length (gi d 0).rows.length) && true) && (F_slices_insertionSortCmpFunc_Segment [.l (gi d 0).rows, .i (gi d 3).int, .i (gi d 4).int]).isSome) (F_slices_insertionSortCmpFunc_Segment [.l (gi d 0).rows, .i (gi d 3).int, .i (gi d 4).int]) fun g1 => (bif (inI ((gi d 4).int + (gi d 2).int)) then (bif ((Nat.beq (gi d 0).rows.length (gi g1 0).rows.length) && true) then some (none, [.l (gi g1 0).rows, .i (gi d 1).int, .i (gi d 2).int, .i (gi d 4).int, .i ((gi d 4).int + (gi d 2).int)]) else none) else none)) else (bif ((Nat.beq (gi d 0).rows.length (gi d 0).rows.length) && true) then some (some 0, [.l (gi d 0).rows, .i (gi d 1).int, .i (gi d 2).int, .i (gi d 3).int]) else none))
def l_slices_stableCmpFunc_Segment_2 : LSpec := ⟨2, [], ⟨63, [(0, .s (.vec 0 6)), (1, .s (.int .i64)), (2, .s (.fn 48)), (6, .s (.int .i64)), (7, .s (.int .i64)), (8, .s (.int .i64))], [.vec KSegment 0]⟩, [.fix 0], [⟨.exit 0, ⟨63, [(0, .s (.vec 0 6)), (1, .s (.int .i64)), (2, .s (.fn 48)), (6, .s (.int .i64)), (7, .s (.int .i64))], [.vec KSegment 0]⟩, [.fix 0]⟩], st_slices_stableCmpFunc_Segment_2⟩
theorem r_slices_stableCmpFunc_Segment_2 : RoundOK P t45 noLoops 1 (loopAt Tryz.f88 2) l_slices_stableCmpFunc_Segment_2 := fun d => by kernel_rfl
def L_slices_stableCmpFunc_Segment_2 : LT := noLoops.add 1 l_slices_stableCmpFunc_Segment_2
theorem L_slices_stableCmpFunc_Segment_2_ok : LoopsOK P 1 L_slices_stableCmpFunc_Segment_2 (bodyOf Tryz.f88) := LoopsOK.add hm t45_ok (by kernel_rfl) (noLoops_ok _ _ _) r_slices_stableCmpFunc_Segment_2
def st_slices_stableCmpFunc_Segment_9 (d : List G) : Option (Option Nat × List G) :=
  (bif (leI (gi d 4).int (gi d 1).int) then (bif (inI ((gi d 3).int + (gi d 2).int)) then none else none) else (bif ((Nat.beq (gi d 0).rows.length (gi d 0).rows.length) && true) then some (some 0, [.l (gi d 0).rows, .i (gi d 1).int, .i (gi d 2).int, .i (gi d 3).int]) else none))
def l_slices_stableCmpFunc_Segment_9 : LSpec := ⟨9, [], ⟨63, [(0, .s (.vec 0 6)), (1, .s (.int .i64)), (2, .s (.fn 48)), (6, .s (.int .i64)), (7, .s (.int .i64)), (8, .s (.int .i64))], [.vec KSegment 0]⟩, [.fix 0], [⟨.exit 4, ⟨63, [(0, .s (.vec 0 6)), (1, .s (.int .i64)), (2, .s (.fn 48)), (6, .s (.int .i64)), (7, .s (.int .i64))], [.vec KSegment 0]⟩, [.fix 0]⟩], st_slices_stableCmpFunc_Segment_9⟩
theorem r_slices_stableCmpFunc_Segment_9 : RoundOK P t45 L_slices_stableCmpFunc_Segment_2 1 (loopAt Tryz.f88 9) l_slices_stableCmpFunc_Segment_9 := fun d => by kernel_rfl
def L_slices_stableCmpFunc_Segment_9 : LT := L_slices_stableCmpFunc_Segment_2.add 1 l_slices_stableCmpFunc_Segment_9
theorem L_slices_stableCmpFunc_Segment_9_ok : LoopsOK P 1 L_slices_stableCmpFunc_Segment_9 (bodyOf Tryz.f88) := LoopsOK.add hm t45_ok (by kernel_rfl) L_slices_stableCmpFunc_Segment_2_ok r_slices_stableCmpFunc_Segment_9
def st_slices_stableCmpFunc_Segment_7 (d : List G) : Option (Option Nat × List G) :=
  (bif (ltI (gi d 2).int (gi d 1).int) then (bif (inI (2 * (gi d 2).int)) then (loopB ((Nat.beq (gi d 0).rows.length (gi d 0).rows.length) && true) (LRun st_slices_stableCmpFunc_Segment_9 [.l (gi d 0).rows, .i (gi d 1).int, .i (gi d 2).int, .i 0, .i (2 * (gi d 2).int)]) fun cg4 g4 => (bif (inI ((gi g4 3).int + (gi g4 2).int)) then (bif (ltI ((gi g4 3).int + (gi g4 2).int) (gi g4 1).int) then none else (bif (inI ((gi g4 2).int * 2)) then (bif ((Nat.beq (gi g4 0).rows.length (gi g4 0).rows.length) && true) then some (none, [.l (gi g4 0).rows, .i (gi g4 1).int, .i ((gi g4 2).int * 2)]) else none) else none)) else none)) else none) else some (some 0, [.l (gi d 0).rows]))
def l_slices_stableCmpFunc_Segment_7 : LSpec := ⟨7, [], ⟨63, [(0, .s (.vec 0 6)), (1, .s (.int .i64)), (2, .s (.fn 48)), (6, .s (.int .i64))], [.vec KSegment 0]⟩, [.fix 0], [⟨.exit 2, ⟨63, [], [.vec KSegment 0]⟩, [.fix 0]⟩], st_slices_stableCmpFunc_Segment_7⟩
theorem r_slices_stableCmpFunc_Segment_7 : RoundOK P t45 L_slices_stableCmpFunc_Segment_9 1 (loopAt Tryz.f88 7) l_slices_stableCmpFunc_Segment_7 := fun d => by kernel_rfl
def L_slices_stableCmpFunc_Segment_7 : LT := L_slices_stableCmpFunc_Segment_9.add 1 l_slices_stableCmpFunc_Segment_7
theorem L_slices_stableCmpFunc_Segment_7_ok : LoopsOK P 1 L_slices_stableCmpFunc_Segment_7 (bodyOf Tryz.f88) := LoopsOK.add hm t45_ok (by kernel_rfl) L_slices_stableCmpFunc_Segment_9_ok r_slices_stableCmpFunc_Segment_7
def F_slices_stableCmpFunc_Segment (d : List G) : Option (List G) :=
  (loopB ((Nat.beq (gi d 0).rows.length (gi d 0).rows.length) && true) (LRun st_slices_stableCmpFunc_Segment_2 [.l (gi d 0).rows, .i (gi d 1).int, .i 20, .i 0, .i 20]) fun cg2 g2 => (callB (((Nat.beq (gi g2 0).rows.length (gi g2 0).rows.length) && true) && (F_slices_insertionSortCmpFunc_Segment [.l (gi g2 0).rows, .i (gi g2 3).int, .i (gi g2 1).int]).isSome) (F_slices_insertionSortCmpFunc_Segment [.l (gi g2 0).rows, .i (gi g2 3).int, .i (gi g2 1).int]) fun g3 => (loopB ((Nat.beq (gi g2 0).rows.length (gi g3 0).rows.length) && true) (LRun st_slices_stableCmpFunc_Segment_7 [.l (gi g3 0).rows, .i (gi g2 1).int, .i (gi g2 2).int]) fun cg5 g5 => some [.l (gi g5 0).rows])))
def s_slices_stableCmpFunc_Segment : FSpec := ⟨88, [.s (.vec 0 6), .s (.int .i64), .s (.fn 48)], [.vec KSegment 0], [.slot 0], [], [.vec KSegment 0], [.fix 0], [], F_slices_stableCmpFunc_Segment⟩
theorem b_slices_stableCmpFunc_Segment : BodyOK P t45 L_slices_stableCmpFunc_Segment_7 Tryz.f88 s_slices_stableCmpFunc_Segment := fun d => by kernel_rfl
theorem c_slices_stableCmpFunc_Segment : ∀ d r, F_slices_stableCmpFunc_Segment d = some r → ACallX P 88 (s_slices_stableCmpFunc_Segment.args0 d) (denH (s_slices_stableCmpFunc_Segment.H0 d)) (s_slices_stableCmpFunc_Segment.out r) (denH (s_slices_stableCmpFunc_Segment.H1 r)) := fun d r h => body_sound hm t45_ok (sp := s_slices_stableCmpFunc_Segment) Tryz.func88 (by kernel_rfl) L_slices_stableCmpFunc_Segment_7_ok b_slices_stableCmpFunc_Segment (by kernel_rfl) h
def t46 : Tab := t45.addW s_slices_stableCmpFunc_Segment
theorem t46_ok : TabOK P t46 := t45_ok.addW (by kernel_rfl) (by kernel_rfl) c_slices_stableCmpFunc_Segment

/- slices.SortStableFunc[[]pileup/api.Segment,pileup/api.Segment] -/
def F_slices_SortStableFunc_Segment (d : List G) : Option (List G) :=
  (callB (((Nat.beq (gi d 0).rows.length (gi d 0).rows.length) && true) && (F_slices_stableCmpFunc_Segment [.l (gi d 0).rows, .i (((gi d 0).rows.length : Nat) : Int)]).isSome) (F_slices_stableCmpFunc_Segment [.l (gi d 0).rows, .i (((gi d 0).rows.length : Nat) : Int)]) fun g1 => some [.l (gi g1 0).rows])
def s_slices_SortStableFunc_Segment : FSpec := ⟨47, [.s (.vec 0 6), .s (.fn 48)], [.vec KSegment 0], [.slot 0], [], [.vec KSegment 0], [.fix 0], [], F_slices_SortStableFunc_Segment⟩
theorem b_slices_SortStableFunc_Segment : BodyOK P t46 noLoops Tryz.f47 s_slices_SortStableFunc_Segment := fun d => by kernel_rfl
theorem c_slices_SortStableFunc_Segment : ∀ d r, F_slices_SortStableFunc_Segment d = some r → ACallX P 47 (s_slices_SortStableFunc_Segment.args0 d) (denH (s_slices_SortStableFunc_Segment.H0 d)) (s_slices_SortStableFunc_Segment.out r) (denH (s_slices_SortStableFunc_Segment.H1 r)) := fun d r h => body_sound hm t46_ok (sp := s_slices_SortStableFunc_Segment) Tryz.func47 (by kernel_rfl) (noLoops_ok _ _ _) b_slices_SortStableFunc_Segment (by kernel_rfl) h
def t47 : Tab := t46.addW s_slices_SortStableFunc_Segment
theorem t47_ok : TabOK P t47 := t46_ok.addW (by kernel_rfl) (by kernel_rfl) c_slices_SortStableFunc_Segment

end
end Go.Proofs.SYtpbepppkchjccaaGreatDoor
