/-
  What is proved here: functions of the program as functions on data. No condition.
-/
import Derived.Test.YteljhjdcaaebcaaGreatDoorML1
set_option linter.unusedSimpArgs false
set_option linter.unusedVariables false
set_option linter.unusedSectionVars false
namespace Go.Proofs.SYteljhjdcaaebcaaGreatDoor
open Go Go.AL Go.Proofs
noncomputable section
/- pileup/kit.Outside -/
def F_kit_Outside (d : List G) : Option (List G) :=
  (bif (ltI (gi d 0).int (gi d 1).int) then some [.t true] else some [.t (ltI (gi d 2).int (gi d 0).int)])
def s_kit_Outside : FSpec := ⟨59, [.s (.int .i64), .s (.int .i64), .s (.int .i64)], [], [], [.s (.bool)], [], [], [], F_kit_Outside⟩
theorem b_kit_Outside : BodyOK P t6 noLoops Tryz.f59 s_kit_Outside := fun d => by kernel_rfl
theorem c_kit_Outside : ∀ d r, F_kit_Outside d = some r → ACallX P 59 (s_kit_Outside.args0 d) (denH (s_kit_Outside.H0 d)) (s_kit_Outside.out r) (denH (s_kit_Outside.H1 r)) := fun d r h => body_sound hm t6_ok (sp := s_kit_Outside) Tryz.func59 (by kernel_rfl) (noLoops_ok _ _ _) b_kit_Outside (by kernel_rfl) h
def t7 : Tab := t6.addP s_kit_Outside
theorem t7_ok : TabOK P t7 := t6_ok.addP (by kernel_rfl) (by kernel_rfl) c_kit_Outside

/- pileup/kit.IsMoment -/
def F_kit_IsMoment (d : List G) : Option (List G) :=
  (callF (F_kit_Outside [.i (gi d 0).int, .i 0, .i 345686399999]) fun g1 => some [.t (!(gi g1 0).bool)])
def s_kit_IsMoment : FSpec := ⟨61, [.s (.int .i64)], [], [], [.s (.bool)], [], [], [], F_kit_IsMoment⟩
theorem b_kit_IsMoment : BodyOK P t7 noLoops Tryz.f61 s_kit_IsMoment := fun d => by kernel_rfl
theorem c_kit_IsMoment : ∀ d r, F_kit_IsMoment d = some r → ACallX P 61 (s_kit_IsMoment.args0 d) (denH (s_kit_IsMoment.H0 d)) (s_kit_IsMoment.out r) (denH (s_kit_IsMoment.H1 r)) := fun d r h => body_sound hm t7_ok (sp := s_kit_IsMoment) Tryz.func61 (by kernel_rfl) (noLoops_ok _ _ _) b_kit_IsMoment (by kernel_rfl) h
def t8 : Tab := t7.addP s_kit_IsMoment
theorem t8_ok : TabOK P t8 := t7_ok.addP (by kernel_rfl) (by kernel_rfl) c_kit_IsMoment

/- pileup/kit.IsMode -/
def F_kit_IsMode (d : List G) : Option (List G) :=
  (callF (F_kit_Outside [.i (gi d 0).int, .i 1, .i 3]) fun g1 => some [.t (!(gi g1 0).bool)])
def s_kit_IsMode : FSpec := ⟨60, [.s (.int .i64)], [], [], [.s (.bool)], [], [], [], F_kit_IsMode⟩
theorem b_kit_IsMode : BodyOK P t8 noLoops Tryz.f60 s_kit_IsMode := fun d => by kernel_rfl
theorem c_kit_IsMode : ∀ d r, F_kit_IsMode d = some r → ACallX P 60 (s_kit_IsMode.args0 d) (denH (s_kit_IsMode.H0 d)) (s_kit_IsMode.out r) (denH (s_kit_IsMode.H1 r)) := fun d r h => body_sound hm t8_ok (sp := s_kit_IsMode) Tryz.func60 (by kernel_rfl) (noLoops_ok _ _ _) b_kit_IsMode (by kernel_rfl) h
def t9 : Tab := t8.addP s_kit_IsMode
theorem t9_ok : TabOK P t9 := t8_ok.addP (by kernel_rfl) (by kernel_rfl) c_kit_IsMode

/- pileup/kit.IsKey -/
def F_kit_IsKey (d : List G) : Option (List G) :=
  (bif (!((gi d 0).str.toList == (⟨#[]⟩ : ByteArray).toList)) then (bif (leI (((gi d 0).str.size : Nat) : Int) 40) then (bif (ltI 0 (((gi d 0).str.size : Nat) : Int)) then (callF (F_strings_IndexByte [.s (⟨#[97, 98, 99, 100, 101, 102, 103, 104, 105, 106, 107, 108, 109, 110, 111, 112, 113, 114, 115, 116, 117, 118, 119, 120, 121, 122]⟩ : ByteArray), .i (((gi d 0).str.data.toList.getD 0 0).toNat : Int)]) fun g1 => (bif (leI 0 (gi g1 0).int) then (callF (F_strings_Trim [.s (gi d 0).str, .s (⟨#[97, 98, 99, 100, 101, 102, 103, 104, 105, 106, 107, 108, 109, 110, 111, 112, 113, 114, 115, 116, 117, 118, 119, 120, 121, 122, 48, 49, 50, 51, 52, 53, 54, 55, 56, 57, 45, 95]⟩ : ByteArray)]) fun g2 => some [.t ((gi g2 0).str.toList == (⟨#[]⟩ : ByteArray).toList)]) else some [.t false])) else none) else some [.t false]) else some [.t false])
def s_kit_IsKey : FSpec := ⟨58, [.s (.str)], [], [], [.s (.bool)], [], [], [], F_kit_IsKey⟩
theorem b_kit_IsKey : BodyOK P t9 noLoops Tryz.f58 s_kit_IsKey := fun d => by kernel_rfl
theorem c_kit_IsKey : ∀ d r, F_kit_IsKey d = some r → ACallX P 58 (s_kit_IsKey.args0 d) (denH (s_kit_IsKey.H0 d)) (s_kit_IsKey.out r) (denH (s_kit_IsKey.H1 r)) := fun d r h => body_sound hm t9_ok (sp := s_kit_IsKey) Tryz.func58 (by kernel_rfl) (noLoops_ok _ _ _) b_kit_IsKey (by kernel_rfl) h
def t10 : Tab := t9.addP s_kit_IsKey
theorem t10_ok : TabOK P t10 := t9_ok.addP (by kernel_rfl) (by kernel_rfl) c_kit_IsKey

/- pileup/call.Is -/
def F_call_Is (d : List G) : Option (List G) :=
  (callF (F_call_Parts [.s (gi d 0).str]) fun g1 => some [.t (gi g1 1).bool])
def s_call_Is : FSpec := ⟨43, [.s (.str)], [], [], [.s (.bool)], [], [], [], F_call_Is⟩
theorem b_call_Is : BodyOK P t10 noLoops Tryz.f43 s_call_Is := fun d => by kernel_rfl
theorem c_call_Is : ∀ d r, F_call_Is d = some r → ACallX P 43 (s_call_Is.args0 d) (denH (s_call_Is.H0 d)) (s_call_Is.out r) (denH (s_call_Is.H1 r)) := fun d r h => body_sound hm t10_ok (sp := s_call_Is) Tryz.func43 (by kernel_rfl) (noLoops_ok _ _ _) b_call_Is (by kernel_rfl) h
def t11 : Tab := t10.addP s_call_Is
theorem t11_ok : TabOK P t11 := t10_ok.addP (by kernel_rfl) (by kernel_rfl) c_call_Is

/- pileup/kit.IsName -/
def F_kit_IsName (d : List G) : Option (List G) :=
  (bif ((gi d 0).str.toList == (⟨#[]⟩ : ByteArray).toList) then some [.t true] else (callF (F_kit_IsKey [.s (gi d 0).str]) fun g1 => some [.t (gi g1 0).bool]))
def s_kit_IsName : FSpec := ⟨122, [.s (.str)], [], [], [.s (.bool)], [], [], [], F_kit_IsName⟩
theorem b_kit_IsName : BodyOK P t11 noLoops Tryz.f122 s_kit_IsName := fun d => by kernel_rfl
theorem c_kit_IsName : ∀ d r, F_kit_IsName d = some r → ACallX P 122 (s_kit_IsName.args0 d) (denH (s_kit_IsName.H0 d)) (s_kit_IsName.out r) (denH (s_kit_IsName.H1 r)) := fun d r h => body_sound hm t11_ok (sp := s_kit_IsName) Tryz.func122 (by kernel_rfl) (noLoops_ok _ _ _) b_kit_IsName (by kernel_rfl) h
def t12 : Tab := t11.addP s_kit_IsName
theorem t12_ok : TabOK P t12 := t11_ok.addP (by kernel_rfl) (by kernel_rfl) c_kit_IsName

/- pileup/log.CheckContact -/
def F_log_CheckContact (d : List G) : Option (List G) :=
  (callF (F_kit_IsMoment [.i (gi (gi d 0).row 0).int]) fun g1 => (bif (!(gi g1 0).bool) then some [.i 1] else (callF (F_kit_IsMode [.i (gi (gi d 0).row 1).int]) fun g2 => (bif (!(gi g2 0).bool) then some [.i 4] else (callF (F_kit_IsKey [.s (gi (gi d 0).row 2).str]) fun g3 => (bif (!(gi g3 0).bool) then some [.i 5] else (callF (F_call_Is [.s (gi (gi d 0).row 3).str]) fun g4 => (bif (!(gi g4 0).bool) then some [.i 3] else (callF (F_kit_Outside [.i (gi (gi d 0).row 4).int, .i 0, .i 99999]) fun g5 => (bif (gi g5 0).bool then some [.i 1] else (callF (F_kit_Outside [.i (gi (gi d 0).row 5).int, .i 0, .i 99999]) fun g6 => (bif (gi g6 0).bool then some [.i 1] else (callF (F_kit_IsName [.s (gi (gi d 0).row 6).str]) fun g7 => (bif (!(gi g7 0).bool) then some [.i 5] else (callF (F_kit_IsName [.s (gi (gi d 0).row 7).str]) fun g8 => (bif (!(gi g8 0).bool) then some [.i 5] else some [.i 0]))))))))))))))))
def s_log_CheckContact : FSpec := ⟨86, [.s (.row KContact)], [], [], [.s (.int .i64)], [], [], [], F_log_CheckContact⟩
theorem b_log_CheckContact : BodyOK P t12 noLoops Tryz.f86 s_log_CheckContact := fun d => by kernel_rfl
theorem c_log_CheckContact : ∀ d r, F_log_CheckContact d = some r → ACallX P 86 (s_log_CheckContact.args0 d) (denH (s_log_CheckContact.H0 d)) (s_log_CheckContact.out r) (denH (s_log_CheckContact.H1 r)) := fun d r h => body_sound hm t12_ok (sp := s_log_CheckContact) Tryz.func86 (by kernel_rfl) (noLoops_ok _ _ _) b_log_CheckContact (by kernel_rfl) h
def t13 : Tab := t12.addP s_log_CheckContact
theorem t13_ok : TabOK P t13 := t12_ok.addP (by kernel_rfl) (by kernel_rfl) c_log_CheckContact

/- cmp.isNaN[int] -/
def F_cmp_isNaN_int (d : List G) : Option (List G) :=
  some [.t ((gi d 0).int != (gi d 0).int)]
def s_cmp_isNaN_int : FSpec := ⟨136, [.s (.int .i64)], [], [], [.s (.bool)], [], [], [], F_cmp_isNaN_int⟩
theorem b_cmp_isNaN_int : BodyOK P t13 noLoops Tryz.f136 s_cmp_isNaN_int := fun d => by kernel_rfl
theorem c_cmp_isNaN_int : ∀ d r, F_cmp_isNaN_int d = some r → ACallX P 136 (s_cmp_isNaN_int.args0 d) (denH (s_cmp_isNaN_int.H0 d)) (s_cmp_isNaN_int.out r) (denH (s_cmp_isNaN_int.H1 r)) := fun d r h => body_sound hm t13_ok (sp := s_cmp_isNaN_int) Tryz.func136 (by kernel_rfl) (noLoops_ok _ _ _) b_cmp_isNaN_int (by kernel_rfl) h
def t14 : Tab := t13.addP s_cmp_isNaN_int
theorem t14_ok : TabOK P t14 := t13_ok.addP (by kernel_rfl) (by kernel_rfl) c_cmp_isNaN_int

/- cmp.Compare[int] -/
def F_cmp_Compare_int (d : List G) : Option (List G) :=
  (callF (F_cmp_isNaN_int [.i (gi d 0).int]) fun g1 => (callF (F_cmp_isNaN_int [.i (gi d 1).int]) fun g2 => (bif (gi g1 0).bool then (bif (gi g2 0).bool then some [.i 0] else some [.i (-1)]) else (bif (gi g2 0).bool then some [.i 1] else (bif (ltI (gi d 0).int (gi d 1).int) then some [.i (-1)] else (bif (ltI (gi d 1).int (gi d 0).int) then some [.i 1] else some [.i 0]))))))
def s_cmp_Compare_int : FSpec := ⟨101, [.s (.int .i64), .s (.int .i64)], [], [], [.s (.int .i64)], [], [], [], F_cmp_Compare_int⟩
theorem b_cmp_Compare_int : BodyOK P t14 noLoops Tryz.f101 s_cmp_Compare_int := fun d => by kernel_rfl
theorem c_cmp_Compare_int : ∀ d r, F_cmp_Compare_int d = some r → ACallX P 101 (s_cmp_Compare_int.args0 d) (denH (s_cmp_Compare_int.H0 d)) (s_cmp_Compare_int.out r) (denH (s_cmp_Compare_int.H1 r)) := fun d r h => body_sound hm t14_ok (sp := s_cmp_Compare_int) Tryz.func101 (by kernel_rfl) (noLoops_ok _ _ _) b_cmp_Compare_int (by kernel_rfl) h
def t15 : Tab := t14.addP s_cmp_Compare_int
theorem t15_ok : TabOK P t15 := t14_ok.addP (by kernel_rfl) (by kernel_rfl) c_cmp_Compare_int

/- cmp.Or[int] -/
def st_cmp_Or_int_3 (d : List G) : Option (Option Nat × List G) :=
  (bif (ltI (gi d 3).int (gi d 2).int) then (bif ((nnI (gi d 3).int) && (ltI (gi d 3).int (((gi d 1).rows.length : Nat) : Int))) then (bif ((gi ((gi d 1).rows.getD (((gi d 3).int).toNat) []) 0).int != (gi d 0).int) then some (some 0, [.i (gi ((gi d 1).rows.getD (((gi d 3).int).toNat) []) 0).int]) else (bif (inI ((gi d 3).int + 1)) then some (none, [.i (gi d 0).int, .l (gi d 1).rows, .i (gi d 2).int, .i ((gi d 3).int + 1)]) else none)) else none) else some (some 1, [.i (gi d 0).int]))
def l_cmp_Or_int_3 : LSpec := ⟨3, [], ⟨18, [(3, .s (.int .i64)), (6, .s (.list [.int .i64])), (7, .s (.int .i64)), (8, .s (.int .i64))], []⟩, [], [⟨.ret, ⟨18, [(2, .s (.int .i64))], []⟩, []⟩, ⟨.exit 0, ⟨18, [(3, .s (.int .i64))], []⟩, []⟩], st_cmp_Or_int_3⟩
theorem r_cmp_Or_int_3 : RoundOK P t15 noLoops 0 (loopAt Tryz.f97 3) l_cmp_Or_int_3 := fun d => by kernel_rfl
def L_cmp_Or_int_3 : LT := noLoops.add 0 l_cmp_Or_int_3
theorem L_cmp_Or_int_3_ok : LoopsOK P 0 L_cmp_Or_int_3 (bodyOf Tryz.f97) := LoopsOK.add hm t15_ok (by kernel_rfl) (noLoops_ok _ _ _) r_cmp_Or_int_3
def F_cmp_Or_int (d : List G) : Option (List G) :=
  (loopB true (LRun st_cmp_Or_int_3 [.i 0, .l (gi d 0).rows, .i (((gi d 0).rows.length : Nat) : Int), .i 0]) fun cg1 g1 => (bif Nat.beq cg1 0 then some [.i (gi g1 0).int] else some [.i (gi g1 0).int]))
def s_cmp_Or_int : FSpec := ⟨97, [.s (.list [.int .i64])], [], [], [.s (.int .i64)], [], [], [], F_cmp_Or_int⟩
theorem b_cmp_Or_int : BodyOK P t15 L_cmp_Or_int_3 Tryz.f97 s_cmp_Or_int := fun d => by kernel_rfl
theorem c_cmp_Or_int : ∀ d r, F_cmp_Or_int d = some r → ACallX P 97 (s_cmp_Or_int.args0 d) (denH (s_cmp_Or_int.H0 d)) (s_cmp_Or_int.out r) (denH (s_cmp_Or_int.H1 r)) := fun d r h => body_sound hm t15_ok (sp := s_cmp_Or_int) Tryz.func97 (by kernel_rfl) L_cmp_Or_int_3_ok b_cmp_Or_int (by kernel_rfl) h
def t16 : Tab := t15.addP s_cmp_Or_int
theorem t16_ok : TabOK P t16 := t15_ok.addP (by kernel_rfl) (by kernel_rfl) c_cmp_Or_int

/- pileup/log.Compare -/
def F_log_Compare (d : List G) : Option (List G) :=
  (callF (F_cmp_Compare_int [.i (gi (gi d 0).row 0).int, .i (gi (gi d 1).row 0).int]) fun g1 => (callF (F_strings_Compare [.s (gi (gi d 0).row 3).str, .s (gi (gi d 1).row 3).str]) fun g2 => (callF (F_strings_Compare [.s (gi (gi d 0).row 2).str, .s (gi (gi d 1).row 2).str]) fun g3 => (callF (F_cmp_Compare_int [.i (gi (gi d 0).row 1).int, .i (gi (gi d 1).row 1).int]) fun g4 => (callF (F_cmp_Or_int [.l [[.i (gi g1 0).int], [.i (gi g2 0).int], [.i (gi g3 0).int], [.i (gi g4 0).int]]]) fun g5 => some [.i (gi g5 0).int])))))
def s_log_Compare : FSpec := ⟨87, [.s (.row KContact), .s (.row KContact)], [], [], [.s (.int .i64)], [], [], [], F_log_Compare⟩
theorem b_log_Compare : BodyOK P t16 noLoops Tryz.f87 s_log_Compare := fun d => by kernel_rfl
theorem c_log_Compare : ∀ d r, F_log_Compare d = some r → ACallX P 87 (s_log_Compare.args0 d) (denH (s_log_Compare.H0 d)) (s_log_Compare.out r) (denH (s_log_Compare.H1 r)) := fun d r h => body_sound hm t16_ok (sp := s_log_Compare) Tryz.func87 (by kernel_rfl) (noLoops_ok _ _ _) b_log_Compare (by kernel_rfl) h
def t17 : Tab := t16.addP s_log_Compare
theorem t17_ok : TabOK P t17 := t16_ok.addP (by kernel_rfl) (by kernel_rfl) c_log_Compare

/- pileup/log.CheckLog -/
def st_log_CheckLog_4 (d : List G) : Option (Option Nat × List G) :=
  (bif (ltI (gi d 3).int (gi d 2).int) then (bif ((nnI (gi d 3).int) && (ltI (gi d 3).int (((gi d 1).rows.length : Nat) : Int))) then (callF (F_log_CheckContact [.l [(gEta KContact ((gi d 1).rows.getD (((gi d 3).int).toNat) []))]]) fun g1 => (bif ((gi g1 0).int != 0) then some (some 0, [.i (gi g1 0).int]) else (bif (ltI 0 (gi d 3).int) then (bif (inI ((gi d 3).int - 1)) then (bif ((nnI ((gi d 3).int - 1)) && (ltI ((gi d 3).int - 1) (((gi d 0).rows.length : Nat) : Int))) then (callF (F_log_Compare [.l [(gEta KContact ((gi d 0).rows.getD (((gi d 3).int - 1).toNat) []))], .l [(gEta KContact ((gi d 1).rows.getD (((gi d 3).int).toNat) []))]]) fun g2 => (bif (leI 0 (gi g2 0).int) then some (some 0, [.i 7]) else (bif (inI ((gi d 3).int + 1)) then some (none, [.l (gi d 0).rows, .l (gi d 1).rows, .i (gi d 2).int, .i ((gi d 3).int + 1)]) else none))) else none) else none) else (bif (inI ((gi d 3).int + 1)) then some (none, [.l (gi d 0).rows, .l (gi d 1).rows, .i (gi d 2).int, .i ((gi d 3).int + 1)]) else none)))) else none) else some (some 1, []))
def l_log_CheckLog_4 : LSpec := ⟨4, [], ⟨34, [(0, .s (.list KContact)), (9, .s (.list KContact)), (10, .s (.int .i64)), (11, .s (.int .i64))], []⟩, [], [⟨.ret, ⟨34, [(2, .s (.int .i64))], []⟩, []⟩, ⟨.exit 0, ⟨34, [], []⟩, []⟩], st_log_CheckLog_4⟩
theorem r_log_CheckLog_4 : RoundOK P t17 noLoops 0 (loopAt Tryz.f55 4) l_log_CheckLog_4 := fun d => by kernel_rfl
def L_log_CheckLog_4 : LT := noLoops.add 0 l_log_CheckLog_4
theorem L_log_CheckLog_4_ok : LoopsOK P 0 L_log_CheckLog_4 (bodyOf Tryz.f55) := LoopsOK.add hm t17_ok (by kernel_rfl) (noLoops_ok _ _ _) r_log_CheckLog_4
def F_log_CheckLog (d : List G) : Option (List G) :=
  (bif (ltI 2000 (((gi d 0).rows.length : Nat) : Int)) then some [.i 2] else (loopB true (LRun st_log_CheckLog_4 [.l (gi d 0).rows, .l (gi d 0).rows, .i (((gi d 0).rows.length : Nat) : Int), .i 0]) fun cg3 g3 => (bif Nat.beq cg3 0 then some [.i (gi g3 0).int] else some [.i 0])))
def s_log_CheckLog : FSpec := ⟨55, [.s (.list KContact)], [], [], [.s (.int .i64)], [], [], [], F_log_CheckLog⟩
theorem b_log_CheckLog : BodyOK P t17 L_log_CheckLog_4 Tryz.f55 s_log_CheckLog := fun d => by kernel_rfl
theorem c_log_CheckLog : ∀ d r, F_log_CheckLog d = some r → ACallX P 55 (s_log_CheckLog.args0 d) (denH (s_log_CheckLog.H0 d)) (s_log_CheckLog.out r) (denH (s_log_CheckLog.H1 r)) := fun d r h => body_sound hm t17_ok (sp := s_log_CheckLog) Tryz.func55 (by kernel_rfl) L_log_CheckLog_4_ok b_log_CheckLog (by kernel_rfl) h
def t18 : Tab := t17.addP s_log_CheckLog
theorem t18_ok : TabOK P t18 := t17_ok.addP (by kernel_rfl) (by kernel_rfl) c_log_CheckLog

/- pileup/call.BaseOf -/
def F_call_BaseOf (d : List G) : Option (List G) :=
  (callF (F_call_Parts [.s (gi d 0).str]) fun g1 => some [.s (gi (gi g1 0).row 0).str])
def s_call_BaseOf : FSpec := ⟨45, [.s (.str)], [], [], [.s (.str)], [], [], [], F_call_BaseOf⟩
theorem b_call_BaseOf : BodyOK P t18 noLoops Tryz.f45 s_call_BaseOf := fun d => by kernel_rfl
theorem c_call_BaseOf : ∀ d r, F_call_BaseOf d = some r → ACallX P 45 (s_call_BaseOf.args0 d) (denH (s_call_BaseOf.H0 d)) (s_call_BaseOf.out r) (denH (s_call_BaseOf.H1 r)) := fun d r h => body_sound hm t18_ok (sp := s_call_BaseOf) Tryz.func45 (by kernel_rfl) (noLoops_ok _ _ _) b_call_BaseOf (by kernel_rfl) h
def t19 : Tab := t18.addP s_call_BaseOf
theorem t19_ok : TabOK P t19 := t18_ok.addP (by kernel_rfl) (by kernel_rfl) c_call_BaseOf

/- pileup/log.dupes -/
def st_log_dupes_4 (d : List G) : Option (Option Nat × List G) :=
  (bif (ltI (gi d 5).int (gi d 4).int) then (bif ((nnI (gi d 5).int) && (ltI (gi d 5).int (((gi d 3).rows.length : Nat) : Int))) then (callF (F_call_BaseOf [.s (gi ((gi d 3).rows.getD (((gi d 5).int).toNat) []) 3).str]) fun g1 => (bif (gi (mget [.str, .str, .int .i64] (gi d 0).rows [.s (gi g1 0).str, .s (gi ((gi d 3).rows.getD (((gi d 5).int).toNat) []) 2).str, .i (gi ((gi d 3).rows.getD (((gi d 5).int).toNat) []) 1).int] [.t false]) 0).bool then (bif ((Nat.beq (gi d 2).rows.length (gi d 2).rows.length) && (decide (((gi d 2).rows.length + 1) ≤ 1048576))) then (bif (inI ((gi d 5).int + 1)) then (bif ((Nat.beq ((gi d 2).rows ++ ([[.i (gi d 5).int]] : List (List G))).length ((gi d 2).rows ++ ([[.i (gi d 5).int]] : List (List G))).length) && true) then some (none, [.l (mput [.str, .str, .int .i64] (gi d 0).rows [.s (gi g1 0).str, .s (gi ((gi d 3).rows.getD (((gi d 5).int).toNat) []) 2).str, .i (gi ((gi d 3).rows.getD (((gi d 5).int).toNat) []) 1).int] [.t true] (gi d 1).int.toNat), .i (((mclk [.str, .str, .int .i64] (gi d 0).rows [.s (gi g1 0).str, .s (gi ((gi d 3).rows.getD (((gi d 5).int).toNat) []) 2).str, .i (gi ((gi d 3).rows.getD (((gi d 5).int).toNat) []) 1).int] (gi d 1).int.toNat) : Nat) : Int), .l ((gi d 2).rows ++ ([[.i (gi d 5).int]] : List (List G))), .l (gi d 3).rows, .i (gi d 4).int, .i ((gi d 5).int + 1)]) else none) else none) else none) else (bif (inI ((gi d 5).int + 1)) then (bif ((Nat.beq (gi d 2).rows.length (gi d 2).rows.length) && true) then some (none, [.l (mput [.str, .str, .int .i64] (gi d 0).rows [.s (gi g1 0).str, .s (gi ((gi d 3).rows.getD (((gi d 5).int).toNat) []) 2).str, .i (gi ((gi d 3).rows.getD (((gi d 5).int).toNat) []) 1).int] [.t true] (gi d 1).int.toNat), .i (((mclk [.str, .str, .int .i64] (gi d 0).rows [.s (gi g1 0).str, .s (gi ((gi d 3).rows.getD (((gi d 5).int).toNat) []) 2).str, .i (gi ((gi d 3).rows.getD (((gi d 5).int).toNat) []) 1).int] (gi d 1).int.toNat) : Nat) : Int), .l (gi d 2).rows, .l (gi d 3).rows, .i (gi d 4).int, .i ((gi d 5).int + 1)]) else none) else none))) else none) else (bif ((Nat.beq (gi d 2).rows.length (gi d 2).rows.length) && true) then some (some 0, [.l (gi d 2).rows]) else none))
def l_log_dupes_4 : LSpec := ⟨4, [(4, [.int .i64])], ⟨35, [(3, .s (.map 0)), (4, .s (.vec 1 1)), (9, .s (.list KContact)), (10, .s (.int .i64)), (11, .s (.int .i64))], [.map (.agg [.str, .str, .int .i64]) (.one (.bool)), .vec [.int .i64] 0]⟩, [.slot 3, .slot 4], [⟨.exit 0, ⟨35, [(4, .s (.vec 0 1))], [.vec [.int .i64] 0]⟩, [.slot 4]⟩], st_log_dupes_4⟩
theorem r_log_dupes_4 : RoundOK P t19 noLoops 0 (loopAt Tryz.f56 4) l_log_dupes_4 := fun d => by kernel_rfl
def L_log_dupes_4 : LT := noLoops.add 0 l_log_dupes_4
theorem L_log_dupes_4_ok : LoopsOK P 0 L_log_dupes_4 (bodyOf Tryz.f56) := LoopsOK.add hm t19_ok (by kernel_rfl) (noLoops_ok _ _ _) r_log_dupes_4
def F_log_dupes (d : List G) : Option (List G) :=
  (loopB true (LRun st_log_dupes_4 [.l [], .i 0, .l [], .l (gi d 0).rows, .i (((gi d 0).rows.length : Nat) : Int), .i 0]) fun cg2 g2 => (bif ((Nat.beq (gi g2 0).rows.length (gi g2 0).rows.length) && true) then some [.l (gi g2 0).rows] else none))
def s_log_dupes : FSpec := ⟨56, [.s (.list KContact)], [], [], [.s (.list [.int .i64])], [], [], [], F_log_dupes⟩
theorem b_log_dupes : BodyOK P t19 L_log_dupes_4 Tryz.f56 s_log_dupes := fun d => by kernel_rfl
theorem c_log_dupes : ∀ d r, F_log_dupes d = some r → ACallX P 56 (s_log_dupes.args0 d) (denH (s_log_dupes.H0 d)) (s_log_dupes.out r) (denH (s_log_dupes.H1 r)) := fun d r h => body_sound hm t19_ok (sp := s_log_dupes) Tryz.func56 (by kernel_rfl) L_log_dupes_4_ok b_log_dupes (by kernel_rfl) h
def t20 : Tab := t19.addP s_log_dupes
theorem t20_ok : TabOK P t20 := t19_ok.addP (by kernel_rfl) (by kernel_rfl) c_log_dupes

/- pileup/log.Dupes -/
def F_log_Dupes (d : List G) : Option (List G) :=
  (callF (F_log_CheckLog [.l (gi d 0).rows]) fun g1 => (bif ((gi g1 0).int != 0) then some [.l [], .i (gi g1 0).int] else (callF (F_log_dupes [.l (gi d 0).rows]) fun g2 => some [.l (gi g2 0).rows, .i 0])))
def s_log_Dupes : FSpec := ⟨31, [.s (.list KContact)], [], [], [.s (.list [.int .i64]), .s (.int .i64)], [], [], [], F_log_Dupes⟩
theorem b_log_Dupes : BodyOK P t20 noLoops Tryz.f31 s_log_Dupes := fun d => by kernel_rfl
theorem c_log_Dupes : ∀ d r, F_log_Dupes d = some r → ACallX P 31 (s_log_Dupes.args0 d) (denH (s_log_Dupes.H0 d)) (s_log_Dupes.out r) (denH (s_log_Dupes.H1 r)) := fun d r h => body_sound hm t20_ok (sp := s_log_Dupes) Tryz.func31 (by kernel_rfl) (noLoops_ok _ _ _) b_log_Dupes (by kernel_rfl) h
def t21 : Tab := t20.addP s_log_Dupes
theorem t21_ok : TabOK P t21 := t20_ok.addP (by kernel_rfl) (by kernel_rfl) c_log_Dupes

/- pileup/club.isSquare -/
def st_club_isSquare_4 (d : List G) : Option (Option Nat × List G) :=
  (bif (ltI (gi d 2).int (gi d 1).int) then (bif (inI (Int.tdiv (gi d 2).int 2)) then (bif ((Int.tdiv (gi d 2).int 2) == 1) then (bif ((nnI (gi d 2).int) && (ltI (gi d 2).int (((gi d 0).str.size : Nat) : Int))) then (bif (ltI (((gi d 0).str.data.toList.getD (((gi d 2).int).toNat) 0).toNat : Int) 48) then some (some 0, [.t false]) else (bif ((nnI (gi d 2).int) && (ltI (gi d 2).int (((gi d 0).str.size : Nat) : Int))) then (bif (ltI 57 (((gi d 0).str.data.toList.getD (((gi d 2).int).toNat) 0).toNat : Int)) then some (some 0, [.t false]) else (bif (inI ((gi d 2).int + 1)) then some (none, [.s (gi d 0).str, .i (gi d 1).int, .i ((gi d 2).int + 1)]) else none)) else none)) else none) else (bif ((Int.tdiv (gi d 2).int 2) == 2) then (bif ((nnI (gi d 2).int) && (ltI (gi d 2).int (((gi d 0).str.size : Nat) : Int))) then (bif (ltI (((gi d 0).str.data.toList.getD (((gi d 2).int).toNat) 0).toNat : Int) 97) then some (some 0, [.t false]) else (bif ((nnI (gi d 2).int) && (ltI (gi d 2).int (((gi d 0).str.size : Nat) : Int))) then (bif (ltI 120 (((gi d 0).str.data.toList.getD (((gi d 2).int).toNat) 0).toNat : Int)) then some (some 0, [.t false]) else (bif (inI ((gi d 2).int + 1)) then some (none, [.s (gi d 0).str, .i (gi d 1).int, .i ((gi d 2).int + 1)]) else none)) else none)) else none) else (bif ((nnI (gi d 2).int) && (ltI (gi d 2).int (((gi d 0).str.size : Nat) : Int))) then (bif (ltI (((gi d 0).str.data.toList.getD (((gi d 2).int).toNat) 0).toNat : Int) 97) then some (some 0, [.t false]) else (bif ((nnI (gi d 2).int) && (ltI (gi d 2).int (((gi d 0).str.size : Nat) : Int))) then (bif (ltI 114 (((gi d 0).str.data.toList.getD (((gi d 2).int).toNat) 0).toNat : Int)) then some (some 0, [.t false]) else (bif (inI ((gi d 2).int + 1)) then some (none, [.s (gi d 0).str, .i (gi d 1).int, .i ((gi d 2).int + 1)]) else none)) else none)) else none))) else none) else some (some 1, []))
def l_club_isSquare_4 : LSpec := ⟨4, [], ⟨43, [(0, .s (.str)), (20, .s (.int .i64)), (21, .s (.int .i64))], []⟩, [], [⟨.ret, ⟨43, [(2, .s (.bool))], []⟩, []⟩, ⟨.exit 0, ⟨43, [], []⟩, []⟩], st_club_isSquare_4⟩
theorem r_club_isSquare_4 : RoundOK P t21 noLoops 0 (loopAt Tryz.f133 4) l_club_isSquare_4 := fun d => by kernel_rfl
def L_club_isSquare_4 : LT := noLoops.add 0 l_club_isSquare_4
theorem L_club_isSquare_4_ok : LoopsOK P 0 L_club_isSquare_4 (bodyOf Tryz.f133) := LoopsOK.add hm t21_ok (by kernel_rfl) (noLoops_ok _ _ _) r_club_isSquare_4
def F_club_isSquare (d : List G) : Option (List G) :=
  (bif ((((gi d 0).str.size : Nat) : Int) != 2) then (bif ((((gi d 0).str.size : Nat) : Int) != 4) then (bif ((((gi d 0).str.size : Nat) : Int) != 6) then some [.t false] else (loopB true (LRun st_club_isSquare_4 [.s (gi d 0).str, .i (((gi d 0).str.size : Nat) : Int), .i 0]) fun cg1 g1 => (bif Nat.beq cg1 0 then some [.t (gi g1 0).bool] else some [.t true]))) else (loopB true (LRun st_club_isSquare_4 [.s (gi d 0).str, .i (((gi d 0).str.size : Nat) : Int), .i 0]) fun cg2 g2 => (bif Nat.beq cg2 0 then some [.t (gi g2 0).bool] else some [.t true]))) else (loopB true (LRun st_club_isSquare_4 [.s (gi d 0).str, .i (((gi d 0).str.size : Nat) : Int), .i 0]) fun cg3 g3 => (bif Nat.beq cg3 0 then some [.t (gi g3 0).bool] else some [.t true])))
def s_club_isSquare : FSpec := ⟨133, [.s (.str)], [], [], [.s (.bool)], [], [], [], F_club_isSquare⟩
theorem b_club_isSquare : BodyOK P t21 L_club_isSquare_4 Tryz.f133 s_club_isSquare := fun d => by kernel_rfl
theorem c_club_isSquare : ∀ d r, F_club_isSquare d = some r → ACallX P 133 (s_club_isSquare.args0 d) (denH (s_club_isSquare.H0 d)) (s_club_isSquare.out r) (denH (s_club_isSquare.H1 r)) := fun d r h => body_sound hm t21_ok (sp := s_club_isSquare) Tryz.func133 (by kernel_rfl) L_club_isSquare_4_ok b_club_isSquare (by kernel_rfl) h
def t22 : Tab := t21.addP s_club_isSquare
theorem t22_ok : TabOK P t22 := t21_ok.addP (by kernel_rfl) (by kernel_rfl) c_club_isSquare

/- pileup/club.isLocator -/
def F_club_isLocator (d : List G) : Option (List G) :=
  (bif ((((gi d 0).str.size : Nat) : Int) == 6) then (callF (F_club_isSquare [.s (gi d 0).str]) fun g1 => some [.t (gi g1 0).bool]) else some [.t false])
def s_club_isLocator : FSpec := ⟨96, [.s (.str)], [], [], [.s (.bool)], [], [], [], F_club_isLocator⟩
theorem b_club_isLocator : BodyOK P t22 noLoops Tryz.f96 s_club_isLocator := fun d => by kernel_rfl
theorem c_club_isLocator : ∀ d r, F_club_isLocator d = some r → ACallX P 96 (s_club_isLocator.args0 d) (denH (s_club_isLocator.H0 d)) (s_club_isLocator.out r) (denH (s_club_isLocator.H1 r)) := fun d r h => body_sound hm t22_ok (sp := s_club_isLocator) Tryz.func96 (by kernel_rfl) (noLoops_ok _ _ _) b_club_isLocator (by kernel_rfl) h
def t23 : Tab := t22.addP s_club_isLocator
theorem t23_ok : TabOK P t23 := t22_ok.addP (by kernel_rfl) (by kernel_rfl) c_club_isLocator

/- pileup/club.CheckEntrants -/
def st_club_CheckEntrants_4 (d : List G) : Option (Option Nat × List G) :=
  (bif (ltI (gi d 3).int (gi d 2).int) then (bif ((nnI (gi d 3).int) && (ltI (gi d 3).int (((gi d 1).rows.length : Nat) : Int))) then (callF (F_call_Is [.s (gi ((gi d 1).rows.getD (((gi d 3).int).toNat) []) 0).str]) fun g1 => (bif (!(gi g1 0).bool) then some (some 0, [.i 3]) else (callF (F_kit_IsKey [.s (gi ((gi d 1).rows.getD (((gi d 3).int).toNat) []) 1).str]) fun g2 => (bif (!(gi g2 0).bool) then some (some 0, [.i 5]) else (callF (F_kit_Outside [.i (gi ((gi d 1).rows.getD (((gi d 3).int).toNat) []) 2).int, .i 0, .i 1000000000000]) fun g3 => (bif (gi g3 0).bool then some (some 0, [.i 1]) else (bif (!((gi ((gi d 1).rows.getD (((gi d 3).int).toNat) []) 3).str.toList == (⟨#[]⟩ : ByteArray).toList)) then (callF (F_club_isLocator [.s (gi ((gi d 1).rows.getD (((gi d 3).int).toNat) []) 3).str]) fun g4 => (bif (!(gi g4 0).bool) then some (some 0, [.i 3]) else (bif (ltI 0 (gi d 3).int) then (bif (inI ((gi d 3).int - 1)) then (bif ((nnI ((gi d 3).int - 1)) && (ltI ((gi d 3).int - 1) (((gi d 0).rows.length : Nat) : Int))) then (callF (F_strings_Compare [.s (gi ((gi d 0).rows.getD (((gi d 3).int - 1).toNat) []) 1).str, .s (gi ((gi d 1).rows.getD (((gi d 3).int).toNat) []) 1).str]) fun g5 => (bif (inI ((gi d 3).int - 1)) then (bif ((nnI ((gi d 3).int - 1)) && (ltI ((gi d 3).int - 1) (((gi d 0).rows.length : Nat) : Int))) then (callF (F_strings_Compare [.s (gi ((gi d 0).rows.getD (((gi d 3).int - 1).toNat) []) 0).str, .s (gi ((gi d 1).rows.getD (((gi d 3).int).toNat) []) 0).str]) fun g6 => (callF (F_cmp_Or_int [.l [[.i (gi g5 0).int], [.i (gi g6 0).int]]]) fun g7 => (bif (leI 0 (gi g7 0).int) then some (some 0, [.i 7]) else (bif (inI ((gi d 3).int + 1)) then some (none, [.l (gi d 0).rows, .l (gi d 1).rows, .i (gi d 2).int, .i ((gi d 3).int + 1)]) else none)))) else none) else none)) else none) else none) else (bif (inI ((gi d 3).int + 1)) then some (none, [.l (gi d 0).rows, .l (gi d 1).rows, .i (gi d 2).int, .i ((gi d 3).int + 1)]) else none)))) else (bif (ltI 0 (gi d 3).int) then (bif (inI ((gi d 3).int - 1)) then (bif ((nnI ((gi d 3).int - 1)) && (ltI ((gi d 3).int - 1) (((gi d 0).rows.length : Nat) : Int))) then (callF (F_strings_Compare [.s (gi ((gi d 0).rows.getD (((gi d 3).int - 1).toNat) []) 1).str, .s (gi ((gi d 1).rows.getD (((gi d 3).int).toNat) []) 1).str]) fun g8 => (bif (inI ((gi d 3).int - 1)) then (bif ((nnI ((gi d 3).int - 1)) && (ltI ((gi d 3).int - 1) (((gi d 0).rows.length : Nat) : Int))) then (callF (F_strings_Compare [.s (gi ((gi d 0).rows.getD (((gi d 3).int - 1).toNat) []) 0).str, .s (gi ((gi d 1).rows.getD (((gi d 3).int).toNat) []) 0).str]) fun g9 => (callF (F_cmp_Or_int [.l [[.i (gi g8 0).int], [.i (gi g9 0).int]]]) fun g10 => (bif (leI 0 (gi g10 0).int) then some (some 0, [.i 7]) else (bif (inI ((gi d 3).int + 1)) then some (none, [.l (gi d 0).rows, .l (gi d 1).rows, .i (gi d 2).int, .i ((gi d 3).int + 1)]) else none)))) else none) else none)) else none) else none) else (bif (inI ((gi d 3).int + 1)) then some (none, [.l (gi d 0).rows, .l (gi d 1).rows, .i (gi d 2).int, .i ((gi d 3).int + 1)]) else none))))))))) else none) else some (some 1, []))
def l_club_CheckEntrants_4 : LSpec := ⟨4, [], ⟨66, [(0, .s (.list KMember)), (8, .s (.list KMember)), (9, .s (.int .i64)), (10, .s (.int .i64))], []⟩, [], [⟨.ret, ⟨66, [(2, .s (.int .i64))], []⟩, []⟩, ⟨.exit 0, ⟨66, [], []⟩, []⟩], st_club_CheckEntrants_4⟩
theorem r_club_CheckEntrants_4 : RoundOK P t23 noLoops 0 (loopAt Tryz.f66 4) l_club_CheckEntrants_4 := fun d => by kernel_rfl
def L_club_CheckEntrants_4 : LT := noLoops.add 0 l_club_CheckEntrants_4
theorem L_club_CheckEntrants_4_ok : LoopsOK P 0 L_club_CheckEntrants_4 (bodyOf Tryz.f66) := LoopsOK.add hm t23_ok (by kernel_rfl) (noLoops_ok _ _ _) r_club_CheckEntrants_4
def F_club_CheckEntrants (d : List G) : Option (List G) :=
  (bif (ltI 500 (((gi d 0).rows.length : Nat) : Int)) then some [.i 2] else (loopB true (LRun st_club_CheckEntrants_4 [.l (gi d 0).rows, .l (gi d 0).rows, .i (((gi d 0).rows.length : Nat) : Int), .i 0]) fun cg11 g11 => (bif Nat.beq cg11 0 then some [.i (gi g11 0).int] else some [.i 0])))
def s_club_CheckEntrants : FSpec := ⟨66, [.s (.list KMember)], [], [], [.s (.int .i64)], [], [], [], F_club_CheckEntrants⟩
theorem b_club_CheckEntrants : BodyOK P t23 L_club_CheckEntrants_4 Tryz.f66 s_club_CheckEntrants := fun d => by kernel_rfl
theorem c_club_CheckEntrants : ∀ d r, F_club_CheckEntrants d = some r → ACallX P 66 (s_club_CheckEntrants.args0 d) (denH (s_club_CheckEntrants.H0 d)) (s_club_CheckEntrants.out r) (denH (s_club_CheckEntrants.H1 r)) := fun d r h => body_sound hm t23_ok (sp := s_club_CheckEntrants) Tryz.func66 (by kernel_rfl) L_club_CheckEntrants_4_ok b_club_CheckEntrants (by kernel_rfl) h
def t24 : Tab := t23.addP s_club_CheckEntrants
theorem t24_ok : TabOK P t24 := t23_ok.addP (by kernel_rfl) (by kernel_rfl) c_club_CheckEntrants

/- math/bits.Len64 -/
def tl_bits_Len64_10 (d : List G) : Option (Option Nat × List G) :=
  (bif ((nnI (IntKind.u8.wrap ((gi d 0).int))) && (ltI (IntKind.u8.wrap ((gi d 0).int)) 256)) then (bif (inI (((⟨#[0, 1, 2, 2, 3, 3, 3, 3, 4, 4, 4, 4, 4, 4, 4, 4, 5, 5, 5, 5, 5, 5, 5, 5, 5, 5, 5, 5, 5, 5, 5, 5, 6, 6, 6, 6, 6, 6, 6, 6, 6, 6, 6, 6, 6, 6, 6, 6, 6, 6, 6, 6, 6, 6, 6, 6, 6, 6, 6, 6, 6, 6, 6, 6, 7, 7, 7, 7, 7, 7, 7, 7, 7, 7, 7, 7, 7, 7, 7, 7, 7, 7, 7, 7, 7, 7, 7, 7, 7, 7, 7, 7, 7, 7, 7, 7, 7, 7, 7, 7, 7, 7, 7, 7, 7, 7, 7, 7, 7, 7, 7, 7, 7, 7, 7, 7, 7, 7, 7, 7, 7, 7, 7, 7, 7, 7, 7, 7, 8, 8, 8, 8, 8, 8, 8, 8, 8, 8, 8, 8, 8, 8, 8, 8, 8, 8, 8, 8, 8, 8, 8, 8, 8, 8, 8, 8, 8, 8, 8, 8, 8, 8, 8, 8, 8, 8, 8, 8, 8, 8, 8, 8, 8, 8, 8, 8, 8, 8, 8, 8, 8, 8, 8, 8, 8, 8, 8, 8, 8, 8, 8, 8, 8, 8, 8, 8, 8, 8, 8, 8, 8, 8, 8, 8, 8, 8, 8, 8, 8, 8, 8, 8, 8, 8, 8, 8, 8, 8, 8, 8, 8, 8, 8, 8, 8, 8, 8, 8, 8, 8, 8, 8, 8, 8, 8, 8, 8, 8, 8, 8, 8, 8, 8, 8, 8, 8, 8, 8, 8, 8, 8, 8, 8, 8, 8, 8]⟩ : ByteArray).data.toList.getD ((IntKind.u8.wrap ((gi d 0).int)).toNat) 0).toNat : Int)) then (bif (inI ((gi d 1).int + (((⟨#[0, 1, 2, 2, 3, 3, 3, 3, 4, 4, 4, 4, 4, 4, 4, 4, 5, 5, 5, 5, 5, 5, 5, 5, 5, 5, 5, 5, 5, 5, 5, 5, 6, 6, 6, 6, 6, 6, 6, 6, 6, 6, 6, 6, 6, 6, 6, 6, 6, 6, 6, 6, 6, 6, 6, 6, 6, 6, 6, 6, 6, 6, 6, 6, 7, 7, 7, 7, 7, 7, 7, 7, 7, 7, 7, 7, 7, 7, 7, 7, 7, 7, 7, 7, 7, 7, 7, 7, 7, 7, 7, 7, 7, 7, 7, 7, 7, 7, 7, 7, 7, 7, 7, 7, 7, 7, 7, 7, 7, 7, 7, 7, 7, 7, 7, 7, 7, 7, 7, 7, 7, 7, 7, 7, 7, 7, 7, 7, 8, 8, 8, 8, 8, 8, 8, 8, 8, 8, 8, 8, 8, 8, 8, 8, 8, 8, 8, 8, 8, 8, 8, 8, 8, 8, 8, 8, 8, 8, 8, 8, 8, 8, 8, 8, 8, 8, 8, 8, 8, 8, 8, 8, 8, 8, 8, 8, 8, 8, 8, 8, 8, 8, 8, 8, 8, 8, 8, 8, 8, 8, 8, 8, 8, 8, 8, 8, 8, 8, 8, 8, 8, 8, 8, 8, 8, 8, 8, 8, 8, 8, 8, 8, 8, 8, 8, 8, 8, 8, 8, 8, 8, 8, 8, 8, 8, 8, 8, 8, 8, 8, 8, 8, 8, 8, 8, 8, 8, 8, 8, 8, 8, 8, 8, 8, 8, 8, 8, 8, 8, 8, 8, 8, 8, 8, 8, 8]⟩ : ByteArray).data.toList.getD ((IntKind.u8.wrap ((gi d 0).int)).toNat) 0).toNat : Int))) then some (some 0, [.i ((gi d 1).int + (((⟨#[0, 1, 2, 2, 3, 3, 3, 3, 4, 4, 4, 4, 4, 4, 4, 4, 5, 5, 5, 5, 5, 5, 5, 5, 5, 5, 5, 5, 5, 5, 5, 5, 6, 6, 6, 6, 6, 6, 6, 6, 6, 6, 6, 6, 6, 6, 6, 6, 6, 6, 6, 6, 6, 6, 6, 6, 6, 6, 6, 6, 6, 6, 6, 6, 7, 7, 7, 7, 7, 7, 7, 7, 7, 7, 7, 7, 7, 7, 7, 7, 7, 7, 7, 7, 7, 7, 7, 7, 7, 7, 7, 7, 7, 7, 7, 7, 7, 7, 7, 7, 7, 7, 7, 7, 7, 7, 7, 7, 7, 7, 7, 7, 7, 7, 7, 7, 7, 7, 7, 7, 7, 7, 7, 7, 7, 7, 7, 7, 8, 8, 8, 8, 8, 8, 8, 8, 8, 8, 8, 8, 8, 8, 8, 8, 8, 8, 8, 8, 8, 8, 8, 8, 8, 8, 8, 8, 8, 8, 8, 8, 8, 8, 8, 8, 8, 8, 8, 8, 8, 8, 8, 8, 8, 8, 8, 8, 8, 8, 8, 8, 8, 8, 8, 8, 8, 8, 8, 8, 8, 8, 8, 8, 8, 8, 8, 8, 8, 8, 8, 8, 8, 8, 8, 8, 8, 8, 8, 8, 8, 8, 8, 8, 8, 8, 8, 8, 8, 8, 8, 8, 8, 8, 8, 8, 8, 8, 8, 8, 8, 8, 8, 8, 8, 8, 8, 8, 8, 8, 8, 8, 8, 8, 8, 8, 8, 8, 8, 8, 8, 8, 8, 8, 8, 8, 8, 8]⟩ : ByteArray).data.toList.getD ((IntKind.u8.wrap ((gi d 0).int)).toNat) 0).toNat : Int))]) else none) else none) else none)
def l_bits_Len64_10c : LSpec := ⟨10, [], ⟨25, [(0, .s (.int .u64)), (2, .s (.int .i64))], []⟩, [], [⟨.ret, ⟨25, [(2, .s (.int .i64))], []⟩, []⟩], tl_bits_Len64_10⟩
theorem r_bits_Len64_10c : CutOK P t24 noLoops 0 (cutAt Tryz.f150 10) l_bits_Len64_10c := fun d => by kernel_rfl
def L_bits_Len64_10c : LT := noLoops.addCut 0 l_bits_Len64_10c
theorem L_bits_Len64_10c_ok : LoopsOK P 0 L_bits_Len64_10c (bodyOf Tryz.f150) := LoopsOK.addCut hm t24_ok (by kernel_rfl) (noLoops_ok _ _ _) r_bits_Len64_10c
def F_bits_Len64 (d : List G) : Option (List G) :=
  (bif (leI 4294967296 (gi d 0).int) then (bif (leI 65536 (shrI .u64 (gi d 0).int 32)) then (bif (leI 256 (shrI .u64 (shrI .u64 (gi d 0).int 32) 16)) then (loopB true (cutR (tl_bits_Len64_10 [.i (shrI .u64 (shrI .u64 (shrI .u64 (gi d 0).int 32) 16) 8), .i 56])) fun cg1 g1 => some [.i (gi g1 0).int]) else (loopB true (cutR (tl_bits_Len64_10 [.i (shrI .u64 (shrI .u64 (gi d 0).int 32) 16), .i 48])) fun cg2 g2 => some [.i (gi g2 0).int])) else (bif (leI 256 (shrI .u64 (gi d 0).int 32)) then (loopB true (cutR (tl_bits_Len64_10 [.i (shrI .u64 (shrI .u64 (gi d 0).int 32) 8), .i 40])) fun cg3 g3 => some [.i (gi g3 0).int]) else (loopB true (cutR (tl_bits_Len64_10 [.i (shrI .u64 (gi d 0).int 32), .i 32])) fun cg4 g4 => some [.i (gi g4 0).int]))) else (bif (leI 65536 (gi d 0).int) then (bif (leI 256 (shrI .u64 (gi d 0).int 16)) then (loopB true (cutR (tl_bits_Len64_10 [.i (shrI .u64 (shrI .u64 (gi d 0).int 16) 8), .i 24])) fun cg5 g5 => some [.i (gi g5 0).int]) else (loopB true (cutR (tl_bits_Len64_10 [.i (shrI .u64 (gi d 0).int 16), .i 16])) fun cg6 g6 => some [.i (gi g6 0).int])) else (bif (leI 256 (gi d 0).int) then (loopB true (cutR (tl_bits_Len64_10 [.i (shrI .u64 (gi d 0).int 8), .i 8])) fun cg7 g7 => some [.i (gi g7 0).int]) else (loopB true (cutR (tl_bits_Len64_10 [.i (gi d 0).int, .i 0])) fun cg8 g8 => some [.i (gi g8 0).int]))))
def s_bits_Len64 : FSpec := ⟨150, [.s (.int .u64)], [], [], [.s (.int .i64)], [], [], [], F_bits_Len64⟩
theorem b_bits_Len64 : BodyOK P t24 L_bits_Len64_10c Tryz.f150 s_bits_Len64 := fun d => by kernel_rfl
theorem c_bits_Len64 : ∀ d r, F_bits_Len64 d = some r → ACallX P 150 (s_bits_Len64.args0 d) (denH (s_bits_Len64.H0 d)) (s_bits_Len64.out r) (denH (s_bits_Len64.H1 r)) := fun d r h => body_sound hm t24_ok (sp := s_bits_Len64) Tryz.func150 (by kernel_rfl) L_bits_Len64_10c_ok b_bits_Len64 (by kernel_rfl) h
def t25 : Tab := t24.addP s_bits_Len64
theorem t25_ok : TabOK P t25 := t24_ok.addP (by kernel_rfl) (by kernel_rfl) c_bits_Len64

/- math/bits.Len -/
def F_bits_Len (d : List G) : Option (List G) :=
  (callF (F_bits_Len64 [.i (gi d 0).int]) fun g1 => some [.i (gi g1 0).int])
def s_bits_Len : FSpec := ⟨109, [.s (.int .u64)], [], [], [.s (.int .i64)], [], [], [], F_bits_Len⟩
theorem b_bits_Len : BodyOK P t25 noLoops Tryz.f109 s_bits_Len := fun d => by kernel_rfl
theorem c_bits_Len : ∀ d r, F_bits_Len d = some r → ACallX P 109 (s_bits_Len.args0 d) (denH (s_bits_Len.H0 d)) (s_bits_Len.out r) (denH (s_bits_Len.H1 r)) := fun d r h => body_sound hm t25_ok (sp := s_bits_Len) Tryz.func109 (by kernel_rfl) (noLoops_ok _ _ _) b_bits_Len (by kernel_rfl) h
def t26 : Tab := t25.addP s_bits_Len
theorem t26_ok : TabOK P t26 := t25_ok.addP (by kernel_rfl) (by kernel_rfl) c_bits_Len

/- pileup/club.ranked$1 -/
def F_club_ranked_1 (d : List G) : Option (List G) :=
  (callF (F_cmp_Compare_int [.i (gi (gi d 1).row 1).int, .i (gi (gi d 0).row 1).int]) fun g1 => (callF (F_strings_Compare [.s (gi (gi d 0).row 2).str, .s (gi (gi d 1).row 2).str]) fun g2 => (callF (F_cmp_Or_int [.l [[.i (gi g1 0).int], [.i (gi g2 0).int]]]) fun g3 => some [.i (gi g3 0).int])))
def s_club_ranked_1 : FSpec := ⟨100, [.s (.row KPlace), .s (.row KPlace)], [], [], [.s (.int .i64)], [], [], [], F_club_ranked_1⟩
theorem b_club_ranked_1 : BodyOK P t26 noLoops Tryz.f100 s_club_ranked_1 := fun d => by kernel_rfl
theorem c_club_ranked_1 : ∀ d r, F_club_ranked_1 d = some r → ACallX P 100 (s_club_ranked_1.args0 d) (denH (s_club_ranked_1.H0 d)) (s_club_ranked_1.out r) (denH (s_club_ranked_1.H1 r)) := fun d r h => body_sound hm t26_ok (sp := s_club_ranked_1) Tryz.func100 (by kernel_rfl) (noLoops_ok _ _ _) b_club_ranked_1 (by kernel_rfl) h
def t27 : Tab := t26.addP s_club_ranked_1
theorem t27_ok : TabOK P t27 := t26_ok.addP (by kernel_rfl) (by kernel_rfl) c_club_ranked_1

/- slices.insertionSortCmpFunc[pileup/api.Place] -/
def st_slices_insertionSortCmpFunc_Place_4 (d : List G) : Option (Option Nat × List G) :=
  (bif (ltI (gi d 1).int (gi d 4).int) then (bif ((nnI (gi d 4).int) && (ltI (gi d 4).int (((gi d 0).rows.length : Nat) : Int))) then (bif (decide ((0 + ((gi d 4).int).toNat) < (gi d 0).rows.length)) then (bif (inI ((gi d 4).int - 1)) then (bif ((nnI ((gi d 4).int - 1)) && (ltI ((gi d 4).int - 1) (((gi d 0).rows.length : Nat) : Int))) then (bif (decide ((0 + ((gi d 4).int - 1).toNat) < (gi d 0).rows.length)) then (callF (F_club_ranked_1 [.l [(gEta KPlace ((gi d 0).rows.getD (0 + ((gi d 4).int).toNat) []))], .l [(gEta KPlace ((gi d 0).rows.getD (0 + ((gi d 4).int - 1).toNat) []))]]) fun g1 => (bif (ltI (gi g1 0).int 0) then (bif (inI ((gi d 4).int - 1)) then (bif (inI ((gi d 4).int - 1)) then (bif ((nnI ((gi d 4).int - 1)) && (ltI ((gi d 4).int - 1) (((gi d 0).rows.length : Nat) : Int))) then (bif (decide ((0 + ((gi d 4).int - 1).toNat) < (gi d 0).rows.length)) then (bif ((nnI (gi d 4).int) && (ltI (gi d 4).int (((gi d 0).rows.length : Nat) : Int))) then (bif (decide ((0 + ((gi d 4).int).toNat) < (gi d 0).rows.length)) then (bif ((nnI (gi d 4).int) && (ltI (gi d 4).int (((gi d 0).rows.length : Nat) : Int))) then (bif (decide ((0 + ((gi d 4).int).toNat) < (gi d 0).rows.length)) then (bif ((nnI ((gi d 4).int - 1)) && (ltI ((gi d 4).int - 1) (((gi d 0).rows.length : Nat) : Int))) then (bif (decide ((0 + ((gi d 4).int - 1).toNat) < ((gi d 0).rows.set (0 + ((gi d 4).int).toNat) (putG KPlace ((gi d 0).rows.getD (0 + ((gi d 4).int).toNat) []) 0 (gEta KPlace ((gi d 0).rows.getD (0 + ((gi d 4).int - 1).toNat) [])))).length)) then (bif (inI ((gi d 4).int - 1)) then (bif ((Nat.beq (gi d 0).rows.length (((gi d 0).rows.set (0 + ((gi d 4).int).toNat) (putG KPlace ((gi d 0).rows.getD (0 + ((gi d 4).int).toNat) []) 0 (gEta KPlace ((gi d 0).rows.getD (0 + ((gi d 4).int - 1).toNat) [])))).set (0 + ((gi d 4).int - 1).toNat) (putG KPlace (((gi d 0).rows.set (0 + ((gi d 4).int).toNat) (putG KPlace ((gi d 0).rows.getD (0 + ((gi d 4).int).toNat) []) 0 (gEta KPlace ((gi d 0).rows.getD (0 + ((gi d 4).int - 1).toNat) [])))).getD (0 + ((gi d 4).int - 1).toNat) []) 0 (gEta KPlace ((gi d 0).rows.getD (0 + ((gi d 4).int).toNat) [])))).length) && true) then some (none, [.l (((gi d 0).rows.set (0 + ((gi d 4).int).toNat) (putG KPlace ((gi d 0).rows.getD (0 + ((gi d 4).int).toNat) []) 0 (gEta KPlace ((gi d 0).rows.getD (0 + ((gi d 4).int - 1).toNat) [])))).set (0 + ((gi d 4).int - 1).toNat) (putG KPlace (((gi d 0).rows.set (0 + ((gi d 4).int).toNat) (putG KPlace ((gi d 0).rows.getD (0 + ((gi d 4).int).toNat) []) 0 (gEta KPlace ((gi d 0).rows.getD (0 + ((gi d 4).int - 1).toNat) [])))).getD (0 + ((gi d 4).int - 1).toNat) []) 0 (gEta KPlace ((gi d 0).rows.getD (0 + ((gi d 4).int).toNat) [])))), .i (gi d 1).int, .i (gi d 2).int, .i (gi d 3).int, .i ((gi d 4).int - 1)]) else none) else none) else none) else none) else none) else none) else none) else none) else none) else none) else none) else none) else (bif ((Nat.beq (gi d 0).rows.length (gi d 0).rows.length) && true) then some (some 0, [.l (gi d 0).rows, .i (gi d 1).int, .i (gi d 2).int, .i (gi d 3).int]) else none))) else none) else none) else none) else none) else none) else (bif ((Nat.beq (gi d 0).rows.length (gi d 0).rows.length) && true) then some (some 0, [.l (gi d 0).rows, .i (gi d 1).int, .i (gi d 2).int, .i (gi d 3).int]) else none))
def l_slices_insertionSortCmpFunc_Place_4 : LSpec := ⟨4, [], ⟨53, [(0, .s (.vec 0 3)), (1, .s (.int .i64)), (2, .s (.int .i64)), (3, .s (.fn 100)), (8, .s (.int .i64)), (9, .s (.int .i64))], [.vec KPlace 0]⟩, [.fix 0], [⟨.exit 2, ⟨53, [(0, .s (.vec 0 3)), (1, .s (.int .i64)), (2, .s (.int .i64)), (3, .s (.fn 100)), (8, .s (.int .i64))], [.vec KPlace 0]⟩, [.fix 0]⟩], st_slices_insertionSortCmpFunc_Place_4⟩
theorem r_slices_insertionSortCmpFunc_Place_4 : RoundOK P t27 noLoops 1 (loopAt Tryz.f165 4) l_slices_insertionSortCmpFunc_Place_4 := fun d => by kernel_rfl
def L_slices_insertionSortCmpFunc_Place_4 : LT := noLoops.add 1 l_slices_insertionSortCmpFunc_Place_4
theorem L_slices_insertionSortCmpFunc_Place_4_ok : LoopsOK P 1 L_slices_insertionSortCmpFunc_Place_4 (bodyOf Tryz.f165) := LoopsOK.add hm t27_ok (by kernel_rfl) (noLoops_ok _ _ _) r_slices_insertionSortCmpFunc_Place_4
def st_slices_insertionSortCmpFunc_Place_1 (d : List G) : Option (Option Nat × List G) :=
  (bif (ltI (gi d 3).int (gi d 2).int) then (loopB ((Nat.beq (gi d 0).rows.length (gi d 0).rows.length) && true) (LRun st_slices_insertionSortCmpFunc_Place_4 [.l (gi d 0).rows, .i (gi d 1).int, .i (gi d 2).int, .i (gi d 3).int, .i (gi d 3).int]) fun cg2 g2 => (bif (inI ((gi g2 3).int + 1)) then (bif ((Nat.beq (gi g2 0).rows.length (gi g2 0).rows.length) && true) then some (none, [.l (gi g2 0).rows, .i (gi g2 1).int, .i (gi g2 2).int, .i ((gi g2 3).int + 1)]) else none) else none)) else some (some 0, [.l (gi d 0).rows]))
def l_slices_insertionSortCmpFunc_Place_1 : LSpec := ⟨1, [], ⟨53, [(0, .s (.vec 0 3)), (1, .s (.int .i64)), (2, .s (.int .i64)), (3, .s (.fn 100)), (8, .s (.int .i64))], [.vec KPlace 0]⟩, [.fix 0], [⟨.exit 0, ⟨53, [], [.vec KPlace 0]⟩, [.fix 0]⟩], st_slices_insertionSortCmpFunc_Place_1⟩
theorem r_slices_insertionSortCmpFunc_Place_1 : RoundOK P t27 L_slices_insertionSortCmpFunc_Place_4 1 (loopAt Tryz.f165 1) l_slices_insertionSortCmpFunc_Place_1 := fun d => by kernel_rfl
def L_slices_insertionSortCmpFunc_Place_1 : LT := L_slices_insertionSortCmpFunc_Place_4.add 1 l_slices_insertionSortCmpFunc_Place_1
theorem L_slices_insertionSortCmpFunc_Place_1_ok : LoopsOK P 1 L_slices_insertionSortCmpFunc_Place_1 (bodyOf Tryz.f165) := LoopsOK.add hm t27_ok (by kernel_rfl) L_slices_insertionSortCmpFunc_Place_4_ok r_slices_insertionSortCmpFunc_Place_1
def F_slices_insertionSortCmpFunc_Place (d : List G) : Option (List G) :=
  (bif (inI ((gi d 1).int + 1)) then (loopB ((Nat.beq (gi d 0).rows.length (gi d 0).rows.length) && true) (LRun st_slices_insertionSortCmpFunc_Place_1 [.l (gi d 0).rows, .i (gi d 1).int, .i (gi d 2).int, .i ((gi d 1).int + 1)]) fun cg3 g3 => some [.l (gi g3 0).rows]) else none)
def s_slices_insertionSortCmpFunc_Place : FSpec := ⟨165, [.s (.vec 0 3), .s (.int .i64), .s (.int .i64), .s (.fn 100)], [.vec KPlace 0], [.slot 0], [], [.vec KPlace 0], [.fix 0], [], F_slices_insertionSortCmpFunc_Place⟩
theorem b_slices_insertionSortCmpFunc_Place : BodyOK P t27 L_slices_insertionSortCmpFunc_Place_1 Tryz.f165 s_slices_insertionSortCmpFunc_Place := fun d => by kernel_rfl
theorem c_slices_insertionSortCmpFunc_Place : ∀ d r, F_slices_insertionSortCmpFunc_Place d = some r → ACallX P 165 (s_slices_insertionSortCmpFunc_Place.args0 d) (denH (s_slices_insertionSortCmpFunc_Place.H0 d)) (s_slices_insertionSortCmpFunc_Place.out r) (denH (s_slices_insertionSortCmpFunc_Place.H1 r)) := fun d r h => body_sound hm t27_ok (sp := s_slices_insertionSortCmpFunc_Place) Tryz.func165 (by kernel_rfl) L_slices_insertionSortCmpFunc_Place_1_ok b_slices_insertionSortCmpFunc_Place (by kernel_rfl) h
def t28 : Tab := t27.addW s_slices_insertionSortCmpFunc_Place
theorem t28_ok : TabOK P t28 := t27_ok.addW (by kernel_rfl) (by kernel_rfl) c_slices_insertionSortCmpFunc_Place

/- slices.pdqsortCmpFunc[pileup/api.Place] -/
/- not followed: a call of slices.breakPatternsCmpFunc[pileup/api.Place] at zsortanyfunc.go:85; a call of slices.choosePivotCmpFunc[pileup/api.Place] at zsortanyfunc.go:89; a call of slices.heapSortCmpFunc[pileup/api.Place] at zsortanyfunc.go:79 -/
def st_slices_pdqsortCmpFunc_Place_2 (d : List G) : Option (Option Nat × List G) :=
  (bif (inI ((gi d 2).int - (gi d 1).int)) then (bif (leI ((gi d 2).int - (gi d 1).int) 12) then (callB (((Nat.beq (gi d 0).rows.length (gi d 0).rows.length) && true) && (F_slices_insertionSortCmpFunc_Place [.l (gi d 0).rows, .i (gi d 1).int, .i (gi d 2).int]).isSome) (F_slices_insertionSortCmpFunc_Place [.l (gi d 0).rows, .i (gi d 1).int, .i (gi d 2).int]) fun g1 => some (some 0, [.l (gi g1 0).rows])) else (bif ((gi d 3).int == 0) then none else (bif (!(gi d 4).bool) then none else none))) else none)
def l_slices_pdqsortCmpFunc_Place_2 : LSpec := ⟨2, [], ⟨148, [(0, .s (.vec 0 3)), (1, .s (.int .i64)), (2, .s (.int .i64)), (3, .s (.int .i64)), (4, .s (.fn 100)), (10, .s (.bool)), (11, .s (.bool))], [.vec KPlace 0]⟩, [.fix 0], [⟨.ret, ⟨148, [], [.vec KPlace 0]⟩, [.fix 0]⟩], st_slices_pdqsortCmpFunc_Place_2⟩
theorem r_slices_pdqsortCmpFunc_Place_2 : RoundOK P t28 noLoops 1 (loopAt Tryz.f135 2) l_slices_pdqsortCmpFunc_Place_2 := fun d => by kernel_rfl
def L_slices_pdqsortCmpFunc_Place_2 : LT := noLoops.add 1 l_slices_pdqsortCmpFunc_Place_2
theorem L_slices_pdqsortCmpFunc_Place_2_ok : LoopsOK P 1 L_slices_pdqsortCmpFunc_Place_2 (bodyOf Tryz.f135) := LoopsOK.add hm t28_ok (by kernel_rfl) (noLoops_ok _ _ _) r_slices_pdqsortCmpFunc_Place_2
def F_slices_pdqsortCmpFunc_Place (d : List G) : Option (List G) :=
  (loopB ((Nat.beq (gi d 0).rows.length (gi d 0).rows.length) && true) (LRun st_slices_pdqsortCmpFunc_Place_2 [.l (gi d 0).rows, .i (gi d 1).int, .i (gi d 2).int, .i (gi d 3).int, .t true, .t true]) fun cg2 g2 => some [.l (gi g2 0).rows])
def s_slices_pdqsortCmpFunc_Place : FSpec := ⟨135, [.s (.vec 0 3), .s (.int .i64), .s (.int .i64), .s (.int .i64), .s (.fn 100)], [.vec KPlace 0], [.slot 0], [], [.vec KPlace 0], [.fix 0], [], F_slices_pdqsortCmpFunc_Place⟩
theorem b_slices_pdqsortCmpFunc_Place : BodyOK P t28 L_slices_pdqsortCmpFunc_Place_2 Tryz.f135 s_slices_pdqsortCmpFunc_Place := fun d => by kernel_rfl
theorem c_slices_pdqsortCmpFunc_Place : ∀ d r, F_slices_pdqsortCmpFunc_Place d = some r → ACallX P 135 (s_slices_pdqsortCmpFunc_Place.args0 d) (denH (s_slices_pdqsortCmpFunc_Place.H0 d)) (s_slices_pdqsortCmpFunc_Place.out r) (denH (s_slices_pdqsortCmpFunc_Place.H1 r)) := fun d r h => body_sound hm t28_ok (sp := s_slices_pdqsortCmpFunc_Place) Tryz.func135 (by kernel_rfl) L_slices_pdqsortCmpFunc_Place_2_ok b_slices_pdqsortCmpFunc_Place (by kernel_rfl) h
def t29 : Tab := t28.addW s_slices_pdqsortCmpFunc_Place
theorem t29_ok : TabOK P t29 := t28_ok.addW (by kernel_rfl) (by kernel_rfl) c_slices_pdqsortCmpFunc_Place

/- slices.SortFunc[[]pileup/api.Place,pileup/api.Place] -/
def F_slices_SortFunc_Place (d : List G) : Option (List G) :=
  (callF (F_bits_Len [.i (IntKind.u64.wrap (((gi d 0).rows.length : Nat) : Int))]) fun g1 => (callB (((Nat.beq (gi d 0).rows.length (gi d 0).rows.length) && true) && (F_slices_pdqsortCmpFunc_Place [.l (gi d 0).rows, .i 0, .i (((gi d 0).rows.length : Nat) : Int), .i (gi g1 0).int]).isSome) (F_slices_pdqsortCmpFunc_Place [.l (gi d 0).rows, .i 0, .i (((gi d 0).rows.length : Nat) : Int), .i (gi g1 0).int]) fun g2 => some [.l (gi g2 0).rows]))
def s_slices_SortFunc_Place : FSpec := ⟨99, [.s (.vec 0 3), .s (.fn 100)], [.vec KPlace 0], [.slot 0], [], [.vec KPlace 0], [.fix 0], [], F_slices_SortFunc_Place⟩
theorem b_slices_SortFunc_Place : BodyOK P t29 noLoops Tryz.f99 s_slices_SortFunc_Place := fun d => by kernel_rfl
theorem c_slices_SortFunc_Place : ∀ d r, F_slices_SortFunc_Place d = some r → ACallX P 99 (s_slices_SortFunc_Place.args0 d) (denH (s_slices_SortFunc_Place.H0 d)) (s_slices_SortFunc_Place.out r) (denH (s_slices_SortFunc_Place.H1 r)) := fun d r h => body_sound hm t29_ok (sp := s_slices_SortFunc_Place) Tryz.func99 (by kernel_rfl) (noLoops_ok _ _ _) b_slices_SortFunc_Place (by kernel_rfl) h
def t30 : Tab := t29.addW s_slices_SortFunc_Place
theorem t30_ok : TabOK P t30 := t29_ok.addW (by kernel_rfl) (by kernel_rfl) c_slices_SortFunc_Place

/- pileup/club.ranked -/
def tl_club_ranked_7 (d : List G) : Option (Option Nat × List G) :=
  (bif (gi d 4).bool then (bif (inI ((gi d 1).int - 1)) then (bif ((nnI ((gi d 1).int - 1)) && (ltI ((gi d 1).int - 1) (((gi d 0).rows.length : Nat) : Int))) then (bif (decide ((0 + ((gi d 1).int - 1).toNat) < (gi d 0).rows.length)) then (bif ((nnI (gi d 1).int) && (ltI (gi d 1).int (((gi d 0).rows.length : Nat) : Int))) then (bif (decide ((0 + ((gi d 1).int).toNat) < (gi d 0).rows.length)) then (bif ((Nat.beq (gi d 0).rows.length ((gi d 0).rows.set (0 + ((gi d 1).int).toNat) (putG KPlace ((gi d 0).rows.getD (0 + ((gi d 1).int).toNat) []) 0 [.i (gi ((gi d 0).rows.getD (0 + ((gi d 1).int - 1).toNat) []) 0).int])).length) && true) then some (some 0, [.l ((gi d 0).rows.set (0 + ((gi d 1).int).toNat) (putG KPlace ((gi d 0).rows.getD (0 + ((gi d 1).int).toNat) []) 0 [.i (gi ((gi d 0).rows.getD (0 + ((gi d 1).int - 1).toNat) []) 0).int])), .i (gi d 2).int, .i (gi d 3).int]) else none) else none) else none) else none) else none) else none) else (bif ((Nat.beq (gi d 0).rows.length (gi d 0).rows.length) && true) then some (some 0, [.l (gi d 0).rows, .i (gi d 2).int, .i (gi d 3).int]) else none))
def l_club_ranked_7c : LSpec := ⟨7, [], ⟨45, [(0, .s (.vec 0 3)), (3, .s (.int .i64)), (7, .s (.int .i64)), (8, .s (.int .i64)), (32, .s (.bool))], [.vec KPlace 0]⟩, [.fix 0], [⟨.normal, ⟨45, [(0, .s (.vec 0 3)), (7, .s (.int .i64)), (8, .s (.int .i64))], [.vec KPlace 0]⟩, [.fix 0]⟩], tl_club_ranked_7⟩
theorem r_club_ranked_7c : CutOK P t30 noLoops 1 (cutAt Tryz.f67 7) l_club_ranked_7c := fun d => by kernel_rfl
def L_club_ranked_7c : LT := noLoops.addCut 1 l_club_ranked_7c
theorem L_club_ranked_7c_ok : LoopsOK P 1 L_club_ranked_7c (bodyOf Tryz.f67) := LoopsOK.addCut hm t30_ok (by kernel_rfl) (noLoops_ok _ _ _) r_club_ranked_7c
def st_club_ranked_3 (d : List G) : Option (Option Nat × List G) :=
  (bif (ltI (gi d 2).int (gi d 1).int) then (bif (inI ((gi d 2).int + 1)) then (bif ((nnI (gi d 2).int) && (ltI (gi d 2).int (((gi d 0).rows.length : Nat) : Int))) then (bif (decide ((0 + ((gi d 2).int).toNat) < (gi d 0).rows.length)) then (bif (ltI 0 (gi d 2).int) then (bif ((nnI (gi d 2).int) && (ltI (gi d 2).int (((gi d 0).rows.length : Nat) : Int))) then (bif (decide ((0 + ((gi d 2).int).toNat) < ((gi d 0).rows.set (0 + ((gi d 2).int).toNat) (putG KPlace ((gi d 0).rows.getD (0 + ((gi d 2).int).toNat) []) 0 [.i ((gi d 2).int + 1)])).length)) then (bif (inI ((gi d 2).int - 1)) then (bif ((nnI ((gi d 2).int - 1)) && (ltI ((gi d 2).int - 1) (((gi d 0).rows.length : Nat) : Int))) then (bif (decide ((0 + ((gi d 2).int - 1).toNat) < ((gi d 0).rows.set (0 + ((gi d 2).int).toNat) (putG KPlace ((gi d 0).rows.getD (0 + ((gi d 2).int).toNat) []) 0 [.i ((gi d 2).int + 1)])).length)) then (loopB ((Nat.beq (gi d 0).rows.length ((gi d 0).rows.set (0 + ((gi d 2).int).toNat) (putG KPlace ((gi d 0).rows.getD (0 + ((gi d 2).int).toNat) []) 0 [.i ((gi d 2).int + 1)])).length) && true) (cutR (tl_club_ranked_7 [.l ((gi d 0).rows.set (0 + ((gi d 2).int).toNat) (putG KPlace ((gi d 0).rows.getD (0 + ((gi d 2).int).toNat) []) 0 [.i ((gi d 2).int + 1)])), .i (gi d 2).int, .i (gi d 1).int, .i (gi d 2).int, .t ((gi (((gi d 0).rows.set (0 + ((gi d 2).int).toNat) (putG KPlace ((gi d 0).rows.getD (0 + ((gi d 2).int).toNat) []) 0 [.i ((gi d 2).int + 1)])).getD (0 + ((gi d 2).int).toNat) []) 1).int == (gi (((gi d 0).rows.set (0 + ((gi d 2).int).toNat) (putG KPlace ((gi d 0).rows.getD (0 + ((gi d 2).int).toNat) []) 0 [.i ((gi d 2).int + 1)])).getD (0 + ((gi d 2).int - 1).toNat) []) 1).int)])) fun cg2 g2 => (bif (inI ((gi g2 2).int + 1)) then (bif ((Nat.beq (gi g2 0).rows.length (gi g2 0).rows.length) && true) then some (none, [.l (gi g2 0).rows, .i (gi g2 1).int, .i ((gi g2 2).int + 1)]) else none) else none)) else none) else none) else none) else none) else none) else (loopB ((Nat.beq (gi d 0).rows.length ((gi d 0).rows.set (0 + ((gi d 2).int).toNat) (putG KPlace ((gi d 0).rows.getD (0 + ((gi d 2).int).toNat) []) 0 [.i ((gi d 2).int + 1)])).length) && true) (cutR (tl_club_ranked_7 [.l ((gi d 0).rows.set (0 + ((gi d 2).int).toNat) (putG KPlace ((gi d 0).rows.getD (0 + ((gi d 2).int).toNat) []) 0 [.i ((gi d 2).int + 1)])), .i (gi d 2).int, .i (gi d 1).int, .i (gi d 2).int, .t false])) fun cg3 g3 => (bif (inI ((gi g3 2).int + 1)) then (bif ((Nat.beq (gi g3 0).rows.length (gi g3 0).rows.length) && true) then some (none, [.l (gi g3 0).rows, .i (gi g3 1).int, .i ((gi g3 2).int + 1)]) else none) else none))) else none) else none) else none) else (bif ((Nat.beq (gi d 0).rows.length (gi d 0).rows.length) && true) then some (some 0, [.l (gi d 0).rows]) else none))
def l_club_ranked_3 : LSpec := ⟨3, [], ⟨45, [(0, .s (.vec 0 3)), (7, .s (.int .i64)), (8, .s (.int .i64))], [.vec KPlace 0]⟩, [.fix 0], [⟨.exit 0, ⟨45, [(0, .s (.vec 0 3))], [.vec KPlace 0]⟩, [.fix 0]⟩], st_club_ranked_3⟩
theorem r_club_ranked_3 : RoundOK P t30 L_club_ranked_7c 1 (loopAt Tryz.f67 3) l_club_ranked_3 := fun d => by kernel_rfl
def L_club_ranked_3 : LT := L_club_ranked_7c.add 1 l_club_ranked_3
theorem L_club_ranked_3_ok : LoopsOK P 1 L_club_ranked_3 (bodyOf Tryz.f67) := LoopsOK.add hm t30_ok (by kernel_rfl) L_club_ranked_7c_ok r_club_ranked_3
def F_club_ranked (d : List G) : Option (List G) :=
  (callB (((Nat.beq (gi d 0).rows.length (gi d 0).rows.length) && true) && (F_slices_SortFunc_Place [.l (gi d 0).rows]).isSome) (F_slices_SortFunc_Place [.l (gi d 0).rows]) fun g1 => (loopB ((Nat.beq (gi d 0).rows.length (gi g1 0).rows.length) && true) (LRun st_club_ranked_3 [.l (gi g1 0).rows, .i (((gi d 0).rows.length : Nat) : Int), .i 0]) fun cg4 g4 => (bif ((Nat.beq (gi g4 0).rows.length (gi g4 0).rows.length) && true) then some [.l (gi g4 0).rows] else none)))
def s_club_ranked : FSpec := ⟨67, [.s (.vec 0 3)], [.vec KPlace 0], [.slot 0], [.s (.vec 0 3)], [.vec KPlace 0], [.fix 0], [], F_club_ranked⟩
theorem b_club_ranked : BodyOK P t30 L_club_ranked_3 Tryz.f67 s_club_ranked := fun d => by kernel_rfl
theorem c_club_ranked : ∀ d r, F_club_ranked d = some r → ACallX P 67 (s_club_ranked.args0 d) (denH (s_club_ranked.H0 d)) (s_club_ranked.out r) (denH (s_club_ranked.H1 r)) := fun d r h => body_sound hm t30_ok (sp := s_club_ranked) Tryz.func67 (by kernel_rfl) L_club_ranked_3_ok b_club_ranked (by kernel_rfl) h
def t31 : Tab := t30.addW s_club_ranked
theorem t31_ok : TabOK P t31 := t30_ok.addW (by kernel_rfl) (by kernel_rfl) c_club_ranked

/- pileup/club.Table -/
def st_club_Table_8 (d : List G) : Option (Option Nat × List G) :=
  (bif (ltI (gi d 4).int (gi d 3).int) then (bif ((nnI (gi d 4).int) && (ltI (gi d 4).int (((gi d 2).rows.length : Nat) : Int))) then (bif ((gi ((gi d 2).rows.getD (((gi d 4).int).toNat) []) 1).str.toList == (gi d 1).str.toList) then (bif ((Nat.beq (gi d 0).rows.length (gi d 0).rows.length) && (decide (((gi d 0).rows.length + 1) ≤ 1048576))) then (bif (inI ((gi d 4).int + 1)) then (bif ((Nat.beq ((gi d 0).rows ++ ([[.i 0, .i (gi ((gi d 2).rows.getD (((gi d 4).int).toNat) []) 2).int, .s (gi ((gi d 2).rows.getD (((gi d 4).int).toNat) []) 0).str]] : List (List G))).length ((gi d 0).rows ++ ([[.i 0, .i (gi ((gi d 2).rows.getD (((gi d 4).int).toNat) []) 2).int, .s (gi ((gi d 2).rows.getD (((gi d 4).int).toNat) []) 0).str]] : List (List G))).length) && true) then some (none, [.l ((gi d 0).rows ++ ([[.i 0, .i (gi ((gi d 2).rows.getD (((gi d 4).int).toNat) []) 2).int, .s (gi ((gi d 2).rows.getD (((gi d 4).int).toNat) []) 0).str]] : List (List G))), .s (gi d 1).str, .l (gi d 2).rows, .i (gi d 3).int, .i ((gi d 4).int + 1)]) else none) else none) else none) else (bif (inI ((gi d 4).int + 1)) then (bif ((Nat.beq (gi d 0).rows.length (gi d 0).rows.length) && true) then some (none, [.l (gi d 0).rows, .s (gi d 1).str, .l (gi d 2).rows, .i (gi d 3).int, .i ((gi d 4).int + 1)]) else none) else none)) else none) else (bif ((Nat.beq (gi d 0).rows.length (gi d 0).rows.length) && true) then some (some 0, [.l (gi d 0).rows]) else none))
def l_club_Table_8 : LSpec := ⟨8, [(7, KPlace)], ⟨39, [(1, .s (.str)), (7, .s (.vec 0 3)), (18, .s (.list KMember)), (19, .s (.int .i64)), (20, .s (.int .i64))], [.vec KPlace 0]⟩, [.slot 7], [⟨.exit 0, ⟨39, [(7, .s (.vec 0 3))], [.vec KPlace 0]⟩, [.slot 7]⟩], st_club_Table_8⟩
theorem r_club_Table_8 : RoundOK P t31 noLoops 0 (loopAt Tryz.f33 8) l_club_Table_8 := fun d => by kernel_rfl
def L_club_Table_8 : LT := noLoops.add 0 l_club_Table_8
theorem L_club_Table_8_ok : LoopsOK P 0 L_club_Table_8 (bodyOf Tryz.f33) := LoopsOK.add hm t31_ok (by kernel_rfl) (noLoops_ok _ _ _) r_club_Table_8
def F_club_Table (d : List G) : Option (List G) :=
  (callF (F_club_CheckEntrants [.l (gi d 0).rows]) fun g1 => (bif ((gi g1 0).int != 0) then some [.l [], .i (gi g1 0).int] else (callF (F_kit_IsKey [.s (gi d 1).str]) fun g2 => (bif (!(gi g2 0).bool) then some [.l [], .i 5] else (loopB true (LRun st_club_Table_8 [.l [], .s (gi d 1).str, .l (gi d 0).rows, .i (((gi d 0).rows.length : Nat) : Int), .i 0]) fun cg3 g3 => (callB (((Nat.beq (gi g3 0).rows.length (gi g3 0).rows.length) && true) && (F_club_ranked [.l (gi g3 0).rows]).isSome) (F_club_ranked [.l (gi g3 0).rows]) fun g4 => (bif ((Nat.beq (gi g4 0).rows.length (gi g4 0).rows.length) && true) then some [.l (gi g4 0).rows, .i 0] else none)))))))
def s_club_Table : FSpec := ⟨33, [.s (.list KMember), .s (.str)], [], [], [.s (.list KPlace), .s (.int .i64)], [], [], [], F_club_Table⟩
theorem b_club_Table : BodyOK P t31 L_club_Table_8 Tryz.f33 s_club_Table := fun d => by kernel_rfl
theorem c_club_Table : ∀ d r, F_club_Table d = some r → ACallX P 33 (s_club_Table.args0 d) (denH (s_club_Table.H0 d)) (s_club_Table.out r) (denH (s_club_Table.H1 r)) := fun d r h => body_sound hm t31_ok (sp := s_club_Table) Tryz.func33 (by kernel_rfl) L_club_Table_8_ok b_club_Table (by kernel_rfl) h
def t32 : Tab := t31.addP s_club_Table
theorem t32_ok : TabOK P t32 := t31_ok.addP (by kernel_rfl) (by kernel_rfl) c_club_Table

/- slices.Reverse[[]int,int] -/
def st_slices_Reverse_int_1 (d : List G) : Option (Option Nat × List G) :=
  (bif (ltI (gi d 1).int (gi d 2).int) then (bif ((nnI (gi d 2).int) && (ltI (gi d 2).int (((gi d 0).rows.length : Nat) : Int))) then (bif (decide ((0 + ((gi d 2).int).toNat) < (gi d 0).rows.length)) then (bif ((nnI (gi d 1).int) && (ltI (gi d 1).int (((gi d 0).rows.length : Nat) : Int))) then (bif (decide ((0 + ((gi d 1).int).toNat) < (gi d 0).rows.length)) then (bif ((nnI (gi d 1).int) && (ltI (gi d 1).int (((gi d 0).rows.length : Nat) : Int))) then (bif (decide ((0 + ((gi d 1).int).toNat) < (gi d 0).rows.length)) then (bif ((nnI (gi d 2).int) && (ltI (gi d 2).int (((gi d 0).rows.length : Nat) : Int))) then (bif (decide ((0 + ((gi d 2).int).toNat) < ((gi d 0).rows.set (0 + ((gi d 1).int).toNat) (putG [.int .i64] ((gi d 0).rows.getD (0 + ((gi d 1).int).toNat) []) 0 [.i (gi ((gi d 0).rows.getD (0 + ((gi d 2).int).toNat) []) 0).int])).length)) then (bif (inI ((gi d 1).int + 1)) then (bif (inI ((gi d 2).int - 1)) then (bif ((Nat.beq (gi d 0).rows.length (((gi d 0).rows.set (0 + ((gi d 1).int).toNat) (putG [.int .i64] ((gi d 0).rows.getD (0 + ((gi d 1).int).toNat) []) 0 [.i (gi ((gi d 0).rows.getD (0 + ((gi d 2).int).toNat) []) 0).int])).set (0 + ((gi d 2).int).toNat) (putG [.int .i64] (((gi d 0).rows.set (0 + ((gi d 1).int).toNat) (putG [.int .i64] ((gi d 0).rows.getD (0 + ((gi d 1).int).toNat) []) 0 [.i (gi ((gi d 0).rows.getD (0 + ((gi d 2).int).toNat) []) 0).int])).getD (0 + ((gi d 2).int).toNat) []) 0 [.i (gi ((gi d 0).rows.getD (0 + ((gi d 1).int).toNat) []) 0).int])).length) && true) then some (none, [.l (((gi d 0).rows.set (0 + ((gi d 1).int).toNat) (putG [.int .i64] ((gi d 0).rows.getD (0 + ((gi d 1).int).toNat) []) 0 [.i (gi ((gi d 0).rows.getD (0 + ((gi d 2).int).toNat) []) 0).int])).set (0 + ((gi d 2).int).toNat) (putG [.int .i64] (((gi d 0).rows.set (0 + ((gi d 1).int).toNat) (putG [.int .i64] ((gi d 0).rows.getD (0 + ((gi d 1).int).toNat) []) 0 [.i (gi ((gi d 0).rows.getD (0 + ((gi d 2).int).toNat) []) 0).int])).getD (0 + ((gi d 2).int).toNat) []) 0 [.i (gi ((gi d 0).rows.getD (0 + ((gi d 1).int).toNat) []) 0).int])), .i ((gi d 1).int + 1), .i ((gi d 2).int - 1)]) else none) else none) else none) else none) else none) else none) else none) else none) else none) else none) else none) else some (some 0, [.l (gi d 0).rows]))
def l_slices_Reverse_int_1 : LSpec := ⟨1, [], ⟨28, [(0, .s (.vec 0 1)), (2, .s (.int .i64)), (3, .s (.int .i64))], [.vec [.int .i64] 0]⟩, [.fix 0], [⟨.exit 0, ⟨28, [], [.vec [.int .i64] 0]⟩, [.fix 0]⟩], st_slices_Reverse_int_1⟩
theorem r_slices_Reverse_int_1 : RoundOK P t32 noLoops 1 (loopAt Tryz.f176 1) l_slices_Reverse_int_1 := fun d => by kernel_rfl
def L_slices_Reverse_int_1 : LT := noLoops.add 1 l_slices_Reverse_int_1
theorem L_slices_Reverse_int_1_ok : LoopsOK P 1 L_slices_Reverse_int_1 (bodyOf Tryz.f176) := LoopsOK.add hm t32_ok (by kernel_rfl) (noLoops_ok _ _ _) r_slices_Reverse_int_1
def F_slices_Reverse_int (d : List G) : Option (List G) :=
  (bif (inI ((((gi d 0).rows.length : Nat) : Int) - 1)) then (loopB ((Nat.beq (gi d 0).rows.length (gi d 0).rows.length) && true) (LRun st_slices_Reverse_int_1 [.l (gi d 0).rows, .i 0, .i ((((gi d 0).rows.length : Nat) : Int) - 1)]) fun cg1 g1 => some [.l (gi g1 0).rows]) else none)
def s_slices_Reverse_int : FSpec := ⟨176, [.s (.vec 0 1)], [.vec [.int .i64] 0], [.slot 0], [], [.vec [.int .i64] 0], [.fix 0], [], F_slices_Reverse_int⟩
theorem b_slices_Reverse_int : BodyOK P t32 L_slices_Reverse_int_1 Tryz.f176 s_slices_Reverse_int := fun d => by kernel_rfl
theorem c_slices_Reverse_int : ∀ d r, F_slices_Reverse_int d = some r → ACallX P 176 (s_slices_Reverse_int.args0 d) (denH (s_slices_Reverse_int.H0 d)) (s_slices_Reverse_int.out r) (denH (s_slices_Reverse_int.H1 r)) := fun d r h => body_sound hm t32_ok (sp := s_slices_Reverse_int) Tryz.func176 (by kernel_rfl) L_slices_Reverse_int_1_ok b_slices_Reverse_int (by kernel_rfl) h
def t33 : Tab := t32.addW s_slices_Reverse_int
theorem t33_ok : TabOK P t33 := t32_ok.addW (by kernel_rfl) (by kernel_rfl) c_slices_Reverse_int

/- (*pileup/net.state).holders -/
def sr_net_state_holders_2 (r d : List G) : Option (List G) :=
  (bif (inI ((gi (mget [.int .i64] (gi d 6).rows [.i (gi (gi r 0).row 1).int] [.i 0]) 0).int + 1)) then (bif ((((Nat.beq (gi d 3).rows.length (gi d 3).rows.length) && true) && true) && true) then some [.l (gi d 0).rows, .l (gi d 1).rows, .l (gi d 2).rows, .l (gi d 3).rows, .l (gi d 4).rows, .i (((gi d 5).int.toNat : Nat) : Int), .l (mput [.int .i64] (gi d 6).rows [.i (gi (gi r 0).row 1).int] [.i ((gi (mget [.int .i64] (gi d 6).rows [.i (gi (gi r 0).row 1).int] [.i 0]) 0).int + 1)] (gi d 7).int.toNat), .i (((mclk [.int .i64] (gi d 6).rows [.i (gi (gi r 0).row 1).int] (gi d 7).int.toNat) : Nat) : Int), .i (((gi d 8).int.toNat : Nat) : Int)] else none) else none)
def ri_net_state_holders_2 (d : List G) (b : Nat) : List G := [.l (gi d 0).rows, .l (gi d 1).rows, .l (gi d 2).rows, .l (gi d 3).rows, .l (gi d 4).rows, .i (((gi d 5).int.toNat : Nat) : Int), .l (gi d 6).rows, .i (((gi d 7).int.toNat : Nat) : Int), .i (b : Int)]
def rb_net_state_holders_2 (d : List G) (b : Nat) : Bool := ((((Nat.beq (gi d 3).rows.length (gi d 3).rows.length) && true) && true) && true)
def rs_net_state_holders_2 : RSpec := ⟨⟨21, [(3, .s (.map 3)), (10, .s (.addr))], [.box [.vec 1 15, .list KContact, .list [.str], .list [.int .i64], .map 2], .vec KDeed 0, .map (.agg [.str, .int .i64]) (.one (.bool)), .map (.one (.int .i64)) (.one (.int .i64))]⟩, [.fix 0, .cell 0 0, .cell 0 4, .slot 3], [], (.agg [.str, .int .i64]), (.one (.bool)), 2, 0, 9, 10, 11, 12, 13, fun d => (gi d 8).int.toNat, ri_net_state_holders_2, rb_net_state_holders_2, sr_net_state_holders_2⟩
theorem w_net_state_holders_2 : RRound P t33 noLoops 3 rs_net_state_holders_2 (rOps2 (cutAt Tryz.f105 2)) (rBody (cutAt Tryz.f105 2)) := fun r d => by kernel_rfl
def tr_net_state_holders_2 (d : List G) : Option (Option Nat × List G) :=
  (bif ((((Nat.beq (gi d 3).rows.length (gi d 3).rows.length) && true) && true) && true) then some (some 0, [.l (gi d 0).rows, .l (gi d 1).rows, .l (gi d 2).rows, .l (gi d 3).rows, .l (gi d 4).rows, .i (((gi d 5).int.toNat : Nat) : Int), .l (gi d 6).rows, .i (((gi d 7).int.toNat : Nat) : Int)]) else none)
def l_net_state_holders_2r : LSpec := ⟨6, [], ⟨21, [(3, .s (.map 3)), (10, .s (.addr))], [.box [.vec 1 15, .list KContact, .list [.str], .list [.int .i64], .map 2], .vec KDeed 0, .map (.agg [.str, .int .i64]) (.one (.bool)), .map (.one (.int .i64)) (.one (.int .i64))]⟩, [], [⟨.ret, ⟨21, [(2, .s (.map 3))], [.box [.vec 1 15, .list KContact, .list [.str], .list [.int .i64], .map 2], .vec KDeed 0, .map (.agg [.str, .int .i64]) (.one (.bool)), .map (.one (.int .i64)) (.one (.int .i64))]⟩, [.fix 0, .cell 0 0, .cell 0 4, .slot 2]⟩], tr_net_state_holders_2⟩
theorem v_net_state_holders_2 : CutOK P t33 noLoops 3 (rRest (cutAt Tryz.f105 2)) l_net_state_holders_2r := fun d => by kernel_rfl
def tl_net_state_holders_2 (d : List G) : Option (Option Nat × List G) :=
  rangeR rs_net_state_holders_2 tr_net_state_holders_2 (gi d 4).rows ((gi d 5).int.toNat) d
def l_net_state_holders_2c : LSpec := ⟨2, [], ⟨21, [(0, .s (.ptr 0 0)), (3, .s (.map 3))], [.box [.vec 1 15, .list KContact, .list [.str], .list [.int .i64], .map 2], .vec KDeed 0, .map (.agg [.str, .int .i64]) (.one (.bool)), .map (.one (.int .i64)) (.one (.int .i64))]⟩, [.fix 0, .cell 0 0, .cell 0 4, .slot 3], [⟨.ret, ⟨21, [(2, .s (.map 3))], [.box [.vec 1 15, .list KContact, .list [.str], .list [.int .i64], .map 2], .vec KDeed 0, .map (.agg [.str, .int .i64]) (.one (.bool)), .map (.one (.int .i64)) (.one (.int .i64))]⟩, [.fix 0, .cell 0 0, .cell 0 4, .slot 2]⟩], tl_net_state_holders_2⟩
def L_net_state_holders_2c : LT := noLoops.addCut 3 l_net_state_holders_2c
theorem k_net_state_holders_2 : ∀ r d d', sr_net_state_holders_2 r d = some d' → (gi d' 4).rows = (gi d 4).rows ∧ (gi d' 5).int.toNat = (gi d 5).int.toNat := by
  intro r d d' h
  unfold sr_net_state_holders_2 at h
  simp only [Bool.cond_eq_ite] at h
  repeat' split at h
  all_goals first | (cases h; done) | (cases h; exact ⟨rfl, rfl⟩)
theorem L_net_state_holders_2c_ok : LoopsOK P 3 L_net_state_holders_2c (bodyOf Tryz.f105) := LoopsOK.addRangeK (q := l_net_state_holders_2c) (qr := l_net_state_holders_2r) (sp := rs_net_state_holders_2) (r0 := 2) (b0 := 0) (r1 := 3) (b1 := 1) (r2 := 4) (rows := fun d => (gi d 4).rows) (clock := fun d => (gi d 5).int.toNat) (pre := fun d => preOf P t33 (rOps0 (cutAt Tryz.f105 2)) (mkSt l_net_state_holders_2c.inv d)) (ri := fun d => (gi d 4).rows) (ci := fun d => (gi d 5).int.toNat) hm t33_ok (fun d => by kernel_rfl) k_net_state_holders_2 (by kernel_rfl) (by kernel_rfl) (noLoops_ok _ _ _) (by kernel_rfl) (by kernel_rfl) w_net_state_holders_2 (fun d => by kernel_rfl) (fun d => by kernel_rfl) (fun d => by kernel_rfl) (fun d => by kernel_rfl) (fun d => by kernel_rfl) (fun d => by kernel_rfl) (fun d b => by kernel_rfl) (fun d b => rfl) (fun d b => ⟨rfl, rfl⟩) rfl rfl v_net_state_holders_2 (fun d => rfl)
def F_net_state_holders (d : List G) : Option (List G) :=
  (loopB ((((Nat.beq (gi d 3).rows.length (gi d 3).rows.length) && true) && true) && true) (cutR (tl_net_state_holders_2 [.l (gi d 0).rows, .l (gi d 1).rows, .l (gi d 2).rows, .l (gi d 3).rows, .l (gi d 4).rows, .i (((gi d 5).int.toNat : Nat) : Int), .l [], .i 0])) fun cg1 g1 => (bif ((((Nat.beq (gi g1 3).rows.length (gi g1 3).rows.length) && true) && true) && true) then some [.l (gi g1 0).rows, .l (gi g1 1).rows, .l (gi g1 2).rows, .l (gi g1 3).rows, .l (gi g1 4).rows, .i (((gi g1 5).int.toNat : Nat) : Int), .l (gi g1 6).rows, .i (((gi g1 7).int.toNat : Nat) : Int)] else none))
def s_net_state_holders : FSpec := ⟨105, [.s (.ptr 0 0)], [.box [.vec 1 15, .list KContact, .list [.str], .list [.int .i64], .map 2], .vec KDeed 0, .map (.agg [.str, .int .i64]) (.one (.bool))], [.slot 0, .cell 0 0, .cell 0 4], [.s (.map 3)], [.box [.vec 1 15, .list KContact, .list [.str], .list [.int .i64], .map 2], .vec KDeed 0, .map (.agg [.str, .int .i64]) (.one (.bool)), .map (.one (.int .i64)) (.one (.int .i64))], [.fix 0, .fix 1, .fix 2, .slot 0], [], F_net_state_holders⟩
theorem b_net_state_holders : BodyOK P t33 L_net_state_holders_2c Tryz.f105 s_net_state_holders := fun d => by kernel_rfl
theorem c_net_state_holders : ∀ d r, F_net_state_holders d = some r → ACallX P 105 (s_net_state_holders.args0 d) (denH (s_net_state_holders.H0 d)) (s_net_state_holders.out r) (denH (s_net_state_holders.H1 r)) := fun d r h => body_sound hm t33_ok (sp := s_net_state_holders) Tryz.func105 (by kernel_rfl) L_net_state_holders_2c_ok b_net_state_holders (by kernel_rfl) h
def t34 : Tab := t33.addW s_net_state_holders
theorem t34_ok : TabOK P t34 := t33_ok.addW (by kernel_rfl) (by kernel_rfl) c_net_state_holders

/- pileup/pilekeep2.ready -/
theorem bw_pilekeep2_ready : BwFact P ⟨203, 82, 81, 15, 15, true⟩ := bwFact_of Tryz.func203 (by kernel_rfl) rfl rfl rfl ⟨⟨_, _, _, _, _, _, rfl, ⟨rfl, rfl, rfl⟩, ⟨rfl, rfl, rfl⟩, ⟨rfl, rfl, rfl⟩, ⟨rfl, rfl, rfl⟩⟩, ⟨_, _, _, _, rfl, ⟨rfl, rfl, rfl⟩, ⟨rfl, rfl, rfl⟩⟩, ⟨_, _, _, _, _, rfl, ⟨rfl, rfl, rfl⟩, ⟨rfl, rfl, rfl⟩, ⟨rfl, rfl, rfl⟩⟩, ⟨_, _, _, _, _, _, _, _, _, _, rfl, ⟨rfl, rfl, rfl⟩, ⟨rfl, rfl, rfl⟩, ⟨rfl, rfl, rfl⟩, ⟨rfl, rfl, rfl⟩, ⟨rfl, rfl, rfl⟩, ⟨rfl, rfl, rfl⟩, ⟨rfl, rfl, rfl⟩, ⟨rfl, rfl, rfl⟩⟩⟩ (by kernel_rfl)
def tl1_net_state_holders_2 (d : List G) : Option (Option Nat × List G) :=
  range1 rs_net_state_holders_2 tr_net_state_holders_2 (gi d 4).rows ((gi d 5).int.toNat) d
theorem ind_net_state_holders_2 (d x : List G) (b : Nat) : (foldR rs_net_state_holders_2.st rs_net_state_holders_2.adr [x] (rs_net_state_holders_2.init d b)).bind tr_net_state_holders_2 = (foldR rs_net_state_holders_2.st rs_net_state_holders_2.adr [x] (rs_net_state_holders_2.init d 0)).bind tr_net_state_holders_2 := by
  simp only [foldR_one, rs_net_state_holders_2]
  unfold sr_net_state_holders_2 ri_net_state_holders_2 tr_net_state_holders_2
  dsimp +instances only [giC0, giCs]
  simp only [bind_cond, Option.bind_some, Option.bind_none]
  dsimp +instances only [giC0, giCs]
  simp only [intC, Int.toNat_natCast, beqC, cond_true]
def F1_net_state_holders (d : List G) : Option (List G) :=
  (loopB ((((Nat.beq (gi d 3).rows.length (gi d 3).rows.length) && true) && true) && true) (cutR (tl1_net_state_holders_2 [.l (gi d 0).rows, .l (gi d 1).rows, .l (gi d 2).rows, .l (gi d 3).rows, .l (gi d 4).rows, .i (((gi d 5).int.toNat : Nat) : Int), .l [], .i 0])) fun cg1 g1 => (bif ((((Nat.beq (gi g1 3).rows.length (gi g1 3).rows.length) && true) && true) && true) then some [.l (gi g1 0).rows, .l (gi g1 1).rows, .l (gi g1 2).rows, .l (gi g1 3).rows, .l (gi g1 4).rows, .i (((gi g1 5).int.toNat : Nat) : Int), .l (gi g1 6).rows, .i (((gi g1 7).int.toNat : Nat) : Int)] else none))
theorem F1_le {d r : List G} (h : F1_net_state_holders d = some r) : F_net_state_holders d = some r :=
  loopB_le (fun v hv => range1_le (fun b => rfl) (ind_net_state_holders_2 _) hv) h
def s1_net_state_holders : FSpec := { s_net_state_holders with F := F1_net_state_holders }
def u_pilekeep2_ready : Tab := t34.addW s1_net_state_holders
theorem u_pilekeep2_ready_ok : TabOK P u_pilekeep2_ready := t34_ok.addW (by kernel_rfl) (by kernel_rfl) fun d r h => c_net_state_holders d r (F1_le h)
def u0_pilekeep2_ready : Tab := u_pilekeep2_ready.inline P 201 Tryz.f201 []
theorem u0_pilekeep2_ready_ok : TabOK P u0_pilekeep2_ready := u_pilekeep2_ready_ok.inline hm Tryz.func201 (by kernel_rfl) []
def u1_pilekeep2_ready : Tab := u0_pilekeep2_ready.inline P 202 Tryz.f202 []
theorem u1_pilekeep2_ready_ok : TabOK P u1_pilekeep2_ready := u0_pilekeep2_ready_ok.inline hm Tryz.func202 (by kernel_rfl) []
def u2_pilekeep2_ready : Tab := u1_pilekeep2_ready.inline P 173 Tryz.f173 []
theorem u2_pilekeep2_ready_ok : TabOK P u2_pilekeep2_ready := u1_pilekeep2_ready_ok.inline hm Tryz.func173 (by kernel_rfl) []
def u3_pilekeep2_ready : Tab := u2_pilekeep2_ready.inline P 137 Tryz.f137 []
theorem u3_pilekeep2_ready_ok : TabOK P u3_pilekeep2_ready := u2_pilekeep2_ready_ok.inline hm Tryz.func137 (by kernel_rfl) []
def u4_pilekeep2_ready : Tab := u3_pilekeep2_ready.inline P 102 Tryz.f102 []
theorem u4_pilekeep2_ready_ok : TabOK P u4_pilekeep2_ready := u3_pilekeep2_ready_ok.inline hm Tryz.func102 (by kernel_rfl) []
def u5_pilekeep2_ready : Tab := u4_pilekeep2_ready.inlineW P 175 Tryz.f175
theorem u5_pilekeep2_ready_ok : TabOK P u5_pilekeep2_ready := u4_pilekeep2_ready_ok.inlineW hm Tryz.func175 (by kernel_rfl) (by kernel_rfl)
def u6_pilekeep2_ready : Tab := u5_pilekeep2_ready.inlineB P ⟨203, 82, 81, 15, 15, true⟩ 3 138 Tryz.f138 [some [.int .i64]]
theorem u6_pilekeep2_ready_ok : TabOK P u6_pilekeep2_ready := u5_pilekeep2_ready_ok.inlineB hm bw_pilekeep2_ready Tryz.func138 (by kernel_rfl) (by kernel_rfl) [some [.int .i64]]
def u7_pilekeep2_ready : Tab := u6_pilekeep2_ready.inlineW P 204 Tryz.f204
theorem u7_pilekeep2_ready_ok : TabOK P u7_pilekeep2_ready := u6_pilekeep2_ready_ok.inlineW hm Tryz.func204 (by kernel_rfl) (by kernel_rfl)
def u8_pilekeep2_ready : Tab := u7_pilekeep2_ready.inlineW P 177 Tryz.f177
theorem u8_pilekeep2_ready_ok : TabOK P u8_pilekeep2_ready := u7_pilekeep2_ready_ok.inlineW hm Tryz.func177 (by kernel_rfl) (by kernel_rfl)
def u9_pilekeep2_ready : Tab := u8_pilekeep2_ready.inlineW P 140 Tryz.f140
theorem u9_pilekeep2_ready_ok : TabOK P u9_pilekeep2_ready := u8_pilekeep2_ready_ok.inlineW hm Tryz.func140 (by kernel_rfl) (by kernel_rfl)
def u10_pilekeep2_ready : Tab := u9_pilekeep2_ready.inline P 139 Tryz.f139 []
theorem u10_pilekeep2_ready_ok : TabOK P u10_pilekeep2_ready := u9_pilekeep2_ready_ok.inline hm Tryz.func139 (by kernel_rfl) []
def u11_pilekeep2_ready : Tab := u10_pilekeep2_ready.inlineW P 103 Tryz.f103
theorem u11_pilekeep2_ready_ok : TabOK P u11_pilekeep2_ready := u10_pilekeep2_ready_ok.inlineW hm Tryz.func103 (by kernel_rfl) (by kernel_rfl)
def u12_pilekeep2_ready : Tab := u11_pilekeep2_ready.inlineW P 68 Tryz.f68
theorem u12_pilekeep2_ready_ok : TabOK P u12_pilekeep2_ready := u11_pilekeep2_ready_ok.inlineW hm Tryz.func68 (by kernel_rfl) (by kernel_rfl)
def u13_pilekeep2_ready : Tab := u12_pilekeep2_ready.inlineW P 104 Tryz.f104
theorem u13_pilekeep2_ready_ok : TabOK P u13_pilekeep2_ready := u12_pilekeep2_ready_ok.inlineW hm Tryz.func104 (by kernel_rfl) (by kernel_rfl)
def u14_pilekeep2_ready : Tab := u13_pilekeep2_ready.inlineW P 69 Tryz.f69
theorem u14_pilekeep2_ready_ok : TabOK P u14_pilekeep2_ready := u13_pilekeep2_ready_ok.inlineW hm Tryz.func69 (by kernel_rfl) (by kernel_rfl)
def u15_pilekeep2_ready : Tab := u14_pilekeep2_ready.inline P 34 Tryz.f34 []
theorem u15_pilekeep2_ready_ok : TabOK P u15_pilekeep2_ready := u14_pilekeep2_ready_ok.inline hm Tryz.func34 (by kernel_rfl) []
def u16_pilekeep2_ready : Tab := u15_pilekeep2_ready.inline P 89 Tryz.f89 []
theorem u16_pilekeep2_ready_ok : TabOK P u16_pilekeep2_ready := u15_pilekeep2_ready_ok.inline hm Tryz.func89 (by kernel_rfl) []
def u17_pilekeep2_ready : Tab := u16_pilekeep2_ready.inline P 94 Tryz.f94 []
theorem u17_pilekeep2_ready_ok : TabOK P u17_pilekeep2_ready := u16_pilekeep2_ready_ok.inline hm Tryz.func94 (by kernel_rfl) []
def u18_pilekeep2_ready : Tab := u17_pilekeep2_ready.inline P 88 Tryz.f88 []
theorem u18_pilekeep2_ready_ok : TabOK P u18_pilekeep2_ready := u17_pilekeep2_ready_ok.inline hm Tryz.func88 (by kernel_rfl) []
def u19_pilekeep2_ready : Tab := u18_pilekeep2_ready.inline P 57 Tryz.f57 []
theorem u19_pilekeep2_ready_ok : TabOK P u19_pilekeep2_ready := u18_pilekeep2_ready_ok.inline hm Tryz.func57 (by kernel_rfl) []
def u20_pilekeep2_ready : Tab := u19_pilekeep2_ready.inline P 62 Tryz.f62 []
theorem u20_pilekeep2_ready_ok : TabOK P u20_pilekeep2_ready := u19_pilekeep2_ready_ok.inline hm Tryz.func62 (by kernel_rfl) []
def u21_pilekeep2_ready : Tab := u20_pilekeep2_ready.inline P 115 Tryz.f115 []
theorem u21_pilekeep2_ready_ok : TabOK P u21_pilekeep2_ready := u20_pilekeep2_ready_ok.inline hm Tryz.func115 (by kernel_rfl) []
def u22_pilekeep2_ready : Tab := u21_pilekeep2_ready.inline P 80 Tryz.f80 []
theorem u22_pilekeep2_ready_ok : TabOK P u22_pilekeep2_ready := u21_pilekeep2_ready_ok.inline hm Tryz.func80 (by kernel_rfl) []
def u23_pilekeep2_ready : Tab := u22_pilekeep2_ready.inlineW P 190 Tryz.f190
theorem u23_pilekeep2_ready_ok : TabOK P u23_pilekeep2_ready := u22_pilekeep2_ready_ok.inlineW hm Tryz.func190 (by kernel_rfl) (by kernel_rfl)
def u24_pilekeep2_ready : Tab := u23_pilekeep2_ready.inlineW P 163 Tryz.f163
theorem u24_pilekeep2_ready_ok : TabOK P u24_pilekeep2_ready := u23_pilekeep2_ready_ok.inlineW hm Tryz.func163 (by kernel_rfl) (by kernel_rfl)
def u25_pilekeep2_ready : Tab := u24_pilekeep2_ready.inlineW P 131 Tryz.f131
theorem u25_pilekeep2_ready_ok : TabOK P u25_pilekeep2_ready := u24_pilekeep2_ready_ok.inlineW hm Tryz.func131 (by kernel_rfl) (by kernel_rfl)
def u26_pilekeep2_ready : Tab := u25_pilekeep2_ready.inlineW P 95 Tryz.f95
theorem u26_pilekeep2_ready_ok : TabOK P u26_pilekeep2_ready := u25_pilekeep2_ready_ok.inlineW hm Tryz.func95 (by kernel_rfl) (by kernel_rfl)
def u27_pilekeep2_ready : Tab := u26_pilekeep2_ready.inlineW P 64 Tryz.f64
theorem u27_pilekeep2_ready_ok : TabOK P u27_pilekeep2_ready := u26_pilekeep2_ready_ok.inlineW hm Tryz.func64 (by kernel_rfl) (by kernel_rfl)
def u28_pilekeep2_ready : Tab := u27_pilekeep2_ready.inlineW P 65 Tryz.f65
theorem u28_pilekeep2_ready_ok : TabOK P u28_pilekeep2_ready := u27_pilekeep2_ready_ok.inlineW hm Tryz.func65 (by kernel_rfl) (by kernel_rfl)
def u29_pilekeep2_ready : Tab := u28_pilekeep2_ready.inlineW P 93 Tryz.f93
theorem u29_pilekeep2_ready_ok : TabOK P u29_pilekeep2_ready := u28_pilekeep2_ready_ok.inlineW hm Tryz.func93 (by kernel_rfl) (by kernel_rfl)
def u30_pilekeep2_ready : Tab := u29_pilekeep2_ready.inlineW P 63 Tryz.f63
theorem u30_pilekeep2_ready_ok : TabOK P u30_pilekeep2_ready := u29_pilekeep2_ready_ok.inlineW hm Tryz.func63 (by kernel_rfl) (by kernel_rfl)
def u31_pilekeep2_ready : Tab := u30_pilekeep2_ready.inline P 32 Tryz.f32 []
theorem u31_pilekeep2_ready_ok : TabOK P u31_pilekeep2_ready := u30_pilekeep2_ready_ok.inline hm Tryz.func32 (by kernel_rfl) []
def u32_pilekeep2_ready : Tab := u31_pilekeep2_ready.inline P 35 Tryz.f35 []
theorem u32_pilekeep2_ready_ok : TabOK P u32_pilekeep2_ready := u31_pilekeep2_ready_ok.inline hm Tryz.func35 (by kernel_rfl) []
theorem q_pilekeep2_ready : PCall P 8 [] (.lit (.bool true)) := fn_pure (L := noLoops) hm u32_pilekeep2_ready_ok [] (fun _ _ => noLoops_ok _ _ _) Tryz.func8 rfl (by kernel_rfl) (by kernel_rfl)
def F_pilekeep2_ready (_ : List G) : Option (List G) := some [.t true]
def s_pilekeep2_ready : FSpec := ⟨8, [], [], [], [.s (.bool)], [], [], [], F_pilekeep2_ready⟩
theorem c_pilekeep2_ready : ∀ d r, F_pilekeep2_ready d = some r → ACallX P 8 (s_pilekeep2_ready.args0 d) (denH (s_pilekeep2_ready.H0 d)) (s_pilekeep2_ready.out r) (denH (s_pilekeep2_ready.H1 r)) := fun d r h => by
  cases (show some [G.t true] = some r from h)
  exact q_pilekeep2_ready []
def t35 : Tab := t34.addP s_pilekeep2_ready
theorem t35_ok : TabOK P t35 := t34_ok.addP (by kernel_rfl) (by kernel_rfl) c_pilekeep2_ready


/- pileup/pilemake.Below -/
def F_pilemake_Below (d : List G) : Option (List G) :=
  (bif (ltI (gi d 1).int 1) then some [.i 0] else (bif (!((gi d 1).int == 0)) then (bif (ltI (Int.tmod (gi d 0).int (gi d 1).int) 0) then (bif (inI ((Int.tmod (gi d 0).int (gi d 1).int) + (gi d 1).int)) then some [.i ((Int.tmod (gi d 0).int (gi d 1).int) + (gi d 1).int)] else none) else some [.i (Int.tmod (gi d 0).int (gi d 1).int)]) else none))
def s_pilemake_Below : FSpec := ⟨50, [.s (.int .i64), .s (.int .i64)], [], [], [.s (.int .i64)], [], [], [], F_pilemake_Below⟩
theorem b_pilemake_Below : BodyOK P t35 noLoops Tryz.f50 s_pilemake_Below := fun d => by kernel_rfl
theorem c_pilemake_Below : ∀ d r, F_pilemake_Below d = some r → ACallX P 50 (s_pilemake_Below.args0 d) (denH (s_pilemake_Below.H0 d)) (s_pilemake_Below.out r) (denH (s_pilemake_Below.H1 r)) := fun d r h => body_sound hm t35_ok (sp := s_pilemake_Below) Tryz.func50 (by kernel_rfl) (noLoops_ok _ _ _) b_pilemake_Below (by kernel_rfl) h
def t36 : Tab := t35.addP s_pilemake_Below
theorem t36_ok : TabOK P t36 := t35_ok.addP (by kernel_rfl) (by kernel_rfl) c_pilemake_Below

/- (*pileup/pilemake.Stream).Next -/
def F_pilemake_Stream_Next (d : List G) : Option (List G) :=
  (bif (inI ((gi d 1).int + 1)) then (bif ((((gi d 0).rows.length : Nat) : Int) == 0) then (bif (inI (((gi d 1).int + 1) * 7919)) then (callF (F_pilemake_Below [.i (((gi d 1).int + 1) * 7919), .i (gi d 2).int]) fun g1 => some [.l (gi d 0).rows, .i ((gi d 1).int + 1), .i (gi g1 0).int]) else none) else (bif (inI (((gi d 1).int + 1) - 1)) then (bif (!((((gi d 0).rows.length : Nat) : Int) == 0)) then (bif (inI (((gi d 1).int + 1) - 1)) then (bif ((!((((gi d 0).rows.length : Nat) : Int) == 0)) && (inI (Int.tdiv (((gi d 1).int + 1) - 1) (((gi d 0).rows.length : Nat) : Int)))) then (bif ((nnI (Int.tmod (((gi d 1).int + 1) - 1) (((gi d 0).rows.length : Nat) : Int))) && (ltI (Int.tmod (((gi d 1).int + 1) - 1) (((gi d 0).rows.length : Nat) : Int)) (((gi d 0).rows.length : Nat) : Int))) then (callF (F_pilemake_Below [.i (gi ((gi d 0).rows.getD ((Int.tmod (((gi d 1).int + 1) - 1) (((gi d 0).rows.length : Nat) : Int)).toNat) []) 0).int, .i 1073741824]) fun g2 => (bif (inI (7919 + (Int.tmod (((gi d 1).int + 1) - 1) (((gi d 0).rows.length : Nat) : Int)))) then (bif (inI ((Int.tdiv (((gi d 1).int + 1) - 1) (((gi d 0).rows.length : Nat) : Int)) * (7919 + (Int.tmod (((gi d 1).int + 1) - 1) (((gi d 0).rows.length : Nat) : Int))))) then (bif (inI ((gi g2 0).int + ((Int.tdiv (((gi d 1).int + 1) - 1) (((gi d 0).rows.length : Nat) : Int)) * (7919 + (Int.tmod (((gi d 1).int + 1) - 1) (((gi d 0).rows.length : Nat) : Int)))))) then (callF (F_pilemake_Below [.i ((gi g2 0).int + ((Int.tdiv (((gi d 1).int + 1) - 1) (((gi d 0).rows.length : Nat) : Int)) * (7919 + (Int.tmod (((gi d 1).int + 1) - 1) (((gi d 0).rows.length : Nat) : Int))))), .i (gi d 2).int]) fun g3 => some [.l (gi d 0).rows, .i ((gi d 1).int + 1), .i (gi g3 0).int]) else none) else none) else none)) else none) else none) else none) else none) else none)) else none)
def s_pilemake_Stream_Next : FSpec := ⟨22, [.s (.ptr 0 0), .s (.int .i64)], [.box [.list [.int .i64], .int .i64]], [.slot 0], [.s (.int .i64)], [.box [.list [.int .i64], .int .i64]], [.fix 0], [], F_pilemake_Stream_Next⟩
theorem b_pilemake_Stream_Next : BodyOK P t36 noLoops Tryz.f22 s_pilemake_Stream_Next := fun d => by kernel_rfl
theorem c_pilemake_Stream_Next : ∀ d r, F_pilemake_Stream_Next d = some r → ACallX P 22 (s_pilemake_Stream_Next.args0 d) (denH (s_pilemake_Stream_Next.H0 d)) (s_pilemake_Stream_Next.out r) (denH (s_pilemake_Stream_Next.H1 r)) := fun d r h => body_sound hm t36_ok (sp := s_pilemake_Stream_Next) Tryz.func22 (by kernel_rfl) (noLoops_ok _ _ _) b_pilemake_Stream_Next (by kernel_rfl) h
def t37 : Tab := t36.addW s_pilemake_Stream_Next
theorem t37_ok : TabOK P t37 := t36_ok.addW (by kernel_rfl) (by kernel_rfl) c_pilemake_Stream_Next

/- (*pileup/pilemake.Stream).Flip -/
def F_pilemake_Stream_Flip (d : List G) : Option (List G) :=
  (callF (F_pilemake_Stream_Next [.l (gi d 0).rows, .i (gi d 1).int, .i (gi d 2).int]) fun g1 => some [.l (gi g1 0).rows, .i (gi g1 1).int, .t ((gi g1 2).int == 0)])
def s_pilemake_Stream_Flip : FSpec := ⟨20, [.s (.ptr 0 0), .s (.int .i64)], [.box [.list [.int .i64], .int .i64]], [.slot 0], [.s (.bool)], [.box [.list [.int .i64], .int .i64]], [.fix 0], [], F_pilemake_Stream_Flip⟩
theorem b_pilemake_Stream_Flip : BodyOK P t37 noLoops Tryz.f20 s_pilemake_Stream_Flip := fun d => by kernel_rfl
theorem c_pilemake_Stream_Flip : ∀ d r, F_pilemake_Stream_Flip d = some r → ACallX P 20 (s_pilemake_Stream_Flip.args0 d) (denH (s_pilemake_Stream_Flip.H0 d)) (s_pilemake_Stream_Flip.out r) (denH (s_pilemake_Stream_Flip.H1 r)) := fun d r h => body_sound hm t37_ok (sp := s_pilemake_Stream_Flip) Tryz.func20 (by kernel_rfl) (noLoops_ok _ _ _) b_pilemake_Stream_Flip (by kernel_rfl) h
def t38 : Tab := t37.addW s_pilemake_Stream_Flip
theorem t38_ok : TabOK P t38 := t37_ok.addW (by kernel_rfl) (by kernel_rfl) c_pilemake_Stream_Flip

/- (*pileup/pilemake.Stream).RightClubs -/
def st_pilemake_Stream_RightClubs_8 (d : List G) : Option (Option Nat × List G) :=
  (bif (ltI (gi d 10).int (gi d 9).int) then (bif ((nnI (gi d 10).int) && (ltI (gi d 10).int (((gi d 8).rows.length : Nat) : Int))) then (callF (F_pilemake_Stream_Flip [.l (gi d 0).rows, .i (gi d 1).int, .i 3]) fun g2 => (bif (gi g2 2).bool then (bif ((Nat.beq (gi d 4).rows.length (gi d 4).rows.length) && (decide (((gi d 4).rows.length + 1) ≤ 1048576))) then (bif (inI ((gi d 10).int + 1)) then (bif ((((Nat.beq ((gi d 4).rows ++ ([[.s (gi ((gi d 8).rows.getD (((gi d 10).int).toNat) []) 0).str]] : List (List G))).length ((gi d 4).rows ++ ([[.s (gi ((gi d 8).rows.getD (((gi d 10).int).toNat) []) 0).str]] : List (List G))).length) && true) && true) && ((Nat.beq (gi d 2).rows.length (gi d 2).rows.length) && true)) then some (none, [.l (gi g2 0).rows, .i (gi g2 1).int, .l (gi d 2).rows, .s (gi d 3).str, .l ((gi d 4).rows ++ ([[.s (gi ((gi d 8).rows.getD (((gi d 10).int).toNat) []) 0).str]] : List (List G))), .l (gi d 5).rows, .i (gi d 6).int, .i (gi d 7).int, .l (gi d 8).rows, .i (gi d 9).int, .i ((gi d 10).int + 1)]) else none) else none) else none) else (bif (inI ((gi d 10).int + 1)) then (bif ((((Nat.beq (gi d 4).rows.length (gi d 4).rows.length) && true) && true) && ((Nat.beq (gi d 2).rows.length (gi d 2).rows.length) && true)) then some (none, [.l (gi g2 0).rows, .i (gi g2 1).int, .l (gi d 2).rows, .s (gi d 3).str, .l (gi d 4).rows, .l (gi d 5).rows, .i (gi d 6).int, .i (gi d 7).int, .l (gi d 8).rows, .i (gi d 9).int, .i ((gi d 10).int + 1)]) else none) else none))) else none) else (bif ((((Nat.beq (gi d 4).rows.length (gi d 4).rows.length) && true) && true) && ((Nat.beq (gi d 2).rows.length (gi d 2).rows.length) && true)) then some (some 0, [.l (gi d 0).rows, .i (gi d 1).int, .l (gi d 2).rows, .s (gi d 3).str, .l (gi d 4).rows, .l (gi d 5).rows, .i (gi d 6).int, .i (gi d 7).int]) else none))
def l_pilemake_Stream_RightClubs_8 : LSpec := ⟨8, [], ⟨40, [(0, .s (.ptr 0 0)), (3, .s (.vec 1 2)), (6, .s (.ptr 2 0)), (9, .s (.list [.str])), (10, .s (.int .i64)), (11, .s (.int .i64)), (19, .s (.list [.str])), (20, .s (.int .i64)), (21, .s (.int .i64))], [.box [.list [.int .i64], .int .i64], .vec [.str, .list [.str]] 0, .box [.str, .vec 3 1], .vec [.str] 0]⟩, [.fix 0, .slot 3, .slot 6, .cell 2 1], [⟨.exit 2, ⟨40, [(0, .s (.ptr 0 0)), (3, .s (.vec 1 2)), (6, .s (.ptr 2 0)), (9, .s (.list [.str])), (10, .s (.int .i64)), (11, .s (.int .i64))], [.box [.list [.int .i64], .int .i64], .vec [.str, .list [.str]] 0, .box [.str, .vec 3 1], .vec [.str] 0]⟩, [.fix 0, .slot 3, .slot 6, .cell 2 1]⟩], st_pilemake_Stream_RightClubs_8⟩
theorem r_pilemake_Stream_RightClubs_8 : RoundOK P t38 (noLoops.hinted [(7, [.openCell 6 1 [.str]]), (13, [.freezeCell 6 1])]) 1 (loopAt Tryz.f4 8) l_pilemake_Stream_RightClubs_8 := fun d => by kernel_rfl
def L_pilemake_Stream_RightClubs_8 : LT := (noLoops.hinted [(7, [.openCell 6 1 [.str]]), (13, [.freezeCell 6 1])]).add 1 l_pilemake_Stream_RightClubs_8
theorem L_pilemake_Stream_RightClubs_8_ok : LoopsOK P 1 L_pilemake_Stream_RightClubs_8 (bodyOf Tryz.f4) := LoopsOK.add hm t38_ok (by kernel_rfl) (hinted_ok _) r_pilemake_Stream_RightClubs_8
def st_pilemake_Stream_RightClubs_3 (d : List G) : Option (Option Nat × List G) :=
  (bif (ltI (gi d 5).int (gi d 4).int) then (bif ((nnI (gi d 5).int) && (ltI (gi d 5).int (((gi d 3).rows.length : Nat) : Int))) then (callF (F_pilemake_Stream_Flip [.l (gi d 0).rows, .i (gi d 1).int, .i 6]) fun g1 => (bif (gi g1 2).bool then (bif (inI ((gi d 5).int + 1)) then (bif ((Nat.beq (gi d 2).rows.length (gi d 2).rows.length) && true) then some (none, [.l (gi g1 0).rows, .i (gi g1 1).int, .l (gi d 2).rows, .l (gi d 3).rows, .i (gi d 4).int, .i ((gi d 5).int + 1)]) else none) else none) else (loopB ((Nat.beq (gi d 2).rows.length (gi d 2).rows.length) && true) (LRun st_pilemake_Stream_RightClubs_8 [.l (gi g1 0).rows, .i (gi g1 1).int, .l (gi d 2).rows, .s (gi ((gi d 3).rows.getD (((gi d 5).int).toNat) []) 0).str, .l [], .l (gi d 3).rows, .i (gi d 4).int, .i (gi d 5).int, .l [[.s (⟨#[106, 111, 54, 50]⟩ : ByteArray)], [.s (⟨#[107, 112]⟩ : ByteArray)], [.s (⟨#[107, 112, 50, 48]⟩ : ByteArray)], [.s (⟨#[107, 112, 50, 48, 108, 102]⟩ : ByteArray)]], .i 4, .i 0]) fun cg3 g3 => (bif ((Nat.beq (gi g3 4).rows.length (gi g3 4).rows.length) && true) then (bif ((Nat.beq (gi g3 2).rows.length (gi g3 2).rows.length) && (decide (((gi g3 2).rows.length + 1) ≤ 1048576))) then (bif (inI ((gi g3 7).int + 1)) then (bif ((Nat.beq ((gi g3 2).rows ++ ([[.s (gi g3 3).str, .l (gi g3 4).rows]] : List (List G))).length ((gi g3 2).rows ++ ([[.s (gi g3 3).str, .l (gi g3 4).rows]] : List (List G))).length) && true) then some (none, [.l (gi g3 0).rows, .i (gi g3 1).int, .l ((gi g3 2).rows ++ ([[.s (gi g3 3).str, .l (gi g3 4).rows]] : List (List G))), .l (gi g3 5).rows, .i (gi g3 6).int, .i ((gi g3 7).int + 1)]) else none) else none) else none) else none)))) else none) else (bif ((Nat.beq (gi d 2).rows.length (gi d 2).rows.length) && true) then some (some 0, [.l (gi d 0).rows, .i (gi d 1).int, .l (gi d 2).rows]) else none))
def l_pilemake_Stream_RightClubs_3 : LSpec := ⟨3, [(3, [.str, .list [.str]])], ⟨40, [(0, .s (.ptr 0 0)), (3, .s (.vec 1 2)), (9, .s (.list [.str])), (10, .s (.int .i64)), (11, .s (.int .i64))], [.box [.list [.int .i64], .int .i64], .vec [.str, .list [.str]] 0]⟩, [.fix 0, .slot 3], [⟨.exit 0, ⟨40, [(3, .s (.vec 1 2))], [.box [.list [.int .i64], .int .i64], .vec [.str, .list [.str]] 0]⟩, [.fix 0, .slot 3]⟩], st_pilemake_Stream_RightClubs_3⟩
theorem r_pilemake_Stream_RightClubs_3 : RoundOK P t38 L_pilemake_Stream_RightClubs_8 1 (loopAt Tryz.f4 3) l_pilemake_Stream_RightClubs_3 := fun d => by kernel_rfl
def L_pilemake_Stream_RightClubs_3 : LT := L_pilemake_Stream_RightClubs_8.add 1 l_pilemake_Stream_RightClubs_3
theorem L_pilemake_Stream_RightClubs_3_ok : LoopsOK P 1 L_pilemake_Stream_RightClubs_3 (bodyOf Tryz.f4) := LoopsOK.add hm t38_ok (by kernel_rfl) L_pilemake_Stream_RightClubs_8_ok r_pilemake_Stream_RightClubs_3
def F_pilemake_Stream_RightClubs (d : List G) : Option (List G) :=
  (loopB true (LRun st_pilemake_Stream_RightClubs_3 [.l (gi d 0).rows, .i (gi d 1).int, .l [], .l [[.s (⟨#[101, 97, 115, 116]⟩ : ByteArray)], [.s (⟨#[110, 111, 114, 116, 104]⟩ : ByteArray)], [.s (⟨#[119, 101, 115, 116]⟩ : ByteArray)]], .i 3, .i 0]) fun cg4 g4 => (bif ((Nat.beq (gi g4 2).rows.length (gi g4 2).rows.length) && true) then some [.l (gi g4 0).rows, .i (gi g4 1).int, .l (gi g4 2).rows] else none))
def s_pilemake_Stream_RightClubs : FSpec := ⟨4, [.s (.ptr 0 0)], [.box [.list [.int .i64], .int .i64]], [.slot 0], [.s (.list [.str, .list [.str]])], [.box [.list [.int .i64], .int .i64]], [.fix 0], [], F_pilemake_Stream_RightClubs⟩
theorem b_pilemake_Stream_RightClubs : BodyOK P t38 L_pilemake_Stream_RightClubs_3 Tryz.f4 s_pilemake_Stream_RightClubs := fun d => by kernel_rfl
theorem c_pilemake_Stream_RightClubs : ∀ d r, F_pilemake_Stream_RightClubs d = some r → ACallX P 4 (s_pilemake_Stream_RightClubs.args0 d) (denH (s_pilemake_Stream_RightClubs.H0 d)) (s_pilemake_Stream_RightClubs.out r) (denH (s_pilemake_Stream_RightClubs.H1 r)) := fun d r h => body_sound hm t38_ok (sp := s_pilemake_Stream_RightClubs) Tryz.func4 (by kernel_rfl) L_pilemake_Stream_RightClubs_3_ok b_pilemake_Stream_RightClubs (by kernel_rfl) h
def t39 : Tab := t38.addW s_pilemake_Stream_RightClubs
theorem t39_ok : TabOK P t39 := t38_ok.addW (by kernel_rfl) (by kernel_rfl) c_pilemake_Stream_RightClubs

/- (*pileup/pilemake.Stream).Range -/
def F_pilemake_Stream_Range (d : List G) : Option (List G) :=
  (bif (ltI (gi d 3).int (gi d 2).int) then some [.l (gi d 0).rows, .i (gi d 1).int, .i (gi d 2).int] else (bif (inI ((gi d 3).int - (gi d 2).int)) then (bif (inI (((gi d 3).int - (gi d 2).int) + 1)) then (callF (F_pilemake_Stream_Next [.l (gi d 0).rows, .i (gi d 1).int, .i (((gi d 3).int - (gi d 2).int) + 1)]) fun g1 => (bif (inI ((gi d 2).int + (gi g1 2).int)) then some [.l (gi g1 0).rows, .i (gi g1 1).int, .i ((gi d 2).int + (gi g1 2).int)] else none)) else none) else none))
def s_pilemake_Stream_Range : FSpec := ⟨6, [.s (.ptr 0 0), .s (.int .i64), .s (.int .i64)], [.box [.list [.int .i64], .int .i64]], [.slot 0], [.s (.int .i64)], [.box [.list [.int .i64], .int .i64]], [.fix 0], [], F_pilemake_Stream_Range⟩
theorem b_pilemake_Stream_Range : BodyOK P t39 noLoops Tryz.f6 s_pilemake_Stream_Range := fun d => by kernel_rfl
theorem c_pilemake_Stream_Range : ∀ d r, F_pilemake_Stream_Range d = some r → ACallX P 6 (s_pilemake_Stream_Range.args0 d) (denH (s_pilemake_Stream_Range.H0 d)) (s_pilemake_Stream_Range.out r) (denH (s_pilemake_Stream_Range.H1 r)) := fun d r h => body_sound hm t39_ok (sp := s_pilemake_Stream_Range) Tryz.func6 (by kernel_rfl) (noLoops_ok _ _ _) b_pilemake_Stream_Range (by kernel_rfl) h
def t40 : Tab := t39.addW s_pilemake_Stream_Range
theorem t40_ok : TabOK P t40 := t39_ok.addW (by kernel_rfl) (by kernel_rfl) c_pilemake_Stream_Range

/- (*pileup/pilemake.Stream).Some -/
def F_pilemake_Stream_Some (d : List G) : Option (List G) :=
  (callF (F_pilemake_Stream_Next [.l (gi d 0).rows, .i (gi d 1).int, .i (((gi d 2).rows.length : Nat) : Int)]) fun g1 => (bif ((nnI (gi g1 2).int) && (ltI (gi g1 2).int (((gi d 2).rows.length : Nat) : Int))) then some [.l (gi g1 0).rows, .i (gi g1 1).int, .s (gi ((gi d 2).rows.getD (((gi g1 2).int).toNat) []) 0).str] else none))
def s_pilemake_Stream_Some : FSpec := ⟨21, [.s (.ptr 0 0), .s (.list [.str])], [.box [.list [.int .i64], .int .i64]], [.slot 0], [.s (.str)], [.box [.list [.int .i64], .int .i64]], [.fix 0], [], F_pilemake_Stream_Some⟩
theorem b_pilemake_Stream_Some : BodyOK P t40 noLoops Tryz.f21 s_pilemake_Stream_Some := fun d => by kernel_rfl
theorem c_pilemake_Stream_Some : ∀ d r, F_pilemake_Stream_Some d = some r → ACallX P 21 (s_pilemake_Stream_Some.args0 d) (denH (s_pilemake_Stream_Some.H0 d)) (s_pilemake_Stream_Some.out r) (denH (s_pilemake_Stream_Some.H1 r)) := fun d r h => body_sound hm t40_ok (sp := s_pilemake_Stream_Some) Tryz.func21 (by kernel_rfl) (noLoops_ok _ _ _) b_pilemake_Stream_Some (by kernel_rfl) h
def t41 : Tab := t40.addW s_pilemake_Stream_Some
theorem t41_ok : TabOK P t41 := t40_ok.addW (by kernel_rfl) (by kernel_rfl) c_pilemake_Stream_Some

/- (*pileup/pilemake.Stream).Pick -/
def F_pilemake_Stream_Pick (d : List G) : Option (List G) :=
  (callF (F_pilemake_Stream_Next [.l (gi d 0).rows, .i (gi d 1).int, .i (((gi d 2).rows.length : Nat) : Int)]) fun g1 => (bif ((nnI (gi g1 2).int) && (ltI (gi g1 2).int (((gi d 2).rows.length : Nat) : Int))) then some [.l (gi g1 0).rows, .i (gi g1 1).int, .i (gi ((gi d 2).rows.getD (((gi g1 2).int).toNat) []) 0).int] else none))
def s_pilemake_Stream_Pick : FSpec := ⟨51, [.s (.ptr 0 0), .s (.list [.int .i64])], [.box [.list [.int .i64], .int .i64]], [.slot 0], [.s (.int .i64)], [.box [.list [.int .i64], .int .i64]], [.fix 0], [], F_pilemake_Stream_Pick⟩
theorem b_pilemake_Stream_Pick : BodyOK P t41 noLoops Tryz.f51 s_pilemake_Stream_Pick := fun d => by kernel_rfl
theorem c_pilemake_Stream_Pick : ∀ d r, F_pilemake_Stream_Pick d = some r → ACallX P 51 (s_pilemake_Stream_Pick.args0 d) (denH (s_pilemake_Stream_Pick.H0 d)) (s_pilemake_Stream_Pick.out r) (denH (s_pilemake_Stream_Pick.H1 r)) := fun d r h => body_sound hm t41_ok (sp := s_pilemake_Stream_Pick) Tryz.func51 (by kernel_rfl) (noLoops_ok _ _ _) b_pilemake_Stream_Pick (by kernel_rfl) h
def t42 : Tab := t41.addW s_pilemake_Stream_Pick
theorem t42_ok : TabOK P t42 := t41_ok.addW (by kernel_rfl) (by kernel_rfl) c_pilemake_Stream_Pick

/- (*pileup/pilemake.Stream).Odd -/
def F_pilemake_Stream_Odd (d : List G) : Option (List G) :=
  (callF (F_pilemake_Stream_Flip [.l (gi d 0).rows, .i (gi d 1).int, .i 12]) fun g1 => (bif (gi g1 2).bool then (bif (inI ((gi d 2).int - 1)) then (bif (inI ((gi d 3).int + 1)) then (callF (F_pilemake_Stream_Pick [.l (gi g1 0).rows, .i (gi g1 1).int, .l [[.i ((gi d 2).int - 1)], [.i ((gi d 3).int + 1)], [.i (gi d 2).int], [.i (gi d 3).int], [.i (-1099511627776)], [.i 1099511627776]]]) fun g2 => some [.l (gi g2 0).rows, .i (gi g2 1).int, .i (gi g2 2).int]) else none) else none) else (callF (F_pilemake_Stream_Range [.l (gi g1 0).rows, .i (gi g1 1).int, .i (gi d 2).int, .i (gi d 3).int]) fun g3 => some [.l (gi g3 0).rows, .i (gi g3 1).int, .i (gi g3 2).int])))
def s_pilemake_Stream_Odd : FSpec := ⟨23, [.s (.ptr 0 0), .s (.int .i64), .s (.int .i64)], [.box [.list [.int .i64], .int .i64]], [.slot 0], [.s (.int .i64)], [.box [.list [.int .i64], .int .i64]], [.fix 0], [], F_pilemake_Stream_Odd⟩
theorem b_pilemake_Stream_Odd : BodyOK P t42 noLoops Tryz.f23 s_pilemake_Stream_Odd := fun d => by kernel_rfl
theorem c_pilemake_Stream_Odd : ∀ d r, F_pilemake_Stream_Odd d = some r → ACallX P 23 (s_pilemake_Stream_Odd.args0 d) (denH (s_pilemake_Stream_Odd.H0 d)) (s_pilemake_Stream_Odd.out r) (denH (s_pilemake_Stream_Odd.H1 r)) := fun d r h => body_sound hm t42_ok (sp := s_pilemake_Stream_Odd) Tryz.func23 (by kernel_rfl) (noLoops_ok _ _ _) b_pilemake_Stream_Odd (by kernel_rfl) h
def t43 : Tab := t42.addW s_pilemake_Stream_Odd
theorem t43_ok : TabOK P t43 := t42_ok.addW (by kernel_rfl) (by kernel_rfl) c_pilemake_Stream_Odd

/- (*pileup/pilemake.Stream).Members -/
def tl_pilemake_Stream_Members_10 (d : List G) : Option (Option Nat × List G) :=
  (bif (gi d 15).bool then (callF (F_pilemake_Stream_Next [.l (gi d 0).rows, .i (gi d 1).int, .i (((gi d 7).rows.length : Nat) : Int)]) fun g5 => (bif ((nnI (gi g5 2).int) && (ltI (gi g5 2).int (((gi d 7).rows.length : Nat) : Int))) then (bif ((Nat.beq (gi d 2).rows.length (gi d 2).rows.length) && true) then some (some 0, [.l (gi g5 0).rows, .i (gi g5 1).int, .l (gi d 2).rows, .s (gi d 3).str, .s (gi ((gi d 7).rows.getD (((gi g5 2).int).toNat) []) 0).str, .i (gi d 5).int, .s (gi d 6).str, .l (gi d 7).rows, .s (gi d 8).str, .i (gi d 9).int, .l (gi d 10).rows, .i (gi d 11).int, .i (gi d 12).int, .i (gi d 13).int, .i (gi d 14).int]) else none) else none)) else (bif ((Nat.beq (gi d 2).rows.length (gi d 2).rows.length) && true) then some (some 0, [.l (gi d 0).rows, .i (gi d 1).int, .l (gi d 2).rows, .s (gi d 3).str, .s (gi d 4).str, .i (gi d 5).int, .s (gi d 6).str, .l (gi d 7).rows, .s (gi d 8).str, .i (gi d 9).int, .l (gi d 10).rows, .i (gi d 11).int, .i (gi d 12).int, .i (gi d 13).int, .i (gi d 14).int]) else none))
def l_pilemake_Stream_Members_10c : LSpec := ⟨10, [], ⟨76, [(0, .s (.ptr 0 0)), (1, .s (.list [.str, .list [.str]])), (5, .s (.vec 1 4)), (7, .s (.str)), (8, .s (.int .i64)), (9, .s (.ptr 2 0)), (10, .s (.list [.str])), (11, .s (.int .i64)), (12, .s (.int .i64)), (19, .s (.int .i64)), (20, .s (.int .i64)), (35, .s (.bool))], [.box [.list [.int .i64], .int .i64], .vec KMember 0, .box [.str, .str, .int .i64, .str]]⟩, [.fix 0, .slot 5, .slot 9], [⟨.normal, ⟨76, [(0, .s (.ptr 0 0)), (1, .s (.list [.str, .list [.str]])), (5, .s (.vec 1 4)), (7, .s (.str)), (8, .s (.int .i64)), (9, .s (.ptr 2 0)), (10, .s (.list [.str])), (11, .s (.int .i64)), (12, .s (.int .i64)), (19, .s (.int .i64)), (20, .s (.int .i64))], [.box [.list [.int .i64], .int .i64], .vec KMember 0, .box [.str, .str, .int .i64, .str]]⟩, [.fix 0, .slot 5, .slot 9]⟩], tl_pilemake_Stream_Members_10⟩
theorem r_pilemake_Stream_Members_10c : CutOK P t43 noLoops 1 (cutAt Tryz.f5 10) l_pilemake_Stream_Members_10c := fun d => by kernel_rfl
def L_pilemake_Stream_Members_10c : LT := noLoops.addCut 1 l_pilemake_Stream_Members_10c
theorem L_pilemake_Stream_Members_10c_ok : LoopsOK P 1 L_pilemake_Stream_Members_10c (bodyOf Tryz.f5) := LoopsOK.addCut hm t43_ok (by kernel_rfl) (noLoops_ok _ _ _) r_pilemake_Stream_Members_10c
def tl_pilemake_Stream_Members_11 (d : List G) : Option (Option Nat × List G) :=
  (callF (F_pilemake_Stream_Flip [.l (gi d 0).rows, .i (gi d 1).int, .i 60]) fun g7 => (bif (gi g7 2).bool then (callF (F_pilemake_Stream_Some [.l (gi g7 0).rows, .i (gi g7 1).int, .l [[.s (gi d 8).str], [.s (⟨#[107, 49, 97, 98, 47, 52]⟩ : ByteArray)], [.s (⟨#[]⟩ : ByteArray)]]]) fun g8 => (callF (F_pilemake_Stream_Some [.l (gi g8 0).rows, .i (gi g8 1).int, .l [[.s (gi d 4).str], [.s (⟨#[110, 111, 98, 111, 100, 121]⟩ : ByteArray)]]]) fun g9 => (callF (F_pilemake_Stream_Odd [.l (gi g9 0).rows, .i (gi g9 1).int, .i 0, .i 9]) fun g10 => (callF (F_pilemake_Stream_Some [.l (gi g10 0).rows, .i (gi g10 1).int, .l [[.s (⟨#[107, 112, 50, 48]⟩ : ByteArray)], [.s (⟨#[107, 112, 50, 48, 108, 122]⟩ : ByteArray)], [.s (⟨#[107, 112, 50, 48, 108, 102]⟩ : ByteArray)]]]) fun g11 => (bif ((Nat.beq (gi d 2).rows.length (gi d 2).rows.length) && (decide (((gi d 2).rows.length + 1) ≤ 1048576))) then (callF (F_pilemake_Stream_Range [.l (gi g11 0).rows, .i (gi g11 1).int, .i 1, .i 3]) fun g12 => (bif (inI ((gi d 9).int + (gi g12 2).int)) then (bif ((Nat.beq ((gi d 2).rows ++ ([[.s (gi g8 2).str, .s (gi g9 2).str, .i (gi g10 2).int, .s (gi g11 2).str]] : List (List G))).length ((gi d 2).rows ++ ([[.s (gi g8 2).str, .s (gi g9 2).str, .i (gi g10 2).int, .s (gi g11 2).str]] : List (List G))).length) && true) then some (some 0, [.l (gi g12 0).rows, .i (gi g12 1).int, .l ((gi d 2).rows ++ ([[.s (gi g8 2).str, .s (gi g9 2).str, .i (gi g10 2).int, .s (gi g11 2).str]] : List (List G))), .l (gi d 7).rows, .s (gi d 8).str, .i ((gi d 9).int + (gi g12 2).int), .l (gi d 10).rows, .i (gi d 11).int, .i (gi d 12).int, .i (gi d 13).int, .i (gi d 14).int]) else none) else none)) else none))))) else (bif ((Nat.beq (gi d 2).rows.length (gi d 2).rows.length) && (decide (((gi d 2).rows.length + 1) ≤ 1048576))) then (callF (F_pilemake_Stream_Range [.l (gi g7 0).rows, .i (gi g7 1).int, .i 1, .i 3]) fun g13 => (bif (inI ((gi d 9).int + (gi g13 2).int)) then (bif ((Nat.beq ((gi d 2).rows ++ ([[.s (gi d 3).str, .s (gi d 4).str, .i (gi d 5).int, .s (gi d 6).str]] : List (List G))).length ((gi d 2).rows ++ ([[.s (gi d 3).str, .s (gi d 4).str, .i (gi d 5).int, .s (gi d 6).str]] : List (List G))).length) && true) then some (some 0, [.l (gi g13 0).rows, .i (gi g13 1).int, .l ((gi d 2).rows ++ ([[.s (gi d 3).str, .s (gi d 4).str, .i (gi d 5).int, .s (gi d 6).str]] : List (List G))), .l (gi d 7).rows, .s (gi d 8).str, .i ((gi d 9).int + (gi g13 2).int), .l (gi d 10).rows, .i (gi d 11).int, .i (gi d 12).int, .i (gi d 13).int, .i (gi d 14).int]) else none) else none)) else none)))
def l_pilemake_Stream_Members_11c : LSpec := ⟨11, [], ⟨76, [(0, .s (.ptr 0 0)), (1, .s (.list [.str, .list [.str]])), (5, .s (.vec 1 4)), (7, .s (.str)), (8, .s (.int .i64)), (9, .s (.ptr 2 0)), (10, .s (.list [.str])), (11, .s (.int .i64)), (12, .s (.int .i64)), (19, .s (.int .i64)), (20, .s (.int .i64))], [.box [.list [.int .i64], .int .i64], .vec KMember 0, .box [.str, .str, .int .i64, .str]]⟩, [.fix 0, .slot 5, .slot 9], [⟨.normal, ⟨76, [(0, .s (.ptr 0 0)), (1, .s (.list [.str, .list [.str]])), (5, .s (.vec 1 4)), (7, .s (.str)), (8, .s (.int .i64)), (10, .s (.list [.str])), (11, .s (.int .i64)), (12, .s (.int .i64)), (19, .s (.int .i64)), (20, .s (.int .i64))], [.box [.list [.int .i64], .int .i64], .vec KMember 0]⟩, [.fix 0, .slot 5]⟩], tl_pilemake_Stream_Members_11⟩
theorem r_pilemake_Stream_Members_11c : CutOK P t43 L_pilemake_Stream_Members_10c 1 (cutAt Tryz.f5 11) l_pilemake_Stream_Members_11c := fun d => by kernel_rfl
def L_pilemake_Stream_Members_11c : LT := L_pilemake_Stream_Members_10c.addCut 1 l_pilemake_Stream_Members_11c
theorem L_pilemake_Stream_Members_11c_ok : LoopsOK P 1 L_pilemake_Stream_Members_11c (bodyOf Tryz.f5) := LoopsOK.addCut hm t43_ok (by kernel_rfl) L_pilemake_Stream_Members_10c_ok r_pilemake_Stream_Members_11c
def st_pilemake_Stream_Members_7 (d : List G) : Option (Option Nat × List G) :=
  (bif (ltI (gi d 10).int (gi d 9).int) then (callF (F_pilemake_Stream_Some [.l (gi d 0).rows, .i (gi d 1).int, .l [[.s (⟨#[107, 112, 50, 48, 108, 102]⟩ : ByteArray)], [.s (⟨#[107, 112, 50, 48, 97, 97]⟩ : ByteArray)], [.s (⟨#[107, 112, 50, 49, 120, 120]⟩ : ByteArray)], [.s (⟨#[106, 111, 54, 50, 113, 109]⟩ : ByteArray)], [.s (⟨#[97, 97, 48, 48, 97, 97]⟩ : ByteArray)]]]) fun g3 => (bif (ltI 0 (((gi d 3).rows.length : Nat) : Int)) then (callF (F_pilemake_Stream_Flip [.l (gi g3 0).rows, .i (gi g3 1).int, .i 5]) fun g4 => (loopB ((Nat.beq (gi d 2).rows.length (gi d 2).rows.length) && true) (cutR (tl_pilemake_Stream_Members_10 [.l (gi g4 0).rows, .i (gi g4 1).int, .l (gi d 2).rows, .s (gi d 4).str, .s (⟨#[]⟩ : ByteArray), .i (gi d 5).int, .s (gi g3 2).str, .l (gi d 3).rows, .s (gi d 4).str, .i (gi d 5).int, .l (gi d 6).rows, .i (gi d 7).int, .i (gi d 8).int, .i (gi d 9).int, .i (gi d 10).int, .t (!(gi g4 2).bool)])) fun cg6 g6 => (loopB ((Nat.beq (gi g6 2).rows.length (gi g6 2).rows.length) && true) (cutR (tl_pilemake_Stream_Members_11 [.l (gi g6 0).rows, .i (gi g6 1).int, .l (gi g6 2).rows, .s (gi g6 3).str, .s (gi g6 4).str, .i (gi g6 5).int, .s (gi g6 6).str, .l (gi g6 7).rows, .s (gi g6 8).str, .i (gi g6 9).int, .l (gi g6 10).rows, .i (gi g6 11).int, .i (gi g6 12).int, .i (gi g6 13).int, .i (gi g6 14).int])) fun cg14 g14 => (bif (inI ((gi g14 10).int + 1)) then (bif ((Nat.beq (gi g14 2).rows.length (gi g14 2).rows.length) && true) then some (none, [.l (gi g14 0).rows, .i (gi g14 1).int, .l (gi g14 2).rows, .l (gi g14 3).rows, .s (gi g14 4).str, .i (gi g14 5).int, .l (gi g14 6).rows, .i (gi g14 7).int, .i (gi g14 8).int, .i (gi g14 9).int, .i ((gi g14 10).int + 1)]) else none) else none)))) else (loopB ((Nat.beq (gi d 2).rows.length (gi d 2).rows.length) && true) (cutR (tl_pilemake_Stream_Members_10 [.l (gi g3 0).rows, .i (gi g3 1).int, .l (gi d 2).rows, .s (gi d 4).str, .s (⟨#[]⟩ : ByteArray), .i (gi d 5).int, .s (gi g3 2).str, .l (gi d 3).rows, .s (gi d 4).str, .i (gi d 5).int, .l (gi d 6).rows, .i (gi d 7).int, .i (gi d 8).int, .i (gi d 9).int, .i (gi d 10).int, .t false])) fun cg15 g15 => (loopB ((Nat.beq (gi g15 2).rows.length (gi g15 2).rows.length) && true) (cutR (tl_pilemake_Stream_Members_11 [.l (gi g15 0).rows, .i (gi g15 1).int, .l (gi g15 2).rows, .s (gi g15 3).str, .s (gi g15 4).str, .i (gi g15 5).int, .s (gi g15 6).str, .l (gi g15 7).rows, .s (gi g15 8).str, .i (gi g15 9).int, .l (gi g15 10).rows, .i (gi g15 11).int, .i (gi g15 12).int, .i (gi g15 13).int, .i (gi g15 14).int])) fun cg16 g16 => (bif (inI ((gi g16 10).int + 1)) then (bif ((Nat.beq (gi g16 2).rows.length (gi g16 2).rows.length) && true) then some (none, [.l (gi g16 0).rows, .i (gi g16 1).int, .l (gi g16 2).rows, .l (gi g16 3).rows, .s (gi g16 4).str, .i (gi g16 5).int, .l (gi g16 6).rows, .i (gi g16 7).int, .i (gi g16 8).int, .i (gi g16 9).int, .i ((gi g16 10).int + 1)]) else none) else none))))) else (bif ((Nat.beq (gi d 2).rows.length (gi d 2).rows.length) && true) then some (some 0, [.l (gi d 0).rows, .i (gi d 1).int, .l (gi d 2).rows, .l (gi d 3).rows, .l (gi d 6).rows, .i (gi d 7).int, .i (gi d 8).int]) else none))
def l_pilemake_Stream_Members_7 : LSpec := ⟨7, [], ⟨76, [(0, .s (.ptr 0 0)), (1, .s (.list [.str, .list [.str]])), (5, .s (.vec 1 4)), (7, .s (.str)), (8, .s (.int .i64)), (10, .s (.list [.str])), (11, .s (.int .i64)), (12, .s (.int .i64)), (19, .s (.int .i64)), (20, .s (.int .i64))], [.box [.list [.int .i64], .int .i64], .vec KMember 0]⟩, [.fix 0, .slot 5], [⟨.exit 2, ⟨76, [(0, .s (.ptr 0 0)), (1, .s (.list [.str, .list [.str]])), (5, .s (.vec 1 4)), (10, .s (.list [.str])), (11, .s (.int .i64)), (12, .s (.int .i64))], [.box [.list [.int .i64], .int .i64], .vec KMember 0]⟩, [.fix 0, .slot 5]⟩], st_pilemake_Stream_Members_7⟩
theorem r_pilemake_Stream_Members_7 : RoundOK P t43 L_pilemake_Stream_Members_11c 1 (loopAt Tryz.f5 7) l_pilemake_Stream_Members_7 := fun d => by kernel_rfl
def L_pilemake_Stream_Members_7 : LT := L_pilemake_Stream_Members_11c.add 1 l_pilemake_Stream_Members_7
theorem L_pilemake_Stream_Members_7_ok : LoopsOK P 1 L_pilemake_Stream_Members_7 (bodyOf Tryz.f5) := LoopsOK.add hm t43_ok (by kernel_rfl) L_pilemake_Stream_Members_11c_ok r_pilemake_Stream_Members_7
def st_pilemake_Stream_Members_3 (d : List G) : Option (Option Nat × List G) :=
  (bif (ltI (gi d 6).int (gi d 5).int) then (bif ((nnI (gi d 6).int) && (ltI (gi d 6).int (((gi d 4).rows.length : Nat) : Int))) then (callF (F_pilemake_Stream_Range [.l (gi d 0).rows, .i (gi d 1).int, .i 0, .i 5]) fun g1 => (callF (F_pilemake_Stream_Range [.l (gi g1 0).rows, .i (gi g1 1).int, .i 0, .i 2]) fun g2 => (loopB ((Nat.beq (gi d 2).rows.length (gi d 2).rows.length) && true) (LRun st_pilemake_Stream_Members_7 [.l (gi g2 0).rows, .i (gi g2 1).int, .l (gi d 2).rows, .l (gi d 3).rows, .s (gi ((gi d 4).rows.getD (((gi d 6).int).toNat) []) 0).str, .i (gi g1 2).int, .l (gi d 4).rows, .i (gi d 5).int, .i (gi d 6).int, .i (gi g2 2).int, .i 0]) fun cg17 g17 => (bif (inI ((gi g17 6).int + 1)) then (bif ((Nat.beq (gi g17 2).rows.length (gi g17 2).rows.length) && true) then some (none, [.l (gi g17 0).rows, .i (gi g17 1).int, .l (gi g17 2).rows, .l (gi g17 3).rows, .l (gi g17 4).rows, .i (gi g17 5).int, .i ((gi g17 6).int + 1)]) else none) else none)))) else none) else (bif ((Nat.beq (gi d 2).rows.length (gi d 2).rows.length) && true) then some (some 0, [.l (gi d 0).rows, .i (gi d 1).int, .l (gi d 2).rows]) else none))
def l_pilemake_Stream_Members_3 : LSpec := ⟨3, [(5, KMember)], ⟨76, [(0, .s (.ptr 0 0)), (1, .s (.list [.str, .list [.str]])), (5, .s (.vec 1 4)), (10, .s (.list [.str])), (11, .s (.int .i64)), (12, .s (.int .i64))], [.box [.list [.int .i64], .int .i64], .vec KMember 0]⟩, [.fix 0, .slot 5], [⟨.exit 0, ⟨76, [(5, .s (.vec 1 4))], [.box [.list [.int .i64], .int .i64], .vec KMember 0]⟩, [.fix 0, .slot 5]⟩], st_pilemake_Stream_Members_3⟩
theorem r_pilemake_Stream_Members_3 : RoundOK P t43 L_pilemake_Stream_Members_7 1 (loopAt Tryz.f5 3) l_pilemake_Stream_Members_3 := fun d => by kernel_rfl
def L_pilemake_Stream_Members_3 : LT := L_pilemake_Stream_Members_7.add 1 l_pilemake_Stream_Members_3
theorem L_pilemake_Stream_Members_3_ok : LoopsOK P 1 L_pilemake_Stream_Members_3 (bodyOf Tryz.f5) := LoopsOK.add hm t43_ok (by kernel_rfl) L_pilemake_Stream_Members_7_ok r_pilemake_Stream_Members_3
def F_pilemake_Stream_Members (d : List G) : Option (List G) :=
  (loopB true (LRun st_pilemake_Stream_Members_3 [.l (gi d 0).rows, .i (gi d 1).int, .l [], .l (gi d 2).rows, .l [[.s (⟨#[107, 49, 97, 98]⟩ : ByteArray)], [.s (⟨#[111, 104, 50, 97, 98, 99]⟩ : ByteArray)], [.s (⟨#[111, 104, 50, 97, 98, 100]⟩ : ByteArray)], [.s (⟨#[119, 49, 97, 119]⟩ : ByteArray)]], .i 4, .i 0]) fun cg18 g18 => (bif ((Nat.beq (gi g18 2).rows.length (gi g18 2).rows.length) && true) then some [.l (gi g18 0).rows, .i (gi g18 1).int, .l (gi g18 2).rows] else none))
def s_pilemake_Stream_Members : FSpec := ⟨5, [.s (.ptr 0 0), .s (.list [.str, .list [.str]])], [.box [.list [.int .i64], .int .i64]], [.slot 0], [.s (.list KMember)], [.box [.list [.int .i64], .int .i64]], [.fix 0], [], F_pilemake_Stream_Members⟩
theorem b_pilemake_Stream_Members : BodyOK P t43 L_pilemake_Stream_Members_3 Tryz.f5 s_pilemake_Stream_Members := fun d => by kernel_rfl
theorem c_pilemake_Stream_Members : ∀ d r, F_pilemake_Stream_Members d = some r → ACallX P 5 (s_pilemake_Stream_Members.args0 d) (denH (s_pilemake_Stream_Members.H0 d)) (s_pilemake_Stream_Members.out r) (denH (s_pilemake_Stream_Members.H1 r)) := fun d r h => body_sound hm t43_ok (sp := s_pilemake_Stream_Members) Tryz.func5 (by kernel_rfl) L_pilemake_Stream_Members_3_ok b_pilemake_Stream_Members (by kernel_rfl) h
def t44 : Tab := t43.addW s_pilemake_Stream_Members
theorem t44_ok : TabOK P t44 := t43_ok.addW (by kernel_rfl) (by kernel_rfl) c_pilemake_Stream_Members

/- pileup/pileref2.in -/
def F_pileref2_in (d : List G) : Option (List G) :=
  (bif (leI (gi d 1).int (gi d 0).int) then some [.t (leI (gi d 0).int (gi d 2).int)] else some [.t false])
def s_pileref2_in : FSpec := ⟨29, [.s (.int .i64), .s (.int .i64), .s (.int .i64)], [], [], [.s (.bool)], [], [], [], F_pileref2_in⟩
theorem b_pileref2_in : BodyOK P t44 noLoops Tryz.f29 s_pileref2_in := fun d => by kernel_rfl
theorem c_pileref2_in : ∀ d r, F_pileref2_in d = some r → ACallX P 29 (s_pileref2_in.args0 d) (denH (s_pileref2_in.H0 d)) (s_pileref2_in.out r) (denH (s_pileref2_in.H1 r)) := fun d r h => body_sound hm t44_ok (sp := s_pileref2_in) Tryz.func29 (by kernel_rfl) (noLoops_ok _ _ _) b_pileref2_in (by kernel_rfl) h
def t45 : Tab := t44.addP s_pileref2_in
theorem t45_ok : TabOK P t45 := t44_ok.addP (by kernel_rfl) (by kernel_rfl) c_pileref2_in

end
end Go.Proofs.SYteljhjdcaaebcaaGreatDoor
