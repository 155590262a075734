/-
 What is proved here: functions of the program as functions on data. No condition.
-/
import Derived.Test.YthjhjbgilbaknaaGreatDoorML2
set_option linter.unusedSimpArgs false
set_option linter.unusedVariables false
set_option linter.unusedSectionVars false
namespace Go.Proofs.SYthjhjbgilbaknaaGreatDoor
open Go Go.AL Go.Proofs
noncomputable section
def F_call_Is (d : List G) : Option (List G) :=
 (callF (F_call_Parts [.s (gi d 0).str]) fun g1 => some [.t (gi g1 1).bool])
def s_call_Is : FSpec := ⟨91, [.s (.str)], [], [], [.s (.bool)], [], [], [], F_call_Is⟩
theorem b_call_Is : BodyOK P t47 nL0 Tryz.f91 s_call_Is := fun d => by kernel_rfl
theorem c_call_Is : ∀ d r, F_call_Is d = some r → ACallX P 91 (s_call_Is.args0 d) (denH (s_call_Is.H0 d)) (s_call_Is.out r) (denH (s_call_Is.H1 r)) := fun d r h => bSd hm t47_ok (sp := s_call_Is) Tryz.func91 (by kernel_rfl) (nLk _ _ _) b_call_Is (by kernel_rfl) h
def t48 : Tab := t47.addP s_call_Is
theorem t48_ok : TabOK P t48 := t47_ok.addP (by kernel_rfl) (by kernel_rfl) c_call_Is

def st_cmp_Or_int_3 (d : List G) : Option (Option Nat × List G) :=
 (bif (ltI (gi d 3).int (gi d 2).int) then (bif ((nnI (gi d 3).int) && (ltI (gi d 3).int (((gi d 1).rows.length : Nat) : Int))) then (bif ((gi ((gi d 1).rows.getD (((gi d 3).int).toNat) []) 0).int != (gi d 0).int) then some (some 0, [.i (gi ((gi d 1).rows.getD (((gi d 3).int).toNat) []) 0).int]) else (bif (inI ((gi d 3).int + 1)) then some (none, [.i (gi d 0).int, .l (gi d 1).rows, .i (gi d 2).int, .i ((gi d 3).int + 1)]) else none)) else none) else some (some 1, [.i (gi d 0).int]))
def l_cmp_Or_int_3 : LSpec := ⟨3, [], ⟨18, [(3, .s (.int .i64)), (6, .s (.list [.int .i64])), (7, .s (.int .i64)), (8, .s (.int .i64))], []⟩, [], [⟨.ret, ⟨18, [(2, .s (.int .i64))], []⟩, []⟩, ⟨.exit 0, ⟨18, [(3, .s (.int .i64))], []⟩, []⟩], st_cmp_Or_int_3⟩
theorem r_cmp_Or_int_3 : RoundOK P t48 nL0 0 (loopAt Tryz.f135 3) l_cmp_Or_int_3 := fun d => by kernel_rfl
def L_cmp_Or_int_3 : LT := nL0.add 0 l_cmp_Or_int_3
theorem L_cmp_Or_int_3_ok : LpK P 0 L_cmp_Or_int_3 (bodyOf Tryz.f135) := LpK.add hm t48_ok (by kernel_rfl) (nLk _ _ _) r_cmp_Or_int_3
def F_cmp_Or_int (d : List G) : Option (List G) :=
 (loopB true (LRun st_cmp_Or_int_3 [.i 0, .l (gi d 0).rows, .i (((gi d 0).rows.length : Nat) : Int), .i 0]) fun cg1 g1 => (bif Nat.beq cg1 0 then some [.i (gi g1 0).int] else some [.i (gi g1 0).int]))
def s_cmp_Or_int : FSpec := ⟨135, [.s (.list [.int .i64])], [], [], [.s (.int .i64)], [], [], [], F_cmp_Or_int⟩
theorem b_cmp_Or_int : BodyOK P t48 L_cmp_Or_int_3 Tryz.f135 s_cmp_Or_int := fun d => by kernel_rfl
theorem c_cmp_Or_int : ∀ d r, F_cmp_Or_int d = some r → ACallX P 135 (s_cmp_Or_int.args0 d) (denH (s_cmp_Or_int.H0 d)) (s_cmp_Or_int.out r) (denH (s_cmp_Or_int.H1 r)) := fun d r h => bSd hm t48_ok (sp := s_cmp_Or_int) Tryz.func135 (by kernel_rfl) L_cmp_Or_int_3_ok b_cmp_Or_int (by kernel_rfl) h
def t49 : Tab := t48.addP s_cmp_Or_int
theorem t49_ok : TabOK P t49 := t48_ok.addP (by kernel_rfl) (by kernel_rfl) c_cmp_Or_int

def F_band_compareSpots (d : List G) : Option (List G) :=
 (callF (F_cmp_Compare_int [.i (gi (gi d 0).row 0).int, .i (gi (gi d 1).row 0).int]) fun g1 => (callF (F_cmp_Compare_int [.i (gi (gi d 0).row 1).int, .i (gi (gi d 1).row 1).int]) fun g2 => (callF (F_strings_Compare [.s (gi (gi d 0).row 2).str, .s (gi (gi d 1).row 2).str]) fun g3 => (callF (F_strings_Compare [.s (gi (gi d 0).row 3).str, .s (gi (gi d 1).row 3).str]) fun g4 => (callF (F_cmp_Or_int [.l [[.i (gi g1 0).int], [.i (gi g2 0).int], [.i (gi g3 0).int], [.i (gi g4 0).int]]]) fun g5 => some [.i (gi g5 0).int])))))
def s_band_compareSpots : FSpec := ⟨70, [.s (.row KSpot), .s (.row KSpot)], [], [], [.s (.int .i64)], [], [], [], F_band_compareSpots⟩
theorem b_band_compareSpots : BodyOK P t49 nL0 Tryz.f70 s_band_compareSpots := fun d => by kernel_rfl
theorem c_band_compareSpots : ∀ d r, F_band_compareSpots d = some r → ACallX P 70 (s_band_compareSpots.args0 d) (denH (s_band_compareSpots.H0 d)) (s_band_compareSpots.out r) (denH (s_band_compareSpots.H1 r)) := fun d r h => bSd hm t49_ok (sp := s_band_compareSpots) Tryz.func70 (by kernel_rfl) (nLk _ _ _) b_band_compareSpots (by kernel_rfl) h
def t50 : Tab := t49.addP s_band_compareSpots
theorem t50_ok : TabOK P t50 := t49_ok.addP (by kernel_rfl) (by kernel_rfl) c_band_compareSpots

def st_band_CheckSpots_4 (d : List G) : Option (Option Nat × List G) :=
 (bif (ltI (gi d 3).int (gi d 2).int) then (bif ((nnI (gi d 3).int) && (ltI (gi d 3).int (((gi d 1).rows.length : Nat) : Int))) then (callF (F_kit_IsMoment [.i (gi ((gi d 1).rows.getD (((gi d 3).int).toNat) []) 0).int]) fun g1 => (bif (!(gi g1 0).bool) then some (some 0, [.i 1]) else (callF (F_kit_Outside [.i (gi ((gi d 1).rows.getD (((gi d 3).int).toNat) []) 1).int, .i 0, .i 30000000000]) fun g2 => (bif (gi g2 0).bool then some (some 0, [.i 1]) else (callF (F_call_Is [.s (gi ((gi d 1).rows.getD (((gi d 3).int).toNat) []) 2).str]) fun g3 => (bif (!(gi g3 0).bool) then some (some 0, [.i 3]) else (callF (F_call_Is [.s (gi ((gi d 1).rows.getD (((gi d 3).int).toNat) []) 3).str]) fun g4 => (bif (!(gi g4 0).bool) then some (some 0, [.i 3]) else (bif (ltI 0 (gi d 3).int) then (bif (inI ((gi d 3).int - 1)) then (bif ((nnI ((gi d 3).int - 1)) && (ltI ((gi d 3).int - 1) (((gi d 0).rows.length : Nat) : Int))) then (callF (F_band_compareSpots [.l [(gEta KSpot ((gi d 0).rows.getD (((gi d 3).int - 1).toNat) []))], .l [(gEta KSpot ((gi d 1).rows.getD (((gi d 3).int).toNat) []))]]) fun g5 => (bif (leI 0 (gi g5 0).int) then some (some 0, [.i 7]) else (bif (inI ((gi d 3).int + 1)) then some (none, [.l (gi d 0).rows, .l (gi d 1).rows, .i (gi d 2).int, .i ((gi d 3).int + 1)]) else none))) else none) else none) else (bif (inI ((gi d 3).int + 1)) then some (none, [.l (gi d 0).rows, .l (gi d 1).rows, .i (gi d 2).int, .i ((gi d 3).int + 1)]) else none)))))))))) else none) else some (some 1, []))
def l_band_CheckSpots_4 : LSpec := ⟨4, [], ⟨50, [(0, .s (.list KSpot)), (8, .s (.list KSpot)), (9, .s (.int .i64)), (10, .s (.int .i64))], []⟩, [], [⟨.ret, ⟨50, [(2, .s (.int .i64))], []⟩, []⟩, ⟨.exit 0, ⟨50, [], []⟩, []⟩], st_band_CheckSpots_4⟩
theorem r_band_CheckSpots_4 : RoundOK P t50 nL0 0 (loopAt Tryz.f22 4) l_band_CheckSpots_4 := fun d => by kernel_rfl
def L_band_CheckSpots_4 : LT := nL0.add 0 l_band_CheckSpots_4
theorem L_band_CheckSpots_4_ok : LpK P 0 L_band_CheckSpots_4 (bodyOf Tryz.f22) := LpK.add hm t50_ok (by kernel_rfl) (nLk _ _ _) r_band_CheckSpots_4
def F_band_CheckSpots (d : List G) : Option (List G) :=
 (bif (ltI 2000 (((gi d 0).rows.length : Nat) : Int)) then some [.i 2] else (loopB true (LRun st_band_CheckSpots_4 [.l (gi d 0).rows, .l (gi d 0).rows, .i (((gi d 0).rows.length : Nat) : Int), .i 0]) fun cg6 g6 => (bif Nat.beq cg6 0 then some [.i (gi g6 0).int] else some [.i 0])))
def s_band_CheckSpots : FSpec := ⟨22, [.s (.list KSpot)], [], [], [.s (.int .i64)], [], [], [], F_band_CheckSpots⟩
theorem b_band_CheckSpots : BodyOK P t50 L_band_CheckSpots_4 Tryz.f22 s_band_CheckSpots := fun d => by kernel_rfl
theorem c_band_CheckSpots : ∀ d r, F_band_CheckSpots d = some r → ACallX P 22 (s_band_CheckSpots.args0 d) (denH (s_band_CheckSpots.H0 d)) (s_band_CheckSpots.out r) (denH (s_band_CheckSpots.H1 r)) := fun d r h => bSd hm t50_ok (sp := s_band_CheckSpots) Tryz.func22 (by kernel_rfl) L_band_CheckSpots_4_ok b_band_CheckSpots (by kernel_rfl) h
def t51 : Tab := t50.addP s_band_CheckSpots
theorem t51_ok : TabOK P t51 := t50_ok.addP (by kernel_rfl) (by kernel_rfl) c_band_CheckSpots

def F_band_listsFault (d : List G) : Option (List G) :=
 (callF (F_log_CheckBands [.l (gi d 0).rows]) fun g1 => (bif ((gi g1 0).int != 0) then some [.i (gi g1 0).int] else (callF (F_band_CheckSpots [.l (gi d 1).rows]) fun g2 => some [.i (gi g2 0).int])))
def s_band_listsFault : FSpec := ⟨71, [.s (.list KBand), .s (.list KSpot)], [], [], [.s (.int .i64)], [], [], [], F_band_listsFault⟩
theorem b_band_listsFault : BodyOK P t51 nL0 Tryz.f71 s_band_listsFault := fun d => by kernel_rfl
theorem c_band_listsFault : ∀ d r, F_band_listsFault d = some r → ACallX P 71 (s_band_listsFault.args0 d) (denH (s_band_listsFault.H0 d)) (s_band_listsFault.out r) (denH (s_band_listsFault.H1 r)) := fun d r h => bSd hm t51_ok (sp := s_band_listsFault) Tryz.func71 (by kernel_rfl) (nLk _ _ _) b_band_listsFault (by kernel_rfl) h
def t52 : Tab := t51.addP s_band_listsFault
theorem t52_ok : TabOK P t52 := t51_ok.addP (by kernel_rfl) (by kernel_rfl) c_band_listsFault

def F_kit_IsMode (d : List G) : Option (List G) :=
 (callF (F_kit_Outside [.i (gi d 0).int, .i 1, .i 3]) fun g1 => some [.t (!(gi g1 0).bool)])
def s_kit_IsMode : FSpec := ⟨99, [.s (.int .i64)], [], [], [.s (.bool)], [], [], [], F_kit_IsMode⟩
theorem b_kit_IsMode : BodyOK P t52 nL0 Tryz.f99 s_kit_IsMode := fun d => by kernel_rfl
theorem c_kit_IsMode : ∀ d r, F_kit_IsMode d = some r → ACallX P 99 (s_kit_IsMode.args0 d) (denH (s_kit_IsMode.H0 d)) (s_kit_IsMode.out r) (denH (s_kit_IsMode.H1 r)) := fun d r h => bSd hm t52_ok (sp := s_kit_IsMode) Tryz.func99 (by kernel_rfl) (nLk _ _ _) b_kit_IsMode (by kernel_rfl) h
def t53 : Tab := t52.addP s_kit_IsMode
theorem t53_ok : TabOK P t53 := t52_ok.addP (by kernel_rfl) (by kernel_rfl) c_kit_IsMode

def F_kit_IsName (d : List G) : Option (List G) :=
 (bif ((gi d 0).str.toList == (⟨#[]⟩ : ByteArray).toList) then some [.t true] else (callF (F_kit_IsKey [.s (gi d 0).str]) fun g1 => some [.t (gi g1 0).bool]))
def s_kit_IsName : FSpec := ⟨223, [.s (.str)], [], [], [.s (.bool)], [], [], [], F_kit_IsName⟩
theorem b_kit_IsName : BodyOK P t53 nL0 Tryz.f223 s_kit_IsName := fun d => by kernel_rfl
theorem c_kit_IsName : ∀ d r, F_kit_IsName d = some r → ACallX P 223 (s_kit_IsName.args0 d) (denH (s_kit_IsName.H0 d)) (s_kit_IsName.out r) (denH (s_kit_IsName.H1 r)) := fun d r h => bSd hm t53_ok (sp := s_kit_IsName) Tryz.func223 (by kernel_rfl) (nLk _ _ _) b_kit_IsName (by kernel_rfl) h
def t54 : Tab := t53.addP s_kit_IsName
theorem t54_ok : TabOK P t54 := t53_ok.addP (by kernel_rfl) (by kernel_rfl) c_kit_IsName

def F_log_CheckContact (d : List G) : Option (List G) :=
 (callF (F_kit_IsMoment [.i (gi (gi d 0).row 0).int]) fun g1 => (bif (!(gi g1 0).bool) then some [.i 1] else (callF (F_kit_IsMode [.i (gi (gi d 0).row 1).int]) fun g2 => (bif (!(gi g2 0).bool) then some [.i 4] else (callF (F_kit_IsKey [.s (gi (gi d 0).row 2).str]) fun g3 => (bif (!(gi g3 0).bool) then some [.i 5] else (callF (F_call_Is [.s (gi (gi d 0).row 3).str]) fun g4 => (bif (!(gi g4 0).bool) then some [.i 3] else (callF (F_kit_Outside [.i (gi (gi d 0).row 4).int, .i 0, .i 99999]) fun g5 => (bif (gi g5 0).bool then some [.i 1] else (callF (F_kit_Outside [.i (gi (gi d 0).row 5).int, .i 0, .i 99999]) fun g6 => (bif (gi g6 0).bool then some [.i 1] else (callF (F_kit_IsName [.s (gi (gi d 0).row 6).str]) fun g7 => (bif (!(gi g7 0).bool) then some [.i 5] else (callF (F_kit_IsName [.s (gi (gi d 0).row 7).str]) fun g8 => (bif (!(gi g8 0).bool) then some [.i 5] else some [.i 0]))))))))))))))))
def s_log_CheckContact : FSpec := ⟨157, [.s (.row KCt)], [], [], [.s (.int .i64)], [], [], [], F_log_CheckContact⟩
theorem b_log_CheckContact : BodyOK P t54 nL0 Tryz.f157 s_log_CheckContact := fun d => by kernel_rfl
theorem c_log_CheckContact : ∀ d r, F_log_CheckContact d = some r → ACallX P 157 (s_log_CheckContact.args0 d) (denH (s_log_CheckContact.H0 d)) (s_log_CheckContact.out r) (denH (s_log_CheckContact.H1 r)) := fun d r h => bSd hm t54_ok (sp := s_log_CheckContact) Tryz.func157 (by kernel_rfl) (nLk _ _ _) b_log_CheckContact (by kernel_rfl) h
def t55 : Tab := t54.addP s_log_CheckContact
theorem t55_ok : TabOK P t55 := t54_ok.addP (by kernel_rfl) (by kernel_rfl) c_log_CheckContact

def F_log_Compare (d : List G) : Option (List G) :=
 (callF (F_cmp_Compare_int [.i (gi (gi d 0).row 0).int, .i (gi (gi d 1).row 0).int]) fun g1 => (callF (F_strings_Compare [.s (gi (gi d 0).row 3).str, .s (gi (gi d 1).row 3).str]) fun g2 => (callF (F_strings_Compare [.s (gi (gi d 0).row 2).str, .s (gi (gi d 1).row 2).str]) fun g3 => (callF (F_cmp_Compare_int [.i (gi (gi d 0).row 1).int, .i (gi (gi d 1).row 1).int]) fun g4 => (callF (F_cmp_Or_int [.l [[.i (gi g1 0).int], [.i (gi g2 0).int], [.i (gi g3 0).int], [.i (gi g4 0).int]]]) fun g5 => some [.i (gi g5 0).int])))))
def s_log_Compare : FSpec := ⟨158, [.s (.row KCt), .s (.row KCt)], [], [], [.s (.int .i64)], [], [], [], F_log_Compare⟩
theorem b_log_Compare : BodyOK P t55 nL0 Tryz.f158 s_log_Compare := fun d => by kernel_rfl
theorem c_log_Compare : ∀ d r, F_log_Compare d = some r → ACallX P 158 (s_log_Compare.args0 d) (denH (s_log_Compare.H0 d)) (s_log_Compare.out r) (denH (s_log_Compare.H1 r)) := fun d r h => bSd hm t55_ok (sp := s_log_Compare) Tryz.func158 (by kernel_rfl) (nLk _ _ _) b_log_Compare (by kernel_rfl) h
def t56 : Tab := t55.addP s_log_Compare
theorem t56_ok : TabOK P t56 := t55_ok.addP (by kernel_rfl) (by kernel_rfl) c_log_Compare

def st_log_CheckLog_4 (d : List G) : Option (Option Nat × List G) :=
 (bif (ltI (gi d 3).int (gi d 2).int) then (bif ((nnI (gi d 3).int) && (ltI (gi d 3).int (((gi d 1).rows.length : Nat) : Int))) then (callF (F_log_CheckContact [.l [(gEta KCt ((gi d 1).rows.getD (((gi d 3).int).toNat) []))]]) fun g1 => (bif ((gi g1 0).int != 0) then some (some 0, [.i (gi g1 0).int]) else (bif (ltI 0 (gi d 3).int) then (bif (inI ((gi d 3).int - 1)) then (bif ((nnI ((gi d 3).int - 1)) && (ltI ((gi d 3).int - 1) (((gi d 0).rows.length : Nat) : Int))) then (callF (F_log_Compare [.l [(gEta KCt ((gi d 0).rows.getD (((gi d 3).int - 1).toNat) []))], .l [(gEta KCt ((gi d 1).rows.getD (((gi d 3).int).toNat) []))]]) fun g2 => (bif (leI 0 (gi g2 0).int) then some (some 0, [.i 7]) else (bif (inI ((gi d 3).int + 1)) then some (none, [.l (gi d 0).rows, .l (gi d 1).rows, .i (gi d 2).int, .i ((gi d 3).int + 1)]) else none))) else none) else none) else (bif (inI ((gi d 3).int + 1)) then some (none, [.l (gi d 0).rows, .l (gi d 1).rows, .i (gi d 2).int, .i ((gi d 3).int + 1)]) else none)))) else none) else some (some 1, []))
def l_log_CheckLog_4 : LSpec := ⟨4, [], ⟨34, [(0, .s (.list KCt)), (9, .s (.list KCt)), (10, .s (.int .i64)), (11, .s (.int .i64))], []⟩, [], [⟨.ret, ⟨34, [(2, .s (.int .i64))], []⟩, []⟩, ⟨.exit 0, ⟨34, [], []⟩, []⟩], st_log_CheckLog_4⟩
theorem r_log_CheckLog_4 : RoundOK P t56 nL0 0 (loopAt Tryz.f98 4) l_log_CheckLog_4 := fun d => by kernel_rfl
def L_log_CheckLog_4 : LT := nL0.add 0 l_log_CheckLog_4
theorem L_log_CheckLog_4_ok : LpK P 0 L_log_CheckLog_4 (bodyOf Tryz.f98) := LpK.add hm t56_ok (by kernel_rfl) (nLk _ _ _) r_log_CheckLog_4
def F_log_CheckLog (d : List G) : Option (List G) :=
 (bif (ltI 2000 (((gi d 0).rows.length : Nat) : Int)) then some [.i 2] else (loopB true (LRun st_log_CheckLog_4 [.l (gi d 0).rows, .l (gi d 0).rows, .i (((gi d 0).rows.length : Nat) : Int), .i 0]) fun cg3 g3 => (bif Nat.beq cg3 0 then some [.i (gi g3 0).int] else some [.i 0])))
def s_log_CheckLog : FSpec := ⟨98, [.s (.list KCt)], [], [], [.s (.int .i64)], [], [], [], F_log_CheckLog⟩
theorem b_log_CheckLog : BodyOK P t56 L_log_CheckLog_4 Tryz.f98 s_log_CheckLog := fun d => by kernel_rfl
theorem c_log_CheckLog : ∀ d r, F_log_CheckLog d = some r → ACallX P 98 (s_log_CheckLog.args0 d) (denH (s_log_CheckLog.H0 d)) (s_log_CheckLog.out r) (denH (s_log_CheckLog.H1 r)) := fun d r h => bSd hm t56_ok (sp := s_log_CheckLog) Tryz.func98 (by kernel_rfl) L_log_CheckLog_4_ok b_log_CheckLog (by kernel_rfl) h
def t57 : Tab := t56.addP s_log_CheckLog
theorem t57_ok : TabOK P t57 := t56_ok.addP (by kernel_rfl) (by kernel_rfl) c_log_CheckLog

def F_band_askedFault (d : List G) : Option (List G) :=
 (callF (F_kit_Outside [.i (gi d 0).int, .i 1, .i 86400000]) fun g1 => (bif (gi g1 0).bool then some [.i 1] else (callF (F_kit_IsMoment [.i (gi d 1).int]) fun g2 => (bif (!(gi g2 0).bool) then some [.i 1] else (callF (F_kit_Outside [.i (gi d 2).int, .i 0, .i 30000000000]) fun g3 => (bif (gi g3 0).bool then some [.i 1] else some [.i 0]))))))
def s_band_askedFault : FSpec := ⟨72, [.s (.int .i64), .s (.int .i64), .s (.int .i64)], [], [], [.s (.int .i64)], [], [], [], F_band_askedFault⟩
theorem b_band_askedFault : BodyOK P t57 nL0 Tryz.f72 s_band_askedFault := fun d => by kernel_rfl
theorem c_band_askedFault : ∀ d r, F_band_askedFault d = some r → ACallX P 72 (s_band_askedFault.args0 d) (denH (s_band_askedFault.H0 d)) (s_band_askedFault.out r) (denH (s_band_askedFault.H1 r)) := fun d r h => bSd hm t57_ok (sp := s_band_askedFault) Tryz.func72 (by kernel_rfl) (nLk _ _ _) b_band_askedFault (by kernel_rfl) h
def t58 : Tab := t57.addP s_band_askedFault
theorem t58_ok : TabOK P t58 := t57_ok.addP (by kernel_rfl) (by kernel_rfl) c_band_askedFault

def F_call_BaseOf (d : List G) : Option (List G) :=
 (callF (F_call_Parts [.s (gi d 0).str]) fun g1 => some [.s (gi (gi g1 0).row 0).str])
def s_call_BaseOf : FSpec := ⟨100, [.s (.str)], [], [], [.s (.str)], [], [], [], F_call_BaseOf⟩
theorem b_call_BaseOf : BodyOK P t58 nL0 Tryz.f100 s_call_BaseOf := fun d => by kernel_rfl
theorem c_call_BaseOf : ∀ d r, F_call_BaseOf d = some r → ACallX P 100 (s_call_BaseOf.args0 d) (denH (s_call_BaseOf.H0 d)) (s_call_BaseOf.out r) (denH (s_call_BaseOf.H1 r)) := fun d r h => bSd hm t58_ok (sp := s_call_BaseOf) Tryz.func100 (by kernel_rfl) (nLk _ _ _) b_call_BaseOf (by kernel_rfl) h
def t59 : Tab := t58.addP s_call_BaseOf
theorem t59_ok : TabOK P t59 := t58_ok.addP (by kernel_rfl) (by kernel_rfl) c_call_BaseOf

def t60 : Tab := t59.inlineW P 138 Tryz.f138
theorem t60_ok : TabOK P t60 := t59_ok.inlineW hm Tryz.func138 (by kernel_rfl) (by kernel_rfl)

def F_log_At_1 (d : List G) : Option (List G) :=
 (bif (leI (gi (gi d 0).row 1).int (gi (gi d 1).row 0).int) then some [.t (ltI (gi (gi d 1).row 0).int (gi (gi d 0).row 2).int)] else some [.t false])
def s_log_At_1 : FSpec := ⟨167, [.s (.row KBand), .s (.cptr [.int .i64])], [], [], [.s (.bool)], [], [], [], F_log_At_1⟩
theorem b_log_At_1 : BodyOK P t60 nL0 Tryz.f167 s_log_At_1 := fun d => by kernel_rfl
theorem c_log_At_1 : ∀ d r, F_log_At_1 d = some r → ACallX P 167 (s_log_At_1.args0 d) (denH (s_log_At_1.H0 d)) (s_log_At_1.out r) (denH (s_log_At_1.H1 r)) := fun d r h => bSd hm t60_ok (sp := s_log_At_1) Tryz.func167 (by kernel_rfl) (nLk _ _ _) b_log_At_1 (by kernel_rfl) h
def t61 : Tab := t60.addP s_log_At_1
theorem t61_ok : TabOK P t61 := t60_ok.addP (by kernel_rfl) (by kernel_rfl) c_log_At_1

def st_sl_IndexFunc_Band_2_2 (d : List G) : Option (Option Nat × List G) :=
 (bif (ltI (gi d 3).int (gi d 2).int) then (bif ((nnI (gi d 3).int) && (ltI (gi d 3).int (((gi d 0).rows.length : Nat) : Int))) then (callF (F_log_At_1 [.l [(gEta KBand ((gi d 0).rows.getD (((gi d 3).int).toNat) []))], .l [[.i (gi (gi d 1).row 0).int]]]) fun g1 => (bif (gi g1 0).bool then some (some 0, [.i (gi d 3).int]) else (bif (inI ((gi d 3).int + 1)) then some (none, [.l (gi d 0).rows, .l [[.i (gi (gi d 1).row 0).int]], .i (gi d 2).int, .i ((gi d 3).int + 1)]) else none))) else none) else some (some 1, []))
def l_sl_IndexFunc_Band_2_2 : LSpec := ⟨2, [], ⟨19, [(0, .s (.list KBand)), (1, .clo 167 [.cptr [.int .i64]]), (7, .s (.int .i64)), (8, .s (.int .i64))], []⟩, [], [⟨.ret, ⟨19, [(4, .s (.int .i64))], []⟩, []⟩, ⟨.exit 0, ⟨19, [], []⟩, []⟩], st_sl_IndexFunc_Band_2_2⟩
theorem r_sl_IndexFunc_Band_2_2 : RoundOK P t61 nL0 0 (loopAt Tryz.f145 2) l_sl_IndexFunc_Band_2_2 := fun d => by kernel_rfl
def L_sl_IndexFunc_Band_2_2 : LT := nL0.add 0 l_sl_IndexFunc_Band_2_2
theorem L_sl_IndexFunc_Band_2_2_ok : LpK P 0 L_sl_IndexFunc_Band_2_2 (bodyOf Tryz.f145) := LpK.add hm t61_ok (by kernel_rfl) (nLk _ _ _) r_sl_IndexFunc_Band_2_2
def F_sl_IndexFunc_Band_2 (d : List G) : Option (List G) :=
 (loopB true (LRun st_sl_IndexFunc_Band_2_2 [.l (gi d 0).rows, .l [[.i (gi (gi d 1).row 0).int]], .i (((gi d 0).rows.length : Nat) : Int), .i 0]) fun cg2 g2 => (bif Nat.beq cg2 0 then some [.i (gi g2 0).int] else some [.i (-1)]))
def s_sl_IndexFunc_Band_2 : FSpec := ⟨145, [.s (.list KBand), .clo 167 [.cptr [.int .i64]]], [], [], [.s (.int .i64)], [], [], [], F_sl_IndexFunc_Band_2⟩
theorem b_sl_IndexFunc_Band_2 : BodyOK P t61 L_sl_IndexFunc_Band_2_2 Tryz.f145 s_sl_IndexFunc_Band_2 := fun d => by kernel_rfl
theorem c_sl_IndexFunc_Band_2 : ∀ d r, F_sl_IndexFunc_Band_2 d = some r → ACallX P 145 (s_sl_IndexFunc_Band_2.args0 d) (denH (s_sl_IndexFunc_Band_2.H0 d)) (s_sl_IndexFunc_Band_2.out r) (denH (s_sl_IndexFunc_Band_2.H1 r)) := fun d r h => bSd hm t61_ok (sp := s_sl_IndexFunc_Band_2) Tryz.func145 (by kernel_rfl) L_sl_IndexFunc_Band_2_2_ok b_sl_IndexFunc_Band_2 (by kernel_rfl) h
def t62 : Tab := t61.addP s_sl_IndexFunc_Band_2
theorem t62_ok : TabOK P t62 := t61_ok.addP (by kernel_rfl) (by kernel_rfl) c_sl_IndexFunc_Band_2

def F_log_At (d : List G) : Option (List G) :=
 (callF (F_sl_IndexFunc_Band_2 [.l (gi d 0).rows, .l [[.i (gi d 1).int]]]) fun g1 => some [.i (gi g1 0).int])
def s_log_At : FSpec := ⟨115, [.s (.list KBand), .s (.int .i64)], [], [], [.s (.int .i64)], [], [], [], F_log_At⟩
theorem b_log_At : BodyOK P (t62.lessPf [145]) nL0 Tryz.f115 s_log_At := fun d => by kernel_rfl
theorem c_log_At : ∀ d r, F_log_At d = some r → ACallX P 115 (s_log_At.args0 d) (denH (s_log_At.H0 d)) (s_log_At.out r) (denH (s_log_At.H1 r)) := fun d r h => bSd hm (t62_ok.lessPf [145]) (sp := s_log_At) Tryz.func115 (by kernel_rfl) (nLk _ _ _) b_log_At (by kernel_rfl) h
def t63 : Tab := t62.addP s_log_At
theorem t63_ok : TabOK P t63 := t62_ok.addP (by kernel_rfl) (by kernel_rfl) c_log_At

def st_sl_Reverse_Spot_1 (d : List G) : Option (Option Nat × List G) :=
 (bif (ltI (gi d 1).int (gi d 2).int) then (bif ((nnI (gi d 2).int) && (ltI (gi d 2).int (((gi d 0).rows.length : Nat) : Int))) then (bif (decide ((0 + ((gi d 2).int).toNat) < (gi d 0).rows.length)) then (bif ((nnI (gi d 1).int) && (ltI (gi d 1).int (((gi d 0).rows.length : Nat) : Int))) then (bif (decide ((0 + ((gi d 1).int).toNat) < (gi d 0).rows.length)) then (bif ((nnI (gi d 1).int) && (ltI (gi d 1).int (((gi d 0).rows.length : Nat) : Int))) then (bif (decide ((0 + ((gi d 1).int).toNat) < (gi d 0).rows.length)) then (bif ((nnI (gi d 2).int) && (ltI (gi d 2).int (((gi d 0).rows.length : Nat) : Int))) then (bif (decide ((0 + ((gi d 2).int).toNat) < ((gi d 0).rows.set (0 + ((gi d 1).int).toNat) (putG KSpot ((gi d 0).rows.getD (0 + ((gi d 1).int).toNat) []) 0 (gEta KSpot ((gi d 0).rows.getD (0 + ((gi d 2).int).toNat) [])))).length)) then (bif (inI ((gi d 1).int + 1)) then (bif (inI ((gi d 2).int - 1)) then (bif ((Nat.beq (gi d 0).rows.length (((gi d 0).rows.set (0 + ((gi d 1).int).toNat) (putG KSpot ((gi d 0).rows.getD (0 + ((gi d 1).int).toNat) []) 0 (gEta KSpot ((gi d 0).rows.getD (0 + ((gi d 2).int).toNat) [])))).set (0 + ((gi d 2).int).toNat) (putG KSpot (((gi d 0).rows.set (0 + ((gi d 1).int).toNat) (putG KSpot ((gi d 0).rows.getD (0 + ((gi d 1).int).toNat) []) 0 (gEta KSpot ((gi d 0).rows.getD (0 + ((gi d 2).int).toNat) [])))).getD (0 + ((gi d 2).int).toNat) []) 0 (gEta KSpot ((gi d 0).rows.getD (0 + ((gi d 1).int).toNat) [])))).length) && true) then some (none, [.l (((gi d 0).rows.set (0 + ((gi d 1).int).toNat) (putG KSpot ((gi d 0).rows.getD (0 + ((gi d 1).int).toNat) []) 0 (gEta KSpot ((gi d 0).rows.getD (0 + ((gi d 2).int).toNat) [])))).set (0 + ((gi d 2).int).toNat) (putG KSpot (((gi d 0).rows.set (0 + ((gi d 1).int).toNat) (putG KSpot ((gi d 0).rows.getD (0 + ((gi d 1).int).toNat) []) 0 (gEta KSpot ((gi d 0).rows.getD (0 + ((gi d 2).int).toNat) [])))).getD (0 + ((gi d 2).int).toNat) []) 0 (gEta KSpot ((gi d 0).rows.getD (0 + ((gi d 1).int).toNat) [])))), .i ((gi d 1).int + 1), .i ((gi d 2).int - 1)]) else none) else none) else none) else none) else none) else none) else none) else none) else none) else none) else none) else some (some 0, [.l (gi d 0).rows]))
def l_sl_Reverse_Spot_1 : LSpec := ⟨1, [], ⟨28, [(0, .s (.vec 0 4)), (2, .s (.int .i64)), (3, .s (.int .i64))], [.vec KSpot 0]⟩, [.fix 0], [⟨.exit 0, ⟨28, [], [.vec KSpot 0]⟩, [.fix 0]⟩], st_sl_Reverse_Spot_1⟩
theorem r_sl_Reverse_Spot_1 : RoundOK P t63 nL0 1 (loopAt Tryz.f139 1) l_sl_Reverse_Spot_1 := fun d => by kernel_rfl
def L_sl_Reverse_Spot_1 : LT := nL0.add 1 l_sl_Reverse_Spot_1
theorem L_sl_Reverse_Spot_1_ok : LpK P 1 L_sl_Reverse_Spot_1 (bodyOf Tryz.f139) := LpK.add hm t63_ok (by kernel_rfl) (nLk _ _ _) r_sl_Reverse_Spot_1
def F_sl_Reverse_Spot (d : List G) : Option (List G) :=
 (bif (inI ((((gi d 0).rows.length : Nat) : Int) - 1)) then (loopB ((Nat.beq (gi d 0).rows.length (gi d 0).rows.length) && true) (LRun st_sl_Reverse_Spot_1 [.l (gi d 0).rows, .i 0, .i ((((gi d 0).rows.length : Nat) : Int) - 1)]) fun cg1 g1 => some [.l (gi g1 0).rows]) else none)
def s_sl_Reverse_Spot : FSpec := ⟨139, [.s (.vec 0 4)], [.vec KSpot 0], [.slot 0], [], [.vec KSpot 0], [.fix 0], [], F_sl_Reverse_Spot⟩
theorem b_sl_Reverse_Spot : BodyOK P t63 L_sl_Reverse_Spot_1 Tryz.f139 s_sl_Reverse_Spot := fun d => by kernel_rfl
theorem c_sl_Reverse_Spot : ∀ d r, F_sl_Reverse_Spot d = some r → ACallX P 139 (s_sl_Reverse_Spot.args0 d) (denH (s_sl_Reverse_Spot.H0 d)) (s_sl_Reverse_Spot.out r) (denH (s_sl_Reverse_Spot.H1 r)) := fun d r h => bSd hm t63_ok (sp := s_sl_Reverse_Spot) Tryz.func139 (by kernel_rfl) L_sl_Reverse_Spot_1_ok b_sl_Reverse_Spot (by kernel_rfl) h
def t64 : Tab := t63.addW s_sl_Reverse_Spot
theorem t64_ok : TabOK P t64 := t63_ok.addW (by kernel_rfl) (by kernel_rfl) c_sl_Reverse_Spot

def st_sl_Reverse_int_1 (d : List G) : Option (Option Nat × List G) :=
 (bif (ltI (gi d 1).int (gi d 2).int) then (bif ((nnI (gi d 2).int) && (ltI (gi d 2).int (((gi d 0).rows.length : Nat) : Int))) then (bif (decide ((0 + ((gi d 2).int).toNat) < (gi d 0).rows.length)) then (bif ((nnI (gi d 1).int) && (ltI (gi d 1).int (((gi d 0).rows.length : Nat) : Int))) then (bif (decide ((0 + ((gi d 1).int).toNat) < (gi d 0).rows.length)) then (bif ((nnI (gi d 1).int) && (ltI (gi d 1).int (((gi d 0).rows.length : Nat) : Int))) then (bif (decide ((0 + ((gi d 1).int).toNat) < (gi d 0).rows.length)) then (bif ((nnI (gi d 2).int) && (ltI (gi d 2).int (((gi d 0).rows.length : Nat) : Int))) then (bif (decide ((0 + ((gi d 2).int).toNat) < ((gi d 0).rows.set (0 + ((gi d 1).int).toNat) (putG [.int .i64] ((gi d 0).rows.getD (0 + ((gi d 1).int).toNat) []) 0 [.i (gi ((gi d 0).rows.getD (0 + ((gi d 2).int).toNat) []) 0).int])).length)) then (bif (inI ((gi d 1).int + 1)) then (bif (inI ((gi d 2).int - 1)) then (bif ((Nat.beq (gi d 0).rows.length (((gi d 0).rows.set (0 + ((gi d 1).int).toNat) (putG [.int .i64] ((gi d 0).rows.getD (0 + ((gi d 1).int).toNat) []) 0 [.i (gi ((gi d 0).rows.getD (0 + ((gi d 2).int).toNat) []) 0).int])).set (0 + ((gi d 2).int).toNat) (putG [.int .i64] (((gi d 0).rows.set (0 + ((gi d 1).int).toNat) (putG [.int .i64] ((gi d 0).rows.getD (0 + ((gi d 1).int).toNat) []) 0 [.i (gi ((gi d 0).rows.getD (0 + ((gi d 2).int).toNat) []) 0).int])).getD (0 + ((gi d 2).int).toNat) []) 0 [.i (gi ((gi d 0).rows.getD (0 + ((gi d 1).int).toNat) []) 0).int])).length) && true) then some (none, [.l (((gi d 0).rows.set (0 + ((gi d 1).int).toNat) (putG [.int .i64] ((gi d 0).rows.getD (0 + ((gi d 1).int).toNat) []) 0 [.i (gi ((gi d 0).rows.getD (0 + ((gi d 2).int).toNat) []) 0).int])).set (0 + ((gi d 2).int).toNat) (putG [.int .i64] (((gi d 0).rows.set (0 + ((gi d 1).int).toNat) (putG [.int .i64] ((gi d 0).rows.getD (0 + ((gi d 1).int).toNat) []) 0 [.i (gi ((gi d 0).rows.getD (0 + ((gi d 2).int).toNat) []) 0).int])).getD (0 + ((gi d 2).int).toNat) []) 0 [.i (gi ((gi d 0).rows.getD (0 + ((gi d 1).int).toNat) []) 0).int])), .i ((gi d 1).int + 1), .i ((gi d 2).int - 1)]) else none) else none) else none) else none) else none) else none) else none) else none) else none) else none) else none) else some (some 0, [.l (gi d 0).rows]))
def l_sl_Reverse_int_1 : LSpec := ⟨1, [], ⟨28, [(0, .s (.vec 0 1)), (2, .s (.int .i64)), (3, .s (.int .i64))], [.vec [.int .i64] 0]⟩, [.fix 0], [⟨.exit 0, ⟨28, [], [.vec [.int .i64] 0]⟩, [.fix 0]⟩], st_sl_Reverse_int_1⟩
theorem r_sl_Reverse_int_1 : RoundOK P t64 nL0 1 (loopAt Tryz.f140 1) l_sl_Reverse_int_1 := fun d => by kernel_rfl
def L_sl_Reverse_int_1 : LT := nL0.add 1 l_sl_Reverse_int_1
theorem L_sl_Reverse_int_1_ok : LpK P 1 L_sl_Reverse_int_1 (bodyOf Tryz.f140) := LpK.add hm t64_ok (by kernel_rfl) (nLk _ _ _) r_sl_Reverse_int_1
def F_sl_Reverse_int (d : List G) : Option (List G) :=
 (bif (inI ((((gi d 0).rows.length : Nat) : Int) - 1)) then (loopB ((Nat.beq (gi d 0).rows.length (gi d 0).rows.length) && true) (LRun st_sl_Reverse_int_1 [.l (gi d 0).rows, .i 0, .i ((((gi d 0).rows.length : Nat) : Int) - 1)]) fun cg1 g1 => some [.l (gi g1 0).rows]) else none)
def s_sl_Reverse_int : FSpec := ⟨140, [.s (.vec 0 1)], [.vec [.int .i64] 0], [.slot 0], [], [.vec [.int .i64] 0], [.fix 0], [], F_sl_Reverse_int⟩
theorem b_sl_Reverse_int : BodyOK P t64 L_sl_Reverse_int_1 Tryz.f140 s_sl_Reverse_int := fun d => by kernel_rfl
theorem c_sl_Reverse_int : ∀ d r, F_sl_Reverse_int d = some r → ACallX P 140 (s_sl_Reverse_int.args0 d) (denH (s_sl_Reverse_int.H0 d)) (s_sl_Reverse_int.out r) (denH (s_sl_Reverse_int.H1 r)) := fun d r h => bSd hm t64_ok (sp := s_sl_Reverse_int) Tryz.func140 (by kernel_rfl) L_sl_Reverse_int_1_ok b_sl_Reverse_int (by kernel_rfl) h
def t65 : Tab := t64.addW s_sl_Reverse_int
theorem t65_ok : TabOK P t65 := t64_ok.addW (by kernel_rfl) (by kernel_rfl) c_sl_Reverse_int

theorem bwf_201 : BwFact P ⟨201, 28, 47, 4, 4, true⟩ := bwFact_of Tryz.func201 (by kernel_rfl) rfl rfl rfl ⟨⟨_, _, _, _, _, _, rfl, ⟨rfl, rfl, rfl⟩, ⟨rfl, rfl, rfl⟩, ⟨rfl, rfl, rfl⟩, ⟨rfl, rfl, rfl⟩⟩, ⟨_, _, _, _, rfl, ⟨rfl, rfl, rfl⟩, ⟨rfl, rfl, rfl⟩⟩, ⟨_, _, _, _, _, rfl, ⟨rfl, rfl, rfl⟩, ⟨rfl, rfl, rfl⟩, ⟨rfl, rfl, rfl⟩⟩, ⟨_, _, _, _, _, _, _, _, _, _, rfl, ⟨rfl, rfl, rfl⟩, ⟨rfl, rfl, rfl⟩, ⟨rfl, rfl, rfl⟩, ⟨rfl, rfl, rfl⟩, ⟨rfl, rfl, rfl⟩, ⟨rfl, rfl, rfl⟩, ⟨rfl, rfl, rfl⟩, ⟨rfl, rfl, rfl⟩⟩⟩ (by kernel_rfl)
def br_band_heard_2 (i : Int) (r d : List G) : Option (List G) :=
 (callF (F_log_At [.l (gi d 0).rows, .i (gi r 1).int]) fun g1 => (bif (inI ((gi d 2).int - (gi d 1).int)) then (bif (leI (gi r 0).int ((gi d 2).int - (gi d 1).int)) then (bif ((((Nat.beq (gi d 3).rows.length (gi d 3).rows.length) && true) && (((Nat.beq (gi d 4).rows.length (gi d 4).rows.length) && true) && true)) && true) then some [.l (gi d 0).rows, .i (gi d 1).int, .i (gi d 2).int, .l (gi d 3).rows, .l (gi d 4).rows, .l (gi d 5).rows, .i (((gi d 6).int.toNat : Nat) : Int)] else none) else (bif (ltI (gi d 2).int (gi r 0).int) then (bif ((((Nat.beq (gi d 3).rows.length (gi d 3).rows.length) && true) && (((Nat.beq (gi d 4).rows.length (gi d 4).rows.length) && true) && true)) && true) then some [.l (gi d 0).rows, .i (gi d 1).int, .i (gi d 2).int, .l (gi d 3).rows, .l (gi d 4).rows, .l (gi d 5).rows, .i (((gi d 6).int.toNat : Nat) : Int)] else none) else (bif (ltI (gi g1 0).int 0) then (bif ((((Nat.beq (gi d 3).rows.length (gi d 3).rows.length) && true) && (((Nat.beq (gi d 4).rows.length (gi d 4).rows.length) && true) && true)) && true) then some [.l (gi d 0).rows, .i (gi d 1).int, .i (gi d 2).int, .l (gi d 3).rows, .l (gi d 4).rows, .l (gi d 5).rows, .i (((gi d 6).int.toNat : Nat) : Int)] else none) else (bif (gi (mget [.str, .int .i64] (gi d 5).rows [.s (gi r 2).str, .i (gi g1 0).int] [.t false]) 0).bool then (bif ((((Nat.beq (gi d 3).rows.length (gi d 3).rows.length) && true) && (((Nat.beq (gi d 4).rows.length (gi d 4).rows.length) && true) && true)) && true) then some [.l (gi d 0).rows, .i (gi d 1).int, .i (gi d 2).int, .l (gi d 3).rows, .l (gi d 4).rows, .l (gi d 5).rows, .i (((gi d 6).int.toNat : Nat) : Int)] else none) else (bif ((Nat.beq (gi d 3).rows.length (gi d 3).rows.length) && (decide (((gi d 3).rows.length + 1) ≤ 1048576))) then (bif ((Nat.beq (gi d 4).rows.length (gi d 4).rows.length) && (decide (((gi d 4).rows.length + 1) ≤ 1048576))) then (bif ((((Nat.beq ((gi d 3).rows ++ ([(gEta KSpot r)] : List (List G))).length ((gi d 3).rows ++ ([(gEta KSpot r)] : List (List G))).length) && true) && (((Nat.beq ((gi d 4).rows ++ ([[.i (gi g1 0).int]] : List (List G))).length ((gi d 4).rows ++ ([[.i (gi g1 0).int]] : List (List G))).length) && true) && true)) && true) then some [.l (gi d 0).rows, .i (gi d 1).int, .i (gi d 2).int, .l ((gi d 3).rows ++ ([(gEta KSpot r)] : List (List G))), .l ((gi d 4).rows ++ ([[.i (gi g1 0).int]] : List (List G))), .l (mput [.str, .int .i64] (gi d 5).rows [.s (gi r 2).str, .i (gi g1 0).int] [.t true] (gi d 6).int.toNat), .i (((mclk [.str, .int .i64] (gi d 5).rows [.s (gi r 2).str, .i (gi g1 0).int] (gi d 6).int.toNat) : Nat) : Int)] else none) else none) else none))))) else none))
def bi_band_heard_2 (d : List G) : List G := [.l (gi d 0).rows, .i (gi d 1).int, .i (gi d 2).int, .l (gi d 3).rows, .l (gi d 4).rows, .l (gi d 5).rows, .i (((gi d 6).int.toNat : Nat) : Int)]
def bd_band_heard_2 (d : List G) : Bool := ((((Nat.beq (gi d 3).rows.length (gi d 3).rows.length) && true) && (((Nat.beq (gi d 4).rows.length (gi d 4).rows.length) && true) && true)) && true)
def bs_band_heard_2 : BSpec := ⟨⟨65, [(4, .s (.ptr 0 0)), (6, .s (.ptr 1 0)), (7, .s (.ptr 2 0)), (8, .s (.ptr 3 0)), (9, .s (.ptr 5 0)), (10, .s (.ptr 7 0))], [.box [.list KBand], .box [.int .i64], .box [.int .i64], .box [.vec 4 4], .vec KSpot 1, .box [.vec 6 1], .vec [.int .i64] 1, .box [.map 8], .map (.agg [.str, .int .i64]) (.one (.bool))]⟩, [.slot 4, .slot 6, .slot 7, .slot 8, .cell 3 0, .slot 9, .cell 5 0, .slot 10, .cell 7 0], [], KSpot, true, 4, 9, 17, 18, bi_band_heard_2, bd_band_heard_2, br_band_heard_2⟩
theorem w_band_heard_2 : BRound P t65 (nL0.hinted [(1, [.openCell 8 0 KSpot, .openCell 9 0 [.int .i64]])]) bs_band_heard_2 (kAs (cutAt Tryz.f73 2)) (kBd (cutAt Tryz.f73 2)) := fun i r d => by kernel_rfl
def tr_band_heard_2 (d : List G) : Option (Option Nat × List G) :=
 (callB (((Nat.beq (gi d 3).rows.length (gi d 3).rows.length) && true) && (F_sl_Reverse_Spot [.l (gi d 3).rows]).isSome) (F_sl_Reverse_Spot [.l (gi d 3).rows]) fun g2 => (callB (((Nat.beq (gi d 4).rows.length (gi d 4).rows.length) && true) && (F_sl_Reverse_int [.l (gi d 4).rows]).isSome) (F_sl_Reverse_int [.l (gi d 4).rows]) fun g3 => (bif ((((Nat.beq (gi d 3).rows.length (gi g2 0).rows.length) && true) && (((Nat.beq (gi d 4).rows.length (gi g3 0).rows.length) && true) && true)) && true) then some (some 0, [.l (gi g2 0).rows, .l (gi g3 0).rows]) else none)))
def l_band_heard_2r : LSpec := ⟨8, [], ⟨65, [(4, .s (.ptr 0 0)), (6, .s (.ptr 1 0)), (7, .s (.ptr 2 0)), (8, .s (.ptr 3 0)), (9, .s (.ptr 5 0)), (10, .s (.ptr 7 0))], [.box [.list KBand], .box [.int .i64], .box [.int .i64], .box [.vec 4 4], .vec KSpot 1, .box [.vec 6 1], .vec [.int .i64] 1, .box [.map 8], .map (.agg [.str, .int .i64]) (.one (.bool))]⟩, [], [⟨.ret, ⟨65, [(8, .s (.ptr 0 0)), (9, .s (.ptr 2 0))], [.box [.vec 1 4], .vec KSpot 0, .box [.vec 3 1], .vec [.int .i64] 0]⟩, [.slot 8, .cell 0 0, .slot 9, .cell 2 0]⟩], tr_band_heard_2⟩
theorem v_band_heard_2 : CutOK P t65 (nL0.hinted [(1, [.openCell 8 0 KSpot, .openCell 9 0 [.int .i64]])]) 0 (rRest (cutAt Tryz.f73 2)) l_band_heard_2r := fun d => by kernel_rfl
def tl_band_heard_2 (d : List G) : Option (Option Nat × List G) :=
 backR bs_band_heard_2 tr_band_heard_2 ((gi d 7).rows) d
def l_band_heard_2c : LSpec := ⟨2, [], ⟨65, [(1, .s (.list KSpot)), (4, .s (.ptr 0 0)), (6, .s (.ptr 1 0)), (7, .s (.ptr 2 0)), (8, .s (.ptr 3 0)), (9, .s (.ptr 5 0)), (10, .s (.ptr 7 0))], [.box [.list KBand], .box [.int .i64], .box [.int .i64], .box [.vec 4 4], .vec KSpot 0, .box [.vec 6 1], .vec [.int .i64] 0, .box [.map 8], .map (.agg [.str, .int .i64]) (.one (.bool))]⟩, [.slot 4, .slot 6, .slot 7, .slot 8, .cell 3 0, .slot 9, .cell 5 0, .slot 10, .cell 7 0], [⟨.ret, ⟨65, [(8, .s (.ptr 0 0)), (9, .s (.ptr 2 0))], [.box [.vec 1 4], .vec KSpot 0, .box [.vec 3 1], .vec [.int .i64] 0]⟩, [.slot 8, .cell 0 0, .slot 9, .cell 2 0]⟩], tl_band_heard_2⟩
def L_band_heard_2c : LT := (nL0.hinted [(1, [.openCell 8 0 KSpot, .openCell 9 0 [.int .i64]])]).addCut 0 l_band_heard_2c
theorem L_band_heard_2c_ok : LpK P 0 L_band_heard_2c (bodyOf Tryz.f73) := LpK.addBack (i := ⟨201, 28, 47, 4, 4, true⟩) (q := l_band_heard_2c) (qr := l_band_heard_2r) (sp := bs_band_heard_2) (b := 0) (g := 16) (wd := 0) (L0 := (nL0.hinted [(1, [.openCell 8 0 KSpot, .openCell 9 0 [.int .i64]])])) (rows := fun d => (gi d 7).rows) (pre := fun d => preB P t65 (nL0.hinted [(1, [.openCell 8 0 KSpot, .openCell 9 0 [.int .i64]])]) (cutAt Tryz.f73 2) (mkSt l_band_heard_2c.inv d)) hm t65_ok bwf_201 (by kernel_rfl) (hinted_ok _) (fun _ _ => hinted_ok _) (by kernel_rfl) w_band_heard_2 (by kernel_rfl) (by kernel_rfl) (fun d => by kernel_rfl) (fun d => by kernel_rfl) (fun d => by kernel_rfl) (fun d => by kernel_rfl) (fun d => by kernel_rfl) rfl rfl v_band_heard_2 (fun d => rfl)
def F_band_heard (d : List G) : Option (List G) :=
 (loopB true (cutR (tl_band_heard_2 [.l (gi d 0).rows, .i (gi d 2).int, .i (gi d 3).int, .l [], .l [], .l [], .i 0, .l (gi d 1).rows])) fun cg4 g4 => (bif ((Nat.beq (gi g4 0).rows.length (gi g4 0).rows.length) && ((Nat.beq (gi g4 1).rows.length (gi g4 1).rows.length) && true)) then some [.l (gi g4 0).rows, .l (gi g4 1).rows] else none))
def s_band_heard : FSpec := ⟨73, [.s (.list KBand), .s (.list KSpot), .s (.int .i64), .s (.int .i64)], [], [], [.s (.list KSpot), .s (.list [.int .i64])], [], [], [], F_band_heard⟩
theorem b_band_heard : BodyOK P t65 L_band_heard_2c Tryz.f73 s_band_heard := fun d => by kernel_rfl
theorem c_band_heard : ∀ d r, F_band_heard d = some r → ACallX P 73 (s_band_heard.args0 d) (denH (s_band_heard.H0 d)) (s_band_heard.out r) (denH (s_band_heard.H1 r)) := fun d r h => bSd hm t65_ok (sp := s_band_heard) Tryz.func73 (by kernel_rfl) L_band_heard_2c_ok b_band_heard (by kernel_rfl) h
def t66 : Tab := t65.addP s_band_heard
theorem t66_ok : TabOK P t66 := t65_ok.addP (by kernel_rfl) (by kernel_rfl) c_band_heard

def F_band_Worth_1 (d : List G) : Option (List G) :=
 (bif (inI ((gi (gi d 0).row 1).int - (gi (gi d 1).row 0).int)) then (bif (inI ((gi (gi d 1).row 0).int - (gi (gi d 0).row 1).int)) then some [.i (if ((gi (gi d 1).row 0).int - (gi (gi d 0).row 1).int) > ((gi (gi d 0).row 1).int - (gi (gi d 1).row 0).int) then ((gi (gi d 1).row 0).int - (gi (gi d 0).row 1).int) else ((gi (gi d 0).row 1).int - (gi (gi d 1).row 0).int))] else none) else none)
def s_band_Worth_1 : FSpec := ⟨101, [.s (.row KSpot), .s (.cptr [.int .i64])], [], [], [.s (.int .i64)], [], [], [], F_band_Worth_1⟩
theorem b_band_Worth_1 : BodyOK P t66 nL0 Tryz.f101 s_band_Worth_1 := fun d => by kernel_rfl
theorem c_band_Worth_1 : ∀ d r, F_band_Worth_1 d = some r → ACallX P 101 (s_band_Worth_1.args0 d) (denH (s_band_Worth_1.H0 d)) (s_band_Worth_1.out r) (denH (s_band_Worth_1.H1 r)) := fun d r h => bSd hm t66_ok (sp := s_band_Worth_1) Tryz.func101 (by kernel_rfl) (nLk _ _ _) b_band_Worth_1 (by kernel_rfl) h
def t67 : Tab := t66.addP s_band_Worth_1
theorem t67_ok : TabOK P t67 := t66_ok.addP (by kernel_rfl) (by kernel_rfl) c_band_Worth_1

def F_band_Worth_2 (d : List G) : Option (List G) :=
 (callF (F_band_Worth_1 [.l [(gEta KSpot (gi d 1).row)], .l [[.i (gi d 0).int]]]) fun g1 => (callF (F_band_Worth_1 [.l [(gEta KSpot (gi d 2).row)], .l [[.i (gi d 0).int]]]) fun g2 => (bif (inI ((gi g1 0).int - (gi g2 0).int)) then some [.i (gi d 0).int, .i ((gi g1 0).int - (gi g2 0).int)] else none)))
def s_band_Worth_2 : FSpec := ⟨102, [.s (.row KSpot), .s (.row KSpot), .s (.ptr 0 0)], [.box [.cloP 101 [1]], .box [.int .i64]], [.slot 2, .ccap 0 0 0], [.s (.int .i64)], [.box [.cloP 101 [1]], .box [.int .i64]], [.fix 0, .fix 1], [], F_band_Worth_2⟩
theorem b_band_Worth_2 : BodyOK P (t67.lessPf [101]) nL0 Tryz.f102 s_band_Worth_2 := fun d => by kernel_rfl
theorem c_band_Worth_2 : ∀ d r, F_band_Worth_2 d = some r → ACallX P 102 (s_band_Worth_2.args0 d) (denH (s_band_Worth_2.H0 d)) (s_band_Worth_2.out r) (denH (s_band_Worth_2.H1 r)) := fun d r h => bSd hm (t67_ok.lessPf [101]) (sp := s_band_Worth_2) Tryz.func102 (by kernel_rfl) (nLk _ _ _) b_band_Worth_2 (by kernel_rfl) h
def t68 : Tab := t67.addW s_band_Worth_2
theorem t68_ok : TabOK P t68 := t67_ok.addW (by kernel_rfl) (by kernel_rfl) c_band_Worth_2

def st_insS_Spot_2_4 (d : List G) : Option (Option Nat × List G) :=
 (bif (ltI (gi d 2).int (gi d 5).int) then (bif ((nnI (gi d 5).int) && (ltI (gi d 5).int (((gi d 0).rows.length : Nat) : Int))) then (bif (decide ((0 + ((gi d 5).int).toNat) < (gi d 0).rows.length)) then (bif (inI ((gi d 5).int - 1)) then (bif ((nnI ((gi d 5).int - 1)) && (ltI ((gi d 5).int - 1) (((gi d 0).rows.length : Nat) : Int))) then (bif (decide ((0 + ((gi d 5).int - 1).toNat) < (gi d 0).rows.length)) then (callF (F_band_Worth_2 [.i (gi d 1).int, .l [(gEta KSpot ((gi d 0).rows.getD (0 + ((gi d 5).int).toNat) []))], .l [(gEta KSpot ((gi d 0).rows.getD (0 + ((gi d 5).int - 1).toNat) []))]]) fun g1 => (bif (ltI (gi g1 1).int 0) then (bif (inI ((gi d 5).int - 1)) then (bif (inI ((gi d 5).int - 1)) then (bif ((nnI ((gi d 5).int - 1)) && (ltI ((gi d 5).int - 1) (((gi d 0).rows.length : Nat) : Int))) then (bif (decide ((0 + ((gi d 5).int - 1).toNat) < (gi d 0).rows.length)) then (bif ((nnI (gi d 5).int) && (ltI (gi d 5).int (((gi d 0).rows.length : Nat) : Int))) then (bif (decide ((0 + ((gi d 5).int).toNat) < (gi d 0).rows.length)) then (bif ((nnI (gi d 5).int) && (ltI (gi d 5).int (((gi d 0).rows.length : Nat) : Int))) then (bif (decide ((0 + ((gi d 5).int).toNat) < (gi d 0).rows.length)) then (bif ((nnI ((gi d 5).int - 1)) && (ltI ((gi d 5).int - 1) (((gi d 0).rows.length : Nat) : Int))) then (bif (decide ((0 + ((gi d 5).int - 1).toNat) < ((gi d 0).rows.set (0 + ((gi d 5).int).toNat) (putG KSpot ((gi d 0).rows.getD (0 + ((gi d 5).int).toNat) []) 0 (gEta KSpot ((gi d 0).rows.getD (0 + ((gi d 5).int - 1).toNat) [])))).length)) then (bif (inI ((gi d 5).int - 1)) then (bif ((Nat.beq (gi d 0).rows.length (((gi d 0).rows.set (0 + ((gi d 5).int).toNat) (putG KSpot ((gi d 0).rows.getD (0 + ((gi d 5).int).toNat) []) 0 (gEta KSpot ((gi d 0).rows.getD (0 + ((gi d 5).int - 1).toNat) [])))).set (0 + ((gi d 5).int - 1).toNat) (putG KSpot (((gi d 0).rows.set (0 + ((gi d 5).int).toNat) (putG KSpot ((gi d 0).rows.getD (0 + ((gi d 5).int).toNat) []) 0 (gEta KSpot ((gi d 0).rows.getD (0 + ((gi d 5).int - 1).toNat) [])))).getD (0 + ((gi d 5).int - 1).toNat) []) 0 (gEta KSpot ((gi d 0).rows.getD (0 + ((gi d 5).int).toNat) [])))).length) && true) then some (none, [.l (((gi d 0).rows.set (0 + ((gi d 5).int).toNat) (putG KSpot ((gi d 0).rows.getD (0 + ((gi d 5).int).toNat) []) 0 (gEta KSpot ((gi d 0).rows.getD (0 + ((gi d 5).int - 1).toNat) [])))).set (0 + ((gi d 5).int - 1).toNat) (putG KSpot (((gi d 0).rows.set (0 + ((gi d 5).int).toNat) (putG KSpot ((gi d 0).rows.getD (0 + ((gi d 5).int).toNat) []) 0 (gEta KSpot ((gi d 0).rows.getD (0 + ((gi d 5).int - 1).toNat) [])))).getD (0 + ((gi d 5).int - 1).toNat) []) 0 (gEta KSpot ((gi d 0).rows.getD (0 + ((gi d 5).int).toNat) [])))), .i (gi g1 0).int, .i (gi d 2).int, .i (gi d 3).int, .i (gi d 4).int, .i ((gi d 5).int - 1)]) else none) else none) else none) else none) else none) else none) else none) else none) else none) else none) else none) else none) else (bif ((Nat.beq (gi d 0).rows.length (gi d 0).rows.length) && true) then some (some 0, [.l (gi d 0).rows, .i (gi g1 0).int, .i (gi d 2).int, .i (gi d 3).int, .i (gi d 4).int]) else none))) else none) else none) else none) else none) else none) else (bif ((Nat.beq (gi d 0).rows.length (gi d 0).rows.length) && true) then some (some 0, [.l (gi d 0).rows, .i (gi d 1).int, .i (gi d 2).int, .i (gi d 3).int, .i (gi d 4).int]) else none))
def l_insS_Spot_2_4 : LSpec := ⟨4, [], ⟨53, [(0, .s (.vec 0 4)), (1, .s (.int .i64)), (2, .s (.int .i64)), (3, .clo 102 [.ptr 1 0]), (8, .s (.int .i64)), (9, .s (.int .i64))], [.vec KSpot 0, .box [.cloP 101 [2]], .box [.int .i64]]⟩, [.fix 0, .fix 1, .ccap 1 0 0], [⟨.exit 2, ⟨53, [(0, .s (.vec 0 4)), (1, .s (.int .i64)), (2, .s (.int .i64)), (3, .clo 102 [.ptr 1 0]), (8, .s (.int .i64))], [.vec KSpot 0, .box [.cloP 101 [2]], .box [.int .i64]]⟩, [.fix 0, .fix 1, .ccap 1 0 0]⟩], st_insS_Spot_2_4⟩
theorem r_insS_Spot_2_4 : RoundOK P t68 nL0 3 (loopAt Tryz.f189 4) l_insS_Spot_2_4 := fun d => by kernel_rfl
def L_insS_Spot_2_4 : LT := nL0.add 3 l_insS_Spot_2_4
theorem L_insS_Spot_2_4_ok : LpK P 3 L_insS_Spot_2_4 (bodyOf Tryz.f189) := LpK.add hm t68_ok (by kernel_rfl) (nLk _ _ _) r_insS_Spot_2_4
def st_insS_Spot_2_1 (d : List G) : Option (Option Nat × List G) :=
 (bif (ltI (gi d 4).int (gi d 3).int) then (loopB ((Nat.beq (gi d 0).rows.length (gi d 0).rows.length) && true) (LRun st_insS_Spot_2_4 [.l (gi d 0).rows, .i (gi d 1).int, .i (gi d 2).int, .i (gi d 3).int, .i (gi d 4).int, .i (gi d 4).int]) fun cg2 g2 => (bif (inI ((gi g2 4).int + 1)) then (bif ((Nat.beq (gi g2 0).rows.length (gi g2 0).rows.length) && true) then some (none, [.l (gi g2 0).rows, .i (gi g2 1).int, .i (gi g2 2).int, .i (gi g2 3).int, .i ((gi g2 4).int + 1)]) else none) else none)) else some (some 0, [.l (gi d 0).rows, .i (gi d 1).int]))
def l_insS_Spot_2_1 : LSpec := ⟨1, [], ⟨53, [(0, .s (.vec 0 4)), (1, .s (.int .i64)), (2, .s (.int .i64)), (3, .clo 102 [.ptr 1 0]), (8, .s (.int .i64))], [.vec KSpot 0, .box [.cloP 101 [2]], .box [.int .i64]]⟩, [.fix 0, .fix 1, .ccap 1 0 0], [⟨.exit 0, ⟨53, [], [.vec KSpot 0, .box [.cloP 101 [2]], .box [.int .i64]]⟩, [.fix 0, .fix 1, .ccap 1 0 0]⟩], st_insS_Spot_2_1⟩
theorem r_insS_Spot_2_1 : RoundOK P t68 L_insS_Spot_2_4 3 (loopAt Tryz.f189 1) l_insS_Spot_2_1 := fun d => by kernel_rfl
def L_insS_Spot_2_1 : LT := L_insS_Spot_2_4.add 3 l_insS_Spot_2_1
theorem L_insS_Spot_2_1_ok : LpK P 3 L_insS_Spot_2_1 (bodyOf Tryz.f189) := LpK.add hm t68_ok (by kernel_rfl) L_insS_Spot_2_4_ok r_insS_Spot_2_1
def F_insS_Spot_2 (d : List G) : Option (List G) :=
 (bif (inI ((gi d 2).int + 1)) then (loopB ((Nat.beq (gi d 0).rows.length (gi d 0).rows.length) && true) (LRun st_insS_Spot_2_1 [.l (gi d 0).rows, .i (gi d 1).int, .i (gi d 2).int, .i (gi d 3).int, .i ((gi d 2).int + 1)]) fun cg3 g3 => some [.l (gi g3 0).rows, .i (gi g3 1).int]) else none)
def s_insS_Spot_2 : FSpec := ⟨189, [.s (.vec 0 4), .s (.int .i64), .s (.int .i64), .clo 102 [.ptr 1 0]], [.vec KSpot 0, .box [.cloP 101 [2]], .box [.int .i64]], [.slot 0, .cap 3 0, .ccap 1 0 0], [], [.vec KSpot 0, .box [.cloP 101 [2]], .box [.int .i64]], [.fix 0, .fix 1, .fix 2], [], F_insS_Spot_2⟩
theorem b_insS_Spot_2 : BodyOK P t68 L_insS_Spot_2_1 Tryz.f189 s_insS_Spot_2 := fun d => by kernel_rfl
theorem c_insS_Spot_2 : ∀ d r, F_insS_Spot_2 d = some r → ACallX P 189 (s_insS_Spot_2.args0 d) (denH (s_insS_Spot_2.H0 d)) (s_insS_Spot_2.out r) (denH (s_insS_Spot_2.H1 r)) := fun d r h => bSd hm t68_ok (sp := s_insS_Spot_2) Tryz.func189 (by kernel_rfl) L_insS_Spot_2_1_ok b_insS_Spot_2 (by kernel_rfl) h
def t69 : Tab := t68.addW s_insS_Spot_2
theorem t69_ok : TabOK P t69 := t68_ok.addW (by kernel_rfl) (by kernel_rfl) c_insS_Spot_2

def st_stbS_Spot_2_2 (d : List G) : Option (Option Nat × List G) :=
 (bif (leI (gi d 5).int (gi d 2).int) then (callB (((Nat.beq (gi d 0).rows.length (gi d 0).rows.length) && true) && (F_insS_Spot_2 [.l (gi d 0).rows, .i (gi d 1).int, .i (gi d 4).int, .i (gi d 5).int]).isSome) (F_insS_Spot_2 [.l (gi d 0).rows, .i (gi d 1).int, .i (gi d 4).int, .i (gi d 5).int]) fun g1 => (bif (inI ((gi d 5).int + (gi d 3).int)) then (bif ((Nat.beq (gi d 0).rows.length (gi g1 0).rows.length) && true) then some (none, [.l (gi g1 0).rows, .i (gi g1 1).int, .i (gi d 2).int, .i (gi d 3).int, .i (gi d 5).int, .i ((gi d 5).int + (gi d 3).int)]) else none) else none)) else (bif ((Nat.beq (gi d 0).rows.length (gi d 0).rows.length) && true) then some (some 0, [.l (gi d 0).rows, .i (gi d 1).int, .i (gi d 2).int, .i (gi d 3).int, .i (gi d 4).int]) else none))
def l_stbS_Spot_2_2 : LSpec := ⟨2, [], ⟨63, [(0, .s (.vec 0 4)), (1, .s (.int .i64)), (2, .clo 102 [.ptr 1 0]), (6, .s (.int .i64)), (7, .s (.int .i64)), (8, .s (.int .i64))], [.vec KSpot 0, .box [.cloP 101 [2]], .box [.int .i64]]⟩, [.fix 0, .fix 1, .ccap 1 0 0], [⟨.exit 0, ⟨63, [(0, .s (.vec 0 4)), (1, .s (.int .i64)), (2, .clo 102 [.ptr 1 0]), (6, .s (.int .i64)), (7, .s (.int .i64))], [.vec KSpot 0, .box [.cloP 101 [2]], .box [.int .i64]]⟩, [.fix 0, .fix 1, .ccap 1 0 0]⟩], st_stbS_Spot_2_2⟩
theorem r_stbS_Spot_2_2 : RoundOK P t69 nL0 3 (loopAt Tryz.f131 2) l_stbS_Spot_2_2 := fun d => by kernel_rfl
def L_stbS_Spot_2_2 : LT := nL0.add 3 l_stbS_Spot_2_2
theorem L_stbS_Spot_2_2_ok : LpK P 3 L_stbS_Spot_2_2 (bodyOf Tryz.f131) := LpK.add hm t69_ok (by kernel_rfl) (nLk _ _ _) r_stbS_Spot_2_2
def st_stbS_Spot_2_9 (d : List G) : Option (Option Nat × List G) :=
 (bif (leI (gi d 5).int (gi d 2).int) then (bif (inI ((gi d 4).int + (gi d 3).int)) then none else none) else (bif ((Nat.beq (gi d 0).rows.length (gi d 0).rows.length) && true) then some (some 0, [.l (gi d 0).rows, .i (gi d 1).int, .i (gi d 2).int, .i (gi d 3).int, .i (gi d 4).int]) else none))
def l_stbS_Spot_2_9 : LSpec := ⟨9, [], ⟨63, [(0, .s (.vec 0 4)), (1, .s (.int .i64)), (2, .clo 102 [.ptr 1 0]), (6, .s (.int .i64)), (7, .s (.int .i64)), (8, .s (.int .i64))], [.vec KSpot 0, .box [.cloP 101 [2]], .box [.int .i64]]⟩, [.fix 0, .fix 1, .ccap 1 0 0], [⟨.exit 4, ⟨63, [(0, .s (.vec 0 4)), (1, .s (.int .i64)), (2, .clo 102 [.ptr 1 0]), (6, .s (.int .i64)), (7, .s (.int .i64))], [.vec KSpot 0, .box [.cloP 101 [2]], .box [.int .i64]]⟩, [.fix 0, .fix 1, .ccap 1 0 0]⟩], st_stbS_Spot_2_9⟩
theorem r_stbS_Spot_2_9 : RoundOK P t69 L_stbS_Spot_2_2 3 (loopAt Tryz.f131 9) l_stbS_Spot_2_9 := fun d => by kernel_rfl
def L_stbS_Spot_2_9 : LT := L_stbS_Spot_2_2.add 3 l_stbS_Spot_2_9
theorem L_stbS_Spot_2_9_ok : LpK P 3 L_stbS_Spot_2_9 (bodyOf Tryz.f131) := LpK.add hm t69_ok (by kernel_rfl) L_stbS_Spot_2_2_ok r_stbS_Spot_2_9
def st_stbS_Spot_2_7 (d : List G) : Option (Option Nat × List G) :=
 (bif (ltI (gi d 3).int (gi d 2).int) then (bif (inI (2 * (gi d 3).int)) then (loopB ((Nat.beq (gi d 0).rows.length (gi d 0).rows.length) && true) (LRun st_stbS_Spot_2_9 [.l (gi d 0).rows, .i (gi d 1).int, .i (gi d 2).int, .i (gi d 3).int, .i 0, .i (2 * (gi d 3).int)]) fun cg4 g4 => (bif (inI ((gi g4 4).int + (gi g4 3).int)) then (bif (ltI ((gi g4 4).int + (gi g4 3).int) (gi g4 2).int) then none else (bif (inI ((gi g4 3).int * 2)) then (bif ((Nat.beq (gi g4 0).rows.length (gi g4 0).rows.length) && true) then some (none, [.l (gi g4 0).rows, .i (gi g4 1).int, .i (gi g4 2).int, .i ((gi g4 3).int * 2)]) else none) else none)) else none)) else none) else some (some 0, [.l (gi d 0).rows, .i (gi d 1).int]))
def l_stbS_Spot_2_7 : LSpec := ⟨7, [], ⟨63, [(0, .s (.vec 0 4)), (1, .s (.int .i64)), (2, .clo 102 [.ptr 1 0]), (6, .s (.int .i64))], [.vec KSpot 0, .box [.cloP 101 [2]], .box [.int .i64]]⟩, [.fix 0, .fix 1, .ccap 1 0 0], [⟨.exit 2, ⟨63, [], [.vec KSpot 0, .box [.cloP 101 [2]], .box [.int .i64]]⟩, [.fix 0, .fix 1, .ccap 1 0 0]⟩], st_stbS_Spot_2_7⟩
theorem r_stbS_Spot_2_7 : RoundOK P t69 L_stbS_Spot_2_9 3 (loopAt Tryz.f131 7) l_stbS_Spot_2_7 := fun d => by kernel_rfl
def L_stbS_Spot_2_7 : LT := L_stbS_Spot_2_9.add 3 l_stbS_Spot_2_7
theorem L_stbS_Spot_2_7_ok : LpK P 3 L_stbS_Spot_2_7 (bodyOf Tryz.f131) := LpK.add hm t69_ok (by kernel_rfl) L_stbS_Spot_2_9_ok r_stbS_Spot_2_7
def F_stbS_Spot_2 (d : List G) : Option (List G) :=
 (loopB ((Nat.beq (gi d 0).rows.length (gi d 0).rows.length) && true) (LRun st_stbS_Spot_2_2 [.l (gi d 0).rows, .i (gi d 1).int, .i (gi d 2).int, .i 20, .i 0, .i 20]) fun cg2 g2 => (callB (((Nat.beq (gi g2 0).rows.length (gi g2 0).rows.length) && true) && (F_insS_Spot_2 [.l (gi g2 0).rows, .i (gi g2 1).int, .i (gi g2 4).int, .i (gi g2 2).int]).isSome) (F_insS_Spot_2 [.l (gi g2 0).rows, .i (gi g2 1).int, .i (gi g2 4).int, .i (gi g2 2).int]) fun g3 => (loopB ((Nat.beq (gi g2 0).rows.length (gi g3 0).rows.length) && true) (LRun st_stbS_Spot_2_7 [.l (gi g3 0).rows, .i (gi g3 1).int, .i (gi g2 2).int, .i (gi g2 3).int]) fun cg5 g5 => some [.l (gi g5 0).rows, .i (gi g5 1).int])))
def s_stbS_Spot_2 : FSpec := ⟨131, [.s (.vec 0 4), .s (.int .i64), .clo 102 [.ptr 1 0]], [.vec KSpot 0, .box [.cloP 101 [2]], .box [.int .i64]], [.slot 0, .cap 2 0, .ccap 1 0 0], [], [.vec KSpot 0, .box [.cloP 101 [2]], .box [.int .i64]], [.fix 0, .fix 1, .fix 2], [], F_stbS_Spot_2⟩
theorem b_stbS_Spot_2 : BodyOK P t69 L_stbS_Spot_2_7 Tryz.f131 s_stbS_Spot_2 := fun d => by kernel_rfl
theorem c_stbS_Spot_2 : ∀ d r, F_stbS_Spot_2 d = some r → ACallX P 131 (s_stbS_Spot_2.args0 d) (denH (s_stbS_Spot_2.H0 d)) (s_stbS_Spot_2.out r) (denH (s_stbS_Spot_2.H1 r)) := fun d r h => bSd hm t69_ok (sp := s_stbS_Spot_2) Tryz.func131 (by kernel_rfl) L_stbS_Spot_2_7_ok b_stbS_Spot_2 (by kernel_rfl) h
def t70 : Tab := t69.addW s_stbS_Spot_2
theorem t70_ok : TabOK P t70 := t69_ok.addW (by kernel_rfl) (by kernel_rfl) c_stbS_Spot_2

def F_srtS_Spot_2 (d : List G) : Option (List G) :=
 (callB (((Nat.beq (gi d 0).rows.length (gi d 0).rows.length) && true) && (F_stbS_Spot_2 [.l (gi d 0).rows, .i (gi d 1).int, .i (((gi d 0).rows.length : Nat) : Int)]).isSome) (F_stbS_Spot_2 [.l (gi d 0).rows, .i (gi d 1).int, .i (((gi d 0).rows.length : Nat) : Int)]) fun g1 => some [.l (gi g1 0).rows, .i (gi g1 1).int])
def s_srtS_Spot_2 : FSpec := ⟨65, [.s (.vec 0 4), .clo 102 [.ptr 1 0]], [.vec KSpot 0, .box [.cloP 101 [2]], .box [.int .i64]], [.slot 0, .cap 1 0, .ccap 1 0 0], [], [.vec KSpot 0, .box [.cloP 101 [2]], .box [.int .i64]], [.fix 0, .fix 1, .fix 2], [], F_srtS_Spot_2⟩
theorem b_srtS_Spot_2 : BodyOK P t70 nL0 Tryz.f65 s_srtS_Spot_2 := fun d => by kernel_rfl
theorem c_srtS_Spot_2 : ∀ d r, F_srtS_Spot_2 d = some r → ACallX P 65 (s_srtS_Spot_2.args0 d) (denH (s_srtS_Spot_2.H0 d)) (s_srtS_Spot_2.out r) (denH (s_srtS_Spot_2.H1 r)) := fun d r h => bSd hm t70_ok (sp := s_srtS_Spot_2) Tryz.func65 (by kernel_rfl) (nLk _ _ _) b_srtS_Spot_2 (by kernel_rfl) h
def t71 : Tab := t70.addW s_srtS_Spot_2
theorem t71_ok : TabOK P t71 := t70_ok.addW (by kernel_rfl) (by kernel_rfl) c_srtS_Spot_2

def st_band_Worth_14 (d : List G) : Option (Option Nat × List G) :=
 (bif (ltI (gi d 10).int (gi d 9).int) then (bif ((nnI (gi d 10).int) && (ltI (gi d 10).int (((gi d 8).rows.length : Nat) : Int))) then (bif (leI (gi ((gi d 8).rows.getD (((gi d 10).int).toNat) []) 0).int (gi d 7).int) then (bif ((gi ((gi d 8).rows.getD (((gi d 10).int).toNat) []) 1).int == (gi d 5).int) then (callF (F_call_BaseOf [.s (gi ((gi d 8).rows.getD (((gi d 10).int).toNat) []) 3).str]) fun g5 => (bif (inI ((gi d 10).int + 1)) then some (none, [.i (gi d 0).int, .l (mput [.str, .str] (gi d 1).rows [.s (gi g5 0).str, .s (gi ((gi d 8).rows.getD (((gi d 10).int).toNat) []) 2).str] [.t true] (gi d 2).int.toNat), .i (((mclk [.str, .str] (gi d 1).rows [.s (gi g5 0).str, .s (gi ((gi d 8).rows.getD (((gi d 10).int).toNat) []) 2).str] (gi d 2).int.toNat) : Nat) : Int), .l (gi d 3).rows, .l (gi d 4).rows, .i (gi d 5).int, .i (gi d 6).int, .i (gi d 7).int, .l (gi d 8).rows, .i (gi d 9).int, .i ((gi d 10).int + 1)]) else none)) else (bif (inI ((gi d 10).int + 1)) then some (none, [.i (gi d 0).int, .l (gi d 1).rows, .i (((gi d 2).int.toNat : Nat) : Int), .l (gi d 3).rows, .l (gi d 4).rows, .i (gi d 5).int, .i (gi d 6).int, .i (gi d 7).int, .l (gi d 8).rows, .i (gi d 9).int, .i ((gi d 10).int + 1)]) else none)) else (bif (inI ((gi d 10).int + 1)) then some (none, [.i (gi d 0).int, .l (gi d 1).rows, .i (((gi d 2).int.toNat : Nat) : Int), .l (gi d 3).rows, .l (gi d 4).rows, .i (gi d 5).int, .i (gi d 6).int, .i (gi d 7).int, .l (gi d 8).rows, .i (gi d 9).int, .i ((gi d 10).int + 1)]) else none)) else none) else some (some 0, [.i (gi d 0).int, .l (gi d 1).rows, .i (((gi d 2).int.toNat : Nat) : Int), .l (gi d 3).rows, .l (gi d 4).rows, .i (gi d 6).int, .i (gi d 7).int]))
def l_band_Worth_14 : LSpec := ⟨14, [], ⟨114, [(0, .s (.list KBand)), (1, .s (.list KSpot)), (3, .s (.int .i64)), (4, .s (.int .i64)), (5, .s (.int .i64)), (13, .s (.ptr 0 0)), (19, .s (.map 1)), (50, .s (.list KCt)), (51, .s (.int .i64)), (52, .s (.int .i64))], [.box [.int .i64], .map (.agg [.str, .str]) (.one (.bool))]⟩, [.slot 13, .slot 19], [⟨.exit 0, ⟨114, [(0, .s (.list KBand)), (1, .s (.list KSpot)), (4, .s (.int .i64)), (5, .s (.int .i64)), (13, .s (.ptr 0 0)), (19, .s (.map 1))], [.box [.int .i64], .map (.agg [.str, .str]) (.one (.bool))]⟩, [.slot 13, .slot 19]⟩], st_band_Worth_14⟩
theorem r_band_Worth_14 : RoundOK P t71 nL0 0 (loopAt Tryz.f28 14) l_band_Worth_14 := fun d => by kernel_rfl
def L_band_Worth_14 : LT := nL0.add 0 l_band_Worth_14
theorem L_band_Worth_14_ok : LpK P 0 L_band_Worth_14 (bodyOf Tryz.f28) := LpK.add hm t71_ok (by kernel_rfl) (nLk _ _ _) r_band_Worth_14
def st_band_Worth_22 (d : List G) : Option (Option Nat × List G) :=
 (bif (ltI (gi d 8).int (gi d 7).int) then (bif ((nnI (gi d 8).int) && (ltI (gi d 8).int (((gi d 6).rows.length : Nat) : Int))) then (callF (F_call_BaseOf [.s (gi ((gi d 6).rows.getD (((gi d 8).int).toNat) []) 2).str]) fun g8 => (bif ((nnI (gi d 8).int) && (ltI (gi d 8).int (((gi d 5).rows.length : Nat) : Int))) then (bif ((nnI (gi ((gi d 5).rows.getD (((gi d 8).int).toNat) []) 0).int) && (ltI (gi ((gi d 5).rows.getD (((gi d 8).int).toNat) []) 0).int (((gi d 4).rows.length : Nat) : Int))) then (bif (!(gi (mget [.str, .str] (gi d 1).rows [.s (gi g8 0).str, .s (gi ((gi d 4).rows.getD (((gi ((gi d 5).rows.getD (((gi d 8).int).toNat) []) 0).int).toNat) []) 0).str] [.t false]) 0).bool) then (bif ((Nat.beq (gi d 3).rows.length (gi d 3).rows.length) && (decide (((gi d 3).rows.length + 1) ≤ 1048576))) then (bif (inI ((gi d 8).int + 1)) then (bif ((Nat.beq ((gi d 3).rows ++ ([(gEta KSpot ((gi d 6).rows.getD (((gi d 8).int).toNat) []))] : List (List G))).length ((gi d 3).rows ++ ([(gEta KSpot ((gi d 6).rows.getD (((gi d 8).int).toNat) []))] : List (List G))).length) && true) then some (none, [.i (gi d 0).int, .l (gi d 1).rows, .i (((gi d 2).int.toNat : Nat) : Int), .l ((gi d 3).rows ++ ([(gEta KSpot ((gi d 6).rows.getD (((gi d 8).int).toNat) []))] : List (List G))), .l (gi d 4).rows, .l (gi d 5).rows, .l (gi d 6).rows, .i (gi d 7).int, .i ((gi d 8).int + 1)]) else none) else none) else none) else (bif (inI ((gi d 8).int + 1)) then (bif ((Nat.beq (gi d 3).rows.length (gi d 3).rows.length) && true) then some (none, [.i (gi d 0).int, .l (gi d 1).rows, .i (((gi d 2).int.toNat : Nat) : Int), .l (gi d 3).rows, .l (gi d 4).rows, .l (gi d 5).rows, .l (gi d 6).rows, .i (gi d 7).int, .i ((gi d 8).int + 1)]) else none) else none)) else none) else none)) else none) else (bif ((Nat.beq (gi d 3).rows.length (gi d 3).rows.length) && true) then some (some 0, [.i (gi d 0).int, .l (gi d 3).rows]) else none))
def l_band_Worth_22 : LSpec := ⟨22, [(24, KSpot)], ⟨114, [(0, .s (.list KBand)), (13, .s (.ptr 0 0)), (19, .s (.map 1)), (23, .s (.list [.int .i64])), (24, .s (.vec 2 4)), (82, .s (.list KSpot)), (83, .s (.int .i64)), (84, .s (.int .i64))], [.box [.int .i64], .map (.agg [.str, .str]) (.one (.bool)), .vec KSpot 0]⟩, [.slot 13, .slot 19, .slot 24], [⟨.exit 2, ⟨114, [(13, .s (.ptr 0 0)), (24, .s (.vec 1 4))], [.box [.int .i64], .vec KSpot 0]⟩, [.slot 13, .slot 24]⟩], st_band_Worth_22⟩
theorem r_band_Worth_22 : RoundOK P t71 L_band_Worth_14 0 (loopAt Tryz.f28 22) l_band_Worth_22 := fun d => by kernel_rfl
def L_band_Worth_22 : LT := L_band_Worth_14.add 0 l_band_Worth_22
theorem L_band_Worth_22_ok : LpK P 0 L_band_Worth_22 (bodyOf Tryz.f28) := LpK.add hm t71_ok (by kernel_rfl) L_band_Worth_14_ok r_band_Worth_22
def F_band_Worth (d : List G) : Option (List G) :=
 (callF (F_band_listsFault [.l (gi d 0).rows, .l (gi d 1).rows]) fun g1 => (bif ((gi g1 0).int != 0) then some [.l [], .i (gi g1 0).int] else (callF (F_log_CheckLog [.l (gi d 2).rows]) fun g2 => (bif ((gi g2 0).int != 0) then some [.l [], .i (gi g2 0).int] else (callF (F_kit_IsMode [.i (gi d 3).int]) fun g3 => (bif (!(gi g3 0).bool) then some [.l [], .i 4] else (callF (F_band_askedFault [.i (gi d 4).int, .i (gi d 5).int, .i (gi d 6).int]) fun g4 => (bif ((gi g4 0).int != 0) then some [.l [], .i (gi g4 0).int] else (loopB true (LRun st_band_Worth_14 [.i (gi d 6).int, .l [], .i 0, .l (gi d 0).rows, .l (gi d 1).rows, .i (gi d 3).int, .i (gi d 4).int, .i (gi d 5).int, .l (gi d 2).rows, .i (((gi d 2).rows.length : Nat) : Int), .i 0]) fun cg6 g6 => (callF (F_band_heard [.l (gi g6 3).rows, .l (gi g6 4).rows, .i (gi g6 5).int, .i (gi g6 6).int]) fun g7 => (loopB true (LRun st_band_Worth_22 [.i (gi g6 0).int, .l (gi g6 1).rows, .i (((gi g6 2).int.toNat : Nat) : Int), .l [], .l (gi g6 3).rows, .l (gi g7 1).rows, .l (gi g7 0).rows, .i (((gi g7 0).rows.length : Nat) : Int), .i 0]) fun cg9 g9 => (callB (((Nat.beq (gi g9 1).rows.length (gi g9 1).rows.length) && true) && (F_srtS_Spot_2 [.l (gi g9 1).rows, .i (gi g9 0).int]).isSome) (F_srtS_Spot_2 [.l (gi g9 1).rows, .i (gi g9 0).int]) fun g10 => (bif ((Nat.beq (gi g9 1).rows.length (gi g10 0).rows.length) && true) then some [.l (gi g10 0).rows, .i 0] else none)))))))))))))
def s_band_Worth : FSpec := ⟨28, [.s (.list KBand), .s (.list KSpot), .s (.list KCt), .s (.int .i64), .s (.int .i64), .s (.int .i64), .s (.int .i64)], [], [], [.s (.list KSpot), .s (.int .i64)], [], [], [], F_band_Worth⟩
theorem b_band_Worth : BodyOK P t71 L_band_Worth_22 Tryz.f28 s_band_Worth := fun d => by kernel_rfl
theorem c_band_Worth : ∀ d r, F_band_Worth d = some r → ACallX P 28 (s_band_Worth.args0 d) (denH (s_band_Worth.H0 d)) (s_band_Worth.out r) (denH (s_band_Worth.H1 r)) := fun d r h => bSd hm t71_ok (sp := s_band_Worth) Tryz.func28 (by kernel_rfl) L_band_Worth_22_ok b_band_Worth (by kernel_rfl) h
def t72 : Tab := t71.addP s_band_Worth
theorem t72_ok : TabOK P t72 := t71_ok.addP (by kernel_rfl) (by kernel_rfl) c_band_Worth

def F_sl_Clone_Spot_f_0 (d : List G) : Option (List G) :=
 (bif (Nat.blt 0 (gi d 0).rows.length) then (bif (decide ((gi d 0).rows.length ≤ 1048576)) then (bif ((Nat.beq (gi d 0).rows.length (gi d 0).rows.length) && true) then some [.l (gi d 0).rows] else none) else none) else none)
def s_sl_Clone_Spot_f_0 : FSpec := ⟨161, [.s (.list KSpot)], [], [], [.s (.vec 0 4)], [.vec KSpot 0], [.slot 0], [], F_sl_Clone_Spot_f_0⟩
theorem b_sl_Clone_Spot_f_0 : BodyOK P t72 nL0 Tryz.f161 s_sl_Clone_Spot_f_0 := fun d => by kernel_rfl
theorem c_sl_Clone_Spot_f_0 : ∀ d r, F_sl_Clone_Spot_f_0 d = some r → ACallX P 161 (s_sl_Clone_Spot_f_0.args0 d) (denH (s_sl_Clone_Spot_f_0.H0 d)) (s_sl_Clone_Spot_f_0.out r) (denH (s_sl_Clone_Spot_f_0.H1 r)) := fun d r h => bSd hm t72_ok (sp := s_sl_Clone_Spot_f_0) Tryz.func161 (by kernel_rfl) (nLk _ _ _) b_sl_Clone_Spot_f_0 (by kernel_rfl) h
def s_sl_Clone_Spot_fT : FSpec := { s_sl_Clone_Spot_f_0 with args := [.s (.emp true)], opens := [(2, KSpot)], F := fun _ => some [.l []] }
theorem b_sl_Clone_Spot_fT : BodyOK P t72 nL0 Tryz.f161 s_sl_Clone_Spot_fT := fun d => by kernel_rfl
theorem c_sl_Clone_Spot_fT : ∀ d r, s_sl_Clone_Spot_fT.F d = some r → ACallX P 161 (s_sl_Clone_Spot_fT.args0 d) (denH (s_sl_Clone_Spot_fT.H0 d)) (s_sl_Clone_Spot_fT.out r) (denH (s_sl_Clone_Spot_fT.H1 r)) := fun d r h => bSd hm t72_ok (sp := s_sl_Clone_Spot_fT) Tryz.func161 (by kernel_rfl) (nLk _ _ _) b_sl_Clone_Spot_fT (by kernel_rfl) h
def s_sl_Clone_Spot_fF : FSpec := { s_sl_Clone_Spot_f_0 with args := [.s (.emp false)], opens := [(2, KSpot)], F := fun _ => some [.l []] }
theorem b_sl_Clone_Spot_fF : BodyOK P t72 nL0 Tryz.f161 s_sl_Clone_Spot_fF := fun d => by kernel_rfl
theorem c_sl_Clone_Spot_fF : ∀ d r, s_sl_Clone_Spot_fF.F d = some r → ACallX P 161 (s_sl_Clone_Spot_fF.args0 d) (denH (s_sl_Clone_Spot_fF.H0 d)) (s_sl_Clone_Spot_fF.out r) (denH (s_sl_Clone_Spot_fF.H1 r)) := fun d r h => bSd hm t72_ok (sp := s_sl_Clone_Spot_fF) Tryz.func161 (by kernel_rfl) (nLk _ _ _) b_sl_Clone_Spot_fF (by kernel_rfl) h
def F_sl_Clone_Spot_f (d : List G) : Option (List G) := bif Nat.blt 0 (gi d 0).rows.length then F_sl_Clone_Spot_f_0 d else some [.l []]
def s_sl_Clone_Spot_f : FSpec := { s_sl_Clone_Spot_f_0 with F := F_sl_Clone_Spot_f }
theorem c_sl_Clone_Spot_f : ∀ d r, F_sl_Clone_Spot_f d = some r → ACallX P 161 (s_sl_Clone_Spot_f.args0 d) (denH (s_sl_Clone_Spot_f.H0 d)) (s_sl_Clone_Spot_f.out r) (denH (s_sl_Clone_Spot_f.H1 r)) := fun d r h => by
 unfold F_sl_Clone_Spot_f at h
 cases hb : Nat.blt 0 (gi d 0).rows.length with
 | true => rw [hb] at h; exact c_sl_Clone_Spot_f_0 d r h
 | false =>
  rw [hb] at h
  cases h
  have e : (d.headD default).rows = [] := by
   have : ¬ 0 < (gi d 0).rows.length := fun hh => by
    have h2 : Nat.blt 0 (gi d 0).rows.length = true := by rw [Nat.blt_eq]; exact hh
    rw [h2] at hb
    cases hb
   exact List.eq_nil_of_length_eq_zero (Nat.eq_zero_of_not_pos this)
  have ha : s_sl_Clone_Spot_f.args0 d = [.listF KSpot []] := by
   rw [← e]
   rfl
  rw [ha]
  exact acall_empty (c_sl_Clone_Spot_fT d [.l []] rfl) (c_sl_Clone_Spot_fF d [.l []] rfl)
def t73 : Tab := t72.addW s_sl_Clone_Spot_f
theorem t73_ok : TabOK P t73 := t72_ok.addW (by kernel_rfl) (by kernel_rfl) c_sl_Clone_Spot_f

def F_band_way_1 (d : List G) : Option (List G) :=
 (bif ((gi (gi d 0).row 1).int == (gi (gi d 1).row 0).int) then some [.t true] else some [.t ((ltI (gi (gi d 0).row 1).int (gi (gi d 1).row 0).int) == (gi (gi d 2).row 0).bool)])
def s_band_way_1 : FSpec := ⟨159, [.s (.row KSpot), .s (.cptr [.int .i64]), .s (.cptr [.bool])], [], [], [.s (.bool)], [], [], [], F_band_way_1⟩
theorem b_band_way_1 : BodyOK P t73 nL0 Tryz.f159 s_band_way_1 := fun d => by kernel_rfl
theorem c_band_way_1 : ∀ d r, F_band_way_1 d = some r → ACallX P 159 (s_band_way_1.args0 d) (denH (s_band_way_1.H0 d)) (s_band_way_1.out r) (denH (s_band_way_1.H1 r)) := fun d r h => bSd hm t73_ok (sp := s_band_way_1) Tryz.func159 (by kernel_rfl) (nLk _ _ _) b_band_way_1 (by kernel_rfl) h
def t74 : Tab := t73.addP s_band_way_1
theorem t74_ok : TabOK P t74 := t73_ok.addP (by kernel_rfl) (by kernel_rfl) c_band_way_1

def F_band_way_2 (d : List G) : Option (List G) :=
 (bif (inI ((gi (gi d 0).row 1).int - (gi (gi d 1).row 0).int)) then (bif (inI ((gi (gi d 1).row 0).int - (gi (gi d 0).row 1).int)) then some [.i (if ((gi (gi d 1).row 0).int - (gi (gi d 0).row 1).int) > ((gi (gi d 0).row 1).int - (gi (gi d 1).row 0).int) then ((gi (gi d 1).row 0).int - (gi (gi d 0).row 1).int) else ((gi (gi d 0).row 1).int - (gi (gi d 1).row 0).int))] else none) else none)
def s_band_way_2 : FSpec := ⟨160, [.s (.row KSpot), .s (.cptr [.int .i64])], [], [], [.s (.int .i64)], [], [], [], F_band_way_2⟩
theorem b_band_way_2 : BodyOK P t74 nL0 Tryz.f160 s_band_way_2 := fun d => by kernel_rfl
theorem c_band_way_2 : ∀ d r, F_band_way_2 d = some r → ACallX P 160 (s_band_way_2.args0 d) (denH (s_band_way_2.H0 d)) (s_band_way_2.out r) (denH (s_band_way_2.H1 r)) := fun d r h => bSd hm t74_ok (sp := s_band_way_2) Tryz.func160 (by kernel_rfl) (nLk _ _ _) b_band_way_2 (by kernel_rfl) h
def t75 : Tab := t74.addP s_band_way_2
theorem t75_ok : TabOK P t75 := t74_ok.addP (by kernel_rfl) (by kernel_rfl) c_band_way_2

def F_band_way_3 (d : List G) : Option (List G) :=
 (callF (F_band_way_1 [.l [(gEta KSpot (gi d 2).row)], .l [[.i (gi d 0).int]], .l [[.t (gi d 1).bool]]]) fun g1 => (callF (F_band_way_1 [.l [(gEta KSpot (gi d 3).row)], .l [[.i (gi d 0).int]], .l [[.t (gi d 1).bool]]]) fun g2 => (bif (!((gi g1 0).bool == (gi g2 0).bool)) then (bif (gi g1 0).bool then some [.i (gi d 0).int, .t (gi d 1).bool, .i (-1)] else some [.i (gi d 0).int, .t (gi d 1).bool, .i 1]) else (callF (F_band_way_2 [.l [(gEta KSpot (gi d 2).row)], .l [[.i (gi d 0).int]]]) fun g3 => (callF (F_band_way_2 [.l [(gEta KSpot (gi d 3).row)], .l [[.i (gi d 0).int]]]) fun g4 => (bif (inI ((gi g3 0).int - (gi g4 0).int)) then some [.i (gi d 0).int, .t (gi d 1).bool, .i ((gi g3 0).int - (gi g4 0).int)] else none))))))
def s_band_way_3 : FSpec := ⟨162, [.s (.row KSpot), .s (.row KSpot), .s (.ptr 0 0), .s (.ptr 3 0)], [.box [.cloP 159 [1, 2]], .box [.int .i64], .box [.bool], .box [.cloP 160 [1]]], [.slot 2, .ccap 0 0 0, .ccap 0 0 1, .slot 3], [.s (.int .i64)], [.box [.cloP 159 [1, 2]], .box [.int .i64], .box [.bool], .box [.cloP 160 [1]]], [.fix 0, .fix 1, .fix 2, .fix 3], [], F_band_way_3⟩
theorem b_band_way_3 : BodyOK P (t75.lessPf [159, 160]) nL0 Tryz.f162 s_band_way_3 := fun d => by kernel_rfl
theorem c_band_way_3 : ∀ d r, F_band_way_3 d = some r → ACallX P 162 (s_band_way_3.args0 d) (denH (s_band_way_3.H0 d)) (s_band_way_3.out r) (denH (s_band_way_3.H1 r)) := fun d r h => bSd hm (t75_ok.lessPf [159, 160]) (sp := s_band_way_3) Tryz.func162 (by kernel_rfl) (nLk _ _ _) b_band_way_3 (by kernel_rfl) h
def t76 : Tab := t75.addW s_band_way_3
theorem t76_ok : TabOK P t76 := t75_ok.addW (by kernel_rfl) (by kernel_rfl) c_band_way_3

def st_insS_Spot_3_4 (d : List G) : Option (Option Nat × List G) :=
 (bif (ltI (gi d 3).int (gi d 6).int) then (bif ((nnI (gi d 6).int) && (ltI (gi d 6).int (((gi d 0).rows.length : Nat) : Int))) then (bif (decide ((0 + ((gi d 6).int).toNat) < (gi d 0).rows.length)) then (bif (inI ((gi d 6).int - 1)) then (bif ((nnI ((gi d 6).int - 1)) && (ltI ((gi d 6).int - 1) (((gi d 0).rows.length : Nat) : Int))) then (bif (decide ((0 + ((gi d 6).int - 1).toNat) < (gi d 0).rows.length)) then (callF (F_band_way_3 [.i (gi d 1).int, .t (gi d 2).bool, .l [(gEta KSpot ((gi d 0).rows.getD (0 + ((gi d 6).int).toNat) []))], .l [(gEta KSpot ((gi d 0).rows.getD (0 + ((gi d 6).int - 1).toNat) []))]]) fun g1 => (bif (ltI (gi g1 2).int 0) then (bif (inI ((gi d 6).int - 1)) then (bif (inI ((gi d 6).int - 1)) then (bif ((nnI ((gi d 6).int - 1)) && (ltI ((gi d 6).int - 1) (((gi d 0).rows.length : Nat) : Int))) then (bif (decide ((0 + ((gi d 6).int - 1).toNat) < (gi d 0).rows.length)) then (bif ((nnI (gi d 6).int) && (ltI (gi d 6).int (((gi d 0).rows.length : Nat) : Int))) then (bif (decide ((0 + ((gi d 6).int).toNat) < (gi d 0).rows.length)) then (bif ((nnI (gi d 6).int) && (ltI (gi d 6).int (((gi d 0).rows.length : Nat) : Int))) then (bif (decide ((0 + ((gi d 6).int).toNat) < (gi d 0).rows.length)) then (bif ((nnI ((gi d 6).int - 1)) && (ltI ((gi d 6).int - 1) (((gi d 0).rows.length : Nat) : Int))) then (bif (decide ((0 + ((gi d 6).int - 1).toNat) < ((gi d 0).rows.set (0 + ((gi d 6).int).toNat) (putG KSpot ((gi d 0).rows.getD (0 + ((gi d 6).int).toNat) []) 0 (gEta KSpot ((gi d 0).rows.getD (0 + ((gi d 6).int - 1).toNat) [])))).length)) then (bif (inI ((gi d 6).int - 1)) then (bif ((Nat.beq (gi d 0).rows.length (((gi d 0).rows.set (0 + ((gi d 6).int).toNat) (putG KSpot ((gi d 0).rows.getD (0 + ((gi d 6).int).toNat) []) 0 (gEta KSpot ((gi d 0).rows.getD (0 + ((gi d 6).int - 1).toNat) [])))).set (0 + ((gi d 6).int - 1).toNat) (putG KSpot (((gi d 0).rows.set (0 + ((gi d 6).int).toNat) (putG KSpot ((gi d 0).rows.getD (0 + ((gi d 6).int).toNat) []) 0 (gEta KSpot ((gi d 0).rows.getD (0 + ((gi d 6).int - 1).toNat) [])))).getD (0 + ((gi d 6).int - 1).toNat) []) 0 (gEta KSpot ((gi d 0).rows.getD (0 + ((gi d 6).int).toNat) [])))).length) && true) then some (none, [.l (((gi d 0).rows.set (0 + ((gi d 6).int).toNat) (putG KSpot ((gi d 0).rows.getD (0 + ((gi d 6).int).toNat) []) 0 (gEta KSpot ((gi d 0).rows.getD (0 + ((gi d 6).int - 1).toNat) [])))).set (0 + ((gi d 6).int - 1).toNat) (putG KSpot (((gi d 0).rows.set (0 + ((gi d 6).int).toNat) (putG KSpot ((gi d 0).rows.getD (0 + ((gi d 6).int).toNat) []) 0 (gEta KSpot ((gi d 0).rows.getD (0 + ((gi d 6).int - 1).toNat) [])))).getD (0 + ((gi d 6).int - 1).toNat) []) 0 (gEta KSpot ((gi d 0).rows.getD (0 + ((gi d 6).int).toNat) [])))), .i (gi g1 0).int, .t (gi g1 1).bool, .i (gi d 3).int, .i (gi d 4).int, .i (gi d 5).int, .i ((gi d 6).int - 1)]) else none) else none) else none) else none) else none) else none) else none) else none) else none) else none) else none) else none) else (bif ((Nat.beq (gi d 0).rows.length (gi d 0).rows.length) && true) then some (some 0, [.l (gi d 0).rows, .i (gi g1 0).int, .t (gi g1 1).bool, .i (gi d 3).int, .i (gi d 4).int, .i (gi d 5).int]) else none))) else none) else none) else none) else none) else none) else (bif ((Nat.beq (gi d 0).rows.length (gi d 0).rows.length) && true) then some (some 0, [.l (gi d 0).rows, .i (gi d 1).int, .t (gi d 2).bool, .i (gi d 3).int, .i (gi d 4).int, .i (gi d 5).int]) else none))
def l_insS_Spot_3_4 : LSpec := ⟨4, [], ⟨53, [(0, .s (.vec 0 4)), (1, .s (.int .i64)), (2, .s (.int .i64)), (3, .clo 162 [.ptr 1 0, .ptr 4 0]), (8, .s (.int .i64)), (9, .s (.int .i64))], [.vec KSpot 0, .box [.cloP 159 [2, 3]], .box [.int .i64], .box [.bool], .box [.cloP 160 [2]]]⟩, [.fix 0, .fix 1, .ccap 1 0 0, .ccap 1 0 1, .fix 4], [⟨.exit 2, ⟨53, [(0, .s (.vec 0 4)), (1, .s (.int .i64)), (2, .s (.int .i64)), (3, .clo 162 [.ptr 1 0, .ptr 4 0]), (8, .s (.int .i64))], [.vec KSpot 0, .box [.cloP 159 [2, 3]], .box [.int .i64], .box [.bool], .box [.cloP 160 [2]]]⟩, [.fix 0, .fix 1, .ccap 1 0 0, .ccap 1 0 1, .fix 4]⟩], st_insS_Spot_3_4⟩
theorem r_insS_Spot_3_4 : RoundOK P t76 nL0 5 (loopAt Tryz.f189 4) l_insS_Spot_3_4 := fun d => by kernel_rfl
def L_insS_Spot_3_4 : LT := nL0.add 5 l_insS_Spot_3_4
theorem L_insS_Spot_3_4_ok : LpK P 5 L_insS_Spot_3_4 (bodyOf Tryz.f189) := LpK.add hm t76_ok (by kernel_rfl) (nLk _ _ _) r_insS_Spot_3_4
def st_insS_Spot_3_1 (d : List G) : Option (Option Nat × List G) :=
 (bif (ltI (gi d 5).int (gi d 4).int) then (loopB ((Nat.beq (gi d 0).rows.length (gi d 0).rows.length) && true) (LRun st_insS_Spot_3_4 [.l (gi d 0).rows, .i (gi d 1).int, .t (gi d 2).bool, .i (gi d 3).int, .i (gi d 4).int, .i (gi d 5).int, .i (gi d 5).int]) fun cg2 g2 => (bif (inI ((gi g2 5).int + 1)) then (bif ((Nat.beq (gi g2 0).rows.length (gi g2 0).rows.length) && true) then some (none, [.l (gi g2 0).rows, .i (gi g2 1).int, .t (gi g2 2).bool, .i (gi g2 3).int, .i (gi g2 4).int, .i ((gi g2 5).int + 1)]) else none) else none)) else some (some 0, [.l (gi d 0).rows, .i (gi d 1).int, .t (gi d 2).bool]))
def l_insS_Spot_3_1 : LSpec := ⟨1, [], ⟨53, [(0, .s (.vec 0 4)), (1, .s (.int .i64)), (2, .s (.int .i64)), (3, .clo 162 [.ptr 1 0, .ptr 4 0]), (8, .s (.int .i64))], [.vec KSpot 0, .box [.cloP 159 [2, 3]], .box [.int .i64], .box [.bool], .box [.cloP 160 [2]]]⟩, [.fix 0, .fix 1, .ccap 1 0 0, .ccap 1 0 1, .fix 4], [⟨.exit 0, ⟨53, [], [.vec KSpot 0, .box [.cloP 159 [2, 3]], .box [.int .i64], .box [.bool], .box [.cloP 160 [2]]]⟩, [.fix 0, .fix 1, .ccap 1 0 0, .ccap 1 0 1, .fix 4]⟩], st_insS_Spot_3_1⟩
theorem r_insS_Spot_3_1 : RoundOK P t76 L_insS_Spot_3_4 5 (loopAt Tryz.f189 1) l_insS_Spot_3_1 := fun d => by kernel_rfl
def L_insS_Spot_3_1 : LT := L_insS_Spot_3_4.add 5 l_insS_Spot_3_1
theorem L_insS_Spot_3_1_ok : LpK P 5 L_insS_Spot_3_1 (bodyOf Tryz.f189) := LpK.add hm t76_ok (by kernel_rfl) L_insS_Spot_3_4_ok r_insS_Spot_3_1
def F_insS_Spot_3 (d : List G) : Option (List G) :=
 (bif (inI ((gi d 3).int + 1)) then (loopB ((Nat.beq (gi d 0).rows.length (gi d 0).rows.length) && true) (LRun st_insS_Spot_3_1 [.l (gi d 0).rows, .i (gi d 1).int, .t (gi d 2).bool, .i (gi d 3).int, .i (gi d 4).int, .i ((gi d 3).int + 1)]) fun cg3 g3 => some [.l (gi g3 0).rows, .i (gi g3 1).int, .t (gi g3 2).bool]) else none)
def s_insS_Spot_3 : FSpec := ⟨189, [.s (.vec 0 4), .s (.int .i64), .s (.int .i64), .clo 162 [.ptr 1 0, .ptr 4 0]], [.vec KSpot 0, .box [.cloP 159 [2, 3]], .box [.int .i64], .box [.bool], .box [.cloP 160 [2]]], [.slot 0, .cap 3 0, .ccap 1 0 0, .ccap 1 0 1, .cap 3 1], [], [.vec KSpot 0, .box [.cloP 159 [2, 3]], .box [.int .i64], .box [.bool], .box [.cloP 160 [2]]], [.fix 0, .fix 1, .fix 2, .fix 3, .fix 4], [], F_insS_Spot_3⟩
theorem b_insS_Spot_3 : BodyOK P t76 L_insS_Spot_3_1 Tryz.f189 s_insS_Spot_3 := fun d => by kernel_rfl
theorem c_insS_Spot_3 : ∀ d r, F_insS_Spot_3 d = some r → ACallX P 189 (s_insS_Spot_3.args0 d) (denH (s_insS_Spot_3.H0 d)) (s_insS_Spot_3.out r) (denH (s_insS_Spot_3.H1 r)) := fun d r h => bSd hm t76_ok (sp := s_insS_Spot_3) Tryz.func189 (by kernel_rfl) L_insS_Spot_3_1_ok b_insS_Spot_3 (by kernel_rfl) h
def t77 : Tab := t76.addW s_insS_Spot_3
theorem t77_ok : TabOK P t77 := t76_ok.addW (by kernel_rfl) (by kernel_rfl) c_insS_Spot_3

def st_stbS_Spot_3_2 (d : List G) : Option (Option Nat × List G) :=
 (bif (leI (gi d 6).int (gi d 3).int) then (callB (((Nat.beq (gi d 0).rows.length (gi d 0).rows.length) && true) && (F_insS_Spot_3 [.l (gi d 0).rows, .i (gi d 1).int, .t (gi d 2).bool, .i (gi d 5).int, .i (gi d 6).int]).isSome) (F_insS_Spot_3 [.l (gi d 0).rows, .i (gi d 1).int, .t (gi d 2).bool, .i (gi d 5).int, .i (gi d 6).int]) fun g1 => (bif (inI ((gi d 6).int + (gi d 4).int)) then (bif ((Nat.beq (gi d 0).rows.length (gi g1 0).rows.length) && true) then some (none, [.l (gi g1 0).rows, .i (gi g1 1).int, .t (gi g1 2).bool, .i (gi d 3).int, .i (gi d 4).int, .i (gi d 6).int, .i ((gi d 6).int + (gi d 4).int)]) else none) else none)) else (bif ((Nat.beq (gi d 0).rows.length (gi d 0).rows.length) && true) then some (some 0, [.l (gi d 0).rows, .i (gi d 1).int, .t (gi d 2).bool, .i (gi d 3).int, .i (gi d 4).int, .i (gi d 5).int]) else none))
def l_stbS_Spot_3_2 : LSpec := ⟨2, [], ⟨63, [(0, .s (.vec 0 4)), (1, .s (.int .i64)), (2, .clo 162 [.ptr 1 0, .ptr 4 0]), (6, .s (.int .i64)), (7, .s (.int .i64)), (8, .s (.int .i64))], [.vec KSpot 0, .box [.cloP 159 [2, 3]], .box [.int .i64], .box [.bool], .box [.cloP 160 [2]]]⟩, [.fix 0, .fix 1, .ccap 1 0 0, .ccap 1 0 1, .fix 4], [⟨.exit 0, ⟨63, [(0, .s (.vec 0 4)), (1, .s (.int .i64)), (2, .clo 162 [.ptr 1 0, .ptr 4 0]), (6, .s (.int .i64)), (7, .s (.int .i64))], [.vec KSpot 0, .box [.cloP 159 [2, 3]], .box [.int .i64], .box [.bool], .box [.cloP 160 [2]]]⟩, [.fix 0, .fix 1, .ccap 1 0 0, .ccap 1 0 1, .fix 4]⟩], st_stbS_Spot_3_2⟩
theorem r_stbS_Spot_3_2 : RoundOK P t77 nL0 5 (loopAt Tryz.f131 2) l_stbS_Spot_3_2 := fun d => by kernel_rfl
def L_stbS_Spot_3_2 : LT := nL0.add 5 l_stbS_Spot_3_2
theorem L_stbS_Spot_3_2_ok : LpK P 5 L_stbS_Spot_3_2 (bodyOf Tryz.f131) := LpK.add hm t77_ok (by kernel_rfl) (nLk _ _ _) r_stbS_Spot_3_2
def st_stbS_Spot_3_9 (d : List G) : Option (Option Nat × List G) :=
 (bif (leI (gi d 6).int (gi d 3).int) then (bif (inI ((gi d 5).int + (gi d 4).int)) then none else none) else (bif ((Nat.beq (gi d 0).rows.length (gi d 0).rows.length) && true) then some (some 0, [.l (gi d 0).rows, .i (gi d 1).int, .t (gi d 2).bool, .i (gi d 3).int, .i (gi d 4).int, .i (gi d 5).int]) else none))
def l_stbS_Spot_3_9 : LSpec := ⟨9, [], ⟨63, [(0, .s (.vec 0 4)), (1, .s (.int .i64)), (2, .clo 162 [.ptr 1 0, .ptr 4 0]), (6, .s (.int .i64)), (7, .s (.int .i64)), (8, .s (.int .i64))], [.vec KSpot 0, .box [.cloP 159 [2, 3]], .box [.int .i64], .box [.bool], .box [.cloP 160 [2]]]⟩, [.fix 0, .fix 1, .ccap 1 0 0, .ccap 1 0 1, .fix 4], [⟨.exit 4, ⟨63, [(0, .s (.vec 0 4)), (1, .s (.int .i64)), (2, .clo 162 [.ptr 1 0, .ptr 4 0]), (6, .s (.int .i64)), (7, .s (.int .i64))], [.vec KSpot 0, .box [.cloP 159 [2, 3]], .box [.int .i64], .box [.bool], .box [.cloP 160 [2]]]⟩, [.fix 0, .fix 1, .ccap 1 0 0, .ccap 1 0 1, .fix 4]⟩], st_stbS_Spot_3_9⟩
theorem r_stbS_Spot_3_9 : RoundOK P t77 L_stbS_Spot_3_2 5 (loopAt Tryz.f131 9) l_stbS_Spot_3_9 := fun d => by kernel_rfl
def L_stbS_Spot_3_9 : LT := L_stbS_Spot_3_2.add 5 l_stbS_Spot_3_9
theorem L_stbS_Spot_3_9_ok : LpK P 5 L_stbS_Spot_3_9 (bodyOf Tryz.f131) := LpK.add hm t77_ok (by kernel_rfl) L_stbS_Spot_3_2_ok r_stbS_Spot_3_9
def st_stbS_Spot_3_7 (d : List G) : Option (Option Nat × List G) :=
 (bif (ltI (gi d 4).int (gi d 3).int) then (bif (inI (2 * (gi d 4).int)) then (loopB ((Nat.beq (gi d 0).rows.length (gi d 0).rows.length) && true) (LRun st_stbS_Spot_3_9 [.l (gi d 0).rows, .i (gi d 1).int, .t (gi d 2).bool, .i (gi d 3).int, .i (gi d 4).int, .i 0, .i (2 * (gi d 4).int)]) fun cg4 g4 => (bif (inI ((gi g4 5).int + (gi g4 4).int)) then (bif (ltI ((gi g4 5).int + (gi g4 4).int) (gi g4 3).int) then none else (bif (inI ((gi g4 4).int * 2)) then (bif ((Nat.beq (gi g4 0).rows.length (gi g4 0).rows.length) && true) then some (none, [.l (gi g4 0).rows, .i (gi g4 1).int, .t (gi g4 2).bool, .i (gi g4 3).int, .i ((gi g4 4).int * 2)]) else none) else none)) else none)) else none) else some (some 0, [.l (gi d 0).rows, .i (gi d 1).int, .t (gi d 2).bool]))
def l_stbS_Spot_3_7 : LSpec := ⟨7, [], ⟨63, [(0, .s (.vec 0 4)), (1, .s (.int .i64)), (2, .clo 162 [.ptr 1 0, .ptr 4 0]), (6, .s (.int .i64))], [.vec KSpot 0, .box [.cloP 159 [2, 3]], .box [.int .i64], .box [.bool], .box [.cloP 160 [2]]]⟩, [.fix 0, .fix 1, .ccap 1 0 0, .ccap 1 0 1, .fix 4], [⟨.exit 2, ⟨63, [], [.vec KSpot 0, .box [.cloP 159 [2, 3]], .box [.int .i64], .box [.bool], .box [.cloP 160 [2]]]⟩, [.fix 0, .fix 1, .ccap 1 0 0, .ccap 1 0 1, .fix 4]⟩], st_stbS_Spot_3_7⟩
theorem r_stbS_Spot_3_7 : RoundOK P t77 L_stbS_Spot_3_9 5 (loopAt Tryz.f131 7) l_stbS_Spot_3_7 := fun d => by kernel_rfl
def L_stbS_Spot_3_7 : LT := L_stbS_Spot_3_9.add 5 l_stbS_Spot_3_7
theorem L_stbS_Spot_3_7_ok : LpK P 5 L_stbS_Spot_3_7 (bodyOf Tryz.f131) := LpK.add hm t77_ok (by kernel_rfl) L_stbS_Spot_3_9_ok r_stbS_Spot_3_7
def F_stbS_Spot_3 (d : List G) : Option (List G) :=
 (loopB ((Nat.beq (gi d 0).rows.length (gi d 0).rows.length) && true) (LRun st_stbS_Spot_3_2 [.l (gi d 0).rows, .i (gi d 1).int, .t (gi d 2).bool, .i (gi d 3).int, .i 20, .i 0, .i 20]) fun cg2 g2 => (callB (((Nat.beq (gi g2 0).rows.length (gi g2 0).rows.length) && true) && (F_insS_Spot_3 [.l (gi g2 0).rows, .i (gi g2 1).int, .t (gi g2 2).bool, .i (gi g2 5).int, .i (gi g2 3).int]).isSome) (F_insS_Spot_3 [.l (gi g2 0).rows, .i (gi g2 1).int, .t (gi g2 2).bool, .i (gi g2 5).int, .i (gi g2 3).int]) fun g3 => (loopB ((Nat.beq (gi g2 0).rows.length (gi g3 0).rows.length) && true) (LRun st_stbS_Spot_3_7 [.l (gi g3 0).rows, .i (gi g3 1).int, .t (gi g3 2).bool, .i (gi g2 3).int, .i (gi g2 4).int]) fun cg5 g5 => some [.l (gi g5 0).rows, .i (gi g5 1).int, .t (gi g5 2).bool])))
def s_stbS_Spot_3 : FSpec := ⟨131, [.s (.vec 0 4), .s (.int .i64), .clo 162 [.ptr 1 0, .ptr 4 0]], [.vec KSpot 0, .box [.cloP 159 [2, 3]], .box [.int .i64], .box [.bool], .box [.cloP 160 [2]]], [.slot 0, .cap 2 0, .ccap 1 0 0, .ccap 1 0 1, .cap 2 1], [], [.vec KSpot 0, .box [.cloP 159 [2, 3]], .box [.int .i64], .box [.bool], .box [.cloP 160 [2]]], [.fix 0, .fix 1, .fix 2, .fix 3, .fix 4], [], F_stbS_Spot_3⟩
theorem b_stbS_Spot_3 : BodyOK P t77 L_stbS_Spot_3_7 Tryz.f131 s_stbS_Spot_3 := fun d => by kernel_rfl
theorem c_stbS_Spot_3 : ∀ d r, F_stbS_Spot_3 d = some r → ACallX P 131 (s_stbS_Spot_3.args0 d) (denH (s_stbS_Spot_3.H0 d)) (s_stbS_Spot_3.out r) (denH (s_stbS_Spot_3.H1 r)) := fun d r h => bSd hm t77_ok (sp := s_stbS_Spot_3) Tryz.func131 (by kernel_rfl) L_stbS_Spot_3_7_ok b_stbS_Spot_3 (by kernel_rfl) h
def t78 : Tab := t77.addW s_stbS_Spot_3
theorem t78_ok : TabOK P t78 := t77_ok.addW (by kernel_rfl) (by kernel_rfl) c_stbS_Spot_3

def F_srtS_Spot_3 (d : List G) : Option (List G) :=
 (callB (((Nat.beq (gi d 0).rows.length (gi d 0).rows.length) && true) && (F_stbS_Spot_3 [.l (gi d 0).rows, .i (gi d 1).int, .t (gi d 2).bool, .i (((gi d 0).rows.length : Nat) : Int)]).isSome) (F_stbS_Spot_3 [.l (gi d 0).rows, .i (gi d 1).int, .t (gi d 2).bool, .i (((gi d 0).rows.length : Nat) : Int)]) fun g1 => some [.l (gi g1 0).rows, .i (gi g1 1).int, .t (gi g1 2).bool])
def s_srtS_Spot_3 : FSpec := ⟨65, [.s (.vec 0 4), .clo 162 [.ptr 1 0, .ptr 4 0]], [.vec KSpot 0, .box [.cloP 159 [2, 3]], .box [.int .i64], .box [.bool], .box [.cloP 160 [2]]], [.slot 0, .cap 1 0, .ccap 1 0 0, .ccap 1 0 1, .cap 1 1], [], [.vec KSpot 0, .box [.cloP 159 [2, 3]], .box [.int .i64], .box [.bool], .box [.cloP 160 [2]]], [.fix 0, .fix 1, .fix 2, .fix 3, .fix 4], [], F_srtS_Spot_3⟩
theorem b_srtS_Spot_3 : BodyOK P t78 nL0 Tryz.f65 s_srtS_Spot_3 := fun d => by kernel_rfl
theorem c_srtS_Spot_3 : ∀ d r, F_srtS_Spot_3 d = some r → ACallX P 65 (s_srtS_Spot_3.args0 d) (denH (s_srtS_Spot_3.H0 d)) (s_srtS_Spot_3.out r) (denH (s_srtS_Spot_3.H1 r)) := fun d r h => bSd hm t78_ok (sp := s_srtS_Spot_3) Tryz.func65 (by kernel_rfl) (nLk _ _ _) b_srtS_Spot_3 (by kernel_rfl) h
def t79 : Tab := t78.addW s_srtS_Spot_3
theorem t79_ok : TabOK P t79 := t78_ok.addW (by kernel_rfl) (by kernel_rfl) c_srtS_Spot_3

def st_band_way_7 (d : List G) : Option (Option Nat × List G) :=
 (bif (ltI (gi d 3).int (gi d 2).int) then (bif ((nnI (gi d 3).int) && (ltI (gi d 3).int (((gi d 1).rows.length : Nat) : Int))) then (bif (decide ((0 + ((gi d 3).int).toNat) < (gi d 1).rows.length)) then (bif ((Nat.beq (gi d 0).rows.length (gi d 0).rows.length) && (decide (((gi d 0).rows.length + 1) ≤ 1048576))) then (bif (inI ((gi d 3).int + 1)) then (bif ((Nat.beq ((gi d 0).rows ++ ([[.s (gi ((gi d 1).rows.getD (0 + ((gi d 3).int).toNat) []) 2).str]] : List (List G))).length ((gi d 0).rows ++ ([[.s (gi ((gi d 1).rows.getD (0 + ((gi d 3).int).toNat) []) 2).str]] : List (List G))).length) && ((Nat.beq (gi d 1).rows.length (gi d 1).rows.length) && true)) then some (none, [.l ((gi d 0).rows ++ ([[.s (gi ((gi d 1).rows.getD (0 + ((gi d 3).int).toNat) []) 2).str]] : List (List G))), .l (gi d 1).rows, .i (gi d 2).int, .i ((gi d 3).int + 1)]) else none) else none) else none) else none) else none) else (bif ((Nat.beq (gi d 0).rows.length (gi d 0).rows.length) && true) then some (some 0, [.l (gi d 0).rows]) else none))
def l_band_way_7 : LSpec := ⟨7, [(10, [.str])], ⟨33, [(10, .s (.vec 0 1)), (20, .s (.vec 1 4)), (21, .s (.int .i64)), (22, .s (.int .i64))], [.vec [.str] 0, .vec KSpot 0]⟩, [.slot 10, .slot 20], [⟨.exit 0, ⟨33, [(10, .s (.vec 0 1))], [.vec [.str] 0]⟩, [.slot 10]⟩], st_band_way_7⟩
theorem r_band_way_7 : RoundOK P t79 nL0 0 (loopAt Tryz.f103 7) l_band_way_7 := fun d => by kernel_rfl
def L_band_way_7 : LT := nL0.add 0 l_band_way_7
theorem L_band_way_7_ok : LpK P 0 L_band_way_7 (bodyOf Tryz.f103) := LpK.add hm t79_ok (by kernel_rfl) (nLk _ _ _) r_band_way_7
def F_band_way (d : List G) : Option (List G) :=
 (callF (F_sl_Clone_Spot_f [.l (gi d 0).rows]) fun g1 => (callB (((Nat.beq (gi g1 0).rows.length (gi g1 0).rows.length) && true) && (F_srtS_Spot_3 [.l (gi g1 0).rows, .i (gi d 1).int, .t (gi d 2).bool]).isSome) (F_srtS_Spot_3 [.l (gi g1 0).rows, .i (gi d 1).int, .t (gi d 2).bool]) fun g2 => (loopB ((Nat.beq (gi g1 0).rows.length (gi g2 0).rows.length) && true) (LRun st_band_way_7 [.l [], .l (gi g2 0).rows, .i (((gi g1 0).rows.length : Nat) : Int), .i 0]) fun cg3 g3 => (bif ((Nat.beq (gi g3 0).rows.length (gi g3 0).rows.length) && true) then some [.l (gi g3 0).rows] else none))))
def s_band_way : FSpec := ⟨103, [.s (.list KSpot), .s (.int .i64), .s (.bool)], [], [], [.s (.list [.str])], [], [], [], F_band_way⟩
theorem b_band_way : BodyOK P t79 L_band_way_7 Tryz.f103 s_band_way := fun d => by kernel_rfl
theorem c_band_way : ∀ d r, F_band_way d = some r → ACallX P 103 (s_band_way.args0 d) (denH (s_band_way.H0 d)) (s_band_way.out r) (denH (s_band_way.H1 r)) := fun d r h => bSd hm t79_ok (sp := s_band_way) Tryz.func103 (by kernel_rfl) L_band_way_7_ok b_band_way (by kernel_rfl) h
def t80 : Tab := t79.addP s_band_way
theorem t80_ok : TabOK P t80 := t79_ok.addP (by kernel_rfl) (by kernel_rfl) c_band_way

def st_band_Sweep_10 (d : List G) : Option (Option Nat × List G) :=
 (bif (ltI (gi d 6).int (gi d 5).int) then (bif ((nnI (gi d 6).int) && (ltI (gi d 6).int (((gi d 4).rows.length : Nat) : Int))) then (bif (inI ((gi d 0).int - (gi ((gi d 4).rows.getD (((gi d 6).int).toNat) []) 1).int)) then (bif (inI ((gi ((gi d 4).rows.getD (((gi d 6).int).toNat) []) 1).int - (gi d 0).int)) then (bif (inI ((gi d 6).int + 1)) then some (none, [.i (gi d 0).int, .l (gi d 1).rows, .i (if ((gi d 0).int - (gi ((gi d 4).rows.getD (((gi d 6).int).toNat) []) 1).int) > (gi d 2).int then ((gi d 0).int - (gi ((gi d 4).rows.getD (((gi d 6).int).toNat) []) 1).int) else (gi d 2).int), .i (if ((gi ((gi d 4).rows.getD (((gi d 6).int).toNat) []) 1).int - (gi d 0).int) > (gi d 3).int then ((gi ((gi d 4).rows.getD (((gi d 6).int).toNat) []) 1).int - (gi d 0).int) else (gi d 3).int), .l (gi d 4).rows, .i (gi d 5).int, .i ((gi d 6).int + 1)]) else none) else none) else none) else none) else some (some 0, [.i (gi d 0).int, .l (gi d 1).rows, .i (gi d 2).int, .i (gi d 3).int]))
def l_band_Sweep_10 : LSpec := ⟨10, [], ⟨88, [(4, .s (.int .i64)), (15, .s (.list KSpot)), (17, .s (.int .i64)), (18, .s (.int .i64)), (44, .s (.list KSpot)), (45, .s (.int .i64)), (46, .s (.int .i64))], []⟩, [], [⟨.exit 0, ⟨88, [(4, .s (.int .i64)), (15, .s (.list KSpot)), (17, .s (.int .i64)), (18, .s (.int .i64))], []⟩, []⟩], st_band_Sweep_10⟩
theorem r_band_Sweep_10 : RoundOK P t80 nL0 0 (loopAt Tryz.f29 10) l_band_Sweep_10 := fun d => by kernel_rfl
def L_band_Sweep_10 : LT := nL0.add 0 l_band_Sweep_10
theorem L_band_Sweep_10_ok : LpK P 0 L_band_Sweep_10 (bodyOf Tryz.f29) := LpK.add hm t80_ok (by kernel_rfl) (nLk _ _ _) r_band_Sweep_10
def F_band_Sweep (d : List G) : Option (List G) :=
 (callF (F_band_listsFault [.l (gi d 0).rows, .l (gi d 1).rows]) fun g1 => (bif ((gi g1 0).int != 0) then some [.l [], .i 0, .i (gi g1 0).int] else (callF (F_band_askedFault [.i (gi d 2).int, .i (gi d 3).int, .i (gi d 4).int]) fun g2 => (bif ((gi g2 0).int != 0) then some [.l [], .i 0, .i (gi g2 0).int] else (callF (F_band_heard [.l (gi d 0).rows, .l (gi d 1).rows, .i (gi d 2).int, .i (gi d 3).int]) fun g3 => (loopB true (LRun st_band_Sweep_10 [.i (gi d 4).int, .l (gi g3 0).rows, .i 0, .i 0, .l (gi g3 0).rows, .i (((gi g3 0).rows.length : Nat) : Int), .i 0]) fun cg4 g4 => (bif (inI (2 * (gi g4 2).int)) then (bif (inI ((2 * (gi g4 2).int) + (gi g4 3).int)) then (bif (inI (2 * (gi g4 3).int)) then (bif (inI ((2 * (gi g4 3).int) + (gi g4 2).int)) then (bif ((gi g4 3).int == 0) then (bif ((gi g4 2).int == 0) then (bif (leI (gi g4 2).int (gi g4 3).int) then (callF (F_band_way [.l (gi g4 1).rows, .i (gi g4 0).int, .t true]) fun g5 => some [.l (gi g5 0).rows, .i (gi g4 2).int, .i 0]) else (callF (F_band_way [.l (gi g4 1).rows, .i (gi g4 0).int, .t false]) fun g6 => some [.l (gi g6 0).rows, .i (gi g4 3).int, .i 0])) else (bif (leI (gi g4 2).int ((2 * (gi g4 3).int) + (gi g4 2).int)) then (callF (F_band_way [.l (gi g4 1).rows, .i (gi g4 0).int, .t true]) fun g7 => some [.l (gi g7 0).rows, .i (gi g4 2).int, .i 0]) else (callF (F_band_way [.l (gi g4 1).rows, .i (gi g4 0).int, .t false]) fun g8 => some [.l (gi g8 0).rows, .i ((2 * (gi g4 3).int) + (gi g4 2).int), .i 0]))) else (bif ((gi g4 2).int == 0) then (bif (leI ((2 * (gi g4 2).int) + (gi g4 3).int) (gi g4 3).int) then (callF (F_band_way [.l (gi g4 1).rows, .i (gi g4 0).int, .t true]) fun g9 => some [.l (gi g9 0).rows, .i ((2 * (gi g4 2).int) + (gi g4 3).int), .i 0]) else (callF (F_band_way [.l (gi g4 1).rows, .i (gi g4 0).int, .t false]) fun g10 => some [.l (gi g10 0).rows, .i (gi g4 3).int, .i 0])) else (bif (leI ((2 * (gi g4 2).int) + (gi g4 3).int) ((2 * (gi g4 3).int) + (gi g4 2).int)) then (callF (F_band_way [.l (gi g4 1).rows, .i (gi g4 0).int, .t true]) fun g11 => some [.l (gi g11 0).rows, .i ((2 * (gi g4 2).int) + (gi g4 3).int), .i 0]) else (callF (F_band_way [.l (gi g4 1).rows, .i (gi g4 0).int, .t false]) fun g12 => some [.l (gi g12 0).rows, .i ((2 * (gi g4 3).int) + (gi g4 2).int), .i 0])))) else none) else none) else none) else none)))))))
def s_band_Sweep : FSpec := ⟨29, [.s (.list KBand), .s (.list KSpot), .s (.int .i64), .s (.int .i64), .s (.int .i64)], [], [], [.s (.list [.str]), .s (.int .i64), .s (.int .i64)], [], [], [], F_band_Sweep⟩
theorem b_band_Sweep : BodyOK P t80 L_band_Sweep_10 Tryz.f29 s_band_Sweep := fun d => by kernel_rfl
theorem c_band_Sweep : ∀ d r, F_band_Sweep d = some r → ACallX P 29 (s_band_Sweep.args0 d) (denH (s_band_Sweep.H0 d)) (s_band_Sweep.out r) (denH (s_band_Sweep.H1 r)) := fun d r h => bSd hm t80_ok (sp := s_band_Sweep) Tryz.func29 (by kernel_rfl) L_band_Sweep_10_ok b_band_Sweep (by kernel_rfl) h
def t81 : Tab := t80.addP s_band_Sweep
theorem t81_ok : TabOK P t81 := t80_ok.addP (by kernel_rfl) (by kernel_rfl) c_band_Sweep

def F_r2_in (d : List G) : Option (List G) :=
 (bif (leI (gi d 1).int (gi d 0).int) then some [.t (leI (gi d 0).int (gi d 2).int)] else some [.t false])
def s_r2_in : FSpec := ⟨78, [.s (.int .i64), .s (.int .i64), .s (.int .i64)], [], [], [.s (.bool)], [], [], [], F_r2_in⟩
theorem b_r2_in : BodyOK P t81 nL0 Tryz.f78 s_r2_in := fun d => by kernel_rfl
theorem c_r2_in : ∀ d r, F_r2_in d = some r → ACallX P 78 (s_r2_in.args0 d) (denH (s_r2_in.H0 d)) (s_r2_in.out r) (denH (s_r2_in.H1 r)) := fun d r h => bSd hm t81_ok (sp := s_r2_in) Tryz.func78 (by kernel_rfl) (nLk _ _ _) b_r2_in (by kernel_rfl) h
def t82 : Tab := t81.addP s_r2_in
theorem t82_ok : TabOK P t82 := t81_ok.addP (by kernel_rfl) (by kernel_rfl) c_r2_in

def st_r2_only_2 (d : List G) : Option (Option Nat × List G) :=
 (bif (ltI (gi d 3).int (gi d 2).int) then (bif ((nnI (gi d 3).int) && (ltI (gi d 3).int (((gi d 0).str.size : Nat) : Int))) then (callF (F_strings_IndexByte [.s (gi d 1).str, .i (((gi d 0).str.data.toList.getD (((gi d 3).int).toNat) 0).toNat : Int)]) fun g1 => (bif (ltI (gi g1 0).int 0) then some (some 0, [.t false]) else (bif (inI ((gi d 3).int + 1)) then some (none, [.s (gi d 0).str, .s (gi d 1).str, .i (gi d 2).int, .i ((gi d 3).int + 1)]) else none))) else none) else some (some 1, []))
def l_r2_only_2 : LSpec := ⟨2, [], ⟨18, [(0, .s (.str)), (1, .s (.str)), (7, .s (.int .i64)), (8, .s (.int .i64))], []⟩, [], [⟨.ret, ⟨18, [(4, .s (.bool))], []⟩, []⟩, ⟨.exit 0, ⟨18, [], []⟩, []⟩], st_r2_only_2⟩
theorem r_r2_only_2 : RoundOK P t82 nL0 0 (loopAt Tryz.f144 2) l_r2_only_2 := fun d => by kernel_rfl
def L_r2_only_2 : LT := nL0.add 0 l_r2_only_2
theorem L_r2_only_2_ok : LpK P 0 L_r2_only_2 (bodyOf Tryz.f144) := LpK.add hm t82_ok (by kernel_rfl) (nLk _ _ _) r_r2_only_2
def F_r2_only (d : List G) : Option (List G) :=
 (loopB true (LRun st_r2_only_2 [.s (gi d 0).str, .s (gi d 1).str, .i (((gi d 0).str.size : Nat) : Int), .i 0]) fun cg2 g2 => (bif Nat.beq cg2 0 then some [.t (gi g2 0).bool] else some [.t true]))
def s_r2_only : FSpec := ⟨144, [.s (.str), .s (.str)], [], [], [.s (.bool)], [], [], [], F_r2_only⟩
theorem b_r2_only : BodyOK P t82 L_r2_only_2 Tryz.f144 s_r2_only := fun d => by kernel_rfl
theorem c_r2_only : ∀ d r, F_r2_only d = some r → ACallX P 144 (s_r2_only.args0 d) (denH (s_r2_only.H0 d)) (s_r2_only.out r) (denH (s_r2_only.H1 r)) := fun d r h => bSd hm t82_ok (sp := s_r2_only) Tryz.func144 (by kernel_rfl) L_r2_only_2_ok b_r2_only (by kernel_rfl) h
def t83 : Tab := t82.addP s_r2_only
theorem t83_ok : TabOK P t83 := t82_ok.addP (by kernel_rfl) (by kernel_rfl) c_r2_only

def F_r2_Key (d : List G) : Option (List G) :=
 (callF (F_r2_in [.i (((gi d 0).str.size : Nat) : Int), .i 1, .i 40]) fun g1 => (bif (gi g1 0).bool then (bif (leI 1 (((gi d 0).str.size : Nat) : Int)) then (callF (F_r2_only [.s ((gi d 0).str.extract 0 1), .s (⟨#[97, 98, 99, 100, 101, 102, 103, 104, 105, 106, 107, 108, 109, 110, 111, 112, 113, 114, 115, 116, 117, 118, 119, 120, 121, 122]⟩ : ByteArray)]) fun g2 => (bif (gi g2 0).bool then (callF (F_r2_only [.s (gi d 0).str, .s (⟨#[97, 98, 99, 100, 101, 102, 103, 104, 105, 106, 107, 108, 109, 110, 111, 112, 113, 114, 115, 116, 117, 118, 119, 120, 121, 122, 48, 49, 50, 51, 52, 53, 54, 55, 56, 57, 45, 95]⟩ : ByteArray)]) fun g3 => some [.t (gi g3 0).bool]) else some [.t false])) else none) else some [.t false]))
def s_r2_Key : FSpec := ⟨80, [.s (.str)], [], [], [.s (.bool)], [], [], [], F_r2_Key⟩
theorem b_r2_Key : BodyOK P t83 nL0 Tryz.f80 s_r2_Key := fun d => by kernel_rfl
theorem c_r2_Key : ∀ d r, F_r2_Key d = some r → ACallX P 80 (s_r2_Key.args0 d) (denH (s_r2_Key.H0 d)) (s_r2_Key.out r) (denH (s_r2_Key.H1 r)) := fun d r h => bSd hm t83_ok (sp := s_r2_Key) Tryz.func80 (by kernel_rfl) (nLk _ _ _) b_r2_Key (by kernel_rfl) h
def t84 : Tab := t83.addP s_r2_Key
theorem t84_ok : TabOK P t84 := t83_ok.addP (by kernel_rfl) (by kernel_rfl) c_r2_Key

def F_r2_BandNamed_1 (d : List G) : Option (List G) :=
 some [.t ((gi (gi d 0).row 0).str.toList == (gi (gi d 1).row 0).str.toList)]
def s_r2_BandNamed_1 : FSpec := ⟨146, [.s (.row KBand), .s (.cptr [.str])], [], [], [.s (.bool)], [], [], [], F_r2_BandNamed_1⟩
theorem b_r2_BandNamed_1 : BodyOK P t84 nL0 Tryz.f146 s_r2_BandNamed_1 := fun d => by kernel_rfl
theorem c_r2_BandNamed_1 : ∀ d r, F_r2_BandNamed_1 d = some r → ACallX P 146 (s_r2_BandNamed_1.args0 d) (denH (s_r2_BandNamed_1.H0 d)) (s_r2_BandNamed_1.out r) (denH (s_r2_BandNamed_1.H1 r)) := fun d r h => bSd hm t84_ok (sp := s_r2_BandNamed_1) Tryz.func146 (by kernel_rfl) (nLk _ _ _) b_r2_BandNamed_1 (by kernel_rfl) h
def t85 : Tab := t84.addP s_r2_BandNamed_1
theorem t85_ok : TabOK P t85 := t84_ok.addP (by kernel_rfl) (by kernel_rfl) c_r2_BandNamed_1

def st_sl_IndexFunc_Band_3_2 (d : List G) : Option (Option Nat × List G) :=
 (bif (ltI (gi d 3).int (gi d 2).int) then (bif ((nnI (gi d 3).int) && (ltI (gi d 3).int (((gi d 0).rows.length : Nat) : Int))) then (callF (F_r2_BandNamed_1 [.l [(gEta KBand ((gi d 0).rows.getD (((gi d 3).int).toNat) []))], .l [[.s (gi (gi d 1).row 0).str]]]) fun g1 => (bif (gi g1 0).bool then some (some 0, [.i (gi d 3).int]) else (bif (inI ((gi d 3).int + 1)) then some (none, [.l (gi d 0).rows, .l [[.s (gi (gi d 1).row 0).str]], .i (gi d 2).int, .i ((gi d 3).int + 1)]) else none))) else none) else some (some 1, []))
def l_sl_IndexFunc_Band_3_2 : LSpec := ⟨2, [], ⟨19, [(0, .s (.list KBand)), (1, .clo 146 [.cptr [.str]]), (7, .s (.int .i64)), (8, .s (.int .i64))], []⟩, [], [⟨.ret, ⟨19, [(4, .s (.int .i64))], []⟩, []⟩, ⟨.exit 0, ⟨19, [], []⟩, []⟩], st_sl_IndexFunc_Band_3_2⟩
theorem r_sl_IndexFunc_Band_3_2 : RoundOK P t85 nL0 0 (loopAt Tryz.f145 2) l_sl_IndexFunc_Band_3_2 := fun d => by kernel_rfl
def L_sl_IndexFunc_Band_3_2 : LT := nL0.add 0 l_sl_IndexFunc_Band_3_2
theorem L_sl_IndexFunc_Band_3_2_ok : LpK P 0 L_sl_IndexFunc_Band_3_2 (bodyOf Tryz.f145) := LpK.add hm t85_ok (by kernel_rfl) (nLk _ _ _) r_sl_IndexFunc_Band_3_2
def F_sl_IndexFunc_Band_3 (d : List G) : Option (List G) :=
 (loopB true (LRun st_sl_IndexFunc_Band_3_2 [.l (gi d 0).rows, .l [[.s (gi (gi d 1).row 0).str]], .i (((gi d 0).rows.length : Nat) : Int), .i 0]) fun cg2 g2 => (bif Nat.beq cg2 0 then some [.i (gi g2 0).int] else some [.i (-1)]))
def s_sl_IndexFunc_Band_3 : FSpec := ⟨145, [.s (.list KBand), .clo 146 [.cptr [.str]]], [], [], [.s (.int .i64)], [], [], [], F_sl_IndexFunc_Band_3⟩
theorem b_sl_IndexFunc_Band_3 : BodyOK P t85 L_sl_IndexFunc_Band_3_2 Tryz.f145 s_sl_IndexFunc_Band_3 := fun d => by kernel_rfl
theorem c_sl_IndexFunc_Band_3 : ∀ d r, F_sl_IndexFunc_Band_3 d = some r → ACallX P 145 (s_sl_IndexFunc_Band_3.args0 d) (denH (s_sl_IndexFunc_Band_3.H0 d)) (s_sl_IndexFunc_Band_3.out r) (denH (s_sl_IndexFunc_Band_3.H1 r)) := fun d r h => bSd hm t85_ok (sp := s_sl_IndexFunc_Band_3) Tryz.func145 (by kernel_rfl) L_sl_IndexFunc_Band_3_2_ok b_sl_IndexFunc_Band_3 (by kernel_rfl) h
def t86 : Tab := t85.addP s_sl_IndexFunc_Band_3
theorem t86_ok : TabOK P t86 := t85_ok.addP (by kernel_rfl) (by kernel_rfl) c_sl_IndexFunc_Band_3

def F_r2_BandNamed (d : List G) : Option (List G) :=
 (callF (F_sl_IndexFunc_Band_3 [.l (gi d 0).rows, .l [[.s (gi d 1).str]]]) fun g1 => some [.i (gi g1 0).int])
def s_r2_BandNamed : FSpec := ⟨81, [.s (.list KBand), .s (.str)], [], [], [.s (.int .i64)], [], [], [], F_r2_BandNamed⟩
theorem b_r2_BandNamed : BodyOK P (t86.lessPf [145]) nL0 Tryz.f81 s_r2_BandNamed := fun d => by kernel_rfl
theorem c_r2_BandNamed : ∀ d r, F_r2_BandNamed d = some r → ACallX P 81 (s_r2_BandNamed.args0 d) (denH (s_r2_BandNamed.H0 d)) (s_r2_BandNamed.out r) (denH (s_r2_BandNamed.H1 r)) := fun d r h => bSd hm (t86_ok.lessPf [145]) (sp := s_r2_BandNamed) Tryz.func81 (by kernel_rfl) (nLk _ _ _) b_r2_BandNamed (by kernel_rfl) h
def t87 : Tab := t86.addP s_r2_BandNamed
theorem t87_ok : TabOK P t87 := t86_ok.addP (by kernel_rfl) (by kernel_rfl) c_r2_BandNamed

def st_r2_BandsFault_4 (d : List G) : Option (Option Nat × List G) :=
 (bif (ltI (gi d 3).int (gi d 2).int) then (bif ((nnI (gi d 3).int) && (ltI (gi d 3).int (((gi d 1).rows.length : Nat) : Int))) then (callF (F_r2_Key [.s (gi ((gi d 1).rows.getD (((gi d 3).int).toNat) []) 0).str]) fun g1 => (bif (!(gi g1 0).bool) then some (some 0, [.i 5]) else (callF (F_r2_in [.i (gi ((gi d 1).rows.getD (((gi d 3).int).toNat) []) 1).int, .i 0, .i 30000000000]) fun g2 => (bif (!(gi g2 0).bool) then some (some 0, [.i 1]) else (bif (inI ((gi ((gi d 1).rows.getD (((gi d 3).int).toNat) []) 1).int + 1)) then (callF (F_r2_in [.i (gi ((gi d 1).rows.getD (((gi d 3).int).toNat) []) 2).int, .i ((gi ((gi d 1).rows.getD (((gi d 3).int).toNat) []) 1).int + 1), .i 30000000000]) fun g3 => (bif (!(gi g3 0).bool) then some (some 0, [.i 1]) else (bif ((Int.tmod (gi ((gi d 1).rows.getD (((gi d 3).int).toNat) []) 1).int 1000) != 0) then some (some 0, [.i 1]) else (bif ((Int.tmod (gi ((gi d 1).rows.getD (((gi d 3).int).toNat) []) 2).int 1000) != 0) then some (some 0, [.i 1]) else (bif (ltI 0 (gi d 3).int) then (bif (inI ((gi d 3).int - 1)) then (bif ((nnI ((gi d 3).int - 1)) && (ltI ((gi d 3).int - 1) (((gi d 0).rows.length : Nat) : Int))) then (bif (ltI (gi ((gi d 1).rows.getD (((gi d 3).int).toNat) []) 1).int (gi ((gi d 0).rows.getD (((gi d 3).int - 1).toNat) []) 2).int) then some (some 0, [.i 7]) else (bif (inI ((gi d 3).int + 1)) then some (none, [.l (gi d 0).rows, .l (gi d 1).rows, .i (gi d 2).int, .i ((gi d 3).int + 1)]) else none)) else none) else none) else (bif (inI ((gi d 3).int + 1)) then some (none, [.l (gi d 0).rows, .l (gi d 1).rows, .i (gi d 2).int, .i ((gi d 3).int + 1)]) else none)))))) else none))))) else none) else some (some 1, [.l (gi d 0).rows]))
def l_r2_BandsFault_4 : LSpec := ⟨4, [], ⟨78, [(0, .s (.list KBand)), (10, .s (.list KBand)), (11, .s (.int .i64)), (12, .s (.int .i64))], []⟩, [], [⟨.ret, ⟨78, [(2, .s (.int .i64))], []⟩, []⟩, ⟨.exit 0, ⟨78, [(0, .s (.list KBand))], []⟩, []⟩], st_r2_BandsFault_4⟩
theorem r_r2_BandsFault_4 : RoundOK P t87 nL0 0 (loopAt Tryz.f17 4) l_r2_BandsFault_4 := fun d => by kernel_rfl
def L_r2_BandsFault_4 : LT := nL0.add 0 l_r2_BandsFault_4
theorem L_r2_BandsFault_4_ok : LpK P 0 L_r2_BandsFault_4 (bodyOf Tryz.f17) := LpK.add hm t87_ok (by kernel_rfl) (nLk _ _ _) r_r2_BandsFault_4
def st_r2_BandsFault_14 (d : List G) : Option (Option Nat × List G) :=
 (bif (ltI (gi d 3).int (gi d 2).int) then (bif ((nnI (gi d 3).int) && (ltI (gi d 3).int (((gi d 1).rows.length : Nat) : Int))) then (bif ((nnI (gi d 3).int) && (leI (gi d 3).int (((gi d 0).rows.length : Nat) : Int))) then (callF (F_r2_BandNamed [.l ((gi d 0).rows.take (((gi d 3).int).toNat)), .s (gi ((gi d 1).rows.getD (((gi d 3).int).toNat) []) 0).str]) fun g5 => (bif (leI 0 (gi g5 0).int) then some (some 0, [.i 6]) else (bif (inI ((gi d 3).int + 1)) then some (none, [.l (gi d 0).rows, .l (gi d 1).rows, .i (gi d 2).int, .i ((gi d 3).int + 1)]) else none))) else none) else none) else some (some 1, []))
def l_r2_BandsFault_14 : LSpec := ⟨14, [], ⟨78, [(0, .s (.list KBand)), (63, .s (.list KBand)), (64, .s (.int .i64)), (65, .s (.int .i64))], []⟩, [], [⟨.ret, ⟨78, [(2, .s (.int .i64))], []⟩, []⟩, ⟨.exit 3, ⟨78, [], []⟩, []⟩], st_r2_BandsFault_14⟩
theorem r_r2_BandsFault_14 : RoundOK P t87 L_r2_BandsFault_4 0 (loopAt Tryz.f17 14) l_r2_BandsFault_14 := fun d => by kernel_rfl
def L_r2_BandsFault_14 : LT := L_r2_BandsFault_4.add 0 l_r2_BandsFault_14
theorem L_r2_BandsFault_14_ok : LpK P 0 L_r2_BandsFault_14 (bodyOf Tryz.f17) := LpK.add hm t87_ok (by kernel_rfl) L_r2_BandsFault_4_ok r_r2_BandsFault_14
def F_r2_BandsFault (d : List G) : Option (List G) :=
 (bif (ltI 30 (((gi d 0).rows.length : Nat) : Int)) then some [.i 2] else (loopB true (LRun st_r2_BandsFault_4 [.l (gi d 0).rows, .l (gi d 0).rows, .i (((gi d 0).rows.length : Nat) : Int), .i 0]) fun cg4 g4 => (bif Nat.beq cg4 0 then some [.i (gi g4 0).int] else (loopB true (LRun st_r2_BandsFault_14 [.l (gi g4 0).rows, .l (gi g4 0).rows, .i (((gi g4 0).rows.length : Nat) : Int), .i 0]) fun cg6 g6 => (bif Nat.beq cg6 0 then some [.i (gi g6 0).int] else some [.i 0])))))
def s_r2_BandsFault : FSpec := ⟨17, [.s (.list KBand)], [], [], [.s (.int .i64)], [], [], [], F_r2_BandsFault⟩
theorem b_r2_BandsFault : BodyOK P t87 L_r2_BandsFault_14 Tryz.f17 s_r2_BandsFault := fun d => by kernel_rfl
theorem c_r2_BandsFault : ∀ d r, F_r2_BandsFault d = some r → ACallX P 17 (s_r2_BandsFault.args0 d) (denH (s_r2_BandsFault.H0 d)) (s_r2_BandsFault.out r) (denH (s_r2_BandsFault.H1 r)) := fun d r h => bSd hm t87_ok (sp := s_r2_BandsFault) Tryz.func17 (by kernel_rfl) L_r2_BandsFault_14_ok b_r2_BandsFault (by kernel_rfl) h
def t88 : Tab := t87.addP s_r2_BandsFault
theorem t88_ok : TabOK P t88 := t87_ok.addP (by kernel_rfl) (by kernel_rfl) c_r2_BandsFault

def F_r2_Moment (d : List G) : Option (List G) :=
 (callF (F_r2_in [.i (gi d 0).int, .i 0, .i 345686399999]) fun g1 => some [.t (gi g1 0).bool])
def s_r2_Moment : FSpec := ⟨77, [.s (.int .i64)], [], [], [.s (.bool)], [], [], [], F_r2_Moment⟩
theorem b_r2_Moment : BodyOK P t88 nL0 Tryz.f77 s_r2_Moment := fun d => by kernel_rfl
theorem c_r2_Moment : ∀ d r, F_r2_Moment d = some r → ACallX P 77 (s_r2_Moment.args0 d) (denH (s_r2_Moment.H0 d)) (s_r2_Moment.out r) (denH (s_r2_Moment.H1 r)) := fun d r h => bSd hm t88_ok (sp := s_r2_Moment) Tryz.func77 (by kernel_rfl) (nLk _ _ _) b_r2_Moment (by kernel_rfl) h
def t89 : Tab := t88.addP s_r2_Moment
theorem t89_ok : TabOK P t89 := t88_ok.addP (by kernel_rfl) (by kernel_rfl) c_r2_Moment

def F_r2_Call (d : List G) : Option (List G) :=
 (callF (F_r1_PartsOf [.s (gi d 0).str]) fun g1 => some [.t (gi g1 1).bool])
def s_r2_Call : FSpec := ⟨79, [.s (.str)], [], [], [.s (.bool)], [], [], [], F_r2_Call⟩
theorem b_r2_Call : BodyOK P t89 nL0 Tryz.f79 s_r2_Call := fun d => by kernel_rfl
theorem c_r2_Call : ∀ d r, F_r2_Call d = some r → ACallX P 79 (s_r2_Call.args0 d) (denH (s_r2_Call.H0 d)) (s_r2_Call.out r) (denH (s_r2_Call.H1 r)) := fun d r h => bSd hm t89_ok (sp := s_r2_Call) Tryz.func79 (by kernel_rfl) (nLk _ _ _) b_r2_Call (by kernel_rfl) h
def t90 : Tab := t89.addP s_r2_Call
theorem t90_ok : TabOK P t90 := t89_ok.addP (by kernel_rfl) (by kernel_rfl) c_r2_Call

end
end Go.Proofs.SYthjhjbgilbaknaaGreatDoor
