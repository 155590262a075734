/-
 What is proved here: functions of the program as functions on data. No condition.
-/
import Derived.Test.YtooejlhignkdgaaGreatDoorML2
set_option linter.all false
namespace Go.Proofs.SYtooejlhignkdgaaGreatDoor
open Go Go.AL Go.Proofs
noncomputable section
def F_r2_in (d : List G) : Option (List G) :=
 (bif (leI (gi d 1).int (gi d 0).int) then some [.t (leI (gi d 0).int (gi d 2).int)] else some [.t false])
def s_r2_in : FSpec := ⟨44, [.s (.int .i64), .s (.int .i64), .s (.int .i64)], [], [], [.s (.bool)], [], [], [], F_r2_in⟩
theorem b_r2_in : BodyOK P t52 nL0 Tryz.f44 s_r2_in := fun d => by kernel_rfl
theorem c_r2_in : COK P s_r2_in := bdC hm t52_ok Tryz.func44 (nLk _ _ _) b_r2_in
def t53 : Tab := t52.addP s_r2_in
theorem t53_ok : TabOK P t53 := t52_ok.aP c_r2_in

def F_r2_Moment (d : List G) : Option (List G) :=
 (callF (F_r2_in [.i (gi d 0).int, .i 0, .i 345686399999]) fun g1 => some [.t (gi g1 0).bool])
def s_r2_Moment : FSpec := ⟨43, [.s (.int .i64)], [], [], [.s (.bool)], [], [], [], F_r2_Moment⟩
theorem b_r2_Moment : BodyOK P t53 nL0 Tryz.f43 s_r2_Moment := fun d => by kernel_rfl
theorem c_r2_Moment : COK P s_r2_Moment := bdC hm t53_ok Tryz.func43 (nLk _ _ _) b_r2_Moment
def t54 : Tab := t53.addP s_r2_Moment
theorem t54_ok : TabOK P t54 := t53_ok.aP c_r2_Moment

def st_r2_only_2 (d : List G) : Option (Option Nat × List G) :=
 (bif (ltI (gi d 3).int (gi d 2).int) then (bif ((nnI (gi d 3).int) && (ltI (gi d 3).int (((gi d 0).str.size : Nat) : Int))) then (callF (F_strings_IndexByte [.s (gi d 1).str, .i (((gi d 0).str.data.toList.getD (((gi d 3).int).toNat) 0).toNat : Int)]) fun g1 => (bif (ltI (gi g1 0).int 0) then some (some 0, [.t false]) else (bif (inI ((gi d 3).int + 1)) then some (none, [.s (gi d 0).str, .s (gi d 1).str, .i (gi d 2).int, .i ((gi d 3).int + 1)]) else none))) else none) else some (some 1, []))
def l_r2_only_2 : LSpec := ⟨2, [], ⟨18, [(0, .s (.str)), (1, .s (.str)), (7, .s (.int .i64)), (8, .s (.int .i64))], []⟩, [], [⟨.ret, ⟨18, [(4, .s (.bool))], []⟩, []⟩, ⟨.exit 0, ⟨18, [], []⟩, []⟩], st_r2_only_2⟩
theorem r_r2_only_2 : RoundOK P t54 nL0 0 (loopAt Tryz.f83 2) l_r2_only_2 := fun d => by kernel_rfl
def L_r2_only_2 : LT := nL0.add 0 l_r2_only_2
theorem L_r2_only_2_ok : LpK P 0 L_r2_only_2 (bodyOf Tryz.f83) := LpK.a hm t54_ok (nLk _ _ _) r_r2_only_2
def F_r2_only (d : List G) : Option (List G) :=
 (loopB true (LRun st_r2_only_2 [.s (gi d 0).str, .s (gi d 1).str, .i (((gi d 0).str.size : Nat) : Int), .i 0]) fun cg2 g2 => (bif Nat.beq cg2 0 then some [.t (gi g2 0).bool] else some [.t true]))
def s_r2_only : FSpec := ⟨83, [.s (.str), .s (.str)], [], [], [.s (.bool)], [], [], [], F_r2_only⟩
theorem b_r2_only : BodyOK P t54 L_r2_only_2 Tryz.f83 s_r2_only := fun d => by kernel_rfl
theorem c_r2_only : COK P s_r2_only := bdC hm t54_ok Tryz.func83 L_r2_only_2_ok b_r2_only
def t55 : Tab := t54.addP s_r2_only
theorem t55_ok : TabOK P t55 := t54_ok.aP c_r2_only

def F_r2_Key (d : List G) : Option (List G) :=
 (callF (F_r2_in [.i (((gi d 0).str.size : Nat) : Int), .i 1, .i 40]) fun g1 => (bif (gi g1 0).bool then (bif (leI 1 (((gi d 0).str.size : Nat) : Int)) then (callF (F_r2_only [.s ((gi d 0).str.extract 0 1), .s (⟨#[97, 98, 99, 100, 101, 102, 103, 104, 105, 106, 107, 108, 109, 110, 111, 112, 113, 114, 115, 116, 117, 118, 119, 120, 121, 122]⟩ : ByteArray)]) fun g2 => (bif (gi g2 0).bool then (callF (F_r2_only [.s (gi d 0).str, .s (⟨#[97, 98, 99, 100, 101, 102, 103, 104, 105, 106, 107, 108, 109, 110, 111, 112, 113, 114, 115, 116, 117, 118, 119, 120, 121, 122, 48, 49, 50, 51, 52, 53, 54, 55, 56, 57, 45, 95]⟩ : ByteArray)]) fun g3 => some [.t (gi g3 0).bool]) else some [.t false])) else none) else some [.t false]))
def s_r2_Key : FSpec := ⟨45, [.s (.str)], [], [], [.s (.bool)], [], [], [], F_r2_Key⟩
theorem b_r2_Key : BodyOK P t55 nL0 Tryz.f45 s_r2_Key := fun d => by kernel_rfl
theorem c_r2_Key : COK P s_r2_Key := bdC hm t55_ok Tryz.func45 (nLk _ _ _) b_r2_Key
def t56 : Tab := t55.addP s_r2_Key
theorem t56_ok : TabOK P t56 := t55_ok.aP c_r2_Key

def F_r2_Call (d : List G) : Option (List G) :=
 (callF (F_r1_PartsOf [.s (gi d 0).str]) fun g1 => some [.t (gi g1 1).bool])
def s_r2_Call : FSpec := ⟨46, [.s (.str)], [], [], [.s (.bool)], [], [], [], F_r2_Call⟩
theorem b_r2_Call : BodyOK P t56 nL0 Tryz.f46 s_r2_Call := fun d => by kernel_rfl
theorem c_r2_Call : COK P s_r2_Call := bdC hm t56_ok Tryz.func46 (nLk _ _ _) b_r2_Call
def t57 : Tab := t56.addP s_r2_Call
theorem t57_ok : TabOK P t57 := t56_ok.aP c_r2_Call

def F_r2_ContactFault (d : List G) : Option (List G) :=
 (callF (F_r2_Moment [.i (gi (gi d 0).row 0).int]) fun g1 => (bif (!(gi g1 0).bool) then some [.i 1] else (callF (F_r2_in [.i (gi (gi d 0).row 1).int, .i 1, .i 3]) fun g2 => (bif (!(gi g2 0).bool) then some [.i 4] else (callF (F_r2_Key [.s (gi (gi d 0).row 2).str]) fun g3 => (bif (!(gi g3 0).bool) then some [.i 5] else (callF (F_r2_Call [.s (gi (gi d 0).row 3).str]) fun g4 => (bif (!(gi g4 0).bool) then some [.i 3] else (callF (F_r2_in [.i (gi (gi d 0).row 4).int, .i 0, .i 99999]) fun g5 => (bif (!(gi g5 0).bool) then some [.i 1] else (callF (F_r2_in [.i (gi (gi d 0).row 5).int, .i 0, .i 99999]) fun g6 => (bif (!(gi g6 0).bool) then some [.i 1] else (bif (!((gi (gi d 0).row 6).str.toList == (⟨#[]⟩ : ByteArray).toList)) then (callF (F_r2_Key [.s (gi (gi d 0).row 6).str]) fun g7 => (bif (!(gi g7 0).bool) then some [.i 5] else (bif (!((gi (gi d 0).row 7).str.toList == (⟨#[]⟩ : ByteArray).toList)) then (callF (F_r2_Key [.s (gi (gi d 0).row 7).str]) fun g8 => (bif (!(gi g8 0).bool) then some [.i 5] else some [.i 0])) else some [.i 0]))) else (bif (!((gi (gi d 0).row 7).str.toList == (⟨#[]⟩ : ByteArray).toList)) then (callF (F_r2_Key [.s (gi (gi d 0).row 7).str]) fun g9 => (bif (!(gi g9 0).bool) then some [.i 5] else some [.i 0])) else some [.i 0]))))))))))))))
def s_r2_ContactFault : FSpec := ⟨14, [.s (.row KCt)], [], [], [.s (.int .i64)], [], [], [], F_r2_ContactFault⟩
theorem b_r2_ContactFault : BodyOK P t57 nL0 Tryz.f14 s_r2_ContactFault := fun d => by kernel_rfl
theorem c_r2_ContactFault : COK P s_r2_ContactFault := bdC hm t57_ok Tryz.func14 (nLk _ _ _) b_r2_ContactFault
def t58 : Tab := t57.addP s_r2_ContactFault
theorem t58_ok : TabOK P t58 := t57_ok.aP c_r2_ContactFault

def st_r2_LogFault_4 (d : List G) : Option (Option Nat × List G) :=
 (bif (ltI (gi d 3).int (gi d 2).int) then (bif ((nnI (gi d 3).int) && (ltI (gi d 3).int (((gi d 1).rows.length : Nat) : Int))) then (callF (F_r2_ContactFault [.l [(gEta KCt ((gi d 1).rows.getD (((gi d 3).int).toNat) []))]]) fun g1 => (bif ((gi g1 0).int != 0) then some (some 0, [.i (gi g1 0).int]) else (bif (ltI 0 (gi d 3).int) then (bif (inI ((gi d 3).int - 1)) then (bif ((nnI ((gi d 3).int - 1)) && (ltI ((gi d 3).int - 1) (((gi d 0).rows.length : Nat) : Int))) then (callF (F_r2_ContactOrder [.l [(gEta KCt ((gi d 0).rows.getD (((gi d 3).int - 1).toNat) []))], .l [(gEta KCt ((gi d 1).rows.getD (((gi d 3).int).toNat) []))]]) fun g2 => (bif (leI 0 (gi g2 0).int) then some (some 0, [.i 7]) else (bif (inI ((gi d 3).int + 1)) then some (none, [.l (gi d 0).rows, .l (gi d 1).rows, .i (gi d 2).int, .i ((gi d 3).int + 1)]) else none))) else none) else none) else (bif (inI ((gi d 3).int + 1)) then some (none, [.l (gi d 0).rows, .l (gi d 1).rows, .i (gi d 2).int, .i ((gi d 3).int + 1)]) else none)))) else none) else some (some 1, []))
def l_r2_LogFault_4 : LSpec := ⟨4, [], ⟨34, [(0, .s (.list KCt)), (9, .s (.list KCt)), (10, .s (.int .i64)), (11, .s (.int .i64))], []⟩, [], [⟨.ret, ⟨34, [(2, .s (.int .i64))], []⟩, []⟩, ⟨.exit 0, ⟨34, [], []⟩, []⟩], st_r2_LogFault_4⟩
theorem r_r2_LogFault_4 : RoundOK P t58 nL0 0 (loopAt Tryz.f6 4) l_r2_LogFault_4 := fun d => by kernel_rfl
def L_r2_LogFault_4 : LT := nL0.add 0 l_r2_LogFault_4
theorem L_r2_LogFault_4_ok : LpK P 0 L_r2_LogFault_4 (bodyOf Tryz.f6) := LpK.a hm t58_ok (nLk _ _ _) r_r2_LogFault_4
def F_r2_LogFault (d : List G) : Option (List G) :=
 (bif (ltI 2000 (((gi d 0).rows.length : Nat) : Int)) then some [.i 2] else (loopB true (LRun st_r2_LogFault_4 [.l (gi d 0).rows, .l (gi d 0).rows, .i (((gi d 0).rows.length : Nat) : Int), .i 0]) fun cg3 g3 => (bif Nat.beq cg3 0 then some [.i (gi g3 0).int] else some [.i 0])))
def s_r2_LogFault : FSpec := ⟨6, [.s (.list KCt)], [], [], [.s (.int .i64)], [], [], [], F_r2_LogFault⟩
theorem b_r2_LogFault : BodyOK P t58 L_r2_LogFault_4 Tryz.f6 s_r2_LogFault := fun d => by kernel_rfl
theorem c_r2_LogFault : COK P s_r2_LogFault := bdC hm t58_ok Tryz.func6 L_r2_LogFault_4_ok b_r2_LogFault
def t59 : Tab := t58.addP s_r2_LogFault
theorem t59_ok : TabOK P t59 := t58_ok.aP c_r2_LogFault

def st_mk_Contacts_f_4 (d : List G) : Option (Option Nat × List G) :=
 (bif (ltI (gi d 5).int (gi d 4).int) then (callF (F_mk_Pick [.l (gi d 0).rows, .i (gi d 1).int, .l [[.i 0], [.i 1], [.i 10], [.i 50], [.i 1000], [.i 40000], [.i 1500000]]]) fun g1 => (bif (inI ((gi d 3).int + (gi g1 2).int)) then (callF (F_mk_SomeContact [.l (gi g1 0).rows, .i (gi g1 1).int, .i ((gi d 3).int + (gi g1 2).int)]) fun g2 => (bif ((Nat.beq (gi d 2).rows.length (gi d 2).rows.length) && (decide (((gi d 2).rows.length + 1) ≤ 1048576))) then (bif (inI ((gi d 5).int + 1)) then (bif ((Nat.beq ((gi d 2).rows ++ ([(gEta KCt (gi g2 2).row)] : List (List G))).length ((gi d 2).rows ++ ([(gEta KCt (gi g2 2).row)] : List (List G))).length) && true) then some (none, [.l (gi g2 0).rows, .i (gi g2 1).int, .l ((gi d 2).rows ++ ([(gEta KCt (gi g2 2).row)] : List (List G))), .i ((gi d 3).int + (gi g1 2).int), .i (gi d 4).int, .i ((gi d 5).int + 1)]) else none) else none) else none)) else none)) else (bif ((Nat.beq (gi d 2).rows.length (gi d 2).rows.length) && true) then some (some 0, [.l (gi d 0).rows, .i (gi d 1).int, .l (gi d 2).rows]) else none))
def l_mk_Contacts_f_4 : LSpec := ⟨4, [(5, KCt)], ⟨26, [(0, .s (.ptr 0 0)), (5, .s (.vec 1 8)), (6, .s (.int .i64)), (7, .s (.int .i64)), (8, .s (.int .i64))], [.box [.list [.int .i64], .int .i64], .vec KCt 0]⟩, [.fix 0, .slot 5], [⟨.exit 0, ⟨26, [(5, .s (.vec 1 8))], [.box [.list [.int .i64], .int .i64], .vec KCt 0]⟩, [.fix 0, .slot 5]⟩], st_mk_Contacts_f_4⟩
theorem r_mk_Contacts_f_4 : RoundOK P t59 nL0 1 (loopAt Tryz.f12 4) l_mk_Contacts_f_4 := fun d => by kernel_rfl
def L_mk_Contacts_f_4 : LT := nL0.add 1 l_mk_Contacts_f_4
theorem L_mk_Contacts_f_4_ok : LpK P 1 L_mk_Contacts_f_4 (bodyOf Tryz.f12) := LpK.a hm t59_ok (nLk _ _ _) r_mk_Contacts_f_4
def F_mk_Contacts_f (d : List G) : Option (List G) :=
 (loopB true (LRun st_mk_Contacts_f_4 [.l (gi d 0).rows, .i (gi d 1).int, .l [], .i 0, .i (gi d 2).int, .i 0]) fun cg3 g3 => (callB (((Nat.beq (gi g3 2).rows.length (gi g3 2).rows.length) && true) && (F_srtS_Contact [.l (gi g3 2).rows]).isSome) (F_srtS_Contact [.l (gi g3 2).rows]) fun g4 => (callB (((Nat.beq (gi g3 2).rows.length (gi g4 0).rows.length) && true) && (F_sl_CompactFunc_Contact [.l (gi g4 0).rows]).isSome) (F_sl_CompactFunc_Contact [.l (gi g4 0).rows]) fun g5 => (bif ((Nat.beq (gi g5 1).int.toNat ((gi g5 0).rows.take ((gi g5 1).int.toNat)).length) && true) then some [.l (gi g3 0).rows, .i (gi g3 1).int, .l ((gi g5 0).rows.take ((gi g5 1).int.toNat))] else none))))
def s_mk_Contacts_f : FSpec := ⟨12, [.s (.ptr 0 0), .s (.int .i64)], [.box [.list [.int .i64], .int .i64]], [.slot 0], [.s (.vec 1 8)], [.box [.list [.int .i64], .int .i64], .vec KCt 0], [.fix 0, .slot 0], [(1000004, [])], F_mk_Contacts_f⟩
theorem b_mk_Contacts_f : BodyOK P t59 L_mk_Contacts_f_4 Tryz.f12 s_mk_Contacts_f := fun d => by kernel_rfl
theorem c_mk_Contacts_f : COK P s_mk_Contacts_f := bdC hm t59_ok Tryz.func12 L_mk_Contacts_f_4_ok b_mk_Contacts_f
def t60 : Tab := t59.addW s_mk_Contacts_f
theorem t60_ok : TabOK P t60 := t59_ok.aW c_mk_Contacts_f

def st_mk_RightContacts_f_2 (d : List G) : Option (Option Nat × List G) :=
 (bif (ltI (gi d 3).int 5) then (callF (F_mk_Contacts_f [.l (gi d 0).rows, .i (gi d 1).int, .i (gi d 2).int]) fun g1 => (callB (((Nat.beq (gi g1 2).rows.length (gi g1 2).rows.length) && true) && (F_r2_LogFault [.l (gi g1 2).rows]).isSome) (F_r2_LogFault [.l (gi g1 2).rows]) fun g2 => (bif ((gi g2 0).int == 0) then (bif ((Nat.beq (gi g1 2).rows.length (gi g1 2).rows.length) && true) then some (some 0, [.l (gi g1 0).rows, .i (gi g1 1).int, .l (gi g1 2).rows]) else none) else (bif (inI ((gi d 3).int + 1)) then some (none, [.l (gi g1 0).rows, .i (gi g1 1).int, .i (gi d 2).int, .i ((gi d 3).int + 1)]) else none)))) else some (some 1, [.l (gi d 0).rows, .i (gi d 1).int]))
def l_mk_RightContacts_f_2 : LSpec := ⟨2, [], ⟨16, [(0, .s (.ptr 0 0)), (1, .s (.int .i64)), (6, .s (.int .i64))], [.box [.list [.int .i64], .int .i64]]⟩, [.fix 0], [⟨.ret, ⟨16, [(4, .s (.vec 1 8))], [.box [.list [.int .i64], .int .i64], .vec KCt 0]⟩, [.fix 0, .slot 4]⟩, ⟨.exit 0, ⟨16, [], [.box [.list [.int .i64], .int .i64]]⟩, [.fix 0]⟩], st_mk_RightContacts_f_2⟩
theorem r_mk_RightContacts_f_2 : RoundOK P (t60.lessPf [6]) nL0 1 (loopAt Tryz.f4 2) l_mk_RightContacts_f_2 := fun d => by kernel_rfl
def L_mk_RightContacts_f_2 : LT := nL0.add 1 l_mk_RightContacts_f_2
theorem L_mk_RightContacts_f_2_ok : LpK P 1 L_mk_RightContacts_f_2 (bodyOf Tryz.f4) := LpK.add hm (t60_ok.lessPf [6]) (by kernel_rfl) (nLk _ _ _) r_mk_RightContacts_f_2
def F_mk_RightContacts_f (d : List G) : Option (List G) :=
 (loopB true (LRun st_mk_RightContacts_f_2 [.l (gi d 0).rows, .i (gi d 1).int, .i (gi d 2).int, .i 0]) fun cg3 g3 => (bif Nat.beq cg3 0 then (bif ((Nat.beq (gi g3 2).rows.length (gi g3 2).rows.length) && true) then some [.l (gi g3 0).rows, .i (gi g3 1).int, .l (gi g3 2).rows] else none) else some [.l (gi g3 0).rows, .i (gi g3 1).int, .l []]))
def s_mk_RightContacts_f : FSpec := ⟨4, [.s (.ptr 0 0), .s (.int .i64)], [.box [.list [.int .i64], .int .i64]], [.slot 0], [.s (.vec 1 8)], [.box [.list [.int .i64], .int .i64], .vec KCt 0], [.fix 0, .slot 0], [(4, KCt)], F_mk_RightContacts_f⟩
theorem b_mk_RightContacts_f : BodyOK P (t60.lessPf [6]) L_mk_RightContacts_f_2 Tryz.f4 s_mk_RightContacts_f := fun d => by kernel_rfl
theorem c_mk_RightContacts_f : COK P s_mk_RightContacts_f := bodyC hm (t60_ok.lessPf [6]) Tryz.func4 (by kernel_rfl) L_mk_RightContacts_f_2_ok b_mk_RightContacts_f (by kernel_rfl)
def t61 : Tab := t60.addW s_mk_RightContacts_f
theorem t61_ok : TabOK P t61 := t60_ok.aW c_mk_RightContacts_f

def F_log_CheckBands_1 (d : List G) : Option (List G) :=
 some [.t ((gi (gi d 0).row 0).str.toList == (gi (gi d 1).row 0).str.toList)]
def s_log_CheckBands_1 : FSpec := ⟨64, [.s (.row KBand), .s (.cptr KBand)], [], [], [.s (.bool)], [], [], [], F_log_CheckBands_1⟩
theorem b_log_CheckBands_1 : BodyOK P t61 nL0 Tryz.f64 s_log_CheckBands_1 := fun d => by kernel_rfl
theorem c_log_CheckBands_1 : COK P s_log_CheckBands_1 := bdC hm t61_ok Tryz.func64 (nLk _ _ _) b_log_CheckBands_1
def t62 : Tab := t61.addP s_log_CheckBands_1
theorem t62_ok : TabOK P t62 := t61_ok.aP c_log_CheckBands_1

def st_sl_IndexFunc_Band_2 (d : List G) : Option (Option Nat × List G) :=
 (bif (ltI (gi d 3).int (gi d 2).int) then (bif ((nnI (gi d 3).int) && (ltI (gi d 3).int (((gi d 0).rows.length : Nat) : Int))) then (callF (F_log_CheckBands_1 [.l [(gEta KBand ((gi d 0).rows.getD (((gi d 3).int).toNat) []))], .l [(gEta KBand (gi d 1).row)]]) fun g1 => (bif (gi g1 0).bool then some (some 0, [.i (gi d 3).int]) else (bif (inI ((gi d 3).int + 1)) then some (none, [.l (gi d 0).rows, .l [(gEta KBand (gi d 1).row)], .i (gi d 2).int, .i ((gi d 3).int + 1)]) else none))) else none) else some (some 1, []))
def l_sl_IndexFunc_Band_2 : LSpec := ⟨2, [], ⟨19, [(0, .s (.list KBand)), (1, .clo 64 [.cptr KBand]), (7, .s (.int .i64)), (8, .s (.int .i64))], []⟩, [], [⟨.ret, ⟨19, [(4, .s (.int .i64))], []⟩, []⟩, ⟨.exit 0, ⟨19, [], []⟩, []⟩], st_sl_IndexFunc_Band_2⟩
theorem r_sl_IndexFunc_Band_2 : RoundOK P t62 nL0 0 (loopAt Tryz.f25 2) l_sl_IndexFunc_Band_2 := fun d => by kernel_rfl
def L_sl_IndexFunc_Band_2 : LT := nL0.add 0 l_sl_IndexFunc_Band_2
theorem L_sl_IndexFunc_Band_2_ok : LpK P 0 L_sl_IndexFunc_Band_2 (bodyOf Tryz.f25) := LpK.a hm t62_ok (nLk _ _ _) r_sl_IndexFunc_Band_2
def F_sl_IndexFunc_Band (d : List G) : Option (List G) :=
 (loopB true (LRun st_sl_IndexFunc_Band_2 [.l (gi d 0).rows, .l [(gEta KBand (gi d 1).row)], .i (((gi d 0).rows.length : Nat) : Int), .i 0]) fun cg2 g2 => (bif Nat.beq cg2 0 then some [.i (gi g2 0).int] else some [.i (-1)]))
def s_sl_IndexFunc_Band : FSpec := ⟨25, [.s (.list KBand), .clo 64 [.cptr KBand]], [], [], [.s (.int .i64)], [], [], [], F_sl_IndexFunc_Band⟩
theorem b_sl_IndexFunc_Band : BodyOK P t62 L_sl_IndexFunc_Band_2 Tryz.f25 s_sl_IndexFunc_Band := fun d => by kernel_rfl
theorem c_sl_IndexFunc_Band : COK P s_sl_IndexFunc_Band := bdC hm t62_ok Tryz.func25 L_sl_IndexFunc_Band_2_ok b_sl_IndexFunc_Band
def t63 : Tab := t62.addP s_sl_IndexFunc_Band
theorem t63_ok : TabOK P t63 := t62_ok.aP c_sl_IndexFunc_Band

def F_sl_ContainsFunc_Band (d : List G) : Option (List G) :=
 (callF (F_sl_IndexFunc_Band [.l (gi d 0).rows, .l [(gEta KBand (gi d 1).row)]]) fun g1 => some [.t (leI 0 (gi g1 0).int)])
def s_sl_ContainsFunc_Band : FSpec := ⟨63, [.s (.list KBand), .clo 64 [.cptr KBand]], [], [], [.s (.bool)], [], [], [], F_sl_ContainsFunc_Band⟩
theorem b_sl_ContainsFunc_Band : BodyOK P t63 nL0 Tryz.f63 s_sl_ContainsFunc_Band := fun d => by kernel_rfl
theorem c_sl_ContainsFunc_Band : COK P s_sl_ContainsFunc_Band := bdC hm t63_ok Tryz.func63 (nLk _ _ _) b_sl_ContainsFunc_Band
def t64 : Tab := t63.addP s_sl_ContainsFunc_Band
theorem t64_ok : TabOK P t64 := t63_ok.aP c_sl_ContainsFunc_Band

def st_log_CheckBands_4 (d : List G) : Option (Option Nat × List G) :=
 (bif (ltI (gi d 3).int (gi d 2).int) then (bif ((nnI (gi d 3).int) && (ltI (gi d 3).int (((gi d 1).rows.length : Nat) : Int))) then (callF (F_kit_IsKey [.s (gi ((gi d 1).rows.getD (((gi d 3).int).toNat) []) 0).str]) fun g1 => (bif (!(gi g1 0).bool) then some (some 0, [.i 5]) else (callF (F_kit_Outside [.i (gi ((gi d 1).rows.getD (((gi d 3).int).toNat) []) 1).int, .i 0, .i 30000000000]) fun g2 => (bif (gi g2 0).bool then some (some 0, [.i 1]) else (callF (F_kit_Outside [.i (gi ((gi d 1).rows.getD (((gi d 3).int).toNat) []) 2).int, .i 0, .i 30000000000]) fun g3 => (bif (gi g3 0).bool then some (some 0, [.i 1]) else (bif ((Int.tmod (gi ((gi d 1).rows.getD (((gi d 3).int).toNat) []) 1).int 1000) != 0) then some (some 0, [.i 1]) else (bif ((Int.tmod (gi ((gi d 1).rows.getD (((gi d 3).int).toNat) []) 2).int 1000) != 0) then some (some 0, [.i 1]) else (bif (leI (gi ((gi d 1).rows.getD (((gi d 3).int).toNat) []) 2).int (gi ((gi d 1).rows.getD (((gi d 3).int).toNat) []) 1).int) then some (some 0, [.i 1]) else (bif (ltI 0 (gi d 3).int) then (bif (inI ((gi d 3).int - 1)) then (bif ((nnI ((gi d 3).int - 1)) && (ltI ((gi d 3).int - 1) (((gi d 0).rows.length : Nat) : Int))) then (bif (ltI (gi ((gi d 1).rows.getD (((gi d 3).int).toNat) []) 1).int (gi ((gi d 0).rows.getD (((gi d 3).int - 1).toNat) []) 2).int) then some (some 0, [.i 7]) else (bif (inI ((gi d 3).int + 1)) then some (none, [.l (gi d 0).rows, .l (gi d 1).rows, .i (gi d 2).int, .i ((gi d 3).int + 1)]) else none)) else none) else none) else (bif (inI ((gi d 3).int + 1)) then some (none, [.l (gi d 0).rows, .l (gi d 1).rows, .i (gi d 2).int, .i ((gi d 3).int + 1)]) else none))))))))))) else none) else some (some 1, [.l (gi d 0).rows]))
def l_log_CheckBands_4 : LSpec := ⟨4, [], ⟨78, [(0, .s (.list KBand)), (10, .s (.list KBand)), (11, .s (.int .i64)), (12, .s (.int .i64))], []⟩, [], [⟨.ret, ⟨78, [(2, .s (.int .i64))], []⟩, []⟩, ⟨.exit 0, ⟨78, [(0, .s (.list KBand))], []⟩, []⟩], st_log_CheckBands_4⟩
theorem r_log_CheckBands_4 : RoundOK P (t64.lessPf [63]) nL0 0 (loopAt Tryz.f20 4) l_log_CheckBands_4 := fun d => by kernel_rfl
def L_log_CheckBands_4 : LT := nL0.add 0 l_log_CheckBands_4
theorem L_log_CheckBands_4_ok : LpK P 0 L_log_CheckBands_4 (bodyOf Tryz.f20) := LpK.add hm (t64_ok.lessPf [63]) (by kernel_rfl) (nLk _ _ _) r_log_CheckBands_4
def st_log_CheckBands_14 (d : List G) : Option (Option Nat × List G) :=
 (bif (ltI (gi d 3).int (gi d 2).int) then (bif ((nnI (gi d 3).int) && (ltI (gi d 3).int (((gi d 1).rows.length : Nat) : Int))) then (bif ((nnI (gi d 3).int) && (leI (gi d 3).int (((gi d 0).rows.length : Nat) : Int))) then (callF (F_sl_ContainsFunc_Band [.l ((gi d 0).rows.take (((gi d 3).int).toNat)), .l [(gEta KBand ((gi d 1).rows.getD (((gi d 3).int).toNat) []))]]) fun g5 => (bif (gi g5 0).bool then some (some 0, [.i 6]) else (bif (inI ((gi d 3).int + 1)) then some (none, [.l (gi d 0).rows, .l (gi d 1).rows, .i (gi d 2).int, .i ((gi d 3).int + 1)]) else none))) else none) else none) else some (some 1, []))
def l_log_CheckBands_14 : LSpec := ⟨14, [], ⟨78, [(0, .s (.list KBand)), (65, .s (.list KBand)), (66, .s (.int .i64)), (67, .s (.int .i64))], []⟩, [], [⟨.ret, ⟨78, [(2, .s (.int .i64))], []⟩, []⟩, ⟨.exit 3, ⟨78, [], []⟩, []⟩], st_log_CheckBands_14⟩
theorem r_log_CheckBands_14 : RoundOK P (t64.lessPf [63]) L_log_CheckBands_4 0 (loopAt Tryz.f20 14) l_log_CheckBands_14 := fun d => by kernel_rfl
def L_log_CheckBands_14 : LT := L_log_CheckBands_4.add 0 l_log_CheckBands_14
theorem L_log_CheckBands_14_ok : LpK P 0 L_log_CheckBands_14 (bodyOf Tryz.f20) := LpK.add hm (t64_ok.lessPf [63]) (by kernel_rfl) L_log_CheckBands_4_ok r_log_CheckBands_14
def F_log_CheckBands (d : List G) : Option (List G) :=
 (bif (ltI 30 (((gi d 0).rows.length : Nat) : Int)) then some [.i 2] else (loopB true (LRun st_log_CheckBands_4 [.l (gi d 0).rows, .l (gi d 0).rows, .i (((gi d 0).rows.length : Nat) : Int), .i 0]) fun cg4 g4 => (bif Nat.beq cg4 0 then some [.i (gi g4 0).int] else (loopB true (LRun st_log_CheckBands_14 [.l (gi g4 0).rows, .l (gi g4 0).rows, .i (((gi g4 0).rows.length : Nat) : Int), .i 0]) fun cg6 g6 => (bif Nat.beq cg6 0 then some [.i (gi g6 0).int] else some [.i 0])))))
def s_log_CheckBands : FSpec := ⟨20, [.s (.list KBand)], [], [], [.s (.int .i64)], [], [], [], F_log_CheckBands⟩
theorem b_log_CheckBands : BodyOK P (t64.lessPf [63]) L_log_CheckBands_14 Tryz.f20 s_log_CheckBands := fun d => by kernel_rfl
theorem c_log_CheckBands : COK P s_log_CheckBands := bodyC hm (t64_ok.lessPf [63]) Tryz.func20 (by kernel_rfl) L_log_CheckBands_14_ok b_log_CheckBands (by kernel_rfl)
def t65 : Tab := t64.addP s_log_CheckBands
theorem t65_ok : TabOK P t65 := t64_ok.aP c_log_CheckBands

def F_log_Export_1 (d : List G) : Option (List G) :=
 some [.t ((gi (gi d 0).row 0).str.toList == (gi (gi d 1).row 2).str.toList)]
def s_log_Export_1 : FSpec := ⟨26, [.s (.row KBand), .s (.cptr KCt)], [], [], [.s (.bool)], [], [], [], F_log_Export_1⟩
theorem b_log_Export_1 : BodyOK P t65 nL0 Tryz.f26 s_log_Export_1 := fun d => by kernel_rfl
theorem c_log_Export_1 : COK P s_log_Export_1 := bdC hm t65_ok Tryz.func26 (nLk _ _ _) b_log_Export_1
def t66 : Tab := t65.addP s_log_Export_1
theorem t66_ok : TabOK P t66 := t65_ok.aP c_log_Export_1

def st_sl_IndexFunc_Band_2_2 (d : List G) : Option (Option Nat × List G) :=
 (bif (ltI (gi d 3).int (gi d 2).int) then (bif ((nnI (gi d 3).int) && (ltI (gi d 3).int (((gi d 0).rows.length : Nat) : Int))) then (callF (F_log_Export_1 [.l [(gEta KBand ((gi d 0).rows.getD (((gi d 3).int).toNat) []))], .l [(gEta KCt (gi d 1).row)]]) fun g1 => (bif (gi g1 0).bool then some (some 0, [.i (gi d 3).int]) else (bif (inI ((gi d 3).int + 1)) then some (none, [.l (gi d 0).rows, .l [(gEta KCt (gi d 1).row)], .i (gi d 2).int, .i ((gi d 3).int + 1)]) else none))) else none) else some (some 1, []))
def l_sl_IndexFunc_Band_2_2 : LSpec := ⟨2, [], ⟨19, [(0, .s (.list KBand)), (1, .clo 26 [.cptr KCt]), (7, .s (.int .i64)), (8, .s (.int .i64))], []⟩, [], [⟨.ret, ⟨19, [(4, .s (.int .i64))], []⟩, []⟩, ⟨.exit 0, ⟨19, [], []⟩, []⟩], st_sl_IndexFunc_Band_2_2⟩
theorem r_sl_IndexFunc_Band_2_2 : RoundOK P t66 nL0 0 (loopAt Tryz.f25 2) l_sl_IndexFunc_Band_2_2 := fun d => by kernel_rfl
def L_sl_IndexFunc_Band_2_2 : LT := nL0.add 0 l_sl_IndexFunc_Band_2_2
theorem L_sl_IndexFunc_Band_2_2_ok : LpK P 0 L_sl_IndexFunc_Band_2_2 (bodyOf Tryz.f25) := LpK.a hm t66_ok (nLk _ _ _) r_sl_IndexFunc_Band_2_2
def F_sl_IndexFunc_Band_2 (d : List G) : Option (List G) :=
 (loopB true (LRun st_sl_IndexFunc_Band_2_2 [.l (gi d 0).rows, .l [(gEta KCt (gi d 1).row)], .i (((gi d 0).rows.length : Nat) : Int), .i 0]) fun cg2 g2 => (bif Nat.beq cg2 0 then some [.i (gi g2 0).int] else some [.i (-1)]))
def s_sl_IndexFunc_Band_2 : FSpec := ⟨25, [.s (.list KBand), .clo 26 [.cptr KCt]], [], [], [.s (.int .i64)], [], [], [], F_sl_IndexFunc_Band_2⟩
theorem b_sl_IndexFunc_Band_2 : BodyOK P t66 L_sl_IndexFunc_Band_2_2 Tryz.f25 s_sl_IndexFunc_Band_2 := fun d => by kernel_rfl
theorem c_sl_IndexFunc_Band_2 : COK P s_sl_IndexFunc_Band_2 := bdC hm t66_ok Tryz.func25 L_sl_IndexFunc_Band_2_2_ok b_sl_IndexFunc_Band_2
def t67 : Tab := t66.addP s_sl_IndexFunc_Band_2
theorem t67_ok : TabOK P t67 := t66_ok.aP c_sl_IndexFunc_Band_2

def F_log_daysOf (d : List G) : Option (List G) :=
 (bif ((gi d 1).int == 2) then (bif ((Int.tmod (gi d 0).int 4) == 0) then (bif ((Int.tmod (gi d 0).int 100) != 0) then some [.i 29] else (bif ((Int.tmod (gi d 0).int 400) == 0) then some [.i 29] else (bif (inI ((gi d 1).int - 1)) then (bif ((nnI ((gi d 1).int - 1)) && (ltI ((gi d 1).int - 1) 12)) then some [.i (([31, 28, 31, 30, 31, 30, 31, 31, 30, 31, 30, 31] : List Int).getD (((gi d 1).int - 1).toNat) 0)] else none) else none))) else (bif (inI ((gi d 1).int - 1)) then (bif ((nnI ((gi d 1).int - 1)) && (ltI ((gi d 1).int - 1) 12)) then some [.i (([31, 28, 31, 30, 31, 30, 31, 31, 30, 31, 30, 31] : List Int).getD (((gi d 1).int - 1).toNat) 0)] else none) else none)) else (bif (inI ((gi d 1).int - 1)) then (bif ((nnI ((gi d 1).int - 1)) && (ltI ((gi d 1).int - 1) 12)) then some [.i (([31, 28, 31, 30, 31, 30, 31, 31, 30, 31, 30, 31] : List Int).getD (((gi d 1).int - 1).toNat) 0)] else none) else none))
def s_log_daysOf : FSpec := ⟨110, [.s (.int .i64), .s (.int .i64)], [], [], [.s (.int .i64)], [], [], [], F_log_daysOf⟩
theorem b_log_daysOf : BodyOK P t67 nL0 Tryz.f110 s_log_daysOf := fun d => by kernel_rfl
theorem c_log_daysOf : COK P s_log_daysOf := bdC hm t67_ok Tryz.func110 (nLk _ _ _) b_log_daysOf
def t68 : Tab := t67.addP s_log_daysOf
theorem t68_ok : TabOK P t68 := t67_ok.aP c_log_daysOf

def st_log_dateOf_2 (d : List G) : Option (Option Nat × List G) :=
 (callF (F_log_daysOf [.i (gi d 1).int, .i (gi d 2).int]) fun g1 => (bif (leI (gi g1 0).int (gi d 0).int) then (callF (F_log_daysOf [.i (gi d 1).int, .i (gi d 2).int]) fun g2 => (bif (inI ((gi d 0).int - (gi g2 0).int)) then (bif (inI ((gi d 2).int + 1)) then (bif (ltI 12 ((gi d 2).int + 1)) then (bif (inI ((gi d 1).int + 1)) then some (none, [.i ((gi d 0).int - (gi g2 0).int), .i ((gi d 1).int + 1), .i 1]) else none) else some (none, [.i ((gi d 0).int - (gi g2 0).int), .i (gi d 1).int, .i ((gi d 2).int + 1)])) else none) else none)) else some (some 0, [.i (gi d 0).int, .i (gi d 1).int, .i (gi d 2).int])))
def l_log_dateOf_2 : LSpec := ⟨2, [], ⟨25, [(0, .s (.int .i64)), (2, .s (.int .i64)), (3, .s (.int .i64))], []⟩, [], [⟨.exit 0, ⟨25, [(0, .s (.int .i64)), (2, .s (.int .i64)), (3, .s (.int .i64))], []⟩, []⟩], st_log_dateOf_2⟩
theorem r_log_dateOf_2 : RoundOK P t68 nL0 0 (loopAt Tryz.f69 2) l_log_dateOf_2 := fun d => by kernel_rfl
def L_log_dateOf_2 : LT := nL0.add 0 l_log_dateOf_2
theorem L_log_dateOf_2_ok : LpK P 0 L_log_dateOf_2 (bodyOf Tryz.f69) := LpK.a hm t68_ok (nLk _ _ _) r_log_dateOf_2
def F_log_dateOf (d : List G) : Option (List G) :=
 (loopB true (LRun st_log_dateOf_2 [.i (gi d 0).int, .i 2024, .i 1]) fun cg3 g3 => (bif (inI ((gi g3 0).int + 1)) then some [.i (gi g3 1).int, .i (gi g3 2).int, .i ((gi g3 0).int + 1)] else none))
def s_log_dateOf : FSpec := ⟨69, [.s (.int .i64)], [], [], [.s (.int .i64), .s (.int .i64), .s (.int .i64)], [], [], [], F_log_dateOf⟩
theorem b_log_dateOf : BodyOK P t68 L_log_dateOf_2 Tryz.f69 s_log_dateOf := fun d => by kernel_rfl
theorem c_log_dateOf : COK P s_log_dateOf := bdC hm t68_ok Tryz.func69 L_log_dateOf_2_ok b_log_dateOf
def t69 : Tab := t68.addP s_log_dateOf
theorem t69_ok : TabOK P t69 := t68_ok.aP c_log_dateOf

def F_log_modeWords (d : List G) : Option (List G) :=
 some [.l [[.s (⟨#[]⟩ : ByteArray)], [.s (⟨#[67, 87]⟩ : ByteArray)], [.s (⟨#[80, 72]⟩ : ByteArray)], [.s (⟨#[82, 89]⟩ : ByteArray)]]]
def s_log_modeWords : FSpec := ⟨29, [], [], [], [.s (.list [.str])], [], [], [], F_log_modeWords⟩
theorem b_log_modeWords : BodyOK P t69 nL0 Tryz.f29 s_log_modeWords := fun d => by kernel_rfl
theorem c_log_modeWords : COK P s_log_modeWords := bdC hm t69_ok Tryz.func29 (nLk _ _ _) b_log_modeWords
def t70 : Tab := t69.addP s_log_modeWords
theorem t70_ok : TabOK P t70 := t69_ok.aP c_log_modeWords

def F_log_serialText (d : List G) : Option (List G) :=
 (bif ((gi d 0).int == 0) then some [.s (⟨#[45]⟩ : ByteArray)] else (callF (F_strconv_Itoa [.i (gi d 0).int]) fun g1 => some [.s (gi g1 0).str]))
def s_log_serialText : FSpec := ⟨30, [.s (.int .i64)], [], [], [.s (.str)], [], [], [], F_log_serialText⟩
theorem b_log_serialText : BodyOK P t70 nL0 Tryz.f30 s_log_serialText := fun d => by kernel_rfl
theorem c_log_serialText : COK P s_log_serialText := bdC hm t70_ok Tryz.func30 (nLk _ _ _) b_log_serialText
def t71 : Tab := t70.addP s_log_serialText
theorem t71_ok : TabOK P t71 := t70_ok.aP c_log_serialText

def F_kit_Dash (d : List G) : Option (List G) :=
 (bif ((gi d 0).str.toList == (⟨#[]⟩ : ByteArray).toList) then some [.s (⟨#[45]⟩ : ByteArray)] else some [.s (gi d 0).str])
def s_kit_Dash : FSpec := ⟨31, [.s (.str)], [], [], [.s (.str)], [], [], [], F_kit_Dash⟩
theorem b_kit_Dash : BodyOK P t71 nL0 Tryz.f31 s_kit_Dash := fun d => by kernel_rfl
theorem c_kit_Dash : COK P s_kit_Dash := bdC hm t71_ok Tryz.func31 (nLk _ _ _) b_kit_Dash
def t72 : Tab := t71.addP s_kit_Dash
theorem t72_ok : TabOK P t72 := t71_ok.aP c_kit_Dash

def F_stringslite_HasSuffix (d : List G) : Option (List G) :=
 (bif (leI (((gi d 1).str.size : Nat) : Int) (((gi d 0).str.size : Nat) : Int)) then (bif (inI ((((gi d 0).str.size : Nat) : Int) - (((gi d 1).str.size : Nat) : Int))) then (bif ((nnI ((((gi d 0).str.size : Nat) : Int) - (((gi d 1).str.size : Nat) : Int))) && (leI ((((gi d 0).str.size : Nat) : Int) - (((gi d 1).str.size : Nat) : Int)) (((gi d 0).str.size : Nat) : Int))) then some [.t (((gi d 0).str.extract ((((gi d 0).str.size : Nat) : Int) - (((gi d 1).str.size : Nat) : Int)).toNat (gi d 0).str.size).toList == (gi d 1).str.toList)] else none) else none) else some [.t false])
def s_stringslite_HasSuffix : FSpec := ⟨158, [.s (.str), .s (.str)], [], [], [.s (.bool)], [], [], [], F_stringslite_HasSuffix⟩
theorem b_stringslite_HasSuffix : BodyOK P t72 nL0 Tryz.f158 s_stringslite_HasSuffix := fun d => by kernel_rfl
theorem c_stringslite_HasSuffix : COK P s_stringslite_HasSuffix := bdC hm t72_ok Tryz.func158 (nLk _ _ _) b_stringslite_HasSuffix
def t73 : Tab := t72.addP s_stringslite_HasSuffix
theorem t73_ok : TabOK P t73 := t72_ok.aP c_stringslite_HasSuffix

def F_stringslite_CutSuffix (d : List G) : Option (List G) :=
 (callF (F_stringslite_HasSuffix [.s (gi d 0).str, .s (gi d 1).str]) fun g1 => (bif (!(gi g1 0).bool) then some [.s (gi d 0).str, .t false] else (bif (inI ((((gi d 0).str.size : Nat) : Int) - (((gi d 1).str.size : Nat) : Int))) then (bif ((nnI ((((gi d 0).str.size : Nat) : Int) - (((gi d 1).str.size : Nat) : Int))) && (leI ((((gi d 0).str.size : Nat) : Int) - (((gi d 1).str.size : Nat) : Int)) (((gi d 0).str.size : Nat) : Int))) then some [.s ((gi d 0).str.extract 0 ((((gi d 0).str.size : Nat) : Int) - (((gi d 1).str.size : Nat) : Int)).toNat), .t true] else none) else none)))
def s_stringslite_CutSuffix : FSpec := ⟨113, [.s (.str), .s (.str)], [], [], [.s (.str), .s (.bool)], [], [], [], F_stringslite_CutSuffix⟩
theorem b_stringslite_CutSuffix : BodyOK P t73 nL0 Tryz.f113 s_stringslite_CutSuffix := fun d => by kernel_rfl
theorem c_stringslite_CutSuffix : COK P s_stringslite_CutSuffix := bdC hm t73_ok Tryz.func113 (nLk _ _ _) b_stringslite_CutSuffix
def t74 : Tab := t73.addP s_stringslite_CutSuffix
theorem t74_ok : TabOK P t74 := t73_ok.aP c_stringslite_CutSuffix

def F_strings_CutSuffix (d : List G) : Option (List G) :=
 (callF (F_stringslite_CutSuffix [.s (gi d 0).str, .s (gi d 1).str]) fun g1 => some [.s (gi g1 0).str, .t (gi g1 1).bool])
def s_strings_CutSuffix : FSpec := ⟨72, [.s (.str), .s (.str)], [], [], [.s (.str), .s (.bool)], [], [], [], F_strings_CutSuffix⟩
theorem b_strings_CutSuffix : BodyOK P t74 nL0 Tryz.f72 s_strings_CutSuffix := fun d => by kernel_rfl
theorem c_strings_CutSuffix : COK P s_strings_CutSuffix := bdC hm t74_ok Tryz.func72 (nLk _ _ _) b_strings_CutSuffix
def t75 : Tab := t74.addP s_strings_CutSuffix
theorem t75_ok : TabOK P t75 := t74_ok.aP c_strings_CutSuffix

def F_strings_genSplit (d : List G) : Option (List G) :=
 splitF d
def s_strings_genSplit : FSpec := ⟨114, [.s (.str), .s (.str), .s (.int .i64), .s (.int .i64)], [], [], [.s (.list [.str])], [], [], [], F_strings_genSplit⟩
theorem c_strings_genSplit : ∀ d r, F_strings_genSplit d = some r → ACallX P 114 (s_strings_genSplit.args0 d) (denH (s_strings_genSplit.H0 d)) (s_strings_genSplit.out r) (denH (s_strings_genSplit.H1 r)) := fun d r h => split_call Tryz.laysSplit (by kernel_rfl) d r h
def t76 : Tab := t75.addP s_strings_genSplit
theorem t76_ok : TabOK P t76 := t75_ok.aP c_strings_genSplit

def F_strings_Split (d : List G) : Option (List G) :=
 (callF (F_strings_genSplit [.s (gi d 0).str, .s (gi d 1).str, .i 0, .i (-1)]) fun g1 => some [.l (gi g1 0).rows])
def s_strings_Split : FSpec := ⟨73, [.s (.str), .s (.str)], [], [], [.s (.list [.str])], [], [], [], F_strings_Split⟩
theorem b_strings_Split : BodyOK P t76 nL0 Tryz.f73 s_strings_Split := fun d => by kernel_rfl
theorem c_strings_Split : COK P s_strings_Split := bdC hm t76_ok Tryz.func73 (nLk _ _ _) b_strings_Split
def t77 : Tab := t76.addP s_strings_Split
theorem t77_ok : TabOK P t77 := t76_ok.aP c_strings_Split

def F_kit_Lines (d : List G) : Option (List G) :=
 (bif ((gi d 0).str.toList == (⟨#[]⟩ : ByteArray).toList) then some [.l [], .t true] else (callF (F_strings_CutSuffix [.s (gi d 0).str, .s (⟨#[10]⟩ : ByteArray)]) fun g1 => (callF (F_strings_Split [.s (gi g1 0).str, .s (⟨#[10]⟩ : ByteArray)]) fun g2 => some [.l (gi g2 0).rows, .t (gi g1 1).bool])))
def s_kit_Lines : FSpec := ⟨34, [.s (.str)], [], [], [.s (.list [.str]), .s (.bool)], [], [], [], F_kit_Lines⟩
theorem b_kit_Lines : BodyOK P t77 nL0 Tryz.f34 s_kit_Lines := fun d => by kernel_rfl
theorem c_kit_Lines : COK P s_kit_Lines := bdC hm t77_ok Tryz.func34 (nLk _ _ _) b_kit_Lines
def t78 : Tab := t77.addP s_kit_Lines
theorem t78_ok : TabOK P t78 := t77_ok.aP c_kit_Lines

def st_kit_Words_3 (d : List G) : Option (Option Nat × List G) :=
 (bif (ltI (gi d 3).int (gi d 2).int) then (bif ((nnI (gi d 3).int) && (ltI (gi d 3).int (((gi d 1).rows.length : Nat) : Int))) then (bif ((gi ((gi d 1).rows.getD (((gi d 3).int).toNat) []) 0).str.toList == (⟨#[]⟩ : ByteArray).toList) then some (some 0, [.l [], .t false]) else (bif (inI ((gi d 3).int + 1)) then some (none, [.l (gi d 0).rows, .l (gi d 1).rows, .i (gi d 2).int, .i ((gi d 3).int + 1)]) else none)) else none) else some (some 1, [.l (gi d 0).rows]))
def l_kit_Words_3 : LSpec := ⟨3, [], ⟨19, [(4, .s (.list [.str])), (9, .s (.list [.str])), (10, .s (.int .i64)), (11, .s (.int .i64))], []⟩, [], [⟨.ret, ⟨19, [(2, .s (.list [.str])), (3, .s (.bool))], []⟩, []⟩, ⟨.exit 0, ⟨19, [(4, .s (.list [.str]))], []⟩, []⟩], st_kit_Words_3⟩
theorem r_kit_Words_3 : RoundOK P t78 nL0 0 (loopAt Tryz.f74 3) l_kit_Words_3 := fun d => by kernel_rfl
def L_kit_Words_3 : LT := nL0.add 0 l_kit_Words_3
theorem L_kit_Words_3_ok : LpK P 0 L_kit_Words_3 (bodyOf Tryz.f74) := LpK.a hm t78_ok (nLk _ _ _) r_kit_Words_3
def F_kit_Words (d : List G) : Option (List G) :=
 (callF (F_strings_Split [.s (gi d 0).str, .s (⟨#[32]⟩ : ByteArray)]) fun g1 => (loopB true (LRun st_kit_Words_3 [.l (gi g1 0).rows, .l (gi g1 0).rows, .i (((gi g1 0).rows.length : Nat) : Int), .i 0]) fun cg2 g2 => (bif Nat.beq cg2 0 then some [.l (gi g2 0).rows, .t (gi g2 1).bool] else some [.l (gi g2 0).rows, .t true])))
def s_kit_Words : FSpec := ⟨74, [.s (.str)], [], [], [.s (.list [.str]), .s (.bool)], [], [], [], F_kit_Words⟩
theorem b_kit_Words : BodyOK P t78 L_kit_Words_3 Tryz.f74 s_kit_Words := fun d => by kernel_rfl
theorem c_kit_Words : COK P s_kit_Words := bdC hm t78_ok Tryz.func74 L_kit_Words_3_ok b_kit_Words
def t79 : Tab := t78.addP s_kit_Words
theorem t79_ok : TabOK P t79 := t78_ok.aP c_kit_Words

def F_stringslite_HasPrefix (d : List G) : Option (List G) :=
 (bif (leI (((gi d 1).str.size : Nat) : Int) (((gi d 0).str.size : Nat) : Int)) then (bif ((nnI (((gi d 1).str.size : Nat) : Int)) && (leI (((gi d 1).str.size : Nat) : Int) (((gi d 0).str.size : Nat) : Int))) then some [.t (((gi d 0).str.extract 0 (gi d 1).str.size).toList == (gi d 1).str.toList)] else none) else some [.t false])
def s_stringslite_HasPrefix : FSpec := ⟨198, [.s (.str), .s (.str)], [], [], [.s (.bool)], [], [], [], F_stringslite_HasPrefix⟩
theorem b_stringslite_HasPrefix : BodyOK P t79 nL0 Tryz.f198 s_stringslite_HasPrefix := fun d => by kernel_rfl
theorem c_stringslite_HasPrefix : COK P s_stringslite_HasPrefix := bdC hm t79_ok Tryz.func198 (nLk _ _ _) b_stringslite_HasPrefix
def t80 : Tab := t79.addP s_stringslite_HasPrefix
theorem t80_ok : TabOK P t80 := t79_ok.aP c_stringslite_HasPrefix

def F_stringslite_CutPrefix (d : List G) : Option (List G) :=
 (callF (F_stringslite_HasPrefix [.s (gi d 0).str, .s (gi d 1).str]) fun g1 => (bif (!(gi g1 0).bool) then some [.s (gi d 0).str, .t false] else (bif ((nnI (((gi d 1).str.size : Nat) : Int)) && (leI (((gi d 1).str.size : Nat) : Int) (((gi d 0).str.size : Nat) : Int))) then some [.s ((gi d 0).str.extract (gi d 1).str.size (gi d 0).str.size), .t true] else none)))
def s_stringslite_CutPrefix : FSpec := ⟨205, [.s (.str), .s (.str)], [], [], [.s (.str), .s (.bool)], [], [], [], F_stringslite_CutPrefix⟩
theorem b_stringslite_CutPrefix : BodyOK P t80 nL0 Tryz.f205 s_stringslite_CutPrefix := fun d => by kernel_rfl
theorem c_stringslite_CutPrefix : COK P s_stringslite_CutPrefix := bdC hm t80_ok Tryz.func205 (nLk _ _ _) b_stringslite_CutPrefix
def t81 : Tab := t80.addP s_stringslite_CutPrefix
theorem t81_ok : TabOK P t81 := t80_ok.aP c_stringslite_CutPrefix

def F_strings_CutPrefix (d : List G) : Option (List G) :=
 (callF (F_stringslite_CutPrefix [.s (gi d 0).str, .s (gi d 1).str]) fun g1 => some [.s (gi g1 0).str, .t (gi g1 1).bool])
def s_strings_CutPrefix : FSpec := ⟨162, [.s (.str), .s (.str)], [], [], [.s (.str), .s (.bool)], [], [], [], F_strings_CutPrefix⟩
theorem b_strings_CutPrefix : BodyOK P t81 nL0 Tryz.f162 s_strings_CutPrefix := fun d => by kernel_rfl
theorem c_strings_CutPrefix : COK P s_strings_CutPrefix := bdC hm t81_ok Tryz.func162 (nLk _ _ _) b_strings_CutPrefix
def t82 : Tab := t81.addP s_strings_CutPrefix
theorem t82_ok : TabOK P t82 := t81_ok.aP c_strings_CutPrefix

def F_strconv_Atoi (d : List G) : Option (List G) :=
 atoiF d
def s_strconv_Atoi : FSpec := ⟨163, [.s (.str)], [], [], [.s (.int .i64), .s (.nilI)], [], [], [], F_strconv_Atoi⟩
theorem c_strconv_Atoi : ∀ d r, F_strconv_Atoi d = some r → ACallX P 163 (s_strconv_Atoi.args0 d) (denH (s_strconv_Atoi.H0 d)) (s_strconv_Atoi.out r) (denH (s_strconv_Atoi.H1 r)) := fun d r h => atoi_call Tryz.laysAtoi d r h
def t83 : Tab := t82.addP s_strconv_Atoi
theorem t83_ok : TabOK P t83 := t82_ok.aP c_strconv_Atoi

def F_kit_Number (d : List G) : Option (List G) :=
 (callF (F_strings_CutPrefix [.s (gi d 0).str, .s (⟨#[45]⟩ : ByteArray)]) fun g1 => (bif ((gi g1 0).str.toList == (⟨#[]⟩ : ByteArray).toList) then some [.i 0, .t false] else (bif (ltI (gi d 1).int (((gi g1 0).str.size : Nat) : Int)) then some [.i 0, .t false] else (callF (F_strings_Trim [.s (gi g1 0).str, .s (⟨#[48, 49, 50, 51, 52, 53, 54, 55, 56, 57]⟩ : ByteArray)]) fun g2 => (bif (!((gi g2 0).str.toList == (⟨#[]⟩ : ByteArray).toList)) then some [.i 0, .t false] else (bif (ltI 0 (((gi g1 0).str.size : Nat) : Int)) then (bif ((((gi g1 0).str.data.toList.getD 0 0).toNat : Int) == 48) then (bif (ltI 1 (((gi g1 0).str.size : Nat) : Int)) then some [.i 0, .t false] else (bif (gi g1 1).bool then some [.i 0, .t false] else (callF (F_strconv_Atoi [.s (gi g1 0).str]) fun g3 => (bif (gi g1 1).bool then (bif (inI (0 - (gi g3 0).int)) then some [.i (0 - (gi g3 0).int), .t true] else none) else some [.i (gi g3 0).int, .t true])))) else (callF (F_strconv_Atoi [.s (gi g1 0).str]) fun g4 => (bif (gi g1 1).bool then (bif (inI (0 - (gi g4 0).int)) then some [.i (0 - (gi g4 0).int), .t true] else none) else some [.i (gi g4 0).int, .t true]))) else none))))))
def s_kit_Number : FSpec := ⟨115, [.s (.str), .s (.int .i64)], [], [], [.s (.int .i64), .s (.bool)], [], [], [], F_kit_Number⟩
theorem b_kit_Number : BodyOK P t83 nL0 Tryz.f115 s_kit_Number := fun d => by kernel_rfl
theorem c_kit_Number : COK P s_kit_Number := bdC hm t83_ok Tryz.func115 (nLk _ _ _) b_kit_Number
def t84 : Tab := t83.addP s_kit_Number
theorem t84_ok : TabOK P t84 := t83_ok.aP c_kit_Number

def st_sl_Index_string_2 (d : List G) : Option (Option Nat × List G) :=
 (bif (ltI (gi d 3).int (gi d 2).int) then (bif ((nnI (gi d 3).int) && (ltI (gi d 3).int (((gi d 0).rows.length : Nat) : Int))) then (bif ((gi d 1).str.toList == (gi ((gi d 0).rows.getD (((gi d 3).int).toNat) []) 0).str.toList) then some (some 0, [.i (gi d 3).int]) else (bif (inI ((gi d 3).int + 1)) then some (none, [.l (gi d 0).rows, .s (gi d 1).str, .i (gi d 2).int, .i ((gi d 3).int + 1)]) else none)) else none) else some (some 1, []))
def l_sl_Index_string_2 : LSpec := ⟨2, [], ⟨19, [(0, .s (.list [.str])), (1, .s (.str)), (7, .s (.int .i64)), (8, .s (.int .i64))], []⟩, [], [⟨.ret, ⟨19, [(4, .s (.int .i64))], []⟩, []⟩, ⟨.exit 0, ⟨19, [], []⟩, []⟩], st_sl_Index_string_2⟩
theorem r_sl_Index_string_2 : RoundOK P t84 nL0 0 (loopAt Tryz.f116 2) l_sl_Index_string_2 := fun d => by kernel_rfl
def L_sl_Index_string_2 : LT := nL0.add 0 l_sl_Index_string_2
theorem L_sl_Index_string_2_ok : LpK P 0 L_sl_Index_string_2 (bodyOf Tryz.f116) := LpK.a hm t84_ok (nLk _ _ _) r_sl_Index_string_2
def F_sl_Index_string (d : List G) : Option (List G) :=
 (loopB true (LRun st_sl_Index_string_2 [.l (gi d 0).rows, .s (gi d 1).str, .i (((gi d 0).rows.length : Nat) : Int), .i 0]) fun cg1 g1 => (bif Nat.beq cg1 0 then some [.i (gi g1 0).int] else some [.i (-1)]))
def s_sl_Index_string : FSpec := ⟨116, [.s (.list [.str]), .s (.str)], [], [], [.s (.int .i64)], [], [], [], F_sl_Index_string⟩
theorem b_sl_Index_string : BodyOK P t84 L_sl_Index_string_2 Tryz.f116 s_sl_Index_string := fun d => by kernel_rfl
theorem c_sl_Index_string : COK P s_sl_Index_string := bdC hm t84_ok Tryz.func116 L_sl_Index_string_2_ok b_sl_Index_string
def t85 : Tab := t84.addP s_sl_Index_string
theorem t85_ok : TabOK P t85 := t84_ok.aP c_sl_Index_string

def F_log_digits (d : List G) : Option (List G) :=
 (bif ((((gi d 0).str.size : Nat) : Int) != (gi d 1).int) then some [.i 0, .t false] else (callF (F_strings_Trim [.s (gi d 0).str, .s (⟨#[48, 49, 50, 51, 52, 53, 54, 55, 56, 57]⟩ : ByteArray)]) fun g1 => (bif (!((gi g1 0).str.toList == (⟨#[]⟩ : ByteArray).toList)) then some [.i 0, .t false] else (callF (F_strconv_Atoi [.s (gi d 0).str]) fun g2 => some [.i (gi g2 0).int, .t true]))))
def s_log_digits : FSpec := ⟨164, [.s (.str), .s (.int .i64)], [], [], [.s (.int .i64), .s (.bool)], [], [], [], F_log_digits⟩
theorem b_log_digits : BodyOK P t85 nL0 Tryz.f164 s_log_digits := fun d => by kernel_rfl
theorem c_log_digits : COK P s_log_digits := bdC hm t85_ok Tryz.func164 (nLk _ _ _) b_log_digits
def t86 : Tab := t85.addP s_log_digits
theorem t86_ok : TabOK P t86 := t85_ok.aP c_log_digits

def st_log_dayOf_6 (d : List G) : Option (Option Nat × List G) :=
 (bif (ltI (gi d 3).int (gi d 0).int) then (callF (F_log_daysOf [.i (gi d 3).int, .i (gi d 4).int]) fun g6 => (bif (inI ((gi d 2).int + (gi g6 0).int)) then (bif (inI ((gi d 4).int + 1)) then (bif (ltI 12 ((gi d 4).int + 1)) then (bif (inI ((gi d 3).int + 1)) then some (none, [.i (gi d 0).int, .i (gi d 1).int, .i ((gi d 2).int + (gi g6 0).int), .i ((gi d 3).int + 1), .i 1]) else none) else some (none, [.i (gi d 0).int, .i (gi d 1).int, .i ((gi d 2).int + (gi g6 0).int), .i (gi d 3).int, .i ((gi d 4).int + 1)])) else none) else none)) else (bif (ltI (gi d 4).int (gi d 1).int) then (callF (F_log_daysOf [.i (gi d 3).int, .i (gi d 4).int]) fun g7 => (bif (inI ((gi d 2).int + (gi g7 0).int)) then (bif (inI ((gi d 4).int + 1)) then (bif (ltI 12 ((gi d 4).int + 1)) then (bif (inI ((gi d 3).int + 1)) then some (none, [.i (gi d 0).int, .i (gi d 1).int, .i ((gi d 2).int + (gi g7 0).int), .i ((gi d 3).int + 1), .i 1]) else none) else some (none, [.i (gi d 0).int, .i (gi d 1).int, .i ((gi d 2).int + (gi g7 0).int), .i (gi d 3).int, .i ((gi d 4).int + 1)])) else none) else none)) else some (some 0, [.i (gi d 2).int])))
def l_log_dayOf_6 : LSpec := ⟨6, [], ⟨57, [(0, .s (.int .i64)), (1, .s (.int .i64)), (11, .s (.int .i64)), (12, .s (.int .i64)), (13, .s (.int .i64))], []⟩, [], [⟨.exit 0, ⟨57, [(11, .s (.int .i64))], []⟩, []⟩], st_log_dayOf_6⟩
theorem r_log_dayOf_6 : RoundOK P t86 nL0 0 (loopAt Tryz.f165 6) l_log_dayOf_6 := fun d => by kernel_rfl
def L_log_dayOf_6 : LT := nL0.add 0 l_log_dayOf_6
theorem L_log_dayOf_6_ok : LpK P 0 L_log_dayOf_6 (bodyOf Tryz.f165) := LpK.a hm t86_ok (nLk _ _ _) r_log_dayOf_6
def F_log_dayOf (d : List G) : Option (List G) :=
 (callF (F_log_dateOf [.i 4000]) fun g1 => (callF (F_kit_Outside [.i (gi d 0).int, .i 2024, .i (gi g1 0).int]) fun g2 => (bif (gi g2 0).bool then some [.i 0, .t false] else (callF (F_kit_Outside [.i (gi d 1).int, .i 1, .i 12]) fun g3 => (bif (gi g3 0).bool then some [.i 0, .t false] else (callF (F_log_daysOf [.i (gi d 0).int, .i (gi d 1).int]) fun g4 => (callF (F_kit_Outside [.i (gi d 2).int, .i 1, .i (gi g4 0).int]) fun g5 => (bif (gi g5 0).bool then some [.i 0, .t false] else (bif (inI ((gi d 2).int - 1)) then (loopB true (LRun st_log_dayOf_6 [.i (gi d 0).int, .i (gi d 1).int, .i ((gi d 2).int - 1), .i 2024, .i 1]) fun cg8 g8 => some [.i (gi g8 0).int, .t (leI (gi g8 0).int 4000)]) else none)))))))))
def s_log_dayOf : FSpec := ⟨165, [.s (.int .i64), .s (.int .i64), .s (.int .i64)], [], [], [.s (.int .i64), .s (.bool)], [], [], [], F_log_dayOf⟩
theorem b_log_dayOf : BodyOK P t86 L_log_dayOf_6 Tryz.f165 s_log_dayOf := fun d => by kernel_rfl
theorem c_log_dayOf : COK P s_log_dayOf := bdC hm t86_ok Tryz.func165 L_log_dayOf_6_ok b_log_dayOf
def t87 : Tab := t86.addP s_log_dayOf
theorem t87_ok : TabOK P t87 := t86_ok.aP c_log_dayOf

def st_log_readMoment_6 (d : List G) : Option (Option Nat × List G) :=
 (bif (ltI (gi d 3).int (gi d 2).int) then (bif ((nnI (gi d 3).int) && (ltI (gi d 3).int (((gi d 1).rows.length : Nat) : Int))) then (bif ((gi d 3).int == 0) then (callF (F_log_digits [.s (gi ((gi d 1).rows.getD (((gi d 3).int).toNat) []) 0).str, .i 4]) fun g2 => (bif (!(gi g2 1).bool) then some (some 0, [.i 0, .t false]) else (bif ((Nat.beq (gi d 0).rows.length (gi d 0).rows.length) && (decide (((gi d 0).rows.length + 1) ≤ 1048576))) then (bif (inI ((gi d 3).int + 1)) then (bif ((Nat.beq ((gi d 0).rows ++ ([[.i (gi g2 0).int]] : List (List G))).length ((gi d 0).rows ++ ([[.i (gi g2 0).int]] : List (List G))).length) && true) then some (none, [.l ((gi d 0).rows ++ ([[.i (gi g2 0).int]] : List (List G))), .l (gi d 1).rows, .i (gi d 2).int, .i ((gi d 3).int + 1)]) else none) else none) else none))) else (callF (F_log_digits [.s (gi ((gi d 1).rows.getD (((gi d 3).int).toNat) []) 0).str, .i 2]) fun g3 => (bif (!(gi g3 1).bool) then some (some 0, [.i 0, .t false]) else (bif ((Nat.beq (gi d 0).rows.length (gi d 0).rows.length) && (decide (((gi d 0).rows.length + 1) ≤ 1048576))) then (bif (inI ((gi d 3).int + 1)) then (bif ((Nat.beq ((gi d 0).rows ++ ([[.i (gi g3 0).int]] : List (List G))).length ((gi d 0).rows ++ ([[.i (gi g3 0).int]] : List (List G))).length) && true) then some (none, [.l ((gi d 0).rows ++ ([[.i (gi g3 0).int]] : List (List G))), .l (gi d 1).rows, .i (gi d 2).int, .i ((gi d 3).int + 1)]) else none) else none) else none)))) else none) else (bif ((Nat.beq (gi d 0).rows.length (gi d 0).rows.length) && true) then some (some 1, [.l (gi d 0).rows]) else none))
def l_log_readMoment_6 : LSpec := ⟨6, [(7, [.int .i64])], ⟨112, [(7, .s (.vec 0 1)), (40, .s (.list [.str])), (41, .s (.int .i64)), (42, .s (.int .i64))], [.vec [.int .i64] 0]⟩, [.slot 7], [⟨.ret, ⟨112, [(4, .s (.int .i64)), (5, .s (.bool))], []⟩, []⟩, ⟨.exit 0, ⟨112, [(7, .s (.vec 0 1))], [.vec [.int .i64] 0]⟩, [.slot 7]⟩], st_log_readMoment_6⟩
theorem r_log_readMoment_6 : RoundOK P t87 nL0 0 (loopAt Tryz.f117 6) l_log_readMoment_6 := fun d => by kernel_rfl
def L_log_readMoment_6 : LT := nL0.add 0 l_log_readMoment_6
theorem L_log_readMoment_6_ok : LpK P 0 L_log_readMoment_6 (bodyOf Tryz.f117) := LpK.a hm t87_ok (nLk _ _ _) r_log_readMoment_6
def F_log_readMoment (d : List G) : Option (List G) :=
 (callF (F_strings_Split [.s (gi d 0).str, .s (⟨#[45]⟩ : ByteArray)]) fun g1 => (bif ((((gi g1 0).rows.length : Nat) : Int) != 3) then some [.i 0, .t false] else (bif ((((gi d 1).str.size : Nat) : Int) != 6) then some [.i 0, .t false] else (bif (ltI 0 (((gi g1 0).rows.length : Nat) : Int)) then (bif (ltI 1 (((gi g1 0).rows.length : Nat) : Int)) then (bif (ltI 2 (((gi g1 0).rows.length : Nat) : Int)) then (bif (leI 2 (((gi d 1).str.size : Nat) : Int)) then (bif (leI 4 (((gi d 1).str.size : Nat) : Int)) then (bif (leI 4 (((gi d 1).str.size : Nat) : Int)) then (loopB true (LRun st_log_readMoment_6 [.l [], .l [[.s (gi ((gi g1 0).rows.getD 0 []) 0).str], [.s (gi ((gi g1 0).rows.getD 1 []) 0).str], [.s (gi ((gi g1 0).rows.getD 2 []) 0).str], [.s ((gi d 1).str.extract 0 2)], [.s ((gi d 1).str.extract 2 4)], [.s ((gi d 1).str.extract 4 (gi d 1).str.size)]], .i 6, .i 0]) fun cg4 g4 => (bif Nat.beq cg4 0 then some [.i (gi g4 0).int, .t (gi g4 1).bool] else (bif (ltI 0 (((gi g4 0).rows.length : Nat) : Int)) then (bif (decide (0 < (gi g4 0).rows.length)) then (bif (ltI 1 (((gi g4 0).rows.length : Nat) : Int)) then (bif (decide (1 < (gi g4 0).rows.length)) then (bif (ltI 2 (((gi g4 0).rows.length : Nat) : Int)) then (bif (decide (2 < (gi g4 0).rows.length)) then (callF (F_log_dayOf [.i (gi ((gi g4 0).rows.getD 0 []) 0).int, .i (gi ((gi g4 0).rows.getD 1 []) 0).int, .i (gi ((gi g4 0).rows.getD 2 []) 0).int]) fun g5 => (bif (!(gi g5 1).bool) then some [.i 0, .t false] else (bif (ltI 3 (((gi g4 0).rows.length : Nat) : Int)) then (bif (decide (3 < (gi g4 0).rows.length)) then (bif (leI 24 (gi ((gi g4 0).rows.getD 3 []) 0).int) then some [.i 0, .t false] else (bif (ltI 4 (((gi g4 0).rows.length : Nat) : Int)) then (bif (decide (4 < (gi g4 0).rows.length)) then (bif (leI 60 (gi ((gi g4 0).rows.getD 4 []) 0).int) then some [.i 0, .t false] else (bif (ltI 5 (((gi g4 0).rows.length : Nat) : Int)) then (bif (decide (5 < (gi g4 0).rows.length)) then (bif (leI 60 (gi ((gi g4 0).rows.getD 5 []) 0).int) then some [.i 0, .t false] else (bif (inI ((gi g5 0).int * 86400000)) then (bif (ltI 3 (((gi g4 0).rows.length : Nat) : Int)) then (bif (decide (3 < (gi g4 0).rows.length)) then (bif (inI ((gi ((gi g4 0).rows.getD 3 []) 0).int * 60)) then (bif (ltI 4 (((gi g4 0).rows.length : Nat) : Int)) then (bif (decide (4 < (gi g4 0).rows.length)) then (bif (inI (((gi ((gi g4 0).rows.getD 3 []) 0).int * 60) + (gi ((gi g4 0).rows.getD 4 []) 0).int)) then (bif (inI ((((gi ((gi g4 0).rows.getD 3 []) 0).int * 60) + (gi ((gi g4 0).rows.getD 4 []) 0).int) * 60)) then (bif (ltI 5 (((gi g4 0).rows.length : Nat) : Int)) then (bif (decide (5 < (gi g4 0).rows.length)) then (bif (inI (((((gi ((gi g4 0).rows.getD 3 []) 0).int * 60) + (gi ((gi g4 0).rows.getD 4 []) 0).int) * 60) + (gi ((gi g4 0).rows.getD 5 []) 0).int)) then (bif (inI ((((((gi ((gi g4 0).rows.getD 3 []) 0).int * 60) + (gi ((gi g4 0).rows.getD 4 []) 0).int) * 60) + (gi ((gi g4 0).rows.getD 5 []) 0).int) * 1000)) then (bif (inI (((gi g5 0).int * 86400000) + ((((((gi ((gi g4 0).rows.getD 3 []) 0).int * 60) + (gi ((gi g4 0).rows.getD 4 []) 0).int) * 60) + (gi ((gi g4 0).rows.getD 5 []) 0).int) * 1000))) then some [.i (((gi g5 0).int * 86400000) + ((((((gi ((gi g4 0).rows.getD 3 []) 0).int * 60) + (gi ((gi g4 0).rows.getD 4 []) 0).int) * 60) + (gi ((gi g4 0).rows.getD 5 []) 0).int) * 1000)), .t true] else none) else none) else none) else none) else none) else none) else none) else none) else none) else none) else none) else none) else none)) else none) else none)) else none) else none)) else none) else none))) else none) else none) else none) else none) else none) else none))) else none) else none) else none) else none) else none) else none))))
def s_log_readMoment : FSpec := ⟨117, [.s (.str), .s (.str)], [], [], [.s (.int .i64), .s (.bool)], [], [], [], F_log_readMoment⟩
theorem b_log_readMoment : BodyOK P t87 L_log_readMoment_6 Tryz.f117 s_log_readMoment := fun d => by kernel_rfl
theorem c_log_readMoment : COK P s_log_readMoment := bdC hm t87_ok Tryz.func117 L_log_readMoment_6_ok b_log_readMoment
def t88 : Tab := t87.addP s_log_readMoment
theorem t88_ok : TabOK P t88 := t87_ok.aP c_log_readMoment

def F_log_readSerial (d : List G) : Option (List G) :=
 (bif ((gi d 0).str.toList == (⟨#[45]⟩ : ByteArray).toList) then some [.i 0, .t true] else (callF (F_kit_Number [.s (gi d 0).str, .i 15]) fun g1 => (bif (gi g1 1).bool then some [.i (gi g1 0).int, .t ((gi g1 0).int != 0)] else some [.i (gi g1 0).int, .t false])))
def s_log_readSerial : FSpec := ⟨118, [.s (.str)], [], [], [.s (.int .i64), .s (.bool)], [], [], [], F_log_readSerial⟩
theorem b_log_readSerial : BodyOK P t88 nL0 Tryz.f118 s_log_readSerial := fun d => by kernel_rfl
theorem c_log_readSerial : COK P s_log_readSerial := bdC hm t88_ok Tryz.func118 (nLk _ _ _) b_log_readSerial
def t89 : Tab := t88.addP s_log_readSerial
theorem t89_ok : TabOK P t89 := t88_ok.aP c_log_readSerial

def F_log_At_1 (d : List G) : Option (List G) :=
 (bif (leI (gi (gi d 0).row 1).int (gi (gi d 1).row 0).int) then some [.t (ltI (gi (gi d 1).row 0).int (gi (gi d 0).row 2).int)] else some [.t false])
def s_log_At_1 : FSpec := ⟨166, [.s (.row KBand), .s (.cptr [.int .i64])], [], [], [.s (.bool)], [], [], [], F_log_At_1⟩
theorem b_log_At_1 : BodyOK P t89 nL0 Tryz.f166 s_log_At_1 := fun d => by kernel_rfl
theorem c_log_At_1 : COK P s_log_At_1 := bdC hm t89_ok Tryz.func166 (nLk _ _ _) b_log_At_1
def t90 : Tab := t89.addP s_log_At_1
theorem t90_ok : TabOK P t90 := t89_ok.aP c_log_At_1

def st_sl_IndexFunc_Band_3_2 (d : List G) : Option (Option Nat × List G) :=
 (bif (ltI (gi d 3).int (gi d 2).int) then (bif ((nnI (gi d 3).int) && (ltI (gi d 3).int (((gi d 0).rows.length : Nat) : Int))) then (callF (F_log_At_1 [.l [(gEta KBand ((gi d 0).rows.getD (((gi d 3).int).toNat) []))], .l [[.i (gi (gi d 1).row 0).int]]]) fun g1 => (bif (gi g1 0).bool then some (some 0, [.i (gi d 3).int]) else (bif (inI ((gi d 3).int + 1)) then some (none, [.l (gi d 0).rows, .l [[.i (gi (gi d 1).row 0).int]], .i (gi d 2).int, .i ((gi d 3).int + 1)]) else none))) else none) else some (some 1, []))
def l_sl_IndexFunc_Band_3_2 : LSpec := ⟨2, [], ⟨19, [(0, .s (.list KBand)), (1, .clo 166 [.cptr [.int .i64]]), (7, .s (.int .i64)), (8, .s (.int .i64))], []⟩, [], [⟨.ret, ⟨19, [(4, .s (.int .i64))], []⟩, []⟩, ⟨.exit 0, ⟨19, [], []⟩, []⟩], st_sl_IndexFunc_Band_3_2⟩
theorem r_sl_IndexFunc_Band_3_2 : RoundOK P t90 nL0 0 (loopAt Tryz.f25 2) l_sl_IndexFunc_Band_3_2 := fun d => by kernel_rfl
def L_sl_IndexFunc_Band_3_2 : LT := nL0.add 0 l_sl_IndexFunc_Band_3_2
theorem L_sl_IndexFunc_Band_3_2_ok : LpK P 0 L_sl_IndexFunc_Band_3_2 (bodyOf Tryz.f25) := LpK.a hm t90_ok (nLk _ _ _) r_sl_IndexFunc_Band_3_2
def F_sl_IndexFunc_Band_3 (d : List G) : Option (List G) :=
 (loopB true (LRun st_sl_IndexFunc_Band_3_2 [.l (gi d 0).rows, .l [[.i (gi (gi d 1).row 0).int]], .i (((gi d 0).rows.length : Nat) : Int), .i 0]) fun cg2 g2 => (bif Nat.beq cg2 0 then some [.i (gi g2 0).int] else some [.i (-1)]))
def s_sl_IndexFunc_Band_3 : FSpec := ⟨25, [.s (.list KBand), .clo 166 [.cptr [.int .i64]]], [], [], [.s (.int .i64)], [], [], [], F_sl_IndexFunc_Band_3⟩
theorem b_sl_IndexFunc_Band_3 : BodyOK P t90 L_sl_IndexFunc_Band_3_2 Tryz.f25 s_sl_IndexFunc_Band_3 := fun d => by kernel_rfl
theorem c_sl_IndexFunc_Band_3 : COK P s_sl_IndexFunc_Band_3 := bdC hm t90_ok Tryz.func25 L_sl_IndexFunc_Band_3_2_ok b_sl_IndexFunc_Band_3
def t91 : Tab := t90.addP s_sl_IndexFunc_Band_3
theorem t91_ok : TabOK P t91 := t90_ok.aP c_sl_IndexFunc_Band_3

def F_log_At (d : List G) : Option (List G) :=
 (callF (F_sl_IndexFunc_Band_3 [.l (gi d 0).rows, .l [[.i (gi d 1).int]]]) fun g1 => some [.i (gi g1 0).int])
def s_log_At : FSpec := ⟨119, [.s (.list KBand), .s (.int .i64)], [], [], [.s (.int .i64)], [], [], [], F_log_At⟩
theorem b_log_At : BodyOK P (t91.lessPf [25]) nL0 Tryz.f119 s_log_At := fun d => by kernel_rfl
theorem c_log_At : COK P s_log_At := bodyC hm (t91_ok.lessPf [25]) Tryz.func119 (by kernel_rfl) (nLk _ _ _) b_log_At (by kernel_rfl)
def t92 : Tab := t91.addP s_log_At
theorem t92_ok : TabOK P t92 := t91_ok.aP c_log_At

def F_kit_Undash (d : List G) : Option (List G) :=
 (bif ((gi d 0).str.toList == (⟨#[45]⟩ : ByteArray).toList) then some [.s (⟨#[]⟩ : ByteArray)] else some [.s (gi d 0).str])
def s_kit_Undash : FSpec := ⟨120, [.s (.str)], [], [], [.s (.str)], [], [], [], F_kit_Undash⟩
theorem b_kit_Undash : BodyOK P t92 nL0 Tryz.f120 s_kit_Undash := fun d => by kernel_rfl
theorem c_kit_Undash : COK P s_kit_Undash := bdC hm t92_ok Tryz.func120 (nLk _ _ _) b_kit_Undash
def t93 : Tab := t92.addP s_kit_Undash
theorem t93_ok : TabOK P t93 := t92_ok.aP c_kit_Undash

def F_log_importer_contact (d : List G) : Option (List G) :=
 (bif ((((gi d 5).rows.length : Nat) : Int) != 10) then (bif ((((Nat.beq (gi d 4).rows.length (gi d 4).rows.length) && true) && true) && true) then some [.l (gi d 0).rows, .s (gi d 1).str, .t (gi d 2).bool, .t (gi d 3).bool, .l (gi d 4).rows, .i 9] else none) else (bif (ltI 0 (((gi d 5).rows.length : Nat) : Int)) then (bif (!((gi ((gi d 5).rows.getD 0 []) 0).str.toList == (⟨#[81, 83, 79, 58]⟩ : ByteArray).toList)) then (bif ((((Nat.beq (gi d 4).rows.length (gi d 4).rows.length) && true) && true) && true) then some [.l (gi d 0).rows, .s (gi d 1).str, .t (gi d 2).bool, .t (gi d 3).bool, .l (gi d 4).rows, .i 9] else none) else (bif (ltI 1 (((gi d 5).rows.length : Nat) : Int)) then (callF (F_kit_Number [.s (gi ((gi d 5).rows.getD 1 []) 0).str, .i 15]) fun g1 => (callF (F_log_modeWords []) fun g2 => (bif (ltI 2 (((gi d 5).rows.length : Nat) : Int)) then (callF (F_sl_Index_string [.l (gi g2 0).rows, .s (gi ((gi d 5).rows.getD 2 []) 0).str]) fun g3 => (bif (ltI 3 (((gi d 5).rows.length : Nat) : Int)) then (bif (ltI 4 (((gi d 5).rows.length : Nat) : Int)) then (callF (F_log_readMoment [.s (gi ((gi d 5).rows.getD 3 []) 0).str, .s (gi ((gi d 5).rows.getD 4 []) 0).str]) fun g4 => (bif (ltI 6 (((gi d 5).rows.length : Nat) : Int)) then (callF (F_log_readSerial [.s (gi ((gi d 5).rows.getD 6 []) 0).str]) fun g5 => (bif (ltI 8 (((gi d 5).rows.length : Nat) : Int)) then (callF (F_log_readSerial [.s (gi ((gi d 5).rows.getD 8 []) 0).str]) fun g6 => (bif (!(gi g1 1).bool) then (bif ((((Nat.beq (gi d 4).rows.length (gi d 4).rows.length) && true) && true) && true) then some [.l (gi d 0).rows, .s (gi d 1).str, .t (gi d 2).bool, .t (gi d 3).bool, .l (gi d 4).rows, .i 9] else none) else (bif (!(gi g4 1).bool) then (bif ((((Nat.beq (gi d 4).rows.length (gi d 4).rows.length) && true) && true) && true) then some [.l (gi d 0).rows, .s (gi d 1).str, .t (gi d 2).bool, .t (gi d 3).bool, .l (gi d 4).rows, .i 9] else none) else (bif (!(gi g5 1).bool) then (bif ((((Nat.beq (gi d 4).rows.length (gi d 4).rows.length) && true) && true) && true) then some [.l (gi d 0).rows, .s (gi d 1).str, .t (gi d 2).bool, .t (gi d 3).bool, .l (gi d 4).rows, .i 9] else none) else (bif (!(gi g6 1).bool) then (bif ((((Nat.beq (gi d 4).rows.length (gi d 4).rows.length) && true) && true) && true) then some [.l (gi d 0).rows, .s (gi d 1).str, .t (gi d 2).bool, .t (gi d 3).bool, .l (gi d 4).rows, .i 9] else none) else (bif (ltI (gi g3 0).int 1) then (bif ((((Nat.beq (gi d 4).rows.length (gi d 4).rows.length) && true) && true) && true) then some [.l (gi d 0).rows, .s (gi d 1).str, .t (gi d 2).bool, .t (gi d 3).bool, .l (gi d 4).rows, .i 9] else none) else (bif (leI (gi g1 0).int 30000000) then (bif (inI ((gi g1 0).int * 1000)) then (callF (F_log_At [.l (gi d 0).rows, .i ((gi g1 0).int * 1000)]) fun g7 => (bif (ltI (gi g7 0).int 0) then (bif ((((Nat.beq (gi d 4).rows.length (gi d 4).rows.length) && true) && true) && true) then some [.l (gi d 0).rows, .s (gi d 1).str, .t (gi d 2).bool, .t (gi d 3).bool, .l (gi d 4).rows, .i 8] else none) else (bif ((nnI (gi g7 0).int) && (ltI (gi g7 0).int (((gi d 0).rows.length : Nat) : Int))) then (bif (ltI 5 (((gi d 5).rows.length : Nat) : Int)) then (bif (ltI 7 (((gi d 5).rows.length : Nat) : Int)) then (callF (F_kit_Undash [.s (gi ((gi d 5).rows.getD 7 []) 0).str]) fun g8 => (bif (ltI 9 (((gi d 5).rows.length : Nat) : Int)) then (callF (F_kit_Undash [.s (gi ((gi d 5).rows.getD 9 []) 0).str]) fun g9 => (bif ((Nat.beq (gi d 4).rows.length (gi d 4).rows.length) && (decide (((gi d 4).rows.length + 1) ≤ 1048576))) then (bif ((((Nat.beq ((gi d 4).rows ++ ([[.i (gi g4 0).int, .i (gi g3 0).int, .s (gi ((gi d 0).rows.getD (((gi g7 0).int).toNat) []) 0).str, .s (gi ((gi d 5).rows.getD 5 []) 0).str, .i (gi g5 0).int, .i (gi g6 0).int, .s (gi g8 0).str, .s (gi g9 0).str]] : List (List G))).length ((gi d 4).rows ++ ([[.i (gi g4 0).int, .i (gi g3 0).int, .s (gi ((gi d 0).rows.getD (((gi g7 0).int).toNat) []) 0).str, .s (gi ((gi d 5).rows.getD 5 []) 0).str, .i (gi g5 0).int, .i (gi g6 0).int, .s (gi g8 0).str, .s (gi g9 0).str]] : List (List G))).length) && true) && true) && true) then some [.l (gi d 0).rows, .s (gi d 1).str, .t (gi d 2).bool, .t (gi d 3).bool, .l ((gi d 4).rows ++ ([[.i (gi g4 0).int, .i (gi g3 0).int, .s (gi ((gi d 0).rows.getD (((gi g7 0).int).toNat) []) 0).str, .s (gi ((gi d 5).rows.getD 5 []) 0).str, .i (gi g5 0).int, .i (gi g6 0).int, .s (gi g8 0).str, .s (gi g9 0).str]] : List (List G))), .i 0] else none) else none)) else none)) else none) else none) else none))) else none) else (bif ((((Nat.beq (gi d 4).rows.length (gi d 4).rows.length) && true) && true) && true) then some [.l (gi d 0).rows, .s (gi d 1).str, .t (gi d 2).bool, .t (gi d 3).bool, .l (gi d 4).rows, .i 8] else none)))))))) else none)) else none)) else none) else none)) else none))) else none)) else none))
def s_log_importer_contact : FSpec := ⟨75, [.s (.ptr 0 0), .s (.list [.str])], [.box [.list KBand, .str, .bool, .bool, .vec 1 8], .vec KCt 0], [.slot 0, .cell 0 4], [.s (.int .i64)], [.box [.list KBand, .str, .bool, .bool, .vec 1 8], .vec KCt 1], [.fix 0, .fix 1], [], F_log_importer_contact⟩
theorem b_log_importer_contact : BodyOK P t93 nL0 Tryz.f75 s_log_importer_contact := fun d => by kernel_rfl
theorem c_log_importer_contact : COK P s_log_importer_contact := bdC hm t93_ok Tryz.func75 (nLk _ _ _) b_log_importer_contact
def t94 : Tab := t93.addW s_log_importer_contact
theorem t94_ok : TabOK P t94 := t93_ok.aW c_log_importer_contact

def F_log_importer_line (d : List G) : Option (List G) :=
 (bif ((gi d 5).str.toList == (⟨#[]⟩ : ByteArray).toList) then (bif ((((Nat.beq (gi d 4).rows.length (gi d 4).rows.length) && true) && true) && true) then some [.l (gi d 0).rows, .s (gi d 1).str, .t (gi d 2).bool, .t (gi d 3).bool, .l (gi d 4).rows, .i 0] else none) else (callF (F_kit_Words [.s (gi d 5).str]) fun g1 => (bif (!(gi g1 1).bool) then (bif ((((Nat.beq (gi d 4).rows.length (gi d 4).rows.length) && true) && true) && true) then some [.l (gi d 0).rows, .s (gi d 1).str, .t (gi d 2).bool, .t (gi d 3).bool, .l (gi d 4).rows, .i 9] else none) else (bif (gi d 3).bool then (bif ((((Nat.beq (gi d 4).rows.length (gi d 4).rows.length) && true) && true) && true) then some [.l (gi d 0).rows, .s (gi d 1).str, .t (gi d 2).bool, .t (gi d 3).bool, .l (gi d 4).rows, .i 9] else none) else (bif (!(gi d 2).bool) then (bif ((((gi g1 0).rows.length : Nat) : Int) != 2) then (bif ((((Nat.beq (gi d 4).rows.length (gi d 4).rows.length) && true) && true) && true) then some [.l (gi d 0).rows, .s (gi d 1).str, .t (gi d 2).bool, .t (gi d 3).bool, .l (gi d 4).rows, .i 9] else none) else (bif (ltI 0 (((gi g1 0).rows.length : Nat) : Int)) then (bif (!((gi ((gi g1 0).rows.getD 0 []) 0).str.toList == (⟨#[67, 65, 76, 76, 58]⟩ : ByteArray).toList)) then (bif ((((Nat.beq (gi d 4).rows.length (gi d 4).rows.length) && true) && true) && true) then some [.l (gi d 0).rows, .s (gi d 1).str, .t (gi d 2).bool, .t (gi d 3).bool, .l (gi d 4).rows, .i 9] else none) else (bif (ltI 1 (((gi g1 0).rows.length : Nat) : Int)) then (bif ((((Nat.beq (gi d 4).rows.length (gi d 4).rows.length) && true) && true) && true) then some [.l (gi d 0).rows, .s (gi ((gi g1 0).rows.getD 1 []) 0).str, .t true, .t (gi d 3).bool, .l (gi d 4).rows, .i 0] else none) else none)) else none)) else (bif ((gi d 5).str.toList == (⟨#[69, 78, 68]⟩ : ByteArray).toList) then (bif ((((Nat.beq (gi d 4).rows.length (gi d 4).rows.length) && true) && true) && true) then some [.l (gi d 0).rows, .s (gi d 1).str, .t (gi d 2).bool, .t true, .l (gi d 4).rows, .i 0] else none) else (callB (((((Nat.beq (gi d 4).rows.length (gi d 4).rows.length) && true) && true) && true) && (F_log_importer_contact [.l (gi d 0).rows, .s (gi d 1).str, .t (gi d 2).bool, .t (gi d 3).bool, .l (gi d 4).rows, .l (gi g1 0).rows]).isSome) (F_log_importer_contact [.l (gi d 0).rows, .s (gi d 1).str, .t (gi d 2).bool, .t (gi d 3).bool, .l (gi d 4).rows, .l (gi g1 0).rows]) fun g2 => (bif ((((Nat.beq (gi g2 4).rows.length (gi g2 4).rows.length) && true) && true) && true) then some [.l (gi g2 0).rows, .s (gi g2 1).str, .t (gi g2 2).bool, .t (gi g2 3).bool, .l (gi g2 4).rows, .i (gi g2 5).int] else none))))))))
def s_log_importer_line : FSpec := ⟨35, [.s (.ptr 0 0), .s (.str)], [.box [.list KBand, .str, .bool, .bool, .vec 1 8], .vec KCt 0], [.slot 0, .cell 0 4], [.s (.int .i64)], [.box [.list KBand, .str, .bool, .bool, .vec 1 8], .vec KCt 1], [.fix 0, .fix 1], [], F_log_importer_line⟩
theorem b_log_importer_line : BodyOK P t94 nL0 Tryz.f35 s_log_importer_line := fun d => by kernel_rfl
theorem c_log_importer_line : COK P s_log_importer_line := bdC hm t94_ok Tryz.func35 (nLk _ _ _) b_log_importer_line
def t95 : Tab := t94.addW s_log_importer_line
theorem t95_ok : TabOK P t95 := t94_ok.aW c_log_importer_line

def st_insS_Contact_2_4 (d : List G) : Option (Option Nat × List G) :=
 (bif (ltI (gi d 1).int (gi d 4).int) then (bif ((nnI (gi d 4).int) && (ltI (gi d 4).int (((gi d 0).rows.length : Nat) : Int))) then (bif (decide ((0 + ((gi d 4).int).toNat) < (gi d 0).rows.length)) then (bif (inI ((gi d 4).int - 1)) then (bif ((nnI ((gi d 4).int - 1)) && (ltI ((gi d 4).int - 1) (((gi d 0).rows.length : Nat) : Int))) then (bif (decide ((0 + ((gi d 4).int - 1).toNat) < (gi d 0).rows.length)) then (callF (F_log_Compare [.l [(gEta KCt ((gi d 0).rows.getD (0 + ((gi d 4).int).toNat) []))], .l [(gEta KCt ((gi d 0).rows.getD (0 + ((gi d 4).int - 1).toNat) []))]]) fun g1 => (bif (ltI (gi g1 0).int 0) then (bif (inI ((gi d 4).int - 1)) then (bif (inI ((gi d 4).int - 1)) then (bif ((nnI ((gi d 4).int - 1)) && (ltI ((gi d 4).int - 1) (((gi d 0).rows.length : Nat) : Int))) then (bif (decide ((0 + ((gi d 4).int - 1).toNat) < (gi d 0).rows.length)) then (bif ((nnI (gi d 4).int) && (ltI (gi d 4).int (((gi d 0).rows.length : Nat) : Int))) then (bif (decide ((0 + ((gi d 4).int).toNat) < (gi d 0).rows.length)) then (bif ((nnI (gi d 4).int) && (ltI (gi d 4).int (((gi d 0).rows.length : Nat) : Int))) then (bif (decide ((0 + ((gi d 4).int).toNat) < (gi d 0).rows.length)) then (bif ((nnI ((gi d 4).int - 1)) && (ltI ((gi d 4).int - 1) (((gi d 0).rows.length : Nat) : Int))) then (bif (decide ((0 + ((gi d 4).int - 1).toNat) < ((gi d 0).rows.set (0 + ((gi d 4).int).toNat) (putG KCt ((gi d 0).rows.getD (0 + ((gi d 4).int).toNat) []) 0 (gEta KCt ((gi d 0).rows.getD (0 + ((gi d 4).int - 1).toNat) [])))).length)) then (bif (inI ((gi d 4).int - 1)) then (bif ((Nat.beq (gi d 0).rows.length (((gi d 0).rows.set (0 + ((gi d 4).int).toNat) (putG KCt ((gi d 0).rows.getD (0 + ((gi d 4).int).toNat) []) 0 (gEta KCt ((gi d 0).rows.getD (0 + ((gi d 4).int - 1).toNat) [])))).set (0 + ((gi d 4).int - 1).toNat) (putG KCt (((gi d 0).rows.set (0 + ((gi d 4).int).toNat) (putG KCt ((gi d 0).rows.getD (0 + ((gi d 4).int).toNat) []) 0 (gEta KCt ((gi d 0).rows.getD (0 + ((gi d 4).int - 1).toNat) [])))).getD (0 + ((gi d 4).int - 1).toNat) []) 0 (gEta KCt ((gi d 0).rows.getD (0 + ((gi d 4).int).toNat) [])))).length) && true) then some (none, [.l (((gi d 0).rows.set (0 + ((gi d 4).int).toNat) (putG KCt ((gi d 0).rows.getD (0 + ((gi d 4).int).toNat) []) 0 (gEta KCt ((gi d 0).rows.getD (0 + ((gi d 4).int - 1).toNat) [])))).set (0 + ((gi d 4).int - 1).toNat) (putG KCt (((gi d 0).rows.set (0 + ((gi d 4).int).toNat) (putG KCt ((gi d 0).rows.getD (0 + ((gi d 4).int).toNat) []) 0 (gEta KCt ((gi d 0).rows.getD (0 + ((gi d 4).int - 1).toNat) [])))).getD (0 + ((gi d 4).int - 1).toNat) []) 0 (gEta KCt ((gi d 0).rows.getD (0 + ((gi d 4).int).toNat) [])))), .i (gi d 1).int, .i (gi d 2).int, .i (gi d 3).int, .i ((gi d 4).int - 1)]) else none) else none) else none) else none) else none) else none) else none) else none) else none) else none) else none) else none) else (bif ((Nat.beq (gi d 0).rows.length (gi d 0).rows.length) && true) then some (some 0, [.l (gi d 0).rows, .i (gi d 1).int, .i (gi d 2).int, .i (gi d 3).int]) else none))) else none) else none) else none) else none) else none) else (bif ((Nat.beq (gi d 0).rows.length (gi d 0).rows.length) && true) then some (some 0, [.l (gi d 0).rows, .i (gi d 1).int, .i (gi d 2).int, .i (gi d 3).int]) else none))
def l_insS_Contact_2_4 : LSpec := ⟨4, [], ⟨53, [(0, .s (.vec 0 8)), (1, .s (.int .i64)), (2, .s (.int .i64)), (3, .s (.fn 37)), (8, .s (.int .i64)), (9, .s (.int .i64))], [.vec KCt 0]⟩, [.fix 0], [⟨.exit 2, ⟨53, [(0, .s (.vec 0 8)), (1, .s (.int .i64)), (2, .s (.int .i64)), (3, .s (.fn 37)), (8, .s (.int .i64))], [.vec KCt 0]⟩, [.fix 0]⟩], st_insS_Contact_2_4⟩
theorem r_insS_Contact_2_4 : RoundOK P t95 nL0 1 (loopAt Tryz.f121 4) l_insS_Contact_2_4 := fun d => by kernel_rfl
def L_insS_Contact_2_4 : LT := nL0.add 1 l_insS_Contact_2_4
theorem L_insS_Contact_2_4_ok : LpK P 1 L_insS_Contact_2_4 (bodyOf Tryz.f121) := LpK.a hm t95_ok (nLk _ _ _) r_insS_Contact_2_4
def st_insS_Contact_2_1 (d : List G) : Option (Option Nat × List G) :=
 (bif (ltI (gi d 3).int (gi d 2).int) then (loopB ((Nat.beq (gi d 0).rows.length (gi d 0).rows.length) && true) (LRun st_insS_Contact_2_4 [.l (gi d 0).rows, .i (gi d 1).int, .i (gi d 2).int, .i (gi d 3).int, .i (gi d 3).int]) fun cg2 g2 => (bif (inI ((gi g2 3).int + 1)) then (bif ((Nat.beq (gi g2 0).rows.length (gi g2 0).rows.length) && true) then some (none, [.l (gi g2 0).rows, .i (gi g2 1).int, .i (gi g2 2).int, .i ((gi g2 3).int + 1)]) else none) else none)) else some (some 0, [.l (gi d 0).rows]))
def l_insS_Contact_2_1 : LSpec := ⟨1, [], ⟨53, [(0, .s (.vec 0 8)), (1, .s (.int .i64)), (2, .s (.int .i64)), (3, .s (.fn 37)), (8, .s (.int .i64))], [.vec KCt 0]⟩, [.fix 0], [⟨.exit 0, ⟨53, [], [.vec KCt 0]⟩, [.fix 0]⟩], st_insS_Contact_2_1⟩
theorem r_insS_Contact_2_1 : RoundOK P t95 L_insS_Contact_2_4 1 (loopAt Tryz.f121 1) l_insS_Contact_2_1 := fun d => by kernel_rfl
def L_insS_Contact_2_1 : LT := L_insS_Contact_2_4.add 1 l_insS_Contact_2_1
theorem L_insS_Contact_2_1_ok : LpK P 1 L_insS_Contact_2_1 (bodyOf Tryz.f121) := LpK.a hm t95_ok L_insS_Contact_2_4_ok r_insS_Contact_2_1
def F_insS_Contact_2 (d : List G) : Option (List G) :=
 (bif (inI ((gi d 1).int + 1)) then (loopB ((Nat.beq (gi d 0).rows.length (gi d 0).rows.length) && true) (LRun st_insS_Contact_2_1 [.l (gi d 0).rows, .i (gi d 1).int, .i (gi d 2).int, .i ((gi d 1).int + 1)]) fun cg3 g3 => some [.l (gi g3 0).rows]) else none)
def s_insS_Contact_2 : FSpec := ⟨121, [.s (.vec 0 8), .s (.int .i64), .s (.int .i64), .s (.fn 37)], [.vec KCt 0], [.slot 0], [], [.vec KCt 0], [.fix 0], [], F_insS_Contact_2⟩
theorem b_insS_Contact_2 : BodyOK P t95 L_insS_Contact_2_1 Tryz.f121 s_insS_Contact_2 := fun d => by kernel_rfl
theorem c_insS_Contact_2 : COK P s_insS_Contact_2 := bdC hm t95_ok Tryz.func121 L_insS_Contact_2_1_ok b_insS_Contact_2
def t96 : Tab := t95.addW s_insS_Contact_2
theorem t96_ok : TabOK P t96 := t95_ok.aW c_insS_Contact_2

def st_stbS_Contact_2_2 (d : List G) : Option (Option Nat × List G) :=
 (bif (leI (gi d 4).int (gi d 1).int) then (callB (((Nat.beq (gi d 0).rows.length (gi d 0).rows.length) && true) && (F_insS_Contact_2 [.l (gi d 0).rows, .i (gi d 3).int, .i (gi d 4).int]).isSome) (F_insS_Contact_2 [.l (gi d 0).rows, .i (gi d 3).int, .i (gi d 4).int]) fun g1 => (bif (inI ((gi d 4).int + (gi d 2).int)) then (bif ((Nat.beq (gi d 0).rows.length (gi g1 0).rows.length) && true) then some (none, [.l (gi g1 0).rows, .i (gi d 1).int, .i (gi d 2).int, .i (gi d 4).int, .i ((gi d 4).int + (gi d 2).int)]) else none) else none)) else (bif ((Nat.beq (gi d 0).rows.length (gi d 0).rows.length) && true) then some (some 0, [.l (gi d 0).rows, .i (gi d 1).int, .i (gi d 2).int, .i (gi d 3).int]) else none))
def l_stbS_Contact_2_2 : LSpec := ⟨2, [], ⟨63, [(0, .s (.vec 0 8)), (1, .s (.int .i64)), (2, .s (.fn 37)), (6, .s (.int .i64)), (7, .s (.int .i64)), (8, .s (.int .i64))], [.vec KCt 0]⟩, [.fix 0], [⟨.exit 0, ⟨63, [(0, .s (.vec 0 8)), (1, .s (.int .i64)), (2, .s (.fn 37)), (6, .s (.int .i64)), (7, .s (.int .i64))], [.vec KCt 0]⟩, [.fix 0]⟩], st_stbS_Contact_2_2⟩
theorem r_stbS_Contact_2_2 : RoundOK P t96 nL0 1 (loopAt Tryz.f76 2) l_stbS_Contact_2_2 := fun d => by kernel_rfl
def L_stbS_Contact_2_2 : LT := nL0.add 1 l_stbS_Contact_2_2
theorem L_stbS_Contact_2_2_ok : LpK P 1 L_stbS_Contact_2_2 (bodyOf Tryz.f76) := LpK.a hm t96_ok (nLk _ _ _) r_stbS_Contact_2_2
def st_stbS_Contact_2_9 (d : List G) : Option (Option Nat × List G) :=
 (bif (leI (gi d 4).int (gi d 1).int) then (bif (inI ((gi d 3).int + (gi d 2).int)) then none else none) else (bif ((Nat.beq (gi d 0).rows.length (gi d 0).rows.length) && true) then some (some 0, [.l (gi d 0).rows, .i (gi d 1).int, .i (gi d 2).int, .i (gi d 3).int]) else none))
def l_stbS_Contact_2_9 : LSpec := ⟨9, [], ⟨63, [(0, .s (.vec 0 8)), (1, .s (.int .i64)), (2, .s (.fn 37)), (6, .s (.int .i64)), (7, .s (.int .i64)), (8, .s (.int .i64))], [.vec KCt 0]⟩, [.fix 0], [⟨.exit 4, ⟨63, [(0, .s (.vec 0 8)), (1, .s (.int .i64)), (2, .s (.fn 37)), (6, .s (.int .i64)), (7, .s (.int .i64))], [.vec KCt 0]⟩, [.fix 0]⟩], st_stbS_Contact_2_9⟩
theorem r_stbS_Contact_2_9 : RoundOK P t96 L_stbS_Contact_2_2 1 (loopAt Tryz.f76 9) l_stbS_Contact_2_9 := fun d => by kernel_rfl
def L_stbS_Contact_2_9 : LT := L_stbS_Contact_2_2.add 1 l_stbS_Contact_2_9
theorem L_stbS_Contact_2_9_ok : LpK P 1 L_stbS_Contact_2_9 (bodyOf Tryz.f76) := LpK.a hm t96_ok L_stbS_Contact_2_2_ok r_stbS_Contact_2_9
def st_stbS_Contact_2_7 (d : List G) : Option (Option Nat × List G) :=
 (bif (ltI (gi d 2).int (gi d 1).int) then (bif (inI (2 * (gi d 2).int)) then (loopB ((Nat.beq (gi d 0).rows.length (gi d 0).rows.length) && true) (LRun st_stbS_Contact_2_9 [.l (gi d 0).rows, .i (gi d 1).int, .i (gi d 2).int, .i 0, .i (2 * (gi d 2).int)]) fun cg4 g4 => (bif (inI ((gi g4 3).int + (gi g4 2).int)) then (bif (ltI ((gi g4 3).int + (gi g4 2).int) (gi g4 1).int) then none else (bif (inI ((gi g4 2).int * 2)) then (bif ((Nat.beq (gi g4 0).rows.length (gi g4 0).rows.length) && true) then some (none, [.l (gi g4 0).rows, .i (gi g4 1).int, .i ((gi g4 2).int * 2)]) else none) else none)) else none)) else none) else some (some 0, [.l (gi d 0).rows]))
def l_stbS_Contact_2_7 : LSpec := ⟨7, [], ⟨63, [(0, .s (.vec 0 8)), (1, .s (.int .i64)), (2, .s (.fn 37)), (6, .s (.int .i64))], [.vec KCt 0]⟩, [.fix 0], [⟨.exit 2, ⟨63, [], [.vec KCt 0]⟩, [.fix 0]⟩], st_stbS_Contact_2_7⟩
theorem r_stbS_Contact_2_7 : RoundOK P t96 L_stbS_Contact_2_9 1 (loopAt Tryz.f76 7) l_stbS_Contact_2_7 := fun d => by kernel_rfl
def L_stbS_Contact_2_7 : LT := L_stbS_Contact_2_9.add 1 l_stbS_Contact_2_7
theorem L_stbS_Contact_2_7_ok : LpK P 1 L_stbS_Contact_2_7 (bodyOf Tryz.f76) := LpK.a hm t96_ok L_stbS_Contact_2_9_ok r_stbS_Contact_2_7
def F_stbS_Contact_2 (d : List G) : Option (List G) :=
 (loopB ((Nat.beq (gi d 0).rows.length (gi d 0).rows.length) && true) (LRun st_stbS_Contact_2_2 [.l (gi d 0).rows, .i (gi d 1).int, .i 20, .i 0, .i 20]) fun cg2 g2 => (callB (((Nat.beq (gi g2 0).rows.length (gi g2 0).rows.length) && true) && (F_insS_Contact_2 [.l (gi g2 0).rows, .i (gi g2 3).int, .i (gi g2 1).int]).isSome) (F_insS_Contact_2 [.l (gi g2 0).rows, .i (gi g2 3).int, .i (gi g2 1).int]) fun g3 => (loopB ((Nat.beq (gi g2 0).rows.length (gi g3 0).rows.length) && true) (LRun st_stbS_Contact_2_7 [.l (gi g3 0).rows, .i (gi g2 1).int, .i (gi g2 2).int]) fun cg5 g5 => some [.l (gi g5 0).rows])))
def s_stbS_Contact_2 : FSpec := ⟨76, [.s (.vec 0 8), .s (.int .i64), .s (.fn 37)], [.vec KCt 0], [.slot 0], [], [.vec KCt 0], [.fix 0], [], F_stbS_Contact_2⟩
theorem b_stbS_Contact_2 : BodyOK P t96 L_stbS_Contact_2_7 Tryz.f76 s_stbS_Contact_2 := fun d => by kernel_rfl
theorem c_stbS_Contact_2 : COK P s_stbS_Contact_2 := bdC hm t96_ok Tryz.func76 L_stbS_Contact_2_7_ok b_stbS_Contact_2
def t97 : Tab := t96.addW s_stbS_Contact_2
theorem t97_ok : TabOK P t97 := t96_ok.aW c_stbS_Contact_2

def F_srtS_Contact_2 (d : List G) : Option (List G) :=
 (callB (((Nat.beq (gi d 0).rows.length (gi d 0).rows.length) && true) && (F_stbS_Contact_2 [.l (gi d 0).rows, .i (((gi d 0).rows.length : Nat) : Int)]).isSome) (F_stbS_Contact_2 [.l (gi d 0).rows, .i (((gi d 0).rows.length : Nat) : Int)]) fun g1 => some [.l (gi g1 0).rows])
def s_srtS_Contact_2 : FSpec := ⟨36, [.s (.vec 0 8), .s (.fn 37)], [.vec KCt 0], [.slot 0], [], [.vec KCt 0], [.fix 0], [], F_srtS_Contact_2⟩
theorem b_srtS_Contact_2 : BodyOK P t97 nL0 Tryz.f36 s_srtS_Contact_2 := fun d => by kernel_rfl
theorem c_srtS_Contact_2 : COK P s_srtS_Contact_2 := bdC hm t97_ok Tryz.func36 (nLk _ _ _) b_srtS_Contact_2
def t98 : Tab := t97.addW s_srtS_Contact_2
theorem t98_ok : TabOK P t98 := t97_ok.aW c_srtS_Contact_2

def st_log_Import_9 (d : List G) : Option (Option Nat × List G) :=
 (bif (ltI (gi d 9).int (gi d 8).int) then (bif ((nnI (gi d 9).int) && (ltI (gi d 9).int (((gi d 7).rows.length : Nat) : Int))) then (callB (((((Nat.beq (gi d 4).rows.length (gi d 4).rows.length) && true) && true) && true) && (F_log_importer_line [.l (gi d 0).rows, .s (gi d 1).str, .t (gi d 2).bool, .t (gi d 3).bool, .l (gi d 4).rows, .s (gi ((gi d 7).rows.getD (((gi d 9).int).toNat) []) 0).str]).isSome) (F_log_importer_line [.l (gi d 0).rows, .s (gi d 1).str, .t (gi d 2).bool, .t (gi d 3).bool, .l (gi d 4).rows, .s (gi ((gi d 7).rows.getD (((gi d 9).int).toNat) []) 0).str]) fun g3 => (bif (!(gi d 6).bool) then (bif (inI ((((gi d 5).rows.length : Nat) : Int) - 1)) then (bif ((gi d 9).int == ((((gi d 5).rows.length : Nat) : Int) - 1)) then some (some 0, [.s (⟨#[]⟩ : ByteArray), .l [], .i (gi d 9).int, .i 9]) else (bif ((gi g3 5).int != 0) then some (some 0, [.s (⟨#[]⟩ : ByteArray), .l [], .i (gi d 9).int, .i (gi g3 5).int]) else (bif (inI ((gi d 9).int + 1)) then (bif ((((Nat.beq (gi g3 4).rows.length (gi g3 4).rows.length) && true) && true) && true) then some (none, [.l (gi g3 0).rows, .s (gi g3 1).str, .t (gi g3 2).bool, .t (gi g3 3).bool, .l (gi g3 4).rows, .l (gi d 5).rows, .t (gi d 6).bool, .l (gi d 7).rows, .i (gi d 8).int, .i ((gi d 9).int + 1)]) else none) else none))) else none) else (bif ((gi g3 5).int != 0) then some (some 0, [.s (⟨#[]⟩ : ByteArray), .l [], .i (gi d 9).int, .i (gi g3 5).int]) else (bif (inI ((gi d 9).int + 1)) then (bif ((((Nat.beq (gi g3 4).rows.length (gi g3 4).rows.length) && true) && true) && true) then some (none, [.l (gi g3 0).rows, .s (gi g3 1).str, .t (gi g3 2).bool, .t (gi g3 3).bool, .l (gi g3 4).rows, .l (gi d 5).rows, .t (gi d 6).bool, .l (gi d 7).rows, .i (gi d 8).int, .i ((gi d 9).int + 1)]) else none) else none)))) else none) else (bif ((((Nat.beq (gi d 4).rows.length (gi d 4).rows.length) && true) && true) && true) then some (some 1, [.l (gi d 0).rows, .s (gi d 1).str, .t (gi d 2).bool, .t (gi d 3).bool, .l (gi d 4).rows, .l (gi d 5).rows]) else none))
def l_log_Import_9 : LSpec := ⟨9, [], ⟨117, [(9, .s (.list [.str])), (10, .s (.bool)), (11, .s (.ptr 0 0)), (33, .s (.list [.str])), (34, .s (.int .i64)), (35, .s (.int .i64))], [.box [.list KBand, .str, .bool, .bool, .vec 1 8], .vec KCt 0]⟩, [.slot 11, .cell 0 4], [⟨.ret, ⟨117, [(4, .s (.str)), (5, .s (.list KCt)), (6, .s (.int .i64)), (7, .s (.int .i64))], []⟩, []⟩, ⟨.exit 0, ⟨117, [(9, .s (.list [.str])), (11, .s (.ptr 0 0))], [.box [.list KBand, .str, .bool, .bool, .vec 1 8], .vec KCt 0]⟩, [.slot 11, .cell 0 4]⟩], st_log_Import_9⟩
theorem r_log_Import_9 : RoundOK P (t98.lessPf [22]) (nL0.hinted [(8, [.openCell 11 4 KCt])]) 0 (loopAt Tryz.f9 9) l_log_Import_9 := fun d => by kernel_rfl
def L_log_Import_9 : LT := (nL0.hinted [(8, [.openCell 11 4 KCt])]).add 0 l_log_Import_9
theorem L_log_Import_9_ok : LpK P 0 L_log_Import_9 (bodyOf Tryz.f9) := LpK.add hm (t98_ok.lessPf [22]) (by kernel_rfl) (hinted_ok _) r_log_Import_9
def st_log_Import_23 (d : List G) : Option (Option Nat × List G) :=
 (bif (ltI (gi d 5).int (((gi d 4).rows.length : Nat) : Int)) then (bif (inI ((gi d 5).int - 1)) then (bif ((nnI ((gi d 5).int - 1)) && (ltI ((gi d 5).int - 1) (((gi d 4).rows.length : Nat) : Int))) then (bif (decide ((0 + ((gi d 5).int - 1).toNat) < (gi d 4).rows.length)) then (bif ((nnI (gi d 5).int) && (ltI (gi d 5).int (((gi d 4).rows.length : Nat) : Int))) then (bif (decide ((0 + ((gi d 5).int).toNat) < (gi d 4).rows.length)) then (callF (F_log_Compare [.l [(gEta KCt ((gi d 4).rows.getD (0 + ((gi d 5).int - 1).toNat) []))], .l [(gEta KCt ((gi d 4).rows.getD (0 + ((gi d 5).int).toNat) []))]]) fun g7 => (bif ((gi g7 0).int == 0) then some (some 0, [.s (⟨#[]⟩ : ByteArray), .l [], .i 0, .i 6]) else (bif (inI ((gi d 5).int + 1)) then (bif ((((Nat.beq (gi d 4).rows.length (gi d 4).rows.length) && true) && true) && true) then some (none, [.l (gi d 0).rows, .s (gi d 1).str, .t (gi d 2).bool, .t (gi d 3).bool, .l (gi d 4).rows, .i ((gi d 5).int + 1)]) else none) else none))) else none) else none) else none) else none) else none) else (bif ((((Nat.beq (gi d 4).rows.length (gi d 4).rows.length) && true) && true) && true) then some (some 1, [.l (gi d 0).rows, .s (gi d 1).str, .t (gi d 2).bool, .t (gi d 3).bool, .l (gi d 4).rows]) else none))
def l_log_Import_23 : LSpec := ⟨23, [], ⟨117, [(11, .s (.ptr 0 0)), (15, .s (.int .i64))], [.box [.list KBand, .str, .bool, .bool, .vec 1 8], .vec KCt 0]⟩, [.slot 11, .cell 0 4], [⟨.ret, ⟨117, [(4, .s (.str)), (5, .s (.list KCt)), (6, .s (.int .i64)), (7, .s (.int .i64))], []⟩, []⟩, ⟨.exit 2, ⟨117, [(11, .s (.ptr 0 0))], [.box [.list KBand, .str, .bool, .bool, .vec 1 8], .vec KCt 0]⟩, [.slot 11, .cell 0 4]⟩], st_log_Import_23⟩
theorem r_log_Import_23 : RoundOK P (t98.lessPf [22]) L_log_Import_9 0 (loopAt Tryz.f9 23) l_log_Import_23 := fun d => by kernel_rfl
def L_log_Import_23 : LT := L_log_Import_9.add 0 l_log_Import_23
theorem L_log_Import_23_ok : LpK P 0 L_log_Import_23 (bodyOf Tryz.f9) := LpK.add hm (t98_ok.lessPf [22]) (by kernel_rfl) L_log_Import_9_ok r_log_Import_23
def F_log_Import (d : List G) : Option (List G) :=
 (callF (F_log_CheckBands [.l (gi d 0).rows]) fun g1 => (bif ((gi g1 0).int != 0) then some [.s (⟨#[]⟩ : ByteArray), .l [], .i 0, .i (gi g1 0).int] else (bif (ltI 200000 (((gi d 1).str.size : Nat) : Int)) then some [.s (⟨#[]⟩ : ByteArray), .l [], .i 0, .i 2] else (callF (F_kit_Lines [.s (gi d 1).str]) fun g2 => (loopB true (LRun st_log_Import_9 [.l (gi d 0).rows, .s (⟨#[]⟩ : ByteArray), .t false, .t false, .l [], .l (gi g2 0).rows, .t (gi g2 1).bool, .l (gi g2 0).rows, .i (((gi g2 0).rows.length : Nat) : Int), .i 0]) fun cg4 g4 => (bif Nat.beq cg4 0 then some [.s (gi g4 0).str, .l (gi g4 1).rows, .i (gi g4 2).int, .i (gi g4 3).int] else (bif (!(gi g4 3).bool) then some [.s (⟨#[]⟩ : ByteArray), .l [], .i (((gi g4 5).rows.length : Nat) : Int), .i 9] else (callF (F_call_Is [.s (gi g4 1).str]) fun g5 => (bif (!(gi g5 0).bool) then some [.s (⟨#[]⟩ : ByteArray), .l [], .i 0, .i 3] else (callB (((Nat.beq (gi g4 4).rows.length (gi g4 4).rows.length) && true) && (F_srtS_Contact_2 [.l (gi g4 4).rows]).isSome) (F_srtS_Contact_2 [.l (gi g4 4).rows]) fun g6 => (loopB ((((Nat.beq (gi g4 4).rows.length (gi g6 0).rows.length) && true) && true) && true) (LRun st_log_Import_23 [.l (gi g4 0).rows, .s (gi g4 1).str, .t (gi g4 2).bool, .t (gi g4 3).bool, .l (gi g6 0).rows, .i 1]) fun cg8 g8 => (bif Nat.beq cg8 0 then some [.s (gi g8 0).str, .l (gi g8 1).rows, .i (gi g8 2).int, .i (gi g8 3).int] else (callB (((Nat.beq (gi g8 4).rows.length (gi g8 4).rows.length) && true) && (F_log_CheckLog [.l (gi g8 4).rows]).isSome) (F_log_CheckLog [.l (gi g8 4).rows]) fun g9 => (bif ((gi g9 0).int != 0) then some [.s (⟨#[]⟩ : ByteArray), .l [], .i 0, .i (gi g9 0).int] else (bif ((Nat.beq (gi g8 4).rows.length (gi g8 4).rows.length) && true) then some [.s (gi g8 1).str, .l (gi g8 4).rows, .i 0, .i 0] else none)))))))))))))))
def s_log_Import : FSpec := ⟨9, [.s (.list KBand), .s (.str)], [], [], [.s (.str), .s (.list KCt), .s (.int .i64), .s (.int .i64)], [], [], [], F_log_Import⟩
theorem b_log_Import : BodyOK P (t98.lessPf [22]) L_log_Import_23 Tryz.f9 s_log_Import := fun d => by kernel_rfl
theorem c_log_Import : COK P s_log_Import := bodyC hm (t98_ok.lessPf [22]) Tryz.func9 (by kernel_rfl) L_log_Import_23_ok b_log_Import (by kernel_rfl)
def t99 : Tab := t98.addP s_log_Import
theorem t99_ok : TabOK P t99 := t98_ok.aP c_log_Import

def st_k2_errs_2 (d : List G) : Option (Option Nat × List G) :=
 (bif (ltI (gi d 2).int (gi d 1).int) then (bif ((nnI (gi d 2).int) && (ltI (gi d 2).int (((gi d 0).rows.length : Nat) : Int))) then (bif ((gi ((gi d 0).rows.getD (((gi d 2).int).toNat) []) 0).int != 0) then some (some 0, [.i (gi ((gi d 0).rows.getD (((gi d 2).int).toNat) []) 0).int]) else (bif (inI ((gi d 2).int + 1)) then some (none, [.l (gi d 0).rows, .i (gi d 1).int, .i ((gi d 2).int + 1)]) else none)) else none) else some (some 1, []))
def l_k2_errs_2 : LSpec := ⟨2, [], ⟨15, [(5, .s (.list [.int .i64])), (6, .s (.int .i64)), (7, .s (.int .i64))], []⟩, [], [⟨.ret, ⟨15, [(2, .s (.int .i64))], []⟩, []⟩, ⟨.exit 0, ⟨15, [], []⟩, []⟩], st_k2_errs_2⟩
theorem r_k2_errs_2 : RoundOK P t99 nL0 0 (loopAt Tryz.f10 2) l_k2_errs_2 := fun d => by kernel_rfl
def L_k2_errs_2 : LT := nL0.add 0 l_k2_errs_2
theorem L_k2_errs_2_ok : LpK P 0 L_k2_errs_2 (bodyOf Tryz.f10) := LpK.a hm t99_ok (nLk _ _ _) r_k2_errs_2
def F_k2_errs (d : List G) : Option (List G) :=
 (loopB true (LRun st_k2_errs_2 [.l (gi d 0).rows, .i (((gi d 0).rows.length : Nat) : Int), .i 0]) fun cg1 g1 => (bif Nat.beq cg1 0 then some [.i (gi g1 0).int] else some [.i 0]))
def s_k2_errs : FSpec := ⟨10, [.s (.list [.int .i64])], [], [], [.s (.int .i64)], [], [], [], F_k2_errs⟩
theorem b_k2_errs : BodyOK P t99 L_k2_errs_2 Tryz.f10 s_k2_errs := fun d => by kernel_rfl
theorem c_k2_errs : COK P s_k2_errs := bdC hm t99_ok Tryz.func10 L_k2_errs_2_ok b_k2_errs
def t100 : Tab := t99.addP s_k2_errs
theorem t100_ok : TabOK P t100 := t99_ok.aP c_k2_errs

def st_sl_Equal_Contact_4 (d : List G) : Option (Option Nat × List G) :=
 (bif (ltI (gi d 3).int (gi d 2).int) then (bif ((nnI (gi d 3).int) && (ltI (gi d 3).int (((gi d 0).rows.length : Nat) : Int))) then (bif ((nnI (gi d 3).int) && (ltI (gi d 3).int (((gi d 1).rows.length : Nat) : Int))) then (bif (!(rowEq KCt (gEta KCt ((gi d 0).rows.getD (((gi d 3).int).toNat) [])) (gEta KCt ((gi d 1).rows.getD (((gi d 3).int).toNat) [])))) then some (some 0, [.t false]) else (bif (inI ((gi d 3).int + 1)) then some (none, [.l (gi d 0).rows, .l (gi d 1).rows, .i (gi d 2).int, .i ((gi d 3).int + 1)]) else none)) else none) else none) else some (some 1, []))
def l_sl_Equal_Contact_4 : LSpec := ⟨4, [], ⟨26, [(0, .s (.list KCt)), (1, .s (.list KCt)), (12, .s (.int .i64)), (13, .s (.int .i64))], []⟩, [], [⟨.ret, ⟨26, [(4, .s (.bool))], []⟩, []⟩, ⟨.exit 0, ⟨26, [], []⟩, []⟩], st_sl_Equal_Contact_4⟩
theorem r_sl_Equal_Contact_4 : RoundOK P t100 nL0 0 (loopAt Tryz.f11 4) l_sl_Equal_Contact_4 := fun d => by kernel_rfl
def L_sl_Equal_Contact_4 : LT := nL0.add 0 l_sl_Equal_Contact_4
theorem L_sl_Equal_Contact_4_ok : LpK P 0 L_sl_Equal_Contact_4 (bodyOf Tryz.f11) := LpK.a hm t100_ok (nLk _ _ _) r_sl_Equal_Contact_4
def F_sl_Equal_Contact (d : List G) : Option (List G) :=
 (bif ((((gi d 0).rows.length : Nat) : Int) != (((gi d 1).rows.length : Nat) : Int)) then some [.t false] else (loopB true (LRun st_sl_Equal_Contact_4 [.l (gi d 0).rows, .l (gi d 1).rows, .i (((gi d 0).rows.length : Nat) : Int), .i 0]) fun cg1 g1 => (bif Nat.beq cg1 0 then some [.t (gi g1 0).bool] else some [.t true])))
def s_sl_Equal_Contact : FSpec := ⟨11, [.s (.list KCt), .s (.list KCt)], [], [], [.s (.bool)], [], [], [], F_sl_Equal_Contact⟩
theorem b_sl_Equal_Contact : BodyOK P t100 L_sl_Equal_Contact_4 Tryz.f11 s_sl_Equal_Contact := fun d => by kernel_rfl
theorem c_sl_Equal_Contact : COK P s_sl_Equal_Contact := bdC hm t100_ok Tryz.func11 L_sl_Equal_Contact_4_ok b_sl_Equal_Contact
def t101 : Tab := t100.addP s_sl_Equal_Contact
theorem t101_ok : TabOK P t101 := t100_ok.aP c_sl_Equal_Contact

attribute [instance] drF
theorem w101_ok : TabOK P t101 := t101_ok.anyDr
def F_strings_Join (d : List G) : Option (List G) :=
 joinF d
def s_strings_Join : FSpec := ⟨68, [.s (.list [.str]), .s (.str)], [], [], [.s (.str)], [], [], [], F_strings_Join⟩
theorem c_strings_Join : ∀ d r, F_strings_Join d = some r → ACallX P 68 (s_strings_Join.args0 d) (denH (s_strings_Join.H0 d)) (s_strings_Join.out r) (denH (s_strings_Join.H1 r)) := fun d r h => join_call rfl Tryz.laysJoin Tryz.laysJoin_x d r h
def t102 : Tab := t101.addP s_strings_Join
theorem t102_ok : TabOK P t102 := w101_ok.aP c_strings_Join

def F_kit_Join (d : List G) : Option (List G) :=
 (callF (F_strings_Join [.l (gi d 0).rows, .s (⟨#[32]⟩ : ByteArray)]) fun g1 => (bif (Nat.ble ((gi g1 0).str.size + 1) 9223372036854775807) then some [.s ((gi g1 0).str ++ (⟨#[10]⟩ : ByteArray))] else none))
def s_kit_Join : FSpec := ⟨24, [.s (.list [.str])], [], [], [.s (.str)], [], [], [], F_kit_Join⟩
theorem b_kit_Join : BodyOK P t102 nL0 Tryz.f24 s_kit_Join := fun d => by kernel_rfl
theorem c_kit_Join : COK P s_kit_Join := bdC hm t102_ok Tryz.func24 (nLk _ _ _) b_kit_Join
def t103 : Tab := t102.addP s_kit_Join
theorem t103_ok : TabOK P t103 := t102_ok.aP c_kit_Join

def F_strings_Builder_WriteString (d : List G) : Option (List G) :=
 bldWF d
def s_strings_Builder_WriteString : FSpec := ⟨23, [.s (.ptr 0 0), .s (.str)], [.bld 0 72 5], [.slot 0], [.s (.int .i64), .s (.any)], [.bld 0 72 5], [.fix 0], [], F_strings_Builder_WriteString⟩
theorem c_strings_Builder_WriteString : ∀ d r, F_strings_Builder_WriteString d = some r → ACallX P 23 (s_strings_Builder_WriteString.args0 d) (denH (s_strings_Builder_WriteString.H0 d)) (s_strings_Builder_WriteString.out r) (denH (s_strings_Builder_WriteString.H1 r)) := fun d r h => bldW_call Tryz.laysBldW Tryz.laysBldW_x rfl d r h
def t104 : Tab := t103.addW s_strings_Builder_WriteString
theorem t104_ok : TabOK P t104 := t103_ok.aW c_strings_Builder_WriteString

def F_strings_Repeat (d : List G) : Option (List G) :=
 repF d
def s_strings_Repeat : FSpec := ⟨111, [.s (.str), .s (.int .i64)], [], [], [.s (.str)], [], [], [], F_strings_Repeat⟩
theorem c_strings_Repeat : ∀ d r, F_strings_Repeat d = some r → ACallX P 111 (s_strings_Repeat.args0 d) (denH (s_strings_Repeat.H0 d)) (s_strings_Repeat.out r) (denH (s_strings_Repeat.H1 r)) := fun d r h => rep_call rfl Tryz.laysRep Tryz.laysRep_x d r h
def t105 : Tab := t104.addP s_strings_Repeat
theorem t105_ok : TabOK P t105 := t104_ok.aP c_strings_Repeat

def F_log_padded (d : List G) : Option (List G) :=
 (callF (F_strconv_Itoa [.i (gi d 0).int]) fun g1 => (bif (inI ((gi d 1).int - (((gi g1 0).str.size : Nat) : Int))) then (callF (F_strings_Repeat [.s (⟨#[48]⟩ : ByteArray), .i (if ((gi d 1).int - (((gi g1 0).str.size : Nat) : Int)) > 0 then ((gi d 1).int - (((gi g1 0).str.size : Nat) : Int)) else 0)]) fun g2 => (bif (Nat.ble ((gi g2 0).str.size + (gi g1 0).str.size) 9223372036854775807) then some [.s ((gi g2 0).str ++ (gi g1 0).str)] else none)) else none))
def s_log_padded : FSpec := ⟨70, [.s (.int .i64), .s (.int .i64)], [], [], [.s (.str)], [], [], [], F_log_padded⟩
theorem b_log_padded : BodyOK P t105 nL0 Tryz.f70 s_log_padded := fun d => by kernel_rfl
theorem c_log_padded : COK P s_log_padded := bdC hm t105_ok Tryz.func70 (nLk _ _ _) b_log_padded
def t106 : Tab := t105.addP s_log_padded
theorem t106_ok : TabOK P t106 := t105_ok.aP c_log_padded

def F_log_momentText (d : List G) : Option (List G) :=
 (bif (inI (Int.tdiv (gi d 0).int 86400000)) then (callF (F_log_dateOf [.i (Int.tdiv (gi d 0).int 86400000)]) fun g1 => (bif (inI (Int.tdiv (Int.tmod (gi d 0).int 86400000) 1000)) then (callF (F_log_padded [.i (gi g1 0).int, .i 4]) fun g2 => (bif (Nat.ble ((gi g2 0).str.size + 1) 9223372036854775807) then (callF (F_log_padded [.i (gi g1 1).int, .i 2]) fun g3 => (bif (Nat.ble (((gi g2 0).str ++ (⟨#[45]⟩ : ByteArray)).size + (gi g3 0).str.size) 9223372036854775807) then (bif (Nat.ble ((((gi g2 0).str ++ (⟨#[45]⟩ : ByteArray)) ++ (gi g3 0).str).size + 1) 9223372036854775807) then (callF (F_log_padded [.i (gi g1 2).int, .i 2]) fun g4 => (bif (Nat.ble (((((gi g2 0).str ++ (⟨#[45]⟩ : ByteArray)) ++ (gi g3 0).str) ++ (⟨#[45]⟩ : ByteArray)).size + (gi g4 0).str.size) 9223372036854775807) then (bif (inI (Int.tdiv (Int.tdiv (Int.tmod (gi d 0).int 86400000) 1000) 3600)) then (callF (F_log_padded [.i (Int.tdiv (Int.tdiv (Int.tmod (gi d 0).int 86400000) 1000) 3600), .i 2]) fun g5 => (bif (inI (Int.tdiv (Int.tdiv (Int.tmod (gi d 0).int 86400000) 1000) 60)) then (callF (F_log_padded [.i (Int.tmod (Int.tdiv (Int.tdiv (Int.tmod (gi d 0).int 86400000) 1000) 60) 60), .i 2]) fun g6 => (bif (Nat.ble ((gi g5 0).str.size + (gi g6 0).str.size) 9223372036854775807) then (callF (F_log_padded [.i (Int.tmod (Int.tdiv (Int.tmod (gi d 0).int 86400000) 1000) 60), .i 2]) fun g7 => (bif (Nat.ble (((gi g5 0).str ++ (gi g6 0).str).size + (gi g7 0).str.size) 9223372036854775807) then some [.s (((((gi g2 0).str ++ (⟨#[45]⟩ : ByteArray)) ++ (gi g3 0).str) ++ (⟨#[45]⟩ : ByteArray)) ++ (gi g4 0).str), .s (((gi g5 0).str ++ (gi g6 0).str) ++ (gi g7 0).str)] else none)) else none)) else none)) else none) else none)) else none) else none)) else none)) else none)) else none)
def s_log_momentText : FSpec := ⟨27, [.s (.int .i64)], [], [], [.s (.str), .s (.str)], [], [], [], F_log_momentText⟩
theorem b_log_momentText : BodyOK P t106 nL0 Tryz.f27 s_log_momentText := fun d => by kernel_rfl
theorem c_log_momentText : COK P s_log_momentText := bdC hm t106_ok Tryz.func27 (nLk _ _ _) b_log_momentText
def t107 : Tab := t106.addP s_log_momentText
theorem t107_ok : TabOK P t107 := t106_ok.aP c_log_momentText

def F_strings_Builder_Len (d : List G) : Option (List G) :=
 bldLF d
def s_strings_Builder_Len : FSpec := ⟨32, [.s (.ptr 0 0)], [.bld 0 72 5], [.slot 0], [.s (.int .i64)], [.bld 0 72 5], [.fix 0], [], F_strings_Builder_Len⟩
theorem c_strings_Builder_Len : ∀ d r, F_strings_Builder_Len d = some r → ACallX P 32 (s_strings_Builder_Len.args0 d) (denH (s_strings_Builder_Len.H0 d)) (s_strings_Builder_Len.out r) (denH (s_strings_Builder_Len.H1 r)) := fun d r h => bldL_call Tryz.laysBldL rfl d r h
def t108 : Tab := t107.addW s_strings_Builder_Len
theorem t108_ok : TabOK P t108 := t107_ok.aW c_strings_Builder_Len

def F_strings_Builder_String (d : List G) : Option (List G) :=
 bldSF d
def s_strings_Builder_String : FSpec := ⟨33, [.s (.ptr 0 0)], [.bld 0 72 5], [.slot 0], [.s (.str)], [.bld 0 72 5], [.fix 0], [], F_strings_Builder_String⟩
theorem c_strings_Builder_String : ∀ d r, F_strings_Builder_String d = some r → ACallX P 33 (s_strings_Builder_String.args0 d) (denH (s_strings_Builder_String.H0 d)) (s_strings_Builder_String.out r) (denH (s_strings_Builder_String.H1 r)) := fun d r h => bldS_call Tryz.laysBldS Tryz.laysBldS_x rfl d r h
def t109 : Tab := t108.addW s_strings_Builder_String
theorem t109_ok : TabOK P t109 := t108_ok.aW c_strings_Builder_String

def st_log_Export_12 (d : List G) : Option (Option Nat × List G) :=
 (bif (ltI (gi d 4).int (gi d 3).int) then (bif ((nnI (gi d 4).int) && (ltI (gi d 4).int (((gi d 2).rows.length : Nat) : Int))) then (callF (F_sl_IndexFunc_Band_2 [.l (gi d 1).rows, .l [(gEta KCt ((gi d 2).rows.getD (((gi d 4).int).toNat) []))]]) fun g6 => (bif (ltI (gi g6 0).int 0) then some (some 0, [.s (⟨#[]⟩ : ByteArray), .i 8]) else (callF (F_log_momentText [.i (gi ((gi d 2).rows.getD (((gi d 4).int).toNat) []) 0).int]) fun g7 => (bif ((nnI (gi g6 0).int) && (ltI (gi g6 0).int (((gi d 1).rows.length : Nat) : Int))) then (bif (inI (Int.tdiv (gi ((gi d 1).rows.getD (((gi g6 0).int).toNat) []) 1).int 1000)) then (callF (F_strconv_Itoa [.i (Int.tdiv (gi ((gi d 1).rows.getD (((gi g6 0).int).toNat) []) 1).int 1000)]) fun g8 => (callF (F_log_modeWords []) fun g9 => (bif ((nnI (gi ((gi d 2).rows.getD (((gi d 4).int).toNat) []) 1).int) && (ltI (gi ((gi d 2).rows.getD (((gi d 4).int).toNat) []) 1).int (((gi g9 0).rows.length : Nat) : Int))) then (callF (F_log_serialText [.i (gi ((gi d 2).rows.getD (((gi d 4).int).toNat) []) 4).int]) fun g10 => (callF (F_kit_Dash [.s (gi ((gi d 2).rows.getD (((gi d 4).int).toNat) []) 6).str]) fun g11 => (callF (F_log_serialText [.i (gi ((gi d 2).rows.getD (((gi d 4).int).toNat) []) 5).int]) fun g12 => (callF (F_kit_Dash [.s (gi ((gi d 2).rows.getD (((gi d 4).int).toNat) []) 7).str]) fun g13 => (callF (F_kit_Join [.l [[.s (⟨#[81, 83, 79, 58]⟩ : ByteArray)], [.s (gi g8 0).str], [.s (gi ((gi g9 0).rows.getD (((gi ((gi d 2).rows.getD (((gi d 4).int).toNat) []) 1).int).toNat) []) 0).str], [.s (gi g7 0).str], [.s (gi g7 1).str], [.s (gi ((gi d 2).rows.getD (((gi d 4).int).toNat) []) 3).str], [.s (gi g10 0).str], [.s (gi g11 0).str], [.s (gi g12 0).str], [.s (gi g13 0).str]]]) fun g14 => (callF (F_strings_Builder_WriteString [.s (gi d 0).str, .s (gi g14 0).str]) fun g15 => (bif (inI ((gi d 4).int + 1)) then some (none, [.s (gi g15 0).str, .l (gi d 1).rows, .l (gi d 2).rows, .i (gi d 3).int, .i ((gi d 4).int + 1)]) else none))))))) else none))) else none) else none)))) else none) else some (some 1, [.s (gi d 0).str]))
def l_log_Export_12 : LSpec := ⟨12, [], ⟨86, [(0, .s (.list KBand)), (10, .s (.ptr 0 0)), (33, .s (.list KCt)), (34, .s (.int .i64)), (35, .s (.int .i64))], [.bld 0 72 5]⟩, [.slot 10], [⟨.ret, ⟨86, [(6, .s (.str)), (7, .s (.int .i64))], []⟩, []⟩, ⟨.exit 0, ⟨86, [(10, .s (.ptr 0 0))], [.bld 0 72 5]⟩, [.slot 10]⟩], st_log_Export_12⟩
theorem r_log_Export_12 : RoundOK P (t109.lessPf [25]) nL0 0 (loopAt Tryz.f8 12) l_log_Export_12 := fun d => by kernel_rfl
def L_log_Export_12 : LT := nL0.add 0 l_log_Export_12
theorem L_log_Export_12_ok : LpK P 0 L_log_Export_12 (bodyOf Tryz.f8) := LpK.add hm (t109_ok.lessPf [25]) (by kernel_rfl) (nLk _ _ _) r_log_Export_12
def F_log_Export (d : List G) : Option (List G) :=
 (callF (F_log_CheckBands [.l (gi d 0).rows]) fun g1 => (bif ((gi g1 0).int != 0) then some [.s (⟨#[]⟩ : ByteArray), .i (gi g1 0).int] else (callF (F_call_Is [.s (gi d 1).str]) fun g2 => (bif (!(gi g2 0).bool) then some [.s (⟨#[]⟩ : ByteArray), .i 3] else (callF (F_log_CheckLog [.l (gi d 2).rows]) fun g3 => (bif ((gi g3 0).int != 0) then some [.s (⟨#[]⟩ : ByteArray), .i (gi g3 0).int] else (callF (F_kit_Join [.l [[.s (⟨#[67, 65, 76, 76, 58]⟩ : ByteArray)], [.s (gi d 1).str]]]) fun g4 => (callF (F_strings_Builder_WriteString [.s (⟨#[]⟩ : ByteArray), .s (gi g4 0).str]) fun g5 => (loopB true (LRun st_log_Export_12 [.s (gi g5 0).str, .l (gi d 0).rows, .l (gi d 2).rows, .i (((gi d 2).rows.length : Nat) : Int), .i 0]) fun cg16 g16 => (bif Nat.beq cg16 0 then some [.s (gi g16 0).str, .i (gi g16 1).int] else (callF (F_strings_Builder_WriteString [.s (gi g16 0).str, .s (⟨#[69, 78, 68, 10]⟩ : ByteArray)]) fun g17 => (callF (F_strings_Builder_Len [.s (gi g17 0).str]) fun g18 => (bif (ltI 200000 (gi g18 1).int) then some [.s (⟨#[]⟩ : ByteArray), .i 2] else (callF (F_strings_Builder_String [.s (gi g18 0).str]) fun g19 => some [.s (gi g19 1).str, .i 0]))))))))))))))
def s_log_Export : FSpec := ⟨8, [.s (.list KBand), .s (.str), .s (.list KCt)], [], [], [.s (.str), .s (.int .i64)], [], [], [], F_log_Export⟩
theorem b_log_Export : BodyOK P (t109.lessPf [25]) L_log_Export_12 Tryz.f8 s_log_Export := fun d => by kernel_rfl
theorem c_log_Export : COK P s_log_Export := bodyC hm (t109_ok.lessPf [25]) Tryz.func8 (by kernel_rfl) L_log_Export_12_ok b_log_Export (by kernel_rfl)
def t110 : Tab := t109.addP s_log_Export
theorem t110_ok : TabOK P t110 := t109_ok.aP c_log_Export

end
end Go.Proofs.SYtooejlhignkdgaaGreatDoor
