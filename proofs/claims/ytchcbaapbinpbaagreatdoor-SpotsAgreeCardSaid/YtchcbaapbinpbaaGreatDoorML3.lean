/-
 What is proved here: functions of the program as functions on data. No condition.
-/
import Derived.Test.YtchcbaapbinpbaaGreatDoorML2
set_option linter.all false
namespace Go.Proofs.SYtchcbaapbinpbaaGreatDoor
open Go Go.AL Go.Proofs
noncomputable section
def st_mk_Spots_4 (d : List G) : Option (Option Nat × List G) :=
 (bif (ltI (gi d 5).int (gi d 4).int) then (callF (F_mk_Pick [.l (gi d 0).rows, .i (gi d 1).int, .l [[.i 0], [.i 1], [.i 5], [.i 20]]]) fun g1 => (bif (inI ((gi d 3).int + (gi g1 2).int)) then (callF (F_mk_Pick [.l (gi g1 0).rows, .i (gi g1 1).int, .l [[.i 7000000], [.i 7100000], [.i 7299999], [.i 7300000], [.i 14000000], [.i 14010000], [.i 14020000], [.i 14020000], [.i 1800000], [.i 5000000]]]) fun g2 => (callF (F_mk_ACall [.l (gi g2 0).rows, .i (gi g2 1).int]) fun g3 => (callF (F_mk_Some [.l (gi g3 0).rows, .i (gi g3 1).int, .l [[.s (⟨#[119, 49, 97, 119]⟩ : ByteArray)], [.s (⟨#[110, 49, 109, 109]⟩ : ByteArray)]]]) fun g4 => (callF (F_mk_Flip [.l (gi g4 0).rows, .i (gi g4 1).int, .i 80]) fun g5 => (bif (gi g5 2).bool then (callF (F_mk_Odd [.l (gi g5 0).rows, .i (gi g5 1).int, .i 0, .i 100]) fun g6 => (callF (F_mk_Odd [.l (gi g6 0).rows, .i (gi g6 1).int, .i 0, .i 30000000000]) fun g7 => (callF (F_mk_Some [.l (gi g7 0).rows, .i (gi g7 1).int, .l [[.s (⟨#[]⟩ : ByteArray)], [.s (⟨#[119, 49, 97, 119]⟩ : ByteArray)]]]) fun g8 => (bif ((Nat.beq (gi d 2).rows.length (gi d 2).rows.length) && (decide (((gi d 2).rows.length + 1) ≤ 1048576))) then (bif (inI ((gi d 5).int + 1)) then (bif ((Nat.beq ((gi d 2).rows ++ ([[.i (gi g6 2).int, .i (gi g7 2).int, .s (gi g3 2).str, .s (gi g8 2).str]] : List (List G))).length ((gi d 2).rows ++ ([[.i (gi g6 2).int, .i (gi g7 2).int, .s (gi g3 2).str, .s (gi g8 2).str]] : List (List G))).length) && true) then some (none, [.l (gi g8 0).rows, .i (gi g8 1).int, .l ((gi d 2).rows ++ ([[.i (gi g6 2).int, .i (gi g7 2).int, .s (gi g3 2).str, .s (gi g8 2).str]] : List (List G))), .i ((gi d 3).int + (gi g1 2).int), .i (gi d 4).int, .i ((gi d 5).int + 1)]) else none) else none) else none)))) else (bif ((Nat.beq (gi d 2).rows.length (gi d 2).rows.length) && (decide (((gi d 2).rows.length + 1) ≤ 1048576))) then (bif (inI ((gi d 5).int + 1)) then (bif ((Nat.beq ((gi d 2).rows ++ ([[.i ((gi d 3).int + (gi g1 2).int), .i (gi g2 2).int, .s (gi g3 2).str, .s (gi g4 2).str]] : List (List G))).length ((gi d 2).rows ++ ([[.i ((gi d 3).int + (gi g1 2).int), .i (gi g2 2).int, .s (gi g3 2).str, .s (gi g4 2).str]] : List (List G))).length) && true) then some (none, [.l (gi g5 0).rows, .i (gi g5 1).int, .l ((gi d 2).rows ++ ([[.i ((gi d 3).int + (gi g1 2).int), .i (gi g2 2).int, .s (gi g3 2).str, .s (gi g4 2).str]] : List (List G))), .i ((gi d 3).int + (gi g1 2).int), .i (gi d 4).int, .i ((gi d 5).int + 1)]) else none) else none) else none)))))) else none)) else (bif ((Nat.beq (gi d 2).rows.length (gi d 2).rows.length) && true) then some (some 0, [.l (gi d 0).rows, .i (gi d 1).int, .l (gi d 2).rows]) else none))
def l_mk_Spots_4 : LSpec := ⟨4, [(5, KSpot)], ⟨47, [(0, .s (.ptr 0 0)), (5, .s (.vec 1 4)), (6, .s (.int .i64)), (8, .s (.int .i64)), (9, .s (.int .i64))], [.box [.list [.int .i64], .int .i64], .vec KSpot 0]⟩, [.fix 0, .slot 5], [⟨.exit 0, ⟨47, [(5, .s (.vec 1 4))], [.box [.list [.int .i64], .int .i64], .vec KSpot 0]⟩, [.fix 0, .slot 5]⟩], st_mk_Spots_4⟩
theorem r_mk_Spots_4 : RoundOK P t53 nL0 1 (loopAt Tryz.f29 4) l_mk_Spots_4 := fun d => by kernel_rfl
def L_mk_Spots_4 : LT := nL0.add 1 l_mk_Spots_4
theorem L_mk_Spots_4_ok : LpK P 1 L_mk_Spots_4 (bodyOf Tryz.f29) := LpK.a hm t53_ok (nLk _ _ _) r_mk_Spots_4
def F_mk_Spots (d : List G) : Option (List G) :=
 (loopB true (LRun st_mk_Spots_4 [.l (gi d 0).rows, .i (gi d 1).int, .l [], .i 0, .i (gi d 2).int, .i 0]) fun cg9 g9 => (callB (((Nat.beq (gi g9 2).rows.length (gi g9 2).rows.length) && true) && (F_srtS_Spot [.l (gi g9 2).rows]).isSome) (F_srtS_Spot [.l (gi g9 2).rows]) fun g10 => (callB (((Nat.beq (gi g9 2).rows.length (gi g10 0).rows.length) && true) && (F_sl_Compact_Spot [.l (gi g10 0).rows]).isSome) (F_sl_Compact_Spot [.l (gi g10 0).rows]) fun g11 => (bif ((Nat.ble (gi g11 1).int.toNat (gi g11 0).rows.length) && true) then some [.l (gi g9 0).rows, .i (gi g9 1).int, .l ((gi g11 0).rows.take ((gi g11 1).int.toNat))] else none))))
def s_mk_Spots : FSpec := ⟨29, [.s (.ptr 0 0), .s (.int .i64)], [.box [.list [.int .i64], .int .i64]], [.slot 0], [.s (.lpre KSpot)], [.box [.list [.int .i64], .int .i64]], [.fix 0], [], F_mk_Spots⟩
theorem b_mk_Spots : BodyOK P t53 L_mk_Spots_4 Tryz.f29 s_mk_Spots := fun d => by kernel_rfl
theorem c_mk_Spots : COK P s_mk_Spots := bdC hm t53_ok Tryz.func29 L_mk_Spots_4_ok b_mk_Spots
def t54 : Tab := t53.addW s_mk_Spots
theorem t54_ok : TabOK P t54 := t53_ok.aW c_mk_Spots

def F_r2_in (d : List G) : Option (List G) :=
 (bif (leI (gi d 1).int (gi d 0).int) then some [.t (leI (gi d 0).int (gi d 2).int)] else some [.t false])
def s_r2_in : FSpec := ⟨78, [.s (.int .i64), .s (.int .i64), .s (.int .i64)], [], [], [.s (.bool)], [], [], [], F_r2_in⟩
theorem b_r2_in : BodyOK P t54 nL0 Tryz.f78 s_r2_in := fun d => by kernel_rfl
theorem c_r2_in : COK P s_r2_in := bdC hm t54_ok Tryz.func78 (nLk _ _ _) b_r2_in
def t55 : Tab := t54.addP s_r2_in
theorem t55_ok : TabOK P t55 := t54_ok.aP c_r2_in

def F_r2_Moment (d : List G) : Option (List G) :=
 (callF (F_r2_in [.i (gi d 0).int, .i 0, .i 345686399999]) fun g1 => some [.t (gi g1 0).bool])
def s_r2_Moment : FSpec := ⟨77, [.s (.int .i64)], [], [], [.s (.bool)], [], [], [], F_r2_Moment⟩
theorem b_r2_Moment : BodyOK P t55 nL0 Tryz.f77 s_r2_Moment := fun d => by kernel_rfl
theorem c_r2_Moment : COK P s_r2_Moment := bdC hm t55_ok Tryz.func77 (nLk _ _ _) b_r2_Moment
def t56 : Tab := t55.addP s_r2_Moment
theorem t56_ok : TabOK P t56 := t55_ok.aP c_r2_Moment

def F_r2_Call (d : List G) : Option (List G) :=
 (callF (F_r1_PartsOf [.s (gi d 0).str]) fun g1 => some [.t (gi g1 1).bool])
def s_r2_Call : FSpec := ⟨79, [.s (.str)], [], [], [.s (.bool)], [], [], [], F_r2_Call⟩
theorem b_r2_Call : BodyOK P t56 nL0 Tryz.f79 s_r2_Call := fun d => by kernel_rfl
theorem c_r2_Call : COK P s_r2_Call := bdC hm t56_ok Tryz.func79 (nLk _ _ _) b_r2_Call
def t57 : Tab := t56.addP s_r2_Call
theorem t57_ok : TabOK P t57 := t56_ok.aP c_r2_Call

def st_r2_SpotsFault_4 (d : List G) : Option (Option Nat × List G) :=
 (bif (ltI (gi d 3).int (gi d 2).int) then (bif ((nnI (gi d 3).int) && (ltI (gi d 3).int (((gi d 1).rows.length : Nat) : Int))) then (callF (F_r2_Moment [.i (gi ((gi d 1).rows.getD (((gi d 3).int).toNat) []) 0).int]) fun g1 => (bif (!(gi g1 0).bool) then some (some 0, [.i 1]) else (callF (F_r2_in [.i (gi ((gi d 1).rows.getD (((gi d 3).int).toNat) []) 1).int, .i 0, .i 30000000000]) fun g2 => (bif (!(gi g2 0).bool) then some (some 0, [.i 1]) else (callF (F_r2_Call [.s (gi ((gi d 1).rows.getD (((gi d 3).int).toNat) []) 2).str]) fun g3 => (bif (!(gi g3 0).bool) then some (some 0, [.i 3]) else (callF (F_r2_Call [.s (gi ((gi d 1).rows.getD (((gi d 3).int).toNat) []) 3).str]) fun g4 => (bif (!(gi g4 0).bool) then some (some 0, [.i 3]) else (bif (ltI 0 (gi d 3).int) then (bif (inI ((gi d 3).int - 1)) then (bif ((nnI ((gi d 3).int - 1)) && (ltI ((gi d 3).int - 1) (((gi d 0).rows.length : Nat) : Int))) then (callF (F_r2_SpotOrder [.l [(gEta KSpot ((gi d 0).rows.getD (((gi d 3).int - 1).toNat) []))], .l [(gEta KSpot ((gi d 1).rows.getD (((gi d 3).int).toNat) []))]]) fun g5 => (bif (leI 0 (gi g5 0).int) then some (some 0, [.i 7]) else (bif (inI ((gi d 3).int + 1)) then some (none, [.l (gi d 0).rows, .l (gi d 1).rows, .i (gi d 2).int, .i ((gi d 3).int + 1)]) else none))) else none) else none) else (bif (inI ((gi d 3).int + 1)) then some (none, [.l (gi d 0).rows, .l (gi d 1).rows, .i (gi d 2).int, .i ((gi d 3).int + 1)]) else none)))))))))) else none) else some (some 1, []))
def l_r2_SpotsFault_4 : LSpec := ⟨4, [], ⟨51, [(0, .s (.list KSpot)), (8, .s (.list KSpot)), (9, .s (.int .i64)), (10, .s (.int .i64))], []⟩, [], [⟨.ret, ⟨51, [(2, .s (.int .i64))], []⟩, []⟩, ⟨.exit 0, ⟨51, [], []⟩, []⟩], st_r2_SpotsFault_4⟩
theorem r_r2_SpotsFault_4 : RoundOK P t57 nL0 0 (loopAt Tryz.f30 4) l_r2_SpotsFault_4 := fun d => by kernel_rfl
def L_r2_SpotsFault_4 : LT := nL0.add 0 l_r2_SpotsFault_4
theorem L_r2_SpotsFault_4_ok : LpK P 0 L_r2_SpotsFault_4 (bodyOf Tryz.f30) := LpK.a hm t57_ok (nLk _ _ _) r_r2_SpotsFault_4
def F_r2_SpotsFault (d : List G) : Option (List G) :=
 (bif (ltI 2000 (((gi d 0).rows.length : Nat) : Int)) then some [.i 2] else (loopB true (LRun st_r2_SpotsFault_4 [.l (gi d 0).rows, .l (gi d 0).rows, .i (((gi d 0).rows.length : Nat) : Int), .i 0]) fun cg6 g6 => (bif Nat.beq cg6 0 then some [.i (gi g6 0).int] else some [.i 0])))
def s_r2_SpotsFault : FSpec := ⟨30, [.s (.list KSpot)], [], [], [.s (.int .i64)], [], [], [], F_r2_SpotsFault⟩
theorem b_r2_SpotsFault : BodyOK P t57 L_r2_SpotsFault_4 Tryz.f30 s_r2_SpotsFault := fun d => by kernel_rfl
theorem c_r2_SpotsFault : COK P s_r2_SpotsFault := bdC hm t57_ok Tryz.func30 L_r2_SpotsFault_4_ok b_r2_SpotsFault
def t58 : Tab := t57.addP s_r2_SpotsFault
theorem t58_ok : TabOK P t58 := t57_ok.aP c_r2_SpotsFault

def st_mk_RightSpots_2 (d : List G) : Option (Option Nat × List G) :=
 (bif (ltI (gi d 3).int 5) then (callF (F_mk_Spots [.l (gi d 0).rows, .i (gi d 1).int, .i (gi d 2).int]) fun g1 => (callF (F_r2_SpotsFault [.l (gi g1 2).rows]) fun g2 => (bif ((gi g2 0).int == 0) then some (some 0, [.l (gi g1 0).rows, .i (gi g1 1).int, .l (gi g1 2).rows]) else (bif (inI ((gi d 3).int + 1)) then some (none, [.l (gi g1 0).rows, .i (gi g1 1).int, .i (gi d 2).int, .i ((gi d 3).int + 1)]) else none)))) else some (some 1, [.l (gi d 0).rows, .i (gi d 1).int]))
def l_mk_RightSpots_2 : LSpec := ⟨2, [], ⟨16, [(0, .s (.ptr 0 0)), (1, .s (.int .i64)), (6, .s (.int .i64))], [.box [.list [.int .i64], .int .i64]]⟩, [.fix 0], [⟨.ret, ⟨16, [(4, .s (.list KSpot))], [.box [.list [.int .i64], .int .i64]]⟩, [.fix 0]⟩, ⟨.exit 0, ⟨16, [], [.box [.list [.int .i64], .int .i64]]⟩, [.fix 0]⟩], st_mk_RightSpots_2⟩
theorem r_mk_RightSpots_2 : RoundOK P t58 nL0 1 (loopAt Tryz.f6 2) l_mk_RightSpots_2 := fun d => by kernel_rfl
def L_mk_RightSpots_2 : LT := nL0.add 1 l_mk_RightSpots_2
theorem L_mk_RightSpots_2_ok : LpK P 1 L_mk_RightSpots_2 (bodyOf Tryz.f6) := LpK.a hm t58_ok (nLk _ _ _) r_mk_RightSpots_2
def F_mk_RightSpots (d : List G) : Option (List G) :=
 (loopB true (LRun st_mk_RightSpots_2 [.l (gi d 0).rows, .i (gi d 1).int, .i (gi d 2).int, .i 0]) fun cg3 g3 => (bif Nat.beq cg3 0 then some [.l (gi g3 0).rows, .i (gi g3 1).int, .l (gi g3 2).rows] else some [.l (gi g3 0).rows, .i (gi g3 1).int, .l []]))
def s_mk_RightSpots : FSpec := ⟨6, [.s (.ptr 0 0), .s (.int .i64)], [.box [.list [.int .i64], .int .i64]], [.slot 0], [.s (.list KSpot)], [.box [.list [.int .i64], .int .i64]], [.fix 0], [], F_mk_RightSpots⟩
theorem b_mk_RightSpots : BodyOK P t58 L_mk_RightSpots_2 Tryz.f6 s_mk_RightSpots := fun d => by kernel_rfl
theorem c_mk_RightSpots : COK P s_mk_RightSpots := bdC hm t58_ok Tryz.func6 L_mk_RightSpots_2_ok b_mk_RightSpots
def t59 : Tab := t58.addW s_mk_RightSpots
theorem t59_ok : TabOK P t59 := t58_ok.aW c_mk_RightSpots

def st_k2_parts_Spot_3 (d : List G) : Option (Option Nat × List G) :=
 (bif (ltI (gi d 6).int (gi d 5).int) then (bif ((nnI (gi d 6).int) && (ltI (gi d 6).int (((gi d 4).rows.length : Nat) : Int))) then (callF (F_mk_Next [.l (gi d 0).rows, .i (gi d 1).int, .i 3]) fun g1 => (bif ((gi g1 2).int == 0) then (bif ((Nat.beq (gi d 2).rows.length (gi d 2).rows.length) && (decide (((gi d 2).rows.length + 1) ≤ 1048576))) then (bif (inI ((gi d 6).int + 1)) then (bif ((Nat.beq ((gi d 2).rows ++ ([(gEta KSpot ((gi d 4).rows.getD (((gi d 6).int).toNat) []))] : List (List G))).length ((gi d 2).rows ++ ([(gEta KSpot ((gi d 4).rows.getD (((gi d 6).int).toNat) []))] : List (List G))).length) && ((Nat.beq (gi d 3).rows.length (gi d 3).rows.length) && true)) then some (none, [.l (gi g1 0).rows, .i (gi g1 1).int, .l ((gi d 2).rows ++ ([(gEta KSpot ((gi d 4).rows.getD (((gi d 6).int).toNat) []))] : List (List G))), .l (gi d 3).rows, .l (gi d 4).rows, .i (gi d 5).int, .i ((gi d 6).int + 1)]) else none) else none) else none) else (bif ((gi g1 2).int == 1) then (bif ((Nat.beq (gi d 3).rows.length (gi d 3).rows.length) && (decide (((gi d 3).rows.length + 1) ≤ 1048576))) then (bif (inI ((gi d 6).int + 1)) then (bif ((Nat.beq (gi d 2).rows.length (gi d 2).rows.length) && ((Nat.beq ((gi d 3).rows ++ ([(gEta KSpot ((gi d 4).rows.getD (((gi d 6).int).toNat) []))] : List (List G))).length ((gi d 3).rows ++ ([(gEta KSpot ((gi d 4).rows.getD (((gi d 6).int).toNat) []))] : List (List G))).length) && true)) then some (none, [.l (gi g1 0).rows, .i (gi g1 1).int, .l (gi d 2).rows, .l ((gi d 3).rows ++ ([(gEta KSpot ((gi d 4).rows.getD (((gi d 6).int).toNat) []))] : List (List G))), .l (gi d 4).rows, .i (gi d 5).int, .i ((gi d 6).int + 1)]) else none) else none) else none) else (bif ((Nat.beq (gi d 2).rows.length (gi d 2).rows.length) && (decide (((gi d 2).rows.length + 1) ≤ 1048576))) then (bif ((Nat.beq (gi d 3).rows.length (gi d 3).rows.length) && (decide (((gi d 3).rows.length + 1) ≤ 1048576))) then (bif (inI ((gi d 6).int + 1)) then (bif ((Nat.beq ((gi d 2).rows ++ ([(gEta KSpot ((gi d 4).rows.getD (((gi d 6).int).toNat) []))] : List (List G))).length ((gi d 2).rows ++ ([(gEta KSpot ((gi d 4).rows.getD (((gi d 6).int).toNat) []))] : List (List G))).length) && ((Nat.beq ((gi d 3).rows ++ ([(gEta KSpot ((gi d 4).rows.getD (((gi d 6).int).toNat) []))] : List (List G))).length ((gi d 3).rows ++ ([(gEta KSpot ((gi d 4).rows.getD (((gi d 6).int).toNat) []))] : List (List G))).length) && true)) then some (none, [.l (gi g1 0).rows, .i (gi g1 1).int, .l ((gi d 2).rows ++ ([(gEta KSpot ((gi d 4).rows.getD (((gi d 6).int).toNat) []))] : List (List G))), .l ((gi d 3).rows ++ ([(gEta KSpot ((gi d 4).rows.getD (((gi d 6).int).toNat) []))] : List (List G))), .l (gi d 4).rows, .i (gi d 5).int, .i ((gi d 6).int + 1)]) else none) else none) else none) else none)))) else none) else (bif ((Nat.beq (gi d 2).rows.length (gi d 2).rows.length) && ((Nat.beq (gi d 3).rows.length (gi d 3).rows.length) && true)) then some (some 0, [.l (gi d 0).rows, .i (gi d 1).int, .l (gi d 2).rows, .l (gi d 3).rows]) else none))
def l_k2_parts_Spot_3 : LSpec := ⟨3, [(6, KSpot), (7, KSpot)], ⟨41, [(0, .s (.ptr 0 0)), (6, .s (.vec 1 4)), (7, .s (.vec 2 4)), (10, .s (.list KSpot)), (11, .s (.int .i64)), (12, .s (.int .i64))], [.box [.list [.int .i64], .int .i64], .vec KSpot 0, .vec KSpot 0]⟩, [.fix 0, .slot 6, .slot 7], [⟨.exit 0, ⟨41, [(6, .s (.vec 1 4)), (7, .s (.vec 2 4))], [.box [.list [.int .i64], .int .i64], .vec KSpot 0, .vec KSpot 0]⟩, [.fix 0, .slot 6, .slot 7]⟩], st_k2_parts_Spot_3⟩
theorem r_k2_parts_Spot_3 : RoundOK P t59 nL0 1 (loopAt Tryz.f8 3) l_k2_parts_Spot_3 := fun d => by kernel_rfl
def L_k2_parts_Spot_3 : LT := nL0.add 1 l_k2_parts_Spot_3
theorem L_k2_parts_Spot_3_ok : LpK P 1 L_k2_parts_Spot_3 (bodyOf Tryz.f8) := LpK.a hm t59_ok (nLk _ _ _) r_k2_parts_Spot_3
def F_k2_parts_Spot (d : List G) : Option (List G) :=
 (loopB true (LRun st_k2_parts_Spot_3 [.l (gi d 0).rows, .i (gi d 1).int, .l [], .l [], .l (gi d 2).rows, .i (((gi d 2).rows.length : Nat) : Int), .i 0]) fun cg2 g2 => (bif ((Nat.beq (gi g2 2).rows.length (gi g2 2).rows.length) && ((Nat.beq (gi g2 3).rows.length (gi g2 3).rows.length) && true)) then some [.l (gi g2 0).rows, .i (gi g2 1).int, .l (gi g2 2).rows, .l (gi g2 3).rows] else none))
def s_k2_parts_Spot : FSpec := ⟨8, [.s (.ptr 0 0), .s (.list KSpot)], [.box [.list [.int .i64], .int .i64]], [.slot 0], [.s (.list KSpot), .s (.list KSpot)], [.box [.list [.int .i64], .int .i64]], [.fix 0], [], F_k2_parts_Spot⟩
theorem b_k2_parts_Spot : BodyOK P t59 L_k2_parts_Spot_3 Tryz.f8 s_k2_parts_Spot := fun d => by kernel_rfl
theorem c_k2_parts_Spot : COK P s_k2_parts_Spot := bdC hm t59_ok Tryz.func8 L_k2_parts_Spot_3_ok b_k2_parts_Spot
def t60 : Tab := t59.addW s_k2_parts_Spot
theorem t60_ok : TabOK P t60 := t59_ok.aW c_k2_parts_Spot

def F_band_compareSpots (d : List G) : Option (List G) :=
 (callF (F_cmp_Compare_int [.i (gi (gi d 0).row 0).int, .i (gi (gi d 1).row 0).int]) fun g1 => (callF (F_cmp_Compare_int [.i (gi (gi d 0).row 1).int, .i (gi (gi d 1).row 1).int]) fun g2 => (callF (F_strings_Compare [.s (gi (gi d 0).row 2).str, .s (gi (gi d 1).row 2).str]) fun g3 => (callF (F_strings_Compare [.s (gi (gi d 0).row 3).str, .s (gi (gi d 1).row 3).str]) fun g4 => (callF (F_cmp_Or_int [.l [[.i (gi g1 0).int], [.i (gi g2 0).int], [.i (gi g3 0).int], [.i (gi g4 0).int]]]) fun g5 => some [.i (gi g5 0).int])))))
def s_band_compareSpots : FSpec := ⟨35, [.s (.row KSpot), .s (.row KSpot)], [], [], [.s (.int .i64)], [], [], [], F_band_compareSpots⟩
theorem b_band_compareSpots : BodyOK P t60 nL0 Tryz.f35 s_band_compareSpots := fun d => by kernel_rfl
theorem c_band_compareSpots : COK P s_band_compareSpots := bdC hm t60_ok Tryz.func35 (nLk _ _ _) b_band_compareSpots
def t61 : Tab := t60.addP s_band_compareSpots
theorem t61_ok : TabOK P t61 := t60_ok.aP c_band_compareSpots

def st_band_CheckSpots_4 (d : List G) : Option (Option Nat × List G) :=
 (bif (ltI (gi d 3).int (gi d 2).int) then (bif ((nnI (gi d 3).int) && (ltI (gi d 3).int (((gi d 1).rows.length : Nat) : Int))) then (callF (F_kit_IsMoment [.i (gi ((gi d 1).rows.getD (((gi d 3).int).toNat) []) 0).int]) fun g1 => (bif (!(gi g1 0).bool) then some (some 0, [.i 1]) else (callF (F_kit_Outside [.i (gi ((gi d 1).rows.getD (((gi d 3).int).toNat) []) 1).int, .i 0, .i 30000000000]) fun g2 => (bif (gi g2 0).bool then some (some 0, [.i 1]) else (callF (F_call_Is [.s (gi ((gi d 1).rows.getD (((gi d 3).int).toNat) []) 2).str]) fun g3 => (bif (!(gi g3 0).bool) then some (some 0, [.i 3]) else (callF (F_call_Is [.s (gi ((gi d 1).rows.getD (((gi d 3).int).toNat) []) 3).str]) fun g4 => (bif (!(gi g4 0).bool) then some (some 0, [.i 3]) else (bif (ltI 0 (gi d 3).int) then (bif (inI ((gi d 3).int - 1)) then (bif ((nnI ((gi d 3).int - 1)) && (ltI ((gi d 3).int - 1) (((gi d 0).rows.length : Nat) : Int))) then (callF (F_band_compareSpots [.l [(gEta KSpot ((gi d 0).rows.getD (((gi d 3).int - 1).toNat) []))], .l [(gEta KSpot ((gi d 1).rows.getD (((gi d 3).int).toNat) []))]]) fun g5 => (bif (leI 0 (gi g5 0).int) then some (some 0, [.i 7]) else (bif (inI ((gi d 3).int + 1)) then some (none, [.l (gi d 0).rows, .l (gi d 1).rows, .i (gi d 2).int, .i ((gi d 3).int + 1)]) else none))) else none) else none) else (bif (inI ((gi d 3).int + 1)) then some (none, [.l (gi d 0).rows, .l (gi d 1).rows, .i (gi d 2).int, .i ((gi d 3).int + 1)]) else none)))))))))) else none) else some (some 1, []))
def l_band_CheckSpots_4 : LSpec := ⟨4, [], ⟨50, [(0, .s (.list KSpot)), (8, .s (.list KSpot)), (9, .s (.int .i64)), (10, .s (.int .i64))], []⟩, [], [⟨.ret, ⟨50, [(2, .s (.int .i64))], []⟩, []⟩, ⟨.exit 0, ⟨50, [], []⟩, []⟩], st_band_CheckSpots_4⟩
theorem r_band_CheckSpots_4 : RoundOK P t61 nL0 0 (loopAt Tryz.f32 4) l_band_CheckSpots_4 := fun d => by kernel_rfl
def L_band_CheckSpots_4 : LT := nL0.add 0 l_band_CheckSpots_4
theorem L_band_CheckSpots_4_ok : LpK P 0 L_band_CheckSpots_4 (bodyOf Tryz.f32) := LpK.a hm t61_ok (nLk _ _ _) r_band_CheckSpots_4
def F_band_CheckSpots (d : List G) : Option (List G) :=
 (bif (ltI 2000 (((gi d 0).rows.length : Nat) : Int)) then some [.i 2] else (loopB true (LRun st_band_CheckSpots_4 [.l (gi d 0).rows, .l (gi d 0).rows, .i (((gi d 0).rows.length : Nat) : Int), .i 0]) fun cg6 g6 => (bif Nat.beq cg6 0 then some [.i (gi g6 0).int] else some [.i 0])))
def s_band_CheckSpots : FSpec := ⟨32, [.s (.list KSpot)], [], [], [.s (.int .i64)], [], [], [], F_band_CheckSpots⟩
theorem b_band_CheckSpots : BodyOK P t61 L_band_CheckSpots_4 Tryz.f32 s_band_CheckSpots := fun d => by kernel_rfl
theorem c_band_CheckSpots : COK P s_band_CheckSpots := bdC hm t61_ok Tryz.func32 L_band_CheckSpots_4_ok b_band_CheckSpots
def t62 : Tab := t61.addP s_band_CheckSpots
theorem t62_ok : TabOK P t62 := t61_ok.aP c_band_CheckSpots

def F_sl_Grow_Spot_f (d : List G) : Option (List G) :=
 (bif (ltI (gi d 0).int 0) then none else (bif (inI ((gi d 0).int - 0)) then (bif (ltI 0 ((gi d 0).int - 0)) then (bif ((ltI 0 ((gi d 0).int - 0)) && (leI ((gi d 0).int - 0) 1048576)) then (bif (leI 0 ((((gi d 0).int - 0).toNat : Nat) : Int)) then (bif ((Nat.ble 0 (List.replicate (((gi d 0).int - 0).toNat) ([.i 0, .i 0, .s (⟨#[]⟩ : ByteArray), .s (⟨#[]⟩ : ByteArray)] : List G)).length) && true) then some [.l ((List.replicate (((gi d 0).int - 0).toNat) ([.i 0, .i 0, .s (⟨#[]⟩ : ByteArray), .s (⟨#[]⟩ : ByteArray)] : List G)).take 0)] else none) else none) else none) else some [.l []]) else none))
def s_sl_Grow_Spot_f : FSpec := ⟨84, [.s (.nil), .s (.int .i64)], [], [], [.s (.vec 0 4)], [.vec KSpot 0], [.slot 0], [(4, KSpot)], F_sl_Grow_Spot_f⟩
theorem b_sl_Grow_Spot_f : BodyOK P t62 (nL0.hinted [(6, [.trunc 0])]) Tryz.f84 s_sl_Grow_Spot_f := fun d => by kernel_rfl
theorem c_sl_Grow_Spot_f : COK P s_sl_Grow_Spot_f := bdC hm t62_ok Tryz.func84 (hinted_ok _) b_sl_Grow_Spot_f
def t63 : Tab := t62.addW s_sl_Grow_Spot_f
theorem t63_ok : TabOK P t63 := t62_ok.aW c_sl_Grow_Spot_f

def st_sl_Concat_Spot_f_3 (d : List G) : Option (Option Nat × List G) :=
 (bif (ltI (gi d 4).int (gi d 3).int) then (bif ((nnI (gi d 4).int) && (ltI (gi d 4).int (((gi d 2).rows.length : Nat) : Int))) then (bif (inI ((gi d 1).int + (((gi ((gi d 2).rows.getD (((gi d 4).int).toNat) []) 0).rows.length : Nat) : Int))) then (bif (ltI ((gi d 1).int + (((gi ((gi d 2).rows.getD (((gi d 4).int).toNat) []) 0).rows.length : Nat) : Int)) 0) then none else (bif (inI ((gi d 4).int + 1)) then some (none, [.l (gi d 0).rows, .i ((gi d 1).int + (((gi ((gi d 2).rows.getD (((gi d 4).int).toNat) []) 0).rows.length : Nat) : Int)), .l (gi d 2).rows, .i (gi d 3).int, .i ((gi d 4).int + 1)]) else none)) else none) else none) else some (some 0, [.l (gi d 0).rows, .i (gi d 1).int]))
def l_sl_Concat_Spot_f_3 : LSpec := ⟨3, [], ⟨36, [(0, .s (.list [.list KSpot])), (3, .s (.int .i64)), (9, .s (.list [.list KSpot])), (10, .s (.int .i64)), (11, .s (.int .i64))], []⟩, [], [⟨.exit 0, ⟨36, [(0, .s (.list [.list KSpot])), (3, .s (.int .i64))], []⟩, []⟩], st_sl_Concat_Spot_f_3⟩
theorem r_sl_Concat_Spot_f_3 : RoundOK P t63 nL0 0 (loopAt Tryz.f33 3) l_sl_Concat_Spot_f_3 := fun d => by kernel_rfl
def L_sl_Concat_Spot_f_3 : LT := nL0.add 0 l_sl_Concat_Spot_f_3
theorem L_sl_Concat_Spot_f_3_ok : LpK P 0 L_sl_Concat_Spot_f_3 (bodyOf Tryz.f33) := LpK.a hm t63_ok (nLk _ _ _) r_sl_Concat_Spot_f_3
def st_sl_Concat_Spot_f_11 (d : List G) : Option (Option Nat × List G) :=
 (bif (ltI (gi d 3).int (gi d 2).int) then (bif ((nnI (gi d 3).int) && (ltI (gi d 3).int (((gi d 1).rows.length : Nat) : Int))) then (bif ((Nat.beq (gi d 0).rows.length (gi d 0).rows.length) && (decide (((gi d 0).rows.length + (gi ((gi d 1).rows.getD (((gi d 3).int).toNat) []) 0).rows.length) ≤ 1048576))) then (bif (inI ((gi d 3).int + 1)) then (bif ((Nat.beq ((gi d 0).rows ++ (gi ((gi d 1).rows.getD (((gi d 3).int).toNat) []) 0).rows).length ((gi d 0).rows ++ (gi ((gi d 1).rows.getD (((gi d 3).int).toNat) []) 0).rows).length) && true) then some (none, [.l ((gi d 0).rows ++ (gi ((gi d 1).rows.getD (((gi d 3).int).toNat) []) 0).rows), .l (gi d 1).rows, .i (gi d 2).int, .i ((gi d 3).int + 1)]) else none) else none) else none) else none) else (bif ((Nat.beq (gi d 0).rows.length (gi d 0).rows.length) && true) then some (some 0, [.l (gi d 0).rows]) else none))
def l_sl_Concat_Spot_f_11 : LSpec := ⟨11, [], ⟨36, [(6, .s (.vec 0 4)), (25, .s (.list [.list KSpot])), (26, .s (.int .i64)), (27, .s (.int .i64))], [.vec KSpot 0]⟩, [.slot 6], [⟨.exit 2, ⟨36, [(6, .s (.vec 0 4))], [.vec KSpot 0]⟩, [.slot 6]⟩], st_sl_Concat_Spot_f_11⟩
theorem r_sl_Concat_Spot_f_11 : RoundOK P t63 L_sl_Concat_Spot_f_3 0 (loopAt Tryz.f33 11) l_sl_Concat_Spot_f_11 := fun d => by kernel_rfl
def L_sl_Concat_Spot_f_11 : LT := L_sl_Concat_Spot_f_3.add 0 l_sl_Concat_Spot_f_11
theorem L_sl_Concat_Spot_f_11_ok : LpK P 0 L_sl_Concat_Spot_f_11 (bodyOf Tryz.f33) := LpK.a hm t63_ok L_sl_Concat_Spot_f_3_ok r_sl_Concat_Spot_f_11
def F_sl_Concat_Spot_f (d : List G) : Option (List G) :=
 (loopB true (LRun st_sl_Concat_Spot_f_3 [.l (gi d 0).rows, .i 0, .l (gi d 0).rows, .i (((gi d 0).rows.length : Nat) : Int), .i 0]) fun cg1 g1 => (callF (F_sl_Grow_Spot_f [.i (gi g1 1).int]) fun g2 => (loopB ((Nat.beq (gi g2 0).rows.length (gi g2 0).rows.length) && true) (LRun st_sl_Concat_Spot_f_11 [.l (gi g2 0).rows, .l (gi g1 0).rows, .i (((gi g1 0).rows.length : Nat) : Int), .i 0]) fun cg3 g3 => (bif ((Nat.beq (gi g3 0).rows.length (gi g3 0).rows.length) && true) then some [.l (gi g3 0).rows] else none))))
def s_sl_Concat_Spot_f : FSpec := ⟨33, [.s (.list [.list KSpot])], [], [], [.s (.vec 0 4)], [.vec KSpot 0], [.slot 0], [], F_sl_Concat_Spot_f⟩
theorem b_sl_Concat_Spot_f : BodyOK P t63 L_sl_Concat_Spot_f_11 Tryz.f33 s_sl_Concat_Spot_f := fun d => by kernel_rfl
theorem c_sl_Concat_Spot_f : COK P s_sl_Concat_Spot_f := bdC hm t63_ok Tryz.func33 L_sl_Concat_Spot_f_11_ok b_sl_Concat_Spot_f
def t64 : Tab := t63.addW s_sl_Concat_Spot_f
theorem t64_ok : TabOK P t64 := t63_ok.aW c_sl_Concat_Spot_f

def F_sl_SortFunc_Spot (d : List G) : Option (List G) :=
 sortG F_band_compareSpots d
def s_sl_SortFunc_Spot : FSpec := ⟨34, [.s (.vec 0 4), .s (.fn 35)], [.vec KSpot 0], [.slot 0], [], [.vec KSpot 0], [.fix 0], [], F_sl_SortFunc_Spot⟩
theorem c_sl_SortFunc_Spot : ∀ d r, F_sl_SortFunc_Spot d = some r → ACallX P 34 (s_sl_SortFunc_Spot.args0 d) (denH (s_sl_SortFunc_Spot.H0 d)) (s_sl_SortFunc_Spot.out r) (denH (s_sl_SortFunc_Spot.H1 r)) := fun d r h => sortK_call Tryz.laysSort34 KSpot (by kernel_rfl) Tryz.isAgg32 Tryz.sizeOf32 35 (by kernel_rfl) F_band_compareSpots (fun d r h => c_band_compareSpots d r h) d r h
def t65 : Tab := t64.addW s_sl_SortFunc_Spot
theorem t65_ok : TabOK P t65 := t64_ok.aW c_sl_SortFunc_Spot

def st_band_Merge_2 (d : List G) : Option (Option Nat × List G) :=
 (bif (ltI (gi d 4).int (gi d 3).int) then (bif ((nnI (gi d 4).int) && (ltI (gi d 4).int (((gi d 2).rows.length : Nat) : Int))) then (callF (F_band_CheckSpots [.l (gi ((gi d 2).rows.getD (((gi d 4).int).toNat) []) 0).rows]) fun g1 => (bif ((gi g1 0).int != 0) then some (some 0, [.l [], .i (gi g1 0).int]) else (bif (inI ((gi d 4).int + 1)) then some (none, [.l (gi d 0).rows, .l (gi d 1).rows, .l (gi d 2).rows, .i (gi d 3).int, .i ((gi d 4).int + 1)]) else none))) else none) else some (some 1, [.l (gi d 0).rows, .l (gi d 1).rows]))
def l_band_Merge_2 : LSpec := ⟨2, [], ⟨36, [(0, .s (.list KSpot)), (1, .s (.list KSpot)), (12, .s (.list [.list KSpot])), (13, .s (.int .i64)), (14, .s (.int .i64))], []⟩, [], [⟨.ret, ⟨36, [(4, .s (.list KSpot)), (5, .s (.int .i64))], []⟩, []⟩, ⟨.exit 0, ⟨36, [(0, .s (.list KSpot)), (1, .s (.list KSpot))], []⟩, []⟩], st_band_Merge_2⟩
theorem r_band_Merge_2 : RoundOK P t65 nL0 0 (loopAt Tryz.f9 2) l_band_Merge_2 := fun d => by kernel_rfl
def L_band_Merge_2 : LT := nL0.add 0 l_band_Merge_2
theorem L_band_Merge_2_ok : LpK P 0 L_band_Merge_2 (bodyOf Tryz.f9) := LpK.a hm t65_ok (nLk _ _ _) r_band_Merge_2
def F_band_Merge (d : List G) : Option (List G) :=
 (loopB true (LRun st_band_Merge_2 [.l (gi d 0).rows, .l (gi d 1).rows, .l [[.l (gi d 0).rows], [.l (gi d 1).rows]], .i 2, .i 0]) fun cg2 g2 => (bif Nat.beq cg2 0 then some [.l (gi g2 0).rows, .i (gi g2 1).int] else (callF (F_sl_Concat_Spot_f [.l [[.l (gi g2 0).rows], [.l (gi g2 1).rows]]]) fun g3 => (callB (((Nat.beq (gi g3 0).rows.length (gi g3 0).rows.length) && true) && (F_sl_SortFunc_Spot [.l (gi g3 0).rows]).isSome) (F_sl_SortFunc_Spot [.l (gi g3 0).rows]) fun g4 => (callB (((Nat.beq (gi g3 0).rows.length (gi g4 0).rows.length) && true) && (F_sl_Compact_Spot [.l (gi g4 0).rows]).isSome) (F_sl_Compact_Spot [.l (gi g4 0).rows]) fun g5 => (bif (ltI 2000 (((gi g5 1).int.toNat : Nat) : Int)) then some [.l [], .i 2] else (bif ((Nat.ble (gi g5 1).int.toNat (gi g5 0).rows.length) && true) then some [.l ((gi g5 0).rows.take ((gi g5 1).int.toNat)), .i 0] else none)))))))
def s_band_Merge : FSpec := ⟨9, [.s (.list KSpot), .s (.list KSpot)], [], [], [.s (.lpre KSpot), .s (.int .i64)], [], [], [], F_band_Merge⟩
theorem b_band_Merge : BodyOK P t65 L_band_Merge_2 Tryz.f9 s_band_Merge := fun d => by kernel_rfl
theorem c_band_Merge : COK P s_band_Merge := bdC hm t65_ok Tryz.func9 L_band_Merge_2_ok b_band_Merge
def t66 : Tab := t65.addP s_band_Merge
theorem t66_ok : TabOK P t66 := t65_ok.aP c_band_Merge

def F_stringslite_HasSuffix (d : List G) : Option (List G) :=
 (bif (leI (((gi d 1).str.size : Nat) : Int) (((gi d 0).str.size : Nat) : Int)) then (bif (inI ((((gi d 0).str.size : Nat) : Int) - (((gi d 1).str.size : Nat) : Int))) then (bif ((nnI ((((gi d 0).str.size : Nat) : Int) - (((gi d 1).str.size : Nat) : Int))) && (leI ((((gi d 0).str.size : Nat) : Int) - (((gi d 1).str.size : Nat) : Int)) (((gi d 0).str.size : Nat) : Int))) then some [.t (((gi d 0).str.extract ((((gi d 0).str.size : Nat) : Int) - (((gi d 1).str.size : Nat) : Int)).toNat (gi d 0).str.size).toList == (gi d 1).str.toList)] else none) else none) else some [.t false])
def s_stringslite_HasSuffix : FSpec := ⟨211, [.s (.str), .s (.str)], [], [], [.s (.bool)], [], [], [], F_stringslite_HasSuffix⟩
theorem b_stringslite_HasSuffix : BodyOK P t66 nL0 Tryz.f211 s_stringslite_HasSuffix := fun d => by kernel_rfl
theorem c_stringslite_HasSuffix : COK P s_stringslite_HasSuffix := bdC hm t66_ok Tryz.func211 (nLk _ _ _) b_stringslite_HasSuffix
def t67 : Tab := t66.addP s_stringslite_HasSuffix
theorem t67_ok : TabOK P t67 := t66_ok.aP c_stringslite_HasSuffix

def F_stringslite_CutSuffix (d : List G) : Option (List G) :=
 (callF (F_stringslite_HasSuffix [.s (gi d 0).str, .s (gi d 1).str]) fun g1 => (bif (!(gi g1 0).bool) then some [.s (gi d 0).str, .t false] else (bif (inI ((((gi d 0).str.size : Nat) : Int) - (((gi d 1).str.size : Nat) : Int))) then (bif ((nnI ((((gi d 0).str.size : Nat) : Int) - (((gi d 1).str.size : Nat) : Int))) && (leI ((((gi d 0).str.size : Nat) : Int) - (((gi d 1).str.size : Nat) : Int)) (((gi d 0).str.size : Nat) : Int))) then some [.s ((gi d 0).str.extract 0 ((((gi d 0).str.size : Nat) : Int) - (((gi d 1).str.size : Nat) : Int)).toNat), .t true] else none) else none)))
def s_stringslite_CutSuffix : FSpec := ⟨152, [.s (.str), .s (.str)], [], [], [.s (.str), .s (.bool)], [], [], [], F_stringslite_CutSuffix⟩
theorem b_stringslite_CutSuffix : BodyOK P t67 nL0 Tryz.f152 s_stringslite_CutSuffix := fun d => by kernel_rfl
theorem c_stringslite_CutSuffix : COK P s_stringslite_CutSuffix := bdC hm t67_ok Tryz.func152 (nLk _ _ _) b_stringslite_CutSuffix
def t68 : Tab := t67.addP s_stringslite_CutSuffix
theorem t68_ok : TabOK P t68 := t67_ok.aP c_stringslite_CutSuffix

def F_strings_CutSuffix (d : List G) : Option (List G) :=
 (callF (F_stringslite_CutSuffix [.s (gi d 0).str, .s (gi d 1).str]) fun g1 => some [.s (gi g1 0).str, .t (gi g1 1).bool])
def s_strings_CutSuffix : FSpec := ⟨93, [.s (.str), .s (.str)], [], [], [.s (.str), .s (.bool)], [], [], [], F_strings_CutSuffix⟩
theorem b_strings_CutSuffix : BodyOK P t68 nL0 Tryz.f93 s_strings_CutSuffix := fun d => by kernel_rfl
theorem c_strings_CutSuffix : COK P s_strings_CutSuffix := bdC hm t68_ok Tryz.func93 (nLk _ _ _) b_strings_CutSuffix
def t69 : Tab := t68.addP s_strings_CutSuffix
theorem t69_ok : TabOK P t69 := t68_ok.aP c_strings_CutSuffix

def F_strings_genSplit (d : List G) : Option (List G) :=
 splitF d
def s_strings_genSplit : FSpec := ⟨153, [.s (.str), .s (.str), .s (.int .i64), .s (.int .i64)], [], [], [.s (.list [.str])], [], [], [], F_strings_genSplit⟩
theorem c_strings_genSplit : ∀ d r, F_strings_genSplit d = some r → ACallX P 153 (s_strings_genSplit.args0 d) (denH (s_strings_genSplit.H0 d)) (s_strings_genSplit.out r) (denH (s_strings_genSplit.H1 r)) := fun d r h => split_call Tryz.laysSplit (by kernel_rfl) d r h
def t70 : Tab := t69.addP s_strings_genSplit
theorem t70_ok : TabOK P t70 := t69_ok.aP c_strings_genSplit

def F_strings_Split (d : List G) : Option (List G) :=
 (callF (F_strings_genSplit [.s (gi d 0).str, .s (gi d 1).str, .i 0, .i (-1)]) fun g1 => some [.l (gi g1 0).rows])
def s_strings_Split : FSpec := ⟨94, [.s (.str), .s (.str)], [], [], [.s (.list [.str])], [], [], [], F_strings_Split⟩
theorem b_strings_Split : BodyOK P t70 nL0 Tryz.f94 s_strings_Split := fun d => by kernel_rfl
theorem c_strings_Split : COK P s_strings_Split := bdC hm t70_ok Tryz.func94 (nLk _ _ _) b_strings_Split
def t71 : Tab := t70.addP s_strings_Split
theorem t71_ok : TabOK P t71 := t70_ok.aP c_strings_Split

def F_kit_Lines (d : List G) : Option (List G) :=
 (bif ((gi d 0).str.toList == (⟨#[]⟩ : ByteArray).toList) then some [.l [], .t true] else (callF (F_strings_CutSuffix [.s (gi d 0).str, .s (⟨#[10]⟩ : ByteArray)]) fun g1 => (callF (F_strings_Split [.s (gi g1 0).str, .s (⟨#[10]⟩ : ByteArray)]) fun g2 => some [.l (gi g2 0).rows, .t (gi g1 1).bool])))
def s_kit_Lines : FSpec := ⟨42, [.s (.str)], [], [], [.s (.list [.str]), .s (.bool)], [], [], [], F_kit_Lines⟩
theorem b_kit_Lines : BodyOK P t71 nL0 Tryz.f42 s_kit_Lines := fun d => by kernel_rfl
theorem c_kit_Lines : COK P s_kit_Lines := bdC hm t71_ok Tryz.func42 (nLk _ _ _) b_kit_Lines
def t72 : Tab := t71.addP s_kit_Lines
theorem t72_ok : TabOK P t72 := t71_ok.aP c_kit_Lines

def st_kit_Words_3 (d : List G) : Option (Option Nat × List G) :=
 (bif (ltI (gi d 3).int (gi d 2).int) then (bif ((nnI (gi d 3).int) && (ltI (gi d 3).int (((gi d 1).rows.length : Nat) : Int))) then (bif ((gi ((gi d 1).rows.getD (((gi d 3).int).toNat) []) 0).str.toList == (⟨#[]⟩ : ByteArray).toList) then some (some 0, [.l [], .t false]) else (bif (inI ((gi d 3).int + 1)) then some (none, [.l (gi d 0).rows, .l (gi d 1).rows, .i (gi d 2).int, .i ((gi d 3).int + 1)]) else none)) else none) else some (some 1, [.l (gi d 0).rows]))
def l_kit_Words_3 : LSpec := ⟨3, [], ⟨19, [(4, .s (.list [.str])), (9, .s (.list [.str])), (10, .s (.int .i64)), (11, .s (.int .i64))], []⟩, [], [⟨.ret, ⟨19, [(2, .s (.list [.str])), (3, .s (.bool))], []⟩, []⟩, ⟨.exit 0, ⟨19, [(4, .s (.list [.str]))], []⟩, []⟩], st_kit_Words_3⟩
theorem r_kit_Words_3 : RoundOK P t72 nL0 0 (loopAt Tryz.f43 3) l_kit_Words_3 := fun d => by kernel_rfl
def L_kit_Words_3 : LT := nL0.add 0 l_kit_Words_3
theorem L_kit_Words_3_ok : LpK P 0 L_kit_Words_3 (bodyOf Tryz.f43) := LpK.a hm t72_ok (nLk _ _ _) r_kit_Words_3
def F_kit_Words (d : List G) : Option (List G) :=
 (callF (F_strings_Split [.s (gi d 0).str, .s (⟨#[32]⟩ : ByteArray)]) fun g1 => (loopB true (LRun st_kit_Words_3 [.l (gi g1 0).rows, .l (gi g1 0).rows, .i (((gi g1 0).rows.length : Nat) : Int), .i 0]) fun cg2 g2 => (bif Nat.beq cg2 0 then some [.l (gi g2 0).rows, .t (gi g2 1).bool] else some [.l (gi g2 0).rows, .t true])))
def s_kit_Words : FSpec := ⟨43, [.s (.str)], [], [], [.s (.list [.str]), .s (.bool)], [], [], [], F_kit_Words⟩
theorem b_kit_Words : BodyOK P t72 L_kit_Words_3 Tryz.f43 s_kit_Words := fun d => by kernel_rfl
theorem c_kit_Words : COK P s_kit_Words := bdC hm t72_ok Tryz.func43 L_kit_Words_3_ok b_kit_Words
def t73 : Tab := t72.addP s_kit_Words
theorem t73_ok : TabOK P t73 := t72_ok.aP c_kit_Words

def F_stringslite_HasPrefix (d : List G) : Option (List G) :=
 (bif (leI (((gi d 1).str.size : Nat) : Int) (((gi d 0).str.size : Nat) : Int)) then (bif ((nnI (((gi d 1).str.size : Nat) : Int)) && (leI (((gi d 1).str.size : Nat) : Int) (((gi d 0).str.size : Nat) : Int))) then some [.t (((gi d 0).str.extract 0 (gi d 1).str.size).toList == (gi d 1).str.toList)] else none) else some [.t false])
def s_stringslite_HasPrefix : FSpec := ⟨260, [.s (.str), .s (.str)], [], [], [.s (.bool)], [], [], [], F_stringslite_HasPrefix⟩
theorem b_stringslite_HasPrefix : BodyOK P t73 nL0 Tryz.f260 s_stringslite_HasPrefix := fun d => by kernel_rfl
theorem c_stringslite_HasPrefix : COK P s_stringslite_HasPrefix := bdC hm t73_ok Tryz.func260 (nLk _ _ _) b_stringslite_HasPrefix
def t74 : Tab := t73.addP s_stringslite_HasPrefix
theorem t74_ok : TabOK P t74 := t73_ok.aP c_stringslite_HasPrefix

def F_stringslite_CutPrefix (d : List G) : Option (List G) :=
 (callF (F_stringslite_HasPrefix [.s (gi d 0).str, .s (gi d 1).str]) fun g1 => (bif (!(gi g1 0).bool) then some [.s (gi d 0).str, .t false] else (bif ((nnI (((gi d 1).str.size : Nat) : Int)) && (leI (((gi d 1).str.size : Nat) : Int) (((gi d 0).str.size : Nat) : Int))) then some [.s ((gi d 0).str.extract (gi d 1).str.size (gi d 0).str.size), .t true] else none)))
def s_stringslite_CutPrefix : FSpec := ⟨215, [.s (.str), .s (.str)], [], [], [.s (.str), .s (.bool)], [], [], [], F_stringslite_CutPrefix⟩
theorem b_stringslite_CutPrefix : BodyOK P t74 nL0 Tryz.f215 s_stringslite_CutPrefix := fun d => by kernel_rfl
theorem c_stringslite_CutPrefix : COK P s_stringslite_CutPrefix := bdC hm t74_ok Tryz.func215 (nLk _ _ _) b_stringslite_CutPrefix
def t75 : Tab := t74.addP s_stringslite_CutPrefix
theorem t75_ok : TabOK P t75 := t74_ok.aP c_stringslite_CutPrefix

def F_strings_CutPrefix (d : List G) : Option (List G) :=
 (callF (F_stringslite_CutPrefix [.s (gi d 0).str, .s (gi d 1).str]) fun g1 => some [.s (gi g1 0).str, .t (gi g1 1).bool])
def s_strings_CutPrefix : FSpec := ⟨154, [.s (.str), .s (.str)], [], [], [.s (.str), .s (.bool)], [], [], [], F_strings_CutPrefix⟩
theorem b_strings_CutPrefix : BodyOK P t75 nL0 Tryz.f154 s_strings_CutPrefix := fun d => by kernel_rfl
theorem c_strings_CutPrefix : COK P s_strings_CutPrefix := bdC hm t75_ok Tryz.func154 (nLk _ _ _) b_strings_CutPrefix
def t76 : Tab := t75.addP s_strings_CutPrefix
theorem t76_ok : TabOK P t76 := t75_ok.aP c_strings_CutPrefix

def F_strconv_Atoi (d : List G) : Option (List G) :=
 atoiF d
def s_strconv_Atoi : FSpec := ⟨156, [.s (.str)], [], [], [.s (.int .i64), .s (.nilI)], [], [], [], F_strconv_Atoi⟩
theorem c_strconv_Atoi : ∀ d r, F_strconv_Atoi d = some r → ACallX P 156 (s_strconv_Atoi.args0 d) (denH (s_strconv_Atoi.H0 d)) (s_strconv_Atoi.out r) (denH (s_strconv_Atoi.H1 r)) := fun d r h => atoi_call Tryz.laysAtoi d r h
def t77 : Tab := t76.addP s_strconv_Atoi
theorem t77_ok : TabOK P t77 := t76_ok.aP c_strconv_Atoi

def F_kit_Number (d : List G) : Option (List G) :=
 (callF (F_strings_CutPrefix [.s (gi d 0).str, .s (⟨#[45]⟩ : ByteArray)]) fun g1 => (bif ((gi g1 0).str.toList == (⟨#[]⟩ : ByteArray).toList) then some [.i 0, .t false] else (bif (ltI (gi d 1).int (((gi g1 0).str.size : Nat) : Int)) then some [.i 0, .t false] else (callF (F_strings_Trim [.s (gi g1 0).str, .s (⟨#[48, 49, 50, 51, 52, 53, 54, 55, 56, 57]⟩ : ByteArray)]) fun g2 => (bif (!((gi g2 0).str.toList == (⟨#[]⟩ : ByteArray).toList)) then some [.i 0, .t false] else (bif (ltI 0 (((gi g1 0).str.size : Nat) : Int)) then (bif ((((gi g1 0).str.data.toList.getD 0 0).toNat : Int) == 48) then (bif (ltI 1 (((gi g1 0).str.size : Nat) : Int)) then some [.i 0, .t false] else (bif (gi g1 1).bool then some [.i 0, .t false] else (callF (F_strconv_Atoi [.s (gi g1 0).str]) fun g3 => (bif (gi g1 1).bool then (bif (inI (0 - (gi g3 0).int)) then some [.i (0 - (gi g3 0).int), .t true] else none) else some [.i (gi g3 0).int, .t true])))) else (callF (F_strconv_Atoi [.s (gi g1 0).str]) fun g4 => (bif (gi g1 1).bool then (bif (inI (0 - (gi g4 0).int)) then some [.i (0 - (gi g4 0).int), .t true] else none) else some [.i (gi g4 0).int, .t true]))) else none))))))
def s_kit_Number : FSpec := ⟨95, [.s (.str), .s (.int .i64)], [], [], [.s (.int .i64), .s (.bool)], [], [], [], F_kit_Number⟩
theorem b_kit_Number : BodyOK P t77 nL0 Tryz.f95 s_kit_Number := fun d => by kernel_rfl
theorem c_kit_Number : COK P s_kit_Number := bdC hm t77_ok Tryz.func95 (nLk _ _ _) b_kit_Number
def t78 : Tab := t77.addP s_kit_Number
theorem t78_ok : TabOK P t78 := t77_ok.aP c_kit_Number

def st_kit_Numbers_3 (d : List G) : Option (Option Nat × List G) :=
 (bif (ltI (gi d 3).int (gi d 2).int) then (bif ((nnI (gi d 3).int) && (ltI (gi d 3).int (((gi d 1).rows.length : Nat) : Int))) then (callF (F_kit_Number [.s (gi ((gi d 1).rows.getD (((gi d 3).int).toNat) []) 0).str, .i 15]) fun g1 => (bif (!(gi g1 1).bool) then some (some 0, [.l [], .t false]) else (bif ((Nat.beq (gi d 0).rows.length (gi d 0).rows.length) && (decide (((gi d 0).rows.length + 1) ≤ 1048576))) then (bif (inI ((gi d 3).int + 1)) then (bif ((Nat.beq ((gi d 0).rows ++ ([[.i (gi g1 0).int]] : List (List G))).length ((gi d 0).rows ++ ([[.i (gi g1 0).int]] : List (List G))).length) && true) then some (none, [.l ((gi d 0).rows ++ ([[.i (gi g1 0).int]] : List (List G))), .l (gi d 1).rows, .i (gi d 2).int, .i ((gi d 3).int + 1)]) else none) else none) else none))) else none) else (bif ((Nat.beq (gi d 0).rows.length (gi d 0).rows.length) && true) then some (some 1, [.l (gi d 0).rows]) else none))
def l_kit_Numbers_3 : LSpec := ⟨3, [(4, [.int .i64])], ⟨28, [(4, .s (.vec 0 1)), (9, .s (.list [.str])), (10, .s (.int .i64)), (11, .s (.int .i64))], [.vec [.int .i64] 0]⟩, [.slot 4], [⟨.ret, ⟨28, [(2, .s (.list [.int .i64])), (3, .s (.bool))], []⟩, []⟩, ⟨.exit 0, ⟨28, [(4, .s (.vec 0 1))], [.vec [.int .i64] 0]⟩, [.slot 4]⟩], st_kit_Numbers_3⟩
theorem r_kit_Numbers_3 : RoundOK P t78 nL0 0 (loopAt Tryz.f44 3) l_kit_Numbers_3 := fun d => by kernel_rfl
def L_kit_Numbers_3 : LT := nL0.add 0 l_kit_Numbers_3
theorem L_kit_Numbers_3_ok : LpK P 0 L_kit_Numbers_3 (bodyOf Tryz.f44) := LpK.a hm t78_ok (nLk _ _ _) r_kit_Numbers_3
def F_kit_Numbers (d : List G) : Option (List G) :=
 (loopB true (LRun st_kit_Numbers_3 [.l [], .l (gi d 0).rows, .i (((gi d 0).rows.length : Nat) : Int), .i 0]) fun cg2 g2 => (bif Nat.beq cg2 0 then some [.l (gi g2 0).rows, .t (gi g2 1).bool] else (bif ((Nat.beq (gi g2 0).rows.length (gi g2 0).rows.length) && true) then some [.l (gi g2 0).rows, .t true] else none)))
def s_kit_Numbers : FSpec := ⟨44, [.s (.list [.str])], [], [], [.s (.list [.int .i64]), .s (.bool)], [], [], [], F_kit_Numbers⟩
theorem b_kit_Numbers : BodyOK P t78 L_kit_Numbers_3 Tryz.f44 s_kit_Numbers := fun d => by kernel_rfl
theorem c_kit_Numbers : COK P s_kit_Numbers := bdC hm t78_ok Tryz.func44 L_kit_Numbers_3_ok b_kit_Numbers
def t79 : Tab := t78.addP s_kit_Numbers
theorem t79_ok : TabOK P t79 := t78_ok.aP c_kit_Numbers

def tl_band_Read_10 (d : List G) : Option (Option Nat × List G) :=
 (bif (gi d 8).bool then some (some 0, [.l [], .i (gi d 3).int, .i 9]) else (bif ((Nat.beq (gi d 0).rows.length (gi d 0).rows.length) && true) then some (some 1, [.l (gi d 0).rows, .l (gi d 1).rows, .t (gi d 2).bool, .i (gi d 3).int, .l (gi d 4).rows, .l (gi d 5).rows, .i (gi d 6).int, .i (gi d 7).int]) else none))
def l_band_Read_10c : LSpec := ⟨10, [], ⟨85, [(5, .s (.list [.str])), (6, .s (.bool)), (7, .s (.vec 0 4)), (8, .s (.int .i64)), (10, .s (.list [.str])), (22, .s (.list [.str])), (23, .s (.int .i64)), (24, .s (.int .i64)), (51, .s (.bool))], [.vec KSpot 0]⟩, [.slot 7], [⟨.ret, ⟨85, [(2, .s (.list KSpot)), (3, .s (.int .i64)), (4, .s (.int .i64))], []⟩, []⟩, ⟨.normal, ⟨85, [(5, .s (.list [.str])), (6, .s (.bool)), (7, .s (.vec 0 4)), (8, .s (.int .i64)), (10, .s (.list [.str])), (22, .s (.list [.str])), (23, .s (.int .i64)), (24, .s (.int .i64))], [.vec KSpot 0]⟩, [.slot 7]⟩], tl_band_Read_10⟩
theorem r_band_Read_10c : CutOK P (t79.lessPf [32]) nL0 0 (cutAt Tryz.f11 10) l_band_Read_10c := fun d => by kernel_rfl
def L_band_Read_10c : LT := nL0.addCut 0 l_band_Read_10c
theorem L_band_Read_10c_ok : LpK P 0 L_band_Read_10c (bodyOf Tryz.f11) := LpK.addCut hm (t79_ok.lessPf [32]) (by kernel_rfl) (nLk _ _ _) r_band_Read_10c
def st_band_Read_6 (d : List G) : Option (Option Nat × List G) :=
 (bif (ltI (gi d 5).int (gi d 4).int) then (bif ((nnI (gi d 5).int) && (ltI (gi d 5).int (((gi d 3).rows.length : Nat) : Int))) then (callF (F_kit_Words [.s (gi ((gi d 3).rows.getD (((gi d 5).int).toNat) []) 0).str]) fun g2 => (bif (!(gi g2 1).bool) then (loopB ((Nat.beq (gi d 0).rows.length (gi d 0).rows.length) && true) (cutR (tl_band_Read_10 [.l (gi d 0).rows, .l (gi d 1).rows, .t (gi d 2).bool, .i (gi d 5).int, .l (gi g2 0).rows, .l (gi d 3).rows, .i (gi d 4).int, .i (gi d 5).int, .t true])) fun cg3 g3 => (bif Nat.beq cg3 0 then some (some 0, [.l (gi g3 0).rows, .i (gi g3 1).int, .i (gi g3 2).int]) else (bif (leI 2 (((gi g3 4).rows.length : Nat) : Int)) then (callF (F_kit_Numbers [.l ((gi g3 4).rows.take 2)]) fun g4 => (bif (!(gi g4 1).bool) then some (some 0, [.l [], .i (gi g3 3).int, .i 9]) else (bif (ltI 0 (((gi g4 0).rows.length : Nat) : Int)) then (bif (ltI 1 (((gi g4 0).rows.length : Nat) : Int)) then (bif (ltI 2 (((gi g3 4).rows.length : Nat) : Int)) then (bif (ltI 3 (((gi g3 4).rows.length : Nat) : Int)) then (bif ((Nat.beq (gi g3 0).rows.length (gi g3 0).rows.length) && (decide (((gi g3 0).rows.length + 1) ≤ 1048576))) then (bif (inI ((gi g3 7).int + 1)) then (bif ((Nat.beq ((gi g3 0).rows ++ ([[.i (gi ((gi g4 0).rows.getD 0 []) 0).int, .i (gi ((gi g4 0).rows.getD 1 []) 0).int, .s (gi ((gi g3 4).rows.getD 2 []) 0).str, .s (gi ((gi g3 4).rows.getD 3 []) 0).str]] : List (List G))).length ((gi g3 0).rows ++ ([[.i (gi ((gi g4 0).rows.getD 0 []) 0).int, .i (gi ((gi g4 0).rows.getD 1 []) 0).int, .s (gi ((gi g3 4).rows.getD 2 []) 0).str, .s (gi ((gi g3 4).rows.getD 3 []) 0).str]] : List (List G))).length) && true) then some (none, [.l ((gi g3 0).rows ++ ([[.i (gi ((gi g4 0).rows.getD 0 []) 0).int, .i (gi ((gi g4 0).rows.getD 1 []) 0).int, .s (gi ((gi g3 4).rows.getD 2 []) 0).str, .s (gi ((gi g3 4).rows.getD 3 []) 0).str]] : List (List G))), .l (gi g3 1).rows, .t (gi g3 2).bool, .l (gi g3 5).rows, .i (gi g3 6).int, .i ((gi g3 7).int + 1)]) else none) else none) else none) else none) else none) else none) else none))) else none))) else (bif ((((gi g2 0).rows.length : Nat) : Int) != 4) then (loopB ((Nat.beq (gi d 0).rows.length (gi d 0).rows.length) && true) (cutR (tl_band_Read_10 [.l (gi d 0).rows, .l (gi d 1).rows, .t (gi d 2).bool, .i (gi d 5).int, .l (gi g2 0).rows, .l (gi d 3).rows, .i (gi d 4).int, .i (gi d 5).int, .t true])) fun cg5 g5 => (bif Nat.beq cg5 0 then some (some 0, [.l (gi g5 0).rows, .i (gi g5 1).int, .i (gi g5 2).int]) else (bif (leI 2 (((gi g5 4).rows.length : Nat) : Int)) then (callF (F_kit_Numbers [.l ((gi g5 4).rows.take 2)]) fun g6 => (bif (!(gi g6 1).bool) then some (some 0, [.l [], .i (gi g5 3).int, .i 9]) else (bif (ltI 0 (((gi g6 0).rows.length : Nat) : Int)) then (bif (ltI 1 (((gi g6 0).rows.length : Nat) : Int)) then (bif (ltI 2 (((gi g5 4).rows.length : Nat) : Int)) then (bif (ltI 3 (((gi g5 4).rows.length : Nat) : Int)) then (bif ((Nat.beq (gi g5 0).rows.length (gi g5 0).rows.length) && (decide (((gi g5 0).rows.length + 1) ≤ 1048576))) then (bif (inI ((gi g5 7).int + 1)) then (bif ((Nat.beq ((gi g5 0).rows ++ ([[.i (gi ((gi g6 0).rows.getD 0 []) 0).int, .i (gi ((gi g6 0).rows.getD 1 []) 0).int, .s (gi ((gi g5 4).rows.getD 2 []) 0).str, .s (gi ((gi g5 4).rows.getD 3 []) 0).str]] : List (List G))).length ((gi g5 0).rows ++ ([[.i (gi ((gi g6 0).rows.getD 0 []) 0).int, .i (gi ((gi g6 0).rows.getD 1 []) 0).int, .s (gi ((gi g5 4).rows.getD 2 []) 0).str, .s (gi ((gi g5 4).rows.getD 3 []) 0).str]] : List (List G))).length) && true) then some (none, [.l ((gi g5 0).rows ++ ([[.i (gi ((gi g6 0).rows.getD 0 []) 0).int, .i (gi ((gi g6 0).rows.getD 1 []) 0).int, .s (gi ((gi g5 4).rows.getD 2 []) 0).str, .s (gi ((gi g5 4).rows.getD 3 []) 0).str]] : List (List G))), .l (gi g5 1).rows, .t (gi g5 2).bool, .l (gi g5 5).rows, .i (gi g5 6).int, .i ((gi g5 7).int + 1)]) else none) else none) else none) else none) else none) else none) else none))) else none))) else (bif (!(gi d 2).bool) then (bif (inI ((((gi d 1).rows.length : Nat) : Int) - 1)) then (loopB ((Nat.beq (gi d 0).rows.length (gi d 0).rows.length) && true) (cutR (tl_band_Read_10 [.l (gi d 0).rows, .l (gi d 1).rows, .t (gi d 2).bool, .i (gi d 5).int, .l (gi g2 0).rows, .l (gi d 3).rows, .i (gi d 4).int, .i (gi d 5).int, .t ((gi d 5).int == ((((gi d 1).rows.length : Nat) : Int) - 1))])) fun cg7 g7 => (bif Nat.beq cg7 0 then some (some 0, [.l (gi g7 0).rows, .i (gi g7 1).int, .i (gi g7 2).int]) else (bif (leI 2 (((gi g7 4).rows.length : Nat) : Int)) then (callF (F_kit_Numbers [.l ((gi g7 4).rows.take 2)]) fun g8 => (bif (!(gi g8 1).bool) then some (some 0, [.l [], .i (gi g7 3).int, .i 9]) else (bif (ltI 0 (((gi g8 0).rows.length : Nat) : Int)) then (bif (ltI 1 (((gi g8 0).rows.length : Nat) : Int)) then (bif (ltI 2 (((gi g7 4).rows.length : Nat) : Int)) then (bif (ltI 3 (((gi g7 4).rows.length : Nat) : Int)) then (bif ((Nat.beq (gi g7 0).rows.length (gi g7 0).rows.length) && (decide (((gi g7 0).rows.length + 1) ≤ 1048576))) then (bif (inI ((gi g7 7).int + 1)) then (bif ((Nat.beq ((gi g7 0).rows ++ ([[.i (gi ((gi g8 0).rows.getD 0 []) 0).int, .i (gi ((gi g8 0).rows.getD 1 []) 0).int, .s (gi ((gi g7 4).rows.getD 2 []) 0).str, .s (gi ((gi g7 4).rows.getD 3 []) 0).str]] : List (List G))).length ((gi g7 0).rows ++ ([[.i (gi ((gi g8 0).rows.getD 0 []) 0).int, .i (gi ((gi g8 0).rows.getD 1 []) 0).int, .s (gi ((gi g7 4).rows.getD 2 []) 0).str, .s (gi ((gi g7 4).rows.getD 3 []) 0).str]] : List (List G))).length) && true) then some (none, [.l ((gi g7 0).rows ++ ([[.i (gi ((gi g8 0).rows.getD 0 []) 0).int, .i (gi ((gi g8 0).rows.getD 1 []) 0).int, .s (gi ((gi g7 4).rows.getD 2 []) 0).str, .s (gi ((gi g7 4).rows.getD 3 []) 0).str]] : List (List G))), .l (gi g7 1).rows, .t (gi g7 2).bool, .l (gi g7 5).rows, .i (gi g7 6).int, .i ((gi g7 7).int + 1)]) else none) else none) else none) else none) else none) else none) else none))) else none))) else none) else (loopB ((Nat.beq (gi d 0).rows.length (gi d 0).rows.length) && true) (cutR (tl_band_Read_10 [.l (gi d 0).rows, .l (gi d 1).rows, .t (gi d 2).bool, .i (gi d 5).int, .l (gi g2 0).rows, .l (gi d 3).rows, .i (gi d 4).int, .i (gi d 5).int, .t false])) fun cg9 g9 => (bif Nat.beq cg9 0 then some (some 0, [.l (gi g9 0).rows, .i (gi g9 1).int, .i (gi g9 2).int]) else (bif (leI 2 (((gi g9 4).rows.length : Nat) : Int)) then (callF (F_kit_Numbers [.l ((gi g9 4).rows.take 2)]) fun g10 => (bif (!(gi g10 1).bool) then some (some 0, [.l [], .i (gi g9 3).int, .i 9]) else (bif (ltI 0 (((gi g10 0).rows.length : Nat) : Int)) then (bif (ltI 1 (((gi g10 0).rows.length : Nat) : Int)) then (bif (ltI 2 (((gi g9 4).rows.length : Nat) : Int)) then (bif (ltI 3 (((gi g9 4).rows.length : Nat) : Int)) then (bif ((Nat.beq (gi g9 0).rows.length (gi g9 0).rows.length) && (decide (((gi g9 0).rows.length + 1) ≤ 1048576))) then (bif (inI ((gi g9 7).int + 1)) then (bif ((Nat.beq ((gi g9 0).rows ++ ([[.i (gi ((gi g10 0).rows.getD 0 []) 0).int, .i (gi ((gi g10 0).rows.getD 1 []) 0).int, .s (gi ((gi g9 4).rows.getD 2 []) 0).str, .s (gi ((gi g9 4).rows.getD 3 []) 0).str]] : List (List G))).length ((gi g9 0).rows ++ ([[.i (gi ((gi g10 0).rows.getD 0 []) 0).int, .i (gi ((gi g10 0).rows.getD 1 []) 0).int, .s (gi ((gi g9 4).rows.getD 2 []) 0).str, .s (gi ((gi g9 4).rows.getD 3 []) 0).str]] : List (List G))).length) && true) then some (none, [.l ((gi g9 0).rows ++ ([[.i (gi ((gi g10 0).rows.getD 0 []) 0).int, .i (gi ((gi g10 0).rows.getD 1 []) 0).int, .s (gi ((gi g9 4).rows.getD 2 []) 0).str, .s (gi ((gi g9 4).rows.getD 3 []) 0).str]] : List (List G))), .l (gi g9 1).rows, .t (gi g9 2).bool, .l (gi g9 5).rows, .i (gi g9 6).int, .i ((gi g9 7).int + 1)]) else none) else none) else none) else none) else none) else none) else none))) else none))))))) else none) else (bif ((Nat.beq (gi d 0).rows.length (gi d 0).rows.length) && true) then some (some 1, [.l (gi d 0).rows]) else none))
def l_band_Read_6 : LSpec := ⟨6, [(7, KSpot)], ⟨85, [(5, .s (.list [.str])), (6, .s (.bool)), (7, .s (.vec 0 4)), (22, .s (.list [.str])), (23, .s (.int .i64)), (24, .s (.int .i64))], [.vec KSpot 0]⟩, [.slot 7], [⟨.ret, ⟨85, [(2, .s (.list KSpot)), (3, .s (.int .i64)), (4, .s (.int .i64))], []⟩, []⟩, ⟨.exit 0, ⟨85, [(7, .s (.vec 0 4))], [.vec KSpot 0]⟩, [.slot 7]⟩], st_band_Read_6⟩
theorem r_band_Read_6 : RoundOK P (t79.lessPf [32]) L_band_Read_10c 0 (loopAt Tryz.f11 6) l_band_Read_6 := fun d => by kernel_rfl
def L_band_Read_6 : LT := L_band_Read_10c.add 0 l_band_Read_6
theorem L_band_Read_6_ok : LpK P 0 L_band_Read_6 (bodyOf Tryz.f11) := LpK.add hm (t79_ok.lessPf [32]) (by kernel_rfl) L_band_Read_10c_ok r_band_Read_6
def F_band_Read (d : List G) : Option (List G) :=
 (bif (ltI 200000 (((gi d 0).str.size : Nat) : Int)) then some [.l [], .i 0, .i 2] else (callF (F_kit_Lines [.s (gi d 0).str]) fun g1 => (loopB true (LRun st_band_Read_6 [.l [], .l (gi g1 0).rows, .t (gi g1 1).bool, .l (gi g1 0).rows, .i (((gi g1 0).rows.length : Nat) : Int), .i 0]) fun cg11 g11 => (bif Nat.beq cg11 0 then some [.l (gi g11 0).rows, .i (gi g11 1).int, .i (gi g11 2).int] else (callB (((Nat.beq (gi g11 0).rows.length (gi g11 0).rows.length) && true) && (F_band_CheckSpots [.l (gi g11 0).rows]).isSome) (F_band_CheckSpots [.l (gi g11 0).rows]) fun g12 => (bif ((gi g12 0).int != 0) then some [.l [], .i 0, .i (gi g12 0).int] else (bif ((Nat.beq (gi g11 0).rows.length (gi g11 0).rows.length) && true) then some [.l (gi g11 0).rows, .i 0, .i 0] else none)))))))
def s_band_Read : FSpec := ⟨11, [.s (.str)], [], [], [.s (.list KSpot), .s (.int .i64), .s (.int .i64)], [], [], [], F_band_Read⟩
theorem b_band_Read : BodyOK P (t79.lessPf [32]) L_band_Read_6 Tryz.f11 s_band_Read := fun d => by kernel_rfl
theorem c_band_Read : COK P s_band_Read := bodyC hm (t79_ok.lessPf [32]) Tryz.func11 (by kernel_rfl) L_band_Read_6_ok b_band_Read (by kernel_rfl)
def t80 : Tab := t79.addP s_band_Read
theorem t80_ok : TabOK P t80 := t79_ok.aP c_band_Read

def st_k2_errs_2 (d : List G) : Option (Option Nat × List G) :=
 (bif (ltI (gi d 2).int (gi d 1).int) then (bif ((nnI (gi d 2).int) && (ltI (gi d 2).int (((gi d 0).rows.length : Nat) : Int))) then (bif ((gi ((gi d 0).rows.getD (((gi d 2).int).toNat) []) 0).int != 0) then some (some 0, [.i (gi ((gi d 0).rows.getD (((gi d 2).int).toNat) []) 0).int]) else (bif (inI ((gi d 2).int + 1)) then some (none, [.l (gi d 0).rows, .i (gi d 1).int, .i ((gi d 2).int + 1)]) else none)) else none) else some (some 1, []))
def l_k2_errs_2 : LSpec := ⟨2, [], ⟨15, [(5, .s (.list [.int .i64])), (6, .s (.int .i64)), (7, .s (.int .i64))], []⟩, [], [⟨.ret, ⟨15, [(2, .s (.int .i64))], []⟩, []⟩, ⟨.exit 0, ⟨15, [], []⟩, []⟩], st_k2_errs_2⟩
theorem r_k2_errs_2 : RoundOK P t80 nL0 0 (loopAt Tryz.f12 2) l_k2_errs_2 := fun d => by kernel_rfl
def L_k2_errs_2 : LT := nL0.add 0 l_k2_errs_2
theorem L_k2_errs_2_ok : LpK P 0 L_k2_errs_2 (bodyOf Tryz.f12) := LpK.a hm t80_ok (nLk _ _ _) r_k2_errs_2
def F_k2_errs (d : List G) : Option (List G) :=
 (loopB true (LRun st_k2_errs_2 [.l (gi d 0).rows, .i (((gi d 0).rows.length : Nat) : Int), .i 0]) fun cg1 g1 => (bif Nat.beq cg1 0 then some [.i (gi g1 0).int] else some [.i 0]))
def s_k2_errs : FSpec := ⟨12, [.s (.list [.int .i64])], [], [], [.s (.int .i64)], [], [], [], F_k2_errs⟩
theorem b_k2_errs : BodyOK P t80 L_k2_errs_2 Tryz.f12 s_k2_errs := fun d => by kernel_rfl
theorem c_k2_errs : COK P s_k2_errs := bdC hm t80_ok Tryz.func12 L_k2_errs_2_ok b_k2_errs
def t81 : Tab := t80.addP s_k2_errs
theorem t81_ok : TabOK P t81 := t80_ok.aP c_k2_errs

def st_sl_Equal_Spot_4 (d : List G) : Option (Option Nat × List G) :=
 (bif (ltI (gi d 3).int (gi d 2).int) then (bif ((nnI (gi d 3).int) && (ltI (gi d 3).int (((gi d 0).rows.length : Nat) : Int))) then (bif ((nnI (gi d 3).int) && (ltI (gi d 3).int (((gi d 1).rows.length : Nat) : Int))) then (bif (!(rowEq KSpot (gEta KSpot ((gi d 0).rows.getD (((gi d 3).int).toNat) [])) (gEta KSpot ((gi d 1).rows.getD (((gi d 3).int).toNat) [])))) then some (some 0, [.t false]) else (bif (inI ((gi d 3).int + 1)) then some (none, [.l (gi d 0).rows, .l (gi d 1).rows, .i (gi d 2).int, .i ((gi d 3).int + 1)]) else none)) else none) else none) else some (some 1, []))
def l_sl_Equal_Spot_4 : LSpec := ⟨4, [], ⟨26, [(0, .s (.list KSpot)), (1, .s (.list KSpot)), (12, .s (.int .i64)), (13, .s (.int .i64))], []⟩, [], [⟨.ret, ⟨26, [(4, .s (.bool))], []⟩, []⟩, ⟨.exit 0, ⟨26, [], []⟩, []⟩], st_sl_Equal_Spot_4⟩
theorem r_sl_Equal_Spot_4 : RoundOK P t81 nL0 0 (loopAt Tryz.f13 4) l_sl_Equal_Spot_4 := fun d => by kernel_rfl
def L_sl_Equal_Spot_4 : LT := nL0.add 0 l_sl_Equal_Spot_4
theorem L_sl_Equal_Spot_4_ok : LpK P 0 L_sl_Equal_Spot_4 (bodyOf Tryz.f13) := LpK.a hm t81_ok (nLk _ _ _) r_sl_Equal_Spot_4
def F_sl_Equal_Spot (d : List G) : Option (List G) :=
 (bif ((((gi d 0).rows.length : Nat) : Int) != (((gi d 1).rows.length : Nat) : Int)) then some [.t false] else (loopB true (LRun st_sl_Equal_Spot_4 [.l (gi d 0).rows, .l (gi d 1).rows, .i (((gi d 0).rows.length : Nat) : Int), .i 0]) fun cg1 g1 => (bif Nat.beq cg1 0 then some [.t (gi g1 0).bool] else some [.t true])))
def s_sl_Equal_Spot : FSpec := ⟨13, [.s (.list KSpot), .s (.list KSpot)], [], [], [.s (.bool)], [], [], [], F_sl_Equal_Spot⟩
theorem b_sl_Equal_Spot : BodyOK P t81 L_sl_Equal_Spot_4 Tryz.f13 s_sl_Equal_Spot := fun d => by kernel_rfl
theorem c_sl_Equal_Spot : COK P s_sl_Equal_Spot := bdC hm t81_ok Tryz.func13 L_sl_Equal_Spot_4_ok b_sl_Equal_Spot
def t82 : Tab := t81.addP s_sl_Equal_Spot
theorem t82_ok : TabOK P t82 := t81_ok.aP c_sl_Equal_Spot

attribute [instance] drF
theorem w82_ok : TabOK P t82 := t82_ok.anyDr
def F_strings_Join (d : List G) : Option (List G) :=
 joinF d
def s_strings_Join : FSpec := ⟨91, [.s (.list [.str]), .s (.str)], [], [], [.s (.str)], [], [], [], F_strings_Join⟩
theorem c_strings_Join : ∀ d r, F_strings_Join d = some r → ACallX P 91 (s_strings_Join.args0 d) (denH (s_strings_Join.H0 d)) (s_strings_Join.out r) (denH (s_strings_Join.H1 r)) := fun d r h => join_call rfl Tryz.laysJoin Tryz.laysJoin_x d r h
def t83 : Tab := t82.addP s_strings_Join
theorem t83_ok : TabOK P t83 := w82_ok.aP c_strings_Join

def F_kit_Join (d : List G) : Option (List G) :=
 (callF (F_strings_Join [.l (gi d 0).rows, .s (⟨#[32]⟩ : ByteArray)]) fun g1 => (bif (Nat.ble ((gi g1 0).str.size + 1) 9223372036854775807) then some [.s ((gi g1 0).str ++ (⟨#[10]⟩ : ByteArray))] else none))
def s_kit_Join : FSpec := ⟨38, [.s (.list [.str])], [], [], [.s (.str)], [], [], [], F_kit_Join⟩
theorem b_kit_Join : BodyOK P t83 nL0 Tryz.f38 s_kit_Join := fun d => by kernel_rfl
theorem c_kit_Join : COK P s_kit_Join := bdC hm t83_ok Tryz.func38 (nLk _ _ _) b_kit_Join
def t84 : Tab := t83.addP s_kit_Join
theorem t84_ok : TabOK P t84 := t83_ok.aP c_kit_Join

def F_strings_Builder_WriteString (d : List G) : Option (List G) :=
 bldWF d
def s_strings_Builder_WriteString : FSpec := ⟨37, [.s (.ptr 0 0), .s (.str)], [.bld 0 80 5], [.slot 0], [.s (.int .i64), .s (.any)], [.bld 0 80 5], [.fix 0], [], F_strings_Builder_WriteString⟩
theorem c_strings_Builder_WriteString : ∀ d r, F_strings_Builder_WriteString d = some r → ACallX P 37 (s_strings_Builder_WriteString.args0 d) (denH (s_strings_Builder_WriteString.H0 d)) (s_strings_Builder_WriteString.out r) (denH (s_strings_Builder_WriteString.H1 r)) := fun d r h => bldW_call Tryz.laysBldW Tryz.laysBldW_x rfl d r h
def t85 : Tab := t84.addW s_strings_Builder_WriteString
theorem t85_ok : TabOK P t85 := t84_ok.aW c_strings_Builder_WriteString

def F_strings_Builder_Len (d : List G) : Option (List G) :=
 bldLF d
def s_strings_Builder_Len : FSpec := ⟨40, [.s (.ptr 0 0)], [.bld 0 80 5], [.slot 0], [.s (.int .i64)], [.bld 0 80 5], [.fix 0], [], F_strings_Builder_Len⟩
theorem c_strings_Builder_Len : ∀ d r, F_strings_Builder_Len d = some r → ACallX P 40 (s_strings_Builder_Len.args0 d) (denH (s_strings_Builder_Len.H0 d)) (s_strings_Builder_Len.out r) (denH (s_strings_Builder_Len.H1 r)) := fun d r h => bldL_call Tryz.laysBldL rfl d r h
def t86 : Tab := t85.addW s_strings_Builder_Len
theorem t86_ok : TabOK P t86 := t85_ok.aW c_strings_Builder_Len

def F_strings_Builder_String (d : List G) : Option (List G) :=
 bldSF d
def s_strings_Builder_String : FSpec := ⟨41, [.s (.ptr 0 0)], [.bld 0 80 5], [.slot 0], [.s (.str)], [.bld 0 80 5], [.fix 0], [], F_strings_Builder_String⟩
theorem c_strings_Builder_String : ∀ d r, F_strings_Builder_String d = some r → ACallX P 41 (s_strings_Builder_String.args0 d) (denH (s_strings_Builder_String.H0 d)) (s_strings_Builder_String.out r) (denH (s_strings_Builder_String.H1 r)) := fun d r h => bldS_call Tryz.laysBldS Tryz.laysBldS_x rfl d r h
def t87 : Tab := t86.addW s_strings_Builder_String
theorem t87_ok : TabOK P t87 := t86_ok.aW c_strings_Builder_String

def st_band_Text_6 (d : List G) : Option (Option Nat × List G) :=
 (bif (ltI (gi d 3).int (gi d 2).int) then (bif ((nnI (gi d 3).int) && (ltI (gi d 3).int (((gi d 1).rows.length : Nat) : Int))) then (callF (F_strconv_Itoa [.i (gi ((gi d 1).rows.getD (((gi d 3).int).toNat) []) 0).int]) fun g2 => (callF (F_strconv_Itoa [.i (gi ((gi d 1).rows.getD (((gi d 3).int).toNat) []) 1).int]) fun g3 => (callF (F_kit_Join [.l [[.s (gi g2 0).str], [.s (gi g3 0).str], [.s (gi ((gi d 1).rows.getD (((gi d 3).int).toNat) []) 2).str], [.s (gi ((gi d 1).rows.getD (((gi d 3).int).toNat) []) 3).str]]]) fun g4 => (callF (F_strings_Builder_WriteString [.s (gi d 0).str, .s (gi g4 0).str]) fun g5 => (bif (inI ((gi d 3).int + 1)) then some (none, [.s (gi g5 0).str, .l (gi d 1).rows, .i (gi d 2).int, .i ((gi d 3).int + 1)]) else none))))) else none) else some (some 0, [.s (gi d 0).str]))
def l_band_Text_6 : LSpec := ⟨6, [], ⟨36, [(5, .s (.ptr 0 0)), (13, .s (.list KSpot)), (14, .s (.int .i64)), (15, .s (.int .i64))], [.bld 0 80 5]⟩, [.slot 5], [⟨.exit 0, ⟨36, [(5, .s (.ptr 0 0))], [.bld 0 80 5]⟩, [.slot 5]⟩], st_band_Text_6⟩
theorem r_band_Text_6 : RoundOK P t87 nL0 0 (loopAt Tryz.f10 6) l_band_Text_6 := fun d => by kernel_rfl
def L_band_Text_6 : LT := nL0.add 0 l_band_Text_6
theorem L_band_Text_6_ok : LpK P 0 L_band_Text_6 (bodyOf Tryz.f10) := LpK.a hm t87_ok (nLk _ _ _) r_band_Text_6
def F_band_Text (d : List G) : Option (List G) :=
 (callF (F_band_CheckSpots [.l (gi d 0).rows]) fun g1 => (bif ((gi g1 0).int != 0) then some [.s (⟨#[]⟩ : ByteArray), .i (gi g1 0).int] else (loopB true (LRun st_band_Text_6 [.s (⟨#[]⟩ : ByteArray), .l (gi d 0).rows, .i (((gi d 0).rows.length : Nat) : Int), .i 0]) fun cg6 g6 => (callF (F_strings_Builder_Len [.s (gi g6 0).str]) fun g7 => (bif (ltI 200000 (gi g7 1).int) then some [.s (⟨#[]⟩ : ByteArray), .i 2] else (callF (F_strings_Builder_String [.s (gi g7 0).str]) fun g8 => some [.s (gi g8 1).str, .i 0]))))))
def s_band_Text : FSpec := ⟨10, [.s (.list KSpot)], [], [], [.s (.str), .s (.int .i64)], [], [], [], F_band_Text⟩
theorem b_band_Text : BodyOK P t87 L_band_Text_6 Tryz.f10 s_band_Text := fun d => by kernel_rfl
theorem c_band_Text : COK P s_band_Text := bdC hm t87_ok Tryz.func10 L_band_Text_6_ok b_band_Text
def t88 : Tab := t87.addP s_band_Text
theorem t88_ok : TabOK P t88 := t87_ok.aP c_band_Text

def F_k2_SpotsAgree (d : List G) : Option (List G) :=
 (callF (F_mk_Range [.l (gi d 0).rows, .i 0, .i 0, .i 12]) fun g1 => (callF (F_mk_RightSpots [.l (gi g1 0).rows, .i (gi g1 1).int, .i (gi g1 2).int]) fun g2 => (callF (F_k2_parts_Spot [.l (gi g2 0).rows, .i (gi g2 1).int, .l (gi g2 2).rows]) fun g3 => (callF (F_band_Merge [.l (gi g3 2).rows, .l (gi g3 3).rows]) fun g4 => (callF (F_band_Merge [.l (gi g3 3).rows, .l (gi g3 2).rows]) fun g5 => (callF (F_band_Text [.l (gi g2 2).rows]) fun g6 => (callF (F_band_Read [.s (gi g6 0).str]) fun g7 => (callF (F_k2_errs [.l [[.i (gi g4 1).int], [.i (gi g5 1).int], [.i (gi g6 1).int], [.i (gi g7 2).int]]]) fun g8 => (bif ((gi g8 0).int == 0) then (callF (F_sl_Equal_Spot [.l (gi g4 0).rows, .l (gi g2 2).rows]) fun g9 => (bif (gi g9 0).bool then (callF (F_sl_Equal_Spot [.l (gi g5 0).rows, .l (gi g2 2).rows]) fun g10 => (bif (gi g10 0).bool then (callF (F_sl_Equal_Spot [.l (gi g7 0).rows, .l (gi g2 2).rows]) fun g11 => (bif (gi g11 0).bool then (callF (F_k2_ready []) fun g12 => some [.t (gi g12 0).bool]) else some [.t false])) else some [.t false])) else some [.t false])) else some [.t false])))))))))
def s_k2_SpotsAgree : FSpec := ⟨3, [.s (.list [.int .i64])], [], [], [.s (.bool)], [], [], [], F_k2_SpotsAgree⟩
theorem b_k2_SpotsAgree : BodyOK P t88 nL0 Tryz.f3 s_k2_SpotsAgree := fun d => by kernel_rfl
theorem c_k2_SpotsAgree : COK P s_k2_SpotsAgree := bdC hm t88_ok Tryz.func3 (nLk _ _ _) b_k2_SpotsAgree
def t89 : Tab := t88.addP s_k2_SpotsAgree
theorem t89_ok : TabOK P t89 := t88_ok.aP c_k2_SpotsAgree

end
end Go.Proofs.SYtchcbaapbinpbaaGreatDoor
