/-
 What is proved here: functions of the program as functions on data. No condition.
-/
import Derived.Test.YtdhpplgohigbdaaGreatDoorML1
set_option linter.all false
namespace Go.Proofs.SYtdhpplgohigbdaaGreatDoor
open Go Go.AL Go.Proofs
noncomputable section
def st_sl_Reverse_int_1 (d : List G) : Option (Option Nat × List G) :=
 (bif (ltI (gi d 1).int (gi d 2).int) then (bif ((nnI (gi d 2).int) && (ltI (gi d 2).int (((gi d 0).rows.length : Nat) : Int))) then (bif (decide ((0 + ((gi d 2).int).toNat) < (gi d 0).rows.length)) then (bif ((nnI (gi d 1).int) && (ltI (gi d 1).int (((gi d 0).rows.length : Nat) : Int))) then (bif (decide ((0 + ((gi d 1).int).toNat) < (gi d 0).rows.length)) then (bif ((nnI (gi d 1).int) && (ltI (gi d 1).int (((gi d 0).rows.length : Nat) : Int))) then (bif (decide ((0 + ((gi d 1).int).toNat) < (gi d 0).rows.length)) then (bif ((nnI (gi d 2).int) && (ltI (gi d 2).int (((gi d 0).rows.length : Nat) : Int))) then (bif (decide ((0 + ((gi d 2).int).toNat) < ((gi d 0).rows.set (0 + ((gi d 1).int).toNat) (putG [.int .i64] ((gi d 0).rows.getD (0 + ((gi d 1).int).toNat) []) 0 [.i (gi ((gi d 0).rows.getD (0 + ((gi d 2).int).toNat) []) 0).int])).length)) then (bif (inI ((gi d 1).int + 1)) then (bif (inI ((gi d 2).int - 1)) then (bif ((Nat.beq (gi d 0).rows.length (((gi d 0).rows.set (0 + ((gi d 1).int).toNat) (putG [.int .i64] ((gi d 0).rows.getD (0 + ((gi d 1).int).toNat) []) 0 [.i (gi ((gi d 0).rows.getD (0 + ((gi d 2).int).toNat) []) 0).int])).set (0 + ((gi d 2).int).toNat) (putG [.int .i64] (((gi d 0).rows.set (0 + ((gi d 1).int).toNat) (putG [.int .i64] ((gi d 0).rows.getD (0 + ((gi d 1).int).toNat) []) 0 [.i (gi ((gi d 0).rows.getD (0 + ((gi d 2).int).toNat) []) 0).int])).getD (0 + ((gi d 2).int).toNat) []) 0 [.i (gi ((gi d 0).rows.getD (0 + ((gi d 1).int).toNat) []) 0).int])).length) && true) then some (none, [.l (((gi d 0).rows.set (0 + ((gi d 1).int).toNat) (putG [.int .i64] ((gi d 0).rows.getD (0 + ((gi d 1).int).toNat) []) 0 [.i (gi ((gi d 0).rows.getD (0 + ((gi d 2).int).toNat) []) 0).int])).set (0 + ((gi d 2).int).toNat) (putG [.int .i64] (((gi d 0).rows.set (0 + ((gi d 1).int).toNat) (putG [.int .i64] ((gi d 0).rows.getD (0 + ((gi d 1).int).toNat) []) 0 [.i (gi ((gi d 0).rows.getD (0 + ((gi d 2).int).toNat) []) 0).int])).getD (0 + ((gi d 2).int).toNat) []) 0 [.i (gi ((gi d 0).rows.getD (0 + ((gi d 1).int).toNat) []) 0).int])), .i ((gi d 1).int + 1), .i ((gi d 2).int - 1)]) else none) else none) else none) else none) else none) else none) else none) else none) else none) else none) else none) else some (some 0, [.l (gi d 0).rows]))
def l_sl_Reverse_int_1 : LSpec := ⟨1, [], ⟨28, [(0, .s (.vec 0 1)), (2, .s (.int .i64)), (3, .s (.int .i64))], [.vec [.int .i64] 0]⟩, [.fix 0], [⟨.exit 0, ⟨28, [], [.vec [.int .i64] 0]⟩, [.fix 0]⟩], st_sl_Reverse_int_1⟩
theorem r_sl_Reverse_int_1 : RoundOK P t6 nL0 1 (loopAt Tryz.f114 1) l_sl_Reverse_int_1 := fun d => by kernel_rfl
def L_sl_Reverse_int_1 : LT := nL0.add 1 l_sl_Reverse_int_1
theorem L_sl_Reverse_int_1_ok : LpK P 1 L_sl_Reverse_int_1 (bodyOf Tryz.f114) := LpK.a hm t6_ok (nLk _ _ _) r_sl_Reverse_int_1
def F_sl_Reverse_int (d : List G) : Option (List G) :=
 (bif (inI ((((gi d 0).rows.length : Nat) : Int) - 1)) then (loopB ((Nat.beq (gi d 0).rows.length (gi d 0).rows.length) && true) (LRun st_sl_Reverse_int_1 [.l (gi d 0).rows, .i 0, .i ((((gi d 0).rows.length : Nat) : Int) - 1)]) fun cg1 g1 => some [.l (gi g1 0).rows]) else none)
def s_sl_Reverse_int : FSpec := ⟨114, [.s (.vec 0 1)], [.vec [.int .i64] 0], [.slot 0], [], [.vec [.int .i64] 0], [.fix 0], [], F_sl_Reverse_int⟩
theorem b_sl_Reverse_int : BodyOK P t6 L_sl_Reverse_int_1 Tryz.f114 s_sl_Reverse_int := fun d => by kernel_rfl
theorem c_sl_Reverse_int : COK P s_sl_Reverse_int := bdC hm t6_ok Tryz.func114 L_sl_Reverse_int_1_ok b_sl_Reverse_int
def t7 : Tab := t6.addW s_sl_Reverse_int
theorem t7_ok : TabOK P t7 := t6_ok.aW c_sl_Reverse_int

def sr_net_state_holders_2 (r d : List G) : Option (List G) :=
 (bif (inI ((gi (mget [.int .i64] (gi d 6).rows [.i (gi (gi r 0).row 1).int] [.i 0]) 0).int + 1)) then (bif ((((Nat.beq (gi d 3).rows.length (gi d 3).rows.length) && true) && true) && true) then some [.l (gi d 0).rows, .l (gi d 1).rows, .l (gi d 2).rows, .l (gi d 3).rows, .l (gi d 4).rows, .i (((gi d 5).int.toNat : Nat) : Int), .l (mput [.int .i64] (gi d 6).rows [.i (gi (gi r 0).row 1).int] [.i ((gi (mget [.int .i64] (gi d 6).rows [.i (gi (gi r 0).row 1).int] [.i 0]) 0).int + 1)] (gi d 7).int.toNat), .i (((mclk [.int .i64] (gi d 6).rows [.i (gi (gi r 0).row 1).int] (gi d 7).int.toNat) : Nat) : Int), .i (((gi d 8).int.toNat : Nat) : Int)] else none) else none)
def ri_net_state_holders_2 (d : List G) (b : Nat) : List G := [.l (gi d 0).rows, .l (gi d 1).rows, .l (gi d 2).rows, .l (gi d 3).rows, .l (gi d 4).rows, .i (((gi d 5).int.toNat : Nat) : Int), .l (gi d 6).rows, .i (((gi d 7).int.toNat : Nat) : Int), .i (b : Int)]
def rb_net_state_holders_2 (d : List G) (b : Nat) : Bool := ((((Nat.beq (gi d 3).rows.length (gi d 3).rows.length) && true) && true) && true)
def rs_net_state_holders_2 : RSpec := ⟨⟨21, [(3, .s (.map 3)), (10, .s (.addr))], [.box [.vec 1 15, .list KCt, .list [.str], .list [.int .i64], .map 2], .vec KDeed 0, .map (.agg [.str, .int .i64]) (.one (.bool)), .map (.one (.int .i64)) (.one (.int .i64))]⟩, [.fix 0, .cell 0 0, .cell 0 4, .slot 3], [], (.agg [.str, .int .i64]), (.one (.bool)), 2, 0, 9, 10, 11, 12, 13, fun d => (gi d 8).int.toNat, ri_net_state_holders_2, rb_net_state_holders_2, sr_net_state_holders_2⟩
theorem w_net_state_holders_2 : RRound P t7 nL0 3 rs_net_state_holders_2 (rOps2 (cutAt Tryz.f108 2)) (rBody (cutAt Tryz.f108 2)) := fun r d => by kernel_rfl
def tr_net_state_holders_2 (d : List G) : Option (Option Nat × List G) :=
 (bif ((((Nat.beq (gi d 3).rows.length (gi d 3).rows.length) && true) && true) && true) then some (some 0, [.l (gi d 0).rows, .l (gi d 1).rows, .l (gi d 2).rows, .l (gi d 3).rows, .l (gi d 4).rows, .i (((gi d 5).int.toNat : Nat) : Int), .l (gi d 6).rows, .i (((gi d 7).int.toNat : Nat) : Int)]) else none)
def l_net_state_holders_2r : LSpec := ⟨6, [], ⟨21, [(3, .s (.map 3)), (10, .s (.addr))], [.box [.vec 1 15, .list KCt, .list [.str], .list [.int .i64], .map 2], .vec KDeed 0, .map (.agg [.str, .int .i64]) (.one (.bool)), .map (.one (.int .i64)) (.one (.int .i64))]⟩, [], [⟨.ret, ⟨21, [(2, .s (.map 3))], [.box [.vec 1 15, .list KCt, .list [.str], .list [.int .i64], .map 2], .vec KDeed 0, .map (.agg [.str, .int .i64]) (.one (.bool)), .map (.one (.int .i64)) (.one (.int .i64))]⟩, [.fix 0, .cell 0 0, .cell 0 4, .slot 2]⟩], tr_net_state_holders_2⟩
theorem v_net_state_holders_2 : CutOK P t7 nL0 3 (rRest (cutAt Tryz.f108 2)) l_net_state_holders_2r := fun d => by kernel_rfl
def tl_net_state_holders_2 (d : List G) : Option (Option Nat × List G) :=
 rangeR rs_net_state_holders_2 tr_net_state_holders_2 (gi d 4).rows ((gi d 5).int.toNat) d
def l_net_state_holders_2c : LSpec := ⟨2, [], ⟨21, [(0, .s (.ptr 0 0)), (3, .s (.map 3))], [.box [.vec 1 15, .list KCt, .list [.str], .list [.int .i64], .map 2], .vec KDeed 0, .map (.agg [.str, .int .i64]) (.one (.bool)), .map (.one (.int .i64)) (.one (.int .i64))]⟩, [.fix 0, .cell 0 0, .cell 0 4, .slot 3], [⟨.ret, ⟨21, [(2, .s (.map 3))], [.box [.vec 1 15, .list KCt, .list [.str], .list [.int .i64], .map 2], .vec KDeed 0, .map (.agg [.str, .int .i64]) (.one (.bool)), .map (.one (.int .i64)) (.one (.int .i64))]⟩, [.fix 0, .cell 0 0, .cell 0 4, .slot 2]⟩], tl_net_state_holders_2⟩
def L_net_state_holders_2c : LT := nL0.addCut 3 l_net_state_holders_2c
theorem k_net_state_holders_2 : ∀ r d d', sr_net_state_holders_2 r d = some d' → (gi d' 4).rows = (gi d 4).rows ∧ (gi d' 5).int.toNat = (gi d 5).int.toNat := by
 intro r d d' h
 unfold sr_net_state_holders_2 at h
 simp only [Bool.cond_eq_ite] at h
 repeat' split at h
 all_goals first | (cases h; done) | (cases h; exact ⟨rfl, rfl⟩)
theorem L_net_state_holders_2c_ok : LpK P 3 L_net_state_holders_2c (bodyOf Tryz.f108) := LpK.addRangeK (q := l_net_state_holders_2c) (qr := l_net_state_holders_2r) (sp := rs_net_state_holders_2) (r0 := 2) (b0 := 0) (r1 := 3) (b1 := 1) (r2 := 4) (rows := fun d => (gi d 4).rows) (clock := fun d => (gi d 5).int.toNat) (pre := fun d => preOf P t7 (rOps0 (cutAt Tryz.f108 2)) (mkSt l_net_state_holders_2c.inv d)) (ri := fun d => (gi d 4).rows) (ci := fun d => (gi d 5).int.toNat) hm t7_ok (fun d => by kernel_rfl) k_net_state_holders_2 (by kernel_rfl) (by kernel_rfl) (nLk _ _ _) (by kernel_rfl) (by kernel_rfl) w_net_state_holders_2 (fun d => by kernel_rfl) (fun d => by kernel_rfl) (fun d => by kernel_rfl) (fun d => by kernel_rfl) (fun d => by kernel_rfl) (fun d => by kernel_rfl) (fun d b => by kernel_rfl) (fun d b => rfl) (fun d b => ⟨rfl, rfl⟩) rfl rfl v_net_state_holders_2 (fun d => rfl)
def F_net_state_holders (d : List G) : Option (List G) :=
 (loopB ((((Nat.beq (gi d 3).rows.length (gi d 3).rows.length) && true) && true) && true) (cutR (tl_net_state_holders_2 [.l (gi d 0).rows, .l (gi d 1).rows, .l (gi d 2).rows, .l (gi d 3).rows, .l (gi d 4).rows, .i (((gi d 5).int.toNat : Nat) : Int), .l [], .i 0])) fun cg1 g1 => (bif ((((Nat.beq (gi g1 3).rows.length (gi g1 3).rows.length) && true) && true) && true) then some [.l (gi g1 0).rows, .l (gi g1 1).rows, .l (gi g1 2).rows, .l (gi g1 3).rows, .l (gi g1 4).rows, .i (((gi g1 5).int.toNat : Nat) : Int), .l (gi g1 6).rows, .i (((gi g1 7).int.toNat : Nat) : Int)] else none))
def s_net_state_holders : FSpec := ⟨108, [.s (.ptr 0 0)], [.box [.vec 1 15, .list KCt, .list [.str], .list [.int .i64], .map 2], .vec KDeed 0, .map (.agg [.str, .int .i64]) (.one (.bool))], [.slot 0, .cell 0 0, .cell 0 4], [.s (.map 3)], [.box [.vec 1 15, .list KCt, .list [.str], .list [.int .i64], .map 2], .vec KDeed 0, .map (.agg [.str, .int .i64]) (.one (.bool)), .map (.one (.int .i64)) (.one (.int .i64))], [.fix 0, .fix 1, .fix 2, .slot 0], [], F_net_state_holders⟩
theorem b_net_state_holders : BodyOK P t7 L_net_state_holders_2c Tryz.f108 s_net_state_holders := fun d => by kernel_rfl
theorem c_net_state_holders : COK P s_net_state_holders := bdC hm t7_ok Tryz.func108 L_net_state_holders_2c_ok b_net_state_holders
def t8 : Tab := t7.addW s_net_state_holders
theorem t8_ok : TabOK P t8 := t7_ok.aW c_net_state_holders

theorem bw_l2_netted : BwFact P ⟨157, 26, 34, 15, 15, true⟩ := bwFact_of Tryz.func157 (by kernel_rfl) rfl rfl rfl ⟨⟨_, _, _, _, _, _, rfl, ⟨rfl, rfl, rfl⟩, ⟨rfl, rfl, rfl⟩, ⟨rfl, rfl, rfl⟩, ⟨rfl, rfl, rfl⟩⟩, ⟨_, _, _, _, rfl, ⟨rfl, rfl, rfl⟩, ⟨rfl, rfl, rfl⟩⟩, ⟨_, _, _, _, _, rfl, ⟨rfl, rfl, rfl⟩, ⟨rfl, rfl, rfl⟩, ⟨rfl, rfl, rfl⟩⟩, ⟨_, _, _, _, _, _, _, _, _, _, rfl, ⟨rfl, rfl, rfl⟩, ⟨rfl, rfl, rfl⟩, ⟨rfl, rfl, rfl⟩, ⟨rfl, rfl, rfl⟩, ⟨rfl, rfl, rfl⟩, ⟨rfl, rfl, rfl⟩, ⟨rfl, rfl, rfl⟩, ⟨rfl, rfl, rfl⟩⟩⟩ (by kernel_rfl)
def tl1_net_state_holders_2 (d : List G) : Option (Option Nat × List G) :=
 range1 rs_net_state_holders_2 tr_net_state_holders_2 (gi d 4).rows ((gi d 5).int.toNat) d
theorem ind_net_state_holders_2 (d x : List G) (b : Nat) : (foldR rs_net_state_holders_2.st rs_net_state_holders_2.adr [x] (rs_net_state_holders_2.init d b)).bind tr_net_state_holders_2 = (foldR rs_net_state_holders_2.st rs_net_state_holders_2.adr [x] (rs_net_state_holders_2.init d 0)).bind tr_net_state_holders_2 := by
 simp only [foldR_one, rs_net_state_holders_2]
 unfold sr_net_state_holders_2 ri_net_state_holders_2 tr_net_state_holders_2
 dsimp +instances only [giC0, giCs]
 simp only [bind_cond, Option.bind_some, Option.bind_none]
 dsimp +instances only [giC0, giCs]
 simp only [intC, Int.toNat_natCast, beqC, cond_true]
def F1_net_state_holders (d : List G) : Option (List G) :=
 (loopB ((((Nat.beq (gi d 3).rows.length (gi d 3).rows.length) && true) && true) && true) (cutR (tl1_net_state_holders_2 [.l (gi d 0).rows, .l (gi d 1).rows, .l (gi d 2).rows, .l (gi d 3).rows, .l (gi d 4).rows, .i (((gi d 5).int.toNat : Nat) : Int), .l [], .i 0])) fun cg1 g1 => (bif ((((Nat.beq (gi g1 3).rows.length (gi g1 3).rows.length) && true) && true) && true) then some [.l (gi g1 0).rows, .l (gi g1 1).rows, .l (gi g1 2).rows, .l (gi g1 3).rows, .l (gi g1 4).rows, .i (((gi g1 5).int.toNat : Nat) : Int), .l (gi g1 6).rows, .i (((gi g1 7).int.toNat : Nat) : Int)] else none))
theorem F1_le {d r : List G} (h : F1_net_state_holders d = some r) : F_net_state_holders d = some r :=
 loopB_le (fun v hv => range1_le (fun b => rfl) (ind_net_state_holders_2 _) hv) h
def s1_net_state_holders : FSpec := { s_net_state_holders with F := F1_net_state_holders }
def u_l2_netted : Tab := t8.addW s1_net_state_holders
theorem u_l2_netted_ok : TabOK P u_l2_netted := t8_ok.aW fun d r h => c_net_state_holders d r (F1_le h)
def u0_l2_netted : Tab := u_l2_netted.inline P 68 Tryz.f68 []
theorem u0_l2_netted_ok : TabOK P u0_l2_netted := u_l2_netted_ok.inline hm Tryz.func68 (by kernel_rfl) []
def u1_l2_netted : Tab := u0_l2_netted.inline P 64 Tryz.f64 []
theorem u1_l2_netted_ok : TabOK P u1_l2_netted := u0_l2_netted_ok.inline hm Tryz.func64 (by kernel_rfl) []
def u2_l2_netted : Tab := u1_l2_netted.inline P 66 Tryz.f66 []
theorem u2_l2_netted_ok : TabOK P u2_l2_netted := u1_l2_netted_ok.inline hm Tryz.func66 (by kernel_rfl) []
def u3_l2_netted : Tab := u2_l2_netted.inline P 155 Tryz.f155 []
theorem u3_l2_netted_ok : TabOK P u3_l2_netted := u2_l2_netted_ok.inline hm Tryz.func155 (by kernel_rfl) []
def u4_l2_netted : Tab := u3_l2_netted.inline P 156 Tryz.f156 []
theorem u4_l2_netted_ok : TabOK P u4_l2_netted := u3_l2_netted_ok.inline hm Tryz.func156 (by kernel_rfl) []
def u5_l2_netted : Tab := u4_l2_netted.inline P 111 Tryz.f111 []
theorem u5_l2_netted_ok : TabOK P u5_l2_netted := u4_l2_netted_ok.inline hm Tryz.func111 (by kernel_rfl) []
def u6_l2_netted : Tab := u5_l2_netted.inline P 87 Tryz.f87 []
theorem u6_l2_netted_ok : TabOK P u6_l2_netted := u5_l2_netted_ok.inline hm Tryz.func87 (by kernel_rfl) []
def u7_l2_netted : Tab := u6_l2_netted.inline P 60 Tryz.f60 []
theorem u7_l2_netted_ok : TabOK P u7_l2_netted := u6_l2_netted_ok.inline hm Tryz.func60 (by kernel_rfl) []
def u8_l2_netted : Tab := u7_l2_netted.inlineW P 113 Tryz.f113
theorem u8_l2_netted_ok : TabOK P u8_l2_netted := u7_l2_netted_ok.inlineW hm Tryz.func113 (by kernel_rfl) (by kernel_rfl)
def u9_l2_netted : Tab := u8_l2_netted.inlineB P ⟨157, 26, 34, 15, 15, true⟩ 3 88 Tryz.f88 [some [.int .i64]]
theorem u9_l2_netted_ok : TabOK P u9_l2_netted := u8_l2_netted_ok.inlineB hm bw_l2_netted Tryz.func88 (by kernel_rfl) (by kernel_rfl) [some [.int .i64]]
def u10_l2_netted : Tab := u9_l2_netted.inline P 140 Tryz.f140 []
theorem u10_l2_netted_ok : TabOK P u10_l2_netted := u9_l2_netted_ok.inline hm Tryz.func140 (by kernel_rfl) []
def u11_l2_netted : Tab := u10_l2_netted.inline P 99 Tryz.f99 []
theorem u11_l2_netted_ok : TabOK P u11_l2_netted := u10_l2_netted_ok.inline hm Tryz.func99 (by kernel_rfl) []
def u12_l2_netted : Tab := u11_l2_netted.inlineW P 158 Tryz.f158
theorem u12_l2_netted_ok : TabOK P u12_l2_netted := u11_l2_netted_ok.inlineW hm Tryz.func158 (by kernel_rfl) (by kernel_rfl)
def u13_l2_netted : Tab := u12_l2_netted.inlineW P 115 Tryz.f115
theorem u13_l2_netted_ok : TabOK P u13_l2_netted := u12_l2_netted_ok.inlineW hm Tryz.func115 (by kernel_rfl) (by kernel_rfl)
def u14_l2_netted : Tab := u13_l2_netted.inlineW P 90 Tryz.f90
theorem u14_l2_netted_ok : TabOK P u14_l2_netted := u13_l2_netted_ok.inlineW hm Tryz.func90 (by kernel_rfl) (by kernel_rfl)
def u15_l2_netted : Tab := u14_l2_netted.inline P 89 Tryz.f89 []
theorem u15_l2_netted_ok : TabOK P u15_l2_netted := u14_l2_netted_ok.inline hm Tryz.func89 (by kernel_rfl) []
def u16_l2_netted : Tab := u15_l2_netted.inlineW P 61 Tryz.f61
theorem u16_l2_netted_ok : TabOK P u16_l2_netted := u15_l2_netted_ok.inlineW hm Tryz.func61 (by kernel_rfl) (by kernel_rfl)
def u17_l2_netted : Tab := u16_l2_netted.inlineW P 33 Tryz.f33
theorem u17_l2_netted_ok : TabOK P u17_l2_netted := u16_l2_netted_ok.inlineW hm Tryz.func33 (by kernel_rfl) (by kernel_rfl)
def u18_l2_netted : Tab := u17_l2_netted.inlineW P 107 Tryz.f107
theorem u18_l2_netted_ok : TabOK P u18_l2_netted := u17_l2_netted_ok.inlineW hm Tryz.func107 (by kernel_rfl) (by kernel_rfl)
def u19_l2_netted : Tab := u18_l2_netted.inlineW P 83 Tryz.f83
theorem u19_l2_netted_ok : TabOK P u19_l2_netted := u18_l2_netted_ok.inlineW hm Tryz.func83 (by kernel_rfl) (by kernel_rfl)
def u20_l2_netted : Tab := u19_l2_netted.inline P 55 Tryz.f55 []
theorem u20_l2_netted_ok : TabOK P u20_l2_netted := u19_l2_netted_ok.inline hm Tryz.func55 (by kernel_rfl) []
theorem q_l2_netted : PCall P 25 [] (.lit (.bool true)) := fn_pure (L := nL0) hm u20_l2_netted_ok [] (fun _ _ => nLk _ _ _) Tryz.func25 rfl (by kernel_rfl) (by kernel_rfl)
def F_l2_netted (_ : List G) : Option (List G) := some [.t true]
def s_l2_netted : FSpec := ⟨25, [], [], [], [.s (.bool)], [], [], [], F_l2_netted⟩
theorem c_l2_netted : ∀ d r, F_l2_netted d = some r → ACallX P 25 (s_l2_netted.args0 d) (denH (s_l2_netted.H0 d)) (s_l2_netted.out r) (denH (s_l2_netted.H1 r)) := fun d r h => by
 cases (show some [G.t true] = some r from h)
 exact q_l2_netted []
def t9 : Tab := t8.addP s_l2_netted
theorem t9_ok : TabOK P t9 := t8_ok.aP c_l2_netted


def F_pilemake_Below (d : List G) : Option (List G) :=
 (bif (ltI (gi d 1).int 1) then some [.i 0] else (bif (!((gi d 1).int == 0)) then (bif (ltI (Int.tmod (gi d 0).int (gi d 1).int) 0) then (bif (inI ((Int.tmod (gi d 0).int (gi d 1).int) + (gi d 1).int)) then some [.i ((Int.tmod (gi d 0).int (gi d 1).int) + (gi d 1).int)] else none) else some [.i (Int.tmod (gi d 0).int (gi d 1).int)]) else none))
def s_pilemake_Below : FSpec := ⟨56, [.s (.int .i64), .s (.int .i64)], [], [], [.s (.int .i64)], [], [], [], F_pilemake_Below⟩
theorem b_pilemake_Below : BodyOK P t9 nL0 Tryz.f56 s_pilemake_Below := fun d => by kernel_rfl
theorem c_pilemake_Below : COK P s_pilemake_Below := bdC hm t9_ok Tryz.func56 (nLk _ _ _) b_pilemake_Below
def t10 : Tab := t9.addP s_pilemake_Below
theorem t10_ok : TabOK P t10 := t9_ok.aP c_pilemake_Below

def F_mk_Next (d : List G) : Option (List G) :=
 (bif (inI ((gi d 1).int + 1)) then (bif ((((gi d 0).rows.length : Nat) : Int) == 0) then (bif (inI (((gi d 1).int + 1) * 7919)) then (callF (F_pilemake_Below [.i (((gi d 1).int + 1) * 7919), .i (gi d 2).int]) fun g1 => some [.l (gi d 0).rows, .i ((gi d 1).int + 1), .i (gi g1 0).int]) else none) else (bif (inI (((gi d 1).int + 1) - 1)) then (bif (!((((gi d 0).rows.length : Nat) : Int) == 0)) then (bif (inI (((gi d 1).int + 1) - 1)) then (bif ((!((((gi d 0).rows.length : Nat) : Int) == 0)) && (inI (Int.tdiv (((gi d 1).int + 1) - 1) (((gi d 0).rows.length : Nat) : Int)))) then (bif ((nnI (Int.tmod (((gi d 1).int + 1) - 1) (((gi d 0).rows.length : Nat) : Int))) && (ltI (Int.tmod (((gi d 1).int + 1) - 1) (((gi d 0).rows.length : Nat) : Int)) (((gi d 0).rows.length : Nat) : Int))) then (callF (F_pilemake_Below [.i (gi ((gi d 0).rows.getD ((Int.tmod (((gi d 1).int + 1) - 1) (((gi d 0).rows.length : Nat) : Int)).toNat) []) 0).int, .i 1073741824]) fun g2 => (bif (inI (7919 + (Int.tmod (((gi d 1).int + 1) - 1) (((gi d 0).rows.length : Nat) : Int)))) then (bif (inI ((Int.tdiv (((gi d 1).int + 1) - 1) (((gi d 0).rows.length : Nat) : Int)) * (7919 + (Int.tmod (((gi d 1).int + 1) - 1) (((gi d 0).rows.length : Nat) : Int))))) then (bif (inI ((gi g2 0).int + ((Int.tdiv (((gi d 1).int + 1) - 1) (((gi d 0).rows.length : Nat) : Int)) * (7919 + (Int.tmod (((gi d 1).int + 1) - 1) (((gi d 0).rows.length : Nat) : Int)))))) then (callF (F_pilemake_Below [.i ((gi g2 0).int + ((Int.tdiv (((gi d 1).int + 1) - 1) (((gi d 0).rows.length : Nat) : Int)) * (7919 + (Int.tmod (((gi d 1).int + 1) - 1) (((gi d 0).rows.length : Nat) : Int))))), .i (gi d 2).int]) fun g3 => some [.l (gi d 0).rows, .i ((gi d 1).int + 1), .i (gi g3 0).int]) else none) else none) else none)) else none) else none) else none) else none) else none)) else none)
def s_mk_Next : FSpec := ⟨28, [.s (.ptr 0 0), .s (.int .i64)], [.box [.list [.int .i64], .int .i64]], [.slot 0], [.s (.int .i64)], [.box [.list [.int .i64], .int .i64]], [.fix 0], [], F_mk_Next⟩
theorem b_mk_Next : BodyOK P t10 nL0 Tryz.f28 s_mk_Next := fun d => by kernel_rfl
theorem c_mk_Next : COK P s_mk_Next := bdC hm t10_ok Tryz.func28 (nLk _ _ _) b_mk_Next
def t11 : Tab := t10.addW s_mk_Next
theorem t11_ok : TabOK P t11 := t10_ok.aW c_mk_Next

def F_mk_Range (d : List G) : Option (List G) :=
 (bif (ltI (gi d 3).int (gi d 2).int) then some [.l (gi d 0).rows, .i (gi d 1).int, .i (gi d 2).int] else (bif (inI ((gi d 3).int - (gi d 2).int)) then (bif (inI (((gi d 3).int - (gi d 2).int) + 1)) then (callF (F_mk_Next [.l (gi d 0).rows, .i (gi d 1).int, .i (((gi d 3).int - (gi d 2).int) + 1)]) fun g1 => (bif (inI ((gi d 2).int + (gi g1 2).int)) then some [.l (gi g1 0).rows, .i (gi g1 1).int, .i ((gi d 2).int + (gi g1 2).int)] else none)) else none) else none))
def s_mk_Range : FSpec := ⟨5, [.s (.ptr 0 0), .s (.int .i64), .s (.int .i64)], [.box [.list [.int .i64], .int .i64]], [.slot 0], [.s (.int .i64)], [.box [.list [.int .i64], .int .i64]], [.fix 0], [], F_mk_Range⟩
theorem b_mk_Range : BodyOK P t11 nL0 Tryz.f5 s_mk_Range := fun d => by kernel_rfl
theorem c_mk_Range : COK P s_mk_Range := bdC hm t11_ok Tryz.func5 (nLk _ _ _) b_mk_Range
def t12 : Tab := t11.addW s_mk_Range
theorem t12_ok : TabOK P t12 := t11_ok.aW c_mk_Range

def F_mk_Pick (d : List G) : Option (List G) :=
 (callF (F_mk_Next [.l (gi d 0).rows, .i (gi d 1).int, .i (((gi d 2).rows.length : Nat) : Int)]) fun g1 => (bif ((nnI (gi g1 2).int) && (ltI (gi g1 2).int (((gi d 2).rows.length : Nat) : Int))) then some [.l (gi g1 0).rows, .i (gi g1 1).int, .i (gi ((gi d 2).rows.getD (((gi g1 2).int).toNat) []) 0).int] else none))
def s_mk_Pick : FSpec := ⟨26, [.s (.ptr 0 0), .s (.list [.int .i64])], [.box [.list [.int .i64], .int .i64]], [.slot 0], [.s (.int .i64)], [.box [.list [.int .i64], .int .i64]], [.fix 0], [], F_mk_Pick⟩
theorem b_mk_Pick : BodyOK P t12 nL0 Tryz.f26 s_mk_Pick := fun d => by kernel_rfl
theorem c_mk_Pick : COK P s_mk_Pick := bdC hm t12_ok Tryz.func26 (nLk _ _ _) b_mk_Pick
def t13 : Tab := t12.addW s_mk_Pick
theorem t13_ok : TabOK P t13 := t12_ok.aW c_mk_Pick

def F_mk_Some (d : List G) : Option (List G) :=
 (callF (F_mk_Next [.l (gi d 0).rows, .i (gi d 1).int, .i (((gi d 2).rows.length : Nat) : Int)]) fun g1 => (bif ((nnI (gi g1 2).int) && (ltI (gi g1 2).int (((gi d 2).rows.length : Nat) : Int))) then some [.l (gi g1 0).rows, .i (gi g1 1).int, .s (gi ((gi d 2).rows.getD (((gi g1 2).int).toNat) []) 0).str] else none))
def s_mk_Some : FSpec := ⟨27, [.s (.ptr 0 0), .s (.list [.str])], [.box [.list [.int .i64], .int .i64]], [.slot 0], [.s (.str)], [.box [.list [.int .i64], .int .i64]], [.fix 0], [], F_mk_Some⟩
theorem b_mk_Some : BodyOK P t13 nL0 Tryz.f27 s_mk_Some := fun d => by kernel_rfl
theorem c_mk_Some : COK P s_mk_Some := bdC hm t13_ok Tryz.func27 (nLk _ _ _) b_mk_Some
def t14 : Tab := t13.addW s_mk_Some
theorem t14_ok : TabOK P t14 := t13_ok.aW c_mk_Some

def F_mk_Flip (d : List G) : Option (List G) :=
 (callF (F_mk_Next [.l (gi d 0).rows, .i (gi d 1).int, .i (gi d 2).int]) fun g1 => some [.l (gi g1 0).rows, .i (gi g1 1).int, .t ((gi g1 2).int == 0)])
def s_mk_Flip : FSpec := ⟨8, [.s (.ptr 0 0), .s (.int .i64)], [.box [.list [.int .i64], .int .i64]], [.slot 0], [.s (.bool)], [.box [.list [.int .i64], .int .i64]], [.fix 0], [], F_mk_Flip⟩
theorem b_mk_Flip : BodyOK P t14 nL0 Tryz.f8 s_mk_Flip := fun d => by kernel_rfl
theorem c_mk_Flip : COK P s_mk_Flip := bdC hm t14_ok Tryz.func8 (nLk _ _ _) b_mk_Flip
def t15 : Tab := t14.addW s_mk_Flip
theorem t15_ok : TabOK P t15 := t14_ok.aW c_mk_Flip

def F_mk_ACall (d : List G) : Option (List G) :=
 (callF (F_mk_Flip [.l (gi d 0).rows, .i (gi d 1).int, .i 60]) fun g1 => (bif (gi g1 2).bool then (callF (F_mk_Some [.l (gi g1 0).rows, .i (gi g1 1).int, .l [[.s (⟨#[]⟩ : ByteArray)], [.s (⟨#[107, 49]⟩ : ByteArray)], [.s (⟨#[75, 49, 65, 66]⟩ : ByteArray)], [.s (⟨#[107, 49, 97, 98, 47]⟩ : ByteArray)], [.s (⟨#[49, 97]⟩ : ByteArray)], [.s (⟨#[107, 49, 97, 98, 47, 109, 109, 47, 112]⟩ : ByteArray)]]]) fun g2 => some [.l (gi g2 0).rows, .i (gi g2 1).int, .s (gi g2 2).str]) else (callF (F_mk_Some [.l (gi g1 0).rows, .i (gi g1 1).int, .l [[.s (⟨#[107, 49, 97, 98]⟩ : ByteArray)], [.s (⟨#[107, 49, 97, 97]⟩ : ByteArray)], [.s (⟨#[107, 49, 97, 98, 47, 52]⟩ : ByteArray)], [.s (⟨#[111, 104, 50, 97, 98, 99]⟩ : ByteArray)], [.s (⟨#[111, 104, 50, 97, 98, 100]⟩ : ByteArray)], [.s (⟨#[119, 49, 97, 119]⟩ : ByteArray)], [.s (⟨#[110, 49, 109, 109]⟩ : ByteArray)], [.s (⟨#[103, 51, 120, 121, 122, 47, 112]⟩ : ByteArray)]]]) fun g3 => some [.l (gi g3 0).rows, .i (gi g3 1).int, .s (gi g3 2).str])))
def s_mk_ACall : FSpec := ⟨32, [.s (.ptr 0 0)], [.box [.list [.int .i64], .int .i64]], [.slot 0], [.s (.str)], [.box [.list [.int .i64], .int .i64]], [.fix 0], [], F_mk_ACall⟩
theorem b_mk_ACall : BodyOK P t15 nL0 Tryz.f32 s_mk_ACall := fun d => by kernel_rfl
theorem c_mk_ACall : COK P s_mk_ACall := bdC hm t15_ok Tryz.func32 (nLk _ _ _) b_mk_ACall
def t16 : Tab := t15.addW s_mk_ACall
theorem t16_ok : TabOK P t16 := t15_ok.aW c_mk_ACall

def F_mk_Odd (d : List G) : Option (List G) :=
 (callF (F_mk_Flip [.l (gi d 0).rows, .i (gi d 1).int, .i 12]) fun g1 => (bif (gi g1 2).bool then (bif (inI ((gi d 2).int - 1)) then (bif (inI ((gi d 3).int + 1)) then (callF (F_mk_Pick [.l (gi g1 0).rows, .i (gi g1 1).int, .l [[.i ((gi d 2).int - 1)], [.i ((gi d 3).int + 1)], [.i (gi d 2).int], [.i (gi d 3).int], [.i (-1099511627776)], [.i 1099511627776]]]) fun g2 => some [.l (gi g2 0).rows, .i (gi g2 1).int, .i (gi g2 2).int]) else none) else none) else (callF (F_mk_Range [.l (gi g1 0).rows, .i (gi g1 1).int, .i (gi d 2).int, .i (gi d 3).int]) fun g3 => some [.l (gi g3 0).rows, .i (gi g3 1).int, .i (gi g3 2).int])))
def s_mk_Odd : FSpec := ⟨29, [.s (.ptr 0 0), .s (.int .i64), .s (.int .i64)], [.box [.list [.int .i64], .int .i64]], [.slot 0], [.s (.int .i64)], [.box [.list [.int .i64], .int .i64]], [.fix 0], [], F_mk_Odd⟩
theorem b_mk_Odd : BodyOK P t16 nL0 Tryz.f29 s_mk_Odd := fun d => by kernel_rfl
theorem c_mk_Odd : COK P s_mk_Odd := bdC hm t16_ok Tryz.func29 (nLk _ _ _) b_mk_Odd
def t17 : Tab := t16.addW s_mk_Odd
theorem t17_ok : TabOK P t17 := t16_ok.aW c_mk_Odd

def F_mk_SomeContact (d : List G) : Option (List G) :=
 (callF (F_mk_Pick [.l (gi d 0).rows, .i (gi d 1).int, .l [[.i 1], [.i 1], [.i 2], [.i 3]]]) fun g1 => (callF (F_mk_Some [.l (gi g1 0).rows, .i (gi g1 1).int, .l [[.s (⟨#[98, 50, 48]⟩ : ByteArray)], [.s (⟨#[98, 50, 48]⟩ : ByteArray)], [.s (⟨#[98, 52, 48]⟩ : ByteArray)]]]) fun g2 => (callF (F_mk_ACall [.l (gi g2 0).rows, .i (gi g2 1).int]) fun g3 => (callF (F_mk_Pick [.l (gi g3 0).rows, .i (gi g3 1).int, .l [[.i 0], [.i 1], [.i 2], [.i 3], [.i 4], [.i 5], [.i 6], [.i 7]]]) fun g4 => (callF (F_mk_Pick [.l (gi g4 0).rows, .i (gi g4 1).int, .l [[.i 0], [.i 1], [.i 2], [.i 9]]]) fun g5 => (callF (F_mk_Some [.l (gi g5 0).rows, .i (gi g5 1).int, .l [[.s (⟨#[]⟩ : ByteArray)], [.s (⟨#[]⟩ : ByteArray)], [.s (⟨#[102, 105, 110]⟩ : ByteArray)]]]) fun g6 => (callF (F_mk_Some [.l (gi g6 0).rows, .i (gi g6 1).int, .l [[.s (⟨#[]⟩ : ByteArray)], [.s (⟨#[]⟩ : ByteArray)], [.s (⟨#[117, 115, 97]⟩ : ByteArray)]]]) fun g7 => (callF (F_mk_Flip [.l (gi g7 0).rows, .i (gi g7 1).int, .i 100]) fun g8 => (bif (gi g8 2).bool then (callF (F_mk_Next [.l (gi g8 0).rows, .i (gi g8 1).int, .i 4]) fun g9 => (bif ((gi g9 2).int == 0) then (callF (F_mk_Odd [.l (gi g9 0).rows, .i (gi g9 1).int, .i 0, .i 500]) fun g10 => (callF (F_mk_Odd [.l (gi g10 0).rows, .i (gi g10 1).int, .i 1, .i 3]) fun g11 => some [.l (gi g11 0).rows, .i (gi g11 1).int, .l [[.i (gi g10 2).int, .i (gi g11 2).int, .s (gi g2 2).str, .s (gi g3 2).str, .i (gi g4 2).int, .i (gi g5 2).int, .s (gi g6 2).str, .s (gi g7 2).str]]])) else (bif ((gi g9 2).int == 1) then (callF (F_mk_Some [.l (gi g9 0).rows, .i (gi g9 1).int, .l [[.s (⟨#[]⟩ : ByteArray)], [.s (⟨#[66]⟩ : ByteArray)], [.s (⟨#[98, 50, 48]⟩ : ByteArray)]]]) fun g12 => some [.l (gi g12 0).rows, .i (gi g12 1).int, .l [[.i (gi d 2).int, .i (gi g1 2).int, .s (gi g12 2).str, .s (gi g3 2).str, .i (gi g4 2).int, .i (gi g5 2).int, .s (gi g6 2).str, .s (gi g7 2).str]]]) else (bif ((gi g9 2).int == 2) then (callF (F_mk_Odd [.l (gi g9 0).rows, .i (gi g9 1).int, .i 0, .i 99999]) fun g13 => (callF (F_mk_Odd [.l (gi g13 0).rows, .i (gi g13 1).int, .i 0, .i 99999]) fun g14 => some [.l (gi g14 0).rows, .i (gi g14 1).int, .l [[.i (gi d 2).int, .i (gi g1 2).int, .s (gi g2 2).str, .s (gi g3 2).str, .i (gi g13 2).int, .i (gi g14 2).int, .s (gi g6 2).str, .s (gi g7 2).str]]])) else (callF (F_mk_Some [.l (gi g9 0).rows, .i (gi g9 1).int, .l [[.s (⟨#[]⟩ : ByteArray)], [.s (⟨#[65]⟩ : ByteArray)]]]) fun g15 => (callF (F_mk_Some [.l (gi g15 0).rows, .i (gi g15 1).int, .l [[.s (⟨#[49]⟩ : ByteArray)], [.s (⟨#[117, 115, 97]⟩ : ByteArray)]]]) fun g16 => some [.l (gi g16 0).rows, .i (gi g16 1).int, .l [[.i (gi d 2).int, .i (gi g1 2).int, .s (gi g2 2).str, .s (gi g3 2).str, .i (gi g4 2).int, .i (gi g5 2).int, .s (gi g15 2).str, .s (gi g16 2).str]]])))))) else some [.l (gi g8 0).rows, .i (gi g8 1).int, .l [[.i (gi d 2).int, .i (gi g1 2).int, .s (gi g2 2).str, .s (gi g3 2).str, .i (gi g4 2).int, .i (gi g5 2).int, .s (gi g6 2).str, .s (gi g7 2).str]]])))))))))
def s_mk_SomeContact : FSpec := ⟨7, [.s (.ptr 0 0), .s (.int .i64)], [.box [.list [.int .i64], .int .i64]], [.slot 0], [.s (.row KCt)], [.box [.list [.int .i64], .int .i64]], [.fix 0], [], F_mk_SomeContact⟩
theorem b_mk_SomeContact : BodyOK P t17 nL0 Tryz.f7 s_mk_SomeContact := fun d => by kernel_rfl
theorem c_mk_SomeContact : COK P s_mk_SomeContact := bdC hm t17_ok Tryz.func7 (nLk _ _ _) b_mk_SomeContact
def t18 : Tab := t17.addW s_mk_SomeContact
theorem t18_ok : TabOK P t18 := t17_ok.aW c_mk_SomeContact

def F_r2_sign (d : List G) : Option (List G) :=
 (bif (ltI (gi d 0).int 0) then some [.i (-1)] else (bif (ltI 0 (gi d 0).int) then some [.i 1] else some [.i 0]))
def s_r2_sign : FSpec := ⟨58, [.s (.int .i64)], [], [], [.s (.int .i64)], [], [], [], F_r2_sign⟩
theorem b_r2_sign : BodyOK P t18 nL0 Tryz.f58 s_r2_sign := fun d => by kernel_rfl
theorem c_r2_sign : COK P s_r2_sign := bdC hm t18_ok Tryz.func58 (nLk _ _ _) b_r2_sign
def t19 : Tab := t18.addP s_r2_sign
theorem t19_ok : TabOK P t19 := t18_ok.aP c_r2_sign

def F_r2_DeedOrder (d : List G) : Option (List G) :=
 (bif ((gi (gi d 0).row 2).int != (gi (gi d 1).row 2).int) then (bif (inI ((gi (gi d 0).row 2).int - (gi (gi d 1).row 2).int)) then (callF (F_r2_sign [.i ((gi (gi d 0).row 2).int - (gi (gi d 1).row 2).int)]) fun g1 => some [.i (gi g1 0).int]) else none) else (bif (!((gi (gi d 0).row 0).str.toList == (gi (gi d 1).row 0).str.toList)) then (callF (F_strings_Compare [.s (gi (gi d 0).row 0).str, .s (gi (gi d 1).row 0).str]) fun g2 => some [.i (gi g2 0).int]) else (bif (inI ((gi (gi d 0).row 1).int - (gi (gi d 1).row 1).int)) then (callF (F_r2_sign [.i ((gi (gi d 0).row 1).int - (gi (gi d 1).row 1).int)]) fun g3 => some [.i (gi g3 0).int]) else none)))
def s_r2_DeedOrder : FSpec := ⟨31, [.s (.row KDeed), .s (.row KDeed)], [], [], [.s (.int .i64)], [], [], [], F_r2_DeedOrder⟩
theorem b_r2_DeedOrder : BodyOK P t19 nL0 Tryz.f31 s_r2_DeedOrder := fun d => by kernel_rfl
theorem c_r2_DeedOrder : COK P s_r2_DeedOrder := bdC hm t19_ok Tryz.func31 (nLk _ _ _) b_r2_DeedOrder
def t20 : Tab := t19.addP s_r2_DeedOrder
theorem t20_ok : TabOK P t20 := t19_ok.aP c_r2_DeedOrder

def st_insS_Deed_4 (d : List G) : Option (Option Nat × List G) :=
 (bif (ltI (gi d 1).int (gi d 4).int) then (bif ((nnI (gi d 4).int) && (ltI (gi d 4).int (((gi d 0).rows.length : Nat) : Int))) then (bif (decide ((0 + ((gi d 4).int).toNat) < (gi d 0).rows.length)) then (bif (inI ((gi d 4).int - 1)) then (bif ((nnI ((gi d 4).int - 1)) && (ltI ((gi d 4).int - 1) (((gi d 0).rows.length : Nat) : Int))) then (bif (decide ((0 + ((gi d 4).int - 1).toNat) < (gi d 0).rows.length)) then (callF (F_r2_DeedOrder [.l [(gEta KDeed ((gi d 0).rows.getD (0 + ((gi d 4).int).toNat) []))], .l [(gEta KDeed ((gi d 0).rows.getD (0 + ((gi d 4).int - 1).toNat) []))]]) fun g1 => (bif (ltI (gi g1 0).int 0) then (bif (inI ((gi d 4).int - 1)) then (bif (inI ((gi d 4).int - 1)) then (bif ((nnI ((gi d 4).int - 1)) && (ltI ((gi d 4).int - 1) (((gi d 0).rows.length : Nat) : Int))) then (bif (decide ((0 + ((gi d 4).int - 1).toNat) < (gi d 0).rows.length)) then (bif ((nnI (gi d 4).int) && (ltI (gi d 4).int (((gi d 0).rows.length : Nat) : Int))) then (bif (decide ((0 + ((gi d 4).int).toNat) < (gi d 0).rows.length)) then (bif ((nnI (gi d 4).int) && (ltI (gi d 4).int (((gi d 0).rows.length : Nat) : Int))) then (bif (decide ((0 + ((gi d 4).int).toNat) < (gi d 0).rows.length)) then (bif ((nnI ((gi d 4).int - 1)) && (ltI ((gi d 4).int - 1) (((gi d 0).rows.length : Nat) : Int))) then (bif (decide ((0 + ((gi d 4).int - 1).toNat) < ((gi d 0).rows.set (0 + ((gi d 4).int).toNat) (putG KDeed ((gi d 0).rows.getD (0 + ((gi d 4).int).toNat) []) 0 (gEta KDeed ((gi d 0).rows.getD (0 + ((gi d 4).int - 1).toNat) [])))).length)) then (bif (inI ((gi d 4).int - 1)) then (bif ((Nat.beq (gi d 0).rows.length (((gi d 0).rows.set (0 + ((gi d 4).int).toNat) (putG KDeed ((gi d 0).rows.getD (0 + ((gi d 4).int).toNat) []) 0 (gEta KDeed ((gi d 0).rows.getD (0 + ((gi d 4).int - 1).toNat) [])))).set (0 + ((gi d 4).int - 1).toNat) (putG KDeed (((gi d 0).rows.set (0 + ((gi d 4).int).toNat) (putG KDeed ((gi d 0).rows.getD (0 + ((gi d 4).int).toNat) []) 0 (gEta KDeed ((gi d 0).rows.getD (0 + ((gi d 4).int - 1).toNat) [])))).getD (0 + ((gi d 4).int - 1).toNat) []) 0 (gEta KDeed ((gi d 0).rows.getD (0 + ((gi d 4).int).toNat) [])))).length) && true) then some (none, [.l (((gi d 0).rows.set (0 + ((gi d 4).int).toNat) (putG KDeed ((gi d 0).rows.getD (0 + ((gi d 4).int).toNat) []) 0 (gEta KDeed ((gi d 0).rows.getD (0 + ((gi d 4).int - 1).toNat) [])))).set (0 + ((gi d 4).int - 1).toNat) (putG KDeed (((gi d 0).rows.set (0 + ((gi d 4).int).toNat) (putG KDeed ((gi d 0).rows.getD (0 + ((gi d 4).int).toNat) []) 0 (gEta KDeed ((gi d 0).rows.getD (0 + ((gi d 4).int - 1).toNat) [])))).getD (0 + ((gi d 4).int - 1).toNat) []) 0 (gEta KDeed ((gi d 0).rows.getD (0 + ((gi d 4).int).toNat) [])))), .i (gi d 1).int, .i (gi d 2).int, .i (gi d 3).int, .i ((gi d 4).int - 1)]) else none) else none) else none) else none) else none) else none) else none) else none) else none) else none) else none) else none) else (bif ((Nat.beq (gi d 0).rows.length (gi d 0).rows.length) && true) then some (some 0, [.l (gi d 0).rows, .i (gi d 1).int, .i (gi d 2).int, .i (gi d 3).int]) else none))) else none) else none) else none) else none) else none) else (bif ((Nat.beq (gi d 0).rows.length (gi d 0).rows.length) && true) then some (some 0, [.l (gi d 0).rows, .i (gi d 1).int, .i (gi d 2).int, .i (gi d 3).int]) else none))
def l_insS_Deed_4 : LSpec := ⟨4, [], ⟨53, [(0, .s (.vec 0 15)), (1, .s (.int .i64)), (2, .s (.int .i64)), (3, .s (.fn 31)), (8, .s (.int .i64)), (9, .s (.int .i64))], [.vec KDeed 0]⟩, [.fix 0], [⟨.exit 2, ⟨53, [(0, .s (.vec 0 15)), (1, .s (.int .i64)), (2, .s (.int .i64)), (3, .s (.fn 31)), (8, .s (.int .i64))], [.vec KDeed 0]⟩, [.fix 0]⟩], st_insS_Deed_4⟩
theorem r_insS_Deed_4 : RoundOK P t20 nL0 1 (loopAt Tryz.f84 4) l_insS_Deed_4 := fun d => by kernel_rfl
def L_insS_Deed_4 : LT := nL0.add 1 l_insS_Deed_4
theorem L_insS_Deed_4_ok : LpK P 1 L_insS_Deed_4 (bodyOf Tryz.f84) := LpK.a hm t20_ok (nLk _ _ _) r_insS_Deed_4
def st_insS_Deed_1 (d : List G) : Option (Option Nat × List G) :=
 (bif (ltI (gi d 3).int (gi d 2).int) then (loopB ((Nat.beq (gi d 0).rows.length (gi d 0).rows.length) && true) (LRun st_insS_Deed_4 [.l (gi d 0).rows, .i (gi d 1).int, .i (gi d 2).int, .i (gi d 3).int, .i (gi d 3).int]) fun cg2 g2 => (bif (inI ((gi g2 3).int + 1)) then (bif ((Nat.beq (gi g2 0).rows.length (gi g2 0).rows.length) && true) then some (none, [.l (gi g2 0).rows, .i (gi g2 1).int, .i (gi g2 2).int, .i ((gi g2 3).int + 1)]) else none) else none)) else some (some 0, [.l (gi d 0).rows]))
def l_insS_Deed_1 : LSpec := ⟨1, [], ⟨53, [(0, .s (.vec 0 15)), (1, .s (.int .i64)), (2, .s (.int .i64)), (3, .s (.fn 31)), (8, .s (.int .i64))], [.vec KDeed 0]⟩, [.fix 0], [⟨.exit 0, ⟨53, [], [.vec KDeed 0]⟩, [.fix 0]⟩], st_insS_Deed_1⟩
theorem r_insS_Deed_1 : RoundOK P t20 L_insS_Deed_4 1 (loopAt Tryz.f84 1) l_insS_Deed_1 := fun d => by kernel_rfl
def L_insS_Deed_1 : LT := L_insS_Deed_4.add 1 l_insS_Deed_1
theorem L_insS_Deed_1_ok : LpK P 1 L_insS_Deed_1 (bodyOf Tryz.f84) := LpK.a hm t20_ok L_insS_Deed_4_ok r_insS_Deed_1
def F_insS_Deed (d : List G) : Option (List G) :=
 (bif (inI ((gi d 1).int + 1)) then (loopB ((Nat.beq (gi d 0).rows.length (gi d 0).rows.length) && true) (LRun st_insS_Deed_1 [.l (gi d 0).rows, .i (gi d 1).int, .i (gi d 2).int, .i ((gi d 1).int + 1)]) fun cg3 g3 => some [.l (gi g3 0).rows]) else none)
def s_insS_Deed : FSpec := ⟨84, [.s (.vec 0 15), .s (.int .i64), .s (.int .i64), .s (.fn 31)], [.vec KDeed 0], [.slot 0], [], [.vec KDeed 0], [.fix 0], [], F_insS_Deed⟩
theorem b_insS_Deed : BodyOK P t20 L_insS_Deed_1 Tryz.f84 s_insS_Deed := fun d => by kernel_rfl
theorem c_insS_Deed : COK P s_insS_Deed := bdC hm t20_ok Tryz.func84 L_insS_Deed_1_ok b_insS_Deed
def t21 : Tab := t20.addW s_insS_Deed
theorem t21_ok : TabOK P t21 := t20_ok.aW c_insS_Deed

def st_stbS_Deed_2 (d : List G) : Option (Option Nat × List G) :=
 (bif (leI (gi d 4).int (gi d 1).int) then (callB (((Nat.beq (gi d 0).rows.length (gi d 0).rows.length) && true) && (F_insS_Deed [.l (gi d 0).rows, .i (gi d 3).int, .i (gi d 4).int]).isSome) (F_insS_Deed [.l (gi d 0).rows, .i (gi d 3).int, .i (gi d 4).int]) fun g1 => (bif (inI ((gi d 4).int + (gi d 2).int)) then (bif ((Nat.beq (gi d 0).rows.length (gi g1 0).rows.length) && true) then some (none, [.l (gi g1 0).rows, .i (gi d 1).int, .i (gi d 2).int, .i (gi d 4).int, .i ((gi d 4).int + (gi d 2).int)]) else none) else none)) else (bif ((Nat.beq (gi d 0).rows.length (gi d 0).rows.length) && true) then some (some 0, [.l (gi d 0).rows, .i (gi d 1).int, .i (gi d 2).int, .i (gi d 3).int]) else none))
def l_stbS_Deed_2 : LSpec := ⟨2, [], ⟨63, [(0, .s (.vec 0 15)), (1, .s (.int .i64)), (2, .s (.fn 31)), (6, .s (.int .i64)), (7, .s (.int .i64)), (8, .s (.int .i64))], [.vec KDeed 0]⟩, [.fix 0], [⟨.exit 0, ⟨63, [(0, .s (.vec 0 15)), (1, .s (.int .i64)), (2, .s (.fn 31)), (6, .s (.int .i64)), (7, .s (.int .i64))], [.vec KDeed 0]⟩, [.fix 0]⟩], st_stbS_Deed_2⟩
theorem r_stbS_Deed_2 : RoundOK P t21 nL0 1 (loopAt Tryz.f57 2) l_stbS_Deed_2 := fun d => by kernel_rfl
def L_stbS_Deed_2 : LT := nL0.add 1 l_stbS_Deed_2
theorem L_stbS_Deed_2_ok : LpK P 1 L_stbS_Deed_2 (bodyOf Tryz.f57) := LpK.a hm t21_ok (nLk _ _ _) r_stbS_Deed_2
def st_stbS_Deed_9 (d : List G) : Option (Option Nat × List G) :=
 (bif (leI (gi d 4).int (gi d 1).int) then (bif (inI ((gi d 3).int + (gi d 2).int)) then none else none) else (bif ((Nat.beq (gi d 0).rows.length (gi d 0).rows.length) && true) then some (some 0, [.l (gi d 0).rows, .i (gi d 1).int, .i (gi d 2).int, .i (gi d 3).int]) else none))
def l_stbS_Deed_9 : LSpec := ⟨9, [], ⟨63, [(0, .s (.vec 0 15)), (1, .s (.int .i64)), (2, .s (.fn 31)), (6, .s (.int .i64)), (7, .s (.int .i64)), (8, .s (.int .i64))], [.vec KDeed 0]⟩, [.fix 0], [⟨.exit 4, ⟨63, [(0, .s (.vec 0 15)), (1, .s (.int .i64)), (2, .s (.fn 31)), (6, .s (.int .i64)), (7, .s (.int .i64))], [.vec KDeed 0]⟩, [.fix 0]⟩], st_stbS_Deed_9⟩
theorem r_stbS_Deed_9 : RoundOK P t21 L_stbS_Deed_2 1 (loopAt Tryz.f57 9) l_stbS_Deed_9 := fun d => by kernel_rfl
def L_stbS_Deed_9 : LT := L_stbS_Deed_2.add 1 l_stbS_Deed_9
theorem L_stbS_Deed_9_ok : LpK P 1 L_stbS_Deed_9 (bodyOf Tryz.f57) := LpK.a hm t21_ok L_stbS_Deed_2_ok r_stbS_Deed_9
def st_stbS_Deed_7 (d : List G) : Option (Option Nat × List G) :=
 (bif (ltI (gi d 2).int (gi d 1).int) then (bif (inI (2 * (gi d 2).int)) then (loopB ((Nat.beq (gi d 0).rows.length (gi d 0).rows.length) && true) (LRun st_stbS_Deed_9 [.l (gi d 0).rows, .i (gi d 1).int, .i (gi d 2).int, .i 0, .i (2 * (gi d 2).int)]) fun cg4 g4 => (bif (inI ((gi g4 3).int + (gi g4 2).int)) then (bif (ltI ((gi g4 3).int + (gi g4 2).int) (gi g4 1).int) then none else (bif (inI ((gi g4 2).int * 2)) then (bif ((Nat.beq (gi g4 0).rows.length (gi g4 0).rows.length) && true) then some (none, [.l (gi g4 0).rows, .i (gi g4 1).int, .i ((gi g4 2).int * 2)]) else none) else none)) else none)) else none) else some (some 0, [.l (gi d 0).rows]))
def l_stbS_Deed_7 : LSpec := ⟨7, [], ⟨63, [(0, .s (.vec 0 15)), (1, .s (.int .i64)), (2, .s (.fn 31)), (6, .s (.int .i64))], [.vec KDeed 0]⟩, [.fix 0], [⟨.exit 2, ⟨63, [], [.vec KDeed 0]⟩, [.fix 0]⟩], st_stbS_Deed_7⟩
theorem r_stbS_Deed_7 : RoundOK P t21 L_stbS_Deed_9 1 (loopAt Tryz.f57 7) l_stbS_Deed_7 := fun d => by kernel_rfl
def L_stbS_Deed_7 : LT := L_stbS_Deed_9.add 1 l_stbS_Deed_7
theorem L_stbS_Deed_7_ok : LpK P 1 L_stbS_Deed_7 (bodyOf Tryz.f57) := LpK.a hm t21_ok L_stbS_Deed_9_ok r_stbS_Deed_7
def F_stbS_Deed (d : List G) : Option (List G) :=
 (loopB ((Nat.beq (gi d 0).rows.length (gi d 0).rows.length) && true) (LRun st_stbS_Deed_2 [.l (gi d 0).rows, .i (gi d 1).int, .i 20, .i 0, .i 20]) fun cg2 g2 => (callB (((Nat.beq (gi g2 0).rows.length (gi g2 0).rows.length) && true) && (F_insS_Deed [.l (gi g2 0).rows, .i (gi g2 3).int, .i (gi g2 1).int]).isSome) (F_insS_Deed [.l (gi g2 0).rows, .i (gi g2 3).int, .i (gi g2 1).int]) fun g3 => (loopB ((Nat.beq (gi g2 0).rows.length (gi g3 0).rows.length) && true) (LRun st_stbS_Deed_7 [.l (gi g3 0).rows, .i (gi g2 1).int, .i (gi g2 2).int]) fun cg5 g5 => some [.l (gi g5 0).rows])))
def s_stbS_Deed : FSpec := ⟨57, [.s (.vec 0 15), .s (.int .i64), .s (.fn 31)], [.vec KDeed 0], [.slot 0], [], [.vec KDeed 0], [.fix 0], [], F_stbS_Deed⟩
theorem b_stbS_Deed : BodyOK P t21 L_stbS_Deed_7 Tryz.f57 s_stbS_Deed := fun d => by kernel_rfl
theorem c_stbS_Deed : COK P s_stbS_Deed := bdC hm t21_ok Tryz.func57 L_stbS_Deed_7_ok b_stbS_Deed
def t22 : Tab := t21.addW s_stbS_Deed
theorem t22_ok : TabOK P t22 := t21_ok.aW c_stbS_Deed

def F_srtS_Deed (d : List G) : Option (List G) :=
 (callB (((Nat.beq (gi d 0).rows.length (gi d 0).rows.length) && true) && (F_stbS_Deed [.l (gi d 0).rows, .i (((gi d 0).rows.length : Nat) : Int)]).isSome) (F_stbS_Deed [.l (gi d 0).rows, .i (((gi d 0).rows.length : Nat) : Int)]) fun g1 => some [.l (gi g1 0).rows])
def s_srtS_Deed : FSpec := ⟨30, [.s (.vec 0 15), .s (.fn 31)], [.vec KDeed 0], [.slot 0], [], [.vec KDeed 0], [.fix 0], [], F_srtS_Deed⟩
theorem b_srtS_Deed : BodyOK P t22 nL0 Tryz.f30 s_srtS_Deed := fun d => by kernel_rfl
theorem c_srtS_Deed : COK P s_srtS_Deed := bdC hm t22_ok Tryz.func30 (nLk _ _ _) b_srtS_Deed
def t23 : Tab := t22.addW s_srtS_Deed
theorem t23_ok : TabOK P t23 := t22_ok.aW c_srtS_Deed

def tl_mk_Deeds_28 (d : List G) : Option (Option Nat × List G) :=
 (bif ((Nat.beq (gi d 2).rows.length (gi d 2).rows.length) && (decide (((gi d 2).rows.length + 1) ≤ 1048576))) then (bif ((Nat.beq ((gi d 2).rows ++ ([[.s (gi d 5).str, .i (gi d 6).int, .i (gi d 7).int, .i (gi d 8).int, .i (gi d 9).int, .i (gi d 10).int, .s (gi d 11).str, .s (gi d 12).str, .i (gi d 13).int, .i (gi d 14).int, .s (gi d 15).str, .s (gi d 16).str, .s (gi d 17).str, .s (gi d 18).str, .i (gi d 19).int]] : List (List G))).length ((gi d 2).rows ++ ([[.s (gi d 5).str, .i (gi d 6).int, .i (gi d 7).int, .i (gi d 8).int, .i (gi d 9).int, .i (gi d 10).int, .s (gi d 11).str, .s (gi d 12).str, .i (gi d 13).int, .i (gi d 14).int, .s (gi d 15).str, .s (gi d 16).str, .s (gi d 17).str, .s (gi d 18).str, .i (gi d 19).int]] : List (List G))).length) && true) then some (some 0, [.l (gi d 0).rows, .i (gi d 1).int, .l ((gi d 2).rows ++ ([[.s (gi d 5).str, .i (gi d 6).int, .i (gi d 7).int, .i (gi d 8).int, .i (gi d 9).int, .i (gi d 10).int, .s (gi d 11).str, .s (gi d 12).str, .i (gi d 13).int, .i (gi d 14).int, .s (gi d 15).str, .s (gi d 16).str, .s (gi d 17).str, .s (gi d 18).str, .i (gi d 19).int]] : List (List G))), .l (gi d 3).rows, .i (((gi d 4).int.toNat : Nat) : Int), .i (gi d 20).int, .i (gi d 21).int, .i (gi d 22).int]) else none) else none)
def l_mk_Deeds_28c : LSpec := ⟨28, [], ⟨115, [(0, .s (.ptr 0 0)), (5, .s (.vec 1 15)), (6, .s (.int .i64)), (7, .s (.map 2)), (8, .s (.ptr 3 0)), (10, .s (.int .i64)), (11, .s (.int .i64))], [.box [.list [.int .i64], .int .i64], .vec KDeed 0, .map (.one (.str)) (.one (.int .i64)), .box [.str, .int .i64, .int .i64, .int .i64, .int .i64, .int .i64, .str, .str, .int .i64, .int .i64, .str, .str, .str, .str, .int .i64]]⟩, [.fix 0, .slot 5, .slot 7, .slot 8], [⟨.normal, ⟨115, [(0, .s (.ptr 0 0)), (5, .s (.vec 1 15)), (6, .s (.int .i64)), (7, .s (.map 2)), (10, .s (.int .i64)), (11, .s (.int .i64))], [.box [.list [.int .i64], .int .i64], .vec KDeed 0, .map (.one (.str)) (.one (.int .i64))]⟩, [.fix 0, .slot 5, .slot 7]⟩], tl_mk_Deeds_28⟩
theorem r_mk_Deeds_28c : CutOK P t23 nL0 1 (cutAt Tryz.f4 28) l_mk_Deeds_28c := fun d => by kernel_rfl
def L_mk_Deeds_28c : LT := nL0.addCut 1 l_mk_Deeds_28c
theorem L_mk_Deeds_28c_ok : LpK P 1 L_mk_Deeds_28c (bodyOf Tryz.f4) := LpK.aC hm t23_ok (nLk _ _ _) r_mk_Deeds_28c
def tl_mk_Deeds_19 (d : List G) : Option (Option Nat × List G) :=
 (callF (F_mk_Flip [.l (gi d 0).rows, .i (gi d 1).int, .i 100]) fun g6 => (bif (gi g6 2).bool then (callF (F_mk_Next [.l (gi g6 0).rows, .i (gi g6 1).int, .i 4]) fun g7 => (bif ((gi g7 2).int == 0) then (callF (F_mk_Some [.l (gi g7 0).rows, .i (gi g7 1).int, .l [[.s (⟨#[]⟩ : ByteArray)], [.s (⟨#[115, 97]⟩ : ByteArray)]]]) fun g8 => (callF (F_mk_Odd [.l (gi g8 0).rows, .i (gi g8 1).int, .i 1, .i 9]) fun g9 => (loopB ((Nat.beq (gi d 2).rows.length (gi d 2).rows.length) && true) (cutR (tl_mk_Deeds_28 [.l (gi g9 0).rows, .i (gi g9 1).int, .l (gi d 2).rows, .l (gi d 3).rows, .i (((gi d 4).int.toNat : Nat) : Int), .s (gi g8 2).str, .i (gi g9 2).int, .i (gi d 7).int, .i (gi d 8).int, .i (gi d 9).int, .i (gi d 10).int, .s (gi d 11).str, .s (gi d 12).str, .i (gi d 13).int, .i (gi d 14).int, .s (gi d 15).str, .s (gi d 16).str, .s (gi d 17).str, .s (gi d 18).str, .i (gi d 19).int, .i (gi d 20).int, .i (gi d 21).int, .i (gi d 22).int])) fun cg10 g10 => (bif ((Nat.beq (gi g10 2).rows.length (gi g10 2).rows.length) && true) then some (some 0, [.l (gi g10 0).rows, .i (gi g10 1).int, .l (gi g10 2).rows, .l (gi g10 3).rows, .i (((gi g10 4).int.toNat : Nat) : Int), .i (gi g10 5).int, .i (gi g10 6).int, .i (gi g10 7).int]) else none)))) else (bif ((gi g7 2).int == 1) then (callF (F_mk_Odd [.l (gi g7 0).rows, .i (gi g7 1).int, .i 1, .i 5]) fun g11 => (loopB ((Nat.beq (gi d 2).rows.length (gi d 2).rows.length) && true) (cutR (tl_mk_Deeds_28 [.l (gi g11 0).rows, .i (gi g11 1).int, .l (gi d 2).rows, .l (gi d 3).rows, .i (((gi d 4).int.toNat : Nat) : Int), .s (gi d 5).str, .i (gi d 6).int, .i (gi d 7).int, .i (gi g11 2).int, .i (gi d 9).int, .i (gi d 10).int, .s (gi d 11).str, .s (gi d 12).str, .i (gi d 13).int, .i (gi d 14).int, .s (gi d 15).str, .s (gi d 16).str, .s (gi d 17).str, .s (gi d 18).str, .i (gi d 19).int, .i (gi d 20).int, .i (gi d 21).int, .i (gi d 22).int])) fun cg12 g12 => (bif ((Nat.beq (gi g12 2).rows.length (gi g12 2).rows.length) && true) then some (some 0, [.l (gi g12 0).rows, .i (gi g12 1).int, .l (gi g12 2).rows, .l (gi g12 3).rows, .i (((gi g12 4).int.toNat : Nat) : Int), .i (gi g12 5).int, .i (gi g12 6).int, .i (gi g12 7).int]) else none))) else (bif ((gi g7 2).int == 2) then (callF (F_mk_Some [.l (gi g7 0).rows, .i (gi g7 1).int, .l [[.s (⟨#[]⟩ : ByteArray)], [.s (⟨#[98, 50, 48]⟩ : ByteArray)]]]) fun g13 => (callF (F_mk_Some [.l (gi g13 0).rows, .i (gi g13 1).int, .l [[.s (⟨#[]⟩ : ByteArray)], [.s (⟨#[115, 97]⟩ : ByteArray)]]]) fun g14 => (loopB ((Nat.beq (gi d 2).rows.length (gi d 2).rows.length) && true) (cutR (tl_mk_Deeds_28 [.l (gi g14 0).rows, .i (gi g14 1).int, .l (gi d 2).rows, .l (gi d 3).rows, .i (((gi d 4).int.toNat : Nat) : Int), .s (gi d 5).str, .i (gi d 6).int, .i (gi d 7).int, .i (gi d 8).int, .i (gi d 9).int, .i (gi d 10).int, .s (gi d 11).str, .s (gi d 12).str, .i (gi d 13).int, .i (gi d 14).int, .s (gi d 15).str, .s (gi d 16).str, .s (gi g13 2).str, .s (gi g14 2).str, .i (gi d 19).int, .i (gi d 20).int, .i (gi d 21).int, .i (gi d 22).int])) fun cg15 g15 => (bif ((Nat.beq (gi g15 2).rows.length (gi g15 2).rows.length) && true) then some (some 0, [.l (gi g15 0).rows, .i (gi g15 1).int, .l (gi g15 2).rows, .l (gi g15 3).rows, .i (((gi g15 4).int.toNat : Nat) : Int), .i (gi g15 5).int, .i (gi g15 6).int, .i (gi g15 7).int]) else none)))) else (callF (F_mk_Odd [.l (gi g7 0).rows, .i (gi g7 1).int, .i 1, .i 99999]) fun g16 => (callF (F_mk_Odd [.l (gi g16 0).rows, .i (gi g16 1).int, .i 0, .i 5]) fun g17 => (loopB ((Nat.beq (gi d 2).rows.length (gi d 2).rows.length) && true) (cutR (tl_mk_Deeds_28 [.l (gi g17 0).rows, .i (gi g17 1).int, .l (gi d 2).rows, .l (gi d 3).rows, .i (((gi d 4).int.toNat : Nat) : Int), .s (gi d 5).str, .i (gi d 6).int, .i (gi d 7).int, .i (gi d 8).int, .i (gi d 9).int, .i (gi d 10).int, .s (gi d 11).str, .s (gi d 12).str, .i (gi g16 2).int, .i (gi d 14).int, .s (gi d 15).str, .s (gi d 16).str, .s (gi d 17).str, .s (gi d 18).str, .i (gi g17 2).int, .i (gi d 20).int, .i (gi d 21).int, .i (gi d 22).int])) fun cg18 g18 => (bif ((Nat.beq (gi g18 2).rows.length (gi g18 2).rows.length) && true) then some (some 0, [.l (gi g18 0).rows, .i (gi g18 1).int, .l (gi g18 2).rows, .l (gi g18 3).rows, .i (((gi g18 4).int.toNat : Nat) : Int), .i (gi g18 5).int, .i (gi g18 6).int, .i (gi g18 7).int]) else none)))))))) else (loopB ((Nat.beq (gi d 2).rows.length (gi d 2).rows.length) && true) (cutR (tl_mk_Deeds_28 [.l (gi g6 0).rows, .i (gi g6 1).int, .l (gi d 2).rows, .l (gi d 3).rows, .i (((gi d 4).int.toNat : Nat) : Int), .s (gi d 5).str, .i (gi d 6).int, .i (gi d 7).int, .i (gi d 8).int, .i (gi d 9).int, .i (gi d 10).int, .s (gi d 11).str, .s (gi d 12).str, .i (gi d 13).int, .i (gi d 14).int, .s (gi d 15).str, .s (gi d 16).str, .s (gi d 17).str, .s (gi d 18).str, .i (gi d 19).int, .i (gi d 20).int, .i (gi d 21).int, .i (gi d 22).int])) fun cg19 g19 => (bif ((Nat.beq (gi g19 2).rows.length (gi g19 2).rows.length) && true) then some (some 0, [.l (gi g19 0).rows, .i (gi g19 1).int, .l (gi g19 2).rows, .l (gi g19 3).rows, .i (((gi g19 4).int.toNat : Nat) : Int), .i (gi g19 5).int, .i (gi g19 6).int, .i (gi g19 7).int]) else none))))
def l_mk_Deeds_19c : LSpec := ⟨19, [], ⟨115, [(0, .s (.ptr 0 0)), (5, .s (.vec 1 15)), (6, .s (.int .i64)), (7, .s (.map 2)), (8, .s (.ptr 3 0)), (10, .s (.int .i64)), (11, .s (.int .i64))], [.box [.list [.int .i64], .int .i64], .vec KDeed 0, .map (.one (.str)) (.one (.int .i64)), .box [.str, .int .i64, .int .i64, .int .i64, .int .i64, .int .i64, .str, .str, .int .i64, .int .i64, .str, .str, .str, .str, .int .i64]]⟩, [.fix 0, .slot 5, .slot 7, .slot 8], [⟨.normal, ⟨115, [(0, .s (.ptr 0 0)), (5, .s (.vec 1 15)), (6, .s (.int .i64)), (7, .s (.map 2)), (10, .s (.int .i64)), (11, .s (.int .i64))], [.box [.list [.int .i64], .int .i64], .vec KDeed 0, .map (.one (.str)) (.one (.int .i64))]⟩, [.fix 0, .slot 5, .slot 7]⟩], tl_mk_Deeds_19⟩
theorem r_mk_Deeds_19c : CutOK P t23 L_mk_Deeds_28c 1 (cutAt Tryz.f4 19) l_mk_Deeds_19c := fun d => by kernel_rfl
def L_mk_Deeds_19c : LT := L_mk_Deeds_28c.addCut 1 l_mk_Deeds_19c
theorem L_mk_Deeds_19c_ok : LpK P 1 L_mk_Deeds_19c (bodyOf Tryz.f4) := LpK.aC hm t23_ok L_mk_Deeds_28c_ok r_mk_Deeds_19c
def tl_mk_Deeds_18 (d : List G) : Option (Option Nat × List G) :=
 (bif (gi d 23).bool then (callF (F_mk_Range [.l (gi d 0).rows, .i (gi d 1).int, .i 1, .i 7]) fun g23 => (bif ((Nat.beq (gi d 2).rows.length (gi d 2).rows.length) && true) then some (some 0, [.l (gi g23 0).rows, .i (gi g23 1).int, .l (gi d 2).rows, .l (gi d 3).rows, .i (((gi d 4).int.toNat : Nat) : Int), .s (gi d 5).str, .i (gi d 6).int, .i (gi d 7).int, .i (gi d 8).int, .i (gi d 9).int, .i (gi d 10).int, .s (gi d 11).str, .s (gi d 12).str, .i (gi g23 2).int, .i (gi d 14).int, .s (gi d 15).str, .s (gi d 16).str, .s (gi d 17).str, .s (gi d 18).str, .i (gi d 19).int, .i (gi d 20).int, .i (gi d 21).int, .i (gi d 22).int]) else none)) else (callF (F_mk_Some [.l (gi d 0).rows, .i (gi d 1).int, .l [[.s (⟨#[115, 97]⟩ : ByteArray)], [.s (⟨#[115, 97]⟩ : ByteArray)], [.s (⟨#[115, 98]⟩ : ByteArray)]]]) fun g24 => (callF (F_mk_Range [.l (gi g24 0).rows, .i (gi g24 1).int, .i 1, .i (if (gi (mget [.str] (gi d 3).rows [.s (⟨#[115, 97]⟩ : ByteArray)] [.i 0]) 0).int > 1 then (gi (mget [.str] (gi d 3).rows [.s (⟨#[115, 97]⟩ : ByteArray)] [.i 0]) 0).int else 1)]) fun g25 => (bif ((Nat.beq (gi d 2).rows.length (gi d 2).rows.length) && true) then some (some 0, [.l (gi g25 0).rows, .i (gi g25 1).int, .l (gi d 2).rows, .l (gi d 3).rows, .i (((gi d 4).int.toNat : Nat) : Int), .s (gi d 5).str, .i (gi d 6).int, .i (gi d 7).int, .i (gi d 8).int, .i (gi d 9).int, .i (gi d 10).int, .s (gi d 11).str, .s (gi d 12).str, .i (gi d 13).int, .i (gi d 14).int, .s (gi d 15).str, .s (gi d 16).str, .s (gi d 17).str, .s (gi g24 2).str, .i (gi g25 2).int, .i (gi d 20).int, .i (gi d 21).int, .i (gi d 22).int]) else none))))
def l_mk_Deeds_18c : LSpec := ⟨18, [], ⟨115, [(0, .s (.ptr 0 0)), (5, .s (.vec 1 15)), (6, .s (.int .i64)), (7, .s (.map 2)), (8, .s (.ptr 3 0)), (10, .s (.int .i64)), (11, .s (.int .i64)), (65, .s (.bool))], [.box [.list [.int .i64], .int .i64], .vec KDeed 0, .map (.one (.str)) (.one (.int .i64)), .box [.str, .int .i64, .int .i64, .int .i64, .int .i64, .int .i64, .str, .str, .int .i64, .int .i64, .str, .str, .str, .str, .int .i64]]⟩, [.fix 0, .slot 5, .slot 7, .slot 8], [⟨.normal, ⟨115, [(0, .s (.ptr 0 0)), (5, .s (.vec 1 15)), (6, .s (.int .i64)), (7, .s (.map 2)), (8, .s (.ptr 3 0)), (10, .s (.int .i64)), (11, .s (.int .i64))], [.box [.list [.int .i64], .int .i64], .vec KDeed 0, .map (.one (.str)) (.one (.int .i64)), .box [.str, .int .i64, .int .i64, .int .i64, .int .i64, .int .i64, .str, .str, .int .i64, .int .i64, .str, .str, .str, .str, .int .i64]]⟩, [.fix 0, .slot 5, .slot 7, .slot 8]⟩], tl_mk_Deeds_18⟩
theorem r_mk_Deeds_18c : CutOK P t23 L_mk_Deeds_19c 1 (cutAt Tryz.f4 18) l_mk_Deeds_18c := fun d => by kernel_rfl
def L_mk_Deeds_18c : LT := L_mk_Deeds_19c.addCut 1 l_mk_Deeds_18c
theorem L_mk_Deeds_18c_ok : LpK P 1 L_mk_Deeds_18c (bodyOf Tryz.f4) := LpK.aC hm t23_ok L_mk_Deeds_19c_ok r_mk_Deeds_18c
def st_mk_Deeds_5 (d : List G) : Option (Option Nat × List G) :=
 (bif (ltI (gi d 7).int (gi d 6).int) then (callF (F_mk_Pick [.l (gi d 0).rows, .i (gi d 1).int, .l [[.i 0], [.i 1], [.i 5]]]) fun g1 => (bif (inI ((gi d 5).int + (gi g1 2).int)) then (callF (F_mk_Some [.l (gi g1 0).rows, .i (gi g1 1).int, .l [[.s (⟨#[115, 97]⟩ : ByteArray)], [.s (⟨#[115, 97]⟩ : ByteArray)], [.s (⟨#[115, 98]⟩ : ByteArray)], [.s (⟨#[115, 99]⟩ : ByteArray)]]]) fun g2 => (callF (F_mk_Pick [.l (gi g2 0).rows, .i (gi g2 1).int, .l [[.i 1], [.i 1], [.i 1], [.i 1], [.i 2], [.i 3], [.i 3], [.i 4], [.i 5]]]) fun g3 => (bif (inI ((gi (mget [.str] (gi d 3).rows [.s (gi g2 2).str] [.i 0]) 0).int + 1)) then (bif ((gi g3 2).int == 1) then (bif (inI (((gi d 5).int + (gi g1 2).int) - 3)) then (callF (F_mk_Range [.l (gi g3 0).rows, .i (gi g3 1).int, .i (if (((gi d 5).int + (gi g1 2).int) - 3) > 0 then (((gi d 5).int + (gi g1 2).int) - 3) else 0), .i ((gi d 5).int + (gi g1 2).int)]) fun g4 => (callF (F_mk_SomeContact [.l (gi g4 0).rows, .i (gi g4 1).int, .i (gi g4 2).int]) fun g5 => (loopB ((Nat.beq (gi d 2).rows.length (gi d 2).rows.length) && true) (cutR (tl_mk_Deeds_19 [.l (gi g5 0).rows, .i (gi g5 1).int, .l (gi d 2).rows, .l (mput [.str] (gi d 3).rows [.s (gi g2 2).str] [.i ((gi (mget [.str] (gi d 3).rows [.s (gi g2 2).str] [.i 0]) 0).int + 1)] (gi d 4).int.toNat), .i (((mclk [.str] (gi d 3).rows [.s (gi g2 2).str] (gi d 4).int.toNat) : Nat) : Int), .s (gi g2 2).str, .i (gi (mget [.str] (mput [.str] (gi d 3).rows [.s (gi g2 2).str] [.i ((gi (mget [.str] (gi d 3).rows [.s (gi g2 2).str] [.i 0]) 0).int + 1)] (gi d 4).int.toNat) [.s (gi g2 2).str] [.i 0]) 0).int, .i ((gi d 5).int + (gi g1 2).int), .i (gi g3 2).int, .i (gi (gi g5 2).row 0).int, .i (gi (gi g5 2).row 1).int, .s (gi (gi g5 2).row 2).str, .s (gi (gi g5 2).row 3).str, .i (gi (gi g5 2).row 4).int, .i (gi (gi g5 2).row 5).int, .s (gi (gi g5 2).row 6).str, .s (gi (gi g5 2).row 7).str, .s (⟨#[]⟩ : ByteArray), .s (⟨#[]⟩ : ByteArray), .i 0, .i ((gi d 5).int + (gi g1 2).int), .i (gi d 6).int, .i (gi d 7).int])) fun cg20 g20 => (bif (inI ((gi g20 7).int + 1)) then (bif ((Nat.beq (gi g20 2).rows.length (gi g20 2).rows.length) && true) then some (none, [.l (gi g20 0).rows, .i (gi g20 1).int, .l (gi g20 2).rows, .l (gi g20 3).rows, .i (((gi g20 4).int.toNat : Nat) : Int), .i (gi g20 5).int, .i (gi g20 6).int, .i ((gi g20 7).int + 1)]) else none) else none)))) else none) else (bif ((gi g3 2).int == 2) then (callF (F_mk_Some [.l (gi g3 0).rows, .i (gi g3 1).int, .l [[.s (⟨#[98, 50, 48]⟩ : ByteArray)], [.s (⟨#[98, 52, 48]⟩ : ByteArray)]]]) fun g21 => (loopB ((Nat.beq (gi d 2).rows.length (gi d 2).rows.length) && true) (cutR (tl_mk_Deeds_19 [.l (gi g21 0).rows, .i (gi g21 1).int, .l (gi d 2).rows, .l (mput [.str] (gi d 3).rows [.s (gi g2 2).str] [.i ((gi (mget [.str] (gi d 3).rows [.s (gi g2 2).str] [.i 0]) 0).int + 1)] (gi d 4).int.toNat), .i (((mclk [.str] (gi d 3).rows [.s (gi g2 2).str] (gi d 4).int.toNat) : Nat) : Int), .s (gi g2 2).str, .i (gi (mget [.str] (mput [.str] (gi d 3).rows [.s (gi g2 2).str] [.i ((gi (mget [.str] (gi d 3).rows [.s (gi g2 2).str] [.i 0]) 0).int + 1)] (gi d 4).int.toNat) [.s (gi g2 2).str] [.i 0]) 0).int, .i ((gi d 5).int + (gi g1 2).int), .i (gi g3 2).int, .i 0, .i 0, .s (⟨#[]⟩ : ByteArray), .s (⟨#[]⟩ : ByteArray), .i 0, .i 0, .s (⟨#[]⟩ : ByteArray), .s (⟨#[]⟩ : ByteArray), .s (gi g21 2).str, .s (⟨#[]⟩ : ByteArray), .i 0, .i ((gi d 5).int + (gi g1 2).int), .i (gi d 6).int, .i (gi d 7).int])) fun cg22 g22 => (bif (inI ((gi g22 7).int + 1)) then (bif ((Nat.beq (gi g22 2).rows.length (gi g22 2).rows.length) && true) then some (none, [.l (gi g22 0).rows, .i (gi g22 1).int, .l (gi g22 2).rows, .l (gi g22 3).rows, .i (((gi g22 4).int.toNat : Nat) : Int), .i (gi g22 5).int, .i (gi g22 6).int, .i ((gi g22 7).int + 1)]) else none) else none))) else (bif ((gi g3 2).int == 3) then (loopB ((Nat.beq (gi d 2).rows.length (gi d 2).rows.length) && true) (cutR (tl_mk_Deeds_18 [.l (gi g3 0).rows, .i (gi g3 1).int, .l (gi d 2).rows, .l (mput [.str] (gi d 3).rows [.s (gi g2 2).str] [.i ((gi (mget [.str] (gi d 3).rows [.s (gi g2 2).str] [.i 0]) 0).int + 1)] (gi d 4).int.toNat), .i (((mclk [.str] (gi d 3).rows [.s (gi g2 2).str] (gi d 4).int.toNat) : Nat) : Int), .s (gi g2 2).str, .i (gi (mget [.str] (mput [.str] (gi d 3).rows [.s (gi g2 2).str] [.i ((gi (mget [.str] (gi d 3).rows [.s (gi g2 2).str] [.i 0]) 0).int + 1)] (gi d 4).int.toNat) [.s (gi g2 2).str] [.i 0]) 0).int, .i ((gi d 5).int + (gi g1 2).int), .i (gi g3 2).int, .i 0, .i 0, .s (⟨#[]⟩ : ByteArray), .s (⟨#[]⟩ : ByteArray), .i 0, .i 0, .s (⟨#[]⟩ : ByteArray), .s (⟨#[]⟩ : ByteArray), .s (⟨#[]⟩ : ByteArray), .s (⟨#[]⟩ : ByteArray), .i 0, .i ((gi d 5).int + (gi g1 2).int), .i (gi d 6).int, .i (gi d 7).int, .t ((gi g3 2).int == 3)])) fun cg26 g26 => (loopB ((Nat.beq (gi g26 2).rows.length (gi g26 2).rows.length) && true) (cutR (tl_mk_Deeds_19 [.l (gi g26 0).rows, .i (gi g26 1).int, .l (gi g26 2).rows, .l (gi g26 3).rows, .i (((gi g26 4).int.toNat : Nat) : Int), .s (gi g26 5).str, .i (gi g26 6).int, .i (gi g26 7).int, .i (gi g26 8).int, .i (gi g26 9).int, .i (gi g26 10).int, .s (gi g26 11).str, .s (gi g26 12).str, .i (gi g26 13).int, .i (gi g26 14).int, .s (gi g26 15).str, .s (gi g26 16).str, .s (gi g26 17).str, .s (gi g26 18).str, .i (gi g26 19).int, .i (gi g26 20).int, .i (gi g26 21).int, .i (gi g26 22).int])) fun cg27 g27 => (bif (inI ((gi g27 7).int + 1)) then (bif ((Nat.beq (gi g27 2).rows.length (gi g27 2).rows.length) && true) then some (none, [.l (gi g27 0).rows, .i (gi g27 1).int, .l (gi g27 2).rows, .l (gi g27 3).rows, .i (((gi g27 4).int.toNat : Nat) : Int), .i (gi g27 5).int, .i (gi g27 6).int, .i ((gi g27 7).int + 1)]) else none) else none))) else (loopB ((Nat.beq (gi d 2).rows.length (gi d 2).rows.length) && true) (cutR (tl_mk_Deeds_18 [.l (gi g3 0).rows, .i (gi g3 1).int, .l (gi d 2).rows, .l (mput [.str] (gi d 3).rows [.s (gi g2 2).str] [.i ((gi (mget [.str] (gi d 3).rows [.s (gi g2 2).str] [.i 0]) 0).int + 1)] (gi d 4).int.toNat), .i (((mclk [.str] (gi d 3).rows [.s (gi g2 2).str] (gi d 4).int.toNat) : Nat) : Int), .s (gi g2 2).str, .i (gi (mget [.str] (mput [.str] (gi d 3).rows [.s (gi g2 2).str] [.i ((gi (mget [.str] (gi d 3).rows [.s (gi g2 2).str] [.i 0]) 0).int + 1)] (gi d 4).int.toNat) [.s (gi g2 2).str] [.i 0]) 0).int, .i ((gi d 5).int + (gi g1 2).int), .i (gi g3 2).int, .i 0, .i 0, .s (⟨#[]⟩ : ByteArray), .s (⟨#[]⟩ : ByteArray), .i 0, .i 0, .s (⟨#[]⟩ : ByteArray), .s (⟨#[]⟩ : ByteArray), .s (⟨#[]⟩ : ByteArray), .s (⟨#[]⟩ : ByteArray), .i 0, .i ((gi d 5).int + (gi g1 2).int), .i (gi d 6).int, .i (gi d 7).int, .t ((gi g3 2).int == 4)])) fun cg28 g28 => (loopB ((Nat.beq (gi g28 2).rows.length (gi g28 2).rows.length) && true) (cutR (tl_mk_Deeds_19 [.l (gi g28 0).rows, .i (gi g28 1).int, .l (gi g28 2).rows, .l (gi g28 3).rows, .i (((gi g28 4).int.toNat : Nat) : Int), .s (gi g28 5).str, .i (gi g28 6).int, .i (gi g28 7).int, .i (gi g28 8).int, .i (gi g28 9).int, .i (gi g28 10).int, .s (gi g28 11).str, .s (gi g28 12).str, .i (gi g28 13).int, .i (gi g28 14).int, .s (gi g28 15).str, .s (gi g28 16).str, .s (gi g28 17).str, .s (gi g28 18).str, .i (gi g28 19).int, .i (gi g28 20).int, .i (gi g28 21).int, .i (gi g28 22).int])) fun cg29 g29 => (bif (inI ((gi g29 7).int + 1)) then (bif ((Nat.beq (gi g29 2).rows.length (gi g29 2).rows.length) && true) then some (none, [.l (gi g29 0).rows, .i (gi g29 1).int, .l (gi g29 2).rows, .l (gi g29 3).rows, .i (((gi g29 4).int.toNat : Nat) : Int), .i (gi g29 5).int, .i (gi g29 6).int, .i ((gi g29 7).int + 1)]) else none) else none)))))) else none))) else none)) else (bif ((Nat.beq (gi d 2).rows.length (gi d 2).rows.length) && true) then some (some 0, [.l (gi d 0).rows, .i (gi d 1).int, .l (gi d 2).rows]) else none))
def l_mk_Deeds_5 : LSpec := ⟨5, [(5, KDeed)], ⟨115, [(0, .s (.ptr 0 0)), (5, .s (.vec 1 15)), (6, .s (.int .i64)), (7, .s (.map 2)), (10, .s (.int .i64)), (11, .s (.int .i64))], [.box [.list [.int .i64], .int .i64], .vec KDeed 0, .map (.one (.str)) (.one (.int .i64))]⟩, [.fix 0, .slot 5, .slot 7], [⟨.exit 0, ⟨115, [(5, .s (.vec 1 15))], [.box [.list [.int .i64], .int .i64], .vec KDeed 0]⟩, [.fix 0, .slot 5]⟩], st_mk_Deeds_5⟩
theorem r_mk_Deeds_5 : RoundOK P t23 L_mk_Deeds_18c 1 (loopAt Tryz.f4 5) l_mk_Deeds_5 := fun d => by kernel_rfl
def L_mk_Deeds_5 : LT := L_mk_Deeds_18c.add 1 l_mk_Deeds_5
theorem L_mk_Deeds_5_ok : LpK P 1 L_mk_Deeds_5 (bodyOf Tryz.f4) := LpK.a hm t23_ok L_mk_Deeds_18c_ok r_mk_Deeds_5
def F_mk_Deeds (d : List G) : Option (List G) :=
 (loopB true (LRun st_mk_Deeds_5 [.l (gi d 0).rows, .i (gi d 1).int, .l [], .l [], .i 0, .i 0, .i (gi d 2).int, .i 0]) fun cg30 g30 => (callB (((Nat.beq (gi g30 2).rows.length (gi g30 2).rows.length) && true) && (F_srtS_Deed [.l (gi g30 2).rows]).isSome) (F_srtS_Deed [.l (gi g30 2).rows]) fun g31 => (bif ((Nat.beq (gi g30 2).rows.length (gi g31 0).rows.length) && true) then some [.l (gi g30 0).rows, .i (gi g30 1).int, .l (gi g31 0).rows] else none)))
def s_mk_Deeds : FSpec := ⟨4, [.s (.ptr 0 0), .s (.int .i64)], [.box [.list [.int .i64], .int .i64]], [.slot 0], [.s (.list KDeed)], [.box [.list [.int .i64], .int .i64]], [.fix 0], [], F_mk_Deeds⟩
theorem b_mk_Deeds : BodyOK P t23 L_mk_Deeds_5 Tryz.f4 s_mk_Deeds := fun d => by kernel_rfl
theorem c_mk_Deeds : COK P s_mk_Deeds := bdC hm t23_ok Tryz.func4 L_mk_Deeds_5_ok b_mk_Deeds
def t24 : Tab := t23.addW s_mk_Deeds
theorem t24_ok : TabOK P t24 := t23_ok.aW c_mk_Deeds

def F_mk_DeedTime (d : List G) : Option (List G) :=
 (callF (F_mk_Pick [.l (gi d 0).rows, .i (gi d 1).int, .l [[.i 0], [.i 3], [.i 10], [.i 20], [.i 40], [.i 60], [.i 60], [.i (-1)]]]) fun g1 => some [.l (gi g1 0).rows, .i (gi g1 1).int, .i (gi g1 2).int])
def s_mk_DeedTime : FSpec := ⟨6, [.s (.ptr 0 0)], [.box [.list [.int .i64], .int .i64]], [.slot 0], [.s (.int .i64)], [.box [.list [.int .i64], .int .i64]], [.fix 0], [], F_mk_DeedTime⟩
theorem b_mk_DeedTime : BodyOK P t24 nL0 Tryz.f6 s_mk_DeedTime := fun d => by kernel_rfl
theorem c_mk_DeedTime : COK P s_mk_DeedTime := bdC hm t24_ok Tryz.func6 (nLk _ _ _) b_mk_DeedTime
def t25 : Tab := t24.addW s_mk_DeedTime
theorem t25_ok : TabOK P t25 := t24_ok.aW c_mk_DeedTime

def F_kit_IsKey (d : List G) : Option (List G) :=
 (bif (!((gi d 0).str.toList == (⟨#[]⟩ : ByteArray).toList)) then (bif (leI (((gi d 0).str.size : Nat) : Int) 40) then (bif (ltI 0 (((gi d 0).str.size : Nat) : Int)) then (callF (F_strings_IndexByte [.s (⟨#[97, 98, 99, 100, 101, 102, 103, 104, 105, 106, 107, 108, 109, 110, 111, 112, 113, 114, 115, 116, 117, 118, 119, 120, 121, 122]⟩ : ByteArray), .i (((gi d 0).str.data.toList.getD 0 0).toNat : Int)]) fun g1 => (bif (leI 0 (gi g1 0).int) then (callF (F_strings_Trim [.s (gi d 0).str, .s (⟨#[97, 98, 99, 100, 101, 102, 103, 104, 105, 106, 107, 108, 109, 110, 111, 112, 113, 114, 115, 116, 117, 118, 119, 120, 121, 122, 48, 49, 50, 51, 52, 53, 54, 55, 56, 57, 45, 95]⟩ : ByteArray)]) fun g2 => some [.t ((gi g2 0).str.toList == (⟨#[]⟩ : ByteArray).toList)]) else some [.t false])) else none) else some [.t false]) else some [.t false])
def s_kit_IsKey : FSpec := ⟨66, [.s (.str)], [], [], [.s (.bool)], [], [], [], F_kit_IsKey⟩
theorem b_kit_IsKey : BodyOK P t25 nL0 Tryz.f66 s_kit_IsKey := fun d => by kernel_rfl
theorem c_kit_IsKey : COK P s_kit_IsKey := bdC hm t25_ok Tryz.func66 (nLk _ _ _) b_kit_IsKey
def t26 : Tab := t25.addP s_kit_IsKey
theorem t26_ok : TabOK P t26 := t25_ok.aP c_kit_IsKey

def F_kit_Outside (d : List G) : Option (List G) :=
 (bif (ltI (gi d 0).int (gi d 1).int) then some [.t true] else some [.t (ltI (gi d 2).int (gi d 0).int)])
def s_kit_Outside : FSpec := ⟨68, [.s (.int .i64), .s (.int .i64), .s (.int .i64)], [], [], [.s (.bool)], [], [], [], F_kit_Outside⟩
theorem b_kit_Outside : BodyOK P t26 nL0 Tryz.f68 s_kit_Outside := fun d => by kernel_rfl
theorem c_kit_Outside : COK P s_kit_Outside := bdC hm t26_ok Tryz.func68 (nLk _ _ _) b_kit_Outside
def t27 : Tab := t26.addP s_kit_Outside
theorem t27_ok : TabOK P t27 := t26_ok.aP c_kit_Outside

def F_kit_IsMoment (d : List G) : Option (List G) :=
 (callF (F_kit_Outside [.i (gi d 0).int, .i 0, .i 345686399999]) fun g1 => some [.t (!(gi g1 0).bool)])
def s_kit_IsMoment : FSpec := ⟨64, [.s (.int .i64)], [], [], [.s (.bool)], [], [], [], F_kit_IsMoment⟩
theorem b_kit_IsMoment : BodyOK P t27 nL0 Tryz.f64 s_kit_IsMoment := fun d => by kernel_rfl
theorem c_kit_IsMoment : COK P s_kit_IsMoment := bdC hm t27_ok Tryz.func64 (nLk _ _ _) b_kit_IsMoment
def t28 : Tab := t27.addP s_kit_IsMoment
theorem t28_ok : TabOK P t28 := t27_ok.aP c_kit_IsMoment

def F_kit_IsMode (d : List G) : Option (List G) :=
 (callF (F_kit_Outside [.i (gi d 0).int, .i 1, .i 3]) fun g1 => some [.t (!(gi g1 0).bool)])
def s_kit_IsMode : FSpec := ⟨65, [.s (.int .i64)], [], [], [.s (.bool)], [], [], [], F_kit_IsMode⟩
theorem b_kit_IsMode : BodyOK P t28 nL0 Tryz.f65 s_kit_IsMode := fun d => by kernel_rfl
theorem c_kit_IsMode : COK P s_kit_IsMode := bdC hm t28_ok Tryz.func65 (nLk _ _ _) b_kit_IsMode
def t29 : Tab := t28.addP s_kit_IsMode
theorem t29_ok : TabOK P t29 := t28_ok.aP c_kit_IsMode

def F_call_Is (d : List G) : Option (List G) :=
 (callF (F_call_Parts [.s (gi d 0).str]) fun g1 => some [.t (gi g1 1).bool])
def s_call_Is : FSpec := ⟨67, [.s (.str)], [], [], [.s (.bool)], [], [], [], F_call_Is⟩
theorem b_call_Is : BodyOK P t29 nL0 Tryz.f67 s_call_Is := fun d => by kernel_rfl
theorem c_call_Is : COK P s_call_Is := bdC hm t29_ok Tryz.func67 (nLk _ _ _) b_call_Is
def t30 : Tab := t29.addP s_call_Is
theorem t30_ok : TabOK P t30 := t29_ok.aP c_call_Is

def F_kit_IsName (d : List G) : Option (List G) :=
 (bif ((gi d 0).str.toList == (⟨#[]⟩ : ByteArray).toList) then some [.t true] else (callF (F_kit_IsKey [.s (gi d 0).str]) fun g1 => some [.t (gi g1 0).bool]))
def s_kit_IsName : FSpec := ⟨69, [.s (.str)], [], [], [.s (.bool)], [], [], [], F_kit_IsName⟩
theorem b_kit_IsName : BodyOK P t30 nL0 Tryz.f69 s_kit_IsName := fun d => by kernel_rfl
theorem c_kit_IsName : COK P s_kit_IsName := bdC hm t30_ok Tryz.func69 (nLk _ _ _) b_kit_IsName
def t31 : Tab := t30.addP s_kit_IsName
theorem t31_ok : TabOK P t31 := t30_ok.aP c_kit_IsName

def F_log_CheckContact (d : List G) : Option (List G) :=
 (callF (F_kit_IsMoment [.i (gi (gi d 0).row 0).int]) fun g1 => (bif (!(gi g1 0).bool) then some [.i 1] else (callF (F_kit_IsMode [.i (gi (gi d 0).row 1).int]) fun g2 => (bif (!(gi g2 0).bool) then some [.i 4] else (callF (F_kit_IsKey [.s (gi (gi d 0).row 2).str]) fun g3 => (bif (!(gi g3 0).bool) then some [.i 5] else (callF (F_call_Is [.s (gi (gi d 0).row 3).str]) fun g4 => (bif (!(gi g4 0).bool) then some [.i 3] else (callF (F_kit_Outside [.i (gi (gi d 0).row 4).int, .i 0, .i 99999]) fun g5 => (bif (gi g5 0).bool then some [.i 1] else (callF (F_kit_Outside [.i (gi (gi d 0).row 5).int, .i 0, .i 99999]) fun g6 => (bif (gi g6 0).bool then some [.i 1] else (callF (F_kit_IsName [.s (gi (gi d 0).row 6).str]) fun g7 => (bif (!(gi g7 0).bool) then some [.i 5] else (callF (F_kit_IsName [.s (gi (gi d 0).row 7).str]) fun g8 => (bif (!(gi g8 0).bool) then some [.i 5] else some [.i 0]))))))))))))))))
def s_log_CheckContact : FSpec := ⟨36, [.s (.row KCt)], [], [], [.s (.int .i64)], [], [], [], F_log_CheckContact⟩
theorem b_log_CheckContact : BodyOK P t31 nL0 Tryz.f36 s_log_CheckContact := fun d => by kernel_rfl
theorem c_log_CheckContact : COK P s_log_CheckContact := bdC hm t31_ok Tryz.func36 (nLk _ _ _) b_log_CheckContact
def t32 : Tab := t31.addP s_log_CheckContact
theorem t32_ok : TabOK P t32 := t31_ok.aP c_log_CheckContact

def F_net_logFault (d : List G) : Option (List G) :=
 (callF (F_log_CheckContact [.l [[.i (gi (gi d 0).row 4).int, .i (gi (gi d 0).row 5).int, .s (gi (gi d 0).row 6).str, .s (gi (gi d 0).row 7).str, .i (gi (gi d 0).row 8).int, .i (gi (gi d 0).row 9).int, .s (gi (gi d 0).row 10).str, .s (gi (gi d 0).row 11).str]]]) fun g1 => (bif ((gi g1 0).int != 0) then some [.i (gi g1 0).int] else (bif (ltI (gi (gi d 0).row 2).int (gi (gi d 0).row 4).int) then some [.i 1] else some [.i 0])))
def s_net_logFault : FSpec := ⟨188, [.s (.row KDeed)], [], [], [.s (.int .i64)], [], [], [], F_net_logFault⟩
theorem b_net_logFault : BodyOK P t32 nL0 Tryz.f188 s_net_logFault := fun d => by kernel_rfl
theorem c_net_logFault : COK P s_net_logFault := bdC hm t32_ok Tryz.func188 (nLk _ _ _) b_net_logFault
def t33 : Tab := t32.addP s_net_logFault
theorem t33_ok : TabOK P t33 := t32_ok.aP c_net_logFault

def F_net_usedFault (d : List G) : Option (List G) :=
 (bif ((gi (gi d 0).row 3).int == 1) then (callF (F_net_logFault [.l [(gEta KDeed (gi d 0).row)]]) fun g1 => some [.i (gi g1 0).int]) else (bif ((gi (gi d 0).row 3).int == 2) then (callF (F_kit_IsKey [.s (gi (gi d 0).row 12).str]) fun g2 => (bif (!(gi g2 0).bool) then some [.i 5] else some [.i 0])) else (bif ((gi (gi d 0).row 3).int == 5) then (callF (F_kit_IsKey [.s (gi (gi d 0).row 13).str]) fun g3 => (bif (!(gi g3 0).bool) then some [.i 5] else (callF (F_kit_Outside [.i (gi (gi d 0).row 14).int, .i 1, .i 1000000]) fun g4 => (bif (gi g4 0).bool then some [.i 1] else some [.i 0])))) else (callF (F_kit_Outside [.i (gi (gi d 0).row 8).int, .i 1, .i 99999]) fun g5 => (bif (gi g5 0).bool then some [.i 1] else some [.i 0])))))
def s_net_usedFault : FSpec := ⟨155, [.s (.row KDeed)], [], [], [.s (.int .i64)], [], [], [], F_net_usedFault⟩
theorem b_net_usedFault : BodyOK P t33 nL0 Tryz.f155 s_net_usedFault := fun d => by kernel_rfl
theorem c_net_usedFault : COK P s_net_usedFault := bdC hm t33_ok Tryz.func155 (nLk _ _ _) b_net_usedFault
def t34 : Tab := t33.addP s_net_usedFault
theorem t34_ok : TabOK P t34 := t33_ok.aP c_net_usedFault

def F_net_idle (d : List G) : Option (List G) :=
 (bif ((gi (gi d 0).row 3).int == 3) then (bif ((gi (gi d 0).row 3).int == 1) then (bif ((gi (gi d 0).row 3).int == 2) then (bif ((gi (gi d 0).row 3).int == 5) then some [.t true] else (bif ((gi (gi d 0).row 13).str.toList == (⟨#[]⟩ : ByteArray).toList) then some [.t ((gi (gi d 0).row 14).int == 0)] else some [.t false])) else (bif ((gi (gi d 0).row 12).str.toList == (⟨#[]⟩ : ByteArray).toList) then (bif ((gi (gi d 0).row 3).int == 5) then some [.t true] else (bif ((gi (gi d 0).row 13).str.toList == (⟨#[]⟩ : ByteArray).toList) then some [.t ((gi (gi d 0).row 14).int == 0)] else some [.t false])) else some [.t false])) else (bif (rowEq KCt [.i (gi (gi d 0).row 4).int, .i (gi (gi d 0).row 5).int, .s (gi (gi d 0).row 6).str, .s (gi (gi d 0).row 7).str, .i (gi (gi d 0).row 8).int, .i (gi (gi d 0).row 9).int, .s (gi (gi d 0).row 10).str, .s (gi (gi d 0).row 11).str] [.i 0, .i 0, .s (⟨#[]⟩ : ByteArray), .s (⟨#[]⟩ : ByteArray), .i (gi (gi d 0).row 8).int, .i 0, .s (⟨#[]⟩ : ByteArray), .s (⟨#[]⟩ : ByteArray)]) then (bif ((gi (gi d 0).row 3).int == 2) then (bif ((gi (gi d 0).row 3).int == 5) then some [.t true] else (bif ((gi (gi d 0).row 13).str.toList == (⟨#[]⟩ : ByteArray).toList) then some [.t ((gi (gi d 0).row 14).int == 0)] else some [.t false])) else (bif ((gi (gi d 0).row 12).str.toList == (⟨#[]⟩ : ByteArray).toList) then (bif ((gi (gi d 0).row 3).int == 5) then some [.t true] else (bif ((gi (gi d 0).row 13).str.toList == (⟨#[]⟩ : ByteArray).toList) then some [.t ((gi (gi d 0).row 14).int == 0)] else some [.t false])) else some [.t false])) else some [.t false])) else (bif ((gi (gi d 0).row 3).int == 4) then (bif ((gi (gi d 0).row 3).int == 1) then (bif ((gi (gi d 0).row 3).int == 2) then (bif ((gi (gi d 0).row 3).int == 5) then some [.t true] else (bif ((gi (gi d 0).row 13).str.toList == (⟨#[]⟩ : ByteArray).toList) then some [.t ((gi (gi d 0).row 14).int == 0)] else some [.t false])) else (bif ((gi (gi d 0).row 12).str.toList == (⟨#[]⟩ : ByteArray).toList) then (bif ((gi (gi d 0).row 3).int == 5) then some [.t true] else (bif ((gi (gi d 0).row 13).str.toList == (⟨#[]⟩ : ByteArray).toList) then some [.t ((gi (gi d 0).row 14).int == 0)] else some [.t false])) else some [.t false])) else (bif (rowEq KCt [.i (gi (gi d 0).row 4).int, .i (gi (gi d 0).row 5).int, .s (gi (gi d 0).row 6).str, .s (gi (gi d 0).row 7).str, .i (gi (gi d 0).row 8).int, .i (gi (gi d 0).row 9).int, .s (gi (gi d 0).row 10).str, .s (gi (gi d 0).row 11).str] [.i 0, .i 0, .s (⟨#[]⟩ : ByteArray), .s (⟨#[]⟩ : ByteArray), .i (gi (gi d 0).row 8).int, .i 0, .s (⟨#[]⟩ : ByteArray), .s (⟨#[]⟩ : ByteArray)]) then (bif ((gi (gi d 0).row 3).int == 2) then (bif ((gi (gi d 0).row 3).int == 5) then some [.t true] else (bif ((gi (gi d 0).row 13).str.toList == (⟨#[]⟩ : ByteArray).toList) then some [.t ((gi (gi d 0).row 14).int == 0)] else some [.t false])) else (bif ((gi (gi d 0).row 12).str.toList == (⟨#[]⟩ : ByteArray).toList) then (bif ((gi (gi d 0).row 3).int == 5) then some [.t true] else (bif ((gi (gi d 0).row 13).str.toList == (⟨#[]⟩ : ByteArray).toList) then some [.t ((gi (gi d 0).row 14).int == 0)] else some [.t false])) else some [.t false])) else some [.t false])) else (bif ((gi (gi d 0).row 3).int == 1) then (bif ((gi (gi d 0).row 3).int == 2) then (bif ((gi (gi d 0).row 3).int == 5) then some [.t true] else (bif ((gi (gi d 0).row 13).str.toList == (⟨#[]⟩ : ByteArray).toList) then some [.t ((gi (gi d 0).row 14).int == 0)] else some [.t false])) else (bif ((gi (gi d 0).row 12).str.toList == (⟨#[]⟩ : ByteArray).toList) then (bif ((gi (gi d 0).row 3).int == 5) then some [.t true] else (bif ((gi (gi d 0).row 13).str.toList == (⟨#[]⟩ : ByteArray).toList) then some [.t ((gi (gi d 0).row 14).int == 0)] else some [.t false])) else some [.t false])) else (bif (rowEq KCt [.i (gi (gi d 0).row 4).int, .i (gi (gi d 0).row 5).int, .s (gi (gi d 0).row 6).str, .s (gi (gi d 0).row 7).str, .i (gi (gi d 0).row 8).int, .i (gi (gi d 0).row 9).int, .s (gi (gi d 0).row 10).str, .s (gi (gi d 0).row 11).str] [.i 0, .i 0, .s (⟨#[]⟩ : ByteArray), .s (⟨#[]⟩ : ByteArray), .i 0, .i 0, .s (⟨#[]⟩ : ByteArray), .s (⟨#[]⟩ : ByteArray)]) then (bif ((gi (gi d 0).row 3).int == 2) then (bif ((gi (gi d 0).row 3).int == 5) then some [.t true] else (bif ((gi (gi d 0).row 13).str.toList == (⟨#[]⟩ : ByteArray).toList) then some [.t ((gi (gi d 0).row 14).int == 0)] else some [.t false])) else (bif ((gi (gi d 0).row 12).str.toList == (⟨#[]⟩ : ByteArray).toList) then (bif ((gi (gi d 0).row 3).int == 5) then some [.t true] else (bif ((gi (gi d 0).row 13).str.toList == (⟨#[]⟩ : ByteArray).toList) then some [.t ((gi (gi d 0).row 14).int == 0)] else some [.t false])) else some [.t false])) else some [.t false]))))
def s_net_idle : FSpec := ⟨156, [.s (.row KDeed)], [], [], [.s (.bool)], [], [], [], F_net_idle⟩
theorem b_net_idle : BodyOK P t34 nL0 Tryz.f156 s_net_idle := fun d => by kernel_rfl
theorem c_net_idle : COK P s_net_idle := bdC hm t34_ok Tryz.func156 (nLk _ _ _) b_net_idle
def t35 : Tab := t34.addP s_net_idle
theorem t35_ok : TabOK P t35 := t34_ok.aP c_net_idle

def F_net_formed (d : List G) : Option (List G) :=
 (callF (F_kit_IsKey [.s (gi (gi d 0).row 0).str]) fun g1 => (bif (!(gi g1 0).bool) then some [.i 5] else (callF (F_kit_Outside [.i (gi (gi d 0).row 1).int, .i 1, .i 1000000]) fun g2 => (bif (gi g2 0).bool then some [.i 1] else (callF (F_kit_IsMoment [.i (gi (gi d 0).row 2).int]) fun g3 => (bif (!(gi g3 0).bool) then some [.i 1] else (callF (F_kit_Outside [.i (gi (gi d 0).row 3).int, .i 1, .i 5]) fun g4 => (bif (gi g4 0).bool then some [.i 4] else (callF (F_net_usedFault [.l [(gEta KDeed (gi d 0).row)]]) fun g5 => (bif ((gi g5 0).int != 0) then some [.i (gi g5 0).int] else (callF (F_net_idle [.l [(gEta KDeed (gi d 0).row)]]) fun g6 => (bif (!(gi g6 0).bool) then some [.i 3] else some [.i 0]))))))))))))
def s_net_formed : FSpec := ⟨111, [.s (.row KDeed)], [], [], [.s (.int .i64)], [], [], [], F_net_formed⟩
theorem b_net_formed : BodyOK P t35 nL0 Tryz.f111 s_net_formed := fun d => by kernel_rfl
theorem c_net_formed : COK P s_net_formed := bdC hm t35_ok Tryz.func111 (nLk _ _ _) b_net_formed
def t36 : Tab := t35.addP s_net_formed
theorem t36_ok : TabOK P t36 := t35_ok.aP c_net_formed

def F_cmp_isNaN_int (d : List G) : Option (List G) :=
 some [.t ((gi d 0).int != (gi d 0).int)]
def s_cmp_isNaN_int : FSpec := ⟨166, [.s (.int .i64)], [], [], [.s (.bool)], [], [], [], F_cmp_isNaN_int⟩
theorem b_cmp_isNaN_int : BodyOK P t36 nL0 Tryz.f166 s_cmp_isNaN_int := fun d => by kernel_rfl
theorem c_cmp_isNaN_int : COK P s_cmp_isNaN_int := bdC hm t36_ok Tryz.func166 (nLk _ _ _) b_cmp_isNaN_int
def t37 : Tab := t36.addP s_cmp_isNaN_int
theorem t37_ok : TabOK P t37 := t36_ok.aP c_cmp_isNaN_int

def F_cmp_Compare_int (d : List G) : Option (List G) :=
 (callF (F_cmp_isNaN_int [.i (gi d 0).int]) fun g1 => (callF (F_cmp_isNaN_int [.i (gi d 1).int]) fun g2 => (bif (gi g1 0).bool then (bif (gi g2 0).bool then some [.i 0] else some [.i (-1)]) else (bif (gi g2 0).bool then some [.i 1] else (bif (ltI (gi d 0).int (gi d 1).int) then some [.i (-1)] else (bif (ltI (gi d 1).int (gi d 0).int) then some [.i 1] else some [.i 0]))))))
def s_cmp_Compare_int : FSpec := ⟨117, [.s (.int .i64), .s (.int .i64)], [], [], [.s (.int .i64)], [], [], [], F_cmp_Compare_int⟩
theorem b_cmp_Compare_int : BodyOK P t37 nL0 Tryz.f117 s_cmp_Compare_int := fun d => by kernel_rfl
theorem c_cmp_Compare_int : COK P s_cmp_Compare_int := bdC hm t37_ok Tryz.func117 (nLk _ _ _) b_cmp_Compare_int
def t38 : Tab := t37.addP s_cmp_Compare_int
theorem t38_ok : TabOK P t38 := t37_ok.aP c_cmp_Compare_int

def st_cmp_Or_int_3 (d : List G) : Option (Option Nat × List G) :=
 (bif (ltI (gi d 3).int (gi d 2).int) then (bif ((nnI (gi d 3).int) && (ltI (gi d 3).int (((gi d 1).rows.length : Nat) : Int))) then (bif ((gi ((gi d 1).rows.getD (((gi d 3).int).toNat) []) 0).int != (gi d 0).int) then some (some 0, [.i (gi ((gi d 1).rows.getD (((gi d 3).int).toNat) []) 0).int]) else (bif (inI ((gi d 3).int + 1)) then some (none, [.i (gi d 0).int, .l (gi d 1).rows, .i (gi d 2).int, .i ((gi d 3).int + 1)]) else none)) else none) else some (some 1, [.i (gi d 0).int]))
def l_cmp_Or_int_3 : LSpec := ⟨3, [], ⟨18, [(3, .s (.int .i64)), (6, .s (.list [.int .i64])), (7, .s (.int .i64)), (8, .s (.int .i64))], []⟩, [], [⟨.ret, ⟨18, [(2, .s (.int .i64))], []⟩, []⟩, ⟨.exit 0, ⟨18, [(3, .s (.int .i64))], []⟩, []⟩], st_cmp_Or_int_3⟩
theorem r_cmp_Or_int_3 : RoundOK P t38 nL0 0 (loopAt Tryz.f116 3) l_cmp_Or_int_3 := fun d => by kernel_rfl
def L_cmp_Or_int_3 : LT := nL0.add 0 l_cmp_Or_int_3
theorem L_cmp_Or_int_3_ok : LpK P 0 L_cmp_Or_int_3 (bodyOf Tryz.f116) := LpK.a hm t38_ok (nLk _ _ _) r_cmp_Or_int_3
def F_cmp_Or_int (d : List G) : Option (List G) :=
 (loopB true (LRun st_cmp_Or_int_3 [.i 0, .l (gi d 0).rows, .i (((gi d 0).rows.length : Nat) : Int), .i 0]) fun cg1 g1 => (bif Nat.beq cg1 0 then some [.i (gi g1 0).int] else some [.i (gi g1 0).int]))
def s_cmp_Or_int : FSpec := ⟨116, [.s (.list [.int .i64])], [], [], [.s (.int .i64)], [], [], [], F_cmp_Or_int⟩
theorem b_cmp_Or_int : BodyOK P t38 L_cmp_Or_int_3 Tryz.f116 s_cmp_Or_int := fun d => by kernel_rfl
theorem c_cmp_Or_int : COK P s_cmp_Or_int := bdC hm t38_ok Tryz.func116 L_cmp_Or_int_3_ok b_cmp_Or_int
def t39 : Tab := t38.addP s_cmp_Or_int
theorem t39_ok : TabOK P t39 := t38_ok.aP c_cmp_Or_int

def F_net_compare (d : List G) : Option (List G) :=
 (callF (F_cmp_Compare_int [.i (gi (gi d 0).row 2).int, .i (gi (gi d 1).row 2).int]) fun g1 => (callF (F_strings_Compare [.s (gi (gi d 0).row 0).str, .s (gi (gi d 1).row 0).str]) fun g2 => (callF (F_cmp_Compare_int [.i (gi (gi d 0).row 1).int, .i (gi (gi d 1).row 1).int]) fun g3 => (callF (F_cmp_Or_int [.l [[.i (gi g1 0).int], [.i (gi g2 0).int], [.i (gi g3 0).int]]]) fun g4 => some [.i (gi g4 0).int]))))
def s_net_compare : FSpec := ⟨112, [.s (.row KDeed), .s (.row KDeed)], [], [], [.s (.int .i64)], [], [], [], F_net_compare⟩
theorem b_net_compare : BodyOK P t39 nL0 Tryz.f112 s_net_compare := fun d => by kernel_rfl
theorem c_net_compare : COK P s_net_compare := bdC hm t39_ok Tryz.func112 (nLk _ _ _) b_net_compare
def t40 : Tab := t39.addP s_net_compare
theorem t40_ok : TabOK P t40 := t39_ok.aP c_net_compare

def st_net_CheckDeeds_4 (d : List G) : Option (Option Nat × List G) :=
 (bif (ltI (gi d 3).int (gi d 2).int) then (bif ((nnI (gi d 3).int) && (ltI (gi d 3).int (((gi d 1).rows.length : Nat) : Int))) then (callF (F_net_formed [.l [(gEta KDeed ((gi d 1).rows.getD (((gi d 3).int).toNat) []))]]) fun g1 => (bif ((gi g1 0).int != 0) then some (some 0, [.i (gi g1 0).int]) else (bif (ltI 0 (gi d 3).int) then (bif (inI ((gi d 3).int - 1)) then (bif ((nnI ((gi d 3).int - 1)) && (ltI ((gi d 3).int - 1) (((gi d 0).rows.length : Nat) : Int))) then (callF (F_net_compare [.l [(gEta KDeed ((gi d 0).rows.getD (((gi d 3).int - 1).toNat) []))], .l [(gEta KDeed ((gi d 1).rows.getD (((gi d 3).int).toNat) []))]]) fun g2 => (bif (leI 0 (gi g2 0).int) then some (some 0, [.i 7]) else (bif (inI ((gi d 3).int + 1)) then some (none, [.l (gi d 0).rows, .l (gi d 1).rows, .i (gi d 2).int, .i ((gi d 3).int + 1)]) else none))) else none) else none) else (bif (inI ((gi d 3).int + 1)) then some (none, [.l (gi d 0).rows, .l (gi d 1).rows, .i (gi d 2).int, .i ((gi d 3).int + 1)]) else none)))) else none) else some (some 1, [.l (gi d 0).rows]))
def l_net_CheckDeeds_4 : LSpec := ⟨4, [], ⟨56, [(0, .s (.list KDeed)), (13, .s (.list KDeed)), (14, .s (.int .i64)), (15, .s (.int .i64))], []⟩, [], [⟨.ret, ⟨56, [(2, .s (.int .i64))], []⟩, []⟩, ⟨.exit 0, ⟨56, [(0, .s (.list KDeed))], []⟩, []⟩], st_net_CheckDeeds_4⟩
theorem r_net_CheckDeeds_4 : RoundOK P t40 nL0 0 (loopAt Tryz.f87 4) l_net_CheckDeeds_4 := fun d => by kernel_rfl
def L_net_CheckDeeds_4 : LT := nL0.add 0 l_net_CheckDeeds_4
theorem L_net_CheckDeeds_4_ok : LpK P 0 L_net_CheckDeeds_4 (bodyOf Tryz.f87) := LpK.a hm t40_ok (nLk _ _ _) r_net_CheckDeeds_4
def st_net_CheckDeeds_14 (d : List G) : Option (Option Nat × List G) :=
 (bif (ltI (gi d 4).int (gi d 3).int) then (bif ((nnI (gi d 4).int) && (ltI (gi d 4).int (((gi d 2).rows.length : Nat) : Int))) then (bif (gi (mget [.str, .int .i64] (gi d 0).rows (gEta [.str, .int .i64] ((gi d 2).rows.getD (((gi d 4).int).toNat) [])) [.t false]) 0).bool then some (some 0, [.i 6]) else (bif (inI ((gi d 4).int + 1)) then some (none, [.l (mput [.str, .int .i64] (gi d 0).rows (gEta [.str, .int .i64] ((gi d 2).rows.getD (((gi d 4).int).toNat) [])) [.t true] (gi d 1).int.toNat), .i (((mclk [.str, .int .i64] (gi d 0).rows (gEta [.str, .int .i64] ((gi d 2).rows.getD (((gi d 4).int).toNat) [])) (gi d 1).int.toNat) : Nat) : Int), .l (gi d 2).rows, .i (gi d 3).int, .i ((gi d 4).int + 1)]) else none)) else none) else some (some 1, []))
def l_net_CheckDeeds_14 : LSpec := ⟨14, [], ⟨56, [(6, .s (.map 0)), (39, .s (.list KDeed)), (40, .s (.int .i64)), (41, .s (.int .i64))], [.map (.agg [.str, .int .i64]) (.one (.bool))]⟩, [.slot 6], [⟨.ret, ⟨56, [(2, .s (.int .i64))], []⟩, []⟩, ⟨.exit 2, ⟨56, [], []⟩, []⟩], st_net_CheckDeeds_14⟩
theorem r_net_CheckDeeds_14 : RoundOK P t40 L_net_CheckDeeds_4 0 (loopAt Tryz.f87 14) l_net_CheckDeeds_14 := fun d => by kernel_rfl
def L_net_CheckDeeds_14 : LT := L_net_CheckDeeds_4.add 0 l_net_CheckDeeds_14
theorem L_net_CheckDeeds_14_ok : LpK P 0 L_net_CheckDeeds_14 (bodyOf Tryz.f87) := LpK.a hm t40_ok L_net_CheckDeeds_4_ok r_net_CheckDeeds_14
def F_net_CheckDeeds (d : List G) : Option (List G) :=
 (bif (ltI 2000 (((gi d 0).rows.length : Nat) : Int)) then some [.i 2] else (loopB true (LRun st_net_CheckDeeds_4 [.l (gi d 0).rows, .l (gi d 0).rows, .i (((gi d 0).rows.length : Nat) : Int), .i 0]) fun cg3 g3 => (bif Nat.beq cg3 0 then some [.i (gi g3 0).int] else (loopB true (LRun st_net_CheckDeeds_14 [.l [], .i 0, .l (gi g3 0).rows, .i (((gi g3 0).rows.length : Nat) : Int), .i 0]) fun cg4 g4 => (bif Nat.beq cg4 0 then some [.i (gi g4 0).int] else some [.i 0])))))
def s_net_CheckDeeds : FSpec := ⟨87, [.s (.list KDeed)], [], [], [.s (.int .i64)], [], [], [], F_net_CheckDeeds⟩
theorem b_net_CheckDeeds : BodyOK P t40 L_net_CheckDeeds_14 Tryz.f87 s_net_CheckDeeds := fun d => by kernel_rfl
theorem c_net_CheckDeeds : COK P s_net_CheckDeeds := bdC hm t40_ok Tryz.func87 L_net_CheckDeeds_14_ok b_net_CheckDeeds
def t41 : Tab := t40.addP s_net_CheckDeeds
theorem t41_ok : TabOK P t41 := t40_ok.aP c_net_CheckDeeds

def F_net_askedFault (d : List G) : Option (List G) :=
 (callF (F_net_CheckDeeds [.l (gi d 0).rows]) fun g1 => (bif ((gi g1 0).int != 0) then some [.i (gi g1 0).int] else (callF (F_kit_IsMoment [.i (gi d 1).int]) fun g2 => (bif (!(gi g2 0).bool) then some [.i 1] else some [.i 0]))))
def s_net_askedFault : FSpec := ⟨60, [.s (.list KDeed), .s (.int .i64)], [], [], [.s (.int .i64)], [], [], [], F_net_askedFault⟩
theorem b_net_askedFault : BodyOK P t41 nL0 Tryz.f60 s_net_askedFault := fun d => by kernel_rfl
theorem c_net_askedFault : COK P s_net_askedFault := bdC hm t41_ok Tryz.func60 (nLk _ _ _) b_net_askedFault
def t42 : Tab := t41.addP s_net_askedFault
theorem t42_ok : TabOK P t42 := t41_ok.aP c_net_askedFault

def t43 : Tab := t42.inlineW P 113 Tryz.f113
theorem t43_ok : TabOK P t43 := t42_ok.inlineW hm Tryz.func113 (by kernel_rfl) (by kernel_rfl)

theorem bwf_157 : BwFact P ⟨157, 26, 34, 15, 15, true⟩ := bwFact_of Tryz.func157 (by kernel_rfl) rfl rfl rfl ⟨⟨_, _, _, _, _, _, rfl, ⟨rfl, rfl, rfl⟩, ⟨rfl, rfl, rfl⟩, ⟨rfl, rfl, rfl⟩, ⟨rfl, rfl, rfl⟩⟩, ⟨_, _, _, _, rfl, ⟨rfl, rfl, rfl⟩, ⟨rfl, rfl, rfl⟩⟩, ⟨_, _, _, _, _, rfl, ⟨rfl, rfl, rfl⟩, ⟨rfl, rfl, rfl⟩, ⟨rfl, rfl, rfl⟩⟩, ⟨_, _, _, _, _, _, _, _, _, _, rfl, ⟨rfl, rfl, rfl⟩, ⟨rfl, rfl, rfl⟩, ⟨rfl, rfl, rfl⟩, ⟨rfl, rfl, rfl⟩, ⟨rfl, rfl, rfl⟩, ⟨rfl, rfl, rfl⟩, ⟨rfl, rfl, rfl⟩, ⟨rfl, rfl, rfl⟩⟩⟩ (by kernel_rfl)
def br_net_counting_3 (i : Int) (r d : List G) : Option (List G) :=
 (bif (ltI (gi d 0).int (gi r 2).int) then (bif ((((Nat.beq (gi d 3).rows.length (gi d 3).rows.length) && true) && true) && true) then some [.i (gi d 0).int, .l (gi d 1).rows, .i (((gi d 2).int.toNat : Nat) : Int), .l (gi d 3).rows] else none) else (bif (gi (mget [.str, .int .i64] (gi d 1).rows (gEta [.str, .int .i64] r) [.t false]) 0).bool then (bif ((((Nat.beq (gi d 3).rows.length (gi d 3).rows.length) && true) && true) && true) then some [.i (gi d 0).int, .l (gi d 1).rows, .i (((gi d 2).int.toNat : Nat) : Int), .l (gi d 3).rows] else none) else (bif ((Nat.beq (gi d 3).rows.length (gi d 3).rows.length) && (decide (((gi d 3).rows.length + 1) ≤ 1048576))) then (bif ((gi r 3).int == 5) then (bif ((((Nat.beq ((gi d 3).rows ++ ([[.i i]] : List (List G))).length ((gi d 3).rows ++ ([[.i i]] : List (List G))).length) && true) && true) && true) then some [.i (gi d 0).int, .l (mput [.str, .int .i64] (gi d 1).rows [.s (gi r 13).str, .i (gi r 14).int] [.t true] (gi d 2).int.toNat), .i (((mclk [.str, .int .i64] (gi d 1).rows [.s (gi r 13).str, .i (gi r 14).int] (gi d 2).int.toNat) : Nat) : Int), .l ((gi d 3).rows ++ ([[.i i]] : List (List G)))] else none) else (bif ((((Nat.beq ((gi d 3).rows ++ ([[.i i]] : List (List G))).length ((gi d 3).rows ++ ([[.i i]] : List (List G))).length) && true) && true) && true) then some [.i (gi d 0).int, .l (gi d 1).rows, .i (((gi d 2).int.toNat : Nat) : Int), .l ((gi d 3).rows ++ ([[.i i]] : List (List G)))] else none)) else none)))
def bi_net_counting_3 (d : List G) : List G := [.i (gi d 0).int, .l (gi d 1).rows, .i (((gi d 2).int.toNat : Nat) : Int), .l []]
def bd_net_counting_3 (d : List G) : Bool := true
def bs_net_counting_3 : BSpec := ⟨⟨43, [(3, .s (.ptr 0 0)), (5, .s (.ptr 1 0)), (6, .s (.ptr 3 0))], [.box [.int .i64], .box [.map 2], .map (.agg [.str, .int .i64]) (.one (.bool)), .box [.vec 4 1], .vec [.int .i64] 1]⟩, [.slot 3, .slot 5, .cell 1 0, .slot 6, .cell 3 0], [], KDeed, true, 15, 5, 12, 13, bi_net_counting_3, bd_net_counting_3, br_net_counting_3⟩
theorem w_net_counting_3 : BRound P t43 (nL0.hinted [(2, [.openCell 6 0 [.int .i64]]), (3, [.openCell 6 0 [.int .i64]])]) bs_net_counting_3 (kAs (cutAt Tryz.f88 3)) (kBd (cutAt Tryz.f88 3)) := fun i r d => by kernel_rfl
def tr_net_counting_3 (d : List G) : Option (Option Nat × List G) :=
 (callB (((Nat.beq (gi d 3).rows.length (gi d 3).rows.length) && true) && (F_sl_Reverse_int [.l (gi d 3).rows]).isSome) (F_sl_Reverse_int [.l (gi d 3).rows]) fun g1 => (bif ((Nat.beq (gi d 3).rows.length (gi g1 0).rows.length) && true) then some (some 0, [.l (gi g1 0).rows]) else none))
def l_net_counting_3r : LSpec := ⟨10, [], ⟨43, [(3, .s (.ptr 0 0)), (5, .s (.ptr 1 0)), (6, .s (.ptr 3 0))], [.box [.int .i64], .box [.map 2], .map (.agg [.str, .int .i64]) (.one (.bool)), .box [.vec 4 1], .vec [.int .i64] 1]⟩, [], [⟨.ret, ⟨43, [(4, .s (.vec 0 1))], [.vec [.int .i64] 0]⟩, [.slot 4]⟩], tr_net_counting_3⟩
theorem v_net_counting_3 : CutOK P t43 (nL0.hinted [(2, [.openCell 6 0 [.int .i64]]), (3, [.openCell 6 0 [.int .i64]])]) 0 (rRest (cutAt Tryz.f88 3)) l_net_counting_3r := fun d => by kernel_rfl
def tl_net_counting_3 (d : List G) : Option (Option Nat × List G) :=
 backR bs_net_counting_3 tr_net_counting_3 ((gi d 3).rows) d
def l_net_counting_3c : LSpec := ⟨3, [], ⟨43, [(0, .s (.list KDeed)), (3, .s (.ptr 0 0)), (5, .s (.ptr 1 0)), (6, .s (.ptr 3 0))], [.box [.int .i64], .box [.map 2], .map (.agg [.str, .int .i64]) (.one (.bool)), .box [.nil]]⟩, [.slot 3, .slot 5, .cell 1 0, .slot 6], [⟨.ret, ⟨43, [(4, .s (.vec 0 1))], [.vec [.int .i64] 0]⟩, [.slot 4]⟩], tl_net_counting_3⟩
def L_net_counting_3c : LT := (nL0.hinted [(2, [.openCell 6 0 [.int .i64]]), (3, [.openCell 6 0 [.int .i64]])]).addCut 0 l_net_counting_3c
theorem L_net_counting_3c_ok : LpK P 0 L_net_counting_3c (bodyOf Tryz.f88) := LpK.addBack (i := ⟨157, 26, 34, 15, 15, true⟩) (q := l_net_counting_3c) (qr := l_net_counting_3r) (sp := bs_net_counting_3) (b := 0) (g := 11) (wd := 0) (L0 := (nL0.hinted [(2, [.openCell 6 0 [.int .i64]]), (3, [.openCell 6 0 [.int .i64]])])) (rows := fun d => (gi d 3).rows) (pre := fun d => preB P t43 (nL0.hinted [(2, [.openCell 6 0 [.int .i64]]), (3, [.openCell 6 0 [.int .i64]])]) (cutAt Tryz.f88 3) (mkSt l_net_counting_3c.inv d)) hm t43_ok bwf_157 (by kernel_rfl) (hinted_ok _) (fun _ _ => hinted_ok _) (by kernel_rfl) w_net_counting_3 (by kernel_rfl) (by kernel_rfl) (fun d => by kernel_rfl) (fun d => by kernel_rfl) (fun d => by kernel_rfl) (fun d => by kernel_rfl) (fun d => by kernel_rfl) rfl rfl v_net_counting_3 (fun d => rfl)
def F_net_counting (d : List G) : Option (List G) :=
 (loopB true (cutR (tl_net_counting_3 [.i (gi d 1).int, .l [], .i 0, .l (gi d 0).rows])) fun cg2 g2 => (bif ((Nat.beq (gi g2 0).rows.length (gi g2 0).rows.length) && true) then some [.l (gi g2 0).rows] else none))
def s_net_counting : FSpec := ⟨88, [.s (.list KDeed), .s (.int .i64)], [], [], [.s (.list [.int .i64])], [], [], [], F_net_counting⟩
theorem b_net_counting : BodyOK P t43 L_net_counting_3c Tryz.f88 s_net_counting := fun d => by kernel_rfl
theorem c_net_counting : COK P s_net_counting := bdC hm t43_ok Tryz.func88 L_net_counting_3c_ok b_net_counting
def t44 : Tab := t43.addP s_net_counting
theorem t44_ok : TabOK P t44 := t43_ok.aP c_net_counting

def F_net_key (d : List G) : Option (List G) :=
 some [.l [[.i (gi (gi d 0).row 0).int, .i (gi (gi d 0).row 1).int, .s (gi (gi d 0).row 2).str, .s (gi (gi d 0).row 3).str, .i 0, .i 0, .s (⟨#[]⟩ : ByteArray), .s (⟨#[]⟩ : ByteArray)]]]
def s_net_key : FSpec := ⟨89, [.s (.row KCt)], [], [], [.s (.row KCt)], [], [], [], F_net_key⟩
theorem b_net_key : BodyOK P t44 nL0 Tryz.f89 s_net_key := fun d => by kernel_rfl
theorem c_net_key : COK P s_net_key := bdC hm t44_ok Tryz.func89 (nLk _ _ _) b_net_key
def t45 : Tab := t44.addP s_net_key
theorem t45_ok : TabOK P t45 := t44_ok.aP c_net_key

def F_log_Compare (d : List G) : Option (List G) :=
 (callF (F_cmp_Compare_int [.i (gi (gi d 0).row 0).int, .i (gi (gi d 1).row 0).int]) fun g1 => (callF (F_strings_Compare [.s (gi (gi d 0).row 3).str, .s (gi (gi d 1).row 3).str]) fun g2 => (callF (F_strings_Compare [.s (gi (gi d 0).row 2).str, .s (gi (gi d 1).row 2).str]) fun g3 => (callF (F_cmp_Compare_int [.i (gi (gi d 0).row 1).int, .i (gi (gi d 1).row 1).int]) fun g4 => (callF (F_cmp_Or_int [.l [[.i (gi g1 0).int], [.i (gi g2 0).int], [.i (gi g3 0).int], [.i (gi g4 0).int]]]) fun g5 => some [.i (gi g5 0).int])))))
def s_log_Compare : FSpec := ⟨91, [.s (.row KCt), .s (.row KCt)], [], [], [.s (.int .i64)], [], [], [], F_log_Compare⟩
theorem b_log_Compare : BodyOK P t45 nL0 Tryz.f91 s_log_Compare := fun d => by kernel_rfl
theorem c_log_Compare : COK P s_log_Compare := bdC hm t45_ok Tryz.func91 (nLk _ _ _) b_log_Compare
def t46 : Tab := t45.addP s_log_Compare
theorem t46_ok : TabOK P t46 := t45_ok.aP c_log_Compare

def F_sl_SortFunc_Contact (d : List G) : Option (List G) :=
 sortG F_log_Compare d
def s_sl_SortFunc_Contact : FSpec := ⟨90, [.s (.vec 0 8), .s (.fn 91)], [.vec KCt 0], [.slot 0], [], [.vec KCt 0], [.fix 0], [], F_sl_SortFunc_Contact⟩
theorem c_sl_SortFunc_Contact : ∀ d r, F_sl_SortFunc_Contact d = some r → ACallX P 90 (s_sl_SortFunc_Contact.args0 d) (denH (s_sl_SortFunc_Contact.H0 d)) (s_sl_SortFunc_Contact.out r) (denH (s_sl_SortFunc_Contact.H1 r)) := fun d r h => sortK_call Tryz.laysSort90 KCt (by kernel_rfl) Tryz.isAgg31 Tryz.sizeOf31 91 (by kernel_rfl) F_log_Compare (fun d r h => c_log_Compare d r h) d r h
def t47 : Tab := t46.addW s_sl_SortFunc_Contact
theorem t47_ok : TabOK P t47 := t46_ok.aW c_sl_SortFunc_Contact

end
end Go.Proofs.SYtdhpplgohigbdaaGreatDoor
